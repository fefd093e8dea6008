/- Maps from keys made of numbers to numbers, as typed lists; what the printed proofs rewrite with. No condition. -/
import Derived.Test.YteohodhcegbmmaaKz
set_option linter.unusedSimpArgs false
set_option linter.unusedVariables false
namespace Go.Proofs.Yteohodhcegbmmaa
open Go.RowKit

/-- A map of numbers. -/
abbrev NMap := List (List Int × Int)
def mE (m : NMap) : List (List Int × C) := m.map fun p => (p.1, .int .i64 p.2)
def mIdxI (m : NMap) (k : List Int) : Nat := m.findIdx fun p => decide (p.1 = k)
def mGetI (m : NMap) (k : List Int) : Int := ((m[mIdxI m k]?).map (·.2)).getD 0
def mSetI (m : NMap) (i : Nat) (v : Int) : NMap := m.modify i fun p => (p.1, v)
def mPutI (m : NMap) (k : List Int) (v : Int) : NMap := if mIdxI m k < m.length then mSetI m (mIdxI m k) v else m ++ [(k, v)]
def mTouchI (m : NMap) (k : List Int) : NMap := if mIdxI m k < m.length then m else m ++ [(k, 0)]
theorem e_mE0 : ([] : List (List Int × C)) = mE [] := rfl
theorem e_mlen (m : NMap) : (mE m).length = m.length := by simp [mE]
theorem e_mIdx (m : NMap) (k : List Int) : mIdx (mE m) k = mIdxI m k := by
  unfold mIdx mIdxI mE
  rw [List.findIdx_map]
  rfl
theorem e_mGet (m : NMap) (k : List Int) : mGet (mE m) k = ((m[mIdxI m k]?).map (·.2)).map (C.int .i64) := by
  unfold mGet
  rw [e_mIdx]
  simp only [mE, List.getElem?_map, Option.map_map]
  rfl
theorem e_found (o : Option Int) : foundC (.int .i64 0) (o.map (C.int .i64)) = .d (.int .i64 (o.getD 0)) := by
  cases o <;> rfl
theorem e_getC (o : Option Int) : (o.map (C.int .i64)).getD (.int .i64 0) = .int .i64 (o.getD 0) := by
  cases o <;> rfl
theorem e_mGetI (m : NMap) (k : List Int) : ((m[mIdxI m k]?).map (·.2)).getD 0 = mGetI m k := rfl
theorem e_mSet (m : NMap) (i : Nat) (v : Int) : mSet (mE m) i (.int .i64 v) = mE (mSetI m i v) := by
  unfold mSet mSetI mE
  apply List.ext_getElem?
  intro j
  simp only [List.getElem?_modify, List.getElem?_map]
  by_cases h : i = j
  · subst h
    cases m[i]? <;> simp
  · cases m[j]? <;> simp [h]
theorem e_mPut (m : NMap) (k : List Int) (v : Int) : mPut (mE m) k (.int .i64 v) = mE (mPutI m k v) := by
  unfold mPut mPutI
  rw [e_mIdx, e_mlen, e_mSet]
  split
  · rfl
  · simp [mE]
theorem e_mTouch (m : NMap) (k : List Int) : mTouch (mE m) k (.int .i64 0) = mE (mTouchI m k) := by
  unfold mTouch mTouchI
  rw [e_mIdx, e_mlen]
  split
  · rfl
  · simp [mE]
theorem e_touched (m : NMap) (k : List Int) : (mIdxI m k < (mTouchI m k).length) = True := by
  unfold mTouchI
  split
  · rename_i h
    exact eq_true h
  · have : mIdxI m k ≤ m.length := List.findIdx_le_length
    simp only [List.length_append, List.length_singleton, eq_iff_iff, iff_true]
    omega
theorem e_setTouch (m : NMap) (k : List Int) (v : Int) : mSetI (mTouchI m k) (mIdxI m k) v = mPutI m k v := by
  unfold mTouchI mPutI
  split
  · rfl
  · rename_i h
    have h1 : mIdxI m k = m.length := Nat.le_antisymm List.findIdx_le_length (by omega)
    unfold mSetI
    rw [h1]
    apply List.ext_getElem?
    intro j
    rw [List.getElem?_modify]
    by_cases hj : m.length = j
    · subst hj
      simp
    · by_cases h2 : j < m.length
      · rw [List.getElem?_append_left h2, List.getElem?_append_left h2]
        simp [hj]
      · rw [List.getElem?_eq_none (by simp; omega), List.getElem?_eq_none (by simp; omega)]
        rfl
theorem e_i64s0 : i64s [] = some [] := rfl
theorem e_i64s1 (n : Int) (r : List Cell) : i64s (.d (.int .i64 n) :: r) = (i64s r).map (n :: ·) := rfl
theorem e_hint0 : hintOk none = true := rfl
theorem e_hint1 (k : IntKind) (n : Int) : hintOk (some (.one (.d (.int k n)))) = true := rfl
theorem e_zeroC (k : IntKind) (n : Int) : zeroC (.int k n) = some (.int k n) := rfl
theorem e_mapAt (m : Nm → Option AObj) (i : Nm) : mapAt m (.one (.mp i)) = match m i with
    | some (.map kt et ag n l) => some (i, kt, et, ag, n, l)
    | _ => none := rfl
theorem e_oid3 (kt et : TypeId) (ag : Bool) (n : Nat) (l : List (List Int × C)) : (AObj.map kt et ag n l).ids = [] := rfl
theorem e_key1 (n : Nat) (l : List Cell) : keyAV true n (.agg l) = match i64s l with
    | some k => if k.length = n then some k else none
    | none => none := rfl
theorem e_key0 (n : Nat) (k : Int) : keyAV false n (.one (.d (.int .i64 k))) = if n = 1 then some [k] else none := rfl
theorem e_ren3 (σ : Nm → Nm) (kt et : TypeId) (ag : Bool) (n : Nat) (l : List (List Int × C)) : (AObj.map kt et ag n l).ren σ = .map kt et ag n l := rfl
theorem EM : type_of% (And.intro (And.intro (And.intro @e_mlen (And.intro @e_mIdx @e_mGet)) (And.intro (And.intro @e_found @e_getC) (And.intro @e_mGetI @e_mSet))) (And.intro (And.intro (And.intro @e_mPut @e_mTouch) (And.intro @e_touched @e_setTouch)) (And.intro (And.intro (And.intro @e_i64s0 @e_i64s1) (And.intro @e_hint0 @e_hint1)) (And.intro (And.intro (And.intro @e_zeroC @e_mapAt) (And.intro @e_oid3 (And.intro @e_key1 @e_key0))) (And.intro (And.intro @stMakeMap.eq_def @stLookup.eq_def) (And.intro (And.intro @stMapPut.eq_def @stMapEntry.eq_def) @stEntryStore.eq_def)))))) :=
  (And.intro (And.intro (And.intro @e_mlen (And.intro @e_mIdx @e_mGet)) (And.intro (And.intro @e_found @e_getC) (And.intro @e_mGetI @e_mSet))) (And.intro (And.intro (And.intro @e_mPut @e_mTouch) (And.intro @e_touched @e_setTouch)) (And.intro (And.intro (And.intro @e_i64s0 @e_i64s1) (And.intro @e_hint0 @e_hint1)) (And.intro (And.intro (And.intro @e_zeroC @e_mapAt) (And.intro @e_oid3 (And.intro @e_key1 @e_key0))) (And.intro (And.intro @stMakeMap.eq_def @stLookup.eq_def) (And.intro (And.intro @stMapPut.eq_def @stMapEntry.eq_def) @stEntryStore.eq_def))))))
end Go.Proofs.Yteohodhcegbmmaa
