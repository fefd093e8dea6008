/- Slice literals, make, parts of slices, copy, clear. No condition. -/
import Derived.Test.YteohodhcegbmmaaKh
import Derived.Laws.Slices
set_option linter.unusedSimpArgs false
set_option linter.unusedVariables false
namespace Go.Proofs.Yteohodhcegbmmaa
open Go.RowKit

section
variable {P : Program} {w0 : Bas} {N : Nat} {ρ ρ' : Place} {φ : Foot} {f : Nat → AV} {m : Nm → Option AObj} {a : Act} {w w' : World} {o : Oper}

/-- Cells laid out as rows. -/
def chunk (sz : Nat) : Nat → List Cell → List (List Cell)
  | 0, _ => []
  | n + 1, l => l.take sz :: chunk sz n (l.drop sz)
theorem chunk_length {sz : Nat} : ∀ {n : Nat} {l : List Cell}, (chunk sz n l).length = n
  | 0, _ => rfl
  | n + 1, l => by simp [chunk, chunk_length]
theorem chunk_get {sz : Nat} : ∀ {n : Nat} {l : List Cell}, l.length = n * sz → ∀ (i : Nat) (r : List Cell), (chunk sz n l)[i]? = some r → r.length = sz ∧ ∀ (j : Nat) (d : Cell), r[j]? = some d → l[i * sz + j]? = some d
  | 0, l, _, i, r, h => by simp [chunk] at h
  | n + 1, l, hl, i, r, h => by
    rw [Nat.add_mul, Nat.one_mul] at hl
    cases i with
    | zero =>
      simp [chunk] at h
      subst h
      refine ⟨by rw [List.length_take]; omega, fun j d hj => ?_⟩
      rw [List.getElem?_take] at hj
      split at hj
      · simpa using hj
      · cases hj
    | succ i =>
      obtain ⟨h3, h4⟩ := chunk_get (sz := sz) (n := n) (l := l.drop sz) (by rw [List.length_drop]; omega) i r (by simpa [chunk] using h)
      refine ⟨h3, fun j d hj => ?_⟩
      have := h4 j d hj
      rw [List.getElem?_drop] at this
      rw [← this]
      congr 1
      rw [Nat.add_mul, Nat.one_mul]
      omega
theorem lay_sub {l cs : List Cell} {off : Nat} {c : Cell} (h : c ∈ lay l off cs) : c ∈ l ∨ c ∈ cs := by
  simp only [lay, List.mem_append] at h
  rcases h with (h | h) | h
  · exact .inl (List.mem_of_mem_take h)
  · exact .inr h
  · exact .inl (List.mem_of_mem_drop h)
theorem cells_ids {x : AV} {id : Nm} (h : id ∈ x.cells.flatMap Cell.ids) : id ∈ x.ids := by
  cases x with
  | one c => simpa [AV.cells, AV.ids] using h
  | agg l => exact h
  | tup l => simp [AV.cells] at h
theorem afill_ids {place : Nat → Option (Nat × Nat)} : ∀ {ps : List (Nat × AV)} {l l' : List Cell}, afill place l ps = some l' → ∀ id ∈ l'.flatMap Cell.ids, id ∈ l.flatMap Cell.ids ∨ id ∈ ps.flatMap fun p => p.2.ids
  | [], l, l', h, id, hid => by
    simp only [afill, Option.some.injEq] at h
    subst h
    exact .inl hid
  | (i, x) :: ps, l, l', h, id, hid => by
    simp only [afill] at h
    split at h
    · cases h
    · split at h
      · rcases afill_ids h id hid with h1 | h1
        · obtain ⟨c, hc, hi⟩ := List.mem_flatMap.1 h1
          rcases lay_sub hc with hc | hc
          · exact .inl (List.mem_flatMap.2 ⟨c, hc, hi⟩)
          · exact .inr (by
              simp only [List.flatMap_cons, List.mem_append]
              exact .inl (cells_ids (List.mem_flatMap.2 ⟨c, hc, hi⟩)))
        · exact .inr (by simp only [List.flatMap_cons, List.mem_append]; exact .inr h1)
      · cases h
theorem aeval_fresh {fr : Nm} (h : Fresh f m fr) (x : Operand) : fr ∉ (aeval N f x).ids := by
  cases x with
  | tmp t =>
    simp only [aeval]
    split
    · exact h.hf t
    · simp [AV.ids, Cell.ids]
  | const u => simp [aeval, AV.ids, ofVal_ids]
  | global g => simp [aeval, AV.ids, Cell.ids]
  | func g => simp [aeval, AV.ids, Cell.ids]
def zrep {α : Type} : Nat → List α → List α
  | 0, _ => []
  | n + 1, z => z ++ zrep n z
theorem zrep_length {α : Type} (z : List α) : ∀ n, (zrep n z).length = n * z.length
  | 0 => by simp [zrep]
  | n + 1 => by simp [zrep, zrep_length z n, Nat.add_mul]; omega
theorem zrep_get {α : Type} (z : List α) : ∀ (n k : Nat), k < n * z.length → (zrep n z)[k]? = z[k % z.length]?
  | 0, k, h => by simp at h
  | n + 1, k, h => by
    rw [Nat.add_mul, Nat.one_mul] at h
    simp only [zrep]
    by_cases hk : k < z.length
    · rw [List.getElem?_append_left hk, Nat.mod_eq_of_lt hk]
    · rw [List.getElem?_append_right (by omega), zrep_get z n _ (by omega), show k % z.length = (k - z.length) % z.length from Nat.mod_eq_sub_mod (by omega)]
theorem zrep_map {α β : Type} (g : α → β) (z : List α) : ∀ n, zrep n (z.map g) = (zrep n z).map g
  | 0 => rfl
  | n + 1 => by simp [zrep, zrep_map g z n]
theorem made_zrep (z : Array Value) (n : Nat) : ((Array.range (n * z.size)).map (z[· % z.size]!)) = (zrep n z.toList).toArray := by
  apply Array.ext'
  apply List.ext_getElem?
  intro k
  by_cases hk : k < n * z.size
  · have hpos : 0 < z.size := by
      rcases Nat.eq_zero_or_pos z.size with h0 | h0
      · rw [h0] at hk; simp at hk
      · exact h0
    have hmod : k % z.size < z.size := Nat.mod_lt _ hpos
    have h1 := zrep_get z.toList n k (by simpa using hk)
    simp only [Array.length_toList] at h1
    simp only [h1]
    simp [hk, hmod]
  · rw [List.getElem?_eq_none (by simp; omega), List.getElem?_eq_none (by simp [zrep_length]; omega)]

theorem zrep_ids {n : Nat} {zs : List Value} : (zrep n (zs.map ofVal)).flatMap Cell.ids = [] := by
  rw [zrep_map]
  refine List.flatMap_eq_nil_iff.2 fun c hc => ?_
  obtain ⟨v, _, rfl⟩ := List.mem_map.1 hc
  exact ofVal_ids v

theorem zero_of {e sz : Nat} {zs : List Value} {inf : TypeInfo} (hi : P.info? e = some inf) (hz : tZero P e = some zs) (hzl : zs.length = sz) : ∃ z, inf.zero = some z ∧ z.cells.toList = zs ∧ z.cells.size = sz := by
  unfold tZero at hz
  rw [hi] at hz
  simp only [Option.bind_some, Option.map_eq_some_iff] at hz
  obtain ⟨z, hz, hzs⟩ := hz
  exact ⟨z, hz, hzs, by rw [← hzl, ← hzs]; simp⟩
/-- A new row. -/
theorem or_new (S : Nat → Prop) (fr : Nm) (n sz e : Nat) (cur : Array Value) (l : List (List Cell)) (hb : n ≤ 140737488355328) (hl : l.length = n) (hcs : cur.size = n * sz)
    (hcell : ∀ (i : Nat) (r : List Cell), l[i]? = some r → r.length = sz ∧ ∀ (j : Nat) (d : Cell), r[j]? = some d → d.ntr = true ∧ ∃ v, cur[i * sz + j]? = some v ∧ CV (pset ρ fr (some (w.heap.size, 0, n))) S (w.alloc (.cells cur e)) d v ∧ v.oneCell' = true) :
    OR (pset ρ fr (some (w.heap.size, 0, n))) (fset φ fr (· = w.heap.size)) S (w.alloc (.cells cur e)) fr (.row e sz l) := by
  refine ⟨by omega, .inr ⟨w.heap.size, 0, n, if_pos rfl, cur, fun _ _ _ => False, (congrFun (if_pos rfl) _).mpr rfl, heap_alloc_new w _, by omega, by omega, fun i r hr => ⟨(hcell i r hr).1, fun j d hj => ?_⟩, fun _ _ _ h => h.elim, fun _ _ _ _ _ h => h.elim⟩⟩
  obtain ⟨hnt, v, hv, hcv, ho⟩ := (hcell i r hr).2 j d hj
  exact ⟨v, by rw [Nat.zero_add]; exact hv, ho, hcv, fun T c e => absurd e (ntr_ne hnt T c)⟩
theorem afill_ntr {place : Nat → Option (Nat × Nat)} : ∀ {ps : List (Nat × AV)} {l l' : List Cell}, afill place l ps = some l' → (∀ d ∈ l, d.ntr = true) → ∀ d ∈ l', d.ntr = true
  | [], l, l', h, h0 => by
    simp only [afill, Option.some.injEq] at h
    subst h
    exact h0
  | (i, x) :: ps, l, l', h, h0 => by
    simp only [afill] at h
    split at h
    · cases h
    · split at h
      · rename_i hok
        refine afill_ntr h fun d hd => ?_
        rcases lay_sub hd with hd | hd
        · exact h0 d hd
        · have := okCells_ntr hok.1 d hd
          cases d <;> first | rfl | exact absurd rfl (this _ _)
      · cases h
theorem ofVal_ntr (v : Value) : (ofVal v).ntr = true := by
  unfold ofVal
  split <;> rfl
/-- A slice literal: its cells are the rows of a new row. -/
theorem so_buildSlice (h : StR w0 N ρ φ f m a w) (t n : Nat) (fr : Nm) (e sz by_ : Nat) (ps : Array (Nat × Operand)) (zs : List Value) (l : List Cell) (ho : o.op = .buildSlice t n ps) (ht : tElt P t = some (e, sz, by_)) (hz : tZero P e = some zs) (hzl : zs.length = sz) (hn : n * sz ≤ 16777216) (hnb : n ≤ 16777216)
    (hk : (zs.map ofVal).all Cell.known = true) (hl : afill (fun i => some (i * sz, sz)) (zrep n (zs.map ofVal)) (partsAV (aeval N f) ps) = some l) (hfr : Fresh f m fr) (hlen : l.length = n * sz) :
    Does P w0 N f m o a w (.one (.own fr n)) [(fr, some (.row e sz (chunk sz n l)))] := by
  obtain ⟨hu, inf, hi, h1, h2⟩ := tElt_ok ht
  obtain ⟨z, hz, hzs, hzsz⟩ := zero_of hi hz hzl
  have hzc : CVs ρ (Sof w0 φ m w) w (zrep n (zs.map ofVal)) (zrep n zs) := ⟨by rw [zrep_length, zrep_length, List.length_map], fun i c v hc hv => by
    rw [zrep_map, List.getElem?_map] at hc
    rw [hv] at hc
    simp only [Option.map_some, Option.some.injEq] at hc
    subst hc
    refine ⟨ofVal_cv v, ofVal_one (List.all_eq_true.1 hk _ (List.mem_map.2 ⟨v, ?_, rfl⟩))⟩
    have hi : i < n * zs.length := by rw [← zrep_length]; exact (List.getElem?_eq_some_iff.1 hv).1
    rw [zrep_get _ _ _ hi] at hv
    exact List.mem_of_getElem? hv⟩
  obtain ⟨cur, hf, hcv⟩ := fill_ok (fun i => some (i * sz, sz)) (partsAV (aeval N f) ps) (ps.map fun (i, x) => (i, a.eval x)).toList _ l (zrep n zs) (by simp [partsAV]) (parts_rel h ps) hzc hl
  have hcsz : cur.size = n * sz := by rw [← Array.length_toList, hcv.1, hlen]
  have hids : fr ∉ l.flatMap Cell.ids := fun hid => by
    rcases afill_ids hl fr hid with h1 | h1
    · rw [zrep_ids] at h1; cases h1
    · obtain ⟨p, hp, hi⟩ := List.mem_flatMap.1 h1
      simp only [partsAV, List.mem_map] at hp
      obtain ⟨q, _, rfl⟩ := hp
      exact aeval_fresh hfr q.2 hi
  have hnt := afill_ntr hl fun d hd => by
    rw [zrep_map] at hd
    obtain ⟨v, _, rfl⟩ := List.mem_map.1 hd
    exact ofVal_ntr v
  have hnew := h.new fr n cur e (.row e sz (chunk sz n l)) hfr (or_new _ fr n sz e cur _ (by omega) chunk_length hcsz fun i r hr => ⟨(chunk_get hlen i r hr).1, fun j d hj => by
    have hc := (chunk_get hlen i r hr).2 j d hj
    have hlt : i * sz + j < cur.toList.length := by rw [hcv.1]; exact (List.getElem?_eq_some_iff.1 hc).1
    have hcu := List.getElem?_eq_getElem hlt
    obtain ⟨hv, ho⟩ := hcv.2 _ d _ hc hcu
    exact ⟨hnt d (List.mem_of_getElem? hc), _, by simp, CV.next hv (fun p hp => World.cell?_alloc_lt w _ p hp.1) (fun _ hb => hb) (fun id hid => if_neg fun (e : id = fr) => hids (e ▸ List.mem_flatMap.2 ⟨d, List.mem_of_getElem? hc, hid⟩)), ho⟩⟩)
  intro K Q hK
  have hfill : Instr.fill (fun i => some (i * sz, sz)) (zrep n zs).toArray (ps.toList.map fun x => (x.1, a.eval x.2)) = some cur := by simpa using hf
  refine wp_of_run (w := w) (v := .slice (some ⟨w.heap.size, 0, none⟩) n n) (w' := w.alloc (.cells cur e)) ?_ (hK _ _ ⟨_, _, hnew.put o.dst (x := .one (.own fr n)) (v := .slice (some ⟨w.heap.size, 0, none⟩) n n) (.inl ⟨w.heap.size, 0, n, if_pos rfl, rfl⟩)⟩)
  have hgt : ¬ n * sz > 2 ^ 24 := by omega
  simp only [execOp, ho, Instr.buildSlice, Sem.run_bind, run_underlying hu, Result.andThen_ok, sizeOf, typeInfo]
  simp only [run_program, Result.andThen_ok, hi, Sem.run_pure, h1, hgt, if_false]
  by_cases h0 : n * sz = 0
  · have e0 : (zrep n zs) = [] := List.eq_nil_of_length_eq_zero (by rw [zrep_length, hzl]; exact h0)
    rw [e0] at hfill
    have e1 : (Array.map (fun x => (default : Value)) (Array.range 0)) = (([] : List Value)).toArray := by simp
    simp [h0]
    rw [e1, hfill]
    simp [newRow, newObj, Sem.run]
  · have hm := made_zrep z.cells n
    rw [hzsz, hzs] at hm
    simp [h0, zeroValue, typeInfo, hi, hz, hm, hzsz]
    rw [hfill]
    simp [newRow, newObj, Sem.run]
theorem rep_cells {n sz : Nat} {zs : List Value} (hzl : zs.length = sz) (hkn : (zs.map ofVal).all Cell.known = true) (i : Nat) (r : List Cell) (hi : (List.replicate n (zs.map ofVal))[i]? = some r) :
    r.length = sz ∧ ∀ (j : Nat) (d : Cell), r[j]? = some d → d.ntr = true ∧ ∃ v, (zrep n zs)[i * sz + j]? = some v ∧ (∀ ρ S w, CV ρ S w d v) ∧ v.oneCell' = true := by
  rw [List.getElem?_replicate] at hi
  split at hi
  · rename_i hin
    injection hi with hi'
    subst hi'
    refine ⟨by simp [hzl], fun j d hj => ?_⟩
    rw [List.getElem?_map] at hj
    obtain ⟨z0, hz0, rfl⟩ := Option.map_eq_some_iff.1 hj
    have hjl : j < sz := by rw [← hzl]; exact (List.getElem?_eq_some_iff.1 hz0).1
    have hlt : i * sz + j < n * sz := by
      have : (i + 1) * sz ≤ n * sz := Nat.mul_le_mul_right _ hin
      rw [Nat.add_mul, Nat.one_mul] at this
      omega
    refine ⟨ofVal_ntr z0, z0, ?_, fun _ _ _ => ofVal_cv _, ofVal_one (List.all_eq_true.1 hkn _ (List.mem_map.2 ⟨z0, List.mem_of_getElem? hz0, rfl⟩))⟩
    have := zrep_get zs n (i * sz + j) (by rw [hzl]; exact hlt)
    rw [hzl, Nat.mul_comm, Nat.mul_add_mod, Nat.mod_eq_of_lt hjl, hz0] at this
    rw [Nat.mul_comm]
    exact this
  · cases hi
/-- make([]T, n), n elements of zero. -/
theorem so_makeSlice (h : StR w0 N ρ φ f m a w) (t : Nat) (fr : Nm) (e sz by_ : Nat) (x y : Operand) (k k' : IntKind) (n : Nat) (zs : List Value) (ho : o.op = .makeSlice t x y) (ht : tElt P t = some (e, sz, by_)) (hz : tZero P e = some zs) (hzl : zs.length = sz) (hx : aeval N f x = .one (.d (.int k n))) (hy : aeval N f y = .one (.d (.int k' n)))
    (hkn : (zs.map ofVal).all Cell.known = true) (hb : by_ * n ≤ 140737488355328) (hnb : n ≤ 140737488355328) (hfr : Fresh f m fr) :
    Does P w0 N f m o a w (.one (.own fr n)) [(fr, some (.row e sz (List.replicate n (zs.map ofVal))))] := by
  obtain ⟨hu, inf, hi, h1, h2⟩ := tElt_ok ht
  obtain ⟨z, hz, hzs, hzsz⟩ := zero_of hi hz hzl
  have hrun := run_make (P := P) w t e inf z hu hi hz k k' n n (by omega) (Int.le_refl _) (by
    have h : ((inf.bytes * n : Nat) : Int) ≤ 281474976710656 := by rw [h2]; omega
    rwa [Int.natCast_mul] at h) (by omega)
  simp only [Int.toNat_natCast] at hrun
  have hmade : madeCells z.cells (n * inf.size) = (zrep n zs).toArray := by
    have := made_zrep z.cells n
    rw [hzs] at this
    rw [h1, ← hzsz]
    exact this
  rw [hmade] at hrun
  have hnew := h.new fr n (zrep n zs).toArray e _ hfr (or_new _ fr n sz e (zrep n zs).toArray (List.replicate n (zs.map ofVal)) hnb (by simp) (by simp [zrep_length, hzl]) fun i r hi => ⟨(rep_cells hzl hkn i r hi).1, fun j d hj => by
    obtain ⟨h3, v, h4, h5, h6⟩ := (rep_cells hzl hkn i r hi).2 j d hj
    exact ⟨h3, v, by rw [List.getElem?_toArray]; exact h4, h5 _ _ _, h6⟩⟩)
  intro K Q hK
  exact wp_of_run (w := w) (v := .slice (some ⟨w.heap.size, 0, none⟩) n n) (w' := w.alloc (.cells (zrep n zs).toArray e))
    (by simp only [execOp, ho, av_int h hx, av_int h hy, Sem.run_bind, hrun]; rfl) (hK _ _ ⟨_, _, hnew.put o.dst (x := .one (.own fr n)) (v := .slice (some ⟨w.heap.size, 0, none⟩) n n) (.inl ⟨w.heap.size, 0, n, if_pos rfl, rfl⟩)⟩)

/-- A part of a slice. -/
def partOf (m : Nm → Option AObj) (sz : Nat) (c : Cell) (lo : Int) (hi : Option Int) : Option Cell :=
  match c with
  | .d (.sl l) => if (∀ r ∈ l, r.length = sz) ∧ 0 ≤ lo then match hi with
    | none => if lo ≤ l.length then some (.d (.sl (l.drop lo.toNat))) else none
    | some h => if lo ≤ h ∧ h ≤ l.length then some (.d (.sl ((l.take h.toNat).drop lo.toNat))) else none
    else none
  | .nil => if lo = 0 ∧ (hi = none ∨ hi = some 0) then some .nil else none
  | .own id n => match rowsOf m c with
    | some _ => match hi with
      | none => if 0 ≤ lo ∧ lo ≤ n then some (.sub id sz lo.toNat (n - lo.toNat)) else none
      | some h => if lo = 0 then (if 0 ≤ h ∧ h ≤ n then some (.own id h.toNat) else none) else if 0 ≤ lo ∧ lo ≤ h ∧ h ≤ n then some (.sub id sz lo.toNat (h.toNat - lo.toNat)) else none
    | none => none
  | .sub id sz' off n => match rowsOf m c with
    | some _ => if sz' = sz then match hi with
      | none => if 0 ≤ lo ∧ lo ≤ n then some (.sub id sz (off + lo.toNat) (n - lo.toNat)) else none
      | some h => if 0 ≤ lo ∧ lo ≤ h ∧ h ≤ n then some (.sub id sz (off + lo.toNat) (h.toNat - lo.toNat)) else none
      else none
    | none => none
  | _ => none
def hiV (n : Nat) : Option Int → Int
  | none => n
  | some h => h
theorem view_part {S : Nat → Prop} {l : List (List C)} {sz : Nat} {v : Value} (hv : View S w (.sl l) v) (hsz : ∀ r ∈ l, r.length = sz) (lo h : Nat) (h1 : lo ≤ h) (h2 : h ≤ l.length) : ∃ A cap, v = .slice A l.length cap ∧ l.length ≤ cap ∧ View S w (.sl ((l.take h).drop lo)) (sliced A lo h cap sz) := by
  cases hv with
  | sl _ sz' A cap u hsz' hc hb hA hu =>
  refine ⟨A, cap, rfl, hc, ?_⟩
  have hlen : ((l.take h).drop lo).length = h - lo := by rw [List.length_drop, List.length_take]; omega
  have hget : ∀ (i : Nat) (r : List C), ((l.take h).drop lo)[i]? = some r → l[lo + i]? = some r := fun i r hi => by
    rw [List.getElem?_drop, List.getElem?_take] at hi
    split at hi
    · exact hi
    · cases hi
  unfold sliced
  rw [← hlen]
  refine .sl _ sz _ _ (fun i j => u (lo + i) j) (fun i r hi => hsz r (List.mem_of_getElem? (hget i r hi))) (by rw [hlen]; omega) (by rw [hlen]; omega) (fun h0 => ?_) fun i r j d hi hj => hu _ r j d (hget i r hi) hj
  rw [hlen] at h0
  obtain ⟨b, p, rfl, hs, hcell⟩ := hA (by omega)
  have e : sz' = sz := by
    have h3 : l[0]? = some l[0] := List.getElem?_eq_getElem (by omega)
    rw [← hsz' 0 _ h3]
    exact hsz _ (List.mem_of_getElem? h3)
  subst e
  rw [if_neg (by omega)]
  refine ⟨b, p + lo * sz', by simp [add_lit], hs, fun i r j d hi hj => ?_⟩
  have := hcell _ r j d (hget i r hi) hj
  rw [← this, Nat.add_mul]
  congr 2
  omega
theorem own_part (h : StR w0 N ρ φ f m a w) {c : Cell} {l : List (List Cell)} {v : Value} (hc : rowsOf m c = some l) (hv : CV ρ (Sof w0 φ m w) w c v) : ∃ A cap, v = .slice A l.length cap ∧ l.length ≤ cap := by
  rcases (rowsOf_ok h hc hv).2 with ⟨rfl, A, rfl⟩ | ⟨id, ty, sz', l0, b, p, cap, cur, G, hid, hm, hsub, rfl, hfb, hh, hlc, _⟩
  · exact ⟨A, 0, rfl, by simp⟩
  · exact ⟨_, cap, rfl, hlc⟩
theorem rowsOf_own {id : Nm} {n : Nat} {l : List (List Cell)} (hc : rowsOf m (.own id n) = some l) : l.length = n := by
  simp only [rowsOf] at hc
  split at hc
  · split at hc
    · injection hc with hc; subst hc; assumption
    · split at hc
      · injection hc with hc; subst hc; rw [List.length_take]; omega
      · cases hc
  · cases hc
theorem rowsOf_sub {id : Nm} {sz off n : Nat} {l : List (List Cell)} (hc : rowsOf m (.sub id sz off n) = some l) : l.length = n := by
  simp only [rowsOf] at hc
  split at hc
  · split at hc
    · injection hc with hc; subst hc; rw [List.length_take, List.length_drop]; omega
    · cases hc
  · cases hc
theorem partOf_ok (h : StR w0 N ρ φ f m a w) {sz : Nat} {c c' : Cell} {lo : Int} {hi : Option Int} {v : Value} (hc : partOf m sz c lo hi = some c') (hv : CV ρ (Sof w0 φ m w) w c v) :
    ∃ A n cap, v = .slice A n cap ∧ 0 ≤ lo ∧ lo ≤ hiV n hi ∧ hiV n hi ≤ n ∧ n ≤ cap ∧ CV ρ (Sof w0 φ m w) w c' (sliced A lo.toNat (hiV n hi).toNat cap sz) := by
  unfold partOf at hc
  split at hc
  · rename_i l
    split at hc
    · rename_i h1
      obtain ⟨hsz, h0⟩ := h1
      split at hc
      · split at hc
        · rename_i h2
          injection hc with hc
          subst hc
          obtain ⟨A, cap, rfl, hcap, hview⟩ := view_part (show View _ w (.sl l) v from hv) hsz lo.toNat l.length (by omega) (Nat.le_refl _)
          rw [List.take_length] at hview
          exact ⟨A, l.length, cap, rfl, h0, h2, Int.le_refl _, hcap, by simp only [hiV, Int.toNat_natCast]; exact hview⟩
        · cases hc
      · rename_i h
        split at hc
        · rename_i h2
          injection hc with hc
          subst hc
          obtain ⟨A, cap, rfl, hcap, hview⟩ := view_part (show View _ w (.sl l) v from hv) hsz lo.toNat h.toNat (by omega) (by omega)
          exact ⟨A, l.length, cap, rfl, h0, h2.1, h2.2, hcap, hview⟩
        · cases hc
    · cases hc
  · split at hc
    · rename_i h1
      injection hc with hc
      subst hc
      obtain ⟨rfl, h1⟩ := h1
      rw [show v = .slice none 0 0 from hv]
      have e : hiV 0 hi = 0 := by rcases h1 with rfl | rfl <;> rfl
      exact ⟨none, 0, 0, rfl, by omega, by omega, by omega, by omega, by rw [e]; rfl⟩
    · cases hc
  · rename_i id n
    split at hc
    · rename_i l hl
      have hln := rowsOf_own hl
      have hown : ∀ (k : Nat), k ≤ n → ∃ A cap, v = .slice A n cap ∧ n ≤ cap ∧ CV ρ (Sof w0 φ m w) w (.own id k) (sliced A 0 k cap sz) := fun k hk => by
        obtain ⟨A, cap, e, hle⟩ := own_part h hl hv
        rw [hln] at e hle
        refine ⟨A, cap, e, hle, ?_⟩
        have e2 : sliced A 0 k cap sz = .slice A k cap := by
          simp only [sliced, Nat.sub_zero, Nat.zero_mul]
          cases A with
          | none => simp
          | some x => simp [Addr.add]
        rw [e2]
        rcases hv with ⟨b, base, cap', hr, hv⟩ | ⟨hr, h0, A', hv⟩
        · rw [hv] at e
          injection e with e3 e4 e5
          subst e3 e5
          exact .inl ⟨b, base, cap', hr, rfl⟩
        · rw [hv] at e
          injection e with e3 e4 e5
          subst e3 e5
          have : k = 0 := by omega
          subst this
          exact .inr ⟨hr, rfl, _, rfl⟩
      have hsub : ∀ (lo k : Nat), lo ≤ k → k ≤ n → ∃ A cap, v = .slice A n cap ∧ n ≤ cap ∧ CV ρ (Sof w0 φ m w) w (.sub id sz lo (k - lo)) (sliced A lo k cap sz) := fun lo k hlo hk => by
        obtain ⟨A, cap, e, hle⟩ := own_part h hl hv
        rw [hln] at e hle
        refine ⟨A, cap, e, hle, ?_⟩
        rcases hv with ⟨b, base, cap', hr, hv⟩ | ⟨hr, h0, A', hv⟩
        · rw [hv] at e
          injection e with e3 e4 e5
          subst e3 e5
          exact .inl ⟨b, base, cap', _, hr, by omega, rfl, fun hlt => by rw [if_neg (by omega)]; simp [add_lit]⟩
        · rw [hv] at e
          injection e with e3 e4 e5
          subst e3 e5
          have e6 : lo = 0 ∧ k = 0 := by omega
          obtain ⟨rfl, rfl⟩ := e6
          exact .inr ⟨hr, rfl, rfl, _, rfl⟩
      split at hc
      · split at hc
        · rename_i h1
          injection hc with hc
          subst hc
          obtain ⟨A, cap, e, hle, hcv⟩ := hsub lo.toNat n (by omega) (Nat.le_refl _)
          exact ⟨A, n, cap, e, h1.1, h1.2, Int.le_refl _, hle, by simpa [hiV] using hcv⟩
        · cases hc
      · rename_i h'
        split at hc
        · rename_i h1
          subst h1
          split at hc
          · rename_i h2
            injection hc with hc
            subst hc
            obtain ⟨A, cap, e, hle, hcv⟩ := hown h'.toNat (by omega)
            exact ⟨A, n, cap, e, by omega, h2.1, h2.2, hle, hcv⟩
          · cases hc
        · split at hc
          · rename_i h2
            injection hc with hc
            subst hc
            obtain ⟨A, cap, e, hle, hcv⟩ := hsub lo.toNat h'.toNat (by omega) (by omega)
            exact ⟨A, n, cap, e, h2.1, h2.2.1, h2.2.2, hle, hcv⟩
          · cases hc
    · cases hc
  · rename_i id sz' off n
    split at hc
    · rename_i l hl
      have hln := rowsOf_sub hl
      split at hc
      · rename_i hsz
        subst hsz
        have hsub : ∀ (lo k : Nat), lo ≤ k → k ≤ n → ∃ A cap, v = .slice A n cap ∧ n ≤ cap ∧ CV ρ (Sof w0 φ m w) w (.sub id sz' (off + lo) (k - lo)) (sliced A lo k cap sz') := fun lo k hlo hk => by
          obtain ⟨A, cap, e, hle⟩ := own_part h hl hv
          rw [hln] at e hle
          refine ⟨A, cap, e, hle, ?_⟩
          rcases hv with ⟨b, base, cap', A', hr, hle', hv, hA⟩ | ⟨hr, h0, h0', A', hv⟩
          · rw [hv] at e
            injection e with e3 e4 e5
            subst e3 e5
            refine .inl ⟨b, base, cap', if cap' - off = lo then A' else A'.map (·.add (lo * sz')), hr, by omega, ?_, fun hlt => ?_⟩
            · unfold sliced
              rw [Nat.sub_add_eq]
            · rw [if_neg (by omega), hA (by omega)]
              simp [add_lit, Nat.add_mul, Nat.add_assoc]
          · rw [hv] at e
            injection e with e3 e4 e5
            subst e3 e5
            have e6 : lo = 0 ∧ k = 0 := by omega
            obtain ⟨rfl, rfl⟩ := e6
            exact .inr ⟨hr, by omega, rfl, _, rfl⟩
        split at hc
        · split at hc
          · rename_i h1
            injection hc with hc
            subst hc
            obtain ⟨A, cap, e, hle, hcv⟩ := hsub lo.toNat n (by omega) (Nat.le_refl _)
            exact ⟨A, n, cap, e, h1.1, h1.2, Int.le_refl _, hle, by simpa [hiV] using hcv⟩
          · cases hc
        · rename_i h'
          split at hc
          · rename_i h2
            injection hc with hc
            subst hc
            obtain ⟨A, cap, e, hle, hcv⟩ := hsub lo.toNat h'.toNat (by omega) (by omega)
            exact ⟨A, n, cap, e, h2.1, h2.2.1, h2.2.2, hle, hcv⟩
          · cases hc
      · cases hc
    · cases hc
  · cases hc
theorem so_slice (h : StR w0 N ρ φ f m a w) (t : TypeId) (x : Operand) (lo hi : Option Operand) (e sz by_ : Nat) (c c' : Cell) (l : Int) (u : Option Int) (ho : o.op = .slice t x lo hi none) (ht : tElt P t = some (e, sz, by_)) (hx : aeval N f x = .one c)
    (hlo : match lo with | none => l = 0 | some y => ∃ k, aeval N f y = .one (.d (.int k l))) (hhi : match hi with | none => u = none | some y => ∃ k n, aeval N f y = .one (.d (.int k n)) ∧ u = some n)
    (hc : partOf m sz c l u = some c') : Does P w0 N f m o a w (.one c') [] := by
  have hv := aeval_ok h x
  rw [hx] at hv
  obtain ⟨A, n, cap, e1, h0, h1, h2, h3, h4⟩ := partOf_ok h hc hv
  obtain ⟨hu, inf, hinf, hsz, _⟩ := tElt_ok ht
  have hel : P.elem t = e := by simp [Program.elem, hu]
  have hu' : P.underlying t = some (.slice (P.elem t)) := by rw [hel]; exact hu
  refine does_pure h ?_ h4
  have hs : (sizeOf (P.elem t)).run P w = .ok sz w := by rw [hel]; simp [sizeOf, typeInfo, hinf, hsz]
  have key : (Instr.sliceAt t (.slice A n cap) (lo.map a.eval) (hi.map a.eval) none).run P w = .ok (sliced A l.toNat (hiV n u).toNat cap sz) w := by
    rw [run_sliceAt_slice w t _ _ _ _ hu']
    cases lo with
    | none =>
      simp only at hlo
      subst hlo
      cases hi with
      | none =>
        simp only at hhi
        subst hhi
        simp only [Option.map_none]
        rw [run_slice_all w t A n cap hu', hs]
        simp [hiV]
      | some y =>
        obtain ⟨k, q, hy, rfl⟩ := hhi
        simp only [Option.map_none, Option.map_some, av_int h hy, hiV] at h1 h2 ⊢
        rw [run_slice_h w t A n cap hu' k q (by omega) (by omega), hs]
        rfl
    | some z =>
      obtain ⟨kz, hz⟩ := hlo
      cases hi with
      | none =>
        simp only at hhi
        subst hhi
        simp only [Option.map_none, Option.map_some, av_int h hz, hiV] at h1 h2 ⊢
        rw [run_slice_l w t A n cap hu' kz l (by omega) (by omega), hs]
        simp
      | some y =>
        obtain ⟨k, q, hy, rfl⟩ := hhi
        simp only [Option.map_some, av_int h hz, av_int h hy, hiV] at h1 h2 ⊢
        rw [run_slice_lh w t A n cap hu' kz k l q (by omega) (by omega) (by omega), hs]
        rfl
  simp only [execOp, ho, e1, Option.map_none, Sem.run_bind, key]
  rfl

/-- Rows laid over rows. -/
theorem RowR.over {S : Nat → Prop} {K : Nat → Prop} {ty sz b base cap : Nat} {l l' : List (List Cell)} (h : RowR ρ S w K ty sz l b base cap) {off : Nat} {us : List Value} (hp : off + l'.length ≤ l.length) (hc : RowsV ρ S w sz l' us)
    (hS : ∀ p : Addr, S p.block → p.block ≠ b) : ∃ cur : Array Value, w.heap[b]? = some (.cells cur ty (0, 0)) ∧ base + off * sz + us.length ≤ cur.size ∧ K b ∧ RowR ρ S (w.setRow b (lay cur.toList (base + off * sz) us).toArray) K ty sz (lay l off l') b base cap := by
  obtain ⟨cur, G, hfb, hh, hlc, hcs, hcell, hG, hd⟩ := h
  have hle : (off + l'.length) * sz ≤ cap * sz := Nat.mul_le_mul_right _ (by omega)
  rw [Nat.add_mul] at hle
  have hul : us.length = l'.length * sz := hc.1
  have e9 : cur.toList.length = cur.size := Array.length_toList
  have hfit : base + off * sz + us.length ≤ cur.toList.length := by omega
  have hblk := setRow_heap w b cur (lay cur.toList (base + off * sz) us).toArray ty (0, 0) hh
  have hk : ∀ p : Addr, S p.block → (w.setRow b (lay cur.toList (base + off * sz) us).toArray).cell? p = w.cell? p := fun p hp => World.cell?_of_block (setRow_other w b p.block _ (hS p hp))
  have hb : ∀ i1 j1 x, G i1 j1 x → (w.setRow b (lay cur.toList (base + off * sz) us).toArray).heap[x]? = w.heap[x]? := fun i1 j1 x hx => setRow_other w b x _ (hG i1 j1 x hx).2
  refine ⟨cur, hh, by omega, hfb, _, G, hfb, hblk, by rw [lay_length hp]; exact hlc, ?_, fun i r hi => ?_, hG, hd⟩
  · have := lay_length (l := cur.toList) (cs := us) (off := base + off * sz) hfit
    simp only [List.size_toArray, this, e9]
    exact hcs
  · rw [lay_at _ _ _ _ hp] at hi
    have old : l[i]? = some r → (i < off ∨ off + l'.length ≤ i) → r.length = sz ∧ ∀ (j : Nat) (d : Cell), r[j]? = some d → ∃ v, (lay cur.toList (base + off * sz) us).toArray[base + i * sz + j]? = some v ∧ RC ρ S (w.setRow b (lay cur.toList (base + off * sz) us).toArray) (G i j) d v := fun hi hout => by
      obtain ⟨h1, h2⟩ := hcell i r hi
      refine ⟨h1, fun j d hj => ?_⟩
      obtain ⟨v, hv, hrc⟩ := h2 j d hj
      have hjl : j < sz := by rw [← h1]; exact (List.getElem?_eq_some_iff.1 hj).1
      refine ⟨v, ?_, hrc.next hk (fun _ hx => hx) (fun _ _ => rfl) (hb i j) fun _ hx => hx⟩
      rw [List.getElem?_toArray, lay_at _ _ _ _ hfit]
      rcases hout with hlt | hge
      · have : (i + 1) * sz ≤ off * sz := Nat.mul_le_mul_right _ hlt
        rw [Nat.add_mul, Nat.one_mul] at this
        rw [if_pos (by omega)]
        simpa using hv
      · have : (off + l'.length) * sz ≤ i * sz := Nat.mul_le_mul_right _ hge
        rw [Nat.add_mul] at this
        rw [if_neg (by omega), if_neg (by omega)]
        simpa using hv
    by_cases h3 : i < off
    · rw [if_pos h3] at hi
      exact old hi (.inl h3)
    · rw [if_neg h3] at hi
      by_cases h4 : i < off + l'.length
      · rw [if_pos h4] at hi
        obtain ⟨h1, h2⟩ := hc.2 _ r hi
        refine ⟨h1, fun j d hj => ?_⟩
        obtain ⟨hnt, v, hv, hcv, hone⟩ := h2 j d hj
        have hjl : j < sz := by rw [← h1]; exact (List.getElem?_eq_some_iff.1 hj).1
        refine ⟨v, ?_, hone, hcv.next hk (fun _ hx => hx) (fun _ _ => rfl), fun T c e => absurd e (ntr_ne hnt T c)⟩
        have hlt : (i - off) * sz + j < us.length := (List.getElem?_eq_some_iff.1 hv).1
        have e1 : i * sz = off * sz + (i - off) * sz := by rw [← Nat.add_mul]; congr 1; omega
        rw [List.getElem?_toArray, lay_at _ _ _ _ hfit, if_neg (by omega), if_pos (by omega), ← hv]
        congr 1
        omega
      · rw [if_neg h4] at hi
        exact old hi (.inr (by omega))
theorem RowsV.take {S : Nat → Prop} {sz : Nat} {l : List (List Cell)} {ys : List Value} (h : RowsV ρ S w sz l ys) (k : Nat) : RowsV ρ S w sz (l.take k) (ys.take ((l.take k).length * sz)) := by
  have hle : (l.take k).length * sz ≤ l.length * sz := Nat.mul_le_mul_right _ (by rw [List.length_take]; omega)
  refine ⟨by rw [List.length_take, h.1]; omega, fun i r hi => ?_⟩
  have hil : i < (l.take k).length := (List.getElem?_eq_some_iff.1 hi).1
  rw [List.getElem?_take] at hi
  split at hi
  · obtain ⟨h1, h2⟩ := h.2 i r hi
    refine ⟨h1, fun j d hj => ?_⟩
    obtain ⟨h3, u, hu, h4⟩ := h2 j d hj
    refine ⟨h3, u, ?_, h4⟩
    have hjl : j < sz := by rw [← h1]; exact (List.getElem?_eq_some_iff.1 hj).1
    have : (i + 1) * sz ≤ (l.take k).length * sz := Nat.mul_le_mul_right _ hil
    rw [Nat.add_mul, Nat.one_mul] at this
    rw [List.getElem?_take, if_pos (by omega)]
    exact hu
  · cases hi
/-- Where a slice's rows lie in an own object: the object, from which row on. -/
def dstAt : Cell → Option (Nm × Nat)
  | .own id _ => some (id, 0)
  | .sub id _ off _ => some (id, off)
  | _ => none
/-- The first k rows that a slice over an own object shows are written. -/
theorem over_ok (h : StR w0 N ρ φ f m a w) {c : Cell} {id : Nm} {off e sz : Nat} {l0 l l' : List (List Cell)} {v : Value} (hc : rowsOf m c = some l) (hat : dstAt c = some (id, off)) (hm : m id = some (.row e sz l0)) (hsub : ∀ i s o n, c = .sub i s o n → s = sz) (hv : CV ρ (Sof w0 φ m w) w c v) {us : List Value} (hl : l'.length ≤ l.length) (hr : RowsV ρ (Sof w0 φ m w) w sz l' us) :
    ∃ A n cap, v = .slice A n cap ∧ n = l.length ∧ ((l' = [] ∧ us = []) ∨ ∃ b p, ∃ cur : Array Value, A = some ⟨b, p, none⟩ ∧ w.heap[b]? = some (.cells cur e (0, 0)) ∧ p + us.length ≤ cur.size ∧ StR w0 N ρ φ f (mset m id (some (.row e sz (lay l0 off l')))) a (w.setRow b (lay cur.toList p us).toArray)) := by
  obtain ⟨A, cap, e1, hcap⟩ := own_part h hc hv
  refine ⟨A, l.length, cap, e1, rfl, ?_⟩
  by_cases h0 : l' = []
  · subst h0
    exact .inl ⟨rfl, List.eq_nil_of_length_eq_zero (by simpa using hr.1)⟩
  · right
    have hpos : 0 < l'.length := by
      rcases Nat.eq_zero_or_pos l'.length with h1 | h1
      · exact absurd (List.eq_nil_of_length_eq_zero h1) h0
      · exact h1
    have fin : ∀ b base cp, ρ id = some (b, base, cp) → off + l.length ≤ l0.length → A = some ⟨b, base + off * sz, none⟩ → ∃ b p, ∃ cur : Array Value, A = some ⟨b, p, none⟩ ∧ w.heap[b]? = some (.cells cur e (0, 0)) ∧ p + us.length ≤ cur.size ∧ StR w0 N ρ φ f (mset m id (some (.row e sz (lay l0 off l')))) a (w.setRow b (lay cur.toList p us).toArray) := fun b base cp hr1 hle hA => by
      obtain ⟨hb, hrr⟩ := place_row h hm hr1
      obtain ⟨cur, hh, hfit, hfb, hnew⟩ := hrr.over (off := off) (by omega) hr fun p hp e => hp.2.1 id _ hm (by rw [e]; exact hrr.elim fun _ h => h.elim fun _ h => h.1)
      exact ⟨b, _, cur, hA, hh, hfit, (h.write id (.row e sz l0) (.row e sz (lay l0 off l')) hm ((Mv.setRow w b _).mono fun x hx => by rw [hx]; exact hfb) ⟨by rw [lay_length (by omega)]; exact hb, .inr ⟨b, base, cp, hr1, hnew⟩⟩).1⟩
    cases c with
    | own i n =>
      simp only [dstAt, Option.some.injEq, Prod.mk.injEq] at hat
      obtain ⟨rfl, rfl⟩ := hat
      have hle : l.length ≤ l0.length := by
        simp only [rowsOf, hm] at hc
        split at hc
        · injection hc with hc; subst hc; omega
        · split at hc
          · injection hc with hc; subst hc; rw [List.length_take]; omega
          · cases hc
      rcases hv with ⟨b, base, cap', hr1, hv⟩ | ⟨_, h1, A', hv⟩
      · rw [hv] at e1
        injection e1 with e2 e3 e4
        exact fin b base cap' hr1 (by omega) (by rw [← e2]; simp)
      · rw [hv] at e1
        injection e1 with e2 e3 e4
        omega
    | sub i s off' n =>
      simp only [dstAt, Option.some.injEq, Prod.mk.injEq] at hat
      obtain ⟨rfl, rfl⟩ := hat
      have hs := hsub _ _ _ _ rfl
      subst hs
      have hle : off' + l.length ≤ l0.length := by
        simp only [rowsOf, hm] at hc
        split at hc
        · injection hc with hc; subst hc; rw [List.length_take, List.length_drop]; omega
        · cases hc
      rcases hv with ⟨b, base, cap', A', hr1, hle', hv, hA⟩ | ⟨_, _, h1, A', hv⟩
      · rw [hv] at e1
        injection e1 with e2 e3 e4
        exact fin b base cap' hr1 hle (by rw [← e2]; exact hA (by omega))
      · rw [hv] at e1
        injection e1 with e2 e3 e4
        omega
    | _ => cases hat
theorem run_copyNat (t e : TypeId) (inf : TypeInfo) (ts : Array TypeId) (ty : TypeId) (ht : P.underlying t = some (.slice e)) (hi : P.info? e = some inf) (h0 : ts[0]? = some t) (A : Option Addr) (n c : Nat) (A' : Option Addr) (n' c' : Nat) (us : List Value) (hr : RdV w inf.size A' (Nat.min n' n) us) :
    (Builtin.copy_ ts ty #[.slice A n c, .slice A' n' c']).run P w = ((match A with | some x => storeCells x us | none => (pure () : Sem Unit)).run P w).andThen fun _ w => .ok (goInt (Nat.min n' n : Nat)) w := by
  have hf : (Builtin.firstCells inf.size (Nat.min n' n) (.slice A' n' c')).run P w = .ok us.toArray w := by
    have := run_first (P := P) w (c := c') hr
    cases A' <;> exact this
  cases A with
  | none => simp [Builtin.copy_, h0, run_underlying ht, Builtin.lenOf, sizeOf, typeInfo, hi, hf, Result.andThen]
  | some x => simp [Builtin.copy_, h0, run_underlying ht, Builtin.lenOf, sizeOf, typeInfo, hi, hf, Result.andThen]
/-- copy(dst, src). -/
theorem so_copy (h : StR w0 N ρ φ f m a w) (s x : Operand) (t t' : Nat) (e sz by_ : Nat) (cs cx : Cell) (id : Nm) (off : Nat) (l0 l l' : List (List Cell)) (ho : o.op = .call { callee := .builtin .copy, args := #[s, x], argTypes := #[t, t'] })
    (ht : tElt P t = some (e, sz, by_)) (hs : aeval N f s = .one cs) (hx : aeval N f x = .one cx) (hd : rowsOf m cs = some l) (hat : dstAt cs = some (id, off)) (hm : m id = some (.row e sz l0)) (hsub : ∀ i s o n, cs = .sub i s o n → s = sz) (hsrc : srcOf m cx = some l') (hl : ∀ r ∈ l', r.length = sz) :
    Does P w0 N f m o a w (.one (.d (.int .i64 ((Nat.min l'.length l.length : Nat) : Int)))) [(id, some (.row e sz (lay l0 off (l'.take l.length))))] := by
  obtain ⟨hu, inf, hi, h1, h2⟩ := tElt_ok ht
  have hvx := aeval_ok h x
  rw [hx] at hvx
  obtain ⟨A', cap', ys, ex, hreads, hrows⟩ := src_ok h hsrc hvx hl
  have hvs := aeval_ok h s
  rw [hs] at hvs
  have hrt := hrows.take l.length
  have hlt : (l'.take l.length).length = Nat.min l'.length l.length := by rw [List.length_take]; exact Nat.min_comm _ _
  obtain ⟨A, n, cap, es, hn, hcase⟩ := over_ok h hd hat hm hsub hvs (us := ys.take ((l'.take l.length).length * sz)) (by rw [List.length_take]; omega) hrt
  subst hn
  have hrd : RdV w inf.size A' (Nat.min l'.length l.length) (ys.take ((l'.take l.length).length * sz)) := by
    rw [← hlt, h1]
    refine ⟨hrt.1, fun h0 => ?_⟩
    have h0' : 0 < l'.length := by rw [List.length_take] at h0; omega
    obtain ⟨b, p, e5, hc⟩ := hreads.2 h0'
    refine ⟨b, p, e5, fun j u hj => hc j u ?_⟩
    rw [List.getElem?_take] at hj
    split at hj
    · exact hj
    · cases hj
  have hrun := run_copyNat (P := P) (w := w) t e inf #[t, t'] o.type hu hi rfl A l.length cap A' l'.length cap' _ hrd
  have em : ∀ X, mupd m [(id, some X)] = mset m id (some X) := fun _ => rfl
  intro K Q hK
  rcases hcase with ⟨hl0, hu0⟩ | ⟨b, p, cur, rfl, hh, hfit, hst⟩
  · have hw : (execOp a.eval o).run P w = .ok (.value (goInt (Nat.min l'.length l.length : Nat))) w := by
      rw [hu0] at hrun
      have e7 : ((match A with | some x => storeCells x ([] : List Value) | none => (pure () : Sem Unit)).run P w) = .ok () w := by cases A <;> rfl
      rw [e7] at hrun
      simp only [execOp, ho, resolve, invoke, builtin, Sem.run_bind, Sem.run_pure, Result.andThen_ok, List.map_toArray, List.map_cons, List.map_nil, ex, es, hrun]
    refine wp_of_run hw (hK _ _ ⟨ρ, φ, ?_⟩)
    have hlay : lay l0 off (l'.take l.length) = l0 := by rw [hl0]; simp [lay]
    rw [em, hlay]
    have : mset m id (some (.row e sz l0)) = m := by
      funext i
      simp only [mset]
      split
      · rename_i e9; rw [e9, hm]
      · rfl
    rw [this]
    exact h.put o.dst (x := .one (.d (.int .i64 _))) (View.int _ _)
  · have hst2 := run_storeCells_at P b p e (ys.take ((l'.take l.length).length * sz)) 0 cur w hh (by simpa using hfit) hrt.one
    simp only [Nat.add_zero] at hst2
    have hw : (execOp a.eval o).run P w = .ok (.value (goInt (Nat.min l'.length l.length : Nat))) (w.setRow b (lay cur.toList p (ys.take ((l'.take l.length).length * sz))).toArray) := by
      simp only [hst2, Result.andThen] at hrun
      simp only [execOp, ho, resolve, invoke, builtin, Sem.run_bind, Sem.run_pure, Result.andThen_ok, List.map_toArray, List.map_cons, List.map_nil, ex, es, hrun, lay]
    refine wp_of_run hw (hK _ _ ⟨ρ, φ, ?_⟩)
    rw [em]
    exact hst.put o.dst (x := .one (.d (.int .i64 _))) (View.int _ _)
end
end Go.Proofs.Yteohodhcegbmmaa
