/- Maps: keys made of numbers, values that are data. No condition. -/
import Derived.Test.YteohodhcegbmmaaKl
import Derived.MapKept
import Derived.WideKeyRuns
set_option linter.unusedSimpArgs false
set_option linter.unusedVariables false
namespace Go.Proofs.Yteohodhcegbmmaa
open Go.RowKit

/-- A map's type: its keys' and its values' types, whether a key is made of parts, of how many numbers. -/
def tMap (P : Program) (t : TypeId) : Option (TypeId × TypeId × Bool × Nat) :=
  match P.underlying t with
  | some (.map kt et) => match P.underlying kt with
    | some (.int _) => some (kt, et, false, 1)
    | some (.array _ _) | some (.struct _) => (tFlat P kt).map fun n => (kt, et, true, n)
    | _ => none
  | _ => none
def mIdx (l : List (List Int × C)) (k : List Int) : Nat := l.findIdx fun p => decide (p.1 = k)
def mGet (l : List (List Int × C)) (k : List Int) : Option C := (l[mIdx l k]?).map (·.2)
def mTouch (l : List (List Int × C)) (k : List Int) (z : C) : List (List Int × C) := if mIdx l k < l.length then l else l ++ [(k, z)]
def mSet (l : List (List Int × C)) (i : Nat) (v : C) : List (List Int × C) := l.modify i fun p => (p.1, v)
def mPut (l : List (List Int × C)) (k : List Int) (v : C) : List (List Int × C) := if mIdx l k < l.length then mSet l (mIdx l k) v else l ++ [(k, v)]
def i64s : List Cell → Option (List Int)
  | [] => some []
  | .d (.int .i64 n) :: r => (i64s r).map (n :: ·)
  | _ :: _ => none
/-- A key, of what is known of it. -/
def keyAV (ag : Bool) (n : Nat) (x : AV) : Option (List Int) :=
  match ag, x with
  | true, .agg l => match i64s l with
    | some k => if k.length = n then some k else none
    | none => none
  | false, .one (.d (.int .i64 k)) => if n = 1 then some [k] else none
  | _, _ => none
theorem i64s_ok {ρ : Place} {S : Nat → Prop} {w : World} : ∀ {l : List Cell} {ns : List Int} {vs : List Value}, i64s l = some ns → CVs ρ S w l vs → vs = ns.map (Value.int .i64)
  | [], ns, vs, h, hc => by
    simp only [i64s, Option.some.injEq] at h
    subst h
    have := hc.1
    simpa using this
  | .d (.int .i64 n) :: r, ns, vs, h, hc => by
    simp only [i64s, Option.map_eq_some_iff] at h
    obtain ⟨ms, h1, rfl⟩ := h
    match vs, hc with
    | [], hc => have := hc.1; simp at this
    | v :: vs, hc =>
      have hv := (hc.2 0 _ v rfl rfl).1
      have : View S w (.int .i64 n) v := hv
      cases this
      rw [i64s_ok h1 (⟨by simpa using hc.1, fun i c' v' hi hv => hc.2 (i + 1) c' v' (by simpa using hi) (by simpa using hv)⟩ : CVs ρ S w r vs)]
      rfl

section
variable {P : Program} {w : World}
theorem keyAV_ok {ρ : Place} {S : Nat → Prop} {ag : Bool} {n : Nat} {x : AV} {k : List Int} {v : Value} (h : keyAV ag n x = some k) (hv : AVR ρ S w x v) : v = keyV ag k ∧ k.length = n := by
  unfold keyAV at h
  split at h
  · rename_i l
    split at h
    · rename_i k' hk
      split at h
      · rename_i hn
        injection h with h
        subst h
        obtain ⟨vs, rfl, hc⟩ := hv
        rw [i64s_ok hk hc]
        exact ⟨by simp [keyV], hn⟩
      · cases h
    · cases h
  · split at h
    · rename_i hn
      injection h with h
      subst h
      have : View S w (.int .i64 _) v := hv
      cases this
      exact ⟨rfl, by simp [hn]⟩
    · cases h
  · cases h
theorem run_checkKey_int {e : TypeId} {k0 : IntKind} (hu : P.underlying e = some (.int k0)) (em : Bool) (d : Nat) (v : Value) : (Instr.checkKey em (d + 1) e v).run P w = .ok () w := by
  unfold Instr.checkKey
  simp [Sem.run_bind, run_underlying hu, Result.andThen_ok]
theorem keyV_get {k : List Int} (j : Nat) (x : Int) (h : k[j]? = some x) : (k.map (Value.int .i64)).toArray[j]? = some (.int .i64 x) := by
  rw [List.getElem?_toArray, List.getElem?_map, h]
  rfl
theorem run_check_flat {t : TypeId} {n : Nat} (ht : tFlat P t = some n) (em : Bool) {k : List Int} (hk : k.length = n) : (Instr.checkKey em 10000 t (.agg (k.map (Value.int .i64)).toArray)).run P w = .ok () w := by
  unfold tFlat at ht
  split at ht
  · split at ht
    · rename_i fs hu
      split at ht
      · rename_i hc
        injection ht with ht
        rw [show (10000 : Nat) = 9998 + 1 + 1 from rfl, Instr.checkKey]
        simp only [Sem.run_bind, run_underlying hu, Result.andThen_ok]
        rw [← Array.forIn_toList]
        have each : ∀ f ∈ fs.toList, ∃ x k0, P.underlying f.type = some (.int k0) ∧ (k.map (Value.int .i64)).toArray[f.offset]? = some (.int .i64 x) := fun f hf => by
          obtain ⟨i, hi, hfi⟩ := List.getElem_of_mem hf
          have := List.all_eq_true.1 hc.2 (f, i) (by
            rw [List.mem_zipIdx_iff_getElem?]
            simp only
            rw [← hfi, List.getElem?_eq_getElem hi])
          simp only [Bool.and_eq_true, beq_iff_eq] at this
          obtain ⟨⟨_, hoff⟩, hty⟩ := this
          have hik : i < k.length := by
            rw [hk, ← ht]
            simpa using hi
          cases hue : P.underlying f.type with
          | none => rw [hue] at hty; cases hty
          | some d =>
            rw [hue] at hty
            cases d with
            | int k0 => exact ⟨k[i], k0, rfl, by rw [hoff]; exact keyV_get i _ (List.getElem?_eq_getElem hik)⟩
            | _ => cases hty
        generalize fs.toList = L at each
        induction L with
        | nil => simp
        | cons f L ih =>
          obtain ⟨x, k0, hue, hx⟩ := each f (by simp)
          have e1 := run_part_int (P := P) (w := w) hue hx
          simp only [List.forIn_cons, Sem.run_bind]
          by_cases hn : f.name ≠ "_"
          · simp only [hn, if_true, Sem.run_bind, e1, Result.andThen_ok, run_checkKey_int hue em 9998, Sem.run_pure, ne_eq, not_false_eq_true]
            exact ih fun g hg => each g (by simp [hg])
          · simp only [hn, if_false, Sem.run_pure, Result.andThen_ok]
            exact ih fun g hg => each g (by simp [hg])
      · cases ht
    · rename_i n' e hu
      split at ht
      · rename_i k0 hue
        split at ht
        · rename_i hce
          injection ht with ht
          subst ht
          obtain ⟨i, hi⟩ := info_of_underlying hue
          rw [show (10000 : Nat) = 9998 + 1 + 1 from rfl, Instr.checkKey]
          simp only [Sem.run_bind, run_underlying hu, Result.andThen_ok]
          simp only [Std.Legacy.Range.forIn_eq_forIn_range', Std.Legacy.Range.size, Nat.sub_zero, Nat.add_one_sub_one, Nat.div_one]
          have each : ∀ j ∈ List.range' 0 n' 1, ∃ x, (k.map (Value.int .i64)).toArray[j]? = some (.int .i64 x) := fun j hj => by
            have hjk : j < k.length := by
              rw [List.mem_range'_1] at hj
              omega
            exact ⟨k[j], keyV_get j _ (List.getElem?_eq_getElem hjk)⟩
          generalize List.range' 0 n' 1 = is at each
          induction is with
          | nil => simp
          | cons j is ih =>
            obtain ⟨x, hx⟩ := each j (by simp)
            have e1 := run_part_int (P := P) (w := w) hue hx
            simp only [List.forIn_cons, Sem.run_bind, run_sizeOf w hi, Result.andThen_ok, hce, Nat.mul_one, e1, run_checkKey_int hue em 9998, Sem.run_pure]
            exact ih fun y hy => each y (by simp [hy])
        · cases ht
      · cases ht
    · cases ht
  · cases ht
theorem eqI_i64 : ∀ (k k' : List Int), k.length = k'.length → eqI (k.map fun n => (IntKind.i64, n)) (k'.map fun n => (IntKind.i64, n)) = decide (k = k')
  | [], [], _ => rfl
  | x :: k, y :: k', h => by
    simp only [List.map_cons, eqI, eqI_i64 k k' (by simpa using h)]
    by_cases e : x = y <;> simp [e]
theorem run_key_eq {t : TypeId} {n : Nat} (ht : tFlat P t = some n) {k k' : List Int} (hk : k.length = n) (hk' : k'.length = n) : (Op.equal t (keyV true k) (keyV true k')).run P w = .ok (decide (k = k')) w := by
  have h := run_flat (w := w) ht (ns := k.map fun n => (IntKind.i64, n)) (ms := k'.map fun n => (IntKind.i64, n)) (by simpa using hk) (by simpa using hk') (by simp [Function.comp_def, List.map_const', hk, hk'])
  rw [eqI_i64 k k' (by rw [hk, hk'])] at h
  simpa [keyV, Function.comp_def, Op.equal, Op.maxDepth] using h
/-- What is found of a key: where it stands first. -/
def fnd (l : List (List Int × C)) (es : List MapEntry) (k : List Int) (i : Nat) : Option (Nat × Value) := if mIdx l k < l.length then (es[mIdx l k]?).map fun e => (i + mIdx l k, e.val) else none
theorem fnd_cons {x : List Int × C} {l : List (List Int × C)} {e : MapEntry} {es : List MapEntry} {k : List Int} {i : Nat} : fnd (x :: l) (e :: es) k i = if k = x.1 then some (i, e.val) else fnd l es k (i + 1) := by
  unfold fnd mIdx
  rw [List.findIdx_cons]
  by_cases h : x.1 = k
  · rw [decide_eq_true h]
    simp [h]
  · have h' : ¬ k = x.1 := fun e => h e.symm
    simp only [decide_eq_false h, cond_false, List.length_cons, Nat.add_lt_add_iff_right, List.getElem?_cons_succ, if_neg h']
    rw [show i + (List.findIdx (fun p => decide (p.1 = k)) l + 1) = i + 1 + List.findIdx (fun p => decide (p.1 = k)) l by omega]
theorem run_asking {t : TypeId} {n : Nat} (ht : tFlat P t = some n) {k : List Int} (hk : k.length = n) : ∀ (l : List (List Int × C)) (es : List MapEntry) (i : Nat), es.length = l.length → (∀ (j : Nat) (x : List Int × C) (e : MapEntry), l[j]? = some x → es[j]? = some e → e.key = keyV true x.1 ∧ x.1.length = n) →
    (Instr.findAsking t (keyV true k) es i).run P w = .ok (fnd l es k i) w
  | [], [], i, _, _ => by simp [Instr.findAsking, fnd]
  | x :: l, e :: es, i, hl, h => by
    have h0 := h 0 x e rfl rfl
    rw [fnd_cons]
    unfold Instr.findAsking
    simp only [Sem.run_bind, h0.1, run_key_eq ht hk h0.2, Result.andThen_ok]
    by_cases hx : k = x.1
    · simp [hx]
    · simp only [hx, decide_false, if_false, Bool.false_eq_true]
      exact run_asking ht hk l es (i + 1) (by simpa using hl) fun j y f hy hf => h (j + 1) y f (by simpa using hy) (by simpa using hf)
  | [], _ :: _, _, hl, _ => by simp at hl
  | _ :: _, [], _, hl, _ => by simp at hl
theorem now_found {k0 : IntKind} {k : Int} : ∀ (l : List (List Int × C)) (es : List MapEntry) (i : Nat), es.length = l.length → (∀ (j : Nat) (x : List Int × C) (e : MapEntry), l[j]? = some x → es[j]? = some e → e.key = keyV false x.1 ∧ x.1.length = 1) →
    Instr.findNow (.int k0) (.int .i64 k) es i = some (fnd l es [k] i)
  | [], [], i, _, _ => by simp [Instr.findNow, fnd]
  | x :: l, e :: es, i, hl, h => by
    have h0 := h 0 x e rfl rfl
    rw [fnd_cons]
    obtain ⟨xk, xv⟩ := x
    match xk, h0 with
    | [y], h0 =>
      have hk : e.key = .int .i64 y := h0.1
      unfold Instr.findNow
      rw [hk]
      simp only [Instr.sameNow, if_true]
      by_cases hx : k = y
      · subst hx
        simp
      · have e1 : (k == y) = false := by simpa using hx
        have e2 : ¬ [k] = [y] := by simpa using hx
        rw [e1, if_neg e2]
        exact now_found l es (i + 1) (by simpa using hl) fun j z f hz hf => h (j + 1) z f (by simpa using hz) (by simpa using hf)
    | [], h0 => have := h0.2; simp at this
    | _ :: _ :: _, h0 => have := h0.2; simp at this
  | [], _ :: _, _, hl, _ => by simp at hl
  | _ :: _, [], _, hl, _ => by simp at hl
theorem run_find {S : Nat → Prop} {t kt et : TypeId} {ag : Bool} {n : Nat} {l : List (List Int × C)} {es : Array MapEntry} {k : List Int} (ht : tMap P t = some (kt, et, ag, n)) (hk : k.length = n) (h : MapR S w ag n l es) :
    P.underlying t = some (.map kt et) ∧ (∀ em, (Instr.checkKey em 10000 kt (keyV ag k)).run P w = .ok () w) ∧ (Instr.findKey kt (keyV ag k) es.toList).run P w = .ok (fnd l es.toList k 0) w ∧ ∀ m, Instr.sameBits (m + 2) (keyV ag k) (keyV ag k) = true := by
  unfold tMap at ht
  split at ht
  · rename_i kt' et' hu
    split at ht
    · rename_i k0 huk
      injection ht with ht
      injection ht with e1 ht
      injection ht with e2 ht
      injection ht with e3 e4
      subst e1 e2 e3 e4
      match k, hk with
      | [y], _ =>
        refine ⟨hu, fun em => run_checkKey_int huk em 9999 _, ?_, fun m => by simp [keyV, Instr.sameBits]⟩
        exact MapKept.run_findKey huk (now_found (k0 := k0) l es.toList 0 (by simpa using h.1) fun j x e hx he => let ⟨h1, h2, _⟩ := h.2 j x e hx (by simpa using he); ⟨h1, h2⟩)
    all_goals first | cases ht; done | skip
    all_goals
      rename_i huk
      simp only [Option.map_eq_some_iff, Prod.mk.injEq] at ht
      obtain ⟨n', hf, e1, e2, e3, e4⟩ := ht
      subst e1 e2 e3 e4
      refine ⟨hu, fun em => by simpa [keyV] using run_check_flat hf em hk, ?_, fun m => ?_⟩
      · rw [run_findKey_eq w (by rw [huk])]
        exact run_asking hf hk l es.toList 0 (by simpa using h.1) fun j x e hx he => let ⟨h1, h2, _⟩ := h.2 j x e hx (by simpa using he); ⟨h1, h2⟩
      · have : ∀ (k : List Int), ((k.map (Value.int .i64)).zip (k.map (Value.int .i64))).all (fun p => Instr.sameBits (m + 1) p.1 p.2) = true := by
          intro k
          induction k with
          | nil => rfl
          | cons x k ih => simp only [List.map_cons, List.zip_cons_cons, List.all_cons, ih, Bool.and_true]; simp [Instr.sameBits]
        simp only [keyV, if_true, Instr.sameBits, beq_self_eq_true, Bool.true_and]
        simpa using this k
  · cases ht
end
end Go.Proofs.Yteohodhcegbmmaa
