/- Maps: the operations, as steps on own maps. No condition. -/
import Derived.Test.YteohodhcegbmmaaKla
set_option linter.unusedSimpArgs false
set_option linter.unusedVariables false
namespace Go.Proofs.Yteohodhcegbmmaa
open Go.RowKit

/-- A type's zero value, of one cell. -/
def tZ1 (P : Program) (t : TypeId) : Option Value := match P.underlying t with
  | some (.struct _) | some (.array _ _) => none
  | _ => (P.info? t).bind (·.zero)
theorem run_zero1 {P : Program} {w : World} {t : TypeId} {z : Value} (h : tZ1 P t = some z) : (zeroValue t).run P w = .ok z w := by
  have h2 : (P.info? t).bind (·.zero) = some z := by
    unfold tZ1 at h
    split at h <;> first | cases h; done | exact h
  cases hi : P.info? t with
  | none => rw [hi] at h2; cases h2
  | some i =>
    rw [hi] at h2
    simp only [Option.bind_some] at h2
    simp only [zeroValue, Sem.run_bind, typeInfo]
    simp [hi, h2, Sem.run]
section
variable {S : Nat → Prop} {w w' : World} {ag : Bool} {n : Nat} {l : List (List Int × C)} {es : Array MapEntry} {k : List Int}
theorem mIdx_lt (h : mIdx l k < l.length) : (l[mIdx l k]).1 = k := by
  have := List.findIdx_getElem (p := fun p : List Int × C => decide (p.1 = k)) (w := h)
  exact of_decide_eq_true this
theorem MapR.at_ (h : MapR S w ag n l es) {i : Nat} (hi : i < l.length) : ∃ e, es[i]? = some e ∧ e.key = keyV ag l[i].1 ∧ l[i].1.length = n ∧ e.born = i ∧ View S w l[i].2 e.val := by
  have hs : i < es.size := by rw [h.1]; exact hi
  exact ⟨es[i], Array.getElem?_eq_getElem hs, h.2 i l[i] es[i] (List.getElem?_eq_getElem hi) (Array.getElem?_eq_getElem hs)⟩
/-- One entry's value is turned. -/
theorem MapR.set (h : MapR S w ag n l es) {i : Nat} {c : C} {u : Value} {kv : Value} (hi : i < l.length) (hkv : kv = keyV ag (l[i]).1) (hu : View S w c u) : MapR S w ag n (mSet l i c) (es.modify i fun e => { e with key := kv, val := u }) := by
  refine ⟨by simp [mSet, h.1], fun j x e hx he => ?_⟩
  unfold mSet at hx
  rw [List.getElem?_modify] at hx
  rw [Array.getElem?_modify] at he
  by_cases hj : i = j
  · subst hj
    obtain ⟨e0, g1, g2, g3, g4, g5⟩ := h.at_ hi
    rw [if_pos rfl, g1] at he
    simp only [Option.map_some, Option.some.injEq] at he
    rw [List.getElem?_eq_getElem hi] at hx
    simp only [if_true, Option.map_eq_map, Option.map_some, Option.some.injEq] at hx
    subst hx he
    exact ⟨hkv, g3, g4, hu⟩
  · rw [if_neg hj] at he
    simp only [if_neg hj] at hx
    exact h.2 j x e (by simpa using hx) he
/-- One entry more. -/
theorem MapR.push (h : MapR S w ag n l es) {c : C} {u : Value} (hk : k.length = n) (hu : View S w c u) : MapR S w ag n (l ++ [(k, c)]) (es.push { key := keyV ag k, val := u, born := es.size }) := by
  refine ⟨by simp [h.1], fun j x e hx he => ?_⟩
  rw [Array.getElem?_push] at he
  by_cases hj : j = es.size
  · subst hj
    rw [if_pos rfl] at he
    rw [h.1, List.getElem?_append_right (Nat.le_refl _)] at hx
    simp at hx he
    subst hx he
    exact ⟨rfl, hk, rfl, hu⟩
  · rw [if_neg hj] at he
    have : j < l.length := by
      have := (Array.getElem?_eq_some_iff.1 he).1
      rw [← h.1]
      exact this
    rw [List.getElem?_append_left this] at hx
    exact h.2 j x e hx he
end
theorem heap_new_any (w : World) (o : Obj) : (w.alloc o).heap[w.heap.size]? = some o := (MapKept.heap_alloc w o).1
def setMap (w : World) (b : Nat) (o : Obj) : World := { w with heap := w.heap.setIfInBounds b o }
theorem setMap_mv (w : World) (b : Nat) (o : Obj) : Mv (· = b) w (setMap w b o) :=
  ⟨rfl, rfl, rfl, by simp [setMap], fun k _ hne => by
    simp only [setMap]
    rw [Array.getElem?_setIfInBounds]
    rw [if_neg (fun e => hne e.symm)]⟩
section
variable {P : Program} {w0 : Bas} {N : Nat} {ρ : Place} {φ : Foot} {f : Nat → AV} {m : Nm → Option AObj} {a : Act} {w : World} {o : Oper} {t kt et : TypeId} {ag : Bool} {n : Nat}
theorem StR.newObj (h : StR w0 N ρ φ f m a w) (fr : Nm) (ob : Obj) (o : AObj) (hfr : Fresh f m fr)
    (ho : OR (pset ρ fr (some (w.heap.size, 0, 0))) (fset φ fr (· = w.heap.size)) (Sof w0 φ m w) (w.alloc ob) fr o) :
    StR w0 N (pset ρ fr (some (w.heap.size, 0, 0))) (fset φ fr (· = w.heap.size)) f (mset m fr (some o)) a (w.alloc ob) := by
  have := (h.turn fr fr (some (w.heap.size, 0, 0)) (· = w.heap.size) o hfr ((Mv.alloc w _).mono fun _ h => h.elim) (fun b e => .inl (by rw [e]; simp)) ho).1
  have e : mset (mset m fr none) fr (some o) = mset m fr (some o) := by
    funext i
    simp only [mset]
    split <;> rfl
  rwa [e] at this
theorem so_makeMap (h : StR w0 N ρ φ f m a w) (r : Option Operand) (fr : Nm) (ho : o.op = .makeMap t r) (ht : tMap P t = some (kt, et, ag, n)) (hr : ∀ x, r = some x → ∃ k c, aeval N f x = .one (.d (.int k c))) (hfr : Fresh f m fr) :
    Does P w0 N f m o a w (.one (.mp fr)) [(fr, some (.map kt et ag n []))] := by
  have h1 := h.newObj fr (.map #[] 0) (.map kt et ag n []) hfr ⟨w.heap.size, #[], if_pos rfl, (congrFun (if_pos rfl) _).mpr rfl, heap_new_any w _, rfl, fun i x e hx => by simp at hx⟩
  have hu : P.underlying t = some (.map kt et) := by
    unfold tMap at ht
    split at ht
    · rename_i kt' et' hu
      split at ht
      · injection ht with ht; injection ht with e1 ht; injection ht with e2 ht; subst e1 e2; exact hu
      all_goals first | cases ht; done | (simp only [Option.map_eq_some_iff, Prod.mk.injEq] at ht; obtain ⟨_, _, e1, e2, _⟩ := ht; subst e1 e2; exact hu)
    · cases ht
  refine fun K Q hK => wp_of_run (v := .map (some w.heap.size)) (w' := w.alloc (.map #[] 0)) ?_ (hK _ _ ⟨_, _, h1.put o.dst ⟨w.heap.size, _, if_pos rfl, rfl⟩⟩)
  cases r with
  | none => simp only [execOp, ho, Option.map_none, Instr.makeMap, Sem.run_bind]; simp [newObj, Sem.run]
  | some x =>
    obtain ⟨k, c, hx⟩ := hr x rfl
    have hv := aeval_ok h x
    rw [hx] at hv
    have hv' : View (Sof w0 φ m w) w (.int k c) (a.eval x) := hv
    generalize e0 : a.eval x = u at hv'
    cases hv'
    simp only [execOp, ho, Option.map_some, e0, Instr.makeMap, Sem.run_bind, run_underlying hu, Result.andThen_ok]
    simp [asInt, asIntOf, newObj, Sem.run]
theorem map_of (h : StR w0 N ρ φ f m a w) {x : Operand} {id : Nm} {l : List (List Int × C)} (hx : aeval N f x = .one (.mp id)) (hm : m id = some (.map kt et ag n l)) :
    ∃ b es, a.eval x = .map (some b) ∧ ρ id = some (b, 0, 0) ∧ φ id b ∧ w.heap[b]? = some (.map es es.size) ∧ MapR (Sof w0 φ m w) w ag n l es := by
  have h1 := aeval_ok h x
  rw [hx] at h1
  obtain ⟨b, q, hr, e⟩ := h1
  obtain ⟨b', es, hr', hf, hh, hmr⟩ := h.objs id _ hm
  rw [hr] at hr'
  injection hr' with hr'
  injection hr' with e1 e2
  subst e1
  exact ⟨b, es, e, by rw [hr, e2], hf, hh, hmr⟩
theorem key_of (h : StR w0 N ρ φ f m a w) {y : Operand} {k : List Int} (hy : keyAV ag n (aeval N f y) = some k) : a.eval y = keyV ag k ∧ k.length = n := keyAV_ok hy (aeval_ok h y)
/-- A map is written: the block turns, all else stays. -/
theorem StR.setMap (h : StR w0 N ρ φ f m a w) {id : Nm} {l l' : List (List Int × C)} (hm : m id = some (.map kt et ag n l)) {b : Nat} (hr : ρ id = some (b, 0, 0)) (hf : φ id b) {es : Array MapEntry} (es' : Array MapEntry) (hh : w.heap[b]? = some (.map es es.size)) (hmr : MapR (Sof w0 φ m w) w ag n l' es') :
    StR w0 N ρ φ f (mset m id (some (.map kt et ag n l'))) a (Go.Proofs.Yteohodhcegbmmaa.setMap w b (.map es' es'.size)) := by
  have hg := setMap_mv w b (.map es' es'.size)
  have hS : ∀ p : Addr, Sof w0 φ m w p.block → (Go.Proofs.Yteohodhcegbmmaa.setMap w b (.map es' es'.size)).cell? p = w.cell? p := fun p hp => World.cell?_of_block (hg.block p.block hp.1 fun e => hp.2.1 id _ hm (by rw [e]; exact hf))
  refine (h.write id (.map kt et ag n l) (.map kt et ag n l') hm (hg.mono fun x hx => by rw [hx]; exact hf) ⟨b, es', hr, hf, ?_, hmr.next hS fun _ hb => hb⟩).1
  exact (MapKept.heap_set hh).1
theorem so_lookup (h : StR w0 N ρ φ f m a w) (x y : Operand) (ok : Bool) (id : Nm) (l : List (List Int × C)) (k : List Int) (z : Value) (ho : o.op = .lookup t x y ok) (ht : tMap P t = some (kt, et, ag, n)) (hx : aeval N f x = .one (.mp id)) (hm : m id = some (.map kt et ag n l)) (hy : keyAV ag n (aeval N f y) = some k) (hz : tZ1 P et = some z) :
    Does P w0 N f m o a w (if ok = true then .tup [.inr (match mGet l k with | some c => .d c | none => ofVal z), .inr (.d (.bool (decide (mIdx l k < l.length))))] else .one (match mGet l k with | some c => .d c | none => ofVal z)) [] := by
  obtain ⟨b, es, e, hr, hf, hh, hmr⟩ := map_of h hx hm
  obtain ⟨ey, hkl⟩ := key_of h hy
  obtain ⟨g1, g2, g3, _⟩ := run_find (w := w) ht hkl hmr
  have hres : ∃ u : Value, (Instr.lookup t (.map (some b)) (keyV ag k) ok).run P w = .ok (if ok = true then .tuple #[u, .bool (decide (mIdx l k < l.length))] else u) w ∧ CV ρ (Sof w0 φ m w) w (match mGet l k with | some c => .d c | none => ofVal z) u := by
    by_cases hi : mIdx l k < l.length
    · obtain ⟨e0, q1, q2, q3, q4, q5⟩ := hmr.at_ hi
      refine ⟨e0.val, ?_, ?_⟩
      · have hfnd : fnd l es.toList k 0 = some (0 + mIdx l k, e0.val) := by
          unfold fnd
          rw [if_pos hi]
          simp [q1]
        rw [hfnd] at g3
        simp only [Instr.lookup, Sem.run_bind, run_underlying g1, Result.andThen_ok, Sem.run_pure, MapKept.run_getObj_map hh, g2, g3]
        cases ok <;> simp [hi]
      · unfold mGet
        rw [List.getElem?_eq_getElem hi]
        exact q5
    · refine ⟨z, ?_, ?_⟩
      · have hfnd : fnd l es.toList k 0 = none := by
          unfold fnd
          rw [if_neg hi]
        rw [hfnd] at g3
        simp only [Instr.lookup, Sem.run_bind, run_underlying g1, Result.andThen_ok, Sem.run_pure, MapKept.run_getObj_map hh, g2, g3, run_zero1 hz]
        cases ok <;> simp [hi]
      · unfold mGet
        rw [List.getElem?_eq_none (by omega)]
        exact ofVal_cv z
  obtain ⟨u, hu1, hu2⟩ := hres
  refine does_pure h (u := if ok = true then .tuple #[u, .bool (decide (mIdx l k < l.length))] else u) (by simp only [execOp, ho, e, ey, Sem.run_bind, hu1, Result.andThen_ok, Sem.run_pure]) ?_
  cases ok with
  | false => exact hu2
  | true =>
    refine ⟨[u, .bool (decide (mIdx l k < l.length))], rfl, rfl, fun i x v hx hv => ?_⟩
    match i, hx, hv with
    | 0, hx, hv => simp at hx hv; subst hx hv; exact hu2
    | 1, hx, hv => simp at hx hv; subst hx hv; exact View.bool _
    | i + 2, hx, hv => simp at hx
theorem run_stays {k : Value} (hs : Instr.sameBits 10000 k k = true) : (Instr.keyThatStays k k).run P w = .ok k w := by
  unfold Instr.keyThatStays
  simp [hs]
theorem so_mapUpdate (h : StR w0 N ρ φ f m a w) (x y z : Operand) (id : Nm) (l : List (List Int × C)) (k : List Int) (c : C) (ho : o.op = .mapUpdate t x y z ∨ o.op = .insert t x y z) (ht : tMap P t = some (kt, et, ag, n)) (hx : aeval N f x = .one (.mp id)) (hm : m id = some (.map kt et ag n l)) (hy : keyAV ag n (aeval N f y) = some k) (hz : aeval N f z = .one (.d c)) :
    Does P w0 N f m o a w (.one .any) [(id, some (.map kt et ag n (mPut l k c)))] := by
  obtain ⟨b, es, e, hr, hf, hh, hmr⟩ := map_of h hx hm
  obtain ⟨ey, hkl⟩ := key_of h hy
  obtain ⟨g1, g2, g3, g4⟩ := run_find (w := w) ht hkl hmr
  have hv : View (Sof w0 φ m w) w c (a.eval z) := by
    have := aeval_ok h z
    rw [hz] at this
    exact this
  have hres : ∃ es', (Instr.mapUpdate t (.map (some b)) (keyV ag k) (a.eval z)).run P w = .ok () (setMap w b (.map es' es'.size)) ∧ MapR (Sof w0 φ m w) w ag n (mPut l k c) es' := by
    by_cases hi : mIdx l k < l.length
    · obtain ⟨e0, q1, q2, q3, q4, q5⟩ := hmr.at_ hi
      rw [mIdx_lt hi] at q2
      have hfnd : fnd l es.toList k 0 = some (mIdx l k, e0.val) := by
        unfold fnd
        rw [if_pos hi]
        simp [q1]
      rw [hfnd] at g3
      refine ⟨es.modify (mIdx l k) fun e => { e with key := keyV ag k, val := a.eval z }, ?_, ?_⟩
      · simp only [Instr.mapUpdate, Sem.run_bind, run_underlying g1, Result.andThen_ok, MapKept.run_getObj_map hh, g2, g3, q1, Option.map_some, Option.getD_some, q2, run_stays (g4 9998), MapKept.run_setObj_map _ hh]
        simp [setMap]
      · unfold mPut
        rw [if_pos hi]
        exact hmr.set hi (by rw [mIdx_lt hi]) hv
    · have hfnd : fnd l es.toList k 0 = none := by
        unfold fnd
        rw [if_neg hi]
      rw [hfnd] at g3
      refine ⟨es.push { key := keyV ag k, val := a.eval z, born := es.size }, ?_, ?_⟩
      · simp only [Instr.mapUpdate, Sem.run_bind, run_underlying g1, Result.andThen_ok, MapKept.run_getObj_map hh, g2, g3, MapKept.run_setObj_map _ hh]
        simp [setMap]
      · unfold mPut
        rw [if_neg hi]
        exact hmr.push hkl hv
  obtain ⟨es', h1, h2⟩ := hres
  have hst := h.setMap hm hr hf es' hh h2
  exact fun K Q hK => wp_of_skip (w' := setMap w b (.map es' es'.size)) (by rcases ho with ho | ho <;> (simp only [execOp, ho, e, ey, Sem.run_bind, h1]; rfl)) (hK _ _ ⟨ρ, φ, hst.put o.dst trivial⟩)
theorem so_mapEntry (h : StR w0 N ρ φ f m a w) (x y : Operand) (id : Nm) (l : List (List Int × C)) (k : List Int) (z : Value) (c0 : C) (ho : o.op = .mapEntry t x y) (ht : tMap P t = some (kt, et, ag, n)) (hx : aeval N f x = .one (.mp id)) (hm : m id = some (.map kt et ag n l)) (hy : keyAV ag n (aeval N f y) = some k) (hz : tZ1 P et = some z) (hc : ofVal z = .d c0) :
    Does P w0 N f m o a w (.tup [.inr (.d ((mGet l k).getD c0)), .inr (.d (.int .i64 (mIdx l k : Nat)))]) [(id, some (.map kt et ag n (mTouch l k c0)))] := by
  obtain ⟨b, es, e, hr, hf, hh, hmr⟩ := map_of h hx hm
  obtain ⟨ey, hkl⟩ := key_of h hy
  obtain ⟨g1, g2, g3, g4⟩ := run_find (w := w) ht hkl hmr
  have hv : View (Sof w0 φ m w) w c0 z := by
    have : CV ρ (Sof w0 φ m w) w (ofVal z) z := ofVal_cv z
    rw [hc] at this
    exact this
  have hres : ∃ es' u, (Instr.mapEntry t (.map (some b)) (keyV ag k)).run P w = .ok (.tuple #[u, .int .i64 (mIdx l k : Nat)]) (setMap w b (.map es' es'.size)) ∧ MapR (Sof w0 φ m w) w ag n (mTouch l k c0) es' ∧ View (Sof w0 φ m w) w ((mGet l k).getD c0) u := by
    by_cases hi : mIdx l k < l.length
    · obtain ⟨e0, q1, q2, q3, q4, q5⟩ := hmr.at_ hi
      rw [mIdx_lt hi] at q2
      have hfnd : fnd l es.toList k 0 = some (mIdx l k, e0.val) := by
        unfold fnd
        rw [if_pos hi]
        simp [q1]
      rw [hfnd] at g3
      refine ⟨es.modify (mIdx l k) fun e => { e with key := keyV ag k }, e0.val, ?_, ?_, ?_⟩
      · simp only [Instr.mapEntry, Sem.run_bind, run_underlying g1, Result.andThen_ok, MapKept.run_getObj_map hh, g2, g3, q1, Option.map_some, Option.getD_some, q2, run_stays (g4 9998), MapKept.run_setObj_map _ hh, q4, goInt, Sem.run_pure]
        simp [setMap]
      · unfold mTouch
        rw [if_pos hi]
        have h9 := hmr.set (c := l[mIdx l k].2) (u := e0.val) hi (by rw [mIdx_lt hi]) q5
        have e1 : mSet l (mIdx l k) l[mIdx l k].2 = l := by
          unfold mSet
          apply List.ext_getElem?
          intro j
          rw [List.getElem?_modify]
          by_cases hj : mIdx l k = j
          · subst hj
            rw [List.getElem?_eq_getElem hi]
            simp
          · simp [hj]
        rw [e1] at h9
        have e2 : (es.modify (mIdx l k) fun e => { e with key := keyV ag k, val := e0.val }) = es.modify (mIdx l k) fun e => { e with key := keyV ag k } := by
          apply Array.ext_getElem?
          intro j
          rw [Array.getElem?_modify, Array.getElem?_modify]
          by_cases hj : mIdx l k = j
          · subst hj
            rw [if_pos rfl, if_pos rfl, q1]
            rfl
          · rw [if_neg hj, if_neg hj]
        rw [e2] at h9
        exact h9
      · unfold mGet
        rw [List.getElem?_eq_getElem hi]
        exact q5
    · have hfnd : fnd l es.toList k 0 = none := by
        unfold fnd
        rw [if_neg hi]
      have hlen : mIdx l k = l.length := Nat.le_antisymm List.findIdx_le_length (by omega)
      rw [hfnd] at g3
      refine ⟨es.push { key := keyV ag k, val := z, born := es.size }, z, ?_, ?_, ?_⟩
      · simp only [Instr.mapEntry, Sem.run_bind, run_underlying g1, Result.andThen_ok, MapKept.run_getObj_map hh, g2, g3, run_zero1 hz, MapKept.run_setObj_map _ hh, goInt, Sem.run_pure]
        simp [setMap, hlen, hmr.1]
      · unfold mTouch
        rw [if_neg hi]
        exact hmr.push hkl hv
      · unfold mGet
        rw [List.getElem?_eq_none (by omega)]
        exact hv
  obtain ⟨es', u, h1, h2, h3⟩ := hres
  have hst := h.setMap hm hr hf es' hh h2
  have hg := setMap_mv w b (.map es' es'.size)
  have hS : ∀ p : Addr, Sof w0 φ m w p.block → (setMap w b (.map es' es'.size)).cell? p = w.cell? p := fun p hp => World.cell?_of_block (hg.block p.block hp.1 fun e => hp.2.1 id _ hm (by rw [e]; exact hf))
  refine fun K Q hK => wp_of_run (v := .tuple #[u, .int .i64 (mIdx l k : Nat)]) (w' := setMap w b (.map es' es'.size)) (by simp only [execOp, ho, e, ey, Sem.run_bind, h1, Result.andThen_ok, Sem.run_pure]) (hK _ _ ⟨ρ, φ, hst.put o.dst ?_⟩)
  refine ⟨[u, .int .i64 (mIdx l k : Nat)], rfl, rfl, fun i x v hx hv => ?_⟩
  match i, hx, hv with
  | 0, hx, hv =>
    simp only [List.getElem?_cons_zero, Option.some.injEq] at hx hv
    subst hx hv
    refine View.keep h3 hS fun b' hb => ⟨by simpa [setMap] using hb.1, fun id' o' hi' hf' => ?_, hb.2.2⟩
    simp only [mset] at hi'
    split at hi'
    · rename_i e9
      subst e9
      exact hb.2.1 _ _ hm hf'
    · exact hb.2.1 id' o' hi' hf'
  | 1, hx, hv => simp at hx hv; subst hx hv; exact View.int _ _
  | i + 2, hx, hv => simp at hx
theorem so_entryStore (h : StR w0 N ρ φ f m a w) (x y z : Operand) (id : Nm) (l : List (List Int × C)) (i : Nat) (c : C) (ho : o.op = .entryStore t x y z) (hx : aeval N f x = .one (.mp id)) (hm : m id = some (.map kt et ag n l)) (hy : aeval N f y = .one (.d (.int .i64 (i : Nat)))) (hi : i < l.length) (hz : aeval N f z = .one (.d c)) :
    Does P w0 N f m o a w (.one .any) [(id, some (.map kt et ag n (mSet l i c)))] := by
  obtain ⟨b, es, e, hr, hf, hh, hmr⟩ := map_of h hx hm
  have hv : View (Sof w0 φ m w) w c (a.eval z) := by
    have := aeval_ok h z
    rw [hz] at this
    exact this
  have hs : a.eval y = .int .i64 (i : Nat) := by
    have := aeval_ok h y
    rw [hy] at this
    have hv' : View (Sof w0 φ m w) w (.int .i64 (i : Nat)) (a.eval y) := this
    generalize a.eval y = u at hv'
    cases hv'
    rfl
  have his : i < es.size := by rw [hmr.1]; exact hi
  have hfi : es.findIdx? (fun e => (e.born : Int) == (i : Int)) = some i := by
    rw [Array.findIdx?_eq_some_iff_getElem]
    refine ⟨his, ?_, fun j hj => ?_⟩
    · obtain ⟨e0, q1, _, _, q4, _⟩ := hmr.at_ hi
      rw [Array.getElem?_eq_getElem his] at q1
      injection q1 with q1
      simp [q1, q4]
    · have hjl : j < l.length := by omega
      have hjs : j < es.size := by omega
      obtain ⟨e0, q1, _, _, q4, _⟩ := hmr.at_ hjl
      rw [Array.getElem?_eq_getElem hjs] at q1
      injection q1 with q1
      simp [q1, q4]
      omega
  have hset : MapR (Sof w0 φ m w) w ag n (mSet l i c) (es.modify i fun e => { e with val := a.eval z }) := by
    obtain ⟨e0, q1, q2, q3, q4, q5⟩ := hmr.at_ hi
    have h9 := hmr.set (c := c) (u := a.eval z) (kv := keyV ag l[i].1) hi rfl hv
    have e2 : (es.modify i fun e => { e with key := keyV ag l[i].1, val := a.eval z }) = es.modify i fun e => { e with val := a.eval z } := by
      apply Array.ext_getElem?
      intro j
      rw [Array.getElem?_modify, Array.getElem?_modify]
      by_cases hj : i = j
      · subst hj
        rw [if_pos rfl, if_pos rfl, q1]
        simp [q2]
      · rw [if_neg hj, if_neg hj]
    rw [e2] at h9
    exact h9
  have hst := h.setMap hm hr hf _ hh hset
  refine fun K Q hK => wp_of_skip (w' := setMap w b (.map (es.modify i fun e => { e with val := a.eval z }) (es.modify i fun e => { e with val := a.eval z }).size)) ?_ (hK _ _ ⟨ρ, φ, hst.put o.dst trivial⟩)
  simp only [execOp, ho, e, hs, Instr.entryStore, Sem.run_bind, Sem.run_pure, Result.andThen_ok, MapKept.run_getObj_map hh, asInt, asIntOf, hfi, MapKept.run_setObj_map _ hh]
  simp [setMap]
end
end Go.Proofs.Yteohodhcegbmmaa
