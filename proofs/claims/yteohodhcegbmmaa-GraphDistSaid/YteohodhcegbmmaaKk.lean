/- The step of a call. No condition. -/
import Derived.Test.YteohodhcegbmmaaKj
set_option linter.unusedSimpArgs false
set_option linter.unusedVariables false
namespace Go.Proofs.Yteohodhcegbmmaa
open Go.RowKit

section
variable {P : Program} {w0 : Bas} {N : Nat} {ρ ρ' : Place} {φ φ' : Foot} {f : Nat → AV} {m : Nm → Option AObj} {a : Act} {w w' : World} {o : Oper}

theorem frzAV_ok (h : StR w0 N ρ φ f m a w) {x y : AV} {v : Value} (hc : frzAV m x = some y) (hv : AVR ρ (Sof w0 φ m w) w x v) {T : Nat → Prop} (hT : ∀ b, Sof w0 φ m w b → T b) (hk : ∀ id o b, id ∈ reachAV m x → m id = some o → φ id b → T b) : AVR ρ T w y v := by
  cases x with
  | one c =>
    simp only [frzAV, Option.map_eq_some_iff] at hc
    obtain ⟨d, hd, rfl⟩ := hc
    exact frz_ok h hT hd hv hk
  | agg l =>
    simp only [frzAV, Option.map_eq_some_iff] at hc
    obtain ⟨ds, hd, rfl⟩ := hc
    obtain ⟨vs, rfl, hcv⟩ := hv
    obtain ⟨hl, hg⟩ := mapO_get hd
    refine ⟨vs, rfl, by rw [hcv.1]; simp [hl], fun i c v hi hvi => ?_⟩
    simp only [List.getElem?_map, Option.map_eq_some_iff] at hi
    obtain ⟨d, hdi, rfl⟩ := hi
    obtain ⟨c', hci, hf⟩ := hg i d hdi
    obtain ⟨h1, h2⟩ := hcv.2 i c' v hci hvi
    exact ⟨frz_ok h hT hf h1 (fun id o b hid => hk id o b (List.mem_flatMap.2 ⟨_, List.mem_of_getElem? hci, hid⟩)), h2⟩
  | tup l => cases hc
/-- Values, one by one. -/
def Rels (ρ : Place) (S : Nat → Prop) (w : World) (xs : List AV) (vs : List Value) : Prop := vs.length = xs.length ∧ ∀ (i : Nat) (x : AV) (v : Value), xs[i]? = some x → vs[i]? = some v → AVR ρ S w x v
theorem Rels.append {S : Nat → Prop} {xs ys : List AV} {us vs : List Value} (h : Rels ρ S w xs us) (k : Rels ρ S w ys vs) : Rels ρ S w (xs ++ ys) (us ++ vs) := by
  refine ⟨by simp [h.1, k.1], fun i x v hx hv => ?_⟩
  rcases Nat.lt_or_ge i xs.length with hlt | hge
  · rw [List.getElem?_append_left hlt] at hx
    rw [List.getElem?_append_left (by rw [h.1]; exact hlt)] at hv
    exact h.2 i x v hx hv
  · rw [List.getElem?_append_right hge] at hx
    rw [List.getElem?_append_right (by rw [h.1]; exact hge), h.1] at hv
    exact k.2 _ x v hx hv
def sumAV : List C ⊕ C → AV
  | .inl l => .agg (l.map .d)
  | .inr c => .one (.d c)
/-- Whom a call calls: the function; what it is given ahead of the arguments, and behind them. -/
def calleeOf (ev : Operand → AV) : Callee → Option (FuncId × List AV × List AV)
  | .value (.func g) => some (g, [], [])
  | .value x => match ev x with
    | .one (.d (.fn g first caps)) => some (g, first.map sumAV, caps.map fun c => .one (.d c))
    | .one (.fnp g caps) => some (g, [], caps.map fun p => .one (.ptr p.1 p.2))
    | _ => none
  | _ => none
theorem run_enter {c : Call} {g : FuncId} {x : Operand} {us vs : Array Value} (ho : o.op = .call c) (hc : c.callee = .value x) (hx : a.eval x = .func (.func g) us vs) (hb : hasBody P g = true) : (execOp a.eval o).run P w = .ok (.enter g (us ++ c.args.map a.eval ++ vs)) w := by
  unfold hasBody at hb
  split at hb
  · rename_i fn hfn
    simp only [Bool.and_eq_true, Bool.not_eq_true'] at hb
    have hbody : fn.body.isNone = false := by
      cases hfb : fn.body with
      | none => rw [hfb] at hb; simp at hb
      | some b => rfl
    simp only [execOp, ho, resolve, hc, hx, Deferred.ofValue, Sem.run_bind, Sem.run_pure, Result.andThen_ok, invoke, callFunc]
    simp only [run_program, Result.andThen_ok, hfn, hb.1, hbody, Bool.false_eq_true, if_false, Sem.run_pure]
  · cases hb
theorem callee_ok (h : StR w0 N ρ φ f m a w) {c : Call} {g : FuncId} {pre post : List AV} (ho : o.op = .call c) (hc : calleeOf (aeval N f) c.callee = some (g, pre, post)) (hb : hasBody P g = true) :
    ∃ vals : List Value, (execOp a.eval o).run P w = .ok (.enter g vals.toArray) w ∧ Rels ρ (Sof w0 φ m w) w (pre ++ c.args.toList.map (aeval N f) ++ post) vals := by
  have hargs : Rels ρ (Sof w0 φ m w) w (c.args.toList.map (aeval N f)) (c.args.toList.map a.eval) := ⟨by simp, fun i x v hx hv => by
    rw [List.getElem?_map] at hx hv
    obtain ⟨q, hq, rfl⟩ := Option.map_eq_some_iff.1 hx
    obtain ⟨q', hq', rfl⟩ := Option.map_eq_some_iff.1 hv
    rw [hq] at hq'
    injection hq' with hq'
    subst hq'
    exact aeval_ok h q⟩
  have fin : ∀ (x : Operand) (us vs : Array Value), c.callee = .value x → a.eval x = .func (.func g) us vs → Rels ρ (Sof w0 φ m w) w pre us.toList → Rels ρ (Sof w0 φ m w) w post vs.toList → ∃ vals : List Value, (execOp a.eval o).run P w = .ok (.enter g vals.toArray) w ∧ Rels ρ (Sof w0 φ m w) w (pre ++ c.args.toList.map (aeval N f) ++ post) vals := fun x us vs hcx hx h1 h2 => by
    refine ⟨us.toList ++ c.args.toList.map a.eval ++ vs.toList, ?_, (h1.append hargs).append h2⟩
    rw [run_enter ho hcx hx hb]
    congr 2
    apply Array.ext'
    simp
  have nil : Rels ρ (Sof w0 φ m w) w [] [] := ⟨rfl, fun i x v h => by simp at h⟩
  unfold calleeOf at hc
  split at hc
  · rename_i g' hcx
    injection hc with hc
    injection hc with e1 e2
    injection e2 with e2 e3
    subst e1 e2 e3
    exact fin (.func g') #[] #[] hcx rfl nil nil
  · rename_i x _ hcx
    have hv := aeval_ok h x
    split at hc
    · rename_i g' first caps he
      injection hc with hc
      injection hc with e1 e2
      injection e2 with e2 e3
      subst e1 e2 e3
      rw [he] at hv
      have hv2 : View (Sof w0 φ m w) w (.fn g' first caps) (a.eval x) := hv
      generalize hx : a.eval x = u at hv2
      cases hv2 with
      | fn _ _ _ us vs xx h1 h2 hl hxx hy hz =>
      refine fin x us vs hcx hx ⟨by simp [h1], fun i y v hi hvi => ?_⟩ ⟨by simp [h2], fun i y v hi hvi => ?_⟩
      · rw [List.getElem?_map] at hi
        obtain ⟨q, hq, rfl⟩ := Option.map_eq_some_iff.1 hi
        have hvi' : us[i]? = some v := by simpa using hvi
        cases q with
        | inl l =>
          obtain ⟨h3, h4⟩ := hl i l hq
          rw [h3] at hvi'
          injection hvi' with hvi'
          subst hvi'
          refine ⟨xx i, rfl, by rw [h4]; simp, fun j d v hj hvj => ?_⟩
          rw [List.getElem?_map] at hj
          obtain ⟨d', hd', rfl⟩ := Option.map_eq_some_iff.1 hj
          have := hxx i l j d' v hq hd' hvj
          exact ⟨this, this.one⟩
        | inr d => exact hy i d v hq hvi'
      · rw [List.getElem?_map] at hi
        obtain ⟨q, hq, rfl⟩ := Option.map_eq_some_iff.1 hi
        exact hz i q v hq (by simpa using hvi)
    · rename_i g' caps he
      injection hc with hc
      injection hc with e1 e2
      injection e2 with e2 e3
      subst e1 e2 e3
      rw [he] at hv
      obtain ⟨vs, hx, hl, hvs⟩ := hv
      refine fin x #[] vs hcx hx nil ⟨by simp [hl], fun i y v hi hvi => ?_⟩
      rw [List.getElem?_map] at hi
      obtain ⟨p, hp, rfl⟩ := Option.map_eq_some_iff.1 hi
      exact hvs i p v hp (by simpa using hvi)
    · cases hc
  · cases hc
/-- A call, by a fact that fits. -/
theorem so_call (h : StR w0 N ρ φ f m a w) (c : Call) (z : Fact P) (fr : Nat) (pre post : List AV) (ho : o.op = .call c) (hc : calleeOf (aeval N f) c.callee = some (z.g, pre, post)) (hz : z.fits m fr (pre ++ c.args.toList.map (aeval N f) ++ post)) (hfr : ∀ k, Fresh f m (fr, k)) :
    Does P w0 N f m o a w z.ans (kills (z.ks m (pre ++ c.args.toList.map (aeval N f) ++ post)) ++ outs z.M1) := by
  generalize hxs : pre ++ c.args.toList.map (aeval N f) ++ post = xs at hz
  obtain ⟨vals, hrun, hrel⟩ := callee_ok (P := P) h ho hc z.ok.body
  rw [hxs] at hrel
  obtain ⟨_, hargs, hM0, hnd, hM1⟩ := hz
  intro K Q hK
  unfold Oper.wp
  rw [hrun]
  simp only [Oper.upon]
  have hIn : ∀ id o', mget z.M0 id = some o' → m id = some o' := fun id o' hi => (hM0 _ (mget_mem hi)).2.1
  have hks : ∀ b, Sof w0 φ m w b → Sof w0 φ (mupd m (kills (z.ks m xs))) w b := fun b hb => ⟨hb.1, fun id o' hi => by
    rw [mupd_kills] at hi
    split at hi
    · cases hi
    · exact hb.2.1 id o' hi, hb.2.2⟩
  have fresh : ∀ id ∈ z.M1.map (·.1), Fresh f m id ∨ mget z.M0 id ≠ none := fun id hid => by
    obtain ⟨p, hp, rfl⟩ := List.mem_map.1 hid
    rcases hM1 p hp with h1 | h1
    · left
      have e : p.1 = (fr, p.1.2) := Prod.ext h1 rfl
      rw [e]
      exact hfr p.1.2
    · right
      obtain ⟨q, hq, e⟩ := List.mem_map.1 h1
      rw [← e]
      have key : ∀ (M : LM), (M.map (·.1)).Nodup → (∀ p ∈ M, p.2 ≠ none) → ∀ q ∈ M, mget M q.1 ≠ none := by
        intro M
        induction M with
        | nil => intro _ _ q hq; cases hq
        | cons u M ih =>
          intro h1 h2 q hq
          simp only [mget, mput, mset]
          by_cases e : q.1 = u.1
          · rw [if_pos e]; exact h2 u (by simp)
          · rw [if_neg e]
            simp only [List.map_cons, List.nodup_cons] at h1
            rcases List.mem_cons.1 hq with e2 | hq
            · exact absurd (by rw [e2]) e
            · exact ih h1.2 (fun p hp => h2 p (List.mem_cons_of_mem _ hp)) q hq
      exact key z.M0 hnd (fun p hp => (hM0 p hp).1) q hq
  cases hraw : z.raw with
  | true =>
    simp only [hraw, if_true] at hargs
    have hksr : z.ks m xs = z.M0.map (·.1) := by simp [Fact.ks, hraw]
    have hcalls := z.ok.calls (Sof w0 φ m w) (fun b => ∃ id o', mget z.M0 id = some o' ∧ φ id b) ρ φ w vals (fun b hb => ⟨hb.1, fun ⟨id, o', h1, h2⟩ => hb.2.1 id o' (hIn id o' h1) h2⟩) (fun b ⟨id, o', h1, h2⟩ => h.lt id o' b (hIn id o' h1) h2) (by rw [hargs]; exact hrel.1) (by rw [hargs]; exact hrel.2)
      (fun id o' hi => h.objs id o' (hIn id o' hi)) (fun id o' b hi hb => ⟨id, o', hi, hb⟩) (fun id id' o1 o2 b h1 h2 => h.disj id id' o1 o2 b (hIn id o1 h1) (hIn id' o2 h2))
    refine hcalls.mono fun e' w' hpost => ?_
    obtain ⟨v, rfl, hst⟩ := h.join o.dst (ks := z.ks m xs) hpost z.ok.shut fresh (fun id hid => by
      cases e : mget z.M0 id with
      | none => exact absurd e hid
      | some o' => exact ⟨by rw [hksr]; exact List.mem_map.2 ⟨_, mget_mem e, rfl⟩, o', hIn id o' e⟩) (fun b ⟨id, o', h1, h2⟩ => ⟨id, o', by rw [h1]; simp, hIn id o' h1, h2⟩) (.inr hks)
    exact hK _ _ hst
  | false =>
    have hM00 := z.r0 hraw
    simp only [hraw, Bool.false_eq_true, if_false] at hargs
    obtain ⟨hl, hg⟩ := frzAVs_get hargs
    have hno : ∀ id, ¬ (mget z.M0 id ≠ none) := fun id => by rw [hM00]; simp [mget]
    have go : ∀ (T : Nat → Prop), (∀ b, T b → b < w.heap.size) → (∀ b, Sof w0 φ m w b → T b) → (∀ x ∈ xs, ∀ id o' b, id ∈ reachAV m x → m id = some o' → φ id b → T b) → ((z.clean = true) ∨ ∀ b, T b → Sof w0 φ (mupd m (kills (z.ks m xs))) w b) → ∀ (R : Ending → World → Prop), (∀ v w', St w0 N (fput f o.dst z.ans) (mupd m (kills (z.ks m xs) ++ outs z.M1)) (a.put o.dst v) w' → R (.returned v) w') → Calls P z.g vals.toArray w R := fun T hTs hT hTr hTc R hR => by
      have hcalls := z.ok.calls T (fun _ => False) ρ φ w vals (fun b hb => ⟨hTs b hb, fun h => h⟩) (fun b h => h.elim) (by rw [hl]; exact hrel.1) (fun i x v hx hv => by
          have hil : i < xs.length := by rw [← hl]; exact (List.getElem?_eq_some_iff.1 hx).1
          obtain ⟨y, hy, hf⟩ := hg i _ (List.getElem?_eq_getElem hil)
          rw [hx] at hy
          injection hy with hy
          subst hy
          exact frzAV_ok h hf (hrel.2 i _ v (List.getElem?_eq_getElem hil) hv) hT (hTr _ (List.getElem_mem hil)))
        (fun id o' hi => absurd (by rw [hi]; simp) (hno id)) (fun id o' b hi => absurd (by rw [hi]; simp) (hno id)) (fun id id' o1 o2 b h1 => absurd (by rw [h1]; simp) (hno id))
      refine hcalls.mono fun e' w' hpost => ?_
      obtain ⟨v, rfl, hst⟩ := h.join o.dst (ks := z.ks m xs) hpost z.ok.shut fresh (fun id hid => absurd hid (hno id)) (fun b h => h.elim) (hTc.imp (fun hcl => by
        simp only [Fact.clean, Bool.and_eq_true] at hcl
        exact ⟨hcl.1, fun i o' hi => by
          have := List.all_eq_true.1 hcl.2 _ (mget_mem hi)
          exact this⟩) id)
      exact hR _ _ hst
    by_cases hcl : z.clean = true
    · exact go (fun b => b < w.heap.size) (fun _ h => h) (fun b hb => hb.1) (fun x _ id o' b _ hm hf => h.lt id o' b hm hf) (.inl hcl) _ fun v w' hst => hK _ _ hst
    · have hksf : z.ks m xs = xs.flatMap (reachAV m) := by simp [Fact.ks, hraw, hcl]
      refine go (Sof w0 φ (mupd m (kills (z.ks m xs))) w) (fun b hb => hb.1) hks (fun x hx id o' b hid hm hf => ⟨h.lt id o' b hm hf, fun i o1 hi hf1 => ?_, ?_⟩) (.inr fun _ h => h) _ fun v w' hst => hK _ _ hst
      · rw [mupd_kills] at hi
        split at hi
        · cases hi
        · rename_i hni
          rw [h.disj i id o1 o' b hi hm hf1 hf, hksf] at hni
          exact hni (List.mem_flatMap.2 ⟨x, hx, hid⟩)
      · rcases h.base id o' b hm hf with h1 | h1
        · exact .inr (.inl h1)
        · exact .inr (.inr h1)
end
end Go.Proofs.Yteohodhcegbmmaa
