/- The rest of an own row, as a row of its own. No condition. -/
import Derived.Test.YteohodhcegbmmaaKzm
set_option linter.unusedSimpArgs false
set_option linter.unusedVariables false
namespace Go.Proofs.Yteohodhcegbmmaa
open Go.RowKit

def noIdF (id : Nm) (t : Nat) (F : LF) : Bool := F.all fun p => Nat.beq p.1 t || p.2.ids.all fun i => !decide (i = id)
def noIdM (id : Nm) (M : LM) : Bool := M.all fun u => match u.2 with
  | some o => o.ids.all fun i => !decide (i = id)
  | none => true
theorem noIdF_get {id : Nm} {t : Nat} : ∀ {F : LF}, noIdF id t F = true → ∀ k, k ≠ t → id ∉ (fget F k).ids
  | [], _, k, _ => by simp [fget, AV.ids, Cell.ids]
  | p :: F, h, k, hk => by
    simp only [noIdF, List.all_cons, Bool.and_eq_true] at h
    simp only [fget]
    split
    · rename_i e
      rw [← e] at h
      intro hid
      rcases Bool.or_eq_true _ _ ▸ h.1 with h1 | h1
      · exact hk (Nat.eq_of_beq_eq_true h1)
      · have := List.all_eq_true.1 h1 id hid
        simp at this
    · exact noIdF_get (F := F) h.2 k hk
theorem noIdM_get {id : Nm} {M : LM} (h : noIdM id M = true) {q : Nm} {o : AObj} (hq : mget M q = some o) : id ∉ o.ids := by
  intro hid
  have := List.all_eq_true.1 h _ (mget_mem hq)
  simp only at this
  have := List.all_eq_true.1 this id hid
  simp at this
section
variable {P : Program} {w0 : Bas} {N nx : Nat} {F : LF} {M : LM} {a : Act} {w : World}
/-- The rule: the rest of an own row, that nothing else names, is an own row. -/
theorem SL.tail (h : SL w0 N nx F M a w) (t : Nat) (id : Nm) {ty sz off n : Nat} {l : List (List Cell)} (ht : fget F t = .one (.sub id sz off n)) (hm : mget M id = some (.row ty sz l)) (hn : off + n = l.length) (h0 : Nat.blt 0 id.1 = true) (hF : noIdF id t F = true) (hM : noIdM id M = true) :
    SL w0 N nx ((t, .one (.own id n)) :: F) ((id, some (.row ty sz (l.drop off))) :: M) a w := by
  obtain ⟨⟨ρ, φ, hst⟩, hnm, hp⟩ := h
  have h0' : id.1 ≠ 0 := by
    rw [Nat.blt_eq] at h0
    omega
  have hFk := noIdF_get hF
  have hMk : ∀ {q : Nm} {o : AObj}, mget M q = some o → id ∉ o.ids := fun hq => noIdM_get hM hq
  have hdom : ∀ q o, mset (mget M) id (some (.row ty sz (l.drop off))) q = some o → ∃ o', mget M q = some o' := fun q o hq => by
    simp only [mset] at hq
    split at hq
    · rename_i e
      rw [e]
      exact ⟨_, hm⟩
    · exact ⟨o, hq⟩
  have hS : ∀ b, Sof w0 φ (mget M) w b → Sof w0 φ (mset (mget M) id (some (.row ty sz (l.drop off)))) w b := fun b hb => ⟨hb.1, fun q o hq => by
    obtain ⟨o', hq'⟩ := hdom q o hq
    exact hb.2.1 q o' hq', hb.2.2⟩
  have hrow := hst.objs id _ hm
  have main : ∃ pl : Option (Nat × Nat × Nat), (∀ v, a.tmps[t]? = some v → CV (pset ρ id pl) (Sof w0 φ (mset (mget M) id (some (.row ty sz (l.drop off)))) w) w (.own id n) v) ∧ OR (pset ρ id pl) φ (Sof w0 φ (mset (mget M) id (some (.row ty sz (l.drop off)))) w) w id (.row ty sz (l.drop off)) := by
    have hlen : (l.drop off).length = n := by rw [List.length_drop]; omega
    have hρ : ∀ pl, ∀ i, i ≠ id → pset ρ id pl i = ρ i := fun pl i hi => if_neg hi
    have hreg : ∀ v, a.tmps[t]? = some v → CV ρ (Sof w0 φ (mget M) w) w (.sub id sz off n) v := fun v hv => by
      have := hst.regs t v hv
      rw [ht] at this
      exact this
    rcases hrow.2 with ⟨hr, hl⟩ | ⟨b, base, cap, hr, hrr⟩
    · refine ⟨none, fun v hv => ?_, by rw [hlen]; have := hrow.1; omega, .inl ⟨if_pos rfl, by rw [hl]; simp⟩⟩
      rcases hreg v hv with ⟨b, base, cap, A, hr', _⟩ | ⟨_, _, hz, A, hv⟩
      · rw [hr] at hr'; cases hr'
      · exact .inr ⟨if_pos rfl, hz, A, hv⟩
    · obtain ⟨cur, G, g1, g2, g3, g4, g5, g6, g7⟩ := hrr.at_ off (n := n) (by omega)
      by_cases hcap : off < cap
      · refine ⟨some (b, base + off * sz, cap - off), fun v hv => ?_, by rw [hlen]; have := hrow.1; omega, .inr ⟨b, base + off * sz, cap - off, if_pos rfl, cur, G, g1, g2, by rw [hlen]; omega, ?_, fun i r hi => ?_, g6, g7⟩⟩
        · rcases hreg v hv with ⟨b', base', cap', A, hr', _, hv, hA⟩ | ⟨hr', _⟩
          · rw [hr] at hr'
            injection hr' with hr'
            injection hr' with e1 e2
            injection e2 with e2 e3
            subst e1 e2 e3
            exact .inl ⟨b, base + off * sz, cap - off, if_pos rfl, by rw [hv, hA hcap]⟩
          · rw [hr] at hr'; cases hr'
        · rw [Nat.add_assoc, ← Nat.add_mul, show off + (cap - off) = cap by omega]
          exact g4
        · have hi' : ((l.drop off).take n)[i]? = some r := by
            rw [List.take_of_length_le (by omega)]
            exact hi
          obtain ⟨k1, k2⟩ := g5 i r hi'
          refine ⟨k1, fun j d hd => ?_⟩
          obtain ⟨v, hv, k3⟩ := k2 j d hd
          refine ⟨v, hv, k3.next (fun _ _ => rfl) hS (fun i2 hi2 => hρ _ i2 fun e => ?_) (fun _ _ => rfl) fun _ hb => hb⟩
          subst e
          exact hMk hm (List.mem_flatMap.2 ⟨r, List.mem_of_mem_drop (List.mem_of_getElem? hi), List.mem_flatMap.2 ⟨d, List.mem_of_getElem? hd, hi2⟩⟩)
      · have hz : n = 0 := by omega
        refine ⟨none, fun v hv => ?_, by rw [hlen]; omega, .inl ⟨if_pos rfl, List.eq_nil_of_length_eq_zero (by omega)⟩⟩
        rcases hreg v hv with ⟨b', base', cap', A, hr', _, hv, hA⟩ | ⟨hr', _⟩
        · rw [hr] at hr'
          injection hr' with hr'
          injection hr' with e1 e2
          injection e2 with e2 e3
          subst e1 e2 e3
          refine .inr ⟨if_pos rfl, hz, A, ?_⟩
          rw [hv, hz, show cap - off = 0 by omega]
        · rw [hr] at hr'; cases hr'
  obtain ⟨pl, hcv, hor⟩ := main
  have hρ : ∀ i, i ≠ id → pset ρ id pl i = ρ i := fun i hi => if_neg hi
  refine ⟨⟨pset ρ id pl, φ, hst.mv, hst.dfr, hst.size, fun k v hk => ?_, fun q o hq => ?_, fun q o b hq hf => ?_, fun q o b hq hf => ?_, fun q q' o o' b hq hq' hf hf' => ?_, fun q o hz hq => ?_⟩, ⟨fun k q hq => ?_, fun q o hq => ?_⟩, hp⟩
  · simp only [fget]
    by_cases e : k = t
    · subst e
      rw [if_pos rfl]
      exact hcv v hk
    · rw [if_neg e]
      exact (hst.regs k v hk).next (fun _ _ => rfl) hS fun i hi => hρ i fun e2 => hFk k e (by rw [← e2]; exact hi)
  · simp only [mget, mput] at hq
    by_cases e : q = id
    · subst e
      simp only [mset, if_true] at hq
      injection hq with hq
      subst hq
      exact hor
    · simp only [mset, if_neg e] at hq
      exact (hst.objs q o hq).next (fun _ _ => rfl) hS (fun i hi => hρ i fun e2 => hMk hq (by rw [← e2]; exact hi)) (hρ q e) (fun _ _ => rfl) fun _ hb => hb
  · obtain ⟨o', hq'⟩ := hdom q o hq
    exact hst.lt q o' b hq' hf
  · obtain ⟨o', hq'⟩ := hdom q o hq
    exact hst.base q o' b hq' hf
  · obtain ⟨o1, h1⟩ := hdom q o hq
    obtain ⟨o2, h2⟩ := hdom q' o' hq'
    exact hst.disj q q' o1 o2 b h1 h2 hf hf'
  · obtain ⟨o', hq'⟩ := hdom q o hq
    rw [hρ q fun e => h0' (by rw [← e]; exact hz)]
    exact hst.stab q o' hz hq'
  · simp only [fget] at hq
    by_cases e : k = t
    · subst e
      rw [if_pos rfl] at hq
      simp only [AV.ids, Cell.ids, List.mem_singleton] at hq
      rw [hq]
      exact (hnm.2 id _ hm).1
    · rw [if_neg e] at hq
      exact hnm.1 k q hq
  · simp only [mget, mput, mset] at hq
    split at hq
    · rename_i e
      injection hq with hq
      subst hq
      rw [e]
      refine ⟨(hnm.2 id _ hm).1, fun p hp => (hnm.2 id _ hm).2 p ?_⟩
      obtain ⟨r, hr, hp⟩ := List.mem_flatMap.1 hp
      exact List.mem_flatMap.2 ⟨r, List.mem_of_mem_drop hr, hp⟩
    · exact hnm.2 q o hq
end
end Go.Proofs.Yteohodhcegbmmaa
