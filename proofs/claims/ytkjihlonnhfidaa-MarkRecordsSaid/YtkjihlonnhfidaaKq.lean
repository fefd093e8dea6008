/- A region that draws its order: the rule. No condition. -/
import Derived.Test.YtkjihlonnhfidaaKp
set_option linter.unusedSimpArgs false
set_option linter.unusedVariables false
namespace Go.Proofs.Ytkjihlonnhfidaa
open Go.RowKit

section
variable {P : Program} {Z : List (Fact P)} {w0 : Bas} {N : Nat} {l : List Oper} {nx : Nat} {s : S2} {rs : List Rec} {Q : Exit → Act → World → Prop}

/-- One operation out of turn. -/
theorem any_step (hpos : 0 < nx) (h : Runs P Z N l l nx s rs) (hb : Names (· < nx) s) (hc : chk l nx (rs.map Rec.tr) = true) {L L' : Nat → Bool} (hL : Closed l L) {i : Nat} {o : Oper} (hi : l[i]? = some o) (hLi : L i = false) (hready : ∀ e ∈ o.after, Region.binds .any e = true → L e.on = true)
    (hL' : ∀ k, L' k = (L k || decide (k = i))) {a : Act} {w : World} (hst : St w0 N (app L rs s).1 (app L rs s).2 a w) {K : Act → World → Prop} (hK : ∀ a' w', St w0 N (app L' rs s).1 (app L' rs s).2 a' w' → K a' w') : wpOp P l.toArray Q i K a w := by
  obtain ⟨r, hr, hd, hV, hR, hs⟩ := h.at_ hi
  have hlen := h.len
  have hL'c : Closed l L' := fun k y hk hy e he hbi => by
    rw [hL'] at hy ⊢
    by_cases ek : k = i
    · subst ek
      rw [hi] at hk
      injection hk with hk
      subst hk
      rw [hready e he hbi]
      rfl
    · simp only [ek, decide_false, Bool.or_false] at hy
      rw [hL k y hk hy e he hbi]
      rfl
  have hL'i : L' i = true := by rw [hL']; simp
  have rec_op : ∀ (k : Nat) (q : Rec), rs[k]? = some q → ∃ y : Oper, l[k]? = some y ∧ q.dst = y.dst := fun k q hq => by
    have hk : k < l.length := by rw [← hlen]; exact (List.getElem?_eq_some_iff.1 hq).1
    obtain ⟨q', h1, h2, _⟩ := h.at_ (List.getElem?_eq_getElem hk)
    rw [hq] at h1
    injection h1 with h1
    subst h1
    exact ⟨_, List.getElem?_eq_getElem hk, h2⟩
  -- no later one that meets it is listed; each earlier one that it meets is
  have late : ∀ k q y, rs[k]? = some q → l[k]? = some y → i < k → meets (nx + i) ⟨o.dst, o.looksAt l.toArray, r.R, r.W, r.V⟩ ⟨y.dst, y.looksAt l.toArray, q.R, q.W, q.V⟩ = true → L k = false := fun k q y hq hy hik hm => by
    cases hLk : L k
    · rfl
    · rw [chk_waits hc hL hik hi hy hr hq hm hLk] at hLi
      cases hLi
  have early : ∀ k q y, rs[k]? = some q → l[k]? = some y → k < i → meets (nx + k) ⟨y.dst, y.looksAt l.toArray, q.R, q.W, q.V⟩ ⟨o.dst, o.looksAt l.toArray, r.R, r.W, r.V⟩ = true → L k = true := fun k q y hq hy hik hm => by
    have := chk_waits hc hL'c hik hy hi hq hr hm hL'i
    rw [hL'] at this
    simpa [show k ≠ i by omega] using this
  have hf : ∀ t ∈ o.looksAt l.toArray, (app L rs s).1 t = (app (fun k => decide (k < i)) rs s).1 t := fun t ht => app_slot rfl fun k q hq hqd => by
    obtain ⟨y, hy, hqy⟩ := rec_op k q hq
    rcases Nat.lt_trichotomy k i with h1 | h1 | h1
    · rw [early k q y hq hy h1 (by simp [meets, ← hqy, hqd, ht])]
      simp [h1]
    · subst h1
      simp [hLi]
    · rw [late k q y hq hy h1 (by simp only [meets, ← hqy, hqd]; simp [ht])]
      simp
      omega
  have hm : ∀ id ∈ opN (app (fun k => decide (k < i)) rs s).2 (aeval N (app (fun k => decide (k < i)) rs s).1) o, (app L rs s).2 id = (app (fun k => decide (k < i)) rs s).2 id := fun id hid => app_name rfl fun k q hq hqW => by
    have hid : id.1 ∈ r.R := by rw [hR]; exact List.mem_map.2 ⟨id, hid, rfl⟩
    obtain ⟨y, hy, hqy⟩ := rec_op k q hq
    rcases Nat.lt_trichotomy k i with h1 | h1 | h1
    · rw [early k q y hq hy h1 (by
        simp only [meets, Bool.or_eq_true]
        exact .inl (.inl (.inr (List.any_eq_true.2 ⟨id.1, hqW, by simp [hid]⟩))))]
      simp [h1]
    · subst h1
      simp [hLi]
    · rw [late k q y hq hy h1 (by
        simp only [meets, Bool.or_eq_true]
        exact .inl (.inr (List.any_eq_true.2 ⟨id.1, hid, by simp [hqW]⟩)))]
      simp; omega
  have hfresh : ∀ k, Fresh (app L rs s).1 (app L rs s).2 (nx + i, k) := by
    refine Names.fresh ((hb.mono fun id (hid : id < nx) => (by omega : id ≠ nx + i)).app fun k q hq hLk id hid => ?_) (by omega)
    obtain ⟨y, hy, hqy⟩ := rec_op k q hq
    rcases Nat.lt_trichotomy k i with h1 | h1 | h1
    · obtain ⟨q', h3, _, h4, _⟩ := h.at_ hy
      rw [hq] at h3
      injection h3 with h3
      subst h3
      have := h4 id hid
      omega
    · subst h1
      rw [hLi] at hLk
      cases hLk
    · intro e
      subst e
      rw [late k q y hq hy h1 (by
        simp only [meets, Bool.or_eq_true]
        exact .inr (by simp [hid]))] at hLk
      cases hLk
  have hs' := (gstep_congr (P := P) (Z := Z) (fr := nx + i) hf hm).trans hs
  refine gstep_ok hst hfresh hs' (by simpa using hi) fun a' w' hst' => hK a' w' ?_
  have e1 : (app L' rs s).1 = fput (app L rs s).1 o.dst r.v := by
    funext t
    by_cases ht : r.dst = some t
    · rw [app_lastSlot hr hL'i ht fun k q hik hq hLk hqd => ?_]
      · rw [← hd, ht]; simp [fput]
      · obtain ⟨y, hy, hqy⟩ := rec_op k q hq
        rw [hL', late k q y hq hy hik (by simp [meets, ← hd, ht, ← hqy, hqd])] at hLk
        simp at hLk
        omega
    · have e : fput (app L rs s).1 o.dst r.v t = (app L rs s).1 t := by
        rw [← hd]
        cases hrd : r.dst with
        | none => rfl
        | some d => simp only [fput]; rw [if_neg (fun e => ht (by rw [hrd, e]))]
      rw [e]
      refine app_slot rfl fun k q hq hqd => ?_
      have : k ≠ i := fun e => by
        subst e
        rw [hr] at hq
        injection hq with hq
        subst hq
        exact ht hqd
      rw [hL']
      simp [this]
  have e2 : (app L' rs s).2 = mupd (app L rs s).2 r.U := by
    funext id
    by_cases ht : id.1 ∈ r.W
    · refine app_lastName hr hL'i hLi (fun k hk => by rw [hL']; simp [hk]) fun k q hik hq hLk hqW => ?_
      obtain ⟨y, hy, hqy⟩ := rec_op k q hq
      rw [hL', late k q y hq hy hik (by
        simp only [meets, Bool.or_eq_true]
        exact .inl (.inl (.inr (List.any_eq_true.2 ⟨id.1, ht, by simp [hqW]⟩))))] at hLk
      simp at hLk
      omega
    · rw [mupd_other ht]
      refine app_name rfl fun k q hq hqW => ?_
      have : k ≠ i := fun e => by
        subst e
        rw [hr] at hq
        injection hq with hq
        subst hq
        exact ht hqW
      rw [hL']
      simp [this]
  rw [e1, e2]
  exact hst'

def unl (listed : Array Bool) : Nat := listed.toList.countP (fun b => !b)
theorem unl_set {listed : Array Bool} {i : Nat} (h : listed.getD i true = false) : unl listed = unl (listed.setIfInBounds i true) + 1 := by
  have hi : i < listed.size := by
    rcases Nat.lt_or_ge i listed.size with h1 | h1
    · exact h1
    · rw [Array.getD_eq_getD_getElem?, Array.getElem?_eq_none h1] at h
      cases h
  have hv : listed.toList[i]'(by simpa using hi) = false := by simpa [Array.getD_eq_getD_getElem?, hi] using h
  unfold unl
  rw [Array.toList_setIfInBounds, List.countP_set (by simpa using hi), hv]
  have : 0 < listed.toList.countP (fun b => !b) := List.countP_pos_iff.2 ⟨false, by rw [← hv]; exact List.getElem_mem _, rfl⟩
  simp only [Bool.not_false, if_true, Bool.not_true, Bool.false_eq_true, if_false]
  omega

theorem any_ok (hpos : 0 < nx) (h : Runs P Z N l l nx s rs) (hb : Names (· < nx) s) (hc : chk l nx (rs.map Rec.tr) = true) (hQ : ∀ a w, St w0 N (app (fun _ => true) rs s).1 (app (fun _ => true) rs s).2 a w → Q .normal a w) :
    ∀ (fuel : Nat) (listed : Array Bool) (a : Act) (w : World), listed.size = l.length → unl listed = fuel → Closed l (fun k => listed.getD k false) → St w0 N (app (fun k => listed.getD k false) rs s).1 (app (fun k => listed.getD k false) rs s).2 a w → wpAny P .any l.toArray Q fuel listed a w := by
  have hchk := hc
  simp only [chk, Bool.and_eq_true] at hchk
  have done : ∀ (listed : Array Bool) (a : Act) (w : World), listed.size = l.length → Region.ready .any l.toArray listed = [] → St w0 N (app (fun k => listed.getD k false) rs s).1 (app (fun k => listed.getD k false) rs s).2 a w → Q .normal a w := by
    intro listed a w hsz hr hst
    have all : ∀ n k, k ≤ n → k < l.length → listed.getD k false = true := by
      intro n
      induction n with
      | zero =>
        intro k hkn hk
        have hk0 : k = 0 := by omega
        subst hk0
        cases hg : listed.getD 0 false with
        | true => rfl
        | false =>
          have : (0 : Nat) ∈ Region.ready .any l.toArray listed := mem_ready.2 ⟨by simpa [Array.getD_eq_getD_getElem?, hsz, hk] using hg, l[0], by simp [hk], fun e he hbi => by
            have := (okMasks_at hchk.1 (List.getElem?_eq_getElem hk)).2 e he hbi
            omega⟩
          rw [hr] at this
          cases this
      | succ n ih =>
        intro k hkn hk
        cases hg : listed.getD k false with
        | true => rfl
        | false =>
          have : k ∈ Region.ready .any l.toArray listed := mem_ready.2 ⟨by simpa [Array.getD_eq_getD_getElem?, hsz, hk] using hg, l[k], by simp [hk], fun e he hbi => by
            have := (okMasks_at hchk.1 (List.getElem?_eq_getElem hk)).2 e he hbi
            exact ih e.on (by omega) (by omega)⟩
          rw [hr] at this
          cases this
    rw [app_ext (L' := fun _ => true) fun k hk => all k k (Nat.le_refl _) (by rw [← h.len]; exact hk)] at hst
    exact hQ a w hst
  have stepAll : ∀ (listed : Array Bool) (a : Act) (w : World) (i : Nat), listed.size = l.length → i ∈ Region.ready .any l.toArray listed → Closed l (fun k => listed.getD k false) → St w0 N (app (fun k => listed.getD k false) rs s).1 (app (fun k => listed.getD k false) rs s).2 a w →
      ∀ {K : Act → World → Prop}, (∀ a' w', Closed l (fun k => (listed.setIfInBounds i true).getD k false) → St w0 N (app (fun k => (listed.setIfInBounds i true).getD k false) rs s).1 (app (fun k => (listed.setIfInBounds i true).getD k false) rs s).2 a' w' → K a' w') → wpOp P l.toArray Q i K a w := by
    intro listed a w i hsz hi hcl hst K hK
    obtain ⟨h0, o, ho, hall⟩ := mem_ready.1 hi
    have ho' : l[i]? = some o := by simpa using ho
    have hil : i < l.length := (List.getElem?_eq_some_iff.1 ho').1
    have hL' : ∀ k, (listed.setIfInBounds i true).getD k false = (listed.getD k false || decide (k = i)) := fun k => by
      by_cases e : k = i
      · subst e
        simp [Array.getD_eq_getD_getElem?, hsz, hil]
      · simp [Array.getD_eq_getD_getElem?, Ne.symm e, e]
    have h0' : listed.getD i false = false := by simpa [Array.getD_eq_getD_getElem?, hsz, hil] using h0
    refine any_step hpos h hb hc hcl ho' h0' hall hL' hst fun a' w' hst' => hK a' w' (fun k y hk hy e he hbi => ?_) hst'
    simp only [hL'] at hy ⊢
    by_cases ek : k = i
    · subst ek
      rw [ho'] at hk
      injection hk with hk
      subst hk
      rw [hall e he hbi]
      rfl
    · simp only [ek, decide_false, Bool.or_false] at hy
      have := hcl k y hk hy e he hbi
      simp only at this
      rw [this]
      rfl
  intro fuel
  induction fuel with
  | zero =>
    intro listed a w hsz hun hcl hst
    have hr : Region.ready .any l.toArray listed = [] := by
      rw [List.eq_nil_iff_forall_not_mem]
      intro i hi
      have := unl_set (mem_ready.1 hi).1
      omega
    exact ⟨hr, done listed a w hsz hr hst⟩
  | succ fuel ih =>
    intro listed a w hsz hun hcl hst
    refine ⟨fun hr => done listed a w hsz hr hst, fun i hi => stepAll listed a w i hsz hi hcl hst fun a' w' hcl' hst' => ih _ a' w' (by simpa using hsz) ?_ hcl' hst'⟩
    have := unl_set (mem_ready.1 hi).1
    omega

theorem wp_drawn (hpos : 0 < nx) (hm : P.follows .mixedOrders = true) {id : Nat} {a : Act} {w : World} (h : Runs P Z N l l nx s rs) (hb : Names (· < nx) s) (hc : chk l nx (rs.map Rec.tr) = true) (hst : St w0 N s.1 s.2 a w)
    (hQ : ∀ a w, St w0 N (app (fun _ => true) rs s).1 (app (fun _ => true) rs s).2 a w → Q .normal a w) : (Code.region id l.toArray true).wp P Q a w := by
  have hf : (fun k => (Array.replicate l.toArray.size false).getD k false) = fun _ => false := by
    funext k
    simp [Array.getD_eq_getD_getElem?, Array.getElem?_replicate]
    split <;> rfl
  refine wp_region_any hm (any_ok hpos h hb hc hQ _ _ _ _ (by simp) (by simp [unl, List.countP_replicate]) ?_ ?_)
  · rw [hf]
    intro i o _ hi
    cases hi
  · rw [hf, app_false]
    exact hst.drew
end
end Go.Proofs.Ytkjihlonnhfidaa
