/- A region that draws its order: the rule. No condition. -/
import Derived.Test.YteohodhcegbmmaaKp
set_option linter.unusedSimpArgs false
set_option linter.unusedVariables false
namespace Go.Proofs.Yteohodhcegbmmaa
open Go.RowKit

section
variable {P : Program} {Z : List (Fact P)} {w0 : Bas} {N : Nat} {l : List Oper} {nx : Nat} {s : S2} {rs : List Rec} {Q : Exit → Act → World → Prop}

/-- One operation out of turn. -/
theorem any_step (hpos : 0 < nx) (h : Runs P Z N l l nx s rs) (hb : Names (· < nx) s) (hc : chk l nx (rs.map Rec.tr) = true) {L L' : Nat → Bool} (hL : Closed l L) {i : Nat} {o : Oper} (hi : l[i]? = some o) (hLi : L i = false) (hready : ∀ e ∈ o.after, Region.binds .any e = true → L e.on = true)
    (hL' : ∀ k, L' k = (L k || decide (k = i))) {a : Act} {w : World} (hst : St w0 N (app L rs s).1 (app L rs s).2 a w) {K : Act → World → Prop} (hK : ∀ a' w', St w0 N (app L' rs s).1 (app L' rs s).2 a' w' → K a' w') : wpOp P l.toArray Q i K a w := by
  obtain ⟨r, hr, hd, hV, hR, hs⟩ := h.at_ hi
  have hlen := h.len
  have hL'c : Closed l L' := fun k y hk hy e he hbi => by
    rw [hL'] at hy ⊢
    by_cases ek : k = i
    · subst ek
      rw [hi] at hk
      injection hk with hk
      subst hk
      rw [hready e he hbi]
      rfl
    · simp only [ek, decide_false, Bool.or_false] at hy
      rw [hL k y hk hy e he hbi]
      rfl
  have hL'i : L' i = true := by rw [hL']; simp
  have rec_op : ∀ (k : Nat) (q : Rec), rs[k]? = some q → ∃ y : Oper, l[k]? = some y ∧ q.dst = y.dst := fun k q hq => by
    have hk : k < l.length := by rw [← hlen]; exact (List.getElem?_eq_some_iff.1 hq).1
    obtain ⟨q', h1, h2, _⟩ := h.at_ (List.getElem?_eq_getElem hk)
    rw [hq] at h1
    injection h1 with h1
    subst h1
    exact ⟨_, List.getElem?_eq_getElem hk, h2⟩
  -- no later one that meets it is listed; each earlier one that it meets is
  have late : ∀ k q y, rs[k]? = some q → l[k]? = some y → i < k → meets (nx + i) ⟨o.dst, o.looksAt l.toArray, r.R, r.W, r.V, lkOf o, meOf o⟩ ⟨y.dst, y.looksAt l.toArray, q.R, q.W, q.V, lkOf y, meOf y⟩ = true → L k = false := fun k q y hq hy hik hm => by
    cases hLk : L k
    · rfl
    · rw [chk_waits hc hL hik hi hy hr hq hm hLk] at hLi
      cases hLi
  have early : ∀ k q y, rs[k]? = some q → l[k]? = some y → k < i → meets (nx + k) ⟨y.dst, y.looksAt l.toArray, q.R, q.W, q.V, lkOf y, meOf y⟩ ⟨o.dst, o.looksAt l.toArray, r.R, r.W, r.V, lkOf o, meOf o⟩ = true → L k = true := fun k q y hq hy hik hm => by
    have := chk_waits hc hL'c hik hy hi hq hr hm hL'i
    rw [hL'] at this
    simpa [show k ≠ i by omega] using this
  have hf : ∀ t ∈ o.looksAt l.toArray, (app L rs s).1 t = (app (fun k => decide (k < i)) rs s).1 t := fun t ht => app_slot rfl fun k q hq hqd => by
    obtain ⟨y, hy, hqy⟩ := rec_op k q hq
    rcases Nat.lt_trichotomy k i with h1 | h1 | h1
    · rw [early k q y hq hy h1 (by simp [meets, ← hqy, hqd, ht])]
      simp [h1]
    · subst h1
      simp [hLi]
    · rw [late k q y hq hy h1 (by simp only [meets, ← hqy, hqd]; simp [ht])]
      simp
      omega
  have exempt : (∃ k q y, rs[k]? = some q ∧ l[k]? = some y ∧ i < k ∧ L k = true ∧ (lkOf o).isSome = true ∧ lkOf o = meOf y) ∨ ∀ k q y, rs[k]? = some q → l[k]? = some y → i < k → L k = true → ((lkOf o).isSome && lkOf o == meOf y) = false := by
    by_cases hx : ∃ k q y, rs[k]? = some q ∧ l[k]? = some y ∧ i < k ∧ L k = true ∧ (lkOf o).isSome = true ∧ lkOf o = meOf y
    · exact .inl hx
    · refine .inr fun k q y h1 h2 h3 h4 => ?_
      cases h5 : (lkOf o).isSome
      · rfl
      · simp only [Bool.true_and, beq_eq_false_iff_ne, ne_eq]
        exact fun h6 => hx ⟨k, q, y, h1, h2, h3, h4, h5, h6⟩
  have hgs : gstep P Z (aeval N (app L rs s).1) (app L rs s).2 (nx + i) (gof l o) o = some (r.v, r.U) := by
    rcases exempt with ⟨k, q, y, hq, hy, hik, hLk, hsome, hsame⟩ | hno
    · -- an entry of the same key has come ahead of the look-up
      obtain ⟨t, a1, b1, hoo⟩ : ∃ t a1 b1, o.op = .lookup t (.tmp a1) (.tmp b1) false := by
        unfold lkOf at hsome
        split at hsome
        · exact ⟨_, _, _, ‹_›⟩
        · cases hsome
      have hyo : y.op = .mapEntry t (.tmp a1) (.tmp b1) := by
        have e1 : lkOf o = some (t, a1, b1) := by simp only [lkOf, hoo]
        rw [e1] at hsame
        unfold meOf at hsame
        split at hsame
        · rename_i t' a' b' e2
          injection hsame with hsame
          injection hsame with e3 hsame
          injection hsame with e4 e5
          subst e3 e4 e5
          exact e2
        · cases hsame
      have hyme : (meOf y).isSome = true := by rw [← hsame]; exact hsome
      simp only [chk, Bool.and_eq_true] at hc
      have hone := hc.2.2
      have hc' : chk l nx (rs.map Rec.tr) = true := by simp only [chk, Bool.and_eq_true]; exact hc
      obtain ⟨q', g1, gd, gV, gR, gs⟩ := h.at_ hy
      rw [hq] at g1
      injection g1 with g1
      subst g1
      -- ahead of k, what meets it is listed
      have before : ∀ j p z, rs[j]? = some p → l[j]? = some z → j < k → meets (nx + j) ⟨z.dst, z.looksAt l.toArray, p.R, p.W, p.V, lkOf z, meOf z⟩ ⟨y.dst, y.looksAt l.toArray, q.R, q.W, q.V, lkOf y, meOf y⟩ = true → L j = true := fun j p z hp hz hjk hm => chk_waits hc' hL hjk hz hy hp hq hm hLk
      have hlo : ∀ d, d = a1 ∨ d = b1 → d ∈ o.looksAt l.toArray := fun d hd => by
        unfold Oper.looksAt
        refine List.mem_append.2 (.inl (List.mem_filterMap.2 ⟨.tmp d, ?_, rfl⟩))
        rw [hoo]
        rcases hd with rfl | rfl <;> simp [Op.operands]
      have hly : ∀ d, d = a1 ∨ d = b1 → d ∈ y.looksAt l.toArray := fun d hd => by
        unfold Oper.looksAt
        refine List.mem_append.2 (.inl (List.mem_filterMap.2 ⟨.tmp d, ?_, rfl⟩))
        rw [hyo]
        rcases hd with rfl | rfl <;> simp [Op.operands]
      have hslot : ∀ d, d = a1 ∨ d = b1 → (app (fun j => decide (j < k)) rs s).1 d = (app (fun j => decide (j < i)) rs s).1 d := fun d hd => app_slot rfl fun j p hp hpd => by
        obtain ⟨z, hz, hpz⟩ := rec_op j p hp
        rcases Nat.lt_trichotomy j i with h1 | h1 | h1
        · simp [h1]; omega
        · subst h1
          have e1 : z = o := by rw [hi] at hz; injection hz with hz; exact hz.symm
          have := before j p z hp hz hik (by simp only [meets, ← hpz, hpd]; simp [hly d hd])
          rw [hLi] at this
          cases this
        · by_cases h2 : j < k
          · have e1 := before j p z hp hz h2 (by simp only [meets, ← hpz, hpd]; simp [hly d hd])
            have e2 := late j p z hp hz h1 (by simp only [meets, ← hpz, hpd]; simp [hlo d hd])
            rw [e1] at e2
            cases e2
          · simp; omega
      have haev : ∀ (st : S2), aeval N st.1 (.tmp a1) = if a1 < N then st.1 a1 else .one .any := fun _ => rfl
      have hae : ∀ d, d = a1 ∨ d = b1 → aeval N (app (fun j => decide (j < k)) rs s).1 (.tmp d) = aeval N (app (fun j => decide (j < i)) rs s).1 (.tmp d) := fun d hd => aeval_congr fun t' ht' => by
        injection ht' with ht'
        subst ht'
        exact hslot d hd
      refine (gstep_touch hoo hf fun id hid => ?_).trans hs
      have hidR : id.1 ∈ r.R := by
        rw [hR]
        refine List.mem_map.2 ⟨id, ?_, rfl⟩
        simp only [opN, hoo, hid, AV.ids, Cell.ids, List.mem_singleton]
      have hidQ : id.1 ∈ q.R := by
        rw [gR]
        refine List.mem_map.2 ⟨id, ?_, rfl⟩
        simp only [opN, hyo, hae a1 (.inl rfl), hid, AV.ids, Cell.ids, List.mem_singleton]
      -- who writes it
      have wr : ∀ j p, rs[j]? = some p → id.1 ∈ p.W → j ≠ k → (j < i ∧ L j = true) ∨ (i < j ∧ L j = false ∧ ¬ j < k) := fun j p hp hpW hjk => by
        obtain ⟨z, hz, hpz⟩ := rec_op j p hp
        rcases Nat.lt_trichotomy j i with h1 | h1 | h1
        · refine .inl ⟨h1, early j p z hp hz h1 ?_⟩
          simp only [meets, Bool.or_eq_true]
          exact .inl (.inl (.inr (List.any_eq_true.2 ⟨id.1, hpW, by simp [hidR]⟩)))
        · subst h1
          exfalso
          have := before j p z hp hz hik (by
            simp only [meets, Bool.or_eq_true]
            exact .inl (.inl (.inr (List.any_eq_true.2 ⟨id.1, hpW, by simp [hidQ]⟩))))
          rw [hLi] at this
          cases this
        · have hnot : ((lkOf o).isSome && lkOf o == meOf z) = false := by
            rw [hsome, Bool.true_and, beq_eq_false_iff_ne]
            intro e1
            exact hjk (oneME_at hone hz hy (by rw [← e1]; exact hsome) hyme)
          have hl := late j p z hp hz h1 (by
            simp only [meets, Bool.or_eq_true, hnot, Bool.not_false, Bool.true_and]
            exact .inl (.inr (List.any_eq_true.2 ⟨id.1, hidR, by simp [hpW]⟩)))
          refine .inr ⟨h1, hl, fun h2 => ?_⟩
          have := before j p z hp hz h2 (by
            simp only [meets, Bool.or_eq_true]
            exact .inl (.inl (.inr (List.any_eq_true.2 ⟨id.1, hpW, by simp [hidQ]⟩))))
          rw [hl] at this
          cases this
      have hmk : (app (fun j => decide (j < k)) rs s).2 id = (app (fun j => decide (j < i)) rs s).2 id := app_name rfl fun j p hp hpW => by
        by_cases hjk : j = k
        · subst hjk; simp; omega
        · rcases wr j p hp hpW hjk with ⟨h1, _⟩ | ⟨h1, _, h2⟩
          · simp [h1]; omega
          · simp [h2]; omega
      by_cases hqW : id.1 ∈ q.W
      · refine .inr ?_
        have hL0 : (app L rs s).2 id = mupd (app (fun j => L j && decide (j ≠ k)) rs s).2 q.U id := app_lastName hq hLk (by simp) (fun j hj => by simp [hj]) fun j p hkj hp hLj hpW => by
          rcases wr j p hp hpW (by omega) with ⟨h1, _⟩ | ⟨_, h1, _⟩
          · omega
          · rw [h1] at hLj; cases hLj
        have hL1 : (app (fun j => L j && decide (j ≠ k)) rs s).2 id = (app (fun j => decide (j < i)) rs s).2 id := app_name rfl fun j p hp hpW => by
          by_cases hjk : j = k
          · subst hjk; simp; omega
          · rcases wr j p hp hpW hjk with ⟨h1, h2⟩ | ⟨h1, h2, _⟩
            · simp [h1, h2, hjk]
            · simp [h2]; omega
        -- what the entry's first step wrote
        have hast : astep P Z (aeval N (app (fun j => decide (j < k)) rs s).1) (app (fun j => decide (j < k)) rs s).2 (nx + k) y = some (q.v, q.U) := by
          unfold gstep at gs
          split at gs
          · exact gs
          · split at gs
            · split at gs
              · exact gs
              · injection gs with gs; injection gs with e1 e2; rw [Rec.W, ← e2] at hqW; cases hqW
            · injection gs with gs; injection gs with e1 e2; rw [Rec.W, ← e2] at hqW; cases hqW
            · cases gs
          · cases gs
        unfold astep at hast
        rw [hyo] at hast
        simp only [hae a1 (.inl rfl), hae b1 (.inr rfl), hid] at hast
        unfold stMapEntry at hast
        split at hast
        · rename_i kt et ag n id' kt' et' ag' n' l0 ht hma
          split at hast
          · rename_i hcc
            obtain ⟨e1, e2, e3, e4⟩ := hcc
            subst e1 e2 e3 e4
            obtain ⟨hx1, hx2⟩ := mapAt_ok hma
            injection hx1 with hx1
            injection hx1 with hx1
            subst hx1
            split at hast
            · rename_i key c0 hkey hz
              injection hast with hast
              injection hast with e5 e6
              obtain ⟨z, hz1, hz2⟩ := Option.bind_eq_some_iff.1 hz
              refine ⟨kt', et', ag', n', l0, key, z, c0, hmk ▸ hx2, hkey, hz1, hz2, ?_⟩
              rw [hL0, ← e6]
              simp [mupd, mput, mset]
            · cases hast
          · cases hast
        · cases hast
      · refine .inl (app_name rfl fun j p hp hpW => ?_)
        by_cases hjk : j = k
        · subst hjk
          rw [hq] at hp
          injection hp with hp
          subst hp
          exact absurd hpW hqW
        · rcases wr j p hp hpW hjk with ⟨h1, h2⟩ | ⟨h1, h2, _⟩
          · simp [h1, h2]
          · simp [h2]; omega
    · have hm : ∀ id ∈ opN (app (fun k => decide (k < i)) rs s).2 (aeval N (app (fun k => decide (k < i)) rs s).1) o, (app L rs s).2 id = (app (fun k => decide (k < i)) rs s).2 id := fun id hid => app_name rfl fun k q hq hqW => by
        have hid : id.1 ∈ r.R := by rw [hR]; exact List.mem_map.2 ⟨id, hid, rfl⟩
        obtain ⟨y, hy, hqy⟩ := rec_op k q hq
        rcases Nat.lt_trichotomy k i with h1 | h1 | h1
        · rw [early k q y hq hy h1 (by
            simp only [meets, Bool.or_eq_true]
            exact .inl (.inl (.inr (List.any_eq_true.2 ⟨id.1, hqW, by simp [hid]⟩))))]
          simp [h1]
        · subst h1
          simp [hLi]
        · have : L k = false := by
            cases hLk : L k
            · rfl
            · rw [← hLk]
              exact late k q y hq hy h1 (by
                simp only [meets, Bool.or_eq_true, hno k q y hq hy h1 hLk, Bool.not_false, Bool.true_and]
                exact .inl (.inr (List.any_eq_true.2 ⟨id.1, hid, by simp [hqW]⟩)))
          rw [this]
          simp; omega
      exact (gstep_congr (P := P) (Z := Z) (fr := nx + i) hf hm).trans hs
  have hfresh : ∀ k, Fresh (app L rs s).1 (app L rs s).2 (nx + i, k) := by
    refine Names.fresh ((hb.mono fun id (hid : id < nx) => (by omega : id ≠ nx + i)).app fun k q hq hLk id hid => ?_) (by omega)
    obtain ⟨y, hy, hqy⟩ := rec_op k q hq
    rcases Nat.lt_trichotomy k i with h1 | h1 | h1
    · obtain ⟨q', h3, _, h4, _⟩ := h.at_ hy
      rw [hq] at h3
      injection h3 with h3
      subst h3
      have := h4 id hid
      omega
    · subst h1
      rw [hLi] at hLk
      cases hLk
    · intro e
      subst e
      rw [late k q y hq hy h1 (by
        simp only [meets, Bool.or_eq_true]
        exact .inr (by simp [hid]))] at hLk
      cases hLk
  refine gstep_ok hst hfresh hgs (by simpa using hi) fun a' w' hst' => hK a' w' ?_
  have e1 : (app L' rs s).1 = fput (app L rs s).1 o.dst r.v := by
    funext t
    by_cases ht : r.dst = some t
    · rw [app_lastSlot hr hL'i ht fun k q hik hq hLk hqd => ?_]
      · rw [← hd, ht]; simp [fput]
      · obtain ⟨y, hy, hqy⟩ := rec_op k q hq
        rw [hL', late k q y hq hy hik (by simp [meets, ← hd, ht, ← hqy, hqd])] at hLk
        simp at hLk
        omega
    · have e : fput (app L rs s).1 o.dst r.v t = (app L rs s).1 t := by
        rw [← hd]
        cases hrd : r.dst with
        | none => rfl
        | some d => simp only [fput]; rw [if_neg (fun e => ht (by rw [hrd, e]))]
      rw [e]
      refine app_slot rfl fun k q hq hqd => ?_
      have : k ≠ i := fun e => by
        subst e
        rw [hr] at hq
        injection hq with hq
        subst hq
        exact ht hqd
      rw [hL']
      simp [this]
  have e2 : (app L' rs s).2 = mupd (app L rs s).2 r.U := by
    funext id
    by_cases ht : id.1 ∈ r.W
    · refine app_lastName hr hL'i hLi (fun k hk => by rw [hL']; simp [hk]) fun k q hik hq hLk hqW => ?_
      obtain ⟨y, hy, hqy⟩ := rec_op k q hq
      rw [hL', late k q y hq hy hik (by
        simp only [meets, Bool.or_eq_true]
        exact .inl (.inl (.inr (List.any_eq_true.2 ⟨id.1, ht, by simp [hqW]⟩))))] at hLk
      simp at hLk
      omega
    · rw [mupd_other ht]
      refine app_name rfl fun k q hq hqW => ?_
      have : k ≠ i := fun e => by
        subst e
        rw [hr] at hq
        injection hq with hq
        subst hq
        exact ht hqW
      rw [hL']
      simp [this]
  rw [e1, e2]
  exact hst'

def unl (listed : Array Bool) : Nat := listed.toList.countP (fun b => !b)
theorem unl_set {listed : Array Bool} {i : Nat} (h : listed.getD i true = false) : unl listed = unl (listed.setIfInBounds i true) + 1 := by
  have hi : i < listed.size := by
    rcases Nat.lt_or_ge i listed.size with h1 | h1
    · exact h1
    · rw [Array.getD_eq_getD_getElem?, Array.getElem?_eq_none h1] at h
      cases h
  have hv : listed.toList[i]'(by simpa using hi) = false := by simpa [Array.getD_eq_getD_getElem?, hi] using h
  unfold unl
  rw [Array.toList_setIfInBounds, List.countP_set (by simpa using hi), hv]
  have : 0 < listed.toList.countP (fun b => !b) := List.countP_pos_iff.2 ⟨false, by rw [← hv]; exact List.getElem_mem _, rfl⟩
  simp only [Bool.not_false, if_true, Bool.not_true, Bool.false_eq_true, if_false]
  omega

theorem any_ok (hpos : 0 < nx) (h : Runs P Z N l l nx s rs) (hb : Names (· < nx) s) (hc : chk l nx (rs.map Rec.tr) = true) (hQ : ∀ a w, St w0 N (app (fun _ => true) rs s).1 (app (fun _ => true) rs s).2 a w → Q .normal a w) :
    ∀ (fuel : Nat) (listed : Array Bool) (a : Act) (w : World), listed.size = l.length → unl listed = fuel → Closed l (fun k => listed.getD k false) → St w0 N (app (fun k => listed.getD k false) rs s).1 (app (fun k => listed.getD k false) rs s).2 a w → wpAny P .any l.toArray Q fuel listed a w := by
  have hchk := hc
  simp only [chk, Bool.and_eq_true] at hchk
  have done : ∀ (listed : Array Bool) (a : Act) (w : World), listed.size = l.length → Region.ready .any l.toArray listed = [] → St w0 N (app (fun k => listed.getD k false) rs s).1 (app (fun k => listed.getD k false) rs s).2 a w → Q .normal a w := by
    intro listed a w hsz hr hst
    have all : ∀ n k, k ≤ n → k < l.length → listed.getD k false = true := by
      intro n
      induction n with
      | zero =>
        intro k hkn hk
        have hk0 : k = 0 := by omega
        subst hk0
        cases hg : listed.getD 0 false with
        | true => rfl
        | false =>
          have : (0 : Nat) ∈ Region.ready .any l.toArray listed := mem_ready.2 ⟨by simpa [Array.getD_eq_getD_getElem?, hsz, hk] using hg, l[0], by simp [hk], fun e he hbi => by
            have := (okMasks_at hchk.1 (List.getElem?_eq_getElem hk)).2 e he hbi
            omega⟩
          rw [hr] at this
          cases this
      | succ n ih =>
        intro k hkn hk
        cases hg : listed.getD k false with
        | true => rfl
        | false =>
          have : k ∈ Region.ready .any l.toArray listed := mem_ready.2 ⟨by simpa [Array.getD_eq_getD_getElem?, hsz, hk] using hg, l[k], by simp [hk], fun e he hbi => by
            have := (okMasks_at hchk.1 (List.getElem?_eq_getElem hk)).2 e he hbi
            exact ih e.on (by omega) (by omega)⟩
          rw [hr] at this
          cases this
    rw [app_ext (L' := fun _ => true) fun k hk => all k k (Nat.le_refl _) (by rw [← h.len]; exact hk)] at hst
    exact hQ a w hst
  have stepAll : ∀ (listed : Array Bool) (a : Act) (w : World) (i : Nat), listed.size = l.length → i ∈ Region.ready .any l.toArray listed → Closed l (fun k => listed.getD k false) → St w0 N (app (fun k => listed.getD k false) rs s).1 (app (fun k => listed.getD k false) rs s).2 a w →
      ∀ {K : Act → World → Prop}, (∀ a' w', Closed l (fun k => (listed.setIfInBounds i true).getD k false) → St w0 N (app (fun k => (listed.setIfInBounds i true).getD k false) rs s).1 (app (fun k => (listed.setIfInBounds i true).getD k false) rs s).2 a' w' → K a' w') → wpOp P l.toArray Q i K a w := by
    intro listed a w i hsz hi hcl hst K hK
    obtain ⟨h0, o, ho, hall⟩ := mem_ready.1 hi
    have ho' : l[i]? = some o := by simpa using ho
    have hil : i < l.length := (List.getElem?_eq_some_iff.1 ho').1
    have hL' : ∀ k, (listed.setIfInBounds i true).getD k false = (listed.getD k false || decide (k = i)) := fun k => by
      by_cases e : k = i
      · subst e
        simp [Array.getD_eq_getD_getElem?, hsz, hil]
      · simp [Array.getD_eq_getD_getElem?, Ne.symm e, e]
    have h0' : listed.getD i false = false := by simpa [Array.getD_eq_getD_getElem?, hsz, hil] using h0
    refine any_step hpos h hb hc hcl ho' h0' hall hL' hst fun a' w' hst' => hK a' w' (fun k y hk hy e he hbi => ?_) hst'
    simp only [hL'] at hy ⊢
    by_cases ek : k = i
    · subst ek
      rw [ho'] at hk
      injection hk with hk
      subst hk
      rw [hall e he hbi]
      rfl
    · simp only [ek, decide_false, Bool.or_false] at hy
      have := hcl k y hk hy e he hbi
      simp only at this
      rw [this]
      rfl
  intro fuel
  induction fuel with
  | zero =>
    intro listed a w hsz hun hcl hst
    have hr : Region.ready .any l.toArray listed = [] := by
      rw [List.eq_nil_iff_forall_not_mem]
      intro i hi
      have := unl_set (mem_ready.1 hi).1
      omega
    exact ⟨hr, done listed a w hsz hr hst⟩
  | succ fuel ih =>
    intro listed a w hsz hun hcl hst
    refine ⟨fun hr => done listed a w hsz hr hst, fun i hi => stepAll listed a w i hsz hi hcl hst fun a' w' hcl' hst' => ih _ a' w' (by simpa using hsz) ?_ hcl' hst'⟩
    have := unl_set (mem_ready.1 hi).1
    omega

theorem wp_drawn (hpos : 0 < nx) (hm : P.follows .mixedOrders = true) {id : Nat} {a : Act} {w : World} (h : Runs P Z N l l nx s rs) (hb : Names (· < nx) s) (hc : chk l nx (rs.map Rec.tr) = true) (hst : St w0 N s.1 s.2 a w)
    (hQ : ∀ a w, St w0 N (app (fun _ => true) rs s).1 (app (fun _ => true) rs s).2 a w → Q .normal a w) : (Code.region id l.toArray true).wp P Q a w := by
  have hf : (fun k => (Array.replicate l.toArray.size false).getD k false) = fun _ => false := by
    funext k
    simp [Array.getD_eq_getD_getElem?, Array.getElem?_replicate]
    split <;> rfl
  refine wp_region_any hm (any_ok hpos h hb hc hQ _ _ _ _ (by simp) (by simp [unl, List.countP_replicate]) ?_ ?_)
  · rw [hf]
    intro i o _ hi
    cases hi
  · rw [hf, app_false]
    exact hst.drew
end
end Go.Proofs.Yteohodhcegbmmaa
