/- The law MarkOrder, in plain words: true at every input. No condition. -/
import Derived.Test.YtkjihlonnhfidaaPm
set_option linter.unusedSimpArgs false
set_option linter.unusedVariables false
namespace Go.Proofs.Ytkjihlonnhfidaa
open Go.RowKit

theorem nd_inj {α : Type} {l : List α} (h : l.Nodup) {i j : Nat} (hi : i < l.length) (hj : j < l.length) (e : l[i] = l[j]) : i = j := by
  rcases Nat.lt_trichotomy i j with h1 | h1 | h1
  · exact absurd e (List.pairwise_iff_getElem.1 h i j hi hj h1)
  · exact h1
  · exact absurd e.symm (List.pairwise_iff_getElem.1 h j i hj hi h1)
theorem order_l1 {n : Nat} {h : THost} (k0 : HK n h) : ∀ (j nf k : Nat) (l : List Int), k + j = n → j < nf → l = (List.range k).map (fun (i : Nat) => (i : Int)) → L_law10_MarkOrder_l1 h nf (k : Int) l = some ((List.range n).map fun (i : Nat) => (i : Int))
  | 0, nf + 1, k, l, h1, h2, h3 => by
    rw [L_law10_MarkOrder_l1, if_neg (by rw [k0.len]; omega), h3, show k = n by omega]
  | j + 1, nf + 1, k, l, h1, h2, h3 => by
    have := k0.le
    rw [L_law10_MarkOrder_l1, if_pos (by rw [k0.len]; omega), if_pos (by rw [h3]; simp; omega), wr_succ (by omega)]
    refine order_l1 k0 j nf (k + 1) _ (by omega) (by omega) ?_
    rw [h3, List.range_succ]
    simp
/-- The links of l are open, and no others. -/
structure Lft (n : Nat) (l : List Int) (m : TMark) : Prop where
  k : MK n 0 m
  e : m.Epoch = 9
  nd : l.Nodup
  rng : ∀ i ∈ l, 0 ≤ i ∧ i < (n : Int)
  op : ∀ i : Nat, i < n → (m.Open[i]? = some true ↔ (i : Int) ∈ l)
theorem Lft.done {n : Nat} {l : List Int} {m : TMark} (h : Lft n l m) (hn : n ≤ 5) : L_mark_Done m 9 = some (decide (l = [])) := by
  rw [mark_done (h.k.open_sm (by omega))]
  congr 1
  rw [Bool.eq_iff_iff]
  simp only [mdone, h.e, decide_true, Bool.true_and, Bool.not_eq_true', decide_eq_true_eq]
  constructor
  · intro h1
    cases l with
    | nil => rfl
    | cons x l =>
      exfalso
      have hx := h.rng x (by simp)
      have := (h.op x.toNat (by omega)).2 (by simp [show ((x.toNat : Nat) : Int) = x by omega])
      have hm := List.mem_of_getElem? this
      rw [← List.contains_iff_mem, h1] at hm
      cases hm
  · rintro rfl
    rw [Bool.eq_false_iff]
    intro hc
    rw [List.contains_iff_mem] at hc
    obtain ⟨i, hi⟩ := List.getElem?_of_mem hc
    have hlt := (List.getElem?_eq_some_iff.1 hi).1
    have := (h.op i (by rw [← h.k.op]; exact hlt)).1 hi
    cases this
theorem order_l2 {n : Nat} {p : List Int} {h : THost} (k0 : HK n h) (hp : ∀ x ∈ p, 0 ≤ x ∧ x ≤ 255) (hpl : p.length ≤ 140737488351232) : ∀ (j nf k : Nat) (m : TMark) (l : List Int), k + j = n → j < nf → Lft n l m → l.length = j →
    ∃ m', L_law10_MarkOrder_l2 p h nf (k : Int) m l = some m' ∧ Lft n [] m'
  | 0, nf + 1, k, m, l, h1, h2, h3, h4 => by
    rw [L_law10_MarkOrder_l2, if_neg (by rw [k0.len]; omega)]
    obtain rfl := List.eq_nil_of_length_eq_zero h4
    exact ⟨m, rfl, h3⟩
  | j + 1, nf + 1, k, m, l, h1, h2, h3, h4 => by
    have hn := k0.le
    have hch : ∃ q : Nat, q < l.length ∧ (if (k : Int) < (p.length : Int) then (at? p (k : Int)).bind fun x1695 => if ¬ (l.length : Int) = 0 then some ((IntKind.wrap .i64 x1695).tmod (l.length : Int)) else none else some 0) = some (q : Int) := by
      by_cases hk : (k : Int) < (p.length : Int)
      · have hk' : k < p.length := by omega
        have hx := hp _ (List.getElem_mem hk')
        refine ⟨(p[k].tmod (l.length : Int)).toNat, ?_, ?_⟩
        · have := Int.tmod_lt_of_pos p[k] (show (0 : Int) < (l.length : Int) by omega)
          have := Int.tmod_nonneg (l.length : Int) hx.1
          omega
        · rw [if_pos hk, at_nat, List.getElem?_eq_getElem hk', Option.bind_some, if_pos (by omega), wr (by omega) (by omega)]
          have := Int.tmod_nonneg (l.length : Int) hx.1
          congr 1
          omega
      · exact ⟨0, by omega, by rw [if_neg hk]; rfl⟩
    obtain ⟨q, hq, hqe⟩ := hch
    have hr := h3.rng _ (List.getElem_mem hq)
    rw [L_law10_MarkOrder_l2, if_pos (by rw [k0.len]; omega), hqe, Option.bind_some, h3.done hn, Option.bind_some]
    have hne : ¬ l = [] := by
      rintro rfl
      cases h4
    rw [if_neg (by simpa using hne), at_nat, List.getElem?_eq_getElem hq, Option.bind_some, mark_marker k0.sm k0.le8 (fun _ => by rw [k0.len]; exact h3.k.w (by omega) (by omega)), Option.bind_some, mmark_in k0 h3.e hr.1 hr.2]
    rw [if_neg (by simp), if_pos (by omega), if_pos (by omega), if_pos (by omega), wr_succ (by omega), if_pos (by omega), if_pos (by omega)]
    simp only [Int.toNat_natCast]
    have hdrop : (l.drop (q + 1)).take (l.length - (q + 1)) = l.drop (q + 1) := List.take_of_length_le (by simp)
    rw [hdrop, if_pos (by omega), wr_succ (by omega), ← List.eraseIdx_eq_take_drop_succ]
    refine order_l2 k0 hp hpl j nf (k + 1) _ _ (by omega) (by omega) ⟨⟨by simpa using h3.k.op, h3.k.len, h3.k.rows, h3.k.sent, h3.k.out⟩, h3.e, h3.nd.eraseIdx q, fun i hi => h3.rng i (List.mem_of_mem_eraseIdx hi), fun i hi => ?_⟩ (by rw [List.length_eraseIdx_of_lt hq]; omega)
    have hmem : (i : Int) ∈ l.eraseIdx q ↔ (i : Int) ≠ l[q] ∧ (i : Int) ∈ l := by
      constructor
      · intro hm
        obtain ⟨j', hj, hne', e⟩ := List.mem_eraseIdx_iff_getElem.1 hm
        exact ⟨fun e' => hne' (nd_inj h3.nd hj hq (e.trans e')), e ▸ List.getElem_mem hj⟩
      · rintro ⟨hne', hm⟩
        obtain ⟨j', hj, e⟩ := List.getElem_of_mem hm
        exact List.mem_eraseIdx_iff_getElem.2 ⟨j', hj, fun e2 => hne' (by subst e2; exact e.symm), e⟩
    rw [hmem, List.getElem?_set]
    by_cases hiq : l[q].toNat = i
    · have : (i : Int) = l[q] := by omega
      rw [if_pos hiq]
      split <;> simp [this]
    · have : (i : Int) ≠ l[q] := by omega
      rw [if_neg hiq]
      simp only [ne_eq, this, not_false_eq_true, true_and]
      exact h3.op i hi
theorem markOrder_true (a0 : Int) (a1 : List Int) (w0 : wI .u8 a0) (w1 : wL 1 (wI .u8) a1) : L_law10_MarkOrder a0 a1 = some true := by
  obtain ⟨n, hn, he⟩ := ends_eq (b := 3) w0 (by omega)
  have hk := ends_hk (b := 3) hn
  unfold L_law10_MarkOrder
  rw [he, Option.bind_some, mark_begin hk.sm hk.le8, Option.bind_some, fuel_eq]
  have h1 : L_law10_MarkOrder_l1 ⟨1, 2, 3, List.replicate n [], List.replicate n []⟩ ((List.replicate n ([] : List TMsg)).length + 1) 0 [] = some ((List.range n).map fun (i : Nat) => (i : Int)) := by
    rw [List.length_replicate]
    exact order_l1 hk n (n + 1) 0 [] (by omega) (by omega) rfl
  have h0 : Lft n ((List.range n).map fun (i : Nat) => (i : Int)) (mbegin ⟨1, 2, 3, List.replicate n [], List.replicate n []⟩ 9) := by
    refine ⟨MK.begin hk 9 0, rfl, ?_, fun i hi => ?_, fun i hi => ?_⟩
    · unfold List.Nodup
      rw [List.pairwise_map]
      exact List.nodup_range.imp fun h e => h (by omega)
    · simp at hi
      omega
    · simp only [mbegin, List.length_replicate, List.getElem?_replicate, if_pos hi, true_iff]
      exact List.mem_map.2 ⟨i, by simpa using hi, rfl⟩
  obtain ⟨m, h2, h3⟩ := order_l2 (p := a1) hk (fun x hx => (w1.2 x hx).u8) (w1.len (by omega)) n (n + 1) 0 _ _ (by omega) (by omega) h0 (by simp)
  have h2' : L_law10_MarkOrder_l2 a1 ⟨1, 2, 3, List.replicate n [], List.replicate n []⟩ ((List.replicate n ([] : List TMsg)).length + 1) 0 (mbegin ⟨1, 2, 3, List.replicate n [], List.replicate n []⟩ 9) ((List.range n).map fun (i : Nat) => (i : Int)) = some m := by
    rw [List.length_replicate]
    exact h2
  rw [h1, Option.bind_some, h2', Option.bind_some, h3.done hn, Option.bind_some, if_pos (by simp), mark_done (h3.k.open_sm (by omega)), Option.bind_some, if_neg (by simp [mdone, h3.e]), fixed10]
  rfl
end Go.Proofs.Ytkjihlonnhfidaa
