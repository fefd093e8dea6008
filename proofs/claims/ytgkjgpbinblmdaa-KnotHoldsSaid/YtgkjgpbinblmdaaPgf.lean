/- Shared by the laws on graphs: links once each, counted by their ends. No condition. -/
import Derived.Test.YtgkjgpbinblmdaaPge
set_option linter.unusedSimpArgs false
set_option linter.unusedVariables false
namespace Go.Proofs.Ytgkjgpbinblmdaa
open Go.RowKit

theorem idxs_cnt (p : A2I → Bool) : ∀ (k : Nat) (l : List A2I), (idxs p k l).length = l.countP p
  | _, [] => rfl
  | k, x :: l => by
    have ih := idxs_cnt p (k + 1) l
    simp only [idxs, List.countP_cons]
    split <;> rename_i h <;> simp [ih, h]
def goods (g : TGraph) : Prop := ∀ x ∈ g.Links, good g.N x
theorem nodup_get {α : Type} {l : List α} (h : l.Nodup) {i j : Nat} {x : α} (hi : l[i]? = some x) (hj : l[j]? = some x) : i = j := by
  obtain ⟨hi', ei⟩ := List.getElem?_eq_some_iff.1 hi
  obtain ⟨hj', ej⟩ := List.getElem?_eq_some_iff.1 hj
  unfold List.Nodup at h
  rw [List.pairwise_iff_getElem] at h
  rcases Nat.lt_trichotomy i j with h1 | h1 | h1
  · exact absurd (ei.trans ej.symm) (h i j hi' hj' h1)
  · exact h1
  · exact absurd (ej.trans ei.symm) (h j i hj' hi' h1)
theorem get_nodup {α : Type} {l : List α} (h : ∀ (i j : Nat) (x : α), i < j → l[i]? = some x → l[j]? = some x → False) : l.Nodup := by
  unfold List.Nodup
  rw [List.pairwise_iff_getElem]
  intro i j hi hj hij e
  exact h i j l[i] hij (List.getElem?_eq_getElem hi) (by rw [List.getElem?_eq_getElem hj, e])
section
variable {g : TGraph}
/-- Each link once, between two nodes. -/
theorem C1_iff : C1 g ↔ goods g ∧ g.Links.Nodup := by
  constructor
  · intro h
    refine ⟨fun x hx => ?_, get_nodup fun i j x hij hi hj => (h j x hj).2 i hij hi⟩
    obtain ⟨i, hi, e⟩ := List.getElem_of_mem hx
    exact (h i x (by rw [List.getElem?_eq_getElem hi, e])).1
  · rintro ⟨h1, h2⟩ j x hx
    refine ⟨h1 x (List.mem_of_getElem? hx), fun i hi hxi => ?_⟩
    have := nodup_get h2 hxi hx
    omega
theorem find_at {a b : Int} (h : A2I.mk a b ∈ g.Links) : ∃ j : Nat, find g a b = j ∧ g.Links[j]? = some (A2I.mk a b) := by
  unfold find
  rcases fdx_cases (lk a b) 0 g.Links with ⟨h1, h2⟩ | ⟨k, h1, ⟨y, h2, h3⟩, h4⟩
  · have := h2 _ h
    simp [lk] at this
  · refine ⟨k, by rw [h1, Nat.zero_add], ?_⟩
    unfold lk at h3
    rw [decide_eq_true_iff] at h3
    have : y = A2I.mk a b := by
      cases y
      simp_all
    rw [← this]
    exact h2
theorem turn_inj {x y : A2I} (h : turn x = turn y) : x = y := by
  cases x; cases y
  simp [turn] at h
  simp [h.1, h.2]
theorem turn_turn (x : A2I) : turn (turn x) = x := rfl
theorem links_turn (h1 : g.Links.Nodup) (h2 : C2 g) : List.Perm g.Links (g.Links.map turn) := by
  refine (List.perm_ext_iff_of_nodup h1 ?_).2 fun x => ?_
  · unfold List.Nodup at h1 ⊢
    rw [List.pairwise_map]
    exact h1.imp fun h e => h (turn_inj e)
  · rw [List.mem_map]
    exact ⟨fun h => ⟨turn x, h2 x h, turn_turn x⟩, fun ⟨y, hy, e⟩ => e ▸ h2 y hy⟩
theorem outs_ins (h1 : g.Links.Nodup) (h2 : C2 g) (n : Int) : (outs_ g n).length = (ins_ g n).length := by
  unfold outs_ ins_
  rw [idxs_cnt, idxs_cnt, (links_turn h1 h2).countP_eq, List.countP_map]
  rfl
end
theorem cnt_succ (n : Int) : ∀ l : List A2I, (l.countP fun x => decide (x.a0 < n + 1)) = (l.countP fun x => decide (x.a0 < n)) + l.countP fun x => decide (x.a0 = n)
  | [] => rfl
  | x :: l => by
    have ih := cnt_succ n l
    simp only [List.countP_cons, ih]
    by_cases h1 : x.a0 < n
    · have h2 : x.a0 < n + 1 := by omega
      have h3 : ¬ x.a0 = n := by omega
      simp only [h1, h2, h3, decide_true, decide_false, if_true, Bool.false_eq_true, if_false]
      omega
    · by_cases h3 : x.a0 = n
      · have h2 : x.a0 < n + 1 := by omega
        simp only [h1, h2, h3, decide_true, decide_false, if_true, Bool.false_eq_true, if_false]
        simp only [show n < n + 1 by omega, show ¬ n < n by omega, decide_true, decide_false, if_true, Bool.false_eq_true, if_false]
        omega
      · have h2 : ¬ x.a0 < n + 1 := by omega
        simp only [h1, h2, h3, decide_true, decide_false, if_true, Bool.false_eq_true, if_false]
        omega
end Go.Proofs.Ytgkjgpbinblmdaa
