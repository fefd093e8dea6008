/- The law GraphLess, in plain words: true at every input. No condition. -/
import Derived.Test.YteohodhcegbmmaaPgf
set_option linter.unusedSimpArgs false
set_option linter.unusedVariables false
namespace Go.Proofs.Yteohodhcegbmmaa
open Go.RowKit

theorem Wk.mono {E F : Nat → Nat → Prop} (h : ∀ u v, E u v → F u v) {a k b : Nat} (w : Wk E a k b) : Wk F a k b := by
  induction w with
  | z => exact .z
  | s _ e ih => exact .s ih (h _ _ e)
def full6 : List A2I := (List.range 6).flatMap fun (i : Nat) => ((List.range 6).filter fun (j : Nat) => decide (i ≠ j)).map fun (j : Nat) => A2I.mk (i : Int) (j : Int)
theorem full6_len : full6.length = 30 := by decide
theorem full6_mem : ∀ a b : Fin 6, a ≠ b → A2I.mk (a.val : Int) (b.val : Int) ∈ full6 := by
  intro a b h
  unfold full6
  simp only [List.mem_flatMap, List.mem_map, List.mem_filter, List.mem_range, decide_eq_true_iff]
  exact ⟨a.val, a.isLt, b.val, ⟨b.isLt, fun e => h (Fin.ext e)⟩, rfl⟩
theorem few_links {N : Int} (h6 : N ≤ 6) {l : List A2I} (hn : l.Nodup) (hg : ∀ x ∈ l, good N x) : l.length ≤ 30 := by
  rw [← full6_len]
  refine List.Nodup.length_le_of_subset hn fun x hx => ?_
  obtain ⟨q1, q2, q3, q4, q5⟩ := hg x hx
  have := full6_mem ⟨x.a0.toNat, by omega⟩ ⟨x.a1.toNat, by omega⟩ (fun e => q5 (by have := congrArg Fin.val e; simp only at this; omega))
  simp only at this
  rw [show ((x.a0.toNat : Nat) : Int) = x.a0 by omega, show ((x.a1.toNat : Nat) : Int) = x.a1 by omega] at this
  exact this
section
variable {g : TGraph}
theorem less_not (hR : RightP g) {k : Nat} (hk : k < g.Links.length) : ¬ RightP ⟨g.N, g.Links.take k ++ g.Links.drop (k + 1)⟩ := by
  intro h
  have hnd := (C1_iff.1 hR.2.2.2.1).2
  obtain ⟨q1, q2, q3, q4, q5⟩ := (C1_iff.1 hR.2.2.2.1).1 _ (List.getElem_mem hk)
  have e : g.Links = g.Links.take k ++ g.Links[k] :: g.Links.drop (k + 1) := by
    rw [← List.drop_eq_getElem_cons hk, List.take_append_drop]
  have ht := hR.2.2.2.2.1 _ (List.getElem_mem hk)
  generalize g.Links[k] = x at *
  have hx : x ∉ g.Links.take k ++ g.Links.drop (k + 1) := by
    rw [e] at hnd
    have hp := (List.perm_middle (a := x) (l₁ := g.Links.take k) (l₂ := g.Links.drop (k + 1))).nodup_iff.1 hnd
    exact (List.nodup_cons.1 hp).1
  have ht2 : turn x ∈ g.Links.take k ++ g.Links.drop (k + 1) := by
    rw [e] at ht
    rw [List.mem_append, List.mem_cons] at ht
    rw [List.mem_append]
    rcases ht with h | h | h
    · exact .inl h
    · exact absurd (congrArg A2I.a1 h) q5
    · exact .inr h
  exact hx (h.2.2.2.2.1 _ ht2)
theorem twice_not {N : Int} {l : List A2I} {x : A2I} (h : x ∈ l) : ¬ RightP ⟨N, l ++ [x]⟩ := by
  intro h'
  have hnd := (C1_iff.1 h'.2.2.2.1).2
  have := (List.nodup_append.1 hnd).2.2 x h x (by simp)
  exact this rfl
theorem more_not {N : Int} {l : List A2I} {x y : A2I} (h : x ∈ l) : ¬ RightP ⟨N, l ++ [x] ++ [y]⟩ := by
  intro h'
  have hnd := (C1_iff.1 h'.2.2.2.1).2
  have := (List.nodup_append.1 (List.nodup_append.1 hnd).1).2.2 x h x (by simp)
  exact this rfl
theorem loop_not {N : Int} {l : List A2I} {a : Int} {y : A2I} : ¬ RightP ⟨N, l ++ [A2I.mk a a] ++ [y]⟩ := by
  intro h'
  obtain ⟨_, _, _, _, q⟩ := (C1_iff.1 h'.2.2.2.1).1 (A2I.mk a a) (by simp)
  exact q rfl
theorem more_right (hR : RightP g) {a b : Int} (hab : a ≠ b) (ha0 : 0 ≤ a) (ha : a < g.N) (hb0 : 0 ≤ b) (hb : b < g.N) (h : A2I.mk a b ∉ g.Links) : RightP ⟨g.N, g.Links ++ [A2I.mk a b] ++ [A2I.mk b a]⟩ := by
  have h' : A2I.mk b a ∉ g.Links := fun hm => h (hR.2.2.2.2.1 _ hm)
  have hgo : ∀ x ∈ g.Links ++ [A2I.mk a b] ++ [A2I.mk b a], good g.N x := by
    intro x hx
    simp only [List.mem_append, List.mem_singleton] at hx
    rcases hx with (hx | rfl) | rfl
    · exact (C1_iff.1 hR.2.2.2.1).1 x hx
    · exact ⟨ha0, ha, hb0, hb, hab⟩
    · exact ⟨hb0, hb, ha0, ha, fun e => hab e.symm⟩
  have hnd : (g.Links ++ [A2I.mk a b] ++ [A2I.mk b a]).Nodup := by
    rw [List.nodup_append]
    refine ⟨?_, by simp, ?_⟩
    · rw [List.nodup_append]
      refine ⟨(C1_iff.1 hR.2.2.2.1).2, by simp, fun x hx y hy e => ?_⟩
      simp only [List.mem_singleton] at hy
      subst hy
      exact h (e ▸ hx)
    · intro x hx y hy e
      simp only [List.mem_singleton] at hy
      subst hy
      subst e
      simp only [List.mem_append, List.mem_singleton] at hx
      rcases hx with hx | hx
      · exact h' hx
      · exact hab (congrArg A2I.a1 hx)
  refine ⟨hR.1, hR.2.1, few_links hR.2.1 hnd hgo, C1_iff.2 ⟨hgo, hnd⟩, ?_, ?_⟩
  · intro x hx
    simp only [List.mem_append, List.mem_singleton] at hx ⊢
    rcases hx with (hx | rfl) | rfl
    · exact .inl (.inl (hR.2.2.2.2.1 x hx))
    · exact .inr rfl
    · exact .inl (.inr rfl)
  · intro v hv
    obtain ⟨k, hk⟩ := hR.2.2.2.2.2 v hv
    refine ⟨k, hk.mono fun u w ⟨l, hl, e⟩ => ⟨l, ?_, e⟩⟩
    simp only [List.mem_append]
    exact .inl (.inl hl)
end
open Classical in
theorem graphLess_true (a0 : TGraph) (a1 : A3I) (w0 : wTGraph a0) (w1 : wA3I a1) : L_law03_GraphLess a0 a1 = some true := by
  unfold L_law03_GraphLess
  rw [law_cut, Option.bind_some]
  have hlen := cut_len a0
  generalize (⟨a0.N, a0.Links.take 40⟩ : TGraph) = g at hlen
  rw [law_ref, Option.bind_some, ref_right (by omega), Option.bind_some]
  by_cases hR : RightP g
  · have h1 := hR.1
    have h6 := hR.2.1
    obtain ⟨a, ea, ha⟩ := pick_node a1.a1 h1
    obtain ⟨b, eb, hb⟩ := pick_node a1.a2 h1
    rw [if_pos (decide_eq_true hR)]
    refine bind_s (a := ()) ?_ ?_
    · by_cases h0 : g.Links.length = 0
      · rw [if_neg (by omega)]
      · obtain ⟨k, k1, k2⟩ := pick_node a1.a0 (N := (g.Links.length : Int)) (by omega)
        have hk : k < g.Links.length := by omega
        rw [if_pos (by omega), if_pos (by omega), k1, wr_succ (by omega), if_pos (by omega), if_pos (by omega), Option.bind_some, if_pos (by simp; omega), if_pos (by omega), if_pos (by omega), Option.bind_some, if_pos (by simp; omega), if_pos (by omega), at_nat, List.getElem?_eq_getElem hk, Option.bind_some, if_pos (by omega), Int.toNat_natCast, Int.toNat_natCast, graph_right (by simp; omega), Option.bind_some, decide_eq_false (less_not hR hk), if_neg (by simp), graph_right (by simp; omega), Option.bind_some, decide_eq_false (twice_not (List.getElem_mem hk)), if_neg (by simp)]
    · rw [if_pos (by omega), if_pos (by omega), if_pos (by omega), if_pos (by omega), ea, eb, graph_right (by simp; omega), Option.bind_some]
      by_cases hab : a = b
      · subst hab
        rw [if_pos rfl, decide_eq_false loop_not, if_pos rfl, fixed03]
        rfl
      · rw [if_neg (by omega), graph_find _ _ (by omega), Option.bind_some]
        have hf := find_some (g := g) (a := (a : Int)) (b := (b : Int))
        have he : (decide (RightP ⟨g.N, g.Links ++ [A2I.mk (a : Int) (b : Int)] ++ [A2I.mk (b : Int) (a : Int)]⟩)) = decide (find g (a : Int) (b : Int) < 0) := by
          rw [decide_eq_decide]
          constructor
          · intro h
            by_cases hm : A2I.mk (a : Int) (b : Int) ∈ g.Links
            · exact absurd h (more_not hm)
            · have : ¬ 0 ≤ find g (a : Int) (b : Int) := fun h => hm (hf.1 h)
              omega
          · intro h
            exact more_right hR (by omega) (by omega) (by omega) (by omega) (by omega) fun hm => by
              have := hf.2 hm
              omega
        rw [if_pos he, fixed03]
        rfl
  · rw [if_neg (by simpa using hR), graph_right (by omega), Option.bind_some, if_neg (by simpa using hR), fixed03]
    rfl
end Go.Proofs.Yteohodhcegbmmaa
