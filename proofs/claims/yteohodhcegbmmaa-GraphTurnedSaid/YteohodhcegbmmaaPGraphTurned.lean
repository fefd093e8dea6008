/- The law GraphTurned, in plain words: true at every input. No condition. -/
import Derived.Test.YteohodhcegbmmaaPgf
set_option linter.unusedSimpArgs false
set_option linter.unusedVariables false
namespace Go.Proofs.Yteohodhcegbmmaa
open Go.RowKit

theorem tmod_small {x n : Int} (h0 : 0 ≤ x) (h1 : x < n) : x.tmod n = x := Int.tmod_eq_of_lt h0 h1
theorem tmod_big {x n : Int} (h0 : 0 < n) (h1 : n ≤ x) (h2 : x < n + n) : x.tmod n = x - n := by
  rw [Int.tmod_eq_emod_of_nonneg (by omega)]
  have e : x = (x - n) + n := by omega
  rw [e, Int.add_emod_right, Int.emod_eq_of_lt (by omega) (by omega)]
  omega
/-- Turned on by so many, and back to front. -/
def rot {α : Type} (k : Nat) (l : List α) : List α := (l.drop k ++ l.take k).reverse
theorem rot_perm {α : Type} (k : Nat) (l : List α) : List.Perm (rot k l) l := by
  refine (List.reverse_perm _).trans (List.perm_append_comm.trans ?_)
  rw [List.take_append_drop]
theorem rot_len {α : Type} (k : Nat) (l : List α) : (rot k l).length = l.length := (rot_perm k l).length_eq
theorem rot_get {α : Type} {l : List α} {k i : Nat} (hk : k < l.length) (hi : i < l.length) : at? l (((l.length : Int) - 1 - i + k).tmod l.length) = (rot k l)[i]? := by
  unfold rot
  rw [List.getElem?_reverse (by simp; omega)]
  have e1 : (l.drop k ++ l.take k).length = l.length := by simp; omega
  rw [e1]
  by_cases h : (l.length : Int) - 1 - i + k < l.length
  · rw [tmod_small (by omega) h, at_i (by omega), List.getElem?_append_left (by simp; omega), List.getElem?_drop]
    congr 1
    omega
  · rw [tmod_big (by omega) (by omega) (by omega), at_i (by omega), List.getElem?_append_right (by simp; omega), List.getElem?_take, if_pos (by simp; omega)]
    congr 1
    simp
    omega
theorem turned_l1 {g : TGraph} (hl : g.Links.length ≤ 40) {k : Nat} (hk : k < g.Links.length ∨ g.Links.length = 0) : ∀ (m nf i : Nat), i + m = g.Links.length → m < nf → L_law03_GraphTurned_l1 (k : Int) g nf (i : Int) ((rot k g.Links).take i) = some (rot k g.Links)
  | 0, nf + 1, i, h1, h2 => by
    rw [L_law03_GraphTurned_l1, if_neg (by omega), List.take_of_length_le (by rw [rot_len]; omega)]
  | m + 1, nf + 1, i, h1, h2 => by
    have hi : i < g.Links.length := by omega
    have hk' : k < g.Links.length := by omega
    have hg := rot_get hk' hi
    have hr : i < (rot k g.Links).length := by rw [rot_len]; exact hi
    rw [L_law03_GraphTurned_l1, if_pos (by omega), if_pos (by omega), wr (n := (g.Links.length : Int) - 1) (by omega) (by omega), wr (n := (g.Links.length : Int) - 1 - i) (by omega) (by omega), wr (n := (g.Links.length : Int) - 1 - i + k) (by omega) (by omega), hg, List.getElem?_eq_getElem hr, Option.bind_some, if_pos (by rw [List.length_take]; omega), wr_succ (by omega), List.take_append_getElem hr]
    exact turned_l1 hl hk m nf (i + 1) (by omega) (by omega)
section
variable {N : Int} {l l' : List A2I}
theorem EG_perm (h : List.Perm l l') : EG ⟨N, l⟩ = EG ⟨N, l'⟩ := by
  funext u v
  apply propext
  unfold EG
  simp only [h.mem_iff]
theorem right_perm (h : List.Perm l l') : RightP ⟨N, l⟩ ↔ RightP ⟨N, l'⟩ := by
  unfold RightP
  rw [C1_iff, C1_iff]
  unfold C2 Conn goods
  rw [EG_perm h]
  simp only [h.mem_iff, h.nodup_iff, h.length_eq]
theorem dist_perm (h : List.Perm l l') (hR : RightP ⟨N, l⟩) (a : Int) : ∃ o, L_graph_Dist ⟨N, l⟩ a = some o ∧ L_graph_Dist ⟨N, l'⟩ a = some o ∧ o.length ≤ 6 := by
  have hR' := (right_perm h).1 hR
  by_cases hc : 0 ≤ a ∧ a < N
  · have h6 := hR.2.1
    obtain ⟨o, h1, h2, _⟩ := graph_dist hR.ok (s := a.toNat) (by simp only; omega)
    obtain ⟨p, g1, g2, _⟩ := graph_dist hR'.ok (s := a.toNat) (by simp only; omega)
    rw [show ((a.toNat : Nat) : Int) = a by omega] at h1 g1
    rw [← EG_perm h] at g2
    have e := h2.unique g2
    subst e
    exact ⟨o, h1, g1, by have := h2.len; simp only at this h6; omega⟩
  · exact ⟨[], graph_dist_out hc, graph_dist_out hc, by simp⟩
end
open Classical in
theorem graphTurned_true (a0 : TGraph) (a1 a2 : Int) (w0 : wTGraph a0) (w1 : wI .i64 a1) (w2 : wI .i64 a2) : L_law03_GraphTurned a0 a1 a2 = some true := by
  unfold L_law03_GraphTurned
  rw [law_cut, Option.bind_some]
  have hlen := cut_len a0
  generalize (⟨a0.N, a0.Links.take 40⟩ : TGraph) = g at hlen
  have hn : ∃ k : Nat, (if (g.Links.length : Int) > 0 then
      if ¬ (g.Links.length : Int) = 0 then
        some ((landK .i64 a2 255).tmod (g.Links.length : Int))
      else none
    else
      some 0) = some (k : Int) ∧ (k < g.Links.length ∨ g.Links.length = 0) := by
    by_cases h0 : g.Links.length = 0
    · exact ⟨0, by rw [if_neg (by omega)]; rfl, .inr h0⟩
    · obtain ⟨s, s1, s2⟩ := pick_node a2 (N := (g.Links.length : Int)) (by omega)
      exact ⟨s, by rw [if_pos (by omega), if_pos (by omega), s1], .inl (by omega)⟩
  obtain ⟨k, k1, k2⟩ := hn
  have hl := turned_l1 hlen k2 g.Links.length (g.Links.length + 1) 0 (by omega) (by omega)
  rw [show ((0 : Nat) : Int) = 0 from rfl, List.take_zero] at hl
  have hp := (rot_perm k g.Links).symm
  have hpl := hp.length_eq
  have hrp : RightP g ↔ RightP ⟨g.N, rot k g.Links⟩ := right_perm hp
  rw [k1, Option.bind_some, fuel_eq, hl, Option.bind_some, graph_right (by omega), Option.bind_some, graph_right (by simp only; omega), Option.bind_some, if_pos (by rw [decide_eq_decide]; exact hrp), law_ref, Option.bind_some, ref_right (by omega), Option.bind_some]
  by_cases hR : RightP g
  · obtain ⟨o, o1, o2, o3⟩ := dist_perm (N := g.N) hp hR a1
    have o1' : L_graph_Dist g a1 = some o := o1
    rw [if_pos (decide_eq_true hR), o1', Option.bind_some, o2, Option.bind_some, ints_same (by omega), Option.bind_some, if_pos rfl, graph_out _ (by omega), Option.bind_some, graph_out _ (by simp only; omega), Option.bind_some, if_pos, fixed03]
    · rfl
    · unfold outs_
      rw [idxs_cnt, idxs_cnt, hp.countP_eq]
  · rw [if_neg (by simpa using hR), fixed03]
    rfl
end Go.Proofs.Yteohodhcegbmmaa
