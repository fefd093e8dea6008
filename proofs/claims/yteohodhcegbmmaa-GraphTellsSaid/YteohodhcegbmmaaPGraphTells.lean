/- The law GraphTells, in plain words: true at every input. No condition. -/
import Derived.Test.YteohodhcegbmmaaPge
import Derived.Test.YteohodhcegbmmaaPGraphFull
set_option linter.unusedSimpArgs false
set_option linter.unusedVariables false
namespace Go.Proofs.Yteohodhcegbmmaa
open Go.RowKit

theorem rfull_l2 {n m : Int} (h : max 1 (min n 6) = max 1 (min m 6)) : ∀ (nf : Nat) (a b : Int) (l : List A2I), L_ref03_Full_l2 n a nf b l = L_ref03_Full_l2 m a nf b l
  | 0, _, _, _ => rfl
  | nf + 1, a, b, l => by
    rw [L_ref03_Full_l2, L_ref03_Full_l2, h]
    simp only [rfull_l2 h nf]
theorem rfull_l1 {n m : Int} (h : max 1 (min n 6) = max 1 (min m 6)) : ∀ (nf : Nat) (a : Int) (l : List A2I), L_ref03_Full_l1 n nf a l = L_ref03_Full_l1 m nf a l
  | 0, _, _ => rfl
  | nf + 1, a, l => by
    rw [L_ref03_Full_l1, L_ref03_Full_l1, h]
    simp only [rfull_l1 h nf, rfull_l2 h]
theorem rfull_eq {n m : Int} (h : max 1 (min n 6) = max 1 (min m 6)) : L_ref03_Full n = L_ref03_Full m := by
  unfold L_ref03_Full
  rw [h, rfull_l1 h]
theorem full_same : ∀ k : Fin 7, 1 ≤ k.val → ((L_graph_Full (k.val : Int)).bind fun x => (L_ref03_Full (k.val : Int)).bind fun y => L_ref03_Same x y) = some true := by decide +kernel
open Classical in
theorem graphTells_true (a0 : TGraph) (a1 a2 : Int) (w0 : wTGraph a0) (w1 : wI .i64 a1) (w2 : wI .i64 a2) : L_law03_GraphTells a0 a1 a2 = some true := by
  unfold L_law03_GraphTells
  rw [law_cut, Option.bind_some]
  have hlen := cut_len a0
  generalize (⟨a0.N, a0.Links.take 40⟩ : TGraph) = g at hlen
  obtain ⟨k, k1, k6, hk, _, _⟩ := cl6_cases a1
  have hs := full_same ⟨k, by omega⟩ k1
  simp only at hs
  have hk' : max 1 (min a1 6) = max 1 (min (k : Int) 6) := by
    unfold cl6 at hk
    omega
  rw [← full_eq hk, ← rfull_eq hk'] at hs
  obtain ⟨x, hx, hs⟩ := Option.bind_eq_some_iff.1 hs
  obtain ⟨y, hy, hs⟩ := Option.bind_eq_some_iff.1 hs
  rw [graph_right (by omega), Option.bind_some, law_ref, Option.bind_some, ref_right (by omega), Option.bind_some, if_pos rfl, hx, Option.bind_some, law_ref, Option.bind_some, hy, Option.bind_some, hs, Option.bind_some, if_pos rfl]
  have ho := outs_len g a1
  have hi := ins_len g a1
  by_cases hR : RightP g
  · have hd : ∃ o, L_graph_Dist g a1 = some o ∧ L_ref03_Dist g a1 = some o ∧ o.length ≤ 6 := by
      by_cases hc : 0 ≤ a1 ∧ a1 < g.N
      · have h6 := hR.2.1
        obtain ⟨o, h1, h2, h3, _⟩ := ref_dist hR.ok (s := a1.toNat) (by omega)
        rw [show ((a1.toNat : Nat) : Int) = a1 by omega] at h1 h2
        exact ⟨o, h1, h2, by have := h3.len; omega⟩
      · exact ⟨[], graph_dist_out hc, ref_dist_out hc, by simp⟩
    obtain ⟨o, h1, h2, h3⟩ := hd
    rw [if_pos (decide_eq_true hR), graph_out _ (by omega), Option.bind_some, ref_out _ (by omega), Option.bind_some, ints_same (by omega), Option.bind_some, if_pos rfl, graph_in _ (by omega), Option.bind_some, ref_in _ (by omega), Option.bind_some, ints_same (by omega), Option.bind_some, if_pos rfl, graph_find _ _ (by omega), Option.bind_some, ref_find _ _ (by omega), Option.bind_some, if_pos rfl, graph_back _ (by omega), Option.bind_some, ref_back _ (by omega), Option.bind_some, if_pos rfl, h1, Option.bind_some, h2, Option.bind_some, ints_same (by omega), Option.bind_some, if_pos rfl, fixed03]
    rfl
  · rw [if_neg (by simpa using hR), fixed03]
    rfl
end Go.Proofs.Yteohodhcegbmmaa
