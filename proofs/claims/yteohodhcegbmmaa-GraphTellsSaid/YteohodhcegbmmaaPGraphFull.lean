/- The law GraphFull, in plain words: true at every input. No condition. -/
import Derived.Test.YteohodhcegbmmaaPga
set_option linter.unusedSimpArgs false
set_option linter.unusedVariables false
namespace Go.Proofs.Yteohodhcegbmmaa
open Go.RowKit


def cl6 (n : Int) : Int := min (max n 1) 6
theorem full_l2 {n m : Int} (h : cl6 n = cl6 m) : ∀ (nf : Nat) (a b : Int) (l : List A2I), L_graph_Full_l2 n a nf b l = L_graph_Full_l2 m a nf b l
  | 0, _, _, _ => rfl
  | nf + 1, a, b, l => by
    have h' : min (max n 1) 6 = min (max m 1) 6 := h
    rw [L_graph_Full_l2, L_graph_Full_l2, h']
    simp only [full_l2 h nf]
theorem full_l1 {n m : Int} (h : cl6 n = cl6 m) : ∀ (nf : Nat) (a : Int) (l : List A2I), L_graph_Full_l1 n nf a l = L_graph_Full_l1 m nf a l
  | 0, _, _ => rfl
  | nf + 1, a, l => by
    have h' : min (max n 1) 6 = min (max m 1) 6 := h
    rw [L_graph_Full_l1, L_graph_Full_l1, h']
    simp only [full_l1 h nf, full_l2 h]
theorem full_eq {n m : Int} (h : cl6 n = cl6 m) : L_graph_Full n = L_graph_Full m := by
  have h' : min (max n 1) 6 = min (max m 1) 6 := h
  unfold L_graph_Full
  rw [h', full_l1 h]
theorem cl6_cases (n : Int) : ∃ k : Nat, 1 ≤ k ∧ k ≤ 6 ∧ cl6 n = cl6 (k : Int) ∧ min n 6 = min n 6 ∧ cl6 n = k := by
  refine ⟨(cl6 n).toNat, ?_, ?_, ?_, rfl, ?_⟩ <;> unfold cl6 <;> omega
theorem full_N : ∀ k : Fin 7, 1 ≤ k.val → (L_graph_Full (k.val : Int)).map (·.N) = some (k.val : Int) := by decide +kernel
theorem gfull_l1 {a b : Int} {g : TGraph} {r : List Int} (h : (landK .i64 a 255).tmod g.N = (landK .i64 b 255).tmod g.N) : ∀ (nf : Nat) (n : Int), L_law03_GraphFull_l1 a g r nf n = L_law03_GraphFull_l1 b g r nf n
  | 0, _ => rfl
  | nf + 1, n => by
    rw [L_law03_GraphFull_l1, L_law03_GraphFull_l1, h]
    simp only [gfull_l1 h nf]
theorem gfull_eq {a0 a1 b1 : Int} {k : Nat} (h : cl6 a0 = cl6 (k : Int)) (h1 : 1 ≤ k) (h6 : k ≤ 6) (hb : (landK .i64 a1 255).tmod k = (landK .i64 b1 255).tmod k) : L_law03_GraphFull a0 a1 = L_law03_GraphFull k b1 := by
  have hN := full_N ⟨k, by omega⟩ h1
  obtain ⟨g, hg, hgN⟩ := Option.map_eq_some_iff.1 hN
  simp only at hg hgN
  have hm : max 1 (min a0 6) = max 1 (min (k : Int) 6) := by
    unfold cl6 at h
    omega
  unfold L_law03_GraphFull
  rw [full_eq h, hg, Option.bind_some, Option.bind_some, hm, hgN, hb, ← hgN]
  have hb' : (landK .i64 a1 255).tmod g.N = (landK .i64 b1 255).tmod g.N := by rw [hgN]; exact hb
  simp only [gfull_l1 hb']
theorem gfull_all : ∀ k : Fin 7, 1 ≤ k.val → ∀ b : Fin 6, L_law03_GraphFull (k.val : Int) (b.val : Int) = some true := by decide +kernel
theorem land_small : ∀ b : Fin 6, landK .i64 (b.val : Int) 255 = (b.val : Int) := by decide +kernel
theorem graphFull_true (a0 a1 : Int) (w0 : wI .i64 a0) (w1 : wI .i64 a1) : L_law03_GraphFull a0 a1 = some true := by
  obtain ⟨k, h1, h6, hk, _, _⟩ := cl6_cases a0
  have hl := land255 a1
  have ht0 := Int.tmod_nonneg (k : Int) hl.1
  have ht1 := Int.tmod_lt_of_pos (landK .i64 a1 255) (show (0 : Int) < k by omega)
  have hbl := land_small ⟨((landK .i64 a1 255).tmod k).toNat, by omega⟩
  simp only at hbl
  have e1 : ((((landK .i64 a1 255).tmod k).toNat : Nat) : Int) = (landK .i64 a1 255).tmod k := by omega
  rw [gfull_eq hk h1 h6 (b1 := (((landK .i64 a1 255).tmod k).toNat : Nat)) (by rw [hbl, e1, Int.tmod_tmod])]
  exact gfull_all ⟨k, by omega⟩ h1 ⟨((landK .i64 a1 255).tmod k).toNat, by omega⟩
end Go.Proofs.Yteohodhcegbmmaa
