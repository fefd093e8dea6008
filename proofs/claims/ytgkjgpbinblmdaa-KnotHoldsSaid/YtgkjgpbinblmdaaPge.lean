/- Shared by the laws on graphs: rows held against each other, all links, what may be has. No condition. -/
import Derived.Test.YtgkjgpbinblmdaaPgd
set_option linter.unusedSimpArgs false
set_option linter.unusedVariables false
namespace Go.Proofs.Ytgkjgpbinblmdaa
open Go.RowKit

theorem drop_eq {α : Type} {a b : List α} {k : Nat} (ha : k < a.length) (hb : k < b.length) : (a.drop k = b.drop k) ↔ (a[k] = b[k] ∧ a.drop (k + 1) = b.drop (k + 1)) := by
  rw [List.drop_eq_getElem_cons ha, List.drop_eq_getElem_cons hb, List.cons.injEq]
theorem ref01_Ints_l1 {a b : List Int} (hl : a.length = b.length) (hs : sm a.length) : ∀ (n nf k : Nat), k + n = a.length → n < nf → L_ref01_Ints_l1 a b nf (k : Int) = some (decide (a.drop k = b.drop k))
  | 0, nf + 1, k, h1, h2 => by
    rw [L_ref01_Ints_l1, if_neg (by omega), List.drop_of_length_le (by omega), List.drop_of_length_le (by omega)]
    simp
  | n + 1, nf + 1, k, h1, h2 => by
    have hk : k < a.length := by omega
    have hk' : k < b.length := by omega
    have hs' := hs
    unfold sm at hs'
    rw [L_ref01_Ints_l1, if_pos (by omega), at_nat, at_nat, List.getElem?_eq_getElem hk, List.getElem?_eq_getElem hk', Option.bind_some, Option.bind_some]
    simp only [drop_eq hk hk']
    by_cases he : a[k] = b[k]
    · rw [if_pos he, wr_succ (by omega), ref01_Ints_l1 hl hs n nf (k + 1) (by omega) (by omega)]
      simp [he]
    · rw [if_neg he]
      simp [he]
theorem ref01_Ints {a b : List Int} (hs : sm a.length) : L_ref01_Ints a b = some (decide (a = b)) := by
  unfold L_ref01_Ints
  by_cases hl : a.length = b.length
  · rw [if_pos (by omega), fuel_eq, show (0 : Int) = ((0 : Nat) : Int) from rfl, ref01_Ints_l1 hl hs a.length _ 0 (by simp) (by omega)]
    simp
  · rw [if_neg (by omega)]
    have : a ≠ b := fun e => hl (by rw [e])
    simp [this]
theorem ints_same {a : List Int} (hs : a.length ≤ 1000) : L_ref01_Ints a a = some true := by
  rw [ref01_Ints (by unfold sm; omega)]
  simp
theorem law_ref (g : TGraph) : L_law03_Ref g = some g := rfl
theorem cut_len (g : TGraph) : (⟨g.N, g.Links.take 40⟩ : TGraph).Links.length ≤ 40 := by simp; omega
theorem outs_len (g : TGraph) (a : Int) : (outs_ g a).length ≤ g.Links.length := idxs_len _ _ _
theorem ins_len (g : TGraph) (a : Int) : (ins_ g a).length ≤ g.Links.length := idxs_len _ _ _
section
variable {g : TGraph}
theorem RightP.ok (h : RightP g) : GOk g g.N.toNat := h.2.2.2.1.ok h.1 h.2.1 (by have := h.2.2.1; omega)
/-- In what may be: how far nodes are. -/
theorem RightP.dist (h : RightP g) {s : Nat} (hs : s < g.N.toNat) : ∃ o, L_graph_Dist g (s : Int) = some o ∧ o.length = g.N.toNat ∧ ∀ v, v < g.N.toNat → ∃ d : Nat, D o v = d ∧ (d : Int) ≤ g.N - 1 ∧ Wk (EG g) s d v ∧ ∀ k, Wk (EG g) s k v → d ≤ k := by
  obtain ⟨o, h1, h2, h3⟩ := graph_dist h.ok hs
  refine ⟨o, h1, h2.len, fun v hv => ?_⟩
  have hc := Conn.all h.2.2.2.2.1 h.2.2.2.2.2 hs v hv
  have := h3 v hv
  rcases h2.val v hv with ⟨_, h4⟩ | ⟨d, h4, h5, h6⟩
  · obtain ⟨k, hk⟩ := hc
    exact absurd hk (h4 k)
  · exact ⟨d, h4, by omega, h5, h6⟩
theorem at_D {o : List Int} {v : Nat} (h : v < o.length) : at? o (v : Int) = some (D o v) := by
  rw [at_nat, List.getElem?_eq_getElem h, D_get h]
/-- A node, of a number. -/
theorem pick_node (x : Int) {N : Int} (h : 1 ≤ N) : ∃ s : Nat, (landK .i64 x 255).tmod N = (s : Int) ∧ s < N.toNat := by
  have hl := land255 x
  have h1 := Int.tmod_nonneg N hl.1
  have h2 := Int.tmod_lt_of_pos (landK .i64 x 255) (show (0 : Int) < N by omega)
  exact ⟨((landK .i64 x 255).tmod N).toNat, by omega, by omega⟩
end
end Go.Proofs.Ytgkjgpbinblmdaa
