/- Shared by the laws on graphs: rows held against each other, all links, what may be has. No condition. -/
import Derived.Test.YtabbejabdkkaiaaPgd
set_option linter.unusedSimpArgs false
set_option linter.unusedVariables false
namespace Go.Proofs.Ytabbejabdkkaiaa
open Go.RowKit

theorem law_ref (g : TGraph) : L_law03_Ref g = some g := rfl
theorem cut_len (g : TGraph) : (⟨g.N,g.Links.take 40⟩ : TGraph).Links.length ≤ 40 := by simp; omega
section
variable {g : TGraph}
theorem RightP.ok (h : RightP g) : GOk g g.N.toNat := h.2.2.2.1.ok h.1 h.2.1 (by have := h.2.2.1; omega)
theorem pick_node (x : Int) {N : Int} (h : 1 ≤ N) : ∃ s : Nat,(landK .i64 x 255).tmod N = (s : Int) ∧ s < N.toNat := by
 have hl := land255 x
 have h1 := Int.tmod_nonneg N hl.1
 have h2 := Int.tmod_lt_of_pos (landK .i64 x 255) (show (0 : Int) < N by omega)
 exact ⟨((landK .i64 x 255).tmod N).toNat,by omega,by omega⟩
end
end Go.Proofs.Ytabbejabdkkaiaa
