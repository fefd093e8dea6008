/- Shared by the laws on graphs: rows held against each other, all links, what may be has. No condition. -/
import Derived.Test.YtabbejabdkkaiaaPgd
set_option linter.unusedSimpArgs false
set_option linter.unusedVariables false
namespace Go.Proofs.Ytabbejabdkkaiaa
open Go.RowKit

theorem law_ref (g : TGraph) : L_law03_Ref g = some g := rfl
theorem cut_len (g : TGraph) : (⟨g.N,g.Links.take 40⟩ : TGraph).Links.length ≤ 40 := by simp; omega
section
variable {g : TGraph}
theorem RightP.ok (h : RightP g) : GOk g g.N.toNat := h.2.2.2.1.ok h.1 h.2.1 (by have := h.2.2.1; omega)
end
end Go.Proofs.Ytabbejabdkkaiaa
