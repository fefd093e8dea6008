/- Edges in plain words: who waits for whom, with nothing under way. No condition. -/
import Derived.Test.YtabbejabdkkaiaaPca
import Derived.Test.YtabbejabdkkaiaaPkm
import Derived.Test.YtabbejabdkkaiaaPgf
set_option linter.unusedSimpArgs false
set_option linter.unusedVariables false
namespace Go.Proofs.Ytabbejabdkkaiaa
open Go.RowKit

theorem RightP.link {g : TGraph} (h : RightP g) {x : A2I} (hx : x ∈ g.Links) : good g.N x := (C1_iff.1 h.2.2.2.1).1 x hx
section
variable {a : TApp}
end
end Go.Proofs.Ytabbejabdkkaiaa
