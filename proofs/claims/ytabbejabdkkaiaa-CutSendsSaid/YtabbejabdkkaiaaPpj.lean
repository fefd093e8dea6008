/- Plain systems: all that can be done, the document's; the same configuration; sizes. No condition. -/
import Derived.Test.YtabbejabdkkaiaaPpi
import Derived.Test.YtabbejabdkkaiaaPpg
set_option linter.unusedSimpArgs false
set_option linter.unusedVariables false
namespace Go.Proofs.Ytabbejabdkkaiaa
open Go.RowKit

section
variable {a : TApp} {c : TConf}
end
end Go.Proofs.Ytabbejabdkkaiaa
