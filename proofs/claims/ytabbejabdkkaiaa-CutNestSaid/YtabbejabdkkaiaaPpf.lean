/- Plain systems: many steps. No condition. -/
import Derived.Test.YtabbejabdkkaiaaPpe
set_option linter.unusedSimpArgs false
set_option linter.unusedVariables false
namespace Go.Proofs.Ytabbejabdkkaiaa
open Go.RowKit

end Go.Proofs.Ytabbejabdkkaiaa
