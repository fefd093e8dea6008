/- Plain systems: all that can be done. No condition. -/
import Derived.Test.YtabbejabdkkaiaaPpf
set_option linter.unusedSimpArgs false
set_option linter.unusedVariables false
namespace Go.Proofs.Ytabbejabdkkaiaa
open Go.RowKit

end Go.Proofs.Ytabbejabdkkaiaa
