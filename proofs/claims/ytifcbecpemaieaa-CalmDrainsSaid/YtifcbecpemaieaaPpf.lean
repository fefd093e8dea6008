/- Plain systems: many steps. No condition. -/
import Derived.Test.YtifcbecpemaieaaPpe
set_option linter.unusedSimpArgs false
set_option linter.unusedVariables false
namespace Go.Proofs.Ytifcbecpemaieaa
open Go.RowKit

end Go.Proofs.Ytifcbecpemaieaa
