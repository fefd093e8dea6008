/- Plain systems: where the document's start; many steps. No condition. -/
import Derived.Test.YtifcbecpemaieaaPpc
set_option linter.unusedSimpArgs false
set_option linter.unusedVariables false
namespace Go.Proofs.Ytifcbecpemaieaa
open Go.RowKit

end Go.Proofs.Ytifcbecpemaieaa
