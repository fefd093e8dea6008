/- Plain systems: all that can be done. No condition. -/
import Derived.Test.YtifcbecpemaieaaPpf
set_option linter.unusedSimpArgs false
set_option linter.unusedVariables false
namespace Go.Proofs.Ytifcbecpemaieaa
open Go.RowKit

end Go.Proofs.Ytifcbecpemaieaa
