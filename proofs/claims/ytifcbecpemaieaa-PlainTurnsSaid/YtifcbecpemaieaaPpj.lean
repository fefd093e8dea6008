/- Plain systems: all that can be done, the document's; the same configuration; sizes. No condition. -/
import Derived.Test.YtifcbecpemaieaaPpi
import Derived.Test.YtifcbecpemaieaaPpg
set_option linter.unusedSimpArgs false
set_option linter.unusedVariables false
namespace Go.Proofs.Ytifcbecpemaieaa
open Go.RowKit

section
variable {a : TApp} {c : TConf}
theorem can_ok {s : TStep} (h : s ∈ canP a c) : (applyP a c s).2 = 0 := of_decide_eq_true (List.mem_filter.1 h).2
theorem law_where {s : TStep} (hr : RightP a.G) : L_law05_Where a.G s = some (whereP a s) := by
 unfold L_law05_Where whereP
 rw [borf]
 by_cases k0 : s.Kind = 0
 · rw [if_pos k0,if_pos k0]
 ·
  rw [if_neg k0,if_neg k0]
  by_cases c1 : s.Link < 0 ∨ s.Link ≥ (a.G.Links.length : Int)
  · rw [if_pos (dT c1),if_pos c1]
  · rw [if_neg (by rw [dF c1]; decide),if_neg c1,at_lt (by omega) (by omega),Option.bind_some,List.getElem?_eq_getElem (by omega),Option.getD_some]
end
end Go.Proofs.Ytifcbecpemaieaa
