/- Plain systems: all that can be done, the document's; the same configuration; sizes. No condition. -/
import Derived.Test.YtifcbecpemaieaaPpi
import Derived.Test.YtifcbecpemaieaaPpg
set_option linter.unusedSimpArgs false
set_option linter.unusedVariables false
namespace Go.Proofs.Ytifcbecpemaieaa
open Go.RowKit

section
variable {a : TApp} {c : TConf}
theorem can_len (h : CRightP a c) (ha : SzA a) : (canP a c).length ≤ 200000 := by
 have h6 := h.tab.1.2.1
 have hN := h.nst
 have hp := picks_len a (N := c.States.length) (by omega)
 have hd := dels_len (h.sz ha)
 have := List.length_filter_le (fun s => decide ((applyP a c s).2 = 0)) (picksOf a c.States.length ++ delsOf c)
 rw [List.length_append] at this
 unfold canP
 omega
theorem can_ok {s : TStep} (h : s ∈ canP a c) : (applyP a c s).2 = 0 := of_decide_eq_true (List.mem_filter.1 h).2
end
end Go.Proofs.Ytifcbecpemaieaa
