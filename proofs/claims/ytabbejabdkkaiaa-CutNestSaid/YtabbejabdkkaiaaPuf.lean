/- Cuts: the reference's counts; the program's own fixed cuts. No condition. -/
import Derived.Test.YtabbejabdkkaiaaPue
set_option linter.unusedSimpArgs false
set_option linter.unusedVariables false
namespace Go.Proofs.Ytabbejabdkkaiaa
open Go.RowKit

section
variable {g : TGraph}
end
theorem fixed17 : L_law17_fixed = some true := by decide +kernel
theorem sz_start {a : TApp} (ha : SzA a) : SzC (startP a) := by
 have h1 := ha.t.1
 have h2 := ha.g
 refine ⟨by simp [startP]; omega,by simp [startP]; omega,fun l hl => ?_,by simp [startP]; omega⟩
 rw [(List.mem_replicate.1 hl).2]
 decide
open Classical in
theorem start_iff {a : TApp} (ha : SzA a) : L_ref05_Right a (startP a) = some (decide (CRightP a (startP a))) := ref_right5 ha (sz_start ha)
theorem wI_i64 {x : Int} (h1 : -9223372036854775808 ≤ x) (h2 : x ≤ 9223372036854775807) : wI .i64 x := by
 have e1 : IntKind.min .i64 = -9223372036854775808 := by decide
 have e2 : IntKind.max .i64 = 9223372036854775807 := by decide
 unfold wI
 omega
end Go.Proofs.Ytabbejabdkkaiaa
