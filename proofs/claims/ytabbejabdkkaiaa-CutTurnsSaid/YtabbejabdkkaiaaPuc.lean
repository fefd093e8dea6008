/- Cuts in plain words: how many each node has; the cut of the first steps; a cut that lacks a pick. No condition. -/
import Derived.Test.YtabbejabdkkaiaaPub
set_option linter.unusedSimpArgs false
set_option linter.unusedVariables false
namespace Go.Proofs.Ytabbejabdkkaiaa
open Go.RowKit

def leftP (g : TGraph) (counts : List Int) : List Int := (List.range g.N.toNat).map fun n => max ((counts[n]?).getD 0) 0
def noL : Int → Int → Prop := fun _ _ => False
section
variable {g : TGraph}
theorem leftP_len (counts : List Int) : (leftP g counts).length = g.N.toNat := by unfold leftP; rw [List.length_map,List.length_range]
end
section
variable {a : TApp} {c : TConf}
end
end Go.Proofs.Ytabbejabdkkaiaa
