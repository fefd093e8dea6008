/-
  No cell of these rows narrows 'for every input' (looked for: loops, veiled, ifaces, maps, wideKeys, modest, calm, conditions, laid).
  DERIVED. THE GIVEN ROWS OF THIS SEAT. 7 by the template 'for every input the law returns true; each argument reads behind the call as it read before'; 0 by the template 'total and deterministic' (their statements: YteohodhcegbmmaaTotals.lean).
  GIVEN WITH THE SEED: the statements are not yours to turn. If you find one false, say at which input.
  Laid BY PROGRAM, IN A SANDBOX (cutbox-rows.mjs): the forced cells as the released guide's own fill.sh prints them over the translation 5995a0633a5c3a8a… (all of the seat's roots in one cut). By AI agents, Wed Nov 11 2026. No macro, syntax, notation, axiom, sorry.
-/
import Derived.Test.YteohodhcegbmmaaChecked
import GoSem.Claim
import GoSem.ClaimJoined
import GoSem.ClaimMapViews
import Derived.JoinedTies
import Derived.KernelRfl
namespace Go.Proofs.Yteohodhcegbmmaa
/- THE CELL 'sum', in the pinned program and in every row, IS THE sha256 OF THE DUMP (.gsa) THAT YteohodhcegbmmaaProg.lean LOADS. Nothing in Lean hashes anything: it is a label: what it is worth is what the hold of that sum in a sandbox is worth. -/
noncomputable def Try.pinned : Pinned := { name := "yteohodhcegbmmaa", sum := "5995a0633a5c3a8a8583494612b6ddf7e53e557581373d13528c20665a6768ca", checked := Try.checked }
namespace Rows
def none {H : Type} : Left H := { results := [], args := [] }

/-- 'cameolaw03.GraphTells': WHATEVER THE INPUT: true; the input reads as it did. -/
def graphTellsSpec : ChangeSpec := { name := "graphTells", fn := fun _ => fun
  | [d1, d2, d3] => { results := [.lit (.bool true)], args := [d1, d2, d3] }
  | _ => none }
def graphTellsRow : OpenClaim := { program := "yteohodhcegbmmaa", sum := "5995a0633a5c3a8a8583494612b6ddf7e53e557581373d13528c20665a6768ca", func := "cameo/cameolaw03.GraphTells", spec := "graphTells", plainKeys := false, apart := false }
def GraphTellsSaid : Prop := graphTellsRow.holds Try.pinned (OpenSpec.ofChange graphTellsSpec)

/-- ITS FALSE NEIGHBOUR: 'it returns false'. Refute it at one input. -/
def graphTellsWrong : ChangeSpec := { name := "graphTells", fn := fun _ => fun
  | [d1, d2, d3] => { results := [.lit (.bool false)], args := [d1, d2, d3] }
  | _ => none }
def GraphTellsWrongFalsely : Prop := graphTellsRow.holds Try.pinned (OpenSpec.ofChange graphTellsWrong)

/-- 'cameolaw03.GraphBack': WHATEVER THE INPUT: true; the input reads as it did. -/
def graphBackSpec : ChangeSpec := { name := "graphBack", fn := fun _ => fun
  | [d] => { results := [.lit (.bool true)], args := [d] }
  | _ => none }
def graphBackRow : OpenClaim := { program := "yteohodhcegbmmaa", sum := "5995a0633a5c3a8a8583494612b6ddf7e53e557581373d13528c20665a6768ca", func := "cameo/cameolaw03.GraphBack", spec := "graphBack", plainKeys := false, apart := false }
def GraphBackSaid : Prop := graphBackRow.holds Try.pinned (OpenSpec.ofChange graphBackSpec)

/-- ITS FALSE NEIGHBOUR: 'it returns false'. Refute it at one input. -/
def graphBackWrong : ChangeSpec := { name := "graphBack", fn := fun _ => fun
  | [d] => { results := [.lit (.bool false)], args := [d] }
  | _ => none }
def GraphBackWrongFalsely : Prop := graphBackRow.holds Try.pinned (OpenSpec.ofChange graphBackWrong)

/-- 'cameolaw03.GraphDist': WHATEVER THE INPUT: true; the input reads as it did. -/
def graphDistSpec : ChangeSpec := { name := "graphDist", fn := fun _ => fun
  | [d1, d2, d3] => { results := [.lit (.bool true)], args := [d1, d2, d3] }
  | _ => none }
def graphDistRow : OpenClaim := { program := "yteohodhcegbmmaa", sum := "5995a0633a5c3a8a8583494612b6ddf7e53e557581373d13528c20665a6768ca", func := "cameo/cameolaw03.GraphDist", spec := "graphDist", plainKeys := false, apart := false }
def GraphDistSaid : Prop := graphDistRow.holds Try.pinned (OpenSpec.ofChange graphDistSpec)

/-- ITS FALSE NEIGHBOUR: 'it returns false'. Refute it at one input. -/
def graphDistWrong : ChangeSpec := { name := "graphDist", fn := fun _ => fun
  | [d1, d2, d3] => { results := [.lit (.bool false)], args := [d1, d2, d3] }
  | _ => none }
def GraphDistWrongFalsely : Prop := graphDistRow.holds Try.pinned (OpenSpec.ofChange graphDistWrong)

/-- 'cameolaw03.GraphLess': WHATEVER THE INPUT: true; the input reads as it did. -/
def graphLessSpec : ChangeSpec := { name := "graphLess", fn := fun _ => fun
  | [d1, d2] => { results := [.lit (.bool true)], args := [d1, d2] }
  | _ => none }
def graphLessRow : OpenClaim := { program := "yteohodhcegbmmaa", sum := "5995a0633a5c3a8a8583494612b6ddf7e53e557581373d13528c20665a6768ca", func := "cameo/cameolaw03.GraphLess", spec := "graphLess", plainKeys := false, apart := false }
def GraphLessSaid : Prop := graphLessRow.holds Try.pinned (OpenSpec.ofChange graphLessSpec)

/-- ITS FALSE NEIGHBOUR: 'it returns false'. Refute it at one input. -/
def graphLessWrong : ChangeSpec := { name := "graphLess", fn := fun _ => fun
  | [d1, d2] => { results := [.lit (.bool false)], args := [d1, d2] }
  | _ => none }
def GraphLessWrongFalsely : Prop := graphLessRow.holds Try.pinned (OpenSpec.ofChange graphLessWrong)

/-- 'cameolaw03.GraphWays': WHATEVER THE INPUT: true; the input reads as it did. -/
def graphWaysSpec : ChangeSpec := { name := "graphWays", fn := fun _ => fun
  | [d1, d2] => { results := [.lit (.bool true)], args := [d1, d2] }
  | _ => none }
def graphWaysRow : OpenClaim := { program := "yteohodhcegbmmaa", sum := "5995a0633a5c3a8a8583494612b6ddf7e53e557581373d13528c20665a6768ca", func := "cameo/cameolaw03.GraphWays", spec := "graphWays", plainKeys := false, apart := false }
def GraphWaysSaid : Prop := graphWaysRow.holds Try.pinned (OpenSpec.ofChange graphWaysSpec)

/-- ITS FALSE NEIGHBOUR: 'it returns false'. Refute it at one input. -/
def graphWaysWrong : ChangeSpec := { name := "graphWays", fn := fun _ => fun
  | [d1, d2] => { results := [.lit (.bool false)], args := [d1, d2] }
  | _ => none }
def GraphWaysWrongFalsely : Prop := graphWaysRow.holds Try.pinned (OpenSpec.ofChange graphWaysWrong)

/-- 'cameolaw03.GraphTurned': WHATEVER THE INPUT: true; the input reads as it did. -/
def graphTurnedSpec : ChangeSpec := { name := "graphTurned", fn := fun _ => fun
  | [d1, d2, d3] => { results := [.lit (.bool true)], args := [d1, d2, d3] }
  | _ => none }
def graphTurnedRow : OpenClaim := { program := "yteohodhcegbmmaa", sum := "5995a0633a5c3a8a8583494612b6ddf7e53e557581373d13528c20665a6768ca", func := "cameo/cameolaw03.GraphTurned", spec := "graphTurned", plainKeys := false, apart := false }
def GraphTurnedSaid : Prop := graphTurnedRow.holds Try.pinned (OpenSpec.ofChange graphTurnedSpec)

/-- ITS FALSE NEIGHBOUR: 'it returns false'. Refute it at one input. -/
def graphTurnedWrong : ChangeSpec := { name := "graphTurned", fn := fun _ => fun
  | [d1, d2, d3] => { results := [.lit (.bool false)], args := [d1, d2, d3] }
  | _ => none }
def GraphTurnedWrongFalsely : Prop := graphTurnedRow.holds Try.pinned (OpenSpec.ofChange graphTurnedWrong)

/-- 'cameolaw03.GraphFull': WHATEVER THE INPUT: true; the input reads as it did. -/
def graphFullSpec : ChangeSpec := { name := "graphFull", fn := fun _ => fun
  | [d1, d2] => { results := [.lit (.bool true)], args := [d1, d2] }
  | _ => none }
def graphFullRow : OpenClaim := { program := "yteohodhcegbmmaa", sum := "5995a0633a5c3a8a8583494612b6ddf7e53e557581373d13528c20665a6768ca", func := "cameo/cameolaw03.GraphFull", spec := "graphFull", plainKeys := false, apart := false }
def GraphFullSaid : Prop := graphFullRow.holds Try.pinned (OpenSpec.ofChange graphFullSpec)

/-- ITS FALSE NEIGHBOUR: 'it returns false'. Refute it at one input. -/
def graphFullWrong : ChangeSpec := { name := "graphFull", fn := fun _ => fun
  | [d1, d2] => { results := [.lit (.bool false)], args := [d1, d2] }
  | _ => none }
def GraphFullWrongFalsely : Prop := graphFullRow.holds Try.pinned (OpenSpec.ofChange graphFullWrong)

/- THE SECOND FORM. 'bulk': how many values and letters a reading holds, each counted each time it is reached (what is shared counts as often as it is met; a slice's spare places count too). A statement '..UptoSaid' is the law's where the arguments, and the package variables that the reading takes, are together of bulk at most 1048576: NARROWER than '..Said'. Prove '..Said' where nothing that the law and all that it calls make is longer than what came in: it says more and counts as full. Else prove '..UptoSaid'. A law counts once. -/
mutual
def uptoBulk {H : Type} : DataW H → Nat
  | .lit (.string bytes) => bytes.length + 1
  | .lit _ => 1
  | .nil => 1
  | .ptr d => uptoBulk d + 1
  | .slice elems spare => uptoBulkAll elems + uptoBulkAll spare + 1
  | .agg parts => uptoBulkAll parts + 1
  | .iface _ d => uptoBulk d + 1
  | .map entries => uptoBulkEntries entries + 1
  | .held _ => 1
def uptoBulkAll {H : Type} : List (DataW H) → Nat
  | [] => 0
  | d :: r => uptoBulk d + uptoBulkAll r
def uptoBulkEntries {H : Type} : List (Lit × DataW H) → Nat
  | [] => 0
  | x :: r => uptoBulkEntry x + uptoBulkEntries r
def uptoBulkEntry {H : Type} : Lit × DataW H → Nat
  | (.string bytes, d) => bytes.length + uptoBulk d + 1
  | (_, d) => uptoBulk d + 1
 end
def uptoSmall : (H : Type) → List (DataW H) → Bool := fun _ ds => decide (uptoBulkAll ds ≤ 1048576)
def OpenSpec.upto (s : _root_.Go.ChangeSpec) : _root_.Go.OpenSpec := { _root_.Go.OpenSpec.ofChange s with cond := some uptoSmall }

/-- 'cameolaw03.GraphTells', WHERE WHAT IT READS IS OF BULK AT MOST 1048576: true; the input reads as it did. -/
def graphTellsUptoRow : OpenClaim := { program := "yteohodhcegbmmaa", sum := "5995a0633a5c3a8a8583494612b6ddf7e53e557581373d13528c20665a6768ca", func := "cameo/cameolaw03.GraphTells", spec := "graphTells", plainKeys := false, apart := false, narrowed := true }
def GraphTellsUptoSaid : Prop := graphTellsUptoRow.holds Try.pinned (OpenSpec.upto graphTellsSpec)

/-- 'cameolaw03.GraphBack', WHERE WHAT IT READS IS OF BULK AT MOST 1048576: true; the input reads as it did. -/
def graphBackUptoRow : OpenClaim := { program := "yteohodhcegbmmaa", sum := "5995a0633a5c3a8a8583494612b6ddf7e53e557581373d13528c20665a6768ca", func := "cameo/cameolaw03.GraphBack", spec := "graphBack", plainKeys := false, apart := false, narrowed := true }
def GraphBackUptoSaid : Prop := graphBackUptoRow.holds Try.pinned (OpenSpec.upto graphBackSpec)

/-- 'cameolaw03.GraphDist', WHERE WHAT IT READS IS OF BULK AT MOST 1048576: true; the input reads as it did. -/
def graphDistUptoRow : OpenClaim := { program := "yteohodhcegbmmaa", sum := "5995a0633a5c3a8a8583494612b6ddf7e53e557581373d13528c20665a6768ca", func := "cameo/cameolaw03.GraphDist", spec := "graphDist", plainKeys := false, apart := false, narrowed := true }
def GraphDistUptoSaid : Prop := graphDistUptoRow.holds Try.pinned (OpenSpec.upto graphDistSpec)

/-- 'cameolaw03.GraphLess', WHERE WHAT IT READS IS OF BULK AT MOST 1048576: true; the input reads as it did. -/
def graphLessUptoRow : OpenClaim := { program := "yteohodhcegbmmaa", sum := "5995a0633a5c3a8a8583494612b6ddf7e53e557581373d13528c20665a6768ca", func := "cameo/cameolaw03.GraphLess", spec := "graphLess", plainKeys := false, apart := false, narrowed := true }
def GraphLessUptoSaid : Prop := graphLessUptoRow.holds Try.pinned (OpenSpec.upto graphLessSpec)

/-- 'cameolaw03.GraphWays', WHERE WHAT IT READS IS OF BULK AT MOST 1048576: true; the input reads as it did. -/
def graphWaysUptoRow : OpenClaim := { program := "yteohodhcegbmmaa", sum := "5995a0633a5c3a8a8583494612b6ddf7e53e557581373d13528c20665a6768ca", func := "cameo/cameolaw03.GraphWays", spec := "graphWays", plainKeys := false, apart := false, narrowed := true }
def GraphWaysUptoSaid : Prop := graphWaysUptoRow.holds Try.pinned (OpenSpec.upto graphWaysSpec)

/-- 'cameolaw03.GraphTurned', WHERE WHAT IT READS IS OF BULK AT MOST 1048576: true; the input reads as it did. -/
def graphTurnedUptoRow : OpenClaim := { program := "yteohodhcegbmmaa", sum := "5995a0633a5c3a8a8583494612b6ddf7e53e557581373d13528c20665a6768ca", func := "cameo/cameolaw03.GraphTurned", spec := "graphTurned", plainKeys := false, apart := false, narrowed := true }
def GraphTurnedUptoSaid : Prop := graphTurnedUptoRow.holds Try.pinned (OpenSpec.upto graphTurnedSpec)

/-- 'cameolaw03.GraphFull', WHERE WHAT IT READS IS OF BULK AT MOST 1048576: true; the input reads as it did. -/
def graphFullUptoRow : OpenClaim := { program := "yteohodhcegbmmaa", sum := "5995a0633a5c3a8a8583494612b6ddf7e53e557581373d13528c20665a6768ca", func := "cameo/cameolaw03.GraphFull", spec := "graphFull", plainKeys := false, apart := false, narrowed := true }
def GraphFullUptoSaid : Prop := graphFullUptoRow.holds Try.pinned (OpenSpec.upto graphFullSpec)

end Rows
end Go.Proofs.Yteohodhcegbmmaa
