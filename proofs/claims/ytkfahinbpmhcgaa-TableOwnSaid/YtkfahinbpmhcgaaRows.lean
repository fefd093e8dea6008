/-
  No cell of these rows narrows 'for every input' (looked for: loops, veiled, ifaces, maps, wideKeys, modest, calm, conditions, laid).
  DERIVED. THE GIVEN ROWS OF THIS SEAT. 12 by the template 'for every input the law returns true; each argument reads behind the call as it read before'; 0 by the template 'total and deterministic' (their statements: YtkfahinbpmhcgaaTotals.lean).
  GIVEN WITH THE SEED: the statements are not yours to turn. If you find one false, say at which input.
  Laid BY PROGRAM, IN A SANDBOX (cutbox-rows.mjs): the forced cells as the released guide's own fill.sh prints them over the translation 413ad417114040f6… (all of the seat's roots in one cut). By AI agents, Wed Nov 11 2026. No macro, syntax, notation, axiom, sorry.
-/
import Derived.Test.YtkfahinbpmhcgaaChecked
import GoSem.Claim
import GoSem.ClaimJoined
import GoSem.ClaimMapViews
import Derived.JoinedTies
import Derived.KernelRfl
namespace Go.Proofs.Ytkfahinbpmhcgaa
/- THE CELL 'sum', in the pinned program and in every row, IS THE sha256 OF THE DUMP (.gsa) THAT YtkfahinbpmhcgaaProg.lean LOADS. Nothing in Lean hashes anything: it is a label: what it is worth is what the hold of that sum in a sandbox is worth. -/
noncomputable def Try.pinned : Pinned := { name := "ytkfahinbpmhcgaa", sum := "413ad417114040f6cedd8a987bdac833dcdcc8d2830ffa72e36dab190b633156", checked := Try.checked }
namespace Rows
def none {H : Type} : Left H := { results := [], args := [] }

/-- 'cameolaw14.CalmAlone': WHATEVER THE INPUT: true; the input reads as it did. -/
def calmAloneSpec : ChangeSpec := { name := "calmAlone", fn := fun _ => fun
  | [d1, d2, d3] => { results := [.lit (.bool true)], args := [d1, d2, d3] }
  | _ => none }
def calmAloneRow : OpenClaim := { program := "ytkfahinbpmhcgaa", sum := "413ad417114040f6cedd8a987bdac833dcdcc8d2830ffa72e36dab190b633156", func := "cameo/cameolaw14.CalmAlone", spec := "calmAlone", unfollowed := true, recurses := true, plainKeys := false, apart := false }
def CalmAloneSaid : Prop := calmAloneRow.holds Try.pinned (OpenSpec.ofChange calmAloneSpec)

/-- ITS FALSE NEIGHBOUR: 'it returns false'. Refute it at one input. -/
def calmAloneWrong : ChangeSpec := { name := "calmAlone", fn := fun _ => fun
  | [d1, d2, d3] => { results := [.lit (.bool false)], args := [d1, d2, d3] }
  | _ => none }
def CalmAloneWrongFalsely : Prop := calmAloneRow.holds Try.pinned (OpenSpec.ofChange calmAloneWrong)

/-- 'cameolaw14.CalmSteps': WHATEVER THE INPUT: true; the input reads as it did. -/
def calmStepsSpec : ChangeSpec := { name := "calmSteps", fn := fun _ => fun
  | [d1, d2] => { results := [.lit (.bool true)], args := [d1, d2] }
  | _ => none }
def calmStepsRow : OpenClaim := { program := "ytkfahinbpmhcgaa", sum := "413ad417114040f6cedd8a987bdac833dcdcc8d2830ffa72e36dab190b633156", func := "cameo/cameolaw14.CalmSteps", spec := "calmSteps", unfollowed := true, recurses := true, plainKeys := false, apart := false }
def CalmStepsSaid : Prop := calmStepsRow.holds Try.pinned (OpenSpec.ofChange calmStepsSpec)

/-- ITS FALSE NEIGHBOUR: 'it returns false'. Refute it at one input. -/
def calmStepsWrong : ChangeSpec := { name := "calmSteps", fn := fun _ => fun
  | [d1, d2] => { results := [.lit (.bool false)], args := [d1, d2] }
  | _ => none }
def CalmStepsWrongFalsely : Prop := calmStepsRow.holds Try.pinned (OpenSpec.ofChange calmStepsWrong)

/-- 'cameolaw04.TableStays': WHATEVER THE INPUT: true; the input reads as it did. -/
def tableStaysSpec : ChangeSpec := { name := "tableStays", fn := fun _ => fun
  | [d1, d2, d3] => { results := [.lit (.bool true)], args := [d1, d2, d3] }
  | _ => none }
def tableStaysRow : OpenClaim := { program := "ytkfahinbpmhcgaa", sum := "413ad417114040f6cedd8a987bdac833dcdcc8d2830ffa72e36dab190b633156", func := "cameo/cameolaw04.TableStays", spec := "tableStays", unfollowed := true, recurses := true, plainKeys := false, apart := false }
def TableStaysSaid : Prop := tableStaysRow.holds Try.pinned (OpenSpec.ofChange tableStaysSpec)

/-- ITS FALSE NEIGHBOUR: 'it returns false'. Refute it at one input. -/
def tableStaysWrong : ChangeSpec := { name := "tableStays", fn := fun _ => fun
  | [d1, d2, d3] => { results := [.lit (.bool false)], args := [d1, d2, d3] }
  | _ => none }
def TableStaysWrongFalsely : Prop := tableStaysRow.holds Try.pinned (OpenSpec.ofChange tableStaysWrong)

/-- 'cameolaw04.TableParts': WHATEVER THE INPUT: true; the input reads as it did. -/
def tablePartsSpec : ChangeSpec := { name := "tableParts", fn := fun _ => fun
  | [d1, d2] => { results := [.lit (.bool true)], args := [d1, d2] }
  | _ => none }
def tablePartsRow : OpenClaim := { program := "ytkfahinbpmhcgaa", sum := "413ad417114040f6cedd8a987bdac833dcdcc8d2830ffa72e36dab190b633156", func := "cameo/cameolaw04.TableParts", spec := "tableParts", unfollowed := true, recurses := true, plainKeys := false, apart := false }
def TablePartsSaid : Prop := tablePartsRow.holds Try.pinned (OpenSpec.ofChange tablePartsSpec)

/-- ITS FALSE NEIGHBOUR: 'it returns false'. Refute it at one input. -/
def tablePartsWrong : ChangeSpec := { name := "tableParts", fn := fun _ => fun
  | [d1, d2] => { results := [.lit (.bool false)], args := [d1, d2] }
  | _ => none }
def TablePartsWrongFalsely : Prop := tablePartsRow.holds Try.pinned (OpenSpec.ofChange tablePartsWrong)

/-- 'cameolaw04.TableEach': WHATEVER THE INPUT: true; the input reads as it did. -/
def tableEachSpec : ChangeSpec := { name := "tableEach", fn := fun _ => fun
  | [d1, d2, d3] => { results := [.lit (.bool true)], args := [d1, d2, d3] }
  | _ => none }
def tableEachRow : OpenClaim := { program := "ytkfahinbpmhcgaa", sum := "413ad417114040f6cedd8a987bdac833dcdcc8d2830ffa72e36dab190b633156", func := "cameo/cameolaw04.TableEach", spec := "tableEach", unfollowed := true, recurses := true, plainKeys := false, apart := false }
def TableEachSaid : Prop := tableEachRow.holds Try.pinned (OpenSpec.ofChange tableEachSpec)

/-- ITS FALSE NEIGHBOUR: 'it returns false'. Refute it at one input. -/
def tableEachWrong : ChangeSpec := { name := "tableEach", fn := fun _ => fun
  | [d1, d2, d3] => { results := [.lit (.bool false)], args := [d1, d2, d3] }
  | _ => none }
def TableEachWrongFalsely : Prop := tableEachRow.holds Try.pinned (OpenSpec.ofChange tableEachWrong)

/-- 'cameolaw04.TableOwn': WHATEVER THE INPUT: true; the input reads as it did. -/
def tableOwnSpec : ChangeSpec := { name := "tableOwn", fn := fun _ => fun
  | [d1, d2, d3] => { results := [.lit (.bool true)], args := [d1, d2, d3] }
  | _ => none }
def tableOwnRow : OpenClaim := { program := "ytkfahinbpmhcgaa", sum := "413ad417114040f6cedd8a987bdac833dcdcc8d2830ffa72e36dab190b633156", func := "cameo/cameolaw04.TableOwn", spec := "tableOwn", unfollowed := true, recurses := true, plainKeys := false, apart := false }
def TableOwnSaid : Prop := tableOwnRow.holds Try.pinned (OpenSpec.ofChange tableOwnSpec)

/-- ITS FALSE NEIGHBOUR: 'it returns false'. Refute it at one input. -/
def tableOwnWrong : ChangeSpec := { name := "tableOwn", fn := fun _ => fun
  | [d1, d2, d3] => { results := [.lit (.bool false)], args := [d1, d2, d3] }
  | _ => none }
def TableOwnWrongFalsely : Prop := tableOwnRow.holds Try.pinned (OpenSpec.ofChange tableOwnWrong)

/-- 'cameolaw04.TableMore': WHATEVER THE INPUT: true; the input reads as it did. -/
def tableMoreSpec : ChangeSpec := { name := "tableMore", fn := fun _ => fun
  | [d1, d2, d3] => { results := [.lit (.bool true)], args := [d1, d2, d3] }
  | _ => none }
def tableMoreRow : OpenClaim := { program := "ytkfahinbpmhcgaa", sum := "413ad417114040f6cedd8a987bdac833dcdcc8d2830ffa72e36dab190b633156", func := "cameo/cameolaw04.TableMore", spec := "tableMore", unfollowed := true, recurses := true, plainKeys := false, apart := false }
def TableMoreSaid : Prop := tableMoreRow.holds Try.pinned (OpenSpec.ofChange tableMoreSpec)

/-- ITS FALSE NEIGHBOUR: 'it returns false'. Refute it at one input. -/
def tableMoreWrong : ChangeSpec := { name := "tableMore", fn := fun _ => fun
  | [d1, d2, d3] => { results := [.lit (.bool false)], args := [d1, d2, d3] }
  | _ => none }
def TableMoreWrongFalsely : Prop := tableMoreRow.holds Try.pinned (OpenSpec.ofChange tableMoreWrong)

/-- 'cameolaw04.TablePlain': WHATEVER THE INPUT: true; the input reads as it did. -/
def tablePlainSpec : ChangeSpec := { name := "tablePlain", fn := fun _ => fun
  | [d1, d2] => { results := [.lit (.bool true)], args := [d1, d2] }
  | _ => none }
def tablePlainRow : OpenClaim := { program := "ytkfahinbpmhcgaa", sum := "413ad417114040f6cedd8a987bdac833dcdcc8d2830ffa72e36dab190b633156", func := "cameo/cameolaw04.TablePlain", spec := "tablePlain", unfollowed := true, recurses := true, plainKeys := false, apart := false }
def TablePlainSaid : Prop := tablePlainRow.holds Try.pinned (OpenSpec.ofChange tablePlainSpec)

/-- ITS FALSE NEIGHBOUR: 'it returns false'. Refute it at one input. -/
def tablePlainWrong : ChangeSpec := { name := "tablePlain", fn := fun _ => fun
  | [d1, d2] => { results := [.lit (.bool false)], args := [d1, d2] }
  | _ => none }
def TablePlainWrongFalsely : Prop := tablePlainRow.holds Try.pinned (OpenSpec.ofChange tablePlainWrong)

/-- 'cameolaw14.CalmTells': WHATEVER THE INPUT: true; the input reads as it did. -/
def calmTellsSpec : ChangeSpec := { name := "calmTells", fn := fun _ => fun
  | [d1, d2] => { results := [.lit (.bool true)], args := [d1, d2] }
  | _ => none }
def calmTellsRow : OpenClaim := { program := "ytkfahinbpmhcgaa", sum := "413ad417114040f6cedd8a987bdac833dcdcc8d2830ffa72e36dab190b633156", func := "cameo/cameolaw14.CalmTells", spec := "calmTells", unfollowed := true, recurses := true, plainKeys := false, apart := false }
def CalmTellsSaid : Prop := calmTellsRow.holds Try.pinned (OpenSpec.ofChange calmTellsSpec)

/-- ITS FALSE NEIGHBOUR: 'it returns false'. Refute it at one input. -/
def calmTellsWrong : ChangeSpec := { name := "calmTells", fn := fun _ => fun
  | [d1, d2] => { results := [.lit (.bool false)], args := [d1, d2] }
  | _ => none }
def CalmTellsWrongFalsely : Prop := calmTellsRow.holds Try.pinned (OpenSpec.ofChange calmTellsWrong)

/-- 'cameolaw14.CalmCounts': WHATEVER THE INPUT: true; the input reads as it did. -/
def calmCountsSpec : ChangeSpec := { name := "calmCounts", fn := fun _ => fun
  | [d1, d2] => { results := [.lit (.bool true)], args := [d1, d2] }
  | _ => none }
def calmCountsRow : OpenClaim := { program := "ytkfahinbpmhcgaa", sum := "413ad417114040f6cedd8a987bdac833dcdcc8d2830ffa72e36dab190b633156", func := "cameo/cameolaw14.CalmCounts", spec := "calmCounts", unfollowed := true, recurses := true, plainKeys := false, apart := false }
def CalmCountsSaid : Prop := calmCountsRow.holds Try.pinned (OpenSpec.ofChange calmCountsSpec)

/-- ITS FALSE NEIGHBOUR: 'it returns false'. Refute it at one input. -/
def calmCountsWrong : ChangeSpec := { name := "calmCounts", fn := fun _ => fun
  | [d1, d2] => { results := [.lit (.bool false)], args := [d1, d2] }
  | _ => none }
def CalmCountsWrongFalsely : Prop := calmCountsRow.holds Try.pinned (OpenSpec.ofChange calmCountsWrong)

/-- 'cameolaw14.CalmDrains': WHATEVER THE INPUT: true; the input reads as it did. -/
def calmDrainsSpec : ChangeSpec := { name := "calmDrains", fn := fun _ => fun
  | [d1, d2, d3] => { results := [.lit (.bool true)], args := [d1, d2, d3] }
  | _ => none }
def calmDrainsRow : OpenClaim := { program := "ytkfahinbpmhcgaa", sum := "413ad417114040f6cedd8a987bdac833dcdcc8d2830ffa72e36dab190b633156", func := "cameo/cameolaw14.CalmDrains", spec := "calmDrains", unfollowed := true, recurses := true, plainKeys := false, apart := false }
def CalmDrainsSaid : Prop := calmDrainsRow.holds Try.pinned (OpenSpec.ofChange calmDrainsSpec)

/-- ITS FALSE NEIGHBOUR: 'it returns false'. Refute it at one input. -/
def calmDrainsWrong : ChangeSpec := { name := "calmDrains", fn := fun _ => fun
  | [d1, d2, d3] => { results := [.lit (.bool false)], args := [d1, d2, d3] }
  | _ => none }
def CalmDrainsWrongFalsely : Prop := calmDrainsRow.holds Try.pinned (OpenSpec.ofChange calmDrainsWrong)

/-- 'cameolaw14.CalmStays': WHATEVER THE INPUT: true; the input reads as it did. -/
def calmStaysSpec : ChangeSpec := { name := "calmStays", fn := fun _ => fun
  | [d1, d2, d3] => { results := [.lit (.bool true)], args := [d1, d2, d3] }
  | _ => none }
def calmStaysRow : OpenClaim := { program := "ytkfahinbpmhcgaa", sum := "413ad417114040f6cedd8a987bdac833dcdcc8d2830ffa72e36dab190b633156", func := "cameo/cameolaw14.CalmStays", spec := "calmStays", unfollowed := true, recurses := true, plainKeys := false, apart := false }
def CalmStaysSaid : Prop := calmStaysRow.holds Try.pinned (OpenSpec.ofChange calmStaysSpec)

/-- ITS FALSE NEIGHBOUR: 'it returns false'. Refute it at one input. -/
def calmStaysWrong : ChangeSpec := { name := "calmStays", fn := fun _ => fun
  | [d1, d2, d3] => { results := [.lit (.bool false)], args := [d1, d2, d3] }
  | _ => none }
def CalmStaysWrongFalsely : Prop := calmStaysRow.holds Try.pinned (OpenSpec.ofChange calmStaysWrong)

/- THE SECOND FORM. 'bulk': how many values and letters a reading holds, each counted each time it is reached (what is shared counts as often as it is met; a slice's spare places count too). A statement '..UptoSaid' is the law's where the arguments, and the package variables that the reading takes, are together of bulk at most 1048576: NARROWER than '..Said'. Prove '..Said' where nothing that the law and all that it calls make is longer than what came in: it says more and counts as full. Else prove '..UptoSaid'. A law counts once. -/
mutual
def uptoBulk {H : Type} : DataW H → Nat
  | .lit (.string bytes) => bytes.length + 1
  | .lit _ => 1
  | .nil => 1
  | .ptr d => uptoBulk d + 1
  | .slice elems spare => uptoBulkAll elems + uptoBulkAll spare + 1
  | .agg parts => uptoBulkAll parts + 1
  | .iface _ d => uptoBulk d + 1
  | .map entries => uptoBulkEntries entries + 1
  | .held _ => 1
def uptoBulkAll {H : Type} : List (DataW H) → Nat
  | [] => 0
  | d :: r => uptoBulk d + uptoBulkAll r
def uptoBulkEntries {H : Type} : List (Lit × DataW H) → Nat
  | [] => 0
  | x :: r => uptoBulkEntry x + uptoBulkEntries r
def uptoBulkEntry {H : Type} : Lit × DataW H → Nat
  | (.string bytes, d) => bytes.length + uptoBulk d + 1
  | (_, d) => uptoBulk d + 1
 end
def uptoSmall : (H : Type) → List (DataW H) → Bool := fun _ ds => decide (uptoBulkAll ds ≤ 1048576)
def OpenSpec.upto (s : _root_.Go.ChangeSpec) : _root_.Go.OpenSpec := { _root_.Go.OpenSpec.ofChange s with cond := some uptoSmall }

/-- 'cameolaw14.CalmAlone', WHERE WHAT IT READS IS OF BULK AT MOST 1048576: true; the input reads as it did. -/
def calmAloneUptoRow : OpenClaim := { program := "ytkfahinbpmhcgaa", sum := "413ad417114040f6cedd8a987bdac833dcdcc8d2830ffa72e36dab190b633156", func := "cameo/cameolaw14.CalmAlone", spec := "calmAlone", unfollowed := true, recurses := true, plainKeys := false, apart := false, narrowed := true }
def CalmAloneUptoSaid : Prop := calmAloneUptoRow.holds Try.pinned (OpenSpec.upto calmAloneSpec)

/-- 'cameolaw14.CalmSteps', WHERE WHAT IT READS IS OF BULK AT MOST 1048576: true; the input reads as it did. -/
def calmStepsUptoRow : OpenClaim := { program := "ytkfahinbpmhcgaa", sum := "413ad417114040f6cedd8a987bdac833dcdcc8d2830ffa72e36dab190b633156", func := "cameo/cameolaw14.CalmSteps", spec := "calmSteps", unfollowed := true, recurses := true, plainKeys := false, apart := false, narrowed := true }
def CalmStepsUptoSaid : Prop := calmStepsUptoRow.holds Try.pinned (OpenSpec.upto calmStepsSpec)

/-- 'cameolaw04.TableStays', WHERE WHAT IT READS IS OF BULK AT MOST 1048576: true; the input reads as it did. -/
def tableStaysUptoRow : OpenClaim := { program := "ytkfahinbpmhcgaa", sum := "413ad417114040f6cedd8a987bdac833dcdcc8d2830ffa72e36dab190b633156", func := "cameo/cameolaw04.TableStays", spec := "tableStays", unfollowed := true, recurses := true, plainKeys := false, apart := false, narrowed := true }
def TableStaysUptoSaid : Prop := tableStaysUptoRow.holds Try.pinned (OpenSpec.upto tableStaysSpec)

/-- 'cameolaw04.TableParts', WHERE WHAT IT READS IS OF BULK AT MOST 1048576: true; the input reads as it did. -/
def tablePartsUptoRow : OpenClaim := { program := "ytkfahinbpmhcgaa", sum := "413ad417114040f6cedd8a987bdac833dcdcc8d2830ffa72e36dab190b633156", func := "cameo/cameolaw04.TableParts", spec := "tableParts", unfollowed := true, recurses := true, plainKeys := false, apart := false, narrowed := true }
def TablePartsUptoSaid : Prop := tablePartsUptoRow.holds Try.pinned (OpenSpec.upto tablePartsSpec)

/-- 'cameolaw04.TableEach', WHERE WHAT IT READS IS OF BULK AT MOST 1048576: true; the input reads as it did. -/
def tableEachUptoRow : OpenClaim := { program := "ytkfahinbpmhcgaa", sum := "413ad417114040f6cedd8a987bdac833dcdcc8d2830ffa72e36dab190b633156", func := "cameo/cameolaw04.TableEach", spec := "tableEach", unfollowed := true, recurses := true, plainKeys := false, apart := false, narrowed := true }
def TableEachUptoSaid : Prop := tableEachUptoRow.holds Try.pinned (OpenSpec.upto tableEachSpec)

/-- 'cameolaw04.TableOwn', WHERE WHAT IT READS IS OF BULK AT MOST 1048576: true; the input reads as it did. -/
def tableOwnUptoRow : OpenClaim := { program := "ytkfahinbpmhcgaa", sum := "413ad417114040f6cedd8a987bdac833dcdcc8d2830ffa72e36dab190b633156", func := "cameo/cameolaw04.TableOwn", spec := "tableOwn", unfollowed := true, recurses := true, plainKeys := false, apart := false, narrowed := true }
def TableOwnUptoSaid : Prop := tableOwnUptoRow.holds Try.pinned (OpenSpec.upto tableOwnSpec)

/-- 'cameolaw04.TableMore', WHERE WHAT IT READS IS OF BULK AT MOST 1048576: true; the input reads as it did. -/
def tableMoreUptoRow : OpenClaim := { program := "ytkfahinbpmhcgaa", sum := "413ad417114040f6cedd8a987bdac833dcdcc8d2830ffa72e36dab190b633156", func := "cameo/cameolaw04.TableMore", spec := "tableMore", unfollowed := true, recurses := true, plainKeys := false, apart := false, narrowed := true }
def TableMoreUptoSaid : Prop := tableMoreUptoRow.holds Try.pinned (OpenSpec.upto tableMoreSpec)

/-- 'cameolaw04.TablePlain', WHERE WHAT IT READS IS OF BULK AT MOST 1048576: true; the input reads as it did. -/
def tablePlainUptoRow : OpenClaim := { program := "ytkfahinbpmhcgaa", sum := "413ad417114040f6cedd8a987bdac833dcdcc8d2830ffa72e36dab190b633156", func := "cameo/cameolaw04.TablePlain", spec := "tablePlain", unfollowed := true, recurses := true, plainKeys := false, apart := false, narrowed := true }
def TablePlainUptoSaid : Prop := tablePlainUptoRow.holds Try.pinned (OpenSpec.upto tablePlainSpec)

/-- 'cameolaw14.CalmTells', WHERE WHAT IT READS IS OF BULK AT MOST 1048576: true; the input reads as it did. -/
def calmTellsUptoRow : OpenClaim := { program := "ytkfahinbpmhcgaa", sum := "413ad417114040f6cedd8a987bdac833dcdcc8d2830ffa72e36dab190b633156", func := "cameo/cameolaw14.CalmTells", spec := "calmTells", unfollowed := true, recurses := true, plainKeys := false, apart := false, narrowed := true }
def CalmTellsUptoSaid : Prop := calmTellsUptoRow.holds Try.pinned (OpenSpec.upto calmTellsSpec)

/-- 'cameolaw14.CalmCounts', WHERE WHAT IT READS IS OF BULK AT MOST 1048576: true; the input reads as it did. -/
def calmCountsUptoRow : OpenClaim := { program := "ytkfahinbpmhcgaa", sum := "413ad417114040f6cedd8a987bdac833dcdcc8d2830ffa72e36dab190b633156", func := "cameo/cameolaw14.CalmCounts", spec := "calmCounts", unfollowed := true, recurses := true, plainKeys := false, apart := false, narrowed := true }
def CalmCountsUptoSaid : Prop := calmCountsUptoRow.holds Try.pinned (OpenSpec.upto calmCountsSpec)

/-- 'cameolaw14.CalmDrains', WHERE WHAT IT READS IS OF BULK AT MOST 1048576: true; the input reads as it did. -/
def calmDrainsUptoRow : OpenClaim := { program := "ytkfahinbpmhcgaa", sum := "413ad417114040f6cedd8a987bdac833dcdcc8d2830ffa72e36dab190b633156", func := "cameo/cameolaw14.CalmDrains", spec := "calmDrains", unfollowed := true, recurses := true, plainKeys := false, apart := false, narrowed := true }
def CalmDrainsUptoSaid : Prop := calmDrainsUptoRow.holds Try.pinned (OpenSpec.upto calmDrainsSpec)

/-- 'cameolaw14.CalmStays', WHERE WHAT IT READS IS OF BULK AT MOST 1048576: true; the input reads as it did. -/
def calmStaysUptoRow : OpenClaim := { program := "ytkfahinbpmhcgaa", sum := "413ad417114040f6cedd8a987bdac833dcdcc8d2830ffa72e36dab190b633156", func := "cameo/cameolaw14.CalmStays", spec := "calmStays", unfollowed := true, recurses := true, plainKeys := false, apart := false, narrowed := true }
def CalmStaysUptoSaid : Prop := calmStaysUptoRow.holds Try.pinned (OpenSpec.upto calmStaysSpec)

end Rows
end Go.Proofs.Ytkfahinbpmhcgaa
