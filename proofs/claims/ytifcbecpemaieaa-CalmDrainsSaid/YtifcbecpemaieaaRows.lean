/-
  No cell of these rows narrows 'for every input' (looked for: loops, veiled, ifaces, maps, wideKeys, modest, calm, conditions, laid).
  DERIVED. THE GIVEN ROWS OF THIS SEAT. 14 by the template 'for every input the law returns true; each argument reads behind the call as it read before'; 0 by the template 'total and deterministic' (their statements: YtifcbecpemaieaaTotals.lean).
  GIVEN WITH THE SEED: the statements are not yours to turn. If you find one false, say at which input.
  Laid BY PROGRAM, IN A SANDBOX (cutbox-rows.mjs): the forced cells as the released guide's own fill.sh prints them over the translation 16648c443bb84e56… (all of the seat's roots in one cut). By AI agents, Wed Nov 11 2026. No macro, syntax, notation, axiom, sorry.
-/
import Derived.Test.YtifcbecpemaieaaChecked
import GoSem.Claim
import GoSem.ClaimJoined
import GoSem.ClaimMapViews
import Derived.JoinedTies
import Derived.KernelRfl
namespace Go.Proofs.Ytifcbecpemaieaa
/- THE CELL 'sum', in the pinned program and in every row, IS THE sha256 OF THE DUMP (.gsa) THAT YtifcbecpemaieaaProg.lean LOADS. Nothing in Lean hashes anything: it is a label: what it is worth is what the hold of that sum in a sandbox is worth. -/
noncomputable def Try.pinned : Pinned := { name := "ytifcbecpemaieaa", sum := "16648c443bb84e56128fe79f376de895ecea710e4b718e53c1f434c1094b8c92", checked := Try.checked }
namespace Rows
def none {H : Type} : Left H := { results := [], args := [] }

/-- 'cameolaw14.CalmAlone': WHATEVER THE INPUT: true; the input reads as it did. -/
def calmAloneSpec : ChangeSpec := { name := "calmAlone", fn := fun _ => fun
  | [d1, d2, d3] => { results := [.lit (.bool true)], args := [d1, d2, d3] }
  | _ => none }
def calmAloneRow : OpenClaim := { program := "ytifcbecpemaieaa", sum := "16648c443bb84e56128fe79f376de895ecea710e4b718e53c1f434c1094b8c92", func := "cameo/cameolaw14.CalmAlone", spec := "calmAlone", unfollowed := true, recurses := true, plainKeys := false, apart := false }
def CalmAloneSaid : Prop := calmAloneRow.holds Try.pinned (OpenSpec.ofChange calmAloneSpec)

/-- ITS FALSE NEIGHBOUR: 'it returns false'. Refute it at one input. -/
def calmAloneWrong : ChangeSpec := { name := "calmAlone", fn := fun _ => fun
  | [d1, d2, d3] => { results := [.lit (.bool false)], args := [d1, d2, d3] }
  | _ => none }
def CalmAloneWrongFalsely : Prop := calmAloneRow.holds Try.pinned (OpenSpec.ofChange calmAloneWrong)

/-- 'cameolaw14.CalmSteps': WHATEVER THE INPUT: true; the input reads as it did. -/
def calmStepsSpec : ChangeSpec := { name := "calmSteps", fn := fun _ => fun
  | [d1, d2] => { results := [.lit (.bool true)], args := [d1, d2] }
  | _ => none }
def calmStepsRow : OpenClaim := { program := "ytifcbecpemaieaa", sum := "16648c443bb84e56128fe79f376de895ecea710e4b718e53c1f434c1094b8c92", func := "cameo/cameolaw14.CalmSteps", spec := "calmSteps", unfollowed := true, recurses := true, plainKeys := false, apart := false }
def CalmStepsSaid : Prop := calmStepsRow.holds Try.pinned (OpenSpec.ofChange calmStepsSpec)

/-- ITS FALSE NEIGHBOUR: 'it returns false'. Refute it at one input. -/
def calmStepsWrong : ChangeSpec := { name := "calmSteps", fn := fun _ => fun
  | [d1, d2] => { results := [.lit (.bool false)], args := [d1, d2] }
  | _ => none }
def CalmStepsWrongFalsely : Prop := calmStepsRow.holds Try.pinned (OpenSpec.ofChange calmStepsWrong)

/-- 'cameolaw14.CalmTells': WHATEVER THE INPUT: true; the input reads as it did. -/
def calmTellsSpec : ChangeSpec := { name := "calmTells", fn := fun _ => fun
  | [d1, d2] => { results := [.lit (.bool true)], args := [d1, d2] }
  | _ => none }
def calmTellsRow : OpenClaim := { program := "ytifcbecpemaieaa", sum := "16648c443bb84e56128fe79f376de895ecea710e4b718e53c1f434c1094b8c92", func := "cameo/cameolaw14.CalmTells", spec := "calmTells", unfollowed := true, recurses := true, plainKeys := false, apart := false }
def CalmTellsSaid : Prop := calmTellsRow.holds Try.pinned (OpenSpec.ofChange calmTellsSpec)

/-- ITS FALSE NEIGHBOUR: 'it returns false'. Refute it at one input. -/
def calmTellsWrong : ChangeSpec := { name := "calmTells", fn := fun _ => fun
  | [d1, d2] => { results := [.lit (.bool false)], args := [d1, d2] }
  | _ => none }
def CalmTellsWrongFalsely : Prop := calmTellsRow.holds Try.pinned (OpenSpec.ofChange calmTellsWrong)

/-- 'cameolaw14.CalmCounts': WHATEVER THE INPUT: true; the input reads as it did. -/
def calmCountsSpec : ChangeSpec := { name := "calmCounts", fn := fun _ => fun
  | [d1, d2] => { results := [.lit (.bool true)], args := [d1, d2] }
  | _ => none }
def calmCountsRow : OpenClaim := { program := "ytifcbecpemaieaa", sum := "16648c443bb84e56128fe79f376de895ecea710e4b718e53c1f434c1094b8c92", func := "cameo/cameolaw14.CalmCounts", spec := "calmCounts", unfollowed := true, recurses := true, plainKeys := false, apart := false }
def CalmCountsSaid : Prop := calmCountsRow.holds Try.pinned (OpenSpec.ofChange calmCountsSpec)

/-- ITS FALSE NEIGHBOUR: 'it returns false'. Refute it at one input. -/
def calmCountsWrong : ChangeSpec := { name := "calmCounts", fn := fun _ => fun
  | [d1, d2] => { results := [.lit (.bool false)], args := [d1, d2] }
  | _ => none }
def CalmCountsWrongFalsely : Prop := calmCountsRow.holds Try.pinned (OpenSpec.ofChange calmCountsWrong)

/-- 'cameolaw14.CalmDrains': WHATEVER THE INPUT: true; the input reads as it did. -/
def calmDrainsSpec : ChangeSpec := { name := "calmDrains", fn := fun _ => fun
  | [d1, d2, d3] => { results := [.lit (.bool true)], args := [d1, d2, d3] }
  | _ => none }
def calmDrainsRow : OpenClaim := { program := "ytifcbecpemaieaa", sum := "16648c443bb84e56128fe79f376de895ecea710e4b718e53c1f434c1094b8c92", func := "cameo/cameolaw14.CalmDrains", spec := "calmDrains", unfollowed := true, recurses := true, plainKeys := false, apart := false }
def CalmDrainsSaid : Prop := calmDrainsRow.holds Try.pinned (OpenSpec.ofChange calmDrainsSpec)

/-- ITS FALSE NEIGHBOUR: 'it returns false'. Refute it at one input. -/
def calmDrainsWrong : ChangeSpec := { name := "calmDrains", fn := fun _ => fun
  | [d1, d2, d3] => { results := [.lit (.bool false)], args := [d1, d2, d3] }
  | _ => none }
def CalmDrainsWrongFalsely : Prop := calmDrainsRow.holds Try.pinned (OpenSpec.ofChange calmDrainsWrong)

/-- 'cameolaw15.KnotStays': WHATEVER THE INPUT: true; the input reads as it did. -/
def knotStaysSpec : ChangeSpec := { name := "knotStays", fn := fun _ => fun
  | [d1, d2, d3] => { results := [.lit (.bool true)], args := [d1, d2, d3] }
  | _ => none }
def knotStaysRow : OpenClaim := { program := "ytifcbecpemaieaa", sum := "16648c443bb84e56128fe79f376de895ecea710e4b718e53c1f434c1094b8c92", func := "cameo/cameolaw15.KnotStays", spec := "knotStays", unfollowed := true, recurses := true, plainKeys := false, apart := false }
def KnotStaysSaid : Prop := knotStaysRow.holds Try.pinned (OpenSpec.ofChange knotStaysSpec)

/-- ITS FALSE NEIGHBOUR: 'it returns false'. Refute it at one input. -/
def knotStaysWrong : ChangeSpec := { name := "knotStays", fn := fun _ => fun
  | [d1, d2, d3] => { results := [.lit (.bool false)], args := [d1, d2, d3] }
  | _ => none }
def KnotStaysWrongFalsely : Prop := knotStaysRow.holds Try.pinned (OpenSpec.ofChange knotStaysWrong)

/-- 'cameolaw14.CalmStays': WHATEVER THE INPUT: true; the input reads as it did. -/
def calmStaysSpec : ChangeSpec := { name := "calmStays", fn := fun _ => fun
  | [d1, d2, d3] => { results := [.lit (.bool true)], args := [d1, d2, d3] }
  | _ => none }
def calmStaysRow : OpenClaim := { program := "ytifcbecpemaieaa", sum := "16648c443bb84e56128fe79f376de895ecea710e4b718e53c1f434c1094b8c92", func := "cameo/cameolaw14.CalmStays", spec := "calmStays", unfollowed := true, recurses := true, plainKeys := false, apart := false }
def CalmStaysSaid : Prop := calmStaysRow.holds Try.pinned (OpenSpec.ofChange calmStaysSpec)

/-- ITS FALSE NEIGHBOUR: 'it returns false'. Refute it at one input. -/
def calmStaysWrong : ChangeSpec := { name := "calmStays", fn := fun _ => fun
  | [d1, d2, d3] => { results := [.lit (.bool false)], args := [d1, d2, d3] }
  | _ => none }
def CalmStaysWrongFalsely : Prop := calmStaysRow.holds Try.pinned (OpenSpec.ofChange calmStaysWrong)

/-- 'cameolaw05.PlainDoes': WHATEVER THE INPUT: true; the input reads as it did. -/
def plainDoesSpec : ChangeSpec := { name := "plainDoes", fn := fun _ => fun
  | [d1, d2] => { results := [.lit (.bool true)], args := [d1, d2] }
  | _ => none }
def plainDoesRow : OpenClaim := { program := "ytifcbecpemaieaa", sum := "16648c443bb84e56128fe79f376de895ecea710e4b718e53c1f434c1094b8c92", func := "cameo/cameolaw05.PlainDoes", spec := "plainDoes", unfollowed := true, recurses := true, plainKeys := false, apart := false }
def PlainDoesSaid : Prop := plainDoesRow.holds Try.pinned (OpenSpec.ofChange plainDoesSpec)

/-- ITS FALSE NEIGHBOUR: 'it returns false'. Refute it at one input. -/
def plainDoesWrong : ChangeSpec := { name := "plainDoes", fn := fun _ => fun
  | [d1, d2] => { results := [.lit (.bool false)], args := [d1, d2] }
  | _ => none }
def PlainDoesWrongFalsely : Prop := plainDoesRow.holds Try.pinned (OpenSpec.ofChange plainDoesWrong)

/-- 'cameolaw05.PlainOnce': WHATEVER THE INPUT: true; the input reads as it did. -/
def plainOnceSpec : ChangeSpec := { name := "plainOnce", fn := fun _ => fun
  | [d1, d2, d3] => { results := [.lit (.bool true)], args := [d1, d2, d3] }
  | _ => none }
def plainOnceRow : OpenClaim := { program := "ytifcbecpemaieaa", sum := "16648c443bb84e56128fe79f376de895ecea710e4b718e53c1f434c1094b8c92", func := "cameo/cameolaw05.PlainOnce", spec := "plainOnce", unfollowed := true, recurses := true, plainKeys := false, apart := false }
def PlainOnceSaid : Prop := plainOnceRow.holds Try.pinned (OpenSpec.ofChange plainOnceSpec)

/-- ITS FALSE NEIGHBOUR: 'it returns false'. Refute it at one input. -/
def plainOnceWrong : ChangeSpec := { name := "plainOnce", fn := fun _ => fun
  | [d1, d2, d3] => { results := [.lit (.bool false)], args := [d1, d2, d3] }
  | _ => none }
def PlainOnceWrongFalsely : Prop := plainOnceRow.holds Try.pinned (OpenSpec.ofChange plainOnceWrong)

/-- 'cameolaw05.PlainStays': WHATEVER THE INPUT: true; the input reads as it did. -/
def plainStaysSpec : ChangeSpec := { name := "plainStays", fn := fun _ => fun
  | [d1, d2] => { results := [.lit (.bool true)], args := [d1, d2] }
  | _ => none }
def plainStaysRow : OpenClaim := { program := "ytifcbecpemaieaa", sum := "16648c443bb84e56128fe79f376de895ecea710e4b718e53c1f434c1094b8c92", func := "cameo/cameolaw05.PlainStays", spec := "plainStays", unfollowed := true, recurses := true, plainKeys := false, apart := false }
def PlainStaysSaid : Prop := plainStaysRow.holds Try.pinned (OpenSpec.ofChange plainStaysSpec)

/-- ITS FALSE NEIGHBOUR: 'it returns false'. Refute it at one input. -/
def plainStaysWrong : ChangeSpec := { name := "plainStays", fn := fun _ => fun
  | [d1, d2] => { results := [.lit (.bool false)], args := [d1, d2] }
  | _ => none }
def PlainStaysWrongFalsely : Prop := plainStaysRow.holds Try.pinned (OpenSpec.ofChange plainStaysWrong)

/-- 'cameolaw05.PlainTurns': WHATEVER THE INPUT: true; the input reads as it did. -/
def plainTurnsSpec : ChangeSpec := { name := "plainTurns", fn := fun _ => fun
  | [d1, d2, d3] => { results := [.lit (.bool true)], args := [d1, d2, d3] }
  | _ => none }
def plainTurnsRow : OpenClaim := { program := "ytifcbecpemaieaa", sum := "16648c443bb84e56128fe79f376de895ecea710e4b718e53c1f434c1094b8c92", func := "cameo/cameolaw05.PlainTurns", spec := "plainTurns", unfollowed := true, recurses := true, plainKeys := false, apart := false }
def PlainTurnsSaid : Prop := plainTurnsRow.holds Try.pinned (OpenSpec.ofChange plainTurnsSpec)

/-- ITS FALSE NEIGHBOUR: 'it returns false'. Refute it at one input. -/
def plainTurnsWrong : ChangeSpec := { name := "plainTurns", fn := fun _ => fun
  | [d1, d2, d3] => { results := [.lit (.bool false)], args := [d1, d2, d3] }
  | _ => none }
def PlainTurnsWrongFalsely : Prop := plainTurnsRow.holds Try.pinned (OpenSpec.ofChange plainTurnsWrong)

/-- 'cameolaw05.PlainOwn': WHATEVER THE INPUT: true; the input reads as it did. -/
def plainOwnSpec : ChangeSpec := { name := "plainOwn", fn := fun _ => fun
  | [d1, d2, d3] => { results := [.lit (.bool true)], args := [d1, d2, d3] }
  | _ => none }
def plainOwnRow : OpenClaim := { program := "ytifcbecpemaieaa", sum := "16648c443bb84e56128fe79f376de895ecea710e4b718e53c1f434c1094b8c92", func := "cameo/cameolaw05.PlainOwn", spec := "plainOwn", unfollowed := true, recurses := true, plainKeys := false, apart := false }
def PlainOwnSaid : Prop := plainOwnRow.holds Try.pinned (OpenSpec.ofChange plainOwnSpec)

/-- ITS FALSE NEIGHBOUR: 'it returns false'. Refute it at one input. -/
def plainOwnWrong : ChangeSpec := { name := "plainOwn", fn := fun _ => fun
  | [d1, d2, d3] => { results := [.lit (.bool false)], args := [d1, d2, d3] }
  | _ => none }
def PlainOwnWrongFalsely : Prop := plainOwnRow.holds Try.pinned (OpenSpec.ofChange plainOwnWrong)

/-- 'cameolaw05.PlainOnceEach': WHATEVER THE INPUT: true; the input reads as it did. -/
def plainOnceEachSpec : ChangeSpec := { name := "plainOnceEach", fn := fun _ => fun
  | [d1, d2] => { results := [.lit (.bool true)], args := [d1, d2] }
  | _ => none }
def plainOnceEachRow : OpenClaim := { program := "ytifcbecpemaieaa", sum := "16648c443bb84e56128fe79f376de895ecea710e4b718e53c1f434c1094b8c92", func := "cameo/cameolaw05.PlainOnceEach", spec := "plainOnceEach", unfollowed := true, recurses := true, plainKeys := false, apart := false }
def PlainOnceEachSaid : Prop := plainOnceEachRow.holds Try.pinned (OpenSpec.ofChange plainOnceEachSpec)

/-- ITS FALSE NEIGHBOUR: 'it returns false'. Refute it at one input. -/
def plainOnceEachWrong : ChangeSpec := { name := "plainOnceEach", fn := fun _ => fun
  | [d1, d2] => { results := [.lit (.bool false)], args := [d1, d2] }
  | _ => none }
def PlainOnceEachWrongFalsely : Prop := plainOnceEachRow.holds Try.pinned (OpenSpec.ofChange plainOnceEachWrong)

/-- 'cameolaw05.PlainParts': WHATEVER THE INPUT: true; the input reads as it did. -/
def plainPartsSpec : ChangeSpec := { name := "plainParts", fn := fun _ => fun
  | [d1, d2, d3] => { results := [.lit (.bool true)], args := [d1, d2, d3] }
  | _ => none }
def plainPartsRow : OpenClaim := { program := "ytifcbecpemaieaa", sum := "16648c443bb84e56128fe79f376de895ecea710e4b718e53c1f434c1094b8c92", func := "cameo/cameolaw05.PlainParts", spec := "plainParts", unfollowed := true, recurses := true, plainKeys := false, apart := false }
def PlainPartsSaid : Prop := plainPartsRow.holds Try.pinned (OpenSpec.ofChange plainPartsSpec)

/-- ITS FALSE NEIGHBOUR: 'it returns false'. Refute it at one input. -/
def plainPartsWrong : ChangeSpec := { name := "plainParts", fn := fun _ => fun
  | [d1, d2, d3] => { results := [.lit (.bool false)], args := [d1, d2, d3] }
  | _ => none }
def PlainPartsWrongFalsely : Prop := plainPartsRow.holds Try.pinned (OpenSpec.ofChange plainPartsWrong)

/- THE SECOND FORM. 'bulk': how many values and letters a reading holds, each counted each time it is reached (what is shared counts as often as it is met; a slice's spare places count too). A statement '..UptoSaid' is the law's where the arguments, and the package variables that the reading takes, are together of bulk at most 1048576: NARROWER than '..Said'. Prove '..Said' where nothing that the law and all that it calls make is longer than what came in: it says more and counts as full. Else prove '..UptoSaid'. A law counts once. -/
mutual
def uptoBulk {H : Type} : DataW H → Nat
  | .lit (.string bytes) => bytes.length + 1
  | .lit _ => 1
  | .nil => 1
  | .ptr d => uptoBulk d + 1
  | .slice elems spare => uptoBulkAll elems + uptoBulkAll spare + 1
  | .agg parts => uptoBulkAll parts + 1
  | .iface _ d => uptoBulk d + 1
  | .map entries => uptoBulkEntries entries + 1
  | .held _ => 1
def uptoBulkAll {H : Type} : List (DataW H) → Nat
  | [] => 0
  | d :: r => uptoBulk d + uptoBulkAll r
def uptoBulkEntries {H : Type} : List (Lit × DataW H) → Nat
  | [] => 0
  | x :: r => uptoBulkEntry x + uptoBulkEntries r
def uptoBulkEntry {H : Type} : Lit × DataW H → Nat
  | (.string bytes, d) => bytes.length + uptoBulk d + 1
  | (_, d) => uptoBulk d + 1
 end
def uptoSmall : (H : Type) → List (DataW H) → Bool := fun _ ds => decide (uptoBulkAll ds ≤ 1048576)
def OpenSpec.upto (s : _root_.Go.ChangeSpec) : _root_.Go.OpenSpec := { _root_.Go.OpenSpec.ofChange s with cond := some uptoSmall }

/-- 'cameolaw14.CalmAlone', WHERE WHAT IT READS IS OF BULK AT MOST 1048576: true; the input reads as it did. -/
def calmAloneUptoRow : OpenClaim := { program := "ytifcbecpemaieaa", sum := "16648c443bb84e56128fe79f376de895ecea710e4b718e53c1f434c1094b8c92", func := "cameo/cameolaw14.CalmAlone", spec := "calmAlone", unfollowed := true, recurses := true, plainKeys := false, apart := false, narrowed := true }
def CalmAloneUptoSaid : Prop := calmAloneUptoRow.holds Try.pinned (OpenSpec.upto calmAloneSpec)

/-- 'cameolaw14.CalmSteps', WHERE WHAT IT READS IS OF BULK AT MOST 1048576: true; the input reads as it did. -/
def calmStepsUptoRow : OpenClaim := { program := "ytifcbecpemaieaa", sum := "16648c443bb84e56128fe79f376de895ecea710e4b718e53c1f434c1094b8c92", func := "cameo/cameolaw14.CalmSteps", spec := "calmSteps", unfollowed := true, recurses := true, plainKeys := false, apart := false, narrowed := true }
def CalmStepsUptoSaid : Prop := calmStepsUptoRow.holds Try.pinned (OpenSpec.upto calmStepsSpec)

/-- 'cameolaw14.CalmTells', WHERE WHAT IT READS IS OF BULK AT MOST 1048576: true; the input reads as it did. -/
def calmTellsUptoRow : OpenClaim := { program := "ytifcbecpemaieaa", sum := "16648c443bb84e56128fe79f376de895ecea710e4b718e53c1f434c1094b8c92", func := "cameo/cameolaw14.CalmTells", spec := "calmTells", unfollowed := true, recurses := true, plainKeys := false, apart := false, narrowed := true }
def CalmTellsUptoSaid : Prop := calmTellsUptoRow.holds Try.pinned (OpenSpec.upto calmTellsSpec)

/-- 'cameolaw14.CalmCounts', WHERE WHAT IT READS IS OF BULK AT MOST 1048576: true; the input reads as it did. -/
def calmCountsUptoRow : OpenClaim := { program := "ytifcbecpemaieaa", sum := "16648c443bb84e56128fe79f376de895ecea710e4b718e53c1f434c1094b8c92", func := "cameo/cameolaw14.CalmCounts", spec := "calmCounts", unfollowed := true, recurses := true, plainKeys := false, apart := false, narrowed := true }
def CalmCountsUptoSaid : Prop := calmCountsUptoRow.holds Try.pinned (OpenSpec.upto calmCountsSpec)

/-- 'cameolaw14.CalmDrains', WHERE WHAT IT READS IS OF BULK AT MOST 1048576: true; the input reads as it did. -/
def calmDrainsUptoRow : OpenClaim := { program := "ytifcbecpemaieaa", sum := "16648c443bb84e56128fe79f376de895ecea710e4b718e53c1f434c1094b8c92", func := "cameo/cameolaw14.CalmDrains", spec := "calmDrains", unfollowed := true, recurses := true, plainKeys := false, apart := false, narrowed := true }
def CalmDrainsUptoSaid : Prop := calmDrainsUptoRow.holds Try.pinned (OpenSpec.upto calmDrainsSpec)

/-- 'cameolaw15.KnotStays', WHERE WHAT IT READS IS OF BULK AT MOST 1048576: true; the input reads as it did. -/
def knotStaysUptoRow : OpenClaim := { program := "ytifcbecpemaieaa", sum := "16648c443bb84e56128fe79f376de895ecea710e4b718e53c1f434c1094b8c92", func := "cameo/cameolaw15.KnotStays", spec := "knotStays", unfollowed := true, recurses := true, plainKeys := false, apart := false, narrowed := true }
def KnotStaysUptoSaid : Prop := knotStaysUptoRow.holds Try.pinned (OpenSpec.upto knotStaysSpec)

/-- 'cameolaw14.CalmStays', WHERE WHAT IT READS IS OF BULK AT MOST 1048576: true; the input reads as it did. -/
def calmStaysUptoRow : OpenClaim := { program := "ytifcbecpemaieaa", sum := "16648c443bb84e56128fe79f376de895ecea710e4b718e53c1f434c1094b8c92", func := "cameo/cameolaw14.CalmStays", spec := "calmStays", unfollowed := true, recurses := true, plainKeys := false, apart := false, narrowed := true }
def CalmStaysUptoSaid : Prop := calmStaysUptoRow.holds Try.pinned (OpenSpec.upto calmStaysSpec)

/-- 'cameolaw05.PlainDoes', WHERE WHAT IT READS IS OF BULK AT MOST 1048576: true; the input reads as it did. -/
def plainDoesUptoRow : OpenClaim := { program := "ytifcbecpemaieaa", sum := "16648c443bb84e56128fe79f376de895ecea710e4b718e53c1f434c1094b8c92", func := "cameo/cameolaw05.PlainDoes", spec := "plainDoes", unfollowed := true, recurses := true, plainKeys := false, apart := false, narrowed := true }
def PlainDoesUptoSaid : Prop := plainDoesUptoRow.holds Try.pinned (OpenSpec.upto plainDoesSpec)

/-- 'cameolaw05.PlainOnce', WHERE WHAT IT READS IS OF BULK AT MOST 1048576: true; the input reads as it did. -/
def plainOnceUptoRow : OpenClaim := { program := "ytifcbecpemaieaa", sum := "16648c443bb84e56128fe79f376de895ecea710e4b718e53c1f434c1094b8c92", func := "cameo/cameolaw05.PlainOnce", spec := "plainOnce", unfollowed := true, recurses := true, plainKeys := false, apart := false, narrowed := true }
def PlainOnceUptoSaid : Prop := plainOnceUptoRow.holds Try.pinned (OpenSpec.upto plainOnceSpec)

/-- 'cameolaw05.PlainStays', WHERE WHAT IT READS IS OF BULK AT MOST 1048576: true; the input reads as it did. -/
def plainStaysUptoRow : OpenClaim := { program := "ytifcbecpemaieaa", sum := "16648c443bb84e56128fe79f376de895ecea710e4b718e53c1f434c1094b8c92", func := "cameo/cameolaw05.PlainStays", spec := "plainStays", unfollowed := true, recurses := true, plainKeys := false, apart := false, narrowed := true }
def PlainStaysUptoSaid : Prop := plainStaysUptoRow.holds Try.pinned (OpenSpec.upto plainStaysSpec)

/-- 'cameolaw05.PlainTurns', WHERE WHAT IT READS IS OF BULK AT MOST 1048576: true; the input reads as it did. -/
def plainTurnsUptoRow : OpenClaim := { program := "ytifcbecpemaieaa", sum := "16648c443bb84e56128fe79f376de895ecea710e4b718e53c1f434c1094b8c92", func := "cameo/cameolaw05.PlainTurns", spec := "plainTurns", unfollowed := true, recurses := true, plainKeys := false, apart := false, narrowed := true }
def PlainTurnsUptoSaid : Prop := plainTurnsUptoRow.holds Try.pinned (OpenSpec.upto plainTurnsSpec)

/-- 'cameolaw05.PlainOwn', WHERE WHAT IT READS IS OF BULK AT MOST 1048576: true; the input reads as it did. -/
def plainOwnUptoRow : OpenClaim := { program := "ytifcbecpemaieaa", sum := "16648c443bb84e56128fe79f376de895ecea710e4b718e53c1f434c1094b8c92", func := "cameo/cameolaw05.PlainOwn", spec := "plainOwn", unfollowed := true, recurses := true, plainKeys := false, apart := false, narrowed := true }
def PlainOwnUptoSaid : Prop := plainOwnUptoRow.holds Try.pinned (OpenSpec.upto plainOwnSpec)

/-- 'cameolaw05.PlainOnceEach', WHERE WHAT IT READS IS OF BULK AT MOST 1048576: true; the input reads as it did. -/
def plainOnceEachUptoRow : OpenClaim := { program := "ytifcbecpemaieaa", sum := "16648c443bb84e56128fe79f376de895ecea710e4b718e53c1f434c1094b8c92", func := "cameo/cameolaw05.PlainOnceEach", spec := "plainOnceEach", unfollowed := true, recurses := true, plainKeys := false, apart := false, narrowed := true }
def PlainOnceEachUptoSaid : Prop := plainOnceEachUptoRow.holds Try.pinned (OpenSpec.upto plainOnceEachSpec)

/-- 'cameolaw05.PlainParts', WHERE WHAT IT READS IS OF BULK AT MOST 1048576: true; the input reads as it did. -/
def plainPartsUptoRow : OpenClaim := { program := "ytifcbecpemaieaa", sum := "16648c443bb84e56128fe79f376de895ecea710e4b718e53c1f434c1094b8c92", func := "cameo/cameolaw05.PlainParts", spec := "plainParts", unfollowed := true, recurses := true, plainKeys := false, apart := false, narrowed := true }
def PlainPartsUptoSaid : Prop := plainPartsUptoRow.holds Try.pinned (OpenSpec.upto plainPartsSpec)

end Rows
end Go.Proofs.Ytifcbecpemaieaa
