/-
  No cell of these rows narrows 'for every input' (looked for: loops, veiled, ifaces, maps, wideKeys, modest, calm, conditions, laid).
  DERIVED. THE GIVEN ROWS OF THIS SEAT. 13 by the template 'for every input the law returns true; each argument reads behind the call as it read before'; 0 by the template 'total and deterministic' (their statements: YtgkjgpbinblmdaaTotals.lean).
  GIVEN WITH THE SEED: the statements are not yours to turn. If you find one false, say at which input.
  Laid BY PROGRAM, IN A SANDBOX (cutbox-rows.mjs): the forced cells as the released guide's own fill.sh prints them over the translation 111b287f02749c0a… (all of the seat's roots in one cut). By AI agents, Wed Nov 11 2026. No macro, syntax, notation, axiom, sorry.
-/
import Derived.Test.YtgkjgpbinblmdaaChecked
import GoSem.Claim
import GoSem.ClaimJoined
import GoSem.ClaimMapViews
import Derived.JoinedTies
import Derived.KernelRfl
namespace Go.Proofs.Ytgkjgpbinblmdaa
/- THE CELL 'sum', in the pinned program and in every row, IS THE sha256 OF THE DUMP (.gsa) THAT YtgkjgpbinblmdaaProg.lean LOADS. Nothing in Lean hashes anything: it is a label: what it is worth is what the hold of that sum in a sandbox is worth. -/
noncomputable def Try.pinned : Pinned := { name := "ytgkjgpbinblmdaa", sum := "111b287f02749c0a9bd62958544cfbc34827d0560a2fb0eb074a052984fc3dbd", checked := Try.checked }
namespace Rows
def none {H : Type} : Left H := { results := [], args := [] }

/-- 'cameolaw15.KnotTells': WHATEVER THE INPUT: true; the input reads as it did. -/
def knotTellsSpec : ChangeSpec := { name := "knotTells", fn := fun _ => fun
  | [d1, d2, d3] => { results := [.lit (.bool true)], args := [d1, d2, d3] }
  | _ => none }
def knotTellsRow : OpenClaim := { program := "ytgkjgpbinblmdaa", sum := "111b287f02749c0a9bd62958544cfbc34827d0560a2fb0eb074a052984fc3dbd", func := "cameo/cameolaw15.KnotTells", spec := "knotTells", unfollowed := true, recurses := true, plainKeys := false, apart := false }
def KnotTellsSaid : Prop := knotTellsRow.holds Try.pinned (OpenSpec.ofChange knotTellsSpec)

/-- ITS FALSE NEIGHBOUR: 'it returns false'. Refute it at one input. -/
def knotTellsWrong : ChangeSpec := { name := "knotTells", fn := fun _ => fun
  | [d1, d2, d3] => { results := [.lit (.bool false)], args := [d1, d2, d3] }
  | _ => none }
def KnotTellsWrongFalsely : Prop := knotTellsRow.holds Try.pinned (OpenSpec.ofChange knotTellsWrong)

/-- 'cameolaw15.KnotSome': WHATEVER THE INPUT: true; the input reads as it did. -/
def knotSomeSpec : ChangeSpec := { name := "knotSome", fn := fun _ => fun
  | [d1, d2, d3] => { results := [.lit (.bool true)], args := [d1, d2, d3] }
  | _ => none }
def knotSomeRow : OpenClaim := { program := "ytgkjgpbinblmdaa", sum := "111b287f02749c0a9bd62958544cfbc34827d0560a2fb0eb074a052984fc3dbd", func := "cameo/cameolaw15.KnotSome", spec := "knotSome", unfollowed := true, recurses := true, plainKeys := false, apart := false }
def KnotSomeSaid : Prop := knotSomeRow.holds Try.pinned (OpenSpec.ofChange knotSomeSpec)

/-- ITS FALSE NEIGHBOUR: 'it returns false'. Refute it at one input. -/
def knotSomeWrong : ChangeSpec := { name := "knotSome", fn := fun _ => fun
  | [d1, d2, d3] => { results := [.lit (.bool false)], args := [d1, d2, d3] }
  | _ => none }
def KnotSomeWrongFalsely : Prop := knotSomeRow.holds Try.pinned (OpenSpec.ofChange knotSomeWrong)

/-- 'cameolaw15.KnotEdges': WHATEVER THE INPUT: true; the input reads as it did. -/
def knotEdgesSpec : ChangeSpec := { name := "knotEdges", fn := fun _ => fun
  | [d1, d2] => { results := [.lit (.bool true)], args := [d1, d2] }
  | _ => none }
def knotEdgesRow : OpenClaim := { program := "ytgkjgpbinblmdaa", sum := "111b287f02749c0a9bd62958544cfbc34827d0560a2fb0eb074a052984fc3dbd", func := "cameo/cameolaw15.KnotEdges", spec := "knotEdges", unfollowed := true, recurses := true, plainKeys := false, apart := false }
def KnotEdgesSaid : Prop := knotEdgesRow.holds Try.pinned (OpenSpec.ofChange knotEdgesSpec)

/-- ITS FALSE NEIGHBOUR: 'it returns false'. Refute it at one input. -/
def knotEdgesWrong : ChangeSpec := { name := "knotEdges", fn := fun _ => fun
  | [d1, d2] => { results := [.lit (.bool false)], args := [d1, d2] }
  | _ => none }
def KnotEdgesWrongFalsely : Prop := knotEdgesRow.holds Try.pinned (OpenSpec.ofChange knotEdgesWrong)

/-- 'cameolaw15.KnotRings': WHATEVER THE INPUT: true; the input reads as it did. -/
def knotRingsSpec : ChangeSpec := { name := "knotRings", fn := fun _ => fun
  | [d1, d2, d3] => { results := [.lit (.bool true)], args := [d1, d2, d3] }
  | _ => none }
def knotRingsRow : OpenClaim := { program := "ytgkjgpbinblmdaa", sum := "111b287f02749c0a9bd62958544cfbc34827d0560a2fb0eb074a052984fc3dbd", func := "cameo/cameolaw15.KnotRings", spec := "knotRings", unfollowed := true, recurses := true, plainKeys := false, apart := false }
def KnotRingsSaid : Prop := knotRingsRow.holds Try.pinned (OpenSpec.ofChange knotRingsSpec)

/-- ITS FALSE NEIGHBOUR: 'it returns false'. Refute it at one input. -/
def knotRingsWrong : ChangeSpec := { name := "knotRings", fn := fun _ => fun
  | [d1, d2, d3] => { results := [.lit (.bool false)], args := [d1, d2, d3] }
  | _ => none }
def KnotRingsWrongFalsely : Prop := knotRingsRow.holds Try.pinned (OpenSpec.ofChange knotRingsWrong)

/-- 'cameolaw15.KnotHolds': WHATEVER THE INPUT: true; the input reads as it did. -/
def knotHoldsSpec : ChangeSpec := { name := "knotHolds", fn := fun _ => fun
  | [d1, d2, d3] => { results := [.lit (.bool true)], args := [d1, d2, d3] }
  | _ => none }
def knotHoldsRow : OpenClaim := { program := "ytgkjgpbinblmdaa", sum := "111b287f02749c0a9bd62958544cfbc34827d0560a2fb0eb074a052984fc3dbd", func := "cameo/cameolaw15.KnotHolds", spec := "knotHolds", unfollowed := true, recurses := true, plainKeys := false, apart := false }
def KnotHoldsSaid : Prop := knotHoldsRow.holds Try.pinned (OpenSpec.ofChange knotHoldsSpec)

/-- ITS FALSE NEIGHBOUR: 'it returns false'. Refute it at one input. -/
def knotHoldsWrong : ChangeSpec := { name := "knotHolds", fn := fun _ => fun
  | [d1, d2, d3] => { results := [.lit (.bool false)], args := [d1, d2, d3] }
  | _ => none }
def KnotHoldsWrongFalsely : Prop := knotHoldsRow.holds Try.pinned (OpenSpec.ofChange knotHoldsWrong)

/-- 'cameolaw15.KnotStays': WHATEVER THE INPUT: true; the input reads as it did. -/
def knotStaysSpec : ChangeSpec := { name := "knotStays", fn := fun _ => fun
  | [d1, d2, d3] => { results := [.lit (.bool true)], args := [d1, d2, d3] }
  | _ => none }
def knotStaysRow : OpenClaim := { program := "ytgkjgpbinblmdaa", sum := "111b287f02749c0a9bd62958544cfbc34827d0560a2fb0eb074a052984fc3dbd", func := "cameo/cameolaw15.KnotStays", spec := "knotStays", unfollowed := true, recurses := true, plainKeys := false, apart := false }
def KnotStaysSaid : Prop := knotStaysRow.holds Try.pinned (OpenSpec.ofChange knotStaysSpec)

/-- ITS FALSE NEIGHBOUR: 'it returns false'. Refute it at one input. -/
def knotStaysWrong : ChangeSpec := { name := "knotStays", fn := fun _ => fun
  | [d1, d2, d3] => { results := [.lit (.bool false)], args := [d1, d2, d3] }
  | _ => none }
def KnotStaysWrongFalsely : Prop := knotStaysRow.holds Try.pinned (OpenSpec.ofChange knotStaysWrong)

/-- 'cameolaw05.PlainDoes': WHATEVER THE INPUT: true; the input reads as it did. -/
def plainDoesSpec : ChangeSpec := { name := "plainDoes", fn := fun _ => fun
  | [d1, d2] => { results := [.lit (.bool true)], args := [d1, d2] }
  | _ => none }
def plainDoesRow : OpenClaim := { program := "ytgkjgpbinblmdaa", sum := "111b287f02749c0a9bd62958544cfbc34827d0560a2fb0eb074a052984fc3dbd", func := "cameo/cameolaw05.PlainDoes", spec := "plainDoes", unfollowed := true, recurses := true, plainKeys := false, apart := false }
def PlainDoesSaid : Prop := plainDoesRow.holds Try.pinned (OpenSpec.ofChange plainDoesSpec)

/-- ITS FALSE NEIGHBOUR: 'it returns false'. Refute it at one input. -/
def plainDoesWrong : ChangeSpec := { name := "plainDoes", fn := fun _ => fun
  | [d1, d2] => { results := [.lit (.bool false)], args := [d1, d2] }
  | _ => none }
def PlainDoesWrongFalsely : Prop := plainDoesRow.holds Try.pinned (OpenSpec.ofChange plainDoesWrong)

/-- 'cameolaw05.PlainOnce': WHATEVER THE INPUT: true; the input reads as it did. -/
def plainOnceSpec : ChangeSpec := { name := "plainOnce", fn := fun _ => fun
  | [d1, d2, d3] => { results := [.lit (.bool true)], args := [d1, d2, d3] }
  | _ => none }
def plainOnceRow : OpenClaim := { program := "ytgkjgpbinblmdaa", sum := "111b287f02749c0a9bd62958544cfbc34827d0560a2fb0eb074a052984fc3dbd", func := "cameo/cameolaw05.PlainOnce", spec := "plainOnce", unfollowed := true, recurses := true, plainKeys := false, apart := false }
def PlainOnceSaid : Prop := plainOnceRow.holds Try.pinned (OpenSpec.ofChange plainOnceSpec)

/-- ITS FALSE NEIGHBOUR: 'it returns false'. Refute it at one input. -/
def plainOnceWrong : ChangeSpec := { name := "plainOnce", fn := fun _ => fun
  | [d1, d2, d3] => { results := [.lit (.bool false)], args := [d1, d2, d3] }
  | _ => none }
def PlainOnceWrongFalsely : Prop := plainOnceRow.holds Try.pinned (OpenSpec.ofChange plainOnceWrong)

/-- 'cameolaw05.PlainStays': WHATEVER THE INPUT: true; the input reads as it did. -/
def plainStaysSpec : ChangeSpec := { name := "plainStays", fn := fun _ => fun
  | [d1, d2] => { results := [.lit (.bool true)], args := [d1, d2] }
  | _ => none }
def plainStaysRow : OpenClaim := { program := "ytgkjgpbinblmdaa", sum := "111b287f02749c0a9bd62958544cfbc34827d0560a2fb0eb074a052984fc3dbd", func := "cameo/cameolaw05.PlainStays", spec := "plainStays", unfollowed := true, recurses := true, plainKeys := false, apart := false }
def PlainStaysSaid : Prop := plainStaysRow.holds Try.pinned (OpenSpec.ofChange plainStaysSpec)

/-- ITS FALSE NEIGHBOUR: 'it returns false'. Refute it at one input. -/
def plainStaysWrong : ChangeSpec := { name := "plainStays", fn := fun _ => fun
  | [d1, d2] => { results := [.lit (.bool false)], args := [d1, d2] }
  | _ => none }
def PlainStaysWrongFalsely : Prop := plainStaysRow.holds Try.pinned (OpenSpec.ofChange plainStaysWrong)

/-- 'cameolaw05.PlainTurns': WHATEVER THE INPUT: true; the input reads as it did. -/
def plainTurnsSpec : ChangeSpec := { name := "plainTurns", fn := fun _ => fun
  | [d1, d2, d3] => { results := [.lit (.bool true)], args := [d1, d2, d3] }
  | _ => none }
def plainTurnsRow : OpenClaim := { program := "ytgkjgpbinblmdaa", sum := "111b287f02749c0a9bd62958544cfbc34827d0560a2fb0eb074a052984fc3dbd", func := "cameo/cameolaw05.PlainTurns", spec := "plainTurns", unfollowed := true, recurses := true, plainKeys := false, apart := false }
def PlainTurnsSaid : Prop := plainTurnsRow.holds Try.pinned (OpenSpec.ofChange plainTurnsSpec)

/-- ITS FALSE NEIGHBOUR: 'it returns false'. Refute it at one input. -/
def plainTurnsWrong : ChangeSpec := { name := "plainTurns", fn := fun _ => fun
  | [d1, d2, d3] => { results := [.lit (.bool false)], args := [d1, d2, d3] }
  | _ => none }
def PlainTurnsWrongFalsely : Prop := plainTurnsRow.holds Try.pinned (OpenSpec.ofChange plainTurnsWrong)

/-- 'cameolaw05.PlainOwn': WHATEVER THE INPUT: true; the input reads as it did. -/
def plainOwnSpec : ChangeSpec := { name := "plainOwn", fn := fun _ => fun
  | [d1, d2, d3] => { results := [.lit (.bool true)], args := [d1, d2, d3] }
  | _ => none }
def plainOwnRow : OpenClaim := { program := "ytgkjgpbinblmdaa", sum := "111b287f02749c0a9bd62958544cfbc34827d0560a2fb0eb074a052984fc3dbd", func := "cameo/cameolaw05.PlainOwn", spec := "plainOwn", unfollowed := true, recurses := true, plainKeys := false, apart := false }
def PlainOwnSaid : Prop := plainOwnRow.holds Try.pinned (OpenSpec.ofChange plainOwnSpec)

/-- ITS FALSE NEIGHBOUR: 'it returns false'. Refute it at one input. -/
def plainOwnWrong : ChangeSpec := { name := "plainOwn", fn := fun _ => fun
  | [d1, d2, d3] => { results := [.lit (.bool false)], args := [d1, d2, d3] }
  | _ => none }
def PlainOwnWrongFalsely : Prop := plainOwnRow.holds Try.pinned (OpenSpec.ofChange plainOwnWrong)

/-- 'cameolaw05.PlainOnceEach': WHATEVER THE INPUT: true; the input reads as it did. -/
def plainOnceEachSpec : ChangeSpec := { name := "plainOnceEach", fn := fun _ => fun
  | [d1, d2] => { results := [.lit (.bool true)], args := [d1, d2] }
  | _ => none }
def plainOnceEachRow : OpenClaim := { program := "ytgkjgpbinblmdaa", sum := "111b287f02749c0a9bd62958544cfbc34827d0560a2fb0eb074a052984fc3dbd", func := "cameo/cameolaw05.PlainOnceEach", spec := "plainOnceEach", unfollowed := true, recurses := true, plainKeys := false, apart := false }
def PlainOnceEachSaid : Prop := plainOnceEachRow.holds Try.pinned (OpenSpec.ofChange plainOnceEachSpec)

/-- ITS FALSE NEIGHBOUR: 'it returns false'. Refute it at one input. -/
def plainOnceEachWrong : ChangeSpec := { name := "plainOnceEach", fn := fun _ => fun
  | [d1, d2] => { results := [.lit (.bool false)], args := [d1, d2] }
  | _ => none }
def PlainOnceEachWrongFalsely : Prop := plainOnceEachRow.holds Try.pinned (OpenSpec.ofChange plainOnceEachWrong)

/-- 'cameolaw05.PlainParts': WHATEVER THE INPUT: true; the input reads as it did. -/
def plainPartsSpec : ChangeSpec := { name := "plainParts", fn := fun _ => fun
  | [d1, d2, d3] => { results := [.lit (.bool true)], args := [d1, d2, d3] }
  | _ => none }
def plainPartsRow : OpenClaim := { program := "ytgkjgpbinblmdaa", sum := "111b287f02749c0a9bd62958544cfbc34827d0560a2fb0eb074a052984fc3dbd", func := "cameo/cameolaw05.PlainParts", spec := "plainParts", unfollowed := true, recurses := true, plainKeys := false, apart := false }
def PlainPartsSaid : Prop := plainPartsRow.holds Try.pinned (OpenSpec.ofChange plainPartsSpec)

/-- ITS FALSE NEIGHBOUR: 'it returns false'. Refute it at one input. -/
def plainPartsWrong : ChangeSpec := { name := "plainParts", fn := fun _ => fun
  | [d1, d2, d3] => { results := [.lit (.bool false)], args := [d1, d2, d3] }
  | _ => none }
def PlainPartsWrongFalsely : Prop := plainPartsRow.holds Try.pinned (OpenSpec.ofChange plainPartsWrong)

/- THE SECOND FORM. 'bulk': how many values and letters a reading holds, each counted each time it is reached (what is shared counts as often as it is met; a slice's spare places count too). A statement '..UptoSaid' is the law's where the arguments, and the package variables that the reading takes, are together of bulk at most 1048576: NARROWER than '..Said'. Prove '..Said' where nothing that the law and all that it calls make is longer than what came in: it says more and counts as full. Else prove '..UptoSaid'. A law counts once. -/
mutual
def uptoBulk {H : Type} : DataW H → Nat
  | .lit (.string bytes) => bytes.length + 1
  | .lit _ => 1
  | .nil => 1
  | .ptr d => uptoBulk d + 1
  | .slice elems spare => uptoBulkAll elems + uptoBulkAll spare + 1
  | .agg parts => uptoBulkAll parts + 1
  | .iface _ d => uptoBulk d + 1
  | .map entries => uptoBulkEntries entries + 1
  | .held _ => 1
def uptoBulkAll {H : Type} : List (DataW H) → Nat
  | [] => 0
  | d :: r => uptoBulk d + uptoBulkAll r
def uptoBulkEntries {H : Type} : List (Lit × DataW H) → Nat
  | [] => 0
  | x :: r => uptoBulkEntry x + uptoBulkEntries r
def uptoBulkEntry {H : Type} : Lit × DataW H → Nat
  | (.string bytes, d) => bytes.length + uptoBulk d + 1
  | (_, d) => uptoBulk d + 1
 end
def uptoSmall : (H : Type) → List (DataW H) → Bool := fun _ ds => decide (uptoBulkAll ds ≤ 1048576)
def OpenSpec.upto (s : _root_.Go.ChangeSpec) : _root_.Go.OpenSpec := { _root_.Go.OpenSpec.ofChange s with cond := some uptoSmall }

/-- 'cameolaw15.KnotTells', WHERE WHAT IT READS IS OF BULK AT MOST 1048576: true; the input reads as it did. -/
def knotTellsUptoRow : OpenClaim := { program := "ytgkjgpbinblmdaa", sum := "111b287f02749c0a9bd62958544cfbc34827d0560a2fb0eb074a052984fc3dbd", func := "cameo/cameolaw15.KnotTells", spec := "knotTells", unfollowed := true, recurses := true, plainKeys := false, apart := false, narrowed := true }
def KnotTellsUptoSaid : Prop := knotTellsUptoRow.holds Try.pinned (OpenSpec.upto knotTellsSpec)

/-- 'cameolaw15.KnotSome', WHERE WHAT IT READS IS OF BULK AT MOST 1048576: true; the input reads as it did. -/
def knotSomeUptoRow : OpenClaim := { program := "ytgkjgpbinblmdaa", sum := "111b287f02749c0a9bd62958544cfbc34827d0560a2fb0eb074a052984fc3dbd", func := "cameo/cameolaw15.KnotSome", spec := "knotSome", unfollowed := true, recurses := true, plainKeys := false, apart := false, narrowed := true }
def KnotSomeUptoSaid : Prop := knotSomeUptoRow.holds Try.pinned (OpenSpec.upto knotSomeSpec)

/-- 'cameolaw15.KnotEdges', WHERE WHAT IT READS IS OF BULK AT MOST 1048576: true; the input reads as it did. -/
def knotEdgesUptoRow : OpenClaim := { program := "ytgkjgpbinblmdaa", sum := "111b287f02749c0a9bd62958544cfbc34827d0560a2fb0eb074a052984fc3dbd", func := "cameo/cameolaw15.KnotEdges", spec := "knotEdges", unfollowed := true, recurses := true, plainKeys := false, apart := false, narrowed := true }
def KnotEdgesUptoSaid : Prop := knotEdgesUptoRow.holds Try.pinned (OpenSpec.upto knotEdgesSpec)

/-- 'cameolaw15.KnotRings', WHERE WHAT IT READS IS OF BULK AT MOST 1048576: true; the input reads as it did. -/
def knotRingsUptoRow : OpenClaim := { program := "ytgkjgpbinblmdaa", sum := "111b287f02749c0a9bd62958544cfbc34827d0560a2fb0eb074a052984fc3dbd", func := "cameo/cameolaw15.KnotRings", spec := "knotRings", unfollowed := true, recurses := true, plainKeys := false, apart := false, narrowed := true }
def KnotRingsUptoSaid : Prop := knotRingsUptoRow.holds Try.pinned (OpenSpec.upto knotRingsSpec)

/-- 'cameolaw15.KnotHolds', WHERE WHAT IT READS IS OF BULK AT MOST 1048576: true; the input reads as it did. -/
def knotHoldsUptoRow : OpenClaim := { program := "ytgkjgpbinblmdaa", sum := "111b287f02749c0a9bd62958544cfbc34827d0560a2fb0eb074a052984fc3dbd", func := "cameo/cameolaw15.KnotHolds", spec := "knotHolds", unfollowed := true, recurses := true, plainKeys := false, apart := false, narrowed := true }
def KnotHoldsUptoSaid : Prop := knotHoldsUptoRow.holds Try.pinned (OpenSpec.upto knotHoldsSpec)

/-- 'cameolaw15.KnotStays', WHERE WHAT IT READS IS OF BULK AT MOST 1048576: true; the input reads as it did. -/
def knotStaysUptoRow : OpenClaim := { program := "ytgkjgpbinblmdaa", sum := "111b287f02749c0a9bd62958544cfbc34827d0560a2fb0eb074a052984fc3dbd", func := "cameo/cameolaw15.KnotStays", spec := "knotStays", unfollowed := true, recurses := true, plainKeys := false, apart := false, narrowed := true }
def KnotStaysUptoSaid : Prop := knotStaysUptoRow.holds Try.pinned (OpenSpec.upto knotStaysSpec)

/-- 'cameolaw05.PlainDoes', WHERE WHAT IT READS IS OF BULK AT MOST 1048576: true; the input reads as it did. -/
def plainDoesUptoRow : OpenClaim := { program := "ytgkjgpbinblmdaa", sum := "111b287f02749c0a9bd62958544cfbc34827d0560a2fb0eb074a052984fc3dbd", func := "cameo/cameolaw05.PlainDoes", spec := "plainDoes", unfollowed := true, recurses := true, plainKeys := false, apart := false, narrowed := true }
def PlainDoesUptoSaid : Prop := plainDoesUptoRow.holds Try.pinned (OpenSpec.upto plainDoesSpec)

/-- 'cameolaw05.PlainOnce', WHERE WHAT IT READS IS OF BULK AT MOST 1048576: true; the input reads as it did. -/
def plainOnceUptoRow : OpenClaim := { program := "ytgkjgpbinblmdaa", sum := "111b287f02749c0a9bd62958544cfbc34827d0560a2fb0eb074a052984fc3dbd", func := "cameo/cameolaw05.PlainOnce", spec := "plainOnce", unfollowed := true, recurses := true, plainKeys := false, apart := false, narrowed := true }
def PlainOnceUptoSaid : Prop := plainOnceUptoRow.holds Try.pinned (OpenSpec.upto plainOnceSpec)

/-- 'cameolaw05.PlainStays', WHERE WHAT IT READS IS OF BULK AT MOST 1048576: true; the input reads as it did. -/
def plainStaysUptoRow : OpenClaim := { program := "ytgkjgpbinblmdaa", sum := "111b287f02749c0a9bd62958544cfbc34827d0560a2fb0eb074a052984fc3dbd", func := "cameo/cameolaw05.PlainStays", spec := "plainStays", unfollowed := true, recurses := true, plainKeys := false, apart := false, narrowed := true }
def PlainStaysUptoSaid : Prop := plainStaysUptoRow.holds Try.pinned (OpenSpec.upto plainStaysSpec)

/-- 'cameolaw05.PlainTurns', WHERE WHAT IT READS IS OF BULK AT MOST 1048576: true; the input reads as it did. -/
def plainTurnsUptoRow : OpenClaim := { program := "ytgkjgpbinblmdaa", sum := "111b287f02749c0a9bd62958544cfbc34827d0560a2fb0eb074a052984fc3dbd", func := "cameo/cameolaw05.PlainTurns", spec := "plainTurns", unfollowed := true, recurses := true, plainKeys := false, apart := false, narrowed := true }
def PlainTurnsUptoSaid : Prop := plainTurnsUptoRow.holds Try.pinned (OpenSpec.upto plainTurnsSpec)

/-- 'cameolaw05.PlainOwn', WHERE WHAT IT READS IS OF BULK AT MOST 1048576: true; the input reads as it did. -/
def plainOwnUptoRow : OpenClaim := { program := "ytgkjgpbinblmdaa", sum := "111b287f02749c0a9bd62958544cfbc34827d0560a2fb0eb074a052984fc3dbd", func := "cameo/cameolaw05.PlainOwn", spec := "plainOwn", unfollowed := true, recurses := true, plainKeys := false, apart := false, narrowed := true }
def PlainOwnUptoSaid : Prop := plainOwnUptoRow.holds Try.pinned (OpenSpec.upto plainOwnSpec)

/-- 'cameolaw05.PlainOnceEach', WHERE WHAT IT READS IS OF BULK AT MOST 1048576: true; the input reads as it did. -/
def plainOnceEachUptoRow : OpenClaim := { program := "ytgkjgpbinblmdaa", sum := "111b287f02749c0a9bd62958544cfbc34827d0560a2fb0eb074a052984fc3dbd", func := "cameo/cameolaw05.PlainOnceEach", spec := "plainOnceEach", unfollowed := true, recurses := true, plainKeys := false, apart := false, narrowed := true }
def PlainOnceEachUptoSaid : Prop := plainOnceEachUptoRow.holds Try.pinned (OpenSpec.upto plainOnceEachSpec)

/-- 'cameolaw05.PlainParts', WHERE WHAT IT READS IS OF BULK AT MOST 1048576: true; the input reads as it did. -/
def plainPartsUptoRow : OpenClaim := { program := "ytgkjgpbinblmdaa", sum := "111b287f02749c0a9bd62958544cfbc34827d0560a2fb0eb074a052984fc3dbd", func := "cameo/cameolaw05.PlainParts", spec := "plainParts", unfollowed := true, recurses := true, plainKeys := false, apart := false, narrowed := true }
def PlainPartsUptoSaid : Prop := plainPartsUptoRow.holds Try.pinned (OpenSpec.upto plainPartsSpec)

end Rows
end Go.Proofs.Ytgkjgpbinblmdaa
