/-
  No cell of these rows narrows 'for every input' (looked for: loops, veiled, ifaces, maps, wideKeys, modest, calm, conditions, laid).
  DERIVED. THE GIVEN ROWS OF THIS SEAT. 9 by the template 'for every input the law returns true; each argument reads behind the call as it read before'; 0 by the template 'total and deterministic' (their statements: YtabbejabdkkaiaaTotals.lean).
  GIVEN WITH THE SEED: the statements are not yours to turn. If you find one false, say at which input.
  Laid BY PROGRAM, IN A SANDBOX (cutbox-rows.mjs): the forced cells as the released guide's own fill.sh prints them over the translation 9ce9e604b1d221df… (all of the seat's roots in one cut). By AI agents, Wed Nov 11 2026. No macro, syntax, notation, axiom, sorry.
-/
import Derived.Test.YtabbejabdkkaiaaChecked
import GoSem.Claim
import GoSem.ClaimJoined
import GoSem.ClaimMapViews
import Derived.JoinedTies
import Derived.KernelRfl
namespace Go.Proofs.Ytabbejabdkkaiaa
/- THE CELL 'sum', in the pinned program and in every row, IS THE sha256 OF THE DUMP (.gsa) THAT YtabbejabdkkaiaaProg.lean LOADS. Nothing in Lean hashes anything: it is a label: what it is worth is what the hold of that sum in a sandbox is worth. -/
noncomputable def Try.pinned : Pinned := { name := "ytabbejabdkkaiaa", sum := "9ce9e604b1d221df15fb66a55124ba44cba7da7dfff885420785ee50faa6febd", checked := Try.checked }
namespace Rows
def none {H : Type} : Left H := { results := [], args := [] }

/-- 'cameolaw04.TableEach': WHATEVER THE INPUT: true; the input reads as it did. -/
def tableEachSpec : ChangeSpec := { name := "tableEach", fn := fun _ => fun
  | [d1, d2, d3] => { results := [.lit (.bool true)], args := [d1, d2, d3] }
  | _ => none }
def tableEachRow : OpenClaim := { program := "ytabbejabdkkaiaa", sum := "9ce9e604b1d221df15fb66a55124ba44cba7da7dfff885420785ee50faa6febd", func := "cameo/cameolaw04.TableEach", spec := "tableEach", unfollowed := true, recurses := true, plainKeys := false, apart := false }
def TableEachSaid : Prop := tableEachRow.holds Try.pinned (OpenSpec.ofChange tableEachSpec)

/-- ITS FALSE NEIGHBOUR: 'it returns false'. Refute it at one input. -/
def tableEachWrong : ChangeSpec := { name := "tableEach", fn := fun _ => fun
  | [d1, d2, d3] => { results := [.lit (.bool false)], args := [d1, d2, d3] }
  | _ => none }
def TableEachWrongFalsely : Prop := tableEachRow.holds Try.pinned (OpenSpec.ofChange tableEachWrong)

/-- 'cameolaw16.ProbeOnce': WHATEVER THE INPUT: true; the input reads as it did. -/
def probeOnceSpec : ChangeSpec := { name := "probeOnce", fn := fun _ => fun
  | [d1, d2, d3] => { results := [.lit (.bool true)], args := [d1, d2, d3] }
  | _ => none }
def probeOnceRow : OpenClaim := { program := "ytabbejabdkkaiaa", sum := "9ce9e604b1d221df15fb66a55124ba44cba7da7dfff885420785ee50faa6febd", func := "cameo/cameolaw16.ProbeOnce", spec := "probeOnce", unfollowed := true, recurses := true, plainKeys := false, apart := false }
def ProbeOnceSaid : Prop := probeOnceRow.holds Try.pinned (OpenSpec.ofChange probeOnceSpec)

/-- ITS FALSE NEIGHBOUR: 'it returns false'. Refute it at one input. -/
def probeOnceWrong : ChangeSpec := { name := "probeOnce", fn := fun _ => fun
  | [d1, d2, d3] => { results := [.lit (.bool false)], args := [d1, d2, d3] }
  | _ => none }
def ProbeOnceWrongFalsely : Prop := probeOnceRow.holds Try.pinned (OpenSpec.ofChange probeOnceWrong)

/-- 'cameolaw16.ProbeEach': WHATEVER THE INPUT: true; the input reads as it did. -/
def probeEachSpec : ChangeSpec := { name := "probeEach", fn := fun _ => fun
  | [d1, d2, d3] => { results := [.lit (.bool true)], args := [d1, d2, d3] }
  | _ => none }
def probeEachRow : OpenClaim := { program := "ytabbejabdkkaiaa", sum := "9ce9e604b1d221df15fb66a55124ba44cba7da7dfff885420785ee50faa6febd", func := "cameo/cameolaw16.ProbeEach", spec := "probeEach", unfollowed := true, recurses := true, plainKeys := false, apart := false }
def ProbeEachSaid : Prop := probeEachRow.holds Try.pinned (OpenSpec.ofChange probeEachSpec)

/-- ITS FALSE NEIGHBOUR: 'it returns false'. Refute it at one input. -/
def probeEachWrong : ChangeSpec := { name := "probeEach", fn := fun _ => fun
  | [d1, d2, d3] => { results := [.lit (.bool false)], args := [d1, d2, d3] }
  | _ => none }
def ProbeEachWrongFalsely : Prop := probeEachRow.holds Try.pinned (OpenSpec.ofChange probeEachWrong)

/-- 'cameolaw16.ProbePasses': WHATEVER THE INPUT: true; the input reads as it did. -/
def probePassesSpec : ChangeSpec := { name := "probePasses", fn := fun _ => fun
  | [d1, d2, d3] => { results := [.lit (.bool true)], args := [d1, d2, d3] }
  | _ => none }
def probePassesRow : OpenClaim := { program := "ytabbejabdkkaiaa", sum := "9ce9e604b1d221df15fb66a55124ba44cba7da7dfff885420785ee50faa6febd", func := "cameo/cameolaw16.ProbePasses", spec := "probePasses", unfollowed := true, recurses := true, plainKeys := false, apart := false }
def ProbePassesSaid : Prop := probePassesRow.holds Try.pinned (OpenSpec.ofChange probePassesSpec)

/-- ITS FALSE NEIGHBOUR: 'it returns false'. Refute it at one input. -/
def probePassesWrong : ChangeSpec := { name := "probePasses", fn := fun _ => fun
  | [d1, d2, d3] => { results := [.lit (.bool false)], args := [d1, d2, d3] }
  | _ => none }
def ProbePassesWrongFalsely : Prop := probePassesRow.holds Try.pinned (OpenSpec.ofChange probePassesWrong)

/-- 'cameolaw16.ProbeOwn': WHATEVER THE INPUT: true; the input reads as it did. -/
def probeOwnSpec : ChangeSpec := { name := "probeOwn", fn := fun _ => fun
  | [d1, d2, d3] => { results := [.lit (.bool true)], args := [d1, d2, d3] }
  | _ => none }
def probeOwnRow : OpenClaim := { program := "ytabbejabdkkaiaa", sum := "9ce9e604b1d221df15fb66a55124ba44cba7da7dfff885420785ee50faa6febd", func := "cameo/cameolaw16.ProbeOwn", spec := "probeOwn", unfollowed := true, recurses := true, plainKeys := false, apart := false }
def ProbeOwnSaid : Prop := probeOwnRow.holds Try.pinned (OpenSpec.ofChange probeOwnSpec)

/-- ITS FALSE NEIGHBOUR: 'it returns false'. Refute it at one input. -/
def probeOwnWrong : ChangeSpec := { name := "probeOwn", fn := fun _ => fun
  | [d1, d2, d3] => { results := [.lit (.bool false)], args := [d1, d2, d3] }
  | _ => none }
def ProbeOwnWrongFalsely : Prop := probeOwnRow.holds Try.pinned (OpenSpec.ofChange probeOwnWrong)

/-- 'cameolaw17.CutNest': WHATEVER THE INPUT: true; the input reads as it did. -/
def cutNestSpec : ChangeSpec := { name := "cutNest", fn := fun _ => fun
  | [d1, d2, d3] => { results := [.lit (.bool true)], args := [d1, d2, d3] }
  | _ => none }
def cutNestRow : OpenClaim := { program := "ytabbejabdkkaiaa", sum := "9ce9e604b1d221df15fb66a55124ba44cba7da7dfff885420785ee50faa6febd", func := "cameo/cameolaw17.CutNest", spec := "cutNest", unfollowed := true, recurses := true, plainKeys := false, apart := false }
def CutNestSaid : Prop := cutNestRow.holds Try.pinned (OpenSpec.ofChange cutNestSpec)

/-- ITS FALSE NEIGHBOUR: 'it returns false'. Refute it at one input. -/
def cutNestWrong : ChangeSpec := { name := "cutNest", fn := fun _ => fun
  | [d1, d2, d3] => { results := [.lit (.bool false)], args := [d1, d2, d3] }
  | _ => none }
def CutNestWrongFalsely : Prop := cutNestRow.holds Try.pinned (OpenSpec.ofChange cutNestWrong)

/-- 'cameolaw17.CutFirst': WHATEVER THE INPUT: true; the input reads as it did. -/
def cutFirstSpec : ChangeSpec := { name := "cutFirst", fn := fun _ => fun
  | [d1, d2, d3] => { results := [.lit (.bool true)], args := [d1, d2, d3] }
  | _ => none }
def cutFirstRow : OpenClaim := { program := "ytabbejabdkkaiaa", sum := "9ce9e604b1d221df15fb66a55124ba44cba7da7dfff885420785ee50faa6febd", func := "cameo/cameolaw17.CutFirst", spec := "cutFirst", unfollowed := true, recurses := true, plainKeys := false, apart := false }
def CutFirstSaid : Prop := cutFirstRow.holds Try.pinned (OpenSpec.ofChange cutFirstSpec)

/-- ITS FALSE NEIGHBOUR: 'it returns false'. Refute it at one input. -/
def cutFirstWrong : ChangeSpec := { name := "cutFirst", fn := fun _ => fun
  | [d1, d2, d3] => { results := [.lit (.bool false)], args := [d1, d2, d3] }
  | _ => none }
def CutFirstWrongFalsely : Prop := cutFirstRow.holds Try.pinned (OpenSpec.ofChange cutFirstWrong)

/-- 'cameolaw17.CutTurns': WHATEVER THE INPUT: true; the input reads as it did. -/
def cutTurnsSpec : ChangeSpec := { name := "cutTurns", fn := fun _ => fun
  | [d1, d2, d3] => { results := [.lit (.bool true)], args := [d1, d2, d3] }
  | _ => none }
def cutTurnsRow : OpenClaim := { program := "ytabbejabdkkaiaa", sum := "9ce9e604b1d221df15fb66a55124ba44cba7da7dfff885420785ee50faa6febd", func := "cameo/cameolaw17.CutTurns", spec := "cutTurns", unfollowed := true, recurses := true, plainKeys := false, apart := false }
def CutTurnsSaid : Prop := cutTurnsRow.holds Try.pinned (OpenSpec.ofChange cutTurnsSpec)

/-- ITS FALSE NEIGHBOUR: 'it returns false'. Refute it at one input. -/
def cutTurnsWrong : ChangeSpec := { name := "cutTurns", fn := fun _ => fun
  | [d1, d2, d3] => { results := [.lit (.bool false)], args := [d1, d2, d3] }
  | _ => none }
def CutTurnsWrongFalsely : Prop := cutTurnsRow.holds Try.pinned (OpenSpec.ofChange cutTurnsWrong)

/-- 'cameolaw17.CutSends': WHATEVER THE INPUT: true; the input reads as it did. -/
def cutSendsSpec : ChangeSpec := { name := "cutSends", fn := fun _ => fun
  | [d1, d2, d3] => { results := [.lit (.bool true)], args := [d1, d2, d3] }
  | _ => none }
def cutSendsRow : OpenClaim := { program := "ytabbejabdkkaiaa", sum := "9ce9e604b1d221df15fb66a55124ba44cba7da7dfff885420785ee50faa6febd", func := "cameo/cameolaw17.CutSends", spec := "cutSends", unfollowed := true, recurses := true, plainKeys := false, apart := false }
def CutSendsSaid : Prop := cutSendsRow.holds Try.pinned (OpenSpec.ofChange cutSendsSpec)

/-- ITS FALSE NEIGHBOUR: 'it returns false'. Refute it at one input. -/
def cutSendsWrong : ChangeSpec := { name := "cutSends", fn := fun _ => fun
  | [d1, d2, d3] => { results := [.lit (.bool false)], args := [d1, d2, d3] }
  | _ => none }
def CutSendsWrongFalsely : Prop := cutSendsRow.holds Try.pinned (OpenSpec.ofChange cutSendsWrong)

/- THE SECOND FORM. 'bulk': how many values and letters a reading holds, each counted each time it is reached (what is shared counts as often as it is met; a slice's spare places count too). A statement '..UptoSaid' is the law's where the arguments, and the package variables that the reading takes, are together of bulk at most 1048576: NARROWER than '..Said'. Prove '..Said' where nothing that the law and all that it calls make is longer than what came in: it says more and counts as full. Else prove '..UptoSaid'. A law counts once. -/
mutual
def uptoBulk {H : Type} : DataW H → Nat
  | .lit (.string bytes) => bytes.length + 1
  | .lit _ => 1
  | .nil => 1
  | .ptr d => uptoBulk d + 1
  | .slice elems spare => uptoBulkAll elems + uptoBulkAll spare + 1
  | .agg parts => uptoBulkAll parts + 1
  | .iface _ d => uptoBulk d + 1
  | .map entries => uptoBulkEntries entries + 1
  | .held _ => 1
def uptoBulkAll {H : Type} : List (DataW H) → Nat
  | [] => 0
  | d :: r => uptoBulk d + uptoBulkAll r
def uptoBulkEntries {H : Type} : List (Lit × DataW H) → Nat
  | [] => 0
  | x :: r => uptoBulkEntry x + uptoBulkEntries r
def uptoBulkEntry {H : Type} : Lit × DataW H → Nat
  | (.string bytes, d) => bytes.length + uptoBulk d + 1
  | (_, d) => uptoBulk d + 1
 end
def uptoSmall : (H : Type) → List (DataW H) → Bool := fun _ ds => decide (uptoBulkAll ds ≤ 1048576)
def OpenSpec.upto (s : _root_.Go.ChangeSpec) : _root_.Go.OpenSpec := { _root_.Go.OpenSpec.ofChange s with cond := some uptoSmall }

/-- 'cameolaw04.TableEach', WHERE WHAT IT READS IS OF BULK AT MOST 1048576: true; the input reads as it did. -/
def tableEachUptoRow : OpenClaim := { program := "ytabbejabdkkaiaa", sum := "9ce9e604b1d221df15fb66a55124ba44cba7da7dfff885420785ee50faa6febd", func := "cameo/cameolaw04.TableEach", spec := "tableEach", unfollowed := true, recurses := true, plainKeys := false, apart := false, narrowed := true }
def TableEachUptoSaid : Prop := tableEachUptoRow.holds Try.pinned (OpenSpec.upto tableEachSpec)

/-- 'cameolaw16.ProbeOnce', WHERE WHAT IT READS IS OF BULK AT MOST 1048576: true; the input reads as it did. -/
def probeOnceUptoRow : OpenClaim := { program := "ytabbejabdkkaiaa", sum := "9ce9e604b1d221df15fb66a55124ba44cba7da7dfff885420785ee50faa6febd", func := "cameo/cameolaw16.ProbeOnce", spec := "probeOnce", unfollowed := true, recurses := true, plainKeys := false, apart := false, narrowed := true }
def ProbeOnceUptoSaid : Prop := probeOnceUptoRow.holds Try.pinned (OpenSpec.upto probeOnceSpec)

/-- 'cameolaw16.ProbeEach', WHERE WHAT IT READS IS OF BULK AT MOST 1048576: true; the input reads as it did. -/
def probeEachUptoRow : OpenClaim := { program := "ytabbejabdkkaiaa", sum := "9ce9e604b1d221df15fb66a55124ba44cba7da7dfff885420785ee50faa6febd", func := "cameo/cameolaw16.ProbeEach", spec := "probeEach", unfollowed := true, recurses := true, plainKeys := false, apart := false, narrowed := true }
def ProbeEachUptoSaid : Prop := probeEachUptoRow.holds Try.pinned (OpenSpec.upto probeEachSpec)

/-- 'cameolaw16.ProbePasses', WHERE WHAT IT READS IS OF BULK AT MOST 1048576: true; the input reads as it did. -/
def probePassesUptoRow : OpenClaim := { program := "ytabbejabdkkaiaa", sum := "9ce9e604b1d221df15fb66a55124ba44cba7da7dfff885420785ee50faa6febd", func := "cameo/cameolaw16.ProbePasses", spec := "probePasses", unfollowed := true, recurses := true, plainKeys := false, apart := false, narrowed := true }
def ProbePassesUptoSaid : Prop := probePassesUptoRow.holds Try.pinned (OpenSpec.upto probePassesSpec)

/-- 'cameolaw16.ProbeOwn', WHERE WHAT IT READS IS OF BULK AT MOST 1048576: true; the input reads as it did. -/
def probeOwnUptoRow : OpenClaim := { program := "ytabbejabdkkaiaa", sum := "9ce9e604b1d221df15fb66a55124ba44cba7da7dfff885420785ee50faa6febd", func := "cameo/cameolaw16.ProbeOwn", spec := "probeOwn", unfollowed := true, recurses := true, plainKeys := false, apart := false, narrowed := true }
def ProbeOwnUptoSaid : Prop := probeOwnUptoRow.holds Try.pinned (OpenSpec.upto probeOwnSpec)

/-- 'cameolaw17.CutNest', WHERE WHAT IT READS IS OF BULK AT MOST 1048576: true; the input reads as it did. -/
def cutNestUptoRow : OpenClaim := { program := "ytabbejabdkkaiaa", sum := "9ce9e604b1d221df15fb66a55124ba44cba7da7dfff885420785ee50faa6febd", func := "cameo/cameolaw17.CutNest", spec := "cutNest", unfollowed := true, recurses := true, plainKeys := false, apart := false, narrowed := true }
def CutNestUptoSaid : Prop := cutNestUptoRow.holds Try.pinned (OpenSpec.upto cutNestSpec)

/-- 'cameolaw17.CutFirst', WHERE WHAT IT READS IS OF BULK AT MOST 1048576: true; the input reads as it did. -/
def cutFirstUptoRow : OpenClaim := { program := "ytabbejabdkkaiaa", sum := "9ce9e604b1d221df15fb66a55124ba44cba7da7dfff885420785ee50faa6febd", func := "cameo/cameolaw17.CutFirst", spec := "cutFirst", unfollowed := true, recurses := true, plainKeys := false, apart := false, narrowed := true }
def CutFirstUptoSaid : Prop := cutFirstUptoRow.holds Try.pinned (OpenSpec.upto cutFirstSpec)

/-- 'cameolaw17.CutTurns', WHERE WHAT IT READS IS OF BULK AT MOST 1048576: true; the input reads as it did. -/
def cutTurnsUptoRow : OpenClaim := { program := "ytabbejabdkkaiaa", sum := "9ce9e604b1d221df15fb66a55124ba44cba7da7dfff885420785ee50faa6febd", func := "cameo/cameolaw17.CutTurns", spec := "cutTurns", unfollowed := true, recurses := true, plainKeys := false, apart := false, narrowed := true }
def CutTurnsUptoSaid : Prop := cutTurnsUptoRow.holds Try.pinned (OpenSpec.upto cutTurnsSpec)

/-- 'cameolaw17.CutSends', WHERE WHAT IT READS IS OF BULK AT MOST 1048576: true; the input reads as it did. -/
def cutSendsUptoRow : OpenClaim := { program := "ytabbejabdkkaiaa", sum := "9ce9e604b1d221df15fb66a55124ba44cba7da7dfff885420785ee50faa6febd", func := "cameo/cameolaw17.CutSends", spec := "cutSends", unfollowed := true, recurses := true, plainKeys := false, apart := false, narrowed := true }
def CutSendsUptoSaid : Prop := cutSendsUptoRow.holds Try.pinned (OpenSpec.upto cutSendsSpec)

end Rows
end Go.Proofs.Ytabbejabdkkaiaa
