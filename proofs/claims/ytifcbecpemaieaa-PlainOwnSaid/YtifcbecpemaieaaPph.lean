/- Plain systems: what a step does, seen from what it is; two steps of unlike nodes may be turned round. No condition. -/
import Derived.Test.YtifcbecpemaieaaPpe
set_option linter.unusedSimpArgs false
set_option linter.unusedVariables false
namespace Go.Proofs.Ytifcbecpemaieaa
open Go.RowKit

structure PickS (a : TApp) (c : TConf) (s : TStep) (d : TConf) (n : Nat) (p : TPick) : Prop where
 kind : s.Kind = 0
 node : s.Node = n
 lt : n < c.States.length
 mode : (stOf a.T n ((c.States[n]?).getD 0)).Mode = 1
 pick : pickOf (stOf a.T n ((c.States[n]?).getD 0)) s.K = some p
 send : sendAll a.G n p.Sends c.Links c.Sent = some (d.Links,d.Sent)
 st : d.States = c.States.set n p.Next
structure DelS (a : TApp) (c : TConf) (s : TStep) (d : TConf) (j i n : Nat) (y : Int) (l : List TMsg) (m : TMsg) : Prop where
 kind : s.Kind = 1
 link : s.Link = j
 ends : a.G.Links[j]? = some ⟨y,n⟩
 ms : c.Links[j]? = some l
 place : placeP l s.Seq = some i
 msg : l[i]? = some m
 ff : ¬ (a.Fifo = true ∧ 0 < i)
 lt : n < c.States.length
 st : d.States = c.States.set n (takenOf (stOf a.T n ((c.States[n]?).getD 0)).Takes ((c.States[n]?).getD 0) y m.Letter)
 li : d.Links = c.Links.set j (l.take i ++ l.drop (i + 1))
 se : d.Sent = c.Sent
section
variable {a : TApp} {c d : TConf} {s : TStep}
theorem PickS.apply {n : Nat} {p : TPick} (h : CRightP a c) (q : PickS a c s d n p) : applyP a c s = (d,0) := by
 have hN := h.nst
 have hl := q.lt
 unfold applyP pickP
 rw [if_pos q.kind,q.node,if_neg (by omega),Int.toNat_natCast,if_pos q.mode,q.pick]
 dsimp only
 rw [q.send]
 unfold sentP
 dsimp only
 rw [Int.toNat_natCast,← q.st]
theorem DelS.apply {j i n : Nat} {y : Int} {l : List TMsg} {m : TMsg} (q : DelS a c s d j i n y l m) : applyP a c s = (d,0) := by
 have hj := (List.getElem?_eq_some_iff.1 q.ends).1
 unfold applyP deliverP
 rw [if_neg (by rw [q.kind]; decide),if_pos q.kind,q.link,if_neg (by omega),Int.toNat_natCast,q.ms,Option.getD_some,q.place]
 dsimp only
 rw [if_neg q.ff,q.ends,Option.getD_some,q.msg,Option.getD_some]
 unfold doneP
 dsimp only
 rw [Int.toNat_natCast,← q.st,← q.li,← q.se]
end
section
variable {g : TGraph} {n m : Int}
def rmv {α : Type} (i : Nat) (l : List α) : List α := l.take i ++ l.drop (i + 1)
end
def whereP (a : TApp) (s : TStep) : Int := if s.Kind = 0 then s.Node else if s.Link < 0 ∨ s.Link ≥ (a.G.Links.length : Int) then -1 else ((a.G.Links[s.Link.toNat]?).getD ⟨0,0⟩).a1
section
variable {a : TApp} {c d d' : TConf} {s t : TStep}
theorem PickS.where {n : Nat} {p : TPick} (q : PickS a c s d n p) : whereP a s = n := by
 unfold whereP
 rw [if_pos q.kind,q.node]
theorem DelS.where {j i n : Nat} {y : Int} {l : List TMsg} {m : TMsg} (q : DelS a c s d j i n y l m) : whereP a s = n := by
 have hj := (List.getElem?_eq_some_iff.1 q.ends).1
 unfold whereP
 rw [if_neg (by rw [q.kind]; decide),q.link,if_neg (by omega),Int.toNat_natCast,q.ends,Option.getD_some]
theorem PickS.finds {n : Nat} {p : TPick} (h : CRightP a c) (ha : SzA a) (q : PickS a c s d n p) : ∀ x ∈ p.Sends,0 ≤ find a.G n x.To := (h.sends ha q.lt q.mode q.pick).2.1
end
end Go.Proofs.Ytifcbecpemaieaa
