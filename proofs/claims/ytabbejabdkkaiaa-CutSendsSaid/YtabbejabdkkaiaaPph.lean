/- Plain systems: what a step does, seen from what it is; two steps of unlike nodes may be turned round. No condition. -/
import Derived.Test.YtabbejabdkkaiaaPpe
set_option linter.unusedSimpArgs false
set_option linter.unusedVariables false
namespace Go.Proofs.Ytabbejabdkkaiaa
open Go.RowKit

structure PickS (a : TApp) (c : TConf) (s : TStep) (d : TConf) (n : Nat) (p : TPick) : Prop where
 kind : s.Kind = 0
 node : s.Node = n
 lt : n < c.States.length
 mode : (stOf a.T n ((c.States[n]?).getD 0)).Mode = 1
 pick : pickOf (stOf a.T n ((c.States[n]?).getD 0)) s.K = some p
 send : sendAll a.G n p.Sends c.Links c.Sent = some (d.Links,d.Sent)
 st : d.States = c.States.set n p.Next
structure DelS (a : TApp) (c : TConf) (s : TStep) (d : TConf) (j i n : Nat) (y : Int) (l : List TMsg) (m : TMsg) : Prop where
 kind : s.Kind = 1
 link : s.Link = j
 ends : a.G.Links[j]? = some ⟨y,n⟩
 ms : c.Links[j]? = some l
 place : placeP l s.Seq = some i
 msg : l[i]? = some m
 ff : ¬ (a.Fifo = true ∧ 0 < i)
 lt : n < c.States.length
 st : d.States = c.States.set n (takenOf (stOf a.T n ((c.States[n]?).getD 0)).Takes ((c.States[n]?).getD 0) y m.Letter)
 li : d.Links = c.Links.set j (l.take i ++ l.drop (i + 1))
 se : d.Sent = c.Sent
section
variable {a : TApp} {c d : TConf} {s : TStep}
theorem PickS.apply {n : Nat} {p : TPick} (h : CRightP a c) (q : PickS a c s d n p) : applyP a c s = (d,0) := by
 have hN := h.nst
 have hl := q.lt
 unfold applyP pickP
 rw [if_pos q.kind,q.node,if_neg (by omega),Int.toNat_natCast,if_pos q.mode,q.pick]
 dsimp only
 rw [q.send]
 unfold sentP
 dsimp only
 rw [Int.toNat_natCast,← q.st]
theorem DelS.apply {j i n : Nat} {y : Int} {l : List TMsg} {m : TMsg} (q : DelS a c s d j i n y l m) : applyP a c s = (d,0) := by
 have hj := (List.getElem?_eq_some_iff.1 q.ends).1
 unfold applyP deliverP
 rw [if_neg (by rw [q.kind]; decide),if_pos q.kind,q.link,if_neg (by omega),Int.toNat_natCast,q.ms,Option.getD_some,q.place]
 dsimp only
 rw [if_neg q.ff,q.ends,Option.getD_some,q.msg,Option.getD_some]
 unfold doneP
 dsimp only
 rw [Int.toNat_natCast,← q.st,← q.li,← q.se]
theorem step_view (h : CRightP a c) (he : (applyP a c s).2 = 0) : (∃ n p,PickS a c s (applyP a c s).1 n p) ∨ ∃ j i n y l m,DelS a c s (applyP a c s).1 j i n y l m := by
 have hN := h.nst
 have hli := h.nli
 by_cases k0 : s.Kind = 0
 ·
  have e0 : applyP a c s = pickP a c s := by unfold applyP; rw [if_pos k0]
  rw [e0] at he ⊢
  unfold pickP at he ⊢
  by_cases c1 : s.Node < 0 ∨ s.Node ≥ a.G.N
  · rw [if_pos c1] at he; cases he
  ·
   obtain ⟨n,en⟩ : ∃ n : Nat,s.Node = n := ⟨s.Node.toNat,by omega⟩
   have hn : n < c.States.length := by omega
   rw [if_neg c1] at he ⊢
   rw [en,Int.toNat_natCast] at he ⊢
   by_cases c2 : (stOf a.T n ((c.States[n]?).getD 0)).Mode = 1
   ·
    rw [if_pos c2] at he ⊢
    cases hp : pickOf (stOf a.T n ((c.States[n]?).getD 0)) s.K with
    | none => rw [hp] at he; cases he
    | some p =>
     rw [hp] at he
     dsimp only at he ⊢
     cases hq : sendAll a.G n p.Sends c.Links c.Sent with
     | none => rw [hq] at he; cases he
     | some r => exact .inl ⟨n,p,k0,en,hn,c2,hp,hq,rfl⟩
   · rw [if_neg c2] at he; cases he
 ·
  by_cases k1 : s.Kind = 1
  ·
   have e0 : applyP a c s = deliverP a c s := by unfold applyP; rw [if_neg k0,if_pos k1]
   rw [e0] at he ⊢
   unfold deliverP at he ⊢
   by_cases c1 : s.Link < 0 ∨ s.Link ≥ (a.G.Links.length : Int)
   · rw [if_pos c1] at he; cases he
   ·
    obtain ⟨j,ej⟩ : ∃ j : Nat,s.Link = j := ⟨s.Link.toNat,by omega⟩
    have hj : j < c.Links.length := by omega
    have hjg : j < a.G.Links.length := by omega
    have hgood := h.tab.1.link (List.getElem_mem hjg)
    rw [if_neg c1] at he ⊢
    simp only [ej,Int.toNat_natCast] at he ⊢
    have ems := List.getElem?_eq_getElem hj
    have eg := List.getElem?_eq_getElem hjg
    rw [ems,eg,Option.getD_some,Option.getD_some] at he ⊢
    cases hp : placeP c.Links[j] s.Seq with
    | none => rw [hp] at he; cases he
    | some i =>
     rw [hp] at he
     dsimp only at he ⊢
     obtain ⟨hi,_⟩ := placeP_some hp
     by_cases c2 : a.Fifo = true ∧ 0 < i
     · rw [if_pos c2] at he; cases he
     ·
      rw [if_neg c2]
      obtain ⟨n,en⟩ : ∃ n : Nat,a.G.Links[j].a1 = n := ⟨a.G.Links[j].a1.toNat,by have := hgood.2.2.1; omega⟩
      have hn : n < c.States.length := by have := hgood.2.2.2.1; omega
      have emi := List.getElem?_eq_getElem hi
      refine .inr ⟨j,i,n,a.G.Links[j].a0,c.Links[j],c.Links[j][i],k1,ej,?_,ems,hp,emi,c2,hn,?_,rfl,rfl⟩
      · rw [eg,← en]
      ·
       unfold doneP
       dsimp only
       rw [en,Int.toNat_natCast,emi,Option.getD_some]
  ·
   have e0 : applyP a c s = (noC,1) := by unfold applyP; rw [if_neg k0,if_neg k1]
   rw [e0] at he
   cases he
end
section
variable {g : TGraph} {n m : Int}
def rmv {α : Type} (i : Nat) (l : List α) : List α := l.take i ++ l.drop (i + 1)
theorem sendAll_other {j : Nat} {y w : Int} (hj : g.Links[j]? = some ⟨y,w⟩) (hy : y ≠ n) : ∀ {r : List TSend} {l : List (List TMsg)} {z : List Int} {l' : List (List TMsg)} {z' : List Int},(∀ x ∈ r,0 ≤ find g n x.To) → sendAll g n r l z = some (l',z') → l'[j]? = l[j]? ∧ z'[j]? = z[j]?
 | [],l,z,l',z',_,h => by
  injection h with h
  injection h with h1 h2
  subst h1 h2
  exact ⟨rfl,rfl⟩
 | x :: r,l,z,l',z',hr,h => by
  have hk : (find g n x.To).toNat ≠ j := by
   obtain ⟨k,e1,_,f1⟩ := find_lt (hr x (by simp))
   rw [e1,Int.toNat_natCast]
   intro e
   rw [e,hj] at f1
   injection f1 with f1
   injection f1 with f1
   exact hy f1
  rw [sendAll] at h
  split at h
  · cases h
  ·
   have := sendAll_other hj hy (fun x hx => hr x (by simp [hx])) h
   rw [List.getElem?_set_ne hk,List.getElem?_set_ne hk] at this
   exact this
end
def whereP (a : TApp) (s : TStep) : Int := if s.Kind = 0 then s.Node else if s.Link < 0 ∨ s.Link ≥ (a.G.Links.length : Int) then -1 else ((a.G.Links[s.Link.toNat]?).getD ⟨0,0⟩).a1
section
variable {a : TApp} {c d d' : TConf} {s t : TStep}
theorem PickS.where {n : Nat} {p : TPick} (q : PickS a c s d n p) : whereP a s = n := by
 unfold whereP
 rw [if_pos q.kind,q.node]
theorem DelS.where {j i n : Nat} {y : Int} {l : List TMsg} {m : TMsg} (q : DelS a c s d j i n y l m) : whereP a s = n := by
 have hj := (List.getElem?_eq_some_iff.1 q.ends).1
 unfold whereP
 rw [if_neg (by rw [q.kind]; decide),q.link,if_neg (by omega),Int.toNat_natCast,q.ends,Option.getD_some]
theorem PickS.finds {n : Nat} {p : TPick} (h : CRightP a c) (ha : SzA a) (q : PickS a c s d n p) : ∀ x ∈ p.Sends,0 ≤ find a.G n x.To := (h.sends ha q.lt q.mode q.pick).2.1
end
end Go.Proofs.Ytabbejabdkkaiaa
