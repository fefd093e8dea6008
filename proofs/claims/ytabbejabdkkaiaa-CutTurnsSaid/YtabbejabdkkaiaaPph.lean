/- Plain systems: what a step does, seen from what it is; two steps of unlike nodes may be turned round. No condition. -/
import Derived.Test.YtabbejabdkkaiaaPpe
set_option linter.unusedSimpArgs false
set_option linter.unusedVariables false
namespace Go.Proofs.Ytabbejabdkkaiaa
open Go.RowKit

structure PickS (a : TApp) (c : TConf) (s : TStep) (d : TConf) (n : Nat) (p : TPick) : Prop where
 kind : s.Kind = 0
 node : s.Node = n
 lt : n < c.States.length
 mode : (stOf a.T n ((c.States[n]?).getD 0)).Mode = 1
 pick : pickOf (stOf a.T n ((c.States[n]?).getD 0)) s.K = some p
 send : sendAll a.G n p.Sends c.Links c.Sent = some (d.Links,d.Sent)
 st : d.States = c.States.set n p.Next
structure DelS (a : TApp) (c : TConf) (s : TStep) (d : TConf) (j i n : Nat) (y : Int) (l : List TMsg) (m : TMsg) : Prop where
 kind : s.Kind = 1
 link : s.Link = j
 ends : a.G.Links[j]? = some ⟨y,n⟩
 ms : c.Links[j]? = some l
 place : placeP l s.Seq = some i
 msg : l[i]? = some m
 ff : ¬ (a.Fifo = true ∧ 0 < i)
 lt : n < c.States.length
 st : d.States = c.States.set n (takenOf (stOf a.T n ((c.States[n]?).getD 0)).Takes ((c.States[n]?).getD 0) y m.Letter)
 li : d.Links = c.Links.set j (l.take i ++ l.drop (i + 1))
 se : d.Sent = c.Sent
section
variable {a : TApp} {c d : TConf} {s : TStep}
theorem PickS.apply {n : Nat} {p : TPick} (h : CRightP a c) (q : PickS a c s d n p) : applyP a c s = (d,0) := by
 have hN := h.nst
 have hl := q.lt
 unfold applyP pickP
 rw [if_pos q.kind,q.node,if_neg (by omega),Int.toNat_natCast,if_pos q.mode,q.pick]
 dsimp only
 rw [q.send]
 unfold sentP
 dsimp only
 rw [Int.toNat_natCast,← q.st]
theorem DelS.apply {j i n : Nat} {y : Int} {l : List TMsg} {m : TMsg} (q : DelS a c s d j i n y l m) : applyP a c s = (d,0) := by
 have hj := (List.getElem?_eq_some_iff.1 q.ends).1
 unfold applyP deliverP
 rw [if_neg (by rw [q.kind]; decide),if_pos q.kind,q.link,if_neg (by omega),Int.toNat_natCast,q.ms,Option.getD_some,q.place]
 dsimp only
 rw [if_neg q.ff,q.ends,Option.getD_some,q.msg,Option.getD_some]
 unfold doneP
 dsimp only
 rw [Int.toNat_natCast,← q.st,← q.li,← q.se]
theorem step_view (h : CRightP a c) (he : (applyP a c s).2 = 0) : (∃ n p,PickS a c s (applyP a c s).1 n p) ∨ ∃ j i n y l m,DelS a c s (applyP a c s).1 j i n y l m := by
 have hN := h.nst
 have hli := h.nli
 by_cases k0 : s.Kind = 0
 ·
  have e0 : applyP a c s = pickP a c s := by unfold applyP; rw [if_pos k0]
  rw [e0] at he ⊢
  unfold pickP at he ⊢
  by_cases c1 : s.Node < 0 ∨ s.Node ≥ a.G.N
  · rw [if_pos c1] at he; cases he
  ·
   obtain ⟨n,en⟩ : ∃ n : Nat,s.Node = n := ⟨s.Node.toNat,by omega⟩
   have hn : n < c.States.length := by omega
   rw [if_neg c1] at he ⊢
   rw [en,Int.toNat_natCast] at he ⊢
   by_cases c2 : (stOf a.T n ((c.States[n]?).getD 0)).Mode = 1
   ·
    rw [if_pos c2] at he ⊢
    cases hp : pickOf (stOf a.T n ((c.States[n]?).getD 0)) s.K with
    | none => rw [hp] at he; cases he
    | some p =>
     rw [hp] at he
     dsimp only at he ⊢
     cases hq : sendAll a.G n p.Sends c.Links c.Sent with
     | none => rw [hq] at he; cases he
     | some r => exact .inl ⟨n,p,k0,en,hn,c2,hp,hq,rfl⟩
   · rw [if_neg c2] at he; cases he
 ·
  by_cases k1 : s.Kind = 1
  ·
   have e0 : applyP a c s = deliverP a c s := by unfold applyP; rw [if_neg k0,if_pos k1]
   rw [e0] at he ⊢
   unfold deliverP at he ⊢
   by_cases c1 : s.Link < 0 ∨ s.Link ≥ (a.G.Links.length : Int)
   · rw [if_pos c1] at he; cases he
   ·
    obtain ⟨j,ej⟩ : ∃ j : Nat,s.Link = j := ⟨s.Link.toNat,by omega⟩
    have hj : j < c.Links.length := by omega
    have hjg : j < a.G.Links.length := by omega
    have hgood := h.tab.1.link (List.getElem_mem hjg)
    rw [if_neg c1] at he ⊢
    simp only [ej,Int.toNat_natCast] at he ⊢
    have ems := List.getElem?_eq_getElem hj
    have eg := List.getElem?_eq_getElem hjg
    rw [ems,eg,Option.getD_some,Option.getD_some] at he ⊢
    cases hp : placeP c.Links[j] s.Seq with
    | none => rw [hp] at he; cases he
    | some i =>
     rw [hp] at he
     dsimp only at he ⊢
     obtain ⟨hi,_⟩ := placeP_some hp
     by_cases c2 : a.Fifo = true ∧ 0 < i
     · rw [if_pos c2] at he; cases he
     ·
      rw [if_neg c2]
      obtain ⟨n,en⟩ : ∃ n : Nat,a.G.Links[j].a1 = n := ⟨a.G.Links[j].a1.toNat,by have := hgood.2.2.1; omega⟩
      have hn : n < c.States.length := by have := hgood.2.2.2.1; omega
      have emi := List.getElem?_eq_getElem hi
      refine .inr ⟨j,i,n,a.G.Links[j].a0,c.Links[j],c.Links[j][i],k1,ej,?_,ems,hp,emi,c2,hn,?_,rfl,rfl⟩
      · rw [eg,← en]
      ·
       unfold doneP
       dsimp only
       rw [en,Int.toNat_natCast,emi,Option.getD_some]
  ·
   have e0 : applyP a c s = (noC,1) := by unfold applyP; rw [if_neg k0,if_neg k1]
   rw [e0] at he
   cases he
end
def send1 (g : TGraph) (n : Int) (x : TSend) (s : List (List TMsg) × List Int) : Option (List (List TMsg) × List Int) :=
 if (s.2[(find g n x.To).toNat]?).getD 0 ≥ 500 then none else
  some (s.1.set (find g n x.To).toNat ((s.1[(find g n x.To).toNat]?).getD [] ++ [⟨(s.2[(find g n x.To).toNat]?).getD 0 + 1,x.Letter⟩]),s.2.set (find g n x.To).toNat ((s.2[(find g n x.To).toNat]?).getD 0 + 1))
section
variable {g : TGraph} {n m : Int}
theorem sendAll_cons (x : TSend) (r : List TSend) (l : List (List TMsg)) (z : List Int) : sendAll g n (x :: r) l z = (send1 g n x (l,z)).bind fun s => sendAll g n r s.1 s.2 := by
 rw [sendAll]
 unfold send1
 dsimp only
 by_cases e : (z[(find g n x.To).toNat]?).getD 0 ≥ 500
 · rw [if_pos e,if_pos e]; rfl
 · rw [if_neg e,if_neg e]; rfl
theorem send1_swap {x y : TSend} {s s1 s2 : List (List TMsg) × List Int} (hj : (find g n x.To).toNat ≠ (find g m y.To).toNat) (h1 : send1 g n x s = some s1) (h2 : send1 g m y s = some s2) : ∃ s3,send1 g m y s1 = some s3 ∧ send1 g n x s2 = some s3 := by
 unfold send1 at *
 generalize (find g n x.To).toNat = j at *
 generalize (find g m y.To).toNat = k at *
 split at h1
 · cases h1
 ·
  rename_i c1
  split at h2
  · cases h2
  ·
   rename_i c2
   injection h1 with h1
   injection h2 with h2
   subst h1 h2
   dsimp only
   rw [List.getElem?_set_ne hj,List.getElem?_set_ne hj,List.getElem?_set_ne hj.symm,List.getElem?_set_ne hj.symm,if_neg c1,if_neg c2]
   exact ⟨_,rfl,congrArg some (Prod.ext (List.set_comm _ _ hj.symm) (List.set_comm _ _ hj.symm))⟩
theorem sends_swap1 {x : TSend} : ∀ {q : List TSend} {s s1 s2 : List (List TMsg) × List Int},(∀ y ∈ q,(find g n x.To).toNat ≠ (find g m y.To).toNat) → send1 g n x s = some s1 → sendAll g m q s.1 s.2 = some s2 → ∃ s3,sendAll g m q s1.1 s1.2 = some s3 ∧ send1 g n x s2 = some s3
 | [],s,s1,s2,_,h1,h2 => by
  injection h2 with h2
  subst h2
  exact ⟨s1,rfl,h1⟩
 | y :: q,s,s1,s2,hd,h1,h2 => by
  rw [sendAll_cons] at h2
  obtain ⟨t,e1,e2⟩ := Option.bind_eq_some_iff.1 h2
  obtain ⟨t3,f1,f2⟩ := send1_swap (hd y (by simp)) h1 e1
  obtain ⟨s3,g1,g2⟩ := sends_swap1 (fun y hy => hd y (by simp [hy])) f2 e2
  exact ⟨s3,by rw [sendAll_cons,f1,Option.bind_some]; exact g1,g2⟩
theorem sends_swap : ∀ {r q : List TSend} {s s1 s2 : List (List TMsg) × List Int},(∀ x ∈ r,∀ y ∈ q,(find g n x.To).toNat ≠ (find g m y.To).toNat) → sendAll g n r s.1 s.2 = some s1 → sendAll g m q s.1 s.2 = some s2 → ∃ s3,sendAll g m q s1.1 s1.2 = some s3 ∧ sendAll g n r s2.1 s2.2 = some s3
 | [],q,s,s1,s2,_,h1,h2 => by
  injection h1 with h1
  subst h1
  exact ⟨s2,h2,rfl⟩
 | x :: r,q,s,s1,s2,hd,h1,h2 => by
  rw [sendAll_cons] at h1
  obtain ⟨t,e1,e2⟩ := Option.bind_eq_some_iff.1 h1
  obtain ⟨t3,f1,f2⟩ := sends_swap1 (hd x (by simp)) e1 h2
  obtain ⟨s3,g1,g2⟩ := sends_swap (fun x hx => hd x (by simp [hx])) e2 f1
  exact ⟨s3,g1,by rw [sendAll_cons,f2,Option.bind_some]; exact g2⟩
theorem find_ne {x y : Int} (h1 : 0 ≤ find g n x) (h2 : 0 ≤ find g m y) (h : n ≠ m) : (find g n x).toNat ≠ (find g m y).toNat := by
 obtain ⟨j,e1,_,f1⟩ := find_lt h1
 obtain ⟨k,e2,_,f2⟩ := find_lt h2
 rw [e1,e2,Int.toNat_natCast,Int.toNat_natCast]
 intro e
 rw [e,f2] at f1
 injection f1 with f1
 injection f1 with f1
 exact h f1.symm
def rmv {α : Type} (i : Nat) (l : List α) : List α := l.take i ++ l.drop (i + 1)
theorem rmv_more {α : Type} {i : Nat} {l : List α} (h : i < l.length) (e : List α) : rmv i (l ++ e) = rmv i l ++ e := by
 unfold rmv
 rw [List.take_append_of_le_length (by omega),List.drop_append_of_le_length (by omega),List.append_assoc]
theorem sendAll_rmv {j i : Nat} : ∀ {r : List TSend} {l : List (List TMsg)} {z : List Int} {lj : List TMsg} {l' : List (List TMsg)} {z' : List Int},l[j]? = some lj → i < lj.length → sendAll g n r l z = some (l',z') → ∃ e,l'[j]? = some (lj ++ e) ∧ sendAll g n r (l.set j (rmv i lj)) z = some (l'.set j (rmv i (lj ++ e)),z')
 | [],l,z,lj,l',z',hj,hi,h => by
  injection h with h
  injection h with h1 h2
  subst h1 h2
  exact ⟨[],by rw [List.append_nil]; exact hj,by rw [List.append_nil]; rfl⟩
 | x :: r,l,z,lj,l',z',hj,hi,h => by
  have hlen := (List.getElem?_eq_some_iff.1 hj).1
  rw [sendAll] at h ⊢
  generalize (find g n x.To).toNat = k at *
  generalize (z[k]?).getD 0 = v at *
  split at h
  · cases h
  ·
   rename_i c1
   rw [if_neg c1]
   by_cases ne : j = k
   ·
    subst ne
    rw [hj,Option.getD_some] at h
    obtain ⟨e,f1,f2⟩ := sendAll_rmv (j := j) (i := i) (lj := lj ++ [⟨v + 1,x.Letter⟩]) (by rw [List.getElem?_set_self hlen]) (by rw [List.length_append]; omega) h
    rw [List.set_set] at f2
    rw [List.getElem?_set_self hlen,Option.getD_some,List.set_set,← rmv_more hi]
    exact ⟨⟨v + 1,x.Letter⟩ :: e,by rw [f1,List.append_assoc]; rfl,by rw [f2,List.append_assoc]; rfl⟩
   ·
    obtain ⟨e,f1,f2⟩ := sendAll_rmv (j := j) (i := i) (lj := lj) (by rw [List.getElem?_set_ne (Ne.symm ne)]; exact hj) hi h
    rw [List.getElem?_set_ne ne,List.set_comm _ _ ne]
    exact ⟨_,f1,f2⟩
theorem sendAll_other {j : Nat} {y w : Int} (hj : g.Links[j]? = some ⟨y,w⟩) (hy : y ≠ n) : ∀ {r : List TSend} {l : List (List TMsg)} {z : List Int} {l' : List (List TMsg)} {z' : List Int},(∀ x ∈ r,0 ≤ find g n x.To) → sendAll g n r l z = some (l',z') → l'[j]? = l[j]? ∧ z'[j]? = z[j]?
 | [],l,z,l',z',_,h => by
  injection h with h
  injection h with h1 h2
  subst h1 h2
  exact ⟨rfl,rfl⟩
 | x :: r,l,z,l',z',hr,h => by
  have hk : (find g n x.To).toNat ≠ j := by
   obtain ⟨k,e1,_,f1⟩ := find_lt (hr x (by simp))
   rw [e1,Int.toNat_natCast]
   intro e
   rw [e,hj] at f1
   injection f1 with f1
   injection f1 with f1
   exact hy f1
  rw [sendAll] at h
  split at h
  · cases h
  ·
   have := sendAll_other hj hy (fun x hx => hr x (by simp [hx])) h
   rw [List.getElem?_set_ne hk,List.getElem?_set_ne hk] at this
   exact this
end
theorem placeI_more {q : Int} : ∀ {l e : List TMsg} {k i : Nat},placeI q l k = some i → placeI q (l ++ e) k = some i
 | [],e,k,i,h => by cases h
 | m :: l,e,k,i,h => by
  rw [List.cons_append]
  unfold placeI at h ⊢
  split at h
  ·
   rename_i c
   rw [if_pos c]; exact h
  ·
   rename_i c
   rw [if_neg c]; exact placeI_more h
def whereP (a : TApp) (s : TStep) : Int := if s.Kind = 0 then s.Node else if s.Link < 0 ∨ s.Link ≥ (a.G.Links.length : Int) then -1 else ((a.G.Links[s.Link.toNat]?).getD ⟨0,0⟩).a1
section
variable {a : TApp} {c d d' : TConf} {s t : TStep}
theorem PickS.where {n : Nat} {p : TPick} (q : PickS a c s d n p) : whereP a s = n := by
 unfold whereP
 rw [if_pos q.kind,q.node]
theorem DelS.where {j i n : Nat} {y : Int} {l : List TMsg} {m : TMsg} (q : DelS a c s d j i n y l m) : whereP a s = n := by
 have hj := (List.getElem?_eq_some_iff.1 q.ends).1
 unfold whereP
 rw [if_neg (by rw [q.kind]; decide),q.link,if_neg (by omega),Int.toNat_natCast,q.ends,Option.getD_some]
theorem PickS.finds {n : Nat} {p : TPick} (h : CRightP a c) (ha : SzA a) (q : PickS a c s d n p) : ∀ x ∈ p.Sends,0 ≤ find a.G n x.To := (h.sends ha q.lt q.mode q.pick).2.1
theorem pick_pick {n m : Nat} {p p' : TPick} (h : CRightP a c) (ha : SzA a) (q : PickS a c s d n p) (q' : PickS a c t d' m p') (hn : n ≠ m) : ∃ e,PickS a d t e m p' ∧ PickS a d' s e n p := by
 have hd : ∀ x ∈ p.Sends,∀ y ∈ p'.Sends,(find a.G n x.To).toNat ≠ (find a.G m y.To).toNat := fun x hx y hy => find_ne (q.finds h ha x hx) (q'.finds h ha y hy) (by omega)
 obtain ⟨r,e1,e2⟩ := sends_swap (s := (c.Links,c.Sent)) hd q.send q'.send
 refine ⟨⟨(c.States.set n p.Next).set m p'.Next,r.1,r.2⟩,⟨q'.kind,q'.node,?_,?_,?_,e1,by rw [q.st]⟩,⟨q.kind,q.node,?_,?_,?_,e2,?_⟩⟩
 · rw [q.st,List.length_set]; exact q'.lt
 · rw [q.st,List.getElem?_set_ne hn]; exact q'.mode
 · rw [q.st,List.getElem?_set_ne hn]; exact q'.pick
 · rw [q'.st,List.length_set]; exact q.lt
 · rw [q'.st,List.getElem?_set_ne hn.symm]; exact q.mode
 · rw [q'.st,List.getElem?_set_ne hn.symm]; exact q.pick
 · rw [q'.st]; exact List.set_comm _ _ hn
theorem pick_del {n m j i : Nat} {y : Int} {l : List TMsg} {b : TMsg} {p : TPick} (q : PickS a c s d n p) (q' : DelS a c t d' j i m y l b) (hn : n ≠ m) : ∃ e l',DelS a d t e j i m y l' b ∧ PickS a d' s e n p := by
 have hi := (List.getElem?_eq_some_iff.1 q'.msg).1
 obtain ⟨x,e1,e2⟩ := sendAll_rmv (i := i) q'.ms hi q.send
 refine ⟨⟨(c.States.set n p.Next).set m (takenOf (stOf a.T m ((c.States[m]?).getD 0)).Takes ((c.States[m]?).getD 0) y b.Letter),d.Links.set j (rmv i (l ++ x)),d.Sent⟩,l ++ x,⟨q'.kind,q'.link,q'.ends,e1,placeI_more q'.place,?_,q'.ff,?_,?_,rfl,rfl⟩,⟨q.kind,q.node,?_,?_,?_,?_,?_⟩⟩
 · rw [List.getElem?_append_left hi]; exact q'.msg
 · rw [q.st,List.length_set]; exact q'.lt
 · rw [q.st,List.getElem?_set_ne hn]
 · rw [q'.st,List.length_set]; exact q.lt
 · rw [q'.st,List.getElem?_set_ne hn.symm]; exact q.mode
 · rw [q'.st,List.getElem?_set_ne hn.symm]; exact q.pick
 · rw [q'.li,q'.se]; exact e2
 · rw [q'.st]; exact List.set_comm _ _ hn
theorem del_del {n m j i j' i' : Nat} {y y' : Int} {l l' : List TMsg} {b b' : TMsg} (q : DelS a c s d j i n y l b) (q' : DelS a c t d' j' i' m y' l' b') (hn : n ≠ m) : ∃ e,DelS a d t e j' i' m y' l' b' ∧ DelS a d' s e j i n y l b := by
 have hj : j ≠ j' := fun e => by
  have h1 := q.ends
  rw [e,q'.ends] at h1
  injection h1 with h1
  injection h1 with _ h1
  omega
 refine ⟨⟨(c.States.set n (takenOf (stOf a.T n ((c.States[n]?).getD 0)).Takes ((c.States[n]?).getD 0) y b.Letter)).set m (takenOf (stOf a.T m ((c.States[m]?).getD 0)).Takes ((c.States[m]?).getD 0) y' b'.Letter),(c.Links.set j (rmv i l)).set j' (rmv i' l'),c.Sent⟩,⟨q'.kind,q'.link,q'.ends,?_,q'.place,q'.msg,q'.ff,?_,?_,?_,q.se.symm⟩,⟨q.kind,q.link,q.ends,?_,q.place,q.msg,q.ff,?_,?_,?_,q'.se.symm⟩⟩
 · rw [q.li,List.getElem?_set_ne hj]; exact q'.ms
 · rw [q.st,List.length_set]; exact q'.lt
 · rw [q.st,List.getElem?_set_ne hn]
 · rw [q.li]; rfl
 · rw [q'.li,List.getElem?_set_ne hj.symm]; exact q.ms
 · rw [q'.st,List.length_set]; exact q.lt
 · rw [q'.st,List.getElem?_set_ne hn.symm]; exact List.set_comm _ _ hn
 · rw [q'.li]; exact List.set_comm _ _ hj
theorem steps_turn (h : CRightP a c) (ha : SzA a) (hs : (applyP a c s).2 = 0) (ht : (applyP a c t).2 = 0) (hn : whereP a s ≠ whereP a t) : ∃ e,applyP a (applyP a c s).1 t = (e,0) ∧ applyP a (applyP a c t).1 s = (e,0) := by
 have r1 := apply_right h ha hs
 have r2 := apply_right h ha ht
 rcases step_view h hs with ⟨n,p,q⟩ | ⟨j,i,n,y,l,b,q⟩
 ·
  rw [q.where] at hn
  rcases step_view h ht with ⟨m,p',q'⟩ | ⟨j',i',m,y',l',b',q'⟩
  ·
   rw [q'.where] at hn
   obtain ⟨e,e1,e2⟩ := pick_pick h ha q q' (by omega)
   exact ⟨e,e1.apply r1,e2.apply r2⟩
  ·
   rw [q'.where] at hn
   obtain ⟨e,l2,e1,e2⟩ := pick_del q q' (by omega)
   exact ⟨e,e1.apply,e2.apply r2⟩
 ·
  rw [q.where] at hn
  rcases step_view h ht with ⟨m,p',q'⟩ | ⟨j',i',m,y',l',b',q'⟩
  ·
   rw [q'.where] at hn
   obtain ⟨e,l2,e1,e2⟩ := pick_del q' q (by omega)
   exact ⟨e,e2.apply r1,e1.apply⟩
  ·
   rw [q'.where] at hn
   obtain ⟨e,e1,e2⟩ := del_del q q' (by omega)
   exact ⟨e,e1.apply,e2.apply⟩
end
end Go.Proofs.Ytabbejabdkkaiaa
