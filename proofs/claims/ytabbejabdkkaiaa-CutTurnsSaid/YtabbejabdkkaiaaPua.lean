/- Cuts in plain words: a step may be put ahead of another node's one; those ahead of a good cut may be done first. No condition. -/
import Derived.Test.YtabbejabdkkaiaaPpi
set_option linter.unusedSimpArgs false
set_option linter.unusedVariables false
namespace Go.Proofs.Ytabbejabdkkaiaa
open Go.RowKit

def okP (a : TApp) : TConf → List TStep → Prop
 | _,[] => True
 | c,s :: l => (applyP a c s).2 = 0 ∧ okP a (applyP a c s).1 l
def endP (a : TApp) : TConf → List TStep → TConf
 | c,[] => c
 | c,s :: l => endP a (applyP a c s).1 l
def sentBy (c d : TConf) (j q : Int) : Prop := ∃ (k : Nat) (z z' : Int),j = k ∧ c.Sent[k]? = some z ∧ d.Sent[k]? = some z' ∧ z < q ∧ q ≤ z'
section
variable {a : TApp} {c d : TConf} {b s : TStep}
theorem okP_app : ∀ {l r : List TStep} {c : TConf},okP a c (l ++ r) ↔ okP a c l ∧ okP a (endP a c l) r
 | [],r,c => ⟨fun h => ⟨trivial,h⟩,fun h => h.2⟩
 | s :: l,r,c => by
  show (applyP a c s).2 = 0 ∧ okP a (applyP a c s).1 (l ++ r) ↔ ((applyP a c s).2 = 0 ∧ okP a (applyP a c s).1 l) ∧ okP a (endP a (applyP a c s).1 l) r
  rw [okP_app]
  exact and_assoc.symm
theorem endP_app : ∀ {l r : List TStep} {c : TConf},endP a c (l ++ r) = endP a (endP a c l) r
 | [],r,c => rfl
 | s :: l,r,c => endP_app (l := l) (r := r) (c := (applyP a c s).1)
theorem okP_right (ha : SzA a) : ∀ {l : List TStep} {c : TConf},CRightP a c → okP a c l → CRightP a (endP a c l)
 | [],c,h,_ => h
 | s :: l,c,h,⟨h1,h2⟩ => okP_right ha (l := l) (c := (applyP a c s).1) (apply_right h ha h1) h2
theorem okP_run : ∀ {l : List TStep} {c : TConf} {k : Nat},okP a c l → runP a c l k = (endP a c l,((k + l.length : Nat) : Int),0)
 | [],c,k,_ => rfl
 | s :: l,c,k,⟨h1,h2⟩ => by
  rw [runP,if_pos h1,okP_run h2,List.length_cons]
  show (endP a (applyP a c s).1 l,_,_) = (endP a (applyP a c s).1 l,_,_)
  congr 2
  omega
theorem run_okP : ∀ {l : List TStep} {c : TConf} {k : Nat},(runP a c l k).2.2 = 0 → okP a c l
 | [],c,k,_ => trivial
 | s :: l,c,k,h => by
  rw [runP] at h
  split at h
  ·
   rename_i e
   exact ⟨e,run_okP h⟩
  ·
   rename_i e
   exact absurd h e
theorem sent_keep (h : CRightP a c) (ha : SzA a) (hs : (applyP a c s).2 = 0) {j : Nat} {x : A2I} (hj : a.G.Links[j]? = some x) (hx : x.a0 ≠ whereP a s) : (applyP a c s).1.Sent[j]? = c.Sent[j]? := by
 rcases step_view h hs with ⟨n,p,q⟩ | ⟨j',i,n,y,l,m,q⟩
 ·
  rw [q.where] at hx
  exact (sendAll_other (y := x.a0) (w := x.a1) hj hx (q.finds h ha) q.send).2
 · rw [q.se]
theorem sendAll_mono {g : TGraph} {n : Int} : ∀ {r : List TSend} {l l' : List (List TMsg)} {z z' : List Int} {j : Nat} {lj : List TMsg} {v : Int},l[j]? = some lj → z[j]? = some v → sendAll g n r l z = some (l',z') → ∃ e v',l'[j]? = some (lj ++ e) ∧ z'[j]? = some v' ∧ v ≤ v' ∧ ∀ m ∈ e,v < m.Seq ∧ m.Seq ≤ v'
 | [],l,l',z,z',j,lj,v,hl,hz,h => by
  injection h with h
  injection h with h1 h2
  subst h1 h2
  exact ⟨[],v,by rw [List.append_nil]; exact hl,hz,by omega,by simp⟩
 | x :: r,l,l',z,z',j,lj,v,hl,hz,h => by
  have h1 := (List.getElem?_eq_some_iff.1 hl).1
  have h2 := (List.getElem?_eq_some_iff.1 hz).1
  rw [sendAll] at h
  generalize (find g n x.To).toNat = k at *
  split at h
  · cases h
  ·
   by_cases ne : k = j
   ·
    subst ne
    rw [hl,hz,Option.getD_some,Option.getD_some] at h
    obtain ⟨e,v',f1,f2,f3,f4⟩ := sendAll_mono (j := k) (lj := lj ++ [⟨v + 1,x.Letter⟩]) (v := v + 1) (by rw [List.getElem?_set_self h1]) (by rw [List.getElem?_set_self h2]) h
    refine ⟨⟨v + 1,x.Letter⟩ :: e,v',by rw [f1,List.append_assoc]; rfl,f2,by omega,fun m hm => ?_⟩
    rcases List.mem_cons.1 hm with rfl | hm
    ·
     dsimp only
     omega
    ·
     have := f4 m hm
     omega
   · exact sendAll_mono (j := j) (lj := lj) (v := v) (by rw [List.getElem?_set_ne ne]; exact hl) (by rw [List.getElem?_set_ne ne]; exact hz) h
theorem sent_up (h : CRightP a c) (hs : (applyP a c s).2 = 0) {j : Nat} {v : Int} (hv : c.Sent[j]? = some v) : ∃ v',(applyP a c s).1.Sent[j]? = some v' ∧ v ≤ v' := by
 rcases step_view h hs with ⟨n,p,q⟩ | ⟨j',i,n,y,l,m,q⟩
 ·
  have h1 := (List.getElem?_eq_some_iff.1 hv).1
  obtain ⟨e,v',_,f2,f3,_⟩ := sendAll_mono (List.getElem?_eq_getElem (l := c.Links) (i := j) (by have := h.nli; have := h.nse; omega)) hv q.send
  exact ⟨v',f2,f3⟩
 · exact ⟨v,by rw [q.se]; exact hv,by omega⟩
theorem ends_up (ha : SzA a) : ∀ {l : List TStep} {c : TConf},CRightP a c → okP a c l → ∀ {j : Nat} {v : Int},c.Sent[j]? = some v → ∃ v',(endP a c l).Sent[j]? = some v' ∧ v ≤ v'
 | [],c,h,_,j,v,hv => ⟨v,hv,by omega⟩
 | s :: l,c,h,⟨h1,h2⟩,j,v,hv => by
  obtain ⟨v1,e1,e2⟩ := sent_up h h1 hv
  obtain ⟨v2,f1,f2⟩ := ends_up ha (l := l) (c := (applyP a c s).1) (apply_right h ha h1) h2 e1
  exact ⟨v2,f1,by omega⟩
theorem sentBy_at (h : CRightP a c) (ha : SzA a) (hb : (applyP a c b).2 = 0) {j q : Int} (hq : sentBy c (applyP a c b).1 j q) : ∃ (k : Nat) (x : A2I),j = k ∧ a.G.Links[k]? = some x ∧ x.a0 = whereP a b := by
 obtain ⟨k,z,z',e1,e2,e3,e4,e5⟩ := hq
 have hk := (List.getElem?_eq_some_iff.1 e2).1
 have hx := List.getElem?_eq_getElem (l := a.G.Links) (i := k) (by have := h.nse; omega)
 refine ⟨k,_,e1,hx,Classical.byContradiction fun ne => ?_⟩
 rw [sent_keep h ha hb hx ne,e2] at e3
 injection e3 with e3
 omega
theorem sendAll_dep {g : TGraph} {n : Int} : ∀ {r : List TSend} {l l' : List (List TMsg)} {z z' : List Int},(∀ x ∈ r,z[(find g n x.To).toNat]? = z'[(find g n x.To).toNat]?) → (∃ o,sendAll g n r l z = some o) → ∃ o,sendAll g n r l' z' = some o
 | [],l,l',z,z',_,_ => ⟨(l',z'),rfl⟩
 | x :: r,l,l',z,z',he,⟨o,h⟩ => by
  have h0 := he x (by simp)
  rw [sendAll] at h
  rw [sendAll,← h0]
  split at h
  · cases h
  ·
   rename_i e
   rw [if_neg e]
   refine sendAll_dep (fun y hy => ?_) ⟨o,h⟩
   have h1 := he y (by simp [hy])
   by_cases q : (find g n x.To).toNat = (find g n y.To).toNat
   ·
    rw [← q,List.getElem?_set,List.getElem?_set,if_pos rfl,if_pos rfl]
    by_cases hl : (find g n x.To).toNat < z.length
    ·
     rw [List.getElem?_eq_getElem hl] at h0
     have := (List.getElem?_eq_some_iff.1 h0.symm).1
     rw [if_pos hl,if_pos this]
    ·
     rw [List.getElem?_eq_none (by omega)] at h0
     have := List.getElem?_eq_none_iff.1 h0.symm
     rw [if_neg hl,if_neg (by omega)]
   ·
    rw [List.getElem?_set_ne q,List.getElem?_set_ne q]
    exact h1
theorem placeI_front {q : Int} : ∀ {l e : List TMsg} {k i : Nat},placeI q (l ++ e) k = some i → (∀ m ∈ e,m.Seq ≠ q) → placeI q l k = some i
 | [],e,k,i,h,he => by
  obtain ⟨j,_,h2,m,h3,h4⟩ := placeI_some h
  exact absurd h4 (he m (List.mem_of_getElem? h3))
 | x :: l,e,k,i,h,he => by
  rw [List.cons_append] at h
  unfold placeI at h ⊢
  split at h
  ·
   rename_i c
   rw [if_pos c]; exact h
  ·
   rename_i c
   rw [if_neg c]; exact placeI_front h he
theorem step_back (h : CRightP a c) (ha : SzA a) (hb : (applyP a c b).2 = 0) (hs : (applyP a (applyP a c b).1 s).2 = 0) (hw : whereP a b ≠ whereP a s) (hq : s.Kind = 1 → ¬ sentBy c (applyP a c b).1 s.Link s.Seq) : (applyP a c s).2 = 0 := by
 have h1 := apply_right h ha hb
 have hst : ∀ m : Nat,whereP a s = m → (applyP a c b).1.States[m]? = c.States[m]? := fun m e => by
  rcases step_view h hb with ⟨n,p,q⟩ | ⟨j',i,n,y,l,mm,q⟩
  ·
   rw [q.where] at hw
   rw [q.st,List.getElem?_set_ne (by omega)]
  ·
   rw [q.where] at hw
   rw [q.st,List.getElem?_set_ne (by omega)]
 have hlen : (applyP a c b).1.States.length = c.States.length := by have := h.nst; have := h1.nst; omega
 rcases step_view h1 hs with ⟨m,p,q⟩ | ⟨j,i,m,y,l,mm,q⟩
 ·
  have e0 := hst m q.where
  have hk : ∀ x ∈ p.Sends,(applyP a c b).1.Sent[(find a.G m x.To).toNat]? = c.Sent[(find a.G m x.To).toNat]? := fun x hx => by
   obtain ⟨j,e1,_,e2⟩ := find_lt (q.finds h1 ha x hx)
   rw [e1,Int.toNat_natCast]
   exact sent_keep h ha hb e2 (by
    show (m : Int) ≠ whereP a b
    rw [← q.where]
    exact hw.symm)
  obtain ⟨o,ho⟩ := sendAll_dep (l' := c.Links) hk ⟨_,q.send⟩
  have v : PickS a c s ⟨c.States.set m p.Next,o.1,o.2⟩ m p := ⟨q.kind,q.node,by rw [← hlen]; exact q.lt,by rw [← e0]; exact q.mode,by rw [← e0]; exact q.pick,ho,rfl⟩
  rw [v.apply h]
 ·
  have e0 := hst m q.where
  have hjl := (List.getElem?_eq_some_iff.1 q.ends).1
  have hi := (List.getElem?_eq_some_iff.1 q.msg).1
  have key : ∃ l0,c.Links[j]? = some l0 ∧ placeP l0 s.Seq = some i ∧ ∃ m0,l0[i]? = some m0 := by
   rcases step_view h hb with ⟨n,p,v⟩ | ⟨j',i',n,y',l',m',v⟩
   ·
    obtain ⟨l0,z,e1,e2,_⟩ := h.at_link hjl
    obtain ⟨e,z',f1,f2,f3,f4⟩ := sendAll_mono e1 e2 v.send
    have e3 := q.ms
    rw [f1] at e3
    injection e3 with e3
    have e4 := q.place
    rw [← e3] at e4
    have e5 : placeP l0 s.Seq = some i := placeI_front e4 fun x hx e => hq q.kind ⟨j,z,z',q.link,e2,f2,by have := f4 x hx; omega,by have := f4 x hx; omega⟩
    obtain ⟨hi0,_⟩ := placeP_some e5
    exact ⟨l0,e1,e5,_,List.getElem?_eq_getElem hi0⟩
   ·
    have ne : j' ≠ j := fun e => by
     have e1 := v.ends
     rw [e,q.ends] at e1
     injection e1 with e1
     injection e1 with _ e1
     rw [v.where,q.where] at hw
     omega
    have e1 := q.ms
    rw [v.li,List.getElem?_set_ne ne] at e1
    exact ⟨l,e1,q.place,mm,q.msg⟩
  obtain ⟨l0,k1,k2,m0,k3⟩ := key
  have v : DelS a c s ⟨c.States.set m (takenOf (stOf a.T m ((c.States[m]?).getD 0)).Takes ((c.States[m]?).getD 0) y m0.Letter),c.Links.set j (l0.take i ++ l0.drop (i + 1)),c.Sent⟩ j i m y l0 m0 := ⟨q.kind,q.link,q.ends,k1,k2,k3,q.ff,by rw [← hlen]; exact q.lt,rfl,rfl,rfl⟩
  rw [v.apply]
theorem step_past (ha : SzA a) : ∀ {p : List TStep} {c : TConf} {b : TStep},CRightP a c → (applyP a c b).2 = 0 → okP a (applyP a c b).1 p → (∀ s ∈ p,whereP a b ≠ whereP a s) → (∀ s ∈ p,s.Kind = 1 → ¬ sentBy c (applyP a c b).1 s.Link s.Seq) → okP a c p ∧ applyP a (endP a c p) b = (endP a (applyP a c b).1 p,0)
 | [],c,b,h,hb,_,_,_ => ⟨trivial,Prod.ext rfl hb⟩
 | s :: p,c,b,h,hb,⟨hs,hp⟩,hw,hq => by
  have h1 := apply_right h ha hb
  have hs0 := step_back h ha hb hs (hw s (by simp)) (hq s (by simp))
  obtain ⟨e,f1,f2⟩ := steps_turn h ha hb hs0 (hw s (by simp))
  have h2 := apply_right h ha hs0
  rw [f1] at hp
  have hb2 : (applyP a (applyP a c s).1 b).2 = 0 := by rw [f2]
  have hsub : ∀ j q,sentBy (applyP a c s).1 (applyP a (applyP a c s).1 b).1 j q → sentBy c (applyP a c b).1 j q := fun j q hh => by
   obtain ⟨k,x,e1,e2,e3⟩ := sentBy_at h2 ha hb2 hh
   obtain ⟨k',z,z',g1,g2,g3,g4,g5⟩ := hh
   obtain rfl : k' = k := by omega
   have ne : x.a0 ≠ whereP a s := by rw [e3]; exact hw s (by simp)
   rw [sent_keep h ha hs0 e2 ne] at g2
   have hs1 : (applyP a (applyP a c b).1 s).2 = 0 := hs
   have g6 := sent_keep h1 ha hs1 e2 ne
   rw [f1] at g6
   rw [f2] at g3
   exact ⟨k',z,z',g1,g2,g6.symm.trans g3,g4,g5⟩
  have hp' : okP a (applyP a (applyP a c s).1 b).1 p := by rw [f2]; exact hp
  obtain ⟨r1,r2⟩ := step_past ha h2 hb2 hp' (fun t ht => hw t (List.mem_cons_of_mem s ht)) (fun t ht hk hh => hq t (List.mem_cons_of_mem s ht) hk (hsub _ _ hh))
  refine ⟨⟨hs0,r1⟩,?_⟩
  show applyP a (endP a (applyP a c s).1 p) b = (endP a (applyP a (applyP a c b).1 s).1 p,0)
  rw [r2,f1,f2]
end
end Go.Proofs.Ytabbejabdkkaiaa
