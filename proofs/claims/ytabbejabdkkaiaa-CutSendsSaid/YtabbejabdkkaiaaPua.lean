/- Cuts in plain words: a step may be put ahead of another node's one; those ahead of a good cut may be done first. No condition. -/
import Derived.Test.YtabbejabdkkaiaaPpi
set_option linter.unusedSimpArgs false
set_option linter.unusedVariables false
namespace Go.Proofs.Ytabbejabdkkaiaa
open Go.RowKit

def okP (a : TApp) : TConf → List TStep → Prop
 | _,[] => True
 | c,s :: l => (applyP a c s).2 = 0 ∧ okP a (applyP a c s).1 l
def endP (a : TApp) : TConf → List TStep → TConf
 | c,[] => c
 | c,s :: l => endP a (applyP a c s).1 l
def sentBy (c d : TConf) (j q : Int) : Prop := ∃ (k : Nat) (z z' : Int),j = k ∧ c.Sent[k]? = some z ∧ d.Sent[k]? = some z' ∧ z < q ∧ q ≤ z'
section
variable {a : TApp} {c d : TConf} {b s : TStep}
theorem okP_app : ∀ {l r : List TStep} {c : TConf},okP a c (l ++ r) ↔ okP a c l ∧ okP a (endP a c l) r
 | [],r,c => ⟨fun h => ⟨trivial,h⟩,fun h => h.2⟩
 | s :: l,r,c => by
  show (applyP a c s).2 = 0 ∧ okP a (applyP a c s).1 (l ++ r) ↔ ((applyP a c s).2 = 0 ∧ okP a (applyP a c s).1 l) ∧ okP a (endP a (applyP a c s).1 l) r
  rw [okP_app]
  exact and_assoc.symm
theorem endP_app : ∀ {l r : List TStep} {c : TConf},endP a c (l ++ r) = endP a (endP a c l) r
 | [],r,c => rfl
 | s :: l,r,c => endP_app (l := l) (r := r) (c := (applyP a c s).1)
theorem okP_right (ha : SzA a) : ∀ {l : List TStep} {c : TConf},CRightP a c → okP a c l → CRightP a (endP a c l)
 | [],c,h,_ => h
 | s :: l,c,h,⟨h1,h2⟩ => okP_right ha (l := l) (c := (applyP a c s).1) (apply_right h ha h1) h2
theorem okP_run : ∀ {l : List TStep} {c : TConf} {k : Nat},okP a c l → runP a c l k = (endP a c l,((k + l.length : Nat) : Int),0)
 | [],c,k,_ => rfl
 | s :: l,c,k,⟨h1,h2⟩ => by
  rw [runP,if_pos h1,okP_run h2,List.length_cons]
  show (endP a (applyP a c s).1 l,_,_) = (endP a (applyP a c s).1 l,_,_)
  congr 2
  omega
theorem sent_keep (h : CRightP a c) (ha : SzA a) (hs : (applyP a c s).2 = 0) {j : Nat} {x : A2I} (hj : a.G.Links[j]? = some x) (hx : x.a0 ≠ whereP a s) : (applyP a c s).1.Sent[j]? = c.Sent[j]? := by
 rcases step_view h hs with ⟨n,p,q⟩ | ⟨j',i,n,y,l,m,q⟩
 ·
  rw [q.where] at hx
  exact (sendAll_other (y := x.a0) (w := x.a1) hj hx (q.finds h ha) q.send).2
 · rw [q.se]
theorem sendAll_mono {g : TGraph} {n : Int} : ∀ {r : List TSend} {l l' : List (List TMsg)} {z z' : List Int} {j : Nat} {lj : List TMsg} {v : Int},l[j]? = some lj → z[j]? = some v → sendAll g n r l z = some (l',z') → ∃ e v',l'[j]? = some (lj ++ e) ∧ z'[j]? = some v' ∧ v ≤ v' ∧ ∀ m ∈ e,v < m.Seq ∧ m.Seq ≤ v'
 | [],l,l',z,z',j,lj,v,hl,hz,h => by
  injection h with h
  injection h with h1 h2
  subst h1 h2
  exact ⟨[],v,by rw [List.append_nil]; exact hl,hz,by omega,by simp⟩
 | x :: r,l,l',z,z',j,lj,v,hl,hz,h => by
  have h1 := (List.getElem?_eq_some_iff.1 hl).1
  have h2 := (List.getElem?_eq_some_iff.1 hz).1
  rw [sendAll] at h
  generalize (find g n x.To).toNat = k at *
  split at h
  · cases h
  ·
   by_cases ne : k = j
   ·
    subst ne
    rw [hl,hz,Option.getD_some,Option.getD_some] at h
    obtain ⟨e,v',f1,f2,f3,f4⟩ := sendAll_mono (j := k) (lj := lj ++ [⟨v + 1,x.Letter⟩]) (v := v + 1) (by rw [List.getElem?_set_self h1]) (by rw [List.getElem?_set_self h2]) h
    refine ⟨⟨v + 1,x.Letter⟩ :: e,v',by rw [f1,List.append_assoc]; rfl,f2,by omega,fun m hm => ?_⟩
    rcases List.mem_cons.1 hm with rfl | hm
    ·
     dsimp only
     omega
    ·
     have := f4 m hm
     omega
   · exact sendAll_mono (j := j) (lj := lj) (v := v) (by rw [List.getElem?_set_ne ne]; exact hl) (by rw [List.getElem?_set_ne ne]; exact hz) h
theorem sent_up (h : CRightP a c) (hs : (applyP a c s).2 = 0) {j : Nat} {v : Int} (hv : c.Sent[j]? = some v) : ∃ v',(applyP a c s).1.Sent[j]? = some v' ∧ v ≤ v' := by
 rcases step_view h hs with ⟨n,p,q⟩ | ⟨j',i,n,y,l,m,q⟩
 ·
  have h1 := (List.getElem?_eq_some_iff.1 hv).1
  obtain ⟨e,v',_,f2,f3,_⟩ := sendAll_mono (List.getElem?_eq_getElem (l := c.Links) (i := j) (by have := h.nli; have := h.nse; omega)) hv q.send
  exact ⟨v',f2,f3⟩
 · exact ⟨v,by rw [q.se]; exact hv,by omega⟩
theorem sentBy_at (h : CRightP a c) (ha : SzA a) (hb : (applyP a c b).2 = 0) {j q : Int} (hq : sentBy c (applyP a c b).1 j q) : ∃ (k : Nat) (x : A2I),j = k ∧ a.G.Links[k]? = some x ∧ x.a0 = whereP a b := by
 obtain ⟨k,z,z',e1,e2,e3,e4,e5⟩ := hq
 have hk := (List.getElem?_eq_some_iff.1 e2).1
 have hx := List.getElem?_eq_getElem (l := a.G.Links) (i := k) (by have := h.nse; omega)
 refine ⟨k,_,e1,hx,Classical.byContradiction fun ne => ?_⟩
 rw [sent_keep h ha hb hx ne,e2] at e3
 injection e3 with e3
 omega
end
end Go.Proofs.Ytabbejabdkkaiaa
