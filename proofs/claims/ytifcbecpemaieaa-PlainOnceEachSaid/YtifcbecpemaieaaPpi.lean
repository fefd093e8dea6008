/- Plain systems: runs of two parts; where a message lies; how many messages there are; what was delivered. No condition. -/
import Derived.Test.YtifcbecpemaieaaPph
import Derived.Test.YtifcbecpemaieaaPpf
set_option linter.unusedSimpArgs false
set_option linter.unusedVariables false
namespace Go.Proofs.Ytifcbecpemaieaa
open Go.RowKit

section
variable {a : TApp}
end
theorem msgs_at {z : Int} : ∀ {l : List TMsg} {last : Int} {i : Nat} {m : TMsg},MsgsP z last l → l[i]? = some m → last < m.Seq ∧ m.Seq ≤ z ∧ 0 ≤ m.Letter ∧ m.Letter ≤ 3
 | [],_,_,_,_,h => by simp at h
 | x :: l,last,0,m,⟨h1,h2,h3,h4,_⟩,h => by
  rw [List.getElem?_cons_zero] at h
  injection h with h
  subst h
  exact ⟨h1,h2,h3,h4⟩
 | x :: l,last,i + 1,m,⟨h1,h2,h3,h4,h5⟩,h => by
  rw [List.getElem?_cons_succ] at h
  have := msgs_at h5 h
  exact ⟨by omega,this.2⟩
theorem msgs_lt {z : Int} : ∀ {l : List TMsg} {last : Int} {i j : Nat} {m x : TMsg},MsgsP z last l → i < j → l[i]? = some m → l[j]? = some x → m.Seq < x.Seq
 | [],_,_,_,_,_,_,_,h,_ => by simp at h
 | y :: l,last,i,0,m,x,_,h,_,_ => by omega
 | y :: l,last,0,j + 1,m,x,⟨_,_,_,_,h5⟩,_,h1,h2 => by
  rw [List.getElem?_cons_zero] at h1
  injection h1 with h1
  subst h1
  rw [List.getElem?_cons_succ] at h2
  exact (msgs_at h5 h2).1
 | y :: l,last,i + 1,j + 1,m,x,⟨_,_,_,_,h5⟩,h,h1,h2 => by
  rw [List.getElem?_cons_succ] at h1 h2
  exact msgs_lt h5 (by omega) h1 h2
theorem msgs_ne {z last : Int} {l : List TMsg} {i j : Nat} {m x : TMsg} (h : MsgsP z last l) (hn : i ≠ j) (h1 : l[i]? = some m) (h2 : l[j]? = some x) : m.Seq ≠ x.Seq := by
 rcases Nat.lt_or_ge i j with q | q
 ·
  have := msgs_lt h q h1 h2
  omega
 ·
  have := msgs_lt h (show j < i by omega) h2 h1
  omega
theorem mem_rmv {α : Type} {i : Nat} {l : List α} {x : α} (h : x ∈ rmv i l) : ∃ k,k ≠ i ∧ l[k]? = some x := by
 unfold rmv at h
 rcases List.mem_append.1 h with h | h
 ·
  obtain ⟨k,hk,e⟩ := List.getElem_of_mem h
  rw [List.length_take] at hk
  rw [List.getElem_take] at e
  exact ⟨k,by omega,by rw [List.getElem?_eq_getElem (by omega),e]⟩
 ·
  obtain ⟨k,hk,e⟩ := List.getElem_of_mem h
  rw [List.length_drop] at hk
  rw [List.getElem_drop] at e
  exact ⟨i + 1 + k,by omega,by rw [List.getElem?_eq_getElem (by omega),e]⟩
theorem rmv_len {α : Type} {i : Nat} {l : List α} (h : i < l.length) : (rmv i l).length + 1 = l.length := by
 unfold rmv
 rw [List.length_append,List.length_take,List.length_drop]
 omega
section
variable {a : TApp} {c d : TConf} {s : TStep}
theorem CRightP.at_link (h : CRightP a c) {j : Nat} (hj : j < a.G.Links.length) : ∃ l z,c.Links[j]? = some l ∧ c.Sent[j]? = some z ∧ LinkP z l := by
 have h1 := h.nli
 have h2 := h.nse
 have e1 := List.getElem?_eq_getElem (l := c.Links) (i := j) (by omega)
 have e2 := List.getElem?_eq_getElem (l := c.Sent) (i := j) (by omega)
 exact ⟨_,_,e1,e2,h.lnk j _ _ e1 e2⟩
end
structure GotP (f : Bool) (g : List Int) (l : List TMsg) (z : Int) : Prop where
 cnt : z - (g.length : Int) = (l.length : Int)
 le : ∀ q ∈ g,q ≤ z
 dj : ∀ m ∈ l,m.Seq ∉ g
 ff : f = true → ∀ (i : Nat) (m : TMsg),l[i]? = some m → m.Seq = (g.length : Int) + 1 + i
theorem GotP.more {f : Bool} {g : List Int} {l : List TMsg} {z : Int} (h : GotP f g l z) (b : Int) : GotP f g (l ++ [⟨z + 1,b⟩]) (z + 1) := by
 have hc := h.cnt
 refine ⟨by rw [List.length_append,List.length_singleton]; omega,fun q hq => by have := h.le q hq; omega,fun m hm => ?_,fun hf i m hm => ?_⟩
 ·
  rcases List.mem_append.1 hm with hm | hm
  · exact h.dj m hm
  ·
   rw [List.mem_singleton] at hm
   subst hm
   intro q
   have := h.le _ q
   dsimp only at this
   omega
 ·
  rcases Nat.lt_or_ge i l.length with q | q
  ·
   rw [List.getElem?_append_left q] at hm
   exact h.ff hf i m hm
  ·
   rw [List.getElem?_append_right q] at hm
   obtain ⟨e1,e2⟩ := List.getElem?_eq_some_iff.1 hm
   rw [List.length_singleton] at e1
   have e3 : i = l.length := by omega
   subst e3
   simp at e2
   subst e2
   dsimp only
   omega
theorem GotP.less {f : Bool} {g : List Int} {l : List TMsg} {z : Int} (h : GotP f g l z) (hl : MsgsP z 0 l) {i : Nat} {m : TMsg} (hm : l[i]? = some m) (hf : ¬ (f = true ∧ 0 < i)) : GotP f (g ++ [m.Seq]) (rmv i l) z := by
 have hi := (List.getElem?_eq_some_iff.1 hm).1
 have hr := rmv_len hi
 have hc := h.cnt
 refine ⟨by rw [List.length_append,List.length_singleton]; omega,fun q hq => ?_,fun x hx q => ?_,fun hf' k x hx => ?_⟩
 ·
  rcases List.mem_append.1 hq with hq | hq
  · exact h.le q hq
  ·
   rw [List.mem_singleton] at hq
   rw [hq]
   exact (msgs_at hl hm).2.1
 ·
  obtain ⟨k,hk,e⟩ := mem_rmv hx
  rcases List.mem_append.1 q with q | q
  · exact h.dj x (List.mem_of_getElem? e) q
  ·
   rw [List.mem_singleton] at q
   exact msgs_ne hl hk e hm q
 ·
  have i0 : i = 0 := by
   rcases Nat.eq_zero_or_pos i with q | q
   · exact q
   · exact absurd ⟨hf',q⟩ hf
  subst i0
  unfold rmv at hx
  rw [List.take_zero,List.nil_append,List.getElem?_drop] at hx
  have := h.ff hf' _ x hx
  rw [List.length_append,List.length_singleton]
  omega
def GI (a : TApp) (c : TConf) (got : List (List Int)) : Prop := got.length = a.G.Links.length ∧ ∀ (j : Nat) (g : List Int) (l : List TMsg) (z : Int),got[j]? = some g → c.Links[j]? = some l → c.Sent[j]? = some z → GotP a.Fifo g l z
theorem sendAll_got {f : Bool} {g : TGraph} {n : Int} {got : List (List Int)} : ∀ {r : List TSend} {l l' : List (List TMsg)} {z z' : List Int},(∀ x ∈ r,SendP g n x) → LI g l z → (∀ (j : Nat) (o : List Int) (m : List TMsg) (y : Int),got[j]? = some o → l[j]? = some m → z[j]? = some y → GotP f o m y) → sendAll g n r l z = some (l',z') → ∀ (j : Nat) (o : List Int) (m : List TMsg) (y : Int),got[j]? = some o → l'[j]? = some m → z'[j]? = some y → GotP f o m y
 | [],l,l',z,z',_,_,h,e => by
  injection e with e
  injection e with e1 e2
  subst e1 e2
  exact h
 | x :: r,l,l',z,z',hr,hL,h,e => by
  obtain ⟨s1,_,_⟩ := hr x (by simp)
  obtain ⟨k,hk1,hk2,_⟩ := find_lt s1
  have hl : k < l.length := by have := hL.1; omega
  have hz : k < z.length := by have := hL.2.1; omega
  rw [sendAll_cons] at e
  obtain ⟨t,e1,e2⟩ := Option.bind_eq_some_iff.1 e
  have hone : sendAll g n [x] l z = some t := by rw [sendAll_cons,e1]; rfl
  have hL' := sendAll_right (r := [x]) (l' := t.1) (z' := t.2) (fun y hy => hr y (by simp at hy; simp [hy])) hL hone
  refine sendAll_got (fun y hy => hr y (by simp [hy])) hL' ?_ e2
  unfold send1 at e1
  rw [hk1,Int.toNat_natCast] at e1
  dsimp only at e1
  have el := List.getElem?_eq_getElem hl
  have ez := List.getElem?_eq_getElem hz
  rw [el,ez,Option.getD_some,Option.getD_some] at e1
  split at e1
  · cases e1
  ·
   injection e1 with e1
   subst e1
   intro j o m y ho hm hy
   dsimp only at hm hy
   rw [List.getElem?_set] at hm hy
   by_cases q : k = j
   ·
    subst q
    rw [if_pos rfl,if_pos hl] at hm
    rw [if_pos rfl,if_pos hz] at hy
    injection hm with hm
    injection hy with hy
    subst hm hy
    exact (h k o _ _ ho el ez).more _
   ·
    rw [if_neg q] at hm hy
    exact h j o m y ho hm hy
theorem got_pick {a : TApp} {c : TConf} {s : TStep} {got : List (List Int)} (h : CRightP a c) (ha : SzA a) (he : (applyP a c s).2 = 0) (k0 : s.Kind ≠ 1) (hg : GI a c got) : GI a (applyP a c s).1 got := by
 rcases step_view h he with ⟨n,p,q⟩ | ⟨j,i,n,y,l,b,q⟩
 ·
  obtain ⟨x,k,hx,ek,hk,hnode,est⟩ := h.node q.lt
  have hp := q.pick
  rw [List.getElem?_eq_getElem q.lt,Option.getD_some,est] at hp
  have hpm : p ∈ x.States[k].Picks := by
   unfold pickOf at hp
   split at hp
   · exact List.mem_of_getElem? hp
   · cases hp
  obtain ⟨_,_,_,p4⟩ := (hnode.2.2.2.2 _ (List.getElem_mem hk)).2.2.2.1.2.2 p hpm
  exact ⟨hg.1,sendAll_got p4 h.li hg.2 q.send⟩
 · exact absurd q.kind k0
theorem got_del {a : TApp} {c : TConf} {s : TStep} {got : List (List Int)} (h : CRightP a c) (he : (applyP a c s).2 = 0) (k1 : s.Kind = 1) (hg : GI a c got) : ∃ (j : Nat) (g : List Int) (z : Int),s.Link = j ∧ j < a.G.Links.length ∧ got[j]? = some g ∧ c.Sent[j]? = some z ∧ 1 ≤ s.Seq ∧ s.Seq ≤ z ∧ s.Seq ∉ g ∧ (a.Fifo = true → s.Seq = (g.length : Int) + 1) ∧ GI a (applyP a c s).1 (got.set j (g ++ [s.Seq])) := by
 rcases step_view h he with ⟨n,p,q⟩ | ⟨j,i,n,y,l,b,q⟩
 · exact absurd (q.kind.symm.trans k1) (by decide)
 ·
  have hj := (List.getElem?_eq_some_iff.1 q.ends).1
  obtain ⟨l',z,e1,e2,_,_,e3⟩ := h.at_link hj
  have e4 := q.ms
  rw [e1] at e4
  injection e4 with e4
  subst e4
  have hgl := hg.1
  have eg := List.getElem?_eq_getElem (l := got) (i := j) (by omega)
  have G := hg.2 j _ _ _ eg e1 e2
  obtain ⟨hi,hs⟩ := placeP_some q.place
  have em := q.msg
  rw [List.getElem?_eq_getElem hi] at em
  injection em with em
  rw [em] at hs
  have hb := msgs_at e3 q.msg
  refine ⟨j,_,z,q.link,hj,eg,e2,by omega,by omega,?_,fun hf => ?_,?_,?_⟩
  ·
   rw [← hs]
   exact G.dj b (List.mem_of_getElem? q.msg)
  ·
   have i0 : i = 0 := by
    rcases Nat.eq_zero_or_pos i with r | r
    · exact r
    · exact absurd ⟨hf,r⟩ q.ff
   have := G.ff hf i b q.msg
   rw [← hs,this,i0]
   omega
  · rw [List.length_set]; exact hg.1
  ·
   intro k o m y ho hm hy
   rw [q.li,List.getElem?_set] at hm
   rw [q.se] at hy
   rw [List.getElem?_set] at ho
   by_cases r : j = k
   ·
    subst r
    rw [if_pos rfl,if_pos (by omega)] at ho
    rw [if_pos rfl,if_pos (List.getElem?_eq_some_iff.1 e1).1] at hm
    injection ho with ho
    injection hm with hm
    rw [e2] at hy
    injection hy with hy
    subst ho hm hy
    rw [← hs]
    exact G.less e3 q.msg q.ff
   ·
    rw [if_neg r] at ho hm
    exact hg.2 k o m y ho hm hy
theorem got_start (a : TApp) : GI a (startP a) (List.replicate a.G.Links.length []) := by
 refine ⟨by simp,fun j g l z hg hl hz => ?_⟩
 unfold startP at hl hz
 dsimp only at hl hz
 rw [List.getElem?_replicate] at hg hl hz
 split at hg
 ·
  rename_i e
  rw [if_pos e] at hl hz
  injection hg with hg
  injection hl with hl
  injection hz with hz
  subst hg hl hz
  exact ⟨by simp,by simp,by simp,fun _ i m hm => by simp at hm⟩
 · cases hg
end Go.Proofs.Ytifcbecpemaieaa
