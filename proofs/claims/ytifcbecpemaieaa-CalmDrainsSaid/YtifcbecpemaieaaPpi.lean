/- Plain systems: runs of two parts; where a message lies; how many messages there are; what was delivered. No condition. -/
import Derived.Test.YtifcbecpemaieaaPph
import Derived.Test.YtifcbecpemaieaaPpf
set_option linter.unusedSimpArgs false
set_option linter.unusedVariables false
namespace Go.Proofs.Ytifcbecpemaieaa
open Go.RowKit

section
variable {a : TApp}
end
theorem msgs_at {z : Int} : ∀ {l : List TMsg} {last : Int} {i : Nat} {m : TMsg},MsgsP z last l → l[i]? = some m → last < m.Seq ∧ m.Seq ≤ z ∧ 0 ≤ m.Letter ∧ m.Letter ≤ 3
 | [],_,_,_,_,h => by simp at h
 | x :: l,last,0,m,⟨h1,h2,h3,h4,_⟩,h => by
  rw [List.getElem?_cons_zero] at h
  injection h with h
  subst h
  exact ⟨h1,h2,h3,h4⟩
 | x :: l,last,i + 1,m,⟨h1,h2,h3,h4,h5⟩,h => by
  rw [List.getElem?_cons_succ] at h
  have := msgs_at h5 h
  exact ⟨by omega,this.2⟩
theorem msgs_lt {z : Int} : ∀ {l : List TMsg} {last : Int} {i j : Nat} {m x : TMsg},MsgsP z last l → i < j → l[i]? = some m → l[j]? = some x → m.Seq < x.Seq
 | [],_,_,_,_,_,_,_,h,_ => by simp at h
 | y :: l,last,i,0,m,x,_,h,_,_ => by omega
 | y :: l,last,0,j + 1,m,x,⟨_,_,_,_,h5⟩,_,h1,h2 => by
  rw [List.getElem?_cons_zero] at h1
  injection h1 with h1
  subst h1
  rw [List.getElem?_cons_succ] at h2
  exact (msgs_at h5 h2).1
 | y :: l,last,i + 1,j + 1,m,x,⟨_,_,_,_,h5⟩,h,h1,h2 => by
  rw [List.getElem?_cons_succ] at h1 h2
  exact msgs_lt h5 (by omega) h1 h2
theorem msgs_ne {z last : Int} {l : List TMsg} {i j : Nat} {m x : TMsg} (h : MsgsP z last l) (hn : i ≠ j) (h1 : l[i]? = some m) (h2 : l[j]? = some x) : m.Seq ≠ x.Seq := by
 rcases Nat.lt_or_ge i j with q | q
 ·
  have := msgs_lt h q h1 h2
  omega
 ·
  have := msgs_lt h (show j < i by omega) h2 h1
  omega
theorem placeI_rise {z : Int} : ∀ {l : List TMsg} {last : Int} {i : Nat} {m : TMsg} (k : Nat),MsgsP z last l → l[i]? = some m → placeI m.Seq l k = some (k + i)
 | [],_,_,_,_,_,h => by simp at h
 | x :: l,last,0,m,k,_,h => by
  rw [List.getElem?_cons_zero] at h
  injection h with h
  subst h
  rw [placeI,if_pos rfl]
  rfl
 | x :: l,last,i + 1,m,k,⟨h1,h2,h3,h4,h5⟩,h => by
  rw [List.getElem?_cons_succ] at h
  have := msgs_at h5 h
  rw [placeI,if_neg (by omega),placeI_rise (k + 1) h5 h]
  congr 1
  omega
theorem placeP_rise {z last : Int} {l : List TMsg} {i : Nat} {m : TMsg} (h : MsgsP z last l) (hm : l[i]? = some m) : placeP l m.Seq = some i := by
 unfold placeP
 rw [placeI_rise 0 h hm]
 congr 1
 omega
theorem mem_rmv {α : Type} {i : Nat} {l : List α} {x : α} (h : x ∈ rmv i l) : ∃ k,k ≠ i ∧ l[k]? = some x := by
 unfold rmv at h
 rcases List.mem_append.1 h with h | h
 ·
  obtain ⟨k,hk,e⟩ := List.getElem_of_mem h
  rw [List.length_take] at hk
  rw [List.getElem_take] at e
  exact ⟨k,by omega,by rw [List.getElem?_eq_getElem (by omega),e]⟩
 ·
  obtain ⟨k,hk,e⟩ := List.getElem_of_mem h
  rw [List.length_drop] at hk
  rw [List.getElem_drop] at e
  exact ⟨i + 1 + k,by omega,by rw [List.getElem?_eq_getElem (by omega),e]⟩
theorem rmv_len {α : Type} {i : Nat} {l : List α} (h : i < l.length) : (rmv i l).length + 1 = l.length := by
 unfold rmv
 rw [List.length_append,List.length_take,List.length_drop]
 omega
section
variable {a : TApp} {c d : TConf} {s : TStep}
theorem CRightP.at_link (h : CRightP a c) {j : Nat} (hj : j < a.G.Links.length) : ∃ l z,c.Links[j]? = some l ∧ c.Sent[j]? = some z ∧ LinkP z l := by
 have h1 := h.nli
 have h2 := h.nse
 have e1 := List.getElem?_eq_getElem (l := c.Links) (i := j) (by omega)
 have e2 := List.getElem?_eq_getElem (l := c.Sent) (i := j) (by omega)
 exact ⟨_,_,e1,e2,h.lnk j _ _ e1 e2⟩
theorem del_ok (h : CRightP a c) {j i : Nat} {l : List TMsg} {m : TMsg} (hl : c.Links[j]? = some l) (hm : l[i]? = some m) : (applyP a c ⟨1,0,0,(j : Nat),m.Seq⟩).2 = 0 ↔ ¬ (a.Fifo = true ∧ 0 < i) := by
 have hj := (List.getElem?_eq_some_iff.1 hl).1
 have hli := h.nli
 obtain ⟨l',z,e1,e2,_,_,e3⟩ := h.at_link (j := j) (by omega)
 rw [hl] at e1
 injection e1 with e1
 subst e1
 unfold applyP deliverP
 dsimp only
 rw [if_neg (by decide),if_pos rfl,if_neg (by omega),Int.toNat_natCast,hl,Option.getD_some,placeP_rise e3 hm]
 dsimp only
 by_cases q : a.Fifo = true ∧ 0 < i
 ·
  rw [if_pos q]
  exact ⟨fun e => (by cases e),fun e => absurd q e⟩
 ·
  rw [if_neg q]
  exact ⟨fun _ => q,fun _ => rfl⟩
end
def lenS (l : List (List TMsg)) : Int := (l.map fun x => (x.length : Int)).sum
theorem sum_set {v : Int} : ∀ {l : List Int} {j : Nat} {w : Int},l[j]? = some w → (l.set j v).sum = l.sum - w + v
 | [],j,w,h => by simp at h
 | x :: l,0,w,h => by
  rw [List.getElem?_cons_zero] at h
  injection h with h
  subst h
  rw [List.set_cons_zero,List.sum_cons,List.sum_cons]
  omega
 | x :: l,j + 1,w,h => by
  rw [List.getElem?_cons_succ] at h
  rw [List.set_cons_succ,List.sum_cons,List.sum_cons,sum_set h]
  omega
theorem lenS_set {l : List (List TMsg)} {j : Nat} {w v : List TMsg} (h : l[j]? = some w) : lenS (l.set j v) = lenS l - (w.length : Int) + (v.length : Int) := by
 unfold lenS
 rw [List.map_set]
 exact sum_set (by rw [List.getElem?_map,h]; rfl)
theorem sendAll_sum {g : TGraph} {n : Int} : ∀ {r : List TSend} {l l' : List (List TMsg)} {z z' : List Int},(∀ x ∈ r,SendP g n x) → LI g l z → sendAll g n r l z = some (l',z') → lenS l' = lenS l + (r.length : Int) ∧ z'.sum = z.sum + (r.length : Int)
 | [],l,l',z,z',_,h,e => by
  injection e with e
  injection e with e1 e2
  subst e1 e2
  simp
 | x :: r,l,l',z,z',hr,hL,e => by
  obtain ⟨s1,_,_⟩ := hr x (by simp)
  obtain ⟨j,hj1,hj2,_⟩ := find_lt s1
  have hl : j < l.length := by have := hL.1; omega
  have hz : j < z.length := by have := hL.2.1; omega
  rw [sendAll_cons] at e
  obtain ⟨t,e1,e2⟩ := Option.bind_eq_some_iff.1 e
  have hone : sendAll g n [x] l z = some t := by rw [sendAll_cons,e1]; rfl
  have hL' := sendAll_right (r := [x]) (l' := t.1) (z' := t.2) (fun y hy => hr y (by simp at hy; simp [hy])) hL hone
  obtain ⟨f1,f2⟩ := sendAll_sum (fun y hy => hr y (by simp [hy])) hL' e2
  unfold send1 at e1
  rw [hj1,Int.toNat_natCast] at e1
  dsimp only at e1
  have el := List.getElem?_eq_getElem hl
  have ez := List.getElem?_eq_getElem hz
  rw [el,ez,Option.getD_some,Option.getD_some] at e1
  split at e1
  · cases e1
  ·
   injection e1 with e1
   subst e1
   dsimp only at f1 f2
   rw [f1,f2,lenS_set el,sum_set ez]
   simp only [List.length_append,List.length_cons,List.length_nil]
   omega
theorem step_sums {a : TApp} {c : TConf} {s : TStep} (h : CRightP a c) (ha : SzA a) (he : (applyP a c s).2 = 0) : (s.Kind = 1 → lenS (applyP a c s).1.Links = lenS c.Links - 1 ∧ (applyP a c s).1.Sent.sum = c.Sent.sum) ∧ (s.Kind = 0 → ∃ k : Nat,lenS (applyP a c s).1.Links = lenS c.Links + k ∧ (applyP a c s).1.Sent.sum = c.Sent.sum + k) := by
 rcases step_view h he with ⟨n,p,q⟩ | ⟨j,i,n,y,l,b,q⟩
 ·
  refine ⟨fun e => absurd e (by rw [q.kind]; decide),fun _ => ⟨p.Sends.length,?_⟩⟩
  obtain ⟨x,k,hx,ek,hk,hnode,est⟩ := h.node q.lt
  have hp := q.pick
  rw [List.getElem?_eq_getElem q.lt,Option.getD_some,est] at hp
  have hpm : p ∈ x.States[k].Picks := by
   unfold pickOf at hp
   split at hp
   · exact List.mem_of_getElem? hp
   · cases hp
  obtain ⟨_,_,_,p4⟩ := (hnode.2.2.2.2 _ (List.getElem_mem hk)).2.2.2.1.2.2 p hpm
  exact sendAll_sum p4 h.li q.send
 ·
  have hi := (List.getElem?_eq_some_iff.1 q.msg).1
  refine ⟨fun _ => ⟨?_,by rw [q.se]⟩,fun e => absurd e (by rw [q.kind]; decide)⟩
  have := rmv_len hi
  unfold rmv at this
  rw [q.li,lenS_set q.ms]
  omega
structure GotP (f : Bool) (g : List Int) (l : List TMsg) (z : Int) : Prop where
 cnt : z - (g.length : Int) = (l.length : Int)
 le : ∀ q ∈ g,q ≤ z
 dj : ∀ m ∈ l,m.Seq ∉ g
 ff : f = true → ∀ (i : Nat) (m : TMsg),l[i]? = some m → m.Seq = (g.length : Int) + 1 + i
theorem GotP.more {f : Bool} {g : List Int} {l : List TMsg} {z : Int} (h : GotP f g l z) (b : Int) : GotP f g (l ++ [⟨z + 1,b⟩]) (z + 1) := by
 have hc := h.cnt
 refine ⟨by rw [List.length_append,List.length_singleton]; omega,fun q hq => by have := h.le q hq; omega,fun m hm => ?_,fun hf i m hm => ?_⟩
 ·
  rcases List.mem_append.1 hm with hm | hm
  · exact h.dj m hm
  ·
   rw [List.mem_singleton] at hm
   subst hm
   intro q
   have := h.le _ q
   dsimp only at this
   omega
 ·
  rcases Nat.lt_or_ge i l.length with q | q
  ·
   rw [List.getElem?_append_left q] at hm
   exact h.ff hf i m hm
  ·
   rw [List.getElem?_append_right q] at hm
   obtain ⟨e1,e2⟩ := List.getElem?_eq_some_iff.1 hm
   rw [List.length_singleton] at e1
   have e3 : i = l.length := by omega
   subst e3
   simp at e2
   subst e2
   dsimp only
   omega
theorem GotP.less {f : Bool} {g : List Int} {l : List TMsg} {z : Int} (h : GotP f g l z) (hl : MsgsP z 0 l) {i : Nat} {m : TMsg} (hm : l[i]? = some m) (hf : ¬ (f = true ∧ 0 < i)) : GotP f (g ++ [m.Seq]) (rmv i l) z := by
 have hi := (List.getElem?_eq_some_iff.1 hm).1
 have hr := rmv_len hi
 have hc := h.cnt
 refine ⟨by rw [List.length_append,List.length_singleton]; omega,fun q hq => ?_,fun x hx q => ?_,fun hf' k x hx => ?_⟩
 ·
  rcases List.mem_append.1 hq with hq | hq
  · exact h.le q hq
  ·
   rw [List.mem_singleton] at hq
   rw [hq]
   exact (msgs_at hl hm).2.1
 ·
  obtain ⟨k,hk,e⟩ := mem_rmv hx
  rcases List.mem_append.1 q with q | q
  · exact h.dj x (List.mem_of_getElem? e) q
  ·
   rw [List.mem_singleton] at q
   exact msgs_ne hl hk e hm q
 ·
  have i0 : i = 0 := by
   rcases Nat.eq_zero_or_pos i with q | q
   · exact q
   · exact absurd ⟨hf',q⟩ hf
  subst i0
  unfold rmv at hx
  rw [List.take_zero,List.nil_append,List.getElem?_drop] at hx
  have := h.ff hf' _ x hx
  rw [List.length_append,List.length_singleton]
  omega
end Go.Proofs.Ytifcbecpemaieaa
