/- Plain systems: runs of two parts; where a message lies; how many messages there are; what was delivered. No condition. -/
import Derived.Test.YtabbejabdkkaiaaPph
import Derived.Test.YtabbejabdkkaiaaPpf
set_option linter.unusedSimpArgs false
set_option linter.unusedVariables false
namespace Go.Proofs.Ytabbejabdkkaiaa
open Go.RowKit

section
variable {a : TApp}
end
theorem msgs_at {z : Int} : ∀ {l : List TMsg} {last : Int} {i : Nat} {m : TMsg},MsgsP z last l → l[i]? = some m → last < m.Seq ∧ m.Seq ≤ z ∧ 0 ≤ m.Letter ∧ m.Letter ≤ 3
 | [],_,_,_,_,h => by simp at h
 | x :: l,last,0,m,⟨h1,h2,h3,h4,_⟩,h => by
  rw [List.getElem?_cons_zero] at h
  injection h with h
  subst h
  exact ⟨h1,h2,h3,h4⟩
 | x :: l,last,i + 1,m,⟨h1,h2,h3,h4,h5⟩,h => by
  rw [List.getElem?_cons_succ] at h
  have := msgs_at h5 h
  exact ⟨by omega,this.2⟩
theorem msgs_lt {z : Int} : ∀ {l : List TMsg} {last : Int} {i j : Nat} {m x : TMsg},MsgsP z last l → i < j → l[i]? = some m → l[j]? = some x → m.Seq < x.Seq
 | [],_,_,_,_,_,_,_,h,_ => by simp at h
 | y :: l,last,i,0,m,x,_,h,_,_ => by omega
 | y :: l,last,0,j + 1,m,x,⟨_,_,_,_,h5⟩,_,h1,h2 => by
  rw [List.getElem?_cons_zero] at h1
  injection h1 with h1
  subst h1
  rw [List.getElem?_cons_succ] at h2
  exact (msgs_at h5 h2).1
 | y :: l,last,i + 1,j + 1,m,x,⟨_,_,_,_,h5⟩,h,h1,h2 => by
  rw [List.getElem?_cons_succ] at h1 h2
  exact msgs_lt h5 (by omega) h1 h2
theorem msgs_ne {z last : Int} {l : List TMsg} {i j : Nat} {m x : TMsg} (h : MsgsP z last l) (hn : i ≠ j) (h1 : l[i]? = some m) (h2 : l[j]? = some x) : m.Seq ≠ x.Seq := by
 rcases Nat.lt_or_ge i j with q | q
 ·
  have := msgs_lt h q h1 h2
  omega
 ·
  have := msgs_lt h (show j < i by omega) h2 h1
  omega
theorem mem_rmv {α : Type} {i : Nat} {l : List α} {x : α} (h : x ∈ rmv i l) : ∃ k,k ≠ i ∧ l[k]? = some x := by
 unfold rmv at h
 rcases List.mem_append.1 h with h | h
 ·
  obtain ⟨k,hk,e⟩ := List.getElem_of_mem h
  rw [List.length_take] at hk
  rw [List.getElem_take] at e
  exact ⟨k,by omega,by rw [List.getElem?_eq_getElem (by omega),e]⟩
 ·
  obtain ⟨k,hk,e⟩ := List.getElem_of_mem h
  rw [List.length_drop] at hk
  rw [List.getElem_drop] at e
  exact ⟨i + 1 + k,by omega,by rw [List.getElem?_eq_getElem (by omega),e]⟩
theorem rmv_len {α : Type} {i : Nat} {l : List α} (h : i < l.length) : (rmv i l).length + 1 = l.length := by
 unfold rmv
 rw [List.length_append,List.length_take,List.length_drop]
 omega
section
variable {a : TApp} {c d : TConf} {s : TStep}
theorem CRightP.at_link (h : CRightP a c) {j : Nat} (hj : j < a.G.Links.length) : ∃ l z,c.Links[j]? = some l ∧ c.Sent[j]? = some z ∧ LinkP z l := by
 have h1 := h.nli
 have h2 := h.nse
 have e1 := List.getElem?_eq_getElem (l := c.Links) (i := j) (by omega)
 have e2 := List.getElem?_eq_getElem (l := c.Sent) (i := j) (by omega)
 exact ⟨_,_,e1,e2,h.lnk j _ _ e1 e2⟩
end
structure GotP (f : Bool) (g : List Int) (l : List TMsg) (z : Int) : Prop where
 cnt : z - (g.length : Int) = (l.length : Int)
 le : ∀ q ∈ g,q ≤ z
 dj : ∀ m ∈ l,m.Seq ∉ g
 ff : f = true → ∀ (i : Nat) (m : TMsg),l[i]? = some m → m.Seq = (g.length : Int) + 1 + i
theorem GotP.more {f : Bool} {g : List Int} {l : List TMsg} {z : Int} (h : GotP f g l z) (b : Int) : GotP f g (l ++ [⟨z + 1,b⟩]) (z + 1) := by
 have hc := h.cnt
 refine ⟨by rw [List.length_append,List.length_singleton]; omega,fun q hq => by have := h.le q hq; omega,fun m hm => ?_,fun hf i m hm => ?_⟩
 ·
  rcases List.mem_append.1 hm with hm | hm
  · exact h.dj m hm
  ·
   rw [List.mem_singleton] at hm
   subst hm
   intro q
   have := h.le _ q
   dsimp only at this
   omega
 ·
  rcases Nat.lt_or_ge i l.length with q | q
  ·
   rw [List.getElem?_append_left q] at hm
   exact h.ff hf i m hm
  ·
   rw [List.getElem?_append_right q] at hm
   obtain ⟨e1,e2⟩ := List.getElem?_eq_some_iff.1 hm
   rw [List.length_singleton] at e1
   have e3 : i = l.length := by omega
   subst e3
   simp at e2
   subst e2
   dsimp only
   omega
theorem GotP.less {f : Bool} {g : List Int} {l : List TMsg} {z : Int} (h : GotP f g l z) (hl : MsgsP z 0 l) {i : Nat} {m : TMsg} (hm : l[i]? = some m) (hf : ¬ (f = true ∧ 0 < i)) : GotP f (g ++ [m.Seq]) (rmv i l) z := by
 have hi := (List.getElem?_eq_some_iff.1 hm).1
 have hr := rmv_len hi
 have hc := h.cnt
 refine ⟨by rw [List.length_append,List.length_singleton]; omega,fun q hq => ?_,fun x hx q => ?_,fun hf' k x hx => ?_⟩
 ·
  rcases List.mem_append.1 hq with hq | hq
  · exact h.le q hq
  ·
   rw [List.mem_singleton] at hq
   rw [hq]
   exact (msgs_at hl hm).2.1
 ·
  obtain ⟨k,hk,e⟩ := mem_rmv hx
  rcases List.mem_append.1 q with q | q
  · exact h.dj x (List.mem_of_getElem? e) q
  ·
   rw [List.mem_singleton] at q
   exact msgs_ne hl hk e hm q
 ·
  have i0 : i = 0 := by
   rcases Nat.eq_zero_or_pos i with q | q
   · exact q
   · exact absurd ⟨hf',q⟩ hf
  subst i0
  unfold rmv at hx
  rw [List.take_zero,List.nil_append,List.getElem?_drop] at hx
  have := h.ff hf' _ x hx
  rw [List.length_append,List.length_singleton]
  omega
end Go.Proofs.Ytabbejabdkkaiaa
