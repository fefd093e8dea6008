/- The law CalmStays, in plain words: true at every input. No condition. -/
import Derived.Test.YtifcbecpemaieaaPqa
import Derived.Test.YtifcbecpemaieaaPpi
import Derived.Test.YtifcbecpemaieaaPpg
import Derived.Test.YtifcbecpemaieaaGdCalmStays
set_option linter.unusedSimpArgs false
set_option linter.unusedVariables false
namespace Go.Proofs.Ytifcbecpemaieaa
open Go.RowKit

theorem sum_pos : ∀ {l : List Int},(∀ x ∈ l,0 ≤ x) → 0 ≤ l.sum
 | [],_ => by simp
 | y :: l,h => by
  have := sum_pos fun x hx => h x (List.mem_cons_of_mem y hx)
  have := h y (by simp)
  rw [List.sum_cons]
  omega
theorem sum_zero : ∀ {l : List Int},(∀ x ∈ l,0 ≤ x) → l.sum = 0 → ∀ x ∈ l,x = 0
 | [],_,_,x,hx => by simp at hx
 | y :: l,h,h0,x,hx => by
  have h1 := h y (by simp)
  have h2 := sum_pos fun x hx => h x (List.mem_cons_of_mem y hx)
  rw [List.sum_cons] at h0
  rcases List.mem_cons.1 hx with r | r
  · omega
  · exact sum_zero (fun x hx => h x (by simp [hx])) (by omega) x r
theorem lnS_zero {l : List (List TMsg)} (h : lnS l = 0) : ∀ x ∈ l,x = [] := fun x hx => by
 have := sum_zero (l := l.map fun x => (x.length : Int)) (fun y hy => by
  obtain ⟨z,_,rfl⟩ := List.mem_map.1 hy
  omega) (show (l.map fun x => (x.length : Int)).sum = 0 from h) _ (List.mem_map.2 ⟨x,hx,rfl⟩)
 exact List.eq_nil_of_length_eq_zero (by omega)
theorem over_stuck {a : TApp} {c : TConf} (h : CRightP a c) (q : overP a c) (s : TStep) : (applyP a c s).2 ≠ 0 := fun e => by
 rcases step_view h e with ⟨n,p,v⟩ | ⟨j,i,n,y,l,b,v⟩
 ·
  have hg := modesL_get a.T 0 c.States n
  have hlt := v.lt
  have hn := List.getElem?_eq_getElem hlt
  rw [hn,Nat.zero_add] at hg
  have hm := v.mode
  rw [hn,Option.getD_some] at hm
  have hmem : mF (stOf a.T (n : Int) c.States[n]).Mode ∈ mo a c := List.mem_of_getElem? hg
  have h0 := q.1 _ hmem
  rw [hm] at h0
  exact absurd h0 (by decide)
 ·
  have := lnS_zero q.2 l (List.mem_of_getElem? v.ms)
  have hm := v.msg
  rw [this] at hm
  simp at hm
theorem way_can {a : TApp} {c : TConf} (h : CRightP a c) (q : lnS c.Links ≠ 0) : 0 < (canP a c).length := by
 refine List.length_pos_of_mem (Classical.choice ?_ : { s // s ∈ canP a c }).2
 refine Classical.byContradiction fun hno => q ?_
 have hall : ∀ x ∈ c.Links,x = [] := fun x hx => by
  obtain ⟨j,hj,e⟩ := List.getElem_of_mem hx
  cases x with
  | nil => rfl
  | cons m r =>
   have el : c.Links[j]? = some (m :: r) := by rw [List.getElem?_eq_getElem hj,e]
   have ok := (del_ok h (i := 0) (m := m) el rfl).2 fun q => by omega
   refine absurd ⟨⟨⟨1,0,0,(j : Nat),m.Seq⟩,?_⟩⟩ hno
   refine List.mem_filter.2 ⟨List.mem_append.2 (.inr ?_),dT ok⟩
   exact List.mem_flatMap.2 ⟨j,List.mem_range.2 hj,by rw [el,Option.getD_some]; exact List.mem_map.2 ⟨m,by simp,rfl⟩⟩
 unfold lnS
 have e0 : c.Links.map (fun x => (x.length : Int)) = List.replicate c.Links.length 0 := by
  refine List.ext_getElem (by simp) fun i h1 h2 => ?_
  rw [List.getElem_map,List.getElem_replicate,hall _ (List.getElem_mem _)]
  rfl
 rw [e0]
 clear e0 hall hno q
 induction c.Links.length with
 | zero => rfl
 | succ n ih => rw [List.replicate_succ,List.sum_cons,ih]; rfl
theorem calmStays_true (a0 : TApp) (a1 : TConf) (a2 : TStep) (w0 : wTApp a0) (w1 : wTConf a1) (w2 : wTStep a2) : L_law14_CalmStays a0 a1 a2 = some true := by
 classical
 unfold L_law14_CalmStays
 rw [law_cutA,Option.bind_some,law_cutC,Option.bind_some]
 have ha := cutA_sz a0
 have hc := cutC_sz a1
 generalize cutA a0 = a at ha
 generalize cutC a1 = c at hc
 rw [law_app ha.t,Option.bind_some,law_conf,Option.bind_some,ref_right5 ha hc,Option.bind_some]
 by_cases hR : CRightP a c
 ·
  rw [if_pos (dT hR),plain_can hR ha,Option.bind_some,calm_over hR hc,Option.bind_some]
  by_cases q : overP a c
  ·
   have h0 : (canP a c).length = 0 := by
    rw [List.length_eq_zero_iff]
    exact List.filter_eq_nil_iff.2 fun s _ e => over_stuck hR q s (of_decide_eq_true e)
   rw [if_pos (dT q),plain_apply hR ha,Option.bind_some,if_pos (by omega),if_neg (over_stuck hR q a2),calm_way hc,Option.bind_some,if_pos q.2,fixed14]
   rfl
  ·
   rw [if_neg (by rw [dF q]; decide)]
   by_cases h0 : lnS c.Links = 0
   ·
    by_cases h1 : ((canP a c).length : Int) > 0
    · rw [if_pos h1,fixed14]; rfl
    · rw [if_neg h1,calm_way hc,Option.bind_some,if_pos h0,fixed14]; rfl
   ·
    have := way_can hR h0
    rw [if_pos (by omega),fixed14]; rfl
 ·
  rw [if_neg (by rw [dF hR]; decide),plain_right ha hc,Option.bind_some,if_neg (by rw [dF hR]; decide),fixed14]
  rfl
end Go.Proofs.Ytifcbecpemaieaa
