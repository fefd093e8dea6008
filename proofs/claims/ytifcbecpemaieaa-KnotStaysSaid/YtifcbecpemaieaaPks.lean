/- Edges that stay: what waits for what waits goes on waiting, whatever is done. No condition. -/
import Derived.Test.YtifcbecpemaieaaPkd
import Derived.Test.YtifcbecpemaieaaPph
set_option linter.unusedSimpArgs false
set_option linter.unusedVariables false
namespace Go.Proofs.Ytifcbecpemaieaa
open Go.RowKit

section
variable {a : TApp} {c d : TConf} {s : TStep}
theorem edge_of {n w j : Nat} (hn : n < d.States.length) (hw : (w : Int) ∈ waitsAt a d n) (hf : find a.G w n = (j : Int)) (hl : d.Links[j]? = some []) : edgeB a d n w = true := by
 have e0 : decide (0 ≤ (j : Int)) = true := dT (by omega)
 rw [edge_nat hn,dT hw,Bool.true_and]
 unfold freeB
 rw [hf,Int.toNat_natCast,hl,e0]
 rfl
theorem edge_step (h : CRightP a c) (ha : SzA a) (he : (applyP a c s).2 = 0) {x y v : Int} (hxy : edgeB a c x y = true) (hyv : edgeB a c y v = true) : edgeB a (applyP a c s).1 x y = true := by
 obtain ⟨n,w,e1,e2,e3,e4,e5,e6⟩ := h.edge ha hxy
 obtain ⟨w',_,e2',_,e3',_,e5',_⟩ := h.edge ha hyv
 obtain rfl : w' = w := by omega
 subst e1 e2
 have hm1 := (h.waits ha e3).mode (List.ne_nil_of_mem e5)
 have hm2 := (h.waits ha e3').mode (List.ne_nil_of_mem e5')
 have hf := (h.waits ha e3).fnd _ e5
 obtain ⟨j0,f1,f2,f3⟩ := find_lt hf
 have f4 : c.Links[j0]? = some [] := by
  unfold freeB at e6
  rw [f1,Int.toNat_natCast,Bool.and_eq_true] at e6
  have := e6.2
  unfold isE at this
  split at this
  · assumption
  · cases this
 rcases step_view h he with ⟨m,p,q⟩ | ⟨j,i,m,y,l,b,q⟩
 ·
  have ne1 : m ≠ n := fun e => by
   have := q.mode
   rw [e,hm1] at this
   omega
  have ne2 : m ≠ w' := fun e => by
   have := q.mode
   rw [e,hm2] at this
   omega
  refine edge_of (by rw [q.st,List.length_set]; exact e3) ?_ f1 ?_
  ·
   have : waitsAt a (applyP a c s).1 n = waitsAt a c n := by
    unfold waitsAt
    rw [q.st,List.getElem?_set_ne ne1]
   rw [this]
   exact e5
  ·
   rw [(sendAll_other f3 (by omega) (q.finds h ha) q.send).1]
   exact f4
 ·
  have nej : j ≠ j0 := fun e => by
   have h1 := q.ms
   rw [e,f4] at h1
   injection h1 with h1
   have h2 := q.msg
   rw [← h1] at h2
   simp at h2
  refine edge_of (by rw [q.st,List.length_set]; exact e3) ?_ f1 (by rw [q.li,List.getElem?_set_ne nej]; exact f4)
  by_cases e : m = n
  ·
   subst e
   obtain ⟨x,k,hx,ek,hk,hnode,est⟩ := h.node q.lt
   have hc := List.getElem?_eq_getElem q.lt
   obtain ⟨k',g1,g2,g3⟩ := hnode.taken hk y b.Letter
   have hst : waitsAt a c m = x.States[k].Waits := by unfold waitsAt; rw [hc,Option.getD_some,est]
   rw [hst] at e5
   have hd : waitsAt a (applyP a c s).1 m = x.States[k'].Waits := by
    unfold waitsAt
    rw [q.st,List.getElem?_set_self q.lt,Option.getD_some,hc,Option.getD_some,est,ek,g1,stOf_at hx g2]
   rw [hd]
   rcases g3 with ⟨rfl,_⟩ | ⟨t,_,_,_,_,_,hs',hkept⟩
   · exact e5
   ·
    refine (hkept _ e5 fun e => ?_).2
    have h1 := q.ends
    rw [← e] at h1
    exact nej (nodup_get ((C1_iff.1 h.tab.1.2.2.2.1).2) h1 f3)
  ·
   have : waitsAt a (applyP a c s).1 n = waitsAt a c n := by
    unfold waitsAt
    rw [q.st,List.getElem?_set_ne e]
   rw [this]
   exact e5
theorem held_step (h : CRightP a c) (ha : SzA a) (he : (applyP a c s).2 = 0) {l : List Int} (q : heldP a c l) : heldP a (applyP a c s).1 l := by
 refine ⟨q.1,fun n hn => ?_⟩
 obtain ⟨m,hm,e1⟩ := q.2 n hn
 obtain ⟨k,_,e2⟩ := q.2 m hm
 exact ⟨m,hm,edge_step h ha he e1 e2⟩
theorem ring_step (h : CRightP a c) (ha : SzA a) (he : (applyP a c s).2 = 0) {l : List Int} (q : ringP a c l) : ringP a (applyP a c s).1 l := by
 rw [ring_iff] at q ⊢
 refine ⟨q.1,q.2.1,fun i hi => ?_⟩
 exact edge_step h ha he (q.2.2 i hi) (q.2.2 ((i + 1) % l.length) (Nat.mod_lt _ (by omega)))
theorem tg_step (h : CRightP a c) (ha : SzA a) (he : (applyP a c s).2 = 0) {i j : Nat} (q : Relation.TransGen (EP a c) i j) : (∃ v : Int,edgeB a c j v = true) → Relation.TransGen (EP a (applyP a c s).1) i j := by
 induction q with
 | single e => exact fun ⟨v,hv⟩ => .single (edge_step h ha he e hv)
 | tail e1 e2 ih => exact fun ⟨v,hv⟩ => .tail (ih ⟨_,e2⟩) (edge_step h ha he e2 hv)
open Classical in
theorem knot_step (h : CRightP a c) (ha : SzA a) (he : (applyP a c s).2 = 0) {x : Int} (hx : x ∈ knotOf a c) : x ∈ knotOf a (applyP a c s).1 := by
 unfold knotOf at hx ⊢
 obtain ⟨n,hn,rfl⟩ := List.mem_map.1 hx
 obtain ⟨h1,h2⟩ := List.mem_filter.1 hn
 have h3 := of_decide_eq_true h2
 obtain ⟨m,h4,_⟩ := tg_first h3
 have h5 := tg_step h ha he h3 ⟨_,h4⟩
 have h6 := (apply_right h ha he).nst
 have h7 := h.nst
 exact List.mem_map.2 ⟨n,List.mem_filter.2 ⟨List.mem_range.2 (by have := List.mem_range.1 h1; omega),dT h5⟩,rfl⟩
end
end Go.Proofs.Ytifcbecpemaieaa
