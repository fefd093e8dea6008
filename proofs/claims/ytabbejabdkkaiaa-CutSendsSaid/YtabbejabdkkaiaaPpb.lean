/- Plain systems: a pick, a delivery, a step: the program's, and the document's. No condition. -/
import Derived.Test.YtabbejabdkkaiaaPpa
import Derived.Test.YtabbejabdkkaiaaPka
set_option linter.unusedSimpArgs false
set_option linter.unusedVariables false
namespace Go.Proofs.Ytabbejabdkkaiaa
open Go.RowKit

def noC : TConf := ⟨[],[],[]⟩
def sendAll (g : TGraph) (n : Int) : List TSend → List (List TMsg) → List Int → Option (List (List TMsg) × List Int)
 | [],l,z => some (l,z)
 | x :: r,l,z => if (z[(find g n x.To).toNat]?).getD 0 ≥ 500 then none else
   sendAll g n r (l.set (find g n x.To).toNat ((l[(find g n x.To).toNat]?).getD [] ++ [⟨(z[(find g n x.To).toNat]?).getD 0 + 1,x.Letter⟩])) (z.set (find g n x.To).toNat ((z[(find g n x.To).toNat]?).getD 0 + 1))
def sentP (c : TConf) (n next : Int) : Option (List (List TMsg) × List Int) → TConf × Int
 | none => (noC,2)
 | some q => (⟨c.States.set n.toNat next,q.1,q.2⟩,0)
structure SI (N k : Nat) (s : List (List TMsg) × List Int) : Prop where
 l1 : s.1.length = N
 l2 : s.2.length = N
 ms : ∀ m ∈ s.1,m.length ≤ 1000 + k
 zs : ∀ v ∈ s.2,0 ≤ v ∧ v ≤ 500
theorem SI.next {N k j : Nat} {s : List (List TMsg) × List Int} (h : SI N k s) (hj : j < N) (h1 : j < s.1.length) (h2 : j < s.2.length) (hz : s.2[j] < 500) (b : Int) : SI N (k + 1) (s.1.set j (s.1[j] ++ [⟨s.2[j] + 1,b⟩]),s.2.set j (s.2[j] + 1)) := by
 refine ⟨by rw [List.length_set]; exact h.l1,by rw [List.length_set]; exact h.l2,fun m hm => ?_,fun v hv => ?_⟩
 ·
  rcases List.mem_or_eq_of_mem_set hm with hm | hm
  · have := h.ms m hm; omega
  ·
   subst hm
   have := h.ms _ (List.getElem_mem h1)
   rw [List.length_append,List.length_singleton]; omega
 ·
  rcases List.mem_or_eq_of_mem_set hv with hv | hv
  · exact h.zs v hv
  ·
   subst hv
   have := h.zs _ (List.getElem_mem h2)
   omega
theorem plain_pick_l1 {a : TApp} {c : TConf} {s : TStep} {r : TPick × Bool} (hg : a.G.Links.length ≤ 40) (hs : r.1.Sends.length ≤ 100) (hf : ∀ x ∈ r.1.Sends,0 ≤ find a.G s.Node x.To) (l : List (List TMsg)) (z : List Int) (h0 : SI a.G.Links.length 0 (l,z)) :
  L_plain_App_pick_l1 a s r c (((r.1.Sends.length : Int) - 0).toNat + 1) 0 l z = some (sentP c s.Node r.1.Next (sendAll a.G s.Node r.1.Sends l z)) := by
 have q := loopI (F := fun nf k (t : List (List TMsg) × List Int) => L_plain_App_pick_l1 a s r c nf k t.1 t.2) (len := r.1.Sends.length) (fun k t => SI a.G.Links.length k t) (fun k t => some (sentP c s.Node r.1.Next (sendAll a.G s.Node (r.1.Sends.drop k) t.1 t.2)))
  (fun nf t ht => by
   rw [L_plain_App_pick_l1,if_neg (by omega),List.drop_length]
   rfl)
  (fun nf k t hk ht ih => by
   obtain ⟨j,hj1,hj2,_⟩ := find_lt (hf _ (List.getElem_mem hk))
   have hl1 : j < t.1.length := by rw [ht.l1]; exact hj2
   have hl2 : j < t.2.length := by rw [ht.l2]; exact hj2
   have hz := ht.zs _ (List.getElem_mem hl2)
   have hm := ht.ms _ (List.getElem_mem hl1)
   rw [L_plain_App_pick_l1,if_pos (by omega),at_get hk,Option.bind_some,graph_find _ _ (by omega),Option.bind_some,hj1,at_get hl2,Option.bind_some,wr_succ (show k < 9223372036854775807 by omega),List.drop_eq_getElem_cons hk,sendAll,hj1]
   simp only [Int.toNat_natCast]
   rw [List.getElem?_eq_getElem hl2,List.getElem?_eq_getElem hl1,Option.getD_some,Option.getD_some]
   by_cases e : t.2[j] ≥ 500
   ·
    rw [if_pos e,if_pos e]
    rfl
   ·
    rw [if_neg e,if_neg e,at_get hl1,Option.bind_some,Option.bind_some,wr (by omega) (by omega),at_get (show j < (t.2.set j (t.2[j] + 1)).length by rw [List.length_set]; exact hl2),Option.bind_some,List.getElem_set_self,if_pos (by omega)]
    exact ih (_,_) (ht.next hj2 hl1 hl2 (by omega) _))
  r.1.Sends.length (((r.1.Sends.length : Int) - 0).toNat + 1) 0 (l,z) (by omega) (by omega) h0
 exact q
theorem ref_pick_l1 {a : TApp} {c : TConf} {s : TStep} {r : TPick × Bool} (hg : a.G.Links.length ≤ 40) (hs : r.1.Sends.length ≤ 100) (hf : ∀ x ∈ r.1.Sends,0 ≤ find a.G s.Node x.To) (l : List (List TMsg)) (z : List Int) (h0 : SI a.G.Links.length 0 (l,z)) :
  L_ref05_pick_l1 a s r c (((r.1.Sends.length : Int) - 0).toNat + 1) 0 l z = some (sentP c s.Node r.1.Next (sendAll a.G s.Node r.1.Sends l z)) := by
 have q := loopI (F := fun nf k (t : List (List TMsg) × List Int) => L_ref05_pick_l1 a s r c nf k t.1 t.2) (len := r.1.Sends.length) (fun k t => SI a.G.Links.length k t) (fun k t => some (sentP c s.Node r.1.Next (sendAll a.G s.Node (r.1.Sends.drop k) t.1 t.2)))
  (fun nf t ht => by
   rw [L_ref05_pick_l1,if_neg (by omega),List.drop_length]
   rfl)
  (fun nf k t hk ht ih => by
   obtain ⟨j,hj1,hj2,_⟩ := find_lt (hf _ (List.getElem_mem hk))
   have hl1 : j < t.1.length := by rw [ht.l1]; exact hj2
   have hl2 : j < t.2.length := by rw [ht.l2]; exact hj2
   have hz := ht.zs _ (List.getElem_mem hl2)
   have hm := ht.ms _ (List.getElem_mem hl1)
   rw [L_ref05_pick_l1,if_pos (by omega),at_get hk,Option.bind_some,ref_find _ _ (by omega),Option.bind_some,hj1,at_get hl2,Option.bind_some,at_get hl1,Option.bind_some,Option.bind_some,wr (n := t.2[j] + 1) (by omega) (by omega),wr_succ (show k < 9223372036854775807 by omega),List.drop_eq_getElem_cons hk,sendAll,hj1]
   simp only [Int.toNat_natCast]
   rw [List.getElem?_eq_getElem hl2,List.getElem?_eq_getElem hl1,Option.getD_some,Option.getD_some,at_get (show j < (t.2.set j (t.2[j] + 1)).length by rw [List.length_set]; exact hl2),Option.bind_some,List.getElem_set_self,if_pos (by omega)]
   by_cases e : t.2[j] ≥ 500
   ·
    rw [if_pos (by omega),if_pos e]
    rfl
   ·
    rw [if_neg (by omega),if_neg e]
    exact ih (_,_) (ht.next hj2 hl1 hl2 (by omega) _))
  r.1.Sends.length (((r.1.Sends.length : Int) - 0).toNat + 1) 0 (l,z) (by omega) (by omega) h0
 exact q
def pickP (a : TApp) (c : TConf) (s : TStep) : TConf × Int :=
 if s.Node < 0 ∨ s.Node ≥ a.G.N then (noC,1) else
 if (stOf a.T s.Node ((c.States[s.Node.toNat]?).getD 0)).Mode = 1 then
  match pickOf (stOf a.T s.Node ((c.States[s.Node.toNat]?).getD 0)) s.K with
  | none => (noC,3)
  | some p => sentP c s.Node p.Next (sendAll a.G s.Node p.Sends c.Links c.Sent)
 else (noC,8)
theorem CRightP.si {a : TApp} {c : TConf} (h : CRightP a c) (ha : SzA a) : SI a.G.Links.length 0 (c.Links,c.Sent) := by
 have hc := h.sz ha
 refine ⟨h.nli,h.nse,fun m hm => by have := hc.ms m hm; omega,fun v hv => ?_⟩
 obtain ⟨j,hj,rfl⟩ := List.getElem_of_mem hv
 have hj2 : j < c.Links.length := by have := h.nli; have := h.nse; dsimp only at hj; omega
 obtain ⟨q1,q2,_⟩ := h.lnk j _ _ (List.getElem?_eq_getElem hj2) (List.getElem?_eq_getElem hj)
 exact ⟨q1,q2⟩
theorem CRightP.sends {a : TApp} {c : TConf} (h : CRightP a c) (ha : SzA a) {n : Nat} (hn : n < c.States.length) {k : Int} {p : TPick} (hm : (stOf a.T n ((c.States[n]?).getD 0)).Mode = 1) (hp : pickOf (stOf a.T n ((c.States[n]?).getD 0)) k = some p) : p.Sends.length ≤ 100 ∧ (∀ x ∈ p.Sends,0 ≤ find a.G n x.To) ∧ 0 ≤ p.Next ∧ ∀ x : TNode,a.T[n]? = some x → p.Next < (x.States.length : Int) := by
 have hT : n < a.T.length := by have := h.nst; have := h.tab.2.1; omega
 obtain ⟨h0,h1⟩ := h.sts n _ (List.getElem?_eq_getElem hn)
 have h2 := h1 _ (List.getElem?_eq_getElem hT)
 have hs : c.States[n].toNat < a.T[n].States.length := by omega
 have e : stOf a.T n ((c.States[n]?).getD 0) = a.T[n].States[c.States[n].toNat] := by
  rw [List.getElem?_eq_getElem hn,Option.getD_some]
  have := stOf_at (l := a.T) (n := n) (s := c.States[n].toNat) (List.getElem?_eq_getElem hT) hs
  rwa [Int.toNat_of_nonneg h0] at this
 have hst := (h.tab.2.2 n _ (List.getElem?_eq_getElem hT)).2.2.2.2 _ (List.getElem_mem hs)
 have hz := ((ha.t).2 _ (List.getElem_mem hT)).2 _ (List.getElem_mem hs)
 rw [e] at hm hp
 generalize a.T[n].States[c.States[n].toNat] = st at hst hz hm hp
 unfold pickOf at hp
 split at hp
 ·
  obtain ⟨p1,p2,p3,p4⟩ := hst.2.2.2.1.2.2 p (List.mem_of_getElem? hp)
  refine ⟨by omega,fun x hx => (p4 x hx).1,p1,fun x hx => ?_⟩
  rw [List.getElem?_eq_getElem hT] at hx
  injection hx with hx
  rw [← hx]
  exact p2
 · cases hp
theorem ref_picked (l : List TNode) (n s k : Int) : L_ref04_Picked l n s k = some ((pickOf (stOf l n s) k).getD ⟨0,[]⟩,(pickOf (stOf l n s) k).isSome) := by
 unfold L_ref04_Picked pickOf
 rw [ref_at,Option.bind_some]
 generalize stOf l n s = st
 by_cases c1 : k < 0
 ·
  rw [if_pos c1,Option.bind_some,if_pos rfl,if_neg (by omega)]
  rfl
 ·
  rw [if_neg c1,Option.bind_some,if_pos (show 0 ≤ k by omega)]
  by_cases c2 : k ≥ (st.Picks.length : Int)
  ·
   rw [if_pos (dT c2),List.getElem?_eq_none (by omega)]
   rfl
  ·
   have hk : k.toNat < st.Picks.length := by omega
   rw [if_neg (by rw [dF c2]; decide),at_lt (by omega) (by omega),Option.bind_some,List.getElem?_eq_getElem hk]
   rfl
theorem plain_pick {a : TApp} {c : TConf} (h : CRightP a c) (ha : SzA a) (s : TStep) : L_plain_App_pick a c s = some (pickP a c s) := by
 have hN := h.nst
 have hc := h.sz ha
 unfold L_plain_App_pick pickP
 rw [borf]
 by_cases c1 : s.Node < 0 ∨ s.Node ≥ a.G.N
 ·
  rw [if_pos (dT c1),if_pos c1]
  rfl
 ·
  have hn : s.Node.toNat < c.States.length := by omega
  have en : ((s.Node.toNat : Nat) : Int) = s.Node := by omega
  rw [if_neg (by rw [dF c1]; decide),if_neg c1,at_lt (by omega) (by omega),Option.bind_some,table_mode,Option.bind_some,List.getElem?_eq_getElem hn,Option.getD_some]
  by_cases c2 : (stOf a.T s.Node c.States[s.Node.toNat]).Mode = 1
  ·
   rw [if_pos c2,if_pos c2,table_picked ha.t,Option.bind_some]
   cases hp : pickOf (stOf a.T s.Node c.States[s.Node.toNat]) s.K with
   | none => rfl
   | some p =>
    have q := h.sends ha hn (k := s.K) (p := p) (by rw [en,List.getElem?_eq_getElem hn]; exact c2) (by rw [en,List.getElem?_eq_getElem hn]; exact hp)
    rw [en] at q
    simp only [Option.getD_some,Option.isSome_some]
    rw [if_pos trivial,plain_own hc,Option.bind_some,at_lt (by omega) (by omega),Option.bind_some]
    exact plain_pick_l1 (r := (p,true)) ha.g q.1 q.2.1 _ _ (h.si ha)
  ·
   rw [if_neg c2,if_neg c2]
   rfl
theorem ref_pick {a : TApp} {c : TConf} (h : CRightP a c) (ha : SzA a) (s : TStep) : L_ref05_pick a c s = some (pickP a c s) := by
 have hN := h.nst
 have hc := h.sz ha
 unfold L_ref05_pick pickP
 rw [borf]
 by_cases c1 : s.Node < 0 ∨ s.Node ≥ a.G.N
 ·
  rw [if_pos (dT c1),if_pos c1]
  rfl
 ·
  have hn : s.Node.toNat < c.States.length := by omega
  have en : ((s.Node.toNat : Nat) : Int) = s.Node := by omega
  rw [if_neg (by rw [dF c1]; decide),if_neg c1,at_lt (by omega) (by omega),Option.bind_some,ref_at,Option.bind_some,List.getElem?_eq_getElem hn,Option.getD_some]
  by_cases c2 : (stOf a.T s.Node c.States[s.Node.toNat]).Mode = 1
  ·
   rw [if_pos c2,if_pos c2,ref_picked,Option.bind_some]
   cases hp : pickOf (stOf a.T s.Node c.States[s.Node.toNat]) s.K with
   | none => rfl
   | some p =>
    have q := h.sends ha hn (k := s.K) (p := p) (by rw [en,List.getElem?_eq_getElem hn]; exact c2) (by rw [en,List.getElem?_eq_getElem hn]; exact hp)
    rw [en] at q
    simp only [Option.getD_some,Option.isSome_some]
    rw [if_pos trivial,ref_own hc,Option.bind_some,at_lt (by omega) (by omega),Option.bind_some]
    exact ref_pick_l1 (r := (p,true)) ha.g q.1 q.2.1 _ _ (h.si ha)
  ·
   rw [if_neg c2,if_neg c2]
   rfl
end Go.Proofs.Ytabbejabdkkaiaa
