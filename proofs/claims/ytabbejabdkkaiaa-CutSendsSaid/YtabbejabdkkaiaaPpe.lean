/- Plain systems: a step that can be done leads to what may be. No condition. -/
import Derived.Test.YtabbejabdkkaiaaPpd
set_option linter.unusedSimpArgs false
set_option linter.unusedVariables false
namespace Go.Proofs.Ytabbejabdkkaiaa
open Go.RowKit

def LI (g : TGraph) (l : List (List TMsg)) (z : List Int) : Prop := l.length = g.Links.length ∧ z.length = g.Links.length ∧ ∀ (j : Nat) (ms : List TMsg) (y : Int),l[j]? = some ms → z[j]? = some y → LinkP y ms
theorem sendAll_right {g : TGraph} {n : Int} : ∀ {r : List TSend} {l l' : List (List TMsg)} {z z' : List Int},(∀ x ∈ r,SendP g n x) → LI g l z → sendAll g n r l z = some (l',z') → LI g l' z'
 | [],l,l',z,z',_,h,e => by
  injection e with e
  injection e with e1 e2
  subst e1 e2
  exact h
 | x :: r,l,l',z,z',hr,⟨h1,h2,h3⟩,e => by
  obtain ⟨s1,s2,s3⟩ := hr x (by simp)
  obtain ⟨j,hj1,hj2,_⟩ := find_lt s1
  have hl : j < l.length := by omega
  have hz : j < z.length := by omega
  rw [sendAll,hj1] at e
  simp only [Int.toNat_natCast] at e
  rw [List.getElem?_eq_getElem hl,List.getElem?_eq_getElem hz,Option.getD_some,Option.getD_some] at e
  split at e
  · cases e
  ·
   rename_i c
   refine sendAll_right (fun y hy => hr y (by simp [hy])) ⟨by rw [List.length_set]; exact h1,by rw [List.length_set]; exact h2,fun i ms y hm hy => ?_⟩ e
   rw [List.getElem?_set] at hm hy
   by_cases q : j = i
   ·
    subst q
    rw [if_pos rfl,if_pos hl] at hm
    rw [if_pos rfl,if_pos hz] at hy
    injection hm with hm
    injection hy with hy
    subst hm hy
    obtain ⟨q1,q2,q3⟩ := h3 j _ _ (List.getElem?_eq_getElem hl) (List.getElem?_eq_getElem hz)
    exact ⟨by omega,by omega,msgs_more ⟨s2,s3⟩ q3 q1⟩
   ·
    rw [if_neg q] at hm hy
    exact h3 i ms y hm hy
theorem CRightP.li {a : TApp} {c : TConf} (h : CRightP a c) : LI a.G c.Links c.Sent := ⟨h.nli,h.nse,h.lnk⟩
theorem CRightP.with {a : TApp} {c : TConf} (h : CRightP a c) {n : Nat} (hn : n < c.States.length) {s : Int} (hs : 0 ≤ s) (hs2 : ∀ x : TNode,a.T[n]? = some x → s < (x.States.length : Int)) {l : List (List TMsg)} {z : List Int} (hl : LI a.G l z) : CRightP a ⟨c.States.set n s,l,z⟩ := by
 refine ⟨h.tab,by dsimp only; rw [List.length_set]; exact h.nst,hl.1,hl.2.1,fun k t hk => ?_,hl.2.2⟩
 dsimp only at hk
 rw [List.getElem?_set] at hk
 by_cases q : n = k
 ·
  subst q
  rw [if_pos rfl,if_pos hn] at hk
  injection hk with hk
  subst hk
  exact ⟨hs,hs2⟩
 ·
  rw [if_neg q] at hk
  exact h.sts k t hk
theorem CRightP.node {a : TApp} {c : TConf} (h : CRightP a c) {n : Nat} (hn : n < c.States.length) : ∃ (x : TNode) (s : Nat),a.T[n]? = some x ∧ c.States[n] = (s : Int) ∧ ∃ hs : s < x.States.length,NodeP a.G n x ∧ stOf a.T n c.States[n] = x.States[s] := by
 have hT : n < a.T.length := by have := h.nst; have := h.tab.2.1; omega
 obtain ⟨h0,h1⟩ := h.sts n _ (List.getElem?_eq_getElem hn)
 have h2 := h1 _ (List.getElem?_eq_getElem hT)
 have e : c.States[n] = ((c.States[n].toNat : Nat) : Int) := by omega
 have hs : c.States[n].toNat < a.T[n].States.length := by omega
 refine ⟨a.T[n],c.States[n].toNat,List.getElem?_eq_getElem hT,e,hs,h.tab.2.2 n _ (List.getElem?_eq_getElem hT),?_⟩
 have := stOf_at (l := a.T) (n := n) (s := c.States[n].toNat) (List.getElem?_eq_getElem hT) hs
 rwa [← e] at this
theorem deliver_right {a : TApp} {c : TConf} (h : CRightP a c) (ha : SzA a) {s : TStep} (he : (deliverP a c s).2 = 0) : CRightP a (deliverP a c s).1 := by
 have hN := h.nst
 have hli := h.nli
 unfold deliverP at he ⊢
 by_cases c1 : s.Link < 0 ∨ s.Link ≥ (a.G.Links.length : Int)
 · rw [if_pos c1] at he; cases he
 ·
  obtain ⟨j,ej⟩ : ∃ j : Nat,s.Link = j := ⟨s.Link.toNat,by omega⟩
  have hj : j < c.Links.length := by omega
  have hjg : j < a.G.Links.length := by omega
  have hgood := h.tab.1.link (List.getElem_mem hjg)
  rw [if_neg c1] at he ⊢
  simp only [ej,Int.toNat_natCast] at he ⊢
  rw [List.getElem?_eq_getElem hj,List.getElem?_eq_getElem hjg,Option.getD_some,Option.getD_some] at he ⊢
  cases hp : placeP c.Links[j] s.Seq with
  | none => rw [hp] at he; cases he
  | some i =>
   rw [hp] at he
   dsimp only at he ⊢
   by_cases c2 : a.Fifo = true ∧ 0 < i
   · rw [if_pos c2] at he; cases he
   ·
    rw [if_neg c2]
    obtain ⟨n,en⟩ : ∃ n : Nat,a.G.Links[j].a1 = n := ⟨a.G.Links[j].a1.toNat,by have := hgood.2.2.1; omega⟩
    have hn : n < c.States.length := by have := hgood.2.2.2.1; omega
    obtain ⟨x,k,hx,ek,hk,hnode,est⟩ := h.node hn
    unfold doneP
    rw [en,Int.toNat_natCast,List.getElem?_eq_getElem hn,Option.getD_some,est]
    obtain ⟨k',e1,e2,_⟩ := hnode.taken hk a.G.Links[j].a0 ((c.Links[j][i]?).getD ⟨0,0⟩).Letter
    rw [ek,e1]
    refine h.with hn (by omega) (fun y hy => by rw [hx] at hy; injection hy with hy; rw [← hy]; omega) ⟨by rw [List.length_set]; exact hli,h.nse,fun i2 ms y hm hy => ?_⟩
    rw [List.getElem?_set] at hm
    by_cases q : j = i2
    ·
     subst q
     rw [if_pos rfl,if_pos hj] at hm
     injection hm with hm
     subst hm
     obtain ⟨q1,q2,q3⟩ := h.lnk j _ y (List.getElem?_eq_getElem hj) hy
     exact ⟨q1,q2,msgs_less i q3⟩
    ·
     rw [if_neg q] at hm
     exact h.lnk i2 ms y hm hy
theorem pick_right {a : TApp} {c : TConf} (h : CRightP a c) (ha : SzA a) {s : TStep} (he : (pickP a c s).2 = 0) : CRightP a (pickP a c s).1 := by
 have hN := h.nst
 unfold pickP at he ⊢
 by_cases c1 : s.Node < 0 ∨ s.Node ≥ a.G.N
 · rw [if_pos c1] at he; cases he
 ·
  obtain ⟨n,en⟩ : ∃ n : Nat,s.Node = n := ⟨s.Node.toNat,by omega⟩
  have hn : n < c.States.length := by omega
  obtain ⟨x,k,hx,ek,hk,hnode,est⟩ := h.node hn
  rw [if_neg c1] at he ⊢
  rw [en,Int.toNat_natCast,List.getElem?_eq_getElem hn,Option.getD_some,est] at he ⊢
  by_cases c2 : x.States[k].Mode = 1
  ·
   rw [if_pos c2] at he ⊢
   cases hp : pickOf x.States[k] s.K with
   | none => rw [hp] at he; cases he
   | some p =>
    rw [hp] at he
    dsimp only at he ⊢
    have hpm : p ∈ x.States[k].Picks := by
     unfold pickOf at hp
     split at hp
     · exact List.mem_of_getElem? hp
     · cases hp
    obtain ⟨p1,p2,p3,p4⟩ := (hnode.2.2.2.2 _ (List.getElem_mem hk)).2.2.2.1.2.2 p hpm
    cases hq : sendAll a.G n p.Sends c.Links c.Sent with
    | none => rw [hq] at he; cases he
    | some r =>
     unfold sentP
     dsimp only
     rw [Int.toNat_natCast]
     exact h.with hn p1 (fun y hy => by rw [hx] at hy; injection hy with hy; rw [← hy]; exact p2) (sendAll_right p4 h.li hq)
  · rw [if_neg c2] at he; cases he
theorem apply_right {a : TApp} {c : TConf} (h : CRightP a c) (ha : SzA a) {s : TStep} (he : (applyP a c s).2 = 0) : CRightP a (applyP a c s).1 := by
 unfold applyP at he ⊢
 split at he
 ·
  rename_i e
  rw [if_pos e]
  exact pick_right h ha he
 ·
  rename_i e
  rw [if_neg e]
  split at he
  ·
   rename_i e2
   rw [if_pos e2]
   exact deliver_right h ha he
  · cases he
end Go.Proofs.Ytabbejabdkkaiaa
