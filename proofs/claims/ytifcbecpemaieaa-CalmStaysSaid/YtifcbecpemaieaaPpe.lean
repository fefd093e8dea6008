/- Plain systems: a step that can be done leads to what may be. No condition. -/
import Derived.Test.YtifcbecpemaieaaPpd
set_option linter.unusedSimpArgs false
set_option linter.unusedVariables false
namespace Go.Proofs.Ytifcbecpemaieaa
open Go.RowKit

def LI (g : TGraph) (l : List (List TMsg)) (z : List Int) : Prop := l.length = g.Links.length ∧ z.length = g.Links.length ∧ ∀ (j : Nat) (ms : List TMsg) (y : Int),l[j]? = some ms → z[j]? = some y → LinkP y ms
theorem CRightP.li {a : TApp} {c : TConf} (h : CRightP a c) : LI a.G c.Links c.Sent := ⟨h.nli,h.nse,h.lnk⟩
theorem CRightP.with {a : TApp} {c : TConf} (h : CRightP a c) {n : Nat} (hn : n < c.States.length) {s : Int} (hs : 0 ≤ s) (hs2 : ∀ x : TNode,a.T[n]? = some x → s < (x.States.length : Int)) {l : List (List TMsg)} {z : List Int} (hl : LI a.G l z) : CRightP a ⟨c.States.set n s,l,z⟩ := by
 refine ⟨h.tab,by dsimp only; rw [List.length_set]; exact h.nst,hl.1,hl.2.1,fun k t hk => ?_,hl.2.2⟩
 dsimp only at hk
 rw [List.getElem?_set] at hk
 by_cases q : n = k
 ·
  subst q
  rw [if_pos rfl,if_pos hn] at hk
  injection hk with hk
  subst hk
  exact ⟨hs,hs2⟩
 ·
  rw [if_neg q] at hk
  exact h.sts k t hk
theorem CRightP.node {a : TApp} {c : TConf} (h : CRightP a c) {n : Nat} (hn : n < c.States.length) : ∃ (x : TNode) (s : Nat),a.T[n]? = some x ∧ c.States[n] = (s : Int) ∧ ∃ hs : s < x.States.length,NodeP a.G n x ∧ stOf a.T n c.States[n] = x.States[s] := by
 have hT : n < a.T.length := by have := h.nst; have := h.tab.2.1; omega
 obtain ⟨h0,h1⟩ := h.sts n _ (List.getElem?_eq_getElem hn)
 have h2 := h1 _ (List.getElem?_eq_getElem hT)
 have e : c.States[n] = ((c.States[n].toNat : Nat) : Int) := by omega
 have hs : c.States[n].toNat < a.T[n].States.length := by omega
 refine ⟨a.T[n],c.States[n].toNat,List.getElem?_eq_getElem hT,e,hs,h.tab.2.2 n _ (List.getElem?_eq_getElem hT),?_⟩
 have := stOf_at (l := a.T) (n := n) (s := c.States[n].toNat) (List.getElem?_eq_getElem hT) hs
 rwa [← e] at this
end Go.Proofs.Ytifcbecpemaieaa
