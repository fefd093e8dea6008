/- Cuts in plain words: which steps are ahead; which cuts are good; the theorem of cuts. No condition. -/
import Derived.Test.YtabbejabdkkaiaaPua
set_option linter.unusedSimpArgs false
set_option linter.unusedVariables false
namespace Go.Proofs.Ytabbejabdkkaiaa
open Go.RowKit

def whereC (g : TGraph) (s : TStep) : Int :=
 if s.Kind = 0 ∧ 0 ≤ s.Node ∧ s.Node < g.N then s.Node else
 if s.Kind = 1 ∧ 0 ≤ s.Link ∧ s.Link < (g.Links.length : Int) then ((g.Links[s.Link.toNat]?).getD ⟨0,0⟩).a1 else -1
def lft (left : List Int) (w : Int) : Int := (left[w.toNat]?).getD 0
def side (w : Int) (left : List Int) : Bool × List Int := if w < 0 then (false,left) else (decide (0 ≤ lft left w - 1),left.set w.toNat (lft left w - 1))
def lateP (b : Bool) (L : Int → Int → Prop) (c d : TConf) (j q : Int) : Prop := L j q ∨ (b = false ∧ sentBy c d j q)
def goodP (a : TApp) : TConf → List TStep → List Int → (Int → Int → Prop) → Prop
 | _,[],_,_ => True
 | c,s :: l,left,L => (s.Kind = 1 → (side (whereC a.G s) left).1 = true → ¬ L s.Link s.Seq) ∧ goodP a (applyP a c s).1 l (side (whereC a.G s) left).2 (lateP (side (whereC a.G s) left).1 L c (applyP a c s).1)
def lefts (g : TGraph) : List TStep → List Int → List Int
 | [],left => left
 | s :: l,left => lefts g l (side (whereC g s) left).2
theorem lft_side {w v : Int} {left : List Int} (hv : 0 ≤ v) : lft (side w left).2 v = if w = v ∧ w.toNat < left.length then lft left v - 1 else lft left v := by
 unfold side
 by_cases h : w < 0
 · rw [if_pos h,if_neg (by omega)]
 ·
  rw [if_neg h]
  unfold lft
  dsimp only
  rw [List.getElem?_set]
  by_cases e : w.toNat = v.toNat
  ·
   have ew : w = v := by omega
   subst ew
   rw [if_pos rfl]
   by_cases hl : w.toNat < left.length
   · rw [if_pos hl,if_pos ⟨rfl,hl⟩,Option.getD_some]
   · rw [if_neg hl,if_neg (by omega),List.getElem?_eq_none (by omega)]
  · rw [if_neg e,if_neg (by omega)]
theorem side_t {w : Int} {left : List Int} : (side w left).1 = true ↔ 0 ≤ w ∧ 1 ≤ lft left w := by
 unfold side
 by_cases h : w < 0
 ·
  rw [if_pos h]
  exact ⟨fun e => (by cases e),fun e => by omega⟩
 ·
  rw [if_neg h]
  dsimp only
  rw [decide_eq_true_iff]
  omega
section
variable {g : TGraph}
theorem lefts_app : ∀ {l r : List TStep} {left : List Int},lefts g (l ++ r) left = lefts g r (lefts g l left)
 | [],r,left => rfl
 | t :: l,r,left => lefts_app (l := l)
end
section
variable {a : TApp} {c d : TConf} {b s : TStep}
theorem where_ok (h : CRightP a c) (hs : (applyP a c s).2 = 0) : whereC a.G s = whereP a s ∧ 0 ≤ whereP a s ∧ whereP a s < a.G.N := by
 have hN := h.nst
 rcases step_view h hs with ⟨n,p,q⟩ | ⟨j,i,n,y,l,m,q⟩
 ·
  have := q.lt
  rw [q.where]
  unfold whereC
  rw [if_pos ⟨q.kind,by rw [q.node]; omega,by rw [q.node]; omega⟩,q.node]
  exact ⟨rfl,by omega,by omega⟩
 ·
  have := q.lt
  have hj := (List.getElem?_eq_some_iff.1 q.ends).1
  rw [q.where]
  unfold whereC
  rw [if_neg (by rw [q.kind]; omega),if_pos ⟨q.kind,by rw [q.link]; omega,by rw [q.link]; omega⟩,q.link,Int.toNat_natCast,q.ends,Option.getD_some]
  exact ⟨rfl,by omega,by omega⟩
theorem good_app : ∀ {l r : List TStep} {c : TConf} {left : List Int} {L : Int → Int → Prop},goodP a c (l ++ r) left L → ∃ L',(∀ j q,L j q → L' j q) ∧ goodP a (endP a c l) r (lefts a.G l left) L'
 | [],r,c,left,L,h => ⟨L,fun _ _ h => h,h⟩
 | s :: l,r,c,left,L,⟨_,h⟩ => by
  obtain ⟨L',h1,h2⟩ := good_app (l := l) (r := r) h
  exact ⟨L',fun j q hh => h1 j q (.inl hh),h2⟩
theorem good_not {l1 r l2 : List TStep} {left : List Int} {L : Int → Int → Prop} (hb : (side (whereC a.G b) (lefts a.G l1 left)).1 ≠ true) (hs : (side (whereC a.G s) (lefts a.G (l1 ++ b :: r) left)).1 = true) (hk : s.Kind = 1)
  (hq : sentBy (endP a c l1) (applyP a (endP a c l1) b).1 s.Link s.Seq) : ¬ goodP a c (l1 ++ b :: (r ++ s :: l2)) left L := fun g => by
 obtain ⟨L1,_,g1⟩ := good_app g
 obtain ⟨_,g2⟩ := g1
 obtain ⟨L2,g3,g4⟩ := good_app g2
 refine g4.1 hk ?_ (g3 _ _ (.inr ⟨by cases q : (side (whereC a.G b) (lefts a.G l1 left)).1 with | false => rfl | true => exact absurd q hb,hq⟩))
 rw [lefts_app] at hs
 exact hs
end
end Go.Proofs.Ytabbejabdkkaiaa
