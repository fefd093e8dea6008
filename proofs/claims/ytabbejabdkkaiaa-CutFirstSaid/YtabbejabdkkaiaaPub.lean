/- Cuts in plain words: which steps are ahead; which cuts are good; the theorem of cuts. No condition. -/
import Derived.Test.YtabbejabdkkaiaaPua
set_option linter.unusedSimpArgs false
set_option linter.unusedVariables false
namespace Go.Proofs.Ytabbejabdkkaiaa
open Go.RowKit

def whereC (g : TGraph) (s : TStep) : Int :=
 if s.Kind = 0 ∧ 0 ≤ s.Node ∧ s.Node < g.N then s.Node else
 if s.Kind = 1 ∧ 0 ≤ s.Link ∧ s.Link < (g.Links.length : Int) then ((g.Links[s.Link.toNat]?).getD ⟨0,0⟩).a1 else -1
def lft (left : List Int) (w : Int) : Int := (left[w.toNat]?).getD 0
def side (w : Int) (left : List Int) : Bool × List Int := if w < 0 then (false,left) else (decide (0 ≤ lft left w - 1),left.set w.toNat (lft left w - 1))
def splitP (g : TGraph) : List TStep → List Int → List TStep × List TStep
 | [],_ => ([],[])
 | s :: l,left => if (side (whereC g s) left).1 = true then (s :: (splitP g l (side (whereC g s) left).2).1,(splitP g l (side (whereC g s) left).2).2) else ((splitP g l (side (whereC g s) left).2).1,s :: (splitP g l (side (whereC g s) left).2).2)
def lateP (b : Bool) (L : Int → Int → Prop) (c d : TConf) (j q : Int) : Prop := L j q ∨ (b = false ∧ sentBy c d j q)
def goodP (a : TApp) : TConf → List TStep → List Int → (Int → Int → Prop) → Prop
 | _,[],_,_ => True
 | c,s :: l,left,L => (s.Kind = 1 → (side (whereC a.G s) left).1 = true → ¬ L s.Link s.Seq) ∧ goodP a (applyP a c s).1 l (side (whereC a.G s) left).2 (lateP (side (whereC a.G s) left).1 L c (applyP a c s).1)
theorem lft_side {w v : Int} {left : List Int} (hv : 0 ≤ v) : lft (side w left).2 v = if w = v ∧ w.toNat < left.length then lft left v - 1 else lft left v := by
 unfold side
 by_cases h : w < 0
 · rw [if_pos h,if_neg (by omega)]
 ·
  rw [if_neg h]
  unfold lft
  dsimp only
  rw [List.getElem?_set]
  by_cases e : w.toNat = v.toNat
  ·
   have ew : w = v := by omega
   subst ew
   rw [if_pos rfl]
   by_cases hl : w.toNat < left.length
   · rw [if_pos hl,if_pos ⟨rfl,hl⟩,Option.getD_some]
   · rw [if_neg hl,if_neg (by omega),List.getElem?_eq_none (by omega)]
  · rw [if_neg e,if_neg (by omega)]
theorem lft_out {v : Int} {left : List Int} (h : ¬ v.toNat < left.length) : lft left v = 0 := by
 unfold lft
 rw [List.getElem?_eq_none (by omega)]
 rfl
theorem lft_le {w v : Int} {left : List Int} (hv : 0 ≤ v) : lft (side w left).2 v ≤ lft left v := by
 rw [lft_side hv]
 split <;> omega
theorem side_t {w : Int} {left : List Int} : (side w left).1 = true ↔ 0 ≤ w ∧ 1 ≤ lft left w := by
 unfold side
 by_cases h : w < 0
 ·
  rw [if_pos h]
  exact ⟨fun e => (by cases e),fun e => by omega⟩
 ·
  rw [if_neg h]
  dsimp only
  rw [decide_eq_true_iff]
  omega
theorem side_own {w : Int} {left : List Int} (h : (side w left).1 ≠ true) (hw : 0 ≤ w) : lft (side w left).2 w ≤ 0 := by
 have h1 : ¬ 1 ≤ lft left w := fun e => h (side_t.2 ⟨hw,e⟩)
 have := lft_le (w := w) (left := left) hw
 omega
section
variable {g : TGraph}
theorem split_ne {w : Int} (hw : 0 ≤ w) : ∀ {l : List TStep} {left : List Int},lft left w ≤ 0 → ∀ s ∈ (splitP g l left).1,whereC g s ≠ w
 | [],left,h,s,hs => by simp [splitP] at hs
 | t :: l,left,h,s,hs => by
  have h' : lft (side (whereC g t) left).2 w ≤ 0 := Int.le_trans (lft_le hw) h
  rw [splitP] at hs
  split at hs
  ·
   rename_i c
   rcases List.mem_cons.1 hs with rfl | hs
   ·
    intro e
    have := (side_t.1 c).2
    rw [e] at this
    omega
   · exact split_ne hw h' s hs
  · exact split_ne hw h' s hs
theorem split_none : ∀ {l : List TStep} {left : List Int},(∀ w,0 ≤ w → lft left w ≤ 0) → splitP g l left = ([],l)
 | [],left,h => rfl
 | t :: l,left,h => by
  have ih := split_none (l := l) (left := (side (whereC g t) left).2) fun w hw => Int.le_trans (lft_le hw) (h w hw)
  rw [splitP,if_neg,ih]
  intro e
  obtain ⟨h1,h2⟩ := side_t.1 e
  have := h _ h1
  omega
end
section
variable {a : TApp} {c d : TConf} {b s : TStep}
theorem where_ok (h : CRightP a c) (hs : (applyP a c s).2 = 0) : whereC a.G s = whereP a s ∧ 0 ≤ whereP a s ∧ whereP a s < a.G.N := by
 have hN := h.nst
 rcases step_view h hs with ⟨n,p,q⟩ | ⟨j,i,n,y,l,m,q⟩
 ·
  have := q.lt
  rw [q.where]
  unfold whereC
  rw [if_pos ⟨q.kind,by rw [q.node]; omega,by rw [q.node]; omega⟩,q.node]
  exact ⟨rfl,by omega,by omega⟩
 ·
  have := q.lt
  have hj := (List.getElem?_eq_some_iff.1 q.ends).1
  rw [q.where]
  unfold whereC
  rw [if_neg (by rw [q.kind]; omega),if_pos ⟨q.kind,by rw [q.link]; omega,by rw [q.link]; omega⟩,q.link,Int.toNat_natCast,q.ends,Option.getD_some]
  exact ⟨rfl,by omega,by omega⟩
end
end Go.Proofs.Ytabbejabdkkaiaa
