/- Cuts in plain words: which steps are ahead; which cuts are good; the theorem of cuts. No condition. -/
import Derived.Test.YtabbejabdkkaiaaPua
set_option linter.unusedSimpArgs false
set_option linter.unusedVariables false
namespace Go.Proofs.Ytabbejabdkkaiaa
open Go.RowKit

def whereC (g : TGraph) (s : TStep) : Int :=
 if s.Kind = 0 ∧ 0 ≤ s.Node ∧ s.Node < g.N then s.Node else
 if s.Kind = 1 ∧ 0 ≤ s.Link ∧ s.Link < (g.Links.length : Int) then ((g.Links[s.Link.toNat]?).getD ⟨0,0⟩).a1 else -1
def lft (left : List Int) (w : Int) : Int := (left[w.toNat]?).getD 0
def side (w : Int) (left : List Int) : Bool × List Int := if w < 0 then (false,left) else (decide (0 ≤ lft left w - 1),left.set w.toNat (lft left w - 1))
def lateP (b : Bool) (L : Int → Int → Prop) (c d : TConf) (j q : Int) : Prop := L j q ∨ (b = false ∧ sentBy c d j q)
def goodP (a : TApp) : TConf → List TStep → List Int → (Int → Int → Prop) → Prop
 | _,[],_,_ => True
 | c,s :: l,left,L => (s.Kind = 1 → (side (whereC a.G s) left).1 = true → ¬ L s.Link s.Seq) ∧ goodP a (applyP a c s).1 l (side (whereC a.G s) left).2 (lateP (side (whereC a.G s) left).1 L c (applyP a c s).1)
theorem lft_side {w v : Int} {left : List Int} (hv : 0 ≤ v) : lft (side w left).2 v = if w = v ∧ w.toNat < left.length then lft left v - 1 else lft left v := by
 unfold side
 by_cases h : w < 0
 · rw [if_pos h,if_neg (by omega)]
 ·
  rw [if_neg h]
  unfold lft
  dsimp only
  rw [List.getElem?_set]
  by_cases e : w.toNat = v.toNat
  ·
   have ew : w = v := by omega
   subst ew
   rw [if_pos rfl]
   by_cases hl : w.toNat < left.length
   · rw [if_pos hl,if_pos ⟨rfl,hl⟩,Option.getD_some]
   · rw [if_neg hl,if_neg (by omega),List.getElem?_eq_none (by omega)]
  · rw [if_neg e,if_neg (by omega)]
theorem side_t {w : Int} {left : List Int} : (side w left).1 = true ↔ 0 ≤ w ∧ 1 ≤ lft left w := by
 unfold side
 by_cases h : w < 0
 ·
  rw [if_pos h]
  exact ⟨fun e => (by cases e),fun e => by omega⟩
 ·
  rw [if_neg h]
  dsimp only
  rw [decide_eq_true_iff]
  omega
section
variable {g : TGraph}
end
section
variable {a : TApp} {c d : TConf} {b s : TStep}
theorem good_min : ∀ {l : List TStep} {c : TConf} {x y z : List Int} {L M K : Int → Int → Prop},(∀ w,0 ≤ w → lft z w = min (lft x w) (lft y w)) → x.length = z.length → y.length = z.length → (∀ j q,K j q → L j q ∨ M j q) → goodP a c l x L → goodP a c l y M → goodP a c l z K
 | [],_,_,_,_,_,_,_,_,_,_,_,_,_ => trivial
 | s :: l,c,x,y,z,L,M,K,h,hx,hy,hK,⟨g1,g2⟩,⟨k1,k2⟩ => by
  have e : (side (whereC a.G s) z).1 = true ↔ (side (whereC a.G s) x).1 = true ∧ (side (whereC a.G s) y).1 = true := by
   rw [side_t,side_t,side_t]
   constructor
   ·
    rintro ⟨h1,h2⟩
    have := h _ h1
    omega
   ·
    rintro ⟨⟨h1,h2⟩,_,h3⟩
    have := h _ h1
    omega
  have hlen : ∀ u,(side (whereC a.G s) u).2.length = u.length := fun u => by unfold side; split <;> simp
  refine ⟨fun hk f hh => ?_,good_min (l := l) (fun w hw => ?_) (by rw [hlen,hlen,hx]) (by rw [hlen,hlen,hy]) (fun j q hh => ?_) g2 k2⟩
  ·
   obtain ⟨f1,f2⟩ := e.1 f
   rcases hK _ _ hh with q | q
   · exact g1 hk f1 q
   · exact k1 hk f2 q
  ·
   have := h w hw
   rw [lft_side hw,lft_side hw,lft_side hw,hx,hy]
   split <;> omega
  ·
   rcases hh with hh | ⟨f,hh⟩
   ·
    rcases hK _ _ hh with q | q
    · exact .inl (.inl q)
    · exact .inr (.inl q)
   ·
    cases f1 : (side (whereC a.G s) x).1 with
    | false => exact .inl (.inr ⟨rfl,hh⟩)
    | true =>
     cases f2 : (side (whereC a.G s) y).1 with
     | false => exact .inr (.inr ⟨rfl,hh⟩)
     | true =>
      rw [e.2 ⟨f1,f2⟩] at f
      cases f
theorem good_max : ∀ {l : List TStep} {c : TConf} {x y z : List Int} {L M K : Int → Int → Prop},(∀ w,0 ≤ w → lft z w = max (lft x w) (lft y w)) → x.length = z.length → y.length = z.length → (∀ j q,K j q → L j q ∧ M j q) → goodP a c l x L → goodP a c l y M → goodP a c l z K
 | [],_,_,_,_,_,_,_,_,_,_,_,_,_ => trivial
 | s :: l,c,x,y,z,L,M,K,h,hx,hy,hK,⟨g1,g2⟩,⟨k1,k2⟩ => by
  have e : (side (whereC a.G s) z).1 = true ↔ (side (whereC a.G s) x).1 = true ∨ (side (whereC a.G s) y).1 = true := by
   rw [side_t,side_t,side_t]
   constructor
   ·
    rintro ⟨h1,h2⟩
    have := h _ h1
    omega
   ·
    rintro (⟨h1,h2⟩ | ⟨h1,h2⟩)
    ·
     have := h _ h1
     omega
    ·
     have := h _ h1
     omega
  have hlen : ∀ u,(side (whereC a.G s) u).2.length = u.length := fun u => by unfold side; split <;> simp
  refine ⟨fun hk f hh => ?_,good_max (l := l) (fun w hw => ?_) (by rw [hlen,hlen,hx]) (by rw [hlen,hlen,hy]) (fun j q hh => ?_) g2 k2⟩
  ·
   obtain ⟨q1,q2⟩ := hK _ _ hh
   rcases e.1 f with f | f
   · exact g1 hk f q1
   · exact k1 hk f q2
  ·
   have := h w hw
   rw [lft_side hw,lft_side hw,lft_side hw,hx,hy]
   split <;> omega
  ·
   rcases hh with hh | ⟨f,hh⟩
   · exact ⟨.inl (hK _ _ hh).1,.inl (hK _ _ hh).2⟩
   ·
    have n1 : ¬ (side (whereC a.G s) x).1 = true := fun q => by rw [e.2 (.inl q)] at f; cases f
    have n2 : ¬ (side (whereC a.G s) y).1 = true := fun q => by rw [e.2 (.inr q)] at f; cases f
    exact ⟨.inr ⟨by cases q : (side (whereC a.G s) x).1 with | false => rfl | true => exact absurd q n1,hh⟩,.inr ⟨by cases q : (side (whereC a.G s) y).1 with | false => rfl | true => exact absurd q n2,hh⟩⟩
end
end Go.Proofs.Ytabbejabdkkaiaa
