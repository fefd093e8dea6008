/- Cuts in plain words: how many each node has; the cut of the first steps; a cut that lacks a pick. No condition. -/
import Derived.Test.YtabbejabdkkaiaaPub
set_option linter.unusedSimpArgs false
set_option linter.unusedVariables false
namespace Go.Proofs.Ytabbejabdkkaiaa
open Go.RowKit

def ncnt (g : TGraph) (w : Int) (l : List TStep) : Int := ((l.countP fun s => decide (whereC g s = w) : Nat) : Int)
def ncntL (g : TGraph) (l : List TStep) : List Int := (List.range g.N.toNat).map fun n => ncnt g (n : Nat) l
def leftP (g : TGraph) (counts : List Int) : List Int := (List.range g.N.toNat).map fun n => max ((counts[n]?).getD 0) 0
def noL : Int → Int → Prop := fun _ _ => False
section
variable {g : TGraph}
theorem ncnt_cons (w : Int) (s : TStep) (l : List TStep) : ncnt g w (s :: l) = ncnt g w l + (if whereC g s = w then 1 else 0) := by
 unfold ncnt
 rw [List.countP_cons]
 by_cases h : whereC g s = w
 · simp [h]
 · simp [h]
theorem ncnt_app (w : Int) (l r : List TStep) : ncnt g w (l ++ r) = ncnt g w l + ncnt g w r := by
 unfold ncnt
 rw [List.countP_append]
 omega
theorem ncnt_pos (w : Int) (l : List TStep) : 0 ≤ ncnt g w l := by unfold ncnt; omega
theorem ncnt_len (w : Int) (l : List TStep) : ncnt g w l ≤ (l.length : Int) := by
 unfold ncnt
 have := List.countP_le_length (p := fun s => decide (whereC g s = w)) (l := l)
 omega
theorem lft_leftP (counts : List Int) {w : Int} (hw : 0 ≤ w) : lft (leftP g counts) w = if w < g.N then max ((counts[w.toNat]?).getD 0) 0 else 0 := by
 unfold lft leftP
 rw [List.getElem?_map]
 by_cases h : w < g.N
 ·
  rw [if_pos h,List.getElem?_eq_getElem (by rw [List.length_range]; omega),List.getElem_range]
  rfl
 ·
  rw [if_neg h,List.getElem?_eq_none (by rw [List.length_range]; omega)]
  rfl
theorem leftP_len (counts : List Int) : (leftP g counts).length = g.N.toNat := by unfold leftP; rw [List.length_map,List.length_range]
theorem ncntL_get (l : List TStep) (n : Nat) : (ncntL g l)[n]? = if n < g.N.toNat then some (ncnt g (n : Nat) l) else none := by
 unfold ncntL
 rw [List.getElem?_map]
 by_cases h : n < g.N.toNat
 ·
  rw [if_pos h,List.getElem?_eq_getElem (by rw [List.length_range]; exact h),List.getElem_range]
  rfl
 ·
  rw [if_neg h,List.getElem?_eq_none (by rw [List.length_range]; omega)]
  rfl
theorem lefts_ncnt {w : Int} (hw : 0 ≤ w) : ∀ {l : List TStep} {left : List Int},w.toNat < left.length → lft (lefts g l left) w = lft left w - ncnt g w l
 | [],left,h => by
  show lft left w = lft left w - ncnt g w []
  unfold ncnt
  simp
 | s :: l,left,h => by
  have hlen : (side (whereC g s) left).2.length = left.length := by unfold side; split <;> simp
  show lft (lefts g l (side (whereC g s) left).2) w = _
  rw [lefts_ncnt hw (l := l) (by rw [hlen]; exact h),lft_side hw,ncnt_cons]
  by_cases e : whereC g s = w
  ·
   rw [if_pos ⟨e,by rw [e]; exact h⟩,if_pos e]
   omega
  ·
   rw [if_neg fun q => e q.1,if_neg e]
   omega
end
section
variable {a : TApp} {c : TConf}
theorem where_all (ha : SzA a) : ∀ {l : List TStep} {c : TConf},CRightP a c → okP a c l → ∀ s ∈ l,0 ≤ whereC a.G s ∧ whereC a.G s < a.G.N
 | [],c,_,_,s,hs => by simp at hs
 | t :: l,c,h,⟨h1,h2⟩,s,hs => by
  rcases List.mem_cons.1 hs with rfl | hs
  ·
   obtain ⟨w1,w2,w3⟩ := where_ok h h1
   rw [w1]
   exact ⟨w2,w3⟩
  · exact where_all ha (apply_right h ha h1) h2 s hs
theorem cut_sends (ha : SzA a) {l1 r l2 : List TStep} {b s : TStep} {left : List Int} (h : CRightP a c) (hl : okP a c (l1 ++ b :: (r ++ s :: l2))) (hk : s.Kind = 1) (hlen : left.length = a.G.N.toNat)
  (hq : sentBy (endP a c l1) (applyP a (endP a c l1) b).1 s.Link s.Seq) (h1 : lft left (whereC a.G b) ≤ ncnt a.G (whereC a.G b) l1) (h2 : ncnt a.G (whereC a.G s) (l1 ++ b :: r) < lft left (whereC a.G s)) : ¬ goodP a c (l1 ++ b :: (r ++ s :: l2)) left noL := by
 have hw := where_all ha h hl
 obtain ⟨b1,b2⟩ := hw b (by simp)
 obtain ⟨s1,s2⟩ := hw s (by simp)
 refine good_not (fun f => ?_) ?_ hk hq
 ·
  have := (side_t.1 f).2
  rw [lefts_ncnt b1 (by omega)] at this
  omega
 ·
  refine side_t.2 ⟨s1,?_⟩
  rw [lefts_ncnt s1 (by omega)]
  omega
end
end Go.Proofs.Ytabbejabdkkaiaa
