/- Cuts in plain words: how many each node has; the cut of the first steps; a cut that lacks a pick. No condition. -/
import Derived.Test.YtabbejabdkkaiaaPub
set_option linter.unusedSimpArgs false
set_option linter.unusedVariables false
namespace Go.Proofs.Ytabbejabdkkaiaa
open Go.RowKit

def ncnt (g : TGraph) (w : Int) (l : List TStep) : Int := ((l.countP fun s => decide (whereC g s = w) : Nat) : Int)
def ncntL (g : TGraph) (l : List TStep) : List Int := (List.range g.N.toNat).map fun n => ncnt g (n : Nat) l
def leftP (g : TGraph) (counts : List Int) : List Int := (List.range g.N.toNat).map fun n => max ((counts[n]?).getD 0) 0
def noL : Int → Int → Prop := fun _ _ => False
section
variable {g : TGraph}
theorem ncnt_cons (w : Int) (s : TStep) (l : List TStep) : ncnt g w (s :: l) = ncnt g w l + (if whereC g s = w then 1 else 0) := by
 unfold ncnt
 rw [List.countP_cons]
 by_cases h : whereC g s = w
 · simp [h]
 · simp [h]
theorem ncnt_app (w : Int) (l r : List TStep) : ncnt g w (l ++ r) = ncnt g w l + ncnt g w r := by
 unfold ncnt
 rw [List.countP_append]
 omega
theorem ncnt_pos (w : Int) (l : List TStep) : 0 ≤ ncnt g w l := by unfold ncnt; omega
theorem ncnt_len (w : Int) (l : List TStep) : ncnt g w l ≤ (l.length : Int) := by
 unfold ncnt
 have := List.countP_le_length (p := fun s => decide (whereC g s = w)) (l := l)
 omega
theorem lft_leftP (counts : List Int) {w : Int} (hw : 0 ≤ w) : lft (leftP g counts) w = if w < g.N then max ((counts[w.toNat]?).getD 0) 0 else 0 := by
 unfold lft leftP
 rw [List.getElem?_map]
 by_cases h : w < g.N
 ·
  rw [if_pos h,List.getElem?_eq_getElem (by rw [List.length_range]; omega),List.getElem_range]
  rfl
 ·
  rw [if_neg h,List.getElem?_eq_none (by rw [List.length_range]; omega)]
  rfl
theorem leftP_len (counts : List Int) : (leftP g counts).length = g.N.toNat := by unfold leftP; rw [List.length_map,List.length_range]
theorem ncntL_get (l : List TStep) (n : Nat) : (ncntL g l)[n]? = if n < g.N.toNat then some (ncnt g (n : Nat) l) else none := by
 unfold ncntL
 rw [List.getElem?_map]
 by_cases h : n < g.N.toNat
 ·
  rw [if_pos h,List.getElem?_eq_getElem (by rw [List.length_range]; exact h),List.getElem_range]
  rfl
 ·
  rw [if_neg h,List.getElem?_eq_none (by rw [List.length_range]; omega)]
  rfl
theorem split_pos : ∀ {l : List TStep} {left : List Int} {s : TStep},s ∈ (splitP g l left).1 → 0 ≤ whereC g s
 | [],left,s,hs => by simp [splitP] at hs
 | t :: l,left,s,hs => by
  rw [splitP] at hs
  split at hs
  ·
   rename_i c
   rcases List.mem_cons.1 hs with rfl | hs
   · exact (side_t.1 c).1
   · exact split_pos hs
  · exact split_pos hs
theorem first_split : ∀ {l r : List TStep} {left : List Int},(∀ s ∈ l,0 ≤ whereC g s) → (∀ w,0 ≤ w → lft left w = ncnt g w l ∨ (lft left w = 0 ∧ ∀ s ∈ l,whereC g s ≠ w)) → splitP g (l ++ r) left = (l,r)
 | [],r,left,_,h => split_none fun w hw => by
   rcases h w hw with q | q
   ·
    rw [q]
    unfold ncnt
    simp
   · omega
 | s :: l,r,left,h0,h => by
  have hs := h0 s (by simp)
  have h1 : lft left (whereC g s) = ncnt g (whereC g s) (s :: l) := by
   rcases h _ hs with q | ⟨_,q⟩
   · exact q
   · exact absurd rfl (q s (by simp))
  have h2 := ncnt_pos (g := g) (whereC g s) l
  rw [ncnt_cons,if_pos rfl] at h1
  have f : (side (whereC g s) left).1 = true := side_t.2 ⟨hs,by omega⟩
  have hr : (whereC g s).toNat < left.length := Classical.byContradiction fun q => by
   have := lft_out q
   omega
  have ih := first_split (l := l) (r := r) (left := (side (whereC g s) left).2) (fun t ht => h0 t (List.mem_cons_of_mem s ht)) fun w hw => by
   rw [lft_side hw]
   by_cases e : whereC g s = w
   ·
    subst e
    rw [if_pos ⟨rfl,hr⟩]
    exact .inl (by omega)
   ·
    rw [if_neg fun q => e q.1]
    rcases h w hw with q | ⟨q1,q2⟩
    ·
     rw [ncnt_cons,if_neg e] at q
     exact .inl (by omega)
    · exact .inr ⟨q1,fun t ht => q2 t (List.mem_cons_of_mem s ht)⟩
  rw [List.cons_append,splitP,if_pos f,ih]
end
section
variable {a : TApp} {c : TConf}
theorem first_good : ∀ {l r : List TStep} {c : TConf} {left : List Int} {L : Int → Int → Prop},(∀ j q,¬ L j q) → (splitP a.G (l ++ r) left) = (l,r) → goodP a c (l ++ r) left L
 | [],r,c,left,L,hL,h => by
  have key : ∀ {r : List TStep} {c : TConf} {left : List Int} {L : Int → Int → Prop},(splitP a.G r left).1 = [] → goodP a c r left L := fun {r} => by
   induction r with
   | nil => intro c left L _; trivial
   | cons s r ih =>
    intro c left L h
    rw [splitP] at h
    split at h
    · cases h
    ·
     rename_i e
     exact ⟨fun _ q => absurd q e,ih h⟩
  refine key ?_
  exact congrArg Prod.fst h
 | s :: l,r,c,left,L,hL,h => by
  rw [List.cons_append,splitP] at h
  split at h
  ·
   rename_i e
   injection h with h1 h2
   injection h1 with _ h1
   refine ⟨fun _ _ => hL _ _,first_good (l := l) (r := r) (fun j q hh => ?_) (Prod.ext h1 h2)⟩
   rcases hh with hh | ⟨hh,_⟩
   · exact hL _ _ hh
   · rw [e] at hh; cases hh
  ·
   rename_i e
   injection h with h1 h2
   have hm : s ∈ (splitP a.G (l ++ r) (side (whereC a.G s) left).2).1 := by rw [h1]; simp
   have h0 := split_pos hm
   exact absurd rfl (split_ne h0 (side_own e h0) s hm)
theorem where_all (ha : SzA a) : ∀ {l : List TStep} {c : TConf},CRightP a c → okP a c l → ∀ s ∈ l,0 ≤ whereC a.G s ∧ whereC a.G s < a.G.N
 | [],c,_,_,s,hs => by simp at hs
 | t :: l,c,h,⟨h1,h2⟩,s,hs => by
  rcases List.mem_cons.1 hs with rfl | hs
  ·
   obtain ⟨w1,w2,w3⟩ := where_ok h h1
   rw [w1]
   exact ⟨w2,w3⟩
  · exact where_all ha (apply_right h ha h1) h2 s hs
theorem cut_first (ha : SzA a) {l r : List TStep} (h : CRightP a c) (hl : okP a c (l ++ r)) : splitP a.G (l ++ r) (leftP a.G (ncntL a.G l)) = (l,r) ∧ goodP a c (l ++ r) (leftP a.G (ncntL a.G l)) noL := by
 have hw := where_all ha h (okP_app.1 hl).1
 have e : splitP a.G (l ++ r) (leftP a.G (ncntL a.G l)) = (l,r) := by
  refine first_split (fun s hs => (hw s hs).1) fun w h0 => ?_
  rw [lft_leftP _ h0,ncntL_get]
  by_cases q : w < a.G.N
  ·
   have := ncnt_pos (g := a.G) w l
   have ew : ((w.toNat : Nat) : Int) = w := by omega
   rw [if_pos q,if_pos (by omega),Option.getD_some,ew]
   exact .inl (by omega)
  ·
   rw [if_neg q]
   exact .inr ⟨rfl,fun s hs e => by have := (hw s hs).2; omega⟩
 exact ⟨e,first_good (fun _ _ q => q) e⟩
end
end Go.Proofs.Ytabbejabdkkaiaa
