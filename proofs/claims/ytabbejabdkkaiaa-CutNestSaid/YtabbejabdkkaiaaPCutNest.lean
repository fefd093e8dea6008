/- The law CutNest, in plain words: true at every input. No condition. -/
import Derived.Test.YtabbejabdkkaiaaPuf
import Derived.Test.YtabbejabdkkaiaaGdCutNest
set_option linter.unusedSimpArgs false
set_option linter.unusedVariables false
namespace Go.Proofs.Ytabbejabdkkaiaa
open Go.RowKit

def atN (l : List Int) (n : Nat) : Int := (l[n]?).getD 0
theorem atN_w {l : List Int} (h : ∀ x ∈ l,wI .i64 x) (n : Nat) : wI .i64 (atN l n) := by
 unfold atN
 by_cases hn : n < l.length
 ·
  rw [List.getElem?_eq_getElem hn]
  exact h _ (List.getElem_mem hn)
 ·
  rw [List.getElem?_eq_none (by omega)]
  exact wI_i64 (by decide) (by decide)
theorem at_or {l : List Int} {n : Nat} : (if (n : Int) < (l.length : Int) then (at? l n).bind fun x => some x else some 0) = some (atN l n) := by
 unfold atN
 by_cases hn : n < l.length
 ·
  rw [if_pos (by omega),at_get hn,List.getElem?_eq_getElem hn]
  rfl
 ·
  rw [if_neg (by omega),List.getElem?_eq_none (by omega)]
  rfl
theorem cutNest_l1 {a : TApp} (h0 : 0 ≤ a.G.N) (h1 : a.G.N ≤ 1000) (b : TCut) (l : List Int) : L_law17_CutNest_l1 b l a ((a.G.N - 0).toNat + 1) 0 [] [] = some ((List.range a.G.N.toNat).map fun n => min (atN b.Counts n) (atN l n),(List.range a.G.N.toNat).map fun n => max (atN b.Counts n) (atN l n)) := by
 have key : ∀ (t k nf : Nat),k + t = a.G.N.toNat → t < nf → L_law17_CutNest_l1 b l a nf k ((List.range k).map fun n => min (atN b.Counts n) (atN l n)) ((List.range k).map fun n => max (atN b.Counts n) (atN l n)) = some ((List.range a.G.N.toNat).map fun n => min (atN b.Counts n) (atN l n),(List.range a.G.N.toNat).map fun n => max (atN b.Counts n) (atN l n)) := by
  intro t
  induction t with
  | zero =>
   intro k nf e1 e2
   cases nf with
   | zero => omega
   | succ nf =>
    rw [L_law17_CutNest_l1,if_neg (by omega),show k = a.G.N.toNat by omega]
  | succ t ih =>
   intro k nf e1 e2
   cases nf with
   | zero => omega
   | succ nf =>
    have q := ih (k + 1) nf (by omega) (by omega)
    rw [List.range_succ,List.map_append,List.map_append] at q
    rw [L_law17_CutNest_l1,if_pos (by omega),at_or,Option.bind_some,at_or,Option.bind_some,if_pos (by rw [List.length_map,List.length_range]; omega),if_pos (by rw [List.length_map,List.length_range]; omega),wr_succ (by omega)]
    exact q
 have q := key a.G.N.toNat 0 ((a.G.N - 0).toNat + 1) (by omega) (by omega)
 exact q
theorem lft_map {g : TGraph} {l : List Int} {f : Nat → Int} (he : l = (List.range g.N.toNat).map f) {w : Int} (hw : 0 ≤ w) : lft (leftP g l) w = if w < g.N then max (f w.toNat) 0 else 0 := by
 rw [lft_leftP _ hw,he]
 by_cases h : w < g.N
 ·
  rw [if_pos h,if_pos h,List.getElem?_map,List.getElem?_eq_getElem (by rw [List.length_range]; omega),List.getElem_range]
  rfl
 · rw [if_neg h,if_neg h]
theorem lft_atN (g : TGraph) (l : List Int) {w : Int} (hw : 0 ≤ w) : lft (leftP g l) w = if w < g.N then max (atN l w.toNat) 0 else 0 := lft_leftP _ hw
theorem cutNest_true (a0 : TApp) (a1 : TCut) (a2 : List Int) (w0 : wTApp a0) (w1 : wTCut a1) (w2 : (wL 8 (wI .i64)) a2) : L_law17_CutNest a0 a1 a2 = some true := by
 classical
 unfold L_law17_CutNest
 rw [law_cutA,Option.bind_some]
 have ha := cutA_sz a0
 generalize cutA a0 = a at ha
 rw [law_app ha.t,Option.bind_some,ref_start ha,Option.bind_some,start_iff ha,Option.bind_some]
 generalize startP a = c
 by_cases hR : CRightP a c
 ·
  have h1 := hR.tab.1.1
  have h2 := hR.tab.1.2.1
  have hc1 := w1.2.1.2
  have hc2 := w2.2
  rw [if_pos (dT hR),law_doable hR ha,Option.bind_some]
  have hl : okP a c (doL a c (a1.Steps.take 30)) := doL_ok
  have hn := doL_len (a := a) (l := a1.Steps.take 30) (c := c)
  rw [List.length_take] at hn
  generalize doL a c (a1.Steps.take 30) = l at hl hn
  rw [cutNest_l1 (by omega) (by omega),Option.bind_some]
  generalize hlo : ((List.range a.G.N.toNat).map fun n => min (atN a1.Counts n) (atN a2 n)) = lo
  generalize hhi : ((List.range a.G.N.toNat).map fun n => max (atN a1.Counts n) (atN a2 n)) = hi
  have wlo : ∀ x ∈ lo,wI .i64 x := fun x hx => by
   rw [← hlo] at hx
   obtain ⟨n,_,rfl⟩ := List.mem_map.1 hx
   have := atN_w hc1 n
   have := atN_w hc2 n
   rw [Int.min_def]
   split <;> assumption
  have whi : ∀ x ∈ hi,wI .i64 x := fun x hx => by
   rw [← hhi] at hx
   obtain ⟨n,_,rfl⟩ := List.mem_map.1 hx
   have := atN_w hc1 n
   have := atN_w hc2 n
   rw [Int.max_def]
   split <;> assumption
  dsimp only
  rw [cut_good_eq hR ha hl (by omega) hc1,cut_good_eq hR ha hl (by omega) hc2,cut_good_eq hR ha hl (by omega) wlo,cut_good_eq hR ha hl (by omega) whi,Option.bind_some,Option.bind_some,Option.bind_some,Option.bind_some]
  by_cases g1 : goodP a c l (leftP a.G a1.Counts) noL
  ·
   by_cases g2 : goodP a c l (leftP a.G a2) noL
   ·
    have g3 : goodP a c l (leftP a.G lo) noL := good_min (fun w hw => by
     rw [lft_map hlo.symm hw,lft_atN _ _ hw,lft_atN _ _ hw]
     split <;> omega) (by rw [leftP_len,leftP_len]) (by rw [leftP_len,leftP_len]) (fun _ _ q => q.elim) g1 g2
    have g4 : goodP a c l (leftP a.G hi) noL := good_max (fun w hw => by
     rw [lft_map hhi.symm hw,lft_atN _ _ hw,lft_atN _ _ hw]
     split <;> omega) (by rw [leftP_len,leftP_len]) (by rw [leftP_len,leftP_len]) (fun _ _ q => q.elim) g1 g2
    rw [dT g1,dT g2,if_pos rfl,Option.bind_some,if_neg (by decide),if_pos (dT g3),if_pos (dT g4),fixed17]
    rfl
   ·
    rw [dT g1,dF g2,if_pos rfl,Option.bind_some,if_pos (by decide),fixed17]
    rfl
  ·
   rw [dF g1,if_neg (by decide),Option.bind_some,if_pos rfl,fixed17]
   rfl
 ·
  rw [if_neg (by rw [dF hR]; decide),fixed17]
  rfl
end Go.Proofs.Ytabbejabdkkaiaa
