/- The law GraphBack, in plain words: true at every input. No condition. -/
import Derived.Test.YteohodhcegbmmaaPgf
set_option linter.unusedSimpArgs false
set_option linter.unusedVariables false
namespace Go.Proofs.Yteohodhcegbmmaa
open Go.RowKit

section
variable {g : TGraph}
theorem back_at {k : Nat} {x : A2I} (h : g.Links[k]? = some x) : back g (k : Int) = find g x.a1 x.a0 := by
  unfold back
  rw [if_pos (by omega), Int.toNat_natCast, h]
theorem gback_l1 (hR : RightP g) : ∀ (m nf k : Nat), k + m = g.Links.length → m < nf → L_law03_GraphBack_l1 g nf (k : Int) = some ()
  | 0, nf + 1, k, h1, h2 => by rw [L_law03_GraphBack_l1, if_neg (by omega)]
  | m + 1, nf + 1, k, h1, h2 => by
    have hk : k < g.Links.length := by omega
    have h30 := hR.2.2.1
    have hx : g.Links[k]? = some g.Links[k] := List.getElem?_eq_getElem hk
    obtain ⟨hg, hf⟩ := hR.2.2.2.1 k _ hx
    have h2m := hR.2.2.2.2.1 _ (List.getElem_mem hk)
    have hff := (find_first (g := g) hx rfl rfl).2 hf
    obtain ⟨q1, q2, q3, q4, q5⟩ := hg
    obtain ⟨r, r1, r2⟩ := find_at h2m
    have hrl := (List.getElem?_eq_some_iff.1 r2).1
    have hb : L_graph_Back g (k : Int) = some (r : Int) := by rw [graph_back _ (by omega), back_at hx, r1]
    have hb2 : L_graph_Back g (r : Int) = some (k : Int) := by rw [graph_back _ (by omega), back_at r2, hff]
    have hrk : r ≠ k := by
      rintro rfl
      rw [hx] at r2
      injection r2 with r2
      exact q5 (congrArg A2I.a0 r2)
    rw [L_law03_GraphBack_l1, if_pos (by omega), hb, Option.bind_some, if_neg (by omega), if_neg (by omega), if_neg (by omega), hb2, Option.bind_some, if_pos rfl, at_nat, r2, Option.bind_some, at_nat, hx, Option.bind_some, if_pos rfl, graph_find _ _ (by omega), Option.bind_some, hff, if_pos rfl, wr_succ (by omega)]
    exact gback_l1 hR m nf (k + 1) (by omega) (by omega)
theorem gback_l2 (hR : RightP g) : ∀ (m nf k : Nat), k + m = g.N.toNat → m < nf → L_law03_GraphBack_l2 g nf ((g.Links.countP fun x => decide (x.a0 < (k : Int)) : Nat) : Int) (k : Int) = some (g.Links.length : Int)
  | 0, nf + 1, k, h1, h2 => by
    rw [L_law03_GraphBack_l2, if_neg (by omega)]
    congr 2
    rw [List.countP_eq_length]
    intro x hx
    have := (C1_iff.1 hR.2.2.2.1).1 x hx
    obtain ⟨q1, q2, q3, q4, q5⟩ := this
    rw [decide_eq_true_iff]
    omega
  | m + 1, nf + 1, k, h1, h2 => by
    have h30 := hR.2.2.1
    have h6 := hR.2.1
    have hnd := (C1_iff.1 hR.2.2.2.1).2
    have hle : (g.Links.countP fun x => decide (x.a0 < (k : Int))) ≤ g.Links.length := List.countP_le_length
    have ho := outs_len g k
    have hc : (outs_ g (k : Int)).length = g.Links.countP fun x => decide (x.a0 = (k : Int)) := by
      unfold outs_
      rw [idxs_cnt]
    have hs := cnt_succ (k : Int) g.Links
    rw [L_law03_GraphBack_l2, if_pos (by omega), graph_out _ (by omega), Option.bind_some, graph_in _ (by omega), Option.bind_some, if_pos (by rw [outs_ins hnd hR.2.2.2.2.1]), wr (by omega) (by omega), wr_succ (by omega)]
    have e : ((g.Links.countP fun x => decide (x.a0 < (k : Int)) : Nat) : Int) + ((outs_ g (k : Int)).length : Int) = ((g.Links.countP fun x => decide (x.a0 < ((k + 1 : Nat) : Int)) : Nat) : Int) := by
      rw [show ((k + 1 : Nat) : Int) = (k : Int) + 1 by omega, hs, hc]
      omega
    rw [e]
    exact gback_l2 hR m nf (k + 1) (by omega) (by omega)
end
open Classical in
theorem graphBack_true (a0 : TGraph) (w0 : wTGraph a0) : L_law03_GraphBack a0 = some true := by
  unfold L_law03_GraphBack
  rw [law_cut, Option.bind_some]
  have hlen := cut_len a0
  generalize (⟨a0.N, a0.Links.take 40⟩ : TGraph) = g at hlen
  rw [law_ref, Option.bind_some, ref_right (by omega), Option.bind_some]
  by_cases hR : RightP g
  · have h1 := hR.1
    have h6 := hR.2.1
    have g1 := gback_l1 hR g.Links.length (g.Links.length + 1) 0 (by omega) (by omega)
    have g2 := gback_l2 hR g.N.toNat (g.N.toNat + 1) 0 (by omega) (by omega)
    have e0 : (g.Links.countP fun x => decide (x.a0 < ((0 : Nat) : Int))) = 0 := by
      rw [List.countP_eq_zero]
      intro x hx
      have := (C1_iff.1 hR.2.2.2.1).1 x hx
      obtain ⟨q1, q2, q3, q4, q5⟩ := this
      rw [decide_eq_true_iff]
      omega
    rw [e0, show ((0 : Nat) : Int) = 0 from rfl] at g2
    rw [show ((0 : Nat) : Int) = 0 from rfl] at g1
    rw [if_pos (decide_eq_true hR), fuel_eq, g1, Option.bind_some, show (g.N - 0).toNat + 1 = g.N.toNat + 1 by omega, g2, Option.bind_some, if_pos rfl, fixed03]
    rfl
  · rw [if_neg (by simpa using hR), graph_right (by omega), Option.bind_some, if_neg (by simpa using hR), fixed03]
    rfl
end Go.Proofs.Yteohodhcegbmmaa
