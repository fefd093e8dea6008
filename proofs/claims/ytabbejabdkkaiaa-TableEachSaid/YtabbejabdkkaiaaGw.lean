/- What arguments are, as typed values. No condition. -/
import Derived.Test.YtabbejabdkkaiaaGa
import Derived.Test.YtabbejabdkkaiaaMs
set_option linter.unusedSimpArgs false
set_option linter.unusedVariables false
namespace Go.Proofs.Ytabbejabdkkaiaa
open Go.RowKit

theorem ht_3 {l : List C} (h : HasTy Try.prog 3 l) : ∃ x : Int, l = eI x ∧ (wI .i64) x := by
  obtain ⟨n, rfl, h1⟩ := HasTy.int_inv Try.underlying3 h
  exact ⟨n, rfl, h1⟩
theorem ht_39 {l : List C} (h : HasTy Try.prog 39 l) : ∃ x : (List Int), l = (eL eI) x ∧ (wL 8 (wI .i64)) x := by
  obtain ⟨r, rfl, h1, h2⟩ := HasTy.sl_inv Try.underlying39 h
  obtain ⟨x, rfl, h3, h4⟩ := rows_of (enc := eI) (wf := (wI .i64)) fun y hy => ht_3 (h2 y hy)
  rw [← h4] at h1
  rw [show Try.prog.bytesOf 3 = 8 by kernel_rfl] at h1
  exact ⟨x, rfl, h1, h3⟩
def wTSend (x : TSend) : Prop := (wI .i64) x.To ∧ (wI .i64) x.Letter ∧ True
theorem ht_50 {l : List C} (h : HasTy Try.prog 50 l) : ∃ x : TSend, l = eTSend x ∧ wTSend x := by
  have g0 : HasTys Try.prog [3, 3] l := HasTy.struct_inv Try.underlying50 h
  obtain ⟨_, _, e0, h0, g1⟩ := HasTys.cons_inv g0
  obtain ⟨v0, rfl, w0⟩ := ht_3 h0
  obtain ⟨_, _, e1, h1, g2⟩ := HasTys.cons_inv g1
  obtain ⟨v1, rfl, w1⟩ := ht_3 h1
  obtain rfl := HasTys.nil_inv g2
  subst e1 e0
  exact ⟨⟨v0, v1⟩, rfl, w0, w1, trivial⟩
theorem ht_44 {l : List C} (h : HasTy Try.prog 44 l) : ∃ x : (List TSend), l = (eL eTSend) x ∧ (wL 16 wTSend) x := by
  obtain ⟨r, rfl, h1, h2⟩ := HasTy.sl_inv Try.underlying44 h
  obtain ⟨x, rfl, h3, h4⟩ := rows_of (enc := eTSend) (wf := wTSend) fun y hy => ht_50 (h2 y hy)
  rw [← h4] at h1
  rw [show Try.prog.bytesOf 50 = 16 by kernel_rfl] at h1
  exact ⟨x, rfl, h1, h3⟩
def wTPick (x : TPick) : Prop := (wI .i64) x.Next ∧ (wL 16 wTSend) x.Sends ∧ True
theorem ht_46 {l : List C} (h : HasTy Try.prog 46 l) : ∃ x : TPick, l = eTPick x ∧ wTPick x := by
  have g0 : HasTys Try.prog [3, 44] l := HasTy.struct_inv Try.underlying46 h
  obtain ⟨_, _, e0, h0, g1⟩ := HasTys.cons_inv g0
  obtain ⟨v0, rfl, w0⟩ := ht_3 h0
  obtain ⟨_, _, e1, h1, g2⟩ := HasTys.cons_inv g1
  obtain ⟨v1, rfl, w1⟩ := ht_44 h1
  obtain rfl := HasTys.nil_inv g2
  subst e1 e0
  exact ⟨⟨v0, v1⟩, rfl, w0, w1, trivial⟩
theorem ht_40 {l : List C} (h : HasTy Try.prog 40 l) : ∃ x : (List TPick), l = (eL eTPick) x ∧ (wL 32 wTPick) x := by
  obtain ⟨r, rfl, h1, h2⟩ := HasTy.sl_inv Try.underlying40 h
  obtain ⟨x, rfl, h3, h4⟩ := rows_of (enc := eTPick) (wf := wTPick) fun y hy => ht_46 (h2 y hy)
  rw [← h4] at h1
  rw [show Try.prog.bytesOf 46 = 32 by kernel_rfl] at h1
  exact ⟨x, rfl, h1, h3⟩
def wTTake (x : TTake) : Prop := (wI .i64) x.From ∧ (wI .i64) x.Letter ∧ (wI .i64) x.Next ∧ True
theorem ht_48 {l : List C} (h : HasTy Try.prog 48 l) : ∃ x : TTake, l = eTTake x ∧ wTTake x := by
  have g0 : HasTys Try.prog [3, 3, 3] l := HasTy.struct_inv Try.underlying48 h
  obtain ⟨_, _, e0, h0, g1⟩ := HasTys.cons_inv g0
  obtain ⟨v0, rfl, w0⟩ := ht_3 h0
  obtain ⟨_, _, e1, h1, g2⟩ := HasTys.cons_inv g1
  obtain ⟨v1, rfl, w1⟩ := ht_3 h1
  obtain ⟨_, _, e2, h2, g3⟩ := HasTys.cons_inv g2
  obtain ⟨v2, rfl, w2⟩ := ht_3 h2
  obtain rfl := HasTys.nil_inv g3
  subst e2 e1 e0
  exact ⟨⟨v0, v1, v2⟩, rfl, w0, w1, w2, trivial⟩
theorem ht_41 {l : List C} (h : HasTy Try.prog 41 l) : ∃ x : (List TTake), l = (eL eTTake) x ∧ (wL 24 wTTake) x := by
  obtain ⟨r, rfl, h1, h2⟩ := HasTy.sl_inv Try.underlying41 h
  obtain ⟨x, rfl, h3, h4⟩ := rows_of (enc := eTTake) (wf := wTTake) fun y hy => ht_48 (h2 y hy)
  rw [← h4] at h1
  rw [show Try.prog.bytesOf 48 = 24 by kernel_rfl] at h1
  exact ⟨x, rfl, h1, h3⟩
def wTState (x : TState) : Prop := (wI .i64) x.Mode ∧ (wL 8 (wI .i64)) x.Waits ∧ (wL 32 wTPick) x.Picks ∧ (wL 24 wTTake) x.Takes ∧ True
theorem ht_43 {l : List C} (h : HasTy Try.prog 43 l) : ∃ x : TState, l = eTState x ∧ wTState x := by
  have g0 : HasTys Try.prog [3, 39, 40, 41] l := HasTy.struct_inv Try.underlying43 h
  obtain ⟨_, _, e0, h0, g1⟩ := HasTys.cons_inv g0
  obtain ⟨v0, rfl, w0⟩ := ht_3 h0
  obtain ⟨_, _, e1, h1, g2⟩ := HasTys.cons_inv g1
  obtain ⟨v1, rfl, w1⟩ := ht_39 h1
  obtain ⟨_, _, e2, h2, g3⟩ := HasTys.cons_inv g2
  obtain ⟨v2, rfl, w2⟩ := ht_40 h2
  obtain ⟨_, _, e3, h3, g4⟩ := HasTys.cons_inv g3
  obtain ⟨v3, rfl, w3⟩ := ht_41 h3
  obtain rfl := HasTys.nil_inv g4
  subst e3 e2 e1 e0
  exact ⟨⟨v0, v1, v2, v3⟩, rfl, w0, w1, w2, w3, trivial⟩
theorem ht_36 {l : List C} (h : HasTy Try.prog 36 l) : ∃ x : (List TState), l = (eL eTState) x ∧ (wL 80 wTState) x := by
  obtain ⟨r, rfl, h1, h2⟩ := HasTy.sl_inv Try.underlying36 h
  obtain ⟨x, rfl, h3, h4⟩ := rows_of (enc := eTState) (wf := wTState) fun y hy => ht_43 (h2 y hy)
  rw [← h4] at h1
  rw [show Try.prog.bytesOf 43 = 80 by kernel_rfl] at h1
  exact ⟨x, rfl, h1, h3⟩
def wTNode (x : TNode) : Prop := (wI .i64) x.Start ∧ (wL 80 wTState) x.States ∧ True
theorem ht_38 {l : List C} (h : HasTy Try.prog 38 l) : ∃ x : TNode, l = eTNode x ∧ wTNode x := by
  have g0 : HasTys Try.prog [3, 36] l := HasTy.struct_inv Try.underlying38 h
  obtain ⟨_, _, e0, h0, g1⟩ := HasTys.cons_inv g0
  obtain ⟨v0, rfl, w0⟩ := ht_3 h0
  obtain ⟨_, _, e1, h1, g2⟩ := HasTys.cons_inv g1
  obtain ⟨v1, rfl, w1⟩ := ht_36 h1
  obtain rfl := HasTys.nil_inv g2
  subst e1 e0
  exact ⟨⟨v0, v1⟩, rfl, w0, w1, trivial⟩
theorem ht_22 {l : List C} (h : HasTy Try.prog 22 l) : ∃ x : (List TNode), l = (eL eTNode) x ∧ (wL 32 wTNode) x := by
  obtain ⟨r, rfl, h1, h2⟩ := HasTy.sl_inv Try.underlying22 h
  obtain ⟨x, rfl, h3, h4⟩ := rows_of (enc := eTNode) (wf := wTNode) fun y hy => ht_38 (h2 y hy)
  rw [← h4] at h1
  rw [show Try.prog.bytesOf 38 = 32 by kernel_rfl] at h1
  exact ⟨x, rfl, h1, h3⟩
def wA2I (x : A2I) : Prop := (wI .i64) x.a0 ∧ (wI .i64) x.a1 ∧ True
theorem ht_126 {l : List C} (h : HasTy Try.prog 126 l) : ∃ x : A2I, l = eA2I x ∧ wA2I x := by
  have g0 : HasTys Try.prog [3, 3] l := HasTy.array_inv Try.underlying126 h
  obtain ⟨_, _, e0, h0, g1⟩ := HasTys.cons_inv g0
  obtain ⟨v0, rfl, w0⟩ := ht_3 h0
  obtain ⟨_, _, e1, h1, g2⟩ := HasTys.cons_inv g1
  obtain ⟨v1, rfl, w1⟩ := ht_3 h1
  obtain rfl := HasTys.nil_inv g2
  subst e1 e0
  exact ⟨⟨v0, v1⟩, rfl, w0, w1, trivial⟩
theorem ht_23 {l : List C} (h : HasTy Try.prog 23 l) : ∃ x : (List A2I), l = (eL eA2I) x ∧ (wL 16 wA2I) x := by
  obtain ⟨r, rfl, h1, h2⟩ := HasTy.sl_inv Try.underlying23 h
  obtain ⟨x, rfl, h3, h4⟩ := rows_of (enc := eA2I) (wf := wA2I) fun y hy => ht_126 (h2 y hy)
  rw [← h4] at h1
  rw [show Try.prog.bytesOf 126 = 16 by kernel_rfl] at h1
  exact ⟨x, rfl, h1, h3⟩
def wTGraph (x : TGraph) : Prop := (wI .i64) x.N ∧ (wL 16 wA2I) x.Links ∧ True
theorem ht_25 {l : List C} (h : HasTy Try.prog 25 l) : ∃ x : TGraph, l = eTGraph x ∧ wTGraph x := by
  have g0 : HasTys Try.prog [3, 23] l := HasTy.struct_inv Try.underlying25 h
  obtain ⟨_, _, e0, h0, g1⟩ := HasTys.cons_inv g0
  obtain ⟨v0, rfl, w0⟩ := ht_3 h0
  obtain ⟨_, _, e1, h1, g2⟩ := HasTys.cons_inv g1
  obtain ⟨v1, rfl, w1⟩ := ht_23 h1
  obtain rfl := HasTys.nil_inv g2
  subst e1 e0
  exact ⟨⟨v0, v1⟩, rfl, w0, w1, trivial⟩
def wA3I (x : A3I) : Prop := (wI .i64) x.a0 ∧ (wI .i64) x.a1 ∧ (wI .i64) x.a2 ∧ True
theorem ht_26 {l : List C} (h : HasTy Try.prog 26 l) : ∃ x : A3I, l = eA3I x ∧ wA3I x := by
  have g0 : HasTys Try.prog [3, 3, 3] l := HasTy.array_inv Try.underlying26 h
  obtain ⟨_, _, e0, h0, g1⟩ := HasTys.cons_inv g0
  obtain ⟨v0, rfl, w0⟩ := ht_3 h0
  obtain ⟨_, _, e1, h1, g2⟩ := HasTys.cons_inv g1
  obtain ⟨v1, rfl, w1⟩ := ht_3 h1
  obtain ⟨_, _, e2, h2, g3⟩ := HasTys.cons_inv g2
  obtain ⟨v2, rfl, w2⟩ := ht_3 h2
  obtain rfl := HasTys.nil_inv g3
  subst e2 e1 e0
  exact ⟨⟨v0, v1, v2⟩, rfl, w0, w1, w2, trivial⟩
end Go.Proofs.Ytabbejabdkkaiaa
