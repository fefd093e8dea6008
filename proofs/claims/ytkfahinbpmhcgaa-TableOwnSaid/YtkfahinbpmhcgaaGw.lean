/- What arguments are, as typed values. No condition. -/
import Derived.Test.YtkfahinbpmhcgaaGa
import Derived.Test.YtkfahinbpmhcgaaMs
set_option linter.unusedSimpArgs false
set_option linter.unusedVariables false
namespace Go.Proofs.Ytkfahinbpmhcgaa
open Go.RowKit

theorem ht_3 {l : List C} (h : HasTy Try.prog 3 l) : ∃ x : Int, l = eI x ∧ (wI .i64) x := by
  obtain ⟨n, rfl, h1⟩ := HasTy.int_inv Try.underlying3 h
  exact ⟨n, rfl, h1⟩
theorem ht_28 {l : List C} (h : HasTy Try.prog 28 l) : ∃ x : (List Int), l = (eL eI) x ∧ (wL 8 (wI .i64)) x := by
  obtain ⟨r, rfl, h1, h2⟩ := HasTy.sl_inv Try.underlying28 h
  obtain ⟨x, rfl, h3, h4⟩ := rows_of (enc := eI) (wf := (wI .i64)) fun y hy => ht_3 (h2 y hy)
  rw [← h4] at h1
  rw [show Try.prog.bytesOf 3 = 8 by kernel_rfl] at h1
  exact ⟨x, rfl, h1, h3⟩
def wTSend (x : TSend) : Prop := (wI .i64) x.To ∧ (wI .i64) x.Letter ∧ True
theorem ht_81 {l : List C} (h : HasTy Try.prog 81 l) : ∃ x : TSend, l = eTSend x ∧ wTSend x := by
  have g0 : HasTys Try.prog [3, 3] l := HasTy.struct_inv Try.underlying81 h
  obtain ⟨_, _, e0, h0, g1⟩ := HasTys.cons_inv g0
  obtain ⟨v0, rfl, w0⟩ := ht_3 h0
  obtain ⟨_, _, e1, h1, g2⟩ := HasTys.cons_inv g1
  obtain ⟨v1, rfl, w1⟩ := ht_3 h1
  obtain rfl := HasTys.nil_inv g2
  subst e1 e0
  exact ⟨⟨v0, v1⟩, rfl, w0, w1, trivial⟩
theorem ht_72 {l : List C} (h : HasTy Try.prog 72 l) : ∃ x : (List TSend), l = (eL eTSend) x ∧ (wL 16 wTSend) x := by
  obtain ⟨r, rfl, h1, h2⟩ := HasTy.sl_inv Try.underlying72 h
  obtain ⟨x, rfl, h3, h4⟩ := rows_of (enc := eTSend) (wf := wTSend) fun y hy => ht_81 (h2 y hy)
  rw [← h4] at h1
  rw [show Try.prog.bytesOf 81 = 16 by kernel_rfl] at h1
  exact ⟨x, rfl, h1, h3⟩
def wTPick (x : TPick) : Prop := (wI .i64) x.Next ∧ (wL 16 wTSend) x.Sends ∧ True
theorem ht_74 {l : List C} (h : HasTy Try.prog 74 l) : ∃ x : TPick, l = eTPick x ∧ wTPick x := by
  have g0 : HasTys Try.prog [3, 72] l := HasTy.struct_inv Try.underlying74 h
  obtain ⟨_, _, e0, h0, g1⟩ := HasTys.cons_inv g0
  obtain ⟨v0, rfl, w0⟩ := ht_3 h0
  obtain ⟨_, _, e1, h1, g2⟩ := HasTys.cons_inv g1
  obtain ⟨v1, rfl, w1⟩ := ht_72 h1
  obtain rfl := HasTys.nil_inv g2
  subst e1 e0
  exact ⟨⟨v0, v1⟩, rfl, w0, w1, trivial⟩
theorem ht_83 {l : List C} (h : HasTy Try.prog 83 l) : ∃ x : (List TPick), l = (eL eTPick) x ∧ (wL 32 wTPick) x := by
  obtain ⟨r, rfl, h1, h2⟩ := HasTy.sl_inv Try.underlying83 h
  obtain ⟨x, rfl, h3, h4⟩ := rows_of (enc := eTPick) (wf := wTPick) fun y hy => ht_74 (h2 y hy)
  rw [← h4] at h1
  rw [show Try.prog.bytesOf 74 = 32 by kernel_rfl] at h1
  exact ⟨x, rfl, h1, h3⟩
def wTTake (x : TTake) : Prop := (wI .i64) x.From ∧ (wI .i64) x.Letter ∧ (wI .i64) x.Next ∧ True
theorem ht_88 {l : List C} (h : HasTy Try.prog 88 l) : ∃ x : TTake, l = eTTake x ∧ wTTake x := by
  have g0 : HasTys Try.prog [3, 3, 3] l := HasTy.struct_inv Try.underlying88 h
  obtain ⟨_, _, e0, h0, g1⟩ := HasTys.cons_inv g0
  obtain ⟨v0, rfl, w0⟩ := ht_3 h0
  obtain ⟨_, _, e1, h1, g2⟩ := HasTys.cons_inv g1
  obtain ⟨v1, rfl, w1⟩ := ht_3 h1
  obtain ⟨_, _, e2, h2, g3⟩ := HasTys.cons_inv g2
  obtain ⟨v2, rfl, w2⟩ := ht_3 h2
  obtain rfl := HasTys.nil_inv g3
  subst e2 e1 e0
  exact ⟨⟨v0, v1, v2⟩, rfl, w0, w1, w2, trivial⟩
theorem ht_84 {l : List C} (h : HasTy Try.prog 84 l) : ∃ x : (List TTake), l = (eL eTTake) x ∧ (wL 24 wTTake) x := by
  obtain ⟨r, rfl, h1, h2⟩ := HasTy.sl_inv Try.underlying84 h
  obtain ⟨x, rfl, h3, h4⟩ := rows_of (enc := eTTake) (wf := wTTake) fun y hy => ht_88 (h2 y hy)
  rw [← h4] at h1
  rw [show Try.prog.bytesOf 88 = 24 by kernel_rfl] at h1
  exact ⟨x, rfl, h1, h3⟩
def wTState (x : TState) : Prop := (wI .i64) x.Mode ∧ (wL 8 (wI .i64)) x.Waits ∧ (wL 32 wTPick) x.Picks ∧ (wL 24 wTTake) x.Takes ∧ True
theorem ht_86 {l : List C} (h : HasTy Try.prog 86 l) : ∃ x : TState, l = eTState x ∧ wTState x := by
  have g0 : HasTys Try.prog [3, 28, 83, 84] l := HasTy.struct_inv Try.underlying86 h
  obtain ⟨_, _, e0, h0, g1⟩ := HasTys.cons_inv g0
  obtain ⟨v0, rfl, w0⟩ := ht_3 h0
  obtain ⟨_, _, e1, h1, g2⟩ := HasTys.cons_inv g1
  obtain ⟨v1, rfl, w1⟩ := ht_28 h1
  obtain ⟨_, _, e2, h2, g3⟩ := HasTys.cons_inv g2
  obtain ⟨v2, rfl, w2⟩ := ht_83 h2
  obtain ⟨_, _, e3, h3, g4⟩ := HasTys.cons_inv g3
  obtain ⟨v3, rfl, w3⟩ := ht_84 h3
  obtain rfl := HasTys.nil_inv g4
  subst e3 e2 e1 e0
  exact ⟨⟨v0, v1, v2, v3⟩, rfl, w0, w1, w2, w3, trivial⟩
theorem ht_66 {l : List C} (h : HasTy Try.prog 66 l) : ∃ x : (List TState), l = (eL eTState) x ∧ (wL 80 wTState) x := by
  obtain ⟨r, rfl, h1, h2⟩ := HasTy.sl_inv Try.underlying66 h
  obtain ⟨x, rfl, h3, h4⟩ := rows_of (enc := eTState) (wf := wTState) fun y hy => ht_86 (h2 y hy)
  rw [← h4] at h1
  rw [show Try.prog.bytesOf 86 = 80 by kernel_rfl] at h1
  exact ⟨x, rfl, h1, h3⟩
def wTNode (x : TNode) : Prop := (wI .i64) x.Start ∧ (wL 80 wTState) x.States ∧ True
theorem ht_68 {l : List C} (h : HasTy Try.prog 68 l) : ∃ x : TNode, l = eTNode x ∧ wTNode x := by
  have g0 : HasTys Try.prog [3, 66] l := HasTy.struct_inv Try.underlying68 h
  obtain ⟨_, _, e0, h0, g1⟩ := HasTys.cons_inv g0
  obtain ⟨v0, rfl, w0⟩ := ht_3 h0
  obtain ⟨_, _, e1, h1, g2⟩ := HasTys.cons_inv g1
  obtain ⟨v1, rfl, w1⟩ := ht_66 h1
  obtain rfl := HasTys.nil_inv g2
  subst e1 e0
  exact ⟨⟨v0, v1⟩, rfl, w0, w1, trivial⟩
theorem ht_25 {l : List C} (h : HasTy Try.prog 25 l) : ∃ x : (List TNode), l = (eL eTNode) x ∧ (wL 32 wTNode) x := by
  obtain ⟨r, rfl, h1, h2⟩ := HasTy.sl_inv Try.underlying25 h
  obtain ⟨x, rfl, h3, h4⟩ := rows_of (enc := eTNode) (wf := wTNode) fun y hy => ht_68 (h2 y hy)
  rw [← h4] at h1
  rw [show Try.prog.bytesOf 68 = 32 by kernel_rfl] at h1
  exact ⟨x, rfl, h1, h3⟩
def wA2I (x : A2I) : Prop := (wI .i64) x.a0 ∧ (wI .i64) x.a1 ∧ True
theorem ht_134 {l : List C} (h : HasTy Try.prog 134 l) : ∃ x : A2I, l = eA2I x ∧ wA2I x := by
  have g0 : HasTys Try.prog [3, 3] l := HasTy.array_inv Try.underlying134 h
  obtain ⟨_, _, e0, h0, g1⟩ := HasTys.cons_inv g0
  obtain ⟨v0, rfl, w0⟩ := ht_3 h0
  obtain ⟨_, _, e1, h1, g2⟩ := HasTys.cons_inv g1
  obtain ⟨v1, rfl, w1⟩ := ht_3 h1
  obtain rfl := HasTys.nil_inv g2
  subst e1 e0
  exact ⟨⟨v0, v1⟩, rfl, w0, w1, trivial⟩
theorem ht_22 {l : List C} (h : HasTy Try.prog 22 l) : ∃ x : (List A2I), l = (eL eA2I) x ∧ (wL 16 wA2I) x := by
  obtain ⟨r, rfl, h1, h2⟩ := HasTy.sl_inv Try.underlying22 h
  obtain ⟨x, rfl, h3, h4⟩ := rows_of (enc := eA2I) (wf := wA2I) fun y hy => ht_134 (h2 y hy)
  rw [← h4] at h1
  rw [show Try.prog.bytesOf 134 = 16 by kernel_rfl] at h1
  exact ⟨x, rfl, h1, h3⟩
def wTGraph (x : TGraph) : Prop := (wI .i64) x.N ∧ (wL 16 wA2I) x.Links ∧ True
theorem ht_24 {l : List C} (h : HasTy Try.prog 24 l) : ∃ x : TGraph, l = eTGraph x ∧ wTGraph x := by
  have g0 : HasTys Try.prog [3, 22] l := HasTy.struct_inv Try.underlying24 h
  obtain ⟨_, _, e0, h0, g1⟩ := HasTys.cons_inv g0
  obtain ⟨v0, rfl, w0⟩ := ht_3 h0
  obtain ⟨_, _, e1, h1, g2⟩ := HasTys.cons_inv g1
  obtain ⟨v1, rfl, w1⟩ := ht_22 h1
  obtain rfl := HasTys.nil_inv g2
  subst e1 e0
  exact ⟨⟨v0, v1⟩, rfl, w0, w1, trivial⟩
def wTCourse (x : TCourse) : Prop := (wI .i64) x.Node ∧ (wI .i64) x.State ∧ (wI .i64) x.On ∧ (wL 8 (wI .i64)) x.From ∧ True
theorem ht_60 {l : List C} (h : HasTy Try.prog 60 l) : ∃ x : TCourse, l = eTCourse x ∧ wTCourse x := by
  have g0 : HasTys Try.prog [3, 3, 3, 28] l := HasTy.struct_inv Try.underlying60 h
  obtain ⟨_, _, e0, h0, g1⟩ := HasTys.cons_inv g0
  obtain ⟨v0, rfl, w0⟩ := ht_3 h0
  obtain ⟨_, _, e1, h1, g2⟩ := HasTys.cons_inv g1
  obtain ⟨v1, rfl, w1⟩ := ht_3 h1
  obtain ⟨_, _, e2, h2, g3⟩ := HasTys.cons_inv g2
  obtain ⟨v2, rfl, w2⟩ := ht_3 h2
  obtain ⟨_, _, e3, h3, g4⟩ := HasTys.cons_inv g3
  obtain ⟨v3, rfl, w3⟩ := ht_28 h3
  obtain rfl := HasTys.nil_inv g4
  subst e3 e2 e1 e0
  exact ⟨⟨v0, v1, v2, v3⟩, rfl, w0, w1, w2, w3, trivial⟩
def wA3I (x : A3I) : Prop := (wI .i64) x.a0 ∧ (wI .i64) x.a1 ∧ (wI .i64) x.a2 ∧ True
theorem ht_82 {l : List C} (h : HasTy Try.prog 82 l) : ∃ x : A3I, l = eA3I x ∧ wA3I x := by
  have g0 : HasTys Try.prog [3, 3, 3] l := HasTy.array_inv Try.underlying82 h
  obtain ⟨_, _, e0, h0, g1⟩ := HasTys.cons_inv g0
  obtain ⟨v0, rfl, w0⟩ := ht_3 h0
  obtain ⟨_, _, e1, h1, g2⟩ := HasTys.cons_inv g1
  obtain ⟨v1, rfl, w1⟩ := ht_3 h1
  obtain ⟨_, _, e2, h2, g3⟩ := HasTys.cons_inv g2
  obtain ⟨v2, rfl, w2⟩ := ht_3 h2
  obtain rfl := HasTys.nil_inv g3
  subst e2 e1 e0
  exact ⟨⟨v0, v1, v2⟩, rfl, w0, w1, w2, trivial⟩
def wA5I (x : A5I) : Prop := (wI .i64) x.a0 ∧ (wI .i64) x.a1 ∧ (wI .i64) x.a2 ∧ (wI .i64) x.a3 ∧ (wI .i64) x.a4 ∧ True
theorem ht_91 {l : List C} (h : HasTy Try.prog 91 l) : ∃ x : A5I, l = eA5I x ∧ wA5I x := by
  have g0 : HasTys Try.prog [3, 3, 3, 3, 3] l := HasTy.array_inv Try.underlying91 h
  obtain ⟨_, _, e0, h0, g1⟩ := HasTys.cons_inv g0
  obtain ⟨v0, rfl, w0⟩ := ht_3 h0
  obtain ⟨_, _, e1, h1, g2⟩ := HasTys.cons_inv g1
  obtain ⟨v1, rfl, w1⟩ := ht_3 h1
  obtain ⟨_, _, e2, h2, g3⟩ := HasTys.cons_inv g2
  obtain ⟨v2, rfl, w2⟩ := ht_3 h2
  obtain ⟨_, _, e3, h3, g4⟩ := HasTys.cons_inv g3
  obtain ⟨v3, rfl, w3⟩ := ht_3 h3
  obtain ⟨_, _, e4, h4, g5⟩ := HasTys.cons_inv g4
  obtain ⟨v4, rfl, w4⟩ := ht_3 h4
  obtain rfl := HasTys.nil_inv g5
  subst e4 e3 e2 e1 e0
  exact ⟨⟨v0, v1, v2, v3, v4⟩, rfl, w0, w1, w2, w3, w4, trivial⟩
theorem ht_4 {l : List C} (h : HasTy Try.prog 4 l) : ∃ x : Bool, l = eB x ∧ wB x := by
  obtain ⟨b, rfl⟩ := HasTy.bool_inv Try.underlying4 h
  exact ⟨b, rfl, trivial⟩
theorem ht_93 {l : List C} (h : HasTy Try.prog 93 l) : ∃ x : (List Bool), l = (eL eB) x ∧ (wL 1 wB) x := by
  obtain ⟨r, rfl, h1, h2⟩ := HasTy.sl_inv Try.underlying93 h
  obtain ⟨x, rfl, h3, h4⟩ := rows_of (enc := eB) (wf := wB) fun y hy => ht_4 (h2 y hy)
  rw [← h4] at h1
  rw [show Try.prog.bytesOf 4 = 1 by kernel_rfl] at h1
  exact ⟨x, rfl, h1, h3⟩
end Go.Proofs.Ytkfahinbpmhcgaa
