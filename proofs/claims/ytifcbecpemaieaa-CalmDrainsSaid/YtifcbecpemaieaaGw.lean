/- What arguments are, as typed values. No condition. -/
import Derived.Test.YtifcbecpemaieaaGa
import Derived.Test.YtifcbecpemaieaaMs
set_option linter.unusedSimpArgs false
set_option linter.unusedVariables false
namespace Go.Proofs.Ytifcbecpemaieaa
open Go.RowKit

theorem ht_3 {l : List C} (h : HasTy Try.prog 3 l) : ∃ x : Int, l = eI x ∧ (wI .i64) x := by
  obtain ⟨n, rfl, h1⟩ := HasTy.int_inv Try.underlying3 h
  exact ⟨n, rfl, h1⟩
def wA2I (x : A2I) : Prop := (wI .i64) x.a0 ∧ (wI .i64) x.a1 ∧ True
theorem ht_97 {l : List C} (h : HasTy Try.prog 97 l) : ∃ x : A2I, l = eA2I x ∧ wA2I x := by
  have g0 : HasTys Try.prog [3, 3] l := HasTy.array_inv Try.underlying97 h
  obtain ⟨_, _, e0, h0, g1⟩ := HasTys.cons_inv g0
  obtain ⟨v0, rfl, w0⟩ := ht_3 h0
  obtain ⟨_, _, e1, h1, g2⟩ := HasTys.cons_inv g1
  obtain ⟨v1, rfl, w1⟩ := ht_3 h1
  obtain rfl := HasTys.nil_inv g2
  subst e1 e0
  exact ⟨⟨v0, v1⟩, rfl, w0, w1, trivial⟩
theorem ht_22 {l : List C} (h : HasTy Try.prog 22 l) : ∃ x : (List A2I), l = (eL eA2I) x ∧ (wL 16 wA2I) x := by
  obtain ⟨r, rfl, h1, h2⟩ := HasTy.sl_inv Try.underlying22 h
  obtain ⟨x, rfl, h3, h4⟩ := rows_of (enc := eA2I) (wf := wA2I) fun y hy => ht_97 (h2 y hy)
  rw [← h4] at h1
  rw [show Try.prog.bytesOf 97 = 16 by kernel_rfl] at h1
  exact ⟨x, rfl, h1, h3⟩
def wTGraph (x : TGraph) : Prop := (wI .i64) x.N ∧ (wL 16 wA2I) x.Links ∧ True
theorem ht_24 {l : List C} (h : HasTy Try.prog 24 l) : ∃ x : TGraph, l = eTGraph x ∧ wTGraph x := by
  have g0 : HasTys Try.prog [3, 22] l := HasTy.struct_inv Try.underlying24 h
  obtain ⟨_, _, e0, h0, g1⟩ := HasTys.cons_inv g0
  obtain ⟨v0, rfl, w0⟩ := ht_3 h0
  obtain ⟨_, _, e1, h1, g2⟩ := HasTys.cons_inv g1
  obtain ⟨v1, rfl, w1⟩ := ht_22 h1
  obtain rfl := HasTys.nil_inv g2
  subst e1 e0
  exact ⟨⟨v0, v1⟩, rfl, w0, w1, trivial⟩
theorem ht_28 {l : List C} (h : HasTy Try.prog 28 l) : ∃ x : (List Int), l = (eL eI) x ∧ (wL 8 (wI .i64)) x := by
  obtain ⟨r, rfl, h1, h2⟩ := HasTy.sl_inv Try.underlying28 h
  obtain ⟨x, rfl, h3, h4⟩ := rows_of (enc := eI) (wf := (wI .i64)) fun y hy => ht_3 (h2 y hy)
  rw [← h4] at h1
  rw [show Try.prog.bytesOf 3 = 8 by kernel_rfl] at h1
  exact ⟨x, rfl, h1, h3⟩
def wTSend (x : TSend) : Prop := (wI .i64) x.To ∧ (wI .i64) x.Letter ∧ True
theorem ht_146 {l : List C} (h : HasTy Try.prog 146 l) : ∃ x : TSend, l = eTSend x ∧ wTSend x := by
  have g0 : HasTys Try.prog [3, 3] l := HasTy.struct_inv Try.underlying146 h
  obtain ⟨_, _, e0, h0, g1⟩ := HasTys.cons_inv g0
  obtain ⟨v0, rfl, w0⟩ := ht_3 h0
  obtain ⟨_, _, e1, h1, g2⟩ := HasTys.cons_inv g1
  obtain ⟨v1, rfl, w1⟩ := ht_3 h1
  obtain rfl := HasTys.nil_inv g2
  subst e1 e0
  exact ⟨⟨v0, v1⟩, rfl, w0, w1, trivial⟩
theorem ht_147 {l : List C} (h : HasTy Try.prog 147 l) : ∃ x : (List TSend), l = (eL eTSend) x ∧ (wL 16 wTSend) x := by
  obtain ⟨r, rfl, h1, h2⟩ := HasTy.sl_inv Try.underlying147 h
  obtain ⟨x, rfl, h3, h4⟩ := rows_of (enc := eTSend) (wf := wTSend) fun y hy => ht_146 (h2 y hy)
  rw [← h4] at h1
  rw [show Try.prog.bytesOf 146 = 16 by kernel_rfl] at h1
  exact ⟨x, rfl, h1, h3⟩
def wTPick (x : TPick) : Prop := (wI .i64) x.Next ∧ (wL 16 wTSend) x.Sends ∧ True
theorem ht_149 {l : List C} (h : HasTy Try.prog 149 l) : ∃ x : TPick, l = eTPick x ∧ wTPick x := by
  have g0 : HasTys Try.prog [3, 147] l := HasTy.struct_inv Try.underlying149 h
  obtain ⟨_, _, e0, h0, g1⟩ := HasTys.cons_inv g0
  obtain ⟨v0, rfl, w0⟩ := ht_3 h0
  obtain ⟨_, _, e1, h1, g2⟩ := HasTys.cons_inv g1
  obtain ⟨v1, rfl, w1⟩ := ht_147 h1
  obtain rfl := HasTys.nil_inv g2
  subst e1 e0
  exact ⟨⟨v0, v1⟩, rfl, w0, w1, trivial⟩
theorem ht_138 {l : List C} (h : HasTy Try.prog 138 l) : ∃ x : (List TPick), l = (eL eTPick) x ∧ (wL 32 wTPick) x := by
  obtain ⟨r, rfl, h1, h2⟩ := HasTy.sl_inv Try.underlying138 h
  obtain ⟨x, rfl, h3, h4⟩ := rows_of (enc := eTPick) (wf := wTPick) fun y hy => ht_149 (h2 y hy)
  rw [← h4] at h1
  rw [show Try.prog.bytesOf 149 = 32 by kernel_rfl] at h1
  exact ⟨x, rfl, h1, h3⟩
def wTTake (x : TTake) : Prop := (wI .i64) x.From ∧ (wI .i64) x.Letter ∧ (wI .i64) x.Next ∧ True
theorem ht_151 {l : List C} (h : HasTy Try.prog 151 l) : ∃ x : TTake, l = eTTake x ∧ wTTake x := by
  have g0 : HasTys Try.prog [3, 3, 3] l := HasTy.struct_inv Try.underlying151 h
  obtain ⟨_, _, e0, h0, g1⟩ := HasTys.cons_inv g0
  obtain ⟨v0, rfl, w0⟩ := ht_3 h0
  obtain ⟨_, _, e1, h1, g2⟩ := HasTys.cons_inv g1
  obtain ⟨v1, rfl, w1⟩ := ht_3 h1
  obtain ⟨_, _, e2, h2, g3⟩ := HasTys.cons_inv g2
  obtain ⟨v2, rfl, w2⟩ := ht_3 h2
  obtain rfl := HasTys.nil_inv g3
  subst e2 e1 e0
  exact ⟨⟨v0, v1, v2⟩, rfl, w0, w1, w2, trivial⟩
theorem ht_139 {l : List C} (h : HasTy Try.prog 139 l) : ∃ x : (List TTake), l = (eL eTTake) x ∧ (wL 24 wTTake) x := by
  obtain ⟨r, rfl, h1, h2⟩ := HasTy.sl_inv Try.underlying139 h
  obtain ⟨x, rfl, h3, h4⟩ := rows_of (enc := eTTake) (wf := wTTake) fun y hy => ht_151 (h2 y hy)
  rw [← h4] at h1
  rw [show Try.prog.bytesOf 151 = 24 by kernel_rfl] at h1
  exact ⟨x, rfl, h1, h3⟩
def wTState (x : TState) : Prop := (wI .i64) x.Mode ∧ (wL 8 (wI .i64)) x.Waits ∧ (wL 32 wTPick) x.Picks ∧ (wL 24 wTTake) x.Takes ∧ True
theorem ht_141 {l : List C} (h : HasTy Try.prog 141 l) : ∃ x : TState, l = eTState x ∧ wTState x := by
  have g0 : HasTys Try.prog [3, 28, 138, 139] l := HasTy.struct_inv Try.underlying141 h
  obtain ⟨_, _, e0, h0, g1⟩ := HasTys.cons_inv g0
  obtain ⟨v0, rfl, w0⟩ := ht_3 h0
  obtain ⟨_, _, e1, h1, g2⟩ := HasTys.cons_inv g1
  obtain ⟨v1, rfl, w1⟩ := ht_28 h1
  obtain ⟨_, _, e2, h2, g3⟩ := HasTys.cons_inv g2
  obtain ⟨v2, rfl, w2⟩ := ht_138 h2
  obtain ⟨_, _, e3, h3, g4⟩ := HasTys.cons_inv g3
  obtain ⟨v3, rfl, w3⟩ := ht_139 h3
  obtain rfl := HasTys.nil_inv g4
  subst e3 e2 e1 e0
  exact ⟨⟨v0, v1, v2, v3⟩, rfl, w0, w1, w2, w3, trivial⟩
theorem ht_118 {l : List C} (h : HasTy Try.prog 118 l) : ∃ x : (List TState), l = (eL eTState) x ∧ (wL 80 wTState) x := by
  obtain ⟨r, rfl, h1, h2⟩ := HasTy.sl_inv Try.underlying118 h
  obtain ⟨x, rfl, h3, h4⟩ := rows_of (enc := eTState) (wf := wTState) fun y hy => ht_141 (h2 y hy)
  rw [← h4] at h1
  rw [show Try.prog.bytesOf 141 = 80 by kernel_rfl] at h1
  exact ⟨x, rfl, h1, h3⟩
def wTNode (x : TNode) : Prop := (wI .i64) x.Start ∧ (wL 80 wTState) x.States ∧ True
theorem ht_120 {l : List C} (h : HasTy Try.prog 120 l) : ∃ x : TNode, l = eTNode x ∧ wTNode x := by
  have g0 : HasTys Try.prog [3, 118] l := HasTy.struct_inv Try.underlying120 h
  obtain ⟨_, _, e0, h0, g1⟩ := HasTys.cons_inv g0
  obtain ⟨v0, rfl, w0⟩ := ht_3 h0
  obtain ⟨_, _, e1, h1, g2⟩ := HasTys.cons_inv g1
  obtain ⟨v1, rfl, w1⟩ := ht_118 h1
  obtain rfl := HasTys.nil_inv g2
  subst e1 e0
  exact ⟨⟨v0, v1⟩, rfl, w0, w1, trivial⟩
theorem ht_25 {l : List C} (h : HasTy Try.prog 25 l) : ∃ x : (List TNode), l = (eL eTNode) x ∧ (wL 32 wTNode) x := by
  obtain ⟨r, rfl, h1, h2⟩ := HasTy.sl_inv Try.underlying25 h
  obtain ⟨x, rfl, h3, h4⟩ := rows_of (enc := eTNode) (wf := wTNode) fun y hy => ht_120 (h2 y hy)
  rw [← h4] at h1
  rw [show Try.prog.bytesOf 120 = 32 by kernel_rfl] at h1
  exact ⟨x, rfl, h1, h3⟩
theorem ht_4 {l : List C} (h : HasTy Try.prog 4 l) : ∃ x : Bool, l = eB x ∧ wB x := by
  obtain ⟨b, rfl⟩ := HasTy.bool_inv Try.underlying4 h
  exact ⟨b, rfl, trivial⟩
def wTApp (x : TApp) : Prop := wTGraph x.G ∧ (wL 32 wTNode) x.T ∧ wB x.Fifo ∧ True
theorem ht_27 {l : List C} (h : HasTy Try.prog 27 l) : ∃ x : TApp, l = eTApp x ∧ wTApp x := by
  have g0 : HasTys Try.prog [24, 25, 4] l := HasTy.struct_inv Try.underlying27 h
  obtain ⟨_, _, e0, h0, g1⟩ := HasTys.cons_inv g0
  obtain ⟨v0, rfl, w0⟩ := ht_24 h0
  obtain ⟨_, _, e1, h1, g2⟩ := HasTys.cons_inv g1
  obtain ⟨v1, rfl, w1⟩ := ht_25 h1
  obtain ⟨_, _, e2, h2, g3⟩ := HasTys.cons_inv g2
  obtain ⟨v2, rfl, w2⟩ := ht_4 h2
  obtain rfl := HasTys.nil_inv g3
  subst e2 e1 e0
  exact ⟨⟨v0, v1, v2⟩, rfl, w0, w1, w2, trivial⟩
def wTMsg (x : TMsg) : Prop := (wI .i64) x.Seq ∧ (wI .i64) x.Letter ∧ True
theorem ht_70 {l : List C} (h : HasTy Try.prog 70 l) : ∃ x : TMsg, l = eTMsg x ∧ wTMsg x := by
  have g0 : HasTys Try.prog [3, 3] l := HasTy.struct_inv Try.underlying70 h
  obtain ⟨_, _, e0, h0, g1⟩ := HasTys.cons_inv g0
  obtain ⟨v0, rfl, w0⟩ := ht_3 h0
  obtain ⟨_, _, e1, h1, g2⟩ := HasTys.cons_inv g1
  obtain ⟨v1, rfl, w1⟩ := ht_3 h1
  obtain rfl := HasTys.nil_inv g2
  subst e1 e0
  exact ⟨⟨v0, v1⟩, rfl, w0, w1, trivial⟩
theorem ht_43 {l : List C} (h : HasTy Try.prog 43 l) : ∃ x : (List TMsg), l = (eL eTMsg) x ∧ (wL 16 wTMsg) x := by
  obtain ⟨r, rfl, h1, h2⟩ := HasTy.sl_inv Try.underlying43 h
  obtain ⟨x, rfl, h3, h4⟩ := rows_of (enc := eTMsg) (wf := wTMsg) fun y hy => ht_70 (h2 y hy)
  rw [← h4] at h1
  rw [show Try.prog.bytesOf 70 = 16 by kernel_rfl] at h1
  exact ⟨x, rfl, h1, h3⟩
theorem ht_29 {l : List C} (h : HasTy Try.prog 29 l) : ∃ x : (List (List TMsg)), l = (eL (eL eTMsg)) x ∧ (wL 24 (wL 16 wTMsg)) x := by
  obtain ⟨r, rfl, h1, h2⟩ := HasTy.sl_inv Try.underlying29 h
  obtain ⟨x, rfl, h3, h4⟩ := rows_of (enc := (eL eTMsg)) (wf := (wL 16 wTMsg)) fun y hy => ht_43 (h2 y hy)
  rw [← h4] at h1
  rw [show Try.prog.bytesOf 43 = 24 by kernel_rfl] at h1
  exact ⟨x, rfl, h1, h3⟩
def wTConf (x : TConf) : Prop := (wL 8 (wI .i64)) x.States ∧ (wL 24 (wL 16 wTMsg)) x.Links ∧ (wL 8 (wI .i64)) x.Sent ∧ True
theorem ht_31 {l : List C} (h : HasTy Try.prog 31 l) : ∃ x : TConf, l = eTConf x ∧ wTConf x := by
  have g0 : HasTys Try.prog [28, 29, 28] l := HasTy.struct_inv Try.underlying31 h
  obtain ⟨_, _, e0, h0, g1⟩ := HasTys.cons_inv g0
  obtain ⟨v0, rfl, w0⟩ := ht_28 h0
  obtain ⟨_, _, e1, h1, g2⟩ := HasTys.cons_inv g1
  obtain ⟨v1, rfl, w1⟩ := ht_29 h1
  obtain ⟨_, _, e2, h2, g3⟩ := HasTys.cons_inv g2
  obtain ⟨v2, rfl, w2⟩ := ht_28 h2
  obtain rfl := HasTys.nil_inv g3
  subst e2 e1 e0
  exact ⟨⟨v0, v1, v2⟩, rfl, w0, w1, w2, trivial⟩
theorem ht_5 {l : List C} (h : HasTy Try.prog 5 l) : ∃ x : Int, l = e_u8 x ∧ (wI .u8) x := by
  obtain ⟨n, rfl, h1⟩ := HasTy.int_inv Try.underlying5 h
  exact ⟨n, rfl, h1⟩
def wTStep (x : TStep) : Prop := (wI .i64) x.Kind ∧ (wI .i64) x.Node ∧ (wI .i64) x.K ∧ (wI .i64) x.Link ∧ (wI .i64) x.Seq ∧ True
theorem ht_57 {l : List C} (h : HasTy Try.prog 57 l) : ∃ x : TStep, l = eTStep x ∧ wTStep x := by
  have g0 : HasTys Try.prog [3, 3, 3, 3, 3] l := HasTy.struct_inv Try.underlying57 h
  obtain ⟨_, _, e0, h0, g1⟩ := HasTys.cons_inv g0
  obtain ⟨v0, rfl, w0⟩ := ht_3 h0
  obtain ⟨_, _, e1, h1, g2⟩ := HasTys.cons_inv g1
  obtain ⟨v1, rfl, w1⟩ := ht_3 h1
  obtain ⟨_, _, e2, h2, g3⟩ := HasTys.cons_inv g2
  obtain ⟨v2, rfl, w2⟩ := ht_3 h2
  obtain ⟨_, _, e3, h3, g4⟩ := HasTys.cons_inv g3
  obtain ⟨v3, rfl, w3⟩ := ht_3 h3
  obtain ⟨_, _, e4, h4, g5⟩ := HasTys.cons_inv g4
  obtain ⟨v4, rfl, w4⟩ := ht_3 h4
  obtain rfl := HasTys.nil_inv g5
  subst e4 e3 e2 e1 e0
  exact ⟨⟨v0, v1, v2, v3, v4⟩, rfl, w0, w1, w2, w3, w4, trivial⟩
theorem ht_50 {l : List C} (h : HasTy Try.prog 50 l) : ∃ x : (List TStep), l = (eL eTStep) x ∧ (wL 40 wTStep) x := by
  obtain ⟨r, rfl, h1, h2⟩ := HasTy.sl_inv Try.underlying50 h
  obtain ⟨x, rfl, h3, h4⟩ := rows_of (enc := eTStep) (wf := wTStep) fun y hy => ht_57 (h2 y hy)
  rw [← h4] at h1
  rw [show Try.prog.bytesOf 57 = 40 by kernel_rfl] at h1
  exact ⟨x, rfl, h1, h3⟩
theorem ht_71 {l : List C} (h : HasTy Try.prog 71 l) : ∃ x : Int, l = e_u16 x ∧ (wI .u16) x := by
  obtain ⟨n, rfl, h1⟩ := HasTy.int_inv Try.underlying71 h
  exact ⟨n, rfl, h1⟩
theorem ht_68 {l : List C} (h : HasTy Try.prog 68 l) : ∃ x : (List Int), l = (eL e_u16) x ∧ (wL 2 (wI .u16)) x := by
  obtain ⟨r, rfl, h1, h2⟩ := HasTy.sl_inv Try.underlying68 h
  obtain ⟨x, rfl, h3, h4⟩ := rows_of (enc := e_u16) (wf := (wI .u16)) fun y hy => ht_71 (h2 y hy)
  rw [← h4] at h1
  rw [show Try.prog.bytesOf 71 = 2 by kernel_rfl] at h1
  exact ⟨x, rfl, h1, h3⟩
end Go.Proofs.Ytifcbecpemaieaa
