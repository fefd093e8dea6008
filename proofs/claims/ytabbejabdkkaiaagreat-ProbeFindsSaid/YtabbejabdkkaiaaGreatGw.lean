/- What arguments are, as typed values. No condition. -/
import Derived.Test.YtabbejabdkkaiaaGreatGa
import Derived.Test.YtabbejabdkkaiaaGreatMs
set_option linter.unusedSimpArgs false
set_option linter.unusedVariables false
namespace Go.Proofs.YtabbejabdkkaiaaGreat
open Go.RowKit

theorem ht_3 {l : List C} (h : HasTy Tryz.prog 3 l) : ∃ x : Int, l = eI x ∧ (wI .i64) x := by
  obtain ⟨n, rfl, h1⟩ := HasTy.int_inv Tryz.underlying3 h
  exact ⟨n, rfl, h1⟩
def wA2I (x : A2I) : Prop := (wI .i64) x.a0 ∧ (wI .i64) x.a1 ∧ True
theorem ht_91 {l : List C} (h : HasTy Tryz.prog 91 l) : ∃ x : A2I, l = eA2I x ∧ wA2I x := by
  have g0 : HasTys Tryz.prog [3, 3] l := HasTy.array_inv Tryz.underlying91 h
  obtain ⟨_, _, e0, h0, g1⟩ := HasTys.cons_inv g0
  obtain ⟨v0, rfl, w0⟩ := ht_3 h0
  obtain ⟨_, _, e1, h1, g2⟩ := HasTys.cons_inv g1
  obtain ⟨v1, rfl, w1⟩ := ht_3 h1
  obtain rfl := HasTys.nil_inv g2
  subst e1 e0
  exact ⟨⟨v0, v1⟩, rfl, w0, w1, trivial⟩
theorem ht_22 {l : List C} (h : HasTy Tryz.prog 22 l) : ∃ x : (List A2I), l = (eL eA2I) x ∧ (wL 16 wA2I) x := by
  obtain ⟨r, rfl, h1, h2⟩ := HasTy.sl_inv Tryz.underlying22 h
  obtain ⟨x, rfl, h3, h4⟩ := rows_of (enc := eA2I) (wf := wA2I) fun y hy => ht_91 (h2 y hy)
  rw [← h4] at h1
  rw [show Tryz.prog.bytesOf 91 = 16 by kernel_rfl] at h1
  exact ⟨x, rfl, h1, h3⟩
def wTGraph (x : TGraph) : Prop := (wI .i64) x.N ∧ (wL 16 wA2I) x.Links ∧ True
theorem ht_24 {l : List C} (h : HasTy Tryz.prog 24 l) : ∃ x : TGraph, l = eTGraph x ∧ wTGraph x := by
  have g0 : HasTys Tryz.prog [3, 22] l := HasTy.struct_inv Tryz.underlying24 h
  obtain ⟨_, _, e0, h0, g1⟩ := HasTys.cons_inv g0
  obtain ⟨v0, rfl, w0⟩ := ht_3 h0
  obtain ⟨_, _, e1, h1, g2⟩ := HasTys.cons_inv g1
  obtain ⟨v1, rfl, w1⟩ := ht_22 h1
  obtain rfl := HasTys.nil_inv g2
  subst e1 e0
  exact ⟨⟨v0, v1⟩, rfl, w0, w1, trivial⟩
theorem ht_32 {l : List C} (h : HasTy Tryz.prog 32 l) : ∃ x : (List Int), l = (eL eI) x ∧ (wL 8 (wI .i64)) x := by
  obtain ⟨r, rfl, h1, h2⟩ := HasTy.sl_inv Tryz.underlying32 h
  obtain ⟨x, rfl, h3, h4⟩ := rows_of (enc := eI) (wf := (wI .i64)) fun y hy => ht_3 (h2 y hy)
  rw [← h4] at h1
  rw [show Tryz.prog.bytesOf 3 = 8 by kernel_rfl] at h1
  exact ⟨x, rfl, h1, h3⟩
def wTSend (x : TSend) : Prop := (wI .i64) x.To ∧ (wI .i64) x.Letter ∧ True
theorem ht_167 {l : List C} (h : HasTy Tryz.prog 167 l) : ∃ x : TSend, l = eTSend x ∧ wTSend x := by
  have g0 : HasTys Tryz.prog [3, 3] l := HasTy.struct_inv Tryz.underlying167 h
  obtain ⟨_, _, e0, h0, g1⟩ := HasTys.cons_inv g0
  obtain ⟨v0, rfl, w0⟩ := ht_3 h0
  obtain ⟨_, _, e1, h1, g2⟩ := HasTys.cons_inv g1
  obtain ⟨v1, rfl, w1⟩ := ht_3 h1
  obtain rfl := HasTys.nil_inv g2
  subst e1 e0
  exact ⟨⟨v0, v1⟩, rfl, w0, w1, trivial⟩
theorem ht_163 {l : List C} (h : HasTy Tryz.prog 163 l) : ∃ x : (List TSend), l = (eL eTSend) x ∧ (wL 16 wTSend) x := by
  obtain ⟨r, rfl, h1, h2⟩ := HasTy.sl_inv Tryz.underlying163 h
  obtain ⟨x, rfl, h3, h4⟩ := rows_of (enc := eTSend) (wf := wTSend) fun y hy => ht_167 (h2 y hy)
  rw [← h4] at h1
  rw [show Tryz.prog.bytesOf 167 = 16 by kernel_rfl] at h1
  exact ⟨x, rfl, h1, h3⟩
def wTPick (x : TPick) : Prop := (wI .i64) x.Next ∧ (wL 16 wTSend) x.Sends ∧ True
theorem ht_165 {l : List C} (h : HasTy Tryz.prog 165 l) : ∃ x : TPick, l = eTPick x ∧ wTPick x := by
  have g0 : HasTys Tryz.prog [3, 163] l := HasTy.struct_inv Tryz.underlying165 h
  obtain ⟨_, _, e0, h0, g1⟩ := HasTys.cons_inv g0
  obtain ⟨v0, rfl, w0⟩ := ht_3 h0
  obtain ⟨_, _, e1, h1, g2⟩ := HasTys.cons_inv g1
  obtain ⟨v1, rfl, w1⟩ := ht_163 h1
  obtain rfl := HasTys.nil_inv g2
  subst e1 e0
  exact ⟨⟨v0, v1⟩, rfl, w0, w1, trivial⟩
theorem ht_135 {l : List C} (h : HasTy Tryz.prog 135 l) : ∃ x : (List TPick), l = (eL eTPick) x ∧ (wL 32 wTPick) x := by
  obtain ⟨r, rfl, h1, h2⟩ := HasTy.sl_inv Tryz.underlying135 h
  obtain ⟨x, rfl, h3, h4⟩ := rows_of (enc := eTPick) (wf := wTPick) fun y hy => ht_165 (h2 y hy)
  rw [← h4] at h1
  rw [show Tryz.prog.bytesOf 165 = 32 by kernel_rfl] at h1
  exact ⟨x, rfl, h1, h3⟩
def wTTake (x : TTake) : Prop := (wI .i64) x.From ∧ (wI .i64) x.Letter ∧ (wI .i64) x.Next ∧ True
theorem ht_166 {l : List C} (h : HasTy Tryz.prog 166 l) : ∃ x : TTake, l = eTTake x ∧ wTTake x := by
  have g0 : HasTys Tryz.prog [3, 3, 3] l := HasTy.struct_inv Tryz.underlying166 h
  obtain ⟨_, _, e0, h0, g1⟩ := HasTys.cons_inv g0
  obtain ⟨v0, rfl, w0⟩ := ht_3 h0
  obtain ⟨_, _, e1, h1, g2⟩ := HasTys.cons_inv g1
  obtain ⟨v1, rfl, w1⟩ := ht_3 h1
  obtain ⟨_, _, e2, h2, g3⟩ := HasTys.cons_inv g2
  obtain ⟨v2, rfl, w2⟩ := ht_3 h2
  obtain rfl := HasTys.nil_inv g3
  subst e2 e1 e0
  exact ⟨⟨v0, v1, v2⟩, rfl, w0, w1, w2, trivial⟩
theorem ht_136 {l : List C} (h : HasTy Tryz.prog 136 l) : ∃ x : (List TTake), l = (eL eTTake) x ∧ (wL 24 wTTake) x := by
  obtain ⟨r, rfl, h1, h2⟩ := HasTy.sl_inv Tryz.underlying136 h
  obtain ⟨x, rfl, h3, h4⟩ := rows_of (enc := eTTake) (wf := wTTake) fun y hy => ht_166 (h2 y hy)
  rw [← h4] at h1
  rw [show Tryz.prog.bytesOf 166 = 24 by kernel_rfl] at h1
  exact ⟨x, rfl, h1, h3⟩
def wTState (x : TState) : Prop := (wI .i64) x.Mode ∧ (wL 8 (wI .i64)) x.Waits ∧ (wL 32 wTPick) x.Picks ∧ (wL 24 wTTake) x.Takes ∧ True
theorem ht_138 {l : List C} (h : HasTy Tryz.prog 138 l) : ∃ x : TState, l = eTState x ∧ wTState x := by
  have g0 : HasTys Tryz.prog [3, 32, 135, 136] l := HasTy.struct_inv Tryz.underlying138 h
  obtain ⟨_, _, e0, h0, g1⟩ := HasTys.cons_inv g0
  obtain ⟨v0, rfl, w0⟩ := ht_3 h0
  obtain ⟨_, _, e1, h1, g2⟩ := HasTys.cons_inv g1
  obtain ⟨v1, rfl, w1⟩ := ht_32 h1
  obtain ⟨_, _, e2, h2, g3⟩ := HasTys.cons_inv g2
  obtain ⟨v2, rfl, w2⟩ := ht_135 h2
  obtain ⟨_, _, e3, h3, g4⟩ := HasTys.cons_inv g3
  obtain ⟨v3, rfl, w3⟩ := ht_136 h3
  obtain rfl := HasTys.nil_inv g4
  subst e3 e2 e1 e0
  exact ⟨⟨v0, v1, v2, v3⟩, rfl, w0, w1, w2, w3, trivial⟩
theorem ht_78 {l : List C} (h : HasTy Tryz.prog 78 l) : ∃ x : (List TState), l = (eL eTState) x ∧ (wL 80 wTState) x := by
  obtain ⟨r, rfl, h1, h2⟩ := HasTy.sl_inv Tryz.underlying78 h
  obtain ⟨x, rfl, h3, h4⟩ := rows_of (enc := eTState) (wf := wTState) fun y hy => ht_138 (h2 y hy)
  rw [← h4] at h1
  rw [show Tryz.prog.bytesOf 138 = 80 by kernel_rfl] at h1
  exact ⟨x, rfl, h1, h3⟩
def wTNode (x : TNode) : Prop := (wI .i64) x.Start ∧ (wL 80 wTState) x.States ∧ True
theorem ht_80 {l : List C} (h : HasTy Tryz.prog 80 l) : ∃ x : TNode, l = eTNode x ∧ wTNode x := by
  have g0 : HasTys Tryz.prog [3, 78] l := HasTy.struct_inv Tryz.underlying80 h
  obtain ⟨_, _, e0, h0, g1⟩ := HasTys.cons_inv g0
  obtain ⟨v0, rfl, w0⟩ := ht_3 h0
  obtain ⟨_, _, e1, h1, g2⟩ := HasTys.cons_inv g1
  obtain ⟨v1, rfl, w1⟩ := ht_78 h1
  obtain rfl := HasTys.nil_inv g2
  subst e1 e0
  exact ⟨⟨v0, v1⟩, rfl, w0, w1, trivial⟩
theorem ht_25 {l : List C} (h : HasTy Tryz.prog 25 l) : ∃ x : (List TNode), l = (eL eTNode) x ∧ (wL 32 wTNode) x := by
  obtain ⟨r, rfl, h1, h2⟩ := HasTy.sl_inv Tryz.underlying25 h
  obtain ⟨x, rfl, h3, h4⟩ := rows_of (enc := eTNode) (wf := wTNode) fun y hy => ht_80 (h2 y hy)
  rw [← h4] at h1
  rw [show Tryz.prog.bytesOf 80 = 32 by kernel_rfl] at h1
  exact ⟨x, rfl, h1, h3⟩
theorem ht_4 {l : List C} (h : HasTy Tryz.prog 4 l) : ∃ x : Bool, l = eB x ∧ wB x := by
  obtain ⟨b, rfl⟩ := HasTy.bool_inv Tryz.underlying4 h
  exact ⟨b, rfl, trivial⟩
def wTApp (x : TApp) : Prop := wTGraph x.G ∧ (wL 32 wTNode) x.T ∧ wB x.Fifo ∧ True
theorem ht_27 {l : List C} (h : HasTy Tryz.prog 27 l) : ∃ x : TApp, l = eTApp x ∧ wTApp x := by
  have g0 : HasTys Tryz.prog [24, 25, 4] l := HasTy.struct_inv Tryz.underlying27 h
  obtain ⟨_, _, e0, h0, g1⟩ := HasTys.cons_inv g0
  obtain ⟨v0, rfl, w0⟩ := ht_24 h0
  obtain ⟨_, _, e1, h1, g2⟩ := HasTys.cons_inv g1
  obtain ⟨v1, rfl, w1⟩ := ht_25 h1
  obtain ⟨_, _, e2, h2, g3⟩ := HasTys.cons_inv g2
  obtain ⟨v2, rfl, w2⟩ := ht_4 h2
  obtain rfl := HasTys.nil_inv g3
  subst e2 e1 e0
  exact ⟨⟨v0, v1, v2⟩, rfl, w0, w1, w2, trivial⟩
def wTMsg (x : TMsg) : Prop := (wI .i64) x.Seq ∧ (wI .i64) x.Letter ∧ True
theorem ht_34 {l : List C} (h : HasTy Tryz.prog 34 l) : ∃ x : TMsg, l = eTMsg x ∧ wTMsg x := by
  have g0 : HasTys Tryz.prog [3, 3] l := HasTy.struct_inv Tryz.underlying34 h
  obtain ⟨_, _, e0, h0, g1⟩ := HasTys.cons_inv g0
  obtain ⟨v0, rfl, w0⟩ := ht_3 h0
  obtain ⟨_, _, e1, h1, g2⟩ := HasTys.cons_inv g1
  obtain ⟨v1, rfl, w1⟩ := ht_3 h1
  obtain rfl := HasTys.nil_inv g2
  subst e1 e0
  exact ⟨⟨v0, v1⟩, rfl, w0, w1, trivial⟩
theorem ht_141 {l : List C} (h : HasTy Tryz.prog 141 l) : ∃ x : (List TMsg), l = (eL eTMsg) x ∧ (wL 16 wTMsg) x := by
  obtain ⟨r, rfl, h1, h2⟩ := HasTy.sl_inv Tryz.underlying141 h
  obtain ⟨x, rfl, h3, h4⟩ := rows_of (enc := eTMsg) (wf := wTMsg) fun y hy => ht_34 (h2 y hy)
  rw [← h4] at h1
  rw [show Tryz.prog.bytesOf 34 = 16 by kernel_rfl] at h1
  exact ⟨x, rfl, h1, h3⟩
theorem ht_28 {l : List C} (h : HasTy Tryz.prog 28 l) : ∃ x : (List (List TMsg)), l = (eL (eL eTMsg)) x ∧ (wL 24 (wL 16 wTMsg)) x := by
  obtain ⟨r, rfl, h1, h2⟩ := HasTy.sl_inv Tryz.underlying28 h
  obtain ⟨x, rfl, h3, h4⟩ := rows_of (enc := (eL eTMsg)) (wf := (wL 16 wTMsg)) fun y hy => ht_141 (h2 y hy)
  rw [← h4] at h1
  rw [show Tryz.prog.bytesOf 141 = 24 by kernel_rfl] at h1
  exact ⟨x, rfl, h1, h3⟩
theorem ht_29 {l : List C} (h : HasTy Tryz.prog 29 l) : ∃ x : (List (List Int)), l = (eL (eL eI)) x ∧ (wL 24 (wL 8 (wI .i64))) x := by
  obtain ⟨r, rfl, h1, h2⟩ := HasTy.sl_inv Tryz.underlying29 h
  obtain ⟨x, rfl, h3, h4⟩ := rows_of (enc := (eL eI)) (wf := (wL 8 (wI .i64))) fun y hy => ht_32 (h2 y hy)
  rw [← h4] at h1
  rw [show Tryz.prog.bytesOf 32 = 24 by kernel_rfl] at h1
  exact ⟨x, rfl, h1, h3⟩
def wTHost (x : THost) : Prop := (wI .i64) x.Node ∧ (wI .i64) x.State ∧ (wI .i64) x.Steps ∧ (wL 24 (wL 16 wTMsg)) x.In ∧ (wL 24 (wL 8 (wI .i64))) x.Out ∧ True
theorem ht_31 {l : List C} (h : HasTy Tryz.prog 31 l) : ∃ x : THost, l = eTHost x ∧ wTHost x := by
  have g0 : HasTys Tryz.prog [3, 3, 3, 28, 29] l := HasTy.struct_inv Tryz.underlying31 h
  obtain ⟨_, _, e0, h0, g1⟩ := HasTys.cons_inv g0
  obtain ⟨v0, rfl, w0⟩ := ht_3 h0
  obtain ⟨_, _, e1, h1, g2⟩ := HasTys.cons_inv g1
  obtain ⟨v1, rfl, w1⟩ := ht_3 h1
  obtain ⟨_, _, e2, h2, g3⟩ := HasTys.cons_inv g2
  obtain ⟨v2, rfl, w2⟩ := ht_3 h2
  obtain ⟨_, _, e3, h3, g4⟩ := HasTys.cons_inv g3
  obtain ⟨v3, rfl, w3⟩ := ht_28 h3
  obtain ⟨_, _, e4, h4, g5⟩ := HasTys.cons_inv g4
  obtain ⟨v4, rfl, w4⟩ := ht_29 h4
  obtain rfl := HasTys.nil_inv g5
  subst e4 e3 e2 e1 e0
  exact ⟨⟨v0, v1, v2, v3, v4⟩, rfl, w0, w1, w2, w3, w4, trivial⟩
def wTPiece (x : TPiece) : Prop := (wI .i64) x.Node ∧ (wI .i64) x.State ∧ (wI .i64) x.Steps ∧ (wL 8 (wI .i64)) x.Sent ∧ (wL 24 (wL 16 wTMsg)) x.In ∧ (wL 24 (wL 8 (wI .i64))) x.Out ∧ True
theorem ht_102 {l : List C} (h : HasTy Tryz.prog 102 l) : ∃ x : TPiece, l = eTPiece x ∧ wTPiece x := by
  have g0 : HasTys Tryz.prog [3, 3, 3, 32, 28, 29] l := HasTy.struct_inv Tryz.underlying102 h
  obtain ⟨_, _, e0, h0, g1⟩ := HasTys.cons_inv g0
  obtain ⟨v0, rfl, w0⟩ := ht_3 h0
  obtain ⟨_, _, e1, h1, g2⟩ := HasTys.cons_inv g1
  obtain ⟨v1, rfl, w1⟩ := ht_3 h1
  obtain ⟨_, _, e2, h2, g3⟩ := HasTys.cons_inv g2
  obtain ⟨v2, rfl, w2⟩ := ht_3 h2
  obtain ⟨_, _, e3, h3, g4⟩ := HasTys.cons_inv g3
  obtain ⟨v3, rfl, w3⟩ := ht_32 h3
  obtain ⟨_, _, e4, h4, g5⟩ := HasTys.cons_inv g4
  obtain ⟨v4, rfl, w4⟩ := ht_28 h4
  obtain ⟨_, _, e5, h5, g6⟩ := HasTys.cons_inv g5
  obtain ⟨v5, rfl, w5⟩ := ht_29 h5
  obtain rfl := HasTys.nil_inv g6
  subst e5 e4 e3 e2 e1 e0
  exact ⟨⟨v0, v1, v2, v3, v4, v5⟩, rfl, w0, w1, w2, w3, w4, w5, trivial⟩
theorem ht_35 {l : List C} (h : HasTy Tryz.prog 35 l) : ∃ x : (List TPiece), l = (eL eTPiece) x ∧ (wL 96 wTPiece) x := by
  obtain ⟨r, rfl, h1, h2⟩ := HasTy.sl_inv Tryz.underlying35 h
  obtain ⟨x, rfl, h3, h4⟩ := rows_of (enc := eTPiece) (wf := wTPiece) fun y hy => ht_102 (h2 y hy)
  rw [← h4] at h1
  rw [show Tryz.prog.bytesOf 102 = 96 by kernel_rfl] at h1
  exact ⟨x, rfl, h1, h3⟩
def wTFrame (x : TFrame) : Prop := (wI .i64) x.Kind ∧ (wI .i64) x.Epoch ∧ wTMsg x.M ∧ (wL 96 wTPiece) x.Pieces ∧ (wI .i64) x.Init ∧ (wI .i64) x.Num ∧ (wI .i64) x.Count ∧ (wL 8 (wI .i64)) x.Path ∧ True
theorem ht_37 {l : List C} (h : HasTy Tryz.prog 37 l) : ∃ x : TFrame, l = eTFrame x ∧ wTFrame x := by
  have g0 : HasTys Tryz.prog [3, 3, 34, 35, 3, 3, 3, 32] l := HasTy.struct_inv Tryz.underlying37 h
  obtain ⟨_, _, e0, h0, g1⟩ := HasTys.cons_inv g0
  obtain ⟨v0, rfl, w0⟩ := ht_3 h0
  obtain ⟨_, _, e1, h1, g2⟩ := HasTys.cons_inv g1
  obtain ⟨v1, rfl, w1⟩ := ht_3 h1
  obtain ⟨_, _, e2, h2, g3⟩ := HasTys.cons_inv g2
  obtain ⟨v2, rfl, w2⟩ := ht_34 h2
  obtain ⟨_, _, e3, h3, g4⟩ := HasTys.cons_inv g3
  obtain ⟨v3, rfl, w3⟩ := ht_35 h3
  obtain ⟨_, _, e4, h4, g5⟩ := HasTys.cons_inv g4
  obtain ⟨v4, rfl, w4⟩ := ht_3 h4
  obtain ⟨_, _, e5, h5, g6⟩ := HasTys.cons_inv g5
  obtain ⟨v5, rfl, w5⟩ := ht_3 h5
  obtain ⟨_, _, e6, h6, g7⟩ := HasTys.cons_inv g6
  obtain ⟨v6, rfl, w6⟩ := ht_3 h6
  obtain ⟨_, _, e7, h7, g8⟩ := HasTys.cons_inv g7
  obtain ⟨v7, rfl, w7⟩ := ht_32 h7
  obtain rfl := HasTys.nil_inv g8
  subst e7 e6 e5 e4 e3 e2 e1 e0
  exact ⟨⟨v0, v1, v2, v3, v4, v5, v6, v7⟩, rfl, w0, w1, w2, w3, w4, w5, w6, w7, trivial⟩
def wTHeard (x : THeard) : Prop := (wI .i64) x.Num ∧ (wI .i64) x.Link ∧ (wL 8 (wI .i64)) x.Seen ∧ wTFrame x.F ∧ True
theorem ht_39 {l : List C} (h : HasTy Tryz.prog 39 l) : ∃ x : THeard, l = eTHeard x ∧ wTHeard x := by
  have g0 : HasTys Tryz.prog [3, 3, 32, 37] l := HasTy.struct_inv Tryz.underlying39 h
  obtain ⟨_, _, e0, h0, g1⟩ := HasTys.cons_inv g0
  obtain ⟨v0, rfl, w0⟩ := ht_3 h0
  obtain ⟨_, _, e1, h1, g2⟩ := HasTys.cons_inv g1
  obtain ⟨v1, rfl, w1⟩ := ht_3 h1
  obtain ⟨_, _, e2, h2, g3⟩ := HasTys.cons_inv g2
  obtain ⟨v2, rfl, w2⟩ := ht_32 h2
  obtain ⟨_, _, e3, h3, g4⟩ := HasTys.cons_inv g3
  obtain ⟨v3, rfl, w3⟩ := ht_37 h3
  obtain rfl := HasTys.nil_inv g4
  subst e3 e2 e1 e0
  exact ⟨⟨v0, v1, v2, v3⟩, rfl, w0, w1, w2, w3, trivial⟩
theorem ht_88 {l : List C} (h : HasTy Tryz.prog 88 l) : ∃ x : Int, l = e_u16 x ∧ (wI .u16) x := by
  obtain ⟨n, rfl, h1⟩ := HasTy.int_inv Tryz.underlying88 h
  exact ⟨n, rfl, h1⟩
theorem ht_71 {l : List C} (h : HasTy Tryz.prog 71 l) : ∃ x : (List Int), l = (eL e_u16) x ∧ (wL 2 (wI .u16)) x := by
  obtain ⟨r, rfl, h1, h2⟩ := HasTy.sl_inv Tryz.underlying71 h
  obtain ⟨x, rfl, h3, h4⟩ := rows_of (enc := e_u16) (wf := (wI .u16)) fun y hy => ht_88 (h2 y hy)
  rw [← h4] at h1
  rw [show Tryz.prog.bytesOf 88 = 2 by kernel_rfl] at h1
  exact ⟨x, rfl, h1, h3⟩
def wTStatic (x : TStatic) : Prop := (wL 8 (wI .i64)) x.States ∧ (wI .i64) x.Init ∧ (wL 2 (wI .u16)) x.Picks ∧ True
theorem ht_73 {l : List C} (h : HasTy Tryz.prog 73 l) : ∃ x : TStatic, l = eTStatic x ∧ wTStatic x := by
  have g0 : HasTys Tryz.prog [32, 3, 71] l := HasTy.struct_inv Tryz.underlying73 h
  obtain ⟨_, _, e0, h0, g1⟩ := HasTys.cons_inv g0
  obtain ⟨v0, rfl, w0⟩ := ht_32 h0
  obtain ⟨_, _, e1, h1, g2⟩ := HasTys.cons_inv g1
  obtain ⟨v1, rfl, w1⟩ := ht_3 h1
  obtain ⟨_, _, e2, h2, g3⟩ := HasTys.cons_inv g2
  obtain ⟨v2, rfl, w2⟩ := ht_71 h2
  obtain rfl := HasTys.nil_inv g3
  subst e2 e1 e0
  exact ⟨⟨v0, v1, v2⟩, rfl, w0, w1, w2, trivial⟩
end Go.Proofs.YtabbejabdkkaiaaGreat
