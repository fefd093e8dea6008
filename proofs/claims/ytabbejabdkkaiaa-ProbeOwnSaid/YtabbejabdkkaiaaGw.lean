/- What arguments are, as typed values. No condition. -/
import Derived.Test.YtabbejabdkkaiaaGa
import Derived.Test.YtabbejabdkkaiaaMs
set_option linter.unusedSimpArgs false
set_option linter.unusedVariables false
namespace Go.Proofs.Ytabbejabdkkaiaa
open Go.RowKit

theorem ht_3 {l : List C} (h : HasTy Try.prog 3 l) : ∃ x : Int, l = eI x ∧ (wI .i64) x := by
  obtain ⟨n, rfl, h1⟩ := HasTy.int_inv Try.underlying3 h
  exact ⟨n, rfl, h1⟩
def wA2I (x : A2I) : Prop := (wI .i64) x.a0 ∧ (wI .i64) x.a1 ∧ True
theorem ht_126 {l : List C} (h : HasTy Try.prog 126 l) : ∃ x : A2I, l = eA2I x ∧ wA2I x := by
  have g0 : HasTys Try.prog [3, 3] l := HasTy.array_inv Try.underlying126 h
  obtain ⟨_, _, e0, h0, g1⟩ := HasTys.cons_inv g0
  obtain ⟨v0, rfl, w0⟩ := ht_3 h0
  obtain ⟨_, _, e1, h1, g2⟩ := HasTys.cons_inv g1
  obtain ⟨v1, rfl, w1⟩ := ht_3 h1
  obtain rfl := HasTys.nil_inv g2
  subst e1 e0
  exact ⟨⟨v0, v1⟩, rfl, w0, w1, trivial⟩
theorem ht_23 {l : List C} (h : HasTy Try.prog 23 l) : ∃ x : (List A2I), l = (eL eA2I) x ∧ (wL 16 wA2I) x := by
  obtain ⟨r, rfl, h1, h2⟩ := HasTy.sl_inv Try.underlying23 h
  obtain ⟨x, rfl, h3, h4⟩ := rows_of (enc := eA2I) (wf := wA2I) fun y hy => ht_126 (h2 y hy)
  rw [← h4] at h1
  rw [show Try.prog.bytesOf 126 = 16 by kernel_rfl] at h1
  exact ⟨x, rfl, h1, h3⟩
def wTGraph (x : TGraph) : Prop := (wI .i64) x.N ∧ (wL 16 wA2I) x.Links ∧ True
theorem ht_25 {l : List C} (h : HasTy Try.prog 25 l) : ∃ x : TGraph, l = eTGraph x ∧ wTGraph x := by
  have g0 : HasTys Try.prog [3, 23] l := HasTy.struct_inv Try.underlying25 h
  obtain ⟨_, _, e0, h0, g1⟩ := HasTys.cons_inv g0
  obtain ⟨v0, rfl, w0⟩ := ht_3 h0
  obtain ⟨_, _, e1, h1, g2⟩ := HasTys.cons_inv g1
  obtain ⟨v1, rfl, w1⟩ := ht_23 h1
  obtain rfl := HasTys.nil_inv g2
  subst e1 e0
  exact ⟨⟨v0, v1⟩, rfl, w0, w1, trivial⟩
theorem ht_39 {l : List C} (h : HasTy Try.prog 39 l) : ∃ x : (List Int), l = (eL eI) x ∧ (wL 8 (wI .i64)) x := by
  obtain ⟨r, rfl, h1, h2⟩ := HasTy.sl_inv Try.underlying39 h
  obtain ⟨x, rfl, h3, h4⟩ := rows_of (enc := eI) (wf := (wI .i64)) fun y hy => ht_3 (h2 y hy)
  rw [← h4] at h1
  rw [show Try.prog.bytesOf 3 = 8 by kernel_rfl] at h1
  exact ⟨x, rfl, h1, h3⟩
def wTSend (x : TSend) : Prop := (wI .i64) x.To ∧ (wI .i64) x.Letter ∧ True
theorem ht_50 {l : List C} (h : HasTy Try.prog 50 l) : ∃ x : TSend, l = eTSend x ∧ wTSend x := by
  have g0 : HasTys Try.prog [3, 3] l := HasTy.struct_inv Try.underlying50 h
  obtain ⟨_, _, e0, h0, g1⟩ := HasTys.cons_inv g0
  obtain ⟨v0, rfl, w0⟩ := ht_3 h0
  obtain ⟨_, _, e1, h1, g2⟩ := HasTys.cons_inv g1
  obtain ⟨v1, rfl, w1⟩ := ht_3 h1
  obtain rfl := HasTys.nil_inv g2
  subst e1 e0
  exact ⟨⟨v0, v1⟩, rfl, w0, w1, trivial⟩
theorem ht_44 {l : List C} (h : HasTy Try.prog 44 l) : ∃ x : (List TSend), l = (eL eTSend) x ∧ (wL 16 wTSend) x := by
  obtain ⟨r, rfl, h1, h2⟩ := HasTy.sl_inv Try.underlying44 h
  obtain ⟨x, rfl, h3, h4⟩ := rows_of (enc := eTSend) (wf := wTSend) fun y hy => ht_50 (h2 y hy)
  rw [← h4] at h1
  rw [show Try.prog.bytesOf 50 = 16 by kernel_rfl] at h1
  exact ⟨x, rfl, h1, h3⟩
def wTPick (x : TPick) : Prop := (wI .i64) x.Next ∧ (wL 16 wTSend) x.Sends ∧ True
theorem ht_46 {l : List C} (h : HasTy Try.prog 46 l) : ∃ x : TPick, l = eTPick x ∧ wTPick x := by
  have g0 : HasTys Try.prog [3, 44] l := HasTy.struct_inv Try.underlying46 h
  obtain ⟨_, _, e0, h0, g1⟩ := HasTys.cons_inv g0
  obtain ⟨v0, rfl, w0⟩ := ht_3 h0
  obtain ⟨_, _, e1, h1, g2⟩ := HasTys.cons_inv g1
  obtain ⟨v1, rfl, w1⟩ := ht_44 h1
  obtain rfl := HasTys.nil_inv g2
  subst e1 e0
  exact ⟨⟨v0, v1⟩, rfl, w0, w1, trivial⟩
theorem ht_40 {l : List C} (h : HasTy Try.prog 40 l) : ∃ x : (List TPick), l = (eL eTPick) x ∧ (wL 32 wTPick) x := by
  obtain ⟨r, rfl, h1, h2⟩ := HasTy.sl_inv Try.underlying40 h
  obtain ⟨x, rfl, h3, h4⟩ := rows_of (enc := eTPick) (wf := wTPick) fun y hy => ht_46 (h2 y hy)
  rw [← h4] at h1
  rw [show Try.prog.bytesOf 46 = 32 by kernel_rfl] at h1
  exact ⟨x, rfl, h1, h3⟩
def wTTake (x : TTake) : Prop := (wI .i64) x.From ∧ (wI .i64) x.Letter ∧ (wI .i64) x.Next ∧ True
theorem ht_48 {l : List C} (h : HasTy Try.prog 48 l) : ∃ x : TTake, l = eTTake x ∧ wTTake x := by
  have g0 : HasTys Try.prog [3, 3, 3] l := HasTy.struct_inv Try.underlying48 h
  obtain ⟨_, _, e0, h0, g1⟩ := HasTys.cons_inv g0
  obtain ⟨v0, rfl, w0⟩ := ht_3 h0
  obtain ⟨_, _, e1, h1, g2⟩ := HasTys.cons_inv g1
  obtain ⟨v1, rfl, w1⟩ := ht_3 h1
  obtain ⟨_, _, e2, h2, g3⟩ := HasTys.cons_inv g2
  obtain ⟨v2, rfl, w2⟩ := ht_3 h2
  obtain rfl := HasTys.nil_inv g3
  subst e2 e1 e0
  exact ⟨⟨v0, v1, v2⟩, rfl, w0, w1, w2, trivial⟩
theorem ht_41 {l : List C} (h : HasTy Try.prog 41 l) : ∃ x : (List TTake), l = (eL eTTake) x ∧ (wL 24 wTTake) x := by
  obtain ⟨r, rfl, h1, h2⟩ := HasTy.sl_inv Try.underlying41 h
  obtain ⟨x, rfl, h3, h4⟩ := rows_of (enc := eTTake) (wf := wTTake) fun y hy => ht_48 (h2 y hy)
  rw [← h4] at h1
  rw [show Try.prog.bytesOf 48 = 24 by kernel_rfl] at h1
  exact ⟨x, rfl, h1, h3⟩
def wTState (x : TState) : Prop := (wI .i64) x.Mode ∧ (wL 8 (wI .i64)) x.Waits ∧ (wL 32 wTPick) x.Picks ∧ (wL 24 wTTake) x.Takes ∧ True
theorem ht_43 {l : List C} (h : HasTy Try.prog 43 l) : ∃ x : TState, l = eTState x ∧ wTState x := by
  have g0 : HasTys Try.prog [3, 39, 40, 41] l := HasTy.struct_inv Try.underlying43 h
  obtain ⟨_, _, e0, h0, g1⟩ := HasTys.cons_inv g0
  obtain ⟨v0, rfl, w0⟩ := ht_3 h0
  obtain ⟨_, _, e1, h1, g2⟩ := HasTys.cons_inv g1
  obtain ⟨v1, rfl, w1⟩ := ht_39 h1
  obtain ⟨_, _, e2, h2, g3⟩ := HasTys.cons_inv g2
  obtain ⟨v2, rfl, w2⟩ := ht_40 h2
  obtain ⟨_, _, e3, h3, g4⟩ := HasTys.cons_inv g3
  obtain ⟨v3, rfl, w3⟩ := ht_41 h3
  obtain rfl := HasTys.nil_inv g4
  subst e3 e2 e1 e0
  exact ⟨⟨v0, v1, v2, v3⟩, rfl, w0, w1, w2, w3, trivial⟩
theorem ht_36 {l : List C} (h : HasTy Try.prog 36 l) : ∃ x : (List TState), l = (eL eTState) x ∧ (wL 80 wTState) x := by
  obtain ⟨r, rfl, h1, h2⟩ := HasTy.sl_inv Try.underlying36 h
  obtain ⟨x, rfl, h3, h4⟩ := rows_of (enc := eTState) (wf := wTState) fun y hy => ht_43 (h2 y hy)
  rw [← h4] at h1
  rw [show Try.prog.bytesOf 43 = 80 by kernel_rfl] at h1
  exact ⟨x, rfl, h1, h3⟩
def wTNode (x : TNode) : Prop := (wI .i64) x.Start ∧ (wL 80 wTState) x.States ∧ True
theorem ht_38 {l : List C} (h : HasTy Try.prog 38 l) : ∃ x : TNode, l = eTNode x ∧ wTNode x := by
  have g0 : HasTys Try.prog [3, 36] l := HasTy.struct_inv Try.underlying38 h
  obtain ⟨_, _, e0, h0, g1⟩ := HasTys.cons_inv g0
  obtain ⟨v0, rfl, w0⟩ := ht_3 h0
  obtain ⟨_, _, e1, h1, g2⟩ := HasTys.cons_inv g1
  obtain ⟨v1, rfl, w1⟩ := ht_36 h1
  obtain rfl := HasTys.nil_inv g2
  subst e1 e0
  exact ⟨⟨v0, v1⟩, rfl, w0, w1, trivial⟩
theorem ht_22 {l : List C} (h : HasTy Try.prog 22 l) : ∃ x : (List TNode), l = (eL eTNode) x ∧ (wL 32 wTNode) x := by
  obtain ⟨r, rfl, h1, h2⟩ := HasTy.sl_inv Try.underlying22 h
  obtain ⟨x, rfl, h3, h4⟩ := rows_of (enc := eTNode) (wf := wTNode) fun y hy => ht_38 (h2 y hy)
  rw [← h4] at h1
  rw [show Try.prog.bytesOf 38 = 32 by kernel_rfl] at h1
  exact ⟨x, rfl, h1, h3⟩
theorem ht_4 {l : List C} (h : HasTy Try.prog 4 l) : ∃ x : Bool, l = eB x ∧ wB x := by
  obtain ⟨b, rfl⟩ := HasTy.bool_inv Try.underlying4 h
  exact ⟨b, rfl, trivial⟩
def wTApp (x : TApp) : Prop := wTGraph x.G ∧ (wL 32 wTNode) x.T ∧ wB x.Fifo ∧ True
theorem ht_53 {l : List C} (h : HasTy Try.prog 53 l) : ∃ x : TApp, l = eTApp x ∧ wTApp x := by
  have g0 : HasTys Try.prog [25, 22, 4] l := HasTy.struct_inv Try.underlying53 h
  obtain ⟨_, _, e0, h0, g1⟩ := HasTys.cons_inv g0
  obtain ⟨v0, rfl, w0⟩ := ht_25 h0
  obtain ⟨_, _, e1, h1, g2⟩ := HasTys.cons_inv g1
  obtain ⟨v1, rfl, w1⟩ := ht_22 h1
  obtain ⟨_, _, e2, h2, g3⟩ := HasTys.cons_inv g2
  obtain ⟨v2, rfl, w2⟩ := ht_4 h2
  obtain rfl := HasTys.nil_inv g3
  subst e2 e1 e0
  exact ⟨⟨v0, v1, v2⟩, rfl, w0, w1, w2, trivial⟩
def wTMsg (x : TMsg) : Prop := (wI .i64) x.Seq ∧ (wI .i64) x.Letter ∧ True
theorem ht_59 {l : List C} (h : HasTy Try.prog 59 l) : ∃ x : TMsg, l = eTMsg x ∧ wTMsg x := by
  have g0 : HasTys Try.prog [3, 3] l := HasTy.struct_inv Try.underlying59 h
  obtain ⟨_, _, e0, h0, g1⟩ := HasTys.cons_inv g0
  obtain ⟨v0, rfl, w0⟩ := ht_3 h0
  obtain ⟨_, _, e1, h1, g2⟩ := HasTys.cons_inv g1
  obtain ⟨v1, rfl, w1⟩ := ht_3 h1
  obtain rfl := HasTys.nil_inv g2
  subst e1 e0
  exact ⟨⟨v0, v1⟩, rfl, w0, w1, trivial⟩
theorem ht_170 {l : List C} (h : HasTy Try.prog 170 l) : ∃ x : (List TMsg), l = (eL eTMsg) x ∧ (wL 16 wTMsg) x := by
  obtain ⟨r, rfl, h1, h2⟩ := HasTy.sl_inv Try.underlying170 h
  obtain ⟨x, rfl, h3, h4⟩ := rows_of (enc := eTMsg) (wf := wTMsg) fun y hy => ht_59 (h2 y hy)
  rw [← h4] at h1
  rw [show Try.prog.bytesOf 59 = 16 by kernel_rfl] at h1
  exact ⟨x, rfl, h1, h3⟩
theorem ht_54 {l : List C} (h : HasTy Try.prog 54 l) : ∃ x : (List (List TMsg)), l = (eL (eL eTMsg)) x ∧ (wL 24 (wL 16 wTMsg)) x := by
  obtain ⟨r, rfl, h1, h2⟩ := HasTy.sl_inv Try.underlying54 h
  obtain ⟨x, rfl, h3, h4⟩ := rows_of (enc := (eL eTMsg)) (wf := (wL 16 wTMsg)) fun y hy => ht_170 (h2 y hy)
  rw [← h4] at h1
  rw [show Try.prog.bytesOf 170 = 24 by kernel_rfl] at h1
  exact ⟨x, rfl, h1, h3⟩
theorem ht_55 {l : List C} (h : HasTy Try.prog 55 l) : ∃ x : (List (List Int)), l = (eL (eL eI)) x ∧ (wL 24 (wL 8 (wI .i64))) x := by
  obtain ⟨r, rfl, h1, h2⟩ := HasTy.sl_inv Try.underlying55 h
  obtain ⟨x, rfl, h3, h4⟩ := rows_of (enc := (eL eI)) (wf := (wL 8 (wI .i64))) fun y hy => ht_39 (h2 y hy)
  rw [← h4] at h1
  rw [show Try.prog.bytesOf 39 = 24 by kernel_rfl] at h1
  exact ⟨x, rfl, h1, h3⟩
def wTHost (x : THost) : Prop := (wI .i64) x.Node ∧ (wI .i64) x.State ∧ (wI .i64) x.Steps ∧ (wL 24 (wL 16 wTMsg)) x.In ∧ (wL 24 (wL 8 (wI .i64))) x.Out ∧ True
theorem ht_57 {l : List C} (h : HasTy Try.prog 57 l) : ∃ x : THost, l = eTHost x ∧ wTHost x := by
  have g0 : HasTys Try.prog [3, 3, 3, 54, 55] l := HasTy.struct_inv Try.underlying57 h
  obtain ⟨_, _, e0, h0, g1⟩ := HasTys.cons_inv g0
  obtain ⟨v0, rfl, w0⟩ := ht_3 h0
  obtain ⟨_, _, e1, h1, g2⟩ := HasTys.cons_inv g1
  obtain ⟨v1, rfl, w1⟩ := ht_3 h1
  obtain ⟨_, _, e2, h2, g3⟩ := HasTys.cons_inv g2
  obtain ⟨v2, rfl, w2⟩ := ht_3 h2
  obtain ⟨_, _, e3, h3, g4⟩ := HasTys.cons_inv g3
  obtain ⟨v3, rfl, w3⟩ := ht_54 h3
  obtain ⟨_, _, e4, h4, g5⟩ := HasTys.cons_inv g4
  obtain ⟨v4, rfl, w4⟩ := ht_55 h4
  obtain rfl := HasTys.nil_inv g5
  subst e4 e3 e2 e1 e0
  exact ⟨⟨v0, v1, v2, v3, v4⟩, rfl, w0, w1, w2, w3, w4, trivial⟩
def wTPiece (x : TPiece) : Prop := (wI .i64) x.Node ∧ (wI .i64) x.State ∧ (wI .i64) x.Steps ∧ (wL 8 (wI .i64)) x.Sent ∧ (wL 24 (wL 16 wTMsg)) x.In ∧ (wL 24 (wL 8 (wI .i64))) x.Out ∧ True
theorem ht_148 {l : List C} (h : HasTy Try.prog 148 l) : ∃ x : TPiece, l = eTPiece x ∧ wTPiece x := by
  have g0 : HasTys Try.prog [3, 3, 3, 39, 54, 55] l := HasTy.struct_inv Try.underlying148 h
  obtain ⟨_, _, e0, h0, g1⟩ := HasTys.cons_inv g0
  obtain ⟨v0, rfl, w0⟩ := ht_3 h0
  obtain ⟨_, _, e1, h1, g2⟩ := HasTys.cons_inv g1
  obtain ⟨v1, rfl, w1⟩ := ht_3 h1
  obtain ⟨_, _, e2, h2, g3⟩ := HasTys.cons_inv g2
  obtain ⟨v2, rfl, w2⟩ := ht_3 h2
  obtain ⟨_, _, e3, h3, g4⟩ := HasTys.cons_inv g3
  obtain ⟨v3, rfl, w3⟩ := ht_39 h3
  obtain ⟨_, _, e4, h4, g5⟩ := HasTys.cons_inv g4
  obtain ⟨v4, rfl, w4⟩ := ht_54 h4
  obtain ⟨_, _, e5, h5, g6⟩ := HasTys.cons_inv g5
  obtain ⟨v5, rfl, w5⟩ := ht_55 h5
  obtain rfl := HasTys.nil_inv g6
  subst e5 e4 e3 e2 e1 e0
  exact ⟨⟨v0, v1, v2, v3, v4, v5⟩, rfl, w0, w1, w2, w3, w4, w5, trivial⟩
theorem ht_60 {l : List C} (h : HasTy Try.prog 60 l) : ∃ x : (List TPiece), l = (eL eTPiece) x ∧ (wL 96 wTPiece) x := by
  obtain ⟨r, rfl, h1, h2⟩ := HasTy.sl_inv Try.underlying60 h
  obtain ⟨x, rfl, h3, h4⟩ := rows_of (enc := eTPiece) (wf := wTPiece) fun y hy => ht_148 (h2 y hy)
  rw [← h4] at h1
  rw [show Try.prog.bytesOf 148 = 96 by kernel_rfl] at h1
  exact ⟨x, rfl, h1, h3⟩
def wTFrame (x : TFrame) : Prop := (wI .i64) x.Kind ∧ (wI .i64) x.Epoch ∧ wTMsg x.M ∧ (wL 96 wTPiece) x.Pieces ∧ (wI .i64) x.Init ∧ (wI .i64) x.Num ∧ (wI .i64) x.Count ∧ (wL 8 (wI .i64)) x.Path ∧ True
theorem ht_62 {l : List C} (h : HasTy Try.prog 62 l) : ∃ x : TFrame, l = eTFrame x ∧ wTFrame x := by
  have g0 : HasTys Try.prog [3, 3, 59, 60, 3, 3, 3, 39] l := HasTy.struct_inv Try.underlying62 h
  obtain ⟨_, _, e0, h0, g1⟩ := HasTys.cons_inv g0
  obtain ⟨v0, rfl, w0⟩ := ht_3 h0
  obtain ⟨_, _, e1, h1, g2⟩ := HasTys.cons_inv g1
  obtain ⟨v1, rfl, w1⟩ := ht_3 h1
  obtain ⟨_, _, e2, h2, g3⟩ := HasTys.cons_inv g2
  obtain ⟨v2, rfl, w2⟩ := ht_59 h2
  obtain ⟨_, _, e3, h3, g4⟩ := HasTys.cons_inv g3
  obtain ⟨v3, rfl, w3⟩ := ht_60 h3
  obtain ⟨_, _, e4, h4, g5⟩ := HasTys.cons_inv g4
  obtain ⟨v4, rfl, w4⟩ := ht_3 h4
  obtain ⟨_, _, e5, h5, g6⟩ := HasTys.cons_inv g5
  obtain ⟨v5, rfl, w5⟩ := ht_3 h5
  obtain ⟨_, _, e6, h6, g7⟩ := HasTys.cons_inv g6
  obtain ⟨v6, rfl, w6⟩ := ht_3 h6
  obtain ⟨_, _, e7, h7, g8⟩ := HasTys.cons_inv g7
  obtain ⟨v7, rfl, w7⟩ := ht_39 h7
  obtain rfl := HasTys.nil_inv g8
  subst e7 e6 e5 e4 e3 e2 e1 e0
  exact ⟨⟨v0, v1, v2, v3, v4, v5, v6, v7⟩, rfl, w0, w1, w2, w3, w4, w5, w6, w7, trivial⟩
def wTHeard (x : THeard) : Prop := (wI .i64) x.Num ∧ (wI .i64) x.Link ∧ (wL 8 (wI .i64)) x.Seen ∧ wTFrame x.F ∧ True
theorem ht_64 {l : List C} (h : HasTy Try.prog 64 l) : ∃ x : THeard, l = eTHeard x ∧ wTHeard x := by
  have g0 : HasTys Try.prog [3, 3, 39, 62] l := HasTy.struct_inv Try.underlying64 h
  obtain ⟨_, _, e0, h0, g1⟩ := HasTys.cons_inv g0
  obtain ⟨v0, rfl, w0⟩ := ht_3 h0
  obtain ⟨_, _, e1, h1, g2⟩ := HasTys.cons_inv g1
  obtain ⟨v1, rfl, w1⟩ := ht_3 h1
  obtain ⟨_, _, e2, h2, g3⟩ := HasTys.cons_inv g2
  obtain ⟨v2, rfl, w2⟩ := ht_39 h2
  obtain ⟨_, _, e3, h3, g4⟩ := HasTys.cons_inv g3
  obtain ⟨v3, rfl, w3⟩ := ht_62 h3
  obtain rfl := HasTys.nil_inv g4
  subst e3 e2 e1 e0
  exact ⟨⟨v0, v1, v2, v3⟩, rfl, w0, w1, w2, w3, trivial⟩
end Go.Proofs.Ytabbejabdkkaiaa
