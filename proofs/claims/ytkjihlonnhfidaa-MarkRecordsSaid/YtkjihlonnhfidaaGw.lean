/- What arguments are, as typed values. No condition. -/
import Derived.Test.YtkjihlonnhfidaaGd
import Derived.Test.YtkjihlonnhfidaaMs
set_option linter.unusedSimpArgs false
set_option linter.unusedVariables false
namespace Go.Proofs.Ytkjihlonnhfidaa
open Go.RowKit

theorem ht_5 {l : List C} (h : HasTy Try.prog 5 l) : ∃ x : Int, l = e_u8 x ∧ (wI .u8) x := by
  obtain ⟨n, rfl, h1⟩ := HasTy.int_inv Try.underlying5 h
  exact ⟨n, rfl, h1⟩
theorem ht_4 {l : List C} (h : HasTy Try.prog 4 l) : ∃ x : Bool, l = eB x ∧ wB x := by
  obtain ⟨b, rfl⟩ := HasTy.bool_inv Try.underlying4 h
  exact ⟨b, rfl, trivial⟩
theorem ht_3 {l : List C} (h : HasTy Try.prog 3 l) : ∃ x : Int, l = eI x ∧ (wI .i64) x := by
  obtain ⟨n, rfl, h1⟩ := HasTy.int_inv Try.underlying3 h
  exact ⟨n, rfl, h1⟩
def wTMsg (x : TMsg) : Prop := (wI .i64) x.Seq ∧ (wI .i64) x.Letter ∧ True
theorem ht_38 {l : List C} (h : HasTy Try.prog 38 l) : ∃ x : TMsg, l = eTMsg x ∧ wTMsg x := by
  have g0 : HasTys Try.prog [3, 3] l := HasTy.struct_inv Try.underlying38 h
  obtain ⟨_, _, e0, h0, g1⟩ := HasTys.cons_inv g0
  obtain ⟨v0, rfl, w0⟩ := ht_3 h0
  obtain ⟨_, _, e1, h1, g2⟩ := HasTys.cons_inv g1
  obtain ⟨v1, rfl, w1⟩ := ht_3 h1
  obtain rfl := HasTys.nil_inv g2
  subst e1 e0
  exact ⟨⟨v0, v1⟩, rfl, w0, w1, trivial⟩
def wTOp (x : TOp) : Prop := wB x.Marker ∧ (wI .i64) x.Epoch ∧ (wI .i64) x.At ∧ wTMsg x.M ∧ True
theorem ht_40 {l : List C} (h : HasTy Try.prog 40 l) : ∃ x : TOp, l = eTOp x ∧ wTOp x := by
  have g0 : HasTys Try.prog [4, 3, 3, 38] l := HasTy.struct_inv Try.underlying40 h
  obtain ⟨_, _, e0, h0, g1⟩ := HasTys.cons_inv g0
  obtain ⟨v0, rfl, w0⟩ := ht_4 h0
  obtain ⟨_, _, e1, h1, g2⟩ := HasTys.cons_inv g1
  obtain ⟨v1, rfl, w1⟩ := ht_3 h1
  obtain ⟨_, _, e2, h2, g3⟩ := HasTys.cons_inv g2
  obtain ⟨v2, rfl, w2⟩ := ht_3 h2
  obtain ⟨_, _, e3, h3, g4⟩ := HasTys.cons_inv g3
  obtain ⟨v3, rfl, w3⟩ := ht_38 h3
  obtain rfl := HasTys.nil_inv g4
  subst e3 e2 e1 e0
  exact ⟨⟨v0, v1, v2, v3⟩, rfl, w0, w1, w2, w3, trivial⟩
theorem ht_22 {l : List C} (h : HasTy Try.prog 22 l) : ∃ x : (List TOp), l = (eL eTOp) x ∧ (wL 40 wTOp) x := by
  obtain ⟨r, rfl, h1, h2⟩ := HasTy.sl_inv Try.underlying22 h
  obtain ⟨x, rfl, h3, h4⟩ := rows_of (enc := eTOp) (wf := wTOp) fun y hy => ht_40 (h2 y hy)
  rw [← h4] at h1
  rw [show Try.prog.bytesOf 40 = 40 by kernel_rfl] at h1
  exact ⟨x, rfl, h1, h3⟩
theorem ht_60 {l : List C} (h : HasTy Try.prog 60 l) : ∃ x : (List Int), l = (eL e_u8) x ∧ (wL 1 (wI .u8)) x := by
  obtain ⟨r, rfl, h1, h2⟩ := HasTy.sl_inv Try.underlying60 h
  obtain ⟨x, rfl, h3, h4⟩ := rows_of (enc := e_u8) (wf := (wI .u8)) fun y hy => ht_5 (h2 y hy)
  rw [← h4] at h1
  rw [show Try.prog.bytesOf 5 = 1 by kernel_rfl] at h1
  exact ⟨x, rfl, h1, h3⟩
end Go.Proofs.Ytkjihlonnhfidaa
