/- What arguments are, as typed values. No condition. -/
import Derived.Test.YteohodhcegbmmaaGd
import Derived.Test.YteohodhcegbmmaaMs
set_option linter.unusedSimpArgs false
set_option linter.unusedVariables false
namespace Go.Proofs.Yteohodhcegbmmaa
open Go.RowKit

theorem ht_3 {l : List C} (h : HasTy Try.prog 3 l) : ∃ x : Int, l = eI x ∧ (wI .i64) x := by
  obtain ⟨n, rfl, h1⟩ := HasTy.int_inv Try.underlying3 h
  exact ⟨n, rfl, h1⟩
def wA2I (x : A2I) : Prop := (wI .i64) x.a0 ∧ (wI .i64) x.a1 ∧ True
theorem ht_43 {l : List C} (h : HasTy Try.prog 43 l) : ∃ x : A2I, l = eA2I x ∧ wA2I x := by
  have g0 : HasTys Try.prog [3, 3] l := HasTy.array_inv Try.underlying43 h
  obtain ⟨_, _, e0, h0, g1⟩ := HasTys.cons_inv g0
  obtain ⟨v0, rfl, w0⟩ := ht_3 h0
  obtain ⟨_, _, e1, h1, g2⟩ := HasTys.cons_inv g1
  obtain ⟨v1, rfl, w1⟩ := ht_3 h1
  obtain rfl := HasTys.nil_inv g2
  subst e1 e0
  exact ⟨⟨v0, v1⟩, rfl, w0, w1, trivial⟩
theorem ht_22 {l : List C} (h : HasTy Try.prog 22 l) : ∃ x : (List A2I), l = (eL eA2I) x ∧ (wL 16 wA2I) x := by
  obtain ⟨r, rfl, h1, h2⟩ := HasTy.sl_inv Try.underlying22 h
  obtain ⟨x, rfl, h3, h4⟩ := rows_of (enc := eA2I) (wf := wA2I) fun y hy => ht_43 (h2 y hy)
  rw [← h4] at h1
  rw [show Try.prog.bytesOf 43 = 16 by kernel_rfl] at h1
  exact ⟨x, rfl, h1, h3⟩
def wTGraph (x : TGraph) : Prop := (wI .i64) x.N ∧ (wL 16 wA2I) x.Links ∧ True
theorem ht_24 {l : List C} (h : HasTy Try.prog 24 l) : ∃ x : TGraph, l = eTGraph x ∧ wTGraph x := by
  have g0 : HasTys Try.prog [3, 22] l := HasTy.struct_inv Try.underlying24 h
  obtain ⟨_, _, e0, h0, g1⟩ := HasTys.cons_inv g0
  obtain ⟨v0, rfl, w0⟩ := ht_3 h0
  obtain ⟨_, _, e1, h1, g2⟩ := HasTys.cons_inv g1
  obtain ⟨v1, rfl, w1⟩ := ht_22 h1
  obtain rfl := HasTys.nil_inv g2
  subst e1 e0
  exact ⟨⟨v0, v1⟩, rfl, w0, w1, trivial⟩
def wA3I (x : A3I) : Prop := (wI .i64) x.a0 ∧ (wI .i64) x.a1 ∧ (wI .i64) x.a2 ∧ True
theorem ht_45 {l : List C} (h : HasTy Try.prog 45 l) : ∃ x : A3I, l = eA3I x ∧ wA3I x := by
  have g0 : HasTys Try.prog [3, 3, 3] l := HasTy.array_inv Try.underlying45 h
  obtain ⟨_, _, e0, h0, g1⟩ := HasTys.cons_inv g0
  obtain ⟨v0, rfl, w0⟩ := ht_3 h0
  obtain ⟨_, _, e1, h1, g2⟩ := HasTys.cons_inv g1
  obtain ⟨v1, rfl, w1⟩ := ht_3 h1
  obtain ⟨_, _, e2, h2, g3⟩ := HasTys.cons_inv g2
  obtain ⟨v2, rfl, w2⟩ := ht_3 h2
  obtain rfl := HasTys.nil_inv g3
  subst e2 e1 e0
  exact ⟨⟨v0, v1, v2⟩, rfl, w0, w1, w2, trivial⟩
end Go.Proofs.Yteohodhcegbmmaa
