/- 'GraphBack' answers true at every input, and its arguments stay as they were. No condition. -/
import Derived.Test.YteohodhcegbmmaaPGraphBack
import Derived.Test.YteohodhcegbmmaaGb2
import Derived.Test.YteohodhcegbmmaaGw
set_option linter.unusedSimpArgs false
set_option linter.unusedVariables false
namespace Go.Proofs.Yteohodhcegbmmaa
open Go.RowKit
theorem graphBack_calls (ls : List (List C)) (h : ArgTys Try.prog Try.f4.params.toList ls) : CallH Try.prog 4 (List.zipWith (avOf Try.prog) Try.f4.params.toList ls) [] (.one (.d (.bool true))) [] := by
  rw [Try.params4] at h ⊢
  change ArgTys Try.prog [24] ls at h
  obtain ⟨_, _, e0, h0, g1⟩ := ArgTys.cons_inv h
  obtain ⟨a0, rfl, w0⟩ := ht_24 h0
  obtain rfl := ArgTys.nil_inv g1
  subst e0
  refine (L_law03_GraphBack_ok (graphBack_true a0 w0)).as ⟨?_, rfl, rfl, rfl⟩
  show _ = List.zipWith (avOf Try.prog) [24] _
  simp only [List.zipWith_cons_cons, List.zipWith_nil_left, avOf, Try.underlying24] <;> rfl
theorem graphBack_own : ownKnob Try.prog.godebug = none := by kernel_rfl
set_option maxRecDepth 100000 in
theorem graphBack_holds : Rows.GraphBackSaid :=
  OpenClaim.holds_of_wide (p := Try.pinned) (s := Rows.graphBackSpec) (c := Rows.graphBackRow) 4 Try.f4 rfl rfl rfl rfl rfl rfl rfl ⟨rfl, rfl, rfl, rfl, rfl⟩ rfl rfl rfl rfl rfl (by kernel_rfl) Try.func4 (by kernel_rfl)
    (of_decide_eq_true (by kernel_rfl)) (by unfold Func.isWrapper; first | (rw [if_pos (by decide +kernel)]; kernel_rfl) | (rw [if_neg (by decide +kernel)]; exact ⟨rfl, rfl⟩))
    (fun os started H enc _ => said_lift (C := Try.checked) (s := Rows.graphBackSpec) 12 4 graphBack_own started (by kernel_rfl) Try.func4
      (ChangeSpec.witness6 (enc := enc) (C := Try.checked) false ⟨#[], #[.agg #[.int .i64 0, .slice none 0 0]], []⟩ 8 (by kernel_rfl) (by kernel_rfl) (by kernel_rfl) (by kernel_rfl))
      (by kernel_rfl) (by kernel_rfl) rfl Try.underlying4 rfl (fun ds h => by match ds, h with | [_], _ => rfl) graphBack_calls)
end Go.Proofs.Yteohodhcegbmmaa
