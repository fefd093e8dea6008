/- 'CalmSteps' answers true at every input, and its arguments stay as they were. No condition. -/
import Derived.Test.YtifcbecpemaieaaPCalmSteps
import Derived.Test.YtifcbecpemaieaaGbCalmSteps
import Derived.Test.YtifcbecpemaieaaGw
set_option linter.unusedSimpArgs false
set_option linter.unusedVariables false
namespace Go.Proofs.Ytifcbecpemaieaa
open Go.RowKit
theorem calmSteps_calls (ls : List (List C)) (h : ArgTys Try.prog Try.f4.params.toList ls) : CallH Try.prog 4 (List.zipWith (avOf Try.prog) Try.f4.params.toList ls) [] (.one (.d (.bool true))) [] := by
  rw [Try.params4] at h ⊢
  change ArgTys Try.prog [27, 50] ls at h
  obtain ⟨_, _, e0, h0, g1⟩ := ArgTys.cons_inv h
  obtain ⟨a0, rfl, w0⟩ := ht_27 h0
  obtain ⟨_, _, e1, h1, g2⟩ := ArgTys.cons_inv g1
  obtain ⟨a1, rfl, w1⟩ := ht_50 h1
  obtain rfl := ArgTys.nil_inv g2
  subst e1 e0
  refine (L_law14_CalmSteps_ok (calmSteps_true a0 a1 w0 w1)).as ⟨?_, rfl, rfl, rfl⟩
  show _ = List.zipWith (avOf Try.prog) [27, 50] _
  simp only [List.zipWith_cons_cons, List.zipWith_nil_left, avOf, Try.underlying27, Try.underlying50] <;> rfl
theorem calmSteps_own : ownKnob Try.prog.godebug = none := by kernel_rfl
set_option maxRecDepth 100000 in
theorem calmSteps_holds : Rows.CalmStepsSaid :=
  OpenClaim.holds_of_wide (p := Try.pinned) (s := Rows.calmStepsSpec) (c := Rows.calmStepsRow) 4 Try.f4 rfl rfl rfl rfl rfl rfl rfl ⟨rfl, rfl, rfl, rfl, rfl⟩ rfl rfl rfl rfl rfl (by kernel_rfl) Try.func4 (by kernel_rfl)
    (of_decide_eq_true (by kernel_rfl)) (by unfold Func.isWrapper; first | (rw [if_pos (by decide +kernel)]; kernel_rfl) | (rw [if_neg (by decide +kernel)]; exact ⟨rfl, rfl⟩))
    (fun os started H enc _ => said_lift (C := Try.checked) (s := Rows.calmStepsSpec) 12 4 calmSteps_own started (by kernel_rfl) Try.func4
      (ChangeSpec.witness6 (enc := enc) (C := Try.checked) false ⟨#[], #[.agg #[.int .i64 0, .slice none 0 0, .slice none 0 0, .bool false], .slice none 0 0], []⟩ 8 (by kernel_rfl) (by kernel_rfl) (by kernel_rfl) (by kernel_rfl))
      (by kernel_rfl) (by kernel_rfl) rfl Try.underlying4 rfl (fun ds h => by match ds, h with | [_, _], _ => rfl) calmSteps_calls)
end Go.Proofs.Ytifcbecpemaieaa
