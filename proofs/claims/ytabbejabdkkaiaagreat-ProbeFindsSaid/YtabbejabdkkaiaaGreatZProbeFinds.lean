/- 'ProbeFinds' answers true at every input, and its arguments stay as they were. No condition. -/
import Derived.Test.YtabbejabdkkaiaaGreatPProbeFinds
import Derived.Test.YtabbejabdkkaiaaGreatGbProbeFinds
import Derived.Test.YtabbejabdkkaiaaGreatGw
set_option linter.unusedSimpArgs false
set_option linter.unusedVariables false
namespace Go.Proofs.YtabbejabdkkaiaaGreat
open Go.RowKit
theorem probeFinds_calls (ls : List (List C)) (h : ArgTys Tryz.prog Tryz.f4.params.toList ls) : CallH Tryz.prog 4 (List.zipWith (avOf Tryz.prog) Tryz.f4.params.toList ls) [] (.one (.d (.bool true))) [] := by
  rw [Tryz.params4] at h ⊢
  change ArgTys Tryz.prog [27, 73] ls at h
  obtain ⟨_, _, e0, h0, g1⟩ := ArgTys.cons_inv h
  obtain ⟨a0, rfl, w0⟩ := ht_27 h0
  obtain ⟨_, _, e1, h1, g2⟩ := ArgTys.cons_inv g1
  obtain ⟨a1, rfl, w1⟩ := ht_73 h1
  obtain rfl := ArgTys.nil_inv g2
  subst e1 e0
  refine (L_law16_ProbeFinds_ok (probeFinds_true a0 a1 w0 w1)).as ⟨?_, rfl, rfl, rfl⟩
  show _ = List.zipWith (avOf Tryz.prog) [27, 73] _
  simp only [List.zipWith_cons_cons, List.zipWith_nil_left, avOf, Tryz.underlying27, Tryz.underlying73] <;> rfl
theorem probeFinds_own : ownKnob Tryz.prog.godebug = none := by kernel_rfl
set_option maxRecDepth 100000 in
theorem probeFinds_holds : Rows.ProbeFindsSaid :=
  OpenClaim.holds_of_wide (p := Tryz.pinned) (s := Rows.probeFindsSpec) (c := Rows.probeFindsRow) 4 Tryz.f4 rfl rfl rfl rfl rfl rfl rfl ⟨rfl, rfl, rfl, rfl, rfl⟩ rfl rfl rfl rfl rfl (by kernel_rfl) Tryz.func4 (by kernel_rfl)
    (of_decide_eq_true (by kernel_rfl)) (by unfold Func.isWrapper; first | (rw [if_pos (by decide +kernel)]; kernel_rfl) | (rw [if_neg (by decide +kernel)]; exact ⟨rfl, rfl⟩))
    (fun os started H enc _ => said_lift (C := Tryz.checked) (s := Rows.probeFindsSpec) 12 4 probeFinds_own started (by kernel_rfl) Tryz.func4
      (ChangeSpec.witness6 (enc := enc) (C := Tryz.checked) false ⟨#[], #[.agg #[.int .i64 0, .slice none 0 0, .slice none 0 0, .bool false], .agg #[.slice none 0 0, .int .i64 0, .slice none 0 0]], []⟩ 8 (by kernel_rfl) (by kernel_rfl) (by kernel_rfl) (by kernel_rfl))
      (by kernel_rfl) (by kernel_rfl) rfl Tryz.underlying4 rfl (fun ds h => by match ds, h with | [_, _], _ => rfl) probeFinds_calls)
end Go.Proofs.YtabbejabdkkaiaaGreat
