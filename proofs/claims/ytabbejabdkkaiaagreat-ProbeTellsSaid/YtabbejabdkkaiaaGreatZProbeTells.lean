/- 'ProbeTells' answers true at every input, and its arguments stay as they were. No condition. -/
import Derived.Test.YtabbejabdkkaiaaGreatPProbeTells
import Derived.Test.YtabbejabdkkaiaaGreatGbProbeTells
import Derived.Test.YtabbejabdkkaiaaGreatGw
set_option linter.unusedSimpArgs false
set_option linter.unusedVariables false
namespace Go.Proofs.YtabbejabdkkaiaaGreat
open Go.RowKit
theorem probeTells_calls (ls : List (List C)) (h : ArgTys Tryz.prog Tryz.f3.params.toList ls) : CallH Tryz.prog 3 (List.zipWith (avOf Tryz.prog) Tryz.f3.params.toList ls) [] (.one (.d (.bool true))) [] := by
  rw [Tryz.params3] at h ⊢
  change ArgTys Tryz.prog [27, 31, 39] ls at h
  obtain ⟨_, _, e0, h0, g1⟩ := ArgTys.cons_inv h
  obtain ⟨a0, rfl, w0⟩ := ht_27 h0
  obtain ⟨_, _, e1, h1, g2⟩ := ArgTys.cons_inv g1
  obtain ⟨a1, rfl, w1⟩ := ht_31 h1
  obtain ⟨_, _, e2, h2, g3⟩ := ArgTys.cons_inv g2
  obtain ⟨a2, rfl, w2⟩ := ht_39 h2
  obtain rfl := ArgTys.nil_inv g3
  subst e2 e1 e0
  refine (L_law16_ProbeTells_ok (probeTells_true a0 a1 a2 w0 w1 w2)).as ⟨?_, rfl, rfl, rfl⟩
  show _ = List.zipWith (avOf Tryz.prog) [27, 31, 39] _
  simp only [List.zipWith_cons_cons, List.zipWith_nil_left, avOf, Tryz.underlying27, Tryz.underlying31, Tryz.underlying39] <;> rfl
theorem probeTells_own : ownKnob Tryz.prog.godebug = none := by kernel_rfl
set_option maxRecDepth 100000 in
theorem probeTells_holds : Rows.ProbeTellsSaid :=
  OpenClaim.holds_of_wide (p := Tryz.pinned) (s := Rows.probeTellsSpec) (c := Rows.probeTellsRow) 3 Tryz.f3 rfl rfl rfl rfl rfl rfl rfl ⟨rfl, rfl, rfl, rfl, rfl⟩ rfl rfl rfl rfl rfl (by kernel_rfl) Tryz.func3 (by kernel_rfl)
    (of_decide_eq_true (by kernel_rfl)) (by unfold Func.isWrapper; first | (rw [if_pos (by decide +kernel)]; kernel_rfl) | (rw [if_neg (by decide +kernel)]; exact ⟨rfl, rfl⟩))
    (fun os started H enc _ => said_lift (C := Tryz.checked) (s := Rows.probeTellsSpec) 12 4 probeTells_own started (by kernel_rfl) Tryz.func3
      (ChangeSpec.witness6 (enc := enc) (C := Tryz.checked) false ⟨#[], #[.agg #[.int .i64 0, .slice none 0 0, .slice none 0 0, .bool false], .agg #[.int .i64 0, .int .i64 0, .int .i64 0, .slice none 0 0, .slice none 0 0], .agg #[.int .i64 0, .int .i64 0, .slice none 0 0, .int .i64 0, .int .i64 0, .int .i64 0, .int .i64 0, .slice none 0 0, .int .i64 0, .int .i64 0, .int .i64 0, .slice none 0 0]], []⟩ 8 (by kernel_rfl) (by kernel_rfl) (by kernel_rfl) (by kernel_rfl))
      (by kernel_rfl) (by kernel_rfl) rfl Tryz.underlying4 rfl (fun ds h => by match ds, h with | [_, _, _], _ => rfl) probeTells_calls)
end Go.Proofs.YtabbejabdkkaiaaGreat
