/- 'TableEach' answers true at every input, and its arguments stay as they were. No condition. -/
import Derived.Test.YtabbejabdkkaiaaPTableEach
import Derived.Test.YtabbejabdkkaiaaGbTableEach
import Derived.Test.YtabbejabdkkaiaaGw
set_option linter.unusedSimpArgs false
set_option linter.unusedVariables false
namespace Go.Proofs.Ytabbejabdkkaiaa
open Go.RowKit
theorem tableEach_calls (ls : List (List C)) (h : ArgTys Try.prog Try.f3.params.toList ls) : CallH Try.prog 3 (List.zipWith (avOf Try.prog) Try.f3.params.toList ls) [] (.one (.d (.bool true))) [] := by
  rw [Try.params3] at h ⊢
  change ArgTys Try.prog [22, 25, 26] ls at h
  obtain ⟨_, _, e0, h0, g1⟩ := ArgTys.cons_inv h
  obtain ⟨a0, rfl, w0⟩ := ht_22 h0
  obtain ⟨_, _, e1, h1, g2⟩ := ArgTys.cons_inv g1
  obtain ⟨a1, rfl, w1⟩ := ht_25 h1
  obtain ⟨_, _, e2, h2, g3⟩ := ArgTys.cons_inv g2
  obtain ⟨a2, rfl, w2⟩ := ht_26 h2
  obtain rfl := ArgTys.nil_inv g3
  subst e2 e1 e0
  refine (L_law04_TableEach_ok (tableEach_true a0 a1 a2 w0 w1 w2)).as ⟨?_, rfl, rfl, rfl⟩
  show _ = List.zipWith (avOf Try.prog) [22, 25, 26] _
  simp only [List.zipWith_cons_cons, List.zipWith_nil_left, avOf, Try.underlying22, Try.underlying25, Try.underlying26] <;> rfl
theorem tableEach_own : ownKnob Try.prog.godebug = none := by kernel_rfl
set_option maxRecDepth 100000 in
theorem tableEach_holds : Rows.TableEachSaid :=
  OpenClaim.holds_of_wide (p := Try.pinned) (s := Rows.tableEachSpec) (c := Rows.tableEachRow) 3 Try.f3 rfl rfl rfl rfl rfl rfl rfl ⟨rfl, rfl, rfl, rfl, rfl⟩ rfl rfl rfl rfl rfl (by kernel_rfl) Try.func3 (by kernel_rfl)
    (of_decide_eq_true (by kernel_rfl)) (by unfold Func.isWrapper; first | (rw [if_pos (by decide +kernel)]; kernel_rfl) | (rw [if_neg (by decide +kernel)]; exact ⟨rfl, rfl⟩))
    (fun os started H enc _ => said_lift (C := Try.checked) (s := Rows.tableEachSpec) 12 4 tableEach_own started (by kernel_rfl) Try.func3
      (ChangeSpec.witness6 (enc := enc) (C := Try.checked) false ⟨#[], #[.slice none 0 0, .agg #[.int .i64 0, .slice none 0 0], .agg #[.int .i64 0, .int .i64 0, .int .i64 0]], []⟩ 8 (by kernel_rfl) (by kernel_rfl) (by kernel_rfl) (by kernel_rfl))
      (by kernel_rfl) (by kernel_rfl) rfl Try.underlying4 rfl (fun ds h => by match ds, h with | [_, _, _], _ => rfl) tableEach_calls)
end Go.Proofs.Ytabbejabdkkaiaa
