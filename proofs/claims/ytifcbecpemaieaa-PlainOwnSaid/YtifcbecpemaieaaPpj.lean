/- Plain systems: all that can be done, the document's; the same configuration; sizes. No condition. -/
import Derived.Test.YtifcbecpemaieaaPpi
import Derived.Test.YtifcbecpemaieaaPpg
set_option linter.unusedSimpArgs false
set_option linter.unusedVariables false
namespace Go.Proofs.Ytifcbecpemaieaa
open Go.RowKit

section
variable {a : TApp} {c : TConf}
theorem apply_bad {s : TStep} (he : (applyP a c s).2 ≠ 0) : (applyP a c s).1 = noC := by
 have hs : ∀ n z (o : Option (List (List TMsg) × List Int)),(sentP c n z o).2 ≠ 0 → (sentP c n z o).1 = noC := fun n z o => by
  cases o with
  | none => exact fun _ => rfl
  | some r => exact fun q => absurd rfl q
 unfold applyP at he ⊢
 split at he
 ·
  rename_i k0
  rw [if_pos k0]
  unfold pickP at he ⊢
  split at he
  · rename_i c1; rw [if_pos c1]
  ·
   rename_i c1
   rw [if_neg c1]
   split at he
   ·
    rename_i c2
    rw [if_pos c2]
    cases hp : pickOf (stOf a.T s.Node ((c.States[s.Node.toNat]?).getD 0)) s.K with
    | none => rfl
    | some p =>
     rw [hp] at he
     exact hs _ _ _ he
   · rename_i c2; rw [if_neg c2]
 ·
  rename_i k0
  rw [if_neg k0]
  split at he
  ·
   rename_i k1
   rw [if_pos k1]
   unfold deliverP at he ⊢
   split at he
   · rename_i c1; rw [if_pos c1]
   ·
    rename_i c1
    rw [if_neg c1]
    cases hp : placeP ((c.Links[s.Link.toNat]?).getD []) s.Seq with
    | none => rfl
    | some i =>
     rw [hp] at he
     dsimp only at he ⊢
     split at he
     · rename_i c2; rw [if_pos c2]
     · exact absurd rfl he
  · rename_i k1; rw [if_neg k1]
theorem noC_sz : SzC noC := ⟨by simp [noC],by simp [noC],fun l hl => by simp [noC] at hl,by simp [noC]⟩
theorem apply_sz (h : CRightP a c) (ha : SzA a) (s : TStep) : SzC (applyP a c s).1 := by
 by_cases e : (applyP a c s).2 = 0
 · exact (apply_right h ha e).sz ha
 · rw [apply_bad e]; exact noC_sz
end
end Go.Proofs.Ytifcbecpemaieaa
