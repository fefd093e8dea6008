/- The knot: nodes held are behind edges from themselves, rings turned, edges in their order. No condition. -/
import Derived.Test.YtabbejabdkkaiaaGreatPkc
set_option linter.unusedSimpArgs false
set_option linter.unusedVariables false
namespace Go.Proofs.YtabbejabdkkaiaaGreat
open Go.RowKit

section
end
section
variable {a : TApp} {c : TConf}
theorem ring_iff {l : List Int} : ringP a c l ↔ l ≠ [] ∧ l.Nodup ∧ ∀ (i : Nat) (hi : i < l.length),edgeB a c l[i] (l[(i + 1) % l.length]'(Nat.mod_lt _ (by omega))) = true := by
 refine and_congr_right fun h0 => ⟨fun h => ⟨?_,fun i hi => ?_⟩,fun ⟨h1,h2⟩ i n hi => ?_⟩
 ·
  unfold List.Nodup
  rw [List.pairwise_iff_getElem]
  intro i j hi hj hij e
  refine (h j _ (List.getElem?_eq_getElem hj)).1 ?_
  rw [← e]
  have : l[i] = (l.take j)[i]'(by rw [List.length_take]; omega) := by rw [List.getElem_take]
  rw [this]
  exact List.getElem_mem _
 · exact (h i _ (List.getElem?_eq_getElem hi)).2 _ (List.getElem?_eq_getElem (Nat.mod_lt _ (by omega)))
 ·
  obtain ⟨hi',e⟩ := List.getElem?_eq_some_iff.1 hi
  subst e
  refine (ring_cur hi').2 ⟨fun hm => ?_,h2 i hi'⟩
  obtain ⟨j,hj,e⟩ := List.getElem_of_mem hm
  rw [List.length_take] at hj
  rw [List.getElem_take] at e
  have := (List.getElem_inj h1).1 e
  omega
end
end Go.Proofs.YtabbejabdkkaiaaGreat
