/- Shared by the laws on graphs: links once each, counted by their ends. No condition. -/
import Derived.Test.YtabbejabdkkaiaaPge
set_option linter.unusedSimpArgs false
set_option linter.unusedVariables false
namespace Go.Proofs.Ytabbejabdkkaiaa
open Go.RowKit

def goods (g : TGraph) : Prop := ∀ x ∈ g.Links,good g.N x
theorem nodup_get {α : Type} {l : List α} (h : l.Nodup) {i j : Nat} {x : α} (hi : l[i]? = some x) (hj : l[j]? = some x) : i = j := by
 obtain ⟨hi',ei⟩ := List.getElem?_eq_some_iff.1 hi
 obtain ⟨hj',ej⟩ := List.getElem?_eq_some_iff.1 hj
 unfold List.Nodup at h
 rw [List.pairwise_iff_getElem] at h
 rcases Nat.lt_trichotomy i j with h1 | h1 | h1
 · exact absurd (ei.trans ej.symm) (h i j hi' hj' h1)
 · exact h1
 · exact absurd (ej.trans ei.symm) (h j i hj' hi' h1)
theorem get_nodup {α : Type} {l : List α} (h : ∀ (i j : Nat) (x : α),i < j → l[i]? = some x → l[j]? = some x → False) : l.Nodup := by
 unfold List.Nodup
 rw [List.pairwise_iff_getElem]
 intro i j hi hj hij e
 exact h i j l[i] hij (List.getElem?_eq_getElem hi) (by rw [List.getElem?_eq_getElem hj,e])
section
variable {g : TGraph}
theorem C1_iff : C1 g ↔ goods g ∧ g.Links.Nodup := by
 constructor
 ·
  intro h
  refine ⟨fun x hx => ?_,get_nodup fun i j x hij hi hj => (h j x hj).2 i hij hi⟩
  obtain ⟨i,hi,e⟩ := List.getElem_of_mem hx
  exact (h i x (by rw [List.getElem?_eq_getElem hi,e])).1
 ·
  rintro ⟨h1,h2⟩ j x hx
  refine ⟨h1 x (List.mem_of_getElem? hx),fun i hi hxi => ?_⟩
  have := nodup_get h2 hxi hx
  omega
end
end Go.Proofs.Ytabbejabdkkaiaa
