/- Edges in plain words: who waits for whom, with nothing under way. No condition. -/
import Derived.Test.YtabbejabdkkaiaaPca
import Derived.Test.YtabbejabdkkaiaaPkm
import Derived.Test.YtabbejabdkkaiaaPgf
set_option linter.unusedSimpArgs false
set_option linter.unusedVariables false
namespace Go.Proofs.Ytabbejabdkkaiaa
open Go.RowKit

theorem ref_at (l : List TNode) (n s : Int) : L_ref04_At l n s = some (stOf l n s) := by
 unfold L_ref04_At stOf stA
 by_cases c1 : n < 0
 ·
  rw [if_pos c1,Option.bind_some,if_pos rfl,if_neg (by omega)]
  rfl
 ·
  rw [if_neg c1]
  by_cases c2 : n ≥ (l.length : Int)
  ·
   rw [if_pos c2,Option.bind_some,if_pos rfl,List.getElem?_eq_none (by omega)]
   split <;> rfl
  ·
   rw [if_neg c2]
   have hn : n.toNat < l.length := by omega
   by_cases c3 : s < 0
   ·
    rw [if_pos c3,Option.bind_some,if_pos rfl,if_neg (by omega)]
    rfl
   ·
    rw [if_neg c3,at_lt (by omega) (by omega),Option.bind_some,Option.bind_some,if_pos (show 0 ≤ n ∧ 0 ≤ s from ⟨by omega,by omega⟩),List.getElem?_eq_getElem hn]
    dsimp only [Option.bind_some]
    by_cases c4 : s ≥ (l[n.toNat].States.length : Int)
    ·
     rw [if_pos (dT c4),List.getElem?_eq_none (by omega)]
     rfl
    ·
     rw [if_neg (by rw [dF c4]; decide),at_lt (by omega) (by omega),Option.bind_some,List.getElem?_eq_getElem (by omega)]
     rfl
theorem RightP.link {g : TGraph} (h : RightP g) {x : A2I} (hx : x ∈ g.Links) : good g.N x := (C1_iff.1 h.2.2.2.1).1 x hx
section
variable {a : TApp}
end
end Go.Proofs.Ytabbejabdkkaiaa
