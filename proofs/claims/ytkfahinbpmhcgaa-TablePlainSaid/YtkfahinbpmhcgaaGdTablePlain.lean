/- Functions as typed ones, and that the program's functions answer as these do. No condition. -/
import Derived.Test.YtkfahinbpmhcgaaGd
set_option linter.unusedSimpArgs false
set_option linter.unusedVariables false
set_option maxRecDepth 20000
set_option maxHeartbeats 4000000
namespace Go.Proofs.Ytkfahinbpmhcgaa
open Go.RowKit

def L_law04_TablePlain_l2 (a1 : (List Bool)) (n5195 : Int) (r2379 : TGraph) (r2385 : TGraph) : Nat → Int → Int → (List Int) → Option (Int × (List Int))
  | 0, _, _, _ => none
  | nf + 1, n5627, n5628, l5629 =>
    (if n5627 < r2379.N then
      if n5195 < (a1.length : Int) then
        (at? a1 n5195).bind fun x5650 =>
        some x5650
      else
        some false
    else
      some false).bind fun b5640 =>
    if b5640 = true then
      ((L_ref03_Find r2385 n5627 n5195).bind fun r5670 =>
      if r5670 ≥ 0 then
        if (l5629.length + 1) * 8 ≤ 140737488355328 then
          some (2, (l5629 ++ [n5627]))
        else none
      else
        some (n5628, l5629)).bind fun ⟨n5664, l5665⟩ =>
      L_law04_TablePlain_l2 a1 n5195 r2379 r2385 nf (IntKind.wrap .i64 (n5627 + 1)) n5664 l5665
    else
      some (n5628, l5629)
def L_law04_TablePlain_l1 (a1 : (List Bool)) (r2379 : TGraph) (r2385 : TGraph) : Nat → Int → (List TNode) → Option (List TNode)
  | 0, _, _ => none
  | nf + 1, n5195, l5196 =>
    if n5195 < r2379.N then
      ((L_law04_TablePlain_l2 a1 n5195 r2379 r2385 ((r2379.N - 0).toNat + 1) 0 0 ([] : List Int)).bind fun ⟨n5562, l5563⟩ =>
      if (l5196.length + 1) * 32 ≤ 140737488355328 then
        some ((l5196 ++ [(TNode.mk 0 ([(TState.mk n5562 l5563 [] [])]))]) : List TNode)
      else none).bind fun l5464 =>
      L_law04_TablePlain_l1 a1 r2379 r2385 nf (IntKind.wrap .i64 (n5195 + 1)) l5464
    else
      some l5196
def L_law04_TablePlain (a0 : TGraph) (a1 : (List Bool)) : Option Bool :=
  (L_law03_Cut a0).bind fun r2379 =>
  (L_law03_Ref r2379).bind fun r2385 =>
  (L_ref03_Right r2385).bind fun r2387 =>
  if r2387 = true then
    (L_law04_TablePlain_l1 a1 r2379 r2385 ((r2379.N - 0).toNat + 1) 0 ([] : List TNode)).bind fun l4426 =>
    (L_table_Right l4426 r2379).bind fun r5686 =>
    if r5686 = true then
      if 1 ≤ (l4426.length : Int) then
        (L_table_Right ((l4426.drop 1).take (l4426.length - 1)) r2379).bind fun r5691 =>
        if r5691 = true then none
        else
          (L_law04_fixed).bind fun r5696 =>
          some r5696
      else none
    else none
  else
    (L_table_Right ([(TNode.mk 0 ([(TState.mk 0 [] [] [])]))]) r2379).bind fun r5703 =>
    if r5703 = true then none
    else
      (L_law04_fixed).bind fun r5708 =>
      some r5708

end Go.Proofs.Ytkfahinbpmhcgaa
