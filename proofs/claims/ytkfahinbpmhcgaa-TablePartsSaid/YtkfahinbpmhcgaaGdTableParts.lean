/- Functions as typed ones, and that the program's functions answer as these do. No condition. -/
import Derived.Test.YtkfahinbpmhcgaaGd
set_option linter.unusedSimpArgs false
set_option linter.unusedVariables false
set_option maxRecDepth 20000
set_option maxHeartbeats 4000000
namespace Go.Proofs.Ytkfahinbpmhcgaa
open Go.RowKit

def L_law04_TableParts_l4 (n184443 : Int) (r211761 : TPick × Bool) (r82851 : TGraph) : Nat → Int → Option Unit
  | 0, _ => none
  | nf + 1, n212036 =>
    if n212036 < (r211761.1.Sends.length : Int) then
      (at? r211761.1.Sends n212036).bind fun x212058 =>
      (L_ref03_Find r82851 n184443 x212058.To).bind fun r212060 =>
      if r212060 < 0 then none
      else
        L_law04_TableParts_l4 n184443 r211761 r82851 nf (IntKind.wrap .i64 (n212036 + 1))
    else
      some ()
def L_law04_TableParts_l3 (n184443 : Int) (n207848 : Int) (r209402 : Int) (r82837 : (List TNode)) (r82851 : TGraph) (x196351 : TNode) : Nat → Int → Option Unit
  | 0, _ => none
  | nf + 1, n211615 =>
    if n211615 < 5 then
      ((L_table_Picked r82837 n184443 n207848 n211615).bind fun r211761 =>
      (if r211761.2 = true then
        if r209402 = 1 then
          if r211761.1.Next < 0 then
            some true
          else
            if r211761.1.Next ≥ (x196351.States.length : Int) then
              some true
            else
              if n211615 > 3 then
                some true
              else
                some false
        else
          some true
      else
        if r211761.1.Next = 0 then
          some (!(decide ((r211761.1.Sends.length : Int) = 0)))
        else
          some true).bind fun b211866 =>
      if b211866 = true then none
      else
        (L_law04_TableParts_l4 n184443 r211761 r82851 (((r211761.1.Sends.length : Int) - 0).toNat + 1) 0).bind fun _ =>
        some ()).bind fun _ =>
      L_law04_TableParts_l3 n184443 n207848 r209402 r82837 r82851 x196351 nf (IntKind.wrap .i64 (n211615 + 1))
    else
      some ()
def L_law04_TableParts_l5 (n184443 : Int) (n207848 : Int) (r82837 : (List TNode)) (r82841 : TGraph) (r82851 : TGraph) (x196351 : TNode) : Nat → Int → Option Unit
  | 0, _ => none
  | nf + 1, n212258 =>
    if n212258 < r82841.N then
      (L_table_Taken r82837 n184443 n207848 n212258 (n207848.tmod 4)).bind fun r212290 =>
      (if r212290 < 0 then
        some true
      else
        if r212290 ≥ (x196351.States.length : Int) then
          some true
        else
          (L_ref03_Find r82851 n212258 n184443).bind fun r212307 =>
          if r212307 < 0 then
            some (!(decide (r212290 = n207848)))
          else
            some false).bind fun b212298 =>
      if b212298 = true then none
      else
        L_law04_TableParts_l5 n184443 n207848 r82837 r82841 r82851 x196351 nf (IntKind.wrap .i64 (n212258 + 1))
    else
      some ()
def L_law04_TableParts_l2 (n184443 : Int) (r82837 : (List TNode)) (r82841 : TGraph) (r82851 : TGraph) (x196351 : TNode) : Nat → Int → Option Unit
  | 0, _ => none
  | nf + 1, n207848 =>
    if n207848 < (x196351.States.length : Int) then
      ((L_table_Mode r82837 n184443 n207848).bind fun r209402 =>
      if r209402 < 0 then none
      else
        if r209402 > 2 then none
        else
          (L_table_Waits r82837 n184443 n207848).bind fun r210594 =>
          if (decide (r209402 = 2)) = (decide ((r210594.length : Int) > 0)) then
            (L_law04_TableParts_l3 n184443 n207848 r209402 r82837 r82851 x196351 (((5 : Int) - 0).toNat + 1) 0).bind fun _ =>
            (L_law04_TableParts_l5 n184443 n207848 r82837 r82841 r82851 x196351 ((r82841.N - 0).toNat + 1) 0).bind fun _ =>
            some ()
          else none).bind fun _ =>
      L_law04_TableParts_l2 n184443 r82837 r82841 r82851 x196351 nf (IntKind.wrap .i64 (n207848 + 1))
    else
      some ()
def L_law04_TableParts_l1 (r82837 : (List TNode)) (r82841 : TGraph) (r82851 : TGraph) : Nat → Int → Option Unit
  | 0, _ => none
  | nf + 1, n184443 =>
    if n184443 < r82841.N then
      ((at? r82837 n184443).bind fun x196351 =>
      (L_law04_TableParts_l2 n184443 r82837 r82841 r82851 x196351 (((x196351.States.length : Int) - 0).toNat + 1) 0).bind fun _ =>
      some ()).bind fun _ =>
      L_law04_TableParts_l1 r82837 r82841 r82851 nf (IntKind.wrap .i64 (n184443 + 1))
    else
      some ()
def L_law04_TableParts (a0 : (List TNode)) (a1 : TGraph) : Option Bool :=
  (L_law04_Cut a0).bind fun r82837 =>
  (L_law03_Cut a1).bind fun r82841 =>
  (L_law04_Ref r82837).bind fun r82849 =>
  (L_law03_Ref r82841).bind fun r82851 =>
  (L_ref04_Right r82849 r82851).bind fun r82853 =>
  if r82853 = true then
    (L_law04_TableParts_l1 r82837 r82841 r82851 ((r82841.N - 0).toNat + 1) 0).bind fun _ =>
    (L_law04_fixed).bind fun r212313 =>
    some r212313
  else
    (L_table_Right r82837 r82841).bind fun r212320 =>
    if r212320 = true then none
    else
      (L_law04_fixed).bind fun r212325 =>
      some r212325

end Go.Proofs.Ytkfahinbpmhcgaa
