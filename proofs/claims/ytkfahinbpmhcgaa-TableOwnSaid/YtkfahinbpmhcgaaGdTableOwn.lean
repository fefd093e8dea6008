/- Functions as typed ones, and that the program's functions answer as these do. No condition. -/
import Derived.Test.YtkfahinbpmhcgaaGd
set_option linter.unusedSimpArgs false
set_option linter.unusedVariables false
set_option maxRecDepth 20000
set_option maxHeartbeats 4000000
namespace Go.Proofs.Ytkfahinbpmhcgaa
open Go.RowKit

def L_law04_TableOwn_l1 : Nat → Int → (List Int) → Option Unit
  | 0, _, _ => none
  | nf + 1, n434, l435 =>
    if n434 < (l435.length : Int) then
      (at? l435 n434).bind fun x443 =>
      L_law04_TableOwn_l1 nf (IntKind.wrap .i64 (n434 + 1)) (l435.set n434.toNat 99)
    else
      some ()
def L_law04_TableOwn_l2 : Nat → Int → (List TSend) → Option Unit
  | 0, _, _ => none
  | nf + 1, n571, l572 =>
    if n571 < (l572.length : Int) then
      (at? l572 n571).bind fun x580 =>
      L_law04_TableOwn_l2 nf (IntKind.wrap .i64 (n571 + 1)) (l572.set n571.toNat (TSend.mk 99 0))
    else
      some ()
def L_law04_TableOwn_l3 (r352 : TPick × Bool) : Nat → Int → Option Unit
  | 0, _ => none
  | nf + 1, n727 =>
    if n727 < (r352.1.Sends.length : Int) then
      (at? r352.1.Sends n727).bind fun x745 =>
      if x745 = x745 then
        L_law04_TableOwn_l3 r352 nf (IntKind.wrap .i64 (n727 + 1))
      else none
    else
      some ()
def L_law04_TableOwn (a0 : (List TNode)) (a1 : TGraph) (a2 : A3I) : Option Bool :=
  (L_law04_Cut a0).bind fun r283 =>
  (L_law03_Cut a1).bind fun r287 =>
  (L_law04_Ref r283).bind fun r295 =>
  (L_law03_Ref r287).bind fun r297 =>
  (L_ref04_Right r295 r297).bind fun r299 =>
  if r299 = true then
    (L_table_Waits r283 a2.a0 a2.a1).bind fun r348 =>
    (L_table_Picked r283 a2.a0 a2.a1 a2.a2).bind fun r352 =>
    if r348.length * 8 ≤ 140737488355328 then
      if r352.1.Sends.length * 16 ≤ 140737488355328 then
        (L_law04_TableOwn_l1 (((r348.length : Int) - 0).toNat + 1) 0 r348).bind fun _ =>
        (L_law04_TableOwn_l2 (((r352.1.Sends.length : Int) - 0).toNat + 1) 0 r352.1.Sends).bind fun _ =>
        if r352.2 = r352.2 then
          if (r352.1.Sends.length : Int) = (r352.1.Sends.length : Int) then
            (L_ref01_Ints r348 r348).bind fun r628 =>
            if r628 = true then
              (L_law04_TableOwn_l3 r352 (((r352.1.Sends.length : Int) - 0).toNat + 1) 0).bind fun _ =>
              (L_table_Right r283 r287).bind fun r754 =>
              if r754 = true then
                (L_law04_fixed).bind fun r757 =>
                some r757
              else none
            else none
          else none
        else none
      else none
    else none
  else
    (L_table_Right r283 r287).bind fun r764 =>
    if r764 = true then none
    else
      (L_law04_fixed).bind fun r769 =>
      some r769

end Go.Proofs.Ytkfahinbpmhcgaa
