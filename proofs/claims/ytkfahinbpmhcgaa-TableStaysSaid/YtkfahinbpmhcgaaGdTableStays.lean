/- Functions as typed ones, and that the program's functions answer as these do. No condition. -/
import Derived.Test.YtkfahinbpmhcgaaGd
set_option linter.unusedSimpArgs false
set_option linter.unusedVariables false
set_option maxRecDepth 20000
set_option maxHeartbeats 4000000
namespace Go.Proofs.Ytkfahinbpmhcgaa
open Go.RowKit

def L_law04_TableStays_l1 (a2 : TCourse) (r579 : (List TNode)) (r583 : TGraph) (x845 : Int) : Nat → Int → Int → Option Unit
  | 0, _, _ => none
  | nf + 1, n1249, n1250 =>
    (if n1250 < (a2.From.length : Int) then
      some (decide (n1250 < 30))
    else
      some false).bind fun b1257 =>
    if b1257 = true then
      ((at? a2.From n1250).bind fun x1305 =>
      if ((landK .i64 x1305 255).tmod r583.N) = x845 then
        some n1249
      else
        (L_table_Taken r579 ((landK .i64 a2.Node 255).tmod r583.N) n1249 ((landK .i64 x1305 255).tmod r583.N) (n1250.tmod 4)).bind fun r1324 =>
        (L_table_Picked r579 ((landK .i64 a2.Node 255).tmod r583.N) r1324 0).bind fun r1328 =>
        (L_table_Mode r579 ((landK .i64 a2.Node 255).tmod r583.N) r1324).bind fun r1339 =>
        if r1339 = 2 then
          (L_table_Waits r579 ((landK .i64 a2.Node 255).tmod r583.N) r1324).bind fun r1342 =>
          (L_ref04_In r1342 x845).bind fun r1344 =>
          if r1344 = true then
            if r1328.2 = true then none
            else
              some r1324
          else none
        else none).bind fun n1300 =>
      L_law04_TableStays_l1 a2 r579 r583 x845 nf n1300 (IntKind.wrap .i64 (n1250 + 1))
    else
      some ()
def L_law04_TableStays (a0 : (List TNode)) (a1 : TGraph) (a2 : TCourse) : Option Bool :=
  (L_law04_Cut a0).bind fun r579 =>
  (L_law03_Cut a1).bind fun r583 =>
  (L_law04_Ref r579).bind fun r591 =>
  (L_law03_Ref r583).bind fun r593 =>
  (L_ref04_Right r591 r593).bind fun r595 =>
  if r595 = true then
    if ¬ r583.N = 0 then
      (at? r579 ((landK .i64 a2.Node 255).tmod r583.N)).bind fun x634 =>
      if ¬ (x634.States.length : Int) = 0 then
        (L_table_Waits r579 ((landK .i64 a2.Node 255).tmod r583.N) ((landK .i64 a2.State 255).tmod (x634.States.length : Int))).bind fun r639 =>
        if (r639.length : Int) = 0 then
          (L_table_Mode r579 ((landK .i64 a2.Node 255).tmod r583.N) ((landK .i64 a2.State 255).tmod (x634.States.length : Int))).bind fun r834 =>
          if r834 = 2 then none
          else
            (L_law04_fixed).bind fun r839 =>
            some r839
        else
          if ¬ (r639.length : Int) = 0 then
            (at? r639 ((landK .i64 a2.On 255).tmod (r639.length : Int))).bind fun x845 =>
            (L_law04_TableStays_l1 a2 r579 r583 x845 (((a2.From.length : Int) - 0).toNat + 1) ((landK .i64 a2.State 255).tmod (x634.States.length : Int)) 0).bind fun _ =>
            (L_law04_fixed).bind fun r1350 =>
            some r1350
          else none
      else none
    else none
  else
    (L_table_Right r579 r583).bind fun r1357 =>
    if r1357 = true then none
    else
      (L_law04_fixed).bind fun r1362 =>
      some r1362

end Go.Proofs.Ytkfahinbpmhcgaa
