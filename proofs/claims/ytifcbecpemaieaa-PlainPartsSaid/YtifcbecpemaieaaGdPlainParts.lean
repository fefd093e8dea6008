/- Functions as typed ones,and that the program's functions answer as these do. No condition. -/
import Derived.Test.YtifcbecpemaieaaGd
set_option linter.unusedSimpArgs false
set_option linter.unusedVariables false
set_option maxRecDepth 20000
set_option maxHeartbeats 4000000
namespace Go.Proofs.Ytifcbecpemaieaa
open Go.RowKit

def L_law05_PlainParts (a0 : TApp) (a1 : (List TStep)) (a2 : Int) : Option Bool :=
 (L_law05_Cut a0).bind fun r181 =>
 if 0 ≤ (min (a1.length : Int) 40) then
  if (min (a1.length : Int) 40) ≤ (a1.length : Int) then
   (some (a1.take ((min (a1.length : Int) 40).toNat))).bind fun v189 =>
   (L_law05_App r181).bind fun r193 =>
   (L_ref04_Right r193.T r193.G).bind fun r197 =>
   if r197 = true then
    if ¬ (IntKind.wrap .i64 ((v189.length : Int) + 1)) = 0 then
     (L_plain_Start r181).bind fun r259 =>
     (L_plain_Run r181 r259 v189).bind fun r261 =>
     if 0 ≤ ((IntKind.wrap .i64 a2).tmod (IntKind.wrap .i64 ((v189.length : Int) + 1))) then
      if ((IntKind.wrap .i64 a2).tmod (IntKind.wrap .i64 ((v189.length : Int) + 1))) ≤ (v189.length : Int) then
       (some (v189.take (((IntKind.wrap .i64 a2).tmod (IntKind.wrap .i64 ((v189.length : Int) + 1))).toNat))).bind fun v271 =>
       (L_plain_Run r181 r259 v271).bind fun r273 =>
       if r261.2.1 > (v189.length : Int) then none
       else
        if r273.2.1 > ((IntKind.wrap .i64 a2).tmod (IntKind.wrap .i64 ((v189.length : Int) + 1))) then none
        else
         if r261.2.1 < 0 then none
         else
          if r273.2.1 < 0 then none
          else
           if (decide (r261.2.2 = 0)) = (decide (r261.2.1 = (v189.length : Int))) then
            if (decide (r273.2.2 = 0)) = (decide (r273.2.1 = ((IntKind.wrap .i64 a2).tmod (IntKind.wrap .i64 ((v189.length : Int) + 1))))) then
             if r273.2.2 = 0 then
              (some (v189.drop (((IntKind.wrap .i64 a2).tmod (IntKind.wrap .i64 ((v189.length : Int) + 1))).toNat))).bind fun v517 =>
              (L_plain_Run r181 r273.1 v517).bind fun r519 =>
              if 0 ≤ r261.2.1 then
               if r261.2.1 ≤ (v189.length : Int) then
                (some (v189.take r261.2.1.toNat)).bind fun v529 =>
                (L_plain_Run r181 r259 v529).bind fun r531 =>
                if r519.2.2 = r261.2.2 then
                 if (IntKind.wrap .i64 (((IntKind.wrap .i64 a2).tmod (IntKind.wrap .i64 ((v189.length : Int) + 1))) + r519.2.1)) = r261.2.1 then
                  (L_law05_Ref r519.1).bind fun r553 =>
                  (L_law05_Ref r261.1).bind fun r555 =>
                  (L_ref05_Same r553 r555).bind fun r557 =>
                  if r557 = true then
                   if r531.2.2 = 0 then
                    if r531.2.1 = r261.2.1 then
                     (L_law05_Ref r531.1).bind fun r562 =>
                     (L_ref05_Same r562 r555).bind fun r564 =>
                     if r564 = true then
                      (L_law05_fixed).bind fun r567 =>
                      some r567
                     else none
                    else none
                   else none
                  else none
                 else none
                else none
               else none
              else none
             else
              if r261.2.2 = r273.2.2 then
               if r261.2.1 = r273.2.1 then
                (L_law05_Ref r261.1).bind fun r582 =>
                (L_law05_Ref r273.1).bind fun r584 =>
                (L_ref05_Same r582 r584).bind fun r586 =>
                if r586 = true then
                 (L_law05_fixed).bind fun r589 =>
                 some r589
                else none
               else none
              else none
            else none
           else none
      else none
     else none
    else none
   else
    (L_law05_fixed).bind fun r593 =>
    some r593
  else none
 else none

end Go.Proofs.Ytifcbecpemaieaa
