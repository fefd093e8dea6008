/- Functions as typed ones,and that the program's functions answer as these do. No condition. -/
import Derived.Test.YtifcbecpemaieaaGd
set_option linter.unusedSimpArgs false
set_option linter.unusedVariables false
set_option maxRecDepth 20000
set_option maxHeartbeats 4000000
namespace Go.Proofs.Ytifcbecpemaieaa
open Go.RowKit

def L_law05_PlainOnce (a0 : TApp) (a1 : TConf) (a2 : (List TStep)) : Option Bool :=
 (L_law05_Cut a0).bind fun r108 =>
 (L_law05_CutConf a1).bind fun r112 =>
 if 0 ≤ (min (a2.length : Int) 10) then
  if (min (a2.length : Int) 10) ≤ (a2.length : Int) then
   (some (a2.take ((min (a2.length : Int) 10).toNat))).bind fun v120 =>
   (L_law05_App r108).bind fun r124 =>
   (L_plain_Right r108 r112).bind fun r132 =>
   (L_law05_Ref r112).bind fun r134 =>
   (L_ref05_Right r124 r134).bind fun r136 =>
   if r132 = r136 then
    if r136 = true then
     (L_plain_Run r108 r112 v120).bind fun r179 =>
     (L_law05_Steps v120).bind fun r185 =>
     (L_ref05_Run r124 r134 r185).bind fun r187 =>
     (L_law05_Ref r179.1).bind fun r212 =>
     (L_ref05_Same r212 r187.1).bind fun r214 =>
     if r214 = true then
      if r179.2.1 = r187.2.1 then
       if r179.2.2 = r187.2.2 then
        (L_plain_Can r108 r112).bind fun r219 =>
        (L_law05_Steps r219).bind fun r221 =>
        (L_ref05_Can r124 r134).bind fun r223 =>
        (L_ref05_Steps r221 r223).bind fun r225 =>
        if r225 = true then
         (L_plain_Same r112 r179.1).bind fun r228 =>
         (L_ref05_Same r134 r187.1).bind fun r230 =>
         if r228 = r230 then
          (L_law05_fixed).bind fun r233 =>
          some r233
         else none
        else none
       else none
      else none
     else none
    else
     (L_law05_fixed).bind fun r237 =>
     some r237
   else none
  else none
 else none

end Go.Proofs.Ytifcbecpemaieaa
