/- Functions as typed ones,and that the program's functions answer as these do. No condition. -/
import Derived.Test.YtifcbecpemaieaaGd
set_option linter.unusedSimpArgs false
set_option linter.unusedVariables false
set_option maxRecDepth 20000
set_option maxHeartbeats 4000000
namespace Go.Proofs.Ytifcbecpemaieaa
open Go.RowKit

def L_law14_CalmStays (a0 : TApp) (a1 : TConf) (a2 : TStep) : Option Bool :=
 (L_law05_Cut a0).bind fun r122 =>
 (L_law05_CutConf a1).bind fun r126 =>
 (L_law05_App r122).bind fun r134 =>
 (L_law05_Ref r126).bind fun r136 =>
 (L_ref05_Right r134 r136).bind fun r138 =>
 if r138 = true then
  (L_plain_Can r122 r126).bind fun r176 =>
  (L_calm_Over r122 r126).bind fun r180 =>
  if r180 = true then
   (L_plain_Apply r122 r126 a2).bind fun r219 =>
   if (r176.length : Int) = 0 then
    if r219.2 = 0 then none
    else
     (L_calm_Way r126).bind fun r235 =>
     if r235 = 0 then
      (L_law14_fixed).bind fun r238 =>
      some r238
     else none
   else none
  else
   (if (r176.length : Int) > 0 then
    (L_law14_fixed).bind fun r259 =>
    some r259
   else
    (L_calm_Way r126).bind fun r261 =>
    if r261 = 0 then
     (L_law14_fixed).bind fun r266 =>
     some r266
    else
     some false).bind fun b248 =>
   some b248
 else
  (L_plain_Right r122 r126).bind fun r273 =>
  if r273 = true then none
  else
   (L_law14_fixed).bind fun r278 =>
   some r278

end Go.Proofs.Ytifcbecpemaieaa
