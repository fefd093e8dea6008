/- Functions as typed ones,and that the program's functions answer as these do. No condition. -/
import Derived.Test.YtifcbecpemaieaaGd
set_option linter.unusedSimpArgs false
set_option linter.unusedVariables false
set_option maxRecDepth 20000
set_option maxHeartbeats 4000000
namespace Go.Proofs.Ytifcbecpemaieaa
open Go.RowKit

def L_law14_CalmTells (a0 : TApp) (a1 : TConf) : Option Bool :=
 (L_law05_Cut a0).bind fun r116 =>
 (L_law05_CutConf a1).bind fun r120 =>
 (L_law05_App r116).bind fun r126 =>
 (L_law05_Ref r120).bind fun r128 =>
 (L_ref05_Right r126 r128).bind fun r132 =>
 if r132 = true then
  (L_calm_Count r116 r120).bind fun r187 =>
  (L_calm_Over r116 r120).bind fun r218 =>
  (L_ref14_Over r126 r128).bind fun r220 =>
  if r218 = r220 then
   (L_ref14_Count r126 r128 0).bind fun r223 =>
   if r187.1 = r223 then
    (L_ref14_Count r126 r128 1).bind fun r226 =>
    if r187.2.1 = r226 then
     (L_ref14_Count r126 r128 2).bind fun r229 =>
     if r187.2.2 = r229 then
      if (IntKind.wrap .i64 ((IntKind.wrap .i64 (r187.1 + r187.2.1)) + r187.2.2)) = r116.G.N then
       (L_calm_Way r120).bind fun r233 =>
       (L_ref14_Way r128).bind fun r235 =>
       if r233 = r235 then
        (L_calm_Loads r120).bind fun r238 =>
        (L_ref14_Loads r128).bind fun r240 =>
        (L_ref01_Ints r238 r240).bind fun r242 =>
        if r242 = true then
         (L_law14_fixed).bind fun r245 =>
         some r245
        else none
       else none
      else none
     else none
    else none
   else none
  else none
 else
  (L_plain_Right r116 r120).bind fun r252 =>
  if r252 = true then none
  else
   (L_law14_fixed).bind fun r257 =>
   some r257

end Go.Proofs.Ytifcbecpemaieaa
