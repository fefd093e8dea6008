/- Functions as typed ones,and that the program's functions answer as these do. No condition. -/
import Derived.Test.YtifcbecpemaieaaGd
set_option linter.unusedSimpArgs false
set_option linter.unusedVariables false
set_option maxRecDepth 20000
set_option maxHeartbeats 4000000
namespace Go.Proofs.Ytifcbecpemaieaa
open Go.RowKit

def L_law14_CalmAlone (a0 : TApp) (a1 : TConf) (a2 : Int) : Option Bool :=
 (L_law05_Cut a0).bind fun r130 =>
 (L_law05_CutConf a1).bind fun r134 =>
 ((L_law05_App r130).bind fun r151 =>
 (L_law05_Ref r134).bind fun r153 =>
 (L_ref05_Right r151 r153).bind fun r155 =>
 if r155 = true then
  some (decide ((r134.Links.length : Int) = 0))
 else
  some true).bind fun b148 =>
 if b148 = true then
  (L_law14_fixed).bind fun r207 =>
  some r207
 else
  if ¬ (r134.Links.length : Int) = 0 then
   (L_law05_CutConf r134).bind fun r213 =>
   (at? r213.Links ((IntKind.wrap .i64 a2).tmod (r134.Links.length : Int))).bind fun x217 =>
   (L_calm_Count r130 r134).bind fun r221 =>
   (L_calm_Count r130 (TConf.mk r213.States (r213.Links.set (((IntKind.wrap .i64 a2).tmod (r134.Links.length : Int)).toNat) []) r213.Sent)).bind fun r225 =>
   (L_calm_Loads r134).bind fun r231 =>
   (L_calm_Loads (TConf.mk r213.States (r213.Links.set (((IntKind.wrap .i64 a2).tmod (r134.Links.length : Int)).toNat) []) r213.Sent)).bind fun r233 =>
   if (r231.length : Int) = (r134.Links.length : Int) then
    if (r233.length : Int) = (r231.length : Int) then
     (at? r231 ((IntKind.wrap .i64 a2).tmod (r134.Links.length : Int))).bind fun x263 =>
     (at? r134.Links ((IntKind.wrap .i64 a2).tmod (r134.Links.length : Int))).bind fun x265 =>
     if x263 = (x265.length : Int) then
      (at? r233 ((IntKind.wrap .i64 a2).tmod (r134.Links.length : Int))).bind fun x268 =>
      if x268 = 0 then
       (if r221.1 = r225.1 then
        if r221.2.1 = r225.2.1 then
         if r221.2.2 = r225.2.2 then
          (L_calm_Way (TConf.mk r213.States (r213.Links.set (((IntKind.wrap .i64 a2).tmod (r134.Links.length : Int)).toNat) []) r213.Sent)).bind fun r338 =>
          (L_calm_Way r134).bind fun r340 =>
          if r338 = (IntKind.wrap .i64 (r340 - (x265.length : Int))) then
           (L_calm_Over r130 r134).bind fun r351 =>
           if r351 = true then
            (L_calm_Over r130 (TConf.mk r213.States (r213.Links.set (((IntKind.wrap .i64 a2).tmod (r134.Links.length : Int)).toNat) []) r213.Sent)).bind fun r361 =>
            if r361 = true then
             (L_law14_fixed).bind fun r366 =>
             some r366
            else
             some false
           else
            (L_law14_fixed).bind fun r368 =>
            some r368
          else
           some false
         else
          some false
        else
         some false
       else
        some false).bind fun b290 =>
       some b290
      else none
     else none
    else none
   else none
  else none

end Go.Proofs.Ytifcbecpemaieaa
