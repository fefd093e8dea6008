/- Functions as typed ones,and that the program's functions answer as these do. No condition. -/
import Derived.Test.YtifcbecpemaieaaGd
set_option linter.unusedSimpArgs false
set_option linter.unusedVariables false
set_option maxRecDepth 20000
set_option maxHeartbeats 4000000
namespace Go.Proofs.Ytifcbecpemaieaa
open Go.RowKit

def L_law14_CalmCounts_l1 (r237 : TApp) (r241 : TConf) (r245 : TApp) : Nat → Int → (List Int) → Option (List Int)
 | 0,_,_ => none
 | nf + 1,n489,l490 =>
  if n489 < r237.G.N then
   (at? r241.States n489).bind fun x514 =>
   (L_ref04_At r245.T n489 x514).bind fun r516 =>
   (at? l490 r516.Mode).bind fun x518 =>
   L_law14_CalmCounts_l1 r237 r241 r245 nf (IntKind.wrap .i64 (n489 + 1)) (l490.set r516.Mode.toNat (IntKind.wrap .i64 (x518 + 1)))
  else
   some l490
def L_law14_CalmCounts (a0 : TApp) (a1 : TConf) : Option Bool :=
 (L_law05_Cut a0).bind fun r237 =>
 (L_law05_CutConf a1).bind fun r241 =>
 (L_law05_App r237).bind fun r245 =>
 (L_law05_Ref r241).bind fun r251 =>
 (L_ref05_Right r245 r251).bind fun r253 =>
 if r253 = true then
  (L_calm_Count r237 r241).bind fun r338 =>
  (L_law14_CalmCounts_l1 r237 r241 r245 ((r237.G.N - 0).toNat + 1) 0 (([0] ++ [0]) ++ [0])).bind fun l436 =>
  ((L_ref01_Ints (([r338.1] ++ [r338.2.1]) ++ [r338.2.2]) l436).bind fun r537 =>
  if r537 = true then
   (L_calm_Over r237 r241).bind fun r548 =>
   if r338.1 = r237.G.N then
    (L_calm_Way r241).bind fun r559 =>
    if r548 = (decide (r559 = 0)) then
     (L_law14_fixed).bind fun r564 =>
     some r564
    else
     some false
   else
    if r548 = false then
     (L_law14_fixed).bind fun r569 =>
     some r569
    else
     some false
  else
   some false).bind fun b534 =>
  some b534
 else
  (L_plain_Right r237 r241).bind fun r576 =>
  if r576 = true then none
  else
   (L_law14_fixed).bind fun r581 =>
   some r581

end Go.Proofs.Ytifcbecpemaieaa
