/- Functions as typed ones,and that the program's functions answer as these do. No condition. -/
import Derived.Test.YtifcbecpemaieaaGd
set_option linter.unusedSimpArgs false
set_option linter.unusedVariables false
set_option maxRecDepth 20000
set_option maxHeartbeats 4000000
namespace Go.Proofs.Ytifcbecpemaieaa
open Go.RowKit

def L_law14_CalmDrains_l2 (m4753 : TConf) : Nat → Int → (List TStep) → Option (List TStep)
 | 0,_,_ => none
 | nf + 1,n5173,l5174 =>
  if n5173 < (m4753.Links.length : Int) then
   ((at? m4753.Links n5173).bind fun x5197 =>
   if (x5197.length : Int) > 0 then
    (at? x5197 0).bind fun x5203 =>
    if (l5174.length + 1) * 40 ≤ 140737488355328 then
     some (l5174 ++ [(TStep.mk 1 0 0 n5173 x5203.Seq)])
    else none
   else
    some l5174).bind fun l5192 =>
   L_law14_CalmDrains_l2 m4753 nf (IntKind.wrap .i64 (n5173 + 1)) l5192
  else
   some l5174
def L_law14_CalmDrains_l1 (a2 : (List Int)) (r2192 : TApp) (r2979 : Int) : Nat → Int → TConf → Option TConf
 | 0,_,_ => none
 | nf + 1,n4752,m4753 =>
  (if n4752 < r2979 then
   some (decide (n4752 < 60))
  else
   some false).bind fun b4808 =>
  if b4808 = true then
   ((L_law14_CalmDrains_l2 m4753 (((m4753.Links.length : Int) - 0).toNat + 1) 0 ([] : List TStep)).bind fun l5128 =>
   if (l5128.length : Int) = 0 then none
   else
    (if n4752 < (a2.length : Int) then
     (at? a2 n4752).bind fun x5250 =>
     if ¬ (l5128.length : Int) = 0 then
      some ((IntKind.wrap .i64 x5250).tmod (l5128.length : Int))
     else none
    else
     some 0).bind fun n5243 =>
    (at? l5128 n5243).bind fun x5257 =>
    (L_plain_Apply r2192 m4753 x5257).bind fun r5259 =>
    if r5259.2 = 0 then
     (L_calm_Way r5259.1).bind fun r5267 =>
     if r5267 = (IntKind.wrap .i64 ((IntKind.wrap .i64 (r2979 - n4752)) - 1)) then
      if (r5259.1.Links.length : Int) = (m4753.Links.length : Int) then
       some r5259.1
      else none
     else none
    else none).bind fun m5032 =>
   L_law14_CalmDrains_l1 a2 r2192 r2979 nf (IntKind.wrap .i64 (n4752 + 1)) m5032
  else
   some m4753
def L_law14_CalmDrains_l3 (r5274 : (List Int)) : Nat → Int → Int → Option Int
 | 0,_,_ => none
 | nf + 1,n5323,n5324 =>
  if n5324 < (r5274.length : Int) then
   (at? r5274 n5324).bind fun x5332 =>
   L_law14_CalmDrains_l3 r5274 nf (IntKind.wrap .i64 (n5323 + x5332)) (IntKind.wrap .i64 (n5324 + 1))
  else
   some n5323
def L_law14_CalmDrains (a0 : TApp) (a1 : TConf) (a2 : (List Int)) : Option Bool :=
 (L_law05_Cut a0).bind fun r2192 =>
 (L_law05_CutConf a1).bind fun r2196 =>
 (L_law05_App r2192).bind fun r2204 =>
 (L_law05_Ref r2196).bind fun r2206 =>
 (L_ref05_Right r2204 r2206).bind fun r2208 =>
 if r2208 = true then
  (L_calm_Way r2196).bind fun r2979 =>
  (L_law14_CalmDrains_l1 a2 r2192 r2979 ((r2979 - 0).toNat + 1) 0 r2196).bind fun m4059 =>
  (L_calm_Loads m4059).bind fun r5274 =>
  (L_law14_CalmDrains_l3 r5274 (((r5274.length : Int) - 0).toNat + 1) 0 0).bind fun n5306 =>
  if n5306 = (max 0 (IntKind.wrap .i64 (r2979 - 60))) then
   if (r5274.length : Int) = (r2192.G.Links.length : Int) then
    (L_law14_fixed).bind fun r5340 =>
    some r5340
   else none
  else none
 else
  (L_plain_Right r2192 r2196).bind fun r5347 =>
  if r5347 = true then none
  else
   (L_law14_fixed).bind fun r5352 =>
   some r5352

end Go.Proofs.Ytifcbecpemaieaa
