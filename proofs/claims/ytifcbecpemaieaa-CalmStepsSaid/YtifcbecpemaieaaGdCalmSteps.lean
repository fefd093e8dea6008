/- Functions as typed ones,and that the program's functions answer as these do. No condition. -/
import Derived.Test.YtifcbecpemaieaaGd
set_option linter.unusedSimpArgs false
set_option linter.unusedVariables false
set_option maxRecDepth 20000
set_option maxHeartbeats 4000000
namespace Go.Proofs.Ytifcbecpemaieaa
open Go.RowKit

def L_law14_CalmSteps_l2 (m4217 : TConf) (r4486 : TConf × Int) : Nat → Int → Int → Option Int
 | 0,_,_ => none
 | nf + 1,n4644,n4645 =>
  (if n4645 < (r4486.1.Sent.length : Int) then
   some (decide (n4645 < (m4217.Sent.length : Int)))
  else
   some false).bind fun b4653 =>
  if b4653 = true then
   (at? r4486.1.Sent n4645).bind fun x4667 =>
   (at? m4217.Sent n4645).bind fun x4669 =>
   L_law14_CalmSteps_l2 m4217 r4486 nf (IntKind.wrap .i64 ((IntKind.wrap .i64 (n4644 + x4667)) - x4669)) (IntKind.wrap .i64 (n4645 + 1))
  else
   some n4644
def L_law14_CalmSteps_l1 (a1 : (List TStep)) (r1927 : TApp) : Nat → Int → TConf → Option Unit
 | 0,_,_ => none
 | nf + 1,n4216,m4217 =>
  (if n4216 < (a1.length : Int) then
   some (decide (n4216 < 40))
  else
   some false).bind fun b4270 =>
  if b4270 = true then
   ((at? a1 n4216).bind fun x4484 =>
   (L_plain_Apply r1927 m4217 x4484).bind fun r4486 =>
   if r4486.2 = 0 then
    (L_calm_Count r1927 m4217).bind fun r4536 =>
    (L_calm_Count r1927 r4486.1).bind fun r4540 =>
    (L_law14_CalmSteps_l2 m4217 r4486 (((r4486.1.Sent.length : Int) - 0).toNat + 1) 0 0).bind fun n4609 =>
    (L_calm_Way r4486.1).bind fun r4675 =>
    (L_calm_Way m4217).bind fun r4677 =>
    (if (IntKind.wrap .i64 ((IntKind.wrap .i64 ((max (IntKind.wrap .i64 (r4536.1 - r4540.1)) (IntKind.wrap .i64 (r4540.1 - r4536.1))) + (max (IntKind.wrap .i64 (r4536.2.1 - r4540.2.1)) (IntKind.wrap .i64 (r4540.2.1 - r4536.2.1))))) + (max (IntKind.wrap .i64 (r4536.2.2 - r4540.2.2)) (IntKind.wrap .i64 (r4540.2.2 - r4536.2.2))))) = 0 then
     if x4484.Kind = 1 then
      if (IntKind.wrap .i64 (r4675 - r4677)) = (-1) then
       if x4484.Kind = 0 then
        some (!(decide ((IntKind.wrap .i64 (r4675 - r4677)) = n4609)))
       else
        some false
      else
       some true
     else
      if x4484.Kind = 0 then
       some (!(decide ((IntKind.wrap .i64 (r4675 - r4677)) = n4609)))
      else
       some false
    else
     if (IntKind.wrap .i64 ((IntKind.wrap .i64 ((max (IntKind.wrap .i64 (r4536.1 - r4540.1)) (IntKind.wrap .i64 (r4540.1 - r4536.1))) + (max (IntKind.wrap .i64 (r4536.2.1 - r4540.2.1)) (IntKind.wrap .i64 (r4540.2.1 - r4536.2.1))))) + (max (IntKind.wrap .i64 (r4536.2.2 - r4540.2.2)) (IntKind.wrap .i64 (r4540.2.2 - r4536.2.2))))) = 2 then
      if x4484.Kind = 1 then
       if (IntKind.wrap .i64 (r4675 - r4677)) = (-1) then
        if x4484.Kind = 0 then
         some (!(decide ((IntKind.wrap .i64 (r4675 - r4677)) = n4609)))
        else
         some false
       else
        some true
      else
       if x4484.Kind = 0 then
        some (!(decide ((IntKind.wrap .i64 (r4675 - r4677)) = n4609)))
       else
        some false
     else
      some true).bind fun b4693 =>
    if b4693 = true then none
    else
     some r4486.1
   else
    some m4217).bind fun m4477 =>
   L_law14_CalmSteps_l1 a1 r1927 nf (IntKind.wrap .i64 (n4216 + 1)) m4477
  else
   some ()
def L_law14_CalmSteps (a0 : TApp) (a1 : (List TStep)) : Option Bool :=
 (L_law05_Cut a0).bind fun r1927 =>
 (L_law05_App r1927).bind fun r1931 =>
 (L_ref04_Right r1931.T r1931.G).bind fun r1935 =>
 if r1935 = true then
  (L_plain_Start r1927).bind fun r2632 =>
  (L_law14_CalmSteps_l1 a1 r1927 (((a1.length : Int) - 0).toNat + 1) 0 r2632).bind fun _ =>
  (L_law14_fixed).bind fun r4728 =>
  some r4728
 else
  (L_law14_fixed).bind fun r4732 =>
  some r4732

end Go.Proofs.Ytifcbecpemaieaa
