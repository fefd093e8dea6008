/- Functions as typed ones,and that the program's functions answer as these do. No condition. -/
import Derived.Test.YtifcbecpemaieaaGd
set_option linter.unusedSimpArgs false
set_option linter.unusedVariables false
set_option maxRecDepth 20000
set_option maxHeartbeats 4000000
namespace Go.Proofs.Ytifcbecpemaieaa
open Go.RowKit

def L_law05_PlainStays_l2 (r3105 : TConf) (r7144 : TConf × Int) : Nat → Int → Int → Int → Option (Int × Int)
 | 0,_,_,_ => none
 | nf + 1,n7428,n7429,n7430 =>
  (if n7430 < (r3105.Links.length : Int) then
   if n7430 < (r7144.1.Links.length : Int) then
    some (decide (n7430 < (r7144.1.Sent.length : Int)))
   else
    some false
  else
   some false).bind fun b7443 =>
  if b7443 = true then
   (at? r7144.1.Links n7430).bind fun x7475 =>
   (at? r3105.Links n7430).bind fun x7477 =>
   (at? r7144.1.Sent n7430).bind fun x7479 =>
   (at? r3105.Sent n7430).bind fun x7481 =>
   L_law05_PlainStays_l2 r3105 r7144 nf (IntKind.wrap .i64 ((IntKind.wrap .i64 (n7428 + (x7475.length : Int))) - (x7477.length : Int))) (IntKind.wrap .i64 ((IntKind.wrap .i64 (n7429 + x7479)) - x7481)) (IntKind.wrap .i64 (n7430 + 1))
  else
   some (n7428,n7429)
def L_law05_PlainStays_l1 (r3101 : TApp) (r3105 : TConf) (r4249 : (List TStep)) : Nat → Int → Option Unit
 | 0,_ => none
 | nf + 1,n6790 =>
  if n6790 < (r4249.length : Int) then
   ((at? r4249 n6790).bind fun x7142 =>
   (L_plain_Apply r3101 r3105 x7142).bind fun r7144 =>
   if r7144.2 = 0 then
    (L_plain_Right r3101 r7144.1).bind fun r7234 =>
    if r7234 = true then
     (L_law05_PlainStays_l2 r3105 r7144 (((r3105.Links.length : Int) - 0).toNat + 1) 0 0 0).bind fun ⟨n7355,n7356⟩ =>
     (if x7142.Kind = 1 then
      if n7355 = (-1) then
       if n7356 = 0 then
        if x7142.Kind = 0 then
         if n7355 = n7356 then
          some (decide (n7356 < 0))
         else
          some true
        else
         some false
       else
        some true
      else
       some true
     else
      if x7142.Kind = 0 then
       if n7355 = n7356 then
        some (decide (n7356 < 0))
       else
        some true
      else
       some false).bind fun b7492 =>
     if b7492 = true then none
     else
      some ()
    else none
   else none).bind fun _ =>
   L_law05_PlainStays_l1 r3101 r3105 r4249 nf (IntKind.wrap .i64 (n6790 + 1))
  else
   some ()
def L_law05_PlainStays (a0 : TApp) (a1 : TConf) : Option Bool :=
 (L_law05_Cut a0).bind fun r3101 =>
 (L_law05_CutConf a1).bind fun r3105 =>
 (L_law05_App r3101).bind fun r3113 =>
 (L_law05_Ref r3105).bind fun r3115 =>
 (L_ref05_Right r3113 r3115).bind fun r3117 =>
 if r3117 = true then
  (L_plain_Can r3101 r3105).bind fun r4249 =>
  (L_law05_PlainStays_l1 r3101 r3105 r4249 (((r4249.length : Int) - 0).toNat + 1) 0).bind fun _ =>
  (L_law05_fixed).bind fun r7518 =>
  some r7518
 else
  (L_plain_Right r3101 r3105).bind fun r7525 =>
  if r7525 = true then none
  else
   (L_law05_fixed).bind fun r7530 =>
   some r7530

end Go.Proofs.Ytifcbecpemaieaa
