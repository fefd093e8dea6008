/- Functions as typed ones,and that the program's functions answer as these do. No condition. -/
import Derived.Test.YtifcbecpemaieaaGd
set_option linter.unusedSimpArgs false
set_option linter.unusedVariables false
set_option maxRecDepth 20000
set_option maxHeartbeats 4000000
namespace Go.Proofs.Ytifcbecpemaieaa
open Go.RowKit

def L_law05_PlainOnceEach_l1 (a1 : (List TStep)) (r1445 : TApp) : Nat → Int → TConf → (List (List Int)) → Option (TConf × (List (List Int)))
 | 0,_,_,_ => none
 | nf + 1,n3040,m3041,l3042 =>
  (if n3040 < (a1.length : Int) then
   some (decide (n3040 < 40))
  else
   some false).bind fun b3071 =>
  if b3071 = true then
   ((at? a1 n3040).bind fun x3195 =>
   (L_plain_Apply r1445 m3041 x3195).bind fun r3197 =>
   if r3197.2 = 0 then
    (if x3195.Kind = 1 then
     (if x3195.Link < 0 then
      some (true,l3042)
     else
      if x3195.Link ≥ (l3042.length : Int) then
       some (true,l3042)
      else
       if x3195.Link ≥ (m3041.Sent.length : Int) then
        some (true,l3042)
       else
        if x3195.Seq < 1 then
         some (true,l3042)
        else
         (at? m3041.Sent x3195.Link).bind fun x3318 =>
         if x3195.Seq > x3318 then
          some (true,l3042)
         else
          (at? l3042 x3195.Link).bind fun x3326 =>
          (L_ref04_In x3326 x3195.Seq).bind fun r3328 =>
          if r3328 = true then
           some (true,(l3042.set x3195.Link.toNat x3326))
          else
           if r1445.Fifo = true then
            some (!(decide (x3195.Seq = (IntKind.wrap .i64 ((x3326.length : Int) + 1)))),(l3042.set x3195.Link.toNat x3326))
           else
            some (false,(l3042.set x3195.Link.toNat x3326))).bind fun ⟨b3304,l3305⟩ =>
     if b3304 = true then none
     else
      (at? l3305 x3195.Link).bind fun x3338 =>
      if (x3338.length + 1) * 8 ≤ 140737488355328 then
       some (l3305.set x3195.Link.toNat (x3338 ++ [x3195.Seq]))
      else none
    else
     some l3042).bind fun l3257 =>
    some (r3197.1,l3257)
   else
    some (m3041,l3042)).bind fun ⟨m3187,l3188⟩ =>
   L_law05_PlainOnceEach_l1 a1 r1445 nf (IntKind.wrap .i64 (n3040 + 1)) m3187 l3188
  else
   some (m3041,l3042)
def L_law05_PlainOnceEach_l2 (m2655 : TConf) : Nat → Int → (List (List Int)) → Option Unit
 | 0,_,_ => none
 | nf + 1,n3573,l3574 =>
  if n3573 < (l3574.length : Int) then
   if n3573 ≥ (m2655.Sent.length : Int) then none
   else
    if n3573 ≥ (m2655.Links.length : Int) then none
    else
     (at? m2655.Sent n3573).bind fun x3634 =>
     (at? l3574 n3573).bind fun x3636 =>
     (at? m2655.Links n3573).bind fun x3638 =>
     if (IntKind.wrap .i64 (x3634 - (x3636.length : Int))) = (x3638.length : Int) then
      L_law05_PlainOnceEach_l2 m2655 nf (IntKind.wrap .i64 (n3573 + 1)) (l3574.set n3573.toNat x3636)
     else none
  else
   some ()
def L_law05_PlainOnceEach (a0 : TApp) (a1 : (List TStep)) : Option Bool :=
 (L_law05_Cut a0).bind fun r1445 =>
 (L_law05_App r1445).bind fun r1449 =>
 (L_ref04_Right r1449.T r1449.G).bind fun r1453 =>
 if r1453 = true then
  (L_plain_Start r1445).bind fun r1882 =>
  if 24 * r1445.G.Links.length ≤ 140737488355328 then
   if r1445.G.Links.length ≤ 140737488355328 then
    (L_law05_PlainOnceEach_l1 a1 r1445 (((a1.length : Int) - 0).toNat + 1) 0 r1882 ((List.replicate r1445.G.Links.length []) : List (List Int))).bind fun ⟨m2655,l2656⟩ =>
    (L_law05_PlainOnceEach_l2 m2655 (((l2656.length : Int) - 0).toNat + 1) 0 l2656).bind fun _ =>
    (L_law05_fixed).bind fun r3643 =>
    some r3643
   else none
  else none
 else
  (L_law05_fixed).bind fun r3647 =>
  some r3647

end Go.Proofs.Ytifcbecpemaieaa
