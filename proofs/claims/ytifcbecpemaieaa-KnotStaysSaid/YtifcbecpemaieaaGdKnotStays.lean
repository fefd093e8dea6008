/- Functions as typed ones,and that the program's functions answer as these do. No condition. -/
import Derived.Test.YtifcbecpemaieaaGd
set_option linter.unusedSimpArgs false
set_option linter.unusedVariables false
set_option maxRecDepth 20000
set_option maxHeartbeats 4000000
namespace Go.Proofs.Ytifcbecpemaieaa
open Go.RowKit

def L_law15_KnotStays_l2 (l4664 : List Int) (r5017 : (List Int)) : Nat → Int → Option Unit
 | 0,_ => none
 | nf + 1,n5140 =>
  if n5140 < (l4664.length : Int) then
   (at? l4664 n5140).bind fun x5162 =>
   (L_ref04_In r5017 x5162).bind fun r5164 =>
   if r5164 = true then
    L_law15_KnotStays_l2 l4664 r5017 nf (IntKind.wrap .i64 (n5140 + 1))
   else none
  else
   some ()
def L_law15_KnotStays_l1 (a2 : TWay) (r2135 : TApp) (r2940 : Bool) (r2942 : Bool) (v2147 : List Int) : Nat → (List Int) → Int → TConf → Option Unit
 | 0,_,_,_ => none
 | nf + 1,l4664,n4665,m4666 =>
  (if n4665 < (a2.Steps.length : Int) then
   some (decide (n4665 < 30))
  else
   some false).bind fun b4725 =>
  if b4725 = true then
   ((at? a2.Steps n4665).bind fun x4959 =>
   (L_plain_Apply r2135 m4666 x4959).bind fun r4961 =>
   if r4961.2 = 0 then
    (L_knot_Knot r2135 r4961.1).bind fun r5017 =>
    (L_law15_KnotStays_l2 l4664 r5017 (((l4664.length : Int) - 0).toNat + 1) 0).bind fun _ =>
    (if r2940 = true then
     (L_knot_Held r2135 r4961.1 v2147).bind fun r5192 =>
     if r5192 = true then
      if r2942 = true then
       (L_knot_Ring r2135 r4961.1 v2147).bind fun r5201 =>
       some (!(r5201))
      else
       some false
     else
      some true
    else
     if r2942 = true then
      (L_knot_Ring r2135 r4961.1 v2147).bind fun r5206 =>
      some (!(r5206))
     else
      some false).bind fun b5179 =>
    if b5179 = true then none
    else
     some (r5017,r4961.1)
   else
    some (l4664,m4666)).bind fun ⟨l4951,m4952⟩ =>
   L_law15_KnotStays_l1 a2 r2135 r2940 r2942 v2147 nf l4951 (IntKind.wrap .i64 (n4665 + 1)) m4952
  else
   some ()
def L_law15_KnotStays (a0 : TApp) (a1 : TConf) (a2 : TWay) : Option Bool :=
 (L_law05_Cut a0).bind fun r2135 =>
 (L_law05_CutConf a1).bind fun r2139 =>
 if 0 ≤ (min (a2.Nodes.length : Int) 10) then
  if (min (a2.Nodes.length : Int) 10) ≤ (a2.Nodes.length : Int) then
   (some (a2.Nodes.take ((min (a2.Nodes.length : Int) 10).toNat))).bind fun v2147 =>
   (L_law05_App r2135).bind fun r2155 =>
   (L_law05_Ref r2139).bind fun r2157 =>
   (L_ref05_Right r2155 r2157).bind fun r2159 =>
   if r2159 = true then
    (L_knot_Knot r2135 r2139).bind fun r2938 =>
    (L_knot_Held r2135 r2139 v2147).bind fun r2940 =>
    (L_knot_Ring r2135 r2139 v2147).bind fun r2942 =>
    (L_law15_KnotStays_l1 a2 r2135 r2940 r2942 v2147 (((a2.Steps.length : Int) - 0).toNat + 1) r2938 0 r2139).bind fun _ =>
    (L_law15_fixed).bind fun r5212 =>
    some r5212
   else
    (L_plain_Right r2135 r2139).bind fun r5219 =>
    if r5219 = true then none
    else
     (L_law15_fixed).bind fun r5224 =>
     some r5224
  else none
 else none

end Go.Proofs.Ytifcbecpemaieaa
