/- Functions as typed ones, and that the program's functions answer as these do. No condition. -/
import Derived.Test.YtgkjgpbinblmdaaGd
set_option linter.unusedSimpArgs false
set_option linter.unusedVariables false
set_option maxRecDepth 20000
set_option maxHeartbeats 4000000
namespace Go.Proofs.Ytgkjgpbinblmdaa
open Go.RowKit

def L_law15_KnotSome_l1 (r567 : (List Int)) (v399 : List Int) : Nat → Bool → Int → Option Bool
  | 0, _, _ => none
  | nf + 1, b657, n658 =>
    if n658 < (v399.length : Int) then
      (if b657 = true then
        some true
      else
        (at? v399 n658).bind fun x676 =>
        (L_ref04_In r567 x676).bind fun r678 =>
        some r678).bind fun b668 =>
      L_law15_KnotSome_l1 r567 v399 nf b668 (IntKind.wrap .i64 (n658 + 1))
    else
      some b657
def L_law15_KnotSome (a0 : TApp) (a1 : TConf) (a2 : A2LI) : Option Bool :=
  (L_law05_Cut a0).bind fun r305 =>
  (L_law05_CutConf a1).bind fun r309 =>
  (L_law05_App r305).bind fun r317 =>
  (L_law05_Ref r309).bind fun r319 =>
  (L_ref05_Right r317 r319).bind fun r321 =>
  if r321 = true then
    if 0 ≤ (min (a2.a0.length : Int) 10) then
      if (min (a2.a0.length : Int) 10) ≤ (a2.a0.length : Int) then
        (some (a2.a0.take ((min (a2.a0.length : Int) 10).toNat))).bind fun v399 =>
        if 0 ≤ (min (a2.a1.length : Int) 10) then
          if (min (a2.a1.length : Int) 10) ≤ (a2.a1.length : Int) then
            (some (a2.a1.take ((min (a2.a1.length : Int) 10).toNat))).bind fun v403 =>
            if v399.length * 8 ≤ 140737488355328 then
              if (v399.length + v403.length) * 8 ≤ 140737488355328 then
                (L_knot_Held r305 r309 v399).bind fun r411 =>
                (if r411 = true then
                  (L_knot_Knot r305 r309).bind fun r567 =>
                  (L_law15_KnotSome_l1 r567 v399 (((v399.length : Int) - 0).toNat + 1) false 0).bind fun b627 =>
                  (if b627 = true then
                    (L_knot_Held r305 r309 v403).bind fun r696 =>
                    if r696 = true then
                      (L_knot_Held r305 r309 (v399 ++ v403)).bind fun r701 =>
                      some (!(r701))
                    else
                      some false
                  else
                    some true).bind fun b687 =>
                  if b687 = true then none
                  else
                    some ()
                else
                  some ()).bind fun _ =>
                (L_law15_fixed).bind fun r706 =>
                some r706
              else none
            else none
          else none
        else none
      else none
    else none
  else
    (L_plain_Right r305 r309).bind fun r713 =>
    if r713 = true then none
    else
      (L_law15_fixed).bind fun r718 =>
      some r718

end Go.Proofs.Ytgkjgpbinblmdaa
