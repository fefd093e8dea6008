/- Functions as typed ones, and that the program's functions answer as these do. No condition. -/
import Derived.Test.YtgkjgpbinblmdaaGd
set_option linter.unusedSimpArgs false
set_option linter.unusedVariables false
set_option maxRecDepth 20000
set_option maxHeartbeats 4000000
namespace Go.Proofs.Ytgkjgpbinblmdaa
open Go.RowKit

def L_law15_KnotTells (a0 : TApp) (a1 : TConf) (a2 : (List Int)) : Option Bool :=
  (L_law05_Cut a0).bind fun r114 =>
  (L_law05_CutConf a1).bind fun r118 =>
  if 0 ≤ (min (a2.length : Int) 10) then
    if (min (a2.length : Int) 10) ≤ (a2.length : Int) then
      (some (a2.take ((min (a2.length : Int) 10).toNat))).bind fun v126 =>
      (L_law05_App r114).bind fun r132 =>
      (L_law05_Ref r118).bind fun r134 =>
      (L_ref05_Right r132 r134).bind fun r138 =>
      if r138 = true then
        (L_knot_Edges r114 r118).bind fun r212 =>
        (L_ref15_Edges r132 r134).bind fun r214 =>
        (L_ref15_Pairs r212 r214).bind fun r216 =>
        if r216 = true then
          (L_knot_Knot r114 r118).bind fun r219 =>
          (L_ref15_Knot r132 r134).bind fun r221 =>
          (L_ref01_Ints r219 r221).bind fun r223 =>
          if r223 = true then
            (L_knot_Held r114 r118 v126).bind fun r226 =>
            (L_ref15_Held r132 r134 v126).bind fun r228 =>
            if r226 = r228 then
              (L_knot_Ring r114 r118 v126).bind fun r231 =>
              (L_ref15_Ring r132 r134 v126).bind fun r233 =>
              if r231 = r233 then
                (L_law15_fixed).bind fun r236 =>
                some r236
              else none
            else none
          else none
        else none
      else
        (L_plain_Right r114 r118).bind fun r243 =>
        if r243 = true then none
        else
          (L_law15_fixed).bind fun r248 =>
          some r248
    else none
  else none

end Go.Proofs.Ytgkjgpbinblmdaa
