/- Functions as typed ones,and that the program's functions answer as these do. No condition. -/
import Derived.Test.YtabbejabdkkaiaaGreatGd
set_option linter.unusedSimpArgs false
set_option linter.unusedVariables false
set_option maxRecDepth 20000
set_option maxHeartbeats 4000000
namespace Go.Proofs.YtabbejabdkkaiaaGreat
open Go.RowKit

def L_law16_ProbeTells (a0 : TApp) (a1 : THost) (a2 : THeard) : Option Bool :=
 (L_law05_Cut a0).bind fun aa =>
 (L_law05_App aa).bind fun ab =>
 (L_law09_Ref a1).bind fun ad =>
 if 0 ≤ (min (a2.Seen.length : Int) 10) then
  if (min (a2.Seen.length : Int) 10) ≤ (a2.Seen.length : Int) then
   (some (a2.Seen.take ((min (a2.Seen.length : Int) 10).toNat))).bind fun ae =>
   (L_law07_Cut a2.F).bind fun af =>
   (L_ref09_Right ab ad).bind fun ag =>
   if ag = true then
    (L_probe_Start aa a1 a2.Num).bind fun ah =>
    (L_ref16_Start ab ad a2.Num).bind fun ai =>
    (L_law16_Outs ah.1).bind fun aj =>
    (L_ref16_Outs aj ai.1).bind fun ak =>
    if ak = true then
     if ah.2 = ai.2 then
      (if af.Kind = 6 then
       (L_law07_Ref af).bind fun al =>
       (L_ref07_Right al).bind fun am =>
       some (!(am))
      else
       some true).bind fun an =>
      if an = true then
       (L_law16_fixed).bind fun ao =>
       some ao
      else
       (L_probe_Hear aa a1 ae a2.Link af).bind fun ap =>
       (L_law07_Ref af).bind fun aq =>
       (L_ref16_Hear ab ad ae a2.Link aq).bind fun ar =>
       (L_ref01_Ints ap.1 ar.1).bind fun au =>
       if au = true then
        (L_law16_Outs ap.2.1).bind fun av =>
        (L_ref16_Outs av ar.2.1).bind fun aw =>
        if aw = true then
         (L_ref01_Ints ap.2.2 ar.2.2).bind fun ax =>
         if ax = true then
          (L_law16_fixed).bind fun ay =>
          some ay
         else none
        else none
       else none
     else none
    else none
   else
    (L_law16_fixed).bind fun az =>
    some az
  else none
 else none

end Go.Proofs.YtabbejabdkkaiaaGreat
