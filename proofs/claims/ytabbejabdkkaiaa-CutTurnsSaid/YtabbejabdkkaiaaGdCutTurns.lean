/- Functions as typed ones,and that the program's functions answer as these do. No condition. -/
import Derived.Test.YtabbejabdkkaiaaGd
set_option linter.unusedSimpArgs false
set_option linter.unusedVariables false
set_option maxRecDepth 20000
set_option maxHeartbeats 4000000
namespace Go.Proofs.Ytabbejabdkkaiaa
open Go.RowKit

def L_law17_CutTurns (a0 : TApp) (a1 : TConf) (a2 : TCut) : Option Bool :=
 (L_law05_Cut a0).bind fun r131 =>
 (L_law05_CutConf a1).bind fun r135 =>
 (L_law05_App r131).bind fun r143 =>
 (L_law05_Ref r135).bind fun r145 =>
 (L_ref05_Right r143 r145).bind fun r147 =>
 if r147 = true then
  (L_law17_doable r131 r135 a2.Steps 30).bind fun r202 =>
  (L_cut_Split r131.G r202 a2.Counts).bind fun r206 =>
  (L_plain_Run r131 r135 r202).bind fun r210 =>
  (L_plain_Run r131 r135 r206.1).bind fun r214 =>
  (if r210.2.2 = 0 then
   if r210.2.1 = (r202.length : Int) then
    (L_cut_Good r131 r135 r202 a2.Counts).bind fun r258 =>
    if r258 = (decide (r214.2.2 = 0)) then
     if r214.2.2 = 0 then
      if r258 = true then
       some (!(decide (r214.2.1 = (r206.1.length : Int))))
      else
       some true
     else
      if r258 = false then
       some false
      else
       some true
    else
     some true
   else
    some true
  else
   some true).bind fun b242 =>
  if b242 = true then none
  else
   if r214.2.2 = 0 then
    if r206.1.length * 40 ≤ 140737488355328 then
     if (r206.1.length + r206.2.length) * 40 ≤ 140737488355328 then
      (L_plain_Run r131 r135 (r206.1 ++ r206.2)).bind fun r315 =>
      if r315.2.2 = 0 then
       if r315.2.1 = (r202.length : Int) then
        (L_law05_Ref r315.1).bind fun r330 =>
        (L_law05_Ref r210.1).bind fun r332 =>
        (L_ref05_Same r330 r332).bind fun r334 =>
        if r334 = true then
         (L_law17_fixed).bind fun r337 =>
         some r337
        else none
       else none
      else none
     else none
    else none
   else
    (L_law17_fixed).bind fun r341 =>
    some r341
 else
  (L_plain_Right r131 r135).bind fun r348 =>
  if r348 = true then none
  else
   (L_law17_fixed).bind fun r353 =>
   some r353

end Go.Proofs.Ytabbejabdkkaiaa
