/- Functions as typed ones,and that the program's functions answer as these do. No condition. -/
import Derived.Test.YtabbejabdkkaiaaGd
set_option linter.unusedSimpArgs false
set_option linter.unusedVariables false
set_option maxRecDepth 20000
set_option maxHeartbeats 4000000
namespace Go.Proofs.Ytabbejabdkkaiaa
open Go.RowKit

def L_law16_ProbeOnce (a0 : TApp) (a1 : THost) (a2 : THeard) : Option Bool :=
 (L_law05_Cut a0).bind fun aa =>
 (L_law07_Cut a2.F).bind fun ab =>
 if 0 ≤ (min (a2.Seen.length : Int) 10) then
  if (min (a2.Seen.length : Int) 10) ≤ (a2.Seen.length : Int) then
   (some (a2.Seen.take ((min (a2.Seen.length : Int) 10).toNat))).bind fun ad =>
   ((L_law05_App aa).bind fun ae =>
   (L_law09_Ref a1).bind fun af =>
   (L_ref09_Right ae af).bind fun ag =>
   if ag = true then
    if ab.Kind = 6 then
     (L_law07_Ref ab).bind fun ah =>
     (L_ref07_Right ah).bind fun ai =>
     some (!(ai))
    else
     some true
   else
    some true).bind fun aj =>
   if aj = true then
    (L_law16_fixed).bind fun ak =>
    some ak
   else
    (L_probe_Hear aa a1 ad a2.Link ab).bind fun al =>
    (if (al.2.1.length : Int) > 0 then
     if (al.2.2.length : Int) > 0 then
      some true
     else
      some false
    else
     if (al.2.2.length : Int) > 0 then
      if ab.Init = a1.Node then
       (L_ref01_Ints al.2.2 ab.Path).bind fun am =>
       some (!(am))
      else
       some true
     else
      some false).bind fun an =>
    if an = true then none
    else
     (if (al.2.1.length : Int) > 0 then
      (L_probe_Hear aa a1 al.1 a2.Link (TFrame.mk ab.Kind ab.Epoch ab.M ab.Pieces ab.Init (max 1 (IntKind.wrap .i64 (ab.Num - (landK .i64 a2.Num 3)))) ab.Count ab.Path)).bind fun ao =>
      if (ao.2.1.length : Int) > 0 then none
      else
       if (ao.2.2.length : Int) > 0 then none
       else
        (L_ref01_Ints ao.1 al.1).bind fun ap =>
        if ap = true then
         if ab.Init = a1.Node then none
         else
          some ()
        else none
     else
      some ()).bind fun _ =>
     (L_probe_Hear aa a1 ad a2.Link (TFrame.mk ab.Kind ab.Epoch ab.M ab.Pieces ab.Init ab.Num ((IntKind.wrap .i64 (ab.Count + 1)).tmod 501) ab.Path)).bind fun aq =>
     (if (IntKind.wrap .i64 ((al.2.1.length : Int) + (al.2.2.length : Int))) > 0 then
      if (IntKind.wrap .i64 ((aq.2.1.length : Int) + (aq.2.2.length : Int))) > 0 then
       some true
      else
       (L_ref01_Ints aq.1 ad).bind fun ar =>
       some (!(ar))
     else
      some false).bind fun au =>
     if au = true then none
     else
      (L_law03_Ref aa.G).bind fun av =>
      (L_ref03_Back av a2.Link).bind fun aw =>
      if aw ≥ (-1) then
       (L_law16_fixed).bind fun ax =>
       some ax
      else none
  else none
 else none

end Go.Proofs.Ytabbejabdkkaiaa
