/- Functions as typed ones,and that the program's functions answer as these do. No condition. -/
import Derived.Test.YtabbejabdkkaiaaGd
set_option linter.unusedSimpArgs false
set_option linter.unusedVariables false
set_option maxRecDepth 20000
set_option maxHeartbeats 4000000
namespace Go.Proofs.Ytabbejabdkkaiaa
open Go.RowKit

def L_law16_ProbeEach_l1 (a1 : THost) (a2 : Int) (aa : (List TOut) × Int) (ab : TState) (ad : TApp) : Nat → Int → Option Unit
 | 0,_ => none
 | nf + 1,ae =>
  if ae < (aa.1.length : Int) then
   (at? aa.1 ae).bind fun af =>
   (L_law03_Ref ad.G).bind fun ag =>
   (at? ab.Waits ae).bind fun ah =>
   (L_ref03_Find ag ah a1.Node).bind fun ai =>
   (L_ref03_Find ag a1.Node ah).bind fun aj =>
   if af.Link = aj then
    if af.F.Kind = 6 then
     if af.F.Init = a1.Node then
      if af.F.Num = a2 then
       (L_ref01_Ints af.F.Path [a1.Node]).bind fun ak =>
       if ak = true then
        (L_host_Got ad a1 ai).bind fun al =>
        if af.F.Count = al then
         (L_law07_Ref af.F).bind fun am =>
         (L_ref07_Right am).bind fun an =>
         if an = true then
          L_law16_ProbeEach_l1 a1 a2 aa ab ad nf (IntKind.wrap .i64 (ae + 1))
         else none
        else none
       else none
      else none
     else none
    else none
   else none
  else
   some ()
def L_law16_ProbeEach (a0 : TApp) (a1 : THost) (a2 : Int) : Option Bool :=
 (L_law05_Cut a0).bind fun aa =>
 (L_law05_App aa).bind fun ab =>
 (L_law09_Ref a1).bind fun ad =>
 (L_ref09_Right ab ad).bind fun ae =>
 if ae = true then
  (L_probe_Start aa a1 a2).bind fun af =>
  (L_ref04_At ab.T a1.Node a1.State).bind fun ag =>
  (if aa.Fifo = true then
   if a2 ≥ 1 then
    if a2 ≤ 200 then
     if (decide (af.2 = 0)) = (decide ((ag.Waits.length : Int) > 0)) then
      if af.2 = 0 then
       if true = (decide ((ag.Waits.length : Int) > 0)) then
        some false
       else
        some true
      else
       if false = (decide ((ag.Waits.length : Int) > 0)) then
        some (decide ((af.1.length : Int) > 0))
       else
        some true
     else
      some true
    else
     if (decide (af.2 = 0)) = false then
      if af.2 = 0 then
       some true
      else
       some (decide ((af.1.length : Int) > 0))
     else
      some true
   else
    if (decide (af.2 = 0)) = false then
     if af.2 = 0 then
      some true
     else
      some (decide ((af.1.length : Int) > 0))
    else
     some true
  else
   if (decide (af.2 = 0)) = false then
    if af.2 = 0 then
     some true
    else
     some (decide ((af.1.length : Int) > 0))
   else
    some true).bind fun ah =>
  if ah = true then none
  else
   if af.2 = 0 then
    if (af.1.length : Int) = (ag.Waits.length : Int) then
     (L_law16_ProbeEach_l1 a1 a2 af ag aa (((af.1.length : Int) - 0).toNat + 1) 0).bind fun _ =>
     (L_law16_fixed).bind fun ai =>
     some ai
    else none
   else
    (L_law16_fixed).bind fun aj =>
    some aj
 else
  (L_law16_fixed).bind fun ak =>
  some ak

end Go.Proofs.Ytabbejabdkkaiaa
