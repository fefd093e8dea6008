/- Functions as typed ones,and that the program's functions answer as these do. No condition. -/
import Derived.Test.YtabbejabdkkaiaaGd
set_option linter.unusedSimpArgs false
set_option linter.unusedVariables false
set_option maxRecDepth 20000
set_option maxHeartbeats 4000000
namespace Go.Proofs.Ytabbejabdkkaiaa
open Go.RowKit

def L_law16_ProbePasses_l1 (a1 : THost) (aa : TState) (ab : TApp) (ad : TFrame) (ae : (List Int) × (List TOut) × (List Int)) : Nat → Int → Option Unit
 | 0,_ => none
 | nf + 1,af =>
  if af < (ae.2.1.length : Int) then
   (at? ae.2.1 af).bind fun ag =>
   (at? aa.Waits af).bind fun ah =>
   (L_ref03_Find ab.G a1.Node ah).bind fun ai =>
   if ag.Link = ai then
    if ag.F.Init = ad.Init then
     if ag.F.Num = ad.Num then
      (L_ref01_Ints ag.F.Path (ad.Path ++ [a1.Node])).bind fun aj =>
      if aj = true then
       if ag.F.Kind = 6 then
        L_law16_ProbePasses_l1 a1 aa ab ad ae nf (IntKind.wrap .i64 (af + 1))
       else none
      else none
     else none
    else none
   else none
  else
   some ()
def L_law16_ProbePasses_l2 (aa : TFrame) (ab : (List Int) × (List TOut) × (List Int)) (ad : List Int) : Nat → Int → Option Unit
 | 0,_ => none
 | nf + 1,ae =>
  if ae < (ab.1.length : Int) then
   (if ae = aa.Init then
    some false
   else
    if ae < (ad.length : Int) then
     (at? ab.1 ae).bind fun af =>
     (at? ad ae).bind fun ag =>
     if af = ag then
      if ae ≥ (ad.length : Int) then
       some (!(decide (af = 0)))
      else
       some false
     else
      some true
    else
     if ae ≥ (ad.length : Int) then
      (at? ab.1 ae).bind fun ah =>
      some (!(decide (ah = 0)))
     else
      some false).bind fun ai =>
   if ai = true then none
   else
    L_law16_ProbePasses_l2 aa ab ad nf (IntKind.wrap .i64 (ae + 1))
  else
   some ()
def L_law16_ProbePasses (a0 : TApp) (a1 : THost) (a2 : THeard) : Option Bool :=
 (L_law05_Cut a0).bind fun aa =>
 (L_law05_App aa).bind fun ab =>
 (L_law07_Cut a2.F).bind fun ad =>
 if 0 ≤ (min (a2.Seen.length : Int) 10) then
  if (min (a2.Seen.length : Int) 10) ≤ (a2.Seen.length : Int) then
   (some (a2.Seen.take ((min (a2.Seen.length : Int) 10).toNat))).bind fun ae =>
   ((L_law09_Ref a1).bind fun af =>
   (L_ref09_Right ab af).bind fun ag =>
   if ag = true then
    if ad.Kind = 6 then
     (L_law07_Ref ad).bind fun ah =>
     (L_ref07_Right ah).bind fun ai =>
     some (!(ai))
    else
     some true
   else
    some true).bind fun aj =>
   if aj = true then
    (L_law16_fixed).bind fun ak =>
    some ak
   else
    (L_probe_Hear aa a1 ae a2.Link ad).bind fun al =>
    if (al.2.1.length : Int) = 0 then
     (L_ref01_Ints al.1 ae).bind fun am =>
     if am = true then
      (L_law16_fixed).bind fun an =>
      some an
     else none
    else
     (L_ref04_At ab.T a1.Node a1.State).bind fun ao =>
     if ad.Path.length * 8 ≤ 140737488355328 then
      if (ad.Path.length + 1) * 8 ≤ 140737488355328 then
       if (al.2.1.length : Int) = (ao.Waits.length : Int) then
        if (al.1.length : Int) ≤ ad.Init then none
        else
         (at? al.1 ad.Init).bind fun ap =>
         if ap = ad.Num then
          (L_law16_ProbePasses_l1 a1 ao ab ad al (((al.2.1.length : Int) - 0).toNat + 1) 0).bind fun _ =>
          (L_law16_ProbePasses_l2 ad al ae (((al.1.length : Int) - 0).toNat + 1) 0).bind fun _ =>
          (L_law16_fixed).bind fun aq =>
          some aq
         else none
       else none
      else none
     else none
  else none
 else none

end Go.Proofs.Ytabbejabdkkaiaa
