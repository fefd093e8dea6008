/- Functions as typed ones,and that the program's functions answer as these do. No condition. -/
import Derived.Test.YtabbejabdkkaiaaGd
set_option linter.unusedSimpArgs false
set_option linter.unusedVariables false
set_option maxRecDepth 20000
set_option maxHeartbeats 4000000
namespace Go.Proofs.Ytabbejabdkkaiaa
open Go.RowKit

def oE {α β : Type} (o : Option α) (f : α → Option β) (y : Option β) : Option β := match o with
 | some r => f r
 | none => y
def L_law16_ProbeOwn_l1 : Nat → Int → (List Int) → Option Unit
 | 0,_,_ => none
 | nf + 1,aa,ab =>
  if aa < (ab.length : Int) then
   (at? ab aa).bind fun ad =>
   L_law16_ProbeOwn_l1 nf (IntKind.wrap .i64 (aa + 1)) (ab.set aa.toNat 99)
  else
   some ()
def L_law16_ProbeOwn_l2 : Nat → Option Unit
 | 0 => none
 | nf + 1 =>
  some ()
def L_law16_ProbeOwn_l4 (aa : Int) : Nat → Int → (List TOut) → Option (List TOut)
 | 0,_,_ => none
 | nf + 1,ab,ad =>
  (at? ad aa).bind fun ae =>
  if ab < (ae.F.Path.length : Int) then
   (some (ad.set aa.toNat ae)).bind fun af =>
   (at? af aa).bind fun ag =>
   (at? ag.F.Path ab).bind fun ah =>
   L_law16_ProbeOwn_l4 aa nf (IntKind.wrap .i64 (ab + 1)) (af.set aa.toNat (TOut.mk ag.Link (TFrame.mk ag.F.Kind ag.F.Epoch ag.F.M ag.F.Pieces ag.F.Init ag.F.Num ag.F.Count (ag.F.Path.set ab.toNat (IntKind.wrap .i64 (90 + aa))))))
  else
   some (ad.set aa.toNat ae)
def L_law16_ProbeOwn_l3 : Nat → Int → (List TOut) → Option (List TOut)
 | 0,_,_ => none
 | nf + 1,aa,ab =>
  if aa < (ab.length : Int) then
   ((L_law16_ProbeOwn_l4 aa (((at? ab aa).elim 0 fun ad => ((ad.F.Path.length : Int) - 0).toNat) + 1) 0 ab).bind fun ae =>
   some ae).bind fun af =>
   L_law16_ProbeOwn_l3 nf (IntKind.wrap .i64 (aa + 1)) af
  else
   some ab
def L_law16_ProbeOwn_l6 (aa : Int) : Nat → Int → (List TOut) → Option (List TOut)
 | 0,_,_ => none
 | nf + 1,ab,ad =>
  (at? ad aa).bind fun ae =>
  if ab < (ae.F.Path.length : Int) then
   (some (ad.set aa.toNat ae)).bind fun af =>
   (at? af aa).bind fun ag =>
   (at? ag.F.Path ab).bind fun ah =>
   if ah = (IntKind.wrap .i64 (90 + aa)) then
    L_law16_ProbeOwn_l6 aa nf (IntKind.wrap .i64 (ab + 1)) (af.set aa.toNat ag)
   else none
  else
   some (ad.set aa.toNat ae)
def L_law16_ProbeOwn_l5 : Nat → Int → (List TOut) → Option Unit
 | 0,_,_ => none
 | nf + 1,aa,ab =>
  if aa < (ab.length : Int) then
   ((L_law16_ProbeOwn_l6 aa (((at? ab aa).elim 0 fun ad => ((ad.F.Path.length : Int) - 0).toNat) + 1) 0 ab).bind fun ae =>
   some ae).bind fun af =>
   L_law16_ProbeOwn_l5 nf (IntKind.wrap .i64 (aa + 1)) af
  else
   some ()
def L_law16_ProbeOwn_l7 : Nat → Int → (List Int) → Option Unit
 | 0,_,_ => none
 | nf + 1,aa,ab =>
  if aa < (ab.length : Int) then
   (at? ab aa).bind fun ad =>
   L_law16_ProbeOwn_l7 nf (IntKind.wrap .i64 (aa + 1)) (ab.set aa.toNat 99)
  else
   some ()
def L_law16_ProbeOwn_l8 : Nat → Option Unit
 | 0 => none
 | nf + 1 =>
  some ()
def L_law16_ProbeOwn_l9 : Nat → Option Unit
 | 0 => none
 | nf + 1 =>
  some ()
def L_law16_ProbeOwn (a0 : TApp) (a1 : THost) (a2 : THeard) : Option Bool :=
 (L_law05_Cut a0).bind fun aa =>
 (L_law07_Cut a2.F).bind fun ab =>
 if 0 ≤ (min (a2.Seen.length : Int) 10) then
  if (min (a2.Seen.length : Int) 10) ≤ (a2.Seen.length : Int) then
   (some (a2.Seen.take ((min (a2.Seen.length : Int) 10).toNat))).bind fun ad =>
   if ad.length * 8 ≤ 140737488355328 then
    ((L_law05_App aa).bind fun ae =>
    (L_law09_Ref a1).bind fun af =>
    (L_ref09_Right ae af).bind fun ag =>
    if ag = true then
     if ab.Kind = 6 then
      (L_law07_Ref ab).bind fun ah =>
      (L_ref07_Right ah).bind fun ai =>
      some (!(ai))
     else
      some true
    else
     some true).bind fun aj =>
    if aj = true then
     (L_law16_fixed).bind fun ak =>
     some ak
    else
     if ab.Path.length * 8 ≤ 140737488355328 then
      oE (L_probe_Hear_v1 aa a1 ad a2.Link ab) (fun al =>
       (if (al.2.1.length : Int) > 0 then
        L_law16_ProbeOwn_l1 (((al.1.length : Int) - 0).toNat + 1) 0 al.1
       else
        some ()).bind fun _ =>
       (L_law16_ProbeOwn_l2 (1) ).bind fun _ =>
       (L_law16_ProbeOwn_l3 (((al.2.1.length : Int) - 0).toNat + 1) 0 al.2.1).bind fun am =>
       (L_law16_ProbeOwn_l5 (((am.length : Int) - 0).toNat + 1) 0 am).bind fun _ =>
       (L_ref01_Ints ad ad).bind fun an =>
       if an = true then
        (L_ref01_Ints ab.Path ab.Path).bind fun ao =>
        if ao = true then
         (L_law16_fixed).bind fun ap =>
         some ap
        else none
       else none) ((L_probe_Hear_v2 aa a1 ad a2.Link ab).bind fun aq =>
       (some ()).bind fun _ =>
       (L_law16_ProbeOwn_l7 (((aq.2.2.length : Int) - 0).toNat + 1) 0 aq.2.2).bind fun _ =>
       (L_law16_ProbeOwn_l8 (1) ).bind fun _ =>
       (L_law16_ProbeOwn_l9 (1) ).bind fun _ =>
       (L_ref01_Ints ad ad).bind fun ar =>
       if ar = true then
        (L_ref01_Ints ab.Path ab.Path).bind fun au =>
        if au = true then
         (L_law16_fixed).bind fun av =>
         some av
        else none
       else none)
     else none
   else none
  else none
 else none

end Go.Proofs.Ytabbejabdkkaiaa
