/- Functions as typed ones,and that the program's functions answer as these do. No condition. -/
import Derived.Test.YtabbejabdkkaiaaGreatGd
set_option linter.unusedSimpArgs false
set_option linter.unusedVariables false
set_option maxRecDepth 20000
set_option maxHeartbeats 4000000
namespace Go.Proofs.YtabbejabdkkaiaaGreat
open Go.RowKit

def L_law16_ProbeFinds_l1 (a1 : TStatic) (aa : TApp) : Nat → Int → (List Int) → Option (List Int)
 | 0,_,_ => none
 | nf + 1,ab,ad =>
  (if ab < aa.G.N then
   some (decide (ab < (a1.States.length : Int)))
  else
   some false).bind fun ae =>
  if ae = true then
   (at? a1.States ab).bind fun af =>
   (at? aa.T ab).bind fun ag =>
   if ¬ (ag.States.length : Int) = 0 then
    (at? ad ab).bind fun ah =>
    L_law16_ProbeFinds_l1 a1 aa nf (IntKind.wrap .i64 (ab + 1)) (ad.set ab.toNat ((landK .i64 af 255).tmod (ag.States.length : Int)))
   else none
  else
   some ad
def L_law16_ProbeFinds_l2 (aa : TApp) (ab : (List THost)) : Nat → Int → Option Unit
 | 0,_ => none
 | nf + 1,ad =>
  if ad < (ab.length : Int) then
   (at? ab ad).bind fun ae =>
   (L_law09_Ref ae).bind fun af =>
   (L_ref09_Right aa af).bind fun ag =>
   if ag = true then
    L_law16_ProbeFinds_l2 aa ab nf (IntKind.wrap .i64 (ad + 1))
   else none
  else
   some ()
def L_law16_ProbeFinds_l3 (a1 : TStatic) (aa : List Int) (ab : TApp) (ad : TApp) (ae : TConf) (af : (List THost)) : Nat → (List TOut) → Int → Bool → Int → (List (List Int)) → Option (Int × Bool)
 | 0,_,_,_,_,_ => none
 | nf + 1,ag,ah,ai,aj,ak =>
  if (ag.length : Int) > 0 then
   ((if aj < (a1.Picks.length : Int) then
    (at? a1.Picks aj).bind fun al =>
    if ¬ (ag.length : Int) = 0 then
     some ((IntKind.wrap .i64 al).tmod (ag.length : Int))
    else none
   else
    some 0).bind fun am =>
   (at? ag am).bind fun an =>
   if 0 ≤ am then
    if am ≤ (ag.length : Int) then
     (some (ag.take am.toNat)).bind fun ao =>
     if ao.length * 112 ≤ 140737488355328 then
      if 0 ≤ (IntKind.wrap .i64 (am + 1)) then
       if (IntKind.wrap .i64 (am + 1)) ≤ (ag.length : Int) then
        (some (ag.drop ((IntKind.wrap .i64 (am + 1)).toNat))).bind fun ap =>
        if (ao.length + ap.length) * 112 ≤ 140737488355328 then
         if an.Link < 0 then none
         else
          if an.Link ≥ (ab.G.Links.length : Int) then none
          else
           if ah > 36 then none
           else
            (L_law07_Ref an.F).bind fun aq =>
            (L_ref07_Right aq).bind fun ar =>
            if ar = true then
             (at? ab.G.Links an.Link).bind fun au =>
             (at? af au.a1).bind fun av =>
             (at? ak au.a1).bind fun aw =>
             (L_probe_Hear (TApp.mk ab.G ab.T true) av aw an.Link an.F).bind fun ax =>
             if (ao.length + ap.length + ax.2.1.length) * 112 ≤ 140737488355328 then
              (if (ax.2.2.length : Int) > 0 then
               (at? ax.2.2 0).bind fun ay =>
               if ay = ((landK .i64 a1.Init 255).tmod ab.G.N) then
                (L_ref15_Ring ad (TConf.mk aa ae.Links ae.Sent) ax.2.2).bind fun az =>
                some (!(az))
               else
                some true
              else
               some false).bind fun aA =>
              if aA = true then none
              else
               if ai = true then
                some ((IntKind.wrap .i64 (ah + (ax.2.1.length : Int))),true,(ak.set au.a1.toNat ax.1),((ao ++ ap) ++ ax.2.1))
               else
                some ((IntKind.wrap .i64 (ah + (ax.2.1.length : Int))),decide ((ax.2.2.length : Int) > 0),(ak.set au.a1.toNat ax.1),((ao ++ ap) ++ ax.2.1))
             else none
            else none
        else none
       else none
      else none
     else none
    else none
   else none).bind fun ⟨aB,aC,aD,aE⟩ =>
   L_law16_ProbeFinds_l3 a1 aa ab ad ae af nf aE aB aC (IntKind.wrap .i64 (aj + 1)) aD
  else
   some (ah,ai)
def L_law16_ProbeFinds (a0 : TApp) (a1 : TStatic) : Option Bool :=
 (L_law05_Cut a0).bind fun aa =>
 (L_law05_App (TApp.mk aa.G aa.T true)).bind fun ab =>
 (L_ref04_Right ab.T ab.G).bind fun ad =>
 if ad = true then
  (L_ref05_Start ab).bind fun ae =>
  (L_law16_ProbeFinds_l1 a1 aa ((aa.G.N - 0).toNat + 1) 0 ae.States).bind fun af =>
  if ¬ aa.G.N = 0 then
   (L_law16_hosts (TApp.mk aa.G aa.T true) af).bind fun ag =>
   if 0 ≤ aa.G.N then
    if 24 * aa.G.N.toNat ≤ 140737488355328 then
     if aa.G.N.toNat ≤ 140737488355328 then
      (L_law16_ProbeFinds_l2 ab ag (((ag.length : Int) - 0).toNat + 1) 0).bind fun _ =>
      (at? ag ((landK .i64 a1.Init 255).tmod aa.G.N)).bind fun ah =>
      (L_probe_Start (TApp.mk aa.G aa.T true) ah 7).bind fun ai =>
      ((at? af ((landK .i64 a1.Init 255).tmod aa.G.N)).bind fun aj =>
      (L_ref04_At ab.T ((landK .i64 a1.Init 255).tmod aa.G.N) aj).bind fun ak =>
      if (decide (ai.2 = 0)) = (decide (ak.Mode = 2)) then
       if ai.2 = 0 then
        if true = (decide (ak.Mode = 2)) then
         some false
        else
         some true
       else
        if false = (decide (ak.Mode = 2)) then
         some (!(decide (ai.2 = 8)))
        else
         some true
      else
       some true).bind fun al =>
      if al = true then none
      else
       (L_law16_ProbeFinds_l3 a1 af aa ab ae ag (1000) ai.1 (ai.1.length : Int) false 0 ((List.replicate aa.G.N.toNat []) : List (List Int))).bind fun ⟨am,an⟩ =>
       (L_ref15_Knot ab (TConf.mk af ae.Links ae.Sent)).bind fun ao =>
       (L_ref04_In ao ((landK .i64 a1.Init 255).tmod aa.G.N)).bind fun ap =>
       if an = ap then
        (L_ref15_Edges ab (TConf.mk af ae.Links ae.Sent)).bind fun aq =>
        if am ≤ (aq.length : Int) then
         (L_law16_fixed).bind fun ar =>
         some ar
        else none
       else none
     else none
    else none
   else none
  else none
 else
  (L_law16_fixed).bind fun au =>
  some au

end Go.Proofs.YtabbejabdkkaiaaGreat
