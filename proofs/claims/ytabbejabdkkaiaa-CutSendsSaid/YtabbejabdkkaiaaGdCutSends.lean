/- Functions as typed ones,and that the program's functions answer as these do. No condition. -/
import Derived.Test.YtabbejabdkkaiaaGd
set_option linter.unusedSimpArgs false
set_option linter.unusedVariables false
set_option maxRecDepth 20000
set_option maxHeartbeats 4000000
namespace Go.Proofs.Ytabbejabdkkaiaa
open Go.RowKit

def L_law17_CutSends_l2 (aa : Int) (ab : TApp) (ad : TConf) (ae : (List TStep)) (af : TStep) : Nat → Int → Int → Option Int
 | 0,_,_ => none
 | nf + 1,ag,ah =>
  if ah ≤ aa then
   (if 0 ≤ ah then
    if ah ≤ (ae.length : Int) then
     (some (ae.take ah.toNat)).bind fun ai =>
     (L_plain_Run ab ad ai).bind fun aj =>
     if aj.2.2 = 0 then
      if (aj.1.Sent.length : Int) = (ab.G.Links.length : Int) then
       (at? aj.1.Sent af.Link).bind fun ak =>
       if ak < af.Seq then
        some ah
       else
        some ag
      else none
     else none
    else none
   else none).bind fun al =>
   L_law17_CutSends_l2 aa ab ad ae af nf al (IntKind.wrap .i64 (ah + 1))
  else
   some ag
def L_law17_CutSends_l1 (a2 : A2u8) (aa : TApp) (ab : TApp) (ad : TConf) (ae : (List TStep)) : Nat → Int → Option (Unit ⊕ Bool)
 | 0,_ => none
 | nf + 1,af =>
  if af < (ae.length : Int) then
   (((at? ae af).bind fun ag =>
   if ag.Kind = 1 then
    (at? aa.G.Links ag.Link).bind fun ah =>
    if 0 ≤ (IntKind.wrap .i64 (af + 1)) then
     if (IntKind.wrap .i64 (af + 1)) ≤ (ae.length : Int) then
      (some (ae.take ((IntKind.wrap .i64 (af + 1)).toNat))).bind fun ai =>
      (L_law05_Steps ai).bind fun aj =>
      (L_ref17_Counts ab.G aj).bind fun ak =>
      if 0 ≤ af then
       if af ≤ (ae.length : Int) then
        (some (ae.take af.toNat)).bind fun al =>
        (L_plain_Run aa ad al).bind fun am =>
        if am.2.2 = 0 then
         if (am.1.Sent.length : Int) = (aa.G.Links.length : Int) then
          (L_law17_CutSends_l2 af aa ad ae ag (1000) 0 0).bind fun an =>
          if ak.length * 8 ≤ 140737488355328 then
           if 0 ≤ an then
            if an ≤ (ae.length : Int) then
             (some (ae.take an.toNat)).bind fun ao =>
             (L_law05_Steps ao).bind fun ap =>
             (L_ref17_Counts ab.G ap).bind fun aq =>
             (at? aq ah.a0).bind fun ar =>
             (at? ak ah.a0).bind fun au =>
             (L_cut_Good aa ad ae (ak.set ah.a0.toNat ar)).bind fun av =>
             if av = true then none
             else
              if af > ((IntKind.wrap .i64 a2.a0).tmod 12) then
               (L_law17_fixed).bind fun aw =>
               some (.inr aw)
              else
               some (.inl ())
            else none
           else none
          else none
         else none
        else none
       else none
      else none
     else none
    else none
   else
    some (.inl ())) : Option (Unit ⊕ Bool)).bind fun ax => match ax with
    | (.inl _) =>
     L_law17_CutSends_l1 a2 aa ab ad ae nf (IntKind.wrap .i64 (af + 1))
    | (.inr ay) => some (.inr ay)
  else
   some (.inl ())
def L_law17_CutSends (a0 : TApp) (a1 : (List TStep)) (a2 : A2u8) : Option Bool :=
 (L_law05_Cut a0).bind fun aa =>
 (L_law05_App aa).bind fun ab =>
 (L_ref05_Start ab).bind fun ad =>
 (L_ref05_Right ab ad).bind fun ae =>
 if ae = true then
  (L_law17_doable aa ad a1 30).bind fun af =>
  ((L_law17_CutSends_l1 a2 aa ab ad af (((af.length : Int) - 0).toNat + 1) 0) : Option (Unit ⊕ Bool)).bind fun ag => match ag with
   | (.inl _) =>
    (L_law17_fixed).bind fun ah =>
    some ah
   | (.inr ai) => some ai
 else
  (L_law17_fixed).bind fun aj =>
  some aj

end Go.Proofs.Ytabbejabdkkaiaa
