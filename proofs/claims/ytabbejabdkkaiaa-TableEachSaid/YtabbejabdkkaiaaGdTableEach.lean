/- Functions as typed ones,and that the program's functions answer as these do. No condition. -/
import Derived.Test.YtabbejabdkkaiaaGd
set_option linter.unusedSimpArgs false
set_option linter.unusedVariables false
set_option maxRecDepth 20000
set_option maxHeartbeats 4000000
namespace Go.Proofs.Ytabbejabdkkaiaa
open Go.RowKit

def L_law04_TableEach (a0 : (List TNode)) (a1 : TGraph) (a2 : A3I) : Option Bool :=
 (L_law04_Cut a0).bind fun aa =>
 (L_law03_Cut a1).bind fun ab =>
 (L_law04_Ref aa).bind fun ad =>
 (L_law03_Ref ab).bind fun ae =>
 (L_ref04_Right ad ae).bind fun af =>
 if af = true then
  if ¬ ab.N = 0 then
   (at? aa ((landK .i64 a2.a0 255).tmod ab.N)).bind fun ag =>
   if ¬ (ag.States.length : Int) = 0 then
    (some (aa.set (((landK .i64 a2.a0 255).tmod ab.N).toNat) ag)).bind fun ah =>
    (at? ah ((landK .i64 a2.a0 255).tmod ab.N)).bind fun ai =>
    (at? ai.States ((landK .i64 a2.a1 255).tmod (ag.States.length : Int))).bind fun aj =>
    if (landK .i64 a2.a2 7) = 0 then
     (L_table_Right (ah.set (((landK .i64 a2.a0 255).tmod ab.N).toNat) (TNode.mk ai.Start (ai.States.set (((landK .i64 a2.a1 255).tmod (ag.States.length : Int)).toNat) (TState.mk 3 aj.Waits aj.Picks aj.Takes)))) ab).bind fun ak =>
     if ak = true then none
     else
      (L_law04_fixed).bind fun al =>
      some al
    else
     if (landK .i64 a2.a2 7) = 1 then
      if (aj.Waits.length + 1) * 8 ≤ 140737488355328 then
       (L_table_Right (ah.set (((landK .i64 a2.a0 255).tmod ab.N).toNat) (TNode.mk ai.Start (ai.States.set (((landK .i64 a2.a1 255).tmod (ag.States.length : Int)).toNat) (TState.mk aj.Mode (aj.Waits ++ [((landK .i64 a2.a0 255).tmod ab.N)]) aj.Picks aj.Takes)))) ab).bind fun am =>
       if am = true then none
       else
        (L_law04_fixed).bind fun an =>
        some an
      else none
     else
      if (landK .i64 a2.a2 7) = 2 then
       if (aj.Picks.length + 1) * 32 ≤ 140737488355328 then
        (L_table_Right (ah.set (((landK .i64 a2.a0 255).tmod ab.N).toNat) (TNode.mk ai.Start (ai.States.set (((landK .i64 a2.a1 255).tmod (ag.States.length : Int)).toNat) (TState.mk aj.Mode aj.Waits (aj.Picks ++ [(TPick.mk (ai.States.length : Int) [])]) aj.Takes)))) ab).bind fun ao =>
        if ao = true then none
        else
         (L_law04_fixed).bind fun ap =>
         some ap
       else none
      else
       if (landK .i64 a2.a2 7) = 3 then
        if (aj.Takes.length + 1) * 24 ≤ 140737488355328 then
         (L_table_Right (ah.set (((landK .i64 a2.a0 255).tmod ab.N).toNat) (TNode.mk ai.Start (ai.States.set (((landK .i64 a2.a1 255).tmod (ag.States.length : Int)).toNat) (TState.mk aj.Mode aj.Waits aj.Picks (aj.Takes ++ [(TTake.mk ((landK .i64 a2.a0 255).tmod ab.N) 0 0)]))))) ab).bind fun aq =>
         if aq = true then none
         else
          (L_law04_fixed).bind fun ar =>
          some ar
        else none
       else
        if (landK .i64 a2.a2 7) = 4 then
         if (aj.Picks.length + 1) * 32 ≤ 140737488355328 then
          (L_table_Right (ah.set (((landK .i64 a2.a0 255).tmod ab.N).toNat) (TNode.mk ai.Start (ai.States.set (((landK .i64 a2.a1 255).tmod (ag.States.length : Int)).toNat) (TState.mk aj.Mode aj.Waits (aj.Picks ++ [(TPick.mk 0 [(TSend.mk ((landK .i64 a2.a0 255).tmod ab.N) 0)])]) aj.Takes)))) ab).bind fun au =>
          if au = true then none
          else
           (L_law04_fixed).bind fun av =>
           some av
         else none
        else
         if (landK .i64 a2.a2 7) = 5 then
          if (aj.Picks.length + 1 + 1 + 1 + 1 + 1) * 32 ≤ 140737488355328 then
           (L_table_Right (ah.set (((landK .i64 a2.a0 255).tmod ab.N).toNat) (TNode.mk ai.Start (ai.States.set (((landK .i64 a2.a1 255).tmod (ag.States.length : Int)).toNat) (TState.mk aj.Mode aj.Waits (((((aj.Picks ++ [(TPick.mk 0 [])]) ++ [(TPick.mk 0 [])]) ++ [(TPick.mk 0 [])]) ++ [(TPick.mk 0 [])]) ++ [(TPick.mk 0 [])]) aj.Takes)))) ab).bind fun aw =>
           if aw = true then none
           else
            (L_law04_fixed).bind fun ax =>
            some ax
          else none
         else
          if (landK .i64 a2.a2 7) = 6 then
           if (aj.Takes.length + 1 + 1) * 24 ≤ 140737488355328 then
            (L_table_Right (ah.set (((landK .i64 a2.a0 255).tmod ab.N).toNat) (TNode.mk ai.Start (ai.States.set (((landK .i64 a2.a1 255).tmod (ag.States.length : Int)).toNat) (TState.mk aj.Mode aj.Waits aj.Picks ((aj.Takes ++ [(TTake.mk (-1) 0 0)]) ++ [(TTake.mk (-1) 0 0)]))))) ab).bind fun ay =>
            if ay = true then none
            else
             (L_law04_fixed).bind fun az =>
             some az
           else none
          else
           (L_table_Right (ah.set (((landK .i64 a2.a0 255).tmod ab.N).toNat) (TNode.mk ai.Start (ai.States.set (((landK .i64 a2.a1 255).tmod (ag.States.length : Int)).toNat) (TState.mk (-1) aj.Waits aj.Picks aj.Takes)))) ab).bind fun aA =>
           if aA = true then none
           else
            (L_law04_fixed).bind fun aB =>
            some aB
   else none
  else none
 else
  (L_table_Right aa ab).bind fun aC =>
  if aC = true then none
  else
   (L_law04_fixed).bind fun aD =>
   some aD

end Go.Proofs.Ytabbejabdkkaiaa
