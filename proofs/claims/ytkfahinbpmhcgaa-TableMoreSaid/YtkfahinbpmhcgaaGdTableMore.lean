/- Functions as typed ones, and that the program's functions answer as these do. No condition. -/
import Derived.Test.YtkfahinbpmhcgaaGd
set_option linter.unusedSimpArgs false
set_option linter.unusedVariables false
set_option maxRecDepth 20000
set_option maxHeartbeats 4000000
namespace Go.Proofs.Ytkfahinbpmhcgaa
open Go.RowKit

def L_law04_TableMore (a0 : (List TNode)) (a1 : TGraph) (a2 : A5I) : Option Bool :=
  (L_law04_Cut a0).bind fun r156 =>
  (L_law03_Cut a1).bind fun r160 =>
  (L_law04_Ref r156).bind fun r168 =>
  (L_law03_Ref r160).bind fun r170 =>
  (L_ref04_Right r168 r170).bind fun r172 =>
  if r172 = true then
    if ¬ r160.N = 0 then
      (L_law04_Cut r156).bind fun r213 =>
      (at? r213 ((landK .i64 a2.a0 255).tmod r160.N)).bind fun x218 =>
      if (x218.States.length + 1) * 80 ≤ 140737488355328 then
        (at? r156 ((landK .i64 a2.a0 255).tmod r160.N)).bind fun x223 =>
        if ¬ (x223.States.length : Int) = 0 then
          if (x223.States.length : Int) > 7 then
            (L_table_Right (r213.set (((landK .i64 a2.a0 255).tmod r160.N).toNat) (TNode.mk x218.Start (x218.States ++ [(TState.mk 0 [] [] [])]))) r160).bind fun r280 =>
            if r280 = true then none
            else
              (L_law04_fixed).bind fun r285 =>
              some r285
          else
            (L_table_Right (r213.set (((landK .i64 a2.a0 255).tmod r160.N).toNat) (TNode.mk x218.Start (x218.States ++ [(TState.mk 0 [] [] [])]))) r160).bind fun r315 =>
            if r315 = true then
              (L_table_Mode (r213.set (((landK .i64 a2.a0 255).tmod r160.N).toNat) (TNode.mk x218.Start (x218.States ++ [(TState.mk 0 [] [] [])]))) ((landK .i64 a2.a0 255).tmod r160.N) ((landK .i64 a2.a1 255).tmod (x223.States.length : Int))).bind fun r318 =>
              (L_table_Mode r156 ((landK .i64 a2.a0 255).tmod r160.N) ((landK .i64 a2.a1 255).tmod (x223.States.length : Int))).bind fun r320 =>
              if r318 = r320 then
                (L_table_Mode (r213.set (((landK .i64 a2.a0 255).tmod r160.N).toNat) (TNode.mk x218.Start (x218.States ++ [(TState.mk 0 [] [] [])]))) ((landK .i64 a2.a0 255).tmod r160.N) (x223.States.length : Int)).bind fun r323 =>
                if r323 = 0 then
                  (L_table_Waits (r213.set (((landK .i64 a2.a0 255).tmod r160.N).toNat) (TNode.mk x218.Start (x218.States ++ [(TState.mk 0 [] [] [])]))) ((landK .i64 a2.a0 255).tmod r160.N) ((landK .i64 a2.a1 255).tmod (x223.States.length : Int))).bind fun r326 =>
                  (L_table_Waits r156 ((landK .i64 a2.a0 255).tmod r160.N) ((landK .i64 a2.a1 255).tmod (x223.States.length : Int))).bind fun r328 =>
                  (L_ref01_Ints r326 r328).bind fun r330 =>
                  if r330 = true then
                    (L_table_Taken (r213.set (((landK .i64 a2.a0 255).tmod r160.N).toNat) (TNode.mk x218.Start (x218.States ++ [(TState.mk 0 [] [] [])]))) ((landK .i64 a2.a0 255).tmod r160.N) ((landK .i64 a2.a1 255).tmod (x223.States.length : Int)) a2.a3 a2.a4).bind fun r333 =>
                    (L_table_Taken r156 ((landK .i64 a2.a0 255).tmod r160.N) ((landK .i64 a2.a1 255).tmod (x223.States.length : Int)) a2.a3 a2.a4).bind fun r335 =>
                    if r333 = r335 then
                      (L_table_Taken (r213.set (((landK .i64 a2.a0 255).tmod r160.N).toNat) (TNode.mk x218.Start (x218.States ++ [(TState.mk 0 [] [] [])]))) ((landK .i64 a2.a0 255).tmod r160.N) (x223.States.length : Int) a2.a3 a2.a4).bind fun r338 =>
                      if r338 = (x223.States.length : Int) then
                        (L_law04_fixed).bind fun r341 =>
                        some r341
                      else none
                    else none
                  else none
                else none
              else none
            else none
        else none
      else none
    else none
  else
    (L_table_Right r156 r160).bind fun r348 =>
    if r348 = true then none
    else
      (L_law04_fixed).bind fun r353 =>
      some r353

end Go.Proofs.Ytkfahinbpmhcgaa
