/- Functions as typed ones,and that the program's functions answer as these do. No condition. -/
import Derived.Test.YtabbejabdkkaiaaGd
set_option linter.unusedSimpArgs false
set_option linter.unusedVariables false
set_option maxRecDepth 20000
set_option maxHeartbeats 4000000
namespace Go.Proofs.Ytabbejabdkkaiaa
open Go.RowKit

def L_law17_CutFirst (a0 : TApp) (a1 : (List TStep)) (a2 : Int) : Option Bool :=
 (L_law05_Cut a0).bind fun r106 =>
 (L_law05_App r106).bind fun r110 =>
 (L_ref05_Start r110).bind fun r114 =>
 (L_ref05_Right r110 r114).bind fun r118 =>
 if r118 = true then
  (L_law17_doable r106 r114 a1 30).bind fun r167 =>
  if ¬ (IntKind.wrap .i64 ((r167.length : Int) + 1)) = 0 then
   if 0 ≤ ((IntKind.wrap .i64 a2).tmod (IntKind.wrap .i64 ((r167.length : Int) + 1))) then
    if ((IntKind.wrap .i64 a2).tmod (IntKind.wrap .i64 ((r167.length : Int) + 1))) ≤ (r167.length : Int) then
     (some (r167.take (((IntKind.wrap .i64 a2).tmod (IntKind.wrap .i64 ((r167.length : Int) + 1))).toNat))).bind fun v179 =>
     (L_cut_Counts r106.G v179).bind fun r181 =>
     (L_cut_Split r106.G r167 r181).bind fun r185 =>
     (L_law05_Steps v179).bind fun r213 =>
     (L_ref17_Counts r110.G r213).bind fun r215 =>
     (L_ref01_Ints r181 r215).bind fun r217 =>
     if r217 = true then
      (L_law05_Steps r185.1).bind fun r220 =>
      (L_ref05_Steps r220 r213).bind fun r222 =>
      if r222 = true then
       (L_law05_Steps r185.2).bind fun r225 =>
       (some (r167.drop (((IntKind.wrap .i64 a2).tmod (IntKind.wrap .i64 ((r167.length : Int) + 1))).toNat))).bind fun v227 =>
       (L_law05_Steps v227).bind fun r229 =>
       (L_ref05_Steps r225 r229).bind fun r231 =>
       if r231 = true then
        (L_cut_Good r106 r114 r167 r181).bind fun r234 =>
        if r234 = true then
         (L_law17_fixed).bind fun r237 =>
         some r237
        else none
       else none
      else none
     else none
    else none
   else none
  else none
 else
  (L_law17_fixed).bind fun r241 =>
  some r241

end Go.Proofs.Ytabbejabdkkaiaa
