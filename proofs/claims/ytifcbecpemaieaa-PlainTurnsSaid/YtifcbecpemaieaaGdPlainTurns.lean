/- Functions as typed ones,and that the program's functions answer as these do. No condition. -/
import Derived.Test.YtifcbecpemaieaaGd
set_option linter.unusedSimpArgs false
set_option linter.unusedVariables false
set_option maxRecDepth 20000
set_option maxHeartbeats 4000000
namespace Go.Proofs.Ytifcbecpemaieaa
open Go.RowKit

def L_law05_PlainTurns (a0 : TApp) (a1 : TConf) (a2 : A2I) : Option Bool :=
 (L_law05_Cut a0).bind fun r142 =>
 (L_law05_CutConf a1).bind fun r146 =>
 (L_law05_App r142).bind fun r154 =>
 (L_law05_Ref r146).bind fun r156 =>
 (L_ref05_Right r154 r156).bind fun r158 =>
 if r158 = true then
  (L_plain_Can r142 r146).bind fun r187 =>
  if (r187.length : Int) = 0 then
   (L_law05_fixed).bind fun r217 =>
   some r217
  else
   if ¬ (r187.length : Int) = 0 then
    (at? r187 ((landK .i64 a2.a0 65535).tmod (r187.length : Int))).bind fun x225 =>
    (at? r187 ((landK .i64 a2.a1 65535).tmod (r187.length : Int))).bind fun x227 =>
    (L_law03_Ref r142.G).bind fun r239 =>
    (L_law05_Step x225).bind fun r241 =>
    (L_law05_Where r239 r241).bind fun r243 =>
    (L_law05_Step x227).bind fun r245 =>
    (L_law05_Where r239 r245).bind fun r247 =>
    if r243 = r247 then
     (L_law05_fixed).bind fun r276 =>
     some r276
    else
     (L_plain_Run r142 r146 ([x225] ++ [x227])).bind fun r280 =>
     (L_plain_Run r142 r146 ([x227] ++ [x225])).bind fun r284 =>
     if r280.2.2 = 0 then
      if r284.2.2 = 0 then
       if r280.2.1 = 2 then
        if r284.2.1 = 2 then
         (L_law05_Ref r280.1).bind fun r303 =>
         (L_law05_Ref r284.1).bind fun r305 =>
         (L_ref05_Same r303 r305).bind fun r307 =>
         if r307 = true then
          (L_law05_fixed).bind fun r310 =>
          some r310
         else none
        else none
       else none
      else none
     else none
   else none
 else
  (L_plain_Right r142 r146).bind fun r317 =>
  if r317 = true then none
  else
   (L_law05_fixed).bind fun r322 =>
   some r322

end Go.Proofs.Ytifcbecpemaieaa
