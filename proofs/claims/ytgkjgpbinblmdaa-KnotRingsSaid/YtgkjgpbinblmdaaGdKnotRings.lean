/- Functions as typed ones, and that the program's functions answer as these do. No condition. -/
import Derived.Test.YtgkjgpbinblmdaaGd
set_option linter.unusedSimpArgs false
set_option linter.unusedVariables false
set_option maxRecDepth 20000
set_option maxHeartbeats 4000000
namespace Go.Proofs.Ytgkjgpbinblmdaa
open Go.RowKit

def L_law15_KnotRings_l1 (r568 : TApp) (r572 : TConf) (r787 : Bool) (v580 : List Int) : Nat → Int → Option Unit
  | 0, _ => none
  | nf + 1, n1186 =>
    if n1186 < (v580.length : Int) then
      if 0 ≤ n1186 then
        if n1186 ≤ (v580.length : Int) then
          (some (v580.drop n1186.toNat)).bind fun v1253 =>
          if v1253.length * 8 ≤ 140737488355328 then
            (some (v580.take n1186.toNat)).bind fun v1259 =>
            if (v1253.length + v1259.length) * 8 ≤ 140737488355328 then
              (L_knot_Ring r568 r572 (v1253 ++ v1259)).bind fun r1272 =>
              if r1272 = r787 then
                if n1186 ≤ (IntKind.wrap .i64 (n1186 + 1)) then
                  if (IntKind.wrap .i64 (n1186 + 1)) ≤ (v580.length : Int) then
                    (some ((v580.take ((IntKind.wrap .i64 (n1186 + 1)).toNat)).drop n1186.toNat)).bind fun v1277 =>
                    (L_knot_Ring r568 r572 v1277).bind fun r1279 =>
                    if r1279 = true then none
                    else
                      L_law15_KnotRings_l1 r568 r572 r787 v580 nf (IntKind.wrap .i64 (n1186 + 1))
                  else none
                else none
              else none
            else none
          else none
        else none
      else none
    else
      some ()
def L_law15_KnotRings (a0 : TApp) (a1 : TConf) (a2 : TWay) : Option Bool :=
  (L_law05_Cut a0).bind fun r568 =>
  (L_law05_CutConf a1).bind fun r572 =>
  if 0 ≤ (min (a2.Nodes.length : Int) 10) then
    if (min (a2.Nodes.length : Int) 10) ≤ (a2.Nodes.length : Int) then
      (some (a2.Nodes.take ((min (a2.Nodes.length : Int) 10).toNat))).bind fun v580 =>
      (L_law05_App r568).bind fun r588 =>
      (L_law05_Ref r572).bind fun r590 =>
      (L_ref05_Right r588 r590).bind fun r592 =>
      if r592 = true then
        (L_knot_Ring r568 r572 v580).bind fun r787 =>
        (L_law15_KnotRings_l1 r568 r572 r787 v580 (((v580.length : Int) - 0).toNat + 1) 0).bind fun _ =>
        if v580.length * 8 ≤ 140737488355328 then
          if (v580.length + v580.length) * 8 ≤ 140737488355328 then
            (if (v580.length : Int) = 0 then
              if r787 = true then
                (L_knot_Held r568 r572 (v580 ++ v580)).bind fun r1327 =>
                if r1327 = true then
                  (L_law15_fixed).bind fun r1332 =>
                  some r1332
                else
                  some false
              else
                (L_law15_fixed).bind fun r1334 =>
                some r1334
            else
              (L_knot_Ring r568 r572 (v580 ++ v580)).bind fun r1336 =>
              if r1336 = true then
                some false
              else
                if r787 = true then
                  (L_knot_Held r568 r572 (v580 ++ v580)).bind fun r1353 =>
                  if r1353 = true then
                    (L_law15_fixed).bind fun r1358 =>
                    some r1358
                  else
                    some false
                else
                  (L_law15_fixed).bind fun r1360 =>
                  some r1360).bind fun b1306 =>
            some b1306
          else none
        else none
      else
        (L_plain_Right r568 r572).bind fun r1367 =>
        if r1367 = true then none
        else
          (L_law15_fixed).bind fun r1372 =>
          some r1372
    else none
  else none

end Go.Proofs.Ytgkjgpbinblmdaa
