/- Functions as typed ones, and that the program's functions answer as these do. No condition. -/
import Derived.Test.YtgkjgpbinblmdaaGd
set_option linter.unusedSimpArgs false
set_option linter.unusedVariables false
set_option maxRecDepth 20000
set_option maxHeartbeats 4000000
namespace Go.Proofs.Ytgkjgpbinblmdaa
open Go.RowKit

def L_law15_KnotEdges_l1 (r1035 : TApp) (r1041 : TConf) (r1177 : (List A2I)) : Nat → Int → Option Unit
  | 0, _ => none
  | nf + 1, n1936 =>
    if n1936 < (r1177.length : Int) then
      (if n1936 > 0 then
        (at? r1177 (IntKind.wrap .i64 (n1936 - 1))).bind fun x2019 =>
        (at? r1177 n1936).bind fun x2021 =>
        if x2019.a0 > x2021.a0 then
          some true
        else
          if x2019.a0 = x2021.a0 then
            if x2019.a1 ≥ x2021.a1 then
              some true
            else
              (L_ref15_Edge r1035 r1041 x2021.a0 x2021.a1).bind fun r2033 =>
              some (!(r2033))
          else
            (L_ref15_Edge r1035 r1041 x2021.a0 x2021.a1).bind fun r2035 =>
            some (!(r2035))
      else
        (at? r1177 n1936).bind fun x2037 =>
        (L_ref15_Edge r1035 r1041 x2037.a0 x2037.a1).bind fun r2039 =>
        some (!(r2039))).bind fun b2006 =>
      if b2006 = true then none
      else
        L_law15_KnotEdges_l1 r1035 r1041 r1177 nf (IntKind.wrap .i64 (n1936 + 1))
    else
      some ()
def L_law15_KnotEdges_l3 (n2565 : Int) (r1027 : TApp) (r1035 : TApp) (r1041 : TConf) : Nat → Int → Int → Option Int
  | 0, _, _ => none
  | nf + 1, n2743, n2744 =>
    if n2744 < r1027.G.N then
      ((L_ref15_Edge r1035 r1041 n2565 n2744).bind fun r2761 =>
      if r2761 = true then
        some (IntKind.wrap .i64 (n2743 + 1))
      else
        some n2743).bind fun n2756 =>
      L_law15_KnotEdges_l3 n2565 r1027 r1035 r1041 nf n2756 (IntKind.wrap .i64 (n2744 + 1))
    else
      some n2743
def L_law15_KnotEdges_l2 (r1027 : TApp) (r1035 : TApp) (r1041 : TConf) : Nat → Int → Int → Option Int
  | 0, _, _ => none
  | nf + 1, n2564, n2565 =>
    if n2565 < r1027.G.N then
      ((L_law15_KnotEdges_l3 n2565 r1027 r1035 r1041 ((r1027.G.N - 0).toNat + 1) n2564 0).bind fun n2708 =>
      some n2708).bind fun n2656 =>
      L_law15_KnotEdges_l2 r1027 r1035 r1041 nf n2656 (IntKind.wrap .i64 (n2565 + 1))
    else
      some n2564
def L_law15_KnotEdges (a0 : TApp) (a1 : TConf) : Option Bool :=
  (L_law05_Cut a0).bind fun r1027 =>
  (L_law05_CutConf a1).bind fun r1031 =>
  (L_law05_App r1027).bind fun r1035 =>
  (L_law05_Ref r1031).bind fun r1041 =>
  (L_ref05_Right r1035 r1041).bind fun r1043 =>
  if r1043 = true then
    (L_knot_Edges r1027 r1031).bind fun r1177 =>
    (L_law15_KnotEdges_l1 r1035 r1041 r1177 (((r1177.length : Int) - 0).toNat + 1) 0).bind fun _ =>
    (L_law15_KnotEdges_l2 r1027 r1035 r1041 ((r1027.G.N - 0).toNat + 1) 0 0).bind fun n2357 =>
    if n2357 = (r1177.length : Int) then
      (L_law15_fixed).bind fun r2768 =>
      some r2768
    else none
  else
    (L_plain_Right r1027 r1031).bind fun r2775 =>
    if r2775 = true then none
    else
      (L_law15_fixed).bind fun r2780 =>
      some r2780

end Go.Proofs.Ytgkjgpbinblmdaa
