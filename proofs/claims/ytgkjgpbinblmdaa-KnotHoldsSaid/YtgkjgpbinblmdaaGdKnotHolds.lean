/- Functions as typed ones, and that the program's functions answer as these do. No condition. -/
import Derived.Test.YtgkjgpbinblmdaaGd
set_option linter.unusedSimpArgs false
set_option linter.unusedVariables false
set_option maxRecDepth 20000
set_option maxHeartbeats 4000000
namespace Go.Proofs.Ytgkjgpbinblmdaa
open Go.RowKit

def L_law15_KnotHolds_l1 (r2094 : TApp) (r2098 : TConf) (r2243 : (List Int)) : Nat → Int → Option Unit
  | 0, _ => none
  | nf + 1, n2568 =>
    if n2568 < (r2243.length : Int) then
      (at? r2243 n2568).bind fun x2610 =>
      if x2610 < 0 then none
      else
        if x2610 ≥ r2094.G.N then none
        else
          (at? r2098.States x2610).bind fun x2625 =>
          (L_table_Mode r2094.T x2610 x2625).bind fun r2627 =>
          if r2627 = 2 then
            L_law15_KnotHolds_l1 r2094 r2098 r2243 nf (IntKind.wrap .i64 (n2568 + 1))
          else none
    else
      some ()
def L_law15_KnotHolds_l2 (r2243 : (List Int)) (v2106 : List Int) : Nat → Int → Option Unit
  | 0, _ => none
  | nf + 1, n3944 =>
    if n3944 < (v2106.length : Int) then
      (at? v2106 n3944).bind fun x3966 =>
      (L_ref04_In r2243 x3966).bind fun r3968 =>
      if r3968 = true then
        L_law15_KnotHolds_l2 r2243 v2106 nf (IntKind.wrap .i64 (n3944 + 1))
      else none
    else
      some ()
def L_law15_KnotHolds_l4 (r5497 : (List A2I)) (x5364 : A2I) : Nat → Int → Option Unit
  | 0, _ => none
  | nf + 1, n5586 =>
    if n5586 < (r5497.length : Int) then
      (at? r5497 n5586).bind fun x5604 =>
      if x5604 = x5364 then none
      else
        L_law15_KnotHolds_l4 r5497 x5364 nf (IntKind.wrap .i64 (n5586 + 1))
    else
      some ()
def L_law15_KnotHolds_l3 (r2094 : TApp) (r2098 : TConf) (r3978 : (List A2I)) : Nat → Int → Option (Unit ⊕ Bool)
  | 0, _ => none
  | nf + 1, n5224 =>
    if n5224 < (r3978.length : Int) then
      (((at? r3978 n5224).bind fun x5364 =>
      (L_graph_Find r2094.G x5364.a1 x5364.a0).bind fun r5366 =>
      (if r5366 < 0 then
        some true
      else
        if r5366 ≥ (r2098.Links.length : Int) then
          some true
        else
          (at? r2098.Sent r5366).bind fun x5393 =>
          some (decide (x5393 ≥ 500))).bind fun b5385 =>
      if b5385 = true then
        if r5366 ≥ 0 then
          if r5366 < (r2098.Links.length : Int) then
            (L_law15_fixed).bind fun r5471 =>
            some (.inr r5471)
          else none
        else none
      else
        (L_law05_CutConf r2098).bind fun r5475 =>
        (at? r5475.Sent r5366).bind fun x5479 =>
        (at? r5475.Links r5366).bind fun x5488 =>
        (some (r5475.Sent.set r5366.toNat (IntKind.wrap .i64 (x5479 + 1)))).bind fun v5490 =>
        (at? v5490 r5366).bind fun x5492 =>
        if (x5488.length + 1) * 16 ≤ 140737488355328 then
          (L_knot_Edges r2094 (TConf.mk r5475.States (r5475.Links.set r5366.toNat (x5488 ++ [(TMsg.mk x5492 0)])) v5490)).bind fun r5497 =>
          if (r5497.length : Int) = (IntKind.wrap .i64 ((r3978.length : Int) - 1)) then
            (L_law15_KnotHolds_l4 r5497 x5364 (((r5497.length : Int) - 0).toNat + 1) 0).bind fun _ =>
            some (.inl ())
          else none
        else none) : Option (Unit ⊕ Bool)).bind fun e5358 => match e5358 with
        | (.inl _) =>
          L_law15_KnotHolds_l3 r2094 r2098 r3978 nf (IntKind.wrap .i64 (n5224 + 1))
        | (.inr q5608) => some (.inr q5608)
    else
      some (.inl ())
def L_law15_KnotHolds (a0 : TApp) (a1 : TConf) (a2 : (List Int)) : Option Bool :=
  (L_law05_Cut a0).bind fun r2094 =>
  (L_law05_CutConf a1).bind fun r2098 =>
  if 0 ≤ (min (a2.length : Int) 10) then
    if (min (a2.length : Int) 10) ≤ (a2.length : Int) then
      (some (a2.take ((min (a2.length : Int) 10).toNat))).bind fun v2106 =>
      (L_law05_App r2094).bind fun r2114 =>
      (L_law05_Ref r2098).bind fun r2116 =>
      (L_ref05_Right r2114 r2116).bind fun r2118 =>
      if r2118 = true then
        (L_knot_Knot r2094 r2098).bind fun r2243 =>
        (L_knot_Held r2094 r2098 r2243).bind fun r2247 =>
        if (decide ((r2243.length : Int) > 0)) = r2247 then
          (L_law15_KnotHolds_l1 r2094 r2098 r2243 (((r2243.length : Int) - 0).toNat + 1) 0).bind fun _ =>
          (L_knot_Ring r2094 r2098 v2106).bind fun r2632 =>
          (if r2632 = true then
            (L_law15_KnotHolds_l2 r2243 v2106 (((v2106.length : Int) - 0).toNat + 1) 0).bind fun _ =>
            (L_knot_Held r2094 r2098 v2106).bind fun r3973 =>
            if r3973 = true then
              some ()
            else none
          else
            some ()).bind fun _ =>
          (L_knot_Edges r2094 r2098).bind fun r3978 =>
          ((L_law15_KnotHolds_l3 r2094 r2098 r3978 (((r3978.length : Int) - 0).toNat + 1) 0) : Option (Unit ⊕ Bool)).bind fun e4727 => match e4727 with
            | (.inl _) =>
              (L_law15_fixed).bind fun r5611 =>
              some r5611
            | (.inr q5613) => some q5613
        else none
      else
        (L_plain_Right r2094 r2098).bind fun r5619 =>
        if r5619 = true then none
        else
          (L_law15_fixed).bind fun r5624 =>
          some r5624
    else none
  else none

end Go.Proofs.Ytgkjgpbinblmdaa
