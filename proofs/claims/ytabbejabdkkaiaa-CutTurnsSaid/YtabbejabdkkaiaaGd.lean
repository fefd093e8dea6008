/- Functions as typed ones,and that the program's functions answer as these do. No condition. -/
import Derived.Test.YtabbejabdkkaiaaGa
set_option linter.unusedSimpArgs false
set_option linter.unusedVariables false
set_option maxRecDepth 20000
set_option maxHeartbeats 4000000
namespace Go.Proofs.Ytabbejabdkkaiaa
open Go.RowKit

def L_law03_Cut (a0 : TGraph) : Option TGraph :=
 if 0 ≤ (min (a0.Links.length : Int) 40) then
  if (min (a0.Links.length : Int) 40) ≤ (a0.Links.length : Int) then
   (some (a0.Links.take ((min (a0.Links.length : Int) 40).toNat))).bind fun v15 =>
   some (TGraph.mk a0.N v15)
  else none
 else none

def L_law04_cut_l1 (a0 : TState) : Nat → Int → (List TPick) → Option (List TPick)
 | 0,_,_ => none
 | nf + 1,n427,l428 =>
  (if n427 < (a0.Picks.length : Int) then
   some (decide (n427 < 10))
  else
   some false).bind fun b431 =>
  if b431 = true then
   (at? a0.Picks n427).bind fun x449 =>
   if 0 ≤ (min (x449.Sends.length : Int) 10) then
    if (min (x449.Sends.length : Int) 10) ≤ (x449.Sends.length : Int) then
     (some (x449.Sends.take ((min (x449.Sends.length : Int) 10).toNat))).bind fun v453 =>
     if v453.length * 16 ≤ 140737488355328 then
      if (l428.length + 1) * 32 ≤ 140737488355328 then
       L_law04_cut_l1 a0 nf (IntKind.wrap .i64 (n427 + 1)) (l428 ++ [(TPick.mk x449.Next v453)])
      else none
     else none
    else none
   else none
  else
   some l428
def L_law04_cut_l2 (a0 : TState) (l368 : List TPick) (v280 : List Int) : Nat → Int → (List TTake) → Option TState
 | 0,_,_ => none
 | nf + 1,n528,l529 =>
  (if n528 < (a0.Takes.length : Int) then
   some (decide (n528 < 30))
  else
   some false).bind fun b532 =>
  if b532 = true then
   (at? a0.Takes n528).bind fun x541 =>
   if (l529.length + 1) * 24 ≤ 140737488355328 then
    L_law04_cut_l2 a0 l368 v280 nf (IntKind.wrap .i64 (n528 + 1)) (l529 ++ [x541])
   else none
  else
   some (TState.mk a0.Mode v280 l368 l529)
def L_law04_cut (a0 : TState) : Option TState :=
 if 0 ≤ (min (a0.Waits.length : Int) 10) then
  if (min (a0.Waits.length : Int) 10) ≤ (a0.Waits.length : Int) then
   (some (a0.Waits.take ((min (a0.Waits.length : Int) 10).toNat))).bind fun v280 =>
   if v280.length * 8 ≤ 140737488355328 then
    (L_law04_cut_l1 a0 (((a0.Picks.length : Int) - 0).toNat + 1) 0 ([] : List TPick)).bind fun l368 =>
    L_law04_cut_l2 a0 l368 v280 (((a0.Takes.length : Int) - 0).toNat + 1) 0 ([] : List TTake)
   else none
  else none
 else none

def L_law04_Cut_l2 (x2849 : TNode) : Nat → Int → (List TState) → Option (List TState)
 | 0,_,_ => none
 | nf + 1,n2945,l2946 =>
  (if n2945 < (x2849.States.length : Int) then
   some (decide (n2945 < 10))
  else
   some false).bind fun b2949 =>
  if b2949 = true then
   (at? x2849.States n2945).bind fun x2960 =>
   (L_law04_cut x2960).bind fun r2962 =>
   if (l2946.length + 1) * 80 ≤ 140737488355328 then
    L_law04_Cut_l2 x2849 nf (IntKind.wrap .i64 (n2945 + 1)) (l2946 ++ [r2962])
   else none
  else
   some l2946
def L_law04_Cut_l1 (a0 : (List TNode)) : Nat → Int → (List TNode) → Option (List TNode)
 | 0,_,_ => none
 | nf + 1,n2716,l2717 =>
  (if n2716 < (a0.length : Int) then
   some (decide (n2716 < 8))
  else
   some false).bind fun b2720 =>
  if b2720 = true then
   ((at? a0 n2716).bind fun x2849 =>
   (L_law04_Cut_l2 x2849 (((x2849.States.length : Int) - 0).toNat + 1) 0 ([] : List TState)).bind fun l2906 =>
   if (l2717.length + 1) * 32 ≤ 140737488355328 then
    some (l2717 ++ [(TNode.mk x2849.Start l2906)])
   else none).bind fun l2844 =>
   L_law04_Cut_l1 a0 nf (IntKind.wrap .i64 (n2716 + 1)) l2844
  else
   some l2717
def L_law04_Cut (a0 : (List TNode)) : Option (List TNode) :=
 L_law04_Cut_l1 a0 (((a0.length : Int) - 0).toNat + 1) 0 ([] : List TNode)

def L_law05_Cut (a0 : TApp) : Option TApp :=
 (L_law03_Cut a0.G).bind fun r13 =>
 (L_law04_Cut a0.T).bind fun r15 =>
 some (TApp.mk r13 r15 a0.Fifo)

def L_law03_Ref (a0 : TGraph) : Option TGraph :=
 some a0

def L_law04_state_l2 (x1617 : TPick) : Nat → Int → (List TSend) → Option (List TSend)
 | 0,_,_ => none
 | nf + 1,n1668,l1669 =>
  if n1668 < (x1617.Sends.length : Int) then
   (at? x1617.Sends n1668).bind fun x1676 =>
   if (l1669.length + 1) * 16 ≤ 140737488355328 then
    L_law04_state_l2 x1617 nf (IntKind.wrap .i64 (n1668 + 1)) (l1669 ++ [x1676])
   else none
  else
   some l1669
def L_law04_state_l1 (a0 : TState) : Nat → Int → (List TPick) → Option (List TPick)
 | 0,_,_ => none
 | nf + 1,n1543,l1544 =>
  if n1543 < (a0.Picks.length : Int) then
   ((at? a0.Picks n1543).bind fun x1617 =>
   (L_law04_state_l2 x1617 (((x1617.Sends.length : Int) - 0).toNat + 1) 0 ([] : List TSend)).bind fun l1647 =>
   if (l1544.length + 1) * 32 ≤ 140737488355328 then
    some (l1544 ++ [(TPick.mk x1617.Next l1647)])
   else none).bind fun l1612 =>
   L_law04_state_l1 a0 nf (IntKind.wrap .i64 (n1543 + 1)) l1612
  else
   some l1544
def L_law04_state_l3 (a0 : TState) (l1272 : List TPick) : Nat → Int → (List TTake) → Option TState
 | 0,_,_ => none
 | nf + 1,n1726,l1727 =>
  if n1726 < (a0.Takes.length : Int) then
   (at? a0.Takes n1726).bind fun x1734 =>
   if (l1727.length + 1) * 24 ≤ 140737488355328 then
    L_law04_state_l3 a0 l1272 nf (IntKind.wrap .i64 (n1726 + 1)) (l1727 ++ [x1734])
   else none
  else
   some (TState.mk a0.Mode a0.Waits l1272 l1727)
def L_law04_state (a0 : TState) : Option TState :=
 (L_law04_state_l1 a0 (((a0.Picks.length : Int) - 0).toNat + 1) 0 ([] : List TPick)).bind fun l1272 =>
 L_law04_state_l3 a0 l1272 (((a0.Takes.length : Int) - 0).toNat + 1) 0 ([] : List TTake)

def L_law04_Ref_l2 (x2099 : TNode) : Nat → Int → (List TState) → Option (List TState)
 | 0,_,_ => none
 | nf + 1,n2170,l2171 =>
  if n2170 < (x2099.States.length : Int) then
   (at? x2099.States n2170).bind fun x2180 =>
   (L_law04_state x2180).bind fun r2182 =>
   if (l2171.length + 1) * 80 ≤ 140737488355328 then
    L_law04_Ref_l2 x2099 nf (IntKind.wrap .i64 (n2170 + 1)) (l2171 ++ [r2182])
   else none
  else
   some l2171
def L_law04_Ref_l1 (a0 : (List TNode)) : Nat → Int → (List TNode) → Option (List TNode)
 | 0,_,_ => none
 | nf + 1,n2001,l2002 =>
  if n2001 < (a0.length : Int) then
   ((at? a0 n2001).bind fun x2099 =>
   (L_law04_Ref_l2 x2099 (((x2099.States.length : Int) - 0).toNat + 1) 0 ([] : List TState)).bind fun l2141 =>
   if (l2002.length + 1) * 32 ≤ 140737488355328 then
    some (l2002 ++ [(TNode.mk x2099.Start l2141)])
   else none).bind fun l2094 =>
   L_law04_Ref_l1 a0 nf (IntKind.wrap .i64 (n2001 + 1)) l2094
  else
   some l2002
def L_law04_Ref (a0 : (List TNode)) : Option (List TNode) :=
 L_law04_Ref_l1 a0 (((a0.length : Int) - 0).toNat + 1) 0 ([] : List TNode)

def L_law05_App (a0 : TApp) : Option TApp :=
 (L_law03_Ref a0.G).bind fun r13 =>
 (L_law04_Ref a0.T).bind fun r15 =>
 some (TApp.mk r13 r15 a0.Fifo)

def L_ref05_Start_l1 (a0 : TApp) : Nat → Int → (List Int) → Option (List Int)
 | 0,_,_ => none
 | nf + 1,n169,l170 =>
  if n169 < (a0.T.length : Int) then
   (at? a0.T n169).bind fun x177 =>
   if (l170.length + 1) * 8 ≤ 140737488355328 then
    L_ref05_Start_l1 a0 nf (IntKind.wrap .i64 (n169 + 1)) (l170 ++ [x177.Start])
   else none
  else
   some l170
def L_ref05_Start_l2 (a0 : TApp) (l148 : List Int) : Nat → Int → (List (List TMsg)) → (List Int) → Option TConf
 | 0,_,_,_ => none
 | nf + 1,n225,l226,l227 =>
  if n225 < (a0.G.Links.length : Int) then
   if (l226.length + 1) * 24 ≤ 140737488355328 then
    if (l227.length + 1) * 8 ≤ 140737488355328 then
     L_ref05_Start_l2 a0 l148 nf (IntKind.wrap .i64 (n225 + 1)) ((l226 ++ [[]]) : List (List TMsg)) (l227 ++ [0])
    else none
   else none
  else
   some (TConf.mk l148 l226 l227)
def L_ref05_Start (a0 : TApp) : Option TConf :=
 (L_ref05_Start_l1 a0 (((a0.T.length : Int) - 0).toNat + 1) 0 ([] : List Int)).bind fun l148 =>
 L_ref05_Start_l2 a0 l148 (((a0.G.Links.length : Int) - 0).toNat + 1) 0 ([] : List (List TMsg)) ([] : List Int)

def L_ref03_Find_l1 (a0 : TGraph) (a1 : Int) (a2 : Int) : Nat → Int → Option Int
 | 0,_ => none
 | nf + 1,n253 =>
  if n253 < (a0.Links.length : Int) then
   ((at? a0.Links n253).bind fun x273 =>
   if x273.a0 = a1 then
    some (decide (x273.a1 = a2))
   else
    some false).bind fun b270 =>
   if b270 = true then
    some n253
   else
    L_ref03_Find_l1 a0 a1 a2 nf (IntKind.wrap .i64 (n253 + 1))
  else
   some (-1)
def L_ref03_Find (a0 : TGraph) (a1 : Int) (a2 : Int) : Option Int :=
 L_ref03_Find_l1 a0 a1 a2 (((a0.Links.length : Int) - 0).toNat + 1) 0

def L_ref03_Dist_l1 (a0 : TGraph) : Nat → Int → (List Int) → Option (List Int)
 | 0,_,_ => none
 | nf + 1,n1824,l1825 =>
  if n1824 < a0.N then
   if (l1825.length + 1) * 8 ≤ 140737488355328 then
    L_ref03_Dist_l1 a0 nf (IntKind.wrap .i64 (n1824 + 1)) (l1825 ++ [(-1)])
   else none
  else
   some l1825
def L_ref03_Dist_l3 (a0 : TGraph) (n3296 : Int) : Nat → Int → (List Int) → Option (List Int)
 | 0,_,_ => none
 | nf + 1,n3677,l3678 =>
  if n3677 < (a0.Links.length : Int) then
   ((at? a0.Links n3677).bind fun x3707 =>
   ((at? l3678 x3707.a0).bind fun x3717 =>
   if x3717 = n3296 then
    (at? l3678 x3707.a1).bind fun x3720 =>
    some (decide (x3720 < 0))
   else
    some false).bind fun b3714 =>
   if b3714 = true then
    (at? l3678 x3707.a1).bind fun x3723 =>
    some (l3678.set x3707.a1.toNat (IntKind.wrap .i64 (n3296 + 1)))
   else
    some l3678).bind fun l3702 =>
   L_ref03_Dist_l3 a0 n3296 nf (IntKind.wrap .i64 (n3677 + 1)) l3702
  else
   some l3678
def L_ref03_Dist_l2 (a0 : TGraph) : Nat → Int → (List Int) → Option (List Int)
 | 0,_,_ => none
 | nf + 1,n3296,l3297 =>
  if n3296 < a0.N then
   ((L_ref03_Dist_l3 a0 n3296 (((a0.Links.length : Int) - 0).toNat + 1) 0 l3297).bind fun l3582 =>
   some l3582).bind fun l3440 =>
   L_ref03_Dist_l2 a0 nf (IntKind.wrap .i64 (n3296 + 1)) l3440
  else
   some l3297
def L_ref03_Dist (a0 : TGraph) (a1 : Int) : Option (List Int) :=
 (if a1 < 0 then
  some true
 else
  some (decide (a1 ≥ a0.N))).bind fun b1793 =>
 if b1793 = true then
  some []
 else
  (L_ref03_Dist_l1 a0 ((a0.N - 0).toNat + 1) 0 ([] : List Int)).bind fun l1813 =>
  (at? l1813 a1).bind fun x1833 =>
  L_ref03_Dist_l2 a0 ((a0.N - 0).toNat + 1) 0 (l1813.set a1.toNat 0)

def L_ref03_Right_l1 (a0 : TGraph) : Nat → Int → Option (Unit ⊕ Bool)
 | 0,_ => none
 | nf + 1,n1210 =>
  if n1210 < (a0.Links.length : Int) then
   (at? a0.Links n1210).bind fun x1244 =>
   (if x1244.a0 < 0 then
    some true
   else
    if x1244.a0 ≥ a0.N then
     some true
    else
     if x1244.a1 < 0 then
      some true
     else
      if x1244.a1 ≥ a0.N then
       some true
      else
       if x1244.a0 = x1244.a1 then
        some true
       else
        (L_ref03_Find a0 x1244.a0 x1244.a1).bind fun r1264 =>
        if r1264 = n1210 then
         (L_ref03_Find a0 x1244.a1 x1244.a0).bind fun r1267 =>
         some (decide (r1267 < 0))
        else
         some true).bind fun b1256 =>
   if b1256 = true then
    some (.inr false)
   else
    L_ref03_Right_l1 a0 nf (IntKind.wrap .i64 (n1210 + 1))
  else
   some (.inl ())
def L_ref03_Right_l3 (r1768 : (List Int)) : Nat → Int → Option (Unit ⊕ Bool)
 | 0,_ => none
 | nf + 1,n1835 =>
  if n1835 < (r1768.length : Int) then
   (at? r1768 n1835).bind fun x1846 =>
   if x1846 < 0 then
    some (.inr false)
   else
    L_ref03_Right_l3 r1768 nf (IntKind.wrap .i64 (n1835 + 1))
  else
   some (.inl ())
def L_ref03_Right_l2 (a0 : TGraph) : Nat → Int → Option Bool
 | 0,_ => none
 | nf + 1,n1718 =>
  if n1718 < a0.N then
   (((L_ref03_Dist a0 n1718).bind fun r1768 =>
   ((L_ref03_Right_l3 r1768 (((r1768.length : Int) - 0).toNat + 1) 0) : Option (Unit ⊕ Bool)).bind fun e1808 => match e1808 with
    | (.inl _) =>
     some (.inl ())
    | (.inr q1849) => some (.inr q1849)) : Option (Unit ⊕ Bool)).bind fun e1764 => match e1764 with
    | (.inl _) =>
     L_ref03_Right_l2 a0 nf (IntKind.wrap .i64 (n1718 + 1))
    | (.inr q1850) => some q1850
  else
   some true
def L_ref03_Right (a0 : TGraph) : Option Bool :=
 (if a0.N < 1 then
  some true
 else
  if a0.N > 6 then
   some true
  else
   some (decide ((a0.Links.length : Int) > 30))).bind fun b908 =>
 if b908 = true then
  some false
 else
  ((L_ref03_Right_l1 a0 (((a0.Links.length : Int) - 0).toNat + 1) 0) : Option (Unit ⊕ Bool)).bind fun e1091 => match e1091 with
   | (.inl _) =>
    L_ref03_Right_l2 a0 ((a0.N - 0).toNat + 1) 0
   | (.inr q1851) => some q1851

def L_ref04_waits_l1 (a0 : TState) (a1 : Int) (a2 : TGraph) : Nat → Int → Option Bool
 | 0,_ => none
 | nf + 1,n429 =>
  if n429 < (a0.Waits.length : Int) then
   ((at? a0.Waits n429).bind fun x464 =>
   (L_ref03_Find a2 x464 a1).bind fun r466 =>
   if r466 < 0 then
    some true
   else
    if n429 > 0 then
     (at? a0.Waits (IntKind.wrap .i64 (n429 - 1))).bind fun x470 =>
     some (decide (x464 ≤ x470))
    else
     some false).bind fun b461 =>
   if b461 = true then
    some false
   else
    L_ref04_waits_l1 a0 a1 a2 nf (IntKind.wrap .i64 (n429 + 1))
  else
   some (decide ((a0.Waits.length : Int) ≥ 1))
def L_ref04_waits (a0 : TState) (a1 : Int) (a2 : TGraph) : Option Bool :=
 if a0.Mode = 2 then
  L_ref04_waits_l1 a0 a1 a2 (((a0.Waits.length : Int) - 0).toNat + 1) 0
 else
  some (decide ((a0.Waits.length : Int) = 0))

def L_ref04_picks_l2 (a1 : Int) (a3 : TGraph) (x2783 : TPick) : Nat → Int → Option (Unit ⊕ Bool)
 | 0,_ => none
 | nf + 1,n2969 =>
  if n2969 < (x2783.Sends.length : Int) then
   ((at? x2783.Sends n2969).bind fun x2998 =>
   (L_ref03_Find a3 a1 x2998.To).bind fun r3000 =>
   if r3000 < 0 then
    some true
   else
    if x2998.Letter < 0 then
     some true
    else
     some (decide (x2998.Letter > 3))).bind fun b2995 =>
   if b2995 = true then
    some (.inr false)
   else
    L_ref04_picks_l2 a1 a3 x2783 nf (IntKind.wrap .i64 (n2969 + 1))
  else
   some (.inl ())
def L_ref04_picks_l1 (a0 : TState) (a1 : Int) (a2 : Int) (a3 : TGraph) : Nat → Int → Option Bool
 | 0,_ => none
 | nf + 1,n2658 =>
  if n2658 < (a0.Picks.length : Int) then
   (((at? a0.Picks n2658).bind fun x2783 =>
   (if x2783.Next < 0 then
    some true
   else
    if x2783.Next ≥ a2 then
     some true
    else
     some (decide ((x2783.Sends.length : Int) > 4))).bind fun b2787 =>
   if b2787 = true then
    some (.inr false)
   else
    ((L_ref04_picks_l2 a1 a3 x2783 (((x2783.Sends.length : Int) - 0).toNat + 1) 0) : Option (Unit ⊕ Bool)).bind fun e2898 => match e2898 with
     | (.inl _) =>
      some (.inl ())
     | (.inr q3005) => some (.inr q3005)) : Option (Unit ⊕ Bool)).bind fun e2779 => match e2779 with
    | (.inl _) =>
     L_ref04_picks_l1 a0 a1 a2 a3 nf (IntKind.wrap .i64 (n2658 + 1))
    | (.inr q3006) => some q3006
  else
   some true
def L_ref04_picks (a0 : TState) (a1 : Int) (a2 : Int) (a3 : TGraph) : Option Bool :=
 (if (a0.Picks.length : Int) > 4 then
  some true
 else
  if (a0.Picks.length : Int) > 0 then
   some (!(decide (a0.Mode = 1)))
  else
   some false).bind fun b1453 =>
 if b1453 = true then
  some false
 else
  L_ref04_picks_l1 a0 a1 a2 a3 (((a0.Picks.length : Int) - 0).toNat + 1) 0

def L_ref04_In_l1 (a0 : (List Int)) (a1 : Int) : Nat → Int → Option Bool
 | 0,_ => none
 | nf + 1,n143 =>
  if n143 < (a0.length : Int) then
   (at? a0 n143).bind fun x154 =>
   if x154 = a1 then
    some true
   else
    L_ref04_In_l1 a0 a1 nf (IntKind.wrap .i64 (n143 + 1))
  else
   some false
def L_ref04_In (a0 : (List Int)) (a1 : Int) : Option Bool :=
 L_ref04_In_l1 a0 a1 (((a0.length : Int) - 0).toNat + 1) 0

def L_ref04_kept_l1 (a0 : TState) (a1 : TState) (a2 : Int) : Nat → Int → Option Bool
 | 0,_ => none
 | nf + 1,n385 =>
  if n385 < (a0.Waits.length : Int) then
   ((at? a0.Waits n385).bind fun x414 =>
   if x414 = a2 then
    some false
   else
    if a1.Mode = 2 then
     (L_ref04_In a1.Waits x414).bind fun r418 =>
     some (!(r418))
    else
     some true).bind fun b411 =>
   if b411 = true then
    some false
   else
    L_ref04_kept_l1 a0 a1 a2 nf (IntKind.wrap .i64 (n385 + 1))
  else
   some true
def L_ref04_kept (a0 : TState) (a1 : TState) (a2 : Int) : Option Bool :=
 L_ref04_kept_l1 a0 a1 a2 (((a0.Waits.length : Int) - 0).toNat + 1) 0

def L_ref04_takes_l2 (a0 : TState) (n1700 : Int) (x1807 : TTake) : Nat → Int → Option (Unit ⊕ Bool)
 | 0,_ => none
 | nf + 1,n1951 =>
  if n1951 < n1700 then
   ((at? a0.Takes n1951).bind fun x1971 =>
   if x1971.From = x1807.From then
    some (decide (x1971.Letter = x1807.Letter))
   else
    some false).bind fun b1968 =>
   if b1968 = true then
    some (.inr false)
   else
    L_ref04_takes_l2 a0 n1700 x1807 nf (IntKind.wrap .i64 (n1951 + 1))
  else
   some (.inl ())
def L_ref04_takes_l1 (a0 : TState) (a1 : Int) (a2 : TNode) (a3 : TGraph) : Nat → Int → Option Bool
 | 0,_ => none
 | nf + 1,n1700 =>
  if n1700 < (a0.Takes.length : Int) then
   (((at? a0.Takes n1700).bind fun x1807 =>
   ((L_ref03_Find a3 x1807.From a1).bind fun r1823 =>
   if r1823 < 0 then
    some true
   else
    if x1807.Letter < 0 then
     some true
    else
     if x1807.Letter > 3 then
      some true
     else
      if x1807.Next < 0 then
       some true
      else
       if x1807.Next ≥ (a2.States.length : Int) then
        some true
       else
        (at? a2.States x1807.Next).bind fun x1830 =>
        (L_ref04_kept a0 x1830 x1807.From).bind fun r1832 =>
        some (!(r1832))).bind fun b1820 =>
   if b1820 = true then
    some (.inr false)
   else
    ((L_ref04_takes_l2 a0 n1700 x1807 ((n1700 - 0).toNat + 1) 0) : Option (Unit ⊕ Bool)).bind fun e1904 => match e1904 with
     | (.inl _) =>
      some (.inl ())
     | (.inr q1975) => some (.inr q1975)) : Option (Unit ⊕ Bool)).bind fun e1803 => match e1803 with
    | (.inl _) =>
     L_ref04_takes_l1 a0 a1 a2 a3 nf (IntKind.wrap .i64 (n1700 + 1))
    | (.inr q1976) => some q1976
  else
   some true
def L_ref04_takes (a0 : TState) (a1 : Int) (a2 : TNode) (a3 : TGraph) : Option Bool :=
 L_ref04_takes_l1 a0 a1 a2 a3 (((a0.Takes.length : Int) - 0).toNat + 1) 0

def L_ref04_Right_l2 (a1 : TGraph) (n4290 : Int) (x4489 : TNode) : Nat → Int → Option (Unit ⊕ Bool)
 | 0,_ => none
 | nf + 1,n4797 =>
  if n4797 < (x4489.States.length : Int) then
   (at? x4489.States n4797).bind fun x4831 =>
   (if x4831.Mode < 0 then
    some true
   else
    if x4831.Mode > 2 then
     some true
    else
     (L_ref04_waits x4831 n4290 a1).bind fun r4848 =>
     if r4848 = true then
      (L_ref04_picks x4831 n4290 (x4489.States.length : Int) a1).bind fun r4851 =>
      if r4851 = true then
       (L_ref04_takes x4831 n4290 x4489 a1).bind fun r4854 =>
       some (!(r4854))
      else
       some true
     else
      some true).bind fun b4843 =>
   if b4843 = true then
    some (.inr false)
   else
    L_ref04_Right_l2 a1 n4290 x4489 nf (IntKind.wrap .i64 (n4797 + 1))
  else
   some (.inl ())
def L_ref04_Right_l1 (a0 : (List TNode)) (a1 : TGraph) : Nat → Int → Option Bool
 | 0,_ => none
 | nf + 1,n4290 =>
  if n4290 < (a0.length : Int) then
   (((at? a0 n4290).bind fun x4489 =>
   (if (x4489.States.length : Int) < 1 then
    some true
   else
    if (x4489.States.length : Int) > 8 then
     some true
    else
     if x4489.Start < 0 then
      some true
     else
      some (decide (x4489.Start ≥ (x4489.States.length : Int)))).bind fun b4494 =>
   if b4494 = true then
    some (.inr false)
   else
    ((L_ref04_Right_l2 a1 n4290 x4489 (((x4489.States.length : Int) - 0).toNat + 1) 0) : Option (Unit ⊕ Bool)).bind fun e4678 => match e4678 with
     | (.inl _) =>
      some (.inl ())
     | (.inr q4857) => some (.inr q4857)) : Option (Unit ⊕ Bool)).bind fun e4485 => match e4485 with
    | (.inl _) =>
     L_ref04_Right_l1 a0 a1 nf (IntKind.wrap .i64 (n4290 + 1))
    | (.inr q4858) => some q4858
  else
   some true
def L_ref04_Right (a0 : (List TNode)) (a1 : TGraph) : Option Bool :=
 ((L_ref03_Right a1).bind fun r2347 =>
 if r2347 = true then
  some (!(decide ((a0.length : Int) = a1.N)))
 else
  some true).bind fun b2344 =>
 if b2344 = true then
  some false
 else
  L_ref04_Right_l1 a0 a1 (((a0.length : Int) - 0).toNat + 1) 0

def L_ref05_Right_l1 (a0 : TApp) (a1 : TConf) : Nat → Int → Option (Unit ⊕ Bool)
 | 0,_ => none
 | nf + 1,n2174 =>
  if n2174 < (a1.States.length : Int) then
   ((at? a1.States n2174).bind fun x2200 =>
   if x2200 < 0 then
    some true
   else
    (at? a0.T n2174).bind fun x2203 =>
    some (decide (x2200 ≥ (x2203.States.length : Int)))).bind fun b2197 =>
   if b2197 = true then
    some (.inr false)
   else
    L_ref05_Right_l1 a0 a1 nf (IntKind.wrap .i64 (n2174 + 1))
  else
   some (.inl ())
def L_ref05_Right_l3 (a1 : TConf) (n3704 : Int) : Nat → Int → Int → Option (Unit ⊕ Bool)
 | 0,_,_ => none
 | nf + 1,n4096,n4097 =>
  (at? a1.Links n3704).bind fun x4101 =>
  if n4097 < (x4101.length : Int) then
   (at? x4101 n4097).bind fun x4126 =>
   (if x4126.Seq ≤ n4096 then
    some true
   else
    (at? a1.Sent n3704).bind fun x4137 =>
    if x4126.Seq > x4137 then
     some true
    else
     if x4126.Letter < 0 then
      some true
     else
      some (decide (x4126.Letter > 3))).bind fun b4133 =>
   if b4133 = true then
    some (.inr false)
   else
    L_ref05_Right_l3 a1 n3704 nf x4126.Seq (IntKind.wrap .i64 (n4097 + 1))
  else
   some (.inl ())
def L_ref05_Right_l2 (a1 : TConf) : Nat → Int → Option Bool
 | 0,_ => none
 | nf + 1,n3704 =>
  if n3704 < (a1.Links.length : Int) then
   ((((at? a1.Sent n3704).bind fun x3863 =>
   if x3863 < 0 then
    some true
   else
    some (decide (x3863 > 500))).bind fun b3860 =>
   if b3860 = true then
    some (.inr false)
   else
    ((L_ref05_Right_l3 a1 n3704 (a1.Links.flatten.length + 1) 0 0) : Option (Unit ⊕ Bool)).bind fun e4004 => match e4004 with
     | (.inl _) =>
      some (.inl ())
     | (.inr q4143) => some (.inr q4143)) : Option (Unit ⊕ Bool)).bind fun e3855 => match e3855 with
    | (.inl _) =>
     L_ref05_Right_l2 a1 nf (IntKind.wrap .i64 (n3704 + 1))
    | (.inr q4144) => some q4144
  else
   some true
def L_ref05_Right (a0 : TApp) (a1 : TConf) : Option Bool :=
 ((L_ref04_Right a0.T a0.G).bind fun r2012 =>
 if r2012 = true then
  if (a1.States.length : Int) = a0.G.N then
   if (a1.Links.length : Int) = (a0.G.Links.length : Int) then
    some (!(decide ((a1.Sent.length : Int) = (a0.G.Links.length : Int))))
   else
    some true
  else
   some true
 else
  some true).bind fun b2009 =>
 if b2009 = true then
  some false
 else
  ((L_ref05_Right_l1 a0 a1 (((a1.States.length : Int) - 0).toNat + 1) 0) : Option (Unit ⊕ Bool)).bind fun e2111 => match e2111 with
   | (.inl _) =>
    L_ref05_Right_l2 a1 (((a1.Links.length : Int) - 0).toNat + 1) 0
   | (.inr q4145) => some q4145

def L_graph_Full_l2 (a0 : Int) (n771 : Int) : Nat → Int → (List A2I) → Option (List A2I)
 | 0,_,_ => none
 | nf + 1,n864,l865 =>
  if n864 < (min (max a0 1) 6) then
   (if n771 = n864 then
    some l865
   else
    if (l865.length + 1) * 16 ≤ 140737488355328 then
     some (l865 ++ [(A2I.mk n771 n864)])
    else none).bind fun l871 =>
   L_graph_Full_l2 a0 n771 nf (IntKind.wrap .i64 (n864 + 1)) l871
  else
   some l865
def L_graph_Full_l1 (a0 : Int) : Nat → Int → (List A2I) → Option TGraph
 | 0,_,_ => none
 | nf + 1,n771,l772 =>
  if n771 < (min (max a0 1) 6) then
   ((L_graph_Full_l2 a0 n771 (((min (max a0 1) 6) - 0).toNat + 1) 0 l772).bind fun l841 =>
   some l841).bind fun l807 =>
   L_graph_Full_l1 a0 nf (IntKind.wrap .i64 (n771 + 1)) l807
  else
   some (TGraph.mk (min (max a0 1) 6) l772)
def L_graph_Full (a0 : Int) : Option TGraph :=
 L_graph_Full_l1 a0 (((min (max a0 1) 6) - 0).toNat + 1) 0 ([] : List A2I)

def L_law05_Two : Option TApp :=
 (L_graph_Full 2).bind fun r7 =>
 some (TApp.mk r7 ([(TNode.mk 0 ([(TState.mk 1 [] ([(TPick.mk 1 ([(TSend.mk 1 1)] ++ [(TSend.mk 1 2)]))]) [])] ++ [(TState.mk 0 [] [] [])]))] ++ [(TNode.mk 0 ([(TState.mk 2 [0] [] [(TTake.mk 0 1 1)])] ++ [(TState.mk 0 [] [] [])]))]) false)

def L_plain_Start_l1 (a0 : TApp) : Nat → Int → (List Int) → Option TConf
 | 0,_,_ => none
 | nf + 1,n162,l163 =>
  if n162 < (a0.T.length : Int) then
   (at? a0.T n162).bind fun x174 =>
   if (l163.length + 1) * 8 ≤ 140737488355328 then
    L_plain_Start_l1 a0 nf (IntKind.wrap .i64 (n162 + 1)) (l163 ++ [x174.Start])
   else none
  else
   some (TConf.mk l163 (List.replicate a0.G.Links.length []) (List.replicate a0.G.Links.length 0))
def L_plain_Start (a0 : TApp) : Option TConf :=
 if 24 * a0.G.Links.length ≤ 140737488355328 then
  if a0.G.Links.length ≤ 140737488355328 then
   if 8 * a0.G.Links.length ≤ 140737488355328 then
    L_plain_Start_l1 a0 (((a0.T.length : Int) - 0).toNat + 1) 0 ([] : List Int)
   else none
  else none
 else none

def L_graph_Graph_node (a0 : TGraph) (a1 : Int) : Option Bool :=
 (if a1 ≥ 0 then
  some (decide (a1 < a0.N))
 else
  some false).bind fun b7 =>
 some b7

def L_graph_turned (a0 : A2I) : Option A2I :=
 some (A2I.mk a0.a1 a0.a0)

def L_math_bits_Mul64 (a0 : Int) (a1 : Int) : Option (Int × Int) :=
 some ((IntKind.wrap .u64 ((IntKind.wrap .u64 ((IntKind.wrap .u64 ((a0.fdiv (2 ^ 32)) * (a1.fdiv (2 ^ 32)))) + ((IntKind.wrap .u64 ((IntKind.wrap .u64 ((a0.fdiv (2 ^ 32)) * (landK .u64 a1 4294967295))) + ((IntKind.wrap .u64 ((landK .u64 a0 4294967295) * (landK .u64 a1 4294967295))).fdiv (2 ^ 32)))).fdiv (2 ^ 32)))) + ((IntKind.wrap .u64 ((landK .u64 (IntKind.wrap .u64 ((IntKind.wrap .u64 ((a0.fdiv (2 ^ 32)) * (landK .u64 a1 4294967295))) + ((IntKind.wrap .u64 ((landK .u64 a0 4294967295) * (landK .u64 a1 4294967295))).fdiv (2 ^ 32)))) 4294967295) + (IntKind.wrap .u64 ((landK .u64 a0 4294967295) * (a1.fdiv (2 ^ 32)))))).fdiv (2 ^ 32)))),(IntKind.wrap .u64 (a0 * a1)))

def L_math_bits_Mul (a0 : Int) (a1 : Int) : Option (Int × Int) :=
 (L_math_bits_Mul64 a0 a1).bind fun r7 =>
 some (r7.1,r7.2)

def L_slices_Repeat_int_int_l1 : Nat → Int → (List Int) → Option (List Int)
 | 0,_,_ => none
 | nf + 1,n172,l173 =>
  if n172 < (l173.length : Int) then
   if 0 ≤ n172 then
    if n172 ≤ (l173.length : Int) then
     L_slices_Repeat_int_int_l1 nf (IntKind.wrap .i64 (n172 + ((Nat.min (l173.take n172.toNat).length (((l173.drop n172.toNat).take (l173.length - n172.toNat)).length) : Nat) : Int))) (l173.take n172.toNat ++ ((l173.take n172.toNat).take (((l173.drop n172.toNat).take (l173.length - n172.toNat)).length)) ++ l173.drop (n172.toNat + ((l173.take n172.toNat).take (((l173.drop n172.toNat).take (l173.length - n172.toNat)).length)).length))
    else none
   else none
  else
   some l173
def L_slices_Repeat_int_int (a0 : (List Int)) (a1 : Int) : Option (List Int) :=
 if a1 < 0 then
  none
 else
  (L_math_bits_Mul (IntKind.wrap .u64 (a0.length : Int)) (IntKind.wrap .u64 a1)).bind fun r97 =>
  (if r97.1 > 0 then
   some true
  else
   some (decide (r97.2 > 9223372036854775807))).bind fun b100 =>
  if b100 = true then
   none
  else
   if 0 ≤ (IntKind.wrap .i64 r97.2) then
    if 8 * ((IntKind.wrap .i64 r97.2).toNat) ≤ 140737488355328 then
     if ((IntKind.wrap .i64 r97.2).toNat) ≤ 140737488355328 then
      (some (List.replicate ((IntKind.wrap .i64 r97.2).toNat) 0)).bind fun v115 =>
      L_slices_Repeat_int_int_l1 (((((a0.take v115.length) ++ v115.drop (a0.take v115.length).length).length : Int) - ((Nat.min a0.length v115.length : Nat) : Int)).toNat + 1) ((Nat.min a0.length v115.length : Nat) : Int) ((a0.take v115.length) ++ v115.drop (a0.take v115.length).length)
     else none
    else none
   else none

def L_graph_of_v1_l1 (a0 : TGraph) (a1 : Int) : Nat → Int → (List Int) → Option (List Int)
 | 0,_,_ => none
 | nf + 1,n197,l198 =>
  if n197 < (a0.Links.length : Int) then
   ((at? a0.Links n197).bind fun x213 =>
   if x213.a0 = a1 then
    if (l198.length + 1) * 8 ≤ 140737488355328 then
     some (l198 ++ [n197])
    else none
   else
    some l198).bind fun l208 =>
   L_graph_of_v1_l1 a0 a1 nf (IntKind.wrap .i64 (n197 + 1)) l208
  else
   some l198
def L_graph_of_v1 (a0 : TGraph) (a1 : Int) : Option (List Int) :=
 L_graph_of_v1_l1 a0 a1 (((a0.Links.length : Int) - 0).toNat + 1) 0 ([] : List Int)

def L_graph_Out (a0 : TGraph) (a1 : Int) : Option (List Int) :=
 (L_graph_of_v1 a0 a1).bind fun r7 =>
 some r7

def L_graph_Dist_l2 (a0 : TGraph) (r1699 : (List Int)) (x1691 : Int) : Nat → Int → (List Int) → (List Int) → Option ((List Int) × (List Int))
 | 0,_,_,_ => none
 | nf + 1,n1924,l1925,l1926 =>
  if n1924 < (r1699.length : Int) then
   ((at? r1699 n1924).bind fun x1954 =>
   (at? a0.Links x1954).bind fun x1958 =>
   (at? l1925 x1958.a1).bind fun x1962 =>
   if x1962 < 0 then
    (at? l1925 x1691).bind fun x1967 =>
    if (l1926.length + 1) * 8 ≤ 140737488355328 then
     some ((l1925.set x1958.a1.toNat (IntKind.wrap .i64 (x1967 + 1))),(l1926 ++ [x1958.a1]))
    else none
   else
    some (l1925,l1926)).bind fun ⟨l1948,l1949⟩ =>
   L_graph_Dist_l2 a0 r1699 x1691 nf (IntKind.wrap .i64 (n1924 + 1)) l1948 l1949
  else
   some (l1925,l1926)
def L_graph_Dist_l1 (a0 : TGraph) : Nat → (List Int) → (List Int) → Option (List Int)
 | 0,_,_ => none
 | nf + 1,l1684,l1685 =>
  if (l1685.length : Int) = 0 then
   some l1684
  else
   (at? l1685 0).bind fun x1691 =>
   if 1 ≤ (l1685.length : Int) then
    (L_graph_Out a0 x1691).bind fun r1699 =>
    (L_graph_Dist_l2 a0 r1699 x1691 (((r1699.length : Int) - 0).toNat + 1) 0 l1684 (l1685.drop 1)).bind fun ⟨l1833,l1834⟩ =>
    L_graph_Dist_l1 a0 nf l1833 l1834
   else none
def L_graph_Dist (a0 : TGraph) (a1 : Int) : Option (List Int) :=
 (L_graph_Graph_node a0 a1).bind fun r920 =>
 if r920 = true then
  (L_slices_Repeat_int_int [(-1)] a0.N).bind fun r926 =>
  (at? r926 a1).bind fun x930 =>
  L_graph_Dist_l1 a0 (a0.N.toNat + 2) (r926.set a1.toNat 0) [a1]
 else
  some []

def L_slices_Index_int_int_l1 (a0 : (List Int)) (a1 : Int) : Nat → Int → Option Int
 | 0,_ => none
 | nf + 1,n143 =>
  if n143 < (a0.length : Int) then
   (at? a0 n143).bind fun x154 =>
   if a1 = x154 then
    some n143
   else
    L_slices_Index_int_int_l1 a0 a1 nf (IntKind.wrap .i64 (n143 + 1))
  else
   some (-1)
def L_slices_Index_int_int (a0 : (List Int)) (a1 : Int) : Option Int :=
 L_slices_Index_int_int_l1 a0 a1 (((a0.length : Int) - 0).toNat + 1) 0

def L_slices_Contains_int_int (a0 : (List Int)) (a1 : Int) : Option Bool :=
 (L_slices_Index_int_int a0 a1).bind fun r7 =>
 some (decide (r7 ≥ 0))

def L_graph_Right_l1 (a0 : TGraph) : Nat → Int → NMap → Option (NMap ⊕ Bool)
 | 0,_,_ => none
 | nf + 1,n703,l704 =>
  if n703 < (a0.Links.length : Int) then
   (at? a0.Links n703).bind fun x733 =>
   ((L_graph_Graph_node a0 x733.a0).bind fun r745 =>
   if r745 = true then
    (L_graph_Graph_node a0 x733.a1).bind fun r748 =>
    if r748 = true then
     if x733.a0 = x733.a1 then
      some true
     else
      some (decide ((mGetI l704 [x733.a0,x733.a1]) > 0))
    else
     some true
   else
    some true).bind fun b742 =>
   if b742 = true then
    some (.inr false)
   else
    L_graph_Right_l1 a0 nf (IntKind.wrap .i64 (n703 + 1)) (mPutI l704 [x733.a0,x733.a1] (IntKind.wrap .i64 ((mGetI l704 [x733.a0,x733.a1]) + 1)))
  else
   some (.inl l704)
def L_graph_Right_l2 (a0 : TGraph) (l602 : NMap) : Nat → Int → Option (Unit ⊕ Bool)
 | 0,_ => none
 | nf + 1,n859 =>
  if n859 < (a0.Links.length : Int) then
   (at? a0.Links n859).bind fun x874 =>
   (L_graph_turned x874).bind fun r878 =>
   if (mGetI l602 [r878.a0,r878.a1]) = 0 then
    some (.inr false)
   else
    L_graph_Right_l2 a0 l602 nf (IntKind.wrap .i64 (n859 + 1))
  else
   some (.inl ())
def L_graph_Right (a0 : TGraph) : Option Bool :=
 (if a0.N < 1 then
  some true
 else
  if a0.N > 6 then
   some true
  else
   some (decide ((a0.Links.length : Int) > 30))).bind fun b447 =>
 if b447 = true then
  some false
 else
  ((L_graph_Right_l1 a0 (((a0.Links.length : Int) - 0).toNat + 1) 0 ([] : NMap)) : Option (NMap ⊕ Bool)).bind fun e603 => match e603 with
   | (.inl l602) =>
    ((L_graph_Right_l2 a0 l602 (((a0.Links.length : Int) - 0).toNat + 1) 0) : Option (Unit ⊕ Bool)).bind fun e816 => match e816 with
     | (.inl _) =>
      (L_graph_Dist a0 0).bind fun r885 =>
      (L_slices_Contains_int_int r885 (-1)).bind fun r887 =>
      some (!(r887))
     | (.inr q889) => some q889
   | (.inr q890) => some q890

def L_table_place_may_1 (a0 : TPlace) : Option (Bool × TPlace) :=
 (if a0.State.Mode ≥ 0 then
  some (decide (a0.State.Mode < 3))
 else
  some false).bind fun b7 =>
 some (b7,a0)

def L_graph_Find_l1 (a0 : TGraph) (a1 : Int) (a2 : Int) : Nat → Int → Option Int
 | 0,_ => none
 | nf + 1,n187 =>
  if n187 < (a0.Links.length : Int) then
   (at? a0.Links n187).bind fun x200 =>
   if x200 = (A2I.mk a1 a2) then
    some n187
   else
    L_graph_Find_l1 a0 a1 a2 nf (IntKind.wrap .i64 (n187 + 1))
  else
   some (-1)
def L_graph_Find (a0 : TGraph) (a1 : Int) (a2 : Int) : Option Int :=
 L_graph_Find_l1 a0 a1 a2 (((a0.Links.length : Int) - 0).toNat + 1) 0

def L_table_place_in (a0 : TPlace) (a1 : Int) : Option Bool :=
 (L_graph_Find a0.g a1 a0.n).bind fun r7 =>
 some (decide (r7 ≥ 0))

def L_table_place_waits_l1 (a0 : TPlace) : Nat → Int → Option Bool
 | 0,_ => none
 | nf + 1,n429 =>
  if n429 < (a0.State.Waits.length : Int) then
   (at? a0.State.Waits n429).bind fun x455 =>
   ((L_table_place_in a0 x455).bind fun r466 =>
   if r466 = true then
    if n429 > 0 then
     (at? a0.State.Waits (IntKind.wrap .i64 (n429 - 1))).bind fun x470 =>
     some (decide (x470 ≥ x455))
    else
     some false
   else
    some true).bind fun b463 =>
   if b463 = true then
    some false
   else
    L_table_place_waits_l1 a0 nf (IntKind.wrap .i64 (n429 + 1))
  else
   some (decide ((a0.State.Waits.length : Int) > 0))
def L_table_place_waits (a0 : TPlace) : Option Bool :=
 if a0.State.Mode = 2 then
  L_table_place_waits_l1 a0 (((a0.State.Waits.length : Int) - 0).toNat + 1) 0
 else
  some (decide ((a0.State.Waits.length : Int) = 0))

def L_table_place_state (a0 : TPlace) (a1 : Int) : Option Bool :=
 (if a1 ≥ 0 then
  some (decide (a1 < (a0.node.States.length : Int)))
 else
  some false).bind fun b7 =>
 some b7

def L_table_letter (a0 : Int) : Option Bool :=
 (if a0 ≥ 0 then
  some (decide (a0 < 4))
 else
  some false).bind fun b7 =>
 some b7

def L_table_place_picks_1 (a0 : TSend) (a1 : TPlace) : Option (Bool × TPlace) :=
 ((L_graph_Find a1.g a1.n a0.To).bind fun r22 =>
 if r22 < 0 then
  some true
 else
  (L_table_letter a0.Letter).bind fun r25 =>
  some (!(r25))).bind fun b19 =>
 some (b19,a1)

def L_slices_IndexFunc_table_Send_table_Send_l1 (a0 : (List TSend)) : Nat → Int → TPlace → Option (Int × TPlace)
 | 0,_,_ => none
 | nf + 1,n239,m240 =>
  if n239 < (a0.length : Int) then
   (at? a0 n239).bind fun x257 =>
   (L_table_place_picks_1 x257 m240).bind fun r259 =>
   if r259.1 = true then
    some (n239,r259.2)
   else
    L_slices_IndexFunc_table_Send_table_Send_l1 a0 nf (IntKind.wrap .i64 (n239 + 1)) r259.2
  else
   some ((-1),m240)
def L_slices_IndexFunc_table_Send_table_Send (a0 : (List TSend)) (a1 : TPlace) : Option (Int × TPlace) :=
 L_slices_IndexFunc_table_Send_table_Send_l1 a0 (((a0.length : Int) - 0).toNat + 1) 0 a1

def L_slices_ContainsFunc_table_Send_table_Send (a0 : (List TSend)) (a1 : TPlace) : Option (Bool × TPlace) :=
 (L_slices_IndexFunc_table_Send_table_Send a0 a1).bind fun r7 =>
 some (decide (r7.1 ≥ 0),r7.2)

def L_table_place_picks_l1 (a0 : TPlace) : Nat → Int → TPlace → Option Bool
 | 0,_,_ => none
 | nf + 1,n520,m521 =>
  if n520 < (a0.State.Picks.length : Int) then
   (at? a0.State.Picks n520).bind fun x548 =>
   ((L_table_place_state m521 x548.Next).bind fun r560 =>
   if r560 = true then
    if (x548.Sends.length : Int) > 4 then
     some (true,m521)
    else
     (L_slices_ContainsFunc_table_Send_table_Send x548.Sends m521).bind fun r564 =>
     some (r564.1,r564.2)
   else
    some (true,m521)).bind fun ⟨b556,m557⟩ =>
   if b556 = true then
    some false
   else
    L_table_place_picks_l1 a0 nf (IntKind.wrap .i64 (n520 + 1)) m557
  else
   some true
def L_table_place_picks (a0 : TPlace) : Option Bool :=
 (if (a0.State.Picks.length : Int) > 4 then
  some true
 else
  if a0.State.Mode = 1 then
   some false
  else
   some (decide ((a0.State.Picks.length : Int) > 0))).bind fun b287 =>
 if b287 = true then
  some false
 else
  L_table_place_picks_l1 a0 (((a0.State.Picks.length : Int) - 0).toNat + 1) 0 a0

def L_table_place_takes_1 (a0 : TTake) (a1 : TTake) : Option (Bool × TTake) :=
 (if a0.From = a1.From then
  some (decide (a0.Letter = a1.Letter))
 else
  some false).bind fun b7 =>
 some (b7,a1)

def L_slices_IndexFunc_table_Take_table_Take_l1 (a0 : (List TTake)) : Nat → Int → TTake → Option (Int × TTake)
 | 0,_,_ => none
 | nf + 1,n239,m240 =>
  if n239 < (a0.length : Int) then
   (at? a0 n239).bind fun x257 =>
   (L_table_place_takes_1 x257 m240).bind fun r259 =>
   if r259.1 = true then
    some (n239,r259.2)
   else
    L_slices_IndexFunc_table_Take_table_Take_l1 a0 nf (IntKind.wrap .i64 (n239 + 1)) r259.2
  else
   some ((-1),m240)
def L_slices_IndexFunc_table_Take_table_Take (a0 : (List TTake)) (a1 : TTake) : Option (Int × TTake) :=
 L_slices_IndexFunc_table_Take_table_Take_l1 a0 (((a0.length : Int) - 0).toNat + 1) 0 a1

def L_slices_ContainsFunc_table_Take_table_Take (a0 : (List TTake)) (a1 : TTake) : Option (Bool × TTake) :=
 (L_slices_IndexFunc_table_Take_table_Take a0 a1).bind fun r7 =>
 some (decide (r7.1 ≥ 0),r7.2)

def L_table_place_takes_l1 (a0 : TPlace) : Nat → Int → Option Bool
 | 0,_ => none
 | nf + 1,n869 =>
  if n869 < (a0.State.Takes.length : Int) then
   (at? a0.State.Takes n869).bind fun x913 =>
   ((L_table_place_in a0 x913.From).bind fun r933 =>
   if r933 = true then
    (L_table_letter x913.Letter).bind fun r936 =>
    if r936 = true then
     (L_table_place_state a0 x913.Next).bind fun r939 =>
     if r939 = true then
      if 0 ≤ n869 then
       if n869 ≤ (a0.State.Takes.length : Int) then
        (some (a0.State.Takes.take n869.toNat)).bind fun v944 =>
        (L_slices_ContainsFunc_table_Take_table_Take v944 x913).bind fun r946 =>
        some r946.1
       else none
      else none
     else
      some true
    else
     some true
   else
    some true).bind fun b930 =>
   if b930 = true then
    some false
   else
    L_table_place_takes_l1 a0 nf (IntKind.wrap .i64 (n869 + 1))
  else
   some true
def L_table_place_takes (a0 : TPlace) : Option Bool :=
 L_table_place_takes_l1 a0 (((a0.State.Takes.length : Int) - 0).toNat + 1) 0

def L_table_place_stays_l2 (a0 : TPlace) (x3110 : TTake) : Nat → Int → Option (Unit ⊕ Bool)
 | 0,_ => none
 | nf + 1,n3327 =>
  if n3327 < (a0.State.Waits.length : Int) then
   (at? a0.State.Waits n3327).bind fun x3353 =>
   (at? a0.node.States x3110.Next).bind fun x3357 =>
   (if x3353 = x3110.From then
    some false
   else
    if x3357.Mode = 2 then
     (L_slices_Contains_int_int x3357.Waits x3353).bind fun r3368 =>
     some (!(r3368))
    else
     some true).bind fun b3363 =>
   if b3363 = true then
    some (.inr false)
   else
    L_table_place_stays_l2 a0 x3110 nf (IntKind.wrap .i64 (n3327 + 1))
  else
   some (.inl ())
def L_table_place_stays_l1 (a0 : TPlace) : Nat → Int → Option Bool
 | 0,_ => none
 | nf + 1,n2970 =>
  if n2970 < (a0.State.Takes.length : Int) then
   (((at? a0.State.Takes n2970).bind fun x3110 =>
   ((L_table_place_stays_l2 a0 x3110 (((a0.State.Waits.length : Int) - 0).toNat + 1) 0) : Option (Unit ⊕ Bool)).bind fun e3240 => match e3240 with
    | (.inl _) =>
     some (.inl ())
    | (.inr q3371) => some (.inr q3371)) : Option (Unit ⊕ Bool)).bind fun e3106 => match e3106 with
    | (.inl _) =>
     L_table_place_stays_l1 a0 nf (IntKind.wrap .i64 (n2970 + 1))
    | (.inr q3372) => some q3372
  else
   some true
def L_table_place_stays (a0 : TPlace) : Option Bool :=
 L_table_place_stays_l1 a0 (((a0.State.Takes.length : Int) - 0).toNat + 1) 0

def L_table_place_may (a0 : TPlace) : Option Bool :=
 (L_table_place_may_1 a0).bind fun r161 =>
 if r161.1 = true then
  (L_table_place_waits a0).bind fun r171 =>
  if r171 = true then
   (L_table_place_picks a0).bind fun r181 =>
   if r181 = true then
    (L_table_place_takes a0).bind fun r191 =>
    if r191 = true then
     (L_table_place_stays a0).bind fun r201 =>
     if r201 = true then
      some true
     else
      some false
    else
     some false
   else
    some false
  else
   some false
 else
  some false

def L_table_Right_l2 (a1 : TGraph) (n1782 : Int) (x1867 : TNode) : Nat → Int → Option (Unit ⊕ Bool)
 | 0,_ => none
 | nf + 1,n1985 =>
  if n1985 < (x1867.States.length : Int) then
   (at? x1867.States n1985).bind fun x2000 =>
   (L_table_place_may (TPlace.mk x2000 n1782 x1867 a1)).bind fun r2004 =>
   if r2004 = true then
    L_table_Right_l2 a1 n1782 x1867 nf (IntKind.wrap .i64 (n1985 + 1))
   else
    some (.inr false)
  else
   some (.inl ())
def L_table_Right_l1 (a0 : (List TNode)) (a1 : TGraph) : Nat → Int → Option Bool
 | 0,_ => none
 | nf + 1,n1782 =>
  if n1782 < (a0.length : Int) then
   (((at? a0 n1782).bind fun x1867 =>
   (if (x1867.States.length : Int) < 1 then
    some true
   else
    if (x1867.States.length : Int) > 8 then
     some true
    else
     if x1867.Start < 0 then
      some true
     else
      some (decide (x1867.Start ≥ (x1867.States.length : Int)))).bind fun b1872 =>
   if b1872 = true then
    some (.inr false)
   else
    ((L_table_Right_l2 a1 n1782 x1867 (((x1867.States.length : Int) - 0).toNat + 1) 0) : Option (Unit ⊕ Bool)).bind fun e1942 => match e1942 with
     | (.inl _) =>
      some (.inl ())
     | (.inr q2007) => some (.inr q2007)) : Option (Unit ⊕ Bool)).bind fun e1863 => match e1863 with
    | (.inl _) =>
     L_table_Right_l1 a0 a1 nf (IntKind.wrap .i64 (n1782 + 1))
    | (.inr q2008) => some q2008
  else
   some true
def L_table_Right (a0 : (List TNode)) (a1 : TGraph) : Option Bool :=
 ((L_graph_Right a1).bind fun r979 =>
 if r979 = true then
  some (!(decide ((a0.length : Int) = a1.N)))
 else
  some true).bind fun b976 =>
 if b976 = true then
  some false
 else
  L_table_Right_l1 a0 a1 (((a0.length : Int) - 0).toNat + 1) 0

def L_plain_may_l1 (a0 : (List TMsg)) (a1 : Int) : Nat → Int → Int → Option Bool
 | 0,_,_ => none
 | nf + 1,n375,n376 =>
  if n376 < (a0.length : Int) then
   (at? a0 n376).bind fun x397 =>
   (if x397.Seq ≤ n375 then
    some true
   else
    if x397.Seq > a1 then
     some true
    else
     if x397.Letter < 0 then
      some true
     else
      some (decide (x397.Letter ≥ 4))).bind fun b402 =>
   if b402 = true then
    some false
   else
    L_plain_may_l1 a0 a1 nf x397.Seq (IntKind.wrap .i64 (n376 + 1))
  else
   (if a1 ≥ 0 then
    some (decide (a1 ≤ 500))
   else
    some false).bind fun b411 =>
   some b411
def L_plain_may (a0 : (List TMsg)) (a1 : Int) : Option Bool :=
 L_plain_may_l1 a0 a1 (((a0.length : Int) - 0).toNat + 1) 0 0

def L_plain_Right_l1 (a0 : TApp) (a1 : TConf) : Nat → Int → Option (Unit ⊕ Bool)
 | 0,_ => none
 | nf + 1,n548 =>
  if n548 < (a1.States.length : Int) then
   (at? a1.States n548).bind fun x568 =>
   (if x568 < 0 then
    some true
   else
    (at? a0.T n548).bind fun x577 =>
    some (decide (x568 ≥ (x577.States.length : Int)))).bind fun b573 =>
   if b573 = true then
    some (.inr false)
   else
    L_plain_Right_l1 a0 a1 nf (IntKind.wrap .i64 (n548 + 1))
  else
   some (.inl ())
def L_plain_Right_l2 (a1 : TConf) : Nat → Int → Option Bool
 | 0,_ => none
 | nf + 1,n723 =>
  if n723 < (a1.Links.length : Int) then
   (at? a1.Links n723).bind fun x742 =>
   (at? a1.Sent n723).bind fun x748 =>
   (L_plain_may x742 x748).bind fun r750 =>
   if r750 = true then
    L_plain_Right_l2 a1 nf (IntKind.wrap .i64 (n723 + 1))
   else
    some false
  else
   some true
def L_plain_Right (a0 : TApp) (a1 : TConf) : Option Bool :=
 ((L_table_Right a0.T a0.G).bind fun r386 =>
 if r386 = true then
  if (a1.States.length : Int) = a0.G.N then
   if (a1.Links.length : Int) = (a0.G.Links.length : Int) then
    some (!(decide ((a1.Sent.length : Int) = (a0.G.Links.length : Int))))
   else
    some true
  else
   some true
 else
  some true).bind fun b383 =>
 if b383 = true then
  some false
 else
  ((L_plain_Right_l1 a0 a1 (((a1.States.length : Int) - 0).toNat + 1) 0) : Option (Unit ⊕ Bool)).bind fun e485 => match e485 with
   | (.inl _) =>
    L_plain_Right_l2 a1 (((a1.Links.length : Int) - 0).toNat + 1) 0
   | (.inr q753) => some q753

def L_cut_sides_l1 (v78 : List Int) : Nat → Int → (List Int) → Option (List Int)
 | 0,_,_ => none
 | nf + 1,n116,l117 =>
  if n116 < (v78.length : Int) then
   (at? l117 n116).bind fun x123 =>
   L_cut_sides_l1 v78 nf (IntKind.wrap .i64 (n116 + 1)) (l117.set n116.toNat (max x123 0))
  else
   some l117
def L_cut_sides (a0 : TGraph) (a1 : (List Int)) : Option (List Int) :=
 if 0 ≤ a0.N then
  if 8 * a0.N.toNat ≤ 140737488355328 then
   if a0.N.toNat ≤ 140737488355328 then
    (some (List.replicate a0.N.toNat 0)).bind fun v73 =>
    (some ((a1.take v73.length) ++ v73.drop (a1.take v73.length).length)).bind fun v78 =>
    L_cut_sides_l1 v78 (((v78.length : Int) - 0).toNat + 1) 0 v78
   else none
  else none
 else none

def L_cut_Where (a0 : TGraph) (a1 : TStep) : Option Int :=
 (if a1.Kind = 0 then
  if a1.Node ≥ 0 then
   some (decide (a1.Node < a0.N))
  else
   some false
 else
  some false).bind fun b63 =>
 if b63 = true then
  some a1.Node
 else
  (if a1.Kind = 1 then
   if a1.Link ≥ 0 then
    some (decide (a1.Link < (a0.Links.length : Int)))
   else
    some false
  else
   some false).bind fun b71 =>
  if b71 = true then
   (at? a0.Links a1.Link).bind fun x79 =>
   some x79.a1
  else
   some (-1)

def L_cut_side (a0 : TStep) (a1 : TGraph) (a2 : (List Int)) : Option (Bool × (List Int)) :=
 (L_cut_Where a1 a0).bind fun r21 =>
 if r21 < 0 then
  some (false,a2)
 else
  (at? a2 r21).bind fun x27 =>
  (some (a2.set r21.toNat (IntKind.wrap .i64 (x27 - 1)))).bind fun v33 =>
  (at? v33 r21).bind fun x35 =>
  some (decide (x35 ≥ 0),v33)

def L_cut_Split_l1 (a0 : TGraph) (a1 : (List TStep)) : Nat → Int → (List TStep) → (List TStep) → (List Int) → Option ((List TStep) × (List TStep))
 | 0,_,_,_,_ => none
 | nf + 1,n344,l345,l346,l347 =>
  if n344 < (a1.length : Int) then
   ((at? a1 n344).bind fun x369 =>
   (L_cut_side x369 a0 l347).bind fun r373 =>
   if r373.1 = true then
    if (l345.length + 1) * 40 ≤ 140737488355328 then
     some ((l345 ++ [x369]),l346,r373.2)
    else none
   else
    if (l346.length + 1) * 40 ≤ 140737488355328 then
     some (l345,(l346 ++ [x369]),r373.2)
    else none).bind fun ⟨l362,l363,l364⟩ =>
   L_cut_Split_l1 a0 a1 nf (IntKind.wrap .i64 (n344 + 1)) l362 l363 l364
  else
   some (l345,l346)
def L_cut_Split (a0 : TGraph) (a1 : (List TStep)) (a2 : (List Int)) : Option ((List TStep) × (List TStep)) :=
 (L_cut_sides a0 a2).bind fun r193 =>
 L_cut_Split_l1 a0 a1 (((a1.length : Int) - 0).toNat + 1) 0 ([] : List TStep) ([] : List TStep) r193

def L_cut_Counts_l1 (a0 : TGraph) (a1 : (List TStep)) : Nat → Int → (List Int) → Option (List Int)
 | 0,_,_ => none
 | nf + 1,n343,l344 =>
  if n343 < (a1.length : Int) then
   ((at? a1 n343).bind fun x364 =>
   (L_cut_Where a0 x364).bind fun r368 =>
   if r368 ≥ 0 then
    (at? l344 r368).bind fun x371 =>
    some (l344.set r368.toNat (IntKind.wrap .i64 (x371 + 1)))
   else
    some l344).bind fun l359 =>
   L_cut_Counts_l1 a0 a1 nf (IntKind.wrap .i64 (n343 + 1)) l359
  else
   some l344
def L_cut_Counts (a0 : TGraph) (a1 : (List TStep)) : Option (List Int) :=
 if 0 ≤ a0.N then
  if 8 * a0.N.toNat ≤ 140737488355328 then
   if a0.N.toNat ≤ 140737488355328 then
    L_cut_Counts_l1 a0 a1 (((a1.length : Int) - 0).toNat + 1) 0 (List.replicate a0.N.toNat 0)
   else none
  else none
 else none

def L_ref01_Ints_l1 (a0 : (List Int)) (a1 : (List Int)) : Nat → Int → Option Bool
 | 0,_ => none
 | nf + 1,n235 =>
  if n235 < (a0.length : Int) then
   (at? a0 n235).bind fun x252 =>
   (at? a1 n235).bind fun x254 =>
   if x252 = x254 then
    L_ref01_Ints_l1 a0 a1 nf (IntKind.wrap .i64 (n235 + 1))
   else
    some false
  else
   some true
def L_ref01_Ints (a0 : (List Int)) (a1 : (List Int)) : Option Bool :=
 if (a0.length : Int) = (a1.length : Int) then
  L_ref01_Ints_l1 a0 a1 (((a0.length : Int) - 0).toNat + 1) 0
 else
  some false

def L_law05_Step (a0 : TStep) : Option TStep :=
 some a0

def L_law05_Steps_l1 (a0 : (List TStep)) : Nat → Int → (List TStep) → Option (List TStep)
 | 0,_,_ => none
 | nf + 1,n142,l143 =>
  if n142 < (a0.length : Int) then
   (at? a0 n142).bind fun x152 =>
   (L_law05_Step x152).bind fun r154 =>
   if (l143.length + 1) * 40 ≤ 140737488355328 then
    L_law05_Steps_l1 a0 nf (IntKind.wrap .i64 (n142 + 1)) (l143 ++ [r154])
   else none
  else
   some l143
def L_law05_Steps (a0 : (List TStep)) : Option (List TStep) :=
 L_law05_Steps_l1 a0 (((a0.length : Int) - 0).toNat + 1) 0 ([] : List TStep)

def L_ref05_Steps_l1 (a0 : (List TStep)) (a1 : (List TStep)) : Nat → Int → Option Bool
 | 0,_ => none
 | nf + 1,n279 =>
  if n279 < (a0.length : Int) then
   (at? a0 n279).bind fun x299 =>
   (at? a1 n279).bind fun x301 =>
   if x299 = x301 then
    L_ref05_Steps_l1 a0 a1 nf (IntKind.wrap .i64 (n279 + 1))
   else
    some false
  else
   some true
def L_ref05_Steps (a0 : (List TStep)) (a1 : (List TStep)) : Option Bool :=
 if (a0.length : Int) = (a1.length : Int) then
  L_ref05_Steps_l1 a0 a1 (((a0.length : Int) - 0).toNat + 1) 0
 else
  some false

def L_table_at (a0 : (List TNode)) (a1 : Int) (a2 : Int) : Option (TState × Bool) :=
 (if a1 < 0 then
  some true
 else
  if a1 ≥ (a0.length : Int) then
   some true
  else
   if a2 < 0 then
    some true
   else
    (at? a0 a1).bind fun x35 =>
    some (decide (a2 ≥ (x35.States.length : Int)))).bind fun b29 =>
 if b29 = true then
  some ((TState.mk 0 [] [] []),false)
 else
  (at? a0 a1).bind fun x43 =>
  (at? x43.States a2).bind fun x45 =>
  some (x45,true)

def L_table_Mode (a0 : (List TNode)) (a1 : Int) (a2 : Int) : Option Int :=
 (L_table_at a0 a1 a2).bind fun r7 =>
 some r7.1.Mode

def L_slices_Clone_table_Send_table_Send (a0 : (List TSend)) : Option (List TSend) :=
 if a0.length * 16 ≤ 140737488355328 then
  some a0
 else none

def L_table_Picked (a0 : (List TNode)) (a1 : Int) (a2 : Int) (a3 : Int) : Option (TPick × Bool) :=
 (L_table_at a0 a1 a2).bind fun r22 =>
 (if a3 < 0 then
  some true
 else
  some (decide (a3 ≥ (r22.1.Picks.length : Int)))).bind fun b25 =>
 if b25 = true then
  some ((TPick.mk 0 []),false)
 else
  (at? r22.1.Picks a3).bind fun x35 =>
  (L_slices_Clone_table_Send_table_Send x35.Sends).bind fun r37 =>
  some ((TPick.mk x35.Next r37),true)

def L_slices_Clone_api_Msg_api_Msg (a0 : (List TMsg)) : Option (List TMsg) :=
 if a0.length * 16 ≤ 140737488355328 then
  some a0
 else none

def L_plain_own_l1 (a0 : TConf) (v167 : List Int) (v173 : List Int) : Nat → Int → (List (List TMsg)) → Option TConf
 | 0,_,_ => none
 | nf + 1,n280,l281 =>
  if n280 < (a0.Links.length : Int) then
   (at? a0.Links n280).bind fun x295 =>
   (L_slices_Clone_api_Msg_api_Msg x295).bind fun r297 =>
   (at? l281 n280).bind fun x299 =>
   L_plain_own_l1 a0 v167 v173 nf (IntKind.wrap .i64 (n280 + 1)) (l281.set n280.toNat r297)
  else
   some (TConf.mk ((a0.States.take v167.length) ++ v167.drop (a0.States.take v167.length).length) l281 ((a0.Sent.take v173.length) ++ v173.drop (a0.Sent.take v173.length).length))
def L_plain_own (a0 : TConf) : Option TConf :=
 if 8 * a0.States.length ≤ 140737488355328 then
  if a0.States.length ≤ 140737488355328 then
   if 24 * a0.Links.length ≤ 140737488355328 then
    if a0.Links.length ≤ 140737488355328 then
     if 8 * a0.Sent.length ≤ 140737488355328 then
      if a0.Sent.length ≤ 140737488355328 then
       (some (List.replicate a0.States.length 0)).bind fun v167 =>
       (some (List.replicate a0.Sent.length 0)).bind fun v173 =>
       L_plain_own_l1 a0 v167 v173 (((a0.Links.length : Int) - 0).toNat + 1) 0 ((List.replicate a0.Links.length []) : List (List TMsg))
      else none
     else none
    else none
   else none
  else none
 else none

def L_plain_App_pick_l1 (a0 : TApp) (a2 : TStep) (r332 : TPick × Bool) (r338 : TConf) : Nat → Int → (List (List TMsg)) → (List Int) → Option (TConf × Int)
 | 0,_,_,_ => none
 | nf + 1,n573,l574,l575 =>
  if n573 < (r332.1.Sends.length : Int) then
   (at? r332.1.Sends n573).bind fun x602 =>
   (L_graph_Find a0.G a2.Node x602.To).bind fun r606 =>
   (at? l575 r606).bind fun x610 =>
   if x610 ≥ 500 then
    some ((TConf.mk [] [] []),2)
   else
    (at? l574 r606).bind fun x614 =>
    (some (l575.set r606.toNat (IntKind.wrap .i64 (x610 + 1)))).bind fun v616 =>
    (at? v616 r606).bind fun x618 =>
    if (x614.length + 1) * 16 ≤ 140737488355328 then
     L_plain_App_pick_l1 a0 a2 r332 r338 nf (IntKind.wrap .i64 (n573 + 1)) (l574.set r606.toNat (x614 ++ [(TMsg.mk x618 x602.Letter)])) v616
    else none
  else
   some ((TConf.mk (r338.States.set a2.Node.toNat r332.1.Next) l574 l575),0)
def L_plain_App_pick (a0 : TApp) (a1 : TConf) (a2 : TStep) : Option (TConf × Int) :=
 (if a2.Node < 0 then
  some true
 else
  some (decide (a2.Node ≥ a0.G.N))).bind fun b314 =>
 if b314 = true then
  some ((TConf.mk [] [] []),1)
 else
  (at? a1.States a2.Node).bind fun x322 =>
  (L_table_Mode a0.T a2.Node x322).bind fun r326 =>
  if r326 = 1 then
   (L_table_Picked a0.T a2.Node x322 a2.K).bind fun r332 =>
   if r332.2 = true then
    (L_plain_own a1).bind fun r338 =>
    (at? r338.States a2.Node).bind fun x342 =>
    L_plain_App_pick_l1 a0 a2 r332 r338 (((r332.1.Sends.length : Int) - 0).toNat + 1) 0 r338.Links r338.Sent
   else
    some ((TConf.mk [] [] []),3)
  else
   some ((TConf.mk [] [] []),8)

def L_plain_App_deliver_1 (a0 : TMsg) (a1 : TStep) : Option (Bool × TStep) :=
 some (decide (a0.Seq = a1.Seq),a1)

def L_slices_IndexFunc_api_Msg_api_Msg_l1 (a0 : (List TMsg)) : Nat → Int → TStep → Option (Int × TStep)
 | 0,_,_ => none
 | nf + 1,n239,m240 =>
  if n239 < (a0.length : Int) then
   (at? a0 n239).bind fun x257 =>
   (L_plain_App_deliver_1 x257 m240).bind fun r259 =>
   if r259.1 = true then
    some (n239,r259.2)
   else
    L_slices_IndexFunc_api_Msg_api_Msg_l1 a0 nf (IntKind.wrap .i64 (n239 + 1)) r259.2
  else
   some ((-1),m240)
def L_slices_IndexFunc_api_Msg_api_Msg (a0 : (List TMsg)) (a1 : TStep) : Option (Int × TStep) :=
 L_slices_IndexFunc_api_Msg_api_Msg_l1 a0 (((a0.length : Int) - 0).toNat + 1) 0 a1

def L_table_Taken_l1 (a2 : Int) (a3 : Int) (a4 : Int) (r146 : TState × Bool) : Nat → Int → Option Int
 | 0,_ => none
 | nf + 1,n261 =>
  if n261 < (r146.1.Takes.length : Int) then
   (at? r146.1.Takes n261).bind fun x277 =>
   (if x277.From = a3 then
    some (decide (x277.Letter = a4))
   else
    some false).bind fun b280 =>
   if b280 = true then
    some x277.Next
   else
    L_table_Taken_l1 a2 a3 a4 r146 nf (IntKind.wrap .i64 (n261 + 1))
  else
   some a2
def L_table_Taken (a0 : (List TNode)) (a1 : Int) (a2 : Int) (a3 : Int) (a4 : Int) : Option Int :=
 (L_table_at a0 a1 a2).bind fun r146 =>
 L_table_Taken_l1 a2 a3 a4 r146 (((r146.1.Takes.length : Int) - 0).toNat + 1) 0

def L_slices_Delete_api_Msg_api_Msg (a0 : (List TMsg)) (a1 : Int) (a2 : Int) : Option ((List TMsg)) :=
 if 0 ≤ a1 then
  if a1 ≤ a2 then
   if a2 ≤ (a0.length : Int) then
    if a1 = a2 then some a0
    else
     if (a1.toNat + (a0.length - a2.toNat)) * 16 ≤ 140737488355328 then some (a0.take a1.toNat ++ a0.drop a2.toNat)
     else none
   else none
  else none
 else none

def L_plain_App_deliver (a0 : TApp) (a1 : TConf) (a2 : TStep) : Option (TConf × Int) :=
 (if a2.Link < 0 then
  some true
 else
  some (decide (a2.Link ≥ (a0.G.Links.length : Int)))).bind fun b62 =>
 if b62 = true then
  some ((TConf.mk [] [] []),1)
 else
  (at? a1.Links a2.Link).bind fun x72 =>
  (L_slices_IndexFunc_api_Msg_api_Msg x72 a2).bind fun r74 =>
  (if r74.1 < 0 then
   some true
  else
   if a0.Fifo = true then
    some (decide (r74.1 > 0))
   else
    some false).bind fun b78 =>
  if b78 = true then
   some ((TConf.mk [] [] []),3)
  else
   (at? a0.G.Links r74.2.Link).bind fun x87 =>
   (L_plain_own a1).bind fun r91 =>
   (at? a1.States x87.a1).bind fun x103 =>
   (at? a1.Links r74.2.Link).bind fun x105 =>
   (at? x105 r74.1).bind fun x107 =>
   (L_table_Taken a0.T x87.a1 x103 x87.a0 x107.Letter).bind fun r109 =>
   (at? r91.States x87.a1).bind fun x111 =>
   (at? r91.Links r74.2.Link).bind fun x117 =>
   (L_slices_Delete_api_Msg_api_Msg x117 r74.1 (IntKind.wrap .i64 (r74.1 + 1))).bind fun r119 =>
   some ((TConf.mk (r91.States.set x87.a1.toNat r109) (r91.Links.set r74.2.Link.toNat r119) r91.Sent),0)

def L_plain_Apply (a0 : TApp) (a1 : TConf) (a2 : TStep) : Option (TConf × Int) :=
 if a2.Kind = 0 then
  (L_plain_App_pick a0 a1 a2).bind fun r18 =>
  some (r18.1,r18.2)
 else
  if a2.Kind = 1 then
   (L_plain_App_deliver a0 a1 a2).bind fun r23 =>
   some (r23.1,r23.2)
  else
   some ((TConf.mk [] [] []),1)

def L_cut_Good_l3 (n13347 : Int) (r12888 : Bool × (List Int)) (r12901 : TConf × Int) : Nat → Int → NMap → Option NMap
 | 0,_,_ => none
 | nf + 1,n13464,l13465 =>
  ((at? r12901.1.Sent n13347).bind fun x13473 =>
  if n13464 ≤ x13473 then
   some (!(r12888.1))
  else
   some false).bind fun b13470 =>
  if b13470 = true then
   L_cut_Good_l3 n13347 r12888 r12901 nf (IntKind.wrap .i64 (n13464 + 1)) (mPutI l13465 [n13347,n13464] (IntKind.wrap .i64 ((mGetI l13465 [n13347,n13464]) + 1)))
  else
   some l13465
def L_cut_Good_l2 (m12317 : TConf) (r12888 : Bool × (List Int)) (r12901 : TConf × Int) : Nat → Int → NMap → Option NMap
 | 0,_,_ => none
 | nf + 1,n13347,l13348 =>
  if n13347 < (r12901.1.Sent.length : Int) then
   ((at? m12317.Sent n13347).bind fun x13398 =>
   (L_cut_Good_l3 n13347 r12888 r12901 (1000) (IntKind.wrap .i64 (x13398 + 1)) l13348).bind fun l13437 =>
   some l13437).bind fun l13393 =>
   L_cut_Good_l2 m12317 r12888 r12901 nf (IntKind.wrap .i64 (n13347 + 1)) l13393
  else
   some l13348
def L_cut_Good_l1 (a0 : TApp) (a2 : (List TStep)) : Nat → Int → TConf → NMap → (List Int) → Option Bool
 | 0,_,_,_,_ => none
 | nf + 1,n12316,m12317,l12318,l12319 =>
  if n12316 < (a2.length : Int) then
   (((at? a2 n12316).bind fun x12884 =>
   (L_cut_side x12884 a0.G l12319).bind fun r12888 =>
   (if x12884.Kind = 1 then
    if r12888.1 = true then
     some (decide ((mGetI l12318 [x12884.Link,x12884.Seq]) > 0))
    else
     some false
   else
    some false).bind fun b12892 =>
   if b12892 = true then
    some (.inr false)
   else
    (L_plain_Apply a0 m12317 x12884).bind fun r12901 =>
    (L_cut_Good_l2 m12317 r12888 r12901 (((r12901.1.Sent.length : Int) - 0).toNat + 1) 0 l12318).bind fun l13168 =>
    some (.inl (r12901.1,l13168,r12888.2))) : Option ((TConf × NMap × (List Int)) ⊕ Bool)).bind fun e12880 => match e12880 with
    | (.inl (m12877,l12878,l12879)) =>
     L_cut_Good_l1 a0 a2 nf (IntKind.wrap .i64 (n12316 + 1)) m12877 l12878 l12879
    | (.inr q13478) => some q13478
  else
   some true
def L_cut_Good (a0 : TApp) (a1 : TConf) (a2 : (List TStep)) (a3 : (List Int)) : Option Bool :=
 (L_cut_sides a0.G a3).bind fun r6722 =>
 L_cut_Good_l1 a0 a2 (((a2.length : Int) - 0).toNat + 1) 0 a1 ([] : NMap) r6722

def L_law17_fixed : Option Bool :=
 (L_law05_Two).bind fun r158 =>
 (L_plain_Start r158).bind fun r162 =>
 (L_plain_Right r158 r162).bind fun r166 =>
 if r166 = true then
  (L_cut_Split r158.G (([(TStep.mk 0 0 0 0 0)] ++ [(TStep.mk 1 0 0 0 1)]) ++ [(TStep.mk 1 0 0 0 2)]) ([1] ++ [1])).bind fun r172 =>
  (L_cut_Split r158.G (([(TStep.mk 0 0 0 0 0)] ++ [(TStep.mk 1 0 0 0 1)]) ++ [(TStep.mk 1 0 0 0 2)]) [(-1)]).bind fun r176 =>
  (some (([(TStep.mk 0 0 0 0 0)] ++ [(TStep.mk 1 0 0 0 1)]) ++ [(TStep.mk 1 0 0 0 2)])).bind fun v243 =>
  (at? v243 0).bind fun x245 =>
  (L_cut_Where r158.G x245).bind fun r247 =>
  if r247 = 0 then
   (at? v243 1).bind fun x250 =>
   (L_cut_Where r158.G x250).bind fun r252 =>
   if r252 = 1 then
    (L_cut_Where r158.G (TStep.mk 0 2 0 0 0)).bind fun r255 =>
    if r255 = (-1) then
     (L_cut_Where r158.G (TStep.mk 1 0 0 2 0)).bind fun r258 =>
     if r258 = (-1) then
      (L_cut_Where r158.G (TStep.mk 5 0 0 0 0)).bind fun r261 =>
      if r261 = (-1) then
       (L_cut_Counts r158.G v243).bind fun r264 =>
       (L_ref01_Ints r264 ([1] ++ [2])).bind fun r266 =>
       if r266 = true then
        (L_law05_Steps r172.1).bind fun r269 =>
        if 0 ≤ 2 then
         if 2 ≤ (v243.length : Int) then
          (some (v243.take 2)).bind fun v273 =>
          (L_law05_Steps v273).bind fun r275 =>
          (L_ref05_Steps r269 r275).bind fun r277 =>
          if r277 = true then
           (L_law05_Steps r172.2).bind fun r280 =>
           (some (v243.drop 2)).bind fun v282 =>
           (L_law05_Steps v282).bind fun r284 =>
           (L_ref05_Steps r280 r284).bind fun r286 =>
           if r286 = true then
            if (r176.1.length : Int) = 0 then
             (L_law05_Steps r176.2).bind fun r290 =>
             (L_law05_Steps v243).bind fun r292 =>
             (L_ref05_Steps r290 r292).bind fun r294 =>
             if r294 = true then
              (L_cut_Good r158 r162 v243 ([1] ++ [1])).bind fun r297 =>
              if r297 = true then
               (L_cut_Good r158 r162 v243 ([0] ++ [1])).bind fun r300 =>
               if r300 = true then none
               else
                (L_cut_Good r158 r162 v243 [1]).bind fun r308 =>
                if r308 = true then
                 (L_cut_Good r158 r162 v243 []).bind fun r311 =>
                 some r311
                else none
              else none
             else none
            else none
           else none
          else none
         else none
        else none
       else none
      else none
     else none
    else none
   else none
  else none
 else none

def L_law05_Ref (a0 : TConf) : Option TConf :=
 some a0

def L_ref04_At (a0 : (List TNode)) (a1 : Int) (a2 : Int) : Option TState :=
 (if a1 < 0 then
  some true
 else
  if a1 ≥ (a0.length : Int) then
   some true
  else
   if a2 < 0 then
    some true
   else
    (at? a0 a1).bind fun x35 =>
    some (decide (a2 ≥ (x35.States.length : Int)))).bind fun b29 =>
 if b29 = true then
  some (TState.mk 0 [] [] [])
 else
  (at? a0 a1).bind fun x43 =>
  (at? x43.States a2).bind fun x45 =>
  some x45

def L_ref04_Picked (a0 : (List TNode)) (a1 : Int) (a2 : Int) (a3 : Int) : Option (TPick × Bool) :=
 (L_ref04_At a0 a1 a2).bind fun r18 =>
 (if a3 < 0 then
  some true
 else
  some (decide (a3 ≥ (r18.Picks.length : Int)))).bind fun b21 =>
 if b21 = true then
  some ((TPick.mk 0 []),false)
 else
  (at? r18.Picks a3).bind fun x29 =>
  some (x29,true)

def L_ref05_Own_l1 (a0 : TConf) : Nat → Int → (List (List TMsg)) → Option TConf
 | 0,_,_ => none
 | nf + 1,n136,l137 =>
  if n136 < (a0.Links.length : Int) then
   (at? a0.Links n136).bind fun x145 =>
   if x145.length * 16 ≤ 140737488355328 then
    if (l137.length + 1) * 24 ≤ 140737488355328 then
     L_ref05_Own_l1 a0 nf (IntKind.wrap .i64 (n136 + 1)) (l137 ++ [x145])
    else none
   else none
  else
   some (TConf.mk a0.States l137 a0.Sent)
def L_ref05_Own (a0 : TConf) : Option TConf :=
 if a0.States.length * 8 ≤ 140737488355328 then
  if a0.Sent.length * 8 ≤ 140737488355328 then
   L_ref05_Own_l1 a0 (((a0.Links.length : Int) - 0).toNat + 1) 0 ([] : List (List TMsg))
  else none
 else none

def L_ref05_pick_l1 (a0 : TApp) (a2 : TStep) (r404 : TPick × Bool) (r410 : TConf) : Nat → Int → (List (List TMsg)) → (List Int) → Option (TConf × Int)
 | 0,_,_,_ => none
 | nf + 1,n705,l706,l707 =>
  if n705 < (r404.1.Sends.length : Int) then
   (at? r404.1.Sends n705).bind fun x742 =>
   (L_ref03_Find a0.G a2.Node x742.To).bind fun r744 =>
   (at? l707 r744).bind fun x748 =>
   (at? l706 r744).bind fun x757 =>
   (some (l707.set r744.toNat (IntKind.wrap .i64 (x748 + 1)))).bind fun v759 =>
   (at? v759 r744).bind fun x761 =>
   if (x757.length + 1) * 16 ≤ 140737488355328 then
    if x761 > 500 then
     some ((TConf.mk [] [] []),2)
    else
     L_ref05_pick_l1 a0 a2 r404 r410 nf (IntKind.wrap .i64 (n705 + 1)) (l706.set r744.toNat (x757 ++ [(TMsg.mk x761 x742.Letter)])) v759
   else none
  else
   some ((TConf.mk (r410.States.set a2.Node.toNat r404.1.Next) l706 l707),0)
def L_ref05_pick (a0 : TApp) (a1 : TConf) (a2 : TStep) : Option (TConf × Int) :=
 (if a2.Node < 0 then
  some true
 else
  some (decide (a2.Node ≥ a0.G.N))).bind fun b386 =>
 if b386 = true then
  some ((TConf.mk [] [] []),1)
 else
  (at? a1.States a2.Node).bind fun x396 =>
  (L_ref04_At a0.T a2.Node x396).bind fun r398 =>
  if r398.Mode = 1 then
   (L_ref04_Picked a0.T a2.Node x396 a2.K).bind fun r404 =>
   if r404.2 = true then
    (L_ref05_Own a1).bind fun r410 =>
    (at? r410.States a2.Node).bind fun x414 =>
    L_ref05_pick_l1 a0 a2 r404 r410 (((r404.1.Sends.length : Int) - 0).toNat + 1) 0 r410.Links r410.Sent
   else
    some ((TConf.mk [] [] []),3)
  else
   some ((TConf.mk [] [] []),8)

def L_ref05_Place_l1 (a0 : (List TMsg)) (a1 : Int) : Nat → Int → Option Int
 | 0,_ => none
 | nf + 1,n143 =>
  if n143 < (a0.length : Int) then
   (at? a0 n143).bind fun x154 =>
   if x154.Seq = a1 then
    some n143
   else
    L_ref05_Place_l1 a0 a1 nf (IntKind.wrap .i64 (n143 + 1))
  else
   some (-1)
def L_ref05_Place (a0 : (List TMsg)) (a1 : Int) : Option Int :=
 L_ref05_Place_l1 a0 a1 (((a0.length : Int) - 0).toNat + 1) 0

def L_ref04_Taken_l1 (a2 : Int) (a3 : Int) (a4 : Int) (r194 : TState) : Nat → Int → Option Int
 | 0,_ => none
 | nf + 1,n349 =>
  if n349 < (r194.Takes.length : Int) then
   ((at? r194.Takes n349).bind fun x373 =>
   if x373.From = a3 then
    some (decide (x373.Letter = a4))
   else
    some false).bind fun b370 =>
   if b370 = true then
    (at? r194.Takes n349).bind fun x379 =>
    some x379.Next
   else
    L_ref04_Taken_l1 a2 a3 a4 r194 nf (IntKind.wrap .i64 (n349 + 1))
  else
   some a2
def L_ref04_Taken (a0 : (List TNode)) (a1 : Int) (a2 : Int) (a3 : Int) (a4 : Int) : Option Int :=
 (L_ref04_At a0 a1 a2).bind fun r194 =>
 L_ref04_Taken_l1 a2 a3 a4 r194 (((r194.Takes.length : Int) - 0).toNat + 1) 0

def L_ref05_deliver (a0 : TApp) (a1 : TConf) (a2 : TStep) : Option (TConf × Int) :=
 (if a2.Link < 0 then
  some true
 else
  some (decide (a2.Link ≥ (a0.G.Links.length : Int)))).bind fun b74 =>
 if b74 = true then
  some ((TConf.mk [] [] []),1)
 else
  (at? a1.Links a2.Link).bind fun x82 =>
  (L_ref05_Place x82 a2.Seq).bind fun r86 =>
  (if r86 < 0 then
   some true
  else
   if r86 > 0 then
    some a0.Fifo
   else
    some false).bind fun b90 =>
  if b90 = true then
   some ((TConf.mk [] [] []),3)
  else
   (L_ref05_Own a1).bind fun r99 =>
   (at? a0.G.Links a2.Link).bind fun x103 =>
   (at? a1.States x103.a1).bind fun x113 =>
   (at? x82 r86).bind fun x115 =>
   (L_ref04_Taken a0.T x103.a1 x113 x103.a0 x115.Letter).bind fun r117 =>
   (at? r99.States x103.a1).bind fun x119 =>
   if 0 ≤ r86 then
    if r86 ≤ (x82.length : Int) then
     (some (x82.take r86.toNat)).bind fun v128 =>
     if v128.length * 16 ≤ 140737488355328 then
      if 0 ≤ (IntKind.wrap .i64 (r86 + 1)) then
       if (IntKind.wrap .i64 (r86 + 1)) ≤ (x82.length : Int) then
        (some (x82.drop ((IntKind.wrap .i64 (r86 + 1)).toNat))).bind fun v138 =>
        if (v128.length + v138.length) * 16 ≤ 140737488355328 then
         (at? r99.Links a2.Link).bind fun x143 =>
         some ((TConf.mk (r99.States.set x103.a1.toNat r117) (r99.Links.set a2.Link.toNat (v128 ++ v138)) r99.Sent),0)
        else none
       else none
      else none
     else none
    else none
   else none

def L_ref05_Apply (a0 : TApp) (a1 : TConf) (a2 : TStep) : Option (TConf × Int) :=
 if a2.Kind = 0 then
  (L_ref05_pick a0 a1 a2).bind fun r29 =>
  some (r29.1,r29.2)
 else
  if a2.Kind = 1 then
   (L_ref05_deliver a0 a1 a2).bind fun r39 =>
   some (r39.1,r39.2)
  else
   some ((TConf.mk [] [] []),1)

def L_law17_doable_l1 (a2 : (List TStep)) (a3 : Int) (r258 : TApp) : Nat → Int → TConf → (List TStep) → Option (List TStep)
 | 0,_,_,_ => none
 | nf + 1,n462,m463,l464 =>
  (if n462 < (a2.length : Int) then
   some (decide (n462 < a3))
  else
   some false).bind fun b467 =>
  if b467 = true then
   ((at? a2 n462).bind fun x497 =>
   (L_law05_Step x497).bind fun r499 =>
   (L_ref05_Apply r258 m463 r499).bind fun r501 =>
   if r501.2 = 0 then
    if (l464.length + 1) * 40 ≤ 140737488355328 then
     some (r501.1,(l464 ++ [x497]))
    else none
   else
    some (m463,l464)).bind fun ⟨m487,l488⟩ =>
   L_law17_doable_l1 a2 a3 r258 nf (IntKind.wrap .i64 (n462 + 1)) m487 l488
  else
   some l464
def L_law17_doable (a0 : TApp) (a1 : TConf) (a2 : (List TStep)) (a3 : Int) : Option (List TStep) :=
 (L_law05_App a0).bind fun r258 =>
 (L_law05_Ref a1).bind fun r260 =>
 L_law17_doable_l1 a2 a3 r258 (((a2.length : Int) - 0).toNat + 1) 0 r260 ([] : List TStep)

def L_ref17_Where (a0 : TGraph) (a1 : TStep) : Option Int :=
 (if a1.Kind = 0 then
  if a1.Node ≥ 0 then
   some (decide (a1.Node < a0.N))
  else
   some false
 else
  some false).bind fun b29 =>
 if b29 = true then
  some a1.Node
 else
  (if a1.Kind = 1 then
   if a1.Link ≥ 0 then
    some (decide (a1.Link < (a0.Links.length : Int)))
   else
    some false
  else
   some false).bind fun b38 =>
  if b38 = true then
   (at? a0.Links a1.Link).bind fun x51 =>
   some x51.a1
  else
   some (-1)

def L_ref17_Counts_l1 (a0 : TGraph) (a1 : (List TStep)) : Nat → Int → (List Int) → Option (List Int)
 | 0,_,_ => none
 | nf + 1,n343,l344 =>
  if n343 < (a1.length : Int) then
   ((at? a1 n343).bind fun x366 =>
   (L_ref17_Where a0 x366).bind fun r368 =>
   if r368 ≥ 0 then
    (at? l344 r368).bind fun x371 =>
    some (l344.set r368.toNat (IntKind.wrap .i64 (x371 + 1)))
   else
    some l344).bind fun l359 =>
   L_ref17_Counts_l1 a0 a1 nf (IntKind.wrap .i64 (n343 + 1)) l359
  else
   some l344
def L_ref17_Counts (a0 : TGraph) (a1 : (List TStep)) : Option (List Int) :=
 if 0 ≤ a0.N then
  if 8 * a0.N.toNat ≤ 140737488355328 then
   if a0.N.toNat ≤ 140737488355328 then
    L_ref17_Counts_l1 a0 a1 (((a1.length : Int) - 0).toNat + 1) 0 (List.replicate a0.N.toNat 0)
   else none
  else none
 else none

def L_law05_CutConf_l1 (a0 : TConf) (v182 : List Int) (v187 : List Int) : Nat → Int → (List (List TMsg)) → Option TConf
 | 0,_,_ => none
 | nf + 1,n311,l312 =>
  (if n311 < (a0.Links.length : Int) then
   some (decide (n311 < 40))
  else
   some false).bind fun b315 =>
  if b315 = true then
   (at? a0.Links n311).bind fun x329 =>
   if 0 ≤ (min (x329.length : Int) 30) then
    if (min (x329.length : Int) 30) ≤ (x329.length : Int) then
     (some (x329.take ((min (x329.length : Int) 30).toNat))).bind fun v333 =>
     if v333.length * 16 ≤ 140737488355328 then
      if (l312.length + 1) * 24 ≤ 140737488355328 then
       L_law05_CutConf_l1 a0 v182 v187 nf (IntKind.wrap .i64 (n311 + 1)) (l312 ++ [v333])
      else none
     else none
    else none
   else none
  else
   some (TConf.mk v182 l312 v187)
def L_law05_CutConf (a0 : TConf) : Option TConf :=
 if 0 ≤ (min (a0.States.length : Int) 10) then
  if (min (a0.States.length : Int) 10) ≤ (a0.States.length : Int) then
   (some (a0.States.take ((min (a0.States.length : Int) 10).toNat))).bind fun v182 =>
   if v182.length * 8 ≤ 140737488355328 then
    if 0 ≤ (min (a0.Sent.length : Int) 40) then
     if (min (a0.Sent.length : Int) 40) ≤ (a0.Sent.length : Int) then
      (some (a0.Sent.take ((min (a0.Sent.length : Int) 40).toNat))).bind fun v187 =>
      if v187.length * 8 ≤ 140737488355328 then
       L_law05_CutConf_l1 a0 v182 v187 (((a0.Links.length : Int) - 0).toNat + 1) 0 ([] : List (List TMsg))
      else none
     else none
    else none
   else none
  else none
 else none

def L_plain_Run_l1 (a0 : TApp) (a2 : (List TStep)) : Nat → Int → (List Int) → (List (List TMsg)) → (List Int) → Option (TConf × Int × Int)
 | 0,_,_,_,_ => none
 | nf + 1,n285,l286,l287,l288 =>
  if n285 < (a2.length : Int) then
   (at? a2 n285).bind fun x304 =>
   (L_plain_Apply a0 (TConf.mk l286 l287 l288) x304).bind fun r308 =>
   if r308.2 = 0 then
    L_plain_Run_l1 a0 a2 nf (IntKind.wrap .i64 (n285 + 1)) r308.1.States r308.1.Links r308.1.Sent
   else
    some ((TConf.mk l286 l287 l288),n285,r308.2)
  else
   some ((TConf.mk l286 l287 l288),(a2.length : Int),0)
def L_plain_Run (a0 : TApp) (a1 : TConf) (a2 : (List TStep)) : Option (TConf × Int × Int) :=
 (L_plain_own a1).bind fun r161 =>
 L_plain_Run_l1 a0 a2 (((a2.length : Int) - 0).toNat + 1) 0 r161.States r161.Links r161.Sent

def L_ref05_Msgs_l1 (a0 : (List TMsg)) (a1 : (List TMsg)) : Nat → Int → Option Bool
 | 0,_ => none
 | nf + 1,n279 =>
  if n279 < (a0.length : Int) then
   (at? a0 n279).bind fun x299 =>
   (at? a1 n279).bind fun x301 =>
   if x299 = x301 then
    L_ref05_Msgs_l1 a0 a1 nf (IntKind.wrap .i64 (n279 + 1))
   else
    some false
  else
   some true
def L_ref05_Msgs (a0 : (List TMsg)) (a1 : (List TMsg)) : Option Bool :=
 if (a0.length : Int) = (a1.length : Int) then
  L_ref05_Msgs_l1 a0 a1 (((a0.length : Int) - 0).toNat + 1) 0
 else
  some false

def L_ref05_Same_l1 (a0 : TConf) (a1 : TConf) : Nat → Int → Option Bool
 | 0,_ => none
 | nf + 1,n353 =>
  if n353 < (a0.Links.length : Int) then
   (at? a0.Links n353).bind fun x376 =>
   (at? a1.Links n353).bind fun x378 =>
   (L_ref05_Msgs x376 x378).bind fun r380 =>
   if r380 = true then
    L_ref05_Same_l1 a0 a1 nf (IntKind.wrap .i64 (n353 + 1))
   else
    some false
  else
   some true
def L_ref05_Same (a0 : TConf) (a1 : TConf) : Option Bool :=
 ((L_ref01_Ints a0.States a1.States).bind fun r202 =>
 if r202 = true then
  (L_ref01_Ints a0.Sent a1.Sent).bind fun r205 =>
  if r205 = true then
   some (!(decide ((a0.Links.length : Int) = (a1.Links.length : Int))))
  else
   some true
 else
  some true).bind fun b199 =>
 if b199 = true then
  some false
 else
  L_ref05_Same_l1 a0 a1 (((a0.Links.length : Int) - 0).toNat + 1) 0

end Go.Proofs.Ytabbejabdkkaiaa
