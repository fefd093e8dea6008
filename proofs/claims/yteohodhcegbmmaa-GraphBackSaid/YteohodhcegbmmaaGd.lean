/- Functions as typed ones, and that the program's functions answer as these do. No condition. -/
import Derived.Test.YteohodhcegbmmaaGa
set_option linter.unusedSimpArgs false
set_option linter.unusedVariables false
namespace Go.Proofs.Yteohodhcegbmmaa
open Go.RowKit

def L_law03_Cut (a0 : TGraph) : Option TGraph :=
  if 0 ≤ (min (a0.Links.length : Int) 40) then
    if (min (a0.Links.length : Int) 40) ≤ (a0.Links.length : Int) then
      (some (a0.Links.take ((min (a0.Links.length : Int) 40).toNat))).bind fun v15 =>
      some (TGraph.mk a0.N v15)
    else none
  else none

def L_graph_Graph_node (a0 : TGraph) (a1 : Int) : Option Bool :=
  (if a1 ≥ 0 then
    some (decide (a1 < a0.N))
  else
    some false).bind fun b7 =>
  some b7

def L_graph_turned (a0 : A2I) : Option A2I :=
  some (A2I.mk a0.a1 a0.a0)

def L_math_bits_Mul64 (a0 : Int) (a1 : Int) : Option (Int × Int) :=
  some ((IntKind.wrap .u64 ((IntKind.wrap .u64 ((IntKind.wrap .u64 ((a0.fdiv (2 ^ 32)) * (a1.fdiv (2 ^ 32)))) + ((IntKind.wrap .u64 ((IntKind.wrap .u64 ((a0.fdiv (2 ^ 32)) * (landK .u64 a1 4294967295))) + ((IntKind.wrap .u64 ((landK .u64 a0 4294967295) * (landK .u64 a1 4294967295))).fdiv (2 ^ 32)))).fdiv (2 ^ 32)))) + ((IntKind.wrap .u64 ((landK .u64 (IntKind.wrap .u64 ((IntKind.wrap .u64 ((a0.fdiv (2 ^ 32)) * (landK .u64 a1 4294967295))) + ((IntKind.wrap .u64 ((landK .u64 a0 4294967295) * (landK .u64 a1 4294967295))).fdiv (2 ^ 32)))) 4294967295) + (IntKind.wrap .u64 ((landK .u64 a0 4294967295) * (a1.fdiv (2 ^ 32)))))).fdiv (2 ^ 32)))), (IntKind.wrap .u64 (a0 * a1)))

def L_math_bits_Mul (a0 : Int) (a1 : Int) : Option (Int × Int) :=
  (L_math_bits_Mul64 a0 a1).bind fun r7 =>
  some (r7.1, r7.2)

def L_slices_Repeat_int_int_l1 : Nat → Int → (List Int) → Option (List Int)
  | 0, _, _ => none
  | nf + 1, n172, l173 =>
    if n172 < (l173.length : Int) then
      if 0 ≤ n172 then
        if n172 ≤ (l173.length : Int) then
          L_slices_Repeat_int_int_l1 nf (IntKind.wrap .i64 (n172 + ((Nat.min (l173.take n172.toNat).length (((l173.drop n172.toNat).take (l173.length - n172.toNat)).length) : Nat) : Int))) (l173.take n172.toNat ++ ((l173.take n172.toNat).take (((l173.drop n172.toNat).take (l173.length - n172.toNat)).length)) ++ l173.drop (n172.toNat + ((l173.take n172.toNat).take (((l173.drop n172.toNat).take (l173.length - n172.toNat)).length)).length))
        else none
      else none
    else
      some l173
def L_slices_Repeat_int_int (a0 : (List Int)) (a1 : Int) : Option (List Int) :=
  if a1 < 0 then
    none
  else
    (L_math_bits_Mul (IntKind.wrap .u64 (a0.length : Int)) (IntKind.wrap .u64 a1)).bind fun r97 =>
    (if r97.1 > 0 then
      some true
    else
      some (decide (r97.2 > 9223372036854775807))).bind fun b100 =>
    if b100 = true then
      none
    else
      if 0 ≤ (IntKind.wrap .i64 r97.2) then
        if 8 * ((IntKind.wrap .i64 r97.2).toNat) ≤ 140737488355328 then
          if ((IntKind.wrap .i64 r97.2).toNat) ≤ 140737488355328 then
            (some (List.replicate ((IntKind.wrap .i64 r97.2).toNat) 0)).bind fun v115 =>
            L_slices_Repeat_int_int_l1 (((((a0.take v115.length) ++ v115.drop (a0.take v115.length).length).length : Int) - ((Nat.min a0.length v115.length : Nat) : Int)).toNat + 1) ((Nat.min a0.length v115.length : Nat) : Int) ((a0.take v115.length) ++ v115.drop (a0.take v115.length).length)
          else none
        else none
      else none

def L_graph_of_v1_l1 (a0 : TGraph) (a1 : Int) : Nat → Int → (List Int) → Option (List Int)
  | 0, _, _ => none
  | nf + 1, n197, l198 =>
    if n197 < (a0.Links.length : Int) then
      ((at? a0.Links n197).bind fun x213 =>
      if x213.a0 = a1 then
        if (l198.length + 1) * 8 ≤ 140737488355328 then
          some (l198 ++ [n197])
        else none
      else
        some l198).bind fun l208 =>
      L_graph_of_v1_l1 a0 a1 nf (IntKind.wrap .i64 (n197 + 1)) l208
    else
      some l198
def L_graph_of_v1 (a0 : TGraph) (a1 : Int) : Option (List Int) :=
  L_graph_of_v1_l1 a0 a1 (((a0.Links.length : Int) - 0).toNat + 1) 0 ([] : List Int)

def L_graph_Out (a0 : TGraph) (a1 : Int) : Option (List Int) :=
  (L_graph_of_v1 a0 a1).bind fun r7 =>
  some r7

def L_graph_Dist_l2 (a0 : TGraph) (r1699 : (List Int)) (x1691 : Int) : Nat → Int → (List Int) → (List Int) → Option ((List Int) × (List Int))
  | 0, _, _, _ => none
  | nf + 1, n1924, l1925, l1926 =>
    if n1924 < (r1699.length : Int) then
      ((at? r1699 n1924).bind fun x1954 =>
      (at? a0.Links x1954).bind fun x1958 =>
      (at? l1925 x1958.a1).bind fun x1962 =>
      if x1962 < 0 then
        (at? l1925 x1691).bind fun x1967 =>
        if (l1926.length + 1) * 8 ≤ 140737488355328 then
          some ((l1925.set x1958.a1.toNat (IntKind.wrap .i64 (x1967 + 1))), (l1926 ++ [x1958.a1]))
        else none
      else
        some (l1925, l1926)).bind fun ⟨l1948, l1949⟩ =>
      L_graph_Dist_l2 a0 r1699 x1691 nf (IntKind.wrap .i64 (n1924 + 1)) l1948 l1949
    else
      some (l1925, l1926)
def L_graph_Dist_l1 (a0 : TGraph) : Nat → (List Int) → (List Int) → Option (List Int)
  | 0, _, _ => none
  | nf + 1, l1684, l1685 =>
    if (l1685.length : Int) = 0 then
      some l1684
    else
      (at? l1685 0).bind fun x1691 =>
      if 1 ≤ (l1685.length : Int) then
        (L_graph_Out a0 x1691).bind fun r1699 =>
        (L_graph_Dist_l2 a0 r1699 x1691 (((r1699.length : Int) - 0).toNat + 1) 0 l1684 (l1685.drop 1)).bind fun ⟨l1833, l1834⟩ =>
        L_graph_Dist_l1 a0 nf l1833 l1834
      else none
def L_graph_Dist (a0 : TGraph) (a1 : Int) : Option (List Int) :=
  (L_graph_Graph_node a0 a1).bind fun r920 =>
  if r920 = true then
    (L_slices_Repeat_int_int [(-1)] a0.N).bind fun r926 =>
    (at? r926 a1).bind fun x930 =>
    L_graph_Dist_l1 a0 (a0.N.toNat + 2) (r926.set a1.toNat 0) [a1]
  else
    some []

def L_slices_Index_int_int_l1 (a0 : (List Int)) (a1 : Int) : Nat → Int → Option Int
  | 0, _ => none
  | nf + 1, n143 =>
    if n143 < (a0.length : Int) then
      (at? a0 n143).bind fun x154 =>
      if a1 = x154 then
        some n143
      else
        L_slices_Index_int_int_l1 a0 a1 nf (IntKind.wrap .i64 (n143 + 1))
    else
      some (-1)
def L_slices_Index_int_int (a0 : (List Int)) (a1 : Int) : Option Int :=
  L_slices_Index_int_int_l1 a0 a1 (((a0.length : Int) - 0).toNat + 1) 0

def L_slices_Contains_int_int (a0 : (List Int)) (a1 : Int) : Option Bool :=
  (L_slices_Index_int_int a0 a1).bind fun r7 =>
  some (decide (r7 ≥ 0))

def L_graph_Right_l1 (a0 : TGraph) : Nat → Int → NMap → Option (NMap ⊕ Bool)
  | 0, _, _ => none
  | nf + 1, n703, l704 =>
    if n703 < (a0.Links.length : Int) then
      (at? a0.Links n703).bind fun x733 =>
      ((L_graph_Graph_node a0 x733.a0).bind fun r745 =>
      if r745 = true then
        (L_graph_Graph_node a0 x733.a1).bind fun r748 =>
        if r748 = true then
          if x733.a0 = x733.a1 then
            some true
          else
            some (decide ((mGetI l704 [x733.a0, x733.a1]) > 0))
        else
          some true
      else
        some true).bind fun b742 =>
      if b742 = true then
        some (.inr false)
      else
        L_graph_Right_l1 a0 nf (IntKind.wrap .i64 (n703 + 1)) (mPutI l704 [x733.a0, x733.a1] (IntKind.wrap .i64 ((mGetI l704 [x733.a0, x733.a1]) + 1)))
    else
      some (.inl l704)
def L_graph_Right_l2 (a0 : TGraph) (l602 : NMap) : Nat → Int → Option (Unit ⊕ Bool)
  | 0, _ => none
  | nf + 1, n859 =>
    if n859 < (a0.Links.length : Int) then
      (at? a0.Links n859).bind fun x874 =>
      (L_graph_turned x874).bind fun r878 =>
      if (mGetI l602 [r878.a0, r878.a1]) = 0 then
        some (.inr false)
      else
        L_graph_Right_l2 a0 l602 nf (IntKind.wrap .i64 (n859 + 1))
    else
      some (.inl ())
def L_graph_Right (a0 : TGraph) : Option Bool :=
  (if a0.N < 1 then
    some true
  else
    if a0.N > 6 then
      some true
    else
      some (decide ((a0.Links.length : Int) > 30))).bind fun b447 =>
  if b447 = true then
    some false
  else
    ((L_graph_Right_l1 a0 (((a0.Links.length : Int) - 0).toNat + 1) 0 ([] : NMap)) : Option (NMap ⊕ Bool)).bind fun e603 => match e603 with
      | (.inl l602) =>
        ((L_graph_Right_l2 a0 l602 (((a0.Links.length : Int) - 0).toNat + 1) 0) : Option (Unit ⊕ Bool)).bind fun e816 => match e816 with
          | (.inl _) =>
            (L_graph_Dist a0 0).bind fun r885 =>
            (L_slices_Contains_int_int r885 (-1)).bind fun r887 =>
            some (!(r887))
          | (.inr q889) => some q889
      | (.inr q890) => some q890

def L_law03_Ref (a0 : TGraph) : Option TGraph :=
  some a0

def L_ref03_Find_l1 (a0 : TGraph) (a1 : Int) (a2 : Int) : Nat → Int → Option Int
  | 0, _ => none
  | nf + 1, n253 =>
    if n253 < (a0.Links.length : Int) then
      ((at? a0.Links n253).bind fun x273 =>
      if x273.a0 = a1 then
        some (decide (x273.a1 = a2))
      else
        some false).bind fun b270 =>
      if b270 = true then
        some n253
      else
        L_ref03_Find_l1 a0 a1 a2 nf (IntKind.wrap .i64 (n253 + 1))
    else
      some (-1)
def L_ref03_Find (a0 : TGraph) (a1 : Int) (a2 : Int) : Option Int :=
  L_ref03_Find_l1 a0 a1 a2 (((a0.Links.length : Int) - 0).toNat + 1) 0

def L_ref03_Dist_l1 (a0 : TGraph) : Nat → Int → (List Int) → Option (List Int)
  | 0, _, _ => none
  | nf + 1, n1824, l1825 =>
    if n1824 < a0.N then
      if (l1825.length + 1) * 8 ≤ 140737488355328 then
        L_ref03_Dist_l1 a0 nf (IntKind.wrap .i64 (n1824 + 1)) (l1825 ++ [(-1)])
      else none
    else
      some l1825
def L_ref03_Dist_l3 (a0 : TGraph) (n3296 : Int) : Nat → Int → (List Int) → Option (List Int)
  | 0, _, _ => none
  | nf + 1, n3677, l3678 =>
    if n3677 < (a0.Links.length : Int) then
      ((at? a0.Links n3677).bind fun x3707 =>
      ((at? l3678 x3707.a0).bind fun x3717 =>
      if x3717 = n3296 then
        (at? l3678 x3707.a1).bind fun x3720 =>
        some (decide (x3720 < 0))
      else
        some false).bind fun b3714 =>
      if b3714 = true then
        (at? l3678 x3707.a1).bind fun x3723 =>
        some (l3678.set x3707.a1.toNat (IntKind.wrap .i64 (n3296 + 1)))
      else
        some l3678).bind fun l3702 =>
      L_ref03_Dist_l3 a0 n3296 nf (IntKind.wrap .i64 (n3677 + 1)) l3702
    else
      some l3678
def L_ref03_Dist_l2 (a0 : TGraph) : Nat → Int → (List Int) → Option (List Int)
  | 0, _, _ => none
  | nf + 1, n3296, l3297 =>
    if n3296 < a0.N then
      ((L_ref03_Dist_l3 a0 n3296 (((a0.Links.length : Int) - 0).toNat + 1) 0 l3297).bind fun l3582 =>
      some l3582).bind fun l3440 =>
      L_ref03_Dist_l2 a0 nf (IntKind.wrap .i64 (n3296 + 1)) l3440
    else
      some l3297
def L_ref03_Dist (a0 : TGraph) (a1 : Int) : Option (List Int) :=
  (if a1 < 0 then
    some true
  else
    some (decide (a1 ≥ a0.N))).bind fun b1793 =>
  if b1793 = true then
    some []
  else
    (L_ref03_Dist_l1 a0 ((a0.N - 0).toNat + 1) 0 ([] : List Int)).bind fun l1813 =>
    (at? l1813 a1).bind fun x1833 =>
    L_ref03_Dist_l2 a0 ((a0.N - 0).toNat + 1) 0 (l1813.set a1.toNat 0)

def L_ref03_Right_l1 (a0 : TGraph) : Nat → Int → Option (Unit ⊕ Bool)
  | 0, _ => none
  | nf + 1, n1210 =>
    if n1210 < (a0.Links.length : Int) then
      (at? a0.Links n1210).bind fun x1244 =>
      (if x1244.a0 < 0 then
        some true
      else
        if x1244.a0 ≥ a0.N then
          some true
        else
          if x1244.a1 < 0 then
            some true
          else
            if x1244.a1 ≥ a0.N then
              some true
            else
              if x1244.a0 = x1244.a1 then
                some true
              else
                (L_ref03_Find a0 x1244.a0 x1244.a1).bind fun r1264 =>
                if r1264 = n1210 then
                  (L_ref03_Find a0 x1244.a1 x1244.a0).bind fun r1267 =>
                  some (decide (r1267 < 0))
                else
                  some true).bind fun b1256 =>
      if b1256 = true then
        some (.inr false)
      else
        L_ref03_Right_l1 a0 nf (IntKind.wrap .i64 (n1210 + 1))
    else
      some (.inl ())
def L_ref03_Right_l3 (r1768 : (List Int)) : Nat → Int → Option (Unit ⊕ Bool)
  | 0, _ => none
  | nf + 1, n1835 =>
    if n1835 < (r1768.length : Int) then
      (at? r1768 n1835).bind fun x1846 =>
      if x1846 < 0 then
        some (.inr false)
      else
        L_ref03_Right_l3 r1768 nf (IntKind.wrap .i64 (n1835 + 1))
    else
      some (.inl ())
def L_ref03_Right_l2 (a0 : TGraph) : Nat → Int → Option Bool
  | 0, _ => none
  | nf + 1, n1718 =>
    if n1718 < a0.N then
      (((L_ref03_Dist a0 n1718).bind fun r1768 =>
      ((L_ref03_Right_l3 r1768 (((r1768.length : Int) - 0).toNat + 1) 0) : Option (Unit ⊕ Bool)).bind fun e1808 => match e1808 with
        | (.inl _) =>
          some (.inl ())
        | (.inr q1849) => some (.inr q1849)) : Option (Unit ⊕ Bool)).bind fun e1764 => match e1764 with
        | (.inl _) =>
          L_ref03_Right_l2 a0 nf (IntKind.wrap .i64 (n1718 + 1))
        | (.inr q1850) => some q1850
    else
      some true
def L_ref03_Right (a0 : TGraph) : Option Bool :=
  (if a0.N < 1 then
    some true
  else
    if a0.N > 6 then
      some true
    else
      some (decide ((a0.Links.length : Int) > 30))).bind fun b908 =>
  if b908 = true then
    some false
  else
    ((L_ref03_Right_l1 a0 (((a0.Links.length : Int) - 0).toNat + 1) 0) : Option (Unit ⊕ Bool)).bind fun e1091 => match e1091 with
      | (.inl _) =>
        L_ref03_Right_l2 a0 ((a0.N - 0).toNat + 1) 0
      | (.inr q1851) => some q1851

def L_graph_Full_l2 (a0 : Int) (n771 : Int) : Nat → Int → (List A2I) → Option (List A2I)
  | 0, _, _ => none
  | nf + 1, n864, l865 =>
    if n864 < (min (max a0 1) 6) then
      (if n771 = n864 then
        some l865
      else
        if (l865.length + 1) * 16 ≤ 140737488355328 then
          some (l865 ++ [(A2I.mk n771 n864)])
        else none).bind fun l871 =>
      L_graph_Full_l2 a0 n771 nf (IntKind.wrap .i64 (n864 + 1)) l871
    else
      some l865
def L_graph_Full_l1 (a0 : Int) : Nat → Int → (List A2I) → Option TGraph
  | 0, _, _ => none
  | nf + 1, n771, l772 =>
    if n771 < (min (max a0 1) 6) then
      ((L_graph_Full_l2 a0 n771 (((min (max a0 1) 6) - 0).toNat + 1) 0 l772).bind fun l841 =>
      some l841).bind fun l807 =>
      L_graph_Full_l1 a0 nf (IntKind.wrap .i64 (n771 + 1)) l807
    else
      some (TGraph.mk (min (max a0 1) 6) l772)
def L_graph_Full (a0 : Int) : Option TGraph :=
  L_graph_Full_l1 a0 (((min (max a0 1) 6) - 0).toNat + 1) 0 ([] : List A2I)

def L_ref03_Full_l2 (a0 : Int) (n771 : Int) : Nat → Int → (List A2I) → Option (List A2I)
  | 0, _, _ => none
  | nf + 1, n864, l865 =>
    if n864 < (max 1 (min a0 6)) then
      (if n771 = n864 then
        some l865
      else
        if (l865.length + 1) * 16 ≤ 140737488355328 then
          some (l865 ++ [(A2I.mk n771 n864)])
        else none).bind fun l871 =>
      L_ref03_Full_l2 a0 n771 nf (IntKind.wrap .i64 (n864 + 1)) l871
    else
      some l865
def L_ref03_Full_l1 (a0 : Int) : Nat → Int → (List A2I) → Option TGraph
  | 0, _, _ => none
  | nf + 1, n771, l772 =>
    if n771 < (max 1 (min a0 6)) then
      ((L_ref03_Full_l2 a0 n771 (((max 1 (min a0 6)) - 0).toNat + 1) 0 l772).bind fun l841 =>
      some l841).bind fun l807 =>
      L_ref03_Full_l1 a0 nf (IntKind.wrap .i64 (n771 + 1)) l807
    else
      some (TGraph.mk (max 1 (min a0 6)) l772)
def L_ref03_Full (a0 : Int) : Option TGraph :=
  L_ref03_Full_l1 a0 (((max 1 (min a0 6)) - 0).toNat + 1) 0 ([] : List A2I)

def L_ref03_Same_l1 (a0 : TGraph) (a1 : TGraph) : Nat → Int → Option Bool
  | 0, _ => none
  | nf + 1, n245 =>
    if n245 < (a0.Links.length : Int) then
      (at? a0.Links n245).bind fun x262 =>
      (at? a1.Links n245).bind fun x264 =>
      if x262 = x264 then
        L_ref03_Same_l1 a0 a1 nf (IntKind.wrap .i64 (n245 + 1))
      else
        some false
    else
      some true
def L_ref03_Same (a0 : TGraph) (a1 : TGraph) : Option Bool :=
  (if a0.N = a1.N then
    some (!(decide ((a0.Links.length : Int) = (a1.Links.length : Int))))
  else
    some true).bind fun b136 =>
  if b136 = true then
    some false
  else
    L_ref03_Same_l1 a0 a1 (((a0.Links.length : Int) - 0).toNat + 1) 0

def L_ref01_Ints_l1 (a0 : (List Int)) (a1 : (List Int)) : Nat → Int → Option Bool
  | 0, _ => none
  | nf + 1, n235 =>
    if n235 < (a0.length : Int) then
      (at? a0 n235).bind fun x252 =>
      (at? a1 n235).bind fun x254 =>
      if x252 = x254 then
        L_ref01_Ints_l1 a0 a1 nf (IntKind.wrap .i64 (n235 + 1))
      else
        some false
    else
      some true
def L_ref01_Ints (a0 : (List Int)) (a1 : (List Int)) : Option Bool :=
  if (a0.length : Int) = (a1.length : Int) then
    L_ref01_Ints_l1 a0 a1 (((a0.length : Int) - 0).toNat + 1) 0
  else
    some false

def L_graph_of_v2_l1 (a0 : TGraph) (a1 : Int) : Nat → Int → (List Int) → Option (List Int)
  | 0, _, _ => none
  | nf + 1, n197, l198 =>
    if n197 < (a0.Links.length : Int) then
      ((at? a0.Links n197).bind fun x213 =>
      if x213.a1 = a1 then
        if (l198.length + 1) * 8 ≤ 140737488355328 then
          some (l198 ++ [n197])
        else none
      else
        some l198).bind fun l208 =>
      L_graph_of_v2_l1 a0 a1 nf (IntKind.wrap .i64 (n197 + 1)) l208
    else
      some l198
def L_graph_of_v2 (a0 : TGraph) (a1 : Int) : Option (List Int) :=
  L_graph_of_v2_l1 a0 a1 (((a0.Links.length : Int) - 0).toNat + 1) 0 ([] : List Int)

def L_graph_In (a0 : TGraph) (a1 : Int) : Option (List Int) :=
  (L_graph_of_v2 a0 a1).bind fun r7 =>
  some r7

def L_graph_Find_l1 (a0 : TGraph) (a1 : Int) (a2 : Int) : Nat → Int → Option Int
  | 0, _ => none
  | nf + 1, n143 =>
    if n143 < (a0.Links.length : Int) then
      (at? a0.Links n143).bind fun x154 =>
      if x154 = (A2I.mk a1 a2) then
        some n143
      else
        L_graph_Find_l1 a0 a1 a2 nf (IntKind.wrap .i64 (n143 + 1))
    else
      some (-1)
def L_graph_Find (a0 : TGraph) (a1 : Int) (a2 : Int) : Option Int :=
  L_graph_Find_l1 a0 a1 a2 (((a0.Links.length : Int) - 0).toNat + 1) 0

def L_graph_Back (a0 : TGraph) (a1 : Int) : Option Int :=
  (if a1 < 0 then
    some true
  else
    some (decide (a1 ≥ (a0.Links.length : Int)))).bind fun b17 =>
  if b17 = true then
    some (-1)
  else
    (at? a0.Links a1).bind fun x27 =>
    (L_graph_Find a0 x27.a1 x27.a0).bind fun r29 =>
    some r29

def L_law03_fixed : Option Bool :=
  (L_graph_Full 3).bind fun r124 =>
  (L_graph_Full 2).bind fun r183 =>
  (L_law03_Ref r183).bind fun r185 =>
  (L_ref03_Same r185 (TGraph.mk 2 ([(A2I.mk 0 1)] ++ [(A2I.mk 1 0)]))).bind fun r187 =>
  if r187 = true then
    (L_graph_Out r124 1).bind fun r190 =>
    (L_ref01_Ints r190 ([2] ++ [3])).bind fun r192 =>
    if r192 = true then
      (L_graph_In r124 1).bind fun r195 =>
      (L_ref01_Ints r195 ([0] ++ [5])).bind fun r197 =>
      if r197 = true then
        (L_graph_Find r124 2 0).bind fun r200 =>
        if r200 = 4 then
          (L_graph_Find r124 2 2).bind fun r203 =>
          if r203 = (-1) then
            (L_graph_Back r124 0).bind fun r206 =>
            if r206 = 2 then
              (L_graph_Back r124 6).bind fun r209 =>
              if r209 = (-1) then
                (L_graph_Right r124).bind fun r212 =>
                if r212 = true then
                  (L_graph_Right (TGraph.mk 3 ((([(A2I.mk 0 1)] ++ [(A2I.mk 1 0)]) ++ [(A2I.mk 1 2)]) ++ [(A2I.mk 2 1)]))).bind fun r215 =>
                  if r215 = true then
                    (L_graph_Right (TGraph.mk 2 [(A2I.mk 0 1)])).bind fun r218 =>
                    if r218 = true then
                      none
                    else
                      (L_graph_Right (TGraph.mk 0 [])).bind fun r240 =>
                      if r240 = true then
                        none
                      else
                        (L_graph_Right (TGraph.mk 2 [])).bind fun r259 =>
                        if r259 = true then
                          none
                        else
                          (L_graph_Right (TGraph.mk 1 [])).bind fun r275 =>
                          if r275 = true then
                            (L_graph_Dist (TGraph.mk 3 ((([(A2I.mk 0 1)] ++ [(A2I.mk 1 0)]) ++ [(A2I.mk 1 2)]) ++ [(A2I.mk 2 1)])) 0).bind fun r278 =>
                            (L_ref01_Ints r278 (([0] ++ [1]) ++ [2])).bind fun r280 =>
                            if r280 = true then
                              (L_graph_Dist (TGraph.mk 3 ((([(A2I.mk 0 1)] ++ [(A2I.mk 1 0)]) ++ [(A2I.mk 1 2)]) ++ [(A2I.mk 2 1)])) 3).bind fun r283 =>
                              if (r283.length : Int) = 0 then
                                (L_graph_Full 9).bind fun r286 =>
                                some (decide ((r286.Links.length : Int) = 30))
                              else none
                            else none
                          else none
                  else none
                else none
              else none
            else none
          else none
        else none
      else none
    else none
  else none

def L_ref03_Out_l1 (a0 : TGraph) (a1 : Int) : Nat → Int → (List Int) → Option (List Int)
  | 0, _, _ => none
  | nf + 1, n197, l198 =>
    if n197 < (a0.Links.length : Int) then
      ((at? a0.Links n197).bind fun x213 =>
      if x213.a0 = a1 then
        if (l198.length + 1) * 8 ≤ 140737488355328 then
          some (l198 ++ [n197])
        else none
      else
        some l198).bind fun l208 =>
      L_ref03_Out_l1 a0 a1 nf (IntKind.wrap .i64 (n197 + 1)) l208
    else
      some l198
def L_ref03_Out (a0 : TGraph) (a1 : Int) : Option (List Int) :=
  L_ref03_Out_l1 a0 a1 (((a0.Links.length : Int) - 0).toNat + 1) 0 ([] : List Int)

def L_ref03_In_l1 (a0 : TGraph) (a1 : Int) : Nat → Int → (List Int) → Option (List Int)
  | 0, _, _ => none
  | nf + 1, n197, l198 =>
    if n197 < (a0.Links.length : Int) then
      ((at? a0.Links n197).bind fun x213 =>
      if x213.a1 = a1 then
        if (l198.length + 1) * 8 ≤ 140737488355328 then
          some (l198 ++ [n197])
        else none
      else
        some l198).bind fun l208 =>
      L_ref03_In_l1 a0 a1 nf (IntKind.wrap .i64 (n197 + 1)) l208
    else
      some l198
def L_ref03_In (a0 : TGraph) (a1 : Int) : Option (List Int) :=
  L_ref03_In_l1 a0 a1 (((a0.Links.length : Int) - 0).toNat + 1) 0 ([] : List Int)

def L_ref03_Back (a0 : TGraph) (a1 : Int) : Option Int :=
  (if a1 < 0 then
    some true
  else
    some (decide (a1 ≥ (a0.Links.length : Int)))).bind fun b17 =>
  if b17 = true then
    some (-1)
  else
    (at? a0.Links a1).bind fun x27 =>
    (L_ref03_Find a0 x27.a1 x27.a0).bind fun r29 =>
    some r29

def L_law03_GraphTells (a0 : TGraph) (a1 : Int) (a2 : Int) : Option Bool :=
  (L_law03_Cut a0).bind fun r129 =>
  (L_graph_Right r129).bind fun r181 =>
  (L_law03_Ref r129).bind fun r183 =>
  (L_ref03_Right r183).bind fun r185 =>
  if r181 = r185 then
    (L_graph_Full a1).bind fun r188 =>
    (L_law03_Ref r188).bind fun r190 =>
    (L_ref03_Full a1).bind fun r192 =>
    (L_ref03_Same r190 r192).bind fun r194 =>
    if r194 = true then
      if r185 = true then
        (L_graph_Out r129 a1).bind fun r272 =>
        (L_ref03_Out r183 a1).bind fun r274 =>
        (L_ref01_Ints r272 r274).bind fun r276 =>
        if r276 = true then
          (L_graph_In r129 a1).bind fun r279 =>
          (L_ref03_In r183 a1).bind fun r281 =>
          (L_ref01_Ints r279 r281).bind fun r283 =>
          if r283 = true then
            (L_graph_Find r129 a1 a2).bind fun r286 =>
            (L_ref03_Find r183 a1 a2).bind fun r288 =>
            if r286 = r288 then
              (L_graph_Back r129 a2).bind fun r291 =>
              (L_ref03_Back r183 a2).bind fun r293 =>
              if r291 = r293 then
                (L_graph_Dist r129 a1).bind fun r296 =>
                (L_ref03_Dist r183 a1).bind fun r298 =>
                (L_ref01_Ints r296 r298).bind fun r300 =>
                if r300 = true then
                  (L_law03_fixed).bind fun r303 =>
                  some r303
                else none
              else none
            else none
          else none
        else none
      else
        (L_law03_fixed).bind fun r307 =>
        some r307
    else none
  else none

def L_law03_GraphBack_l1 (r609 : TGraph) : Nat → Int → Option Unit
  | 0, _ => none
  | nf + 1, n1253 =>
    if n1253 < (r609.Links.length : Int) then
      (L_graph_Back r609 n1253).bind fun r1309 =>
      if r1309 < 0 then
        none
      else
        if r1309 ≥ (r609.Links.length : Int) then
          none
        else
          if r1309 = n1253 then
            none
          else
            (L_graph_Back r609 r1309).bind fun r1364 =>
            if r1364 = n1253 then
              (at? r609.Links r1309).bind fun x1367 =>
              (at? r609.Links n1253).bind fun x1369 =>
              if x1367.a0 = x1369.a1 then
                (L_graph_Find r609 x1369.a0 x1369.a1).bind fun r1372 =>
                if r1372 = n1253 then
                  L_law03_GraphBack_l1 r609 nf (IntKind.wrap .i64 (n1253 + 1))
                else none
              else none
            else none
    else
      some ()
def L_law03_GraphBack_l2 (r609 : TGraph) : Nat → Int → Int → Option Int
  | 0, _, _ => none
  | nf + 1, n1490, n1491 =>
    if n1491 < r609.N then
      (L_graph_Out r609 n1491).bind fun r1511 =>
      (L_graph_In r609 n1491).bind fun r1515 =>
      if (r1511.length : Int) = (r1515.length : Int) then
        L_law03_GraphBack_l2 r609 nf (IntKind.wrap .i64 (n1490 + (r1511.length : Int))) (IntKind.wrap .i64 (n1491 + 1))
      else none
    else
      some n1490
def L_law03_GraphBack (a0 : TGraph) : Option Bool :=
  (L_law03_Cut a0).bind fun r609 =>
  (L_law03_Ref r609).bind fun r615 =>
  (L_ref03_Right r615).bind fun r617 =>
  if r617 = true then
    (L_law03_GraphBack_l1 r609 (((r609.Links.length : Int) - 0).toNat + 1) 0).bind fun _ =>
    (L_law03_GraphBack_l2 r609 ((r609.N - 0).toNat + 1) 0 0).bind fun n1445 =>
    if n1445 = (r609.Links.length : Int) then
      (L_law03_fixed).bind fun r1522 =>
      some r1522
    else none
  else
    (L_graph_Right r609).bind fun r1529 =>
    if r1529 = true then
      none
    else
      (L_law03_fixed).bind fun r1534 =>
      some r1534

def L_law03_GraphDist_l1 (r681 : TGraph) (r878 : (List Int)) : Nat → Int → (List Bool) → Option (List Bool)
  | 0, _, _ => none
  | nf + 1, n1521, l1522 =>
    if n1521 < (r681.Links.length : Int) then
      ((at? r681.Links n1521).bind fun x1571 =>
      (at? r878 x1571.a1).bind fun x1583 =>
      (at? r878 x1571.a0).bind fun x1585 =>
      if x1583 > (IntKind.wrap .i64 (x1585 + 1)) then
        none
      else
        if x1585 < 0 then
          none
        else
          if x1585 ≥ r681.N then
            none
          else
            (at? l1522 x1571.a1).bind fun x1603 =>
            if x1603 = true then
              some (l1522.set x1571.a1.toNat true)
            else
              some (l1522.set x1571.a1.toNat (decide (x1585 = (IntKind.wrap .i64 (x1583 - 1)))))).bind fun l1566 =>
      L_law03_GraphDist_l1 r681 r878 nf (IntKind.wrap .i64 (n1521 + 1)) l1566
    else
      some l1522
def L_law03_GraphDist_l2 (a1 : Int) (l1390 : List Bool) (r681 : TGraph) (r878 : (List Int)) : Nat → Int → Option Unit
  | 0, _ => none
  | nf + 1, n1785 =>
    if n1785 < r681.N then
      (if n1785 = ((landK .i64 a1 255).tmod r681.N) then
        some false
      else
        (at? r878 n1785).bind fun x1820 =>
        if x1820 < 1 then
          some true
        else
          (at? l1390 n1785).bind fun x1825 =>
          some (!(x1825))).bind fun b1813 =>
      if b1813 = true then
        none
      else
        L_law03_GraphDist_l2 a1 l1390 r681 r878 nf (IntKind.wrap .i64 (n1785 + 1))
    else
      some ()
def L_law03_GraphDist (a0 : TGraph) (a1 : Int) (a2 : Int) : Option Bool :=
  (L_law03_Cut a0).bind fun r681 =>
  (L_law03_Ref r681).bind fun r687 =>
  (L_ref03_Right r687).bind fun r689 =>
  if r689 = true then
    if ¬ r681.N = 0 then
      (L_graph_Dist r681 ((landK .i64 a1 255).tmod r681.N)).bind fun r878 =>
      (L_graph_Dist r681 ((landK .i64 a2 255).tmod r681.N)).bind fun r880 =>
      if (r878.length : Int) = r681.N then
        if (r880.length : Int) = r681.N then
          (at? r878 ((landK .i64 a1 255).tmod r681.N)).bind fun x1040 =>
          if x1040 = 0 then
            (at? r878 ((landK .i64 a2 255).tmod r681.N)).bind fun x1043 =>
            (at? r880 ((landK .i64 a1 255).tmod r681.N)).bind fun x1045 =>
            if x1043 = x1045 then
              if 0 ≤ r681.N then
                if 1 * r681.N.toNat ≤ 140737488355328 then
                  if r681.N.toNat ≤ 140737488355328 then
                    (L_law03_GraphDist_l1 r681 r878 (((r681.Links.length : Int) - 0).toNat + 1) 0 (List.replicate r681.N.toNat false)).bind fun l1390 =>
                    (L_law03_GraphDist_l2 a1 l1390 r681 r878 ((r681.N - 0).toNat + 1) 0).bind fun _ =>
                    (L_law03_fixed).bind fun r1830 =>
                    some r1830
                  else none
                else none
              else none
            else none
          else none
        else none
      else none
    else none
  else
    (L_graph_Right r681).bind fun r1837 =>
    if r1837 = true then
      none
    else
      (L_law03_fixed).bind fun r1842 =>
      some r1842

def L_law03_GraphLess (a0 : TGraph) (a1 : A3I) : Option Bool :=
  (L_law03_Cut a0).bind fun r168 =>
  (L_law03_Ref r168).bind fun r174 =>
  (L_ref03_Right r174).bind fun r176 =>
  if r176 = true then
    (if (r168.Links.length : Int) > 0 then
      if ¬ (r168.Links.length : Int) = 0 then
        if 0 ≤ ((landK .i64 a1.a0 255).tmod (r168.Links.length : Int)) then
          if ((landK .i64 a1.a0 255).tmod (r168.Links.length : Int)) ≤ (r168.Links.length : Int) then
            (some (r168.Links.take (((landK .i64 a1.a0 255).tmod (r168.Links.length : Int)).toNat))).bind fun v324 =>
            if v324.length * 16 ≤ 140737488355328 then
              if 0 ≤ (IntKind.wrap .i64 (((landK .i64 a1.a0 255).tmod (r168.Links.length : Int)) + 1)) then
                if (IntKind.wrap .i64 (((landK .i64 a1.a0 255).tmod (r168.Links.length : Int)) + 1)) ≤ (r168.Links.length : Int) then
                  (some (r168.Links.drop ((IntKind.wrap .i64 (((landK .i64 a1.a0 255).tmod (r168.Links.length : Int)) + 1)).toNat))).bind fun v334 =>
                  if (v324.length + v334.length) * 16 ≤ 140737488355328 then
                    if r168.Links.length * 16 ≤ 140737488355328 then
                      (at? r168.Links ((landK .i64 a1.a0 255).tmod (r168.Links.length : Int))).bind fun x342 =>
                      if (r168.Links.length + 1) * 16 ≤ 140737488355328 then
                        (L_graph_Right (TGraph.mk r168.N (v324 ++ v334))).bind fun r351 =>
                        if r351 = true then
                          none
                        else
                          (L_graph_Right (TGraph.mk r168.N (r168.Links ++ [x342]))).bind fun r357 =>
                          if r357 = true then
                            none
                          else
                            some ()
                      else none
                    else none
                  else none
                else none
              else none
            else none
          else none
        else none
      else none
    else
      some ()).bind fun _ =>
    if ¬ r168.N = 0 then
      if r168.Links.length * 16 ≤ 140737488355328 then
        if (r168.Links.length + 1) * 16 ≤ 140737488355328 then
          if (r168.Links.length + 1 + 1) * 16 ≤ 140737488355328 then
            ((L_graph_Right (TGraph.mk r168.N ((r168.Links ++ [(A2I.mk ((landK .i64 a1.a1 255).tmod r168.N) ((landK .i64 a1.a2 255).tmod r168.N))]) ++ [(A2I.mk ((landK .i64 a1.a2 255).tmod r168.N) ((landK .i64 a1.a1 255).tmod r168.N))]))).bind fun r382 =>
            if ((landK .i64 a1.a1 255).tmod r168.N) = ((landK .i64 a1.a2 255).tmod r168.N) then
              if r382 = false then
                (L_law03_fixed).bind fun r396 =>
                some r396
              else
                some false
            else
              (L_graph_Find r168 ((landK .i64 a1.a1 255).tmod r168.N) ((landK .i64 a1.a2 255).tmod r168.N)).bind fun r398 =>
              if r382 = (decide (r398 < 0)) then
                (L_law03_fixed).bind fun r403 =>
                some r403
              else
                some false).bind fun b379 =>
            some b379
          else none
        else none
      else none
    else none
  else
    (L_graph_Right r168).bind fun r410 =>
    if r410 = true then
      none
    else
      (L_law03_fixed).bind fun r415 =>
      some r415

def L_law03_GraphWays (a0 : TGraph) (a1 : A3I) : Option Bool :=
  (L_law03_Cut a0).bind fun r87 =>
  (L_law03_Ref r87).bind fun r93 =>
  (L_ref03_Right r93).bind fun r95 =>
  if r95 = true then
    if ¬ r87.N = 0 then
      (L_graph_Dist r87 ((landK .i64 a1.a0 255).tmod r87.N)).bind fun r142 =>
      (L_graph_Dist r87 ((landK .i64 a1.a1 255).tmod r87.N)).bind fun r144 =>
      if (r142.length : Int) = r87.N then
        if (r144.length : Int) = r87.N then
          (at? r142 ((landK .i64 a1.a2 255).tmod r87.N)).bind fun x175 =>
          (at? r142 ((landK .i64 a1.a1 255).tmod r87.N)).bind fun x177 =>
          (at? r144 ((landK .i64 a1.a2 255).tmod r87.N)).bind fun x179 =>
          if x175 ≤ (IntKind.wrap .i64 (x177 + x179)) then
            (L_graph_Find r87 ((landK .i64 a1.a0 255).tmod r87.N) ((landK .i64 a1.a1 255).tmod r87.N)).bind fun r182 =>
            if (decide (x177 = 1)) = (decide (r182 ≥ 0)) then
              (L_law03_fixed).bind fun r185 =>
              some r185
            else none
          else none
        else none
      else none
    else none
  else
    (L_graph_Right r87).bind fun r192 =>
    if r192 = true then
      none
    else
      (L_law03_fixed).bind fun r197 =>
      some r197

def L_law03_GraphTurned_l1 (n193 : Int) (r140 : TGraph) : Nat → Int → (List A2I) → Option (List A2I)
  | 0, _, _ => none
  | nf + 1, n302, l303 =>
    if n302 < (r140.Links.length : Int) then
      if ¬ (r140.Links.length : Int) = 0 then
        (at? r140.Links ((IntKind.wrap .i64 ((IntKind.wrap .i64 ((IntKind.wrap .i64 ((r140.Links.length : Int) - 1)) - n302)) + n193)).tmod (r140.Links.length : Int))).bind fun x316 =>
        if (l303.length + 1) * 16 ≤ 140737488355328 then
          L_law03_GraphTurned_l1 n193 r140 nf (IntKind.wrap .i64 (n302 + 1)) (l303 ++ [x316])
        else none
      else none
    else
      some l303
def L_law03_GraphTurned (a0 : TGraph) (a1 : Int) (a2 : Int) : Option Bool :=
  (L_law03_Cut a0).bind fun r140 =>
  (if (r140.Links.length : Int) > 0 then
    if ¬ (r140.Links.length : Int) = 0 then
      some ((landK .i64 a2 255).tmod (r140.Links.length : Int))
    else none
  else
    some 0).bind fun n193 =>
  (L_law03_GraphTurned_l1 n193 r140 (((r140.Links.length : Int) - 0).toNat + 1) 0 ([] : List A2I)).bind fun l279 =>
  (L_graph_Right r140).bind fun r323 =>
  (L_graph_Right (TGraph.mk r140.N l279)).bind fun r325 =>
  if r323 = r325 then
    (L_law03_Ref r140).bind fun r333 =>
    (L_ref03_Right r333).bind fun r335 =>
    if r335 = true then
      (L_graph_Dist r140 a1).bind fun r373 =>
      (L_graph_Dist (TGraph.mk r140.N l279) a1).bind fun r375 =>
      (L_ref01_Ints r373 r375).bind fun r377 =>
      if r377 = true then
        (L_graph_Out r140 a1).bind fun r380 =>
        (L_graph_Out (TGraph.mk r140.N l279) a1).bind fun r382 =>
        if (r380.length : Int) = (r382.length : Int) then
          (L_law03_fixed).bind fun r385 =>
          some r385
        else none
      else none
    else
      (L_law03_fixed).bind fun r389 =>
      some r389
  else none

def L_law03_GraphFull_l1 (a1 : Int) (r401 : TGraph) (r554 : (List Int)) : Nat → Int → Option Unit
  | 0, _ => none
  | nf + 1, n996 =>
    if n996 < r401.N then
      (if n996 = ((landK .i64 a1 255).tmod r401.N) then
        (at? r554 n996).bind fun x1063 =>
        if x1063 = 0 then
          (L_graph_Find r401 ((landK .i64 a1 255).tmod r401.N) n996).bind fun r1069 =>
          if r1069 = (-1) then
            some false
          else
            some true
        else
          some true
      else
        (at? r554 n996).bind fun x1072 =>
        if x1072 = 1 then
          (L_graph_Find r401 ((landK .i64 a1 255).tmod r401.N) n996).bind fun r1077 =>
          some (decide (r1077 < 0))
        else
          some true).bind fun b1048 =>
      if b1048 = true then
        none
      else
        L_law03_GraphFull_l1 a1 r401 r554 nf (IntKind.wrap .i64 (n996 + 1))
    else
      some ()
def L_law03_GraphFull (a0 : Int) (a1 : Int) : Option Bool :=
  (L_graph_Full a0).bind fun r401 =>
  if r401.N = (max 1 (min a0 6)) then
    if (r401.Links.length : Int) = (IntKind.wrap .i64 (r401.N * (IntKind.wrap .i64 (r401.N - 1)))) then
      (L_graph_Right r401).bind fun r546 =>
      if r546 = true then
        if ¬ r401.N = 0 then
          (L_graph_Dist r401 ((landK .i64 a1 255).tmod r401.N)).bind fun r554 =>
          if (r554.length : Int) = r401.N then
            (L_graph_Out r401 ((landK .i64 a1 255).tmod r401.N)).bind fun r690 =>
            if (r690.length : Int) = (IntKind.wrap .i64 (r401.N - 1)) then
              (L_graph_In r401 ((landK .i64 a1 255).tmod r401.N)).bind fun r693 =>
              if (r693.length : Int) = (IntKind.wrap .i64 (r401.N - 1)) then
                (L_law03_GraphFull_l1 a1 r401 r554 ((r401.N - 0).toNat + 1) 0).bind fun _ =>
                (L_law03_fixed).bind fun r1082 =>
                some r1082
              else none
            else none
          else none
        else none
      else none
    else none
  else none

end Go.Proofs.Yteohodhcegbmmaa
