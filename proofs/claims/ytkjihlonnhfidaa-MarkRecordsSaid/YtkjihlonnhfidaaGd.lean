/- Functions as typed ones, and that the program's functions answer as these do. No condition. -/
import Derived.Test.YtkjihlonnhfidaaGa
set_option linter.unusedSimpArgs false
set_option linter.unusedVariables false
namespace Go.Proofs.Ytkjihlonnhfidaa
open Go.RowKit

def L_law10_ends (a0 : Int) (a1 : Int) : Option THost :=
  if 0 ≤ ((IntKind.wrap .i64 a0).tmod 6) then
    if 24 * (((IntKind.wrap .i64 a0).tmod 6).toNat) ≤ 140737488355328 then
      if (((IntKind.wrap .i64 a0).tmod 6).toNat) ≤ 140737488355328 then
        some (THost.mk 1 2 (IntKind.wrap .i64 a1) (List.replicate (((IntKind.wrap .i64 a0).tmod 6).toNat) []) (List.replicate (((IntKind.wrap .i64 a0).tmod 6).toNat) []))
      else none
    else none
  else none

def L_math_bits_Mul64 (a0 : Int) (a1 : Int) : Option (Int × Int) :=
  some ((IntKind.wrap .u64 ((IntKind.wrap .u64 ((IntKind.wrap .u64 ((a0.fdiv (2 ^ 32)) * (a1.fdiv (2 ^ 32)))) + ((IntKind.wrap .u64 ((IntKind.wrap .u64 ((a0.fdiv (2 ^ 32)) * (landK .u64 a1 4294967295))) + ((IntKind.wrap .u64 ((landK .u64 a0 4294967295) * (landK .u64 a1 4294967295))).fdiv (2 ^ 32)))).fdiv (2 ^ 32)))) + ((IntKind.wrap .u64 ((landK .u64 (IntKind.wrap .u64 ((IntKind.wrap .u64 ((a0.fdiv (2 ^ 32)) * (landK .u64 a1 4294967295))) + ((IntKind.wrap .u64 ((landK .u64 a0 4294967295) * (landK .u64 a1 4294967295))).fdiv (2 ^ 32)))) 4294967295) + (IntKind.wrap .u64 ((landK .u64 a0 4294967295) * (a1.fdiv (2 ^ 32)))))).fdiv (2 ^ 32)))), (IntKind.wrap .u64 (a0 * a1)))

def L_math_bits_Mul (a0 : Int) (a1 : Int) : Option (Int × Int) :=
  (L_math_bits_Mul64 a0 a1).bind fun r7 =>
  some (r7.1, r7.2)

def L_slices_Repeat_bool_bool_l1 : Nat → Int → (List Bool) → Option (List Bool)
  | 0, _, _ => none
  | nf + 1, n172, l173 =>
    if n172 < (l173.length : Int) then
      if 0 ≤ n172 then
        if n172 ≤ (l173.length : Int) then
          L_slices_Repeat_bool_bool_l1 nf (IntKind.wrap .i64 (n172 + ((Nat.min (l173.take n172.toNat).length (((l173.drop n172.toNat).take (l173.length - n172.toNat)).length) : Nat) : Int))) (l173.take n172.toNat ++ ((l173.take n172.toNat).take (((l173.drop n172.toNat).take (l173.length - n172.toNat)).length)) ++ l173.drop (n172.toNat + ((l173.take n172.toNat).take (((l173.drop n172.toNat).take (l173.length - n172.toNat)).length)).length))
        else none
      else none
    else
      some l173
def L_slices_Repeat_bool_bool (a0 : (List Bool)) (a1 : Int) : Option (List Bool) :=
  if a1 < 0 then
    none
  else
    (L_math_bits_Mul (IntKind.wrap .u64 (a0.length : Int)) (IntKind.wrap .u64 a1)).bind fun r97 =>
    (if r97.1 > 0 then
      some true
    else
      some (decide (r97.2 > 9223372036854775807))).bind fun b100 =>
    if b100 = true then
      none
    else
      if 0 ≤ (IntKind.wrap .i64 r97.2) then
        if 1 * ((IntKind.wrap .i64 r97.2).toNat) ≤ 140737488355328 then
          if ((IntKind.wrap .i64 r97.2).toNat) ≤ 140737488355328 then
            (some (List.replicate ((IntKind.wrap .i64 r97.2).toNat) false)).bind fun v115 =>
            L_slices_Repeat_bool_bool_l1 (((((a0.take v115.length) ++ v115.drop (a0.take v115.length).length).length : Int) - ((Nat.min a0.length v115.length : Nat) : Int)).toNat + 1) ((Nat.min a0.length v115.length : Nat) : Int) ((a0.take v115.length) ++ v115.drop (a0.take v115.length).length)
          else none
        else none
      else none

def L_host_Host_told (a0 : THost) : Option TPiece :=
  some (TPiece.mk a0.Node a0.State a0.Steps [] a0.In a0.Out)

def L_slices_Clone_int_int (a0 : (List Int)) : Option (List Int) :=
  if a0.length * 8 ≤ 140737488355328 then
    some a0
  else none

def L_slices_Clone_api_Msg_api_Msg (a0 : (List TMsg)) : Option (List TMsg) :=
  if a0.length * 16 ≤ 140737488355328 then
    some a0
  else none

def L_piece_own_api_Msg_1 (a0 : (List (List TMsg))) : Option ((List TMsg) × (List (List TMsg))) :=
  (at? a0 0).bind fun x19 =>
  (L_slices_Clone_api_Msg_api_Msg x19).bind fun r21 =>
  if 1 ≤ (a0.length : Int) then
    (some (a0.drop 1)).bind fun v27 =>
    some (r21, v27)
  else none

def L_piece_lists_api_Msg_l1 (a0 : Int) : Nat → Int → (List (List TMsg)) → (List (List TMsg)) → Option ((List (List TMsg)) × (List (List TMsg)))
  | 0, _, _, _ => none
  | nf + 1, n106, l107, l108 =>
    if n106 < a0 then
      (L_piece_own_api_Msg_1 l107).bind fun r115 =>
      if (l108.length + 1) * 24 ≤ 140737488355328 then
        L_piece_lists_api_Msg_l1 a0 nf (IntKind.wrap .i64 (n106 + 1)) r115.2 (l108 ++ [r115.1])
      else none
    else
      some (l108, l107)
def L_piece_lists_api_Msg (a0 : Int) (a1 : (List (List TMsg))) : Option ((List (List TMsg)) × (List (List TMsg))) :=
  L_piece_lists_api_Msg_l1 a0 ((a0 - 0).toNat + 1) 0 a1 ([] : List (List TMsg))

def L_piece_own_api_Msg (a0 : (List (List TMsg))) : Option (List (List TMsg)) :=
  (L_piece_lists_api_Msg (a0.length : Int) a0).bind fun r7 =>
  some r7.1

def L_piece_own_int_1 (a0 : (List (List Int))) : Option ((List Int) × (List (List Int))) :=
  (at? a0 0).bind fun x19 =>
  (L_slices_Clone_int_int x19).bind fun r21 =>
  if 1 ≤ (a0.length : Int) then
    (some (a0.drop 1)).bind fun v27 =>
    some (r21, v27)
  else none

def L_piece_lists_int_l1 (a0 : Int) : Nat → Int → (List (List Int)) → (List (List Int)) → Option ((List (List Int)) × (List (List Int)))
  | 0, _, _, _ => none
  | nf + 1, n106, l107, l108 =>
    if n106 < a0 then
      (L_piece_own_int_1 l107).bind fun r115 =>
      if (l108.length + 1) * 24 ≤ 140737488355328 then
        L_piece_lists_int_l1 a0 nf (IntKind.wrap .i64 (n106 + 1)) r115.2 (l108 ++ [r115.1])
      else none
    else
      some (l108, l107)
def L_piece_lists_int (a0 : Int) (a1 : (List (List Int))) : Option ((List (List Int)) × (List (List Int))) :=
  L_piece_lists_int_l1 a0 ((a0 - 0).toNat + 1) 0 a1 ([] : List (List Int))

def L_piece_own_int (a0 : (List (List Int))) : Option (List (List Int)) :=
  (L_piece_lists_int (a0.length : Int) a0).bind fun r7 =>
  some r7.1

def L_piece_Own (a0 : TPiece) : Option TPiece :=
  (L_slices_Clone_int_int a0.Sent).bind fun r19 =>
  (L_piece_own_api_Msg a0.In).bind fun r21 =>
  (L_piece_own_int a0.Out).bind fun r23 =>
  some (TPiece.mk a0.Node a0.State a0.Steps r19 r21 r23)

def L_host_Piece_l1 (a0 : THost) (l113 : List (List TMsg)) (l114 : List (List Int)) (r108 : TPiece) : Nat → Int → (List Int) → Option TPiece
  | 0, _, _ => none
  | nf + 1, n186, l187 =>
    if n186 < (a0.Out.length : Int) then
      (at? a0.Out n186).bind fun x198 =>
      if (l187.length + 1) * 8 ≤ 140737488355328 then
        L_host_Piece_l1 a0 l113 l114 r108 nf (IntKind.wrap .i64 (n186 + 1)) (l187 ++ [(x198.length : Int)])
      else none
    else
      some (TPiece.mk r108.Node r108.State r108.Steps l187 l113 l114)
def L_host_Piece (a0 : THost) (a1 : Bool) : Option TPiece :=
  (L_host_Host_told a0).bind fun r106 =>
  (L_piece_Own r106).bind fun r108 =>
  (if a1 = true then
    some (r108.In, r108.Out)
  else
    if 24 * a0.In.length ≤ 140737488355328 then
      if a0.In.length ≤ 140737488355328 then
        some (((List.replicate a0.In.length []) : List (List TMsg)), ([] : List (List Int)))
      else none
    else none).bind fun ⟨l113, l114⟩ =>
  L_host_Piece_l1 a0 l113 l114 r108 (((a0.Out.length : Int) - 0).toNat + 1) 0 r108.Sent

def L_mark_Begin (a0 : THost) (a1 : Int) : Option TMark :=
  (L_slices_Repeat_bool_bool [true] (a0.In.length : Int)).bind fun r13 =>
  (L_host_Piece a0 false).bind fun r15 =>
  some (TMark.mk a1 r13 r15)

def L_mark_Mark_own (a0 : TMark) : Option TMark :=
  if 1 * a0.Open.length ≤ 140737488355328 then
    if a0.Open.length ≤ 140737488355328 then
      (some (List.replicate a0.Open.length false)).bind fun v22 =>
      (L_piece_Own a0.P).bind fun r27 =>
      some (TMark.mk a0.Epoch ((a0.Open.take v22.length) ++ v22.drop (a0.Open.take v22.length).length) r27)
    else none
  else none

def L_mark_Marker (a0 : TMark) (a1 : THost) (a2 : Int) (a3 : Int) : Option (TMark × Bool) :=
  (if a3 < 0 then
    some true
  else
    some (decide (a3 ≥ (a1.In.length : Int)))).bind fun b26 =>
  if b26 = true then
    some (a0, false)
  else
    (if a0.Epoch = a2 then
      some a0
    else
      (L_mark_Begin a1 a2).bind fun r39 =>
      some r39).bind fun m35 =>
    (L_mark_Mark_own m35).bind fun r43 =>
    (at? r43.Open a3).bind fun x47 =>
    some ((TMark.mk r43.Epoch (r43.Open.set a3.toNat false) r43.P), !(decide (a0.Epoch = a2)))

def L_law09_Ref (a0 : THost) : Option THost :=
  some a0

def L_ref09_own_l1 (a0 : THost) : Nat → Int → (List (List TMsg)) → Option (List (List TMsg))
  | 0, _, _ => none
  | nf + 1, n202, l203 =>
    if n202 < (a0.In.length : Int) then
      (at? a0.In n202).bind fun x211 =>
      if x211.length * 16 ≤ 140737488355328 then
        if (l203.length + 1) * 24 ≤ 140737488355328 then
          L_ref09_own_l1 a0 nf (IntKind.wrap .i64 (n202 + 1)) (l203 ++ [x211])
        else none
      else none
    else
      some l203
def L_ref09_own_l2 (a0 : THost) (l177 : List (List TMsg)) : Nat → Int → (List (List Int)) → Option THost
  | 0, _, _ => none
  | nf + 1, n271, l272 =>
    if n271 < (a0.Out.length : Int) then
      (at? a0.Out n271).bind fun x280 =>
      if x280.length * 8 ≤ 140737488355328 then
        if (l272.length + 1) * 24 ≤ 140737488355328 then
          L_ref09_own_l2 a0 l177 nf (IntKind.wrap .i64 (n271 + 1)) (l272 ++ [x280])
        else none
      else none
    else
      some (THost.mk a0.Node a0.State a0.Steps l177 l272)
def L_ref09_own (a0 : THost) : Option THost :=
  (L_ref09_own_l1 a0 (((a0.In.length : Int) - 0).toNat + 1) 0 ([] : List (List TMsg))).bind fun l177 =>
  L_ref09_own_l2 a0 l177 (((a0.Out.length : Int) - 0).toNat + 1) 0 ([] : List (List Int))

def L_ref09_Piece_l1 (a0 : THost) : Nat → Int → (List Int) → Option (List Int)
  | 0, _, _ => none
  | nf + 1, n155, l156 =>
    if n155 < (a0.Out.length : Int) then
      (at? a0.Out n155).bind fun x163 =>
      if (l156.length + 1) * 8 ≤ 140737488355328 then
        L_ref09_Piece_l1 a0 nf (IntKind.wrap .i64 (n155 + 1)) (l156 ++ [(x163.length : Int)])
      else none
    else
      some l156
def L_ref09_Piece_l2 (a0 : THost) : Nat → Int → (List (List TMsg)) → Option ((List (List TMsg)) × (List (List Int)))
  | 0, _, _ => none
  | nf + 1, n198, l199 =>
    if n198 < (a0.In.length : Int) then
      if (l199.length + 1) * 24 ≤ 140737488355328 then
        L_ref09_Piece_l2 a0 nf (IntKind.wrap .i64 (n198 + 1)) ((l199 ++ [[]]) : List (List TMsg))
      else none
    else
      some (l199, ([] : List (List Int)))
def L_ref09_Piece (a0 : THost) (a1 : Bool) : Option TPiece :=
  (L_ref09_own a0).bind fun r104 =>
  (L_ref09_Piece_l1 a0 (((a0.Out.length : Int) - 0).toNat + 1) 0 ([] : List Int)).bind fun l134 =>
  (if a1 = true then
    some (r104.In, r104.Out)
  else
    L_ref09_Piece_l2 a0 (((a0.In.length : Int) - 0).toNat + 1) 0 ([] : List (List TMsg))).bind fun ⟨l183, l184⟩ =>
  some (TPiece.mk a0.Node a0.State a0.Steps l134 l183 l184)

def L_ref10_Begin_l1 (a0 : THost) (a1 : Int) (r42 : TPiece) : Nat → Int → (List Bool) → Option TMark
  | 0, _, _ => none
  | nf + 1, n70, l71 =>
    if n70 < (a0.In.length : Int) then
      if (l71.length + 1) * 1 ≤ 140737488355328 then
        L_ref10_Begin_l1 a0 a1 r42 nf (IntKind.wrap .i64 (n70 + 1)) (l71 ++ [true])
      else none
    else
      some (TMark.mk a1 l71 r42)
def L_ref10_Begin (a0 : THost) (a1 : Int) : Option TMark :=
  (L_ref09_Piece a0 false).bind fun r42 =>
  L_ref10_Begin_l1 a0 a1 r42 (((a0.In.length : Int) - 0).toNat + 1) 0 ([] : List Bool)

def L_ref10_own_l1 (a0 : TMark) : Nat → Int → (List (List TMsg)) → Option TMark
  | 0, _, _ => none
  | nf + 1, n132, l133 =>
    if n132 < (a0.P.In.length : Int) then
      (at? a0.P.In n132).bind fun x141 =>
      if x141.length * 16 ≤ 140737488355328 then
        if (l133.length + 1) * 24 ≤ 140737488355328 then
          L_ref10_own_l1 a0 nf (IntKind.wrap .i64 (n132 + 1)) (l133 ++ [x141])
        else none
      else none
    else
      some (TMark.mk a0.Epoch a0.Open (TPiece.mk a0.P.Node a0.P.State a0.P.Steps a0.P.Sent l133 a0.P.Out))
def L_ref10_own (a0 : TMark) : Option TMark :=
  if a0.Open.length * 1 ≤ 140737488355328 then
    L_ref10_own_l1 a0 (((a0.P.In.length : Int) - 0).toNat + 1) 0 ([] : List (List TMsg))
  else none

def L_ref10_Marker (a0 : TMark) (a1 : THost) (a2 : Int) (a3 : Int) : Option (TMark × Bool) :=
  (if a3 < 0 then
    some true
  else
    some (decide (a3 ≥ (a1.In.length : Int)))).bind fun b26 =>
  if b26 = true then
    some (a0, false)
  else
    (if a0.Epoch = a2 then
      some a0
    else
      (L_ref10_Begin a1 a2).bind fun r39 =>
      some r39).bind fun m35 =>
    (L_ref10_own m35).bind fun r43 =>
    (at? r43.Open a3).bind fun x47 =>
    some ((TMark.mk r43.Epoch (r43.Open.set a3.toNat false) r43.P), !(decide (a0.Epoch = a2)))

def L_mark_Mark_has (a0 : TMark) (a1 : Int) : Option Bool :=
  (if a1 ≥ 0 then
    some (decide (a1 < (a0.Open.length : Int)))
  else
    some false).bind fun b7 =>
  some b7

def L_mark_App (a0 : TMark) (a1 : Int) (a2 : TMsg) : Option TMark :=
  ((L_mark_Mark_has a0 a1).bind fun r34 =>
  if r34 = true then
    (at? a0.Open a1).bind fun x37 =>
    some (!(x37))
  else
    some true).bind fun b31 =>
  if b31 = true then
    some a0
  else
    (L_mark_Mark_own a0).bind fun r43 =>
    (at? r43.P.In a1).bind fun x48 =>
    if (x48.length + 1) * 16 ≤ 140737488355328 then
      some (TMark.mk r43.Epoch r43.Open (TPiece.mk r43.P.Node r43.P.State r43.P.Steps r43.P.Sent (r43.P.In.set a1.toNat (x48 ++ [a2])) r43.P.Out))
    else none

def L_ref10_App (a0 : TMark) (a1 : Int) (a2 : TMsg) : Option TMark :=
  (if a1 < 0 then
    some true
  else
    if a1 ≥ (a0.Open.length : Int) then
      some true
    else
      (at? a0.Open a1).bind fun x33 =>
      some (!(x33))).bind fun b28 =>
  if b28 = true then
    some a0
  else
    (L_ref10_own a0).bind fun r39 =>
    (at? r39.P.In a1).bind fun x44 =>
    if (x44.length + 1) * 16 ≤ 140737488355328 then
      some (TMark.mk r39.Epoch r39.Open (TPiece.mk r39.P.Node r39.P.State r39.P.Steps r39.P.Sent (r39.P.In.set a1.toNat (x44 ++ [a2])) r39.P.Out))
    else none

def L_law06_Ref (a0 : TPiece) : Option TPiece :=
  some a0

def L_law10_Ref (a0 : TMark) : Option TMark :=
  (L_law06_Ref a0.P).bind fun r7 =>
  some (TMark.mk a0.Epoch a0.Open r7)

def L_ref01_Ints_l1 (a0 : (List Int)) (a1 : (List Int)) : Nat → Int → Option Bool
  | 0, _ => none
  | nf + 1, n235 =>
    if n235 < (a0.length : Int) then
      (at? a0 n235).bind fun x252 =>
      (at? a1 n235).bind fun x254 =>
      if x252 = x254 then
        L_ref01_Ints_l1 a0 a1 nf (IntKind.wrap .i64 (n235 + 1))
      else
        some false
    else
      some true
def L_ref01_Ints (a0 : (List Int)) (a1 : (List Int)) : Option Bool :=
  if (a0.length : Int) = (a1.length : Int) then
    L_ref01_Ints_l1 a0 a1 (((a0.length : Int) - 0).toNat + 1) 0
  else
    some false

def L_ref05_Msgs_l1 (a0 : (List TMsg)) (a1 : (List TMsg)) : Nat → Int → Option Bool
  | 0, _ => none
  | nf + 1, n235 =>
    if n235 < (a0.length : Int) then
      (at? a0 n235).bind fun x252 =>
      (at? a1 n235).bind fun x254 =>
      if x252 = x254 then
        L_ref05_Msgs_l1 a0 a1 nf (IntKind.wrap .i64 (n235 + 1))
      else
        some false
    else
      some true
def L_ref05_Msgs (a0 : (List TMsg)) (a1 : (List TMsg)) : Option Bool :=
  if (a0.length : Int) = (a1.length : Int) then
    L_ref05_Msgs_l1 a0 a1 (((a0.length : Int) - 0).toNat + 1) 0
  else
    some false

def L_ref06_Same_l1 (a0 : TPiece) (a1 : TPiece) : Nat → Int → Option (Unit ⊕ Bool)
  | 0, _ => none
  | nf + 1, n534 =>
    if n534 < (a0.In.length : Int) then
      (at? a0.In n534).bind fun x557 =>
      (at? a1.In n534).bind fun x559 =>
      (L_ref05_Msgs x557 x559).bind fun r561 =>
      if r561 = true then
        L_ref06_Same_l1 a0 a1 nf (IntKind.wrap .i64 (n534 + 1))
      else
        some (.inr false)
    else
      some (.inl ())
def L_ref06_Same_l2 (a0 : TPiece) (a1 : TPiece) : Nat → Int → Option Bool
  | 0, _ => none
  | nf + 1, n707 =>
    if n707 < (a0.Out.length : Int) then
      (at? a0.Out n707).bind fun x730 =>
      (at? a1.Out n707).bind fun x732 =>
      (L_ref01_Ints x730 x732).bind fun r734 =>
      if r734 = true then
        L_ref06_Same_l2 a0 a1 nf (IntKind.wrap .i64 (n707 + 1))
      else
        some false
    else
      some true
def L_ref06_Same (a0 : TPiece) (a1 : TPiece) : Option Bool :=
  (if a0.Node = a1.Node then
    if a0.State = a1.State then
      if a0.Steps = a1.Steps then
        (L_ref01_Ints a0.Sent a1.Sent).bind fun r383 =>
        if r383 = true then
          if (a0.In.length : Int) = (a1.In.length : Int) then
            some (!(decide ((a0.Out.length : Int) = (a1.Out.length : Int))))
          else
            some true
        else
          some true
      else
        some true
    else
      some true
  else
    some true).bind fun b377 =>
  if b377 = true then
    some false
  else
    (L_ref06_Same_l1 a0 a1 (((a0.In.length : Int) - 0).toNat + 1) 0).bind fun e475 => match e475 with
      | (.inl _) =>
        L_ref06_Same_l2 a0 a1 (((a0.Out.length : Int) - 0).toNat + 1) 0
      | (.inr q737) => some q737

def L_ref10_Same_l1 (a0 : TMark) (a1 : TMark) : Nat → Int → Option Bool
  | 0, _ => none
  | nf + 1, n257 =>
    if n257 < (a0.Open.length : Int) then
      (at? a0.Open n257).bind fun x274 =>
      (at? a1.Open n257).bind fun x276 =>
      if x274 = x276 then
        L_ref10_Same_l1 a0 a1 nf (IntKind.wrap .i64 (n257 + 1))
      else
        some false
    else
      some true
def L_ref10_Same (a0 : TMark) (a1 : TMark) : Option Bool :=
  (if a0.Epoch = a1.Epoch then
    if (a0.Open.length : Int) = (a1.Open.length : Int) then
      (L_ref06_Same a0.P a1.P).bind fun r150 =>
      some (!(r150))
    else
      some true
  else
    some true).bind fun b145 =>
  if b145 = true then
    some false
  else
    L_ref10_Same_l1 a0 a1 (((a0.Open.length : Int) - 0).toNat + 1) 0

def L_slices_Index_bool_bool_l1 (a0 : (List Bool)) (a1 : Bool) : Nat → Int → Option Int
  | 0, _ => none
  | nf + 1, n143 =>
    if n143 < (a0.length : Int) then
      (at? a0 n143).bind fun x154 =>
      if a1 = x154 then
        some n143
      else
        L_slices_Index_bool_bool_l1 a0 a1 nf (IntKind.wrap .i64 (n143 + 1))
    else
      some (-1)
def L_slices_Index_bool_bool (a0 : (List Bool)) (a1 : Bool) : Option Int :=
  L_slices_Index_bool_bool_l1 a0 a1 (((a0.length : Int) - 0).toNat + 1) 0

def L_slices_Contains_bool_bool (a0 : (List Bool)) (a1 : Bool) : Option Bool :=
  (L_slices_Index_bool_bool a0 a1).bind fun r7 =>
  some (decide (r7 ≥ 0))

def L_mark_Done (a0 : TMark) (a1 : Int) : Option Bool :=
  (if a0.Epoch = a1 then
    (L_slices_Contains_bool_bool a0.Open true).bind fun r17 =>
    some (!(r17))
  else
    some false).bind fun b13 =>
  some b13

def L_ref10_Done_l1 (a0 : TMark) (a1 : Int) : Nat → Int → Option Bool
  | 0, _ => none
  | nf + 1, n143 =>
    if n143 < (a0.Open.length : Int) then
      (at? a0.Open n143).bind fun x154 =>
      if x154 = true then
        some false
      else
        L_ref10_Done_l1 a0 a1 nf (IntKind.wrap .i64 (n143 + 1))
    else
      some (decide (a0.Epoch = a1))
def L_ref10_Done (a0 : TMark) (a1 : Int) : Option Bool :=
  L_ref10_Done_l1 a0 a1 (((a0.Open.length : Int) - 0).toNat + 1) 0

def L_law10_fixed : Option Bool :=
  (L_law10_ends 2 5).bind fun r150 =>
  (L_mark_Begin r150 3).bind fun r154 =>
  if (r154.Open.length : Int) = 2 then
    if (r154.P.In.length : Int) = 2 then
      (L_mark_App r154 0 (TMsg.mk 1 2)).bind fun r226 =>
      (L_mark_Marker r226 r150 3 0).bind fun r230 =>
      (L_mark_App r230.1 0 (TMsg.mk 2 0)).bind fun r234 =>
      (L_mark_Marker r234 r150 3 1).bind fun r238 =>
      (L_mark_Marker (TMark.mk 0 [] (TPiece.mk 0 0 0 [] [] [])) r150 4 1).bind fun r242 =>
      (L_mark_Marker r154 r150 3 2).bind fun r246 =>
      if (r238.1.P.In.length : Int) = 2 then
        if (r242.1.Open.length : Int) = 2 then
          if r154.Epoch = 3 then
            (at? r154.Open 0).bind fun x352 =>
            if x352 = true then
              (at? r154.Open 1).bind fun x355 =>
              if x355 = true then
                if r154.P.Steps = 5 then
                  (L_mark_Done r154 3).bind fun r359 =>
                  if r359 = true then
                    none
                  else
                    if r230.2 = true then
                      none
                    else
                      if r238.2 = true then
                        none
                      else
                        (L_mark_Done r238.1 3).bind fun r475 =>
                        if r475 = true then
                          (L_mark_Done r238.1 4).bind fun r478 =>
                          if r478 = true then
                            none
                          else
                            (at? r238.1.P.In 0).bind fun x511 =>
                            (L_ref05_Msgs x511 [(TMsg.mk 1 2)]).bind fun r513 =>
                            if r513 = true then
                              (at? r238.1.P.In 1).bind fun x516 =>
                              if (x516.length : Int) = 0 then
                                if r242.2 = true then
                                  if r242.1.Epoch = 4 then
                                    (at? r242.1.Open 0).bind fun x521 =>
                                    if x521 = true then
                                      (at? r242.1.Open 1).bind fun x524 =>
                                      if x524 = true then
                                        none
                                      else
                                        (L_law10_Ref r246.1).bind fun r541 =>
                                        (L_law10_Ref r154).bind fun r543 =>
                                        (L_ref10_Same r541 r543).bind fun r545 =>
                                        if r545 = true then
                                          if r246.2 = true then
                                            none
                                          else
                                            (L_mark_App (TMark.mk 0 [] (TPiece.mk 0 0 0 [] [] [])) 0 (TMsg.mk 1 2)).bind fun r555 =>
                                            (L_law10_Ref r555).bind fun r557 =>
                                            (L_ref10_Same r557 (TMark.mk 0 [] (TPiece.mk 0 0 0 [] [] []))).bind fun r559 =>
                                            some r559
                                        else none
                                    else none
                                  else none
                                else none
                              else none
                            else none
                        else none
                else none
              else none
            else none
          else none
        else none
      else none
    else none
  else none

def L_law10_MarkDoes_l1 (a2 : (List TOp)) (r1279 : THost) : Nat → Int → Int → TMark → TMark → Option Unit
  | 0, _, _, _, _ => none
  | nf + 1, n2354, n2355, m2356, m2357 =>
    (if n2354 < (a2.length : Int) then
      some (decide (n2354 < 60))
    else
      some false).bind fun b2392 =>
    if b2392 = true then
      (at? a2 n2354).bind fun x2525 =>
      (if x2525.Marker = true then
        (L_mark_Marker m2356 (THost.mk r1279.Node r1279.State n2355 r1279.In r1279.Out) (IntKind.wrap .i64 (1 + (landK .i64 x2525.Epoch 255))) x2525.At).bind fun r2608 =>
        (L_law09_Ref (THost.mk r1279.Node r1279.State n2355 r1279.In r1279.Out)).bind fun r2614 =>
        (L_ref10_Marker m2357 r2614 (IntKind.wrap .i64 (1 + (landK .i64 x2525.Epoch 255))) x2525.At).bind fun r2616 =>
        if r2608.2 = r2616.2 then
          some (r2608.1, r2616.1)
        else none
      else
        (L_mark_App m2356 x2525.At x2525.M).bind fun r2622 =>
        (L_ref10_App m2357 x2525.At x2525.M).bind fun r2624 =>
        some (r2622, r2624)).bind fun ⟨m2590, m2591⟩ =>
      (L_law10_Ref m2590).bind fun r2647 =>
      (L_ref10_Same r2647 m2591).bind fun r2649 =>
      if r2649 = true then
        (L_mark_Done m2590 (IntKind.wrap .i64 (1 + (landK .i64 x2525.Epoch 255)))).bind fun r2652 =>
        (L_ref10_Done m2591 (IntKind.wrap .i64 (1 + (landK .i64 x2525.Epoch 255)))).bind fun r2654 =>
        if r2652 = r2654 then
          (L_mark_Begin (THost.mk r1279.Node r1279.State (IntKind.wrap .i64 (n2355 + 1)) r1279.In r1279.Out) (IntKind.wrap .i64 (1 + (landK .i64 x2525.Epoch 255)))).bind fun r2657 =>
          (L_law10_Ref r2657).bind fun r2659 =>
          (L_law09_Ref (THost.mk r1279.Node r1279.State (IntKind.wrap .i64 (n2355 + 1)) r1279.In r1279.Out)).bind fun r2661 =>
          (L_ref10_Begin r2661 (IntKind.wrap .i64 (1 + (landK .i64 x2525.Epoch 255)))).bind fun r2663 =>
          (L_ref10_Same r2659 r2663).bind fun r2665 =>
          if r2665 = true then
            L_law10_MarkDoes_l1 a2 r1279 nf (IntKind.wrap .i64 (n2354 + 1)) (IntKind.wrap .i64 (n2355 + 1)) m2590 m2591
          else none
        else none
      else none
    else
      some ()
def L_law10_MarkDoes (a0 : Int) (a1 : Int) (a2 : (List TOp)) : Option Bool :=
  (L_law10_ends a0 a1).bind fun r1279 =>
  (L_law10_MarkDoes_l1 a2 r1279 (((a2.length : Int) - 0).toNat + 1) 0 r1279.Steps ((TMark.mk 0 [] (TPiece.mk 0 0 0 [] [] [])) : TMark) ((TMark.mk 0 [] (TPiece.mk 0 0 0 [] [] [])) : TMark)).bind fun _ =>
  (L_law10_fixed).bind fun r2670 =>
  some r2670

def L_law10_MarkRecords_l1 (a2 : (List TOp)) (r1242 : THost) : Nat → Int → TMark → (List Bool) → (List (List TMsg)) → Option (TMark × (List Bool) × (List (List TMsg)))
  | 0, _, _, _, _ => none
  | nf + 1, n2241, m2242, l2243, l2244 =>
    (if n2241 < (a2.length : Int) then
      some (decide (n2241 < 60))
    else
      some false).bind fun b2258 =>
    if b2258 = true then
      ((at? a2 n2241).bind fun x2346 =>
      if x2346.Marker = true then
        (L_mark_Marker m2242 r1242 7 x2346.At).bind fun r2386 =>
        if r2386.2 = true then
          none
        else
          (if x2346.At ≥ 0 then
            some (decide (x2346.At < (r1242.In.length : Int)))
          else
            some false).bind fun b2398 =>
          (if b2398 = true then
            (at? l2243 x2346.At).bind fun x2411 =>
            some (l2243.set x2346.At.toNat true)
          else
            some l2243).bind fun l2405 =>
          some (r2386.1, l2405, l2244)
      else
        (L_mark_App m2242 x2346.At x2346.M).bind fun r2415 =>
        (if x2346.At ≥ 0 then
          if x2346.At < (r1242.In.length : Int) then
            (at? l2243 x2346.At).bind fun x2432 =>
            some (!(x2432))
          else
            some false
        else
          some false).bind fun b2422 =>
        if b2422 = true then
          (at? l2244 x2346.At).bind fun x2438 =>
          if (x2438.length + 1) * 16 ≤ 140737488355328 then
            some (r2415, l2243, (l2244.set x2346.At.toNat (x2438 ++ [x2346.M])))
          else none
        else
          some (r2415, l2243, l2244)).bind fun ⟨m2339, l2340, l2341⟩ =>
      L_law10_MarkRecords_l1 a2 r1242 nf (IntKind.wrap .i64 (n2241 + 1)) m2339 l2340 l2341
    else
      some (m2242, l2243, l2244)
def L_law10_MarkRecords_l2 (l1919 : List Bool) (m1918 : TMark) (r1242 : THost) : Nat → Bool → Int → (List (List TMsg)) → Option Bool
  | 0, _, _, _ => none
  | nf + 1, b2681, n2682, l2683 =>
    if n2682 < (r1242.In.length : Int) then
      (if b2681 = true then
        (at? l1919 n2682).bind fun x2742 =>
        some x2742
      else
        some false).bind fun b2736 =>
      (at? m1918.P.In n2682).bind fun x2750 =>
      (at? l2683 n2682).bind fun x2752 =>
      (L_ref05_Msgs x2750 x2752).bind fun r2754 =>
      if r2754 = true then
        L_law10_MarkRecords_l2 l1919 m1918 r1242 nf b2736 (IntKind.wrap .i64 (n2682 + 1)) (l2683.set n2682.toNat x2752)
      else none
    else
      some b2681
def L_law10_MarkRecords (a0 : Int) (a1 : Int) (a2 : (List TOp)) : Option Bool :=
  (L_law10_ends a0 a1).bind fun r1242 =>
  (L_mark_Begin r1242 7).bind fun r1246 =>
  if 1 * r1242.In.length ≤ 140737488355328 then
    if r1242.In.length ≤ 140737488355328 then
      if 24 * r1242.In.length ≤ 140737488355328 then
        (L_law10_MarkRecords_l1 a2 r1242 (((a2.length : Int) - 0).toNat + 1) 0 r1246 (List.replicate r1242.In.length false) ((List.replicate r1242.In.length []) : List (List TMsg))).bind fun ⟨m1918, l1919, l1920⟩ =>
        if (m1918.P.In.length : Int) = (r1242.In.length : Int) then
          (L_law10_MarkRecords_l2 l1919 m1918 r1242 (((r1242.In.length : Int) - 0).toNat + 1) true 0 l1920).bind fun b2593 =>
          (L_mark_Done m1918 7).bind fun r2765 =>
          if r2765 = b2593 then
            if m1918.P.Node = 1 then
              if m1918.P.State = 2 then
                if m1918.P.Steps = (IntKind.wrap .i64 a1) then
                  (L_law10_fixed).bind fun r2771 =>
                  some r2771
                else none
              else none
            else none
          else none
        else none
      else none
    else none
  else none

def L_law10_MarkEnds_l1 (r590 : THost) : Nat → Int → TMark → Option TMark
  | 0, _, _ => none
  | nf + 1, n999, m1000 =>
    if n999 < (r590.In.length : Int) then
      (L_mark_Marker m1000 r590 1 (IntKind.wrap .i64 ((IntKind.wrap .i64 ((r590.In.length : Int) - 1)) - n999))).bind fun r1012 =>
      L_law10_MarkEnds_l1 r590 nf (IntKind.wrap .i64 (n999 + 1)) r1012.1
    else
      some m1000
def L_law10_MarkEnds_l2 (a1 : (List TOp)) (r1022 : TMark) (r590 : THost) : Nat → Int → TMark → Option TMark
  | 0, _, _ => none
  | nf + 1, n1414, m1415 =>
    (if n1414 < (a1.length : Int) then
      some (decide (n1414 < 30))
    else
      some false).bind fun b1430 =>
    if b1430 = true then
      (at? a1 n1414).bind fun x1483 =>
      (if x1483.Marker = true then
        (L_mark_Marker m1415 r590 1 x1483.At).bind fun r1515 =>
        if r1515.2 = true then
          none
        else
          some r1515.1
      else
        (L_mark_App m1415 x1483.At x1483.M).bind fun r1519 =>
        some r1519).bind fun m1504 =>
      (L_law10_Ref m1504).bind fun r1525 =>
      (L_ref10_Same r1525 r1022).bind fun r1527 =>
      if r1527 = true then
        L_law10_MarkEnds_l2 a1 r1022 r590 nf (IntKind.wrap .i64 (n1414 + 1)) m1504
      else none
    else
      some m1415
def L_law10_MarkEnds (a0 : Int) (a1 : (List TOp)) : Option Bool :=
  (L_law10_ends a0 0).bind fun r590 =>
  (L_mark_Begin r590 1).bind fun r594 =>
  (L_law10_MarkEnds_l1 r590 (((r590.In.length : Int) - 0).toNat + 1) 0 r594).bind fun m974 =>
  (L_mark_Done m974 1).bind fun r1016 =>
  if r1016 = true then
    (L_law10_Ref m974).bind fun r1022 =>
    (L_law10_MarkEnds_l2 a1 r1022 r590 (((a1.length : Int) - 0).toNat + 1) 0 m974).bind fun m1259 =>
    if (r590.In.length : Int) = 0 then
      (L_law10_fixed).bind fun r1552 =>
      some r1552
    else
      (L_mark_Marker m1259 r590 2 0).bind fun r1556 =>
      (L_mark_Marker r1556.1 r590 2 (IntKind.wrap .i64 ((r590.In.length : Int) - 1))).bind fun r1560 =>
      if r1556.2 = true then
        if r1560.2 = true then
          none
        else
          if r1556.1.Epoch = 2 then
            (L_mark_Done r1556.1 2).bind fun r1579 =>
            if r1579 = (decide ((r590.In.length : Int) = 1)) then
              (L_law10_fixed).bind fun r1582 =>
              some r1582
            else none
          else none
      else none
  else none

def L_law10_MarkOrder_l1 (r628 : THost) : Nat → Int → (List Int) → Option (List Int)
  | 0, _, _ => none
  | nf + 1, n1083, l1084 =>
    if n1083 < (r628.In.length : Int) then
      if (l1084.length + 1) * 8 ≤ 140737488355328 then
        L_law10_MarkOrder_l1 r628 nf (IntKind.wrap .i64 (n1083 + 1)) (l1084 ++ [n1083])
      else none
    else
      some l1084
def L_law10_MarkOrder_l2 (a1 : (List Int)) (r628 : THost) : Nat → Int → TMark → (List Int) → Option TMark
  | 0, _, _, _ => none
  | nf + 1, n1579, m1580, l1581 =>
    if n1579 < (r628.In.length : Int) then
      (if n1579 < (a1.length : Int) then
        (at? a1 n1579).bind fun x1695 =>
        if ¬ (l1581.length : Int) = 0 then
          some ((IntKind.wrap .i64 x1695).tmod (l1581.length : Int))
        else none
      else
        some 0).bind fun n1688 =>
      (L_mark_Done m1580 9).bind fun r1700 =>
      if r1700 = true then
        none
      else
        (at? l1581 n1688).bind fun x1722 =>
        (L_mark_Marker m1580 r628 9 x1722).bind fun r1724 =>
        if r1724.2 = true then
          none
        else
          if 0 ≤ n1688 then
            if n1688 ≤ (l1581.length : Int) then
              if (min n1688.toNat l1581.length) * 8 ≤ 140737488355328 then
                if 0 ≤ (IntKind.wrap .i64 (n1688 + 1)) then
                  if (IntKind.wrap .i64 (n1688 + 1)) ≤ (l1581.length : Int) then
                    if ((min n1688.toNat l1581.length) + (min (l1581.length - ((IntKind.wrap .i64 (n1688 + 1)).toNat)) (l1581.length - ((IntKind.wrap .i64 (n1688 + 1)).toNat)))) * 8 ≤ 140737488355328 then
                      L_law10_MarkOrder_l2 a1 r628 nf (IntKind.wrap .i64 (n1579 + 1)) r1724.1 ((l1581.take n1688.toNat) ++ ((l1581.drop ((IntKind.wrap .i64 (n1688 + 1)).toNat)).take (l1581.length - ((IntKind.wrap .i64 (n1688 + 1)).toNat))))
                    else none
                  else none
                else none
              else none
            else none
          else none
    else
      some m1580
def L_law10_MarkOrder (a0 : Int) (a1 : (List Int)) : Option Bool :=
  (L_law10_ends a0 3).bind fun r628 =>
  (L_mark_Begin r628 9).bind fun r632 =>
  (L_law10_MarkOrder_l1 r628 (((r628.In.length : Int) - 0).toNat + 1) 0 ([] : List Int)).bind fun l1072 =>
  (L_law10_MarkOrder_l2 a1 r628 (((r628.In.length : Int) - 0).toNat + 1) 0 r632 l1072).bind fun m1389 =>
  (L_mark_Done m1389 9).bind fun r1763 =>
  if r1763 = true then
    (L_mark_Done m1389 8).bind fun r1766 =>
    if r1766 = true then
      none
    else
      (L_law10_fixed).bind fun r1771 =>
      some r1771
  else none

def L_law10_MarkOwn_l2 (m4180 : TMark) : Nat → Int → (List (List TMsg)) → Option (List (List TMsg))
  | 0, _, _ => none
  | nf + 1, n4571, l4572 =>
    if n4571 < (m4180.P.In.length : Int) then
      (at? m4180.P.In n4571).bind fun x4584 =>
      if x4584.length * 16 ≤ 140737488355328 then
        if (l4572.length + 1) * 24 ≤ 140737488355328 then
          L_law10_MarkOwn_l2 m4180 nf (IntKind.wrap .i64 (n4571 + 1)) (l4572 ++ [x4584])
        else none
      else none
    else
      some l4572
def L_law10_MarkOwn_l1 (a1 : (List TOp)) (r2281 : THost) : Nat → Int → TMark → Option Unit
  | 0, _, _ => none
  | nf + 1, n4179, m4180 =>
    (if n4179 < (a1.length : Int) then
      some (decide (n4179 < 20))
    else
      some false).bind fun b4216 =>
    if b4216 = true then
      (if m4180.Open.length * 1 ≤ 140737488355328 then
        (L_law10_Ref m4180).bind fun r4444 =>
        (L_law10_MarkOwn_l2 m4180 (((m4180.P.In.length : Int) - 0).toNat + 1) 0 ([] : List (List TMsg))).bind fun l4546 =>
        (at? a1 n4179).bind fun x4594 =>
        (L_mark_App m4180 x4594.At x4594.M).bind fun r4596 =>
        (L_mark_App m4180 x4594.At (TMsg.mk 77 0)).bind fun r4598 =>
        (L_mark_Marker m4180 r2281 1 x4594.At).bind fun r4602 =>
        (L_ref10_Same r4444 (TMark.mk m4180.Epoch m4180.Open (TPiece.mk r4444.P.Node r4444.P.State r4444.P.Steps r4444.P.Sent l4546 r4444.P.Out))).bind fun r4606 =>
        if r4606 = true then
          (if x4594.At ≥ 0 then
            if x4594.At < (m4180.Open.length : Int) then
              (at? m4180.Open x4594.At).bind fun x4644 =>
              some x4644
            else
              some false
          else
            some false).bind fun b4634 =>
          (if b4634 = true then
            (at? m4180.P.In x4594.At).bind fun x4704 =>
            if (r4596.P.In.length : Int) = (m4180.P.In.length : Int) then
              if (r4598.P.In.length : Int) = (m4180.P.In.length : Int) then
                (at? r4596.P.In x4594.At).bind fun x4722 =>
                if (x4722.length : Int) = (IntKind.wrap .i64 ((x4704.length : Int) + 1)) then
                  (at? x4722 (x4704.length : Int)).bind fun x4725 =>
                  if x4725 = x4594.M then
                    (at? r4598.P.In x4594.At).bind fun x4728 =>
                    if (x4728.length : Int) = (IntKind.wrap .i64 ((x4704.length : Int) + 1)) then
                      (at? x4728 (x4704.length : Int)).bind fun x4731 =>
                      if x4731.Seq = 77 then
                        some ()
                      else none
                    else none
                  else none
                else none
              else none
            else none
          else
            some ()).bind fun _ =>
          if x4594.Marker = true then
            some r4602.1
          else
            some r4596
        else none
      else none).bind fun m4437 =>
      L_law10_MarkOwn_l1 a1 r2281 nf (IntKind.wrap .i64 (n4179 + 1)) m4437
    else
      some ()
def L_law10_MarkOwn (a0 : Int) (a1 : (List TOp)) : Option Bool :=
  (L_law10_ends a0 3).bind fun r2281 =>
  (L_mark_Begin r2281 1).bind fun r2285 =>
  (L_law10_MarkOwn_l1 a1 r2281 (((a1.length : Int) - 0).toNat + 1) 0 r2285).bind fun _ =>
  (L_law10_fixed).bind fun r4737 =>
  some r4737

def L_law10_MarkAnew_l1 (a1 : (List TOp)) : Nat → Int → TMark → Option TMark
  | 0, _, _ => none
  | nf + 1, n497, m498 =>
    (if n497 < (a1.length : Int) then
      some (decide (n497 < 20))
    else
      some false).bind fun b506 =>
    if b506 = true then
      (at? a1 n497).bind fun x520 =>
      (L_mark_App m498 x520.At x520.M).bind fun r522 =>
      L_law10_MarkAnew_l1 a1 nf (IntKind.wrap .i64 (n497 + 1)) r522
    else
      some m498
def L_law10_MarkAnew_l2 (a2 : Int) (r381 : THost) (r526 : TMark × Bool) : Nat → Int → Option Unit
  | 0, _ => none
  | nf + 1, n937 =>
    if n937 < (r381.In.length : Int) then
      (at? r526.1.Open n937).bind fun x967 =>
      if x967 = (decide (n937 = a2)) then
        none
      else
        (at? r526.1.P.In n937).bind fun x973 =>
        if (x973.length : Int) = 0 then
          L_law10_MarkAnew_l2 a2 r381 r526 nf (IntKind.wrap .i64 (n937 + 1))
        else none
    else
      some ()
def L_law10_MarkAnew (a0 : Int) (a1 : (List TOp)) (a2 : Int) : Option Bool :=
  (L_law10_ends a0 3).bind fun r381 =>
  (L_mark_Begin r381 1).bind fun r385 =>
  (L_law10_MarkAnew_l1 a1 (((a1.length : Int) - 0).toNat + 1) 0 r385).bind fun m462 =>
  (L_mark_Marker m462 (THost.mk r381.Node r381.State 8 r381.In r381.Out) 2 a2).bind fun r526 =>
  (if a2 < 0 then
    some true
  else
    some (decide (a2 ≥ (r381.In.length : Int)))).bind fun b550 =>
  if b550 = true then
    if r526.2 = true then
      none
    else
      (L_law10_Ref r526.1).bind fun r683 =>
      (L_law10_Ref m462).bind fun r685 =>
      (L_ref10_Same r683 r685).bind fun r687 =>
      if r687 = true then
        (L_law10_fixed).bind fun r690 =>
        some r690
      else none
  else
    if r526.2 = true then
      if r526.1.Epoch = 2 then
        if (r526.1.Open.length : Int) = (r381.In.length : Int) then
          if (r526.1.P.In.length : Int) = (r381.In.length : Int) then
            if r526.1.P.Steps = 8 then
              (L_law10_MarkAnew_l2 a2 r381 r526 (((r381.In.length : Int) - 0).toNat + 1) 0).bind fun _ =>
              (L_mark_Done r526.1 2).bind fun r981 =>
              if r981 = (decide ((r381.In.length : Int) = 1)) then
                (L_law10_fixed).bind fun r984 =>
                some r984
              else none
            else none
          else none
        else none
      else none
    else none

end Go.Proofs.Ytkjihlonnhfidaa
