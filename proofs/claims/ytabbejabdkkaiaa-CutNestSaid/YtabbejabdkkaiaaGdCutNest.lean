/- Functions as typed ones,and that the program's functions answer as these do. No condition. -/
import Derived.Test.YtabbejabdkkaiaaGd
set_option linter.unusedSimpArgs false
set_option linter.unusedVariables false
set_option maxRecDepth 20000
set_option maxHeartbeats 4000000
namespace Go.Proofs.Ytabbejabdkkaiaa
open Go.RowKit

def L_law17_CutNest_l1 (a1 : TCut) (a2 : (List Int)) (r343 : TApp) : Nat → Int → (List Int) → (List Int) → Option ((List Int) × (List Int))
 | 0,_,_,_ => none
 | nf + 1,n717,l718,l719 =>
  if n717 < r343.G.N then
   (if n717 < (a1.Counts.length : Int) then
    (at? a1.Counts n717).bind fun x771 =>
    some x771
   else
    some 0).bind fun n765 =>
   (if n717 < (a2.length : Int) then
    (at? a2 n717).bind fun x786 =>
    some x786
   else
    some 0).bind fun n780 =>
   if (l718.length + 1) * 8 ≤ 140737488355328 then
    if (l719.length + 1) * 8 ≤ 140737488355328 then
     L_law17_CutNest_l1 a1 a2 r343 nf (IntKind.wrap .i64 (n717 + 1)) (l718 ++ [(min n765 n780)]) (l719 ++ [(max n765 n780)])
    else none
   else none
  else
   some (l718,l719)
def L_law17_CutNest (a0 : TApp) (a1 : TCut) (a2 : (List Int)) : Option Bool :=
 (L_law05_Cut a0).bind fun r343 =>
 (L_law05_App r343).bind fun r347 =>
 (L_ref05_Start r347).bind fun r351 =>
 (L_ref05_Right r347 r351).bind fun r355 =>
 if r355 = true then
  (L_law17_doable r343 r351 a1.Steps 30).bind fun r466 =>
  (L_law17_CutNest_l1 a1 a2 r343 ((r343.G.N - 0).toNat + 1) 0 ([] : List Int) ([] : List Int)).bind fun ⟨l628,l629⟩ =>
  ((L_cut_Good r343 r351 r466 a1.Counts).bind fun r810 =>
  if r810 = true then
   (L_cut_Good r343 r351 r466 a2).bind fun r815 =>
   some (!(r815))
  else
   some true).bind fun b807 =>
  if b807 = true then
   (L_law17_fixed).bind fun r835 =>
   some r835
  else
   (L_cut_Good r343 r351 r466 l628).bind fun r845 =>
   if r845 = true then
    (L_cut_Good r343 r351 r466 l629).bind fun r848 =>
    if r848 = true then
     (L_law17_fixed).bind fun r851 =>
     some r851
    else none
   else none
 else
  (L_law17_fixed).bind fun r855 =>
  some r855

end Go.Proofs.Ytabbejabdkkaiaa
