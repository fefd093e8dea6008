/- Functions as typed ones,and that the program's functions answer as these do. No condition. -/
import Derived.Test.YtabbejabdkkaiaaGa
set_option linter.unusedSimpArgs false
set_option linter.unusedVariables false
set_option maxRecDepth 20000
set_option maxHeartbeats 4000000
namespace Go.Proofs.Ytabbejabdkkaiaa
open Go.RowKit

def L_law04_cut_l1 (a0 : TState) : Nat → Int → (List TPick) → Option (List TPick)
 | 0,_,_ => none
 | nf + 1,aa,ab =>
  (if aa < (a0.Picks.length : Int) then
   some (decide (aa < 10))
  else
   some false).bind fun ad =>
  if ad = true then
   (at? a0.Picks aa).bind fun ae =>
   if 0 ≤ (min (ae.Sends.length : Int) 10) then
    if (min (ae.Sends.length : Int) 10) ≤ (ae.Sends.length : Int) then
     (some (ae.Sends.take ((min (ae.Sends.length : Int) 10).toNat))).bind fun af =>
     if af.length * 16 ≤ 140737488355328 then
      if (ab.length + 1) * 32 ≤ 140737488355328 then
       L_law04_cut_l1 a0 nf (IntKind.wrap .i64 (aa + 1)) (ab ++ [(TPick.mk ae.Next af)])
      else none
     else none
    else none
   else none
  else
   some ab
def L_law04_cut_l2 (a0 : TState) (aa : List TPick) (ab : List Int) : Nat → Int → (List TTake) → Option TState
 | 0,_,_ => none
 | nf + 1,ad,ae =>
  (if ad < (a0.Takes.length : Int) then
   some (decide (ad < 30))
  else
   some false).bind fun af =>
  if af = true then
   (at? a0.Takes ad).bind fun ag =>
   if (ae.length + 1) * 24 ≤ 140737488355328 then
    L_law04_cut_l2 a0 aa ab nf (IntKind.wrap .i64 (ad + 1)) (ae ++ [ag])
   else none
  else
   some (TState.mk a0.Mode ab aa ae)
def L_law04_cut (a0 : TState) : Option TState :=
 if 0 ≤ (min (a0.Waits.length : Int) 10) then
  if (min (a0.Waits.length : Int) 10) ≤ (a0.Waits.length : Int) then
   (some (a0.Waits.take ((min (a0.Waits.length : Int) 10).toNat))).bind fun aa =>
   if aa.length * 8 ≤ 140737488355328 then
    (L_law04_cut_l1 a0 (((a0.Picks.length : Int) - 0).toNat + 1) 0 ([] : List TPick)).bind fun ab =>
    L_law04_cut_l2 a0 ab aa (((a0.Takes.length : Int) - 0).toNat + 1) 0 ([] : List TTake)
   else none
  else none
 else none

def L_law04_Cut_l2 (aa : TNode) : Nat → Int → (List TState) → Option (List TState)
 | 0,_,_ => none
 | nf + 1,ab,ad =>
  (if ab < (aa.States.length : Int) then
   some (decide (ab < 10))
  else
   some false).bind fun ae =>
  if ae = true then
   (at? aa.States ab).bind fun af =>
   (L_law04_cut af).bind fun ag =>
   if (ad.length + 1) * 80 ≤ 140737488355328 then
    L_law04_Cut_l2 aa nf (IntKind.wrap .i64 (ab + 1)) (ad ++ [ag])
   else none
  else
   some ad
def L_law04_Cut_l1 (a0 : (List TNode)) : Nat → Int → (List TNode) → Option (List TNode)
 | 0,_,_ => none
 | nf + 1,aa,ab =>
  (if aa < (a0.length : Int) then
   some (decide (aa < 8))
  else
   some false).bind fun ad =>
  if ad = true then
   ((at? a0 aa).bind fun ae =>
   (L_law04_Cut_l2 ae (((ae.States.length : Int) - 0).toNat + 1) 0 ([] : List TState)).bind fun af =>
   if (ab.length + 1) * 32 ≤ 140737488355328 then
    some (ab ++ [(TNode.mk ae.Start af)])
   else none).bind fun ag =>
   L_law04_Cut_l1 a0 nf (IntKind.wrap .i64 (aa + 1)) ag
  else
   some ab
def L_law04_Cut (a0 : (List TNode)) : Option (List TNode) :=
 L_law04_Cut_l1 a0 (((a0.length : Int) - 0).toNat + 1) 0 ([] : List TNode)

def L_law03_Cut (a0 : TGraph) : Option TGraph :=
 if 0 ≤ (min (a0.Links.length : Int) 40) then
  if (min (a0.Links.length : Int) 40) ≤ (a0.Links.length : Int) then
   (some (a0.Links.take ((min (a0.Links.length : Int) 40).toNat))).bind fun aa =>
   some (TGraph.mk a0.N aa)
  else none
 else none

def L_law04_state_l2 (aa : TPick) : Nat → Int → (List TSend) → Option (List TSend)
 | 0,_,_ => none
 | nf + 1,ab,ad =>
  if ab < (aa.Sends.length : Int) then
   (at? aa.Sends ab).bind fun ae =>
   if (ad.length + 1) * 16 ≤ 140737488355328 then
    L_law04_state_l2 aa nf (IntKind.wrap .i64 (ab + 1)) (ad ++ [ae])
   else none
  else
   some ad
def L_law04_state_l1 (a0 : TState) : Nat → Int → (List TPick) → Option (List TPick)
 | 0,_,_ => none
 | nf + 1,aa,ab =>
  if aa < (a0.Picks.length : Int) then
   ((at? a0.Picks aa).bind fun ad =>
   (L_law04_state_l2 ad (((ad.Sends.length : Int) - 0).toNat + 1) 0 ([] : List TSend)).bind fun ae =>
   if (ab.length + 1) * 32 ≤ 140737488355328 then
    some (ab ++ [(TPick.mk ad.Next ae)])
   else none).bind fun af =>
   L_law04_state_l1 a0 nf (IntKind.wrap .i64 (aa + 1)) af
  else
   some ab
def L_law04_state_l3 (a0 : TState) (aa : List TPick) : Nat → Int → (List TTake) → Option TState
 | 0,_,_ => none
 | nf + 1,ab,ad =>
  if ab < (a0.Takes.length : Int) then
   (at? a0.Takes ab).bind fun ae =>
   if (ad.length + 1) * 24 ≤ 140737488355328 then
    L_law04_state_l3 a0 aa nf (IntKind.wrap .i64 (ab + 1)) (ad ++ [ae])
   else none
  else
   some (TState.mk a0.Mode a0.Waits aa ad)
def L_law04_state (a0 : TState) : Option TState :=
 (L_law04_state_l1 a0 (((a0.Picks.length : Int) - 0).toNat + 1) 0 ([] : List TPick)).bind fun aa =>
 L_law04_state_l3 a0 aa (((a0.Takes.length : Int) - 0).toNat + 1) 0 ([] : List TTake)

def L_law04_Ref_l2 (aa : TNode) : Nat → Int → (List TState) → Option (List TState)
 | 0,_,_ => none
 | nf + 1,ab,ad =>
  if ab < (aa.States.length : Int) then
   (at? aa.States ab).bind fun ae =>
   (L_law04_state ae).bind fun af =>
   if (ad.length + 1) * 80 ≤ 140737488355328 then
    L_law04_Ref_l2 aa nf (IntKind.wrap .i64 (ab + 1)) (ad ++ [af])
   else none
  else
   some ad
def L_law04_Ref_l1 (a0 : (List TNode)) : Nat → Int → (List TNode) → Option (List TNode)
 | 0,_,_ => none
 | nf + 1,aa,ab =>
  if aa < (a0.length : Int) then
   ((at? a0 aa).bind fun ad =>
   (L_law04_Ref_l2 ad (((ad.States.length : Int) - 0).toNat + 1) 0 ([] : List TState)).bind fun ae =>
   if (ab.length + 1) * 32 ≤ 140737488355328 then
    some (ab ++ [(TNode.mk ad.Start ae)])
   else none).bind fun af =>
   L_law04_Ref_l1 a0 nf (IntKind.wrap .i64 (aa + 1)) af
  else
   some ab
def L_law04_Ref (a0 : (List TNode)) : Option (List TNode) :=
 L_law04_Ref_l1 a0 (((a0.length : Int) - 0).toNat + 1) 0 ([] : List TNode)

def L_law03_Ref (a0 : TGraph) : Option TGraph :=
 some a0

def L_ref03_Find_l1 (a0 : TGraph) (a1 : Int) (a2 : Int) : Nat → Int → Option Int
 | 0,_ => none
 | nf + 1,aa =>
  if aa < (a0.Links.length : Int) then
   ((at? a0.Links aa).bind fun ab =>
   if ab.a0 = a1 then
    some (decide (ab.a1 = a2))
   else
    some false).bind fun ad =>
   if ad = true then
    some aa
   else
    L_ref03_Find_l1 a0 a1 a2 nf (IntKind.wrap .i64 (aa + 1))
  else
   some (-1)
def L_ref03_Find (a0 : TGraph) (a1 : Int) (a2 : Int) : Option Int :=
 L_ref03_Find_l1 a0 a1 a2 (((a0.Links.length : Int) - 0).toNat + 1) 0

def L_ref03_Dist_l1 (a0 : TGraph) : Nat → Int → (List Int) → Option (List Int)
 | 0,_,_ => none
 | nf + 1,aa,ab =>
  if aa < a0.N then
   if (ab.length + 1) * 8 ≤ 140737488355328 then
    L_ref03_Dist_l1 a0 nf (IntKind.wrap .i64 (aa + 1)) (ab ++ [(-1)])
   else none
  else
   some ab
def L_ref03_Dist_l3 (a0 : TGraph) (aa : Int) : Nat → Int → (List Int) → Option (List Int)
 | 0,_,_ => none
 | nf + 1,ab,ad =>
  if ab < (a0.Links.length : Int) then
   ((at? a0.Links ab).bind fun ae =>
   ((at? ad ae.a0).bind fun af =>
   if af = aa then
    (at? ad ae.a1).bind fun ag =>
    some (decide (ag < 0))
   else
    some false).bind fun ah =>
   if ah = true then
    (at? ad ae.a1).bind fun ai =>
    some (ad.set ae.a1.toNat (IntKind.wrap .i64 (aa + 1)))
   else
    some ad).bind fun aj =>
   L_ref03_Dist_l3 a0 aa nf (IntKind.wrap .i64 (ab + 1)) aj
  else
   some ad
def L_ref03_Dist_l2 (a0 : TGraph) : Nat → Int → (List Int) → Option (List Int)
 | 0,_,_ => none
 | nf + 1,aa,ab =>
  if aa < a0.N then
   ((L_ref03_Dist_l3 a0 aa (((a0.Links.length : Int) - 0).toNat + 1) 0 ab).bind fun ad =>
   some ad).bind fun ae =>
   L_ref03_Dist_l2 a0 nf (IntKind.wrap .i64 (aa + 1)) ae
  else
   some ab
def L_ref03_Dist (a0 : TGraph) (a1 : Int) : Option (List Int) :=
 (if a1 < 0 then
  some true
 else
  some (decide (a1 ≥ a0.N))).bind fun aa =>
 if aa = true then
  some []
 else
  (L_ref03_Dist_l1 a0 ((a0.N - 0).toNat + 1) 0 ([] : List Int)).bind fun ab =>
  (at? ab a1).bind fun ad =>
  L_ref03_Dist_l2 a0 ((a0.N - 0).toNat + 1) 0 (ab.set a1.toNat 0)

def L_ref03_Right_l1 (a0 : TGraph) : Nat → Int → Option (Unit ⊕ Bool)
 | 0,_ => none
 | nf + 1,aa =>
  if aa < (a0.Links.length : Int) then
   (at? a0.Links aa).bind fun ab =>
   (if ab.a0 < 0 then
    some true
   else
    if ab.a0 ≥ a0.N then
     some true
    else
     if ab.a1 < 0 then
      some true
     else
      if ab.a1 ≥ a0.N then
       some true
      else
       if ab.a0 = ab.a1 then
        some true
       else
        (L_ref03_Find a0 ab.a0 ab.a1).bind fun ad =>
        if ad = aa then
         (L_ref03_Find a0 ab.a1 ab.a0).bind fun ae =>
         some (decide (ae < 0))
        else
         some true).bind fun af =>
   if af = true then
    some (.inr false)
   else
    L_ref03_Right_l1 a0 nf (IntKind.wrap .i64 (aa + 1))
  else
   some (.inl ())
def L_ref03_Right_l3 (aa : (List Int)) : Nat → Int → Option (Unit ⊕ Bool)
 | 0,_ => none
 | nf + 1,ab =>
  if ab < (aa.length : Int) then
   (at? aa ab).bind fun ad =>
   if ad < 0 then
    some (.inr false)
   else
    L_ref03_Right_l3 aa nf (IntKind.wrap .i64 (ab + 1))
  else
   some (.inl ())
def L_ref03_Right_l2 (a0 : TGraph) : Nat → Int → Option Bool
 | 0,_ => none
 | nf + 1,aa =>
  if aa < a0.N then
   (((L_ref03_Dist a0 aa).bind fun ab =>
   ((L_ref03_Right_l3 ab (((ab.length : Int) - 0).toNat + 1) 0) : Option (Unit ⊕ Bool)).bind fun ad => match ad with
    | (.inl _) =>
     some (.inl ())
    | (.inr ae) => some (.inr ae)) : Option (Unit ⊕ Bool)).bind fun af => match af with
    | (.inl _) =>
     L_ref03_Right_l2 a0 nf (IntKind.wrap .i64 (aa + 1))
    | (.inr ag) => some ag
  else
   some true
def L_ref03_Right (a0 : TGraph) : Option Bool :=
 (if a0.N < 1 then
  some true
 else
  if a0.N > 6 then
   some true
  else
   some (decide ((a0.Links.length : Int) > 30))).bind fun aa =>
 if aa = true then
  some false
 else
  ((L_ref03_Right_l1 a0 (((a0.Links.length : Int) - 0).toNat + 1) 0) : Option (Unit ⊕ Bool)).bind fun ab => match ab with
   | (.inl _) =>
    L_ref03_Right_l2 a0 ((a0.N - 0).toNat + 1) 0
   | (.inr ad) => some ad

def L_ref04_waits_l1 (a0 : TState) (a1 : Int) (a2 : TGraph) : Nat → Int → Option Bool
 | 0,_ => none
 | nf + 1,aa =>
  if aa < (a0.Waits.length : Int) then
   ((at? a0.Waits aa).bind fun ab =>
   (L_ref03_Find a2 ab a1).bind fun ad =>
   if ad < 0 then
    some true
   else
    if aa > 0 then
     (at? a0.Waits (IntKind.wrap .i64 (aa - 1))).bind fun ae =>
     some (decide (ab ≤ ae))
    else
     some false).bind fun af =>
   if af = true then
    some false
   else
    L_ref04_waits_l1 a0 a1 a2 nf (IntKind.wrap .i64 (aa + 1))
  else
   some (decide ((a0.Waits.length : Int) ≥ 1))
def L_ref04_waits (a0 : TState) (a1 : Int) (a2 : TGraph) : Option Bool :=
 if a0.Mode = 2 then
  L_ref04_waits_l1 a0 a1 a2 (((a0.Waits.length : Int) - 0).toNat + 1) 0
 else
  some (decide ((a0.Waits.length : Int) = 0))

def L_ref04_picks_l2 (a1 : Int) (a3 : TGraph) (aa : TPick) : Nat → Int → Option (Unit ⊕ Bool)
 | 0,_ => none
 | nf + 1,ab =>
  if ab < (aa.Sends.length : Int) then
   ((at? aa.Sends ab).bind fun ad =>
   (L_ref03_Find a3 a1 ad.To).bind fun ae =>
   if ae < 0 then
    some true
   else
    if ad.Letter < 0 then
     some true
    else
     some (decide (ad.Letter > 3))).bind fun af =>
   if af = true then
    some (.inr false)
   else
    L_ref04_picks_l2 a1 a3 aa nf (IntKind.wrap .i64 (ab + 1))
  else
   some (.inl ())
def L_ref04_picks_l1 (a0 : TState) (a1 : Int) (a2 : Int) (a3 : TGraph) : Nat → Int → Option Bool
 | 0,_ => none
 | nf + 1,aa =>
  if aa < (a0.Picks.length : Int) then
   (((at? a0.Picks aa).bind fun ab =>
   (if ab.Next < 0 then
    some true
   else
    if ab.Next ≥ a2 then
     some true
    else
     some (decide ((ab.Sends.length : Int) > 4))).bind fun ad =>
   if ad = true then
    some (.inr false)
   else
    ((L_ref04_picks_l2 a1 a3 ab (((ab.Sends.length : Int) - 0).toNat + 1) 0) : Option (Unit ⊕ Bool)).bind fun ae => match ae with
     | (.inl _) =>
      some (.inl ())
     | (.inr af) => some (.inr af)) : Option (Unit ⊕ Bool)).bind fun ag => match ag with
    | (.inl _) =>
     L_ref04_picks_l1 a0 a1 a2 a3 nf (IntKind.wrap .i64 (aa + 1))
    | (.inr ah) => some ah
  else
   some true
def L_ref04_picks (a0 : TState) (a1 : Int) (a2 : Int) (a3 : TGraph) : Option Bool :=
 (if (a0.Picks.length : Int) > 4 then
  some true
 else
  if (a0.Picks.length : Int) > 0 then
   some (!(decide (a0.Mode = 1)))
  else
   some false).bind fun aa =>
 if aa = true then
  some false
 else
  L_ref04_picks_l1 a0 a1 a2 a3 (((a0.Picks.length : Int) - 0).toNat + 1) 0

def L_ref04_In_l1 (a0 : (List Int)) (a1 : Int) : Nat → Int → Option Bool
 | 0,_ => none
 | nf + 1,aa =>
  if aa < (a0.length : Int) then
   (at? a0 aa).bind fun ab =>
   if ab = a1 then
    some true
   else
    L_ref04_In_l1 a0 a1 nf (IntKind.wrap .i64 (aa + 1))
  else
   some false
def L_ref04_In (a0 : (List Int)) (a1 : Int) : Option Bool :=
 L_ref04_In_l1 a0 a1 (((a0.length : Int) - 0).toNat + 1) 0

def L_ref04_kept_l1 (a0 : TState) (a1 : TState) (a2 : Int) : Nat → Int → Option Bool
 | 0,_ => none
 | nf + 1,aa =>
  if aa < (a0.Waits.length : Int) then
   ((at? a0.Waits aa).bind fun ab =>
   if ab = a2 then
    some false
   else
    if a1.Mode = 2 then
     (L_ref04_In a1.Waits ab).bind fun ad =>
     some (!(ad))
    else
     some true).bind fun ae =>
   if ae = true then
    some false
   else
    L_ref04_kept_l1 a0 a1 a2 nf (IntKind.wrap .i64 (aa + 1))
  else
   some true
def L_ref04_kept (a0 : TState) (a1 : TState) (a2 : Int) : Option Bool :=
 L_ref04_kept_l1 a0 a1 a2 (((a0.Waits.length : Int) - 0).toNat + 1) 0

def L_ref04_takes_l2 (a0 : TState) (aa : Int) (ab : TTake) : Nat → Int → Option (Unit ⊕ Bool)
 | 0,_ => none
 | nf + 1,ad =>
  if ad < aa then
   ((at? a0.Takes ad).bind fun ae =>
   if ae.From = ab.From then
    some (decide (ae.Letter = ab.Letter))
   else
    some false).bind fun af =>
   if af = true then
    some (.inr false)
   else
    L_ref04_takes_l2 a0 aa ab nf (IntKind.wrap .i64 (ad + 1))
  else
   some (.inl ())
def L_ref04_takes_l1 (a0 : TState) (a1 : Int) (a2 : TNode) (a3 : TGraph) : Nat → Int → Option Bool
 | 0,_ => none
 | nf + 1,aa =>
  if aa < (a0.Takes.length : Int) then
   (((at? a0.Takes aa).bind fun ab =>
   ((L_ref03_Find a3 ab.From a1).bind fun ad =>
   if ad < 0 then
    some true
   else
    if ab.Letter < 0 then
     some true
    else
     if ab.Letter > 3 then
      some true
     else
      if ab.Next < 0 then
       some true
      else
       if ab.Next ≥ (a2.States.length : Int) then
        some true
       else
        (at? a2.States ab.Next).bind fun ae =>
        (L_ref04_kept a0 ae ab.From).bind fun af =>
        some (!(af))).bind fun ag =>
   if ag = true then
    some (.inr false)
   else
    ((L_ref04_takes_l2 a0 aa ab ((aa - 0).toNat + 1) 0) : Option (Unit ⊕ Bool)).bind fun ah => match ah with
     | (.inl _) =>
      some (.inl ())
     | (.inr ai) => some (.inr ai)) : Option (Unit ⊕ Bool)).bind fun aj => match aj with
    | (.inl _) =>
     L_ref04_takes_l1 a0 a1 a2 a3 nf (IntKind.wrap .i64 (aa + 1))
    | (.inr ak) => some ak
  else
   some true
def L_ref04_takes (a0 : TState) (a1 : Int) (a2 : TNode) (a3 : TGraph) : Option Bool :=
 L_ref04_takes_l1 a0 a1 a2 a3 (((a0.Takes.length : Int) - 0).toNat + 1) 0

def L_ref04_Right_l2 (a1 : TGraph) (aa : Int) (ab : TNode) : Nat → Int → Option (Unit ⊕ Bool)
 | 0,_ => none
 | nf + 1,ad =>
  if ad < (ab.States.length : Int) then
   (at? ab.States ad).bind fun ae =>
   (if ae.Mode < 0 then
    some true
   else
    if ae.Mode > 2 then
     some true
    else
     (L_ref04_waits ae aa a1).bind fun af =>
     if af = true then
      (L_ref04_picks ae aa (ab.States.length : Int) a1).bind fun ag =>
      if ag = true then
       (L_ref04_takes ae aa ab a1).bind fun ah =>
       some (!(ah))
      else
       some true
     else
      some true).bind fun ai =>
   if ai = true then
    some (.inr false)
   else
    L_ref04_Right_l2 a1 aa ab nf (IntKind.wrap .i64 (ad + 1))
  else
   some (.inl ())
def L_ref04_Right_l1 (a0 : (List TNode)) (a1 : TGraph) : Nat → Int → Option Bool
 | 0,_ => none
 | nf + 1,aa =>
  if aa < (a0.length : Int) then
   (((at? a0 aa).bind fun ab =>
   (if (ab.States.length : Int) < 1 then
    some true
   else
    if (ab.States.length : Int) > 8 then
     some true
    else
     if ab.Start < 0 then
      some true
     else
      some (decide (ab.Start ≥ (ab.States.length : Int)))).bind fun ad =>
   if ad = true then
    some (.inr false)
   else
    ((L_ref04_Right_l2 a1 aa ab (((ab.States.length : Int) - 0).toNat + 1) 0) : Option (Unit ⊕ Bool)).bind fun ae => match ae with
     | (.inl _) =>
      some (.inl ())
     | (.inr af) => some (.inr af)) : Option (Unit ⊕ Bool)).bind fun ag => match ag with
    | (.inl _) =>
     L_ref04_Right_l1 a0 a1 nf (IntKind.wrap .i64 (aa + 1))
    | (.inr ah) => some ah
  else
   some true
def L_ref04_Right (a0 : (List TNode)) (a1 : TGraph) : Option Bool :=
 ((L_ref03_Right a1).bind fun aa =>
 if aa = true then
  some (!(decide ((a0.length : Int) = a1.N)))
 else
  some true).bind fun ab =>
 if ab = true then
  some false
 else
  L_ref04_Right_l1 a0 a1 (((a0.length : Int) - 0).toNat + 1) 0

def L_graph_Graph_node (a0 : TGraph) (a1 : Int) : Option Bool :=
 (if a1 ≥ 0 then
  some (decide (a1 < a0.N))
 else
  some false).bind fun b7 =>
 some b7

def L_graph_turned (a0 : A2I) : Option A2I :=
 some (A2I.mk a0.a1 a0.a0)

def L_math_bits_Mul64 (a0 : Int) (a1 : Int) : Option (Int × Int) :=
 some ((IntKind.wrap .u64 ((IntKind.wrap .u64 ((IntKind.wrap .u64 ((a0.fdiv (2 ^ 32)) * (a1.fdiv (2 ^ 32)))) + ((IntKind.wrap .u64 ((IntKind.wrap .u64 ((a0.fdiv (2 ^ 32)) * (landK .u64 a1 4294967295))) + ((IntKind.wrap .u64 ((landK .u64 a0 4294967295) * (landK .u64 a1 4294967295))).fdiv (2 ^ 32)))).fdiv (2 ^ 32)))) + ((IntKind.wrap .u64 ((landK .u64 (IntKind.wrap .u64 ((IntKind.wrap .u64 ((a0.fdiv (2 ^ 32)) * (landK .u64 a1 4294967295))) + ((IntKind.wrap .u64 ((landK .u64 a0 4294967295) * (landK .u64 a1 4294967295))).fdiv (2 ^ 32)))) 4294967295) + (IntKind.wrap .u64 ((landK .u64 a0 4294967295) * (a1.fdiv (2 ^ 32)))))).fdiv (2 ^ 32)))),(IntKind.wrap .u64 (a0 * a1)))

def L_math_bits_Mul (a0 : Int) (a1 : Int) : Option (Int × Int) :=
 (L_math_bits_Mul64 a0 a1).bind fun r7 =>
 some (r7.1,r7.2)

def L_slices_Repeat_int_int_l1 : Nat → Int → (List Int) → Option (List Int)
 | 0,_,_ => none
 | nf + 1,aa,ab =>
  if aa < (ab.length : Int) then
   if 0 ≤ aa then
    if aa ≤ (ab.length : Int) then
     L_slices_Repeat_int_int_l1 nf (IntKind.wrap .i64 (aa + ((Nat.min (ab.take aa.toNat).length (((ab.drop aa.toNat).take (ab.length - aa.toNat)).length) : Nat) : Int))) (ab.take aa.toNat ++ ((ab.take aa.toNat).take (((ab.drop aa.toNat).take (ab.length - aa.toNat)).length)) ++ ab.drop (aa.toNat + ((ab.take aa.toNat).take (((ab.drop aa.toNat).take (ab.length - aa.toNat)).length)).length))
    else none
   else none
  else
   some ab
def L_slices_Repeat_int_int (a0 : (List Int)) (a1 : Int) : Option (List Int) :=
 if a1 < 0 then
  none
 else
  (L_math_bits_Mul (IntKind.wrap .u64 (a0.length : Int)) (IntKind.wrap .u64 a1)).bind fun aa =>
  (if aa.1 > 0 then
   some true
  else
   some (decide (aa.2 > 9223372036854775807))).bind fun ab =>
  if ab = true then
   none
  else
   if 0 ≤ (IntKind.wrap .i64 aa.2) then
    if 8 * ((IntKind.wrap .i64 aa.2).toNat) ≤ 140737488355328 then
     if ((IntKind.wrap .i64 aa.2).toNat) ≤ 140737488355328 then
      (some (List.replicate ((IntKind.wrap .i64 aa.2).toNat) 0)).bind fun ad =>
      L_slices_Repeat_int_int_l1 (((((a0.take ad.length) ++ ad.drop (a0.take ad.length).length).length : Int) - ((Nat.min a0.length ad.length : Nat) : Int)).toNat + 1) ((Nat.min a0.length ad.length : Nat) : Int) ((a0.take ad.length) ++ ad.drop (a0.take ad.length).length)
     else none
    else none
   else none

def L_graph_of_v1_l1 (a0 : TGraph) (a1 : Int) : Nat → Int → (List Int) → Option (List Int)
 | 0,_,_ => none
 | nf + 1,aa,ab =>
  if aa < (a0.Links.length : Int) then
   ((at? a0.Links aa).bind fun ad =>
   if ad.a0 = a1 then
    if (ab.length + 1) * 8 ≤ 140737488355328 then
     some (ab ++ [aa])
    else none
   else
    some ab).bind fun ae =>
   L_graph_of_v1_l1 a0 a1 nf (IntKind.wrap .i64 (aa + 1)) ae
  else
   some ab
def L_graph_of_v1 (a0 : TGraph) (a1 : Int) : Option (List Int) :=
 L_graph_of_v1_l1 a0 a1 (((a0.Links.length : Int) - 0).toNat + 1) 0 ([] : List Int)

def L_graph_Out (a0 : TGraph) (a1 : Int) : Option (List Int) :=
 (L_graph_of_v1 a0 a1).bind fun r7 =>
 some r7

def L_graph_Dist_l2 (a0 : TGraph) (aa : (List Int)) (ab : Int) : Nat → Int → (List Int) → (List Int) → Option ((List Int) × (List Int))
 | 0,_,_,_ => none
 | nf + 1,ad,ae,af =>
  if ad < (aa.length : Int) then
   ((at? aa ad).bind fun ag =>
   (at? a0.Links ag).bind fun ah =>
   (at? ae ah.a1).bind fun ai =>
   if ai < 0 then
    (at? ae ab).bind fun aj =>
    if (af.length + 1) * 8 ≤ 140737488355328 then
     some ((ae.set ah.a1.toNat (IntKind.wrap .i64 (aj + 1))),(af ++ [ah.a1]))
    else none
   else
    some (ae,af)).bind fun ⟨ak,al⟩ =>
   L_graph_Dist_l2 a0 aa ab nf (IntKind.wrap .i64 (ad + 1)) ak al
  else
   some (ae,af)
def L_graph_Dist_l1 (a0 : TGraph) : Nat → (List Int) → (List Int) → Option (List Int)
 | 0,_,_ => none
 | nf + 1,aa,ab =>
  if (ab.length : Int) = 0 then
   some aa
  else
   (at? ab 0).bind fun ad =>
   if 1 ≤ (ab.length : Int) then
    (L_graph_Out a0 ad).bind fun ae =>
    (L_graph_Dist_l2 a0 ae ad (((ae.length : Int) - 0).toNat + 1) 0 aa (ab.drop 1)).bind fun ⟨af,ag⟩ =>
    L_graph_Dist_l1 a0 nf af ag
   else none
def L_graph_Dist (a0 : TGraph) (a1 : Int) : Option (List Int) :=
 (L_graph_Graph_node a0 a1).bind fun aa =>
 if aa = true then
  (L_slices_Repeat_int_int [(-1)] a0.N).bind fun ab =>
  (at? ab a1).bind fun ad =>
  L_graph_Dist_l1 a0 (a0.N.toNat + 2) (ab.set a1.toNat 0) [a1]
 else
  some []

def L_slices_Index_int_int_l1 (a0 : (List Int)) (a1 : Int) : Nat → Int → Option Int
 | 0,_ => none
 | nf + 1,aa =>
  if aa < (a0.length : Int) then
   (at? a0 aa).bind fun ab =>
   if a1 = ab then
    some aa
   else
    L_slices_Index_int_int_l1 a0 a1 nf (IntKind.wrap .i64 (aa + 1))
  else
   some (-1)
def L_slices_Index_int_int (a0 : (List Int)) (a1 : Int) : Option Int :=
 L_slices_Index_int_int_l1 a0 a1 (((a0.length : Int) - 0).toNat + 1) 0

def L_slices_Contains_int_int (a0 : (List Int)) (a1 : Int) : Option Bool :=
 (L_slices_Index_int_int a0 a1).bind fun r7 =>
 some (decide (r7 ≥ 0))

def L_graph_Right_l1 (a0 : TGraph) : Nat → Int → NMap → Option (NMap ⊕ Bool)
 | 0,_,_ => none
 | nf + 1,aa,ab =>
  if aa < (a0.Links.length : Int) then
   (at? a0.Links aa).bind fun ad =>
   ((L_graph_Graph_node a0 ad.a0).bind fun ae =>
   if ae = true then
    (L_graph_Graph_node a0 ad.a1).bind fun af =>
    if af = true then
     if ad.a0 = ad.a1 then
      some true
     else
      some (decide ((mGetI ab [ad.a0,ad.a1]) > 0))
    else
     some true
   else
    some true).bind fun ag =>
   if ag = true then
    some (.inr false)
   else
    L_graph_Right_l1 a0 nf (IntKind.wrap .i64 (aa + 1)) (mPutI ab [ad.a0,ad.a1] (IntKind.wrap .i64 ((mGetI ab [ad.a0,ad.a1]) + 1)))
  else
   some (.inl ab)
def L_graph_Right_l2 (a0 : TGraph) (aa : NMap) : Nat → Int → Option (Unit ⊕ Bool)
 | 0,_ => none
 | nf + 1,ab =>
  if ab < (a0.Links.length : Int) then
   (at? a0.Links ab).bind fun ad =>
   (L_graph_turned ad).bind fun ae =>
   if (mGetI aa [ae.a0,ae.a1]) = 0 then
    some (.inr false)
   else
    L_graph_Right_l2 a0 aa nf (IntKind.wrap .i64 (ab + 1))
  else
   some (.inl ())
def L_graph_Right (a0 : TGraph) : Option Bool :=
 (if a0.N < 1 then
  some true
 else
  if a0.N > 6 then
   some true
  else
   some (decide ((a0.Links.length : Int) > 30))).bind fun aa =>
 if aa = true then
  some false
 else
  ((L_graph_Right_l1 a0 (((a0.Links.length : Int) - 0).toNat + 1) 0 ([] : NMap)) : Option (NMap ⊕ Bool)).bind fun ab => match ab with
   | (.inl ad) =>
    ((L_graph_Right_l2 a0 ad (((a0.Links.length : Int) - 0).toNat + 1) 0) : Option (Unit ⊕ Bool)).bind fun ae => match ae with
     | (.inl _) =>
      (L_graph_Dist a0 0).bind fun af =>
      (L_slices_Contains_int_int af (-1)).bind fun ag =>
      some (!(ag))
     | (.inr ah) => some ah
   | (.inr ai) => some ai

def L_table_place_may_1 (a0 : TPlace) : Option (Bool × TPlace) :=
 (if a0.State.Mode ≥ 0 then
  some (decide (a0.State.Mode < 3))
 else
  some false).bind fun b7 =>
 some (b7,a0)

def L_graph_Find_l1 (a0 : TGraph) (a1 : Int) (a2 : Int) : Nat → Int → Option Int
 | 0,_ => none
 | nf + 1,aa =>
  if aa < (a0.Links.length : Int) then
   (at? a0.Links aa).bind fun ab =>
   if ab = (A2I.mk a1 a2) then
    some aa
   else
    L_graph_Find_l1 a0 a1 a2 nf (IntKind.wrap .i64 (aa + 1))
  else
   some (-1)
def L_graph_Find (a0 : TGraph) (a1 : Int) (a2 : Int) : Option Int :=
 L_graph_Find_l1 a0 a1 a2 (((a0.Links.length : Int) - 0).toNat + 1) 0

def L_table_place_in (a0 : TPlace) (a1 : Int) : Option Bool :=
 (L_graph_Find a0.g a1 a0.n).bind fun r7 =>
 some (decide (r7 ≥ 0))

def L_table_place_waits_l1 (a0 : TPlace) : Nat → Int → Option Bool
 | 0,_ => none
 | nf + 1,aa =>
  if aa < (a0.State.Waits.length : Int) then
   (at? a0.State.Waits aa).bind fun ab =>
   ((L_table_place_in a0 ab).bind fun ad =>
   if ad = true then
    if aa > 0 then
     (at? a0.State.Waits (IntKind.wrap .i64 (aa - 1))).bind fun ae =>
     some (decide (ae ≥ ab))
    else
     some false
   else
    some true).bind fun af =>
   if af = true then
    some false
   else
    L_table_place_waits_l1 a0 nf (IntKind.wrap .i64 (aa + 1))
  else
   some (decide ((a0.State.Waits.length : Int) > 0))
def L_table_place_waits (a0 : TPlace) : Option Bool :=
 if a0.State.Mode = 2 then
  L_table_place_waits_l1 a0 (((a0.State.Waits.length : Int) - 0).toNat + 1) 0
 else
  some (decide ((a0.State.Waits.length : Int) = 0))

def L_table_place_state (a0 : TPlace) (a1 : Int) : Option Bool :=
 (if a1 ≥ 0 then
  some (decide (a1 < (a0.node.States.length : Int)))
 else
  some false).bind fun b7 =>
 some b7

def L_table_letter (a0 : Int) : Option Bool :=
 (if a0 ≥ 0 then
  some (decide (a0 < 4))
 else
  some false).bind fun b7 =>
 some b7

def L_table_place_picks_1 (a0 : TSend) (a1 : TPlace) : Option (Bool × TPlace) :=
 ((L_graph_Find a1.g a1.n a0.To).bind fun aa =>
 if aa < 0 then
  some true
 else
  (L_table_letter a0.Letter).bind fun ab =>
  some (!(ab))).bind fun ad =>
 some (ad,a1)

def L_slices_IndexFunc_table_Send_table_Send_l1 (a0 : (List TSend)) : Nat → Int → TPlace → Option (Int × TPlace)
 | 0,_,_ => none
 | nf + 1,aa,ab =>
  if aa < (a0.length : Int) then
   (at? a0 aa).bind fun ad =>
   (L_table_place_picks_1 ad ab).bind fun ae =>
   if ae.1 = true then
    some (aa,ae.2)
   else
    L_slices_IndexFunc_table_Send_table_Send_l1 a0 nf (IntKind.wrap .i64 (aa + 1)) ae.2
  else
   some ((-1),ab)
def L_slices_IndexFunc_table_Send_table_Send (a0 : (List TSend)) (a1 : TPlace) : Option (Int × TPlace) :=
 L_slices_IndexFunc_table_Send_table_Send_l1 a0 (((a0.length : Int) - 0).toNat + 1) 0 a1

def L_slices_ContainsFunc_table_Send_table_Send (a0 : (List TSend)) (a1 : TPlace) : Option (Bool × TPlace) :=
 (L_slices_IndexFunc_table_Send_table_Send a0 a1).bind fun r7 =>
 some (decide (r7.1 ≥ 0),r7.2)

def L_table_place_picks_l1 (a0 : TPlace) : Nat → Int → TPlace → Option Bool
 | 0,_,_ => none
 | nf + 1,aa,ab =>
  if aa < (a0.State.Picks.length : Int) then
   (at? a0.State.Picks aa).bind fun ad =>
   ((L_table_place_state ab ad.Next).bind fun ae =>
   if ae = true then
    if (ad.Sends.length : Int) > 4 then
     some (true,ab)
    else
     (L_slices_ContainsFunc_table_Send_table_Send ad.Sends ab).bind fun af =>
     some (af.1,af.2)
   else
    some (true,ab)).bind fun ⟨ag,ah⟩ =>
   if ag = true then
    some false
   else
    L_table_place_picks_l1 a0 nf (IntKind.wrap .i64 (aa + 1)) ah
  else
   some true
def L_table_place_picks (a0 : TPlace) : Option Bool :=
 (if (a0.State.Picks.length : Int) > 4 then
  some true
 else
  if a0.State.Mode = 1 then
   some false
  else
   some (decide ((a0.State.Picks.length : Int) > 0))).bind fun aa =>
 if aa = true then
  some false
 else
  L_table_place_picks_l1 a0 (((a0.State.Picks.length : Int) - 0).toNat + 1) 0 a0

def L_table_place_takes_1 (a0 : TTake) (a1 : TTake) : Option (Bool × TTake) :=
 (if a0.From = a1.From then
  some (decide (a0.Letter = a1.Letter))
 else
  some false).bind fun b7 =>
 some (b7,a1)

def L_slices_IndexFunc_table_Take_table_Take_l1 (a0 : (List TTake)) : Nat → Int → TTake → Option (Int × TTake)
 | 0,_,_ => none
 | nf + 1,aa,ab =>
  if aa < (a0.length : Int) then
   (at? a0 aa).bind fun ad =>
   (L_table_place_takes_1 ad ab).bind fun ae =>
   if ae.1 = true then
    some (aa,ae.2)
   else
    L_slices_IndexFunc_table_Take_table_Take_l1 a0 nf (IntKind.wrap .i64 (aa + 1)) ae.2
  else
   some ((-1),ab)
def L_slices_IndexFunc_table_Take_table_Take (a0 : (List TTake)) (a1 : TTake) : Option (Int × TTake) :=
 L_slices_IndexFunc_table_Take_table_Take_l1 a0 (((a0.length : Int) - 0).toNat + 1) 0 a1

def L_slices_ContainsFunc_table_Take_table_Take (a0 : (List TTake)) (a1 : TTake) : Option (Bool × TTake) :=
 (L_slices_IndexFunc_table_Take_table_Take a0 a1).bind fun r7 =>
 some (decide (r7.1 ≥ 0),r7.2)

def L_table_place_takes_l1 (a0 : TPlace) : Nat → Int → Option Bool
 | 0,_ => none
 | nf + 1,aa =>
  if aa < (a0.State.Takes.length : Int) then
   (at? a0.State.Takes aa).bind fun ab =>
   ((L_table_place_in a0 ab.From).bind fun ad =>
   if ad = true then
    (L_table_letter ab.Letter).bind fun ae =>
    if ae = true then
     (L_table_place_state a0 ab.Next).bind fun af =>
     if af = true then
      if 0 ≤ aa then
       if aa ≤ (a0.State.Takes.length : Int) then
        (some (a0.State.Takes.take aa.toNat)).bind fun ag =>
        (L_slices_ContainsFunc_table_Take_table_Take ag ab).bind fun ah =>
        some ah.1
       else none
      else none
     else
      some true
    else
     some true
   else
    some true).bind fun ai =>
   if ai = true then
    some false
   else
    L_table_place_takes_l1 a0 nf (IntKind.wrap .i64 (aa + 1))
  else
   some true
def L_table_place_takes (a0 : TPlace) : Option Bool :=
 L_table_place_takes_l1 a0 (((a0.State.Takes.length : Int) - 0).toNat + 1) 0

def L_table_place_stays_l2 (a0 : TPlace) (aa : TTake) : Nat → Int → Option (Unit ⊕ Bool)
 | 0,_ => none
 | nf + 1,ab =>
  if ab < (a0.State.Waits.length : Int) then
   (at? a0.State.Waits ab).bind fun ad =>
   (at? a0.node.States aa.Next).bind fun ae =>
   (if ad = aa.From then
    some false
   else
    if ae.Mode = 2 then
     (L_slices_Contains_int_int ae.Waits ad).bind fun af =>
     some (!(af))
    else
     some true).bind fun ag =>
   if ag = true then
    some (.inr false)
   else
    L_table_place_stays_l2 a0 aa nf (IntKind.wrap .i64 (ab + 1))
  else
   some (.inl ())
def L_table_place_stays_l1 (a0 : TPlace) : Nat → Int → Option Bool
 | 0,_ => none
 | nf + 1,aa =>
  if aa < (a0.State.Takes.length : Int) then
   (((at? a0.State.Takes aa).bind fun ab =>
   ((L_table_place_stays_l2 a0 ab (((a0.State.Waits.length : Int) - 0).toNat + 1) 0) : Option (Unit ⊕ Bool)).bind fun ad => match ad with
    | (.inl _) =>
     some (.inl ())
    | (.inr ae) => some (.inr ae)) : Option (Unit ⊕ Bool)).bind fun af => match af with
    | (.inl _) =>
     L_table_place_stays_l1 a0 nf (IntKind.wrap .i64 (aa + 1))
    | (.inr ag) => some ag
  else
   some true
def L_table_place_stays (a0 : TPlace) : Option Bool :=
 L_table_place_stays_l1 a0 (((a0.State.Takes.length : Int) - 0).toNat + 1) 0

def L_table_place_may (a0 : TPlace) : Option Bool :=
 (L_table_place_may_1 a0).bind fun aa =>
 if aa.1 = true then
  (L_table_place_waits a0).bind fun ab =>
  if ab = true then
   (L_table_place_picks a0).bind fun ad =>
   if ad = true then
    (L_table_place_takes a0).bind fun ae =>
    if ae = true then
     (L_table_place_stays a0).bind fun af =>
     if af = true then
      some true
     else
      some false
    else
     some false
   else
    some false
  else
   some false
 else
  some false

def L_table_Right_l2 (a1 : TGraph) (aa : Int) (ab : TNode) : Nat → Int → Option (Unit ⊕ Bool)
 | 0,_ => none
 | nf + 1,ad =>
  if ad < (ab.States.length : Int) then
   (at? ab.States ad).bind fun ae =>
   (L_table_place_may (TPlace.mk ae aa ab a1)).bind fun af =>
   if af = true then
    L_table_Right_l2 a1 aa ab nf (IntKind.wrap .i64 (ad + 1))
   else
    some (.inr false)
  else
   some (.inl ())
def L_table_Right_l1 (a0 : (List TNode)) (a1 : TGraph) : Nat → Int → Option Bool
 | 0,_ => none
 | nf + 1,aa =>
  if aa < (a0.length : Int) then
   (((at? a0 aa).bind fun ab =>
   (if (ab.States.length : Int) < 1 then
    some true
   else
    if (ab.States.length : Int) > 8 then
     some true
    else
     if ab.Start < 0 then
      some true
     else
      some (decide (ab.Start ≥ (ab.States.length : Int)))).bind fun ad =>
   if ad = true then
    some (.inr false)
   else
    ((L_table_Right_l2 a1 aa ab (((ab.States.length : Int) - 0).toNat + 1) 0) : Option (Unit ⊕ Bool)).bind fun ae => match ae with
     | (.inl _) =>
      some (.inl ())
     | (.inr af) => some (.inr af)) : Option (Unit ⊕ Bool)).bind fun ag => match ag with
    | (.inl _) =>
     L_table_Right_l1 a0 a1 nf (IntKind.wrap .i64 (aa + 1))
    | (.inr ah) => some ah
  else
   some true
def L_table_Right (a0 : (List TNode)) (a1 : TGraph) : Option Bool :=
 ((L_graph_Right a1).bind fun aa =>
 if aa = true then
  some (!(decide ((a0.length : Int) = a1.N)))
 else
  some true).bind fun ab =>
 if ab = true then
  some false
 else
  L_table_Right_l1 a0 a1 (((a0.length : Int) - 0).toNat + 1) 0

def L_law04_two : Option (List TNode) :=
 some ([(TNode.mk 0 ([(TState.mk 1 [] ([(TPick.mk 1 [(TSend.mk 1 1)])]) [])] ++ [(TState.mk 0 [] [] [])]))] ++ [(TNode.mk 0 ([(TState.mk 2 [0] [] [(TTake.mk 0 1 1)])] ++ [(TState.mk 0 [] [] [])]))])

def L_graph_Full_l2 (a0 : Int) (aa : Int) : Nat → Int → (List A2I) → Option (List A2I)
 | 0,_,_ => none
 | nf + 1,ab,ad =>
  if ab < (min (max a0 1) 6) then
   (if aa = ab then
    some ad
   else
    if (ad.length + 1) * 16 ≤ 140737488355328 then
     some (ad ++ [(A2I.mk aa ab)])
    else none).bind fun ae =>
   L_graph_Full_l2 a0 aa nf (IntKind.wrap .i64 (ab + 1)) ae
  else
   some ad
def L_graph_Full_l1 (a0 : Int) : Nat → Int → (List A2I) → Option TGraph
 | 0,_,_ => none
 | nf + 1,aa,ab =>
  if aa < (min (max a0 1) 6) then
   ((L_graph_Full_l2 a0 aa (((min (max a0 1) 6) - 0).toNat + 1) 0 ab).bind fun ad =>
   some ad).bind fun ae =>
   L_graph_Full_l1 a0 nf (IntKind.wrap .i64 (aa + 1)) ae
  else
   some (TGraph.mk (min (max a0 1) 6) ab)
def L_graph_Full (a0 : Int) : Option TGraph :=
 L_graph_Full_l1 a0 (((min (max a0 1) 6) - 0).toNat + 1) 0 ([] : List A2I)

def L_table_at (a0 : (List TNode)) (a1 : Int) (a2 : Int) : Option (TState × Bool) :=
 (if a1 < 0 then
  some true
 else
  if a1 ≥ (a0.length : Int) then
   some true
  else
   if a2 < 0 then
    some true
   else
    (at? a0 a1).bind fun aa =>
    some (decide (a2 ≥ (aa.States.length : Int)))).bind fun ab =>
 if ab = true then
  some ((TState.mk 0 [] [] []),false)
 else
  (at? a0 a1).bind fun ad =>
  (at? ad.States a2).bind fun ae =>
  some (ae,true)

def L_slices_Clone_table_Send_table_Send (a0 : (List TSend)) : Option (List TSend) :=
 if a0.length * 16 ≤ 140737488355328 then
  some a0
 else none

def L_table_Picked (a0 : (List TNode)) (a1 : Int) (a2 : Int) (a3 : Int) : Option (TPick × Bool) :=
 (L_table_at a0 a1 a2).bind fun aa =>
 (if a3 < 0 then
  some true
 else
  some (decide (a3 ≥ (aa.1.Picks.length : Int)))).bind fun ab =>
 if ab = true then
  some ((TPick.mk 0 []),false)
 else
  (at? aa.1.Picks a3).bind fun ad =>
  (L_slices_Clone_table_Send_table_Send ad.Sends).bind fun ae =>
  some ((TPick.mk ad.Next ae),true)

def L_table_Mode (a0 : (List TNode)) (a1 : Int) (a2 : Int) : Option Int :=
 (L_table_at a0 a1 a2).bind fun r7 =>
 some r7.1.Mode

def L_slices_Clone_int_int (a0 : (List Int)) : Option (List Int) :=
 if a0.length * 8 ≤ 140737488355328 then
  some a0
 else none

def L_table_Waits (a0 : (List TNode)) (a1 : Int) (a2 : Int) : Option (List Int) :=
 (L_table_at a0 a1 a2).bind fun aa =>
 (L_slices_Clone_int_int aa.1.Waits).bind fun ab =>
 some ab

def L_ref01_Ints_l1 (a0 : (List Int)) (a1 : (List Int)) : Nat → Int → Option Bool
 | 0,_ => none
 | nf + 1,aa =>
  if aa < (a0.length : Int) then
   (at? a0 aa).bind fun ab =>
   (at? a1 aa).bind fun ad =>
   if ab = ad then
    L_ref01_Ints_l1 a0 a1 nf (IntKind.wrap .i64 (aa + 1))
   else
    some false
  else
   some true
def L_ref01_Ints (a0 : (List Int)) (a1 : (List Int)) : Option Bool :=
 if (a0.length : Int) = (a1.length : Int) then
  L_ref01_Ints_l1 a0 a1 (((a0.length : Int) - 0).toNat + 1) 0
 else
  some false

def L_table_Taken_l1 (a2 : Int) (a3 : Int) (a4 : Int) (aa : TState × Bool) : Nat → Int → Option Int
 | 0,_ => none
 | nf + 1,ab =>
  if ab < (aa.1.Takes.length : Int) then
   (at? aa.1.Takes ab).bind fun ad =>
   (if ad.From = a3 then
    some (decide (ad.Letter = a4))
   else
    some false).bind fun ae =>
   if ae = true then
    some ad.Next
   else
    L_table_Taken_l1 a2 a3 a4 aa nf (IntKind.wrap .i64 (ab + 1))
  else
   some a2
def L_table_Taken (a0 : (List TNode)) (a1 : Int) (a2 : Int) (a3 : Int) (a4 : Int) : Option Int :=
 (L_table_at a0 a1 a2).bind fun aa =>
 L_table_Taken_l1 a2 a3 a4 aa (((aa.1.Takes.length : Int) - 0).toNat + 1) 0

def L_law04_fixed : Option Bool :=
 (L_law04_two).bind fun aa =>
 (L_graph_Full 2).bind fun ab =>
 (L_table_Picked aa 0 0 0).bind fun ad =>
 (L_table_Picked aa 0 0 1).bind fun ae =>
 (at? aa 1).bind fun af =>
 (at? af.States 0).bind fun ag =>
 (at? aa 0).bind fun ah =>
 (at? ah.States 0).bind fun ai =>
 (L_table_Right aa ab).bind fun aj =>
 if aj = true then
  (L_graph_Full 3).bind fun ak =>
  (L_table_Right aa ak).bind fun al =>
  if al = true then none
  else
   (L_table_Right [] (TGraph.mk 0 [])).bind fun am =>
   if am = true then none
   else
    (L_table_Right (aa.set 1 (TNode.mk af.Start (af.States.set 0 (TState.mk ag.Mode [1] ag.Picks ag.Takes)))) ab).bind fun an =>
    if an = true then none
    else
     (L_table_Right (aa.set 0 (TNode.mk ah.Start (ah.States.set 0 (TState.mk 0 ai.Waits ai.Picks ai.Takes)))) ab).bind fun ao =>
     if ao = true then none
     else
      (L_table_Mode aa 0 0).bind fun ap =>
      if ap = 1 then
       (L_table_Mode aa 1 0).bind fun aq =>
       if aq = 2 then
        (L_table_Mode aa 9 0).bind fun ar =>
        if ar = 0 then
         (L_table_Waits aa 1 0).bind fun au =>
         (L_ref01_Ints au [0]).bind fun av =>
         if av = true then
          (L_table_Waits aa 0 0).bind fun aw =>
          if (aw.length : Int) = 0 then
           if ad.2 = true then
            if ad.1.Next = 1 then
             if (ad.1.Sends.length : Int) = 1 then
              if ae.2 = true then none
              else
               (L_table_Taken aa 1 0 0 1).bind fun ax =>
               if ax = 1 then
                (L_table_Taken aa 1 0 0 2).bind fun ay =>
                if ay = 0 then
                 (L_table_Taken aa 5 7 0 0).bind fun az =>
                 if az = 7 then
                  some true
                 else none
                else none
               else none
             else none
            else none
           else none
          else none
         else none
        else none
       else none
      else none
 else none

end Go.Proofs.Ytabbejabdkkaiaa
