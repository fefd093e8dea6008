/- Functions as typed ones,and that the program's functions answer as these do. No condition. -/
import Derived.Test.YtabbejabdkkaiaaGreatGa
set_option linter.unusedSimpArgs false
set_option linter.unusedVariables false
set_option maxRecDepth 20000
set_option maxHeartbeats 4000000
namespace Go.Proofs.YtabbejabdkkaiaaGreat
open Go.RowKit

def L_law03_Cut (a0 : TGraph) : Option TGraph :=
 if 0 ≤ (min (a0.Links.length : Int) 40) then
  if (min (a0.Links.length : Int) 40) ≤ (a0.Links.length : Int) then
   (some (a0.Links.take ((min (a0.Links.length : Int) 40).toNat))).bind fun aa =>
   some (TGraph.mk a0.N aa)
  else none
 else none

def L_law04_cut_l1 (a0 : TState) : Nat → Int → (List TPick) → Option (List TPick)
 | 0,_,_ => none
 | nf + 1,aa,ab =>
  (if aa < (a0.Picks.length : Int) then
   some (decide (aa < 10))
  else
   some false).bind fun ad =>
  if ad = true then
   (at? a0.Picks aa).bind fun ae =>
   if 0 ≤ (min (ae.Sends.length : Int) 10) then
    if (min (ae.Sends.length : Int) 10) ≤ (ae.Sends.length : Int) then
     (some (ae.Sends.take ((min (ae.Sends.length : Int) 10).toNat))).bind fun af =>
     if af.length * 16 ≤ 140737488355328 then
      if (ab.length + 1) * 32 ≤ 140737488355328 then
       L_law04_cut_l1 a0 nf (IntKind.wrap .i64 (aa + 1)) (ab ++ [(TPick.mk ae.Next af)])
      else none
     else none
    else none
   else none
  else
   some ab
def L_law04_cut_l2 (a0 : TState) (aa : List TPick) (ab : List Int) : Nat → Int → (List TTake) → Option TState
 | 0,_,_ => none
 | nf + 1,ad,ae =>
  (if ad < (a0.Takes.length : Int) then
   some (decide (ad < 30))
  else
   some false).bind fun af =>
  if af = true then
   (at? a0.Takes ad).bind fun ag =>
   if (ae.length + 1) * 24 ≤ 140737488355328 then
    L_law04_cut_l2 a0 aa ab nf (IntKind.wrap .i64 (ad + 1)) (ae ++ [ag])
   else none
  else
   some (TState.mk a0.Mode ab aa ae)
def L_law04_cut (a0 : TState) : Option TState :=
 if 0 ≤ (min (a0.Waits.length : Int) 10) then
  if (min (a0.Waits.length : Int) 10) ≤ (a0.Waits.length : Int) then
   (some (a0.Waits.take ((min (a0.Waits.length : Int) 10).toNat))).bind fun aa =>
   if aa.length * 8 ≤ 140737488355328 then
    (L_law04_cut_l1 a0 (((a0.Picks.length : Int) - 0).toNat + 1) 0 ([] : List TPick)).bind fun ab =>
    L_law04_cut_l2 a0 ab aa (((a0.Takes.length : Int) - 0).toNat + 1) 0 ([] : List TTake)
   else none
  else none
 else none

def L_law04_Cut_l2 (aa : TNode) : Nat → Int → (List TState) → Option (List TState)
 | 0,_,_ => none
 | nf + 1,ab,ad =>
  (if ab < (aa.States.length : Int) then
   some (decide (ab < 10))
  else
   some false).bind fun ae =>
  if ae = true then
   (at? aa.States ab).bind fun af =>
   (L_law04_cut af).bind fun ag =>
   if (ad.length + 1) * 80 ≤ 140737488355328 then
    L_law04_Cut_l2 aa nf (IntKind.wrap .i64 (ab + 1)) (ad ++ [ag])
   else none
  else
   some ad
def L_law04_Cut_l1 (a0 : (List TNode)) : Nat → Int → (List TNode) → Option (List TNode)
 | 0,_,_ => none
 | nf + 1,aa,ab =>
  (if aa < (a0.length : Int) then
   some (decide (aa < 8))
  else
   some false).bind fun ad =>
  if ad = true then
   ((at? a0 aa).bind fun ae =>
   (L_law04_Cut_l2 ae (((ae.States.length : Int) - 0).toNat + 1) 0 ([] : List TState)).bind fun af =>
   if (ab.length + 1) * 32 ≤ 140737488355328 then
    some (ab ++ [(TNode.mk ae.Start af)])
   else none).bind fun ag =>
   L_law04_Cut_l1 a0 nf (IntKind.wrap .i64 (aa + 1)) ag
  else
   some ab
def L_law04_Cut (a0 : (List TNode)) : Option (List TNode) :=
 L_law04_Cut_l1 a0 (((a0.length : Int) - 0).toNat + 1) 0 ([] : List TNode)

def L_law05_Cut (a0 : TApp) : Option TApp :=
 (L_law03_Cut a0.G).bind fun aa =>
 (L_law04_Cut a0.T).bind fun ab =>
 some (TApp.mk aa ab a0.Fifo)

def L_law03_Ref (a0 : TGraph) : Option TGraph :=
 some a0

def L_law04_state_l2 (aa : TPick) : Nat → Int → (List TSend) → Option (List TSend)
 | 0,_,_ => none
 | nf + 1,ab,ad =>
  if ab < (aa.Sends.length : Int) then
   (at? aa.Sends ab).bind fun ae =>
   if (ad.length + 1) * 16 ≤ 140737488355328 then
    L_law04_state_l2 aa nf (IntKind.wrap .i64 (ab + 1)) (ad ++ [ae])
   else none
  else
   some ad
def L_law04_state_l1 (a0 : TState) : Nat → Int → (List TPick) → Option (List TPick)
 | 0,_,_ => none
 | nf + 1,aa,ab =>
  if aa < (a0.Picks.length : Int) then
   ((at? a0.Picks aa).bind fun ad =>
   (L_law04_state_l2 ad (((ad.Sends.length : Int) - 0).toNat + 1) 0 ([] : List TSend)).bind fun ae =>
   if (ab.length + 1) * 32 ≤ 140737488355328 then
    some (ab ++ [(TPick.mk ad.Next ae)])
   else none).bind fun af =>
   L_law04_state_l1 a0 nf (IntKind.wrap .i64 (aa + 1)) af
  else
   some ab
def L_law04_state_l3 (a0 : TState) (aa : List TPick) : Nat → Int → (List TTake) → Option TState
 | 0,_,_ => none
 | nf + 1,ab,ad =>
  if ab < (a0.Takes.length : Int) then
   (at? a0.Takes ab).bind fun ae =>
   if (ad.length + 1) * 24 ≤ 140737488355328 then
    L_law04_state_l3 a0 aa nf (IntKind.wrap .i64 (ab + 1)) (ad ++ [ae])
   else none
  else
   some (TState.mk a0.Mode a0.Waits aa ad)
def L_law04_state (a0 : TState) : Option TState :=
 (L_law04_state_l1 a0 (((a0.Picks.length : Int) - 0).toNat + 1) 0 ([] : List TPick)).bind fun aa =>
 L_law04_state_l3 a0 aa (((a0.Takes.length : Int) - 0).toNat + 1) 0 ([] : List TTake)

def L_law04_Ref_l2 (aa : TNode) : Nat → Int → (List TState) → Option (List TState)
 | 0,_,_ => none
 | nf + 1,ab,ad =>
  if ab < (aa.States.length : Int) then
   (at? aa.States ab).bind fun ae =>
   (L_law04_state ae).bind fun af =>
   if (ad.length + 1) * 80 ≤ 140737488355328 then
    L_law04_Ref_l2 aa nf (IntKind.wrap .i64 (ab + 1)) (ad ++ [af])
   else none
  else
   some ad
def L_law04_Ref_l1 (a0 : (List TNode)) : Nat → Int → (List TNode) → Option (List TNode)
 | 0,_,_ => none
 | nf + 1,aa,ab =>
  if aa < (a0.length : Int) then
   ((at? a0 aa).bind fun ad =>
   (L_law04_Ref_l2 ad (((ad.States.length : Int) - 0).toNat + 1) 0 ([] : List TState)).bind fun ae =>
   if (ab.length + 1) * 32 ≤ 140737488355328 then
    some (ab ++ [(TNode.mk ad.Start ae)])
   else none).bind fun af =>
   L_law04_Ref_l1 a0 nf (IntKind.wrap .i64 (aa + 1)) af
  else
   some ab
def L_law04_Ref (a0 : (List TNode)) : Option (List TNode) :=
 L_law04_Ref_l1 a0 (((a0.length : Int) - 0).toNat + 1) 0 ([] : List TNode)

def L_law05_App (a0 : TApp) : Option TApp :=
 (L_law03_Ref a0.G).bind fun aa =>
 (L_law04_Ref a0.T).bind fun ab =>
 some (TApp.mk aa ab a0.Fifo)

def L_law09_Ref (a0 : THost) : Option THost :=
 some a0

def L_law06_Cut_l1 (a0 : TPiece) : Nat → Int → (List (List TMsg)) → Option (List (List TMsg))
 | 0,_,_ => none
 | nf + 1,aa,ab =>
  (if aa < (a0.In.length : Int) then
   some (decide (aa < 7))
  else
   some false).bind fun ad =>
  if ad = true then
   (at? a0.In aa).bind fun ae =>
   if 0 ≤ (min (ae.length : Int) 20) then
    if (min (ae.length : Int) 20) ≤ (ae.length : Int) then
     (some (ae.take ((min (ae.length : Int) 20).toNat))).bind fun af =>
     if af.length * 16 ≤ 140737488355328 then
      if (ab.length + 1) * 24 ≤ 140737488355328 then
       L_law06_Cut_l1 a0 nf (IntKind.wrap .i64 (aa + 1)) (ab ++ [af])
      else none
     else none
    else none
   else none
  else
   some ab
def L_law06_Cut_l2 (a0 : TPiece) (aa : List (List TMsg)) (ab : List Int) : Nat → Int → (List (List Int)) → Option TPiece
 | 0,_,_ => none
 | nf + 1,ad,ae =>
  (if ad < (a0.Out.length : Int) then
   some (decide (ad < 7))
  else
   some false).bind fun af =>
  if af = true then
   (at? a0.Out ad).bind fun ag =>
   if 0 ≤ (min (ag.length : Int) 20) then
    if (min (ag.length : Int) 20) ≤ (ag.length : Int) then
     (some (ag.take ((min (ag.length : Int) 20).toNat))).bind fun ah =>
     if ah.length * 8 ≤ 140737488355328 then
      if (ae.length + 1) * 24 ≤ 140737488355328 then
       L_law06_Cut_l2 a0 aa ab nf (IntKind.wrap .i64 (ad + 1)) (ae ++ [ah])
      else none
     else none
    else none
   else none
  else
   some (TPiece.mk a0.Node a0.State a0.Steps ab aa ae)
def L_law06_Cut (a0 : TPiece) : Option TPiece :=
 if 0 ≤ (min (a0.Sent.length : Int) 7) then
  if (min (a0.Sent.length : Int) 7) ≤ (a0.Sent.length : Int) then
   (some (a0.Sent.take ((min (a0.Sent.length : Int) 7).toNat))).bind fun aa =>
   if aa.length * 8 ≤ 140737488355328 then
    (L_law06_Cut_l1 a0 (((a0.In.length : Int) - 0).toNat + 1) 0 ([] : List (List TMsg))).bind fun ab =>
    L_law06_Cut_l2 a0 ab aa (((a0.Out.length : Int) - 0).toNat + 1) 0 ([] : List (List Int))
   else none
  else none
 else none

def L_law07_Cut_l1 (a0 : TFrame) (aa : List Int) : Nat → Int → (List TPiece) → Option TFrame
 | 0,_,_ => none
 | nf + 1,ab,ad =>
  (if ab < (a0.Pieces.length : Int) then
   some (decide (ab < 7))
  else
   some false).bind fun ae =>
  if ae = true then
   (at? a0.Pieces ab).bind fun af =>
   (L_law06_Cut af).bind fun ag =>
   if (ad.length + 1) * 96 ≤ 140737488355328 then
    L_law07_Cut_l1 a0 aa nf (IntKind.wrap .i64 (ab + 1)) (ad ++ [ag])
   else none
  else
   some (TFrame.mk a0.Kind a0.Epoch a0.M ad a0.Init a0.Num a0.Count aa)
def L_law07_Cut (a0 : TFrame) : Option TFrame :=
 if 0 ≤ (min (a0.Path.length : Int) 8) then
  if (min (a0.Path.length : Int) 8) ≤ (a0.Path.length : Int) then
   (some (a0.Path.take ((min (a0.Path.length : Int) 8).toNat))).bind fun aa =>
   if aa.length * 8 ≤ 140737488355328 then
    L_law07_Cut_l1 a0 aa (((a0.Pieces.length : Int) - 0).toNat + 1) 0 ([] : List TPiece)
   else none
  else none
 else none

def L_ref03_Find_l1 (a0 : TGraph) (a1 : Int) (a2 : Int) : Nat → Int → Option Int
 | 0,_ => none
 | nf + 1,aa =>
  if aa < (a0.Links.length : Int) then
   ((at? a0.Links aa).bind fun ab =>
   if ab.a0 = a1 then
    some (decide (ab.a1 = a2))
   else
    some false).bind fun ad =>
   if ad = true then
    some aa
   else
    L_ref03_Find_l1 a0 a1 a2 nf (IntKind.wrap .i64 (aa + 1))
  else
   some (-1)
def L_ref03_Find (a0 : TGraph) (a1 : Int) (a2 : Int) : Option Int :=
 L_ref03_Find_l1 a0 a1 a2 (((a0.Links.length : Int) - 0).toNat + 1) 0

def L_ref03_Dist_l1 (a0 : TGraph) : Nat → Int → (List Int) → Option (List Int)
 | 0,_,_ => none
 | nf + 1,aa,ab =>
  if aa < a0.N then
   if (ab.length + 1) * 8 ≤ 140737488355328 then
    L_ref03_Dist_l1 a0 nf (IntKind.wrap .i64 (aa + 1)) (ab ++ [(-1)])
   else none
  else
   some ab
def L_ref03_Dist_l3 (a0 : TGraph) (aa : Int) : Nat → Int → (List Int) → Option (List Int)
 | 0,_,_ => none
 | nf + 1,ab,ad =>
  if ab < (a0.Links.length : Int) then
   ((at? a0.Links ab).bind fun ae =>
   ((at? ad ae.a0).bind fun af =>
   if af = aa then
    (at? ad ae.a1).bind fun ag =>
    some (decide (ag < 0))
   else
    some false).bind fun ah =>
   if ah = true then
    (at? ad ae.a1).bind fun ai =>
    some (ad.set ae.a1.toNat (IntKind.wrap .i64 (aa + 1)))
   else
    some ad).bind fun aj =>
   L_ref03_Dist_l3 a0 aa nf (IntKind.wrap .i64 (ab + 1)) aj
  else
   some ad
def L_ref03_Dist_l2 (a0 : TGraph) : Nat → Int → (List Int) → Option (List Int)
 | 0,_,_ => none
 | nf + 1,aa,ab =>
  if aa < a0.N then
   ((L_ref03_Dist_l3 a0 aa (((a0.Links.length : Int) - 0).toNat + 1) 0 ab).bind fun ad =>
   some ad).bind fun ae =>
   L_ref03_Dist_l2 a0 nf (IntKind.wrap .i64 (aa + 1)) ae
  else
   some ab
def L_ref03_Dist (a0 : TGraph) (a1 : Int) : Option (List Int) :=
 (if a1 < 0 then
  some true
 else
  some (decide (a1 ≥ a0.N))).bind fun aa =>
 if aa = true then
  some []
 else
  (L_ref03_Dist_l1 a0 ((a0.N - 0).toNat + 1) 0 ([] : List Int)).bind fun ab =>
  (at? ab a1).bind fun ad =>
  L_ref03_Dist_l2 a0 ((a0.N - 0).toNat + 1) 0 (ab.set a1.toNat 0)

def L_ref03_Right_l1 (a0 : TGraph) : Nat → Int → Option (Unit ⊕ Bool)
 | 0,_ => none
 | nf + 1,aa =>
  if aa < (a0.Links.length : Int) then
   (at? a0.Links aa).bind fun ab =>
   (if ab.a0 < 0 then
    some true
   else
    if ab.a0 ≥ a0.N then
     some true
    else
     if ab.a1 < 0 then
      some true
     else
      if ab.a1 ≥ a0.N then
       some true
      else
       if ab.a0 = ab.a1 then
        some true
       else
        (L_ref03_Find a0 ab.a0 ab.a1).bind fun ad =>
        if ad = aa then
         (L_ref03_Find a0 ab.a1 ab.a0).bind fun ae =>
         some (decide (ae < 0))
        else
         some true).bind fun af =>
   if af = true then
    some (.inr false)
   else
    L_ref03_Right_l1 a0 nf (IntKind.wrap .i64 (aa + 1))
  else
   some (.inl ())
def L_ref03_Right_l3 (aa : (List Int)) : Nat → Int → Option (Unit ⊕ Bool)
 | 0,_ => none
 | nf + 1,ab =>
  if ab < (aa.length : Int) then
   (at? aa ab).bind fun ad =>
   if ad < 0 then
    some (.inr false)
   else
    L_ref03_Right_l3 aa nf (IntKind.wrap .i64 (ab + 1))
  else
   some (.inl ())
def L_ref03_Right_l2 (a0 : TGraph) : Nat → Int → Option Bool
 | 0,_ => none
 | nf + 1,aa =>
  if aa < a0.N then
   (((L_ref03_Dist a0 aa).bind fun ab =>
   ((L_ref03_Right_l3 ab (((ab.length : Int) - 0).toNat + 1) 0) : Option (Unit ⊕ Bool)).bind fun ad => match ad with
    | (.inl _) =>
     some (.inl ())
    | (.inr ae) => some (.inr ae)) : Option (Unit ⊕ Bool)).bind fun af => match af with
    | (.inl _) =>
     L_ref03_Right_l2 a0 nf (IntKind.wrap .i64 (aa + 1))
    | (.inr ag) => some ag
  else
   some true
def L_ref03_Right (a0 : TGraph) : Option Bool :=
 (if a0.N < 1 then
  some true
 else
  if a0.N > 6 then
   some true
  else
   some (decide ((a0.Links.length : Int) > 30))).bind fun aa =>
 if aa = true then
  some false
 else
  ((L_ref03_Right_l1 a0 (((a0.Links.length : Int) - 0).toNat + 1) 0) : Option (Unit ⊕ Bool)).bind fun ab => match ab with
   | (.inl _) =>
    L_ref03_Right_l2 a0 ((a0.N - 0).toNat + 1) 0
   | (.inr ad) => some ad

def L_ref04_waits_l1 (a0 : TState) (a1 : Int) (a2 : TGraph) : Nat → Int → Option Bool
 | 0,_ => none
 | nf + 1,aa =>
  if aa < (a0.Waits.length : Int) then
   ((at? a0.Waits aa).bind fun ab =>
   (L_ref03_Find a2 ab a1).bind fun ad =>
   if ad < 0 then
    some true
   else
    if aa > 0 then
     (at? a0.Waits (IntKind.wrap .i64 (aa - 1))).bind fun ae =>
     some (decide (ab ≤ ae))
    else
     some false).bind fun af =>
   if af = true then
    some false
   else
    L_ref04_waits_l1 a0 a1 a2 nf (IntKind.wrap .i64 (aa + 1))
  else
   some (decide ((a0.Waits.length : Int) ≥ 1))
def L_ref04_waits (a0 : TState) (a1 : Int) (a2 : TGraph) : Option Bool :=
 if a0.Mode = 2 then
  L_ref04_waits_l1 a0 a1 a2 (((a0.Waits.length : Int) - 0).toNat + 1) 0
 else
  some (decide ((a0.Waits.length : Int) = 0))

def L_ref04_picks_l2 (a1 : Int) (a3 : TGraph) (aa : TPick) : Nat → Int → Option (Unit ⊕ Bool)
 | 0,_ => none
 | nf + 1,ab =>
  if ab < (aa.Sends.length : Int) then
   ((at? aa.Sends ab).bind fun ad =>
   (L_ref03_Find a3 a1 ad.To).bind fun ae =>
   if ae < 0 then
    some true
   else
    if ad.Letter < 0 then
     some true
    else
     some (decide (ad.Letter > 3))).bind fun af =>
   if af = true then
    some (.inr false)
   else
    L_ref04_picks_l2 a1 a3 aa nf (IntKind.wrap .i64 (ab + 1))
  else
   some (.inl ())
def L_ref04_picks_l1 (a0 : TState) (a1 : Int) (a2 : Int) (a3 : TGraph) : Nat → Int → Option Bool
 | 0,_ => none
 | nf + 1,aa =>
  if aa < (a0.Picks.length : Int) then
   (((at? a0.Picks aa).bind fun ab =>
   (if ab.Next < 0 then
    some true
   else
    if ab.Next ≥ a2 then
     some true
    else
     some (decide ((ab.Sends.length : Int) > 4))).bind fun ad =>
   if ad = true then
    some (.inr false)
   else
    ((L_ref04_picks_l2 a1 a3 ab (((ab.Sends.length : Int) - 0).toNat + 1) 0) : Option (Unit ⊕ Bool)).bind fun ae => match ae with
     | (.inl _) =>
      some (.inl ())
     | (.inr af) => some (.inr af)) : Option (Unit ⊕ Bool)).bind fun ag => match ag with
    | (.inl _) =>
     L_ref04_picks_l1 a0 a1 a2 a3 nf (IntKind.wrap .i64 (aa + 1))
    | (.inr ah) => some ah
  else
   some true
def L_ref04_picks (a0 : TState) (a1 : Int) (a2 : Int) (a3 : TGraph) : Option Bool :=
 (if (a0.Picks.length : Int) > 4 then
  some true
 else
  if (a0.Picks.length : Int) > 0 then
   some (!(decide (a0.Mode = 1)))
  else
   some false).bind fun aa =>
 if aa = true then
  some false
 else
  L_ref04_picks_l1 a0 a1 a2 a3 (((a0.Picks.length : Int) - 0).toNat + 1) 0

def L_ref04_In_l1 (a0 : (List Int)) (a1 : Int) : Nat → Int → Option Bool
 | 0,_ => none
 | nf + 1,aa =>
  if aa < (a0.length : Int) then
   (at? a0 aa).bind fun ab =>
   if ab = a1 then
    some true
   else
    L_ref04_In_l1 a0 a1 nf (IntKind.wrap .i64 (aa + 1))
  else
   some false
def L_ref04_In (a0 : (List Int)) (a1 : Int) : Option Bool :=
 L_ref04_In_l1 a0 a1 (((a0.length : Int) - 0).toNat + 1) 0

def L_ref04_kept_l1 (a0 : TState) (a1 : TState) (a2 : Int) : Nat → Int → Option Bool
 | 0,_ => none
 | nf + 1,aa =>
  if aa < (a0.Waits.length : Int) then
   ((at? a0.Waits aa).bind fun ab =>
   if ab = a2 then
    some false
   else
    if a1.Mode = 2 then
     (L_ref04_In a1.Waits ab).bind fun ad =>
     some (!(ad))
    else
     some true).bind fun ae =>
   if ae = true then
    some false
   else
    L_ref04_kept_l1 a0 a1 a2 nf (IntKind.wrap .i64 (aa + 1))
  else
   some true
def L_ref04_kept (a0 : TState) (a1 : TState) (a2 : Int) : Option Bool :=
 L_ref04_kept_l1 a0 a1 a2 (((a0.Waits.length : Int) - 0).toNat + 1) 0

def L_ref04_takes_l2 (a0 : TState) (aa : Int) (ab : TTake) : Nat → Int → Option (Unit ⊕ Bool)
 | 0,_ => none
 | nf + 1,ad =>
  if ad < aa then
   ((at? a0.Takes ad).bind fun ae =>
   if ae.From = ab.From then
    some (decide (ae.Letter = ab.Letter))
   else
    some false).bind fun af =>
   if af = true then
    some (.inr false)
   else
    L_ref04_takes_l2 a0 aa ab nf (IntKind.wrap .i64 (ad + 1))
  else
   some (.inl ())
def L_ref04_takes_l1 (a0 : TState) (a1 : Int) (a2 : TNode) (a3 : TGraph) : Nat → Int → Option Bool
 | 0,_ => none
 | nf + 1,aa =>
  if aa < (a0.Takes.length : Int) then
   (((at? a0.Takes aa).bind fun ab =>
   ((L_ref03_Find a3 ab.From a1).bind fun ad =>
   if ad < 0 then
    some true
   else
    if ab.Letter < 0 then
     some true
    else
     if ab.Letter > 3 then
      some true
     else
      if ab.Next < 0 then
       some true
      else
       if ab.Next ≥ (a2.States.length : Int) then
        some true
       else
        (at? a2.States ab.Next).bind fun ae =>
        (L_ref04_kept a0 ae ab.From).bind fun af =>
        some (!(af))).bind fun ag =>
   if ag = true then
    some (.inr false)
   else
    ((L_ref04_takes_l2 a0 aa ab ((aa - 0).toNat + 1) 0) : Option (Unit ⊕ Bool)).bind fun ah => match ah with
     | (.inl _) =>
      some (.inl ())
     | (.inr ai) => some (.inr ai)) : Option (Unit ⊕ Bool)).bind fun aj => match aj with
    | (.inl _) =>
     L_ref04_takes_l1 a0 a1 a2 a3 nf (IntKind.wrap .i64 (aa + 1))
    | (.inr ak) => some ak
  else
   some true
def L_ref04_takes (a0 : TState) (a1 : Int) (a2 : TNode) (a3 : TGraph) : Option Bool :=
 L_ref04_takes_l1 a0 a1 a2 a3 (((a0.Takes.length : Int) - 0).toNat + 1) 0

def L_ref04_Right_l2 (a1 : TGraph) (aa : Int) (ab : TNode) : Nat → Int → Option (Unit ⊕ Bool)
 | 0,_ => none
 | nf + 1,ad =>
  if ad < (ab.States.length : Int) then
   (at? ab.States ad).bind fun ae =>
   (if ae.Mode < 0 then
    some true
   else
    if ae.Mode > 2 then
     some true
    else
     (L_ref04_waits ae aa a1).bind fun af =>
     if af = true then
      (L_ref04_picks ae aa (ab.States.length : Int) a1).bind fun ag =>
      if ag = true then
       (L_ref04_takes ae aa ab a1).bind fun ah =>
       some (!(ah))
      else
       some true
     else
      some true).bind fun ai =>
   if ai = true then
    some (.inr false)
   else
    L_ref04_Right_l2 a1 aa ab nf (IntKind.wrap .i64 (ad + 1))
  else
   some (.inl ())
def L_ref04_Right_l1 (a0 : (List TNode)) (a1 : TGraph) : Nat → Int → Option Bool
 | 0,_ => none
 | nf + 1,aa =>
  if aa < (a0.length : Int) then
   (((at? a0 aa).bind fun ab =>
   (if (ab.States.length : Int) < 1 then
    some true
   else
    if (ab.States.length : Int) > 8 then
     some true
    else
     if ab.Start < 0 then
      some true
     else
      some (decide (ab.Start ≥ (ab.States.length : Int)))).bind fun ad =>
   if ad = true then
    some (.inr false)
   else
    ((L_ref04_Right_l2 a1 aa ab (((ab.States.length : Int) - 0).toNat + 1) 0) : Option (Unit ⊕ Bool)).bind fun ae => match ae with
     | (.inl _) =>
      some (.inl ())
     | (.inr af) => some (.inr af)) : Option (Unit ⊕ Bool)).bind fun ag => match ag with
    | (.inl _) =>
     L_ref04_Right_l1 a0 a1 nf (IntKind.wrap .i64 (aa + 1))
    | (.inr ah) => some ah
  else
   some true
def L_ref04_Right (a0 : (List TNode)) (a1 : TGraph) : Option Bool :=
 ((L_ref03_Right a1).bind fun aa =>
 if aa = true then
  some (!(decide ((a0.length : Int) = a1.N)))
 else
  some true).bind fun ab =>
 if ab = true then
  some false
 else
  L_ref04_Right_l1 a0 a1 (((a0.length : Int) - 0).toNat + 1) 0

def L_ref03_In_l1 (a0 : TGraph) (a1 : Int) : Nat → Int → (List Int) → Option (List Int)
 | 0,_,_ => none
 | nf + 1,aa,ab =>
  if aa < (a0.Links.length : Int) then
   ((at? a0.Links aa).bind fun ad =>
   if ad.a1 = a1 then
    if (ab.length + 1) * 8 ≤ 140737488355328 then
     some (ab ++ [aa])
    else none
   else
    some ab).bind fun ae =>
   L_ref03_In_l1 a0 a1 nf (IntKind.wrap .i64 (aa + 1)) ae
  else
   some ab
def L_ref03_In (a0 : TGraph) (a1 : Int) : Option (List Int) :=
 L_ref03_In_l1 a0 a1 (((a0.Links.length : Int) - 0).toNat + 1) 0 ([] : List Int)

def L_ref03_Out_l1 (a0 : TGraph) (a1 : Int) : Nat → Int → (List Int) → Option (List Int)
 | 0,_,_ => none
 | nf + 1,aa,ab =>
  if aa < (a0.Links.length : Int) then
   ((at? a0.Links aa).bind fun ad =>
   if ad.a0 = a1 then
    if (ab.length + 1) * 8 ≤ 140737488355328 then
     some (ab ++ [aa])
    else none
   else
    some ab).bind fun ae =>
   L_ref03_Out_l1 a0 a1 nf (IntKind.wrap .i64 (aa + 1)) ae
  else
   some ab
def L_ref03_Out (a0 : TGraph) (a1 : Int) : Option (List Int) :=
 L_ref03_Out_l1 a0 a1 (((a0.Links.length : Int) - 0).toNat + 1) 0 ([] : List Int)

def L_ref06_Right_l1 (a0 : TPiece) : Nat → Int → Option (Unit ⊕ Bool)
 | 0,_ => none
 | nf + 1,aa =>
  if aa < (a0.Sent.length : Int) then
   ((at? a0.Sent aa).bind fun ab =>
   if ab < 0 then
    some true
   else
    some (decide (ab > 500))).bind fun ad =>
   if ad = true then
    some (.inr false)
   else
    L_ref06_Right_l1 a0 nf (IntKind.wrap .i64 (aa + 1))
  else
   some (.inl ())
def L_ref06_Right_l3 (a0 : TPiece) (aa : Int) : Nat → Int → Int → Option (Unit ⊕ Bool)
 | 0,_,_ => none
 | nf + 1,ab,ad =>
  (at? a0.In aa).bind fun ae =>
  if ad < (ae.length : Int) then
   (at? ae ad).bind fun af =>
   (if af.Seq ≤ ab then
    some true
   else
    if af.Seq > 500 then
     some true
    else
     if af.Letter < 0 then
      some true
     else
      some (decide (af.Letter > 3))).bind fun ag =>
   if ag = true then
    some (.inr false)
   else
    L_ref06_Right_l3 a0 aa nf af.Seq (IntKind.wrap .i64 (ad + 1))
  else
   some (.inl ())
def L_ref06_Right_l2 (a0 : TPiece) : Nat → Int → Option (Unit ⊕ Bool)
 | 0,_ => none
 | nf + 1,aa =>
  if aa < (a0.In.length : Int) then
   ((((L_ref06_Right_l3 a0 aa (((at? a0.In aa).elim 0 fun ab => ((ab.length : Int) - 0).toNat) + 1) 0 0) : Option (Unit ⊕ Bool)).bind fun ad => match ad with
    | (.inl _) =>
     some (.inl ())
    | (.inr ae) => some (.inr ae)) : Option (Unit ⊕ Bool)).bind fun af => match af with
    | (.inl _) =>
     L_ref06_Right_l2 a0 nf (IntKind.wrap .i64 (aa + 1))
    | (.inr ag) => some (.inr ag)
  else
   some (.inl ())
def L_ref06_Right_l5 (aa : (List Int)) : Nat → Int → Option (Unit ⊕ Bool)
 | 0,_ => none
 | nf + 1,ab =>
  if ab < (aa.length : Int) then
   ((at? aa ab).bind fun ad =>
   if ad < 0 then
    some true
   else
    some (decide (ad > 3))).bind fun ae =>
   if ae = true then
    some (.inr false)
   else
    L_ref06_Right_l5 aa nf (IntKind.wrap .i64 (ab + 1))
  else
   some (.inl ())
def L_ref06_Right_l4 (a0 : TPiece) : Nat → Int → Option Bool
 | 0,_ => none
 | nf + 1,aa =>
  if aa < (a0.Out.length : Int) then
   (((at? a0.Out aa).bind fun ab =>
   if (ab.length : Int) > 500 then
    some (.inr false)
   else
    ((L_ref06_Right_l5 ab (((ab.length : Int) - 0).toNat + 1) 0) : Option (Unit ⊕ Bool)).bind fun ad => match ad with
     | (.inl _) =>
      some (.inl ())
     | (.inr ae) => some (.inr ae)) : Option (Unit ⊕ Bool)).bind fun af => match af with
    | (.inl _) =>
     L_ref06_Right_l4 a0 nf (IntKind.wrap .i64 (aa + 1))
    | (.inr ag) => some ag
  else
   some true
def L_ref06_Right (a0 : TPiece) : Option Bool :=
 (if a0.Node < 0 then
  some true
 else
  if a0.Node > 5 then
   some true
  else
   if a0.State < 0 then
    some true
   else
    if a0.State > 7 then
     some true
    else
     if a0.Steps < 0 then
      some true
     else
      if a0.Steps > 2147483647 then
       some true
      else
       if (a0.Sent.length : Int) > 5 then
        some true
       else
        if (a0.In.length : Int) > 5 then
         some true
        else
         some (decide ((a0.Out.length : Int) > 5))).bind fun aa =>
 if aa = true then
  some false
 else
  ((L_ref06_Right_l1 a0 (((a0.Sent.length : Int) - 0).toNat + 1) 0) : Option (Unit ⊕ Bool)).bind fun ab => match ab with
   | (.inl _) =>
    ((L_ref06_Right_l2 a0 (((a0.In.length : Int) - 0).toNat + 1) 0) : Option (Unit ⊕ Bool)).bind fun ad => match ad with
     | (.inl _) =>
      L_ref06_Right_l4 a0 (((a0.Out.length : Int) - 0).toNat + 1) 0
     | (.inr ae) => some ae
   | (.inr af) => some af

def L_ref09_Right (a0 : TApp) (a1 : THost) : Option Bool :=
 ((L_ref04_Right a0.T a0.G).bind fun aa =>
 if aa = true then
  if a1.Node < 0 then
   some true
  else
   if a1.Node ≥ a0.G.N then
    some true
   else
    if a1.State < 0 then
     some true
    else
     (at? a0.T a1.Node).bind fun ab =>
     some (decide (a1.State ≥ (ab.States.length : Int)))
 else
  some true).bind fun ad =>
 if ad = true then
  some false
 else
  ((L_ref03_In a0.G a1.Node).bind fun ae =>
  if (a1.In.length : Int) = (ae.length : Int) then
   (L_ref03_Out a0.G a1.Node).bind fun af =>
   if (a1.Out.length : Int) = (af.length : Int) then
    (L_ref06_Right (TPiece.mk 0 0 a1.Steps [] a1.In a1.Out)).bind fun ag =>
    some ag
   else
    some false
  else
   some false).bind fun ah =>
  some ah

def L_graph_Full_l2 (a0 : Int) (aa : Int) : Nat → Int → (List A2I) → Option (List A2I)
 | 0,_,_ => none
 | nf + 1,ab,ad =>
  if ab < (min (max a0 1) 6) then
   (if aa = ab then
    some ad
   else
    if (ad.length + 1) * 16 ≤ 140737488355328 then
     some (ad ++ [(A2I.mk aa ab)])
    else none).bind fun ae =>
   L_graph_Full_l2 a0 aa nf (IntKind.wrap .i64 (ab + 1)) ae
  else
   some ad
def L_graph_Full_l1 (a0 : Int) : Nat → Int → (List A2I) → Option TGraph
 | 0,_,_ => none
 | nf + 1,aa,ab =>
  if aa < (min (max a0 1) 6) then
   ((L_graph_Full_l2 a0 aa (((min (max a0 1) 6) - 0).toNat + 1) 0 ab).bind fun ad =>
   some ad).bind fun ae =>
   L_graph_Full_l1 a0 nf (IntKind.wrap .i64 (aa + 1)) ae
  else
   some (TGraph.mk (min (max a0 1) 6) ab)
def L_graph_Full (a0 : Int) : Option TGraph :=
 L_graph_Full_l1 a0 (((min (max a0 1) 6) - 0).toNat + 1) 0 ([] : List A2I)

def L_law15_wait (a0 : Int) : Option TNode :=
 some (TNode.mk 0 ([(TState.mk 2 [a0] [] [])]))

def L_law15_Dead : Option TApp :=
 (L_graph_Full 3).bind fun aa =>
 (L_law15_wait 1).bind fun ab =>
 (L_law15_wait 0).bind fun ad =>
 some (TApp.mk aa (([ab] ++ [ad]) ++ [ad]) false)

def L_graph_of_v1_l1 (a0 : TGraph) (a1 : Int) : Nat → Int → (List Int) → Option (List Int)
 | 0,_,_ => none
 | nf + 1,aa,ab =>
  if aa < (a0.Links.length : Int) then
   ((at? a0.Links aa).bind fun ad =>
   if ad.a1 = a1 then
    if (ab.length + 1) * 8 ≤ 140737488355328 then
     some (ab ++ [aa])
    else none
   else
    some ab).bind fun ae =>
   L_graph_of_v1_l1 a0 a1 nf (IntKind.wrap .i64 (aa + 1)) ae
  else
   some ab
def L_graph_of_v1 (a0 : TGraph) (a1 : Int) : Option (List Int) :=
 L_graph_of_v1_l1 a0 a1 (((a0.Links.length : Int) - 0).toNat + 1) 0 ([] : List Int)

def L_graph_In (a0 : TGraph) (a1 : Int) : Option (List Int) :=
 (L_graph_of_v1 a0 a1).bind fun r7 =>
 some r7

def L_graph_of_v2_l1 (a0 : TGraph) (a1 : Int) : Nat → Int → (List Int) → Option (List Int)
 | 0,_,_ => none
 | nf + 1,aa,ab =>
  if aa < (a0.Links.length : Int) then
   ((at? a0.Links aa).bind fun ad =>
   if ad.a0 = a1 then
    if (ab.length + 1) * 8 ≤ 140737488355328 then
     some (ab ++ [aa])
    else none
   else
    some ab).bind fun ae =>
   L_graph_of_v2_l1 a0 a1 nf (IntKind.wrap .i64 (aa + 1)) ae
  else
   some ab
def L_graph_of_v2 (a0 : TGraph) (a1 : Int) : Option (List Int) :=
 L_graph_of_v2_l1 a0 a1 (((a0.Links.length : Int) - 0).toNat + 1) 0 ([] : List Int)

def L_graph_Out (a0 : TGraph) (a1 : Int) : Option (List Int) :=
 (L_graph_of_v2 a0 a1).bind fun r7 =>
 some r7

def L_host_New (a0 : TApp) (a1 : Int) : Option THost :=
 (if a1 < 0 then
  some true
 else
  some (decide (a1 ≥ a0.G.N))).bind fun aa =>
 (if aa = true then
  some 0
 else
  some a1).bind fun ab =>
 (at? a0.T ab).bind fun ad =>
 (L_graph_In a0.G ab).bind fun ae =>
 if 24 * ae.length ≤ 140737488355328 then
  if ae.length ≤ 140737488355328 then
   (L_graph_Out a0.G ab).bind fun af =>
   if 24 * af.length ≤ 140737488355328 then
    if af.length ≤ 140737488355328 then
     some (THost.mk ab ad.Start 0 (List.replicate ae.length []) (List.replicate af.length []))
    else none
   else none
  else none
 else none

def L_graph_Graph_node (a0 : TGraph) (a1 : Int) : Option Bool :=
 (if a1 ≥ 0 then
  some (decide (a1 < a0.N))
 else
  some false).bind fun b7 =>
 some b7

def L_graph_turned (a0 : A2I) : Option A2I :=
 some (A2I.mk a0.a1 a0.a0)

def L_math_bits_Mul64 (a0 : Int) (a1 : Int) : Option (Int × Int) :=
 some ((IntKind.wrap .u64 ((IntKind.wrap .u64 ((IntKind.wrap .u64 ((a0.fdiv (2 ^ 32)) * (a1.fdiv (2 ^ 32)))) + ((IntKind.wrap .u64 ((IntKind.wrap .u64 ((a0.fdiv (2 ^ 32)) * (landK .u64 a1 4294967295))) + ((IntKind.wrap .u64 ((landK .u64 a0 4294967295) * (landK .u64 a1 4294967295))).fdiv (2 ^ 32)))).fdiv (2 ^ 32)))) + ((IntKind.wrap .u64 ((landK .u64 (IntKind.wrap .u64 ((IntKind.wrap .u64 ((a0.fdiv (2 ^ 32)) * (landK .u64 a1 4294967295))) + ((IntKind.wrap .u64 ((landK .u64 a0 4294967295) * (landK .u64 a1 4294967295))).fdiv (2 ^ 32)))) 4294967295) + (IntKind.wrap .u64 ((landK .u64 a0 4294967295) * (a1.fdiv (2 ^ 32)))))).fdiv (2 ^ 32)))),(IntKind.wrap .u64 (a0 * a1)))

def L_math_bits_Mul (a0 : Int) (a1 : Int) : Option (Int × Int) :=
 (L_math_bits_Mul64 a0 a1).bind fun r7 =>
 some (r7.1,r7.2)

def L_slices_Repeat_int_int_l1 : Nat → Int → (List Int) → Option (List Int)
 | 0,_,_ => none
 | nf + 1,aa,ab =>
  if aa < (ab.length : Int) then
   if 0 ≤ aa then
    if aa ≤ (ab.length : Int) then
     L_slices_Repeat_int_int_l1 nf (IntKind.wrap .i64 (aa + ((Nat.min (ab.take aa.toNat).length (((ab.drop aa.toNat).take (ab.length - aa.toNat)).length) : Nat) : Int))) (ab.take aa.toNat ++ ((ab.take aa.toNat).take (((ab.drop aa.toNat).take (ab.length - aa.toNat)).length)) ++ ab.drop (aa.toNat + ((ab.take aa.toNat).take (((ab.drop aa.toNat).take (ab.length - aa.toNat)).length)).length))
    else none
   else none
  else
   some ab
def L_slices_Repeat_int_int (a0 : (List Int)) (a1 : Int) : Option (List Int) :=
 if a1 < 0 then
  none
 else
  (L_math_bits_Mul (IntKind.wrap .u64 (a0.length : Int)) (IntKind.wrap .u64 a1)).bind fun aa =>
  (if aa.1 > 0 then
   some true
  else
   some (decide (aa.2 > 9223372036854775807))).bind fun ab =>
  if ab = true then
   none
  else
   if 0 ≤ (IntKind.wrap .i64 aa.2) then
    if 8 * ((IntKind.wrap .i64 aa.2).toNat) ≤ 140737488355328 then
     if ((IntKind.wrap .i64 aa.2).toNat) ≤ 140737488355328 then
      (some (List.replicate ((IntKind.wrap .i64 aa.2).toNat) 0)).bind fun ad =>
      L_slices_Repeat_int_int_l1 (((((a0.take ad.length) ++ ad.drop (a0.take ad.length).length).length : Int) - ((Nat.min a0.length ad.length : Nat) : Int)).toNat + 1) ((Nat.min a0.length ad.length : Nat) : Int) ((a0.take ad.length) ++ ad.drop (a0.take ad.length).length)
     else none
    else none
   else none

def L_graph_Dist_l2 (a0 : TGraph) (aa : (List Int)) (ab : Int) : Nat → Int → (List Int) → (List Int) → Option ((List Int) × (List Int))
 | 0,_,_,_ => none
 | nf + 1,ad,ae,af =>
  if ad < (aa.length : Int) then
   ((at? aa ad).bind fun ag =>
   (at? a0.Links ag).bind fun ah =>
   (at? ae ah.a1).bind fun ai =>
   if ai < 0 then
    (at? ae ab).bind fun aj =>
    if (af.length + 1) * 8 ≤ 140737488355328 then
     some ((ae.set ah.a1.toNat (IntKind.wrap .i64 (aj + 1))),(af ++ [ah.a1]))
    else none
   else
    some (ae,af)).bind fun ⟨ak,al⟩ =>
   L_graph_Dist_l2 a0 aa ab nf (IntKind.wrap .i64 (ad + 1)) ak al
  else
   some (ae,af)
def L_graph_Dist_l1 (a0 : TGraph) : Nat → (List Int) → (List Int) → Option (List Int)
 | 0,_,_ => none
 | nf + 1,aa,ab =>
  if (ab.length : Int) = 0 then
   some aa
  else
   (at? ab 0).bind fun ad =>
   if 1 ≤ (ab.length : Int) then
    (L_graph_Out a0 ad).bind fun ae =>
    (L_graph_Dist_l2 a0 ae ad (((ae.length : Int) - 0).toNat + 1) 0 aa (ab.drop 1)).bind fun ⟨af,ag⟩ =>
    L_graph_Dist_l1 a0 nf af ag
   else none
def L_graph_Dist (a0 : TGraph) (a1 : Int) : Option (List Int) :=
 (L_graph_Graph_node a0 a1).bind fun aa =>
 if aa = true then
  (L_slices_Repeat_int_int [(-1)] a0.N).bind fun ab =>
  (at? ab a1).bind fun ad =>
  L_graph_Dist_l1 a0 (a0.N.toNat + 2) (ab.set a1.toNat 0) [a1]
 else
  some []

def L_slices_Index_int_int_l1 (a0 : (List Int)) (a1 : Int) : Nat → Int → Option Int
 | 0,_ => none
 | nf + 1,aa =>
  if aa < (a0.length : Int) then
   (at? a0 aa).bind fun ab =>
   if a1 = ab then
    some aa
   else
    L_slices_Index_int_int_l1 a0 a1 nf (IntKind.wrap .i64 (aa + 1))
  else
   some (-1)
def L_slices_Index_int_int (a0 : (List Int)) (a1 : Int) : Option Int :=
 L_slices_Index_int_int_l1 a0 a1 (((a0.length : Int) - 0).toNat + 1) 0

def L_slices_Contains_int_int (a0 : (List Int)) (a1 : Int) : Option Bool :=
 (L_slices_Index_int_int a0 a1).bind fun r7 =>
 some (decide (r7 ≥ 0))

def L_graph_Right_l1 (a0 : TGraph) : Nat → Int → NMap → Option (NMap ⊕ Bool)
 | 0,_,_ => none
 | nf + 1,aa,ab =>
  if aa < (a0.Links.length : Int) then
   (at? a0.Links aa).bind fun ad =>
   ((L_graph_Graph_node a0 ad.a0).bind fun ae =>
   if ae = true then
    (L_graph_Graph_node a0 ad.a1).bind fun af =>
    if af = true then
     if ad.a0 = ad.a1 then
      some true
     else
      some (decide ((mGetI ab [ad.a0,ad.a1]) > 0))
    else
     some true
   else
    some true).bind fun ag =>
   if ag = true then
    some (.inr false)
   else
    L_graph_Right_l1 a0 nf (IntKind.wrap .i64 (aa + 1)) (mPutI ab [ad.a0,ad.a1] (IntKind.wrap .i64 ((mGetI ab [ad.a0,ad.a1]) + 1)))
  else
   some (.inl ab)
def L_graph_Right_l2 (a0 : TGraph) (aa : NMap) : Nat → Int → Option (Unit ⊕ Bool)
 | 0,_ => none
 | nf + 1,ab =>
  if ab < (a0.Links.length : Int) then
   (at? a0.Links ab).bind fun ad =>
   (L_graph_turned ad).bind fun ae =>
   if (mGetI aa [ae.a0,ae.a1]) = 0 then
    some (.inr false)
   else
    L_graph_Right_l2 a0 aa nf (IntKind.wrap .i64 (ab + 1))
  else
   some (.inl ())
def L_graph_Right (a0 : TGraph) : Option Bool :=
 (if a0.N < 1 then
  some true
 else
  if a0.N > 6 then
   some true
  else
   some (decide ((a0.Links.length : Int) > 30))).bind fun aa =>
 if aa = true then
  some false
 else
  ((L_graph_Right_l1 a0 (((a0.Links.length : Int) - 0).toNat + 1) 0 ([] : NMap)) : Option (NMap ⊕ Bool)).bind fun ab => match ab with
   | (.inl ad) =>
    ((L_graph_Right_l2 a0 ad (((a0.Links.length : Int) - 0).toNat + 1) 0) : Option (Unit ⊕ Bool)).bind fun ae => match ae with
     | (.inl _) =>
      (L_graph_Dist a0 0).bind fun af =>
      (L_slices_Contains_int_int af (-1)).bind fun ag =>
      some (!(ag))
     | (.inr ah) => some ah
   | (.inr ai) => some ai

def L_table_place_may_1 (a0 : TPlace) : Option (Bool × TPlace) :=
 (if a0.State.Mode ≥ 0 then
  some (decide (a0.State.Mode < 3))
 else
  some false).bind fun b7 =>
 some (b7,a0)

def L_graph_Find_l1 (a0 : TGraph) (a1 : Int) (a2 : Int) : Nat → Int → Option Int
 | 0,_ => none
 | nf + 1,aa =>
  if aa < (a0.Links.length : Int) then
   (at? a0.Links aa).bind fun ab =>
   if ab = (A2I.mk a1 a2) then
    some aa
   else
    L_graph_Find_l1 a0 a1 a2 nf (IntKind.wrap .i64 (aa + 1))
  else
   some (-1)
def L_graph_Find (a0 : TGraph) (a1 : Int) (a2 : Int) : Option Int :=
 L_graph_Find_l1 a0 a1 a2 (((a0.Links.length : Int) - 0).toNat + 1) 0

def L_table_place_in (a0 : TPlace) (a1 : Int) : Option Bool :=
 (L_graph_Find a0.g a1 a0.n).bind fun r7 =>
 some (decide (r7 ≥ 0))

def L_table_place_waits_l1 (a0 : TPlace) : Nat → Int → Option Bool
 | 0,_ => none
 | nf + 1,aa =>
  if aa < (a0.State.Waits.length : Int) then
   (at? a0.State.Waits aa).bind fun ab =>
   ((L_table_place_in a0 ab).bind fun ad =>
   if ad = true then
    if aa > 0 then
     (at? a0.State.Waits (IntKind.wrap .i64 (aa - 1))).bind fun ae =>
     some (decide (ae ≥ ab))
    else
     some false
   else
    some true).bind fun af =>
   if af = true then
    some false
   else
    L_table_place_waits_l1 a0 nf (IntKind.wrap .i64 (aa + 1))
  else
   some (decide ((a0.State.Waits.length : Int) > 0))
def L_table_place_waits (a0 : TPlace) : Option Bool :=
 if a0.State.Mode = 2 then
  L_table_place_waits_l1 a0 (((a0.State.Waits.length : Int) - 0).toNat + 1) 0
 else
  some (decide ((a0.State.Waits.length : Int) = 0))

def L_table_place_state (a0 : TPlace) (a1 : Int) : Option Bool :=
 (if a1 ≥ 0 then
  some (decide (a1 < (a0.node.States.length : Int)))
 else
  some false).bind fun b7 =>
 some b7

def L_table_letter (a0 : Int) : Option Bool :=
 (if a0 ≥ 0 then
  some (decide (a0 < 4))
 else
  some false).bind fun b7 =>
 some b7

def L_table_place_picks_1 (a0 : TSend) (a1 : TPlace) : Option (Bool × TPlace) :=
 ((L_graph_Find a1.g a1.n a0.To).bind fun aa =>
 if aa < 0 then
  some true
 else
  (L_table_letter a0.Letter).bind fun ab =>
  some (!(ab))).bind fun ad =>
 some (ad,a1)

def L_slices_IndexFunc_table_Send_table_Send_l1 (a0 : (List TSend)) : Nat → Int → TPlace → Option (Int × TPlace)
 | 0,_,_ => none
 | nf + 1,aa,ab =>
  if aa < (a0.length : Int) then
   (at? a0 aa).bind fun ad =>
   (L_table_place_picks_1 ad ab).bind fun ae =>
   if ae.1 = true then
    some (aa,ae.2)
   else
    L_slices_IndexFunc_table_Send_table_Send_l1 a0 nf (IntKind.wrap .i64 (aa + 1)) ae.2
  else
   some ((-1),ab)
def L_slices_IndexFunc_table_Send_table_Send (a0 : (List TSend)) (a1 : TPlace) : Option (Int × TPlace) :=
 L_slices_IndexFunc_table_Send_table_Send_l1 a0 (((a0.length : Int) - 0).toNat + 1) 0 a1

def L_slices_ContainsFunc_table_Send_table_Send (a0 : (List TSend)) (a1 : TPlace) : Option (Bool × TPlace) :=
 (L_slices_IndexFunc_table_Send_table_Send a0 a1).bind fun r7 =>
 some (decide (r7.1 ≥ 0),r7.2)

def L_table_place_picks_l1 (a0 : TPlace) : Nat → Int → TPlace → Option Bool
 | 0,_,_ => none
 | nf + 1,aa,ab =>
  if aa < (a0.State.Picks.length : Int) then
   (at? a0.State.Picks aa).bind fun ad =>
   ((L_table_place_state ab ad.Next).bind fun ae =>
   if ae = true then
    if (ad.Sends.length : Int) > 4 then
     some (true,ab)
    else
     (L_slices_ContainsFunc_table_Send_table_Send ad.Sends ab).bind fun af =>
     some (af.1,af.2)
   else
    some (true,ab)).bind fun ⟨ag,ah⟩ =>
   if ag = true then
    some false
   else
    L_table_place_picks_l1 a0 nf (IntKind.wrap .i64 (aa + 1)) ah
  else
   some true
def L_table_place_picks (a0 : TPlace) : Option Bool :=
 (if (a0.State.Picks.length : Int) > 4 then
  some true
 else
  if a0.State.Mode = 1 then
   some false
  else
   some (decide ((a0.State.Picks.length : Int) > 0))).bind fun aa =>
 if aa = true then
  some false
 else
  L_table_place_picks_l1 a0 (((a0.State.Picks.length : Int) - 0).toNat + 1) 0 a0

def L_table_place_takes_1 (a0 : TTake) (a1 : TTake) : Option (Bool × TTake) :=
 (if a0.From = a1.From then
  some (decide (a0.Letter = a1.Letter))
 else
  some false).bind fun b7 =>
 some (b7,a1)

def L_slices_IndexFunc_table_Take_table_Take_l1 (a0 : (List TTake)) : Nat → Int → TTake → Option (Int × TTake)
 | 0,_,_ => none
 | nf + 1,aa,ab =>
  if aa < (a0.length : Int) then
   (at? a0 aa).bind fun ad =>
   (L_table_place_takes_1 ad ab).bind fun ae =>
   if ae.1 = true then
    some (aa,ae.2)
   else
    L_slices_IndexFunc_table_Take_table_Take_l1 a0 nf (IntKind.wrap .i64 (aa + 1)) ae.2
  else
   some ((-1),ab)
def L_slices_IndexFunc_table_Take_table_Take (a0 : (List TTake)) (a1 : TTake) : Option (Int × TTake) :=
 L_slices_IndexFunc_table_Take_table_Take_l1 a0 (((a0.length : Int) - 0).toNat + 1) 0 a1

def L_slices_ContainsFunc_table_Take_table_Take (a0 : (List TTake)) (a1 : TTake) : Option (Bool × TTake) :=
 (L_slices_IndexFunc_table_Take_table_Take a0 a1).bind fun r7 =>
 some (decide (r7.1 ≥ 0),r7.2)

def L_table_place_takes_l1 (a0 : TPlace) : Nat → Int → Option Bool
 | 0,_ => none
 | nf + 1,aa =>
  if aa < (a0.State.Takes.length : Int) then
   (at? a0.State.Takes aa).bind fun ab =>
   ((L_table_place_in a0 ab.From).bind fun ad =>
   if ad = true then
    (L_table_letter ab.Letter).bind fun ae =>
    if ae = true then
     (L_table_place_state a0 ab.Next).bind fun af =>
     if af = true then
      if 0 ≤ aa then
       if aa ≤ (a0.State.Takes.length : Int) then
        (some (a0.State.Takes.take aa.toNat)).bind fun ag =>
        (L_slices_ContainsFunc_table_Take_table_Take ag ab).bind fun ah =>
        some ah.1
       else none
      else none
     else
      some true
    else
     some true
   else
    some true).bind fun ai =>
   if ai = true then
    some false
   else
    L_table_place_takes_l1 a0 nf (IntKind.wrap .i64 (aa + 1))
  else
   some true
def L_table_place_takes (a0 : TPlace) : Option Bool :=
 L_table_place_takes_l1 a0 (((a0.State.Takes.length : Int) - 0).toNat + 1) 0

def L_table_place_stays_l2 (a0 : TPlace) (aa : TTake) : Nat → Int → Option (Unit ⊕ Bool)
 | 0,_ => none
 | nf + 1,ab =>
  if ab < (a0.State.Waits.length : Int) then
   (at? a0.State.Waits ab).bind fun ad =>
   (at? a0.node.States aa.Next).bind fun ae =>
   (if ad = aa.From then
    some false
   else
    if ae.Mode = 2 then
     (L_slices_Contains_int_int ae.Waits ad).bind fun af =>
     some (!(af))
    else
     some true).bind fun ag =>
   if ag = true then
    some (.inr false)
   else
    L_table_place_stays_l2 a0 aa nf (IntKind.wrap .i64 (ab + 1))
  else
   some (.inl ())
def L_table_place_stays_l1 (a0 : TPlace) : Nat → Int → Option Bool
 | 0,_ => none
 | nf + 1,aa =>
  if aa < (a0.State.Takes.length : Int) then
   (((at? a0.State.Takes aa).bind fun ab =>
   ((L_table_place_stays_l2 a0 ab (((a0.State.Waits.length : Int) - 0).toNat + 1) 0) : Option (Unit ⊕ Bool)).bind fun ad => match ad with
    | (.inl _) =>
     some (.inl ())
    | (.inr ae) => some (.inr ae)) : Option (Unit ⊕ Bool)).bind fun af => match af with
    | (.inl _) =>
     L_table_place_stays_l1 a0 nf (IntKind.wrap .i64 (aa + 1))
    | (.inr ag) => some ag
  else
   some true
def L_table_place_stays (a0 : TPlace) : Option Bool :=
 L_table_place_stays_l1 a0 (((a0.State.Takes.length : Int) - 0).toNat + 1) 0

def L_table_place_may (a0 : TPlace) : Option Bool :=
 (L_table_place_may_1 a0).bind fun aa =>
 if aa.1 = true then
  (L_table_place_waits a0).bind fun ab =>
  if ab = true then
   (L_table_place_picks a0).bind fun ad =>
   if ad = true then
    (L_table_place_takes a0).bind fun ae =>
    if ae = true then
     (L_table_place_stays a0).bind fun af =>
     if af = true then
      some true
     else
      some false
    else
     some false
   else
    some false
  else
   some false
 else
  some false

def L_table_Right_l2 (a1 : TGraph) (aa : Int) (ab : TNode) : Nat → Int → Option (Unit ⊕ Bool)
 | 0,_ => none
 | nf + 1,ad =>
  if ad < (ab.States.length : Int) then
   (at? ab.States ad).bind fun ae =>
   (L_table_place_may (TPlace.mk ae aa ab a1)).bind fun af =>
   if af = true then
    L_table_Right_l2 a1 aa ab nf (IntKind.wrap .i64 (ad + 1))
   else
    some (.inr false)
  else
   some (.inl ())
def L_table_Right_l1 (a0 : (List TNode)) (a1 : TGraph) : Nat → Int → Option Bool
 | 0,_ => none
 | nf + 1,aa =>
  if aa < (a0.length : Int) then
   (((at? a0 aa).bind fun ab =>
   (if (ab.States.length : Int) < 1 then
    some true
   else
    if (ab.States.length : Int) > 8 then
     some true
    else
     if ab.Start < 0 then
      some true
     else
      some (decide (ab.Start ≥ (ab.States.length : Int)))).bind fun ad =>
   if ad = true then
    some (.inr false)
   else
    ((L_table_Right_l2 a1 aa ab (((ab.States.length : Int) - 0).toNat + 1) 0) : Option (Unit ⊕ Bool)).bind fun ae => match ae with
     | (.inl _) =>
      some (.inl ())
     | (.inr af) => some (.inr af)) : Option (Unit ⊕ Bool)).bind fun ag => match ag with
    | (.inl _) =>
     L_table_Right_l1 a0 a1 nf (IntKind.wrap .i64 (aa + 1))
    | (.inr ah) => some ah
  else
   some true
def L_table_Right (a0 : (List TNode)) (a1 : TGraph) : Option Bool :=
 ((L_graph_Right a1).bind fun aa =>
 if aa = true then
  some (!(decide ((a0.length : Int) = a1.N)))
 else
  some true).bind fun ab =>
 if ab = true then
  some false
 else
  L_table_Right_l1 a0 a1 (((a0.length : Int) - 0).toNat + 1) 0

def L_host_Host_told (a0 : THost) : Option TPiece :=
 some (TPiece.mk a0.Node a0.State a0.Steps [] a0.In a0.Out)

def L_piece_within (a0 : Int) (a1 : Int) : Option Bool :=
 (if a0 ≥ 0 then
  some (decide (a0 ≤ a1))
 else
  some false).bind fun b7 =>
 some b7

def L_piece_rising_l1 (a0 : (List TMsg)) : Nat → Int → Int → Option Bool
 | 0,_,_ => none
 | nf + 1,aa,ab =>
  if ab < (a0.length : Int) then
   (at? a0 ab).bind fun ad =>
   (if ad.Seq ≤ aa then
    some true
   else
    if ad.Seq > 500 then
     some true
    else
     (L_piece_within ad.Letter 3).bind fun ae =>
     some (!(ae))).bind fun af =>
   if af = true then
    some false
   else
    L_piece_rising_l1 a0 nf ad.Seq (IntKind.wrap .i64 (ab + 1))
  else
   some true
def L_piece_rising (a0 : (List TMsg)) : Option Bool :=
 L_piece_rising_l1 a0 (((a0.length : Int) - 0).toNat + 1) 0 0

def L_piece_Right_1 (a0 : Int) : Option Bool :=
 (L_piece_within a0 3).bind fun r7 =>
 some (!(r7))

def L_slices_IndexFunc_int_int_l1 (a0 : (List Int)) : Nat → Int → Option Int
 | 0,_ => none
 | nf + 1,aa =>
  if aa < (a0.length : Int) then
   (at? a0 aa).bind fun ab =>
   (L_piece_Right_1 ab).bind fun ad =>
   if ad = true then
    some aa
   else
    L_slices_IndexFunc_int_int_l1 a0 nf (IntKind.wrap .i64 (aa + 1))
  else
   some (-1)
def L_slices_IndexFunc_int_int (a0 : (List Int)) : Option Int :=
 L_slices_IndexFunc_int_int_l1 a0 (((a0.length : Int) - 0).toNat + 1) 0

def L_slices_ContainsFunc_int_int (a0 : (List Int)) : Option Bool :=
 (L_slices_IndexFunc_int_int a0).bind fun r7 =>
 some (decide (r7 ≥ 0))

def L_piece_Right_l1 (a0 : TPiece) : Nat → Int → Option (Unit ⊕ Bool)
 | 0,_ => none
 | nf + 1,aa =>
  if aa < (a0.Sent.length : Int) then
   (at? a0.Sent aa).bind fun ab =>
   (L_piece_within ab 500).bind fun ad =>
   if ad = true then
    L_piece_Right_l1 a0 nf (IntKind.wrap .i64 (aa + 1))
   else
    some (.inr false)
  else
   some (.inl ())
def L_piece_Right_l2 (a0 : TPiece) : Nat → Int → Option (Unit ⊕ Bool)
 | 0,_ => none
 | nf + 1,aa =>
  if aa < (a0.In.length : Int) then
   (at? a0.In aa).bind fun ab =>
   (L_piece_rising ab).bind fun ad =>
   if ad = true then
    L_piece_Right_l2 a0 nf (IntKind.wrap .i64 (aa + 1))
   else
    some (.inr false)
  else
   some (.inl ())
def L_piece_Right_l3 (a0 : TPiece) : Nat → Int → Option Bool
 | 0,_ => none
 | nf + 1,aa =>
  if aa < (a0.Out.length : Int) then
   (at? a0.Out aa).bind fun ab =>
   (if (ab.length : Int) > 500 then
    some true
   else
    (L_slices_ContainsFunc_int_int ab).bind fun ad =>
    some ad).bind fun ae =>
   if ae = true then
    some false
   else
    L_piece_Right_l3 a0 nf (IntKind.wrap .i64 (aa + 1))
  else
   some true
def L_piece_Right (a0 : TPiece) : Option Bool :=
 ((L_piece_within a0.Node 5).bind fun aa =>
 if aa = true then
  (L_piece_within a0.State 7).bind fun ab =>
  if ab = true then
   (L_piece_within a0.Steps 2147483647).bind fun ad =>
   if ad = true then
    some (decide ((max (max (a0.Sent.length : Int) (a0.In.length : Int)) (a0.Out.length : Int)) > 5))
   else
    some true
  else
   some true
 else
  some true).bind fun ae =>
 if ae = true then
  some false
 else
  ((L_piece_Right_l1 a0 (((a0.Sent.length : Int) - 0).toNat + 1) 0) : Option (Unit ⊕ Bool)).bind fun af => match af with
   | (.inl _) =>
    ((L_piece_Right_l2 a0 (((a0.In.length : Int) - 0).toNat + 1) 0) : Option (Unit ⊕ Bool)).bind fun ag => match ag with
     | (.inl _) =>
      L_piece_Right_l3 a0 (((a0.Out.length : Int) - 0).toNat + 1) 0
     | (.inr ah) => some ah
   | (.inr ai) => some ai

def L_host_Right (a0 : TApp) (a1 : THost) : Option Bool :=
 ((L_table_Right a0.T a0.G).bind fun aa =>
 if aa = true then
  if a1.Node < 0 then
   some true
  else
   if a1.Node ≥ a0.G.N then
    some true
   else
    if a1.State < 0 then
     some true
    else
     (at? a0.T a1.Node).bind fun ab =>
     some (decide (a1.State ≥ (ab.States.length : Int)))
 else
  some true).bind fun ad =>
 if ad = true then
  some false
 else
  ((L_graph_In a0.G a1.Node).bind fun ae =>
  if (a1.In.length : Int) = (ae.length : Int) then
   (L_graph_Out a0.G a1.Node).bind fun af =>
   if (a1.Out.length : Int) = (af.length : Int) then
    (L_host_Host_told a1).bind fun ag =>
    (L_piece_Right ag).bind fun ah =>
    some ah
   else
    some false
  else
   some false).bind fun ai =>
  some ai

def L_table_at (a0 : (List TNode)) (a1 : Int) (a2 : Int) : Option (TState × Bool) :=
 (if a1 < 0 then
  some true
 else
  if a1 ≥ (a0.length : Int) then
   some true
  else
   if a2 < 0 then
    some true
   else
    (at? a0 a1).bind fun aa =>
    some (decide (a2 ≥ (aa.States.length : Int)))).bind fun ab =>
 if ab = true then
  some ((TState.mk 0 [] [] []),false)
 else
  (at? a0 a1).bind fun ad =>
  (at? ad.States a2).bind fun ae =>
  some (ae,true)

def L_table_Mode (a0 : (List TNode)) (a1 : Int) (a2 : Int) : Option Int :=
 (L_table_at a0 a1 a2).bind fun r7 =>
 some r7.1.Mode

def L_probe_seat_blocked (a0 : TSeat) : Option Bool :=
 (L_table_Mode a0.a.T a0.Host.Node a0.Host.State).bind fun r7 =>
 some (decide (r7 = 2))

def L_slices_Clone_int_int (a0 : (List Int)) : Option (List Int) :=
 if a0.length * 8 ≤ 140737488355328 then
  some a0
 else none

def L_table_Waits (a0 : (List TNode)) (a1 : Int) (a2 : Int) : Option (List Int) :=
 (L_table_at a0 a1 a2).bind fun aa =>
 (L_slices_Clone_int_int aa.1.Waits).bind fun ab =>
 some ab

def L_host_Got (a0 : TApp) (a1 : THost) (a2 : Int) : Option Int :=
 (L_graph_In a0.G a1.Node).bind fun aa =>
 (L_slices_Index_int_int aa a2).bind fun ab =>
 if ab ≥ 0 then
  (at? a1.In ab).bind fun ad =>
  some (ad.length : Int)
 else
  some 0

def L_slices_Grow_int_int (a0 : Int) : Option (List Int) :=
 if a0 < 0 then
  none
 else
  (if (IntKind.wrap .i64 (a0 - (IntKind.wrap .i64 0))) > 0 then
   if 0 < (IntKind.wrap .i64 (a0 - (IntKind.wrap .i64 0))) then
    if 8 * ((IntKind.wrap .i64 (a0 - (IntKind.wrap .i64 0))).toNat) ≤ 140737488355328 then
     if ((IntKind.wrap .i64 (a0 - (IntKind.wrap .i64 0))).toNat) ≤ 140737488355328 then
      if 0 ≤ (((IntKind.wrap .i64 (a0 - (IntKind.wrap .i64 0))).toNat) : Int) then
       some ()
      else none
     else none
    else none
   else none
  else
   some ()).bind fun _ =>
  some []

def L_slices_Concat_int_int_l1 (a0 : (List (List Int))) : Nat → Int → Int → Option Int
 | 0,_,_ => none
 | nf + 1,aa,ab =>
  if ab < (a0.length : Int) then
   (at? a0 ab).bind fun ad =>
   if (IntKind.wrap .i64 (aa + (ad.length : Int))) < 0 then
    none
   else
    L_slices_Concat_int_int_l1 a0 nf (IntKind.wrap .i64 (aa + (ad.length : Int))) (IntKind.wrap .i64 (ab + 1))
  else
   some aa
def L_slices_Concat_int_int_l2 (a0 : (List (List Int))) : Nat → Int → (List Int) → Option (List Int)
 | 0,_,_ => none
 | nf + 1,aa,ab =>
  if aa < (a0.length : Int) then
   (at? a0 aa).bind fun ad =>
   if (ab.length + ad.length) * 8 ≤ 140737488355328 then
    L_slices_Concat_int_int_l2 a0 nf (IntKind.wrap .i64 (aa + 1)) (ab ++ ad)
   else none
  else
   some ab
def L_slices_Concat_int_int (a0 : (List (List Int))) : Option (List Int) :=
 (L_slices_Concat_int_int_l1 a0 (((a0.length : Int) - 0).toNat + 1) 0 0).bind fun aa =>
 (L_slices_Grow_int_int aa).bind fun ab =>
 L_slices_Concat_int_int_l2 a0 (((a0.length : Int) - 0).toNat + 1) 0 ab

def L_probe_seat_probe_l1 (a0 : TSeat) (a1 : Int) (a2 : Int) (a3 : (List Int)) (aa : (List Int)) : Nat → Int → (List TOut) → Option (List TOut)
 | 0,_,_ => none
 | nf + 1,ab,ad =>
  if ab < (aa.length : Int) then
   (at? aa ab).bind fun ae =>
   (L_graph_Find a0.a.G ae a0.Host.Node).bind fun af =>
   (L_host_Got a0.a a0.Host af).bind fun ag =>
   (L_slices_Concat_int_int ([a3] ++ [[a0.Host.Node]])).bind fun ah =>
   (L_graph_Find a0.a.G a0.Host.Node ae).bind fun ai =>
   if (ad.length + 1) * 112 ≤ 140737488355328 then
    L_probe_seat_probe_l1 a0 a1 a2 a3 aa nf (IntKind.wrap .i64 (ab + 1)) ((ad ++ [(TOut.mk ai (TFrame.mk 6 0 (TMsg.mk 0 0) [] a1 a2 ag ah))]) : List TOut)
   else none
  else
   some ad
def L_probe_seat_probe (a0 : TSeat) (a1 : Int) (a2 : Int) (a3 : (List Int)) : Option (List TOut) :=
 (L_table_Waits a0.a.T a0.Host.Node a0.Host.State).bind fun aa =>
 L_probe_seat_probe_l1 a0 a1 a2 a3 aa (((aa.length : Int) - 0).toNat + 1) 0 ([] : List TOut)

def L_probe_Start (a0 : TApp) (a1 : THost) (a2 : Int) : Option ((List TOut) × Int) :=
 if a0.Fifo = true then
  (if a2 < 1 then
   some true
  else
   some (decide (a2 > 200))).bind fun aa =>
  if aa = true then
   some ([],2)
  else
   (L_probe_seat_blocked (TSeat.mk a1 a0)).bind fun ab =>
   if ab = true then
    (L_probe_seat_probe (TSeat.mk a1 a0) a1.Node a2 []).bind fun ad =>
    some (ad,0)
   else
    some ([],8)
 else
  some ([],9)

def L_graph_Back (a0 : TGraph) (a1 : Int) : Option Int :=
 (if a1 < 0 then
  some true
 else
  some (decide (a1 ≥ (a0.Links.length : Int)))).bind fun aa =>
 if aa = true then
  some (-1)
 else
  (at? a0.Links a1).bind fun ab =>
  (L_graph_Find a0 ab.a1 ab.a0).bind fun ad =>
  some ad

def L_host_Gave (a0 : TApp) (a1 : THost) (a2 : Int) : Option Int :=
 (L_graph_Out a0.G a1.Node).bind fun aa =>
 (L_slices_Index_int_int aa a2).bind fun ab =>
 if ab ≥ 0 then
  (at? a1.Out ab).bind fun ad =>
  some (ad.length : Int)
 else
  some 0

def L_probe_last (a0 : (List Int)) (a1 : Int) : Option Int :=
 if a1 < (a0.length : Int) then
  (at? a0 a1).bind fun aa =>
  some aa
 else
  some 0

def L_probe_Hear (a0 : TApp) (a1 : THost) (a2 : (List Int)) (a3 : Int) (a4 : TFrame) : Option ((List Int) × (List TOut) × (List Int)) :=
 ((L_graph_In a0.G a1.Node).bind fun aa =>
 (L_slices_Contains_int_int aa a3).bind fun ab =>
 if ab = true then
  (L_probe_seat_blocked (TSeat.mk a1 a0)).bind fun ad =>
  if ad = true then
   (L_graph_Back a0.G a3).bind fun ae =>
   (L_host_Gave a0 a1 ae).bind fun af =>
   some (!(decide (af = a4.Count)))
  else
   some true
 else
  some true).bind fun ag =>
 if ag = true then
  some (a2,[],[])
 else
  if a4.Init = a1.Node then
   (L_slices_Clone_int_int a4.Path).bind fun ah =>
   some (a2,[],ah)
  else
   (L_probe_last a2 a4.Init).bind fun ai =>
   if ai ≥ a4.Num then
    some (a2,[],[])
   else
    if 0 ≤ (max (a2.length : Int) (IntKind.wrap .i64 (a4.Init + 1))) then
     if 8 * ((max (a2.length : Int) (IntKind.wrap .i64 (a4.Init + 1))).toNat) ≤ 140737488355328 then
      if ((max (a2.length : Int) (IntKind.wrap .i64 (a4.Init + 1))).toNat) ≤ 140737488355328 then
       (some (List.replicate ((max (a2.length : Int) (IntKind.wrap .i64 (a4.Init + 1))).toNat) 0)).bind fun aj =>
       (some ((a2.take aj.length) ++ aj.drop (a2.take aj.length).length)).bind fun ak =>
       (at? ak a4.Init).bind fun al =>
       (L_probe_seat_probe (TSeat.mk a1 a0) a4.Init a4.Num a4.Path).bind fun am =>
       some ((ak.set a4.Init.toNat a4.Num),am,[])
      else none
     else none
    else none

def L_law06_Ref (a0 : TPiece) : Option TPiece :=
 some a0

def L_law06_Refs_l1 (a0 : (List TPiece)) : Nat → Int → (List TPiece) → Option (List TPiece)
 | 0,_,_ => none
 | nf + 1,aa,ab =>
  if aa < (a0.length : Int) then
   (at? a0 aa).bind fun ad =>
   (L_law06_Ref ad).bind fun ae =>
   if (ab.length + 1) * 96 ≤ 140737488355328 then
    L_law06_Refs_l1 a0 nf (IntKind.wrap .i64 (aa + 1)) (ab ++ [ae])
   else none
  else
   some ab
def L_law06_Refs (a0 : (List TPiece)) : Option (List TPiece) :=
 L_law06_Refs_l1 a0 (((a0.length : Int) - 0).toNat + 1) 0 ([] : List TPiece)

def L_law07_Ref (a0 : TFrame) : Option TFrame :=
 (L_law06_Refs a0.Pieces).bind fun r7 =>
 some (TFrame.mk a0.Kind a0.Epoch a0.M r7 a0.Init a0.Num a0.Count a0.Path)

def L_law16_Outs_l1 (a0 : (List TOut)) : Nat → Int → (List TOut) → Option (List TOut)
 | 0,_,_ => none
 | nf + 1,aa,ab =>
  if aa < (a0.length : Int) then
   (at? a0 aa).bind fun ad =>
   (L_law07_Ref ad.F).bind fun ae =>
   if (ab.length + 1) * 112 ≤ 140737488355328 then
    L_law16_Outs_l1 a0 nf (IntKind.wrap .i64 (aa + 1)) (ab ++ [(TOut.mk ad.Link ae)])
   else none
  else
   some ab
def L_law16_Outs (a0 : (List TOut)) : Option (List TOut) :=
 L_law16_Outs_l1 a0 (((a0.length : Int) - 0).toNat + 1) 0 ([] : List TOut)

def L_ref01_Ints_l1 (a0 : (List Int)) (a1 : (List Int)) : Nat → Int → Option Bool
 | 0,_ => none
 | nf + 1,aa =>
  if aa < (a0.length : Int) then
   (at? a0 aa).bind fun ab =>
   (at? a1 aa).bind fun ad =>
   if ab = ad then
    L_ref01_Ints_l1 a0 a1 nf (IntKind.wrap .i64 (aa + 1))
   else
    some false
  else
   some true
def L_ref01_Ints (a0 : (List Int)) (a1 : (List Int)) : Option Bool :=
 if (a0.length : Int) = (a1.length : Int) then
  L_ref01_Ints_l1 a0 a1 (((a0.length : Int) - 0).toNat + 1) 0
 else
  some false

def L_ref05_Msgs_l1 (a0 : (List TMsg)) (a1 : (List TMsg)) : Nat → Int → Option Bool
 | 0,_ => none
 | nf + 1,aa =>
  if aa < (a0.length : Int) then
   (at? a0 aa).bind fun ab =>
   (at? a1 aa).bind fun ad =>
   if ab = ad then
    L_ref05_Msgs_l1 a0 a1 nf (IntKind.wrap .i64 (aa + 1))
   else
    some false
  else
   some true
def L_ref05_Msgs (a0 : (List TMsg)) (a1 : (List TMsg)) : Option Bool :=
 if (a0.length : Int) = (a1.length : Int) then
  L_ref05_Msgs_l1 a0 a1 (((a0.length : Int) - 0).toNat + 1) 0
 else
  some false

def L_ref06_Same_l1 (a0 : TPiece) (a1 : TPiece) : Nat → Int → Option (Unit ⊕ Bool)
 | 0,_ => none
 | nf + 1,aa =>
  if aa < (a0.In.length : Int) then
   (at? a0.In aa).bind fun ab =>
   (at? a1.In aa).bind fun ad =>
   (L_ref05_Msgs ab ad).bind fun ae =>
   if ae = true then
    L_ref06_Same_l1 a0 a1 nf (IntKind.wrap .i64 (aa + 1))
   else
    some (.inr false)
  else
   some (.inl ())
def L_ref06_Same_l2 (a0 : TPiece) (a1 : TPiece) : Nat → Int → Option Bool
 | 0,_ => none
 | nf + 1,aa =>
  if aa < (a0.Out.length : Int) then
   (at? a0.Out aa).bind fun ab =>
   (at? a1.Out aa).bind fun ad =>
   (L_ref01_Ints ab ad).bind fun ae =>
   if ae = true then
    L_ref06_Same_l2 a0 a1 nf (IntKind.wrap .i64 (aa + 1))
   else
    some false
  else
   some true
def L_ref06_Same (a0 : TPiece) (a1 : TPiece) : Option Bool :=
 (if a0.Node = a1.Node then
  if a0.State = a1.State then
   if a0.Steps = a1.Steps then
    (L_ref01_Ints a0.Sent a1.Sent).bind fun aa =>
    if aa = true then
     if (a0.In.length : Int) = (a1.In.length : Int) then
      some (!(decide ((a0.Out.length : Int) = (a1.Out.length : Int))))
     else
      some true
    else
     some true
   else
    some true
  else
   some true
 else
  some true).bind fun ab =>
 if ab = true then
  some false
 else
  ((L_ref06_Same_l1 a0 a1 (((a0.In.length : Int) - 0).toNat + 1) 0) : Option (Unit ⊕ Bool)).bind fun ad => match ad with
   | (.inl _) =>
    L_ref06_Same_l2 a0 a1 (((a0.Out.length : Int) - 0).toNat + 1) 0
   | (.inr ae) => some ae

def L_ref06_All_l1 (a0 : (List TPiece)) (a1 : (List TPiece)) : Nat → Int → Option Bool
 | 0,_ => none
 | nf + 1,aa =>
  if aa < (a0.length : Int) then
   (at? a0 aa).bind fun ab =>
   (at? a1 aa).bind fun ad =>
   (L_ref06_Same ab ad).bind fun ae =>
   if ae = true then
    L_ref06_All_l1 a0 a1 nf (IntKind.wrap .i64 (aa + 1))
   else
    some false
  else
   some true
def L_ref06_All (a0 : (List TPiece)) (a1 : (List TPiece)) : Option Bool :=
 if (a0.length : Int) = (a1.length : Int) then
  L_ref06_All_l1 a0 a1 (((a0.length : Int) - 0).toNat + 1) 0
 else
  some false

def L_ref07_Same (a0 : TFrame) (a1 : TFrame) : Option Bool :=
 (if a0.Kind = a1.Kind then
  if a0.Epoch = a1.Epoch then
   if a0.M = a1.M then
    (L_ref06_All a0.Pieces a1.Pieces).bind fun aa =>
    if aa = true then
     if a0.Init = a1.Init then
      if a0.Num = a1.Num then
       if a0.Count = a1.Count then
        (L_ref01_Ints a0.Path a1.Path).bind fun ab =>
        some ab
       else
        some false
      else
       some false
     else
      some false
    else
     some false
   else
    some false
  else
   some false
 else
  some false).bind fun ad =>
 some ad

def L_ref16_Outs_l1 (a0 : (List TOut)) (a1 : (List TOut)) : Nat → Int → Option Bool
 | 0,_ => none
 | nf + 1,aa =>
  if aa < (a0.length : Int) then
   ((at? a0 aa).bind fun ab =>
   (at? a1 aa).bind fun ad =>
   if ab.Link = ad.Link then
    (L_ref07_Same ab.F ad.F).bind fun ae =>
    some (!(ae))
   else
    some true).bind fun af =>
   if af = true then
    some false
   else
    L_ref16_Outs_l1 a0 a1 nf (IntKind.wrap .i64 (aa + 1))
  else
   some true
def L_ref16_Outs (a0 : (List TOut)) (a1 : (List TOut)) : Option Bool :=
 if (a0.length : Int) = (a1.length : Int) then
  L_ref16_Outs_l1 a0 a1 (((a0.length : Int) - 0).toNat + 1) 0
 else
  some false

def L_law16_fixed : Option Bool :=
 (L_law15_Dead).bind fun aa =>
 (L_host_New (TApp.mk aa.G aa.T true) 0).bind fun ab =>
 (L_host_New (TApp.mk aa.G aa.T true) 1).bind fun ad =>
 (L_host_Right (TApp.mk aa.G aa.T true) ab).bind fun ae =>
 if ae = true then
  (L_host_Right (TApp.mk aa.G aa.T true) ad).bind fun af =>
  if af = true then
   (L_probe_Start aa ab 1).bind fun ag =>
   (L_probe_Start (TApp.mk aa.G aa.T true) ab 0).bind fun ah =>
   (L_probe_Start (TApp.mk aa.G aa.T true) ab 1).bind fun ai =>
   if (ai.1.length : Int) = 1 then
    if ai.2 = 0 then
     (at? ai.1 0).bind fun aj =>
     (L_probe_Hear (TApp.mk aa.G aa.T true) ad [] 0 aj.F).bind fun ak =>
     if (ak.2.1.length : Int) = 1 then
      if (ak.2.2.length : Int) = 0 then
       (at? ak.2.1 0).bind fun al =>
       (L_probe_Hear (TApp.mk aa.G aa.T true) ab [] 2 al.F).bind fun am =>
       (L_probe_Hear (TApp.mk aa.G aa.T true) ad ak.1 0 aj.F).bind fun an =>
       (L_probe_Hear (TApp.mk aa.G aa.T true) ad [] 0 (TFrame.mk aj.F.Kind aj.F.Epoch aj.F.M aj.F.Pieces aj.F.Init aj.F.Num 1 aj.F.Path)).bind fun ao =>
       if ag.2 = 9 then
        if ah.2 = 2 then
         (L_law16_Outs ai.1).bind fun ap =>
         (L_ref16_Outs ap ([(TOut.mk 0 (TFrame.mk 6 0 (TMsg.mk 0 0) [] 0 1 0 [0]))])).bind fun aq =>
         if aq = true then
          (L_ref01_Ints ak.1 [1]).bind fun ar =>
          if ar = true then
           (L_law16_Outs ak.2.1).bind fun au =>
           (L_ref16_Outs au ([(TOut.mk 2 (TFrame.mk 6 0 (TMsg.mk 0 0) [] 0 1 0 ([0] ++ [1])))])).bind fun av =>
           if av = true then
            if (am.1.length : Int) = 0 then
             if (am.2.1.length : Int) = 0 then
              (L_ref01_Ints am.2.2 ([0] ++ [1])).bind fun aw =>
              if aw = true then
               (L_ref01_Ints an.1 [1]).bind fun ax =>
               if ax = true then
                if (an.2.1.length : Int) = 0 then
                 if (an.2.2.length : Int) = 0 then
                  if (ao.1.length : Int) = 0 then
                   if (ao.2.1.length : Int) = 0 then
                    some (decide ((ao.2.2.length : Int) = 0))
                   else none
                  else none
                 else none
                else none
               else none
              else none
             else none
            else none
           else none
          else none
         else none
        else none
       else none
      else none
     else none
    else none
   else none
  else none
 else none

def L_ref04_At (a0 : (List TNode)) (a1 : Int) (a2 : Int) : Option TState :=
 (if a1 < 0 then
  some true
 else
  if a1 ≥ (a0.length : Int) then
   some true
  else
   if a2 < 0 then
    some true
   else
    (at? a0 a1).bind fun aa =>
    some (decide (a2 ≥ (aa.States.length : Int)))).bind fun ab =>
 if ab = true then
  some (TState.mk 0 [] [] [])
 else
  (at? a0 a1).bind fun ad =>
  (at? ad.States a2).bind fun ae =>
  some ae

def L_ref09_Place_l1 (a0 : (List Int)) (a1 : Int) : Nat → Int → Option Int
 | 0,_ => none
 | nf + 1,aa =>
  if aa < (a0.length : Int) then
   (at? a0 aa).bind fun ab =>
   if ab = a1 then
    some aa
   else
    L_ref09_Place_l1 a0 a1 nf (IntKind.wrap .i64 (aa + 1))
  else
   some (-1)
def L_ref09_Place (a0 : (List Int)) (a1 : Int) : Option Int :=
 L_ref09_Place_l1 a0 a1 (((a0.length : Int) - 0).toNat + 1) 0

def L_ref09_Got (a0 : TApp) (a1 : THost) (a2 : Int) : Option Int :=
 (L_ref03_In a0.G a1.Node).bind fun aa =>
 (L_ref09_Place aa a2).bind fun ab =>
 if ab < 0 then
  some 0
 else
  (at? a1.In ab).bind fun ad =>
  some (ad.length : Int)

def L_ref16_send_l1 (a0 : TApp) (a1 : THost) (a2 : Int) (a3 : Int) (a4 : (List Int)) (aa : TState) : Nat → Int → (List TOut) → Option (List TOut)
 | 0,_,_ => none
 | nf + 1,ab,ad =>
  if ab < (aa.Waits.length : Int) then
   if a4.length * 8 ≤ 140737488355328 then
    if (a4.length + 1) * 8 ≤ 140737488355328 then
     (at? aa.Waits ab).bind fun ae =>
     (L_ref03_Find a0.G ae a1.Node).bind fun af =>
     (L_ref09_Got a0 a1 af).bind fun ag =>
     (L_ref03_Find a0.G a1.Node ae).bind fun ah =>
     if (ad.length + 1) * 112 ≤ 140737488355328 then
      L_ref16_send_l1 a0 a1 a2 a3 a4 aa nf (IntKind.wrap .i64 (ab + 1)) ((ad ++ [(TOut.mk ah (TFrame.mk 6 0 (TMsg.mk 0 0) [] a2 a3 ag (a4 ++ [a1.Node])))]) : List TOut)
     else none
    else none
   else none
  else
   some ad
def L_ref16_send (a0 : TApp) (a1 : THost) (a2 : Int) (a3 : Int) (a4 : (List Int)) : Option (List TOut) :=
 (L_ref04_At a0.T a1.Node a1.State).bind fun aa =>
 L_ref16_send_l1 a0 a1 a2 a3 a4 aa (((aa.Waits.length : Int) - 0).toNat + 1) 0 ([] : List TOut)

def L_ref16_Start (a0 : TApp) (a1 : THost) (a2 : Int) : Option ((List TOut) × Int) :=
 if a0.Fifo = true then
  (if a2 < 1 then
   some true
  else
   some (decide (a2 > 200))).bind fun aa =>
  if aa = true then
   some ([],2)
  else
   (L_ref04_At a0.T a1.Node a1.State).bind fun ab =>
   if ab.Mode = 2 then
    (L_ref16_send a0 a1 a1.Node a2 []).bind fun ad =>
    some (ad,0)
   else
    some ([],8)
 else
  some ([],9)

def L_ref07_probe_l1 (a0 : TFrame) : Nat → Int → Option Bool
 | 0,_ => none
 | nf + 1,aa =>
  if aa < (a0.Path.length : Int) then
   ((at? a0.Path aa).bind fun ab =>
   if ab < 0 then
    some true
   else
    some (decide (ab > 5))).bind fun ad =>
   if ad = true then
    some false
   else
    L_ref07_probe_l1 a0 nf (IntKind.wrap .i64 (aa + 1))
  else
   some true
def L_ref07_probe (a0 : TFrame) : Option Bool :=
 (if a0.Epoch = 0 then
  if a0.M = (TMsg.mk 0 0) then
   if (a0.Pieces.length : Int) > 0 then
    some true
   else
    if a0.Init < 0 then
     some true
    else
     if a0.Init > 5 then
      some true
     else
      if a0.Num < 1 then
       some true
      else
       if a0.Num > 200 then
        some true
       else
        if a0.Count < 0 then
         some true
        else
         if a0.Count > 500 then
          some true
         else
          if (a0.Path.length : Int) < 1 then
           some true
          else
           some (decide ((a0.Path.length : Int) > 6))
  else
   some true
 else
  some true).bind fun aa =>
 if aa = true then
  some false
 else
  L_ref07_probe_l1 a0 (((a0.Path.length : Int) - 0).toNat + 1) 0

def L_ref07_bare (a0 : TFrame) : Option Bool :=
 (if a0.Init = 0 then
  if a0.Num = 0 then
   if a0.Count = 0 then
    some (decide ((a0.Path.length : Int) = 0))
   else
    some false
  else
   some false
 else
  some false).bind fun aa =>
 some aa

def L_ref07_Right_l1 (a0 : TFrame) : Nat → Int → Option Bool
 | 0,_ => none
 | nf + 1,aa =>
  if aa < (a0.Pieces.length : Int) then
   (at? a0.Pieces aa).bind fun ab =>
   (L_ref06_Right ab).bind fun ad =>
   if ad = true then
    L_ref07_Right_l1 a0 nf (IntKind.wrap .i64 (aa + 1))
   else
    some false
  else
   (if (a0.Pieces.length : Int) ≥ 1 then
    some (decide ((a0.Pieces.length : Int) ≤ 6))
   else
    some false).bind fun ae =>
   some ae
def L_ref07_Right (a0 : TFrame) : Option Bool :=
 if a0.Kind = 6 then
  (L_ref07_probe a0).bind fun aa =>
  some aa
 else
  (if a0.Kind < 0 then
   some true
  else
   if a0.Kind > 6 then
    some true
   else
    (L_ref07_bare a0).bind fun ab =>
    if ab = true then
     if a0.Epoch < 0 then
      some true
     else
      if a0.Epoch > 200 then
       some true
      else
       if a0.Kind > 0 then
        if a0.Epoch < 1 then
         some true
        else
         some (!(decide (a0.M = (TMsg.mk 0 0))))
       else
        some false
    else
     some true).bind fun ad =>
  if ad = true then
   some false
  else
   if a0.Kind = 0 then
    (if (a0.Pieces.length : Int) = 0 then
     if a0.M.Seq ≥ 1 then
      if a0.M.Seq ≤ 500 then
       if a0.M.Letter ≥ 0 then
        some (decide (a0.M.Letter ≤ 3))
       else
        some false
      else
       some false
     else
      some false
    else
     some false).bind fun ae =>
    some ae
   else
    if a0.Kind = 5 then
     L_ref07_Right_l1 a0 (((a0.Pieces.length : Int) - 0).toNat + 1) 0
    else
     some (decide ((a0.Pieces.length : Int) = 0))

def L_ref03_Back (a0 : TGraph) (a1 : Int) : Option Int :=
 (if a1 < 0 then
  some true
 else
  some (decide (a1 ≥ (a0.Links.length : Int)))).bind fun aa =>
 if aa = true then
  some (-1)
 else
  (at? a0.Links a1).bind fun ab =>
  (L_ref03_Find a0 ab.a1 ab.a0).bind fun ad =>
  some ad

def L_ref09_Gave (a0 : TApp) (a1 : THost) (a2 : Int) : Option Int :=
 (L_ref03_Out a0.G a1.Node).bind fun aa =>
 (L_ref09_Place aa a2).bind fun ab =>
 if ab < 0 then
  some 0
 else
  (at? a1.Out ab).bind fun ad =>
  some (ad.length : Int)

def L_ref16_Hear_l1 (a4 : TFrame) : Nat → (List Int) → Option (List Int)
 | 0,_ => none
 | nf + 1,aa =>
  if (aa.length : Int) ≤ a4.Init then
   if (aa.length + 1) * 8 ≤ 140737488355328 then
    L_ref16_Hear_l1 a4 nf (aa ++ [0])
   else none
  else
   some aa
def L_ref16_Hear (a0 : TApp) (a1 : THost) (a2 : (List Int)) (a3 : Int) (a4 : TFrame) : Option ((List Int) × (List TOut) × (List Int)) :=
 ((L_ref03_In a0.G a1.Node).bind fun aa =>
 (L_ref09_Place aa a3).bind fun ab =>
 if ab < 0 then
  some true
 else
  (L_ref04_At a0.T a1.Node a1.State).bind fun ad =>
  if ad.Mode = 2 then
   (L_ref03_Back a0.G a3).bind fun ae =>
   (L_ref09_Gave a0 a1 ae).bind fun af =>
   some (!(decide (af = a4.Count)))
  else
   some true).bind fun ag =>
 if ag = true then
  some (a2,[],[])
 else
  if a4.Init = a1.Node then
   some (a2,[],a4.Path)
  else
   if a2.length * 8 ≤ 140737488355328 then
    (L_ref16_Hear_l1 a4 (a4.Init.toNat + 2) a2).bind fun ah =>
    (at? ah a4.Init).bind fun ai =>
    if ai ≥ a4.Num then
     some (a2,[],[])
    else
     (L_ref16_send a0 a1 a4.Init a4.Num a4.Path).bind fun aj =>
     some ((ah.set a4.Init.toNat a4.Num),aj,[])
   else none

def L_ref05_Start_l1 (a0 : TApp) : Nat → Int → (List Int) → Option (List Int)
 | 0,_,_ => none
 | nf + 1,aa,ab =>
  if aa < (a0.T.length : Int) then
   (at? a0.T aa).bind fun ad =>
   if (ab.length + 1) * 8 ≤ 140737488355328 then
    L_ref05_Start_l1 a0 nf (IntKind.wrap .i64 (aa + 1)) (ab ++ [ad.Start])
   else none
  else
   some ab
def L_ref05_Start_l2 (a0 : TApp) (aa : List Int) : Nat → Int → (List (List TMsg)) → (List Int) → Option TConf
 | 0,_,_,_ => none
 | nf + 1,ab,ad,ae =>
  if ab < (a0.G.Links.length : Int) then
   if (ad.length + 1) * 24 ≤ 140737488355328 then
    if (ae.length + 1) * 8 ≤ 140737488355328 then
     L_ref05_Start_l2 a0 aa nf (IntKind.wrap .i64 (ab + 1)) ((ad ++ [[]]) : List (List TMsg)) (ae ++ [0])
    else none
   else none
  else
   some (TConf.mk aa ad ae)
def L_ref05_Start (a0 : TApp) : Option TConf :=
 (L_ref05_Start_l1 a0 (((a0.T.length : Int) - 0).toNat + 1) 0 ([] : List Int)).bind fun aa =>
 L_ref05_Start_l2 a0 aa (((a0.G.Links.length : Int) - 0).toNat + 1) 0 ([] : List (List TMsg)) ([] : List Int)

def L_law16_hosts_l1 (a0 : TApp) (a1 : (List Int)) : Nat → Int → (List THost) → Option (List THost)
 | 0,_,_ => none
 | nf + 1,aa,ab =>
  if aa < a0.G.N then
   (L_host_New a0 aa).bind fun ad =>
   (at? a1 aa).bind fun ae =>
   if (ab.length + 1) * 72 ≤ 140737488355328 then
    L_law16_hosts_l1 a0 a1 nf (IntKind.wrap .i64 (aa + 1)) (ab ++ [(THost.mk ad.Node ae ad.Steps ad.In ad.Out)])
   else none
  else
   some ab
def L_law16_hosts (a0 : TApp) (a1 : (List Int)) : Option (List THost) :=
 L_law16_hosts_l1 a0 a1 ((a0.G.N - 0).toNat + 1) 0 ([] : List THost)

def L_ref15_Edge (a0 : TApp) (a1 : TConf) (a2 : Int) (a3 : Int) : Option Bool :=
 (if a2 < 0 then
  some true
 else
  if a2 ≥ (a1.States.length : Int) then
   some true
  else
   (at? a1.States a2).bind fun aa =>
   (L_ref04_At a0.T a2 aa).bind fun ab =>
   (L_ref04_In ab.Waits a3).bind fun ad =>
   some (!(ad))).bind fun ae =>
 if ae = true then
  some false
 else
  (L_ref03_Find a0.G a3 a2).bind fun af =>
  (if af ≥ 0 then
   (at? a1.Links af).bind fun ag =>
   some (decide ((ag.length : Int) = 0))
  else
   some false).bind fun ah =>
  some ah

def L_ref15_Ring_l1 (a0 : TApp) (a1 : TConf) (a2 : (List Int)) : Nat → Int → Option Bool
 | 0,_ => none
 | nf + 1,aa =>
  if aa < (a2.length : Int) then
   (at? a2 0).bind fun ab =>
   (if (IntKind.wrap .i64 (aa + 1)) < (a2.length : Int) then
    (at? a2 (IntKind.wrap .i64 (aa + 1))).bind fun ad =>
    some ad
   else
    some ab).bind fun ae =>
   (if 0 ≤ aa then
    if aa ≤ (a2.length : Int) then
     (some (a2.take aa.toNat)).bind fun af =>
     (at? a2 aa).bind fun ag =>
     (L_ref04_In af ag).bind fun ah =>
     if ah = true then
      some true
     else
      (L_ref15_Edge a0 a1 ag ae).bind fun ai =>
      some (!(ai))
    else none
   else none).bind fun aj =>
   if aj = true then
    some false
   else
    L_ref15_Ring_l1 a0 a1 a2 nf (IntKind.wrap .i64 (aa + 1))
  else
   some (decide ((a2.length : Int) > 0))
def L_ref15_Ring (a0 : TApp) (a1 : TConf) (a2 : (List Int)) : Option Bool :=
 L_ref15_Ring_l1 a0 a1 a2 (((a2.length : Int) - 0).toNat + 1) 0

def L_ref15_Reach_l1 (a0 : TApp) (a1 : TConf) (a2 : Int) : Nat → Int → (List Bool) → Option (List Bool)
 | 0,_,_ => none
 | nf + 1,aa,ab =>
  if aa < a0.G.N then
   (L_ref15_Edge a0 a1 a2 aa).bind fun ad =>
   (at? ab aa).bind fun ae =>
   L_ref15_Reach_l1 a0 a1 a2 nf (IntKind.wrap .i64 (aa + 1)) (ab.set aa.toNat ad)
  else
   some ab
def L_ref15_Reach_l4 (a0 : TApp) (a1 : TConf) (aa : Int) : Nat → Int → (List Bool) → Option (List Bool)
 | 0,_,_ => none
 | nf + 1,ab,ad =>
  if ab < a0.G.N then
   ((at? ad ab).bind fun ae =>
   if ae = true then
    some (ad.set ab.toNat true)
   else
    (at? ad aa).bind fun af =>
    if af = true then
     (L_ref15_Edge a0 a1 aa ab).bind fun ag =>
     some (ad.set ab.toNat ag)
    else
     some (ad.set ab.toNat false)).bind fun ah =>
   L_ref15_Reach_l4 a0 a1 aa nf (IntKind.wrap .i64 (ab + 1)) ah
  else
   some ad
def L_ref15_Reach_l3 (a0 : TApp) (a1 : TConf) : Nat → Int → (List Bool) → Option (List Bool)
 | 0,_,_ => none
 | nf + 1,aa,ab =>
  if aa < a0.G.N then
   ((L_ref15_Reach_l4 a0 a1 aa ((a0.G.N - 0).toNat + 1) 0 ab).bind fun ad =>
   some ad).bind fun ae =>
   L_ref15_Reach_l3 a0 a1 nf (IntKind.wrap .i64 (aa + 1)) ae
  else
   some ab
def L_ref15_Reach_l2 (a0 : TApp) (a1 : TConf) : Nat → Int → (List Bool) → Option (List Bool)
 | 0,_,_ => none
 | nf + 1,aa,ab =>
  if aa < a0.G.N then
   ((L_ref15_Reach_l3 a0 a1 ((a0.G.N - 0).toNat + 1) 0 ab).bind fun ad =>
   some ad).bind fun ae =>
   L_ref15_Reach_l2 a0 a1 nf (IntKind.wrap .i64 (aa + 1)) ae
  else
   some ab
def L_ref15_Reach (a0 : TApp) (a1 : TConf) (a2 : Int) : Option (List Bool) :=
 if 0 ≤ a0.G.N then
  if 1 * a0.G.N.toNat ≤ 140737488355328 then
   if a0.G.N.toNat ≤ 140737488355328 then
    (L_ref15_Reach_l1 a0 a1 a2 ((a0.G.N - 0).toNat + 1) 0 (List.replicate a0.G.N.toNat false)).bind fun aa =>
    L_ref15_Reach_l2 a0 a1 ((a0.G.N - 0).toNat + 1) 0 aa
   else none
  else none
 else none

def L_ref15_Knot_l1 (a0 : TApp) (a1 : TConf) : Nat → Int → (List Int) → Option (List Int)
 | 0,_,_ => none
 | nf + 1,aa,ab =>
  if aa < a0.G.N then
   ((L_ref15_Reach a0 a1 aa).bind fun ad =>
   (at? ad aa).bind fun ae =>
   if ae = true then
    if (ab.length + 1) * 8 ≤ 140737488355328 then
     some (ab ++ [aa])
    else none
   else
    some ab).bind fun af =>
   L_ref15_Knot_l1 a0 a1 nf (IntKind.wrap .i64 (aa + 1)) af
  else
   some ab
def L_ref15_Knot (a0 : TApp) (a1 : TConf) : Option (List Int) :=
 L_ref15_Knot_l1 a0 a1 ((a0.G.N - 0).toNat + 1) 0 ([] : List Int)

def L_ref15_Edges_l2 (a0 : TApp) (a1 : TConf) (aa : Int) : Nat → Int → (List A2I) → Option (List A2I)
 | 0,_,_ => none
 | nf + 1,ab,ad =>
  if ab < a0.G.N then
   ((L_ref15_Edge a0 a1 aa ab).bind fun ae =>
   if ae = true then
    if (ad.length + 1) * 16 ≤ 140737488355328 then
     some (ad ++ [(A2I.mk aa ab)])
    else none
   else
    some ad).bind fun af =>
   L_ref15_Edges_l2 a0 a1 aa nf (IntKind.wrap .i64 (ab + 1)) af
  else
   some ad
def L_ref15_Edges_l1 (a0 : TApp) (a1 : TConf) : Nat → Int → (List A2I) → Option (List A2I)
 | 0,_,_ => none
 | nf + 1,aa,ab =>
  if aa < a0.G.N then
   ((L_ref15_Edges_l2 a0 a1 aa ((a0.G.N - 0).toNat + 1) 0 ab).bind fun ad =>
   some ad).bind fun ae =>
   L_ref15_Edges_l1 a0 a1 nf (IntKind.wrap .i64 (aa + 1)) ae
  else
   some ab
def L_ref15_Edges (a0 : TApp) (a1 : TConf) : Option (List A2I) :=
 L_ref15_Edges_l1 a0 a1 ((a0.G.N - 0).toNat + 1) 0 ([] : List A2I)

end Go.Proofs.YtabbejabdkkaiaaGreat
