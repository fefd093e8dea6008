/- Functions as typed ones,and that the program's functions answer as these do. No condition. -/
import Derived.Test.YtabbejabdkkaiaaGt
import Derived.Test.YtabbejabdkkaiaaKH
set_option linter.unusedSimpArgs false
set_option linter.unusedVariables false
namespace Go.Proofs.Ytabbejabdkkaiaa
open Go.RowKit

structure A2I where
 a0 : Int
 a1 : Int
def eA2I (x : A2I) : List C := [.int .i64 x.a0,.int .i64 x.a1]
def cA2I (x : A2I) : List Cell := [.d (.int .i64 x.a0),.d (.int .i64 x.a1)]
instance : DecidableEq A2I := fun x y => decidable_of_iff (x.a0 = y.a0 ∧ x.a1 = y.a1) ⟨fun h => by cases x; cases y; simp_all,fun h => by subst h; simp⟩
theorem eq_A2I_vv (x : A2I) (y : A2I) : (decide (x.a0 = y.a0) && decide (x.a1 = y.a1)) = decide (x = y) := by
 cases x; cases y; rw [Bool.eq_iff_iff]; simp
theorem eq_A2I_vm (x : A2I) (b0 b1 : Int) : (decide (x.a0 = b0) && decide (x.a1 = b1)) = decide (x = A2I.mk b0 b1) := by
 cases x; rw [Bool.eq_iff_iff]; simp
theorem eq_A2I_mv (a0 a1 : Int) (y : A2I) : (decide (a0 = y.a0) && decide (a1 = y.a1)) = decide (A2I.mk a0 a1 = y) := by
 cases y; rw [Bool.eq_iff_iff]; simp
theorem eq_A2I_mm (a0 a1 : Int) (b0 b1 : Int) : (decide (a0 = b0) && decide (a1 = b1)) = decide (A2I.mk a0 a1 = A2I.mk b0 b1) := by
 rw [Bool.eq_iff_iff]; simp
structure TGraph where
 N : Int
 Links : (List A2I)
def eTGraph (x : TGraph) : List C := [.int .i64 x.N,.sl (x.Links.map eA2I)]
def cTGraph (x : TGraph) : List Cell := [.d (.int .i64 x.N),.d (.sl (x.Links.map eA2I))]
structure TSend where
 To : Int
 Letter : Int
def eTSend (x : TSend) : List C := [.int .i64 x.To,.int .i64 x.Letter]
def cTSend (x : TSend) : List Cell := [.d (.int .i64 x.To),.d (.int .i64 x.Letter)]
structure TPick where
 Next : Int
 Sends : (List TSend)
def eTPick (x : TPick) : List C := [.int .i64 x.Next,.sl (x.Sends.map eTSend)]
def cTPick (x : TPick) : List Cell := [.d (.int .i64 x.Next),.d (.sl (x.Sends.map eTSend))]
structure TTake where
 From : Int
 Letter : Int
 Next : Int
def eTTake (x : TTake) : List C := [.int .i64 x.From,.int .i64 x.Letter,.int .i64 x.Next]
def cTTake (x : TTake) : List Cell := [.d (.int .i64 x.From),.d (.int .i64 x.Letter),.d (.int .i64 x.Next)]
structure TState where
 Mode : Int
 Waits : (List Int)
 Picks : (List TPick)
 Takes : (List TTake)
def eTState (x : TState) : List C := [.int .i64 x.Mode,.sl (x.Waits.map eI),.sl (x.Picks.map eTPick),.sl (x.Takes.map eTTake)]
def cTState (x : TState) : List Cell := [.d (.int .i64 x.Mode),.d (.sl (x.Waits.map eI)),.d (.sl (x.Picks.map eTPick)),.d (.sl (x.Takes.map eTTake))]
structure TNode where
 Start : Int
 States : (List TState)
def eTNode (x : TNode) : List C := [.int .i64 x.Start,.sl (x.States.map eTState)]
def cTNode (x : TNode) : List Cell := [.d (.int .i64 x.Start),.d (.sl (x.States.map eTState))]
structure TApp where
 G : TGraph
 T : (List TNode)
 Fifo : Bool
def eTApp (x : TApp) : List C := [.int .i64 x.G.N,.sl (x.G.Links.map eA2I),.sl (x.T.map eTNode),.bool x.Fifo]
def cTApp (x : TApp) : List Cell := [.d (.int .i64 x.G.N),.d (.sl (x.G.Links.map eA2I)),.d (.sl (x.T.map eTNode)),.d (.bool x.Fifo)]
structure TMsg where
 Seq : Int
 Letter : Int
def eTMsg (x : TMsg) : List C := [.int .i64 x.Seq,.int .i64 x.Letter]
def cTMsg (x : TMsg) : List Cell := [.d (.int .i64 x.Seq),.d (.int .i64 x.Letter)]
instance : DecidableEq TMsg := fun x y => decidable_of_iff (x.Seq = y.Seq ∧ x.Letter = y.Letter) ⟨fun h => by cases x; cases y; simp_all,fun h => by subst h; simp⟩
theorem eq_TMsg_vv (x : TMsg) (y : TMsg) : (decide (x.Seq = y.Seq) && decide (x.Letter = y.Letter)) = decide (x = y) := by
 cases x; cases y; rw [Bool.eq_iff_iff]; simp
theorem eq_TMsg_vm (x : TMsg) (b0 b1 : Int) : (decide (x.Seq = b0) && decide (x.Letter = b1)) = decide (x = TMsg.mk b0 b1) := by
 cases x; rw [Bool.eq_iff_iff]; simp
theorem eq_TMsg_mv (a0 a1 : Int) (y : TMsg) : (decide (a0 = y.Seq) && decide (a1 = y.Letter)) = decide (TMsg.mk a0 a1 = y) := by
 cases y; rw [Bool.eq_iff_iff]; simp
theorem eq_TMsg_mm (a0 a1 : Int) (b0 b1 : Int) : (decide (a0 = b0) && decide (a1 = b1)) = decide (TMsg.mk a0 a1 = TMsg.mk b0 b1) := by
 rw [Bool.eq_iff_iff]; simp
structure THost where
 Node : Int
 State : Int
 Steps : Int
 In : (List (List TMsg))
 Out : (List (List Int))
def eTHost (x : THost) : List C := [.int .i64 x.Node,.int .i64 x.State,.int .i64 x.Steps,.sl (x.In.map (eL eTMsg)),.sl (x.Out.map (eL eI))]
def cTHost (x : THost) : List Cell := [.d (.int .i64 x.Node),.d (.int .i64 x.State),.d (.int .i64 x.Steps),.d (.sl (x.In.map (eL eTMsg))),.d (.sl (x.Out.map (eL eI)))]
structure TPiece where
 Node : Int
 State : Int
 Steps : Int
 Sent : (List Int)
 In : (List (List TMsg))
 Out : (List (List Int))
def eTPiece (x : TPiece) : List C := [.int .i64 x.Node,.int .i64 x.State,.int .i64 x.Steps,.sl (x.Sent.map eI),.sl (x.In.map (eL eTMsg)),.sl (x.Out.map (eL eI))]
def cTPiece (x : TPiece) : List Cell := [.d (.int .i64 x.Node),.d (.int .i64 x.State),.d (.int .i64 x.Steps),.d (.sl (x.Sent.map eI)),.d (.sl (x.In.map (eL eTMsg))),.d (.sl (x.Out.map (eL eI)))]
structure TFrame where
 Kind : Int
 Epoch : Int
 M : TMsg
 Pieces : (List TPiece)
 Init : Int
 Num : Int
 Count : Int
 Path : (List Int)
def eTFrame (x : TFrame) : List C := [.int .i64 x.Kind,.int .i64 x.Epoch,.int .i64 x.M.Seq,.int .i64 x.M.Letter,.sl (x.Pieces.map eTPiece),.int .i64 x.Init,.int .i64 x.Num,.int .i64 x.Count,.sl (x.Path.map eI)]
def cTFrame (x : TFrame) : List Cell := [.d (.int .i64 x.Kind),.d (.int .i64 x.Epoch),.d (.int .i64 x.M.Seq),.d (.int .i64 x.M.Letter),.d (.sl (x.Pieces.map eTPiece)),.d (.int .i64 x.Init),.d (.int .i64 x.Num),.d (.int .i64 x.Count),.d (.sl (x.Path.map eI))]
structure THeard where
 Num : Int
 Link : Int
 Seen : (List Int)
 F : TFrame
def eTHeard (x : THeard) : List C := [.int .i64 x.Num,.int .i64 x.Link,.sl (x.Seen.map eI),.int .i64 x.F.Kind,.int .i64 x.F.Epoch,.int .i64 x.F.M.Seq,.int .i64 x.F.M.Letter,.sl (x.F.Pieces.map eTPiece),.int .i64 x.F.Init,.int .i64 x.F.Num,.int .i64 x.F.Count,.sl (x.F.Path.map eI)]
def cTHeard (x : THeard) : List Cell := [.d (.int .i64 x.Num),.d (.int .i64 x.Link),.d (.sl (x.Seen.map eI)),.d (.int .i64 x.F.Kind),.d (.int .i64 x.F.Epoch),.d (.int .i64 x.F.M.Seq),.d (.int .i64 x.F.M.Letter),.d (.sl (x.F.Pieces.map eTPiece)),.d (.int .i64 x.F.Init),.d (.int .i64 x.F.Num),.d (.int .i64 x.F.Count),.d (.sl (x.F.Path.map eI))]
structure TPlace where
 State : TState
 n : Int
 node : TNode
 g : TGraph
def eTPlace (x : TPlace) : List C := [.int .i64 x.State.Mode,.sl (x.State.Waits.map eI),.sl (x.State.Picks.map eTPick),.sl (x.State.Takes.map eTTake),.int .i64 x.n,.int .i64 x.node.Start,.sl (x.node.States.map eTState),.int .i64 x.g.N,.sl (x.g.Links.map eA2I)]
def cTPlace (x : TPlace) : List Cell := [.d (.int .i64 x.State.Mode),.d (.sl (x.State.Waits.map eI)),.d (.sl (x.State.Picks.map eTPick)),.d (.sl (x.State.Takes.map eTTake)),.d (.int .i64 x.n),.d (.int .i64 x.node.Start),.d (.sl (x.node.States.map eTState)),.d (.int .i64 x.g.N),.d (.sl (x.g.Links.map eA2I))]
structure TOut where
 Link : Int
 F : TFrame
def eTOut (x : TOut) : List C := [.int .i64 x.Link,.int .i64 x.F.Kind,.int .i64 x.F.Epoch,.int .i64 x.F.M.Seq,.int .i64 x.F.M.Letter,.sl (x.F.Pieces.map eTPiece),.int .i64 x.F.Init,.int .i64 x.F.Num,.int .i64 x.F.Count,.sl (x.F.Path.map eI)]
def cTOut (x : TOut) : List Cell := [.d (.int .i64 x.Link),.d (.int .i64 x.F.Kind),.d (.int .i64 x.F.Epoch),.d (.int .i64 x.F.M.Seq),.d (.int .i64 x.F.M.Letter),.d (.sl (x.F.Pieces.map eTPiece)),.d (.int .i64 x.F.Init),.d (.int .i64 x.F.Num),.d (.int .i64 x.F.Count),.d (.sl (x.F.Path.map eI))]
structure TSeat where
 Host : THost
 a : TApp
def eTSeat (x : TSeat) : List C := [.int .i64 x.Host.Node,.int .i64 x.Host.State,.int .i64 x.Host.Steps,.sl (x.Host.In.map (eL eTMsg)),.sl (x.Host.Out.map (eL eI)),.int .i64 x.a.G.N,.sl (x.a.G.Links.map eA2I),.sl (x.a.T.map eTNode),.bool x.a.Fifo]
def cTSeat (x : TSeat) : List Cell := [.d (.int .i64 x.Host.Node),.d (.int .i64 x.Host.State),.d (.int .i64 x.Host.Steps),.d (.sl (x.Host.In.map (eL eTMsg))),.d (.sl (x.Host.Out.map (eL eI))),.d (.int .i64 x.a.G.N),.d (.sl (x.a.G.Links.map eA2I)),.d (.sl (x.a.T.map eTNode)),.d (.bool x.a.Fifo)]
def cols_46 (j : Nat) : TD := if j = 1 then .sl 50 2 (fun _ => .sc) else .sc
theorem oset_46 (l : List (List C)) (i : Nat) (c0 c1 : C) : (openRows cols_46 l).set i [.d c0,.tr (.sl 50 2 (fun _ => .sc)) c1] = openRows cols_46 (l.set i [c0,c1]) := by
 simp [openRows,List.map_set,cellsOf,cellOf,cols_46]
def cols_43 (j : Nat) : TD := if j = 1 then .sl 3 1 (fun _ => .sc) else if j = 2 then .sl 46 2 cols_46 else if j = 3 then .sl 48 3 (fun _ => .sc) else .sc
theorem oset_43 (l : List (List C)) (i : Nat) (c0 c1 c2 c3 : C) : (openRows cols_43 l).set i [.d c0,.tr (.sl 3 1 (fun _ => .sc)) c1,.tr (.sl 46 2 cols_46) c2,.tr (.sl 48 3 (fun _ => .sc)) c3] = openRows cols_43 (l.set i [c0,c1,c2,c3]) := by
 simp [openRows,List.map_set,cellsOf,cellOf,cols_43]
def cols_38 (j : Nat) : TD := if j = 1 then .sl 43 4 cols_43 else .sc
theorem oset_38 (l : List (List C)) (i : Nat) (c0 c1 : C) : (openRows cols_38 l).set i [.d c0,.tr (.sl 43 4 cols_43) c1] = openRows cols_38 (l.set i [c0,c1]) := by
 simp [openRows,List.map_set,cellsOf,cellOf,cols_38]
def cols_189 (j : Nat) : TD := if j = 1 then .sl 190 2 (fun _ => .sc) else .sc
theorem oset_189 (l : List (List C)) (i : Nat) (c0 c1 : C) : (openRows cols_189 l).set i [.d c0,.tr (.sl 190 2 (fun _ => .sc)) c1] = openRows cols_189 (l.set i [c0,c1]) := by
 simp [openRows,List.map_set,cellsOf,cellOf,cols_189]
def cols_90 (j : Nat) : TD := if j = 1 then .sl 3 1 (fun _ => .sc) else if j = 2 then .sl 189 2 cols_189 else if j = 3 then .sl 191 3 (fun _ => .sc) else .sc
theorem oset_90 (l : List (List C)) (i : Nat) (c0 c1 c2 c3 : C) : (openRows cols_90 l).set i [.d c0,.tr (.sl 3 1 (fun _ => .sc)) c1,.tr (.sl 189 2 cols_189) c2,.tr (.sl 191 3 (fun _ => .sc)) c3] = openRows cols_90 (l.set i [c0,c1,c2,c3]) := by
 simp [openRows,List.map_set,cellsOf,cellOf,cols_90]
def cols_132 (j : Nat) : TD := if j = 1 then .sl 90 4 cols_90 else .sc
theorem oset_132 (l : List (List C)) (i : Nat) (c0 c1 : C) : (openRows cols_132 l).set i [.d c0,.tr (.sl 90 4 cols_90) c1] = openRows cols_132 (l.set i [c0,c1]) := by
 simp [openRows,List.map_set,cellsOf,cellOf,cols_132]
def cols_170 (j : Nat) : TD := if j = 0 then .sl 59 2 (fun _ => .sc) else .sc
theorem oset_170 (l : List (List C)) (i : Nat) (c0 : C) : (openRows cols_170 l).set i [.tr (.sl 59 2 (fun _ => .sc)) c0] = openRows cols_170 (l.set i [c0]) := by
 simp [openRows,List.map_set,cellsOf,cellOf,cols_170]
def cols_39 (j : Nat) : TD := if j = 0 then .sl 3 1 (fun _ => .sc) else .sc
theorem oset_39 (l : List (List C)) (i : Nat) (c0 : C) : (openRows cols_39 l).set i [.tr (.sl 3 1 (fun _ => .sc)) c0] = openRows cols_39 (l.set i [c0]) := by
 simp [openRows,List.map_set,cellsOf,cellOf,cols_39]
def cols_148 (j : Nat) : TD := if j = 3 then .sl 3 1 (fun _ => .sc) else if j = 4 then .sl 170 1 cols_170 else if j = 5 then .sl 39 1 cols_39 else .sc
theorem oset_148 (l : List (List C)) (i : Nat) (c0 c1 c2 c3 c4 c5 : C) : (openRows cols_148 l).set i [.d c0,.d c1,.d c2,.tr (.sl 3 1 (fun _ => .sc)) c3,.tr (.sl 170 1 cols_170) c4,.tr (.sl 39 1 cols_39) c5] = openRows cols_148 (l.set i [c0,c1,c2,c3,c4,c5]) := by
 simp [openRows,List.map_set,cellsOf,cellOf,cols_148]
def cols_152 (j : Nat) : TD := if j = 3 then .sl 3 1 (fun _ => .sc) else if j = 4 then .sl 170 1 cols_170 else if j = 5 then .sl 39 1 cols_39 else .sc
theorem oset_152 (l : List (List C)) (i : Nat) (c0 c1 c2 c3 c4 c5 : C) : (openRows cols_152 l).set i [.d c0,.d c1,.d c2,.tr (.sl 3 1 (fun _ => .sc)) c3,.tr (.sl 170 1 cols_170) c4,.tr (.sl 39 1 cols_39) c5] = openRows cols_152 (l.set i [c0,c1,c2,c3,c4,c5]) := by
 simp [openRows,List.map_set,cellsOf,cellOf,cols_152]
def cols_93 (j : Nat) : TD := if j = 5 then .sl 148 6 cols_148 else if j = 9 then .sl 3 1 (fun _ => .sc) else .sc
theorem oset_93 (l : List (List C)) (i : Nat) (c0 c1 c2 c3 c4 c5 c6 c7 c8 c9 : C) : (openRows cols_93 l).set i [.d c0,.d c1,.d c2,.d c3,.d c4,.tr (.sl 148 6 cols_148) c5,.d c6,.d c7,.d c8,.tr (.sl 3 1 (fun _ => .sc)) c9] = openRows cols_93 (l.set i [c0,c1,c2,c3,c4,c5,c6,c7,c8,c9]) := by
 simp [openRows,List.map_set,cellsOf,cellOf,cols_93]
def cols_161 (j : Nat) : TD := if j = 5 then .sl 152 6 cols_152 else if j = 9 then .sl 3 1 (fun _ => .sc) else .sc
theorem oset_161 (l : List (List C)) (i : Nat) (c0 c1 c2 c3 c4 c5 c6 c7 c8 c9 : C) : (openRows cols_161 l).set i [.d c0,.d c1,.d c2,.d c3,.d c4,.tr (.sl 152 6 cols_152) c5,.d c6,.d c7,.d c8,.tr (.sl 3 1 (fun _ => .sc)) c9] = openRows cols_161 (l.set i [c0,c1,c2,c3,c4,c5,c6,c7,c8,c9]) := by
 simp [openRows,List.map_set,cellsOf,cellOf,cols_161]
theorem sc_3 (l : List Int) : scRows (fun _ => .sc) (List.map eI l) := by
 intro r hr j c hj hc
 obtain ⟨x,_,rfl⟩ := List.mem_map.1 hr
 rcases j with _ | j <;> first | (simp [eI] at hj; subst hj; rfl) | (simp [eI] at hj; done) | (simp [hc] at hc; done)
theorem sc_43 (l : List TState) : scRows cols_43 (List.map eTState l) := by
 intro r hr j c hj hc
 obtain ⟨x,_,rfl⟩ := List.mem_map.1 hr
 rcases j with _ | _ | _ | _ | j <;> first | (simp [eTState] at hj; subst hj; rfl) | (simp [eTState] at hj; done) | (simp [cols_43] at hc; done)
theorem sc_46 (l : List TPick) : scRows cols_46 (List.map eTPick l) := by
 intro r hr j c hj hc
 obtain ⟨x,_,rfl⟩ := List.mem_map.1 hr
 rcases j with _ | _ | j <;> first | (simp [eTPick] at hj; subst hj; rfl) | (simp [eTPick] at hj; done) | (simp [cols_46] at hc; done)
theorem sc_48 (l : List TTake) : scRows (fun _ => .sc) (List.map eTTake l) := by
 intro r hr j c hj hc
 obtain ⟨x,_,rfl⟩ := List.mem_map.1 hr
 rcases j with _ | _ | _ | j <;> first | (simp [eTTake] at hj; subst hj; rfl) | (simp [eTTake] at hj; done) | (simp [hc] at hc; done)
theorem sc_50 (l : List TSend) : scRows (fun _ => .sc) (List.map eTSend l) := by
 intro r hr j c hj hc
 obtain ⟨x,_,rfl⟩ := List.mem_map.1 hr
 rcases j with _ | _ | j <;> first | (simp [eTSend] at hj; subst hj; rfl) | (simp [eTSend] at hj; done) | (simp [hc] at hc; done)
theorem sc_59 (l : List TMsg) : scRows (fun _ => .sc) (List.map eTMsg l) := by
 intro r hr j c hj hc
 obtain ⟨x,_,rfl⟩ := List.mem_map.1 hr
 rcases j with _ | _ | j <;> first | (simp [eTMsg] at hj; subst hj; rfl) | (simp [eTMsg] at hj; done) | (simp [hc] at hc; done)
theorem sc_190 (l : List TSend) : scRows (fun _ => .sc) (List.map eTSend l) := by
 intro r hr j c hj hc
 obtain ⟨x,_,rfl⟩ := List.mem_map.1 hr
 rcases j with _ | _ | j <;> first | (simp [eTSend] at hj; subst hj; rfl) | (simp [eTSend] at hj; done) | (simp [hc] at hc; done)
def EX0 := PLift.up (ai (ai (ai (ai (ai (ai @EW @EM) (ai @e_min3 (ai @e_max3 @fE_g))) (ai (ai @fE_a (ai @fE_m @fE_f)) (ai @fE_k (ai @List.append_eq.{0} @eI.eq_1)))) (ai (ai (ai @eB.eq_1 @eS.eq_1) (ai @e_u8.eq_1 (ai @eL.eq_1 @eA2I.eq_1))) (ai (ai @eTGraph.eq_1 (ai @eTSend.eq_1 @eTPick.eq_1)) (ai @eTTake.eq_1 (ai @eTState.eq_1 @eTNode.eq_1))))) (ai (ai (ai (ai @eTApp.eq_1 @eTMsg.eq_1) (ai @eTHost.eq_1 (ai @eTPiece.eq_1 @eTFrame.eq_1))) (ai (ai @eTHeard.eq_1 (ai @eTPlace.eq_1 @eTOut.eq_1)) (ai @eTSeat.eq_1 (ai @cA2I.eq_1 @cTGraph.eq_1)))) (ai (ai (ai @cTSend.eq_1 (ai @cTPick.eq_1 @cTTake.eq_1)) (ai @cTState.eq_1 (ai @cTNode.eq_1 @cTApp.eq_1))) (ai (ai @cTMsg.eq_1 (ai @cTHost.eq_1 @cTPiece.eq_1)) (ai @cTFrame.eq_1 (ai @cTHeard.eq_1 @cTPlace.eq_1)))))) (ai (ai (ai (ai (ai @cTOut.eq_1 @cTSeat.eq_1) (ai @e_blt (ai @e_ble @Array.toList_append.{0}))) (ai (ai @e_aBl (ai @e_aBd @e_aBs)) (ai @e_aBy (ai @e_aBi @e_aIl)))) (ai (ai (ai @e_aId @e_aIs) (ai @e_aIy (ai @e_aIi @Nat.mul_one))) (ai (ai @List.toList_toArray.{0} (ai @arun0.eq_1 @arun0.eq_2)) (ai @drun0.eq_1 (ai @drun0.eq_2 @cols_38.eq_1))))) (ai (ai (ai (ai @cols_39.eq_1 @cols_43.eq_1) (ai @cols_46.eq_1 (ai @cols_90.eq_1 @cols_93.eq_1))) (ai (ai @cols_132.eq_1 (ai @cols_148.eq_1 @cols_152.eq_1)) (ai @cols_161.eq_1 (ai @cols_170.eq_1 @cols_189.eq_1)))) (ai (ai (ai @oset_38 (ai @oset_39 @oset_43)) (ai @oset_46 (ai @oset_90 @oset_93))) (ai (ai @oset_132 (ai @oset_148 @oset_152)) (ai @oset_161 (ai @oset_170 @oset_189)))))))
theorem EX : type_of% EX0.down := EX0.down
def TZ0 := PLift.up (ai (ai (ai (ai (ai (ai (ai (ai (ai ty_tShape_1 ty_tZero_1) (ai ty_nCells_1 (ai ty_tFlat_1 ty_isBoolT_1))) (ai (ai ty_tShape_2 ty_tZero_2) (ai ty_tInt_2 (ai ty_nCells_2 ty_tFlat_2)))) (ai (ai (ai ty_isBoolT_2 ty_tShape_3) (ai ty_tZero_3 (ai ty_tInt_3 ty_nCells_3))) (ai (ai ty_tFlat_3 ty_tZ1_3) (ai ty_isBoolT_3 (ai ty_tShape_4 ty_tZero_4))))) (ai (ai (ai (ai ty_nCells_4 ty_tFlat_4) (ai ty_isBoolT_4 (ai ty_tShape_5 ty_tZero_5))) (ai (ai ty_tInt_5 ty_nCells_5) (ai ty_tFlat_5 (ai ty_isBoolT_5 ty_tShape_6)))) (ai (ai (ai ty_tZero_6 ty_tInt_6) (ai ty_nCells_6 (ai ty_tFlat_6 ty_isBoolT_6))) (ai (ai ty_tShape_7 ty_tZero_7) (ai ty_nCells_7 (ai ty_tFlat_7 ty_isBoolT_7)))))) (ai (ai (ai (ai (ai ty_tBuilt_7 ty_tFld_7_0) (ai ty_tFldV_7_0 (ai ty_tFld_7_1 ty_tFldV_7_1))) (ai (ai ty_tFld_7_2 ty_tFldV_7_2) (ai ty_tFld_7_3 (ai ty_tFldV_7_3 ty_tShape_22)))) (ai (ai (ai ty_tZero_22 ty_tElt_22) (ai ty_nCells_22 (ai ty_tFlat_22 ty_isBoolT_22))) (ai (ai ty_tShape_23 ty_tZero_23) (ai ty_tElt_23 (ai ty_nCells_23 ty_tFlat_23))))) (ai (ai (ai (ai ty_isBoolT_23 ty_tShape_25) (ai ty_tZero_25 (ai ty_nCells_25 ty_tFlat_25))) (ai (ai ty_isBoolT_25 ty_tBuilt_25) (ai ty_tFld_25_0 (ai ty_tFldV_25_0 ty_tFld_25_1)))) (ai (ai (ai ty_tFldV_25_1 ty_tShape_30) (ai ty_tZero_30 (ai ty_tElt_30 ty_nCells_30))) (ai (ai ty_tFlat_30 (ai ty_isBoolT_30 ty_tShape_32)) (ai ty_tZero_32 (ai ty_nCells_32 ty_tFlat_32))))))) (ai (ai (ai (ai (ai (ai ty_isBoolT_32 ty_tBuilt_32) (ai ty_tFld_32_0 (ai ty_tFldV_32_0 ty_tFld_32_1))) (ai (ai ty_tFldV_32_1 ty_tShape_35) (ai ty_tZero_35 (ai ty_nCells_35 ty_tFlat_35)))) (ai (ai (ai ty_isBoolT_35 ty_tShape_36) (ai ty_tZero_36 (ai ty_tElt_36 ty_nCells_36))) (ai (ai ty_tFlat_36 ty_isBoolT_36) (ai ty_tShape_38 (ai ty_tZero_38 ty_nCells_38))))) (ai (ai (ai (ai ty_tFlat_38 ty_isBoolT_38) (ai ty_tBuilt_38 (ai ty_tFld_38_0 ty_tFldV_38_0))) (ai (ai ty_tFld_38_1 ty_tFldV_38_1) (ai ty_tShape_39 (ai ty_tZero_39 ty_tElt_39)))) (ai (ai (ai ty_nCells_39 ty_tFlat_39) (ai ty_isBoolT_39 (ai ty_tShape_40 ty_tZero_40))) (ai (ai ty_tElt_40 (ai ty_nCells_40 ty_tFlat_40)) (ai ty_isBoolT_40 (ai ty_tShape_41 ty_tZero_41)))))) (ai (ai (ai (ai (ai ty_tElt_41 ty_nCells_41) (ai ty_tFlat_41 (ai ty_isBoolT_41 ty_tShape_43))) (ai (ai ty_tZero_43 ty_nCells_43) (ai ty_tFlat_43 (ai ty_isBoolT_43 ty_tBuilt_43)))) (ai (ai (ai ty_tFld_43_0 ty_tFldV_43_0) (ai ty_tFld_43_1 (ai ty_tFldV_43_1 ty_tFld_43_2))) (ai (ai ty_tFldV_43_2 ty_tFld_43_3) (ai ty_tFldV_43_3 (ai ty_tShape_44 ty_tZero_44))))) (ai (ai (ai (ai ty_tElt_44 ty_nCells_44) (ai ty_tFlat_44 (ai ty_isBoolT_44 ty_tShape_46))) (ai (ai ty_tZero_46 ty_nCells_46) (ai ty_tFlat_46 (ai ty_isBoolT_46 ty_tBuilt_46)))) (ai (ai (ai ty_tFld_46_0 ty_tFldV_46_0) (ai ty_tFld_46_1 (ai ty_tFldV_46_1 ty_tShape_48))) (ai (ai ty_tZero_48 (ai ty_nCells_48 ty_tFlat_48)) (ai ty_isBoolT_48 (ai ty_tBuilt_48 ty_tFld_48_0)))))))) (ai (ai (ai (ai (ai (ai (ai ty_tFldV_48_0 ty_tFld_48_1) (ai ty_tFldV_48_1 (ai ty_tFld_48_2 ty_tFldV_48_2))) (ai (ai ty_tShape_50 ty_tZero_50) (ai ty_nCells_50 (ai ty_tFlat_50 ty_isBoolT_50)))) (ai (ai (ai ty_tBuilt_50 ty_tFld_50_0) (ai ty_tFldV_50_0 (ai ty_tFld_50_1 ty_tFldV_50_1))) (ai (ai ty_tShape_53 ty_tZero_53) (ai ty_nCells_53 (ai ty_tFlat_53 ty_isBoolT_53))))) (ai (ai (ai (ai ty_tBuilt_53 ty_tFld_53_0) (ai ty_tFldV_53_0 (ai ty_tFld_53_1 ty_tFldV_53_1))) (ai (ai ty_tFld_53_2 ty_tFldV_53_2) (ai ty_tShape_54 (ai ty_tZero_54 ty_tElt_54)))) (ai (ai (ai ty_nCells_54 ty_tFlat_54) (ai ty_isBoolT_54 (ai ty_tShape_55 ty_tZero_55))) (ai (ai ty_tElt_55 (ai ty_nCells_55 ty_tFlat_55)) (ai ty_isBoolT_55 (ai ty_tShape_57 ty_tZero_57)))))) (ai (ai (ai (ai (ai ty_nCells_57 ty_tFlat_57) (ai ty_isBoolT_57 (ai ty_tBuilt_57 ty_tFld_57_0))) (ai (ai ty_tFldV_57_0 ty_tFld_57_1) (ai ty_tFldV_57_1 (ai ty_tFld_57_2 ty_tFldV_57_2)))) (ai (ai (ai ty_tFld_57_3 ty_tFldV_57_3) (ai ty_tFld_57_4 (ai ty_tFldV_57_4 ty_tShape_59))) (ai (ai ty_tZero_59 ty_nCells_59) (ai ty_tFlat_59 (ai ty_isBoolT_59 ty_tBuilt_59))))) (ai (ai (ai (ai ty_tFld_59_0 ty_tFldV_59_0) (ai ty_tFld_59_1 (ai ty_tFldV_59_1 ty_tShape_60))) (ai (ai ty_tZero_60 ty_tElt_60) (ai ty_nCells_60 (ai ty_tFlat_60 ty_isBoolT_60)))) (ai (ai (ai ty_tShape_62 ty_tZero_62) (ai ty_nCells_62 (ai ty_tFlat_62 ty_isBoolT_62))) (ai (ai ty_tBuilt_62 (ai ty_tFld_62_0 ty_tFldV_62_0)) (ai ty_tFld_62_1 (ai ty_tFldV_62_1 ty_tFld_62_2))))))) (ai (ai (ai (ai (ai (ai ty_tFldV_62_2 ty_tFld_62_3) (ai ty_tFldV_62_3 (ai ty_tFld_62_4 ty_tFldV_62_4))) (ai (ai ty_tFld_62_5 ty_tFldV_62_5) (ai ty_tFld_62_6 (ai ty_tFldV_62_6 ty_tFld_62_7)))) (ai (ai (ai ty_tFldV_62_7 ty_tShape_64) (ai ty_tZero_64 (ai ty_nCells_64 ty_tFlat_64))) (ai (ai ty_isBoolT_64 ty_tBuilt_64) (ai ty_tFld_64_0 (ai ty_tFldV_64_0 ty_tFld_64_1))))) (ai (ai (ai (ai ty_tFldV_64_1 ty_tFld_64_2) (ai ty_tFldV_64_2 (ai ty_tFld_64_3 ty_tFldV_64_3))) (ai (ai ty_tShape_69 ty_tZero_69) (ai ty_nCells_69 (ai ty_tFlat_69 ty_isBoolT_69)))) (ai (ai (ai ty_tBuilt_69 ty_tFld_69_0) (ai ty_tFldV_69_0 (ai ty_tFld_69_1 ty_tFldV_69_1))) (ai (ai ty_tFld_69_2 (ai ty_tFldV_69_2 ty_tShape_71)) (ai ty_tZero_71 (ai ty_nCells_71 ty_tFlat_71)))))) (ai (ai (ai (ai (ai ty_isBoolT_71 ty_tBuilt_71) (ai ty_tFld_71_0 (ai ty_tFldV_71_0 ty_tFld_71_1))) (ai (ai ty_tFldV_71_1 ty_tFld_71_2) (ai ty_tFldV_71_2 (ai ty_tFld_71_3 ty_tFldV_71_3)))) (ai (ai (ai ty_tFld_71_4 ty_tFldV_71_4) (ai ty_tShape_74 (ai ty_tZero_74 ty_tElt_74))) (ai (ai ty_nCells_74 ty_tFlat_74) (ai ty_isBoolT_74 (ai ty_tShape_75 ty_tZero_75))))) (ai (ai (ai (ai ty_nCells_75 ty_tFlat_75) (ai ty_isBoolT_75 (ai ty_tBuilt_75 ty_tFld_75_0))) (ai (ai ty_tFldV_75_0 ty_tFld_75_1) (ai ty_tFldV_75_1 (ai ty_tFld_75_2 ty_tFldV_75_2)))) (ai (ai (ai ty_tFld_75_3 ty_tFldV_75_3) (ai ty_tFld_75_4 (ai ty_tFldV_75_4 ty_tFld_75_5))) (ai (ai ty_tFldV_75_5 (ai ty_tFld_75_6 ty_tFldV_75_6)) (ai ty_tFld_75_7 (ai ty_tFldV_75_7 ty_tShape_76))))))))) (ai (ai (ai (ai (ai (ai (ai (ai ty_tZero_76 ty_nCells_76) (ai ty_tFlat_76 (ai ty_isBoolT_76 ty_tBuilt_76))) (ai (ai ty_tFld_76_0 ty_tFldV_76_0) (ai ty_tFld_76_1 (ai ty_tFldV_76_1 ty_tFld_76_2)))) (ai (ai (ai ty_tFldV_76_2 ty_tFld_76_3) (ai ty_tFldV_76_3 (ai ty_tFld_76_4 ty_tFldV_76_4))) (ai (ai ty_tFld_76_5 ty_tFldV_76_5) (ai ty_tFld_76_6 (ai ty_tFldV_76_6 ty_tFld_76_7))))) (ai (ai (ai (ai ty_tFldV_76_7 ty_tShape_78) (ai ty_tZero_78 (ai ty_tElt_78 ty_nCells_78))) (ai (ai ty_tFlat_78 ty_isBoolT_78) (ai ty_tShape_84 (ai ty_tZero_84 ty_tInt_84)))) (ai (ai (ai ty_nCells_84 ty_tFlat_84) (ai ty_isBoolT_84 (ai ty_tShape_87 ty_tZero_87))) (ai (ai ty_tElt_87 ty_nCells_87) (ai ty_tFlat_87 (ai ty_isBoolT_87 ty_tShape_88)))))) (ai (ai (ai (ai (ai ty_tZero_88 ty_tElt_88) (ai ty_nCells_88 (ai ty_tFlat_88 ty_isBoolT_88))) (ai (ai ty_tShape_90 ty_tZero_90) (ai ty_nCells_90 (ai ty_tFlat_90 ty_isBoolT_90)))) (ai (ai (ai ty_tBuilt_90 ty_tFld_90_0) (ai ty_tFldV_90_0 (ai ty_tFld_90_1 ty_tFldV_90_1))) (ai (ai ty_tFld_90_2 ty_tFldV_90_2) (ai ty_tFld_90_3 (ai ty_tFldV_90_3 ty_tShape_93))))) (ai (ai (ai (ai ty_tZero_93 ty_nCells_93) (ai ty_tFlat_93 (ai ty_isBoolT_93 ty_tBuilt_93))) (ai (ai ty_tFld_93_0 ty_tFldV_93_0) (ai ty_tFld_93_1 (ai ty_tFldV_93_1 ty_tShape_100)))) (ai (ai (ai ty_tZero_100 ty_nCells_100) (ai ty_tFlat_100 (ai ty_isBoolT_100 ty_tBuilt_100))) (ai (ai ty_tFld_100_0 (ai ty_tFldV_100_0 ty_tFld_100_1)) (ai ty_tFldV_100_1 (ai ty_tFld_100_2 ty_tFldV_100_2))))))) (ai (ai (ai (ai (ai (ai ty_tShape_101 ty_tZero_101) (ai ty_nCells_101 (ai ty_tFlat_101 ty_isBoolT_101))) (ai (ai ty_tBuilt_101 ty_tFld_101_0) (ai ty_tFldV_101_0 (ai ty_tFld_101_1 ty_tFldV_101_1)))) (ai (ai (ai ty_tFld_101_2 ty_tFldV_101_2) (ai ty_tShape_102 (ai ty_tZero_102 ty_nCells_102))) (ai (ai ty_tFlat_102 ty_isBoolT_102) (ai ty_tShape_103 (ai ty_tZero_103 ty_nCells_103))))) (ai (ai (ai (ai ty_tFlat_103 ty_isBoolT_103) (ai ty_tShape_104 (ai ty_tZero_104 ty_nCells_104))) (ai (ai ty_tFlat_104 ty_isBoolT_104) (ai ty_tBuilt_104 (ai ty_tFld_104_0 ty_tFldV_104_0)))) (ai (ai (ai ty_tFld_104_1 ty_tFldV_104_1) (ai ty_tFld_104_2 (ai ty_tFldV_104_2 ty_tShape_125))) (ai (ai ty_tZero_125 (ai ty_nCells_125 ty_tFlat_125)) (ai ty_isBoolT_125 (ai ty_tBuilt_125 ty_tFld_125_0)))))) (ai (ai (ai (ai (ai ty_tFldV_125_0 ty_tFld_125_1) (ai ty_tFldV_125_1 (ai ty_tFld_125_2 ty_tFldV_125_2))) (ai (ai ty_tFld_125_3 ty_tFldV_125_3) (ai ty_tFld_125_4 (ai ty_tFldV_125_4 ty_tShape_126)))) (ai (ai (ai ty_tZero_126 ty_tElt_126) (ai ty_tArr_126 (ai ty_nCells_126 ty_tFlat_126))) (ai (ai ty_isBoolT_126 ty_tBuilt_126) (ai ty_tShape_129 (ai ty_tZero_129 ty_nCells_129))))) (ai (ai (ai (ai ty_tFlat_129 ty_isBoolT_129) (ai ty_tShape_130 (ai ty_tZero_130 ty_tElt_130))) (ai (ai ty_nCells_130 ty_tFlat_130) (ai ty_isBoolT_130 (ai ty_tShape_132 ty_tZero_132)))) (ai (ai (ai ty_nCells_132 ty_tFlat_132) (ai ty_isBoolT_132 (ai ty_tBuilt_132 ty_tFld_132_0))) (ai (ai ty_tFldV_132_0 (ai ty_tFld_132_1 ty_tFldV_132_1)) (ai ty_tShape_139 (ai ty_tZero_139 ty_nCells_139)))))))) (ai (ai (ai (ai (ai (ai (ai ty_tFlat_139 ty_isBoolT_139) (ai ty_tBuilt_139 (ai ty_tFld_139_0 ty_tFldV_139_0))) (ai (ai ty_tFld_139_1 ty_tFldV_139_1) (ai ty_tFld_139_2 (ai ty_tFldV_139_2 ty_tFld_139_3)))) (ai (ai (ai ty_tFldV_139_3 ty_tShape_148) (ai ty_tZero_148 (ai ty_nCells_148 ty_tFlat_148))) (ai (ai ty_isBoolT_148 ty_tBuilt_148) (ai ty_tFld_148_0 (ai ty_tFldV_148_0 ty_tFld_148_1))))) (ai (ai (ai (ai ty_tFldV_148_1 ty_tFld_148_2) (ai ty_tFldV_148_2 (ai ty_tFld_148_3 ty_tFldV_148_3))) (ai (ai ty_tFld_148_4 ty_tFldV_148_4) (ai ty_tFld_148_5 (ai ty_tFldV_148_5 ty_tShape_152)))) (ai (ai (ai ty_tZero_152 ty_nCells_152) (ai ty_tFlat_152 (ai ty_isBoolT_152 ty_tBuilt_152))) (ai (ai ty_tFld_152_0 (ai ty_tFldV_152_0 ty_tFld_152_1)) (ai ty_tFldV_152_1 (ai ty_tFld_152_2 ty_tFldV_152_2)))))) (ai (ai (ai (ai (ai ty_tFld_152_3 ty_tFldV_152_3) (ai ty_tFld_152_4 (ai ty_tFldV_152_4 ty_tFld_152_5))) (ai (ai ty_tFldV_152_5 ty_tShape_158) (ai ty_tZero_158 (ai ty_tElt_158 ty_nCells_158)))) (ai (ai (ai ty_tFlat_158 ty_isBoolT_158) (ai ty_tShape_161 (ai ty_tZero_161 ty_nCells_161))) (ai (ai ty_tFlat_161 ty_isBoolT_161) (ai ty_tBuilt_161 (ai ty_tFld_161_0 ty_tFldV_161_0))))) (ai (ai (ai (ai ty_tFld_161_1 ty_tFldV_161_1) (ai ty_tShape_163 (ai ty_tZero_163 ty_nCells_163))) (ai (ai ty_tFlat_163 ty_isBoolT_163) (ai ty_tBuilt_163 (ai ty_tFld_163_0 ty_tFldV_163_0)))) (ai (ai (ai ty_tFld_163_1 ty_tFldV_163_1) (ai ty_tShape_170 (ai ty_tZero_170 ty_tElt_170))) (ai (ai ty_nCells_170 (ai ty_tFlat_170 ty_isBoolT_170)) (ai ty_tShape_187 (ai ty_tZero_187 ty_tElt_187))))))) (ai (ai (ai (ai (ai (ai ty_nCells_187 ty_tFlat_187) (ai ty_isBoolT_187 (ai ty_tShape_189 ty_tZero_189))) (ai (ai ty_nCells_189 ty_tFlat_189) (ai ty_isBoolT_189 (ai ty_tBuilt_189 ty_tFld_189_0)))) (ai (ai (ai ty_tFldV_189_0 ty_tFld_189_1) (ai ty_tFldV_189_1 (ai ty_tShape_190 ty_tZero_190))) (ai (ai ty_nCells_190 ty_tFlat_190) (ai ty_isBoolT_190 (ai ty_tBuilt_190 ty_tFld_190_0))))) (ai (ai (ai (ai ty_tFldV_190_0 ty_tFld_190_1) (ai ty_tFldV_190_1 (ai ty_tShape_191 ty_tZero_191))) (ai (ai ty_nCells_191 ty_tFlat_191) (ai ty_isBoolT_191 (ai ty_tBuilt_191 ty_tFld_191_0)))) (ai (ai (ai ty_tFldV_191_0 ty_tFld_191_1) (ai ty_tFldV_191_1 (ai ty_tFld_191_2 ty_tFldV_191_2))) (ai (ai ty_tShape_193 (ai ty_tZero_193 ty_nCells_193)) (ai ty_tFlat_193 (ai ty_tMap_193 ty_isBoolT_193)))))) (ai (ai (ai (ai (ai ty_tShape_194 ty_tZero_194) (ai ty_nCells_194 (ai ty_tFlat_194 ty_isBoolT_194))) (ai (ai ty_tShape_197 ty_tZero_197) (ai ty_nCells_197 (ai ty_tFlat_197 ty_isBoolT_197)))) (ai (ai (ai ty_tBuilt_197 ty_tFld_197_0) (ai ty_tFldV_197_0 (ai ty_tShape_198 ty_tZero_198))) (ai (ai ty_tElt_198 ty_nCells_198) (ai ty_tFlat_198 (ai ty_isBoolT_198 ty_tShape_215))))) (ai (ai (ai (ai ty_tZero_215 ty_nCells_215) (ai ty_tFlat_215 (ai ty_isBoolT_215 ty_tShape_217))) (ai (ai ty_tZero_217 ty_nCells_217) (ai ty_tFlat_217 (ai ty_isBoolT_217 ty_tShape_231)))) (ai (ai (ai ty_tZero_231 ty_tInt_231) (ai ty_nCells_231 (ai ty_tFlat_231 ty_isBoolT_231))) (ai (ai ty_tShape_241 (ai ty_tZero_241 ty_tInt_241)) (ai ty_nCells_241 (ai ty_tFlat_241 ty_isBoolT_241))))))))))
theorem TZ : type_of% TZ0.down := TZ0.down
theorem EZ : type_of% (And.intro @EX @TZ) := And.intro @EX @TZ
section
variable {w0 : Bas} {N nx nx' : Nat} {F F' : LF} {M M' : LM} {a : Act} {w : World} {l : List Oper} {Q : Exit → Act → World → Prop} {id : Nat} {x y : Code} {T : List T3}
theorem qs (nx' : Nat) (Z : List (Fact Try.prog)) (ks : List Nat) (ms : List Nm) (h : SL w0 N nx F M a w) (hQ : ∀ a w,SL w0 N nx' F' M' a w → y.wp Try.prog Q a w) (hg : l.map (gof l) = l.map fun _ => none := by rfl) (hx : nx + l.length = nx' := by rfl) (e : okeep ks ms (arun0 Try.prog Z N l nx F M) = some (F',M') := by simp (maxSteps := 10000000) only [EZ,simprocAttr, *] <;> rfl) : (Code.seq (.region id l.toArray false) y).wp Try.prog Q a w := ns_plain nx' Z ks ms h hg hx e hQ
theorem qsg (nx' : Nat) (Z : List (Fact Try.prog)) (gs : List Gd) (ks : List Nat) (ms : List Nm) (h : SL w0 N nx F M a w) (hQ : ∀ a w,SL w0 N nx' F' M' a w → y.wp Try.prog Q a w) (hg : l.map (gof l) = gs := by rfl) (hx : nx + l.length = nx' := by rfl) (e : okeep ks ms (arun Try.prog Z N gs l nx F M) = some (F',M') := by simp (maxSteps := 10000000) only [EZ,simprocAttr, *] <;> rfl) : (Code.seq (.region id l.toArray false) y).wp Try.prog Q a w := rs_plain nx' Z gs ks ms h hg hx e hQ
theorem qe (Z : List (Fact Try.prog)) (ks : List Nat) (ms : List Nm) (h : SL w0 N nx F M a w) (hQ : ∀ a w,SL w0 N (nx + l.length) F' M' a w → Q .normal a w) (hg : l.map (gof l) = l.map fun _ => none := by rfl) (e : okeep ks ms (arun0 Try.prog Z N l nx F M) = some (F',M') := by simp (maxSteps := 10000000) only [EZ,simprocAttr, *] <;> rfl) : (Code.region id l.toArray false).wp Try.prog Q a w := n_plain Z ks ms h hg e hQ
theorem qeg (Z : List (Fact Try.prog)) (gs : List Gd) (ks : List Nat) (ms : List Nm) (h : SL w0 N nx F M a w) (hQ : ∀ a w,SL w0 N (nx + l.length) F' M' a w → Q .normal a w) (hg : l.map (gof l) = gs := by rfl) (e : okeep ks ms (arun Try.prog Z N gs l nx F M) = some (F',M') := by simp (maxSteps := 10000000) only [EZ,simprocAttr, *] <;> rfl) : (Code.region id l.toArray false).wp Try.prog Q a w := r_plain Z gs ks ms h hg e hQ
theorem ds (nx' : Nat) (Z : List (Fact Try.prog)) (ks : List Nat) (ms : List Nm) (h : SL w0 N nx F M a w) (hQ : ∀ a w,SL w0 N nx' F' M' a w → y.wp Try.prog Q a w) (hg : l.map (gof l) = l.map fun _ => none := by rfl) (hx : nx + l.length = nx' := by rfl) (e : dkeep ks ms (drun0 Try.prog Z N l nx F M []) = some (F',M',T) := by simp (maxSteps := 10000000) only [EZ,simprocAttr, *] <;> rfl) (hc : chk l nx T.reverse = true := by kernel_rfl) : (Code.seq (.region id l.toArray true) y).wp Try.prog Q a w := ns_drawn nx' ty_hm Z ks ms h hg hx e hc hQ
theorem dsg (nx' : Nat) (Z : List (Fact Try.prog)) (gs : List Gd) (ks : List Nat) (ms : List Nm) (h : SL w0 N nx F M a w) (hQ : ∀ a w,SL w0 N nx' F' M' a w → y.wp Try.prog Q a w) (hg : l.map (gof l) = gs := by rfl) (hx : nx + l.length = nx' := by rfl) (e : dkeep ks ms (drun Try.prog Z N gs l nx F M []) = some (F',M',T) := by simp (maxSteps := 10000000) only [EZ,simprocAttr, *] <;> rfl) (hc : chk l nx T.reverse = true := by kernel_rfl) : (Code.seq (.region id l.toArray true) y).wp Try.prog Q a w := rs_drawn nx' ty_hm Z gs ks ms h hg hx e hc hQ
theorem de (Z : List (Fact Try.prog)) (ks : List Nat) (ms : List Nm) (h : SL w0 N nx F M a w) (hQ : ∀ a w,SL w0 N (nx + l.length) F' M' a w → Q .normal a w) (hg : l.map (gof l) = l.map fun _ => none := by rfl) (e : dkeep ks ms (drun0 Try.prog Z N l nx F M []) = some (F',M',T) := by simp (maxSteps := 10000000) only [EZ,simprocAttr, *] <;> rfl) (hc : chk l nx T.reverse = true := by kernel_rfl) : (Code.region id l.toArray true).wp Try.prog Q a w := n_drawn ty_hm Z ks ms h hg e hc hQ
theorem deg (Z : List (Fact Try.prog)) (gs : List Gd) (ks : List Nat) (ms : List Nm) (h : SL w0 N nx F M a w) (hQ : ∀ a w,SL w0 N (nx + l.length) F' M' a w → Q .normal a w) (hg : l.map (gof l) = gs := by rfl) (e : dkeep ks ms (drun Try.prog Z N gs l nx F M []) = some (F',M',T) := by simp (maxSteps := 10000000) only [EZ,simprocAttr, *] <;> rfl) (hc : chk l nx T.reverse = true := by kernel_rfl) : (Code.region id l.toArray true).wp Try.prog Q a w := r_drawn ty_hm Z gs ks ms h hg e hc hQ
theorem kT {c : Operand} (h : SL w0 N nx F M a w) (ht : x.wp Try.prog Q a w) (e : aeval N (fget F) c = .one (.d (.bool true)) := by first | rfl | (simp (maxSteps := 10000000) only [EZ,simprocAttr, *] <;> rfl)) : (Code.cond c x y).wp Try.prog Q a w := n_condT h e ht
theorem kF {c : Operand} (h : SL w0 N nx F M a w) (hf : y.wp Try.prog Q a w) (e : aeval N (fget F) c = .one (.d (.bool false)) := by first | rfl | (simp (maxSteps := 10000000) only [EZ,simprocAttr, *] <;> rfl)) : (Code.cond c x y).wp Try.prog Q a w := n_condF h e hf
theorem SL.sm (h : SL w0 N nx F M a w) (nx' : Nat) (F' : LF) (M' : LM) (e : fkeep F (F'.map (·.1)) = F' ∧ mkeep M (M'.map (·.1)) = M' ∧ okN nx' F' M' = true := by simp only [EZ,simprocAttr,dat_open, *] <;> rfl) : SL w0 N nx' F' M' a w := h.toS e
theorem SL.z (h : SL w0 N nx F M a w) (e : fkeep F (F'.map (·.1)) = F' ∧ mkeep M (M'.map (·.1)) = M' ∧ okN nx' F' M' = true := by simp (maxSteps := 10000000) only [EZ,simprocAttr, *] <;> rfl) : SL w0 N nx' F' M' a w := h.toS e
theorem SL.sw (h : SL w0 N nx F M a w) (x y : Nm) (nx' : Nat) (hx : x.1 ≠ 0 := by decide) (hy : y.1 ≠ 0 := by decide) (eF : fren (swp x y) F = F' := by simp only [EZ,simprocAttr,e_ren3,fren,mren,AV.ren,AObj.ren,Cell.ren,sumRen,Upd.ren,swp,csw,dat_ren,opn_ren, *] <;> rfl) (eM : mren (swp x y) M = M' := by simp only [EZ,simprocAttr,e_ren3,fren,mren,AV.ren,AObj.ren,Cell.ren,sumRen,Upd.ren,swp,csw,dat_ren,opn_ren, *] <;> rfl) (e : okN nx' F' M' = true := by simp (maxSteps := 10000000) only [EZ,simprocAttr, *] <;> rfl) : SL w0 N nx' F' M' a w := SL.swap h x y nx' hx hy eF eM e
theorem SL.fz (h : SL w0 N nx F M a w) (ks : List Nm) (eF : ffrz ks (mget M) F = F' := by simp only [EZ,simprocAttr,ffrz,mfrz,gcell,AV.mapC,boxMap,sumMap,List.any_cons,List.any_nil,Bool.or_false,Bool.or_true,Bool.true_or,Bool.false_or, *] <;> rfl) (eM : mfrz ks (mget M) M = M' := by simp only [EZ,simprocAttr,ffrz,mfrz,gcell,AV.mapC,boxMap,sumMap,List.any_cons,List.any_nil,Bool.or_false,Bool.or_true,Bool.true_or,Bool.false_or, *] <;> rfl) (e : okN nx F' M' = true := by simp only [EZ,simprocAttr,ffrz,mfrz,gcell,AV.mapC,boxMap,sumMap,List.any_cons,List.any_nil,Bool.or_false,Bool.or_true,Bool.true_or,Bool.false_or, *] <;> rfl) : SL w0 N nx F' M' a w := SL.freeze h ks eF eM e
theorem SL.op {e sz e' sz' : Nat} {cols : Nat → TD} {l : List (List Cell)} {r : List Cell} {L : List (List C)} (h : SL w0 N nx F M a w) (id : Nm) (i j : Nat) (hm : mget M id = some (.row e sz l) := by simp (maxSteps := 10000000) only [EZ,simprocAttr, *] <;> rfl) (hi : l[i]? = some r := by simp (maxSteps := 10000000) only [EZ,simprocAttr, *] <;> rfl) (hj : r[j]? = some (.tr (.sl e' sz' cols) (.sl L)) := by simp (maxSteps := 10000000) only [EZ,simprocAttr, *] <;> rfl) : SL w0 N (nx + 1) F (((nx,0),some (.row e' sz' (openRows cols L))) :: (id,some (.row e sz (l.set i (r.set j (.own (nx,0) L.length))))) :: M) a w := h.open_ id i j hm hi hj
theorem SL.f0 {e sz e' sz' n : Nat} {cols : Nat → TD} {l l' : List (List Cell)} {r : List Cell} {L : List (List C)} (h : SL w0 N nx F M a w) (id ch : Nm) (i j : Nat) (hsc : scRows cols L) (hm : mget M id = some (.row e sz l) := by simp (maxSteps := 10000000) only [EZ,simprocAttr, *] <;> rfl) (hi : l[i]? = some r := by rfl) (hj : r[j]? = some (.own ch n) := by rfl) (hc : mget M ch = some (.row e' sz' l') := by simp (maxSteps := 10000000) only [EZ,simprocAttr, *] <;> rfl) (hl : l' = openRows cols L := by simp only [EZ,simprocAttr,dat_open, *] <;> rfl) (hn : L.length = n := by simp (maxSteps := 10000000) only [EZ,simprocAttr, *] <;> rfl) (hne : ch ≠ id := by decide) : SL w0 N nx F ((id,some (.row e sz (l.set i (r.set j (.tr (.sl e' sz' cols) (.sl L)))))) :: (ch,none) :: M) a w := h.fold_ id ch i j hm hi hj hc hl hn hne hsc
theorem SL.fL {e sz e' sz' n : Nat} {cols : Nat → TD} {l' : List (List Cell)} (h : SL w0 N nx F M a w) (id ch : Nm) (l : List (List Cell)) (r : List Cell) (j : Nat) (L : List (List C)) (hsc : scRows cols L) (hm : mget M id = some (.row e sz (l ++ [r])) := by simp (maxSteps := 10000000) only [EZ,simprocAttr, *] <;> rfl) (hj : r[j]? = some (.own ch n) := by rfl) (hc : mget M ch = some (.row e' sz' l') := by simp (maxSteps := 10000000) only [EZ,simprocAttr, *] <;> rfl) (hl : l' = openRows cols L := by simp only [EZ,simprocAttr,dat_open, *] <;> rfl) (hn : L.length = n := by simp (maxSteps := 10000000) only [EZ,simprocAttr, *] <;> rfl) (hne : ch ≠ id := by decide) : SL w0 N nx F ((id,some (.row e sz (l ++ [r.set j (.tr (.sl e' sz' cols) (.sl L))]))) :: (ch,none) :: M) a w := h.foldL id ch l r j L hm hj hc hl hn hne hsc
theorem SL.fS {e sz e' sz' n : Nat} {cols : Nat → TD} {l' : List (List Cell)} (h : SL w0 N nx F M a w) (id ch : Nm) (l : List (List Cell)) (i : Nat) (r : List Cell) (j : Nat) (L : List (List C)) (hsc : scRows cols L) (hm : mget M id = some (.row e sz (l.set i r)) := by simp (maxSteps := 10000000) only [EZ,simprocAttr, *] <;> rfl) (hi : i < l.length := by simp only [EZ,simprocAttr, *]) (hj : r[j]? = some (.own ch n) := by rfl) (hc : mget M ch = some (.row e' sz' l') := by simp (maxSteps := 10000000) only [EZ,simprocAttr, *] <;> rfl) (hl : l' = openRows cols L := by simp only [EZ,simprocAttr,dat_open, *] <;> rfl) (hn : L.length = n := by simp (maxSteps := 10000000) only [EZ,simprocAttr, *] <;> rfl) (hne : ch ≠ id := by decide) : SL w0 N nx F ((id,some (.row e sz (l.set i (r.set j (.tr (.sl e' sz' cols) (.sl L)))))) :: (ch,none) :: M) a w := h.foldS id ch l i r j L hm hi hj hc hl hn hne hsc
theorem CallH.z {g : FuncId} {args args' : List AV} {ans ans' : AV} {M0 M0' M1 M1' : LM} (h : CallH Try.prog g args M0 ans M1) (e1 : args = args' := by (try simp only [EZ,simprocAttr,e_ren3,fren,mren,AV.ren,AObj.ren,Cell.ren,sumRen,Upd.ren,swp,csw,dat_ren,opn_ren]) <;> rfl) (e2 : M0 = M0' := by (try simp only [EZ,simprocAttr,e_ren3,fren,mren,AV.ren,AObj.ren,Cell.ren,sumRen,Upd.ren,swp,csw,dat_ren,opn_ren]) <;> rfl) (e3 : ans = ans' := by (try simp only [EZ,simprocAttr,e_ren3,fren,mren,AV.ren,AObj.ren,Cell.ren,sumRen,Upd.ren,swp,csw,dat_ren,opn_ren]) <;> rfl) (e4 : M1 = M1' := by (try simp only [EZ,simprocAttr,e_ren3,fren,mren,AV.ren,AObj.ren,Cell.ren,sumRen,Upd.ren,swp,csw,dat_ren,opn_ren]) <;> rfl) : CallH Try.prog g args' M0' ans' M1' := h.as ⟨e1,e2,e3,e4⟩
theorem CallH.fr {g : FuncId} {args : List AV} {ans ans' : AV} {M1 : LM} (h : CallH Try.prog g args [] ans M1) (h0 : (M1.all fun p => Nat.blt 0 p.1.1) = true := by simp only [EZ,simprocAttr] <;> rfl) (hf : frzA (mget M1) ans = some ans' := by simp only [frzA,frzSum,EZ,simprocAttr] <;> rfl) (hs : ans'.ids = [] := by rfl) : CallH Try.prog g args [] ans' [] := h.frz h0 hf hs
theorem rc {g : FuncId} {fn : Func} {c : Code} {args : List AV} {ans : AV} {M0 M1 : LM} {N : Nat} (hf : Try.prog.funcs[g]? = some fn) (hb : fn.body = some c) (hn : fn.ntmps = N) (h : ∀ (S Φ : Nat → Prop) (P0 : Place) (w : World) (a : Act),SL ⟨w,S,Φ,P0⟩ N 1 (argF 0 args) M0 a w → c.wp Try.prog (bodyPost Try.prog fn (HPost S Φ (fun id => id.1 = 0) P0 w ans (mget M1))) a w) (hB : hasBody Try.prog g = true := by kernel_rfl) (hz : zeroB args M0 = true := by rfl) (hs : shutB ans M1 = true := by first | rfl | (simp only [shutB,EZ,simprocAttr] <;> rfl)) (hN : args.length ≤ N := by simp) : CallH Try.prog g args M0 ans M1 := r_call hf hb hn hB hz hs hN h
theorem rE {fn : Func} {S Φ : Nat → Prop} {P0 : Place} {wb : World} {ans : AV} (h : SL ⟨wb,S,Φ,P0⟩ N nx F M a w) (rs : List ResultVar) (hr : fn.results.toList = rs := by rfl) (e : retD Try.prog N F M rs = some ans := by simp only [retD,retO,List.mapM_cons,List.mapM_nil,Option.bind_eq_bind,Option.pure_def,EZ,simprocAttr, *] <;> rfl) : bodyPost Try.prog fn (HPost S Φ (fun id => id.1 = 0) P0 wb ans (mget [])) .ret a w := r_retE rfl h rs hr e
theorem rO {fn : Func} {S Φ : Nat → Prop} {P0 : Place} {wb : World} {ans : AV} {M1 : LM} (h : SL ⟨wb,S,Φ,P0⟩ N nx F M a w) (rs : List ResultVar) (ks : List Nm) (hr : fn.results.toList = rs := by rfl) (e : retO Try.prog N F M rs = some ans ∧ mkeep M ks = M1 := by simp only [retD,retO,List.mapM_cons,List.mapM_nil,Option.bind_eq_bind,Option.pure_def,EZ,simprocAttr, *] <;> rfl) : bodyPost Try.prog fn (HPost S Φ (fun id => id.1 = 0) P0 wb ans (mget M1)) .ret a w := r_retO rfl h rs hr ks e
end
end Go.Proofs.Ytabbejabdkkaiaa
