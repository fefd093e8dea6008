/- Functions as typed ones,and that the program's functions answer as these do. No condition. -/
import Derived.Test.YtabbejabdkkaiaaGreatGt
import Derived.Test.YtabbejabdkkaiaaGreatKH
set_option linter.unusedSimpArgs false
set_option linter.unusedVariables false
namespace Go.Proofs.YtabbejabdkkaiaaGreat
open Go.RowKit

def e_u16 (x : Int) : List C := [.int .u16 x]
structure A2I where
 a0 : Int
 a1 : Int
def eA2I (x : A2I) : List C := [.int .i64 x.a0,.int .i64 x.a1]
def cA2I (x : A2I) : List Cell := [.d (.int .i64 x.a0),.d (.int .i64 x.a1)]
instance : DecidableEq A2I := fun x y => decidable_of_iff (x.a0 = y.a0 ∧ x.a1 = y.a1) ⟨fun h => by cases x; cases y; simp_all,fun h => by subst h; simp⟩
theorem eq_A2I_vv (x : A2I) (y : A2I) : (decide (x.a0 = y.a0) && decide (x.a1 = y.a1)) = decide (x = y) := by
 cases x; cases y; rw [Bool.eq_iff_iff]; simp
theorem eq_A2I_vm (x : A2I) (b0 b1 : Int) : (decide (x.a0 = b0) && decide (x.a1 = b1)) = decide (x = A2I.mk b0 b1) := by
 cases x; rw [Bool.eq_iff_iff]; simp
theorem eq_A2I_mv (a0 a1 : Int) (y : A2I) : (decide (a0 = y.a0) && decide (a1 = y.a1)) = decide (A2I.mk a0 a1 = y) := by
 cases y; rw [Bool.eq_iff_iff]; simp
theorem eq_A2I_mm (a0 a1 : Int) (b0 b1 : Int) : (decide (a0 = b0) && decide (a1 = b1)) = decide (A2I.mk a0 a1 = A2I.mk b0 b1) := by
 rw [Bool.eq_iff_iff]; simp
structure TGraph where
 N : Int
 Links : (List A2I)
def eTGraph (x : TGraph) : List C := [.int .i64 x.N,.sl (x.Links.map eA2I)]
def cTGraph (x : TGraph) : List Cell := [.d (.int .i64 x.N),.d (.sl (x.Links.map eA2I))]
structure TSend where
 To : Int
 Letter : Int
def eTSend (x : TSend) : List C := [.int .i64 x.To,.int .i64 x.Letter]
def cTSend (x : TSend) : List Cell := [.d (.int .i64 x.To),.d (.int .i64 x.Letter)]
structure TPick where
 Next : Int
 Sends : (List TSend)
def eTPick (x : TPick) : List C := [.int .i64 x.Next,.sl (x.Sends.map eTSend)]
def cTPick (x : TPick) : List Cell := [.d (.int .i64 x.Next),.d (.sl (x.Sends.map eTSend))]
structure TTake where
 From : Int
 Letter : Int
 Next : Int
def eTTake (x : TTake) : List C := [.int .i64 x.From,.int .i64 x.Letter,.int .i64 x.Next]
def cTTake (x : TTake) : List Cell := [.d (.int .i64 x.From),.d (.int .i64 x.Letter),.d (.int .i64 x.Next)]
structure TState where
 Mode : Int
 Waits : (List Int)
 Picks : (List TPick)
 Takes : (List TTake)
def eTState (x : TState) : List C := [.int .i64 x.Mode,.sl (x.Waits.map eI),.sl (x.Picks.map eTPick),.sl (x.Takes.map eTTake)]
def cTState (x : TState) : List Cell := [.d (.int .i64 x.Mode),.d (.sl (x.Waits.map eI)),.d (.sl (x.Picks.map eTPick)),.d (.sl (x.Takes.map eTTake))]
structure TNode where
 Start : Int
 States : (List TState)
def eTNode (x : TNode) : List C := [.int .i64 x.Start,.sl (x.States.map eTState)]
def cTNode (x : TNode) : List Cell := [.d (.int .i64 x.Start),.d (.sl (x.States.map eTState))]
structure TApp where
 G : TGraph
 T : (List TNode)
 Fifo : Bool
def eTApp (x : TApp) : List C := [.int .i64 x.G.N,.sl (x.G.Links.map eA2I),.sl (x.T.map eTNode),.bool x.Fifo]
def cTApp (x : TApp) : List Cell := [.d (.int .i64 x.G.N),.d (.sl (x.G.Links.map eA2I)),.d (.sl (x.T.map eTNode)),.d (.bool x.Fifo)]
structure TMsg where
 Seq : Int
 Letter : Int
def eTMsg (x : TMsg) : List C := [.int .i64 x.Seq,.int .i64 x.Letter]
def cTMsg (x : TMsg) : List Cell := [.d (.int .i64 x.Seq),.d (.int .i64 x.Letter)]
instance : DecidableEq TMsg := fun x y => decidable_of_iff (x.Seq = y.Seq ∧ x.Letter = y.Letter) ⟨fun h => by cases x; cases y; simp_all,fun h => by subst h; simp⟩
theorem eq_TMsg_vv (x : TMsg) (y : TMsg) : (decide (x.Seq = y.Seq) && decide (x.Letter = y.Letter)) = decide (x = y) := by
 cases x; cases y; rw [Bool.eq_iff_iff]; simp
theorem eq_TMsg_vm (x : TMsg) (b0 b1 : Int) : (decide (x.Seq = b0) && decide (x.Letter = b1)) = decide (x = TMsg.mk b0 b1) := by
 cases x; rw [Bool.eq_iff_iff]; simp
theorem eq_TMsg_mv (a0 a1 : Int) (y : TMsg) : (decide (a0 = y.Seq) && decide (a1 = y.Letter)) = decide (TMsg.mk a0 a1 = y) := by
 cases y; rw [Bool.eq_iff_iff]; simp
theorem eq_TMsg_mm (a0 a1 : Int) (b0 b1 : Int) : (decide (a0 = b0) && decide (a1 = b1)) = decide (TMsg.mk a0 a1 = TMsg.mk b0 b1) := by
 rw [Bool.eq_iff_iff]; simp
structure THost where
 Node : Int
 State : Int
 Steps : Int
 In : (List (List TMsg))
 Out : (List (List Int))
def eTHost (x : THost) : List C := [.int .i64 x.Node,.int .i64 x.State,.int .i64 x.Steps,.sl (x.In.map (eL eTMsg)),.sl (x.Out.map (eL eI))]
def cTHost (x : THost) : List Cell := [.d (.int .i64 x.Node),.d (.int .i64 x.State),.d (.int .i64 x.Steps),.d (.sl (x.In.map (eL eTMsg))),.d (.sl (x.Out.map (eL eI)))]
structure TPiece where
 Node : Int
 State : Int
 Steps : Int
 Sent : (List Int)
 In : (List (List TMsg))
 Out : (List (List Int))
def eTPiece (x : TPiece) : List C := [.int .i64 x.Node,.int .i64 x.State,.int .i64 x.Steps,.sl (x.Sent.map eI),.sl (x.In.map (eL eTMsg)),.sl (x.Out.map (eL eI))]
def cTPiece (x : TPiece) : List Cell := [.d (.int .i64 x.Node),.d (.int .i64 x.State),.d (.int .i64 x.Steps),.d (.sl (x.Sent.map eI)),.d (.sl (x.In.map (eL eTMsg))),.d (.sl (x.Out.map (eL eI)))]
structure TFrame where
 Kind : Int
 Epoch : Int
 M : TMsg
 Pieces : (List TPiece)
 Init : Int
 Num : Int
 Count : Int
 Path : (List Int)
def eTFrame (x : TFrame) : List C := [.int .i64 x.Kind,.int .i64 x.Epoch,.int .i64 x.M.Seq,.int .i64 x.M.Letter,.sl (x.Pieces.map eTPiece),.int .i64 x.Init,.int .i64 x.Num,.int .i64 x.Count,.sl (x.Path.map eI)]
def cTFrame (x : TFrame) : List Cell := [.d (.int .i64 x.Kind),.d (.int .i64 x.Epoch),.d (.int .i64 x.M.Seq),.d (.int .i64 x.M.Letter),.d (.sl (x.Pieces.map eTPiece)),.d (.int .i64 x.Init),.d (.int .i64 x.Num),.d (.int .i64 x.Count),.d (.sl (x.Path.map eI))]
structure THeard where
 Num : Int
 Link : Int
 Seen : (List Int)
 F : TFrame
def eTHeard (x : THeard) : List C := [.int .i64 x.Num,.int .i64 x.Link,.sl (x.Seen.map eI),.int .i64 x.F.Kind,.int .i64 x.F.Epoch,.int .i64 x.F.M.Seq,.int .i64 x.F.M.Letter,.sl (x.F.Pieces.map eTPiece),.int .i64 x.F.Init,.int .i64 x.F.Num,.int .i64 x.F.Count,.sl (x.F.Path.map eI)]
def cTHeard (x : THeard) : List Cell := [.d (.int .i64 x.Num),.d (.int .i64 x.Link),.d (.sl (x.Seen.map eI)),.d (.int .i64 x.F.Kind),.d (.int .i64 x.F.Epoch),.d (.int .i64 x.F.M.Seq),.d (.int .i64 x.F.M.Letter),.d (.sl (x.F.Pieces.map eTPiece)),.d (.int .i64 x.F.Init),.d (.int .i64 x.F.Num),.d (.int .i64 x.F.Count),.d (.sl (x.F.Path.map eI))]
structure TPlace where
 State : TState
 n : Int
 node : TNode
 g : TGraph
def eTPlace (x : TPlace) : List C := [.int .i64 x.State.Mode,.sl (x.State.Waits.map eI),.sl (x.State.Picks.map eTPick),.sl (x.State.Takes.map eTTake),.int .i64 x.n,.int .i64 x.node.Start,.sl (x.node.States.map eTState),.int .i64 x.g.N,.sl (x.g.Links.map eA2I)]
def cTPlace (x : TPlace) : List Cell := [.d (.int .i64 x.State.Mode),.d (.sl (x.State.Waits.map eI)),.d (.sl (x.State.Picks.map eTPick)),.d (.sl (x.State.Takes.map eTTake)),.d (.int .i64 x.n),.d (.int .i64 x.node.Start),.d (.sl (x.node.States.map eTState)),.d (.int .i64 x.g.N),.d (.sl (x.g.Links.map eA2I))]
structure TOut where
 Link : Int
 F : TFrame
def eTOut (x : TOut) : List C := [.int .i64 x.Link,.int .i64 x.F.Kind,.int .i64 x.F.Epoch,.int .i64 x.F.M.Seq,.int .i64 x.F.M.Letter,.sl (x.F.Pieces.map eTPiece),.int .i64 x.F.Init,.int .i64 x.F.Num,.int .i64 x.F.Count,.sl (x.F.Path.map eI)]
def cTOut (x : TOut) : List Cell := [.d (.int .i64 x.Link),.d (.int .i64 x.F.Kind),.d (.int .i64 x.F.Epoch),.d (.int .i64 x.F.M.Seq),.d (.int .i64 x.F.M.Letter),.d (.sl (x.F.Pieces.map eTPiece)),.d (.int .i64 x.F.Init),.d (.int .i64 x.F.Num),.d (.int .i64 x.F.Count),.d (.sl (x.F.Path.map eI))]
structure TSeat where
 Host : THost
 a : TApp
def eTSeat (x : TSeat) : List C := [.int .i64 x.Host.Node,.int .i64 x.Host.State,.int .i64 x.Host.Steps,.sl (x.Host.In.map (eL eTMsg)),.sl (x.Host.Out.map (eL eI)),.int .i64 x.a.G.N,.sl (x.a.G.Links.map eA2I),.sl (x.a.T.map eTNode),.bool x.a.Fifo]
def cTSeat (x : TSeat) : List Cell := [.d (.int .i64 x.Host.Node),.d (.int .i64 x.Host.State),.d (.int .i64 x.Host.Steps),.d (.sl (x.Host.In.map (eL eTMsg))),.d (.sl (x.Host.Out.map (eL eI))),.d (.int .i64 x.a.G.N),.d (.sl (x.a.G.Links.map eA2I)),.d (.sl (x.a.T.map eTNode)),.d (.bool x.a.Fifo)]
structure TStatic where
 States : (List Int)
 Init : Int
 Picks : (List Int)
def eTStatic (x : TStatic) : List C := [.sl (x.States.map eI),.int .i64 x.Init,.sl (x.Picks.map e_u16)]
def cTStatic (x : TStatic) : List Cell := [.d (.sl (x.States.map eI)),.d (.int .i64 x.Init),.d (.sl (x.Picks.map e_u16))]
structure TConf where
 States : (List Int)
 Links : (List (List TMsg))
 Sent : (List Int)
def eTConf (x : TConf) : List C := [.sl (x.States.map eI),.sl (x.Links.map (eL eTMsg)),.sl (x.Sent.map eI)]
def cTConf (x : TConf) : List Cell := [.d (.sl (x.States.map eI)),.d (.sl (x.Links.map (eL eTMsg))),.d (.sl (x.Sent.map eI))]
def cols_165 (j : Nat) : TD := if j = 1 then .sl 167 2 (fun _ => .sc) else .sc
theorem oset_165 (l : List (List C)) (i : Nat) (c0 c1 : C) : (openRows cols_165 l).set i [.d c0,.tr (.sl 167 2 (fun _ => .sc)) c1] = openRows cols_165 (l.set i [c0,c1]) := by
 simp [openRows,List.map_set,cellsOf,cellOf,cols_165]
def cols_138 (j : Nat) : TD := if j = 1 then .sl 3 1 (fun _ => .sc) else if j = 2 then .sl 165 2 cols_165 else if j = 3 then .sl 166 3 (fun _ => .sc) else .sc
theorem oset_138 (l : List (List C)) (i : Nat) (c0 c1 c2 c3 : C) : (openRows cols_138 l).set i [.d c0,.tr (.sl 3 1 (fun _ => .sc)) c1,.tr (.sl 165 2 cols_165) c2,.tr (.sl 166 3 (fun _ => .sc)) c3] = openRows cols_138 (l.set i [c0,c1,c2,c3]) := by
 simp [openRows,List.map_set,cellsOf,cellOf,cols_138]
def cols_80 (j : Nat) : TD := if j = 1 then .sl 138 4 cols_138 else .sc
theorem oset_80 (l : List (List C)) (i : Nat) (c0 c1 : C) : (openRows cols_80 l).set i [.d c0,.tr (.sl 138 4 cols_138) c1] = openRows cols_80 (l.set i [c0,c1]) := by
 simp [openRows,List.map_set,cellsOf,cellOf,cols_80]
def cols_141 (j : Nat) : TD := if j = 0 then .sl 34 2 (fun _ => .sc) else .sc
theorem oset_141 (l : List (List C)) (i : Nat) (c0 : C) : (openRows cols_141 l).set i [.tr (.sl 34 2 (fun _ => .sc)) c0] = openRows cols_141 (l.set i [c0]) := by
 simp [openRows,List.map_set,cellsOf,cellOf,cols_141]
def cols_32 (j : Nat) : TD := if j = 0 then .sl 3 1 (fun _ => .sc) else .sc
theorem oset_32 (l : List (List C)) (i : Nat) (c0 : C) : (openRows cols_32 l).set i [.tr (.sl 3 1 (fun _ => .sc)) c0] = openRows cols_32 (l.set i [c0]) := by
 simp [openRows,List.map_set,cellsOf,cellOf,cols_32]
def cols_102 (j : Nat) : TD := if j = 3 then .sl 3 1 (fun _ => .sc) else if j = 4 then .sl 141 1 cols_141 else if j = 5 then .sl 32 1 cols_32 else .sc
theorem oset_102 (l : List (List C)) (i : Nat) (c0 c1 c2 c3 c4 c5 : C) : (openRows cols_102 l).set i [.d c0,.d c1,.d c2,.tr (.sl 3 1 (fun _ => .sc)) c3,.tr (.sl 141 1 cols_141) c4,.tr (.sl 32 1 cols_32) c5] = openRows cols_102 (l.set i [c0,c1,c2,c3,c4,c5]) := by
 simp [openRows,List.map_set,cellsOf,cellOf,cols_102]
def cols_157 (j : Nat) : TD := if j = 1 then .sl 159 2 (fun _ => .sc) else .sc
theorem oset_157 (l : List (List C)) (i : Nat) (c0 c1 : C) : (openRows cols_157 l).set i [.d c0,.tr (.sl 159 2 (fun _ => .sc)) c1] = openRows cols_157 (l.set i [c0,c1]) := by
 simp [openRows,List.map_set,cellsOf,cellOf,cols_157]
def cols_86 (j : Nat) : TD := if j = 1 then .sl 3 1 (fun _ => .sc) else if j = 2 then .sl 157 2 cols_157 else if j = 3 then .sl 161 3 (fun _ => .sc) else .sc
theorem oset_86 (l : List (List C)) (i : Nat) (c0 c1 c2 c3 : C) : (openRows cols_86 l).set i [.d c0,.tr (.sl 3 1 (fun _ => .sc)) c1,.tr (.sl 157 2 cols_157) c2,.tr (.sl 161 3 (fun _ => .sc)) c3] = openRows cols_86 (l.set i [c0,c1,c2,c3]) := by
 simp [openRows,List.map_set,cellsOf,cellOf,cols_86]
def cols_106 (j : Nat) : TD := if j = 1 then .sl 86 4 cols_86 else .sc
theorem oset_106 (l : List (List C)) (i : Nat) (c0 c1 : C) : (openRows cols_106 l).set i [.d c0,.tr (.sl 86 4 cols_86) c1] = openRows cols_106 (l.set i [c0,c1]) := by
 simp [openRows,List.map_set,cellsOf,cellOf,cols_106]
def cols_90 (j : Nat) : TD := if j = 5 then .sl 102 6 cols_102 else if j = 9 then .sl 3 1 (fun _ => .sc) else .sc
theorem oset_90 (l : List (List C)) (i : Nat) (c0 c1 c2 c3 c4 c5 c6 c7 c8 c9 : C) : (openRows cols_90 l).set i [.d c0,.d c1,.d c2,.d c3,.d c4,.tr (.sl 102 6 cols_102) c5,.d c6,.d c7,.d c8,.tr (.sl 3 1 (fun _ => .sc)) c9] = openRows cols_90 (l.set i [c0,c1,c2,c3,c4,c5,c6,c7,c8,c9]) := by
 simp [openRows,List.map_set,cellsOf,cellOf,cols_90]
def cols_109 (j : Nat) : TD := if j = 3 then .sl 3 1 (fun _ => .sc) else if j = 4 then .sl 141 1 cols_141 else if j = 5 then .sl 32 1 cols_32 else .sc
theorem oset_109 (l : List (List C)) (i : Nat) (c0 c1 c2 c3 c4 c5 : C) : (openRows cols_109 l).set i [.d c0,.d c1,.d c2,.tr (.sl 3 1 (fun _ => .sc)) c3,.tr (.sl 141 1 cols_141) c4,.tr (.sl 32 1 cols_32) c5] = openRows cols_109 (l.set i [c0,c1,c2,c3,c4,c5]) := by
 simp [openRows,List.map_set,cellsOf,cellOf,cols_109]
def cols_114 (j : Nat) : TD := if j = 5 then .sl 109 6 cols_109 else if j = 9 then .sl 3 1 (fun _ => .sc) else .sc
theorem oset_114 (l : List (List C)) (i : Nat) (c0 c1 c2 c3 c4 c5 c6 c7 c8 c9 : C) : (openRows cols_114 l).set i [.d c0,.d c1,.d c2,.d c3,.d c4,.tr (.sl 109 6 cols_109) c5,.d c6,.d c7,.d c8,.tr (.sl 3 1 (fun _ => .sc)) c9] = openRows cols_114 (l.set i [c0,c1,c2,c3,c4,c5,c6,c7,c8,c9]) := by
 simp [openRows,List.map_set,cellsOf,cellOf,cols_114]
def cols_31 (j : Nat) : TD := if j = 3 then .sl 141 1 cols_141 else if j = 4 then .sl 32 1 cols_32 else .sc
theorem oset_31 (l : List (List C)) (i : Nat) (c0 c1 c2 c3 c4 : C) : (openRows cols_31 l).set i [.d c0,.d c1,.d c2,.tr (.sl 141 1 cols_141) c3,.tr (.sl 32 1 cols_32) c4] = openRows cols_31 (l.set i [c0,c1,c2,c3,c4]) := by
 simp [openRows,List.map_set,cellsOf,cellOf,cols_31]
theorem sc_3 (l : List Int) : scRows (fun _ => .sc) (List.map eI l) := by
 intro r hr j c hj hc
 obtain ⟨x,_,rfl⟩ := List.mem_map.1 hr
 rcases j with _ | j <;> first | (simp [eI] at hj; subst hj; rfl) | (simp [eI] at hj; done) | (simp [hc] at hc; done)
theorem sc_34 (l : List TMsg) : scRows (fun _ => .sc) (List.map eTMsg l) := by
 intro r hr j c hj hc
 obtain ⟨x,_,rfl⟩ := List.mem_map.1 hr
 rcases j with _ | _ | j <;> first | (simp [eTMsg] at hj; subst hj; rfl) | (simp [eTMsg] at hj; done) | (simp [hc] at hc; done)
theorem sc_138 (l : List TState) : scRows cols_138 (List.map eTState l) := by
 intro r hr j c hj hc
 obtain ⟨x,_,rfl⟩ := List.mem_map.1 hr
 rcases j with _ | _ | _ | _ | j <;> first | (simp [eTState] at hj; subst hj; rfl) | (simp [eTState] at hj; done) | (simp [cols_138] at hc; done)
theorem sc_159 (l : List TSend) : scRows (fun _ => .sc) (List.map eTSend l) := by
 intro r hr j c hj hc
 obtain ⟨x,_,rfl⟩ := List.mem_map.1 hr
 rcases j with _ | _ | j <;> first | (simp [eTSend] at hj; subst hj; rfl) | (simp [eTSend] at hj; done) | (simp [hc] at hc; done)
theorem sc_165 (l : List TPick) : scRows cols_165 (List.map eTPick l) := by
 intro r hr j c hj hc
 obtain ⟨x,_,rfl⟩ := List.mem_map.1 hr
 rcases j with _ | _ | j <;> first | (simp [eTPick] at hj; subst hj; rfl) | (simp [eTPick] at hj; done) | (simp [cols_165] at hc; done)
theorem sc_166 (l : List TTake) : scRows (fun _ => .sc) (List.map eTTake l) := by
 intro r hr j c hj hc
 obtain ⟨x,_,rfl⟩ := List.mem_map.1 hr
 rcases j with _ | _ | _ | j <;> first | (simp [eTTake] at hj; subst hj; rfl) | (simp [eTTake] at hj; done) | (simp [hc] at hc; done)
theorem sc_167 (l : List TSend) : scRows (fun _ => .sc) (List.map eTSend l) := by
 intro r hr j c hj hc
 obtain ⟨x,_,rfl⟩ := List.mem_map.1 hr
 rcases j with _ | _ | j <;> first | (simp [eTSend] at hj; subst hj; rfl) | (simp [eTSend] at hj; done) | (simp [hc] at hc; done)
def EX0 := PLift.up (ai (ai (ai (ai (ai (ai @EW (ai @EM @e_min3)) (ai @e_max3 (ai @fE_g @fE_a))) (ai (ai @fE_m (ai @fE_f @fE_k)) (ai @List.append_eq.{0} (ai @eI.eq_1 @eB.eq_1)))) (ai (ai (ai @eS.eq_1 (ai @e_u8.eq_1 @eL.eq_1)) (ai @e_u16.eq_1 (ai @eA2I.eq_1 @eTGraph.eq_1))) (ai (ai @eTSend.eq_1 (ai @eTPick.eq_1 @eTTake.eq_1)) (ai @eTState.eq_1 (ai @eTNode.eq_1 @eTApp.eq_1))))) (ai (ai (ai (ai @eTMsg.eq_1 (ai @eTHost.eq_1 @eTPiece.eq_1)) (ai @eTFrame.eq_1 (ai @eTHeard.eq_1 @eTPlace.eq_1))) (ai (ai @eTOut.eq_1 (ai @eTSeat.eq_1 @eTStatic.eq_1)) (ai @eTConf.eq_1 (ai @cA2I.eq_1 @cTGraph.eq_1)))) (ai (ai (ai @cTSend.eq_1 (ai @cTPick.eq_1 @cTTake.eq_1)) (ai @cTState.eq_1 (ai @cTNode.eq_1 @cTApp.eq_1))) (ai (ai @cTMsg.eq_1 (ai @cTHost.eq_1 @cTPiece.eq_1)) (ai @cTFrame.eq_1 (ai @cTHeard.eq_1 @cTPlace.eq_1)))))) (ai (ai (ai (ai (ai @cTOut.eq_1 (ai @cTSeat.eq_1 @cTStatic.eq_1)) (ai @cTConf.eq_1 (ai @e_blt @e_ble))) (ai (ai @Array.toList_append.{0} (ai @e_aBl @e_aBd)) (ai @e_aBs (ai @e_aBy @e_aBi)))) (ai (ai (ai @e_aIl (ai @e_aId @e_aIs)) (ai @e_aIy (ai @e_aIi @Nat.mul_one))) (ai (ai @List.toList_toArray.{0} (ai @arun0.eq_1 @arun0.eq_2)) (ai @drun0.eq_1 (ai @drun0.eq_2 @cols_31.eq_1))))) (ai (ai (ai (ai @cols_32.eq_1 (ai @cols_80.eq_1 @cols_86.eq_1)) (ai @cols_90.eq_1 (ai @cols_102.eq_1 @cols_106.eq_1))) (ai (ai @cols_109.eq_1 (ai @cols_114.eq_1 @cols_138.eq_1)) (ai @cols_141.eq_1 (ai @cols_157.eq_1 @cols_165.eq_1)))) (ai (ai (ai @oset_31 (ai @oset_32 @oset_80)) (ai @oset_86 (ai @oset_90 @oset_102))) (ai (ai @oset_106 (ai @oset_109 @oset_114)) (ai (ai @oset_138 @oset_141) (ai @oset_157 @oset_165)))))))
theorem EX : type_of% EX0.down := EX0.down
def TZ0 := PLift.up (ai (ai (ai (ai (ai (ai (ai (ai (ai ty_tShape_1 ty_tZero_1) (ai ty_nCells_1 (ai ty_tFlat_1 ty_isBoolT_1))) (ai (ai ty_tShape_2 ty_tZero_2) (ai ty_tInt_2 (ai ty_nCells_2 ty_tFlat_2)))) (ai (ai (ai ty_isBoolT_2 ty_tShape_3) (ai ty_tZero_3 (ai ty_tInt_3 ty_nCells_3))) (ai (ai ty_tFlat_3 ty_tZ1_3) (ai ty_isBoolT_3 (ai ty_tShape_4 ty_tZero_4))))) (ai (ai (ai (ai ty_nCells_4 ty_tFlat_4) (ai ty_isBoolT_4 (ai ty_tShape_5 ty_tZero_5))) (ai (ai ty_tInt_5 ty_nCells_5) (ai ty_tFlat_5 (ai ty_isBoolT_5 ty_tShape_6)))) (ai (ai (ai ty_tZero_6 ty_tInt_6) (ai ty_nCells_6 (ai ty_tFlat_6 ty_isBoolT_6))) (ai (ai ty_tShape_7 ty_tZero_7) (ai ty_nCells_7 (ai ty_tFlat_7 ty_isBoolT_7)))))) (ai (ai (ai (ai (ai ty_tBuilt_7 ty_tFld_7_0) (ai ty_tFldV_7_0 (ai ty_tFld_7_1 ty_tFldV_7_1))) (ai (ai ty_tFld_7_2 ty_tFldV_7_2) (ai ty_tFld_7_3 (ai ty_tFldV_7_3 ty_tShape_22)))) (ai (ai (ai ty_tZero_22 ty_tElt_22) (ai ty_nCells_22 (ai ty_tFlat_22 ty_isBoolT_22))) (ai (ai ty_tShape_24 ty_tZero_24) (ai ty_nCells_24 (ai ty_tFlat_24 ty_isBoolT_24))))) (ai (ai (ai (ai ty_tBuilt_24 ty_tFld_24_0) (ai ty_tFldV_24_0 (ai ty_tFld_24_1 ty_tFldV_24_1))) (ai (ai ty_tShape_25 ty_tZero_25) (ai ty_tElt_25 (ai ty_nCells_25 ty_tFlat_25)))) (ai (ai (ai ty_isBoolT_25 ty_tShape_27) (ai ty_tZero_27 (ai ty_nCells_27 ty_tFlat_27))) (ai (ai ty_isBoolT_27 (ai ty_tBuilt_27 ty_tFld_27_0)) (ai ty_tFldV_27_0 (ai ty_tFld_27_1 ty_tFldV_27_1))))))) (ai (ai (ai (ai (ai (ai ty_tFld_27_2 ty_tFldV_27_2) (ai ty_tShape_28 (ai ty_tZero_28 ty_tElt_28))) (ai (ai ty_nCells_28 ty_tFlat_28) (ai ty_isBoolT_28 (ai ty_tShape_29 ty_tZero_29)))) (ai (ai (ai ty_tElt_29 ty_nCells_29) (ai ty_tFlat_29 (ai ty_isBoolT_29 ty_tShape_31))) (ai (ai ty_tZero_31 ty_nCells_31) (ai ty_tFlat_31 (ai ty_isBoolT_31 ty_tBuilt_31))))) (ai (ai (ai (ai ty_tFld_31_0 ty_tFldV_31_0) (ai ty_tFld_31_1 (ai ty_tFldV_31_1 ty_tFld_31_2))) (ai (ai ty_tFldV_31_2 ty_tFld_31_3) (ai ty_tFldV_31_3 (ai ty_tFld_31_4 ty_tFldV_31_4)))) (ai (ai (ai ty_tShape_32 ty_tZero_32) (ai ty_tElt_32 (ai ty_nCells_32 ty_tFlat_32))) (ai (ai ty_isBoolT_32 ty_tShape_34) (ai ty_tZero_34 (ai ty_nCells_34 ty_tFlat_34)))))) (ai (ai (ai (ai (ai ty_isBoolT_34 ty_tBuilt_34) (ai ty_tFld_34_0 (ai ty_tFldV_34_0 ty_tFld_34_1))) (ai (ai ty_tFldV_34_1 ty_tShape_35) (ai ty_tZero_35 (ai ty_tElt_35 ty_nCells_35)))) (ai (ai (ai ty_tFlat_35 ty_isBoolT_35) (ai ty_tShape_37 (ai ty_tZero_37 ty_nCells_37))) (ai (ai ty_tFlat_37 ty_isBoolT_37) (ai ty_tBuilt_37 (ai ty_tFld_37_0 ty_tFldV_37_0))))) (ai (ai (ai (ai ty_tFld_37_1 ty_tFldV_37_1) (ai ty_tFld_37_2 (ai ty_tFldV_37_2 ty_tFld_37_3))) (ai (ai ty_tFldV_37_3 ty_tFld_37_4) (ai ty_tFldV_37_4 (ai ty_tFld_37_5 ty_tFldV_37_5)))) (ai (ai (ai ty_tFld_37_6 ty_tFldV_37_6) (ai ty_tFld_37_7 (ai ty_tFldV_37_7 ty_tShape_39))) (ai (ai ty_tZero_39 (ai ty_nCells_39 ty_tFlat_39)) (ai ty_isBoolT_39 (ai ty_tBuilt_39 ty_tFld_39_0)))))))) (ai (ai (ai (ai (ai (ai (ai ty_tFldV_39_0 ty_tFld_39_1) (ai ty_tFldV_39_1 (ai ty_tFld_39_2 ty_tFldV_39_2))) (ai (ai ty_tFld_39_3 ty_tFldV_39_3) (ai ty_tShape_41 (ai ty_tZero_41 ty_nCells_41)))) (ai (ai (ai ty_tFlat_41 ty_isBoolT_41) (ai ty_tBuilt_41 (ai ty_tFld_41_0 ty_tFldV_41_0))) (ai (ai ty_tFld_41_1 ty_tFldV_41_1) (ai ty_tShape_42 (ai ty_tZero_42 ty_tElt_42))))) (ai (ai (ai (ai ty_nCells_42 ty_tFlat_42) (ai ty_isBoolT_42 (ai ty_tShape_44 ty_tZero_44))) (ai (ai ty_nCells_44 ty_tFlat_44) (ai ty_isBoolT_44 (ai ty_tBuilt_44 ty_tFld_44_0)))) (ai (ai (ai ty_tFldV_44_0 ty_tFld_44_1) (ai ty_tFldV_44_1 (ai ty_tFld_44_2 ty_tFldV_44_2))) (ai (ai ty_tShape_46 ty_tZero_46) (ai ty_nCells_46 (ai ty_tFlat_46 ty_isBoolT_46)))))) (ai (ai (ai (ai (ai ty_tBuilt_46 ty_tFld_46_0) (ai ty_tFldV_46_0 (ai ty_tFld_46_1 ty_tFldV_46_1))) (ai (ai ty_tFld_46_2 ty_tFldV_46_2) (ai ty_tFld_46_3 (ai ty_tFldV_46_3 ty_tFld_46_4)))) (ai (ai (ai ty_tFldV_46_4 ty_tShape_50) (ai ty_tZero_50 (ai ty_nCells_50 ty_tFlat_50))) (ai (ai ty_isBoolT_50 ty_tShape_51) (ai ty_tZero_51 (ai ty_tElt_51 ty_nCells_51))))) (ai (ai (ai (ai ty_tFlat_51 ty_isBoolT_51) (ai ty_tShape_52 (ai ty_tZero_52 ty_tInt_52))) (ai (ai ty_nCells_52 ty_tFlat_52) (ai ty_isBoolT_52 (ai ty_tShape_55 ty_tZero_55)))) (ai (ai (ai ty_tElt_55 ty_nCells_55) (ai ty_tFlat_55 (ai ty_isBoolT_55 ty_tShape_61))) (ai (ai ty_tZero_61 (ai ty_tElt_61 ty_nCells_61)) (ai ty_tFlat_61 (ai ty_isBoolT_61 ty_tShape_63))))))) (ai (ai (ai (ai (ai (ai ty_tZero_63 ty_nCells_63) (ai ty_tFlat_63 (ai ty_isBoolT_63 ty_tBuilt_63))) (ai (ai ty_tFld_63_0 ty_tFldV_63_0) (ai ty_tFld_63_1 (ai ty_tFldV_63_1 ty_tFld_63_2)))) (ai (ai (ai ty_tFldV_63_2 ty_tFld_63_3) (ai ty_tFldV_63_3 (ai ty_tFld_63_4 ty_tFldV_63_4))) (ai (ai ty_tFld_63_5 ty_tFldV_63_5) (ai ty_tFld_63_6 (ai ty_tFldV_63_6 ty_tFld_63_7))))) (ai (ai (ai (ai ty_tFldV_63_7 ty_tShape_71) (ai ty_tZero_71 (ai ty_tElt_71 ty_nCells_71))) (ai (ai ty_tFlat_71 ty_isBoolT_71) (ai ty_tShape_73 (ai ty_tZero_73 ty_nCells_73)))) (ai (ai (ai ty_tFlat_73 ty_isBoolT_73) (ai ty_tBuilt_73 (ai ty_tFld_73_0 ty_tFldV_73_0))) (ai (ai ty_tFld_73_1 ty_tFldV_73_1) (ai ty_tFld_73_2 (ai ty_tFldV_73_2 ty_tShape_76)))))) (ai (ai (ai (ai (ai ty_tZero_76 ty_nCells_76) (ai ty_tFlat_76 (ai ty_isBoolT_76 ty_tBuilt_76))) (ai (ai ty_tFld_76_0 ty_tFldV_76_0) (ai ty_tFld_76_1 (ai ty_tFldV_76_1 ty_tFld_76_2)))) (ai (ai (ai ty_tFldV_76_2 ty_tShape_78) (ai ty_tZero_78 (ai ty_tElt_78 ty_nCells_78))) (ai (ai ty_tFlat_78 ty_isBoolT_78) (ai ty_tShape_80 (ai ty_tZero_80 ty_nCells_80))))) (ai (ai (ai (ai ty_tFlat_80 ty_isBoolT_80) (ai ty_tBuilt_80 (ai ty_tFld_80_0 ty_tFldV_80_0))) (ai (ai ty_tFld_80_1 ty_tFldV_80_1) (ai ty_tShape_81 (ai ty_tZero_81 ty_tElt_81)))) (ai (ai (ai ty_nCells_81 ty_tFlat_81) (ai ty_isBoolT_81 (ai ty_tShape_83 ty_tZero_83))) (ai (ai ty_tElt_83 (ai ty_nCells_83 ty_tFlat_83)) (ai ty_isBoolT_83 (ai ty_tShape_84 ty_tZero_84))))))))) (ai (ai (ai (ai (ai (ai (ai (ai ty_tElt_84 ty_nCells_84) (ai ty_tFlat_84 (ai ty_isBoolT_84 ty_tShape_86))) (ai (ai ty_tZero_86 ty_nCells_86) (ai ty_tFlat_86 (ai ty_isBoolT_86 ty_tBuilt_86)))) (ai (ai (ai ty_tFld_86_0 ty_tFldV_86_0) (ai ty_tFld_86_1 (ai ty_tFldV_86_1 ty_tFld_86_2))) (ai (ai ty_tFldV_86_2 ty_tFld_86_3) (ai ty_tFldV_86_3 (ai ty_tShape_88 ty_tZero_88))))) (ai (ai (ai (ai ty_tInt_88 ty_nCells_88) (ai ty_tFlat_88 (ai ty_isBoolT_88 ty_tShape_90))) (ai (ai ty_tZero_90 ty_nCells_90) (ai ty_tFlat_90 (ai ty_isBoolT_90 ty_tBuilt_90)))) (ai (ai (ai ty_tFld_90_0 ty_tFldV_90_0) (ai ty_tFld_90_1 (ai ty_tFldV_90_1 ty_tShape_91))) (ai (ai ty_tZero_91 ty_tElt_91) (ai ty_tArr_91 (ai ty_nCells_91 ty_tFlat_91)))))) (ai (ai (ai (ai (ai ty_isBoolT_91 ty_tBuilt_91) (ai ty_tShape_94 (ai ty_tZero_94 ty_nCells_94))) (ai (ai ty_tFlat_94 ty_isBoolT_94) (ai ty_tShape_95 (ai ty_tZero_95 ty_nCells_95)))) (ai (ai (ai ty_tFlat_95 ty_isBoolT_95) (ai ty_tShape_96 (ai ty_tZero_96 ty_nCells_96))) (ai (ai ty_tFlat_96 ty_isBoolT_96) (ai ty_tShape_97 (ai ty_tZero_97 ty_nCells_97))))) (ai (ai (ai (ai ty_tFlat_97 ty_isBoolT_97) (ai ty_tShape_98 (ai ty_tZero_98 ty_nCells_98))) (ai (ai ty_tFlat_98 ty_isBoolT_98) (ai ty_tShape_102 (ai ty_tZero_102 ty_nCells_102)))) (ai (ai (ai ty_tFlat_102 ty_isBoolT_102) (ai ty_tBuilt_102 (ai ty_tFld_102_0 ty_tFldV_102_0))) (ai (ai ty_tFld_102_1 (ai ty_tFldV_102_1 ty_tFld_102_2)) (ai ty_tFldV_102_2 (ai ty_tFld_102_3 ty_tFldV_102_3))))))) (ai (ai (ai (ai (ai (ai ty_tFld_102_4 ty_tFldV_102_4) (ai ty_tFld_102_5 (ai ty_tFldV_102_5 ty_tShape_103))) (ai (ai ty_tZero_103 ty_nCells_103) (ai ty_tFlat_103 (ai ty_isBoolT_103 ty_tShape_104)))) (ai (ai (ai ty_tZero_104 ty_tElt_104) (ai ty_nCells_104 (ai ty_tFlat_104 ty_isBoolT_104))) (ai (ai ty_tShape_106 ty_tZero_106) (ai ty_nCells_106 (ai ty_tFlat_106 ty_isBoolT_106))))) (ai (ai (ai (ai ty_tBuilt_106 ty_tFld_106_0) (ai ty_tFldV_106_0 (ai ty_tFld_106_1 ty_tFldV_106_1))) (ai (ai ty_tShape_107 ty_tZero_107) (ai ty_nCells_107 (ai ty_tFlat_107 ty_isBoolT_107)))) (ai (ai (ai ty_tShape_109 ty_tZero_109) (ai ty_nCells_109 (ai ty_tFlat_109 ty_isBoolT_109))) (ai (ai ty_tBuilt_109 ty_tFld_109_0) (ai ty_tFldV_109_0 (ai ty_tFld_109_1 ty_tFldV_109_1)))))) (ai (ai (ai (ai (ai ty_tFld_109_2 ty_tFldV_109_2) (ai ty_tFld_109_3 (ai ty_tFldV_109_3 ty_tFld_109_4))) (ai (ai ty_tFldV_109_4 ty_tFld_109_5) (ai ty_tFldV_109_5 (ai ty_tShape_114 ty_tZero_114)))) (ai (ai (ai ty_nCells_114 ty_tFlat_114) (ai ty_isBoolT_114 (ai ty_tBuilt_114 ty_tFld_114_0))) (ai (ai ty_tFldV_114_0 ty_tFld_114_1) (ai ty_tFldV_114_1 (ai ty_tShape_116 ty_tZero_116))))) (ai (ai (ai (ai ty_nCells_116 ty_tFlat_116) (ai ty_isBoolT_116 (ai ty_tBuilt_116 ty_tFld_116_0))) (ai (ai ty_tFldV_116_0 ty_tFld_116_1) (ai ty_tFldV_116_1 (ai ty_tShape_133 ty_tZero_133)))) (ai (ai (ai ty_tElt_133 ty_nCells_133) (ai ty_tFlat_133 (ai ty_isBoolT_133 ty_tShape_135))) (ai (ai ty_tZero_135 (ai ty_tElt_135 ty_nCells_135)) (ai ty_tFlat_135 (ai ty_isBoolT_135 ty_tShape_136)))))))) (ai (ai (ai (ai (ai (ai (ai ty_tZero_136 ty_tElt_136) (ai ty_nCells_136 (ai ty_tFlat_136 ty_isBoolT_136))) (ai (ai ty_tShape_138 ty_tZero_138) (ai ty_nCells_138 (ai ty_tFlat_138 ty_isBoolT_138)))) (ai (ai (ai ty_tBuilt_138 ty_tFld_138_0) (ai ty_tFldV_138_0 (ai ty_tFld_138_1 ty_tFldV_138_1))) (ai (ai ty_tFld_138_2 ty_tFldV_138_2) (ai ty_tFld_138_3 (ai ty_tFldV_138_3 ty_tShape_141))))) (ai (ai (ai (ai ty_tZero_141 ty_tElt_141) (ai ty_nCells_141 (ai ty_tFlat_141 ty_isBoolT_141))) (ai (ai ty_tShape_155 ty_tZero_155) (ai ty_tElt_155 (ai ty_nCells_155 ty_tFlat_155)))) (ai (ai (ai ty_isBoolT_155 ty_tShape_157) (ai ty_tZero_157 (ai ty_nCells_157 ty_tFlat_157))) (ai (ai ty_isBoolT_157 ty_tBuilt_157) (ai ty_tFld_157_0 (ai ty_tFldV_157_0 ty_tFld_157_1)))))) (ai (ai (ai (ai (ai ty_tFldV_157_1 ty_tShape_159) (ai ty_tZero_159 (ai ty_nCells_159 ty_tFlat_159))) (ai (ai ty_isBoolT_159 ty_tBuilt_159) (ai ty_tFld_159_0 (ai ty_tFldV_159_0 ty_tFld_159_1)))) (ai (ai (ai ty_tFldV_159_1 ty_tShape_161) (ai ty_tZero_161 (ai ty_nCells_161 ty_tFlat_161))) (ai (ai ty_isBoolT_161 ty_tBuilt_161) (ai ty_tFld_161_0 (ai ty_tFldV_161_0 ty_tFld_161_1))))) (ai (ai (ai (ai ty_tFldV_161_1 ty_tFld_161_2) (ai ty_tFldV_161_2 (ai ty_tShape_163 ty_tZero_163))) (ai (ai ty_tElt_163 ty_nCells_163) (ai ty_tFlat_163 (ai ty_isBoolT_163 ty_tShape_165)))) (ai (ai (ai ty_tZero_165 ty_nCells_165) (ai ty_tFlat_165 (ai ty_isBoolT_165 ty_tBuilt_165))) (ai (ai ty_tFld_165_0 (ai ty_tFldV_165_0 ty_tFld_165_1)) (ai ty_tFldV_165_1 (ai ty_tShape_166 ty_tZero_166))))))) (ai (ai (ai (ai (ai (ai ty_nCells_166 ty_tFlat_166) (ai ty_isBoolT_166 (ai ty_tBuilt_166 ty_tFld_166_0))) (ai (ai ty_tFldV_166_0 ty_tFld_166_1) (ai ty_tFldV_166_1 (ai ty_tFld_166_2 ty_tFldV_166_2)))) (ai (ai (ai ty_tShape_167 ty_tZero_167) (ai ty_nCells_167 (ai ty_tFlat_167 ty_isBoolT_167))) (ai (ai ty_tBuilt_167 ty_tFld_167_0) (ai ty_tFldV_167_0 (ai ty_tFld_167_1 ty_tFldV_167_1))))) (ai (ai (ai (ai ty_tShape_170 ty_tZero_170) (ai ty_nCells_170 (ai ty_tFlat_170 ty_isBoolT_170))) (ai (ai ty_tBuilt_170 ty_tFld_170_0) (ai ty_tFldV_170_0 (ai ty_tFld_170_1 ty_tFldV_170_1)))) (ai (ai (ai ty_tFld_170_2 ty_tFldV_170_2) (ai ty_tFld_170_3 (ai ty_tFldV_170_3 ty_tShape_173))) (ai (ai ty_tZero_173 ty_nCells_173) (ai ty_tFlat_173 (ai ty_isBoolT_173 ty_tShape_179)))))) (ai (ai (ai (ai (ai ty_tZero_179 ty_nCells_179) (ai ty_tFlat_179 (ai ty_tMap_179 ty_isBoolT_179))) (ai (ai ty_tShape_182 ty_tZero_182) (ai ty_nCells_182 (ai ty_tFlat_182 ty_isBoolT_182)))) (ai (ai (ai ty_tBuilt_182 ty_tFld_182_0) (ai ty_tFldV_182_0 (ai ty_tShape_183 ty_tZero_183))) (ai (ai ty_tElt_183 ty_nCells_183) (ai ty_tFlat_183 (ai ty_isBoolT_183 ty_tShape_186))))) (ai (ai (ai (ai ty_tZero_186 ty_nCells_186) (ai ty_tFlat_186 (ai ty_isBoolT_186 ty_tShape_188))) (ai (ai ty_tZero_188 ty_nCells_188) (ai ty_tFlat_188 (ai ty_isBoolT_188 ty_tShape_190)))) (ai (ai (ai ty_tZero_190 ty_tInt_190) (ai ty_nCells_190 (ai ty_tFlat_190 ty_isBoolT_190))) (ai (ai ty_tShape_198 (ai ty_tZero_198 ty_tInt_198)) (ai ty_nCells_198 (ai ty_tFlat_198 ty_isBoolT_198))))))))))
theorem TZ : type_of% TZ0.down := TZ0.down
theorem EZ : type_of% (And.intro @EX @TZ) := And.intro @EX @TZ
section
variable {w0 : Bas} {N nx nx' : Nat} {F F' : LF} {M M' : LM} {a : Act} {w : World} {l : List Oper} {Q : Exit → Act → World → Prop} {id : Nat} {x y : Code} {T : List T3}
theorem qs (nx' : Nat) (Z : List (Fact Tryz.prog)) (ks : List Nat) (ms : List Nm) (h : SL w0 N nx F M a w) (hQ : ∀ a w,SL w0 N nx' F' M' a w → y.wp Tryz.prog Q a w) (hg : l.map (gof l) = l.map fun _ => none := by rfl) (hx : nx + l.length = nx' := by rfl) (e : okeep ks ms (arun0 Tryz.prog Z N l nx F M) = some (F',M') := by simp (maxSteps := 10000000) only [EZ,simprocAttr, *] <;> rfl) : (Code.seq (.region id l.toArray false) y).wp Tryz.prog Q a w := ns_plain nx' Z ks ms h hg hx e hQ
theorem qsg (nx' : Nat) (Z : List (Fact Tryz.prog)) (gs : List Gd) (ks : List Nat) (ms : List Nm) (h : SL w0 N nx F M a w) (hQ : ∀ a w,SL w0 N nx' F' M' a w → y.wp Tryz.prog Q a w) (hg : l.map (gof l) = gs := by rfl) (hx : nx + l.length = nx' := by rfl) (e : okeep ks ms (arun Tryz.prog Z N gs l nx F M) = some (F',M') := by simp (maxSteps := 10000000) only [EZ,simprocAttr, *] <;> rfl) : (Code.seq (.region id l.toArray false) y).wp Tryz.prog Q a w := rs_plain nx' Z gs ks ms h hg hx e hQ
theorem qe (Z : List (Fact Tryz.prog)) (ks : List Nat) (ms : List Nm) (h : SL w0 N nx F M a w) (hQ : ∀ a w,SL w0 N (nx + l.length) F' M' a w → Q .normal a w) (hg : l.map (gof l) = l.map fun _ => none := by rfl) (e : okeep ks ms (arun0 Tryz.prog Z N l nx F M) = some (F',M') := by simp (maxSteps := 10000000) only [EZ,simprocAttr, *] <;> rfl) : (Code.region id l.toArray false).wp Tryz.prog Q a w := n_plain Z ks ms h hg e hQ
theorem qeg (Z : List (Fact Tryz.prog)) (gs : List Gd) (ks : List Nat) (ms : List Nm) (h : SL w0 N nx F M a w) (hQ : ∀ a w,SL w0 N (nx + l.length) F' M' a w → Q .normal a w) (hg : l.map (gof l) = gs := by rfl) (e : okeep ks ms (arun Tryz.prog Z N gs l nx F M) = some (F',M') := by simp (maxSteps := 10000000) only [EZ,simprocAttr, *] <;> rfl) : (Code.region id l.toArray false).wp Tryz.prog Q a w := r_plain Z gs ks ms h hg e hQ
theorem ds (nx' : Nat) (Z : List (Fact Tryz.prog)) (ks : List Nat) (ms : List Nm) (h : SL w0 N nx F M a w) (hQ : ∀ a w,SL w0 N nx' F' M' a w → y.wp Tryz.prog Q a w) (hg : l.map (gof l) = l.map fun _ => none := by rfl) (hx : nx + l.length = nx' := by rfl) (e : dkeep ks ms (drun0 Tryz.prog Z N l nx F M []) = some (F',M',T) := by simp (maxSteps := 10000000) only [EZ,simprocAttr, *] <;> rfl) (hc : chk l nx T.reverse = true := by kernel_rfl) : (Code.seq (.region id l.toArray true) y).wp Tryz.prog Q a w := ns_drawn nx' ty_hm Z ks ms h hg hx e hc hQ
theorem dsg (nx' : Nat) (Z : List (Fact Tryz.prog)) (gs : List Gd) (ks : List Nat) (ms : List Nm) (h : SL w0 N nx F M a w) (hQ : ∀ a w,SL w0 N nx' F' M' a w → y.wp Tryz.prog Q a w) (hg : l.map (gof l) = gs := by rfl) (hx : nx + l.length = nx' := by rfl) (e : dkeep ks ms (drun Tryz.prog Z N gs l nx F M []) = some (F',M',T) := by simp (maxSteps := 10000000) only [EZ,simprocAttr, *] <;> rfl) (hc : chk l nx T.reverse = true := by kernel_rfl) : (Code.seq (.region id l.toArray true) y).wp Tryz.prog Q a w := rs_drawn nx' ty_hm Z gs ks ms h hg hx e hc hQ
theorem de (Z : List (Fact Tryz.prog)) (ks : List Nat) (ms : List Nm) (h : SL w0 N nx F M a w) (hQ : ∀ a w,SL w0 N (nx + l.length) F' M' a w → Q .normal a w) (hg : l.map (gof l) = l.map fun _ => none := by rfl) (e : dkeep ks ms (drun0 Tryz.prog Z N l nx F M []) = some (F',M',T) := by simp (maxSteps := 10000000) only [EZ,simprocAttr, *] <;> rfl) (hc : chk l nx T.reverse = true := by kernel_rfl) : (Code.region id l.toArray true).wp Tryz.prog Q a w := n_drawn ty_hm Z ks ms h hg e hc hQ
theorem deg (Z : List (Fact Tryz.prog)) (gs : List Gd) (ks : List Nat) (ms : List Nm) (h : SL w0 N nx F M a w) (hQ : ∀ a w,SL w0 N (nx + l.length) F' M' a w → Q .normal a w) (hg : l.map (gof l) = gs := by rfl) (e : dkeep ks ms (drun Tryz.prog Z N gs l nx F M []) = some (F',M',T) := by simp (maxSteps := 10000000) only [EZ,simprocAttr, *] <;> rfl) (hc : chk l nx T.reverse = true := by kernel_rfl) : (Code.region id l.toArray true).wp Tryz.prog Q a w := r_drawn ty_hm Z gs ks ms h hg e hc hQ
theorem kT {c : Operand} (h : SL w0 N nx F M a w) (ht : x.wp Tryz.prog Q a w) (e : aeval N (fget F) c = .one (.d (.bool true)) := by first | rfl | (simp (maxSteps := 10000000) only [EZ,simprocAttr, *] <;> rfl)) : (Code.cond c x y).wp Tryz.prog Q a w := n_condT h e ht
theorem kF {c : Operand} (h : SL w0 N nx F M a w) (hf : y.wp Tryz.prog Q a w) (e : aeval N (fget F) c = .one (.d (.bool false)) := by first | rfl | (simp (maxSteps := 10000000) only [EZ,simprocAttr, *] <;> rfl)) : (Code.cond c x y).wp Tryz.prog Q a w := n_condF h e hf
theorem SL.sm (h : SL w0 N nx F M a w) (nx' : Nat) (F' : LF) (M' : LM) (e : fkeep F (F'.map (·.1)) = F' ∧ mkeep M (M'.map (·.1)) = M' ∧ okN nx' F' M' = true := by simp only [EZ,simprocAttr,dat_open, *] <;> rfl) : SL w0 N nx' F' M' a w := h.toS e
theorem SL.z (h : SL w0 N nx F M a w) (e : fkeep F (F'.map (·.1)) = F' ∧ mkeep M (M'.map (·.1)) = M' ∧ okN nx' F' M' = true := by simp (maxSteps := 10000000) only [EZ,simprocAttr, *] <;> rfl) : SL w0 N nx' F' M' a w := h.toS e
theorem SL.sw (h : SL w0 N nx F M a w) (x y : Nm) (nx' : Nat) (hx : x.1 ≠ 0 := by decide) (hy : y.1 ≠ 0 := by decide) (eF : fren (swp x y) F = F' := by simp only [EZ,simprocAttr,e_ren3,fren,mren,AV.ren,AObj.ren,Cell.ren,sumRen,Upd.ren,swp,csw,dat_ren,opn_ren, *] <;> rfl) (eM : mren (swp x y) M = M' := by simp only [EZ,simprocAttr,e_ren3,fren,mren,AV.ren,AObj.ren,Cell.ren,sumRen,Upd.ren,swp,csw,dat_ren,opn_ren, *] <;> rfl) (e : okN nx' F' M' = true := by simp (maxSteps := 10000000) only [EZ,simprocAttr, *] <;> rfl) : SL w0 N nx' F' M' a w := SL.swap h x y nx' hx hy eF eM e
theorem SL.fz (h : SL w0 N nx F M a w) (ks : List Nm) (eF : ffrz ks (mget M) F = F' := by simp only [EZ,simprocAttr,ffrz,mfrz,gcell,AV.mapC,boxMap,sumMap,List.any_cons,List.any_nil,Bool.or_false,Bool.or_true,Bool.true_or,Bool.false_or, *] <;> rfl) (eM : mfrz ks (mget M) M = M' := by simp only [EZ,simprocAttr,ffrz,mfrz,gcell,AV.mapC,boxMap,sumMap,List.any_cons,List.any_nil,Bool.or_false,Bool.or_true,Bool.true_or,Bool.false_or, *] <;> rfl) (e : okN nx F' M' = true := by simp only [EZ,simprocAttr,ffrz,mfrz,gcell,AV.mapC,boxMap,sumMap,List.any_cons,List.any_nil,Bool.or_false,Bool.or_true,Bool.true_or,Bool.false_or, *] <;> rfl) : SL w0 N nx F' M' a w := SL.freeze h ks eF eM e
theorem SL.op {e sz e' sz' : Nat} {cols : Nat → TD} {l : List (List Cell)} {r : List Cell} {L : List (List C)} (h : SL w0 N nx F M a w) (id : Nm) (i j : Nat) (hm : mget M id = some (.row e sz l) := by simp (maxSteps := 10000000) only [EZ,simprocAttr, *] <;> rfl) (hi : l[i]? = some r := by simp (maxSteps := 10000000) only [EZ,simprocAttr, *] <;> rfl) (hj : r[j]? = some (.tr (.sl e' sz' cols) (.sl L)) := by simp (maxSteps := 10000000) only [EZ,simprocAttr, *] <;> rfl) : SL w0 N (nx + 1) F (((nx,0),some (.row e' sz' (openRows cols L))) :: (id,some (.row e sz (l.set i (r.set j (.own (nx,0) L.length))))) :: M) a w := h.open_ id i j hm hi hj
theorem SL.f0 {e sz e' sz' n : Nat} {cols : Nat → TD} {l l' : List (List Cell)} {r : List Cell} {L : List (List C)} (h : SL w0 N nx F M a w) (id ch : Nm) (i j : Nat) (hsc : scRows cols L) (hm : mget M id = some (.row e sz l) := by simp (maxSteps := 10000000) only [EZ,simprocAttr, *] <;> rfl) (hi : l[i]? = some r := by rfl) (hj : r[j]? = some (.own ch n) := by rfl) (hc : mget M ch = some (.row e' sz' l') := by simp (maxSteps := 10000000) only [EZ,simprocAttr, *] <;> rfl) (hl : l' = openRows cols L := by simp only [EZ,simprocAttr,dat_open, *] <;> rfl) (hn : L.length = n := by simp (maxSteps := 10000000) only [EZ,simprocAttr, *] <;> rfl) (hne : ch ≠ id := by decide) : SL w0 N nx F ((id,some (.row e sz (l.set i (r.set j (.tr (.sl e' sz' cols) (.sl L)))))) :: (ch,none) :: M) a w := h.fold_ id ch i j hm hi hj hc hl hn hne hsc
theorem SL.fL {e sz e' sz' n : Nat} {cols : Nat → TD} {l' : List (List Cell)} (h : SL w0 N nx F M a w) (id ch : Nm) (l : List (List Cell)) (r : List Cell) (j : Nat) (L : List (List C)) (hsc : scRows cols L) (hm : mget M id = some (.row e sz (l ++ [r])) := by simp (maxSteps := 10000000) only [EZ,simprocAttr, *] <;> rfl) (hj : r[j]? = some (.own ch n) := by rfl) (hc : mget M ch = some (.row e' sz' l') := by simp (maxSteps := 10000000) only [EZ,simprocAttr, *] <;> rfl) (hl : l' = openRows cols L := by simp only [EZ,simprocAttr,dat_open, *] <;> rfl) (hn : L.length = n := by simp (maxSteps := 10000000) only [EZ,simprocAttr, *] <;> rfl) (hne : ch ≠ id := by decide) : SL w0 N nx F ((id,some (.row e sz (l ++ [r.set j (.tr (.sl e' sz' cols) (.sl L))]))) :: (ch,none) :: M) a w := h.foldL id ch l r j L hm hj hc hl hn hne hsc
theorem SL.fS {e sz e' sz' n : Nat} {cols : Nat → TD} {l' : List (List Cell)} (h : SL w0 N nx F M a w) (id ch : Nm) (l : List (List Cell)) (i : Nat) (r : List Cell) (j : Nat) (L : List (List C)) (hsc : scRows cols L) (hm : mget M id = some (.row e sz (l.set i r)) := by simp (maxSteps := 10000000) only [EZ,simprocAttr, *] <;> rfl) (hi : i < l.length := by simp only [EZ,simprocAttr, *]) (hj : r[j]? = some (.own ch n) := by rfl) (hc : mget M ch = some (.row e' sz' l') := by simp (maxSteps := 10000000) only [EZ,simprocAttr, *] <;> rfl) (hl : l' = openRows cols L := by simp only [EZ,simprocAttr,dat_open, *] <;> rfl) (hn : L.length = n := by simp (maxSteps := 10000000) only [EZ,simprocAttr, *] <;> rfl) (hne : ch ≠ id := by decide) : SL w0 N nx F ((id,some (.row e sz (l.set i (r.set j (.tr (.sl e' sz' cols) (.sl L)))))) :: (ch,none) :: M) a w := h.foldS id ch l i r j L hm hi hj hc hl hn hne hsc
theorem CallH.z {g : FuncId} {args args' : List AV} {ans ans' : AV} {M0 M0' M1 M1' : LM} (h : CallH Tryz.prog g args M0 ans M1) (e1 : args = args' := by (try simp only [EZ,simprocAttr,e_ren3,fren,mren,AV.ren,AObj.ren,Cell.ren,sumRen,Upd.ren,swp,csw,dat_ren,opn_ren]) <;> rfl) (e2 : M0 = M0' := by (try simp only [EZ,simprocAttr,e_ren3,fren,mren,AV.ren,AObj.ren,Cell.ren,sumRen,Upd.ren,swp,csw,dat_ren,opn_ren]) <;> rfl) (e3 : ans = ans' := by (try simp only [EZ,simprocAttr,e_ren3,fren,mren,AV.ren,AObj.ren,Cell.ren,sumRen,Upd.ren,swp,csw,dat_ren,opn_ren]) <;> rfl) (e4 : M1 = M1' := by (try simp only [EZ,simprocAttr,e_ren3,fren,mren,AV.ren,AObj.ren,Cell.ren,sumRen,Upd.ren,swp,csw,dat_ren,opn_ren]) <;> rfl) : CallH Tryz.prog g args' M0' ans' M1' := h.as ⟨e1,e2,e3,e4⟩
theorem CallH.fr {g : FuncId} {args : List AV} {ans ans' : AV} {M1 : LM} (h : CallH Tryz.prog g args [] ans M1) (h0 : (M1.all fun p => Nat.blt 0 p.1.1) = true := by simp only [EZ,simprocAttr] <;> rfl) (hf : frzA (mget M1) ans = some ans' := by simp only [frzA,frzSum,EZ,simprocAttr] <;> rfl) (hs : ans'.ids = [] := by rfl) : CallH Tryz.prog g args [] ans' [] := h.frz h0 hf hs
theorem rc {g : FuncId} {fn : Func} {c : Code} {args : List AV} {ans : AV} {M0 M1 : LM} {N : Nat} (hf : Tryz.prog.funcs[g]? = some fn) (hb : fn.body = some c) (hn : fn.ntmps = N) (h : ∀ (S Φ : Nat → Prop) (P0 : Place) (w : World) (a : Act),SL ⟨w,S,Φ,P0⟩ N 1 (argF 0 args) M0 a w → c.wp Tryz.prog (bodyPost Tryz.prog fn (HPost S Φ (fun id => id.1 = 0) P0 w ans (mget M1))) a w) (hB : hasBody Tryz.prog g = true := by kernel_rfl) (hz : zeroB args M0 = true := by rfl) (hs : shutB ans M1 = true := by first | rfl | (simp only [shutB,EZ,simprocAttr] <;> rfl)) (hN : args.length ≤ N := by simp) : CallH Tryz.prog g args M0 ans M1 := r_call hf hb hn hB hz hs hN h
theorem rE {fn : Func} {S Φ : Nat → Prop} {P0 : Place} {wb : World} {ans : AV} (h : SL ⟨wb,S,Φ,P0⟩ N nx F M a w) (rs : List ResultVar) (hr : fn.results.toList = rs := by rfl) (e : retD Tryz.prog N F M rs = some ans := by simp only [retD,retO,List.mapM_cons,List.mapM_nil,Option.bind_eq_bind,Option.pure_def,EZ,simprocAttr, *] <;> rfl) : bodyPost Tryz.prog fn (HPost S Φ (fun id => id.1 = 0) P0 wb ans (mget [])) .ret a w := r_retE rfl h rs hr e
theorem rO {fn : Func} {S Φ : Nat → Prop} {P0 : Place} {wb : World} {ans : AV} {M1 : LM} (h : SL ⟨wb,S,Φ,P0⟩ N nx F M a w) (rs : List ResultVar) (ks : List Nm) (hr : fn.results.toList = rs := by rfl) (e : retO Tryz.prog N F M rs = some ans ∧ mkeep M ks = M1 := by simp only [retD,retO,List.mapM_cons,List.mapM_nil,Option.bind_eq_bind,Option.pure_def,EZ,simprocAttr, *] <;> rfl) : bodyPost Tryz.prog fn (HPost S Φ (fun id => id.1 = 0) P0 wb ans (mget M1)) .ret a w := r_retO rfl h rs hr ks e
end
end Go.Proofs.YtabbejabdkkaiaaGreat
