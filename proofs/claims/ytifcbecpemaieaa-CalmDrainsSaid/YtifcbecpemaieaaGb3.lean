/- Functions as typed ones,and that the program's functions answer as these do. No condition. -/
import Derived.BigRegionIn
import Derived.LoopIn
import Derived.LoopNIn
import Derived.OwnWalkIn
import Derived.RangeFuncBound
import Derived.RangeFuncCalls
import Derived.RangeFuncLeaves
import Derived.RangeFuncNested
import Derived.Shelf.Abstract
import Derived.TacticsInMore
import Derived.WalkKit
import Derived.Test.YtifcbecpemaieaaGd
set_option linter.unusedSimpArgs false
set_option linter.unusedVariables false
set_option maxRecDepth 20000
set_option maxHeartbeats 4000000
namespace Go.Proofs.Ytifcbecpemaieaa
open Go.RowKit

theorem L_graph_Full_own {a0 : Int} {r : TGraph} (hD : L_graph_Full a0 = some r) :
  CallH Try.prog 88 [.one (.d (.int .i64 a0))] []
   (.agg [.d (.int .i64 r.N),.own (1,0) r.Links.length]) [((1,0),some (.row 97 2 (dat (List.map eA2I r.Links))))] := by
 unfold L_graph_Full at hD
 refine rc Try.func88 rfl Try.ntmps88 fun S Φ P0 wb ac h => ?_
 refine qs 2 [] [0,2] [(1,0)] h fun ac wd h => ?_
 refine qs 8 [] [2,3] [(1,0),(6,0)] h fun ac wd h => ?_
 refine wp_seq ?_
 refine qs 11 [] [2,3,11,12] [(1,0),(6,0)] h fun ac wd h => ?_
 refine wp_block ?_
 have h := SL.bornB h (6,0) 1 97 2 (by simp only [EZ,simprocAttr, *] <;> rfl) (by simp only [EZ,simprocAttr, *] <;> rfl)
 refine r_while (fun nf ac wd => ∃ (n771 : Int) (l772 : List A2I),L_graph_Full_l1 a0 nf n771 l772 = some r ∧ SL ⟨wb,S,Φ,P0⟩ 34 105 [(2,.one (.ptr (1,0) 0)),(3,.one (.ptr (6,0) 0)),(11,.one (.d (.int .i64 (min (max a0 1) 6)))),(12,.one (.d (.int .i64 n771)))] [((1,0),some (.box 24 [.d (.int .i64 0),.nil])),((6,0),some (.box 24 [.d (.int .i64 (min (max a0 1) 6)),.own (11,0) l772.length])),((11,0),some (.row 97 2 (dat (List.map eA2I l772))))] ac wd) (((min (max a0 1) 6) - 0).toNat + 1) ⟨0,([] : List A2I),hD,h.z⟩ (fun nf ac wd hJ => ?_)
 obtain ⟨n771,l772,hL773,h⟩ := hJ
 cases nf with
 | zero => rw [L_graph_Full_l1] at hL773; cases hL773
 | succ nf =>
  rw [L_graph_Full_l1] at hL773
  refine qs 106 [] [2,3,11,12,13] [(1,0),(6,0),(11,0)] h fun ac wd h => ?_
  refine wp_seq ?_
  rcases i2 hL773 with ⟨hb775,hL773⟩ | ⟨hb775,hL773⟩
  ·
   refine kT h ?_
   refine wp_skip ?_
   change Code.wp Try.prog _ _ _ _
   obtain ⟨e808,hE809,hL773⟩ := Option.bind_eq_some_iff.1 hL773
   refine r_seqJ (fun ac wd => ∃ (l807 : List A2I),l807 = e808 ∧ SL ⟨wb,S,Φ,P0⟩ 34 146 [(2,.one (.ptr (1,0) 0)),(3,.one (.ptr (6,0) 0)),(11,.one (.d (.int .i64 (min (max a0 1) 6)))),(12,.one (.d (.int .i64 n771)))] [((1,0),some (.box 24 [.d (.int .i64 0),.nil])),((6,0),some (.box 24 [.d (.int .i64 (min (max a0 1) 6)),.own (11,0) l807.length])),((11,0),some (.row 97 2 (dat (List.map eA2I l807))))] ac wd) ?_ ?_
   ·
    refine wp_block ?_
    refine qs 108 [] [2,3,4,11,12] [(1,0),(6,0),(11,0)] h fun ac wd h => ?_
    refine qs 111 [] [2,3,4,11,12,16,17] [(1,0),(6,0),(11,0)] h fun ac wd h => ?_
    obtain ⟨e842,hE843,hE809⟩ := Option.bind_eq_some_iff.1 hE809
    refine r_meetQ (fun ac wd => ∃ (l841 : List A2I),l841 = e842 ∧ SL ⟨wb,S,Φ,P0⟩ 34 146 [(2,.one (.ptr (1,0) 0)),(3,.one (.ptr (6,0) 0)),(11,.one (.d (.int .i64 (min (max a0 1) 6)))),(12,.one (.d (.int .i64 n771)))] [((1,0),some (.box 24 [.d (.int .i64 0),.nil])),((6,0),some (.box 24 [.d (.int .i64 (min (max a0 1) 6)),.own (11,0) l841.length])),((11,0),some (.row 97 2 (dat (List.map eA2I l841))))] ac wd) ?_ ?_
    ·
     refine wp_block ?_
     refine r_while (fun nf ac wd => ∃ (n864 : Int) (l865 : List A2I),L_graph_Full_l2 a0 n771 nf n864 l865 = some e842 ∧ SL ⟨wb,S,Φ,P0⟩ 34 145 [(2,.one (.ptr (1,0) 0)),(3,.one (.ptr (6,0) 0)),(4,.one (.d (.int .i64 n771))),(11,.one (.d (.int .i64 (min (max a0 1) 6)))),(12,.one (.d (.int .i64 n771))),(16,.one (.d (.int .i64 (min (max a0 1) 6)))),(17,.one (.d (.int .i64 n864)))] [((1,0),some (.box 24 [.d (.int .i64 0),.nil])),((6,0),some (.box 24 [.d (.int .i64 (min (max a0 1) 6)),.own (11,0) l865.length])),((11,0),some (.row 97 2 (dat (List.map eA2I l865))))] ac wd) (((min (max a0 1) 6) - 0).toNat + 1) ⟨0,l772,hE843,h.z⟩ (fun nf ac wd hJ => ?_)
     obtain ⟨n864,l865,hL866,h⟩ := hJ
     cases nf with
     | zero => rw [L_graph_Full_l2] at hL866; cases hL866
     | succ nf =>
      rw [L_graph_Full_l2] at hL866
      refine qs 146 [] [2,3,4,11,12,16,17,18] [(1,0),(6,0),(11,0)] h fun ac wd h => ?_
      refine wp_seq ?_
      rcases i2 hL866 with ⟨hb868,hL866⟩ | ⟨hb868,hL866⟩
      ·
       refine kT h ?_
       refine wp_skip ?_
       change Code.wp Try.prog _ _ _ _
       obtain ⟨e872,hE873,hL866⟩ := Option.bind_eq_some_iff.1 hL866
       refine r_seqJ (fun ac wd => ∃ (l871 : List A2I),l871 = e872 ∧ SL ⟨wb,S,Φ,P0⟩ 34 160 [(2,.one (.ptr (1,0) 0)),(3,.one (.ptr (6,0) 0)),(4,.one (.d (.int .i64 n771))),(11,.one (.d (.int .i64 (min (max a0 1) 6)))),(12,.one (.d (.int .i64 n771))),(16,.one (.d (.int .i64 (min (max a0 1) 6)))),(17,.one (.d (.int .i64 n864)))] [((1,0),some (.box 24 [.d (.int .i64 0),.nil])),((6,0),some (.box 24 [.d (.int .i64 (min (max a0 1) 6)),.own (11,0) l871.length])),((11,0),some (.row 97 2 (dat (List.map eA2I l871))))] ac wd) ?_ ?_
       ·
        refine wp_block ?_
        refine qs 148 [] [2,3,4,5,11,12,16,17] [(1,0),(6,0),(11,0)] h fun ac wd h => ?_
        refine qs 151 [] [2,3,4,5,11,12,16,17,22] [(1,0),(6,0),(11,0)] h fun ac wd h => ?_
        rcases i2e hE873 with ⟨hb874,hE873⟩ | ⟨hb874,hE873⟩
        ·
         refine kF h ?_
         refine wp_skip ?_
         injection hE873 with hE873; subst hE873
         exact ⟨l865,rfl,h.z⟩
        ·
         refine kT h ?_
         obtain ⟨ha875,hE873⟩ := iT hE873
         refine qe [] [2,3,4,11,12,16,17] [(1,0),(6,0),(157,0)] h fun ac wd h => ?_
         have h := h.sw (11,0) (157,0) 160
         injection hE873 with hE873; subst hE873
         exact ⟨(l865 ++ [(A2I.mk n771 n864)]),rfl,h.z⟩
       ·
        rintro ac wd ⟨l871,rfl,h⟩
        (try dsimp only at hL866)
        refine qe [] [2,3,4,11,12,16,17] [(1,0),(6,0),(11,0)] h fun ac wd h => ?_
        exact ⟨nf,Nat.lt_succ_self nf,(IntKind.wrap .i64 (n864 + 1)),l871,hL866,h.z⟩
      ·
       refine kF h ?_
       refine wp_exit ?_
       injection hL866 with hL866; subst hL866
       exact ⟨l865,rfl,h.z⟩
    ·
     rintro ac wd ⟨l841,rfl,h⟩
     (try dsimp only at hE809)
     injection hE809 with hE809; subst hE809
     exact ⟨l841,rfl,h.z⟩
   ·
    rintro ac wd ⟨l807,rfl,h⟩
    (try dsimp only at hL773)
    refine qe [] [2,3,11,12] [(1,0),(6,0),(11,0)] h fun ac wd h => ?_
    exact ⟨nf,Nat.lt_succ_self nf,(IntKind.wrap .i64 (n771 + 1)),l807,hL773,h.z⟩
  ·
   refine kF h ?_
   refine wp_exit ?_
   change Code.wp Try.prog _ _ _ _
   refine qs 108 [] [2] [(1,0),(11,0)] h fun ac wd h => ?_
   refine wp_ret ?_
   have h := h.sw (1,0) (11,0) 108
   injection hL773 with hL773
   subst hL773
   exact rO h [.cell 2 24] [(1,0)]
theorem L_graph_Full_ok {a0 : Int} {r : TGraph} (hD : L_graph_Full a0 = some r) :
  CallH Try.prog 88 [.one (.d (.int .i64 a0))] []
   (.agg [.d (.int .i64 r.N),.d (.sl (List.map eA2I r.Links))]) [] :=
 (L_graph_Full_own hD).fr

theorem L_law05_Two_own {r : TApp} (hD : L_law05_Two = some r) :
  CallH Try.prog 59 [] []
   (.agg [.d (.int .i64 r.G.N),.own (1,0) r.G.Links.length,.own (1,1) r.T.length,.d (.bool r.Fifo)]) [((1,0),some (.row 97 2 (dat (List.map eA2I r.G.Links)))),((1,1),some (.row 120 2 (openRows cols_120 (List.map eTNode r.T))))] := by
 unfold L_law05_Two at hD
 refine rc Try.func59 rfl Try.ntmps59 fun S Φ P0 wb ac h => ?_
 refine qs 2 [] [0] [(1,0)] h fun ac wd h => ?_
 obtain ⟨r7,hc8,hD⟩ := oB hD
 have hc8_2 := ((L_graph_Full_own hc8).cls 2).z
 refine qs 22 [factO hc8_2] [0] [(1,0),(2,0),(5,0),(7,0),(10,0),(12,0),(14,0),(17,0),(19,0)] h fun ac wd h => ?_
 have h := h.fL (cols := (fun _ => .sc)) (7,0) (5,0) ([]) [.d (.int .i64 1),.own (5,0) (1 + 1)] 1 (List.map eTSend ([(TSend.mk 1 1)] ++ [(TSend.mk 1 2)])) (sc_146 _)
 have h := h.sm 22 [(0,.one (.ptr (1,0) 0))]
  [((1,0),some (.box 27 [.d (.int .i64 r7.N),.own (2,0) r7.Links.length,.own (19,0) (1 + 1),.d (.bool false)])),((2,0),some (.row 97 2 (dat (List.map eA2I r7.Links)))),((7,0),some (.row 149 2 ([[.d (.int .i64 1),.tr (.sl 146 2 (fun _ => .sc)) (.sl (List.map eTSend ([(TSend.mk 1 1)] ++ [(TSend.mk 1 2)])))]]))),((10,0),some (.row 141 4 (([[.d (.int .i64 1),.nil,.own (7,0) 1,.nil]] ++ [[.d (.int .i64 0),.nil,.nil,.nil]])))),((12,0),some (.row 3 1 ([[.d (.int .i64 0)]]))),((14,0),some (.row 151 3 ([[.d (.int .i64 0),.d (.int .i64 1),.d (.int .i64 1)]]))),((17,0),some (.row 141 4 (([[.d (.int .i64 2),.own (12,0) 1,.nil,.own (14,0) 1]] ++ [[.d (.int .i64 0),.nil,.nil,.nil]])))),((19,0),some (.row 120 2 (([[.d (.int .i64 0),.own (10,0) (1 + 1)]] ++ [[.d (.int .i64 0),.own (17,0) (1 + 1)]]))))]
 have h := h.nilTr (10,0) (l := ([[.d (.int .i64 1),.nil,.own (7,0) 1,.nil]] ++ [[.d (.int .i64 0),.nil,.nil,.nil]])) (l' := ([[.d (.int .i64 1),.tr (.sl 3 1 (fun _ => .sc)) (.sl (List.map eI [])),.own (7,0) 1,.tr (.sl 151 3 (fun _ => .sc)) (.sl (List.map eTTake []))]] ++ [[.d (.int .i64 0),.tr (.sl 3 1 (fun _ => .sc)) (.sl (List.map eI [])),.tr (.sl 149 2 cols_149) (.sl (List.map eTPick [])),.tr (.sl 151 3 (fun _ => .sc)) (.sl (List.map eTTake []))]])) (by simp only [EZ,simprocAttr] <;> rfl) (RowsTo.append (RowsTo.cons (RowTo.cons (.inl rfl) (RowTo.cons (.inr (.inr ⟨rfl,_,_,_,rfl⟩)) (RowTo.cons (.inl rfl) (RowTo.cons (.inr (.inr ⟨rfl,_,_,_,rfl⟩)) RowTo.nil)))) (RowsTo.refl [])) (RowsTo.cons (RowTo.cons (.inl rfl) (RowTo.cons (.inr (.inr ⟨rfl,_,_,_,rfl⟩)) (RowTo.cons (.inr (.inr ⟨rfl,_,_,_,rfl⟩)) (RowTo.cons (.inr (.inr ⟨rfl,_,_,_,rfl⟩)) RowTo.nil)))) (RowsTo.refl [])))
 have h := h.sm 22 [(0,.one (.ptr (1,0) 0))]
  [((1,0),some (.box 27 [.d (.int .i64 r7.N),.own (2,0) r7.Links.length,.own (19,0) (1 + 1),.d (.bool false)])),((2,0),some (.row 97 2 (dat (List.map eA2I r7.Links)))),((7,0),some (.row 149 2 (openRows cols_149 (List.map eTPick ([(TPick.mk 1 ([(TSend.mk 1 1)] ++ [(TSend.mk 1 2)]))]))))),((10,0),some (.row 141 4 (([[.d (.int .i64 1),.tr (.sl 3 1 (fun _ => .sc)) (.sl (List.map eI [])),.own (7,0) 1,.tr (.sl 151 3 (fun _ => .sc)) (.sl (List.map eTTake []))]] ++ [[.d (.int .i64 0),.tr (.sl 3 1 (fun _ => .sc)) (.sl (List.map eI [])),.tr (.sl 149 2 cols_149) (.sl (List.map eTPick [])),.tr (.sl 151 3 (fun _ => .sc)) (.sl (List.map eTTake []))]])))),((12,0),some (.row 3 1 ([[.d (.int .i64 0)]]))),((14,0),some (.row 151 3 ([[.d (.int .i64 0),.d (.int .i64 1),.d (.int .i64 1)]]))),((17,0),some (.row 141 4 (([[.d (.int .i64 2),.own (12,0) 1,.nil,.own (14,0) 1]] ++ [[.d (.int .i64 0),.nil,.nil,.nil]])))),((19,0),some (.row 120 2 (([[.d (.int .i64 0),.own (10,0) (1 + 1)]] ++ [[.d (.int .i64 0),.own (17,0) (1 + 1)]]))))]
 have h := h.f0 (cols := cols_149) (l := ([[.d (.int .i64 1),.tr (.sl 3 1 (fun _ => .sc)) (.sl (List.map eI [])),.own (7,0) 1,.tr (.sl 151 3 (fun _ => .sc)) (.sl (List.map eTTake []))]] ++ [[.d (.int .i64 0),.tr (.sl 3 1 (fun _ => .sc)) (.sl (List.map eI [])),.tr (.sl 149 2 cols_149) (.sl (List.map eTPick [])),.tr (.sl 151 3 (fun _ => .sc)) (.sl (List.map eTTake []))]])) (r := [.d (.int .i64 1),.tr (.sl 3 1 (fun _ => .sc)) (.sl (List.map eI [])),.own (7,0) 1,.tr (.sl 151 3 (fun _ => .sc)) (.sl (List.map eTTake []))]) (L := List.map eTPick ([(TPick.mk 1 ([(TSend.mk 1 1)] ++ [(TSend.mk 1 2)]))])) (10,0) (7,0) 0 2 (sc_149 _)
 have h := h.sm 22 [(0,.one (.ptr (1,0) 0))]
  [((1,0),some (.box 27 [.d (.int .i64 r7.N),.own (2,0) r7.Links.length,.own (19,0) (1 + 1),.d (.bool false)])),((2,0),some (.row 97 2 (dat (List.map eA2I r7.Links)))),((10,0),some (.row 141 4 (([[.d (.int .i64 1),.tr (.sl 3 1 (fun _ => .sc)) (.sl (List.map eI [])),.tr (.sl 149 2 cols_149) (.sl (List.map eTPick ([(TPick.mk 1 ([(TSend.mk 1 1)] ++ [(TSend.mk 1 2)]))]))),.tr (.sl 151 3 (fun _ => .sc)) (.sl (List.map eTTake []))]] ++ [[.d (.int .i64 0),.tr (.sl 3 1 (fun _ => .sc)) (.sl (List.map eI [])),.tr (.sl 149 2 cols_149) (.sl (List.map eTPick [])),.tr (.sl 151 3 (fun _ => .sc)) (.sl (List.map eTTake []))]])))),((12,0),some (.row 3 1 ([[.d (.int .i64 0)]]))),((14,0),some (.row 151 3 ([[.d (.int .i64 0),.d (.int .i64 1),.d (.int .i64 1)]]))),((17,0),some (.row 141 4 (([[.d (.int .i64 2),.own (12,0) 1,.nil,.own (14,0) 1]] ++ [[.d (.int .i64 0),.nil,.nil,.nil]])))),((19,0),some (.row 120 2 (([[.d (.int .i64 0),.own (10,0) (1 + 1)]] ++ [[.d (.int .i64 0),.own (17,0) (1 + 1)]]))))]
 have h := h.nilTr (17,0) (l := ([[.d (.int .i64 2),.own (12,0) 1,.nil,.own (14,0) 1]] ++ [[.d (.int .i64 0),.nil,.nil,.nil]])) (l' := ([[.d (.int .i64 2),.own (12,0) 1,.tr (.sl 149 2 cols_149) (.sl (List.map eTPick [])),.own (14,0) 1]] ++ [[.d (.int .i64 0),.tr (.sl 3 1 (fun _ => .sc)) (.sl (List.map eI [])),.tr (.sl 149 2 cols_149) (.sl (List.map eTPick [])),.tr (.sl 151 3 (fun _ => .sc)) (.sl (List.map eTTake []))]])) (by simp only [EZ,simprocAttr] <;> rfl) (RowsTo.append (RowsTo.cons (RowTo.cons (.inl rfl) (RowTo.cons (.inl rfl) (RowTo.cons (.inr (.inr ⟨rfl,_,_,_,rfl⟩)) (RowTo.cons (.inl rfl) RowTo.nil)))) (RowsTo.refl [])) (RowsTo.cons (RowTo.cons (.inl rfl) (RowTo.cons (.inr (.inr ⟨rfl,_,_,_,rfl⟩)) (RowTo.cons (.inr (.inr ⟨rfl,_,_,_,rfl⟩)) (RowTo.cons (.inr (.inr ⟨rfl,_,_,_,rfl⟩)) RowTo.nil)))) (RowsTo.refl [])))
 have h := h.sm 22 [(0,.one (.ptr (1,0) 0))]
  [((1,0),some (.box 27 [.d (.int .i64 r7.N),.own (2,0) r7.Links.length,.own (19,0) (1 + 1),.d (.bool false)])),((2,0),some (.row 97 2 (dat (List.map eA2I r7.Links)))),((10,0),some (.row 141 4 (openRows cols_141 (List.map eTState ([(TState.mk 1 [] ([(TPick.mk 1 ([(TSend.mk 1 1)] ++ [(TSend.mk 1 2)]))]) [])] ++ [(TState.mk 0 [] [] [])]))))),((12,0),some (.row 3 1 (dat (List.map eI [0])))),((14,0),some (.row 151 3 (dat (List.map eTTake [(TTake.mk 0 1 1)])))),((17,0),some (.row 141 4 (([[.d (.int .i64 2),.own (12,0) 1,.tr (.sl 149 2 cols_149) (.sl (List.map eTPick [])),.own (14,0) 1]] ++ [[.d (.int .i64 0),.tr (.sl 3 1 (fun _ => .sc)) (.sl (List.map eI [])),.tr (.sl 149 2 cols_149) (.sl (List.map eTPick [])),.tr (.sl 151 3 (fun _ => .sc)) (.sl (List.map eTTake []))]])))),((19,0),some (.row 120 2 (([[.d (.int .i64 0),.own (10,0) (1 + 1)]] ++ [[.d (.int .i64 0),.own (17,0) (1 + 1)]]))))]
 have h := h.f0 (cols := (fun _ => .sc)) (l := ([[.d (.int .i64 2),.own (12,0) 1,.tr (.sl 149 2 cols_149) (.sl (List.map eTPick [])),.own (14,0) 1]] ++ [[.d (.int .i64 0),.tr (.sl 3 1 (fun _ => .sc)) (.sl (List.map eI [])),.tr (.sl 149 2 cols_149) (.sl (List.map eTPick [])),.tr (.sl 151 3 (fun _ => .sc)) (.sl (List.map eTTake []))]])) (r := [.d (.int .i64 2),.own (12,0) 1,.tr (.sl 149 2 cols_149) (.sl (List.map eTPick [])),.own (14,0) 1]) (L := List.map eI [0]) (17,0) (12,0) 0 1 (sc_3 _)
 have h := h.sm 22 [(0,.one (.ptr (1,0) 0))]
  [((1,0),some (.box 27 [.d (.int .i64 r7.N),.own (2,0) r7.Links.length,.own (19,0) (1 + 1),.d (.bool false)])),((2,0),some (.row 97 2 (dat (List.map eA2I r7.Links)))),((10,0),some (.row 141 4 (openRows cols_141 (List.map eTState ([(TState.mk 1 [] ([(TPick.mk 1 ([(TSend.mk 1 1)] ++ [(TSend.mk 1 2)]))]) [])] ++ [(TState.mk 0 [] [] [])]))))),((14,0),some (.row 151 3 (dat (List.map eTTake [(TTake.mk 0 1 1)])))),((17,0),some (.row 141 4 (([[.d (.int .i64 2),.tr (.sl 3 1 (fun _ => .sc)) (.sl (List.map eI [0])),.tr (.sl 149 2 cols_149) (.sl (List.map eTPick [])),.own (14,0) 1]] ++ [[.d (.int .i64 0),.tr (.sl 3 1 (fun _ => .sc)) (.sl (List.map eI [])),.tr (.sl 149 2 cols_149) (.sl (List.map eTPick [])),.tr (.sl 151 3 (fun _ => .sc)) (.sl (List.map eTTake []))]])))),((19,0),some (.row 120 2 (([[.d (.int .i64 0),.own (10,0) (1 + 1)]] ++ [[.d (.int .i64 0),.own (17,0) (1 + 1)]]))))]
 have h := h.f0 (cols := (fun _ => .sc)) (l := ([[.d (.int .i64 2),.tr (.sl 3 1 (fun _ => .sc)) (.sl (List.map eI [0])),.tr (.sl 149 2 cols_149) (.sl (List.map eTPick [])),.own (14,0) 1]] ++ [[.d (.int .i64 0),.tr (.sl 3 1 (fun _ => .sc)) (.sl (List.map eI [])),.tr (.sl 149 2 cols_149) (.sl (List.map eTPick [])),.tr (.sl 151 3 (fun _ => .sc)) (.sl (List.map eTTake []))]])) (r := [.d (.int .i64 2),.tr (.sl 3 1 (fun _ => .sc)) (.sl (List.map eI [0])),.tr (.sl 149 2 cols_149) (.sl (List.map eTPick [])),.own (14,0) 1]) (L := List.map eTTake [(TTake.mk 0 1 1)]) (17,0) (14,0) 0 3 (sc_151 _)
 have h := h.sm 22 [(0,.one (.ptr (1,0) 0))]
  [((1,0),some (.box 27 [.d (.int .i64 r7.N),.own (2,0) r7.Links.length,.own (19,0) (1 + 1),.d (.bool false)])),((2,0),some (.row 97 2 (dat (List.map eA2I r7.Links)))),((10,0),some (.row 141 4 (openRows cols_141 (List.map eTState ([(TState.mk 1 [] ([(TPick.mk 1 ([(TSend.mk 1 1)] ++ [(TSend.mk 1 2)]))]) [])] ++ [(TState.mk 0 [] [] [])]))))),((17,0),some (.row 141 4 (([[.d (.int .i64 2),.tr (.sl 3 1 (fun _ => .sc)) (.sl (List.map eI [0])),.tr (.sl 149 2 cols_149) (.sl (List.map eTPick [])),.tr (.sl 151 3 (fun _ => .sc)) (.sl (List.map eTTake [(TTake.mk 0 1 1)]))]] ++ [[.d (.int .i64 0),.tr (.sl 3 1 (fun _ => .sc)) (.sl (List.map eI [])),.tr (.sl 149 2 cols_149) (.sl (List.map eTPick [])),.tr (.sl 151 3 (fun _ => .sc)) (.sl (List.map eTTake []))]])))),((19,0),some (.row 120 2 (([[.d (.int .i64 0),.own (10,0) (1 + 1)]] ++ [[.d (.int .i64 0),.own (17,0) (1 + 1)]]))))]
 have h := h.fL (cols := cols_141) (19,0) (17,0) ([[.d (.int .i64 0),.own (10,0) (1 + 1)]]) [.d (.int .i64 0),.own (17,0) (1 + 1)] 1 (List.map eTState ([(TState.mk 2 [0] [] [(TTake.mk 0 1 1)])] ++ [(TState.mk 0 [] [] [])])) (sc_141 _)
 have h := h.sm 22 [(0,.one (.ptr (1,0) 0))]
  [((1,0),some (.box 27 [.d (.int .i64 r7.N),.own (2,0) r7.Links.length,.own (19,0) (1 + 1),.d (.bool false)])),((2,0),some (.row 97 2 (dat (List.map eA2I r7.Links)))),((10,0),some (.row 141 4 (openRows cols_141 (List.map eTState ([(TState.mk 1 [] ([(TPick.mk 1 ([(TSend.mk 1 1)] ++ [(TSend.mk 1 2)]))]) [])] ++ [(TState.mk 0 [] [] [])]))))),((19,0),some (.row 120 2 (([[.d (.int .i64 0),.own (10,0) (1 + 1)]] ++ [[.d (.int .i64 0),.tr (.sl 141 4 cols_141) (.sl (List.map eTState ([(TState.mk 2 [0] [] [(TTake.mk 0 1 1)])] ++ [(TState.mk 0 [] [] [])])))]]))))]
 have h := h.f0 (cols := cols_141) (l := ([[.d (.int .i64 0),.own (10,0) (1 + 1)]] ++ [[.d (.int .i64 0),.tr (.sl 141 4 cols_141) (.sl (List.map eTState ([(TState.mk 2 [0] [] [(TTake.mk 0 1 1)])] ++ [(TState.mk 0 [] [] [])])))]])) (r := [.d (.int .i64 0),.own (10,0) (1 + 1)]) (L := List.map eTState ([(TState.mk 1 [] ([(TPick.mk 1 ([(TSend.mk 1 1)] ++ [(TSend.mk 1 2)]))]) [])] ++ [(TState.mk 0 [] [] [])])) (19,0) (10,0) 0 1 (sc_141 _)
 have h := h.sm 22 [(0,.one (.ptr (1,0) 0))]
  [((1,0),some (.box 27 [.d (.int .i64 r7.N),.own (2,0) r7.Links.length,.own (19,0) (1 + 1),.d (.bool false)])),((2,0),some (.row 97 2 (dat (List.map eA2I r7.Links)))),((19,0),some (.row 120 2 (([[.d (.int .i64 0),.tr (.sl 141 4 cols_141) (.sl (List.map eTState ([(TState.mk 1 [] ([(TPick.mk 1 ([(TSend.mk 1 1)] ++ [(TSend.mk 1 2)]))]) [])] ++ [(TState.mk 0 [] [] [])])))]] ++ [[.d (.int .i64 0),.tr (.sl 141 4 cols_141) (.sl (List.map eTState ([(TState.mk 2 [0] [] [(TTake.mk 0 1 1)])] ++ [(TState.mk 0 [] [] [])])))]]))))]
 refine wp_ret ?_
 have h := h.sw (1,0) (2,0) 22
 have h := h.sw (1,1) (19,0) 22
 injection hD with hD
 subst hD
 exact rO h [.cell 0 27] [(1,0),(1,1)]
theorem L_law05_Two_ok {r : TApp} (hD : L_law05_Two = some r) :
  CallH Try.prog 59 [] []
   (.agg [.d (.int .i64 r.G.N),.d (.sl (List.map eA2I r.G.Links)),.d (.sl (List.map eTNode r.T)),.d (.bool r.Fifo)]) [] :=
 (L_law05_Two_own hD).fr

theorem L_table_at_ok {a0 : (List TNode)} {a1 : Int} {a2 : Int} {r : TState × Bool} (hD : L_table_at a0 a1 a2 = some r) :
  CallH Try.prog 112 [.one (.d (.sl (List.map eTNode a0))),.one (.d (.int .i64 a1)),.one (.d (.int .i64 a2))] []
   (.tup [.inl [.d (.int .i64 r.1.Mode),.d (.sl (List.map eI r.1.Waits)),.d (.sl (List.map eTPick r.1.Picks)),.d (.sl (List.map eTTake r.1.Takes))],.inr (.d (.bool r.2))]) [] := by
 unfold L_table_at at hD
 refine rc Try.func112 rfl Try.ntmps112 fun S Φ P0 wb ac h => ?_
 refine qs 3 [] [0,1,2,6] [(1,0)] h fun ac wd h => ?_
 refine wp_seq ?_
 obtain ⟨e30,hE31,hD⟩ := Option.bind_eq_some_iff.1 hD
 refine r_seqJ (fun ac wd => ∃ (b29 : Bool),b29 = e30 ∧ SL ⟨wb,S,Φ,P0⟩ 39 25 [(0,.one (.d (.sl (List.map eTNode a0)))),(1,.one (.d (.int .i64 a1))),(2,.one (.d (.int .i64 a2))),(6,.one (.ptr (1,0) 0)),(29,.one (.d (.bool b29)))] [((1,0),some (.box 141 [.d (.int .i64 0),.nil,.nil,.nil]))] ac wd) ?_ ?_
 ·
  rcases i2 hE31 with ⟨hb32,hE31⟩ | ⟨hb32,hE31⟩
  ·
   refine qeg [] [none,none,none,some (some 10,false),some (some 10,false),some (some 10,false),some (some 10,false),none,none,some (some 16,false),some (some 16,false),none,none,some (some 20,false),some (some 20,false),some (some 20,false),some (some 20,false),some (some 20,false),some (some 20,false),some (some 20,false),some (some 20,false),none] [0,1,2,6,29] [(1,0)] h fun ac wd h => ?_
   injection hE31 with hE31; subst hE31
   exact ⟨true,rfl,h.z⟩
  ·
   rcases i2 hE31 with ⟨hb33,hE31⟩ | ⟨hb33,hE31⟩
   ·
    refine qeg [] [none,none,none,some (some 10,false),some (some 10,false),some (some 10,false),some (some 10,false),none,none,some (some 16,false),some (some 16,false),none,none,some (some 20,false),some (some 20,false),some (some 20,false),some (some 20,false),some (some 20,false),some (some 20,false),some (some 20,false),some (some 20,false),none] [0,1,2,6,29] [(1,0)] h fun ac wd h => ?_
    injection hE31 with hE31; subst hE31
    exact ⟨true,rfl,h.z⟩
   ·
    rcases i2 hE31 with ⟨hb34,hE31⟩ | ⟨hb34,hE31⟩
    ·
     refine qeg [] [none,none,none,some (some 10,false),some (some 10,false),some (some 10,false),some (some 10,false),none,none,some (some 16,false),some (some 16,false),none,none,some (some 20,false),some (some 20,false),some (some 20,false),some (some 20,false),some (some 20,false),some (some 20,false),some (some 20,false),some (some 20,false),none] [0,1,2,6,29] [(1,0)] h fun ac wd h => ?_
     injection hE31 with hE31; subst hE31
     exact ⟨true,rfl,h.z⟩
    ·
     obtain ⟨x35,hx36a,hx36b,hx36c,hx36d,hE31⟩ := aB hE31
     refine qeg [] [none,none,none,some (some 10,false),some (some 10,false),some (some 10,false),some (some 10,false),none,none,some (some 16,false),some (some 16,false),none,none,some (some 20,false),some (some 20,false),some (some 20,false),some (some 20,false),some (some 20,false),some (some 20,false),some (some 20,false),some (some 20,false),none] [0,1,2,6,29] [(1,0)] h fun ac wd h => ?_
     injection hE31 with hE31; subst hE31
     exact ⟨decide (a2 ≥ (x35.States.length : Int)),rfl,h.z⟩
 ·
  rintro ac wd ⟨b29,rfl,h⟩
  (try dsimp only at hD)
  rcases i2b hD with ⟨hb38,hD⟩ | ⟨hb38,hD⟩
  ·
   refine kT h ?_
   refine qs 28 [] [6,7] [(1,0)] h fun ac wd h => ?_
   refine wp_ret ?_
   injection hD with hD
   subst hD
   exact rE h [.cell 6 141,.tmp 7]
  ·
   refine kF h ?_
   refine wp_skip ?_
   change Code.wp Try.prog _ _ _ _
   obtain ⟨x43,hx44a,hx44b,hx44c,hx44d,hD⟩ := aB hD
   obtain ⟨x45,hx46a,hx46b,hx46c,hx46d,hD⟩ := aB hD
   refine qs 35 [] [6,7] [(1,0)] h fun ac wd h => ?_
   refine wp_ret ?_
   injection hD with hD
   subst hD
   exact rE h [.cell 6 141,.tmp 7]

theorem L_table_Mode_ok {a0 : (List TNode)} {a1 : Int} {a2 : Int} {r : Int} (hD : L_table_Mode a0 a1 a2 = some r) :
  CallH Try.prog 90 [.one (.d (.sl (List.map eTNode a0))),.one (.d (.int .i64 a1)),.one (.d (.int .i64 a2))] []
   (.one (.d (.int .i64 r))) [] := by
 unfold L_table_Mode at hD
 refine rc Try.func90 rfl Try.ntmps90 fun S Φ P0 wb ac h => ?_
 refine qs 2 [] [0,1,2] [] h fun ac wd h => ?_
 obtain ⟨r7,hc8,hD⟩ := oB hD
 have hc8k := L_table_at_ok hc8
 refine qs 12 [factE 5 hc8k] [7] [(9,0)] h fun ac wd h => ?_
 refine qs 15 [] [6] [] h fun ac wd h => ?_
 refine wp_ret ?_
 injection hD with hD
 subst hD
 exact rE h [.tmp 6]

attribute [local go_sem] Oper.semAt_some

theorem calm_modes_in (n : Nat) (va vc : List Value) (w : World) :
  CallsIn Fence.wide n Try.prog 60 #[.agg va.toArray,.agg vc.toArray] w fun e w' => e = .returned (.func (.func 89) #[] #[.pointer (some ⟨w.heap.size + 1,0,none⟩),.pointer (some ⟨w.heap.size,0,none⟩)]) ∧ w' = (w.alloc (.cells va.toArray 27)).alloc (.cells vc.toArray 31) := by
 refine callsIn_of_wp Try.func60 rfl trivial ?_ rfl
 simp only [Try.ntmps60,List.size_toArray,List.length_cons,List.length_nil,Nat.reduceAdd,Nat.reduceSub,Array.replicate_succ,Array.replicate_zero,List.push_toArray,List.append_toArray,List.nil_append,List.cons_append]
 gi_wp2
 go_ret
 exact ⟨rfl,rfl⟩

theorem modes_get {T : List TNode} : ∀ {l : List Int} {r : List (Fin 3)} {k : Nat},L_calm_modes T k l = some r → r.length = l.length ∧ ∀ (j : Nat) (h : j < l.length) (h' : j < r.length),L_table_Mode T ((k + j : Nat) : Int) l[j] = some (mI r[j])
 | [],r,k,h => by
  injection h with h
  subst h
  exact ⟨rfl,fun j h => absurd h (by simp)⟩
 | s :: l,r,k,h => by
  rw [L_calm_modes] at h
  obtain ⟨m,h1,h⟩ := Option.bind_eq_some_iff.1 h
  split at h
  ·
   rename_i hm
   obtain ⟨r',h2,h⟩ := Option.bind_eq_some_iff.1 h
   injection h with h
   subst h
   obtain ⟨e1,e2⟩ := modes_get h2
   refine ⟨by simp [e1],fun j hj hj' => ?_⟩
   cases j with
   | zero =>
    refine h1.trans (congrArg some ?_)
    show m = ((m.toNat : Nat) : Int)
    omega
   | succ j =>
    have := e2 j (by simpa using hj) (by simpa using hj')
    rw [show k + (j + 1) = k + 1 + j by omega]
    exact this
  · cases h
theorem mv_below {w w' : World} (h : Mv (fun _ => False) w w') : Below w.heap.size w w' := ⟨h.os,h.tape,h.output,h.size,fun k hk => h.block k hk (fun e => e)⟩
theorem below_mv {w w' : World} (h : Below w.heap.size w w') (Φ : Nat → Prop) : Mv Φ w w' := ⟨h.os,h.tape,h.output,h.size,fun k hk _ => h.block k hk⟩
theorem below_grown {w w' : World} (h : Below w.heap.size w w') : w.grownBy w' none := ⟨h.os,h.tape,h.output,h.size,fun k hk _ => h.block k hk⟩
/-- All below B lies as it lay,but one block. -/
structure Exc (x B : Nat) (w w' : World) : Prop where
 os : w'.os = w.os
 tape : w'.tape = w.tape
 output : w'.output = w.output
 size : w.heap.size ≤ w'.heap.size
 block : ∀ k,k < B → k ≠ x → w'.heap[k]? = w.heap[k]?
section
variable {x B : Nat} {u v w : World}
theorem Exc.refl (x B : Nat) (w : World) : Exc x B w w := ⟨rfl,rfl,rfl,Nat.le_refl _,fun _ _ _ => rfl⟩
theorem Exc.trans (h : Exc x B u v) (k : Exc x B v w) : Exc x B u w := ⟨k.os.trans h.os,k.tape.trans h.tape,k.output.trans h.output,Nat.le_trans h.size k.size,fun i hi hn => (k.block i hi hn).trans (h.block i hi hn)⟩
theorem Exc.of_below {D : Nat} (h : Below D u v) (hB : B ≤ D) : Exc x B u v := ⟨h.os,h.tape,h.output,h.size,fun k hk _ => h.block k (by omega)⟩
theorem Exc.cell (h : Exc x B u v) {p : Addr} (hp : p.block < B) (hx : p.block ≠ x) : v.cell? p = u.cell? p := World.cell?_of_block (h.block _ hp hx)
theorem Exc.store (B : Nat) (w : World) (o : Nat) (y : Value) : Exc x B w (w.setCell ⟨x,o,none⟩ y) :=
 have h := (Below.refl x w).setCell (p := ⟨x,o,none⟩) (Nat.le_refl _) y
 ⟨h.os,h.tape,h.output,h.size,fun k hk hn => Below.heap_setCell w ⟨x,o,none⟩ y k hn⟩
theorem excK_b {x : Nat} {w : World} (W : World) (l : Nat) (o o' : Obj) (hl : w.heap.size ≤ l) (h : W.heap[l]? = some o) (_ : o.isCells = false) (_ : o.isWalk = false) : Exc x w.heap.size W (W.putObj l o') :=
 have h := (Below.refl w.heap.size W).grown (grownBy_putObj' W l o') (by have := (Array.getElem?_eq_some_iff.1 h).1; omega) (fun k e => by cases e; omega)
 Exc.of_below h (Nat.le_refl _)
end
theorem table_mode_in (n : Nat) {T : List TNode} {k s m : Int} (h : L_table_Mode T k s = some m) {S : Nat → Prop} {w : World} {vT : Value} (hS : ∀ b,S b → b < w.heap.size) (hv : View S w (.sl (List.map eTNode T)) vT) :
  CallsIn Fence.wide n Try.prog 90 #[vT,.int .i64 k,.int .i64 s] w fun e w' => e = .returned (.int .i64 m) ∧ Below w.heap.size w w' := by
 refine callsIn_wide.2 ?_
 have q := (L_table_Mode_ok h).calls S (fun _ => False) (fun _ => none) (fun _ _ => False) w [vT,.int .i64 k,.int .i64 s] (fun b hb => ⟨hS b hb,fun e => e⟩) (fun b hb => hb.elim) rfl
  (fun i x v hx hv' => by
   match i with
   | 0 => simp at hx hv'; subst hx hv'; exact hv
   | 1 => simp at hx hv'; subst hx hv'; exact View.int _ _
   | 2 => simp at hx hv'; subst hx hv'; exact View.int _ _
   | i + 3 => simp at hx) (fun id o ho => by simp [mget] at ho) (fun id o b ho => by simp [mget] at ho) (fun id id' o o' b ho => by simp [mget] at ho)
 refine Calls.mono q ?_
 rintro e w' ⟨v,ρ,φ,rfl,hm,ha,_⟩
 refine ⟨?_,mv_below hm⟩
 cases ha with
 | int => rfl
theorem calm_modes1_in (n : Nat) (hn : 1 ≤ n) (l Bc Ba n₀ x b off len cap : Nat) (zs : List Int) (ms : List (Fin 3)) (T : List TNode) (vT : Value) (hlen : zs.length = len) (hm : L_calm_modes T 0 zs = some ms) (hreach : len * 8 ≤ 140737488351232) (hb : b < n₀ ∧ b ≠ x) (hBa : Ba < n₀ ∧ Ba ≠ x) (J Jx : List (Fin 3) → World → Prop)
  (hJ : ∀ s W W' row,J s W → W.grownBy W' row → row = none → J s W')
  (hY : ∀ pre y W,J pre W → pre.length < len → YieldAt Fence.wide (n - 1) Try.prog l #[.int .i64 (mI y)] W fun e W' =>
   (e = .returned (.bool true) ∧ J (pre ++ [y]) W' ∧ Exc x n₀ W W') ∨ (e = .returned (.bool false) ∧ Jx (pre ++ [y]) W'))
  (W : World) (hW : n₀ ≤ W.heap.size) (hS : W.cell? ⟨Bc,0,none⟩ = some (.slice (some ⟨b,off,none⟩) len cap)) (hc : ∀ j (h : j < zs.length),W.cell? ⟨b,off + j,none⟩ = some (.int .i64 zs[j])) (hT : W.cell? ⟨Ba,2,none⟩ = some vT) (hv : View (fun k => k < n₀ ∧ k ≠ x) W (.sl (List.map eTNode T)) vT) (h0 : J [] W) :
  CallsIn Fence.wide n Try.prog 89 #[.func (.yield l) #[] #[],.pointer (some ⟨Bc,0,none⟩),.pointer (some ⟨Ba,0,none⟩)] W fun e W' => (∃ v,e = .returned v) ∧
   ((∃ ys,ys = ms ∧ J ys W') ∨ (∃ pre,(∃ k,k < len ∧ pre = ms.take (k + 1)) ∧ Jx pre W')) := by
 obtain ⟨hml,hmg⟩ := modes_get hm
 refine callsIn_of_wp Try.func89 rfl trivial ?_ rfl
 simp only [Try.ntmps89,List.size_toArray,List.length_cons,List.length_nil,Nat.reduceAdd,Nat.reduceSub,Array.replicate_succ,Array.replicate_zero,List.push_toArray,List.append_toArray,List.nil_append,List.cons_append]
 gi_wp2
 gi_loopw [9] (fun i wr => ∃ k : Nat,k ≤ len ∧ i = .int .i64 k ∧ J (ms.take k) wr ∧ Exc x n₀ W wr)
  (fun i _ => len - (intOf i).toNat)
 case atStart => exact ⟨0,Nat.zero_le _,rfl,h0,Exc.refl _ _ _⟩
 case round =>
  obtain ⟨k,hk,rfl,hJs,hnx⟩ := hrel
  have hcx : ∀ h : k < zs.length,wr.cell? ⟨b,off + k,none⟩ = some (.int .i64 zs[k]) := fun h => (hnx.cell (p := ⟨b,off + k,none⟩) hb.1 hb.2).trans (hc k h)
  have hTx : wr.cell? ⟨Ba,2,none⟩ = some vT := (hnx.cell (p := ⟨Ba,2,none⟩) hBa.1 hBa.2).trans hT
  have hvx : View (fun k => k < n₀ ∧ k ≠ x) wr (.sl (List.map eTNode T)) vT := hv.keep (fun p hp => hnx.cell hp.1 hp.2) (fun b hb => hb)
  have hsz : n₀ ≤ wr.heap.size := Nat.le_trans hW hnx.size
  by_cases hlt : k < len
  ·
   have hcx' := hcx (by omega)
   have hmk := hmg k (by omega) (by omega)
   rw [Nat.zero_add] at hmk
   have htk : ms.take (k + 1) = ms.take k ++ [ms[k]'(by omega)] := List.take_succ_eq_append_getElem (by omega)
   gi_wp2
   refine ⟨trivial,(table_mode_in _ hmk (fun b hb => by omega) hvx).mono ?_⟩
   rintro e w' ⟨rfl,hbw⟩
   obtain ⟨fn,tmps,assign,body,hy,hR⟩ := hY _ (ms[k]'(by omega)) w' (hJ _ wr w' none hJs (below_grown hbw) rfl) (by rw [List.length_take]; omega)
   gi_wp2
   refine hR.mono ?_
   rintro e W3 (⟨rfl,hJ3,hk3⟩ | ⟨rfl,hJx3⟩)
   ·
    gi_wp2
    go_roundw
    case rel => exact ⟨k + 1,by omega,by simp,by rw [htk]; exact hJ3,hnx.trans ((Exc.of_below hbw hsz).trans hk3)⟩
    case measure => simp [intOf]; omega
   ·
    gi_wp2
    refine bodyPost_ret (results_none rfl _ _ _) rfl ?_
    exact ⟨⟨_,rfl⟩,.inr ⟨_,⟨k,hlt,htk.symm⟩,hJx3⟩⟩
  ·
   obtain rfl : k = len := by omega
   gi_wp2
   go_end0
   refine ⟨⟨_,rfl⟩,.inl ⟨_,rfl,?_⟩⟩
   rwa [List.take_of_length_le (by omega)] at hJs
theorem calm_modes1_nil (n l Bc Ba cap : Nat) (A : Option Addr) (J : World → Prop) (W : World) (hS : W.cell? ⟨Bc,0,none⟩ = some (.slice A 0 cap)) (h0 : J W) :
  CallsIn Fence.wide n Try.prog 89 #[.func (.yield l) #[] #[],.pointer (some ⟨Bc,0,none⟩),.pointer (some ⟨Ba,0,none⟩)] W fun e W' => (∃ v,e = .returned v) ∧ J W' := by
 refine callsIn_of_wp Try.func89 rfl trivial ?_ rfl
 simp only [Try.ntmps89,List.size_toArray,List.length_cons,List.length_nil,Nat.reduceAdd,Nat.reduceSub,Array.replicate_succ,Array.replicate_zero,List.push_toArray,List.append_toArray,List.nil_append,List.cons_append]
 gi_wp2
 gi_loopw [9] (fun i wr => i = .int .i64 0 ∧ J wr) (fun _ _ => 0)
 case atStart => exact ⟨rfl,h0⟩
 case round =>
  obtain ⟨rfl,hJs⟩ := hrel
  gi_wp2
  go_end0
  exact ⟨⟨_,rfl⟩,hJs⟩
/-- A slice value that reads as these numbers. -/
theorem calm_modes_stops (n : Nat) (hn : 1 ≤ n) (Bc Ba n₀ x : Nat) (zs : List Int) (ms : List (Fin 3)) (T : List TNode) (vS vT : Value) (hm : L_calm_modes T 0 zs = some ms) (hreach : zs.length ≤ 1000000) (hBc : Bc < n₀) (hBa : Ba < n₀ ∧ Ba ≠ x) (w : World) (hw : n₀ = w.heap.size)
  (hS : w.cell? ⟨Bc,0,none⟩ = some vS) (hvS : View (fun k => k < n₀ ∧ k ≠ x) w (.sl (List.map (fun z => [.int .i64 z]) zs)) vS) (hT : w.cell? ⟨Ba,2,none⟩ = some vT) (hv : View (fun k => k < n₀ ∧ k ≠ x) w (.sl (List.map eTNode T)) vT) :
  SeqStopsK Fence.wide n Try.prog 89 #[.pointer (some ⟨Bc,0,none⟩),.pointer (some ⟨Ba,0,none⟩)] (fun y : Fin 3 => #[Value.int .i64 (mI y)]) (Exc x n₀) (fun ys => ys = ms) (fun pre => ∃ k,k < zs.length ∧ pre = ms.take (k + 1)) zs.length w := fun l J Jx W hW hJ _ hY h0 => by
 have hS' := (hW.cell (p := ⟨Bc,0,none⟩) (show Bc < w.heap.size by omega)).trans hS
 have hT' := (hW.cell (p := ⟨Ba,2,none⟩) (show Ba < w.heap.size by omega)).trans hT
 have hkeep : ∀ p : Addr,(p.block < n₀ ∧ p.block ≠ x) → W.cell? p = w.cell? p := fun p hp => hW.cell (by omega)
 have hv' := hv.keep hkeep (fun b hb => hb)
 cases hvS with
 | sl _ sz A c u hsz hc hb hA hu =>
  simp only [List.length_map] at *
  by_cases h00 : zs.length = 0
  ·
   have hz : zs = [] := List.eq_nil_of_length_eq_zero h00
   subst hz
   injection hm with hm
   subst hm
   exact (calm_modes1_nil n l Bc Ba c A (J []) W hS' h0).mono fun e W' ⟨he,hj⟩ => ⟨he,.inl ⟨_,rfl,hj⟩⟩
  ·
   obtain ⟨b,o,rfl,hbb,hcell⟩ := hA (by omega)
   have hcs : ∀ j (h : j < zs.length),W.cell? ⟨b,o + j,none⟩ = some (.int .i64 zs[j]) := fun j h => by
    have e1 : (List.map (fun z => [C.int .i64 z]) zs)[j]? = some [C.int .i64 zs[j]] := by rw [List.getElem?_map,List.getElem?_eq_getElem h]; rfl
    have s1 := hsz j _ e1
    have c1 := hcell j _ 0 _ e1 rfl
    have u1 := hu j _ 0 _ e1 rfl
    rw [hkeep _ hbb]
    rw [← s1] at c1
    simp only [List.length_singleton,Nat.mul_one,Nat.add_zero] at c1
    rw [c1]
    cases h2 : u j 0 with
    | _ => rw [h2] at u1; cases u1 <;> rfl
   exact calm_modes1_in n hn l Bc Ba n₀ x b o zs.length c zs ms T vT rfl hm (by omega) hbb hBa J Jx (fun s A B row h1 h2 h3 => hJ s A B row h1 h2 (fun r e => by rw [h3] at e; cases e)) hY W (by rw [hw]; exact hW.size) hS' hcs hT' hv' h0

/-- The three parts of a configuration,as data. -/
structure ConfV (S : Nat → Prop) (w : World) (c : TConf) (c0 c1 c2 : Value) : Prop where
 v0 : View S w (.sl (List.map (fun z => [.int .i64 z]) c.States)) c0
 v1 : View S w (.sl (List.map (eL eTMsg) c.Links)) c1
 v2 : View S w (.sl (List.map (fun z => [.int .i64 z]) c.Sent)) c2
theorem ConfV.keep {S S' : Nat → Prop} {w w' : World} {c : TConf} {c0 c1 c2 : Value} (h : ConfV S w c c0 c1 c2) (hk : ∀ p : Addr,S p.block → w'.cell? p = w.cell? p) (hS : ∀ b,S b → S' b) : ConfV S' w' c c0 c1 c2 := ⟨h.v0.keep hk hS,h.v1.keep hk hS,h.v2.keep hk hS⟩
theorem app_v {ρ : Place} {S : Nat → Prop} {w : World} {a : TApp} {v : Value} (h : AVR ρ S w (.agg (cTApp a)) v) : ∃ a0 a1 a2 a3,v = .agg #[a0,a1,a2,a3] ∧ View S w (.sl (List.map eTNode a.T)) a2 := by
 obtain ⟨vs,rfl,hl,hg⟩ := h
 match vs,hl with
 | [a0,a1,a2,a3],_ => exact ⟨a0,a1,a2,a3,rfl,(hg 2 _ _ rfl rfl).1⟩
theorem conf_v {ρ : Place} {S : Nat → Prop} {w : World} {c : TConf} {v : Value} (h : AVR ρ S w (.agg (cTConf c)) v) : ∃ c0 c1 c2,v = .agg #[c0,c1,c2] ∧ ConfV S w c c0 c1 c2 := by
 obtain ⟨vs,rfl,hl,hg⟩ := h
 match vs,hl with
 | [a0,a1,a2],_ => exact ⟨a0,a1,a2,rfl,(hg 0 _ _ rfl rfl).1,(hg 1 _ _ rfl rfl).1,(hg 2 _ _ rfl rfl).1⟩

attribute [local go_sem] Oper.semAt_some
/-- The box of the numbers. -/
structure CntBox (x : Nat) (pre : List (Fin 3)) (W : World) : Prop where
 c0 : W.cell? ⟨x,0,none⟩ = some (.int .i64 (mcnt 0 pre))
 c1 : W.cell? ⟨x,1,none⟩ = some (.int .i64 (mcnt 1 pre))
 c2 : W.cell? ⟨x,2,none⟩ = some (.int .i64 (mcnt 2 pre))
 f0 : W.frozen? ⟨x,0,none⟩ = false
 f1 : W.frozen? ⟨x,1,none⟩ = false
 f2 : W.frozen? ⟨x,2,none⟩ = false
theorem cntBox_own (x : Nat) : Own (CntBox x) := fun s A B row h hg hr =>
 ⟨cell_kept h.c0 hg hr,cell_kept h.c1 hg hr,cell_kept h.c2 hg hr,(frozen_kept h.c0 hg hr).trans h.f0,(frozen_kept h.c1 hg hr).trans h.f1,(frozen_kept h.c2 hg hr).trans h.f2⟩
theorem calm_Count_in (n : Nat) (hn : 3 ≤ n) {a : TApp} {c : TConf} {r : Int × Int × Int} (hD : L_calm_Count a c = some r) (w : World) (va vc : List Value) (hva : va.length = 4) (hvc : vc.length = 3) (vS vT : Value) (hS : vc[0]? = some vS) (hT : va[2]? = some vT)
  (hvS : View (· < w.heap.size) w (.sl (List.map (fun z => [.int .i64 z]) c.States)) vS) (hvT : View (· < w.heap.size) w (.sl (List.map eTNode a.T)) vT) :
  CallsIn Fence.wide n Try.prog 23 #[.agg va.toArray,.agg vc.toArray] w fun e W' => e = .returned (.tuple #[.int .i64 r.1,.int .i64 r.2.1,.int .i64 r.2.2]) ∧ Below w.heap.size w W' := by
 have h1 : 1 ≤ n := by omega
 unfold L_calm_Count at hD
 split at hD
 case isFalse => cases hD
 rename_i hlen
 obtain ⟨ms,hm,hD⟩ := Option.bind_eq_some_iff.1 hD
 injection hD with hD
 obtain ⟨a0,a1,a2,a3,rfl⟩ : ∃ a0 a1 a2 a3,va = [a0,a1,a2,a3] := by
  match va,hva with
  | [a0,a1,a2,a3],_ => exact ⟨_,_,_,_,rfl⟩
 obtain ⟨c0,c1,c2,rfl⟩ : ∃ c0 c1 c2,vc = [c0,c1,c2] := by
  match vc,hvc with
  | [a0,a1,a2],_ => exact ⟨_,_,_,rfl⟩
 injection hS with hS
 injection hT with hT
 subst hS hT
 refine callsIn_of_wp_marks Try.func23 rfl trivial ?_ rfl
 simp only [Try.ntmps23,List.size_toArray,List.length_cons,List.length_nil,Nat.reduceAdd,Nat.reduceSub,Array.replicate_succ,Array.replicate_zero,List.push_toArray,List.append_toArray,List.nil_append,List.cons_append]
 gi_wp2
 refine ⟨trivial,(calm_modes_in _ [a0,a1,a2,a3] [c0,c1,c2] _).mono ?_⟩
 rintro e w' ⟨rfl,rfl⟩
 gi_wp2
 obtain ⟨W,hW⟩ : ∃ W,W = ((((w.alloc (Obj.cells #[a0,a1,a2,a3] 27)).alloc (Obj.cells #[c0,c1,c2] 31)).alloc (Obj.cells #[Value.int IntKind.i64 0,Value.int IntKind.i64 0,Value.int IntKind.i64 0] 111)).alloc (Obj.cells #[a0,a1,a2,a3] 27)).alloc (Obj.cells #[c0,c1,c2] 31) := ⟨_,rfl⟩
 have hWs : W.heap.size = w.heap.size + 1 + 1 + 1 + 1 + 1 := by rw [hW]; simp only [World.size_alloc]
 have hB : Below w.heap.size w W := by
  rw [hW]
  exact (((((Below.refl _ w).alloc (Nat.le_refl _) _).alloc (by simp) _).alloc (by simp; omega) _).alloc (by simp; omega) _).alloc (by simp; omega) _
 have hbx : W.heap[w.heap.size + 1 + 1]? = some (Obj.cells #[Value.int IntKind.i64 0,Value.int IntKind.i64 0,Value.int IntKind.i64 0] 111) := by
  rw [hW,Below.heap_alloc _ _ _ (by simp),Below.heap_alloc _ _ _ (by simp)]
  have := World.alloc_heap_new ((w.alloc (Obj.cells #[a0,a1,a2,a3] 27)).alloc (Obj.cells #[c0,c1,c2] 31)) (Obj.cells #[Value.int IntKind.i64 0,Value.int IntKind.i64 0,Value.int IntKind.i64 0] 111)
  simpa only [World.size_alloc] using this
 have hba : W.heap[w.heap.size + 1 + 1 + 1]? = some (Obj.cells #[a0,a1,a2,a3] 27) := by
  rw [hW,Below.heap_alloc _ _ _ (by simp)]
  have := World.alloc_heap_new (((w.alloc (Obj.cells #[a0,a1,a2,a3] 27)).alloc (Obj.cells #[c0,c1,c2] 31)).alloc (Obj.cells #[Value.int IntKind.i64 0,Value.int IntKind.i64 0,Value.int IntKind.i64 0] 111)) (Obj.cells #[a0,a1,a2,a3] 27)
  simpa only [World.size_alloc] using this
 have hbc : W.heap[w.heap.size + 1 + 1 + 1 + 1]? = some (Obj.cells #[c0,c1,c2] 31) := by
  rw [hW]
  have := World.alloc_heap_new ((((w.alloc (Obj.cells #[a0,a1,a2,a3] 27)).alloc (Obj.cells #[c0,c1,c2] 31)).alloc (Obj.cells #[Value.int IntKind.i64 0,Value.int IntKind.i64 0,Value.int IntKind.i64 0] 111)).alloc (Obj.cells #[a0,a1,a2,a3] 27)) (Obj.cells #[c0,c1,c2] 31)
  simpa only [World.size_alloc] using this
 rw [← hW]
 clear hW
 have hvS' := hvS.keep (S' := fun k => k < W.heap.size ∧ k ≠ w.heap.size + 1 + 1) (fun p hp => hB.cell hp) (fun b hb => by omega)
 have hvT' := hvT.keep (S' := fun k => k < W.heap.size ∧ k ≠ w.heap.size + 1 + 1) (fun p hp => hB.cell hp) (fun b hb => by omega)
 have cb : CntBox (w.heap.size + 1 + 1) [] W := by
  refine ⟨?_,?_,?_,?_,?_,?_⟩ <;> simp [World.cell?,World.frozen?,hbx,mcnt] <;> rfl
 refine wpIn_rangeFunc_ownG rfl h1 (gf := 89) (lb := #[.pointer (some ⟨w.heap.size + 1 + 1 + 1 + 1,0,none⟩),.pointer (some ⟨w.heap.size + 1 + 1 + 1,0,none⟩)]) rfl trivial (enters_of Try.func89 (by kernel_rfl) rfl)
  (calm_modes_stops (n - 1) (by omega) (w.heap.size + 1 + 1 + 1 + 1) (w.heap.size + 1 + 1 + 1) W.heap.size (w.heap.size + 1 + 1) c.States ms a.T c0 a2 hm hlen (by omega) (by omega) W rfl (by simp [World.cell?,hbc]) hvS' (by simp [World.cell?,hba]) hvT') (fun h k => h.trans k) excK_b (Below.refl _ _) (fun _ => rfl)
  (fun pre W' => CntBox (w.heap.size + 1 + 1) pre W' ∧ Below w.heap.size w W')
  (fun _ _ _ => False)
  (OwnFrom.and ((cntBox_own _).from _) (ownFrom_below (Nat.le_refl _) (by omega)))
  (fun _ _ _ _ _ hs _ _ => hs)
  ⟨cb,hB⟩
  (fun y => { tmps := #[Value.agg #[a0,a1,a2,a3],Value.agg #[c0,c1,c2],Value.pointer (some { block := w.heap.size,off := 0 }),
     Value.pointer (some { block := w.heap.size + 1,off := 0 }),Value.int IntKind.i64 0,Value.int IntKind.i64 0,
     Value.int IntKind.i64 0,Value.pointer (some { block := w.heap.size + 1 + 1,off := 0 }),Value.int IntKind.i64 (mI y),
     Value.agg #[a0,a1,a2,a3],Value.agg #[c0,c1,c2],
     Value.func (Fn.func 89) #[]
      #[Value.pointer (some { block := w.heap.size + 1 + 1 + 1 + 1,off := 0 }),
       Value.pointer (some { block := w.heap.size + 1 + 1 + 1,off := 0 })],
     Value.int IntKind.i64 (mI y),undef,undef,undef,undef,undef,undef,undef,undef,undef,undef,undef],defers := [] }) ?assign ?body ?done ?stop
 case assign =>
  intro l y W K hK
  gi_wp2
  exact hK
 case body =>
  rintro l pre y W' ⟨cx,hB'⟩ hlt
  have b0 := mcnt_le 0 pre
  have b1 := mcnt_le 1 pre
  have b2 := mcnt_le 2 pre
  obtain ⟨q0,q1,q2,g0,g1,g2⟩ := cx
  obtain ⟨m,hm3⟩ := y
  have hpl : pre.length < 1000000 := by omega
  match m,hm3 with
  | 0,hm3 =>
   have e0 : mI ⟨0,hm3⟩ = 0 := rfl
   rw [e0]
   obtain ⟨u,hu⟩ : ∃ u,u = mcnt 0 pre := ⟨_,rfl⟩
   rw [← hu] at q0 b0
   gi_wp2
   refine ⟨(KeepsOthers.setCell _ _ _).from _,Exc.store _ _ _ _,⟨?_,?_,?_,?_,?_,?_⟩,hB'.setCell (p := ⟨w.heap.size + 1 + 1,0,none⟩) (by simp; omega) _⟩
   · rw [World.cell?_setCell_same' _ _ _ (by rw [q0]; rfl),mcnt_snoc,if_pos (show (⟨0,hm3⟩ : Fin 3) = 0 from rfl),← hu]
   · rw [World.cell?_setCell_other _ _ _ _ (by simp),q1,mcnt_snoc,if_neg (fun e => absurd (congrArg Fin.val e) (by simp))]
   · rw [World.cell?_setCell_other _ _ _ _ (by simp),q2,mcnt_snoc,if_neg (fun e => absurd (congrArg Fin.val e) (by simp))]
   · rw [World.frozen?_setCell]; exact g0
   · rw [World.frozen?_setCell]; exact g1
   · rw [World.frozen?_setCell]; exact g2
  | 1,hm3 =>
   have e0 : mI ⟨1,hm3⟩ = 1 := rfl
   rw [e0]
   obtain ⟨u,hu⟩ : ∃ u,u = mcnt 1 pre := ⟨_,rfl⟩
   rw [← hu] at q1 b1
   gi_wp2
   refine ⟨(KeepsOthers.setCell _ _ _).from _,Exc.store _ _ _ _,⟨?_,?_,?_,?_,?_,?_⟩,hB'.setCell (p := ⟨w.heap.size + 1 + 1,1,none⟩) (by simp; omega) _⟩
   · rw [World.cell?_setCell_other _ _ _ _ (by simp),q0,mcnt_snoc,if_neg (fun e => absurd (congrArg Fin.val e) (by simp))]
   · rw [World.cell?_setCell_same' _ _ _ (by rw [q1]; rfl),mcnt_snoc,if_pos (show (⟨1,hm3⟩ : Fin 3) = 1 from rfl),← hu]
   · rw [World.cell?_setCell_other _ _ _ _ (by simp),q2,mcnt_snoc,if_neg (fun e => absurd (congrArg Fin.val e) (by simp))]
   · rw [World.frozen?_setCell]; exact g0
   · rw [World.frozen?_setCell]; exact g1
   · rw [World.frozen?_setCell]; exact g2
  | 2,hm3 =>
   have e0 : mI ⟨2,hm3⟩ = 2 := rfl
   rw [e0]
   obtain ⟨u,hu⟩ : ∃ u,u = mcnt 2 pre := ⟨_,rfl⟩
   rw [← hu] at q2 b2
   gi_wp2
   refine ⟨(KeepsOthers.setCell _ _ _).from _,Exc.store _ _ _ _,⟨?_,?_,?_,?_,?_,?_⟩,hB'.setCell (p := ⟨w.heap.size + 1 + 1,2,none⟩) (by simp; omega) _⟩
   · rw [World.cell?_setCell_other _ _ _ _ (by simp),q0,mcnt_snoc,if_neg (fun e => absurd (congrArg Fin.val e) (by simp))]
   · rw [World.cell?_setCell_other _ _ _ _ (by simp),q1,mcnt_snoc,if_neg (fun e => absurd (congrArg Fin.val e) (by simp))]
   · rw [World.cell?_setCell_same' _ _ _ (by rw [q2]; rfl),mcnt_snoc,if_pos (show (⟨2,hm3⟩ : Fin 3) = 2 from rfl),← hu]
   · rw [World.frozen?_setCell]; exact g0
   · rw [World.frozen?_setCell]; exact g1
   · rw [World.frozen?_setCell]; exact g2
 case done =>
  rintro D ys W' hD' rfl ⟨cx,hB'⟩ hK
  obtain ⟨q0,q1,q2,g0,g1,g2⟩ := cx
  have hmx : Try.prog.follows .mixedOrders = true := by kernel_rfl
  gi_wp2
  gi_region
  gi_wp2
  refine ⟨by simp,.inl ⟨_,_,rfl,run_takeDeferred hK,?_⟩⟩
  refine ⟨.tuple #[.int .i64 (mcnt 0 ys),.int .i64 (mcnt 1 ys),.int .i64 (mcnt 2 ys)],?_,by rw [← hD],(hB'.trans ((Below.refl _ W').drew)).trans (belowK_b (w := w) (Nat.le_refl _) W'.drew D _ _ (by omega) hK rfl rfl)⟩
  simp [results,go_sem]
 case stop =>
  rintro D c pre W _ _ h _
  exact h.elim
theorem L_calm_Count_ok {a0 : TApp} {a1 : TConf} {r : Int × Int × Int} (hD : L_calm_Count a0 a1 = some r) :
 CallH Try.prog 23 [.agg (cTApp a0),.agg (cTConf a1)] []
  (.tup [.inr (.d (.int .i64 r.1)),.inr (.d (.int .i64 r.2.1)),.inr (.d (.int .i64 r.2.2))]) [] := by
 refine ⟨by kernel_rfl,⟨fun id h => (by cases h),fun i o h => (by cases h)⟩,fun S Φ ρ φ w vs hS hΦ hl hv _ _ _ => ?_⟩
 match vs,hl with
 | [va,vc],_ =>
  obtain ⟨x0,x1,x2,x3,rfl,hT⟩ := app_v (hv 0 _ _ rfl rfl)
  obtain ⟨c0,c1,c2,rfl,hC⟩ := conf_v (hv 1 _ _ rfl rfl)
  have hs : ∀ b,S b → b < w.heap.size := fun b hb => (hS b hb).1
  have q := callsIn_wide.1 (calm_Count_in 3 (Nat.le_refl 3) hD w [x0,x1,x2,x3] [c0,c1,c2] rfl rfl c0 x2 rfl rfl (hC.v0.keep (fun p _ => rfl) hs) (hT.keep (fun p _ => rfl) hs))
  refine Calls.mono q ?_
  rintro e w' ⟨rfl,hb⟩
  refine ⟨_,ρ,φ,rfl,below_mv hb Φ,⟨[.int .i64 r.1,.int .i64 r.2.1,.int .i64 r.2.2],rfl,rfl,fun i x v hx hv => ?_⟩,fun id o h => (by cases h),fun id o b h => (by cases h),fun id id' o o' b h => (by cases h),fun id o h => (by cases h)⟩
  match i with
  | 0 => injection hx with hx; injection hv with hv; subst hx hv; exact View.int _ _
  | 1 => injection hx with hx; injection hv with hv; subst hx hv; exact View.int _ _
  | 2 => injection hx with hx; injection hv with hv; subst hx hv; exact View.int _ _
  | i + 3 => simp at hx

theorem L_calm_Loads_own {a0 : TConf} {r : (List Int)} (hD : L_calm_Loads a0 = some r) :
  CallH Try.prog 24 [.agg (cTConf a0)] []
   (.one (.own (1,0) r.length)) [((1,0),some (.row 3 1 (dat (List.map eI r))))] := by
 unfold L_calm_Loads at hD
 refine rc Try.func24 rfl Try.ntmps24 fun S Φ P0 wb ac h => ?_
 refine qs 3 [] [1] [(1,0)] h fun ac wd h => ?_
 refine qs 4 [] [1,3] [(1,0)] h fun ac wd h => ?_
 refine wp_seq ?_
 refine qs 8 [] [3,7,8,9] [] h fun ac wd h => ?_
 refine wp_block ?_
 have h := SL.bornS h 3 3 1 (by simp only [EZ,simprocAttr, *] <;> rfl)
 refine r_while (fun nf ac wd => ∃ (n142 : Int) (l143 : List Int),L_calm_Loads_l1 a0 nf n142 l143 = some r ∧ SL ⟨wb,S,Φ,P0⟩ 20 32 [(3,.one (.own (8,0) l143.length)),(7,.one (.d (.sl (List.map (eL eTMsg) a0.Links)))),(8,.one (.d (.int .i64 (a0.Links.length : Int)))),(9,.one (.d (.int .i64 n142)))] [((8,0),some (.row 3 1 (dat (List.map eI l143))))] ac wd) (((a0.Links.length : Int) - 0).toNat + 1) ⟨0,([] : List Int),hD,h.z⟩ (fun nf ac wd hJ => ?_)
 obtain ⟨n142,l143,hL144,h⟩ := hJ
 cases nf with
 | zero => rw [L_calm_Loads_l1] at hL144; cases hL144
 | succ nf =>
  rw [L_calm_Loads_l1] at hL144
  refine qs 33 [] [3,7,8,9,10] [(8,0)] h fun ac wd h => ?_
  refine wp_seq ?_
  rcases i2 hL144 with ⟨hb146,hL144⟩ | ⟨hb146,hL144⟩
  ·
   refine kT h ?_
   refine wp_skip ?_
   change Code.wp Try.prog _ _ _ _
   refine wp_seq ?_
   refine wp_block ?_
   obtain ⟨x154,hx155a,hx155b,hx155c,hx155d,hL144⟩ := aB hL144
   refine qs 36 [] [3,5,7,8,9] [(8,0)] h fun ac wd h => ?_
   obtain ⟨ha156,hL144⟩ := iT hL144
   refine qe [] [3,7,8,9] [(40,0)] h fun ac wd h => ?_
   change Code.wp Try.prog _ _ _ _
   refine qe [] [3,7,8,9] [(40,0)] h fun ac wd h => ?_
   have h := h.sw (8,0) (40,0) 44
   exact ⟨nf,Nat.lt_succ_self nf,(IntKind.wrap .i64 (n142 + 1)),(l143 ++ [(x154.length : Int)]),hL144,h.z⟩
  ·
   refine kF h ?_
   refine wp_exit ?_
   change Code.wp Try.prog _ _ _ _
   refine qs 35 [] [2] [(8,0)] h fun ac wd h => ?_
   refine wp_ret ?_
   have h := h.sw (1,0) (8,0) 35
   injection hL144 with hL144
   subst hL144
   exact rO h [.tmp 2] [(1,0)]
theorem L_calm_Loads_ok {a0 : TConf} {r : (List Int)} (hD : L_calm_Loads a0 = some r) :
  CallH Try.prog 24 [.agg (cTConf a0)] []
   (.one (.d (.sl (List.map eI r)))) [] :=
 (L_calm_Loads_own hD).fr

theorem L_calm_Way_ok {a0 : TConf} {r : Int} (hD : L_calm_Way a0 = some r) :
  CallH Try.prog 25 [.agg (cTConf a0)] []
   (.one (.d (.int .i64 r))) [] := by
 unfold L_calm_Way at hD
 refine rc Try.func25 rfl Try.ntmps25 fun S Φ P0 wb ac h => ?_
 refine qs 3 [] [1] [(1,0)] h fun ac wd h => ?_
 refine qs 4 [] [1,3] [(1,0)] h fun ac wd h => ?_
 refine wp_seq ?_
 obtain ⟨r78,hc79,hD⟩ := oB hD
 have hc79k := L_calm_Loads_ok hc79
 refine qs 8 [factE 5 hc79k] [3,7,8,9] [] h fun ac wd h => ?_
 refine wp_block ?_
 refine r_while (fun nf ac wd => ∃ (n136 : Int) (n137 : Int),L_calm_Way_l1 r78 nf n136 n137 = some r ∧ SL ⟨wb,S,Φ,P0⟩ 18 28 [(3,.one (.d (.int .i64 n136))),(7,.one (.d (.sl (List.map eI r78)))),(8,.one (.d (.int .i64 (r78.length : Int)))),(9,.one (.d (.int .i64 n137)))] [] ac wd) (((r78.length : Int) - 0).toNat + 1) ⟨0,0,hD,h.z⟩ (fun nf ac wd hJ => ?_)
 obtain ⟨n136,n137,hL138,h⟩ := hJ
 cases nf with
 | zero => rw [L_calm_Way_l1] at hL138; cases hL138
 | succ nf =>
  rw [L_calm_Way_l1] at hL138
  refine qs 29 [] [3,7,8,9,10] [] h fun ac wd h => ?_
  refine wp_seq ?_
  rcases i2 hL138 with ⟨hb140,hL138⟩ | ⟨hb140,hL138⟩
  ·
   refine kT h ?_
   refine wp_skip ?_
   change Code.wp Try.prog _ _ _ _
   refine wp_seq ?_
   refine wp_block ?_
   obtain ⟨x147,hx148a,hx148b,hx148c,hx148d,hL138⟩ := aB hL138
   refine qs 32 [] [3,5,7,8,9] [] h fun ac wd h => ?_
   refine qe [] [3,7,8,9] [] h fun ac wd h => ?_
   change Code.wp Try.prog _ _ _ _
   refine qe [] [3,7,8,9] [] h fun ac wd h => ?_
   exact ⟨nf,Nat.lt_succ_self nf,(IntKind.wrap .i64 (n136 + x147)),(IntKind.wrap .i64 (n137 + 1)),hL138,h.z⟩
  ·
   refine kF h ?_
   refine wp_exit ?_
   change Code.wp Try.prog _ _ _ _
   refine qs 31 [] [2] [] h fun ac wd h => ?_
   refine wp_ret ?_
   injection hL138 with hL138
   subst hL138
   exact rE h [.tmp 2]

end Go.Proofs.Ytifcbecpemaieaa
