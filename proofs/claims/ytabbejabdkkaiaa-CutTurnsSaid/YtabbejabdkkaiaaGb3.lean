/- Functions as typed ones,and that the program's functions answer as these do. No condition. -/
import Derived.Test.YtabbejabdkkaiaaGd
set_option linter.unusedSimpArgs false
set_option linter.unusedVariables false
set_option maxRecDepth 20000
set_option maxHeartbeats 4000000
namespace Go.Proofs.Ytabbejabdkkaiaa
open Go.RowKit

theorem L_graph_Full_own {a0 : Int} {r : TGraph} (hD : L_graph_Full a0 = some r) :
  CallH Try.prog 58 [.one (.d (.int .i64 a0))] []
   (.agg [.d (.int .i64 r.N),.own (1,0) r.Links.length]) [((1,0),some (.row 126 2 (dat (List.map eA2I r.Links))))] := by
 unfold L_graph_Full at hD
 refine rc Try.func58 rfl Try.ntmps58 fun S Φ P0 wb ac h => ?_
 refine qs 2 [] [0,2] [(1,0)] h fun ac wd h => ?_
 refine qs 8 [] [2,3] [(1,0),(6,0)] h fun ac wd h => ?_
 refine wp_seq ?_
 refine qs 11 [] [2,3,11,12] [(1,0),(6,0)] h fun ac wd h => ?_
 refine wp_block ?_
 have h := SL.bornB h (6,0) 1 126 2 (by simp only [EZ,simprocAttr, *] <;> rfl) (by simp only [EZ,simprocAttr, *] <;> rfl)
 refine r_while (fun nf ac wd => ∃ (n771 : Int) (l772 : List A2I),L_graph_Full_l1 a0 nf n771 l772 = some r ∧ SL ⟨wb,S,Φ,P0⟩ 34 105 [(2,.one (.ptr (1,0) 0)),(3,.one (.ptr (6,0) 0)),(11,.one (.d (.int .i64 (min (max a0 1) 6)))),(12,.one (.d (.int .i64 n771)))] [((1,0),some (.box 25 [.d (.int .i64 0),.nil])),((6,0),some (.box 25 [.d (.int .i64 (min (max a0 1) 6)),.own (11,0) l772.length])),((11,0),some (.row 126 2 (dat (List.map eA2I l772))))] ac wd) (((min (max a0 1) 6) - 0).toNat + 1) ⟨0,([] : List A2I),hD,h.z⟩ (fun nf ac wd hJ => ?_)
 obtain ⟨n771,l772,hL773,h⟩ := hJ
 cases nf with
 | zero => rw [L_graph_Full_l1] at hL773; cases hL773
 | succ nf =>
  rw [L_graph_Full_l1] at hL773
  refine qs 106 [] [2,3,11,12,13] [(1,0),(6,0),(11,0)] h fun ac wd h => ?_
  refine wp_seq ?_
  rcases i2 hL773 with ⟨hb775,hL773⟩ | ⟨hb775,hL773⟩
  ·
   refine kT h ?_
   refine wp_skip ?_
   change Code.wp Try.prog _ _ _ _
   obtain ⟨e808,hE809,hL773⟩ := Option.bind_eq_some_iff.1 hL773
   refine r_seqJ (fun ac wd => ∃ (l807 : List A2I),l807 = e808 ∧ SL ⟨wb,S,Φ,P0⟩ 34 146 [(2,.one (.ptr (1,0) 0)),(3,.one (.ptr (6,0) 0)),(11,.one (.d (.int .i64 (min (max a0 1) 6)))),(12,.one (.d (.int .i64 n771)))] [((1,0),some (.box 25 [.d (.int .i64 0),.nil])),((6,0),some (.box 25 [.d (.int .i64 (min (max a0 1) 6)),.own (11,0) l807.length])),((11,0),some (.row 126 2 (dat (List.map eA2I l807))))] ac wd) ?_ ?_
   ·
    refine wp_block ?_
    refine qs 108 [] [2,3,4,11,12] [(1,0),(6,0),(11,0)] h fun ac wd h => ?_
    refine qs 111 [] [2,3,4,11,12,16,17] [(1,0),(6,0),(11,0)] h fun ac wd h => ?_
    obtain ⟨e842,hE843,hE809⟩ := Option.bind_eq_some_iff.1 hE809
    refine r_meetQ (fun ac wd => ∃ (l841 : List A2I),l841 = e842 ∧ SL ⟨wb,S,Φ,P0⟩ 34 146 [(2,.one (.ptr (1,0) 0)),(3,.one (.ptr (6,0) 0)),(11,.one (.d (.int .i64 (min (max a0 1) 6)))),(12,.one (.d (.int .i64 n771)))] [((1,0),some (.box 25 [.d (.int .i64 0),.nil])),((6,0),some (.box 25 [.d (.int .i64 (min (max a0 1) 6)),.own (11,0) l841.length])),((11,0),some (.row 126 2 (dat (List.map eA2I l841))))] ac wd) ?_ ?_
    ·
     refine wp_block ?_
     refine r_while (fun nf ac wd => ∃ (n864 : Int) (l865 : List A2I),L_graph_Full_l2 a0 n771 nf n864 l865 = some e842 ∧ SL ⟨wb,S,Φ,P0⟩ 34 145 [(2,.one (.ptr (1,0) 0)),(3,.one (.ptr (6,0) 0)),(4,.one (.d (.int .i64 n771))),(11,.one (.d (.int .i64 (min (max a0 1) 6)))),(12,.one (.d (.int .i64 n771))),(16,.one (.d (.int .i64 (min (max a0 1) 6)))),(17,.one (.d (.int .i64 n864)))] [((1,0),some (.box 25 [.d (.int .i64 0),.nil])),((6,0),some (.box 25 [.d (.int .i64 (min (max a0 1) 6)),.own (11,0) l865.length])),((11,0),some (.row 126 2 (dat (List.map eA2I l865))))] ac wd) (((min (max a0 1) 6) - 0).toNat + 1) ⟨0,l772,hE843,h.z⟩ (fun nf ac wd hJ => ?_)
     obtain ⟨n864,l865,hL866,h⟩ := hJ
     cases nf with
     | zero => rw [L_graph_Full_l2] at hL866; cases hL866
     | succ nf =>
      rw [L_graph_Full_l2] at hL866
      refine qs 146 [] [2,3,4,11,12,16,17,18] [(1,0),(6,0),(11,0)] h fun ac wd h => ?_
      refine wp_seq ?_
      rcases i2 hL866 with ⟨hb868,hL866⟩ | ⟨hb868,hL866⟩
      ·
       refine kT h ?_
       refine wp_skip ?_
       change Code.wp Try.prog _ _ _ _
       obtain ⟨e872,hE873,hL866⟩ := Option.bind_eq_some_iff.1 hL866
       refine r_seqJ (fun ac wd => ∃ (l871 : List A2I),l871 = e872 ∧ SL ⟨wb,S,Φ,P0⟩ 34 160 [(2,.one (.ptr (1,0) 0)),(3,.one (.ptr (6,0) 0)),(4,.one (.d (.int .i64 n771))),(11,.one (.d (.int .i64 (min (max a0 1) 6)))),(12,.one (.d (.int .i64 n771))),(16,.one (.d (.int .i64 (min (max a0 1) 6)))),(17,.one (.d (.int .i64 n864)))] [((1,0),some (.box 25 [.d (.int .i64 0),.nil])),((6,0),some (.box 25 [.d (.int .i64 (min (max a0 1) 6)),.own (11,0) l871.length])),((11,0),some (.row 126 2 (dat (List.map eA2I l871))))] ac wd) ?_ ?_
       ·
        refine wp_block ?_
        refine qs 148 [] [2,3,4,5,11,12,16,17] [(1,0),(6,0),(11,0)] h fun ac wd h => ?_
        refine qs 151 [] [2,3,4,5,11,12,16,17,22] [(1,0),(6,0),(11,0)] h fun ac wd h => ?_
        rcases i2e hE873 with ⟨hb874,hE873⟩ | ⟨hb874,hE873⟩
        ·
         refine kF h ?_
         refine wp_skip ?_
         injection hE873 with hE873; subst hE873
         exact ⟨l865,rfl,h.z⟩
        ·
         refine kT h ?_
         obtain ⟨ha875,hE873⟩ := iT hE873
         refine qe [] [2,3,4,11,12,16,17] [(1,0),(6,0),(157,0)] h fun ac wd h => ?_
         have h := h.sw (11,0) (157,0) 160
         injection hE873 with hE873; subst hE873
         exact ⟨(l865 ++ [(A2I.mk n771 n864)]),rfl,h.z⟩
       ·
        rintro ac wd ⟨l871,rfl,h⟩
        (try dsimp only at hL866)
        refine qe [] [2,3,4,11,12,16,17] [(1,0),(6,0),(11,0)] h fun ac wd h => ?_
        exact ⟨nf,Nat.lt_succ_self nf,(IntKind.wrap .i64 (n864 + 1)),l871,hL866,h.z⟩
      ·
       refine kF h ?_
       refine wp_exit ?_
       injection hL866 with hL866; subst hL866
       exact ⟨l865,rfl,h.z⟩
    ·
     rintro ac wd ⟨l841,rfl,h⟩
     (try dsimp only at hE809)
     injection hE809 with hE809; subst hE809
     exact ⟨l841,rfl,h.z⟩
   ·
    rintro ac wd ⟨l807,rfl,h⟩
    (try dsimp only at hL773)
    refine qe [] [2,3,11,12] [(1,0),(6,0),(11,0)] h fun ac wd h => ?_
    exact ⟨nf,Nat.lt_succ_self nf,(IntKind.wrap .i64 (n771 + 1)),l807,hL773,h.z⟩
  ·
   refine kF h ?_
   refine wp_exit ?_
   change Code.wp Try.prog _ _ _ _
   refine qs 108 [] [2] [(1,0),(11,0)] h fun ac wd h => ?_
   refine wp_ret ?_
   have h := h.sw (1,0) (11,0) 108
   injection hL773 with hL773
   subst hL773
   exact rO h [.cell 2 25] [(1,0)]
theorem L_graph_Full_ok {a0 : Int} {r : TGraph} (hD : L_graph_Full a0 = some r) :
  CallH Try.prog 58 [.one (.d (.int .i64 a0))] []
   (.agg [.d (.int .i64 r.N),.d (.sl (List.map eA2I r.Links))]) [] :=
 (L_graph_Full_own hD).fr

theorem L_law05_Two_own {r : TApp} (hD : L_law05_Two = some r) :
  CallH Try.prog 84 [] []
   (.agg [.d (.int .i64 r.G.N),.own (1,0) r.G.Links.length,.own (1,1) r.T.length,.d (.bool r.Fifo)]) [((1,0),some (.row 126 2 (dat (List.map eA2I r.G.Links)))),((1,1),some (.row 38 2 (openRows cols_38 (List.map eTNode r.T))))] := by
 unfold L_law05_Two at hD
 refine rc Try.func84 rfl Try.ntmps84 fun S Φ P0 wb ac h => ?_
 refine qs 2 [] [0] [(1,0)] h fun ac wd h => ?_
 obtain ⟨r7,hc8,hD⟩ := oB hD
 have hc8_2 := ((L_graph_Full_own hc8).cls 2).z
 refine qs 22 [factO hc8_2] [0] [(1,0),(2,0),(5,0),(7,0),(10,0),(12,0),(14,0),(17,0),(19,0)] h fun ac wd h => ?_
 have h := h.fL (cols := (fun _ => .sc)) (7,0) (5,0) ([]) [.d (.int .i64 1),.own (5,0) (1 + 1)] 1 (List.map eTSend ([(TSend.mk 1 1)] ++ [(TSend.mk 1 2)])) (sc_50 _)
 have h := h.sm 22 [(0,.one (.ptr (1,0) 0))]
  [((1,0),some (.box 53 [.d (.int .i64 r7.N),.own (2,0) r7.Links.length,.own (19,0) (1 + 1),.d (.bool false)])),((2,0),some (.row 126 2 (dat (List.map eA2I r7.Links)))),((7,0),some (.row 46 2 ([[.d (.int .i64 1),.tr (.sl 50 2 (fun _ => .sc)) (.sl (List.map eTSend ([(TSend.mk 1 1)] ++ [(TSend.mk 1 2)])))]]))),((10,0),some (.row 43 4 (([[.d (.int .i64 1),.nil,.own (7,0) 1,.nil]] ++ [[.d (.int .i64 0),.nil,.nil,.nil]])))),((12,0),some (.row 3 1 ([[.d (.int .i64 0)]]))),((14,0),some (.row 48 3 ([[.d (.int .i64 0),.d (.int .i64 1),.d (.int .i64 1)]]))),((17,0),some (.row 43 4 (([[.d (.int .i64 2),.own (12,0) 1,.nil,.own (14,0) 1]] ++ [[.d (.int .i64 0),.nil,.nil,.nil]])))),((19,0),some (.row 38 2 (([[.d (.int .i64 0),.own (10,0) (1 + 1)]] ++ [[.d (.int .i64 0),.own (17,0) (1 + 1)]]))))]
 have h := h.nilTr (10,0) (l := ([[.d (.int .i64 1),.nil,.own (7,0) 1,.nil]] ++ [[.d (.int .i64 0),.nil,.nil,.nil]])) (l' := ([[.d (.int .i64 1),.tr (.sl 3 1 (fun _ => .sc)) (.sl (List.map eI [])),.own (7,0) 1,.tr (.sl 48 3 (fun _ => .sc)) (.sl (List.map eTTake []))]] ++ [[.d (.int .i64 0),.tr (.sl 3 1 (fun _ => .sc)) (.sl (List.map eI [])),.tr (.sl 46 2 cols_46) (.sl (List.map eTPick [])),.tr (.sl 48 3 (fun _ => .sc)) (.sl (List.map eTTake []))]])) (by simp only [EZ,simprocAttr] <;> rfl) (RowsTo.append (RowsTo.cons (RowTo.cons (.inl rfl) (RowTo.cons (.inr (.inr ⟨rfl,_,_,_,rfl⟩)) (RowTo.cons (.inl rfl) (RowTo.cons (.inr (.inr ⟨rfl,_,_,_,rfl⟩)) RowTo.nil)))) (RowsTo.refl [])) (RowsTo.cons (RowTo.cons (.inl rfl) (RowTo.cons (.inr (.inr ⟨rfl,_,_,_,rfl⟩)) (RowTo.cons (.inr (.inr ⟨rfl,_,_,_,rfl⟩)) (RowTo.cons (.inr (.inr ⟨rfl,_,_,_,rfl⟩)) RowTo.nil)))) (RowsTo.refl [])))
 have h := h.sm 22 [(0,.one (.ptr (1,0) 0))]
  [((1,0),some (.box 53 [.d (.int .i64 r7.N),.own (2,0) r7.Links.length,.own (19,0) (1 + 1),.d (.bool false)])),((2,0),some (.row 126 2 (dat (List.map eA2I r7.Links)))),((7,0),some (.row 46 2 (openRows cols_46 (List.map eTPick ([(TPick.mk 1 ([(TSend.mk 1 1)] ++ [(TSend.mk 1 2)]))]))))),((10,0),some (.row 43 4 (([[.d (.int .i64 1),.tr (.sl 3 1 (fun _ => .sc)) (.sl (List.map eI [])),.own (7,0) 1,.tr (.sl 48 3 (fun _ => .sc)) (.sl (List.map eTTake []))]] ++ [[.d (.int .i64 0),.tr (.sl 3 1 (fun _ => .sc)) (.sl (List.map eI [])),.tr (.sl 46 2 cols_46) (.sl (List.map eTPick [])),.tr (.sl 48 3 (fun _ => .sc)) (.sl (List.map eTTake []))]])))),((12,0),some (.row 3 1 ([[.d (.int .i64 0)]]))),((14,0),some (.row 48 3 ([[.d (.int .i64 0),.d (.int .i64 1),.d (.int .i64 1)]]))),((17,0),some (.row 43 4 (([[.d (.int .i64 2),.own (12,0) 1,.nil,.own (14,0) 1]] ++ [[.d (.int .i64 0),.nil,.nil,.nil]])))),((19,0),some (.row 38 2 (([[.d (.int .i64 0),.own (10,0) (1 + 1)]] ++ [[.d (.int .i64 0),.own (17,0) (1 + 1)]]))))]
 have h := h.f0 (cols := cols_46) (l := ([[.d (.int .i64 1),.tr (.sl 3 1 (fun _ => .sc)) (.sl (List.map eI [])),.own (7,0) 1,.tr (.sl 48 3 (fun _ => .sc)) (.sl (List.map eTTake []))]] ++ [[.d (.int .i64 0),.tr (.sl 3 1 (fun _ => .sc)) (.sl (List.map eI [])),.tr (.sl 46 2 cols_46) (.sl (List.map eTPick [])),.tr (.sl 48 3 (fun _ => .sc)) (.sl (List.map eTTake []))]])) (r := [.d (.int .i64 1),.tr (.sl 3 1 (fun _ => .sc)) (.sl (List.map eI [])),.own (7,0) 1,.tr (.sl 48 3 (fun _ => .sc)) (.sl (List.map eTTake []))]) (L := List.map eTPick ([(TPick.mk 1 ([(TSend.mk 1 1)] ++ [(TSend.mk 1 2)]))])) (10,0) (7,0) 0 2 (sc_46 _)
 have h := h.sm 22 [(0,.one (.ptr (1,0) 0))]
  [((1,0),some (.box 53 [.d (.int .i64 r7.N),.own (2,0) r7.Links.length,.own (19,0) (1 + 1),.d (.bool false)])),((2,0),some (.row 126 2 (dat (List.map eA2I r7.Links)))),((10,0),some (.row 43 4 (([[.d (.int .i64 1),.tr (.sl 3 1 (fun _ => .sc)) (.sl (List.map eI [])),.tr (.sl 46 2 cols_46) (.sl (List.map eTPick ([(TPick.mk 1 ([(TSend.mk 1 1)] ++ [(TSend.mk 1 2)]))]))),.tr (.sl 48 3 (fun _ => .sc)) (.sl (List.map eTTake []))]] ++ [[.d (.int .i64 0),.tr (.sl 3 1 (fun _ => .sc)) (.sl (List.map eI [])),.tr (.sl 46 2 cols_46) (.sl (List.map eTPick [])),.tr (.sl 48 3 (fun _ => .sc)) (.sl (List.map eTTake []))]])))),((12,0),some (.row 3 1 ([[.d (.int .i64 0)]]))),((14,0),some (.row 48 3 ([[.d (.int .i64 0),.d (.int .i64 1),.d (.int .i64 1)]]))),((17,0),some (.row 43 4 (([[.d (.int .i64 2),.own (12,0) 1,.nil,.own (14,0) 1]] ++ [[.d (.int .i64 0),.nil,.nil,.nil]])))),((19,0),some (.row 38 2 (([[.d (.int .i64 0),.own (10,0) (1 + 1)]] ++ [[.d (.int .i64 0),.own (17,0) (1 + 1)]]))))]
 have h := h.nilTr (17,0) (l := ([[.d (.int .i64 2),.own (12,0) 1,.nil,.own (14,0) 1]] ++ [[.d (.int .i64 0),.nil,.nil,.nil]])) (l' := ([[.d (.int .i64 2),.own (12,0) 1,.tr (.sl 46 2 cols_46) (.sl (List.map eTPick [])),.own (14,0) 1]] ++ [[.d (.int .i64 0),.tr (.sl 3 1 (fun _ => .sc)) (.sl (List.map eI [])),.tr (.sl 46 2 cols_46) (.sl (List.map eTPick [])),.tr (.sl 48 3 (fun _ => .sc)) (.sl (List.map eTTake []))]])) (by simp only [EZ,simprocAttr] <;> rfl) (RowsTo.append (RowsTo.cons (RowTo.cons (.inl rfl) (RowTo.cons (.inl rfl) (RowTo.cons (.inr (.inr ⟨rfl,_,_,_,rfl⟩)) (RowTo.cons (.inl rfl) RowTo.nil)))) (RowsTo.refl [])) (RowsTo.cons (RowTo.cons (.inl rfl) (RowTo.cons (.inr (.inr ⟨rfl,_,_,_,rfl⟩)) (RowTo.cons (.inr (.inr ⟨rfl,_,_,_,rfl⟩)) (RowTo.cons (.inr (.inr ⟨rfl,_,_,_,rfl⟩)) RowTo.nil)))) (RowsTo.refl [])))
 have h := h.sm 22 [(0,.one (.ptr (1,0) 0))]
  [((1,0),some (.box 53 [.d (.int .i64 r7.N),.own (2,0) r7.Links.length,.own (19,0) (1 + 1),.d (.bool false)])),((2,0),some (.row 126 2 (dat (List.map eA2I r7.Links)))),((10,0),some (.row 43 4 (openRows cols_43 (List.map eTState ([(TState.mk 1 [] ([(TPick.mk 1 ([(TSend.mk 1 1)] ++ [(TSend.mk 1 2)]))]) [])] ++ [(TState.mk 0 [] [] [])]))))),((12,0),some (.row 3 1 (dat (List.map eI [0])))),((14,0),some (.row 48 3 (dat (List.map eTTake [(TTake.mk 0 1 1)])))),((17,0),some (.row 43 4 (([[.d (.int .i64 2),.own (12,0) 1,.tr (.sl 46 2 cols_46) (.sl (List.map eTPick [])),.own (14,0) 1]] ++ [[.d (.int .i64 0),.tr (.sl 3 1 (fun _ => .sc)) (.sl (List.map eI [])),.tr (.sl 46 2 cols_46) (.sl (List.map eTPick [])),.tr (.sl 48 3 (fun _ => .sc)) (.sl (List.map eTTake []))]])))),((19,0),some (.row 38 2 (([[.d (.int .i64 0),.own (10,0) (1 + 1)]] ++ [[.d (.int .i64 0),.own (17,0) (1 + 1)]]))))]
 have h := h.f0 (cols := (fun _ => .sc)) (l := ([[.d (.int .i64 2),.own (12,0) 1,.tr (.sl 46 2 cols_46) (.sl (List.map eTPick [])),.own (14,0) 1]] ++ [[.d (.int .i64 0),.tr (.sl 3 1 (fun _ => .sc)) (.sl (List.map eI [])),.tr (.sl 46 2 cols_46) (.sl (List.map eTPick [])),.tr (.sl 48 3 (fun _ => .sc)) (.sl (List.map eTTake []))]])) (r := [.d (.int .i64 2),.own (12,0) 1,.tr (.sl 46 2 cols_46) (.sl (List.map eTPick [])),.own (14,0) 1]) (L := List.map eI [0]) (17,0) (12,0) 0 1 (sc_3 _)
 have h := h.sm 22 [(0,.one (.ptr (1,0) 0))]
  [((1,0),some (.box 53 [.d (.int .i64 r7.N),.own (2,0) r7.Links.length,.own (19,0) (1 + 1),.d (.bool false)])),((2,0),some (.row 126 2 (dat (List.map eA2I r7.Links)))),((10,0),some (.row 43 4 (openRows cols_43 (List.map eTState ([(TState.mk 1 [] ([(TPick.mk 1 ([(TSend.mk 1 1)] ++ [(TSend.mk 1 2)]))]) [])] ++ [(TState.mk 0 [] [] [])]))))),((14,0),some (.row 48 3 (dat (List.map eTTake [(TTake.mk 0 1 1)])))),((17,0),some (.row 43 4 (([[.d (.int .i64 2),.tr (.sl 3 1 (fun _ => .sc)) (.sl (List.map eI [0])),.tr (.sl 46 2 cols_46) (.sl (List.map eTPick [])),.own (14,0) 1]] ++ [[.d (.int .i64 0),.tr (.sl 3 1 (fun _ => .sc)) (.sl (List.map eI [])),.tr (.sl 46 2 cols_46) (.sl (List.map eTPick [])),.tr (.sl 48 3 (fun _ => .sc)) (.sl (List.map eTTake []))]])))),((19,0),some (.row 38 2 (([[.d (.int .i64 0),.own (10,0) (1 + 1)]] ++ [[.d (.int .i64 0),.own (17,0) (1 + 1)]]))))]
 have h := h.f0 (cols := (fun _ => .sc)) (l := ([[.d (.int .i64 2),.tr (.sl 3 1 (fun _ => .sc)) (.sl (List.map eI [0])),.tr (.sl 46 2 cols_46) (.sl (List.map eTPick [])),.own (14,0) 1]] ++ [[.d (.int .i64 0),.tr (.sl 3 1 (fun _ => .sc)) (.sl (List.map eI [])),.tr (.sl 46 2 cols_46) (.sl (List.map eTPick [])),.tr (.sl 48 3 (fun _ => .sc)) (.sl (List.map eTTake []))]])) (r := [.d (.int .i64 2),.tr (.sl 3 1 (fun _ => .sc)) (.sl (List.map eI [0])),.tr (.sl 46 2 cols_46) (.sl (List.map eTPick [])),.own (14,0) 1]) (L := List.map eTTake [(TTake.mk 0 1 1)]) (17,0) (14,0) 0 3 (sc_48 _)
 have h := h.sm 22 [(0,.one (.ptr (1,0) 0))]
  [((1,0),some (.box 53 [.d (.int .i64 r7.N),.own (2,0) r7.Links.length,.own (19,0) (1 + 1),.d (.bool false)])),((2,0),some (.row 126 2 (dat (List.map eA2I r7.Links)))),((10,0),some (.row 43 4 (openRows cols_43 (List.map eTState ([(TState.mk 1 [] ([(TPick.mk 1 ([(TSend.mk 1 1)] ++ [(TSend.mk 1 2)]))]) [])] ++ [(TState.mk 0 [] [] [])]))))),((17,0),some (.row 43 4 (([[.d (.int .i64 2),.tr (.sl 3 1 (fun _ => .sc)) (.sl (List.map eI [0])),.tr (.sl 46 2 cols_46) (.sl (List.map eTPick [])),.tr (.sl 48 3 (fun _ => .sc)) (.sl (List.map eTTake [(TTake.mk 0 1 1)]))]] ++ [[.d (.int .i64 0),.tr (.sl 3 1 (fun _ => .sc)) (.sl (List.map eI [])),.tr (.sl 46 2 cols_46) (.sl (List.map eTPick [])),.tr (.sl 48 3 (fun _ => .sc)) (.sl (List.map eTTake []))]])))),((19,0),some (.row 38 2 (([[.d (.int .i64 0),.own (10,0) (1 + 1)]] ++ [[.d (.int .i64 0),.own (17,0) (1 + 1)]]))))]
 have h := h.fL (cols := cols_43) (19,0) (17,0) ([[.d (.int .i64 0),.own (10,0) (1 + 1)]]) [.d (.int .i64 0),.own (17,0) (1 + 1)] 1 (List.map eTState ([(TState.mk 2 [0] [] [(TTake.mk 0 1 1)])] ++ [(TState.mk 0 [] [] [])])) (sc_43 _)
 have h := h.sm 22 [(0,.one (.ptr (1,0) 0))]
  [((1,0),some (.box 53 [.d (.int .i64 r7.N),.own (2,0) r7.Links.length,.own (19,0) (1 + 1),.d (.bool false)])),((2,0),some (.row 126 2 (dat (List.map eA2I r7.Links)))),((10,0),some (.row 43 4 (openRows cols_43 (List.map eTState ([(TState.mk 1 [] ([(TPick.mk 1 ([(TSend.mk 1 1)] ++ [(TSend.mk 1 2)]))]) [])] ++ [(TState.mk 0 [] [] [])]))))),((19,0),some (.row 38 2 (([[.d (.int .i64 0),.own (10,0) (1 + 1)]] ++ [[.d (.int .i64 0),.tr (.sl 43 4 cols_43) (.sl (List.map eTState ([(TState.mk 2 [0] [] [(TTake.mk 0 1 1)])] ++ [(TState.mk 0 [] [] [])])))]]))))]
 have h := h.f0 (cols := cols_43) (l := ([[.d (.int .i64 0),.own (10,0) (1 + 1)]] ++ [[.d (.int .i64 0),.tr (.sl 43 4 cols_43) (.sl (List.map eTState ([(TState.mk 2 [0] [] [(TTake.mk 0 1 1)])] ++ [(TState.mk 0 [] [] [])])))]])) (r := [.d (.int .i64 0),.own (10,0) (1 + 1)]) (L := List.map eTState ([(TState.mk 1 [] ([(TPick.mk 1 ([(TSend.mk 1 1)] ++ [(TSend.mk 1 2)]))]) [])] ++ [(TState.mk 0 [] [] [])])) (19,0) (10,0) 0 1 (sc_43 _)
 have h := h.sm 22 [(0,.one (.ptr (1,0) 0))]
  [((1,0),some (.box 53 [.d (.int .i64 r7.N),.own (2,0) r7.Links.length,.own (19,0) (1 + 1),.d (.bool false)])),((2,0),some (.row 126 2 (dat (List.map eA2I r7.Links)))),((19,0),some (.row 38 2 (([[.d (.int .i64 0),.tr (.sl 43 4 cols_43) (.sl (List.map eTState ([(TState.mk 1 [] ([(TPick.mk 1 ([(TSend.mk 1 1)] ++ [(TSend.mk 1 2)]))]) [])] ++ [(TState.mk 0 [] [] [])])))]] ++ [[.d (.int .i64 0),.tr (.sl 43 4 cols_43) (.sl (List.map eTState ([(TState.mk 2 [0] [] [(TTake.mk 0 1 1)])] ++ [(TState.mk 0 [] [] [])])))]]))))]
 refine wp_ret ?_
 have h := h.sw (1,0) (2,0) 22
 have h := h.sw (1,1) (19,0) 22
 injection hD with hD
 subst hD
 exact rO h [.cell 0 53] [(1,0),(1,1)]
theorem L_law05_Two_ok {r : TApp} (hD : L_law05_Two = some r) :
  CallH Try.prog 84 [] []
   (.agg [.d (.int .i64 r.G.N),.d (.sl (List.map eA2I r.G.Links)),.d (.sl (List.map eTNode r.T)),.d (.bool r.Fifo)]) [] :=
 (L_law05_Two_own hD).fr

theorem L_plain_Start_own {a0 : TApp} {r : TConf} (hD : L_plain_Start a0 = some r) :
  CallH Try.prog 85 [.agg (cTApp a0)] []
   (.agg [.own (1,0) r.States.length,.own (1,1) r.Links.length,.own (1,2) r.Sent.length]) [((1,0),some (.row 3 1 (dat (List.map eI r.States)))),((1,1),some (.row 170 1 (openRows cols_170 (List.map (eL eTMsg) r.Links)))),((1,2),some (.row 3 1 (dat (List.map eI r.Sent))))] := by
 unfold L_plain_Start at hD
 refine rc Try.func85 rfl Try.ntmps85 fun S Φ P0 wb ac h => ?_
 refine qs 3 [] [1,2] [(1,0),(2,0)] h fun ac wd h => ?_
 obtain ⟨ha93,hD⟩ := iT hD
 obtain ⟨ha94,hD⟩ := iT hD
 obtain ⟨ha95,hD⟩ := iT hD
 refine ds 16 [] [1,2,3] [(1,0),(2,0),(7,0),(12,0),(14,0)] h fun ac wd h => ?_
 have h := h.nilTr (7,0) (l := List.replicate a0.G.Links.length [.nil]) (l' := List.replicate a0.G.Links.length [.tr (.sl 59 2 (fun _ => .sc)) (.sl (List.map eTMsg []))]) (by simp only [EZ,simprocAttr, *] <;> rfl) (RowsTo.rep (RowTo.cons (.inr (.inr ⟨rfl,_,_,_,rfl⟩)) RowTo.nil) _)
 have h := h.sm 16 [(1,.one (.ptr (1,0) 0)),(2,.one (.ptr (2,0) 0)),(3,.one (.ptr (14,0) 0))]
  [((1,0),some (.box 53 (cTApp a0))),((2,0),some (.box 104 [.nil,.nil,.nil])),((7,0),some (.row 170 1 (List.replicate a0.G.Links.length [.tr (.sl 59 2 (fun _ => .sc)) (.sl (List.map eTMsg []))]))),((12,0),some (.row 3 1 (dat (List.map eI (List.replicate a0.G.Links.length 0))))),((14,0),some (.box 104 [.nil,.own (7,0) a0.G.Links.length,.own (12,0) a0.G.Links.length]))]
 refine wp_seq ?_
 refine qs 20 [] [2,3,18,19,20] [(2,0),(7,0),(12,0),(14,0)] h fun ac wd h => ?_
 refine wp_block ?_
 have h := SL.bornB h (14,0) 0 3 1 (by simp only [EZ,simprocAttr, *] <;> rfl) (by simp only [EZ,simprocAttr, *] <;> rfl)
 refine r_while (fun nf ac wd => ∃ (n162 : Int) (l163 : List Int),L_plain_Start_l1 a0 nf n162 l163 = some r ∧ SL ⟨wb,S,Φ,P0⟩ 33 50 [(2,.one (.ptr (2,0) 0)),(3,.one (.ptr (14,0) 0)),(18,.one (.d (.sl (List.map eTNode a0.T)))),(19,.one (.d (.int .i64 (a0.T.length : Int)))),(20,.one (.d (.int .i64 n162)))] [((2,0),some (.box 104 [.nil,.nil,.nil])),((7,0),some (.row 170 1 (openRows cols_170 (List.map (eL eTMsg) (List.replicate a0.G.Links.length []))))),((12,0),some (.row 3 1 (dat (List.map eI (List.replicate a0.G.Links.length 0))))),((14,0),some (.box 104 [.own (20,0) l163.length,.own (7,0) a0.G.Links.length,.own (12,0) a0.G.Links.length])),((20,0),some (.row 3 1 (dat (List.map eI l163))))] ac wd) (((a0.T.length : Int) - 0).toNat + 1) ⟨0,([] : List Int),hD,h.z⟩ (fun nf ac wd hJ => ?_)
 obtain ⟨n162,l163,hL164,h⟩ := hJ
 cases nf with
 | zero => rw [L_plain_Start_l1] at hL164; cases hL164
 | succ nf =>
  rw [L_plain_Start_l1] at hL164
  refine qs 51 [] [2,3,18,19,20,21] [(2,0),(7,0),(12,0),(14,0),(20,0)] h fun ac wd h => ?_
  refine wp_seq ?_
  rcases i2 hL164 with ⟨hb166,hL164⟩ | ⟨hb166,hL164⟩
  ·
   refine kT h ?_
   refine wp_skip ?_
   change Code.wp Try.prog _ _ _ _
   refine wp_seq ?_
   refine wp_block ?_
   obtain ⟨x174,hx175a,hx175b,hx175c,hx175d,hL164⟩ := aB hL164
   refine qs 55 [] [2,3,5,18,19,20] [(2,0),(7,0),(12,0),(14,0),(20,0),(53,0)] h fun ac wd h => ?_
   obtain ⟨ha176,hL164⟩ := iT hL164
   refine qe [] [2,3,18,19,20] [(2,0),(7,0),(12,0),(14,0),(60,0)] h fun ac wd h => ?_
   change Code.wp Try.prog _ _ _ _
   refine qe [] [2,3,18,19,20] [(2,0),(7,0),(12,0),(14,0),(60,0)] h fun ac wd h => ?_
   have h := h.sw (20,0) (60,0) 65
   exact ⟨nf,Nat.lt_succ_self nf,(IntKind.wrap .i64 (n162 + 1)),(l163 ++ [x174.Start]),hL164,h.z⟩
  ·
   refine kF h ?_
   refine wp_exit ?_
   change Code.wp Try.prog _ _ _ _
   refine qs 53 [] [2] [(2,0),(7,0),(12,0),(20,0)] h fun ac wd h => ?_
   refine wp_ret ?_
   have h := h.sw (1,0) (20,0) 53
   have h := h.sw (1,1) (7,0) 53
   have h := h.sw (1,2) (12,0) 53
   injection hL164 with hL164
   subst hL164
   exact rO h [.cell 2 104] [(1,0),(1,1),(1,2)]
theorem L_plain_Start_ok {a0 : TApp} {r : TConf} (hD : L_plain_Start a0 = some r) :
  CallH Try.prog 85 [.agg (cTApp a0)] []
   (.agg [.d (.sl (List.map eI r.States)),.d (.sl (List.map (eL eTMsg) r.Links)),.d (.sl (List.map eI r.Sent))]) [] :=
 (L_plain_Start_own hD).fr

theorem L_graph_Graph_node_ok {a0 : TGraph} {a1 : Int} {r : Bool} (hD : L_graph_Graph_node a0 a1 = some r) :
  CallH Try.prog 97 [.agg (cTGraph a0),.one (.d (.int .i64 a1))] []
   (.one (.d (.bool r))) [] := by
 unfold L_graph_Graph_node at hD
 refine rc Try.func97 rfl Try.ntmps97 fun S Φ P0 wb ac h => ?_
 refine qs 3 [] [1,2] [(1,0)] h fun ac wd h => ?_
 obtain ⟨e8,hE9,hD⟩ := Option.bind_eq_some_iff.1 hD
 refine r_seqJ (fun ac wd => ∃ (b7 : Bool),b7 = e8 ∧ SL ⟨wb,S,Φ,P0⟩ 13 12 [(4,.one (.d (.bool b7)))] [] ac wd) ?_ ?_
 ·
  rcases i2 hE9 with ⟨hb10,hE9⟩ | ⟨hb10,hE9⟩
  ·
   refine qeg [] [none,none,none,some (some 7,true),some (some 7,true),some (some 7,true),some (some 7,true),none,none] [4] [] h fun ac wd h => ?_
   injection hE9 with hE9; subst hE9
   exact ⟨decide (a1 < a0.N),rfl,h.z⟩
  ·
   refine qeg [] [none,none,none,some (some 7,true),some (some 7,true),some (some 7,true),some (some 7,true),none,none] [4] [] h fun ac wd h => ?_
   injection hE9 with hE9; subst hE9
   exact ⟨false,rfl,h.z⟩
 ·
  rintro ac wd ⟨b7,rfl,h⟩
  (try dsimp only at hD)
  refine wp_ret ?_
  injection hD with hD
  subst hD
  exact rE h [.tmp 4]

theorem L_graph_turned_ok {a0 : A2I} {r : A2I} (hD : L_graph_turned a0 = some r) :
  CallH Try.prog 98 [.agg (cA2I a0)] []
   (.agg [.d (.int .i64 r.a0),.d (.int .i64 r.a1)]) [] := by
 unfold L_graph_turned at hD
 refine rc Try.func98 rfl Try.ntmps98 fun S Φ P0 wb ac h => ?_
 refine qs 3 [] [1,2] [(1,0),(2,0)] h fun ac wd h => ?_
 refine qs 9 [] [2] [(2,0)] h fun ac wd h => ?_
 refine wp_ret ?_
 injection hD with hD
 subst hD
 exact rE h [.cell 2 126]

theorem L_math_bits_Mul64_ok {a0 : Int} {a1 : Int} {r : Int × Int} (hD : L_math_bits_Mul64 a0 a1 = some r) :
  CallH Try.prog 150 [.one (.d (.int .u64 a0)),.one (.d (.int .u64 a1))] []
   (.tup [.inr (.d (.int .u64 r.1)),.inr (.d (.int .u64 r.2))]) [] := by
 unfold L_math_bits_Mul64 at hD
 refine rc Try.func150 rfl Try.ntmps150 fun S Φ P0 wb ac h => ?_
 refine qs 3 [] [0,1] [] h fun ac wd h => ?_
 refine qs 6 [] [0,1,6] [] h fun ac wd h => ?_
 refine qs 9 [] [0,1,6,7] [] h fun ac wd h => ?_
 refine qs 12 [] [0,1,6,7,8] [] h fun ac wd h => ?_
 refine qs 15 [] [0,1,6,7,8,9] [] h fun ac wd h => ?_
 refine qs 19 [] [0,1,6,7,8,9,10] [] h fun ac wd h => ?_
 refine qs 26 [] [0,1,6,7,9,11] [] h fun ac wd h => ?_
 refine qs 29 [] [0,1,6,7,9,11,12] [] h fun ac wd h => ?_
 refine qs 32 [] [0,1,6,7,9,12,13] [] h fun ac wd h => ?_
 refine qs 38 [] [0,1,7,9,12,13] [] h fun ac wd h => ?_
 refine qs 47 [] [0,1,4] [] h fun ac wd h => ?_
 refine qs 51 [] [4,5] [] h fun ac wd h => ?_
 refine wp_ret ?_
 injection hD with hD
 subst hD
 exact rE h [.tmp 4,.tmp 5]

theorem L_math_bits_Mul_ok {a0 : Int} {a1 : Int} {r : Int × Int} (hD : L_math_bits_Mul a0 a1 = some r) :
  CallH Try.prog 144 [.one (.d (.int .u64 a0)),.one (.d (.int .u64 a1))] []
   (.tup [.inr (.d (.int .u64 r.1)),.inr (.d (.int .u64 r.2))]) [] := by
 unfold L_math_bits_Mul at hD
 refine rc Try.func144 rfl Try.ntmps144 fun S Φ P0 wb ac h => ?_
 refine qs 3 [] [0,1] [] h fun ac wd h => ?_
 refine wp_seq ?_
 refine kF h ?_
 refine wp_skip ?_
 change Code.wp Try.prog _ _ _ _
 obtain ⟨r7,hc8,hD⟩ := oB hD
 have hc8k := L_math_bits_Mul64_ok hc8
 refine qs 11 [factE 5 hc8k] [8,9] [] h fun ac wd h => ?_
 refine qs 15 [] [4,5] [] h fun ac wd h => ?_
 refine wp_ret ?_
 injection hD with hD
 subst hD
 exact rE h [.tmp 4,.tmp 5]

theorem L_slices_Repeat_int_int_own {a0 : (List Int)} {a1 : Int} {r : (List Int)} (hD : L_slices_Repeat_int_int a0 a1 = some r) :
  CallH Try.prog 123 [.one (.d (.sl (List.map eI a0))),.one (.d (.int .i64 a1))] []
   (.one (.own (1,0) r.length)) [((1,0),some (.row 3 1 (dat (List.map eI r))))] := by
 unfold L_slices_Repeat_int_int at hD
 refine rc Try.func123 rfl Try.ntmps123 fun S Φ P0 wb ac h => ?_
 refine qs 2 [] [0,1] [] h fun ac wd h => ?_
 refine wp_seq ?_
 refine qs 4 [] [0,1,10] [] h fun ac wd h => ?_
 rcases i2 hD with ⟨hb94,hD⟩ | ⟨hb94,hD⟩
 ·
  refine kT h ?_
  cases hD
 ·
  refine kF h ?_
  refine wp_skip ?_
  change Code.wp Try.prog _ _ _ _
  obtain ⟨r97,hc98,hD⟩ := oB hD
  have hc98k := L_math_bits_Mul_ok hc98
  refine qs 15 [factE 9 hc98k] [0,5,6] [] h fun ac wd h => ?_
  refine wp_seq ?_
  obtain ⟨e101,hE102,hD⟩ := Option.bind_eq_some_iff.1 hD
  refine r_seqJ (fun ac wd => ∃ (b100 : Bool),b100 = e101 ∧ SL ⟨wb,S,Φ,P0⟩ 48 21 [(0,.one (.d (.sl (List.map eI a0)))),(6,.one (.d (.int .u64 r97.2))),(26,.one (.d (.bool b100)))] [] ac wd) ?_ ?_
  ·
   rcases i2 hE102 with ⟨hb103,hE102⟩ | ⟨hb103,hE102⟩
   ·
    refine qeg [] [none,none,none,some (some 23,false),some (some 23,false),none] [0,6,26] [] h fun ac wd h => ?_
    injection hE102 with hE102; subst hE102
    exact ⟨true,rfl,h.z⟩
   ·
    refine qeg [] [none,none,none,some (some 23,false),some (some 23,false),none] [0,6,26] [] h fun ac wd h => ?_
    injection hE102 with hE102; subst hE102
    exact ⟨decide (r97.2 > 9223372036854775807),rfl,h.z⟩
  ·
   rintro ac wd ⟨b100,rfl,h⟩
   (try dsimp only at hD)
   rcases i2b hD with ⟨hb105,hD⟩ | ⟨hb105,hD⟩
   ·
    refine kT h ?_
    cases hD
   ·
    refine kF h ?_
    refine wp_skip ?_
    change Code.wp Try.prog _ _ _ _
    obtain ⟨ha109,hD⟩ := iT hD
    obtain ⟨ha110,hD⟩ := iT hD
    obtain ⟨ha111,hD⟩ := iT hD
    refine qs 25 [] [0,7] [(23,0)] h fun ac wd h => ?_
    obtain ⟨v115,hv116,hD⟩ := vB hD
    have h := h.same [0,7] [(23,0)] 25 [(0,.one (.d (.sl (List.map eI a0)))),(7,.one (.own (23,0) v115.length))]
     [((23,0),some (.row 3 1 (dat (List.map eI v115))))]
     (by simp only [EZ,simprocAttr,hb94,hb105,ha109,ha110,ha111,dat_open,← hv116] <;> rfl)
    have hl117 : ((a0.take v115.length) ++ v115.drop (a0.take v115.length).length).length = v115.length := by simp only [List.append_assoc,List.length_append,List.length_take,List.length_drop]; omega
    simp only [List.append_assoc,List.length_append,List.length_take,List.length_drop] at hl117
    refine qs 29 [] [7,8] [(23,0)] h fun ac wd h => ?_
    refine wp_seq ?_
    refine wp_block ?_
    refine r_while (fun nf ac wd => ∃ (n172 : Int) (l173 : List Int),L_slices_Repeat_int_int_l1 nf n172 l173 = some r ∧ SL ⟨wb,S,Φ,P0⟩ 48 57 [(7,.one (.own (23,0) l173.length)),(8,.one (.d (.int .i64 n172)))] [((23,0),some (.row 3 1 (dat (List.map eI l173))))] ac wd) (((((a0.take v115.length) ++ v115.drop (a0.take v115.length).length).length : Int) - ((Nat.min a0.length v115.length : Nat) : Int)).toNat + 1) ⟨((Nat.min a0.length v115.length : Nat) : Int),((a0.take v115.length) ++ v115.drop (a0.take v115.length).length),hD,h.z⟩ (fun nf ac wd hJ => ?_)
    obtain ⟨n172,l173,hL174,h⟩ := hJ
    cases nf with
    | zero => rw [L_slices_Repeat_int_int_l1] at hL174; cases hL174
    | succ nf =>
     rw [L_slices_Repeat_int_int_l1] at hL174
     refine wp_seq ?_
     refine qs 61 [] [7,8,37] [(23,0)] h fun ac wd h => ?_
     rcases i2 hL174 with ⟨hb176,hL174⟩ | ⟨hb176,hL174⟩
     ·
      refine kT h ?_
      refine wp_skip ?_
      change Code.wp Try.prog _ _ _ _
      refine wp_block ?_
      obtain ⟨ha177,hL174⟩ := iT hL174
      obtain ⟨ha178,hL174⟩ := iT hL174
      have hq179 : n172.toNat + (l173.length - n172.toNat) ≤ l173.length := by omega
      have hq180 : ¬ l173.length = n172.toNat := by omega
      have hq181 : n172.toNat ≤ l173.length := by omega
      have hl182 : (l173.take n172.toNat ++ ((l173.take n172.toNat).take (((l173.drop n172.toNat).take (l173.length - n172.toNat)).length)) ++ l173.drop (n172.toNat + ((l173.take n172.toNat).take (((l173.drop n172.toNat).take (l173.length - n172.toNat)).length)).length)).length = l173.length := by simp only [List.append_assoc,List.length_append,List.length_take,List.length_drop]; omega
      simp only [List.append_assoc,List.length_append,List.length_take,List.length_drop] at hl182
      refine de [] [7,8] [(23,0)] h fun ac wd h => ?_
      exact ⟨nf,Nat.lt_succ_self nf,(IntKind.wrap .i64 (n172 + ((Nat.min (l173.take n172.toNat).length (((l173.drop n172.toNat).take (l173.length - n172.toNat)).length) : Nat) : Int))),(l173.take n172.toNat ++ ((l173.take n172.toNat).take (((l173.drop n172.toNat).take (l173.length - n172.toNat)).length)) ++ l173.drop (n172.toNat + ((l173.take n172.toNat).take (((l173.drop n172.toNat).take (l173.length - n172.toNat)).length)).length)),hL174,h.z⟩
     ·
      refine kF h ?_
      refine wp_exit ?_
      change Code.wp Try.prog _ _ _ _
      refine qs 63 [] [4] [(23,0)] h fun ac wd h => ?_
      refine wp_ret ?_
      have h := h.sw (1,0) (23,0) 63
      injection hL174 with hL174
      subst hL174
      exact rO h [.tmp 4] [(1,0)]
theorem L_slices_Repeat_int_int_ok {a0 : (List Int)} {a1 : Int} {r : (List Int)} (hD : L_slices_Repeat_int_int a0 a1 = some r) :
  CallH Try.prog 123 [.one (.d (.sl (List.map eI a0))),.one (.d (.int .i64 a1))] []
   (.one (.d (.sl (List.map eI r)))) [] :=
 (L_slices_Repeat_int_int_own hD).fr

theorem L_graph_of_v1_own {a0 : TGraph} {a1 : Int} {r : (List Int)} (hD : L_graph_of_v1 a0 a1 = some r) :
  CallH Try.prog 113 [.agg (cTGraph a0),.one (.d (.int .i64 a1)),.one (.d (.int .i64 0))] []
   (.one (.own (1,0) r.length)) [((1,0),some (.row 3 1 (dat (List.map eI r))))] := by
 unfold L_graph_of_v1 at hD
 refine rc Try.func113 rfl Try.ntmps113 fun S Φ P0 wb ac h => ?_
 refine qs 3 [] [1,2,3] [(1,0)] h fun ac wd h => ?_
 refine qs 4 [] [1,2,3,7] [(1,0)] h fun ac wd h => ?_
 refine wp_seq ?_
 refine qs 8 [] [1,2,7,11,12,13] [] h fun ac wd h => ?_
 refine wp_block ?_
 have h := SL.bornS h 7 3 1 (by simp only [EZ,simprocAttr, *] <;> rfl)
 refine r_while (fun nf ac wd => ∃ (n197 : Int) (l198 : List Int),L_graph_of_v1_l1 a0 a1 nf n197 l198 = some r ∧ SL ⟨wb,S,Φ,P0⟩ 29 46 [(1,.one (.d (.int .i64 a1))),(2,.one (.d (.int .i64 0))),(7,.one (.own (8,0) l198.length)),(11,.one (.d (.sl (List.map eA2I a0.Links)))),(12,.one (.d (.int .i64 (a0.Links.length : Int)))),(13,.one (.d (.int .i64 n197)))] [((8,0),some (.row 3 1 (dat (List.map eI l198))))] ac wd) (((a0.Links.length : Int) - 0).toNat + 1) ⟨0,([] : List Int),hD,h.z⟩ (fun nf ac wd hJ => ?_)
 obtain ⟨n197,l198,hL199,h⟩ := hJ
 cases nf with
 | zero => rw [L_graph_of_v1_l1] at hL199; cases hL199
 | succ nf =>
  rw [L_graph_of_v1_l1] at hL199
  refine qs 47 [] [1,2,7,11,12,13,14] [(8,0)] h fun ac wd h => ?_
  refine wp_seq ?_
  rcases i2 hL199 with ⟨hb201,hL199⟩ | ⟨hb201,hL199⟩
  ·
   refine kT h ?_
   refine wp_skip ?_
   change Code.wp Try.prog _ _ _ _
   obtain ⟨e209,hE210,hL199⟩ := Option.bind_eq_some_iff.1 hL199
   refine r_seqJ (fun ac wd => ∃ (l208 : List Int),l208 = e209 ∧ SL ⟨wb,S,Φ,P0⟩ 29 63 [(1,.one (.d (.int .i64 a1))),(2,.one (.d (.int .i64 0))),(7,.one (.own (61,0) l208.length)),(11,.one (.d (.sl (List.map eA2I a0.Links)))),(12,.one (.d (.int .i64 (a0.Links.length : Int)))),(13,.one (.d (.int .i64 n197)))] [((61,0),some (.row 3 1 (dat (List.map eI l208))))] ac wd) ?_ ?_
   ·
    refine wp_block ?_
    obtain ⟨x213,hx214a,hx214b,hx214c,hx214d,hE210⟩ := aB hE210
    refine qs 53 [] [1,2,7,8,9,11,12,13] [(8,0),(50,0)] h fun ac wd h => ?_
    refine qs 58 [] [1,2,7,8,11,12,13,22] [(8,0)] h fun ac wd h => ?_
    rcases i2e hE210 with ⟨hb215,hE210⟩ | ⟨hb215,hE210⟩
    ·
     refine kT h ?_
     obtain ⟨ha216,hE210⟩ := iT hE210
     refine qe [] [1,2,7,11,12,13] [(61,0)] h fun ac wd h => ?_
     injection hE210 with hE210; subst hE210
     exact ⟨(l198 ++ [n197]),rfl,h.z⟩
    ·
     refine kF h ?_
     refine wp_skip ?_
     have h := h.sw (61,0) (8,0) 63
     injection hE210 with hE210; subst hE210
     exact ⟨l198,rfl,h.z⟩
   ·
    rintro ac wd ⟨l208,rfl,h⟩
    (try dsimp only at hL199)
    refine qe [] [1,2,7,11,12,13] [(61,0)] h fun ac wd h => ?_
    have h := h.sw (8,0) (61,0) 65
    exact ⟨nf,Nat.lt_succ_self nf,(IntKind.wrap .i64 (n197 + 1)),l208,hL199,h.z⟩
  ·
   refine kF h ?_
   refine wp_exit ?_
   change Code.wp Try.prog _ _ _ _
   refine qs 49 [] [6] [(8,0)] h fun ac wd h => ?_
   refine wp_ret ?_
   have h := h.sw (1,0) (8,0) 49
   injection hL199 with hL199
   subst hL199
   exact rO h [.tmp 6] [(1,0)]
theorem L_graph_of_v1_ok {a0 : TGraph} {a1 : Int} {r : (List Int)} (hD : L_graph_of_v1 a0 a1 = some r) :
  CallH Try.prog 113 [.agg (cTGraph a0),.one (.d (.int .i64 a1)),.one (.d (.int .i64 0))] []
   (.one (.d (.sl (List.map eI r)))) [] :=
 (L_graph_of_v1_own hD).fr

theorem L_graph_Out_own {a0 : TGraph} {a1 : Int} {r : (List Int)} (hD : L_graph_Out a0 a1 = some r) :
  CallH Try.prog 109 [.agg (cTGraph a0),.one (.d (.int .i64 a1))] []
   (.one (.own (1,0) r.length)) [((1,0),some (.row 3 1 (dat (List.map eI r))))] := by
 unfold L_graph_Out at hD
 refine rc Try.func109 rfl Try.ntmps109 fun S Φ P0 wb ac h => ?_
 refine qs 3 [] [1,2] [(1,0)] h fun ac wd h => ?_
 obtain ⟨r7,hc8,hD⟩ := oB hD
 have hc8_5 := ((L_graph_of_v1_own hc8).cls 5).z
 refine qs 7 [factO hc8_5] [4] [(5,0)] h fun ac wd h => ?_
 refine wp_ret ?_
 have h := h.sw (1,0) (5,0) 7
 injection hD with hD
 subst hD
 exact rO h [.tmp 4] [(1,0)]
theorem L_graph_Out_ok {a0 : TGraph} {a1 : Int} {r : (List Int)} (hD : L_graph_Out a0 a1 = some r) :
  CallH Try.prog 109 [.agg (cTGraph a0),.one (.d (.int .i64 a1))] []
   (.one (.d (.sl (List.map eI r)))) [] :=
 (L_graph_Out_own hD).fr

theorem L_graph_Dist_own {a0 : TGraph} {a1 : Int} {r : (List Int)} (hD : L_graph_Dist a0 a1 = some r) :
  CallH Try.prog 99 [.agg (cTGraph a0),.one (.d (.int .i64 a1))] []
   (.one (.own (1,0) r.length)) [((1,0),some (.row 3 1 (dat (List.map eI r))))] := by
 unfold L_graph_Dist at hD
 refine rc Try.func99 rfl Try.ntmps99 fun S Φ P0 wb ac h => ?_
 refine qs 3 [] [1,2] [(1,0)] h fun ac wd h => ?_
 refine wp_scope_straight ?_
 refine wp_seq ?_
 obtain ⟨r920,hc921,hD⟩ := oB hD
 have hc921k := L_graph_Graph_node_ok hc921
 refine qs 7 [factE 5 hc921k] [1,2,14] [(1,0)] h fun ac wd h => ?_
 rcases i2b hD with ⟨hb923,hD⟩ | ⟨hb923,hD⟩
 ·
  refine kF h ?_
  refine wp_skip ?_
  change Code.wp Try.prog _ _ _ _
  obtain ⟨r926,hc927,hD⟩ := oB hD
  have hc927_10 := ((L_slices_Repeat_int_int_own hc927).cls 10).z
  refine qs 12 [factO hc927_10] [1,2,5] [(1,0),(10,0)] h fun ac wd h => ?_
  obtain ⟨x930,hx931a,hx931b,hx931c,hx931d,hD⟩ := aB hD
  refine qs 16 [] [1,2,5] [(1,0),(10,0)] h fun ac wd h => ?_
  refine qs 19 [] [2,5,6] [(1,0),(10,0),(17,0)] h fun ac wd h => ?_
  refine wp_seq ?_
  refine wp_label ?_
  change Code.wp Try.prog _ _ _ _
  refine wp_seq ?_
  refine wp_block ?_
  refine r_while (fun nf ac wd => ∃ (l1684 : List Int) (l1685 : List Int),L_graph_Dist_l1 a0 nf l1684 l1685 = some r ∧ SL ⟨wb,S,Φ,P0⟩ 65 179 [(2,.one (.ptr (1,0) 0)),(5,.one (.own (10,0) l1684.length)),(6,.one (.own (17,0) l1685.length))] [((1,0),some (.box 25 (cTGraph a0))),((10,0),some (.row 3 1 (dat (List.map eI l1684)))),((17,0),some (.row 3 1 (dat (List.map eI l1685))))] ac wd) (a0.N.toNat + 2) ⟨(r926.set a1.toNat 0),[a1],hD,h.z⟩ (fun nf ac wd hJ => ?_)
  obtain ⟨l1684,l1685,hL1686,h⟩ := hJ
  cases nf with
  | zero => rw [L_graph_Dist_l1] at hL1686; cases hL1686
  | succ nf =>
   rw [L_graph_Dist_l1] at hL1686
   refine wp_block ?_
   refine wp_seq ?_
   refine qs 182 [] [2,5,6,26] [(1,0),(10,0),(17,0)] h fun ac wd h => ?_
   rcases i2e hL1686 with ⟨hb1688,hL1686⟩ | ⟨hb1688,hL1686⟩
   ·
    refine kT h ?_
    refine wp_exit ?_
    change Code.wp Try.prog _ _ _ _
    refine qs 184 [] [4] [(10,0)] h fun ac wd h => ?_
    refine wp_ret ?_
    have h := h.sw (1,0) (10,0) 184
    injection hL1686 with hL1686
    subst hL1686
    exact rO h [.tmp 4] [(1,0)]
   ·
    refine kF h ?_
    refine wp_skip ?_
    change Code.wp Try.prog _ _ _ _
    obtain ⟨x1691,hx1692a,hx1692b,hx1692c,hx1692d,hL1686⟩ := aN 0 hL1686
    refine qs 186 [] [2,5,6,7] [(1,0),(10,0),(17,0)] h fun ac wd h => ?_
    obtain ⟨ha1695,hL1686⟩ := iT hL1686
    have hq1696 : 1 + (l1685.length - 1) ≤ l1685.length := by omega
    refine qs 189 [] [2,5,6,7] [(1,0),(10,0),(17,0)] h fun ac wd h => ?_
    obtain ⟨r1699,hc1700,hL1686⟩ := oB hL1686
    have hc1700k := L_graph_Out_ok hc1700
    refine qs 194 [factE 191 hc1700k] [2,5,6,7,34,35,36] [(1,0),(10,0),(17,0)] h fun ac wd h => ?_
    obtain ⟨e1835,hE1836,hL1686⟩ := Option.bind_eq_some_iff.1 hL1686
    refine r_meetQ (fun ac wd => ∃ (l1833 : List Int) (l1834 : List Int),(l1833,l1834) = e1835 ∧ SL ⟨wb,S,Φ,P0⟩ 65 259 [(2,.one (.ptr (1,0) 0)),(5,.one (.own (10,0) l1833.length)),(6,.one (.own (17,0) l1834.length))] [((1,0),some (.box 25 (cTGraph a0))),((10,0),some (.row 3 1 (dat (List.map eI l1833)))),((17,0),some (.row 3 1 (dat (List.map eI l1834))))] ac wd) ?_ ?_
    ·
     refine wp_block ?_
     have h := h.sm 194 [(2,.one (.ptr (1,0) 0)),(5,.one (.own (10,0) l1684.length)),(6,.one (.sub (17,0) 1 1 (l1685.length - 1))),(7,.one (.d (.int .i64 x1691))),(34,.one (.d (.sl (List.map eI r1699)))),(35,.one (.d (.int .i64 (r1699.length : Int)))),(36,.one (.d (.int .i64 0)))]
      [((1,0),some (.box 25 (cTGraph a0))),((10,0),some (.row 3 1 (dat (List.map eI l1684)))),((17,0),some (.row 3 1 (dat (List.map eI l1685))))]
     have h := SL.tail h 6 (17,0) (by simp only [EZ,simprocAttr, *] <;> rfl) (by simp only [EZ,simprocAttr, *] <;> rfl) (by simp only [EZ,simprocAttr, *] <;> omega) rfl (by simp only [noIdF,EZ,simprocAttr, *] <;> rfl) (by simp only [noIdM,EZ,simprocAttr, *] <;> rfl)
     refine r_while (fun nf ac wd => ∃ (n1924 : Int) (l1925 : List Int) (l1926 : List Int),L_graph_Dist_l2 a0 r1699 x1691 nf n1924 l1925 l1926 = some e1835 ∧ SL ⟨wb,S,Φ,P0⟩ 65 258 [(2,.one (.ptr (1,0) 0)),(5,.one (.own (10,0) l1925.length)),(6,.one (.own (17,0) l1926.length)),(7,.one (.d (.int .i64 x1691))),(34,.one (.d (.sl (List.map eI r1699)))),(35,.one (.d (.int .i64 (r1699.length : Int)))),(36,.one (.d (.int .i64 n1924)))] [((1,0),some (.box 25 (cTGraph a0))),((10,0),some (.row 3 1 (dat (List.map eI l1925)))),((17,0),some (.row 3 1 (dat (List.map eI l1926))))] ac wd) (((r1699.length : Int) - 0).toNat + 1) ⟨0,l1684,(l1685.drop 1),hE1836,h.z⟩ (fun nf ac wd hJ => ?_)
     obtain ⟨n1924,l1925,l1926,hL1927,h⟩ := hJ
     cases nf with
     | zero => rw [L_graph_Dist_l2] at hL1927; cases hL1927
     | succ nf =>
      rw [L_graph_Dist_l2] at hL1927
      refine qs 259 [] [2,5,6,7,34,35,36,37] [(1,0),(10,0),(17,0)] h fun ac wd h => ?_
      refine wp_seq ?_
      rcases i2 hL1927 with ⟨hb1929,hL1927⟩ | ⟨hb1929,hL1927⟩
      ·
       refine kT h ?_
       refine wp_skip ?_
       change Code.wp Try.prog _ _ _ _
       obtain ⟨e1950,hE1951,hL1927⟩ := Option.bind_eq_some_iff.1 hL1927
       refine r_seqJ (fun ac wd => ∃ (l1948 : List Int) (l1949 : List Int),(l1948,l1949) = e1950 ∧ SL ⟨wb,S,Φ,P0⟩ 65 288 [(2,.one (.ptr (1,0) 0)),(5,.one (.own (10,0) l1948.length)),(6,.one (.own (286,0) l1949.length)),(7,.one (.d (.int .i64 x1691))),(34,.one (.d (.sl (List.map eI r1699)))),(35,.one (.d (.int .i64 (r1699.length : Int)))),(36,.one (.d (.int .i64 n1924)))] [((1,0),some (.box 25 (cTGraph a0))),((10,0),some (.row 3 1 (dat (List.map eI l1948)))),((286,0),some (.row 3 1 (dat (List.map eI l1949))))] ac wd) ?_ ?_
       ·
        refine wp_block ?_
        obtain ⟨x1954,hx1955a,hx1955b,hx1955c,hx1955d,hE1951⟩ := aB hE1951
        refine qs 262 [] [2,5,6,7,9,34,35,36] [(1,0),(10,0),(17,0)] h fun ac wd h => ?_
        obtain ⟨x1958,hx1959a,hx1959b,hx1959c,hx1959d,hE1951⟩ := aB hE1951
        refine qs 269 [] [2,5,6,7,10,34,35,36] [(1,0),(10,0),(17,0)] h fun ac wd h => ?_
        obtain ⟨x1962,hx1963a,hx1963b,hx1963c,hx1963d,hE1951⟩ := aB hE1951
        refine qs 274 [] [2,5,6,7,10,34,35,36,50] [(1,0),(10,0),(17,0)] h fun ac wd h => ?_
        rcases i2 hE1951 with ⟨hb1964,hE1951⟩ | ⟨hb1964,hE1951⟩
        ·
         refine kT h ?_
         obtain ⟨x1967,hx1968a,hx1968b,hx1968c,hx1968d,hE1951⟩ := aB hE1951
         refine qs 283 [] [2,5,6,7,10,34,35,36] [(1,0),(10,0),(17,0)] h fun ac wd h => ?_
         obtain ⟨ha1969,hE1951⟩ := iT hE1951
         refine qe [] [2,5,6,7,34,35,36] [(1,0),(10,0),(286,0)] h fun ac wd h => ?_
         injection hE1951 with hE1951; subst hE1951
         exact ⟨(l1925.set x1958.a1.toNat (IntKind.wrap .i64 (x1967 + 1))),(l1926 ++ [x1958.a1]),rfl,h.z⟩
        ·
         refine kF h ?_
         refine wp_skip ?_
         have h := h.sw (286,0) (17,0) 288
         injection hE1951 with hE1951; subst hE1951
         exact ⟨l1925,l1926,rfl,h.z⟩
       ·
        rintro ac wd ⟨l1948,l1949,rfl,h⟩
        (try dsimp only at hL1927)
        refine qe [] [2,5,6,7,34,35,36] [(1,0),(10,0),(286,0)] h fun ac wd h => ?_
        have h := h.sw (17,0) (286,0) 290
        exact ⟨nf,Nat.lt_succ_self nf,(IntKind.wrap .i64 (n1924 + 1)),l1948,l1949,hL1927,h.z⟩
      ·
       refine kF h ?_
       refine wp_exit ?_
       injection hL1927 with hL1927; subst hL1927
       exact ⟨l1925,l1926,rfl,h.z⟩
    ·
     rintro ac wd ⟨l1833,l1834,rfl,h⟩
     (try dsimp only at hL1686)
     exact ⟨nf,Nat.lt_succ_self nf,l1833,l1834,hL1686,h.z⟩
 ·
  refine kT h ?_
  refine qs 8 [] [4] [] h fun ac wd h => ?_
  refine wp_ret ?_
  have h := SL.bornS h 4 3 1 (by simp only [EZ,simprocAttr, *] <;> rfl)
  have h := h.sw (1,0) (8,0) 9
  injection hD with hD
  subst hD
  exact rO h [.tmp 4] [(1,0)]
theorem L_graph_Dist_ok {a0 : TGraph} {a1 : Int} {r : (List Int)} (hD : L_graph_Dist a0 a1 = some r) :
  CallH Try.prog 99 [.agg (cTGraph a0),.one (.d (.int .i64 a1))] []
   (.one (.d (.sl (List.map eI r)))) [] :=
 (L_graph_Dist_own hD).fr

theorem L_slices_Index_int_int_ok {a0 : (List Int)} {a1 : Int} {r : Int} (hD : L_slices_Index_int_int a0 a1 = some r) :
  CallH Try.prog 83 [.one (.d (.sl (List.map eI a0))),.one (.d (.int .i64 a1))] []
   (.one (.d (.int .i64 r))) [] := by
 unfold L_slices_Index_int_int at hD
 refine rc Try.func83 rfl Try.ntmps83 fun S Φ P0 wb ac h => ?_
 refine qs 2 [] [0,1] [] h fun ac wd h => ?_
 refine wp_seq ?_
 refine qs 5 [] [0,1,7,8] [] h fun ac wd h => ?_
 refine wp_block ?_
 refine r_while (fun nf ac wd => ∃ (n143 : Int),L_slices_Index_int_int_l1 a0 a1 nf n143 = some r ∧ SL ⟨wb,S,Φ,P0⟩ 19 27 [(0,.one (.d (.sl (List.map eI a0)))),(1,.one (.d (.int .i64 a1))),(7,.one (.d (.int .i64 (a0.length : Int)))),(8,.one (.d (.int .i64 n143)))] [] ac wd) (((a0.length : Int) - 0).toNat + 1) ⟨0,hD,h.z⟩ (fun nf ac wd hJ => ?_)
 obtain ⟨n143,hL144,h⟩ := hJ
 cases nf with
 | zero => rw [L_slices_Index_int_int_l1] at hL144; cases hL144
 | succ nf =>
  rw [L_slices_Index_int_int_l1] at hL144
  refine qs 28 [] [0,1,7,8,9] [] h fun ac wd h => ?_
  refine wp_seq ?_
  rcases i2 hL144 with ⟨hb146,hL144⟩ | ⟨hb146,hL144⟩
  ·
   refine kT h ?_
   refine wp_skip ?_
   change Code.wp Try.prog _ _ _ _
   refine wp_seq ?_
   refine wp_block ?_
   refine qs 30 [] [0,1,5,7,8] [] h fun ac wd h => ?_
   obtain ⟨x154,hx155a,hx155b,hx155c,hx155d,hL144⟩ := aB hL144
   refine qs 36 [] [0,1,5,7,8,16] [] h fun ac wd h => ?_
   rcases i2e hL144 with ⟨hb156,hL144⟩ | ⟨hb156,hL144⟩
   ·
    refine kT h ?_
    refine qs 38 [] [4] [] h fun ac wd h => ?_
    refine wp_ret ?_
    injection hL144 with hL144
    subst hL144
    exact rE h [.tmp 4]
   ·
    refine kF h ?_
    refine wp_skip ?_
    change Code.wp Try.prog _ _ _ _
    refine qe [] [0,1,7,8] [] h fun ac wd h => ?_
    exact ⟨nf,Nat.lt_succ_self nf,(IntKind.wrap .i64 (n143 + 1)),hL144,h.z⟩
  ·
   refine kF h ?_
   refine wp_exit ?_
   change Code.wp Try.prog _ _ _ _
   refine qs 29 [] [4] [] h fun ac wd h => ?_
   refine wp_ret ?_
   injection hL144 with hL144
   subst hL144
   exact rE h [.tmp 4]

theorem L_slices_Contains_int_int_ok {a0 : (List Int)} {a1 : Int} {r : Bool} (hD : L_slices_Contains_int_int a0 a1 = some r) :
  CallH Try.prog 76 [.one (.d (.sl (List.map eI a0))),.one (.d (.int .i64 a1))] []
   (.one (.d (.bool r))) [] := by
 unfold L_slices_Contains_int_int at hD
 refine rc Try.func76 rfl Try.ntmps76 fun S Φ P0 wb ac h => ?_
 refine qs 2 [] [0,1] [] h fun ac wd h => ?_
 obtain ⟨r7,hc8,hD⟩ := oB hD
 have hc8k := L_slices_Index_int_int_ok hc8
 refine qs 7 [factE 4 hc8k] [4] [] h fun ac wd h => ?_
 refine wp_ret ?_
 injection hD with hD
 subst hD
 exact rE h [.tmp 4]

end Go.Proofs.Ytabbejabdkkaiaa
