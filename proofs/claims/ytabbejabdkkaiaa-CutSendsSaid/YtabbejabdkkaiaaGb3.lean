/- Functions as typed ones,and that the program's functions answer as these do. No condition. -/
import Derived.Test.YtabbejabdkkaiaaGd
set_option linter.unusedSimpArgs false
set_option linter.unusedVariables false
set_option maxRecDepth 20000
set_option maxHeartbeats 4000000
namespace Go.Proofs.Ytabbejabdkkaiaa
open Go.RowKit

theorem L_graph_Full_own {a0 : Int} {r : TGraph} (hD : L_graph_Full a0 = some r) :
  CallH Try.prog 58 [.one (.d (.int .i64 a0))] []
   (.agg [.d (.int .i64 r.N),.own (1,0) r.Links.length]) [((1,0),some (.row 126 2 (dat (List.map eA2I r.Links))))] := by
 unfold L_graph_Full at hD
 refine rc Try.func58 rfl Try.ntmps58 fun S Φ P0 wb ac h => ?_
 refine qs 2 [] [0,2] [(1,0)] h fun ac wd h => ?_
 refine qs 8 [] [2,3] [(1,0),(6,0)] h fun ac wd h => ?_
 refine wp_seq ?_
 refine qs 11 [] [2,3,11,12] [(1,0),(6,0)] h fun ac wd h => ?_
 refine wp_block ?_
 have h := SL.bornB h (6,0) 1 126 2 (by simp only [EZ,simprocAttr, *] <;> rfl) (by simp only [EZ,simprocAttr, *] <;> rfl)
 refine r_while (fun nf ac wd => ∃ (aa : Int) (ab : List A2I),L_graph_Full_l1 a0 nf aa ab = some r ∧ SL ⟨wb,S,Φ,P0⟩ 34 105 [(2,.one (.ptr (1,0) 0)),(3,.one (.ptr (6,0) 0)),(11,.one (.d (.int .i64 (min (max a0 1) 6)))),(12,.one (.d (.int .i64 aa)))] [((1,0),some (.box 25 [.d (.int .i64 0),.nil])),((6,0),some (.box 25 [.d (.int .i64 (min (max a0 1) 6)),.own (11,0) ab.length])),((11,0),some (.row 126 2 (dat (List.map eA2I ab))))] ac wd) (((min (max a0 1) 6) - 0).toNat + 1) ⟨0,([] : List A2I),hD,h.z⟩ (fun nf ac wd hJ => ?_)
 obtain ⟨aa,ab,ad,h⟩ := hJ
 cases nf with
 | zero => rw [L_graph_Full_l1] at ad; cases ad
 | succ nf =>
  rw [L_graph_Full_l1] at ad
  refine qs 106 [] [2,3,11,12,13] [(1,0),(6,0),(11,0)] h fun ac wd h => ?_
  refine wp_seq ?_
  rcases i2 ad with ⟨ae,ad⟩ | ⟨ae,ad⟩
  ·
   refine kT h ?_
   refine wp_skip ?_
   change Code.wp Try.prog _ _ _ _
   obtain ⟨af,ag,ad⟩ := Option.bind_eq_some_iff.1 ad
   refine r_seqJ (fun ac wd => ∃ (ah : List A2I),ah = af ∧ SL ⟨wb,S,Φ,P0⟩ 34 146 [(2,.one (.ptr (1,0) 0)),(3,.one (.ptr (6,0) 0)),(11,.one (.d (.int .i64 (min (max a0 1) 6)))),(12,.one (.d (.int .i64 aa)))] [((1,0),some (.box 25 [.d (.int .i64 0),.nil])),((6,0),some (.box 25 [.d (.int .i64 (min (max a0 1) 6)),.own (11,0) ah.length])),((11,0),some (.row 126 2 (dat (List.map eA2I ah))))] ac wd) ?_ ?_
   ·
    refine wp_block ?_
    refine qs 108 [] [2,3,4,11,12] [(1,0),(6,0),(11,0)] h fun ac wd h => ?_
    refine qs 111 [] [2,3,4,11,12,16,17] [(1,0),(6,0),(11,0)] h fun ac wd h => ?_
    obtain ⟨ai,aj,ag⟩ := Option.bind_eq_some_iff.1 ag
    refine r_meetQ (fun ac wd => ∃ (ak : List A2I),ak = ai ∧ SL ⟨wb,S,Φ,P0⟩ 34 146 [(2,.one (.ptr (1,0) 0)),(3,.one (.ptr (6,0) 0)),(11,.one (.d (.int .i64 (min (max a0 1) 6)))),(12,.one (.d (.int .i64 aa)))] [((1,0),some (.box 25 [.d (.int .i64 0),.nil])),((6,0),some (.box 25 [.d (.int .i64 (min (max a0 1) 6)),.own (11,0) ak.length])),((11,0),some (.row 126 2 (dat (List.map eA2I ak))))] ac wd) ?_ ?_
    ·
     refine wp_block ?_
     refine r_while (fun nf ac wd => ∃ (al : Int) (am : List A2I),L_graph_Full_l2 a0 aa nf al am = some ai ∧ SL ⟨wb,S,Φ,P0⟩ 34 145 [(2,.one (.ptr (1,0) 0)),(3,.one (.ptr (6,0) 0)),(4,.one (.d (.int .i64 aa))),(11,.one (.d (.int .i64 (min (max a0 1) 6)))),(12,.one (.d (.int .i64 aa))),(16,.one (.d (.int .i64 (min (max a0 1) 6)))),(17,.one (.d (.int .i64 al)))] [((1,0),some (.box 25 [.d (.int .i64 0),.nil])),((6,0),some (.box 25 [.d (.int .i64 (min (max a0 1) 6)),.own (11,0) am.length])),((11,0),some (.row 126 2 (dat (List.map eA2I am))))] ac wd) (((min (max a0 1) 6) - 0).toNat + 1) ⟨0,ab,aj,h.z⟩ (fun nf ac wd hJ => ?_)
     obtain ⟨al,am,an,h⟩ := hJ
     cases nf with
     | zero => rw [L_graph_Full_l2] at an; cases an
     | succ nf =>
      rw [L_graph_Full_l2] at an
      refine qs 146 [] [2,3,4,11,12,16,17,18] [(1,0),(6,0),(11,0)] h fun ac wd h => ?_
      refine wp_seq ?_
      rcases i2 an with ⟨ao,an⟩ | ⟨ao,an⟩
      ·
       refine kT h ?_
       refine wp_skip ?_
       change Code.wp Try.prog _ _ _ _
       obtain ⟨ap,aq,an⟩ := Option.bind_eq_some_iff.1 an
       refine r_seqJ (fun ac wd => ∃ (ar : List A2I),ar = ap ∧ SL ⟨wb,S,Φ,P0⟩ 34 160 [(2,.one (.ptr (1,0) 0)),(3,.one (.ptr (6,0) 0)),(4,.one (.d (.int .i64 aa))),(11,.one (.d (.int .i64 (min (max a0 1) 6)))),(12,.one (.d (.int .i64 aa))),(16,.one (.d (.int .i64 (min (max a0 1) 6)))),(17,.one (.d (.int .i64 al)))] [((1,0),some (.box 25 [.d (.int .i64 0),.nil])),((6,0),some (.box 25 [.d (.int .i64 (min (max a0 1) 6)),.own (11,0) ar.length])),((11,0),some (.row 126 2 (dat (List.map eA2I ar))))] ac wd) ?_ ?_
       ·
        refine wp_block ?_
        refine qs 148 [] [2,3,4,5,11,12,16,17] [(1,0),(6,0),(11,0)] h fun ac wd h => ?_
        refine qs 151 [] [2,3,4,5,11,12,16,17,22] [(1,0),(6,0),(11,0)] h fun ac wd h => ?_
        rcases i2e aq with ⟨au,aq⟩ | ⟨au,aq⟩
        ·
         refine kF h ?_
         refine wp_skip ?_
         injection aq with aq; subst aq
         exact ⟨am,rfl,h.z⟩
        ·
         refine kT h ?_
         obtain ⟨av,aq⟩ := iT aq
         refine qe [] [2,3,4,11,12,16,17] [(1,0),(6,0),(157,0)] h fun ac wd h => ?_
         have h := h.sw (11,0) (157,0) 160
         injection aq with aq; subst aq
         exact ⟨(am ++ [(A2I.mk aa al)]),rfl,h.z⟩
       ·
        rintro ac wd ⟨ar,rfl,h⟩
        (try dsimp only at an)
        refine qe [] [2,3,4,11,12,16,17] [(1,0),(6,0),(11,0)] h fun ac wd h => ?_
        exact ⟨nf,Nat.lt_succ_self nf,(IntKind.wrap .i64 (al + 1)),ar,an,h.z⟩
      ·
       refine kF h ?_
       refine wp_exit ?_
       injection an with an; subst an
       exact ⟨am,rfl,h.z⟩
    ·
     rintro ac wd ⟨ak,rfl,h⟩
     (try dsimp only at ag)
     injection ag with ag; subst ag
     exact ⟨ak,rfl,h.z⟩
   ·
    rintro ac wd ⟨ah,rfl,h⟩
    (try dsimp only at ad)
    refine qe [] [2,3,11,12] [(1,0),(6,0),(11,0)] h fun ac wd h => ?_
    exact ⟨nf,Nat.lt_succ_self nf,(IntKind.wrap .i64 (aa + 1)),ah,ad,h.z⟩
  ·
   refine kF h ?_
   refine wp_exit ?_
   change Code.wp Try.prog _ _ _ _
   refine qs 108 [] [2] [(1,0),(11,0)] h fun ac wd h => ?_
   refine wp_ret ?_
   have h := h.sw (1,0) (11,0) 108
   injection ad with ad
   subst ad
   exact rO h [.cell 2 25] [(1,0)]
theorem L_graph_Full_ok {a0 : Int} {r : TGraph} (hD : L_graph_Full a0 = some r) :
  CallH Try.prog 58 [.one (.d (.int .i64 a0))] []
   (.agg [.d (.int .i64 r.N),.d (.sl (List.map eA2I r.Links))]) [] :=
 (L_graph_Full_own hD).fr

theorem L_law05_Two_own {r : TApp} (hD : L_law05_Two = some r) :
  CallH Try.prog 84 [] []
   (.agg [.d (.int .i64 r.G.N),.own (1,0) r.G.Links.length,.own (1,1) r.T.length,.d (.bool r.Fifo)]) [((1,0),some (.row 126 2 (dat (List.map eA2I r.G.Links)))),((1,1),some (.row 38 2 (openRows cols_38 (List.map eTNode r.T))))] := by
 unfold L_law05_Two at hD
 refine rc Try.func84 rfl Try.ntmps84 fun S Φ P0 wb ac h => ?_
 refine qs 2 [] [0] [(1,0)] h fun ac wd h => ?_
 obtain ⟨r7,ab,hD⟩ := oB hD
 have ad := ((L_graph_Full_own ab).cls 2).z
 refine qs 22 [factO ad] [0] [(1,0),(2,0),(5,0),(7,0),(10,0),(12,0),(14,0),(17,0),(19,0)] h fun ac wd h => ?_
 have h := h.fL (cols := (fun _ => .sc)) (7,0) (5,0) ([]) [.d (.int .i64 1),.own (5,0) (1 + 1)] 1 (List.map eTSend ([(TSend.mk 1 1)] ++ [(TSend.mk 1 2)])) (sc_50 _)
 have h := h.sm 22 [(0,.one (.ptr (1,0) 0))]
  [((1,0),some (.box 53 [.d (.int .i64 r7.N),.own (2,0) r7.Links.length,.own (19,0) (1 + 1),.d (.bool false)])),((2,0),some (.row 126 2 (dat (List.map eA2I r7.Links)))),((7,0),some (.row 46 2 ([[.d (.int .i64 1),.tr (.sl 50 2 (fun _ => .sc)) (.sl (List.map eTSend ([(TSend.mk 1 1)] ++ [(TSend.mk 1 2)])))]]))),((10,0),some (.row 43 4 (([[.d (.int .i64 1),.nil,.own (7,0) 1,.nil]] ++ [[.d (.int .i64 0),.nil,.nil,.nil]])))),((12,0),some (.row 3 1 ([[.d (.int .i64 0)]]))),((14,0),some (.row 48 3 ([[.d (.int .i64 0),.d (.int .i64 1),.d (.int .i64 1)]]))),((17,0),some (.row 43 4 (([[.d (.int .i64 2),.own (12,0) 1,.nil,.own (14,0) 1]] ++ [[.d (.int .i64 0),.nil,.nil,.nil]])))),((19,0),some (.row 38 2 (([[.d (.int .i64 0),.own (10,0) (1 + 1)]] ++ [[.d (.int .i64 0),.own (17,0) (1 + 1)]]))))]
 have h := h.nilTr (10,0) (l := ([[.d (.int .i64 1),.nil,.own (7,0) 1,.nil]] ++ [[.d (.int .i64 0),.nil,.nil,.nil]])) (l' := ([[.d (.int .i64 1),.tr (.sl 3 1 (fun _ => .sc)) (.sl (List.map eI [])),.own (7,0) 1,.tr (.sl 48 3 (fun _ => .sc)) (.sl (List.map eTTake []))]] ++ [[.d (.int .i64 0),.tr (.sl 3 1 (fun _ => .sc)) (.sl (List.map eI [])),.tr (.sl 46 2 cols_46) (.sl (List.map eTPick [])),.tr (.sl 48 3 (fun _ => .sc)) (.sl (List.map eTTake []))]])) (by simp only [EZ,simprocAttr] <;> rfl) (RowsTo.append (RowsTo.cons (RowTo.cons (.inl rfl) (RowTo.cons (.inr (.inr ⟨rfl,_,_,_,rfl⟩)) (RowTo.cons (.inl rfl) (RowTo.cons (.inr (.inr ⟨rfl,_,_,_,rfl⟩)) RowTo.nil)))) (RowsTo.refl [])) (RowsTo.cons (RowTo.cons (.inl rfl) (RowTo.cons (.inr (.inr ⟨rfl,_,_,_,rfl⟩)) (RowTo.cons (.inr (.inr ⟨rfl,_,_,_,rfl⟩)) (RowTo.cons (.inr (.inr ⟨rfl,_,_,_,rfl⟩)) RowTo.nil)))) (RowsTo.refl [])))
 have h := h.sm 22 [(0,.one (.ptr (1,0) 0))]
  [((1,0),some (.box 53 [.d (.int .i64 r7.N),.own (2,0) r7.Links.length,.own (19,0) (1 + 1),.d (.bool false)])),((2,0),some (.row 126 2 (dat (List.map eA2I r7.Links)))),((7,0),some (.row 46 2 (openRows cols_46 (List.map eTPick ([(TPick.mk 1 ([(TSend.mk 1 1)] ++ [(TSend.mk 1 2)]))]))))),((10,0),some (.row 43 4 (([[.d (.int .i64 1),.tr (.sl 3 1 (fun _ => .sc)) (.sl (List.map eI [])),.own (7,0) 1,.tr (.sl 48 3 (fun _ => .sc)) (.sl (List.map eTTake []))]] ++ [[.d (.int .i64 0),.tr (.sl 3 1 (fun _ => .sc)) (.sl (List.map eI [])),.tr (.sl 46 2 cols_46) (.sl (List.map eTPick [])),.tr (.sl 48 3 (fun _ => .sc)) (.sl (List.map eTTake []))]])))),((12,0),some (.row 3 1 ([[.d (.int .i64 0)]]))),((14,0),some (.row 48 3 ([[.d (.int .i64 0),.d (.int .i64 1),.d (.int .i64 1)]]))),((17,0),some (.row 43 4 (([[.d (.int .i64 2),.own (12,0) 1,.nil,.own (14,0) 1]] ++ [[.d (.int .i64 0),.nil,.nil,.nil]])))),((19,0),some (.row 38 2 (([[.d (.int .i64 0),.own (10,0) (1 + 1)]] ++ [[.d (.int .i64 0),.own (17,0) (1 + 1)]]))))]
 have h := h.f0 (cols := cols_46) (l := ([[.d (.int .i64 1),.tr (.sl 3 1 (fun _ => .sc)) (.sl (List.map eI [])),.own (7,0) 1,.tr (.sl 48 3 (fun _ => .sc)) (.sl (List.map eTTake []))]] ++ [[.d (.int .i64 0),.tr (.sl 3 1 (fun _ => .sc)) (.sl (List.map eI [])),.tr (.sl 46 2 cols_46) (.sl (List.map eTPick [])),.tr (.sl 48 3 (fun _ => .sc)) (.sl (List.map eTTake []))]])) (r := [.d (.int .i64 1),.tr (.sl 3 1 (fun _ => .sc)) (.sl (List.map eI [])),.own (7,0) 1,.tr (.sl 48 3 (fun _ => .sc)) (.sl (List.map eTTake []))]) (L := List.map eTPick ([(TPick.mk 1 ([(TSend.mk 1 1)] ++ [(TSend.mk 1 2)]))])) (10,0) (7,0) 0 2 (sc_46 _)
 have h := h.sm 22 [(0,.one (.ptr (1,0) 0))]
  [((1,0),some (.box 53 [.d (.int .i64 r7.N),.own (2,0) r7.Links.length,.own (19,0) (1 + 1),.d (.bool false)])),((2,0),some (.row 126 2 (dat (List.map eA2I r7.Links)))),((10,0),some (.row 43 4 (([[.d (.int .i64 1),.tr (.sl 3 1 (fun _ => .sc)) (.sl (List.map eI [])),.tr (.sl 46 2 cols_46) (.sl (List.map eTPick ([(TPick.mk 1 ([(TSend.mk 1 1)] ++ [(TSend.mk 1 2)]))]))),.tr (.sl 48 3 (fun _ => .sc)) (.sl (List.map eTTake []))]] ++ [[.d (.int .i64 0),.tr (.sl 3 1 (fun _ => .sc)) (.sl (List.map eI [])),.tr (.sl 46 2 cols_46) (.sl (List.map eTPick [])),.tr (.sl 48 3 (fun _ => .sc)) (.sl (List.map eTTake []))]])))),((12,0),some (.row 3 1 ([[.d (.int .i64 0)]]))),((14,0),some (.row 48 3 ([[.d (.int .i64 0),.d (.int .i64 1),.d (.int .i64 1)]]))),((17,0),some (.row 43 4 (([[.d (.int .i64 2),.own (12,0) 1,.nil,.own (14,0) 1]] ++ [[.d (.int .i64 0),.nil,.nil,.nil]])))),((19,0),some (.row 38 2 (([[.d (.int .i64 0),.own (10,0) (1 + 1)]] ++ [[.d (.int .i64 0),.own (17,0) (1 + 1)]]))))]
 have h := h.nilTr (17,0) (l := ([[.d (.int .i64 2),.own (12,0) 1,.nil,.own (14,0) 1]] ++ [[.d (.int .i64 0),.nil,.nil,.nil]])) (l' := ([[.d (.int .i64 2),.own (12,0) 1,.tr (.sl 46 2 cols_46) (.sl (List.map eTPick [])),.own (14,0) 1]] ++ [[.d (.int .i64 0),.tr (.sl 3 1 (fun _ => .sc)) (.sl (List.map eI [])),.tr (.sl 46 2 cols_46) (.sl (List.map eTPick [])),.tr (.sl 48 3 (fun _ => .sc)) (.sl (List.map eTTake []))]])) (by simp only [EZ,simprocAttr] <;> rfl) (RowsTo.append (RowsTo.cons (RowTo.cons (.inl rfl) (RowTo.cons (.inl rfl) (RowTo.cons (.inr (.inr ⟨rfl,_,_,_,rfl⟩)) (RowTo.cons (.inl rfl) RowTo.nil)))) (RowsTo.refl [])) (RowsTo.cons (RowTo.cons (.inl rfl) (RowTo.cons (.inr (.inr ⟨rfl,_,_,_,rfl⟩)) (RowTo.cons (.inr (.inr ⟨rfl,_,_,_,rfl⟩)) (RowTo.cons (.inr (.inr ⟨rfl,_,_,_,rfl⟩)) RowTo.nil)))) (RowsTo.refl [])))
 have h := h.sm 22 [(0,.one (.ptr (1,0) 0))]
  [((1,0),some (.box 53 [.d (.int .i64 r7.N),.own (2,0) r7.Links.length,.own (19,0) (1 + 1),.d (.bool false)])),((2,0),some (.row 126 2 (dat (List.map eA2I r7.Links)))),((10,0),some (.row 43 4 (openRows cols_43 (List.map eTState ([(TState.mk 1 [] ([(TPick.mk 1 ([(TSend.mk 1 1)] ++ [(TSend.mk 1 2)]))]) [])] ++ [(TState.mk 0 [] [] [])]))))),((12,0),some (.row 3 1 (dat (List.map eI [0])))),((14,0),some (.row 48 3 (dat (List.map eTTake [(TTake.mk 0 1 1)])))),((17,0),some (.row 43 4 (([[.d (.int .i64 2),.own (12,0) 1,.tr (.sl 46 2 cols_46) (.sl (List.map eTPick [])),.own (14,0) 1]] ++ [[.d (.int .i64 0),.tr (.sl 3 1 (fun _ => .sc)) (.sl (List.map eI [])),.tr (.sl 46 2 cols_46) (.sl (List.map eTPick [])),.tr (.sl 48 3 (fun _ => .sc)) (.sl (List.map eTTake []))]])))),((19,0),some (.row 38 2 (([[.d (.int .i64 0),.own (10,0) (1 + 1)]] ++ [[.d (.int .i64 0),.own (17,0) (1 + 1)]]))))]
 have h := h.f0 (cols := (fun _ => .sc)) (l := ([[.d (.int .i64 2),.own (12,0) 1,.tr (.sl 46 2 cols_46) (.sl (List.map eTPick [])),.own (14,0) 1]] ++ [[.d (.int .i64 0),.tr (.sl 3 1 (fun _ => .sc)) (.sl (List.map eI [])),.tr (.sl 46 2 cols_46) (.sl (List.map eTPick [])),.tr (.sl 48 3 (fun _ => .sc)) (.sl (List.map eTTake []))]])) (r := [.d (.int .i64 2),.own (12,0) 1,.tr (.sl 46 2 cols_46) (.sl (List.map eTPick [])),.own (14,0) 1]) (L := List.map eI [0]) (17,0) (12,0) 0 1 (sc_3 _)
 have h := h.sm 22 [(0,.one (.ptr (1,0) 0))]
  [((1,0),some (.box 53 [.d (.int .i64 r7.N),.own (2,0) r7.Links.length,.own (19,0) (1 + 1),.d (.bool false)])),((2,0),some (.row 126 2 (dat (List.map eA2I r7.Links)))),((10,0),some (.row 43 4 (openRows cols_43 (List.map eTState ([(TState.mk 1 [] ([(TPick.mk 1 ([(TSend.mk 1 1)] ++ [(TSend.mk 1 2)]))]) [])] ++ [(TState.mk 0 [] [] [])]))))),((14,0),some (.row 48 3 (dat (List.map eTTake [(TTake.mk 0 1 1)])))),((17,0),some (.row 43 4 (([[.d (.int .i64 2),.tr (.sl 3 1 (fun _ => .sc)) (.sl (List.map eI [0])),.tr (.sl 46 2 cols_46) (.sl (List.map eTPick [])),.own (14,0) 1]] ++ [[.d (.int .i64 0),.tr (.sl 3 1 (fun _ => .sc)) (.sl (List.map eI [])),.tr (.sl 46 2 cols_46) (.sl (List.map eTPick [])),.tr (.sl 48 3 (fun _ => .sc)) (.sl (List.map eTTake []))]])))),((19,0),some (.row 38 2 (([[.d (.int .i64 0),.own (10,0) (1 + 1)]] ++ [[.d (.int .i64 0),.own (17,0) (1 + 1)]]))))]
 have h := h.f0 (cols := (fun _ => .sc)) (l := ([[.d (.int .i64 2),.tr (.sl 3 1 (fun _ => .sc)) (.sl (List.map eI [0])),.tr (.sl 46 2 cols_46) (.sl (List.map eTPick [])),.own (14,0) 1]] ++ [[.d (.int .i64 0),.tr (.sl 3 1 (fun _ => .sc)) (.sl (List.map eI [])),.tr (.sl 46 2 cols_46) (.sl (List.map eTPick [])),.tr (.sl 48 3 (fun _ => .sc)) (.sl (List.map eTTake []))]])) (r := [.d (.int .i64 2),.tr (.sl 3 1 (fun _ => .sc)) (.sl (List.map eI [0])),.tr (.sl 46 2 cols_46) (.sl (List.map eTPick [])),.own (14,0) 1]) (L := List.map eTTake [(TTake.mk 0 1 1)]) (17,0) (14,0) 0 3 (sc_48 _)
 have h := h.sm 22 [(0,.one (.ptr (1,0) 0))]
  [((1,0),some (.box 53 [.d (.int .i64 r7.N),.own (2,0) r7.Links.length,.own (19,0) (1 + 1),.d (.bool false)])),((2,0),some (.row 126 2 (dat (List.map eA2I r7.Links)))),((10,0),some (.row 43 4 (openRows cols_43 (List.map eTState ([(TState.mk 1 [] ([(TPick.mk 1 ([(TSend.mk 1 1)] ++ [(TSend.mk 1 2)]))]) [])] ++ [(TState.mk 0 [] [] [])]))))),((17,0),some (.row 43 4 (([[.d (.int .i64 2),.tr (.sl 3 1 (fun _ => .sc)) (.sl (List.map eI [0])),.tr (.sl 46 2 cols_46) (.sl (List.map eTPick [])),.tr (.sl 48 3 (fun _ => .sc)) (.sl (List.map eTTake [(TTake.mk 0 1 1)]))]] ++ [[.d (.int .i64 0),.tr (.sl 3 1 (fun _ => .sc)) (.sl (List.map eI [])),.tr (.sl 46 2 cols_46) (.sl (List.map eTPick [])),.tr (.sl 48 3 (fun _ => .sc)) (.sl (List.map eTTake []))]])))),((19,0),some (.row 38 2 (([[.d (.int .i64 0),.own (10,0) (1 + 1)]] ++ [[.d (.int .i64 0),.own (17,0) (1 + 1)]]))))]
 have h := h.fL (cols := cols_43) (19,0) (17,0) ([[.d (.int .i64 0),.own (10,0) (1 + 1)]]) [.d (.int .i64 0),.own (17,0) (1 + 1)] 1 (List.map eTState ([(TState.mk 2 [0] [] [(TTake.mk 0 1 1)])] ++ [(TState.mk 0 [] [] [])])) (sc_43 _)
 have h := h.sm 22 [(0,.one (.ptr (1,0) 0))]
  [((1,0),some (.box 53 [.d (.int .i64 r7.N),.own (2,0) r7.Links.length,.own (19,0) (1 + 1),.d (.bool false)])),((2,0),some (.row 126 2 (dat (List.map eA2I r7.Links)))),((10,0),some (.row 43 4 (openRows cols_43 (List.map eTState ([(TState.mk 1 [] ([(TPick.mk 1 ([(TSend.mk 1 1)] ++ [(TSend.mk 1 2)]))]) [])] ++ [(TState.mk 0 [] [] [])]))))),((19,0),some (.row 38 2 (([[.d (.int .i64 0),.own (10,0) (1 + 1)]] ++ [[.d (.int .i64 0),.tr (.sl 43 4 cols_43) (.sl (List.map eTState ([(TState.mk 2 [0] [] [(TTake.mk 0 1 1)])] ++ [(TState.mk 0 [] [] [])])))]]))))]
 have h := h.f0 (cols := cols_43) (l := ([[.d (.int .i64 0),.own (10,0) (1 + 1)]] ++ [[.d (.int .i64 0),.tr (.sl 43 4 cols_43) (.sl (List.map eTState ([(TState.mk 2 [0] [] [(TTake.mk 0 1 1)])] ++ [(TState.mk 0 [] [] [])])))]])) (r := [.d (.int .i64 0),.own (10,0) (1 + 1)]) (L := List.map eTState ([(TState.mk 1 [] ([(TPick.mk 1 ([(TSend.mk 1 1)] ++ [(TSend.mk 1 2)]))]) [])] ++ [(TState.mk 0 [] [] [])])) (19,0) (10,0) 0 1 (sc_43 _)
 have h := h.sm 22 [(0,.one (.ptr (1,0) 0))]
  [((1,0),some (.box 53 [.d (.int .i64 r7.N),.own (2,0) r7.Links.length,.own (19,0) (1 + 1),.d (.bool false)])),((2,0),some (.row 126 2 (dat (List.map eA2I r7.Links)))),((19,0),some (.row 38 2 (([[.d (.int .i64 0),.tr (.sl 43 4 cols_43) (.sl (List.map eTState ([(TState.mk 1 [] ([(TPick.mk 1 ([(TSend.mk 1 1)] ++ [(TSend.mk 1 2)]))]) [])] ++ [(TState.mk 0 [] [] [])])))]] ++ [[.d (.int .i64 0),.tr (.sl 43 4 cols_43) (.sl (List.map eTState ([(TState.mk 2 [0] [] [(TTake.mk 0 1 1)])] ++ [(TState.mk 0 [] [] [])])))]]))))]
 refine wp_ret ?_
 have h := h.sw (1,0) (2,0) 22
 have h := h.sw (1,1) (19,0) 22
 injection hD with hD
 subst hD
 exact rO h [.cell 0 53] [(1,0),(1,1)]
theorem L_law05_Two_ok {r : TApp} (hD : L_law05_Two = some r) :
  CallH Try.prog 84 [] []
   (.agg [.d (.int .i64 r.G.N),.d (.sl (List.map eA2I r.G.Links)),.d (.sl (List.map eTNode r.T)),.d (.bool r.Fifo)]) [] :=
 (L_law05_Two_own hD).fr

theorem L_plain_Start_own {a0 : TApp} {r : TConf} (hD : L_plain_Start a0 = some r) :
  CallH Try.prog 85 [.agg (cTApp a0)] []
   (.agg [.own (1,0) r.States.length,.own (1,1) r.Links.length,.own (1,2) r.Sent.length]) [((1,0),some (.row 3 1 (dat (List.map eI r.States)))),((1,1),some (.row 170 1 (openRows cols_170 (List.map (eL eTMsg) r.Links)))),((1,2),some (.row 3 1 (dat (List.map eI r.Sent))))] := by
 unfold L_plain_Start at hD
 refine rc Try.func85 rfl Try.ntmps85 fun S Φ P0 wb ac h => ?_
 refine qs 3 [] [1,2] [(1,0),(2,0)] h fun ac wd h => ?_
 obtain ⟨aa,hD⟩ := iT hD
 obtain ⟨ab,hD⟩ := iT hD
 obtain ⟨ad,hD⟩ := iT hD
 refine ds 16 [] [1,2,3] [(1,0),(2,0),(7,0),(12,0),(14,0)] h fun ac wd h => ?_
 have h := h.nilTr (7,0) (l := List.replicate a0.G.Links.length [.nil]) (l' := List.replicate a0.G.Links.length [.tr (.sl 59 2 (fun _ => .sc)) (.sl (List.map eTMsg []))]) (by simp only [EZ,simprocAttr, *] <;> rfl) (RowsTo.rep (RowTo.cons (.inr (.inr ⟨rfl,_,_,_,rfl⟩)) RowTo.nil) _)
 have h := h.sm 16 [(1,.one (.ptr (1,0) 0)),(2,.one (.ptr (2,0) 0)),(3,.one (.ptr (14,0) 0))]
  [((1,0),some (.box 53 (cTApp a0))),((2,0),some (.box 104 [.nil,.nil,.nil])),((7,0),some (.row 170 1 (List.replicate a0.G.Links.length [.tr (.sl 59 2 (fun _ => .sc)) (.sl (List.map eTMsg []))]))),((12,0),some (.row 3 1 (dat (List.map eI (List.replicate a0.G.Links.length 0))))),((14,0),some (.box 104 [.nil,.own (7,0) a0.G.Links.length,.own (12,0) a0.G.Links.length]))]
 refine wp_seq ?_
 refine qs 20 [] [2,3,18,19,20] [(2,0),(7,0),(12,0),(14,0)] h fun ac wd h => ?_
 refine wp_block ?_
 have h := SL.bornB h (14,0) 0 3 1 (by simp only [EZ,simprocAttr, *] <;> rfl) (by simp only [EZ,simprocAttr, *] <;> rfl)
 refine r_while (fun nf ac wd => ∃ (ae : Int) (af : List Int),L_plain_Start_l1 a0 nf ae af = some r ∧ SL ⟨wb,S,Φ,P0⟩ 33 50 [(2,.one (.ptr (2,0) 0)),(3,.one (.ptr (14,0) 0)),(18,.one (.d (.sl (List.map eTNode a0.T)))),(19,.one (.d (.int .i64 (a0.T.length : Int)))),(20,.one (.d (.int .i64 ae)))] [((2,0),some (.box 104 [.nil,.nil,.nil])),((7,0),some (.row 170 1 (openRows cols_170 (List.map (eL eTMsg) (List.replicate a0.G.Links.length []))))),((12,0),some (.row 3 1 (dat (List.map eI (List.replicate a0.G.Links.length 0))))),((14,0),some (.box 104 [.own (20,0) af.length,.own (7,0) a0.G.Links.length,.own (12,0) a0.G.Links.length])),((20,0),some (.row 3 1 (dat (List.map eI af))))] ac wd) (((a0.T.length : Int) - 0).toNat + 1) ⟨0,([] : List Int),hD,h.z⟩ (fun nf ac wd hJ => ?_)
 obtain ⟨ae,af,ag,h⟩ := hJ
 cases nf with
 | zero => rw [L_plain_Start_l1] at ag; cases ag
 | succ nf =>
  rw [L_plain_Start_l1] at ag
  refine qs 51 [] [2,3,18,19,20,21] [(2,0),(7,0),(12,0),(14,0),(20,0)] h fun ac wd h => ?_
  refine wp_seq ?_
  rcases i2 ag with ⟨ah,ag⟩ | ⟨ah,ag⟩
  ·
   refine kT h ?_
   refine wp_skip ?_
   change Code.wp Try.prog _ _ _ _
   refine wp_seq ?_
   refine wp_block ?_
   obtain ⟨ai,aj,ak,al,am,ag⟩ := aB ag
   refine qs 55 [] [2,3,5,18,19,20] [(2,0),(7,0),(12,0),(14,0),(20,0),(53,0)] h fun ac wd h => ?_
   obtain ⟨an,ag⟩ := iT ag
   refine qe [] [2,3,18,19,20] [(2,0),(7,0),(12,0),(14,0),(60,0)] h fun ac wd h => ?_
   change Code.wp Try.prog _ _ _ _
   refine qe [] [2,3,18,19,20] [(2,0),(7,0),(12,0),(14,0),(60,0)] h fun ac wd h => ?_
   have h := h.sw (20,0) (60,0) 65
   exact ⟨nf,Nat.lt_succ_self nf,(IntKind.wrap .i64 (ae + 1)),(af ++ [ai.Start]),ag,h.z⟩
  ·
   refine kF h ?_
   refine wp_exit ?_
   change Code.wp Try.prog _ _ _ _
   refine qs 53 [] [2] [(2,0),(7,0),(12,0),(20,0)] h fun ac wd h => ?_
   refine wp_ret ?_
   have h := h.sw (1,0) (20,0) 53
   have h := h.sw (1,1) (7,0) 53
   have h := h.sw (1,2) (12,0) 53
   injection ag with ag
   subst ag
   exact rO h [.cell 2 104] [(1,0),(1,1),(1,2)]
theorem L_plain_Start_ok {a0 : TApp} {r : TConf} (hD : L_plain_Start a0 = some r) :
  CallH Try.prog 85 [.agg (cTApp a0)] []
   (.agg [.d (.sl (List.map eI r.States)),.d (.sl (List.map (eL eTMsg) r.Links)),.d (.sl (List.map eI r.Sent))]) [] :=
 (L_plain_Start_own hD).fr

theorem L_graph_Graph_node_ok {a0 : TGraph} {a1 : Int} {r : Bool} (hD : L_graph_Graph_node a0 a1 = some r) :
  CallH Try.prog 97 [.agg (cTGraph a0),.one (.d (.int .i64 a1))] []
   (.one (.d (.bool r))) [] := by
 unfold L_graph_Graph_node at hD
 refine rc Try.func97 rfl Try.ntmps97 fun S Φ P0 wb ac h => ?_
 refine qs 3 [] [1,2] [(1,0)] h fun ac wd h => ?_
 obtain ⟨e8,ab,hD⟩ := Option.bind_eq_some_iff.1 hD
 refine r_seqJ (fun ac wd => ∃ (b7 : Bool),b7 = e8 ∧ SL ⟨wb,S,Φ,P0⟩ 13 12 [(4,.one (.d (.bool b7)))] [] ac wd) ?_ ?_
 ·
  rcases i2 ab with ⟨ae,ab⟩ | ⟨ae,ab⟩
  ·
   refine qeg [] [none,none,none,some (some 7,true),some (some 7,true),some (some 7,true),some (some 7,true),none,none] [4] [] h fun ac wd h => ?_
   injection ab with ab; subst ab
   exact ⟨decide (a1 < a0.N),rfl,h.z⟩
  ·
   refine qeg [] [none,none,none,some (some 7,true),some (some 7,true),some (some 7,true),some (some 7,true),none,none] [4] [] h fun ac wd h => ?_
   injection ab with ab; subst ab
   exact ⟨false,rfl,h.z⟩
 ·
  rintro ac wd ⟨b7,rfl,h⟩
  (try dsimp only at hD)
  refine wp_ret ?_
  injection hD with hD
  subst hD
  exact rE h [.tmp 4]

theorem L_graph_turned_ok {a0 : A2I} {r : A2I} (hD : L_graph_turned a0 = some r) :
  CallH Try.prog 98 [.agg (cA2I a0)] []
   (.agg [.d (.int .i64 r.a0),.d (.int .i64 r.a1)]) [] := by
 unfold L_graph_turned at hD
 refine rc Try.func98 rfl Try.ntmps98 fun S Φ P0 wb ac h => ?_
 refine qs 3 [] [1,2] [(1,0),(2,0)] h fun ac wd h => ?_
 refine qs 9 [] [2] [(2,0)] h fun ac wd h => ?_
 refine wp_ret ?_
 injection hD with hD
 subst hD
 exact rE h [.cell 2 126]

theorem L_math_bits_Mul64_ok {a0 : Int} {a1 : Int} {r : Int × Int} (hD : L_math_bits_Mul64 a0 a1 = some r) :
  CallH Try.prog 150 [.one (.d (.int .u64 a0)),.one (.d (.int .u64 a1))] []
   (.tup [.inr (.d (.int .u64 r.1)),.inr (.d (.int .u64 r.2))]) [] := by
 unfold L_math_bits_Mul64 at hD
 refine rc Try.func150 rfl Try.ntmps150 fun S Φ P0 wb ac h => ?_
 refine qs 3 [] [0,1] [] h fun ac wd h => ?_
 refine qs 6 [] [0,1,6] [] h fun ac wd h => ?_
 refine qs 9 [] [0,1,6,7] [] h fun ac wd h => ?_
 refine qs 12 [] [0,1,6,7,8] [] h fun ac wd h => ?_
 refine qs 15 [] [0,1,6,7,8,9] [] h fun ac wd h => ?_
 refine qs 19 [] [0,1,6,7,8,9,10] [] h fun ac wd h => ?_
 refine qs 26 [] [0,1,6,7,9,11] [] h fun ac wd h => ?_
 refine qs 29 [] [0,1,6,7,9,11,12] [] h fun ac wd h => ?_
 refine qs 32 [] [0,1,6,7,9,12,13] [] h fun ac wd h => ?_
 refine qs 38 [] [0,1,7,9,12,13] [] h fun ac wd h => ?_
 refine qs 47 [] [0,1,4] [] h fun ac wd h => ?_
 refine qs 51 [] [4,5] [] h fun ac wd h => ?_
 refine wp_ret ?_
 injection hD with hD
 subst hD
 exact rE h [.tmp 4,.tmp 5]

theorem L_math_bits_Mul_ok {a0 : Int} {a1 : Int} {r : Int × Int} (hD : L_math_bits_Mul a0 a1 = some r) :
  CallH Try.prog 144 [.one (.d (.int .u64 a0)),.one (.d (.int .u64 a1))] []
   (.tup [.inr (.d (.int .u64 r.1)),.inr (.d (.int .u64 r.2))]) [] := by
 unfold L_math_bits_Mul at hD
 refine rc Try.func144 rfl Try.ntmps144 fun S Φ P0 wb ac h => ?_
 refine qs 3 [] [0,1] [] h fun ac wd h => ?_
 refine wp_seq ?_
 refine kF h ?_
 refine wp_skip ?_
 change Code.wp Try.prog _ _ _ _
 obtain ⟨r7,ab,hD⟩ := oB hD
 have ad := L_math_bits_Mul64_ok ab
 refine qs 11 [factE 5 ad] [8,9] [] h fun ac wd h => ?_
 refine qs 15 [] [4,5] [] h fun ac wd h => ?_
 refine wp_ret ?_
 injection hD with hD
 subst hD
 exact rE h [.tmp 4,.tmp 5]

theorem L_slices_Repeat_int_int_own {a0 : (List Int)} {a1 : Int} {r : (List Int)} (hD : L_slices_Repeat_int_int a0 a1 = some r) :
  CallH Try.prog 123 [.one (.d (.sl (List.map eI a0))),.one (.d (.int .i64 a1))] []
   (.one (.own (1,0) r.length)) [((1,0),some (.row 3 1 (dat (List.map eI r))))] := by
 unfold L_slices_Repeat_int_int at hD
 refine rc Try.func123 rfl Try.ntmps123 fun S Φ P0 wb ac h => ?_
 refine qs 2 [] [0,1] [] h fun ac wd h => ?_
 refine wp_seq ?_
 refine qs 4 [] [0,1,10] [] h fun ac wd h => ?_
 rcases i2 hD with ⟨aa,hD⟩ | ⟨aa,hD⟩
 ·
  refine kT h ?_
  cases hD
 ·
  refine kF h ?_
  refine wp_skip ?_
  change Code.wp Try.prog _ _ _ _
  obtain ⟨ab,ad,hD⟩ := oB hD
  have ae := L_math_bits_Mul_ok ad
  refine qs 15 [factE 9 ae] [0,5,6] [] h fun ac wd h => ?_
  refine wp_seq ?_
  obtain ⟨af,ag,hD⟩ := Option.bind_eq_some_iff.1 hD
  refine r_seqJ (fun ac wd => ∃ (ah : Bool),ah = af ∧ SL ⟨wb,S,Φ,P0⟩ 48 21 [(0,.one (.d (.sl (List.map eI a0)))),(6,.one (.d (.int .u64 ab.2))),(26,.one (.d (.bool ah)))] [] ac wd) ?_ ?_
  ·
   rcases i2 ag with ⟨ai,ag⟩ | ⟨ai,ag⟩
   ·
    refine qeg [] [none,none,none,some (some 23,false),some (some 23,false),none] [0,6,26] [] h fun ac wd h => ?_
    injection ag with ag; subst ag
    exact ⟨true,rfl,h.z⟩
   ·
    refine qeg [] [none,none,none,some (some 23,false),some (some 23,false),none] [0,6,26] [] h fun ac wd h => ?_
    injection ag with ag; subst ag
    exact ⟨decide (ab.2 > 9223372036854775807),rfl,h.z⟩
  ·
   rintro ac wd ⟨ah,rfl,h⟩
   (try dsimp only at hD)
   rcases i2b hD with ⟨aj,hD⟩ | ⟨aj,hD⟩
   ·
    refine kT h ?_
    cases hD
   ·
    refine kF h ?_
    refine wp_skip ?_
    change Code.wp Try.prog _ _ _ _
    obtain ⟨ak,hD⟩ := iT hD
    obtain ⟨al,hD⟩ := iT hD
    obtain ⟨am,hD⟩ := iT hD
    refine qs 25 [] [0,7] [(23,0)] h fun ac wd h => ?_
    obtain ⟨an,ao,hD⟩ := vB hD
    have h := h.same [0,7] [(23,0)] 25 [(0,.one (.d (.sl (List.map eI a0)))),(7,.one (.own (23,0) an.length))]
     [((23,0),some (.row 3 1 (dat (List.map eI an))))]
     (by simp only [EZ,simprocAttr,aa,aj,ak,al,am,dat_open,← ao] <;> rfl)
    have ap : ((a0.take an.length) ++ an.drop (a0.take an.length).length).length = an.length := by simp only [List.append_assoc,List.length_append,List.length_take,List.length_drop]; omega
    simp only [List.append_assoc,List.length_append,List.length_take,List.length_drop] at ap
    refine qs 29 [] [7,8] [(23,0)] h fun ac wd h => ?_
    refine wp_seq ?_
    refine wp_block ?_
    refine r_while (fun nf ac wd => ∃ (aq : Int) (ar : List Int),L_slices_Repeat_int_int_l1 nf aq ar = some r ∧ SL ⟨wb,S,Φ,P0⟩ 48 57 [(7,.one (.own (23,0) ar.length)),(8,.one (.d (.int .i64 aq)))] [((23,0),some (.row 3 1 (dat (List.map eI ar))))] ac wd) (((((a0.take an.length) ++ an.drop (a0.take an.length).length).length : Int) - ((Nat.min a0.length an.length : Nat) : Int)).toNat + 1) ⟨((Nat.min a0.length an.length : Nat) : Int),((a0.take an.length) ++ an.drop (a0.take an.length).length),hD,h.z⟩ (fun nf ac wd hJ => ?_)
    obtain ⟨aq,ar,au,h⟩ := hJ
    cases nf with
    | zero => rw [L_slices_Repeat_int_int_l1] at au; cases au
    | succ nf =>
     rw [L_slices_Repeat_int_int_l1] at au
     refine wp_seq ?_
     refine qs 61 [] [7,8,37] [(23,0)] h fun ac wd h => ?_
     rcases i2 au with ⟨av,au⟩ | ⟨av,au⟩
     ·
      refine kT h ?_
      refine wp_skip ?_
      change Code.wp Try.prog _ _ _ _
      refine wp_block ?_
      obtain ⟨aw,au⟩ := iT au
      obtain ⟨ax,au⟩ := iT au
      have ay : aq.toNat + (ar.length - aq.toNat) ≤ ar.length := by omega
      have az : ¬ ar.length = aq.toNat := by omega
      have aA : aq.toNat ≤ ar.length := by omega
      have aB : (ar.take aq.toNat ++ ((ar.take aq.toNat).take (((ar.drop aq.toNat).take (ar.length - aq.toNat)).length)) ++ ar.drop (aq.toNat + ((ar.take aq.toNat).take (((ar.drop aq.toNat).take (ar.length - aq.toNat)).length)).length)).length = ar.length := by simp only [List.append_assoc,List.length_append,List.length_take,List.length_drop]; omega
      simp only [List.append_assoc,List.length_append,List.length_take,List.length_drop] at aB
      refine de [] [7,8] [(23,0)] h fun ac wd h => ?_
      exact ⟨nf,Nat.lt_succ_self nf,(IntKind.wrap .i64 (aq + ((Nat.min (ar.take aq.toNat).length (((ar.drop aq.toNat).take (ar.length - aq.toNat)).length) : Nat) : Int))),(ar.take aq.toNat ++ ((ar.take aq.toNat).take (((ar.drop aq.toNat).take (ar.length - aq.toNat)).length)) ++ ar.drop (aq.toNat + ((ar.take aq.toNat).take (((ar.drop aq.toNat).take (ar.length - aq.toNat)).length)).length)),au,h.z⟩
     ·
      refine kF h ?_
      refine wp_exit ?_
      change Code.wp Try.prog _ _ _ _
      refine qs 63 [] [4] [(23,0)] h fun ac wd h => ?_
      refine wp_ret ?_
      have h := h.sw (1,0) (23,0) 63
      injection au with au
      subst au
      exact rO h [.tmp 4] [(1,0)]
theorem L_slices_Repeat_int_int_ok {a0 : (List Int)} {a1 : Int} {r : (List Int)} (hD : L_slices_Repeat_int_int a0 a1 = some r) :
  CallH Try.prog 123 [.one (.d (.sl (List.map eI a0))),.one (.d (.int .i64 a1))] []
   (.one (.d (.sl (List.map eI r)))) [] :=
 (L_slices_Repeat_int_int_own hD).fr

theorem L_graph_of_v1_own {a0 : TGraph} {a1 : Int} {r : (List Int)} (hD : L_graph_of_v1 a0 a1 = some r) :
  CallH Try.prog 113 [.agg (cTGraph a0),.one (.d (.int .i64 a1)),.one (.d (.int .i64 0))] []
   (.one (.own (1,0) r.length)) [((1,0),some (.row 3 1 (dat (List.map eI r))))] := by
 unfold L_graph_of_v1 at hD
 refine rc Try.func113 rfl Try.ntmps113 fun S Φ P0 wb ac h => ?_
 refine qs 3 [] [1,2,3] [(1,0)] h fun ac wd h => ?_
 refine qs 4 [] [1,2,3,7] [(1,0)] h fun ac wd h => ?_
 refine wp_seq ?_
 refine qs 8 [] [1,2,7,11,12,13] [] h fun ac wd h => ?_
 refine wp_block ?_
 have h := SL.bornS h 7 3 1 (by simp only [EZ,simprocAttr, *] <;> rfl)
 refine r_while (fun nf ac wd => ∃ (aa : Int) (ab : List Int),L_graph_of_v1_l1 a0 a1 nf aa ab = some r ∧ SL ⟨wb,S,Φ,P0⟩ 29 46 [(1,.one (.d (.int .i64 a1))),(2,.one (.d (.int .i64 0))),(7,.one (.own (8,0) ab.length)),(11,.one (.d (.sl (List.map eA2I a0.Links)))),(12,.one (.d (.int .i64 (a0.Links.length : Int)))),(13,.one (.d (.int .i64 aa)))] [((8,0),some (.row 3 1 (dat (List.map eI ab))))] ac wd) (((a0.Links.length : Int) - 0).toNat + 1) ⟨0,([] : List Int),hD,h.z⟩ (fun nf ac wd hJ => ?_)
 obtain ⟨aa,ab,ad,h⟩ := hJ
 cases nf with
 | zero => rw [L_graph_of_v1_l1] at ad; cases ad
 | succ nf =>
  rw [L_graph_of_v1_l1] at ad
  refine qs 47 [] [1,2,7,11,12,13,14] [(8,0)] h fun ac wd h => ?_
  refine wp_seq ?_
  rcases i2 ad with ⟨ae,ad⟩ | ⟨ae,ad⟩
  ·
   refine kT h ?_
   refine wp_skip ?_
   change Code.wp Try.prog _ _ _ _
   obtain ⟨af,ag,ad⟩ := Option.bind_eq_some_iff.1 ad
   refine r_seqJ (fun ac wd => ∃ (ah : List Int),ah = af ∧ SL ⟨wb,S,Φ,P0⟩ 29 63 [(1,.one (.d (.int .i64 a1))),(2,.one (.d (.int .i64 0))),(7,.one (.own (61,0) ah.length)),(11,.one (.d (.sl (List.map eA2I a0.Links)))),(12,.one (.d (.int .i64 (a0.Links.length : Int)))),(13,.one (.d (.int .i64 aa)))] [((61,0),some (.row 3 1 (dat (List.map eI ah))))] ac wd) ?_ ?_
   ·
    refine wp_block ?_
    obtain ⟨ai,aj,ak,al,am,ag⟩ := aB ag
    refine qs 53 [] [1,2,7,8,9,11,12,13] [(8,0),(50,0)] h fun ac wd h => ?_
    refine qs 58 [] [1,2,7,8,11,12,13,22] [(8,0)] h fun ac wd h => ?_
    rcases i2e ag with ⟨an,ag⟩ | ⟨an,ag⟩
    ·
     refine kT h ?_
     obtain ⟨ao,ag⟩ := iT ag
     refine qe [] [1,2,7,11,12,13] [(61,0)] h fun ac wd h => ?_
     injection ag with ag; subst ag
     exact ⟨(ab ++ [aa]),rfl,h.z⟩
    ·
     refine kF h ?_
     refine wp_skip ?_
     have h := h.sw (61,0) (8,0) 63
     injection ag with ag; subst ag
     exact ⟨ab,rfl,h.z⟩
   ·
    rintro ac wd ⟨ah,rfl,h⟩
    (try dsimp only at ad)
    refine qe [] [1,2,7,11,12,13] [(61,0)] h fun ac wd h => ?_
    have h := h.sw (8,0) (61,0) 65
    exact ⟨nf,Nat.lt_succ_self nf,(IntKind.wrap .i64 (aa + 1)),ah,ad,h.z⟩
  ·
   refine kF h ?_
   refine wp_exit ?_
   change Code.wp Try.prog _ _ _ _
   refine qs 49 [] [6] [(8,0)] h fun ac wd h => ?_
   refine wp_ret ?_
   have h := h.sw (1,0) (8,0) 49
   injection ad with ad
   subst ad
   exact rO h [.tmp 6] [(1,0)]
theorem L_graph_of_v1_ok {a0 : TGraph} {a1 : Int} {r : (List Int)} (hD : L_graph_of_v1 a0 a1 = some r) :
  CallH Try.prog 113 [.agg (cTGraph a0),.one (.d (.int .i64 a1)),.one (.d (.int .i64 0))] []
   (.one (.d (.sl (List.map eI r)))) [] :=
 (L_graph_of_v1_own hD).fr

theorem L_graph_Out_own {a0 : TGraph} {a1 : Int} {r : (List Int)} (hD : L_graph_Out a0 a1 = some r) :
  CallH Try.prog 109 [.agg (cTGraph a0),.one (.d (.int .i64 a1))] []
   (.one (.own (1,0) r.length)) [((1,0),some (.row 3 1 (dat (List.map eI r))))] := by
 unfold L_graph_Out at hD
 refine rc Try.func109 rfl Try.ntmps109 fun S Φ P0 wb ac h => ?_
 refine qs 3 [] [1,2] [(1,0)] h fun ac wd h => ?_
 obtain ⟨r7,ab,hD⟩ := oB hD
 have ad := ((L_graph_of_v1_own ab).cls 5).z
 refine qs 7 [factO ad] [4] [(5,0)] h fun ac wd h => ?_
 refine wp_ret ?_
 have h := h.sw (1,0) (5,0) 7
 injection hD with hD
 subst hD
 exact rO h [.tmp 4] [(1,0)]
theorem L_graph_Out_ok {a0 : TGraph} {a1 : Int} {r : (List Int)} (hD : L_graph_Out a0 a1 = some r) :
  CallH Try.prog 109 [.agg (cTGraph a0),.one (.d (.int .i64 a1))] []
   (.one (.d (.sl (List.map eI r)))) [] :=
 (L_graph_Out_own hD).fr

theorem L_graph_Dist_own {a0 : TGraph} {a1 : Int} {r : (List Int)} (hD : L_graph_Dist a0 a1 = some r) :
  CallH Try.prog 99 [.agg (cTGraph a0),.one (.d (.int .i64 a1))] []
   (.one (.own (1,0) r.length)) [((1,0),some (.row 3 1 (dat (List.map eI r))))] := by
 unfold L_graph_Dist at hD
 refine rc Try.func99 rfl Try.ntmps99 fun S Φ P0 wb ac h => ?_
 refine qs 3 [] [1,2] [(1,0)] h fun ac wd h => ?_
 refine wp_scope_straight ?_
 refine wp_seq ?_
 obtain ⟨aa,ab,hD⟩ := oB hD
 have ad := L_graph_Graph_node_ok ab
 refine qs 7 [factE 5 ad] [1,2,14] [(1,0)] h fun ac wd h => ?_
 rcases i2b hD with ⟨ae,hD⟩ | ⟨ae,hD⟩
 ·
  refine kF h ?_
  refine wp_skip ?_
  change Code.wp Try.prog _ _ _ _
  obtain ⟨af,ag,hD⟩ := oB hD
  have ah := ((L_slices_Repeat_int_int_own ag).cls 10).z
  refine qs 12 [factO ah] [1,2,5] [(1,0),(10,0)] h fun ac wd h => ?_
  obtain ⟨ai,aj,ak,al,am,hD⟩ := aB hD
  refine qs 16 [] [1,2,5] [(1,0),(10,0)] h fun ac wd h => ?_
  refine qs 19 [] [2,5,6] [(1,0),(10,0),(17,0)] h fun ac wd h => ?_
  refine wp_seq ?_
  refine wp_label ?_
  change Code.wp Try.prog _ _ _ _
  refine wp_seq ?_
  refine wp_block ?_
  refine r_while (fun nf ac wd => ∃ (an : List Int) (ao : List Int),L_graph_Dist_l1 a0 nf an ao = some r ∧ SL ⟨wb,S,Φ,P0⟩ 65 179 [(2,.one (.ptr (1,0) 0)),(5,.one (.own (10,0) an.length)),(6,.one (.own (17,0) ao.length))] [((1,0),some (.box 25 (cTGraph a0))),((10,0),some (.row 3 1 (dat (List.map eI an)))),((17,0),some (.row 3 1 (dat (List.map eI ao))))] ac wd) (a0.N.toNat + 2) ⟨(af.set a1.toNat 0),[a1],hD,h.z⟩ (fun nf ac wd hJ => ?_)
  obtain ⟨an,ao,ap,h⟩ := hJ
  cases nf with
  | zero => rw [L_graph_Dist_l1] at ap; cases ap
  | succ nf =>
   rw [L_graph_Dist_l1] at ap
   refine wp_block ?_
   refine wp_seq ?_
   refine qs 182 [] [2,5,6,26] [(1,0),(10,0),(17,0)] h fun ac wd h => ?_
   rcases i2e ap with ⟨aq,ap⟩ | ⟨aq,ap⟩
   ·
    refine kT h ?_
    refine wp_exit ?_
    change Code.wp Try.prog _ _ _ _
    refine qs 184 [] [4] [(10,0)] h fun ac wd h => ?_
    refine wp_ret ?_
    have h := h.sw (1,0) (10,0) 184
    injection ap with ap
    subst ap
    exact rO h [.tmp 4] [(1,0)]
   ·
    refine kF h ?_
    refine wp_skip ?_
    change Code.wp Try.prog _ _ _ _
    obtain ⟨ar,au,av,aw,ax,ap⟩ := aN 0 ap
    refine qs 186 [] [2,5,6,7] [(1,0),(10,0),(17,0)] h fun ac wd h => ?_
    obtain ⟨ay,ap⟩ := iT ap
    have az : 1 + (ao.length - 1) ≤ ao.length := by omega
    refine qs 189 [] [2,5,6,7] [(1,0),(10,0),(17,0)] h fun ac wd h => ?_
    obtain ⟨aA,aC,ap⟩ := oB ap
    have aD := L_graph_Out_ok aC
    refine qs 194 [factE 191 aD] [2,5,6,7,34,35,36] [(1,0),(10,0),(17,0)] h fun ac wd h => ?_
    obtain ⟨aE,aF,ap⟩ := Option.bind_eq_some_iff.1 ap
    refine r_meetQ (fun ac wd => ∃ (aG : List Int) (aH : List Int),(aG,aH) = aE ∧ SL ⟨wb,S,Φ,P0⟩ 65 259 [(2,.one (.ptr (1,0) 0)),(5,.one (.own (10,0) aG.length)),(6,.one (.own (17,0) aH.length))] [((1,0),some (.box 25 (cTGraph a0))),((10,0),some (.row 3 1 (dat (List.map eI aG)))),((17,0),some (.row 3 1 (dat (List.map eI aH))))] ac wd) ?_ ?_
    ·
     refine wp_block ?_
     have h := h.sm 194 [(2,.one (.ptr (1,0) 0)),(5,.one (.own (10,0) an.length)),(6,.one (.sub (17,0) 1 1 (ao.length - 1))),(7,.one (.d (.int .i64 ar))),(34,.one (.d (.sl (List.map eI aA)))),(35,.one (.d (.int .i64 (aA.length : Int)))),(36,.one (.d (.int .i64 0)))]
      [((1,0),some (.box 25 (cTGraph a0))),((10,0),some (.row 3 1 (dat (List.map eI an)))),((17,0),some (.row 3 1 (dat (List.map eI ao))))]
     have h := SL.tail h 6 (17,0) (by simp only [EZ,simprocAttr, *] <;> rfl) (by simp only [EZ,simprocAttr, *] <;> rfl) (by simp only [EZ,simprocAttr, *] <;> omega) rfl (by simp only [noIdF,EZ,simprocAttr, *] <;> rfl) (by simp only [noIdM,EZ,simprocAttr, *] <;> rfl)
     refine r_while (fun nf ac wd => ∃ (aI : Int) (aJ : List Int) (aK : List Int),L_graph_Dist_l2 a0 aA ar nf aI aJ aK = some aE ∧ SL ⟨wb,S,Φ,P0⟩ 65 258 [(2,.one (.ptr (1,0) 0)),(5,.one (.own (10,0) aJ.length)),(6,.one (.own (17,0) aK.length)),(7,.one (.d (.int .i64 ar))),(34,.one (.d (.sl (List.map eI aA)))),(35,.one (.d (.int .i64 (aA.length : Int)))),(36,.one (.d (.int .i64 aI)))] [((1,0),some (.box 25 (cTGraph a0))),((10,0),some (.row 3 1 (dat (List.map eI aJ)))),((17,0),some (.row 3 1 (dat (List.map eI aK))))] ac wd) (((aA.length : Int) - 0).toNat + 1) ⟨0,an,(ao.drop 1),aF,h.z⟩ (fun nf ac wd hJ => ?_)
     obtain ⟨aI,aJ,aK,aL,h⟩ := hJ
     cases nf with
     | zero => rw [L_graph_Dist_l2] at aL; cases aL
     | succ nf =>
      rw [L_graph_Dist_l2] at aL
      refine qs 259 [] [2,5,6,7,34,35,36,37] [(1,0),(10,0),(17,0)] h fun ac wd h => ?_
      refine wp_seq ?_
      rcases i2 aL with ⟨aM,aL⟩ | ⟨aM,aL⟩
      ·
       refine kT h ?_
       refine wp_skip ?_
       change Code.wp Try.prog _ _ _ _
       obtain ⟨aO,aP,aL⟩ := Option.bind_eq_some_iff.1 aL
       refine r_seqJ (fun ac wd => ∃ (aQ : List Int) (aR : List Int),(aQ,aR) = aO ∧ SL ⟨wb,S,Φ,P0⟩ 65 288 [(2,.one (.ptr (1,0) 0)),(5,.one (.own (10,0) aQ.length)),(6,.one (.own (286,0) aR.length)),(7,.one (.d (.int .i64 ar))),(34,.one (.d (.sl (List.map eI aA)))),(35,.one (.d (.int .i64 (aA.length : Int)))),(36,.one (.d (.int .i64 aI)))] [((1,0),some (.box 25 (cTGraph a0))),((10,0),some (.row 3 1 (dat (List.map eI aQ)))),((286,0),some (.row 3 1 (dat (List.map eI aR))))] ac wd) ?_ ?_
       ·
        refine wp_block ?_
        obtain ⟨aS,aT,aU,aV,aW,aP⟩ := aB aP
        refine qs 262 [] [2,5,6,7,9,34,35,36] [(1,0),(10,0),(17,0)] h fun ac wd h => ?_
        obtain ⟨aX,aY,aZ,ba,bb,aP⟩ := aB aP
        refine qs 269 [] [2,5,6,7,10,34,35,36] [(1,0),(10,0),(17,0)] h fun ac wd h => ?_
        obtain ⟨bc,bd,be,bf,bg,aP⟩ := aB aP
        refine qs 274 [] [2,5,6,7,10,34,35,36,50] [(1,0),(10,0),(17,0)] h fun ac wd h => ?_
        rcases i2 aP with ⟨bh,aP⟩ | ⟨bh,aP⟩
        ·
         refine kT h ?_
         obtain ⟨bi,bj,bk,bl,bm,aP⟩ := aB aP
         refine qs 283 [] [2,5,6,7,10,34,35,36] [(1,0),(10,0),(17,0)] h fun ac wd h => ?_
         obtain ⟨bn,aP⟩ := iT aP
         refine qe [] [2,5,6,7,34,35,36] [(1,0),(10,0),(286,0)] h fun ac wd h => ?_
         injection aP with aP; subst aP
         exact ⟨(aJ.set aX.a1.toNat (IntKind.wrap .i64 (bi + 1))),(aK ++ [aX.a1]),rfl,h.z⟩
        ·
         refine kF h ?_
         refine wp_skip ?_
         have h := h.sw (286,0) (17,0) 288
         injection aP with aP; subst aP
         exact ⟨aJ,aK,rfl,h.z⟩
       ·
        rintro ac wd ⟨aQ,aR,rfl,h⟩
        (try dsimp only at aL)
        refine qe [] [2,5,6,7,34,35,36] [(1,0),(10,0),(286,0)] h fun ac wd h => ?_
        have h := h.sw (17,0) (286,0) 290
        exact ⟨nf,Nat.lt_succ_self nf,(IntKind.wrap .i64 (aI + 1)),aQ,aR,aL,h.z⟩
      ·
       refine kF h ?_
       refine wp_exit ?_
       injection aL with aL; subst aL
       exact ⟨aJ,aK,rfl,h.z⟩
    ·
     rintro ac wd ⟨aG,aH,rfl,h⟩
     (try dsimp only at ap)
     exact ⟨nf,Nat.lt_succ_self nf,aG,aH,ap,h.z⟩
 ·
  refine kT h ?_
  refine qs 8 [] [4] [] h fun ac wd h => ?_
  refine wp_ret ?_
  have h := SL.bornS h 4 3 1 (by simp only [EZ,simprocAttr, *] <;> rfl)
  have h := h.sw (1,0) (8,0) 9
  injection hD with hD
  subst hD
  exact rO h [.tmp 4] [(1,0)]
theorem L_graph_Dist_ok {a0 : TGraph} {a1 : Int} {r : (List Int)} (hD : L_graph_Dist a0 a1 = some r) :
  CallH Try.prog 99 [.agg (cTGraph a0),.one (.d (.int .i64 a1))] []
   (.one (.d (.sl (List.map eI r)))) [] :=
 (L_graph_Dist_own hD).fr

theorem L_slices_Index_int_int_ok {a0 : (List Int)} {a1 : Int} {r : Int} (hD : L_slices_Index_int_int a0 a1 = some r) :
  CallH Try.prog 83 [.one (.d (.sl (List.map eI a0))),.one (.d (.int .i64 a1))] []
   (.one (.d (.int .i64 r))) [] := by
 unfold L_slices_Index_int_int at hD
 refine rc Try.func83 rfl Try.ntmps83 fun S Φ P0 wb ac h => ?_
 refine qs 2 [] [0,1] [] h fun ac wd h => ?_
 refine wp_seq ?_
 refine qs 5 [] [0,1,7,8] [] h fun ac wd h => ?_
 refine wp_block ?_
 refine r_while (fun nf ac wd => ∃ (aa : Int),L_slices_Index_int_int_l1 a0 a1 nf aa = some r ∧ SL ⟨wb,S,Φ,P0⟩ 19 27 [(0,.one (.d (.sl (List.map eI a0)))),(1,.one (.d (.int .i64 a1))),(7,.one (.d (.int .i64 (a0.length : Int)))),(8,.one (.d (.int .i64 aa)))] [] ac wd) (((a0.length : Int) - 0).toNat + 1) ⟨0,hD,h.z⟩ (fun nf ac wd hJ => ?_)
 obtain ⟨aa,ab,h⟩ := hJ
 cases nf with
 | zero => rw [L_slices_Index_int_int_l1] at ab; cases ab
 | succ nf =>
  rw [L_slices_Index_int_int_l1] at ab
  refine qs 28 [] [0,1,7,8,9] [] h fun ac wd h => ?_
  refine wp_seq ?_
  rcases i2 ab with ⟨ad,ab⟩ | ⟨ad,ab⟩
  ·
   refine kT h ?_
   refine wp_skip ?_
   change Code.wp Try.prog _ _ _ _
   refine wp_seq ?_
   refine wp_block ?_
   refine qs 30 [] [0,1,5,7,8] [] h fun ac wd h => ?_
   obtain ⟨ae,af,ag,ah,ai,ab⟩ := aB ab
   refine qs 36 [] [0,1,5,7,8,16] [] h fun ac wd h => ?_
   rcases i2e ab with ⟨aj,ab⟩ | ⟨aj,ab⟩
   ·
    refine kT h ?_
    refine qs 38 [] [4] [] h fun ac wd h => ?_
    refine wp_ret ?_
    injection ab with ab
    subst ab
    exact rE h [.tmp 4]
   ·
    refine kF h ?_
    refine wp_skip ?_
    change Code.wp Try.prog _ _ _ _
    refine qe [] [0,1,7,8] [] h fun ac wd h => ?_
    exact ⟨nf,Nat.lt_succ_self nf,(IntKind.wrap .i64 (aa + 1)),ab,h.z⟩
  ·
   refine kF h ?_
   refine wp_exit ?_
   change Code.wp Try.prog _ _ _ _
   refine qs 29 [] [4] [] h fun ac wd h => ?_
   refine wp_ret ?_
   injection ab with ab
   subst ab
   exact rE h [.tmp 4]

theorem L_slices_Contains_int_int_ok {a0 : (List Int)} {a1 : Int} {r : Bool} (hD : L_slices_Contains_int_int a0 a1 = some r) :
  CallH Try.prog 76 [.one (.d (.sl (List.map eI a0))),.one (.d (.int .i64 a1))] []
   (.one (.d (.bool r))) [] := by
 unfold L_slices_Contains_int_int at hD
 refine rc Try.func76 rfl Try.ntmps76 fun S Φ P0 wb ac h => ?_
 refine qs 2 [] [0,1] [] h fun ac wd h => ?_
 obtain ⟨r7,ab,hD⟩ := oB hD
 have ad := L_slices_Index_int_int_ok ab
 refine qs 7 [factE 4 ad] [4] [] h fun ac wd h => ?_
 refine wp_ret ?_
 injection hD with hD
 subst hD
 exact rE h [.tmp 4]

end Go.Proofs.Ytabbejabdkkaiaa
