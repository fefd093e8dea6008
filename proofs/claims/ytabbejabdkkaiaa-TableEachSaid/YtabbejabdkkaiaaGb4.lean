/- Functions as typed ones,and that the program's functions answer as these do. No condition. -/
import Derived.Test.YtabbejabdkkaiaaGb3
import Derived.Test.YtabbejabdkkaiaaGd
set_option linter.unusedSimpArgs false
set_option linter.unusedVariables false
set_option maxRecDepth 20000
set_option maxHeartbeats 4000000
namespace Go.Proofs.Ytabbejabdkkaiaa
open Go.RowKit

theorem L_table_Right_ok {a0 : (List TNode)} {a1 : TGraph} {r : Bool} (hD : L_table_Right a0 a1 = some r) :
  CallH Try.prog 17 [.one (.d (.sl (List.map eTNode a0))),.agg (cTGraph a1)] []
   (.one (.d (.bool r))) [] := by
 unfold L_table_Right at hD
 refine rc Try.func17 rfl Try.ntmps17 fun S Φ P0 wb ac h => ?_
 refine qs 3 [] [0,3] [(1,0)] h fun ac wd h => ?_
 refine wp_seq ?_
 obtain ⟨aa,ab,hD⟩ := Option.bind_eq_some_iff.1 hD
 refine r_seqJ (fun ac wd => ∃ (ad : Bool),ad = aa ∧ SL ⟨wb,S,Φ,P0⟩ 65 13 [(0,.one (.d (.sl (List.map eTNode a0)))),(3,.one (.ptr (1,0) 0)),(18,.one (.d (.bool ad)))] [((1,0),some (.box 25 (cTGraph a1)))] ac wd) ?_ ?_
 ·
  obtain ⟨ae,af,ab⟩ := oB ab
  rcases i2b ab with ⟨ag,ab⟩ | ⟨ag,ab⟩
  ·
   have ah := L_graph_Right_ok af
   refine qeg [factE 4 ah] [none,none,none,none,some (some 12,false),some (some 12,false),some (some 12,false),some (some 12,false),some (some 12,false),none] [0,3,18] [(1,0)] h fun ac wd h => ?_
   injection ab with ab; subst ab
   exact ⟨!(decide ((a0.length : Int) = a1.N)),rfl,h.z⟩
  ·
   have ah := L_graph_Right_ok af
   refine qeg [factE 4 ah] [none,none,none,none,some (some 12,false),some (some 12,false),some (some 12,false),some (some 12,false),some (some 12,false),none] [0,3,18] [(1,0)] h fun ac wd h => ?_
   injection ab with ab; subst ab
   exact ⟨true,rfl,h.z⟩
 ·
  rintro ac wd ⟨ad,rfl,h⟩
  (try dsimp only at hD)
  rcases i2b hD with ⟨ai,hD⟩ | ⟨ai,hD⟩
  ·
   refine kT h ?_
   refine qs 14 [] [4] [] h fun ac wd h => ?_
   refine wp_ret ?_
   injection hD with hD
   subst hD
   exact rE h [.tmp 4]
  ·
   refine kF h ?_
   refine wp_skip ?_
   change Code.wp Try.prog _ _ _ _
   refine wp_seq ?_
   refine qs 16 [] [3,19,20,21] [(1,0)] h fun ac wd h => ?_
   refine wp_block ?_
   refine r_while (fun nf ac wd => ∃ (aj : Int),L_table_Right_l1 a0 a1 nf aj = some r ∧ SL ⟨wb,S,Φ,P0⟩ 65 146 [(3,.one (.ptr (1,0) 0)),(19,.one (.d (.sl (List.map eTNode a0)))),(20,.one (.d (.int .i64 (a0.length : Int)))),(21,.one (.d (.int .i64 aj)))] [((1,0),some (.box 25 (cTGraph a1)))] ac wd) (((a0.length : Int) - 0).toNat + 1) ⟨0,hD,h.z⟩ (fun nf ac wd hJ => ?_)
   obtain ⟨aj,ak,h⟩ := hJ
   cases nf with
   | zero => rw [L_table_Right_l1] at ak; cases ak
   | succ nf =>
    rw [L_table_Right_l1] at ak
    refine qs 147 [] [3,19,20,21,22] [(1,0)] h fun ac wd h => ?_
    refine wp_seq ?_
    rcases i2 ak with ⟨al,ak⟩ | ⟨al,ak⟩
    ·
     refine kT h ?_
     refine wp_skip ?_
     change Code.wp Try.prog _ _ _ _
     obtain ⟨am,an,ak⟩ := Option.bind_eq_some_iff.1 ak
     refine r_seqJ (fun ac wd => (.inl ()) = am ∧ SL ⟨wb,S,Φ,P0⟩ 65 209 [(3,.one (.ptr (1,0) 0)),(19,.one (.d (.sl (List.map eTNode a0)))),(20,.one (.d (.int .i64 (a0.length : Int)))),(21,.one (.d (.int .i64 aj)))] [((1,0),some (.box 25 (cTGraph a1)))] ac wd) ?_ ?_
     ·
      refine wp_block ?_
      obtain ⟨ao,ap,aq,ar,au,an⟩ := aB an
      refine qs 153 [] [3,5,6,19,20,21] [(1,0),(150,0)] h fun ac wd h => ?_
      refine wp_seq ?_
      obtain ⟨av,aw,an⟩ := Option.bind_eq_some_iff.1 an
      refine r_seqJ (fun ac wd => ∃ (ax : Bool),ax = av ∧ SL ⟨wb,S,Φ,P0⟩ 65 176 [(3,.one (.ptr (1,0) 0)),(5,.one (.d (.int .i64 aj))),(6,.one (.ptr (150,0) 0)),(19,.one (.d (.sl (List.map eTNode a0)))),(20,.one (.d (.int .i64 (a0.length : Int)))),(21,.one (.d (.int .i64 aj))),(48,.one (.d (.bool ax)))] [((1,0),some (.box 25 (cTGraph a1))),((150,0),some (.box 38 (cTNode ao)))] ac wd) ?_ ?_
      ·
       rcases i2 aw with ⟨ay,aw⟩ | ⟨ay,aw⟩
       ·
        refine qeg [] [none,none,none,none,none,some (some 30,false),some (some 30,false),some (some 30,false),some (some 30,false),none,none,some (some 36,false),some (some 36,false),some (some 36,false),none,none,some (some 41,false),some (some 41,false),some (some 41,false),some (some 41,false),some (some 41,false),some (some 41,false),none] [3,5,6,19,20,21,48] [(1,0),(150,0)] h fun ac wd h => ?_
        injection aw with aw; subst aw
        exact ⟨true,rfl,h.z⟩
       ·
        rcases i2 aw with ⟨az,aw⟩ | ⟨az,aw⟩
        ·
         refine qeg [] [none,none,none,none,none,some (some 30,false),some (some 30,false),some (some 30,false),some (some 30,false),none,none,some (some 36,false),some (some 36,false),some (some 36,false),none,none,some (some 41,false),some (some 41,false),some (some 41,false),some (some 41,false),some (some 41,false),some (some 41,false),none] [3,5,6,19,20,21,48] [(1,0),(150,0)] h fun ac wd h => ?_
         injection aw with aw; subst aw
         exact ⟨true,rfl,h.z⟩
        ·
         rcases i2 aw with ⟨aA,aw⟩ | ⟨aA,aw⟩
         ·
          refine qeg [] [none,none,none,none,none,some (some 30,false),some (some 30,false),some (some 30,false),some (some 30,false),none,none,some (some 36,false),some (some 36,false),some (some 36,false),none,none,some (some 41,false),some (some 41,false),some (some 41,false),some (some 41,false),some (some 41,false),some (some 41,false),none] [3,5,6,19,20,21,48] [(1,0),(150,0)] h fun ac wd h => ?_
          injection aw with aw; subst aw
          exact ⟨true,rfl,h.z⟩
         ·
          refine qeg [] [none,none,none,none,none,some (some 30,false),some (some 30,false),some (some 30,false),some (some 30,false),none,none,some (some 36,false),some (some 36,false),some (some 36,false),none,none,some (some 41,false),some (some 41,false),some (some 41,false),some (some 41,false),some (some 41,false),some (some 41,false),none] [3,5,6,19,20,21,48] [(1,0),(150,0)] h fun ac wd h => ?_
          injection aw with aw; subst aw
          exact ⟨decide (ao.Start ≥ (ao.States.length : Int)),rfl,h.z⟩
      ·
       rintro ac wd ⟨ax,rfl,h⟩
       (try dsimp only at an)
       rcases i2b an with ⟨aC,an⟩ | ⟨aC,an⟩
       ·
        refine kT h ?_
        refine qs 177 [] [4] [] h fun ac wd h => ?_
        refine wp_ret ?_
        injection an with an
        subst an
        (try dsimp only at ak)
        injection ak with ak
        subst ak
        exact rE h [.tmp 4]
       ·
        refine kF h ?_
        refine wp_skip ?_
        change Code.wp Try.prog _ _ _ _
        refine qs 180 [] [3,5,6,19,20,21,50,51,52] [(1,0),(150,0)] h fun ac wd h => ?_
        obtain ⟨aD,aE,an⟩ := Option.bind_eq_some_iff.1 an
        refine r_meetQ (fun ac wd => (.inl ()) = aD ∧ SL ⟨wb,S,Φ,P0⟩ 65 209 [(3,.one (.ptr (1,0) 0)),(19,.one (.d (.sl (List.map eTNode a0)))),(20,.one (.d (.int .i64 (a0.length : Int)))),(21,.one (.d (.int .i64 aj)))] [((1,0),some (.box 25 (cTGraph a1)))] ac wd) ?_ ?_
        ·
         refine wp_block ?_
         refine r_while (fun nf ac wd => ∃ (aF : Int),L_table_Right_l2 a1 aj ao nf aF = some aD ∧ SL ⟨wb,S,Φ,P0⟩ 65 208 [(3,.one (.ptr (1,0) 0)),(5,.one (.d (.int .i64 aj))),(6,.one (.ptr (150,0) 0)),(19,.one (.d (.sl (List.map eTNode a0)))),(20,.one (.d (.int .i64 (a0.length : Int)))),(21,.one (.d (.int .i64 aj))),(50,.one (.d (.sl (List.map eTState ao.States)))),(51,.one (.d (.int .i64 (ao.States.length : Int)))),(52,.one (.d (.int .i64 aF)))] [((1,0),some (.box 25 (cTGraph a1))),((150,0),some (.box 38 (cTNode ao)))] ac wd) (((ao.States.length : Int) - 0).toNat + 1) ⟨0,aE,h.z⟩ (fun nf ac wd hJ => ?_)
         obtain ⟨aF,aG,h⟩ := hJ
         cases nf with
         | zero => rw [L_table_Right_l2] at aG; cases aG
         | succ nf =>
          rw [L_table_Right_l2] at aG
          refine qs 209 [] [3,5,6,19,20,21,50,51,52,53] [(1,0),(150,0)] h fun ac wd h => ?_
          refine wp_seq ?_
          rcases i2 aG with ⟨aH,aG⟩ | ⟨aH,aG⟩
          ·
           refine kT h ?_
           refine wp_skip ?_
           change Code.wp Try.prog _ _ _ _
           refine wp_seq ?_
           refine wp_block ?_
           obtain ⟨aI,aJ,aK,aL,aM,aG⟩ := aB aG
           refine qs 213 [] [3,5,6,8,19,20,21,50,51,52] [(1,0),(150,0),(211,0)] h fun ac wd h => ?_
           obtain ⟨aN,aO,aG⟩ := oB aG
           have aP := L_table_place_may_ok aO
           refine qs 220 [factE 218 aP] [3,5,6,19,20,21,50,51,52,62] [(1,0),(150,0)] h fun ac wd h => ?_
           rcases i2b aG with ⟨aQ,aG⟩ | ⟨aQ,aG⟩
           ·
            refine kF h ?_
            refine wp_skip ?_
            change Code.wp Try.prog _ _ _ _
            refine qe [] [3,5,6,19,20,21,50,51,52] [(1,0),(150,0)] h fun ac wd h => ?_
            exact ⟨nf,Nat.lt_succ_self nf,(IntKind.wrap .i64 (aF + 1)),aG,h.z⟩
           ·
            refine kT h ?_
            refine qs 221 [] [4] [] h fun ac wd h => ?_
            refine wp_ret ?_
            injection aG with aG
            subst aG
            (try dsimp only at an)
            injection an with an
            subst an
            (try dsimp only at ak)
            injection ak with ak
            subst ak
            exact rE h [.tmp 4]
          ·
           refine kF h ?_
           refine wp_exit ?_
           injection aG with aG; subst aG
           exact ⟨rfl,h.z⟩
        ·
         rintro ac wd ⟨rfl,h⟩
         (try dsimp only at an)
         injection an with an; subst an
         exact ⟨rfl,h.z⟩
     ·
      rintro ac wd ⟨rfl,h⟩
      (try dsimp only at ak)
      refine qe [] [3,19,20,21] [(1,0)] h fun ac wd h => ?_
      exact ⟨nf,Nat.lt_succ_self nf,(IntKind.wrap .i64 (aj + 1)),ak,h.z⟩
    ·
     refine kF h ?_
     refine wp_exit ?_
     change Code.wp Try.prog _ _ _ _
     refine qs 148 [] [4] [] h fun ac wd h => ?_
     refine wp_ret ?_
     injection ak with ak
     subst ak
     exact rE h [.tmp 4]

theorem L_law04_two_own {r : (List TNode)} (hD : L_law04_two = some r) :
  CallH Try.prog 57 [] []
   (.one (.own (1,0) r.length)) [((1,0),some (.row 38 2 (openRows cols_38 (List.map eTNode r))))] := by
 unfold L_law04_two at hD
 refine rc Try.func57 rfl Try.ntmps57 fun S Φ P0 wb ac h => ?_
 refine qs 2 [] [] [] h fun ac wd h => ?_
 refine qs 19 [] [0] [(3,0),(5,0),(8,0),(10,0),(12,0),(15,0),(17,0)] h fun ac wd h => ?_
 have h := h.fL (cols := (fun _ => .sc)) (5,0) (3,0) ([]) [.d (.int .i64 1),.own (3,0) 1] 1 (List.map eTSend [(TSend.mk 1 1)]) (sc_50 _)
 have h := h.sm 19 [(0,.one (.own (17,0) (1 + 1)))]
  [((5,0),some (.row 46 2 ([[.d (.int .i64 1),.tr (.sl 50 2 (fun _ => .sc)) (.sl (List.map eTSend [(TSend.mk 1 1)]))]]))),((8,0),some (.row 43 4 (([[.d (.int .i64 1),.nil,.own (5,0) 1,.nil]] ++ [[.d (.int .i64 0),.nil,.nil,.nil]])))),((10,0),some (.row 3 1 ([[.d (.int .i64 0)]]))),((12,0),some (.row 48 3 ([[.d (.int .i64 0),.d (.int .i64 1),.d (.int .i64 1)]]))),((15,0),some (.row 43 4 (([[.d (.int .i64 2),.own (10,0) 1,.nil,.own (12,0) 1]] ++ [[.d (.int .i64 0),.nil,.nil,.nil]])))),((17,0),some (.row 38 2 (([[.d (.int .i64 0),.own (8,0) (1 + 1)]] ++ [[.d (.int .i64 0),.own (15,0) (1 + 1)]]))))]
 have h := h.nilTr (8,0) (l := ([[.d (.int .i64 1),.nil,.own (5,0) 1,.nil]] ++ [[.d (.int .i64 0),.nil,.nil,.nil]])) (l' := ([[.d (.int .i64 1),.tr (.sl 3 1 (fun _ => .sc)) (.sl (List.map eI [])),.own (5,0) 1,.tr (.sl 48 3 (fun _ => .sc)) (.sl (List.map eTTake []))]] ++ [[.d (.int .i64 0),.tr (.sl 3 1 (fun _ => .sc)) (.sl (List.map eI [])),.tr (.sl 46 2 cols_46) (.sl (List.map eTPick [])),.tr (.sl 48 3 (fun _ => .sc)) (.sl (List.map eTTake []))]])) (by simp only [EZ,simprocAttr] <;> rfl) (RowsTo.append (RowsTo.cons (RowTo.cons (.inl rfl) (RowTo.cons (.inr (.inr ⟨rfl,_,_,_,rfl⟩)) (RowTo.cons (.inl rfl) (RowTo.cons (.inr (.inr ⟨rfl,_,_,_,rfl⟩)) RowTo.nil)))) (RowsTo.refl [])) (RowsTo.cons (RowTo.cons (.inl rfl) (RowTo.cons (.inr (.inr ⟨rfl,_,_,_,rfl⟩)) (RowTo.cons (.inr (.inr ⟨rfl,_,_,_,rfl⟩)) (RowTo.cons (.inr (.inr ⟨rfl,_,_,_,rfl⟩)) RowTo.nil)))) (RowsTo.refl [])))
 have h := h.sm 19 [(0,.one (.own (17,0) (1 + 1)))]
  [((5,0),some (.row 46 2 (openRows cols_46 (List.map eTPick ([(TPick.mk 1 [(TSend.mk 1 1)])]))))),((8,0),some (.row 43 4 (([[.d (.int .i64 1),.tr (.sl 3 1 (fun _ => .sc)) (.sl (List.map eI [])),.own (5,0) 1,.tr (.sl 48 3 (fun _ => .sc)) (.sl (List.map eTTake []))]] ++ [[.d (.int .i64 0),.tr (.sl 3 1 (fun _ => .sc)) (.sl (List.map eI [])),.tr (.sl 46 2 cols_46) (.sl (List.map eTPick [])),.tr (.sl 48 3 (fun _ => .sc)) (.sl (List.map eTTake []))]])))),((10,0),some (.row 3 1 ([[.d (.int .i64 0)]]))),((12,0),some (.row 48 3 ([[.d (.int .i64 0),.d (.int .i64 1),.d (.int .i64 1)]]))),((15,0),some (.row 43 4 (([[.d (.int .i64 2),.own (10,0) 1,.nil,.own (12,0) 1]] ++ [[.d (.int .i64 0),.nil,.nil,.nil]])))),((17,0),some (.row 38 2 (([[.d (.int .i64 0),.own (8,0) (1 + 1)]] ++ [[.d (.int .i64 0),.own (15,0) (1 + 1)]]))))]
 have h := h.f0 (cols := cols_46) (l := ([[.d (.int .i64 1),.tr (.sl 3 1 (fun _ => .sc)) (.sl (List.map eI [])),.own (5,0) 1,.tr (.sl 48 3 (fun _ => .sc)) (.sl (List.map eTTake []))]] ++ [[.d (.int .i64 0),.tr (.sl 3 1 (fun _ => .sc)) (.sl (List.map eI [])),.tr (.sl 46 2 cols_46) (.sl (List.map eTPick [])),.tr (.sl 48 3 (fun _ => .sc)) (.sl (List.map eTTake []))]])) (r := [.d (.int .i64 1),.tr (.sl 3 1 (fun _ => .sc)) (.sl (List.map eI [])),.own (5,0) 1,.tr (.sl 48 3 (fun _ => .sc)) (.sl (List.map eTTake []))]) (L := List.map eTPick ([(TPick.mk 1 [(TSend.mk 1 1)])])) (8,0) (5,0) 0 2 (sc_46 _)
 have h := h.sm 19 [(0,.one (.own (17,0) (1 + 1)))]
  [((8,0),some (.row 43 4 (([[.d (.int .i64 1),.tr (.sl 3 1 (fun _ => .sc)) (.sl (List.map eI [])),.tr (.sl 46 2 cols_46) (.sl (List.map eTPick ([(TPick.mk 1 [(TSend.mk 1 1)])]))),.tr (.sl 48 3 (fun _ => .sc)) (.sl (List.map eTTake []))]] ++ [[.d (.int .i64 0),.tr (.sl 3 1 (fun _ => .sc)) (.sl (List.map eI [])),.tr (.sl 46 2 cols_46) (.sl (List.map eTPick [])),.tr (.sl 48 3 (fun _ => .sc)) (.sl (List.map eTTake []))]])))),((10,0),some (.row 3 1 ([[.d (.int .i64 0)]]))),((12,0),some (.row 48 3 ([[.d (.int .i64 0),.d (.int .i64 1),.d (.int .i64 1)]]))),((15,0),some (.row 43 4 (([[.d (.int .i64 2),.own (10,0) 1,.nil,.own (12,0) 1]] ++ [[.d (.int .i64 0),.nil,.nil,.nil]])))),((17,0),some (.row 38 2 (([[.d (.int .i64 0),.own (8,0) (1 + 1)]] ++ [[.d (.int .i64 0),.own (15,0) (1 + 1)]]))))]
 have h := h.nilTr (15,0) (l := ([[.d (.int .i64 2),.own (10,0) 1,.nil,.own (12,0) 1]] ++ [[.d (.int .i64 0),.nil,.nil,.nil]])) (l' := ([[.d (.int .i64 2),.own (10,0) 1,.tr (.sl 46 2 cols_46) (.sl (List.map eTPick [])),.own (12,0) 1]] ++ [[.d (.int .i64 0),.tr (.sl 3 1 (fun _ => .sc)) (.sl (List.map eI [])),.tr (.sl 46 2 cols_46) (.sl (List.map eTPick [])),.tr (.sl 48 3 (fun _ => .sc)) (.sl (List.map eTTake []))]])) (by simp only [EZ,simprocAttr] <;> rfl) (RowsTo.append (RowsTo.cons (RowTo.cons (.inl rfl) (RowTo.cons (.inl rfl) (RowTo.cons (.inr (.inr ⟨rfl,_,_,_,rfl⟩)) (RowTo.cons (.inl rfl) RowTo.nil)))) (RowsTo.refl [])) (RowsTo.cons (RowTo.cons (.inl rfl) (RowTo.cons (.inr (.inr ⟨rfl,_,_,_,rfl⟩)) (RowTo.cons (.inr (.inr ⟨rfl,_,_,_,rfl⟩)) (RowTo.cons (.inr (.inr ⟨rfl,_,_,_,rfl⟩)) RowTo.nil)))) (RowsTo.refl [])))
 have h := h.sm 19 [(0,.one (.own (17,0) (1 + 1)))]
  [((8,0),some (.row 43 4 (openRows cols_43 (List.map eTState ([(TState.mk 1 [] ([(TPick.mk 1 [(TSend.mk 1 1)])]) [])] ++ [(TState.mk 0 [] [] [])]))))),((10,0),some (.row 3 1 (dat (List.map eI [0])))),((12,0),some (.row 48 3 (dat (List.map eTTake [(TTake.mk 0 1 1)])))),((15,0),some (.row 43 4 (([[.d (.int .i64 2),.own (10,0) 1,.tr (.sl 46 2 cols_46) (.sl (List.map eTPick [])),.own (12,0) 1]] ++ [[.d (.int .i64 0),.tr (.sl 3 1 (fun _ => .sc)) (.sl (List.map eI [])),.tr (.sl 46 2 cols_46) (.sl (List.map eTPick [])),.tr (.sl 48 3 (fun _ => .sc)) (.sl (List.map eTTake []))]])))),((17,0),some (.row 38 2 (([[.d (.int .i64 0),.own (8,0) (1 + 1)]] ++ [[.d (.int .i64 0),.own (15,0) (1 + 1)]]))))]
 have h := h.f0 (cols := (fun _ => .sc)) (l := ([[.d (.int .i64 2),.own (10,0) 1,.tr (.sl 46 2 cols_46) (.sl (List.map eTPick [])),.own (12,0) 1]] ++ [[.d (.int .i64 0),.tr (.sl 3 1 (fun _ => .sc)) (.sl (List.map eI [])),.tr (.sl 46 2 cols_46) (.sl (List.map eTPick [])),.tr (.sl 48 3 (fun _ => .sc)) (.sl (List.map eTTake []))]])) (r := [.d (.int .i64 2),.own (10,0) 1,.tr (.sl 46 2 cols_46) (.sl (List.map eTPick [])),.own (12,0) 1]) (L := List.map eI [0]) (15,0) (10,0) 0 1 (sc_3 _)
 have h := h.sm 19 [(0,.one (.own (17,0) (1 + 1)))]
  [((8,0),some (.row 43 4 (openRows cols_43 (List.map eTState ([(TState.mk 1 [] ([(TPick.mk 1 [(TSend.mk 1 1)])]) [])] ++ [(TState.mk 0 [] [] [])]))))),((12,0),some (.row 48 3 (dat (List.map eTTake [(TTake.mk 0 1 1)])))),((15,0),some (.row 43 4 (([[.d (.int .i64 2),.tr (.sl 3 1 (fun _ => .sc)) (.sl (List.map eI [0])),.tr (.sl 46 2 cols_46) (.sl (List.map eTPick [])),.own (12,0) 1]] ++ [[.d (.int .i64 0),.tr (.sl 3 1 (fun _ => .sc)) (.sl (List.map eI [])),.tr (.sl 46 2 cols_46) (.sl (List.map eTPick [])),.tr (.sl 48 3 (fun _ => .sc)) (.sl (List.map eTTake []))]])))),((17,0),some (.row 38 2 (([[.d (.int .i64 0),.own (8,0) (1 + 1)]] ++ [[.d (.int .i64 0),.own (15,0) (1 + 1)]]))))]
 have h := h.f0 (cols := (fun _ => .sc)) (l := ([[.d (.int .i64 2),.tr (.sl 3 1 (fun _ => .sc)) (.sl (List.map eI [0])),.tr (.sl 46 2 cols_46) (.sl (List.map eTPick [])),.own (12,0) 1]] ++ [[.d (.int .i64 0),.tr (.sl 3 1 (fun _ => .sc)) (.sl (List.map eI [])),.tr (.sl 46 2 cols_46) (.sl (List.map eTPick [])),.tr (.sl 48 3 (fun _ => .sc)) (.sl (List.map eTTake []))]])) (r := [.d (.int .i64 2),.tr (.sl 3 1 (fun _ => .sc)) (.sl (List.map eI [0])),.tr (.sl 46 2 cols_46) (.sl (List.map eTPick [])),.own (12,0) 1]) (L := List.map eTTake [(TTake.mk 0 1 1)]) (15,0) (12,0) 0 3 (sc_48 _)
 have h := h.sm 19 [(0,.one (.own (17,0) (1 + 1)))]
  [((8,0),some (.row 43 4 (openRows cols_43 (List.map eTState ([(TState.mk 1 [] ([(TPick.mk 1 [(TSend.mk 1 1)])]) [])] ++ [(TState.mk 0 [] [] [])]))))),((15,0),some (.row 43 4 (([[.d (.int .i64 2),.tr (.sl 3 1 (fun _ => .sc)) (.sl (List.map eI [0])),.tr (.sl 46 2 cols_46) (.sl (List.map eTPick [])),.tr (.sl 48 3 (fun _ => .sc)) (.sl (List.map eTTake [(TTake.mk 0 1 1)]))]] ++ [[.d (.int .i64 0),.tr (.sl 3 1 (fun _ => .sc)) (.sl (List.map eI [])),.tr (.sl 46 2 cols_46) (.sl (List.map eTPick [])),.tr (.sl 48 3 (fun _ => .sc)) (.sl (List.map eTTake []))]])))),((17,0),some (.row 38 2 (([[.d (.int .i64 0),.own (8,0) (1 + 1)]] ++ [[.d (.int .i64 0),.own (15,0) (1 + 1)]]))))]
 have h := h.fL (cols := cols_43) (17,0) (15,0) ([[.d (.int .i64 0),.own (8,0) (1 + 1)]]) [.d (.int .i64 0),.own (15,0) (1 + 1)] 1 (List.map eTState ([(TState.mk 2 [0] [] [(TTake.mk 0 1 1)])] ++ [(TState.mk 0 [] [] [])])) (sc_43 _)
 have h := h.sm 19 [(0,.one (.own (17,0) (1 + 1)))]
  [((8,0),some (.row 43 4 (openRows cols_43 (List.map eTState ([(TState.mk 1 [] ([(TPick.mk 1 [(TSend.mk 1 1)])]) [])] ++ [(TState.mk 0 [] [] [])]))))),((17,0),some (.row 38 2 (([[.d (.int .i64 0),.own (8,0) (1 + 1)]] ++ [[.d (.int .i64 0),.tr (.sl 43 4 cols_43) (.sl (List.map eTState ([(TState.mk 2 [0] [] [(TTake.mk 0 1 1)])] ++ [(TState.mk 0 [] [] [])])))]]))))]
 have h := h.f0 (cols := cols_43) (l := ([[.d (.int .i64 0),.own (8,0) (1 + 1)]] ++ [[.d (.int .i64 0),.tr (.sl 43 4 cols_43) (.sl (List.map eTState ([(TState.mk 2 [0] [] [(TTake.mk 0 1 1)])] ++ [(TState.mk 0 [] [] [])])))]])) (r := [.d (.int .i64 0),.own (8,0) (1 + 1)]) (L := List.map eTState ([(TState.mk 1 [] ([(TPick.mk 1 [(TSend.mk 1 1)])]) [])] ++ [(TState.mk 0 [] [] [])])) (17,0) (8,0) 0 1 (sc_43 _)
 have h := h.sm 19 [(0,.one (.own (17,0) (1 + 1)))]
  [((17,0),some (.row 38 2 (([[.d (.int .i64 0),.tr (.sl 43 4 cols_43) (.sl (List.map eTState ([(TState.mk 1 [] ([(TPick.mk 1 [(TSend.mk 1 1)])]) [])] ++ [(TState.mk 0 [] [] [])])))]] ++ [[.d (.int .i64 0),.tr (.sl 43 4 cols_43) (.sl (List.map eTState ([(TState.mk 2 [0] [] [(TTake.mk 0 1 1)])] ++ [(TState.mk 0 [] [] [])])))]]))))]
 refine wp_ret ?_
 have h := h.sw (1,0) (17,0) 19
 injection hD with hD
 subst hD
 exact rO h [.tmp 0] [(1,0)]
theorem L_law04_two_ok {r : (List TNode)} (hD : L_law04_two = some r) :
  CallH Try.prog 57 [] []
   (.one (.d (.sl (List.map eTNode r)))) [] :=
 (L_law04_two_own hD).fr

theorem L_graph_Full_own {a0 : Int} {r : TGraph} (hD : L_graph_Full a0 = some r) :
  CallH Try.prog 58 [.one (.d (.int .i64 a0))] []
   (.agg [.d (.int .i64 r.N),.own (1,0) r.Links.length]) [((1,0),some (.row 126 2 (dat (List.map eA2I r.Links))))] := by
 unfold L_graph_Full at hD
 refine rc Try.func58 rfl Try.ntmps58 fun S Φ P0 wb ac h => ?_
 refine qs 2 [] [0,2] [(1,0)] h fun ac wd h => ?_
 refine qs 8 [] [2,3] [(1,0),(6,0)] h fun ac wd h => ?_
 refine wp_seq ?_
 refine qs 11 [] [2,3,11,12] [(1,0),(6,0)] h fun ac wd h => ?_
 refine wp_block ?_
 have h := SL.bornB h (6,0) 1 126 2 (by simp only [EZ,simprocAttr, *] <;> rfl) (by simp only [EZ,simprocAttr, *] <;> rfl)
 refine r_while (fun nf ac wd => ∃ (aa : Int) (ab : List A2I),L_graph_Full_l1 a0 nf aa ab = some r ∧ SL ⟨wb,S,Φ,P0⟩ 34 105 [(2,.one (.ptr (1,0) 0)),(3,.one (.ptr (6,0) 0)),(11,.one (.d (.int .i64 (min (max a0 1) 6)))),(12,.one (.d (.int .i64 aa)))] [((1,0),some (.box 25 [.d (.int .i64 0),.nil])),((6,0),some (.box 25 [.d (.int .i64 (min (max a0 1) 6)),.own (11,0) ab.length])),((11,0),some (.row 126 2 (dat (List.map eA2I ab))))] ac wd) (((min (max a0 1) 6) - 0).toNat + 1) ⟨0,([] : List A2I),hD,h.z⟩ (fun nf ac wd hJ => ?_)
 obtain ⟨aa,ab,ad,h⟩ := hJ
 cases nf with
 | zero => rw [L_graph_Full_l1] at ad; cases ad
 | succ nf =>
  rw [L_graph_Full_l1] at ad
  refine qs 106 [] [2,3,11,12,13] [(1,0),(6,0),(11,0)] h fun ac wd h => ?_
  refine wp_seq ?_
  rcases i2 ad with ⟨ae,ad⟩ | ⟨ae,ad⟩
  ·
   refine kT h ?_
   refine wp_skip ?_
   change Code.wp Try.prog _ _ _ _
   obtain ⟨af,ag,ad⟩ := Option.bind_eq_some_iff.1 ad
   refine r_seqJ (fun ac wd => ∃ (ah : List A2I),ah = af ∧ SL ⟨wb,S,Φ,P0⟩ 34 146 [(2,.one (.ptr (1,0) 0)),(3,.one (.ptr (6,0) 0)),(11,.one (.d (.int .i64 (min (max a0 1) 6)))),(12,.one (.d (.int .i64 aa)))] [((1,0),some (.box 25 [.d (.int .i64 0),.nil])),((6,0),some (.box 25 [.d (.int .i64 (min (max a0 1) 6)),.own (11,0) ah.length])),((11,0),some (.row 126 2 (dat (List.map eA2I ah))))] ac wd) ?_ ?_
   ·
    refine wp_block ?_
    refine qs 108 [] [2,3,4,11,12] [(1,0),(6,0),(11,0)] h fun ac wd h => ?_
    refine qs 111 [] [2,3,4,11,12,16,17] [(1,0),(6,0),(11,0)] h fun ac wd h => ?_
    obtain ⟨ai,aj,ag⟩ := Option.bind_eq_some_iff.1 ag
    refine r_meetQ (fun ac wd => ∃ (ak : List A2I),ak = ai ∧ SL ⟨wb,S,Φ,P0⟩ 34 146 [(2,.one (.ptr (1,0) 0)),(3,.one (.ptr (6,0) 0)),(11,.one (.d (.int .i64 (min (max a0 1) 6)))),(12,.one (.d (.int .i64 aa)))] [((1,0),some (.box 25 [.d (.int .i64 0),.nil])),((6,0),some (.box 25 [.d (.int .i64 (min (max a0 1) 6)),.own (11,0) ak.length])),((11,0),some (.row 126 2 (dat (List.map eA2I ak))))] ac wd) ?_ ?_
    ·
     refine wp_block ?_
     refine r_while (fun nf ac wd => ∃ (al : Int) (am : List A2I),L_graph_Full_l2 a0 aa nf al am = some ai ∧ SL ⟨wb,S,Φ,P0⟩ 34 145 [(2,.one (.ptr (1,0) 0)),(3,.one (.ptr (6,0) 0)),(4,.one (.d (.int .i64 aa))),(11,.one (.d (.int .i64 (min (max a0 1) 6)))),(12,.one (.d (.int .i64 aa))),(16,.one (.d (.int .i64 (min (max a0 1) 6)))),(17,.one (.d (.int .i64 al)))] [((1,0),some (.box 25 [.d (.int .i64 0),.nil])),((6,0),some (.box 25 [.d (.int .i64 (min (max a0 1) 6)),.own (11,0) am.length])),((11,0),some (.row 126 2 (dat (List.map eA2I am))))] ac wd) (((min (max a0 1) 6) - 0).toNat + 1) ⟨0,ab,aj,h.z⟩ (fun nf ac wd hJ => ?_)
     obtain ⟨al,am,an,h⟩ := hJ
     cases nf with
     | zero => rw [L_graph_Full_l2] at an; cases an
     | succ nf =>
      rw [L_graph_Full_l2] at an
      refine qs 146 [] [2,3,4,11,12,16,17,18] [(1,0),(6,0),(11,0)] h fun ac wd h => ?_
      refine wp_seq ?_
      rcases i2 an with ⟨ao,an⟩ | ⟨ao,an⟩
      ·
       refine kT h ?_
       refine wp_skip ?_
       change Code.wp Try.prog _ _ _ _
       obtain ⟨ap,aq,an⟩ := Option.bind_eq_some_iff.1 an
       refine r_seqJ (fun ac wd => ∃ (ar : List A2I),ar = ap ∧ SL ⟨wb,S,Φ,P0⟩ 34 160 [(2,.one (.ptr (1,0) 0)),(3,.one (.ptr (6,0) 0)),(4,.one (.d (.int .i64 aa))),(11,.one (.d (.int .i64 (min (max a0 1) 6)))),(12,.one (.d (.int .i64 aa))),(16,.one (.d (.int .i64 (min (max a0 1) 6)))),(17,.one (.d (.int .i64 al)))] [((1,0),some (.box 25 [.d (.int .i64 0),.nil])),((6,0),some (.box 25 [.d (.int .i64 (min (max a0 1) 6)),.own (11,0) ar.length])),((11,0),some (.row 126 2 (dat (List.map eA2I ar))))] ac wd) ?_ ?_
       ·
        refine wp_block ?_
        refine qs 148 [] [2,3,4,5,11,12,16,17] [(1,0),(6,0),(11,0)] h fun ac wd h => ?_
        refine qs 151 [] [2,3,4,5,11,12,16,17,22] [(1,0),(6,0),(11,0)] h fun ac wd h => ?_
        rcases i2e aq with ⟨au,aq⟩ | ⟨au,aq⟩
        ·
         refine kF h ?_
         refine wp_skip ?_
         injection aq with aq; subst aq
         exact ⟨am,rfl,h.z⟩
        ·
         refine kT h ?_
         obtain ⟨av,aq⟩ := iT aq
         refine qe [] [2,3,4,11,12,16,17] [(1,0),(6,0),(157,0)] h fun ac wd h => ?_
         have h := h.sw (11,0) (157,0) 160
         injection aq with aq; subst aq
         exact ⟨(am ++ [(A2I.mk aa al)]),rfl,h.z⟩
       ·
        rintro ac wd ⟨ar,rfl,h⟩
        (try dsimp only at an)
        refine qe [] [2,3,4,11,12,16,17] [(1,0),(6,0),(11,0)] h fun ac wd h => ?_
        exact ⟨nf,Nat.lt_succ_self nf,(IntKind.wrap .i64 (al + 1)),ar,an,h.z⟩
      ·
       refine kF h ?_
       refine wp_exit ?_
       injection an with an; subst an
       exact ⟨am,rfl,h.z⟩
    ·
     rintro ac wd ⟨ak,rfl,h⟩
     (try dsimp only at ag)
     injection ag with ag; subst ag
     exact ⟨ak,rfl,h.z⟩
   ·
    rintro ac wd ⟨ah,rfl,h⟩
    (try dsimp only at ad)
    refine qe [] [2,3,11,12] [(1,0),(6,0),(11,0)] h fun ac wd h => ?_
    exact ⟨nf,Nat.lt_succ_self nf,(IntKind.wrap .i64 (aa + 1)),ah,ad,h.z⟩
  ·
   refine kF h ?_
   refine wp_exit ?_
   change Code.wp Try.prog _ _ _ _
   refine qs 108 [] [2] [(1,0),(11,0)] h fun ac wd h => ?_
   refine wp_ret ?_
   have h := h.sw (1,0) (11,0) 108
   injection ad with ad
   subst ad
   exact rO h [.cell 2 25] [(1,0)]
theorem L_graph_Full_ok {a0 : Int} {r : TGraph} (hD : L_graph_Full a0 = some r) :
  CallH Try.prog 58 [.one (.d (.int .i64 a0))] []
   (.agg [.d (.int .i64 r.N),.d (.sl (List.map eA2I r.Links))]) [] :=
 (L_graph_Full_own hD).fr

theorem L_table_at_ok {a0 : (List TNode)} {a1 : Int} {a2 : Int} {r : TState × Bool} (hD : L_table_at a0 a1 a2 = some r) :
  CallH Try.prog 105 [.one (.d (.sl (List.map eTNode a0))),.one (.d (.int .i64 a1)),.one (.d (.int .i64 a2))] []
   (.tup [.inl [.d (.int .i64 r.1.Mode),.d (.sl (List.map eI r.1.Waits)),.d (.sl (List.map eTPick r.1.Picks)),.d (.sl (List.map eTTake r.1.Takes))],.inr (.d (.bool r.2))]) [] := by
 unfold L_table_at at hD
 refine rc Try.func105 rfl Try.ntmps105 fun S Φ P0 wb ac h => ?_
 refine qs 3 [] [0,1,2,6] [(1,0)] h fun ac wd h => ?_
 refine wp_seq ?_
 obtain ⟨aa,ab,hD⟩ := Option.bind_eq_some_iff.1 hD
 refine r_seqJ (fun ac wd => ∃ (ad : Bool),ad = aa ∧ SL ⟨wb,S,Φ,P0⟩ 39 25 [(0,.one (.d (.sl (List.map eTNode a0)))),(1,.one (.d (.int .i64 a1))),(2,.one (.d (.int .i64 a2))),(6,.one (.ptr (1,0) 0)),(29,.one (.d (.bool ad)))] [((1,0),some (.box 43 [.d (.int .i64 0),.nil,.nil,.nil]))] ac wd) ?_ ?_
 ·
  rcases i2 ab with ⟨ae,ab⟩ | ⟨ae,ab⟩
  ·
   refine qeg [] [none,none,none,some (some 10,false),some (some 10,false),some (some 10,false),some (some 10,false),none,none,some (some 16,false),some (some 16,false),none,none,some (some 20,false),some (some 20,false),some (some 20,false),some (some 20,false),some (some 20,false),some (some 20,false),some (some 20,false),some (some 20,false),none] [0,1,2,6,29] [(1,0)] h fun ac wd h => ?_
   injection ab with ab; subst ab
   exact ⟨true,rfl,h.z⟩
  ·
   rcases i2 ab with ⟨af,ab⟩ | ⟨af,ab⟩
   ·
    refine qeg [] [none,none,none,some (some 10,false),some (some 10,false),some (some 10,false),some (some 10,false),none,none,some (some 16,false),some (some 16,false),none,none,some (some 20,false),some (some 20,false),some (some 20,false),some (some 20,false),some (some 20,false),some (some 20,false),some (some 20,false),some (some 20,false),none] [0,1,2,6,29] [(1,0)] h fun ac wd h => ?_
    injection ab with ab; subst ab
    exact ⟨true,rfl,h.z⟩
   ·
    rcases i2 ab with ⟨ag,ab⟩ | ⟨ag,ab⟩
    ·
     refine qeg [] [none,none,none,some (some 10,false),some (some 10,false),some (some 10,false),some (some 10,false),none,none,some (some 16,false),some (some 16,false),none,none,some (some 20,false),some (some 20,false),some (some 20,false),some (some 20,false),some (some 20,false),some (some 20,false),some (some 20,false),some (some 20,false),none] [0,1,2,6,29] [(1,0)] h fun ac wd h => ?_
     injection ab with ab; subst ab
     exact ⟨true,rfl,h.z⟩
    ·
     obtain ⟨ah,ai,aj,ak,al,ab⟩ := aB ab
     refine qeg [] [none,none,none,some (some 10,false),some (some 10,false),some (some 10,false),some (some 10,false),none,none,some (some 16,false),some (some 16,false),none,none,some (some 20,false),some (some 20,false),some (some 20,false),some (some 20,false),some (some 20,false),some (some 20,false),some (some 20,false),some (some 20,false),none] [0,1,2,6,29] [(1,0)] h fun ac wd h => ?_
     injection ab with ab; subst ab
     exact ⟨decide (a2 ≥ (ah.States.length : Int)),rfl,h.z⟩
 ·
  rintro ac wd ⟨ad,rfl,h⟩
  (try dsimp only at hD)
  rcases i2b hD with ⟨am,hD⟩ | ⟨am,hD⟩
  ·
   refine kT h ?_
   refine qs 28 [] [6,7] [(1,0)] h fun ac wd h => ?_
   refine wp_ret ?_
   injection hD with hD
   subst hD
   exact rE h [.cell 6 43,.tmp 7]
  ·
   refine kF h ?_
   refine wp_skip ?_
   change Code.wp Try.prog _ _ _ _
   obtain ⟨an,ao,ap,aq,ar,hD⟩ := aB hD
   obtain ⟨au,av,aw,ax,ay,hD⟩ := aB hD
   refine qs 35 [] [6,7] [(1,0)] h fun ac wd h => ?_
   refine wp_ret ?_
   injection hD with hD
   subst hD
   exact rE h [.cell 6 43,.tmp 7]

theorem L_slices_Clone_table_Send_table_Send_own {a0 : (List TSend)} {r : (List TSend)} (hD : L_slices_Clone_table_Send_table_Send a0 = some r) :
  CallH Try.prog 106 [.one (.d (.sl (List.map eTSend a0)))] []
   (.one (.own (1,0) r.length)) [((1,0),some (.row 50 2 (dat (List.map eTSend r))))] := by
 unfold L_slices_Clone_table_Send_table_Send at hD
 refine rc Try.func106 rfl Try.ntmps106 fun S Φ P0 wb ac h => ?_
 refine qs 2 [] [0] [] h fun ac wd h => ?_
 refine wp_seq ?_
 refine qs 4 [] [0,4] [] h fun ac wd h => ?_
 refine r_condB h (by simp only [EZ,simprocAttr, *] <;> rfl) (fun aa => ?_) (fun aa => ?_)
 ·
  have aa := aa rfl
  obtain rfl : a0 = [] := List.eq_nil_of_length_eq_zero (by simpa using aa)
  have hD : (some []) = some r := by simpa using hD
  refine qs 5 [] [2] [] h fun ac wd h => ?_
  refine wp_ret ?_
  have h := SL.bornS h 2 50 2 (by simp only [EZ,simprocAttr, *] <;> rfl)
  have h := h.sw (1,0) (5,0) 6
  injection hD with hD
  subst hD
  exact rO h [.tmp 2] [(1,0)]
 ·
  refine wp_skip ?_
  change Code.wp Try.prog _ _ _ _
  obtain ⟨ab,hD⟩ := iT hD
  refine qs 8 [] [2] [(6,0)] h fun ac wd h => ?_
  refine wp_ret ?_
  have h := h.sw (1,0) (6,0) 8
  injection hD with hD
  subst hD
  exact rO h [.tmp 2] [(1,0)]
theorem L_slices_Clone_table_Send_table_Send_ok {a0 : (List TSend)} {r : (List TSend)} (hD : L_slices_Clone_table_Send_table_Send a0 = some r) :
  CallH Try.prog 106 [.one (.d (.sl (List.map eTSend a0)))] []
   (.one (.d (.sl (List.map eTSend r)))) [] :=
 (L_slices_Clone_table_Send_table_Send_own hD).fr

theorem L_table_Picked_own {a0 : (List TNode)} {a1 : Int} {a2 : Int} {a3 : Int} {r : TPick × Bool} (hD : L_table_Picked a0 a1 a2 a3 = some r) :
  CallH Try.prog 59 [.one (.d (.sl (List.map eTNode a0))),.one (.d (.int .i64 a1)),.one (.d (.int .i64 a2)),.one (.d (.int .i64 a3))] []
   (.tup [.inl [.d (.int .i64 r.1.Next),.own (1,0) r.1.Sends.length],.inr (.d (.bool r.2))]) [((1,0),some (.row 50 2 (dat (List.map eTSend r.1.Sends))))] := by
 unfold L_table_Picked at hD
 refine rc Try.func59 rfl Try.ntmps59 fun S Φ P0 wb ac h => ?_
 refine qs 3 [] [0,1,2,3,8] [(1,0)] h fun ac wd h => ?_
 obtain ⟨aa,ab,hD⟩ := oB hD
 have ad := L_table_at_ok ab
 refine qs 13 [factE 6 ad] [3,8,10] [(1,0),(10,0)] h fun ac wd h => ?_
 refine wp_seq ?_
 obtain ⟨ae,af,hD⟩ := Option.bind_eq_some_iff.1 hD
 refine r_seqJ (fun ac wd => ∃ (ag : Bool),ag = ae ∧ SL ⟨wb,S,Φ,P0⟩ 43 22 [(3,.one (.d (.int .i64 a3))),(8,.one (.ptr (1,0) 0)),(10,.one (.ptr (10,0) 0)),(27,.one (.d (.bool ag)))] [((1,0),some (.box 46 [.d (.int .i64 0),.nil])),((10,0),some (.box 43 [.d (.int .i64 aa.1.Mode),.d (.sl (List.map eI aa.1.Waits)),.d (.sl (List.map eTPick aa.1.Picks)),.d (.sl (List.map eTTake aa.1.Takes))]))] ac wd) ?_ ?_
 ·
  rcases i2 af with ⟨ah,af⟩ | ⟨ah,af⟩
  ·
   refine qeg [] [none,none,none,some (some 21,false),some (some 21,false),some (some 21,false),some (some 21,false),some (some 21,false),none] [3,8,10,27] [(1,0),(10,0)] h fun ac wd h => ?_
   injection af with af; subst af
   exact ⟨true,rfl,h.z⟩
  ·
   refine qeg [] [none,none,none,some (some 21,false),some (some 21,false),some (some 21,false),some (some 21,false),some (some 21,false),none] [3,8,10,27] [(1,0),(10,0)] h fun ac wd h => ?_
   injection af with af; subst af
   exact ⟨decide (a3 ≥ (aa.1.Picks.length : Int)),rfl,h.z⟩
 ·
  rintro ac wd ⟨ag,rfl,h⟩
  (try dsimp only at hD)
  rcases i2b hD with ⟨ai,hD⟩ | ⟨ai,hD⟩
  ·
   refine kT h ?_
   refine qs 25 [] [8,9] [(1,0)] h fun ac wd h => ?_
   refine wp_ret ?_
   have h := SL.bornB h (1,0) 1 50 2 (by simp only [EZ,simprocAttr, *] <;> rfl) (by simp only [EZ,simprocAttr, *] <;> rfl)
   have h := h.sw (1,0) (25,0) 26
   injection hD with hD
   subst hD
   exact rO h [.cell 8 46,.tmp 9] [(1,0)]
  ·
   refine kF h ?_
   refine wp_skip ?_
   change Code.wp Try.prog _ _ _ _
   obtain ⟨aj,ak,al,am,an,hD⟩ := aB hD
   obtain ⟨ao,ap,hD⟩ := oB hD
   have aq := ((L_slices_Clone_table_Send_table_Send_own ap).cls 34).z
   refine ds 38 [factO aq] [8,9] [(1,0),(34,0)] h fun ac wd h => ?_
   refine wp_ret ?_
   have h := h.sw (1,0) (34,0) 38
   injection hD with hD
   subst hD
   exact rO h [.cell 8 46,.tmp 9] [(1,0)]
theorem L_table_Picked_ok {a0 : (List TNode)} {a1 : Int} {a2 : Int} {a3 : Int} {r : TPick × Bool} (hD : L_table_Picked a0 a1 a2 a3 = some r) :
  CallH Try.prog 59 [.one (.d (.sl (List.map eTNode a0))),.one (.d (.int .i64 a1)),.one (.d (.int .i64 a2)),.one (.d (.int .i64 a3))] []
   (.tup [.inl [.d (.int .i64 r.1.Next),.d (.sl (List.map eTSend r.1.Sends))],.inr (.d (.bool r.2))]) [] :=
 (L_table_Picked_own hD).fr

theorem L_table_Mode_ok {a0 : (List TNode)} {a1 : Int} {a2 : Int} {r : Int} (hD : L_table_Mode a0 a1 a2 = some r) :
  CallH Try.prog 60 [.one (.d (.sl (List.map eTNode a0))),.one (.d (.int .i64 a1)),.one (.d (.int .i64 a2))] []
   (.one (.d (.int .i64 r))) [] := by
 unfold L_table_Mode at hD
 refine rc Try.func60 rfl Try.ntmps60 fun S Φ P0 wb ac h => ?_
 refine qs 2 [] [0,1,2] [] h fun ac wd h => ?_
 obtain ⟨r7,ab,hD⟩ := oB hD
 have ad := L_table_at_ok ab
 refine qs 12 [factE 5 ad] [7] [(9,0)] h fun ac wd h => ?_
 refine qs 15 [] [6] [] h fun ac wd h => ?_
 refine wp_ret ?_
 injection hD with hD
 subst hD
 exact rE h [.tmp 6]

theorem L_slices_Clone_int_int_own {a0 : (List Int)} {r : (List Int)} (hD : L_slices_Clone_int_int a0 = some r) :
  CallH Try.prog 80 [.one (.d (.sl (List.map eI a0)))] []
   (.one (.own (1,0) r.length)) [((1,0),some (.row 3 1 (dat (List.map eI r))))] := by
 unfold L_slices_Clone_int_int at hD
 refine rc Try.func80 rfl Try.ntmps80 fun S Φ P0 wb ac h => ?_
 refine qs 2 [] [0] [] h fun ac wd h => ?_
 refine wp_seq ?_
 refine qs 4 [] [0,4] [] h fun ac wd h => ?_
 refine r_condB h (by simp only [EZ,simprocAttr, *] <;> rfl) (fun aa => ?_) (fun aa => ?_)
 ·
  have aa := aa rfl
  obtain rfl : a0 = [] := List.eq_nil_of_length_eq_zero (by simpa using aa)
  have hD : (some []) = some r := by simpa using hD
  refine qs 5 [] [2] [] h fun ac wd h => ?_
  refine wp_ret ?_
  have h := SL.bornS h 2 3 1 (by simp only [EZ,simprocAttr, *] <;> rfl)
  have h := h.sw (1,0) (5,0) 6
  injection hD with hD
  subst hD
  exact rO h [.tmp 2] [(1,0)]
 ·
  refine wp_skip ?_
  change Code.wp Try.prog _ _ _ _
  obtain ⟨ab,hD⟩ := iT hD
  refine qs 8 [] [2] [(6,0)] h fun ac wd h => ?_
  refine wp_ret ?_
  have h := h.sw (1,0) (6,0) 8
  injection hD with hD
  subst hD
  exact rO h [.tmp 2] [(1,0)]
theorem L_slices_Clone_int_int_ok {a0 : (List Int)} {r : (List Int)} (hD : L_slices_Clone_int_int a0 = some r) :
  CallH Try.prog 80 [.one (.d (.sl (List.map eI a0)))] []
   (.one (.d (.sl (List.map eI r)))) [] :=
 (L_slices_Clone_int_int_own hD).fr

theorem L_table_Waits_own {a0 : (List TNode)} {a1 : Int} {a2 : Int} {r : (List Int)} (hD : L_table_Waits a0 a1 a2 = some r) :
  CallH Try.prog 61 [.one (.d (.sl (List.map eTNode a0))),.one (.d (.int .i64 a1)),.one (.d (.int .i64 a2))] []
   (.one (.own (1,0) r.length)) [((1,0),some (.row 3 1 (dat (List.map eI r))))] := by
 unfold L_table_Waits at hD
 refine rc Try.func61 rfl Try.ntmps61 fun S Φ P0 wb ac h => ?_
 refine qs 2 [] [0,1,2] [] h fun ac wd h => ?_
 obtain ⟨aa,ab,hD⟩ := oB hD
 have ad := L_table_at_ok ab
 refine qs 12 [factE 5 ad] [7] [(9,0)] h fun ac wd h => ?_
 obtain ⟨ae,af,hD⟩ := oB hD
 have ag := ((L_slices_Clone_int_int_own af).cls 14).z
 refine qs 16 [factO ag] [6] [(14,0)] h fun ac wd h => ?_
 refine wp_ret ?_
 have h := h.sw (1,0) (14,0) 16
 injection hD with hD
 subst hD
 exact rO h [.tmp 6] [(1,0)]
theorem L_table_Waits_ok {a0 : (List TNode)} {a1 : Int} {a2 : Int} {r : (List Int)} (hD : L_table_Waits a0 a1 a2 = some r) :
  CallH Try.prog 61 [.one (.d (.sl (List.map eTNode a0))),.one (.d (.int .i64 a1)),.one (.d (.int .i64 a2))] []
   (.one (.d (.sl (List.map eI r)))) [] :=
 (L_table_Waits_own hD).fr

theorem L_ref01_Ints_ok {a0 : (List Int)} {a1 : (List Int)} {r : Bool} (hD : L_ref01_Ints a0 a1 = some r) :
  CallH Try.prog 28 [.one (.d (.sl (List.map eI a0))),.one (.d (.sl (List.map eI a1)))] []
   (.one (.d (.bool r))) [] := by
 unfold L_ref01_Ints at hD
 refine rc Try.func28 rfl Try.ntmps28 fun S Φ P0 wb ac h => ?_
 refine qs 2 [] [0,1] [] h fun ac wd h => ?_
 refine wp_seq ?_
 refine qs 7 [] [0,1,10] [] h fun ac wd h => ?_
 rcases i2e hD with ⟨aa,hD⟩ | ⟨aa,hD⟩
 ·
  refine kF h ?_
  refine wp_skip ?_
  change Code.wp Try.prog _ _ _ _
  refine wp_seq ?_
  refine qs 8 [] [0,1,5] [] h fun ac wd h => ?_
  refine wp_block ?_
  refine r_while (fun nf ac wd => ∃ (ab : Int),L_ref01_Ints_l1 a0 a1 nf ab = some r ∧ SL ⟨wb,S,Φ,P0⟩ 26 40 [(0,.one (.d (.sl (List.map eI a0)))),(1,.one (.d (.sl (List.map eI a1)))),(5,.one (.d (.int .i64 ab)))] [] ac wd) (((a0.length : Int) - 0).toNat + 1) ⟨0,hD,h.z⟩ (fun nf ac wd hJ => ?_)
  obtain ⟨ab,ad,h⟩ := hJ
  cases nf with
  | zero => rw [L_ref01_Ints_l1] at ad; cases ad
  | succ nf =>
   rw [L_ref01_Ints_l1] at ad
   refine wp_seq ?_
   refine qs 44 [] [0,1,5,14] [] h fun ac wd h => ?_
   rcases i2 ad with ⟨ae,ad⟩ | ⟨ae,ad⟩
   ·
    refine kT h ?_
    refine wp_skip ?_
    change Code.wp Try.prog _ _ _ _
    refine wp_seq ?_
    refine wp_block ?_
    obtain ⟨af,ag,ah,ai,aj,ad⟩ := aB ad
    obtain ⟨ak,al,am,an,ao,ad⟩ := aB ad
    refine ds 53 [] [0,1,5,25] [] h fun ac wd h => ?_
    rcases i2e ad with ⟨ap,ad⟩ | ⟨ap,ad⟩
    ·
     refine kF h ?_
     refine wp_skip ?_
     change Code.wp Try.prog _ _ _ _
     refine qe [] [0,1,5] [] h fun ac wd h => ?_
     exact ⟨nf,Nat.lt_succ_self nf,(IntKind.wrap .i64 (ab + 1)),ad,h.z⟩
    ·
     refine kT h ?_
     refine qs 54 [] [4] [] h fun ac wd h => ?_
     refine wp_ret ?_
     injection ad with ad
     subst ad
     exact rE h [.tmp 4]
   ·
    refine kF h ?_
    refine wp_exit ?_
    change Code.wp Try.prog _ _ _ _
    refine qs 45 [] [4] [] h fun ac wd h => ?_
    refine wp_ret ?_
    injection ad with ad
    subst ad
    exact rE h [.tmp 4]
 ·
  refine kT h ?_
  refine qs 8 [] [4] [] h fun ac wd h => ?_
  refine wp_ret ?_
  injection hD with hD
  subst hD
  exact rE h [.tmp 4]

theorem L_table_Taken_ok {a0 : (List TNode)} {a1 : Int} {a2 : Int} {a3 : Int} {a4 : Int} {r : Int} (hD : L_table_Taken a0 a1 a2 a3 a4 = some r) :
  CallH Try.prog 62 [.one (.d (.sl (List.map eTNode a0))),.one (.d (.int .i64 a1)),.one (.d (.int .i64 a2)),.one (.d (.int .i64 a3)),.one (.d (.int .i64 a4))] []
   (.one (.d (.int .i64 r))) [] := by
 unfold L_table_Taken at hD
 refine rc Try.func62 rfl Try.ntmps62 fun S Φ P0 wb ac h => ?_
 refine qs 2 [] [0,1,2,3,4] [] h fun ac wd h => ?_
 obtain ⟨aa,ab,hD⟩ := oB hD
 have ad := L_table_at_ok ab
 refine qs 12 [factE 5 ad] [2,3,4,11] [(9,0)] h fun ac wd h => ?_
 refine wp_seq ?_
 refine qs 16 [] [2,3,4,23,24,25] [] h fun ac wd h => ?_
 refine wp_block ?_
 refine r_while (fun nf ac wd => ∃ (ae : Int),L_table_Taken_l1 a2 a3 a4 aa nf ae = some r ∧ SL ⟨wb,S,Φ,P0⟩ 43 50 [(2,.one (.d (.int .i64 a2))),(3,.one (.d (.int .i64 a3))),(4,.one (.d (.int .i64 a4))),(23,.one (.d (.sl (List.map eTTake aa.1.Takes)))),(24,.one (.d (.int .i64 (aa.1.Takes.length : Int)))),(25,.one (.d (.int .i64 ae)))] [] ac wd) (((aa.1.Takes.length : Int) - 0).toNat + 1) ⟨0,hD,h.z⟩ (fun nf ac wd hJ => ?_)
 obtain ⟨ae,af,h⟩ := hJ
 cases nf with
 | zero => rw [L_table_Taken_l1] at af; cases af
 | succ nf =>
  rw [L_table_Taken_l1] at af
  refine qs 51 [] [2,3,4,23,24,25,26] [] h fun ac wd h => ?_
  refine wp_seq ?_
  rcases i2 af with ⟨ag,af⟩ | ⟨ag,af⟩
  ·
   refine kT h ?_
   refine wp_skip ?_
   change Code.wp Try.prog _ _ _ _
   refine wp_seq ?_
   refine wp_block ?_
   obtain ⟨ah,ai,aj,ak,al,af⟩ := aB af
   refine qs 55 [] [2,3,4,14,23,24,25] [(53,0)] h fun ac wd h => ?_
   obtain ⟨am,an,af⟩ := Option.bind_eq_some_iff.1 af
   refine r_seqJ (fun ac wd => ∃ (ao : Bool),ao = am ∧ SL ⟨wb,S,Φ,P0⟩ 43 65 [(2,.one (.d (.int .i64 a2))),(3,.one (.d (.int .i64 a3))),(4,.one (.d (.int .i64 a4))),(14,.one (.ptr (53,0) 0)),(23,.one (.d (.sl (List.map eTTake aa.1.Takes)))),(24,.one (.d (.int .i64 (aa.1.Takes.length : Int)))),(25,.one (.d (.int .i64 ae))),(38,.one (.d (.bool ao)))] [((53,0),some (.box 48 (cTTake ah)))] ac wd) ?_ ?_
   ·
    rcases i2e an with ⟨ap,an⟩ | ⟨ap,an⟩
    ·
     refine qeg [] [none,none,none,none,none,some (some 33,true),some (some 33,true),some (some 33,true),some (some 33,true),none] [2,3,4,14,23,24,25,38] [(53,0)] h fun ac wd h => ?_
     injection an with an; subst an
     exact ⟨decide (ah.Letter = a4),rfl,h.z⟩
    ·
     refine qeg [] [none,none,none,none,none,some (some 33,true),some (some 33,true),some (some 33,true),some (some 33,true),none] [2,3,4,14,23,24,25,38] [(53,0)] h fun ac wd h => ?_
     injection an with an; subst an
     exact ⟨false,rfl,h.z⟩
   ·
    rintro ac wd ⟨ao,rfl,h⟩
    (try dsimp only at af)
    rcases i2b af with ⟨aq,af⟩ | ⟨aq,af⟩
    ·
     refine kT h ?_
     refine qs 68 [] [10] [] h fun ac wd h => ?_
     refine wp_ret ?_
     injection af with af
     subst af
     exact rE h [.tmp 10]
    ·
     refine kF h ?_
     refine wp_skip ?_
     change Code.wp Try.prog _ _ _ _
     refine qe [] [2,3,4,23,24,25] [] h fun ac wd h => ?_
     exact ⟨nf,Nat.lt_succ_self nf,(IntKind.wrap .i64 (ae + 1)),af,h.z⟩
  ·
   refine kF h ?_
   refine wp_exit ?_
   change Code.wp Try.prog _ _ _ _
   refine qs 53 [] [10] [] h fun ac wd h => ?_
   refine wp_ret ?_
   injection af with af
   subst af
   exact rE h [.tmp 10]

theorem L_law04_fixed_ok {r : Bool} (hD : L_law04_fixed = some r) :
  CallH Try.prog 18 [] []
   (.one (.d (.bool r))) [] := by
 unfold L_law04_fixed at hD
 refine rc Try.func18 rfl Try.ntmps18 fun S Φ P0 wb ac h => ?_
 refine qs 2 [] [] [] h fun ac wd h => ?_
 obtain ⟨aa,ab,hD⟩ := oB hD
 obtain ⟨ad,ae,hD⟩ := oB hD
 have af := ((L_law04_two_own ab).cls 2).z
 have ag := L_graph_Full_ok ae
 refine qs 7 [factO af,factE 3 ag] [1,2] [(2,0),(4,0)] h fun ac wd h => ?_
 obtain ⟨ah,ai,hD⟩ := oB hD
 have h := h.fz [(2,0)]
 have aj := L_table_Picked_ok ai
 refine qs 15 [factE 8 aj] [1,2,3,4] [(4,0),(12,0)] h fun ac wd h => ?_
 obtain ⟨ak,al,hD⟩ := oB hD
 have am := L_table_Picked_ok al
 refine qs 23 [factE 16 am] [1,2,3,4,6] [(4,0),(12,0)] h fun ac wd h => ?_
 have an := ((L_law04_two_own ab).cls 23).z
 have ao := ((L_law04_two_own ab).cls 24).z
 refine qs 27 [factO an,factO ao] [1,2,3,4,6,7,8] [(4,0),(12,0),(23,0),(24,0)] h fun ac wd h => ?_
 obtain ⟨ap,aq,ar,au,av,hD⟩ := aN 1 hD
 have h := h.op (23,0) 1 1
 have h := h.sm 28 [(1,.one (.d (.sl (List.map eTNode aa)))),(2,.one (.ptr (4,0) 0)),(3,.one (.ptr (12,0) 0)),(4,.one (.d (.bool ah.2))),(6,.one (.d (.bool ak.2))),(7,.one (.own (23,0) aa.length)),(8,.one (.own (24,0) aa.length))]
  [((4,0),some (.box 25 [.d (.int .i64 ad.N),.d (.sl (List.map eA2I ad.Links))])),((12,0),some (.box 46 [.d (.int .i64 ah.1.Next),.d (.sl (List.map eTSend ah.1.Sends))])),((23,0),some (.row 38 2 ((openRows cols_38 (List.map eTNode aa)).set 1 [.d (.int .i64 ap.Start),.own (27,0) ap.States.length]))),((24,0),some (.row 38 2 (openRows cols_38 (List.map eTNode aa)))),((27,0),some (.row 43 4 (openRows cols_43 (List.map eTState ap.States))))]
 obtain ⟨aw,ax,ay,az,aA,hD⟩ := aN 0 hD
 refine qs 36 [] [1,2,3,4,6,7,8] [(4,0),(12,0),(23,0),(24,0),(27,0),(32,0)] h fun ac wd h => ?_
 have h := h.fS (cols := (fun _ => .sc)) (27,0) (32,0) (openRows cols_43 (List.map eTState ap.States)) 0 [.d (.int .i64 aw.Mode),.own (32,0) 1,.tr (.sl 46 2 cols_46) (.sl (List.map eTPick aw.Picks)),.tr (.sl 48 3 (fun _ => .sc)) (.sl (List.map eTTake aw.Takes))] 1 (List.map eI [1]) (sc_3 _)
 have h := h.sm 36 [(1,.one (.d (.sl (List.map eTNode aa)))),(2,.one (.ptr (4,0) 0)),(3,.one (.ptr (12,0) 0)),(4,.one (.d (.bool ah.2))),(6,.one (.d (.bool ak.2))),(7,.one (.own (23,0) aa.length)),(8,.one (.own (24,0) aa.length))]
  [((4,0),some (.box 25 [.d (.int .i64 ad.N),.d (.sl (List.map eA2I ad.Links))])),((12,0),some (.box 46 [.d (.int .i64 ah.1.Next),.d (.sl (List.map eTSend ah.1.Sends))])),((23,0),some (.row 38 2 ((openRows cols_38 (List.map eTNode aa)).set 1 [.d (.int .i64 ap.Start),.own (27,0) ap.States.length]))),((24,0),some (.row 38 2 (openRows cols_38 (List.map eTNode aa)))),((27,0),some (.row 43 4 ((openRows cols_43 (List.map eTState ap.States)).set 0 [.d (.int .i64 aw.Mode),.tr (.sl 3 1 (fun _ => .sc)) (.sl (List.map eI [1])),.tr (.sl 46 2 cols_46) (.sl (List.map eTPick aw.Picks)),.tr (.sl 48 3 (fun _ => .sc)) (.sl (List.map eTTake aw.Takes))])))]
 have h := h.fS (cols := cols_43) (23,0) (27,0) (openRows cols_38 (List.map eTNode aa)) 1 [.d (.int .i64 ap.Start),.own (27,0) ap.States.length] 1 (List.map eTState (ap.States.set 0 (TState.mk aw.Mode [1] aw.Picks aw.Takes))) (sc_43 _)
 have h := h.sm 36 [(1,.one (.d (.sl (List.map eTNode aa)))),(2,.one (.ptr (4,0) 0)),(3,.one (.ptr (12,0) 0)),(4,.one (.d (.bool ah.2))),(6,.one (.d (.bool ak.2))),(7,.one (.own (23,0) aa.length)),(8,.one (.own (24,0) aa.length))]
  [((4,0),some (.box 25 [.d (.int .i64 ad.N),.d (.sl (List.map eA2I ad.Links))])),((12,0),some (.box 46 [.d (.int .i64 ah.1.Next),.d (.sl (List.map eTSend ah.1.Sends))])),((23,0),some (.row 38 2 ((openRows cols_38 (List.map eTNode aa)).set 1 [.d (.int .i64 ap.Start),.tr (.sl 43 4 cols_43) (.sl (List.map eTState (ap.States.set 0 (TState.mk aw.Mode [1] aw.Picks aw.Takes))))]))),((24,0),some (.row 38 2 (openRows cols_38 (List.map eTNode aa))))]
 obtain ⟨aB,aC,aD,aE,aF,hD⟩ := aN 0 hD
 have h := h.op (24,0) 0 1
 have h := h.sm 37 [(1,.one (.d (.sl (List.map eTNode aa)))),(2,.one (.ptr (4,0) 0)),(3,.one (.ptr (12,0) 0)),(4,.one (.d (.bool ah.2))),(6,.one (.d (.bool ak.2))),(7,.one (.own (23,0) aa.length)),(8,.one (.own (24,0) aa.length))]
  [((4,0),some (.box 25 [.d (.int .i64 ad.N),.d (.sl (List.map eA2I ad.Links))])),((12,0),some (.box 46 [.d (.int .i64 ah.1.Next),.d (.sl (List.map eTSend ah.1.Sends))])),((23,0),some (.row 38 2 (openRows cols_38 (List.map eTNode (aa.set 1 (TNode.mk ap.Start (ap.States.set 0 (TState.mk aw.Mode [1] aw.Picks aw.Takes)))))))),((24,0),some (.row 38 2 ((openRows cols_38 (List.map eTNode aa)).set 0 [.d (.int .i64 aB.Start),.own (36,0) aB.States.length]))),((36,0),some (.row 43 4 (openRows cols_43 (List.map eTState aB.States))))]
 obtain ⟨aG,aH,aI,aJ,aK,hD⟩ := aN 0 hD
 refine qs 44 [] [1,2,3,4,6,7,8] [(4,0),(12,0),(23,0),(24,0),(36,0)] h fun ac wd h => ?_
 have h := h.fS (cols := cols_43) (24,0) (36,0) (openRows cols_38 (List.map eTNode aa)) 0 [.d (.int .i64 aB.Start),.own (36,0) aB.States.length] 1 (List.map eTState (aB.States.set 0 (TState.mk 0 aG.Waits aG.Picks aG.Takes))) (sc_43 _)
 have h := h.sm 44 [(1,.one (.d (.sl (List.map eTNode aa)))),(2,.one (.ptr (4,0) 0)),(3,.one (.ptr (12,0) 0)),(4,.one (.d (.bool ah.2))),(6,.one (.d (.bool ak.2))),(7,.one (.own (23,0) aa.length)),(8,.one (.own (24,0) aa.length))]
  [((4,0),some (.box 25 [.d (.int .i64 ad.N),.d (.sl (List.map eA2I ad.Links))])),((12,0),some (.box 46 [.d (.int .i64 ah.1.Next),.d (.sl (List.map eTSend ah.1.Sends))])),((23,0),some (.row 38 2 (openRows cols_38 (List.map eTNode (aa.set 1 (TNode.mk ap.Start (ap.States.set 0 (TState.mk aw.Mode [1] aw.Picks aw.Takes)))))))),((24,0),some (.row 38 2 ((openRows cols_38 (List.map eTNode aa)).set 0 [.d (.int .i64 aB.Start),.tr (.sl 43 4 cols_43) (.sl (List.map eTState (aB.States.set 0 (TState.mk 0 aG.Waits aG.Picks aG.Takes))))])))]
 obtain ⟨aL,aM,hD⟩ := oB hD
 obtain ⟨aO,hD⟩ := iT hD
 obtain ⟨aP,aQ,hD⟩ := oB hD
 obtain ⟨aR,aS,hD⟩ := oB hD
 obtain ⟨aT,hD⟩ := iFb hD
 obtain ⟨aU,aV,hD⟩ := oB hD
 obtain ⟨aW,hD⟩ := iFb hD
 obtain ⟨aX,aY,hD⟩ := oB hD
 obtain ⟨aZ,hD⟩ := iFb hD
 obtain ⟨ba,bb,hD⟩ := oB hD
 obtain ⟨bc,hD⟩ := iFb hD
 obtain ⟨bd,be,hD⟩ := oB hD
 obtain ⟨bf,hD⟩ := iTe hD
 obtain ⟨bg,bh,hD⟩ := oB hD
 obtain ⟨bi,hD⟩ := iTe hD
 obtain ⟨bj,bk,hD⟩ := oB hD
 obtain ⟨bl,hD⟩ := iTe hD
 obtain ⟨bm,bn,hD⟩ := oB hD
 obtain ⟨bo,bp,hD⟩ := oB hD
 obtain ⟨bq,hD⟩ := iT hD
 obtain ⟨br,bs,hD⟩ := oB hD
 obtain ⟨bt,hD⟩ := iTe hD
 obtain ⟨bu,hD⟩ := iT hD
 obtain ⟨bv,hD⟩ := iTe hD
 obtain ⟨bw,hD⟩ := iTe hD
 obtain ⟨bx,hD⟩ := iFb hD
 obtain ⟨bz,bA,hD⟩ := oB hD
 obtain ⟨bB,hD⟩ := iTe hD
 obtain ⟨bC,bD,hD⟩ := oB hD
 obtain ⟨bE,hD⟩ := iTe hD
 obtain ⟨bF,bG,hD⟩ := oB hD
 obtain ⟨bH,hD⟩ := iTe hD
 have bI := L_table_Right_ok aM
 have bJ := L_graph_Full_ok aQ
 have bK := L_table_Right_ok aS
 have bL := L_table_Right_ok aV
 have bM := L_table_Right_ok aY
 have bN := L_table_Right_ok bb
 have bO := L_table_Mode_ok be
 have bP := L_table_Mode_ok bh
 have bQ := L_table_Mode_ok bk
 have bR := L_table_Waits_ok bn
 have bS := L_ref01_Ints_ok bp
 have bT := L_table_Waits_ok bs
 have bU := L_table_Taken_ok bA
 have bV := L_table_Taken_ok bD
 have bW := L_table_Taken_ok bG
 refine qsg 133 [factE 46 bI,factE 49 bJ,factE 50 bK,factE 55 bL,factE 61 bM,factE 67 bN,factE 72 bO,factE 77 bP,factE 82 bQ,factE 87 bR,factE 89 bS,factE 93 bT,factE 117 bU,factE 122 bV,factE 127 bW] [none,none,none,none,some (some 39,true),some (some 39,true),some (some 39,true),some (some 39,true),none,none,some (some 45,true),some (some 45,true),some (some 45,true),none,none,some (some 50,true),some (some 50,true),some (some 50,true),some (some 50,true),none,none,some (some 56,true),some (some 56,true),some (some 56,true),some (some 56,true),none,none,some (some 62,true),some (some 62,true),some (some 62,true),none,none,some (some 67,true),some (some 67,true),some (some 67,true),none,none,some (some 72,true),some (some 72,true),some (some 72,true),none,none,some (some 77,true),some (some 77,true),some (some 77,true),some (some 77,true),none,none,some (some 83,true),some (some 83,true),some (some 83,true),some (some 83,true),none,none,some (some 89,true),none,none,some (some 92,true),some (some 92,true),some (some 92,true),none,none,some (some 97,true),some (some 97,true),some (some 97,true),some (some 97,true),none,none,some (some 103,true),some (some 103,true),none,none,some (some 107,true),some (some 107,true),some (some 107,true),none,none,some (some 112,true),some (some 112,true),some (some 112,true),none,none,some (some 117,true),some (some 117,true),some (some 117,true),none,none,none,none] [0] [] h fun ac wd h => ?_
 refine wp_ret ?_
 injection hD with hD
 subst hD
 exact rE h [.tmp 0]

end Go.Proofs.Ytabbejabdkkaiaa
