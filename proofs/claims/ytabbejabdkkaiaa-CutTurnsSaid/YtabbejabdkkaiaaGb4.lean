/- Functions as typed ones,and that the program's functions answer as these do. No condition. -/
import Derived.Test.YtabbejabdkkaiaaGb3
import Derived.Test.YtabbejabdkkaiaaGd
set_option linter.unusedSimpArgs false
set_option linter.unusedVariables false
set_option maxRecDepth 20000
set_option maxHeartbeats 4000000
namespace Go.Proofs.Ytabbejabdkkaiaa
open Go.RowKit

theorem L_graph_Right_ok {a0 : TGraph} {r : Bool} (hD : L_graph_Right a0 = some r) :
  CallH Try.prog 55 [.agg (cTGraph a0)] []
   (.one (.d (.bool r))) [] := by
 unfold L_graph_Right at hD
 refine rc Try.func55 rfl Try.ntmps55 fun S Φ P0 wb ac h => ?_
 refine qs 3 [] [1] [(1,0)] h fun ac wd h => ?_
 refine wp_seq ?_
 obtain ⟨e448,hE449,hD⟩ := Option.bind_eq_some_iff.1 hD
 refine r_seqJ (fun ac wd => ∃ (b447 : Bool),b447 = e448 ∧ SL ⟨wb,S,Φ,P0⟩ 79 17 [(1,.one (.ptr (1,0) 0)),(21,.one (.d (.bool b447)))] [((1,0),some (.box 25 (cTGraph a0)))] ac wd) ?_ ?_
 ·
  rcases i2 hE449 with ⟨hb450,hE449⟩ | ⟨hb450,hE449⟩
  ·
   refine qeg [] [none,none,none,none,some (some 11,false),some (some 11,false),some (some 11,false),none,none,some (some 16,false),some (some 16,false),some (some 16,false),some (some 16,false),none] [1,21] [(1,0)] h fun ac wd h => ?_
   injection hE449 with hE449; subst hE449
   exact ⟨true,rfl,h.z⟩
  ·
   rcases i2 hE449 with ⟨hb451,hE449⟩ | ⟨hb451,hE449⟩
   ·
    refine qeg [] [none,none,none,none,some (some 11,false),some (some 11,false),some (some 11,false),none,none,some (some 16,false),some (some 16,false),some (some 16,false),some (some 16,false),none] [1,21] [(1,0)] h fun ac wd h => ?_
    injection hE449 with hE449; subst hE449
    exact ⟨true,rfl,h.z⟩
   ·
    refine qeg [] [none,none,none,none,some (some 11,false),some (some 11,false),some (some 11,false),none,none,some (some 16,false),some (some 16,false),some (some 16,false),some (some 16,false),none] [1,21] [(1,0)] h fun ac wd h => ?_
    injection hE449 with hE449; subst hE449
    exact ⟨decide ((a0.Links.length : Int) > 30),rfl,h.z⟩
 ·
  rintro ac wd ⟨b447,rfl,h⟩
  (try dsimp only at hD)
  rcases i2b hD with ⟨hb453,hD⟩ | ⟨hb453,hD⟩
  ·
   refine kT h ?_
   refine qs 18 [] [2] [] h fun ac wd h => ?_
   refine wp_ret ?_
   injection hD with hD
   subst hD
   exact rE h [.tmp 2]
  ·
   refine kF h ?_
   refine wp_skip ?_
   change Code.wp Try.prog _ _ _ _
   refine qs 19 [] [1,3] [(1,0),(17,0)] h fun ac wd h => ?_
   refine wp_seq ?_
   refine qs 23 [] [1,3,24,25,26] [(1,0),(17,0)] h fun ac wd h => ?_
   obtain ⟨e603,hE604,hD⟩ := Option.bind_eq_some_iff.1 hD
   refine r_meet (fun ac wd => ∃ (l602 : NMap),(.inl l602) = e603 ∧ SL ⟨wb,S,Φ,P0⟩ 79 102 [(1,.one (.ptr (1,0) 0)),(3,.one (.mp (17,0)))] [((1,0),some (.box 25 (cTGraph a0))),((17,0),some (.map 126 3 true 2 (mE l602)))] ac wd) ?_ ?_
   ·
    refine wp_block ?_
    refine r_while (fun nf ac wd => ∃ (n703 : Int) (l704 : NMap),L_graph_Right_l1 a0 nf n703 l704 = some e603 ∧ SL ⟨wb,S,Φ,P0⟩ 79 101 [(1,.one (.ptr (1,0) 0)),(3,.one (.mp (17,0))),(24,.one (.d (.sl (List.map eA2I a0.Links)))),(25,.one (.d (.int .i64 (a0.Links.length : Int)))),(26,.one (.d (.int .i64 n703)))] [((1,0),some (.box 25 (cTGraph a0))),((17,0),some (.map 126 3 true 2 (mE l704)))] ac wd) (((a0.Links.length : Int) - 0).toNat + 1) ⟨0,([] : NMap),hE604,h.z⟩ (fun nf ac wd hJ => ?_)
    obtain ⟨n703,l704,hL705,h⟩ := hJ
    cases nf with
    | zero => rw [L_graph_Right_l1] at hL705; cases hL705
    | succ nf =>
     rw [L_graph_Right_l1] at hL705
     refine qs 102 [] [1,3,24,25,26,27] [(1,0),(17,0)] h fun ac wd h => ?_
     refine wp_seq ?_
     rcases i2 hL705 with ⟨hb707,hL705⟩ | ⟨hb707,hL705⟩
     ·
      refine kT h ?_
      refine wp_skip ?_
      change Code.wp Try.prog _ _ _ _
      refine wp_seq ?_
      refine wp_block ?_
      obtain ⟨x733,hx734a,hx734b,hx734c,hx734d,hL705⟩ := aB hL705
      refine qs 106 [] [1,3,5,24,25,26] [(1,0),(17,0),(104,0)] h fun ac wd h => ?_
      refine wp_seq ?_
      obtain ⟨e743,hE744,hL705⟩ := Option.bind_eq_some_iff.1 hL705
      refine r_seqJ (fun ac wd => ∃ (b742 : Bool),b742 = e743 ∧ SL ⟨wb,S,Φ,P0⟩ 79 131 [(1,.one (.ptr (1,0) 0)),(3,.one (.mp (17,0))),(5,.one (.ptr (104,0) 0)),(24,.one (.d (.sl (List.map eA2I a0.Links)))),(25,.one (.d (.int .i64 (a0.Links.length : Int)))),(26,.one (.d (.int .i64 n703))),(54,.one (.d (.bool b742)))] [((1,0),some (.box 25 (cTGraph a0))),((17,0),some (.map 126 3 true 2 (mE l704))),((104,0),some (.box 126 (cA2I x733)))] ac wd) ?_ ?_
      ·
       obtain ⟨r745,hc746,hE744⟩ := oB hE744
       rcases i2b hE744 with ⟨hb747,hE744⟩ | ⟨hb747,hE744⟩
       ·
        obtain ⟨r748,hc749,hE744⟩ := oB hE744
        rcases i2b hE744 with ⟨hb750,hE744⟩ | ⟨hb750,hE744⟩
        ·
         rcases i2e hE744 with ⟨hb751,hE744⟩ | ⟨hb751,hE744⟩
         ·
          have hc746k := L_graph_Graph_node_ok hc746
          have hc749k := L_graph_Graph_node_ok hc749
          refine qeg [factE 109 hc746k,factE 115 hc749k] [none,none,none,none,none,none,some (some 35,false),some (some 35,false),some (some 35,false),some (some 35,false),some (some 35,false),none,none,some (some 42,false),some (some 42,false),some (some 42,false),some (some 42,false),some (some 42,false),none,none,some (some 49,false),some (some 49,false),some (some 49,false),some (some 49,false),none] [1,3,5,24,25,26,54] [(1,0),(17,0),(104,0)] h fun ac wd h => ?_
          injection hE744 with hE744; subst hE744
          exact ⟨true,rfl,h.z⟩
         ·
          have hc746k := L_graph_Graph_node_ok hc746
          have hc749k := L_graph_Graph_node_ok hc749
          refine qeg [factE 109 hc746k,factE 115 hc749k] [none,none,none,none,none,none,some (some 35,false),some (some 35,false),some (some 35,false),some (some 35,false),some (some 35,false),none,none,some (some 42,false),some (some 42,false),some (some 42,false),some (some 42,false),some (some 42,false),none,none,some (some 49,false),some (some 49,false),some (some 49,false),some (some 49,false),none] [1,3,5,24,25,26,54] [(1,0),(17,0),(104,0)] h fun ac wd h => ?_
          injection hE744 with hE744; subst hE744
          exact ⟨decide ((mGetI l704 [x733.a0,x733.a1]) > 0),rfl,h.z⟩
        ·
         have hc746k := L_graph_Graph_node_ok hc746
         have hc749k := L_graph_Graph_node_ok hc749
         refine qeg [factE 109 hc746k,factE 115 hc749k] [none,none,none,none,none,none,some (some 35,false),some (some 35,false),some (some 35,false),some (some 35,false),some (some 35,false),none,none,some (some 42,false),some (some 42,false),some (some 42,false),some (some 42,false),some (some 42,false),none,none,some (some 49,false),some (some 49,false),some (some 49,false),some (some 49,false),none] [1,3,5,24,25,26,54] [(1,0),(17,0),(104,0)] h fun ac wd h => ?_
         injection hE744 with hE744; subst hE744
         exact ⟨true,rfl,h.z⟩
       ·
        have hc746k := L_graph_Graph_node_ok hc746
        refine qeg [factE 109 hc746k] [none,none,none,none,none,none,some (some 35,false),some (some 35,false),some (some 35,false),some (some 35,false),some (some 35,false),none,none,some (some 42,false),some (some 42,false),some (some 42,false),some (some 42,false),some (some 42,false),none,none,some (some 49,false),some (some 49,false),some (some 49,false),some (some 49,false),none] [1,3,5,24,25,26,54] [(1,0),(17,0),(104,0)] h fun ac wd h => ?_
        injection hE744 with hE744; subst hE744
        exact ⟨true,rfl,h.z⟩
      ·
       rintro ac wd ⟨b742,rfl,h⟩
       (try dsimp only at hL705)
       rcases i2b hL705 with ⟨hb753,hL705⟩ | ⟨hb753,hL705⟩
       ·
        refine kT h ?_
        refine qs 132 [] [2] [] h fun ac wd h => ?_
        refine wp_ret ?_
        injection hL705 with hL705
        subst hL705
        (try dsimp only at hD)
        injection hD with hD
        subst hD
        exact rE h [.tmp 2]
       ·
        refine kF h ?_
        refine wp_skip ?_
        change Code.wp Try.prog _ _ _ _
        refine de [] [1,3,24,25,26] [(1,0),(17,0)] h fun ac wd h => ?_
        change Code.wp Try.prog _ _ _ _
        refine qe [] [1,3,24,25,26] [(1,0),(17,0)] h fun ac wd h => ?_
        exact ⟨nf,Nat.lt_succ_self nf,(IntKind.wrap .i64 (n703 + 1)),(mPutI l704 [x733.a0,x733.a1] (IntKind.wrap .i64 ((mGetI l704 [x733.a0,x733.a1]) + 1))),hL705,h.z⟩
     ·
      refine kF h ?_
      refine wp_exit ?_
      injection hL705 with hL705; subst hL705
      exact ⟨l704,rfl,h.z⟩
   ·
    rintro ac wd ⟨l602,rfl,h⟩
    (try dsimp only at hD)
    refine wp_seq ?_
    refine qs 106 [] [1,3,63,64,65] [(1,0),(17,0)] h fun ac wd h => ?_
    obtain ⟨e816,hE817,hD⟩ := Option.bind_eq_some_iff.1 hD
    refine r_meet (fun ac wd => (.inl ()) = e816 ∧ SL ⟨wb,S,Φ,P0⟩ 79 131 [(1,.one (.ptr (1,0) 0))] [((1,0),some (.box 25 (cTGraph a0)))] ac wd) ?_ ?_
    ·
     refine wp_block ?_
     refine r_while (fun nf ac wd => ∃ (n859 : Int),L_graph_Right_l2 a0 l602 nf n859 = some e816 ∧ SL ⟨wb,S,Φ,P0⟩ 79 130 [(1,.one (.ptr (1,0) 0)),(3,.one (.mp (17,0))),(63,.one (.d (.sl (List.map eA2I a0.Links)))),(64,.one (.d (.int .i64 (a0.Links.length : Int)))),(65,.one (.d (.int .i64 n859)))] [((1,0),some (.box 25 (cTGraph a0))),((17,0),some (.map 126 3 true 2 (mE l602)))] ac wd) (((a0.Links.length : Int) - 0).toNat + 1) ⟨0,hE817,h.z⟩ (fun nf ac wd hJ => ?_)
     obtain ⟨n859,hL860,h⟩ := hJ
     cases nf with
     | zero => rw [L_graph_Right_l2] at hL860; cases hL860
     | succ nf =>
      rw [L_graph_Right_l2] at hL860
      refine qs 131 [] [1,3,63,64,65,66] [(1,0),(17,0)] h fun ac wd h => ?_
      refine wp_seq ?_
      rcases i2 hL860 with ⟨hb862,hL860⟩ | ⟨hb862,hL860⟩
      ·
       refine kT h ?_
       refine wp_skip ?_
       change Code.wp Try.prog _ _ _ _
       refine wp_seq ?_
       refine wp_block ?_
       obtain ⟨x874,hx875a,hx875b,hx875c,hx875d,hL860⟩ := aB hL860
       refine qs 135 [] [1,3,7,63,64,65] [(1,0),(17,0),(133,0)] h fun ac wd h => ?_
       obtain ⟨r878,hc879,hL860⟩ := oB hL860
       have hc879k := L_graph_turned_ok hc879
       refine qs 140 [factE 137 hc879k] [1,3,63,64,65,73] [(1,0),(17,0)] h fun ac wd h => ?_
       rcases i2e hL860 with ⟨hb880,hL860⟩ | ⟨hb880,hL860⟩
       ·
        refine kT h ?_
        refine qs 141 [] [2] [] h fun ac wd h => ?_
        refine wp_ret ?_
        injection hL860 with hL860
        subst hL860
        (try dsimp only at hD)
        injection hD with hD
        subst hD
        exact rE h [.tmp 2]
       ·
        refine kF h ?_
        refine wp_skip ?_
        change Code.wp Try.prog _ _ _ _
        refine qe [] [1,3,63,64,65] [(1,0),(17,0)] h fun ac wd h => ?_
        exact ⟨nf,Nat.lt_succ_self nf,(IntKind.wrap .i64 (n859 + 1)),hL860,h.z⟩
      ·
       refine kF h ?_
       refine wp_exit ?_
       injection hL860 with hL860; subst hL860
       exact ⟨rfl,h.z⟩
    ·
     rintro ac wd ⟨rfl,h⟩
     (try dsimp only at hD)
     obtain ⟨r885,hc886,hD⟩ := oB hD
     obtain ⟨r887,hc888,hD⟩ := oB hD
     have hc886k := L_graph_Dist_ok hc886
     have hc888k := L_slices_Contains_int_int_ok hc888
     refine qs 136 [factE 132 hc886k,factE 133 hc888k] [2] [] h fun ac wd h => ?_
     refine wp_ret ?_
     injection hD with hD
     subst hD
     exact rE h [.tmp 2]

theorem L_table_place_may_1_own {a0 : TPlace} {r : Bool × TPlace} (hD : L_table_place_may_1 a0 = some r) :
  CallH Try.prog 100 [.one (.ptr (0,0) 0)] [((0,0),some (.box 139 (cTPlace a0)))]
   (.one (.d (.bool r.1))) [((0,0),some (.box 139 (cTPlace r.2)))] := by
 unfold L_table_place_may_1 at hD
 refine rc Try.func100 rfl Try.ntmps100 fun S Φ P0 wb ac h => ?_
 refine qs 2 [] [0] [(0,0)] h fun ac wd h => ?_
 obtain ⟨e8,hE9,hD⟩ := Option.bind_eq_some_iff.1 hD
 refine r_seqJ (fun ac wd => ∃ (b7 : Bool),b7 = e8 ∧ SL ⟨wb,S,Φ,P0⟩ 12 13 [(1,.one (.d (.bool b7)))] [((0,0),some (.box 139 (cTPlace a0)))] ac wd) ?_ ?_
 ·
  rcases i2 hE9 with ⟨hb10,hE9⟩ | ⟨hb10,hE9⟩
  ·
   refine qeg [] [none,none,none,none,none,some (some 6,true),some (some 6,true),some (some 6,true),some (some 6,true),none,none] [1] [(0,0)] h fun ac wd h => ?_
   injection hE9 with hE9; subst hE9
   exact ⟨decide (a0.State.Mode < 3),rfl,h.z⟩
  ·
   refine qeg [] [none,none,none,none,none,some (some 6,true),some (some 6,true),some (some 6,true),some (some 6,true),none,none] [1] [(0,0)] h fun ac wd h => ?_
   injection hE9 with hE9; subst hE9
   exact ⟨false,rfl,h.z⟩
 ·
  rintro ac wd ⟨b7,rfl,h⟩
  (try dsimp only at hD)
  refine wp_ret ?_
  injection hD with hD
  subst hD
  exact rO h [.tmp 1] [(0,0)]

theorem L_graph_Find_ok {a0 : TGraph} {a1 : Int} {a2 : Int} {r : Int} (hD : L_graph_Find a0 a1 a2 = some r) :
  CallH Try.prog 114 [.agg (cTGraph a0),.one (.d (.int .i64 a1)),.one (.d (.int .i64 a2))] []
   (.one (.d (.int .i64 r))) [] := by
 unfold L_graph_Find at hD
 refine rc Try.func114 rfl Try.ntmps114 fun S Φ P0 wb ac h => ?_
 refine qs 3 [] [1,2,3] [(1,0)] h fun ac wd h => ?_
 refine qs 8 [] [3,7] [(1,0),(6,0)] h fun ac wd h => ?_
 refine wp_seq ?_
 refine qs 12 [] [7,14,15,16] [(6,0)] h fun ac wd h => ?_
 refine wp_block ?_
 refine r_while (fun nf ac wd => ∃ (n187 : Int),L_graph_Find_l1 a0 a1 a2 nf n187 = some r ∧ SL ⟨wb,S,Φ,P0⟩ 26 36 [(7,.one (.ptr (6,0) 0)),(14,.one (.d (.sl (List.map eA2I a0.Links)))),(15,.one (.d (.int .i64 (a0.Links.length : Int)))),(16,.one (.d (.int .i64 n187)))] [((6,0),some (.box 126 [.d (.int .i64 a1),.d (.int .i64 a2)]))] ac wd) (((a0.Links.length : Int) - 0).toNat + 1) ⟨0,hD,h.z⟩ (fun nf ac wd hJ => ?_)
 obtain ⟨n187,hL188,h⟩ := hJ
 cases nf with
 | zero => rw [L_graph_Find_l1] at hL188; cases hL188
 | succ nf =>
  rw [L_graph_Find_l1] at hL188
  refine qs 37 [] [7,14,15,16,17] [(6,0)] h fun ac wd h => ?_
  refine wp_seq ?_
  rcases i2 hL188 with ⟨hb190,hL188⟩ | ⟨hb190,hL188⟩
  ·
   refine kT h ?_
   refine wp_skip ?_
   change Code.wp Try.prog _ _ _ _
   refine wp_seq ?_
   refine wp_block ?_
   obtain ⟨x200,hx201a,hx201b,hx201c,hx201d,hL188⟩ := aB hL188
   refine qs 43 [] [7,8,9,14,15,16] [(6,0),(40,0)] h fun ac wd h => ?_
   have hz203 := eq_A2I_vm x200 a1 a2
   refine qs 46 [] [7,8,14,15,16,23] [(6,0)] h fun ac wd h => ?_
   rcases i2e hL188 with ⟨hb204,hL188⟩ | ⟨hb204,hL188⟩
   ·
    refine kT h ?_
    refine qs 48 [] [6] [] h fun ac wd h => ?_
    refine wp_ret ?_
    injection hL188 with hL188
    subst hL188
    exact rE h [.tmp 6]
   ·
    refine kF h ?_
    refine wp_skip ?_
    change Code.wp Try.prog _ _ _ _
    refine qe [] [7,14,15,16] [(6,0)] h fun ac wd h => ?_
    exact ⟨nf,Nat.lt_succ_self nf,(IntKind.wrap .i64 (n187 + 1)),hL188,h.z⟩
  ·
   refine kF h ?_
   refine wp_exit ?_
   change Code.wp Try.prog _ _ _ _
   refine qs 38 [] [6] [] h fun ac wd h => ?_
   refine wp_ret ?_
   injection hL188 with hL188
   subst hL188
   exact rE h [.tmp 6]

theorem L_table_place_in_ok {a0 : TPlace} {a1 : Int} {r : Bool} (hD : L_table_place_in a0 a1 = some r) :
  CallH Try.prog 124 [.agg (cTPlace a0),.one (.d (.int .i64 a1))] []
   (.one (.d (.bool r))) [] := by
 unfold L_table_place_in at hD
 refine rc Try.func124 rfl Try.ntmps124 fun S Φ P0 wb ac h => ?_
 refine qs 3 [] [1,2] [(1,0)] h fun ac wd h => ?_
 obtain ⟨r7,hc8,hD⟩ := oB hD
 have hc8k := L_graph_Find_ok hc8
 refine qs 11 [factE 8 hc8k] [4] [] h fun ac wd h => ?_
 refine wp_ret ?_
 injection hD with hD
 subst hD
 exact rE h [.tmp 4]

theorem L_table_place_waits_ok {a0 : TPlace} {r : Bool} (hD : L_table_place_waits a0 = some r) :
  CallH Try.prog 101 [.agg (cTPlace a0)] []
   (.one (.d (.bool r))) [] := by
 unfold L_table_place_waits at hD
 refine rc Try.func101 rfl Try.ntmps101 fun S Φ P0 wb ac h => ?_
 refine qs 3 [] [1] [(1,0)] h fun ac wd h => ?_
 refine wp_seq ?_
 refine qs 7 [] [1,8] [(1,0)] h fun ac wd h => ?_
 rcases i2e hD with ⟨hb239,hD⟩ | ⟨hb239,hD⟩
 ·
  refine kF h ?_
  refine wp_skip ?_
  change Code.wp Try.prog _ _ _ _
  refine wp_seq ?_
  refine qs 12 [] [1,16,17,18] [(1,0)] h fun ac wd h => ?_
  refine wp_block ?_
  refine r_while (fun nf ac wd => ∃ (n429 : Int),L_table_place_waits_l1 a0 nf n429 = some r ∧ SL ⟨wb,S,Φ,P0⟩ 48 66 [(1,.one (.ptr (1,0) 0)),(16,.one (.d (.sl (List.map eI a0.State.Waits)))),(17,.one (.d (.int .i64 (a0.State.Waits.length : Int)))),(18,.one (.d (.int .i64 n429)))] [((1,0),some (.box 139 (cTPlace a0)))] ac wd) (((a0.State.Waits.length : Int) - 0).toNat + 1) ⟨0,hD,h.z⟩ (fun nf ac wd hJ => ?_)
  obtain ⟨n429,hL430,h⟩ := hJ
  cases nf with
  | zero => rw [L_table_place_waits_l1] at hL430; cases hL430
  | succ nf =>
   rw [L_table_place_waits_l1] at hL430
   refine qs 67 [] [1,16,17,18,19] [(1,0)] h fun ac wd h => ?_
   refine wp_seq ?_
   rcases i2 hL430 with ⟨hb432,hL430⟩ | ⟨hb432,hL430⟩
   ·
    refine kT h ?_
    refine wp_skip ?_
    change Code.wp Try.prog _ _ _ _
    refine wp_seq ?_
    refine wp_block ?_
    obtain ⟨x455,hx456a,hx456b,hx456c,hx456d,hL430⟩ := aB hL430
    refine qs 72 [] [1,3,4,16,17,18] [(1,0)] h fun ac wd h => ?_
    obtain ⟨e464,hE465,hL430⟩ := Option.bind_eq_some_iff.1 hL430
    refine r_seqJ (fun ac wd => ∃ (b463 : Bool),b463 = e464 ∧ SL ⟨wb,S,Φ,P0⟩ 48 91 [(1,.one (.ptr (1,0) 0)),(16,.one (.d (.sl (List.map eI a0.State.Waits)))),(17,.one (.d (.int .i64 (a0.State.Waits.length : Int)))),(18,.one (.d (.int .i64 n429))),(41,.one (.d (.bool b463)))] [((1,0),some (.box 139 (cTPlace a0)))] ac wd) ?_ ?_
    ·
     obtain ⟨r466,hc467,hE465⟩ := oB hE465
     rcases i2b hE465 with ⟨hb468,hE465⟩ | ⟨hb468,hE465⟩
     ·
      rcases i2 hE465 with ⟨hb469,hE465⟩ | ⟨hb469,hE465⟩
      ·
       obtain ⟨x470,hx471a,hx471b,hx471c,hx471d,hE465⟩ := aB hE465
       have hc467k := L_table_place_in_ok hc467
       refine qeg [factE 74 hc467k] [none,none,none,none,none,some (some 27,false),some (some 27,false),some (some 27,false),some (some 30,true),some (some 30,true),some (some 30,true),some (some 30,true),some (some 30,true),some (some 30,true),some (some 30,true),some (some 30,true),some (some 30,true),some (some 27,false),none] [1,16,17,18,41] [(1,0)] h fun ac wd h => ?_
       injection hE465 with hE465; subst hE465
       exact ⟨decide (x470 ≥ x455),rfl,h.z⟩
      ·
       have hc467k := L_table_place_in_ok hc467
       refine qeg [factE 74 hc467k] [none,none,none,none,none,some (some 27,false),some (some 27,false),some (some 27,false),some (some 30,true),some (some 30,true),some (some 30,true),some (some 30,true),some (some 30,true),some (some 30,true),some (some 30,true),some (some 30,true),some (some 30,true),some (some 27,false),none] [1,16,17,18,41] [(1,0)] h fun ac wd h => ?_
       injection hE465 with hE465; subst hE465
       exact ⟨false,rfl,h.z⟩
     ·
      have hc467k := L_table_place_in_ok hc467
      refine qeg [factE 74 hc467k] [none,none,none,none,none,some (some 27,false),some (some 27,false),some (some 27,false),some (some 30,true),some (some 30,true),some (some 30,true),some (some 30,true),some (some 30,true),some (some 30,true),some (some 30,true),some (some 30,true),some (some 30,true),some (some 27,false),none] [1,16,17,18,41] [(1,0)] h fun ac wd h => ?_
      injection hE465 with hE465; subst hE465
      exact ⟨true,rfl,h.z⟩
    ·
     rintro ac wd ⟨b463,rfl,h⟩
     (try dsimp only at hL430)
     rcases i2b hL430 with ⟨hb472,hL430⟩ | ⟨hb472,hL430⟩
     ·
      refine kT h ?_
      refine qs 92 [] [2] [] h fun ac wd h => ?_
      refine wp_ret ?_
      injection hL430 with hL430
      subst hL430
      exact rE h [.tmp 2]
     ·
      refine kF h ?_
      refine wp_skip ?_
      change Code.wp Try.prog _ _ _ _
      refine qe [] [1,16,17,18] [(1,0)] h fun ac wd h => ?_
      exact ⟨nf,Nat.lt_succ_self nf,(IntKind.wrap .i64 (n429 + 1)),hL430,h.z⟩
   ·
    refine kF h ?_
    refine wp_exit ?_
    change Code.wp Try.prog _ _ _ _
    refine qs 73 [] [2] [] h fun ac wd h => ?_
    refine wp_ret ?_
    injection hL430 with hL430
    subst hL430
    exact rE h [.tmp 2]
 ·
  refine kT h ?_
  refine qs 13 [] [2] [] h fun ac wd h => ?_
  refine wp_ret ?_
  injection hD with hD
  subst hD
  exact rE h [.tmp 2]

theorem L_table_place_state_ok {a0 : TPlace} {a1 : Int} {r : Bool} (hD : L_table_place_state a0 a1 = some r) :
  CallH Try.prog 127 [.agg (cTPlace a0),.one (.d (.int .i64 a1))] []
   (.one (.d (.bool r))) [] := by
 unfold L_table_place_state at hD
 refine rc Try.func127 rfl Try.ntmps127 fun S Φ P0 wb ac h => ?_
 refine qs 3 [] [1,2] [(1,0)] h fun ac wd h => ?_
 obtain ⟨e8,hE9,hD⟩ := Option.bind_eq_some_iff.1 hD
 refine r_seqJ (fun ac wd => ∃ (b7 : Bool),b7 = e8 ∧ SL ⟨wb,S,Φ,P0⟩ 15 14 [(4,.one (.d (.bool b7)))] [] ac wd) ?_ ?_
 ·
  rcases i2 hE9 with ⟨hb10,hE9⟩ | ⟨hb10,hE9⟩
  ·
   refine qeg [] [none,none,none,some (some 7,true),some (some 7,true),some (some 7,true),some (some 7,true),some (some 7,true),some (some 7,true),none,none] [4] [] h fun ac wd h => ?_
   injection hE9 with hE9; subst hE9
   exact ⟨decide (a1 < (a0.node.States.length : Int)),rfl,h.z⟩
  ·
   refine qeg [] [none,none,none,some (some 7,true),some (some 7,true),some (some 7,true),some (some 7,true),some (some 7,true),some (some 7,true),none,none] [4] [] h fun ac wd h => ?_
   injection hE9 with hE9; subst hE9
   exact ⟨false,rfl,h.z⟩
 ·
  rintro ac wd ⟨b7,rfl,h⟩
  (try dsimp only at hD)
  refine wp_ret ?_
  injection hD with hD
  subst hD
  exact rE h [.tmp 4]

theorem L_table_letter_ok {a0 : Int} {r : Bool} (hD : L_table_letter a0 = some r) :
  CallH Try.prog 126 [.one (.d (.int .i64 a0))] []
   (.one (.d (.bool r))) [] := by
 unfold L_table_letter at hD
 refine rc Try.func126 rfl Try.ntmps126 fun S Φ P0 wb ac h => ?_
 refine qs 2 [] [0] [] h fun ac wd h => ?_
 obtain ⟨e8,hE9,hD⟩ := Option.bind_eq_some_iff.1 hD
 refine r_seqJ (fun ac wd => ∃ (b7 : Bool),b7 = e8 ∧ SL ⟨wb,S,Φ,P0⟩ 9 9 [(2,.one (.d (.bool b7)))] [] ac wd) ?_ ?_
 ·
  rcases i2 hE9 with ⟨hb10,hE9⟩ | ⟨hb10,hE9⟩
  ·
   refine qeg [] [none,none,none,some (some 5,true),some (some 5,true),none,none] [2] [] h fun ac wd h => ?_
   injection hE9 with hE9; subst hE9
   exact ⟨decide (a0 < 4),rfl,h.z⟩
  ·
   refine qeg [] [none,none,none,some (some 5,true),some (some 5,true),none,none] [2] [] h fun ac wd h => ?_
   injection hE9 with hE9; subst hE9
   exact ⟨false,rfl,h.z⟩
 ·
  rintro ac wd ⟨b7,rfl,h⟩
  (try dsimp only at hD)
  refine wp_ret ?_
  injection hD with hD
  subst hD
  exact rE h [.tmp 2]

theorem L_table_place_picks_1_own {a0 : TSend} {a1 : TPlace} {r : Bool × TPlace} (hD : L_table_place_picks_1 a0 a1 = some r) :
  CallH Try.prog 125 [.agg (cTSend a0),.one (.ptr (0,0) 0)] [((0,0),some (.box 139 (cTPlace a1)))]
   (.one (.d (.bool r.1))) [((0,0),some (.box 139 (cTPlace r.2)))] := by
 unfold L_table_place_picks_1 at hD
 refine rc Try.func125 rfl Try.ntmps125 fun S Φ P0 wb ac h => ?_
 refine qs 3 [] [1,2] [(0,0),(1,0)] h fun ac wd h => ?_
 obtain ⟨e20,hE21,hD⟩ := Option.bind_eq_some_iff.1 hD
 refine r_seqJ (fun ac wd => ∃ (b19 : Bool),b19 = e20 ∧ SL ⟨wb,S,Φ,P0⟩ 18 18 [(3,.one (.d (.bool b19)))] [((0,0),some (.box 139 (cTPlace a1)))] ac wd) ?_ ?_
 ·
  obtain ⟨r22,hc23,hE21⟩ := oB hE21
  rcases i2 hE21 with ⟨hb24,hE21⟩ | ⟨hb24,hE21⟩
  ·
   have hc23k := L_graph_Find_ok hc23
   refine qeg [factE 9 hc23k] [none,none,none,none,none,none,none,none,none,some (some 12,false),some (some 12,false),some (some 12,false),some (some 12,false),none,none] [3] [(0,0)] h fun ac wd h => ?_
   injection hE21 with hE21; subst hE21
   exact ⟨true,rfl,h.z⟩
  ·
   obtain ⟨r25,hc26,hE21⟩ := oB hE21
   have hc23k := L_graph_Find_ok hc23
   have hc26k := L_table_letter_ok hc26
   refine qeg [factE 9 hc23k,factE 14 hc26k] [none,none,none,none,none,none,none,none,none,some (some 12,false),some (some 12,false),some (some 12,false),some (some 12,false),none,none] [3] [(0,0)] h fun ac wd h => ?_
   injection hE21 with hE21; subst hE21
   exact ⟨!(r25),rfl,h.z⟩
 ·
  rintro ac wd ⟨b19,rfl,h⟩
  (try dsimp only at hD)
  refine wp_ret ?_
  injection hD with hD
  subst hD
  exact rO h [.tmp 3] [(0,0)]

theorem L_slices_IndexFunc_table_Send_table_Send_own {a0 : (List TSend)} {a1 : TPlace} {r : Int × TPlace} (hD : L_slices_IndexFunc_table_Send_table_Send a0 a1 = some r) :
  CallH Try.prog 145 [.one (.d (.sl (List.map eTSend a0))),.one (.fnp 125 [((0,0),0)])] [((0,0),some (.box 139 (cTPlace a1)))]
   (.one (.d (.int .i64 r.1))) [((0,0),some (.box 139 (cTPlace r.2)))] := by
 unfold L_slices_IndexFunc_table_Send_table_Send at hD
 refine rc Try.func145 rfl Try.ntmps145 fun S Φ P0 wb ac h => ?_
 refine qs 2 [] [0,1] [(0,0)] h fun ac wd h => ?_
 refine wp_seq ?_
 refine qs 5 [] [0,1,7,8] [(0,0)] h fun ac wd h => ?_
 refine wp_block ?_
 refine r_while (fun nf ac wd => ∃ (n239 : Int) (m240 : TPlace),L_slices_IndexFunc_table_Send_table_Send_l1 a0 nf n239 m240 = some r ∧ SL ⟨wb,S,Φ,P0⟩ 19 27 [(0,.one (.d (.sl (List.map eTSend a0)))),(1,.one (.fnp 125 [((0,0),0)])),(7,.one (.d (.int .i64 (a0.length : Int)))),(8,.one (.d (.int .i64 n239)))] [((0,0),some (.box 139 (cTPlace m240)))] ac wd) (((a0.length : Int) - 0).toNat + 1) ⟨0,a1,hD,h.z⟩ (fun nf ac wd hJ => ?_)
 obtain ⟨n239,m240,hL241,h⟩ := hJ
 cases nf with
 | zero => rw [L_slices_IndexFunc_table_Send_table_Send_l1] at hL241; cases hL241
 | succ nf =>
  rw [L_slices_IndexFunc_table_Send_table_Send_l1] at hL241
  refine qs 28 [] [0,1,7,8,9] [(0,0)] h fun ac wd h => ?_
  refine wp_seq ?_
  rcases i2 hL241 with ⟨hb243,hL241⟩ | ⟨hb243,hL241⟩
  ·
   refine kT h ?_
   refine wp_skip ?_
   change Code.wp Try.prog _ _ _ _
   refine wp_seq ?_
   refine wp_block ?_
   refine qs 30 [] [0,1,5,7,8] [(0,0)] h fun ac wd h => ?_
   obtain ⟨x257,hx258a,hx258b,hx258c,hx258d,hL241⟩ := aB hL241
   obtain ⟨r259,hc260,hL241⟩ := oB hL241
   have hc260_35 := ((L_table_place_picks_1_own hc260).cls 35).z
   refine qs 36 [factR hc260_35] [0,1,5,7,8,16] [(0,0)] h fun ac wd h => ?_
   rcases i2b hL241 with ⟨hb261,hL241⟩ | ⟨hb261,hL241⟩
   ·
    refine kT h ?_
    refine qs 38 [] [4] [(0,0)] h fun ac wd h => ?_
    refine wp_ret ?_
    injection hL241 with hL241
    subst hL241
    exact rO h [.tmp 4] [(0,0)]
   ·
    refine kF h ?_
    refine wp_skip ?_
    change Code.wp Try.prog _ _ _ _
    refine qe [] [0,1,7,8] [(0,0)] h fun ac wd h => ?_
    exact ⟨nf,Nat.lt_succ_self nf,(IntKind.wrap .i64 (n239 + 1)),r259.2,hL241,h.z⟩
  ·
   refine kF h ?_
   refine wp_exit ?_
   change Code.wp Try.prog _ _ _ _
   refine qs 29 [] [4] [(0,0)] h fun ac wd h => ?_
   refine wp_ret ?_
   injection hL241 with hL241
   subst hL241
   exact rO h [.tmp 4] [(0,0)]

theorem L_slices_ContainsFunc_table_Send_table_Send_own {a0 : (List TSend)} {a1 : TPlace} {r : Bool × TPlace} (hD : L_slices_ContainsFunc_table_Send_table_Send a0 a1 = some r) :
  CallH Try.prog 128 [.one (.d (.sl (List.map eTSend a0))),.one (.fnp 125 [((0,0),0)])] [((0,0),some (.box 139 (cTPlace a1)))]
   (.one (.d (.bool r.1))) [((0,0),some (.box 139 (cTPlace r.2)))] := by
 unfold L_slices_ContainsFunc_table_Send_table_Send at hD
 refine rc Try.func128 rfl Try.ntmps128 fun S Φ P0 wb ac h => ?_
 refine qs 2 [] [0,1] [(0,0)] h fun ac wd h => ?_
 obtain ⟨r7,hc8,hD⟩ := oB hD
 have hc8_4 := ((L_slices_IndexFunc_table_Send_table_Send_own hc8).cls 4).z
 refine qs 7 [factR hc8_4] [4] [(0,0)] h fun ac wd h => ?_
 refine wp_ret ?_
 injection hD with hD
 subst hD
 exact rO h [.tmp 4] [(0,0)]

theorem L_table_place_picks_ok {a0 : TPlace} {r : Bool} (hD : L_table_place_picks a0 = some r) :
  CallH Try.prog 102 [.agg (cTPlace a0)] []
   (.one (.d (.bool r))) [] := by
 unfold L_table_place_picks at hD
 refine rc Try.func102 rfl Try.ntmps102 fun S Φ P0 wb ac h => ?_
 refine qs 3 [] [1] [(1,0)] h fun ac wd h => ?_
 refine wp_seq ?_
 obtain ⟨e288,hE289,hD⟩ := Option.bind_eq_some_iff.1 hD
 refine r_seqJ (fun ac wd => ∃ (b287 : Bool),b287 = e288 ∧ SL ⟨wb,S,Φ,P0⟩ 51 21 [(1,.one (.ptr (1,0) 0)),(23,.one (.d (.bool b287)))] [((1,0),some (.box 139 (cTPlace a0)))] ac wd) ?_ ?_
 ·
  rcases i2 hE289 with ⟨hb290,hE289⟩ | ⟨hb290,hE289⟩
  ·
   refine qeg [] [none,none,none,none,none,none,some (some 11,false),some (some 11,false),some (some 11,false),some (some 11,false),some (some 11,false),some (some 16,true),some (some 16,true),some (some 16,true),some (some 16,true),some (some 16,true),some (some 11,false),none] [1,23] [(1,0)] h fun ac wd h => ?_
   injection hE289 with hE289; subst hE289
   exact ⟨true,rfl,h.z⟩
  ·
   rcases i2e hE289 with ⟨hb291,hE289⟩ | ⟨hb291,hE289⟩
   ·
    refine qeg [] [none,none,none,none,none,none,some (some 11,false),some (some 11,false),some (some 11,false),some (some 11,false),some (some 11,false),some (some 16,true),some (some 16,true),some (some 16,true),some (some 16,true),some (some 16,true),some (some 11,false),none] [1,23] [(1,0)] h fun ac wd h => ?_
    injection hE289 with hE289; subst hE289
    exact ⟨false,rfl,h.z⟩
   ·
    refine qeg [] [none,none,none,none,none,none,some (some 11,false),some (some 11,false),some (some 11,false),some (some 11,false),some (some 11,false),some (some 16,true),some (some 16,true),some (some 16,true),some (some 16,true),some (some 16,true),some (some 11,false),none] [1,23] [(1,0)] h fun ac wd h => ?_
    injection hE289 with hE289; subst hE289
    exact ⟨decide ((a0.State.Picks.length : Int) > 0),rfl,h.z⟩
 ·
  rintro ac wd ⟨b287,rfl,h⟩
  (try dsimp only at hD)
  rcases i2b hD with ⟨hb293,hD⟩ | ⟨hb293,hD⟩
  ·
   refine kT h ?_
   refine qs 22 [] [2] [] h fun ac wd h => ?_
   refine wp_ret ?_
   injection hD with hD
   subst hD
   exact rE h [.tmp 2]
  ·
   refine kF h ?_
   refine wp_skip ?_
   change Code.wp Try.prog _ _ _ _
   refine wp_seq ?_
   refine qs 26 [] [1,26,27,28] [(1,0)] h fun ac wd h => ?_
   refine wp_block ?_
   refine r_while (fun nf ac wd => ∃ (n520 : Int) (m521 : TPlace),L_table_place_picks_l1 a0 nf n520 m521 = some r ∧ SL ⟨wb,S,Φ,P0⟩ 51 78 [(1,.one (.ptr (1,0) 0)),(26,.one (.d (.sl (List.map eTPick a0.State.Picks)))),(27,.one (.d (.int .i64 (a0.State.Picks.length : Int)))),(28,.one (.d (.int .i64 n520)))] [((1,0),some (.box 139 (cTPlace m521)))] ac wd) (((a0.State.Picks.length : Int) - 0).toNat + 1) ⟨0,a0,hD,h.z⟩ (fun nf ac wd hJ => ?_)
   obtain ⟨n520,m521,hL522,h⟩ := hJ
   cases nf with
   | zero => rw [L_table_place_picks_l1] at hL522; cases hL522
   | succ nf =>
    rw [L_table_place_picks_l1] at hL522
    refine qs 79 [] [1,26,27,28,29] [(1,0)] h fun ac wd h => ?_
    refine wp_seq ?_
    rcases i2 hL522 with ⟨hb524,hL522⟩ | ⟨hb524,hL522⟩
    ·
     refine kT h ?_
     refine wp_skip ?_
     change Code.wp Try.prog _ _ _ _
     refine wp_seq ?_
     refine wp_block ?_
     obtain ⟨x548,hx549a,hx549b,hx549c,hx549d,hL522⟩ := aB hL522
     refine qs 83 [] [1,4,26,27,28] [(1,0),(81,0)] h fun ac wd h => ?_
     refine qs 85 [] [1,4,5,26,27,28] [(1,0),(81,0)] h fun ac wd h => ?_
     obtain ⟨e558,hE559,hL522⟩ := Option.bind_eq_some_iff.1 hL522
     refine r_seqJ (fun ac wd => ∃ (b556 : Bool) (m557 : TPlace),(b556,m557) = e558 ∧ SL ⟨wb,S,Φ,P0⟩ 51 102 [(1,.one (.ptr (1,0) 0)),(26,.one (.d (.sl (List.map eTPick a0.State.Picks)))),(27,.one (.d (.int .i64 (a0.State.Picks.length : Int)))),(28,.one (.d (.int .i64 n520))),(49,.one (.d (.bool b556)))] [((1,0),some (.box 139 (cTPlace m557)))] ac wd) ?_ ?_
     ·
      obtain ⟨r560,hc561,hE559⟩ := oB hE559
      rcases i2b hE559 with ⟨hb562,hE559⟩ | ⟨hb562,hE559⟩
      ·
       rcases i2 hE559 with ⟨hb563,hE559⟩ | ⟨hb563,hE559⟩
       ·
        have hc561k := L_table_place_state_ok hc561
        refine qeg [factE 88 hc561k] [none,none,none,none,none,none,some (some 38,false),some (some 38,false),some (some 38,false),some (some 38,false),none,none,some (some 44,false),some (some 44,false),some (some 44,false),some (some 44,false),none] [1,26,27,28,49] [(1,0)] h fun ac wd h => ?_
        injection hE559 with hE559; subst hE559
        exact ⟨true,m521,rfl,h.z⟩
       ·
        obtain ⟨r564,hc565,hE559⟩ := oB hE559
        have hc561k := L_table_place_state_ok hc561
        have hc565_100 := (((L_slices_ContainsFunc_table_Send_table_Send_own hc565).cls 100).nm (0,0) (1,0)).z
        refine qeg [factE 88 hc561k,factR hc565_100] [none,none,none,none,none,none,some (some 38,false),some (some 38,false),some (some 38,false),some (some 38,false),none,none,some (some 44,false),some (some 44,false),some (some 44,false),some (some 44,false),none] [1,26,27,28,49] [(1,0)] h fun ac wd h => ?_
        injection hE559 with hE559; subst hE559
        exact ⟨r564.1,r564.2,rfl,h.z⟩
      ·
       have hc561k := L_table_place_state_ok hc561
       refine qeg [factE 88 hc561k] [none,none,none,none,none,none,some (some 38,false),some (some 38,false),some (some 38,false),some (some 38,false),none,none,some (some 44,false),some (some 44,false),some (some 44,false),some (some 44,false),none] [1,26,27,28,49] [(1,0)] h fun ac wd h => ?_
       injection hE559 with hE559; subst hE559
       exact ⟨true,m521,rfl,h.z⟩
     ·
      rintro ac wd ⟨b556,m557,rfl,h⟩
      (try dsimp only at hL522)
      rcases i2b hL522 with ⟨hb566,hL522⟩ | ⟨hb566,hL522⟩
      ·
       refine kT h ?_
       refine qs 103 [] [2] [] h fun ac wd h => ?_
       refine wp_ret ?_
       injection hL522 with hL522
       subst hL522
       exact rE h [.tmp 2]
      ·
       refine kF h ?_
       refine wp_skip ?_
       change Code.wp Try.prog _ _ _ _
       refine qe [] [1,26,27,28] [(1,0)] h fun ac wd h => ?_
       exact ⟨nf,Nat.lt_succ_self nf,(IntKind.wrap .i64 (n520 + 1)),m557,hL522,h.z⟩
    ·
     refine kF h ?_
     refine wp_exit ?_
     change Code.wp Try.prog _ _ _ _
     refine qs 80 [] [2] [] h fun ac wd h => ?_
     refine wp_ret ?_
     injection hL522 with hL522
     subst hL522
     exact rE h [.tmp 2]

theorem L_table_place_takes_1_own {a0 : TTake} {a1 : TTake} {r : Bool × TTake} (hD : L_table_place_takes_1 a0 a1 = some r) :
  CallH Try.prog 129 [.agg (cTTake a0),.one (.ptr (0,0) 0)] [((0,0),some (.box 48 (cTTake a1)))]
   (.one (.d (.bool r.1))) [((0,0),some (.box 48 (cTTake r.2)))] := by
 unfold L_table_place_takes_1 at hD
 refine rc Try.func129 rfl Try.ntmps129 fun S Φ P0 wb ac h => ?_
 refine qs 3 [] [1,2] [(0,0),(1,0)] h fun ac wd h => ?_
 obtain ⟨e8,hE9,hD⟩ := Option.bind_eq_some_iff.1 hD
 refine r_seqJ (fun ac wd => ∃ (b7 : Bool),b7 = e8 ∧ SL ⟨wb,S,Φ,P0⟩ 16 16 [(3,.one (.d (.bool b7)))] [((0,0),some (.box 48 (cTTake a1)))] ac wd) ?_ ?_
 ·
  rcases i2e hE9 with ⟨hb10,hE9⟩ | ⟨hb10,hE9⟩
  ·
   refine qeg [] [none,none,none,none,none,none,some (some 9,true),some (some 9,true),some (some 9,true),some (some 9,true),some (some 9,true),none,none] [3] [(0,0)] h fun ac wd h => ?_
   injection hE9 with hE9; subst hE9
   exact ⟨decide (a0.Letter = a1.Letter),rfl,h.z⟩
  ·
   refine qeg [] [none,none,none,none,none,none,some (some 9,true),some (some 9,true),some (some 9,true),some (some 9,true),some (some 9,true),none,none] [3] [(0,0)] h fun ac wd h => ?_
   injection hE9 with hE9; subst hE9
   exact ⟨false,rfl,h.z⟩
 ·
  rintro ac wd ⟨b7,rfl,h⟩
  (try dsimp only at hD)
  refine wp_ret ?_
  injection hD with hD
  subst hD
  exact rO h [.tmp 3] [(0,0)]

theorem L_slices_IndexFunc_table_Take_table_Take_own {a0 : (List TTake)} {a1 : TTake} {r : Int × TTake} (hD : L_slices_IndexFunc_table_Take_table_Take a0 a1 = some r) :
  CallH Try.prog 146 [.one (.d (.sl (List.map eTTake a0))),.one (.fnp 129 [((0,0),0)])] [((0,0),some (.box 48 (cTTake a1)))]
   (.one (.d (.int .i64 r.1))) [((0,0),some (.box 48 (cTTake r.2)))] := by
 unfold L_slices_IndexFunc_table_Take_table_Take at hD
 refine rc Try.func146 rfl Try.ntmps146 fun S Φ P0 wb ac h => ?_
 refine qs 2 [] [0,1] [(0,0)] h fun ac wd h => ?_
 refine wp_seq ?_
 refine qs 5 [] [0,1,7,8] [(0,0)] h fun ac wd h => ?_
 refine wp_block ?_
 refine r_while (fun nf ac wd => ∃ (n239 : Int) (m240 : TTake),L_slices_IndexFunc_table_Take_table_Take_l1 a0 nf n239 m240 = some r ∧ SL ⟨wb,S,Φ,P0⟩ 19 27 [(0,.one (.d (.sl (List.map eTTake a0)))),(1,.one (.fnp 129 [((0,0),0)])),(7,.one (.d (.int .i64 (a0.length : Int)))),(8,.one (.d (.int .i64 n239)))] [((0,0),some (.box 48 (cTTake m240)))] ac wd) (((a0.length : Int) - 0).toNat + 1) ⟨0,a1,hD,h.z⟩ (fun nf ac wd hJ => ?_)
 obtain ⟨n239,m240,hL241,h⟩ := hJ
 cases nf with
 | zero => rw [L_slices_IndexFunc_table_Take_table_Take_l1] at hL241; cases hL241
 | succ nf =>
  rw [L_slices_IndexFunc_table_Take_table_Take_l1] at hL241
  refine qs 28 [] [0,1,7,8,9] [(0,0)] h fun ac wd h => ?_
  refine wp_seq ?_
  rcases i2 hL241 with ⟨hb243,hL241⟩ | ⟨hb243,hL241⟩
  ·
   refine kT h ?_
   refine wp_skip ?_
   change Code.wp Try.prog _ _ _ _
   refine wp_seq ?_
   refine wp_block ?_
   refine qs 30 [] [0,1,5,7,8] [(0,0)] h fun ac wd h => ?_
   obtain ⟨x257,hx258a,hx258b,hx258c,hx258d,hL241⟩ := aB hL241
   obtain ⟨r259,hc260,hL241⟩ := oB hL241
   have hc260_35 := ((L_table_place_takes_1_own hc260).cls 35).z
   refine qs 36 [factR hc260_35] [0,1,5,7,8,16] [(0,0)] h fun ac wd h => ?_
   rcases i2b hL241 with ⟨hb261,hL241⟩ | ⟨hb261,hL241⟩
   ·
    refine kT h ?_
    refine qs 38 [] [4] [(0,0)] h fun ac wd h => ?_
    refine wp_ret ?_
    injection hL241 with hL241
    subst hL241
    exact rO h [.tmp 4] [(0,0)]
   ·
    refine kF h ?_
    refine wp_skip ?_
    change Code.wp Try.prog _ _ _ _
    refine qe [] [0,1,7,8] [(0,0)] h fun ac wd h => ?_
    exact ⟨nf,Nat.lt_succ_self nf,(IntKind.wrap .i64 (n239 + 1)),r259.2,hL241,h.z⟩
  ·
   refine kF h ?_
   refine wp_exit ?_
   change Code.wp Try.prog _ _ _ _
   refine qs 29 [] [4] [(0,0)] h fun ac wd h => ?_
   refine wp_ret ?_
   injection hL241 with hL241
   subst hL241
   exact rO h [.tmp 4] [(0,0)]

theorem L_slices_ContainsFunc_table_Take_table_Take_own {a0 : (List TTake)} {a1 : TTake} {r : Bool × TTake} (hD : L_slices_ContainsFunc_table_Take_table_Take a0 a1 = some r) :
  CallH Try.prog 130 [.one (.d (.sl (List.map eTTake a0))),.one (.fnp 129 [((0,0),0)])] [((0,0),some (.box 48 (cTTake a1)))]
   (.one (.d (.bool r.1))) [((0,0),some (.box 48 (cTTake r.2)))] := by
 unfold L_slices_ContainsFunc_table_Take_table_Take at hD
 refine rc Try.func130 rfl Try.ntmps130 fun S Φ P0 wb ac h => ?_
 refine qs 2 [] [0,1] [(0,0)] h fun ac wd h => ?_
 obtain ⟨r7,hc8,hD⟩ := oB hD
 have hc8_4 := ((L_slices_IndexFunc_table_Take_table_Take_own hc8).cls 4).z
 refine qs 7 [factR hc8_4] [4] [(0,0)] h fun ac wd h => ?_
 refine wp_ret ?_
 injection hD with hD
 subst hD
 exact rO h [.tmp 4] [(0,0)]

theorem L_table_place_takes_ok {a0 : TPlace} {r : Bool} (hD : L_table_place_takes a0 = some r) :
  CallH Try.prog 103 [.agg (cTPlace a0)] []
   (.one (.d (.bool r))) [] := by
 unfold L_table_place_takes at hD
 refine rc Try.func103 rfl Try.ntmps103 fun S Φ P0 wb ac h => ?_
 refine qs 3 [] [1] [(1,0)] h fun ac wd h => ?_
 refine wp_seq ?_
 refine qs 8 [] [1,8,9,10] [(1,0)] h fun ac wd h => ?_
 refine wp_block ?_
 refine r_while (fun nf ac wd => ∃ (n869 : Int),L_table_place_takes_l1 a0 nf n869 = some r ∧ SL ⟨wb,S,Φ,P0⟩ 44 84 [(1,.one (.ptr (1,0) 0)),(8,.one (.d (.sl (List.map eTTake a0.State.Takes)))),(9,.one (.d (.int .i64 (a0.State.Takes.length : Int)))),(10,.one (.d (.int .i64 n869)))] [((1,0),some (.box 139 (cTPlace a0)))] ac wd) (((a0.State.Takes.length : Int) - 0).toNat + 1) ⟨0,hD,h.z⟩ (fun nf ac wd hJ => ?_)
 obtain ⟨n869,hL870,h⟩ := hJ
 cases nf with
 | zero => rw [L_table_place_takes_l1] at hL870; cases hL870
 | succ nf =>
  rw [L_table_place_takes_l1] at hL870
  refine qs 85 [] [1,8,9,10,11] [(1,0)] h fun ac wd h => ?_
  refine wp_seq ?_
  rcases i2 hL870 with ⟨hb872,hL870⟩ | ⟨hb872,hL870⟩
  ·
   refine kT h ?_
   refine wp_skip ?_
   change Code.wp Try.prog _ _ _ _
   refine wp_seq ?_
   refine wp_block ?_
   obtain ⟨x913,hx914a,hx914b,hx914c,hx914d,hL870⟩ := aB hL870
   refine qs 91 [] [1,3,4,8,9,10] [(1,0),(88,0)] h fun ac wd h => ?_
   refine qs 93 [] [1,3,4,5,8,9,10] [(1,0),(88,0)] h fun ac wd h => ?_
   obtain ⟨e931,hE932,hL870⟩ := Option.bind_eq_some_iff.1 hL870
   refine r_seqJ (fun ac wd => ∃ (b930 : Bool),b930 = e931 ∧ SL ⟨wb,S,Φ,P0⟩ 44 120 [(1,.one (.ptr (1,0) 0)),(8,.one (.d (.sl (List.map eTTake a0.State.Takes)))),(9,.one (.d (.int .i64 (a0.State.Takes.length : Int)))),(10,.one (.d (.int .i64 n869))),(42,.one (.d (.bool b930)))] [((1,0),some (.box 139 (cTPlace a0)))] ac wd) ?_ ?_
   ·
    obtain ⟨r933,hc934,hE932⟩ := oB hE932
    rcases i2b hE932 with ⟨hb935,hE932⟩ | ⟨hb935,hE932⟩
    ·
     obtain ⟨r936,hc937,hE932⟩ := oB hE932
     rcases i2b hE932 with ⟨hb938,hE932⟩ | ⟨hb938,hE932⟩
     ·
      obtain ⟨r939,hc940,hE932⟩ := oB hE932
      rcases i2b hE932 with ⟨hb941,hE932⟩ | ⟨hb941,hE932⟩
      ·
       obtain ⟨ha942,hE932⟩ := iT hE932
       obtain ⟨ha943,hE932⟩ := iT hE932
       obtain ⟨v944,hv945,hE932⟩ := vB hE932
       obtain ⟨r946,hc947,hE932⟩ := oB hE932
       have hc934k := L_table_place_in_ok hc934
       have hc937k := L_table_letter_ok hc937
       have hc940k := L_table_place_state_ok hc940
       have hc947_118 := (((L_slices_ContainsFunc_table_Take_table_Take_own hc947).cls 118).nm (0,0) (88,0)).z
       refine qeg [factE 96 hc934k,factE 101 hc937k,factE 108 hc940k,factR hc947_118] [none,none,none,none,none,none,some (some 21,false),some (some 21,false),some (some 21,false),some (some 21,false),none,none,some (some 27,false),some (some 27,false),some (some 27,false),some (some 27,false),some (some 27,false),none,none,some (some 34,false),some (some 34,false),some (some 34,false),some (some 34,false),some (some 34,false),some (some 34,false),some (some 34,false),none] [1,8,9,10,42] [(1,0)] h fun ac wd h => ?_
       injection hE932 with hE932; subst hE932
       exact ⟨r946.1,rfl,h.z⟩
      ·
       have hc934k := L_table_place_in_ok hc934
       have hc937k := L_table_letter_ok hc937
       have hc940k := L_table_place_state_ok hc940
       refine qeg [factE 96 hc934k,factE 101 hc937k,factE 108 hc940k] [none,none,none,none,none,none,some (some 21,false),some (some 21,false),some (some 21,false),some (some 21,false),none,none,some (some 27,false),some (some 27,false),some (some 27,false),some (some 27,false),some (some 27,false),none,none,some (some 34,false),some (some 34,false),some (some 34,false),some (some 34,false),some (some 34,false),some (some 34,false),some (some 34,false),none] [1,8,9,10,42] [(1,0)] h fun ac wd h => ?_
       injection hE932 with hE932; subst hE932
       exact ⟨true,rfl,h.z⟩
     ·
      have hc934k := L_table_place_in_ok hc934
      have hc937k := L_table_letter_ok hc937
      refine qeg [factE 96 hc934k,factE 101 hc937k] [none,none,none,none,none,none,some (some 21,false),some (some 21,false),some (some 21,false),some (some 21,false),none,none,some (some 27,false),some (some 27,false),some (some 27,false),some (some 27,false),some (some 27,false),none,none,some (some 34,false),some (some 34,false),some (some 34,false),some (some 34,false),some (some 34,false),some (some 34,false),some (some 34,false),none] [1,8,9,10,42] [(1,0)] h fun ac wd h => ?_
      injection hE932 with hE932; subst hE932
      exact ⟨true,rfl,h.z⟩
    ·
     have hc934k := L_table_place_in_ok hc934
     refine qeg [factE 96 hc934k] [none,none,none,none,none,none,some (some 21,false),some (some 21,false),some (some 21,false),some (some 21,false),none,none,some (some 27,false),some (some 27,false),some (some 27,false),some (some 27,false),some (some 27,false),none,none,some (some 34,false),some (some 34,false),some (some 34,false),some (some 34,false),some (some 34,false),some (some 34,false),some (some 34,false),none] [1,8,9,10,42] [(1,0)] h fun ac wd h => ?_
     injection hE932 with hE932; subst hE932
     exact ⟨true,rfl,h.z⟩
   ·
    rintro ac wd ⟨b930,rfl,h⟩
    (try dsimp only at hL870)
    rcases i2b hL870 with ⟨hb948,hL870⟩ | ⟨hb948,hL870⟩
    ·
     refine kT h ?_
     refine qs 121 [] [2] [] h fun ac wd h => ?_
     refine wp_ret ?_
     injection hL870 with hL870
     subst hL870
     exact rE h [.tmp 2]
    ·
     refine kF h ?_
     refine wp_skip ?_
     change Code.wp Try.prog _ _ _ _
     refine qe [] [1,8,9,10] [(1,0)] h fun ac wd h => ?_
     exact ⟨nf,Nat.lt_succ_self nf,(IntKind.wrap .i64 (n869 + 1)),hL870,h.z⟩
  ·
   refine kF h ?_
   refine wp_exit ?_
   change Code.wp Try.prog _ _ _ _
   refine qs 86 [] [2] [] h fun ac wd h => ?_
   refine wp_ret ?_
   injection hL870 with hL870
   subst hL870
   exact rE h [.tmp 2]

theorem L_table_place_stays_ok {a0 : TPlace} {r : Bool} (hD : L_table_place_stays a0 = some r) :
  CallH Try.prog 104 [.agg (cTPlace a0)] []
   (.one (.d (.bool r))) [] := by
 unfold L_table_place_stays at hD
 refine rc Try.func104 rfl Try.ntmps104 fun S Φ P0 wb ac h => ?_
 refine qs 3 [] [1] [(1,0)] h fun ac wd h => ?_
 refine wp_seq ?_
 refine qs 8 [] [1,10,11,12] [(1,0)] h fun ac wd h => ?_
 refine wp_block ?_
 refine r_while (fun nf ac wd => ∃ (n2970 : Int),L_table_place_stays_l1 a0 nf n2970 = some r ∧ SL ⟨wb,S,Φ,P0⟩ 49 158 [(1,.one (.ptr (1,0) 0)),(10,.one (.d (.sl (List.map eTTake a0.State.Takes)))),(11,.one (.d (.int .i64 (a0.State.Takes.length : Int)))),(12,.one (.d (.int .i64 n2970)))] [((1,0),some (.box 139 (cTPlace a0)))] ac wd) (((a0.State.Takes.length : Int) - 0).toNat + 1) ⟨0,hD,h.z⟩ (fun nf ac wd hJ => ?_)
 obtain ⟨n2970,hL2971,h⟩ := hJ
 cases nf with
 | zero => rw [L_table_place_stays_l1] at hL2971; cases hL2971
 | succ nf =>
  rw [L_table_place_stays_l1] at hL2971
  refine qs 159 [] [1,10,11,12,13] [(1,0)] h fun ac wd h => ?_
  refine wp_seq ?_
  rcases i2 hL2971 with ⟨hb2973,hL2971⟩ | ⟨hb2973,hL2971⟩
  ·
   refine kT h ?_
   refine wp_skip ?_
   change Code.wp Try.prog _ _ _ _
   obtain ⟨e3106,hE3107,hL2971⟩ := Option.bind_eq_some_iff.1 hL2971
   refine r_seqJ (fun ac wd => (.inl ()) = e3106 ∧ SL ⟨wb,S,Φ,P0⟩ 49 231 [(1,.one (.ptr (1,0) 0)),(10,.one (.d (.sl (List.map eTTake a0.State.Takes)))),(11,.one (.d (.int .i64 (a0.State.Takes.length : Int)))),(12,.one (.d (.int .i64 n2970)))] [((1,0),some (.box 139 (cTPlace a0)))] ac wd) ?_ ?_
   ·
    refine wp_block ?_
    obtain ⟨x3110,hx3111a,hx3111b,hx3111c,hx3111d,hE3107⟩ := aB hE3107
    refine qs 163 [] [1,4,10,11,12] [(1,0),(161,0)] h fun ac wd h => ?_
    refine qs 168 [] [1,4,10,11,12,18,19,20] [(1,0),(161,0)] h fun ac wd h => ?_
    obtain ⟨e3240,hE3241,hE3107⟩ := Option.bind_eq_some_iff.1 hE3107
    refine r_meetQ (fun ac wd => (.inl ()) = e3240 ∧ SL ⟨wb,S,Φ,P0⟩ 49 231 [(1,.one (.ptr (1,0) 0)),(10,.one (.d (.sl (List.map eTTake a0.State.Takes)))),(11,.one (.d (.int .i64 (a0.State.Takes.length : Int)))),(12,.one (.d (.int .i64 n2970)))] [((1,0),some (.box 139 (cTPlace a0)))] ac wd) ?_ ?_
    ·
     refine wp_block ?_
     refine r_while (fun nf ac wd => ∃ (n3327 : Int),L_table_place_stays_l2 a0 x3110 nf n3327 = some e3240 ∧ SL ⟨wb,S,Φ,P0⟩ 49 230 [(1,.one (.ptr (1,0) 0)),(4,.one (.ptr (161,0) 0)),(10,.one (.d (.sl (List.map eTTake a0.State.Takes)))),(11,.one (.d (.int .i64 (a0.State.Takes.length : Int)))),(12,.one (.d (.int .i64 n2970))),(18,.one (.d (.sl (List.map eI a0.State.Waits)))),(19,.one (.d (.int .i64 (a0.State.Waits.length : Int)))),(20,.one (.d (.int .i64 n3327)))] [((1,0),some (.box 139 (cTPlace a0))),((161,0),some (.box 48 (cTTake x3110)))] ac wd) (((a0.State.Waits.length : Int) - 0).toNat + 1) ⟨0,hE3241,h.z⟩ (fun nf ac wd hJ => ?_)
     obtain ⟨n3327,hL3328,h⟩ := hJ
     cases nf with
     | zero => rw [L_table_place_stays_l2] at hL3328; cases hL3328
     | succ nf =>
      rw [L_table_place_stays_l2] at hL3328
      refine qs 231 [] [1,4,10,11,12,18,19,20,21] [(1,0),(161,0)] h fun ac wd h => ?_
      refine wp_seq ?_
      rcases i2 hL3328 with ⟨hb3330,hL3328⟩ | ⟨hb3330,hL3328⟩
      ·
       refine kT h ?_
       refine wp_skip ?_
       change Code.wp Try.prog _ _ _ _
       refine wp_seq ?_
       refine wp_block ?_
       obtain ⟨x3353,hx3354a,hx3354b,hx3354c,hx3354d,hL3328⟩ := aB hL3328
       refine qs 234 [] [1,4,6,10,11,12,18,19,20] [(1,0),(161,0)] h fun ac wd h => ?_
       obtain ⟨x3357,hx3358a,hx3358b,hx3358c,hx3358d,hL3328⟩ := aB hL3328
       refine qs 243 [] [1,4,6,7,10,11,12,18,19,20] [(1,0),(161,0),(241,0)] h fun ac wd h => ?_
       obtain ⟨e3364,hE3365,hL3328⟩ := Option.bind_eq_some_iff.1 hL3328
       refine r_seqJ (fun ac wd => ∃ (b3363 : Bool),b3363 = e3364 ∧ SL ⟨wb,S,Φ,P0⟩ 49 259 [(1,.one (.ptr (1,0) 0)),(4,.one (.ptr (161,0) 0)),(10,.one (.d (.sl (List.map eTTake a0.State.Takes)))),(11,.one (.d (.int .i64 (a0.State.Takes.length : Int)))),(12,.one (.d (.int .i64 n2970))),(18,.one (.d (.sl (List.map eI a0.State.Waits)))),(19,.one (.d (.int .i64 (a0.State.Waits.length : Int)))),(20,.one (.d (.int .i64 n3327))),(46,.one (.d (.bool b3363)))] [((1,0),some (.box 139 (cTPlace a0))),((161,0),some (.box 48 (cTTake x3110)))] ac wd) ?_ ?_
       ·
        rcases i2e hE3365 with ⟨hb3366,hE3365⟩ | ⟨hb3366,hE3365⟩
        ·
         refine qeg [] [none,none,none,none,none,some (some 35,true),some (some 35,true),some (some 35,true),some (some 35,true),some (some 39,false),some (some 39,false),some (some 39,false),some (some 39,false),some (some 39,false),some (some 35,true),none] [1,4,10,11,12,18,19,20,46] [(1,0),(161,0)] h fun ac wd h => ?_
         injection hE3365 with hE3365; subst hE3365
         exact ⟨false,rfl,h.z⟩
        ·
         rcases i2e hE3365 with ⟨hb3367,hE3365⟩ | ⟨hb3367,hE3365⟩
         ·
          obtain ⟨r3368,hc3369,hE3365⟩ := oB hE3365
          have hc3369k := L_slices_Contains_int_int_ok hc3369
          refine qeg [factE 255 hc3369k] [none,none,none,none,none,some (some 35,true),some (some 35,true),some (some 35,true),some (some 35,true),some (some 39,false),some (some 39,false),some (some 39,false),some (some 39,false),some (some 39,false),some (some 35,true),none] [1,4,10,11,12,18,19,20,46] [(1,0),(161,0)] h fun ac wd h => ?_
          injection hE3365 with hE3365; subst hE3365
          exact ⟨!(r3368),rfl,h.z⟩
         ·
          refine qeg [] [none,none,none,none,none,some (some 35,true),some (some 35,true),some (some 35,true),some (some 35,true),some (some 39,false),some (some 39,false),some (some 39,false),some (some 39,false),some (some 39,false),some (some 35,true),none] [1,4,10,11,12,18,19,20,46] [(1,0),(161,0)] h fun ac wd h => ?_
          injection hE3365 with hE3365; subst hE3365
          exact ⟨true,rfl,h.z⟩
       ·
        rintro ac wd ⟨b3363,rfl,h⟩
        (try dsimp only at hL3328)
        rcases i2b hL3328 with ⟨hb3370,hL3328⟩ | ⟨hb3370,hL3328⟩
        ·
         refine kT h ?_
         refine qs 260 [] [2] [] h fun ac wd h => ?_
         refine wp_ret ?_
         injection hL3328 with hL3328
         subst hL3328
         (try dsimp only at hE3107)
         injection hE3107 with hE3107
         subst hE3107
         (try dsimp only at hL2971)
         injection hL2971 with hL2971
         subst hL2971
         exact rE h [.tmp 2]
        ·
         refine kF h ?_
         refine wp_skip ?_
         change Code.wp Try.prog _ _ _ _
         refine qe [] [1,4,10,11,12,18,19,20] [(1,0),(161,0)] h fun ac wd h => ?_
         exact ⟨nf,Nat.lt_succ_self nf,(IntKind.wrap .i64 (n3327 + 1)),hL3328,h.z⟩
      ·
       refine kF h ?_
       refine wp_exit ?_
       injection hL3328 with hL3328; subst hL3328
       exact ⟨rfl,h.z⟩
    ·
     rintro ac wd ⟨rfl,h⟩
     (try dsimp only at hE3107)
     injection hE3107 with hE3107; subst hE3107
     exact ⟨rfl,h.z⟩
   ·
    rintro ac wd ⟨rfl,h⟩
    (try dsimp only at hL2971)
    refine qe [] [1,10,11,12] [(1,0)] h fun ac wd h => ?_
    exact ⟨nf,Nat.lt_succ_self nf,(IntKind.wrap .i64 (n2970 + 1)),hL2971,h.z⟩
  ·
   refine kF h ?_
   refine wp_exit ?_
   change Code.wp Try.prog _ _ _ _
   refine qs 160 [] [2] [] h fun ac wd h => ?_
   refine wp_ret ?_
   injection hL2971 with hL2971
   subst hL2971
   exact rE h [.tmp 2]

end Go.Proofs.Ytabbejabdkkaiaa
