/- Functions as typed ones,and that the program's functions answer as these do. No condition. -/
import Derived.Test.YtabbejabdkkaiaaGb2
import Derived.Test.YtabbejabdkkaiaaGb8
import Derived.Test.YtabbejabdkkaiaaGdCutNest
set_option linter.unusedSimpArgs false
set_option linter.unusedVariables false
set_option maxRecDepth 20000
set_option maxHeartbeats 4000000
namespace Go.Proofs.Ytabbejabdkkaiaa
open Go.RowKit

theorem L_law17_CutNest_ok {a0 : TApp} {a1 : TCut} {a2 : (List Int)} {r : Bool} (hD : L_law17_CutNest a0 a1 a2 = some r) :
  CallH Try.prog 8 [.agg (cTApp a0),.agg (cTCut a1),.one (.d (.sl (List.map eI a2)))] []
   (.one (.d (.bool r))) [] := by
 unfold L_law17_CutNest at hD
 refine rc Try.func8 rfl Try.ntmps8 fun S Φ P0 wb ac h => ?_
 refine qs 4 [] [2,3,4] [(1,0),(2,0)] h fun ac wd h => ?_
 obtain ⟨r343,hc344,hD⟩ := oB hD
 have hc344k := L_law05_Cut_ok hc344
 refine qs 7 [factE 5 hc344k] [2,3,4] [(1,0),(2,0)] h fun ac wd h => ?_
 obtain ⟨r347,hc348,hD⟩ := oB hD
 have hc348k := L_law05_App_ok hc348
 refine qs 11 [factE 8 hc348k] [2,3,4,7] [(1,0),(2,0),(9,0)] h fun ac wd h => ?_
 obtain ⟨r351,hc352,hD⟩ := oB hD
 have hc352k := L_ref05_Start_ok hc352
 refine qs 15 [factE 12 hc352k] [2,3,4,7,8] [(1,0),(2,0),(9,0),(13,0)] h fun ac wd h => ?_
 refine wp_seq ?_
 obtain ⟨r355,hc356,hD⟩ := oB hD
 have hc356k := L_ref05_Right_ok hc356
 refine qs 19 [factE 17 hc356k] [2,3,4,8,25] [(1,0),(2,0),(13,0)] h fun ac wd h => ?_
 rcases i2b hD with ⟨hb362,hD⟩ | ⟨hb362,hD⟩
 ·
  refine kF h ?_
  refine wp_skip ?_
  change Code.wp Try.prog _ _ _ _
  refine qs 28 [] [2,3,4,9] [(1,0),(2,0),(26,0)] h fun ac wd h => ?_
  obtain ⟨r466,hc467,hD⟩ := oB hD
  have hc467k := L_law17_doable_ok hc467
  refine qs 34 [factE 32 hc467k] [2,3,4,9,10] [(1,0),(2,0),(26,0)] h fun ac wd h => ?_
  refine qs 38 [] [2,3,4,9,10,11,12] [(1,0),(2,0),(26,0),(34,0),(35,0)] h fun ac wd h => ?_
  refine wp_seq ?_
  refine qs 39 [] [2,3,4,9,10,11,12,13] [(1,0),(2,0),(26,0),(34,0),(35,0)] h fun ac wd h => ?_
  obtain ⟨e630,hE631,hD⟩ := Option.bind_eq_some_iff.1 hD
  refine r_meet (fun ac wd => ∃ (l628 : List Int) (l629 : List Int),(l628,l629) = e630 ∧ SL ⟨wb,S,Φ,P0⟩ 109 132 [(2,.one (.d (.sl (List.map eI a2)))),(3,.one (.ptr (1,0) 0)),(4,.one (.ptr (2,0) 0)),(9,.one (.ptr (26,0) 0)),(10,.one (.d (.sl (List.map eTStep r466)))),(11,.one (.own (34,0) l628.length)),(12,.one (.own (35,0) l629.length))] [((1,0),some (.box 53 [.d (.int .i64 r343.G.N),.d (.sl (List.map eA2I r343.G.Links)),.d (.sl (List.map eTNode r343.T)),.d (.bool r343.Fifo)])),((2,0),some (.box 99 (cTCut a1))),((26,0),some (.box 104 [.d (.sl (List.map eI r351.States)),.d (.sl (List.map (eL eTMsg) r351.Links)),.d (.sl (List.map eI r351.Sent))])),((34,0),some (.row 3 1 (dat (List.map eI l628)))),((35,0),some (.row 3 1 (dat (List.map eI l629))))] ac wd) ?_ ?_
  ·
   refine wp_block ?_
   refine r_while (fun nf ac wd => ∃ (n717 : Int) (l718 : List Int) (l719 : List Int),L_law17_CutNest_l1 a1 a2 r343 nf n717 l718 l719 = some e630 ∧ SL ⟨wb,S,Φ,P0⟩ 109 127 [(2,.one (.d (.sl (List.map eI a2)))),(3,.one (.ptr (1,0) 0)),(4,.one (.ptr (2,0) 0)),(9,.one (.ptr (26,0) 0)),(10,.one (.d (.sl (List.map eTStep r466)))),(11,.one (.own (34,0) l718.length)),(12,.one (.own (35,0) l719.length)),(13,.one (.d (.int .i64 n717)))] [((1,0),some (.box 53 [.d (.int .i64 r343.G.N),.d (.sl (List.map eA2I r343.G.Links)),.d (.sl (List.map eTNode r343.T)),.d (.bool r343.Fifo)])),((2,0),some (.box 99 (cTCut a1))),((26,0),some (.box 104 [.d (.sl (List.map eI r351.States)),.d (.sl (List.map (eL eTMsg) r351.Links)),.d (.sl (List.map eI r351.Sent))])),((34,0),some (.row 3 1 (dat (List.map eI l718)))),((35,0),some (.row 3 1 (dat (List.map eI l719))))] ac wd) ((r343.G.N - 0).toNat + 1) ⟨0,([] : List Int),([] : List Int),hE631,h.z⟩ (fun nf ac wd hJ => ?_)
   obtain ⟨n717,l718,l719,hL720,h⟩ := hJ
   cases nf with
   | zero => rw [L_law17_CutNest_l1] at hL720; cases hL720
   | succ nf =>
    rw [L_law17_CutNest_l1] at hL720
    refine wp_seq ?_
    refine qs 132 [] [2,3,4,9,10,11,12,13,45] [(1,0),(2,0),(26,0),(34,0),(35,0)] h fun ac wd h => ?_
    rcases i2 hL720 with ⟨hb722,hL720⟩ | ⟨hb722,hL720⟩
    ·
     refine kT h ?_
     refine wp_skip ?_
     change Code.wp Try.prog _ _ _ _
     refine wp_seq ?_
     refine wp_block ?_
     refine qs 134 [] [2,3,4,9,10,11,12,13,14,15] [(1,0),(2,0),(26,0),(34,0),(35,0)] h fun ac wd h => ?_
     refine wp_seq ?_
     refine qs 139 [] [2,3,4,9,10,11,12,13,14,15,52] [(1,0),(2,0),(26,0),(34,0),(35,0)] h fun ac wd h => ?_
     obtain ⟨e766,hE767,hL720⟩ := Option.bind_eq_some_iff.1 hL720
     refine r_meet (fun ac wd => ∃ (n765 : Int),n765 = e766 ∧ SL ⟨wb,S,Φ,P0⟩ 109 145 [(2,.one (.d (.sl (List.map eI a2)))),(3,.one (.ptr (1,0) 0)),(4,.one (.ptr (2,0) 0)),(9,.one (.ptr (26,0) 0)),(10,.one (.d (.sl (List.map eTStep r466)))),(11,.one (.own (34,0) l718.length)),(12,.one (.own (35,0) l719.length)),(13,.one (.d (.int .i64 n717))),(14,.one (.d (.int .i64 n765))),(15,.one (.d (.int .i64 0)))] [((1,0),some (.box 53 [.d (.int .i64 r343.G.N),.d (.sl (List.map eA2I r343.G.Links)),.d (.sl (List.map eTNode r343.T)),.d (.bool r343.Fifo)])),((2,0),some (.box 99 (cTCut a1))),((26,0),some (.box 104 [.d (.sl (List.map eI r351.States)),.d (.sl (List.map (eL eTMsg) r351.Links)),.d (.sl (List.map eI r351.Sent))])),((34,0),some (.row 3 1 (dat (List.map eI l718)))),((35,0),some (.row 3 1 (dat (List.map eI l719))))] ac wd) ?_ ?_
     ·
      rcases i2 hE767 with ⟨hb768,hE767⟩ | ⟨hb768,hE767⟩
      ·
       refine kT h ?_
       obtain ⟨x771,hx772a,hx772b,hx772c,hx772d,hE767⟩ := aB hE767
       refine qe [] [2,3,4,9,10,11,12,13,14,15] [(1,0),(2,0),(26,0),(34,0),(35,0)] h fun ac wd h => ?_
       injection hE767 with hE767; subst hE767
       exact ⟨x771,rfl,h.z⟩
      ·
       refine kF h ?_
       refine wp_skip ?_
       injection hE767 with hE767; subst hE767
       exact ⟨0,rfl,h.z⟩
     ·
      rintro ac wd ⟨n765,rfl,h⟩
      (try dsimp only at hL720)
      refine wp_seq ?_
      refine qs 149 [] [2,3,4,9,10,11,12,13,14,15,61] [(1,0),(2,0),(26,0),(34,0),(35,0)] h fun ac wd h => ?_
      obtain ⟨e781,hE782,hL720⟩ := Option.bind_eq_some_iff.1 hL720
      refine r_meet (fun ac wd => ∃ (n780 : Int),n780 = e781 ∧ SL ⟨wb,S,Φ,P0⟩ 109 154 [(2,.one (.d (.sl (List.map eI a2)))),(3,.one (.ptr (1,0) 0)),(4,.one (.ptr (2,0) 0)),(9,.one (.ptr (26,0) 0)),(10,.one (.d (.sl (List.map eTStep r466)))),(11,.one (.own (34,0) l718.length)),(12,.one (.own (35,0) l719.length)),(13,.one (.d (.int .i64 n717))),(14,.one (.d (.int .i64 n765))),(15,.one (.d (.int .i64 n780)))] [((1,0),some (.box 53 [.d (.int .i64 r343.G.N),.d (.sl (List.map eA2I r343.G.Links)),.d (.sl (List.map eTNode r343.T)),.d (.bool r343.Fifo)])),((2,0),some (.box 99 (cTCut a1))),((26,0),some (.box 104 [.d (.sl (List.map eI r351.States)),.d (.sl (List.map (eL eTMsg) r351.Links)),.d (.sl (List.map eI r351.Sent))])),((34,0),some (.row 3 1 (dat (List.map eI l718)))),((35,0),some (.row 3 1 (dat (List.map eI l719))))] ac wd) ?_ ?_
      ·
       rcases i2 hE782 with ⟨hb783,hE782⟩ | ⟨hb783,hE782⟩
       ·
        refine kT h ?_
        obtain ⟨x786,hx787a,hx787b,hx787c,hx787d,hE782⟩ := aB hE782
        refine qe [] [2,3,4,9,10,11,12,13,14,15] [(1,0),(2,0),(26,0),(34,0),(35,0)] h fun ac wd h => ?_
        injection hE782 with hE782; subst hE782
        exact ⟨x786,rfl,h.z⟩
       ·
        refine kF h ?_
        refine wp_skip ?_
        injection hE782 with hE782; subst hE782
        exact ⟨0,rfl,h.z⟩
      ·
       rintro ac wd ⟨n780,rfl,h⟩
       (try dsimp only at hL720)
       obtain ⟨ha789,hL720⟩ := iT hL720
       refine qs 161 [] [2,3,4,9,10,11,12,13,14,15] [(1,0),(2,0),(26,0),(35,0),(159,0)] h fun ac wd h => ?_
       obtain ⟨ha790,hL720⟩ := iT hL720
       refine qe [] [2,3,4,9,10,11,12,13] [(1,0),(2,0),(26,0),(159,0),(166,0)] h fun ac wd h => ?_
       change Code.wp Try.prog _ _ _ _
       refine qe [] [2,3,4,9,10,11,12,13] [(1,0),(2,0),(26,0),(159,0),(166,0)] h fun ac wd h => ?_
       have h := h.sw (34,0) (159,0) 171
       have h := h.sw (35,0) (166,0) 171
       exact ⟨nf,Nat.lt_succ_self nf,(IntKind.wrap .i64 (n717 + 1)),(l718 ++ [(min n765 n780)]),(l719 ++ [(max n765 n780)]),hL720,h.z⟩
    ·
     refine kF h ?_
     refine wp_exit ?_
     injection hL720 with hL720; subst hL720
     exact ⟨l718,l719,rfl,h.z⟩
  ·
   rintro ac wd ⟨l628,l629,rfl,h⟩
   (try dsimp only at hD)
   refine wp_seq ?_
   obtain ⟨e808,hE809,hD⟩ := Option.bind_eq_some_iff.1 hD
   refine r_seqJ (fun ac wd => ∃ (b807 : Bool),b807 = e808 ∧ SL ⟨wb,S,Φ,P0⟩ 109 147 [(3,.one (.ptr (1,0) 0)),(9,.one (.ptr (26,0) 0)),(10,.one (.d (.sl (List.map eTStep r466)))),(11,.one (.own (34,0) l628.length)),(12,.one (.own (35,0) l629.length)),(92,.one (.d (.bool b807)))] [((1,0),some (.box 53 [.d (.int .i64 r343.G.N),.d (.sl (List.map eA2I r343.G.Links)),.d (.sl (List.map eTNode r343.T)),.d (.bool r343.Fifo)])),((26,0),some (.box 104 [.d (.sl (List.map eI r351.States)),.d (.sl (List.map (eL eTMsg) r351.Links)),.d (.sl (List.map eI r351.Sent))])),((34,0),some (.row 3 1 (dat (List.map eI l628)))),((35,0),some (.row 3 1 (dat (List.map eI l629))))] ac wd) ?_ ?_
   ·
    obtain ⟨r810,hc811,hE809⟩ := oB hE809
    rcases i2b hE809 with ⟨hb812,hE809⟩ | ⟨hb812,hE809⟩
    ·
     obtain ⟨r815,hc816,hE809⟩ := oB hE809
     have hc811k := L_cut_Good_ok hc811
     have hc816k := L_cut_Good_ok hc816
     refine qeg [factE 137 hc811k,factE 144 hc816k] [none,none,none,none,none,none,none,none,some (some 85,false),some (some 85,false),some (some 85,false),some (some 85,false),some (some 85,false),some (some 85,false),none] [3,9,10,11,12,92] [(1,0),(26,0),(34,0),(35,0)] h fun ac wd h => ?_
     injection hE809 with hE809; subst hE809
     exact ⟨!(r815),rfl,h.z⟩
    ·
     have hc811k := L_cut_Good_ok hc811
     refine qeg [factE 137 hc811k] [none,none,none,none,none,none,none,none,some (some 85,false),some (some 85,false),some (some 85,false),some (some 85,false),some (some 85,false),some (some 85,false),none] [3,9,10,11,12,92] [(1,0),(26,0),(34,0),(35,0)] h fun ac wd h => ?_
     injection hE809 with hE809; subst hE809
     exact ⟨true,rfl,h.z⟩
   ·
    rintro ac wd ⟨b807,rfl,h⟩
    (try dsimp only at hD)
    rcases i2b hD with ⟨hb822,hD⟩ | ⟨hb822,hD⟩
    ·
     refine kT h ?_
     obtain ⟨r835,hc836,hD⟩ := oB hD
     have hc836k := L_law17_fixed_ok hc836
     refine qs 149 [factE 147 hc836k] [6] [] h fun ac wd h => ?_
     refine wp_ret ?_
     injection hD with hD
     subst hD
     exact rE h [.tmp 6]
    ·
     refine kF h ?_
     refine wp_skip ?_
     change Code.wp Try.prog _ _ _ _
     obtain ⟨r845,hc846,hD⟩ := oB hD
     obtain ⟨hb847,hD⟩ := iT hD
     obtain ⟨r848,hc849,hD⟩ := oB hD
     obtain ⟨hb850,hD⟩ := iT hD
     obtain ⟨r851,hc852,hD⟩ := oB hD
     have hc846k := L_cut_Good_ok hc846
     have hc849k := L_cut_Good_ok hc849
     have hc852k := L_law17_fixed_ok hc852
     refine qsg 163 [factE 151 hc846k,factE 157 hc849k,factE 160 hc852k] [none,none,none,none,none,none,some (some 99,true),some (some 99,true),some (some 99,true),some (some 99,true),some (some 99,true),none,none,some (some 106,true),none,none] [6] [] h fun ac wd h => ?_
     refine wp_ret ?_
     injection hD with hD
     subst hD
     exact rE h [.tmp 6]
 ·
  refine kT h ?_
  obtain ⟨r855,hc856,hD⟩ := oB hD
  have hc856k := L_law17_fixed_ok hc856
  refine qs 21 [factE 19 hc856k] [6] [] h fun ac wd h => ?_
  refine wp_ret ?_
  injection hD with hD
  subst hD
  exact rE h [.tmp 6]

end Go.Proofs.Ytabbejabdkkaiaa
