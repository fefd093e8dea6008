/- Functions as typed ones,and that the program's functions answer as these do. No condition. -/
import Derived.Test.YtifcbecpemaieaaGb2
import Derived.Test.YtifcbecpemaieaaGb4
import Derived.Test.YtifcbecpemaieaaGdCalmAlone
set_option linter.unusedSimpArgs false
set_option linter.unusedVariables false
set_option maxRecDepth 20000
set_option maxHeartbeats 4000000
namespace Go.Proofs.Ytifcbecpemaieaa
open Go.RowKit

theorem L_law14_CalmAlone_ok {a0 : TApp} {a1 : TConf} {a2 : Int} {r : Bool} (hD : L_law14_CalmAlone a0 a1 a2 = some r) :
  CallH Try.prog 3 [.agg (cTApp a0),.agg (cTConf a1),.one (.d (.int .u8 a2))] []
   (.one (.d (.bool r))) [] := by
 unfold L_law14_CalmAlone at hD
 refine rc Try.func3 rfl Try.ntmps3 fun S Φ P0 wb ac h => ?_
 refine qs 4 [] [2,3,4] [(1,0),(2,0)] h fun ac wd h => ?_
 obtain ⟨r130,hc131,hD⟩ := oB hD
 have hc131k := L_law05_Cut_ok hc131
 refine qs 7 [factE 5 hc131k] [2,3,4] [(1,0),(2,0)] h fun ac wd h => ?_
 obtain ⟨r134,hc135,hD⟩ := oB hD
 have hc135k := L_law05_CutConf_ok hc135
 refine qs 10 [factE 8 hc135k] [2,3,4] [(1,0),(2,0)] h fun ac wd h => ?_
 refine wp_seq ?_
 obtain ⟨e149,hE150,hD⟩ := Option.bind_eq_some_iff.1 hD
 refine r_seqJ (fun ac wd => ∃ (b148 : Bool),b148 = e149 ∧ SL ⟨wb,S,Φ,P0⟩ 138 22 [(2,.one (.d (.int .u8 a2))),(3,.one (.ptr (1,0) 0)),(4,.one (.ptr (2,0) 0)),(32,.one (.d (.bool b148)))] [((1,0),some (.box 27 [.d (.int .i64 r130.G.N),.d (.sl (List.map eA2I r130.G.Links)),.d (.sl (List.map eTNode r130.T)),.d (.bool r130.Fifo)])),((2,0),some (.box 31 [.d (.sl (List.map eI r134.States)),.d (.sl (List.map (eL eTMsg) r134.Links)),.d (.sl (List.map eI r134.Sent))]))] ac wd) ?_ ?_
 ·
  obtain ⟨r151,hc152,hE150⟩ := oB hE150
  obtain ⟨r153,hc154,hE150⟩ := oB hE150
  obtain ⟨r155,hc156,hE150⟩ := oB hE150
  rcases i2b hE150 with ⟨hb157,hE150⟩ | ⟨hb157,hE150⟩
  ·
   have hc152k := L_law05_App_ok hc152
   have hc154k := L_law05_Ref_ok hc154
   have hc156k := L_ref05_Right_ok hc156
   refine deg [factE 11 hc152k,factE 13 hc154k,factE 14 hc156k] [none,none,none,none,none,none,none,some (some 27,false),some (some 27,false),some (some 27,false),some (some 27,false),none] [2,3,4,32] [(1,0),(2,0)] h fun ac wd h => ?_
   injection hE150 with hE150; subst hE150
   exact ⟨decide ((r134.Links.length : Int) = 0),rfl,h.z⟩
  ·
   have hc152k := L_law05_App_ok hc152
   have hc154k := L_law05_Ref_ok hc154
   have hc156k := L_ref05_Right_ok hc156
   refine deg [factE 11 hc152k,factE 13 hc154k,factE 14 hc156k] [none,none,none,none,none,none,none,some (some 27,false),some (some 27,false),some (some 27,false),some (some 27,false),none] [2,3,4,32] [(1,0),(2,0)] h fun ac wd h => ?_
   injection hE150 with hE150; subst hE150
   exact ⟨true,rfl,h.z⟩
 ·
  rintro ac wd ⟨b148,rfl,h⟩
  (try dsimp only at hD)
  rcases i2b hD with ⟨hb163,hD⟩ | ⟨hb163,hD⟩
  ·
   refine kT h ?_
   obtain ⟨r207,hc208,hD⟩ := oB hD
   have hc208k := L_law14_fixed_ok hc208
   refine qs 24 [factE 22 hc208k] [6] [] h fun ac wd h => ?_
   refine wp_ret ?_
   injection hD with hD
   subst hD
   exact rE h [.tmp 6]
  ·
   refine kF h ?_
   refine wp_skip ?_
   change Code.wp Try.prog _ _ _ _
   obtain ⟨ha210,hD⟩ := iT hD
   refine qs 29 [] [3,4,7] [(1,0),(2,0)] h fun ac wd h => ?_
   obtain ⟨r213,hc214,hD⟩ := oB hD
   have hc214_30 := ((L_law05_CutConf_own hc214).cls 30).z
   refine qs 33 [factO hc214_30] [3,4,7,8] [(1,0),(2,0),(30,0),(30,1),(30,2),(31,0)] h fun ac wd h => ?_
   obtain ⟨x217,hx218a,hx218b,hx218c,hx218d,hD⟩ := aB hD
   refine qs 38 [] [3,4,7,8] [(1,0),(2,0),(30,0),(30,1),(30,2),(31,0)] h fun ac wd h => ?_
   have h := h.nilTr (30,1) (l := (openRows cols_43 (List.map (eL eTMsg) r213.Links)).set (((IntKind.wrap .i64 a2).tmod (r134.Links.length : Int)).toNat) [.nil]) (l' := (openRows cols_43 (List.map (eL eTMsg) r213.Links)).set (((IntKind.wrap .i64 a2).tmod (r134.Links.length : Int)).toNat) [.tr (.sl 70 2 (fun _ => .sc)) (.sl (List.map eTMsg []))]) (by simp only [EZ,simprocAttr, *] <;> rfl) (RowsTo.set (RowsTo.refl _) (RowTo.cons (.inr (.inr ⟨rfl,_,_,_,rfl⟩)) RowTo.nil) _)
   have h := h.sm 38 [(3,.one (.ptr (1,0) 0)),(4,.one (.ptr (2,0) 0)),(7,.one (.d (.int .i64 ((IntKind.wrap .i64 a2).tmod (r134.Links.length : Int))))),(8,.one (.ptr (31,0) 0))]
    [((1,0),some (.box 27 [.d (.int .i64 r130.G.N),.d (.sl (List.map eA2I r130.G.Links)),.d (.sl (List.map eTNode r130.T)),.d (.bool r130.Fifo)])),((2,0),some (.box 31 (cTConf r134))),((30,0),some (.row 3 1 (dat (List.map eI r213.States)))),((30,1),some (.row 43 1 ((openRows cols_43 (List.map (eL eTMsg) r213.Links)).set (((IntKind.wrap .i64 a2).tmod (r134.Links.length : Int)).toNat) [.tr (.sl 70 2 (fun _ => .sc)) (.sl (List.map eTMsg []))]))),((30,2),some (.row 3 1 (dat (List.map eI r213.Sent)))),((31,0),some (.box 31 [.own (30,0) r213.States.length,.own (30,1) r213.Links.length,.own (30,2) r213.Sent.length]))]
   obtain ⟨r221,hc222,hD⟩ := oB hD
   have hc222k := L_calm_Count_ok hc222
   refine qs 48 [factE 40 hc222k] [3,4,7,8,9,10,11] [(1,0),(2,0),(30,0),(30,1),(30,2),(31,0)] h fun ac wd h => ?_
   obtain ⟨r225,hc226,hD⟩ := oB hD
   have hc226k := L_calm_Count_ok hc226
   refine qs 58 [factE 50 hc226k] [3,4,7,8,9,10,11,12,13,14] [(1,0),(2,0),(30,0),(30,1),(30,2),(31,0)] h fun ac wd h => ?_
   obtain ⟨r231,hc232,hD⟩ := oB hD
   obtain ⟨r233,hc234,hD⟩ := oB hD
   have h := h.fz [(30,0),(30,1),(30,2)]
   have hc232k := L_calm_Loads_ok hc232
   have hc234k := L_calm_Loads_ok hc234
   refine ds 64 [factE 59 hc232k,factE 61 hc234k] [3,4,7,8,9,10,11,12,13,14,15,16] [(1,0),(2,0),(31,0)] h fun ac wd h => ?_
   refine wp_seq ?_
   obtain ⟨hb261,hD⟩ := iTe hD
   obtain ⟨hb262,hD⟩ := iTe hD
   obtain ⟨x263,hx264a,hx264b,hx264c,hx264d,hD⟩ := aB hD
   obtain ⟨x265,hx266a,hx266b,hx266c,hx266d,hD⟩ := aB hD
   obtain ⟨hb267,hD⟩ := iTe hD
   obtain ⟨x268,hx269a,hx269b,hx269c,hx269d,hD⟩ := aB hD
   refine dsg 97 [] [none,none,none,none,none,none,none,some (some 70,false),some (some 70,false),some (some 70,false),some (some 70,false),some (some 70,false),none,none,some (some 77,false),some (some 77,false),some (some 77,false),some (some 77,false),some (some 77,false),some (some 77,false),some (some 77,false),some (some 77,false),some (some 77,false),some (some 77,false),some (some 77,false),none,none,some (some 90,false),some (some 90,false),some (some 90,false),some (some 90,false),some (some 90,false),none] [3,4,7,8,9,10,11,12,13,14,96] [(1,0),(2,0),(31,0)] h fun ac wd h => ?_
   obtain ⟨hb271,hD⟩ := iTe hD
   refine kF h ?_
   refine wp_skip ?_
   change Code.wp Try.prog _ _ _ _
   obtain ⟨e291,hE292,hD⟩ := Option.bind_eq_some_iff.1 hD
   refine r_seqJ (fun ac wd => ∃ (b290 : Bool),b290 = e291 ∧ SL ⟨wb,S,Φ,P0⟩ 138 139 [(6,.one (.d (.bool b290)))] [] ac wd) ?_ ?_
   ·
    rcases i2e hE292 with ⟨hb293,hE292⟩ | ⟨hb293,hE292⟩
    ·
     rcases i2e hE292 with ⟨hb309,hE292⟩ | ⟨hb309,hE292⟩
     ·
      rcases i2e hE292 with ⟨hb324,hE292⟩ | ⟨hb324,hE292⟩
      ·
       obtain ⟨r338,hc339,hE292⟩ := oB hE292
       obtain ⟨r340,hc341,hE292⟩ := oB hE292
       rcases i2e hE292 with ⟨hb342,hE292⟩ | ⟨hb342,hE292⟩
       ·
        obtain ⟨r351,hc352,hE292⟩ := oB hE292
        rcases i2b hE292 with ⟨hb353,hE292⟩ | ⟨hb353,hE292⟩
        ·
         obtain ⟨r361,hc362,hE292⟩ := oB hE292
         rcases i2b hE292 with ⟨hb363,hE292⟩ | ⟨hb363,hE292⟩
         ·
          obtain ⟨r366,hc367,hE292⟩ := oB hE292
          have hc339k := L_calm_Way_ok hc339
          have hc341k := L_calm_Way_ok hc341
          have hc352k := L_calm_Over_ok hc352
          have hc362k := L_calm_Over_ok hc362
          have hc367k := L_law14_fixed_ok hc367
          refine deg [factE 112 hc339k,factE 114 hc341k,factE 127 hc352k,factE 132 hc362k,factE 136 hc367k] [none,none,none,none,some (some 100,true),some (some 100,true),some (some 100,true),none,none,some (some 105,true),some (some 105,true),some (some 105,true),none,none,some (some 110,true),some (some 110,true),some (some 110,true),some (some 110,true),some (some 110,true),some (some 110,true),some (some 110,true),some (some 110,true),some (some 110,true),some (some 110,true),some (some 110,true),some (some 110,true),none,none,some (some 124,true),some (some 124,true),some (some 124,true),some (some 124,true),some (some 124,true),some (some 129,false),some (some 129,false),some (some 129,false),some (some 124,true),none,none,some (some 135,true),none,none] [6] [] h fun ac wd h => ?_
          injection hE292 with hE292; subst hE292
          exact ⟨r366,rfl,h.z⟩
         ·
          have hc339k := L_calm_Way_ok hc339
          have hc341k := L_calm_Way_ok hc341
          have hc352k := L_calm_Over_ok hc352
          have hc362k := L_calm_Over_ok hc362
          refine deg [factE 112 hc339k,factE 114 hc341k,factE 127 hc352k,factE 132 hc362k] [none,none,none,none,some (some 100,true),some (some 100,true),some (some 100,true),none,none,some (some 105,true),some (some 105,true),some (some 105,true),none,none,some (some 110,true),some (some 110,true),some (some 110,true),some (some 110,true),some (some 110,true),some (some 110,true),some (some 110,true),some (some 110,true),some (some 110,true),some (some 110,true),some (some 110,true),some (some 110,true),none,none,some (some 124,true),some (some 124,true),some (some 124,true),some (some 124,true),some (some 124,true),some (some 129,false),some (some 129,false),some (some 129,false),some (some 124,true),none,none,some (some 135,true),none,none] [6] [] h fun ac wd h => ?_
          injection hE292 with hE292; subst hE292
          exact ⟨false,rfl,h.z⟩
        ·
         obtain ⟨r368,hc369,hE292⟩ := oB hE292
         have hc339k := L_calm_Way_ok hc339
         have hc341k := L_calm_Way_ok hc341
         have hc352k := L_calm_Over_ok hc352
         have hc369k := L_law14_fixed_ok hc369
         refine deg [factE 112 hc339k,factE 114 hc341k,factE 127 hc352k,factE 136 hc369k] [none,none,none,none,some (some 100,true),some (some 100,true),some (some 100,true),none,none,some (some 105,true),some (some 105,true),some (some 105,true),none,none,some (some 110,true),some (some 110,true),some (some 110,true),some (some 110,true),some (some 110,true),some (some 110,true),some (some 110,true),some (some 110,true),some (some 110,true),some (some 110,true),some (some 110,true),some (some 110,true),none,none,some (some 124,true),some (some 124,true),some (some 124,true),some (some 124,true),some (some 124,true),some (some 129,false),some (some 129,false),some (some 129,false),some (some 124,true),none,none,some (some 135,true),none,none] [6] [] h fun ac wd h => ?_
         injection hE292 with hE292; subst hE292
         exact ⟨r368,rfl,h.z⟩
       ·
        have hc339k := L_calm_Way_ok hc339
        have hc341k := L_calm_Way_ok hc341
        refine deg [factE 112 hc339k,factE 114 hc341k] [none,none,none,none,some (some 100,true),some (some 100,true),some (some 100,true),none,none,some (some 105,true),some (some 105,true),some (some 105,true),none,none,some (some 110,true),some (some 110,true),some (some 110,true),some (some 110,true),some (some 110,true),some (some 110,true),some (some 110,true),some (some 110,true),some (some 110,true),some (some 110,true),some (some 110,true),some (some 110,true),none,none,some (some 124,true),some (some 124,true),some (some 124,true),some (some 124,true),some (some 124,true),some (some 129,false),some (some 129,false),some (some 129,false),some (some 124,true),none,none,some (some 135,true),none,none] [6] [] h fun ac wd h => ?_
        injection hE292 with hE292; subst hE292
        exact ⟨false,rfl,h.z⟩
      ·
       refine deg [] [none,none,none,none,some (some 100,true),some (some 100,true),some (some 100,true),none,none,some (some 105,true),some (some 105,true),some (some 105,true),none,none,some (some 110,true),some (some 110,true),some (some 110,true),some (some 110,true),some (some 110,true),some (some 110,true),some (some 110,true),some (some 110,true),some (some 110,true),some (some 110,true),some (some 110,true),some (some 110,true),none,none,some (some 124,true),some (some 124,true),some (some 124,true),some (some 124,true),some (some 124,true),some (some 129,false),some (some 129,false),some (some 129,false),some (some 124,true),none,none,some (some 135,true),none,none] [6] [] h fun ac wd h => ?_
       injection hE292 with hE292; subst hE292
       exact ⟨false,rfl,h.z⟩
     ·
      refine deg [] [none,none,none,none,some (some 100,true),some (some 100,true),some (some 100,true),none,none,some (some 105,true),some (some 105,true),some (some 105,true),none,none,some (some 110,true),some (some 110,true),some (some 110,true),some (some 110,true),some (some 110,true),some (some 110,true),some (some 110,true),some (some 110,true),some (some 110,true),some (some 110,true),some (some 110,true),some (some 110,true),none,none,some (some 124,true),some (some 124,true),some (some 124,true),some (some 124,true),some (some 124,true),some (some 129,false),some (some 129,false),some (some 129,false),some (some 124,true),none,none,some (some 135,true),none,none] [6] [] h fun ac wd h => ?_
      injection hE292 with hE292; subst hE292
      exact ⟨false,rfl,h.z⟩
    ·
     refine deg [] [none,none,none,none,some (some 100,true),some (some 100,true),some (some 100,true),none,none,some (some 105,true),some (some 105,true),some (some 105,true),none,none,some (some 110,true),some (some 110,true),some (some 110,true),some (some 110,true),some (some 110,true),some (some 110,true),some (some 110,true),some (some 110,true),some (some 110,true),some (some 110,true),some (some 110,true),some (some 110,true),none,none,some (some 124,true),some (some 124,true),some (some 124,true),some (some 124,true),some (some 124,true),some (some 129,false),some (some 129,false),some (some 129,false),some (some 124,true),none,none,some (some 135,true),none,none] [6] [] h fun ac wd h => ?_
     injection hE292 with hE292; subst hE292
     exact ⟨false,rfl,h.z⟩
   ·
    rintro ac wd ⟨b290,rfl,h⟩
    (try dsimp only at hD)
    refine wp_ret ?_
    injection hD with hD
    subst hD
    exact rE h [.tmp 6]

end Go.Proofs.Ytifcbecpemaieaa
