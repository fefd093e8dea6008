/- Functions as typed ones,and that the program's functions answer as these do. No condition. -/
import Derived.Test.YtifcbecpemaieaaGb9
import Derived.Test.YtifcbecpemaieaaGdKnotStays
set_option linter.unusedSimpArgs false
set_option linter.unusedVariables false
set_option maxRecDepth 20000
set_option maxHeartbeats 4000000
namespace Go.Proofs.Ytifcbecpemaieaa
open Go.RowKit

theorem L_law15_KnotStays_ok {a0 : TApp} {a1 : TConf} {a2 : TWay} {r : Bool} (hD : L_law15_KnotStays a0 a1 a2 = some r) :
  CallH Try.prog 8 [.agg (cTApp a0),.agg (cTConf a1),.agg (cTWay a2)] []
   (.one (.d (.bool r))) [] := by
 unfold L_law15_KnotStays at hD
 refine rc Try.func8 rfl Try.ntmps8 fun S Φ P0 wb ac h => ?_
 refine qs 5 [] [3,4,5] [(1,0),(2,0),(3,0)] h fun ac wd h => ?_
 obtain ⟨r2135,hc2136,hD⟩ := oB hD
 have hc2136k := L_law05_Cut_ok hc2136
 refine qs 8 [factE 6 hc2136k] [3,4,5] [(1,0),(2,0),(3,0)] h fun ac wd h => ?_
 obtain ⟨r2139,hc2140,hD⟩ := oB hD
 have hc2140k := L_law05_CutConf_ok hc2140
 refine qs 11 [factE 9 hc2140k] [3,4,5] [(1,0),(2,0),(3,0)] h fun ac wd h => ?_
 obtain ⟨ha2145,hD⟩ := iT hD
 obtain ⟨ha2146,hD⟩ := iT hD
 obtain ⟨v2147,hv2148,hD⟩ := vB hD
 refine qs 19 [] [3,4,5,7] [(1,0),(2,0),(3,0)] h fun ac wd h => ?_
 refine wp_seq ?_
 obtain ⟨r2155,hc2156,hD⟩ := oB hD
 obtain ⟨r2157,hc2158,hD⟩ := oB hD
 obtain ⟨r2159,hc2160,hD⟩ := oB hD
 have hc2156k := L_law05_App_ok hc2156
 have hc2158k := L_law05_Ref_ok hc2158
 have hc2160k := L_ref05_Right_ok hc2160
 refine ds 25 [factE 20 hc2156k,factE 22 hc2158k,factE 23 hc2160k] [3,4,5,7,32] [(1,0),(2,0),(3,0)] h fun ac wd h => ?_
 rcases i2b hD with ⟨hb2175,hD⟩ | ⟨hb2175,hD⟩
 ·
  refine kF h ?_
  refine wp_skip ?_
  change Code.wp Try.prog _ _ _ _
  obtain ⟨r2938,hc2939,hD⟩ := oB hD
  obtain ⟨r2940,hc2941,hD⟩ := oB hD
  obtain ⟨r2942,hc2943,hD⟩ := oB hD
  have hc2939k := L_knot_Knot_ok hc2939
  have hc2941k := L_knot_Held_ok hc2941
  have hc2943k := L_knot_Ring_ok hc2943
  refine ds 39 [factE 27 hc2939k,factE 31 hc2941k,factE 35 hc2943k] [3,4,5,7,8,9,10] [(1,0),(2,0),(3,0)] h fun ac wd h => ?_
  refine wp_seq ?_
  refine qs 40 [] [3,4,5,7,8,9,10,11] [(1,0),(2,0),(3,0)] h fun ac wd h => ?_
  obtain ⟨e3977,hE3978,hD⟩ := Option.bind_eq_some_iff.1 hD
  refine r_meet (fun ac wd => () = e3977 ∧ SL ⟨wb,S,Φ,P0⟩ 112 223 [] [] ac wd) ?_ ?_
  ·
   refine wp_block ?_
   refine r_while (fun nf ac wd => ∃ (l4664 : List Int) (n4665 : Int) (m4666 : TConf),L_law15_KnotStays_l1 a2 r2135 r2940 r2942 v2147 nf l4664 n4665 m4666 = some e3977 ∧ SL ⟨wb,S,Φ,P0⟩ 112 214 [(3,.one (.ptr (1,0) 0)),(4,.one (.ptr (2,0) 0)),(5,.one (.ptr (3,0) 0)),(7,.one (.d (.sl (List.map eI v2147)))),(8,.one (.d (.sl (List.map eI l4664)))),(9,.one (.d (.bool r2940))),(10,.one (.d (.bool r2942))),(11,.one (.d (.int .i64 n4665)))] [((1,0),some (.box 27 [.d (.int .i64 r2135.G.N),.d (.sl (List.map eA2I r2135.G.Links)),.d (.sl (List.map eTNode r2135.T)),.d (.bool r2135.Fifo)])),((2,0),some (.box 31 (cTConf m4666))),((3,0),some (.box 74 (cTWay a2)))] ac wd) (((a2.Steps.length : Int) - 0).toNat + 1) ⟨r2938,0,r2139,hE3978,h.z⟩ (fun nf ac wd hJ => ?_)
   obtain ⟨l4664,n4665,m4666,hL4667,h⟩ := hJ
   cases nf with
   | zero => rw [L_law15_KnotStays_l1] at hL4667; cases hL4667
   | succ nf =>
    rw [L_law15_KnotStays_l1] at hL4667
    refine wp_seq ?_
    obtain ⟨e4726,hE4727,hL4667⟩ := Option.bind_eq_some_iff.1 hL4667
    refine r_seqJ (fun ac wd => ∃ (b4725 : Bool),b4725 = e4726 ∧ SL ⟨wb,S,Φ,P0⟩ 112 223 [(3,.one (.ptr (1,0) 0)),(4,.one (.ptr (2,0) 0)),(5,.one (.ptr (3,0) 0)),(7,.one (.d (.sl (List.map eI v2147)))),(8,.one (.d (.sl (List.map eI l4664)))),(9,.one (.d (.bool r2940))),(10,.one (.d (.bool r2942))),(11,.one (.d (.int .i64 n4665))),(59,.one (.d (.bool b4725)))] [((1,0),some (.box 27 [.d (.int .i64 r2135.G.N),.d (.sl (List.map eA2I r2135.G.Links)),.d (.sl (List.map eTNode r2135.T)),.d (.bool r2135.Fifo)])),((2,0),some (.box 31 (cTConf m4666))),((3,0),some (.box 74 (cTWay a2)))] ac wd) ?_ ?_
    ·
     rcases i2 hE4727 with ⟨hb4728,hE4727⟩ | ⟨hb4728,hE4727⟩
     ·
      refine qeg [] [none,none,none,none,none,none,some (some 56,true),some (some 56,true),none] [3,4,5,7,8,9,10,11,59] [(1,0),(2,0),(3,0)] h fun ac wd h => ?_
      injection hE4727 with hE4727; subst hE4727
      exact ⟨decide (n4665 < 30),rfl,h.z⟩
     ·
      refine qeg [] [none,none,none,none,none,none,some (some 56,true),some (some 56,true),none] [3,4,5,7,8,9,10,11,59] [(1,0),(2,0),(3,0)] h fun ac wd h => ?_
      injection hE4727 with hE4727; subst hE4727
      exact ⟨false,rfl,h.z⟩
    ·
     rintro ac wd ⟨b4725,rfl,h⟩
     (try dsimp only at hL4667)
     rcases i2b hL4667 with ⟨hb4730,hL4667⟩ | ⟨hb4730,hL4667⟩
     ·
      refine kT h ?_
      refine wp_skip ?_
      change Code.wp Try.prog _ _ _ _
      obtain ⟨e4953,hE4954,hL4667⟩ := Option.bind_eq_some_iff.1 hL4667
      refine r_seqJ (fun ac wd => ∃ (l4951 : List Int) (m4952 : TConf),(l4951,m4952) = e4953 ∧ SL ⟨wb,S,Φ,P0⟩ 112 298 [(3,.one (.ptr (1,0) 0)),(4,.one (.ptr (2,0) 0)),(5,.one (.ptr (3,0) 0)),(7,.one (.d (.sl (List.map eI v2147)))),(8,.one (.d (.sl (List.map eI l4951)))),(9,.one (.d (.bool r2940))),(10,.one (.d (.bool r2942))),(11,.one (.d (.int .i64 n4665)))] [((1,0),some (.box 27 [.d (.int .i64 r2135.G.N),.d (.sl (List.map eA2I r2135.G.Links)),.d (.sl (List.map eTNode r2135.T)),.d (.bool r2135.Fifo)])),((2,0),some (.box 31 (cTConf m4952))),((3,0),some (.box 74 (cTWay a2)))] ac wd) ?_ ?_
      ·
       refine wp_block ?_
       obtain ⟨x4959,hx4960a,hx4960b,hx4960c,hx4960d,hE4954⟩ := aB hE4954
       obtain ⟨r4961,hc4962,hE4954⟩ := oB hE4954
       have hc4962k := L_plain_Apply_ok hc4962
       refine ds 237 [factE 230 hc4962k] [3,4,5,7,8,9,10,11,12,13] [(1,0),(2,0),(3,0),(234,0)] h fun ac wd h => ?_
       refine wp_seq ?_
       refine qs 239 [] [3,4,5,7,8,9,10,11,12,74] [(1,0),(2,0),(3,0),(234,0)] h fun ac wd h => ?_
       rcases i2e hE4954 with ⟨hb4964,hE4954⟩ | ⟨hb4964,hE4954⟩
       ·
        refine kF h ?_
        refine wp_skip ?_
        change Code.wp Try.prog _ _ _ _
        refine qs 241 [] [3,4,5,7,8,9,10,11] [(1,0),(2,0),(3,0)] h fun ac wd h => ?_
        obtain ⟨r5017,hc5018,hE4954⟩ := oB hE4954
        have hc5018k := L_knot_Knot_ok hc5018
        refine qs 245 [factE 243 hc5018k] [3,4,5,7,8,9,10,11,14] [(1,0),(2,0),(3,0)] h fun ac wd h => ?_
        refine wp_seq ?_
        refine qs 246 [] [3,4,5,7,8,9,10,11,14,15] [(1,0),(2,0),(3,0)] h fun ac wd h => ?_
        obtain ⟨e5097,hE5098,hE4954⟩ := Option.bind_eq_some_iff.1 hE4954
        refine r_meet (fun ac wd => () = e5097 ∧ SL ⟨wb,S,Φ,P0⟩ 112 278 [(3,.one (.ptr (1,0) 0)),(4,.one (.ptr (2,0) 0)),(5,.one (.ptr (3,0) 0)),(7,.one (.d (.sl (List.map eI v2147)))),(9,.one (.d (.bool r2940))),(10,.one (.d (.bool r2942))),(11,.one (.d (.int .i64 n4665))),(14,.one (.d (.sl (List.map eI r5017))))] [((1,0),some (.box 27 [.d (.int .i64 r2135.G.N),.d (.sl (List.map eA2I r2135.G.Links)),.d (.sl (List.map eTNode r2135.T)),.d (.bool r2135.Fifo)])),((2,0),some (.box 31 [.d (.sl (List.map eI r4961.1.States)),.d (.sl (List.map (eL eTMsg) r4961.1.Links)),.d (.sl (List.map eI r4961.1.Sent))])),((3,0),some (.box 74 (cTWay a2)))] ac wd) ?_ ?_
        ·
         refine wp_block ?_
         refine r_while (fun nf ac wd => ∃ (n5140 : Int),L_law15_KnotStays_l2 l4664 r5017 nf n5140 = some e5097 ∧ SL ⟨wb,S,Φ,P0⟩ 112 274 [(3,.one (.ptr (1,0) 0)),(4,.one (.ptr (2,0) 0)),(5,.one (.ptr (3,0) 0)),(7,.one (.d (.sl (List.map eI v2147)))),(8,.one (.d (.sl (List.map eI l4664)))),(9,.one (.d (.bool r2940))),(10,.one (.d (.bool r2942))),(11,.one (.d (.int .i64 n4665))),(14,.one (.d (.sl (List.map eI r5017)))),(15,.one (.d (.int .i64 n5140)))] [((1,0),some (.box 27 [.d (.int .i64 r2135.G.N),.d (.sl (List.map eA2I r2135.G.Links)),.d (.sl (List.map eTNode r2135.T)),.d (.bool r2135.Fifo)])),((2,0),some (.box 31 [.d (.sl (List.map eI r4961.1.States)),.d (.sl (List.map (eL eTMsg) r4961.1.Links)),.d (.sl (List.map eI r4961.1.Sent))])),((3,0),some (.box 74 (cTWay a2)))] ac wd) (((l4664.length : Int) - 0).toNat + 1) ⟨0,hE5098,h.z⟩ (fun nf ac wd hJ => ?_)
         obtain ⟨n5140,hL5141,h⟩ := hJ
         cases nf with
         | zero => rw [L_law15_KnotStays_l2] at hL5141; cases hL5141
         | succ nf =>
          rw [L_law15_KnotStays_l2] at hL5141
          refine wp_seq ?_
          refine qs 278 [] [3,4,5,7,8,9,10,11,14,15,82] [(1,0),(2,0),(3,0)] h fun ac wd h => ?_
          rcases i2 hL5141 with ⟨hb5143,hL5141⟩ | ⟨hb5143,hL5141⟩
          ·
           refine kT h ?_
           refine wp_skip ?_
           change Code.wp Try.prog _ _ _ _
           refine wp_seq ?_
           refine wp_block ?_
           obtain ⟨x5162,hx5163a,hx5163b,hx5163c,hx5163d,hL5141⟩ := aB hL5141
           obtain ⟨r5164,hc5165,hL5141⟩ := oB hL5141
           have hc5165k := L_ref04_In_ok hc5165
           refine qs 285 [factE 283 hc5165k] [3,4,5,7,8,9,10,11,14,15,91] [(1,0),(2,0),(3,0)] h fun ac wd h => ?_
           obtain ⟨hb5166,hL5141⟩ := iT hL5141
           refine kF h ?_
           refine wp_skip ?_
           change Code.wp Try.prog _ _ _ _
           refine qe [] [3,4,5,7,8,9,10,11,14,15] [(1,0),(2,0),(3,0)] h fun ac wd h => ?_
           exact ⟨nf,Nat.lt_succ_self nf,(IntKind.wrap .i64 (n5140 + 1)),hL5141,h.z⟩
          ·
           refine kF h ?_
           refine wp_exit ?_
           injection hL5141 with hL5141; subst hL5141
           exact ⟨rfl,h.z⟩
        ·
         rintro ac wd ⟨rfl,h⟩
         (try dsimp only at hE4954)
         refine wp_seq ?_
         obtain ⟨e5180,hE5181,hE4954⟩ := Option.bind_eq_some_iff.1 hE4954
         refine r_seqJ (fun ac wd => ∃ (b5179 : Bool),b5179 = e5180 ∧ SL ⟨wb,S,Φ,P0⟩ 112 296 [(3,.one (.ptr (1,0) 0)),(4,.one (.ptr (2,0) 0)),(5,.one (.ptr (3,0) 0)),(7,.one (.d (.sl (List.map eI v2147)))),(9,.one (.d (.bool r2940))),(10,.one (.d (.bool r2942))),(11,.one (.d (.int .i64 n4665))),(14,.one (.d (.sl (List.map eI r5017)))),(109,.one (.d (.bool b5179)))] [((1,0),some (.box 27 [.d (.int .i64 r2135.G.N),.d (.sl (List.map eA2I r2135.G.Links)),.d (.sl (List.map eTNode r2135.T)),.d (.bool r2135.Fifo)])),((2,0),some (.box 31 [.d (.sl (List.map eI r4961.1.States)),.d (.sl (List.map (eL eTMsg) r4961.1.Links)),.d (.sl (List.map eI r4961.1.Sent))])),((3,0),some (.box 74 (cTWay a2)))] ac wd) ?_ ?_
         ·
          rcases i2b hE5181 with ⟨hb5182,hE5181⟩ | ⟨hb5182,hE5181⟩
          ·
           obtain ⟨r5192,hc5193,hE5181⟩ := oB hE5181
           rcases i2b hE5181 with ⟨hb5194,hE5181⟩ | ⟨hb5194,hE5181⟩
           ·
            rcases i2b hE5181 with ⟨hb5198,hE5181⟩ | ⟨hb5198,hE5181⟩
            ·
             obtain ⟨r5201,hc5202,hE5181⟩ := oB hE5181
             have hc5193k := L_knot_Held_ok hc5193
             have hc5202k := L_knot_Ring_ok hc5202
             refine qeg [factE 283 hc5193k,factE 292 hc5202k] [none,none,some (some 93,true),some (some 93,true),some (some 93,true),some (some 93,true),some (some 93,true),none,none,some (some 100,false),some (some 100,false),some (some 102,true),some (some 102,true),some (some 102,true),some (some 102,true),some (some 102,true),some (some 100,false),none] [3,4,5,7,9,10,11,14,109] [(1,0),(2,0),(3,0)] h fun ac wd h => ?_
             injection hE5181 with hE5181; subst hE5181
             exact ⟨!(r5201),rfl,h.z⟩
            ·
             have hc5193k := L_knot_Held_ok hc5193
             refine qeg [factE 283 hc5193k] [none,none,some (some 93,true),some (some 93,true),some (some 93,true),some (some 93,true),some (some 93,true),none,none,some (some 100,false),some (some 100,false),some (some 102,true),some (some 102,true),some (some 102,true),some (some 102,true),some (some 102,true),some (some 100,false),none] [3,4,5,7,9,10,11,14,109] [(1,0),(2,0),(3,0)] h fun ac wd h => ?_
             injection hE5181 with hE5181; subst hE5181
             exact ⟨false,rfl,h.z⟩
           ·
            have hc5193k := L_knot_Held_ok hc5193
            refine qeg [factE 283 hc5193k] [none,none,some (some 93,true),some (some 93,true),some (some 93,true),some (some 93,true),some (some 93,true),none,none,some (some 100,false),some (some 100,false),some (some 102,true),some (some 102,true),some (some 102,true),some (some 102,true),some (some 102,true),some (some 100,false),none] [3,4,5,7,9,10,11,14,109] [(1,0),(2,0),(3,0)] h fun ac wd h => ?_
            injection hE5181 with hE5181; subst hE5181
            exact ⟨true,rfl,h.z⟩
          ·
           rcases i2b hE5181 with ⟨hb5203,hE5181⟩ | ⟨hb5203,hE5181⟩
           ·
            obtain ⟨r5206,hc5207,hE5181⟩ := oB hE5181
            have hc5207k := L_knot_Ring_ok hc5207
            refine qeg [factE 292 hc5207k] [none,none,some (some 93,true),some (some 93,true),some (some 93,true),some (some 93,true),some (some 93,true),none,none,some (some 100,false),some (some 100,false),some (some 102,true),some (some 102,true),some (some 102,true),some (some 102,true),some (some 102,true),some (some 100,false),none] [3,4,5,7,9,10,11,14,109] [(1,0),(2,0),(3,0)] h fun ac wd h => ?_
            injection hE5181 with hE5181; subst hE5181
            exact ⟨!(r5206),rfl,h.z⟩
           ·
            refine qeg [] [none,none,some (some 93,true),some (some 93,true),some (some 93,true),some (some 93,true),some (some 93,true),none,none,some (some 100,false),some (some 100,false),some (some 102,true),some (some 102,true),some (some 102,true),some (some 102,true),some (some 102,true),some (some 100,false),none] [3,4,5,7,9,10,11,14,109] [(1,0),(2,0),(3,0)] h fun ac wd h => ?_
            injection hE5181 with hE5181; subst hE5181
            exact ⟨false,rfl,h.z⟩
         ·
          rintro ac wd ⟨b5179,rfl,h⟩
          (try dsimp only at hE4954)
          obtain ⟨hb5209,hE4954⟩ := iFb hE4954
          refine kF h ?_
          refine wp_skip ?_
          change Code.wp Try.prog _ _ _ _
          refine qe [] [3,4,5,7,8,9,10,11] [(1,0),(2,0),(3,0)] h fun ac wd h => ?_
          injection hE4954 with hE4954; subst hE4954
          exact ⟨r5017,r4961.1,rfl,h.z⟩
       ·
        refine kT h ?_
        refine wp_exit ?_
        injection hE4954 with hE4954; subst hE4954
        exact ⟨l4664,m4666,rfl,h.z⟩
      ·
       rintro ac wd ⟨l4951,m4952,rfl,h⟩
       (try dsimp only at hL4667)
       refine qe [] [3,4,5,7,8,9,10,11] [(1,0),(2,0),(3,0)] h fun ac wd h => ?_
       exact ⟨nf,Nat.lt_succ_self nf,l4951,(IntKind.wrap .i64 (n4665 + 1)),m4952,hL4667,h.z⟩
     ·
      refine kF h ?_
      refine wp_exit ?_
      injection hL4667 with hL4667; subst hL4667
      exact ⟨rfl,h.z⟩
  ·
   rintro ac wd ⟨rfl,h⟩
   (try dsimp only at hD)
   obtain ⟨r5212,hc5213,hD⟩ := oB hD
   have hc5213k := L_law15_fixed_ok hc5213
   refine qs 225 [factE 223 hc5213k] [6] [] h fun ac wd h => ?_
   refine wp_ret ?_
   injection hD with hD
   subst hD
   exact rE h [.tmp 6]
 ·
  refine kT h ?_
  obtain ⟨r5219,hc5220,hD⟩ := oB hD
  obtain ⟨hb5221,hD⟩ := iFb hD
  obtain ⟨r5224,hc5225,hD⟩ := oB hD
  have hc5220k := L_plain_Right_ok hc5220
  have hc5225k := L_law15_fixed_ok hc5225
  refine qsg 33 [factE 27 hc5220k,factE 30 hc5225k] [none,none,none,none,none,some (some 37,true),none,none] [6] [] h fun ac wd h => ?_
  refine wp_ret ?_
  injection hD with hD
  subst hD
  exact rE h [.tmp 6]

end Go.Proofs.Ytifcbecpemaieaa
