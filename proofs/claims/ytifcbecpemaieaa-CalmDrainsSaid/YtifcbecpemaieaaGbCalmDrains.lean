/- Functions as typed ones,and that the program's functions answer as these do. No condition. -/
import Derived.Test.YtifcbecpemaieaaGb2
import Derived.Test.YtifcbecpemaieaaGb6
import Derived.Test.YtifcbecpemaieaaGb7
import Derived.Test.YtifcbecpemaieaaGdCalmDrains
set_option linter.unusedSimpArgs false
set_option linter.unusedVariables false
set_option maxRecDepth 20000
set_option maxHeartbeats 4000000
namespace Go.Proofs.Ytifcbecpemaieaa
open Go.RowKit

theorem L_law14_CalmDrains_ok {a0 : TApp} {a1 : TConf} {a2 : (List Int)} {r : Bool} (hD : L_law14_CalmDrains a0 a1 a2 = some r) :
  CallH Try.prog 7 [.agg (cTApp a0),.agg (cTConf a1),.one (.d (.sl (List.map e_u16 a2)))] []
   (.one (.d (.bool r))) [] := by
 unfold L_law14_CalmDrains at hD
 refine rc Try.func7 rfl Try.ntmps7 fun S Φ P0 wb ac h => ?_
 refine qs 4 [] [2,3,4] [(1,0),(2,0)] h fun ac wd h => ?_
 obtain ⟨r2192,hc2193,hD⟩ := oB hD
 have hc2193k := L_law05_Cut_ok hc2193
 refine qs 7 [factE 5 hc2193k] [2,3,4] [(1,0),(2,0)] h fun ac wd h => ?_
 obtain ⟨r2196,hc2197,hD⟩ := oB hD
 have hc2197k := L_law05_CutConf_ok hc2197
 refine qs 10 [factE 8 hc2197k] [2,3,4] [(1,0),(2,0)] h fun ac wd h => ?_
 refine wp_seq ?_
 obtain ⟨r2204,hc2205,hD⟩ := oB hD
 obtain ⟨r2206,hc2207,hD⟩ := oB hD
 obtain ⟨r2208,hc2209,hD⟩ := oB hD
 have hc2205k := L_law05_App_ok hc2205
 have hc2207k := L_law05_Ref_ok hc2207
 have hc2209k := L_ref05_Right_ok hc2209
 refine ds 16 [factE 11 hc2205k,factE 13 hc2207k,factE 14 hc2209k] [2,3,4,26] [(1,0),(2,0)] h fun ac wd h => ?_
 rcases i2b hD with ⟨hb2224,hD⟩ | ⟨hb2224,hD⟩
 ·
  refine kF h ?_
  refine wp_skip ?_
  change Code.wp Try.prog _ _ _ _
  obtain ⟨r2979,hc2980,hD⟩ := oB hD
  have hc2980k := L_calm_Way_ok hc2980
  refine qs 19 [factE 17 hc2980k] [2,3,4,7] [(1,0),(2,0)] h fun ac wd h => ?_
  refine wp_seq ?_
  refine qs 20 [] [2,3,4,7,8] [(1,0),(2,0)] h fun ac wd h => ?_
  obtain ⟨e4060,hE4061,hD⟩ := Option.bind_eq_some_iff.1 hD
  refine r_meet (fun ac wd => ∃ (m4059 : TConf),m4059 = e4060 ∧ SL ⟨wb,S,Φ,P0⟩ 150 283 [(3,.one (.ptr (1,0) 0)),(4,.one (.ptr (2,0) 0)),(7,.one (.d (.int .i64 r2979)))] [((1,0),some (.box 27 [.d (.int .i64 r2192.G.N),.d (.sl (List.map eA2I r2192.G.Links)),.d (.sl (List.map eTNode r2192.T)),.d (.bool r2192.Fifo)])),((2,0),some (.box 31 (cTConf m4059)))] ac wd) ?_ ?_
  ·
   refine wp_block ?_
   refine r_while (fun nf ac wd => ∃ (n4752 : Int) (m4753 : TConf),L_law14_CalmDrains_l1 a2 r2192 r2979 nf n4752 m4753 = some e4060 ∧ SL ⟨wb,S,Φ,P0⟩ 150 276 [(2,.one (.d (.sl (List.map e_u16 a2)))),(3,.one (.ptr (1,0) 0)),(4,.one (.ptr (2,0) 0)),(7,.one (.d (.int .i64 r2979))),(8,.one (.d (.int .i64 n4752)))] [((1,0),some (.box 27 [.d (.int .i64 r2192.G.N),.d (.sl (List.map eA2I r2192.G.Links)),.d (.sl (List.map eTNode r2192.T)),.d (.bool r2192.Fifo)])),((2,0),some (.box 31 (cTConf m4753)))] ac wd) ((r2979 - 0).toNat + 1) ⟨0,r2196,hE4061,h.z⟩ (fun nf ac wd hJ => ?_)
   obtain ⟨n4752,m4753,hL4754,h⟩ := hJ
   cases nf with
   | zero => rw [L_law14_CalmDrains_l1] at hL4754; cases hL4754
   | succ nf =>
    rw [L_law14_CalmDrains_l1] at hL4754
    refine wp_seq ?_
    obtain ⟨e4809,hE4810,hL4754⟩ := Option.bind_eq_some_iff.1 hL4754
    refine r_seqJ (fun ac wd => ∃ (b4808 : Bool),b4808 = e4809 ∧ SL ⟨wb,S,Φ,P0⟩ 150 283 [(2,.one (.d (.sl (List.map e_u16 a2)))),(3,.one (.ptr (1,0) 0)),(4,.one (.ptr (2,0) 0)),(7,.one (.d (.int .i64 r2979))),(8,.one (.d (.int .i64 n4752))),(42,.one (.d (.bool b4808)))] [((1,0),some (.box 27 [.d (.int .i64 r2192.G.N),.d (.sl (List.map eA2I r2192.G.Links)),.d (.sl (List.map eTNode r2192.T)),.d (.bool r2192.Fifo)])),((2,0),some (.box 31 (cTConf m4753)))] ac wd) ?_ ?_
    ·
     rcases i2 hE4810 with ⟨hb4811,hE4810⟩ | ⟨hb4811,hE4810⟩
     ·
      refine qeg [] [none,none,none,none,some (some 39,true),some (some 39,true),none] [2,3,4,7,8,42] [(1,0),(2,0)] h fun ac wd h => ?_
      injection hE4810 with hE4810; subst hE4810
      exact ⟨decide (n4752 < 60),rfl,h.z⟩
     ·
      refine qeg [] [none,none,none,none,some (some 39,true),some (some 39,true),none] [2,3,4,7,8,42] [(1,0),(2,0)] h fun ac wd h => ?_
      injection hE4810 with hE4810; subst hE4810
      exact ⟨false,rfl,h.z⟩
    ·
     rintro ac wd ⟨b4808,rfl,h⟩
     (try dsimp only at hL4754)
     rcases i2b hL4754 with ⟨hb4813,hL4754⟩ | ⟨hb4813,hL4754⟩
     ·
      refine kT h ?_
      refine wp_skip ?_
      change Code.wp Try.prog _ _ _ _
      obtain ⟨e5033,hE5034,hL4754⟩ := Option.bind_eq_some_iff.1 hL4754
      refine r_seqJ (fun ac wd => ∃ (m5032 : TConf),m5032 = e5033 ∧ SL ⟨wb,S,Φ,P0⟩ 150 401 [(2,.one (.d (.sl (List.map e_u16 a2)))),(3,.one (.ptr (1,0) 0)),(4,.one (.ptr (2,0) 0)),(7,.one (.d (.int .i64 r2979))),(8,.one (.d (.int .i64 n4752)))] [((1,0),some (.box 27 [.d (.int .i64 r2192.G.N),.d (.sl (List.map eA2I r2192.G.Links)),.d (.sl (List.map eTNode r2192.T)),.d (.bool r2192.Fifo)])),((2,0),some (.box 31 (cTConf m5032)))] ac wd) ?_ ?_
      ·
       refine wp_block ?_
       refine qs 285 [] [2,3,4,7,8,9] [(1,0),(2,0),(283,0)] h fun ac wd h => ?_
       refine wp_seq ?_
       refine qs 286 [] [2,3,4,7,8,9,10] [(1,0),(2,0),(283,0)] h fun ac wd h => ?_
       obtain ⟨e5129,hE5130,hE5034⟩ := Option.bind_eq_some_iff.1 hE5034
       refine r_meet (fun ac wd => ∃ (l5128 : List TStep),l5128 = e5129 ∧ SL ⟨wb,S,Φ,P0⟩ 150 349 [(2,.one (.d (.sl (List.map e_u16 a2)))),(3,.one (.ptr (1,0) 0)),(4,.one (.ptr (2,0) 0)),(7,.one (.d (.int .i64 r2979))),(8,.one (.d (.int .i64 n4752))),(9,.one (.own (283,0) l5128.length))] [((1,0),some (.box 27 [.d (.int .i64 r2192.G.N),.d (.sl (List.map eA2I r2192.G.Links)),.d (.sl (List.map eTNode r2192.T)),.d (.bool r2192.Fifo)])),((2,0),some (.box 31 (cTConf m4753))),((283,0),some (.row 57 5 (dat (List.map eTStep l5128))))] ac wd) ?_ ?_
       ·
        refine wp_block ?_
        refine r_while (fun nf ac wd => ∃ (n5173 : Int) (l5174 : List TStep),L_law14_CalmDrains_l2 m4753 nf n5173 l5174 = some e5129 ∧ SL ⟨wb,S,Φ,P0⟩ 150 344 [(2,.one (.d (.sl (List.map e_u16 a2)))),(3,.one (.ptr (1,0) 0)),(4,.one (.ptr (2,0) 0)),(7,.one (.d (.int .i64 r2979))),(8,.one (.d (.int .i64 n4752))),(9,.one (.own (283,0) l5174.length)),(10,.one (.d (.int .i64 n5173)))] [((1,0),some (.box 27 [.d (.int .i64 r2192.G.N),.d (.sl (List.map eA2I r2192.G.Links)),.d (.sl (List.map eTNode r2192.T)),.d (.bool r2192.Fifo)])),((2,0),some (.box 31 (cTConf m4753))),((283,0),some (.row 57 5 (dat (List.map eTStep l5174))))] ac wd) (((m4753.Links.length : Int) - 0).toNat + 1) ⟨0,([] : List TStep),hE5130,h.z⟩ (fun nf ac wd hJ => ?_)
        obtain ⟨n5173,l5174,hL5175,h⟩ := hJ
        cases nf with
        | zero => rw [L_law14_CalmDrains_l2] at hL5175; cases hL5175
        | succ nf =>
         rw [L_law14_CalmDrains_l2] at hL5175
         refine wp_seq ?_
         refine qs 349 [] [2,3,4,7,8,9,10,50] [(1,0),(2,0),(283,0)] h fun ac wd h => ?_
         rcases i2 hL5175 with ⟨hb5177,hL5175⟩ | ⟨hb5177,hL5175⟩
         ·
          refine kT h ?_
          refine wp_skip ?_
          change Code.wp Try.prog _ _ _ _
          obtain ⟨e5193,hE5194,hL5175⟩ := Option.bind_eq_some_iff.1 hL5175
          refine r_seqJ (fun ac wd => ∃ (l5192 : List TStep),l5192 = e5193 ∧ SL ⟨wb,S,Φ,P0⟩ 150 370 [(2,.one (.d (.sl (List.map e_u16 a2)))),(3,.one (.ptr (1,0) 0)),(4,.one (.ptr (2,0) 0)),(7,.one (.d (.int .i64 r2979))),(8,.one (.d (.int .i64 n4752))),(9,.one (.own (368,0) l5192.length)),(10,.one (.d (.int .i64 n5173)))] [((1,0),some (.box 27 [.d (.int .i64 r2192.G.N),.d (.sl (List.map eA2I r2192.G.Links)),.d (.sl (List.map eTNode r2192.T)),.d (.bool r2192.Fifo)])),((2,0),some (.box 31 (cTConf m4753))),((368,0),some (.row 57 5 (dat (List.map eTStep l5192))))] ac wd) ?_ ?_
          ·
           refine wp_block ?_
           obtain ⟨x5197,hx5198a,hx5198b,hx5198c,hx5198d,hE5194⟩ := aB hE5194
           refine qs 356 [] [2,3,4,7,8,9,10,59] [(1,0),(2,0),(283,0)] h fun ac wd h => ?_
           rcases i2 hE5194 with ⟨hb5199,hE5194⟩ | ⟨hb5199,hE5194⟩
           ·
            refine kT h ?_
            obtain ⟨x5203,hx5204a,hx5204b,hx5204c,hx5204d,hE5194⟩ := aN 0 hE5194
            obtain ⟨ha5205,hE5194⟩ := iT hE5194
            refine qe [] [2,3,4,7,8,9,10] [(1,0),(2,0),(368,0)] h fun ac wd h => ?_
            injection hE5194 with hE5194; subst hE5194
            exact ⟨(l5174 ++ [(TStep.mk 1 0 0 n5173 x5203.Seq)]),rfl,h.z⟩
           ·
            refine kF h ?_
            refine wp_skip ?_
            have h := h.sw (368,0) (283,0) 370
            injection hE5194 with hE5194; subst hE5194
            exact ⟨l5174,rfl,h.z⟩
          ·
           rintro ac wd ⟨l5192,rfl,h⟩
           (try dsimp only at hL5175)
           refine qe [] [2,3,4,7,8,9,10] [(1,0),(2,0),(368,0)] h fun ac wd h => ?_
           have h := h.sw (283,0) (368,0) 373
           exact ⟨nf,Nat.lt_succ_self nf,(IntKind.wrap .i64 (n5173 + 1)),l5192,hL5175,h.z⟩
         ·
          refine kF h ?_
          refine wp_exit ?_
          injection hL5175 with hL5175; subst hL5175
          exact ⟨l5174,rfl,h.z⟩
       ·
        rintro ac wd ⟨l5128,rfl,h⟩
        (try dsimp only at hE5034)
        refine wp_seq ?_
        refine qs 352 [] [2,3,4,7,8,9,75] [(1,0),(2,0),(283,0)] h fun ac wd h => ?_
        obtain ⟨hb5207,hE5034⟩ := iF hE5034
        refine kF h ?_
        refine wp_skip ?_
        change Code.wp Try.prog _ _ _ _
        refine qs 353 [] [2,3,4,7,8,9,11] [(1,0),(2,0),(283,0)] h fun ac wd h => ?_
        refine wp_seq ?_
        refine qs 357 [] [2,3,4,7,8,9,11,79] [(1,0),(2,0),(283,0)] h fun ac wd h => ?_
        obtain ⟨e5244,hE5245,hE5034⟩ := Option.bind_eq_some_iff.1 hE5034
        refine r_meet (fun ac wd => ∃ (n5243 : Int),n5243 = e5244 ∧ SL ⟨wb,S,Φ,P0⟩ 150 366 [(2,.one (.d (.sl (List.map e_u16 a2)))),(3,.one (.ptr (1,0) 0)),(4,.one (.ptr (2,0) 0)),(7,.one (.d (.int .i64 r2979))),(8,.one (.d (.int .i64 n4752))),(9,.one (.own (283,0) l5128.length)),(11,.one (.d (.int .i64 n5243)))] [((1,0),some (.box 27 [.d (.int .i64 r2192.G.N),.d (.sl (List.map eA2I r2192.G.Links)),.d (.sl (List.map eTNode r2192.T)),.d (.bool r2192.Fifo)])),((2,0),some (.box 31 (cTConf m4753))),((283,0),some (.row 57 5 (dat (List.map eTStep l5128))))] ac wd) ?_ ?_
        ·
         rcases i2 hE5245 with ⟨hb5246,hE5245⟩ | ⟨hb5246,hE5245⟩
         ·
          refine kT h ?_
          obtain ⟨x5250,hx5251a,hx5251b,hx5251c,hx5251d,hE5245⟩ := aB hE5245
          obtain ⟨ha5252,hE5245⟩ := iT hE5245
          refine qe [] [2,3,4,7,8,9,11] [(1,0),(2,0),(283,0)] h fun ac wd h => ?_
          injection hE5245 with hE5245; subst hE5245
          exact ⟨((IntKind.wrap .i64 x5250).tmod (l5128.length : Int)),rfl,h.z⟩
         ·
          refine kF h ?_
          refine wp_skip ?_
          injection hE5245 with hE5245; subst hE5245
          exact ⟨0,rfl,h.z⟩
        ·
         rintro ac wd ⟨n5243,rfl,h⟩
         (try dsimp only at hE5034)
         obtain ⟨x5257,hx5258a,hx5258b,hx5258c,hx5258d,hE5034⟩ := aB hE5034
         obtain ⟨r5259,hc5260,hE5034⟩ := oB hE5034
         have hc5260k := L_plain_Apply_ok hc5260
         refine ds 379 [factE 372 hc5260k] [2,3,4,7,8,12,13] [(1,0),(2,0),(376,0)] h fun ac wd h => ?_
         refine wp_seq ?_
         obtain ⟨hb5266,hE5034⟩ := iTe hE5034
         obtain ⟨r5267,hc5268,hE5034⟩ := oB hE5034
         obtain ⟨hb5269,hE5034⟩ := iTe hE5034
         have hc5268k := L_calm_Way_ok hc5268
         refine qsg 399 [factE 383 hc5268k] [none,none,none,some (some 100,false),some (some 100,false),some (some 100,false),some (some 100,false),some (some 100,false),some (some 100,false),some (some 100,false),none,none,some (some 109,false),some (some 109,false),some (some 109,false),some (some 109,false),some (some 109,false),some (some 109,false),some (some 109,false),none] [2,3,4,7,8,12,117] [(1,0),(2,0),(376,0)] h fun ac wd h => ?_
         obtain ⟨hb5271,hE5034⟩ := iTe hE5034
         refine kF h ?_
         refine wp_skip ?_
         change Code.wp Try.prog _ _ _ _
         refine qe [] [2,3,4,7,8] [(1,0),(2,0)] h fun ac wd h => ?_
         injection hE5034 with hE5034; subst hE5034
         exact ⟨r5259.1,rfl,h.z⟩
      ·
       rintro ac wd ⟨m5032,rfl,h⟩
       (try dsimp only at hL4754)
       refine qe [] [2,3,4,7,8] [(1,0),(2,0)] h fun ac wd h => ?_
       exact ⟨nf,Nat.lt_succ_self nf,(IntKind.wrap .i64 (n4752 + 1)),m5032,hL4754,h.z⟩
     ·
      refine kF h ?_
      refine wp_exit ?_
      injection hL4754 with hL4754; subst hL4754
      exact ⟨m4753,rfl,h.z⟩
  ·
   rintro ac wd ⟨m4059,rfl,h⟩
   (try dsimp only at hD)
   obtain ⟨r5274,hc5275,hD⟩ := oB hD
   have hc5275k := L_calm_Loads_ok hc5275
   refine qs 287 [factE 284 hc5275k] [3,7,14,15] [(1,0)] h fun ac wd h => ?_
   refine wp_seq ?_
   refine qs 288 [] [3,7,14,15,16] [(1,0)] h fun ac wd h => ?_
   obtain ⟨e5307,hE5308,hD⟩ := Option.bind_eq_some_iff.1 hD
   refine r_meet (fun ac wd => ∃ (n5306 : Int),n5306 = e5307 ∧ SL ⟨wb,S,Φ,P0⟩ 150 320 [(3,.one (.ptr (1,0) 0)),(7,.one (.d (.int .i64 r2979))),(14,.one (.d (.int .i64 n5306))),(15,.one (.d (.sl (List.map eI r5274))))] [((1,0),some (.box 27 [.d (.int .i64 r2192.G.N),.d (.sl (List.map eA2I r2192.G.Links)),.d (.sl (List.map eTNode r2192.T)),.d (.bool r2192.Fifo)]))] ac wd) ?_ ?_
   ·
    refine wp_block ?_
    refine r_while (fun nf ac wd => ∃ (n5323 : Int) (n5324 : Int),L_law14_CalmDrains_l3 r5274 nf n5323 n5324 = some e5307 ∧ SL ⟨wb,S,Φ,P0⟩ 150 316 [(3,.one (.ptr (1,0) 0)),(7,.one (.d (.int .i64 r2979))),(14,.one (.d (.int .i64 n5323))),(15,.one (.d (.sl (List.map eI r5274)))),(16,.one (.d (.int .i64 n5324)))] [((1,0),some (.box 27 [.d (.int .i64 r2192.G.N),.d (.sl (List.map eA2I r2192.G.Links)),.d (.sl (List.map eTNode r2192.T)),.d (.bool r2192.Fifo)]))] ac wd) (((r5274.length : Int) - 0).toNat + 1) ⟨0,0,hE5308,h.z⟩ (fun nf ac wd hJ => ?_)
    obtain ⟨n5323,n5324,hL5325,h⟩ := hJ
    cases nf with
    | zero => rw [L_law14_CalmDrains_l3] at hL5325; cases hL5325
    | succ nf =>
     rw [L_law14_CalmDrains_l3] at hL5325
     refine wp_seq ?_
     refine qs 320 [] [3,7,14,15,16,124] [(1,0)] h fun ac wd h => ?_
     rcases i2 hL5325 with ⟨hb5327,hL5325⟩ | ⟨hb5327,hL5325⟩
     ·
      refine kT h ?_
      refine wp_skip ?_
      change Code.wp Try.prog _ _ _ _
      refine wp_seq ?_
      refine wp_block ?_
      obtain ⟨x5332,hx5333a,hx5333b,hx5333c,hx5333d,hL5325⟩ := aB hL5325
      refine qe [] [3,7,14,15,16] [(1,0)] h fun ac wd h => ?_
      change Code.wp Try.prog _ _ _ _
      refine qe [] [3,7,14,15,16] [(1,0)] h fun ac wd h => ?_
      exact ⟨nf,Nat.lt_succ_self nf,(IntKind.wrap .i64 (n5323 + x5332)),(IntKind.wrap .i64 (n5324 + 1)),hL5325,h.z⟩
     ·
      refine kF h ?_
      refine wp_exit ?_
      injection hL5325 with hL5325; subst hL5325
      exact ⟨n5323,rfl,h.z⟩
   ·
    rintro ac wd ⟨n5306,rfl,h⟩
    (try dsimp only at hD)
    obtain ⟨hb5338,hD⟩ := iTe hD
    obtain ⟨hb5339,hD⟩ := iTe hD
    obtain ⟨r5340,hc5341,hD⟩ := oB hD
    have hc5341k := L_law14_fixed_ok hc5341
    refine qsg 338 [factE 335 hc5341k] [none,none,none,none,none,none,some (some 138,true),some (some 138,true),some (some 138,true),some (some 138,true),some (some 138,true),some (some 138,true),some (some 138,true),none,none,some (some 147,true),none,none] [6] [] h fun ac wd h => ?_
    refine wp_ret ?_
    injection hD with hD
    subst hD
    exact rE h [.tmp 6]
 ·
  refine kT h ?_
  obtain ⟨r5347,hc5348,hD⟩ := oB hD
  obtain ⟨hb5349,hD⟩ := iFb hD
  obtain ⟨r5352,hc5353,hD⟩ := oB hD
  have hc5348k := L_plain_Right_ok hc5348
  have hc5353k := L_law14_fixed_ok hc5353
  refine qsg 24 [factE 18 hc5348k,factE 21 hc5353k] [none,none,none,none,none,some (some 31,true),none,none] [6] [] h fun ac wd h => ?_
  refine wp_ret ?_
  injection hD with hD
  subst hD
  exact rE h [.tmp 6]

end Go.Proofs.Ytifcbecpemaieaa
