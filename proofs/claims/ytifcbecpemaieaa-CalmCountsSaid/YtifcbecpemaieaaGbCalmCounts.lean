/- Functions as typed ones,and that the program's functions answer as these do. No condition. -/
import Derived.Test.YtifcbecpemaieaaGb2
import Derived.Test.YtifcbecpemaieaaGb6
import Derived.Test.YtifcbecpemaieaaGdCalmCounts
set_option linter.unusedSimpArgs false
set_option linter.unusedVariables false
set_option maxRecDepth 20000
set_option maxHeartbeats 4000000
namespace Go.Proofs.Ytifcbecpemaieaa
open Go.RowKit

theorem L_law14_CalmCounts_ok {a0 : TApp} {a1 : TConf} {r : Bool} (hD : L_law14_CalmCounts a0 a1 = some r) :
  CallH Try.prog 6 [.agg (cTApp a0),.agg (cTConf a1)] []
   (.one (.d (.bool r))) [] := by
 unfold L_law14_CalmCounts at hD
 refine rc Try.func6 rfl Try.ntmps6 fun S Φ P0 wb ac h => ?_
 refine qs 4 [] [2,3] [(1,0),(2,0)] h fun ac wd h => ?_
 obtain ⟨r237,hc238,hD⟩ := oB hD
 have hc238k := L_law05_Cut_ok hc238
 refine qs 7 [factE 5 hc238k] [2,3] [(1,0),(2,0)] h fun ac wd h => ?_
 obtain ⟨r241,hc242,hD⟩ := oB hD
 have hc242k := L_law05_CutConf_ok hc242
 refine qs 10 [factE 8 hc242k] [2,3] [(1,0),(2,0)] h fun ac wd h => ?_
 obtain ⟨r245,hc246,hD⟩ := oB hD
 have hc246k := L_law05_App_ok hc246
 refine qs 14 [factE 11 hc246k] [2,3,5] [(1,0),(2,0),(12,0)] h fun ac wd h => ?_
 refine wp_seq ?_
 obtain ⟨r251,hc252,hD⟩ := oB hD
 obtain ⟨r253,hc254,hD⟩ := oB hD
 have hc252k := L_law05_Ref_ok hc252
 have hc254k := L_ref05_Right_ok hc254
 refine ds 19 [factE 16 hc252k,factE 17 hc254k] [2,3,5,22] [(1,0),(2,0),(12,0)] h fun ac wd h => ?_
 rcases i2b hD with ⟨hb269,hD⟩ | ⟨hb269,hD⟩
 ·
  refine kF h ?_
  refine wp_skip ?_
  change Code.wp Try.prog _ _ _ _
  obtain ⟨r338,hc339,hD⟩ := oB hD
  have hc339k := L_calm_Count_ok hc339
  refine qs 29 [factE 21 hc339k] [2,3,5,6,7,8] [(1,0),(2,0),(12,0)] h fun ac wd h => ?_
  refine qs 31 [] [2,3,5,6,7,8,9] [(1,0),(2,0),(12,0),(29,0)] h fun ac wd h => ?_
  refine wp_seq ?_
  refine qs 32 [] [2,3,5,6,7,8,9,10] [(1,0),(2,0),(12,0),(29,0)] h fun ac wd h => ?_
  obtain ⟨e437,hE438,hD⟩ := Option.bind_eq_some_iff.1 hD
  refine r_meet (fun ac wd => ∃ (l436 : List Int),l436 = e437 ∧ SL ⟨wb,S,Φ,P0⟩ 88 93 [(2,.one (.ptr (1,0) 0)),(3,.one (.ptr (2,0) 0)),(6,.one (.d (.int .i64 r338.1))),(7,.one (.d (.int .i64 r338.2.1))),(8,.one (.d (.int .i64 r338.2.2))),(9,.one (.own (29,0) l436.length))] [((1,0),some (.box 27 [.d (.int .i64 r237.G.N),.d (.sl (List.map eA2I r237.G.Links)),.d (.sl (List.map eTNode r237.T)),.d (.bool r237.Fifo)])),((2,0),some (.box 31 [.d (.sl (List.map eI r241.States)),.d (.sl (List.map (eL eTMsg) r241.Links)),.d (.sl (List.map eI r241.Sent))])),((29,0),some (.row 3 1 (dat (List.map eI l436))))] ac wd) ?_ ?_
  ·
   refine wp_block ?_
   refine r_while (fun nf ac wd => ∃ (n489 : Int) (l490 : List Int),L_law14_CalmCounts_l1 r237 r241 r245 nf n489 l490 = some e437 ∧ SL ⟨wb,S,Φ,P0⟩ 88 88 [(2,.one (.ptr (1,0) 0)),(3,.one (.ptr (2,0) 0)),(5,.one (.ptr (12,0) 0)),(6,.one (.d (.int .i64 r338.1))),(7,.one (.d (.int .i64 r338.2.1))),(8,.one (.d (.int .i64 r338.2.2))),(9,.one (.own (29,0) l490.length)),(10,.one (.d (.int .i64 n489)))] [((1,0),some (.box 27 [.d (.int .i64 r237.G.N),.d (.sl (List.map eA2I r237.G.Links)),.d (.sl (List.map eTNode r237.T)),.d (.bool r237.Fifo)])),((2,0),some (.box 31 [.d (.sl (List.map eI r241.States)),.d (.sl (List.map (eL eTMsg) r241.Links)),.d (.sl (List.map eI r241.Sent))])),((12,0),some (.box 38 [.d (.int .i64 r245.G.N),.d (.sl (List.map eA2I r245.G.Links)),.d (.sl (List.map eTNode r245.T)),.d (.bool r245.Fifo)])),((29,0),some (.row 3 1 (dat (List.map eI l490))))] ac wd) ((r237.G.N - 0).toNat + 1) ⟨0,(([0] ++ [0]) ++ [0]),hE438,h.z⟩ (fun nf ac wd hJ => ?_)
   obtain ⟨n489,l490,hL491,h⟩ := hJ
   cases nf with
   | zero => rw [L_law14_CalmCounts_l1] at hL491; cases hL491
   | succ nf =>
    rw [L_law14_CalmCounts_l1] at hL491
    refine wp_seq ?_
    refine qs 93 [] [2,3,5,6,7,8,9,10,42] [(1,0),(2,0),(12,0),(29,0)] h fun ac wd h => ?_
    rcases i2 hL491 with ⟨hb493,hL491⟩ | ⟨hb493,hL491⟩
    ·
     refine kT h ?_
     refine wp_skip ?_
     change Code.wp Try.prog _ _ _ _
     refine wp_seq ?_
     refine wp_block ?_
     obtain ⟨x514,hx515a,hx515b,hx515c,hx515d,hL491⟩ := aB hL491
     obtain ⟨r516,hc517,hL491⟩ := oB hL491
     have hc517k := L_ref04_At_ok hc517
     refine ds 104 [factE 101 hc517k] [2,3,5,6,7,8,9,10,11] [(1,0),(2,0),(12,0),(29,0)] h fun ac wd h => ?_
     obtain ⟨x518,hx519a,hx519b,hx519c,hx519d,hL491⟩ := aB hL491
     refine qe [] [2,3,5,6,7,8,9,10] [(1,0),(2,0),(12,0),(29,0)] h fun ac wd h => ?_
     change Code.wp Try.prog _ _ _ _
     refine qe [] [2,3,5,6,7,8,9,10] [(1,0),(2,0),(12,0),(29,0)] h fun ac wd h => ?_
     exact ⟨nf,Nat.lt_succ_self nf,(IntKind.wrap .i64 (n489 + 1)),(l490.set r516.Mode.toNat (IntKind.wrap .i64 (x518 + 1))),hL491,h.z⟩
    ·
     refine kF h ?_
     refine wp_exit ?_
     injection hL491 with hL491; subst hL491
     exact ⟨l490,rfl,h.z⟩
  ·
   rintro ac wd ⟨l436,rfl,h⟩
   (try dsimp only at hD)
   obtain ⟨e535,hE536,hD⟩ := Option.bind_eq_some_iff.1 hD
   refine r_seqJ (fun ac wd => ∃ (b534 : Bool),b534 = e535 ∧ SL ⟨wb,S,Φ,P0⟩ 88 119 [(4,.one (.d (.bool b534)))] [] ac wd) ?_ ?_
   ·
    obtain ⟨r537,hc538,hE536⟩ := oB hE536
    rcases i2b hE536 with ⟨hb539,hE536⟩ | ⟨hb539,hE536⟩
    ·
     obtain ⟨r548,hc549,hE536⟩ := oB hE536
     rcases i2e hE536 with ⟨hb550,hE536⟩ | ⟨hb550,hE536⟩
     ·
      obtain ⟨r559,hc560,hE536⟩ := oB hE536
      rcases i2e hE536 with ⟨hb561,hE536⟩ | ⟨hb561,hE536⟩
      ·
       obtain ⟨r564,hc565,hE536⟩ := oB hE536
       have hc538k := L_ref01_Ints_ok hc538
       have hc549k := L_calm_Over_ok hc549
       have hc560k := L_calm_Way_ok hc560
       have hc565k := L_law14_fixed_ok hc565
       refine deg [factE 98 hc538k,factE 102 hc549k,factE 110 hc560k,factE 116 hc565k] [none,none,none,none,none,none,none,some (some 69,true),some (some 69,true),some (some 69,true),some (some 69,true),some (some 69,true),some (some 69,true),some (some 69,true),some (some 69,true),some (some 69,true),some (some 78,true),some (some 78,true),some (some 78,true),some (some 69,true),some (some 69,true),none,none,some (some 85,true),none,none] [4] [] h fun ac wd h => ?_
       injection hE536 with hE536; subst hE536
       exact ⟨r564,rfl,h.z⟩
      ·
       have hc538k := L_ref01_Ints_ok hc538
       have hc549k := L_calm_Over_ok hc549
       have hc560k := L_calm_Way_ok hc560
       refine deg [factE 98 hc538k,factE 102 hc549k,factE 110 hc560k] [none,none,none,none,none,none,none,some (some 69,true),some (some 69,true),some (some 69,true),some (some 69,true),some (some 69,true),some (some 69,true),some (some 69,true),some (some 69,true),some (some 69,true),some (some 78,true),some (some 78,true),some (some 78,true),some (some 69,true),some (some 69,true),none,none,some (some 85,true),none,none] [4] [] h fun ac wd h => ?_
       injection hE536 with hE536; subst hE536
       exact ⟨false,rfl,h.z⟩
     ·
      rcases i2e hE536 with ⟨hb566,hE536⟩ | ⟨hb566,hE536⟩
      ·
       obtain ⟨r569,hc570,hE536⟩ := oB hE536
       have hc538k := L_ref01_Ints_ok hc538
       have hc549k := L_calm_Over_ok hc549
       have hc570k := L_law14_fixed_ok hc570
       refine deg [factE 98 hc538k,factE 102 hc549k,factE 116 hc570k] [none,none,none,none,none,none,none,some (some 69,true),some (some 69,true),some (some 69,true),some (some 69,true),some (some 69,true),some (some 69,true),some (some 69,true),some (some 69,true),some (some 69,true),some (some 78,true),some (some 78,true),some (some 78,true),some (some 69,true),some (some 69,true),none,none,some (some 85,true),none,none] [4] [] h fun ac wd h => ?_
       injection hE536 with hE536; subst hE536
       exact ⟨r569,rfl,h.z⟩
      ·
       have hc538k := L_ref01_Ints_ok hc538
       have hc549k := L_calm_Over_ok hc549
       refine deg [factE 98 hc538k,factE 102 hc549k] [none,none,none,none,none,none,none,some (some 69,true),some (some 69,true),some (some 69,true),some (some 69,true),some (some 69,true),some (some 69,true),some (some 69,true),some (some 69,true),some (some 69,true),some (some 78,true),some (some 78,true),some (some 78,true),some (some 69,true),some (some 69,true),none,none,some (some 85,true),none,none] [4] [] h fun ac wd h => ?_
       injection hE536 with hE536; subst hE536
       exact ⟨false,rfl,h.z⟩
    ·
     have hc538k := L_ref01_Ints_ok hc538
     refine deg [factE 98 hc538k] [none,none,none,none,none,none,none,some (some 69,true),some (some 69,true),some (some 69,true),some (some 69,true),some (some 69,true),some (some 69,true),some (some 69,true),some (some 69,true),some (some 69,true),some (some 78,true),some (some 78,true),some (some 78,true),some (some 69,true),some (some 69,true),none,none,some (some 85,true),none,none] [4] [] h fun ac wd h => ?_
     injection hE536 with hE536; subst hE536
     exact ⟨false,rfl,h.z⟩
   ·
    rintro ac wd ⟨b534,rfl,h⟩
    (try dsimp only at hD)
    refine wp_ret ?_
    injection hD with hD
    subst hD
    exact rE h [.tmp 4]
 ·
  refine kT h ?_
  obtain ⟨r576,hc577,hD⟩ := oB hD
  obtain ⟨hb578,hD⟩ := iFb hD
  obtain ⟨r581,hc582,hD⟩ := oB hD
  have hc577k := L_plain_Right_ok hc577
  have hc582k := L_law14_fixed_ok hc582
  refine qsg 27 [factE 21 hc577k,factE 24 hc582k] [none,none,none,none,none,some (some 27,true),none,none] [4] [] h fun ac wd h => ?_
  refine wp_ret ?_
  injection hD with hD
  subst hD
  exact rE h [.tmp 4]

end Go.Proofs.Ytifcbecpemaieaa
