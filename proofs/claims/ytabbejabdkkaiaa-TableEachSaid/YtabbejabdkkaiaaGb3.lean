/- Functions as typed ones,and that the program's functions answer as these do. No condition. -/
import Derived.Test.YtabbejabdkkaiaaGb2
import Derived.Test.YtabbejabdkkaiaaGd
set_option linter.unusedSimpArgs false
set_option linter.unusedVariables false
set_option maxRecDepth 20000
set_option maxHeartbeats 4000000
namespace Go.Proofs.Ytabbejabdkkaiaa
open Go.RowKit

theorem L_graph_Find_ok {a0 : TGraph} {a1 : Int} {a2 : Int} {r : Int} (hD : L_graph_Find a0 a1 a2 = some r) :
  CallH Try.prog 114 [.agg (cTGraph a0),.one (.d (.int .i64 a1)),.one (.d (.int .i64 a2))] []
   (.one (.d (.int .i64 r))) [] := by
 unfold L_graph_Find at hD
 refine rc Try.func114 rfl Try.ntmps114 fun S Φ P0 wb ac h => ?_
 refine qs 3 [] [1,2,3] [(1,0)] h fun ac wd h => ?_
 refine qs 8 [] [3,7] [(1,0),(6,0)] h fun ac wd h => ?_
 refine wp_seq ?_
 refine qs 12 [] [7,14,15,16] [(6,0)] h fun ac wd h => ?_
 refine wp_block ?_
 refine r_while (fun nf ac wd => ∃ (aa : Int),L_graph_Find_l1 a0 a1 a2 nf aa = some r ∧ SL ⟨wb,S,Φ,P0⟩ 26 36 [(7,.one (.ptr (6,0) 0)),(14,.one (.d (.sl (List.map eA2I a0.Links)))),(15,.one (.d (.int .i64 (a0.Links.length : Int)))),(16,.one (.d (.int .i64 aa)))] [((6,0),some (.box 126 [.d (.int .i64 a1),.d (.int .i64 a2)]))] ac wd) (((a0.Links.length : Int) - 0).toNat + 1) ⟨0,hD,h.z⟩ (fun nf ac wd hJ => ?_)
 obtain ⟨aa,ab,h⟩ := hJ
 cases nf with
 | zero => rw [L_graph_Find_l1] at ab; cases ab
 | succ nf =>
  rw [L_graph_Find_l1] at ab
  refine qs 37 [] [7,14,15,16,17] [(6,0)] h fun ac wd h => ?_
  refine wp_seq ?_
  rcases i2 ab with ⟨ad,ab⟩ | ⟨ad,ab⟩
  ·
   refine kT h ?_
   refine wp_skip ?_
   change Code.wp Try.prog _ _ _ _
   refine wp_seq ?_
   refine wp_block ?_
   obtain ⟨ae,af,ag,ah,ai,ab⟩ := aB ab
   refine qs 43 [] [7,8,9,14,15,16] [(6,0),(40,0)] h fun ac wd h => ?_
   have aj := eq_A2I_vm ae a1 a2
   refine qs 46 [] [7,8,14,15,16,23] [(6,0)] h fun ac wd h => ?_
   rcases i2e ab with ⟨ak,ab⟩ | ⟨ak,ab⟩
   ·
    refine kT h ?_
    refine qs 48 [] [6] [] h fun ac wd h => ?_
    refine wp_ret ?_
    injection ab with ab
    subst ab
    exact rE h [.tmp 6]
   ·
    refine kF h ?_
    refine wp_skip ?_
    change Code.wp Try.prog _ _ _ _
    refine qe [] [7,14,15,16] [(6,0)] h fun ac wd h => ?_
    exact ⟨nf,Nat.lt_succ_self nf,(IntKind.wrap .i64 (aa + 1)),ab,h.z⟩
  ·
   refine kF h ?_
   refine wp_exit ?_
   change Code.wp Try.prog _ _ _ _
   refine qs 38 [] [6] [] h fun ac wd h => ?_
   refine wp_ret ?_
   injection ab with ab
   subst ab
   exact rE h [.tmp 6]

theorem L_table_place_in_ok {a0 : TPlace} {a1 : Int} {r : Bool} (hD : L_table_place_in a0 a1 = some r) :
  CallH Try.prog 124 [.agg (cTPlace a0),.one (.d (.int .i64 a1))] []
   (.one (.d (.bool r))) [] := by
 unfold L_table_place_in at hD
 refine rc Try.func124 rfl Try.ntmps124 fun S Φ P0 wb ac h => ?_
 refine qs 3 [] [1,2] [(1,0)] h fun ac wd h => ?_
 obtain ⟨r7,ab,hD⟩ := oB hD
 have ad := L_graph_Find_ok ab
 refine qs 11 [factE 8 ad] [4] [] h fun ac wd h => ?_
 refine wp_ret ?_
 injection hD with hD
 subst hD
 exact rE h [.tmp 4]

theorem L_table_place_waits_ok {a0 : TPlace} {r : Bool} (hD : L_table_place_waits a0 = some r) :
  CallH Try.prog 101 [.agg (cTPlace a0)] []
   (.one (.d (.bool r))) [] := by
 unfold L_table_place_waits at hD
 refine rc Try.func101 rfl Try.ntmps101 fun S Φ P0 wb ac h => ?_
 refine qs 3 [] [1] [(1,0)] h fun ac wd h => ?_
 refine wp_seq ?_
 refine qs 7 [] [1,8] [(1,0)] h fun ac wd h => ?_
 rcases i2e hD with ⟨aa,hD⟩ | ⟨aa,hD⟩
 ·
  refine kF h ?_
  refine wp_skip ?_
  change Code.wp Try.prog _ _ _ _
  refine wp_seq ?_
  refine qs 12 [] [1,16,17,18] [(1,0)] h fun ac wd h => ?_
  refine wp_block ?_
  refine r_while (fun nf ac wd => ∃ (ab : Int),L_table_place_waits_l1 a0 nf ab = some r ∧ SL ⟨wb,S,Φ,P0⟩ 48 66 [(1,.one (.ptr (1,0) 0)),(16,.one (.d (.sl (List.map eI a0.State.Waits)))),(17,.one (.d (.int .i64 (a0.State.Waits.length : Int)))),(18,.one (.d (.int .i64 ab)))] [((1,0),some (.box 139 (cTPlace a0)))] ac wd) (((a0.State.Waits.length : Int) - 0).toNat + 1) ⟨0,hD,h.z⟩ (fun nf ac wd hJ => ?_)
  obtain ⟨ab,ad,h⟩ := hJ
  cases nf with
  | zero => rw [L_table_place_waits_l1] at ad; cases ad
  | succ nf =>
   rw [L_table_place_waits_l1] at ad
   refine qs 67 [] [1,16,17,18,19] [(1,0)] h fun ac wd h => ?_
   refine wp_seq ?_
   rcases i2 ad with ⟨ae,ad⟩ | ⟨ae,ad⟩
   ·
    refine kT h ?_
    refine wp_skip ?_
    change Code.wp Try.prog _ _ _ _
    refine wp_seq ?_
    refine wp_block ?_
    obtain ⟨af,ag,ah,ai,aj,ad⟩ := aB ad
    refine qs 72 [] [1,3,4,16,17,18] [(1,0)] h fun ac wd h => ?_
    obtain ⟨ak,al,ad⟩ := Option.bind_eq_some_iff.1 ad
    refine r_seqJ (fun ac wd => ∃ (am : Bool),am = ak ∧ SL ⟨wb,S,Φ,P0⟩ 48 91 [(1,.one (.ptr (1,0) 0)),(16,.one (.d (.sl (List.map eI a0.State.Waits)))),(17,.one (.d (.int .i64 (a0.State.Waits.length : Int)))),(18,.one (.d (.int .i64 ab))),(41,.one (.d (.bool am)))] [((1,0),some (.box 139 (cTPlace a0)))] ac wd) ?_ ?_
    ·
     obtain ⟨an,ao,al⟩ := oB al
     rcases i2b al with ⟨ap,al⟩ | ⟨ap,al⟩
     ·
      rcases i2 al with ⟨aq,al⟩ | ⟨aq,al⟩
      ·
       obtain ⟨ar,au,av,aw,ax,al⟩ := aB al
       have ay := L_table_place_in_ok ao
       refine qeg [factE 74 ay] [none,none,none,none,none,some (some 27,false),some (some 27,false),some (some 27,false),some (some 30,true),some (some 30,true),some (some 30,true),some (some 30,true),some (some 30,true),some (some 30,true),some (some 30,true),some (some 30,true),some (some 30,true),some (some 27,false),none] [1,16,17,18,41] [(1,0)] h fun ac wd h => ?_
       injection al with al; subst al
       exact ⟨decide (ar ≥ af),rfl,h.z⟩
      ·
       have ay := L_table_place_in_ok ao
       refine qeg [factE 74 ay] [none,none,none,none,none,some (some 27,false),some (some 27,false),some (some 27,false),some (some 30,true),some (some 30,true),some (some 30,true),some (some 30,true),some (some 30,true),some (some 30,true),some (some 30,true),some (some 30,true),some (some 30,true),some (some 27,false),none] [1,16,17,18,41] [(1,0)] h fun ac wd h => ?_
       injection al with al; subst al
       exact ⟨false,rfl,h.z⟩
     ·
      have ay := L_table_place_in_ok ao
      refine qeg [factE 74 ay] [none,none,none,none,none,some (some 27,false),some (some 27,false),some (some 27,false),some (some 30,true),some (some 30,true),some (some 30,true),some (some 30,true),some (some 30,true),some (some 30,true),some (some 30,true),some (some 30,true),some (some 30,true),some (some 27,false),none] [1,16,17,18,41] [(1,0)] h fun ac wd h => ?_
      injection al with al; subst al
      exact ⟨true,rfl,h.z⟩
    ·
     rintro ac wd ⟨am,rfl,h⟩
     (try dsimp only at ad)
     rcases i2b ad with ⟨az,ad⟩ | ⟨az,ad⟩
     ·
      refine kT h ?_
      refine qs 92 [] [2] [] h fun ac wd h => ?_
      refine wp_ret ?_
      injection ad with ad
      subst ad
      exact rE h [.tmp 2]
     ·
      refine kF h ?_
      refine wp_skip ?_
      change Code.wp Try.prog _ _ _ _
      refine qe [] [1,16,17,18] [(1,0)] h fun ac wd h => ?_
      exact ⟨nf,Nat.lt_succ_self nf,(IntKind.wrap .i64 (ab + 1)),ad,h.z⟩
   ·
    refine kF h ?_
    refine wp_exit ?_
    change Code.wp Try.prog _ _ _ _
    refine qs 73 [] [2] [] h fun ac wd h => ?_
    refine wp_ret ?_
    injection ad with ad
    subst ad
    exact rE h [.tmp 2]
 ·
  refine kT h ?_
  refine qs 13 [] [2] [] h fun ac wd h => ?_
  refine wp_ret ?_
  injection hD with hD
  subst hD
  exact rE h [.tmp 2]

theorem L_table_place_state_ok {a0 : TPlace} {a1 : Int} {r : Bool} (hD : L_table_place_state a0 a1 = some r) :
  CallH Try.prog 127 [.agg (cTPlace a0),.one (.d (.int .i64 a1))] []
   (.one (.d (.bool r))) [] := by
 unfold L_table_place_state at hD
 refine rc Try.func127 rfl Try.ntmps127 fun S Φ P0 wb ac h => ?_
 refine qs 3 [] [1,2] [(1,0)] h fun ac wd h => ?_
 obtain ⟨e8,ab,hD⟩ := Option.bind_eq_some_iff.1 hD
 refine r_seqJ (fun ac wd => ∃ (b7 : Bool),b7 = e8 ∧ SL ⟨wb,S,Φ,P0⟩ 15 14 [(4,.one (.d (.bool b7)))] [] ac wd) ?_ ?_
 ·
  rcases i2 ab with ⟨ae,ab⟩ | ⟨ae,ab⟩
  ·
   refine qeg [] [none,none,none,some (some 7,true),some (some 7,true),some (some 7,true),some (some 7,true),some (some 7,true),some (some 7,true),none,none] [4] [] h fun ac wd h => ?_
   injection ab with ab; subst ab
   exact ⟨decide (a1 < (a0.node.States.length : Int)),rfl,h.z⟩
  ·
   refine qeg [] [none,none,none,some (some 7,true),some (some 7,true),some (some 7,true),some (some 7,true),some (some 7,true),some (some 7,true),none,none] [4] [] h fun ac wd h => ?_
   injection ab with ab; subst ab
   exact ⟨false,rfl,h.z⟩
 ·
  rintro ac wd ⟨b7,rfl,h⟩
  (try dsimp only at hD)
  refine wp_ret ?_
  injection hD with hD
  subst hD
  exact rE h [.tmp 4]

theorem L_table_letter_ok {a0 : Int} {r : Bool} (hD : L_table_letter a0 = some r) :
  CallH Try.prog 126 [.one (.d (.int .i64 a0))] []
   (.one (.d (.bool r))) [] := by
 unfold L_table_letter at hD
 refine rc Try.func126 rfl Try.ntmps126 fun S Φ P0 wb ac h => ?_
 refine qs 2 [] [0] [] h fun ac wd h => ?_
 obtain ⟨e8,ab,hD⟩ := Option.bind_eq_some_iff.1 hD
 refine r_seqJ (fun ac wd => ∃ (b7 : Bool),b7 = e8 ∧ SL ⟨wb,S,Φ,P0⟩ 9 9 [(2,.one (.d (.bool b7)))] [] ac wd) ?_ ?_
 ·
  rcases i2 ab with ⟨ae,ab⟩ | ⟨ae,ab⟩
  ·
   refine qeg [] [none,none,none,some (some 5,true),some (some 5,true),none,none] [2] [] h fun ac wd h => ?_
   injection ab with ab; subst ab
   exact ⟨decide (a0 < 4),rfl,h.z⟩
  ·
   refine qeg [] [none,none,none,some (some 5,true),some (some 5,true),none,none] [2] [] h fun ac wd h => ?_
   injection ab with ab; subst ab
   exact ⟨false,rfl,h.z⟩
 ·
  rintro ac wd ⟨b7,rfl,h⟩
  (try dsimp only at hD)
  refine wp_ret ?_
  injection hD with hD
  subst hD
  exact rE h [.tmp 2]

theorem L_table_place_picks_1_own {a0 : TSend} {a1 : TPlace} {r : Bool × TPlace} (hD : L_table_place_picks_1 a0 a1 = some r) :
  CallH Try.prog 125 [.agg (cTSend a0),.one (.ptr (0,0) 0)] [((0,0),some (.box 139 (cTPlace a1)))]
   (.one (.d (.bool r.1))) [((0,0),some (.box 139 (cTPlace r.2)))] := by
 unfold L_table_place_picks_1 at hD
 refine rc Try.func125 rfl Try.ntmps125 fun S Φ P0 wb ac h => ?_
 refine qs 3 [] [1,2] [(0,0),(1,0)] h fun ac wd h => ?_
 obtain ⟨aa,ab,hD⟩ := Option.bind_eq_some_iff.1 hD
 refine r_seqJ (fun ac wd => ∃ (ad : Bool),ad = aa ∧ SL ⟨wb,S,Φ,P0⟩ 18 18 [(3,.one (.d (.bool ad)))] [((0,0),some (.box 139 (cTPlace a1)))] ac wd) ?_ ?_
 ·
  obtain ⟨ae,af,ab⟩ := oB ab
  rcases i2 ab with ⟨ag,ab⟩ | ⟨ag,ab⟩
  ·
   have ah := L_graph_Find_ok af
   refine qeg [factE 9 ah] [none,none,none,none,none,none,none,none,none,some (some 12,false),some (some 12,false),some (some 12,false),some (some 12,false),none,none] [3] [(0,0)] h fun ac wd h => ?_
   injection ab with ab; subst ab
   exact ⟨true,rfl,h.z⟩
  ·
   obtain ⟨ai,aj,ab⟩ := oB ab
   have ah := L_graph_Find_ok af
   have ak := L_table_letter_ok aj
   refine qeg [factE 9 ah,factE 14 ak] [none,none,none,none,none,none,none,none,none,some (some 12,false),some (some 12,false),some (some 12,false),some (some 12,false),none,none] [3] [(0,0)] h fun ac wd h => ?_
   injection ab with ab; subst ab
   exact ⟨!(ai),rfl,h.z⟩
 ·
  rintro ac wd ⟨ad,rfl,h⟩
  (try dsimp only at hD)
  refine wp_ret ?_
  injection hD with hD
  subst hD
  exact rO h [.tmp 3] [(0,0)]

theorem L_slices_IndexFunc_table_Send_table_Send_own {a0 : (List TSend)} {a1 : TPlace} {r : Int × TPlace} (hD : L_slices_IndexFunc_table_Send_table_Send a0 a1 = some r) :
  CallH Try.prog 145 [.one (.d (.sl (List.map eTSend a0))),.one (.fnp 125 [((0,0),0)])] [((0,0),some (.box 139 (cTPlace a1)))]
   (.one (.d (.int .i64 r.1))) [((0,0),some (.box 139 (cTPlace r.2)))] := by
 unfold L_slices_IndexFunc_table_Send_table_Send at hD
 refine rc Try.func145 rfl Try.ntmps145 fun S Φ P0 wb ac h => ?_
 refine qs 2 [] [0,1] [(0,0)] h fun ac wd h => ?_
 refine wp_seq ?_
 refine qs 5 [] [0,1,7,8] [(0,0)] h fun ac wd h => ?_
 refine wp_block ?_
 refine r_while (fun nf ac wd => ∃ (aa : Int) (ab : TPlace),L_slices_IndexFunc_table_Send_table_Send_l1 a0 nf aa ab = some r ∧ SL ⟨wb,S,Φ,P0⟩ 19 27 [(0,.one (.d (.sl (List.map eTSend a0)))),(1,.one (.fnp 125 [((0,0),0)])),(7,.one (.d (.int .i64 (a0.length : Int)))),(8,.one (.d (.int .i64 aa)))] [((0,0),some (.box 139 (cTPlace ab)))] ac wd) (((a0.length : Int) - 0).toNat + 1) ⟨0,a1,hD,h.z⟩ (fun nf ac wd hJ => ?_)
 obtain ⟨aa,ab,ad,h⟩ := hJ
 cases nf with
 | zero => rw [L_slices_IndexFunc_table_Send_table_Send_l1] at ad; cases ad
 | succ nf =>
  rw [L_slices_IndexFunc_table_Send_table_Send_l1] at ad
  refine qs 28 [] [0,1,7,8,9] [(0,0)] h fun ac wd h => ?_
  refine wp_seq ?_
  rcases i2 ad with ⟨ae,ad⟩ | ⟨ae,ad⟩
  ·
   refine kT h ?_
   refine wp_skip ?_
   change Code.wp Try.prog _ _ _ _
   refine wp_seq ?_
   refine wp_block ?_
   refine qs 30 [] [0,1,5,7,8] [(0,0)] h fun ac wd h => ?_
   obtain ⟨af,ag,ah,ai,aj,ad⟩ := aB ad
   obtain ⟨ak,al,ad⟩ := oB ad
   have am := ((L_table_place_picks_1_own al).cls 35).z
   refine qs 36 [factR am] [0,1,5,7,8,16] [(0,0)] h fun ac wd h => ?_
   rcases i2b ad with ⟨an,ad⟩ | ⟨an,ad⟩
   ·
    refine kT h ?_
    refine qs 38 [] [4] [(0,0)] h fun ac wd h => ?_
    refine wp_ret ?_
    injection ad with ad
    subst ad
    exact rO h [.tmp 4] [(0,0)]
   ·
    refine kF h ?_
    refine wp_skip ?_
    change Code.wp Try.prog _ _ _ _
    refine qe [] [0,1,7,8] [(0,0)] h fun ac wd h => ?_
    exact ⟨nf,Nat.lt_succ_self nf,(IntKind.wrap .i64 (aa + 1)),ak.2,ad,h.z⟩
  ·
   refine kF h ?_
   refine wp_exit ?_
   change Code.wp Try.prog _ _ _ _
   refine qs 29 [] [4] [(0,0)] h fun ac wd h => ?_
   refine wp_ret ?_
   injection ad with ad
   subst ad
   exact rO h [.tmp 4] [(0,0)]

theorem L_slices_ContainsFunc_table_Send_table_Send_own {a0 : (List TSend)} {a1 : TPlace} {r : Bool × TPlace} (hD : L_slices_ContainsFunc_table_Send_table_Send a0 a1 = some r) :
  CallH Try.prog 128 [.one (.d (.sl (List.map eTSend a0))),.one (.fnp 125 [((0,0),0)])] [((0,0),some (.box 139 (cTPlace a1)))]
   (.one (.d (.bool r.1))) [((0,0),some (.box 139 (cTPlace r.2)))] := by
 unfold L_slices_ContainsFunc_table_Send_table_Send at hD
 refine rc Try.func128 rfl Try.ntmps128 fun S Φ P0 wb ac h => ?_
 refine qs 2 [] [0,1] [(0,0)] h fun ac wd h => ?_
 obtain ⟨r7,ab,hD⟩ := oB hD
 have ad := ((L_slices_IndexFunc_table_Send_table_Send_own ab).cls 4).z
 refine qs 7 [factR ad] [4] [(0,0)] h fun ac wd h => ?_
 refine wp_ret ?_
 injection hD with hD
 subst hD
 exact rO h [.tmp 4] [(0,0)]

theorem L_table_place_picks_ok {a0 : TPlace} {r : Bool} (hD : L_table_place_picks a0 = some r) :
  CallH Try.prog 102 [.agg (cTPlace a0)] []
   (.one (.d (.bool r))) [] := by
 unfold L_table_place_picks at hD
 refine rc Try.func102 rfl Try.ntmps102 fun S Φ P0 wb ac h => ?_
 refine qs 3 [] [1] [(1,0)] h fun ac wd h => ?_
 refine wp_seq ?_
 obtain ⟨aa,ab,hD⟩ := Option.bind_eq_some_iff.1 hD
 refine r_seqJ (fun ac wd => ∃ (ad : Bool),ad = aa ∧ SL ⟨wb,S,Φ,P0⟩ 51 21 [(1,.one (.ptr (1,0) 0)),(23,.one (.d (.bool ad)))] [((1,0),some (.box 139 (cTPlace a0)))] ac wd) ?_ ?_
 ·
  rcases i2 ab with ⟨ae,ab⟩ | ⟨ae,ab⟩
  ·
   refine qeg [] [none,none,none,none,none,none,some (some 11,false),some (some 11,false),some (some 11,false),some (some 11,false),some (some 11,false),some (some 16,true),some (some 16,true),some (some 16,true),some (some 16,true),some (some 16,true),some (some 11,false),none] [1,23] [(1,0)] h fun ac wd h => ?_
   injection ab with ab; subst ab
   exact ⟨true,rfl,h.z⟩
  ·
   rcases i2e ab with ⟨af,ab⟩ | ⟨af,ab⟩
   ·
    refine qeg [] [none,none,none,none,none,none,some (some 11,false),some (some 11,false),some (some 11,false),some (some 11,false),some (some 11,false),some (some 16,true),some (some 16,true),some (some 16,true),some (some 16,true),some (some 16,true),some (some 11,false),none] [1,23] [(1,0)] h fun ac wd h => ?_
    injection ab with ab; subst ab
    exact ⟨false,rfl,h.z⟩
   ·
    refine qeg [] [none,none,none,none,none,none,some (some 11,false),some (some 11,false),some (some 11,false),some (some 11,false),some (some 11,false),some (some 16,true),some (some 16,true),some (some 16,true),some (some 16,true),some (some 16,true),some (some 11,false),none] [1,23] [(1,0)] h fun ac wd h => ?_
    injection ab with ab; subst ab
    exact ⟨decide ((a0.State.Picks.length : Int) > 0),rfl,h.z⟩
 ·
  rintro ac wd ⟨ad,rfl,h⟩
  (try dsimp only at hD)
  rcases i2b hD with ⟨ag,hD⟩ | ⟨ag,hD⟩
  ·
   refine kT h ?_
   refine qs 22 [] [2] [] h fun ac wd h => ?_
   refine wp_ret ?_
   injection hD with hD
   subst hD
   exact rE h [.tmp 2]
  ·
   refine kF h ?_
   refine wp_skip ?_
   change Code.wp Try.prog _ _ _ _
   refine wp_seq ?_
   refine qs 26 [] [1,26,27,28] [(1,0)] h fun ac wd h => ?_
   refine wp_block ?_
   refine r_while (fun nf ac wd => ∃ (ah : Int) (ai : TPlace),L_table_place_picks_l1 a0 nf ah ai = some r ∧ SL ⟨wb,S,Φ,P0⟩ 51 78 [(1,.one (.ptr (1,0) 0)),(26,.one (.d (.sl (List.map eTPick a0.State.Picks)))),(27,.one (.d (.int .i64 (a0.State.Picks.length : Int)))),(28,.one (.d (.int .i64 ah)))] [((1,0),some (.box 139 (cTPlace ai)))] ac wd) (((a0.State.Picks.length : Int) - 0).toNat + 1) ⟨0,a0,hD,h.z⟩ (fun nf ac wd hJ => ?_)
   obtain ⟨ah,ai,aj,h⟩ := hJ
   cases nf with
   | zero => rw [L_table_place_picks_l1] at aj; cases aj
   | succ nf =>
    rw [L_table_place_picks_l1] at aj
    refine qs 79 [] [1,26,27,28,29] [(1,0)] h fun ac wd h => ?_
    refine wp_seq ?_
    rcases i2 aj with ⟨ak,aj⟩ | ⟨ak,aj⟩
    ·
     refine kT h ?_
     refine wp_skip ?_
     change Code.wp Try.prog _ _ _ _
     refine wp_seq ?_
     refine wp_block ?_
     obtain ⟨al,am,an,ao,ap,aj⟩ := aB aj
     refine qs 83 [] [1,4,26,27,28] [(1,0),(81,0)] h fun ac wd h => ?_
     refine qs 85 [] [1,4,5,26,27,28] [(1,0),(81,0)] h fun ac wd h => ?_
     obtain ⟨aq,ar,aj⟩ := Option.bind_eq_some_iff.1 aj
     refine r_seqJ (fun ac wd => ∃ (au : Bool) (av : TPlace),(au,av) = aq ∧ SL ⟨wb,S,Φ,P0⟩ 51 102 [(1,.one (.ptr (1,0) 0)),(26,.one (.d (.sl (List.map eTPick a0.State.Picks)))),(27,.one (.d (.int .i64 (a0.State.Picks.length : Int)))),(28,.one (.d (.int .i64 ah))),(49,.one (.d (.bool au)))] [((1,0),some (.box 139 (cTPlace av)))] ac wd) ?_ ?_
     ·
      obtain ⟨aw,ax,ar⟩ := oB ar
      rcases i2b ar with ⟨ay,ar⟩ | ⟨ay,ar⟩
      ·
       rcases i2 ar with ⟨az,ar⟩ | ⟨az,ar⟩
       ·
        have aA := L_table_place_state_ok ax
        refine qeg [factE 88 aA] [none,none,none,none,none,none,some (some 38,false),some (some 38,false),some (some 38,false),some (some 38,false),none,none,some (some 44,false),some (some 44,false),some (some 44,false),some (some 44,false),none] [1,26,27,28,49] [(1,0)] h fun ac wd h => ?_
        injection ar with ar; subst ar
        exact ⟨true,ai,rfl,h.z⟩
       ·
        obtain ⟨aC,aD,ar⟩ := oB ar
        have aA := L_table_place_state_ok ax
        have aE := (((L_slices_ContainsFunc_table_Send_table_Send_own aD).cls 100).nm (0,0) (1,0)).z
        refine qeg [factE 88 aA,factR aE] [none,none,none,none,none,none,some (some 38,false),some (some 38,false),some (some 38,false),some (some 38,false),none,none,some (some 44,false),some (some 44,false),some (some 44,false),some (some 44,false),none] [1,26,27,28,49] [(1,0)] h fun ac wd h => ?_
        injection ar with ar; subst ar
        exact ⟨aC.1,aC.2,rfl,h.z⟩
      ·
       have aA := L_table_place_state_ok ax
       refine qeg [factE 88 aA] [none,none,none,none,none,none,some (some 38,false),some (some 38,false),some (some 38,false),some (some 38,false),none,none,some (some 44,false),some (some 44,false),some (some 44,false),some (some 44,false),none] [1,26,27,28,49] [(1,0)] h fun ac wd h => ?_
       injection ar with ar; subst ar
       exact ⟨true,ai,rfl,h.z⟩
     ·
      rintro ac wd ⟨au,av,rfl,h⟩
      (try dsimp only at aj)
      rcases i2b aj with ⟨aF,aj⟩ | ⟨aF,aj⟩
      ·
       refine kT h ?_
       refine qs 103 [] [2] [] h fun ac wd h => ?_
       refine wp_ret ?_
       injection aj with aj
       subst aj
       exact rE h [.tmp 2]
      ·
       refine kF h ?_
       refine wp_skip ?_
       change Code.wp Try.prog _ _ _ _
       refine qe [] [1,26,27,28] [(1,0)] h fun ac wd h => ?_
       exact ⟨nf,Nat.lt_succ_self nf,(IntKind.wrap .i64 (ah + 1)),av,aj,h.z⟩
    ·
     refine kF h ?_
     refine wp_exit ?_
     change Code.wp Try.prog _ _ _ _
     refine qs 80 [] [2] [] h fun ac wd h => ?_
     refine wp_ret ?_
     injection aj with aj
     subst aj
     exact rE h [.tmp 2]

theorem L_table_place_takes_1_own {a0 : TTake} {a1 : TTake} {r : Bool × TTake} (hD : L_table_place_takes_1 a0 a1 = some r) :
  CallH Try.prog 129 [.agg (cTTake a0),.one (.ptr (0,0) 0)] [((0,0),some (.box 48 (cTTake a1)))]
   (.one (.d (.bool r.1))) [((0,0),some (.box 48 (cTTake r.2)))] := by
 unfold L_table_place_takes_1 at hD
 refine rc Try.func129 rfl Try.ntmps129 fun S Φ P0 wb ac h => ?_
 refine qs 3 [] [1,2] [(0,0),(1,0)] h fun ac wd h => ?_
 obtain ⟨e8,ab,hD⟩ := Option.bind_eq_some_iff.1 hD
 refine r_seqJ (fun ac wd => ∃ (b7 : Bool),b7 = e8 ∧ SL ⟨wb,S,Φ,P0⟩ 16 16 [(3,.one (.d (.bool b7)))] [((0,0),some (.box 48 (cTTake a1)))] ac wd) ?_ ?_
 ·
  rcases i2e ab with ⟨ae,ab⟩ | ⟨ae,ab⟩
  ·
   refine qeg [] [none,none,none,none,none,none,some (some 9,true),some (some 9,true),some (some 9,true),some (some 9,true),some (some 9,true),none,none] [3] [(0,0)] h fun ac wd h => ?_
   injection ab with ab; subst ab
   exact ⟨decide (a0.Letter = a1.Letter),rfl,h.z⟩
  ·
   refine qeg [] [none,none,none,none,none,none,some (some 9,true),some (some 9,true),some (some 9,true),some (some 9,true),some (some 9,true),none,none] [3] [(0,0)] h fun ac wd h => ?_
   injection ab with ab; subst ab
   exact ⟨false,rfl,h.z⟩
 ·
  rintro ac wd ⟨b7,rfl,h⟩
  (try dsimp only at hD)
  refine wp_ret ?_
  injection hD with hD
  subst hD
  exact rO h [.tmp 3] [(0,0)]

theorem L_slices_IndexFunc_table_Take_table_Take_own {a0 : (List TTake)} {a1 : TTake} {r : Int × TTake} (hD : L_slices_IndexFunc_table_Take_table_Take a0 a1 = some r) :
  CallH Try.prog 146 [.one (.d (.sl (List.map eTTake a0))),.one (.fnp 129 [((0,0),0)])] [((0,0),some (.box 48 (cTTake a1)))]
   (.one (.d (.int .i64 r.1))) [((0,0),some (.box 48 (cTTake r.2)))] := by
 unfold L_slices_IndexFunc_table_Take_table_Take at hD
 refine rc Try.func146 rfl Try.ntmps146 fun S Φ P0 wb ac h => ?_
 refine qs 2 [] [0,1] [(0,0)] h fun ac wd h => ?_
 refine wp_seq ?_
 refine qs 5 [] [0,1,7,8] [(0,0)] h fun ac wd h => ?_
 refine wp_block ?_
 refine r_while (fun nf ac wd => ∃ (aa : Int) (ab : TTake),L_slices_IndexFunc_table_Take_table_Take_l1 a0 nf aa ab = some r ∧ SL ⟨wb,S,Φ,P0⟩ 19 27 [(0,.one (.d (.sl (List.map eTTake a0)))),(1,.one (.fnp 129 [((0,0),0)])),(7,.one (.d (.int .i64 (a0.length : Int)))),(8,.one (.d (.int .i64 aa)))] [((0,0),some (.box 48 (cTTake ab)))] ac wd) (((a0.length : Int) - 0).toNat + 1) ⟨0,a1,hD,h.z⟩ (fun nf ac wd hJ => ?_)
 obtain ⟨aa,ab,ad,h⟩ := hJ
 cases nf with
 | zero => rw [L_slices_IndexFunc_table_Take_table_Take_l1] at ad; cases ad
 | succ nf =>
  rw [L_slices_IndexFunc_table_Take_table_Take_l1] at ad
  refine qs 28 [] [0,1,7,8,9] [(0,0)] h fun ac wd h => ?_
  refine wp_seq ?_
  rcases i2 ad with ⟨ae,ad⟩ | ⟨ae,ad⟩
  ·
   refine kT h ?_
   refine wp_skip ?_
   change Code.wp Try.prog _ _ _ _
   refine wp_seq ?_
   refine wp_block ?_
   refine qs 30 [] [0,1,5,7,8] [(0,0)] h fun ac wd h => ?_
   obtain ⟨af,ag,ah,ai,aj,ad⟩ := aB ad
   obtain ⟨ak,al,ad⟩ := oB ad
   have am := ((L_table_place_takes_1_own al).cls 35).z
   refine qs 36 [factR am] [0,1,5,7,8,16] [(0,0)] h fun ac wd h => ?_
   rcases i2b ad with ⟨an,ad⟩ | ⟨an,ad⟩
   ·
    refine kT h ?_
    refine qs 38 [] [4] [(0,0)] h fun ac wd h => ?_
    refine wp_ret ?_
    injection ad with ad
    subst ad
    exact rO h [.tmp 4] [(0,0)]
   ·
    refine kF h ?_
    refine wp_skip ?_
    change Code.wp Try.prog _ _ _ _
    refine qe [] [0,1,7,8] [(0,0)] h fun ac wd h => ?_
    exact ⟨nf,Nat.lt_succ_self nf,(IntKind.wrap .i64 (aa + 1)),ak.2,ad,h.z⟩
  ·
   refine kF h ?_
   refine wp_exit ?_
   change Code.wp Try.prog _ _ _ _
   refine qs 29 [] [4] [(0,0)] h fun ac wd h => ?_
   refine wp_ret ?_
   injection ad with ad
   subst ad
   exact rO h [.tmp 4] [(0,0)]

theorem L_slices_ContainsFunc_table_Take_table_Take_own {a0 : (List TTake)} {a1 : TTake} {r : Bool × TTake} (hD : L_slices_ContainsFunc_table_Take_table_Take a0 a1 = some r) :
  CallH Try.prog 130 [.one (.d (.sl (List.map eTTake a0))),.one (.fnp 129 [((0,0),0)])] [((0,0),some (.box 48 (cTTake a1)))]
   (.one (.d (.bool r.1))) [((0,0),some (.box 48 (cTTake r.2)))] := by
 unfold L_slices_ContainsFunc_table_Take_table_Take at hD
 refine rc Try.func130 rfl Try.ntmps130 fun S Φ P0 wb ac h => ?_
 refine qs 2 [] [0,1] [(0,0)] h fun ac wd h => ?_
 obtain ⟨r7,ab,hD⟩ := oB hD
 have ad := ((L_slices_IndexFunc_table_Take_table_Take_own ab).cls 4).z
 refine qs 7 [factR ad] [4] [(0,0)] h fun ac wd h => ?_
 refine wp_ret ?_
 injection hD with hD
 subst hD
 exact rO h [.tmp 4] [(0,0)]

theorem L_table_place_takes_ok {a0 : TPlace} {r : Bool} (hD : L_table_place_takes a0 = some r) :
  CallH Try.prog 103 [.agg (cTPlace a0)] []
   (.one (.d (.bool r))) [] := by
 unfold L_table_place_takes at hD
 refine rc Try.func103 rfl Try.ntmps103 fun S Φ P0 wb ac h => ?_
 refine qs 3 [] [1] [(1,0)] h fun ac wd h => ?_
 refine wp_seq ?_
 refine qs 8 [] [1,8,9,10] [(1,0)] h fun ac wd h => ?_
 refine wp_block ?_
 refine r_while (fun nf ac wd => ∃ (aa : Int),L_table_place_takes_l1 a0 nf aa = some r ∧ SL ⟨wb,S,Φ,P0⟩ 44 84 [(1,.one (.ptr (1,0) 0)),(8,.one (.d (.sl (List.map eTTake a0.State.Takes)))),(9,.one (.d (.int .i64 (a0.State.Takes.length : Int)))),(10,.one (.d (.int .i64 aa)))] [((1,0),some (.box 139 (cTPlace a0)))] ac wd) (((a0.State.Takes.length : Int) - 0).toNat + 1) ⟨0,hD,h.z⟩ (fun nf ac wd hJ => ?_)
 obtain ⟨aa,ab,h⟩ := hJ
 cases nf with
 | zero => rw [L_table_place_takes_l1] at ab; cases ab
 | succ nf =>
  rw [L_table_place_takes_l1] at ab
  refine qs 85 [] [1,8,9,10,11] [(1,0)] h fun ac wd h => ?_
  refine wp_seq ?_
  rcases i2 ab with ⟨ad,ab⟩ | ⟨ad,ab⟩
  ·
   refine kT h ?_
   refine wp_skip ?_
   change Code.wp Try.prog _ _ _ _
   refine wp_seq ?_
   refine wp_block ?_
   obtain ⟨ae,af,ag,ah,ai,ab⟩ := aB ab
   refine qs 91 [] [1,3,4,8,9,10] [(1,0),(88,0)] h fun ac wd h => ?_
   refine qs 93 [] [1,3,4,5,8,9,10] [(1,0),(88,0)] h fun ac wd h => ?_
   obtain ⟨aj,ak,ab⟩ := Option.bind_eq_some_iff.1 ab
   refine r_seqJ (fun ac wd => ∃ (al : Bool),al = aj ∧ SL ⟨wb,S,Φ,P0⟩ 44 120 [(1,.one (.ptr (1,0) 0)),(8,.one (.d (.sl (List.map eTTake a0.State.Takes)))),(9,.one (.d (.int .i64 (a0.State.Takes.length : Int)))),(10,.one (.d (.int .i64 aa))),(42,.one (.d (.bool al)))] [((1,0),some (.box 139 (cTPlace a0)))] ac wd) ?_ ?_
   ·
    obtain ⟨am,an,ak⟩ := oB ak
    rcases i2b ak with ⟨ao,ak⟩ | ⟨ao,ak⟩
    ·
     obtain ⟨ap,aq,ak⟩ := oB ak
     rcases i2b ak with ⟨ar,ak⟩ | ⟨ar,ak⟩
     ·
      obtain ⟨au,av,ak⟩ := oB ak
      rcases i2b ak with ⟨aw,ak⟩ | ⟨aw,ak⟩
      ·
       obtain ⟨ax,ak⟩ := iT ak
       obtain ⟨ay,ak⟩ := iT ak
       obtain ⟨az,aA,ak⟩ := vB ak
       obtain ⟨aC,aD,ak⟩ := oB ak
       have aE := L_table_place_in_ok an
       have aF := L_table_letter_ok aq
       have aG := L_table_place_state_ok av
       have aH := (((L_slices_ContainsFunc_table_Take_table_Take_own aD).cls 118).nm (0,0) (88,0)).z
       refine qeg [factE 96 aE,factE 101 aF,factE 108 aG,factR aH] [none,none,none,none,none,none,some (some 21,false),some (some 21,false),some (some 21,false),some (some 21,false),none,none,some (some 27,false),some (some 27,false),some (some 27,false),some (some 27,false),some (some 27,false),none,none,some (some 34,false),some (some 34,false),some (some 34,false),some (some 34,false),some (some 34,false),some (some 34,false),some (some 34,false),none] [1,8,9,10,42] [(1,0)] h fun ac wd h => ?_
       injection ak with ak; subst ak
       exact ⟨aC.1,rfl,h.z⟩
      ·
       have aE := L_table_place_in_ok an
       have aF := L_table_letter_ok aq
       have aG := L_table_place_state_ok av
       refine qeg [factE 96 aE,factE 101 aF,factE 108 aG] [none,none,none,none,none,none,some (some 21,false),some (some 21,false),some (some 21,false),some (some 21,false),none,none,some (some 27,false),some (some 27,false),some (some 27,false),some (some 27,false),some (some 27,false),none,none,some (some 34,false),some (some 34,false),some (some 34,false),some (some 34,false),some (some 34,false),some (some 34,false),some (some 34,false),none] [1,8,9,10,42] [(1,0)] h fun ac wd h => ?_
       injection ak with ak; subst ak
       exact ⟨true,rfl,h.z⟩
     ·
      have aE := L_table_place_in_ok an
      have aF := L_table_letter_ok aq
      refine qeg [factE 96 aE,factE 101 aF] [none,none,none,none,none,none,some (some 21,false),some (some 21,false),some (some 21,false),some (some 21,false),none,none,some (some 27,false),some (some 27,false),some (some 27,false),some (some 27,false),some (some 27,false),none,none,some (some 34,false),some (some 34,false),some (some 34,false),some (some 34,false),some (some 34,false),some (some 34,false),some (some 34,false),none] [1,8,9,10,42] [(1,0)] h fun ac wd h => ?_
      injection ak with ak; subst ak
      exact ⟨true,rfl,h.z⟩
    ·
     have aE := L_table_place_in_ok an
     refine qeg [factE 96 aE] [none,none,none,none,none,none,some (some 21,false),some (some 21,false),some (some 21,false),some (some 21,false),none,none,some (some 27,false),some (some 27,false),some (some 27,false),some (some 27,false),some (some 27,false),none,none,some (some 34,false),some (some 34,false),some (some 34,false),some (some 34,false),some (some 34,false),some (some 34,false),some (some 34,false),none] [1,8,9,10,42] [(1,0)] h fun ac wd h => ?_
     injection ak with ak; subst ak
     exact ⟨true,rfl,h.z⟩
   ·
    rintro ac wd ⟨al,rfl,h⟩
    (try dsimp only at ab)
    rcases i2b ab with ⟨aI,ab⟩ | ⟨aI,ab⟩
    ·
     refine kT h ?_
     refine qs 121 [] [2] [] h fun ac wd h => ?_
     refine wp_ret ?_
     injection ab with ab
     subst ab
     exact rE h [.tmp 2]
    ·
     refine kF h ?_
     refine wp_skip ?_
     change Code.wp Try.prog _ _ _ _
     refine qe [] [1,8,9,10] [(1,0)] h fun ac wd h => ?_
     exact ⟨nf,Nat.lt_succ_self nf,(IntKind.wrap .i64 (aa + 1)),ab,h.z⟩
  ·
   refine kF h ?_
   refine wp_exit ?_
   change Code.wp Try.prog _ _ _ _
   refine qs 86 [] [2] [] h fun ac wd h => ?_
   refine wp_ret ?_
   injection ab with ab
   subst ab
   exact rE h [.tmp 2]

theorem L_table_place_stays_ok {a0 : TPlace} {r : Bool} (hD : L_table_place_stays a0 = some r) :
  CallH Try.prog 104 [.agg (cTPlace a0)] []
   (.one (.d (.bool r))) [] := by
 unfold L_table_place_stays at hD
 refine rc Try.func104 rfl Try.ntmps104 fun S Φ P0 wb ac h => ?_
 refine qs 3 [] [1] [(1,0)] h fun ac wd h => ?_
 refine wp_seq ?_
 refine qs 8 [] [1,10,11,12] [(1,0)] h fun ac wd h => ?_
 refine wp_block ?_
 refine r_while (fun nf ac wd => ∃ (aa : Int),L_table_place_stays_l1 a0 nf aa = some r ∧ SL ⟨wb,S,Φ,P0⟩ 49 158 [(1,.one (.ptr (1,0) 0)),(10,.one (.d (.sl (List.map eTTake a0.State.Takes)))),(11,.one (.d (.int .i64 (a0.State.Takes.length : Int)))),(12,.one (.d (.int .i64 aa)))] [((1,0),some (.box 139 (cTPlace a0)))] ac wd) (((a0.State.Takes.length : Int) - 0).toNat + 1) ⟨0,hD,h.z⟩ (fun nf ac wd hJ => ?_)
 obtain ⟨aa,ab,h⟩ := hJ
 cases nf with
 | zero => rw [L_table_place_stays_l1] at ab; cases ab
 | succ nf =>
  rw [L_table_place_stays_l1] at ab
  refine qs 159 [] [1,10,11,12,13] [(1,0)] h fun ac wd h => ?_
  refine wp_seq ?_
  rcases i2 ab with ⟨ad,ab⟩ | ⟨ad,ab⟩
  ·
   refine kT h ?_
   refine wp_skip ?_
   change Code.wp Try.prog _ _ _ _
   obtain ⟨ae,af,ab⟩ := Option.bind_eq_some_iff.1 ab
   refine r_seqJ (fun ac wd => (.inl ()) = ae ∧ SL ⟨wb,S,Φ,P0⟩ 49 231 [(1,.one (.ptr (1,0) 0)),(10,.one (.d (.sl (List.map eTTake a0.State.Takes)))),(11,.one (.d (.int .i64 (a0.State.Takes.length : Int)))),(12,.one (.d (.int .i64 aa)))] [((1,0),some (.box 139 (cTPlace a0)))] ac wd) ?_ ?_
   ·
    refine wp_block ?_
    obtain ⟨ag,ah,ai,aj,ak,af⟩ := aB af
    refine qs 163 [] [1,4,10,11,12] [(1,0),(161,0)] h fun ac wd h => ?_
    refine qs 168 [] [1,4,10,11,12,18,19,20] [(1,0),(161,0)] h fun ac wd h => ?_
    obtain ⟨al,am,af⟩ := Option.bind_eq_some_iff.1 af
    refine r_meetQ (fun ac wd => (.inl ()) = al ∧ SL ⟨wb,S,Φ,P0⟩ 49 231 [(1,.one (.ptr (1,0) 0)),(10,.one (.d (.sl (List.map eTTake a0.State.Takes)))),(11,.one (.d (.int .i64 (a0.State.Takes.length : Int)))),(12,.one (.d (.int .i64 aa)))] [((1,0),some (.box 139 (cTPlace a0)))] ac wd) ?_ ?_
    ·
     refine wp_block ?_
     refine r_while (fun nf ac wd => ∃ (an : Int),L_table_place_stays_l2 a0 ag nf an = some al ∧ SL ⟨wb,S,Φ,P0⟩ 49 230 [(1,.one (.ptr (1,0) 0)),(4,.one (.ptr (161,0) 0)),(10,.one (.d (.sl (List.map eTTake a0.State.Takes)))),(11,.one (.d (.int .i64 (a0.State.Takes.length : Int)))),(12,.one (.d (.int .i64 aa))),(18,.one (.d (.sl (List.map eI a0.State.Waits)))),(19,.one (.d (.int .i64 (a0.State.Waits.length : Int)))),(20,.one (.d (.int .i64 an)))] [((1,0),some (.box 139 (cTPlace a0))),((161,0),some (.box 48 (cTTake ag)))] ac wd) (((a0.State.Waits.length : Int) - 0).toNat + 1) ⟨0,am,h.z⟩ (fun nf ac wd hJ => ?_)
     obtain ⟨an,ao,h⟩ := hJ
     cases nf with
     | zero => rw [L_table_place_stays_l2] at ao; cases ao
     | succ nf =>
      rw [L_table_place_stays_l2] at ao
      refine qs 231 [] [1,4,10,11,12,18,19,20,21] [(1,0),(161,0)] h fun ac wd h => ?_
      refine wp_seq ?_
      rcases i2 ao with ⟨ap,ao⟩ | ⟨ap,ao⟩
      ·
       refine kT h ?_
       refine wp_skip ?_
       change Code.wp Try.prog _ _ _ _
       refine wp_seq ?_
       refine wp_block ?_
       obtain ⟨aq,ar,au,av,aw,ao⟩ := aB ao
       refine qs 234 [] [1,4,6,10,11,12,18,19,20] [(1,0),(161,0)] h fun ac wd h => ?_
       obtain ⟨ax,ay,az,aA,aC,ao⟩ := aB ao
       refine qs 243 [] [1,4,6,7,10,11,12,18,19,20] [(1,0),(161,0),(241,0)] h fun ac wd h => ?_
       obtain ⟨aD,aE,ao⟩ := Option.bind_eq_some_iff.1 ao
       refine r_seqJ (fun ac wd => ∃ (aF : Bool),aF = aD ∧ SL ⟨wb,S,Φ,P0⟩ 49 259 [(1,.one (.ptr (1,0) 0)),(4,.one (.ptr (161,0) 0)),(10,.one (.d (.sl (List.map eTTake a0.State.Takes)))),(11,.one (.d (.int .i64 (a0.State.Takes.length : Int)))),(12,.one (.d (.int .i64 aa))),(18,.one (.d (.sl (List.map eI a0.State.Waits)))),(19,.one (.d (.int .i64 (a0.State.Waits.length : Int)))),(20,.one (.d (.int .i64 an))),(46,.one (.d (.bool aF)))] [((1,0),some (.box 139 (cTPlace a0))),((161,0),some (.box 48 (cTTake ag)))] ac wd) ?_ ?_
       ·
        rcases i2e aE with ⟨aG,aE⟩ | ⟨aG,aE⟩
        ·
         refine qeg [] [none,none,none,none,none,some (some 35,true),some (some 35,true),some (some 35,true),some (some 35,true),some (some 39,false),some (some 39,false),some (some 39,false),some (some 39,false),some (some 39,false),some (some 35,true),none] [1,4,10,11,12,18,19,20,46] [(1,0),(161,0)] h fun ac wd h => ?_
         injection aE with aE; subst aE
         exact ⟨false,rfl,h.z⟩
        ·
         rcases i2e aE with ⟨aH,aE⟩ | ⟨aH,aE⟩
         ·
          obtain ⟨aI,aJ,aE⟩ := oB aE
          have aK := L_slices_Contains_int_int_ok aJ
          refine qeg [factE 255 aK] [none,none,none,none,none,some (some 35,true),some (some 35,true),some (some 35,true),some (some 35,true),some (some 39,false),some (some 39,false),some (some 39,false),some (some 39,false),some (some 39,false),some (some 35,true),none] [1,4,10,11,12,18,19,20,46] [(1,0),(161,0)] h fun ac wd h => ?_
          injection aE with aE; subst aE
          exact ⟨!(aI),rfl,h.z⟩
         ·
          refine qeg [] [none,none,none,none,none,some (some 35,true),some (some 35,true),some (some 35,true),some (some 35,true),some (some 39,false),some (some 39,false),some (some 39,false),some (some 39,false),some (some 39,false),some (some 35,true),none] [1,4,10,11,12,18,19,20,46] [(1,0),(161,0)] h fun ac wd h => ?_
          injection aE with aE; subst aE
          exact ⟨true,rfl,h.z⟩
       ·
        rintro ac wd ⟨aF,rfl,h⟩
        (try dsimp only at ao)
        rcases i2b ao with ⟨aL,ao⟩ | ⟨aL,ao⟩
        ·
         refine kT h ?_
         refine qs 260 [] [2] [] h fun ac wd h => ?_
         refine wp_ret ?_
         injection ao with ao
         subst ao
         (try dsimp only at af)
         injection af with af
         subst af
         (try dsimp only at ab)
         injection ab with ab
         subst ab
         exact rE h [.tmp 2]
        ·
         refine kF h ?_
         refine wp_skip ?_
         change Code.wp Try.prog _ _ _ _
         refine qe [] [1,4,10,11,12,18,19,20] [(1,0),(161,0)] h fun ac wd h => ?_
         exact ⟨nf,Nat.lt_succ_self nf,(IntKind.wrap .i64 (an + 1)),ao,h.z⟩
      ·
       refine kF h ?_
       refine wp_exit ?_
       injection ao with ao; subst ao
       exact ⟨rfl,h.z⟩
    ·
     rintro ac wd ⟨rfl,h⟩
     (try dsimp only at af)
     injection af with af; subst af
     exact ⟨rfl,h.z⟩
   ·
    rintro ac wd ⟨rfl,h⟩
    (try dsimp only at ab)
    refine qe [] [1,10,11,12] [(1,0)] h fun ac wd h => ?_
    exact ⟨nf,Nat.lt_succ_self nf,(IntKind.wrap .i64 (aa + 1)),ab,h.z⟩
  ·
   refine kF h ?_
   refine wp_exit ?_
   change Code.wp Try.prog _ _ _ _
   refine qs 160 [] [2] [] h fun ac wd h => ?_
   refine wp_ret ?_
   injection ab with ab
   subst ab
   exact rE h [.tmp 2]

theorem L_table_place_may_ok {a0 : TPlace} {r : Bool} (hD : L_table_place_may a0 = some r) :
  CallH Try.prog 56 [.agg (cTPlace a0)] []
   (.one (.d (.bool r))) [] := by
 unfold L_table_place_may at hD
 refine rc Try.func56 rfl Try.ntmps56 fun S Φ P0 wb ac h => ?_
 refine qs 3 [] [1] [(1,0)] h fun ac wd h => ?_
 refine qs 5 [] [1,3] [(1,0)] h fun ac wd h => ?_
 refine wp_seq ?_
 refine qs 22 [] [21,22,23] [(1,0),(19,0)] h fun ac wd h => ?_
 refine wp_block ?_
 refine wp_loop_rounds 24 ?_
 refine rounds_succ.mpr ?_
 refine qs 23 [] [21,22,23,24] [(1,0),(19,0)] h fun ac wd h => ?_
 refine wp_seq ?_
 refine kT h ?_
 refine wp_skip ?_
 change Code.wp Try.prog _ _ _ _
 refine wp_seq ?_
 refine wp_block ?_
 refine qs 27 [] [5,21,22,23] [(1,0),(19,0),(25,0)] h fun ac wd h => ?_
 obtain ⟨aa,ab,hD⟩ := oB hD
 have ad := (((L_table_place_may_1_own ab).cls 29).nm (0,0) (1,0)).z
 refine qs 31 [factR ad] [21,22,23,30] [(1,0),(19,0)] h fun ac wd h => ?_
 rcases i2b hD with ⟨ae,hD⟩ | ⟨ae,hD⟩
 ·
  refine kF h ?_
  refine wp_skip ?_
  change Code.wp Try.prog _ _ _ _
  refine qe [] [21,22,23] [(1,0),(19,0)] h fun ac wd h => ?_
  change Code.rounds Try.prog _ _ _ _ _
  have h := h.sm 33 [(21,.one (.own (19,0) 5)),(22,.one (.d (.int .i64 5))),(23,.one (.d (.int .i64 1)))]
   [((1,0),some (.box 139 (cTPlace aa.2))),((19,0),some (.row 197 1 ([[.fnp 100 [((1,0),0)]],[.d (.fn 101 [.inl [(.int .i64 a0.State.Mode),(.sl (List.map eI a0.State.Waits)),(.sl (List.map eTPick a0.State.Picks)),(.sl (List.map eTTake a0.State.Takes)),(.int .i64 a0.n),(.int .i64 a0.node.Start),(.sl (List.map eTState a0.node.States)),(.int .i64 a0.g.N),(.sl (List.map eA2I a0.g.Links))]] [])],[.d (.fn 102 [.inl [(.int .i64 a0.State.Mode),(.sl (List.map eI a0.State.Waits)),(.sl (List.map eTPick a0.State.Picks)),(.sl (List.map eTTake a0.State.Takes)),(.int .i64 a0.n),(.int .i64 a0.node.Start),(.sl (List.map eTState a0.node.States)),(.int .i64 a0.g.N),(.sl (List.map eA2I a0.g.Links))]] [])],[.d (.fn 103 [.inl [(.int .i64 a0.State.Mode),(.sl (List.map eI a0.State.Waits)),(.sl (List.map eTPick a0.State.Picks)),(.sl (List.map eTTake a0.State.Takes)),(.int .i64 a0.n),(.int .i64 a0.node.Start),(.sl (List.map eTState a0.node.States)),(.int .i64 a0.g.N),(.sl (List.map eA2I a0.g.Links))]] [])],[.d (.fn 104 [.inl [(.int .i64 a0.State.Mode),(.sl (List.map eI a0.State.Waits)),(.sl (List.map eTPick a0.State.Picks)),(.sl (List.map eTTake a0.State.Takes)),(.int .i64 a0.n),(.int .i64 a0.node.Start),(.sl (List.map eTState a0.node.States)),(.int .i64 a0.g.N),(.sl (List.map eA2I a0.g.Links))]] [])]])))]
  refine rounds_succ.mpr ?_
  refine qs 34 [] [21,22,23,24] [(1,0),(19,0)] h fun ac wd h => ?_
  refine wp_seq ?_
  refine kT h ?_
  refine wp_skip ?_
  change Code.wp Try.prog _ _ _ _
  refine wp_seq ?_
  refine wp_block ?_
  refine qs 38 [] [5,21,22,23] [(1,0),(19,0),(36,0)] h fun ac wd h => ?_
  obtain ⟨af,ag,hD⟩ := oB hD
  have ah := L_table_place_waits_ok ag
  refine qs 42 [factE 40 ah] [21,22,23,30] [(1,0),(19,0)] h fun ac wd h => ?_
  rcases i2b hD with ⟨ai,hD⟩ | ⟨ai,hD⟩
  ·
   refine kF h ?_
   refine wp_skip ?_
   change Code.wp Try.prog _ _ _ _
   refine qe [] [21,22,23] [(1,0),(19,0)] h fun ac wd h => ?_
   change Code.rounds Try.prog _ _ _ _ _
   have h := h.sm 44 [(21,.one (.own (19,0) 5)),(22,.one (.d (.int .i64 5))),(23,.one (.d (.int .i64 2)))]
    [((1,0),some (.box 139 (cTPlace aa.2))),((19,0),some (.row 197 1 ([[.fnp 100 [((1,0),0)]],[.d (.fn 101 [.inl [(.int .i64 a0.State.Mode),(.sl (List.map eI a0.State.Waits)),(.sl (List.map eTPick a0.State.Picks)),(.sl (List.map eTTake a0.State.Takes)),(.int .i64 a0.n),(.int .i64 a0.node.Start),(.sl (List.map eTState a0.node.States)),(.int .i64 a0.g.N),(.sl (List.map eA2I a0.g.Links))]] [])],[.d (.fn 102 [.inl [(.int .i64 a0.State.Mode),(.sl (List.map eI a0.State.Waits)),(.sl (List.map eTPick a0.State.Picks)),(.sl (List.map eTTake a0.State.Takes)),(.int .i64 a0.n),(.int .i64 a0.node.Start),(.sl (List.map eTState a0.node.States)),(.int .i64 a0.g.N),(.sl (List.map eA2I a0.g.Links))]] [])],[.d (.fn 103 [.inl [(.int .i64 a0.State.Mode),(.sl (List.map eI a0.State.Waits)),(.sl (List.map eTPick a0.State.Picks)),(.sl (List.map eTTake a0.State.Takes)),(.int .i64 a0.n),(.int .i64 a0.node.Start),(.sl (List.map eTState a0.node.States)),(.int .i64 a0.g.N),(.sl (List.map eA2I a0.g.Links))]] [])],[.d (.fn 104 [.inl [(.int .i64 a0.State.Mode),(.sl (List.map eI a0.State.Waits)),(.sl (List.map eTPick a0.State.Picks)),(.sl (List.map eTTake a0.State.Takes)),(.int .i64 a0.n),(.int .i64 a0.node.Start),(.sl (List.map eTState a0.node.States)),(.int .i64 a0.g.N),(.sl (List.map eA2I a0.g.Links))]] [])]])))]
   refine rounds_succ.mpr ?_
   refine qs 45 [] [21,22,23,24] [(1,0),(19,0)] h fun ac wd h => ?_
   refine wp_seq ?_
   refine kT h ?_
   refine wp_skip ?_
   change Code.wp Try.prog _ _ _ _
   refine wp_seq ?_
   refine wp_block ?_
   refine qs 49 [] [5,21,22,23] [(1,0),(19,0),(47,0)] h fun ac wd h => ?_
   obtain ⟨aj,ak,hD⟩ := oB hD
   have al := L_table_place_picks_ok ak
   refine qs 53 [factE 51 al] [21,22,23,30] [(1,0),(19,0)] h fun ac wd h => ?_
   rcases i2b hD with ⟨am,hD⟩ | ⟨am,hD⟩
   ·
    refine kF h ?_
    refine wp_skip ?_
    change Code.wp Try.prog _ _ _ _
    refine qe [] [21,22,23] [(1,0),(19,0)] h fun ac wd h => ?_
    change Code.rounds Try.prog _ _ _ _ _
    have h := h.sm 55 [(21,.one (.own (19,0) 5)),(22,.one (.d (.int .i64 5))),(23,.one (.d (.int .i64 3)))]
     [((1,0),some (.box 139 (cTPlace aa.2))),((19,0),some (.row 197 1 ([[.fnp 100 [((1,0),0)]],[.d (.fn 101 [.inl [(.int .i64 a0.State.Mode),(.sl (List.map eI a0.State.Waits)),(.sl (List.map eTPick a0.State.Picks)),(.sl (List.map eTTake a0.State.Takes)),(.int .i64 a0.n),(.int .i64 a0.node.Start),(.sl (List.map eTState a0.node.States)),(.int .i64 a0.g.N),(.sl (List.map eA2I a0.g.Links))]] [])],[.d (.fn 102 [.inl [(.int .i64 a0.State.Mode),(.sl (List.map eI a0.State.Waits)),(.sl (List.map eTPick a0.State.Picks)),(.sl (List.map eTTake a0.State.Takes)),(.int .i64 a0.n),(.int .i64 a0.node.Start),(.sl (List.map eTState a0.node.States)),(.int .i64 a0.g.N),(.sl (List.map eA2I a0.g.Links))]] [])],[.d (.fn 103 [.inl [(.int .i64 a0.State.Mode),(.sl (List.map eI a0.State.Waits)),(.sl (List.map eTPick a0.State.Picks)),(.sl (List.map eTTake a0.State.Takes)),(.int .i64 a0.n),(.int .i64 a0.node.Start),(.sl (List.map eTState a0.node.States)),(.int .i64 a0.g.N),(.sl (List.map eA2I a0.g.Links))]] [])],[.d (.fn 104 [.inl [(.int .i64 a0.State.Mode),(.sl (List.map eI a0.State.Waits)),(.sl (List.map eTPick a0.State.Picks)),(.sl (List.map eTTake a0.State.Takes)),(.int .i64 a0.n),(.int .i64 a0.node.Start),(.sl (List.map eTState a0.node.States)),(.int .i64 a0.g.N),(.sl (List.map eA2I a0.g.Links))]] [])]])))]
    refine rounds_succ.mpr ?_
    refine qs 56 [] [21,22,23,24] [(1,0),(19,0)] h fun ac wd h => ?_
    refine wp_seq ?_
    refine kT h ?_
    refine wp_skip ?_
    change Code.wp Try.prog _ _ _ _
    refine wp_seq ?_
    refine wp_block ?_
    refine qs 60 [] [5,21,22,23] [(1,0),(19,0),(58,0)] h fun ac wd h => ?_
    obtain ⟨an,ao,hD⟩ := oB hD
    have ap := L_table_place_takes_ok ao
    refine qs 64 [factE 62 ap] [21,22,23,30] [(1,0),(19,0)] h fun ac wd h => ?_
    rcases i2b hD with ⟨aq,hD⟩ | ⟨aq,hD⟩
    ·
     refine kF h ?_
     refine wp_skip ?_
     change Code.wp Try.prog _ _ _ _
     refine qe [] [21,22,23] [(1,0),(19,0)] h fun ac wd h => ?_
     change Code.rounds Try.prog _ _ _ _ _
     have h := h.sm 66 [(21,.one (.own (19,0) 5)),(22,.one (.d (.int .i64 5))),(23,.one (.d (.int .i64 4)))]
      [((1,0),some (.box 139 (cTPlace aa.2))),((19,0),some (.row 197 1 ([[.fnp 100 [((1,0),0)]],[.d (.fn 101 [.inl [(.int .i64 a0.State.Mode),(.sl (List.map eI a0.State.Waits)),(.sl (List.map eTPick a0.State.Picks)),(.sl (List.map eTTake a0.State.Takes)),(.int .i64 a0.n),(.int .i64 a0.node.Start),(.sl (List.map eTState a0.node.States)),(.int .i64 a0.g.N),(.sl (List.map eA2I a0.g.Links))]] [])],[.d (.fn 102 [.inl [(.int .i64 a0.State.Mode),(.sl (List.map eI a0.State.Waits)),(.sl (List.map eTPick a0.State.Picks)),(.sl (List.map eTTake a0.State.Takes)),(.int .i64 a0.n),(.int .i64 a0.node.Start),(.sl (List.map eTState a0.node.States)),(.int .i64 a0.g.N),(.sl (List.map eA2I a0.g.Links))]] [])],[.d (.fn 103 [.inl [(.int .i64 a0.State.Mode),(.sl (List.map eI a0.State.Waits)),(.sl (List.map eTPick a0.State.Picks)),(.sl (List.map eTTake a0.State.Takes)),(.int .i64 a0.n),(.int .i64 a0.node.Start),(.sl (List.map eTState a0.node.States)),(.int .i64 a0.g.N),(.sl (List.map eA2I a0.g.Links))]] [])],[.d (.fn 104 [.inl [(.int .i64 a0.State.Mode),(.sl (List.map eI a0.State.Waits)),(.sl (List.map eTPick a0.State.Picks)),(.sl (List.map eTTake a0.State.Takes)),(.int .i64 a0.n),(.int .i64 a0.node.Start),(.sl (List.map eTState a0.node.States)),(.int .i64 a0.g.N),(.sl (List.map eA2I a0.g.Links))]] [])]])))]
     refine rounds_succ.mpr ?_
     refine qs 67 [] [21,22,23,24] [(1,0),(19,0)] h fun ac wd h => ?_
     refine wp_seq ?_
     refine kT h ?_
     refine wp_skip ?_
     change Code.wp Try.prog _ _ _ _
     refine wp_seq ?_
     refine wp_block ?_
     refine qs 71 [] [5,21,22,23] [(1,0),(19,0),(69,0)] h fun ac wd h => ?_
     obtain ⟨ar,au,hD⟩ := oB hD
     have av := L_table_place_stays_ok au
     refine qs 75 [factE 73 av] [21,22,23,30] [(1,0),(19,0)] h fun ac wd h => ?_
     rcases i2b hD with ⟨aw,hD⟩ | ⟨aw,hD⟩
     ·
      refine kF h ?_
      refine wp_skip ?_
      change Code.wp Try.prog _ _ _ _
      refine qe [] [21,22,23] [(1,0),(19,0)] h fun ac wd h => ?_
      change Code.rounds Try.prog _ _ _ _ _
      have h := h.sm 77 [(21,.one (.own (19,0) 5)),(22,.one (.d (.int .i64 5))),(23,.one (.d (.int .i64 5)))]
       [((1,0),some (.box 139 (cTPlace aa.2))),((19,0),some (.row 197 1 ([[.fnp 100 [((1,0),0)]],[.d (.fn 101 [.inl [(.int .i64 a0.State.Mode),(.sl (List.map eI a0.State.Waits)),(.sl (List.map eTPick a0.State.Picks)),(.sl (List.map eTTake a0.State.Takes)),(.int .i64 a0.n),(.int .i64 a0.node.Start),(.sl (List.map eTState a0.node.States)),(.int .i64 a0.g.N),(.sl (List.map eA2I a0.g.Links))]] [])],[.d (.fn 102 [.inl [(.int .i64 a0.State.Mode),(.sl (List.map eI a0.State.Waits)),(.sl (List.map eTPick a0.State.Picks)),(.sl (List.map eTTake a0.State.Takes)),(.int .i64 a0.n),(.int .i64 a0.node.Start),(.sl (List.map eTState a0.node.States)),(.int .i64 a0.g.N),(.sl (List.map eA2I a0.g.Links))]] [])],[.d (.fn 103 [.inl [(.int .i64 a0.State.Mode),(.sl (List.map eI a0.State.Waits)),(.sl (List.map eTPick a0.State.Picks)),(.sl (List.map eTTake a0.State.Takes)),(.int .i64 a0.n),(.int .i64 a0.node.Start),(.sl (List.map eTState a0.node.States)),(.int .i64 a0.g.N),(.sl (List.map eA2I a0.g.Links))]] [])],[.d (.fn 104 [.inl [(.int .i64 a0.State.Mode),(.sl (List.map eI a0.State.Waits)),(.sl (List.map eTPick a0.State.Picks)),(.sl (List.map eTTake a0.State.Takes)),(.int .i64 a0.n),(.int .i64 a0.node.Start),(.sl (List.map eTState a0.node.States)),(.int .i64 a0.g.N),(.sl (List.map eA2I a0.g.Links))]] [])]])))]
      refine rounds_succ.mpr ?_
      refine qs 78 [] [21,22,23,24] [(1,0),(19,0)] h fun ac wd h => ?_
      refine wp_seq ?_
      refine kF h ?_
      refine wp_exit ?_
      change Code.wp Try.prog _ _ _ _
      refine qs 79 [] [2] [] h fun ac wd h => ?_
      refine wp_ret ?_
      injection hD with hD
      subst hD
      exact rE h [.tmp 2]
     ·
      refine kT h ?_
      refine qs 76 [] [2] [] h fun ac wd h => ?_
      refine wp_ret ?_
      injection hD with hD
      subst hD
      exact rE h [.tmp 2]
    ·
     refine kT h ?_
     refine qs 65 [] [2] [] h fun ac wd h => ?_
     refine wp_ret ?_
     injection hD with hD
     subst hD
     exact rE h [.tmp 2]
   ·
    refine kT h ?_
    refine qs 54 [] [2] [] h fun ac wd h => ?_
    refine wp_ret ?_
    injection hD with hD
    subst hD
    exact rE h [.tmp 2]
  ·
   refine kT h ?_
   refine qs 43 [] [2] [] h fun ac wd h => ?_
   refine wp_ret ?_
   injection hD with hD
   subst hD
   exact rE h [.tmp 2]
 ·
  refine kT h ?_
  refine qs 32 [] [2] [] h fun ac wd h => ?_
  refine wp_ret ?_
  injection hD with hD
  subst hD
  exact rE h [.tmp 2]

end Go.Proofs.Ytabbejabdkkaiaa
