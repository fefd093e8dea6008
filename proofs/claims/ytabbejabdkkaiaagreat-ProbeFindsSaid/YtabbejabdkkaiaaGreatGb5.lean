/- Functions as typed ones,and that the program's functions answer as these do. No condition. -/
import Derived.Test.YtabbejabdkkaiaaGreatGb4
import Derived.Test.YtabbejabdkkaiaaGreatGd
set_option linter.unusedSimpArgs false
set_option linter.unusedVariables false
set_option maxRecDepth 20000
set_option maxHeartbeats 4000000
namespace Go.Proofs.YtabbejabdkkaiaaGreat
open Go.RowKit

theorem L_table_place_picks_ok {a0 : TPlace} {r : Bool} (hD : L_table_place_picks a0 = some r) :
  CallH Tryz.prog 96 [.agg (cTPlace a0)] []
   (.one (.d (.bool r))) [] := by
 unfold L_table_place_picks at hD
 refine rc Tryz.func96 rfl Tryz.ntmps96 fun S Φ P0 wb ac h => ?_
 refine qs 3 [] [1] [(1,0)] h fun ac wd h => ?_
 refine wp_seq ?_
 obtain ⟨aa,ab,hD⟩ := Option.bind_eq_some_iff.1 hD
 refine r_seqJ (fun ac wd => ∃ (ad : Bool),ad = aa ∧ SL ⟨wb,S,Φ,P0⟩ 51 21 [(1,.one (.ptr (1,0) 0)),(23,.one (.d (.bool ad)))] [((1,0),some (.box 170 (cTPlace a0)))] ac wd) ?_ ?_
 ·
  rcases i2 ab with ⟨ae,ab⟩ | ⟨ae,ab⟩
  ·
   refine qeg [] [none,none,none,none,none,none,some (some 11,false),some (some 11,false),some (some 11,false),some (some 11,false),some (some 11,false),some (some 16,true),some (some 16,true),some (some 16,true),some (some 16,true),some (some 16,true),some (some 11,false),none] [1,23] [(1,0)] h fun ac wd h => ?_
   injection ab with ab; subst ab
   exact ⟨true,rfl,h.z⟩
  ·
   rcases i2e ab with ⟨af,ab⟩ | ⟨af,ab⟩
   ·
    refine qeg [] [none,none,none,none,none,none,some (some 11,false),some (some 11,false),some (some 11,false),some (some 11,false),some (some 11,false),some (some 16,true),some (some 16,true),some (some 16,true),some (some 16,true),some (some 16,true),some (some 11,false),none] [1,23] [(1,0)] h fun ac wd h => ?_
    injection ab with ab; subst ab
    exact ⟨false,rfl,h.z⟩
   ·
    refine qeg [] [none,none,none,none,none,none,some (some 11,false),some (some 11,false),some (some 11,false),some (some 11,false),some (some 11,false),some (some 16,true),some (some 16,true),some (some 16,true),some (some 16,true),some (some 16,true),some (some 11,false),none] [1,23] [(1,0)] h fun ac wd h => ?_
    injection ab with ab; subst ab
    exact ⟨decide ((a0.State.Picks.length : Int) > 0),rfl,h.z⟩
 ·
  rintro ac wd ⟨ad,rfl,h⟩
  (try dsimp only at hD)
  rcases i2b hD with ⟨ag,hD⟩ | ⟨ag,hD⟩
  ·
   refine kT h ?_
   refine qs 22 [] [2] [] h fun ac wd h => ?_
   refine wp_ret ?_
   injection hD with hD
   subst hD
   exact rE h [.tmp 2]
  ·
   refine kF h ?_
   refine wp_skip ?_
   change Code.wp Tryz.prog _ _ _ _
   refine wp_seq ?_
   refine qs 26 [] [1,26,27,28] [(1,0)] h fun ac wd h => ?_
   refine wp_block ?_
   refine r_while (fun nf ac wd => ∃ (ah : Int) (ai : TPlace),L_table_place_picks_l1 a0 nf ah ai = some r ∧ SL ⟨wb,S,Φ,P0⟩ 51 78 [(1,.one (.ptr (1,0) 0)),(26,.one (.d (.sl (List.map eTPick a0.State.Picks)))),(27,.one (.d (.int .i64 (a0.State.Picks.length : Int)))),(28,.one (.d (.int .i64 ah)))] [((1,0),some (.box 170 (cTPlace ai)))] ac wd) (((a0.State.Picks.length : Int) - 0).toNat + 1) ⟨0,a0,hD,h.z⟩ (fun nf ac wd hJ => ?_)
   obtain ⟨ah,ai,aj,h⟩ := hJ
   cases nf with
   | zero => rw [L_table_place_picks_l1] at aj; cases aj
   | succ nf =>
    rw [L_table_place_picks_l1] at aj
    refine qs 79 [] [1,26,27,28,29] [(1,0)] h fun ac wd h => ?_
    refine wp_seq ?_
    rcases i2 aj with ⟨ak,aj⟩ | ⟨ak,aj⟩
    ·
     refine kT h ?_
     refine wp_skip ?_
     change Code.wp Tryz.prog _ _ _ _
     refine wp_seq ?_
     refine wp_block ?_
     obtain ⟨al,am,an,ao,ap,aj⟩ := aB aj
     refine qs 83 [] [1,4,26,27,28] [(1,0),(81,0)] h fun ac wd h => ?_
     refine qs 85 [] [1,4,5,26,27,28] [(1,0),(81,0)] h fun ac wd h => ?_
     obtain ⟨aq,ar,aj⟩ := Option.bind_eq_some_iff.1 aj
     refine r_seqJ (fun ac wd => ∃ (au : Bool) (av : TPlace),(au,av) = aq ∧ SL ⟨wb,S,Φ,P0⟩ 51 102 [(1,.one (.ptr (1,0) 0)),(26,.one (.d (.sl (List.map eTPick a0.State.Picks)))),(27,.one (.d (.int .i64 (a0.State.Picks.length : Int)))),(28,.one (.d (.int .i64 ah))),(49,.one (.d (.bool au)))] [((1,0),some (.box 170 (cTPlace av)))] ac wd) ?_ ?_
     ·
      obtain ⟨aw,ax,ar⟩ := oB ar
      rcases i2b ar with ⟨ay,ar⟩ | ⟨ay,ar⟩
      ·
       rcases i2 ar with ⟨az,ar⟩ | ⟨az,ar⟩
       ·
        have aA := L_table_place_state_ok ax
        refine qeg [factE 88 aA] [none,none,none,none,none,none,some (some 38,false),some (some 38,false),some (some 38,false),some (some 38,false),none,none,some (some 44,false),some (some 44,false),some (some 44,false),some (some 44,false),none] [1,26,27,28,49] [(1,0)] h fun ac wd h => ?_
        injection ar with ar; subst ar
        exact ⟨true,ai,rfl,h.z⟩
       ·
        obtain ⟨aC,aD,ar⟩ := oB ar
        have aA := L_table_place_state_ok ax
        have aE := (((L_slices_ContainsFunc_table_Send_table_Send_own aD).cls 100).nm (0,0) (1,0)).z
        refine qeg [factE 88 aA,factR aE] [none,none,none,none,none,none,some (some 38,false),some (some 38,false),some (some 38,false),some (some 38,false),none,none,some (some 44,false),some (some 44,false),some (some 44,false),some (some 44,false),none] [1,26,27,28,49] [(1,0)] h fun ac wd h => ?_
        injection ar with ar; subst ar
        exact ⟨aC.1,aC.2,rfl,h.z⟩
      ·
       have aA := L_table_place_state_ok ax
       refine qeg [factE 88 aA] [none,none,none,none,none,none,some (some 38,false),some (some 38,false),some (some 38,false),some (some 38,false),none,none,some (some 44,false),some (some 44,false),some (some 44,false),some (some 44,false),none] [1,26,27,28,49] [(1,0)] h fun ac wd h => ?_
       injection ar with ar; subst ar
       exact ⟨true,ai,rfl,h.z⟩
     ·
      rintro ac wd ⟨au,av,rfl,h⟩
      (try dsimp only at aj)
      rcases i2b aj with ⟨aF,aj⟩ | ⟨aF,aj⟩
      ·
       refine kT h ?_
       refine qs 103 [] [2] [] h fun ac wd h => ?_
       refine wp_ret ?_
       injection aj with aj
       subst aj
       exact rE h [.tmp 2]
      ·
       refine kF h ?_
       refine wp_skip ?_
       change Code.wp Tryz.prog _ _ _ _
       refine qe [] [1,26,27,28] [(1,0)] h fun ac wd h => ?_
       exact ⟨nf,Nat.lt_succ_self nf,(IntKind.wrap .i64 (ah + 1)),av,aj,h.z⟩
    ·
     refine kF h ?_
     refine wp_exit ?_
     change Code.wp Tryz.prog _ _ _ _
     refine qs 80 [] [2] [] h fun ac wd h => ?_
     refine wp_ret ?_
     injection aj with aj
     subst aj
     exact rE h [.tmp 2]

theorem L_table_place_takes_1_own {a0 : TTake} {a1 : TTake} {r : Bool × TTake} (hD : L_table_place_takes_1 a0 a1 = some r) :
  CallH Tryz.prog 107 [.agg (cTTake a0),.one (.ptr (0,0) 0)] [((0,0),some (.box 166 (cTTake a1)))]
   (.one (.d (.bool r.1))) [((0,0),some (.box 166 (cTTake r.2)))] := by
 unfold L_table_place_takes_1 at hD
 refine rc Tryz.func107 rfl Tryz.ntmps107 fun S Φ P0 wb ac h => ?_
 refine qs 3 [] [1,2] [(0,0),(1,0)] h fun ac wd h => ?_
 obtain ⟨e8,ab,hD⟩ := Option.bind_eq_some_iff.1 hD
 refine r_seqJ (fun ac wd => ∃ (b7 : Bool),b7 = e8 ∧ SL ⟨wb,S,Φ,P0⟩ 16 16 [(3,.one (.d (.bool b7)))] [((0,0),some (.box 166 (cTTake a1)))] ac wd) ?_ ?_
 ·
  rcases i2e ab with ⟨ae,ab⟩ | ⟨ae,ab⟩
  ·
   refine qeg [] [none,none,none,none,none,none,some (some 9,true),some (some 9,true),some (some 9,true),some (some 9,true),some (some 9,true),none,none] [3] [(0,0)] h fun ac wd h => ?_
   injection ab with ab; subst ab
   exact ⟨decide (a0.Letter = a1.Letter),rfl,h.z⟩
  ·
   refine qeg [] [none,none,none,none,none,none,some (some 9,true),some (some 9,true),some (some 9,true),some (some 9,true),some (some 9,true),none,none] [3] [(0,0)] h fun ac wd h => ?_
   injection ab with ab; subst ab
   exact ⟨false,rfl,h.z⟩
 ·
  rintro ac wd ⟨b7,rfl,h⟩
  (try dsimp only at hD)
  refine wp_ret ?_
  injection hD with hD
  subst hD
  exact rO h [.tmp 3] [(0,0)]

theorem L_slices_IndexFunc_table_Take_table_Take_own {a0 : (List TTake)} {a1 : TTake} {r : Int × TTake} (hD : L_slices_IndexFunc_table_Take_table_Take a0 a1 = some r) :
  CallH Tryz.prog 111 [.one (.d (.sl (List.map eTTake a0))),.one (.fnp 107 [((0,0),0)])] [((0,0),some (.box 166 (cTTake a1)))]
   (.one (.d (.int .i64 r.1))) [((0,0),some (.box 166 (cTTake r.2)))] := by
 unfold L_slices_IndexFunc_table_Take_table_Take at hD
 refine rc Tryz.func111 rfl Tryz.ntmps111 fun S Φ P0 wb ac h => ?_
 refine qs 2 [] [0,1] [(0,0)] h fun ac wd h => ?_
 refine wp_seq ?_
 refine qs 5 [] [0,1,7,8] [(0,0)] h fun ac wd h => ?_
 refine wp_block ?_
 refine r_while (fun nf ac wd => ∃ (aa : Int) (ab : TTake),L_slices_IndexFunc_table_Take_table_Take_l1 a0 nf aa ab = some r ∧ SL ⟨wb,S,Φ,P0⟩ 19 27 [(0,.one (.d (.sl (List.map eTTake a0)))),(1,.one (.fnp 107 [((0,0),0)])),(7,.one (.d (.int .i64 (a0.length : Int)))),(8,.one (.d (.int .i64 aa)))] [((0,0),some (.box 166 (cTTake ab)))] ac wd) (((a0.length : Int) - 0).toNat + 1) ⟨0,a1,hD,h.z⟩ (fun nf ac wd hJ => ?_)
 obtain ⟨aa,ab,ad,h⟩ := hJ
 cases nf with
 | zero => rw [L_slices_IndexFunc_table_Take_table_Take_l1] at ad; cases ad
 | succ nf =>
  rw [L_slices_IndexFunc_table_Take_table_Take_l1] at ad
  refine qs 28 [] [0,1,7,8,9] [(0,0)] h fun ac wd h => ?_
  refine wp_seq ?_
  rcases i2 ad with ⟨ae,ad⟩ | ⟨ae,ad⟩
  ·
   refine kT h ?_
   refine wp_skip ?_
   change Code.wp Tryz.prog _ _ _ _
   refine wp_seq ?_
   refine wp_block ?_
   refine qs 30 [] [0,1,5,7,8] [(0,0)] h fun ac wd h => ?_
   obtain ⟨af,ag,ah,ai,aj,ad⟩ := aB ad
   obtain ⟨ak,al,ad⟩ := oB ad
   have am := ((L_table_place_takes_1_own al).cls 35).z
   refine qs 36 [factR am] [0,1,5,7,8,16] [(0,0)] h fun ac wd h => ?_
   rcases i2b ad with ⟨an,ad⟩ | ⟨an,ad⟩
   ·
    refine kT h ?_
    refine qs 38 [] [4] [(0,0)] h fun ac wd h => ?_
    refine wp_ret ?_
    injection ad with ad
    subst ad
    exact rO h [.tmp 4] [(0,0)]
   ·
    refine kF h ?_
    refine wp_skip ?_
    change Code.wp Tryz.prog _ _ _ _
    refine qe [] [0,1,7,8] [(0,0)] h fun ac wd h => ?_
    exact ⟨nf,Nat.lt_succ_self nf,(IntKind.wrap .i64 (aa + 1)),ak.2,ad,h.z⟩
  ·
   refine kF h ?_
   refine wp_exit ?_
   change Code.wp Tryz.prog _ _ _ _
   refine qs 29 [] [4] [(0,0)] h fun ac wd h => ?_
   refine wp_ret ?_
   injection ad with ad
   subst ad
   exact rO h [.tmp 4] [(0,0)]

theorem L_slices_ContainsFunc_table_Take_table_Take_own {a0 : (List TTake)} {a1 : TTake} {r : Bool × TTake} (hD : L_slices_ContainsFunc_table_Take_table_Take a0 a1 = some r) :
  CallH Tryz.prog 108 [.one (.d (.sl (List.map eTTake a0))),.one (.fnp 107 [((0,0),0)])] [((0,0),some (.box 166 (cTTake a1)))]
   (.one (.d (.bool r.1))) [((0,0),some (.box 166 (cTTake r.2)))] := by
 unfold L_slices_ContainsFunc_table_Take_table_Take at hD
 refine rc Tryz.func108 rfl Tryz.ntmps108 fun S Φ P0 wb ac h => ?_
 refine qs 2 [] [0,1] [(0,0)] h fun ac wd h => ?_
 obtain ⟨r7,ab,hD⟩ := oB hD
 have ad := ((L_slices_IndexFunc_table_Take_table_Take_own ab).cls 4).z
 refine qs 7 [factR ad] [4] [(0,0)] h fun ac wd h => ?_
 refine wp_ret ?_
 injection hD with hD
 subst hD
 exact rO h [.tmp 4] [(0,0)]

theorem L_table_place_takes_ok {a0 : TPlace} {r : Bool} (hD : L_table_place_takes a0 = some r) :
  CallH Tryz.prog 97 [.agg (cTPlace a0)] []
   (.one (.d (.bool r))) [] := by
 unfold L_table_place_takes at hD
 refine rc Tryz.func97 rfl Tryz.ntmps97 fun S Φ P0 wb ac h => ?_
 refine qs 3 [] [1] [(1,0)] h fun ac wd h => ?_
 refine wp_seq ?_
 refine qs 8 [] [1,8,9,10] [(1,0)] h fun ac wd h => ?_
 refine wp_block ?_
 refine r_while (fun nf ac wd => ∃ (aa : Int),L_table_place_takes_l1 a0 nf aa = some r ∧ SL ⟨wb,S,Φ,P0⟩ 44 84 [(1,.one (.ptr (1,0) 0)),(8,.one (.d (.sl (List.map eTTake a0.State.Takes)))),(9,.one (.d (.int .i64 (a0.State.Takes.length : Int)))),(10,.one (.d (.int .i64 aa)))] [((1,0),some (.box 170 (cTPlace a0)))] ac wd) (((a0.State.Takes.length : Int) - 0).toNat + 1) ⟨0,hD,h.z⟩ (fun nf ac wd hJ => ?_)
 obtain ⟨aa,ab,h⟩ := hJ
 cases nf with
 | zero => rw [L_table_place_takes_l1] at ab; cases ab
 | succ nf =>
  rw [L_table_place_takes_l1] at ab
  refine qs 85 [] [1,8,9,10,11] [(1,0)] h fun ac wd h => ?_
  refine wp_seq ?_
  rcases i2 ab with ⟨ad,ab⟩ | ⟨ad,ab⟩
  ·
   refine kT h ?_
   refine wp_skip ?_
   change Code.wp Tryz.prog _ _ _ _
   refine wp_seq ?_
   refine wp_block ?_
   obtain ⟨ae,af,ag,ah,ai,ab⟩ := aB ab
   refine qs 91 [] [1,3,4,8,9,10] [(1,0),(88,0)] h fun ac wd h => ?_
   refine qs 93 [] [1,3,4,5,8,9,10] [(1,0),(88,0)] h fun ac wd h => ?_
   obtain ⟨aj,ak,ab⟩ := Option.bind_eq_some_iff.1 ab
   refine r_seqJ (fun ac wd => ∃ (al : Bool),al = aj ∧ SL ⟨wb,S,Φ,P0⟩ 44 120 [(1,.one (.ptr (1,0) 0)),(8,.one (.d (.sl (List.map eTTake a0.State.Takes)))),(9,.one (.d (.int .i64 (a0.State.Takes.length : Int)))),(10,.one (.d (.int .i64 aa))),(42,.one (.d (.bool al)))] [((1,0),some (.box 170 (cTPlace a0)))] ac wd) ?_ ?_
   ·
    obtain ⟨am,an,ak⟩ := oB ak
    rcases i2b ak with ⟨ao,ak⟩ | ⟨ao,ak⟩
    ·
     obtain ⟨ap,aq,ak⟩ := oB ak
     rcases i2b ak with ⟨ar,ak⟩ | ⟨ar,ak⟩
     ·
      obtain ⟨au,av,ak⟩ := oB ak
      rcases i2b ak with ⟨aw,ak⟩ | ⟨aw,ak⟩
      ·
       obtain ⟨ax,ak⟩ := iT ak
       obtain ⟨ay,ak⟩ := iT ak
       obtain ⟨az,aA,ak⟩ := vB ak
       obtain ⟨aC,aD,ak⟩ := oB ak
       have aE := L_table_place_in_ok an
       have aF := L_table_letter_ok aq
       have aG := L_table_place_state_ok av
       have aH := (((L_slices_ContainsFunc_table_Take_table_Take_own aD).cls 118).nm (0,0) (88,0)).z
       refine qeg [factE 96 aE,factE 101 aF,factE 108 aG,factR aH] [none,none,none,none,none,none,some (some 21,false),some (some 21,false),some (some 21,false),some (some 21,false),none,none,some (some 27,false),some (some 27,false),some (some 27,false),some (some 27,false),some (some 27,false),none,none,some (some 34,false),some (some 34,false),some (some 34,false),some (some 34,false),some (some 34,false),some (some 34,false),some (some 34,false),none] [1,8,9,10,42] [(1,0)] h fun ac wd h => ?_
       injection ak with ak; subst ak
       exact ⟨aC.1,rfl,h.z⟩
      ·
       have aE := L_table_place_in_ok an
       have aF := L_table_letter_ok aq
       have aG := L_table_place_state_ok av
       refine qeg [factE 96 aE,factE 101 aF,factE 108 aG] [none,none,none,none,none,none,some (some 21,false),some (some 21,false),some (some 21,false),some (some 21,false),none,none,some (some 27,false),some (some 27,false),some (some 27,false),some (some 27,false),some (some 27,false),none,none,some (some 34,false),some (some 34,false),some (some 34,false),some (some 34,false),some (some 34,false),some (some 34,false),some (some 34,false),none] [1,8,9,10,42] [(1,0)] h fun ac wd h => ?_
       injection ak with ak; subst ak
       exact ⟨true,rfl,h.z⟩
     ·
      have aE := L_table_place_in_ok an
      have aF := L_table_letter_ok aq
      refine qeg [factE 96 aE,factE 101 aF] [none,none,none,none,none,none,some (some 21,false),some (some 21,false),some (some 21,false),some (some 21,false),none,none,some (some 27,false),some (some 27,false),some (some 27,false),some (some 27,false),some (some 27,false),none,none,some (some 34,false),some (some 34,false),some (some 34,false),some (some 34,false),some (some 34,false),some (some 34,false),some (some 34,false),none] [1,8,9,10,42] [(1,0)] h fun ac wd h => ?_
      injection ak with ak; subst ak
      exact ⟨true,rfl,h.z⟩
    ·
     have aE := L_table_place_in_ok an
     refine qeg [factE 96 aE] [none,none,none,none,none,none,some (some 21,false),some (some 21,false),some (some 21,false),some (some 21,false),none,none,some (some 27,false),some (some 27,false),some (some 27,false),some (some 27,false),some (some 27,false),none,none,some (some 34,false),some (some 34,false),some (some 34,false),some (some 34,false),some (some 34,false),some (some 34,false),some (some 34,false),none] [1,8,9,10,42] [(1,0)] h fun ac wd h => ?_
     injection ak with ak; subst ak
     exact ⟨true,rfl,h.z⟩
   ·
    rintro ac wd ⟨al,rfl,h⟩
    (try dsimp only at ab)
    rcases i2b ab with ⟨aI,ab⟩ | ⟨aI,ab⟩
    ·
     refine kT h ?_
     refine qs 121 [] [2] [] h fun ac wd h => ?_
     refine wp_ret ?_
     injection ab with ab
     subst ab
     exact rE h [.tmp 2]
    ·
     refine kF h ?_
     refine wp_skip ?_
     change Code.wp Tryz.prog _ _ _ _
     refine qe [] [1,8,9,10] [(1,0)] h fun ac wd h => ?_
     exact ⟨nf,Nat.lt_succ_self nf,(IntKind.wrap .i64 (aa + 1)),ab,h.z⟩
  ·
   refine kF h ?_
   refine wp_exit ?_
   change Code.wp Tryz.prog _ _ _ _
   refine qs 86 [] [2] [] h fun ac wd h => ?_
   refine wp_ret ?_
   injection ab with ab
   subst ab
   exact rE h [.tmp 2]

theorem L_table_place_stays_ok {a0 : TPlace} {r : Bool} (hD : L_table_place_stays a0 = some r) :
  CallH Tryz.prog 98 [.agg (cTPlace a0)] []
   (.one (.d (.bool r))) [] := by
 unfold L_table_place_stays at hD
 refine rc Tryz.func98 rfl Tryz.ntmps98 fun S Φ P0 wb ac h => ?_
 refine qs 3 [] [1] [(1,0)] h fun ac wd h => ?_
 refine wp_seq ?_
 refine qs 8 [] [1,10,11,12] [(1,0)] h fun ac wd h => ?_
 refine wp_block ?_
 refine r_while (fun nf ac wd => ∃ (aa : Int),L_table_place_stays_l1 a0 nf aa = some r ∧ SL ⟨wb,S,Φ,P0⟩ 49 158 [(1,.one (.ptr (1,0) 0)),(10,.one (.d (.sl (List.map eTTake a0.State.Takes)))),(11,.one (.d (.int .i64 (a0.State.Takes.length : Int)))),(12,.one (.d (.int .i64 aa)))] [((1,0),some (.box 170 (cTPlace a0)))] ac wd) (((a0.State.Takes.length : Int) - 0).toNat + 1) ⟨0,hD,h.z⟩ (fun nf ac wd hJ => ?_)
 obtain ⟨aa,ab,h⟩ := hJ
 cases nf with
 | zero => rw [L_table_place_stays_l1] at ab; cases ab
 | succ nf =>
  rw [L_table_place_stays_l1] at ab
  refine qs 159 [] [1,10,11,12,13] [(1,0)] h fun ac wd h => ?_
  refine wp_seq ?_
  rcases i2 ab with ⟨ad,ab⟩ | ⟨ad,ab⟩
  ·
   refine kT h ?_
   refine wp_skip ?_
   change Code.wp Tryz.prog _ _ _ _
   obtain ⟨ae,af,ab⟩ := Option.bind_eq_some_iff.1 ab
   refine r_seqJ (fun ac wd => (.inl ()) = ae ∧ SL ⟨wb,S,Φ,P0⟩ 49 231 [(1,.one (.ptr (1,0) 0)),(10,.one (.d (.sl (List.map eTTake a0.State.Takes)))),(11,.one (.d (.int .i64 (a0.State.Takes.length : Int)))),(12,.one (.d (.int .i64 aa)))] [((1,0),some (.box 170 (cTPlace a0)))] ac wd) ?_ ?_
   ·
    refine wp_block ?_
    obtain ⟨ag,ah,ai,aj,ak,af⟩ := aB af
    refine qs 163 [] [1,4,10,11,12] [(1,0),(161,0)] h fun ac wd h => ?_
    refine qs 168 [] [1,4,10,11,12,18,19,20] [(1,0),(161,0)] h fun ac wd h => ?_
    obtain ⟨al,am,af⟩ := Option.bind_eq_some_iff.1 af
    refine r_meetQ (fun ac wd => (.inl ()) = al ∧ SL ⟨wb,S,Φ,P0⟩ 49 231 [(1,.one (.ptr (1,0) 0)),(10,.one (.d (.sl (List.map eTTake a0.State.Takes)))),(11,.one (.d (.int .i64 (a0.State.Takes.length : Int)))),(12,.one (.d (.int .i64 aa)))] [((1,0),some (.box 170 (cTPlace a0)))] ac wd) ?_ ?_
    ·
     refine wp_block ?_
     refine r_while (fun nf ac wd => ∃ (an : Int),L_table_place_stays_l2 a0 ag nf an = some al ∧ SL ⟨wb,S,Φ,P0⟩ 49 230 [(1,.one (.ptr (1,0) 0)),(4,.one (.ptr (161,0) 0)),(10,.one (.d (.sl (List.map eTTake a0.State.Takes)))),(11,.one (.d (.int .i64 (a0.State.Takes.length : Int)))),(12,.one (.d (.int .i64 aa))),(18,.one (.d (.sl (List.map eI a0.State.Waits)))),(19,.one (.d (.int .i64 (a0.State.Waits.length : Int)))),(20,.one (.d (.int .i64 an)))] [((1,0),some (.box 170 (cTPlace a0))),((161,0),some (.box 166 (cTTake ag)))] ac wd) (((a0.State.Waits.length : Int) - 0).toNat + 1) ⟨0,am,h.z⟩ (fun nf ac wd hJ => ?_)
     obtain ⟨an,ao,h⟩ := hJ
     cases nf with
     | zero => rw [L_table_place_stays_l2] at ao; cases ao
     | succ nf =>
      rw [L_table_place_stays_l2] at ao
      refine qs 231 [] [1,4,10,11,12,18,19,20,21] [(1,0),(161,0)] h fun ac wd h => ?_
      refine wp_seq ?_
      rcases i2 ao with ⟨ap,ao⟩ | ⟨ap,ao⟩
      ·
       refine kT h ?_
       refine wp_skip ?_
       change Code.wp Tryz.prog _ _ _ _
       refine wp_seq ?_
       refine wp_block ?_
       obtain ⟨aq,ar,au,av,aw,ao⟩ := aB ao
       refine qs 234 [] [1,4,6,10,11,12,18,19,20] [(1,0),(161,0)] h fun ac wd h => ?_
       obtain ⟨ax,ay,az,aA,aC,ao⟩ := aB ao
       refine qs 243 [] [1,4,6,7,10,11,12,18,19,20] [(1,0),(161,0),(241,0)] h fun ac wd h => ?_
       obtain ⟨aD,aE,ao⟩ := Option.bind_eq_some_iff.1 ao
       refine r_seqJ (fun ac wd => ∃ (aF : Bool),aF = aD ∧ SL ⟨wb,S,Φ,P0⟩ 49 259 [(1,.one (.ptr (1,0) 0)),(4,.one (.ptr (161,0) 0)),(10,.one (.d (.sl (List.map eTTake a0.State.Takes)))),(11,.one (.d (.int .i64 (a0.State.Takes.length : Int)))),(12,.one (.d (.int .i64 aa))),(18,.one (.d (.sl (List.map eI a0.State.Waits)))),(19,.one (.d (.int .i64 (a0.State.Waits.length : Int)))),(20,.one (.d (.int .i64 an))),(46,.one (.d (.bool aF)))] [((1,0),some (.box 170 (cTPlace a0))),((161,0),some (.box 166 (cTTake ag)))] ac wd) ?_ ?_
       ·
        rcases i2e aE with ⟨aG,aE⟩ | ⟨aG,aE⟩
        ·
         refine qeg [] [none,none,none,none,none,some (some 35,true),some (some 35,true),some (some 35,true),some (some 35,true),some (some 39,false),some (some 39,false),some (some 39,false),some (some 39,false),some (some 39,false),some (some 35,true),none] [1,4,10,11,12,18,19,20,46] [(1,0),(161,0)] h fun ac wd h => ?_
         injection aE with aE; subst aE
         exact ⟨false,rfl,h.z⟩
        ·
         rcases i2e aE with ⟨aH,aE⟩ | ⟨aH,aE⟩
         ·
          obtain ⟨aI,aJ,aE⟩ := oB aE
          have aK := L_slices_Contains_int_int_ok aJ
          refine qeg [factE 255 aK] [none,none,none,none,none,some (some 35,true),some (some 35,true),some (some 35,true),some (some 35,true),some (some 39,false),some (some 39,false),some (some 39,false),some (some 39,false),some (some 39,false),some (some 35,true),none] [1,4,10,11,12,18,19,20,46] [(1,0),(161,0)] h fun ac wd h => ?_
          injection aE with aE; subst aE
          exact ⟨!(aI),rfl,h.z⟩
         ·
          refine qeg [] [none,none,none,none,none,some (some 35,true),some (some 35,true),some (some 35,true),some (some 35,true),some (some 39,false),some (some 39,false),some (some 39,false),some (some 39,false),some (some 39,false),some (some 35,true),none] [1,4,10,11,12,18,19,20,46] [(1,0),(161,0)] h fun ac wd h => ?_
          injection aE with aE; subst aE
          exact ⟨true,rfl,h.z⟩
       ·
        rintro ac wd ⟨aF,rfl,h⟩
        (try dsimp only at ao)
        rcases i2b ao with ⟨aL,ao⟩ | ⟨aL,ao⟩
        ·
         refine kT h ?_
         refine qs 260 [] [2] [] h fun ac wd h => ?_
         refine wp_ret ?_
         injection ao with ao
         subst ao
         (try dsimp only at af)
         injection af with af
         subst af
         (try dsimp only at ab)
         injection ab with ab
         subst ab
         exact rE h [.tmp 2]
        ·
         refine kF h ?_
         refine wp_skip ?_
         change Code.wp Tryz.prog _ _ _ _
         refine qe [] [1,4,10,11,12,18,19,20] [(1,0),(161,0)] h fun ac wd h => ?_
         exact ⟨nf,Nat.lt_succ_self nf,(IntKind.wrap .i64 (an + 1)),ao,h.z⟩
      ·
       refine kF h ?_
       refine wp_exit ?_
       injection ao with ao; subst ao
       exact ⟨rfl,h.z⟩
    ·
     rintro ac wd ⟨rfl,h⟩
     (try dsimp only at af)
     injection af with af; subst af
     exact ⟨rfl,h.z⟩
   ·
    rintro ac wd ⟨rfl,h⟩
    (try dsimp only at ab)
    refine qe [] [1,10,11,12] [(1,0)] h fun ac wd h => ?_
    exact ⟨nf,Nat.lt_succ_self nf,(IntKind.wrap .i64 (aa + 1)),ab,h.z⟩
  ·
   refine kF h ?_
   refine wp_exit ?_
   change Code.wp Tryz.prog _ _ _ _
   refine qs 160 [] [2] [] h fun ac wd h => ?_
   refine wp_ret ?_
   injection ab with ab
   subst ab
   exact rE h [.tmp 2]

theorem L_table_place_may_ok {a0 : TPlace} {r : Bool} (hD : L_table_place_may a0 = some r) :
  CallH Tryz.prog 83 [.agg (cTPlace a0)] []
   (.one (.d (.bool r))) [] := by
 unfold L_table_place_may at hD
 refine rc Tryz.func83 rfl Tryz.ntmps83 fun S Φ P0 wb ac h => ?_
 refine qs 3 [] [1] [(1,0)] h fun ac wd h => ?_
 refine qs 5 [] [1,3] [(1,0)] h fun ac wd h => ?_
 refine wp_seq ?_
 refine qs 22 [] [21,22,23] [(1,0),(19,0)] h fun ac wd h => ?_
 refine wp_block ?_
 refine wp_loop_rounds 24 ?_
 refine rounds_succ.mpr ?_
 refine qs 23 [] [21,22,23,24] [(1,0),(19,0)] h fun ac wd h => ?_
 refine wp_seq ?_
 refine kT h ?_
 refine wp_skip ?_
 change Code.wp Tryz.prog _ _ _ _
 refine wp_seq ?_
 refine wp_block ?_
 refine qs 27 [] [5,21,22,23] [(1,0),(19,0),(25,0)] h fun ac wd h => ?_
 obtain ⟨aa,ab,hD⟩ := oB hD
 have ad := (((L_table_place_may_1_own ab).cls 29).nm (0,0) (1,0)).z
 refine qs 31 [factR ad] [21,22,23,30] [(1,0),(19,0)] h fun ac wd h => ?_
 rcases i2b hD with ⟨ae,hD⟩ | ⟨ae,hD⟩
 ·
  refine kF h ?_
  refine wp_skip ?_
  change Code.wp Tryz.prog _ _ _ _
  refine qe [] [21,22,23] [(1,0),(19,0)] h fun ac wd h => ?_
  change Code.rounds Tryz.prog _ _ _ _ _
  have h := h.sm 33 [(21,.one (.own (19,0) 5)),(22,.one (.d (.int .i64 5))),(23,.one (.d (.int .i64 1)))]
   [((1,0),some (.box 170 (cTPlace aa.2))),((19,0),some (.row 182 1 ([[.fnp 94 [((1,0),0)]],[.d (.fn 95 [.inl [(.int .i64 a0.State.Mode),(.sl (List.map eI a0.State.Waits)),(.sl (List.map eTPick a0.State.Picks)),(.sl (List.map eTTake a0.State.Takes)),(.int .i64 a0.n),(.int .i64 a0.node.Start),(.sl (List.map eTState a0.node.States)),(.int .i64 a0.g.N),(.sl (List.map eA2I a0.g.Links))]] [])],[.d (.fn 96 [.inl [(.int .i64 a0.State.Mode),(.sl (List.map eI a0.State.Waits)),(.sl (List.map eTPick a0.State.Picks)),(.sl (List.map eTTake a0.State.Takes)),(.int .i64 a0.n),(.int .i64 a0.node.Start),(.sl (List.map eTState a0.node.States)),(.int .i64 a0.g.N),(.sl (List.map eA2I a0.g.Links))]] [])],[.d (.fn 97 [.inl [(.int .i64 a0.State.Mode),(.sl (List.map eI a0.State.Waits)),(.sl (List.map eTPick a0.State.Picks)),(.sl (List.map eTTake a0.State.Takes)),(.int .i64 a0.n),(.int .i64 a0.node.Start),(.sl (List.map eTState a0.node.States)),(.int .i64 a0.g.N),(.sl (List.map eA2I a0.g.Links))]] [])],[.d (.fn 98 [.inl [(.int .i64 a0.State.Mode),(.sl (List.map eI a0.State.Waits)),(.sl (List.map eTPick a0.State.Picks)),(.sl (List.map eTTake a0.State.Takes)),(.int .i64 a0.n),(.int .i64 a0.node.Start),(.sl (List.map eTState a0.node.States)),(.int .i64 a0.g.N),(.sl (List.map eA2I a0.g.Links))]] [])]])))]
  refine rounds_succ.mpr ?_
  refine qs 34 [] [21,22,23,24] [(1,0),(19,0)] h fun ac wd h => ?_
  refine wp_seq ?_
  refine kT h ?_
  refine wp_skip ?_
  change Code.wp Tryz.prog _ _ _ _
  refine wp_seq ?_
  refine wp_block ?_
  refine qs 38 [] [5,21,22,23] [(1,0),(19,0),(36,0)] h fun ac wd h => ?_
  obtain ⟨af,ag,hD⟩ := oB hD
  have ah := L_table_place_waits_ok ag
  refine qs 42 [factE 40 ah] [21,22,23,30] [(1,0),(19,0)] h fun ac wd h => ?_
  rcases i2b hD with ⟨ai,hD⟩ | ⟨ai,hD⟩
  ·
   refine kF h ?_
   refine wp_skip ?_
   change Code.wp Tryz.prog _ _ _ _
   refine qe [] [21,22,23] [(1,0),(19,0)] h fun ac wd h => ?_
   change Code.rounds Tryz.prog _ _ _ _ _
   have h := h.sm 44 [(21,.one (.own (19,0) 5)),(22,.one (.d (.int .i64 5))),(23,.one (.d (.int .i64 2)))]
    [((1,0),some (.box 170 (cTPlace aa.2))),((19,0),some (.row 182 1 ([[.fnp 94 [((1,0),0)]],[.d (.fn 95 [.inl [(.int .i64 a0.State.Mode),(.sl (List.map eI a0.State.Waits)),(.sl (List.map eTPick a0.State.Picks)),(.sl (List.map eTTake a0.State.Takes)),(.int .i64 a0.n),(.int .i64 a0.node.Start),(.sl (List.map eTState a0.node.States)),(.int .i64 a0.g.N),(.sl (List.map eA2I a0.g.Links))]] [])],[.d (.fn 96 [.inl [(.int .i64 a0.State.Mode),(.sl (List.map eI a0.State.Waits)),(.sl (List.map eTPick a0.State.Picks)),(.sl (List.map eTTake a0.State.Takes)),(.int .i64 a0.n),(.int .i64 a0.node.Start),(.sl (List.map eTState a0.node.States)),(.int .i64 a0.g.N),(.sl (List.map eA2I a0.g.Links))]] [])],[.d (.fn 97 [.inl [(.int .i64 a0.State.Mode),(.sl (List.map eI a0.State.Waits)),(.sl (List.map eTPick a0.State.Picks)),(.sl (List.map eTTake a0.State.Takes)),(.int .i64 a0.n),(.int .i64 a0.node.Start),(.sl (List.map eTState a0.node.States)),(.int .i64 a0.g.N),(.sl (List.map eA2I a0.g.Links))]] [])],[.d (.fn 98 [.inl [(.int .i64 a0.State.Mode),(.sl (List.map eI a0.State.Waits)),(.sl (List.map eTPick a0.State.Picks)),(.sl (List.map eTTake a0.State.Takes)),(.int .i64 a0.n),(.int .i64 a0.node.Start),(.sl (List.map eTState a0.node.States)),(.int .i64 a0.g.N),(.sl (List.map eA2I a0.g.Links))]] [])]])))]
   refine rounds_succ.mpr ?_
   refine qs 45 [] [21,22,23,24] [(1,0),(19,0)] h fun ac wd h => ?_
   refine wp_seq ?_
   refine kT h ?_
   refine wp_skip ?_
   change Code.wp Tryz.prog _ _ _ _
   refine wp_seq ?_
   refine wp_block ?_
   refine qs 49 [] [5,21,22,23] [(1,0),(19,0),(47,0)] h fun ac wd h => ?_
   obtain ⟨aj,ak,hD⟩ := oB hD
   have al := L_table_place_picks_ok ak
   refine qs 53 [factE 51 al] [21,22,23,30] [(1,0),(19,0)] h fun ac wd h => ?_
   rcases i2b hD with ⟨am,hD⟩ | ⟨am,hD⟩
   ·
    refine kF h ?_
    refine wp_skip ?_
    change Code.wp Tryz.prog _ _ _ _
    refine qe [] [21,22,23] [(1,0),(19,0)] h fun ac wd h => ?_
    change Code.rounds Tryz.prog _ _ _ _ _
    have h := h.sm 55 [(21,.one (.own (19,0) 5)),(22,.one (.d (.int .i64 5))),(23,.one (.d (.int .i64 3)))]
     [((1,0),some (.box 170 (cTPlace aa.2))),((19,0),some (.row 182 1 ([[.fnp 94 [((1,0),0)]],[.d (.fn 95 [.inl [(.int .i64 a0.State.Mode),(.sl (List.map eI a0.State.Waits)),(.sl (List.map eTPick a0.State.Picks)),(.sl (List.map eTTake a0.State.Takes)),(.int .i64 a0.n),(.int .i64 a0.node.Start),(.sl (List.map eTState a0.node.States)),(.int .i64 a0.g.N),(.sl (List.map eA2I a0.g.Links))]] [])],[.d (.fn 96 [.inl [(.int .i64 a0.State.Mode),(.sl (List.map eI a0.State.Waits)),(.sl (List.map eTPick a0.State.Picks)),(.sl (List.map eTTake a0.State.Takes)),(.int .i64 a0.n),(.int .i64 a0.node.Start),(.sl (List.map eTState a0.node.States)),(.int .i64 a0.g.N),(.sl (List.map eA2I a0.g.Links))]] [])],[.d (.fn 97 [.inl [(.int .i64 a0.State.Mode),(.sl (List.map eI a0.State.Waits)),(.sl (List.map eTPick a0.State.Picks)),(.sl (List.map eTTake a0.State.Takes)),(.int .i64 a0.n),(.int .i64 a0.node.Start),(.sl (List.map eTState a0.node.States)),(.int .i64 a0.g.N),(.sl (List.map eA2I a0.g.Links))]] [])],[.d (.fn 98 [.inl [(.int .i64 a0.State.Mode),(.sl (List.map eI a0.State.Waits)),(.sl (List.map eTPick a0.State.Picks)),(.sl (List.map eTTake a0.State.Takes)),(.int .i64 a0.n),(.int .i64 a0.node.Start),(.sl (List.map eTState a0.node.States)),(.int .i64 a0.g.N),(.sl (List.map eA2I a0.g.Links))]] [])]])))]
    refine rounds_succ.mpr ?_
    refine qs 56 [] [21,22,23,24] [(1,0),(19,0)] h fun ac wd h => ?_
    refine wp_seq ?_
    refine kT h ?_
    refine wp_skip ?_
    change Code.wp Tryz.prog _ _ _ _
    refine wp_seq ?_
    refine wp_block ?_
    refine qs 60 [] [5,21,22,23] [(1,0),(19,0),(58,0)] h fun ac wd h => ?_
    obtain ⟨an,ao,hD⟩ := oB hD
    have ap := L_table_place_takes_ok ao
    refine qs 64 [factE 62 ap] [21,22,23,30] [(1,0),(19,0)] h fun ac wd h => ?_
    rcases i2b hD with ⟨aq,hD⟩ | ⟨aq,hD⟩
    ·
     refine kF h ?_
     refine wp_skip ?_
     change Code.wp Tryz.prog _ _ _ _
     refine qe [] [21,22,23] [(1,0),(19,0)] h fun ac wd h => ?_
     change Code.rounds Tryz.prog _ _ _ _ _
     have h := h.sm 66 [(21,.one (.own (19,0) 5)),(22,.one (.d (.int .i64 5))),(23,.one (.d (.int .i64 4)))]
      [((1,0),some (.box 170 (cTPlace aa.2))),((19,0),some (.row 182 1 ([[.fnp 94 [((1,0),0)]],[.d (.fn 95 [.inl [(.int .i64 a0.State.Mode),(.sl (List.map eI a0.State.Waits)),(.sl (List.map eTPick a0.State.Picks)),(.sl (List.map eTTake a0.State.Takes)),(.int .i64 a0.n),(.int .i64 a0.node.Start),(.sl (List.map eTState a0.node.States)),(.int .i64 a0.g.N),(.sl (List.map eA2I a0.g.Links))]] [])],[.d (.fn 96 [.inl [(.int .i64 a0.State.Mode),(.sl (List.map eI a0.State.Waits)),(.sl (List.map eTPick a0.State.Picks)),(.sl (List.map eTTake a0.State.Takes)),(.int .i64 a0.n),(.int .i64 a0.node.Start),(.sl (List.map eTState a0.node.States)),(.int .i64 a0.g.N),(.sl (List.map eA2I a0.g.Links))]] [])],[.d (.fn 97 [.inl [(.int .i64 a0.State.Mode),(.sl (List.map eI a0.State.Waits)),(.sl (List.map eTPick a0.State.Picks)),(.sl (List.map eTTake a0.State.Takes)),(.int .i64 a0.n),(.int .i64 a0.node.Start),(.sl (List.map eTState a0.node.States)),(.int .i64 a0.g.N),(.sl (List.map eA2I a0.g.Links))]] [])],[.d (.fn 98 [.inl [(.int .i64 a0.State.Mode),(.sl (List.map eI a0.State.Waits)),(.sl (List.map eTPick a0.State.Picks)),(.sl (List.map eTTake a0.State.Takes)),(.int .i64 a0.n),(.int .i64 a0.node.Start),(.sl (List.map eTState a0.node.States)),(.int .i64 a0.g.N),(.sl (List.map eA2I a0.g.Links))]] [])]])))]
     refine rounds_succ.mpr ?_
     refine qs 67 [] [21,22,23,24] [(1,0),(19,0)] h fun ac wd h => ?_
     refine wp_seq ?_
     refine kT h ?_
     refine wp_skip ?_
     change Code.wp Tryz.prog _ _ _ _
     refine wp_seq ?_
     refine wp_block ?_
     refine qs 71 [] [5,21,22,23] [(1,0),(19,0),(69,0)] h fun ac wd h => ?_
     obtain ⟨ar,au,hD⟩ := oB hD
     have av := L_table_place_stays_ok au
     refine qs 75 [factE 73 av] [21,22,23,30] [(1,0),(19,0)] h fun ac wd h => ?_
     rcases i2b hD with ⟨aw,hD⟩ | ⟨aw,hD⟩
     ·
      refine kF h ?_
      refine wp_skip ?_
      change Code.wp Tryz.prog _ _ _ _
      refine qe [] [21,22,23] [(1,0),(19,0)] h fun ac wd h => ?_
      change Code.rounds Tryz.prog _ _ _ _ _
      have h := h.sm 77 [(21,.one (.own (19,0) 5)),(22,.one (.d (.int .i64 5))),(23,.one (.d (.int .i64 5)))]
       [((1,0),some (.box 170 (cTPlace aa.2))),((19,0),some (.row 182 1 ([[.fnp 94 [((1,0),0)]],[.d (.fn 95 [.inl [(.int .i64 a0.State.Mode),(.sl (List.map eI a0.State.Waits)),(.sl (List.map eTPick a0.State.Picks)),(.sl (List.map eTTake a0.State.Takes)),(.int .i64 a0.n),(.int .i64 a0.node.Start),(.sl (List.map eTState a0.node.States)),(.int .i64 a0.g.N),(.sl (List.map eA2I a0.g.Links))]] [])],[.d (.fn 96 [.inl [(.int .i64 a0.State.Mode),(.sl (List.map eI a0.State.Waits)),(.sl (List.map eTPick a0.State.Picks)),(.sl (List.map eTTake a0.State.Takes)),(.int .i64 a0.n),(.int .i64 a0.node.Start),(.sl (List.map eTState a0.node.States)),(.int .i64 a0.g.N),(.sl (List.map eA2I a0.g.Links))]] [])],[.d (.fn 97 [.inl [(.int .i64 a0.State.Mode),(.sl (List.map eI a0.State.Waits)),(.sl (List.map eTPick a0.State.Picks)),(.sl (List.map eTTake a0.State.Takes)),(.int .i64 a0.n),(.int .i64 a0.node.Start),(.sl (List.map eTState a0.node.States)),(.int .i64 a0.g.N),(.sl (List.map eA2I a0.g.Links))]] [])],[.d (.fn 98 [.inl [(.int .i64 a0.State.Mode),(.sl (List.map eI a0.State.Waits)),(.sl (List.map eTPick a0.State.Picks)),(.sl (List.map eTTake a0.State.Takes)),(.int .i64 a0.n),(.int .i64 a0.node.Start),(.sl (List.map eTState a0.node.States)),(.int .i64 a0.g.N),(.sl (List.map eA2I a0.g.Links))]] [])]])))]
      refine rounds_succ.mpr ?_
      refine qs 78 [] [21,22,23,24] [(1,0),(19,0)] h fun ac wd h => ?_
      refine wp_seq ?_
      refine kF h ?_
      refine wp_exit ?_
      change Code.wp Tryz.prog _ _ _ _
      refine qs 79 [] [2] [] h fun ac wd h => ?_
      refine wp_ret ?_
      injection hD with hD
      subst hD
      exact rE h [.tmp 2]
     ·
      refine kT h ?_
      refine qs 76 [] [2] [] h fun ac wd h => ?_
      refine wp_ret ?_
      injection hD with hD
      subst hD
      exact rE h [.tmp 2]
    ·
     refine kT h ?_
     refine qs 65 [] [2] [] h fun ac wd h => ?_
     refine wp_ret ?_
     injection hD with hD
     subst hD
     exact rE h [.tmp 2]
   ·
    refine kT h ?_
    refine qs 54 [] [2] [] h fun ac wd h => ?_
    refine wp_ret ?_
    injection hD with hD
    subst hD
    exact rE h [.tmp 2]
  ·
   refine kT h ?_
   refine qs 43 [] [2] [] h fun ac wd h => ?_
   refine wp_ret ?_
   injection hD with hD
   subst hD
   exact rE h [.tmp 2]
 ·
  refine kT h ?_
  refine qs 32 [] [2] [] h fun ac wd h => ?_
  refine wp_ret ?_
  injection hD with hD
  subst hD
  exact rE h [.tmp 2]

theorem L_table_Right_ok {a0 : (List TNode)} {a1 : TGraph} {r : Bool} (hD : L_table_Right a0 a1 = some r) :
  CallH Tryz.prog 66 [.one (.d (.sl (List.map eTNode a0))),.agg (cTGraph a1)] []
   (.one (.d (.bool r))) [] := by
 unfold L_table_Right at hD
 refine rc Tryz.func66 rfl Tryz.ntmps66 fun S Φ P0 wb ac h => ?_
 refine qs 3 [] [0,3] [(1,0)] h fun ac wd h => ?_
 refine wp_seq ?_
 obtain ⟨aa,ab,hD⟩ := Option.bind_eq_some_iff.1 hD
 refine r_seqJ (fun ac wd => ∃ (ad : Bool),ad = aa ∧ SL ⟨wb,S,Φ,P0⟩ 65 13 [(0,.one (.d (.sl (List.map eTNode a0)))),(3,.one (.ptr (1,0) 0)),(18,.one (.d (.bool ad)))] [((1,0),some (.box 24 (cTGraph a1)))] ac wd) ?_ ?_
 ·
  obtain ⟨ae,af,ab⟩ := oB ab
  rcases i2b ab with ⟨ag,ab⟩ | ⟨ag,ab⟩
  ·
   have ah := L_graph_Right_ok af
   refine qeg [factE 4 ah] [none,none,none,none,some (some 12,false),some (some 12,false),some (some 12,false),some (some 12,false),some (some 12,false),none] [0,3,18] [(1,0)] h fun ac wd h => ?_
   injection ab with ab; subst ab
   exact ⟨!(decide ((a0.length : Int) = a1.N)),rfl,h.z⟩
  ·
   have ah := L_graph_Right_ok af
   refine qeg [factE 4 ah] [none,none,none,none,some (some 12,false),some (some 12,false),some (some 12,false),some (some 12,false),some (some 12,false),none] [0,3,18] [(1,0)] h fun ac wd h => ?_
   injection ab with ab; subst ab
   exact ⟨true,rfl,h.z⟩
 ·
  rintro ac wd ⟨ad,rfl,h⟩
  (try dsimp only at hD)
  rcases i2b hD with ⟨ai,hD⟩ | ⟨ai,hD⟩
  ·
   refine kT h ?_
   refine qs 14 [] [4] [] h fun ac wd h => ?_
   refine wp_ret ?_
   injection hD with hD
   subst hD
   exact rE h [.tmp 4]
  ·
   refine kF h ?_
   refine wp_skip ?_
   change Code.wp Tryz.prog _ _ _ _
   refine wp_seq ?_
   refine qs 16 [] [3,19,20,21] [(1,0)] h fun ac wd h => ?_
   refine wp_block ?_
   refine r_while (fun nf ac wd => ∃ (aj : Int),L_table_Right_l1 a0 a1 nf aj = some r ∧ SL ⟨wb,S,Φ,P0⟩ 65 146 [(3,.one (.ptr (1,0) 0)),(19,.one (.d (.sl (List.map eTNode a0)))),(20,.one (.d (.int .i64 (a0.length : Int)))),(21,.one (.d (.int .i64 aj)))] [((1,0),some (.box 24 (cTGraph a1)))] ac wd) (((a0.length : Int) - 0).toNat + 1) ⟨0,hD,h.z⟩ (fun nf ac wd hJ => ?_)
   obtain ⟨aj,ak,h⟩ := hJ
   cases nf with
   | zero => rw [L_table_Right_l1] at ak; cases ak
   | succ nf =>
    rw [L_table_Right_l1] at ak
    refine qs 147 [] [3,19,20,21,22] [(1,0)] h fun ac wd h => ?_
    refine wp_seq ?_
    rcases i2 ak with ⟨al,ak⟩ | ⟨al,ak⟩
    ·
     refine kT h ?_
     refine wp_skip ?_
     change Code.wp Tryz.prog _ _ _ _
     obtain ⟨am,an,ak⟩ := Option.bind_eq_some_iff.1 ak
     refine r_seqJ (fun ac wd => (.inl ()) = am ∧ SL ⟨wb,S,Φ,P0⟩ 65 209 [(3,.one (.ptr (1,0) 0)),(19,.one (.d (.sl (List.map eTNode a0)))),(20,.one (.d (.int .i64 (a0.length : Int)))),(21,.one (.d (.int .i64 aj)))] [((1,0),some (.box 24 (cTGraph a1)))] ac wd) ?_ ?_
     ·
      refine wp_block ?_
      obtain ⟨ao,ap,aq,ar,au,an⟩ := aB an
      refine qs 153 [] [3,5,6,19,20,21] [(1,0),(150,0)] h fun ac wd h => ?_
      refine wp_seq ?_
      obtain ⟨av,aw,an⟩ := Option.bind_eq_some_iff.1 an
      refine r_seqJ (fun ac wd => ∃ (ax : Bool),ax = av ∧ SL ⟨wb,S,Φ,P0⟩ 65 176 [(3,.one (.ptr (1,0) 0)),(5,.one (.d (.int .i64 aj))),(6,.one (.ptr (150,0) 0)),(19,.one (.d (.sl (List.map eTNode a0)))),(20,.one (.d (.int .i64 (a0.length : Int)))),(21,.one (.d (.int .i64 aj))),(48,.one (.d (.bool ax)))] [((1,0),some (.box 24 (cTGraph a1))),((150,0),some (.box 80 (cTNode ao)))] ac wd) ?_ ?_
      ·
       rcases i2 aw with ⟨ay,aw⟩ | ⟨ay,aw⟩
       ·
        refine qeg [] [none,none,none,none,none,some (some 30,false),some (some 30,false),some (some 30,false),some (some 30,false),none,none,some (some 36,false),some (some 36,false),some (some 36,false),none,none,some (some 41,false),some (some 41,false),some (some 41,false),some (some 41,false),some (some 41,false),some (some 41,false),none] [3,5,6,19,20,21,48] [(1,0),(150,0)] h fun ac wd h => ?_
        injection aw with aw; subst aw
        exact ⟨true,rfl,h.z⟩
       ·
        rcases i2 aw with ⟨az,aw⟩ | ⟨az,aw⟩
        ·
         refine qeg [] [none,none,none,none,none,some (some 30,false),some (some 30,false),some (some 30,false),some (some 30,false),none,none,some (some 36,false),some (some 36,false),some (some 36,false),none,none,some (some 41,false),some (some 41,false),some (some 41,false),some (some 41,false),some (some 41,false),some (some 41,false),none] [3,5,6,19,20,21,48] [(1,0),(150,0)] h fun ac wd h => ?_
         injection aw with aw; subst aw
         exact ⟨true,rfl,h.z⟩
        ·
         rcases i2 aw with ⟨aA,aw⟩ | ⟨aA,aw⟩
         ·
          refine qeg [] [none,none,none,none,none,some (some 30,false),some (some 30,false),some (some 30,false),some (some 30,false),none,none,some (some 36,false),some (some 36,false),some (some 36,false),none,none,some (some 41,false),some (some 41,false),some (some 41,false),some (some 41,false),some (some 41,false),some (some 41,false),none] [3,5,6,19,20,21,48] [(1,0),(150,0)] h fun ac wd h => ?_
          injection aw with aw; subst aw
          exact ⟨true,rfl,h.z⟩
         ·
          refine qeg [] [none,none,none,none,none,some (some 30,false),some (some 30,false),some (some 30,false),some (some 30,false),none,none,some (some 36,false),some (some 36,false),some (some 36,false),none,none,some (some 41,false),some (some 41,false),some (some 41,false),some (some 41,false),some (some 41,false),some (some 41,false),none] [3,5,6,19,20,21,48] [(1,0),(150,0)] h fun ac wd h => ?_
          injection aw with aw; subst aw
          exact ⟨decide (ao.Start ≥ (ao.States.length : Int)),rfl,h.z⟩
      ·
       rintro ac wd ⟨ax,rfl,h⟩
       (try dsimp only at an)
       rcases i2b an with ⟨aC,an⟩ | ⟨aC,an⟩
       ·
        refine kT h ?_
        refine qs 177 [] [4] [] h fun ac wd h => ?_
        refine wp_ret ?_
        injection an with an
        subst an
        (try dsimp only at ak)
        injection ak with ak
        subst ak
        exact rE h [.tmp 4]
       ·
        refine kF h ?_
        refine wp_skip ?_
        change Code.wp Tryz.prog _ _ _ _
        refine qs 180 [] [3,5,6,19,20,21,50,51,52] [(1,0),(150,0)] h fun ac wd h => ?_
        obtain ⟨aD,aE,an⟩ := Option.bind_eq_some_iff.1 an
        refine r_meetQ (fun ac wd => (.inl ()) = aD ∧ SL ⟨wb,S,Φ,P0⟩ 65 209 [(3,.one (.ptr (1,0) 0)),(19,.one (.d (.sl (List.map eTNode a0)))),(20,.one (.d (.int .i64 (a0.length : Int)))),(21,.one (.d (.int .i64 aj)))] [((1,0),some (.box 24 (cTGraph a1)))] ac wd) ?_ ?_
        ·
         refine wp_block ?_
         refine r_while (fun nf ac wd => ∃ (aF : Int),L_table_Right_l2 a1 aj ao nf aF = some aD ∧ SL ⟨wb,S,Φ,P0⟩ 65 208 [(3,.one (.ptr (1,0) 0)),(5,.one (.d (.int .i64 aj))),(6,.one (.ptr (150,0) 0)),(19,.one (.d (.sl (List.map eTNode a0)))),(20,.one (.d (.int .i64 (a0.length : Int)))),(21,.one (.d (.int .i64 aj))),(50,.one (.d (.sl (List.map eTState ao.States)))),(51,.one (.d (.int .i64 (ao.States.length : Int)))),(52,.one (.d (.int .i64 aF)))] [((1,0),some (.box 24 (cTGraph a1))),((150,0),some (.box 80 (cTNode ao)))] ac wd) (((ao.States.length : Int) - 0).toNat + 1) ⟨0,aE,h.z⟩ (fun nf ac wd hJ => ?_)
         obtain ⟨aF,aG,h⟩ := hJ
         cases nf with
         | zero => rw [L_table_Right_l2] at aG; cases aG
         | succ nf =>
          rw [L_table_Right_l2] at aG
          refine qs 209 [] [3,5,6,19,20,21,50,51,52,53] [(1,0),(150,0)] h fun ac wd h => ?_
          refine wp_seq ?_
          rcases i2 aG with ⟨aH,aG⟩ | ⟨aH,aG⟩
          ·
           refine kT h ?_
           refine wp_skip ?_
           change Code.wp Tryz.prog _ _ _ _
           refine wp_seq ?_
           refine wp_block ?_
           obtain ⟨aI,aJ,aK,aL,aM,aG⟩ := aB aG
           refine qs 213 [] [3,5,6,8,19,20,21,50,51,52] [(1,0),(150,0),(211,0)] h fun ac wd h => ?_
           obtain ⟨aN,aO,aG⟩ := oB aG
           have aP := L_table_place_may_ok aO
           refine qs 220 [factE 218 aP] [3,5,6,19,20,21,50,51,52,62] [(1,0),(150,0)] h fun ac wd h => ?_
           rcases i2b aG with ⟨aQ,aG⟩ | ⟨aQ,aG⟩
           ·
            refine kF h ?_
            refine wp_skip ?_
            change Code.wp Tryz.prog _ _ _ _
            refine qe [] [3,5,6,19,20,21,50,51,52] [(1,0),(150,0)] h fun ac wd h => ?_
            exact ⟨nf,Nat.lt_succ_self nf,(IntKind.wrap .i64 (aF + 1)),aG,h.z⟩
           ·
            refine kT h ?_
            refine qs 221 [] [4] [] h fun ac wd h => ?_
            refine wp_ret ?_
            injection aG with aG
            subst aG
            (try dsimp only at an)
            injection an with an
            subst an
            (try dsimp only at ak)
            injection ak with ak
            subst ak
            exact rE h [.tmp 4]
          ·
           refine kF h ?_
           refine wp_exit ?_
           injection aG with aG; subst aG
           exact ⟨rfl,h.z⟩
        ·
         rintro ac wd ⟨rfl,h⟩
         (try dsimp only at an)
         injection an with an; subst an
         exact ⟨rfl,h.z⟩
     ·
      rintro ac wd ⟨rfl,h⟩
      (try dsimp only at ak)
      refine qe [] [3,19,20,21] [(1,0)] h fun ac wd h => ?_
      exact ⟨nf,Nat.lt_succ_self nf,(IntKind.wrap .i64 (aj + 1)),ak,h.z⟩
    ·
     refine kF h ?_
     refine wp_exit ?_
     change Code.wp Tryz.prog _ _ _ _
     refine qs 148 [] [4] [] h fun ac wd h => ?_
     refine wp_ret ?_
     injection ak with ak
     subst ak
     exact rE h [.tmp 4]

theorem L_host_Host_told_ok {a0 : THost} {r : TPiece} (hD : L_host_Host_told a0 = some r) :
  CallH Tryz.prog 68 [.agg (cTHost a0)] []
   (.agg [.d (.int .i64 r.Node),.d (.int .i64 r.State),.d (.int .i64 r.Steps),.d (.sl (List.map eI r.Sent)),.d (.sl (List.map (eL eTMsg) r.In)),.d (.sl (List.map (eL eI) r.Out))]) [] := by
 unfold L_host_Host_told at hD
 refine rc Tryz.func68 rfl Tryz.ntmps68 fun S Φ P0 wb ac h => ?_
 refine qs 3 [] [1,2] [(1,0),(2,0)] h fun ac wd h => ?_
 refine qs 15 [] [2] [(2,0)] h fun ac wd h => ?_
 refine wp_ret ?_
 injection hD with hD
 subst hD
 exact rE h [.cell 2 102]

theorem L_piece_within_ok {a0 : Int} {a1 : Int} {r : Bool} (hD : L_piece_within a0 a1 = some r) :
  CallH Tryz.prog 84 [.one (.d (.int .i64 a0)),.one (.d (.int .i64 a1))] []
   (.one (.d (.bool r))) [] := by
 unfold L_piece_within at hD
 refine rc Tryz.func84 rfl Tryz.ntmps84 fun S Φ P0 wb ac h => ?_
 refine qs 2 [] [0,1] [] h fun ac wd h => ?_
 obtain ⟨e8,ab,hD⟩ := Option.bind_eq_some_iff.1 hD
 refine r_seqJ (fun ac wd => ∃ (b7 : Bool),b7 = e8 ∧ SL ⟨wb,S,Φ,P0⟩ 12 10 [(4,.one (.d (.bool b7)))] [] ac wd) ?_ ?_
 ·
  rcases i2 ab with ⟨ae,ab⟩ | ⟨ae,ab⟩
  ·
   refine qeg [] [none,none,none,some (some 7,true),some (some 7,true),some (some 7,true),none,none] [4] [] h fun ac wd h => ?_
   injection ab with ab; subst ab
   exact ⟨decide (a0 ≤ a1),rfl,h.z⟩
  ·
   refine qeg [] [none,none,none,some (some 7,true),some (some 7,true),some (some 7,true),none,none] [4] [] h fun ac wd h => ?_
   injection ab with ab; subst ab
   exact ⟨false,rfl,h.z⟩
 ·
  rintro ac wd ⟨b7,rfl,h⟩
  (try dsimp only at hD)
  refine wp_ret ?_
  injection hD with hD
  subst hD
  exact rE h [.tmp 4]

theorem L_piece_rising_ok {a0 : (List TMsg)} {r : Bool} (hD : L_piece_rising a0 = some r) :
  CallH Tryz.prog 85 [.one (.d (.sl (List.map eTMsg a0)))] []
   (.one (.d (.bool r))) [] := by
 unfold L_piece_rising at hD
 refine rc Tryz.func85 rfl Tryz.ntmps85 fun S Φ P0 wb ac h => ?_
 refine qs 2 [] [0] [] h fun ac wd h => ?_
 refine qs 3 [] [0,3] [] h fun ac wd h => ?_
 refine wp_seq ?_
 refine qs 6 [] [3,6,7,8] [] h fun ac wd h => ?_
 refine wp_block ?_
 refine r_while (fun nf ac wd => ∃ (aa : Int) (ab : Int),L_piece_rising_l1 a0 nf aa ab = some r ∧ SL ⟨wb,S,Φ,P0⟩ 30 56 [(3,.one (.d (.int .i64 aa))),(6,.one (.d (.sl (List.map eTMsg a0)))),(7,.one (.d (.int .i64 (a0.length : Int)))),(8,.one (.d (.int .i64 ab)))] [] ac wd) (((a0.length : Int) - 0).toNat + 1) ⟨0,0,hD,h.z⟩ (fun nf ac wd hJ => ?_)
 obtain ⟨aa,ab,ad,h⟩ := hJ
 cases nf with
 | zero => rw [L_piece_rising_l1] at ad; cases ad
 | succ nf =>
  rw [L_piece_rising_l1] at ad
  refine qs 57 [] [3,6,7,8,9] [] h fun ac wd h => ?_
  refine wp_seq ?_
  rcases i2 ad with ⟨ae,ad⟩ | ⟨ae,ad⟩
  ·
   refine kT h ?_
   refine wp_skip ?_
   change Code.wp Tryz.prog _ _ _ _
   refine wp_seq ?_
   refine wp_block ?_
   obtain ⟨af,ag,ah,ai,aj,ad⟩ := aB ad
   refine qs 61 [] [3,5,6,7,8] [(59,0)] h fun ac wd h => ?_
   refine wp_seq ?_
   obtain ⟨ak,al,ad⟩ := Option.bind_eq_some_iff.1 ad
   refine r_seqJ (fun ac wd => ∃ (am : Bool),am = ak ∧ SL ⟨wb,S,Φ,P0⟩ 30 76 [(5,.one (.ptr (59,0) 0)),(6,.one (.d (.sl (List.map eTMsg a0)))),(7,.one (.d (.int .i64 (a0.length : Int)))),(8,.one (.d (.int .i64 ab))),(26,.one (.d (.bool am)))] [((59,0),some (.box 34 (cTMsg af)))] ac wd) ?_ ?_
   ·
    rcases i2 al with ⟨an,al⟩ | ⟨an,al⟩
    ·
     refine qeg [] [none,none,none,none,none,some (some 16,false),some (some 16,false),some (some 16,false),none,none,some (some 21,false),some (some 21,false),some (some 21,false),some (some 21,false),none] [5,6,7,8,26] [(59,0)] h fun ac wd h => ?_
     injection al with al; subst al
     exact ⟨true,rfl,h.z⟩
    ·
     rcases i2 al with ⟨ao,al⟩ | ⟨ao,al⟩
     ·
      refine qeg [] [none,none,none,none,none,some (some 16,false),some (some 16,false),some (some 16,false),none,none,some (some 21,false),some (some 21,false),some (some 21,false),some (some 21,false),none] [5,6,7,8,26] [(59,0)] h fun ac wd h => ?_
      injection al with al; subst al
      exact ⟨true,rfl,h.z⟩
     ·
      obtain ⟨ap,aq,al⟩ := oB al
      have ar := L_piece_within_ok aq
      refine qeg [factE 73 ar] [none,none,none,none,none,some (some 16,false),some (some 16,false),some (some 16,false),none,none,some (some 21,false),some (some 21,false),some (some 21,false),some (some 21,false),none] [5,6,7,8,26] [(59,0)] h fun ac wd h => ?_
      injection al with al; subst al
      exact ⟨!(ap),rfl,h.z⟩
   ·
    rintro ac wd ⟨am,rfl,h⟩
    (try dsimp only at ad)
    rcases i2b ad with ⟨au,ad⟩ | ⟨au,ad⟩
    ·
     refine kT h ?_
     refine qs 77 [] [2] [] h fun ac wd h => ?_
     refine wp_ret ?_
     injection ad with ad
     subst ad
     exact rE h [.tmp 2]
    ·
     refine kF h ?_
     refine wp_skip ?_
     change Code.wp Tryz.prog _ _ _ _
     refine qe [] [3,6,7,8] [] h fun ac wd h => ?_
     change Code.wp Tryz.prog _ _ _ _
     refine qe [] [3,6,7,8] [] h fun ac wd h => ?_
     exact ⟨nf,Nat.lt_succ_self nf,af.Seq,(IntKind.wrap .i64 (ab + 1)),ad,h.z⟩
  ·
   refine kF h ?_
   refine wp_exit ?_
   change Code.wp Tryz.prog _ _ _ _
   refine qs 58 [] [2] [] h fun ac wd h => ?_
   refine wp_ret ?_
   injection ad with ad
   subst ad
   exact rE h [.tmp 2]

theorem L_piece_Right_1_ok {a0 : Int} {r : Bool} (hD : L_piece_Right_1 a0 = some r) :
  CallH Tryz.prog 86 [.one (.d (.int .i64 a0))] []
   (.one (.d (.bool r))) [] := by
 unfold L_piece_Right_1 at hD
 refine rc Tryz.func86 rfl Tryz.ntmps86 fun S Φ P0 wb ac h => ?_
 refine qs 2 [] [0] [] h fun ac wd h => ?_
 obtain ⟨r7,ab,hD⟩ := oB hD
 have ad := L_piece_within_ok ab
 refine qs 6 [factE 3 ad] [2] [] h fun ac wd h => ?_
 refine wp_ret ?_
 injection hD with hD
 subst hD
 exact rE h [.tmp 2]

end Go.Proofs.YtabbejabdkkaiaaGreat
