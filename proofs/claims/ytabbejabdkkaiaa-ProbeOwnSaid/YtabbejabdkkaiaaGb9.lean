/- Functions as typed ones,and that the program's functions answer as these do. No condition. -/
import Derived.Test.YtabbejabdkkaiaaGb7
import Derived.Test.YtabbejabdkkaiaaGd
set_option linter.unusedSimpArgs false
set_option linter.unusedVariables false
set_option maxRecDepth 20000
set_option maxHeartbeats 4000000
namespace Go.Proofs.Ytabbejabdkkaiaa
open Go.RowKit

theorem L_probe_Hear_v1_own {a0 : TApp} {a1 : THost} {a2 : (List Int)} {a3 : Int} {a4 : TFrame} {r : (List Int) × (List TOut) × (List Int)} (hD : L_probe_Hear_v1 a0 a1 a2 a3 a4 = some r) :
  CallH Try.prog 27 [.agg (cTApp a0),.agg (cTHost a1),.one (.d (.sl (List.map eI a2))),.one (.d (.int .i64 a3)),.agg (cTFrame a4)] []
   (.tup [.inr (.own (1,0) r.1.length),.inr (.own (1,1) r.2.1.length),.inr (.nil)]) [((1,0),some (.row 3 1 (dat (List.map eI r.1)))),((1,1),some (.row 93 10 (openRows cols_93 (List.map eTOut r.2.1))))] := by
 unfold L_probe_Hear_v1 at hD
 refine rc Try.func27 rfl Try.ntmps27 fun S Φ P0 wb ac h => ?_
 refine qs 7 [] [2,3,5,6,9] [(1,0),(2,0),(3,0)] h fun ac wd h => ?_
 refine qs 12 [] [2,3,5,6,9,13] [(1,0),(2,0),(3,0),(10,0)] h fun ac wd h => ?_
 refine qs 15 [] [2,3,5,6,9,13,14] [(1,0),(2,0),(3,0),(10,0)] h fun ac wd h => ?_
 refine wp_seq ?_
 obtain ⟨aa,ab,hD⟩ := Option.bind_eq_some_iff.1 hD
 refine r_seqJ (fun ac wd => ∃ (ad : Bool),ad = aa ∧ SL ⟨wb,S,Φ,P0⟩ 89 40 [(2,.one (.d (.sl (List.map eI a2)))),(6,.one (.ptr (2,0) 0)),(9,.one (.ptr (3,0) 0)),(13,.one (.ptr (10,0) 0)),(45,.one (.d (.bool ad)))] [((2,0),some (.box 57 (cTHost a1))),((3,0),some (.box 62 (cTFrame a4))),((10,0),some (.box 163 (cTHost a1 ++ cTApp a0)))] ac wd) ?_ ?_
 ·
  obtain ⟨ae,af,ab⟩ := oB ab
  obtain ⟨ag,ah,ab⟩ := oB ab
  rcases i2b ab with ⟨ai,ab⟩ | ⟨ai,ab⟩
  ·
   obtain ⟨aj,ak,ab⟩ := oB ab
   rcases i2b ab with ⟨al,ab⟩ | ⟨al,ab⟩
   ·
    obtain ⟨am,an,ab⟩ := oB ab
    obtain ⟨ao,ap,ab⟩ := oB ab
    have aq := L_graph_In_ok af
    have ar := L_slices_Contains_int_int_ok ah
    have au := L_probe_seat_blocked_ok ak
    have av := L_graph_Back_ok an
    have aw := L_host_Gave_ok ap
    refine deg [factE 19 aq,factE 21 ar,factE 25 au,factE 34 av,factE 35 aw] [none,none,none,none,none,none,none,none,none,some (some 29,false),some (some 29,false),some (some 29,false),none,none,some (some 34,false),some (some 34,false),some (some 34,false),some (some 34,false),some (some 34,false),some (some 34,false),some (some 34,false),some (some 34,false),some (some 34,false),some (some 34,false),none] [2,6,9,13,45] [(2,0),(3,0),(10,0)] h fun ac wd h => ?_
    injection ab with ab; subst ab
    exact ⟨!(decide (ao = a4.Count)),rfl,h.z⟩
   ·
    have aq := L_graph_In_ok af
    have ar := L_slices_Contains_int_int_ok ah
    have au := L_probe_seat_blocked_ok ak
    refine deg [factE 19 aq,factE 21 ar,factE 25 au] [none,none,none,none,none,none,none,none,none,some (some 29,false),some (some 29,false),some (some 29,false),none,none,some (some 34,false),some (some 34,false),some (some 34,false),some (some 34,false),some (some 34,false),some (some 34,false),some (some 34,false),some (some 34,false),some (some 34,false),some (some 34,false),none] [2,6,9,13,45] [(2,0),(3,0),(10,0)] h fun ac wd h => ?_
    injection ab with ab; subst ab
    exact ⟨true,rfl,h.z⟩
  ·
   have aq := L_graph_In_ok af
   have ar := L_slices_Contains_int_int_ok ah
   refine deg [factE 19 aq,factE 21 ar] [none,none,none,none,none,none,none,none,none,some (some 29,false),some (some 29,false),some (some 29,false),none,none,some (some 34,false),some (some 34,false),some (some 34,false),some (some 34,false),some (some 34,false),some (some 34,false),some (some 34,false),some (some 34,false),some (some 34,false),some (some 34,false),none] [2,6,9,13,45] [(2,0),(3,0),(10,0)] h fun ac wd h => ?_
   injection ab with ab; subst ab
   exact ⟨true,rfl,h.z⟩
 ·
  rintro ac wd ⟨ad,rfl,h⟩
  (try dsimp only at hD)
  rcases i2b hD with ⟨ax,hD⟩ | ⟨ax,hD⟩
  ·
   refine kT h ?_
   refine qs 44 [] [10,11,12] [] h fun ac wd h => ?_
   refine wp_ret ?_
   cases hD
  ·
   refine kF h ?_
   refine wp_skip ?_
   change Code.wp Try.prog _ _ _ _
   refine wp_seq ?_
   refine qs 45 [] [2,9,13,51] [(3,0),(10,0)] h fun ac wd h => ?_
   rcases i2e hD with ⟨ay,hD⟩ | ⟨ay,hD⟩
   ·
    refine kT h ?_
    obtain ⟨az,aA,hD⟩ := oB hD
    have aC := L_slices_Clone_int_int_ok aA
    refine qs 52 [factE 48 aC] [10,11,12] [] h fun ac wd h => ?_
    refine wp_ret ?_
    cases hD
   ·
    refine kF h ?_
    refine wp_skip ?_
    change Code.wp Try.prog _ _ _ _
    refine wp_seq ?_
    obtain ⟨aD,aE,hD⟩ := oB hD
    have aF := L_probe_last_ok aE
    refine ds 52 [factE 48 aF] [2,9,13,62] [(3,0),(10,0)] h fun ac wd h => ?_
    rcases i2 hD with ⟨aG,hD⟩ | ⟨aG,hD⟩
    ·
     refine kT h ?_
     refine qs 56 [] [10,11,12] [] h fun ac wd h => ?_
     refine wp_ret ?_
     cases hD
    ·
     refine kF h ?_
     refine wp_skip ?_
     change Code.wp Try.prog _ _ _ _
     obtain ⟨aH,hD⟩ := iT hD
     obtain ⟨aI,hD⟩ := iT hD
     obtain ⟨aJ,hD⟩ := iT hD
     refine qs 60 [] [2,9,13,15] [(3,0),(10,0),(58,0)] h fun ac wd h => ?_
     obtain ⟨aK,aL,hD⟩ := vB hD
     have h := h.same [2,9,13,15] [(3,0),(10,0),(58,0)] 60 [(2,.one (.d (.sl (List.map eI a2)))),(9,.one (.ptr (3,0) 0)),(13,.one (.ptr (10,0) 0)),(15,.one (.own (58,0) aK.length))]
      [((3,0),some (.box 62 (cTFrame a4))),((10,0),some (.box 163 (cTHost a1 ++ cTApp a0))),((58,0),some (.row 3 1 (dat (List.map eI aK))))]
      (by simp only [EZ,simprocAttr,ax,ay,aG,aH,aI,aJ,dat_open,← aL] <;> rfl)
     have aM : ((a2.take aK.length) ++ aK.drop (a2.take aK.length).length).length = aK.length := by simp only [List.append_assoc,List.length_append,List.length_take,List.length_drop]; omega
     simp only [List.append_assoc,List.length_append,List.length_take,List.length_drop] at aM
     refine qs 63 [] [9,13,15] [(3,0),(10,0),(58,0)] h fun ac wd h => ?_
     obtain ⟨aN,aO,hD⟩ := vB hD
     have h := h.same [9,13,15] [(3,0),(10,0),(58,0)] 63 [(9,.one (.ptr (3,0) 0)),(13,.one (.ptr (10,0) 0)),(15,.one (.own (58,0) aN.length))]
      [((3,0),some (.box 62 (cTFrame a4))),((10,0),some (.box 163 (cTHost a1 ++ cTApp a0))),((58,0),some (.row 3 1 (dat (List.map eI aN))))]
      (by simp only [EZ,simprocAttr,ax,ay,aG,aH,aI,aJ,aM,dat_open,← aO] <;> rfl)
     obtain ⟨aP,aQ,aR,aS,aT,hD⟩ := aB hD
     refine qs 70 [] [9,13,15] [(3,0),(10,0),(58,0)] h fun ac wd h => ?_
     obtain ⟨aU,aV,hD⟩ := oB hD
     have aW := ((L_probe_seat_probe_own aV).cls 78).z
     refine qs 82 [factO aW] [10,11,12] [(58,0),(78,0)] h fun ac wd h => ?_
     refine wp_ret ?_
     have h := h.sw (1,0) (58,0) 82
     have h := h.sw (1,1) (78,0) 82
     injection hD with hD
     subst hD
     exact rO h [.tmp 10,.tmp 11,.tmp 12] [(1,0),(1,1)]

theorem L_probe_Hear_v2_own {a0 : TApp} {a1 : THost} {a2 : (List Int)} {a3 : Int} {a4 : TFrame} {r : (List Int) × (List TOut) × (List Int)} (hD : L_probe_Hear_v2 a0 a1 a2 a3 a4 = some r) :
  CallH Try.prog 27 [.agg (cTApp a0),.agg (cTHost a1),.one (.d (.sl (List.map eI a2))),.one (.d (.int .i64 a3)),.agg (cTFrame a4)] []
   (.tup [.inr (.d (.sl (List.map eI r.1))),.inr (.nil),.inr (.own (1,0) r.2.2.length)]) [((1,0),some (.row 3 1 (dat (List.map eI r.2.2))))] := by
 unfold L_probe_Hear_v2 at hD
 refine rc Try.func27 rfl Try.ntmps27 fun S Φ P0 wb ac h => ?_
 refine qs 7 [] [2,3,5,6,9] [(1,0),(2,0),(3,0)] h fun ac wd h => ?_
 refine qs 12 [] [2,3,5,6,9,13] [(1,0),(2,0),(3,0),(10,0)] h fun ac wd h => ?_
 refine qs 15 [] [2,3,5,6,9,13,14] [(1,0),(2,0),(3,0),(10,0)] h fun ac wd h => ?_
 refine wp_seq ?_
 obtain ⟨aa,ab,hD⟩ := Option.bind_eq_some_iff.1 hD
 refine r_seqJ (fun ac wd => ∃ (ad : Bool),ad = aa ∧ SL ⟨wb,S,Φ,P0⟩ 89 40 [(2,.one (.d (.sl (List.map eI a2)))),(6,.one (.ptr (2,0) 0)),(9,.one (.ptr (3,0) 0)),(13,.one (.ptr (10,0) 0)),(45,.one (.d (.bool ad)))] [((2,0),some (.box 57 (cTHost a1))),((3,0),some (.box 62 (cTFrame a4))),((10,0),some (.box 163 (cTHost a1 ++ cTApp a0)))] ac wd) ?_ ?_
 ·
  obtain ⟨ae,af,ab⟩ := oB ab
  obtain ⟨ag,ah,ab⟩ := oB ab
  rcases i2b ab with ⟨ai,ab⟩ | ⟨ai,ab⟩
  ·
   obtain ⟨aj,ak,ab⟩ := oB ab
   rcases i2b ab with ⟨al,ab⟩ | ⟨al,ab⟩
   ·
    obtain ⟨am,an,ab⟩ := oB ab
    obtain ⟨ao,ap,ab⟩ := oB ab
    have aq := L_graph_In_ok af
    have ar := L_slices_Contains_int_int_ok ah
    have au := L_probe_seat_blocked_ok ak
    have av := L_graph_Back_ok an
    have aw := L_host_Gave_ok ap
    refine deg [factE 19 aq,factE 21 ar,factE 25 au,factE 34 av,factE 35 aw] [none,none,none,none,none,none,none,none,none,some (some 29,false),some (some 29,false),some (some 29,false),none,none,some (some 34,false),some (some 34,false),some (some 34,false),some (some 34,false),some (some 34,false),some (some 34,false),some (some 34,false),some (some 34,false),some (some 34,false),some (some 34,false),none] [2,6,9,13,45] [(2,0),(3,0),(10,0)] h fun ac wd h => ?_
    injection ab with ab; subst ab
    exact ⟨!(decide (ao = a4.Count)),rfl,h.z⟩
   ·
    have aq := L_graph_In_ok af
    have ar := L_slices_Contains_int_int_ok ah
    have au := L_probe_seat_blocked_ok ak
    refine deg [factE 19 aq,factE 21 ar,factE 25 au] [none,none,none,none,none,none,none,none,none,some (some 29,false),some (some 29,false),some (some 29,false),none,none,some (some 34,false),some (some 34,false),some (some 34,false),some (some 34,false),some (some 34,false),some (some 34,false),some (some 34,false),some (some 34,false),some (some 34,false),some (some 34,false),none] [2,6,9,13,45] [(2,0),(3,0),(10,0)] h fun ac wd h => ?_
    injection ab with ab; subst ab
    exact ⟨true,rfl,h.z⟩
  ·
   have aq := L_graph_In_ok af
   have ar := L_slices_Contains_int_int_ok ah
   refine deg [factE 19 aq,factE 21 ar] [none,none,none,none,none,none,none,none,none,some (some 29,false),some (some 29,false),some (some 29,false),none,none,some (some 34,false),some (some 34,false),some (some 34,false),some (some 34,false),some (some 34,false),some (some 34,false),some (some 34,false),some (some 34,false),some (some 34,false),some (some 34,false),none] [2,6,9,13,45] [(2,0),(3,0),(10,0)] h fun ac wd h => ?_
   injection ab with ab; subst ab
   exact ⟨true,rfl,h.z⟩
 ·
  rintro ac wd ⟨ad,rfl,h⟩
  (try dsimp only at hD)
  rcases i2b hD with ⟨ax,hD⟩ | ⟨ax,hD⟩
  ·
   refine kT h ?_
   refine qs 44 [] [10,11,12] [] h fun ac wd h => ?_
   refine wp_ret ?_
   have h := SL.bornS h 12 3 1 (by simp only [EZ,simprocAttr, *] <;> rfl)
   have h := h.sw (1,0) (44,0) 45
   injection hD with hD
   subst hD
   exact rO h [.tmp 10,.tmp 11,.tmp 12] [(1,0)]
  ·
   refine kF h ?_
   refine wp_skip ?_
   change Code.wp Try.prog _ _ _ _
   refine wp_seq ?_
   refine qs 45 [] [2,9,13,51] [(3,0),(10,0)] h fun ac wd h => ?_
   rcases i2e hD with ⟨ay,hD⟩ | ⟨ay,hD⟩
   ·
    refine kT h ?_
    obtain ⟨az,aA,hD⟩ := oB hD
    have aC := ((L_slices_Clone_int_int_own aA).cls 48).z
    refine qs 52 [factO aC] [10,11,12] [(48,0)] h fun ac wd h => ?_
    refine wp_ret ?_
    have h := h.sw (1,0) (48,0) 52
    injection hD with hD
    subst hD
    exact rO h [.tmp 10,.tmp 11,.tmp 12] [(1,0)]
   ·
    refine kF h ?_
    refine wp_skip ?_
    change Code.wp Try.prog _ _ _ _
    refine wp_seq ?_
    obtain ⟨aD,aE,hD⟩ := oB hD
    have aF := L_probe_last_ok aE
    refine ds 52 [factE 48 aF] [2,9,13,62] [(3,0),(10,0)] h fun ac wd h => ?_
    rcases i2 hD with ⟨aG,hD⟩ | ⟨aG,hD⟩
    ·
     refine kT h ?_
     refine qs 56 [] [10,11,12] [] h fun ac wd h => ?_
     refine wp_ret ?_
     have h := SL.bornS h 12 3 1 (by simp only [EZ,simprocAttr, *] <;> rfl)
     have h := h.sw (1,0) (56,0) 57
     injection hD with hD
     subst hD
     exact rO h [.tmp 10,.tmp 11,.tmp 12] [(1,0)]
    ·
     refine kF h ?_
     refine wp_skip ?_
     change Code.wp Try.prog _ _ _ _
     obtain ⟨aH,hD⟩ := iT hD
     obtain ⟨aI,hD⟩ := iT hD
     obtain ⟨aJ,hD⟩ := iT hD
     refine qs 60 [] [2,9,13,15] [(3,0),(10,0),(58,0)] h fun ac wd h => ?_
     obtain ⟨aK,aL,hD⟩ := vB hD
     have h := h.same [2,9,13,15] [(3,0),(10,0),(58,0)] 60 [(2,.one (.d (.sl (List.map eI a2)))),(9,.one (.ptr (3,0) 0)),(13,.one (.ptr (10,0) 0)),(15,.one (.own (58,0) aK.length))]
      [((3,0),some (.box 62 (cTFrame a4))),((10,0),some (.box 163 (cTHost a1 ++ cTApp a0))),((58,0),some (.row 3 1 (dat (List.map eI aK))))]
      (by simp only [EZ,simprocAttr,ax,ay,aG,aH,aI,aJ,dat_open,← aL] <;> rfl)
     have aM : ((a2.take aK.length) ++ aK.drop (a2.take aK.length).length).length = aK.length := by simp only [List.append_assoc,List.length_append,List.length_take,List.length_drop]; omega
     simp only [List.append_assoc,List.length_append,List.length_take,List.length_drop] at aM
     refine qs 63 [] [9,13,15] [(3,0),(10,0),(58,0)] h fun ac wd h => ?_
     obtain ⟨aN,aO,hD⟩ := vB hD
     have h := h.same [9,13,15] [(3,0),(10,0),(58,0)] 63 [(9,.one (.ptr (3,0) 0)),(13,.one (.ptr (10,0) 0)),(15,.one (.own (58,0) aN.length))]
      [((3,0),some (.box 62 (cTFrame a4))),((10,0),some (.box 163 (cTHost a1 ++ cTApp a0))),((58,0),some (.row 3 1 (dat (List.map eI aN))))]
      (by simp only [EZ,simprocAttr,ax,ay,aG,aH,aI,aJ,aM,dat_open,← aO] <;> rfl)
     obtain ⟨aP,aQ,aR,aS,aT,hD⟩ := aB hD
     refine qs 70 [] [9,13,15] [(3,0),(10,0),(58,0)] h fun ac wd h => ?_
     obtain ⟨aU,aV,hD⟩ := oB hD
     have aW := L_probe_seat_probe_ok aV
     refine qs 82 [factE 78 aW] [10,11,12] [(58,0)] h fun ac wd h => ?_
     refine wp_ret ?_
     cases hD

end Go.Proofs.Ytabbejabdkkaiaa
