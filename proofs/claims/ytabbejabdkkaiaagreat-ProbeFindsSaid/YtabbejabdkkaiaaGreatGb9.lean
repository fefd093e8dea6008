/- Functions as typed ones,and that the program's functions answer as these do. No condition. -/
import Derived.Test.YtabbejabdkkaiaaGreatGb4
import Derived.Test.YtabbejabdkkaiaaGreatGb8
import Derived.Test.YtabbejabdkkaiaaGreatGd
set_option linter.unusedSimpArgs false
set_option linter.unusedVariables false
set_option maxRecDepth 20000
set_option maxHeartbeats 4000000
namespace Go.Proofs.YtabbejabdkkaiaaGreat
open Go.RowKit

theorem L_ref16_Hear_own {a0 : TApp} {a1 : THost} {a2 : (List Int)} {a3 : Int} {a4 : TFrame} {r : (List Int) × (List TOut) × (List Int)} (hD : L_ref16_Hear a0 a1 a2 a3 a4 = some r) :
  CallH Tryz.prog 18 [.agg (cTApp a0),.agg (cTHost a1),.one (.d (.sl (List.map eI a2))),.one (.d (.int .i64 a3)),.agg (cTFrame a4)] []
   (.tup [.inr (.d (.sl (List.map eI r.1))),.inr (.own (1,0) r.2.1.length),.inr (.d (.sl (List.map eI r.2.2)))]) [((1,0),some (.row 114 10 (openRows cols_114 (List.map eTOut r.2.1))))] := by
 unfold L_ref16_Hear at hD
 refine rc Tryz.func18 rfl Tryz.ntmps18 fun S Φ P0 wb ac h => ?_
 refine qs 7 [] [2,3,5,6,9] [(1,0),(2,0),(3,0)] h fun ac wd h => ?_
 refine wp_seq ?_
 obtain ⟨aa,ab,hD⟩ := Option.bind_eq_some_iff.1 hD
 refine r_seqJ (fun ac wd => ∃ (ad : Bool),ad = aa ∧ SL ⟨wb,S,Φ,P0⟩ 90 38 [(2,.one (.d (.sl (List.map eI a2)))),(5,.one (.ptr (1,0) 0)),(6,.one (.ptr (2,0) 0)),(9,.one (.ptr (3,0) 0)),(44,.one (.d (.bool ad)))] [((1,0),some (.box 44 (cTApp a0))),((2,0),some (.box 46 (cTHost a1))),((3,0),some (.box 63 (cTFrame a4)))] ac wd) ?_ ?_
 ·
  obtain ⟨ae,af,ab⟩ := oB ab
  obtain ⟨ag,ah,ab⟩ := oB ab
  rcases i2 ab with ⟨ai,ab⟩ | ⟨ai,ab⟩
  ·
   have aj := L_ref03_In_ok af
   have ak := L_ref09_Place_ok ah
   refine deg [factE 11 aj,factE 13 ak] [none,none,none,none,none,none,none,none,none,some (some 22,false),some (some 22,false),some (some 22,false),some (some 22,false),some (some 22,false),some (some 22,false),some (some 22,false),some (some 22,false),some (some 22,false),none,none,some (some 33,false),some (some 33,false),some (some 33,false),some (some 33,false),some (some 33,false),some (some 33,false),some (some 33,false),some (some 33,false),some (some 33,false),some (some 33,false),none] [2,5,6,9,44] [(1,0),(2,0),(3,0)] h fun ac wd h => ?_
   injection ab with ab; subst ab
   exact ⟨true,rfl,h.z⟩
  ·
   obtain ⟨al,am,ab⟩ := oB ab
   rcases i2e ab with ⟨an,ab⟩ | ⟨an,ab⟩
   ·
    obtain ⟨ao,ap,ab⟩ := oB ab
    obtain ⟨aq,ar,ab⟩ := oB ab
    have aj := L_ref03_In_ok af
    have ak := L_ref09_Place_ok ah
    have au := L_ref04_At_ok am
    have av := L_ref03_Back_ok ap
    have aw := L_ref09_Gave_ok ar
    refine deg [factE 11 aj,factE 13 ak,factE 22 au,factE 32 av,factE 33 aw] [none,none,none,none,none,none,none,none,none,some (some 22,false),some (some 22,false),some (some 22,false),some (some 22,false),some (some 22,false),some (some 22,false),some (some 22,false),some (some 22,false),some (some 22,false),none,none,some (some 33,false),some (some 33,false),some (some 33,false),some (some 33,false),some (some 33,false),some (some 33,false),some (some 33,false),some (some 33,false),some (some 33,false),some (some 33,false),none] [2,5,6,9,44] [(1,0),(2,0),(3,0)] h fun ac wd h => ?_
    injection ab with ab; subst ab
    exact ⟨!(decide (aq = a4.Count)),rfl,h.z⟩
   ·
    have aj := L_ref03_In_ok af
    have ak := L_ref09_Place_ok ah
    have au := L_ref04_At_ok am
    refine deg [factE 11 aj,factE 13 ak,factE 22 au] [none,none,none,none,none,none,none,none,none,some (some 22,false),some (some 22,false),some (some 22,false),some (some 22,false),some (some 22,false),some (some 22,false),some (some 22,false),some (some 22,false),some (some 22,false),none,none,some (some 33,false),some (some 33,false),some (some 33,false),some (some 33,false),some (some 33,false),some (some 33,false),some (some 33,false),some (some 33,false),some (some 33,false),some (some 33,false),none] [2,5,6,9,44] [(1,0),(2,0),(3,0)] h fun ac wd h => ?_
    injection ab with ab; subst ab
    exact ⟨true,rfl,h.z⟩
 ·
  rintro ac wd ⟨ad,rfl,h⟩
  (try dsimp only at hD)
  rcases i2b hD with ⟨ax,hD⟩ | ⟨ax,hD⟩
  ·
   refine kT h ?_
   refine qs 42 [] [10,11,12] [] h fun ac wd h => ?_
   refine wp_ret ?_
   have h := SL.bornS h 11 114 10 (by simp only [EZ,simprocAttr, *] <;> rfl)
   have h := SL.nilS h 12 (by simp only [EZ,simprocAttr, *] <;> rfl)
   have h := h.sw (1,0) (42,0) 43
   injection hD with hD
   subst hD
   exact rO h [.tmp 10,.tmp 11,.tmp 12] [(1,0)]
  ·
   refine kF h ?_
   refine wp_skip ?_
   change Code.wp Tryz.prog _ _ _ _
   refine wp_seq ?_
   refine qs 43 [] [2,5,6,9,50] [(1,0),(2,0),(3,0)] h fun ac wd h => ?_
   rcases i2e hD with ⟨ay,hD⟩ | ⟨ay,hD⟩
   ·
    refine kT h ?_
    refine ds 49 [] [10,11,12] [] h fun ac wd h => ?_
    refine wp_ret ?_
    have h := SL.bornS h 11 114 10 (by simp only [EZ,simprocAttr, *] <;> rfl)
    have h := h.sw (1,0) (49,0) 50
    injection hD with hD
    subst hD
    exact rO h [.tmp 10,.tmp 11,.tmp 12] [(1,0)]
   ·
    refine kF h ?_
    refine wp_skip ?_
    change Code.wp Tryz.prog _ _ _ _
    obtain ⟨az,hD⟩ := iT hD
    refine qs 47 [] [2,5,6,9,13] [(1,0),(2,0),(3,0),(45,0)] h fun ac wd h => ?_
    obtain ⟨aA,aC,hD⟩ := Option.bind_eq_some_iff.1 hD
    refine r_seqJ (fun ac wd => ∃ (aD : List Int),aD = aA ∧ SL ⟨wb,S,Φ,P0⟩ 90 70 [(2,.one (.d (.sl (List.map eI a2)))),(5,.one (.ptr (1,0) 0)),(6,.one (.ptr (2,0) 0)),(9,.one (.ptr (3,0) 0)),(13,.one (.own (45,0) aD.length))] [((1,0),some (.box 44 (cTApp a0))),((2,0),some (.box 46 (cTHost a1))),((3,0),some (.box 63 (cTFrame a4))),((45,0),some (.row 3 1 (dat (List.map eI aD))))] ac wd) ?_ ?_
    ·
     refine wp_block ?_
     refine r_while (fun nf ac wd => ∃ (aE : List Int),L_ref16_Hear_l1 a4 nf aE = some aA ∧ SL ⟨wb,S,Φ,P0⟩ 90 65 [(2,.one (.d (.sl (List.map eI a2)))),(5,.one (.ptr (1,0) 0)),(6,.one (.ptr (2,0) 0)),(9,.one (.ptr (3,0) 0)),(13,.one (.own (45,0) aE.length))] [((1,0),some (.box 44 (cTApp a0))),((2,0),some (.box 46 (cTHost a1))),((3,0),some (.box 63 (cTFrame a4))),((45,0),some (.row 3 1 (dat (List.map eI aE))))] ac wd) (a4.Init.toNat + 2) ⟨a2,aC,h.z⟩ (fun nf ac wd hJ => ?_)
     obtain ⟨aE,aF,h⟩ := hJ
     cases nf with
     | zero => rw [L_ref16_Hear_l1] at aF; cases aF
     | succ nf =>
      rw [L_ref16_Hear_l1] at aF
      refine wp_seq ?_
      refine qs 70 [] [2,5,6,9,13,61] [(1,0),(2,0),(3,0),(45,0)] h fun ac wd h => ?_
      rcases i2 aF with ⟨aG,aF⟩ | ⟨aG,aF⟩
      ·
       refine kT h ?_
       refine wp_skip ?_
       change Code.wp Tryz.prog _ _ _ _
       refine wp_block ?_
       obtain ⟨aH,aF⟩ := iT aF
       refine qe [] [2,5,6,9,13] [(1,0),(2,0),(3,0),(72,0)] h fun ac wd h => ?_
       have h := h.sw (45,0) (72,0) 74
       exact ⟨nf,Nat.lt_succ_self nf,(aE ++ [0]),aF,h.z⟩
      ·
       refine kF h ?_
       refine wp_exit ?_
       injection aF with aF; subst aF
       exact ⟨aE,rfl,h.z⟩
    ·
     rintro ac wd ⟨aD,rfl,h⟩
     (try dsimp only at hD)
     refine wp_seq ?_
     obtain ⟨aI,aJ,aK,aL,aM,hD⟩ := aB hD
     refine ds 78 [] [2,5,6,9,13,72] [(1,0),(2,0),(3,0),(45,0)] h fun ac wd h => ?_
     rcases i2 hD with ⟨aN,hD⟩ | ⟨aN,hD⟩
     ·
      refine kT h ?_
      refine qs 82 [] [10,11,12] [] h fun ac wd h => ?_
      refine wp_ret ?_
      have h := SL.bornS h 11 114 10 (by simp only [EZ,simprocAttr, *] <;> rfl)
      have h := SL.nilS h 12 (by simp only [EZ,simprocAttr, *] <;> rfl)
      have h := h.sw (1,0) (82,0) 83
      injection hD with hD
      subst hD
      exact rO h [.tmp 10,.tmp 11,.tmp 12] [(1,0)]
     ·
      refine kF h ?_
      refine wp_skip ?_
      change Code.wp Tryz.prog _ _ _ _
      refine qs 85 [] [5,6,9,13] [(1,0),(2,0),(3,0),(45,0)] h fun ac wd h => ?_
      obtain ⟨aO,aP,hD⟩ := oB hD
      have aQ := ((L_ref16_send_own aP).cls 94).z
      refine qs 98 [factO aQ] [10,11,12] [(45,0),(94,0)] h fun ac wd h => ?_
      refine wp_ret ?_
      have h := h.fz [(45,0)]
      have h := SL.nilS h 12 (by simp only [EZ,simprocAttr, *] <;> rfl)
      have h := h.sw (1,0) (94,0) 98
      injection hD with hD
      subst hD
      exact rO h [.tmp 10,.tmp 11,.tmp 12] [(1,0)]
theorem L_ref16_Hear_ok {a0 : TApp} {a1 : THost} {a2 : (List Int)} {a3 : Int} {a4 : TFrame} {r : (List Int) × (List TOut) × (List Int)} (hD : L_ref16_Hear a0 a1 a2 a3 a4 = some r) :
  CallH Tryz.prog 18 [.agg (cTApp a0),.agg (cTHost a1),.one (.d (.sl (List.map eI a2))),.one (.d (.int .i64 a3)),.agg (cTFrame a4)] []
   (.tup [.inr (.d (.sl (List.map eI r.1))),.inr (.d (.sl (List.map eTOut r.2.1))),.inr (.d (.sl (List.map eI r.2.2)))]) [] :=
 (L_ref16_Hear_own hD).fr

theorem L_ref05_Start_own {a0 : TApp} {r : TConf} (hD : L_ref05_Start a0 = some r) :
  CallH Tryz.prog 21 [.agg (cTApp a0)] []
   (.agg [.own (1,0) r.States.length,.own (1,1) r.Links.length,.own (1,2) r.Sent.length]) [((1,0),some (.row 3 1 (dat (List.map eI r.States)))),((1,1),some (.row 141 1 (openRows cols_141 (List.map (eL eTMsg) r.Links)))),((1,2),some (.row 3 1 (dat (List.map eI r.Sent))))] := by
 unfold L_ref05_Start at hD
 refine rc Tryz.func21 rfl Tryz.ntmps21 fun S Φ P0 wb ac h => ?_
 refine qs 3 [] [1,2] [(1,0),(2,0)] h fun ac wd h => ?_
 refine qs 6 [] [1,2,3] [(1,0),(2,0),(4,0)] h fun ac wd h => ?_
 refine wp_seq ?_
 refine qs 7 [] [1,2,3,4] [(1,0),(2,0),(4,0)] h fun ac wd h => ?_
 obtain ⟨aa,ab,hD⟩ := Option.bind_eq_some_iff.1 hD
 refine r_meet (fun ac wd => ∃ (ad : List Int),ad = aa ∧ SL ⟨wb,S,Φ,P0⟩ 44 52 [(1,.one (.ptr (1,0) 0)),(2,.one (.ptr (2,0) 0)),(3,.one (.ptr (4,0) 0))] [((1,0),some (.box 44 (cTApp a0))),((2,0),some (.box 76 [.nil,.nil,.nil])),((4,0),some (.box 76 [.own (7,0) ad.length,.nil,.nil])),((7,0),some (.row 3 1 (dat (List.map eI ad))))] ac wd) ?_ ?_
 ·
  refine wp_block ?_
  have h := SL.bornB h (4,0) 0 3 1 (by simp only [EZ,simprocAttr, *] <;> rfl) (by simp only [EZ,simprocAttr, *] <;> rfl)
  refine r_while (fun nf ac wd => ∃ (ae : Int) (af : List Int),L_ref05_Start_l1 a0 nf ae af = some aa ∧ SL ⟨wb,S,Φ,P0⟩ 44 47 [(1,.one (.ptr (1,0) 0)),(2,.one (.ptr (2,0) 0)),(3,.one (.ptr (4,0) 0)),(4,.one (.d (.int .i64 ae)))] [((1,0),some (.box 44 (cTApp a0))),((2,0),some (.box 76 [.nil,.nil,.nil])),((4,0),some (.box 76 [.own (7,0) af.length,.nil,.nil])),((7,0),some (.row 3 1 (dat (List.map eI af))))] ac wd) (((a0.T.length : Int) - 0).toNat + 1) ⟨0,([] : List Int),ab,h.z⟩ (fun nf ac wd hJ => ?_)
  obtain ⟨ae,af,ag,h⟩ := hJ
  cases nf with
  | zero => rw [L_ref05_Start_l1] at ag; cases ag
  | succ nf =>
   rw [L_ref05_Start_l1] at ag
   refine wp_seq ?_
   refine qs 52 [] [1,2,3,4,11] [(1,0),(2,0),(4,0),(7,0)] h fun ac wd h => ?_
   rcases i2 ag with ⟨ah,ag⟩ | ⟨ah,ag⟩
   ·
    refine kT h ?_
    refine wp_skip ?_
    change Code.wp Tryz.prog _ _ _ _
    refine wp_seq ?_
    refine wp_block ?_
    obtain ⟨ai,aj,ak,al,am,ag⟩ := aB ag
    obtain ⟨an,ag⟩ := iT ag
    refine de [] [1,2,3,4] [(1,0),(2,0),(4,0),(61,0)] h fun ac wd h => ?_
    change Code.wp Tryz.prog _ _ _ _
    refine qe [] [1,2,3,4] [(1,0),(2,0),(4,0),(61,0)] h fun ac wd h => ?_
    have h := h.sw (7,0) (61,0) 67
    exact ⟨nf,Nat.lt_succ_self nf,(IntKind.wrap .i64 (ae + 1)),(af ++ [ai.Start]),ag,h.z⟩
   ·
    refine kF h ?_
    refine wp_exit ?_
    injection ag with ag; subst ag
    exact ⟨af,rfl,h.z⟩
 ·
  rintro ac wd ⟨ad,rfl,h⟩
  (try dsimp only at hD)
  refine wp_seq ?_
  refine qs 53 [] [1,2,3,5] [(1,0),(2,0),(4,0),(7,0)] h fun ac wd h => ?_
  refine wp_block ?_
  have h := SL.bornB h (4,0) 1 141 1 (by simp only [EZ,simprocAttr, *] <;> rfl) (by simp only [EZ,simprocAttr, *] <;> rfl)
  have h := SL.bornB h (4,0) 2 3 1 (by simp only [EZ,simprocAttr, *] <;> rfl) (by simp only [EZ,simprocAttr, *] <;> rfl)
  refine r_while (fun nf ac wd => ∃ (ao : Int) (ap : List (List TMsg)) (aq : List Int),L_ref05_Start_l2 a0 ad nf ao ap aq = some r ∧ SL ⟨wb,S,Φ,P0⟩ 44 95 [(1,.one (.ptr (1,0) 0)),(2,.one (.ptr (2,0) 0)),(3,.one (.ptr (4,0) 0)),(5,.one (.d (.int .i64 ao)))] [((1,0),some (.box 44 (cTApp a0))),((2,0),some (.box 76 [.nil,.nil,.nil])),((4,0),some (.box 76 [.own (7,0) ad.length,.own (53,0) ap.length,.own (54,0) aq.length])),((7,0),some (.row 3 1 (dat (List.map eI ad)))),((53,0),some (.row 141 1 (openRows cols_141 (List.map (eL eTMsg) ap)))),((54,0),some (.row 3 1 (dat (List.map eI aq))))] ac wd) (((a0.G.Links.length : Int) - 0).toNat + 1) ⟨0,([] : List (List TMsg)),([] : List Int),hD,h.z⟩ (fun nf ac wd hJ => ?_)
  obtain ⟨ao,ap,aq,ar,h⟩ := hJ
  cases nf with
  | zero => rw [L_ref05_Start_l2] at ar; cases ar
  | succ nf =>
   rw [L_ref05_Start_l2] at ar
   refine wp_seq ?_
   refine qs 101 [] [1,2,3,5,30] [(1,0),(2,0),(4,0),(7,0),(53,0),(54,0)] h fun ac wd h => ?_
   rcases i2 ar with ⟨au,ar⟩ | ⟨au,ar⟩
   ·
    refine kT h ?_
    refine wp_skip ?_
    change Code.wp Tryz.prog _ _ _ _
    refine wp_seq ?_
    refine wp_block ?_
    obtain ⟨av,ar⟩ := iT ar
    refine qs 107 [] [1,2,3,5] [(1,0),(2,0),(4,0),(7,0),(54,0),(104,0)] h fun ac wd h => ?_
    have h := h.nilTr (104,0) (l := (openRows cols_141 (List.map (eL eTMsg) ap) ++ [[.nil]])) (l' := (openRows cols_141 (List.map (eL eTMsg) ap) ++ [[.tr (.sl 34 2 (fun _ => .sc)) (.sl (List.map eTMsg []))]])) (by simp only [EZ,simprocAttr, *] <;> rfl) (RowsTo.append (RowsTo.refl _) (RowsTo.cons (RowTo.cons (.inr (.inr ⟨rfl,_,_,_,rfl⟩)) RowTo.nil) (RowsTo.refl [])))
    have h := h.sm 107 [(1,.one (.ptr (1,0) 0)),(2,.one (.ptr (2,0) 0)),(3,.one (.ptr (4,0) 0)),(5,.one (.d (.int .i64 ao)))]
     [((1,0),some (.box 44 (cTApp a0))),((2,0),some (.box 76 [.nil,.nil,.nil])),((4,0),some (.box 76 [.own (7,0) ad.length,.own (104,0) (ap.length + 1),.own (54,0) aq.length])),((7,0),some (.row 3 1 (dat (List.map eI ad)))),((54,0),some (.row 3 1 (dat (List.map eI aq)))),((104,0),some (.row 141 1 ((openRows cols_141 (List.map (eL eTMsg) ap) ++ [[.tr (.sl 34 2 (fun _ => .sc)) (.sl (List.map eTMsg []))]]))))]
    obtain ⟨aw,ar⟩ := iT ar
    refine qe [] [1,2,3,5] [(1,0),(2,0),(4,0),(7,0),(104,0),(110,0)] h fun ac wd h => ?_
    change Code.wp Tryz.prog _ _ _ _
    refine qe [] [1,2,3,5] [(1,0),(2,0),(4,0),(7,0),(104,0),(110,0)] h fun ac wd h => ?_
    have h := h.sw (53,0) (104,0) 116
    have h := h.sw (54,0) (110,0) 116
    exact ⟨nf,Nat.lt_succ_self nf,(IntKind.wrap .i64 (ao + 1)),((ap ++ [[]]) : List (List TMsg)),(aq ++ [0]),ar,h.z⟩
   ·
    refine kF h ?_
    refine wp_exit ?_
    change Code.wp Tryz.prog _ _ _ _
    refine qs 103 [] [2] [(2,0),(7,0),(53,0),(54,0)] h fun ac wd h => ?_
    refine wp_ret ?_
    have h := h.sw (1,0) (7,0) 103
    have h := h.sw (1,1) (53,0) 103
    have h := h.sw (1,2) (54,0) 103
    injection ar with ar
    subst ar
    exact rO h [.cell 2 76] [(1,0),(1,1),(1,2)]
theorem L_ref05_Start_ok {a0 : TApp} {r : TConf} (hD : L_ref05_Start a0 = some r) :
  CallH Tryz.prog 21 [.agg (cTApp a0)] []
   (.agg [.d (.sl (List.map eI r.States)),.d (.sl (List.map (eL eTMsg) r.Links)),.d (.sl (List.map eI r.Sent))]) [] :=
 (L_ref05_Start_own hD).fr

theorem L_law16_hosts_own {a0 : TApp} {a1 : (List Int)} {r : (List THost)} (hD : L_law16_hosts a0 a1 = some r) :
  CallH Tryz.prog 22 [.agg (cTApp a0),.one (.d (.sl (List.map eI a1)))] []
   (.one (.own (1,0) r.length)) [((1,0),some (.row 31 5 (dat (List.map eTHost r))))] := by
 unfold L_law16_hosts at hD
 refine rc Tryz.func22 rfl Tryz.ntmps22 fun S Φ P0 wb ac h => ?_
 refine qs 3 [] [1,2] [(1,0)] h fun ac wd h => ?_
 refine qs 5 [] [1,2,5] [(1,0),(3,0)] h fun ac wd h => ?_
 refine wp_seq ?_
 refine qs 6 [] [1,2,5,6] [(1,0),(3,0)] h fun ac wd h => ?_
 refine wp_block ?_
 refine r_while (fun nf ac wd => ∃ (aa : Int) (ab : List THost),L_law16_hosts_l1 a0 a1 nf aa ab = some r ∧ SL ⟨wb,S,Φ,P0⟩ 29 54 [(1,.one (.d (.sl (List.map eI a1)))),(2,.one (.ptr (1,0) 0)),(5,.one (.own (3,0) ab.length)),(6,.one (.d (.int .i64 aa)))] [((1,0),some (.box 27 (cTApp a0))),((3,0),some (.row 31 5 (dat (List.map eTHost ab))))] ac wd) ((a0.G.N - 0).toNat + 1) ⟨0,([] : List THost),hD,h.z⟩ (fun nf ac wd hJ => ?_)
 obtain ⟨aa,ab,ad,h⟩ := hJ
 cases nf with
 | zero => rw [L_law16_hosts_l1] at ad; cases ad
 | succ nf =>
  rw [L_law16_hosts_l1] at ad
  refine wp_seq ?_
  refine qs 59 [] [1,2,5,6,13] [(1,0),(3,0)] h fun ac wd h => ?_
  rcases i2 ad with ⟨ae,ad⟩ | ⟨ae,ad⟩
  ·
   refine kT h ?_
   refine wp_skip ?_
   change Code.wp Tryz.prog _ _ _ _
   refine wp_seq ?_
   refine wp_block ?_
   obtain ⟨af,ag,ad⟩ := oB ad
   have ah := L_host_New_ok ag
   refine qs 64 [factE 61 ah] [1,2,5,6,7] [(1,0),(3,0),(62,0)] h fun ac wd h => ?_
   obtain ⟨ai,aj,ak,al,am,ad⟩ := aB ad
   refine qs 70 [] [1,2,5,6,7] [(1,0),(3,0),(62,0)] h fun ac wd h => ?_
   obtain ⟨an,ad⟩ := iT ad
   refine qe [] [1,2,5,6] [(1,0),(73,0)] h fun ac wd h => ?_
   change Code.wp Tryz.prog _ _ _ _
   refine qe [] [1,2,5,6] [(1,0),(73,0)] h fun ac wd h => ?_
   have h := h.sw (3,0) (73,0) 78
   exact ⟨nf,Nat.lt_succ_self nf,(IntKind.wrap .i64 (aa + 1)),(ab ++ [(THost.mk af.Node ai af.Steps af.In af.Out)]),ad,h.z⟩
  ·
   refine kF h ?_
   refine wp_exit ?_
   change Code.wp Tryz.prog _ _ _ _
   refine qs 61 [] [4] [(3,0)] h fun ac wd h => ?_
   refine wp_ret ?_
   have h := h.sw (1,0) (3,0) 61
   injection ad with ad
   subst ad
   exact rO h [.tmp 4] [(1,0)]
theorem L_law16_hosts_ok {a0 : TApp} {a1 : (List Int)} {r : (List THost)} (hD : L_law16_hosts a0 a1 = some r) :
  CallH Tryz.prog 22 [.agg (cTApp a0),.one (.d (.sl (List.map eI a1)))] []
   (.one (.d (.sl (List.map eTHost r)))) [] :=
 (L_law16_hosts_own hD).fr

theorem L_ref15_Edge_ok {a0 : TApp} {a1 : TConf} {a2 : Int} {a3 : Int} {r : Bool} (hD : L_ref15_Edge a0 a1 a2 a3 = some r) :
  CallH Tryz.prog 59 [.agg (cTApp a0),.agg (cTConf a1),.one (.d (.int .i64 a2)),.one (.d (.int .i64 a3))] []
   (.one (.d (.bool r))) [] := by
 unfold L_ref15_Edge at hD
 refine rc Tryz.func59 rfl Tryz.ntmps59 fun S Φ P0 wb ac h => ?_
 refine qs 4 [] [2,3,4,5] [(1,0),(2,0)] h fun ac wd h => ?_
 refine wp_seq ?_
 obtain ⟨aa,ab,hD⟩ := Option.bind_eq_some_iff.1 hD
 refine r_seqJ (fun ac wd => ∃ (ad : Bool),ad = aa ∧ SL ⟨wb,S,Φ,P0⟩ 50 28 [(2,.one (.d (.int .i64 a2))),(3,.one (.d (.int .i64 a3))),(4,.one (.ptr (1,0) 0)),(5,.one (.ptr (2,0) 0)),(33,.one (.d (.bool ad)))] [((1,0),some (.box 44 (cTApp a0))),((2,0),some (.box 76 (cTConf a1)))] ac wd) ?_ ?_
 ·
  rcases i2 ab with ⟨ae,ab⟩ | ⟨ae,ab⟩
  ·
   refine deg [] [none,none,none,some (some 12,false),some (some 12,false),some (some 12,false),some (some 12,false),some (some 12,false),none,none,some (some 19,false),some (some 19,false),some (some 19,false),some (some 19,false),some (some 19,false),some (some 19,false),some (some 19,false),some (some 19,false),some (some 19,false),some (some 19,false),some (some 19,false),some (some 19,false),some (some 19,false),none] [2,3,4,5,33] [(1,0),(2,0)] h fun ac wd h => ?_
   injection ab with ab; subst ab
   exact ⟨true,rfl,h.z⟩
  ·
   rcases i2 ab with ⟨af,ab⟩ | ⟨af,ab⟩
   ·
    refine deg [] [none,none,none,some (some 12,false),some (some 12,false),some (some 12,false),some (some 12,false),some (some 12,false),none,none,some (some 19,false),some (some 19,false),some (some 19,false),some (some 19,false),some (some 19,false),some (some 19,false),some (some 19,false),some (some 19,false),some (some 19,false),some (some 19,false),some (some 19,false),some (some 19,false),some (some 19,false),none] [2,3,4,5,33] [(1,0),(2,0)] h fun ac wd h => ?_
    injection ab with ab; subst ab
    exact ⟨true,rfl,h.z⟩
   ·
    obtain ⟨ag,ah,ai,aj,ak,ab⟩ := aB ab
    obtain ⟨al,am,ab⟩ := oB ab
    obtain ⟨an,ao,ab⟩ := oB ab
    have ap := L_ref04_At_ok am
    have aq := L_ref04_In_ok ao
    refine deg [factE 22 ap,factE 25 aq] [none,none,none,some (some 12,false),some (some 12,false),some (some 12,false),some (some 12,false),some (some 12,false),none,none,some (some 19,false),some (some 19,false),some (some 19,false),some (some 19,false),some (some 19,false),some (some 19,false),some (some 19,false),some (some 19,false),some (some 19,false),some (some 19,false),some (some 19,false),some (some 19,false),some (some 19,false),none] [2,3,4,5,33] [(1,0),(2,0)] h fun ac wd h => ?_
    injection ab with ab; subst ab
    exact ⟨!(an),rfl,h.z⟩
 ·
  rintro ac wd ⟨ad,rfl,h⟩
  (try dsimp only at hD)
  rcases i2b hD with ⟨ar,hD⟩ | ⟨ar,hD⟩
  ·
   refine kT h ?_
   refine qs 29 [] [8] [] h fun ac wd h => ?_
   refine wp_ret ?_
   injection hD with hD
   subst hD
   exact rE h [.tmp 8]
  ·
   refine kF h ?_
   refine wp_skip ?_
   change Code.wp Tryz.prog _ _ _ _
   obtain ⟨au,av,hD⟩ := oB hD
   have aw := L_ref03_Find_ok av
   refine qs 34 [factE 32 aw] [5,9] [(2,0)] h fun ac wd h => ?_
   obtain ⟨ax,ay,hD⟩ := Option.bind_eq_some_iff.1 hD
   refine r_seqJ (fun ac wd => ∃ (az : Bool),az = ax ∧ SL ⟨wb,S,Φ,P0⟩ 50 46 [(8,.one (.d (.bool az)))] [] ac wd) ?_ ?_
   ·
    rcases i2 ay with ⟨aA,ay⟩ | ⟨aA,ay⟩
    ·
     obtain ⟨aC,aD,aE,aF,aG,ay⟩ := aB ay
     refine qeg [] [none,none,none,some (some 41,true),some (some 41,true),some (some 41,true),some (some 41,true),some (some 41,true),some (some 41,true),some (some 41,true),none,none] [8] [] h fun ac wd h => ?_
     injection ay with ay; subst ay
     exact ⟨decide ((aC.length : Int) = 0),rfl,h.z⟩
    ·
     refine qeg [] [none,none,none,some (some 41,true),some (some 41,true),some (some 41,true),some (some 41,true),some (some 41,true),some (some 41,true),some (some 41,true),none,none] [8] [] h fun ac wd h => ?_
     injection ay with ay; subst ay
     exact ⟨false,rfl,h.z⟩
   ·
    rintro ac wd ⟨az,rfl,h⟩
    (try dsimp only at hD)
    refine wp_ret ?_
    injection hD with hD
    subst hD
    exact rE h [.tmp 8]

theorem L_ref15_Ring_ok {a0 : TApp} {a1 : TConf} {a2 : (List Int)} {r : Bool} (hD : L_ref15_Ring a0 a1 a2 = some r) :
  CallH Tryz.prog 24 [.agg (cTApp a0),.agg (cTConf a1),.one (.d (.sl (List.map eI a2)))] []
   (.one (.d (.bool r))) [] := by
 unfold L_ref15_Ring at hD
 refine rc Tryz.func24 rfl Tryz.ntmps24 fun S Φ P0 wb ac h => ?_
 refine qs 4 [] [2,3,4] [(1,0),(2,0)] h fun ac wd h => ?_
 refine wp_seq ?_
 refine qs 5 [] [2,3,4,7] [(1,0),(2,0)] h fun ac wd h => ?_
 refine wp_block ?_
 refine r_while (fun nf ac wd => ∃ (aa : Int),L_ref15_Ring_l1 a0 a1 a2 nf aa = some r ∧ SL ⟨wb,S,Φ,P0⟩ 50 87 [(2,.one (.d (.sl (List.map eI a2)))),(3,.one (.ptr (1,0) 0)),(4,.one (.ptr (2,0) 0)),(7,.one (.d (.int .i64 aa)))] [((1,0),some (.box 44 (cTApp a0))),((2,0),some (.box 76 (cTConf a1)))] ac wd) (((a2.length : Int) - 0).toNat + 1) ⟨0,hD,h.z⟩ (fun nf ac wd hJ => ?_)
 obtain ⟨aa,ab,h⟩ := hJ
 cases nf with
 | zero => rw [L_ref15_Ring_l1] at ab; cases ab
 | succ nf =>
  rw [L_ref15_Ring_l1] at ab
  refine wp_seq ?_
  refine qs 91 [] [2,3,4,7,12] [(1,0),(2,0)] h fun ac wd h => ?_
  rcases i2 ab with ⟨ad,ab⟩ | ⟨ad,ab⟩
  ·
   refine kT h ?_
   refine wp_skip ?_
   change Code.wp Tryz.prog _ _ _ _
   refine wp_seq ?_
   refine wp_block ?_
   obtain ⟨ae,af,ag,ah,ai,ab⟩ := aN 0 ab
   refine qs 95 [] [2,3,4,7,8] [(1,0),(2,0)] h fun ac wd h => ?_
   refine wp_seq ?_
   refine qs 100 [] [2,3,4,7,8,22] [(1,0),(2,0)] h fun ac wd h => ?_
   obtain ⟨aj,ak,ab⟩ := Option.bind_eq_some_iff.1 ab
   refine r_meet (fun ac wd => ∃ (al : Int),al = aj ∧ SL ⟨wb,S,Φ,P0⟩ 50 106 [(2,.one (.d (.sl (List.map eI a2)))),(3,.one (.ptr (1,0) 0)),(4,.one (.ptr (2,0) 0)),(7,.one (.d (.int .i64 aa))),(8,.one (.d (.int .i64 al)))] [((1,0),some (.box 44 (cTApp a0))),((2,0),some (.box 76 (cTConf a1)))] ac wd) ?_ ?_
   ·
    rcases i2 ak with ⟨am,ak⟩ | ⟨am,ak⟩
    ·
     refine kT h ?_
     obtain ⟨an,ao,ap,aq,ar,ak⟩ := aB ak
     refine qe [] [2,3,4,7,8] [(1,0),(2,0)] h fun ac wd h => ?_
     injection ak with ak; subst ak
     exact ⟨an,rfl,h.z⟩
    ·
     refine kF h ?_
     refine wp_skip ?_
     injection ak with ak; subst ak
     exact ⟨ae,rfl,h.z⟩
   ·
    rintro ac wd ⟨al,rfl,h⟩
    (try dsimp only at ab)
    obtain ⟨au,av,ab⟩ := Option.bind_eq_some_iff.1 ab
    refine r_seqJ (fun ac wd => ∃ (aw : Bool),aw = au ∧ SL ⟨wb,S,Φ,P0⟩ 50 125 [(2,.one (.d (.sl (List.map eI a2)))),(3,.one (.ptr (1,0) 0)),(4,.one (.ptr (2,0) 0)),(7,.one (.d (.int .i64 aa))),(46,.one (.d (.bool aw)))] [((1,0),some (.box 44 (cTApp a0))),((2,0),some (.box 76 (cTConf a1)))] ac wd) ?_ ?_
    ·
     obtain ⟨ax,av⟩ := iT av
     obtain ⟨ay,av⟩ := iT av
     obtain ⟨az,aA,av⟩ := vB av
     obtain ⟨aC,aD,aE,aF,aG,av⟩ := aB av
     obtain ⟨aH,aI,av⟩ := oB av
     rcases i2b av with ⟨aJ,av⟩ | ⟨aJ,av⟩
     ·
      have aK := L_ref04_In_ok aI
      refine deg [factE 113 aK] [none,none,none,none,none,none,none,none,none,some (some 36,false),some (some 36,false),some (some 36,false),some (some 36,false),some (some 36,false),some (some 36,false),some (some 36,false),some (some 36,false),some (some 36,false),none] [2,3,4,7,46] [(1,0),(2,0)] h fun ac wd h => ?_
      injection av with av; subst av
      exact ⟨true,rfl,h.z⟩
     ·
      obtain ⟨aL,aM,av⟩ := oB av
      have aK := L_ref04_In_ok aI
      have aO := L_ref15_Edge_ok aM
      refine deg [factE 113 aK,factE 122 aO] [none,none,none,none,none,none,none,none,none,some (some 36,false),some (some 36,false),some (some 36,false),some (some 36,false),some (some 36,false),some (some 36,false),some (some 36,false),some (some 36,false),some (some 36,false),none] [2,3,4,7,46] [(1,0),(2,0)] h fun ac wd h => ?_
      injection av with av; subst av
      exact ⟨!(aL),rfl,h.z⟩
    ·
     rintro ac wd ⟨aw,rfl,h⟩
     (try dsimp only at ab)
     rcases i2b ab with ⟨aP,ab⟩ | ⟨aP,ab⟩
     ·
      refine kT h ?_
      refine qs 126 [] [6] [] h fun ac wd h => ?_
      refine wp_ret ?_
      injection ab with ab
      subst ab
      exact rE h [.tmp 6]
     ·
      refine kF h ?_
      refine wp_skip ?_
      change Code.wp Tryz.prog _ _ _ _
      refine qe [] [2,3,4,7] [(1,0),(2,0)] h fun ac wd h => ?_
      exact ⟨nf,Nat.lt_succ_self nf,(IntKind.wrap .i64 (aa + 1)),ab,h.z⟩
  ·
   refine kF h ?_
   refine wp_exit ?_
   change Code.wp Tryz.prog _ _ _ _
   refine qs 95 [] [6] [] h fun ac wd h => ?_
   refine wp_ret ?_
   injection ab with ab
   subst ab
   exact rE h [.tmp 6]

theorem L_ref15_Reach_own {a0 : TApp} {a1 : TConf} {a2 : Int} {r : (List Bool)} (hD : L_ref15_Reach a0 a1 a2 = some r) :
  CallH Tryz.prog 60 [.agg (cTApp a0),.agg (cTConf a1),.one (.d (.int .i64 a2))] []
   (.one (.own (1,0) r.length)) [((1,0),some (.row 4 1 (dat (List.map eB r))))] := by
 unfold L_ref15_Reach at hD
 refine rc Tryz.func60 rfl Tryz.ntmps60 fun S Φ P0 wb ac h => ?_
 refine qs 4 [] [2,3,4] [(1,0),(2,0)] h fun ac wd h => ?_
 obtain ⟨aa,hD⟩ := iT hD
 obtain ⟨ab,hD⟩ := iT hD
 obtain ⟨ad,hD⟩ := iT hD
 refine qs 9 [] [2,3,4,7] [(1,0),(2,0),(7,0)] h fun ac wd h => ?_
 refine wp_seq ?_
 refine qs 10 [] [2,3,4,7,8] [(1,0),(2,0),(7,0)] h fun ac wd h => ?_
 obtain ⟨ae,af,hD⟩ := Option.bind_eq_some_iff.1 hD
 refine r_meet (fun ac wd => ∃ (ag : List Bool),ag = ae ∧ SL ⟨wb,S,Φ,P0⟩ 73 49 [(3,.one (.ptr (1,0) 0)),(4,.one (.ptr (2,0) 0)),(7,.one (.own (7,0) ag.length))] [((1,0),some (.box 44 (cTApp a0))),((2,0),some (.box 76 (cTConf a1))),((7,0),some (.row 4 1 (dat (List.map eB ag))))] ac wd) ?_ ?_
 ·
  refine wp_block ?_
  refine r_while (fun nf ac wd => ∃ (ah : Int) (ai : List Bool),L_ref15_Reach_l1 a0 a1 a2 nf ah ai = some ae ∧ SL ⟨wb,S,Φ,P0⟩ 73 44 [(2,.one (.d (.int .i64 a2))),(3,.one (.ptr (1,0) 0)),(4,.one (.ptr (2,0) 0)),(7,.one (.own (7,0) ai.length)),(8,.one (.d (.int .i64 ah)))] [((1,0),some (.box 44 (cTApp a0))),((2,0),some (.box 76 (cTConf a1))),((7,0),some (.row 4 1 (dat (List.map eB ai))))] ac wd) ((a0.G.N - 0).toNat + 1) ⟨0,(List.replicate a0.G.N.toNat false),af,h.z⟩ (fun nf ac wd hJ => ?_)
  obtain ⟨ah,ai,aj,h⟩ := hJ
  cases nf with
  | zero => rw [L_ref15_Reach_l1] at aj; cases aj
  | succ nf =>
   rw [L_ref15_Reach_l1] at aj
   refine wp_seq ?_
   refine qs 49 [] [2,3,4,7,8,20] [(1,0),(2,0),(7,0)] h fun ac wd h => ?_
   rcases i2 aj with ⟨ak,aj⟩ | ⟨ak,aj⟩
   ·
    refine kT h ?_
    refine wp_skip ?_
    change Code.wp Tryz.prog _ _ _ _
    refine wp_seq ?_
    refine wp_block ?_
    obtain ⟨al,am,aj⟩ := oB aj
    obtain ⟨an,ao,ap,aq,ar,aj⟩ := aB aj
    have au := L_ref15_Edge_ok am
    refine qe [factE 55 au] [2,3,4,7,8] [(1,0),(2,0),(7,0)] h fun ac wd h => ?_
    change Code.wp Tryz.prog _ _ _ _
    refine qe [] [2,3,4,7,8] [(1,0),(2,0),(7,0)] h fun ac wd h => ?_
    exact ⟨nf,Nat.lt_succ_self nf,(IntKind.wrap .i64 (ah + 1)),(ai.set ah.toNat al),aj,h.z⟩
   ·
    refine kF h ?_
    refine wp_exit ?_
    injection aj with aj; subst aj
    exact ⟨ai,rfl,h.z⟩
 ·
  rintro ac wd ⟨ag,rfl,h⟩
  (try dsimp only at hD)
  refine wp_seq ?_
  refine qs 50 [] [3,4,7,9] [(1,0),(2,0),(7,0)] h fun ac wd h => ?_
  refine wp_block ?_
  refine r_while (fun nf ac wd => ∃ (av : Int) (aw : List Bool),L_ref15_Reach_l2 a0 a1 nf av aw = some r ∧ SL ⟨wb,S,Φ,P0⟩ 73 366 [(3,.one (.ptr (1,0) 0)),(4,.one (.ptr (2,0) 0)),(7,.one (.own (7,0) aw.length)),(9,.one (.d (.int .i64 av)))] [((1,0),some (.box 44 (cTApp a0))),((2,0),some (.box 76 (cTConf a1))),((7,0),some (.row 4 1 (dat (List.map eB aw))))] ac wd) ((a0.G.N - 0).toNat + 1) ⟨0,ag,hD,h.z⟩ (fun nf ac wd hJ => ?_)
  obtain ⟨av,aw,ax,h⟩ := hJ
  cases nf with
  | zero => rw [L_ref15_Reach_l2] at ax; cases ax
  | succ nf =>
   rw [L_ref15_Reach_l2] at ax
   refine wp_seq ?_
   refine qs 371 [] [3,4,7,9,35] [(1,0),(2,0),(7,0)] h fun ac wd h => ?_
   rcases i2 ax with ⟨ay,ax⟩ | ⟨ay,ax⟩
   ·
    refine kT h ?_
    refine wp_skip ?_
    change Code.wp Tryz.prog _ _ _ _
    obtain ⟨az,aA,ax⟩ := Option.bind_eq_some_iff.1 ax
    refine r_seqJ (fun ac wd => ∃ (aC : List Bool),aC = az ∧ SL ⟨wb,S,Φ,P0⟩ 73 521 [(3,.one (.ptr (1,0) 0)),(4,.one (.ptr (2,0) 0)),(7,.one (.own (7,0) aC.length)),(9,.one (.d (.int .i64 av)))] [((1,0),some (.box 44 (cTApp a0))),((2,0),some (.box 76 (cTConf a1))),((7,0),some (.row 4 1 (dat (List.map eB aC))))] ac wd) ?_ ?_
    ·
     refine wp_block ?_
     refine qs 372 [] [3,4,7,9,10] [(1,0),(2,0),(7,0)] h fun ac wd h => ?_
     obtain ⟨aD,aE,aA⟩ := Option.bind_eq_some_iff.1 aA
     refine r_meetQ (fun ac wd => ∃ (aF : List Bool),aF = aD ∧ SL ⟨wb,S,Φ,P0⟩ 73 521 [(3,.one (.ptr (1,0) 0)),(4,.one (.ptr (2,0) 0)),(7,.one (.own (7,0) aF.length)),(9,.one (.d (.int .i64 av)))] [((1,0),some (.box 44 (cTApp a0))),((2,0),some (.box 76 (cTConf a1))),((7,0),some (.row 4 1 (dat (List.map eB aF))))] ac wd) ?_ ?_
     ·
      refine wp_block ?_
      refine r_while (fun nf ac wd => ∃ (aG : Int) (aH : List Bool),L_ref15_Reach_l3 a0 a1 nf aG aH = some aD ∧ SL ⟨wb,S,Φ,P0⟩ 73 516 [(3,.one (.ptr (1,0) 0)),(4,.one (.ptr (2,0) 0)),(7,.one (.own (7,0) aH.length)),(9,.one (.d (.int .i64 av))),(10,.one (.d (.int .i64 aG)))] [((1,0),some (.box 44 (cTApp a0))),((2,0),some (.box 76 (cTConf a1))),((7,0),some (.row 4 1 (dat (List.map eB aH))))] ac wd) ((a0.G.N - 0).toNat + 1) ⟨0,aw,aE,h.z⟩ (fun nf ac wd hJ => ?_)
      obtain ⟨aG,aH,aI,h⟩ := hJ
      cases nf with
      | zero => rw [L_ref15_Reach_l3] at aI; cases aI
      | succ nf =>
       rw [L_ref15_Reach_l3] at aI
       refine wp_seq ?_
       refine qs 521 [] [3,4,7,9,10,42] [(1,0),(2,0),(7,0)] h fun ac wd h => ?_
       rcases i2 aI with ⟨aJ,aI⟩ | ⟨aJ,aI⟩
       ·
        refine kT h ?_
        refine wp_skip ?_
        change Code.wp Tryz.prog _ _ _ _
        obtain ⟨aK,aL,aI⟩ := Option.bind_eq_some_iff.1 aI
        refine r_seqJ (fun ac wd => ∃ (aM : List Bool),aM = aK ∧ SL ⟨wb,S,Φ,P0⟩ 73 585 [(3,.one (.ptr (1,0) 0)),(4,.one (.ptr (2,0) 0)),(7,.one (.own (7,0) aM.length)),(9,.one (.d (.int .i64 av))),(10,.one (.d (.int .i64 aG)))] [((1,0),some (.box 44 (cTApp a0))),((2,0),some (.box 76 (cTConf a1))),((7,0),some (.row 4 1 (dat (List.map eB aM))))] ac wd) ?_ ?_
        ·
         refine wp_block ?_
         refine qs 522 [] [3,4,7,9,10,11] [(1,0),(2,0),(7,0)] h fun ac wd h => ?_
         obtain ⟨aN,aO,aL⟩ := Option.bind_eq_some_iff.1 aL
         refine r_meetQ (fun ac wd => ∃ (aP : List Bool),aP = aN ∧ SL ⟨wb,S,Φ,P0⟩ 73 585 [(3,.one (.ptr (1,0) 0)),(4,.one (.ptr (2,0) 0)),(7,.one (.own (7,0) aP.length)),(9,.one (.d (.int .i64 av))),(10,.one (.d (.int .i64 aG)))] [((1,0),some (.box 44 (cTApp a0))),((2,0),some (.box 76 (cTConf a1))),((7,0),some (.row 4 1 (dat (List.map eB aP))))] ac wd) ?_ ?_
         ·
          refine wp_block ?_
          refine r_while (fun nf ac wd => ∃ (aQ : Int) (aR : List Bool),L_ref15_Reach_l4 a0 a1 aG nf aQ aR = some aN ∧ SL ⟨wb,S,Φ,P0⟩ 73 580 [(3,.one (.ptr (1,0) 0)),(4,.one (.ptr (2,0) 0)),(7,.one (.own (7,0) aR.length)),(9,.one (.d (.int .i64 av))),(10,.one (.d (.int .i64 aG))),(11,.one (.d (.int .i64 aQ)))] [((1,0),some (.box 44 (cTApp a0))),((2,0),some (.box 76 (cTConf a1))),((7,0),some (.row 4 1 (dat (List.map eB aR))))] ac wd) ((a0.G.N - 0).toNat + 1) ⟨0,aH,aO,h.z⟩ (fun nf ac wd hJ => ?_)
          obtain ⟨aQ,aR,aS,h⟩ := hJ
          cases nf with
          | zero => rw [L_ref15_Reach_l4] at aS; cases aS
          | succ nf =>
           rw [L_ref15_Reach_l4] at aS
           refine wp_seq ?_
           refine qs 585 [] [3,4,7,9,10,11,49] [(1,0),(2,0),(7,0)] h fun ac wd h => ?_
           rcases i2 aS with ⟨aT,aS⟩ | ⟨aT,aS⟩
           ·
            refine kT h ?_
            refine wp_skip ?_
            change Code.wp Tryz.prog _ _ _ _
            obtain ⟨aU,aV,aS⟩ := Option.bind_eq_some_iff.1 aS
            refine r_seqJ (fun ac wd => ∃ (aW : List Bool),aW = aU ∧ SL ⟨wb,S,Φ,P0⟩ 73 606 [(3,.one (.ptr (1,0) 0)),(4,.one (.ptr (2,0) 0)),(7,.one (.own (7,0) aW.length)),(9,.one (.d (.int .i64 av))),(10,.one (.d (.int .i64 aG))),(11,.one (.d (.int .i64 aQ)))] [((1,0),some (.box 44 (cTApp a0))),((2,0),some (.box 76 (cTConf a1))),((7,0),some (.row 4 1 (dat (List.map eB aW))))] ac wd) ?_ ?_
            ·
             refine wp_block ?_
             obtain ⟨aX,aY,aZ,ba,bb,aV⟩ := aB aV
             rcases i2b aV with ⟨bc,aV⟩ | ⟨bc,aV⟩
             ·
              refine qeg [] [none,none,none,none,none,none,none,some (some 58,false),some (some 58,false),some (some 58,false),some (some 58,false),some (some 58,false),some (some 63,true),some (some 63,true),some (some 63,true),some (some 63,true),some (some 63,true),some (some 58,false),none,none,none] [3,4,7,9,10,11] [(1,0),(2,0),(7,0)] h fun ac wd h => ?_
              injection aV with aV; subst aV
              exact ⟨(aR.set aQ.toNat true),rfl,h.z⟩
             ·
              obtain ⟨bd,be,bf,bg,bh,aV⟩ := aB aV
              rcases i2b aV with ⟨bi,aV⟩ | ⟨bi,aV⟩
              ·
               obtain ⟨bj,bk,aV⟩ := oB aV
               have bl := L_ref15_Edge_ok bk
               refine qeg [factE 601 bl] [none,none,none,none,none,none,none,some (some 58,false),some (some 58,false),some (some 58,false),some (some 58,false),some (some 58,false),some (some 63,true),some (some 63,true),some (some 63,true),some (some 63,true),some (some 63,true),some (some 58,false),none,none,none] [3,4,7,9,10,11] [(1,0),(2,0),(7,0)] h fun ac wd h => ?_
               injection aV with aV; subst aV
               exact ⟨(aR.set aQ.toNat bj),rfl,h.z⟩
              ·
               refine qeg [] [none,none,none,none,none,none,none,some (some 58,false),some (some 58,false),some (some 58,false),some (some 58,false),some (some 58,false),some (some 63,true),some (some 63,true),some (some 63,true),some (some 63,true),some (some 63,true),some (some 58,false),none,none,none] [3,4,7,9,10,11] [(1,0),(2,0),(7,0)] h fun ac wd h => ?_
               injection aV with aV; subst aV
               exact ⟨(aR.set aQ.toNat false),rfl,h.z⟩
            ·
             rintro ac wd ⟨aW,rfl,h⟩
             (try dsimp only at aS)
             refine qe [] [3,4,7,9,10,11] [(1,0),(2,0),(7,0)] h fun ac wd h => ?_
             exact ⟨nf,Nat.lt_succ_self nf,(IntKind.wrap .i64 (aQ + 1)),aW,aS,h.z⟩
           ·
            refine kF h ?_
            refine wp_exit ?_
            injection aS with aS; subst aS
            exact ⟨aR,rfl,h.z⟩
         ·
          rintro ac wd ⟨aP,rfl,h⟩
          (try dsimp only at aL)
          injection aL with aL; subst aL
          exact ⟨aP,rfl,h.z⟩
        ·
         rintro ac wd ⟨aM,rfl,h⟩
         (try dsimp only at aI)
         refine qe [] [3,4,7,9,10] [(1,0),(2,0),(7,0)] h fun ac wd h => ?_
         exact ⟨nf,Nat.lt_succ_self nf,(IntKind.wrap .i64 (aG + 1)),aM,aI,h.z⟩
       ·
        refine kF h ?_
        refine wp_exit ?_
        injection aI with aI; subst aI
        exact ⟨aH,rfl,h.z⟩
     ·
      rintro ac wd ⟨aF,rfl,h⟩
      (try dsimp only at aA)
      injection aA with aA; subst aA
      exact ⟨aF,rfl,h.z⟩
    ·
     rintro ac wd ⟨aC,rfl,h⟩
     (try dsimp only at ax)
     refine qe [] [3,4,7,9] [(1,0),(2,0),(7,0)] h fun ac wd h => ?_
     exact ⟨nf,Nat.lt_succ_self nf,(IntKind.wrap .i64 (av + 1)),aC,ax,h.z⟩
   ·
    refine kF h ?_
    refine wp_exit ?_
    change Code.wp Tryz.prog _ _ _ _
    refine qs 373 [] [6] [(7,0)] h fun ac wd h => ?_
    refine wp_ret ?_
    have h := h.sw (1,0) (7,0) 373
    injection ax with ax
    subst ax
    exact rO h [.tmp 6] [(1,0)]
theorem L_ref15_Reach_ok {a0 : TApp} {a1 : TConf} {a2 : Int} {r : (List Bool)} (hD : L_ref15_Reach a0 a1 a2 = some r) :
  CallH Tryz.prog 60 [.agg (cTApp a0),.agg (cTConf a1),.one (.d (.int .i64 a2))] []
   (.one (.d (.sl (List.map eB r)))) [] :=
 (L_ref15_Reach_own hD).fr

theorem L_ref15_Knot_own {a0 : TApp} {a1 : TConf} {r : (List Int)} (hD : L_ref15_Knot a0 a1 = some r) :
  CallH Tryz.prog 26 [.agg (cTApp a0),.agg (cTConf a1)] []
   (.one (.own (1,0) r.length)) [((1,0),some (.row 3 1 (dat (List.map eI r))))] := by
 unfold L_ref15_Knot at hD
 refine rc Tryz.func26 rfl Tryz.ntmps26 fun S Φ P0 wb ac h => ?_
 refine qs 4 [] [2,3] [(1,0),(2,0)] h fun ac wd h => ?_
 refine qs 6 [] [2,3,5] [(1,0),(2,0),(4,0)] h fun ac wd h => ?_
 refine wp_seq ?_
 refine qs 7 [] [2,3,5,6] [(1,0),(2,0),(4,0)] h fun ac wd h => ?_
 refine wp_block ?_
 refine r_while (fun nf ac wd => ∃ (aa : Int) (ab : List Int),L_ref15_Knot_l1 a0 a1 nf aa ab = some r ∧ SL ⟨wb,S,Φ,P0⟩ 27 47 [(2,.one (.ptr (1,0) 0)),(3,.one (.ptr (2,0) 0)),(5,.one (.own (4,0) ab.length)),(6,.one (.d (.int .i64 aa)))] [((1,0),some (.box 44 (cTApp a0))),((2,0),some (.box 76 (cTConf a1))),((4,0),some (.row 3 1 (dat (List.map eI ab))))] ac wd) ((a0.G.N - 0).toNat + 1) ⟨0,([] : List Int),hD,h.z⟩ (fun nf ac wd hJ => ?_)
 obtain ⟨aa,ab,ad,h⟩ := hJ
 cases nf with
 | zero => rw [L_ref15_Knot_l1] at ad; cases ad
 | succ nf =>
  rw [L_ref15_Knot_l1] at ad
  refine wp_seq ?_
  refine qs 52 [] [2,3,5,6,12] [(1,0),(2,0),(4,0)] h fun ac wd h => ?_
  rcases i2 ad with ⟨ae,ad⟩ | ⟨ae,ad⟩
  ·
   refine kT h ?_
   refine wp_skip ?_
   change Code.wp Tryz.prog _ _ _ _
   obtain ⟨af,ag,ad⟩ := Option.bind_eq_some_iff.1 ad
   refine r_seqJ (fun ac wd => ∃ (ah : List Int),ah = af ∧ SL ⟨wb,S,Φ,P0⟩ 27 64 [(2,.one (.ptr (1,0) 0)),(3,.one (.ptr (2,0) 0)),(5,.one (.own (62,0) ah.length)),(6,.one (.d (.int .i64 aa)))] [((1,0),some (.box 44 (cTApp a0))),((2,0),some (.box 76 (cTConf a1))),((62,0),some (.row 3 1 (dat (List.map eI ah))))] ac wd) ?_ ?_
   ·
    refine wp_block ?_
    obtain ⟨ai,aj,ag⟩ := oB ag
    obtain ⟨ak,al,am,an,ao,ag⟩ := aB ag
    have ap := L_ref15_Reach_ok aj
    refine qs 59 [factE 55 ap] [2,3,5,6,21] [(1,0),(2,0),(4,0)] h fun ac wd h => ?_
    rcases i2b ag with ⟨aq,ag⟩ | ⟨aq,ag⟩
    ·
     refine kT h ?_
     obtain ⟨ar,ag⟩ := iT ag
     refine qe [] [2,3,5,6] [(1,0),(2,0),(62,0)] h fun ac wd h => ?_
     injection ag with ag; subst ag
     exact ⟨(ab ++ [aa]),rfl,h.z⟩
    ·
     refine kF h ?_
     refine wp_skip ?_
     have h := h.sw (62,0) (4,0) 64
     injection ag with ag; subst ag
     exact ⟨ab,rfl,h.z⟩
   ·
    rintro ac wd ⟨ah,rfl,h⟩
    (try dsimp only at ad)
    refine qe [] [2,3,5,6] [(1,0),(2,0),(62,0)] h fun ac wd h => ?_
    have h := h.sw (4,0) (62,0) 67
    exact ⟨nf,Nat.lt_succ_self nf,(IntKind.wrap .i64 (aa + 1)),ah,ad,h.z⟩
  ·
   refine kF h ?_
   refine wp_exit ?_
   change Code.wp Tryz.prog _ _ _ _
   refine qs 54 [] [4] [(4,0)] h fun ac wd h => ?_
   refine wp_ret ?_
   have h := h.sw (1,0) (4,0) 54
   injection ad with ad
   subst ad
   exact rO h [.tmp 4] [(1,0)]
theorem L_ref15_Knot_ok {a0 : TApp} {a1 : TConf} {r : (List Int)} (hD : L_ref15_Knot a0 a1 = some r) :
  CallH Tryz.prog 26 [.agg (cTApp a0),.agg (cTConf a1)] []
   (.one (.d (.sl (List.map eI r)))) [] :=
 (L_ref15_Knot_own hD).fr

theorem L_ref15_Edges_own {a0 : TApp} {a1 : TConf} {r : (List A2I)} (hD : L_ref15_Edges a0 a1 = some r) :
  CallH Tryz.prog 27 [.agg (cTApp a0),.agg (cTConf a1)] []
   (.one (.own (1,0) r.length)) [((1,0),some (.row 91 2 (dat (List.map eA2I r))))] := by
 unfold L_ref15_Edges at hD
 refine rc Tryz.func27 rfl Tryz.ntmps27 fun S Φ P0 wb ac h => ?_
 refine qs 4 [] [2,3] [(1,0),(2,0)] h fun ac wd h => ?_
 refine qs 6 [] [2,3,5] [(1,0),(2,0),(4,0)] h fun ac wd h => ?_
 refine wp_seq ?_
 refine qs 7 [] [2,3,5,6] [(1,0),(2,0),(4,0)] h fun ac wd h => ?_
 refine wp_block ?_
 refine r_while (fun nf ac wd => ∃ (aa : Int) (ab : List A2I),L_ref15_Edges_l1 a0 a1 nf aa ab = some r ∧ SL ⟨wb,S,Φ,P0⟩ 35 115 [(2,.one (.ptr (1,0) 0)),(3,.one (.ptr (2,0) 0)),(5,.one (.own (4,0) ab.length)),(6,.one (.d (.int .i64 aa)))] [((1,0),some (.box 44 (cTApp a0))),((2,0),some (.box 76 (cTConf a1))),((4,0),some (.row 91 2 (dat (List.map eA2I ab))))] ac wd) ((a0.G.N - 0).toNat + 1) ⟨0,([] : List A2I),hD,h.z⟩ (fun nf ac wd hJ => ?_)
 obtain ⟨aa,ab,ad,h⟩ := hJ
 cases nf with
 | zero => rw [L_ref15_Edges_l1] at ad; cases ad
 | succ nf =>
  rw [L_ref15_Edges_l1] at ad
  refine wp_seq ?_
  refine qs 120 [] [2,3,5,6,13] [(1,0),(2,0),(4,0)] h fun ac wd h => ?_
  rcases i2 ad with ⟨ae,ad⟩ | ⟨ae,ad⟩
  ·
   refine kT h ?_
   refine wp_skip ?_
   change Code.wp Tryz.prog _ _ _ _
   obtain ⟨af,ag,ad⟩ := Option.bind_eq_some_iff.1 ad
   refine r_seqJ (fun ac wd => ∃ (ah : List A2I),ah = af ∧ SL ⟨wb,S,Φ,P0⟩ 35 166 [(2,.one (.ptr (1,0) 0)),(3,.one (.ptr (2,0) 0)),(5,.one (.own (4,0) ah.length)),(6,.one (.d (.int .i64 aa)))] [((1,0),some (.box 44 (cTApp a0))),((2,0),some (.box 76 (cTConf a1))),((4,0),some (.row 91 2 (dat (List.map eA2I ah))))] ac wd) ?_ ?_
   ·
    refine wp_block ?_
    refine qs 121 [] [2,3,5,6,7] [(1,0),(2,0),(4,0)] h fun ac wd h => ?_
    obtain ⟨ai,aj,ag⟩ := Option.bind_eq_some_iff.1 ag
    refine r_meetQ (fun ac wd => ∃ (ak : List A2I),ak = ai ∧ SL ⟨wb,S,Φ,P0⟩ 35 166 [(2,.one (.ptr (1,0) 0)),(3,.one (.ptr (2,0) 0)),(5,.one (.own (4,0) ak.length)),(6,.one (.d (.int .i64 aa)))] [((1,0),some (.box 44 (cTApp a0))),((2,0),some (.box 76 (cTConf a1))),((4,0),some (.row 91 2 (dat (List.map eA2I ak))))] ac wd) ?_ ?_
    ·
     refine wp_block ?_
     refine r_while (fun nf ac wd => ∃ (al : Int) (am : List A2I),L_ref15_Edges_l2 a0 a1 aa nf al am = some ai ∧ SL ⟨wb,S,Φ,P0⟩ 35 161 [(2,.one (.ptr (1,0) 0)),(3,.one (.ptr (2,0) 0)),(5,.one (.own (4,0) am.length)),(6,.one (.d (.int .i64 aa))),(7,.one (.d (.int .i64 al)))] [((1,0),some (.box 44 (cTApp a0))),((2,0),some (.box 76 (cTConf a1))),((4,0),some (.row 91 2 (dat (List.map eA2I am))))] ac wd) ((a0.G.N - 0).toNat + 1) ⟨0,ab,aj,h.z⟩ (fun nf ac wd hJ => ?_)
     obtain ⟨al,am,an,h⟩ := hJ
     cases nf with
     | zero => rw [L_ref15_Edges_l2] at an; cases an
     | succ nf =>
      rw [L_ref15_Edges_l2] at an
      refine wp_seq ?_
      refine qs 166 [] [2,3,5,6,7,20] [(1,0),(2,0),(4,0)] h fun ac wd h => ?_
      rcases i2 an with ⟨ao,an⟩ | ⟨ao,an⟩
      ·
       refine kT h ?_
       refine wp_skip ?_
       change Code.wp Tryz.prog _ _ _ _
       obtain ⟨ap,aq,an⟩ := Option.bind_eq_some_iff.1 an
       refine r_seqJ (fun ac wd => ∃ (ar : List A2I),ar = ap ∧ SL ⟨wb,S,Φ,P0⟩ 35 178 [(2,.one (.ptr (1,0) 0)),(3,.one (.ptr (2,0) 0)),(5,.one (.own (176,0) ar.length)),(6,.one (.d (.int .i64 aa))),(7,.one (.d (.int .i64 al)))] [((1,0),some (.box 44 (cTApp a0))),((2,0),some (.box 76 (cTConf a1))),((176,0),some (.row 91 2 (dat (List.map eA2I ar))))] ac wd) ?_ ?_
       ·
        refine wp_block ?_
        obtain ⟨au,av,aq⟩ := oB aq
        have aw := L_ref15_Edge_ok av
        refine qs 171 [factE 170 aw] [2,3,5,6,7,27] [(1,0),(2,0),(4,0)] h fun ac wd h => ?_
        rcases i2b aq with ⟨ax,aq⟩ | ⟨ax,aq⟩
        ·
         refine kT h ?_
         obtain ⟨ay,aq⟩ := iT aq
         refine qe [] [2,3,5,6,7] [(1,0),(2,0),(176,0)] h fun ac wd h => ?_
         injection aq with aq; subst aq
         exact ⟨(am ++ [(A2I.mk aa al)]),rfl,h.z⟩
        ·
         refine kF h ?_
         refine wp_skip ?_
         have h := h.sw (176,0) (4,0) 178
         injection aq with aq; subst aq
         exact ⟨am,rfl,h.z⟩
       ·
        rintro ac wd ⟨ar,rfl,h⟩
        (try dsimp only at an)
        refine qe [] [2,3,5,6,7] [(1,0),(2,0),(176,0)] h fun ac wd h => ?_
        have h := h.sw (4,0) (176,0) 181
        exact ⟨nf,Nat.lt_succ_self nf,(IntKind.wrap .i64 (al + 1)),ar,an,h.z⟩
      ·
       refine kF h ?_
       refine wp_exit ?_
       injection an with an; subst an
       exact ⟨am,rfl,h.z⟩
    ·
     rintro ac wd ⟨ak,rfl,h⟩
     (try dsimp only at ag)
     injection ag with ag; subst ag
     exact ⟨ak,rfl,h.z⟩
   ·
    rintro ac wd ⟨ah,rfl,h⟩
    (try dsimp only at ad)
    refine qe [] [2,3,5,6] [(1,0),(2,0),(4,0)] h fun ac wd h => ?_
    exact ⟨nf,Nat.lt_succ_self nf,(IntKind.wrap .i64 (aa + 1)),ah,ad,h.z⟩
  ·
   refine kF h ?_
   refine wp_exit ?_
   change Code.wp Tryz.prog _ _ _ _
   refine qs 122 [] [4] [(4,0)] h fun ac wd h => ?_
   refine wp_ret ?_
   have h := h.sw (1,0) (4,0) 122
   injection ad with ad
   subst ad
   exact rO h [.tmp 4] [(1,0)]
theorem L_ref15_Edges_ok {a0 : TApp} {a1 : TConf} {r : (List A2I)} (hD : L_ref15_Edges a0 a1 = some r) :
  CallH Tryz.prog 27 [.agg (cTApp a0),.agg (cTConf a1)] []
   (.one (.d (.sl (List.map eA2I r)))) [] :=
 (L_ref15_Edges_own hD).fr

end Go.Proofs.YtabbejabdkkaiaaGreat
