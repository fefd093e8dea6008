/- Functions as typed ones,and that the program's functions answer as these do. No condition. -/
import Derived.Test.YtabbejabdkkaiaaGb6
import Derived.Test.YtabbejabdkkaiaaGd
set_option linter.unusedSimpArgs false
set_option linter.unusedVariables false
set_option maxRecDepth 20000
set_option maxHeartbeats 4000000
namespace Go.Proofs.Ytabbejabdkkaiaa
open Go.RowKit

theorem L_plain_App_deliver_own {a0 : TApp} {a1 : TConf} {a2 : TStep} {r : TConf × Int} (hD : L_plain_App_deliver a0 a1 a2 = some r) :
  CallH Try.prog 120 [.agg (cTApp a0),.agg (cTConf a1),.agg (cTStep a2)] []
   (.tup [.inl [.own (1,0) r.1.States.length,.own (1,1) r.1.Links.length,.own (1,2) r.1.Sent.length],.inr (.d (.int .i64 r.2))]) [((1,0),some (.row 3 1 (dat (List.map eI r.1.States)))),((1,1),some (.row 170 1 (openRows cols_170 (List.map (eL eTMsg) r.1.Links)))),((1,2),some (.row 3 1 (dat (List.map eI r.1.Sent))))] := by
 unfold L_plain_App_deliver at hD
 refine rc Try.func120 rfl Try.ntmps120 fun S Φ P0 wb ac h => ?_
 refine qs 6 [] [3,4,5,6] [(1,0),(2,0),(3,0),(4,0)] h fun ac wd h => ?_
 refine wp_seq ?_
 obtain ⟨aa,ab,hD⟩ := Option.bind_eq_some_iff.1 hD
 refine r_seqJ (fun ac wd => ∃ (ad : Bool),ad = aa ∧ SL ⟨wb,S,Φ,P0⟩ 102 18 [(3,.one (.ptr (1,0) 0)),(4,.one (.ptr (2,0) 0)),(5,.one (.ptr (3,0) 0)),(6,.one (.ptr (4,0) 0)),(23,.one (.d (.bool ad)))] [((1,0),some (.box 53 (cTApp a0))),((2,0),some (.box 104 (cTConf a1))),((3,0),some (.box 125 (cTStep a2))),((4,0),some (.box 104 [.nil,.nil,.nil]))] ac wd) ?_ ?_
 ·
  rcases i2 ab with ⟨ae,ab⟩ | ⟨ae,ab⟩
  ·
   refine qeg [] [none,none,none,none,some (some 15,false),some (some 15,false),some (some 15,false),some (some 15,false),some (some 15,false),some (some 15,false),some (some 15,false),none] [3,4,5,6,23] [(1,0),(2,0),(3,0),(4,0)] h fun ac wd h => ?_
   injection ab with ab; subst ab
   exact ⟨true,rfl,h.z⟩
  ·
   refine qeg [] [none,none,none,none,some (some 15,false),some (some 15,false),some (some 15,false),some (some 15,false),some (some 15,false),some (some 15,false),some (some 15,false),none] [3,4,5,6,23] [(1,0),(2,0),(3,0),(4,0)] h fun ac wd h => ?_
   injection ab with ab; subst ab
   exact ⟨decide (a2.Link ≥ (a0.G.Links.length : Int)),rfl,h.z⟩
 ·
  rintro ac wd ⟨ad,rfl,h⟩
  (try dsimp only at hD)
  rcases i2b hD with ⟨af,hD⟩ | ⟨af,hD⟩
  ·
   refine kT h ?_
   refine qs 21 [] [6,7] [(4,0)] h fun ac wd h => ?_
   refine wp_ret ?_
   have h := SL.bornB h (4,0) 0 3 1 (by simp only [EZ,simprocAttr, *] <;> rfl) (by simp only [EZ,simprocAttr, *] <;> rfl)
   have h := SL.bornB h (4,0) 1 170 1 (by simp only [EZ,simprocAttr, *] <;> rfl) (by simp only [EZ,simprocAttr, *] <;> rfl)
   have h := SL.bornB h (4,0) 2 3 1 (by simp only [EZ,simprocAttr, *] <;> rfl) (by simp only [EZ,simprocAttr, *] <;> rfl)
   have h := h.sw (1,0) (21,0) 24
   have h := h.sw (1,1) (22,0) 24
   have h := h.sw (1,2) (23,0) 24
   injection hD with hD
   subst hD
   exact rO h [.cell 6 104,.tmp 7] [(1,0),(1,1),(1,2)]
  ·
   refine kF h ?_
   refine wp_skip ?_
   change Code.wp Try.prog _ _ _ _
   obtain ⟨ag,ah,ai,aj,ak,hD⟩ := aB hD
   obtain ⟨al,am,hD⟩ := oB hD
   have an := (((L_slices_IndexFunc_api_Msg_api_Msg_own am).cls 25).nm (0,0) (3,0)).z
   refine qs 27 [factR an] [3,4,5,6,8] [(1,0),(2,0),(3,0),(4,0)] h fun ac wd h => ?_
   refine wp_seq ?_
   obtain ⟨ao,ap,hD⟩ := Option.bind_eq_some_iff.1 hD
   refine r_seqJ (fun ac wd => ∃ (aq : Bool),aq = ao ∧ SL ⟨wb,S,Φ,P0⟩ 102 37 [(3,.one (.ptr (1,0) 0)),(4,.one (.ptr (2,0) 0)),(5,.one (.ptr (3,0) 0)),(6,.one (.ptr (4,0) 0)),(8,.one (.d (.int .i64 al.1))),(42,.one (.d (.bool aq)))] [((1,0),some (.box 53 (cTApp a0))),((2,0),some (.box 104 (cTConf a1))),((3,0),some (.box 125 (cTStep al.2))),((4,0),some (.box 104 [.nil,.nil,.nil]))] ac wd) ?_ ?_
   ·
    rcases i2 ap with ⟨ar,ap⟩ | ⟨ar,ap⟩
    ·
     refine qeg [] [none,none,none,some (some 35,false),some (some 35,false),some (some 35,false),some (some 38,true),some (some 38,true),some (some 35,false),none] [3,4,5,6,8,42] [(1,0),(2,0),(3,0),(4,0)] h fun ac wd h => ?_
     injection ap with ap; subst ap
     exact ⟨true,rfl,h.z⟩
    ·
     rcases i2b ap with ⟨au,ap⟩ | ⟨au,ap⟩
     ·
      refine qeg [] [none,none,none,some (some 35,false),some (some 35,false),some (some 35,false),some (some 38,true),some (some 38,true),some (some 35,false),none] [3,4,5,6,8,42] [(1,0),(2,0),(3,0),(4,0)] h fun ac wd h => ?_
      injection ap with ap; subst ap
      exact ⟨decide (al.1 > 0),rfl,h.z⟩
     ·
      refine qeg [] [none,none,none,some (some 35,false),some (some 35,false),some (some 35,false),some (some 38,true),some (some 38,true),some (some 35,false),none] [3,4,5,6,8,42] [(1,0),(2,0),(3,0),(4,0)] h fun ac wd h => ?_
      injection ap with ap; subst ap
      exact ⟨false,rfl,h.z⟩
   ·
    rintro ac wd ⟨aq,rfl,h⟩
    (try dsimp only at hD)
    rcases i2b hD with ⟨av,hD⟩ | ⟨av,hD⟩
    ·
     refine kT h ?_
     refine qs 40 [] [6,7] [(4,0)] h fun ac wd h => ?_
     refine wp_ret ?_
     have h := SL.bornB h (4,0) 0 3 1 (by simp only [EZ,simprocAttr, *] <;> rfl) (by simp only [EZ,simprocAttr, *] <;> rfl)
     have h := SL.bornB h (4,0) 1 170 1 (by simp only [EZ,simprocAttr, *] <;> rfl) (by simp only [EZ,simprocAttr, *] <;> rfl)
     have h := SL.bornB h (4,0) 2 3 1 (by simp only [EZ,simprocAttr, *] <;> rfl) (by simp only [EZ,simprocAttr, *] <;> rfl)
     have h := h.sw (1,0) (40,0) 43
     have h := h.sw (1,1) (41,0) 43
     have h := h.sw (1,2) (42,0) 43
     injection hD with hD
     subst hD
     exact rO h [.cell 6 104,.tmp 7] [(1,0),(1,1),(1,2)]
    ·
     refine kF h ?_
     refine wp_skip ?_
     change Code.wp Try.prog _ _ _ _
     obtain ⟨aw,ax,ay,az,aA,hD⟩ := aB hD
     refine ds 55 [] [3,4,5,6,8,9,10] [(1,0),(2,0),(3,0),(4,0)] h fun ac wd h => ?_
     obtain ⟨aC,aD,hD⟩ := oB hD
     have aE := ((L_plain_own_own aD).cls 56).z
     refine qs 59 [factO aE] [3,4,5,6,8,9,10,11] [(1,0),(2,0),(3,0),(4,0),(56,0),(56,1),(56,2),(57,0)] h fun ac wd h => ?_
     obtain ⟨aF,aG,aH,aI,aJ,hD⟩ := aB hD
     obtain ⟨aK,aL,aM,aN,aO,hD⟩ := aB hD
     obtain ⟨aP,aQ,aR,aS,aT,hD⟩ := aB hD
     obtain ⟨aU,aV,hD⟩ := oB hD
     obtain ⟨aW,aX,aY,aZ,ba,hD⟩ := aB hD
     have bb := L_table_Taken_ok aV
     refine ds 84 [factE 81 bb] [5,6,8,11] [(3,0),(4,0),(56,0),(56,1),(56,2),(57,0)] h fun ac wd h => ?_
     obtain ⟨bc,bd,be,bf,bg,hD⟩ := aB hD
     have h := h.op (56,1) al.2.Link.toNat 0
     have h := h.sm 85 [(5,.one (.ptr (3,0) 0)),(6,.one (.ptr (4,0) 0)),(8,.one (.d (.int .i64 al.1))),(11,.one (.ptr (57,0) 0))]
      [((3,0),some (.box 125 (cTStep al.2))),((4,0),some (.box 104 [.nil,.nil,.nil])),((56,0),some (.row 3 1 (dat (List.map eI (aC.States.set aw.a1.toNat aU))))),((56,1),some (.row 170 1 ((openRows cols_170 (List.map (eL eTMsg) aC.Links)).set al.2.Link.toNat [.own (84,0) bc.length]))),((56,2),some (.row 3 1 (dat (List.map eI aC.Sent)))),((57,0),some (.box 104 [.own (56,0) aC.States.length,.own (56,1) aC.Links.length,.own (56,2) aC.Sent.length])),((84,0),some (.row 59 2 (dat (List.map eTMsg bc))))]
     obtain ⟨bh,bi,hD⟩ := oB hD
     have bj := ((L_slices_Delete_api_Msg_api_Msg_own bi).nm (0,0) (84,0)).z
     refine ds 101 [factR bj] [6,11] [(4,0),(56,0),(56,1),(56,2),(57,0),(84,0)] h fun ac wd h => ?_
     have h := h.fS (cols := (fun _ => .sc)) (56,1) (84,0) (openRows cols_170 (List.map (eL eTMsg) aC.Links)) al.2.Link.toNat [.own (84,0) bh.length] 0 (List.map eTMsg bh) (sc_59 _)
     have h := h.sm 101 [(6,.one (.ptr (4,0) 0)),(11,.one (.ptr (57,0) 0))]
      [((4,0),some (.box 104 [.nil,.nil,.nil])),((56,0),some (.row 3 1 (dat (List.map eI (aC.States.set aw.a1.toNat aU))))),((56,1),some (.row 170 1 ((openRows cols_170 (List.map (eL eTMsg) aC.Links)).set al.2.Link.toNat [.tr (.sl 59 2 (fun _ => .sc)) (.sl (List.map eTMsg bh))]))),((56,2),some (.row 3 1 (dat (List.map eI aC.Sent)))),((57,0),some (.box 104 [.own (56,0) aC.States.length,.own (56,1) aC.Links.length,.own (56,2) aC.Sent.length]))]
     refine qs 104 [] [6,7] [(4,0),(56,0),(56,1),(56,2)] h fun ac wd h => ?_
     refine wp_ret ?_
     have h := h.sw (1,0) (56,0) 104
     have h := h.sw (1,1) (56,1) 104
     have h := h.sw (1,2) (56,2) 104
     injection hD with hD
     subst hD
     exact rO h [.cell 6 104,.tmp 7] [(1,0),(1,1),(1,2)]
theorem L_plain_App_deliver_ok {a0 : TApp} {a1 : TConf} {a2 : TStep} {r : TConf × Int} (hD : L_plain_App_deliver a0 a1 a2 = some r) :
  CallH Try.prog 120 [.agg (cTApp a0),.agg (cTConf a1),.agg (cTStep a2)] []
   (.tup [.inl [.d (.sl (List.map eI r.1.States)),.d (.sl (List.map (eL eTMsg) r.1.Links)),.d (.sl (List.map eI r.1.Sent))],.inr (.d (.int .i64 r.2))]) [] :=
 (L_plain_App_deliver_own hD).fr

theorem L_plain_Apply_own {a0 : TApp} {a1 : TConf} {a2 : TStep} {r : TConf × Int} (hD : L_plain_Apply a0 a1 a2 = some r) :
  CallH Try.prog 90 [.agg (cTApp a0),.agg (cTConf a1),.agg (cTStep a2)] []
   (.tup [.inl [.own (1,0) r.1.States.length,.own (1,1) r.1.Links.length,.own (1,2) r.1.Sent.length],.inr (.d (.int .i64 r.2))]) [((1,0),some (.row 3 1 (dat (List.map eI r.1.States)))),((1,1),some (.row 170 1 (openRows cols_170 (List.map (eL eTMsg) r.1.Links)))),((1,2),some (.row 3 1 (dat (List.map eI r.1.Sent))))] := by
 unfold L_plain_Apply at hD
 refine rc Try.func90 rfl Try.ntmps90 fun S Φ P0 wb ac h => ?_
 refine qs 6 [] [3,4,5,6] [(1,0),(2,0),(3,0),(4,0)] h fun ac wd h => ?_
 rcases i2e hD with ⟨aa,hD⟩ | ⟨aa,hD⟩
 ·
  refine qs 18 [] [3,4,5,6,8,9] [(1,0),(2,0),(3,0),(4,0)] h fun ac wd h => ?_
  refine wp_seq ?_
  refine qs 20 [] [3,4,5,6,8,19] [(1,0),(2,0),(3,0),(4,0)] h fun ac wd h => ?_
  refine kF h ?_
  refine wp_skip ?_
  change Code.wp Try.prog _ _ _ _
  obtain ⟨ab,ad,hD⟩ := oB hD
  have ae := ((L_plain_App_pick_own ad).cls 24).z
  refine qs 29 [factO ae] [6,7] [(4,0),(24,0),(24,1),(24,2)] h fun ac wd h => ?_
  refine wp_ret ?_
  have h := h.sw (1,0) (24,0) 29
  have h := h.sw (1,1) (24,1) 29
  have h := h.sw (1,2) (24,2) 29
  injection hD with hD
  subst hD
  exact rO h [.cell 6 104,.tmp 7] [(1,0),(1,1),(1,2)]
 ·
  rcases i2e hD with ⟨af,hD⟩ | ⟨af,hD⟩
  ·
   refine qs 18 [] [3,4,5,6,8,9] [(1,0),(2,0),(3,0),(4,0)] h fun ac wd h => ?_
   refine wp_seq ?_
   refine qs 20 [] [3,4,5,6,8,19] [(1,0),(2,0),(3,0),(4,0)] h fun ac wd h => ?_
   refine kF h ?_
   refine wp_skip ?_
   change Code.wp Try.prog _ _ _ _
   obtain ⟨ag,ah,hD⟩ := oB hD
   have ai := ((L_plain_App_deliver_own ah).cls 24).z
   refine qs 29 [factO ai] [6,7] [(4,0),(24,0),(24,1),(24,2)] h fun ac wd h => ?_
   refine wp_ret ?_
   have h := h.sw (1,0) (24,0) 29
   have h := h.sw (1,1) (24,1) 29
   have h := h.sw (1,2) (24,2) 29
   injection hD with hD
   subst hD
   exact rO h [.cell 6 104,.tmp 7] [(1,0),(1,1),(1,2)]
  ·
   refine qs 18 [] [3,4,5,6,9] [(1,0),(2,0),(3,0),(4,0)] h fun ac wd h => ?_
   refine wp_seq ?_
   refine qs 20 [] [3,4,5,6,19] [(1,0),(2,0),(3,0),(4,0)] h fun ac wd h => ?_
   refine kT h ?_
   refine qs 23 [] [6,7] [(4,0)] h fun ac wd h => ?_
   refine wp_ret ?_
   have h := SL.bornB h (4,0) 0 3 1 (by simp only [EZ,simprocAttr, *] <;> rfl) (by simp only [EZ,simprocAttr, *] <;> rfl)
   have h := SL.bornB h (4,0) 1 170 1 (by simp only [EZ,simprocAttr, *] <;> rfl) (by simp only [EZ,simprocAttr, *] <;> rfl)
   have h := SL.bornB h (4,0) 2 3 1 (by simp only [EZ,simprocAttr, *] <;> rfl) (by simp only [EZ,simprocAttr, *] <;> rfl)
   have h := h.sw (1,0) (23,0) 26
   have h := h.sw (1,1) (24,0) 26
   have h := h.sw (1,2) (25,0) 26
   injection hD with hD
   subst hD
   exact rO h [.cell 6 104,.tmp 7] [(1,0),(1,1),(1,2)]
theorem L_plain_Apply_ok {a0 : TApp} {a1 : TConf} {a2 : TStep} {r : TConf × Int} (hD : L_plain_Apply a0 a1 a2 = some r) :
  CallH Try.prog 90 [.agg (cTApp a0),.agg (cTConf a1),.agg (cTStep a2)] []
   (.tup [.inl [.d (.sl (List.map eI r.1.States)),.d (.sl (List.map (eL eTMsg) r.1.Links)),.d (.sl (List.map eI r.1.Sent))],.inr (.d (.int .i64 r.2))]) [] :=
 (L_plain_Apply_own hD).fr

theorem L_cut_Good_ok {a0 : TApp} {a1 : TConf} {a2 : (List TStep)} {a3 : (List Int)} {r : Bool} (hD : L_cut_Good a0 a1 a2 a3 = some r) :
  CallH Try.prog 38 [.agg (cTApp a0),.agg (cTConf a1),.one (.d (.sl (List.map eTStep a2))),.one (.d (.sl (List.map eI a3)))] []
   (.one (.d (.bool r))) [] := by
 unfold L_cut_Good at hD
 refine rc Try.func38 rfl Try.ntmps38 fun S Φ P0 wb ac h => ?_
 refine qs 4 [] [2,3,4,5] [(1,0),(2,0)] h fun ac wd h => ?_
 obtain ⟨aa,ab,hD⟩ := oB hD
 have ad := ((L_cut_sides_own ab).cls 7).z
 refine qs 9 [factO ad] [2,4,5,9] [(1,0),(2,0),(7,0),(7,1),(7,2)] h fun ac wd h => ?_
 refine qs 11 [] [2,4,5,9,10] [(1,0),(2,0),(7,0),(7,1),(7,2),(9,0)] h fun ac wd h => ?_
 refine wp_seq ?_
 refine qs 14 [] [4,5,9,10,23,24,25] [(1,0),(2,0),(7,0),(7,1),(7,2),(9,0)] h fun ac wd h => ?_
 refine wp_block ?_
 refine r_while (fun nf ac wd => ∃ (ae : Int) (af : TConf) (ag : NMap) (ah : List Int),L_cut_Good_l1 a0 a2 nf ae af ag ah = some r ∧ SL ⟨wb,S,Φ,P0⟩ 91 378 [(4,.one (.ptr (1,0) 0)),(5,.one (.ptr (2,0) 0)),(9,.one (.fnp 118 [((7,0),0),((7,1),0)])),(10,.one (.mp (9,0))),(23,.one (.d (.sl (List.map eTStep a2)))),(24,.one (.d (.int .i64 (a2.length : Int)))),(25,.one (.d (.int .i64 ae)))] [((1,0),some (.box 53 (cTApp a0))),((2,0),some (.box 104 (cTConf af))),((7,0),some (.box 25 (cTGraph a0.G))),((7,1),some (.box 39 [.own (7,2) ah.length])),((7,2),some (.row 3 1 (dat (List.map eI ah)))),((9,0),some (.map 181 3 true 2 (mE ag)))] ac wd) (((a2.length : Int) - 0).toNat + 1) ⟨0,a1,([] : NMap),aa,hD,h.z⟩ (fun nf ac wd hJ => ?_)
 obtain ⟨ae,af,ag,ah,ai,h⟩ := hJ
 cases nf with
 | zero => rw [L_cut_Good_l1] at ai; cases ai
 | succ nf =>
  rw [L_cut_Good_l1] at ai
  refine qs 379 [] [4,5,9,10,23,24,25,26] [(1,0),(2,0),(7,0),(7,1),(7,2),(9,0)] h fun ac wd h => ?_
  refine wp_seq ?_
  rcases i2 ai with ⟨aj,ai⟩ | ⟨aj,ai⟩
  ·
   refine kT h ?_
   refine wp_skip ?_
   change Code.wp Try.prog _ _ _ _
   obtain ⟨ak,al,ai⟩ := Option.bind_eq_some_iff.1 ai
   refine r_seqJ (fun ac wd => ∃ (am : TConf) (an : NMap) (ao : List Int),(.inl (am,an,ao)) = ak ∧ SL ⟨wb,S,Φ,P0⟩ 91 558 [(4,.one (.ptr (1,0) 0)),(5,.one (.ptr (2,0) 0)),(9,.one (.fnp 118 [((7,0),0),((7,1),0)])),(10,.one (.mp (9,0))),(23,.one (.d (.sl (List.map eTStep a2)))),(24,.one (.d (.int .i64 (a2.length : Int)))),(25,.one (.d (.int .i64 ae)))] [((1,0),some (.box 53 (cTApp a0))),((2,0),some (.box 104 (cTConf am))),((7,0),some (.box 25 (cTGraph a0.G))),((7,1),some (.box 39 [.own (7,2) ao.length])),((7,2),some (.row 3 1 (dat (List.map eI ao)))),((9,0),some (.map 181 3 true 2 (mE an)))] ac wd) ?_ ?_
   ·
    refine wp_block ?_
    obtain ⟨ap,aq,ar,au,av,al⟩ := aB al
    refine qs 383 [] [4,5,9,10,12,23,24,25] [(1,0),(2,0),(7,0),(7,1),(7,2),(9,0),(381,0)] h fun ac wd h => ?_
    obtain ⟨aw,ax,al⟩ := oB al
    have ay := ((((L_cut_side_own ax).nm (0,0) (7,0)).nm (0,1) (7,1)).nm (0,2) (7,2)).z
    refine qs 387 [factR ay] [4,5,9,10,12,13,23,24,25] [(1,0),(2,0),(7,0),(7,1),(7,2),(9,0),(381,0)] h fun ac wd h => ?_
    refine wp_seq ?_
    obtain ⟨az,aA,al⟩ := Option.bind_eq_some_iff.1 al
    refine r_seqJ (fun ac wd => ∃ (aC : Bool),aC = az ∧ SL ⟨wb,S,Φ,P0⟩ 91 403 [(4,.one (.ptr (1,0) 0)),(5,.one (.ptr (2,0) 0)),(9,.one (.fnp 118 [((7,0),0),((7,1),0)])),(10,.one (.mp (9,0))),(12,.one (.ptr (381,0) 0)),(13,.one (.d (.bool aw.1))),(23,.one (.d (.sl (List.map eTStep a2)))),(24,.one (.d (.int .i64 (a2.length : Int)))),(25,.one (.d (.int .i64 ae))),(47,.one (.d (.bool aC)))] [((1,0),some (.box 53 (cTApp a0))),((2,0),some (.box 104 (cTConf af))),((7,0),some (.box 25 (cTGraph a0.G))),((7,1),some (.box 39 [.own (7,2) aw.2.length])),((7,2),some (.row 3 1 (dat (List.map eI aw.2)))),((9,0),some (.map 181 3 true 2 (mE ag))),((381,0),some (.box 125 (cTStep ap)))] ac wd) ?_ ?_
    ·
     rcases i2e aA with ⟨aD,aA⟩ | ⟨aD,aA⟩
     ·
      rcases i2b aA with ⟨aE,aA⟩ | ⟨aE,aA⟩
      ·
       refine qeg [] [none,none,none,none,some (some 35,true),none,none,some (some 38,true),some (some 38,true),some (some 38,true),some (some 38,true),some (some 38,true),some (some 38,true),some (some 38,true),some (some 38,true),none] [4,5,9,10,12,13,23,24,25,47] [(1,0),(2,0),(7,0),(7,1),(7,2),(9,0),(381,0)] h fun ac wd h => ?_
       injection aA with aA; subst aA
       exact ⟨decide ((mGetI ag [ap.Link,ap.Seq]) > 0),rfl,h.z⟩
      ·
       refine qeg [] [none,none,none,none,some (some 35,true),none,none,some (some 38,true),some (some 38,true),some (some 38,true),some (some 38,true),some (some 38,true),some (some 38,true),some (some 38,true),some (some 38,true),none] [4,5,9,10,12,13,23,24,25,47] [(1,0),(2,0),(7,0),(7,1),(7,2),(9,0),(381,0)] h fun ac wd h => ?_
       injection aA with aA; subst aA
       exact ⟨false,rfl,h.z⟩
     ·
      refine qeg [] [none,none,none,none,some (some 35,true),none,none,some (some 38,true),some (some 38,true),some (some 38,true),some (some 38,true),some (some 38,true),some (some 38,true),some (some 38,true),some (some 38,true),none] [4,5,9,10,12,13,23,24,25,47] [(1,0),(2,0),(7,0),(7,1),(7,2),(9,0),(381,0)] h fun ac wd h => ?_
      injection aA with aA; subst aA
      exact ⟨false,rfl,h.z⟩
    ·
     rintro ac wd ⟨aC,rfl,h⟩
     (try dsimp only at al)
     rcases i2b al with ⟨aF,al⟩ | ⟨aF,al⟩
     ·
      refine kT h ?_
      refine qs 404 [] [8] [] h fun ac wd h => ?_
      refine wp_ret ?_
      injection al with al
      subst al
      (try dsimp only at ai)
      injection ai with ai
      subst ai
      exact rE h [.tmp 8]
     ·
      refine kF h ?_
      refine wp_skip ?_
      change Code.wp Try.prog _ _ _ _
      obtain ⟨aG,aH,al⟩ := oB al
      have aI := L_plain_Apply_ok aH
      refine qs 413 [factE 406 aI] [4,5,9,10,13,14,23,24,25] [(1,0),(2,0),(7,0),(7,1),(7,2),(9,0),(410,0)] h fun ac wd h => ?_
      refine wp_seq ?_
      refine qs 417 [] [4,5,9,10,13,14,23,24,25,57,58] [(1,0),(2,0),(7,0),(7,1),(7,2),(9,0),(410,0)] h fun ac wd h => ?_
      obtain ⟨aJ,aK,al⟩ := Option.bind_eq_some_iff.1 al
      refine r_meet (fun ac wd => ∃ (aL : NMap),aL = aJ ∧ SL ⟨wb,S,Φ,P0⟩ 91 556 [(4,.one (.ptr (1,0) 0)),(5,.one (.ptr (2,0) 0)),(9,.one (.fnp 118 [((7,0),0),((7,1),0)])),(10,.one (.mp (9,0))),(14,.one (.ptr (410,0) 0)),(23,.one (.d (.sl (List.map eTStep a2)))),(24,.one (.d (.int .i64 (a2.length : Int)))),(25,.one (.d (.int .i64 ae)))] [((1,0),some (.box 53 (cTApp a0))),((2,0),some (.box 104 (cTConf af))),((7,0),some (.box 25 (cTGraph a0.G))),((7,1),some (.box 39 [.own (7,2) aw.2.length])),((7,2),some (.row 3 1 (dat (List.map eI aw.2)))),((9,0),some (.map 181 3 true 2 (mE aL))),((410,0),some (.box 104 [.d (.sl (List.map eI aG.1.States)),.d (.sl (List.map (eL eTMsg) aG.1.Links)),.d (.sl (List.map eI aG.1.Sent))]))] ac wd) ?_ ?_
      ·
       refine wp_block ?_
       refine r_while (fun nf ac wd => ∃ (aM : Int) (aN : NMap),L_cut_Good_l2 af aw aG nf aM aN = some aJ ∧ SL ⟨wb,S,Φ,P0⟩ 91 555 [(4,.one (.ptr (1,0) 0)),(5,.one (.ptr (2,0) 0)),(9,.one (.fnp 118 [((7,0),0),((7,1),0)])),(10,.one (.mp (9,0))),(13,.one (.d (.bool aw.1))),(14,.one (.ptr (410,0) 0)),(23,.one (.d (.sl (List.map eTStep a2)))),(24,.one (.d (.int .i64 (a2.length : Int)))),(25,.one (.d (.int .i64 ae))),(57,.one (.d (.int .i64 (aG.1.Sent.length : Int)))),(58,.one (.d (.int .i64 aM)))] [((1,0),some (.box 53 (cTApp a0))),((2,0),some (.box 104 (cTConf af))),((7,0),some (.box 25 (cTGraph a0.G))),((7,1),some (.box 39 [.own (7,2) aw.2.length])),((7,2),some (.row 3 1 (dat (List.map eI aw.2)))),((9,0),some (.map 181 3 true 2 (mE aN))),((410,0),some (.box 104 [.d (.sl (List.map eI aG.1.States)),.d (.sl (List.map (eL eTMsg) aG.1.Links)),.d (.sl (List.map eI aG.1.Sent))]))] ac wd) (((aG.1.Sent.length : Int) - 0).toNat + 1) ⟨0,ag,aK,h.z⟩ (fun nf ac wd hJ => ?_)
       obtain ⟨aM,aN,aO,h⟩ := hJ
       cases nf with
       | zero => rw [L_cut_Good_l2] at aO; cases aO
       | succ nf =>
        rw [L_cut_Good_l2] at aO
        refine qs 556 [] [4,5,9,10,13,14,23,24,25,57,58,59] [(1,0),(2,0),(7,0),(7,1),(7,2),(9,0),(410,0)] h fun ac wd h => ?_
        refine wp_seq ?_
        rcases i2 aO with ⟨aP,aO⟩ | ⟨aP,aO⟩
        ·
         refine kT h ?_
         refine wp_skip ?_
         change Code.wp Try.prog _ _ _ _
         obtain ⟨aQ,aR,aO⟩ := Option.bind_eq_some_iff.1 aO
         refine r_seqJ (fun ac wd => ∃ (aS : NMap),aS = aQ ∧ SL ⟨wb,S,Φ,P0⟩ 91 622 [(4,.one (.ptr (1,0) 0)),(5,.one (.ptr (2,0) 0)),(9,.one (.fnp 118 [((7,0),0),((7,1),0)])),(10,.one (.mp (9,0))),(13,.one (.d (.bool aw.1))),(14,.one (.ptr (410,0) 0)),(23,.one (.d (.sl (List.map eTStep a2)))),(24,.one (.d (.int .i64 (a2.length : Int)))),(25,.one (.d (.int .i64 ae))),(57,.one (.d (.int .i64 (aG.1.Sent.length : Int)))),(58,.one (.d (.int .i64 aM)))] [((1,0),some (.box 53 (cTApp a0))),((2,0),some (.box 104 (cTConf af))),((7,0),some (.box 25 (cTGraph a0.G))),((7,1),some (.box 39 [.own (7,2) aw.2.length])),((7,2),some (.row 3 1 (dat (List.map eI aw.2)))),((9,0),some (.map 181 3 true 2 (mE aS))),((410,0),some (.box 104 [.d (.sl (List.map eI aG.1.States)),.d (.sl (List.map (eL eTMsg) aG.1.Links)),.d (.sl (List.map eI aG.1.Sent))]))] ac wd) ?_ ?_
         ·
          refine wp_block ?_
          refine qs 558 [] [4,5,9,10,13,14,16,23,24,25,57,58] [(1,0),(2,0),(7,0),(7,1),(7,2),(9,0),(410,0)] h fun ac wd h => ?_
          obtain ⟨aT,aU,aV,aW,aX,aR⟩ := aB aR
          refine qs 565 [] [4,5,9,10,13,14,16,17,23,24,25,57,58] [(1,0),(2,0),(7,0),(7,1),(7,2),(9,0),(410,0)] h fun ac wd h => ?_
          obtain ⟨aY,aZ,aR⟩ := Option.bind_eq_some_iff.1 aR
          refine r_meetQ (fun ac wd => ∃ (ba : NMap),ba = aY ∧ SL ⟨wb,S,Φ,P0⟩ 91 622 [(4,.one (.ptr (1,0) 0)),(5,.one (.ptr (2,0) 0)),(9,.one (.fnp 118 [((7,0),0),((7,1),0)])),(10,.one (.mp (9,0))),(13,.one (.d (.bool aw.1))),(14,.one (.ptr (410,0) 0)),(23,.one (.d (.sl (List.map eTStep a2)))),(24,.one (.d (.int .i64 (a2.length : Int)))),(25,.one (.d (.int .i64 ae))),(57,.one (.d (.int .i64 (aG.1.Sent.length : Int)))),(58,.one (.d (.int .i64 aM)))] [((1,0),some (.box 53 (cTApp a0))),((2,0),some (.box 104 (cTConf af))),((7,0),some (.box 25 (cTGraph a0.G))),((7,1),some (.box 39 [.own (7,2) aw.2.length])),((7,2),some (.row 3 1 (dat (List.map eI aw.2)))),((9,0),some (.map 181 3 true 2 (mE ba))),((410,0),some (.box 104 [.d (.sl (List.map eI aG.1.States)),.d (.sl (List.map (eL eTMsg) aG.1.Links)),.d (.sl (List.map eI aG.1.Sent))]))] ac wd) ?_ ?_
          ·
           refine wp_block ?_
           refine r_while (fun nf ac wd => ∃ (bb : Int) (bc : NMap),L_cut_Good_l3 aM aw aG nf bb bc = some aY ∧ SL ⟨wb,S,Φ,P0⟩ 91 611 [(4,.one (.ptr (1,0) 0)),(5,.one (.ptr (2,0) 0)),(9,.one (.fnp 118 [((7,0),0),((7,1),0)])),(10,.one (.mp (9,0))),(13,.one (.d (.bool aw.1))),(14,.one (.ptr (410,0) 0)),(16,.one (.d (.int .i64 aM))),(17,.one (.d (.int .i64 bb))),(23,.one (.d (.sl (List.map eTStep a2)))),(24,.one (.d (.int .i64 (a2.length : Int)))),(25,.one (.d (.int .i64 ae))),(57,.one (.d (.int .i64 (aG.1.Sent.length : Int)))),(58,.one (.d (.int .i64 aM)))] [((1,0),some (.box 53 (cTApp a0))),((2,0),some (.box 104 (cTConf af))),((7,0),some (.box 25 (cTGraph a0.G))),((7,1),some (.box 39 [.own (7,2) aw.2.length])),((7,2),some (.row 3 1 (dat (List.map eI aw.2)))),((9,0),some (.map 181 3 true 2 (mE bc))),((410,0),some (.box 104 [.d (.sl (List.map eI aG.1.States)),.d (.sl (List.map (eL eTMsg) aG.1.Links)),.d (.sl (List.map eI aG.1.Sent))]))] ac wd) (1000) ⟨(IntKind.wrap .i64 (aT + 1)),aN,aZ,h.z⟩ (fun nf ac wd hJ => ?_)
           obtain ⟨bb,bc,bd,h⟩ := hJ
           cases nf with
           | zero => rw [L_cut_Good_l3] at bd; cases bd
           | succ nf =>
            rw [L_cut_Good_l3] at bd
            refine wp_seq ?_
            obtain ⟨be,bf,bd⟩ := Option.bind_eq_some_iff.1 bd
            refine r_seqJ (fun ac wd => ∃ (bg : Bool),bg = be ∧ SL ⟨wb,S,Φ,P0⟩ 91 622 [(4,.one (.ptr (1,0) 0)),(5,.one (.ptr (2,0) 0)),(9,.one (.fnp 118 [((7,0),0),((7,1),0)])),(10,.one (.mp (9,0))),(13,.one (.d (.bool aw.1))),(14,.one (.ptr (410,0) 0)),(16,.one (.d (.int .i64 aM))),(17,.one (.d (.int .i64 bb))),(23,.one (.d (.sl (List.map eTStep a2)))),(24,.one (.d (.int .i64 (a2.length : Int)))),(25,.one (.d (.int .i64 ae))),(57,.one (.d (.int .i64 (aG.1.Sent.length : Int)))),(58,.one (.d (.int .i64 aM))),(77,.one (.d (.bool bg)))] [((1,0),some (.box 53 (cTApp a0))),((2,0),some (.box 104 (cTConf af))),((7,0),some (.box 25 (cTGraph a0.G))),((7,1),some (.box 39 [.own (7,2) aw.2.length])),((7,2),some (.row 3 1 (dat (List.map eI aw.2)))),((9,0),some (.map 181 3 true 2 (mE bc))),((410,0),some (.box 104 [.d (.sl (List.map eI aG.1.States)),.d (.sl (List.map (eL eTMsg) aG.1.Links)),.d (.sl (List.map eI aG.1.Sent))]))] ac wd) ?_ ?_
            ·
             obtain ⟨bh,bi,bj,bk,bl,bf⟩ := aB bf
             rcases i2 bf with ⟨bm,bf⟩ | ⟨bm,bf⟩
             ·
              refine qeg [] [none,none,none,none,none,none,none,none,some (some 74,true),some (some 74,true),none] [4,5,9,10,13,14,16,17,23,24,25,57,58,77] [(1,0),(2,0),(7,0),(7,1),(7,2),(9,0),(410,0)] h fun ac wd h => ?_
              injection bf with bf; subst bf
              exact ⟨!(aw.1),rfl,h.z⟩
             ·
              refine qeg [] [none,none,none,none,none,none,none,none,some (some 74,true),some (some 74,true),none] [4,5,9,10,13,14,16,17,23,24,25,57,58,77] [(1,0),(2,0),(7,0),(7,1),(7,2),(9,0),(410,0)] h fun ac wd h => ?_
              injection bf with bf; subst bf
              exact ⟨false,rfl,h.z⟩
            ·
             rintro ac wd ⟨bg,rfl,h⟩
             (try dsimp only at bd)
             rcases i2b bd with ⟨bn,bd⟩ | ⟨bn,bd⟩
             ·
              refine kT h ?_
              refine wp_skip ?_
              change Code.wp Try.prog _ _ _ _
              refine wp_seq ?_
              refine wp_block ?_
              refine de [] [4,5,9,10,13,14,16,17,23,24,25,57,58] [(1,0),(2,0),(7,0),(7,1),(7,2),(9,0),(410,0)] h fun ac wd h => ?_
              change Code.wp Try.prog _ _ _ _
              refine qe [] [4,5,9,10,13,14,16,17,23,24,25,57,58] [(1,0),(2,0),(7,0),(7,1),(7,2),(9,0),(410,0)] h fun ac wd h => ?_
              exact ⟨nf,Nat.lt_succ_self nf,(IntKind.wrap .i64 (bb + 1)),(mPutI bc [aM,bb] (IntKind.wrap .i64 ((mGetI bc [aM,bb]) + 1))),bd,h.z⟩
             ·
              refine kF h ?_
              refine wp_exit ?_
              injection bd with bd; subst bd
              exact ⟨bc,rfl,h.z⟩
          ·
           rintro ac wd ⟨ba,rfl,h⟩
           (try dsimp only at aR)
           injection aR with aR; subst aR
           exact ⟨ba,rfl,h.z⟩
         ·
          rintro ac wd ⟨aS,rfl,h⟩
          (try dsimp only at aO)
          refine qe [] [4,5,9,10,13,14,23,24,25,57,58] [(1,0),(2,0),(7,0),(7,1),(7,2),(9,0),(410,0)] h fun ac wd h => ?_
          exact ⟨nf,Nat.lt_succ_self nf,(IntKind.wrap .i64 (aM + 1)),aS,aO,h.z⟩
        ·
         refine kF h ?_
         refine wp_exit ?_
         injection aO with aO; subst aO
         exact ⟨aN,rfl,h.z⟩
      ·
       rintro ac wd ⟨aL,rfl,h⟩
       (try dsimp only at al)
       refine qe [] [4,5,9,10,23,24,25] [(1,0),(2,0),(7,0),(7,1),(7,2),(9,0)] h fun ac wd h => ?_
       injection al with al; subst al
       exact ⟨aG.1,aL,aw.2,rfl,h.z⟩
   ·
    rintro ac wd ⟨am,an,ao,rfl,h⟩
    (try dsimp only at ai)
    refine qe [] [4,5,9,10,23,24,25] [(1,0),(2,0),(7,0),(7,1),(7,2),(9,0)] h fun ac wd h => ?_
    exact ⟨nf,Nat.lt_succ_self nf,(IntKind.wrap .i64 (ae + 1)),am,an,ao,ai,h.z⟩
  ·
   refine kF h ?_
   refine wp_exit ?_
   change Code.wp Try.prog _ _ _ _
   refine qs 380 [] [8] [] h fun ac wd h => ?_
   refine wp_ret ?_
   injection ai with ai
   subst ai
   exact rE h [.tmp 8]

theorem L_law17_fixed_ok {r : Bool} (hD : L_law17_fixed = some r) :
  CallH Try.prog 36 [] []
   (.one (.d (.bool r))) [] := by
 unfold L_law17_fixed at hD
 refine rc Try.func36 rfl Try.ntmps36 fun S Φ P0 wb ac h => ?_
 refine qs 2 [] [] [] h fun ac wd h => ?_
 obtain ⟨aa,ab,hD⟩ := oB hD
 have ad := L_law05_Two_ok ab
 refine qs 5 [factE 2 ad] [1] [(3,0)] h fun ac wd h => ?_
 obtain ⟨ae,af,hD⟩ := oB hD
 have ag := L_plain_Start_ok af
 refine qs 9 [factE 6 ag] [1,2] [(3,0),(7,0)] h fun ac wd h => ?_
 refine wp_seq ?_
 obtain ⟨ah,ai,hD⟩ := oB hD
 have aj := L_plain_Right_ok ai
 refine qs 13 [factE 11 aj] [1,2,14] [(3,0),(7,0)] h fun ac wd h => ?_
 obtain ⟨ak,hD⟩ := iT hD
 refine kF h ?_
 refine wp_skip ?_
 change Code.wp Try.prog _ _ _ _
 refine qs 18 [] [1,2,3] [(3,0),(7,0),(16,0)] h fun ac wd h => ?_
 obtain ⟨al,am,hD⟩ := oB hD
 have h := h.fz [(16,0)]
 have an := L_cut_Split_ok am
 refine qs 28 [factE 22 an] [1,2,3,4,5] [(3,0),(7,0)] h fun ac wd h => ?_
 obtain ⟨ao,ap,hD⟩ := oB hD
 have aq := L_cut_Split_ok ap
 refine qs 38 [factE 32 aq] [1,2,3,4,5,6,7] [(3,0),(7,0)] h fun ac wd h => ?_
 obtain ⟨ar,au,hD⟩ := vB hD
 have h := h.same [1,2,3,4,5,6,7] [(3,0),(7,0)] 38 [(1,.one (.ptr (3,0) 0)),(2,.one (.ptr (7,0) 0)),(3,.one (.d (.sl (List.map eTStep ar)))),(4,.one (.d (.sl (List.map eTStep al.1)))),(5,.one (.d (.sl (List.map eTStep al.2)))),(6,.one (.d (.sl (List.map eTStep ao.1)))),(7,.one (.d (.sl (List.map eTStep ao.2))))]
  [((3,0),some (.box 53 [.d (.int .i64 aa.G.N),.d (.sl (List.map eA2I aa.G.Links)),.d (.sl (List.map eTNode aa.T)),.d (.bool aa.Fifo)])),((7,0),some (.box 104 [.d (.sl (List.map eI ae.States)),.d (.sl (List.map (eL eTMsg) ae.Links)),.d (.sl (List.map eI ae.Sent))]))]
  (by simp only [EZ,simprocAttr,ak,dat_open,← au] <;> rfl)
 obtain ⟨av,aw,ax,ay,az,hD⟩ := aN 0 hD
 obtain ⟨aA,aB,hD⟩ := oB hD
 obtain ⟨aC,hD⟩ := iTe hD
 obtain ⟨aD,aE,aF,aG,aH,hD⟩ := aN 1 hD
 obtain ⟨aI,aJ,hD⟩ := oB hD
 obtain ⟨aK,hD⟩ := iTe hD
 obtain ⟨aL,aM,hD⟩ := oB hD
 obtain ⟨aO,hD⟩ := iTe hD
 obtain ⟨aP,aQ,hD⟩ := oB hD
 obtain ⟨aR,hD⟩ := iTe hD
 obtain ⟨aS,aT,hD⟩ := oB hD
 obtain ⟨aU,hD⟩ := iTe hD
 obtain ⟨aV,aW,hD⟩ := oB hD
 obtain ⟨aX,aY,hD⟩ := oB hD
 obtain ⟨aZ,hD⟩ := iT hD
 obtain ⟨ba,bb,hD⟩ := oB hD
 obtain ⟨bc,hD⟩ := iT hD
 obtain ⟨bd,hD⟩ := iT hD
 obtain ⟨be,bf,hD⟩ := vB hD
 obtain ⟨bg,bh,hD⟩ := oB hD
 obtain ⟨bi,bj,hD⟩ := oB hD
 obtain ⟨bk,hD⟩ := iT hD
 obtain ⟨bl,bm,hD⟩ := oB hD
 obtain ⟨bn,bo,hD⟩ := vB hD
 obtain ⟨bp,bq,hD⟩ := oB hD
 obtain ⟨br,bs,hD⟩ := oB hD
 obtain ⟨bt,hD⟩ := iT hD
 obtain ⟨bu,hD⟩ := iTe hD
 obtain ⟨bv,bw,hD⟩ := oB hD
 obtain ⟨bx,bz,hD⟩ := oB hD
 obtain ⟨bA,bB,hD⟩ := oB hD
 obtain ⟨bC,hD⟩ := iT hD
 obtain ⟨bD,bE,hD⟩ := oB hD
 obtain ⟨bF,hD⟩ := iT hD
 obtain ⟨bG,bH,hD⟩ := oB hD
 obtain ⟨bI,hD⟩ := iFb hD
 obtain ⟨bJ,bK,hD⟩ := oB hD
 obtain ⟨bL,hD⟩ := iT hD
 obtain ⟨bM,bN,hD⟩ := oB hD
 have bO := L_cut_Where_ok aB
 have bP := L_cut_Where_ok aJ
 have bQ := L_cut_Where_ok aM
 have bR := L_cut_Where_ok aQ
 have bS := L_cut_Where_ok aT
 have bT := L_cut_Counts_ok aW
 have bU := L_ref01_Ints_ok aY
 have bV := L_law05_Steps_ok bb
 have bW := L_law05_Steps_ok bh
 have bX := L_ref05_Steps_ok bj
 have bY := L_law05_Steps_ok bm
 have bZ := L_law05_Steps_ok bq
 have b0 := L_ref05_Steps_ok bs
 have b1 := L_law05_Steps_ok bw
 have b2 := L_law05_Steps_ok bz
 have b3 := L_ref05_Steps_ok bB
 have b4 := L_cut_Good_ok bE
 have b5 := L_cut_Good_ok bH
 have b6 := L_cut_Good_ok bK
 have b7 := L_cut_Good_ok bN
 refine dsg 140 [factE 43 bO,factE 51 bP,factE 58 bQ,factE 65 bR,factE 72 bS,factE 79 bT,factE 81 bU,factE 85 bV,factE 88 bW,factE 89 bX,factE 93 bY,factE 96 bZ,factE 97 b0,factE 106 b1,factE 108 b2,factE 109 b3,factE 116 b4,factE 123 b5,factE 131 b6,factE 137 b7] [none,none,none,none,none,none,none,none,some (some 42,true),some (some 42,true),some (some 42,true),some (some 42,true),some (some 42,true),some (some 42,true),some (some 42,true),none,none,some (some 51,true),some (some 51,true),some (some 51,true),some (some 51,true),some (some 51,true),none,none,some (some 58,true),some (some 58,true),some (some 58,true),some (some 58,true),some (some 58,true),none,none,some (some 65,true),some (some 65,true),some (some 65,true),some (some 65,true),some (some 65,true),none,none,some (some 72,true),some (some 72,true),some (some 72,true),some (some 72,true),some (some 72,true),some (some 72,true),none,none,some (some 80,true),some (some 80,true),some (some 80,true),some (some 80,true),some (some 80,true),some (some 80,true),none,none,some (some 88,true),some (some 88,true),some (some 88,true),some (some 88,true),some (some 88,true),some (some 88,true),none,none,some (some 96,true),some (some 96,true),some (some 96,true),none,none,some (some 101,true),some (some 101,true),some (some 101,true),some (some 101,true),some (some 101,true),none,none,some (some 108,true),some (some 108,true),some (some 108,true),some (some 108,true),some (some 108,true),none,none,some (some 115,true),some (some 115,true),some (some 115,true),some (some 115,true),some (some 115,true),some (some 115,true),none,none,some (some 123,true),some (some 123,true),some (some 123,true),some (some 123,true),some (some 123,true),none,none,some (some 130,true),some (some 130,true),some (some 130,true),some (some 130,true),none,none] [0] [] h fun ac wd h => ?_
 refine wp_ret ?_
 injection hD with hD
 subst hD
 exact rE h [.tmp 0]

theorem L_law05_Ref_ok {a0 : TConf} {r : TConf} (hD : L_law05_Ref a0 = some r) :
  CallH Try.prog 45 [.agg (cTConf a0)] []
   (.agg [.d (.sl (List.map eI r.States)),.d (.sl (List.map (eL eTMsg) r.Links)),.d (.sl (List.map eI r.Sent))]) [] := by
 unfold L_law05_Ref at hD
 refine rc Try.func45 rfl Try.ntmps45 fun S Φ P0 wb ac h => ?_
 refine qs 3 [] [1,2] [(1,0),(2,0)] h fun ac wd h => ?_
 refine qs 11 [] [2] [(2,0)] h fun ac wd h => ?_
 refine wp_ret ?_
 injection hD with hD
 subst hD
 exact rE h [.cell 2 101]

theorem L_ref04_At_ok {a0 : (List TNode)} {a1 : Int} {a2 : Int} {r : TState} (hD : L_ref04_At a0 a1 a2 = some r) :
  CallH Try.prog 31 [.one (.d (.sl (List.map eTNode a0))),.one (.d (.int .i64 a1)),.one (.d (.int .i64 a2))] []
   (.agg [.d (.int .i64 r.Mode),.d (.sl (List.map eI r.Waits)),.d (.sl (List.map eTPick r.Picks)),.d (.sl (List.map eTTake r.Takes))]) [] := by
 unfold L_ref04_At at hD
 refine rc Try.func31 rfl Try.ntmps31 fun S Φ P0 wb ac h => ?_
 refine qs 2 [] [0,1,2,6] [(1,0)] h fun ac wd h => ?_
 refine wp_seq ?_
 obtain ⟨aa,ab,hD⟩ := Option.bind_eq_some_iff.1 hD
 refine r_seqJ (fun ac wd => ∃ (ad : Bool),ad = aa ∧ SL ⟨wb,S,Φ,P0⟩ 38 24 [(0,.one (.d (.sl (List.map eTNode a0)))),(1,.one (.d (.int .i64 a1))),(2,.one (.d (.int .i64 a2))),(6,.one (.ptr (1,0) 0)),(28,.one (.d (.bool ad)))] [((1,0),some (.box 90 [.d (.int .i64 0),.nil,.nil,.nil]))] ac wd) ?_ ?_
 ·
  rcases i2 ab with ⟨ae,ab⟩ | ⟨ae,ab⟩
  ·
   refine qeg [] [none,none,none,some (some 9,false),some (some 9,false),some (some 9,false),some (some 9,false),none,none,some (some 15,false),some (some 15,false),none,none,some (some 19,false),some (some 19,false),some (some 19,false),some (some 19,false),some (some 19,false),some (some 19,false),some (some 19,false),some (some 19,false),none] [0,1,2,6,28] [(1,0)] h fun ac wd h => ?_
   injection ab with ab; subst ab
   exact ⟨true,rfl,h.z⟩
  ·
   rcases i2 ab with ⟨af,ab⟩ | ⟨af,ab⟩
   ·
    refine qeg [] [none,none,none,some (some 9,false),some (some 9,false),some (some 9,false),some (some 9,false),none,none,some (some 15,false),some (some 15,false),none,none,some (some 19,false),some (some 19,false),some (some 19,false),some (some 19,false),some (some 19,false),some (some 19,false),some (some 19,false),some (some 19,false),none] [0,1,2,6,28] [(1,0)] h fun ac wd h => ?_
    injection ab with ab; subst ab
    exact ⟨true,rfl,h.z⟩
   ·
    rcases i2 ab with ⟨ag,ab⟩ | ⟨ag,ab⟩
    ·
     refine qeg [] [none,none,none,some (some 9,false),some (some 9,false),some (some 9,false),some (some 9,false),none,none,some (some 15,false),some (some 15,false),none,none,some (some 19,false),some (some 19,false),some (some 19,false),some (some 19,false),some (some 19,false),some (some 19,false),some (some 19,false),some (some 19,false),none] [0,1,2,6,28] [(1,0)] h fun ac wd h => ?_
     injection ab with ab; subst ab
     exact ⟨true,rfl,h.z⟩
    ·
     obtain ⟨ah,ai,aj,ak,al,ab⟩ := aB ab
     refine qeg [] [none,none,none,some (some 9,false),some (some 9,false),some (some 9,false),some (some 9,false),none,none,some (some 15,false),some (some 15,false),none,none,some (some 19,false),some (some 19,false),some (some 19,false),some (some 19,false),some (some 19,false),some (some 19,false),some (some 19,false),some (some 19,false),none] [0,1,2,6,28] [(1,0)] h fun ac wd h => ?_
     injection ab with ab; subst ab
     exact ⟨decide (a2 ≥ (ah.States.length : Int)),rfl,h.z⟩
 ·
  rintro ac wd ⟨ad,rfl,h⟩
  (try dsimp only at hD)
  rcases i2b hD with ⟨am,hD⟩ | ⟨am,hD⟩
  ·
   refine kT h ?_
   refine qs 26 [] [6] [(1,0)] h fun ac wd h => ?_
   refine wp_ret ?_
   injection hD with hD
   subst hD
   exact rE h [.cell 6 90]
  ·
   refine kF h ?_
   refine wp_skip ?_
   change Code.wp Try.prog _ _ _ _
   obtain ⟨an,ao,ap,aq,ar,hD⟩ := aB hD
   obtain ⟨au,av,aw,ax,ay,hD⟩ := aB hD
   refine qs 33 [] [6] [(1,0)] h fun ac wd h => ?_
   refine wp_ret ?_
   injection hD with hD
   subst hD
   exact rE h [.cell 6 90]

theorem L_ref04_Picked_ok {a0 : (List TNode)} {a1 : Int} {a2 : Int} {a3 : Int} {r : TPick × Bool} (hD : L_ref04_Picked a0 a1 a2 a3 = some r) :
  CallH Try.prog 137 [.one (.d (.sl (List.map eTNode a0))),.one (.d (.int .i64 a1)),.one (.d (.int .i64 a2)),.one (.d (.int .i64 a3))] []
   (.tup [.inl [.d (.int .i64 r.1.Next),.d (.sl (List.map eTSend r.1.Sends))],.inr (.d (.bool r.2))]) [] := by
 unfold L_ref04_Picked at hD
 refine rc Try.func137 rfl Try.ntmps137 fun S Φ P0 wb ac h => ?_
 refine qs 3 [] [0,1,2,3,8] [(1,0)] h fun ac wd h => ?_
 obtain ⟨aa,ab,hD⟩ := oB hD
 have ad := L_ref04_At_ok ab
 refine qs 9 [factE 6 ad] [3,8,10] [(1,0)] h fun ac wd h => ?_
 refine wp_seq ?_
 obtain ⟨ae,af,hD⟩ := Option.bind_eq_some_iff.1 hD
 refine r_seqJ (fun ac wd => ∃ (ag : Bool),ag = ae ∧ SL ⟨wb,S,Φ,P0⟩ 29 17 [(3,.one (.d (.int .i64 a3))),(8,.one (.ptr (1,0) 0)),(10,.one (.d (.sl (List.map eTPick aa.Picks)))),(23,.one (.d (.bool ag)))] [((1,0),some (.box 189 [.d (.int .i64 0),.nil]))] ac wd) ?_ ?_
 ·
  rcases i2 af with ⟨ah,af⟩ | ⟨ah,af⟩
  ·
   refine qeg [] [none,none,none,some (some 18,false),some (some 18,false),some (some 18,false),some (some 18,false),none] [3,8,10,23] [(1,0)] h fun ac wd h => ?_
   injection af with af; subst af
   exact ⟨true,rfl,h.z⟩
  ·
   refine qeg [] [none,none,none,some (some 18,false),some (some 18,false),some (some 18,false),some (some 18,false),none] [3,8,10,23] [(1,0)] h fun ac wd h => ?_
   injection af with af; subst af
   exact ⟨decide (a3 ≥ (aa.Picks.length : Int)),rfl,h.z⟩
 ·
  rintro ac wd ⟨ag,rfl,h⟩
  (try dsimp only at hD)
  rcases i2b hD with ⟨ai,hD⟩ | ⟨ai,hD⟩
  ·
   refine kT h ?_
   refine qs 20 [] [8,9] [(1,0)] h fun ac wd h => ?_
   refine wp_ret ?_
   injection hD with hD
   subst hD
   exact rE h [.cell 8 189,.tmp 9]
  ·
   refine kF h ?_
   refine wp_skip ?_
   change Code.wp Try.prog _ _ _ _
   obtain ⟨aj,ak,al,am,an,hD⟩ := aB hD
   refine qs 23 [] [8,9] [(1,0)] h fun ac wd h => ?_
   refine wp_ret ?_
   injection hD with hD
   subst hD
   exact rE h [.cell 8 189,.tmp 9]

theorem L_ref05_Own_own {a0 : TConf} {r : TConf} (hD : L_ref05_Own a0 = some r) :
  CallH Try.prog 138 [.agg (cTConf a0)] []
   (.agg [.own (1,0) r.States.length,.own (1,1) r.Links.length,.own (1,2) r.Sent.length]) [((1,0),some (.row 3 1 (dat (List.map eI r.States)))),((1,1),some (.row 170 1 (openRows cols_170 (List.map (eL eTMsg) r.Links)))),((1,2),some (.row 3 1 (dat (List.map eI r.Sent))))] := by
 unfold L_ref05_Own at hD
 refine rc Try.func138 rfl Try.ntmps138 fun S Φ P0 wb ac h => ?_
 refine qs 3 [] [1,2] [(1,0),(2,0)] h fun ac wd h => ?_
 obtain ⟨aa,hD⟩ := iT hD
 obtain ⟨ab,hD⟩ := iT hD
 refine ds 14 [] [1,2,3] [(1,0),(2,0),(6,0),(10,0),(12,0)] h fun ac wd h => ?_
 refine wp_seq ?_
 refine qs 15 [] [1,2,3,4] [(1,0),(2,0),(6,0),(10,0),(12,0)] h fun ac wd h => ?_
 refine wp_block ?_
 have h := SL.bornB h (12,0) 1 170 1 (by simp only [EZ,simprocAttr, *] <;> rfl) (by simp only [EZ,simprocAttr, *] <;> rfl)
 refine r_while (fun nf ac wd => ∃ (ad : Int) (ae : List (List TMsg)),L_ref05_Own_l1 a0 nf ad ae = some r ∧ SL ⟨wb,S,Φ,P0⟩ 34 57 [(1,.one (.ptr (1,0) 0)),(2,.one (.ptr (2,0) 0)),(3,.one (.ptr (12,0) 0)),(4,.one (.d (.int .i64 ad)))] [((1,0),some (.box 101 (cTConf a0))),((2,0),some (.box 101 [.nil,.nil,.nil])),((6,0),some (.row 3 1 (dat (List.map eI a0.States)))),((10,0),some (.row 3 1 (dat (List.map eI a0.Sent)))),((12,0),some (.box 101 [.own (6,0) a0.States.length,.own (15,0) ae.length,.own (10,0) a0.Sent.length])),((15,0),some (.row 170 1 (openRows cols_170 (List.map (eL eTMsg) ae))))] ac wd) (((a0.Links.length : Int) - 0).toNat + 1) ⟨0,([] : List (List TMsg)),hD,h.z⟩ (fun nf ac wd hJ => ?_)
 obtain ⟨ad,ae,af,h⟩ := hJ
 cases nf with
 | zero => rw [L_ref05_Own_l1] at af; cases af
 | succ nf =>
  rw [L_ref05_Own_l1] at af
  refine wp_seq ?_
  refine qs 62 [] [1,2,3,4,18] [(1,0),(2,0),(6,0),(10,0),(12,0),(15,0)] h fun ac wd h => ?_
  rcases i2 af with ⟨ag,af⟩ | ⟨ag,af⟩
  ·
   refine kT h ?_
   refine wp_skip ?_
   change Code.wp Try.prog _ _ _ _
   refine wp_seq ?_
   refine wp_block ?_
   obtain ⟨ah,ai,aj,ak,al,af⟩ := aB af
   obtain ⟨am,af⟩ := iT af
   obtain ⟨an,af⟩ := iT af
   refine de [] [1,2,3,4] [(1,0),(2,0),(6,0),(10,0),(12,0),(70,0),(72,0)] h fun ac wd h => ?_
   have h := h.fL (cols := (fun _ => .sc)) (72,0) (70,0) (openRows cols_170 (List.map (eL eTMsg) ae)) [.own (70,0) ah.length] 0 (List.map eTMsg ah) (sc_59 _)
   have h := h.sm 75 [(1,.one (.ptr (1,0) 0)),(2,.one (.ptr (2,0) 0)),(3,.one (.ptr (12,0) 0)),(4,.one (.d (.int .i64 ad)))]
    [((1,0),some (.box 101 (cTConf a0))),((2,0),some (.box 101 [.nil,.nil,.nil])),((6,0),some (.row 3 1 (dat (List.map eI a0.States)))),((10,0),some (.row 3 1 (dat (List.map eI a0.Sent)))),((12,0),some (.box 101 [.own (6,0) a0.States.length,.own (72,0) (ae.length + 1),.own (10,0) a0.Sent.length])),((72,0),some (.row 170 1 ((openRows cols_170 (List.map (eL eTMsg) ae) ++ [[.tr (.sl 59 2 (fun _ => .sc)) (.sl (List.map eTMsg ah))]]))))]
   change Code.wp Try.prog _ _ _ _
   refine qe [] [1,2,3,4] [(1,0),(2,0),(6,0),(10,0),(12,0),(72,0)] h fun ac wd h => ?_
   have h := h.sw (15,0) (72,0) 78
   exact ⟨nf,Nat.lt_succ_self nf,(IntKind.wrap .i64 (ad + 1)),(ae ++ [ah]),af,h.z⟩
  ·
   refine kF h ?_
   refine wp_exit ?_
   change Code.wp Try.prog _ _ _ _
   refine qs 64 [] [2] [(2,0),(6,0),(10,0),(15,0)] h fun ac wd h => ?_
   refine wp_ret ?_
   have h := h.sw (1,0) (6,0) 64
   have h := h.sw (1,1) (15,0) 64
   have h := h.sw (1,2) (10,0) 64
   injection af with af
   subst af
   exact rO h [.cell 2 101] [(1,0),(1,1),(1,2)]
theorem L_ref05_Own_ok {a0 : TConf} {r : TConf} (hD : L_ref05_Own a0 = some r) :
  CallH Try.prog 138 [.agg (cTConf a0)] []
   (.agg [.d (.sl (List.map eI r.States)),.d (.sl (List.map (eL eTMsg) r.Links)),.d (.sl (List.map eI r.Sent))]) [] :=
 (L_ref05_Own_own hD).fr

end Go.Proofs.Ytabbejabdkkaiaa
