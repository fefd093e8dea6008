/- Functions as typed ones,and that the program's functions answer as these do. No condition. -/
import Derived.Test.YtabbejabdkkaiaaGb0
import Derived.Test.YtabbejabdkkaiaaGb7
import Derived.Test.YtabbejabdkkaiaaGd
set_option linter.unusedSimpArgs false
set_option linter.unusedVariables false
set_option maxRecDepth 20000
set_option maxHeartbeats 4000000
namespace Go.Proofs.Ytabbejabdkkaiaa
open Go.RowKit

theorem L_ref05_pick_own {a0 : TApp} {a1 : TConf} {a2 : TStep} {r : TConf × Int} (hD : L_ref05_pick a0 a1 a2 = some r) :
  CallH Try.prog 116 [.agg (cTApp a0),.agg (cTConf a1),.agg (cTStep a2)] []
   (.tup [.inl [.own (1,0) r.1.States.length,.own (1,1) r.1.Links.length,.own (1,2) r.1.Sent.length],.inr (.d (.int .i64 r.2))]) [((1,0),some (.row 3 1 (dat (List.map eI r.1.States)))),((1,1),some (.row 170 1 (openRows cols_170 (List.map (eL eTMsg) r.1.Links)))),((1,2),some (.row 3 1 (dat (List.map eI r.1.Sent))))] := by
 unfold L_ref05_pick at hD
 refine rc Try.func116 rfl Try.ntmps116 fun S Φ P0 wb ac h => ?_
 refine qs 6 [] [3,4,5,6] [(1,0),(2,0),(3,0),(4,0)] h fun ac wd h => ?_
 refine wp_seq ?_
 obtain ⟨aa,ab,hD⟩ := Option.bind_eq_some_iff.1 hD
 refine r_seqJ (fun ac wd => ∃ (ad : Bool),ad = aa ∧ SL ⟨wb,S,Φ,P0⟩ 126 17 [(3,.one (.ptr (1,0) 0)),(4,.one (.ptr (2,0) 0)),(5,.one (.ptr (3,0) 0)),(6,.one (.ptr (4,0) 0)),(23,.one (.d (.bool ad)))] [((1,0),some (.box 69 (cTApp a0))),((2,0),some (.box 101 (cTConf a1))),((3,0),some (.box 175 (cTStep a2))),((4,0),some (.box 101 [.nil,.nil,.nil]))] ac wd) ?_ ?_
 ·
  rcases i2 ab with ⟨ae,ab⟩ | ⟨ae,ab⟩
  ·
   refine qeg [] [none,none,none,none,some (some 16,false),some (some 16,false),some (some 16,false),some (some 16,false),some (some 16,false),some (some 16,false),none] [3,4,5,6,23] [(1,0),(2,0),(3,0),(4,0)] h fun ac wd h => ?_
   injection ab with ab; subst ab
   exact ⟨true,rfl,h.z⟩
  ·
   refine qeg [] [none,none,none,none,some (some 16,false),some (some 16,false),some (some 16,false),some (some 16,false),some (some 16,false),some (some 16,false),none] [3,4,5,6,23] [(1,0),(2,0),(3,0),(4,0)] h fun ac wd h => ?_
   injection ab with ab; subst ab
   exact ⟨decide (a2.Node ≥ a0.G.N),rfl,h.z⟩
 ·
  rintro ac wd ⟨ad,rfl,h⟩
  (try dsimp only at hD)
  rcases i2b hD with ⟨af,hD⟩ | ⟨af,hD⟩
  ·
   refine kT h ?_
   refine qs 20 [] [6,7] [(4,0)] h fun ac wd h => ?_
   refine wp_ret ?_
   have h := SL.bornB h (4,0) 0 3 1 (by simp only [EZ,simprocAttr, *] <;> rfl) (by simp only [EZ,simprocAttr, *] <;> rfl)
   have h := SL.bornB h (4,0) 1 170 1 (by simp only [EZ,simprocAttr, *] <;> rfl) (by simp only [EZ,simprocAttr, *] <;> rfl)
   have h := SL.bornB h (4,0) 2 3 1 (by simp only [EZ,simprocAttr, *] <;> rfl) (by simp only [EZ,simprocAttr, *] <;> rfl)
   have h := h.sw (1,0) (20,0) 23
   have h := h.sw (1,1) (21,0) 23
   have h := h.sw (1,2) (22,0) 23
   injection hD with hD
   subst hD
   exact rO h [.cell 6 101,.tmp 7] [(1,0),(1,1),(1,2)]
  ·
   refine kF h ?_
   refine wp_skip ?_
   change Code.wp Try.prog _ _ _ _
   refine wp_seq ?_
   obtain ⟨ag,ah,ai,aj,ak,hD⟩ := aB hD
   obtain ⟨al,am,hD⟩ := oB hD
   have an := L_ref04_At_ok am
   refine ds 30 [factE 27 an] [3,4,5,6,37] [(1,0),(2,0),(3,0),(4,0)] h fun ac wd h => ?_
   rcases i2e hD with ⟨ao,hD⟩ | ⟨ao,hD⟩
   ·
    refine kF h ?_
    refine wp_skip ?_
    change Code.wp Try.prog _ _ _ _
    obtain ⟨ap,aq,hD⟩ := oB hD
    have ar := L_ref04_Picked_ok aq
    refine ds 49 [factE 42 ar] [3,4,5,6,8,9] [(1,0),(2,0),(3,0),(4,0),(46,0)] h fun ac wd h => ?_
    refine wp_seq ?_
    refine qs 51 [] [3,4,5,6,8,56] [(1,0),(2,0),(3,0),(4,0),(46,0)] h fun ac wd h => ?_
    rcases i2b hD with ⟨au,hD⟩ | ⟨au,hD⟩
    ·
     refine kF h ?_
     refine wp_skip ?_
     change Code.wp Try.prog _ _ _ _
     obtain ⟨av,aw,hD⟩ := oB hD
     have ax := ((L_ref05_Own_own aw).cls 52).z
     refine qs 55 [factO ax] [3,5,6,8,10] [(1,0),(3,0),(4,0),(46,0),(52,0),(52,1),(52,2),(53,0)] h fun ac wd h => ?_
     obtain ⟨ay,az,aA,aC,aD,hD⟩ := aB hD
     refine qs 63 [] [3,5,6,8,10] [(1,0),(3,0),(4,0),(46,0),(52,0),(52,1),(52,2),(53,0)] h fun ac wd h => ?_
     refine wp_seq ?_
     refine qs 64 [] [3,5,6,8,10,11] [(1,0),(3,0),(4,0),(46,0),(52,0),(52,1),(52,2),(53,0)] h fun ac wd h => ?_
     refine wp_block ?_
     refine r_while (fun nf ac wd => ∃ (aE : Int) (aF : List (List TMsg)) (aG : List Int),L_ref05_pick_l1 a0 a2 ap av nf aE aF aG = some r ∧ SL ⟨wb,S,Φ,P0⟩ 126 188 [(3,.one (.ptr (1,0) 0)),(5,.one (.ptr (3,0) 0)),(6,.one (.ptr (4,0) 0)),(8,.one (.ptr (46,0) 0)),(10,.one (.ptr (53,0) 0)),(11,.one (.d (.int .i64 aE)))] [((1,0),some (.box 69 (cTApp a0))),((3,0),some (.box 175 (cTStep a2))),((4,0),some (.box 101 [.nil,.nil,.nil])),((46,0),some (.box 189 [.d (.int .i64 ap.1.Next),.d (.sl (List.map eTSend ap.1.Sends))])),((52,0),some (.row 3 1 (dat (List.map eI (av.States.set a2.Node.toNat ap.1.Next))))),((52,1),some (.row 170 1 (openRows cols_170 (List.map (eL eTMsg) aF)))),((52,2),some (.row 3 1 (dat (List.map eI aG)))),((53,0),some (.box 101 [.own (52,0) av.States.length,.own (52,1) aF.length,.own (52,2) aG.length]))] ac wd) (((ap.1.Sends.length : Int) - 0).toNat + 1) ⟨0,av.Links,av.Sent,hD,h.z⟩ (fun nf ac wd hJ => ?_)
     obtain ⟨aE,aF,aG,aH,h⟩ := hJ
     cases nf with
     | zero => rw [L_ref05_pick_l1] at aH; cases aH
     | succ nf =>
      rw [L_ref05_pick_l1] at aH
      refine wp_seq ?_
      refine qs 193 [] [3,5,6,8,10,11,71] [(1,0),(3,0),(4,0),(46,0),(52,0),(52,1),(52,2),(53,0)] h fun ac wd h => ?_
      rcases i2 aH with ⟨aI,aH⟩ | ⟨aI,aH⟩
      ·
       refine kT h ?_
       refine wp_skip ?_
       change Code.wp Try.prog _ _ _ _
       refine wp_seq ?_
       refine wp_block ?_
       obtain ⟨aJ,aK,aL,aM,aN,aH⟩ := aB aH
       obtain ⟨aO,aP,aH⟩ := oB aH
       have aQ := L_ref03_Find_ok aP
       refine ds 205 [factE 203 aQ] [3,5,6,8,10,11,12] [(1,0),(3,0),(4,0),(46,0),(52,0),(52,1),(52,2),(53,0)] h fun ac wd h => ?_
       obtain ⟨aR,aS,aT,aU,aV,aH⟩ := aB aH
       refine ds 216 [] [3,5,6,8,10,11,12] [(1,0),(3,0),(4,0),(46,0),(52,0),(52,1),(52,2),(53,0)] h fun ac wd h => ?_
       obtain ⟨aW,aX,aY,aZ,ba,aH⟩ := aB aH
       have h := h.op (52,1) aO.toNat 0
       have h := h.sm 217 [(3,.one (.ptr (1,0) 0)),(5,.one (.ptr (3,0) 0)),(6,.one (.ptr (4,0) 0)),(8,.one (.ptr (46,0) 0)),(10,.one (.ptr (53,0) 0)),(11,.one (.d (.int .i64 aE))),(12,.one (.d (.int .i64 aO)))]
        [((1,0),some (.box 69 (cTApp a0))),((3,0),some (.box 175 (cTStep a2))),((4,0),some (.box 101 [.nil,.nil,.nil])),((46,0),some (.box 189 [.d (.int .i64 ap.1.Next),.d (.sl (List.map eTSend ap.1.Sends))])),((52,0),some (.row 3 1 (dat (List.map eI (av.States.set a2.Node.toNat ap.1.Next))))),((52,1),some (.row 170 1 ((openRows cols_170 (List.map (eL eTMsg) aF)).set aO.toNat [.own (216,0) aW.length]))),((52,2),some (.row 3 1 (dat (List.map eI (aG.set aO.toNat (IntKind.wrap .i64 (aR + 1))))))),((53,0),some (.box 101 [.own (52,0) av.States.length,.own (52,1) aF.length,.own (52,2) aG.length])),((216,0),some (.row 59 2 (dat (List.map eTMsg aW))))]
       obtain ⟨bb,bc,aH⟩ := vB aH
       have h := h.same [3,5,6,8,10,11,12] [(1,0),(3,0),(4,0),(46,0),(52,0),(52,1),(52,2),(53,0),(216,0)] 217 [(3,.one (.ptr (1,0) 0)),(5,.one (.ptr (3,0) 0)),(6,.one (.ptr (4,0) 0)),(8,.one (.ptr (46,0) 0)),(10,.one (.ptr (53,0) 0)),(11,.one (.d (.int .i64 aE))),(12,.one (.d (.int .i64 aO)))]
        [((1,0),some (.box 69 (cTApp a0))),((3,0),some (.box 175 (cTStep a2))),((4,0),some (.box 101 [.nil,.nil,.nil])),((46,0),some (.box 189 [.d (.int .i64 ap.1.Next),.d (.sl (List.map eTSend ap.1.Sends))])),((52,0),some (.row 3 1 (dat (List.map eI (av.States.set a2.Node.toNat ap.1.Next))))),((52,1),some (.row 170 1 ((openRows cols_170 (List.map (eL eTMsg) aF)).set aO.toNat [.own (216,0) aW.length]))),((52,2),some (.row 3 1 (dat (List.map eI bb)))),((53,0),some (.box 101 [.own (52,0) av.States.length,.own (52,1) aF.length,.own (52,2) bb.length])),((216,0),some (.row 59 2 (dat (List.map eTMsg aW))))]
        (by simp only [EZ,simprocAttr,af,ah,ai,aj,ak,ao,au,az,aA,aC,aD,aI,aK,aL,aM,aN,aS,aT,aU,aV,aX,aY,aZ,ba,dat_open,← bc] <;> rfl)
       obtain ⟨bd,be,bf,bg,bh,aH⟩ := aB aH
       obtain ⟨bi,aH⟩ := iT aH
       refine ds 241 [] [3,5,6,8,10,11,12] [(1,0),(3,0),(4,0),(46,0),(52,0),(52,1),(52,2),(53,0),(238,0)] h fun ac wd h => ?_
       have h := h.fS (cols := (fun _ => .sc)) (52,1) (238,0) (openRows cols_170 (List.map (eL eTMsg) aF)) aO.toNat [.own (238,0) (aW.length + 1)] 0 (List.map eTMsg (aW ++ [(TMsg.mk bd aJ.Letter)])) (sc_59 _)
       have h := h.sm 241 [(3,.one (.ptr (1,0) 0)),(5,.one (.ptr (3,0) 0)),(6,.one (.ptr (4,0) 0)),(8,.one (.ptr (46,0) 0)),(10,.one (.ptr (53,0) 0)),(11,.one (.d (.int .i64 aE))),(12,.one (.d (.int .i64 aO)))]
        [((1,0),some (.box 69 (cTApp a0))),((3,0),some (.box 175 (cTStep a2))),((4,0),some (.box 101 [.nil,.nil,.nil])),((46,0),some (.box 189 [.d (.int .i64 ap.1.Next),.d (.sl (List.map eTSend ap.1.Sends))])),((52,0),some (.row 3 1 (dat (List.map eI (av.States.set a2.Node.toNat ap.1.Next))))),((52,1),some (.row 170 1 ((openRows cols_170 (List.map (eL eTMsg) aF)).set aO.toNat [.tr (.sl 59 2 (fun _ => .sc)) (.sl (List.map eTMsg (aW ++ [(TMsg.mk bd aJ.Letter)])))]))),((52,2),some (.row 3 1 (dat (List.map eI bb)))),((53,0),some (.box 101 [.own (52,0) av.States.length,.own (52,1) aF.length,.own (52,2) bb.length]))]
       refine qs 247 [] [3,5,6,8,10,11,123] [(1,0),(3,0),(4,0),(46,0),(52,0),(52,1),(52,2),(53,0)] h fun ac wd h => ?_
       rcases i2 aH with ⟨bj,aH⟩ | ⟨bj,aH⟩
       ·
        refine kT h ?_
        refine qs 250 [] [6,7] [(4,0)] h fun ac wd h => ?_
        refine wp_ret ?_
        have h := SL.bornB h (4,0) 0 3 1 (by simp only [EZ,simprocAttr, *] <;> rfl) (by simp only [EZ,simprocAttr, *] <;> rfl)
        have h := SL.bornB h (4,0) 1 170 1 (by simp only [EZ,simprocAttr, *] <;> rfl) (by simp only [EZ,simprocAttr, *] <;> rfl)
        have h := SL.bornB h (4,0) 2 3 1 (by simp only [EZ,simprocAttr, *] <;> rfl) (by simp only [EZ,simprocAttr, *] <;> rfl)
        have h := h.sw (1,0) (250,0) 253
        have h := h.sw (1,1) (251,0) 253
        have h := h.sw (1,2) (252,0) 253
        injection aH with aH
        subst aH
        exact rO h [.cell 6 101,.tmp 7] [(1,0),(1,1),(1,2)]
       ·
        refine kF h ?_
        refine wp_skip ?_
        change Code.wp Try.prog _ _ _ _
        refine qe [] [3,5,6,8,10,11] [(1,0),(3,0),(4,0),(46,0),(52,0),(52,1),(52,2),(53,0)] h fun ac wd h => ?_
        exact ⟨nf,Nat.lt_succ_self nf,(IntKind.wrap .i64 (aE + 1)),(aF.set aO.toNat (aW ++ [(TMsg.mk bd aJ.Letter)])),bb,aH,h.z⟩
      ·
       refine kF h ?_
       refine wp_exit ?_
       change Code.wp Try.prog _ _ _ _
       refine qs 196 [] [6,7] [(4,0),(52,0),(52,1),(52,2)] h fun ac wd h => ?_
       refine wp_ret ?_
       have h := h.sw (1,0) (52,0) 196
       have h := h.sw (1,1) (52,1) 196
       have h := h.sw (1,2) (52,2) 196
       injection aH with aH
       subst aH
       exact rO h [.cell 6 101,.tmp 7] [(1,0),(1,1),(1,2)]
    ·
     refine kT h ?_
     refine qs 54 [] [6,7] [(4,0)] h fun ac wd h => ?_
     refine wp_ret ?_
     have h := SL.bornB h (4,0) 0 3 1 (by simp only [EZ,simprocAttr, *] <;> rfl) (by simp only [EZ,simprocAttr, *] <;> rfl)
     have h := SL.bornB h (4,0) 1 170 1 (by simp only [EZ,simprocAttr, *] <;> rfl) (by simp only [EZ,simprocAttr, *] <;> rfl)
     have h := SL.bornB h (4,0) 2 3 1 (by simp only [EZ,simprocAttr, *] <;> rfl) (by simp only [EZ,simprocAttr, *] <;> rfl)
     have h := h.sw (1,0) (54,0) 57
     have h := h.sw (1,1) (55,0) 57
     have h := h.sw (1,2) (56,0) 57
     injection hD with hD
     subst hD
     exact rO h [.cell 6 101,.tmp 7] [(1,0),(1,1),(1,2)]
   ·
    refine kT h ?_
    refine qs 33 [] [6,7] [(4,0)] h fun ac wd h => ?_
    refine wp_ret ?_
    have h := SL.bornB h (4,0) 0 3 1 (by simp only [EZ,simprocAttr, *] <;> rfl) (by simp only [EZ,simprocAttr, *] <;> rfl)
    have h := SL.bornB h (4,0) 1 170 1 (by simp only [EZ,simprocAttr, *] <;> rfl) (by simp only [EZ,simprocAttr, *] <;> rfl)
    have h := SL.bornB h (4,0) 2 3 1 (by simp only [EZ,simprocAttr, *] <;> rfl) (by simp only [EZ,simprocAttr, *] <;> rfl)
    have h := h.sw (1,0) (33,0) 36
    have h := h.sw (1,1) (34,0) 36
    have h := h.sw (1,2) (35,0) 36
    injection hD with hD
    subst hD
    exact rO h [.cell 6 101,.tmp 7] [(1,0),(1,1),(1,2)]
theorem L_ref05_pick_ok {a0 : TApp} {a1 : TConf} {a2 : TStep} {r : TConf × Int} (hD : L_ref05_pick a0 a1 a2 = some r) :
  CallH Try.prog 116 [.agg (cTApp a0),.agg (cTConf a1),.agg (cTStep a2)] []
   (.tup [.inl [.d (.sl (List.map eI r.1.States)),.d (.sl (List.map (eL eTMsg) r.1.Links)),.d (.sl (List.map eI r.1.Sent))],.inr (.d (.int .i64 r.2))]) [] :=
 (L_ref05_pick_own hD).fr

theorem L_ref05_Place_ok {a0 : (List TMsg)} {a1 : Int} {r : Int} (hD : L_ref05_Place a0 a1 = some r) :
  CallH Try.prog 139 [.one (.d (.sl (List.map eTMsg a0))),.one (.d (.int .i64 a1))] []
   (.one (.d (.int .i64 r))) [] := by
 unfold L_ref05_Place at hD
 refine rc Try.func139 rfl Try.ntmps139 fun S Φ P0 wb ac h => ?_
 refine qs 2 [] [0,1] [] h fun ac wd h => ?_
 refine wp_seq ?_
 refine qs 3 [] [0,1,5] [] h fun ac wd h => ?_
 refine wp_block ?_
 refine r_while (fun nf ac wd => ∃ (aa : Int),L_ref05_Place_l1 a0 a1 nf aa = some r ∧ SL ⟨wb,S,Φ,P0⟩ 20 31 [(0,.one (.d (.sl (List.map eTMsg a0)))),(1,.one (.d (.int .i64 a1))),(5,.one (.d (.int .i64 aa)))] [] ac wd) (((a0.length : Int) - 0).toNat + 1) ⟨0,hD,h.z⟩ (fun nf ac wd hJ => ?_)
 obtain ⟨aa,ab,h⟩ := hJ
 cases nf with
 | zero => rw [L_ref05_Place_l1] at ab; cases ab
 | succ nf =>
  rw [L_ref05_Place_l1] at ab
  refine wp_seq ?_
  refine qs 35 [] [0,1,5,9] [] h fun ac wd h => ?_
  rcases i2 ab with ⟨ad,ab⟩ | ⟨ad,ab⟩
  ·
   refine kT h ?_
   refine wp_skip ?_
   change Code.wp Try.prog _ _ _ _
   refine wp_seq ?_
   refine wp_block ?_
   obtain ⟨ae,af,ag,ah,ai,ab⟩ := aB ab
   refine qs 42 [] [0,1,5,18] [] h fun ac wd h => ?_
   rcases i2e ab with ⟨aj,ab⟩ | ⟨aj,ab⟩
   ·
    refine kT h ?_
    refine qs 44 [] [4] [] h fun ac wd h => ?_
    refine wp_ret ?_
    injection ab with ab
    subst ab
    exact rE h [.tmp 4]
   ·
    refine kF h ?_
    refine wp_skip ?_
    change Code.wp Try.prog _ _ _ _
    refine qe [] [0,1,5] [] h fun ac wd h => ?_
    exact ⟨nf,Nat.lt_succ_self nf,(IntKind.wrap .i64 (aa + 1)),ab,h.z⟩
  ·
   refine kF h ?_
   refine wp_exit ?_
   change Code.wp Try.prog _ _ _ _
   refine qs 36 [] [4] [] h fun ac wd h => ?_
   refine wp_ret ?_
   injection ab with ab
   subst ab
   exact rE h [.tmp 4]

theorem L_ref04_Taken_ok {a0 : (List TNode)} {a1 : Int} {a2 : Int} {a3 : Int} {a4 : Int} {r : Int} (hD : L_ref04_Taken a0 a1 a2 a3 a4 = some r) :
  CallH Try.prog 140 [.one (.d (.sl (List.map eTNode a0))),.one (.d (.int .i64 a1)),.one (.d (.int .i64 a2)),.one (.d (.int .i64 a3)),.one (.d (.int .i64 a4))] []
   (.one (.d (.int .i64 r))) [] := by
 unfold L_ref04_Taken at hD
 refine rc Try.func140 rfl Try.ntmps140 fun S Φ P0 wb ac h => ?_
 refine qs 2 [] [0,1,2,3,4] [] h fun ac wd h => ?_
 obtain ⟨aa,ab,hD⟩ := oB hD
 have ad := L_ref04_At_ok ab
 refine qs 8 [factE 5 ad] [2,3,4,11] [] h fun ac wd h => ?_
 refine wp_seq ?_
 refine qs 9 [] [2,3,4,11,12] [] h fun ac wd h => ?_
 refine wp_block ?_
 refine r_while (fun nf ac wd => ∃ (ae : Int),L_ref04_Taken_l1 a2 a3 a4 aa nf ae = some r ∧ SL ⟨wb,S,Φ,P0⟩ 46 55 [(2,.one (.d (.int .i64 a2))),(3,.one (.d (.int .i64 a3))),(4,.one (.d (.int .i64 a4))),(11,.one (.d (.sl (List.map eTTake aa.Takes)))),(12,.one (.d (.int .i64 ae)))] [] ac wd) (((aa.Takes.length : Int) - 0).toNat + 1) ⟨0,hD,h.z⟩ (fun nf ac wd hJ => ?_)
 obtain ⟨ae,af,h⟩ := hJ
 cases nf with
 | zero => rw [L_ref04_Taken_l1] at af; cases af
 | succ nf =>
  rw [L_ref04_Taken_l1] at af
  refine wp_seq ?_
  refine qs 59 [] [2,3,4,11,12,21] [] h fun ac wd h => ?_
  rcases i2 af with ⟨ag,af⟩ | ⟨ag,af⟩
  ·
   refine kT h ?_
   refine wp_skip ?_
   change Code.wp Try.prog _ _ _ _
   refine wp_seq ?_
   refine wp_block ?_
   obtain ⟨ah,ai,af⟩ := Option.bind_eq_some_iff.1 af
   refine r_seqJ (fun ac wd => ∃ (aj : Bool),aj = ah ∧ SL ⟨wb,S,Φ,P0⟩ 46 75 [(2,.one (.d (.int .i64 a2))),(3,.one (.d (.int .i64 a3))),(4,.one (.d (.int .i64 a4))),(11,.one (.d (.sl (List.map eTTake aa.Takes)))),(12,.one (.d (.int .i64 ae))),(39,.one (.d (.bool aj)))] [] ac wd) ?_ ?_
   ·
    obtain ⟨ak,al,am,an,ao,ai⟩ := aB ai
    rcases i2e ai with ⟨ap,ai⟩ | ⟨ap,ai⟩
    ·
     refine qeg [] [none,none,none,none,none,none,none,none,some (some 31,true),some (some 31,true),some (some 31,true),some (some 31,true),some (some 31,true),some (some 31,true),some (some 31,true),none] [2,3,4,11,12,39] [] h fun ac wd h => ?_
     injection ai with ai; subst ai
     exact ⟨decide (ak.Letter = a4),rfl,h.z⟩
    ·
     refine qeg [] [none,none,none,none,none,none,none,none,some (some 31,true),some (some 31,true),some (some 31,true),some (some 31,true),some (some 31,true),some (some 31,true),some (some 31,true),none] [2,3,4,11,12,39] [] h fun ac wd h => ?_
     injection ai with ai; subst ai
     exact ⟨false,rfl,h.z⟩
   ·
    rintro ac wd ⟨aj,rfl,h⟩
    (try dsimp only at af)
    rcases i2b af with ⟨aq,af⟩ | ⟨aq,af⟩
    ·
     refine kT h ?_
     obtain ⟨ar,au,av,aw,ax,af⟩ := aB af
     refine qs 81 [] [10] [] h fun ac wd h => ?_
     refine wp_ret ?_
     injection af with af
     subst af
     exact rE h [.tmp 10]
    ·
     refine kF h ?_
     refine wp_skip ?_
     change Code.wp Try.prog _ _ _ _
     refine qe [] [2,3,4,11,12] [] h fun ac wd h => ?_
     exact ⟨nf,Nat.lt_succ_self nf,(IntKind.wrap .i64 (ae + 1)),af,h.z⟩
  ·
   refine kF h ?_
   refine wp_exit ?_
   change Code.wp Try.prog _ _ _ _
   refine qs 61 [] [10] [] h fun ac wd h => ?_
   refine wp_ret ?_
   injection af with af
   subst af
   exact rE h [.tmp 10]

theorem L_ref05_deliver_own {a0 : TApp} {a1 : TConf} {a2 : TStep} {r : TConf × Int} (hD : L_ref05_deliver a0 a1 a2 = some r) :
  CallH Try.prog 117 [.agg (cTApp a0),.agg (cTConf a1),.agg (cTStep a2)] []
   (.tup [.inl [.own (1,0) r.1.States.length,.own (1,1) r.1.Links.length,.own (1,2) r.1.Sent.length],.inr (.d (.int .i64 r.2))]) [((1,0),some (.row 3 1 (dat (List.map eI r.1.States)))),((1,1),some (.row 170 1 (openRows cols_170 (List.map (eL eTMsg) r.1.Links)))),((1,2),some (.row 3 1 (dat (List.map eI r.1.Sent))))] := by
 unfold L_ref05_deliver at hD
 refine rc Try.func117 rfl Try.ntmps117 fun S Φ P0 wb ac h => ?_
 refine qs 6 [] [3,4,5,6] [(1,0),(2,0),(3,0),(4,0)] h fun ac wd h => ?_
 refine wp_seq ?_
 obtain ⟨aa,ab,hD⟩ := Option.bind_eq_some_iff.1 hD
 refine r_seqJ (fun ac wd => ∃ (ad : Bool),ad = aa ∧ SL ⟨wb,S,Φ,P0⟩ 101 18 [(3,.one (.ptr (1,0) 0)),(4,.one (.ptr (2,0) 0)),(5,.one (.ptr (3,0) 0)),(6,.one (.ptr (4,0) 0)),(24,.one (.d (.bool ad)))] [((1,0),some (.box 69 (cTApp a0))),((2,0),some (.box 101 (cTConf a1))),((3,0),some (.box 175 (cTStep a2))),((4,0),some (.box 101 [.nil,.nil,.nil]))] ac wd) ?_ ?_
 ·
  rcases i2 ab with ⟨ae,ab⟩ | ⟨ae,ab⟩
  ·
   refine qeg [] [none,none,none,none,some (some 16,false),some (some 16,false),some (some 16,false),some (some 16,false),some (some 16,false),some (some 16,false),some (some 16,false),none] [3,4,5,6,24] [(1,0),(2,0),(3,0),(4,0)] h fun ac wd h => ?_
   injection ab with ab; subst ab
   exact ⟨true,rfl,h.z⟩
  ·
   refine qeg [] [none,none,none,none,some (some 16,false),some (some 16,false),some (some 16,false),some (some 16,false),some (some 16,false),some (some 16,false),some (some 16,false),none] [3,4,5,6,24] [(1,0),(2,0),(3,0),(4,0)] h fun ac wd h => ?_
   injection ab with ab; subst ab
   exact ⟨decide (a2.Link ≥ (a0.G.Links.length : Int)),rfl,h.z⟩
 ·
  rintro ac wd ⟨ad,rfl,h⟩
  (try dsimp only at hD)
  rcases i2b hD with ⟨af,hD⟩ | ⟨af,hD⟩
  ·
   refine kT h ?_
   refine qs 21 [] [6,7] [(4,0)] h fun ac wd h => ?_
   refine wp_ret ?_
   have h := SL.bornB h (4,0) 0 3 1 (by simp only [EZ,simprocAttr, *] <;> rfl) (by simp only [EZ,simprocAttr, *] <;> rfl)
   have h := SL.bornB h (4,0) 1 170 1 (by simp only [EZ,simprocAttr, *] <;> rfl) (by simp only [EZ,simprocAttr, *] <;> rfl)
   have h := SL.bornB h (4,0) 2 3 1 (by simp only [EZ,simprocAttr, *] <;> rfl) (by simp only [EZ,simprocAttr, *] <;> rfl)
   have h := h.sw (1,0) (21,0) 24
   have h := h.sw (1,1) (22,0) 24
   have h := h.sw (1,2) (23,0) 24
   injection hD with hD
   subst hD
   exact rO h [.cell 6 101,.tmp 7] [(1,0),(1,1),(1,2)]
  ·
   refine kF h ?_
   refine wp_skip ?_
   change Code.wp Try.prog _ _ _ _
   obtain ⟨ag,ah,ai,aj,ak,hD⟩ := aB hD
   refine qs 25 [] [3,4,5,6,8] [(1,0),(2,0),(3,0),(4,0)] h fun ac wd h => ?_
   obtain ⟨al,am,hD⟩ := oB hD
   have an := L_ref05_Place_ok am
   refine qs 30 [factE 28 an] [3,4,5,6,8,9] [(1,0),(2,0),(3,0),(4,0)] h fun ac wd h => ?_
   refine wp_seq ?_
   obtain ⟨ao,ap,hD⟩ := Option.bind_eq_some_iff.1 hD
   refine r_seqJ (fun ac wd => ∃ (aq : Bool),aq = ao ∧ SL ⟨wb,S,Φ,P0⟩ 101 40 [(3,.one (.ptr (1,0) 0)),(4,.one (.ptr (2,0) 0)),(5,.one (.ptr (3,0) 0)),(6,.one (.ptr (4,0) 0)),(8,.one (.d (.sl (List.map eTMsg ag)))),(9,.one (.d (.int .i64 al))),(45,.one (.d (.bool aq)))] [((1,0),some (.box 69 (cTApp a0))),((2,0),some (.box 101 (cTConf a1))),((3,0),some (.box 175 (cTStep a2))),((4,0),some (.box 101 [.nil,.nil,.nil]))] ac wd) ?_ ?_
   ·
    rcases i2 ap with ⟨ar,ap⟩ | ⟨ar,ap⟩
    ·
     refine qeg [] [none,none,none,some (some 38,false),some (some 38,false),some (some 38,false),some (some 41,true),some (some 41,true),some (some 38,false),none] [3,4,5,6,8,9,45] [(1,0),(2,0),(3,0),(4,0)] h fun ac wd h => ?_
     injection ap with ap; subst ap
     exact ⟨true,rfl,h.z⟩
    ·
     rcases i2 ap with ⟨au,ap⟩ | ⟨au,ap⟩
     ·
      refine qeg [] [none,none,none,some (some 38,false),some (some 38,false),some (some 38,false),some (some 41,true),some (some 41,true),some (some 38,false),none] [3,4,5,6,8,9,45] [(1,0),(2,0),(3,0),(4,0)] h fun ac wd h => ?_
      injection ap with ap; subst ap
      exact ⟨a0.Fifo,rfl,h.z⟩
     ·
      refine qeg [] [none,none,none,some (some 38,false),some (some 38,false),some (some 38,false),some (some 41,true),some (some 41,true),some (some 38,false),none] [3,4,5,6,8,9,45] [(1,0),(2,0),(3,0),(4,0)] h fun ac wd h => ?_
      injection ap with ap; subst ap
      exact ⟨false,rfl,h.z⟩
   ·
    rintro ac wd ⟨aq,rfl,h⟩
    (try dsimp only at hD)
    rcases i2b hD with ⟨av,hD⟩ | ⟨av,hD⟩
    ·
     refine kT h ?_
     refine qs 43 [] [6,7] [(4,0)] h fun ac wd h => ?_
     refine wp_ret ?_
     have h := SL.bornB h (4,0) 0 3 1 (by simp only [EZ,simprocAttr, *] <;> rfl) (by simp only [EZ,simprocAttr, *] <;> rfl)
     have h := SL.bornB h (4,0) 1 170 1 (by simp only [EZ,simprocAttr, *] <;> rfl) (by simp only [EZ,simprocAttr, *] <;> rfl)
     have h := SL.bornB h (4,0) 2 3 1 (by simp only [EZ,simprocAttr, *] <;> rfl) (by simp only [EZ,simprocAttr, *] <;> rfl)
     have h := h.sw (1,0) (43,0) 46
     have h := h.sw (1,1) (44,0) 46
     have h := h.sw (1,2) (45,0) 46
     injection hD with hD
     subst hD
     exact rO h [.cell 6 101,.tmp 7] [(1,0),(1,1),(1,2)]
    ·
     refine kF h ?_
     refine wp_skip ?_
     change Code.wp Try.prog _ _ _ _
     obtain ⟨aw,ax,hD⟩ := oB hD
     have ay := ((L_ref05_Own_own ax).cls 41).z
     refine qs 44 [factO ay] [3,4,5,6,8,9,10] [(1,0),(2,0),(3,0),(4,0),(41,0),(41,1),(41,2),(42,0)] h fun ac wd h => ?_
     obtain ⟨az,aA,aC,aD,aE,hD⟩ := aB hD
     refine qs 53 [] [3,4,5,6,8,9,10,11] [(1,0),(2,0),(3,0),(4,0),(41,0),(41,1),(41,2),(42,0)] h fun ac wd h => ?_
     obtain ⟨aF,aG,aH,aI,aJ,hD⟩ := aB hD
     obtain ⟨aK,aL,aM,aN,aO,hD⟩ := aB hD
     obtain ⟨aP,aQ,hD⟩ := oB hD
     obtain ⟨aR,aS,aT,aU,aV,hD⟩ := aB hD
     have aW := L_ref04_Taken_ok aQ
     refine ds 80 [factE 77 aW] [5,6,8,9,10] [(3,0),(4,0),(41,0),(41,1),(41,2),(42,0)] h fun ac wd h => ?_
     obtain ⟨aX,hD⟩ := iT hD
     obtain ⟨aY,hD⟩ := iT hD
     obtain ⟨aZ,ba,hD⟩ := vB hD
     obtain ⟨bb,hD⟩ := iT hD
     refine qs 86 [] [5,6,8,9,10,12] [(3,0),(4,0),(41,0),(41,1),(41,2),(42,0),(84,0)] h fun ac wd h => ?_
     obtain ⟨bc,hD⟩ := iT hD
     obtain ⟨bd,hD⟩ := iT hD
     obtain ⟨be,bf,hD⟩ := vB hD
     obtain ⟨bg,hD⟩ := iT hD
     refine qs 93 [] [5,6,10,12] [(3,0),(4,0),(41,0),(41,1),(41,2),(42,0),(91,0)] h fun ac wd h => ?_
     obtain ⟨bh,bi,bj,bk,bl,hD⟩ := aB hD
     refine qs 100 [] [6,10] [(4,0),(41,0),(41,1),(41,2),(42,0),(91,0)] h fun ac wd h => ?_
     have h := h.fS (cols := (fun _ => .sc)) (41,1) (91,0) (openRows cols_170 (List.map (eL eTMsg) aw.Links)) a2.Link.toNat [.own (91,0) (aZ.length + be.length)] 0 (List.map eTMsg (aZ ++ be)) (sc_59 _)
     have h := h.sm 100 [(6,.one (.ptr (4,0) 0)),(10,.one (.ptr (42,0) 0))]
      [((4,0),some (.box 101 [.nil,.nil,.nil])),((41,0),some (.row 3 1 (dat (List.map eI (aw.States.set az.a1.toNat aP))))),((41,1),some (.row 170 1 ((openRows cols_170 (List.map (eL eTMsg) aw.Links)).set a2.Link.toNat [.tr (.sl 59 2 (fun _ => .sc)) (.sl (List.map eTMsg (aZ ++ be)))]))),((41,2),some (.row 3 1 (dat (List.map eI aw.Sent)))),((42,0),some (.box 101 [.own (41,0) aw.States.length,.own (41,1) aw.Links.length,.own (41,2) aw.Sent.length]))]
     refine qs 103 [] [6,7] [(4,0),(41,0),(41,1),(41,2)] h fun ac wd h => ?_
     refine wp_ret ?_
     have h := h.sw (1,0) (41,0) 103
     have h := h.sw (1,1) (41,1) 103
     have h := h.sw (1,2) (41,2) 103
     injection hD with hD
     subst hD
     exact rO h [.cell 6 101,.tmp 7] [(1,0),(1,1),(1,2)]
theorem L_ref05_deliver_ok {a0 : TApp} {a1 : TConf} {a2 : TStep} {r : TConf × Int} (hD : L_ref05_deliver a0 a1 a2 = some r) :
  CallH Try.prog 117 [.agg (cTApp a0),.agg (cTConf a1),.agg (cTStep a2)] []
   (.tup [.inl [.d (.sl (List.map eI r.1.States)),.d (.sl (List.map (eL eTMsg) r.1.Links)),.d (.sl (List.map eI r.1.Sent))],.inr (.d (.int .i64 r.2))]) [] :=
 (L_ref05_deliver_own hD).fr

theorem L_ref05_Apply_own {a0 : TApp} {a1 : TConf} {a2 : TStep} {r : TConf × Int} (hD : L_ref05_Apply a0 a1 a2 = some r) :
  CallH Try.prog 87 [.agg (cTApp a0),.agg (cTConf a1),.agg (cTStep a2)] []
   (.tup [.inl [.own (1,0) r.1.States.length,.own (1,1) r.1.Links.length,.own (1,2) r.1.Sent.length],.inr (.d (.int .i64 r.2))]) [((1,0),some (.row 3 1 (dat (List.map eI r.1.States)))),((1,1),some (.row 170 1 (openRows cols_170 (List.map (eL eTMsg) r.1.Links)))),((1,2),some (.row 3 1 (dat (List.map eI r.1.Sent))))] := by
 unfold L_ref05_Apply at hD
 refine rc Try.func87 rfl Try.ntmps87 fun S Φ P0 wb ac h => ?_
 refine qs 6 [] [3,4,5,6] [(1,0),(2,0),(3,0),(4,0)] h fun ac wd h => ?_
 refine wp_seq ?_
 refine qs 9 [] [3,4,5,6,10] [(1,0),(2,0),(3,0),(4,0)] h fun ac wd h => ?_
 rcases i2e hD with ⟨aa,hD⟩ | ⟨aa,hD⟩
 ·
  refine kT h ?_
  obtain ⟨ab,ad,hD⟩ := oB hD
  have ae := ((L_ref05_pick_own ad).cls 12).z
  refine qs 17 [factO ae] [6,7] [(4,0),(12,0),(12,1),(12,2)] h fun ac wd h => ?_
  refine wp_ret ?_
  have h := h.sw (1,0) (12,0) 17
  have h := h.sw (1,1) (12,1) 17
  have h := h.sw (1,2) (12,2) 17
  injection hD with hD
  subst hD
  exact rO h [.cell 6 101,.tmp 7] [(1,0),(1,1),(1,2)]
 ·
  refine kF h ?_
  refine wp_skip ?_
  change Code.wp Try.prog _ _ _ _
  refine wp_seq ?_
  refine qs 12 [] [3,4,5,6,19] [(1,0),(2,0),(3,0),(4,0)] h fun ac wd h => ?_
  rcases i2e hD with ⟨af,hD⟩ | ⟨af,hD⟩
  ·
   refine kT h ?_
   obtain ⟨ag,ah,hD⟩ := oB hD
   have ai := ((L_ref05_deliver_own ah).cls 15).z
   refine qs 20 [factO ai] [6,7] [(4,0),(15,0),(15,1),(15,2)] h fun ac wd h => ?_
   refine wp_ret ?_
   have h := h.sw (1,0) (15,0) 20
   have h := h.sw (1,1) (15,1) 20
   have h := h.sw (1,2) (15,2) 20
   injection hD with hD
   subst hD
   exact rO h [.cell 6 101,.tmp 7] [(1,0),(1,1),(1,2)]
  ·
   refine kF h ?_
   refine wp_skip ?_
   change Code.wp Try.prog _ _ _ _
   refine qs 15 [] [6,7] [(4,0)] h fun ac wd h => ?_
   refine wp_ret ?_
   have h := SL.bornB h (4,0) 0 3 1 (by simp only [EZ,simprocAttr, *] <;> rfl) (by simp only [EZ,simprocAttr, *] <;> rfl)
   have h := SL.bornB h (4,0) 1 170 1 (by simp only [EZ,simprocAttr, *] <;> rfl) (by simp only [EZ,simprocAttr, *] <;> rfl)
   have h := SL.bornB h (4,0) 2 3 1 (by simp only [EZ,simprocAttr, *] <;> rfl) (by simp only [EZ,simprocAttr, *] <;> rfl)
   have h := h.sw (1,0) (15,0) 18
   have h := h.sw (1,1) (16,0) 18
   have h := h.sw (1,2) (17,0) 18
   injection hD with hD
   subst hD
   exact rO h [.cell 6 101,.tmp 7] [(1,0),(1,1),(1,2)]
theorem L_ref05_Apply_ok {a0 : TApp} {a1 : TConf} {a2 : TStep} {r : TConf × Int} (hD : L_ref05_Apply a0 a1 a2 = some r) :
  CallH Try.prog 87 [.agg (cTApp a0),.agg (cTConf a1),.agg (cTStep a2)] []
   (.tup [.inl [.d (.sl (List.map eI r.1.States)),.d (.sl (List.map (eL eTMsg) r.1.Links)),.d (.sl (List.map eI r.1.Sent))],.inr (.d (.int .i64 r.2))]) [] :=
 (L_ref05_Apply_own hD).fr

theorem L_law17_doable_own {a0 : TApp} {a1 : TConf} {a2 : (List TStep)} {a3 : Int} {r : (List TStep)} (hD : L_law17_doable a0 a1 a2 a3 = some r) :
  CallH Try.prog 37 [.agg (cTApp a0),.agg (cTConf a1),.one (.d (.sl (List.map eTStep a2))),.one (.d (.int .i64 a3))] []
   (.one (.own (1,0) r.length)) [((1,0),some (.row 125 5 (dat (List.map eTStep r))))] := by
 unfold L_law17_doable at hD
 refine rc Try.func37 rfl Try.ntmps37 fun S Φ P0 wb ac h => ?_
 refine qs 4 [] [2,3,4,5] [(1,0),(2,0)] h fun ac wd h => ?_
 obtain ⟨aa,ab,hD⟩ := oB hD
 obtain ⟨ad,ae,hD⟩ := oB hD
 have af := L_law05_App_ok ab
 have ag := L_law05_Ref_ok ae
 refine ds 14 [factE 5 af,factE 7 ag] [2,3,9,10,11] [(8,0),(9,0),(10,0)] h fun ac wd h => ?_
 refine wp_seq ?_
 refine qs 15 [] [2,3,9,10,11,12] [(8,0),(9,0),(10,0)] h fun ac wd h => ?_
 refine wp_block ?_
 refine r_while (fun nf ac wd => ∃ (ah : Int) (ai : TConf) (aj : List TStep),L_law17_doable_l1 a2 a3 aa nf ah ai aj = some r ∧ SL ⟨wb,S,Φ,P0⟩ 53 91 [(2,.one (.d (.sl (List.map eTStep a2)))),(3,.one (.d (.int .i64 a3))),(9,.one (.ptr (9,0) 0)),(10,.one (.ptr (10,0) 0)),(11,.one (.own (8,0) aj.length)),(12,.one (.d (.int .i64 ah)))] [((8,0),some (.row 125 5 (dat (List.map eTStep aj)))),((9,0),some (.box 69 [.d (.int .i64 aa.G.N),.d (.sl (List.map eA2I aa.G.Links)),.d (.sl (List.map eTNode aa.T)),.d (.bool aa.Fifo)])),((10,0),some (.box 101 (cTConf ai)))] ac wd) (((a2.length : Int) - 0).toNat + 1) ⟨0,ad,([] : List TStep),hD,h.z⟩ (fun nf ac wd hJ => ?_)
 obtain ⟨ah,ai,aj,ak,h⟩ := hJ
 cases nf with
 | zero => rw [L_law17_doable_l1] at ak; cases ak
 | succ nf =>
  rw [L_law17_doable_l1] at ak
  refine wp_seq ?_
  obtain ⟨al,am,ak⟩ := Option.bind_eq_some_iff.1 ak
  refine r_seqJ (fun ac wd => ∃ (an : Bool),an = al ∧ SL ⟨wb,S,Φ,P0⟩ 53 100 [(2,.one (.d (.sl (List.map eTStep a2)))),(3,.one (.d (.int .i64 a3))),(9,.one (.ptr (9,0) 0)),(10,.one (.ptr (10,0) 0)),(11,.one (.own (8,0) aj.length)),(12,.one (.d (.int .i64 ah))),(28,.one (.d (.bool an)))] [((8,0),some (.row 125 5 (dat (List.map eTStep aj)))),((9,0),some (.box 69 [.d (.int .i64 aa.G.N),.d (.sl (List.map eA2I aa.G.Links)),.d (.sl (List.map eTNode aa.T)),.d (.bool aa.Fifo)])),((10,0),some (.box 101 (cTConf ai)))] ac wd) ?_ ?_
  ·
   rcases i2 am with ⟨ao,am⟩ | ⟨ao,am⟩
   ·
    refine qeg [] [none,none,none,none,none,some (some 24,true),some (some 24,true),some (some 24,true),none] [2,3,9,10,11,12,28] [(8,0),(9,0),(10,0)] h fun ac wd h => ?_
    injection am with am; subst am
    exact ⟨decide (ah < a3),rfl,h.z⟩
   ·
    refine qeg [] [none,none,none,none,none,some (some 24,true),some (some 24,true),some (some 24,true),none] [2,3,9,10,11,12,28] [(8,0),(9,0),(10,0)] h fun ac wd h => ?_
    injection am with am; subst am
    exact ⟨false,rfl,h.z⟩
  ·
   rintro ac wd ⟨an,rfl,h⟩
   (try dsimp only at ak)
   rcases i2b ak with ⟨ap,ak⟩ | ⟨ap,ak⟩
   ·
    refine kT h ?_
    refine wp_skip ?_
    change Code.wp Try.prog _ _ _ _
    obtain ⟨aq,ar,ak⟩ := Option.bind_eq_some_iff.1 ak
    refine r_seqJ (fun ac wd => ∃ (au : TConf) (av : List TStep),(au,av) = aq ∧ SL ⟨wb,S,Φ,P0⟩ 53 126 [(2,.one (.d (.sl (List.map eTStep a2)))),(3,.one (.d (.int .i64 a3))),(9,.one (.ptr (9,0) 0)),(10,.one (.ptr (10,0) 0)),(11,.one (.own (124,0) av.length)),(12,.one (.d (.int .i64 ah)))] [((9,0),some (.box 69 [.d (.int .i64 aa.G.N),.d (.sl (List.map eA2I aa.G.Links)),.d (.sl (List.map eTNode aa.T)),.d (.bool aa.Fifo)])),((10,0),some (.box 101 (cTConf au))),((124,0),some (.row 125 5 (dat (List.map eTStep av))))] ac wd) ?_ ?_
    ·
     refine wp_block ?_
     obtain ⟨aw,ax,ay,az,aA,ar⟩ := aB ar
     obtain ⟨aC,aD,ar⟩ := oB ar
     obtain ⟨aE,aF,ar⟩ := oB ar
     have aG := L_law05_Step_ok aD
     have aH := L_ref05_Apply_ok aF
     refine ds 114 [factE 106 aG,factE 107 aH] [2,3,9,10,11,12,13,14] [(8,0),(9,0),(10,0),(111,0)] h fun ac wd h => ?_
     refine qs 116 [] [2,3,9,10,11,12,13,43] [(8,0),(9,0),(10,0),(111,0)] h fun ac wd h => ?_
     rcases i2e ar with ⟨aI,ar⟩ | ⟨aI,ar⟩
     ·
      refine kT h ?_
      refine qs 118 [] [2,3,9,10,11,12] [(8,0),(9,0),(10,0)] h fun ac wd h => ?_
      obtain ⟨aJ,ar⟩ := iT ar
      refine qe [] [2,3,9,10,11,12] [(9,0),(10,0),(124,0)] h fun ac wd h => ?_
      injection ar with ar; subst ar
      exact ⟨aE.1,(aj ++ [aw]),rfl,h.z⟩
     ·
      refine kF h ?_
      refine wp_skip ?_
      have h := h.sw (124,0) (8,0) 126
      injection ar with ar; subst ar
      exact ⟨ai,aj,rfl,h.z⟩
    ·
     rintro ac wd ⟨au,av,rfl,h⟩
     (try dsimp only at ak)
     refine qe [] [2,3,9,10,11,12] [(9,0),(10,0),(124,0)] h fun ac wd h => ?_
     have h := h.sw (8,0) (124,0) 129
     exact ⟨nf,Nat.lt_succ_self nf,(IntKind.wrap .i64 (ah + 1)),au,av,ak,h.z⟩
   ·
    refine kF h ?_
    refine wp_exit ?_
    change Code.wp Try.prog _ _ _ _
    refine qs 102 [] [8] [(8,0)] h fun ac wd h => ?_
    refine wp_ret ?_
    have h := h.sw (1,0) (8,0) 102
    injection ak with ak
    subst ak
    exact rO h [.tmp 8] [(1,0)]
theorem L_law17_doable_ok {a0 : TApp} {a1 : TConf} {a2 : (List TStep)} {a3 : Int} {r : (List TStep)} (hD : L_law17_doable a0 a1 a2 a3 = some r) :
  CallH Try.prog 37 [.agg (cTApp a0),.agg (cTConf a1),.one (.d (.sl (List.map eTStep a2))),.one (.d (.int .i64 a3))] []
   (.one (.d (.sl (List.map eTStep r)))) [] :=
 (L_law17_doable_own hD).fr

theorem L_ref17_Where_ok {a0 : TGraph} {a1 : TStep} {r : Int} (hD : L_ref17_Where a0 a1 = some r) :
  CallH Try.prog 91 [.agg (cTGraph a0),.agg (cTStep a1)] []
   (.one (.d (.int .i64 r))) [] := by
 unfold L_ref17_Where at hD
 refine rc Try.func91 rfl Try.ntmps91 fun S Φ P0 wb ac h => ?_
 refine qs 4 [] [2,3] [(1,0),(2,0)] h fun ac wd h => ?_
 refine wp_seq ?_
 obtain ⟨aa,ab,hD⟩ := Option.bind_eq_some_iff.1 hD
 refine r_seqJ (fun ac wd => ∃ (ad : Bool),ad = aa ∧ SL ⟨wb,S,Φ,P0⟩ 45 19 [(2,.one (.ptr (1,0) 0)),(3,.one (.ptr (2,0) 0)),(19,.one (.d (.bool ad)))] [((1,0),some (.box 32 (cTGraph a0))),((2,0),some (.box 175 (cTStep a1)))] ac wd) ?_ ?_
 ·
  rcases i2e ab with ⟨ae,ab⟩ | ⟨ae,ab⟩
  ·
   rcases i2 ab with ⟨af,ab⟩ | ⟨af,ab⟩
   ·
    refine qeg [] [none,none,none,none,some (some 8,true),some (some 8,true),some (some 8,true),none,none,some (some 13,true),some (some 13,true),some (some 13,true),some (some 13,true),some (some 13,true),none] [2,3,19] [(1,0),(2,0)] h fun ac wd h => ?_
    injection ab with ab; subst ab
    exact ⟨decide (a1.Node < a0.N),rfl,h.z⟩
   ·
    refine qeg [] [none,none,none,none,some (some 8,true),some (some 8,true),some (some 8,true),none,none,some (some 13,true),some (some 13,true),some (some 13,true),some (some 13,true),some (some 13,true),none] [2,3,19] [(1,0),(2,0)] h fun ac wd h => ?_
    injection ab with ab; subst ab
    exact ⟨false,rfl,h.z⟩
  ·
   refine qeg [] [none,none,none,none,some (some 8,true),some (some 8,true),some (some 8,true),none,none,some (some 13,true),some (some 13,true),some (some 13,true),some (some 13,true),some (some 13,true),none] [2,3,19] [(1,0),(2,0)] h fun ac wd h => ?_
   injection ab with ab; subst ab
   exact ⟨false,rfl,h.z⟩
 ·
  rintro ac wd ⟨ad,rfl,h⟩
  (try dsimp only at hD)
  rcases i2b hD with ⟨ag,hD⟩ | ⟨ag,hD⟩
  ·
   refine kT h ?_
   refine qs 22 [] [4] [] h fun ac wd h => ?_
   refine wp_ret ?_
   injection hD with hD
   subst hD
   exact rE h [.tmp 4]
  ·
   refine kF h ?_
   refine wp_skip ?_
   change Code.wp Try.prog _ _ _ _
   refine wp_seq ?_
   obtain ⟨ah,ai,hD⟩ := Option.bind_eq_some_iff.1 hD
   refine r_seqJ (fun ac wd => ∃ (aj : Bool),aj = ah ∧ SL ⟨wb,S,Φ,P0⟩ 45 35 [(2,.one (.ptr (1,0) 0)),(3,.one (.ptr (2,0) 0)),(37,.one (.d (.bool aj)))] [((1,0),some (.box 32 (cTGraph a0))),((2,0),some (.box 175 (cTStep a1)))] ac wd) ?_ ?_
   ·
    rcases i2e ai with ⟨ak,ai⟩ | ⟨ak,ai⟩
    ·
     rcases i2 ai with ⟨al,ai⟩ | ⟨al,ai⟩
     ·
      refine qeg [] [none,none,none,none,some (some 25,true),some (some 25,true),some (some 25,true),none,none,some (some 30,true),some (some 30,true),some (some 30,true),some (some 30,true),some (some 30,true),some (some 30,true),none] [2,3,37] [(1,0),(2,0)] h fun ac wd h => ?_
      injection ai with ai; subst ai
      exact ⟨decide (a1.Link < (a0.Links.length : Int)),rfl,h.z⟩
     ·
      refine qeg [] [none,none,none,none,some (some 25,true),some (some 25,true),some (some 25,true),none,none,some (some 30,true),some (some 30,true),some (some 30,true),some (some 30,true),some (some 30,true),some (some 30,true),none] [2,3,37] [(1,0),(2,0)] h fun ac wd h => ?_
      injection ai with ai; subst ai
      exact ⟨false,rfl,h.z⟩
    ·
     refine qeg [] [none,none,none,none,some (some 25,true),some (some 25,true),some (some 25,true),none,none,some (some 30,true),some (some 30,true),some (some 30,true),some (some 30,true),some (some 30,true),some (some 30,true),none] [2,3,37] [(1,0),(2,0)] h fun ac wd h => ?_
     injection ai with ai; subst ai
     exact ⟨false,rfl,h.z⟩
   ·
    rintro ac wd ⟨aj,rfl,h⟩
    (try dsimp only at hD)
    rcases i2b hD with ⟨am,hD⟩ | ⟨am,hD⟩
    ·
     refine kT h ?_
     obtain ⟨an,ao,ap,aq,ar,hD⟩ := aB hD
     refine qs 43 [] [4] [] h fun ac wd h => ?_
     refine wp_ret ?_
     injection hD with hD
     subst hD
     exact rE h [.tmp 4]
    ·
     refine kF h ?_
     refine wp_skip ?_
     change Code.wp Try.prog _ _ _ _
     refine qs 36 [] [4] [] h fun ac wd h => ?_
     refine wp_ret ?_
     injection hD with hD
     subst hD
     exact rE h [.tmp 4]

theorem L_ref17_Counts_own {a0 : TGraph} {a1 : (List TStep)} {r : (List Int)} (hD : L_ref17_Counts a0 a1 = some r) :
  CallH Try.prog 41 [.agg (cTGraph a0),.one (.d (.sl (List.map eTStep a1)))] []
   (.one (.own (1,0) r.length)) [((1,0),some (.row 3 1 (dat (List.map eI r))))] := by
 unfold L_ref17_Counts at hD
 refine rc Try.func41 rfl Try.ntmps41 fun S Φ P0 wb ac h => ?_
 refine qs 3 [] [1,2] [(1,0)] h fun ac wd h => ?_
 obtain ⟨aa,hD⟩ := iT hD
 obtain ⟨ab,hD⟩ := iT hD
 obtain ⟨ad,hD⟩ := iT hD
 refine qs 7 [] [1,2,5] [(1,0),(5,0)] h fun ac wd h => ?_
 refine wp_seq ?_
 refine qs 8 [] [1,2,5,6] [(1,0),(5,0)] h fun ac wd h => ?_
 refine wp_block ?_
 refine r_while (fun nf ac wd => ∃ (ae : Int) (af : List Int),L_ref17_Counts_l1 a0 a1 nf ae af = some r ∧ SL ⟨wb,S,Φ,P0⟩ 34 58 [(1,.one (.d (.sl (List.map eTStep a1)))),(2,.one (.ptr (1,0) 0)),(5,.one (.own (5,0) af.length)),(6,.one (.d (.int .i64 ae)))] [((1,0),some (.box 32 (cTGraph a0))),((5,0),some (.row 3 1 (dat (List.map eI af))))] ac wd) (((a1.length : Int) - 0).toNat + 1) ⟨0,(List.replicate a0.N.toNat 0),hD,h.z⟩ (fun nf ac wd hJ => ?_)
 obtain ⟨ae,af,ag,h⟩ := hJ
 cases nf with
 | zero => rw [L_ref17_Counts_l1] at ag; cases ag
 | succ nf =>
  rw [L_ref17_Counts_l1] at ag
  refine wp_seq ?_
  refine qs 62 [] [1,2,5,6,14] [(1,0),(5,0)] h fun ac wd h => ?_
  rcases i2 ag with ⟨ah,ag⟩ | ⟨ah,ag⟩
  ·
   refine kT h ?_
   refine wp_skip ?_
   change Code.wp Try.prog _ _ _ _
   obtain ⟨ai,aj,ag⟩ := Option.bind_eq_some_iff.1 ag
   refine r_seqJ (fun ac wd => ∃ (ak : List Int),ak = ai ∧ SL ⟨wb,S,Φ,P0⟩ 34 80 [(1,.one (.d (.sl (List.map eTStep a1)))),(2,.one (.ptr (1,0) 0)),(5,.one (.own (5,0) ak.length)),(6,.one (.d (.int .i64 ae)))] [((1,0),some (.box 32 (cTGraph a0))),((5,0),some (.row 3 1 (dat (List.map eI ak))))] ac wd) ?_ ?_
   ·
    refine wp_block ?_
    obtain ⟨al,am,an,ao,ap,aj⟩ := aB aj
    obtain ⟨aq,ar,aj⟩ := oB aj
    have au := L_ref17_Where_ok ar
    refine ds 69 [factE 67 au] [1,2,5,6,7] [(1,0),(5,0)] h fun ac wd h => ?_
    refine qs 71 [] [1,2,5,6,7,24] [(1,0),(5,0)] h fun ac wd h => ?_
    rcases i2 aj with ⟨av,aj⟩ | ⟨av,aj⟩
    ·
     refine kT h ?_
     obtain ⟨aw,ax,ay,az,aA,aj⟩ := aB aj
     refine qe [] [1,2,5,6] [(1,0),(5,0)] h fun ac wd h => ?_
     injection aj with aj; subst aj
     exact ⟨(af.set aq.toNat (IntKind.wrap .i64 (aw + 1))),rfl,h.z⟩
    ·
     refine kF h ?_
     refine wp_skip ?_
     injection aj with aj; subst aj
     exact ⟨af,rfl,h.z⟩
   ·
    rintro ac wd ⟨ak,rfl,h⟩
    (try dsimp only at ag)
    refine qe [] [1,2,5,6] [(1,0),(5,0)] h fun ac wd h => ?_
    exact ⟨nf,Nat.lt_succ_self nf,(IntKind.wrap .i64 (ae + 1)),ak,ag,h.z⟩
  ·
   refine kF h ?_
   refine wp_exit ?_
   change Code.wp Try.prog _ _ _ _
   refine qs 64 [] [4] [(5,0)] h fun ac wd h => ?_
   refine wp_ret ?_
   have h := h.sw (1,0) (5,0) 64
   injection ag with ag
   subst ag
   exact rO h [.tmp 4] [(1,0)]
theorem L_ref17_Counts_ok {a0 : TGraph} {a1 : (List TStep)} {r : (List Int)} (hD : L_ref17_Counts a0 a1 = some r) :
  CallH Try.prog 41 [.agg (cTGraph a0),.one (.d (.sl (List.map eTStep a1)))] []
   (.one (.d (.sl (List.map eI r)))) [] :=
 (L_ref17_Counts_own hD).fr

theorem L_plain_Run_own {a0 : TApp} {a1 : TConf} {a2 : (List TStep)} {r : TConf × Int × Int} (hD : L_plain_Run a0 a1 a2 = some r) :
  CallH Try.prog 47 [.agg (cTApp a0),.agg (cTConf a1),.one (.d (.sl (List.map eTStep a2)))] []
   (.tup [.inl [.own (1,0) r.1.States.length,.own (1,1) r.1.Links.length,.own (1,2) r.1.Sent.length],.inr (.d (.int .i64 r.2.1)),.inr (.d (.int .i64 r.2.2))]) [((1,0),some (.row 3 1 (dat (List.map eI r.1.States)))),((1,1),some (.row 170 1 (openRows cols_170 (List.map (eL eTMsg) r.1.Links)))),((1,2),some (.row 3 1 (dat (List.map eI r.1.Sent))))] := by
 unfold L_plain_Run at hD
 refine rc Try.func47 rfl Try.ntmps47 fun S Φ P0 wb ac h => ?_
 refine qs 6 [] [2,3,4,6] [(1,0),(2,0),(3,0)] h fun ac wd h => ?_
 obtain ⟨aa,ab,hD⟩ := oB hD
 have ad := ((L_plain_own_own ab).cls 7).z
 refine qs 9 [factO ad] [2,3,4,6] [(1,0),(2,0),(3,0),(7,0),(7,1),(7,2)] h fun ac wd h => ?_
 refine wp_seq ?_
 refine qs 12 [] [2,3,4,6,15,16,17] [(1,0),(2,0),(3,0),(7,0),(7,1),(7,2)] h fun ac wd h => ?_
 refine wp_block ?_
 refine r_while (fun nf ac wd => ∃ (ae : Int) (af : List Int) (ag : List (List TMsg)) (ah : List Int),L_plain_Run_l1 a0 a2 nf ae af ag ah = some r ∧ SL ⟨wb,S,Φ,P0⟩ 39 58 [(2,.one (.d (.sl (List.map eTStep a2)))),(3,.one (.ptr (1,0) 0)),(4,.one (.ptr (2,0) 0)),(6,.one (.ptr (3,0) 0)),(15,.one (.d (.sl (List.map eTStep a2)))),(16,.one (.d (.int .i64 (a2.length : Int)))),(17,.one (.d (.int .i64 ae)))] [((1,0),some (.box 53 (cTApp a0))),((2,0),some (.box 104 [.own (7,0) af.length,.own (7,1) ag.length,.own (7,2) ah.length])),((3,0),some (.box 104 [.nil,.nil,.nil])),((7,0),some (.row 3 1 (dat (List.map eI af)))),((7,1),some (.row 170 1 (openRows cols_170 (List.map (eL eTMsg) ag)))),((7,2),some (.row 3 1 (dat (List.map eI ah))))] ac wd) (((a2.length : Int) - 0).toNat + 1) ⟨0,aa.States,aa.Links,aa.Sent,hD,h.z⟩ (fun nf ac wd hJ => ?_)
 obtain ⟨ae,af,ag,ah,ai,h⟩ := hJ
 cases nf with
 | zero => rw [L_plain_Run_l1] at ai; cases ai
 | succ nf =>
  rw [L_plain_Run_l1] at ai
  refine qs 59 [] [2,3,4,6,15,16,17,18] [(1,0),(2,0),(3,0),(7,0),(7,1),(7,2)] h fun ac wd h => ?_
  refine wp_seq ?_
  rcases i2 ai with ⟨aj,ai⟩ | ⟨aj,ai⟩
  ·
   refine kT h ?_
   refine wp_skip ?_
   change Code.wp Try.prog _ _ _ _
   refine wp_seq ?_
   refine wp_block ?_
   obtain ⟨ak,al,am,an,ao,ai⟩ := aB ai
   refine qs 65 [] [2,3,4,6,9,10,15,16,17] [(1,0),(2,0),(3,0),(7,0),(7,1),(7,2),(62,0)] h fun ac wd h => ?_
   obtain ⟨ap,aq,ai⟩ := oB ai
   have ar := ((L_plain_Apply_own aq).cls 68).z
   refine qs 75 [factO ar] [2,3,4,6,9,11,12,15,16,17] [(1,0),(2,0),(3,0),(7,0),(7,1),(7,2),(68,0),(68,1),(68,2),(72,0)] h fun ac wd h => ?_
   refine wp_seq ?_
   refine qs 77 [] [2,3,4,6,9,11,12,15,16,17,30] [(1,0),(2,0),(3,0),(7,0),(7,1),(7,2),(68,0),(68,1),(68,2),(72,0)] h fun ac wd h => ?_
   rcases i2e ai with ⟨au,ai⟩ | ⟨au,ai⟩
   ·
    refine kF h ?_
    refine wp_skip ?_
    change Code.wp Try.prog _ _ _ _
    refine qe [] [2,3,4,6,15,16,17] [(1,0),(2,0),(3,0),(68,0),(68,1),(68,2)] h fun ac wd h => ?_
    change Code.wp Try.prog _ _ _ _
    refine qe [] [2,3,4,6,15,16,17] [(1,0),(2,0),(3,0),(68,0),(68,1),(68,2)] h fun ac wd h => ?_
    have h := h.sw (7,0) (68,0) 81
    have h := h.sw (7,1) (68,1) 81
    have h := h.sw (7,2) (68,2) 81
    exact ⟨nf,Nat.lt_succ_self nf,(IntKind.wrap .i64 (ae + 1)),ap.1.States,ap.1.Links,ap.1.Sent,ai,h.z⟩
   ·
    refine kT h ?_
    refine qs 83 [] [6,7,8] [(3,0),(7,0),(7,1),(7,2)] h fun ac wd h => ?_
    refine wp_ret ?_
    have h := h.sw (1,0) (7,0) 83
    have h := h.sw (1,1) (7,1) 83
    have h := h.sw (1,2) (7,2) 83
    injection ai with ai
    subst ai
    exact rO h [.cell 6 104,.tmp 7,.tmp 8] [(1,0),(1,1),(1,2)]
  ·
   refine kF h ?_
   refine wp_exit ?_
   change Code.wp Try.prog _ _ _ _
   refine qs 65 [] [6,7,8] [(3,0),(7,0),(7,1),(7,2)] h fun ac wd h => ?_
   refine wp_ret ?_
   have h := h.sw (1,0) (7,0) 65
   have h := h.sw (1,1) (7,1) 65
   have h := h.sw (1,2) (7,2) 65
   injection ai with ai
   subst ai
   exact rO h [.cell 6 104,.tmp 7,.tmp 8] [(1,0),(1,1),(1,2)]
theorem L_plain_Run_ok {a0 : TApp} {a1 : TConf} {a2 : (List TStep)} {r : TConf × Int × Int} (hD : L_plain_Run a0 a1 a2 = some r) :
  CallH Try.prog 47 [.agg (cTApp a0),.agg (cTConf a1),.one (.d (.sl (List.map eTStep a2)))] []
   (.tup [.inl [.d (.sl (List.map eI r.1.States)),.d (.sl (List.map (eL eTMsg) r.1.Links)),.d (.sl (List.map eI r.1.Sent))],.inr (.d (.int .i64 r.2.1)),.inr (.d (.int .i64 r.2.2))]) [] :=
 (L_plain_Run_own hD).fr

end Go.Proofs.Ytabbejabdkkaiaa
