/- Functions as typed ones,and that the program's functions answer as these do. No condition. -/
import Derived.Test.YtabbejabdkkaiaaGb2
import Derived.Test.YtabbejabdkkaiaaGb8
import Derived.Test.YtabbejabdkkaiaaGdCutSends
set_option linter.unusedSimpArgs false
set_option linter.unusedVariables false
set_option maxRecDepth 20000
set_option maxHeartbeats 4000000
namespace Go.Proofs.Ytabbejabdkkaiaa
open Go.RowKit

theorem L_law17_CutSends_ok {a0 : TApp} {a1 : (List TStep)} {a2 : A2u8} {r : Bool} (hD : L_law17_CutSends a0 a1 a2 = some r) :
  CallH Try.prog 11 [.agg (cTApp a0),.one (.d (.sl (List.map eTStep a1))),.agg (cA2u8 a2)] []
   (.one (.d (.bool r))) [] := by
 unfold L_law17_CutSends at hD
 refine rc Try.func11 rfl Try.ntmps11 fun S Φ P0 wb ac h => ?_
 refine qs 4 [] [1,3,5] [(1,0),(2,0)] h fun ac wd h => ?_
 obtain ⟨aa,ab,hD⟩ := oB hD
 have ad := L_law05_Cut_ok ab
 refine qs 7 [factE 5 ad] [1,3,5] [(1,0),(2,0)] h fun ac wd h => ?_
 obtain ⟨ae,af,hD⟩ := oB hD
 have ag := L_law05_App_ok af
 refine qs 11 [factE 8 ag] [1,3,5,7] [(1,0),(2,0),(9,0)] h fun ac wd h => ?_
 obtain ⟨ah,ai,hD⟩ := oB hD
 have aj := L_ref05_Start_ok ai
 refine qs 15 [factE 12 aj] [1,3,5,7,8] [(1,0),(2,0),(9,0),(13,0)] h fun ac wd h => ?_
 refine wp_seq ?_
 obtain ⟨ak,al,hD⟩ := oB hD
 have am := L_ref05_Right_ok al
 refine qs 19 [factE 17 am] [1,3,5,7,8,31] [(1,0),(2,0),(9,0),(13,0)] h fun ac wd h => ?_
 rcases i2b hD with ⟨an,hD⟩ | ⟨an,hD⟩
 ·
  refine kF h ?_
  refine wp_skip ?_
  change Code.wp Try.prog _ _ _ _
  refine qs 28 [] [1,3,5,7,9] [(1,0),(2,0),(9,0),(26,0)] h fun ac wd h => ?_
  obtain ⟨ao,ap,hD⟩ := oB hD
  have aq := L_law17_doable_ok ap
  refine qs 33 [factE 31 aq] [1,3,5,7,9] [(1,0),(2,0),(9,0),(26,0)] h fun ac wd h => ?_
  refine wp_seq ?_
  refine qs 34 [] [1,3,5,7,9,10] [(1,0),(2,0),(9,0),(26,0)] h fun ac wd h => ?_
  obtain ⟨ar,au,hD⟩ := Option.bind_eq_some_iff.1 hD
  refine r_meet (fun ac wd => (.inl ()) = ar ∧ SL ⟨wb,S,Φ,P0⟩ 169 520 [] [] ac wd) ?_ ?_
  ·
   refine wp_block ?_
   refine r_while (fun nf ac wd => ∃ (av : Int),L_law17_CutSends_l1 a2 aa ae ah ao nf av = some ar ∧ SL ⟨wb,S,Φ,P0⟩ 169 516 [(1,.one (.d (.sl (List.map eTStep ao)))),(3,.one (.ptr (1,0) 0)),(5,.one (.ptr (2,0) 0)),(7,.one (.ptr (9,0) 0)),(9,.one (.ptr (26,0) 0)),(10,.one (.d (.int .i64 av)))] [((1,0),some (.box 53 [.d (.int .i64 aa.G.N),.d (.sl (List.map eA2I aa.G.Links)),.d (.sl (List.map eTNode aa.T)),.d (.bool aa.Fifo)])),((2,0),some (.box 123 (cA2u8 a2))),((9,0),some (.box 69 [.d (.int .i64 ae.G.N),.d (.sl (List.map eA2I ae.G.Links)),.d (.sl (List.map eTNode ae.T)),.d (.bool ae.Fifo)])),((26,0),some (.box 104 [.d (.sl (List.map eI ah.States)),.d (.sl (List.map (eL eTMsg) ah.Links)),.d (.sl (List.map eI ah.Sent))]))] ac wd) (((ao.length : Int) - 0).toNat + 1) ⟨0,au,h.z⟩ (fun nf ac wd hJ => ?_)
   obtain ⟨av,aw,h⟩ := hJ
   cases nf with
   | zero => rw [L_law17_CutSends_l1] at aw; cases aw
   | succ nf =>
    rw [L_law17_CutSends_l1] at aw
    refine wp_seq ?_
    refine qs 520 [] [1,3,5,7,9,10,47] [(1,0),(2,0),(9,0),(26,0)] h fun ac wd h => ?_
    rcases i2 aw with ⟨ax,aw⟩ | ⟨ax,aw⟩
    ·
     refine kT h ?_
     refine wp_skip ?_
     change Code.wp Try.prog _ _ _ _
     obtain ⟨ay,az,aw⟩ := Option.bind_eq_some_iff.1 aw
     refine r_seqJ (fun ac wd => (.inl ()) = ay ∧ SL ⟨wb,S,Φ,P0⟩ 169 754 [(1,.one (.d (.sl (List.map eTStep ao)))),(3,.one (.ptr (1,0) 0)),(5,.one (.ptr (2,0) 0)),(7,.one (.ptr (9,0) 0)),(9,.one (.ptr (26,0) 0)),(10,.one (.d (.int .i64 av)))] [((1,0),some (.box 53 [.d (.int .i64 aa.G.N),.d (.sl (List.map eA2I aa.G.Links)),.d (.sl (List.map eTNode aa.T)),.d (.bool aa.Fifo)])),((2,0),some (.box 123 (cA2u8 a2))),((9,0),some (.box 69 [.d (.int .i64 ae.G.N),.d (.sl (List.map eA2I ae.G.Links)),.d (.sl (List.map eTNode ae.T)),.d (.bool ae.Fifo)])),((26,0),some (.box 104 [.d (.sl (List.map eI ah.States)),.d (.sl (List.map (eL eTMsg) ah.Links)),.d (.sl (List.map eI ah.Sent))]))] ac wd) ?_ ?_
     ·
      refine wp_block ?_
      refine wp_seq ?_
      obtain ⟨aA,aC,aD,aE,aF,az⟩ := aB az
      refine qs 526 [] [1,3,5,7,9,10,55] [(1,0),(2,0),(9,0),(26,0)] h fun ac wd h => ?_
      rcases i2e az with ⟨aG,az⟩ | ⟨aG,az⟩
      ·
       refine kF h ?_
       refine wp_skip ?_
       change Code.wp Try.prog _ _ _ _
       obtain ⟨aH,aI,aJ,aK,aL,az⟩ := aB az
       refine ds 538 [] [1,3,5,7,9,10,11] [(1,0),(2,0),(9,0),(26,0)] h fun ac wd h => ?_
       obtain ⟨aM,az⟩ := iT az
       obtain ⟨aN,az⟩ := iT az
       obtain ⟨aO,aP,az⟩ := vB az
       obtain ⟨aQ,aR,az⟩ := oB az
       obtain ⟨aS,aT,az⟩ := oB az
       have aU := L_law05_Steps_ok aR
       have aV := L_ref17_Counts_ok aT
       refine ds 547 [factE 544 aU,factE 545 aV] [1,3,5,7,9,10,11,12] [(1,0),(2,0),(9,0),(26,0)] h fun ac wd h => ?_
       obtain ⟨aW,az⟩ := iT az
       obtain ⟨aX,az⟩ := iT az
       obtain ⟨aY,aZ,az⟩ := vB az
       obtain ⟨ba,bb,az⟩ := oB az
       have bc := L_plain_Run_ok bb
       refine ds 561 [factE 552 bc] [1,3,5,7,9,10,11,12,13,15] [(1,0),(2,0),(9,0),(26,0),(557,0)] h fun ac wd h => ?_
       refine wp_seq ?_
       obtain ⟨bd,az⟩ := iTe az
       refine qsg 573 [] [none,none,none,some (some 87,false),some (some 87,false),some (some 87,false),some (some 87,false),some (some 87,false),some (some 87,false),some (some 87,false),some (some 87,false),none] [1,3,5,7,9,10,11,12,96] [(1,0),(2,0),(9,0),(26,0)] h fun ac wd h => ?_
       obtain ⟨be,az⟩ := iTe az
       refine kF h ?_
       refine wp_skip ?_
       change Code.wp Try.prog _ _ _ _
       refine qs 574 [] [1,3,5,7,9,10,11,12,16] [(1,0),(2,0),(9,0),(26,0)] h fun ac wd h => ?_
       refine wp_seq ?_
       refine qs 575 [] [1,3,5,7,9,10,11,12,16,17] [(1,0),(2,0),(9,0),(26,0)] h fun ac wd h => ?_
       obtain ⟨bf,bg,az⟩ := Option.bind_eq_some_iff.1 az
       refine r_meet (fun ac wd => ∃ (bh : Int),bh = bf ∧ SL ⟨wb,S,Φ,P0⟩ 169 725 [(1,.one (.d (.sl (List.map eTStep ao)))),(3,.one (.ptr (1,0) 0)),(5,.one (.ptr (2,0) 0)),(7,.one (.ptr (9,0) 0)),(9,.one (.ptr (26,0) 0)),(10,.one (.d (.int .i64 av))),(11,.one (.d (.int .i64 aH.a0))),(12,.one (.d (.sl (List.map eI aS)))),(16,.one (.d (.int .i64 bh)))] [((1,0),some (.box 53 [.d (.int .i64 aa.G.N),.d (.sl (List.map eA2I aa.G.Links)),.d (.sl (List.map eTNode aa.T)),.d (.bool aa.Fifo)])),((2,0),some (.box 123 (cA2u8 a2))),((9,0),some (.box 69 [.d (.int .i64 ae.G.N),.d (.sl (List.map eA2I ae.G.Links)),.d (.sl (List.map eTNode ae.T)),.d (.bool ae.Fifo)])),((26,0),some (.box 104 [.d (.sl (List.map eI ah.States)),.d (.sl (List.map (eL eTMsg) ah.Links)),.d (.sl (List.map eI ah.Sent))]))] ac wd) ?_ ?_
       ·
        refine wp_block ?_
        refine r_while (fun nf ac wd => ∃ (bi : Int) (bj : Int),L_law17_CutSends_l2 av aa ah ao aA nf bi bj = some bf ∧ SL ⟨wb,S,Φ,P0⟩ 169 722 [(1,.one (.d (.sl (List.map eTStep ao)))),(3,.one (.ptr (1,0) 0)),(5,.one (.ptr (2,0) 0)),(7,.one (.ptr (9,0) 0)),(9,.one (.ptr (26,0) 0)),(10,.one (.d (.int .i64 av))),(11,.one (.d (.int .i64 aH.a0))),(12,.one (.d (.sl (List.map eI aS)))),(16,.one (.d (.int .i64 bi))),(17,.one (.d (.int .i64 bj)))] [((1,0),some (.box 53 [.d (.int .i64 aa.G.N),.d (.sl (List.map eA2I aa.G.Links)),.d (.sl (List.map eTNode aa.T)),.d (.bool aa.Fifo)])),((2,0),some (.box 123 (cA2u8 a2))),((9,0),some (.box 69 [.d (.int .i64 ae.G.N),.d (.sl (List.map eA2I ae.G.Links)),.d (.sl (List.map eTNode ae.T)),.d (.bool ae.Fifo)])),((26,0),some (.box 104 [.d (.sl (List.map eI ah.States)),.d (.sl (List.map (eL eTMsg) ah.Links)),.d (.sl (List.map eI ah.Sent))]))] ac wd) (1000) ⟨0,0,bg,h.z⟩ (fun nf ac wd hJ => ?_)
        obtain ⟨bi,bj,bk,h⟩ := hJ
        cases nf with
        | zero => rw [L_law17_CutSends_l2] at bk; cases bk
        | succ nf =>
         rw [L_law17_CutSends_l2] at bk
         refine wp_seq ?_
         refine qs 725 [] [1,3,5,7,9,10,11,12,16,17,99] [(1,0),(2,0),(9,0),(26,0)] h fun ac wd h => ?_
         rcases i2 bk with ⟨bl,bk⟩ | ⟨bl,bk⟩
         ·
          refine kT h ?_
          refine wp_skip ?_
          change Code.wp Try.prog _ _ _ _
          obtain ⟨bm,bn,bk⟩ := Option.bind_eq_some_iff.1 bk
          refine r_seqJ (fun ac wd => ∃ (bo : Int),bo = bm ∧ SL ⟨wb,S,Φ,P0⟩ 169 768 [(1,.one (.d (.sl (List.map eTStep ao)))),(3,.one (.ptr (1,0) 0)),(5,.one (.ptr (2,0) 0)),(7,.one (.ptr (9,0) 0)),(9,.one (.ptr (26,0) 0)),(10,.one (.d (.int .i64 av))),(11,.one (.d (.int .i64 aH.a0))),(12,.one (.d (.sl (List.map eI aS)))),(16,.one (.d (.int .i64 bo))),(17,.one (.d (.int .i64 bj)))] [((1,0),some (.box 53 [.d (.int .i64 aa.G.N),.d (.sl (List.map eA2I aa.G.Links)),.d (.sl (List.map eTNode aa.T)),.d (.bool aa.Fifo)])),((2,0),some (.box 123 (cA2u8 a2))),((9,0),some (.box 69 [.d (.int .i64 ae.G.N),.d (.sl (List.map eA2I ae.G.Links)),.d (.sl (List.map eTNode ae.T)),.d (.bool ae.Fifo)])),((26,0),some (.box 104 [.d (.sl (List.map eI ah.States)),.d (.sl (List.map (eL eTMsg) ah.Links)),.d (.sl (List.map eI ah.Sent))]))] ac wd) ?_ ?_
          ·
           refine wp_block ?_
           obtain ⟨bp,bn⟩ := iT bn
           obtain ⟨bq,bn⟩ := iT bn
           obtain ⟨br,bs,bn⟩ := vB bn
           obtain ⟨bt,bu,bn⟩ := oB bn
           have bv := L_plain_Run_ok bu
           refine ds 739 [factE 730 bv] [1,3,5,7,9,10,11,12,16,17,18,20] [(1,0),(2,0),(9,0),(26,0),(735,0)] h fun ac wd h => ?_
           refine wp_seq ?_
           obtain ⟨bw,bn⟩ := iTe bn
           refine qsg 751 [] [none,none,none,some (some 114,false),some (some 114,false),some (some 114,false),some (some 114,false),some (some 114,false),some (some 114,false),some (some 114,false),some (some 114,false),none] [1,3,5,7,9,10,11,12,16,17,18,123] [(1,0),(2,0),(9,0),(26,0),(735,0)] h fun ac wd h => ?_
           obtain ⟨bx,bn⟩ := iTe bn
           refine kF h ?_
           refine wp_skip ?_
           change Code.wp Try.prog _ _ _ _
           obtain ⟨bz,bA,bB,bC,bD,bn⟩ := aB bn
           refine ds 766 [] [1,3,5,7,9,10,11,12,16,17,138] [(1,0),(2,0),(9,0),(26,0)] h fun ac wd h => ?_
           rcases i2 bn with ⟨bE,bn⟩ | ⟨bE,bn⟩
           ·
            refine kT h ?_
            refine qe [] [1,3,5,7,9,10,11,12,16,17] [(1,0),(2,0),(9,0),(26,0)] h fun ac wd h => ?_
            injection bn with bn; subst bn
            exact ⟨bj,rfl,h.z⟩
           ·
            refine kF h ?_
            refine wp_skip ?_
            injection bn with bn; subst bn
            exact ⟨bi,rfl,h.z⟩
          ·
           rintro ac wd ⟨bo,rfl,h⟩
           (try dsimp only at bk)
           refine qe [] [1,3,5,7,9,10,11,12,16,17] [(1,0),(2,0),(9,0),(26,0)] h fun ac wd h => ?_
           exact ⟨nf,Nat.lt_succ_self nf,bo,(IntKind.wrap .i64 (bj + 1)),bk,h.z⟩
         ·
          refine kF h ?_
          refine wp_exit ?_
          injection bk with bk; subst bk
          exact ⟨bi,rfl,h.z⟩
       ·
        rintro ac wd ⟨bh,rfl,h⟩
        (try dsimp only at az)
        obtain ⟨bF,az⟩ := iT az
        refine qs 729 [] [1,3,5,7,9,10,11,16,21] [(1,0),(2,0),(9,0),(26,0),(727,0)] h fun ac wd h => ?_
        obtain ⟨bG,az⟩ := iT az
        obtain ⟨bH,az⟩ := iT az
        obtain ⟨bI,bJ,az⟩ := vB az
        obtain ⟨bK,bL,az⟩ := oB az
        obtain ⟨bM,bN,az⟩ := oB az
        obtain ⟨bO,bP,bQ,bR,bS,az⟩ := aB az
        obtain ⟨bT,bU,bV,bW,bX,az⟩ := aB az
        have bY := L_law05_Steps_ok bL
        have bZ := L_ref17_Counts_ok bN
        refine ds 743 [factE 736 bY,factE 737 bZ] [1,3,5,7,9,10,21] [(1,0),(2,0),(9,0),(26,0),(727,0)] h fun ac wd h => ?_
        refine wp_seq ?_
        obtain ⟨b0,b1,az⟩ := oB az
        have b2 := L_cut_Good_ok b1
        refine qs 748 [factE 747 b2] [1,3,5,7,9,10,160] [(1,0),(2,0),(9,0),(26,0)] h fun ac wd h => ?_
        obtain ⟨b3,az⟩ := iFb az
        refine kF h ?_
        refine wp_skip ?_
        change Code.wp Try.prog _ _ _ _
        refine qs 754 [] [1,3,5,7,9,10,166] [(1,0),(2,0),(9,0),(26,0)] h fun ac wd h => ?_
        rcases i2 az with ⟨b4,az⟩ | ⟨b4,az⟩
        ·
         refine kT h ?_
         obtain ⟨b5,b6,az⟩ := oB az
         have b7 := L_law17_fixed_ok b6
         refine qs 756 [factE 754 b7] [6] [] h fun ac wd h => ?_
         refine wp_ret ?_
         injection az with az
         subst az
         (try dsimp only at aw)
         injection aw with aw
         subst aw
         (try dsimp only at hD)
         injection hD with hD
         subst hD
         exact rE h [.tmp 6]
        ·
         refine kF h ?_
         refine wp_skip ?_
         injection az with az; subst az
         exact ⟨rfl,h.z⟩
      ·
       refine kT h ?_
       refine wp_exit ?_
       injection az with az; subst az
       exact ⟨rfl,h.z⟩
     ·
      rintro ac wd ⟨rfl,h⟩
      (try dsimp only at aw)
      refine qe [] [1,3,5,7,9,10] [(1,0),(2,0),(9,0),(26,0)] h fun ac wd h => ?_
      exact ⟨nf,Nat.lt_succ_self nf,(IntKind.wrap .i64 (av + 1)),aw,h.z⟩
    ·
     refine kF h ?_
     refine wp_exit ?_
     injection aw with aw; subst aw
     exact ⟨rfl,h.z⟩
  ·
   rintro ac wd ⟨rfl,h⟩
   (try dsimp only at hD)
   obtain ⟨b8,b9,hD⟩ := oB hD
   have ca := L_law17_fixed_ok b9
   refine qs 522 [factE 520 ca] [6] [] h fun ac wd h => ?_
   refine wp_ret ?_
   injection hD with hD
   subst hD
   exact rE h [.tmp 6]
 ·
  refine kT h ?_
  obtain ⟨cb,cc,hD⟩ := oB hD
  have cd := L_law17_fixed_ok cc
  refine qs 21 [factE 19 cd] [6] [] h fun ac wd h => ?_
  refine wp_ret ?_
  injection hD with hD
  subst hD
  exact rE h [.tmp 6]

end Go.Proofs.Ytabbejabdkkaiaa
