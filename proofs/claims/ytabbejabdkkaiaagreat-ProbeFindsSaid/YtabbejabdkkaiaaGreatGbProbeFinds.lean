/- Functions as typed ones,and that the program's functions answer as these do. No condition. -/
import Derived.Test.YtabbejabdkkaiaaGreatGb7
import Derived.Test.YtabbejabdkkaiaaGreatGb9
import Derived.Test.YtabbejabdkkaiaaGreatGdProbeFinds
set_option linter.unusedSimpArgs false
set_option linter.unusedVariables false
set_option maxRecDepth 20000
set_option maxHeartbeats 4000000
namespace Go.Proofs.YtabbejabdkkaiaaGreat
open Go.RowKit

theorem L_law16_ProbeFinds_ok {a0 : TApp} {a1 : TStatic} {r : Bool} (hD : L_law16_ProbeFinds a0 a1 = some r) :
  CallH Tryz.prog 4 [.agg (cTApp a0),.agg (cTStatic a1)] []
   (.one (.d (.bool r))) [] := by
 unfold L_law16_ProbeFinds at hD
 refine rc Tryz.func4 rfl Tryz.ntmps4 fun S Φ P0 wb ac h => ?_
 refine qs 4 [] [2,3] [(1,0),(2,0)] h fun ac wd h => ?_
 obtain ⟨aa,ab,hD⟩ := oB hD
 have ad := L_law05_Cut_ok ab
 refine qs 7 [factE 5 ad] [2,3] [(1,0),(2,0)] h fun ac wd h => ?_
 refine qs 9 [] [2,3] [(1,0),(2,0)] h fun ac wd h => ?_
 obtain ⟨ae,af,hD⟩ := oB hD
 have ag := L_law05_App_ok af
 refine qs 13 [factE 10 ag] [2,3,5] [(1,0),(2,0),(11,0)] h fun ac wd h => ?_
 refine wp_seq ?_
 obtain ⟨ah,ai,hD⟩ := oB hD
 have aj := L_ref04_Right_ok ai
 refine qs 19 [factE 17 aj] [2,3,5,34] [(1,0),(2,0),(11,0)] h fun ac wd h => ?_
 rcases i2b hD with ⟨ak,hD⟩ | ⟨ak,hD⟩
 ·
  refine kF h ?_
  refine wp_skip ?_
  change Code.wp Tryz.prog _ _ _ _
  obtain ⟨al,am,hD⟩ := oB hD
  have an := ((L_ref05_Start_own am).cls 20).z
  refine qs 23 [factO an] [2,3,5,6] [(1,0),(2,0),(11,0),(20,0),(20,1),(20,2),(21,0)] h fun ac wd h => ?_
  refine wp_seq ?_
  refine qs 24 [] [2,3,5,6,7] [(1,0),(2,0),(11,0),(20,0),(20,1),(20,2),(21,0)] h fun ac wd h => ?_
  obtain ⟨ao,ap,hD⟩ := Option.bind_eq_some_iff.1 hD
  refine r_meet (fun ac wd => ∃ (aq : List Int),aq = ao ∧ SL ⟨wb,S,Φ,P0⟩ 268 104 [(2,.one (.ptr (1,0) 0)),(3,.one (.ptr (2,0) 0)),(5,.one (.ptr (11,0) 0)),(6,.one (.ptr (21,0) 0))] [((1,0),some (.box 27 [.d (.int .i64 aa.G.N),.d (.sl (List.map eA2I aa.G.Links)),.d (.sl (List.map eTNode aa.T)),.d (.bool true)])),((2,0),some (.box 73 (cTStatic a1))),((11,0),some (.box 44 (cTApp ae))),((20,0),some (.row 3 1 (dat (List.map eI aq)))),((20,1),some (.row 141 1 (openRows cols_141 (List.map (eL eTMsg) al.Links)))),((20,2),some (.row 3 1 (dat (List.map eI al.Sent)))),((21,0),some (.box 76 [.own (20,0) aq.length,.own (20,1) al.Links.length,.own (20,2) al.Sent.length]))] ac wd) ?_ ?_
  ·
   refine wp_block ?_
   refine r_while (fun nf ac wd => ∃ (ar : Int) (au : List Int),L_law16_ProbeFinds_l1 a1 aa nf ar au = some ao ∧ SL ⟨wb,S,Φ,P0⟩ 268 92 [(2,.one (.ptr (1,0) 0)),(3,.one (.ptr (2,0) 0)),(5,.one (.ptr (11,0) 0)),(6,.one (.ptr (21,0) 0)),(7,.one (.d (.int .i64 ar)))] [((1,0),some (.box 27 [.d (.int .i64 aa.G.N),.d (.sl (List.map eA2I aa.G.Links)),.d (.sl (List.map eTNode aa.T)),.d (.bool true)])),((2,0),some (.box 73 (cTStatic a1))),((11,0),some (.box 44 (cTApp ae))),((20,0),some (.row 3 1 (dat (List.map eI au)))),((20,1),some (.row 141 1 (openRows cols_141 (List.map (eL eTMsg) al.Links)))),((20,2),some (.row 3 1 (dat (List.map eI al.Sent)))),((21,0),some (.box 76 [.own (20,0) au.length,.own (20,1) al.Links.length,.own (20,2) al.Sent.length]))] ac wd) ((aa.G.N - 0).toNat + 1) ⟨0,al.States,ap,h.z⟩ (fun nf ac wd hJ => ?_)
   obtain ⟨ar,au,av,h⟩ := hJ
   cases nf with
   | zero => rw [L_law16_ProbeFinds_l1] at av; cases av
   | succ nf =>
    rw [L_law16_ProbeFinds_l1] at av
    refine wp_seq ?_
    obtain ⟨aw,ax,av⟩ := Option.bind_eq_some_iff.1 av
    refine r_seqJ (fun ac wd => ∃ (ay : Bool),ay = aw ∧ SL ⟨wb,S,Φ,P0⟩ 268 104 [(2,.one (.ptr (1,0) 0)),(3,.one (.ptr (2,0) 0)),(5,.one (.ptr (11,0) 0)),(6,.one (.ptr (21,0) 0)),(7,.one (.d (.int .i64 ar))),(49,.one (.d (.bool ay)))] [((1,0),some (.box 27 [.d (.int .i64 aa.G.N),.d (.sl (List.map eA2I aa.G.Links)),.d (.sl (List.map eTNode aa.T)),.d (.bool true)])),((2,0),some (.box 73 (cTStatic a1))),((11,0),some (.box 44 (cTApp ae))),((20,0),some (.row 3 1 (dat (List.map eI au)))),((20,1),some (.row 141 1 (openRows cols_141 (List.map (eL eTMsg) al.Links)))),((20,2),some (.row 3 1 (dat (List.map eI al.Sent)))),((21,0),some (.box 76 [.own (20,0) au.length,.own (20,1) al.Links.length,.own (20,2) al.Sent.length]))] ac wd) ?_ ?_
    ·
     rcases i2 ax with ⟨az,ax⟩ | ⟨az,ax⟩
     ·
      refine qeg [] [none,none,none,none,none,none,some (some 43,true),some (some 43,true),some (some 43,true),some (some 43,true),some (some 43,true),none] [2,3,5,6,7,49] [(1,0),(2,0),(11,0),(20,0),(20,1),(20,2),(21,0)] h fun ac wd h => ?_
      injection ax with ax; subst ax
      exact ⟨decide (ar < (a1.States.length : Int)),rfl,h.z⟩
     ·
      refine qeg [] [none,none,none,none,none,none,some (some 43,true),some (some 43,true),some (some 43,true),some (some 43,true),some (some 43,true),none] [2,3,5,6,7,49] [(1,0),(2,0),(11,0),(20,0),(20,1),(20,2),(21,0)] h fun ac wd h => ?_
      injection ax with ax; subst ax
      exact ⟨false,rfl,h.z⟩
    ·
     rintro ac wd ⟨ay,rfl,h⟩
     (try dsimp only at av)
     rcases i2b av with ⟨aA,av⟩ | ⟨aA,av⟩
     ·
      refine kT h ?_
      refine wp_skip ?_
      change Code.wp Tryz.prog _ _ _ _
      refine wp_seq ?_
      refine wp_block ?_
      obtain ⟨aC,aD,aE,aF,aG,av⟩ := aB av
      obtain ⟨aH,aI,aJ,aK,aL,av⟩ := aB av
      obtain ⟨aM,av⟩ := iT av
      obtain ⟨aO,aP,aQ,aR,aS,av⟩ := aB av
      refine de [] [2,3,5,6,7] [(1,0),(2,0),(11,0),(20,0),(20,1),(20,2),(21,0)] h fun ac wd h => ?_
      change Code.wp Tryz.prog _ _ _ _
      refine qe [] [2,3,5,6,7] [(1,0),(2,0),(11,0),(20,0),(20,1),(20,2),(21,0)] h fun ac wd h => ?_
      exact ⟨nf,Nat.lt_succ_self nf,(IntKind.wrap .i64 (ar + 1)),(au.set ar.toNat ((landK .i64 aC 255).tmod (aH.States.length : Int))),av,h.z⟩
     ·
      refine kF h ?_
      refine wp_exit ?_
      injection av with av; subst av
      exact ⟨au,rfl,h.z⟩
  ·
   rintro ac wd ⟨aq,rfl,h⟩
   (try dsimp only at hD)
   obtain ⟨aT,hD⟩ := iT hD
   obtain ⟨aU,aV,hD⟩ := oB hD
   have h := h.fz [(20,0)]
   obtain ⟨aW,hD⟩ := iT hD
   obtain ⟨aX,hD⟩ := iT hD
   obtain ⟨aY,hD⟩ := iT hD
   have aZ := L_law16_hosts_ok aV
   refine ds 122 [factE 114 aZ] [2,3,5,6,8,9,10] [(1,0),(2,0),(11,0),(20,1),(20,2),(21,0),(118,0)] h fun ac wd h => ?_
   have h := h.nilTr (118,0) (l := List.replicate aa.G.N.toNat [.nil]) (l' := List.replicate aa.G.N.toNat [.d (.sl (List.map eI []))]) (by simp only [EZ,simprocAttr, *] <;> rfl) (RowsTo.rep (RowTo.cons (.inr (.inl ⟨rfl,rfl⟩)) RowTo.nil) _)
   have h := h.sm 122 [(2,.one (.ptr (1,0) 0)),(3,.one (.ptr (2,0) 0)),(5,.one (.ptr (11,0) 0)),(6,.one (.ptr (21,0) 0)),(8,.one (.d (.int .i64 ((landK .i64 a1.Init 255).tmod aa.G.N)))),(9,.one (.d (.sl (List.map eTHost aU)))),(10,.one (.own (118,0) aa.G.N.toNat))]
    [((1,0),some (.box 27 [.d (.int .i64 aa.G.N),.d (.sl (List.map eA2I aa.G.Links)),.d (.sl (List.map eTNode aa.T)),.d (.bool true)])),((2,0),some (.box 73 (cTStatic a1))),((11,0),some (.box 44 (cTApp ae))),((20,1),some (.row 141 1 (openRows cols_141 (List.map (eL eTMsg) al.Links)))),((20,2),some (.row 3 1 (dat (List.map eI al.Sent)))),((21,0),some (.box 76 [.d (.sl (List.map eI aq)),.own (20,1) al.Links.length,.own (20,2) al.Sent.length])),((118,0),some (.row 32 1 (List.replicate aa.G.N.toNat [.d (.sl (List.map eI []))])))]
   refine wp_seq ?_
   refine qs 123 [] [2,3,5,6,8,9,10,11] [(1,0),(2,0),(11,0),(20,1),(20,2),(21,0),(118,0)] h fun ac wd h => ?_
   obtain ⟨ba,bb,hD⟩ := Option.bind_eq_some_iff.1 hD
   refine r_meet (fun ac wd => () = ba ∧ SL ⟨wb,S,Φ,P0⟩ 268 157 [(2,.one (.ptr (1,0) 0)),(3,.one (.ptr (2,0) 0)),(5,.one (.ptr (11,0) 0)),(6,.one (.ptr (21,0) 0)),(8,.one (.d (.int .i64 ((landK .i64 a1.Init 255).tmod aa.G.N)))),(9,.one (.d (.sl (List.map eTHost aU)))),(10,.one (.own (118,0) aa.G.N.toNat))] [((1,0),some (.box 27 [.d (.int .i64 aa.G.N),.d (.sl (List.map eA2I aa.G.Links)),.d (.sl (List.map eTNode aa.T)),.d (.bool true)])),((2,0),some (.box 73 (cTStatic a1))),((11,0),some (.box 44 (cTApp ae))),((20,1),some (.row 141 1 (openRows cols_141 (List.map (eL eTMsg) al.Links)))),((20,2),some (.row 3 1 (dat (List.map eI al.Sent)))),((21,0),some (.box 76 [.d (.sl (List.map eI aq)),.own (20,1) al.Links.length,.own (20,2) al.Sent.length])),((118,0),some (.row 32 1 (dat (List.map (eL eI) (List.replicate aa.G.N.toNat [])))))] ac wd) ?_ ?_
   ·
    refine wp_block ?_
    refine r_while (fun nf ac wd => ∃ (bc : Int),L_law16_ProbeFinds_l2 ae aU nf bc = some ba ∧ SL ⟨wb,S,Φ,P0⟩ 268 153 [(2,.one (.ptr (1,0) 0)),(3,.one (.ptr (2,0) 0)),(5,.one (.ptr (11,0) 0)),(6,.one (.ptr (21,0) 0)),(8,.one (.d (.int .i64 ((landK .i64 a1.Init 255).tmod aa.G.N)))),(9,.one (.d (.sl (List.map eTHost aU)))),(10,.one (.own (118,0) aa.G.N.toNat)),(11,.one (.d (.int .i64 bc)))] [((1,0),some (.box 27 [.d (.int .i64 aa.G.N),.d (.sl (List.map eA2I aa.G.Links)),.d (.sl (List.map eTNode aa.T)),.d (.bool true)])),((2,0),some (.box 73 (cTStatic a1))),((11,0),some (.box 44 (cTApp ae))),((20,1),some (.row 141 1 (openRows cols_141 (List.map (eL eTMsg) al.Links)))),((20,2),some (.row 3 1 (dat (List.map eI al.Sent)))),((21,0),some (.box 76 [.d (.sl (List.map eI aq)),.own (20,1) al.Links.length,.own (20,2) al.Sent.length])),((118,0),some (.row 32 1 (dat (List.map (eL eI) (List.replicate aa.G.N.toNat [])))))] ac wd) (((aU.length : Int) - 0).toNat + 1) ⟨0,bb,h.z⟩ (fun nf ac wd hJ => ?_)
    obtain ⟨bc,bd,h⟩ := hJ
    cases nf with
    | zero => rw [L_law16_ProbeFinds_l2] at bd; cases bd
    | succ nf =>
     rw [L_law16_ProbeFinds_l2] at bd
     refine wp_seq ?_
     refine qs 157 [] [2,3,5,6,8,9,10,11,88] [(1,0),(2,0),(11,0),(20,1),(20,2),(21,0),(118,0)] h fun ac wd h => ?_
     rcases i2 bd with ⟨be,bd⟩ | ⟨be,bd⟩
     ·
      refine kT h ?_
      refine wp_skip ?_
      change Code.wp Tryz.prog _ _ _ _
      refine wp_seq ?_
      refine wp_block ?_
      obtain ⟨bf,bg,bh,bi,bj,bd⟩ := aB bd
      obtain ⟨bk,bl,bd⟩ := oB bd
      obtain ⟨bm,bn,bd⟩ := oB bd
      have bo := L_law09_Ref_ok bl
      have bp := L_ref09_Right_ok bn
      refine ds 165 [factE 162 bo,factE 163 bp] [2,3,5,6,8,9,10,11,98] [(1,0),(2,0),(11,0),(20,1),(20,2),(21,0),(118,0)] h fun ac wd h => ?_
      obtain ⟨bq,bd⟩ := iT bd
      refine kF h ?_
      refine wp_skip ?_
      change Code.wp Tryz.prog _ _ _ _
      refine qe [] [2,3,5,6,8,9,10,11] [(1,0),(2,0),(11,0),(20,1),(20,2),(21,0),(118,0)] h fun ac wd h => ?_
      exact ⟨nf,Nat.lt_succ_self nf,(IntKind.wrap .i64 (bc + 1)),bd,h.z⟩
     ·
      refine kF h ?_
      refine wp_exit ?_
      injection bd with bd; subst bd
      exact ⟨rfl,h.z⟩
   ·
    rintro ac wd ⟨rfl,h⟩
    (try dsimp only at hD)
    obtain ⟨br,bs,bt,bu,bv,hD⟩ := aB hD
    obtain ⟨bw,bx,hD⟩ := oB hD
    have bz := L_probe_Start_ok bx
    refine ds 168 [factE 162 bz] [2,3,5,6,8,9,10,12,13] [(1,0),(2,0),(11,0),(20,1),(20,2),(21,0),(118,0)] h fun ac wd h => ?_
    refine wp_seq ?_
    obtain ⟨bA,bB,hD⟩ := Option.bind_eq_some_iff.1 hD
    refine r_seqJ (fun ac wd => ∃ (bC : Bool),bC = bA ∧ SL ⟨wb,S,Φ,P0⟩ 268 190 [(2,.one (.ptr (1,0) 0)),(3,.one (.ptr (2,0) 0)),(5,.one (.ptr (11,0) 0)),(6,.one (.ptr (21,0) 0)),(8,.one (.d (.int .i64 ((landK .i64 a1.Init 255).tmod aa.G.N)))),(9,.one (.d (.sl (List.map eTHost aU)))),(10,.one (.own (118,0) aa.G.N.toNat)),(12,.one (.d (.sl (List.map eTOut bw.1)))),(129,.one (.d (.bool bC)))] [((1,0),some (.box 27 [.d (.int .i64 aa.G.N),.d (.sl (List.map eA2I aa.G.Links)),.d (.sl (List.map eTNode aa.T)),.d (.bool true)])),((2,0),some (.box 73 (cTStatic a1))),((11,0),some (.box 44 (cTApp ae))),((20,1),some (.row 141 1 (openRows cols_141 (List.map (eL eTMsg) al.Links)))),((20,2),some (.row 3 1 (dat (List.map eI al.Sent)))),((21,0),some (.box 76 [.d (.sl (List.map eI aq)),.own (20,1) al.Links.length,.own (20,2) al.Sent.length])),((118,0),some (.row 32 1 (dat (List.map (eL eI) (List.replicate aa.G.N.toNat [])))))] ac wd) ?_ ?_
    ·
     obtain ⟨bD,bE,bF,bG,bH,bB⟩ := aB bB
     obtain ⟨bI,bJ,bB⟩ := oB bB
     rcases i2e bB with ⟨bK,bB⟩ | ⟨bK,bB⟩
     ·
      rcases i2e bB with ⟨bL,bB⟩ | ⟨bL,bB⟩
      ·
       rcases i2e bB with ⟨bM,bB⟩ | ⟨bM,bB⟩
       ·
        have bN := L_ref04_At_ok bJ
        refine deg [factE 178 bN] [none,none,none,none,none,none,none,none,none,none,none,none,none,none,none,some (some 122,false),some (some 122,false),some (some 122,false),some (some 125,true),some (some 125,true),some (some 122,false),none] [2,3,5,6,8,9,10,12,129] [(1,0),(2,0),(11,0),(20,1),(20,2),(21,0),(118,0)] h fun ac wd h => ?_
        injection bB with bB; subst bB
        exact ⟨false,rfl,h.z⟩
       ·
        have bN := L_ref04_At_ok bJ
        refine deg [factE 178 bN] [none,none,none,none,none,none,none,none,none,none,none,none,none,none,none,some (some 122,false),some (some 122,false),some (some 122,false),some (some 125,true),some (some 125,true),some (some 122,false),none] [2,3,5,6,8,9,10,12,129] [(1,0),(2,0),(11,0),(20,1),(20,2),(21,0),(118,0)] h fun ac wd h => ?_
        injection bB with bB; subst bB
        exact ⟨true,rfl,h.z⟩
      ·
       rcases i2e bB with ⟨bO,bB⟩ | ⟨bO,bB⟩
       ·
        have bN := L_ref04_At_ok bJ
        refine deg [factE 178 bN] [none,none,none,none,none,none,none,none,none,none,none,none,none,none,none,some (some 122,false),some (some 122,false),some (some 122,false),some (some 125,true),some (some 125,true),some (some 122,false),none] [2,3,5,6,8,9,10,12,129] [(1,0),(2,0),(11,0),(20,1),(20,2),(21,0),(118,0)] h fun ac wd h => ?_
        injection bB with bB; subst bB
        exact ⟨!(decide (bw.2 = 8)),rfl,h.z⟩
       ·
        have bN := L_ref04_At_ok bJ
        refine deg [factE 178 bN] [none,none,none,none,none,none,none,none,none,none,none,none,none,none,none,some (some 122,false),some (some 122,false),some (some 122,false),some (some 125,true),some (some 125,true),some (some 122,false),none] [2,3,5,6,8,9,10,12,129] [(1,0),(2,0),(11,0),(20,1),(20,2),(21,0),(118,0)] h fun ac wd h => ?_
        injection bB with bB; subst bB
        exact ⟨true,rfl,h.z⟩
     ·
      have bN := L_ref04_At_ok bJ
      refine deg [factE 178 bN] [none,none,none,none,none,none,none,none,none,none,none,none,none,none,none,some (some 122,false),some (some 122,false),some (some 122,false),some (some 125,true),some (some 125,true),some (some 122,false),none] [2,3,5,6,8,9,10,12,129] [(1,0),(2,0),(11,0),(20,1),(20,2),(21,0),(118,0)] h fun ac wd h => ?_
      injection bB with bB; subst bB
      exact ⟨true,rfl,h.z⟩
    ·
     rintro ac wd ⟨bC,rfl,h⟩
     (try dsimp only at hD)
     obtain ⟨bP,hD⟩ := iFb hD
     refine kF h ?_
     refine wp_skip ?_
     change Code.wp Tryz.prog _ _ _ _
     refine qs 194 [] [2,3,5,6,8,9,10,12,14,15] [(1,0),(2,0),(11,0),(20,1),(20,2),(21,0),(118,0)] h fun ac wd h => ?_
     refine wp_seq ?_
     refine qs 195 [] [2,3,5,6,8,9,10,12,14,15,16] [(1,0),(2,0),(11,0),(20,1),(20,2),(21,0),(118,0)] h fun ac wd h => ?_
     obtain ⟨bQ,bR,hD⟩ := Option.bind_eq_some_iff.1 hD
     refine r_meet (fun ac wd => ∃ (bS : Int) (bT : Bool),(bS,bT) = bQ ∧ SL ⟨wb,S,Φ,P0⟩ 268 466 [(5,.one (.ptr (11,0) 0)),(6,.one (.ptr (21,0) 0)),(8,.one (.d (.int .i64 ((landK .i64 a1.Init 255).tmod aa.G.N)))),(14,.one (.d (.int .i64 bS))),(15,.one (.d (.bool bT)))] [((11,0),some (.box 44 (cTApp ae))),((20,1),some (.row 141 1 (openRows cols_141 (List.map (eL eTMsg) al.Links)))),((20,2),some (.row 3 1 (dat (List.map eI al.Sent)))),((21,0),some (.box 76 [.d (.sl (List.map eI aq)),.own (20,1) al.Links.length,.own (20,2) al.Sent.length]))] ac wd) ?_ ?_
     ·
      refine wp_block ?_
      refine r_while (fun nf ac wd => ∃ (bU : List TOut) (bV : Int) (bW : Bool) (bX : Int) (bY : List (List Int)),L_law16_ProbeFinds_l3 a1 aq aa ae al aU nf bU bV bW bX bY = some bQ ∧ SL ⟨wb,S,Φ,P0⟩ 268 463 [(2,.one (.ptr (1,0) 0)),(3,.one (.ptr (2,0) 0)),(5,.one (.ptr (11,0) 0)),(6,.one (.ptr (21,0) 0)),(8,.one (.d (.int .i64 ((landK .i64 a1.Init 255).tmod aa.G.N)))),(9,.one (.d (.sl (List.map eTHost aU)))),(10,.one (.own (118,0) bY.length)),(12,.one (.d (.sl (List.map eTOut bU)))),(14,.one (.d (.int .i64 bV))),(15,.one (.d (.bool bW))),(16,.one (.d (.int .i64 bX)))] [((1,0),some (.box 27 [.d (.int .i64 aa.G.N),.d (.sl (List.map eA2I aa.G.Links)),.d (.sl (List.map eTNode aa.T)),.d (.bool true)])),((2,0),some (.box 73 (cTStatic a1))),((11,0),some (.box 44 (cTApp ae))),((20,1),some (.row 141 1 (openRows cols_141 (List.map (eL eTMsg) al.Links)))),((20,2),some (.row 3 1 (dat (List.map eI al.Sent)))),((21,0),some (.box 76 [.d (.sl (List.map eI aq)),.own (20,1) al.Links.length,.own (20,2) al.Sent.length])),((118,0),some (.row 32 1 (dat (List.map (eL eI) bY))))] ac wd) (1000) ⟨bw.1,(bw.1.length : Int),false,0,((List.replicate aa.G.N.toNat []) : List (List Int)),bR,h.z⟩ (fun nf ac wd hJ => ?_)
      obtain ⟨bU,bV,bW,bX,bY,bZ,h⟩ := hJ
      cases nf with
      | zero => rw [L_law16_ProbeFinds_l3] at bZ; cases bZ
      | succ nf =>
       rw [L_law16_ProbeFinds_l3] at bZ
       refine wp_seq ?_
       refine qs 466 [] [2,3,5,6,8,9,10,12,14,15,16,134] [(1,0),(2,0),(11,0),(20,1),(20,2),(21,0),(118,0)] h fun ac wd h => ?_
       rcases i2 bZ with ⟨b0,bZ⟩ | ⟨b0,bZ⟩
       ·
        refine kT h ?_
        refine wp_skip ?_
        change Code.wp Tryz.prog _ _ _ _
        obtain ⟨b1,b2,bZ⟩ := Option.bind_eq_some_iff.1 bZ
        refine r_seqJ (fun ac wd => ∃ (b3 : Int) (b4 : Bool) (b5 : List (List Int)) (b6 : List TOut),(b3,b4,b5,b6) = b1 ∧ SL ⟨wb,S,Φ,P0⟩ 268 594 [(2,.one (.ptr (1,0) 0)),(3,.one (.ptr (2,0) 0)),(5,.one (.ptr (11,0) 0)),(6,.one (.ptr (21,0) 0)),(8,.one (.d (.int .i64 ((landK .i64 a1.Init 255).tmod aa.G.N)))),(9,.one (.d (.sl (List.map eTHost aU)))),(10,.one (.own (118,0) b5.length)),(12,.one (.own (566,0) b6.length)),(14,.one (.d (.int .i64 b3))),(15,.one (.d (.bool b4))),(16,.one (.d (.int .i64 bX)))] [((1,0),some (.box 27 [.d (.int .i64 aa.G.N),.d (.sl (List.map eA2I aa.G.Links)),.d (.sl (List.map eTNode aa.T)),.d (.bool true)])),((2,0),some (.box 73 (cTStatic a1))),((11,0),some (.box 44 (cTApp ae))),((20,1),some (.row 141 1 (openRows cols_141 (List.map (eL eTMsg) al.Links)))),((20,2),some (.row 3 1 (dat (List.map eI al.Sent)))),((21,0),some (.box 76 [.d (.sl (List.map eI aq)),.own (20,1) al.Links.length,.own (20,2) al.Sent.length])),((118,0),some (.row 32 1 (dat (List.map (eL eI) b5)))),((566,0),some (.row 90 10 (dat (List.map eTOut b6))))] ac wd) ?_ ?_
        ·
         refine wp_block ?_
         refine qs 467 [] [2,3,5,6,8,9,10,12,14,15,16,17] [(1,0),(2,0),(11,0),(20,1),(20,2),(21,0),(118,0)] h fun ac wd h => ?_
         refine wp_seq ?_
         refine qs 472 [] [2,3,5,6,8,9,10,12,14,15,16,17,141] [(1,0),(2,0),(11,0),(20,1),(20,2),(21,0),(118,0)] h fun ac wd h => ?_
         obtain ⟨b7,b8,b2⟩ := Option.bind_eq_some_iff.1 b2
         refine r_meet (fun ac wd => ∃ (b9 : Int),b9 = b7 ∧ SL ⟨wb,S,Φ,P0⟩ 268 482 [(2,.one (.ptr (1,0) 0)),(3,.one (.ptr (2,0) 0)),(5,.one (.ptr (11,0) 0)),(6,.one (.ptr (21,0) 0)),(8,.one (.d (.int .i64 ((landK .i64 a1.Init 255).tmod aa.G.N)))),(9,.one (.d (.sl (List.map eTHost aU)))),(10,.one (.own (118,0) bY.length)),(12,.one (.d (.sl (List.map eTOut bU)))),(14,.one (.d (.int .i64 bV))),(15,.one (.d (.bool bW))),(16,.one (.d (.int .i64 bX))),(17,.one (.d (.int .i64 b9)))] [((1,0),some (.box 27 [.d (.int .i64 aa.G.N),.d (.sl (List.map eA2I aa.G.Links)),.d (.sl (List.map eTNode aa.T)),.d (.bool true)])),((2,0),some (.box 73 (cTStatic a1))),((11,0),some (.box 44 (cTApp ae))),((20,1),some (.row 141 1 (openRows cols_141 (List.map (eL eTMsg) al.Links)))),((20,2),some (.row 3 1 (dat (List.map eI al.Sent)))),((21,0),some (.box 76 [.d (.sl (List.map eI aq)),.own (20,1) al.Links.length,.own (20,2) al.Sent.length])),((118,0),some (.row 32 1 (dat (List.map (eL eI) bY))))] ac wd) ?_ ?_
         ·
          rcases i2 b8 with ⟨ca,b8⟩ | ⟨ca,b8⟩
          ·
           refine kT h ?_
           obtain ⟨cb,cc,cd,ce,cf,b8⟩ := aB b8
           obtain ⟨cg,b8⟩ := iT b8
           refine qe [] [2,3,5,6,8,9,10,12,14,15,16,17] [(1,0),(2,0),(11,0),(20,1),(20,2),(21,0),(118,0)] h fun ac wd h => ?_
           injection b8 with b8; subst b8
           exact ⟨((IntKind.wrap .i64 cb).tmod (bU.length : Int)),rfl,h.z⟩
          ·
           refine kF h ?_
           refine wp_skip ?_
           injection b8 with b8; subst b8
           exact ⟨0,rfl,h.z⟩
         ·
          rintro ac wd ⟨b9,rfl,h⟩
          (try dsimp only at b2)
          obtain ⟨ch,ci,cj,ck,cl,b2⟩ := aB b2
          refine qs 488 [] [2,3,5,6,8,9,10,12,14,15,16,17,18] [(1,0),(2,0),(11,0),(20,1),(20,2),(21,0),(118,0),(486,0)] h fun ac wd h => ?_
          obtain ⟨cm,b2⟩ := iT b2
          obtain ⟨cn,b2⟩ := iT b2
          obtain ⟨co,cp,b2⟩ := vB b2
          obtain ⟨cq,b2⟩ := iT b2
          refine qs 494 [] [2,3,5,6,8,9,10,12,14,15,16,17,18,19] [(1,0),(2,0),(11,0),(20,1),(20,2),(21,0),(118,0),(486,0),(492,0)] h fun ac wd h => ?_
          obtain ⟨cr,b2⟩ := iT b2
          obtain ⟨cs,b2⟩ := iT b2
          obtain ⟨ct,cu,b2⟩ := vB b2
          obtain ⟨cv,b2⟩ := iT b2
          refine qs 501 [] [2,3,5,6,8,9,10,14,15,16,18,19] [(1,0),(2,0),(11,0),(20,1),(20,2),(21,0),(118,0),(486,0),(499,0)] h fun ac wd h => ?_
          refine wp_seq ?_
          obtain ⟨cw,b2⟩ := iF b2
          obtain ⟨cx,b2⟩ := iF b2
          obtain ⟨cy,b2⟩ := iF b2
          obtain ⟨cz,cA,b2⟩ := oB b2
          obtain ⟨cB,cC,b2⟩ := oB b2
          have cD := L_law07_Ref_ok cA
          have cE := L_ref07_Right_ok cC
          refine qsg 524 [factE 520 cD,factE 521 cE] [none,none,none,none,some (some 169,false),some (some 169,false),some (some 169,false),some (some 169,false),some (some 169,false),some (some 169,false),some (some 169,false),none,none,some (some 178,false),some (some 178,false),none,none,some (some 182,false),some (some 182,false),some (some 182,false),some (some 182,false),some (some 182,false),none] [2,3,5,6,8,9,10,14,15,16,18,19,188] [(1,0),(2,0),(11,0),(20,1),(20,2),(21,0),(118,0),(486,0),(499,0)] h fun ac wd h => ?_
          obtain ⟨cF,b2⟩ := iT b2
          refine kF h ?_
          refine wp_skip ?_
          change Code.wp Tryz.prog _ _ _ _
          obtain ⟨cG,cH,cI,cJ,cK,b2⟩ := aB b2
          refine qs 533 [] [2,3,5,6,8,9,10,14,15,16,18,19,20] [(1,0),(2,0),(11,0),(20,1),(20,2),(21,0),(118,0),(486,0),(499,0)] h fun ac wd h => ?_
          obtain ⟨cL,cM,cN,cO,cP,b2⟩ := aB b2
          obtain ⟨cQ,cR,cS,cT,cU,b2⟩ := aB b2
          obtain ⟨cV,cW,b2⟩ := oB b2
          have cX := L_probe_Hear_ok cW
          refine ds 554 [factE 546 cX] [2,3,5,6,8,9,10,14,15,16,19,20,21,22,23] [(1,0),(2,0),(11,0),(20,1),(20,2),(21,0),(118,0),(499,0)] h fun ac wd h => ?_
          refine qs 559 [] [2,3,5,6,8,9,10,14,15,16,19,22,23] [(1,0),(2,0),(11,0),(20,1),(20,2),(21,0),(118,0),(499,0)] h fun ac wd h => ?_
          refine qs 564 [] [2,3,5,6,8,9,10,14,15,16,19,22,23] [(1,0),(2,0),(11,0),(20,1),(20,2),(21,0),(118,0),(499,0)] h fun ac wd h => ?_
          obtain ⟨cY,b2⟩ := iT b2
          refine qs 568 [] [2,3,5,6,8,9,10,14,15,16,19,23] [(1,0),(2,0),(11,0),(20,1),(20,2),(21,0),(118,0),(566,0)] h fun ac wd h => ?_
          refine qs 570 [] [2,3,5,6,8,9,10,12,14,15,16,23] [(1,0),(2,0),(11,0),(20,1),(20,2),(21,0),(118,0),(566,0)] h fun ac wd h => ?_
          refine wp_seq ?_
          obtain ⟨cZ,c0,b2⟩ := Option.bind_eq_some_iff.1 b2
          refine r_seqJ (fun ac wd => ∃ (c1 : Bool),c1 = cZ ∧ SL ⟨wb,S,Φ,P0⟩ 268 587 [(2,.one (.ptr (1,0) 0)),(3,.one (.ptr (2,0) 0)),(5,.one (.ptr (11,0) 0)),(6,.one (.ptr (21,0) 0)),(8,.one (.d (.int .i64 ((landK .i64 a1.Init 255).tmod aa.G.N)))),(9,.one (.d (.sl (List.map eTHost aU)))),(10,.one (.own (118,0) bY.length)),(12,.one (.own (566,0) (co.length + ct.length + cV.2.1.length))),(14,.one (.d (.int .i64 (IntKind.wrap .i64 (bV + (cV.2.1.length : Int)))))),(15,.one (.d (.bool bW))),(16,.one (.d (.int .i64 bX))),(23,.one (.d (.sl (List.map eI cV.2.2)))),(243,.one (.d (.bool c1)))] [((1,0),some (.box 27 [.d (.int .i64 aa.G.N),.d (.sl (List.map eA2I aa.G.Links)),.d (.sl (List.map eTNode aa.T)),.d (.bool true)])),((2,0),some (.box 73 (cTStatic a1))),((11,0),some (.box 44 (cTApp ae))),((20,1),some (.row 141 1 (openRows cols_141 (List.map (eL eTMsg) al.Links)))),((20,2),some (.row 3 1 (dat (List.map eI al.Sent)))),((21,0),some (.box 76 [.d (.sl (List.map eI aq)),.own (20,1) al.Links.length,.own (20,2) al.Sent.length])),((118,0),some (.row 32 1 (dat (List.map (eL eI) (bY.set cG.a1.toNat cV.1))))),((566,0),some (.row 90 10 (dat (List.map eTOut ((co ++ ct) ++ cV.2.1)))))] ac wd) ?_ ?_
          ·
           rcases i2 c0 with ⟨c2,c0⟩ | ⟨c2,c0⟩
           ·
            obtain ⟨c3,c4,c5,c6,c7,c0⟩ := aN 0 c0
            rcases i2e c0 with ⟨c8,c0⟩ | ⟨c8,c0⟩
            ·
             obtain ⟨c9,da,c0⟩ := oB c0
             have db := L_ref15_Ring_ok da
             refine qeg [factE 583 db] [none,none,none,none,some (some 230,true),some (some 230,true),some (some 230,true),some (some 230,true),some (some 230,true),some (some 230,true),some (some 236,false),some (some 236,false),some (some 236,false),some (some 236,false),some (some 236,false),some (some 230,true),none] [2,3,5,6,8,9,10,12,14,15,16,23,243] [(1,0),(2,0),(11,0),(20,1),(20,2),(21,0),(118,0),(566,0)] h fun ac wd h => ?_
             injection c0 with c0; subst c0
             exact ⟨!(c9),rfl,h.z⟩
            ·
             refine qeg [] [none,none,none,none,some (some 230,true),some (some 230,true),some (some 230,true),some (some 230,true),some (some 230,true),some (some 230,true),some (some 236,false),some (some 236,false),some (some 236,false),some (some 236,false),some (some 236,false),some (some 230,true),none] [2,3,5,6,8,9,10,12,14,15,16,23,243] [(1,0),(2,0),(11,0),(20,1),(20,2),(21,0),(118,0),(566,0)] h fun ac wd h => ?_
             injection c0 with c0; subst c0
             exact ⟨true,rfl,h.z⟩
           ·
            refine qeg [] [none,none,none,none,some (some 230,true),some (some 230,true),some (some 230,true),some (some 230,true),some (some 230,true),some (some 230,true),some (some 236,false),some (some 236,false),some (some 236,false),some (some 236,false),some (some 236,false),some (some 230,true),none] [2,3,5,6,8,9,10,12,14,15,16,23,243] [(1,0),(2,0),(11,0),(20,1),(20,2),(21,0),(118,0),(566,0)] h fun ac wd h => ?_
            injection c0 with c0; subst c0
            exact ⟨false,rfl,h.z⟩
          ·
           rintro ac wd ⟨c1,rfl,h⟩
           (try dsimp only at b2)
           obtain ⟨dc,b2⟩ := iFb b2
           refine kF h ?_
           refine wp_skip ?_
           change Code.wp Tryz.prog _ _ _ _
           rcases i2b b2 with ⟨dd,b2⟩ | ⟨dd,b2⟩
           ·
            refine qeg [] [none,none,some (some 245,false),some (some 245,false),some (some 245,false),none,none] [2,3,5,6,8,9,10,12,14,15,16] [(1,0),(2,0),(11,0),(20,1),(20,2),(21,0),(118,0),(566,0)] h fun ac wd h => ?_
            injection b2 with b2; subst b2
            (try simp only [Nat.add_assoc] at h)
            exact ⟨(IntKind.wrap .i64 (bV + (cV.2.1.length : Int))),true,(bY.set cG.a1.toNat cV.1),((co ++ ct) ++ cV.2.1),rfl,h.z⟩
           ·
            refine qeg [] [none,none,some (some 245,false),some (some 245,false),some (some 245,false),none,none] [2,3,5,6,8,9,10,12,14,15,16] [(1,0),(2,0),(11,0),(20,1),(20,2),(21,0),(118,0),(566,0)] h fun ac wd h => ?_
            injection b2 with b2; subst b2
            (try simp only [Nat.add_assoc] at h)
            exact ⟨(IntKind.wrap .i64 (bV + (cV.2.1.length : Int))),decide ((cV.2.2.length : Int) > 0),(bY.set cG.a1.toNat cV.1),((co ++ ct) ++ cV.2.1),rfl,h.z⟩
        ·
         rintro ac wd ⟨b3,b4,b5,b6,rfl,h⟩
         (try dsimp only at bZ)
         refine qe [] [2,3,5,6,8,9,10,12,14,15,16] [(1,0),(2,0),(11,0),(20,1),(20,2),(21,0),(118,0),(566,0)] h fun ac wd h => ?_
         have h := h.fz [(566,0)]
         exact ⟨nf,Nat.lt_succ_self nf,b6,b3,b4,(IntKind.wrap .i64 (bX + 1)),b5,bZ,h.z⟩
       ·
        refine kF h ?_
        refine wp_exit ?_
        injection bZ with bZ; subst bZ
        exact ⟨bV,bW,rfl,h.z⟩
     ·
      rintro ac wd ⟨bS,bT,rfl,h⟩
      (try dsimp only at hD)
      obtain ⟨df,dg,hD⟩ := oB hD
      have h := h.fz [(20,1),(20,2)]
      obtain ⟨dh,di,hD⟩ := oB hD
      obtain ⟨dj,hD⟩ := iTe hD
      obtain ⟨dk,dl,hD⟩ := oB hD
      obtain ⟨dm,hD⟩ := iT hD
      obtain ⟨dn,dp,hD⟩ := oB hD
      have dq := L_ref15_Knot_ok dg
      have dr := L_ref04_In_ok di
      have dt := L_ref15_Edges_ok dl
      have du := L_law16_fixed_ok dp
      refine qsg 485 [factE 469 dq,factE 471 dr,factE 477 dt,factE 482 du] [none,none,none,none,none,none,none,none,some (some 257,true),some (some 257,true),some (some 257,true),some (some 257,true),some (some 257,true),some (some 257,true),none,none,some (some 265,true),none,none] [4] [] h fun ac wd h => ?_
      refine wp_ret ?_
      injection hD with hD
      subst hD
      exact rE h [.tmp 4]
 ·
  refine kT h ?_
  obtain ⟨dv,dw,hD⟩ := oB hD
  have dx := L_law16_fixed_ok dw
  refine qs 21 [factE 19 dx] [4] [] h fun ac wd h => ?_
  refine wp_ret ?_
  injection hD with hD
  subst hD
  exact rE h [.tmp 4]

end Go.Proofs.YtabbejabdkkaiaaGreat
