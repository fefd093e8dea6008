/- Functions as typed ones,and that the program's functions answer as these do. No condition. -/
import Derived.Test.YtabbejabdkkaiaaGreatGb0
import Derived.Test.YtabbejabdkkaiaaGreatGd
set_option linter.unusedSimpArgs false
set_option linter.unusedVariables false
set_option maxRecDepth 20000
set_option maxHeartbeats 4000000
namespace Go.Proofs.YtabbejabdkkaiaaGreat
open Go.RowKit

theorem L_law07_Cut_own {a0 : TFrame} {r : TFrame} (hD : L_law07_Cut a0 = some r) :
  CallH Tryz.prog 8 [.agg (cTFrame a0)] []
   (.agg [.d (.int .i64 r.Kind),.d (.int .i64 r.Epoch),.d (.int .i64 r.M.Seq),.d (.int .i64 r.M.Letter),.own (1,0) r.Pieces.length,.d (.int .i64 r.Init),.d (.int .i64 r.Num),.d (.int .i64 r.Count),.own (1,1) r.Path.length]) [((1,0),some (.row 102 6 (dat (List.map eTPiece r.Pieces)))),((1,1),some (.row 3 1 (dat (List.map eI r.Path))))] := by
 unfold L_law07_Cut at hD
 refine rc Tryz.func8 rfl Tryz.ntmps8 fun S Φ P0 wb ac h => ?_
 refine qs 3 [] [1,2] [(1,0),(2,0)] h fun ac wd h => ?_
 obtain ⟨aa,hD⟩ := iT hD
 obtain ⟨ab,hD⟩ := iT hD
 obtain ⟨ad,ae,hD⟩ := vB hD
 obtain ⟨af,hD⟩ := iT hD
 refine ds 27 [] [1,2,3] [(1,0),(2,0),(23,0),(25,0)] h fun ac wd h => ?_
 refine wp_seq ?_
 refine qs 28 [] [1,2,3,4] [(1,0),(2,0),(23,0),(25,0)] h fun ac wd h => ?_
 refine wp_block ?_
 have h := SL.bornB h (25,0) 4 102 6 (by simp only [EZ,simprocAttr, *] <;> rfl) (by simp only [EZ,simprocAttr, *] <;> rfl)
 refine r_while (fun nf ac wd => ∃ (ag : Int) (ah : List TPiece),L_law07_Cut_l1 a0 ad nf ag ah = some r ∧ SL ⟨wb,S,Φ,P0⟩ 50 76 [(1,.one (.ptr (1,0) 0)),(2,.one (.ptr (2,0) 0)),(3,.one (.ptr (25,0) 0)),(4,.one (.d (.int .i64 ag)))] [((1,0),some (.box 37 (cTFrame a0))),((2,0),some (.box 37 [.d (.int .i64 0),.d (.int .i64 0),.d (.int .i64 0),.d (.int .i64 0),.nil,.d (.int .i64 0),.d (.int .i64 0),.d (.int .i64 0),.nil])),((23,0),some (.row 3 1 (dat (List.map eI ad)))),((25,0),some (.box 37 [.d (.int .i64 a0.Kind),.d (.int .i64 a0.Epoch),.d (.int .i64 a0.M.Seq),.d (.int .i64 a0.M.Letter),.own (28,0) ah.length,.d (.int .i64 a0.Init),.d (.int .i64 a0.Num),.d (.int .i64 a0.Count),.own (23,0) ad.length])),((28,0),some (.row 102 6 (dat (List.map eTPiece ah))))] ac wd) (((a0.Pieces.length : Int) - 0).toNat + 1) ⟨0,([] : List TPiece),hD,h.z⟩ (fun nf ac wd hJ => ?_)
 obtain ⟨ag,ah,ai,h⟩ := hJ
 cases nf with
 | zero => rw [L_law07_Cut_l1] at ai; cases ai
 | succ nf =>
  rw [L_law07_Cut_l1] at ai
  refine wp_seq ?_
  obtain ⟨aj,ak,ai⟩ := Option.bind_eq_some_iff.1 ai
  refine r_seqJ (fun ac wd => ∃ (al : Bool),al = aj ∧ SL ⟨wb,S,Φ,P0⟩ 50 85 [(1,.one (.ptr (1,0) 0)),(2,.one (.ptr (2,0) 0)),(3,.one (.ptr (25,0) 0)),(4,.one (.d (.int .i64 ag))),(35,.one (.d (.bool al)))] [((1,0),some (.box 37 (cTFrame a0))),((2,0),some (.box 37 [.d (.int .i64 0),.d (.int .i64 0),.d (.int .i64 0),.d (.int .i64 0),.nil,.d (.int .i64 0),.d (.int .i64 0),.d (.int .i64 0),.nil])),((23,0),some (.row 3 1 (dat (List.map eI ad)))),((25,0),some (.box 37 [.d (.int .i64 a0.Kind),.d (.int .i64 a0.Epoch),.d (.int .i64 a0.M.Seq),.d (.int .i64 a0.M.Letter),.own (28,0) ah.length,.d (.int .i64 a0.Init),.d (.int .i64 a0.Num),.d (.int .i64 a0.Count),.own (23,0) ad.length])),((28,0),some (.row 102 6 (dat (List.map eTPiece ah))))] ac wd) ?_ ?_
  ·
   rcases i2 ak with ⟨am,ak⟩ | ⟨am,ak⟩
   ·
    refine qeg [] [none,none,none,none,none,none,some (some 32,true),some (some 32,true),none] [1,2,3,4,35] [(1,0),(2,0),(23,0),(25,0),(28,0)] h fun ac wd h => ?_
    injection ak with ak; subst ak
    exact ⟨decide (ag < 7),rfl,h.z⟩
   ·
    refine qeg [] [none,none,none,none,none,none,some (some 32,true),some (some 32,true),none] [1,2,3,4,35] [(1,0),(2,0),(23,0),(25,0),(28,0)] h fun ac wd h => ?_
    injection ak with ak; subst ak
    exact ⟨false,rfl,h.z⟩
  ·
   rintro ac wd ⟨al,rfl,h⟩
   (try dsimp only at ai)
   rcases i2b ai with ⟨an,ai⟩ | ⟨an,ai⟩
   ·
    refine kT h ?_
    refine wp_skip ?_
    change Code.wp Tryz.prog _ _ _ _
    refine wp_seq ?_
    refine wp_block ?_
    obtain ⟨ao,ap,aq,ar,au,ai⟩ := aB ai
    obtain ⟨av,aw,ai⟩ := oB ai
    obtain ⟨ax,ai⟩ := iT ai
    have ay := L_law06_Cut_ok aw
    refine de [factE 92 ay] [1,2,3,4] [(1,0),(2,0),(23,0),(25,0),(94,0)] h fun ac wd h => ?_
    change Code.wp Tryz.prog _ _ _ _
    refine qe [] [1,2,3,4] [(1,0),(2,0),(23,0),(25,0),(94,0)] h fun ac wd h => ?_
    have h := h.sw (28,0) (94,0) 100
    exact ⟨nf,Nat.lt_succ_self nf,(IntKind.wrap .i64 (ag + 1)),(ah ++ [av]),ai,h.z⟩
   ·
    refine kF h ?_
    refine wp_exit ?_
    change Code.wp Tryz.prog _ _ _ _
    refine qs 87 [] [2] [(2,0),(23,0),(28,0)] h fun ac wd h => ?_
    refine wp_ret ?_
    have h := h.sw (1,0) (28,0) 87
    have h := h.sw (1,1) (23,0) 87
    injection ai with ai
    subst ai
    exact rO h [.cell 2 37] [(1,0),(1,1)]
theorem L_law07_Cut_ok {a0 : TFrame} {r : TFrame} (hD : L_law07_Cut a0 = some r) :
  CallH Tryz.prog 8 [.agg (cTFrame a0)] []
   (.agg [.d (.int .i64 r.Kind),.d (.int .i64 r.Epoch),.d (.int .i64 r.M.Seq),.d (.int .i64 r.M.Letter),.d (.sl (List.map eTPiece r.Pieces)),.d (.int .i64 r.Init),.d (.int .i64 r.Num),.d (.int .i64 r.Count),.d (.sl (List.map eI r.Path))]) [] :=
 (L_law07_Cut_own hD).fr

theorem L_ref03_Find_ok {a0 : TGraph} {a1 : Int} {a2 : Int} {r : Int} (hD : L_ref03_Find a0 a1 a2 = some r) :
  CallH Tryz.prog 75 [.agg (cTGraph a0),.one (.d (.int .i64 a1)),.one (.d (.int .i64 a2))] []
   (.one (.d (.int .i64 r))) [] := by
 unfold L_ref03_Find at hD
 refine rc Tryz.func75 rfl Tryz.ntmps75 fun S Φ P0 wb ac h => ?_
 refine qs 3 [] [1,2,3] [(1,0)] h fun ac wd h => ?_
 refine wp_seq ?_
 refine qs 4 [] [1,2,3,7] [(1,0)] h fun ac wd h => ?_
 refine wp_block ?_
 refine r_while (fun nf ac wd => ∃ (aa : Int),L_ref03_Find_l1 a0 a1 a2 nf aa = some r ∧ SL ⟨wb,S,Φ,P0⟩ 34 56 [(1,.one (.d (.int .i64 a1))),(2,.one (.d (.int .i64 a2))),(3,.one (.ptr (1,0) 0)),(7,.one (.d (.int .i64 aa)))] [((1,0),some (.box 41 (cTGraph a0)))] ac wd) (((a0.Links.length : Int) - 0).toNat + 1) ⟨0,hD,h.z⟩ (fun nf ac wd hJ => ?_)
 obtain ⟨aa,ab,h⟩ := hJ
 cases nf with
 | zero => rw [L_ref03_Find_l1] at ab; cases ab
 | succ nf =>
  rw [L_ref03_Find_l1] at ab
  refine wp_seq ?_
  refine qs 61 [] [1,2,3,7,12] [(1,0)] h fun ac wd h => ?_
  rcases i2 ab with ⟨ad,ab⟩ | ⟨ad,ab⟩
  ·
   refine kT h ?_
   refine wp_skip ?_
   change Code.wp Tryz.prog _ _ _ _
   refine wp_seq ?_
   refine wp_block ?_
   obtain ⟨ae,af,ab⟩ := Option.bind_eq_some_iff.1 ab
   refine r_seqJ (fun ac wd => ∃ (ag : Bool),ag = ae ∧ SL ⟨wb,S,Φ,P0⟩ 34 79 [(1,.one (.d (.int .i64 a1))),(2,.one (.d (.int .i64 a2))),(3,.one (.ptr (1,0) 0)),(7,.one (.d (.int .i64 aa))),(32,.one (.d (.bool ag)))] [((1,0),some (.box 41 (cTGraph a0)))] ac wd) ?_ ?_
   ·
    obtain ⟨ah,ai,aj,ak,al,af⟩ := aB af
    rcases i2e af with ⟨am,af⟩ | ⟨am,af⟩
    ·
     refine qeg [] [none,none,none,none,none,none,none,none,none,some (some 23,true),some (some 23,true),some (some 23,true),some (some 23,true),some (some 23,true),some (some 23,true),some (some 23,true),some (some 23,true),none] [1,2,3,7,32] [(1,0)] h fun ac wd h => ?_
     injection af with af; subst af
     exact ⟨decide (ah.a1 = a2),rfl,h.z⟩
    ·
     refine qeg [] [none,none,none,none,none,none,none,none,none,some (some 23,true),some (some 23,true),some (some 23,true),some (some 23,true),some (some 23,true),some (some 23,true),some (some 23,true),some (some 23,true),none] [1,2,3,7,32] [(1,0)] h fun ac wd h => ?_
     injection af with af; subst af
     exact ⟨false,rfl,h.z⟩
   ·
    rintro ac wd ⟨ag,rfl,h⟩
    (try dsimp only at ab)
    rcases i2b ab with ⟨an,ab⟩ | ⟨an,ab⟩
    ·
     refine kT h ?_
     refine qs 81 [] [6] [] h fun ac wd h => ?_
     refine wp_ret ?_
     injection ab with ab
     subst ab
     exact rE h [.tmp 6]
    ·
     refine kF h ?_
     refine wp_skip ?_
     change Code.wp Tryz.prog _ _ _ _
     refine qe [] [1,2,3,7] [(1,0)] h fun ac wd h => ?_
     exact ⟨nf,Nat.lt_succ_self nf,(IntKind.wrap .i64 (aa + 1)),ab,h.z⟩
  ·
   refine kF h ?_
   refine wp_exit ?_
   change Code.wp Tryz.prog _ _ _ _
   refine qs 62 [] [6] [] h fun ac wd h => ?_
   refine wp_ret ?_
   injection ab with ab
   subst ab
   exact rE h [.tmp 6]

theorem L_ref03_Dist_own {a0 : TGraph} {a1 : Int} {r : (List Int)} (hD : L_ref03_Dist a0 a1 = some r) :
  CallH Tryz.prog 80 [.agg (cTGraph a0),.one (.d (.int .i64 a1))] []
   (.one (.own (1,0) r.length)) [((1,0),some (.row 3 1 (dat (List.map eI r))))] := by
 unfold L_ref03_Dist at hD
 refine rc Tryz.func80 rfl Tryz.ntmps80 fun S Φ P0 wb ac h => ?_
 refine qs 3 [] [1,2] [(1,0)] h fun ac wd h => ?_
 refine qs 5 [] [1,2,5] [(1,0),(3,0)] h fun ac wd h => ?_
 refine wp_seq ?_
 obtain ⟨aa,ab,hD⟩ := Option.bind_eq_some_iff.1 hD
 refine r_seqJ (fun ac wd => ∃ (ad : Bool),ad = aa ∧ SL ⟨wb,S,Φ,P0⟩ 77 13 [(1,.one (.d (.int .i64 a1))),(2,.one (.ptr (1,0) 0)),(5,.one (.own (3,0) 0)),(19,.one (.d (.bool ad)))] [((1,0),some (.box 41 (cTGraph a0))),((3,0),some (.row 3 1 ([])))] ac wd) ?_ ?_
 ·
  rcases i2 ab with ⟨ae,ab⟩ | ⟨ae,ab⟩
  ·
   refine qeg [] [none,none,none,some (some 14,false),some (some 14,false),some (some 14,false),some (some 14,false),none] [1,2,5,19] [(1,0),(3,0)] h fun ac wd h => ?_
   injection ab with ab; subst ab
   exact ⟨true,rfl,h.z⟩
  ·
   refine qeg [] [none,none,none,some (some 14,false),some (some 14,false),some (some 14,false),some (some 14,false),none] [1,2,5,19] [(1,0),(3,0)] h fun ac wd h => ?_
   injection ab with ab; subst ab
   exact ⟨decide (a1 ≥ a0.N),rfl,h.z⟩
 ·
  rintro ac wd ⟨ad,rfl,h⟩
  (try dsimp only at hD)
  rcases i2b hD with ⟨af,hD⟩ | ⟨af,hD⟩
  ·
   refine kT h ?_
   refine qs 15 [] [4] [(3,0)] h fun ac wd h => ?_
   refine wp_ret ?_
   have h := h.sw (1,0) (3,0) 15
   injection hD with hD
   subst hD
   exact rO h [.tmp 4] [(1,0)]
  ·
   refine kF h ?_
   refine wp_skip ?_
   change Code.wp Tryz.prog _ _ _ _
   refine wp_seq ?_
   refine qs 14 [] [1,2,5,6] [(1,0),(3,0)] h fun ac wd h => ?_
   obtain ⟨ag,ah,hD⟩ := Option.bind_eq_some_iff.1 hD
   refine r_meet (fun ac wd => ∃ (ai : List Int),ai = ag ∧ SL ⟨wb,S,Φ,P0⟩ 77 40 [(1,.one (.d (.int .i64 a1))),(2,.one (.ptr (1,0) 0)),(5,.one (.own (3,0) ai.length))] [((1,0),some (.box 41 (cTGraph a0))),((3,0),some (.row 3 1 (dat (List.map eI ai))))] ac wd) ?_ ?_
   ·
    refine wp_block ?_
    refine r_while (fun nf ac wd => ∃ (aj : Int) (ak : List Int),L_ref03_Dist_l1 a0 nf aj ak = some ag ∧ SL ⟨wb,S,Φ,P0⟩ 77 36 [(1,.one (.d (.int .i64 a1))),(2,.one (.ptr (1,0) 0)),(5,.one (.own (3,0) ak.length)),(6,.one (.d (.int .i64 aj)))] [((1,0),some (.box 41 (cTGraph a0))),((3,0),some (.row 3 1 (dat (List.map eI ak))))] ac wd) ((a0.N - 0).toNat + 1) ⟨0,([] : List Int),ah,h.z⟩ (fun nf ac wd hJ => ?_)
    obtain ⟨aj,ak,al,h⟩ := hJ
    cases nf with
    | zero => rw [L_ref03_Dist_l1] at al; cases al
    | succ nf =>
     rw [L_ref03_Dist_l1] at al
     refine wp_seq ?_
     refine qs 40 [] [1,2,5,6,24] [(1,0),(3,0)] h fun ac wd h => ?_
     rcases i2 al with ⟨am,al⟩ | ⟨am,al⟩
     ·
      refine kT h ?_
      refine wp_skip ?_
      change Code.wp Tryz.prog _ _ _ _
      refine wp_seq ?_
      refine wp_block ?_
      obtain ⟨an,al⟩ := iT al
      refine qe [] [1,2,5,6] [(1,0),(42,0)] h fun ac wd h => ?_
      change Code.wp Tryz.prog _ _ _ _
      refine qe [] [1,2,5,6] [(1,0),(42,0)] h fun ac wd h => ?_
      have h := h.sw (3,0) (42,0) 47
      exact ⟨nf,Nat.lt_succ_self nf,(IntKind.wrap .i64 (aj + 1)),(ak ++ [(-1)]),al,h.z⟩
     ·
      refine kF h ?_
      refine wp_exit ?_
      injection al with al; subst al
      exact ⟨ak,rfl,h.z⟩
   ·
    rintro ac wd ⟨ai,rfl,h⟩
    (try dsimp only at hD)
    obtain ⟨ao,ap,aq,ar,au,hD⟩ := aB hD
    refine qs 44 [] [2,5] [(1,0),(3,0)] h fun ac wd h => ?_
    refine wp_seq ?_
    refine qs 45 [] [2,5,7] [(1,0),(3,0)] h fun ac wd h => ?_
    refine wp_block ?_
    refine r_while (fun nf ac wd => ∃ (av : Int) (aw : List Int),L_ref03_Dist_l2 a0 nf av aw = some r ∧ SL ⟨wb,S,Φ,P0⟩ 77 235 [(2,.one (.ptr (1,0) 0)),(5,.one (.own (3,0) aw.length)),(7,.one (.d (.int .i64 av)))] [((1,0),some (.box 41 (cTGraph a0))),((3,0),some (.row 3 1 (dat (List.map eI aw))))] ac wd) ((a0.N - 0).toNat + 1) ⟨0,(ai.set a1.toNat 0),hD,h.z⟩ (fun nf ac wd hJ => ?_)
    obtain ⟨av,aw,ax,h⟩ := hJ
    cases nf with
    | zero => rw [L_ref03_Dist_l2] at ax; cases ax
    | succ nf =>
     rw [L_ref03_Dist_l2] at ax
     refine wp_seq ?_
     refine qs 239 [] [2,5,7,36] [(1,0),(3,0)] h fun ac wd h => ?_
     rcases i2 ax with ⟨ay,ax⟩ | ⟨ay,ax⟩
     ·
      refine kT h ?_
      refine wp_skip ?_
      change Code.wp Tryz.prog _ _ _ _
      obtain ⟨az,aA,ax⟩ := Option.bind_eq_some_iff.1 ax
      refine r_seqJ (fun ac wd => ∃ (aC : List Int),aC = az ∧ SL ⟨wb,S,Φ,P0⟩ 77 327 [(2,.one (.ptr (1,0) 0)),(5,.one (.own (3,0) aC.length)),(7,.one (.d (.int .i64 av)))] [((1,0),some (.box 41 (cTGraph a0))),((3,0),some (.row 3 1 (dat (List.map eI aC))))] ac wd) ?_ ?_
      ·
       refine wp_block ?_
       refine qs 240 [] [2,5,7,8] [(1,0),(3,0)] h fun ac wd h => ?_
       obtain ⟨aD,aE,aA⟩ := Option.bind_eq_some_iff.1 aA
       refine r_meetQ (fun ac wd => ∃ (aF : List Int),aF = aD ∧ SL ⟨wb,S,Φ,P0⟩ 77 327 [(2,.one (.ptr (1,0) 0)),(5,.one (.own (3,0) aF.length)),(7,.one (.d (.int .i64 av)))] [((1,0),some (.box 41 (cTGraph a0))),((3,0),some (.row 3 1 (dat (List.map eI aF))))] ac wd) ?_ ?_
       ·
        refine wp_block ?_
        refine r_while (fun nf ac wd => ∃ (aG : Int) (aH : List Int),L_ref03_Dist_l3 a0 av nf aG aH = some aD ∧ SL ⟨wb,S,Φ,P0⟩ 77 322 [(2,.one (.ptr (1,0) 0)),(5,.one (.own (3,0) aH.length)),(7,.one (.d (.int .i64 av))),(8,.one (.d (.int .i64 aG)))] [((1,0),some (.box 41 (cTGraph a0))),((3,0),some (.row 3 1 (dat (List.map eI aH))))] ac wd) (((a0.Links.length : Int) - 0).toNat + 1) ⟨0,aw,aE,h.z⟩ (fun nf ac wd hJ => ?_)
        obtain ⟨aG,aH,aI,h⟩ := hJ
        cases nf with
        | zero => rw [L_ref03_Dist_l3] at aI; cases aI
        | succ nf =>
         rw [L_ref03_Dist_l3] at aI
         refine wp_seq ?_
         refine qs 327 [] [2,5,7,8,43] [(1,0),(3,0)] h fun ac wd h => ?_
         rcases i2 aI with ⟨aJ,aI⟩ | ⟨aJ,aI⟩
         ·
          refine kT h ?_
          refine wp_skip ?_
          change Code.wp Tryz.prog _ _ _ _
          obtain ⟨aK,aL,aI⟩ := Option.bind_eq_some_iff.1 aI
          refine r_seqJ (fun ac wd => ∃ (aM : List Int),aM = aK ∧ SL ⟨wb,S,Φ,P0⟩ 77 360 [(2,.one (.ptr (1,0) 0)),(5,.one (.own (3,0) aM.length)),(7,.one (.d (.int .i64 av))),(8,.one (.d (.int .i64 aG)))] [((1,0),some (.box 41 (cTGraph a0))),((3,0),some (.row 3 1 (dat (List.map eI aM))))] ac wd) ?_ ?_
          ·
           refine wp_block ?_
           obtain ⟨aN,aO,aP,aQ,aR,aL⟩ := aB aL
           refine ds 341 [] [2,5,7,8,9,10] [(1,0),(3,0)] h fun ac wd h => ?_
           obtain ⟨aS,aT,aL⟩ := Option.bind_eq_some_iff.1 aL
           refine r_seqJ (fun ac wd => ∃ (aU : Bool),aU = aS ∧ SL ⟨wb,S,Φ,P0⟩ 77 354 [(2,.one (.ptr (1,0) 0)),(5,.one (.own (3,0) aH.length)),(7,.one (.d (.int .i64 av))),(8,.one (.d (.int .i64 aG))),(10,.one (.d (.int .i64 aN.a1))),(70,.one (.d (.bool aU)))] [((1,0),some (.box 41 (cTGraph a0))),((3,0),some (.row 3 1 (dat (List.map eI aH))))] ac wd) ?_ ?_
           ·
            obtain ⟨aV,aW,aX,aY,aZ,aT⟩ := aB aT
            rcases i2e aT with ⟨ba,aT⟩ | ⟨ba,aT⟩
            ·
             obtain ⟨bb,bc,bd,be,bf,aT⟩ := aB aT
             refine qeg [] [none,none,none,none,none,none,none,some (some 64,true),some (some 64,true),some (some 64,true),some (some 64,true),some (some 64,true),none] [2,5,7,8,10,70] [(1,0),(3,0)] h fun ac wd h => ?_
             injection aT with aT; subst aT
             exact ⟨decide (bb < 0),rfl,h.z⟩
            ·
             refine qeg [] [none,none,none,none,none,none,none,some (some 64,true),some (some 64,true),some (some 64,true),some (some 64,true),some (some 64,true),none] [2,5,7,8,10,70] [(1,0),(3,0)] h fun ac wd h => ?_
             injection aT with aT; subst aT
             exact ⟨false,rfl,h.z⟩
           ·
            rintro ac wd ⟨aU,rfl,h⟩
            (try dsimp only at aL)
            rcases i2b aL with ⟨bg,aL⟩ | ⟨bg,aL⟩
            ·
             refine kT h ?_
             obtain ⟨bh,bi,bj,bk,bl,aL⟩ := aB aL
             refine qe [] [2,5,7,8] [(1,0),(3,0)] h fun ac wd h => ?_
             injection aL with aL; subst aL
             exact ⟨(aH.set aN.a1.toNat (IntKind.wrap .i64 (av + 1))),rfl,h.z⟩
            ·
             refine kF h ?_
             refine wp_skip ?_
             injection aL with aL; subst aL
             exact ⟨aH,rfl,h.z⟩
          ·
           rintro ac wd ⟨aM,rfl,h⟩
           (try dsimp only at aI)
           refine qe [] [2,5,7,8] [(1,0),(3,0)] h fun ac wd h => ?_
           exact ⟨nf,Nat.lt_succ_self nf,(IntKind.wrap .i64 (aG + 1)),aM,aI,h.z⟩
         ·
          refine kF h ?_
          refine wp_exit ?_
          injection aI with aI; subst aI
          exact ⟨aH,rfl,h.z⟩
       ·
        rintro ac wd ⟨aF,rfl,h⟩
        (try dsimp only at aA)
        injection aA with aA; subst aA
        exact ⟨aF,rfl,h.z⟩
      ·
       rintro ac wd ⟨aC,rfl,h⟩
       (try dsimp only at ax)
       refine qe [] [2,5,7] [(1,0),(3,0)] h fun ac wd h => ?_
       exact ⟨nf,Nat.lt_succ_self nf,(IntKind.wrap .i64 (av + 1)),aC,ax,h.z⟩
     ·
      refine kF h ?_
      refine wp_exit ?_
      change Code.wp Tryz.prog _ _ _ _
      refine qs 241 [] [4] [(3,0)] h fun ac wd h => ?_
      refine wp_ret ?_
      have h := h.sw (1,0) (3,0) 241
      injection ax with ax
      subst ax
      exact rO h [.tmp 4] [(1,0)]
theorem L_ref03_Dist_ok {a0 : TGraph} {a1 : Int} {r : (List Int)} (hD : L_ref03_Dist a0 a1 = some r) :
  CallH Tryz.prog 80 [.agg (cTGraph a0),.one (.d (.int .i64 a1))] []
   (.one (.d (.sl (List.map eI r)))) [] :=
 (L_ref03_Dist_own hD).fr

theorem L_ref03_Right_ok {a0 : TGraph} {r : Bool} (hD : L_ref03_Right a0 = some r) :
  CallH Tryz.prog 55 [.agg (cTGraph a0)] []
   (.one (.d (.bool r))) [] := by
 unfold L_ref03_Right at hD
 refine rc Tryz.func55 rfl Tryz.ntmps55 fun S Φ P0 wb ac h => ?_
 refine qs 3 [] [1] [(1,0)] h fun ac wd h => ?_
 refine wp_seq ?_
 obtain ⟨aa,ab,hD⟩ := Option.bind_eq_some_iff.1 hD
 refine r_seqJ (fun ac wd => ∃ (ad : Bool),ad = aa ∧ SL ⟨wb,S,Φ,P0⟩ 100 17 [(1,.one (.ptr (1,0) 0)),(22,.one (.d (.bool ad)))] [((1,0),some (.box 41 (cTGraph a0)))] ac wd) ?_ ?_
 ·
  rcases i2 ab with ⟨ae,ab⟩ | ⟨ae,ab⟩
  ·
   refine qeg [] [none,none,none,none,some (some 12,false),some (some 12,false),some (some 12,false),none,none,some (some 17,false),some (some 17,false),some (some 17,false),some (some 17,false),none] [1,22] [(1,0)] h fun ac wd h => ?_
   injection ab with ab; subst ab
   exact ⟨true,rfl,h.z⟩
  ·
   rcases i2 ab with ⟨af,ab⟩ | ⟨af,ab⟩
   ·
    refine qeg [] [none,none,none,none,some (some 12,false),some (some 12,false),some (some 12,false),none,none,some (some 17,false),some (some 17,false),some (some 17,false),some (some 17,false),none] [1,22] [(1,0)] h fun ac wd h => ?_
    injection ab with ab; subst ab
    exact ⟨true,rfl,h.z⟩
   ·
    refine qeg [] [none,none,none,none,some (some 12,false),some (some 12,false),some (some 12,false),none,none,some (some 17,false),some (some 17,false),some (some 17,false),some (some 17,false),none] [1,22] [(1,0)] h fun ac wd h => ?_
    injection ab with ab; subst ab
    exact ⟨decide ((a0.Links.length : Int) > 30),rfl,h.z⟩
 ·
  rintro ac wd ⟨ad,rfl,h⟩
  (try dsimp only at hD)
  rcases i2b hD with ⟨ag,hD⟩ | ⟨ag,hD⟩
  ·
   refine kT h ?_
   refine qs 18 [] [2] [] h fun ac wd h => ?_
   refine wp_ret ?_
   injection hD with hD
   subst hD
   exact rE h [.tmp 2]
  ·
   refine kF h ?_
   refine wp_skip ?_
   change Code.wp Tryz.prog _ _ _ _
   refine wp_seq ?_
   refine qs 18 [] [1,3] [(1,0)] h fun ac wd h => ?_
   obtain ⟨ah,ai,hD⟩ := Option.bind_eq_some_iff.1 hD
   refine r_meet (fun ac wd => (.inl ()) = ah ∧ SL ⟨wb,S,Φ,P0⟩ 100 143 [(1,.one (.ptr (1,0) 0))] [((1,0),some (.box 41 (cTGraph a0)))] ac wd) ?_ ?_
   ·
    refine wp_block ?_
    refine r_while (fun nf ac wd => ∃ (aj : Int),L_ref03_Right_l1 a0 nf aj = some ah ∧ SL ⟨wb,S,Φ,P0⟩ 100 138 [(1,.one (.ptr (1,0) 0)),(3,.one (.d (.int .i64 aj)))] [((1,0),some (.box 41 (cTGraph a0)))] ac wd) (((a0.Links.length : Int) - 0).toNat + 1) ⟨0,ai,h.z⟩ (fun nf ac wd hJ => ?_)
    obtain ⟨aj,ak,h⟩ := hJ
    cases nf with
    | zero => rw [L_ref03_Right_l1] at ak; cases ak
    | succ nf =>
     rw [L_ref03_Right_l1] at ak
     refine wp_seq ?_
     refine qs 143 [] [1,3,27] [(1,0)] h fun ac wd h => ?_
     rcases i2 ak with ⟨al,ak⟩ | ⟨al,ak⟩
     ·
      refine kT h ?_
      refine wp_skip ?_
      change Code.wp Tryz.prog _ _ _ _
      refine wp_seq ?_
      refine wp_block ?_
      obtain ⟨am,an,ao,ap,aq,ak⟩ := aB ak
      refine ds 157 [] [1,3,4,5] [(1,0)] h fun ac wd h => ?_
      obtain ⟨ar,au,ak⟩ := Option.bind_eq_some_iff.1 ak
      refine r_seqJ (fun ac wd => ∃ (av : Bool),av = ar ∧ SL ⟨wb,S,Φ,P0⟩ 100 195 [(1,.one (.ptr (1,0) 0)),(3,.one (.d (.int .i64 aj))),(79,.one (.d (.bool av)))] [((1,0),some (.box 41 (cTGraph a0)))] ac wd) ?_ ?_
      ·
       rcases i2 au with ⟨aw,au⟩ | ⟨aw,au⟩
       ·
        refine qeg [] [none,none,none,some (some 44,false),some (some 44,false),some (some 44,false),some (some 44,false),none,none,some (some 50,false),some (some 50,false),none,none,some (some 54,false),some (some 54,false),some (some 54,false),some (some 54,false),none,none,some (some 60,false),some (some 60,false),some (some 60,false),none,none,some (some 65,false),some (some 65,false),some (some 65,false),some (some 65,false),some (some 65,false),some (some 65,false),none,none,some (some 73,false),some (some 73,false),some (some 73,false),some (some 73,false),some (some 73,false),none] [1,3,79] [(1,0)] h fun ac wd h => ?_
        injection au with au; subst au
        exact ⟨true,rfl,h.z⟩
       ·
        rcases i2 au with ⟨ax,au⟩ | ⟨ax,au⟩
        ·
         refine qeg [] [none,none,none,some (some 44,false),some (some 44,false),some (some 44,false),some (some 44,false),none,none,some (some 50,false),some (some 50,false),none,none,some (some 54,false),some (some 54,false),some (some 54,false),some (some 54,false),none,none,some (some 60,false),some (some 60,false),some (some 60,false),none,none,some (some 65,false),some (some 65,false),some (some 65,false),some (some 65,false),some (some 65,false),some (some 65,false),none,none,some (some 73,false),some (some 73,false),some (some 73,false),some (some 73,false),some (some 73,false),none] [1,3,79] [(1,0)] h fun ac wd h => ?_
         injection au with au; subst au
         exact ⟨true,rfl,h.z⟩
        ·
         rcases i2 au with ⟨ay,au⟩ | ⟨ay,au⟩
         ·
          refine qeg [] [none,none,none,some (some 44,false),some (some 44,false),some (some 44,false),some (some 44,false),none,none,some (some 50,false),some (some 50,false),none,none,some (some 54,false),some (some 54,false),some (some 54,false),some (some 54,false),none,none,some (some 60,false),some (some 60,false),some (some 60,false),none,none,some (some 65,false),some (some 65,false),some (some 65,false),some (some 65,false),some (some 65,false),some (some 65,false),none,none,some (some 73,false),some (some 73,false),some (some 73,false),some (some 73,false),some (some 73,false),none] [1,3,79] [(1,0)] h fun ac wd h => ?_
          injection au with au; subst au
          exact ⟨true,rfl,h.z⟩
         ·
          rcases i2 au with ⟨az,au⟩ | ⟨az,au⟩
          ·
           refine qeg [] [none,none,none,some (some 44,false),some (some 44,false),some (some 44,false),some (some 44,false),none,none,some (some 50,false),some (some 50,false),none,none,some (some 54,false),some (some 54,false),some (some 54,false),some (some 54,false),none,none,some (some 60,false),some (some 60,false),some (some 60,false),none,none,some (some 65,false),some (some 65,false),some (some 65,false),some (some 65,false),some (some 65,false),some (some 65,false),none,none,some (some 73,false),some (some 73,false),some (some 73,false),some (some 73,false),some (some 73,false),none] [1,3,79] [(1,0)] h fun ac wd h => ?_
           injection au with au; subst au
           exact ⟨true,rfl,h.z⟩
          ·
           rcases i2e au with ⟨aA,au⟩ | ⟨aA,au⟩
           ·
            refine qeg [] [none,none,none,some (some 44,false),some (some 44,false),some (some 44,false),some (some 44,false),none,none,some (some 50,false),some (some 50,false),none,none,some (some 54,false),some (some 54,false),some (some 54,false),some (some 54,false),none,none,some (some 60,false),some (some 60,false),some (some 60,false),none,none,some (some 65,false),some (some 65,false),some (some 65,false),some (some 65,false),some (some 65,false),some (some 65,false),none,none,some (some 73,false),some (some 73,false),some (some 73,false),some (some 73,false),some (some 73,false),none] [1,3,79] [(1,0)] h fun ac wd h => ?_
            injection au with au; subst au
            exact ⟨true,rfl,h.z⟩
           ·
            obtain ⟨aC,aD,au⟩ := oB au
            rcases i2e au with ⟨aE,au⟩ | ⟨aE,au⟩
            ·
             obtain ⟨aF,aG,au⟩ := oB au
             have aH := L_ref03_Find_ok aD
             have aI := L_ref03_Find_ok aG
             refine qeg [factE 184 aH,factE 192 aI] [none,none,none,some (some 44,false),some (some 44,false),some (some 44,false),some (some 44,false),none,none,some (some 50,false),some (some 50,false),none,none,some (some 54,false),some (some 54,false),some (some 54,false),some (some 54,false),none,none,some (some 60,false),some (some 60,false),some (some 60,false),none,none,some (some 65,false),some (some 65,false),some (some 65,false),some (some 65,false),some (some 65,false),some (some 65,false),none,none,some (some 73,false),some (some 73,false),some (some 73,false),some (some 73,false),some (some 73,false),none] [1,3,79] [(1,0)] h fun ac wd h => ?_
             injection au with au; subst au
             exact ⟨decide (aF < 0),rfl,h.z⟩
            ·
             have aH := L_ref03_Find_ok aD
             refine qeg [factE 184 aH] [none,none,none,some (some 44,false),some (some 44,false),some (some 44,false),some (some 44,false),none,none,some (some 50,false),some (some 50,false),none,none,some (some 54,false),some (some 54,false),some (some 54,false),some (some 54,false),none,none,some (some 60,false),some (some 60,false),some (some 60,false),none,none,some (some 65,false),some (some 65,false),some (some 65,false),some (some 65,false),some (some 65,false),some (some 65,false),none,none,some (some 73,false),some (some 73,false),some (some 73,false),some (some 73,false),some (some 73,false),none] [1,3,79] [(1,0)] h fun ac wd h => ?_
             injection au with au; subst au
             exact ⟨true,rfl,h.z⟩
      ·
       rintro ac wd ⟨av,rfl,h⟩
       (try dsimp only at ak)
       rcases i2b ak with ⟨aJ,ak⟩ | ⟨aJ,ak⟩
       ·
        refine kT h ?_
        refine qs 196 [] [2] [] h fun ac wd h => ?_
        refine wp_ret ?_
        injection ak with ak
        subst ak
        (try dsimp only at hD)
        injection hD with hD
        subst hD
        exact rE h [.tmp 2]
       ·
        refine kF h ?_
        refine wp_skip ?_
        change Code.wp Tryz.prog _ _ _ _
        refine qe [] [1,3] [(1,0)] h fun ac wd h => ?_
        exact ⟨nf,Nat.lt_succ_self nf,(IntKind.wrap .i64 (aj + 1)),ak,h.z⟩
     ·
      refine kF h ?_
      refine wp_exit ?_
      injection ak with ak; subst ak
      exact ⟨rfl,h.z⟩
   ·
    rintro ac wd ⟨rfl,h⟩
    (try dsimp only at hD)
    refine wp_seq ?_
    refine qs 144 [] [1,6] [(1,0)] h fun ac wd h => ?_
    refine wp_block ?_
    refine r_while (fun nf ac wd => ∃ (aK : Int),L_ref03_Right_l2 a0 nf aK = some r ∧ SL ⟨wb,S,Φ,P0⟩ 100 224 [(1,.one (.ptr (1,0) 0)),(6,.one (.d (.int .i64 aK)))] [((1,0),some (.box 41 (cTGraph a0)))] ac wd) ((a0.N - 0).toNat + 1) ⟨0,hD,h.z⟩ (fun nf ac wd hJ => ?_)
    obtain ⟨aK,aL,h⟩ := hJ
    cases nf with
    | zero => rw [L_ref03_Right_l2] at aL; cases aL
    | succ nf =>
     rw [L_ref03_Right_l2] at aL
     refine wp_seq ?_
     refine qs 228 [] [1,6,83] [(1,0)] h fun ac wd h => ?_
     rcases i2 aL with ⟨aM,aL⟩ | ⟨aM,aL⟩
     ·
      refine kT h ?_
      refine wp_skip ?_
      change Code.wp Tryz.prog _ _ _ _
      obtain ⟨aN,aO,aL⟩ := Option.bind_eq_some_iff.1 aL
      refine r_seqJ (fun ac wd => (.inl ()) = aN ∧ SL ⟨wb,S,Φ,P0⟩ 100 261 [(1,.one (.ptr (1,0) 0)),(6,.one (.d (.int .i64 aK)))] [((1,0),some (.box 41 (cTGraph a0)))] ac wd) ?_ ?_
      ·
       refine wp_block ?_
       obtain ⟨aP,aQ,aO⟩ := oB aO
       have aR := L_ref03_Dist_ok aQ
       refine qs 232 [factE 230 aR] [1,6,7] [(1,0)] h fun ac wd h => ?_
       refine qs 233 [] [1,6,7,8] [(1,0)] h fun ac wd h => ?_
       obtain ⟨aS,aT,aO⟩ := Option.bind_eq_some_iff.1 aO
       refine r_meetQ (fun ac wd => (.inl ()) = aS ∧ SL ⟨wb,S,Φ,P0⟩ 100 261 [(1,.one (.ptr (1,0) 0)),(6,.one (.d (.int .i64 aK)))] [((1,0),some (.box 41 (cTGraph a0)))] ac wd) ?_ ?_
       ·
        refine wp_block ?_
        refine r_while (fun nf ac wd => ∃ (aU : Int),L_ref03_Right_l3 aP nf aU = some aS ∧ SL ⟨wb,S,Φ,P0⟩ 100 257 [(1,.one (.ptr (1,0) 0)),(6,.one (.d (.int .i64 aK))),(7,.one (.d (.sl (List.map eI aP)))),(8,.one (.d (.int .i64 aU)))] [((1,0),some (.box 41 (cTGraph a0)))] ac wd) (((aP.length : Int) - 0).toNat + 1) ⟨0,aT,h.z⟩ (fun nf ac wd hJ => ?_)
        obtain ⟨aU,aV,h⟩ := hJ
        cases nf with
        | zero => rw [L_ref03_Right_l3] at aV; cases aV
        | succ nf =>
         rw [L_ref03_Right_l3] at aV
         refine wp_seq ?_
         refine qs 261 [] [1,6,7,8,92] [(1,0)] h fun ac wd h => ?_
         rcases i2 aV with ⟨aW,aV⟩ | ⟨aW,aV⟩
         ·
          refine kT h ?_
          refine wp_skip ?_
          change Code.wp Tryz.prog _ _ _ _
          refine wp_seq ?_
          refine wp_block ?_
          obtain ⟨aX,aY,aZ,ba,bb,aV⟩ := aB aV
          refine qs 266 [] [1,6,7,8,99] [(1,0)] h fun ac wd h => ?_
          rcases i2 aV with ⟨bc,aV⟩ | ⟨bc,aV⟩
          ·
           refine kT h ?_
           refine qs 267 [] [2] [] h fun ac wd h => ?_
           refine wp_ret ?_
           injection aV with aV
           subst aV
           (try dsimp only at aO)
           injection aO with aO
           subst aO
           (try dsimp only at aL)
           injection aL with aL
           subst aL
           exact rE h [.tmp 2]
          ·
           refine kF h ?_
           refine wp_skip ?_
           change Code.wp Tryz.prog _ _ _ _
           refine qe [] [1,6,7,8] [(1,0)] h fun ac wd h => ?_
           exact ⟨nf,Nat.lt_succ_self nf,(IntKind.wrap .i64 (aU + 1)),aV,h.z⟩
         ·
          refine kF h ?_
          refine wp_exit ?_
          injection aV with aV; subst aV
          exact ⟨rfl,h.z⟩
       ·
        rintro ac wd ⟨rfl,h⟩
        (try dsimp only at aO)
        injection aO with aO; subst aO
        exact ⟨rfl,h.z⟩
      ·
       rintro ac wd ⟨rfl,h⟩
       (try dsimp only at aL)
       refine qe [] [1,6] [(1,0)] h fun ac wd h => ?_
       exact ⟨nf,Nat.lt_succ_self nf,(IntKind.wrap .i64 (aK + 1)),aL,h.z⟩
     ·
      refine kF h ?_
      refine wp_exit ?_
      change Code.wp Tryz.prog _ _ _ _
      refine qs 229 [] [2] [] h fun ac wd h => ?_
      refine wp_ret ?_
      injection aL with aL
      subst aL
      exact rE h [.tmp 2]

theorem L_ref04_waits_ok {a0 : TState} {a1 : Int} {a2 : TGraph} {r : Bool} (hD : L_ref04_waits a0 a1 a2 = some r) :
  CallH Tryz.prog 56 [.agg (cTState a0),.one (.d (.int .i64 a1)),.agg (cTGraph a2)] []
   (.one (.d (.bool r))) [] := by
 unfold L_ref04_waits at hD
 refine rc Tryz.func56 rfl Tryz.ntmps56 fun S Φ P0 wb ac h => ?_
 refine qs 4 [] [1,3,5] [(1,0),(2,0)] h fun ac wd h => ?_
 refine wp_seq ?_
 refine qs 7 [] [1,3,5,10] [(1,0),(2,0)] h fun ac wd h => ?_
 rcases i2e hD with ⟨aa,hD⟩ | ⟨aa,hD⟩
 ·
  refine kF h ?_
  refine wp_skip ?_
  change Code.wp Tryz.prog _ _ _ _
  refine wp_seq ?_
  refine qs 8 [] [1,3,5,7] [(1,0),(2,0)] h fun ac wd h => ?_
  refine wp_block ?_
  refine r_while (fun nf ac wd => ∃ (ab : Int),L_ref04_waits_l1 a0 a1 a2 nf ab = some r ∧ SL ⟨wb,S,Φ,P0⟩ 53 78 [(1,.one (.d (.int .i64 a1))),(3,.one (.ptr (1,0) 0)),(5,.one (.ptr (2,0) 0)),(7,.one (.d (.int .i64 ab)))] [((1,0),some (.box 86 (cTState a0))),((2,0),some (.box 41 (cTGraph a2)))] ac wd) (((a0.Waits.length : Int) - 0).toNat + 1) ⟨0,hD,h.z⟩ (fun nf ac wd hJ => ?_)
  obtain ⟨ab,ad,h⟩ := hJ
  cases nf with
  | zero => rw [L_ref04_waits_l1] at ad; cases ad
  | succ nf =>
   rw [L_ref04_waits_l1] at ad
   refine wp_seq ?_
   refine qs 83 [] [1,3,5,7,19] [(1,0),(2,0)] h fun ac wd h => ?_
   rcases i2 ad with ⟨ae,ad⟩ | ⟨ae,ad⟩
   ·
    refine kT h ?_
    refine wp_skip ?_
    change Code.wp Tryz.prog _ _ _ _
    refine wp_seq ?_
    refine wp_block ?_
    obtain ⟨af,ag,ad⟩ := Option.bind_eq_some_iff.1 ad
    refine r_seqJ (fun ac wd => ∃ (ah : Bool),ah = af ∧ SL ⟨wb,S,Φ,P0⟩ 53 110 [(1,.one (.d (.int .i64 a1))),(3,.one (.ptr (1,0) 0)),(5,.one (.ptr (2,0) 0)),(7,.one (.d (.int .i64 ab))),(48,.one (.d (.bool ah)))] [((1,0),some (.box 86 (cTState a0))),((2,0),some (.box 41 (cTGraph a2)))] ac wd) ?_ ?_
    ·
     obtain ⟨ai,aj,ak,al,am,ag⟩ := aB ag
     obtain ⟨an,ao,ag⟩ := oB ag
     rcases i2 ag with ⟨ap,ag⟩ | ⟨ap,ag⟩
     ·
      have aq := L_ref03_Find_ok ao
      refine deg [factE 90 aq] [none,none,none,none,none,none,none,none,none,none,some (some 31,false),some (some 31,false),some (some 31,false),some (some 34,true),some (some 34,true),some (some 34,true),some (some 34,true),some (some 34,true),some (some 34,true),some (some 34,true),some (some 34,true),some (some 34,true),some (some 34,true),some (some 34,true),some (some 34,true),some (some 31,false),none] [1,3,5,7,48] [(1,0),(2,0)] h fun ac wd h => ?_
      injection ag with ag; subst ag
      exact ⟨true,rfl,h.z⟩
     ·
      rcases i2 ag with ⟨ar,ag⟩ | ⟨ar,ag⟩
      ·
       obtain ⟨au,av,aw,ax,ay,ag⟩ := aB ag
       have aq := L_ref03_Find_ok ao
       refine deg [factE 90 aq] [none,none,none,none,none,none,none,none,none,none,some (some 31,false),some (some 31,false),some (some 31,false),some (some 34,true),some (some 34,true),some (some 34,true),some (some 34,true),some (some 34,true),some (some 34,true),some (some 34,true),some (some 34,true),some (some 34,true),some (some 34,true),some (some 34,true),some (some 34,true),some (some 31,false),none] [1,3,5,7,48] [(1,0),(2,0)] h fun ac wd h => ?_
       injection ag with ag; subst ag
       exact ⟨decide (ai ≤ au),rfl,h.z⟩
      ·
       have aq := L_ref03_Find_ok ao
       refine deg [factE 90 aq] [none,none,none,none,none,none,none,none,none,none,some (some 31,false),some (some 31,false),some (some 31,false),some (some 34,true),some (some 34,true),some (some 34,true),some (some 34,true),some (some 34,true),some (some 34,true),some (some 34,true),some (some 34,true),some (some 34,true),some (some 34,true),some (some 34,true),some (some 34,true),some (some 31,false),none] [1,3,5,7,48] [(1,0),(2,0)] h fun ac wd h => ?_
       injection ag with ag; subst ag
       exact ⟨false,rfl,h.z⟩
    ·
     rintro ac wd ⟨ah,rfl,h⟩
     (try dsimp only at ad)
     rcases i2b ad with ⟨az,ad⟩ | ⟨az,ad⟩
     ·
      refine kT h ?_
      refine qs 111 [] [6] [] h fun ac wd h => ?_
      refine wp_ret ?_
      injection ad with ad
      subst ad
      exact rE h [.tmp 6]
     ·
      refine kF h ?_
      refine wp_skip ?_
      change Code.wp Tryz.prog _ _ _ _
      refine qe [] [1,3,5,7] [(1,0),(2,0)] h fun ac wd h => ?_
      exact ⟨nf,Nat.lt_succ_self nf,(IntKind.wrap .i64 (ab + 1)),ad,h.z⟩
   ·
    refine kF h ?_
    refine wp_exit ?_
    change Code.wp Tryz.prog _ _ _ _
    refine qs 88 [] [6] [] h fun ac wd h => ?_
    refine wp_ret ?_
    injection ad with ad
    subst ad
    exact rE h [.tmp 6]
 ·
  refine kT h ?_
  refine qs 12 [] [6] [] h fun ac wd h => ?_
  refine wp_ret ?_
  injection hD with hD
  subst hD
  exact rE h [.tmp 6]

theorem L_ref04_picks_ok {a0 : TState} {a1 : Int} {a2 : Int} {a3 : TGraph} {r : Bool} (hD : L_ref04_picks a0 a1 a2 a3 = some r) :
  CallH Tryz.prog 57 [.agg (cTState a0),.one (.d (.int .i64 a1)),.one (.d (.int .i64 a2)),.agg (cTGraph a3)] []
   (.one (.d (.bool r))) [] := by
 unfold L_ref04_picks at hD
 refine rc Tryz.func57 rfl Tryz.ntmps57 fun S Φ P0 wb ac h => ?_
 refine qs 4 [] [1,2,4,7] [(1,0),(2,0)] h fun ac wd h => ?_
 refine wp_seq ?_
 obtain ⟨aa,ab,hD⟩ := Option.bind_eq_some_iff.1 hD
 refine r_seqJ (fun ac wd => ∃ (ad : Bool),ad = aa ∧ SL ⟨wb,S,Φ,P0⟩ 89 19 [(1,.one (.d (.int .i64 a1))),(2,.one (.d (.int .i64 a2))),(4,.one (.ptr (1,0) 0)),(7,.one (.ptr (2,0) 0)),(26,.one (.d (.bool ad)))] [((1,0),some (.box 86 (cTState a0))),((2,0),some (.box 41 (cTGraph a3)))] ac wd) ?_ ?_
 ·
  rcases i2 ab with ⟨ae,ab⟩ | ⟨ae,ab⟩
  ·
   refine qeg [] [none,none,none,none,none,some (some 16,false),some (some 16,false),some (some 16,false),some (some 16,false),some (some 16,false),some (some 21,true),some (some 21,true),some (some 21,true),some (some 16,false),none] [1,2,4,7,26] [(1,0),(2,0)] h fun ac wd h => ?_
   injection ab with ab; subst ab
   exact ⟨true,rfl,h.z⟩
  ·
   rcases i2 ab with ⟨af,ab⟩ | ⟨af,ab⟩
   ·
    refine qeg [] [none,none,none,none,none,some (some 16,false),some (some 16,false),some (some 16,false),some (some 16,false),some (some 16,false),some (some 21,true),some (some 21,true),some (some 21,true),some (some 16,false),none] [1,2,4,7,26] [(1,0),(2,0)] h fun ac wd h => ?_
    injection ab with ab; subst ab
    exact ⟨!(decide (a0.Mode = 1)),rfl,h.z⟩
   ·
    refine qeg [] [none,none,none,none,none,some (some 16,false),some (some 16,false),some (some 16,false),some (some 16,false),some (some 16,false),some (some 21,true),some (some 21,true),some (some 21,true),some (some 16,false),none] [1,2,4,7,26] [(1,0),(2,0)] h fun ac wd h => ?_
    injection ab with ab; subst ab
    exact ⟨false,rfl,h.z⟩
 ·
  rintro ac wd ⟨ad,rfl,h⟩
  (try dsimp only at hD)
  rcases i2b hD with ⟨ag,hD⟩ | ⟨ag,hD⟩
  ·
   refine kT h ?_
   refine qs 20 [] [8] [] h fun ac wd h => ?_
   refine wp_ret ?_
   injection hD with hD
   subst hD
   exact rE h [.tmp 8]
  ·
   refine kF h ?_
   refine wp_skip ?_
   change Code.wp Tryz.prog _ _ _ _
   refine wp_seq ?_
   refine qs 20 [] [1,2,4,7,9] [(1,0),(2,0)] h fun ac wd h => ?_
   refine wp_block ?_
   refine r_while (fun nf ac wd => ∃ (ah : Int),L_ref04_picks_l1 a0 a1 a2 a3 nf ah = some r ∧ SL ⟨wb,S,Φ,P0⟩ 89 236 [(1,.one (.d (.int .i64 a1))),(2,.one (.d (.int .i64 a2))),(4,.one (.ptr (1,0) 0)),(7,.one (.ptr (2,0) 0)),(9,.one (.d (.int .i64 ah)))] [((1,0),some (.box 86 (cTState a0))),((2,0),some (.box 41 (cTGraph a3)))] ac wd) (((a0.Picks.length : Int) - 0).toNat + 1) ⟨0,hD,h.z⟩ (fun nf ac wd hJ => ?_)
   obtain ⟨ah,ai,h⟩ := hJ
   cases nf with
   | zero => rw [L_ref04_picks_l1] at ai; cases ai
   | succ nf =>
    rw [L_ref04_picks_l1] at ai
    refine wp_seq ?_
    refine qs 241 [] [1,2,4,7,9,31] [(1,0),(2,0)] h fun ac wd h => ?_
    rcases i2 ai with ⟨aj,ai⟩ | ⟨aj,ai⟩
    ·
     refine kT h ?_
     refine wp_skip ?_
     change Code.wp Tryz.prog _ _ _ _
     obtain ⟨ak,al,ai⟩ := Option.bind_eq_some_iff.1 ai
     refine r_seqJ (fun ac wd => (.inl ()) = ak ∧ SL ⟨wb,S,Φ,P0⟩ 89 341 [(1,.one (.d (.int .i64 a1))),(2,.one (.d (.int .i64 a2))),(4,.one (.ptr (1,0) 0)),(7,.one (.ptr (2,0) 0)),(9,.one (.d (.int .i64 ah)))] [((1,0),some (.box 86 (cTState a0))),((2,0),some (.box 41 (cTGraph a3)))] ac wd) ?_ ?_
     ·
      refine wp_block ?_
      obtain ⟨am,an,ao,ap,aq,al⟩ := aB al
      refine qs 248 [] [1,2,4,7,9,10] [(1,0),(2,0),(246,0)] h fun ac wd h => ?_
      refine wp_seq ?_
      obtain ⟨ar,au,al⟩ := Option.bind_eq_some_iff.1 al
      refine r_seqJ (fun ac wd => ∃ (av : Bool),av = ar ∧ SL ⟨wb,S,Φ,P0⟩ 89 263 [(1,.one (.d (.int .i64 a1))),(2,.one (.d (.int .i64 a2))),(4,.one (.ptr (1,0) 0)),(7,.one (.ptr (2,0) 0)),(9,.one (.d (.int .i64 ah))),(10,.one (.ptr (246,0) 0)),(53,.one (.d (.bool av)))] [((1,0),some (.box 86 (cTState a0))),((2,0),some (.box 41 (cTGraph a3))),((246,0),some (.box 157 (cTPick am)))] ac wd) ?_ ?_
      ·
       rcases i2 au with ⟨aw,au⟩ | ⟨aw,au⟩
       ·
        refine qeg [] [none,none,none,none,some (some 42,false),some (some 42,false),some (some 42,false),some (some 42,false),none,none,some (some 48,false),some (some 48,false),some (some 48,false),some (some 48,false),none] [1,2,4,7,9,10,53] [(1,0),(2,0),(246,0)] h fun ac wd h => ?_
        injection au with au; subst au
        exact ⟨true,rfl,h.z⟩
       ·
        rcases i2 au with ⟨ax,au⟩ | ⟨ax,au⟩
        ·
         refine qeg [] [none,none,none,none,some (some 42,false),some (some 42,false),some (some 42,false),some (some 42,false),none,none,some (some 48,false),some (some 48,false),some (some 48,false),some (some 48,false),none] [1,2,4,7,9,10,53] [(1,0),(2,0),(246,0)] h fun ac wd h => ?_
         injection au with au; subst au
         exact ⟨true,rfl,h.z⟩
        ·
         refine qeg [] [none,none,none,none,some (some 42,false),some (some 42,false),some (some 42,false),some (some 42,false),none,none,some (some 48,false),some (some 48,false),some (some 48,false),some (some 48,false),none] [1,2,4,7,9,10,53] [(1,0),(2,0),(246,0)] h fun ac wd h => ?_
         injection au with au; subst au
         exact ⟨decide ((am.Sends.length : Int) > 4),rfl,h.z⟩
      ·
       rintro ac wd ⟨av,rfl,h⟩
       (try dsimp only at al)
       rcases i2b al with ⟨ay,al⟩ | ⟨ay,al⟩
       ·
        refine kT h ?_
        refine qs 264 [] [8] [] h fun ac wd h => ?_
        refine wp_ret ?_
        injection al with al
        subst al
        (try dsimp only at ai)
        injection ai with ai
        subst ai
        exact rE h [.tmp 8]
       ·
        refine kF h ?_
        refine wp_skip ?_
        change Code.wp Tryz.prog _ _ _ _
        refine qs 264 [] [1,2,4,7,9,10,11] [(1,0),(2,0),(246,0)] h fun ac wd h => ?_
        obtain ⟨az,aA,al⟩ := Option.bind_eq_some_iff.1 al
        refine r_meetQ (fun ac wd => (.inl ()) = az ∧ SL ⟨wb,S,Φ,P0⟩ 89 341 [(1,.one (.d (.int .i64 a1))),(2,.one (.d (.int .i64 a2))),(4,.one (.ptr (1,0) 0)),(7,.one (.ptr (2,0) 0)),(9,.one (.d (.int .i64 ah)))] [((1,0),some (.box 86 (cTState a0))),((2,0),some (.box 41 (cTGraph a3)))] ac wd) ?_ ?_
        ·
         refine wp_block ?_
         refine r_while (fun nf ac wd => ∃ (aC : Int),L_ref04_picks_l2 a1 a3 am nf aC = some az ∧ SL ⟨wb,S,Φ,P0⟩ 89 336 [(1,.one (.d (.int .i64 a1))),(2,.one (.d (.int .i64 a2))),(4,.one (.ptr (1,0) 0)),(7,.one (.ptr (2,0) 0)),(9,.one (.d (.int .i64 ah))),(10,.one (.ptr (246,0) 0)),(11,.one (.d (.int .i64 aC)))] [((1,0),some (.box 86 (cTState a0))),((2,0),some (.box 41 (cTGraph a3))),((246,0),some (.box 157 (cTPick am)))] ac wd) (((am.Sends.length : Int) - 0).toNat + 1) ⟨0,aA,h.z⟩ (fun nf ac wd hJ => ?_)
         obtain ⟨aC,aD,h⟩ := hJ
         cases nf with
         | zero => rw [L_ref04_picks_l2] at aD; cases aD
         | succ nf =>
          rw [L_ref04_picks_l2] at aD
          refine wp_seq ?_
          refine qs 341 [] [1,2,4,7,9,10,11,58] [(1,0),(2,0),(246,0)] h fun ac wd h => ?_
          rcases i2 aD with ⟨aE,aD⟩ | ⟨aE,aD⟩
          ·
           refine kT h ?_
           refine wp_skip ?_
           change Code.wp Tryz.prog _ _ _ _
           refine wp_seq ?_
           refine wp_block ?_
           obtain ⟨aF,aG,aD⟩ := Option.bind_eq_some_iff.1 aD
           refine r_seqJ (fun ac wd => ∃ (aH : Bool),aH = aF ∧ SL ⟨wb,S,Φ,P0⟩ 89 369 [(1,.one (.d (.int .i64 a1))),(2,.one (.d (.int .i64 a2))),(4,.one (.ptr (1,0) 0)),(7,.one (.ptr (2,0) 0)),(9,.one (.d (.int .i64 ah))),(10,.one (.ptr (246,0) 0)),(11,.one (.d (.int .i64 aC))),(88,.one (.d (.bool aH)))] [((1,0),some (.box 86 (cTState a0))),((2,0),some (.box 41 (cTGraph a3))),((246,0),some (.box 157 (cTPick am)))] ac wd) ?_ ?_
           ·
            obtain ⟨aI,aJ,aK,aL,aM,aG⟩ := aB aG
            obtain ⟨aN,aO,aG⟩ := oB aG
            rcases i2 aG with ⟨aP,aG⟩ | ⟨aP,aG⟩
            ·
             have aQ := L_ref03_Find_ok aO
             refine deg [factE 349 aQ] [none,none,none,none,none,none,none,none,none,none,none,some (some 71,false),some (some 71,false),some (some 71,false),some (some 71,false),some (some 71,false),some (some 71,false),some (some 71,false),none,none,some (some 80,false),some (some 80,false),some (some 80,false),some (some 80,false),some (some 80,false),some (some 80,false),some (some 80,false),none] [1,2,4,7,9,10,11,88] [(1,0),(2,0),(246,0)] h fun ac wd h => ?_
             injection aG with aG; subst aG
             exact ⟨true,rfl,h.z⟩
            ·
             rcases i2 aG with ⟨aR,aG⟩ | ⟨aR,aG⟩
             ·
              have aQ := L_ref03_Find_ok aO
              refine deg [factE 349 aQ] [none,none,none,none,none,none,none,none,none,none,none,some (some 71,false),some (some 71,false),some (some 71,false),some (some 71,false),some (some 71,false),some (some 71,false),some (some 71,false),none,none,some (some 80,false),some (some 80,false),some (some 80,false),some (some 80,false),some (some 80,false),some (some 80,false),some (some 80,false),none] [1,2,4,7,9,10,11,88] [(1,0),(2,0),(246,0)] h fun ac wd h => ?_
              injection aG with aG; subst aG
              exact ⟨true,rfl,h.z⟩
             ·
              have aQ := L_ref03_Find_ok aO
              refine deg [factE 349 aQ] [none,none,none,none,none,none,none,none,none,none,none,some (some 71,false),some (some 71,false),some (some 71,false),some (some 71,false),some (some 71,false),some (some 71,false),some (some 71,false),none,none,some (some 80,false),some (some 80,false),some (some 80,false),some (some 80,false),some (some 80,false),some (some 80,false),some (some 80,false),none] [1,2,4,7,9,10,11,88] [(1,0),(2,0),(246,0)] h fun ac wd h => ?_
              injection aG with aG; subst aG
              exact ⟨decide (aI.Letter > 3),rfl,h.z⟩
           ·
            rintro ac wd ⟨aH,rfl,h⟩
            (try dsimp only at aD)
            rcases i2b aD with ⟨aS,aD⟩ | ⟨aS,aD⟩
            ·
             refine kT h ?_
             refine qs 370 [] [8] [] h fun ac wd h => ?_
             refine wp_ret ?_
             injection aD with aD
             subst aD
             (try dsimp only at al)
             injection al with al
             subst al
             (try dsimp only at ai)
             injection ai with ai
             subst ai
             exact rE h [.tmp 8]
            ·
             refine kF h ?_
             refine wp_skip ?_
             change Code.wp Tryz.prog _ _ _ _
             refine qe [] [1,2,4,7,9,10,11] [(1,0),(2,0),(246,0)] h fun ac wd h => ?_
             exact ⟨nf,Nat.lt_succ_self nf,(IntKind.wrap .i64 (aC + 1)),aD,h.z⟩
          ·
           refine kF h ?_
           refine wp_exit ?_
           injection aD with aD; subst aD
           exact ⟨rfl,h.z⟩
        ·
         rintro ac wd ⟨rfl,h⟩
         (try dsimp only at al)
         injection al with al; subst al
         exact ⟨rfl,h.z⟩
     ·
      rintro ac wd ⟨rfl,h⟩
      (try dsimp only at ai)
      refine qe [] [1,2,4,7,9] [(1,0),(2,0)] h fun ac wd h => ?_
      exact ⟨nf,Nat.lt_succ_self nf,(IntKind.wrap .i64 (ah + 1)),ai,h.z⟩
    ·
     refine kF h ?_
     refine wp_exit ?_
     change Code.wp Tryz.prog _ _ _ _
     refine qs 242 [] [8] [] h fun ac wd h => ?_
     refine wp_ret ?_
     injection ai with ai
     subst ai
     exact rE h [.tmp 8]

end Go.Proofs.YtabbejabdkkaiaaGreat
