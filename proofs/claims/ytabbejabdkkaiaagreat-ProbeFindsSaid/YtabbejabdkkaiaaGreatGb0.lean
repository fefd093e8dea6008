/- Functions as typed ones,and that the program's functions answer as these do. No condition. -/
import Derived.Test.YtabbejabdkkaiaaGreatGd
set_option linter.unusedSimpArgs false
set_option linter.unusedVariables false
set_option maxRecDepth 20000
set_option maxHeartbeats 4000000
namespace Go.Proofs.YtabbejabdkkaiaaGreat
open Go.RowKit

theorem L_law03_Cut_ok {a0 : TGraph} {r : TGraph} (hD : L_law03_Cut a0 = some r) :
  CallH Tryz.prog 28 [.agg (cTGraph a0)] []
   (.agg [.d (.int .i64 r.N),.d (.sl (List.map eA2I r.Links))]) [] := by
 unfold L_law03_Cut at hD
 refine rc Tryz.func28 rfl Tryz.ntmps28 fun S Φ P0 wb ac h => ?_
 refine qs 3 [] [1,2] [(1,0),(2,0)] h fun ac wd h => ?_
 obtain ⟨aa,hD⟩ := iT hD
 obtain ⟨ab,hD⟩ := iT hD
 obtain ⟨ad,ae,hD⟩ := vB hD
 refine qs 12 [] [1,2] [(1,0),(2,0)] h fun ac wd h => ?_
 refine qs 14 [] [2] [(2,0)] h fun ac wd h => ?_
 refine wp_ret ?_
 injection hD with hD
 subst hD
 exact rE h [.cell 2 24]

theorem L_law04_cut_own {a0 : TState} {r : TState} (hD : L_law04_cut a0 = some r) :
  CallH Tryz.prog 61 [.agg (cTState a0)] []
   (.agg [.d (.int .i64 r.Mode),.own (1,0) r.Waits.length,.own (1,1) r.Picks.length,.own (1,2) r.Takes.length]) [((1,0),some (.row 3 1 (dat (List.map eI r.Waits)))),((1,1),some (.row 165 2 (openRows cols_165 (List.map eTPick r.Picks)))),((1,2),some (.row 166 3 (dat (List.map eTTake r.Takes))))] := by
 unfold L_law04_cut at hD
 refine rc Tryz.func61 rfl Tryz.ntmps61 fun S Φ P0 wb ac h => ?_
 refine qs 3 [] [1,2] [(1,0),(2,0)] h fun ac wd h => ?_
 obtain ⟨aa,hD⟩ := iT hD
 obtain ⟨ab,hD⟩ := iT hD
 obtain ⟨ad,ae,hD⟩ := vB hD
 obtain ⟨af,hD⟩ := iT hD
 refine ds 17 [] [1,2,3] [(1,0),(2,0),(13,0),(15,0)] h fun ac wd h => ?_
 refine wp_seq ?_
 refine qs 18 [] [1,2,3,4] [(1,0),(2,0),(13,0),(15,0)] h fun ac wd h => ?_
 obtain ⟨ag,ah,hD⟩ := Option.bind_eq_some_iff.1 hD
 refine r_meet (fun ac wd => ∃ (ai : List TPick),ai = ag ∧ SL ⟨wb,S,Φ,P0⟩ 74 101 [(1,.one (.ptr (1,0) 0)),(2,.one (.ptr (2,0) 0)),(3,.one (.ptr (15,0) 0))] [((1,0),some (.box 138 (cTState a0))),((2,0),some (.box 138 [.d (.int .i64 0),.nil,.nil,.nil])),((13,0),some (.row 3 1 (dat (List.map eI ad)))),((15,0),some (.box 138 [.d (.int .i64 a0.Mode),.own (13,0) ad.length,.own (18,0) ai.length,.nil])),((18,0),some (.row 165 2 (openRows cols_165 (List.map eTPick ai))))] ac wd) ?_ ?_
 ·
  refine wp_block ?_
  have h := SL.bornB h (15,0) 2 165 2 (by simp only [EZ,simprocAttr, *] <;> rfl) (by simp only [EZ,simprocAttr, *] <;> rfl)
  refine r_while (fun nf ac wd => ∃ (aj : Int) (ak : List TPick),L_law04_cut_l1 a0 nf aj ak = some ag ∧ SL ⟨wb,S,Φ,P0⟩ 74 92 [(1,.one (.ptr (1,0) 0)),(2,.one (.ptr (2,0) 0)),(3,.one (.ptr (15,0) 0)),(4,.one (.d (.int .i64 aj)))] [((1,0),some (.box 138 (cTState a0))),((2,0),some (.box 138 [.d (.int .i64 0),.nil,.nil,.nil])),((13,0),some (.row 3 1 (dat (List.map eI ad)))),((15,0),some (.box 138 [.d (.int .i64 a0.Mode),.own (13,0) ad.length,.own (18,0) ak.length,.nil])),((18,0),some (.row 165 2 (openRows cols_165 (List.map eTPick ak))))] ac wd) (((a0.Picks.length : Int) - 0).toNat + 1) ⟨0,([] : List TPick),ah,h.z⟩ (fun nf ac wd hJ => ?_)
  obtain ⟨aj,ak,al,h⟩ := hJ
  cases nf with
  | zero => rw [L_law04_cut_l1] at al; cases al
  | succ nf =>
   rw [L_law04_cut_l1] at al
   refine wp_seq ?_
   obtain ⟨am,an,al⟩ := Option.bind_eq_some_iff.1 al
   refine r_seqJ (fun ac wd => ∃ (ao : Bool),ao = am ∧ SL ⟨wb,S,Φ,P0⟩ 74 101 [(1,.one (.ptr (1,0) 0)),(2,.one (.ptr (2,0) 0)),(3,.one (.ptr (15,0) 0)),(4,.one (.d (.int .i64 aj))),(27,.one (.d (.bool ao)))] [((1,0),some (.box 138 (cTState a0))),((2,0),some (.box 138 [.d (.int .i64 0),.nil,.nil,.nil])),((13,0),some (.row 3 1 (dat (List.map eI ad)))),((15,0),some (.box 138 [.d (.int .i64 a0.Mode),.own (13,0) ad.length,.own (18,0) ak.length,.nil])),((18,0),some (.row 165 2 (openRows cols_165 (List.map eTPick ak))))] ac wd) ?_ ?_
   ·
    rcases i2 an with ⟨ap,an⟩ | ⟨ap,an⟩
    ·
     refine qeg [] [none,none,none,none,none,none,some (some 24,true),some (some 24,true),none] [1,2,3,4,27] [(1,0),(2,0),(13,0),(15,0),(18,0)] h fun ac wd h => ?_
     injection an with an; subst an
     exact ⟨decide (aj < 10),rfl,h.z⟩
    ·
     refine qeg [] [none,none,none,none,none,none,some (some 24,true),some (some 24,true),none] [1,2,3,4,27] [(1,0),(2,0),(13,0),(15,0),(18,0)] h fun ac wd h => ?_
     injection an with an; subst an
     exact ⟨false,rfl,h.z⟩
   ·
    rintro ac wd ⟨ao,rfl,h⟩
    (try dsimp only at al)
    rcases i2b al with ⟨aq,al⟩ | ⟨aq,al⟩
    ·
     refine kT h ?_
     refine wp_skip ?_
     change Code.wp Tryz.prog _ _ _ _
     refine wp_seq ?_
     refine wp_block ?_
     obtain ⟨ar,au,av,aw,ax,al⟩ := aB al
     refine qs 108 [] [1,2,3,4,5] [(1,0),(2,0),(13,0),(15,0),(18,0),(106,0)] h fun ac wd h => ?_
     obtain ⟨ay,al⟩ := iT al
     obtain ⟨az,al⟩ := iT al
     obtain ⟨aA,aC,al⟩ := vB al
     obtain ⟨aD,al⟩ := iT al
     obtain ⟨aE,al⟩ := iT al
     refine de [] [1,2,3,4] [(1,0),(2,0),(13,0),(15,0),(120,0),(123,0)] h fun ac wd h => ?_
     have h := h.fL (cols := (fun _ => .sc)) (123,0) (120,0) (openRows cols_165 (List.map eTPick ak)) [.d (.int .i64 ar.Next),.own (120,0) aA.length] 1 (List.map eTSend aA) (sc_167 _)
     have h := h.sm 126 [(1,.one (.ptr (1,0) 0)),(2,.one (.ptr (2,0) 0)),(3,.one (.ptr (15,0) 0)),(4,.one (.d (.int .i64 aj)))]
      [((1,0),some (.box 138 (cTState a0))),((2,0),some (.box 138 [.d (.int .i64 0),.nil,.nil,.nil])),((13,0),some (.row 3 1 (dat (List.map eI ad)))),((15,0),some (.box 138 [.d (.int .i64 a0.Mode),.own (13,0) ad.length,.own (123,0) (ak.length + 1),.nil])),((123,0),some (.row 165 2 ((openRows cols_165 (List.map eTPick ak) ++ [[.d (.int .i64 ar.Next),.tr (.sl 167 2 (fun _ => .sc)) (.sl (List.map eTSend aA))]]))))]
     change Code.wp Tryz.prog _ _ _ _
     refine qe [] [1,2,3,4] [(1,0),(2,0),(13,0),(15,0),(123,0)] h fun ac wd h => ?_
     have h := h.sw (18,0) (123,0) 129
     exact ⟨nf,Nat.lt_succ_self nf,(IntKind.wrap .i64 (aj + 1)),(ak ++ [(TPick.mk ar.Next aA)]),al,h.z⟩
    ·
     refine kF h ?_
     refine wp_exit ?_
     injection al with al; subst al
     exact ⟨ak,rfl,h.z⟩
 ·
  rintro ac wd ⟨ai,rfl,h⟩
  (try dsimp only at hD)
  refine wp_seq ?_
  refine qs 102 [] [1,2,3,6] [(1,0),(2,0),(13,0),(15,0),(18,0)] h fun ac wd h => ?_
  refine wp_block ?_
  have h := SL.bornB h (15,0) 3 166 3 (by simp only [EZ,simprocAttr, *] <;> rfl) (by simp only [EZ,simprocAttr, *] <;> rfl)
  refine r_while (fun nf ac wd => ∃ (aF : Int) (aG : List TTake),L_law04_cut_l2 a0 ai ad nf aF aG = some r ∧ SL ⟨wb,S,Φ,P0⟩ 74 148 [(1,.one (.ptr (1,0) 0)),(2,.one (.ptr (2,0) 0)),(3,.one (.ptr (15,0) 0)),(6,.one (.d (.int .i64 aF)))] [((1,0),some (.box 138 (cTState a0))),((2,0),some (.box 138 [.d (.int .i64 0),.nil,.nil,.nil])),((13,0),some (.row 3 1 (dat (List.map eI ad)))),((15,0),some (.box 138 [.d (.int .i64 a0.Mode),.own (13,0) ad.length,.own (18,0) ai.length,.own (102,0) aG.length])),((18,0),some (.row 165 2 (openRows cols_165 (List.map eTPick ai)))),((102,0),some (.row 166 3 (dat (List.map eTTake aG))))] ac wd) (((a0.Takes.length : Int) - 0).toNat + 1) ⟨0,([] : List TTake),hD,h.z⟩ (fun nf ac wd hJ => ?_)
  obtain ⟨aF,aG,aH,h⟩ := hJ
  cases nf with
  | zero => rw [L_law04_cut_l2] at aH; cases aH
  | succ nf =>
   rw [L_law04_cut_l2] at aH
   refine wp_seq ?_
   obtain ⟨aI,aJ,aH⟩ := Option.bind_eq_some_iff.1 aH
   refine r_seqJ (fun ac wd => ∃ (aK : Bool),aK = aI ∧ SL ⟨wb,S,Φ,P0⟩ 74 157 [(1,.one (.ptr (1,0) 0)),(2,.one (.ptr (2,0) 0)),(3,.one (.ptr (15,0) 0)),(6,.one (.d (.int .i64 aF))),(60,.one (.d (.bool aK)))] [((1,0),some (.box 138 (cTState a0))),((2,0),some (.box 138 [.d (.int .i64 0),.nil,.nil,.nil])),((13,0),some (.row 3 1 (dat (List.map eI ad)))),((15,0),some (.box 138 [.d (.int .i64 a0.Mode),.own (13,0) ad.length,.own (18,0) ai.length,.own (102,0) aG.length])),((18,0),some (.row 165 2 (openRows cols_165 (List.map eTPick ai)))),((102,0),some (.row 166 3 (dat (List.map eTTake aG))))] ac wd) ?_ ?_
   ·
    rcases i2 aJ with ⟨aL,aJ⟩ | ⟨aL,aJ⟩
    ·
     refine qeg [] [none,none,none,none,none,none,some (some 57,true),some (some 57,true),none] [1,2,3,6,60] [(1,0),(2,0),(13,0),(15,0),(18,0),(102,0)] h fun ac wd h => ?_
     injection aJ with aJ; subst aJ
     exact ⟨decide (aF < 30),rfl,h.z⟩
    ·
     refine qeg [] [none,none,none,none,none,none,some (some 57,true),some (some 57,true),none] [1,2,3,6,60] [(1,0),(2,0),(13,0),(15,0),(18,0),(102,0)] h fun ac wd h => ?_
     injection aJ with aJ; subst aJ
     exact ⟨false,rfl,h.z⟩
   ·
    rintro ac wd ⟨aK,rfl,h⟩
    (try dsimp only at aH)
    rcases i2b aH with ⟨aM,aH⟩ | ⟨aM,aH⟩
    ·
     refine kT h ?_
     refine wp_skip ?_
     change Code.wp Tryz.prog _ _ _ _
     refine wp_seq ?_
     refine wp_block ?_
     obtain ⟨aN,aO,aP,aQ,aR,aH⟩ := aB aH
     obtain ⟨aS,aH⟩ := iT aH
     refine de [] [1,2,3,6] [(1,0),(2,0),(13,0),(15,0),(18,0),(165,0)] h fun ac wd h => ?_
     change Code.wp Tryz.prog _ _ _ _
     refine qe [] [1,2,3,6] [(1,0),(2,0),(13,0),(15,0),(18,0),(165,0)] h fun ac wd h => ?_
     have h := h.sw (102,0) (165,0) 171
     exact ⟨nf,Nat.lt_succ_self nf,(IntKind.wrap .i64 (aF + 1)),(aG ++ [aN]),aH,h.z⟩
    ·
     refine kF h ?_
     refine wp_exit ?_
     change Code.wp Tryz.prog _ _ _ _
     refine qs 159 [] [2] [(2,0),(13,0),(18,0),(102,0)] h fun ac wd h => ?_
     refine wp_ret ?_
     have h := h.sw (1,0) (13,0) 159
     have h := h.sw (1,1) (18,0) 159
     have h := h.sw (1,2) (102,0) 159
     injection aH with aH
     subst aH
     exact rO h [.cell 2 138] [(1,0),(1,1),(1,2)]
theorem L_law04_cut_ok {a0 : TState} {r : TState} (hD : L_law04_cut a0 = some r) :
  CallH Tryz.prog 61 [.agg (cTState a0)] []
   (.agg [.d (.int .i64 r.Mode),.d (.sl (List.map eI r.Waits)),.d (.sl (List.map eTPick r.Picks)),.d (.sl (List.map eTTake r.Takes))]) [] :=
 (L_law04_cut_own hD).fr

theorem L_law04_Cut_own {a0 : (List TNode)} {r : (List TNode)} (hD : L_law04_Cut a0 = some r) :
  CallH Tryz.prog 29 [.one (.d (.sl (List.map eTNode a0)))] []
   (.one (.own (1,0) r.length)) [((1,0),some (.row 80 2 (openRows cols_80 (List.map eTNode r))))] := by
 unfold L_law04_Cut at hD
 refine rc Tryz.func29 rfl Tryz.ntmps29 fun S Φ P0 wb ac h => ?_
 refine qs 2 [] [0] [] h fun ac wd h => ?_
 refine qs 4 [] [0,3] [(2,0)] h fun ac wd h => ?_
 refine wp_seq ?_
 refine qs 5 [] [0,3,4] [(2,0)] h fun ac wd h => ?_
 refine wp_block ?_
 refine r_while (fun nf ac wd => ∃ (aa : Int) (ab : List TNode),L_law04_Cut_l1 a0 nf aa ab = some r ∧ SL ⟨wb,S,Φ,P0⟩ 57 199 [(0,.one (.d (.sl (List.map eTNode a0)))),(3,.one (.own (2,0) ab.length)),(4,.one (.d (.int .i64 aa)))] [((2,0),some (.row 80 2 (openRows cols_80 (List.map eTNode ab))))] ac wd) (((a0.length : Int) - 0).toNat + 1) ⟨0,([] : List TNode),hD,h.z⟩ (fun nf ac wd hJ => ?_)
 obtain ⟨aa,ab,ad,h⟩ := hJ
 cases nf with
 | zero => rw [L_law04_Cut_l1] at ad; cases ad
 | succ nf =>
  rw [L_law04_Cut_l1] at ad
  refine wp_seq ?_
  obtain ⟨ae,af,ad⟩ := Option.bind_eq_some_iff.1 ad
  refine r_seqJ (fun ac wd => ∃ (ag : Bool),ag = ae ∧ SL ⟨wb,S,Φ,P0⟩ 57 207 [(0,.one (.d (.sl (List.map eTNode a0)))),(3,.one (.own (2,0) ab.length)),(4,.one (.d (.int .i64 aa))),(15,.one (.d (.bool ag)))] [((2,0),some (.row 80 2 (openRows cols_80 (List.map eTNode ab))))] ac wd) ?_ ?_
  ·
   rcases i2 af with ⟨ah,af⟩ | ⟨ah,af⟩
   ·
    refine qeg [] [none,none,none,none,none,some (some 12,true),some (some 12,true),none] [0,3,4,15] [(2,0)] h fun ac wd h => ?_
    injection af with af; subst af
    exact ⟨decide (aa < 8),rfl,h.z⟩
   ·
    refine qeg [] [none,none,none,none,none,some (some 12,true),some (some 12,true),none] [0,3,4,15] [(2,0)] h fun ac wd h => ?_
    injection af with af; subst af
    exact ⟨false,rfl,h.z⟩
  ·
   rintro ac wd ⟨ag,rfl,h⟩
   (try dsimp only at ad)
   rcases i2b ad with ⟨ai,ad⟩ | ⟨ai,ad⟩
   ·
    refine kT h ?_
    refine wp_skip ?_
    change Code.wp Tryz.prog _ _ _ _
    obtain ⟨aj,ak,ad⟩ := Option.bind_eq_some_iff.1 ad
    refine r_seqJ (fun ac wd => ∃ (al : List TNode),al = aj ∧ SL ⟨wb,S,Φ,P0⟩ 57 293 [(0,.one (.d (.sl (List.map eTNode a0)))),(3,.one (.own (291,0) al.length)),(4,.one (.d (.int .i64 aa)))] [((291,0),some (.row 80 2 (openRows cols_80 (List.map eTNode al))))] ac wd) ?_ ?_
    ·
     refine wp_block ?_
     obtain ⟨am,an,ao,ap,aq,ak⟩ := aB ak
     refine qs 215 [] [0,3,4,5] [(2,0),(213,0)] h fun ac wd h => ?_
     refine wp_seq ?_
     refine qs 216 [] [0,3,4,5,6] [(2,0),(213,0)] h fun ac wd h => ?_
     obtain ⟨ar,au,ak⟩ := Option.bind_eq_some_iff.1 ak
     refine r_meet (fun ac wd => ∃ (av : List TState),av = ar ∧ SL ⟨wb,S,Φ,P0⟩ 57 288 [(0,.one (.d (.sl (List.map eTNode a0)))),(3,.one (.own (2,0) ab.length)),(4,.one (.d (.int .i64 aa))),(5,.one (.ptr (213,0) 0))] [((2,0),some (.row 80 2 (openRows cols_80 (List.map eTNode ab)))),((213,0),some (.box 80 [.d (.int .i64 am.Start),.own (216,0) av.length])),((216,0),some (.row 138 4 (openRows cols_138 (List.map eTState av))))] ac wd) ?_ ?_
     ·
      refine wp_block ?_
      have h := SL.bornB h (213,0) 1 138 4 (by simp only [EZ,simprocAttr, *] <;> rfl) (by simp only [EZ,simprocAttr, *] <;> rfl)
      refine r_while (fun nf ac wd => ∃ (aw : Int) (ax : List TState),L_law04_Cut_l2 am nf aw ax = some ar ∧ SL ⟨wb,S,Φ,P0⟩ 57 276 [(0,.one (.d (.sl (List.map eTNode a0)))),(3,.one (.own (2,0) ab.length)),(4,.one (.d (.int .i64 aa))),(5,.one (.ptr (213,0) 0)),(6,.one (.d (.int .i64 aw)))] [((2,0),some (.row 80 2 (openRows cols_80 (List.map eTNode ab)))),((213,0),some (.box 80 [.d (.int .i64 am.Start),.own (216,0) ax.length])),((216,0),some (.row 138 4 (openRows cols_138 (List.map eTState ax))))] ac wd) (((am.States.length : Int) - 0).toNat + 1) ⟨0,([] : List TState),au,h.z⟩ (fun nf ac wd hJ => ?_)
      obtain ⟨aw,ax,ay,h⟩ := hJ
      cases nf with
      | zero => rw [L_law04_Cut_l2] at ay; cases ay
      | succ nf =>
       rw [L_law04_Cut_l2] at ay
       refine wp_seq ?_
       obtain ⟨az,aA,ay⟩ := Option.bind_eq_some_iff.1 ay
       refine r_seqJ (fun ac wd => ∃ (aC : Bool),aC = az ∧ SL ⟨wb,S,Φ,P0⟩ 57 288 [(0,.one (.d (.sl (List.map eTNode a0)))),(3,.one (.own (2,0) ab.length)),(4,.one (.d (.int .i64 aa))),(5,.one (.ptr (213,0) 0)),(6,.one (.d (.int .i64 aw))),(35,.one (.d (.bool aC)))] [((2,0),some (.row 80 2 (openRows cols_80 (List.map eTNode ab)))),((213,0),some (.box 80 [.d (.int .i64 am.Start),.own (216,0) ax.length])),((216,0),some (.row 138 4 (openRows cols_138 (List.map eTState ax))))] ac wd) ?_ ?_
       ·
        rcases i2 aA with ⟨aD,aA⟩ | ⟨aD,aA⟩
        ·
         refine qeg [] [none,none,none,none,none,none,none,none,none,some (some 32,true),some (some 32,true),none] [0,3,4,5,6,35] [(2,0),(213,0),(216,0)] h fun ac wd h => ?_
         injection aA with aA; subst aA
         exact ⟨decide (aw < 10),rfl,h.z⟩
        ·
         refine qeg [] [none,none,none,none,none,none,none,none,none,some (some 32,true),some (some 32,true),none] [0,3,4,5,6,35] [(2,0),(213,0),(216,0)] h fun ac wd h => ?_
         injection aA with aA; subst aA
         exact ⟨false,rfl,h.z⟩
       ·
        rintro ac wd ⟨aC,rfl,h⟩
        (try dsimp only at ay)
        rcases i2b ay with ⟨aE,ay⟩ | ⟨aE,ay⟩
        ·
         refine kT h ?_
         refine wp_skip ?_
         change Code.wp Tryz.prog _ _ _ _
         refine wp_seq ?_
         refine wp_block ?_
         obtain ⟨aF,aG,aH,aI,aJ,ay⟩ := aB ay
         obtain ⟨aK,aL,ay⟩ := oB ay
         obtain ⟨aM,ay⟩ := iT ay
         have aN := ((L_law04_cut_own aL).cls 298).z
         refine de [factO aN] [0,3,4,5,6] [(2,0),(213,0),(298,0),(298,1),(298,2),(300,0)] h fun ac wd h => ?_
         have h := h.fL (cols := (fun _ => .sc)) (300,0) (298,0) (openRows cols_138 (List.map eTState ax)) [.d (.int .i64 aK.Mode),.own (298,0) aK.Waits.length,.own (298,1) aK.Picks.length,.own (298,2) aK.Takes.length] 1 (List.map eI aK.Waits) (sc_3 _)
         have h := h.sm 303 [(0,.one (.d (.sl (List.map eTNode a0)))),(3,.one (.own (2,0) ab.length)),(4,.one (.d (.int .i64 aa))),(5,.one (.ptr (213,0) 0)),(6,.one (.d (.int .i64 aw)))]
          [((2,0),some (.row 80 2 (openRows cols_80 (List.map eTNode ab)))),((213,0),some (.box 80 [.d (.int .i64 am.Start),.own (300,0) (ax.length + 1)])),((298,1),some (.row 165 2 (openRows cols_165 (List.map eTPick aK.Picks)))),((298,2),some (.row 166 3 (dat (List.map eTTake aK.Takes)))),((300,0),some (.row 138 4 ((openRows cols_138 (List.map eTState ax) ++ [[.d (.int .i64 aK.Mode),.tr (.sl 3 1 (fun _ => .sc)) (.sl (List.map eI aK.Waits)),.own (298,1) aK.Picks.length,.own (298,2) aK.Takes.length]]))))]
         have h := h.fL (cols := cols_165) (300,0) (298,1) (openRows cols_138 (List.map eTState ax)) [.d (.int .i64 aK.Mode),.tr (.sl 3 1 (fun _ => .sc)) (.sl (List.map eI aK.Waits)),.own (298,1) aK.Picks.length,.own (298,2) aK.Takes.length] 2 (List.map eTPick aK.Picks) (sc_165 _)
         have h := h.sm 303 [(0,.one (.d (.sl (List.map eTNode a0)))),(3,.one (.own (2,0) ab.length)),(4,.one (.d (.int .i64 aa))),(5,.one (.ptr (213,0) 0)),(6,.one (.d (.int .i64 aw)))]
          [((2,0),some (.row 80 2 (openRows cols_80 (List.map eTNode ab)))),((213,0),some (.box 80 [.d (.int .i64 am.Start),.own (300,0) (ax.length + 1)])),((298,2),some (.row 166 3 (dat (List.map eTTake aK.Takes)))),((300,0),some (.row 138 4 ((openRows cols_138 (List.map eTState ax) ++ [[.d (.int .i64 aK.Mode),.tr (.sl 3 1 (fun _ => .sc)) (.sl (List.map eI aK.Waits)),.tr (.sl 165 2 cols_165) (.sl (List.map eTPick aK.Picks)),.own (298,2) aK.Takes.length]]))))]
         have h := h.fL (cols := (fun _ => .sc)) (300,0) (298,2) (openRows cols_138 (List.map eTState ax)) [.d (.int .i64 aK.Mode),.tr (.sl 3 1 (fun _ => .sc)) (.sl (List.map eI aK.Waits)),.tr (.sl 165 2 cols_165) (.sl (List.map eTPick aK.Picks)),.own (298,2) aK.Takes.length] 3 (List.map eTTake aK.Takes) (sc_166 _)
         have h := h.sm 303 [(0,.one (.d (.sl (List.map eTNode a0)))),(3,.one (.own (2,0) ab.length)),(4,.one (.d (.int .i64 aa))),(5,.one (.ptr (213,0) 0)),(6,.one (.d (.int .i64 aw)))]
          [((2,0),some (.row 80 2 (openRows cols_80 (List.map eTNode ab)))),((213,0),some (.box 80 [.d (.int .i64 am.Start),.own (300,0) (ax.length + 1)])),((300,0),some (.row 138 4 ((openRows cols_138 (List.map eTState ax) ++ [[.d (.int .i64 aK.Mode),.tr (.sl 3 1 (fun _ => .sc)) (.sl (List.map eI aK.Waits)),.tr (.sl 165 2 cols_165) (.sl (List.map eTPick aK.Picks)),.tr (.sl 166 3 (fun _ => .sc)) (.sl (List.map eTTake aK.Takes))]]))))]
         change Code.wp Tryz.prog _ _ _ _
         refine qe [] [0,3,4,5,6] [(2,0),(213,0),(300,0)] h fun ac wd h => ?_
         have h := h.sw (216,0) (300,0) 306
         exact ⟨nf,Nat.lt_succ_self nf,(IntKind.wrap .i64 (aw + 1)),(ax ++ [aK]),ay,h.z⟩
        ·
         refine kF h ?_
         refine wp_exit ?_
         injection ay with ay; subst ay
         exact ⟨ax,rfl,h.z⟩
     ·
      rintro ac wd ⟨av,rfl,h⟩
      (try dsimp only at ak)
      obtain ⟨aO,ak⟩ := iT ak
      refine qe [] [0,3,4] [(216,0),(291,0)] h fun ac wd h => ?_
      have h := h.fL (cols := cols_138) (291,0) (216,0) (openRows cols_80 (List.map eTNode ab)) [.d (.int .i64 am.Start),.own (216,0) av.length] 1 (List.map eTState av) (sc_138 _)
      have h := h.sm 293 [(0,.one (.d (.sl (List.map eTNode a0)))),(3,.one (.own (291,0) (ab.length + 1))),(4,.one (.d (.int .i64 aa)))]
       [((291,0),some (.row 80 2 ((openRows cols_80 (List.map eTNode ab) ++ [[.d (.int .i64 am.Start),.tr (.sl 138 4 cols_138) (.sl (List.map eTState av))]]))))]
      injection ak with ak; subst ak
      exact ⟨(ab ++ [(TNode.mk am.Start av)]),rfl,h.z⟩
    ·
     rintro ac wd ⟨al,rfl,h⟩
     (try dsimp only at ad)
     refine qe [] [0,3,4] [(291,0)] h fun ac wd h => ?_
     have h := h.sw (2,0) (291,0) 296
     exact ⟨nf,Nat.lt_succ_self nf,(IntKind.wrap .i64 (aa + 1)),al,ad,h.z⟩
   ·
    refine kF h ?_
    refine wp_exit ?_
    change Code.wp Tryz.prog _ _ _ _
    refine qs 209 [] [2] [(2,0)] h fun ac wd h => ?_
    refine wp_ret ?_
    have h := h.sw (1,0) (2,0) 209
    injection ad with ad
    subst ad
    exact rO h [.tmp 2] [(1,0)]
theorem L_law04_Cut_ok {a0 : (List TNode)} {r : (List TNode)} (hD : L_law04_Cut a0 = some r) :
  CallH Tryz.prog 29 [.one (.d (.sl (List.map eTNode a0)))] []
   (.one (.d (.sl (List.map eTNode r)))) [] :=
 (L_law04_Cut_own hD).fr

theorem L_law05_Cut_own {a0 : TApp} {r : TApp} (hD : L_law05_Cut a0 = some r) :
  CallH Tryz.prog 5 [.agg (cTApp a0)] []
   (.agg [.d (.int .i64 r.G.N),.d (.sl (List.map eA2I r.G.Links)),.own (1,0) r.T.length,.d (.bool r.Fifo)]) [((1,0),some (.row 80 2 (openRows cols_80 (List.map eTNode r.T))))] := by
 unfold L_law05_Cut at hD
 refine rc Tryz.func5 rfl Tryz.ntmps5 fun S Φ P0 wb ac h => ?_
 refine qs 3 [] [1,2] [(1,0),(2,0)] h fun ac wd h => ?_
 obtain ⟨aa,ab,hD⟩ := oB hD
 obtain ⟨ad,ae,hD⟩ := oB hD
 have af := L_law03_Cut_ok ab
 have ag := ((L_law04_Cut_own ae).cls 8).z
 refine ds 13 [factE 5 af,factO ag] [2] [(2,0),(8,0)] h fun ac wd h => ?_
 refine wp_ret ?_
 have h := h.sw (1,0) (8,0) 13
 injection hD with hD
 subst hD
 exact rO h [.cell 2 27] [(1,0)]
theorem L_law05_Cut_ok {a0 : TApp} {r : TApp} (hD : L_law05_Cut a0 = some r) :
  CallH Tryz.prog 5 [.agg (cTApp a0)] []
   (.agg [.d (.int .i64 r.G.N),.d (.sl (List.map eA2I r.G.Links)),.d (.sl (List.map eTNode r.T)),.d (.bool r.Fifo)]) [] :=
 (L_law05_Cut_own hD).fr

theorem L_law03_Ref_ok {a0 : TGraph} {r : TGraph} (hD : L_law03_Ref a0 = some r) :
  CallH Tryz.prog 30 [.agg (cTGraph a0)] []
   (.agg [.d (.int .i64 r.N),.d (.sl (List.map eA2I r.Links))]) [] := by
 unfold L_law03_Ref at hD
 refine rc Tryz.func30 rfl Tryz.ntmps30 fun S Φ P0 wb ac h => ?_
 refine qs 3 [] [1,2] [(1,0),(2,0)] h fun ac wd h => ?_
 refine qs 9 [] [2] [(2,0)] h fun ac wd h => ?_
 refine wp_ret ?_
 injection hD with hD
 subst hD
 exact rE h [.cell 2 41]

theorem L_law04_state_own {a0 : TState} {r : TState} (hD : L_law04_state a0 = some r) :
  CallH Tryz.prog 62 [.agg (cTState a0)] []
   (.agg [.d (.int .i64 r.Mode),.d (.sl (List.map eI r.Waits)),.own (1,0) r.Picks.length,.own (1,1) r.Takes.length]) [((1,0),some (.row 157 2 (openRows cols_157 (List.map eTPick r.Picks)))),((1,1),some (.row 161 3 (dat (List.map eTTake r.Takes))))] := by
 unfold L_law04_state at hD
 refine rc Tryz.func62 rfl Tryz.ntmps62 fun S Φ P0 wb ac h => ?_
 refine qs 3 [] [1,2] [(1,0),(2,0)] h fun ac wd h => ?_
 refine qs 10 [] [1,2,3] [(1,0),(2,0),(8,0)] h fun ac wd h => ?_
 refine wp_seq ?_
 refine qs 11 [] [1,2,3,4] [(1,0),(2,0),(8,0)] h fun ac wd h => ?_
 obtain ⟨aa,ab,hD⟩ := Option.bind_eq_some_iff.1 hD
 refine r_meet (fun ac wd => ∃ (ad : List TPick),ad = aa ∧ SL ⟨wb,S,Φ,P0⟩ 102 240 [(1,.one (.ptr (1,0) 0)),(2,.one (.ptr (2,0) 0)),(3,.one (.ptr (8,0) 0))] [((1,0),some (.box 138 (cTState a0))),((2,0),some (.box 86 [.d (.int .i64 0),.nil,.nil,.nil])),((8,0),some (.box 86 [.d (.int .i64 a0.Mode),.d (.sl (List.map eI a0.Waits)),.own (11,0) ad.length,.nil])),((11,0),some (.row 157 2 (openRows cols_157 (List.map eTPick ad))))] ac wd) ?_ ?_
 ·
  refine wp_block ?_
  have h := SL.bornB h (8,0) 2 157 2 (by simp only [EZ,simprocAttr, *] <;> rfl) (by simp only [EZ,simprocAttr, *] <;> rfl)
  refine r_while (fun nf ac wd => ∃ (ae : Int) (af : List TPick),L_law04_state_l1 a0 nf ae af = some aa ∧ SL ⟨wb,S,Φ,P0⟩ 102 235 [(1,.one (.ptr (1,0) 0)),(2,.one (.ptr (2,0) 0)),(3,.one (.ptr (8,0) 0)),(4,.one (.d (.int .i64 ae)))] [((1,0),some (.box 138 (cTState a0))),((2,0),some (.box 86 [.d (.int .i64 0),.nil,.nil,.nil])),((8,0),some (.box 86 [.d (.int .i64 a0.Mode),.d (.sl (List.map eI a0.Waits)),.own (11,0) af.length,.nil])),((11,0),some (.row 157 2 (openRows cols_157 (List.map eTPick af))))] ac wd) (((a0.Picks.length : Int) - 0).toNat + 1) ⟨0,([] : List TPick),ab,h.z⟩ (fun nf ac wd hJ => ?_)
  obtain ⟨ae,af,ag,h⟩ := hJ
  cases nf with
  | zero => rw [L_law04_state_l1] at ag; cases ag
  | succ nf =>
   rw [L_law04_state_l1] at ag
   refine wp_seq ?_
   refine qs 240 [] [1,2,3,4,17] [(1,0),(2,0),(8,0),(11,0)] h fun ac wd h => ?_
   rcases i2 ag with ⟨ah,ag⟩ | ⟨ah,ag⟩
   ·
    refine kT h ?_
    refine wp_skip ?_
    change Code.wp Tryz.prog _ _ _ _
    obtain ⟨ai,aj,ag⟩ := Option.bind_eq_some_iff.1 ag
    refine r_seqJ (fun ac wd => ∃ (ak : List TPick),ak = ai ∧ SL ⟨wb,S,Φ,P0⟩ 102 344 [(1,.one (.ptr (1,0) 0)),(2,.one (.ptr (2,0) 0)),(3,.one (.ptr (8,0) 0)),(4,.one (.d (.int .i64 ae)))] [((1,0),some (.box 138 (cTState a0))),((2,0),some (.box 86 [.d (.int .i64 0),.nil,.nil,.nil])),((8,0),some (.box 86 [.d (.int .i64 a0.Mode),.d (.sl (List.map eI a0.Waits)),.own (341,0) ak.length,.nil])),((341,0),some (.row 157 2 (openRows cols_157 (List.map eTPick ak))))] ac wd) ?_ ?_
    ·
     refine wp_block ?_
     obtain ⟨al,am,an,ao,ap,aj⟩ := aB aj
     refine qs 249 [] [1,2,3,4,5] [(1,0),(2,0),(8,0),(11,0),(247,0)] h fun ac wd h => ?_
     refine wp_seq ?_
     refine qs 250 [] [1,2,3,4,5,6] [(1,0),(2,0),(8,0),(11,0),(247,0)] h fun ac wd h => ?_
     obtain ⟨aq,ar,aj⟩ := Option.bind_eq_some_iff.1 aj
     refine r_meet (fun ac wd => ∃ (au : List TSend),au = aq ∧ SL ⟨wb,S,Φ,P0⟩ 102 337 [(1,.one (.ptr (1,0) 0)),(2,.one (.ptr (2,0) 0)),(3,.one (.ptr (8,0) 0)),(4,.one (.d (.int .i64 ae))),(5,.one (.ptr (247,0) 0))] [((1,0),some (.box 138 (cTState a0))),((2,0),some (.box 86 [.d (.int .i64 0),.nil,.nil,.nil])),((8,0),some (.box 86 [.d (.int .i64 a0.Mode),.d (.sl (List.map eI a0.Waits)),.own (11,0) af.length,.nil])),((11,0),some (.row 157 2 (openRows cols_157 (List.map eTPick af)))),((247,0),some (.box 157 [.d (.int .i64 al.Next),.own (250,0) au.length])),((250,0),some (.row 159 2 (dat (List.map eTSend au))))] ac wd) ?_ ?_
     ·
      refine wp_block ?_
      have h := SL.bornB h (247,0) 1 159 2 (by simp only [EZ,simprocAttr, *] <;> rfl) (by simp only [EZ,simprocAttr, *] <;> rfl)
      refine r_while (fun nf ac wd => ∃ (av : Int) (aw : List TSend),L_law04_state_l2 al nf av aw = some aq ∧ SL ⟨wb,S,Φ,P0⟩ 102 328 [(1,.one (.ptr (1,0) 0)),(2,.one (.ptr (2,0) 0)),(3,.one (.ptr (8,0) 0)),(4,.one (.d (.int .i64 ae))),(5,.one (.ptr (247,0) 0)),(6,.one (.d (.int .i64 av)))] [((1,0),some (.box 138 (cTState a0))),((2,0),some (.box 86 [.d (.int .i64 0),.nil,.nil,.nil])),((8,0),some (.box 86 [.d (.int .i64 a0.Mode),.d (.sl (List.map eI a0.Waits)),.own (11,0) af.length,.nil])),((11,0),some (.row 157 2 (openRows cols_157 (List.map eTPick af)))),((247,0),some (.box 157 [.d (.int .i64 al.Next),.own (250,0) aw.length])),((250,0),some (.row 159 2 (dat (List.map eTSend aw))))] ac wd) (((al.Sends.length : Int) - 0).toNat + 1) ⟨0,([] : List TSend),ar,h.z⟩ (fun nf ac wd hJ => ?_)
      obtain ⟨av,aw,ax,h⟩ := hJ
      cases nf with
      | zero => rw [L_law04_state_l2] at ax; cases ax
      | succ nf =>
       rw [L_law04_state_l2] at ax
       refine wp_seq ?_
       refine qs 337 [] [1,2,3,4,5,6,35] [(1,0),(2,0),(8,0),(11,0),(247,0),(250,0)] h fun ac wd h => ?_
       rcases i2 ax with ⟨ay,ax⟩ | ⟨ay,ax⟩
       ·
        refine kT h ?_
        refine wp_skip ?_
        change Code.wp Tryz.prog _ _ _ _
        refine wp_seq ?_
        refine wp_block ?_
        obtain ⟨az,aA,aC,aD,aE,ax⟩ := aB ax
        obtain ⟨aF,ax⟩ := iT ax
        refine de [] [1,2,3,4,5,6] [(1,0),(2,0),(8,0),(11,0),(247,0),(361,0)] h fun ac wd h => ?_
        change Code.wp Tryz.prog _ _ _ _
        refine qe [] [1,2,3,4,5,6] [(1,0),(2,0),(8,0),(11,0),(247,0),(361,0)] h fun ac wd h => ?_
        have h := h.sw (250,0) (361,0) 367
        exact ⟨nf,Nat.lt_succ_self nf,(IntKind.wrap .i64 (av + 1)),(aw ++ [az]),ax,h.z⟩
       ·
        refine kF h ?_
        refine wp_exit ?_
        injection ax with ax; subst ax
        exact ⟨aw,rfl,h.z⟩
     ·
      rintro ac wd ⟨au,rfl,h⟩
      (try dsimp only at aj)
      obtain ⟨aG,aj⟩ := iT aj
      refine qe [] [1,2,3,4] [(1,0),(2,0),(8,0),(250,0),(341,0)] h fun ac wd h => ?_
      have h := h.fL (cols := (fun _ => .sc)) (341,0) (250,0) (openRows cols_157 (List.map eTPick af)) [.d (.int .i64 al.Next),.own (250,0) au.length] 1 (List.map eTSend au) (sc_159 _)
      have h := h.sm 344 [(1,.one (.ptr (1,0) 0)),(2,.one (.ptr (2,0) 0)),(3,.one (.ptr (8,0) 0)),(4,.one (.d (.int .i64 ae)))]
       [((1,0),some (.box 138 (cTState a0))),((2,0),some (.box 86 [.d (.int .i64 0),.nil,.nil,.nil])),((8,0),some (.box 86 [.d (.int .i64 a0.Mode),.d (.sl (List.map eI a0.Waits)),.own (341,0) (af.length + 1),.nil])),((341,0),some (.row 157 2 ((openRows cols_157 (List.map eTPick af) ++ [[.d (.int .i64 al.Next),.tr (.sl 159 2 (fun _ => .sc)) (.sl (List.map eTSend au))]]))))]
      injection aj with aj; subst aj
      exact ⟨(af ++ [(TPick.mk al.Next au)]),rfl,h.z⟩
    ·
     rintro ac wd ⟨ak,rfl,h⟩
     (try dsimp only at ag)
     refine qe [] [1,2,3,4] [(1,0),(2,0),(8,0),(341,0)] h fun ac wd h => ?_
     have h := h.sw (11,0) (341,0) 347
     exact ⟨nf,Nat.lt_succ_self nf,(IntKind.wrap .i64 (ae + 1)),ak,ag,h.z⟩
   ·
    refine kF h ?_
    refine wp_exit ?_
    injection ag with ag; subst ag
    exact ⟨af,rfl,h.z⟩
 ·
  rintro ac wd ⟨ad,rfl,h⟩
  (try dsimp only at hD)
  refine wp_seq ?_
  refine qs 241 [] [1,2,3,7] [(1,0),(2,0),(8,0),(11,0)] h fun ac wd h => ?_
  refine wp_block ?_
  have h := SL.bornB h (8,0) 3 161 3 (by simp only [EZ,simprocAttr, *] <;> rfl) (by simp only [EZ,simprocAttr, *] <;> rfl)
  refine r_while (fun nf ac wd => ∃ (aH : Int) (aI : List TTake),L_law04_state_l3 a0 ad nf aH aI = some r ∧ SL ⟨wb,S,Φ,P0⟩ 102 307 [(1,.one (.ptr (1,0) 0)),(2,.one (.ptr (2,0) 0)),(3,.one (.ptr (8,0) 0)),(7,.one (.d (.int .i64 aH)))] [((1,0),some (.box 138 (cTState a0))),((2,0),some (.box 86 [.d (.int .i64 0),.nil,.nil,.nil])),((8,0),some (.box 86 [.d (.int .i64 a0.Mode),.d (.sl (List.map eI a0.Waits)),.own (11,0) ad.length,.own (241,0) aI.length])),((11,0),some (.row 157 2 (openRows cols_157 (List.map eTPick ad)))),((241,0),some (.row 161 3 (dat (List.map eTTake aI))))] ac wd) (((a0.Takes.length : Int) - 0).toNat + 1) ⟨0,([] : List TTake),hD,h.z⟩ (fun nf ac wd hJ => ?_)
  obtain ⟨aH,aI,aJ,h⟩ := hJ
  cases nf with
  | zero => rw [L_law04_state_l3] at aJ; cases aJ
  | succ nf =>
   rw [L_law04_state_l3] at aJ
   refine wp_seq ?_
   refine qs 312 [] [1,2,3,7,74] [(1,0),(2,0),(8,0),(11,0),(241,0)] h fun ac wd h => ?_
   rcases i2 aJ with ⟨aK,aJ⟩ | ⟨aK,aJ⟩
   ·
    refine kT h ?_
    refine wp_skip ?_
    change Code.wp Tryz.prog _ _ _ _
    refine wp_seq ?_
    refine wp_block ?_
    obtain ⟨aL,aM,aN,aO,aP,aJ⟩ := aB aJ
    obtain ⟨aQ,aJ⟩ := iT aJ
    refine de [] [1,2,3,7] [(1,0),(2,0),(8,0),(11,0),(334,0)] h fun ac wd h => ?_
    change Code.wp Tryz.prog _ _ _ _
    refine qe [] [1,2,3,7] [(1,0),(2,0),(8,0),(11,0),(334,0)] h fun ac wd h => ?_
    have h := h.sw (241,0) (334,0) 340
    exact ⟨nf,Nat.lt_succ_self nf,(IntKind.wrap .i64 (aH + 1)),(aI ++ [aL]),aJ,h.z⟩
   ·
    refine kF h ?_
    refine wp_exit ?_
    change Code.wp Tryz.prog _ _ _ _
    refine qs 314 [] [2] [(2,0),(11,0),(241,0)] h fun ac wd h => ?_
    refine wp_ret ?_
    have h := h.sw (1,0) (11,0) 314
    have h := h.sw (1,1) (241,0) 314
    injection aJ with aJ
    subst aJ
    exact rO h [.cell 2 86] [(1,0),(1,1)]
theorem L_law04_state_ok {a0 : TState} {r : TState} (hD : L_law04_state a0 = some r) :
  CallH Tryz.prog 62 [.agg (cTState a0)] []
   (.agg [.d (.int .i64 r.Mode),.d (.sl (List.map eI r.Waits)),.d (.sl (List.map eTPick r.Picks)),.d (.sl (List.map eTTake r.Takes))]) [] :=
 (L_law04_state_own hD).fr

theorem L_law04_Ref_own {a0 : (List TNode)} {r : (List TNode)} (hD : L_law04_Ref a0 = some r) :
  CallH Tryz.prog 31 [.one (.d (.sl (List.map eTNode a0)))] []
   (.one (.own (1,0) r.length)) [((1,0),some (.row 106 2 (dat (List.map eTNode r))))] := by
 unfold L_law04_Ref at hD
 refine rc Tryz.func31 rfl Tryz.ntmps31 fun S Φ P0 wb ac h => ?_
 refine qs 2 [] [0] [] h fun ac wd h => ?_
 refine qs 4 [] [0,3] [(2,0)] h fun ac wd h => ?_
 refine wp_seq ?_
 refine qs 5 [] [0,3,4] [(2,0)] h fun ac wd h => ?_
 refine wp_block ?_
 refine r_while (fun nf ac wd => ∃ (aa : Int) (ab : List TNode),L_law04_Ref_l1 a0 nf aa ab = some r ∧ SL ⟨wb,S,Φ,P0⟩ 49 167 [(0,.one (.d (.sl (List.map eTNode a0)))),(3,.one (.own (2,0) ab.length)),(4,.one (.d (.int .i64 aa)))] [((2,0),some (.row 106 2 (dat (List.map eTNode ab))))] ac wd) (((a0.length : Int) - 0).toNat + 1) ⟨0,([] : List TNode),hD,h.z⟩ (fun nf ac wd hJ => ?_)
 obtain ⟨aa,ab,ad,h⟩ := hJ
 cases nf with
 | zero => rw [L_law04_Ref_l1] at ad; cases ad
 | succ nf =>
  rw [L_law04_Ref_l1] at ad
  refine wp_seq ?_
  refine qs 171 [] [0,3,4,11] [(2,0)] h fun ac wd h => ?_
  rcases i2 ad with ⟨ae,ad⟩ | ⟨ae,ad⟩
  ·
   refine kT h ?_
   refine wp_skip ?_
   change Code.wp Tryz.prog _ _ _ _
   obtain ⟨af,ag,ad⟩ := Option.bind_eq_some_iff.1 ad
   refine r_seqJ (fun ac wd => ∃ (ah : List TNode),ah = af ∧ SL ⟨wb,S,Φ,P0⟩ 49 245 [(0,.one (.d (.sl (List.map eTNode a0)))),(3,.one (.own (243,0) ah.length)),(4,.one (.d (.int .i64 aa)))] [((243,0),some (.row 106 2 (dat (List.map eTNode ah))))] ac wd) ?_ ?_
   ·
    refine wp_block ?_
    obtain ⟨ai,aj,ak,al,am,ag⟩ := aB ag
    refine qs 179 [] [0,3,4,5] [(2,0),(177,0)] h fun ac wd h => ?_
    refine wp_seq ?_
    refine qs 180 [] [0,3,4,5,6] [(2,0),(177,0)] h fun ac wd h => ?_
    obtain ⟨an,ao,ag⟩ := Option.bind_eq_some_iff.1 ag
    refine r_meet (fun ac wd => ∃ (ap : List TState),ap = an ∧ SL ⟨wb,S,Φ,P0⟩ 49 240 [(0,.one (.d (.sl (List.map eTNode a0)))),(3,.one (.own (2,0) ab.length)),(4,.one (.d (.int .i64 aa))),(5,.one (.ptr (177,0) 0))] [((2,0),some (.row 106 2 (dat (List.map eTNode ab)))),((177,0),some (.box 106 [.d (.int .i64 ai.Start),.own (180,0) ap.length])),((180,0),some (.row 86 4 (dat (List.map eTState ap))))] ac wd) ?_ ?_
    ·
     refine wp_block ?_
     have h := SL.bornB h (177,0) 1 86 4 (by simp only [EZ,simprocAttr, *] <;> rfl) (by simp only [EZ,simprocAttr, *] <;> rfl)
     refine r_while (fun nf ac wd => ∃ (aq : Int) (ar : List TState),L_law04_Ref_l2 ai nf aq ar = some an ∧ SL ⟨wb,S,Φ,P0⟩ 49 232 [(0,.one (.d (.sl (List.map eTNode a0)))),(3,.one (.own (2,0) ab.length)),(4,.one (.d (.int .i64 aa))),(5,.one (.ptr (177,0) 0)),(6,.one (.d (.int .i64 aq)))] [((2,0),some (.row 106 2 (dat (List.map eTNode ab)))),((177,0),some (.box 106 [.d (.int .i64 ai.Start),.own (180,0) ar.length])),((180,0),some (.row 86 4 (dat (List.map eTState ar))))] ac wd) (((ai.States.length : Int) - 0).toNat + 1) ⟨0,([] : List TState),ao,h.z⟩ (fun nf ac wd hJ => ?_)
     obtain ⟨aq,ar,au,h⟩ := hJ
     cases nf with
     | zero => rw [L_law04_Ref_l2] at au; cases au
     | succ nf =>
      rw [L_law04_Ref_l2] at au
      refine wp_seq ?_
      refine qs 240 [] [0,3,4,5,6,27] [(2,0),(177,0),(180,0)] h fun ac wd h => ?_
      rcases i2 au with ⟨av,au⟩ | ⟨av,au⟩
      ·
       refine kT h ?_
       refine wp_skip ?_
       change Code.wp Tryz.prog _ _ _ _
       refine wp_seq ?_
       refine wp_block ?_
       obtain ⟨aw,ax,ay,az,aA,au⟩ := aB au
       obtain ⟨aC,aD,au⟩ := oB au
       obtain ⟨aE,au⟩ := iT au
       have aF := L_law04_state_ok aD
       refine de [factE 250 aF] [0,3,4,5,6] [(2,0),(177,0),(252,0)] h fun ac wd h => ?_
       change Code.wp Tryz.prog _ _ _ _
       refine qe [] [0,3,4,5,6] [(2,0),(177,0),(252,0)] h fun ac wd h => ?_
       have h := h.sw (180,0) (252,0) 258
       exact ⟨nf,Nat.lt_succ_self nf,(IntKind.wrap .i64 (aq + 1)),(ar ++ [aC]),au,h.z⟩
      ·
       refine kF h ?_
       refine wp_exit ?_
       injection au with au; subst au
       exact ⟨ar,rfl,h.z⟩
    ·
     rintro ac wd ⟨ap,rfl,h⟩
     (try dsimp only at ag)
     obtain ⟨aG,ag⟩ := iT ag
     have h := h.fz [(180,0)]
     refine qe [] [0,3,4] [(243,0)] h fun ac wd h => ?_
     injection ag with ag; subst ag
     exact ⟨(ab ++ [(TNode.mk ai.Start ap)]),rfl,h.z⟩
   ·
    rintro ac wd ⟨ah,rfl,h⟩
    (try dsimp only at ad)
    refine qe [] [0,3,4] [(243,0)] h fun ac wd h => ?_
    have h := h.sw (2,0) (243,0) 248
    exact ⟨nf,Nat.lt_succ_self nf,(IntKind.wrap .i64 (aa + 1)),ah,ad,h.z⟩
  ·
   refine kF h ?_
   refine wp_exit ?_
   change Code.wp Tryz.prog _ _ _ _
   refine qs 173 [] [2] [(2,0)] h fun ac wd h => ?_
   refine wp_ret ?_
   have h := h.sw (1,0) (2,0) 173
   injection ad with ad
   subst ad
   exact rO h [.tmp 2] [(1,0)]
theorem L_law04_Ref_ok {a0 : (List TNode)} {r : (List TNode)} (hD : L_law04_Ref a0 = some r) :
  CallH Tryz.prog 31 [.one (.d (.sl (List.map eTNode a0)))] []
   (.one (.d (.sl (List.map eTNode r)))) [] :=
 (L_law04_Ref_own hD).fr

theorem L_law05_App_own {a0 : TApp} {r : TApp} (hD : L_law05_App a0 = some r) :
  CallH Tryz.prog 6 [.agg (cTApp a0)] []
   (.agg [.d (.int .i64 r.G.N),.d (.sl (List.map eA2I r.G.Links)),.own (1,0) r.T.length,.d (.bool r.Fifo)]) [((1,0),some (.row 106 2 (dat (List.map eTNode r.T))))] := by
 unfold L_law05_App at hD
 refine rc Tryz.func6 rfl Tryz.ntmps6 fun S Φ P0 wb ac h => ?_
 refine qs 3 [] [1,2] [(1,0),(2,0)] h fun ac wd h => ?_
 obtain ⟨aa,ab,hD⟩ := oB hD
 obtain ⟨ad,ae,hD⟩ := oB hD
 have af := L_law03_Ref_ok ab
 have ag := ((L_law04_Ref_own ae).cls 8).z
 refine ds 13 [factE 5 af,factO ag] [2] [(2,0),(8,0)] h fun ac wd h => ?_
 refine wp_ret ?_
 have h := h.sw (1,0) (8,0) 13
 injection hD with hD
 subst hD
 exact rO h [.cell 2 44] [(1,0)]
theorem L_law05_App_ok {a0 : TApp} {r : TApp} (hD : L_law05_App a0 = some r) :
  CallH Tryz.prog 6 [.agg (cTApp a0)] []
   (.agg [.d (.int .i64 r.G.N),.d (.sl (List.map eA2I r.G.Links)),.d (.sl (List.map eTNode r.T)),.d (.bool r.Fifo)]) [] :=
 (L_law05_App_own hD).fr

theorem L_law09_Ref_ok {a0 : THost} {r : THost} (hD : L_law09_Ref a0 = some r) :
  CallH Tryz.prog 7 [.agg (cTHost a0)] []
   (.agg [.d (.int .i64 r.Node),.d (.int .i64 r.State),.d (.int .i64 r.Steps),.d (.sl (List.map (eL eTMsg) r.In)),.d (.sl (List.map (eL eI) r.Out))]) [] := by
 unfold L_law09_Ref at hD
 refine rc Tryz.func7 rfl Tryz.ntmps7 fun S Φ P0 wb ac h => ?_
 refine qs 3 [] [1,2] [(1,0),(2,0)] h fun ac wd h => ?_
 refine qs 15 [] [2] [(2,0)] h fun ac wd h => ?_
 refine wp_ret ?_
 injection hD with hD
 subst hD
 exact rE h [.cell 2 46]

theorem L_law06_Cut_own {a0 : TPiece} {r : TPiece} (hD : L_law06_Cut a0 = some r) :
  CallH Tryz.prog 32 [.agg (cTPiece a0)] []
   (.agg [.d (.int .i64 r.Node),.d (.int .i64 r.State),.d (.int .i64 r.Steps),.own (1,0) r.Sent.length,.own (1,1) r.In.length,.own (1,2) r.Out.length]) [((1,0),some (.row 3 1 (dat (List.map eI r.Sent)))),((1,1),some (.row 141 1 (openRows cols_141 (List.map (eL eTMsg) r.In)))),((1,2),some (.row 32 1 (openRows cols_32 (List.map (eL eI) r.Out))))] := by
 unfold L_law06_Cut at hD
 refine rc Tryz.func32 rfl Tryz.ntmps32 fun S Φ P0 wb ac h => ?_
 refine qs 3 [] [1,2] [(1,0),(2,0)] h fun ac wd h => ?_
 obtain ⟨aa,hD⟩ := iT hD
 obtain ⟨ab,hD⟩ := iT hD
 obtain ⟨ad,ae,hD⟩ := vB hD
 obtain ⟨af,hD⟩ := iT hD
 refine ds 21 [] [1,2,3] [(1,0),(2,0),(17,0),(19,0)] h fun ac wd h => ?_
 refine wp_seq ?_
 refine qs 22 [] [1,2,3,4] [(1,0),(2,0),(17,0),(19,0)] h fun ac wd h => ?_
 obtain ⟨ag,ah,hD⟩ := Option.bind_eq_some_iff.1 hD
 refine r_meet (fun ac wd => ∃ (ai : List (List TMsg)),ai = ag ∧ SL ⟨wb,S,Φ,P0⟩ 85 97 [(1,.one (.ptr (1,0) 0)),(2,.one (.ptr (2,0) 0)),(3,.one (.ptr (19,0) 0))] [((1,0),some (.box 102 (cTPiece a0))),((2,0),some (.box 102 [.d (.int .i64 0),.d (.int .i64 0),.d (.int .i64 0),.nil,.nil,.nil])),((17,0),some (.row 3 1 (dat (List.map eI ad)))),((19,0),some (.box 102 [.d (.int .i64 a0.Node),.d (.int .i64 a0.State),.d (.int .i64 a0.Steps),.own (17,0) ad.length,.own (22,0) ai.length,.nil])),((22,0),some (.row 141 1 (openRows cols_141 (List.map (eL eTMsg) ai))))] ac wd) ?_ ?_
 ·
  refine wp_block ?_
  have h := SL.bornB h (19,0) 4 141 1 (by simp only [EZ,simprocAttr, *] <;> rfl) (by simp only [EZ,simprocAttr, *] <;> rfl)
  refine r_while (fun nf ac wd => ∃ (aj : Int) (ak : List (List TMsg)),L_law06_Cut_l1 a0 nf aj ak = some ag ∧ SL ⟨wb,S,Φ,P0⟩ 85 88 [(1,.one (.ptr (1,0) 0)),(2,.one (.ptr (2,0) 0)),(3,.one (.ptr (19,0) 0)),(4,.one (.d (.int .i64 aj)))] [((1,0),some (.box 102 (cTPiece a0))),((2,0),some (.box 102 [.d (.int .i64 0),.d (.int .i64 0),.d (.int .i64 0),.nil,.nil,.nil])),((17,0),some (.row 3 1 (dat (List.map eI ad)))),((19,0),some (.box 102 [.d (.int .i64 a0.Node),.d (.int .i64 a0.State),.d (.int .i64 a0.Steps),.own (17,0) ad.length,.own (22,0) ak.length,.nil])),((22,0),some (.row 141 1 (openRows cols_141 (List.map (eL eTMsg) ak))))] ac wd) (((a0.In.length : Int) - 0).toNat + 1) ⟨0,([] : List (List TMsg)),ah,h.z⟩ (fun nf ac wd hJ => ?_)
  obtain ⟨aj,ak,al,h⟩ := hJ
  cases nf with
  | zero => rw [L_law06_Cut_l1] at al; cases al
  | succ nf =>
   rw [L_law06_Cut_l1] at al
   refine wp_seq ?_
   obtain ⟨am,an,al⟩ := Option.bind_eq_some_iff.1 al
   refine r_seqJ (fun ac wd => ∃ (ao : Bool),ao = am ∧ SL ⟨wb,S,Φ,P0⟩ 85 97 [(1,.one (.ptr (1,0) 0)),(2,.one (.ptr (2,0) 0)),(3,.one (.ptr (19,0) 0)),(4,.one (.d (.int .i64 aj))),(30,.one (.d (.bool ao)))] [((1,0),some (.box 102 (cTPiece a0))),((2,0),some (.box 102 [.d (.int .i64 0),.d (.int .i64 0),.d (.int .i64 0),.nil,.nil,.nil])),((17,0),some (.row 3 1 (dat (List.map eI ad)))),((19,0),some (.box 102 [.d (.int .i64 a0.Node),.d (.int .i64 a0.State),.d (.int .i64 a0.Steps),.own (17,0) ad.length,.own (22,0) ak.length,.nil])),((22,0),some (.row 141 1 (openRows cols_141 (List.map (eL eTMsg) ak))))] ac wd) ?_ ?_
   ·
    rcases i2 an with ⟨ap,an⟩ | ⟨ap,an⟩
    ·
     refine qeg [] [none,none,none,none,none,none,some (some 27,true),some (some 27,true),none] [1,2,3,4,30] [(1,0),(2,0),(17,0),(19,0),(22,0)] h fun ac wd h => ?_
     injection an with an; subst an
     exact ⟨decide (aj < 7),rfl,h.z⟩
    ·
     refine qeg [] [none,none,none,none,none,none,some (some 27,true),some (some 27,true),none] [1,2,3,4,30] [(1,0),(2,0),(17,0),(19,0),(22,0)] h fun ac wd h => ?_
     injection an with an; subst an
     exact ⟨false,rfl,h.z⟩
   ·
    rintro ac wd ⟨ao,rfl,h⟩
    (try dsimp only at al)
    rcases i2b al with ⟨aq,al⟩ | ⟨aq,al⟩
    ·
     refine kT h ?_
     refine wp_skip ?_
     change Code.wp Tryz.prog _ _ _ _
     refine wp_seq ?_
     refine wp_block ?_
     obtain ⟨ar,au,av,aw,ax,al⟩ := aB al
     obtain ⟨ay,al⟩ := iT al
     obtain ⟨az,al⟩ := iT al
     obtain ⟨aA,aC,al⟩ := vB al
     obtain ⟨aD,al⟩ := iT al
     obtain ⟨aE,al⟩ := iT al
     refine de [] [1,2,3,4] [(1,0),(2,0),(17,0),(19,0),(113,0),(115,0)] h fun ac wd h => ?_
     have h := h.fL (cols := (fun _ => .sc)) (115,0) (113,0) (openRows cols_141 (List.map (eL eTMsg) ak)) [.own (113,0) aA.length] 0 (List.map eTMsg aA) (sc_34 _)
     have h := h.sm 118 [(1,.one (.ptr (1,0) 0)),(2,.one (.ptr (2,0) 0)),(3,.one (.ptr (19,0) 0)),(4,.one (.d (.int .i64 aj)))]
      [((1,0),some (.box 102 (cTPiece a0))),((2,0),some (.box 102 [.d (.int .i64 0),.d (.int .i64 0),.d (.int .i64 0),.nil,.nil,.nil])),((17,0),some (.row 3 1 (dat (List.map eI ad)))),((19,0),some (.box 102 [.d (.int .i64 a0.Node),.d (.int .i64 a0.State),.d (.int .i64 a0.Steps),.own (17,0) ad.length,.own (115,0) (ak.length + 1),.nil])),((115,0),some (.row 141 1 ((openRows cols_141 (List.map (eL eTMsg) ak) ++ [[.tr (.sl 34 2 (fun _ => .sc)) (.sl (List.map eTMsg aA))]]))))]
     change Code.wp Tryz.prog _ _ _ _
     refine qe [] [1,2,3,4] [(1,0),(2,0),(17,0),(19,0),(115,0)] h fun ac wd h => ?_
     have h := h.sw (22,0) (115,0) 121
     exact ⟨nf,Nat.lt_succ_self nf,(IntKind.wrap .i64 (aj + 1)),(ak ++ [aA]),al,h.z⟩
    ·
     refine kF h ?_
     refine wp_exit ?_
     injection al with al; subst al
     exact ⟨ak,rfl,h.z⟩
 ·
  rintro ac wd ⟨ai,rfl,h⟩
  (try dsimp only at hD)
  refine wp_seq ?_
  refine qs 98 [] [1,2,3,5] [(1,0),(2,0),(17,0),(19,0),(22,0)] h fun ac wd h => ?_
  refine wp_block ?_
  have h := SL.bornB h (19,0) 5 32 1 (by simp only [EZ,simprocAttr, *] <;> rfl) (by simp only [EZ,simprocAttr, *] <;> rfl)
  refine r_while (fun nf ac wd => ∃ (aF : Int) (aG : List (List Int)),L_law06_Cut_l2 a0 ai ad nf aF aG = some r ∧ SL ⟨wb,S,Φ,P0⟩ 85 164 [(1,.one (.ptr (1,0) 0)),(2,.one (.ptr (2,0) 0)),(3,.one (.ptr (19,0) 0)),(5,.one (.d (.int .i64 aF)))] [((1,0),some (.box 102 (cTPiece a0))),((2,0),some (.box 102 [.d (.int .i64 0),.d (.int .i64 0),.d (.int .i64 0),.nil,.nil,.nil])),((17,0),some (.row 3 1 (dat (List.map eI ad)))),((19,0),some (.box 102 [.d (.int .i64 a0.Node),.d (.int .i64 a0.State),.d (.int .i64 a0.Steps),.own (17,0) ad.length,.own (22,0) ai.length,.own (98,0) aG.length])),((22,0),some (.row 141 1 (openRows cols_141 (List.map (eL eTMsg) ai)))),((98,0),some (.row 32 1 (openRows cols_32 (List.map (eL eI) aG))))] ac wd) (((a0.Out.length : Int) - 0).toNat + 1) ⟨0,([] : List (List Int)),hD,h.z⟩ (fun nf ac wd hJ => ?_)
  obtain ⟨aF,aG,aH,h⟩ := hJ
  cases nf with
  | zero => rw [L_law06_Cut_l2] at aH; cases aH
  | succ nf =>
   rw [L_law06_Cut_l2] at aH
   refine wp_seq ?_
   obtain ⟨aI,aJ,aH⟩ := Option.bind_eq_some_iff.1 aH
   refine r_seqJ (fun ac wd => ∃ (aK : Bool),aK = aI ∧ SL ⟨wb,S,Φ,P0⟩ 85 173 [(1,.one (.ptr (1,0) 0)),(2,.one (.ptr (2,0) 0)),(3,.one (.ptr (19,0) 0)),(5,.one (.d (.int .i64 aF))),(61,.one (.d (.bool aK)))] [((1,0),some (.box 102 (cTPiece a0))),((2,0),some (.box 102 [.d (.int .i64 0),.d (.int .i64 0),.d (.int .i64 0),.nil,.nil,.nil])),((17,0),some (.row 3 1 (dat (List.map eI ad)))),((19,0),some (.box 102 [.d (.int .i64 a0.Node),.d (.int .i64 a0.State),.d (.int .i64 a0.Steps),.own (17,0) ad.length,.own (22,0) ai.length,.own (98,0) aG.length])),((22,0),some (.row 141 1 (openRows cols_141 (List.map (eL eTMsg) ai)))),((98,0),some (.row 32 1 (openRows cols_32 (List.map (eL eI) aG))))] ac wd) ?_ ?_
   ·
    rcases i2 aJ with ⟨aL,aJ⟩ | ⟨aL,aJ⟩
    ·
     refine qeg [] [none,none,none,none,none,none,some (some 58,true),some (some 58,true),none] [1,2,3,5,61] [(1,0),(2,0),(17,0),(19,0),(22,0),(98,0)] h fun ac wd h => ?_
     injection aJ with aJ; subst aJ
     exact ⟨decide (aF < 7),rfl,h.z⟩
    ·
     refine qeg [] [none,none,none,none,none,none,some (some 58,true),some (some 58,true),none] [1,2,3,5,61] [(1,0),(2,0),(17,0),(19,0),(22,0),(98,0)] h fun ac wd h => ?_
     injection aJ with aJ; subst aJ
     exact ⟨false,rfl,h.z⟩
   ·
    rintro ac wd ⟨aK,rfl,h⟩
    (try dsimp only at aH)
    rcases i2b aH with ⟨aM,aH⟩ | ⟨aM,aH⟩
    ·
     refine kT h ?_
     refine wp_skip ?_
     change Code.wp Tryz.prog _ _ _ _
     refine wp_seq ?_
     refine wp_block ?_
     obtain ⟨aN,aO,aP,aQ,aR,aH⟩ := aB aH
     obtain ⟨aS,aH⟩ := iT aH
     obtain ⟨aT,aH⟩ := iT aH
     obtain ⟨aU,aV,aH⟩ := vB aH
     obtain ⟨aW,aH⟩ := iT aH
     obtain ⟨aX,aH⟩ := iT aH
     refine de [] [1,2,3,5] [(1,0),(2,0),(17,0),(19,0),(22,0),(189,0),(191,0)] h fun ac wd h => ?_
     have h := h.fL (cols := (fun _ => .sc)) (191,0) (189,0) (openRows cols_32 (List.map (eL eI) aG)) [.own (189,0) aU.length] 0 (List.map eI aU) (sc_3 _)
     have h := h.sm 194 [(1,.one (.ptr (1,0) 0)),(2,.one (.ptr (2,0) 0)),(3,.one (.ptr (19,0) 0)),(5,.one (.d (.int .i64 aF)))]
      [((1,0),some (.box 102 (cTPiece a0))),((2,0),some (.box 102 [.d (.int .i64 0),.d (.int .i64 0),.d (.int .i64 0),.nil,.nil,.nil])),((17,0),some (.row 3 1 (dat (List.map eI ad)))),((19,0),some (.box 102 [.d (.int .i64 a0.Node),.d (.int .i64 a0.State),.d (.int .i64 a0.Steps),.own (17,0) ad.length,.own (22,0) ai.length,.own (191,0) (aG.length + 1)])),((22,0),some (.row 141 1 (openRows cols_141 (List.map (eL eTMsg) ai)))),((191,0),some (.row 32 1 ((openRows cols_32 (List.map (eL eI) aG) ++ [[.tr (.sl 3 1 (fun _ => .sc)) (.sl (List.map eI aU))]]))))]
     change Code.wp Tryz.prog _ _ _ _
     refine qe [] [1,2,3,5] [(1,0),(2,0),(17,0),(19,0),(22,0),(191,0)] h fun ac wd h => ?_
     have h := h.sw (98,0) (191,0) 197
     exact ⟨nf,Nat.lt_succ_self nf,(IntKind.wrap .i64 (aF + 1)),(aG ++ [aU]),aH,h.z⟩
    ·
     refine kF h ?_
     refine wp_exit ?_
     change Code.wp Tryz.prog _ _ _ _
     refine qs 175 [] [2] [(2,0),(17,0),(22,0),(98,0)] h fun ac wd h => ?_
     refine wp_ret ?_
     have h := h.sw (1,0) (17,0) 175
     have h := h.sw (1,1) (22,0) 175
     have h := h.sw (1,2) (98,0) 175
     injection aH with aH
     subst aH
     exact rO h [.cell 2 102] [(1,0),(1,1),(1,2)]
theorem L_law06_Cut_ok {a0 : TPiece} {r : TPiece} (hD : L_law06_Cut a0 = some r) :
  CallH Tryz.prog 32 [.agg (cTPiece a0)] []
   (.agg [.d (.int .i64 r.Node),.d (.int .i64 r.State),.d (.int .i64 r.Steps),.d (.sl (List.map eI r.Sent)),.d (.sl (List.map (eL eTMsg) r.In)),.d (.sl (List.map (eL eI) r.Out))]) [] :=
 (L_law06_Cut_own hD).fr

end Go.Proofs.YtabbejabdkkaiaaGreat
