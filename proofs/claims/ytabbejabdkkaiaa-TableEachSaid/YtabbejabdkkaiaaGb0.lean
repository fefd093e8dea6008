/- Functions as typed ones,and that the program's functions answer as these do. No condition. -/
import Derived.Test.YtabbejabdkkaiaaGd
set_option linter.unusedSimpArgs false
set_option linter.unusedVariables false
set_option maxRecDepth 20000
set_option maxHeartbeats 4000000
namespace Go.Proofs.Ytabbejabdkkaiaa
open Go.RowKit

theorem L_law04_cut_own {a0 : TState} {r : TState} (hD : L_law04_cut a0 = some r) :
  CallH Try.prog 49 [.agg (cTState a0)] []
   (.agg [.d (.int .i64 r.Mode),.own (1,0) r.Waits.length,.own (1,1) r.Picks.length,.own (1,2) r.Takes.length]) [((1,0),some (.row 3 1 (dat (List.map eI r.Waits)))),((1,1),some (.row 46 2 (openRows cols_46 (List.map eTPick r.Picks)))),((1,2),some (.row 48 3 (dat (List.map eTTake r.Takes))))] := by
 unfold L_law04_cut at hD
 refine rc Try.func49 rfl Try.ntmps49 fun S Φ P0 wb ac h => ?_
 refine qs 3 [] [1,2] [(1,0),(2,0)] h fun ac wd h => ?_
 obtain ⟨aa,hD⟩ := iT hD
 obtain ⟨ab,hD⟩ := iT hD
 obtain ⟨ad,ae,hD⟩ := vB hD
 obtain ⟨af,hD⟩ := iT hD
 refine ds 17 [] [1,2,3] [(1,0),(2,0),(13,0),(15,0)] h fun ac wd h => ?_
 refine wp_seq ?_
 refine qs 18 [] [1,2,3,4] [(1,0),(2,0),(13,0),(15,0)] h fun ac wd h => ?_
 obtain ⟨ag,ah,hD⟩ := Option.bind_eq_some_iff.1 hD
 refine r_meet (fun ac wd => ∃ (ai : List TPick),ai = ag ∧ SL ⟨wb,S,Φ,P0⟩ 74 101 [(1,.one (.ptr (1,0) 0)),(2,.one (.ptr (2,0) 0)),(3,.one (.ptr (15,0) 0))] [((1,0),some (.box 43 (cTState a0))),((2,0),some (.box 43 [.d (.int .i64 0),.nil,.nil,.nil])),((13,0),some (.row 3 1 (dat (List.map eI ad)))),((15,0),some (.box 43 [.d (.int .i64 a0.Mode),.own (13,0) ad.length,.own (18,0) ai.length,.nil])),((18,0),some (.row 46 2 (openRows cols_46 (List.map eTPick ai))))] ac wd) ?_ ?_
 ·
  refine wp_block ?_
  have h := SL.bornB h (15,0) 2 46 2 (by simp only [EZ,simprocAttr, *] <;> rfl) (by simp only [EZ,simprocAttr, *] <;> rfl)
  refine r_while (fun nf ac wd => ∃ (aj : Int) (ak : List TPick),L_law04_cut_l1 a0 nf aj ak = some ag ∧ SL ⟨wb,S,Φ,P0⟩ 74 92 [(1,.one (.ptr (1,0) 0)),(2,.one (.ptr (2,0) 0)),(3,.one (.ptr (15,0) 0)),(4,.one (.d (.int .i64 aj)))] [((1,0),some (.box 43 (cTState a0))),((2,0),some (.box 43 [.d (.int .i64 0),.nil,.nil,.nil])),((13,0),some (.row 3 1 (dat (List.map eI ad)))),((15,0),some (.box 43 [.d (.int .i64 a0.Mode),.own (13,0) ad.length,.own (18,0) ak.length,.nil])),((18,0),some (.row 46 2 (openRows cols_46 (List.map eTPick ak))))] ac wd) (((a0.Picks.length : Int) - 0).toNat + 1) ⟨0,([] : List TPick),ah,h.z⟩ (fun nf ac wd hJ => ?_)
  obtain ⟨aj,ak,al,h⟩ := hJ
  cases nf with
  | zero => rw [L_law04_cut_l1] at al; cases al
  | succ nf =>
   rw [L_law04_cut_l1] at al
   refine wp_seq ?_
   obtain ⟨am,an,al⟩ := Option.bind_eq_some_iff.1 al
   refine r_seqJ (fun ac wd => ∃ (ao : Bool),ao = am ∧ SL ⟨wb,S,Φ,P0⟩ 74 101 [(1,.one (.ptr (1,0) 0)),(2,.one (.ptr (2,0) 0)),(3,.one (.ptr (15,0) 0)),(4,.one (.d (.int .i64 aj))),(27,.one (.d (.bool ao)))] [((1,0),some (.box 43 (cTState a0))),((2,0),some (.box 43 [.d (.int .i64 0),.nil,.nil,.nil])),((13,0),some (.row 3 1 (dat (List.map eI ad)))),((15,0),some (.box 43 [.d (.int .i64 a0.Mode),.own (13,0) ad.length,.own (18,0) ak.length,.nil])),((18,0),some (.row 46 2 (openRows cols_46 (List.map eTPick ak))))] ac wd) ?_ ?_
   ·
    rcases i2 an with ⟨ap,an⟩ | ⟨ap,an⟩
    ·
     refine qeg [] [none,none,none,none,none,none,some (some 24,true),some (some 24,true),none] [1,2,3,4,27] [(1,0),(2,0),(13,0),(15,0),(18,0)] h fun ac wd h => ?_
     injection an with an; subst an
     exact ⟨decide (aj < 10),rfl,h.z⟩
    ·
     refine qeg [] [none,none,none,none,none,none,some (some 24,true),some (some 24,true),none] [1,2,3,4,27] [(1,0),(2,0),(13,0),(15,0),(18,0)] h fun ac wd h => ?_
     injection an with an; subst an
     exact ⟨false,rfl,h.z⟩
   ·
    rintro ac wd ⟨ao,rfl,h⟩
    (try dsimp only at al)
    rcases i2b al with ⟨aq,al⟩ | ⟨aq,al⟩
    ·
     refine kT h ?_
     refine wp_skip ?_
     change Code.wp Try.prog _ _ _ _
     refine wp_seq ?_
     refine wp_block ?_
     obtain ⟨ar,au,av,aw,ax,al⟩ := aB al
     refine qs 108 [] [1,2,3,4,5] [(1,0),(2,0),(13,0),(15,0),(18,0),(106,0)] h fun ac wd h => ?_
     obtain ⟨ay,al⟩ := iT al
     obtain ⟨az,al⟩ := iT al
     obtain ⟨aA,aC,al⟩ := vB al
     obtain ⟨aD,al⟩ := iT al
     obtain ⟨aE,al⟩ := iT al
     refine de [] [1,2,3,4] [(1,0),(2,0),(13,0),(15,0),(120,0),(123,0)] h fun ac wd h => ?_
     have h := h.fL (cols := (fun _ => .sc)) (123,0) (120,0) (openRows cols_46 (List.map eTPick ak)) [.d (.int .i64 ar.Next),.own (120,0) aA.length] 1 (List.map eTSend aA) (sc_50 _)
     have h := h.sm 126 [(1,.one (.ptr (1,0) 0)),(2,.one (.ptr (2,0) 0)),(3,.one (.ptr (15,0) 0)),(4,.one (.d (.int .i64 aj)))]
      [((1,0),some (.box 43 (cTState a0))),((2,0),some (.box 43 [.d (.int .i64 0),.nil,.nil,.nil])),((13,0),some (.row 3 1 (dat (List.map eI ad)))),((15,0),some (.box 43 [.d (.int .i64 a0.Mode),.own (13,0) ad.length,.own (123,0) (ak.length + 1),.nil])),((123,0),some (.row 46 2 ((openRows cols_46 (List.map eTPick ak) ++ [[.d (.int .i64 ar.Next),.tr (.sl 50 2 (fun _ => .sc)) (.sl (List.map eTSend aA))]]))))]
     change Code.wp Try.prog _ _ _ _
     refine qe [] [1,2,3,4] [(1,0),(2,0),(13,0),(15,0),(123,0)] h fun ac wd h => ?_
     have h := h.sw (18,0) (123,0) 129
     exact ⟨nf,Nat.lt_succ_self nf,(IntKind.wrap .i64 (aj + 1)),(ak ++ [(TPick.mk ar.Next aA)]),al,h.z⟩
    ·
     refine kF h ?_
     refine wp_exit ?_
     injection al with al; subst al
     exact ⟨ak,rfl,h.z⟩
 ·
  rintro ac wd ⟨ai,rfl,h⟩
  (try dsimp only at hD)
  refine wp_seq ?_
  refine qs 102 [] [1,2,3,6] [(1,0),(2,0),(13,0),(15,0),(18,0)] h fun ac wd h => ?_
  refine wp_block ?_
  have h := SL.bornB h (15,0) 3 48 3 (by simp only [EZ,simprocAttr, *] <;> rfl) (by simp only [EZ,simprocAttr, *] <;> rfl)
  refine r_while (fun nf ac wd => ∃ (aF : Int) (aG : List TTake),L_law04_cut_l2 a0 ai ad nf aF aG = some r ∧ SL ⟨wb,S,Φ,P0⟩ 74 148 [(1,.one (.ptr (1,0) 0)),(2,.one (.ptr (2,0) 0)),(3,.one (.ptr (15,0) 0)),(6,.one (.d (.int .i64 aF)))] [((1,0),some (.box 43 (cTState a0))),((2,0),some (.box 43 [.d (.int .i64 0),.nil,.nil,.nil])),((13,0),some (.row 3 1 (dat (List.map eI ad)))),((15,0),some (.box 43 [.d (.int .i64 a0.Mode),.own (13,0) ad.length,.own (18,0) ai.length,.own (102,0) aG.length])),((18,0),some (.row 46 2 (openRows cols_46 (List.map eTPick ai)))),((102,0),some (.row 48 3 (dat (List.map eTTake aG))))] ac wd) (((a0.Takes.length : Int) - 0).toNat + 1) ⟨0,([] : List TTake),hD,h.z⟩ (fun nf ac wd hJ => ?_)
  obtain ⟨aF,aG,aH,h⟩ := hJ
  cases nf with
  | zero => rw [L_law04_cut_l2] at aH; cases aH
  | succ nf =>
   rw [L_law04_cut_l2] at aH
   refine wp_seq ?_
   obtain ⟨aI,aJ,aH⟩ := Option.bind_eq_some_iff.1 aH
   refine r_seqJ (fun ac wd => ∃ (aK : Bool),aK = aI ∧ SL ⟨wb,S,Φ,P0⟩ 74 157 [(1,.one (.ptr (1,0) 0)),(2,.one (.ptr (2,0) 0)),(3,.one (.ptr (15,0) 0)),(6,.one (.d (.int .i64 aF))),(60,.one (.d (.bool aK)))] [((1,0),some (.box 43 (cTState a0))),((2,0),some (.box 43 [.d (.int .i64 0),.nil,.nil,.nil])),((13,0),some (.row 3 1 (dat (List.map eI ad)))),((15,0),some (.box 43 [.d (.int .i64 a0.Mode),.own (13,0) ad.length,.own (18,0) ai.length,.own (102,0) aG.length])),((18,0),some (.row 46 2 (openRows cols_46 (List.map eTPick ai)))),((102,0),some (.row 48 3 (dat (List.map eTTake aG))))] ac wd) ?_ ?_
   ·
    rcases i2 aJ with ⟨aL,aJ⟩ | ⟨aL,aJ⟩
    ·
     refine qeg [] [none,none,none,none,none,none,some (some 57,true),some (some 57,true),none] [1,2,3,6,60] [(1,0),(2,0),(13,0),(15,0),(18,0),(102,0)] h fun ac wd h => ?_
     injection aJ with aJ; subst aJ
     exact ⟨decide (aF < 30),rfl,h.z⟩
    ·
     refine qeg [] [none,none,none,none,none,none,some (some 57,true),some (some 57,true),none] [1,2,3,6,60] [(1,0),(2,0),(13,0),(15,0),(18,0),(102,0)] h fun ac wd h => ?_
     injection aJ with aJ; subst aJ
     exact ⟨false,rfl,h.z⟩
   ·
    rintro ac wd ⟨aK,rfl,h⟩
    (try dsimp only at aH)
    rcases i2b aH with ⟨aM,aH⟩ | ⟨aM,aH⟩
    ·
     refine kT h ?_
     refine wp_skip ?_
     change Code.wp Try.prog _ _ _ _
     refine wp_seq ?_
     refine wp_block ?_
     obtain ⟨aN,aO,aP,aQ,aR,aH⟩ := aB aH
     obtain ⟨aS,aH⟩ := iT aH
     refine de [] [1,2,3,6] [(1,0),(2,0),(13,0),(15,0),(18,0),(165,0)] h fun ac wd h => ?_
     change Code.wp Try.prog _ _ _ _
     refine qe [] [1,2,3,6] [(1,0),(2,0),(13,0),(15,0),(18,0),(165,0)] h fun ac wd h => ?_
     have h := h.sw (102,0) (165,0) 171
     exact ⟨nf,Nat.lt_succ_self nf,(IntKind.wrap .i64 (aF + 1)),(aG ++ [aN]),aH,h.z⟩
    ·
     refine kF h ?_
     refine wp_exit ?_
     change Code.wp Try.prog _ _ _ _
     refine qs 159 [] [2] [(2,0),(13,0),(18,0),(102,0)] h fun ac wd h => ?_
     refine wp_ret ?_
     have h := h.sw (1,0) (13,0) 159
     have h := h.sw (1,1) (18,0) 159
     have h := h.sw (1,2) (102,0) 159
     injection aH with aH
     subst aH
     exact rO h [.cell 2 43] [(1,0),(1,1),(1,2)]
theorem L_law04_cut_ok {a0 : TState} {r : TState} (hD : L_law04_cut a0 = some r) :
  CallH Try.prog 49 [.agg (cTState a0)] []
   (.agg [.d (.int .i64 r.Mode),.d (.sl (List.map eI r.Waits)),.d (.sl (List.map eTPick r.Picks)),.d (.sl (List.map eTTake r.Takes))]) [] :=
 (L_law04_cut_own hD).fr

theorem L_law04_Cut_own {a0 : (List TNode)} {r : (List TNode)} (hD : L_law04_Cut a0 = some r) :
  CallH Try.prog 12 [.one (.d (.sl (List.map eTNode a0)))] []
   (.one (.own (1,0) r.length)) [((1,0),some (.row 38 2 (openRows cols_38 (List.map eTNode r))))] := by
 unfold L_law04_Cut at hD
 refine rc Try.func12 rfl Try.ntmps12 fun S Φ P0 wb ac h => ?_
 refine qs 2 [] [0] [] h fun ac wd h => ?_
 refine qs 4 [] [0,3] [(2,0)] h fun ac wd h => ?_
 refine wp_seq ?_
 refine qs 5 [] [0,3,4] [(2,0)] h fun ac wd h => ?_
 refine wp_block ?_
 refine r_while (fun nf ac wd => ∃ (aa : Int) (ab : List TNode),L_law04_Cut_l1 a0 nf aa ab = some r ∧ SL ⟨wb,S,Φ,P0⟩ 57 199 [(0,.one (.d (.sl (List.map eTNode a0)))),(3,.one (.own (2,0) ab.length)),(4,.one (.d (.int .i64 aa)))] [((2,0),some (.row 38 2 (openRows cols_38 (List.map eTNode ab))))] ac wd) (((a0.length : Int) - 0).toNat + 1) ⟨0,([] : List TNode),hD,h.z⟩ (fun nf ac wd hJ => ?_)
 obtain ⟨aa,ab,ad,h⟩ := hJ
 cases nf with
 | zero => rw [L_law04_Cut_l1] at ad; cases ad
 | succ nf =>
  rw [L_law04_Cut_l1] at ad
  refine wp_seq ?_
  obtain ⟨ae,af,ad⟩ := Option.bind_eq_some_iff.1 ad
  refine r_seqJ (fun ac wd => ∃ (ag : Bool),ag = ae ∧ SL ⟨wb,S,Φ,P0⟩ 57 207 [(0,.one (.d (.sl (List.map eTNode a0)))),(3,.one (.own (2,0) ab.length)),(4,.one (.d (.int .i64 aa))),(15,.one (.d (.bool ag)))] [((2,0),some (.row 38 2 (openRows cols_38 (List.map eTNode ab))))] ac wd) ?_ ?_
  ·
   rcases i2 af with ⟨ah,af⟩ | ⟨ah,af⟩
   ·
    refine qeg [] [none,none,none,none,none,some (some 12,true),some (some 12,true),none] [0,3,4,15] [(2,0)] h fun ac wd h => ?_
    injection af with af; subst af
    exact ⟨decide (aa < 8),rfl,h.z⟩
   ·
    refine qeg [] [none,none,none,none,none,some (some 12,true),some (some 12,true),none] [0,3,4,15] [(2,0)] h fun ac wd h => ?_
    injection af with af; subst af
    exact ⟨false,rfl,h.z⟩
  ·
   rintro ac wd ⟨ag,rfl,h⟩
   (try dsimp only at ad)
   rcases i2b ad with ⟨ai,ad⟩ | ⟨ai,ad⟩
   ·
    refine kT h ?_
    refine wp_skip ?_
    change Code.wp Try.prog _ _ _ _
    obtain ⟨aj,ak,ad⟩ := Option.bind_eq_some_iff.1 ad
    refine r_seqJ (fun ac wd => ∃ (al : List TNode),al = aj ∧ SL ⟨wb,S,Φ,P0⟩ 57 293 [(0,.one (.d (.sl (List.map eTNode a0)))),(3,.one (.own (291,0) al.length)),(4,.one (.d (.int .i64 aa)))] [((291,0),some (.row 38 2 (openRows cols_38 (List.map eTNode al))))] ac wd) ?_ ?_
    ·
     refine wp_block ?_
     obtain ⟨am,an,ao,ap,aq,ak⟩ := aB ak
     refine qs 215 [] [0,3,4,5] [(2,0),(213,0)] h fun ac wd h => ?_
     refine wp_seq ?_
     refine qs 216 [] [0,3,4,5,6] [(2,0),(213,0)] h fun ac wd h => ?_
     obtain ⟨ar,au,ak⟩ := Option.bind_eq_some_iff.1 ak
     refine r_meet (fun ac wd => ∃ (av : List TState),av = ar ∧ SL ⟨wb,S,Φ,P0⟩ 57 288 [(0,.one (.d (.sl (List.map eTNode a0)))),(3,.one (.own (2,0) ab.length)),(4,.one (.d (.int .i64 aa))),(5,.one (.ptr (213,0) 0))] [((2,0),some (.row 38 2 (openRows cols_38 (List.map eTNode ab)))),((213,0),some (.box 38 [.d (.int .i64 am.Start),.own (216,0) av.length])),((216,0),some (.row 43 4 (openRows cols_43 (List.map eTState av))))] ac wd) ?_ ?_
     ·
      refine wp_block ?_
      have h := SL.bornB h (213,0) 1 43 4 (by simp only [EZ,simprocAttr, *] <;> rfl) (by simp only [EZ,simprocAttr, *] <;> rfl)
      refine r_while (fun nf ac wd => ∃ (aw : Int) (ax : List TState),L_law04_Cut_l2 am nf aw ax = some ar ∧ SL ⟨wb,S,Φ,P0⟩ 57 276 [(0,.one (.d (.sl (List.map eTNode a0)))),(3,.one (.own (2,0) ab.length)),(4,.one (.d (.int .i64 aa))),(5,.one (.ptr (213,0) 0)),(6,.one (.d (.int .i64 aw)))] [((2,0),some (.row 38 2 (openRows cols_38 (List.map eTNode ab)))),((213,0),some (.box 38 [.d (.int .i64 am.Start),.own (216,0) ax.length])),((216,0),some (.row 43 4 (openRows cols_43 (List.map eTState ax))))] ac wd) (((am.States.length : Int) - 0).toNat + 1) ⟨0,([] : List TState),au,h.z⟩ (fun nf ac wd hJ => ?_)
      obtain ⟨aw,ax,ay,h⟩ := hJ
      cases nf with
      | zero => rw [L_law04_Cut_l2] at ay; cases ay
      | succ nf =>
       rw [L_law04_Cut_l2] at ay
       refine wp_seq ?_
       obtain ⟨az,aA,ay⟩ := Option.bind_eq_some_iff.1 ay
       refine r_seqJ (fun ac wd => ∃ (aC : Bool),aC = az ∧ SL ⟨wb,S,Φ,P0⟩ 57 288 [(0,.one (.d (.sl (List.map eTNode a0)))),(3,.one (.own (2,0) ab.length)),(4,.one (.d (.int .i64 aa))),(5,.one (.ptr (213,0) 0)),(6,.one (.d (.int .i64 aw))),(35,.one (.d (.bool aC)))] [((2,0),some (.row 38 2 (openRows cols_38 (List.map eTNode ab)))),((213,0),some (.box 38 [.d (.int .i64 am.Start),.own (216,0) ax.length])),((216,0),some (.row 43 4 (openRows cols_43 (List.map eTState ax))))] ac wd) ?_ ?_
       ·
        rcases i2 aA with ⟨aD,aA⟩ | ⟨aD,aA⟩
        ·
         refine qeg [] [none,none,none,none,none,none,none,none,none,some (some 32,true),some (some 32,true),none] [0,3,4,5,6,35] [(2,0),(213,0),(216,0)] h fun ac wd h => ?_
         injection aA with aA; subst aA
         exact ⟨decide (aw < 10),rfl,h.z⟩
        ·
         refine qeg [] [none,none,none,none,none,none,none,none,none,some (some 32,true),some (some 32,true),none] [0,3,4,5,6,35] [(2,0),(213,0),(216,0)] h fun ac wd h => ?_
         injection aA with aA; subst aA
         exact ⟨false,rfl,h.z⟩
       ·
        rintro ac wd ⟨aC,rfl,h⟩
        (try dsimp only at ay)
        rcases i2b ay with ⟨aE,ay⟩ | ⟨aE,ay⟩
        ·
         refine kT h ?_
         refine wp_skip ?_
         change Code.wp Try.prog _ _ _ _
         refine wp_seq ?_
         refine wp_block ?_
         obtain ⟨aF,aG,aH,aI,aJ,ay⟩ := aB ay
         obtain ⟨aK,aL,ay⟩ := oB ay
         obtain ⟨aM,ay⟩ := iT ay
         have aN := ((L_law04_cut_own aL).cls 298).z
         refine de [factO aN] [0,3,4,5,6] [(2,0),(213,0),(298,0),(298,1),(298,2),(300,0)] h fun ac wd h => ?_
         have h := h.fL (cols := (fun _ => .sc)) (300,0) (298,0) (openRows cols_43 (List.map eTState ax)) [.d (.int .i64 aK.Mode),.own (298,0) aK.Waits.length,.own (298,1) aK.Picks.length,.own (298,2) aK.Takes.length] 1 (List.map eI aK.Waits) (sc_3 _)
         have h := h.sm 303 [(0,.one (.d (.sl (List.map eTNode a0)))),(3,.one (.own (2,0) ab.length)),(4,.one (.d (.int .i64 aa))),(5,.one (.ptr (213,0) 0)),(6,.one (.d (.int .i64 aw)))]
          [((2,0),some (.row 38 2 (openRows cols_38 (List.map eTNode ab)))),((213,0),some (.box 38 [.d (.int .i64 am.Start),.own (300,0) (ax.length + 1)])),((298,1),some (.row 46 2 (openRows cols_46 (List.map eTPick aK.Picks)))),((298,2),some (.row 48 3 (dat (List.map eTTake aK.Takes)))),((300,0),some (.row 43 4 ((openRows cols_43 (List.map eTState ax) ++ [[.d (.int .i64 aK.Mode),.tr (.sl 3 1 (fun _ => .sc)) (.sl (List.map eI aK.Waits)),.own (298,1) aK.Picks.length,.own (298,2) aK.Takes.length]]))))]
         have h := h.fL (cols := cols_46) (300,0) (298,1) (openRows cols_43 (List.map eTState ax)) [.d (.int .i64 aK.Mode),.tr (.sl 3 1 (fun _ => .sc)) (.sl (List.map eI aK.Waits)),.own (298,1) aK.Picks.length,.own (298,2) aK.Takes.length] 2 (List.map eTPick aK.Picks) (sc_46 _)
         have h := h.sm 303 [(0,.one (.d (.sl (List.map eTNode a0)))),(3,.one (.own (2,0) ab.length)),(4,.one (.d (.int .i64 aa))),(5,.one (.ptr (213,0) 0)),(6,.one (.d (.int .i64 aw)))]
          [((2,0),some (.row 38 2 (openRows cols_38 (List.map eTNode ab)))),((213,0),some (.box 38 [.d (.int .i64 am.Start),.own (300,0) (ax.length + 1)])),((298,2),some (.row 48 3 (dat (List.map eTTake aK.Takes)))),((300,0),some (.row 43 4 ((openRows cols_43 (List.map eTState ax) ++ [[.d (.int .i64 aK.Mode),.tr (.sl 3 1 (fun _ => .sc)) (.sl (List.map eI aK.Waits)),.tr (.sl 46 2 cols_46) (.sl (List.map eTPick aK.Picks)),.own (298,2) aK.Takes.length]]))))]
         have h := h.fL (cols := (fun _ => .sc)) (300,0) (298,2) (openRows cols_43 (List.map eTState ax)) [.d (.int .i64 aK.Mode),.tr (.sl 3 1 (fun _ => .sc)) (.sl (List.map eI aK.Waits)),.tr (.sl 46 2 cols_46) (.sl (List.map eTPick aK.Picks)),.own (298,2) aK.Takes.length] 3 (List.map eTTake aK.Takes) (sc_48 _)
         have h := h.sm 303 [(0,.one (.d (.sl (List.map eTNode a0)))),(3,.one (.own (2,0) ab.length)),(4,.one (.d (.int .i64 aa))),(5,.one (.ptr (213,0) 0)),(6,.one (.d (.int .i64 aw)))]
          [((2,0),some (.row 38 2 (openRows cols_38 (List.map eTNode ab)))),((213,0),some (.box 38 [.d (.int .i64 am.Start),.own (300,0) (ax.length + 1)])),((300,0),some (.row 43 4 ((openRows cols_43 (List.map eTState ax) ++ [[.d (.int .i64 aK.Mode),.tr (.sl 3 1 (fun _ => .sc)) (.sl (List.map eI aK.Waits)),.tr (.sl 46 2 cols_46) (.sl (List.map eTPick aK.Picks)),.tr (.sl 48 3 (fun _ => .sc)) (.sl (List.map eTTake aK.Takes))]]))))]
         change Code.wp Try.prog _ _ _ _
         refine qe [] [0,3,4,5,6] [(2,0),(213,0),(300,0)] h fun ac wd h => ?_
         have h := h.sw (216,0) (300,0) 306
         exact ⟨nf,Nat.lt_succ_self nf,(IntKind.wrap .i64 (aw + 1)),(ax ++ [aK]),ay,h.z⟩
        ·
         refine kF h ?_
         refine wp_exit ?_
         injection ay with ay; subst ay
         exact ⟨ax,rfl,h.z⟩
     ·
      rintro ac wd ⟨av,rfl,h⟩
      (try dsimp only at ak)
      obtain ⟨aO,ak⟩ := iT ak
      refine qe [] [0,3,4] [(216,0),(291,0)] h fun ac wd h => ?_
      have h := h.fL (cols := cols_43) (291,0) (216,0) (openRows cols_38 (List.map eTNode ab)) [.d (.int .i64 am.Start),.own (216,0) av.length] 1 (List.map eTState av) (sc_43 _)
      have h := h.sm 293 [(0,.one (.d (.sl (List.map eTNode a0)))),(3,.one (.own (291,0) (ab.length + 1))),(4,.one (.d (.int .i64 aa)))]
       [((291,0),some (.row 38 2 ((openRows cols_38 (List.map eTNode ab) ++ [[.d (.int .i64 am.Start),.tr (.sl 43 4 cols_43) (.sl (List.map eTState av))]]))))]
      injection ak with ak; subst ak
      exact ⟨(ab ++ [(TNode.mk am.Start av)]),rfl,h.z⟩
    ·
     rintro ac wd ⟨al,rfl,h⟩
     (try dsimp only at ad)
     refine qe [] [0,3,4] [(291,0)] h fun ac wd h => ?_
     have h := h.sw (2,0) (291,0) 296
     exact ⟨nf,Nat.lt_succ_self nf,(IntKind.wrap .i64 (aa + 1)),al,ad,h.z⟩
   ·
    refine kF h ?_
    refine wp_exit ?_
    change Code.wp Try.prog _ _ _ _
    refine qs 209 [] [2] [(2,0)] h fun ac wd h => ?_
    refine wp_ret ?_
    have h := h.sw (1,0) (2,0) 209
    injection ad with ad
    subst ad
    exact rO h [.tmp 2] [(1,0)]
theorem L_law04_Cut_ok {a0 : (List TNode)} {r : (List TNode)} (hD : L_law04_Cut a0 = some r) :
  CallH Try.prog 12 [.one (.d (.sl (List.map eTNode a0)))] []
   (.one (.d (.sl (List.map eTNode r)))) [] :=
 (L_law04_Cut_own hD).fr

theorem L_law03_Cut_ok {a0 : TGraph} {r : TGraph} (hD : L_law03_Cut a0 = some r) :
  CallH Try.prog 13 [.agg (cTGraph a0)] []
   (.agg [.d (.int .i64 r.N),.d (.sl (List.map eA2I r.Links))]) [] := by
 unfold L_law03_Cut at hD
 refine rc Try.func13 rfl Try.ntmps13 fun S Φ P0 wb ac h => ?_
 refine qs 3 [] [1,2] [(1,0),(2,0)] h fun ac wd h => ?_
 obtain ⟨aa,hD⟩ := iT hD
 obtain ⟨ab,hD⟩ := iT hD
 obtain ⟨ad,ae,hD⟩ := vB hD
 refine qs 12 [] [1,2] [(1,0),(2,0)] h fun ac wd h => ?_
 refine qs 14 [] [2] [(2,0)] h fun ac wd h => ?_
 refine wp_ret ?_
 injection hD with hD
 subst hD
 exact rE h [.cell 2 25]

theorem L_law04_state_own {a0 : TState} {r : TState} (hD : L_law04_state a0 = some r) :
  CallH Try.prog 54 [.agg (cTState a0)] []
   (.agg [.d (.int .i64 r.Mode),.d (.sl (List.map eI r.Waits)),.own (1,0) r.Picks.length,.own (1,1) r.Takes.length]) [((1,0),some (.row 189 2 (openRows cols_189 (List.map eTPick r.Picks)))),((1,1),some (.row 191 3 (dat (List.map eTTake r.Takes))))] := by
 unfold L_law04_state at hD
 refine rc Try.func54 rfl Try.ntmps54 fun S Φ P0 wb ac h => ?_
 refine qs 3 [] [1,2] [(1,0),(2,0)] h fun ac wd h => ?_
 refine qs 10 [] [1,2,3] [(1,0),(2,0),(8,0)] h fun ac wd h => ?_
 refine wp_seq ?_
 refine qs 11 [] [1,2,3,4] [(1,0),(2,0),(8,0)] h fun ac wd h => ?_
 obtain ⟨aa,ab,hD⟩ := Option.bind_eq_some_iff.1 hD
 refine r_meet (fun ac wd => ∃ (ad : List TPick),ad = aa ∧ SL ⟨wb,S,Φ,P0⟩ 102 240 [(1,.one (.ptr (1,0) 0)),(2,.one (.ptr (2,0) 0)),(3,.one (.ptr (8,0) 0))] [((1,0),some (.box 43 (cTState a0))),((2,0),some (.box 90 [.d (.int .i64 0),.nil,.nil,.nil])),((8,0),some (.box 90 [.d (.int .i64 a0.Mode),.d (.sl (List.map eI a0.Waits)),.own (11,0) ad.length,.nil])),((11,0),some (.row 189 2 (openRows cols_189 (List.map eTPick ad))))] ac wd) ?_ ?_
 ·
  refine wp_block ?_
  have h := SL.bornB h (8,0) 2 189 2 (by simp only [EZ,simprocAttr, *] <;> rfl) (by simp only [EZ,simprocAttr, *] <;> rfl)
  refine r_while (fun nf ac wd => ∃ (ae : Int) (af : List TPick),L_law04_state_l1 a0 nf ae af = some aa ∧ SL ⟨wb,S,Φ,P0⟩ 102 235 [(1,.one (.ptr (1,0) 0)),(2,.one (.ptr (2,0) 0)),(3,.one (.ptr (8,0) 0)),(4,.one (.d (.int .i64 ae)))] [((1,0),some (.box 43 (cTState a0))),((2,0),some (.box 90 [.d (.int .i64 0),.nil,.nil,.nil])),((8,0),some (.box 90 [.d (.int .i64 a0.Mode),.d (.sl (List.map eI a0.Waits)),.own (11,0) af.length,.nil])),((11,0),some (.row 189 2 (openRows cols_189 (List.map eTPick af))))] ac wd) (((a0.Picks.length : Int) - 0).toNat + 1) ⟨0,([] : List TPick),ab,h.z⟩ (fun nf ac wd hJ => ?_)
  obtain ⟨ae,af,ag,h⟩ := hJ
  cases nf with
  | zero => rw [L_law04_state_l1] at ag; cases ag
  | succ nf =>
   rw [L_law04_state_l1] at ag
   refine wp_seq ?_
   refine qs 240 [] [1,2,3,4,17] [(1,0),(2,0),(8,0),(11,0)] h fun ac wd h => ?_
   rcases i2 ag with ⟨ah,ag⟩ | ⟨ah,ag⟩
   ·
    refine kT h ?_
    refine wp_skip ?_
    change Code.wp Try.prog _ _ _ _
    obtain ⟨ai,aj,ag⟩ := Option.bind_eq_some_iff.1 ag
    refine r_seqJ (fun ac wd => ∃ (ak : List TPick),ak = ai ∧ SL ⟨wb,S,Φ,P0⟩ 102 344 [(1,.one (.ptr (1,0) 0)),(2,.one (.ptr (2,0) 0)),(3,.one (.ptr (8,0) 0)),(4,.one (.d (.int .i64 ae)))] [((1,0),some (.box 43 (cTState a0))),((2,0),some (.box 90 [.d (.int .i64 0),.nil,.nil,.nil])),((8,0),some (.box 90 [.d (.int .i64 a0.Mode),.d (.sl (List.map eI a0.Waits)),.own (341,0) ak.length,.nil])),((341,0),some (.row 189 2 (openRows cols_189 (List.map eTPick ak))))] ac wd) ?_ ?_
    ·
     refine wp_block ?_
     obtain ⟨al,am,an,ao,ap,aj⟩ := aB aj
     refine qs 249 [] [1,2,3,4,5] [(1,0),(2,0),(8,0),(11,0),(247,0)] h fun ac wd h => ?_
     refine wp_seq ?_
     refine qs 250 [] [1,2,3,4,5,6] [(1,0),(2,0),(8,0),(11,0),(247,0)] h fun ac wd h => ?_
     obtain ⟨aq,ar,aj⟩ := Option.bind_eq_some_iff.1 aj
     refine r_meet (fun ac wd => ∃ (au : List TSend),au = aq ∧ SL ⟨wb,S,Φ,P0⟩ 102 337 [(1,.one (.ptr (1,0) 0)),(2,.one (.ptr (2,0) 0)),(3,.one (.ptr (8,0) 0)),(4,.one (.d (.int .i64 ae))),(5,.one (.ptr (247,0) 0))] [((1,0),some (.box 43 (cTState a0))),((2,0),some (.box 90 [.d (.int .i64 0),.nil,.nil,.nil])),((8,0),some (.box 90 [.d (.int .i64 a0.Mode),.d (.sl (List.map eI a0.Waits)),.own (11,0) af.length,.nil])),((11,0),some (.row 189 2 (openRows cols_189 (List.map eTPick af)))),((247,0),some (.box 189 [.d (.int .i64 al.Next),.own (250,0) au.length])),((250,0),some (.row 190 2 (dat (List.map eTSend au))))] ac wd) ?_ ?_
     ·
      refine wp_block ?_
      have h := SL.bornB h (247,0) 1 190 2 (by simp only [EZ,simprocAttr, *] <;> rfl) (by simp only [EZ,simprocAttr, *] <;> rfl)
      refine r_while (fun nf ac wd => ∃ (av : Int) (aw : List TSend),L_law04_state_l2 al nf av aw = some aq ∧ SL ⟨wb,S,Φ,P0⟩ 102 328 [(1,.one (.ptr (1,0) 0)),(2,.one (.ptr (2,0) 0)),(3,.one (.ptr (8,0) 0)),(4,.one (.d (.int .i64 ae))),(5,.one (.ptr (247,0) 0)),(6,.one (.d (.int .i64 av)))] [((1,0),some (.box 43 (cTState a0))),((2,0),some (.box 90 [.d (.int .i64 0),.nil,.nil,.nil])),((8,0),some (.box 90 [.d (.int .i64 a0.Mode),.d (.sl (List.map eI a0.Waits)),.own (11,0) af.length,.nil])),((11,0),some (.row 189 2 (openRows cols_189 (List.map eTPick af)))),((247,0),some (.box 189 [.d (.int .i64 al.Next),.own (250,0) aw.length])),((250,0),some (.row 190 2 (dat (List.map eTSend aw))))] ac wd) (((al.Sends.length : Int) - 0).toNat + 1) ⟨0,([] : List TSend),ar,h.z⟩ (fun nf ac wd hJ => ?_)
      obtain ⟨av,aw,ax,h⟩ := hJ
      cases nf with
      | zero => rw [L_law04_state_l2] at ax; cases ax
      | succ nf =>
       rw [L_law04_state_l2] at ax
       refine wp_seq ?_
       refine qs 337 [] [1,2,3,4,5,6,35] [(1,0),(2,0),(8,0),(11,0),(247,0),(250,0)] h fun ac wd h => ?_
       rcases i2 ax with ⟨ay,ax⟩ | ⟨ay,ax⟩
       ·
        refine kT h ?_
        refine wp_skip ?_
        change Code.wp Try.prog _ _ _ _
        refine wp_seq ?_
        refine wp_block ?_
        obtain ⟨az,aA,aC,aD,aE,ax⟩ := aB ax
        obtain ⟨aF,ax⟩ := iT ax
        refine de [] [1,2,3,4,5,6] [(1,0),(2,0),(8,0),(11,0),(247,0),(361,0)] h fun ac wd h => ?_
        change Code.wp Try.prog _ _ _ _
        refine qe [] [1,2,3,4,5,6] [(1,0),(2,0),(8,0),(11,0),(247,0),(361,0)] h fun ac wd h => ?_
        have h := h.sw (250,0) (361,0) 367
        exact ⟨nf,Nat.lt_succ_self nf,(IntKind.wrap .i64 (av + 1)),(aw ++ [az]),ax,h.z⟩
       ·
        refine kF h ?_
        refine wp_exit ?_
        injection ax with ax; subst ax
        exact ⟨aw,rfl,h.z⟩
     ·
      rintro ac wd ⟨au,rfl,h⟩
      (try dsimp only at aj)
      obtain ⟨aG,aj⟩ := iT aj
      refine qe [] [1,2,3,4] [(1,0),(2,0),(8,0),(250,0),(341,0)] h fun ac wd h => ?_
      have h := h.fL (cols := (fun _ => .sc)) (341,0) (250,0) (openRows cols_189 (List.map eTPick af)) [.d (.int .i64 al.Next),.own (250,0) au.length] 1 (List.map eTSend au) (sc_190 _)
      have h := h.sm 344 [(1,.one (.ptr (1,0) 0)),(2,.one (.ptr (2,0) 0)),(3,.one (.ptr (8,0) 0)),(4,.one (.d (.int .i64 ae)))]
       [((1,0),some (.box 43 (cTState a0))),((2,0),some (.box 90 [.d (.int .i64 0),.nil,.nil,.nil])),((8,0),some (.box 90 [.d (.int .i64 a0.Mode),.d (.sl (List.map eI a0.Waits)),.own (341,0) (af.length + 1),.nil])),((341,0),some (.row 189 2 ((openRows cols_189 (List.map eTPick af) ++ [[.d (.int .i64 al.Next),.tr (.sl 190 2 (fun _ => .sc)) (.sl (List.map eTSend au))]]))))]
      injection aj with aj; subst aj
      exact ⟨(af ++ [(TPick.mk al.Next au)]),rfl,h.z⟩
    ·
     rintro ac wd ⟨ak,rfl,h⟩
     (try dsimp only at ag)
     refine qe [] [1,2,3,4] [(1,0),(2,0),(8,0),(341,0)] h fun ac wd h => ?_
     have h := h.sw (11,0) (341,0) 347
     exact ⟨nf,Nat.lt_succ_self nf,(IntKind.wrap .i64 (ae + 1)),ak,ag,h.z⟩
   ·
    refine kF h ?_
    refine wp_exit ?_
    injection ag with ag; subst ag
    exact ⟨af,rfl,h.z⟩
 ·
  rintro ac wd ⟨ad,rfl,h⟩
  (try dsimp only at hD)
  refine wp_seq ?_
  refine qs 241 [] [1,2,3,7] [(1,0),(2,0),(8,0),(11,0)] h fun ac wd h => ?_
  refine wp_block ?_
  have h := SL.bornB h (8,0) 3 191 3 (by simp only [EZ,simprocAttr, *] <;> rfl) (by simp only [EZ,simprocAttr, *] <;> rfl)
  refine r_while (fun nf ac wd => ∃ (aH : Int) (aI : List TTake),L_law04_state_l3 a0 ad nf aH aI = some r ∧ SL ⟨wb,S,Φ,P0⟩ 102 307 [(1,.one (.ptr (1,0) 0)),(2,.one (.ptr (2,0) 0)),(3,.one (.ptr (8,0) 0)),(7,.one (.d (.int .i64 aH)))] [((1,0),some (.box 43 (cTState a0))),((2,0),some (.box 90 [.d (.int .i64 0),.nil,.nil,.nil])),((8,0),some (.box 90 [.d (.int .i64 a0.Mode),.d (.sl (List.map eI a0.Waits)),.own (11,0) ad.length,.own (241,0) aI.length])),((11,0),some (.row 189 2 (openRows cols_189 (List.map eTPick ad)))),((241,0),some (.row 191 3 (dat (List.map eTTake aI))))] ac wd) (((a0.Takes.length : Int) - 0).toNat + 1) ⟨0,([] : List TTake),hD,h.z⟩ (fun nf ac wd hJ => ?_)
  obtain ⟨aH,aI,aJ,h⟩ := hJ
  cases nf with
  | zero => rw [L_law04_state_l3] at aJ; cases aJ
  | succ nf =>
   rw [L_law04_state_l3] at aJ
   refine wp_seq ?_
   refine qs 312 [] [1,2,3,7,74] [(1,0),(2,0),(8,0),(11,0),(241,0)] h fun ac wd h => ?_
   rcases i2 aJ with ⟨aK,aJ⟩ | ⟨aK,aJ⟩
   ·
    refine kT h ?_
    refine wp_skip ?_
    change Code.wp Try.prog _ _ _ _
    refine wp_seq ?_
    refine wp_block ?_
    obtain ⟨aL,aM,aN,aO,aP,aJ⟩ := aB aJ
    obtain ⟨aQ,aJ⟩ := iT aJ
    refine de [] [1,2,3,7] [(1,0),(2,0),(8,0),(11,0),(334,0)] h fun ac wd h => ?_
    change Code.wp Try.prog _ _ _ _
    refine qe [] [1,2,3,7] [(1,0),(2,0),(8,0),(11,0),(334,0)] h fun ac wd h => ?_
    have h := h.sw (241,0) (334,0) 340
    exact ⟨nf,Nat.lt_succ_self nf,(IntKind.wrap .i64 (aH + 1)),(aI ++ [aL]),aJ,h.z⟩
   ·
    refine kF h ?_
    refine wp_exit ?_
    change Code.wp Try.prog _ _ _ _
    refine qs 314 [] [2] [(2,0),(11,0),(241,0)] h fun ac wd h => ?_
    refine wp_ret ?_
    have h := h.sw (1,0) (11,0) 314
    have h := h.sw (1,1) (241,0) 314
    injection aJ with aJ
    subst aJ
    exact rO h [.cell 2 90] [(1,0),(1,1)]
theorem L_law04_state_ok {a0 : TState} {r : TState} (hD : L_law04_state a0 = some r) :
  CallH Try.prog 54 [.agg (cTState a0)] []
   (.agg [.d (.int .i64 r.Mode),.d (.sl (List.map eI r.Waits)),.d (.sl (List.map eTPick r.Picks)),.d (.sl (List.map eTTake r.Takes))]) [] :=
 (L_law04_state_own hD).fr

theorem L_law04_Ref_own {a0 : (List TNode)} {r : (List TNode)} (hD : L_law04_Ref a0 = some r) :
  CallH Try.prog 15 [.one (.d (.sl (List.map eTNode a0)))] []
   (.one (.own (1,0) r.length)) [((1,0),some (.row 132 2 (dat (List.map eTNode r))))] := by
 unfold L_law04_Ref at hD
 refine rc Try.func15 rfl Try.ntmps15 fun S Φ P0 wb ac h => ?_
 refine qs 2 [] [0] [] h fun ac wd h => ?_
 refine qs 4 [] [0,3] [(2,0)] h fun ac wd h => ?_
 refine wp_seq ?_
 refine qs 5 [] [0,3,4] [(2,0)] h fun ac wd h => ?_
 refine wp_block ?_
 refine r_while (fun nf ac wd => ∃ (aa : Int) (ab : List TNode),L_law04_Ref_l1 a0 nf aa ab = some r ∧ SL ⟨wb,S,Φ,P0⟩ 49 167 [(0,.one (.d (.sl (List.map eTNode a0)))),(3,.one (.own (2,0) ab.length)),(4,.one (.d (.int .i64 aa)))] [((2,0),some (.row 132 2 (dat (List.map eTNode ab))))] ac wd) (((a0.length : Int) - 0).toNat + 1) ⟨0,([] : List TNode),hD,h.z⟩ (fun nf ac wd hJ => ?_)
 obtain ⟨aa,ab,ad,h⟩ := hJ
 cases nf with
 | zero => rw [L_law04_Ref_l1] at ad; cases ad
 | succ nf =>
  rw [L_law04_Ref_l1] at ad
  refine wp_seq ?_
  refine qs 171 [] [0,3,4,11] [(2,0)] h fun ac wd h => ?_
  rcases i2 ad with ⟨ae,ad⟩ | ⟨ae,ad⟩
  ·
   refine kT h ?_
   refine wp_skip ?_
   change Code.wp Try.prog _ _ _ _
   obtain ⟨af,ag,ad⟩ := Option.bind_eq_some_iff.1 ad
   refine r_seqJ (fun ac wd => ∃ (ah : List TNode),ah = af ∧ SL ⟨wb,S,Φ,P0⟩ 49 245 [(0,.one (.d (.sl (List.map eTNode a0)))),(3,.one (.own (243,0) ah.length)),(4,.one (.d (.int .i64 aa)))] [((243,0),some (.row 132 2 (dat (List.map eTNode ah))))] ac wd) ?_ ?_
   ·
    refine wp_block ?_
    obtain ⟨ai,aj,ak,al,am,ag⟩ := aB ag
    refine qs 179 [] [0,3,4,5] [(2,0),(177,0)] h fun ac wd h => ?_
    refine wp_seq ?_
    refine qs 180 [] [0,3,4,5,6] [(2,0),(177,0)] h fun ac wd h => ?_
    obtain ⟨an,ao,ag⟩ := Option.bind_eq_some_iff.1 ag
    refine r_meet (fun ac wd => ∃ (ap : List TState),ap = an ∧ SL ⟨wb,S,Φ,P0⟩ 49 240 [(0,.one (.d (.sl (List.map eTNode a0)))),(3,.one (.own (2,0) ab.length)),(4,.one (.d (.int .i64 aa))),(5,.one (.ptr (177,0) 0))] [((2,0),some (.row 132 2 (dat (List.map eTNode ab)))),((177,0),some (.box 132 [.d (.int .i64 ai.Start),.own (180,0) ap.length])),((180,0),some (.row 90 4 (dat (List.map eTState ap))))] ac wd) ?_ ?_
    ·
     refine wp_block ?_
     have h := SL.bornB h (177,0) 1 90 4 (by simp only [EZ,simprocAttr, *] <;> rfl) (by simp only [EZ,simprocAttr, *] <;> rfl)
     refine r_while (fun nf ac wd => ∃ (aq : Int) (ar : List TState),L_law04_Ref_l2 ai nf aq ar = some an ∧ SL ⟨wb,S,Φ,P0⟩ 49 232 [(0,.one (.d (.sl (List.map eTNode a0)))),(3,.one (.own (2,0) ab.length)),(4,.one (.d (.int .i64 aa))),(5,.one (.ptr (177,0) 0)),(6,.one (.d (.int .i64 aq)))] [((2,0),some (.row 132 2 (dat (List.map eTNode ab)))),((177,0),some (.box 132 [.d (.int .i64 ai.Start),.own (180,0) ar.length])),((180,0),some (.row 90 4 (dat (List.map eTState ar))))] ac wd) (((ai.States.length : Int) - 0).toNat + 1) ⟨0,([] : List TState),ao,h.z⟩ (fun nf ac wd hJ => ?_)
     obtain ⟨aq,ar,au,h⟩ := hJ
     cases nf with
     | zero => rw [L_law04_Ref_l2] at au; cases au
     | succ nf =>
      rw [L_law04_Ref_l2] at au
      refine wp_seq ?_
      refine qs 240 [] [0,3,4,5,6,27] [(2,0),(177,0),(180,0)] h fun ac wd h => ?_
      rcases i2 au with ⟨av,au⟩ | ⟨av,au⟩
      ·
       refine kT h ?_
       refine wp_skip ?_
       change Code.wp Try.prog _ _ _ _
       refine wp_seq ?_
       refine wp_block ?_
       obtain ⟨aw,ax,ay,az,aA,au⟩ := aB au
       obtain ⟨aC,aD,au⟩ := oB au
       obtain ⟨aE,au⟩ := iT au
       have aF := L_law04_state_ok aD
       refine de [factE 250 aF] [0,3,4,5,6] [(2,0),(177,0),(252,0)] h fun ac wd h => ?_
       change Code.wp Try.prog _ _ _ _
       refine qe [] [0,3,4,5,6] [(2,0),(177,0),(252,0)] h fun ac wd h => ?_
       have h := h.sw (180,0) (252,0) 258
       exact ⟨nf,Nat.lt_succ_self nf,(IntKind.wrap .i64 (aq + 1)),(ar ++ [aC]),au,h.z⟩
      ·
       refine kF h ?_
       refine wp_exit ?_
       injection au with au; subst au
       exact ⟨ar,rfl,h.z⟩
    ·
     rintro ac wd ⟨ap,rfl,h⟩
     (try dsimp only at ag)
     obtain ⟨aG,ag⟩ := iT ag
     have h := h.fz [(180,0)]
     refine qe [] [0,3,4] [(243,0)] h fun ac wd h => ?_
     injection ag with ag; subst ag
     exact ⟨(ab ++ [(TNode.mk ai.Start ap)]),rfl,h.z⟩
   ·
    rintro ac wd ⟨ah,rfl,h⟩
    (try dsimp only at ad)
    refine qe [] [0,3,4] [(243,0)] h fun ac wd h => ?_
    have h := h.sw (2,0) (243,0) 248
    exact ⟨nf,Nat.lt_succ_self nf,(IntKind.wrap .i64 (aa + 1)),ah,ad,h.z⟩
  ·
   refine kF h ?_
   refine wp_exit ?_
   change Code.wp Try.prog _ _ _ _
   refine qs 173 [] [2] [(2,0)] h fun ac wd h => ?_
   refine wp_ret ?_
   have h := h.sw (1,0) (2,0) 173
   injection ad with ad
   subst ad
   exact rO h [.tmp 2] [(1,0)]
theorem L_law04_Ref_ok {a0 : (List TNode)} {r : (List TNode)} (hD : L_law04_Ref a0 = some r) :
  CallH Try.prog 15 [.one (.d (.sl (List.map eTNode a0)))] []
   (.one (.d (.sl (List.map eTNode r)))) [] :=
 (L_law04_Ref_own hD).fr

theorem L_law03_Ref_ok {a0 : TGraph} {r : TGraph} (hD : L_law03_Ref a0 = some r) :
  CallH Try.prog 16 [.agg (cTGraph a0)] []
   (.agg [.d (.int .i64 r.N),.d (.sl (List.map eA2I r.Links))]) [] := by
 unfold L_law03_Ref at hD
 refine rc Try.func16 rfl Try.ntmps16 fun S Φ P0 wb ac h => ?_
 refine qs 3 [] [1,2] [(1,0),(2,0)] h fun ac wd h => ?_
 refine qs 9 [] [2] [(2,0)] h fun ac wd h => ?_
 refine wp_ret ?_
 injection hD with hD
 subst hD
 exact rE h [.cell 2 32]

theorem L_ref03_Find_ok {a0 : TGraph} {a1 : Int} {a2 : Int} {r : Int} (hD : L_ref03_Find a0 a1 a2 = some r) :
  CallH Try.prog 32 [.agg (cTGraph a0),.one (.d (.int .i64 a1)),.one (.d (.int .i64 a2))] []
   (.one (.d (.int .i64 r))) [] := by
 unfold L_ref03_Find at hD
 refine rc Try.func32 rfl Try.ntmps32 fun S Φ P0 wb ac h => ?_
 refine qs 3 [] [1,2,3] [(1,0)] h fun ac wd h => ?_
 refine wp_seq ?_
 refine qs 4 [] [1,2,3,7] [(1,0)] h fun ac wd h => ?_
 refine wp_block ?_
 refine r_while (fun nf ac wd => ∃ (aa : Int),L_ref03_Find_l1 a0 a1 a2 nf aa = some r ∧ SL ⟨wb,S,Φ,P0⟩ 34 56 [(1,.one (.d (.int .i64 a1))),(2,.one (.d (.int .i64 a2))),(3,.one (.ptr (1,0) 0)),(7,.one (.d (.int .i64 aa)))] [((1,0),some (.box 32 (cTGraph a0)))] ac wd) (((a0.Links.length : Int) - 0).toNat + 1) ⟨0,hD,h.z⟩ (fun nf ac wd hJ => ?_)
 obtain ⟨aa,ab,h⟩ := hJ
 cases nf with
 | zero => rw [L_ref03_Find_l1] at ab; cases ab
 | succ nf =>
  rw [L_ref03_Find_l1] at ab
  refine wp_seq ?_
  refine qs 61 [] [1,2,3,7,12] [(1,0)] h fun ac wd h => ?_
  rcases i2 ab with ⟨ad,ab⟩ | ⟨ad,ab⟩
  ·
   refine kT h ?_
   refine wp_skip ?_
   change Code.wp Try.prog _ _ _ _
   refine wp_seq ?_
   refine wp_block ?_
   obtain ⟨ae,af,ab⟩ := Option.bind_eq_some_iff.1 ab
   refine r_seqJ (fun ac wd => ∃ (ag : Bool),ag = ae ∧ SL ⟨wb,S,Φ,P0⟩ 34 79 [(1,.one (.d (.int .i64 a1))),(2,.one (.d (.int .i64 a2))),(3,.one (.ptr (1,0) 0)),(7,.one (.d (.int .i64 aa))),(32,.one (.d (.bool ag)))] [((1,0),some (.box 32 (cTGraph a0)))] ac wd) ?_ ?_
   ·
    obtain ⟨ah,ai,aj,ak,al,af⟩ := aB af
    rcases i2e af with ⟨am,af⟩ | ⟨am,af⟩
    ·
     refine qeg [] [none,none,none,none,none,none,none,none,none,some (some 23,true),some (some 23,true),some (some 23,true),some (some 23,true),some (some 23,true),some (some 23,true),some (some 23,true),some (some 23,true),none] [1,2,3,7,32] [(1,0)] h fun ac wd h => ?_
     injection af with af; subst af
     exact ⟨decide (ah.a1 = a2),rfl,h.z⟩
    ·
     refine qeg [] [none,none,none,none,none,none,none,none,none,some (some 23,true),some (some 23,true),some (some 23,true),some (some 23,true),some (some 23,true),some (some 23,true),some (some 23,true),some (some 23,true),none] [1,2,3,7,32] [(1,0)] h fun ac wd h => ?_
     injection af with af; subst af
     exact ⟨false,rfl,h.z⟩
   ·
    rintro ac wd ⟨ag,rfl,h⟩
    (try dsimp only at ab)
    rcases i2b ab with ⟨an,ab⟩ | ⟨an,ab⟩
    ·
     refine kT h ?_
     refine qs 81 [] [6] [] h fun ac wd h => ?_
     refine wp_ret ?_
     injection ab with ab
     subst ab
     exact rE h [.tmp 6]
    ·
     refine kF h ?_
     refine wp_skip ?_
     change Code.wp Try.prog _ _ _ _
     refine qe [] [1,2,3,7] [(1,0)] h fun ac wd h => ?_
     exact ⟨nf,Nat.lt_succ_self nf,(IntKind.wrap .i64 (aa + 1)),ab,h.z⟩
  ·
   refine kF h ?_
   refine wp_exit ?_
   change Code.wp Try.prog _ _ _ _
   refine qs 62 [] [6] [] h fun ac wd h => ?_
   refine wp_ret ?_
   injection ab with ab
   subst ab
   exact rE h [.tmp 6]

theorem L_ref03_Dist_own {a0 : TGraph} {a1 : Int} {r : (List Int)} (hD : L_ref03_Dist a0 a1 = some r) :
  CallH Try.prog 95 [.agg (cTGraph a0),.one (.d (.int .i64 a1))] []
   (.one (.own (1,0) r.length)) [((1,0),some (.row 3 1 (dat (List.map eI r))))] := by
 unfold L_ref03_Dist at hD
 refine rc Try.func95 rfl Try.ntmps95 fun S Φ P0 wb ac h => ?_
 refine qs 3 [] [1,2] [(1,0)] h fun ac wd h => ?_
 refine qs 5 [] [1,2,5] [(1,0),(3,0)] h fun ac wd h => ?_
 refine wp_seq ?_
 obtain ⟨aa,ab,hD⟩ := Option.bind_eq_some_iff.1 hD
 refine r_seqJ (fun ac wd => ∃ (ad : Bool),ad = aa ∧ SL ⟨wb,S,Φ,P0⟩ 77 13 [(1,.one (.d (.int .i64 a1))),(2,.one (.ptr (1,0) 0)),(5,.one (.own (3,0) 0)),(19,.one (.d (.bool ad)))] [((1,0),some (.box 32 (cTGraph a0))),((3,0),some (.row 3 1 ([])))] ac wd) ?_ ?_
 ·
  rcases i2 ab with ⟨ae,ab⟩ | ⟨ae,ab⟩
  ·
   refine qeg [] [none,none,none,some (some 14,false),some (some 14,false),some (some 14,false),some (some 14,false),none] [1,2,5,19] [(1,0),(3,0)] h fun ac wd h => ?_
   injection ab with ab; subst ab
   exact ⟨true,rfl,h.z⟩
  ·
   refine qeg [] [none,none,none,some (some 14,false),some (some 14,false),some (some 14,false),some (some 14,false),none] [1,2,5,19] [(1,0),(3,0)] h fun ac wd h => ?_
   injection ab with ab; subst ab
   exact ⟨decide (a1 ≥ a0.N),rfl,h.z⟩
 ·
  rintro ac wd ⟨ad,rfl,h⟩
  (try dsimp only at hD)
  rcases i2b hD with ⟨af,hD⟩ | ⟨af,hD⟩
  ·
   refine kT h ?_
   refine qs 15 [] [4] [(3,0)] h fun ac wd h => ?_
   refine wp_ret ?_
   have h := h.sw (1,0) (3,0) 15
   injection hD with hD
   subst hD
   exact rO h [.tmp 4] [(1,0)]
  ·
   refine kF h ?_
   refine wp_skip ?_
   change Code.wp Try.prog _ _ _ _
   refine wp_seq ?_
   refine qs 14 [] [1,2,5,6] [(1,0),(3,0)] h fun ac wd h => ?_
   obtain ⟨ag,ah,hD⟩ := Option.bind_eq_some_iff.1 hD
   refine r_meet (fun ac wd => ∃ (ai : List Int),ai = ag ∧ SL ⟨wb,S,Φ,P0⟩ 77 40 [(1,.one (.d (.int .i64 a1))),(2,.one (.ptr (1,0) 0)),(5,.one (.own (3,0) ai.length))] [((1,0),some (.box 32 (cTGraph a0))),((3,0),some (.row 3 1 (dat (List.map eI ai))))] ac wd) ?_ ?_
   ·
    refine wp_block ?_
    refine r_while (fun nf ac wd => ∃ (aj : Int) (ak : List Int),L_ref03_Dist_l1 a0 nf aj ak = some ag ∧ SL ⟨wb,S,Φ,P0⟩ 77 36 [(1,.one (.d (.int .i64 a1))),(2,.one (.ptr (1,0) 0)),(5,.one (.own (3,0) ak.length)),(6,.one (.d (.int .i64 aj)))] [((1,0),some (.box 32 (cTGraph a0))),((3,0),some (.row 3 1 (dat (List.map eI ak))))] ac wd) ((a0.N - 0).toNat + 1) ⟨0,([] : List Int),ah,h.z⟩ (fun nf ac wd hJ => ?_)
    obtain ⟨aj,ak,al,h⟩ := hJ
    cases nf with
    | zero => rw [L_ref03_Dist_l1] at al; cases al
    | succ nf =>
     rw [L_ref03_Dist_l1] at al
     refine wp_seq ?_
     refine qs 40 [] [1,2,5,6,24] [(1,0),(3,0)] h fun ac wd h => ?_
     rcases i2 al with ⟨am,al⟩ | ⟨am,al⟩
     ·
      refine kT h ?_
      refine wp_skip ?_
      change Code.wp Try.prog _ _ _ _
      refine wp_seq ?_
      refine wp_block ?_
      obtain ⟨an,al⟩ := iT al
      refine qe [] [1,2,5,6] [(1,0),(42,0)] h fun ac wd h => ?_
      change Code.wp Try.prog _ _ _ _
      refine qe [] [1,2,5,6] [(1,0),(42,0)] h fun ac wd h => ?_
      have h := h.sw (3,0) (42,0) 47
      exact ⟨nf,Nat.lt_succ_self nf,(IntKind.wrap .i64 (aj + 1)),(ak ++ [(-1)]),al,h.z⟩
     ·
      refine kF h ?_
      refine wp_exit ?_
      injection al with al; subst al
      exact ⟨ak,rfl,h.z⟩
   ·
    rintro ac wd ⟨ai,rfl,h⟩
    (try dsimp only at hD)
    obtain ⟨ao,ap,aq,ar,au,hD⟩ := aB hD
    refine qs 44 [] [2,5] [(1,0),(3,0)] h fun ac wd h => ?_
    refine wp_seq ?_
    refine qs 45 [] [2,5,7] [(1,0),(3,0)] h fun ac wd h => ?_
    refine wp_block ?_
    refine r_while (fun nf ac wd => ∃ (av : Int) (aw : List Int),L_ref03_Dist_l2 a0 nf av aw = some r ∧ SL ⟨wb,S,Φ,P0⟩ 77 235 [(2,.one (.ptr (1,0) 0)),(5,.one (.own (3,0) aw.length)),(7,.one (.d (.int .i64 av)))] [((1,0),some (.box 32 (cTGraph a0))),((3,0),some (.row 3 1 (dat (List.map eI aw))))] ac wd) ((a0.N - 0).toNat + 1) ⟨0,(ai.set a1.toNat 0),hD,h.z⟩ (fun nf ac wd hJ => ?_)
    obtain ⟨av,aw,ax,h⟩ := hJ
    cases nf with
    | zero => rw [L_ref03_Dist_l2] at ax; cases ax
    | succ nf =>
     rw [L_ref03_Dist_l2] at ax
     refine wp_seq ?_
     refine qs 239 [] [2,5,7,36] [(1,0),(3,0)] h fun ac wd h => ?_
     rcases i2 ax with ⟨ay,ax⟩ | ⟨ay,ax⟩
     ·
      refine kT h ?_
      refine wp_skip ?_
      change Code.wp Try.prog _ _ _ _
      obtain ⟨az,aA,ax⟩ := Option.bind_eq_some_iff.1 ax
      refine r_seqJ (fun ac wd => ∃ (aC : List Int),aC = az ∧ SL ⟨wb,S,Φ,P0⟩ 77 327 [(2,.one (.ptr (1,0) 0)),(5,.one (.own (3,0) aC.length)),(7,.one (.d (.int .i64 av)))] [((1,0),some (.box 32 (cTGraph a0))),((3,0),some (.row 3 1 (dat (List.map eI aC))))] ac wd) ?_ ?_
      ·
       refine wp_block ?_
       refine qs 240 [] [2,5,7,8] [(1,0),(3,0)] h fun ac wd h => ?_
       obtain ⟨aD,aE,aA⟩ := Option.bind_eq_some_iff.1 aA
       refine r_meetQ (fun ac wd => ∃ (aF : List Int),aF = aD ∧ SL ⟨wb,S,Φ,P0⟩ 77 327 [(2,.one (.ptr (1,0) 0)),(5,.one (.own (3,0) aF.length)),(7,.one (.d (.int .i64 av)))] [((1,0),some (.box 32 (cTGraph a0))),((3,0),some (.row 3 1 (dat (List.map eI aF))))] ac wd) ?_ ?_
       ·
        refine wp_block ?_
        refine r_while (fun nf ac wd => ∃ (aG : Int) (aH : List Int),L_ref03_Dist_l3 a0 av nf aG aH = some aD ∧ SL ⟨wb,S,Φ,P0⟩ 77 322 [(2,.one (.ptr (1,0) 0)),(5,.one (.own (3,0) aH.length)),(7,.one (.d (.int .i64 av))),(8,.one (.d (.int .i64 aG)))] [((1,0),some (.box 32 (cTGraph a0))),((3,0),some (.row 3 1 (dat (List.map eI aH))))] ac wd) (((a0.Links.length : Int) - 0).toNat + 1) ⟨0,aw,aE,h.z⟩ (fun nf ac wd hJ => ?_)
        obtain ⟨aG,aH,aI,h⟩ := hJ
        cases nf with
        | zero => rw [L_ref03_Dist_l3] at aI; cases aI
        | succ nf =>
         rw [L_ref03_Dist_l3] at aI
         refine wp_seq ?_
         refine qs 327 [] [2,5,7,8,43] [(1,0),(3,0)] h fun ac wd h => ?_
         rcases i2 aI with ⟨aJ,aI⟩ | ⟨aJ,aI⟩
         ·
          refine kT h ?_
          refine wp_skip ?_
          change Code.wp Try.prog _ _ _ _
          obtain ⟨aK,aL,aI⟩ := Option.bind_eq_some_iff.1 aI
          refine r_seqJ (fun ac wd => ∃ (aM : List Int),aM = aK ∧ SL ⟨wb,S,Φ,P0⟩ 77 360 [(2,.one (.ptr (1,0) 0)),(5,.one (.own (3,0) aM.length)),(7,.one (.d (.int .i64 av))),(8,.one (.d (.int .i64 aG)))] [((1,0),some (.box 32 (cTGraph a0))),((3,0),some (.row 3 1 (dat (List.map eI aM))))] ac wd) ?_ ?_
          ·
           refine wp_block ?_
           obtain ⟨aN,aO,aP,aQ,aR,aL⟩ := aB aL
           refine ds 341 [] [2,5,7,8,9,10] [(1,0),(3,0)] h fun ac wd h => ?_
           obtain ⟨aS,aT,aL⟩ := Option.bind_eq_some_iff.1 aL
           refine r_seqJ (fun ac wd => ∃ (aU : Bool),aU = aS ∧ SL ⟨wb,S,Φ,P0⟩ 77 354 [(2,.one (.ptr (1,0) 0)),(5,.one (.own (3,0) aH.length)),(7,.one (.d (.int .i64 av))),(8,.one (.d (.int .i64 aG))),(10,.one (.d (.int .i64 aN.a1))),(70,.one (.d (.bool aU)))] [((1,0),some (.box 32 (cTGraph a0))),((3,0),some (.row 3 1 (dat (List.map eI aH))))] ac wd) ?_ ?_
           ·
            obtain ⟨aV,aW,aX,aY,aZ,aT⟩ := aB aT
            rcases i2e aT with ⟨ba,aT⟩ | ⟨ba,aT⟩
            ·
             obtain ⟨bb,bc,bd,be,bf,aT⟩ := aB aT
             refine qeg [] [none,none,none,none,none,none,none,some (some 64,true),some (some 64,true),some (some 64,true),some (some 64,true),some (some 64,true),none] [2,5,7,8,10,70] [(1,0),(3,0)] h fun ac wd h => ?_
             injection aT with aT; subst aT
             exact ⟨decide (bb < 0),rfl,h.z⟩
            ·
             refine qeg [] [none,none,none,none,none,none,none,some (some 64,true),some (some 64,true),some (some 64,true),some (some 64,true),some (some 64,true),none] [2,5,7,8,10,70] [(1,0),(3,0)] h fun ac wd h => ?_
             injection aT with aT; subst aT
             exact ⟨false,rfl,h.z⟩
           ·
            rintro ac wd ⟨aU,rfl,h⟩
            (try dsimp only at aL)
            rcases i2b aL with ⟨bg,aL⟩ | ⟨bg,aL⟩
            ·
             refine kT h ?_
             obtain ⟨bh,bi,bj,bk,bl,aL⟩ := aB aL
             refine qe [] [2,5,7,8] [(1,0),(3,0)] h fun ac wd h => ?_
             injection aL with aL; subst aL
             exact ⟨(aH.set aN.a1.toNat (IntKind.wrap .i64 (av + 1))),rfl,h.z⟩
            ·
             refine kF h ?_
             refine wp_skip ?_
             injection aL with aL; subst aL
             exact ⟨aH,rfl,h.z⟩
          ·
           rintro ac wd ⟨aM,rfl,h⟩
           (try dsimp only at aI)
           refine qe [] [2,5,7,8] [(1,0),(3,0)] h fun ac wd h => ?_
           exact ⟨nf,Nat.lt_succ_self nf,(IntKind.wrap .i64 (aG + 1)),aM,aI,h.z⟩
         ·
          refine kF h ?_
          refine wp_exit ?_
          injection aI with aI; subst aI
          exact ⟨aH,rfl,h.z⟩
       ·
        rintro ac wd ⟨aF,rfl,h⟩
        (try dsimp only at aA)
        injection aA with aA; subst aA
        exact ⟨aF,rfl,h.z⟩
      ·
       rintro ac wd ⟨aC,rfl,h⟩
       (try dsimp only at ax)
       refine qe [] [2,5,7] [(1,0),(3,0)] h fun ac wd h => ?_
       exact ⟨nf,Nat.lt_succ_self nf,(IntKind.wrap .i64 (av + 1)),aC,ax,h.z⟩
     ·
      refine kF h ?_
      refine wp_exit ?_
      change Code.wp Try.prog _ _ _ _
      refine qs 241 [] [4] [(3,0)] h fun ac wd h => ?_
      refine wp_ret ?_
      have h := h.sw (1,0) (3,0) 241
      injection ax with ax
      subst ax
      exact rO h [.tmp 4] [(1,0)]
theorem L_ref03_Dist_ok {a0 : TGraph} {a1 : Int} {r : (List Int)} (hD : L_ref03_Dist a0 a1 = some r) :
  CallH Try.prog 95 [.agg (cTGraph a0),.one (.d (.int .i64 a1))] []
   (.one (.d (.sl (List.map eI r)))) [] :=
 (L_ref03_Dist_own hD).fr

end Go.Proofs.Ytabbejabdkkaiaa
