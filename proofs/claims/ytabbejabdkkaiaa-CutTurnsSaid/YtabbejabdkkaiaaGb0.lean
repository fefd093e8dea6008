/- Functions as typed ones,and that the program's functions answer as these do. No condition. -/
import Derived.Test.YtabbejabdkkaiaaGd
set_option linter.unusedSimpArgs false
set_option linter.unusedVariables false
set_option maxRecDepth 20000
set_option maxHeartbeats 4000000
namespace Go.Proofs.Ytabbejabdkkaiaa
open Go.RowKit

theorem L_law03_Cut_ok {a0 : TGraph} {r : TGraph} (hD : L_law03_Cut a0 = some r) :
  CallH Try.prog 13 [.agg (cTGraph a0)] []
   (.agg [.d (.int .i64 r.N),.d (.sl (List.map eA2I r.Links))]) [] := by
 unfold L_law03_Cut at hD
 refine rc Try.func13 rfl Try.ntmps13 fun S Φ P0 wb ac h => ?_
 refine qs 3 [] [1,2] [(1,0),(2,0)] h fun ac wd h => ?_
 obtain ⟨ha13,hD⟩ := iT hD
 obtain ⟨ha14,hD⟩ := iT hD
 obtain ⟨v15,hv16,hD⟩ := vB hD
 refine qs 12 [] [1,2] [(1,0),(2,0)] h fun ac wd h => ?_
 refine qs 14 [] [2] [(2,0)] h fun ac wd h => ?_
 refine wp_ret ?_
 injection hD with hD
 subst hD
 exact rE h [.cell 2 25]

theorem L_law04_cut_own {a0 : TState} {r : TState} (hD : L_law04_cut a0 = some r) :
  CallH Try.prog 49 [.agg (cTState a0)] []
   (.agg [.d (.int .i64 r.Mode),.own (1,0) r.Waits.length,.own (1,1) r.Picks.length,.own (1,2) r.Takes.length]) [((1,0),some (.row 3 1 (dat (List.map eI r.Waits)))),((1,1),some (.row 46 2 (openRows cols_46 (List.map eTPick r.Picks)))),((1,2),some (.row 48 3 (dat (List.map eTTake r.Takes))))] := by
 unfold L_law04_cut at hD
 refine rc Try.func49 rfl Try.ntmps49 fun S Φ P0 wb ac h => ?_
 refine qs 3 [] [1,2] [(1,0),(2,0)] h fun ac wd h => ?_
 obtain ⟨ha278,hD⟩ := iT hD
 obtain ⟨ha279,hD⟩ := iT hD
 obtain ⟨v280,hv281,hD⟩ := vB hD
 obtain ⟨ha282,hD⟩ := iT hD
 refine ds 17 [] [1,2,3] [(1,0),(2,0),(13,0),(15,0)] h fun ac wd h => ?_
 refine wp_seq ?_
 refine qs 18 [] [1,2,3,4] [(1,0),(2,0),(13,0),(15,0)] h fun ac wd h => ?_
 obtain ⟨e369,hE370,hD⟩ := Option.bind_eq_some_iff.1 hD
 refine r_meet (fun ac wd => ∃ (l368 : List TPick),l368 = e369 ∧ SL ⟨wb,S,Φ,P0⟩ 74 101 [(1,.one (.ptr (1,0) 0)),(2,.one (.ptr (2,0) 0)),(3,.one (.ptr (15,0) 0))] [((1,0),some (.box 43 (cTState a0))),((2,0),some (.box 43 [.d (.int .i64 0),.nil,.nil,.nil])),((13,0),some (.row 3 1 (dat (List.map eI v280)))),((15,0),some (.box 43 [.d (.int .i64 a0.Mode),.own (13,0) v280.length,.own (18,0) l368.length,.nil])),((18,0),some (.row 46 2 (openRows cols_46 (List.map eTPick l368))))] ac wd) ?_ ?_
 ·
  refine wp_block ?_
  have h := SL.bornB h (15,0) 2 46 2 (by simp only [EZ,simprocAttr, *] <;> rfl) (by simp only [EZ,simprocAttr, *] <;> rfl)
  refine r_while (fun nf ac wd => ∃ (n427 : Int) (l428 : List TPick),L_law04_cut_l1 a0 nf n427 l428 = some e369 ∧ SL ⟨wb,S,Φ,P0⟩ 74 92 [(1,.one (.ptr (1,0) 0)),(2,.one (.ptr (2,0) 0)),(3,.one (.ptr (15,0) 0)),(4,.one (.d (.int .i64 n427)))] [((1,0),some (.box 43 (cTState a0))),((2,0),some (.box 43 [.d (.int .i64 0),.nil,.nil,.nil])),((13,0),some (.row 3 1 (dat (List.map eI v280)))),((15,0),some (.box 43 [.d (.int .i64 a0.Mode),.own (13,0) v280.length,.own (18,0) l428.length,.nil])),((18,0),some (.row 46 2 (openRows cols_46 (List.map eTPick l428))))] ac wd) (((a0.Picks.length : Int) - 0).toNat + 1) ⟨0,([] : List TPick),hE370,h.z⟩ (fun nf ac wd hJ => ?_)
  obtain ⟨n427,l428,hL429,h⟩ := hJ
  cases nf with
  | zero => rw [L_law04_cut_l1] at hL429; cases hL429
  | succ nf =>
   rw [L_law04_cut_l1] at hL429
   refine wp_seq ?_
   obtain ⟨e432,hE433,hL429⟩ := Option.bind_eq_some_iff.1 hL429
   refine r_seqJ (fun ac wd => ∃ (b431 : Bool),b431 = e432 ∧ SL ⟨wb,S,Φ,P0⟩ 74 101 [(1,.one (.ptr (1,0) 0)),(2,.one (.ptr (2,0) 0)),(3,.one (.ptr (15,0) 0)),(4,.one (.d (.int .i64 n427))),(27,.one (.d (.bool b431)))] [((1,0),some (.box 43 (cTState a0))),((2,0),some (.box 43 [.d (.int .i64 0),.nil,.nil,.nil])),((13,0),some (.row 3 1 (dat (List.map eI v280)))),((15,0),some (.box 43 [.d (.int .i64 a0.Mode),.own (13,0) v280.length,.own (18,0) l428.length,.nil])),((18,0),some (.row 46 2 (openRows cols_46 (List.map eTPick l428))))] ac wd) ?_ ?_
   ·
    rcases i2 hE433 with ⟨hb434,hE433⟩ | ⟨hb434,hE433⟩
    ·
     refine qeg [] [none,none,none,none,none,none,some (some 24,true),some (some 24,true),none] [1,2,3,4,27] [(1,0),(2,0),(13,0),(15,0),(18,0)] h fun ac wd h => ?_
     injection hE433 with hE433; subst hE433
     exact ⟨decide (n427 < 10),rfl,h.z⟩
    ·
     refine qeg [] [none,none,none,none,none,none,some (some 24,true),some (some 24,true),none] [1,2,3,4,27] [(1,0),(2,0),(13,0),(15,0),(18,0)] h fun ac wd h => ?_
     injection hE433 with hE433; subst hE433
     exact ⟨false,rfl,h.z⟩
   ·
    rintro ac wd ⟨b431,rfl,h⟩
    (try dsimp only at hL429)
    rcases i2b hL429 with ⟨hb436,hL429⟩ | ⟨hb436,hL429⟩
    ·
     refine kT h ?_
     refine wp_skip ?_
     change Code.wp Try.prog _ _ _ _
     refine wp_seq ?_
     refine wp_block ?_
     obtain ⟨x449,hx450a,hx450b,hx450c,hx450d,hL429⟩ := aB hL429
     refine qs 108 [] [1,2,3,4,5] [(1,0),(2,0),(13,0),(15,0),(18,0),(106,0)] h fun ac wd h => ?_
     obtain ⟨ha451,hL429⟩ := iT hL429
     obtain ⟨ha452,hL429⟩ := iT hL429
     obtain ⟨v453,hv454,hL429⟩ := vB hL429
     obtain ⟨ha455,hL429⟩ := iT hL429
     obtain ⟨ha456,hL429⟩ := iT hL429
     refine de [] [1,2,3,4] [(1,0),(2,0),(13,0),(15,0),(120,0),(123,0)] h fun ac wd h => ?_
     have h := h.fL (cols := (fun _ => .sc)) (123,0) (120,0) (openRows cols_46 (List.map eTPick l428)) [.d (.int .i64 x449.Next),.own (120,0) v453.length] 1 (List.map eTSend v453) (sc_50 _)
     have h := h.sm 126 [(1,.one (.ptr (1,0) 0)),(2,.one (.ptr (2,0) 0)),(3,.one (.ptr (15,0) 0)),(4,.one (.d (.int .i64 n427)))]
      [((1,0),some (.box 43 (cTState a0))),((2,0),some (.box 43 [.d (.int .i64 0),.nil,.nil,.nil])),((13,0),some (.row 3 1 (dat (List.map eI v280)))),((15,0),some (.box 43 [.d (.int .i64 a0.Mode),.own (13,0) v280.length,.own (123,0) (l428.length + 1),.nil])),((123,0),some (.row 46 2 ((openRows cols_46 (List.map eTPick l428) ++ [[.d (.int .i64 x449.Next),.tr (.sl 50 2 (fun _ => .sc)) (.sl (List.map eTSend v453))]]))))]
     change Code.wp Try.prog _ _ _ _
     refine qe [] [1,2,3,4] [(1,0),(2,0),(13,0),(15,0),(123,0)] h fun ac wd h => ?_
     have h := h.sw (18,0) (123,0) 129
     exact ⟨nf,Nat.lt_succ_self nf,(IntKind.wrap .i64 (n427 + 1)),(l428 ++ [(TPick.mk x449.Next v453)]),hL429,h.z⟩
    ·
     refine kF h ?_
     refine wp_exit ?_
     injection hL429 with hL429; subst hL429
     exact ⟨l428,rfl,h.z⟩
 ·
  rintro ac wd ⟨l368,rfl,h⟩
  (try dsimp only at hD)
  refine wp_seq ?_
  refine qs 102 [] [1,2,3,6] [(1,0),(2,0),(13,0),(15,0),(18,0)] h fun ac wd h => ?_
  refine wp_block ?_
  have h := SL.bornB h (15,0) 3 48 3 (by simp only [EZ,simprocAttr, *] <;> rfl) (by simp only [EZ,simprocAttr, *] <;> rfl)
  refine r_while (fun nf ac wd => ∃ (n528 : Int) (l529 : List TTake),L_law04_cut_l2 a0 l368 v280 nf n528 l529 = some r ∧ SL ⟨wb,S,Φ,P0⟩ 74 148 [(1,.one (.ptr (1,0) 0)),(2,.one (.ptr (2,0) 0)),(3,.one (.ptr (15,0) 0)),(6,.one (.d (.int .i64 n528)))] [((1,0),some (.box 43 (cTState a0))),((2,0),some (.box 43 [.d (.int .i64 0),.nil,.nil,.nil])),((13,0),some (.row 3 1 (dat (List.map eI v280)))),((15,0),some (.box 43 [.d (.int .i64 a0.Mode),.own (13,0) v280.length,.own (18,0) l368.length,.own (102,0) l529.length])),((18,0),some (.row 46 2 (openRows cols_46 (List.map eTPick l368)))),((102,0),some (.row 48 3 (dat (List.map eTTake l529))))] ac wd) (((a0.Takes.length : Int) - 0).toNat + 1) ⟨0,([] : List TTake),hD,h.z⟩ (fun nf ac wd hJ => ?_)
  obtain ⟨n528,l529,hL530,h⟩ := hJ
  cases nf with
  | zero => rw [L_law04_cut_l2] at hL530; cases hL530
  | succ nf =>
   rw [L_law04_cut_l2] at hL530
   refine wp_seq ?_
   obtain ⟨e533,hE534,hL530⟩ := Option.bind_eq_some_iff.1 hL530
   refine r_seqJ (fun ac wd => ∃ (b532 : Bool),b532 = e533 ∧ SL ⟨wb,S,Φ,P0⟩ 74 157 [(1,.one (.ptr (1,0) 0)),(2,.one (.ptr (2,0) 0)),(3,.one (.ptr (15,0) 0)),(6,.one (.d (.int .i64 n528))),(60,.one (.d (.bool b532)))] [((1,0),some (.box 43 (cTState a0))),((2,0),some (.box 43 [.d (.int .i64 0),.nil,.nil,.nil])),((13,0),some (.row 3 1 (dat (List.map eI v280)))),((15,0),some (.box 43 [.d (.int .i64 a0.Mode),.own (13,0) v280.length,.own (18,0) l368.length,.own (102,0) l529.length])),((18,0),some (.row 46 2 (openRows cols_46 (List.map eTPick l368)))),((102,0),some (.row 48 3 (dat (List.map eTTake l529))))] ac wd) ?_ ?_
   ·
    rcases i2 hE534 with ⟨hb535,hE534⟩ | ⟨hb535,hE534⟩
    ·
     refine qeg [] [none,none,none,none,none,none,some (some 57,true),some (some 57,true),none] [1,2,3,6,60] [(1,0),(2,0),(13,0),(15,0),(18,0),(102,0)] h fun ac wd h => ?_
     injection hE534 with hE534; subst hE534
     exact ⟨decide (n528 < 30),rfl,h.z⟩
    ·
     refine qeg [] [none,none,none,none,none,none,some (some 57,true),some (some 57,true),none] [1,2,3,6,60] [(1,0),(2,0),(13,0),(15,0),(18,0),(102,0)] h fun ac wd h => ?_
     injection hE534 with hE534; subst hE534
     exact ⟨false,rfl,h.z⟩
   ·
    rintro ac wd ⟨b532,rfl,h⟩
    (try dsimp only at hL530)
    rcases i2b hL530 with ⟨hb537,hL530⟩ | ⟨hb537,hL530⟩
    ·
     refine kT h ?_
     refine wp_skip ?_
     change Code.wp Try.prog _ _ _ _
     refine wp_seq ?_
     refine wp_block ?_
     obtain ⟨x541,hx542a,hx542b,hx542c,hx542d,hL530⟩ := aB hL530
     obtain ⟨ha543,hL530⟩ := iT hL530
     refine de [] [1,2,3,6] [(1,0),(2,0),(13,0),(15,0),(18,0),(165,0)] h fun ac wd h => ?_
     change Code.wp Try.prog _ _ _ _
     refine qe [] [1,2,3,6] [(1,0),(2,0),(13,0),(15,0),(18,0),(165,0)] h fun ac wd h => ?_
     have h := h.sw (102,0) (165,0) 171
     exact ⟨nf,Nat.lt_succ_self nf,(IntKind.wrap .i64 (n528 + 1)),(l529 ++ [x541]),hL530,h.z⟩
    ·
     refine kF h ?_
     refine wp_exit ?_
     change Code.wp Try.prog _ _ _ _
     refine qs 159 [] [2] [(2,0),(13,0),(18,0),(102,0)] h fun ac wd h => ?_
     refine wp_ret ?_
     have h := h.sw (1,0) (13,0) 159
     have h := h.sw (1,1) (18,0) 159
     have h := h.sw (1,2) (102,0) 159
     injection hL530 with hL530
     subst hL530
     exact rO h [.cell 2 43] [(1,0),(1,1),(1,2)]
theorem L_law04_cut_ok {a0 : TState} {r : TState} (hD : L_law04_cut a0 = some r) :
  CallH Try.prog 49 [.agg (cTState a0)] []
   (.agg [.d (.int .i64 r.Mode),.d (.sl (List.map eI r.Waits)),.d (.sl (List.map eTPick r.Picks)),.d (.sl (List.map eTTake r.Takes))]) [] :=
 (L_law04_cut_own hD).fr

theorem L_law04_Cut_own {a0 : (List TNode)} {r : (List TNode)} (hD : L_law04_Cut a0 = some r) :
  CallH Try.prog 12 [.one (.d (.sl (List.map eTNode a0)))] []
   (.one (.own (1,0) r.length)) [((1,0),some (.row 38 2 (openRows cols_38 (List.map eTNode r))))] := by
 unfold L_law04_Cut at hD
 refine rc Try.func12 rfl Try.ntmps12 fun S Φ P0 wb ac h => ?_
 refine qs 2 [] [0] [] h fun ac wd h => ?_
 refine qs 4 [] [0,3] [(2,0)] h fun ac wd h => ?_
 refine wp_seq ?_
 refine qs 5 [] [0,3,4] [(2,0)] h fun ac wd h => ?_
 refine wp_block ?_
 refine r_while (fun nf ac wd => ∃ (n2716 : Int) (l2717 : List TNode),L_law04_Cut_l1 a0 nf n2716 l2717 = some r ∧ SL ⟨wb,S,Φ,P0⟩ 57 199 [(0,.one (.d (.sl (List.map eTNode a0)))),(3,.one (.own (2,0) l2717.length)),(4,.one (.d (.int .i64 n2716)))] [((2,0),some (.row 38 2 (openRows cols_38 (List.map eTNode l2717))))] ac wd) (((a0.length : Int) - 0).toNat + 1) ⟨0,([] : List TNode),hD,h.z⟩ (fun nf ac wd hJ => ?_)
 obtain ⟨n2716,l2717,hL2718,h⟩ := hJ
 cases nf with
 | zero => rw [L_law04_Cut_l1] at hL2718; cases hL2718
 | succ nf =>
  rw [L_law04_Cut_l1] at hL2718
  refine wp_seq ?_
  obtain ⟨e2721,hE2722,hL2718⟩ := Option.bind_eq_some_iff.1 hL2718
  refine r_seqJ (fun ac wd => ∃ (b2720 : Bool),b2720 = e2721 ∧ SL ⟨wb,S,Φ,P0⟩ 57 207 [(0,.one (.d (.sl (List.map eTNode a0)))),(3,.one (.own (2,0) l2717.length)),(4,.one (.d (.int .i64 n2716))),(15,.one (.d (.bool b2720)))] [((2,0),some (.row 38 2 (openRows cols_38 (List.map eTNode l2717))))] ac wd) ?_ ?_
  ·
   rcases i2 hE2722 with ⟨hb2723,hE2722⟩ | ⟨hb2723,hE2722⟩
   ·
    refine qeg [] [none,none,none,none,none,some (some 12,true),some (some 12,true),none] [0,3,4,15] [(2,0)] h fun ac wd h => ?_
    injection hE2722 with hE2722; subst hE2722
    exact ⟨decide (n2716 < 8),rfl,h.z⟩
   ·
    refine qeg [] [none,none,none,none,none,some (some 12,true),some (some 12,true),none] [0,3,4,15] [(2,0)] h fun ac wd h => ?_
    injection hE2722 with hE2722; subst hE2722
    exact ⟨false,rfl,h.z⟩
  ·
   rintro ac wd ⟨b2720,rfl,h⟩
   (try dsimp only at hL2718)
   rcases i2b hL2718 with ⟨hb2725,hL2718⟩ | ⟨hb2725,hL2718⟩
   ·
    refine kT h ?_
    refine wp_skip ?_
    change Code.wp Try.prog _ _ _ _
    obtain ⟨e2845,hE2846,hL2718⟩ := Option.bind_eq_some_iff.1 hL2718
    refine r_seqJ (fun ac wd => ∃ (l2844 : List TNode),l2844 = e2845 ∧ SL ⟨wb,S,Φ,P0⟩ 57 293 [(0,.one (.d (.sl (List.map eTNode a0)))),(3,.one (.own (291,0) l2844.length)),(4,.one (.d (.int .i64 n2716)))] [((291,0),some (.row 38 2 (openRows cols_38 (List.map eTNode l2844))))] ac wd) ?_ ?_
    ·
     refine wp_block ?_
     obtain ⟨x2849,hx2850a,hx2850b,hx2850c,hx2850d,hE2846⟩ := aB hE2846
     refine qs 215 [] [0,3,4,5] [(2,0),(213,0)] h fun ac wd h => ?_
     refine wp_seq ?_
     refine qs 216 [] [0,3,4,5,6] [(2,0),(213,0)] h fun ac wd h => ?_
     obtain ⟨e2907,hE2908,hE2846⟩ := Option.bind_eq_some_iff.1 hE2846
     refine r_meet (fun ac wd => ∃ (l2906 : List TState),l2906 = e2907 ∧ SL ⟨wb,S,Φ,P0⟩ 57 288 [(0,.one (.d (.sl (List.map eTNode a0)))),(3,.one (.own (2,0) l2717.length)),(4,.one (.d (.int .i64 n2716))),(5,.one (.ptr (213,0) 0))] [((2,0),some (.row 38 2 (openRows cols_38 (List.map eTNode l2717)))),((213,0),some (.box 38 [.d (.int .i64 x2849.Start),.own (216,0) l2906.length])),((216,0),some (.row 43 4 (openRows cols_43 (List.map eTState l2906))))] ac wd) ?_ ?_
     ·
      refine wp_block ?_
      have h := SL.bornB h (213,0) 1 43 4 (by simp only [EZ,simprocAttr, *] <;> rfl) (by simp only [EZ,simprocAttr, *] <;> rfl)
      refine r_while (fun nf ac wd => ∃ (n2945 : Int) (l2946 : List TState),L_law04_Cut_l2 x2849 nf n2945 l2946 = some e2907 ∧ SL ⟨wb,S,Φ,P0⟩ 57 276 [(0,.one (.d (.sl (List.map eTNode a0)))),(3,.one (.own (2,0) l2717.length)),(4,.one (.d (.int .i64 n2716))),(5,.one (.ptr (213,0) 0)),(6,.one (.d (.int .i64 n2945)))] [((2,0),some (.row 38 2 (openRows cols_38 (List.map eTNode l2717)))),((213,0),some (.box 38 [.d (.int .i64 x2849.Start),.own (216,0) l2946.length])),((216,0),some (.row 43 4 (openRows cols_43 (List.map eTState l2946))))] ac wd) (((x2849.States.length : Int) - 0).toNat + 1) ⟨0,([] : List TState),hE2908,h.z⟩ (fun nf ac wd hJ => ?_)
      obtain ⟨n2945,l2946,hL2947,h⟩ := hJ
      cases nf with
      | zero => rw [L_law04_Cut_l2] at hL2947; cases hL2947
      | succ nf =>
       rw [L_law04_Cut_l2] at hL2947
       refine wp_seq ?_
       obtain ⟨e2950,hE2951,hL2947⟩ := Option.bind_eq_some_iff.1 hL2947
       refine r_seqJ (fun ac wd => ∃ (b2949 : Bool),b2949 = e2950 ∧ SL ⟨wb,S,Φ,P0⟩ 57 288 [(0,.one (.d (.sl (List.map eTNode a0)))),(3,.one (.own (2,0) l2717.length)),(4,.one (.d (.int .i64 n2716))),(5,.one (.ptr (213,0) 0)),(6,.one (.d (.int .i64 n2945))),(35,.one (.d (.bool b2949)))] [((2,0),some (.row 38 2 (openRows cols_38 (List.map eTNode l2717)))),((213,0),some (.box 38 [.d (.int .i64 x2849.Start),.own (216,0) l2946.length])),((216,0),some (.row 43 4 (openRows cols_43 (List.map eTState l2946))))] ac wd) ?_ ?_
       ·
        rcases i2 hE2951 with ⟨hb2952,hE2951⟩ | ⟨hb2952,hE2951⟩
        ·
         refine qeg [] [none,none,none,none,none,none,none,none,none,some (some 32,true),some (some 32,true),none] [0,3,4,5,6,35] [(2,0),(213,0),(216,0)] h fun ac wd h => ?_
         injection hE2951 with hE2951; subst hE2951
         exact ⟨decide (n2945 < 10),rfl,h.z⟩
        ·
         refine qeg [] [none,none,none,none,none,none,none,none,none,some (some 32,true),some (some 32,true),none] [0,3,4,5,6,35] [(2,0),(213,0),(216,0)] h fun ac wd h => ?_
         injection hE2951 with hE2951; subst hE2951
         exact ⟨false,rfl,h.z⟩
       ·
        rintro ac wd ⟨b2949,rfl,h⟩
        (try dsimp only at hL2947)
        rcases i2b hL2947 with ⟨hb2954,hL2947⟩ | ⟨hb2954,hL2947⟩
        ·
         refine kT h ?_
         refine wp_skip ?_
         change Code.wp Try.prog _ _ _ _
         refine wp_seq ?_
         refine wp_block ?_
         obtain ⟨x2960,hx2961a,hx2961b,hx2961c,hx2961d,hL2947⟩ := aB hL2947
         obtain ⟨r2962,hc2963,hL2947⟩ := oB hL2947
         obtain ⟨ha2964,hL2947⟩ := iT hL2947
         have hc2963_298 := ((L_law04_cut_own hc2963).cls 298).z
         refine de [factO hc2963_298] [0,3,4,5,6] [(2,0),(213,0),(298,0),(298,1),(298,2),(300,0)] h fun ac wd h => ?_
         have h := h.fL (cols := (fun _ => .sc)) (300,0) (298,0) (openRows cols_43 (List.map eTState l2946)) [.d (.int .i64 r2962.Mode),.own (298,0) r2962.Waits.length,.own (298,1) r2962.Picks.length,.own (298,2) r2962.Takes.length] 1 (List.map eI r2962.Waits) (sc_3 _)
         have h := h.sm 303 [(0,.one (.d (.sl (List.map eTNode a0)))),(3,.one (.own (2,0) l2717.length)),(4,.one (.d (.int .i64 n2716))),(5,.one (.ptr (213,0) 0)),(6,.one (.d (.int .i64 n2945)))]
          [((2,0),some (.row 38 2 (openRows cols_38 (List.map eTNode l2717)))),((213,0),some (.box 38 [.d (.int .i64 x2849.Start),.own (300,0) (l2946.length + 1)])),((298,1),some (.row 46 2 (openRows cols_46 (List.map eTPick r2962.Picks)))),((298,2),some (.row 48 3 (dat (List.map eTTake r2962.Takes)))),((300,0),some (.row 43 4 ((openRows cols_43 (List.map eTState l2946) ++ [[.d (.int .i64 r2962.Mode),.tr (.sl 3 1 (fun _ => .sc)) (.sl (List.map eI r2962.Waits)),.own (298,1) r2962.Picks.length,.own (298,2) r2962.Takes.length]]))))]
         have h := h.fL (cols := cols_46) (300,0) (298,1) (openRows cols_43 (List.map eTState l2946)) [.d (.int .i64 r2962.Mode),.tr (.sl 3 1 (fun _ => .sc)) (.sl (List.map eI r2962.Waits)),.own (298,1) r2962.Picks.length,.own (298,2) r2962.Takes.length] 2 (List.map eTPick r2962.Picks) (sc_46 _)
         have h := h.sm 303 [(0,.one (.d (.sl (List.map eTNode a0)))),(3,.one (.own (2,0) l2717.length)),(4,.one (.d (.int .i64 n2716))),(5,.one (.ptr (213,0) 0)),(6,.one (.d (.int .i64 n2945)))]
          [((2,0),some (.row 38 2 (openRows cols_38 (List.map eTNode l2717)))),((213,0),some (.box 38 [.d (.int .i64 x2849.Start),.own (300,0) (l2946.length + 1)])),((298,2),some (.row 48 3 (dat (List.map eTTake r2962.Takes)))),((300,0),some (.row 43 4 ((openRows cols_43 (List.map eTState l2946) ++ [[.d (.int .i64 r2962.Mode),.tr (.sl 3 1 (fun _ => .sc)) (.sl (List.map eI r2962.Waits)),.tr (.sl 46 2 cols_46) (.sl (List.map eTPick r2962.Picks)),.own (298,2) r2962.Takes.length]]))))]
         have h := h.fL (cols := (fun _ => .sc)) (300,0) (298,2) (openRows cols_43 (List.map eTState l2946)) [.d (.int .i64 r2962.Mode),.tr (.sl 3 1 (fun _ => .sc)) (.sl (List.map eI r2962.Waits)),.tr (.sl 46 2 cols_46) (.sl (List.map eTPick r2962.Picks)),.own (298,2) r2962.Takes.length] 3 (List.map eTTake r2962.Takes) (sc_48 _)
         have h := h.sm 303 [(0,.one (.d (.sl (List.map eTNode a0)))),(3,.one (.own (2,0) l2717.length)),(4,.one (.d (.int .i64 n2716))),(5,.one (.ptr (213,0) 0)),(6,.one (.d (.int .i64 n2945)))]
          [((2,0),some (.row 38 2 (openRows cols_38 (List.map eTNode l2717)))),((213,0),some (.box 38 [.d (.int .i64 x2849.Start),.own (300,0) (l2946.length + 1)])),((300,0),some (.row 43 4 ((openRows cols_43 (List.map eTState l2946) ++ [[.d (.int .i64 r2962.Mode),.tr (.sl 3 1 (fun _ => .sc)) (.sl (List.map eI r2962.Waits)),.tr (.sl 46 2 cols_46) (.sl (List.map eTPick r2962.Picks)),.tr (.sl 48 3 (fun _ => .sc)) (.sl (List.map eTTake r2962.Takes))]]))))]
         change Code.wp Try.prog _ _ _ _
         refine qe [] [0,3,4,5,6] [(2,0),(213,0),(300,0)] h fun ac wd h => ?_
         have h := h.sw (216,0) (300,0) 306
         exact ⟨nf,Nat.lt_succ_self nf,(IntKind.wrap .i64 (n2945 + 1)),(l2946 ++ [r2962]),hL2947,h.z⟩
        ·
         refine kF h ?_
         refine wp_exit ?_
         injection hL2947 with hL2947; subst hL2947
         exact ⟨l2946,rfl,h.z⟩
     ·
      rintro ac wd ⟨l2906,rfl,h⟩
      (try dsimp only at hE2846)
      obtain ⟨ha2965,hE2846⟩ := iT hE2846
      refine qe [] [0,3,4] [(216,0),(291,0)] h fun ac wd h => ?_
      have h := h.fL (cols := cols_43) (291,0) (216,0) (openRows cols_38 (List.map eTNode l2717)) [.d (.int .i64 x2849.Start),.own (216,0) l2906.length] 1 (List.map eTState l2906) (sc_43 _)
      have h := h.sm 293 [(0,.one (.d (.sl (List.map eTNode a0)))),(3,.one (.own (291,0) (l2717.length + 1))),(4,.one (.d (.int .i64 n2716)))]
       [((291,0),some (.row 38 2 ((openRows cols_38 (List.map eTNode l2717) ++ [[.d (.int .i64 x2849.Start),.tr (.sl 43 4 cols_43) (.sl (List.map eTState l2906))]]))))]
      injection hE2846 with hE2846; subst hE2846
      exact ⟨(l2717 ++ [(TNode.mk x2849.Start l2906)]),rfl,h.z⟩
    ·
     rintro ac wd ⟨l2844,rfl,h⟩
     (try dsimp only at hL2718)
     refine qe [] [0,3,4] [(291,0)] h fun ac wd h => ?_
     have h := h.sw (2,0) (291,0) 296
     exact ⟨nf,Nat.lt_succ_self nf,(IntKind.wrap .i64 (n2716 + 1)),l2844,hL2718,h.z⟩
   ·
    refine kF h ?_
    refine wp_exit ?_
    change Code.wp Try.prog _ _ _ _
    refine qs 209 [] [2] [(2,0)] h fun ac wd h => ?_
    refine wp_ret ?_
    have h := h.sw (1,0) (2,0) 209
    injection hL2718 with hL2718
    subst hL2718
    exact rO h [.tmp 2] [(1,0)]
theorem L_law04_Cut_ok {a0 : (List TNode)} {r : (List TNode)} (hD : L_law04_Cut a0 = some r) :
  CallH Try.prog 12 [.one (.d (.sl (List.map eTNode a0)))] []
   (.one (.d (.sl (List.map eTNode r)))) [] :=
 (L_law04_Cut_own hD).fr

theorem L_law05_Cut_own {a0 : TApp} {r : TApp} (hD : L_law05_Cut a0 = some r) :
  CallH Try.prog 19 [.agg (cTApp a0)] []
   (.agg [.d (.int .i64 r.G.N),.d (.sl (List.map eA2I r.G.Links)),.own (1,0) r.T.length,.d (.bool r.Fifo)]) [((1,0),some (.row 38 2 (openRows cols_38 (List.map eTNode r.T))))] := by
 unfold L_law05_Cut at hD
 refine rc Try.func19 rfl Try.ntmps19 fun S Φ P0 wb ac h => ?_
 refine qs 3 [] [1,2] [(1,0),(2,0)] h fun ac wd h => ?_
 obtain ⟨r13,hc14,hD⟩ := oB hD
 obtain ⟨r15,hc16,hD⟩ := oB hD
 have hc14k := L_law03_Cut_ok hc14
 have hc16_8 := ((L_law04_Cut_own hc16).cls 8).z
 refine ds 13 [factE 5 hc14k,factO hc16_8] [2] [(2,0),(8,0)] h fun ac wd h => ?_
 refine wp_ret ?_
 have h := h.sw (1,0) (8,0) 13
 injection hD with hD
 subst hD
 exact rO h [.cell 2 53] [(1,0)]
theorem L_law05_Cut_ok {a0 : TApp} {r : TApp} (hD : L_law05_Cut a0 = some r) :
  CallH Try.prog 19 [.agg (cTApp a0)] []
   (.agg [.d (.int .i64 r.G.N),.d (.sl (List.map eA2I r.G.Links)),.d (.sl (List.map eTNode r.T)),.d (.bool r.Fifo)]) [] :=
 (L_law05_Cut_own hD).fr

theorem L_law03_Ref_ok {a0 : TGraph} {r : TGraph} (hD : L_law03_Ref a0 = some r) :
  CallH Try.prog 16 [.agg (cTGraph a0)] []
   (.agg [.d (.int .i64 r.N),.d (.sl (List.map eA2I r.Links))]) [] := by
 unfold L_law03_Ref at hD
 refine rc Try.func16 rfl Try.ntmps16 fun S Φ P0 wb ac h => ?_
 refine qs 3 [] [1,2] [(1,0),(2,0)] h fun ac wd h => ?_
 refine qs 9 [] [2] [(2,0)] h fun ac wd h => ?_
 refine wp_ret ?_
 injection hD with hD
 subst hD
 exact rE h [.cell 2 32]

theorem L_law04_state_own {a0 : TState} {r : TState} (hD : L_law04_state a0 = some r) :
  CallH Try.prog 54 [.agg (cTState a0)] []
   (.agg [.d (.int .i64 r.Mode),.d (.sl (List.map eI r.Waits)),.own (1,0) r.Picks.length,.own (1,1) r.Takes.length]) [((1,0),some (.row 189 2 (openRows cols_189 (List.map eTPick r.Picks)))),((1,1),some (.row 191 3 (dat (List.map eTTake r.Takes))))] := by
 unfold L_law04_state at hD
 refine rc Try.func54 rfl Try.ntmps54 fun S Φ P0 wb ac h => ?_
 refine qs 3 [] [1,2] [(1,0),(2,0)] h fun ac wd h => ?_
 refine qs 10 [] [1,2,3] [(1,0),(2,0),(8,0)] h fun ac wd h => ?_
 refine wp_seq ?_
 refine qs 11 [] [1,2,3,4] [(1,0),(2,0),(8,0)] h fun ac wd h => ?_
 obtain ⟨e1273,hE1274,hD⟩ := Option.bind_eq_some_iff.1 hD
 refine r_meet (fun ac wd => ∃ (l1272 : List TPick),l1272 = e1273 ∧ SL ⟨wb,S,Φ,P0⟩ 102 240 [(1,.one (.ptr (1,0) 0)),(2,.one (.ptr (2,0) 0)),(3,.one (.ptr (8,0) 0))] [((1,0),some (.box 43 (cTState a0))),((2,0),some (.box 90 [.d (.int .i64 0),.nil,.nil,.nil])),((8,0),some (.box 90 [.d (.int .i64 a0.Mode),.d (.sl (List.map eI a0.Waits)),.own (11,0) l1272.length,.nil])),((11,0),some (.row 189 2 (openRows cols_189 (List.map eTPick l1272))))] ac wd) ?_ ?_
 ·
  refine wp_block ?_
  have h := SL.bornB h (8,0) 2 189 2 (by simp only [EZ,simprocAttr, *] <;> rfl) (by simp only [EZ,simprocAttr, *] <;> rfl)
  refine r_while (fun nf ac wd => ∃ (n1543 : Int) (l1544 : List TPick),L_law04_state_l1 a0 nf n1543 l1544 = some e1273 ∧ SL ⟨wb,S,Φ,P0⟩ 102 235 [(1,.one (.ptr (1,0) 0)),(2,.one (.ptr (2,0) 0)),(3,.one (.ptr (8,0) 0)),(4,.one (.d (.int .i64 n1543)))] [((1,0),some (.box 43 (cTState a0))),((2,0),some (.box 90 [.d (.int .i64 0),.nil,.nil,.nil])),((8,0),some (.box 90 [.d (.int .i64 a0.Mode),.d (.sl (List.map eI a0.Waits)),.own (11,0) l1544.length,.nil])),((11,0),some (.row 189 2 (openRows cols_189 (List.map eTPick l1544))))] ac wd) (((a0.Picks.length : Int) - 0).toNat + 1) ⟨0,([] : List TPick),hE1274,h.z⟩ (fun nf ac wd hJ => ?_)
  obtain ⟨n1543,l1544,hL1545,h⟩ := hJ
  cases nf with
  | zero => rw [L_law04_state_l1] at hL1545; cases hL1545
  | succ nf =>
   rw [L_law04_state_l1] at hL1545
   refine wp_seq ?_
   refine qs 240 [] [1,2,3,4,17] [(1,0),(2,0),(8,0),(11,0)] h fun ac wd h => ?_
   rcases i2 hL1545 with ⟨hb1547,hL1545⟩ | ⟨hb1547,hL1545⟩
   ·
    refine kT h ?_
    refine wp_skip ?_
    change Code.wp Try.prog _ _ _ _
    obtain ⟨e1613,hE1614,hL1545⟩ := Option.bind_eq_some_iff.1 hL1545
    refine r_seqJ (fun ac wd => ∃ (l1612 : List TPick),l1612 = e1613 ∧ SL ⟨wb,S,Φ,P0⟩ 102 344 [(1,.one (.ptr (1,0) 0)),(2,.one (.ptr (2,0) 0)),(3,.one (.ptr (8,0) 0)),(4,.one (.d (.int .i64 n1543)))] [((1,0),some (.box 43 (cTState a0))),((2,0),some (.box 90 [.d (.int .i64 0),.nil,.nil,.nil])),((8,0),some (.box 90 [.d (.int .i64 a0.Mode),.d (.sl (List.map eI a0.Waits)),.own (341,0) l1612.length,.nil])),((341,0),some (.row 189 2 (openRows cols_189 (List.map eTPick l1612))))] ac wd) ?_ ?_
    ·
     refine wp_block ?_
     obtain ⟨x1617,hx1618a,hx1618b,hx1618c,hx1618d,hE1614⟩ := aB hE1614
     refine qs 249 [] [1,2,3,4,5] [(1,0),(2,0),(8,0),(11,0),(247,0)] h fun ac wd h => ?_
     refine wp_seq ?_
     refine qs 250 [] [1,2,3,4,5,6] [(1,0),(2,0),(8,0),(11,0),(247,0)] h fun ac wd h => ?_
     obtain ⟨e1648,hE1649,hE1614⟩ := Option.bind_eq_some_iff.1 hE1614
     refine r_meet (fun ac wd => ∃ (l1647 : List TSend),l1647 = e1648 ∧ SL ⟨wb,S,Φ,P0⟩ 102 337 [(1,.one (.ptr (1,0) 0)),(2,.one (.ptr (2,0) 0)),(3,.one (.ptr (8,0) 0)),(4,.one (.d (.int .i64 n1543))),(5,.one (.ptr (247,0) 0))] [((1,0),some (.box 43 (cTState a0))),((2,0),some (.box 90 [.d (.int .i64 0),.nil,.nil,.nil])),((8,0),some (.box 90 [.d (.int .i64 a0.Mode),.d (.sl (List.map eI a0.Waits)),.own (11,0) l1544.length,.nil])),((11,0),some (.row 189 2 (openRows cols_189 (List.map eTPick l1544)))),((247,0),some (.box 189 [.d (.int .i64 x1617.Next),.own (250,0) l1647.length])),((250,0),some (.row 190 2 (dat (List.map eTSend l1647))))] ac wd) ?_ ?_
     ·
      refine wp_block ?_
      have h := SL.bornB h (247,0) 1 190 2 (by simp only [EZ,simprocAttr, *] <;> rfl) (by simp only [EZ,simprocAttr, *] <;> rfl)
      refine r_while (fun nf ac wd => ∃ (n1668 : Int) (l1669 : List TSend),L_law04_state_l2 x1617 nf n1668 l1669 = some e1648 ∧ SL ⟨wb,S,Φ,P0⟩ 102 328 [(1,.one (.ptr (1,0) 0)),(2,.one (.ptr (2,0) 0)),(3,.one (.ptr (8,0) 0)),(4,.one (.d (.int .i64 n1543))),(5,.one (.ptr (247,0) 0)),(6,.one (.d (.int .i64 n1668)))] [((1,0),some (.box 43 (cTState a0))),((2,0),some (.box 90 [.d (.int .i64 0),.nil,.nil,.nil])),((8,0),some (.box 90 [.d (.int .i64 a0.Mode),.d (.sl (List.map eI a0.Waits)),.own (11,0) l1544.length,.nil])),((11,0),some (.row 189 2 (openRows cols_189 (List.map eTPick l1544)))),((247,0),some (.box 189 [.d (.int .i64 x1617.Next),.own (250,0) l1669.length])),((250,0),some (.row 190 2 (dat (List.map eTSend l1669))))] ac wd) (((x1617.Sends.length : Int) - 0).toNat + 1) ⟨0,([] : List TSend),hE1649,h.z⟩ (fun nf ac wd hJ => ?_)
      obtain ⟨n1668,l1669,hL1670,h⟩ := hJ
      cases nf with
      | zero => rw [L_law04_state_l2] at hL1670; cases hL1670
      | succ nf =>
       rw [L_law04_state_l2] at hL1670
       refine wp_seq ?_
       refine qs 337 [] [1,2,3,4,5,6,35] [(1,0),(2,0),(8,0),(11,0),(247,0),(250,0)] h fun ac wd h => ?_
       rcases i2 hL1670 with ⟨hb1672,hL1670⟩ | ⟨hb1672,hL1670⟩
       ·
        refine kT h ?_
        refine wp_skip ?_
        change Code.wp Try.prog _ _ _ _
        refine wp_seq ?_
        refine wp_block ?_
        obtain ⟨x1676,hx1677a,hx1677b,hx1677c,hx1677d,hL1670⟩ := aB hL1670
        obtain ⟨ha1678,hL1670⟩ := iT hL1670
        refine de [] [1,2,3,4,5,6] [(1,0),(2,0),(8,0),(11,0),(247,0),(361,0)] h fun ac wd h => ?_
        change Code.wp Try.prog _ _ _ _
        refine qe [] [1,2,3,4,5,6] [(1,0),(2,0),(8,0),(11,0),(247,0),(361,0)] h fun ac wd h => ?_
        have h := h.sw (250,0) (361,0) 367
        exact ⟨nf,Nat.lt_succ_self nf,(IntKind.wrap .i64 (n1668 + 1)),(l1669 ++ [x1676]),hL1670,h.z⟩
       ·
        refine kF h ?_
        refine wp_exit ?_
        injection hL1670 with hL1670; subst hL1670
        exact ⟨l1669,rfl,h.z⟩
     ·
      rintro ac wd ⟨l1647,rfl,h⟩
      (try dsimp only at hE1614)
      obtain ⟨ha1679,hE1614⟩ := iT hE1614
      refine qe [] [1,2,3,4] [(1,0),(2,0),(8,0),(250,0),(341,0)] h fun ac wd h => ?_
      have h := h.fL (cols := (fun _ => .sc)) (341,0) (250,0) (openRows cols_189 (List.map eTPick l1544)) [.d (.int .i64 x1617.Next),.own (250,0) l1647.length] 1 (List.map eTSend l1647) (sc_190 _)
      have h := h.sm 344 [(1,.one (.ptr (1,0) 0)),(2,.one (.ptr (2,0) 0)),(3,.one (.ptr (8,0) 0)),(4,.one (.d (.int .i64 n1543)))]
       [((1,0),some (.box 43 (cTState a0))),((2,0),some (.box 90 [.d (.int .i64 0),.nil,.nil,.nil])),((8,0),some (.box 90 [.d (.int .i64 a0.Mode),.d (.sl (List.map eI a0.Waits)),.own (341,0) (l1544.length + 1),.nil])),((341,0),some (.row 189 2 ((openRows cols_189 (List.map eTPick l1544) ++ [[.d (.int .i64 x1617.Next),.tr (.sl 190 2 (fun _ => .sc)) (.sl (List.map eTSend l1647))]]))))]
      injection hE1614 with hE1614; subst hE1614
      exact ⟨(l1544 ++ [(TPick.mk x1617.Next l1647)]),rfl,h.z⟩
    ·
     rintro ac wd ⟨l1612,rfl,h⟩
     (try dsimp only at hL1545)
     refine qe [] [1,2,3,4] [(1,0),(2,0),(8,0),(341,0)] h fun ac wd h => ?_
     have h := h.sw (11,0) (341,0) 347
     exact ⟨nf,Nat.lt_succ_self nf,(IntKind.wrap .i64 (n1543 + 1)),l1612,hL1545,h.z⟩
   ·
    refine kF h ?_
    refine wp_exit ?_
    injection hL1545 with hL1545; subst hL1545
    exact ⟨l1544,rfl,h.z⟩
 ·
  rintro ac wd ⟨l1272,rfl,h⟩
  (try dsimp only at hD)
  refine wp_seq ?_
  refine qs 241 [] [1,2,3,7] [(1,0),(2,0),(8,0),(11,0)] h fun ac wd h => ?_
  refine wp_block ?_
  have h := SL.bornB h (8,0) 3 191 3 (by simp only [EZ,simprocAttr, *] <;> rfl) (by simp only [EZ,simprocAttr, *] <;> rfl)
  refine r_while (fun nf ac wd => ∃ (n1726 : Int) (l1727 : List TTake),L_law04_state_l3 a0 l1272 nf n1726 l1727 = some r ∧ SL ⟨wb,S,Φ,P0⟩ 102 307 [(1,.one (.ptr (1,0) 0)),(2,.one (.ptr (2,0) 0)),(3,.one (.ptr (8,0) 0)),(7,.one (.d (.int .i64 n1726)))] [((1,0),some (.box 43 (cTState a0))),((2,0),some (.box 90 [.d (.int .i64 0),.nil,.nil,.nil])),((8,0),some (.box 90 [.d (.int .i64 a0.Mode),.d (.sl (List.map eI a0.Waits)),.own (11,0) l1272.length,.own (241,0) l1727.length])),((11,0),some (.row 189 2 (openRows cols_189 (List.map eTPick l1272)))),((241,0),some (.row 191 3 (dat (List.map eTTake l1727))))] ac wd) (((a0.Takes.length : Int) - 0).toNat + 1) ⟨0,([] : List TTake),hD,h.z⟩ (fun nf ac wd hJ => ?_)
  obtain ⟨n1726,l1727,hL1728,h⟩ := hJ
  cases nf with
  | zero => rw [L_law04_state_l3] at hL1728; cases hL1728
  | succ nf =>
   rw [L_law04_state_l3] at hL1728
   refine wp_seq ?_
   refine qs 312 [] [1,2,3,7,74] [(1,0),(2,0),(8,0),(11,0),(241,0)] h fun ac wd h => ?_
   rcases i2 hL1728 with ⟨hb1730,hL1728⟩ | ⟨hb1730,hL1728⟩
   ·
    refine kT h ?_
    refine wp_skip ?_
    change Code.wp Try.prog _ _ _ _
    refine wp_seq ?_
    refine wp_block ?_
    obtain ⟨x1734,hx1735a,hx1735b,hx1735c,hx1735d,hL1728⟩ := aB hL1728
    obtain ⟨ha1736,hL1728⟩ := iT hL1728
    refine de [] [1,2,3,7] [(1,0),(2,0),(8,0),(11,0),(334,0)] h fun ac wd h => ?_
    change Code.wp Try.prog _ _ _ _
    refine qe [] [1,2,3,7] [(1,0),(2,0),(8,0),(11,0),(334,0)] h fun ac wd h => ?_
    have h := h.sw (241,0) (334,0) 340
    exact ⟨nf,Nat.lt_succ_self nf,(IntKind.wrap .i64 (n1726 + 1)),(l1727 ++ [x1734]),hL1728,h.z⟩
   ·
    refine kF h ?_
    refine wp_exit ?_
    change Code.wp Try.prog _ _ _ _
    refine qs 314 [] [2] [(2,0),(11,0),(241,0)] h fun ac wd h => ?_
    refine wp_ret ?_
    have h := h.sw (1,0) (11,0) 314
    have h := h.sw (1,1) (241,0) 314
    injection hL1728 with hL1728
    subst hL1728
    exact rO h [.cell 2 90] [(1,0),(1,1)]
theorem L_law04_state_ok {a0 : TState} {r : TState} (hD : L_law04_state a0 = some r) :
  CallH Try.prog 54 [.agg (cTState a0)] []
   (.agg [.d (.int .i64 r.Mode),.d (.sl (List.map eI r.Waits)),.d (.sl (List.map eTPick r.Picks)),.d (.sl (List.map eTTake r.Takes))]) [] :=
 (L_law04_state_own hD).fr

theorem L_law04_Ref_own {a0 : (List TNode)} {r : (List TNode)} (hD : L_law04_Ref a0 = some r) :
  CallH Try.prog 15 [.one (.d (.sl (List.map eTNode a0)))] []
   (.one (.own (1,0) r.length)) [((1,0),some (.row 132 2 (dat (List.map eTNode r))))] := by
 unfold L_law04_Ref at hD
 refine rc Try.func15 rfl Try.ntmps15 fun S Φ P0 wb ac h => ?_
 refine qs 2 [] [0] [] h fun ac wd h => ?_
 refine qs 4 [] [0,3] [(2,0)] h fun ac wd h => ?_
 refine wp_seq ?_
 refine qs 5 [] [0,3,4] [(2,0)] h fun ac wd h => ?_
 refine wp_block ?_
 refine r_while (fun nf ac wd => ∃ (n2001 : Int) (l2002 : List TNode),L_law04_Ref_l1 a0 nf n2001 l2002 = some r ∧ SL ⟨wb,S,Φ,P0⟩ 49 167 [(0,.one (.d (.sl (List.map eTNode a0)))),(3,.one (.own (2,0) l2002.length)),(4,.one (.d (.int .i64 n2001)))] [((2,0),some (.row 132 2 (dat (List.map eTNode l2002))))] ac wd) (((a0.length : Int) - 0).toNat + 1) ⟨0,([] : List TNode),hD,h.z⟩ (fun nf ac wd hJ => ?_)
 obtain ⟨n2001,l2002,hL2003,h⟩ := hJ
 cases nf with
 | zero => rw [L_law04_Ref_l1] at hL2003; cases hL2003
 | succ nf =>
  rw [L_law04_Ref_l1] at hL2003
  refine wp_seq ?_
  refine qs 171 [] [0,3,4,11] [(2,0)] h fun ac wd h => ?_
  rcases i2 hL2003 with ⟨hb2005,hL2003⟩ | ⟨hb2005,hL2003⟩
  ·
   refine kT h ?_
   refine wp_skip ?_
   change Code.wp Try.prog _ _ _ _
   obtain ⟨e2095,hE2096,hL2003⟩ := Option.bind_eq_some_iff.1 hL2003
   refine r_seqJ (fun ac wd => ∃ (l2094 : List TNode),l2094 = e2095 ∧ SL ⟨wb,S,Φ,P0⟩ 49 245 [(0,.one (.d (.sl (List.map eTNode a0)))),(3,.one (.own (243,0) l2094.length)),(4,.one (.d (.int .i64 n2001)))] [((243,0),some (.row 132 2 (dat (List.map eTNode l2094))))] ac wd) ?_ ?_
   ·
    refine wp_block ?_
    obtain ⟨x2099,hx2100a,hx2100b,hx2100c,hx2100d,hE2096⟩ := aB hE2096
    refine qs 179 [] [0,3,4,5] [(2,0),(177,0)] h fun ac wd h => ?_
    refine wp_seq ?_
    refine qs 180 [] [0,3,4,5,6] [(2,0),(177,0)] h fun ac wd h => ?_
    obtain ⟨e2142,hE2143,hE2096⟩ := Option.bind_eq_some_iff.1 hE2096
    refine r_meet (fun ac wd => ∃ (l2141 : List TState),l2141 = e2142 ∧ SL ⟨wb,S,Φ,P0⟩ 49 240 [(0,.one (.d (.sl (List.map eTNode a0)))),(3,.one (.own (2,0) l2002.length)),(4,.one (.d (.int .i64 n2001))),(5,.one (.ptr (177,0) 0))] [((2,0),some (.row 132 2 (dat (List.map eTNode l2002)))),((177,0),some (.box 132 [.d (.int .i64 x2099.Start),.own (180,0) l2141.length])),((180,0),some (.row 90 4 (dat (List.map eTState l2141))))] ac wd) ?_ ?_
    ·
     refine wp_block ?_
     have h := SL.bornB h (177,0) 1 90 4 (by simp only [EZ,simprocAttr, *] <;> rfl) (by simp only [EZ,simprocAttr, *] <;> rfl)
     refine r_while (fun nf ac wd => ∃ (n2170 : Int) (l2171 : List TState),L_law04_Ref_l2 x2099 nf n2170 l2171 = some e2142 ∧ SL ⟨wb,S,Φ,P0⟩ 49 232 [(0,.one (.d (.sl (List.map eTNode a0)))),(3,.one (.own (2,0) l2002.length)),(4,.one (.d (.int .i64 n2001))),(5,.one (.ptr (177,0) 0)),(6,.one (.d (.int .i64 n2170)))] [((2,0),some (.row 132 2 (dat (List.map eTNode l2002)))),((177,0),some (.box 132 [.d (.int .i64 x2099.Start),.own (180,0) l2171.length])),((180,0),some (.row 90 4 (dat (List.map eTState l2171))))] ac wd) (((x2099.States.length : Int) - 0).toNat + 1) ⟨0,([] : List TState),hE2143,h.z⟩ (fun nf ac wd hJ => ?_)
     obtain ⟨n2170,l2171,hL2172,h⟩ := hJ
     cases nf with
     | zero => rw [L_law04_Ref_l2] at hL2172; cases hL2172
     | succ nf =>
      rw [L_law04_Ref_l2] at hL2172
      refine wp_seq ?_
      refine qs 240 [] [0,3,4,5,6,27] [(2,0),(177,0),(180,0)] h fun ac wd h => ?_
      rcases i2 hL2172 with ⟨hb2174,hL2172⟩ | ⟨hb2174,hL2172⟩
      ·
       refine kT h ?_
       refine wp_skip ?_
       change Code.wp Try.prog _ _ _ _
       refine wp_seq ?_
       refine wp_block ?_
       obtain ⟨x2180,hx2181a,hx2181b,hx2181c,hx2181d,hL2172⟩ := aB hL2172
       obtain ⟨r2182,hc2183,hL2172⟩ := oB hL2172
       obtain ⟨ha2184,hL2172⟩ := iT hL2172
       have hc2183k := L_law04_state_ok hc2183
       refine de [factE 250 hc2183k] [0,3,4,5,6] [(2,0),(177,0),(252,0)] h fun ac wd h => ?_
       change Code.wp Try.prog _ _ _ _
       refine qe [] [0,3,4,5,6] [(2,0),(177,0),(252,0)] h fun ac wd h => ?_
       have h := h.sw (180,0) (252,0) 258
       exact ⟨nf,Nat.lt_succ_self nf,(IntKind.wrap .i64 (n2170 + 1)),(l2171 ++ [r2182]),hL2172,h.z⟩
      ·
       refine kF h ?_
       refine wp_exit ?_
       injection hL2172 with hL2172; subst hL2172
       exact ⟨l2171,rfl,h.z⟩
    ·
     rintro ac wd ⟨l2141,rfl,h⟩
     (try dsimp only at hE2096)
     obtain ⟨ha2185,hE2096⟩ := iT hE2096
     have h := h.fz [(180,0)]
     refine qe [] [0,3,4] [(243,0)] h fun ac wd h => ?_
     injection hE2096 with hE2096; subst hE2096
     exact ⟨(l2002 ++ [(TNode.mk x2099.Start l2141)]),rfl,h.z⟩
   ·
    rintro ac wd ⟨l2094,rfl,h⟩
    (try dsimp only at hL2003)
    refine qe [] [0,3,4] [(243,0)] h fun ac wd h => ?_
    have h := h.sw (2,0) (243,0) 248
    exact ⟨nf,Nat.lt_succ_self nf,(IntKind.wrap .i64 (n2001 + 1)),l2094,hL2003,h.z⟩
  ·
   refine kF h ?_
   refine wp_exit ?_
   change Code.wp Try.prog _ _ _ _
   refine qs 173 [] [2] [(2,0)] h fun ac wd h => ?_
   refine wp_ret ?_
   have h := h.sw (1,0) (2,0) 173
   injection hL2003 with hL2003
   subst hL2003
   exact rO h [.tmp 2] [(1,0)]
theorem L_law04_Ref_ok {a0 : (List TNode)} {r : (List TNode)} (hD : L_law04_Ref a0 = some r) :
  CallH Try.prog 15 [.one (.d (.sl (List.map eTNode a0)))] []
   (.one (.d (.sl (List.map eTNode r)))) [] :=
 (L_law04_Ref_own hD).fr

theorem L_law05_App_own {a0 : TApp} {r : TApp} (hD : L_law05_App a0 = some r) :
  CallH Try.prog 22 [.agg (cTApp a0)] []
   (.agg [.d (.int .i64 r.G.N),.d (.sl (List.map eA2I r.G.Links)),.own (1,0) r.T.length,.d (.bool r.Fifo)]) [((1,0),some (.row 132 2 (dat (List.map eTNode r.T))))] := by
 unfold L_law05_App at hD
 refine rc Try.func22 rfl Try.ntmps22 fun S Φ P0 wb ac h => ?_
 refine qs 3 [] [1,2] [(1,0),(2,0)] h fun ac wd h => ?_
 obtain ⟨r13,hc14,hD⟩ := oB hD
 obtain ⟨r15,hc16,hD⟩ := oB hD
 have hc14k := L_law03_Ref_ok hc14
 have hc16_8 := ((L_law04_Ref_own hc16).cls 8).z
 refine ds 13 [factE 5 hc14k,factO hc16_8] [2] [(2,0),(8,0)] h fun ac wd h => ?_
 refine wp_ret ?_
 have h := h.sw (1,0) (8,0) 13
 injection hD with hD
 subst hD
 exact rO h [.cell 2 69] [(1,0)]
theorem L_law05_App_ok {a0 : TApp} {r : TApp} (hD : L_law05_App a0 = some r) :
  CallH Try.prog 22 [.agg (cTApp a0)] []
   (.agg [.d (.int .i64 r.G.N),.d (.sl (List.map eA2I r.G.Links)),.d (.sl (List.map eTNode r.T)),.d (.bool r.Fifo)]) [] :=
 (L_law05_App_own hD).fr

theorem L_ref05_Start_own {a0 : TApp} {r : TConf} (hD : L_ref05_Start a0 = some r) :
  CallH Try.prog 34 [.agg (cTApp a0)] []
   (.agg [.own (1,0) r.States.length,.own (1,1) r.Links.length,.own (1,2) r.Sent.length]) [((1,0),some (.row 3 1 (dat (List.map eI r.States)))),((1,1),some (.row 170 1 (openRows cols_170 (List.map (eL eTMsg) r.Links)))),((1,2),some (.row 3 1 (dat (List.map eI r.Sent))))] := by
 unfold L_ref05_Start at hD
 refine rc Try.func34 rfl Try.ntmps34 fun S Φ P0 wb ac h => ?_
 refine qs 3 [] [1,2] [(1,0),(2,0)] h fun ac wd h => ?_
 refine qs 6 [] [1,2,3] [(1,0),(2,0),(4,0)] h fun ac wd h => ?_
 refine wp_seq ?_
 refine qs 7 [] [1,2,3,4] [(1,0),(2,0),(4,0)] h fun ac wd h => ?_
 obtain ⟨e149,hE150,hD⟩ := Option.bind_eq_some_iff.1 hD
 refine r_meet (fun ac wd => ∃ (l148 : List Int),l148 = e149 ∧ SL ⟨wb,S,Φ,P0⟩ 44 52 [(1,.one (.ptr (1,0) 0)),(2,.one (.ptr (2,0) 0)),(3,.one (.ptr (4,0) 0))] [((1,0),some (.box 69 (cTApp a0))),((2,0),some (.box 101 [.nil,.nil,.nil])),((4,0),some (.box 101 [.own (7,0) l148.length,.nil,.nil])),((7,0),some (.row 3 1 (dat (List.map eI l148))))] ac wd) ?_ ?_
 ·
  refine wp_block ?_
  have h := SL.bornB h (4,0) 0 3 1 (by simp only [EZ,simprocAttr, *] <;> rfl) (by simp only [EZ,simprocAttr, *] <;> rfl)
  refine r_while (fun nf ac wd => ∃ (n169 : Int) (l170 : List Int),L_ref05_Start_l1 a0 nf n169 l170 = some e149 ∧ SL ⟨wb,S,Φ,P0⟩ 44 47 [(1,.one (.ptr (1,0) 0)),(2,.one (.ptr (2,0) 0)),(3,.one (.ptr (4,0) 0)),(4,.one (.d (.int .i64 n169)))] [((1,0),some (.box 69 (cTApp a0))),((2,0),some (.box 101 [.nil,.nil,.nil])),((4,0),some (.box 101 [.own (7,0) l170.length,.nil,.nil])),((7,0),some (.row 3 1 (dat (List.map eI l170))))] ac wd) (((a0.T.length : Int) - 0).toNat + 1) ⟨0,([] : List Int),hE150,h.z⟩ (fun nf ac wd hJ => ?_)
  obtain ⟨n169,l170,hL171,h⟩ := hJ
  cases nf with
  | zero => rw [L_ref05_Start_l1] at hL171; cases hL171
  | succ nf =>
   rw [L_ref05_Start_l1] at hL171
   refine wp_seq ?_
   refine qs 52 [] [1,2,3,4,11] [(1,0),(2,0),(4,0),(7,0)] h fun ac wd h => ?_
   rcases i2 hL171 with ⟨hb173,hL171⟩ | ⟨hb173,hL171⟩
   ·
    refine kT h ?_
    refine wp_skip ?_
    change Code.wp Try.prog _ _ _ _
    refine wp_seq ?_
    refine wp_block ?_
    obtain ⟨x177,hx178a,hx178b,hx178c,hx178d,hL171⟩ := aB hL171
    obtain ⟨ha179,hL171⟩ := iT hL171
    refine de [] [1,2,3,4] [(1,0),(2,0),(4,0),(61,0)] h fun ac wd h => ?_
    change Code.wp Try.prog _ _ _ _
    refine qe [] [1,2,3,4] [(1,0),(2,0),(4,0),(61,0)] h fun ac wd h => ?_
    have h := h.sw (7,0) (61,0) 67
    exact ⟨nf,Nat.lt_succ_self nf,(IntKind.wrap .i64 (n169 + 1)),(l170 ++ [x177.Start]),hL171,h.z⟩
   ·
    refine kF h ?_
    refine wp_exit ?_
    injection hL171 with hL171; subst hL171
    exact ⟨l170,rfl,h.z⟩
 ·
  rintro ac wd ⟨l148,rfl,h⟩
  (try dsimp only at hD)
  refine wp_seq ?_
  refine qs 53 [] [1,2,3,5] [(1,0),(2,0),(4,0),(7,0)] h fun ac wd h => ?_
  refine wp_block ?_
  have h := SL.bornB h (4,0) 1 170 1 (by simp only [EZ,simprocAttr, *] <;> rfl) (by simp only [EZ,simprocAttr, *] <;> rfl)
  have h := SL.bornB h (4,0) 2 3 1 (by simp only [EZ,simprocAttr, *] <;> rfl) (by simp only [EZ,simprocAttr, *] <;> rfl)
  refine r_while (fun nf ac wd => ∃ (n225 : Int) (l226 : List (List TMsg)) (l227 : List Int),L_ref05_Start_l2 a0 l148 nf n225 l226 l227 = some r ∧ SL ⟨wb,S,Φ,P0⟩ 44 95 [(1,.one (.ptr (1,0) 0)),(2,.one (.ptr (2,0) 0)),(3,.one (.ptr (4,0) 0)),(5,.one (.d (.int .i64 n225)))] [((1,0),some (.box 69 (cTApp a0))),((2,0),some (.box 101 [.nil,.nil,.nil])),((4,0),some (.box 101 [.own (7,0) l148.length,.own (53,0) l226.length,.own (54,0) l227.length])),((7,0),some (.row 3 1 (dat (List.map eI l148)))),((53,0),some (.row 170 1 (openRows cols_170 (List.map (eL eTMsg) l226)))),((54,0),some (.row 3 1 (dat (List.map eI l227))))] ac wd) (((a0.G.Links.length : Int) - 0).toNat + 1) ⟨0,([] : List (List TMsg)),([] : List Int),hD,h.z⟩ (fun nf ac wd hJ => ?_)
  obtain ⟨n225,l226,l227,hL228,h⟩ := hJ
  cases nf with
  | zero => rw [L_ref05_Start_l2] at hL228; cases hL228
  | succ nf =>
   rw [L_ref05_Start_l2] at hL228
   refine wp_seq ?_
   refine qs 101 [] [1,2,3,5,30] [(1,0),(2,0),(4,0),(7,0),(53,0),(54,0)] h fun ac wd h => ?_
   rcases i2 hL228 with ⟨hb230,hL228⟩ | ⟨hb230,hL228⟩
   ·
    refine kT h ?_
    refine wp_skip ?_
    change Code.wp Try.prog _ _ _ _
    refine wp_seq ?_
    refine wp_block ?_
    obtain ⟨ha235,hL228⟩ := iT hL228
    refine qs 107 [] [1,2,3,5] [(1,0),(2,0),(4,0),(7,0),(54,0),(104,0)] h fun ac wd h => ?_
    have h := h.nilTr (104,0) (l := (openRows cols_170 (List.map (eL eTMsg) l226) ++ [[.nil]])) (l' := (openRows cols_170 (List.map (eL eTMsg) l226) ++ [[.tr (.sl 59 2 (fun _ => .sc)) (.sl (List.map eTMsg []))]])) (by simp only [EZ,simprocAttr, *] <;> rfl) (RowsTo.append (RowsTo.refl _) (RowsTo.cons (RowTo.cons (.inr (.inr ⟨rfl,_,_,_,rfl⟩)) RowTo.nil) (RowsTo.refl [])))
    have h := h.sm 107 [(1,.one (.ptr (1,0) 0)),(2,.one (.ptr (2,0) 0)),(3,.one (.ptr (4,0) 0)),(5,.one (.d (.int .i64 n225)))]
     [((1,0),some (.box 69 (cTApp a0))),((2,0),some (.box 101 [.nil,.nil,.nil])),((4,0),some (.box 101 [.own (7,0) l148.length,.own (104,0) (l226.length + 1),.own (54,0) l227.length])),((7,0),some (.row 3 1 (dat (List.map eI l148)))),((54,0),some (.row 3 1 (dat (List.map eI l227)))),((104,0),some (.row 170 1 ((openRows cols_170 (List.map (eL eTMsg) l226) ++ [[.tr (.sl 59 2 (fun _ => .sc)) (.sl (List.map eTMsg []))]]))))]
    obtain ⟨ha236,hL228⟩ := iT hL228
    refine qe [] [1,2,3,5] [(1,0),(2,0),(4,0),(7,0),(104,0),(110,0)] h fun ac wd h => ?_
    change Code.wp Try.prog _ _ _ _
    refine qe [] [1,2,3,5] [(1,0),(2,0),(4,0),(7,0),(104,0),(110,0)] h fun ac wd h => ?_
    have h := h.sw (53,0) (104,0) 116
    have h := h.sw (54,0) (110,0) 116
    exact ⟨nf,Nat.lt_succ_self nf,(IntKind.wrap .i64 (n225 + 1)),((l226 ++ [[]]) : List (List TMsg)),(l227 ++ [0]),hL228,h.z⟩
   ·
    refine kF h ?_
    refine wp_exit ?_
    change Code.wp Try.prog _ _ _ _
    refine qs 103 [] [2] [(2,0),(7,0),(53,0),(54,0)] h fun ac wd h => ?_
    refine wp_ret ?_
    have h := h.sw (1,0) (7,0) 103
    have h := h.sw (1,1) (53,0) 103
    have h := h.sw (1,2) (54,0) 103
    injection hL228 with hL228
    subst hL228
    exact rO h [.cell 2 101] [(1,0),(1,1),(1,2)]
theorem L_ref05_Start_ok {a0 : TApp} {r : TConf} (hD : L_ref05_Start a0 = some r) :
  CallH Try.prog 34 [.agg (cTApp a0)] []
   (.agg [.d (.sl (List.map eI r.States)),.d (.sl (List.map (eL eTMsg) r.Links)),.d (.sl (List.map eI r.Sent))]) [] :=
 (L_ref05_Start_own hD).fr

theorem L_ref03_Find_ok {a0 : TGraph} {a1 : Int} {a2 : Int} {r : Int} (hD : L_ref03_Find a0 a1 a2 = some r) :
  CallH Try.prog 32 [.agg (cTGraph a0),.one (.d (.int .i64 a1)),.one (.d (.int .i64 a2))] []
   (.one (.d (.int .i64 r))) [] := by
 unfold L_ref03_Find at hD
 refine rc Try.func32 rfl Try.ntmps32 fun S Φ P0 wb ac h => ?_
 refine qs 3 [] [1,2,3] [(1,0)] h fun ac wd h => ?_
 refine wp_seq ?_
 refine qs 4 [] [1,2,3,7] [(1,0)] h fun ac wd h => ?_
 refine wp_block ?_
 refine r_while (fun nf ac wd => ∃ (n253 : Int),L_ref03_Find_l1 a0 a1 a2 nf n253 = some r ∧ SL ⟨wb,S,Φ,P0⟩ 34 56 [(1,.one (.d (.int .i64 a1))),(2,.one (.d (.int .i64 a2))),(3,.one (.ptr (1,0) 0)),(7,.one (.d (.int .i64 n253)))] [((1,0),some (.box 32 (cTGraph a0)))] ac wd) (((a0.Links.length : Int) - 0).toNat + 1) ⟨0,hD,h.z⟩ (fun nf ac wd hJ => ?_)
 obtain ⟨n253,hL254,h⟩ := hJ
 cases nf with
 | zero => rw [L_ref03_Find_l1] at hL254; cases hL254
 | succ nf =>
  rw [L_ref03_Find_l1] at hL254
  refine wp_seq ?_
  refine qs 61 [] [1,2,3,7,12] [(1,0)] h fun ac wd h => ?_
  rcases i2 hL254 with ⟨hb256,hL254⟩ | ⟨hb256,hL254⟩
  ·
   refine kT h ?_
   refine wp_skip ?_
   change Code.wp Try.prog _ _ _ _
   refine wp_seq ?_
   refine wp_block ?_
   obtain ⟨e271,hE272,hL254⟩ := Option.bind_eq_some_iff.1 hL254
   refine r_seqJ (fun ac wd => ∃ (b270 : Bool),b270 = e271 ∧ SL ⟨wb,S,Φ,P0⟩ 34 79 [(1,.one (.d (.int .i64 a1))),(2,.one (.d (.int .i64 a2))),(3,.one (.ptr (1,0) 0)),(7,.one (.d (.int .i64 n253))),(32,.one (.d (.bool b270)))] [((1,0),some (.box 32 (cTGraph a0)))] ac wd) ?_ ?_
   ·
    obtain ⟨x273,hx274a,hx274b,hx274c,hx274d,hE272⟩ := aB hE272
    rcases i2e hE272 with ⟨hb275,hE272⟩ | ⟨hb275,hE272⟩
    ·
     refine qeg [] [none,none,none,none,none,none,none,none,none,some (some 23,true),some (some 23,true),some (some 23,true),some (some 23,true),some (some 23,true),some (some 23,true),some (some 23,true),some (some 23,true),none] [1,2,3,7,32] [(1,0)] h fun ac wd h => ?_
     injection hE272 with hE272; subst hE272
     exact ⟨decide (x273.a1 = a2),rfl,h.z⟩
    ·
     refine qeg [] [none,none,none,none,none,none,none,none,none,some (some 23,true),some (some 23,true),some (some 23,true),some (some 23,true),some (some 23,true),some (some 23,true),some (some 23,true),some (some 23,true),none] [1,2,3,7,32] [(1,0)] h fun ac wd h => ?_
     injection hE272 with hE272; subst hE272
     exact ⟨false,rfl,h.z⟩
   ·
    rintro ac wd ⟨b270,rfl,h⟩
    (try dsimp only at hL254)
    rcases i2b hL254 with ⟨hb276,hL254⟩ | ⟨hb276,hL254⟩
    ·
     refine kT h ?_
     refine qs 81 [] [6] [] h fun ac wd h => ?_
     refine wp_ret ?_
     injection hL254 with hL254
     subst hL254
     exact rE h [.tmp 6]
    ·
     refine kF h ?_
     refine wp_skip ?_
     change Code.wp Try.prog _ _ _ _
     refine qe [] [1,2,3,7] [(1,0)] h fun ac wd h => ?_
     exact ⟨nf,Nat.lt_succ_self nf,(IntKind.wrap .i64 (n253 + 1)),hL254,h.z⟩
  ·
   refine kF h ?_
   refine wp_exit ?_
   change Code.wp Try.prog _ _ _ _
   refine qs 62 [] [6] [] h fun ac wd h => ?_
   refine wp_ret ?_
   injection hL254 with hL254
   subst hL254
   exact rE h [.tmp 6]

end Go.Proofs.Ytabbejabdkkaiaa
