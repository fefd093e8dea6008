/- Functions as typed ones,and that the program's functions answer as these do. No condition. -/
import Derived.Test.YtifcbecpemaieaaGb5
import Derived.Test.YtifcbecpemaieaaGd
set_option linter.unusedSimpArgs false
set_option linter.unusedVariables false
set_option maxRecDepth 20000
set_option maxHeartbeats 4000000
namespace Go.Proofs.Ytifcbecpemaieaa
open Go.RowKit

theorem L_table_place_may_ok {a0 : TPlace} {r : Bool} (hD : L_table_place_may a0 = some r) :
  CallH Try.prog 101 [.agg (cTPlace a0)] []
   (.one (.d (.bool r))) [] := by
 unfold L_table_place_may at hD
 refine rc Try.func101 rfl Try.ntmps101 fun S Φ P0 wb ac h => ?_
 refine qs 3 [] [1] [(1,0)] h fun ac wd h => ?_
 refine qs 5 [] [1,3] [(1,0)] h fun ac wd h => ?_
 refine wp_seq ?_
 refine qs 22 [] [21,22,23] [(1,0),(19,0)] h fun ac wd h => ?_
 refine wp_block ?_
 refine wp_loop_rounds 24 ?_
 refine rounds_succ.mpr ?_
 refine qs 23 [] [21,22,23,24] [(1,0),(19,0)] h fun ac wd h => ?_
 refine wp_seq ?_
 refine kT h ?_
 refine wp_skip ?_
 change Code.wp Try.prog _ _ _ _
 refine wp_seq ?_
 refine wp_block ?_
 refine qs 27 [] [5,21,22,23] [(1,0),(19,0),(25,0)] h fun ac wd h => ?_
 obtain ⟨r161,hc162,hD⟩ := oB hD
 have hc162_29 := (((L_table_place_may_1_own hc162).cls 29).nm (0,0) (1,0)).z
 refine qs 31 [factR hc162_29] [21,22,23,30] [(1,0),(19,0)] h fun ac wd h => ?_
 rcases i2b hD with ⟨hb163,hD⟩ | ⟨hb163,hD⟩
 ·
  refine kF h ?_
  refine wp_skip ?_
  change Code.wp Try.prog _ _ _ _
  refine qe [] [21,22,23] [(1,0),(19,0)] h fun ac wd h => ?_
  change Code.rounds Try.prog _ _ _ _ _
  have h := h.sm 33 [(21,.one (.own (19,0) 5)),(22,.one (.d (.int .i64 5))),(23,.one (.d (.int .i64 1)))]
   [((1,0),some (.box 170 (cTPlace r161.2))),((19,0),some (.row 189 1 ([[.fnp 117 [((1,0),0)]],[.d (.fn 118 [.inl [(.int .i64 a0.State.Mode),(.sl (List.map eI a0.State.Waits)),(.sl (List.map eTPick a0.State.Picks)),(.sl (List.map eTTake a0.State.Takes)),(.int .i64 a0.n),(.int .i64 a0.node.Start),(.sl (List.map eTState a0.node.States)),(.int .i64 a0.g.N),(.sl (List.map eA2I a0.g.Links))]] [])],[.d (.fn 119 [.inl [(.int .i64 a0.State.Mode),(.sl (List.map eI a0.State.Waits)),(.sl (List.map eTPick a0.State.Picks)),(.sl (List.map eTTake a0.State.Takes)),(.int .i64 a0.n),(.int .i64 a0.node.Start),(.sl (List.map eTState a0.node.States)),(.int .i64 a0.g.N),(.sl (List.map eA2I a0.g.Links))]] [])],[.d (.fn 120 [.inl [(.int .i64 a0.State.Mode),(.sl (List.map eI a0.State.Waits)),(.sl (List.map eTPick a0.State.Picks)),(.sl (List.map eTTake a0.State.Takes)),(.int .i64 a0.n),(.int .i64 a0.node.Start),(.sl (List.map eTState a0.node.States)),(.int .i64 a0.g.N),(.sl (List.map eA2I a0.g.Links))]] [])],[.d (.fn 121 [.inl [(.int .i64 a0.State.Mode),(.sl (List.map eI a0.State.Waits)),(.sl (List.map eTPick a0.State.Picks)),(.sl (List.map eTTake a0.State.Takes)),(.int .i64 a0.n),(.int .i64 a0.node.Start),(.sl (List.map eTState a0.node.States)),(.int .i64 a0.g.N),(.sl (List.map eA2I a0.g.Links))]] [])]])))]
  refine rounds_succ.mpr ?_
  refine qs 34 [] [21,22,23,24] [(1,0),(19,0)] h fun ac wd h => ?_
  refine wp_seq ?_
  refine kT h ?_
  refine wp_skip ?_
  change Code.wp Try.prog _ _ _ _
  refine wp_seq ?_
  refine wp_block ?_
  refine qs 38 [] [5,21,22,23] [(1,0),(19,0),(36,0)] h fun ac wd h => ?_
  obtain ⟨r171,hc172,hD⟩ := oB hD
  have hc172k := L_table_place_waits_ok hc172
  refine qs 42 [factE 40 hc172k] [21,22,23,30] [(1,0),(19,0)] h fun ac wd h => ?_
  rcases i2b hD with ⟨hb173,hD⟩ | ⟨hb173,hD⟩
  ·
   refine kF h ?_
   refine wp_skip ?_
   change Code.wp Try.prog _ _ _ _
   refine qe [] [21,22,23] [(1,0),(19,0)] h fun ac wd h => ?_
   change Code.rounds Try.prog _ _ _ _ _
   have h := h.sm 44 [(21,.one (.own (19,0) 5)),(22,.one (.d (.int .i64 5))),(23,.one (.d (.int .i64 2)))]
    [((1,0),some (.box 170 (cTPlace r161.2))),((19,0),some (.row 189 1 ([[.fnp 117 [((1,0),0)]],[.d (.fn 118 [.inl [(.int .i64 a0.State.Mode),(.sl (List.map eI a0.State.Waits)),(.sl (List.map eTPick a0.State.Picks)),(.sl (List.map eTTake a0.State.Takes)),(.int .i64 a0.n),(.int .i64 a0.node.Start),(.sl (List.map eTState a0.node.States)),(.int .i64 a0.g.N),(.sl (List.map eA2I a0.g.Links))]] [])],[.d (.fn 119 [.inl [(.int .i64 a0.State.Mode),(.sl (List.map eI a0.State.Waits)),(.sl (List.map eTPick a0.State.Picks)),(.sl (List.map eTTake a0.State.Takes)),(.int .i64 a0.n),(.int .i64 a0.node.Start),(.sl (List.map eTState a0.node.States)),(.int .i64 a0.g.N),(.sl (List.map eA2I a0.g.Links))]] [])],[.d (.fn 120 [.inl [(.int .i64 a0.State.Mode),(.sl (List.map eI a0.State.Waits)),(.sl (List.map eTPick a0.State.Picks)),(.sl (List.map eTTake a0.State.Takes)),(.int .i64 a0.n),(.int .i64 a0.node.Start),(.sl (List.map eTState a0.node.States)),(.int .i64 a0.g.N),(.sl (List.map eA2I a0.g.Links))]] [])],[.d (.fn 121 [.inl [(.int .i64 a0.State.Mode),(.sl (List.map eI a0.State.Waits)),(.sl (List.map eTPick a0.State.Picks)),(.sl (List.map eTTake a0.State.Takes)),(.int .i64 a0.n),(.int .i64 a0.node.Start),(.sl (List.map eTState a0.node.States)),(.int .i64 a0.g.N),(.sl (List.map eA2I a0.g.Links))]] [])]])))]
   refine rounds_succ.mpr ?_
   refine qs 45 [] [21,22,23,24] [(1,0),(19,0)] h fun ac wd h => ?_
   refine wp_seq ?_
   refine kT h ?_
   refine wp_skip ?_
   change Code.wp Try.prog _ _ _ _
   refine wp_seq ?_
   refine wp_block ?_
   refine qs 49 [] [5,21,22,23] [(1,0),(19,0),(47,0)] h fun ac wd h => ?_
   obtain ⟨r181,hc182,hD⟩ := oB hD
   have hc182k := L_table_place_picks_ok hc182
   refine qs 53 [factE 51 hc182k] [21,22,23,30] [(1,0),(19,0)] h fun ac wd h => ?_
   rcases i2b hD with ⟨hb183,hD⟩ | ⟨hb183,hD⟩
   ·
    refine kF h ?_
    refine wp_skip ?_
    change Code.wp Try.prog _ _ _ _
    refine qe [] [21,22,23] [(1,0),(19,0)] h fun ac wd h => ?_
    change Code.rounds Try.prog _ _ _ _ _
    have h := h.sm 55 [(21,.one (.own (19,0) 5)),(22,.one (.d (.int .i64 5))),(23,.one (.d (.int .i64 3)))]
     [((1,0),some (.box 170 (cTPlace r161.2))),((19,0),some (.row 189 1 ([[.fnp 117 [((1,0),0)]],[.d (.fn 118 [.inl [(.int .i64 a0.State.Mode),(.sl (List.map eI a0.State.Waits)),(.sl (List.map eTPick a0.State.Picks)),(.sl (List.map eTTake a0.State.Takes)),(.int .i64 a0.n),(.int .i64 a0.node.Start),(.sl (List.map eTState a0.node.States)),(.int .i64 a0.g.N),(.sl (List.map eA2I a0.g.Links))]] [])],[.d (.fn 119 [.inl [(.int .i64 a0.State.Mode),(.sl (List.map eI a0.State.Waits)),(.sl (List.map eTPick a0.State.Picks)),(.sl (List.map eTTake a0.State.Takes)),(.int .i64 a0.n),(.int .i64 a0.node.Start),(.sl (List.map eTState a0.node.States)),(.int .i64 a0.g.N),(.sl (List.map eA2I a0.g.Links))]] [])],[.d (.fn 120 [.inl [(.int .i64 a0.State.Mode),(.sl (List.map eI a0.State.Waits)),(.sl (List.map eTPick a0.State.Picks)),(.sl (List.map eTTake a0.State.Takes)),(.int .i64 a0.n),(.int .i64 a0.node.Start),(.sl (List.map eTState a0.node.States)),(.int .i64 a0.g.N),(.sl (List.map eA2I a0.g.Links))]] [])],[.d (.fn 121 [.inl [(.int .i64 a0.State.Mode),(.sl (List.map eI a0.State.Waits)),(.sl (List.map eTPick a0.State.Picks)),(.sl (List.map eTTake a0.State.Takes)),(.int .i64 a0.n),(.int .i64 a0.node.Start),(.sl (List.map eTState a0.node.States)),(.int .i64 a0.g.N),(.sl (List.map eA2I a0.g.Links))]] [])]])))]
    refine rounds_succ.mpr ?_
    refine qs 56 [] [21,22,23,24] [(1,0),(19,0)] h fun ac wd h => ?_
    refine wp_seq ?_
    refine kT h ?_
    refine wp_skip ?_
    change Code.wp Try.prog _ _ _ _
    refine wp_seq ?_
    refine wp_block ?_
    refine qs 60 [] [5,21,22,23] [(1,0),(19,0),(58,0)] h fun ac wd h => ?_
    obtain ⟨r191,hc192,hD⟩ := oB hD
    have hc192k := L_table_place_takes_ok hc192
    refine qs 64 [factE 62 hc192k] [21,22,23,30] [(1,0),(19,0)] h fun ac wd h => ?_
    rcases i2b hD with ⟨hb193,hD⟩ | ⟨hb193,hD⟩
    ·
     refine kF h ?_
     refine wp_skip ?_
     change Code.wp Try.prog _ _ _ _
     refine qe [] [21,22,23] [(1,0),(19,0)] h fun ac wd h => ?_
     change Code.rounds Try.prog _ _ _ _ _
     have h := h.sm 66 [(21,.one (.own (19,0) 5)),(22,.one (.d (.int .i64 5))),(23,.one (.d (.int .i64 4)))]
      [((1,0),some (.box 170 (cTPlace r161.2))),((19,0),some (.row 189 1 ([[.fnp 117 [((1,0),0)]],[.d (.fn 118 [.inl [(.int .i64 a0.State.Mode),(.sl (List.map eI a0.State.Waits)),(.sl (List.map eTPick a0.State.Picks)),(.sl (List.map eTTake a0.State.Takes)),(.int .i64 a0.n),(.int .i64 a0.node.Start),(.sl (List.map eTState a0.node.States)),(.int .i64 a0.g.N),(.sl (List.map eA2I a0.g.Links))]] [])],[.d (.fn 119 [.inl [(.int .i64 a0.State.Mode),(.sl (List.map eI a0.State.Waits)),(.sl (List.map eTPick a0.State.Picks)),(.sl (List.map eTTake a0.State.Takes)),(.int .i64 a0.n),(.int .i64 a0.node.Start),(.sl (List.map eTState a0.node.States)),(.int .i64 a0.g.N),(.sl (List.map eA2I a0.g.Links))]] [])],[.d (.fn 120 [.inl [(.int .i64 a0.State.Mode),(.sl (List.map eI a0.State.Waits)),(.sl (List.map eTPick a0.State.Picks)),(.sl (List.map eTTake a0.State.Takes)),(.int .i64 a0.n),(.int .i64 a0.node.Start),(.sl (List.map eTState a0.node.States)),(.int .i64 a0.g.N),(.sl (List.map eA2I a0.g.Links))]] [])],[.d (.fn 121 [.inl [(.int .i64 a0.State.Mode),(.sl (List.map eI a0.State.Waits)),(.sl (List.map eTPick a0.State.Picks)),(.sl (List.map eTTake a0.State.Takes)),(.int .i64 a0.n),(.int .i64 a0.node.Start),(.sl (List.map eTState a0.node.States)),(.int .i64 a0.g.N),(.sl (List.map eA2I a0.g.Links))]] [])]])))]
     refine rounds_succ.mpr ?_
     refine qs 67 [] [21,22,23,24] [(1,0),(19,0)] h fun ac wd h => ?_
     refine wp_seq ?_
     refine kT h ?_
     refine wp_skip ?_
     change Code.wp Try.prog _ _ _ _
     refine wp_seq ?_
     refine wp_block ?_
     refine qs 71 [] [5,21,22,23] [(1,0),(19,0),(69,0)] h fun ac wd h => ?_
     obtain ⟨r201,hc202,hD⟩ := oB hD
     have hc202k := L_table_place_stays_ok hc202
     refine qs 75 [factE 73 hc202k] [21,22,23,30] [(1,0),(19,0)] h fun ac wd h => ?_
     rcases i2b hD with ⟨hb203,hD⟩ | ⟨hb203,hD⟩
     ·
      refine kF h ?_
      refine wp_skip ?_
      change Code.wp Try.prog _ _ _ _
      refine qe [] [21,22,23] [(1,0),(19,0)] h fun ac wd h => ?_
      change Code.rounds Try.prog _ _ _ _ _
      have h := h.sm 77 [(21,.one (.own (19,0) 5)),(22,.one (.d (.int .i64 5))),(23,.one (.d (.int .i64 5)))]
       [((1,0),some (.box 170 (cTPlace r161.2))),((19,0),some (.row 189 1 ([[.fnp 117 [((1,0),0)]],[.d (.fn 118 [.inl [(.int .i64 a0.State.Mode),(.sl (List.map eI a0.State.Waits)),(.sl (List.map eTPick a0.State.Picks)),(.sl (List.map eTTake a0.State.Takes)),(.int .i64 a0.n),(.int .i64 a0.node.Start),(.sl (List.map eTState a0.node.States)),(.int .i64 a0.g.N),(.sl (List.map eA2I a0.g.Links))]] [])],[.d (.fn 119 [.inl [(.int .i64 a0.State.Mode),(.sl (List.map eI a0.State.Waits)),(.sl (List.map eTPick a0.State.Picks)),(.sl (List.map eTTake a0.State.Takes)),(.int .i64 a0.n),(.int .i64 a0.node.Start),(.sl (List.map eTState a0.node.States)),(.int .i64 a0.g.N),(.sl (List.map eA2I a0.g.Links))]] [])],[.d (.fn 120 [.inl [(.int .i64 a0.State.Mode),(.sl (List.map eI a0.State.Waits)),(.sl (List.map eTPick a0.State.Picks)),(.sl (List.map eTTake a0.State.Takes)),(.int .i64 a0.n),(.int .i64 a0.node.Start),(.sl (List.map eTState a0.node.States)),(.int .i64 a0.g.N),(.sl (List.map eA2I a0.g.Links))]] [])],[.d (.fn 121 [.inl [(.int .i64 a0.State.Mode),(.sl (List.map eI a0.State.Waits)),(.sl (List.map eTPick a0.State.Picks)),(.sl (List.map eTTake a0.State.Takes)),(.int .i64 a0.n),(.int .i64 a0.node.Start),(.sl (List.map eTState a0.node.States)),(.int .i64 a0.g.N),(.sl (List.map eA2I a0.g.Links))]] [])]])))]
      refine rounds_succ.mpr ?_
      refine qs 78 [] [21,22,23,24] [(1,0),(19,0)] h fun ac wd h => ?_
      refine wp_seq ?_
      refine kF h ?_
      refine wp_exit ?_
      change Code.wp Try.prog _ _ _ _
      refine qs 79 [] [2] [] h fun ac wd h => ?_
      refine wp_ret ?_
      injection hD with hD
      subst hD
      exact rE h [.tmp 2]
     ·
      refine kT h ?_
      refine qs 76 [] [2] [] h fun ac wd h => ?_
      refine wp_ret ?_
      injection hD with hD
      subst hD
      exact rE h [.tmp 2]
    ·
     refine kT h ?_
     refine qs 65 [] [2] [] h fun ac wd h => ?_
     refine wp_ret ?_
     injection hD with hD
     subst hD
     exact rE h [.tmp 2]
   ·
    refine kT h ?_
    refine qs 54 [] [2] [] h fun ac wd h => ?_
    refine wp_ret ?_
    injection hD with hD
    subst hD
    exact rE h [.tmp 2]
  ·
   refine kT h ?_
   refine qs 43 [] [2] [] h fun ac wd h => ?_
   refine wp_ret ?_
   injection hD with hD
   subst hD
   exact rE h [.tmp 2]
 ·
  refine kT h ?_
  refine qs 32 [] [2] [] h fun ac wd h => ?_
  refine wp_ret ?_
  injection hD with hD
  subst hD
  exact rE h [.tmp 2]

theorem L_table_Right_ok {a0 : (List TNode)} {a1 : TGraph} {r : Bool} (hD : L_table_Right a0 a1 = some r) :
  CallH Try.prog 67 [.one (.d (.sl (List.map eTNode a0))),.agg (cTGraph a1)] []
   (.one (.d (.bool r))) [] := by
 unfold L_table_Right at hD
 refine rc Try.func67 rfl Try.ntmps67 fun S Φ P0 wb ac h => ?_
 refine qs 3 [] [0,3] [(1,0)] h fun ac wd h => ?_
 refine wp_seq ?_
 obtain ⟨e977,hE978,hD⟩ := Option.bind_eq_some_iff.1 hD
 refine r_seqJ (fun ac wd => ∃ (b976 : Bool),b976 = e977 ∧ SL ⟨wb,S,Φ,P0⟩ 65 13 [(0,.one (.d (.sl (List.map eTNode a0)))),(3,.one (.ptr (1,0) 0)),(18,.one (.d (.bool b976)))] [((1,0),some (.box 24 (cTGraph a1)))] ac wd) ?_ ?_
 ·
  obtain ⟨r979,hc980,hE978⟩ := oB hE978
  rcases i2b hE978 with ⟨hb981,hE978⟩ | ⟨hb981,hE978⟩
  ·
   have hc980k := L_graph_Right_ok hc980
   refine qeg [factE 4 hc980k] [none,none,none,none,some (some 12,false),some (some 12,false),some (some 12,false),some (some 12,false),some (some 12,false),none] [0,3,18] [(1,0)] h fun ac wd h => ?_
   injection hE978 with hE978; subst hE978
   exact ⟨!(decide ((a0.length : Int) = a1.N)),rfl,h.z⟩
  ·
   have hc980k := L_graph_Right_ok hc980
   refine qeg [factE 4 hc980k] [none,none,none,none,some (some 12,false),some (some 12,false),some (some 12,false),some (some 12,false),some (some 12,false),none] [0,3,18] [(1,0)] h fun ac wd h => ?_
   injection hE978 with hE978; subst hE978
   exact ⟨true,rfl,h.z⟩
 ·
  rintro ac wd ⟨b976,rfl,h⟩
  (try dsimp only at hD)
  rcases i2b hD with ⟨hb983,hD⟩ | ⟨hb983,hD⟩
  ·
   refine kT h ?_
   refine qs 14 [] [4] [] h fun ac wd h => ?_
   refine wp_ret ?_
   injection hD with hD
   subst hD
   exact rE h [.tmp 4]
  ·
   refine kF h ?_
   refine wp_skip ?_
   change Code.wp Try.prog _ _ _ _
   refine wp_seq ?_
   refine qs 16 [] [3,19,20,21] [(1,0)] h fun ac wd h => ?_
   refine wp_block ?_
   refine r_while (fun nf ac wd => ∃ (n1782 : Int),L_table_Right_l1 a0 a1 nf n1782 = some r ∧ SL ⟨wb,S,Φ,P0⟩ 65 146 [(3,.one (.ptr (1,0) 0)),(19,.one (.d (.sl (List.map eTNode a0)))),(20,.one (.d (.int .i64 (a0.length : Int)))),(21,.one (.d (.int .i64 n1782)))] [((1,0),some (.box 24 (cTGraph a1)))] ac wd) (((a0.length : Int) - 0).toNat + 1) ⟨0,hD,h.z⟩ (fun nf ac wd hJ => ?_)
   obtain ⟨n1782,hL1783,h⟩ := hJ
   cases nf with
   | zero => rw [L_table_Right_l1] at hL1783; cases hL1783
   | succ nf =>
    rw [L_table_Right_l1] at hL1783
    refine qs 147 [] [3,19,20,21,22] [(1,0)] h fun ac wd h => ?_
    refine wp_seq ?_
    rcases i2 hL1783 with ⟨hb1785,hL1783⟩ | ⟨hb1785,hL1783⟩
    ·
     refine kT h ?_
     refine wp_skip ?_
     change Code.wp Try.prog _ _ _ _
     obtain ⟨e1863,hE1864,hL1783⟩ := Option.bind_eq_some_iff.1 hL1783
     refine r_seqJ (fun ac wd => (.inl ()) = e1863 ∧ SL ⟨wb,S,Φ,P0⟩ 65 209 [(3,.one (.ptr (1,0) 0)),(19,.one (.d (.sl (List.map eTNode a0)))),(20,.one (.d (.int .i64 (a0.length : Int)))),(21,.one (.d (.int .i64 n1782)))] [((1,0),some (.box 24 (cTGraph a1)))] ac wd) ?_ ?_
     ·
      refine wp_block ?_
      obtain ⟨x1867,hx1868a,hx1868b,hx1868c,hx1868d,hE1864⟩ := aB hE1864
      refine qs 153 [] [3,5,6,19,20,21] [(1,0),(150,0)] h fun ac wd h => ?_
      refine wp_seq ?_
      obtain ⟨e1873,hE1874,hE1864⟩ := Option.bind_eq_some_iff.1 hE1864
      refine r_seqJ (fun ac wd => ∃ (b1872 : Bool),b1872 = e1873 ∧ SL ⟨wb,S,Φ,P0⟩ 65 176 [(3,.one (.ptr (1,0) 0)),(5,.one (.d (.int .i64 n1782))),(6,.one (.ptr (150,0) 0)),(19,.one (.d (.sl (List.map eTNode a0)))),(20,.one (.d (.int .i64 (a0.length : Int)))),(21,.one (.d (.int .i64 n1782))),(48,.one (.d (.bool b1872)))] [((1,0),some (.box 24 (cTGraph a1))),((150,0),some (.box 120 (cTNode x1867)))] ac wd) ?_ ?_
      ·
       rcases i2 hE1874 with ⟨hb1875,hE1874⟩ | ⟨hb1875,hE1874⟩
       ·
        refine qeg [] [none,none,none,none,none,some (some 30,false),some (some 30,false),some (some 30,false),some (some 30,false),none,none,some (some 36,false),some (some 36,false),some (some 36,false),none,none,some (some 41,false),some (some 41,false),some (some 41,false),some (some 41,false),some (some 41,false),some (some 41,false),none] [3,5,6,19,20,21,48] [(1,0),(150,0)] h fun ac wd h => ?_
        injection hE1874 with hE1874; subst hE1874
        exact ⟨true,rfl,h.z⟩
       ·
        rcases i2 hE1874 with ⟨hb1876,hE1874⟩ | ⟨hb1876,hE1874⟩
        ·
         refine qeg [] [none,none,none,none,none,some (some 30,false),some (some 30,false),some (some 30,false),some (some 30,false),none,none,some (some 36,false),some (some 36,false),some (some 36,false),none,none,some (some 41,false),some (some 41,false),some (some 41,false),some (some 41,false),some (some 41,false),some (some 41,false),none] [3,5,6,19,20,21,48] [(1,0),(150,0)] h fun ac wd h => ?_
         injection hE1874 with hE1874; subst hE1874
         exact ⟨true,rfl,h.z⟩
        ·
         rcases i2 hE1874 with ⟨hb1877,hE1874⟩ | ⟨hb1877,hE1874⟩
         ·
          refine qeg [] [none,none,none,none,none,some (some 30,false),some (some 30,false),some (some 30,false),some (some 30,false),none,none,some (some 36,false),some (some 36,false),some (some 36,false),none,none,some (some 41,false),some (some 41,false),some (some 41,false),some (some 41,false),some (some 41,false),some (some 41,false),none] [3,5,6,19,20,21,48] [(1,0),(150,0)] h fun ac wd h => ?_
          injection hE1874 with hE1874; subst hE1874
          exact ⟨true,rfl,h.z⟩
         ·
          refine qeg [] [none,none,none,none,none,some (some 30,false),some (some 30,false),some (some 30,false),some (some 30,false),none,none,some (some 36,false),some (some 36,false),some (some 36,false),none,none,some (some 41,false),some (some 41,false),some (some 41,false),some (some 41,false),some (some 41,false),some (some 41,false),none] [3,5,6,19,20,21,48] [(1,0),(150,0)] h fun ac wd h => ?_
          injection hE1874 with hE1874; subst hE1874
          exact ⟨decide (x1867.Start ≥ (x1867.States.length : Int)),rfl,h.z⟩
      ·
       rintro ac wd ⟨b1872,rfl,h⟩
       (try dsimp only at hE1864)
       rcases i2b hE1864 with ⟨hb1879,hE1864⟩ | ⟨hb1879,hE1864⟩
       ·
        refine kT h ?_
        refine qs 177 [] [4] [] h fun ac wd h => ?_
        refine wp_ret ?_
        injection hE1864 with hE1864
        subst hE1864
        (try dsimp only at hL1783)
        injection hL1783 with hL1783
        subst hL1783
        exact rE h [.tmp 4]
       ·
        refine kF h ?_
        refine wp_skip ?_
        change Code.wp Try.prog _ _ _ _
        refine qs 180 [] [3,5,6,19,20,21,50,51,52] [(1,0),(150,0)] h fun ac wd h => ?_
        obtain ⟨e1942,hE1943,hE1864⟩ := Option.bind_eq_some_iff.1 hE1864
        refine r_meetQ (fun ac wd => (.inl ()) = e1942 ∧ SL ⟨wb,S,Φ,P0⟩ 65 209 [(3,.one (.ptr (1,0) 0)),(19,.one (.d (.sl (List.map eTNode a0)))),(20,.one (.d (.int .i64 (a0.length : Int)))),(21,.one (.d (.int .i64 n1782)))] [((1,0),some (.box 24 (cTGraph a1)))] ac wd) ?_ ?_
        ·
         refine wp_block ?_
         refine r_while (fun nf ac wd => ∃ (n1985 : Int),L_table_Right_l2 a1 n1782 x1867 nf n1985 = some e1942 ∧ SL ⟨wb,S,Φ,P0⟩ 65 208 [(3,.one (.ptr (1,0) 0)),(5,.one (.d (.int .i64 n1782))),(6,.one (.ptr (150,0) 0)),(19,.one (.d (.sl (List.map eTNode a0)))),(20,.one (.d (.int .i64 (a0.length : Int)))),(21,.one (.d (.int .i64 n1782))),(50,.one (.d (.sl (List.map eTState x1867.States)))),(51,.one (.d (.int .i64 (x1867.States.length : Int)))),(52,.one (.d (.int .i64 n1985)))] [((1,0),some (.box 24 (cTGraph a1))),((150,0),some (.box 120 (cTNode x1867)))] ac wd) (((x1867.States.length : Int) - 0).toNat + 1) ⟨0,hE1943,h.z⟩ (fun nf ac wd hJ => ?_)
         obtain ⟨n1985,hL1986,h⟩ := hJ
         cases nf with
         | zero => rw [L_table_Right_l2] at hL1986; cases hL1986
         | succ nf =>
          rw [L_table_Right_l2] at hL1986
          refine qs 209 [] [3,5,6,19,20,21,50,51,52,53] [(1,0),(150,0)] h fun ac wd h => ?_
          refine wp_seq ?_
          rcases i2 hL1986 with ⟨hb1988,hL1986⟩ | ⟨hb1988,hL1986⟩
          ·
           refine kT h ?_
           refine wp_skip ?_
           change Code.wp Try.prog _ _ _ _
           refine wp_seq ?_
           refine wp_block ?_
           obtain ⟨x2000,hx2001a,hx2001b,hx2001c,hx2001d,hL1986⟩ := aB hL1986
           refine qs 213 [] [3,5,6,8,19,20,21,50,51,52] [(1,0),(150,0),(211,0)] h fun ac wd h => ?_
           obtain ⟨r2004,hc2005,hL1986⟩ := oB hL1986
           have hc2005k := L_table_place_may_ok hc2005
           refine qs 220 [factE 218 hc2005k] [3,5,6,19,20,21,50,51,52,62] [(1,0),(150,0)] h fun ac wd h => ?_
           rcases i2b hL1986 with ⟨hb2006,hL1986⟩ | ⟨hb2006,hL1986⟩
           ·
            refine kF h ?_
            refine wp_skip ?_
            change Code.wp Try.prog _ _ _ _
            refine qe [] [3,5,6,19,20,21,50,51,52] [(1,0),(150,0)] h fun ac wd h => ?_
            exact ⟨nf,Nat.lt_succ_self nf,(IntKind.wrap .i64 (n1985 + 1)),hL1986,h.z⟩
           ·
            refine kT h ?_
            refine qs 221 [] [4] [] h fun ac wd h => ?_
            refine wp_ret ?_
            injection hL1986 with hL1986
            subst hL1986
            (try dsimp only at hE1864)
            injection hE1864 with hE1864
            subst hE1864
            (try dsimp only at hL1783)
            injection hL1783 with hL1783
            subst hL1783
            exact rE h [.tmp 4]
          ·
           refine kF h ?_
           refine wp_exit ?_
           injection hL1986 with hL1986; subst hL1986
           exact ⟨rfl,h.z⟩
        ·
         rintro ac wd ⟨rfl,h⟩
         (try dsimp only at hE1864)
         injection hE1864 with hE1864; subst hE1864
         exact ⟨rfl,h.z⟩
     ·
      rintro ac wd ⟨rfl,h⟩
      (try dsimp only at hL1783)
      refine qe [] [3,19,20,21] [(1,0)] h fun ac wd h => ?_
      exact ⟨nf,Nat.lt_succ_self nf,(IntKind.wrap .i64 (n1782 + 1)),hL1783,h.z⟩
    ·
     refine kF h ?_
     refine wp_exit ?_
     change Code.wp Try.prog _ _ _ _
     refine qs 148 [] [4] [] h fun ac wd h => ?_
     refine wp_ret ?_
     injection hL1783 with hL1783
     subst hL1783
     exact rE h [.tmp 4]

theorem L_plain_may_ok {a0 : (List TMsg)} {a1 : Int} {r : Bool} (hD : L_plain_may a0 a1 = some r) :
  CallH Try.prog 68 [.one (.d (.sl (List.map eTMsg a0))),.one (.d (.int .i64 a1))] []
   (.one (.d (.bool r))) [] := by
 unfold L_plain_may at hD
 refine rc Try.func68 rfl Try.ntmps68 fun S Φ P0 wb ac h => ?_
 refine qs 2 [] [0,1] [] h fun ac wd h => ?_
 refine qs 3 [] [0,1,5] [] h fun ac wd h => ?_
 refine wp_seq ?_
 refine qs 6 [] [1,5,8,9,10] [] h fun ac wd h => ?_
 refine wp_block ?_
 refine r_while (fun nf ac wd => ∃ (n375 : Int) (n376 : Int),L_plain_may_l1 a0 a1 nf n375 n376 = some r ∧ SL ⟨wb,S,Φ,P0⟩ 43 66 [(1,.one (.d (.int .i64 a1))),(5,.one (.d (.int .i64 n375))),(8,.one (.d (.sl (List.map eTMsg a0)))),(9,.one (.d (.int .i64 (a0.length : Int)))),(10,.one (.d (.int .i64 n376)))] [] ac wd) (((a0.length : Int) - 0).toNat + 1) ⟨0,0,hD,h.z⟩ (fun nf ac wd hJ => ?_)
 obtain ⟨n375,n376,hL377,h⟩ := hJ
 cases nf with
 | zero => rw [L_plain_may_l1] at hL377; cases hL377
 | succ nf =>
  rw [L_plain_may_l1] at hL377
  refine qs 67 [] [1,5,8,9,10,11] [] h fun ac wd h => ?_
  refine wp_seq ?_
  rcases i2 hL377 with ⟨hb379,hL377⟩ | ⟨hb379,hL377⟩
  ·
   refine kT h ?_
   refine wp_skip ?_
   change Code.wp Try.prog _ _ _ _
   refine wp_seq ?_
   refine wp_block ?_
   obtain ⟨x397,hx398a,hx398b,hx398c,hx398d,hL377⟩ := aB hL377
   refine qs 71 [] [1,5,7,8,9,10] [(69,0)] h fun ac wd h => ?_
   refine wp_seq ?_
   obtain ⟨e403,hE404,hL377⟩ := Option.bind_eq_some_iff.1 hL377
   refine r_seqJ (fun ac wd => ∃ (b402 : Bool),b402 = e403 ∧ SL ⟨wb,S,Φ,P0⟩ 43 91 [(1,.one (.d (.int .i64 a1))),(7,.one (.ptr (69,0) 0)),(8,.one (.d (.sl (List.map eTMsg a0)))),(9,.one (.d (.int .i64 (a0.length : Int)))),(10,.one (.d (.int .i64 n376))),(33,.one (.d (.bool b402)))] [((69,0),some (.box 70 (cTMsg x397)))] ac wd) ?_ ?_
   ·
    rcases i2 hE404 with ⟨hb405,hE404⟩ | ⟨hb405,hE404⟩
    ·
     refine qeg [] [none,none,none,none,none,some (some 18,false),some (some 18,false),some (some 18,false),some (some 18,false),none,none,some (some 24,false),some (some 24,false),some (some 24,false),none,none,some (some 29,false),some (some 29,false),some (some 29,false),none] [1,7,8,9,10,33] [(69,0)] h fun ac wd h => ?_
     injection hE404 with hE404; subst hE404
     exact ⟨true,rfl,h.z⟩
    ·
     rcases i2 hE404 with ⟨hb406,hE404⟩ | ⟨hb406,hE404⟩
     ·
      refine qeg [] [none,none,none,none,none,some (some 18,false),some (some 18,false),some (some 18,false),some (some 18,false),none,none,some (some 24,false),some (some 24,false),some (some 24,false),none,none,some (some 29,false),some (some 29,false),some (some 29,false),none] [1,7,8,9,10,33] [(69,0)] h fun ac wd h => ?_
      injection hE404 with hE404; subst hE404
      exact ⟨true,rfl,h.z⟩
     ·
      rcases i2 hE404 with ⟨hb407,hE404⟩ | ⟨hb407,hE404⟩
      ·
       refine qeg [] [none,none,none,none,none,some (some 18,false),some (some 18,false),some (some 18,false),some (some 18,false),none,none,some (some 24,false),some (some 24,false),some (some 24,false),none,none,some (some 29,false),some (some 29,false),some (some 29,false),none] [1,7,8,9,10,33] [(69,0)] h fun ac wd h => ?_
       injection hE404 with hE404; subst hE404
       exact ⟨true,rfl,h.z⟩
      ·
       refine qeg [] [none,none,none,none,none,some (some 18,false),some (some 18,false),some (some 18,false),some (some 18,false),none,none,some (some 24,false),some (some 24,false),some (some 24,false),none,none,some (some 29,false),some (some 29,false),some (some 29,false),none] [1,7,8,9,10,33] [(69,0)] h fun ac wd h => ?_
       injection hE404 with hE404; subst hE404
       exact ⟨decide (x397.Letter ≥ 4),rfl,h.z⟩
   ·
    rintro ac wd ⟨b402,rfl,h⟩
    (try dsimp only at hL377)
    rcases i2b hL377 with ⟨hb409,hL377⟩ | ⟨hb409,hL377⟩
    ·
     refine kT h ?_
     refine qs 92 [] [4] [] h fun ac wd h => ?_
     refine wp_ret ?_
     injection hL377 with hL377
     subst hL377
     exact rE h [.tmp 4]
    ·
     refine kF h ?_
     refine wp_skip ?_
     change Code.wp Try.prog _ _ _ _
     refine qe [] [1,5,8,9,10] [] h fun ac wd h => ?_
     change Code.wp Try.prog _ _ _ _
     refine qe [] [1,5,8,9,10] [] h fun ac wd h => ?_
     exact ⟨nf,Nat.lt_succ_self nf,x397.Seq,(IntKind.wrap .i64 (n376 + 1)),hL377,h.z⟩
  ·
   refine kF h ?_
   refine wp_exit ?_
   change Code.wp Try.prog _ _ _ _
   obtain ⟨e412,hE413,hL377⟩ := Option.bind_eq_some_iff.1 hL377
   refine r_seqJ (fun ac wd => ∃ (b411 : Bool),b411 = e412 ∧ SL ⟨wb,S,Φ,P0⟩ 43 74 [(4,.one (.d (.bool b411)))] [] ac wd) ?_ ?_
   ·
    rcases i2 hE413 with ⟨hb414,hE413⟩ | ⟨hb414,hE413⟩
    ·
     refine qeg [] [none,none,none,some (some 39,true),some (some 39,true),none,none] [4] [] h fun ac wd h => ?_
     injection hE413 with hE413; subst hE413
     exact ⟨decide (a1 ≤ 500),rfl,h.z⟩
    ·
     refine qeg [] [none,none,none,some (some 39,true),some (some 39,true),none,none] [4] [] h fun ac wd h => ?_
     injection hE413 with hE413; subst hE413
     exact ⟨false,rfl,h.z⟩
   ·
    rintro ac wd ⟨b411,rfl,h⟩
    (try dsimp only at hL377)
    refine wp_ret ?_
    injection hL377 with hL377
    subst hL377
    exact rE h [.tmp 4]

theorem L_plain_Right_ok {a0 : TApp} {a1 : TConf} {r : Bool} (hD : L_plain_Right a0 a1 = some r) :
  CallH Try.prog 30 [.agg (cTApp a0),.agg (cTConf a1)] []
   (.one (.d (.bool r))) [] := by
 unfold L_plain_Right at hD
 refine rc Try.func30 rfl Try.ntmps30 fun S Φ P0 wb ac h => ?_
 refine qs 4 [] [2,3] [(1,0),(2,0)] h fun ac wd h => ?_
 refine wp_seq ?_
 obtain ⟨e384,hE385,hD⟩ := Option.bind_eq_some_iff.1 hD
 refine r_seqJ (fun ac wd => ∃ (b383 : Bool),b383 = e384 ∧ SL ⟨wb,S,Φ,P0⟩ 83 39 [(2,.one (.ptr (1,0) 0)),(3,.one (.ptr (2,0) 0)),(43,.one (.d (.bool b383)))] [((1,0),some (.box 27 (cTApp a0))),((2,0),some (.box 31 (cTConf a1)))] ac wd) ?_ ?_
 ·
  obtain ⟨r386,hc387,hE385⟩ := oB hE385
  rcases i2b hE385 with ⟨hb388,hE385⟩ | ⟨hb388,hE385⟩
  ·
   rcases i2e hE385 with ⟨hb389,hE385⟩ | ⟨hb389,hE385⟩
   ·
    rcases i2e hE385 with ⟨hb390,hE385⟩ | ⟨hb390,hE385⟩
    ·
     have hc387k := L_table_Right_ok hc387
     refine qeg [factE 8 hc387k] [none,none,none,none,none,none,none,some (some 15,false),some (some 15,false),some (some 15,false),some (some 15,false),some (some 15,false),some (some 15,false),some (some 15,false),none,none,some (some 24,false),some (some 24,false),some (some 24,false),some (some 24,false),some (some 24,false),some (some 24,false),some (some 24,false),some (some 24,false),none,none,some (some 34,false),some (some 34,false),some (some 34,false),some (some 34,false),some (some 34,false),some (some 34,false),some (some 34,false),some (some 34,false),none] [2,3,43] [(1,0),(2,0)] h fun ac wd h => ?_
     injection hE385 with hE385; subst hE385
     exact ⟨!(decide ((a1.Sent.length : Int) = (a0.G.Links.length : Int))),rfl,h.z⟩
    ·
     have hc387k := L_table_Right_ok hc387
     refine qeg [factE 8 hc387k] [none,none,none,none,none,none,none,some (some 15,false),some (some 15,false),some (some 15,false),some (some 15,false),some (some 15,false),some (some 15,false),some (some 15,false),none,none,some (some 24,false),some (some 24,false),some (some 24,false),some (some 24,false),some (some 24,false),some (some 24,false),some (some 24,false),some (some 24,false),none,none,some (some 34,false),some (some 34,false),some (some 34,false),some (some 34,false),some (some 34,false),some (some 34,false),some (some 34,false),some (some 34,false),none] [2,3,43] [(1,0),(2,0)] h fun ac wd h => ?_
     injection hE385 with hE385; subst hE385
     exact ⟨true,rfl,h.z⟩
   ·
    have hc387k := L_table_Right_ok hc387
    refine qeg [factE 8 hc387k] [none,none,none,none,none,none,none,some (some 15,false),some (some 15,false),some (some 15,false),some (some 15,false),some (some 15,false),some (some 15,false),some (some 15,false),none,none,some (some 24,false),some (some 24,false),some (some 24,false),some (some 24,false),some (some 24,false),some (some 24,false),some (some 24,false),some (some 24,false),none,none,some (some 34,false),some (some 34,false),some (some 34,false),some (some 34,false),some (some 34,false),some (some 34,false),some (some 34,false),some (some 34,false),none] [2,3,43] [(1,0),(2,0)] h fun ac wd h => ?_
    injection hE385 with hE385; subst hE385
    exact ⟨true,rfl,h.z⟩
  ·
   have hc387k := L_table_Right_ok hc387
   refine qeg [factE 8 hc387k] [none,none,none,none,none,none,none,some (some 15,false),some (some 15,false),some (some 15,false),some (some 15,false),some (some 15,false),some (some 15,false),some (some 15,false),none,none,some (some 24,false),some (some 24,false),some (some 24,false),some (some 24,false),some (some 24,false),some (some 24,false),some (some 24,false),some (some 24,false),none,none,some (some 34,false),some (some 34,false),some (some 34,false),some (some 34,false),some (some 34,false),some (some 34,false),some (some 34,false),some (some 34,false),none] [2,3,43] [(1,0),(2,0)] h fun ac wd h => ?_
   injection hE385 with hE385; subst hE385
   exact ⟨true,rfl,h.z⟩
 ·
  rintro ac wd ⟨b383,rfl,h⟩
  (try dsimp only at hD)
  rcases i2b hD with ⟨hb392,hD⟩ | ⟨hb392,hD⟩
  ·
   refine kT h ?_
   refine qs 40 [] [4] [] h fun ac wd h => ?_
   refine wp_ret ?_
   injection hD with hD
   subst hD
   exact rE h [.tmp 4]
  ·
   refine kF h ?_
   refine wp_skip ?_
   change Code.wp Try.prog _ _ _ _
   refine wp_seq ?_
   refine qs 43 [] [2,3,45,46,47] [(1,0),(2,0)] h fun ac wd h => ?_
   obtain ⟨e485,hE486,hD⟩ := Option.bind_eq_some_iff.1 hD
   refine r_meet (fun ac wd => (.inl ()) = e485 ∧ SL ⟨wb,S,Φ,P0⟩ 83 86 [(3,.one (.ptr (2,0) 0))] [((2,0),some (.box 31 (cTConf a1)))] ac wd) ?_ ?_
   ·
    refine wp_block ?_
    refine r_while (fun nf ac wd => ∃ (n548 : Int),L_plain_Right_l1 a0 a1 nf n548 = some e485 ∧ SL ⟨wb,S,Φ,P0⟩ 83 85 [(2,.one (.ptr (1,0) 0)),(3,.one (.ptr (2,0) 0)),(45,.one (.d (.sl (List.map eI a1.States)))),(46,.one (.d (.int .i64 (a1.States.length : Int)))),(47,.one (.d (.int .i64 n548)))] [((1,0),some (.box 27 (cTApp a0))),((2,0),some (.box 31 (cTConf a1)))] ac wd) (((a1.States.length : Int) - 0).toNat + 1) ⟨0,hE486,h.z⟩ (fun nf ac wd hJ => ?_)
    obtain ⟨n548,hL549,h⟩ := hJ
    cases nf with
    | zero => rw [L_plain_Right_l1] at hL549; cases hL549
    | succ nf =>
     rw [L_plain_Right_l1] at hL549
     refine qs 86 [] [2,3,45,46,47,48] [(1,0),(2,0)] h fun ac wd h => ?_
     refine wp_seq ?_
     rcases i2 hL549 with ⟨hb551,hL549⟩ | ⟨hb551,hL549⟩
     ·
      refine kT h ?_
      refine wp_skip ?_
      change Code.wp Try.prog _ _ _ _
      refine wp_seq ?_
      refine wp_block ?_
      obtain ⟨x568,hx569a,hx569b,hx569c,hx569d,hL549⟩ := aB hL549
      refine qs 91 [] [2,3,5,6,45,46,47] [(1,0),(2,0)] h fun ac wd h => ?_
      obtain ⟨e574,hE575,hL549⟩ := Option.bind_eq_some_iff.1 hL549
      refine r_seqJ (fun ac wd => ∃ (b573 : Bool),b573 = e574 ∧ SL ⟨wb,S,Φ,P0⟩ 83 104 [(2,.one (.ptr (1,0) 0)),(3,.one (.ptr (2,0) 0)),(45,.one (.d (.sl (List.map eI a1.States)))),(46,.one (.d (.int .i64 (a1.States.length : Int)))),(47,.one (.d (.int .i64 n548))),(64,.one (.d (.bool b573)))] [((1,0),some (.box 27 (cTApp a0))),((2,0),some (.box 31 (cTConf a1)))] ac wd) ?_ ?_
      ·
       rcases i2 hE575 with ⟨hb576,hE575⟩ | ⟨hb576,hE575⟩
       ·
        refine qeg [] [none,none,none,some (some 54,false),some (some 54,false),some (some 54,false),some (some 54,false),some (some 54,false),some (some 54,false),some (some 54,false),some (some 54,false),some (some 54,false),none] [2,3,45,46,47,64] [(1,0),(2,0)] h fun ac wd h => ?_
        injection hE575 with hE575; subst hE575
        exact ⟨true,rfl,h.z⟩
       ·
        obtain ⟨x577,hx578a,hx578b,hx578c,hx578d,hE575⟩ := aB hE575
        refine qeg [] [none,none,none,some (some 54,false),some (some 54,false),some (some 54,false),some (some 54,false),some (some 54,false),some (some 54,false),some (some 54,false),some (some 54,false),some (some 54,false),none] [2,3,45,46,47,64] [(1,0),(2,0)] h fun ac wd h => ?_
        injection hE575 with hE575; subst hE575
        exact ⟨decide (x568 ≥ (x577.States.length : Int)),rfl,h.z⟩
      ·
       rintro ac wd ⟨b573,rfl,h⟩
       (try dsimp only at hL549)
       rcases i2b hL549 with ⟨hb579,hL549⟩ | ⟨hb579,hL549⟩
       ·
        refine kT h ?_
        refine qs 105 [] [4] [] h fun ac wd h => ?_
        refine wp_ret ?_
        injection hL549 with hL549
        subst hL549
        (try dsimp only at hD)
        injection hD with hD
        subst hD
        exact rE h [.tmp 4]
       ·
        refine kF h ?_
        refine wp_skip ?_
        change Code.wp Try.prog _ _ _ _
        refine qe [] [2,3,45,46,47] [(1,0),(2,0)] h fun ac wd h => ?_
        exact ⟨nf,Nat.lt_succ_self nf,(IntKind.wrap .i64 (n548 + 1)),hL549,h.z⟩
     ·
      refine kF h ?_
      refine wp_exit ?_
      injection hL549 with hL549; subst hL549
      exact ⟨rfl,h.z⟩
   ·
    rintro ac wd ⟨rfl,h⟩
    (try dsimp only at hD)
    refine wp_seq ?_
    refine qs 90 [] [3,67,68,69] [(2,0)] h fun ac wd h => ?_
    refine wp_block ?_
    refine r_while (fun nf ac wd => ∃ (n723 : Int),L_plain_Right_l2 a1 nf n723 = some r ∧ SL ⟨wb,S,Φ,P0⟩ 83 122 [(3,.one (.ptr (2,0) 0)),(67,.one (.d (.sl (List.map (eL eTMsg) a1.Links)))),(68,.one (.d (.int .i64 (a1.Links.length : Int)))),(69,.one (.d (.int .i64 n723)))] [((2,0),some (.box 31 (cTConf a1)))] ac wd) (((a1.Links.length : Int) - 0).toNat + 1) ⟨0,hD,h.z⟩ (fun nf ac wd hJ => ?_)
    obtain ⟨n723,hL724,h⟩ := hJ
    cases nf with
    | zero => rw [L_plain_Right_l2] at hL724; cases hL724
    | succ nf =>
     rw [L_plain_Right_l2] at hL724
     refine qs 123 [] [3,67,68,69,70] [(2,0)] h fun ac wd h => ?_
     refine wp_seq ?_
     rcases i2 hL724 with ⟨hb726,hL724⟩ | ⟨hb726,hL724⟩
     ·
      refine kT h ?_
      refine wp_skip ?_
      change Code.wp Try.prog _ _ _ _
      refine wp_seq ?_
      refine wp_block ?_
      obtain ⟨x742,hx743a,hx743b,hx743c,hx743d,hL724⟩ := aB hL724
      refine qs 128 [] [3,7,8,67,68,69] [(2,0)] h fun ac wd h => ?_
      obtain ⟨x748,hx749a,hx749b,hx749c,hx749d,hL724⟩ := aB hL724
      obtain ⟨r750,hc751,hL724⟩ := oB hL724
      have hc751k := L_plain_may_ok hc751
      refine qs 136 [factE 134 hc751k] [3,67,68,69,81] [(2,0)] h fun ac wd h => ?_
      rcases i2b hL724 with ⟨hb752,hL724⟩ | ⟨hb752,hL724⟩
      ·
       refine kF h ?_
       refine wp_skip ?_
       change Code.wp Try.prog _ _ _ _
       refine qe [] [3,67,68,69] [(2,0)] h fun ac wd h => ?_
       exact ⟨nf,Nat.lt_succ_self nf,(IntKind.wrap .i64 (n723 + 1)),hL724,h.z⟩
      ·
       refine kT h ?_
       refine qs 137 [] [4] [] h fun ac wd h => ?_
       refine wp_ret ?_
       injection hL724 with hL724
       subst hL724
       exact rE h [.tmp 4]
     ·
      refine kF h ?_
      refine wp_exit ?_
      change Code.wp Try.prog _ _ _ _
      refine qs 124 [] [4] [] h fun ac wd h => ?_
      refine wp_ret ?_
      injection hL724 with hL724
      subst hL724
      exact rE h [.tmp 4]

theorem L_ref04_At_ok {a0 : (List TNode)} {a1 : Int} {a2 : Int} {r : TState} (hD : L_ref04_At a0 a1 a2 = some r) :
  CallH Try.prog 36 [.one (.d (.sl (List.map eTNode a0))),.one (.d (.int .i64 a1)),.one (.d (.int .i64 a2))] []
   (.agg [.d (.int .i64 r.Mode),.d (.sl (List.map eI r.Waits)),.d (.sl (List.map eTPick r.Picks)),.d (.sl (List.map eTTake r.Takes))]) [] := by
 unfold L_ref04_At at hD
 refine rc Try.func36 rfl Try.ntmps36 fun S Φ P0 wb ac h => ?_
 refine qs 2 [] [0,1,2,6] [(1,0)] h fun ac wd h => ?_
 refine wp_seq ?_
 obtain ⟨e30,hE31,hD⟩ := Option.bind_eq_some_iff.1 hD
 refine r_seqJ (fun ac wd => ∃ (b29 : Bool),b29 = e30 ∧ SL ⟨wb,S,Φ,P0⟩ 38 24 [(0,.one (.d (.sl (List.map eTNode a0)))),(1,.one (.d (.int .i64 a1))),(2,.one (.d (.int .i64 a2))),(6,.one (.ptr (1,0) 0)),(28,.one (.d (.bool b29)))] [((1,0),some (.box 66 [.d (.int .i64 0),.nil,.nil,.nil]))] ac wd) ?_ ?_
 ·
  rcases i2 hE31 with ⟨hb32,hE31⟩ | ⟨hb32,hE31⟩
  ·
   refine qeg [] [none,none,none,some (some 9,false),some (some 9,false),some (some 9,false),some (some 9,false),none,none,some (some 15,false),some (some 15,false),none,none,some (some 19,false),some (some 19,false),some (some 19,false),some (some 19,false),some (some 19,false),some (some 19,false),some (some 19,false),some (some 19,false),none] [0,1,2,6,28] [(1,0)] h fun ac wd h => ?_
   injection hE31 with hE31; subst hE31
   exact ⟨true,rfl,h.z⟩
  ·
   rcases i2 hE31 with ⟨hb33,hE31⟩ | ⟨hb33,hE31⟩
   ·
    refine qeg [] [none,none,none,some (some 9,false),some (some 9,false),some (some 9,false),some (some 9,false),none,none,some (some 15,false),some (some 15,false),none,none,some (some 19,false),some (some 19,false),some (some 19,false),some (some 19,false),some (some 19,false),some (some 19,false),some (some 19,false),some (some 19,false),none] [0,1,2,6,28] [(1,0)] h fun ac wd h => ?_
    injection hE31 with hE31; subst hE31
    exact ⟨true,rfl,h.z⟩
   ·
    rcases i2 hE31 with ⟨hb34,hE31⟩ | ⟨hb34,hE31⟩
    ·
     refine qeg [] [none,none,none,some (some 9,false),some (some 9,false),some (some 9,false),some (some 9,false),none,none,some (some 15,false),some (some 15,false),none,none,some (some 19,false),some (some 19,false),some (some 19,false),some (some 19,false),some (some 19,false),some (some 19,false),some (some 19,false),some (some 19,false),none] [0,1,2,6,28] [(1,0)] h fun ac wd h => ?_
     injection hE31 with hE31; subst hE31
     exact ⟨true,rfl,h.z⟩
    ·
     obtain ⟨x35,hx36a,hx36b,hx36c,hx36d,hE31⟩ := aB hE31
     refine qeg [] [none,none,none,some (some 9,false),some (some 9,false),some (some 9,false),some (some 9,false),none,none,some (some 15,false),some (some 15,false),none,none,some (some 19,false),some (some 19,false),some (some 19,false),some (some 19,false),some (some 19,false),some (some 19,false),some (some 19,false),some (some 19,false),none] [0,1,2,6,28] [(1,0)] h fun ac wd h => ?_
     injection hE31 with hE31; subst hE31
     exact ⟨decide (a2 ≥ (x35.States.length : Int)),rfl,h.z⟩
 ·
  rintro ac wd ⟨b29,rfl,h⟩
  (try dsimp only at hD)
  rcases i2b hD with ⟨hb38,hD⟩ | ⟨hb38,hD⟩
  ·
   refine kT h ?_
   refine qs 26 [] [6] [(1,0)] h fun ac wd h => ?_
   refine wp_ret ?_
   injection hD with hD
   subst hD
   exact rE h [.cell 6 66]
  ·
   refine kF h ?_
   refine wp_skip ?_
   change Code.wp Try.prog _ _ _ _
   obtain ⟨x43,hx44a,hx44b,hx44c,hx44d,hD⟩ := aB hD
   obtain ⟨x45,hx46a,hx46b,hx46c,hx46d,hD⟩ := aB hD
   refine qs 33 [] [6] [(1,0)] h fun ac wd h => ?_
   refine wp_ret ?_
   injection hD with hD
   subst hD
   exact rE h [.cell 6 66]

theorem L_ref14_Count_ok {a0 : TApp} {a1 : TConf} {a2 : Int} {r : Int} (hD : L_ref14_Count a0 a1 a2 = some r) :
  CallH Try.prog 32 [.agg (cTApp a0),.agg (cTConf a1),.one (.d (.int .i64 a2))] []
   (.one (.d (.int .i64 r))) [] := by
 unfold L_ref14_Count at hD
 refine rc Try.func32 rfl Try.ntmps32 fun S Φ P0 wb ac h => ?_
 refine qs 4 [] [2,3,4] [(1,0),(2,0)] h fun ac wd h => ?_
 refine qs 5 [] [2,3,4,7] [(1,0),(2,0)] h fun ac wd h => ?_
 refine wp_seq ?_
 refine qs 6 [] [2,3,4,7,8] [(1,0),(2,0)] h fun ac wd h => ?_
 refine wp_block ?_
 refine r_while (fun nf ac wd => ∃ (n271 : Int) (n272 : Int),L_ref14_Count_l1 a0 a1 a2 nf n271 n272 = some r ∧ SL ⟨wb,S,Φ,P0⟩ 31 52 [(2,.one (.d (.int .i64 a2))),(3,.one (.ptr (1,0) 0)),(4,.one (.ptr (2,0) 0)),(7,.one (.d (.int .i64 n271))),(8,.one (.d (.int .i64 n272)))] [((1,0),some (.box 38 (cTApp a0))),((2,0),some (.box 40 (cTConf a1)))] ac wd) (((a1.States.length : Int) - 0).toNat + 1) ⟨0,0,hD,h.z⟩ (fun nf ac wd hJ => ?_)
 obtain ⟨n271,n272,hL273,h⟩ := hJ
 cases nf with
 | zero => rw [L_ref14_Count_l1] at hL273; cases hL273
 | succ nf =>
  rw [L_ref14_Count_l1] at hL273
  refine wp_seq ?_
  refine qs 57 [] [2,3,4,7,8,13] [(1,0),(2,0)] h fun ac wd h => ?_
  rcases i2 hL273 with ⟨hb275,hL273⟩ | ⟨hb275,hL273⟩
  ·
   refine kT h ?_
   refine wp_skip ?_
   change Code.wp Try.prog _ _ _ _
   obtain ⟨e286,hE287,hL273⟩ := Option.bind_eq_some_iff.1 hL273
   refine r_seqJ (fun ac wd => ∃ (n285 : Int),n285 = e286 ∧ SL ⟨wb,S,Φ,P0⟩ 31 72 [(2,.one (.d (.int .i64 a2))),(3,.one (.ptr (1,0) 0)),(4,.one (.ptr (2,0) 0)),(7,.one (.d (.int .i64 n285))),(8,.one (.d (.int .i64 n272)))] [((1,0),some (.box 38 (cTApp a0))),((2,0),some (.box 40 (cTConf a1)))] ac wd) ?_ ?_
   ·
    refine wp_block ?_
    obtain ⟨x292,hx293a,hx293b,hx293c,hx293d,hE287⟩ := aB hE287
    obtain ⟨r294,hc295,hE287⟩ := oB hE287
    have hc295k := L_ref04_At_ok hc295
    refine ds 69 [factE 65 hc295k] [2,3,4,7,8,27] [(1,0),(2,0)] h fun ac wd h => ?_
    rcases i2e hE287 with ⟨hb296,hE287⟩ | ⟨hb296,hE287⟩
    ·
     refine kT h ?_
     refine qe [] [2,3,4,7,8] [(1,0),(2,0)] h fun ac wd h => ?_
     injection hE287 with hE287; subst hE287
     exact ⟨(IntKind.wrap .i64 (n271 + 1)),rfl,h.z⟩
    ·
     refine kF h ?_
     refine wp_skip ?_
     injection hE287 with hE287; subst hE287
     exact ⟨n271,rfl,h.z⟩
   ·
    rintro ac wd ⟨n285,rfl,h⟩
    (try dsimp only at hL273)
    refine qe [] [2,3,4,7,8] [(1,0),(2,0)] h fun ac wd h => ?_
    exact ⟨nf,Nat.lt_succ_self nf,n285,(IntKind.wrap .i64 (n272 + 1)),hL273,h.z⟩
  ·
   refine kF h ?_
   refine wp_exit ?_
   change Code.wp Try.prog _ _ _ _
   refine qs 59 [] [6] [] h fun ac wd h => ?_
   refine wp_ret ?_
   injection hL273 with hL273
   subst hL273
   exact rE h [.tmp 6]

theorem L_ref14_Way_ok {a0 : TConf} {r : Int} (hD : L_ref14_Way a0 = some r) :
  CallH Try.prog 33 [.agg (cTConf a0)] []
   (.one (.d (.int .i64 r))) [] := by
 unfold L_ref14_Way at hD
 refine rc Try.func33 rfl Try.ntmps33 fun S Φ P0 wb ac h => ?_
 refine qs 3 [] [1] [(1,0)] h fun ac wd h => ?_
 refine qs 4 [] [1,3] [(1,0)] h fun ac wd h => ?_
 refine wp_seq ?_
 refine qs 5 [] [1,3,4] [(1,0)] h fun ac wd h => ?_
 refine wp_block ?_
 refine r_while (fun nf ac wd => ∃ (n84 : Int) (n85 : Int),L_ref14_Way_l1 a0 nf n84 n85 = some r ∧ SL ⟨wb,S,Φ,P0⟩ 21 39 [(1,.one (.ptr (1,0) 0)),(3,.one (.d (.int .i64 n84))),(4,.one (.d (.int .i64 n85)))] [((1,0),some (.box 40 (cTConf a0)))] ac wd) (((a0.Links.length : Int) - 0).toNat + 1) ⟨0,0,hD,h.z⟩ (fun nf ac wd hJ => ?_)
 obtain ⟨n84,n85,hL86,h⟩ := hJ
 cases nf with
 | zero => rw [L_ref14_Way_l1] at hL86; cases hL86
 | succ nf =>
  rw [L_ref14_Way_l1] at hL86
  refine wp_seq ?_
  refine qs 44 [] [1,3,4,9] [(1,0)] h fun ac wd h => ?_
  rcases i2 hL86 with ⟨hb88,hL86⟩ | ⟨hb88,hL86⟩
  ·
   refine kT h ?_
   refine wp_skip ?_
   change Code.wp Try.prog _ _ _ _
   refine wp_seq ?_
   refine wp_block ?_
   obtain ⟨x91,hx92a,hx92b,hx92c,hx92d,hL86⟩ := aB hL86
   refine qe [] [1,3,4] [(1,0)] h fun ac wd h => ?_
   change Code.wp Try.prog _ _ _ _
   refine qe [] [1,3,4] [(1,0)] h fun ac wd h => ?_
   exact ⟨nf,Nat.lt_succ_self nf,(IntKind.wrap .i64 (n84 + (x91.length : Int))),(IntKind.wrap .i64 (n85 + 1)),hL86,h.z⟩
  ·
   refine kF h ?_
   refine wp_exit ?_
   change Code.wp Try.prog _ _ _ _
   refine qs 46 [] [2] [] h fun ac wd h => ?_
   refine wp_ret ?_
   injection hL86 with hL86
   subst hL86
   exact rE h [.tmp 2]

theorem L_ref14_Over_ok {a0 : TApp} {a1 : TConf} {r : Bool} (hD : L_ref14_Over a0 a1 = some r) :
  CallH Try.prog 31 [.agg (cTApp a0),.agg (cTConf a1)] []
   (.one (.d (.bool r))) [] := by
 unfold L_ref14_Over at hD
 refine rc Try.func31 rfl Try.ntmps31 fun S Φ P0 wb ac h => ?_
 refine qs 4 [] [2,3] [(1,0),(2,0)] h fun ac wd h => ?_
 obtain ⟨e29,hE30,hD⟩ := Option.bind_eq_some_iff.1 hD
 refine r_seqJ (fun ac wd => ∃ (b28 : Bool),b28 = e29 ∧ SL ⟨wb,S,Φ,P0⟩ 20 20 [(4,.one (.d (.bool b28)))] [] ac wd) ?_ ?_
 ·
  obtain ⟨r31,hc32,hE30⟩ := oB hE30
  rcases i2e hE30 with ⟨hb33,hE30⟩ | ⟨hb33,hE30⟩
  ·
   obtain ⟨r34,hc35,hE30⟩ := oB hE30
   rcases i2e hE30 with ⟨hb36,hE30⟩ | ⟨hb36,hE30⟩
   ·
    obtain ⟨r37,hc38,hE30⟩ := oB hE30
    have hc32k := L_ref14_Count_ok hc32
    have hc35k := L_ref14_Count_ok hc35
    have hc38k := L_ref14_Way_ok hc38
    refine qeg [factE 6 hc32k,factE 11 hc35k,factE 16 hc38k] [none,none,none,none,none,some (some 9,true),some (some 9,true),some (some 9,true),some (some 9,true),none,none,some (some 15,true),some (some 15,true),some (some 15,true),none,none] [4] [] h fun ac wd h => ?_
    injection hE30 with hE30; subst hE30
    exact ⟨decide (r37 = 0),rfl,h.z⟩
   ·
    have hc32k := L_ref14_Count_ok hc32
    have hc35k := L_ref14_Count_ok hc35
    refine qeg [factE 6 hc32k,factE 11 hc35k] [none,none,none,none,none,some (some 9,true),some (some 9,true),some (some 9,true),some (some 9,true),none,none,some (some 15,true),some (some 15,true),some (some 15,true),none,none] [4] [] h fun ac wd h => ?_
    injection hE30 with hE30; subst hE30
    exact ⟨false,rfl,h.z⟩
  ·
   have hc32k := L_ref14_Count_ok hc32
   refine qeg [factE 6 hc32k] [none,none,none,none,none,some (some 9,true),some (some 9,true),some (some 9,true),some (some 9,true),none,none,some (some 15,true),some (some 15,true),some (some 15,true),none,none] [4] [] h fun ac wd h => ?_
   injection hE30 with hE30; subst hE30
   exact ⟨false,rfl,h.z⟩
 ·
  rintro ac wd ⟨b28,rfl,h⟩
  (try dsimp only at hD)
  refine wp_ret ?_
  injection hD with hD
  subst hD
  exact rE h [.tmp 4]

theorem L_ref14_Loads_own {a0 : TConf} {r : (List Int)} (hD : L_ref14_Loads a0 = some r) :
  CallH Try.prog 35 [.agg (cTConf a0)] []
   (.one (.own (1,0) r.length)) [((1,0),some (.row 3 1 (dat (List.map eI r))))] := by
 unfold L_ref14_Loads at hD
 refine rc Try.func35 rfl Try.ntmps35 fun S Φ P0 wb ac h => ?_
 refine qs 3 [] [1] [(1,0)] h fun ac wd h => ?_
 refine qs 5 [] [1,3] [(1,0),(3,0)] h fun ac wd h => ?_
 refine wp_seq ?_
 refine qs 6 [] [1,3,4] [(1,0),(3,0)] h fun ac wd h => ?_
 refine wp_block ?_
 refine r_while (fun nf ac wd => ∃ (n98 : Int) (l99 : List Int),L_ref14_Loads_l1 a0 nf n98 l99 = some r ∧ SL ⟨wb,S,Φ,P0⟩ 23 42 [(1,.one (.ptr (1,0) 0)),(3,.one (.own (3,0) l99.length)),(4,.one (.d (.int .i64 n98)))] [((1,0),some (.box 40 (cTConf a0))),((3,0),some (.row 3 1 (dat (List.map eI l99))))] ac wd) (((a0.Links.length : Int) - 0).toNat + 1) ⟨0,([] : List Int),hD,h.z⟩ (fun nf ac wd hJ => ?_)
 obtain ⟨n98,l99,hL100,h⟩ := hJ
 cases nf with
 | zero => rw [L_ref14_Loads_l1] at hL100; cases hL100
 | succ nf =>
  rw [L_ref14_Loads_l1] at hL100
  refine wp_seq ?_
  refine qs 47 [] [1,3,4,10] [(1,0),(3,0)] h fun ac wd h => ?_
  rcases i2 hL100 with ⟨hb102,hL100⟩ | ⟨hb102,hL100⟩
  ·
   refine kT h ?_
   refine wp_skip ?_
   change Code.wp Try.prog _ _ _ _
   refine wp_seq ?_
   refine wp_block ?_
   obtain ⟨x106,hx107a,hx107b,hx107c,hx107d,hL100⟩ := aB hL100
   obtain ⟨ha108,hL100⟩ := iT hL100
   refine qe [] [1,3,4] [(1,0),(55,0)] h fun ac wd h => ?_
   change Code.wp Try.prog _ _ _ _
   refine qe [] [1,3,4] [(1,0),(55,0)] h fun ac wd h => ?_
   have h := h.sw (3,0) (55,0) 60
   exact ⟨nf,Nat.lt_succ_self nf,(IntKind.wrap .i64 (n98 + 1)),(l99 ++ [(x106.length : Int)]),hL100,h.z⟩
  ·
   refine kF h ?_
   refine wp_exit ?_
   change Code.wp Try.prog _ _ _ _
   refine qs 49 [] [2] [(3,0)] h fun ac wd h => ?_
   refine wp_ret ?_
   have h := h.sw (1,0) (3,0) 49
   injection hL100 with hL100
   subst hL100
   exact rO h [.tmp 2] [(1,0)]
theorem L_ref14_Loads_ok {a0 : TConf} {r : (List Int)} (hD : L_ref14_Loads a0 = some r) :
  CallH Try.prog 35 [.agg (cTConf a0)] []
   (.one (.d (.sl (List.map eI r)))) [] :=
 (L_ref14_Loads_own hD).fr

end Go.Proofs.Ytifcbecpemaieaa
