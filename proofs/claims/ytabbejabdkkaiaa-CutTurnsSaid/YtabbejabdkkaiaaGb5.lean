/- Functions as typed ones,and that the program's functions answer as these do. No condition. -/
import Derived.Test.YtabbejabdkkaiaaGb4
import Derived.Test.YtabbejabdkkaiaaGd
set_option linter.unusedSimpArgs false
set_option linter.unusedVariables false
set_option maxRecDepth 20000
set_option maxHeartbeats 4000000
namespace Go.Proofs.Ytabbejabdkkaiaa
open Go.RowKit

theorem L_table_place_may_ok {a0 : TPlace} {r : Bool} (hD : L_table_place_may a0 = some r) :
  CallH Try.prog 56 [.agg (cTPlace a0)] []
   (.one (.d (.bool r))) [] := by
 unfold L_table_place_may at hD
 refine rc Try.func56 rfl Try.ntmps56 fun S Φ P0 wb ac h => ?_
 refine qs 3 [] [1] [(1,0)] h fun ac wd h => ?_
 refine qs 5 [] [1,3] [(1,0)] h fun ac wd h => ?_
 refine wp_seq ?_
 refine qs 22 [] [21,22,23] [(1,0),(19,0)] h fun ac wd h => ?_
 refine wp_block ?_
 refine wp_loop_rounds 24 ?_
 refine rounds_succ.mpr ?_
 refine qs 23 [] [21,22,23,24] [(1,0),(19,0)] h fun ac wd h => ?_
 refine wp_seq ?_
 refine kT h ?_
 refine wp_skip ?_
 change Code.wp Try.prog _ _ _ _
 refine wp_seq ?_
 refine wp_block ?_
 refine qs 27 [] [5,21,22,23] [(1,0),(19,0),(25,0)] h fun ac wd h => ?_
 obtain ⟨r161,hc162,hD⟩ := oB hD
 have hc162_29 := (((L_table_place_may_1_own hc162).cls 29).nm (0,0) (1,0)).z
 refine qs 31 [factR hc162_29] [21,22,23,30] [(1,0),(19,0)] h fun ac wd h => ?_
 rcases i2b hD with ⟨hb163,hD⟩ | ⟨hb163,hD⟩
 ·
  refine kF h ?_
  refine wp_skip ?_
  change Code.wp Try.prog _ _ _ _
  refine qe [] [21,22,23] [(1,0),(19,0)] h fun ac wd h => ?_
  change Code.rounds Try.prog _ _ _ _ _
  have h := h.sm 33 [(21,.one (.own (19,0) 5)),(22,.one (.d (.int .i64 5))),(23,.one (.d (.int .i64 1)))]
   [((1,0),some (.box 139 (cTPlace r161.2))),((19,0),some (.row 197 1 ([[.fnp 100 [((1,0),0)]],[.d (.fn 101 [.inl [(.int .i64 a0.State.Mode),(.sl (List.map eI a0.State.Waits)),(.sl (List.map eTPick a0.State.Picks)),(.sl (List.map eTTake a0.State.Takes)),(.int .i64 a0.n),(.int .i64 a0.node.Start),(.sl (List.map eTState a0.node.States)),(.int .i64 a0.g.N),(.sl (List.map eA2I a0.g.Links))]] [])],[.d (.fn 102 [.inl [(.int .i64 a0.State.Mode),(.sl (List.map eI a0.State.Waits)),(.sl (List.map eTPick a0.State.Picks)),(.sl (List.map eTTake a0.State.Takes)),(.int .i64 a0.n),(.int .i64 a0.node.Start),(.sl (List.map eTState a0.node.States)),(.int .i64 a0.g.N),(.sl (List.map eA2I a0.g.Links))]] [])],[.d (.fn 103 [.inl [(.int .i64 a0.State.Mode),(.sl (List.map eI a0.State.Waits)),(.sl (List.map eTPick a0.State.Picks)),(.sl (List.map eTTake a0.State.Takes)),(.int .i64 a0.n),(.int .i64 a0.node.Start),(.sl (List.map eTState a0.node.States)),(.int .i64 a0.g.N),(.sl (List.map eA2I a0.g.Links))]] [])],[.d (.fn 104 [.inl [(.int .i64 a0.State.Mode),(.sl (List.map eI a0.State.Waits)),(.sl (List.map eTPick a0.State.Picks)),(.sl (List.map eTTake a0.State.Takes)),(.int .i64 a0.n),(.int .i64 a0.node.Start),(.sl (List.map eTState a0.node.States)),(.int .i64 a0.g.N),(.sl (List.map eA2I a0.g.Links))]] [])]])))]
  refine rounds_succ.mpr ?_
  refine qs 34 [] [21,22,23,24] [(1,0),(19,0)] h fun ac wd h => ?_
  refine wp_seq ?_
  refine kT h ?_
  refine wp_skip ?_
  change Code.wp Try.prog _ _ _ _
  refine wp_seq ?_
  refine wp_block ?_
  refine qs 38 [] [5,21,22,23] [(1,0),(19,0),(36,0)] h fun ac wd h => ?_
  obtain ⟨r171,hc172,hD⟩ := oB hD
  have hc172k := L_table_place_waits_ok hc172
  refine qs 42 [factE 40 hc172k] [21,22,23,30] [(1,0),(19,0)] h fun ac wd h => ?_
  rcases i2b hD with ⟨hb173,hD⟩ | ⟨hb173,hD⟩
  ·
   refine kF h ?_
   refine wp_skip ?_
   change Code.wp Try.prog _ _ _ _
   refine qe [] [21,22,23] [(1,0),(19,0)] h fun ac wd h => ?_
   change Code.rounds Try.prog _ _ _ _ _
   have h := h.sm 44 [(21,.one (.own (19,0) 5)),(22,.one (.d (.int .i64 5))),(23,.one (.d (.int .i64 2)))]
    [((1,0),some (.box 139 (cTPlace r161.2))),((19,0),some (.row 197 1 ([[.fnp 100 [((1,0),0)]],[.d (.fn 101 [.inl [(.int .i64 a0.State.Mode),(.sl (List.map eI a0.State.Waits)),(.sl (List.map eTPick a0.State.Picks)),(.sl (List.map eTTake a0.State.Takes)),(.int .i64 a0.n),(.int .i64 a0.node.Start),(.sl (List.map eTState a0.node.States)),(.int .i64 a0.g.N),(.sl (List.map eA2I a0.g.Links))]] [])],[.d (.fn 102 [.inl [(.int .i64 a0.State.Mode),(.sl (List.map eI a0.State.Waits)),(.sl (List.map eTPick a0.State.Picks)),(.sl (List.map eTTake a0.State.Takes)),(.int .i64 a0.n),(.int .i64 a0.node.Start),(.sl (List.map eTState a0.node.States)),(.int .i64 a0.g.N),(.sl (List.map eA2I a0.g.Links))]] [])],[.d (.fn 103 [.inl [(.int .i64 a0.State.Mode),(.sl (List.map eI a0.State.Waits)),(.sl (List.map eTPick a0.State.Picks)),(.sl (List.map eTTake a0.State.Takes)),(.int .i64 a0.n),(.int .i64 a0.node.Start),(.sl (List.map eTState a0.node.States)),(.int .i64 a0.g.N),(.sl (List.map eA2I a0.g.Links))]] [])],[.d (.fn 104 [.inl [(.int .i64 a0.State.Mode),(.sl (List.map eI a0.State.Waits)),(.sl (List.map eTPick a0.State.Picks)),(.sl (List.map eTTake a0.State.Takes)),(.int .i64 a0.n),(.int .i64 a0.node.Start),(.sl (List.map eTState a0.node.States)),(.int .i64 a0.g.N),(.sl (List.map eA2I a0.g.Links))]] [])]])))]
   refine rounds_succ.mpr ?_
   refine qs 45 [] [21,22,23,24] [(1,0),(19,0)] h fun ac wd h => ?_
   refine wp_seq ?_
   refine kT h ?_
   refine wp_skip ?_
   change Code.wp Try.prog _ _ _ _
   refine wp_seq ?_
   refine wp_block ?_
   refine qs 49 [] [5,21,22,23] [(1,0),(19,0),(47,0)] h fun ac wd h => ?_
   obtain ⟨r181,hc182,hD⟩ := oB hD
   have hc182k := L_table_place_picks_ok hc182
   refine qs 53 [factE 51 hc182k] [21,22,23,30] [(1,0),(19,0)] h fun ac wd h => ?_
   rcases i2b hD with ⟨hb183,hD⟩ | ⟨hb183,hD⟩
   ·
    refine kF h ?_
    refine wp_skip ?_
    change Code.wp Try.prog _ _ _ _
    refine qe [] [21,22,23] [(1,0),(19,0)] h fun ac wd h => ?_
    change Code.rounds Try.prog _ _ _ _ _
    have h := h.sm 55 [(21,.one (.own (19,0) 5)),(22,.one (.d (.int .i64 5))),(23,.one (.d (.int .i64 3)))]
     [((1,0),some (.box 139 (cTPlace r161.2))),((19,0),some (.row 197 1 ([[.fnp 100 [((1,0),0)]],[.d (.fn 101 [.inl [(.int .i64 a0.State.Mode),(.sl (List.map eI a0.State.Waits)),(.sl (List.map eTPick a0.State.Picks)),(.sl (List.map eTTake a0.State.Takes)),(.int .i64 a0.n),(.int .i64 a0.node.Start),(.sl (List.map eTState a0.node.States)),(.int .i64 a0.g.N),(.sl (List.map eA2I a0.g.Links))]] [])],[.d (.fn 102 [.inl [(.int .i64 a0.State.Mode),(.sl (List.map eI a0.State.Waits)),(.sl (List.map eTPick a0.State.Picks)),(.sl (List.map eTTake a0.State.Takes)),(.int .i64 a0.n),(.int .i64 a0.node.Start),(.sl (List.map eTState a0.node.States)),(.int .i64 a0.g.N),(.sl (List.map eA2I a0.g.Links))]] [])],[.d (.fn 103 [.inl [(.int .i64 a0.State.Mode),(.sl (List.map eI a0.State.Waits)),(.sl (List.map eTPick a0.State.Picks)),(.sl (List.map eTTake a0.State.Takes)),(.int .i64 a0.n),(.int .i64 a0.node.Start),(.sl (List.map eTState a0.node.States)),(.int .i64 a0.g.N),(.sl (List.map eA2I a0.g.Links))]] [])],[.d (.fn 104 [.inl [(.int .i64 a0.State.Mode),(.sl (List.map eI a0.State.Waits)),(.sl (List.map eTPick a0.State.Picks)),(.sl (List.map eTTake a0.State.Takes)),(.int .i64 a0.n),(.int .i64 a0.node.Start),(.sl (List.map eTState a0.node.States)),(.int .i64 a0.g.N),(.sl (List.map eA2I a0.g.Links))]] [])]])))]
    refine rounds_succ.mpr ?_
    refine qs 56 [] [21,22,23,24] [(1,0),(19,0)] h fun ac wd h => ?_
    refine wp_seq ?_
    refine kT h ?_
    refine wp_skip ?_
    change Code.wp Try.prog _ _ _ _
    refine wp_seq ?_
    refine wp_block ?_
    refine qs 60 [] [5,21,22,23] [(1,0),(19,0),(58,0)] h fun ac wd h => ?_
    obtain ⟨r191,hc192,hD⟩ := oB hD
    have hc192k := L_table_place_takes_ok hc192
    refine qs 64 [factE 62 hc192k] [21,22,23,30] [(1,0),(19,0)] h fun ac wd h => ?_
    rcases i2b hD with ⟨hb193,hD⟩ | ⟨hb193,hD⟩
    ·
     refine kF h ?_
     refine wp_skip ?_
     change Code.wp Try.prog _ _ _ _
     refine qe [] [21,22,23] [(1,0),(19,0)] h fun ac wd h => ?_
     change Code.rounds Try.prog _ _ _ _ _
     have h := h.sm 66 [(21,.one (.own (19,0) 5)),(22,.one (.d (.int .i64 5))),(23,.one (.d (.int .i64 4)))]
      [((1,0),some (.box 139 (cTPlace r161.2))),((19,0),some (.row 197 1 ([[.fnp 100 [((1,0),0)]],[.d (.fn 101 [.inl [(.int .i64 a0.State.Mode),(.sl (List.map eI a0.State.Waits)),(.sl (List.map eTPick a0.State.Picks)),(.sl (List.map eTTake a0.State.Takes)),(.int .i64 a0.n),(.int .i64 a0.node.Start),(.sl (List.map eTState a0.node.States)),(.int .i64 a0.g.N),(.sl (List.map eA2I a0.g.Links))]] [])],[.d (.fn 102 [.inl [(.int .i64 a0.State.Mode),(.sl (List.map eI a0.State.Waits)),(.sl (List.map eTPick a0.State.Picks)),(.sl (List.map eTTake a0.State.Takes)),(.int .i64 a0.n),(.int .i64 a0.node.Start),(.sl (List.map eTState a0.node.States)),(.int .i64 a0.g.N),(.sl (List.map eA2I a0.g.Links))]] [])],[.d (.fn 103 [.inl [(.int .i64 a0.State.Mode),(.sl (List.map eI a0.State.Waits)),(.sl (List.map eTPick a0.State.Picks)),(.sl (List.map eTTake a0.State.Takes)),(.int .i64 a0.n),(.int .i64 a0.node.Start),(.sl (List.map eTState a0.node.States)),(.int .i64 a0.g.N),(.sl (List.map eA2I a0.g.Links))]] [])],[.d (.fn 104 [.inl [(.int .i64 a0.State.Mode),(.sl (List.map eI a0.State.Waits)),(.sl (List.map eTPick a0.State.Picks)),(.sl (List.map eTTake a0.State.Takes)),(.int .i64 a0.n),(.int .i64 a0.node.Start),(.sl (List.map eTState a0.node.States)),(.int .i64 a0.g.N),(.sl (List.map eA2I a0.g.Links))]] [])]])))]
     refine rounds_succ.mpr ?_
     refine qs 67 [] [21,22,23,24] [(1,0),(19,0)] h fun ac wd h => ?_
     refine wp_seq ?_
     refine kT h ?_
     refine wp_skip ?_
     change Code.wp Try.prog _ _ _ _
     refine wp_seq ?_
     refine wp_block ?_
     refine qs 71 [] [5,21,22,23] [(1,0),(19,0),(69,0)] h fun ac wd h => ?_
     obtain ⟨r201,hc202,hD⟩ := oB hD
     have hc202k := L_table_place_stays_ok hc202
     refine qs 75 [factE 73 hc202k] [21,22,23,30] [(1,0),(19,0)] h fun ac wd h => ?_
     rcases i2b hD with ⟨hb203,hD⟩ | ⟨hb203,hD⟩
     ·
      refine kF h ?_
      refine wp_skip ?_
      change Code.wp Try.prog _ _ _ _
      refine qe [] [21,22,23] [(1,0),(19,0)] h fun ac wd h => ?_
      change Code.rounds Try.prog _ _ _ _ _
      have h := h.sm 77 [(21,.one (.own (19,0) 5)),(22,.one (.d (.int .i64 5))),(23,.one (.d (.int .i64 5)))]
       [((1,0),some (.box 139 (cTPlace r161.2))),((19,0),some (.row 197 1 ([[.fnp 100 [((1,0),0)]],[.d (.fn 101 [.inl [(.int .i64 a0.State.Mode),(.sl (List.map eI a0.State.Waits)),(.sl (List.map eTPick a0.State.Picks)),(.sl (List.map eTTake a0.State.Takes)),(.int .i64 a0.n),(.int .i64 a0.node.Start),(.sl (List.map eTState a0.node.States)),(.int .i64 a0.g.N),(.sl (List.map eA2I a0.g.Links))]] [])],[.d (.fn 102 [.inl [(.int .i64 a0.State.Mode),(.sl (List.map eI a0.State.Waits)),(.sl (List.map eTPick a0.State.Picks)),(.sl (List.map eTTake a0.State.Takes)),(.int .i64 a0.n),(.int .i64 a0.node.Start),(.sl (List.map eTState a0.node.States)),(.int .i64 a0.g.N),(.sl (List.map eA2I a0.g.Links))]] [])],[.d (.fn 103 [.inl [(.int .i64 a0.State.Mode),(.sl (List.map eI a0.State.Waits)),(.sl (List.map eTPick a0.State.Picks)),(.sl (List.map eTTake a0.State.Takes)),(.int .i64 a0.n),(.int .i64 a0.node.Start),(.sl (List.map eTState a0.node.States)),(.int .i64 a0.g.N),(.sl (List.map eA2I a0.g.Links))]] [])],[.d (.fn 104 [.inl [(.int .i64 a0.State.Mode),(.sl (List.map eI a0.State.Waits)),(.sl (List.map eTPick a0.State.Picks)),(.sl (List.map eTTake a0.State.Takes)),(.int .i64 a0.n),(.int .i64 a0.node.Start),(.sl (List.map eTState a0.node.States)),(.int .i64 a0.g.N),(.sl (List.map eA2I a0.g.Links))]] [])]])))]
      refine rounds_succ.mpr ?_
      refine qs 78 [] [21,22,23,24] [(1,0),(19,0)] h fun ac wd h => ?_
      refine wp_seq ?_
      refine kF h ?_
      refine wp_exit ?_
      change Code.wp Try.prog _ _ _ _
      refine qs 79 [] [2] [] h fun ac wd h => ?_
      refine wp_ret ?_
      injection hD with hD
      subst hD
      exact rE h [.tmp 2]
     ·
      refine kT h ?_
      refine qs 76 [] [2] [] h fun ac wd h => ?_
      refine wp_ret ?_
      injection hD with hD
      subst hD
      exact rE h [.tmp 2]
    ·
     refine kT h ?_
     refine qs 65 [] [2] [] h fun ac wd h => ?_
     refine wp_ret ?_
     injection hD with hD
     subst hD
     exact rE h [.tmp 2]
   ·
    refine kT h ?_
    refine qs 54 [] [2] [] h fun ac wd h => ?_
    refine wp_ret ?_
    injection hD with hD
    subst hD
    exact rE h [.tmp 2]
  ·
   refine kT h ?_
   refine qs 43 [] [2] [] h fun ac wd h => ?_
   refine wp_ret ?_
   injection hD with hD
   subst hD
   exact rE h [.tmp 2]
 ·
  refine kT h ?_
  refine qs 32 [] [2] [] h fun ac wd h => ?_
  refine wp_ret ?_
  injection hD with hD
  subst hD
  exact rE h [.tmp 2]

theorem L_table_Right_ok {a0 : (List TNode)} {a1 : TGraph} {r : Bool} (hD : L_table_Right a0 a1 = some r) :
  CallH Try.prog 17 [.one (.d (.sl (List.map eTNode a0))),.agg (cTGraph a1)] []
   (.one (.d (.bool r))) [] := by
 unfold L_table_Right at hD
 refine rc Try.func17 rfl Try.ntmps17 fun S Φ P0 wb ac h => ?_
 refine qs 3 [] [0,3] [(1,0)] h fun ac wd h => ?_
 refine wp_seq ?_
 obtain ⟨e977,hE978,hD⟩ := Option.bind_eq_some_iff.1 hD
 refine r_seqJ (fun ac wd => ∃ (b976 : Bool),b976 = e977 ∧ SL ⟨wb,S,Φ,P0⟩ 65 13 [(0,.one (.d (.sl (List.map eTNode a0)))),(3,.one (.ptr (1,0) 0)),(18,.one (.d (.bool b976)))] [((1,0),some (.box 25 (cTGraph a1)))] ac wd) ?_ ?_
 ·
  obtain ⟨r979,hc980,hE978⟩ := oB hE978
  rcases i2b hE978 with ⟨hb981,hE978⟩ | ⟨hb981,hE978⟩
  ·
   have hc980k := L_graph_Right_ok hc980
   refine qeg [factE 4 hc980k] [none,none,none,none,some (some 12,false),some (some 12,false),some (some 12,false),some (some 12,false),some (some 12,false),none] [0,3,18] [(1,0)] h fun ac wd h => ?_
   injection hE978 with hE978; subst hE978
   exact ⟨!(decide ((a0.length : Int) = a1.N)),rfl,h.z⟩
  ·
   have hc980k := L_graph_Right_ok hc980
   refine qeg [factE 4 hc980k] [none,none,none,none,some (some 12,false),some (some 12,false),some (some 12,false),some (some 12,false),some (some 12,false),none] [0,3,18] [(1,0)] h fun ac wd h => ?_
   injection hE978 with hE978; subst hE978
   exact ⟨true,rfl,h.z⟩
 ·
  rintro ac wd ⟨b976,rfl,h⟩
  (try dsimp only at hD)
  rcases i2b hD with ⟨hb983,hD⟩ | ⟨hb983,hD⟩
  ·
   refine kT h ?_
   refine qs 14 [] [4] [] h fun ac wd h => ?_
   refine wp_ret ?_
   injection hD with hD
   subst hD
   exact rE h [.tmp 4]
  ·
   refine kF h ?_
   refine wp_skip ?_
   change Code.wp Try.prog _ _ _ _
   refine wp_seq ?_
   refine qs 16 [] [3,19,20,21] [(1,0)] h fun ac wd h => ?_
   refine wp_block ?_
   refine r_while (fun nf ac wd => ∃ (n1782 : Int),L_table_Right_l1 a0 a1 nf n1782 = some r ∧ SL ⟨wb,S,Φ,P0⟩ 65 146 [(3,.one (.ptr (1,0) 0)),(19,.one (.d (.sl (List.map eTNode a0)))),(20,.one (.d (.int .i64 (a0.length : Int)))),(21,.one (.d (.int .i64 n1782)))] [((1,0),some (.box 25 (cTGraph a1)))] ac wd) (((a0.length : Int) - 0).toNat + 1) ⟨0,hD,h.z⟩ (fun nf ac wd hJ => ?_)
   obtain ⟨n1782,hL1783,h⟩ := hJ
   cases nf with
   | zero => rw [L_table_Right_l1] at hL1783; cases hL1783
   | succ nf =>
    rw [L_table_Right_l1] at hL1783
    refine qs 147 [] [3,19,20,21,22] [(1,0)] h fun ac wd h => ?_
    refine wp_seq ?_
    rcases i2 hL1783 with ⟨hb1785,hL1783⟩ | ⟨hb1785,hL1783⟩
    ·
     refine kT h ?_
     refine wp_skip ?_
     change Code.wp Try.prog _ _ _ _
     obtain ⟨e1863,hE1864,hL1783⟩ := Option.bind_eq_some_iff.1 hL1783
     refine r_seqJ (fun ac wd => (.inl ()) = e1863 ∧ SL ⟨wb,S,Φ,P0⟩ 65 209 [(3,.one (.ptr (1,0) 0)),(19,.one (.d (.sl (List.map eTNode a0)))),(20,.one (.d (.int .i64 (a0.length : Int)))),(21,.one (.d (.int .i64 n1782)))] [((1,0),some (.box 25 (cTGraph a1)))] ac wd) ?_ ?_
     ·
      refine wp_block ?_
      obtain ⟨x1867,hx1868a,hx1868b,hx1868c,hx1868d,hE1864⟩ := aB hE1864
      refine qs 153 [] [3,5,6,19,20,21] [(1,0),(150,0)] h fun ac wd h => ?_
      refine wp_seq ?_
      obtain ⟨e1873,hE1874,hE1864⟩ := Option.bind_eq_some_iff.1 hE1864
      refine r_seqJ (fun ac wd => ∃ (b1872 : Bool),b1872 = e1873 ∧ SL ⟨wb,S,Φ,P0⟩ 65 176 [(3,.one (.ptr (1,0) 0)),(5,.one (.d (.int .i64 n1782))),(6,.one (.ptr (150,0) 0)),(19,.one (.d (.sl (List.map eTNode a0)))),(20,.one (.d (.int .i64 (a0.length : Int)))),(21,.one (.d (.int .i64 n1782))),(48,.one (.d (.bool b1872)))] [((1,0),some (.box 25 (cTGraph a1))),((150,0),some (.box 38 (cTNode x1867)))] ac wd) ?_ ?_
      ·
       rcases i2 hE1874 with ⟨hb1875,hE1874⟩ | ⟨hb1875,hE1874⟩
       ·
        refine qeg [] [none,none,none,none,none,some (some 30,false),some (some 30,false),some (some 30,false),some (some 30,false),none,none,some (some 36,false),some (some 36,false),some (some 36,false),none,none,some (some 41,false),some (some 41,false),some (some 41,false),some (some 41,false),some (some 41,false),some (some 41,false),none] [3,5,6,19,20,21,48] [(1,0),(150,0)] h fun ac wd h => ?_
        injection hE1874 with hE1874; subst hE1874
        exact ⟨true,rfl,h.z⟩
       ·
        rcases i2 hE1874 with ⟨hb1876,hE1874⟩ | ⟨hb1876,hE1874⟩
        ·
         refine qeg [] [none,none,none,none,none,some (some 30,false),some (some 30,false),some (some 30,false),some (some 30,false),none,none,some (some 36,false),some (some 36,false),some (some 36,false),none,none,some (some 41,false),some (some 41,false),some (some 41,false),some (some 41,false),some (some 41,false),some (some 41,false),none] [3,5,6,19,20,21,48] [(1,0),(150,0)] h fun ac wd h => ?_
         injection hE1874 with hE1874; subst hE1874
         exact ⟨true,rfl,h.z⟩
        ·
         rcases i2 hE1874 with ⟨hb1877,hE1874⟩ | ⟨hb1877,hE1874⟩
         ·
          refine qeg [] [none,none,none,none,none,some (some 30,false),some (some 30,false),some (some 30,false),some (some 30,false),none,none,some (some 36,false),some (some 36,false),some (some 36,false),none,none,some (some 41,false),some (some 41,false),some (some 41,false),some (some 41,false),some (some 41,false),some (some 41,false),none] [3,5,6,19,20,21,48] [(1,0),(150,0)] h fun ac wd h => ?_
          injection hE1874 with hE1874; subst hE1874
          exact ⟨true,rfl,h.z⟩
         ·
          refine qeg [] [none,none,none,none,none,some (some 30,false),some (some 30,false),some (some 30,false),some (some 30,false),none,none,some (some 36,false),some (some 36,false),some (some 36,false),none,none,some (some 41,false),some (some 41,false),some (some 41,false),some (some 41,false),some (some 41,false),some (some 41,false),none] [3,5,6,19,20,21,48] [(1,0),(150,0)] h fun ac wd h => ?_
          injection hE1874 with hE1874; subst hE1874
          exact ⟨decide (x1867.Start ≥ (x1867.States.length : Int)),rfl,h.z⟩
      ·
       rintro ac wd ⟨b1872,rfl,h⟩
       (try dsimp only at hE1864)
       rcases i2b hE1864 with ⟨hb1879,hE1864⟩ | ⟨hb1879,hE1864⟩
       ·
        refine kT h ?_
        refine qs 177 [] [4] [] h fun ac wd h => ?_
        refine wp_ret ?_
        injection hE1864 with hE1864
        subst hE1864
        (try dsimp only at hL1783)
        injection hL1783 with hL1783
        subst hL1783
        exact rE h [.tmp 4]
       ·
        refine kF h ?_
        refine wp_skip ?_
        change Code.wp Try.prog _ _ _ _
        refine qs 180 [] [3,5,6,19,20,21,50,51,52] [(1,0),(150,0)] h fun ac wd h => ?_
        obtain ⟨e1942,hE1943,hE1864⟩ := Option.bind_eq_some_iff.1 hE1864
        refine r_meetQ (fun ac wd => (.inl ()) = e1942 ∧ SL ⟨wb,S,Φ,P0⟩ 65 209 [(3,.one (.ptr (1,0) 0)),(19,.one (.d (.sl (List.map eTNode a0)))),(20,.one (.d (.int .i64 (a0.length : Int)))),(21,.one (.d (.int .i64 n1782)))] [((1,0),some (.box 25 (cTGraph a1)))] ac wd) ?_ ?_
        ·
         refine wp_block ?_
         refine r_while (fun nf ac wd => ∃ (n1985 : Int),L_table_Right_l2 a1 n1782 x1867 nf n1985 = some e1942 ∧ SL ⟨wb,S,Φ,P0⟩ 65 208 [(3,.one (.ptr (1,0) 0)),(5,.one (.d (.int .i64 n1782))),(6,.one (.ptr (150,0) 0)),(19,.one (.d (.sl (List.map eTNode a0)))),(20,.one (.d (.int .i64 (a0.length : Int)))),(21,.one (.d (.int .i64 n1782))),(50,.one (.d (.sl (List.map eTState x1867.States)))),(51,.one (.d (.int .i64 (x1867.States.length : Int)))),(52,.one (.d (.int .i64 n1985)))] [((1,0),some (.box 25 (cTGraph a1))),((150,0),some (.box 38 (cTNode x1867)))] ac wd) (((x1867.States.length : Int) - 0).toNat + 1) ⟨0,hE1943,h.z⟩ (fun nf ac wd hJ => ?_)
         obtain ⟨n1985,hL1986,h⟩ := hJ
         cases nf with
         | zero => rw [L_table_Right_l2] at hL1986; cases hL1986
         | succ nf =>
          rw [L_table_Right_l2] at hL1986
          refine qs 209 [] [3,5,6,19,20,21,50,51,52,53] [(1,0),(150,0)] h fun ac wd h => ?_
          refine wp_seq ?_
          rcases i2 hL1986 with ⟨hb1988,hL1986⟩ | ⟨hb1988,hL1986⟩
          ·
           refine kT h ?_
           refine wp_skip ?_
           change Code.wp Try.prog _ _ _ _
           refine wp_seq ?_
           refine wp_block ?_
           obtain ⟨x2000,hx2001a,hx2001b,hx2001c,hx2001d,hL1986⟩ := aB hL1986
           refine qs 213 [] [3,5,6,8,19,20,21,50,51,52] [(1,0),(150,0),(211,0)] h fun ac wd h => ?_
           obtain ⟨r2004,hc2005,hL1986⟩ := oB hL1986
           have hc2005k := L_table_place_may_ok hc2005
           refine qs 220 [factE 218 hc2005k] [3,5,6,19,20,21,50,51,52,62] [(1,0),(150,0)] h fun ac wd h => ?_
           rcases i2b hL1986 with ⟨hb2006,hL1986⟩ | ⟨hb2006,hL1986⟩
           ·
            refine kF h ?_
            refine wp_skip ?_
            change Code.wp Try.prog _ _ _ _
            refine qe [] [3,5,6,19,20,21,50,51,52] [(1,0),(150,0)] h fun ac wd h => ?_
            exact ⟨nf,Nat.lt_succ_self nf,(IntKind.wrap .i64 (n1985 + 1)),hL1986,h.z⟩
           ·
            refine kT h ?_
            refine qs 221 [] [4] [] h fun ac wd h => ?_
            refine wp_ret ?_
            injection hL1986 with hL1986
            subst hL1986
            (try dsimp only at hE1864)
            injection hE1864 with hE1864
            subst hE1864
            (try dsimp only at hL1783)
            injection hL1783 with hL1783
            subst hL1783
            exact rE h [.tmp 4]
          ·
           refine kF h ?_
           refine wp_exit ?_
           injection hL1986 with hL1986; subst hL1986
           exact ⟨rfl,h.z⟩
        ·
         rintro ac wd ⟨rfl,h⟩
         (try dsimp only at hE1864)
         injection hE1864 with hE1864; subst hE1864
         exact ⟨rfl,h.z⟩
     ·
      rintro ac wd ⟨rfl,h⟩
      (try dsimp only at hL1783)
      refine qe [] [3,19,20,21] [(1,0)] h fun ac wd h => ?_
      exact ⟨nf,Nat.lt_succ_self nf,(IntKind.wrap .i64 (n1782 + 1)),hL1783,h.z⟩
    ·
     refine kF h ?_
     refine wp_exit ?_
     change Code.wp Try.prog _ _ _ _
     refine qs 148 [] [4] [] h fun ac wd h => ?_
     refine wp_ret ?_
     injection hL1783 with hL1783
     subst hL1783
     exact rE h [.tmp 4]

theorem L_plain_may_ok {a0 : (List TMsg)} {a1 : Int} {r : Bool} (hD : L_plain_may a0 a1 = some r) :
  CallH Try.prog 92 [.one (.d (.sl (List.map eTMsg a0))),.one (.d (.int .i64 a1))] []
   (.one (.d (.bool r))) [] := by
 unfold L_plain_may at hD
 refine rc Try.func92 rfl Try.ntmps92 fun S Φ P0 wb ac h => ?_
 refine qs 2 [] [0,1] [] h fun ac wd h => ?_
 refine qs 3 [] [0,1,5] [] h fun ac wd h => ?_
 refine wp_seq ?_
 refine qs 6 [] [1,5,8,9,10] [] h fun ac wd h => ?_
 refine wp_block ?_
 refine r_while (fun nf ac wd => ∃ (n375 : Int) (n376 : Int),L_plain_may_l1 a0 a1 nf n375 n376 = some r ∧ SL ⟨wb,S,Φ,P0⟩ 43 66 [(1,.one (.d (.int .i64 a1))),(5,.one (.d (.int .i64 n375))),(8,.one (.d (.sl (List.map eTMsg a0)))),(9,.one (.d (.int .i64 (a0.length : Int)))),(10,.one (.d (.int .i64 n376)))] [] ac wd) (((a0.length : Int) - 0).toNat + 1) ⟨0,0,hD,h.z⟩ (fun nf ac wd hJ => ?_)
 obtain ⟨n375,n376,hL377,h⟩ := hJ
 cases nf with
 | zero => rw [L_plain_may_l1] at hL377; cases hL377
 | succ nf =>
  rw [L_plain_may_l1] at hL377
  refine qs 67 [] [1,5,8,9,10,11] [] h fun ac wd h => ?_
  refine wp_seq ?_
  rcases i2 hL377 with ⟨hb379,hL377⟩ | ⟨hb379,hL377⟩
  ·
   refine kT h ?_
   refine wp_skip ?_
   change Code.wp Try.prog _ _ _ _
   refine wp_seq ?_
   refine wp_block ?_
   obtain ⟨x397,hx398a,hx398b,hx398c,hx398d,hL377⟩ := aB hL377
   refine qs 71 [] [1,5,7,8,9,10] [(69,0)] h fun ac wd h => ?_
   refine wp_seq ?_
   obtain ⟨e403,hE404,hL377⟩ := Option.bind_eq_some_iff.1 hL377
   refine r_seqJ (fun ac wd => ∃ (b402 : Bool),b402 = e403 ∧ SL ⟨wb,S,Φ,P0⟩ 43 91 [(1,.one (.d (.int .i64 a1))),(7,.one (.ptr (69,0) 0)),(8,.one (.d (.sl (List.map eTMsg a0)))),(9,.one (.d (.int .i64 (a0.length : Int)))),(10,.one (.d (.int .i64 n376))),(33,.one (.d (.bool b402)))] [((69,0),some (.box 59 (cTMsg x397)))] ac wd) ?_ ?_
   ·
    rcases i2 hE404 with ⟨hb405,hE404⟩ | ⟨hb405,hE404⟩
    ·
     refine qeg [] [none,none,none,none,none,some (some 18,false),some (some 18,false),some (some 18,false),some (some 18,false),none,none,some (some 24,false),some (some 24,false),some (some 24,false),none,none,some (some 29,false),some (some 29,false),some (some 29,false),none] [1,7,8,9,10,33] [(69,0)] h fun ac wd h => ?_
     injection hE404 with hE404; subst hE404
     exact ⟨true,rfl,h.z⟩
    ·
     rcases i2 hE404 with ⟨hb406,hE404⟩ | ⟨hb406,hE404⟩
     ·
      refine qeg [] [none,none,none,none,none,some (some 18,false),some (some 18,false),some (some 18,false),some (some 18,false),none,none,some (some 24,false),some (some 24,false),some (some 24,false),none,none,some (some 29,false),some (some 29,false),some (some 29,false),none] [1,7,8,9,10,33] [(69,0)] h fun ac wd h => ?_
      injection hE404 with hE404; subst hE404
      exact ⟨true,rfl,h.z⟩
     ·
      rcases i2 hE404 with ⟨hb407,hE404⟩ | ⟨hb407,hE404⟩
      ·
       refine qeg [] [none,none,none,none,none,some (some 18,false),some (some 18,false),some (some 18,false),some (some 18,false),none,none,some (some 24,false),some (some 24,false),some (some 24,false),none,none,some (some 29,false),some (some 29,false),some (some 29,false),none] [1,7,8,9,10,33] [(69,0)] h fun ac wd h => ?_
       injection hE404 with hE404; subst hE404
       exact ⟨true,rfl,h.z⟩
      ·
       refine qeg [] [none,none,none,none,none,some (some 18,false),some (some 18,false),some (some 18,false),some (some 18,false),none,none,some (some 24,false),some (some 24,false),some (some 24,false),none,none,some (some 29,false),some (some 29,false),some (some 29,false),none] [1,7,8,9,10,33] [(69,0)] h fun ac wd h => ?_
       injection hE404 with hE404; subst hE404
       exact ⟨decide (x397.Letter ≥ 4),rfl,h.z⟩
   ·
    rintro ac wd ⟨b402,rfl,h⟩
    (try dsimp only at hL377)
    rcases i2b hL377 with ⟨hb409,hL377⟩ | ⟨hb409,hL377⟩
    ·
     refine kT h ?_
     refine qs 92 [] [4] [] h fun ac wd h => ?_
     refine wp_ret ?_
     injection hL377 with hL377
     subst hL377
     exact rE h [.tmp 4]
    ·
     refine kF h ?_
     refine wp_skip ?_
     change Code.wp Try.prog _ _ _ _
     refine qe [] [1,5,8,9,10] [] h fun ac wd h => ?_
     change Code.wp Try.prog _ _ _ _
     refine qe [] [1,5,8,9,10] [] h fun ac wd h => ?_
     exact ⟨nf,Nat.lt_succ_self nf,x397.Seq,(IntKind.wrap .i64 (n376 + 1)),hL377,h.z⟩
  ·
   refine kF h ?_
   refine wp_exit ?_
   change Code.wp Try.prog _ _ _ _
   obtain ⟨e412,hE413,hL377⟩ := Option.bind_eq_some_iff.1 hL377
   refine r_seqJ (fun ac wd => ∃ (b411 : Bool),b411 = e412 ∧ SL ⟨wb,S,Φ,P0⟩ 43 74 [(4,.one (.d (.bool b411)))] [] ac wd) ?_ ?_
   ·
    rcases i2 hE413 with ⟨hb414,hE413⟩ | ⟨hb414,hE413⟩
    ·
     refine qeg [] [none,none,none,some (some 39,true),some (some 39,true),none,none] [4] [] h fun ac wd h => ?_
     injection hE413 with hE413; subst hE413
     exact ⟨decide (a1 ≤ 500),rfl,h.z⟩
    ·
     refine qeg [] [none,none,none,some (some 39,true),some (some 39,true),none,none] [4] [] h fun ac wd h => ?_
     injection hE413 with hE413; subst hE413
     exact ⟨false,rfl,h.z⟩
   ·
    rintro ac wd ⟨b411,rfl,h⟩
    (try dsimp only at hL377)
    refine wp_ret ?_
    injection hL377 with hL377
    subst hL377
    exact rE h [.tmp 4]

theorem L_plain_Right_ok {a0 : TApp} {a1 : TConf} {r : Bool} (hD : L_plain_Right a0 a1 = some r) :
  CallH Try.prog 46 [.agg (cTApp a0),.agg (cTConf a1)] []
   (.one (.d (.bool r))) [] := by
 unfold L_plain_Right at hD
 refine rc Try.func46 rfl Try.ntmps46 fun S Φ P0 wb ac h => ?_
 refine qs 4 [] [2,3] [(1,0),(2,0)] h fun ac wd h => ?_
 refine wp_seq ?_
 obtain ⟨e384,hE385,hD⟩ := Option.bind_eq_some_iff.1 hD
 refine r_seqJ (fun ac wd => ∃ (b383 : Bool),b383 = e384 ∧ SL ⟨wb,S,Φ,P0⟩ 83 39 [(2,.one (.ptr (1,0) 0)),(3,.one (.ptr (2,0) 0)),(43,.one (.d (.bool b383)))] [((1,0),some (.box 53 (cTApp a0))),((2,0),some (.box 104 (cTConf a1)))] ac wd) ?_ ?_
 ·
  obtain ⟨r386,hc387,hE385⟩ := oB hE385
  rcases i2b hE385 with ⟨hb388,hE385⟩ | ⟨hb388,hE385⟩
  ·
   rcases i2e hE385 with ⟨hb389,hE385⟩ | ⟨hb389,hE385⟩
   ·
    rcases i2e hE385 with ⟨hb390,hE385⟩ | ⟨hb390,hE385⟩
    ·
     have hc387k := L_table_Right_ok hc387
     refine qeg [factE 8 hc387k] [none,none,none,none,none,none,none,some (some 15,false),some (some 15,false),some (some 15,false),some (some 15,false),some (some 15,false),some (some 15,false),some (some 15,false),none,none,some (some 24,false),some (some 24,false),some (some 24,false),some (some 24,false),some (some 24,false),some (some 24,false),some (some 24,false),some (some 24,false),none,none,some (some 34,false),some (some 34,false),some (some 34,false),some (some 34,false),some (some 34,false),some (some 34,false),some (some 34,false),some (some 34,false),none] [2,3,43] [(1,0),(2,0)] h fun ac wd h => ?_
     injection hE385 with hE385; subst hE385
     exact ⟨!(decide ((a1.Sent.length : Int) = (a0.G.Links.length : Int))),rfl,h.z⟩
    ·
     have hc387k := L_table_Right_ok hc387
     refine qeg [factE 8 hc387k] [none,none,none,none,none,none,none,some (some 15,false),some (some 15,false),some (some 15,false),some (some 15,false),some (some 15,false),some (some 15,false),some (some 15,false),none,none,some (some 24,false),some (some 24,false),some (some 24,false),some (some 24,false),some (some 24,false),some (some 24,false),some (some 24,false),some (some 24,false),none,none,some (some 34,false),some (some 34,false),some (some 34,false),some (some 34,false),some (some 34,false),some (some 34,false),some (some 34,false),some (some 34,false),none] [2,3,43] [(1,0),(2,0)] h fun ac wd h => ?_
     injection hE385 with hE385; subst hE385
     exact ⟨true,rfl,h.z⟩
   ·
    have hc387k := L_table_Right_ok hc387
    refine qeg [factE 8 hc387k] [none,none,none,none,none,none,none,some (some 15,false),some (some 15,false),some (some 15,false),some (some 15,false),some (some 15,false),some (some 15,false),some (some 15,false),none,none,some (some 24,false),some (some 24,false),some (some 24,false),some (some 24,false),some (some 24,false),some (some 24,false),some (some 24,false),some (some 24,false),none,none,some (some 34,false),some (some 34,false),some (some 34,false),some (some 34,false),some (some 34,false),some (some 34,false),some (some 34,false),some (some 34,false),none] [2,3,43] [(1,0),(2,0)] h fun ac wd h => ?_
    injection hE385 with hE385; subst hE385
    exact ⟨true,rfl,h.z⟩
  ·
   have hc387k := L_table_Right_ok hc387
   refine qeg [factE 8 hc387k] [none,none,none,none,none,none,none,some (some 15,false),some (some 15,false),some (some 15,false),some (some 15,false),some (some 15,false),some (some 15,false),some (some 15,false),none,none,some (some 24,false),some (some 24,false),some (some 24,false),some (some 24,false),some (some 24,false),some (some 24,false),some (some 24,false),some (some 24,false),none,none,some (some 34,false),some (some 34,false),some (some 34,false),some (some 34,false),some (some 34,false),some (some 34,false),some (some 34,false),some (some 34,false),none] [2,3,43] [(1,0),(2,0)] h fun ac wd h => ?_
   injection hE385 with hE385; subst hE385
   exact ⟨true,rfl,h.z⟩
 ·
  rintro ac wd ⟨b383,rfl,h⟩
  (try dsimp only at hD)
  rcases i2b hD with ⟨hb392,hD⟩ | ⟨hb392,hD⟩
  ·
   refine kT h ?_
   refine qs 40 [] [4] [] h fun ac wd h => ?_
   refine wp_ret ?_
   injection hD with hD
   subst hD
   exact rE h [.tmp 4]
  ·
   refine kF h ?_
   refine wp_skip ?_
   change Code.wp Try.prog _ _ _ _
   refine wp_seq ?_
   refine qs 43 [] [2,3,45,46,47] [(1,0),(2,0)] h fun ac wd h => ?_
   obtain ⟨e485,hE486,hD⟩ := Option.bind_eq_some_iff.1 hD
   refine r_meet (fun ac wd => (.inl ()) = e485 ∧ SL ⟨wb,S,Φ,P0⟩ 83 86 [(3,.one (.ptr (2,0) 0))] [((2,0),some (.box 104 (cTConf a1)))] ac wd) ?_ ?_
   ·
    refine wp_block ?_
    refine r_while (fun nf ac wd => ∃ (n548 : Int),L_plain_Right_l1 a0 a1 nf n548 = some e485 ∧ SL ⟨wb,S,Φ,P0⟩ 83 85 [(2,.one (.ptr (1,0) 0)),(3,.one (.ptr (2,0) 0)),(45,.one (.d (.sl (List.map eI a1.States)))),(46,.one (.d (.int .i64 (a1.States.length : Int)))),(47,.one (.d (.int .i64 n548)))] [((1,0),some (.box 53 (cTApp a0))),((2,0),some (.box 104 (cTConf a1)))] ac wd) (((a1.States.length : Int) - 0).toNat + 1) ⟨0,hE486,h.z⟩ (fun nf ac wd hJ => ?_)
    obtain ⟨n548,hL549,h⟩ := hJ
    cases nf with
    | zero => rw [L_plain_Right_l1] at hL549; cases hL549
    | succ nf =>
     rw [L_plain_Right_l1] at hL549
     refine qs 86 [] [2,3,45,46,47,48] [(1,0),(2,0)] h fun ac wd h => ?_
     refine wp_seq ?_
     rcases i2 hL549 with ⟨hb551,hL549⟩ | ⟨hb551,hL549⟩
     ·
      refine kT h ?_
      refine wp_skip ?_
      change Code.wp Try.prog _ _ _ _
      refine wp_seq ?_
      refine wp_block ?_
      obtain ⟨x568,hx569a,hx569b,hx569c,hx569d,hL549⟩ := aB hL549
      refine qs 91 [] [2,3,5,6,45,46,47] [(1,0),(2,0)] h fun ac wd h => ?_
      obtain ⟨e574,hE575,hL549⟩ := Option.bind_eq_some_iff.1 hL549
      refine r_seqJ (fun ac wd => ∃ (b573 : Bool),b573 = e574 ∧ SL ⟨wb,S,Φ,P0⟩ 83 104 [(2,.one (.ptr (1,0) 0)),(3,.one (.ptr (2,0) 0)),(45,.one (.d (.sl (List.map eI a1.States)))),(46,.one (.d (.int .i64 (a1.States.length : Int)))),(47,.one (.d (.int .i64 n548))),(64,.one (.d (.bool b573)))] [((1,0),some (.box 53 (cTApp a0))),((2,0),some (.box 104 (cTConf a1)))] ac wd) ?_ ?_
      ·
       rcases i2 hE575 with ⟨hb576,hE575⟩ | ⟨hb576,hE575⟩
       ·
        refine qeg [] [none,none,none,some (some 54,false),some (some 54,false),some (some 54,false),some (some 54,false),some (some 54,false),some (some 54,false),some (some 54,false),some (some 54,false),some (some 54,false),none] [2,3,45,46,47,64] [(1,0),(2,0)] h fun ac wd h => ?_
        injection hE575 with hE575; subst hE575
        exact ⟨true,rfl,h.z⟩
       ·
        obtain ⟨x577,hx578a,hx578b,hx578c,hx578d,hE575⟩ := aB hE575
        refine qeg [] [none,none,none,some (some 54,false),some (some 54,false),some (some 54,false),some (some 54,false),some (some 54,false),some (some 54,false),some (some 54,false),some (some 54,false),some (some 54,false),none] [2,3,45,46,47,64] [(1,0),(2,0)] h fun ac wd h => ?_
        injection hE575 with hE575; subst hE575
        exact ⟨decide (x568 ≥ (x577.States.length : Int)),rfl,h.z⟩
      ·
       rintro ac wd ⟨b573,rfl,h⟩
       (try dsimp only at hL549)
       rcases i2b hL549 with ⟨hb579,hL549⟩ | ⟨hb579,hL549⟩
       ·
        refine kT h ?_
        refine qs 105 [] [4] [] h fun ac wd h => ?_
        refine wp_ret ?_
        injection hL549 with hL549
        subst hL549
        (try dsimp only at hD)
        injection hD with hD
        subst hD
        exact rE h [.tmp 4]
       ·
        refine kF h ?_
        refine wp_skip ?_
        change Code.wp Try.prog _ _ _ _
        refine qe [] [2,3,45,46,47] [(1,0),(2,0)] h fun ac wd h => ?_
        exact ⟨nf,Nat.lt_succ_self nf,(IntKind.wrap .i64 (n548 + 1)),hL549,h.z⟩
     ·
      refine kF h ?_
      refine wp_exit ?_
      injection hL549 with hL549; subst hL549
      exact ⟨rfl,h.z⟩
   ·
    rintro ac wd ⟨rfl,h⟩
    (try dsimp only at hD)
    refine wp_seq ?_
    refine qs 90 [] [3,67,68,69] [(2,0)] h fun ac wd h => ?_
    refine wp_block ?_
    refine r_while (fun nf ac wd => ∃ (n723 : Int),L_plain_Right_l2 a1 nf n723 = some r ∧ SL ⟨wb,S,Φ,P0⟩ 83 122 [(3,.one (.ptr (2,0) 0)),(67,.one (.d (.sl (List.map (eL eTMsg) a1.Links)))),(68,.one (.d (.int .i64 (a1.Links.length : Int)))),(69,.one (.d (.int .i64 n723)))] [((2,0),some (.box 104 (cTConf a1)))] ac wd) (((a1.Links.length : Int) - 0).toNat + 1) ⟨0,hD,h.z⟩ (fun nf ac wd hJ => ?_)
    obtain ⟨n723,hL724,h⟩ := hJ
    cases nf with
    | zero => rw [L_plain_Right_l2] at hL724; cases hL724
    | succ nf =>
     rw [L_plain_Right_l2] at hL724
     refine qs 123 [] [3,67,68,69,70] [(2,0)] h fun ac wd h => ?_
     refine wp_seq ?_
     rcases i2 hL724 with ⟨hb726,hL724⟩ | ⟨hb726,hL724⟩
     ·
      refine kT h ?_
      refine wp_skip ?_
      change Code.wp Try.prog _ _ _ _
      refine wp_seq ?_
      refine wp_block ?_
      obtain ⟨x742,hx743a,hx743b,hx743c,hx743d,hL724⟩ := aB hL724
      refine qs 128 [] [3,7,8,67,68,69] [(2,0)] h fun ac wd h => ?_
      obtain ⟨x748,hx749a,hx749b,hx749c,hx749d,hL724⟩ := aB hL724
      obtain ⟨r750,hc751,hL724⟩ := oB hL724
      have hc751k := L_plain_may_ok hc751
      refine qs 136 [factE 134 hc751k] [3,67,68,69,81] [(2,0)] h fun ac wd h => ?_
      rcases i2b hL724 with ⟨hb752,hL724⟩ | ⟨hb752,hL724⟩
      ·
       refine kF h ?_
       refine wp_skip ?_
       change Code.wp Try.prog _ _ _ _
       refine qe [] [3,67,68,69] [(2,0)] h fun ac wd h => ?_
       exact ⟨nf,Nat.lt_succ_self nf,(IntKind.wrap .i64 (n723 + 1)),hL724,h.z⟩
      ·
       refine kT h ?_
       refine qs 137 [] [4] [] h fun ac wd h => ?_
       refine wp_ret ?_
       injection hL724 with hL724
       subst hL724
       exact rE h [.tmp 4]
     ·
      refine kF h ?_
      refine wp_exit ?_
      change Code.wp Try.prog _ _ _ _
      refine qs 124 [] [4] [] h fun ac wd h => ?_
      refine wp_ret ?_
      injection hL724 with hL724
      subst hL724
      exact rE h [.tmp 4]

theorem L_cut_sides_own {a0 : TGraph} {a1 : (List Int)} {r : (List Int)} (hD : L_cut_sides a0 a1 = some r) :
  CallH Try.prog 89 [.agg (cTGraph a0),.one (.d (.sl (List.map eI a1)))] []
   (.one (.fnp 118 [((1,0),0),((1,1),0)])) [((1,0),some (.box 25 (cTGraph a0))),((1,1),some (.box 39 [.own (1,2) r.length])),((1,2),some (.row 3 1 (dat (List.map eI r))))] := by
 unfold L_cut_sides at hD
 refine rc Try.func89 rfl Try.ntmps89 fun S Φ P0 wb ac h => ?_
 refine qs 3 [] [1,2] [(1,0)] h fun ac wd h => ?_
 obtain ⟨ha67,hD⟩ := iT hD
 obtain ⟨ha68,hD⟩ := iT hD
 obtain ⟨ha69,hD⟩ := iT hD
 refine qs 8 [] [1,2,5] [(1,0),(5,0),(6,0)] h fun ac wd h => ?_
 obtain ⟨v73,hv74,hD⟩ := vB hD
 have h := h.same [1,2,5] [(1,0),(5,0),(6,0)] 8 [(1,.one (.d (.sl (List.map eI a1)))),(2,.one (.ptr (1,0) 0)),(5,.one (.ptr (6,0) 0))]
  [((1,0),some (.box 25 (cTGraph a0))),((5,0),some (.row 3 1 (dat (List.map eI v73)))),((6,0),some (.box 39 [.own (5,0) v73.length]))]
  (by simp only [EZ,simprocAttr,ha67,ha68,ha69,dat_open,← hv74] <;> rfl)
 have hl75 : ((a1.take v73.length) ++ v73.drop (a1.take v73.length).length).length = v73.length := by simp only [List.append_assoc,List.length_append,List.length_take,List.length_drop]; omega
 simp only [List.append_assoc,List.length_append,List.length_take,List.length_drop] at hl75
 refine qs 11 [] [2,5] [(1,0),(5,0),(6,0)] h fun ac wd h => ?_
 refine wp_seq ?_
 obtain ⟨v78,hv79,hD⟩ := vB hD
 have h := h.same [2,5] [(1,0),(5,0),(6,0)] 11 [(2,.one (.ptr (1,0) 0)),(5,.one (.ptr (6,0) 0))]
  [((1,0),some (.box 25 (cTGraph a0))),((5,0),some (.row 3 1 (dat (List.map eI v78)))),((6,0),some (.box 39 [.own (5,0) v78.length]))]
  (by simp only [EZ,simprocAttr,ha67,ha68,ha69,hl75,dat_open,← hv79] <;> rfl)
 refine qs 14 [] [2,5,14,15] [(1,0),(5,0),(6,0)] h fun ac wd h => ?_
 refine wp_block ?_
 refine r_while (fun nf ac wd => ∃ (n116 : Int) (l117 : List Int),L_cut_sides_l1 v78 nf n116 l117 = some r ∧ SL ⟨wb,S,Φ,P0⟩ 28 42 [(2,.one (.ptr (1,0) 0)),(5,.one (.ptr (6,0) 0)),(14,.one (.d (.int .i64 (v78.length : Int)))),(15,.one (.d (.int .i64 n116)))] [((1,0),some (.box 25 (cTGraph a0))),((5,0),some (.row 3 1 (dat (List.map eI l117)))),((6,0),some (.box 39 [.own (5,0) l117.length]))] ac wd) (((v78.length : Int) - 0).toNat + 1) ⟨0,v78,hD,h.z⟩ (fun nf ac wd hJ => ?_)
 obtain ⟨n116,l117,hL118,h⟩ := hJ
 cases nf with
 | zero => rw [L_cut_sides_l1] at hL118; cases hL118
 | succ nf =>
  rw [L_cut_sides_l1] at hL118
  refine qs 43 [] [2,5,14,15,16] [(1,0),(5,0),(6,0)] h fun ac wd h => ?_
  refine wp_seq ?_
  rcases i2 hL118 with ⟨hb120,hL118⟩ | ⟨hb120,hL118⟩
  ·
   refine kT h ?_
   refine wp_skip ?_
   change Code.wp Try.prog _ _ _ _
   refine wp_seq ?_
   refine wp_block ?_
   refine qs 45 [] [2,5,6,14,15] [(1,0),(5,0),(6,0)] h fun ac wd h => ?_
   obtain ⟨x123,hx124a,hx124b,hx124c,hx124d,hL118⟩ := aB hL118
   refine de [] [2,5,14,15] [(1,0),(5,0),(6,0)] h fun ac wd h => ?_
   change Code.wp Try.prog _ _ _ _
   refine qe [] [2,5,14,15] [(1,0),(5,0),(6,0)] h fun ac wd h => ?_
   exact ⟨nf,Nat.lt_succ_self nf,(IntKind.wrap .i64 (n116 + 1)),(l117.set n116.toNat (max x123 0)),hL118,h.z⟩
  ·
   refine kF h ?_
   refine wp_exit ?_
   change Code.wp Try.prog _ _ _ _
   refine qs 45 [] [4] [(1,0),(5,0),(6,0)] h fun ac wd h => ?_
   refine wp_ret ?_
   have h := h.sw (1,1) (6,0) 45
   have h := h.sw (1,2) (5,0) 45
   injection hL118 with hL118
   subst hL118
   exact rO h [.tmp 4] [(1,0),(1,1),(1,2)]

theorem L_cut_Where_ok {a0 : TGraph} {a1 : TStep} {r : Int} (hD : L_cut_Where a0 a1 = some r) :
  CallH Try.prog 86 [.agg (cTGraph a0),.agg (cTStep a1)] []
   (.one (.d (.int .i64 r))) [] := by
 unfold L_cut_Where at hD
 refine rc Try.func86 rfl Try.ntmps86 fun S Φ P0 wb ac h => ?_
 refine qs 4 [] [2,3] [(1,0),(2,0)] h fun ac wd h => ?_
 refine wp_seq ?_
 refine wp_block ?_
 obtain ⟨e64,hE65,hD⟩ := Option.bind_eq_some_iff.1 hD
 refine r_seqJ (fun ac wd => ∃ (b63 : Bool),b63 = e64 ∧ SL ⟨wb,S,Φ,P0⟩ 47 20 [(2,.one (.ptr (1,0) 0)),(3,.one (.ptr (2,0) 0)),(5,.one (.d (.bool b63)))] [((1,0),some (.box 25 (cTGraph a0))),((2,0),some (.box 125 (cTStep a1)))] ac wd) ?_ ?_
 ·
  rcases i2e hE65 with ⟨hb66,hE65⟩ | ⟨hb66,hE65⟩
  ·
   rcases i2 hE65 with ⟨hb67,hE65⟩ | ⟨hb67,hE65⟩
   ·
    refine qeg [] [none,none,none,none,some (some 9,true),some (some 9,true),some (some 9,true),none,none,some (some 14,true),some (some 14,true),some (some 14,true),some (some 14,true),some (some 14,true),none,none] [2,3,5] [(1,0),(2,0)] h fun ac wd h => ?_
    injection hE65 with hE65; subst hE65
    exact ⟨decide (a1.Node < a0.N),rfl,h.z⟩
   ·
    refine qeg [] [none,none,none,none,some (some 9,true),some (some 9,true),some (some 9,true),none,none,some (some 14,true),some (some 14,true),some (some 14,true),some (some 14,true),some (some 14,true),none,none] [2,3,5] [(1,0),(2,0)] h fun ac wd h => ?_
    injection hE65 with hE65; subst hE65
    exact ⟨false,rfl,h.z⟩
  ·
   refine qeg [] [none,none,none,none,some (some 9,true),some (some 9,true),some (some 9,true),none,none,some (some 14,true),some (some 14,true),some (some 14,true),some (some 14,true),some (some 14,true),none,none] [2,3,5] [(1,0),(2,0)] h fun ac wd h => ?_
   injection hE65 with hE65; subst hE65
   exact ⟨false,rfl,h.z⟩
 ·
  rintro ac wd ⟨b63,rfl,h⟩
  (try dsimp only at hD)
  rcases i2b hD with ⟨hb68,hD⟩ | ⟨hb68,hD⟩
  ·
   refine kT h ?_
   refine qs 23 [] [4] [] h fun ac wd h => ?_
   refine wp_ret ?_
   injection hD with hD
   subst hD
   exact rE h [.tmp 4]
  ·
   refine kF h ?_
   obtain ⟨e72,hE73,hD⟩ := Option.bind_eq_some_iff.1 hD
   refine r_seqJ (fun ac wd => ∃ (b71 : Bool),b71 = e72 ∧ SL ⟨wb,S,Φ,P0⟩ 47 37 [(2,.one (.ptr (1,0) 0)),(3,.one (.ptr (2,0) 0)),(23,.one (.d (.bool b71)))] [((1,0),some (.box 25 (cTGraph a0))),((2,0),some (.box 125 (cTStep a1)))] ac wd) ?_ ?_
   ·
    rcases i2e hE73 with ⟨hb74,hE73⟩ | ⟨hb74,hE73⟩
    ·
     rcases i2 hE73 with ⟨hb75,hE73⟩ | ⟨hb75,hE73⟩
     ·
      refine qeg [] [none,none,none,none,some (some 27,true),some (some 27,true),some (some 27,true),none,none,some (some 32,true),some (some 32,true),some (some 32,true),some (some 32,true),some (some 32,true),some (some 32,true),none,none] [2,3,23] [(1,0),(2,0)] h fun ac wd h => ?_
      injection hE73 with hE73; subst hE73
      exact ⟨decide (a1.Link < (a0.Links.length : Int)),rfl,h.z⟩
     ·
      refine qeg [] [none,none,none,none,some (some 27,true),some (some 27,true),some (some 27,true),none,none,some (some 32,true),some (some 32,true),some (some 32,true),some (some 32,true),some (some 32,true),some (some 32,true),none,none] [2,3,23] [(1,0),(2,0)] h fun ac wd h => ?_
      injection hE73 with hE73; subst hE73
      exact ⟨false,rfl,h.z⟩
    ·
     refine qeg [] [none,none,none,none,some (some 27,true),some (some 27,true),some (some 27,true),none,none,some (some 32,true),some (some 32,true),some (some 32,true),some (some 32,true),some (some 32,true),some (some 32,true),none,none] [2,3,23] [(1,0),(2,0)] h fun ac wd h => ?_
     injection hE73 with hE73; subst hE73
     exact ⟨false,rfl,h.z⟩
   ·
    rintro ac wd ⟨b71,rfl,h⟩
    (try dsimp only at hD)
    rcases i2b hD with ⟨hb76,hD⟩ | ⟨hb76,hD⟩
    ·
     refine kT h ?_
     obtain ⟨x79,hx80a,hx80b,hx80c,hx80d,hD⟩ := aB hD
     refine qs 45 [] [4] [] h fun ac wd h => ?_
     refine wp_ret ?_
     injection hD with hD
     subst hD
     exact rE h [.tmp 4]
    ·
     refine kF h ?_
     refine wp_skip ?_
     change Code.wp Try.prog _ _ _ _
     refine qs 38 [] [4] [] h fun ac wd h => ?_
     refine wp_ret ?_
     injection hD with hD
     subst hD
     exact rE h [.tmp 4]

theorem L_cut_side_own {a0 : TStep} {a1 : TGraph} {a2 : (List Int)} {r : Bool × (List Int)} (hD : L_cut_side a0 a1 a2 = some r) :
  CallH Try.prog 118 [.agg (cTStep a0),.one (.ptr (0,0) 0),.one (.ptr (0,1) 0)] [((0,0),some (.box 25 (cTGraph a1))),((0,1),some (.box 39 [.own (0,2) a2.length])),((0,2),some (.row 3 1 (dat (List.map eI a2))))]
   (.one (.d (.bool r.1))) [((0,0),some (.box 25 (cTGraph a1))),((0,1),some (.box 39 [.own (0,2) r.2.length])),((0,2),some (.row 3 1 (dat (List.map eI r.2))))] := by
 unfold L_cut_side at hD
 refine rc Try.func118 rfl Try.ntmps118 (hz := by simp only [zeroB,uIds,EZ,simprocAttr] <;> rfl) fun S Φ P0 wb ac h => ?_
 refine qs 3 [] [1,2,3] [(0,0),(0,1),(0,2),(1,0)] h fun ac wd h => ?_
 obtain ⟨r21,hc22,hD⟩ := oB hD
 have hc22k := L_cut_Where_ok hc22
 refine qs 7 [factE 5 hc22k] [2,5] [(0,0),(0,1),(0,2)] h fun ac wd h => ?_
 refine wp_seq ?_
 refine qs 9 [] [2,5,10] [(0,0),(0,1),(0,2)] h fun ac wd h => ?_
 rcases i2 hD with ⟨hb24,hD⟩ | ⟨hb24,hD⟩
 ·
  refine kT h ?_
  refine qs 10 [] [4] [(0,0),(0,1),(0,2)] h fun ac wd h => ?_
  refine wp_ret ?_
  injection hD with hD
  subst hD
  exact rO h [.tmp 4] [(0,0),(0,1),(0,2)]
 ·
  refine kF h ?_
  refine wp_skip ?_
  change Code.wp Try.prog _ _ _ _
  obtain ⟨x27,hx28a,hx28b,hx28c,hx28d,hD⟩ := aB hD
  refine qs 16 [] [2,5] [(0,0),(0,1),(0,2)] h fun ac wd h => ?_
  obtain ⟨v33,hv34,hD⟩ := vB hD
  have h := h.same [2,5] [(0,0),(0,1),(0,2)] 16 [(2,.one (.ptr (0,1) 0)),(5,.one (.d (.int .i64 r21)))]
   [((0,0),some (.box 25 (cTGraph a1))),((0,1),some (.box 39 [.own (0,2) v33.length])),((0,2),some (.row 3 1 (dat (List.map eI v33))))]
   (by simp only [EZ,simprocAttr,hb24,hx28a,hx28b,hx28c,hx28d,dat_open,← hv34] <;> rfl)
  obtain ⟨x35,hx36a,hx36b,hx36c,hx36d,hD⟩ := aB hD
  refine qs 22 [] [4] [(0,0),(0,1),(0,2)] h fun ac wd h => ?_
  refine wp_ret ?_
  injection hD with hD
  subst hD
  exact rO h [.tmp 4] [(0,0),(0,1),(0,2)]

theorem L_cut_Split_own {a0 : TGraph} {a1 : (List TStep)} {a2 : (List Int)} {r : (List TStep) × (List TStep)} (hD : L_cut_Split a0 a1 a2 = some r) :
  CallH Try.prog 40 [.agg (cTGraph a0),.one (.d (.sl (List.map eTStep a1))),.one (.d (.sl (List.map eI a2)))] []
   (.tup [.inr (.own (1,0) r.1.length),.inr (.own (1,1) r.2.length)]) [((1,0),some (.row 125 5 (dat (List.map eTStep r.1)))),((1,1),some (.row 125 5 (dat (List.map eTStep r.2))))] := by
 unfold L_cut_Split at hD
 refine rc Try.func40 rfl Try.ntmps40 fun S Φ P0 wb ac h => ?_
 refine qs 4 [] [1,2,3,6,7] [(1,0)] h fun ac wd h => ?_
 obtain ⟨r193,hc194,hD⟩ := oB hD
 have hc194_6 := ((L_cut_sides_own hc194).cls 6).z
 refine qs 8 [factO hc194_6] [1,6,7,8] [(6,0),(6,1),(6,2)] h fun ac wd h => ?_
 refine wp_seq ?_
 refine qs 11 [] [6,7,8,14,15,16] [(6,0),(6,1),(6,2)] h fun ac wd h => ?_
 refine wp_block ?_
 have h := SL.bornS h 6 125 5 (by simp only [EZ,simprocAttr, *] <;> rfl)
 have h := SL.bornS h 7 125 5 (by simp only [EZ,simprocAttr, *] <;> rfl)
 refine r_while (fun nf ac wd => ∃ (n344 : Int) (l345 : List TStep) (l346 : List TStep) (l347 : List Int),L_cut_Split_l1 a0 a1 nf n344 l345 l346 l347 = some r ∧ SL ⟨wb,S,Φ,P0⟩ 34 42 [(6,.one (.own (11,0) l345.length)),(7,.one (.own (12,0) l346.length)),(8,.one (.fnp 118 [((6,0),0),((6,1),0)])),(14,.one (.d (.sl (List.map eTStep a1)))),(15,.one (.d (.int .i64 (a1.length : Int)))),(16,.one (.d (.int .i64 n344)))] [((6,0),some (.box 25 (cTGraph a0))),((6,1),some (.box 39 [.own (6,2) l347.length])),((6,2),some (.row 3 1 (dat (List.map eI l347)))),((11,0),some (.row 125 5 (dat (List.map eTStep l345)))),((12,0),some (.row 125 5 (dat (List.map eTStep l346))))] ac wd) (((a1.length : Int) - 0).toNat + 1) ⟨0,([] : List TStep),([] : List TStep),r193,hD,h.z⟩ (fun nf ac wd hJ => ?_)
 obtain ⟨n344,l345,l346,l347,hL348,h⟩ := hJ
 cases nf with
 | zero => rw [L_cut_Split_l1] at hL348; cases hL348
 | succ nf =>
  rw [L_cut_Split_l1] at hL348
  refine qs 43 [] [6,7,8,14,15,16,17] [(6,0),(6,1),(6,2),(11,0),(12,0)] h fun ac wd h => ?_
  refine wp_seq ?_
  rcases i2 hL348 with ⟨hb350,hL348⟩ | ⟨hb350,hL348⟩
  ·
   refine kT h ?_
   refine wp_skip ?_
   change Code.wp Try.prog _ _ _ _
   obtain ⟨e365,hE366,hL348⟩ := Option.bind_eq_some_iff.1 hL348
   refine r_seqJ (fun ac wd => ∃ (l362 : List TStep) (l363 : List TStep) (l364 : List Int),(l362,l363,l364) = e365 ∧ SL ⟨wb,S,Φ,P0⟩ 34 55 [(6,.one (.own (53,0) l362.length)),(7,.one (.own (12,0) l363.length)),(8,.one (.fnp 118 [((6,0),0),((6,1),0)])),(14,.one (.d (.sl (List.map eTStep a1)))),(15,.one (.d (.int .i64 (a1.length : Int)))),(16,.one (.d (.int .i64 n344)))] [((6,0),some (.box 25 (cTGraph a0))),((6,1),some (.box 39 [.own (6,2) l364.length])),((6,2),some (.row 3 1 (dat (List.map eI l364)))),((12,0),some (.row 125 5 (dat (List.map eTStep l363)))),((53,0),some (.row 125 5 (dat (List.map eTStep l362))))] ac wd) ?_ ?_
   ·
    refine wp_block ?_
    obtain ⟨x369,hx370a,hx370b,hx370c,hx370d,hE366⟩ := aB hE366
    refine qs 47 [] [6,7,8,10,14,15,16] [(6,0),(6,1),(6,2),(11,0),(12,0),(45,0)] h fun ac wd h => ?_
    obtain ⟨r373,hc374,hE366⟩ := oB hE366
    have hc374_49 := ((((L_cut_side_own hc374).nm (0,0) (6,0)).nm (0,1) (6,1)).nm (0,2) (6,2)).z
    refine qs 50 [factR hc374_49] [6,7,8,10,14,15,16,22] [(6,0),(6,1),(6,2),(11,0),(12,0),(45,0)] h fun ac wd h => ?_
    rcases i2b hE366 with ⟨hb375,hE366⟩ | ⟨hb375,hE366⟩
    ·
     refine kT h ?_
     obtain ⟨ha376,hE366⟩ := iT hE366
     refine qe [] [6,7,8,14,15,16] [(6,0),(6,1),(6,2),(12,0),(53,0)] h fun ac wd h => ?_
     injection hE366 with hE366; subst hE366
     exact ⟨(l345 ++ [x369]),l346,r373.2,rfl,h.z⟩
    ·
     refine kF h ?_
     obtain ⟨ha377,hE366⟩ := iT hE366
     refine qe [] [6,7,8,14,15,16] [(6,0),(6,1),(6,2),(11,0),(53,0)] h fun ac wd h => ?_
     have h := h.sw (53,0) (11,0) 55
     have h := h.sw (12,0) (11,0) 55
     injection hE366 with hE366; subst hE366
     exact ⟨l345,(l346 ++ [x369]),r373.2,rfl,h.z⟩
   ·
    rintro ac wd ⟨l362,l363,l364,rfl,h⟩
    (try dsimp only at hL348)
    refine qe [] [6,7,8,14,15,16] [(6,0),(6,1),(6,2),(12,0),(53,0)] h fun ac wd h => ?_
    have h := h.sw (11,0) (53,0) 57
    exact ⟨nf,Nat.lt_succ_self nf,(IntKind.wrap .i64 (n344 + 1)),l362,l363,l364,hL348,h.z⟩
  ·
   refine kF h ?_
   refine wp_exit ?_
   change Code.wp Try.prog _ _ _ _
   refine qs 47 [] [6,7] [(11,0),(12,0)] h fun ac wd h => ?_
   refine wp_ret ?_
   have h := h.sw (1,0) (11,0) 47
   have h := h.sw (1,1) (12,0) 47
   injection hL348 with hL348
   subst hL348
   exact rO h [.tmp 6,.tmp 7] [(1,0),(1,1)]
theorem L_cut_Split_ok {a0 : TGraph} {a1 : (List TStep)} {a2 : (List Int)} {r : (List TStep) × (List TStep)} (hD : L_cut_Split a0 a1 a2 = some r) :
  CallH Try.prog 40 [.agg (cTGraph a0),.one (.d (.sl (List.map eTStep a1))),.one (.d (.sl (List.map eI a2)))] []
   (.tup [.inr (.d (.sl (List.map eTStep r.1))),.inr (.d (.sl (List.map eTStep r.2)))]) [] :=
 (L_cut_Split_own hD).fr

end Go.Proofs.Ytabbejabdkkaiaa
