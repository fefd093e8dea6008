/- Functions as typed ones,and that the program's functions answer as these do. No condition. -/
import Derived.Test.YtabbejabdkkaiaaGb4
import Derived.Test.YtabbejabdkkaiaaGd
set_option linter.unusedSimpArgs false
set_option linter.unusedVariables false
set_option maxRecDepth 20000
set_option maxHeartbeats 4000000
namespace Go.Proofs.Ytabbejabdkkaiaa
open Go.RowKit

theorem L_table_place_may_ok {a0 : TPlace} {r : Bool} (hD : L_table_place_may a0 = some r) :
  CallH Try.prog 56 [.agg (cTPlace a0)] []
   (.one (.d (.bool r))) [] := by
 unfold L_table_place_may at hD
 refine rc Try.func56 rfl Try.ntmps56 fun S Φ P0 wb ac h => ?_
 refine qs 3 [] [1] [(1,0)] h fun ac wd h => ?_
 refine qs 5 [] [1,3] [(1,0)] h fun ac wd h => ?_
 refine wp_seq ?_
 refine qs 22 [] [21,22,23] [(1,0),(19,0)] h fun ac wd h => ?_
 refine wp_block ?_
 refine wp_loop_rounds 24 ?_
 refine rounds_succ.mpr ?_
 refine qs 23 [] [21,22,23,24] [(1,0),(19,0)] h fun ac wd h => ?_
 refine wp_seq ?_
 refine kT h ?_
 refine wp_skip ?_
 change Code.wp Try.prog _ _ _ _
 refine wp_seq ?_
 refine wp_block ?_
 refine qs 27 [] [5,21,22,23] [(1,0),(19,0),(25,0)] h fun ac wd h => ?_
 obtain ⟨aa,ab,hD⟩ := oB hD
 have ad := (((L_table_place_may_1_own ab).cls 29).nm (0,0) (1,0)).z
 refine qs 31 [factR ad] [21,22,23,30] [(1,0),(19,0)] h fun ac wd h => ?_
 rcases i2b hD with ⟨ae,hD⟩ | ⟨ae,hD⟩
 ·
  refine kF h ?_
  refine wp_skip ?_
  change Code.wp Try.prog _ _ _ _
  refine qe [] [21,22,23] [(1,0),(19,0)] h fun ac wd h => ?_
  change Code.rounds Try.prog _ _ _ _ _
  have h := h.sm 33 [(21,.one (.own (19,0) 5)),(22,.one (.d (.int .i64 5))),(23,.one (.d (.int .i64 1)))]
   [((1,0),some (.box 139 (cTPlace aa.2))),((19,0),some (.row 197 1 ([[.fnp 100 [((1,0),0)]],[.d (.fn 101 [.inl [(.int .i64 a0.State.Mode),(.sl (List.map eI a0.State.Waits)),(.sl (List.map eTPick a0.State.Picks)),(.sl (List.map eTTake a0.State.Takes)),(.int .i64 a0.n),(.int .i64 a0.node.Start),(.sl (List.map eTState a0.node.States)),(.int .i64 a0.g.N),(.sl (List.map eA2I a0.g.Links))]] [])],[.d (.fn 102 [.inl [(.int .i64 a0.State.Mode),(.sl (List.map eI a0.State.Waits)),(.sl (List.map eTPick a0.State.Picks)),(.sl (List.map eTTake a0.State.Takes)),(.int .i64 a0.n),(.int .i64 a0.node.Start),(.sl (List.map eTState a0.node.States)),(.int .i64 a0.g.N),(.sl (List.map eA2I a0.g.Links))]] [])],[.d (.fn 103 [.inl [(.int .i64 a0.State.Mode),(.sl (List.map eI a0.State.Waits)),(.sl (List.map eTPick a0.State.Picks)),(.sl (List.map eTTake a0.State.Takes)),(.int .i64 a0.n),(.int .i64 a0.node.Start),(.sl (List.map eTState a0.node.States)),(.int .i64 a0.g.N),(.sl (List.map eA2I a0.g.Links))]] [])],[.d (.fn 104 [.inl [(.int .i64 a0.State.Mode),(.sl (List.map eI a0.State.Waits)),(.sl (List.map eTPick a0.State.Picks)),(.sl (List.map eTTake a0.State.Takes)),(.int .i64 a0.n),(.int .i64 a0.node.Start),(.sl (List.map eTState a0.node.States)),(.int .i64 a0.g.N),(.sl (List.map eA2I a0.g.Links))]] [])]])))]
  refine rounds_succ.mpr ?_
  refine qs 34 [] [21,22,23,24] [(1,0),(19,0)] h fun ac wd h => ?_
  refine wp_seq ?_
  refine kT h ?_
  refine wp_skip ?_
  change Code.wp Try.prog _ _ _ _
  refine wp_seq ?_
  refine wp_block ?_
  refine qs 38 [] [5,21,22,23] [(1,0),(19,0),(36,0)] h fun ac wd h => ?_
  obtain ⟨af,ag,hD⟩ := oB hD
  have ah := L_table_place_waits_ok ag
  refine qs 42 [factE 40 ah] [21,22,23,30] [(1,0),(19,0)] h fun ac wd h => ?_
  rcases i2b hD with ⟨ai,hD⟩ | ⟨ai,hD⟩
  ·
   refine kF h ?_
   refine wp_skip ?_
   change Code.wp Try.prog _ _ _ _
   refine qe [] [21,22,23] [(1,0),(19,0)] h fun ac wd h => ?_
   change Code.rounds Try.prog _ _ _ _ _
   have h := h.sm 44 [(21,.one (.own (19,0) 5)),(22,.one (.d (.int .i64 5))),(23,.one (.d (.int .i64 2)))]
    [((1,0),some (.box 139 (cTPlace aa.2))),((19,0),some (.row 197 1 ([[.fnp 100 [((1,0),0)]],[.d (.fn 101 [.inl [(.int .i64 a0.State.Mode),(.sl (List.map eI a0.State.Waits)),(.sl (List.map eTPick a0.State.Picks)),(.sl (List.map eTTake a0.State.Takes)),(.int .i64 a0.n),(.int .i64 a0.node.Start),(.sl (List.map eTState a0.node.States)),(.int .i64 a0.g.N),(.sl (List.map eA2I a0.g.Links))]] [])],[.d (.fn 102 [.inl [(.int .i64 a0.State.Mode),(.sl (List.map eI a0.State.Waits)),(.sl (List.map eTPick a0.State.Picks)),(.sl (List.map eTTake a0.State.Takes)),(.int .i64 a0.n),(.int .i64 a0.node.Start),(.sl (List.map eTState a0.node.States)),(.int .i64 a0.g.N),(.sl (List.map eA2I a0.g.Links))]] [])],[.d (.fn 103 [.inl [(.int .i64 a0.State.Mode),(.sl (List.map eI a0.State.Waits)),(.sl (List.map eTPick a0.State.Picks)),(.sl (List.map eTTake a0.State.Takes)),(.int .i64 a0.n),(.int .i64 a0.node.Start),(.sl (List.map eTState a0.node.States)),(.int .i64 a0.g.N),(.sl (List.map eA2I a0.g.Links))]] [])],[.d (.fn 104 [.inl [(.int .i64 a0.State.Mode),(.sl (List.map eI a0.State.Waits)),(.sl (List.map eTPick a0.State.Picks)),(.sl (List.map eTTake a0.State.Takes)),(.int .i64 a0.n),(.int .i64 a0.node.Start),(.sl (List.map eTState a0.node.States)),(.int .i64 a0.g.N),(.sl (List.map eA2I a0.g.Links))]] [])]])))]
   refine rounds_succ.mpr ?_
   refine qs 45 [] [21,22,23,24] [(1,0),(19,0)] h fun ac wd h => ?_
   refine wp_seq ?_
   refine kT h ?_
   refine wp_skip ?_
   change Code.wp Try.prog _ _ _ _
   refine wp_seq ?_
   refine wp_block ?_
   refine qs 49 [] [5,21,22,23] [(1,0),(19,0),(47,0)] h fun ac wd h => ?_
   obtain ⟨aj,ak,hD⟩ := oB hD
   have al := L_table_place_picks_ok ak
   refine qs 53 [factE 51 al] [21,22,23,30] [(1,0),(19,0)] h fun ac wd h => ?_
   rcases i2b hD with ⟨am,hD⟩ | ⟨am,hD⟩
   ·
    refine kF h ?_
    refine wp_skip ?_
    change Code.wp Try.prog _ _ _ _
    refine qe [] [21,22,23] [(1,0),(19,0)] h fun ac wd h => ?_
    change Code.rounds Try.prog _ _ _ _ _
    have h := h.sm 55 [(21,.one (.own (19,0) 5)),(22,.one (.d (.int .i64 5))),(23,.one (.d (.int .i64 3)))]
     [((1,0),some (.box 139 (cTPlace aa.2))),((19,0),some (.row 197 1 ([[.fnp 100 [((1,0),0)]],[.d (.fn 101 [.inl [(.int .i64 a0.State.Mode),(.sl (List.map eI a0.State.Waits)),(.sl (List.map eTPick a0.State.Picks)),(.sl (List.map eTTake a0.State.Takes)),(.int .i64 a0.n),(.int .i64 a0.node.Start),(.sl (List.map eTState a0.node.States)),(.int .i64 a0.g.N),(.sl (List.map eA2I a0.g.Links))]] [])],[.d (.fn 102 [.inl [(.int .i64 a0.State.Mode),(.sl (List.map eI a0.State.Waits)),(.sl (List.map eTPick a0.State.Picks)),(.sl (List.map eTTake a0.State.Takes)),(.int .i64 a0.n),(.int .i64 a0.node.Start),(.sl (List.map eTState a0.node.States)),(.int .i64 a0.g.N),(.sl (List.map eA2I a0.g.Links))]] [])],[.d (.fn 103 [.inl [(.int .i64 a0.State.Mode),(.sl (List.map eI a0.State.Waits)),(.sl (List.map eTPick a0.State.Picks)),(.sl (List.map eTTake a0.State.Takes)),(.int .i64 a0.n),(.int .i64 a0.node.Start),(.sl (List.map eTState a0.node.States)),(.int .i64 a0.g.N),(.sl (List.map eA2I a0.g.Links))]] [])],[.d (.fn 104 [.inl [(.int .i64 a0.State.Mode),(.sl (List.map eI a0.State.Waits)),(.sl (List.map eTPick a0.State.Picks)),(.sl (List.map eTTake a0.State.Takes)),(.int .i64 a0.n),(.int .i64 a0.node.Start),(.sl (List.map eTState a0.node.States)),(.int .i64 a0.g.N),(.sl (List.map eA2I a0.g.Links))]] [])]])))]
    refine rounds_succ.mpr ?_
    refine qs 56 [] [21,22,23,24] [(1,0),(19,0)] h fun ac wd h => ?_
    refine wp_seq ?_
    refine kT h ?_
    refine wp_skip ?_
    change Code.wp Try.prog _ _ _ _
    refine wp_seq ?_
    refine wp_block ?_
    refine qs 60 [] [5,21,22,23] [(1,0),(19,0),(58,0)] h fun ac wd h => ?_
    obtain ⟨an,ao,hD⟩ := oB hD
    have ap := L_table_place_takes_ok ao
    refine qs 64 [factE 62 ap] [21,22,23,30] [(1,0),(19,0)] h fun ac wd h => ?_
    rcases i2b hD with ⟨aq,hD⟩ | ⟨aq,hD⟩
    ·
     refine kF h ?_
     refine wp_skip ?_
     change Code.wp Try.prog _ _ _ _
     refine qe [] [21,22,23] [(1,0),(19,0)] h fun ac wd h => ?_
     change Code.rounds Try.prog _ _ _ _ _
     have h := h.sm 66 [(21,.one (.own (19,0) 5)),(22,.one (.d (.int .i64 5))),(23,.one (.d (.int .i64 4)))]
      [((1,0),some (.box 139 (cTPlace aa.2))),((19,0),some (.row 197 1 ([[.fnp 100 [((1,0),0)]],[.d (.fn 101 [.inl [(.int .i64 a0.State.Mode),(.sl (List.map eI a0.State.Waits)),(.sl (List.map eTPick a0.State.Picks)),(.sl (List.map eTTake a0.State.Takes)),(.int .i64 a0.n),(.int .i64 a0.node.Start),(.sl (List.map eTState a0.node.States)),(.int .i64 a0.g.N),(.sl (List.map eA2I a0.g.Links))]] [])],[.d (.fn 102 [.inl [(.int .i64 a0.State.Mode),(.sl (List.map eI a0.State.Waits)),(.sl (List.map eTPick a0.State.Picks)),(.sl (List.map eTTake a0.State.Takes)),(.int .i64 a0.n),(.int .i64 a0.node.Start),(.sl (List.map eTState a0.node.States)),(.int .i64 a0.g.N),(.sl (List.map eA2I a0.g.Links))]] [])],[.d (.fn 103 [.inl [(.int .i64 a0.State.Mode),(.sl (List.map eI a0.State.Waits)),(.sl (List.map eTPick a0.State.Picks)),(.sl (List.map eTTake a0.State.Takes)),(.int .i64 a0.n),(.int .i64 a0.node.Start),(.sl (List.map eTState a0.node.States)),(.int .i64 a0.g.N),(.sl (List.map eA2I a0.g.Links))]] [])],[.d (.fn 104 [.inl [(.int .i64 a0.State.Mode),(.sl (List.map eI a0.State.Waits)),(.sl (List.map eTPick a0.State.Picks)),(.sl (List.map eTTake a0.State.Takes)),(.int .i64 a0.n),(.int .i64 a0.node.Start),(.sl (List.map eTState a0.node.States)),(.int .i64 a0.g.N),(.sl (List.map eA2I a0.g.Links))]] [])]])))]
     refine rounds_succ.mpr ?_
     refine qs 67 [] [21,22,23,24] [(1,0),(19,0)] h fun ac wd h => ?_
     refine wp_seq ?_
     refine kT h ?_
     refine wp_skip ?_
     change Code.wp Try.prog _ _ _ _
     refine wp_seq ?_
     refine wp_block ?_
     refine qs 71 [] [5,21,22,23] [(1,0),(19,0),(69,0)] h fun ac wd h => ?_
     obtain ⟨ar,au,hD⟩ := oB hD
     have av := L_table_place_stays_ok au
     refine qs 75 [factE 73 av] [21,22,23,30] [(1,0),(19,0)] h fun ac wd h => ?_
     rcases i2b hD with ⟨aw,hD⟩ | ⟨aw,hD⟩
     ·
      refine kF h ?_
      refine wp_skip ?_
      change Code.wp Try.prog _ _ _ _
      refine qe [] [21,22,23] [(1,0),(19,0)] h fun ac wd h => ?_
      change Code.rounds Try.prog _ _ _ _ _
      have h := h.sm 77 [(21,.one (.own (19,0) 5)),(22,.one (.d (.int .i64 5))),(23,.one (.d (.int .i64 5)))]
       [((1,0),some (.box 139 (cTPlace aa.2))),((19,0),some (.row 197 1 ([[.fnp 100 [((1,0),0)]],[.d (.fn 101 [.inl [(.int .i64 a0.State.Mode),(.sl (List.map eI a0.State.Waits)),(.sl (List.map eTPick a0.State.Picks)),(.sl (List.map eTTake a0.State.Takes)),(.int .i64 a0.n),(.int .i64 a0.node.Start),(.sl (List.map eTState a0.node.States)),(.int .i64 a0.g.N),(.sl (List.map eA2I a0.g.Links))]] [])],[.d (.fn 102 [.inl [(.int .i64 a0.State.Mode),(.sl (List.map eI a0.State.Waits)),(.sl (List.map eTPick a0.State.Picks)),(.sl (List.map eTTake a0.State.Takes)),(.int .i64 a0.n),(.int .i64 a0.node.Start),(.sl (List.map eTState a0.node.States)),(.int .i64 a0.g.N),(.sl (List.map eA2I a0.g.Links))]] [])],[.d (.fn 103 [.inl [(.int .i64 a0.State.Mode),(.sl (List.map eI a0.State.Waits)),(.sl (List.map eTPick a0.State.Picks)),(.sl (List.map eTTake a0.State.Takes)),(.int .i64 a0.n),(.int .i64 a0.node.Start),(.sl (List.map eTState a0.node.States)),(.int .i64 a0.g.N),(.sl (List.map eA2I a0.g.Links))]] [])],[.d (.fn 104 [.inl [(.int .i64 a0.State.Mode),(.sl (List.map eI a0.State.Waits)),(.sl (List.map eTPick a0.State.Picks)),(.sl (List.map eTTake a0.State.Takes)),(.int .i64 a0.n),(.int .i64 a0.node.Start),(.sl (List.map eTState a0.node.States)),(.int .i64 a0.g.N),(.sl (List.map eA2I a0.g.Links))]] [])]])))]
      refine rounds_succ.mpr ?_
      refine qs 78 [] [21,22,23,24] [(1,0),(19,0)] h fun ac wd h => ?_
      refine wp_seq ?_
      refine kF h ?_
      refine wp_exit ?_
      change Code.wp Try.prog _ _ _ _
      refine qs 79 [] [2] [] h fun ac wd h => ?_
      refine wp_ret ?_
      injection hD with hD
      subst hD
      exact rE h [.tmp 2]
     ·
      refine kT h ?_
      refine qs 76 [] [2] [] h fun ac wd h => ?_
      refine wp_ret ?_
      injection hD with hD
      subst hD
      exact rE h [.tmp 2]
    ·
     refine kT h ?_
     refine qs 65 [] [2] [] h fun ac wd h => ?_
     refine wp_ret ?_
     injection hD with hD
     subst hD
     exact rE h [.tmp 2]
   ·
    refine kT h ?_
    refine qs 54 [] [2] [] h fun ac wd h => ?_
    refine wp_ret ?_
    injection hD with hD
    subst hD
    exact rE h [.tmp 2]
  ·
   refine kT h ?_
   refine qs 43 [] [2] [] h fun ac wd h => ?_
   refine wp_ret ?_
   injection hD with hD
   subst hD
   exact rE h [.tmp 2]
 ·
  refine kT h ?_
  refine qs 32 [] [2] [] h fun ac wd h => ?_
  refine wp_ret ?_
  injection hD with hD
  subst hD
  exact rE h [.tmp 2]

theorem L_table_Right_ok {a0 : (List TNode)} {a1 : TGraph} {r : Bool} (hD : L_table_Right a0 a1 = some r) :
  CallH Try.prog 17 [.one (.d (.sl (List.map eTNode a0))),.agg (cTGraph a1)] []
   (.one (.d (.bool r))) [] := by
 unfold L_table_Right at hD
 refine rc Try.func17 rfl Try.ntmps17 fun S Φ P0 wb ac h => ?_
 refine qs 3 [] [0,3] [(1,0)] h fun ac wd h => ?_
 refine wp_seq ?_
 obtain ⟨aa,ab,hD⟩ := Option.bind_eq_some_iff.1 hD
 refine r_seqJ (fun ac wd => ∃ (ad : Bool),ad = aa ∧ SL ⟨wb,S,Φ,P0⟩ 65 13 [(0,.one (.d (.sl (List.map eTNode a0)))),(3,.one (.ptr (1,0) 0)),(18,.one (.d (.bool ad)))] [((1,0),some (.box 25 (cTGraph a1)))] ac wd) ?_ ?_
 ·
  obtain ⟨ae,af,ab⟩ := oB ab
  rcases i2b ab with ⟨ag,ab⟩ | ⟨ag,ab⟩
  ·
   have ah := L_graph_Right_ok af
   refine qeg [factE 4 ah] [none,none,none,none,some (some 12,false),some (some 12,false),some (some 12,false),some (some 12,false),some (some 12,false),none] [0,3,18] [(1,0)] h fun ac wd h => ?_
   injection ab with ab; subst ab
   exact ⟨!(decide ((a0.length : Int) = a1.N)),rfl,h.z⟩
  ·
   have ah := L_graph_Right_ok af
   refine qeg [factE 4 ah] [none,none,none,none,some (some 12,false),some (some 12,false),some (some 12,false),some (some 12,false),some (some 12,false),none] [0,3,18] [(1,0)] h fun ac wd h => ?_
   injection ab with ab; subst ab
   exact ⟨true,rfl,h.z⟩
 ·
  rintro ac wd ⟨ad,rfl,h⟩
  (try dsimp only at hD)
  rcases i2b hD with ⟨ai,hD⟩ | ⟨ai,hD⟩
  ·
   refine kT h ?_
   refine qs 14 [] [4] [] h fun ac wd h => ?_
   refine wp_ret ?_
   injection hD with hD
   subst hD
   exact rE h [.tmp 4]
  ·
   refine kF h ?_
   refine wp_skip ?_
   change Code.wp Try.prog _ _ _ _
   refine wp_seq ?_
   refine qs 16 [] [3,19,20,21] [(1,0)] h fun ac wd h => ?_
   refine wp_block ?_
   refine r_while (fun nf ac wd => ∃ (aj : Int),L_table_Right_l1 a0 a1 nf aj = some r ∧ SL ⟨wb,S,Φ,P0⟩ 65 146 [(3,.one (.ptr (1,0) 0)),(19,.one (.d (.sl (List.map eTNode a0)))),(20,.one (.d (.int .i64 (a0.length : Int)))),(21,.one (.d (.int .i64 aj)))] [((1,0),some (.box 25 (cTGraph a1)))] ac wd) (((a0.length : Int) - 0).toNat + 1) ⟨0,hD,h.z⟩ (fun nf ac wd hJ => ?_)
   obtain ⟨aj,ak,h⟩ := hJ
   cases nf with
   | zero => rw [L_table_Right_l1] at ak; cases ak
   | succ nf =>
    rw [L_table_Right_l1] at ak
    refine qs 147 [] [3,19,20,21,22] [(1,0)] h fun ac wd h => ?_
    refine wp_seq ?_
    rcases i2 ak with ⟨al,ak⟩ | ⟨al,ak⟩
    ·
     refine kT h ?_
     refine wp_skip ?_
     change Code.wp Try.prog _ _ _ _
     obtain ⟨am,an,ak⟩ := Option.bind_eq_some_iff.1 ak
     refine r_seqJ (fun ac wd => (.inl ()) = am ∧ SL ⟨wb,S,Φ,P0⟩ 65 209 [(3,.one (.ptr (1,0) 0)),(19,.one (.d (.sl (List.map eTNode a0)))),(20,.one (.d (.int .i64 (a0.length : Int)))),(21,.one (.d (.int .i64 aj)))] [((1,0),some (.box 25 (cTGraph a1)))] ac wd) ?_ ?_
     ·
      refine wp_block ?_
      obtain ⟨ao,ap,aq,ar,au,an⟩ := aB an
      refine qs 153 [] [3,5,6,19,20,21] [(1,0),(150,0)] h fun ac wd h => ?_
      refine wp_seq ?_
      obtain ⟨av,aw,an⟩ := Option.bind_eq_some_iff.1 an
      refine r_seqJ (fun ac wd => ∃ (ax : Bool),ax = av ∧ SL ⟨wb,S,Φ,P0⟩ 65 176 [(3,.one (.ptr (1,0) 0)),(5,.one (.d (.int .i64 aj))),(6,.one (.ptr (150,0) 0)),(19,.one (.d (.sl (List.map eTNode a0)))),(20,.one (.d (.int .i64 (a0.length : Int)))),(21,.one (.d (.int .i64 aj))),(48,.one (.d (.bool ax)))] [((1,0),some (.box 25 (cTGraph a1))),((150,0),some (.box 38 (cTNode ao)))] ac wd) ?_ ?_
      ·
       rcases i2 aw with ⟨ay,aw⟩ | ⟨ay,aw⟩
       ·
        refine qeg [] [none,none,none,none,none,some (some 30,false),some (some 30,false),some (some 30,false),some (some 30,false),none,none,some (some 36,false),some (some 36,false),some (some 36,false),none,none,some (some 41,false),some (some 41,false),some (some 41,false),some (some 41,false),some (some 41,false),some (some 41,false),none] [3,5,6,19,20,21,48] [(1,0),(150,0)] h fun ac wd h => ?_
        injection aw with aw; subst aw
        exact ⟨true,rfl,h.z⟩
       ·
        rcases i2 aw with ⟨az,aw⟩ | ⟨az,aw⟩
        ·
         refine qeg [] [none,none,none,none,none,some (some 30,false),some (some 30,false),some (some 30,false),some (some 30,false),none,none,some (some 36,false),some (some 36,false),some (some 36,false),none,none,some (some 41,false),some (some 41,false),some (some 41,false),some (some 41,false),some (some 41,false),some (some 41,false),none] [3,5,6,19,20,21,48] [(1,0),(150,0)] h fun ac wd h => ?_
         injection aw with aw; subst aw
         exact ⟨true,rfl,h.z⟩
        ·
         rcases i2 aw with ⟨aA,aw⟩ | ⟨aA,aw⟩
         ·
          refine qeg [] [none,none,none,none,none,some (some 30,false),some (some 30,false),some (some 30,false),some (some 30,false),none,none,some (some 36,false),some (some 36,false),some (some 36,false),none,none,some (some 41,false),some (some 41,false),some (some 41,false),some (some 41,false),some (some 41,false),some (some 41,false),none] [3,5,6,19,20,21,48] [(1,0),(150,0)] h fun ac wd h => ?_
          injection aw with aw; subst aw
          exact ⟨true,rfl,h.z⟩
         ·
          refine qeg [] [none,none,none,none,none,some (some 30,false),some (some 30,false),some (some 30,false),some (some 30,false),none,none,some (some 36,false),some (some 36,false),some (some 36,false),none,none,some (some 41,false),some (some 41,false),some (some 41,false),some (some 41,false),some (some 41,false),some (some 41,false),none] [3,5,6,19,20,21,48] [(1,0),(150,0)] h fun ac wd h => ?_
          injection aw with aw; subst aw
          exact ⟨decide (ao.Start ≥ (ao.States.length : Int)),rfl,h.z⟩
      ·
       rintro ac wd ⟨ax,rfl,h⟩
       (try dsimp only at an)
       rcases i2b an with ⟨aC,an⟩ | ⟨aC,an⟩
       ·
        refine kT h ?_
        refine qs 177 [] [4] [] h fun ac wd h => ?_
        refine wp_ret ?_
        injection an with an
        subst an
        (try dsimp only at ak)
        injection ak with ak
        subst ak
        exact rE h [.tmp 4]
       ·
        refine kF h ?_
        refine wp_skip ?_
        change Code.wp Try.prog _ _ _ _
        refine qs 180 [] [3,5,6,19,20,21,50,51,52] [(1,0),(150,0)] h fun ac wd h => ?_
        obtain ⟨aD,aE,an⟩ := Option.bind_eq_some_iff.1 an
        refine r_meetQ (fun ac wd => (.inl ()) = aD ∧ SL ⟨wb,S,Φ,P0⟩ 65 209 [(3,.one (.ptr (1,0) 0)),(19,.one (.d (.sl (List.map eTNode a0)))),(20,.one (.d (.int .i64 (a0.length : Int)))),(21,.one (.d (.int .i64 aj)))] [((1,0),some (.box 25 (cTGraph a1)))] ac wd) ?_ ?_
        ·
         refine wp_block ?_
         refine r_while (fun nf ac wd => ∃ (aF : Int),L_table_Right_l2 a1 aj ao nf aF = some aD ∧ SL ⟨wb,S,Φ,P0⟩ 65 208 [(3,.one (.ptr (1,0) 0)),(5,.one (.d (.int .i64 aj))),(6,.one (.ptr (150,0) 0)),(19,.one (.d (.sl (List.map eTNode a0)))),(20,.one (.d (.int .i64 (a0.length : Int)))),(21,.one (.d (.int .i64 aj))),(50,.one (.d (.sl (List.map eTState ao.States)))),(51,.one (.d (.int .i64 (ao.States.length : Int)))),(52,.one (.d (.int .i64 aF)))] [((1,0),some (.box 25 (cTGraph a1))),((150,0),some (.box 38 (cTNode ao)))] ac wd) (((ao.States.length : Int) - 0).toNat + 1) ⟨0,aE,h.z⟩ (fun nf ac wd hJ => ?_)
         obtain ⟨aF,aG,h⟩ := hJ
         cases nf with
         | zero => rw [L_table_Right_l2] at aG; cases aG
         | succ nf =>
          rw [L_table_Right_l2] at aG
          refine qs 209 [] [3,5,6,19,20,21,50,51,52,53] [(1,0),(150,0)] h fun ac wd h => ?_
          refine wp_seq ?_
          rcases i2 aG with ⟨aH,aG⟩ | ⟨aH,aG⟩
          ·
           refine kT h ?_
           refine wp_skip ?_
           change Code.wp Try.prog _ _ _ _
           refine wp_seq ?_
           refine wp_block ?_
           obtain ⟨aI,aJ,aK,aL,aM,aG⟩ := aB aG
           refine qs 213 [] [3,5,6,8,19,20,21,50,51,52] [(1,0),(150,0),(211,0)] h fun ac wd h => ?_
           obtain ⟨aN,aO,aG⟩ := oB aG
           have aP := L_table_place_may_ok aO
           refine qs 220 [factE 218 aP] [3,5,6,19,20,21,50,51,52,62] [(1,0),(150,0)] h fun ac wd h => ?_
           rcases i2b aG with ⟨aQ,aG⟩ | ⟨aQ,aG⟩
           ·
            refine kF h ?_
            refine wp_skip ?_
            change Code.wp Try.prog _ _ _ _
            refine qe [] [3,5,6,19,20,21,50,51,52] [(1,0),(150,0)] h fun ac wd h => ?_
            exact ⟨nf,Nat.lt_succ_self nf,(IntKind.wrap .i64 (aF + 1)),aG,h.z⟩
           ·
            refine kT h ?_
            refine qs 221 [] [4] [] h fun ac wd h => ?_
            refine wp_ret ?_
            injection aG with aG
            subst aG
            (try dsimp only at an)
            injection an with an
            subst an
            (try dsimp only at ak)
            injection ak with ak
            subst ak
            exact rE h [.tmp 4]
          ·
           refine kF h ?_
           refine wp_exit ?_
           injection aG with aG; subst aG
           exact ⟨rfl,h.z⟩
        ·
         rintro ac wd ⟨rfl,h⟩
         (try dsimp only at an)
         injection an with an; subst an
         exact ⟨rfl,h.z⟩
     ·
      rintro ac wd ⟨rfl,h⟩
      (try dsimp only at ak)
      refine qe [] [3,19,20,21] [(1,0)] h fun ac wd h => ?_
      exact ⟨nf,Nat.lt_succ_self nf,(IntKind.wrap .i64 (aj + 1)),ak,h.z⟩
    ·
     refine kF h ?_
     refine wp_exit ?_
     change Code.wp Try.prog _ _ _ _
     refine qs 148 [] [4] [] h fun ac wd h => ?_
     refine wp_ret ?_
     injection ak with ak
     subst ak
     exact rE h [.tmp 4]

theorem L_plain_may_ok {a0 : (List TMsg)} {a1 : Int} {r : Bool} (hD : L_plain_may a0 a1 = some r) :
  CallH Try.prog 92 [.one (.d (.sl (List.map eTMsg a0))),.one (.d (.int .i64 a1))] []
   (.one (.d (.bool r))) [] := by
 unfold L_plain_may at hD
 refine rc Try.func92 rfl Try.ntmps92 fun S Φ P0 wb ac h => ?_
 refine qs 2 [] [0,1] [] h fun ac wd h => ?_
 refine qs 3 [] [0,1,5] [] h fun ac wd h => ?_
 refine wp_seq ?_
 refine qs 6 [] [1,5,8,9,10] [] h fun ac wd h => ?_
 refine wp_block ?_
 refine r_while (fun nf ac wd => ∃ (aa : Int) (ab : Int),L_plain_may_l1 a0 a1 nf aa ab = some r ∧ SL ⟨wb,S,Φ,P0⟩ 43 66 [(1,.one (.d (.int .i64 a1))),(5,.one (.d (.int .i64 aa))),(8,.one (.d (.sl (List.map eTMsg a0)))),(9,.one (.d (.int .i64 (a0.length : Int)))),(10,.one (.d (.int .i64 ab)))] [] ac wd) (((a0.length : Int) - 0).toNat + 1) ⟨0,0,hD,h.z⟩ (fun nf ac wd hJ => ?_)
 obtain ⟨aa,ab,ad,h⟩ := hJ
 cases nf with
 | zero => rw [L_plain_may_l1] at ad; cases ad
 | succ nf =>
  rw [L_plain_may_l1] at ad
  refine qs 67 [] [1,5,8,9,10,11] [] h fun ac wd h => ?_
  refine wp_seq ?_
  rcases i2 ad with ⟨ae,ad⟩ | ⟨ae,ad⟩
  ·
   refine kT h ?_
   refine wp_skip ?_
   change Code.wp Try.prog _ _ _ _
   refine wp_seq ?_
   refine wp_block ?_
   obtain ⟨af,ag,ah,ai,aj,ad⟩ := aB ad
   refine qs 71 [] [1,5,7,8,9,10] [(69,0)] h fun ac wd h => ?_
   refine wp_seq ?_
   obtain ⟨ak,al,ad⟩ := Option.bind_eq_some_iff.1 ad
   refine r_seqJ (fun ac wd => ∃ (am : Bool),am = ak ∧ SL ⟨wb,S,Φ,P0⟩ 43 91 [(1,.one (.d (.int .i64 a1))),(7,.one (.ptr (69,0) 0)),(8,.one (.d (.sl (List.map eTMsg a0)))),(9,.one (.d (.int .i64 (a0.length : Int)))),(10,.one (.d (.int .i64 ab))),(33,.one (.d (.bool am)))] [((69,0),some (.box 59 (cTMsg af)))] ac wd) ?_ ?_
   ·
    rcases i2 al with ⟨an,al⟩ | ⟨an,al⟩
    ·
     refine qeg [] [none,none,none,none,none,some (some 18,false),some (some 18,false),some (some 18,false),some (some 18,false),none,none,some (some 24,false),some (some 24,false),some (some 24,false),none,none,some (some 29,false),some (some 29,false),some (some 29,false),none] [1,7,8,9,10,33] [(69,0)] h fun ac wd h => ?_
     injection al with al; subst al
     exact ⟨true,rfl,h.z⟩
    ·
     rcases i2 al with ⟨ao,al⟩ | ⟨ao,al⟩
     ·
      refine qeg [] [none,none,none,none,none,some (some 18,false),some (some 18,false),some (some 18,false),some (some 18,false),none,none,some (some 24,false),some (some 24,false),some (some 24,false),none,none,some (some 29,false),some (some 29,false),some (some 29,false),none] [1,7,8,9,10,33] [(69,0)] h fun ac wd h => ?_
      injection al with al; subst al
      exact ⟨true,rfl,h.z⟩
     ·
      rcases i2 al with ⟨ap,al⟩ | ⟨ap,al⟩
      ·
       refine qeg [] [none,none,none,none,none,some (some 18,false),some (some 18,false),some (some 18,false),some (some 18,false),none,none,some (some 24,false),some (some 24,false),some (some 24,false),none,none,some (some 29,false),some (some 29,false),some (some 29,false),none] [1,7,8,9,10,33] [(69,0)] h fun ac wd h => ?_
       injection al with al; subst al
       exact ⟨true,rfl,h.z⟩
      ·
       refine qeg [] [none,none,none,none,none,some (some 18,false),some (some 18,false),some (some 18,false),some (some 18,false),none,none,some (some 24,false),some (some 24,false),some (some 24,false),none,none,some (some 29,false),some (some 29,false),some (some 29,false),none] [1,7,8,9,10,33] [(69,0)] h fun ac wd h => ?_
       injection al with al; subst al
       exact ⟨decide (af.Letter ≥ 4),rfl,h.z⟩
   ·
    rintro ac wd ⟨am,rfl,h⟩
    (try dsimp only at ad)
    rcases i2b ad with ⟨aq,ad⟩ | ⟨aq,ad⟩
    ·
     refine kT h ?_
     refine qs 92 [] [4] [] h fun ac wd h => ?_
     refine wp_ret ?_
     injection ad with ad
     subst ad
     exact rE h [.tmp 4]
    ·
     refine kF h ?_
     refine wp_skip ?_
     change Code.wp Try.prog _ _ _ _
     refine qe [] [1,5,8,9,10] [] h fun ac wd h => ?_
     change Code.wp Try.prog _ _ _ _
     refine qe [] [1,5,8,9,10] [] h fun ac wd h => ?_
     exact ⟨nf,Nat.lt_succ_self nf,af.Seq,(IntKind.wrap .i64 (ab + 1)),ad,h.z⟩
  ·
   refine kF h ?_
   refine wp_exit ?_
   change Code.wp Try.prog _ _ _ _
   obtain ⟨ar,au,ad⟩ := Option.bind_eq_some_iff.1 ad
   refine r_seqJ (fun ac wd => ∃ (av : Bool),av = ar ∧ SL ⟨wb,S,Φ,P0⟩ 43 74 [(4,.one (.d (.bool av)))] [] ac wd) ?_ ?_
   ·
    rcases i2 au with ⟨aw,au⟩ | ⟨aw,au⟩
    ·
     refine qeg [] [none,none,none,some (some 39,true),some (some 39,true),none,none] [4] [] h fun ac wd h => ?_
     injection au with au; subst au
     exact ⟨decide (a1 ≤ 500),rfl,h.z⟩
    ·
     refine qeg [] [none,none,none,some (some 39,true),some (some 39,true),none,none] [4] [] h fun ac wd h => ?_
     injection au with au; subst au
     exact ⟨false,rfl,h.z⟩
   ·
    rintro ac wd ⟨av,rfl,h⟩
    (try dsimp only at ad)
    refine wp_ret ?_
    injection ad with ad
    subst ad
    exact rE h [.tmp 4]

theorem L_plain_Right_ok {a0 : TApp} {a1 : TConf} {r : Bool} (hD : L_plain_Right a0 a1 = some r) :
  CallH Try.prog 46 [.agg (cTApp a0),.agg (cTConf a1)] []
   (.one (.d (.bool r))) [] := by
 unfold L_plain_Right at hD
 refine rc Try.func46 rfl Try.ntmps46 fun S Φ P0 wb ac h => ?_
 refine qs 4 [] [2,3] [(1,0),(2,0)] h fun ac wd h => ?_
 refine wp_seq ?_
 obtain ⟨aa,ab,hD⟩ := Option.bind_eq_some_iff.1 hD
 refine r_seqJ (fun ac wd => ∃ (ad : Bool),ad = aa ∧ SL ⟨wb,S,Φ,P0⟩ 83 39 [(2,.one (.ptr (1,0) 0)),(3,.one (.ptr (2,0) 0)),(43,.one (.d (.bool ad)))] [((1,0),some (.box 53 (cTApp a0))),((2,0),some (.box 104 (cTConf a1)))] ac wd) ?_ ?_
 ·
  obtain ⟨ae,af,ab⟩ := oB ab
  rcases i2b ab with ⟨ag,ab⟩ | ⟨ag,ab⟩
  ·
   rcases i2e ab with ⟨ah,ab⟩ | ⟨ah,ab⟩
   ·
    rcases i2e ab with ⟨ai,ab⟩ | ⟨ai,ab⟩
    ·
     have aj := L_table_Right_ok af
     refine qeg [factE 8 aj] [none,none,none,none,none,none,none,some (some 15,false),some (some 15,false),some (some 15,false),some (some 15,false),some (some 15,false),some (some 15,false),some (some 15,false),none,none,some (some 24,false),some (some 24,false),some (some 24,false),some (some 24,false),some (some 24,false),some (some 24,false),some (some 24,false),some (some 24,false),none,none,some (some 34,false),some (some 34,false),some (some 34,false),some (some 34,false),some (some 34,false),some (some 34,false),some (some 34,false),some (some 34,false),none] [2,3,43] [(1,0),(2,0)] h fun ac wd h => ?_
     injection ab with ab; subst ab
     exact ⟨!(decide ((a1.Sent.length : Int) = (a0.G.Links.length : Int))),rfl,h.z⟩
    ·
     have aj := L_table_Right_ok af
     refine qeg [factE 8 aj] [none,none,none,none,none,none,none,some (some 15,false),some (some 15,false),some (some 15,false),some (some 15,false),some (some 15,false),some (some 15,false),some (some 15,false),none,none,some (some 24,false),some (some 24,false),some (some 24,false),some (some 24,false),some (some 24,false),some (some 24,false),some (some 24,false),some (some 24,false),none,none,some (some 34,false),some (some 34,false),some (some 34,false),some (some 34,false),some (some 34,false),some (some 34,false),some (some 34,false),some (some 34,false),none] [2,3,43] [(1,0),(2,0)] h fun ac wd h => ?_
     injection ab with ab; subst ab
     exact ⟨true,rfl,h.z⟩
   ·
    have aj := L_table_Right_ok af
    refine qeg [factE 8 aj] [none,none,none,none,none,none,none,some (some 15,false),some (some 15,false),some (some 15,false),some (some 15,false),some (some 15,false),some (some 15,false),some (some 15,false),none,none,some (some 24,false),some (some 24,false),some (some 24,false),some (some 24,false),some (some 24,false),some (some 24,false),some (some 24,false),some (some 24,false),none,none,some (some 34,false),some (some 34,false),some (some 34,false),some (some 34,false),some (some 34,false),some (some 34,false),some (some 34,false),some (some 34,false),none] [2,3,43] [(1,0),(2,0)] h fun ac wd h => ?_
    injection ab with ab; subst ab
    exact ⟨true,rfl,h.z⟩
  ·
   have aj := L_table_Right_ok af
   refine qeg [factE 8 aj] [none,none,none,none,none,none,none,some (some 15,false),some (some 15,false),some (some 15,false),some (some 15,false),some (some 15,false),some (some 15,false),some (some 15,false),none,none,some (some 24,false),some (some 24,false),some (some 24,false),some (some 24,false),some (some 24,false),some (some 24,false),some (some 24,false),some (some 24,false),none,none,some (some 34,false),some (some 34,false),some (some 34,false),some (some 34,false),some (some 34,false),some (some 34,false),some (some 34,false),some (some 34,false),none] [2,3,43] [(1,0),(2,0)] h fun ac wd h => ?_
   injection ab with ab; subst ab
   exact ⟨true,rfl,h.z⟩
 ·
  rintro ac wd ⟨ad,rfl,h⟩
  (try dsimp only at hD)
  rcases i2b hD with ⟨ak,hD⟩ | ⟨ak,hD⟩
  ·
   refine kT h ?_
   refine qs 40 [] [4] [] h fun ac wd h => ?_
   refine wp_ret ?_
   injection hD with hD
   subst hD
   exact rE h [.tmp 4]
  ·
   refine kF h ?_
   refine wp_skip ?_
   change Code.wp Try.prog _ _ _ _
   refine wp_seq ?_
   refine qs 43 [] [2,3,45,46,47] [(1,0),(2,0)] h fun ac wd h => ?_
   obtain ⟨al,am,hD⟩ := Option.bind_eq_some_iff.1 hD
   refine r_meet (fun ac wd => (.inl ()) = al ∧ SL ⟨wb,S,Φ,P0⟩ 83 86 [(3,.one (.ptr (2,0) 0))] [((2,0),some (.box 104 (cTConf a1)))] ac wd) ?_ ?_
   ·
    refine wp_block ?_
    refine r_while (fun nf ac wd => ∃ (an : Int),L_plain_Right_l1 a0 a1 nf an = some al ∧ SL ⟨wb,S,Φ,P0⟩ 83 85 [(2,.one (.ptr (1,0) 0)),(3,.one (.ptr (2,0) 0)),(45,.one (.d (.sl (List.map eI a1.States)))),(46,.one (.d (.int .i64 (a1.States.length : Int)))),(47,.one (.d (.int .i64 an)))] [((1,0),some (.box 53 (cTApp a0))),((2,0),some (.box 104 (cTConf a1)))] ac wd) (((a1.States.length : Int) - 0).toNat + 1) ⟨0,am,h.z⟩ (fun nf ac wd hJ => ?_)
    obtain ⟨an,ao,h⟩ := hJ
    cases nf with
    | zero => rw [L_plain_Right_l1] at ao; cases ao
    | succ nf =>
     rw [L_plain_Right_l1] at ao
     refine qs 86 [] [2,3,45,46,47,48] [(1,0),(2,0)] h fun ac wd h => ?_
     refine wp_seq ?_
     rcases i2 ao with ⟨ap,ao⟩ | ⟨ap,ao⟩
     ·
      refine kT h ?_
      refine wp_skip ?_
      change Code.wp Try.prog _ _ _ _
      refine wp_seq ?_
      refine wp_block ?_
      obtain ⟨aq,ar,au,av,aw,ao⟩ := aB ao
      refine qs 91 [] [2,3,5,6,45,46,47] [(1,0),(2,0)] h fun ac wd h => ?_
      obtain ⟨ax,ay,ao⟩ := Option.bind_eq_some_iff.1 ao
      refine r_seqJ (fun ac wd => ∃ (az : Bool),az = ax ∧ SL ⟨wb,S,Φ,P0⟩ 83 104 [(2,.one (.ptr (1,0) 0)),(3,.one (.ptr (2,0) 0)),(45,.one (.d (.sl (List.map eI a1.States)))),(46,.one (.d (.int .i64 (a1.States.length : Int)))),(47,.one (.d (.int .i64 an))),(64,.one (.d (.bool az)))] [((1,0),some (.box 53 (cTApp a0))),((2,0),some (.box 104 (cTConf a1)))] ac wd) ?_ ?_
      ·
       rcases i2 ay with ⟨aA,ay⟩ | ⟨aA,ay⟩
       ·
        refine qeg [] [none,none,none,some (some 54,false),some (some 54,false),some (some 54,false),some (some 54,false),some (some 54,false),some (some 54,false),some (some 54,false),some (some 54,false),some (some 54,false),none] [2,3,45,46,47,64] [(1,0),(2,0)] h fun ac wd h => ?_
        injection ay with ay; subst ay
        exact ⟨true,rfl,h.z⟩
       ·
        obtain ⟨aC,aD,aE,aF,aG,ay⟩ := aB ay
        refine qeg [] [none,none,none,some (some 54,false),some (some 54,false),some (some 54,false),some (some 54,false),some (some 54,false),some (some 54,false),some (some 54,false),some (some 54,false),some (some 54,false),none] [2,3,45,46,47,64] [(1,0),(2,0)] h fun ac wd h => ?_
        injection ay with ay; subst ay
        exact ⟨decide (aq ≥ (aC.States.length : Int)),rfl,h.z⟩
      ·
       rintro ac wd ⟨az,rfl,h⟩
       (try dsimp only at ao)
       rcases i2b ao with ⟨aH,ao⟩ | ⟨aH,ao⟩
       ·
        refine kT h ?_
        refine qs 105 [] [4] [] h fun ac wd h => ?_
        refine wp_ret ?_
        injection ao with ao
        subst ao
        (try dsimp only at hD)
        injection hD with hD
        subst hD
        exact rE h [.tmp 4]
       ·
        refine kF h ?_
        refine wp_skip ?_
        change Code.wp Try.prog _ _ _ _
        refine qe [] [2,3,45,46,47] [(1,0),(2,0)] h fun ac wd h => ?_
        exact ⟨nf,Nat.lt_succ_self nf,(IntKind.wrap .i64 (an + 1)),ao,h.z⟩
     ·
      refine kF h ?_
      refine wp_exit ?_
      injection ao with ao; subst ao
      exact ⟨rfl,h.z⟩
   ·
    rintro ac wd ⟨rfl,h⟩
    (try dsimp only at hD)
    refine wp_seq ?_
    refine qs 90 [] [3,67,68,69] [(2,0)] h fun ac wd h => ?_
    refine wp_block ?_
    refine r_while (fun nf ac wd => ∃ (aI : Int),L_plain_Right_l2 a1 nf aI = some r ∧ SL ⟨wb,S,Φ,P0⟩ 83 122 [(3,.one (.ptr (2,0) 0)),(67,.one (.d (.sl (List.map (eL eTMsg) a1.Links)))),(68,.one (.d (.int .i64 (a1.Links.length : Int)))),(69,.one (.d (.int .i64 aI)))] [((2,0),some (.box 104 (cTConf a1)))] ac wd) (((a1.Links.length : Int) - 0).toNat + 1) ⟨0,hD,h.z⟩ (fun nf ac wd hJ => ?_)
    obtain ⟨aI,aJ,h⟩ := hJ
    cases nf with
    | zero => rw [L_plain_Right_l2] at aJ; cases aJ
    | succ nf =>
     rw [L_plain_Right_l2] at aJ
     refine qs 123 [] [3,67,68,69,70] [(2,0)] h fun ac wd h => ?_
     refine wp_seq ?_
     rcases i2 aJ with ⟨aK,aJ⟩ | ⟨aK,aJ⟩
     ·
      refine kT h ?_
      refine wp_skip ?_
      change Code.wp Try.prog _ _ _ _
      refine wp_seq ?_
      refine wp_block ?_
      obtain ⟨aL,aM,aN,aO,aP,aJ⟩ := aB aJ
      refine qs 128 [] [3,7,8,67,68,69] [(2,0)] h fun ac wd h => ?_
      obtain ⟨aQ,aR,aS,aT,aU,aJ⟩ := aB aJ
      obtain ⟨aV,aW,aJ⟩ := oB aJ
      have aX := L_plain_may_ok aW
      refine qs 136 [factE 134 aX] [3,67,68,69,81] [(2,0)] h fun ac wd h => ?_
      rcases i2b aJ with ⟨aY,aJ⟩ | ⟨aY,aJ⟩
      ·
       refine kF h ?_
       refine wp_skip ?_
       change Code.wp Try.prog _ _ _ _
       refine qe [] [3,67,68,69] [(2,0)] h fun ac wd h => ?_
       exact ⟨nf,Nat.lt_succ_self nf,(IntKind.wrap .i64 (aI + 1)),aJ,h.z⟩
      ·
       refine kT h ?_
       refine qs 137 [] [4] [] h fun ac wd h => ?_
       refine wp_ret ?_
       injection aJ with aJ
       subst aJ
       exact rE h [.tmp 4]
     ·
      refine kF h ?_
      refine wp_exit ?_
      change Code.wp Try.prog _ _ _ _
      refine qs 124 [] [4] [] h fun ac wd h => ?_
      refine wp_ret ?_
      injection aJ with aJ
      subst aJ
      exact rE h [.tmp 4]

theorem L_cut_sides_own {a0 : TGraph} {a1 : (List Int)} {r : (List Int)} (hD : L_cut_sides a0 a1 = some r) :
  CallH Try.prog 89 [.agg (cTGraph a0),.one (.d (.sl (List.map eI a1)))] []
   (.one (.fnp 118 [((1,0),0),((1,1),0)])) [((1,0),some (.box 25 (cTGraph a0))),((1,1),some (.box 39 [.own (1,2) r.length])),((1,2),some (.row 3 1 (dat (List.map eI r))))] := by
 unfold L_cut_sides at hD
 refine rc Try.func89 rfl Try.ntmps89 fun S Φ P0 wb ac h => ?_
 refine qs 3 [] [1,2] [(1,0)] h fun ac wd h => ?_
 obtain ⟨aa,hD⟩ := iT hD
 obtain ⟨ab,hD⟩ := iT hD
 obtain ⟨ad,hD⟩ := iT hD
 refine qs 8 [] [1,2,5] [(1,0),(5,0),(6,0)] h fun ac wd h => ?_
 obtain ⟨ae,af,hD⟩ := vB hD
 have h := h.same [1,2,5] [(1,0),(5,0),(6,0)] 8 [(1,.one (.d (.sl (List.map eI a1)))),(2,.one (.ptr (1,0) 0)),(5,.one (.ptr (6,0) 0))]
  [((1,0),some (.box 25 (cTGraph a0))),((5,0),some (.row 3 1 (dat (List.map eI ae)))),((6,0),some (.box 39 [.own (5,0) ae.length]))]
  (by simp only [EZ,simprocAttr,aa,ab,ad,dat_open,← af] <;> rfl)
 have ag : ((a1.take ae.length) ++ ae.drop (a1.take ae.length).length).length = ae.length := by simp only [List.append_assoc,List.length_append,List.length_take,List.length_drop]; omega
 simp only [List.append_assoc,List.length_append,List.length_take,List.length_drop] at ag
 refine qs 11 [] [2,5] [(1,0),(5,0),(6,0)] h fun ac wd h => ?_
 refine wp_seq ?_
 obtain ⟨ah,ai,hD⟩ := vB hD
 have h := h.same [2,5] [(1,0),(5,0),(6,0)] 11 [(2,.one (.ptr (1,0) 0)),(5,.one (.ptr (6,0) 0))]
  [((1,0),some (.box 25 (cTGraph a0))),((5,0),some (.row 3 1 (dat (List.map eI ah)))),((6,0),some (.box 39 [.own (5,0) ah.length]))]
  (by simp only [EZ,simprocAttr,aa,ab,ad,ag,dat_open,← ai] <;> rfl)
 refine qs 14 [] [2,5,14,15] [(1,0),(5,0),(6,0)] h fun ac wd h => ?_
 refine wp_block ?_
 refine r_while (fun nf ac wd => ∃ (aj : Int) (ak : List Int),L_cut_sides_l1 ah nf aj ak = some r ∧ SL ⟨wb,S,Φ,P0⟩ 28 42 [(2,.one (.ptr (1,0) 0)),(5,.one (.ptr (6,0) 0)),(14,.one (.d (.int .i64 (ah.length : Int)))),(15,.one (.d (.int .i64 aj)))] [((1,0),some (.box 25 (cTGraph a0))),((5,0),some (.row 3 1 (dat (List.map eI ak)))),((6,0),some (.box 39 [.own (5,0) ak.length]))] ac wd) (((ah.length : Int) - 0).toNat + 1) ⟨0,ah,hD,h.z⟩ (fun nf ac wd hJ => ?_)
 obtain ⟨aj,ak,al,h⟩ := hJ
 cases nf with
 | zero => rw [L_cut_sides_l1] at al; cases al
 | succ nf =>
  rw [L_cut_sides_l1] at al
  refine qs 43 [] [2,5,14,15,16] [(1,0),(5,0),(6,0)] h fun ac wd h => ?_
  refine wp_seq ?_
  rcases i2 al with ⟨am,al⟩ | ⟨am,al⟩
  ·
   refine kT h ?_
   refine wp_skip ?_
   change Code.wp Try.prog _ _ _ _
   refine wp_seq ?_
   refine wp_block ?_
   refine qs 45 [] [2,5,6,14,15] [(1,0),(5,0),(6,0)] h fun ac wd h => ?_
   obtain ⟨an,ao,ap,aq,ar,al⟩ := aB al
   refine de [] [2,5,14,15] [(1,0),(5,0),(6,0)] h fun ac wd h => ?_
   change Code.wp Try.prog _ _ _ _
   refine qe [] [2,5,14,15] [(1,0),(5,0),(6,0)] h fun ac wd h => ?_
   exact ⟨nf,Nat.lt_succ_self nf,(IntKind.wrap .i64 (aj + 1)),(ak.set aj.toNat (max an 0)),al,h.z⟩
  ·
   refine kF h ?_
   refine wp_exit ?_
   change Code.wp Try.prog _ _ _ _
   refine qs 45 [] [4] [(1,0),(5,0),(6,0)] h fun ac wd h => ?_
   refine wp_ret ?_
   have h := h.sw (1,1) (6,0) 45
   have h := h.sw (1,2) (5,0) 45
   injection al with al
   subst al
   exact rO h [.tmp 4] [(1,0),(1,1),(1,2)]

theorem L_cut_Where_ok {a0 : TGraph} {a1 : TStep} {r : Int} (hD : L_cut_Where a0 a1 = some r) :
  CallH Try.prog 86 [.agg (cTGraph a0),.agg (cTStep a1)] []
   (.one (.d (.int .i64 r))) [] := by
 unfold L_cut_Where at hD
 refine rc Try.func86 rfl Try.ntmps86 fun S Φ P0 wb ac h => ?_
 refine qs 4 [] [2,3] [(1,0),(2,0)] h fun ac wd h => ?_
 refine wp_seq ?_
 refine wp_block ?_
 obtain ⟨aa,ab,hD⟩ := Option.bind_eq_some_iff.1 hD
 refine r_seqJ (fun ac wd => ∃ (ad : Bool),ad = aa ∧ SL ⟨wb,S,Φ,P0⟩ 47 20 [(2,.one (.ptr (1,0) 0)),(3,.one (.ptr (2,0) 0)),(5,.one (.d (.bool ad)))] [((1,0),some (.box 25 (cTGraph a0))),((2,0),some (.box 125 (cTStep a1)))] ac wd) ?_ ?_
 ·
  rcases i2e ab with ⟨ae,ab⟩ | ⟨ae,ab⟩
  ·
   rcases i2 ab with ⟨af,ab⟩ | ⟨af,ab⟩
   ·
    refine qeg [] [none,none,none,none,some (some 9,true),some (some 9,true),some (some 9,true),none,none,some (some 14,true),some (some 14,true),some (some 14,true),some (some 14,true),some (some 14,true),none,none] [2,3,5] [(1,0),(2,0)] h fun ac wd h => ?_
    injection ab with ab; subst ab
    exact ⟨decide (a1.Node < a0.N),rfl,h.z⟩
   ·
    refine qeg [] [none,none,none,none,some (some 9,true),some (some 9,true),some (some 9,true),none,none,some (some 14,true),some (some 14,true),some (some 14,true),some (some 14,true),some (some 14,true),none,none] [2,3,5] [(1,0),(2,0)] h fun ac wd h => ?_
    injection ab with ab; subst ab
    exact ⟨false,rfl,h.z⟩
  ·
   refine qeg [] [none,none,none,none,some (some 9,true),some (some 9,true),some (some 9,true),none,none,some (some 14,true),some (some 14,true),some (some 14,true),some (some 14,true),some (some 14,true),none,none] [2,3,5] [(1,0),(2,0)] h fun ac wd h => ?_
   injection ab with ab; subst ab
   exact ⟨false,rfl,h.z⟩
 ·
  rintro ac wd ⟨ad,rfl,h⟩
  (try dsimp only at hD)
  rcases i2b hD with ⟨ag,hD⟩ | ⟨ag,hD⟩
  ·
   refine kT h ?_
   refine qs 23 [] [4] [] h fun ac wd h => ?_
   refine wp_ret ?_
   injection hD with hD
   subst hD
   exact rE h [.tmp 4]
  ·
   refine kF h ?_
   obtain ⟨ah,ai,hD⟩ := Option.bind_eq_some_iff.1 hD
   refine r_seqJ (fun ac wd => ∃ (aj : Bool),aj = ah ∧ SL ⟨wb,S,Φ,P0⟩ 47 37 [(2,.one (.ptr (1,0) 0)),(3,.one (.ptr (2,0) 0)),(23,.one (.d (.bool aj)))] [((1,0),some (.box 25 (cTGraph a0))),((2,0),some (.box 125 (cTStep a1)))] ac wd) ?_ ?_
   ·
    rcases i2e ai with ⟨ak,ai⟩ | ⟨ak,ai⟩
    ·
     rcases i2 ai with ⟨al,ai⟩ | ⟨al,ai⟩
     ·
      refine qeg [] [none,none,none,none,some (some 27,true),some (some 27,true),some (some 27,true),none,none,some (some 32,true),some (some 32,true),some (some 32,true),some (some 32,true),some (some 32,true),some (some 32,true),none,none] [2,3,23] [(1,0),(2,0)] h fun ac wd h => ?_
      injection ai with ai; subst ai
      exact ⟨decide (a1.Link < (a0.Links.length : Int)),rfl,h.z⟩
     ·
      refine qeg [] [none,none,none,none,some (some 27,true),some (some 27,true),some (some 27,true),none,none,some (some 32,true),some (some 32,true),some (some 32,true),some (some 32,true),some (some 32,true),some (some 32,true),none,none] [2,3,23] [(1,0),(2,0)] h fun ac wd h => ?_
      injection ai with ai; subst ai
      exact ⟨false,rfl,h.z⟩
    ·
     refine qeg [] [none,none,none,none,some (some 27,true),some (some 27,true),some (some 27,true),none,none,some (some 32,true),some (some 32,true),some (some 32,true),some (some 32,true),some (some 32,true),some (some 32,true),none,none] [2,3,23] [(1,0),(2,0)] h fun ac wd h => ?_
     injection ai with ai; subst ai
     exact ⟨false,rfl,h.z⟩
   ·
    rintro ac wd ⟨aj,rfl,h⟩
    (try dsimp only at hD)
    rcases i2b hD with ⟨am,hD⟩ | ⟨am,hD⟩
    ·
     refine kT h ?_
     obtain ⟨an,ao,ap,aq,ar,hD⟩ := aB hD
     refine qs 45 [] [4] [] h fun ac wd h => ?_
     refine wp_ret ?_
     injection hD with hD
     subst hD
     exact rE h [.tmp 4]
    ·
     refine kF h ?_
     refine wp_skip ?_
     change Code.wp Try.prog _ _ _ _
     refine qs 38 [] [4] [] h fun ac wd h => ?_
     refine wp_ret ?_
     injection hD with hD
     subst hD
     exact rE h [.tmp 4]

theorem L_cut_side_own {a0 : TStep} {a1 : TGraph} {a2 : (List Int)} {r : Bool × (List Int)} (hD : L_cut_side a0 a1 a2 = some r) :
  CallH Try.prog 118 [.agg (cTStep a0),.one (.ptr (0,0) 0),.one (.ptr (0,1) 0)] [((0,0),some (.box 25 (cTGraph a1))),((0,1),some (.box 39 [.own (0,2) a2.length])),((0,2),some (.row 3 1 (dat (List.map eI a2))))]
   (.one (.d (.bool r.1))) [((0,0),some (.box 25 (cTGraph a1))),((0,1),some (.box 39 [.own (0,2) r.2.length])),((0,2),some (.row 3 1 (dat (List.map eI r.2))))] := by
 unfold L_cut_side at hD
 refine rc Try.func118 rfl Try.ntmps118 (hz := by simp only [zeroB,uIds,EZ,simprocAttr] <;> rfl) fun S Φ P0 wb ac h => ?_
 refine qs 3 [] [1,2,3] [(0,0),(0,1),(0,2),(1,0)] h fun ac wd h => ?_
 obtain ⟨aa,ab,hD⟩ := oB hD
 have ad := L_cut_Where_ok ab
 refine qs 7 [factE 5 ad] [2,5] [(0,0),(0,1),(0,2)] h fun ac wd h => ?_
 refine wp_seq ?_
 refine qs 9 [] [2,5,10] [(0,0),(0,1),(0,2)] h fun ac wd h => ?_
 rcases i2 hD with ⟨ae,hD⟩ | ⟨ae,hD⟩
 ·
  refine kT h ?_
  refine qs 10 [] [4] [(0,0),(0,1),(0,2)] h fun ac wd h => ?_
  refine wp_ret ?_
  injection hD with hD
  subst hD
  exact rO h [.tmp 4] [(0,0),(0,1),(0,2)]
 ·
  refine kF h ?_
  refine wp_skip ?_
  change Code.wp Try.prog _ _ _ _
  obtain ⟨af,ag,ah,ai,aj,hD⟩ := aB hD
  refine qs 16 [] [2,5] [(0,0),(0,1),(0,2)] h fun ac wd h => ?_
  obtain ⟨ak,al,hD⟩ := vB hD
  have h := h.same [2,5] [(0,0),(0,1),(0,2)] 16 [(2,.one (.ptr (0,1) 0)),(5,.one (.d (.int .i64 aa)))]
   [((0,0),some (.box 25 (cTGraph a1))),((0,1),some (.box 39 [.own (0,2) ak.length])),((0,2),some (.row 3 1 (dat (List.map eI ak))))]
   (by simp only [EZ,simprocAttr,ae,ag,ah,ai,aj,dat_open,← al] <;> rfl)
  obtain ⟨am,an,ao,ap,aq,hD⟩ := aB hD
  refine qs 22 [] [4] [(0,0),(0,1),(0,2)] h fun ac wd h => ?_
  refine wp_ret ?_
  injection hD with hD
  subst hD
  exact rO h [.tmp 4] [(0,0),(0,1),(0,2)]

theorem L_cut_Split_own {a0 : TGraph} {a1 : (List TStep)} {a2 : (List Int)} {r : (List TStep) × (List TStep)} (hD : L_cut_Split a0 a1 a2 = some r) :
  CallH Try.prog 40 [.agg (cTGraph a0),.one (.d (.sl (List.map eTStep a1))),.one (.d (.sl (List.map eI a2)))] []
   (.tup [.inr (.own (1,0) r.1.length),.inr (.own (1,1) r.2.length)]) [((1,0),some (.row 125 5 (dat (List.map eTStep r.1)))),((1,1),some (.row 125 5 (dat (List.map eTStep r.2))))] := by
 unfold L_cut_Split at hD
 refine rc Try.func40 rfl Try.ntmps40 fun S Φ P0 wb ac h => ?_
 refine qs 4 [] [1,2,3,6,7] [(1,0)] h fun ac wd h => ?_
 obtain ⟨aa,ab,hD⟩ := oB hD
 have ad := ((L_cut_sides_own ab).cls 6).z
 refine qs 8 [factO ad] [1,6,7,8] [(6,0),(6,1),(6,2)] h fun ac wd h => ?_
 refine wp_seq ?_
 refine qs 11 [] [6,7,8,14,15,16] [(6,0),(6,1),(6,2)] h fun ac wd h => ?_
 refine wp_block ?_
 have h := SL.bornS h 6 125 5 (by simp only [EZ,simprocAttr, *] <;> rfl)
 have h := SL.bornS h 7 125 5 (by simp only [EZ,simprocAttr, *] <;> rfl)
 refine r_while (fun nf ac wd => ∃ (ae : Int) (af : List TStep) (ag : List TStep) (ah : List Int),L_cut_Split_l1 a0 a1 nf ae af ag ah = some r ∧ SL ⟨wb,S,Φ,P0⟩ 34 42 [(6,.one (.own (11,0) af.length)),(7,.one (.own (12,0) ag.length)),(8,.one (.fnp 118 [((6,0),0),((6,1),0)])),(14,.one (.d (.sl (List.map eTStep a1)))),(15,.one (.d (.int .i64 (a1.length : Int)))),(16,.one (.d (.int .i64 ae)))] [((6,0),some (.box 25 (cTGraph a0))),((6,1),some (.box 39 [.own (6,2) ah.length])),((6,2),some (.row 3 1 (dat (List.map eI ah)))),((11,0),some (.row 125 5 (dat (List.map eTStep af)))),((12,0),some (.row 125 5 (dat (List.map eTStep ag))))] ac wd) (((a1.length : Int) - 0).toNat + 1) ⟨0,([] : List TStep),([] : List TStep),aa,hD,h.z⟩ (fun nf ac wd hJ => ?_)
 obtain ⟨ae,af,ag,ah,ai,h⟩ := hJ
 cases nf with
 | zero => rw [L_cut_Split_l1] at ai; cases ai
 | succ nf =>
  rw [L_cut_Split_l1] at ai
  refine qs 43 [] [6,7,8,14,15,16,17] [(6,0),(6,1),(6,2),(11,0),(12,0)] h fun ac wd h => ?_
  refine wp_seq ?_
  rcases i2 ai with ⟨aj,ai⟩ | ⟨aj,ai⟩
  ·
   refine kT h ?_
   refine wp_skip ?_
   change Code.wp Try.prog _ _ _ _
   obtain ⟨ak,al,ai⟩ := Option.bind_eq_some_iff.1 ai
   refine r_seqJ (fun ac wd => ∃ (am : List TStep) (an : List TStep) (ao : List Int),(am,an,ao) = ak ∧ SL ⟨wb,S,Φ,P0⟩ 34 55 [(6,.one (.own (53,0) am.length)),(7,.one (.own (12,0) an.length)),(8,.one (.fnp 118 [((6,0),0),((6,1),0)])),(14,.one (.d (.sl (List.map eTStep a1)))),(15,.one (.d (.int .i64 (a1.length : Int)))),(16,.one (.d (.int .i64 ae)))] [((6,0),some (.box 25 (cTGraph a0))),((6,1),some (.box 39 [.own (6,2) ao.length])),((6,2),some (.row 3 1 (dat (List.map eI ao)))),((12,0),some (.row 125 5 (dat (List.map eTStep an)))),((53,0),some (.row 125 5 (dat (List.map eTStep am))))] ac wd) ?_ ?_
   ·
    refine wp_block ?_
    obtain ⟨ap,aq,ar,au,av,al⟩ := aB al
    refine qs 47 [] [6,7,8,10,14,15,16] [(6,0),(6,1),(6,2),(11,0),(12,0),(45,0)] h fun ac wd h => ?_
    obtain ⟨aw,ax,al⟩ := oB al
    have ay := ((((L_cut_side_own ax).nm (0,0) (6,0)).nm (0,1) (6,1)).nm (0,2) (6,2)).z
    refine qs 50 [factR ay] [6,7,8,10,14,15,16,22] [(6,0),(6,1),(6,2),(11,0),(12,0),(45,0)] h fun ac wd h => ?_
    rcases i2b al with ⟨az,al⟩ | ⟨az,al⟩
    ·
     refine kT h ?_
     obtain ⟨aA,al⟩ := iT al
     refine qe [] [6,7,8,14,15,16] [(6,0),(6,1),(6,2),(12,0),(53,0)] h fun ac wd h => ?_
     injection al with al; subst al
     exact ⟨(af ++ [ap]),ag,aw.2,rfl,h.z⟩
    ·
     refine kF h ?_
     obtain ⟨aC,al⟩ := iT al
     refine qe [] [6,7,8,14,15,16] [(6,0),(6,1),(6,2),(11,0),(53,0)] h fun ac wd h => ?_
     have h := h.sw (53,0) (11,0) 55
     have h := h.sw (12,0) (11,0) 55
     injection al with al; subst al
     exact ⟨af,(ag ++ [ap]),aw.2,rfl,h.z⟩
   ·
    rintro ac wd ⟨am,an,ao,rfl,h⟩
    (try dsimp only at ai)
    refine qe [] [6,7,8,14,15,16] [(6,0),(6,1),(6,2),(12,0),(53,0)] h fun ac wd h => ?_
    have h := h.sw (11,0) (53,0) 57
    exact ⟨nf,Nat.lt_succ_self nf,(IntKind.wrap .i64 (ae + 1)),am,an,ao,ai,h.z⟩
  ·
   refine kF h ?_
   refine wp_exit ?_
   change Code.wp Try.prog _ _ _ _
   refine qs 47 [] [6,7] [(11,0),(12,0)] h fun ac wd h => ?_
   refine wp_ret ?_
   have h := h.sw (1,0) (11,0) 47
   have h := h.sw (1,1) (12,0) 47
   injection ai with ai
   subst ai
   exact rO h [.tmp 6,.tmp 7] [(1,0),(1,1)]
theorem L_cut_Split_ok {a0 : TGraph} {a1 : (List TStep)} {a2 : (List Int)} {r : (List TStep) × (List TStep)} (hD : L_cut_Split a0 a1 a2 = some r) :
  CallH Try.prog 40 [.agg (cTGraph a0),.one (.d (.sl (List.map eTStep a1))),.one (.d (.sl (List.map eI a2)))] []
   (.tup [.inr (.d (.sl (List.map eTStep r.1))),.inr (.d (.sl (List.map eTStep r.2)))]) [] :=
 (L_cut_Split_own hD).fr

end Go.Proofs.Ytabbejabdkkaiaa
