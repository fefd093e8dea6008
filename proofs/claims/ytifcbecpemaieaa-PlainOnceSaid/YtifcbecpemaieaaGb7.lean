/- Functions as typed ones,and that the program's functions answer as these do. No condition. -/
import Derived.Test.YtifcbecpemaieaaGb0
import Derived.Test.YtifcbecpemaieaaGd
set_option linter.unusedSimpArgs false
set_option linter.unusedVariables false
set_option maxRecDepth 20000
set_option maxHeartbeats 4000000
namespace Go.Proofs.Ytifcbecpemaieaa
open Go.RowKit

theorem L_ref04_At_ok {a0 : (List TNode)} {a1 : Int} {a2 : Int} {r : TState} (hD : L_ref04_At a0 a1 a2 = some r) :
  CallH Try.prog 36 [.one (.d (.sl (List.map eTNode a0))),.one (.d (.int .i64 a1)),.one (.d (.int .i64 a2))] []
   (.agg [.d (.int .i64 r.Mode),.d (.sl (List.map eI r.Waits)),.d (.sl (List.map eTPick r.Picks)),.d (.sl (List.map eTTake r.Takes))]) [] := by
 unfold L_ref04_At at hD
 refine rc Try.func36 rfl Try.ntmps36 fun S Φ P0 wb ac h => ?_
 refine qs 2 [] [0,1,2,6] [(1,0)] h fun ac wd h => ?_
 refine wp_seq ?_
 obtain ⟨e30,hE31,hD⟩ := Option.bind_eq_some_iff.1 hD
 refine r_seqJ (fun ac wd => ∃ (b29 : Bool),b29 = e30 ∧ SL ⟨wb,S,Φ,P0⟩ 38 24 [(0,.one (.d (.sl (List.map eTNode a0)))),(1,.one (.d (.int .i64 a1))),(2,.one (.d (.int .i64 a2))),(6,.one (.ptr (1,0) 0)),(28,.one (.d (.bool b29)))] [((1,0),some (.box 66 [.d (.int .i64 0),.nil,.nil,.nil]))] ac wd) ?_ ?_
 ·
  rcases i2 hE31 with ⟨hb32,hE31⟩ | ⟨hb32,hE31⟩
  ·
   refine qeg [] [none,none,none,some (some 9,false),some (some 9,false),some (some 9,false),some (some 9,false),none,none,some (some 15,false),some (some 15,false),none,none,some (some 19,false),some (some 19,false),some (some 19,false),some (some 19,false),some (some 19,false),some (some 19,false),some (some 19,false),some (some 19,false),none] [0,1,2,6,28] [(1,0)] h fun ac wd h => ?_
   injection hE31 with hE31; subst hE31
   exact ⟨true,rfl,h.z⟩
  ·
   rcases i2 hE31 with ⟨hb33,hE31⟩ | ⟨hb33,hE31⟩
   ·
    refine qeg [] [none,none,none,some (some 9,false),some (some 9,false),some (some 9,false),some (some 9,false),none,none,some (some 15,false),some (some 15,false),none,none,some (some 19,false),some (some 19,false),some (some 19,false),some (some 19,false),some (some 19,false),some (some 19,false),some (some 19,false),some (some 19,false),none] [0,1,2,6,28] [(1,0)] h fun ac wd h => ?_
    injection hE31 with hE31; subst hE31
    exact ⟨true,rfl,h.z⟩
   ·
    rcases i2 hE31 with ⟨hb34,hE31⟩ | ⟨hb34,hE31⟩
    ·
     refine qeg [] [none,none,none,some (some 9,false),some (some 9,false),some (some 9,false),some (some 9,false),none,none,some (some 15,false),some (some 15,false),none,none,some (some 19,false),some (some 19,false),some (some 19,false),some (some 19,false),some (some 19,false),some (some 19,false),some (some 19,false),some (some 19,false),none] [0,1,2,6,28] [(1,0)] h fun ac wd h => ?_
     injection hE31 with hE31; subst hE31
     exact ⟨true,rfl,h.z⟩
    ·
     obtain ⟨x35,hx36a,hx36b,hx36c,hx36d,hE31⟩ := aB hE31
     refine qeg [] [none,none,none,some (some 9,false),some (some 9,false),some (some 9,false),some (some 9,false),none,none,some (some 15,false),some (some 15,false),none,none,some (some 19,false),some (some 19,false),some (some 19,false),some (some 19,false),some (some 19,false),some (some 19,false),some (some 19,false),some (some 19,false),none] [0,1,2,6,28] [(1,0)] h fun ac wd h => ?_
     injection hE31 with hE31; subst hE31
     exact ⟨decide (a2 ≥ (x35.States.length : Int)),rfl,h.z⟩
 ·
  rintro ac wd ⟨b29,rfl,h⟩
  (try dsimp only at hD)
  rcases i2b hD with ⟨hb38,hD⟩ | ⟨hb38,hD⟩
  ·
   refine kT h ?_
   refine qs 26 [] [6] [(1,0)] h fun ac wd h => ?_
   refine wp_ret ?_
   injection hD with hD
   subst hD
   exact rE h [.cell 6 66]
  ·
   refine kF h ?_
   refine wp_skip ?_
   change Code.wp Try.prog _ _ _ _
   obtain ⟨x43,hx44a,hx44b,hx44c,hx44d,hD⟩ := aB hD
   obtain ⟨x45,hx46a,hx46b,hx46c,hx46d,hD⟩ := aB hD
   refine qs 33 [] [6] [(1,0)] h fun ac wd h => ?_
   refine wp_ret ?_
   injection hD with hD
   subst hD
   exact rE h [.cell 6 66]

theorem L_ref04_Picked_ok {a0 : (List TNode)} {a1 : Int} {a2 : Int} {a3 : Int} {r : TPick × Bool} (hD : L_ref04_Picked a0 a1 a2 a3 = some r) :
  CallH Try.prog 108 [.one (.d (.sl (List.map eTNode a0))),.one (.d (.int .i64 a1)),.one (.d (.int .i64 a2)),.one (.d (.int .i64 a3))] []
   (.tup [.inl [.d (.int .i64 r.1.Next),.d (.sl (List.map eTSend r.1.Sends))],.inr (.d (.bool r.2))]) [] := by
 unfold L_ref04_Picked at hD
 refine rc Try.func108 rfl Try.ntmps108 fun S Φ P0 wb ac h => ?_
 refine qs 3 [] [0,1,2,3,8] [(1,0)] h fun ac wd h => ?_
 obtain ⟨r18,hc19,hD⟩ := oB hD
 have hc19k := L_ref04_At_ok hc19
 refine qs 9 [factE 6 hc19k] [3,8,10] [(1,0)] h fun ac wd h => ?_
 refine wp_seq ?_
 obtain ⟨e22,hE23,hD⟩ := Option.bind_eq_some_iff.1 hD
 refine r_seqJ (fun ac wd => ∃ (b21 : Bool),b21 = e22 ∧ SL ⟨wb,S,Φ,P0⟩ 29 17 [(3,.one (.d (.int .i64 a3))),(8,.one (.ptr (1,0) 0)),(10,.one (.d (.sl (List.map eTPick r18.Picks)))),(23,.one (.d (.bool b21)))] [((1,0),some (.box 157 [.d (.int .i64 0),.nil]))] ac wd) ?_ ?_
 ·
  rcases i2 hE23 with ⟨hb24,hE23⟩ | ⟨hb24,hE23⟩
  ·
   refine qeg [] [none,none,none,some (some 18,false),some (some 18,false),some (some 18,false),some (some 18,false),none] [3,8,10,23] [(1,0)] h fun ac wd h => ?_
   injection hE23 with hE23; subst hE23
   exact ⟨true,rfl,h.z⟩
  ·
   refine qeg [] [none,none,none,some (some 18,false),some (some 18,false),some (some 18,false),some (some 18,false),none] [3,8,10,23] [(1,0)] h fun ac wd h => ?_
   injection hE23 with hE23; subst hE23
   exact ⟨decide (a3 ≥ (r18.Picks.length : Int)),rfl,h.z⟩
 ·
  rintro ac wd ⟨b21,rfl,h⟩
  (try dsimp only at hD)
  rcases i2b hD with ⟨hb26,hD⟩ | ⟨hb26,hD⟩
  ·
   refine kT h ?_
   refine qs 20 [] [8,9] [(1,0)] h fun ac wd h => ?_
   refine wp_ret ?_
   injection hD with hD
   subst hD
   exact rE h [.cell 8 157,.tmp 9]
  ·
   refine kF h ?_
   refine wp_skip ?_
   change Code.wp Try.prog _ _ _ _
   obtain ⟨x29,hx30a,hx30b,hx30c,hx30d,hD⟩ := aB hD
   refine qs 23 [] [8,9] [(1,0)] h fun ac wd h => ?_
   refine wp_ret ?_
   injection hD with hD
   subst hD
   exact rE h [.cell 8 157,.tmp 9]

theorem L_ref05_Own_own {a0 : TConf} {r : TConf} (hD : L_ref05_Own a0 = some r) :
  CallH Try.prog 82 [.agg (cTConf a0)] []
   (.agg [.own (1,0) r.States.length,.own (1,1) r.Links.length,.own (1,2) r.Sent.length]) [((1,0),some (.row 3 1 (dat (List.map eI r.States)))),((1,1),some (.row 43 1 (openRows cols_43 (List.map (eL eTMsg) r.Links)))),((1,2),some (.row 3 1 (dat (List.map eI r.Sent))))] := by
 unfold L_ref05_Own at hD
 refine rc Try.func82 rfl Try.ntmps82 fun S Φ P0 wb ac h => ?_
 refine qs 3 [] [1,2] [(1,0),(2,0)] h fun ac wd h => ?_
 obtain ⟨ha78,hD⟩ := iT hD
 obtain ⟨ha79,hD⟩ := iT hD
 refine ds 14 [] [1,2,3] [(1,0),(2,0),(6,0),(10,0),(12,0)] h fun ac wd h => ?_
 refine wp_seq ?_
 refine qs 15 [] [1,2,3,4] [(1,0),(2,0),(6,0),(10,0),(12,0)] h fun ac wd h => ?_
 refine wp_block ?_
 have h := SL.bornB h (12,0) 1 43 1 (by simp only [EZ,simprocAttr, *] <;> rfl) (by simp only [EZ,simprocAttr, *] <;> rfl)
 refine r_while (fun nf ac wd => ∃ (n136 : Int) (l137 : List (List TMsg)),L_ref05_Own_l1 a0 nf n136 l137 = some r ∧ SL ⟨wb,S,Φ,P0⟩ 34 57 [(1,.one (.ptr (1,0) 0)),(2,.one (.ptr (2,0) 0)),(3,.one (.ptr (12,0) 0)),(4,.one (.d (.int .i64 n136)))] [((1,0),some (.box 40 (cTConf a0))),((2,0),some (.box 40 [.nil,.nil,.nil])),((6,0),some (.row 3 1 (dat (List.map eI a0.States)))),((10,0),some (.row 3 1 (dat (List.map eI a0.Sent)))),((12,0),some (.box 40 [.own (6,0) a0.States.length,.own (15,0) l137.length,.own (10,0) a0.Sent.length])),((15,0),some (.row 43 1 (openRows cols_43 (List.map (eL eTMsg) l137))))] ac wd) (((a0.Links.length : Int) - 0).toNat + 1) ⟨0,([] : List (List TMsg)),hD,h.z⟩ (fun nf ac wd hJ => ?_)
 obtain ⟨n136,l137,hL138,h⟩ := hJ
 cases nf with
 | zero => rw [L_ref05_Own_l1] at hL138; cases hL138
 | succ nf =>
  rw [L_ref05_Own_l1] at hL138
  refine wp_seq ?_
  refine qs 62 [] [1,2,3,4,18] [(1,0),(2,0),(6,0),(10,0),(12,0),(15,0)] h fun ac wd h => ?_
  rcases i2 hL138 with ⟨hb140,hL138⟩ | ⟨hb140,hL138⟩
  ·
   refine kT h ?_
   refine wp_skip ?_
   change Code.wp Try.prog _ _ _ _
   refine wp_seq ?_
   refine wp_block ?_
   obtain ⟨x145,hx146a,hx146b,hx146c,hx146d,hL138⟩ := aB hL138
   obtain ⟨ha147,hL138⟩ := iT hL138
   obtain ⟨ha148,hL138⟩ := iT hL138
   refine de [] [1,2,3,4] [(1,0),(2,0),(6,0),(10,0),(12,0),(70,0),(72,0)] h fun ac wd h => ?_
   have h := h.fL (cols := (fun _ => .sc)) (72,0) (70,0) (openRows cols_43 (List.map (eL eTMsg) l137)) [.own (70,0) x145.length] 0 (List.map eTMsg x145) (sc_70 _)
   have h := h.sm 75 [(1,.one (.ptr (1,0) 0)),(2,.one (.ptr (2,0) 0)),(3,.one (.ptr (12,0) 0)),(4,.one (.d (.int .i64 n136)))]
    [((1,0),some (.box 40 (cTConf a0))),((2,0),some (.box 40 [.nil,.nil,.nil])),((6,0),some (.row 3 1 (dat (List.map eI a0.States)))),((10,0),some (.row 3 1 (dat (List.map eI a0.Sent)))),((12,0),some (.box 40 [.own (6,0) a0.States.length,.own (72,0) (l137.length + 1),.own (10,0) a0.Sent.length])),((72,0),some (.row 43 1 ((openRows cols_43 (List.map (eL eTMsg) l137) ++ [[.tr (.sl 70 2 (fun _ => .sc)) (.sl (List.map eTMsg x145))]]))))]
   change Code.wp Try.prog _ _ _ _
   refine qe [] [1,2,3,4] [(1,0),(2,0),(6,0),(10,0),(12,0),(72,0)] h fun ac wd h => ?_
   have h := h.sw (15,0) (72,0) 78
   exact ⟨nf,Nat.lt_succ_self nf,(IntKind.wrap .i64 (n136 + 1)),(l137 ++ [x145]),hL138,h.z⟩
  ·
   refine kF h ?_
   refine wp_exit ?_
   change Code.wp Try.prog _ _ _ _
   refine qs 64 [] [2] [(2,0),(6,0),(10,0),(15,0)] h fun ac wd h => ?_
   refine wp_ret ?_
   have h := h.sw (1,0) (6,0) 64
   have h := h.sw (1,1) (15,0) 64
   have h := h.sw (1,2) (10,0) 64
   injection hL138 with hL138
   subst hL138
   exact rO h [.cell 2 40] [(1,0),(1,1),(1,2)]
theorem L_ref05_Own_ok {a0 : TConf} {r : TConf} (hD : L_ref05_Own a0 = some r) :
  CallH Try.prog 82 [.agg (cTConf a0)] []
   (.agg [.d (.sl (List.map eI r.States)),.d (.sl (List.map (eL eTMsg) r.Links)),.d (.sl (List.map eI r.Sent))]) [] :=
 (L_ref05_Own_own hD).fr

theorem L_ref05_pick_own {a0 : TApp} {a1 : TConf} {a2 : TStep} {r : TConf × Int} (hD : L_ref05_pick a0 a1 a2 = some r) :
  CallH Try.prog 79 [.agg (cTApp a0),.agg (cTConf a1),.agg (cTStep a2)] []
   (.tup [.inl [.own (1,0) r.1.States.length,.own (1,1) r.1.Links.length,.own (1,2) r.1.Sent.length],.inr (.d (.int .i64 r.2))]) [((1,0),some (.row 3 1 (dat (List.map eI r.1.States)))),((1,1),some (.row 43 1 (openRows cols_43 (List.map (eL eTMsg) r.1.Links)))),((1,2),some (.row 3 1 (dat (List.map eI r.1.Sent))))] := by
 unfold L_ref05_pick at hD
 refine rc Try.func79 rfl Try.ntmps79 fun S Φ P0 wb ac h => ?_
 refine qs 6 [] [3,4,5,6] [(1,0),(2,0),(3,0),(4,0)] h fun ac wd h => ?_
 refine wp_seq ?_
 obtain ⟨e387,hE388,hD⟩ := Option.bind_eq_some_iff.1 hD
 refine r_seqJ (fun ac wd => ∃ (b386 : Bool),b386 = e387 ∧ SL ⟨wb,S,Φ,P0⟩ 126 17 [(3,.one (.ptr (1,0) 0)),(4,.one (.ptr (2,0) 0)),(5,.one (.ptr (3,0) 0)),(6,.one (.ptr (4,0) 0)),(23,.one (.d (.bool b386)))] [((1,0),some (.box 38 (cTApp a0))),((2,0),some (.box 40 (cTConf a1))),((3,0),some (.box 85 (cTStep a2))),((4,0),some (.box 40 [.nil,.nil,.nil]))] ac wd) ?_ ?_
 ·
  rcases i2 hE388 with ⟨hb389,hE388⟩ | ⟨hb389,hE388⟩
  ·
   refine qeg [] [none,none,none,none,some (some 16,false),some (some 16,false),some (some 16,false),some (some 16,false),some (some 16,false),some (some 16,false),none] [3,4,5,6,23] [(1,0),(2,0),(3,0),(4,0)] h fun ac wd h => ?_
   injection hE388 with hE388; subst hE388
   exact ⟨true,rfl,h.z⟩
  ·
   refine qeg [] [none,none,none,none,some (some 16,false),some (some 16,false),some (some 16,false),some (some 16,false),some (some 16,false),some (some 16,false),none] [3,4,5,6,23] [(1,0),(2,0),(3,0),(4,0)] h fun ac wd h => ?_
   injection hE388 with hE388; subst hE388
   exact ⟨decide (a2.Node ≥ a0.G.N),rfl,h.z⟩
 ·
  rintro ac wd ⟨b386,rfl,h⟩
  (try dsimp only at hD)
  rcases i2b hD with ⟨hb391,hD⟩ | ⟨hb391,hD⟩
  ·
   refine kT h ?_
   refine qs 20 [] [6,7] [(4,0)] h fun ac wd h => ?_
   refine wp_ret ?_
   have h := SL.bornB h (4,0) 0 3 1 (by simp only [EZ,simprocAttr, *] <;> rfl) (by simp only [EZ,simprocAttr, *] <;> rfl)
   have h := SL.bornB h (4,0) 1 43 1 (by simp only [EZ,simprocAttr, *] <;> rfl) (by simp only [EZ,simprocAttr, *] <;> rfl)
   have h := SL.bornB h (4,0) 2 3 1 (by simp only [EZ,simprocAttr, *] <;> rfl) (by simp only [EZ,simprocAttr, *] <;> rfl)
   have h := h.sw (1,0) (20,0) 23
   have h := h.sw (1,1) (21,0) 23
   have h := h.sw (1,2) (22,0) 23
   injection hD with hD
   subst hD
   exact rO h [.cell 6 40,.tmp 7] [(1,0),(1,1),(1,2)]
  ·
   refine kF h ?_
   refine wp_skip ?_
   change Code.wp Try.prog _ _ _ _
   refine wp_seq ?_
   obtain ⟨x396,hx397a,hx397b,hx397c,hx397d,hD⟩ := aB hD
   obtain ⟨r398,hc399,hD⟩ := oB hD
   have hc399k := L_ref04_At_ok hc399
   refine ds 30 [factE 27 hc399k] [3,4,5,6,37] [(1,0),(2,0),(3,0),(4,0)] h fun ac wd h => ?_
   rcases i2e hD with ⟨hb401,hD⟩ | ⟨hb401,hD⟩
   ·
    refine kF h ?_
    refine wp_skip ?_
    change Code.wp Try.prog _ _ _ _
    obtain ⟨r404,hc405,hD⟩ := oB hD
    have hc405k := L_ref04_Picked_ok hc405
    refine ds 49 [factE 42 hc405k] [3,4,5,6,8,9] [(1,0),(2,0),(3,0),(4,0),(46,0)] h fun ac wd h => ?_
    refine wp_seq ?_
    refine qs 51 [] [3,4,5,6,8,56] [(1,0),(2,0),(3,0),(4,0),(46,0)] h fun ac wd h => ?_
    rcases i2b hD with ⟨hb407,hD⟩ | ⟨hb407,hD⟩
    ·
     refine kF h ?_
     refine wp_skip ?_
     change Code.wp Try.prog _ _ _ _
     obtain ⟨r410,hc411,hD⟩ := oB hD
     have hc411_52 := ((L_ref05_Own_own hc411).cls 52).z
     refine qs 55 [factO hc411_52] [3,5,6,8,10] [(1,0),(3,0),(4,0),(46,0),(52,0),(52,1),(52,2),(53,0)] h fun ac wd h => ?_
     obtain ⟨x414,hx415a,hx415b,hx415c,hx415d,hD⟩ := aB hD
     refine qs 63 [] [3,5,6,8,10] [(1,0),(3,0),(4,0),(46,0),(52,0),(52,1),(52,2),(53,0)] h fun ac wd h => ?_
     refine wp_seq ?_
     refine qs 64 [] [3,5,6,8,10,11] [(1,0),(3,0),(4,0),(46,0),(52,0),(52,1),(52,2),(53,0)] h fun ac wd h => ?_
     refine wp_block ?_
     refine r_while (fun nf ac wd => ∃ (n705 : Int) (l706 : List (List TMsg)) (l707 : List Int),L_ref05_pick_l1 a0 a2 r404 r410 nf n705 l706 l707 = some r ∧ SL ⟨wb,S,Φ,P0⟩ 126 188 [(3,.one (.ptr (1,0) 0)),(5,.one (.ptr (3,0) 0)),(6,.one (.ptr (4,0) 0)),(8,.one (.ptr (46,0) 0)),(10,.one (.ptr (53,0) 0)),(11,.one (.d (.int .i64 n705)))] [((1,0),some (.box 38 (cTApp a0))),((3,0),some (.box 85 (cTStep a2))),((4,0),some (.box 40 [.nil,.nil,.nil])),((46,0),some (.box 157 [.d (.int .i64 r404.1.Next),.d (.sl (List.map eTSend r404.1.Sends))])),((52,0),some (.row 3 1 (dat (List.map eI (r410.States.set a2.Node.toNat r404.1.Next))))),((52,1),some (.row 43 1 (openRows cols_43 (List.map (eL eTMsg) l706)))),((52,2),some (.row 3 1 (dat (List.map eI l707)))),((53,0),some (.box 40 [.own (52,0) r410.States.length,.own (52,1) l706.length,.own (52,2) l707.length]))] ac wd) (((r404.1.Sends.length : Int) - 0).toNat + 1) ⟨0,r410.Links,r410.Sent,hD,h.z⟩ (fun nf ac wd hJ => ?_)
     obtain ⟨n705,l706,l707,hL708,h⟩ := hJ
     cases nf with
     | zero => rw [L_ref05_pick_l1] at hL708; cases hL708
     | succ nf =>
      rw [L_ref05_pick_l1] at hL708
      refine wp_seq ?_
      refine qs 193 [] [3,5,6,8,10,11,71] [(1,0),(3,0),(4,0),(46,0),(52,0),(52,1),(52,2),(53,0)] h fun ac wd h => ?_
      rcases i2 hL708 with ⟨hb710,hL708⟩ | ⟨hb710,hL708⟩
      ·
       refine kT h ?_
       refine wp_skip ?_
       change Code.wp Try.prog _ _ _ _
       refine wp_seq ?_
       refine wp_block ?_
       obtain ⟨x742,hx743a,hx743b,hx743c,hx743d,hL708⟩ := aB hL708
       obtain ⟨r744,hc745,hL708⟩ := oB hL708
       have hc745k := L_ref03_Find_ok hc745
       refine ds 205 [factE 203 hc745k] [3,5,6,8,10,11,12] [(1,0),(3,0),(4,0),(46,0),(52,0),(52,1),(52,2),(53,0)] h fun ac wd h => ?_
       obtain ⟨x748,hx749a,hx749b,hx749c,hx749d,hL708⟩ := aB hL708
       refine ds 216 [] [3,5,6,8,10,11,12] [(1,0),(3,0),(4,0),(46,0),(52,0),(52,1),(52,2),(53,0)] h fun ac wd h => ?_
       obtain ⟨x757,hx758a,hx758b,hx758c,hx758d,hL708⟩ := aB hL708
       have h := h.op (52,1) r744.toNat 0
       have h := h.sm 217 [(3,.one (.ptr (1,0) 0)),(5,.one (.ptr (3,0) 0)),(6,.one (.ptr (4,0) 0)),(8,.one (.ptr (46,0) 0)),(10,.one (.ptr (53,0) 0)),(11,.one (.d (.int .i64 n705))),(12,.one (.d (.int .i64 r744)))]
        [((1,0),some (.box 38 (cTApp a0))),((3,0),some (.box 85 (cTStep a2))),((4,0),some (.box 40 [.nil,.nil,.nil])),((46,0),some (.box 157 [.d (.int .i64 r404.1.Next),.d (.sl (List.map eTSend r404.1.Sends))])),((52,0),some (.row 3 1 (dat (List.map eI (r410.States.set a2.Node.toNat r404.1.Next))))),((52,1),some (.row 43 1 ((openRows cols_43 (List.map (eL eTMsg) l706)).set r744.toNat [.own (216,0) x757.length]))),((52,2),some (.row 3 1 (dat (List.map eI (l707.set r744.toNat (IntKind.wrap .i64 (x748 + 1))))))),((53,0),some (.box 40 [.own (52,0) r410.States.length,.own (52,1) l706.length,.own (52,2) l707.length])),((216,0),some (.row 70 2 (dat (List.map eTMsg x757))))]
       obtain ⟨v759,hv760,hL708⟩ := vB hL708
       have h := h.same [3,5,6,8,10,11,12] [(1,0),(3,0),(4,0),(46,0),(52,0),(52,1),(52,2),(53,0),(216,0)] 217 [(3,.one (.ptr (1,0) 0)),(5,.one (.ptr (3,0) 0)),(6,.one (.ptr (4,0) 0)),(8,.one (.ptr (46,0) 0)),(10,.one (.ptr (53,0) 0)),(11,.one (.d (.int .i64 n705))),(12,.one (.d (.int .i64 r744)))]
        [((1,0),some (.box 38 (cTApp a0))),((3,0),some (.box 85 (cTStep a2))),((4,0),some (.box 40 [.nil,.nil,.nil])),((46,0),some (.box 157 [.d (.int .i64 r404.1.Next),.d (.sl (List.map eTSend r404.1.Sends))])),((52,0),some (.row 3 1 (dat (List.map eI (r410.States.set a2.Node.toNat r404.1.Next))))),((52,1),some (.row 43 1 ((openRows cols_43 (List.map (eL eTMsg) l706)).set r744.toNat [.own (216,0) x757.length]))),((52,2),some (.row 3 1 (dat (List.map eI v759)))),((53,0),some (.box 40 [.own (52,0) r410.States.length,.own (52,1) l706.length,.own (52,2) v759.length])),((216,0),some (.row 70 2 (dat (List.map eTMsg x757))))]
        (by simp only [EZ,simprocAttr,hb391,hx397a,hx397b,hx397c,hx397d,hb401,hb407,hx415a,hx415b,hx415c,hx415d,hb710,hx743a,hx743b,hx743c,hx743d,hx749a,hx749b,hx749c,hx749d,hx758a,hx758b,hx758c,hx758d,dat_open,← hv760] <;> rfl)
       obtain ⟨x761,hx762a,hx762b,hx762c,hx762d,hL708⟩ := aB hL708
       obtain ⟨ha763,hL708⟩ := iT hL708
       refine ds 241 [] [3,5,6,8,10,11,12] [(1,0),(3,0),(4,0),(46,0),(52,0),(52,1),(52,2),(53,0),(238,0)] h fun ac wd h => ?_
       have h := h.fS (cols := (fun _ => .sc)) (52,1) (238,0) (openRows cols_43 (List.map (eL eTMsg) l706)) r744.toNat [.own (238,0) (x757.length + 1)] 0 (List.map eTMsg (x757 ++ [(TMsg.mk x761 x742.Letter)])) (sc_70 _)
       have h := h.sm 241 [(3,.one (.ptr (1,0) 0)),(5,.one (.ptr (3,0) 0)),(6,.one (.ptr (4,0) 0)),(8,.one (.ptr (46,0) 0)),(10,.one (.ptr (53,0) 0)),(11,.one (.d (.int .i64 n705))),(12,.one (.d (.int .i64 r744)))]
        [((1,0),some (.box 38 (cTApp a0))),((3,0),some (.box 85 (cTStep a2))),((4,0),some (.box 40 [.nil,.nil,.nil])),((46,0),some (.box 157 [.d (.int .i64 r404.1.Next),.d (.sl (List.map eTSend r404.1.Sends))])),((52,0),some (.row 3 1 (dat (List.map eI (r410.States.set a2.Node.toNat r404.1.Next))))),((52,1),some (.row 43 1 ((openRows cols_43 (List.map (eL eTMsg) l706)).set r744.toNat [.tr (.sl 70 2 (fun _ => .sc)) (.sl (List.map eTMsg (x757 ++ [(TMsg.mk x761 x742.Letter)])))]))),((52,2),some (.row 3 1 (dat (List.map eI v759)))),((53,0),some (.box 40 [.own (52,0) r410.States.length,.own (52,1) l706.length,.own (52,2) v759.length]))]
       refine qs 247 [] [3,5,6,8,10,11,123] [(1,0),(3,0),(4,0),(46,0),(52,0),(52,1),(52,2),(53,0)] h fun ac wd h => ?_
       rcases i2 hL708 with ⟨hb764,hL708⟩ | ⟨hb764,hL708⟩
       ·
        refine kT h ?_
        refine qs 250 [] [6,7] [(4,0)] h fun ac wd h => ?_
        refine wp_ret ?_
        have h := SL.bornB h (4,0) 0 3 1 (by simp only [EZ,simprocAttr, *] <;> rfl) (by simp only [EZ,simprocAttr, *] <;> rfl)
        have h := SL.bornB h (4,0) 1 43 1 (by simp only [EZ,simprocAttr, *] <;> rfl) (by simp only [EZ,simprocAttr, *] <;> rfl)
        have h := SL.bornB h (4,0) 2 3 1 (by simp only [EZ,simprocAttr, *] <;> rfl) (by simp only [EZ,simprocAttr, *] <;> rfl)
        have h := h.sw (1,0) (250,0) 253
        have h := h.sw (1,1) (251,0) 253
        have h := h.sw (1,2) (252,0) 253
        injection hL708 with hL708
        subst hL708
        exact rO h [.cell 6 40,.tmp 7] [(1,0),(1,1),(1,2)]
       ·
        refine kF h ?_
        refine wp_skip ?_
        change Code.wp Try.prog _ _ _ _
        refine qe [] [3,5,6,8,10,11] [(1,0),(3,0),(4,0),(46,0),(52,0),(52,1),(52,2),(53,0)] h fun ac wd h => ?_
        exact ⟨nf,Nat.lt_succ_self nf,(IntKind.wrap .i64 (n705 + 1)),(l706.set r744.toNat (x757 ++ [(TMsg.mk x761 x742.Letter)])),v759,hL708,h.z⟩
      ·
       refine kF h ?_
       refine wp_exit ?_
       change Code.wp Try.prog _ _ _ _
       refine qs 196 [] [6,7] [(4,0),(52,0),(52,1),(52,2)] h fun ac wd h => ?_
       refine wp_ret ?_
       have h := h.sw (1,0) (52,0) 196
       have h := h.sw (1,1) (52,1) 196
       have h := h.sw (1,2) (52,2) 196
       injection hL708 with hL708
       subst hL708
       exact rO h [.cell 6 40,.tmp 7] [(1,0),(1,1),(1,2)]
    ·
     refine kT h ?_
     refine qs 54 [] [6,7] [(4,0)] h fun ac wd h => ?_
     refine wp_ret ?_
     have h := SL.bornB h (4,0) 0 3 1 (by simp only [EZ,simprocAttr, *] <;> rfl) (by simp only [EZ,simprocAttr, *] <;> rfl)
     have h := SL.bornB h (4,0) 1 43 1 (by simp only [EZ,simprocAttr, *] <;> rfl) (by simp only [EZ,simprocAttr, *] <;> rfl)
     have h := SL.bornB h (4,0) 2 3 1 (by simp only [EZ,simprocAttr, *] <;> rfl) (by simp only [EZ,simprocAttr, *] <;> rfl)
     have h := h.sw (1,0) (54,0) 57
     have h := h.sw (1,1) (55,0) 57
     have h := h.sw (1,2) (56,0) 57
     injection hD with hD
     subst hD
     exact rO h [.cell 6 40,.tmp 7] [(1,0),(1,1),(1,2)]
   ·
    refine kT h ?_
    refine qs 33 [] [6,7] [(4,0)] h fun ac wd h => ?_
    refine wp_ret ?_
    have h := SL.bornB h (4,0) 0 3 1 (by simp only [EZ,simprocAttr, *] <;> rfl) (by simp only [EZ,simprocAttr, *] <;> rfl)
    have h := SL.bornB h (4,0) 1 43 1 (by simp only [EZ,simprocAttr, *] <;> rfl) (by simp only [EZ,simprocAttr, *] <;> rfl)
    have h := SL.bornB h (4,0) 2 3 1 (by simp only [EZ,simprocAttr, *] <;> rfl) (by simp only [EZ,simprocAttr, *] <;> rfl)
    have h := h.sw (1,0) (33,0) 36
    have h := h.sw (1,1) (34,0) 36
    have h := h.sw (1,2) (35,0) 36
    injection hD with hD
    subst hD
    exact rO h [.cell 6 40,.tmp 7] [(1,0),(1,1),(1,2)]
theorem L_ref05_pick_ok {a0 : TApp} {a1 : TConf} {a2 : TStep} {r : TConf × Int} (hD : L_ref05_pick a0 a1 a2 = some r) :
  CallH Try.prog 79 [.agg (cTApp a0),.agg (cTConf a1),.agg (cTStep a2)] []
   (.tup [.inl [.d (.sl (List.map eI r.1.States)),.d (.sl (List.map (eL eTMsg) r.1.Links)),.d (.sl (List.map eI r.1.Sent))],.inr (.d (.int .i64 r.2))]) [] :=
 (L_ref05_pick_own hD).fr

theorem L_ref05_Place_ok {a0 : (List TMsg)} {a1 : Int} {r : Int} (hD : L_ref05_Place a0 a1 = some r) :
  CallH Try.prog 109 [.one (.d (.sl (List.map eTMsg a0))),.one (.d (.int .i64 a1))] []
   (.one (.d (.int .i64 r))) [] := by
 unfold L_ref05_Place at hD
 refine rc Try.func109 rfl Try.ntmps109 fun S Φ P0 wb ac h => ?_
 refine qs 2 [] [0,1] [] h fun ac wd h => ?_
 refine wp_seq ?_
 refine qs 3 [] [0,1,5] [] h fun ac wd h => ?_
 refine wp_block ?_
 refine r_while (fun nf ac wd => ∃ (n143 : Int),L_ref05_Place_l1 a0 a1 nf n143 = some r ∧ SL ⟨wb,S,Φ,P0⟩ 20 31 [(0,.one (.d (.sl (List.map eTMsg a0)))),(1,.one (.d (.int .i64 a1))),(5,.one (.d (.int .i64 n143)))] [] ac wd) (((a0.length : Int) - 0).toNat + 1) ⟨0,hD,h.z⟩ (fun nf ac wd hJ => ?_)
 obtain ⟨n143,hL144,h⟩ := hJ
 cases nf with
 | zero => rw [L_ref05_Place_l1] at hL144; cases hL144
 | succ nf =>
  rw [L_ref05_Place_l1] at hL144
  refine wp_seq ?_
  refine qs 35 [] [0,1,5,9] [] h fun ac wd h => ?_
  rcases i2 hL144 with ⟨hb146,hL144⟩ | ⟨hb146,hL144⟩
  ·
   refine kT h ?_
   refine wp_skip ?_
   change Code.wp Try.prog _ _ _ _
   refine wp_seq ?_
   refine wp_block ?_
   obtain ⟨x154,hx155a,hx155b,hx155c,hx155d,hL144⟩ := aB hL144
   refine qs 42 [] [0,1,5,18] [] h fun ac wd h => ?_
   rcases i2e hL144 with ⟨hb156,hL144⟩ | ⟨hb156,hL144⟩
   ·
    refine kT h ?_
    refine qs 44 [] [4] [] h fun ac wd h => ?_
    refine wp_ret ?_
    injection hL144 with hL144
    subst hL144
    exact rE h [.tmp 4]
   ·
    refine kF h ?_
    refine wp_skip ?_
    change Code.wp Try.prog _ _ _ _
    refine qe [] [0,1,5] [] h fun ac wd h => ?_
    exact ⟨nf,Nat.lt_succ_self nf,(IntKind.wrap .i64 (n143 + 1)),hL144,h.z⟩
  ·
   refine kF h ?_
   refine wp_exit ?_
   change Code.wp Try.prog _ _ _ _
   refine qs 36 [] [4] [] h fun ac wd h => ?_
   refine wp_ret ?_
   injection hL144 with hL144
   subst hL144
   exact rE h [.tmp 4]

theorem L_ref04_Taken_ok {a0 : (List TNode)} {a1 : Int} {a2 : Int} {a3 : Int} {a4 : Int} {r : Int} (hD : L_ref04_Taken a0 a1 a2 a3 a4 = some r) :
  CallH Try.prog 110 [.one (.d (.sl (List.map eTNode a0))),.one (.d (.int .i64 a1)),.one (.d (.int .i64 a2)),.one (.d (.int .i64 a3)),.one (.d (.int .i64 a4))] []
   (.one (.d (.int .i64 r))) [] := by
 unfold L_ref04_Taken at hD
 refine rc Try.func110 rfl Try.ntmps110 fun S Φ P0 wb ac h => ?_
 refine qs 2 [] [0,1,2,3,4] [] h fun ac wd h => ?_
 obtain ⟨r194,hc195,hD⟩ := oB hD
 have hc195k := L_ref04_At_ok hc195
 refine qs 8 [factE 5 hc195k] [2,3,4,11] [] h fun ac wd h => ?_
 refine wp_seq ?_
 refine qs 9 [] [2,3,4,11,12] [] h fun ac wd h => ?_
 refine wp_block ?_
 refine r_while (fun nf ac wd => ∃ (n349 : Int),L_ref04_Taken_l1 a2 a3 a4 r194 nf n349 = some r ∧ SL ⟨wb,S,Φ,P0⟩ 46 55 [(2,.one (.d (.int .i64 a2))),(3,.one (.d (.int .i64 a3))),(4,.one (.d (.int .i64 a4))),(11,.one (.d (.sl (List.map eTTake r194.Takes)))),(12,.one (.d (.int .i64 n349)))] [] ac wd) (((r194.Takes.length : Int) - 0).toNat + 1) ⟨0,hD,h.z⟩ (fun nf ac wd hJ => ?_)
 obtain ⟨n349,hL350,h⟩ := hJ
 cases nf with
 | zero => rw [L_ref04_Taken_l1] at hL350; cases hL350
 | succ nf =>
  rw [L_ref04_Taken_l1] at hL350
  refine wp_seq ?_
  refine qs 59 [] [2,3,4,11,12,21] [] h fun ac wd h => ?_
  rcases i2 hL350 with ⟨hb352,hL350⟩ | ⟨hb352,hL350⟩
  ·
   refine kT h ?_
   refine wp_skip ?_
   change Code.wp Try.prog _ _ _ _
   refine wp_seq ?_
   refine wp_block ?_
   obtain ⟨e371,hE372,hL350⟩ := Option.bind_eq_some_iff.1 hL350
   refine r_seqJ (fun ac wd => ∃ (b370 : Bool),b370 = e371 ∧ SL ⟨wb,S,Φ,P0⟩ 46 75 [(2,.one (.d (.int .i64 a2))),(3,.one (.d (.int .i64 a3))),(4,.one (.d (.int .i64 a4))),(11,.one (.d (.sl (List.map eTTake r194.Takes)))),(12,.one (.d (.int .i64 n349))),(39,.one (.d (.bool b370)))] [] ac wd) ?_ ?_
   ·
    obtain ⟨x373,hx374a,hx374b,hx374c,hx374d,hE372⟩ := aB hE372
    rcases i2e hE372 with ⟨hb375,hE372⟩ | ⟨hb375,hE372⟩
    ·
     refine qeg [] [none,none,none,none,none,none,none,none,some (some 31,true),some (some 31,true),some (some 31,true),some (some 31,true),some (some 31,true),some (some 31,true),some (some 31,true),none] [2,3,4,11,12,39] [] h fun ac wd h => ?_
     injection hE372 with hE372; subst hE372
     exact ⟨decide (x373.Letter = a4),rfl,h.z⟩
    ·
     refine qeg [] [none,none,none,none,none,none,none,none,some (some 31,true),some (some 31,true),some (some 31,true),some (some 31,true),some (some 31,true),some (some 31,true),some (some 31,true),none] [2,3,4,11,12,39] [] h fun ac wd h => ?_
     injection hE372 with hE372; subst hE372
     exact ⟨false,rfl,h.z⟩
   ·
    rintro ac wd ⟨b370,rfl,h⟩
    (try dsimp only at hL350)
    rcases i2b hL350 with ⟨hb376,hL350⟩ | ⟨hb376,hL350⟩
    ·
     refine kT h ?_
     obtain ⟨x379,hx380a,hx380b,hx380c,hx380d,hL350⟩ := aB hL350
     refine qs 81 [] [10] [] h fun ac wd h => ?_
     refine wp_ret ?_
     injection hL350 with hL350
     subst hL350
     exact rE h [.tmp 10]
    ·
     refine kF h ?_
     refine wp_skip ?_
     change Code.wp Try.prog _ _ _ _
     refine qe [] [2,3,4,11,12] [] h fun ac wd h => ?_
     exact ⟨nf,Nat.lt_succ_self nf,(IntKind.wrap .i64 (n349 + 1)),hL350,h.z⟩
  ·
   refine kF h ?_
   refine wp_exit ?_
   change Code.wp Try.prog _ _ _ _
   refine qs 61 [] [10] [] h fun ac wd h => ?_
   refine wp_ret ?_
   injection hL350 with hL350
   subst hL350
   exact rE h [.tmp 10]

theorem L_ref05_deliver_own {a0 : TApp} {a1 : TConf} {a2 : TStep} {r : TConf × Int} (hD : L_ref05_deliver a0 a1 a2 = some r) :
  CallH Try.prog 80 [.agg (cTApp a0),.agg (cTConf a1),.agg (cTStep a2)] []
   (.tup [.inl [.own (1,0) r.1.States.length,.own (1,1) r.1.Links.length,.own (1,2) r.1.Sent.length],.inr (.d (.int .i64 r.2))]) [((1,0),some (.row 3 1 (dat (List.map eI r.1.States)))),((1,1),some (.row 43 1 (openRows cols_43 (List.map (eL eTMsg) r.1.Links)))),((1,2),some (.row 3 1 (dat (List.map eI r.1.Sent))))] := by
 unfold L_ref05_deliver at hD
 refine rc Try.func80 rfl Try.ntmps80 fun S Φ P0 wb ac h => ?_
 refine qs 6 [] [3,4,5,6] [(1,0),(2,0),(3,0),(4,0)] h fun ac wd h => ?_
 refine wp_seq ?_
 obtain ⟨e75,hE76,hD⟩ := Option.bind_eq_some_iff.1 hD
 refine r_seqJ (fun ac wd => ∃ (b74 : Bool),b74 = e75 ∧ SL ⟨wb,S,Φ,P0⟩ 101 18 [(3,.one (.ptr (1,0) 0)),(4,.one (.ptr (2,0) 0)),(5,.one (.ptr (3,0) 0)),(6,.one (.ptr (4,0) 0)),(24,.one (.d (.bool b74)))] [((1,0),some (.box 38 (cTApp a0))),((2,0),some (.box 40 (cTConf a1))),((3,0),some (.box 85 (cTStep a2))),((4,0),some (.box 40 [.nil,.nil,.nil]))] ac wd) ?_ ?_
 ·
  rcases i2 hE76 with ⟨hb77,hE76⟩ | ⟨hb77,hE76⟩
  ·
   refine qeg [] [none,none,none,none,some (some 16,false),some (some 16,false),some (some 16,false),some (some 16,false),some (some 16,false),some (some 16,false),some (some 16,false),none] [3,4,5,6,24] [(1,0),(2,0),(3,0),(4,0)] h fun ac wd h => ?_
   injection hE76 with hE76; subst hE76
   exact ⟨true,rfl,h.z⟩
  ·
   refine qeg [] [none,none,none,none,some (some 16,false),some (some 16,false),some (some 16,false),some (some 16,false),some (some 16,false),some (some 16,false),some (some 16,false),none] [3,4,5,6,24] [(1,0),(2,0),(3,0),(4,0)] h fun ac wd h => ?_
   injection hE76 with hE76; subst hE76
   exact ⟨decide (a2.Link ≥ (a0.G.Links.length : Int)),rfl,h.z⟩
 ·
  rintro ac wd ⟨b74,rfl,h⟩
  (try dsimp only at hD)
  rcases i2b hD with ⟨hb79,hD⟩ | ⟨hb79,hD⟩
  ·
   refine kT h ?_
   refine qs 21 [] [6,7] [(4,0)] h fun ac wd h => ?_
   refine wp_ret ?_
   have h := SL.bornB h (4,0) 0 3 1 (by simp only [EZ,simprocAttr, *] <;> rfl) (by simp only [EZ,simprocAttr, *] <;> rfl)
   have h := SL.bornB h (4,0) 1 43 1 (by simp only [EZ,simprocAttr, *] <;> rfl) (by simp only [EZ,simprocAttr, *] <;> rfl)
   have h := SL.bornB h (4,0) 2 3 1 (by simp only [EZ,simprocAttr, *] <;> rfl) (by simp only [EZ,simprocAttr, *] <;> rfl)
   have h := h.sw (1,0) (21,0) 24
   have h := h.sw (1,1) (22,0) 24
   have h := h.sw (1,2) (23,0) 24
   injection hD with hD
   subst hD
   exact rO h [.cell 6 40,.tmp 7] [(1,0),(1,1),(1,2)]
  ·
   refine kF h ?_
   refine wp_skip ?_
   change Code.wp Try.prog _ _ _ _
   obtain ⟨x82,hx83a,hx83b,hx83c,hx83d,hD⟩ := aB hD
   refine qs 25 [] [3,4,5,6,8] [(1,0),(2,0),(3,0),(4,0)] h fun ac wd h => ?_
   obtain ⟨r86,hc87,hD⟩ := oB hD
   have hc87k := L_ref05_Place_ok hc87
   refine qs 30 [factE 28 hc87k] [3,4,5,6,8,9] [(1,0),(2,0),(3,0),(4,0)] h fun ac wd h => ?_
   refine wp_seq ?_
   obtain ⟨e91,hE92,hD⟩ := Option.bind_eq_some_iff.1 hD
   refine r_seqJ (fun ac wd => ∃ (b90 : Bool),b90 = e91 ∧ SL ⟨wb,S,Φ,P0⟩ 101 40 [(3,.one (.ptr (1,0) 0)),(4,.one (.ptr (2,0) 0)),(5,.one (.ptr (3,0) 0)),(6,.one (.ptr (4,0) 0)),(8,.one (.d (.sl (List.map eTMsg x82)))),(9,.one (.d (.int .i64 r86))),(45,.one (.d (.bool b90)))] [((1,0),some (.box 38 (cTApp a0))),((2,0),some (.box 40 (cTConf a1))),((3,0),some (.box 85 (cTStep a2))),((4,0),some (.box 40 [.nil,.nil,.nil]))] ac wd) ?_ ?_
   ·
    rcases i2 hE92 with ⟨hb93,hE92⟩ | ⟨hb93,hE92⟩
    ·
     refine qeg [] [none,none,none,some (some 38,false),some (some 38,false),some (some 38,false),some (some 41,true),some (some 41,true),some (some 38,false),none] [3,4,5,6,8,9,45] [(1,0),(2,0),(3,0),(4,0)] h fun ac wd h => ?_
     injection hE92 with hE92; subst hE92
     exact ⟨true,rfl,h.z⟩
    ·
     rcases i2 hE92 with ⟨hb94,hE92⟩ | ⟨hb94,hE92⟩
     ·
      refine qeg [] [none,none,none,some (some 38,false),some (some 38,false),some (some 38,false),some (some 41,true),some (some 41,true),some (some 38,false),none] [3,4,5,6,8,9,45] [(1,0),(2,0),(3,0),(4,0)] h fun ac wd h => ?_
      injection hE92 with hE92; subst hE92
      exact ⟨a0.Fifo,rfl,h.z⟩
     ·
      refine qeg [] [none,none,none,some (some 38,false),some (some 38,false),some (some 38,false),some (some 41,true),some (some 41,true),some (some 38,false),none] [3,4,5,6,8,9,45] [(1,0),(2,0),(3,0),(4,0)] h fun ac wd h => ?_
      injection hE92 with hE92; subst hE92
      exact ⟨false,rfl,h.z⟩
   ·
    rintro ac wd ⟨b90,rfl,h⟩
    (try dsimp only at hD)
    rcases i2b hD with ⟨hb96,hD⟩ | ⟨hb96,hD⟩
    ·
     refine kT h ?_
     refine qs 43 [] [6,7] [(4,0)] h fun ac wd h => ?_
     refine wp_ret ?_
     have h := SL.bornB h (4,0) 0 3 1 (by simp only [EZ,simprocAttr, *] <;> rfl) (by simp only [EZ,simprocAttr, *] <;> rfl)
     have h := SL.bornB h (4,0) 1 43 1 (by simp only [EZ,simprocAttr, *] <;> rfl) (by simp only [EZ,simprocAttr, *] <;> rfl)
     have h := SL.bornB h (4,0) 2 3 1 (by simp only [EZ,simprocAttr, *] <;> rfl) (by simp only [EZ,simprocAttr, *] <;> rfl)
     have h := h.sw (1,0) (43,0) 46
     have h := h.sw (1,1) (44,0) 46
     have h := h.sw (1,2) (45,0) 46
     injection hD with hD
     subst hD
     exact rO h [.cell 6 40,.tmp 7] [(1,0),(1,1),(1,2)]
    ·
     refine kF h ?_
     refine wp_skip ?_
     change Code.wp Try.prog _ _ _ _
     obtain ⟨r99,hc100,hD⟩ := oB hD
     have hc100_41 := ((L_ref05_Own_own hc100).cls 41).z
     refine qs 44 [factO hc100_41] [3,4,5,6,8,9,10] [(1,0),(2,0),(3,0),(4,0),(41,0),(41,1),(41,2),(42,0)] h fun ac wd h => ?_
     obtain ⟨x103,hx104a,hx104b,hx104c,hx104d,hD⟩ := aB hD
     refine qs 53 [] [3,4,5,6,8,9,10,11] [(1,0),(2,0),(3,0),(4,0),(41,0),(41,1),(41,2),(42,0)] h fun ac wd h => ?_
     obtain ⟨x113,hx114a,hx114b,hx114c,hx114d,hD⟩ := aB hD
     obtain ⟨x115,hx116a,hx116b,hx116c,hx116d,hD⟩ := aB hD
     obtain ⟨r117,hc118,hD⟩ := oB hD
     obtain ⟨x119,hx120a,hx120b,hx120c,hx120d,hD⟩ := aB hD
     have hc118k := L_ref04_Taken_ok hc118
     refine ds 80 [factE 77 hc118k] [5,6,8,9,10] [(3,0),(4,0),(41,0),(41,1),(41,2),(42,0)] h fun ac wd h => ?_
     obtain ⟨ha126,hD⟩ := iT hD
     obtain ⟨ha127,hD⟩ := iT hD
     obtain ⟨v128,hv129,hD⟩ := vB hD
     obtain ⟨ha130,hD⟩ := iT hD
     refine qs 86 [] [5,6,8,9,10,12] [(3,0),(4,0),(41,0),(41,1),(41,2),(42,0),(84,0)] h fun ac wd h => ?_
     obtain ⟨ha136,hD⟩ := iT hD
     obtain ⟨ha137,hD⟩ := iT hD
     obtain ⟨v138,hv139,hD⟩ := vB hD
     obtain ⟨ha140,hD⟩ := iT hD
     refine qs 93 [] [5,6,10,12] [(3,0),(4,0),(41,0),(41,1),(41,2),(42,0),(91,0)] h fun ac wd h => ?_
     obtain ⟨x143,hx144a,hx144b,hx144c,hx144d,hD⟩ := aB hD
     refine qs 100 [] [6,10] [(4,0),(41,0),(41,1),(41,2),(42,0),(91,0)] h fun ac wd h => ?_
     have h := h.fS (cols := (fun _ => .sc)) (41,1) (91,0) (openRows cols_43 (List.map (eL eTMsg) r99.Links)) a2.Link.toNat [.own (91,0) (v128.length + v138.length)] 0 (List.map eTMsg (v128 ++ v138)) (sc_70 _)
     have h := h.sm 100 [(6,.one (.ptr (4,0) 0)),(10,.one (.ptr (42,0) 0))]
      [((4,0),some (.box 40 [.nil,.nil,.nil])),((41,0),some (.row 3 1 (dat (List.map eI (r99.States.set x103.a1.toNat r117))))),((41,1),some (.row 43 1 ((openRows cols_43 (List.map (eL eTMsg) r99.Links)).set a2.Link.toNat [.tr (.sl 70 2 (fun _ => .sc)) (.sl (List.map eTMsg (v128 ++ v138)))]))),((41,2),some (.row 3 1 (dat (List.map eI r99.Sent)))),((42,0),some (.box 40 [.own (41,0) r99.States.length,.own (41,1) r99.Links.length,.own (41,2) r99.Sent.length]))]
     refine qs 103 [] [6,7] [(4,0),(41,0),(41,1),(41,2)] h fun ac wd h => ?_
     refine wp_ret ?_
     have h := h.sw (1,0) (41,0) 103
     have h := h.sw (1,1) (41,1) 103
     have h := h.sw (1,2) (41,2) 103
     injection hD with hD
     subst hD
     exact rO h [.cell 6 40,.tmp 7] [(1,0),(1,1),(1,2)]
theorem L_ref05_deliver_ok {a0 : TApp} {a1 : TConf} {a2 : TStep} {r : TConf × Int} (hD : L_ref05_deliver a0 a1 a2 = some r) :
  CallH Try.prog 80 [.agg (cTApp a0),.agg (cTConf a1),.agg (cTStep a2)] []
   (.tup [.inl [.d (.sl (List.map eI r.1.States)),.d (.sl (List.map (eL eTMsg) r.1.Links)),.d (.sl (List.map eI r.1.Sent))],.inr (.d (.int .i64 r.2))]) [] :=
 (L_ref05_deliver_own hD).fr

theorem L_ref05_Apply_own {a0 : TApp} {a1 : TConf} {a2 : TStep} {r : TConf × Int} (hD : L_ref05_Apply a0 a1 a2 = some r) :
  CallH Try.prog 46 [.agg (cTApp a0),.agg (cTConf a1),.agg (cTStep a2)] []
   (.tup [.inl [.own (1,0) r.1.States.length,.own (1,1) r.1.Links.length,.own (1,2) r.1.Sent.length],.inr (.d (.int .i64 r.2))]) [((1,0),some (.row 3 1 (dat (List.map eI r.1.States)))),((1,1),some (.row 43 1 (openRows cols_43 (List.map (eL eTMsg) r.1.Links)))),((1,2),some (.row 3 1 (dat (List.map eI r.1.Sent))))] := by
 unfold L_ref05_Apply at hD
 refine rc Try.func46 rfl Try.ntmps46 fun S Φ P0 wb ac h => ?_
 refine qs 6 [] [3,4,5,6] [(1,0),(2,0),(3,0),(4,0)] h fun ac wd h => ?_
 refine wp_seq ?_
 refine qs 9 [] [3,4,5,6,10] [(1,0),(2,0),(3,0),(4,0)] h fun ac wd h => ?_
 rcases i2e hD with ⟨hb26,hD⟩ | ⟨hb26,hD⟩
 ·
  refine kT h ?_
  obtain ⟨r29,hc30,hD⟩ := oB hD
  have hc30_12 := ((L_ref05_pick_own hc30).cls 12).z
  refine qs 17 [factO hc30_12] [6,7] [(4,0),(12,0),(12,1),(12,2)] h fun ac wd h => ?_
  refine wp_ret ?_
  have h := h.sw (1,0) (12,0) 17
  have h := h.sw (1,1) (12,1) 17
  have h := h.sw (1,2) (12,2) 17
  injection hD with hD
  subst hD
  exact rO h [.cell 6 40,.tmp 7] [(1,0),(1,1),(1,2)]
 ·
  refine kF h ?_
  refine wp_skip ?_
  change Code.wp Try.prog _ _ _ _
  refine wp_seq ?_
  refine qs 12 [] [3,4,5,6,19] [(1,0),(2,0),(3,0),(4,0)] h fun ac wd h => ?_
  rcases i2e hD with ⟨hb36,hD⟩ | ⟨hb36,hD⟩
  ·
   refine kT h ?_
   obtain ⟨r39,hc40,hD⟩ := oB hD
   have hc40_15 := ((L_ref05_deliver_own hc40).cls 15).z
   refine qs 20 [factO hc40_15] [6,7] [(4,0),(15,0),(15,1),(15,2)] h fun ac wd h => ?_
   refine wp_ret ?_
   have h := h.sw (1,0) (15,0) 20
   have h := h.sw (1,1) (15,1) 20
   have h := h.sw (1,2) (15,2) 20
   injection hD with hD
   subst hD
   exact rO h [.cell 6 40,.tmp 7] [(1,0),(1,1),(1,2)]
  ·
   refine kF h ?_
   refine wp_skip ?_
   change Code.wp Try.prog _ _ _ _
   refine qs 15 [] [6,7] [(4,0)] h fun ac wd h => ?_
   refine wp_ret ?_
   have h := SL.bornB h (4,0) 0 3 1 (by simp only [EZ,simprocAttr, *] <;> rfl) (by simp only [EZ,simprocAttr, *] <;> rfl)
   have h := SL.bornB h (4,0) 1 43 1 (by simp only [EZ,simprocAttr, *] <;> rfl) (by simp only [EZ,simprocAttr, *] <;> rfl)
   have h := SL.bornB h (4,0) 2 3 1 (by simp only [EZ,simprocAttr, *] <;> rfl) (by simp only [EZ,simprocAttr, *] <;> rfl)
   have h := h.sw (1,0) (15,0) 18
   have h := h.sw (1,1) (16,0) 18
   have h := h.sw (1,2) (17,0) 18
   injection hD with hD
   subst hD
   exact rO h [.cell 6 40,.tmp 7] [(1,0),(1,1),(1,2)]
theorem L_ref05_Apply_ok {a0 : TApp} {a1 : TConf} {a2 : TStep} {r : TConf × Int} (hD : L_ref05_Apply a0 a1 a2 = some r) :
  CallH Try.prog 46 [.agg (cTApp a0),.agg (cTConf a1),.agg (cTStep a2)] []
   (.tup [.inl [.d (.sl (List.map eI r.1.States)),.d (.sl (List.map (eL eTMsg) r.1.Links)),.d (.sl (List.map eI r.1.Sent))],.inr (.d (.int .i64 r.2))]) [] :=
 (L_ref05_Apply_own hD).fr

theorem L_ref05_Can_own {a0 : TApp} {a1 : TConf} {r : (List TStep)} (hD : L_ref05_Can a0 a1 = some r) :
  CallH Try.prog 50 [.agg (cTApp a0),.agg (cTConf a1)] []
   (.one (.own (1,0) r.length)) [((1,0),some (.row 85 5 (dat (List.map eTStep r))))] := by
 unfold L_ref05_Can at hD
 refine rc Try.func50 rfl Try.ntmps50 fun S Φ P0 wb ac h => ?_
 refine qs 4 [] [2,3] [(1,0),(2,0)] h fun ac wd h => ?_
 refine qs 6 [] [2,3,5] [(1,0),(2,0),(4,0)] h fun ac wd h => ?_
 refine wp_seq ?_
 refine qs 7 [] [2,3,5,6] [(1,0),(2,0),(4,0)] h fun ac wd h => ?_
 obtain ⟨e1885,hE1886,hD⟩ := Option.bind_eq_some_iff.1 hD
 refine r_meet (fun ac wd => ∃ (l1884 : List TStep),l1884 = e1885 ∧ SL ⟨wb,S,Φ,P0⟩ 80 138 [(2,.one (.ptr (1,0) 0)),(3,.one (.ptr (2,0) 0)),(5,.one (.own (4,0) l1884.length))] [((1,0),some (.box 38 (cTApp a0))),((2,0),some (.box 40 (cTConf a1))),((4,0),some (.row 85 5 (dat (List.map eTStep l1884))))] ac wd) ?_ ?_
 ·
  refine wp_block ?_
  refine r_while (fun nf ac wd => ∃ (n2107 : Int) (l2108 : List TStep),L_ref05_Can_l1 a0 a1 nf n2107 l2108 = some e1885 ∧ SL ⟨wb,S,Φ,P0⟩ 80 133 [(2,.one (.ptr (1,0) 0)),(3,.one (.ptr (2,0) 0)),(5,.one (.own (4,0) l2108.length)),(6,.one (.d (.int .i64 n2107)))] [((1,0),some (.box 38 (cTApp a0))),((2,0),some (.box 40 (cTConf a1))),((4,0),some (.row 85 5 (dat (List.map eTStep l2108))))] ac wd) ((a0.G.N - 0).toNat + 1) ⟨0,([] : List TStep),hE1886,h.z⟩ (fun nf ac wd hJ => ?_)
  obtain ⟨n2107,l2108,hL2109,h⟩ := hJ
  cases nf with
  | zero => rw [L_ref05_Can_l1] at hL2109; cases hL2109
  | succ nf =>
   rw [L_ref05_Can_l1] at hL2109
   refine wp_seq ?_
   refine qs 138 [] [2,3,5,6,17] [(1,0),(2,0),(4,0)] h fun ac wd h => ?_
   rcases i2 hL2109 with ⟨hb2111,hL2109⟩ | ⟨hb2111,hL2109⟩
   ·
    refine kT h ?_
    refine wp_skip ?_
    change Code.wp Try.prog _ _ _ _
    obtain ⟨e2166,hE2167,hL2109⟩ := Option.bind_eq_some_iff.1 hL2109
    refine r_seqJ (fun ac wd => ∃ (l2165 : List TStep),l2165 = e2166 ∧ SL ⟨wb,S,Φ,P0⟩ 80 193 [(2,.one (.ptr (1,0) 0)),(3,.one (.ptr (2,0) 0)),(5,.one (.own (4,0) l2165.length)),(6,.one (.d (.int .i64 n2107)))] [((1,0),some (.box 38 (cTApp a0))),((2,0),some (.box 40 (cTConf a1))),((4,0),some (.row 85 5 (dat (List.map eTStep l2165))))] ac wd) ?_ ?_
    ·
     refine wp_block ?_
     refine qs 139 [] [2,3,5,6,7] [(1,0),(2,0),(4,0)] h fun ac wd h => ?_
     obtain ⟨e2222,hE2223,hE2167⟩ := Option.bind_eq_some_iff.1 hE2167
     refine r_meetQ (fun ac wd => ∃ (l2221 : List TStep),l2221 = e2222 ∧ SL ⟨wb,S,Φ,P0⟩ 80 193 [(2,.one (.ptr (1,0) 0)),(3,.one (.ptr (2,0) 0)),(5,.one (.own (4,0) l2221.length)),(6,.one (.d (.int .i64 n2107)))] [((1,0),some (.box 38 (cTApp a0))),((2,0),some (.box 40 (cTConf a1))),((4,0),some (.row 85 5 (dat (List.map eTStep l2221))))] ac wd) ?_ ?_
     ·
      refine wp_block ?_
      refine r_while (fun nf ac wd => ∃ (n2258 : Int) (l2259 : List TStep),L_ref05_Can_l2 a0 a1 n2107 nf n2258 l2259 = some e2222 ∧ SL ⟨wb,S,Φ,P0⟩ 80 191 [(2,.one (.ptr (1,0) 0)),(3,.one (.ptr (2,0) 0)),(5,.one (.own (4,0) l2259.length)),(6,.one (.d (.int .i64 n2107))),(7,.one (.d (.int .i64 n2258)))] [((1,0),some (.box 38 (cTApp a0))),((2,0),some (.box 40 (cTConf a1))),((4,0),some (.row 85 5 (dat (List.map eTStep l2259))))] ac wd) (((4 : Int) - 0).toNat + 1) ⟨0,l2108,hE2223,h.z⟩ (fun nf ac wd hJ => ?_)
      obtain ⟨n2258,l2259,hL2260,h⟩ := hJ
      cases nf with
      | zero => rw [L_ref05_Can_l2] at hL2260; cases hL2260
      | succ nf =>
       rw [L_ref05_Can_l2] at hL2260
       refine wp_seq ?_
       refine qs 193 [] [2,3,5,6,7,21] [(1,0),(2,0),(4,0)] h fun ac wd h => ?_
       rcases i2 hL2260 with ⟨hb2262,hL2260⟩ | ⟨hb2262,hL2260⟩
       ·
        refine kT h ?_
        refine wp_skip ?_
        change Code.wp Try.prog _ _ _ _
        obtain ⟨e2270,hE2271,hL2260⟩ := Option.bind_eq_some_iff.1 hL2260
        refine r_seqJ (fun ac wd => ∃ (l2269 : List TStep),l2269 = e2270 ∧ SL ⟨wb,S,Φ,P0⟩ 80 214 [(2,.one (.ptr (1,0) 0)),(3,.one (.ptr (2,0) 0)),(5,.one (.own (212,0) l2269.length)),(6,.one (.d (.int .i64 n2107))),(7,.one (.d (.int .i64 n2258)))] [((1,0),some (.box 38 (cTApp a0))),((2,0),some (.box 40 (cTConf a1))),((212,0),some (.row 85 5 (dat (List.map eTStep l2269))))] ac wd) ?_ ?_
        ·
         refine wp_block ?_
         obtain ⟨r2274,hc2275,hE2271⟩ := oB hE2271
         have hc2275k := L_ref05_Apply_ok hc2275
         refine qs 205 [factE 198 hc2275k] [2,3,5,6,7,9] [(1,0),(2,0),(4,0)] h fun ac wd h => ?_
         refine qs 207 [] [2,3,5,6,7,34] [(1,0),(2,0),(4,0)] h fun ac wd h => ?_
         rcases i2e hE2271 with ⟨hb2276,hE2271⟩ | ⟨hb2276,hE2271⟩
         ·
          refine kT h ?_
          obtain ⟨ha2277,hE2271⟩ := iT hE2271
          refine qe [] [2,3,5,6,7] [(1,0),(2,0),(212,0)] h fun ac wd h => ?_
          injection hE2271 with hE2271; subst hE2271
          exact ⟨(l2259 ++ [(TStep.mk 0 n2107 n2258 0 0)]),rfl,h.z⟩
         ·
          refine kF h ?_
          refine wp_skip ?_
          have h := h.sw (212,0) (4,0) 214
          injection hE2271 with hE2271; subst hE2271
          exact ⟨l2259,rfl,h.z⟩
        ·
         rintro ac wd ⟨l2269,rfl,h⟩
         (try dsimp only at hL2260)
         refine qe [] [2,3,5,6,7] [(1,0),(2,0),(212,0)] h fun ac wd h => ?_
         have h := h.sw (4,0) (212,0) 217
         exact ⟨nf,Nat.lt_succ_self nf,(IntKind.wrap .i64 (n2258 + 1)),l2269,hL2260,h.z⟩
       ·
        refine kF h ?_
        refine wp_exit ?_
        injection hL2260 with hL2260; subst hL2260
        exact ⟨l2259,rfl,h.z⟩
     ·
      rintro ac wd ⟨l2221,rfl,h⟩
      (try dsimp only at hE2167)
      injection hE2167 with hE2167; subst hE2167
      exact ⟨l2221,rfl,h.z⟩
    ·
     rintro ac wd ⟨l2165,rfl,h⟩
     (try dsimp only at hL2109)
     refine qe [] [2,3,5,6] [(1,0),(2,0),(4,0)] h fun ac wd h => ?_
     exact ⟨nf,Nat.lt_succ_self nf,(IntKind.wrap .i64 (n2107 + 1)),l2165,hL2109,h.z⟩
   ·
    refine kF h ?_
    refine wp_exit ?_
    injection hL2109 with hL2109; subst hL2109
    exact ⟨l2108,rfl,h.z⟩
 ·
  rintro ac wd ⟨l1884,rfl,h⟩
  (try dsimp only at hD)
  refine wp_seq ?_
  refine qs 139 [] [2,3,5,10] [(1,0),(2,0),(4,0)] h fun ac wd h => ?_
  refine wp_block ?_
  refine r_while (fun nf ac wd => ∃ (n3009 : Int) (l3010 : List TStep),L_ref05_Can_l3 a0 a1 nf n3009 l3010 = some r ∧ SL ⟨wb,S,Φ,P0⟩ 80 305 [(2,.one (.ptr (1,0) 0)),(3,.one (.ptr (2,0) 0)),(5,.one (.own (4,0) l3010.length)),(10,.one (.d (.int .i64 n3009)))] [((1,0),some (.box 38 (cTApp a0))),((2,0),some (.box 40 (cTConf a1))),((4,0),some (.row 85 5 (dat (List.map eTStep l3010))))] ac wd) (((a1.Links.length : Int) - 0).toNat + 1) ⟨0,l1884,hD,h.z⟩ (fun nf ac wd hJ => ?_)
  obtain ⟨n3009,l3010,hL3011,h⟩ := hJ
  cases nf with
  | zero => rw [L_ref05_Can_l3] at hL3011; cases hL3011
  | succ nf =>
   rw [L_ref05_Can_l3] at hL3011
   refine wp_seq ?_
   refine qs 310 [] [2,3,5,10,45] [(1,0),(2,0),(4,0)] h fun ac wd h => ?_
   rcases i2 hL3011 with ⟨hb3013,hL3011⟩ | ⟨hb3013,hL3011⟩
   ·
    refine kT h ?_
    refine wp_skip ?_
    change Code.wp Try.prog _ _ _ _
    obtain ⟨e3085,hE3086,hL3011⟩ := Option.bind_eq_some_iff.1 hL3011
    refine r_seqJ (fun ac wd => ∃ (l3084 : List TStep),l3084 = e3085 ∧ SL ⟨wb,S,Φ,P0⟩ 80 385 [(2,.one (.ptr (1,0) 0)),(3,.one (.ptr (2,0) 0)),(5,.one (.own (4,0) l3084.length)),(10,.one (.d (.int .i64 n3009)))] [((1,0),some (.box 38 (cTApp a0))),((2,0),some (.box 40 (cTConf a1))),((4,0),some (.row 85 5 (dat (List.map eTStep l3084))))] ac wd) ?_ ?_
    ·
     refine wp_block ?_
     refine qs 311 [] [2,3,5,10,11] [(1,0),(2,0),(4,0)] h fun ac wd h => ?_
     obtain ⟨e3158,hE3159,hE3086⟩ := Option.bind_eq_some_iff.1 hE3086
     refine r_meetQ (fun ac wd => ∃ (l3157 : List TStep),l3157 = e3158 ∧ SL ⟨wb,S,Φ,P0⟩ 80 385 [(2,.one (.ptr (1,0) 0)),(3,.one (.ptr (2,0) 0)),(5,.one (.own (4,0) l3157.length)),(10,.one (.d (.int .i64 n3009)))] [((1,0),some (.box 38 (cTApp a0))),((2,0),some (.box 40 (cTConf a1))),((4,0),some (.row 85 5 (dat (List.map eTStep l3157))))] ac wd) ?_ ?_
     ·
      refine wp_block ?_
      refine r_while (fun nf ac wd => ∃ (n3201 : Int) (l3202 : List TStep),L_ref05_Can_l4 a0 a1 n3009 nf n3201 l3202 = some e3158 ∧ SL ⟨wb,S,Φ,P0⟩ 80 377 [(2,.one (.ptr (1,0) 0)),(3,.one (.ptr (2,0) 0)),(5,.one (.own (4,0) l3202.length)),(10,.one (.d (.int .i64 n3009))),(11,.one (.d (.int .i64 n3201)))] [((1,0),some (.box 38 (cTApp a0))),((2,0),some (.box 40 (cTConf a1))),((4,0),some (.row 85 5 (dat (List.map eTStep l3202))))] ac wd) (a1.Links.flatten.length + 1) ⟨0,l3010,hE3159,h.z⟩ (fun nf ac wd hJ => ?_)
      obtain ⟨n3201,l3202,hL3203,h⟩ := hJ
      cases nf with
      | zero => rw [L_ref05_Can_l4] at hL3203; cases hL3203
      | succ nf =>
       rw [L_ref05_Can_l4] at hL3203
       refine wp_seq ?_
       obtain ⟨x3206,hx3207a,hx3207b,hx3207c,hx3207d,hL3203⟩ := aB hL3203
       refine qs 385 [] [2,3,5,10,11,55] [(1,0),(2,0),(4,0)] h fun ac wd h => ?_
       rcases i2 hL3203 with ⟨hb3209,hL3203⟩ | ⟨hb3209,hL3203⟩
       ·
        refine kT h ?_
        refine wp_skip ?_
        change Code.wp Try.prog _ _ _ _
        obtain ⟨e3220,hE3221,hL3203⟩ := Option.bind_eq_some_iff.1 hL3203
        refine r_seqJ (fun ac wd => ∃ (l3219 : List TStep),l3219 = e3220 ∧ SL ⟨wb,S,Φ,P0⟩ 80 407 [(2,.one (.ptr (1,0) 0)),(3,.one (.ptr (2,0) 0)),(5,.one (.own (405,0) l3219.length)),(10,.one (.d (.int .i64 n3009))),(11,.one (.d (.int .i64 n3201)))] [((1,0),some (.box 38 (cTApp a0))),((2,0),some (.box 40 (cTConf a1))),((405,0),some (.row 85 5 (dat (List.map eTStep l3219))))] ac wd) ?_ ?_
        ·
         refine wp_block ?_
         obtain ⟨e3224,hE3225,hE3221⟩ := Option.bind_eq_some_iff.1 hE3221
         refine r_seqJ (fun ac wd => ∃ (b3223 : Bool),b3223 = e3224 ∧ SL ⟨wb,S,Φ,P0⟩ 80 392 [(2,.one (.ptr (1,0) 0)),(3,.one (.ptr (2,0) 0)),(5,.one (.own (4,0) l3202.length)),(10,.one (.d (.int .i64 n3009))),(11,.one (.d (.int .i64 n3201))),(64,.one (.d (.bool b3223)))] [((1,0),some (.box 38 (cTApp a0))),((2,0),some (.box 40 (cTConf a1))),((4,0),some (.row 85 5 (dat (List.map eTStep l3202))))] ac wd) ?_ ?_
         ·
          rcases i2e hE3225 with ⟨hb3226,hE3225⟩ | ⟨hb3226,hE3225⟩
          ·
           refine qeg [] [none,none,none,some (some 60,false),some (some 60,false),some (some 60,false),none] [2,3,5,10,11,64] [(1,0),(2,0),(4,0)] h fun ac wd h => ?_
           injection hE3225 with hE3225; subst hE3225
           exact ⟨true,rfl,h.z⟩
          ·
           refine qeg [] [none,none,none,some (some 60,false),some (some 60,false),some (some 60,false),none] [2,3,5,10,11,64] [(1,0),(2,0),(4,0)] h fun ac wd h => ?_
           injection hE3225 with hE3225; subst hE3225
           exact ⟨!(a0.Fifo),rfl,h.z⟩
         ·
          rintro ac wd ⟨b3223,rfl,h⟩
          (try dsimp only at hE3221)
          rcases i2b hE3221 with ⟨hb3227,hE3221⟩ | ⟨hb3227,hE3221⟩
          ·
           refine kT h ?_
           obtain ⟨x3228,hx3229a,hx3229b,hx3229c,hx3229d,hE3221⟩ := aB hE3221
           obtain ⟨ha3230,hE3221⟩ := iT hE3221
           refine qe [] [2,3,5,10,11] [(1,0),(2,0),(405,0)] h fun ac wd h => ?_
           injection hE3221 with hE3221; subst hE3221
           exact ⟨(l3202 ++ [(TStep.mk 1 0 0 n3009 x3228.Seq)]),rfl,h.z⟩
          ·
           refine kF h ?_
           refine wp_skip ?_
           have h := h.sw (405,0) (4,0) 407
           injection hE3221 with hE3221; subst hE3221
           exact ⟨l3202,rfl,h.z⟩
        ·
         rintro ac wd ⟨l3219,rfl,h⟩
         (try dsimp only at hL3203)
         refine qe [] [2,3,5,10,11] [(1,0),(2,0),(405,0)] h fun ac wd h => ?_
         have h := h.sw (4,0) (405,0) 410
         exact ⟨nf,Nat.lt_succ_self nf,(IntKind.wrap .i64 (n3201 + 1)),l3219,hL3203,h.z⟩
       ·
        refine kF h ?_
        refine wp_exit ?_
        injection hL3203 with hL3203; subst hL3203
        exact ⟨l3202,rfl,h.z⟩
     ·
      rintro ac wd ⟨l3157,rfl,h⟩
      (try dsimp only at hE3086)
      injection hE3086 with hE3086; subst hE3086
      exact ⟨l3157,rfl,h.z⟩
    ·
     rintro ac wd ⟨l3084,rfl,h⟩
     (try dsimp only at hL3011)
     refine qe [] [2,3,5,10] [(1,0),(2,0),(4,0)] h fun ac wd h => ?_
     exact ⟨nf,Nat.lt_succ_self nf,(IntKind.wrap .i64 (n3009 + 1)),l3084,hL3011,h.z⟩
   ·
    refine kF h ?_
    refine wp_exit ?_
    change Code.wp Try.prog _ _ _ _
    refine qs 312 [] [4] [(4,0)] h fun ac wd h => ?_
    refine wp_ret ?_
    have h := h.sw (1,0) (4,0) 312
    injection hL3011 with hL3011
    subst hL3011
    exact rO h [.tmp 4] [(1,0)]
theorem L_ref05_Can_ok {a0 : TApp} {a1 : TConf} {r : (List TStep)} (hD : L_ref05_Can a0 a1 = some r) :
  CallH Try.prog 50 [.agg (cTApp a0),.agg (cTConf a1)] []
   (.one (.d (.sl (List.map eTStep r)))) [] :=
 (L_ref05_Can_own hD).fr

end Go.Proofs.Ytifcbecpemaieaa
