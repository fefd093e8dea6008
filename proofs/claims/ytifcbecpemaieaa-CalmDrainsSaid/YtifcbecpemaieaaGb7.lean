/- Functions as typed ones,and that the program's functions answer as these do. No condition. -/
import Derived.Test.YtifcbecpemaieaaGb5
import Derived.Test.YtifcbecpemaieaaGd
set_option linter.unusedSimpArgs false
set_option linter.unusedVariables false
set_option maxRecDepth 20000
set_option maxHeartbeats 4000000
namespace Go.Proofs.Ytifcbecpemaieaa
open Go.RowKit

theorem L_plain_Start_own {a0 : TApp} {r : TConf} (hD : L_plain_Start a0 = some r) :
  CallH Try.prog 28 [.agg (cTApp a0)] []
   (.agg [.own (1,0) r.States.length,.own (1,1) r.Links.length,.own (1,2) r.Sent.length]) [((1,0),some (.row 3 1 (dat (List.map eI r.States)))),((1,1),some (.row 43 1 (openRows cols_43 (List.map (eL eTMsg) r.Links)))),((1,2),some (.row 3 1 (dat (List.map eI r.Sent))))] := by
 unfold L_plain_Start at hD
 refine rc Try.func28 rfl Try.ntmps28 fun S Φ P0 wb ac h => ?_
 refine qs 3 [] [1,2] [(1,0),(2,0)] h fun ac wd h => ?_
 obtain ⟨ha93,hD⟩ := iT hD
 obtain ⟨ha94,hD⟩ := iT hD
 obtain ⟨ha95,hD⟩ := iT hD
 refine ds 16 [] [1,2,3] [(1,0),(2,0),(7,0),(12,0),(14,0)] h fun ac wd h => ?_
 have h := h.nilTr (7,0) (l := List.replicate a0.G.Links.length [.nil]) (l' := List.replicate a0.G.Links.length [.tr (.sl 70 2 (fun _ => .sc)) (.sl (List.map eTMsg []))]) (by simp only [EZ,simprocAttr, *] <;> rfl) (RowsTo.rep (RowTo.cons (.inr (.inr ⟨rfl,_,_,_,rfl⟩)) RowTo.nil) _)
 have h := h.sm 16 [(1,.one (.ptr (1,0) 0)),(2,.one (.ptr (2,0) 0)),(3,.one (.ptr (14,0) 0))]
  [((1,0),some (.box 27 (cTApp a0))),((2,0),some (.box 31 [.nil,.nil,.nil])),((7,0),some (.row 43 1 (List.replicate a0.G.Links.length [.tr (.sl 70 2 (fun _ => .sc)) (.sl (List.map eTMsg []))]))),((12,0),some (.row 3 1 (dat (List.map eI (List.replicate a0.G.Links.length 0))))),((14,0),some (.box 31 [.nil,.own (7,0) a0.G.Links.length,.own (12,0) a0.G.Links.length]))]
 refine wp_seq ?_
 refine qs 20 [] [2,3,18,19,20] [(2,0),(7,0),(12,0),(14,0)] h fun ac wd h => ?_
 refine wp_block ?_
 have h := SL.bornB h (14,0) 0 3 1 (by simp only [EZ,simprocAttr, *] <;> rfl) (by simp only [EZ,simprocAttr, *] <;> rfl)
 refine r_while (fun nf ac wd => ∃ (n162 : Int) (l163 : List Int),L_plain_Start_l1 a0 nf n162 l163 = some r ∧ SL ⟨wb,S,Φ,P0⟩ 33 50 [(2,.one (.ptr (2,0) 0)),(3,.one (.ptr (14,0) 0)),(18,.one (.d (.sl (List.map eTNode a0.T)))),(19,.one (.d (.int .i64 (a0.T.length : Int)))),(20,.one (.d (.int .i64 n162)))] [((2,0),some (.box 31 [.nil,.nil,.nil])),((7,0),some (.row 43 1 (openRows cols_43 (List.map (eL eTMsg) (List.replicate a0.G.Links.length []))))),((12,0),some (.row 3 1 (dat (List.map eI (List.replicate a0.G.Links.length 0))))),((14,0),some (.box 31 [.own (20,0) l163.length,.own (7,0) a0.G.Links.length,.own (12,0) a0.G.Links.length])),((20,0),some (.row 3 1 (dat (List.map eI l163))))] ac wd) (((a0.T.length : Int) - 0).toNat + 1) ⟨0,([] : List Int),hD,h.z⟩ (fun nf ac wd hJ => ?_)
 obtain ⟨n162,l163,hL164,h⟩ := hJ
 cases nf with
 | zero => rw [L_plain_Start_l1] at hL164; cases hL164
 | succ nf =>
  rw [L_plain_Start_l1] at hL164
  refine qs 51 [] [2,3,18,19,20,21] [(2,0),(7,0),(12,0),(14,0),(20,0)] h fun ac wd h => ?_
  refine wp_seq ?_
  rcases i2 hL164 with ⟨hb166,hL164⟩ | ⟨hb166,hL164⟩
  ·
   refine kT h ?_
   refine wp_skip ?_
   change Code.wp Try.prog _ _ _ _
   refine wp_seq ?_
   refine wp_block ?_
   obtain ⟨x174,hx175a,hx175b,hx175c,hx175d,hL164⟩ := aB hL164
   refine qs 55 [] [2,3,5,18,19,20] [(2,0),(7,0),(12,0),(14,0),(20,0),(53,0)] h fun ac wd h => ?_
   obtain ⟨ha176,hL164⟩ := iT hL164
   refine qe [] [2,3,18,19,20] [(2,0),(7,0),(12,0),(14,0),(60,0)] h fun ac wd h => ?_
   change Code.wp Try.prog _ _ _ _
   refine qe [] [2,3,18,19,20] [(2,0),(7,0),(12,0),(14,0),(60,0)] h fun ac wd h => ?_
   have h := h.sw (20,0) (60,0) 65
   exact ⟨nf,Nat.lt_succ_self nf,(IntKind.wrap .i64 (n162 + 1)),(l163 ++ [x174.Start]),hL164,h.z⟩
  ·
   refine kF h ?_
   refine wp_exit ?_
   change Code.wp Try.prog _ _ _ _
   refine qs 53 [] [2] [(2,0),(7,0),(12,0),(20,0)] h fun ac wd h => ?_
   refine wp_ret ?_
   have h := h.sw (1,0) (20,0) 53
   have h := h.sw (1,1) (7,0) 53
   have h := h.sw (1,2) (12,0) 53
   injection hL164 with hL164
   subst hL164
   exact rO h [.cell 2 31] [(1,0),(1,1),(1,2)]
theorem L_plain_Start_ok {a0 : TApp} {r : TConf} (hD : L_plain_Start a0 = some r) :
  CallH Try.prog 28 [.agg (cTApp a0)] []
   (.agg [.d (.sl (List.map eI r.States)),.d (.sl (List.map (eL eTMsg) r.Links)),.d (.sl (List.map eI r.Sent))]) [] :=
 (L_plain_Start_own hD).fr

theorem L_slices_Clone_table_Send_table_Send_own {a0 : (List TSend)} {r : (List TSend)} (hD : L_slices_Clone_table_Send_table_Send a0 = some r) :
  CallH Try.prog 113 [.one (.d (.sl (List.map eTSend a0)))] []
   (.one (.own (1,0) r.length)) [((1,0),some (.row 146 2 (dat (List.map eTSend r))))] := by
 unfold L_slices_Clone_table_Send_table_Send at hD
 refine rc Try.func113 rfl Try.ntmps113 fun S Φ P0 wb ac h => ?_
 refine qs 2 [] [0] [] h fun ac wd h => ?_
 refine wp_seq ?_
 refine qs 4 [] [0,4] [] h fun ac wd h => ?_
 refine r_condB h (by simp only [EZ,simprocAttr, *] <;> rfl) (fun hn6 => ?_) (fun hn6 => ?_)
 ·
  have hn6 := hn6 rfl
  obtain rfl : a0 = [] := List.eq_nil_of_length_eq_zero (by simpa using hn6)
  have hD : (some []) = some r := by simpa using hD
  refine qs 5 [] [2] [] h fun ac wd h => ?_
  refine wp_ret ?_
  have h := SL.bornS h 2 146 2 (by simp only [EZ,simprocAttr, *] <;> rfl)
  have h := h.sw (1,0) (5,0) 6
  injection hD with hD
  subst hD
  exact rO h [.tmp 2] [(1,0)]
 ·
  refine wp_skip ?_
  change Code.wp Try.prog _ _ _ _
  obtain ⟨ha8,hD⟩ := iT hD
  refine qs 8 [] [2] [(6,0)] h fun ac wd h => ?_
  refine wp_ret ?_
  have h := h.sw (1,0) (6,0) 8
  injection hD with hD
  subst hD
  exact rO h [.tmp 2] [(1,0)]
theorem L_slices_Clone_table_Send_table_Send_ok {a0 : (List TSend)} {r : (List TSend)} (hD : L_slices_Clone_table_Send_table_Send a0 = some r) :
  CallH Try.prog 113 [.one (.d (.sl (List.map eTSend a0)))] []
   (.one (.d (.sl (List.map eTSend r)))) [] :=
 (L_slices_Clone_table_Send_table_Send_own hD).fr

theorem L_table_Picked_own {a0 : (List TNode)} {a1 : Int} {a2 : Int} {a3 : Int} {r : TPick × Bool} (hD : L_table_Picked a0 a1 a2 a3 = some r) :
  CallH Try.prog 94 [.one (.d (.sl (List.map eTNode a0))),.one (.d (.int .i64 a1)),.one (.d (.int .i64 a2)),.one (.d (.int .i64 a3))] []
   (.tup [.inl [.d (.int .i64 r.1.Next),.own (1,0) r.1.Sends.length],.inr (.d (.bool r.2))]) [((1,0),some (.row 146 2 (dat (List.map eTSend r.1.Sends))))] := by
 unfold L_table_Picked at hD
 refine rc Try.func94 rfl Try.ntmps94 fun S Φ P0 wb ac h => ?_
 refine qs 3 [] [0,1,2,3,8] [(1,0)] h fun ac wd h => ?_
 obtain ⟨r22,hc23,hD⟩ := oB hD
 have hc23k := L_table_at_ok hc23
 refine qs 13 [factE 6 hc23k] [3,8,10] [(1,0),(10,0)] h fun ac wd h => ?_
 refine wp_seq ?_
 obtain ⟨e26,hE27,hD⟩ := Option.bind_eq_some_iff.1 hD
 refine r_seqJ (fun ac wd => ∃ (b25 : Bool),b25 = e26 ∧ SL ⟨wb,S,Φ,P0⟩ 43 22 [(3,.one (.d (.int .i64 a3))),(8,.one (.ptr (1,0) 0)),(10,.one (.ptr (10,0) 0)),(27,.one (.d (.bool b25)))] [((1,0),some (.box 149 [.d (.int .i64 0),.nil])),((10,0),some (.box 141 [.d (.int .i64 r22.1.Mode),.d (.sl (List.map eI r22.1.Waits)),.d (.sl (List.map eTPick r22.1.Picks)),.d (.sl (List.map eTTake r22.1.Takes))]))] ac wd) ?_ ?_
 ·
  rcases i2 hE27 with ⟨hb28,hE27⟩ | ⟨hb28,hE27⟩
  ·
   refine qeg [] [none,none,none,some (some 21,false),some (some 21,false),some (some 21,false),some (some 21,false),some (some 21,false),none] [3,8,10,27] [(1,0),(10,0)] h fun ac wd h => ?_
   injection hE27 with hE27; subst hE27
   exact ⟨true,rfl,h.z⟩
  ·
   refine qeg [] [none,none,none,some (some 21,false),some (some 21,false),some (some 21,false),some (some 21,false),some (some 21,false),none] [3,8,10,27] [(1,0),(10,0)] h fun ac wd h => ?_
   injection hE27 with hE27; subst hE27
   exact ⟨decide (a3 ≥ (r22.1.Picks.length : Int)),rfl,h.z⟩
 ·
  rintro ac wd ⟨b25,rfl,h⟩
  (try dsimp only at hD)
  rcases i2b hD with ⟨hb30,hD⟩ | ⟨hb30,hD⟩
  ·
   refine kT h ?_
   refine qs 25 [] [8,9] [(1,0)] h fun ac wd h => ?_
   refine wp_ret ?_
   have h := SL.bornB h (1,0) 1 146 2 (by simp only [EZ,simprocAttr, *] <;> rfl) (by simp only [EZ,simprocAttr, *] <;> rfl)
   have h := h.sw (1,0) (25,0) 26
   injection hD with hD
   subst hD
   exact rO h [.cell 8 149,.tmp 9] [(1,0)]
  ·
   refine kF h ?_
   refine wp_skip ?_
   change Code.wp Try.prog _ _ _ _
   obtain ⟨x35,hx36a,hx36b,hx36c,hx36d,hD⟩ := aB hD
   obtain ⟨r37,hc38,hD⟩ := oB hD
   have hc38_34 := ((L_slices_Clone_table_Send_table_Send_own hc38).cls 34).z
   refine ds 38 [factO hc38_34] [8,9] [(1,0),(34,0)] h fun ac wd h => ?_
   refine wp_ret ?_
   have h := h.sw (1,0) (34,0) 38
   injection hD with hD
   subst hD
   exact rO h [.cell 8 149,.tmp 9] [(1,0)]
theorem L_table_Picked_ok {a0 : (List TNode)} {a1 : Int} {a2 : Int} {a3 : Int} {r : TPick × Bool} (hD : L_table_Picked a0 a1 a2 a3 = some r) :
  CallH Try.prog 94 [.one (.d (.sl (List.map eTNode a0))),.one (.d (.int .i64 a1)),.one (.d (.int .i64 a2)),.one (.d (.int .i64 a3))] []
   (.tup [.inl [.d (.int .i64 r.1.Next),.d (.sl (List.map eTSend r.1.Sends))],.inr (.d (.bool r.2))]) [] :=
 (L_table_Picked_own hD).fr

theorem L_slices_Clone_api_Msg_api_Msg_own {a0 : (List TMsg)} {r : (List TMsg)} (hD : L_slices_Clone_api_Msg_api_Msg a0 = some r) :
  CallH Try.prog 111 [.one (.d (.sl (List.map eTMsg a0)))] []
   (.one (.own (1,0) r.length)) [((1,0),some (.row 70 2 (dat (List.map eTMsg r))))] := by
 unfold L_slices_Clone_api_Msg_api_Msg at hD
 refine rc Try.func111 rfl Try.ntmps111 fun S Φ P0 wb ac h => ?_
 refine qs 2 [] [0] [] h fun ac wd h => ?_
 refine wp_seq ?_
 refine qs 4 [] [0,4] [] h fun ac wd h => ?_
 refine r_condB h (by simp only [EZ,simprocAttr, *] <;> rfl) (fun hn6 => ?_) (fun hn6 => ?_)
 ·
  have hn6 := hn6 rfl
  obtain rfl : a0 = [] := List.eq_nil_of_length_eq_zero (by simpa using hn6)
  have hD : (some []) = some r := by simpa using hD
  refine qs 5 [] [2] [] h fun ac wd h => ?_
  refine wp_ret ?_
  have h := SL.bornS h 2 70 2 (by simp only [EZ,simprocAttr, *] <;> rfl)
  have h := h.sw (1,0) (5,0) 6
  injection hD with hD
  subst hD
  exact rO h [.tmp 2] [(1,0)]
 ·
  refine wp_skip ?_
  change Code.wp Try.prog _ _ _ _
  obtain ⟨ha8,hD⟩ := iT hD
  refine qs 8 [] [2] [(6,0)] h fun ac wd h => ?_
  refine wp_ret ?_
  have h := h.sw (1,0) (6,0) 8
  injection hD with hD
  subst hD
  exact rO h [.tmp 2] [(1,0)]
theorem L_slices_Clone_api_Msg_api_Msg_ok {a0 : (List TMsg)} {r : (List TMsg)} (hD : L_slices_Clone_api_Msg_api_Msg a0 = some r) :
  CallH Try.prog 111 [.one (.d (.sl (List.map eTMsg a0)))] []
   (.one (.d (.sl (List.map eTMsg r)))) [] :=
 (L_slices_Clone_api_Msg_api_Msg_own hD).fr

theorem L_plain_own_own {a0 : TConf} {r : TConf} (hD : L_plain_own a0 = some r) :
  CallH Try.prog 81 [.agg (cTConf a0)] []
   (.agg [.own (1,0) r.States.length,.own (1,1) r.Links.length,.own (1,2) r.Sent.length]) [((1,0),some (.row 3 1 (dat (List.map eI r.States)))),((1,1),some (.row 43 1 (openRows cols_43 (List.map (eL eTMsg) r.Links)))),((1,2),some (.row 3 1 (dat (List.map eI r.Sent))))] := by
 unfold L_plain_own at hD
 refine rc Try.func81 rfl Try.ntmps81 fun S Φ P0 wb ac h => ?_
 refine qs 3 [] [1,2] [(1,0),(2,0)] h fun ac wd h => ?_
 obtain ⟨ha158,hD⟩ := iT hD
 obtain ⟨ha159,hD⟩ := iT hD
 obtain ⟨ha160,hD⟩ := iT hD
 obtain ⟨ha161,hD⟩ := iT hD
 obtain ⟨ha162,hD⟩ := iT hD
 obtain ⟨ha163,hD⟩ := iT hD
 refine ds 18 [] [1,2,3] [(1,0),(2,0),(6,0),(10,0),(14,0),(16,0)] h fun ac wd h => ?_
 have h := h.nilTr (10,0) (l := List.replicate a0.Links.length [.nil]) (l' := List.replicate a0.Links.length [.tr (.sl 70 2 (fun _ => .sc)) (.sl (List.map eTMsg []))]) (by simp only [EZ,simprocAttr, *] <;> rfl) (RowsTo.rep (RowTo.cons (.inr (.inr ⟨rfl,_,_,_,rfl⟩)) RowTo.nil) _)
 have h := h.sm 18 [(1,.one (.ptr (1,0) 0)),(2,.one (.ptr (2,0) 0)),(3,.one (.ptr (16,0) 0))]
  [((1,0),some (.box 31 (cTConf a0))),((2,0),some (.box 31 [.nil,.nil,.nil])),((6,0),some (.row 3 1 (dat (List.map eI (List.replicate a0.States.length 0))))),((10,0),some (.row 43 1 (List.replicate a0.Links.length [.tr (.sl 70 2 (fun _ => .sc)) (.sl (List.map eTMsg []))]))),((14,0),some (.row 3 1 (dat (List.map eI (List.replicate a0.Sent.length 0))))),((16,0),some (.box 31 [.own (6,0) a0.States.length,.own (10,0) a0.Links.length,.own (14,0) a0.Sent.length]))]
 obtain ⟨v167,hv168,hD⟩ := vB hD
 have h := h.same [1,2,3] [(1,0),(2,0),(6,0),(10,0),(14,0),(16,0)] 18 [(1,.one (.ptr (1,0) 0)),(2,.one (.ptr (2,0) 0)),(3,.one (.ptr (16,0) 0))]
  [((1,0),some (.box 31 (cTConf a0))),((2,0),some (.box 31 [.nil,.nil,.nil])),((6,0),some (.row 3 1 (dat (List.map eI v167)))),((10,0),some (.row 43 1 (openRows cols_43 (List.map (eL eTMsg) (List.replicate a0.Links.length []))))),((14,0),some (.row 3 1 (dat (List.map eI (List.replicate a0.Sent.length 0))))),((16,0),some (.box 31 [.own (6,0) v167.length,.own (10,0) a0.Links.length,.own (14,0) a0.Sent.length]))]
  (by simp only [EZ,simprocAttr,ha158,ha159,ha160,ha161,ha162,ha163,dat_open,← hv168] <;> rfl)
 have hl169 : ((a0.States.take v167.length) ++ v167.drop (a0.States.take v167.length).length).length = v167.length := by simp only [List.append_assoc,List.length_append,List.length_take,List.length_drop]; omega
 simp only [List.append_assoc,List.length_append,List.length_take,List.length_drop] at hl169
 refine qs 23 [] [1,2,3] [(1,0),(2,0),(6,0),(10,0),(14,0),(16,0)] h fun ac wd h => ?_
 obtain ⟨v173,hv174,hD⟩ := vB hD
 have h := h.same [1,2,3] [(1,0),(2,0),(6,0),(10,0),(14,0),(16,0)] 23 [(1,.one (.ptr (1,0) 0)),(2,.one (.ptr (2,0) 0)),(3,.one (.ptr (16,0) 0))]
  [((1,0),some (.box 31 (cTConf a0))),((2,0),some (.box 31 [.nil,.nil,.nil])),((6,0),some (.row 3 1 (dat (List.map eI ((a0.States.take v167.length) ++ v167.drop (a0.States.take v167.length).length))))),((10,0),some (.row 43 1 (openRows cols_43 (List.map (eL eTMsg) (List.replicate a0.Links.length []))))),((14,0),some (.row 3 1 (dat (List.map eI v173)))),((16,0),some (.box 31 [.own (6,0) ((min v167.length a0.States.length) + (v167.length - ((a0.States.take v167.length).length))),.own (10,0) a0.Links.length,.own (14,0) v173.length]))]
  (by simp only [EZ,simprocAttr,ha158,ha159,ha160,ha161,ha162,ha163,hl169,dat_open,← hv174] <;> rfl)
 have hl175 : ((a0.Sent.take v173.length) ++ v173.drop (a0.Sent.take v173.length).length).length = v173.length := by simp only [List.append_assoc,List.length_append,List.length_take,List.length_drop]; omega
 simp only [List.append_assoc,List.length_append,List.length_take,List.length_drop] at hl175
 refine qs 28 [] [1,2,3] [(1,0),(2,0),(6,0),(10,0),(14,0),(16,0)] h fun ac wd h => ?_
 refine wp_seq ?_
 refine qs 32 [] [2,3,30,31,32] [(2,0),(6,0),(10,0),(14,0),(16,0)] h fun ac wd h => ?_
 refine wp_block ?_
 refine r_while (fun nf ac wd => ∃ (n280 : Int) (l281 : List (List TMsg)),L_plain_own_l1 a0 v167 v173 nf n280 l281 = some r ∧ SL ⟨wb,S,Φ,P0⟩ 45 62 [(2,.one (.ptr (2,0) 0)),(3,.one (.ptr (16,0) 0)),(30,.one (.d (.sl (List.map (eL eTMsg) a0.Links)))),(31,.one (.d (.int .i64 (a0.Links.length : Int)))),(32,.one (.d (.int .i64 n280)))] [((2,0),some (.box 31 [.nil,.nil,.nil])),((6,0),some (.row 3 1 (dat (List.map eI ((a0.States.take v167.length) ++ v167.drop (a0.States.take v167.length).length))))),((10,0),some (.row 43 1 (openRows cols_43 (List.map (eL eTMsg) l281)))),((14,0),some (.row 3 1 (dat (List.map eI ((a0.Sent.take v173.length) ++ v173.drop (a0.Sent.take v173.length).length))))),((16,0),some (.box 31 [.own (6,0) ((min v167.length a0.States.length) + (v167.length - ((a0.States.take v167.length).length))),.own (10,0) l281.length,.own (14,0) ((min v173.length a0.Sent.length) + (v173.length - ((a0.Sent.take v173.length).length)))]))] ac wd) (((a0.Links.length : Int) - 0).toNat + 1) ⟨0,((List.replicate a0.Links.length []) : List (List TMsg)),hD,h.z⟩ (fun nf ac wd hJ => ?_)
 obtain ⟨n280,l281,hL282,h⟩ := hJ
 cases nf with
 | zero => rw [L_plain_own_l1] at hL282; cases hL282
 | succ nf =>
  rw [L_plain_own_l1] at hL282
  refine qs 63 [] [2,3,30,31,32,33] [(2,0),(6,0),(10,0),(14,0),(16,0)] h fun ac wd h => ?_
  refine wp_seq ?_
  rcases i2 hL282 with ⟨hb284,hL282⟩ | ⟨hb284,hL282⟩
  ·
   refine kT h ?_
   refine wp_skip ?_
   change Code.wp Try.prog _ _ _ _
   refine wp_seq ?_
   refine wp_block ?_
   obtain ⟨x295,hx296a,hx296b,hx296c,hx296d,hL282⟩ := aB hL282
   refine qs 68 [] [2,3,4,5,30,31,32] [(2,0),(6,0),(10,0),(14,0),(16,0)] h fun ac wd h => ?_
   obtain ⟨r297,hc298,hL282⟩ := oB hL282
   obtain ⟨x299,hx300a,hx300b,hx300c,hx300d,hL282⟩ := aB hL282
   have hc298_72 := ((L_slices_Clone_api_Msg_api_Msg_own hc298).cls 72).z
   refine de [factO hc298_72] [2,3,30,31,32] [(2,0),(6,0),(10,0),(14,0),(16,0),(72,0)] h fun ac wd h => ?_
   have h := h.fS (cols := (fun _ => .sc)) (10,0) (72,0) (openRows cols_43 (List.map (eL eTMsg) l281)) n280.toNat [.own (72,0) r297.length] 0 (List.map eTMsg r297) (sc_70 _)
   have h := h.sm 75 [(2,.one (.ptr (2,0) 0)),(3,.one (.ptr (16,0) 0)),(30,.one (.d (.sl (List.map (eL eTMsg) a0.Links)))),(31,.one (.d (.int .i64 (a0.Links.length : Int)))),(32,.one (.d (.int .i64 n280)))]
    [((2,0),some (.box 31 [.nil,.nil,.nil])),((6,0),some (.row 3 1 (dat (List.map eI ((a0.States.take v167.length) ++ v167.drop (a0.States.take v167.length).length))))),((10,0),some (.row 43 1 ((openRows cols_43 (List.map (eL eTMsg) l281)).set n280.toNat [.tr (.sl 70 2 (fun _ => .sc)) (.sl (List.map eTMsg r297))]))),((14,0),some (.row 3 1 (dat (List.map eI ((a0.Sent.take v173.length) ++ v173.drop (a0.Sent.take v173.length).length))))),((16,0),some (.box 31 [.own (6,0) ((min v167.length a0.States.length) + (v167.length - ((a0.States.take v167.length).length))),.own (10,0) l281.length,.own (14,0) ((min v173.length a0.Sent.length) + (v173.length - ((a0.Sent.take v173.length).length)))]))]
   change Code.wp Try.prog _ _ _ _
   refine qe [] [2,3,30,31,32] [(2,0),(6,0),(10,0),(14,0),(16,0)] h fun ac wd h => ?_
   exact ⟨nf,Nat.lt_succ_self nf,(IntKind.wrap .i64 (n280 + 1)),(l281.set n280.toNat r297),hL282,h.z⟩
  ·
   refine kF h ?_
   refine wp_exit ?_
   change Code.wp Try.prog _ _ _ _
   refine qs 65 [] [2] [(2,0),(6,0),(10,0),(14,0)] h fun ac wd h => ?_
   refine wp_ret ?_
   have h := h.sw (1,0) (6,0) 65
   have h := h.sw (1,1) (10,0) 65
   have h := h.sw (1,2) (14,0) 65
   injection hL282 with hL282
   subst hL282
   exact rO h [.cell 2 31] [(1,0),(1,1),(1,2)]
theorem L_plain_own_ok {a0 : TConf} {r : TConf} (hD : L_plain_own a0 = some r) :
  CallH Try.prog 81 [.agg (cTConf a0)] []
   (.agg [.d (.sl (List.map eI r.States)),.d (.sl (List.map (eL eTMsg) r.Links)),.d (.sl (List.map eI r.Sent))]) [] :=
 (L_plain_own_own hD).fr

theorem L_plain_App_pick_own {a0 : TApp} {a1 : TConf} {a2 : TStep} {r : TConf × Int} (hD : L_plain_App_pick a0 a1 a2 = some r) :
  CallH Try.prog 65 [.agg (cTApp a0),.agg (cTConf a1),.agg (cTStep a2)] []
   (.tup [.inl [.own (1,0) r.1.States.length,.own (1,1) r.1.Links.length,.own (1,2) r.1.Sent.length],.inr (.d (.int .i64 r.2))]) [((1,0),some (.row 3 1 (dat (List.map eI r.1.States)))),((1,1),some (.row 43 1 (openRows cols_43 (List.map (eL eTMsg) r.1.Links)))),((1,2),some (.row 3 1 (dat (List.map eI r.1.Sent))))] := by
 unfold L_plain_App_pick at hD
 refine rc Try.func65 rfl Try.ntmps65 fun S Φ P0 wb ac h => ?_
 refine qs 6 [] [3,4,5,6] [(1,0),(2,0),(3,0),(4,0)] h fun ac wd h => ?_
 refine wp_seq ?_
 obtain ⟨e315,hE316,hD⟩ := Option.bind_eq_some_iff.1 hD
 refine r_seqJ (fun ac wd => ∃ (b314 : Bool),b314 = e315 ∧ SL ⟨wb,S,Φ,P0⟩ 113 17 [(3,.one (.ptr (1,0) 0)),(4,.one (.ptr (2,0) 0)),(5,.one (.ptr (3,0) 0)),(6,.one (.ptr (4,0) 0)),(25,.one (.d (.bool b314)))] [((1,0),some (.box 27 (cTApp a0))),((2,0),some (.box 31 (cTConf a1))),((3,0),some (.box 57 (cTStep a2))),((4,0),some (.box 31 [.nil,.nil,.nil]))] ac wd) ?_ ?_
 ·
  rcases i2 hE316 with ⟨hb317,hE316⟩ | ⟨hb317,hE316⟩
  ·
   refine qeg [] [none,none,none,none,some (some 18,false),some (some 18,false),some (some 18,false),some (some 18,false),some (some 18,false),some (some 18,false),none] [3,4,5,6,25] [(1,0),(2,0),(3,0),(4,0)] h fun ac wd h => ?_
   injection hE316 with hE316; subst hE316
   exact ⟨true,rfl,h.z⟩
  ·
   refine qeg [] [none,none,none,none,some (some 18,false),some (some 18,false),some (some 18,false),some (some 18,false),some (some 18,false),some (some 18,false),none] [3,4,5,6,25] [(1,0),(2,0),(3,0),(4,0)] h fun ac wd h => ?_
   injection hE316 with hE316; subst hE316
   exact ⟨decide (a2.Node ≥ a0.G.N),rfl,h.z⟩
 ·
  rintro ac wd ⟨b314,rfl,h⟩
  (try dsimp only at hD)
  rcases i2b hD with ⟨hb319,hD⟩ | ⟨hb319,hD⟩
  ·
   refine kT h ?_
   refine qs 20 [] [6,7] [(4,0)] h fun ac wd h => ?_
   refine wp_ret ?_
   have h := SL.bornB h (4,0) 0 3 1 (by simp only [EZ,simprocAttr, *] <;> rfl) (by simp only [EZ,simprocAttr, *] <;> rfl)
   have h := SL.bornB h (4,0) 1 43 1 (by simp only [EZ,simprocAttr, *] <;> rfl) (by simp only [EZ,simprocAttr, *] <;> rfl)
   have h := SL.bornB h (4,0) 2 3 1 (by simp only [EZ,simprocAttr, *] <;> rfl) (by simp only [EZ,simprocAttr, *] <;> rfl)
   have h := h.sw (1,0) (20,0) 23
   have h := h.sw (1,1) (21,0) 23
   have h := h.sw (1,2) (22,0) 23
   injection hD with hD
   subst hD
   exact rO h [.cell 6 31,.tmp 7] [(1,0),(1,1),(1,2)]
  ·
   refine kF h ?_
   refine wp_skip ?_
   change Code.wp Try.prog _ _ _ _
   obtain ⟨x322,hx323a,hx323b,hx323c,hx323d,hD⟩ := aB hD
   refine qs 24 [] [3,4,5,6,8] [(1,0),(2,0),(3,0),(4,0)] h fun ac wd h => ?_
   refine wp_seq ?_
   obtain ⟨r326,hc327,hD⟩ := oB hD
   have hc327k := L_table_Mode_ok hc327
   refine qs 31 [factE 29 hc327k] [3,4,5,6,8,39] [(1,0),(2,0),(3,0),(4,0)] h fun ac wd h => ?_
   rcases i2e hD with ⟨hb329,hD⟩ | ⟨hb329,hD⟩
   ·
    refine kF h ?_
    refine wp_skip ?_
    change Code.wp Try.prog _ _ _ _
    obtain ⟨r332,hc333,hD⟩ := oB hD
    have hc333k := L_table_Picked_ok hc333
    refine qs 45 [factE 38 hc333k] [3,4,5,6,9,10] [(1,0),(2,0),(3,0),(4,0),(42,0)] h fun ac wd h => ?_
    refine wp_seq ?_
    refine qs 47 [] [3,4,5,6,9,53] [(1,0),(2,0),(3,0),(4,0),(42,0)] h fun ac wd h => ?_
    rcases i2b hD with ⟨hb335,hD⟩ | ⟨hb335,hD⟩
    ·
     refine kF h ?_
     refine wp_skip ?_
     change Code.wp Try.prog _ _ _ _
     obtain ⟨r338,hc339,hD⟩ := oB hD
     have hc339_48 := ((L_plain_own_own hc339).cls 48).z
     refine qs 51 [factO hc339_48] [3,5,6,9,11] [(1,0),(3,0),(4,0),(42,0),(48,0),(48,1),(48,2),(49,0)] h fun ac wd h => ?_
     obtain ⟨x342,hx343a,hx343b,hx343c,hx343d,hD⟩ := aB hD
     refine qs 59 [] [3,5,6,9,11] [(1,0),(3,0),(4,0),(42,0),(48,0),(48,1),(48,2),(49,0)] h fun ac wd h => ?_
     refine wp_seq ?_
     refine qs 63 [] [3,5,6,11,65,66,67] [(1,0),(3,0),(4,0),(48,0),(48,1),(48,2),(49,0)] h fun ac wd h => ?_
     refine wp_block ?_
     refine r_while (fun nf ac wd => ∃ (n573 : Int) (l574 : List (List TMsg)) (l575 : List Int),L_plain_App_pick_l1 a0 a2 r332 r338 nf n573 l574 l575 = some r ∧ SL ⟨wb,S,Φ,P0⟩ 113 163 [(3,.one (.ptr (1,0) 0)),(5,.one (.ptr (3,0) 0)),(6,.one (.ptr (4,0) 0)),(11,.one (.ptr (49,0) 0)),(65,.one (.d (.sl (List.map eTSend r332.1.Sends)))),(66,.one (.d (.int .i64 (r332.1.Sends.length : Int)))),(67,.one (.d (.int .i64 n573)))] [((1,0),some (.box 27 (cTApp a0))),((3,0),some (.box 57 (cTStep a2))),((4,0),some (.box 31 [.nil,.nil,.nil])),((48,0),some (.row 3 1 (dat (List.map eI (r338.States.set a2.Node.toNat r332.1.Next))))),((48,1),some (.row 43 1 (openRows cols_43 (List.map (eL eTMsg) l574)))),((48,2),some (.row 3 1 (dat (List.map eI l575)))),((49,0),some (.box 31 [.own (48,0) r338.States.length,.own (48,1) l574.length,.own (48,2) l575.length]))] ac wd) (((r332.1.Sends.length : Int) - 0).toNat + 1) ⟨0,r338.Links,r338.Sent,hD,h.z⟩ (fun nf ac wd hJ => ?_)
     obtain ⟨n573,l574,l575,hL576,h⟩ := hJ
     cases nf with
     | zero => rw [L_plain_App_pick_l1] at hL576; cases hL576
     | succ nf =>
      rw [L_plain_App_pick_l1] at hL576
      refine qs 164 [] [3,5,6,11,65,66,67,68] [(1,0),(3,0),(4,0),(48,0),(48,1),(48,2),(49,0)] h fun ac wd h => ?_
      refine wp_seq ?_
      rcases i2 hL576 with ⟨hb578,hL576⟩ | ⟨hb578,hL576⟩
      ·
       refine kT h ?_
       refine wp_skip ?_
       change Code.wp Try.prog _ _ _ _
       refine wp_seq ?_
       refine wp_block ?_
       obtain ⟨x602,hx603a,hx603b,hx603c,hx603d,hL576⟩ := aB hL576
       refine qs 168 [] [3,5,6,11,13,65,66,67] [(1,0),(3,0),(4,0),(48,0),(48,1),(48,2),(49,0),(166,0)] h fun ac wd h => ?_
       obtain ⟨r606,hc607,hL576⟩ := oB hL576
       have hc607k := L_graph_Find_ok hc607
       refine qs 176 [factE 174 hc607k] [3,5,6,11,13,14,65,66,67] [(1,0),(3,0),(4,0),(48,0),(48,1),(48,2),(49,0),(166,0)] h fun ac wd h => ?_
       refine wp_seq ?_
       obtain ⟨x610,hx611a,hx611b,hx611c,hx611d,hL576⟩ := aB hL576
       refine qs 182 [] [3,5,6,11,13,14,65,66,67,83] [(1,0),(3,0),(4,0),(48,0),(48,1),(48,2),(49,0),(166,0)] h fun ac wd h => ?_
       rcases i2 hL576 with ⟨hb613,hL576⟩ | ⟨hb613,hL576⟩
       ·
        refine kT h ?_
        refine qs 185 [] [6,7] [(4,0)] h fun ac wd h => ?_
        refine wp_ret ?_
        have h := SL.bornB h (4,0) 0 3 1 (by simp only [EZ,simprocAttr, *] <;> rfl) (by simp only [EZ,simprocAttr, *] <;> rfl)
        have h := SL.bornB h (4,0) 1 43 1 (by simp only [EZ,simprocAttr, *] <;> rfl) (by simp only [EZ,simprocAttr, *] <;> rfl)
        have h := SL.bornB h (4,0) 2 3 1 (by simp only [EZ,simprocAttr, *] <;> rfl) (by simp only [EZ,simprocAttr, *] <;> rfl)
        have h := h.sw (1,0) (185,0) 188
        have h := h.sw (1,1) (186,0) 188
        have h := h.sw (1,2) (187,0) 188
        injection hL576 with hL576
        subst hL576
        exact rO h [.cell 6 31,.tmp 7] [(1,0),(1,1),(1,2)]
       ·
        refine kF h ?_
        refine wp_skip ?_
        change Code.wp Try.prog _ _ _ _
        refine qs 190 [] [3,5,6,11,13,14,65,66,67] [(1,0),(3,0),(4,0),(48,0),(48,1),(48,2),(49,0),(166,0)] h fun ac wd h => ?_
        obtain ⟨x614,hx615a,hx615b,hx615c,hx615d,hL576⟩ := aB hL576
        have h := h.op (48,1) r606.toNat 0
        have h := h.sm 191 [(3,.one (.ptr (1,0) 0)),(5,.one (.ptr (3,0) 0)),(6,.one (.ptr (4,0) 0)),(11,.one (.ptr (49,0) 0)),(13,.one (.ptr (166,0) 0)),(14,.one (.d (.int .i64 r606))),(65,.one (.d (.sl (List.map eTSend r332.1.Sends)))),(66,.one (.d (.int .i64 (r332.1.Sends.length : Int)))),(67,.one (.d (.int .i64 n573)))]
         [((1,0),some (.box 27 (cTApp a0))),((3,0),some (.box 57 (cTStep a2))),((4,0),some (.box 31 [.nil,.nil,.nil])),((48,0),some (.row 3 1 (dat (List.map eI (r338.States.set a2.Node.toNat r332.1.Next))))),((48,1),some (.row 43 1 ((openRows cols_43 (List.map (eL eTMsg) l574)).set r606.toNat [.own (190,0) x614.length]))),((48,2),some (.row 3 1 (dat (List.map eI (l575.set r606.toNat (IntKind.wrap .i64 (x610 + 1))))))),((49,0),some (.box 31 [.own (48,0) r338.States.length,.own (48,1) l574.length,.own (48,2) l575.length])),((166,0),some (.box 146 (cTSend x602))),((190,0),some (.row 70 2 (dat (List.map eTMsg x614))))]
        obtain ⟨v616,hv617,hL576⟩ := vB hL576
        have h := h.same [3,5,6,11,13,14,65,66,67] [(1,0),(3,0),(4,0),(48,0),(48,1),(48,2),(49,0),(166,0),(190,0)] 191 [(3,.one (.ptr (1,0) 0)),(5,.one (.ptr (3,0) 0)),(6,.one (.ptr (4,0) 0)),(11,.one (.ptr (49,0) 0)),(13,.one (.ptr (166,0) 0)),(14,.one (.d (.int .i64 r606))),(65,.one (.d (.sl (List.map eTSend r332.1.Sends)))),(66,.one (.d (.int .i64 (r332.1.Sends.length : Int)))),(67,.one (.d (.int .i64 n573)))]
         [((1,0),some (.box 27 (cTApp a0))),((3,0),some (.box 57 (cTStep a2))),((4,0),some (.box 31 [.nil,.nil,.nil])),((48,0),some (.row 3 1 (dat (List.map eI (r338.States.set a2.Node.toNat r332.1.Next))))),((48,1),some (.row 43 1 ((openRows cols_43 (List.map (eL eTMsg) l574)).set r606.toNat [.own (190,0) x614.length]))),((48,2),some (.row 3 1 (dat (List.map eI v616)))),((49,0),some (.box 31 [.own (48,0) r338.States.length,.own (48,1) l574.length,.own (48,2) v616.length])),((166,0),some (.box 146 (cTSend x602))),((190,0),some (.row 70 2 (dat (List.map eTMsg x614))))]
         (by simp only [EZ,simprocAttr,hb319,hx323a,hx323b,hx323c,hx323d,hb329,hb335,hx343a,hx343b,hx343c,hx343d,hb578,hx603a,hx603b,hx603c,hx603d,hx611a,hx611b,hx611c,hx611d,hb613,hx615a,hx615b,hx615c,hx615d,dat_open,← hv617] <;> rfl)
        obtain ⟨x618,hx619a,hx619b,hx619c,hx619d,hL576⟩ := aB hL576
        obtain ⟨ha620,hL576⟩ := iT hL576
        refine de [] [3,5,6,11,65,66,67] [(1,0),(3,0),(4,0),(48,0),(48,1),(48,2),(49,0),(208,0)] h fun ac wd h => ?_
        have h := h.fS (cols := (fun _ => .sc)) (48,1) (208,0) (openRows cols_43 (List.map (eL eTMsg) l574)) r606.toNat [.own (208,0) (x614.length + 1)] 0 (List.map eTMsg (x614 ++ [(TMsg.mk x618 x602.Letter)])) (sc_70 _)
        have h := h.sm 211 [(3,.one (.ptr (1,0) 0)),(5,.one (.ptr (3,0) 0)),(6,.one (.ptr (4,0) 0)),(11,.one (.ptr (49,0) 0)),(65,.one (.d (.sl (List.map eTSend r332.1.Sends)))),(66,.one (.d (.int .i64 (r332.1.Sends.length : Int)))),(67,.one (.d (.int .i64 n573)))]
         [((1,0),some (.box 27 (cTApp a0))),((3,0),some (.box 57 (cTStep a2))),((4,0),some (.box 31 [.nil,.nil,.nil])),((48,0),some (.row 3 1 (dat (List.map eI (r338.States.set a2.Node.toNat r332.1.Next))))),((48,1),some (.row 43 1 ((openRows cols_43 (List.map (eL eTMsg) l574)).set r606.toNat [.tr (.sl 70 2 (fun _ => .sc)) (.sl (List.map eTMsg (x614 ++ [(TMsg.mk x618 x602.Letter)])))]))),((48,2),some (.row 3 1 (dat (List.map eI v616)))),((49,0),some (.box 31 [.own (48,0) r338.States.length,.own (48,1) l574.length,.own (48,2) v616.length]))]
        change Code.wp Try.prog _ _ _ _
        refine qe [] [3,5,6,11,65,66,67] [(1,0),(3,0),(4,0),(48,0),(48,1),(48,2),(49,0)] h fun ac wd h => ?_
        exact ⟨nf,Nat.lt_succ_self nf,(IntKind.wrap .i64 (n573 + 1)),(l574.set r606.toNat (x614 ++ [(TMsg.mk x618 x602.Letter)])),v616,hL576,h.z⟩
      ·
       refine kF h ?_
       refine wp_exit ?_
       change Code.wp Try.prog _ _ _ _
       refine qs 167 [] [6,7] [(4,0),(48,0),(48,1),(48,2)] h fun ac wd h => ?_
       refine wp_ret ?_
       have h := h.sw (1,0) (48,0) 167
       have h := h.sw (1,1) (48,1) 167
       have h := h.sw (1,2) (48,2) 167
       injection hL576 with hL576
       subst hL576
       exact rO h [.cell 6 31,.tmp 7] [(1,0),(1,1),(1,2)]
    ·
     refine kT h ?_
     refine qs 50 [] [6,7] [(4,0)] h fun ac wd h => ?_
     refine wp_ret ?_
     have h := SL.bornB h (4,0) 0 3 1 (by simp only [EZ,simprocAttr, *] <;> rfl) (by simp only [EZ,simprocAttr, *] <;> rfl)
     have h := SL.bornB h (4,0) 1 43 1 (by simp only [EZ,simprocAttr, *] <;> rfl) (by simp only [EZ,simprocAttr, *] <;> rfl)
     have h := SL.bornB h (4,0) 2 3 1 (by simp only [EZ,simprocAttr, *] <;> rfl) (by simp only [EZ,simprocAttr, *] <;> rfl)
     have h := h.sw (1,0) (50,0) 53
     have h := h.sw (1,1) (51,0) 53
     have h := h.sw (1,2) (52,0) 53
     injection hD with hD
     subst hD
     exact rO h [.cell 6 31,.tmp 7] [(1,0),(1,1),(1,2)]
   ·
    refine kT h ?_
    refine qs 34 [] [6,7] [(4,0)] h fun ac wd h => ?_
    refine wp_ret ?_
    have h := SL.bornB h (4,0) 0 3 1 (by simp only [EZ,simprocAttr, *] <;> rfl) (by simp only [EZ,simprocAttr, *] <;> rfl)
    have h := SL.bornB h (4,0) 1 43 1 (by simp only [EZ,simprocAttr, *] <;> rfl) (by simp only [EZ,simprocAttr, *] <;> rfl)
    have h := SL.bornB h (4,0) 2 3 1 (by simp only [EZ,simprocAttr, *] <;> rfl) (by simp only [EZ,simprocAttr, *] <;> rfl)
    have h := h.sw (1,0) (34,0) 37
    have h := h.sw (1,1) (35,0) 37
    have h := h.sw (1,2) (36,0) 37
    injection hD with hD
    subst hD
    exact rO h [.cell 6 31,.tmp 7] [(1,0),(1,1),(1,2)]
theorem L_plain_App_pick_ok {a0 : TApp} {a1 : TConf} {a2 : TStep} {r : TConf × Int} (hD : L_plain_App_pick a0 a1 a2 = some r) :
  CallH Try.prog 65 [.agg (cTApp a0),.agg (cTConf a1),.agg (cTStep a2)] []
   (.tup [.inl [.d (.sl (List.map eI r.1.States)),.d (.sl (List.map (eL eTMsg) r.1.Links)),.d (.sl (List.map eI r.1.Sent))],.inr (.d (.int .i64 r.2))]) [] :=
 (L_plain_App_pick_own hD).fr

theorem L_plain_App_deliver_1_own {a0 : TMsg} {a1 : TStep} {r : Bool × TStep} (hD : L_plain_App_deliver_1 a0 a1 = some r) :
  CallH Try.prog 97 [.agg (cTMsg a0),.one (.ptr (0,0) 0)] [((0,0),some (.box 57 (cTStep a1)))]
   (.one (.d (.bool r.1))) [((0,0),some (.box 57 (cTStep r.2)))] := by
 unfold L_plain_App_deliver_1 at hD
 refine rc Try.func97 rfl Try.ntmps97 fun S Φ P0 wb ac h => ?_
 refine qs 3 [] [1,2] [(0,0),(1,0)] h fun ac wd h => ?_
 refine qs 9 [] [3] [(0,0)] h fun ac wd h => ?_
 refine wp_ret ?_
 injection hD with hD
 subst hD
 exact rO h [.tmp 3] [(0,0)]

theorem L_slices_IndexFunc_api_Msg_api_Msg_own {a0 : (List TMsg)} {a1 : TStep} {r : Int × TStep} (hD : L_slices_IndexFunc_api_Msg_api_Msg a0 a1 = some r) :
  CallH Try.prog 96 [.one (.d (.sl (List.map eTMsg a0))),.one (.fnp 97 [((0,0),0)])] [((0,0),some (.box 57 (cTStep a1)))]
   (.one (.d (.int .i64 r.1))) [((0,0),some (.box 57 (cTStep r.2)))] := by
 unfold L_slices_IndexFunc_api_Msg_api_Msg at hD
 refine rc Try.func96 rfl Try.ntmps96 fun S Φ P0 wb ac h => ?_
 refine qs 2 [] [0,1] [(0,0)] h fun ac wd h => ?_
 refine wp_seq ?_
 refine qs 5 [] [0,1,7,8] [(0,0)] h fun ac wd h => ?_
 refine wp_block ?_
 refine r_while (fun nf ac wd => ∃ (n239 : Int) (m240 : TStep),L_slices_IndexFunc_api_Msg_api_Msg_l1 a0 nf n239 m240 = some r ∧ SL ⟨wb,S,Φ,P0⟩ 19 27 [(0,.one (.d (.sl (List.map eTMsg a0)))),(1,.one (.fnp 97 [((0,0),0)])),(7,.one (.d (.int .i64 (a0.length : Int)))),(8,.one (.d (.int .i64 n239)))] [((0,0),some (.box 57 (cTStep m240)))] ac wd) (((a0.length : Int) - 0).toNat + 1) ⟨0,a1,hD,h.z⟩ (fun nf ac wd hJ => ?_)
 obtain ⟨n239,m240,hL241,h⟩ := hJ
 cases nf with
 | zero => rw [L_slices_IndexFunc_api_Msg_api_Msg_l1] at hL241; cases hL241
 | succ nf =>
  rw [L_slices_IndexFunc_api_Msg_api_Msg_l1] at hL241
  refine qs 28 [] [0,1,7,8,9] [(0,0)] h fun ac wd h => ?_
  refine wp_seq ?_
  rcases i2 hL241 with ⟨hb243,hL241⟩ | ⟨hb243,hL241⟩
  ·
   refine kT h ?_
   refine wp_skip ?_
   change Code.wp Try.prog _ _ _ _
   refine wp_seq ?_
   refine wp_block ?_
   refine qs 30 [] [0,1,5,7,8] [(0,0)] h fun ac wd h => ?_
   obtain ⟨x257,hx258a,hx258b,hx258c,hx258d,hL241⟩ := aB hL241
   obtain ⟨r259,hc260,hL241⟩ := oB hL241
   have hc260_35 := ((L_plain_App_deliver_1_own hc260).cls 35).z
   refine qs 36 [factR hc260_35] [0,1,5,7,8,16] [(0,0)] h fun ac wd h => ?_
   rcases i2b hL241 with ⟨hb261,hL241⟩ | ⟨hb261,hL241⟩
   ·
    refine kT h ?_
    refine qs 38 [] [4] [(0,0)] h fun ac wd h => ?_
    refine wp_ret ?_
    injection hL241 with hL241
    subst hL241
    exact rO h [.tmp 4] [(0,0)]
   ·
    refine kF h ?_
    refine wp_skip ?_
    change Code.wp Try.prog _ _ _ _
    refine qe [] [0,1,7,8] [(0,0)] h fun ac wd h => ?_
    exact ⟨nf,Nat.lt_succ_self nf,(IntKind.wrap .i64 (n239 + 1)),r259.2,hL241,h.z⟩
  ·
   refine kF h ?_
   refine wp_exit ?_
   change Code.wp Try.prog _ _ _ _
   refine qs 29 [] [4] [(0,0)] h fun ac wd h => ?_
   refine wp_ret ?_
   injection hL241 with hL241
   subst hL241
   exact rO h [.tmp 4] [(0,0)]

theorem L_table_Taken_ok {a0 : (List TNode)} {a1 : Int} {a2 : Int} {a3 : Int} {a4 : Int} {r : Int} (hD : L_table_Taken a0 a1 a2 a3 a4 = some r) :
  CallH Try.prog 98 [.one (.d (.sl (List.map eTNode a0))),.one (.d (.int .i64 a1)),.one (.d (.int .i64 a2)),.one (.d (.int .i64 a3)),.one (.d (.int .i64 a4))] []
   (.one (.d (.int .i64 r))) [] := by
 unfold L_table_Taken at hD
 refine rc Try.func98 rfl Try.ntmps98 fun S Φ P0 wb ac h => ?_
 refine qs 2 [] [0,1,2,3,4] [] h fun ac wd h => ?_
 obtain ⟨r146,hc147,hD⟩ := oB hD
 have hc147k := L_table_at_ok hc147
 refine qs 12 [factE 5 hc147k] [2,3,4,11] [(9,0)] h fun ac wd h => ?_
 refine wp_seq ?_
 refine qs 16 [] [2,3,4,23,24,25] [] h fun ac wd h => ?_
 refine wp_block ?_
 refine r_while (fun nf ac wd => ∃ (n261 : Int),L_table_Taken_l1 a2 a3 a4 r146 nf n261 = some r ∧ SL ⟨wb,S,Φ,P0⟩ 43 50 [(2,.one (.d (.int .i64 a2))),(3,.one (.d (.int .i64 a3))),(4,.one (.d (.int .i64 a4))),(23,.one (.d (.sl (List.map eTTake r146.1.Takes)))),(24,.one (.d (.int .i64 (r146.1.Takes.length : Int)))),(25,.one (.d (.int .i64 n261)))] [] ac wd) (((r146.1.Takes.length : Int) - 0).toNat + 1) ⟨0,hD,h.z⟩ (fun nf ac wd hJ => ?_)
 obtain ⟨n261,hL262,h⟩ := hJ
 cases nf with
 | zero => rw [L_table_Taken_l1] at hL262; cases hL262
 | succ nf =>
  rw [L_table_Taken_l1] at hL262
  refine qs 51 [] [2,3,4,23,24,25,26] [] h fun ac wd h => ?_
  refine wp_seq ?_
  rcases i2 hL262 with ⟨hb264,hL262⟩ | ⟨hb264,hL262⟩
  ·
   refine kT h ?_
   refine wp_skip ?_
   change Code.wp Try.prog _ _ _ _
   refine wp_seq ?_
   refine wp_block ?_
   obtain ⟨x277,hx278a,hx278b,hx278c,hx278d,hL262⟩ := aB hL262
   refine qs 55 [] [2,3,4,14,23,24,25] [(53,0)] h fun ac wd h => ?_
   obtain ⟨e281,hE282,hL262⟩ := Option.bind_eq_some_iff.1 hL262
   refine r_seqJ (fun ac wd => ∃ (b280 : Bool),b280 = e281 ∧ SL ⟨wb,S,Φ,P0⟩ 43 65 [(2,.one (.d (.int .i64 a2))),(3,.one (.d (.int .i64 a3))),(4,.one (.d (.int .i64 a4))),(14,.one (.ptr (53,0) 0)),(23,.one (.d (.sl (List.map eTTake r146.1.Takes)))),(24,.one (.d (.int .i64 (r146.1.Takes.length : Int)))),(25,.one (.d (.int .i64 n261))),(38,.one (.d (.bool b280)))] [((53,0),some (.box 151 (cTTake x277)))] ac wd) ?_ ?_
   ·
    rcases i2e hE282 with ⟨hb283,hE282⟩ | ⟨hb283,hE282⟩
    ·
     refine qeg [] [none,none,none,none,none,some (some 33,true),some (some 33,true),some (some 33,true),some (some 33,true),none] [2,3,4,14,23,24,25,38] [(53,0)] h fun ac wd h => ?_
     injection hE282 with hE282; subst hE282
     exact ⟨decide (x277.Letter = a4),rfl,h.z⟩
    ·
     refine qeg [] [none,none,none,none,none,some (some 33,true),some (some 33,true),some (some 33,true),some (some 33,true),none] [2,3,4,14,23,24,25,38] [(53,0)] h fun ac wd h => ?_
     injection hE282 with hE282; subst hE282
     exact ⟨false,rfl,h.z⟩
   ·
    rintro ac wd ⟨b280,rfl,h⟩
    (try dsimp only at hL262)
    rcases i2b hL262 with ⟨hb284,hL262⟩ | ⟨hb284,hL262⟩
    ·
     refine kT h ?_
     refine qs 68 [] [10] [] h fun ac wd h => ?_
     refine wp_ret ?_
     injection hL262 with hL262
     subst hL262
     exact rE h [.tmp 10]
    ·
     refine kF h ?_
     refine wp_skip ?_
     change Code.wp Try.prog _ _ _ _
     refine qe [] [2,3,4,23,24,25] [] h fun ac wd h => ?_
     exact ⟨nf,Nat.lt_succ_self nf,(IntKind.wrap .i64 (n261 + 1)),hL262,h.z⟩
  ·
   refine kF h ?_
   refine wp_exit ?_
   change Code.wp Try.prog _ _ _ _
   refine qs 53 [] [10] [] h fun ac wd h => ?_
   refine wp_ret ?_
   injection hL262 with hL262
   subst hL262
   exact rE h [.tmp 10]

theorem L_slices_Delete_api_Msg_api_Msg_own {a0 : (List TMsg)} {a1 : Int} {a2 : Int} {r : (List TMsg)} (hD : L_slices_Delete_api_Msg_api_Msg a0 a1 a2 = some r) :
  CallH Try.prog 99 [.one (.own (0,0) a0.length),.one (.d (.int .i64 a1)),.one (.d (.int .i64 a2))] [((0,0),some (.row 70 2 (dat (List.map eTMsg a0))))]
   (.one (.own (0,0) r.length)) [((0,0),some (.row 70 2 (dat (List.map eTMsg r))))] := by
 unfold L_slices_Delete_api_Msg_api_Msg at hD
 refine rc Try.func99 rfl Try.ntmps99 (hz := by simp only [zeroB,uIds,EZ,simprocAttr] <;> rfl) fun S Φ P0 wb ac h => ?_
 refine qs 2 [] [0,1,2] [(0,0)] h fun ac wd h => ?_
 obtain ⟨ha1,hD⟩ := iT hD
 obtain ⟨ha2,hD⟩ := iT hD
 obtain ⟨ha3,hD⟩ := iT hD
 have hle : (a0.length : Int) ≤ (a0.length : Int) := by omega
 refine qs 8 [] [0,1,2] [(0,0)] h fun ac wd h => ?_
 refine wp_seq ?_
 refine qs 11 [] [0,1,2,16] [(0,0)] h fun ac wd h => ?_
 rcases i2e hD with ⟨hb,hD⟩ | ⟨hb,hD⟩
 ·
  refine kT h ?_
  refine qs 13 [] [6] [(0,0)] h fun ac wd h => ?_
  refine wp_ret ?_
  injection hD with hD
  subst hD
  exact rO h [.tmp 6] [(0,0)]
 ·
  refine kF h ?_
  refine wp_skip ?_
  change Code.wp Try.prog _ _ _ _
  obtain ⟨ha4,hD⟩ := iT hD
  injection hD with hD
  refine qs 14 [] [0,1,2,7] [(0,0)] h fun ac wd h => ?_
  obtain ⟨k,hk⟩ : ∃ k,k = a1.toNat + (a0.length - a2.toNat) := ⟨_,rfl⟩
  obtain ⟨W,hW⟩ : ∃ W,W = a0.take a1.toNat ++ (a0.drop a2.toNat ++ a0.drop (a1.toNat + (a0.length - a2.toNat))) := ⟨_,rfl⟩
  have hkl : k < a0.length := by omega
  have hWl : W.length = a0.length := by rw [hW]; simp only [List.length_append,List.length_take,List.length_drop]; omega
  have hWr : W.take k = r := by
   rw [hW,← List.append_assoc,List.take_append_of_le_length (by simp only [List.length_append,List.length_take,List.length_drop]; omega),List.take_of_length_le (by simp only [List.length_append,List.length_take,List.length_drop]; omega)]
   exact hD
  have hrl : r.length = k := by rw [← hWr,List.length_take]; omega
  clear hD
  have hq0 : a1 ≤ (a0.length : Int) := by omega
  have hq1 : a2.toNat + (a0.length - a2.toNat) ≤ a0.length := by omega
  have hq2 : List.take (a0.length - a2.toNat) (List.drop a2.toNat a0) = List.drop a2.toNat a0 := List.take_of_length_le (by rw [List.length_drop]; omega)
  have hq3 : (List.drop a2.toNat a0).length = a0.length - a2.toNat := List.length_drop
  have hq4 : a1.toNat + (a0.length - a2.toNat) ≤ a0.length := by omega
  have hq5 : 0 ≤ a2 := by omega
  refine ds 22 [] [0,1,2,7] [(0,0)] h fun ac wd h => ?_
  have h := h.sm 22 [(0,.one (.own (0,0) k)),(7,.one (.d (.int .i64 (a0.length : Int))))] [((0,0),some (.row 70 2 (dat (List.map eTMsg W))))]
  clear hW hk hq0 hq1 hq2 hq3 hq4 hq5 ha1 ha2 ha3 ha4 hb
  have hq1 : ¬ a0.length = k := by omega
  have hq2 : k ≤ a0.length := by omega
  have hq3 : (k : Int) ≤ (a0.length : Int) := by omega
  have hq4 : ¬ (a0.length : Int) ≤ (k : Int) := by omega
  have hq5 : (k : Int) < (a0.length : Int) := by omega
  have hq6 : k + (a0.length - k) ≤ a0.length := by omega
  have hq7 : (List.take (a0.length - k) (List.drop k W)).length = a0.length - k := by rw [List.length_take,List.length_drop]; omega
  refine qs 28 [] [0] [(0,0)] h fun ac wd h => ?_
  have h := h.head (0,0) k rfl
  have ht : ∀ Y,(dat (List.map eTMsg r) ++ Y).take k = dat (List.map eTMsg r) := fun Y => by
   rw [List.take_append_of_le_length (by rw [e_dat4,List.length_map]; omega),List.take_of_length_le (by rw [e_dat4,List.length_map]; omega)]
  clear hWr
  have h := h.sm 28 [(0,.one (.own (0,0) k))] [((0,0),some (.row 70 2 (dat (List.map eTMsg r))))]
  refine qs 30 [] [6] [(0,0)] h fun ac wd h => ?_
  refine wp_ret ?_
  exact rO h [.tmp 6] [(0,0)]

theorem L_plain_App_deliver_own {a0 : TApp} {a1 : TConf} {a2 : TStep} {r : TConf × Int} (hD : L_plain_App_deliver a0 a1 a2 = some r) :
  CallH Try.prog 66 [.agg (cTApp a0),.agg (cTConf a1),.agg (cTStep a2)] []
   (.tup [.inl [.own (1,0) r.1.States.length,.own (1,1) r.1.Links.length,.own (1,2) r.1.Sent.length],.inr (.d (.int .i64 r.2))]) [((1,0),some (.row 3 1 (dat (List.map eI r.1.States)))),((1,1),some (.row 43 1 (openRows cols_43 (List.map (eL eTMsg) r.1.Links)))),((1,2),some (.row 3 1 (dat (List.map eI r.1.Sent))))] := by
 unfold L_plain_App_deliver at hD
 refine rc Try.func66 rfl Try.ntmps66 fun S Φ P0 wb ac h => ?_
 refine qs 6 [] [3,4,5,6] [(1,0),(2,0),(3,0),(4,0)] h fun ac wd h => ?_
 refine wp_seq ?_
 obtain ⟨e63,hE64,hD⟩ := Option.bind_eq_some_iff.1 hD
 refine r_seqJ (fun ac wd => ∃ (b62 : Bool),b62 = e63 ∧ SL ⟨wb,S,Φ,P0⟩ 102 18 [(3,.one (.ptr (1,0) 0)),(4,.one (.ptr (2,0) 0)),(5,.one (.ptr (3,0) 0)),(6,.one (.ptr (4,0) 0)),(23,.one (.d (.bool b62)))] [((1,0),some (.box 27 (cTApp a0))),((2,0),some (.box 31 (cTConf a1))),((3,0),some (.box 57 (cTStep a2))),((4,0),some (.box 31 [.nil,.nil,.nil]))] ac wd) ?_ ?_
 ·
  rcases i2 hE64 with ⟨hb65,hE64⟩ | ⟨hb65,hE64⟩
  ·
   refine qeg [] [none,none,none,none,some (some 15,false),some (some 15,false),some (some 15,false),some (some 15,false),some (some 15,false),some (some 15,false),some (some 15,false),none] [3,4,5,6,23] [(1,0),(2,0),(3,0),(4,0)] h fun ac wd h => ?_
   injection hE64 with hE64; subst hE64
   exact ⟨true,rfl,h.z⟩
  ·
   refine qeg [] [none,none,none,none,some (some 15,false),some (some 15,false),some (some 15,false),some (some 15,false),some (some 15,false),some (some 15,false),some (some 15,false),none] [3,4,5,6,23] [(1,0),(2,0),(3,0),(4,0)] h fun ac wd h => ?_
   injection hE64 with hE64; subst hE64
   exact ⟨decide (a2.Link ≥ (a0.G.Links.length : Int)),rfl,h.z⟩
 ·
  rintro ac wd ⟨b62,rfl,h⟩
  (try dsimp only at hD)
  rcases i2b hD with ⟨hb67,hD⟩ | ⟨hb67,hD⟩
  ·
   refine kT h ?_
   refine qs 21 [] [6,7] [(4,0)] h fun ac wd h => ?_
   refine wp_ret ?_
   have h := SL.bornB h (4,0) 0 3 1 (by simp only [EZ,simprocAttr, *] <;> rfl) (by simp only [EZ,simprocAttr, *] <;> rfl)
   have h := SL.bornB h (4,0) 1 43 1 (by simp only [EZ,simprocAttr, *] <;> rfl) (by simp only [EZ,simprocAttr, *] <;> rfl)
   have h := SL.bornB h (4,0) 2 3 1 (by simp only [EZ,simprocAttr, *] <;> rfl) (by simp only [EZ,simprocAttr, *] <;> rfl)
   have h := h.sw (1,0) (21,0) 24
   have h := h.sw (1,1) (22,0) 24
   have h := h.sw (1,2) (23,0) 24
   injection hD with hD
   subst hD
   exact rO h [.cell 6 31,.tmp 7] [(1,0),(1,1),(1,2)]
  ·
   refine kF h ?_
   refine wp_skip ?_
   change Code.wp Try.prog _ _ _ _
   obtain ⟨x72,hx73a,hx73b,hx73c,hx73d,hD⟩ := aB hD
   obtain ⟨r74,hc75,hD⟩ := oB hD
   have hc75_25 := (((L_slices_IndexFunc_api_Msg_api_Msg_own hc75).cls 25).nm (0,0) (3,0)).z
   refine qs 27 [factR hc75_25] [3,4,5,6,8] [(1,0),(2,0),(3,0),(4,0)] h fun ac wd h => ?_
   refine wp_seq ?_
   obtain ⟨e79,hE80,hD⟩ := Option.bind_eq_some_iff.1 hD
   refine r_seqJ (fun ac wd => ∃ (b78 : Bool),b78 = e79 ∧ SL ⟨wb,S,Φ,P0⟩ 102 37 [(3,.one (.ptr (1,0) 0)),(4,.one (.ptr (2,0) 0)),(5,.one (.ptr (3,0) 0)),(6,.one (.ptr (4,0) 0)),(8,.one (.d (.int .i64 r74.1))),(42,.one (.d (.bool b78)))] [((1,0),some (.box 27 (cTApp a0))),((2,0),some (.box 31 (cTConf a1))),((3,0),some (.box 57 (cTStep r74.2))),((4,0),some (.box 31 [.nil,.nil,.nil]))] ac wd) ?_ ?_
   ·
    rcases i2 hE80 with ⟨hb81,hE80⟩ | ⟨hb81,hE80⟩
    ·
     refine qeg [] [none,none,none,some (some 35,false),some (some 35,false),some (some 35,false),some (some 38,true),some (some 38,true),some (some 35,false),none] [3,4,5,6,8,42] [(1,0),(2,0),(3,0),(4,0)] h fun ac wd h => ?_
     injection hE80 with hE80; subst hE80
     exact ⟨true,rfl,h.z⟩
    ·
     rcases i2b hE80 with ⟨hb82,hE80⟩ | ⟨hb82,hE80⟩
     ·
      refine qeg [] [none,none,none,some (some 35,false),some (some 35,false),some (some 35,false),some (some 38,true),some (some 38,true),some (some 35,false),none] [3,4,5,6,8,42] [(1,0),(2,0),(3,0),(4,0)] h fun ac wd h => ?_
      injection hE80 with hE80; subst hE80
      exact ⟨decide (r74.1 > 0),rfl,h.z⟩
     ·
      refine qeg [] [none,none,none,some (some 35,false),some (some 35,false),some (some 35,false),some (some 38,true),some (some 38,true),some (some 35,false),none] [3,4,5,6,8,42] [(1,0),(2,0),(3,0),(4,0)] h fun ac wd h => ?_
      injection hE80 with hE80; subst hE80
      exact ⟨false,rfl,h.z⟩
   ·
    rintro ac wd ⟨b78,rfl,h⟩
    (try dsimp only at hD)
    rcases i2b hD with ⟨hb84,hD⟩ | ⟨hb84,hD⟩
    ·
     refine kT h ?_
     refine qs 40 [] [6,7] [(4,0)] h fun ac wd h => ?_
     refine wp_ret ?_
     have h := SL.bornB h (4,0) 0 3 1 (by simp only [EZ,simprocAttr, *] <;> rfl) (by simp only [EZ,simprocAttr, *] <;> rfl)
     have h := SL.bornB h (4,0) 1 43 1 (by simp only [EZ,simprocAttr, *] <;> rfl) (by simp only [EZ,simprocAttr, *] <;> rfl)
     have h := SL.bornB h (4,0) 2 3 1 (by simp only [EZ,simprocAttr, *] <;> rfl) (by simp only [EZ,simprocAttr, *] <;> rfl)
     have h := h.sw (1,0) (40,0) 43
     have h := h.sw (1,1) (41,0) 43
     have h := h.sw (1,2) (42,0) 43
     injection hD with hD
     subst hD
     exact rO h [.cell 6 31,.tmp 7] [(1,0),(1,1),(1,2)]
    ·
     refine kF h ?_
     refine wp_skip ?_
     change Code.wp Try.prog _ _ _ _
     obtain ⟨x87,hx88a,hx88b,hx88c,hx88d,hD⟩ := aB hD
     refine ds 55 [] [3,4,5,6,8,9,10] [(1,0),(2,0),(3,0),(4,0)] h fun ac wd h => ?_
     obtain ⟨r91,hc92,hD⟩ := oB hD
     have hc92_56 := ((L_plain_own_own hc92).cls 56).z
     refine qs 59 [factO hc92_56] [3,4,5,6,8,9,10,11] [(1,0),(2,0),(3,0),(4,0),(56,0),(56,1),(56,2),(57,0)] h fun ac wd h => ?_
     obtain ⟨x103,hx104a,hx104b,hx104c,hx104d,hD⟩ := aB hD
     obtain ⟨x105,hx106a,hx106b,hx106c,hx106d,hD⟩ := aB hD
     obtain ⟨x107,hx108a,hx108b,hx108c,hx108d,hD⟩ := aB hD
     obtain ⟨r109,hc110,hD⟩ := oB hD
     obtain ⟨x111,hx112a,hx112b,hx112c,hx112d,hD⟩ := aB hD
     have hc110k := L_table_Taken_ok hc110
     refine ds 84 [factE 81 hc110k] [5,6,8,11] [(3,0),(4,0),(56,0),(56,1),(56,2),(57,0)] h fun ac wd h => ?_
     obtain ⟨x117,hx118a,hx118b,hx118c,hx118d,hD⟩ := aB hD
     have h := h.op (56,1) r74.2.Link.toNat 0
     have h := h.sm 85 [(5,.one (.ptr (3,0) 0)),(6,.one (.ptr (4,0) 0)),(8,.one (.d (.int .i64 r74.1))),(11,.one (.ptr (57,0) 0))]
      [((3,0),some (.box 57 (cTStep r74.2))),((4,0),some (.box 31 [.nil,.nil,.nil])),((56,0),some (.row 3 1 (dat (List.map eI (r91.States.set x87.a1.toNat r109))))),((56,1),some (.row 43 1 ((openRows cols_43 (List.map (eL eTMsg) r91.Links)).set r74.2.Link.toNat [.own (84,0) x117.length]))),((56,2),some (.row 3 1 (dat (List.map eI r91.Sent)))),((57,0),some (.box 31 [.own (56,0) r91.States.length,.own (56,1) r91.Links.length,.own (56,2) r91.Sent.length])),((84,0),some (.row 70 2 (dat (List.map eTMsg x117))))]
     obtain ⟨r119,hc120,hD⟩ := oB hD
     have hc120_98 := ((L_slices_Delete_api_Msg_api_Msg_own hc120).nm (0,0) (84,0)).z
     refine ds 101 [factR hc120_98] [6,11] [(4,0),(56,0),(56,1),(56,2),(57,0),(84,0)] h fun ac wd h => ?_
     have h := h.fS (cols := (fun _ => .sc)) (56,1) (84,0) (openRows cols_43 (List.map (eL eTMsg) r91.Links)) r74.2.Link.toNat [.own (84,0) r119.length] 0 (List.map eTMsg r119) (sc_70 _)
     have h := h.sm 101 [(6,.one (.ptr (4,0) 0)),(11,.one (.ptr (57,0) 0))]
      [((4,0),some (.box 31 [.nil,.nil,.nil])),((56,0),some (.row 3 1 (dat (List.map eI (r91.States.set x87.a1.toNat r109))))),((56,1),some (.row 43 1 ((openRows cols_43 (List.map (eL eTMsg) r91.Links)).set r74.2.Link.toNat [.tr (.sl 70 2 (fun _ => .sc)) (.sl (List.map eTMsg r119))]))),((56,2),some (.row 3 1 (dat (List.map eI r91.Sent)))),((57,0),some (.box 31 [.own (56,0) r91.States.length,.own (56,1) r91.Links.length,.own (56,2) r91.Sent.length]))]
     refine qs 104 [] [6,7] [(4,0),(56,0),(56,1),(56,2)] h fun ac wd h => ?_
     refine wp_ret ?_
     have h := h.sw (1,0) (56,0) 104
     have h := h.sw (1,1) (56,1) 104
     have h := h.sw (1,2) (56,2) 104
     injection hD with hD
     subst hD
     exact rO h [.cell 6 31,.tmp 7] [(1,0),(1,1),(1,2)]
theorem L_plain_App_deliver_ok {a0 : TApp} {a1 : TConf} {a2 : TStep} {r : TConf × Int} (hD : L_plain_App_deliver a0 a1 a2 = some r) :
  CallH Try.prog 66 [.agg (cTApp a0),.agg (cTConf a1),.agg (cTStep a2)] []
   (.tup [.inl [.d (.sl (List.map eI r.1.States)),.d (.sl (List.map (eL eTMsg) r.1.Links)),.d (.sl (List.map eI r.1.Sent))],.inr (.d (.int .i64 r.2))]) [] :=
 (L_plain_App_deliver_own hD).fr

theorem L_plain_Apply_own {a0 : TApp} {a1 : TConf} {a2 : TStep} {r : TConf × Int} (hD : L_plain_Apply a0 a1 a2 = some r) :
  CallH Try.prog 29 [.agg (cTApp a0),.agg (cTConf a1),.agg (cTStep a2)] []
   (.tup [.inl [.own (1,0) r.1.States.length,.own (1,1) r.1.Links.length,.own (1,2) r.1.Sent.length],.inr (.d (.int .i64 r.2))]) [((1,0),some (.row 3 1 (dat (List.map eI r.1.States)))),((1,1),some (.row 43 1 (openRows cols_43 (List.map (eL eTMsg) r.1.Links)))),((1,2),some (.row 3 1 (dat (List.map eI r.1.Sent))))] := by
 unfold L_plain_Apply at hD
 refine rc Try.func29 rfl Try.ntmps29 fun S Φ P0 wb ac h => ?_
 refine qs 6 [] [3,4,5,6] [(1,0),(2,0),(3,0),(4,0)] h fun ac wd h => ?_
 rcases i2e hD with ⟨hb15,hD⟩ | ⟨hb15,hD⟩
 ·
  refine qs 18 [] [3,4,5,6,8,9] [(1,0),(2,0),(3,0),(4,0)] h fun ac wd h => ?_
  refine wp_seq ?_
  refine qs 20 [] [3,4,5,6,8,19] [(1,0),(2,0),(3,0),(4,0)] h fun ac wd h => ?_
  refine kF h ?_
  refine wp_skip ?_
  change Code.wp Try.prog _ _ _ _
  obtain ⟨r18,hc19,hD⟩ := oB hD
  have hc19_24 := ((L_plain_App_pick_own hc19).cls 24).z
  refine qs 29 [factO hc19_24] [6,7] [(4,0),(24,0),(24,1),(24,2)] h fun ac wd h => ?_
  refine wp_ret ?_
  have h := h.sw (1,0) (24,0) 29
  have h := h.sw (1,1) (24,1) 29
  have h := h.sw (1,2) (24,2) 29
  injection hD with hD
  subst hD
  exact rO h [.cell 6 31,.tmp 7] [(1,0),(1,1),(1,2)]
 ·
  rcases i2e hD with ⟨hb20,hD⟩ | ⟨hb20,hD⟩
  ·
   refine qs 18 [] [3,4,5,6,8,9] [(1,0),(2,0),(3,0),(4,0)] h fun ac wd h => ?_
   refine wp_seq ?_
   refine qs 20 [] [3,4,5,6,8,19] [(1,0),(2,0),(3,0),(4,0)] h fun ac wd h => ?_
   refine kF h ?_
   refine wp_skip ?_
   change Code.wp Try.prog _ _ _ _
   obtain ⟨r23,hc24,hD⟩ := oB hD
   have hc24_24 := ((L_plain_App_deliver_own hc24).cls 24).z
   refine qs 29 [factO hc24_24] [6,7] [(4,0),(24,0),(24,1),(24,2)] h fun ac wd h => ?_
   refine wp_ret ?_
   have h := h.sw (1,0) (24,0) 29
   have h := h.sw (1,1) (24,1) 29
   have h := h.sw (1,2) (24,2) 29
   injection hD with hD
   subst hD
   exact rO h [.cell 6 31,.tmp 7] [(1,0),(1,1),(1,2)]
  ·
   refine qs 18 [] [3,4,5,6,9] [(1,0),(2,0),(3,0),(4,0)] h fun ac wd h => ?_
   refine wp_seq ?_
   refine qs 20 [] [3,4,5,6,19] [(1,0),(2,0),(3,0),(4,0)] h fun ac wd h => ?_
   refine kT h ?_
   refine qs 23 [] [6,7] [(4,0)] h fun ac wd h => ?_
   refine wp_ret ?_
   have h := SL.bornB h (4,0) 0 3 1 (by simp only [EZ,simprocAttr, *] <;> rfl) (by simp only [EZ,simprocAttr, *] <;> rfl)
   have h := SL.bornB h (4,0) 1 43 1 (by simp only [EZ,simprocAttr, *] <;> rfl) (by simp only [EZ,simprocAttr, *] <;> rfl)
   have h := SL.bornB h (4,0) 2 3 1 (by simp only [EZ,simprocAttr, *] <;> rfl) (by simp only [EZ,simprocAttr, *] <;> rfl)
   have h := h.sw (1,0) (23,0) 26
   have h := h.sw (1,1) (24,0) 26
   have h := h.sw (1,2) (25,0) 26
   injection hD with hD
   subst hD
   exact rO h [.cell 6 31,.tmp 7] [(1,0),(1,1),(1,2)]
theorem L_plain_Apply_ok {a0 : TApp} {a1 : TConf} {a2 : TStep} {r : TConf × Int} (hD : L_plain_Apply a0 a1 a2 = some r) :
  CallH Try.prog 29 [.agg (cTApp a0),.agg (cTConf a1),.agg (cTStep a2)] []
   (.tup [.inl [.d (.sl (List.map eI r.1.States)),.d (.sl (List.map (eL eTMsg) r.1.Links)),.d (.sl (List.map eI r.1.Sent))],.inr (.d (.int .i64 r.2))]) [] :=
 (L_plain_Apply_own hD).fr

end Go.Proofs.Ytifcbecpemaieaa
