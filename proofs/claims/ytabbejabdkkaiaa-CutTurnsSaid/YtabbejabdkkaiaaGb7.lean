/- Functions as typed ones,and that the program's functions answer as these do. No condition. -/
import Derived.Test.YtabbejabdkkaiaaGb6
import Derived.Test.YtabbejabdkkaiaaGd
set_option linter.unusedSimpArgs false
set_option linter.unusedVariables false
set_option maxRecDepth 20000
set_option maxHeartbeats 4000000
namespace Go.Proofs.Ytabbejabdkkaiaa
open Go.RowKit

theorem L_plain_App_deliver_own {a0 : TApp} {a1 : TConf} {a2 : TStep} {r : TConf × Int} (hD : L_plain_App_deliver a0 a1 a2 = some r) :
  CallH Try.prog 120 [.agg (cTApp a0),.agg (cTConf a1),.agg (cTStep a2)] []
   (.tup [.inl [.own (1,0) r.1.States.length,.own (1,1) r.1.Links.length,.own (1,2) r.1.Sent.length],.inr (.d (.int .i64 r.2))]) [((1,0),some (.row 3 1 (dat (List.map eI r.1.States)))),((1,1),some (.row 170 1 (openRows cols_170 (List.map (eL eTMsg) r.1.Links)))),((1,2),some (.row 3 1 (dat (List.map eI r.1.Sent))))] := by
 unfold L_plain_App_deliver at hD
 refine rc Try.func120 rfl Try.ntmps120 fun S Φ P0 wb ac h => ?_
 refine qs 6 [] [3,4,5,6] [(1,0),(2,0),(3,0),(4,0)] h fun ac wd h => ?_
 refine wp_seq ?_
 obtain ⟨e63,hE64,hD⟩ := Option.bind_eq_some_iff.1 hD
 refine r_seqJ (fun ac wd => ∃ (b62 : Bool),b62 = e63 ∧ SL ⟨wb,S,Φ,P0⟩ 102 18 [(3,.one (.ptr (1,0) 0)),(4,.one (.ptr (2,0) 0)),(5,.one (.ptr (3,0) 0)),(6,.one (.ptr (4,0) 0)),(23,.one (.d (.bool b62)))] [((1,0),some (.box 53 (cTApp a0))),((2,0),some (.box 104 (cTConf a1))),((3,0),some (.box 125 (cTStep a2))),((4,0),some (.box 104 [.nil,.nil,.nil]))] ac wd) ?_ ?_
 ·
  rcases i2 hE64 with ⟨hb65,hE64⟩ | ⟨hb65,hE64⟩
  ·
   refine qeg [] [none,none,none,none,some (some 15,false),some (some 15,false),some (some 15,false),some (some 15,false),some (some 15,false),some (some 15,false),some (some 15,false),none] [3,4,5,6,23] [(1,0),(2,0),(3,0),(4,0)] h fun ac wd h => ?_
   injection hE64 with hE64; subst hE64
   exact ⟨true,rfl,h.z⟩
  ·
   refine qeg [] [none,none,none,none,some (some 15,false),some (some 15,false),some (some 15,false),some (some 15,false),some (some 15,false),some (some 15,false),some (some 15,false),none] [3,4,5,6,23] [(1,0),(2,0),(3,0),(4,0)] h fun ac wd h => ?_
   injection hE64 with hE64; subst hE64
   exact ⟨decide (a2.Link ≥ (a0.G.Links.length : Int)),rfl,h.z⟩
 ·
  rintro ac wd ⟨b62,rfl,h⟩
  (try dsimp only at hD)
  rcases i2b hD with ⟨hb67,hD⟩ | ⟨hb67,hD⟩
  ·
   refine kT h ?_
   refine qs 21 [] [6,7] [(4,0)] h fun ac wd h => ?_
   refine wp_ret ?_
   have h := SL.bornB h (4,0) 0 3 1 (by simp only [EZ,simprocAttr, *] <;> rfl) (by simp only [EZ,simprocAttr, *] <;> rfl)
   have h := SL.bornB h (4,0) 1 170 1 (by simp only [EZ,simprocAttr, *] <;> rfl) (by simp only [EZ,simprocAttr, *] <;> rfl)
   have h := SL.bornB h (4,0) 2 3 1 (by simp only [EZ,simprocAttr, *] <;> rfl) (by simp only [EZ,simprocAttr, *] <;> rfl)
   have h := h.sw (1,0) (21,0) 24
   have h := h.sw (1,1) (22,0) 24
   have h := h.sw (1,2) (23,0) 24
   injection hD with hD
   subst hD
   exact rO h [.cell 6 104,.tmp 7] [(1,0),(1,1),(1,2)]
  ·
   refine kF h ?_
   refine wp_skip ?_
   change Code.wp Try.prog _ _ _ _
   obtain ⟨x72,hx73a,hx73b,hx73c,hx73d,hD⟩ := aB hD
   obtain ⟨r74,hc75,hD⟩ := oB hD
   have hc75_25 := (((L_slices_IndexFunc_api_Msg_api_Msg_own hc75).cls 25).nm (0,0) (3,0)).z
   refine qs 27 [factR hc75_25] [3,4,5,6,8] [(1,0),(2,0),(3,0),(4,0)] h fun ac wd h => ?_
   refine wp_seq ?_
   obtain ⟨e79,hE80,hD⟩ := Option.bind_eq_some_iff.1 hD
   refine r_seqJ (fun ac wd => ∃ (b78 : Bool),b78 = e79 ∧ SL ⟨wb,S,Φ,P0⟩ 102 37 [(3,.one (.ptr (1,0) 0)),(4,.one (.ptr (2,0) 0)),(5,.one (.ptr (3,0) 0)),(6,.one (.ptr (4,0) 0)),(8,.one (.d (.int .i64 r74.1))),(42,.one (.d (.bool b78)))] [((1,0),some (.box 53 (cTApp a0))),((2,0),some (.box 104 (cTConf a1))),((3,0),some (.box 125 (cTStep r74.2))),((4,0),some (.box 104 [.nil,.nil,.nil]))] ac wd) ?_ ?_
   ·
    rcases i2 hE80 with ⟨hb81,hE80⟩ | ⟨hb81,hE80⟩
    ·
     refine qeg [] [none,none,none,some (some 35,false),some (some 35,false),some (some 35,false),some (some 38,true),some (some 38,true),some (some 35,false),none] [3,4,5,6,8,42] [(1,0),(2,0),(3,0),(4,0)] h fun ac wd h => ?_
     injection hE80 with hE80; subst hE80
     exact ⟨true,rfl,h.z⟩
    ·
     rcases i2b hE80 with ⟨hb82,hE80⟩ | ⟨hb82,hE80⟩
     ·
      refine qeg [] [none,none,none,some (some 35,false),some (some 35,false),some (some 35,false),some (some 38,true),some (some 38,true),some (some 35,false),none] [3,4,5,6,8,42] [(1,0),(2,0),(3,0),(4,0)] h fun ac wd h => ?_
      injection hE80 with hE80; subst hE80
      exact ⟨decide (r74.1 > 0),rfl,h.z⟩
     ·
      refine qeg [] [none,none,none,some (some 35,false),some (some 35,false),some (some 35,false),some (some 38,true),some (some 38,true),some (some 35,false),none] [3,4,5,6,8,42] [(1,0),(2,0),(3,0),(4,0)] h fun ac wd h => ?_
      injection hE80 with hE80; subst hE80
      exact ⟨false,rfl,h.z⟩
   ·
    rintro ac wd ⟨b78,rfl,h⟩
    (try dsimp only at hD)
    rcases i2b hD with ⟨hb84,hD⟩ | ⟨hb84,hD⟩
    ·
     refine kT h ?_
     refine qs 40 [] [6,7] [(4,0)] h fun ac wd h => ?_
     refine wp_ret ?_
     have h := SL.bornB h (4,0) 0 3 1 (by simp only [EZ,simprocAttr, *] <;> rfl) (by simp only [EZ,simprocAttr, *] <;> rfl)
     have h := SL.bornB h (4,0) 1 170 1 (by simp only [EZ,simprocAttr, *] <;> rfl) (by simp only [EZ,simprocAttr, *] <;> rfl)
     have h := SL.bornB h (4,0) 2 3 1 (by simp only [EZ,simprocAttr, *] <;> rfl) (by simp only [EZ,simprocAttr, *] <;> rfl)
     have h := h.sw (1,0) (40,0) 43
     have h := h.sw (1,1) (41,0) 43
     have h := h.sw (1,2) (42,0) 43
     injection hD with hD
     subst hD
     exact rO h [.cell 6 104,.tmp 7] [(1,0),(1,1),(1,2)]
    ·
     refine kF h ?_
     refine wp_skip ?_
     change Code.wp Try.prog _ _ _ _
     obtain ⟨x87,hx88a,hx88b,hx88c,hx88d,hD⟩ := aB hD
     refine ds 55 [] [3,4,5,6,8,9,10] [(1,0),(2,0),(3,0),(4,0)] h fun ac wd h => ?_
     obtain ⟨r91,hc92,hD⟩ := oB hD
     have hc92_56 := ((L_plain_own_own hc92).cls 56).z
     refine qs 59 [factO hc92_56] [3,4,5,6,8,9,10,11] [(1,0),(2,0),(3,0),(4,0),(56,0),(56,1),(56,2),(57,0)] h fun ac wd h => ?_
     obtain ⟨x103,hx104a,hx104b,hx104c,hx104d,hD⟩ := aB hD
     obtain ⟨x105,hx106a,hx106b,hx106c,hx106d,hD⟩ := aB hD
     obtain ⟨x107,hx108a,hx108b,hx108c,hx108d,hD⟩ := aB hD
     obtain ⟨r109,hc110,hD⟩ := oB hD
     obtain ⟨x111,hx112a,hx112b,hx112c,hx112d,hD⟩ := aB hD
     have hc110k := L_table_Taken_ok hc110
     refine ds 84 [factE 81 hc110k] [5,6,8,11] [(3,0),(4,0),(56,0),(56,1),(56,2),(57,0)] h fun ac wd h => ?_
     obtain ⟨x117,hx118a,hx118b,hx118c,hx118d,hD⟩ := aB hD
     have h := h.op (56,1) r74.2.Link.toNat 0
     have h := h.sm 85 [(5,.one (.ptr (3,0) 0)),(6,.one (.ptr (4,0) 0)),(8,.one (.d (.int .i64 r74.1))),(11,.one (.ptr (57,0) 0))]
      [((3,0),some (.box 125 (cTStep r74.2))),((4,0),some (.box 104 [.nil,.nil,.nil])),((56,0),some (.row 3 1 (dat (List.map eI (r91.States.set x87.a1.toNat r109))))),((56,1),some (.row 170 1 ((openRows cols_170 (List.map (eL eTMsg) r91.Links)).set r74.2.Link.toNat [.own (84,0) x117.length]))),((56,2),some (.row 3 1 (dat (List.map eI r91.Sent)))),((57,0),some (.box 104 [.own (56,0) r91.States.length,.own (56,1) r91.Links.length,.own (56,2) r91.Sent.length])),((84,0),some (.row 59 2 (dat (List.map eTMsg x117))))]
     obtain ⟨r119,hc120,hD⟩ := oB hD
     have hc120_98 := ((L_slices_Delete_api_Msg_api_Msg_own hc120).nm (0,0) (84,0)).z
     refine ds 101 [factR hc120_98] [6,11] [(4,0),(56,0),(56,1),(56,2),(57,0),(84,0)] h fun ac wd h => ?_
     have h := h.fS (cols := (fun _ => .sc)) (56,1) (84,0) (openRows cols_170 (List.map (eL eTMsg) r91.Links)) r74.2.Link.toNat [.own (84,0) r119.length] 0 (List.map eTMsg r119) (sc_59 _)
     have h := h.sm 101 [(6,.one (.ptr (4,0) 0)),(11,.one (.ptr (57,0) 0))]
      [((4,0),some (.box 104 [.nil,.nil,.nil])),((56,0),some (.row 3 1 (dat (List.map eI (r91.States.set x87.a1.toNat r109))))),((56,1),some (.row 170 1 ((openRows cols_170 (List.map (eL eTMsg) r91.Links)).set r74.2.Link.toNat [.tr (.sl 59 2 (fun _ => .sc)) (.sl (List.map eTMsg r119))]))),((56,2),some (.row 3 1 (dat (List.map eI r91.Sent)))),((57,0),some (.box 104 [.own (56,0) r91.States.length,.own (56,1) r91.Links.length,.own (56,2) r91.Sent.length]))]
     refine qs 104 [] [6,7] [(4,0),(56,0),(56,1),(56,2)] h fun ac wd h => ?_
     refine wp_ret ?_
     have h := h.sw (1,0) (56,0) 104
     have h := h.sw (1,1) (56,1) 104
     have h := h.sw (1,2) (56,2) 104
     injection hD with hD
     subst hD
     exact rO h [.cell 6 104,.tmp 7] [(1,0),(1,1),(1,2)]
theorem L_plain_App_deliver_ok {a0 : TApp} {a1 : TConf} {a2 : TStep} {r : TConf × Int} (hD : L_plain_App_deliver a0 a1 a2 = some r) :
  CallH Try.prog 120 [.agg (cTApp a0),.agg (cTConf a1),.agg (cTStep a2)] []
   (.tup [.inl [.d (.sl (List.map eI r.1.States)),.d (.sl (List.map (eL eTMsg) r.1.Links)),.d (.sl (List.map eI r.1.Sent))],.inr (.d (.int .i64 r.2))]) [] :=
 (L_plain_App_deliver_own hD).fr

theorem L_plain_Apply_own {a0 : TApp} {a1 : TConf} {a2 : TStep} {r : TConf × Int} (hD : L_plain_Apply a0 a1 a2 = some r) :
  CallH Try.prog 90 [.agg (cTApp a0),.agg (cTConf a1),.agg (cTStep a2)] []
   (.tup [.inl [.own (1,0) r.1.States.length,.own (1,1) r.1.Links.length,.own (1,2) r.1.Sent.length],.inr (.d (.int .i64 r.2))]) [((1,0),some (.row 3 1 (dat (List.map eI r.1.States)))),((1,1),some (.row 170 1 (openRows cols_170 (List.map (eL eTMsg) r.1.Links)))),((1,2),some (.row 3 1 (dat (List.map eI r.1.Sent))))] := by
 unfold L_plain_Apply at hD
 refine rc Try.func90 rfl Try.ntmps90 fun S Φ P0 wb ac h => ?_
 refine qs 6 [] [3,4,5,6] [(1,0),(2,0),(3,0),(4,0)] h fun ac wd h => ?_
 rcases i2e hD with ⟨hb15,hD⟩ | ⟨hb15,hD⟩
 ·
  refine qs 18 [] [3,4,5,6,8,9] [(1,0),(2,0),(3,0),(4,0)] h fun ac wd h => ?_
  refine wp_seq ?_
  refine qs 20 [] [3,4,5,6,8,19] [(1,0),(2,0),(3,0),(4,0)] h fun ac wd h => ?_
  refine kF h ?_
  refine wp_skip ?_
  change Code.wp Try.prog _ _ _ _
  obtain ⟨r18,hc19,hD⟩ := oB hD
  have hc19_24 := ((L_plain_App_pick_own hc19).cls 24).z
  refine qs 29 [factO hc19_24] [6,7] [(4,0),(24,0),(24,1),(24,2)] h fun ac wd h => ?_
  refine wp_ret ?_
  have h := h.sw (1,0) (24,0) 29
  have h := h.sw (1,1) (24,1) 29
  have h := h.sw (1,2) (24,2) 29
  injection hD with hD
  subst hD
  exact rO h [.cell 6 104,.tmp 7] [(1,0),(1,1),(1,2)]
 ·
  rcases i2e hD with ⟨hb20,hD⟩ | ⟨hb20,hD⟩
  ·
   refine qs 18 [] [3,4,5,6,8,9] [(1,0),(2,0),(3,0),(4,0)] h fun ac wd h => ?_
   refine wp_seq ?_
   refine qs 20 [] [3,4,5,6,8,19] [(1,0),(2,0),(3,0),(4,0)] h fun ac wd h => ?_
   refine kF h ?_
   refine wp_skip ?_
   change Code.wp Try.prog _ _ _ _
   obtain ⟨r23,hc24,hD⟩ := oB hD
   have hc24_24 := ((L_plain_App_deliver_own hc24).cls 24).z
   refine qs 29 [factO hc24_24] [6,7] [(4,0),(24,0),(24,1),(24,2)] h fun ac wd h => ?_
   refine wp_ret ?_
   have h := h.sw (1,0) (24,0) 29
   have h := h.sw (1,1) (24,1) 29
   have h := h.sw (1,2) (24,2) 29
   injection hD with hD
   subst hD
   exact rO h [.cell 6 104,.tmp 7] [(1,0),(1,1),(1,2)]
  ·
   refine qs 18 [] [3,4,5,6,9] [(1,0),(2,0),(3,0),(4,0)] h fun ac wd h => ?_
   refine wp_seq ?_
   refine qs 20 [] [3,4,5,6,19] [(1,0),(2,0),(3,0),(4,0)] h fun ac wd h => ?_
   refine kT h ?_
   refine qs 23 [] [6,7] [(4,0)] h fun ac wd h => ?_
   refine wp_ret ?_
   have h := SL.bornB h (4,0) 0 3 1 (by simp only [EZ,simprocAttr, *] <;> rfl) (by simp only [EZ,simprocAttr, *] <;> rfl)
   have h := SL.bornB h (4,0) 1 170 1 (by simp only [EZ,simprocAttr, *] <;> rfl) (by simp only [EZ,simprocAttr, *] <;> rfl)
   have h := SL.bornB h (4,0) 2 3 1 (by simp only [EZ,simprocAttr, *] <;> rfl) (by simp only [EZ,simprocAttr, *] <;> rfl)
   have h := h.sw (1,0) (23,0) 26
   have h := h.sw (1,1) (24,0) 26
   have h := h.sw (1,2) (25,0) 26
   injection hD with hD
   subst hD
   exact rO h [.cell 6 104,.tmp 7] [(1,0),(1,1),(1,2)]
theorem L_plain_Apply_ok {a0 : TApp} {a1 : TConf} {a2 : TStep} {r : TConf × Int} (hD : L_plain_Apply a0 a1 a2 = some r) :
  CallH Try.prog 90 [.agg (cTApp a0),.agg (cTConf a1),.agg (cTStep a2)] []
   (.tup [.inl [.d (.sl (List.map eI r.1.States)),.d (.sl (List.map (eL eTMsg) r.1.Links)),.d (.sl (List.map eI r.1.Sent))],.inr (.d (.int .i64 r.2))]) [] :=
 (L_plain_Apply_own hD).fr

theorem L_cut_Good_ok {a0 : TApp} {a1 : TConf} {a2 : (List TStep)} {a3 : (List Int)} {r : Bool} (hD : L_cut_Good a0 a1 a2 a3 = some r) :
  CallH Try.prog 38 [.agg (cTApp a0),.agg (cTConf a1),.one (.d (.sl (List.map eTStep a2))),.one (.d (.sl (List.map eI a3)))] []
   (.one (.d (.bool r))) [] := by
 unfold L_cut_Good at hD
 refine rc Try.func38 rfl Try.ntmps38 fun S Φ P0 wb ac h => ?_
 refine qs 4 [] [2,3,4,5] [(1,0),(2,0)] h fun ac wd h => ?_
 obtain ⟨r6722,hc6723,hD⟩ := oB hD
 have hc6723_7 := ((L_cut_sides_own hc6723).cls 7).z
 refine qs 9 [factO hc6723_7] [2,4,5,9] [(1,0),(2,0),(7,0),(7,1),(7,2)] h fun ac wd h => ?_
 refine qs 11 [] [2,4,5,9,10] [(1,0),(2,0),(7,0),(7,1),(7,2),(9,0)] h fun ac wd h => ?_
 refine wp_seq ?_
 refine qs 14 [] [4,5,9,10,23,24,25] [(1,0),(2,0),(7,0),(7,1),(7,2),(9,0)] h fun ac wd h => ?_
 refine wp_block ?_
 refine r_while (fun nf ac wd => ∃ (n12316 : Int) (m12317 : TConf) (l12318 : NMap) (l12319 : List Int),L_cut_Good_l1 a0 a2 nf n12316 m12317 l12318 l12319 = some r ∧ SL ⟨wb,S,Φ,P0⟩ 91 378 [(4,.one (.ptr (1,0) 0)),(5,.one (.ptr (2,0) 0)),(9,.one (.fnp 118 [((7,0),0),((7,1),0)])),(10,.one (.mp (9,0))),(23,.one (.d (.sl (List.map eTStep a2)))),(24,.one (.d (.int .i64 (a2.length : Int)))),(25,.one (.d (.int .i64 n12316)))] [((1,0),some (.box 53 (cTApp a0))),((2,0),some (.box 104 (cTConf m12317))),((7,0),some (.box 25 (cTGraph a0.G))),((7,1),some (.box 39 [.own (7,2) l12319.length])),((7,2),some (.row 3 1 (dat (List.map eI l12319)))),((9,0),some (.map 181 3 true 2 (mE l12318)))] ac wd) (((a2.length : Int) - 0).toNat + 1) ⟨0,a1,([] : NMap),r6722,hD,h.z⟩ (fun nf ac wd hJ => ?_)
 obtain ⟨n12316,m12317,l12318,l12319,hL12320,h⟩ := hJ
 cases nf with
 | zero => rw [L_cut_Good_l1] at hL12320; cases hL12320
 | succ nf =>
  rw [L_cut_Good_l1] at hL12320
  refine qs 379 [] [4,5,9,10,23,24,25,26] [(1,0),(2,0),(7,0),(7,1),(7,2),(9,0)] h fun ac wd h => ?_
  refine wp_seq ?_
  rcases i2 hL12320 with ⟨hb12322,hL12320⟩ | ⟨hb12322,hL12320⟩
  ·
   refine kT h ?_
   refine wp_skip ?_
   change Code.wp Try.prog _ _ _ _
   obtain ⟨e12880,hE12881,hL12320⟩ := Option.bind_eq_some_iff.1 hL12320
   refine r_seqJ (fun ac wd => ∃ (m12877 : TConf) (l12878 : NMap) (l12879 : List Int),(.inl (m12877,l12878,l12879)) = e12880 ∧ SL ⟨wb,S,Φ,P0⟩ 91 558 [(4,.one (.ptr (1,0) 0)),(5,.one (.ptr (2,0) 0)),(9,.one (.fnp 118 [((7,0),0),((7,1),0)])),(10,.one (.mp (9,0))),(23,.one (.d (.sl (List.map eTStep a2)))),(24,.one (.d (.int .i64 (a2.length : Int)))),(25,.one (.d (.int .i64 n12316)))] [((1,0),some (.box 53 (cTApp a0))),((2,0),some (.box 104 (cTConf m12877))),((7,0),some (.box 25 (cTGraph a0.G))),((7,1),some (.box 39 [.own (7,2) l12879.length])),((7,2),some (.row 3 1 (dat (List.map eI l12879)))),((9,0),some (.map 181 3 true 2 (mE l12878)))] ac wd) ?_ ?_
   ·
    refine wp_block ?_
    obtain ⟨x12884,hx12885a,hx12885b,hx12885c,hx12885d,hE12881⟩ := aB hE12881
    refine qs 383 [] [4,5,9,10,12,23,24,25] [(1,0),(2,0),(7,0),(7,1),(7,2),(9,0),(381,0)] h fun ac wd h => ?_
    obtain ⟨r12888,hc12889,hE12881⟩ := oB hE12881
    have hc12889_385 := ((((L_cut_side_own hc12889).nm (0,0) (7,0)).nm (0,1) (7,1)).nm (0,2) (7,2)).z
    refine qs 387 [factR hc12889_385] [4,5,9,10,12,13,23,24,25] [(1,0),(2,0),(7,0),(7,1),(7,2),(9,0),(381,0)] h fun ac wd h => ?_
    refine wp_seq ?_
    obtain ⟨e12893,hE12894,hE12881⟩ := Option.bind_eq_some_iff.1 hE12881
    refine r_seqJ (fun ac wd => ∃ (b12892 : Bool),b12892 = e12893 ∧ SL ⟨wb,S,Φ,P0⟩ 91 403 [(4,.one (.ptr (1,0) 0)),(5,.one (.ptr (2,0) 0)),(9,.one (.fnp 118 [((7,0),0),((7,1),0)])),(10,.one (.mp (9,0))),(12,.one (.ptr (381,0) 0)),(13,.one (.d (.bool r12888.1))),(23,.one (.d (.sl (List.map eTStep a2)))),(24,.one (.d (.int .i64 (a2.length : Int)))),(25,.one (.d (.int .i64 n12316))),(47,.one (.d (.bool b12892)))] [((1,0),some (.box 53 (cTApp a0))),((2,0),some (.box 104 (cTConf m12317))),((7,0),some (.box 25 (cTGraph a0.G))),((7,1),some (.box 39 [.own (7,2) r12888.2.length])),((7,2),some (.row 3 1 (dat (List.map eI r12888.2)))),((9,0),some (.map 181 3 true 2 (mE l12318))),((381,0),some (.box 125 (cTStep x12884)))] ac wd) ?_ ?_
    ·
     rcases i2e hE12894 with ⟨hb12895,hE12894⟩ | ⟨hb12895,hE12894⟩
     ·
      rcases i2b hE12894 with ⟨hb12896,hE12894⟩ | ⟨hb12896,hE12894⟩
      ·
       refine qeg [] [none,none,none,none,some (some 35,true),none,none,some (some 38,true),some (some 38,true),some (some 38,true),some (some 38,true),some (some 38,true),some (some 38,true),some (some 38,true),some (some 38,true),none] [4,5,9,10,12,13,23,24,25,47] [(1,0),(2,0),(7,0),(7,1),(7,2),(9,0),(381,0)] h fun ac wd h => ?_
       injection hE12894 with hE12894; subst hE12894
       exact ⟨decide ((mGetI l12318 [x12884.Link,x12884.Seq]) > 0),rfl,h.z⟩
      ·
       refine qeg [] [none,none,none,none,some (some 35,true),none,none,some (some 38,true),some (some 38,true),some (some 38,true),some (some 38,true),some (some 38,true),some (some 38,true),some (some 38,true),some (some 38,true),none] [4,5,9,10,12,13,23,24,25,47] [(1,0),(2,0),(7,0),(7,1),(7,2),(9,0),(381,0)] h fun ac wd h => ?_
       injection hE12894 with hE12894; subst hE12894
       exact ⟨false,rfl,h.z⟩
     ·
      refine qeg [] [none,none,none,none,some (some 35,true),none,none,some (some 38,true),some (some 38,true),some (some 38,true),some (some 38,true),some (some 38,true),some (some 38,true),some (some 38,true),some (some 38,true),none] [4,5,9,10,12,13,23,24,25,47] [(1,0),(2,0),(7,0),(7,1),(7,2),(9,0),(381,0)] h fun ac wd h => ?_
      injection hE12894 with hE12894; subst hE12894
      exact ⟨false,rfl,h.z⟩
    ·
     rintro ac wd ⟨b12892,rfl,h⟩
     (try dsimp only at hE12881)
     rcases i2b hE12881 with ⟨hb12898,hE12881⟩ | ⟨hb12898,hE12881⟩
     ·
      refine kT h ?_
      refine qs 404 [] [8] [] h fun ac wd h => ?_
      refine wp_ret ?_
      injection hE12881 with hE12881
      subst hE12881
      (try dsimp only at hL12320)
      injection hL12320 with hL12320
      subst hL12320
      exact rE h [.tmp 8]
     ·
      refine kF h ?_
      refine wp_skip ?_
      change Code.wp Try.prog _ _ _ _
      obtain ⟨r12901,hc12902,hE12881⟩ := oB hE12881
      have hc12902k := L_plain_Apply_ok hc12902
      refine qs 413 [factE 406 hc12902k] [4,5,9,10,13,14,23,24,25] [(1,0),(2,0),(7,0),(7,1),(7,2),(9,0),(410,0)] h fun ac wd h => ?_
      refine wp_seq ?_
      refine qs 417 [] [4,5,9,10,13,14,23,24,25,57,58] [(1,0),(2,0),(7,0),(7,1),(7,2),(9,0),(410,0)] h fun ac wd h => ?_
      obtain ⟨e13169,hE13170,hE12881⟩ := Option.bind_eq_some_iff.1 hE12881
      refine r_meet (fun ac wd => ∃ (l13168 : NMap),l13168 = e13169 ∧ SL ⟨wb,S,Φ,P0⟩ 91 556 [(4,.one (.ptr (1,0) 0)),(5,.one (.ptr (2,0) 0)),(9,.one (.fnp 118 [((7,0),0),((7,1),0)])),(10,.one (.mp (9,0))),(14,.one (.ptr (410,0) 0)),(23,.one (.d (.sl (List.map eTStep a2)))),(24,.one (.d (.int .i64 (a2.length : Int)))),(25,.one (.d (.int .i64 n12316)))] [((1,0),some (.box 53 (cTApp a0))),((2,0),some (.box 104 (cTConf m12317))),((7,0),some (.box 25 (cTGraph a0.G))),((7,1),some (.box 39 [.own (7,2) r12888.2.length])),((7,2),some (.row 3 1 (dat (List.map eI r12888.2)))),((9,0),some (.map 181 3 true 2 (mE l13168))),((410,0),some (.box 104 [.d (.sl (List.map eI r12901.1.States)),.d (.sl (List.map (eL eTMsg) r12901.1.Links)),.d (.sl (List.map eI r12901.1.Sent))]))] ac wd) ?_ ?_
      ·
       refine wp_block ?_
       refine r_while (fun nf ac wd => ∃ (n13347 : Int) (l13348 : NMap),L_cut_Good_l2 m12317 r12888 r12901 nf n13347 l13348 = some e13169 ∧ SL ⟨wb,S,Φ,P0⟩ 91 555 [(4,.one (.ptr (1,0) 0)),(5,.one (.ptr (2,0) 0)),(9,.one (.fnp 118 [((7,0),0),((7,1),0)])),(10,.one (.mp (9,0))),(13,.one (.d (.bool r12888.1))),(14,.one (.ptr (410,0) 0)),(23,.one (.d (.sl (List.map eTStep a2)))),(24,.one (.d (.int .i64 (a2.length : Int)))),(25,.one (.d (.int .i64 n12316))),(57,.one (.d (.int .i64 (r12901.1.Sent.length : Int)))),(58,.one (.d (.int .i64 n13347)))] [((1,0),some (.box 53 (cTApp a0))),((2,0),some (.box 104 (cTConf m12317))),((7,0),some (.box 25 (cTGraph a0.G))),((7,1),some (.box 39 [.own (7,2) r12888.2.length])),((7,2),some (.row 3 1 (dat (List.map eI r12888.2)))),((9,0),some (.map 181 3 true 2 (mE l13348))),((410,0),some (.box 104 [.d (.sl (List.map eI r12901.1.States)),.d (.sl (List.map (eL eTMsg) r12901.1.Links)),.d (.sl (List.map eI r12901.1.Sent))]))] ac wd) (((r12901.1.Sent.length : Int) - 0).toNat + 1) ⟨0,l12318,hE13170,h.z⟩ (fun nf ac wd hJ => ?_)
       obtain ⟨n13347,l13348,hL13349,h⟩ := hJ
       cases nf with
       | zero => rw [L_cut_Good_l2] at hL13349; cases hL13349
       | succ nf =>
        rw [L_cut_Good_l2] at hL13349
        refine qs 556 [] [4,5,9,10,13,14,23,24,25,57,58,59] [(1,0),(2,0),(7,0),(7,1),(7,2),(9,0),(410,0)] h fun ac wd h => ?_
        refine wp_seq ?_
        rcases i2 hL13349 with ⟨hb13351,hL13349⟩ | ⟨hb13351,hL13349⟩
        ·
         refine kT h ?_
         refine wp_skip ?_
         change Code.wp Try.prog _ _ _ _
         obtain ⟨e13394,hE13395,hL13349⟩ := Option.bind_eq_some_iff.1 hL13349
         refine r_seqJ (fun ac wd => ∃ (l13393 : NMap),l13393 = e13394 ∧ SL ⟨wb,S,Φ,P0⟩ 91 622 [(4,.one (.ptr (1,0) 0)),(5,.one (.ptr (2,0) 0)),(9,.one (.fnp 118 [((7,0),0),((7,1),0)])),(10,.one (.mp (9,0))),(13,.one (.d (.bool r12888.1))),(14,.one (.ptr (410,0) 0)),(23,.one (.d (.sl (List.map eTStep a2)))),(24,.one (.d (.int .i64 (a2.length : Int)))),(25,.one (.d (.int .i64 n12316))),(57,.one (.d (.int .i64 (r12901.1.Sent.length : Int)))),(58,.one (.d (.int .i64 n13347)))] [((1,0),some (.box 53 (cTApp a0))),((2,0),some (.box 104 (cTConf m12317))),((7,0),some (.box 25 (cTGraph a0.G))),((7,1),some (.box 39 [.own (7,2) r12888.2.length])),((7,2),some (.row 3 1 (dat (List.map eI r12888.2)))),((9,0),some (.map 181 3 true 2 (mE l13393))),((410,0),some (.box 104 [.d (.sl (List.map eI r12901.1.States)),.d (.sl (List.map (eL eTMsg) r12901.1.Links)),.d (.sl (List.map eI r12901.1.Sent))]))] ac wd) ?_ ?_
         ·
          refine wp_block ?_
          refine qs 558 [] [4,5,9,10,13,14,16,23,24,25,57,58] [(1,0),(2,0),(7,0),(7,1),(7,2),(9,0),(410,0)] h fun ac wd h => ?_
          obtain ⟨x13398,hx13399a,hx13399b,hx13399c,hx13399d,hE13395⟩ := aB hE13395
          refine qs 565 [] [4,5,9,10,13,14,16,17,23,24,25,57,58] [(1,0),(2,0),(7,0),(7,1),(7,2),(9,0),(410,0)] h fun ac wd h => ?_
          obtain ⟨e13438,hE13439,hE13395⟩ := Option.bind_eq_some_iff.1 hE13395
          refine r_meetQ (fun ac wd => ∃ (l13437 : NMap),l13437 = e13438 ∧ SL ⟨wb,S,Φ,P0⟩ 91 622 [(4,.one (.ptr (1,0) 0)),(5,.one (.ptr (2,0) 0)),(9,.one (.fnp 118 [((7,0),0),((7,1),0)])),(10,.one (.mp (9,0))),(13,.one (.d (.bool r12888.1))),(14,.one (.ptr (410,0) 0)),(23,.one (.d (.sl (List.map eTStep a2)))),(24,.one (.d (.int .i64 (a2.length : Int)))),(25,.one (.d (.int .i64 n12316))),(57,.one (.d (.int .i64 (r12901.1.Sent.length : Int)))),(58,.one (.d (.int .i64 n13347)))] [((1,0),some (.box 53 (cTApp a0))),((2,0),some (.box 104 (cTConf m12317))),((7,0),some (.box 25 (cTGraph a0.G))),((7,1),some (.box 39 [.own (7,2) r12888.2.length])),((7,2),some (.row 3 1 (dat (List.map eI r12888.2)))),((9,0),some (.map 181 3 true 2 (mE l13437))),((410,0),some (.box 104 [.d (.sl (List.map eI r12901.1.States)),.d (.sl (List.map (eL eTMsg) r12901.1.Links)),.d (.sl (List.map eI r12901.1.Sent))]))] ac wd) ?_ ?_
          ·
           refine wp_block ?_
           refine r_while (fun nf ac wd => ∃ (n13464 : Int) (l13465 : NMap),L_cut_Good_l3 n13347 r12888 r12901 nf n13464 l13465 = some e13438 ∧ SL ⟨wb,S,Φ,P0⟩ 91 611 [(4,.one (.ptr (1,0) 0)),(5,.one (.ptr (2,0) 0)),(9,.one (.fnp 118 [((7,0),0),((7,1),0)])),(10,.one (.mp (9,0))),(13,.one (.d (.bool r12888.1))),(14,.one (.ptr (410,0) 0)),(16,.one (.d (.int .i64 n13347))),(17,.one (.d (.int .i64 n13464))),(23,.one (.d (.sl (List.map eTStep a2)))),(24,.one (.d (.int .i64 (a2.length : Int)))),(25,.one (.d (.int .i64 n12316))),(57,.one (.d (.int .i64 (r12901.1.Sent.length : Int)))),(58,.one (.d (.int .i64 n13347)))] [((1,0),some (.box 53 (cTApp a0))),((2,0),some (.box 104 (cTConf m12317))),((7,0),some (.box 25 (cTGraph a0.G))),((7,1),some (.box 39 [.own (7,2) r12888.2.length])),((7,2),some (.row 3 1 (dat (List.map eI r12888.2)))),((9,0),some (.map 181 3 true 2 (mE l13465))),((410,0),some (.box 104 [.d (.sl (List.map eI r12901.1.States)),.d (.sl (List.map (eL eTMsg) r12901.1.Links)),.d (.sl (List.map eI r12901.1.Sent))]))] ac wd) (1000) ⟨(IntKind.wrap .i64 (x13398 + 1)),l13348,hE13439,h.z⟩ (fun nf ac wd hJ => ?_)
           obtain ⟨n13464,l13465,hL13466,h⟩ := hJ
           cases nf with
           | zero => rw [L_cut_Good_l3] at hL13466; cases hL13466
           | succ nf =>
            rw [L_cut_Good_l3] at hL13466
            refine wp_seq ?_
            obtain ⟨e13471,hE13472,hL13466⟩ := Option.bind_eq_some_iff.1 hL13466
            refine r_seqJ (fun ac wd => ∃ (b13470 : Bool),b13470 = e13471 ∧ SL ⟨wb,S,Φ,P0⟩ 91 622 [(4,.one (.ptr (1,0) 0)),(5,.one (.ptr (2,0) 0)),(9,.one (.fnp 118 [((7,0),0),((7,1),0)])),(10,.one (.mp (9,0))),(13,.one (.d (.bool r12888.1))),(14,.one (.ptr (410,0) 0)),(16,.one (.d (.int .i64 n13347))),(17,.one (.d (.int .i64 n13464))),(23,.one (.d (.sl (List.map eTStep a2)))),(24,.one (.d (.int .i64 (a2.length : Int)))),(25,.one (.d (.int .i64 n12316))),(57,.one (.d (.int .i64 (r12901.1.Sent.length : Int)))),(58,.one (.d (.int .i64 n13347))),(77,.one (.d (.bool b13470)))] [((1,0),some (.box 53 (cTApp a0))),((2,0),some (.box 104 (cTConf m12317))),((7,0),some (.box 25 (cTGraph a0.G))),((7,1),some (.box 39 [.own (7,2) r12888.2.length])),((7,2),some (.row 3 1 (dat (List.map eI r12888.2)))),((9,0),some (.map 181 3 true 2 (mE l13465))),((410,0),some (.box 104 [.d (.sl (List.map eI r12901.1.States)),.d (.sl (List.map (eL eTMsg) r12901.1.Links)),.d (.sl (List.map eI r12901.1.Sent))]))] ac wd) ?_ ?_
            ·
             obtain ⟨x13473,hx13474a,hx13474b,hx13474c,hx13474d,hE13472⟩ := aB hE13472
             rcases i2 hE13472 with ⟨hb13475,hE13472⟩ | ⟨hb13475,hE13472⟩
             ·
              refine qeg [] [none,none,none,none,none,none,none,none,some (some 74,true),some (some 74,true),none] [4,5,9,10,13,14,16,17,23,24,25,57,58,77] [(1,0),(2,0),(7,0),(7,1),(7,2),(9,0),(410,0)] h fun ac wd h => ?_
              injection hE13472 with hE13472; subst hE13472
              exact ⟨!(r12888.1),rfl,h.z⟩
             ·
              refine qeg [] [none,none,none,none,none,none,none,none,some (some 74,true),some (some 74,true),none] [4,5,9,10,13,14,16,17,23,24,25,57,58,77] [(1,0),(2,0),(7,0),(7,1),(7,2),(9,0),(410,0)] h fun ac wd h => ?_
              injection hE13472 with hE13472; subst hE13472
              exact ⟨false,rfl,h.z⟩
            ·
             rintro ac wd ⟨b13470,rfl,h⟩
             (try dsimp only at hL13466)
             rcases i2b hL13466 with ⟨hb13477,hL13466⟩ | ⟨hb13477,hL13466⟩
             ·
              refine kT h ?_
              refine wp_skip ?_
              change Code.wp Try.prog _ _ _ _
              refine wp_seq ?_
              refine wp_block ?_
              refine de [] [4,5,9,10,13,14,16,17,23,24,25,57,58] [(1,0),(2,0),(7,0),(7,1),(7,2),(9,0),(410,0)] h fun ac wd h => ?_
              change Code.wp Try.prog _ _ _ _
              refine qe [] [4,5,9,10,13,14,16,17,23,24,25,57,58] [(1,0),(2,0),(7,0),(7,1),(7,2),(9,0),(410,0)] h fun ac wd h => ?_
              exact ⟨nf,Nat.lt_succ_self nf,(IntKind.wrap .i64 (n13464 + 1)),(mPutI l13465 [n13347,n13464] (IntKind.wrap .i64 ((mGetI l13465 [n13347,n13464]) + 1))),hL13466,h.z⟩
             ·
              refine kF h ?_
              refine wp_exit ?_
              injection hL13466 with hL13466; subst hL13466
              exact ⟨l13465,rfl,h.z⟩
          ·
           rintro ac wd ⟨l13437,rfl,h⟩
           (try dsimp only at hE13395)
           injection hE13395 with hE13395; subst hE13395
           exact ⟨l13437,rfl,h.z⟩
         ·
          rintro ac wd ⟨l13393,rfl,h⟩
          (try dsimp only at hL13349)
          refine qe [] [4,5,9,10,13,14,23,24,25,57,58] [(1,0),(2,0),(7,0),(7,1),(7,2),(9,0),(410,0)] h fun ac wd h => ?_
          exact ⟨nf,Nat.lt_succ_self nf,(IntKind.wrap .i64 (n13347 + 1)),l13393,hL13349,h.z⟩
        ·
         refine kF h ?_
         refine wp_exit ?_
         injection hL13349 with hL13349; subst hL13349
         exact ⟨l13348,rfl,h.z⟩
      ·
       rintro ac wd ⟨l13168,rfl,h⟩
       (try dsimp only at hE12881)
       refine qe [] [4,5,9,10,23,24,25] [(1,0),(2,0),(7,0),(7,1),(7,2),(9,0)] h fun ac wd h => ?_
       injection hE12881 with hE12881; subst hE12881
       exact ⟨r12901.1,l13168,r12888.2,rfl,h.z⟩
   ·
    rintro ac wd ⟨m12877,l12878,l12879,rfl,h⟩
    (try dsimp only at hL12320)
    refine qe [] [4,5,9,10,23,24,25] [(1,0),(2,0),(7,0),(7,1),(7,2),(9,0)] h fun ac wd h => ?_
    exact ⟨nf,Nat.lt_succ_self nf,(IntKind.wrap .i64 (n12316 + 1)),m12877,l12878,l12879,hL12320,h.z⟩
  ·
   refine kF h ?_
   refine wp_exit ?_
   change Code.wp Try.prog _ _ _ _
   refine qs 380 [] [8] [] h fun ac wd h => ?_
   refine wp_ret ?_
   injection hL12320 with hL12320
   subst hL12320
   exact rE h [.tmp 8]

theorem L_law17_fixed_ok {r : Bool} (hD : L_law17_fixed = some r) :
  CallH Try.prog 36 [] []
   (.one (.d (.bool r))) [] := by
 unfold L_law17_fixed at hD
 refine rc Try.func36 rfl Try.ntmps36 fun S Φ P0 wb ac h => ?_
 refine qs 2 [] [] [] h fun ac wd h => ?_
 obtain ⟨r158,hc159,hD⟩ := oB hD
 have hc159k := L_law05_Two_ok hc159
 refine qs 5 [factE 2 hc159k] [1] [(3,0)] h fun ac wd h => ?_
 obtain ⟨r162,hc163,hD⟩ := oB hD
 have hc163k := L_plain_Start_ok hc163
 refine qs 9 [factE 6 hc163k] [1,2] [(3,0),(7,0)] h fun ac wd h => ?_
 refine wp_seq ?_
 obtain ⟨r166,hc167,hD⟩ := oB hD
 have hc167k := L_plain_Right_ok hc167
 refine qs 13 [factE 11 hc167k] [1,2,14] [(3,0),(7,0)] h fun ac wd h => ?_
 obtain ⟨hb169,hD⟩ := iT hD
 refine kF h ?_
 refine wp_skip ?_
 change Code.wp Try.prog _ _ _ _
 refine qs 18 [] [1,2,3] [(3,0),(7,0),(16,0)] h fun ac wd h => ?_
 obtain ⟨r172,hc173,hD⟩ := oB hD
 have h := h.fz [(16,0)]
 have hc173k := L_cut_Split_ok hc173
 refine qs 28 [factE 22 hc173k] [1,2,3,4,5] [(3,0),(7,0)] h fun ac wd h => ?_
 obtain ⟨r176,hc177,hD⟩ := oB hD
 have hc177k := L_cut_Split_ok hc177
 refine qs 38 [factE 32 hc177k] [1,2,3,4,5,6,7] [(3,0),(7,0)] h fun ac wd h => ?_
 obtain ⟨v243,hv244,hD⟩ := vB hD
 have h := h.same [1,2,3,4,5,6,7] [(3,0),(7,0)] 38 [(1,.one (.ptr (3,0) 0)),(2,.one (.ptr (7,0) 0)),(3,.one (.d (.sl (List.map eTStep v243)))),(4,.one (.d (.sl (List.map eTStep r172.1)))),(5,.one (.d (.sl (List.map eTStep r172.2)))),(6,.one (.d (.sl (List.map eTStep r176.1)))),(7,.one (.d (.sl (List.map eTStep r176.2))))]
  [((3,0),some (.box 53 [.d (.int .i64 r158.G.N),.d (.sl (List.map eA2I r158.G.Links)),.d (.sl (List.map eTNode r158.T)),.d (.bool r158.Fifo)])),((7,0),some (.box 104 [.d (.sl (List.map eI r162.States)),.d (.sl (List.map (eL eTMsg) r162.Links)),.d (.sl (List.map eI r162.Sent))]))]
  (by simp only [EZ,simprocAttr,hb169,dat_open,← hv244] <;> rfl)
 obtain ⟨x245,hx246a,hx246b,hx246c,hx246d,hD⟩ := aN 0 hD
 obtain ⟨r247,hc248,hD⟩ := oB hD
 obtain ⟨hb249,hD⟩ := iTe hD
 obtain ⟨x250,hx251a,hx251b,hx251c,hx251d,hD⟩ := aN 1 hD
 obtain ⟨r252,hc253,hD⟩ := oB hD
 obtain ⟨hb254,hD⟩ := iTe hD
 obtain ⟨r255,hc256,hD⟩ := oB hD
 obtain ⟨hb257,hD⟩ := iTe hD
 obtain ⟨r258,hc259,hD⟩ := oB hD
 obtain ⟨hb260,hD⟩ := iTe hD
 obtain ⟨r261,hc262,hD⟩ := oB hD
 obtain ⟨hb263,hD⟩ := iTe hD
 obtain ⟨r264,hc265,hD⟩ := oB hD
 obtain ⟨r266,hc267,hD⟩ := oB hD
 obtain ⟨hb268,hD⟩ := iT hD
 obtain ⟨r269,hc270,hD⟩ := oB hD
 obtain ⟨ha271,hD⟩ := iT hD
 obtain ⟨ha272,hD⟩ := iT hD
 obtain ⟨v273,hv274,hD⟩ := vB hD
 obtain ⟨r275,hc276,hD⟩ := oB hD
 obtain ⟨r277,hc278,hD⟩ := oB hD
 obtain ⟨hb279,hD⟩ := iT hD
 obtain ⟨r280,hc281,hD⟩ := oB hD
 obtain ⟨v282,hv283,hD⟩ := vB hD
 obtain ⟨r284,hc285,hD⟩ := oB hD
 obtain ⟨r286,hc287,hD⟩ := oB hD
 obtain ⟨hb288,hD⟩ := iT hD
 obtain ⟨hb289,hD⟩ := iTe hD
 obtain ⟨r290,hc291,hD⟩ := oB hD
 obtain ⟨r292,hc293,hD⟩ := oB hD
 obtain ⟨r294,hc295,hD⟩ := oB hD
 obtain ⟨hb296,hD⟩ := iT hD
 obtain ⟨r297,hc298,hD⟩ := oB hD
 obtain ⟨hb299,hD⟩ := iT hD
 obtain ⟨r300,hc301,hD⟩ := oB hD
 obtain ⟨hb302,hD⟩ := iFb hD
 obtain ⟨r308,hc309,hD⟩ := oB hD
 obtain ⟨hb310,hD⟩ := iT hD
 obtain ⟨r311,hc312,hD⟩ := oB hD
 have hc248k := L_cut_Where_ok hc248
 have hc253k := L_cut_Where_ok hc253
 have hc256k := L_cut_Where_ok hc256
 have hc259k := L_cut_Where_ok hc259
 have hc262k := L_cut_Where_ok hc262
 have hc265k := L_cut_Counts_ok hc265
 have hc267k := L_ref01_Ints_ok hc267
 have hc270k := L_law05_Steps_ok hc270
 have hc276k := L_law05_Steps_ok hc276
 have hc278k := L_ref05_Steps_ok hc278
 have hc281k := L_law05_Steps_ok hc281
 have hc285k := L_law05_Steps_ok hc285
 have hc287k := L_ref05_Steps_ok hc287
 have hc291k := L_law05_Steps_ok hc291
 have hc293k := L_law05_Steps_ok hc293
 have hc295k := L_ref05_Steps_ok hc295
 have hc298k := L_cut_Good_ok hc298
 have hc301k := L_cut_Good_ok hc301
 have hc309k := L_cut_Good_ok hc309
 have hc312k := L_cut_Good_ok hc312
 refine dsg 140 [factE 43 hc248k,factE 51 hc253k,factE 58 hc256k,factE 65 hc259k,factE 72 hc262k,factE 79 hc265k,factE 81 hc267k,factE 85 hc270k,factE 88 hc276k,factE 89 hc278k,factE 93 hc281k,factE 96 hc285k,factE 97 hc287k,factE 106 hc291k,factE 108 hc293k,factE 109 hc295k,factE 116 hc298k,factE 123 hc301k,factE 131 hc309k,factE 137 hc312k] [none,none,none,none,none,none,none,none,some (some 42,true),some (some 42,true),some (some 42,true),some (some 42,true),some (some 42,true),some (some 42,true),some (some 42,true),none,none,some (some 51,true),some (some 51,true),some (some 51,true),some (some 51,true),some (some 51,true),none,none,some (some 58,true),some (some 58,true),some (some 58,true),some (some 58,true),some (some 58,true),none,none,some (some 65,true),some (some 65,true),some (some 65,true),some (some 65,true),some (some 65,true),none,none,some (some 72,true),some (some 72,true),some (some 72,true),some (some 72,true),some (some 72,true),some (some 72,true),none,none,some (some 80,true),some (some 80,true),some (some 80,true),some (some 80,true),some (some 80,true),some (some 80,true),none,none,some (some 88,true),some (some 88,true),some (some 88,true),some (some 88,true),some (some 88,true),some (some 88,true),none,none,some (some 96,true),some (some 96,true),some (some 96,true),none,none,some (some 101,true),some (some 101,true),some (some 101,true),some (some 101,true),some (some 101,true),none,none,some (some 108,true),some (some 108,true),some (some 108,true),some (some 108,true),some (some 108,true),none,none,some (some 115,true),some (some 115,true),some (some 115,true),some (some 115,true),some (some 115,true),some (some 115,true),none,none,some (some 123,true),some (some 123,true),some (some 123,true),some (some 123,true),some (some 123,true),none,none,some (some 130,true),some (some 130,true),some (some 130,true),some (some 130,true),none,none] [0] [] h fun ac wd h => ?_
 refine wp_ret ?_
 injection hD with hD
 subst hD
 exact rE h [.tmp 0]

theorem L_law05_Ref_ok {a0 : TConf} {r : TConf} (hD : L_law05_Ref a0 = some r) :
  CallH Try.prog 45 [.agg (cTConf a0)] []
   (.agg [.d (.sl (List.map eI r.States)),.d (.sl (List.map (eL eTMsg) r.Links)),.d (.sl (List.map eI r.Sent))]) [] := by
 unfold L_law05_Ref at hD
 refine rc Try.func45 rfl Try.ntmps45 fun S Φ P0 wb ac h => ?_
 refine qs 3 [] [1,2] [(1,0),(2,0)] h fun ac wd h => ?_
 refine qs 11 [] [2] [(2,0)] h fun ac wd h => ?_
 refine wp_ret ?_
 injection hD with hD
 subst hD
 exact rE h [.cell 2 101]

theorem L_ref04_At_ok {a0 : (List TNode)} {a1 : Int} {a2 : Int} {r : TState} (hD : L_ref04_At a0 a1 a2 = some r) :
  CallH Try.prog 31 [.one (.d (.sl (List.map eTNode a0))),.one (.d (.int .i64 a1)),.one (.d (.int .i64 a2))] []
   (.agg [.d (.int .i64 r.Mode),.d (.sl (List.map eI r.Waits)),.d (.sl (List.map eTPick r.Picks)),.d (.sl (List.map eTTake r.Takes))]) [] := by
 unfold L_ref04_At at hD
 refine rc Try.func31 rfl Try.ntmps31 fun S Φ P0 wb ac h => ?_
 refine qs 2 [] [0,1,2,6] [(1,0)] h fun ac wd h => ?_
 refine wp_seq ?_
 obtain ⟨e30,hE31,hD⟩ := Option.bind_eq_some_iff.1 hD
 refine r_seqJ (fun ac wd => ∃ (b29 : Bool),b29 = e30 ∧ SL ⟨wb,S,Φ,P0⟩ 38 24 [(0,.one (.d (.sl (List.map eTNode a0)))),(1,.one (.d (.int .i64 a1))),(2,.one (.d (.int .i64 a2))),(6,.one (.ptr (1,0) 0)),(28,.one (.d (.bool b29)))] [((1,0),some (.box 90 [.d (.int .i64 0),.nil,.nil,.nil]))] ac wd) ?_ ?_
 ·
  rcases i2 hE31 with ⟨hb32,hE31⟩ | ⟨hb32,hE31⟩
  ·
   refine qeg [] [none,none,none,some (some 9,false),some (some 9,false),some (some 9,false),some (some 9,false),none,none,some (some 15,false),some (some 15,false),none,none,some (some 19,false),some (some 19,false),some (some 19,false),some (some 19,false),some (some 19,false),some (some 19,false),some (some 19,false),some (some 19,false),none] [0,1,2,6,28] [(1,0)] h fun ac wd h => ?_
   injection hE31 with hE31; subst hE31
   exact ⟨true,rfl,h.z⟩
  ·
   rcases i2 hE31 with ⟨hb33,hE31⟩ | ⟨hb33,hE31⟩
   ·
    refine qeg [] [none,none,none,some (some 9,false),some (some 9,false),some (some 9,false),some (some 9,false),none,none,some (some 15,false),some (some 15,false),none,none,some (some 19,false),some (some 19,false),some (some 19,false),some (some 19,false),some (some 19,false),some (some 19,false),some (some 19,false),some (some 19,false),none] [0,1,2,6,28] [(1,0)] h fun ac wd h => ?_
    injection hE31 with hE31; subst hE31
    exact ⟨true,rfl,h.z⟩
   ·
    rcases i2 hE31 with ⟨hb34,hE31⟩ | ⟨hb34,hE31⟩
    ·
     refine qeg [] [none,none,none,some (some 9,false),some (some 9,false),some (some 9,false),some (some 9,false),none,none,some (some 15,false),some (some 15,false),none,none,some (some 19,false),some (some 19,false),some (some 19,false),some (some 19,false),some (some 19,false),some (some 19,false),some (some 19,false),some (some 19,false),none] [0,1,2,6,28] [(1,0)] h fun ac wd h => ?_
     injection hE31 with hE31; subst hE31
     exact ⟨true,rfl,h.z⟩
    ·
     obtain ⟨x35,hx36a,hx36b,hx36c,hx36d,hE31⟩ := aB hE31
     refine qeg [] [none,none,none,some (some 9,false),some (some 9,false),some (some 9,false),some (some 9,false),none,none,some (some 15,false),some (some 15,false),none,none,some (some 19,false),some (some 19,false),some (some 19,false),some (some 19,false),some (some 19,false),some (some 19,false),some (some 19,false),some (some 19,false),none] [0,1,2,6,28] [(1,0)] h fun ac wd h => ?_
     injection hE31 with hE31; subst hE31
     exact ⟨decide (a2 ≥ (x35.States.length : Int)),rfl,h.z⟩
 ·
  rintro ac wd ⟨b29,rfl,h⟩
  (try dsimp only at hD)
  rcases i2b hD with ⟨hb38,hD⟩ | ⟨hb38,hD⟩
  ·
   refine kT h ?_
   refine qs 26 [] [6] [(1,0)] h fun ac wd h => ?_
   refine wp_ret ?_
   injection hD with hD
   subst hD
   exact rE h [.cell 6 90]
  ·
   refine kF h ?_
   refine wp_skip ?_
   change Code.wp Try.prog _ _ _ _
   obtain ⟨x43,hx44a,hx44b,hx44c,hx44d,hD⟩ := aB hD
   obtain ⟨x45,hx46a,hx46b,hx46c,hx46d,hD⟩ := aB hD
   refine qs 33 [] [6] [(1,0)] h fun ac wd h => ?_
   refine wp_ret ?_
   injection hD with hD
   subst hD
   exact rE h [.cell 6 90]

theorem L_ref04_Picked_ok {a0 : (List TNode)} {a1 : Int} {a2 : Int} {a3 : Int} {r : TPick × Bool} (hD : L_ref04_Picked a0 a1 a2 a3 = some r) :
  CallH Try.prog 137 [.one (.d (.sl (List.map eTNode a0))),.one (.d (.int .i64 a1)),.one (.d (.int .i64 a2)),.one (.d (.int .i64 a3))] []
   (.tup [.inl [.d (.int .i64 r.1.Next),.d (.sl (List.map eTSend r.1.Sends))],.inr (.d (.bool r.2))]) [] := by
 unfold L_ref04_Picked at hD
 refine rc Try.func137 rfl Try.ntmps137 fun S Φ P0 wb ac h => ?_
 refine qs 3 [] [0,1,2,3,8] [(1,0)] h fun ac wd h => ?_
 obtain ⟨r18,hc19,hD⟩ := oB hD
 have hc19k := L_ref04_At_ok hc19
 refine qs 9 [factE 6 hc19k] [3,8,10] [(1,0)] h fun ac wd h => ?_
 refine wp_seq ?_
 obtain ⟨e22,hE23,hD⟩ := Option.bind_eq_some_iff.1 hD
 refine r_seqJ (fun ac wd => ∃ (b21 : Bool),b21 = e22 ∧ SL ⟨wb,S,Φ,P0⟩ 29 17 [(3,.one (.d (.int .i64 a3))),(8,.one (.ptr (1,0) 0)),(10,.one (.d (.sl (List.map eTPick r18.Picks)))),(23,.one (.d (.bool b21)))] [((1,0),some (.box 189 [.d (.int .i64 0),.nil]))] ac wd) ?_ ?_
 ·
  rcases i2 hE23 with ⟨hb24,hE23⟩ | ⟨hb24,hE23⟩
  ·
   refine qeg [] [none,none,none,some (some 18,false),some (some 18,false),some (some 18,false),some (some 18,false),none] [3,8,10,23] [(1,0)] h fun ac wd h => ?_
   injection hE23 with hE23; subst hE23
   exact ⟨true,rfl,h.z⟩
  ·
   refine qeg [] [none,none,none,some (some 18,false),some (some 18,false),some (some 18,false),some (some 18,false),none] [3,8,10,23] [(1,0)] h fun ac wd h => ?_
   injection hE23 with hE23; subst hE23
   exact ⟨decide (a3 ≥ (r18.Picks.length : Int)),rfl,h.z⟩
 ·
  rintro ac wd ⟨b21,rfl,h⟩
  (try dsimp only at hD)
  rcases i2b hD with ⟨hb26,hD⟩ | ⟨hb26,hD⟩
  ·
   refine kT h ?_
   refine qs 20 [] [8,9] [(1,0)] h fun ac wd h => ?_
   refine wp_ret ?_
   injection hD with hD
   subst hD
   exact rE h [.cell 8 189,.tmp 9]
  ·
   refine kF h ?_
   refine wp_skip ?_
   change Code.wp Try.prog _ _ _ _
   obtain ⟨x29,hx30a,hx30b,hx30c,hx30d,hD⟩ := aB hD
   refine qs 23 [] [8,9] [(1,0)] h fun ac wd h => ?_
   refine wp_ret ?_
   injection hD with hD
   subst hD
   exact rE h [.cell 8 189,.tmp 9]

theorem L_ref05_Own_own {a0 : TConf} {r : TConf} (hD : L_ref05_Own a0 = some r) :
  CallH Try.prog 138 [.agg (cTConf a0)] []
   (.agg [.own (1,0) r.States.length,.own (1,1) r.Links.length,.own (1,2) r.Sent.length]) [((1,0),some (.row 3 1 (dat (List.map eI r.States)))),((1,1),some (.row 170 1 (openRows cols_170 (List.map (eL eTMsg) r.Links)))),((1,2),some (.row 3 1 (dat (List.map eI r.Sent))))] := by
 unfold L_ref05_Own at hD
 refine rc Try.func138 rfl Try.ntmps138 fun S Φ P0 wb ac h => ?_
 refine qs 3 [] [1,2] [(1,0),(2,0)] h fun ac wd h => ?_
 obtain ⟨ha78,hD⟩ := iT hD
 obtain ⟨ha79,hD⟩ := iT hD
 refine ds 14 [] [1,2,3] [(1,0),(2,0),(6,0),(10,0),(12,0)] h fun ac wd h => ?_
 refine wp_seq ?_
 refine qs 15 [] [1,2,3,4] [(1,0),(2,0),(6,0),(10,0),(12,0)] h fun ac wd h => ?_
 refine wp_block ?_
 have h := SL.bornB h (12,0) 1 170 1 (by simp only [EZ,simprocAttr, *] <;> rfl) (by simp only [EZ,simprocAttr, *] <;> rfl)
 refine r_while (fun nf ac wd => ∃ (n136 : Int) (l137 : List (List TMsg)),L_ref05_Own_l1 a0 nf n136 l137 = some r ∧ SL ⟨wb,S,Φ,P0⟩ 34 57 [(1,.one (.ptr (1,0) 0)),(2,.one (.ptr (2,0) 0)),(3,.one (.ptr (12,0) 0)),(4,.one (.d (.int .i64 n136)))] [((1,0),some (.box 101 (cTConf a0))),((2,0),some (.box 101 [.nil,.nil,.nil])),((6,0),some (.row 3 1 (dat (List.map eI a0.States)))),((10,0),some (.row 3 1 (dat (List.map eI a0.Sent)))),((12,0),some (.box 101 [.own (6,0) a0.States.length,.own (15,0) l137.length,.own (10,0) a0.Sent.length])),((15,0),some (.row 170 1 (openRows cols_170 (List.map (eL eTMsg) l137))))] ac wd) (((a0.Links.length : Int) - 0).toNat + 1) ⟨0,([] : List (List TMsg)),hD,h.z⟩ (fun nf ac wd hJ => ?_)
 obtain ⟨n136,l137,hL138,h⟩ := hJ
 cases nf with
 | zero => rw [L_ref05_Own_l1] at hL138; cases hL138
 | succ nf =>
  rw [L_ref05_Own_l1] at hL138
  refine wp_seq ?_
  refine qs 62 [] [1,2,3,4,18] [(1,0),(2,0),(6,0),(10,0),(12,0),(15,0)] h fun ac wd h => ?_
  rcases i2 hL138 with ⟨hb140,hL138⟩ | ⟨hb140,hL138⟩
  ·
   refine kT h ?_
   refine wp_skip ?_
   change Code.wp Try.prog _ _ _ _
   refine wp_seq ?_
   refine wp_block ?_
   obtain ⟨x145,hx146a,hx146b,hx146c,hx146d,hL138⟩ := aB hL138
   obtain ⟨ha147,hL138⟩ := iT hL138
   obtain ⟨ha148,hL138⟩ := iT hL138
   refine de [] [1,2,3,4] [(1,0),(2,0),(6,0),(10,0),(12,0),(70,0),(72,0)] h fun ac wd h => ?_
   have h := h.fL (cols := (fun _ => .sc)) (72,0) (70,0) (openRows cols_170 (List.map (eL eTMsg) l137)) [.own (70,0) x145.length] 0 (List.map eTMsg x145) (sc_59 _)
   have h := h.sm 75 [(1,.one (.ptr (1,0) 0)),(2,.one (.ptr (2,0) 0)),(3,.one (.ptr (12,0) 0)),(4,.one (.d (.int .i64 n136)))]
    [((1,0),some (.box 101 (cTConf a0))),((2,0),some (.box 101 [.nil,.nil,.nil])),((6,0),some (.row 3 1 (dat (List.map eI a0.States)))),((10,0),some (.row 3 1 (dat (List.map eI a0.Sent)))),((12,0),some (.box 101 [.own (6,0) a0.States.length,.own (72,0) (l137.length + 1),.own (10,0) a0.Sent.length])),((72,0),some (.row 170 1 ((openRows cols_170 (List.map (eL eTMsg) l137) ++ [[.tr (.sl 59 2 (fun _ => .sc)) (.sl (List.map eTMsg x145))]]))))]
   change Code.wp Try.prog _ _ _ _
   refine qe [] [1,2,3,4] [(1,0),(2,0),(6,0),(10,0),(12,0),(72,0)] h fun ac wd h => ?_
   have h := h.sw (15,0) (72,0) 78
   exact ⟨nf,Nat.lt_succ_self nf,(IntKind.wrap .i64 (n136 + 1)),(l137 ++ [x145]),hL138,h.z⟩
  ·
   refine kF h ?_
   refine wp_exit ?_
   change Code.wp Try.prog _ _ _ _
   refine qs 64 [] [2] [(2,0),(6,0),(10,0),(15,0)] h fun ac wd h => ?_
   refine wp_ret ?_
   have h := h.sw (1,0) (6,0) 64
   have h := h.sw (1,1) (15,0) 64
   have h := h.sw (1,2) (10,0) 64
   injection hL138 with hL138
   subst hL138
   exact rO h [.cell 2 101] [(1,0),(1,1),(1,2)]
theorem L_ref05_Own_ok {a0 : TConf} {r : TConf} (hD : L_ref05_Own a0 = some r) :
  CallH Try.prog 138 [.agg (cTConf a0)] []
   (.agg [.d (.sl (List.map eI r.States)),.d (.sl (List.map (eL eTMsg) r.Links)),.d (.sl (List.map eI r.Sent))]) [] :=
 (L_ref05_Own_own hD).fr

end Go.Proofs.Ytabbejabdkkaiaa
