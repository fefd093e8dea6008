/- Functions as typed ones,and that the program's functions answer as these do. No condition. -/
import Derived.Test.YtabbejabdkkaiaaGb0
import Derived.Test.YtabbejabdkkaiaaGb7
import Derived.Test.YtabbejabdkkaiaaGd
set_option linter.unusedSimpArgs false
set_option linter.unusedVariables false
set_option maxRecDepth 20000
set_option maxHeartbeats 4000000
namespace Go.Proofs.Ytabbejabdkkaiaa
open Go.RowKit

theorem L_ref05_pick_own {a0 : TApp} {a1 : TConf} {a2 : TStep} {r : TConf × Int} (hD : L_ref05_pick a0 a1 a2 = some r) :
  CallH Try.prog 116 [.agg (cTApp a0),.agg (cTConf a1),.agg (cTStep a2)] []
   (.tup [.inl [.own (1,0) r.1.States.length,.own (1,1) r.1.Links.length,.own (1,2) r.1.Sent.length],.inr (.d (.int .i64 r.2))]) [((1,0),some (.row 3 1 (dat (List.map eI r.1.States)))),((1,1),some (.row 170 1 (openRows cols_170 (List.map (eL eTMsg) r.1.Links)))),((1,2),some (.row 3 1 (dat (List.map eI r.1.Sent))))] := by
 unfold L_ref05_pick at hD
 refine rc Try.func116 rfl Try.ntmps116 fun S Φ P0 wb ac h => ?_
 refine qs 6 [] [3,4,5,6] [(1,0),(2,0),(3,0),(4,0)] h fun ac wd h => ?_
 refine wp_seq ?_
 obtain ⟨e387,hE388,hD⟩ := Option.bind_eq_some_iff.1 hD
 refine r_seqJ (fun ac wd => ∃ (b386 : Bool),b386 = e387 ∧ SL ⟨wb,S,Φ,P0⟩ 126 17 [(3,.one (.ptr (1,0) 0)),(4,.one (.ptr (2,0) 0)),(5,.one (.ptr (3,0) 0)),(6,.one (.ptr (4,0) 0)),(23,.one (.d (.bool b386)))] [((1,0),some (.box 69 (cTApp a0))),((2,0),some (.box 101 (cTConf a1))),((3,0),some (.box 175 (cTStep a2))),((4,0),some (.box 101 [.nil,.nil,.nil]))] ac wd) ?_ ?_
 ·
  rcases i2 hE388 with ⟨hb389,hE388⟩ | ⟨hb389,hE388⟩
  ·
   refine qeg [] [none,none,none,none,some (some 16,false),some (some 16,false),some (some 16,false),some (some 16,false),some (some 16,false),some (some 16,false),none] [3,4,5,6,23] [(1,0),(2,0),(3,0),(4,0)] h fun ac wd h => ?_
   injection hE388 with hE388; subst hE388
   exact ⟨true,rfl,h.z⟩
  ·
   refine qeg [] [none,none,none,none,some (some 16,false),some (some 16,false),some (some 16,false),some (some 16,false),some (some 16,false),some (some 16,false),none] [3,4,5,6,23] [(1,0),(2,0),(3,0),(4,0)] h fun ac wd h => ?_
   injection hE388 with hE388; subst hE388
   exact ⟨decide (a2.Node ≥ a0.G.N),rfl,h.z⟩
 ·
  rintro ac wd ⟨b386,rfl,h⟩
  (try dsimp only at hD)
  rcases i2b hD with ⟨hb391,hD⟩ | ⟨hb391,hD⟩
  ·
   refine kT h ?_
   refine qs 20 [] [6,7] [(4,0)] h fun ac wd h => ?_
   refine wp_ret ?_
   have h := SL.bornB h (4,0) 0 3 1 (by simp only [EZ,simprocAttr, *] <;> rfl) (by simp only [EZ,simprocAttr, *] <;> rfl)
   have h := SL.bornB h (4,0) 1 170 1 (by simp only [EZ,simprocAttr, *] <;> rfl) (by simp only [EZ,simprocAttr, *] <;> rfl)
   have h := SL.bornB h (4,0) 2 3 1 (by simp only [EZ,simprocAttr, *] <;> rfl) (by simp only [EZ,simprocAttr, *] <;> rfl)
   have h := h.sw (1,0) (20,0) 23
   have h := h.sw (1,1) (21,0) 23
   have h := h.sw (1,2) (22,0) 23
   injection hD with hD
   subst hD
   exact rO h [.cell 6 101,.tmp 7] [(1,0),(1,1),(1,2)]
  ·
   refine kF h ?_
   refine wp_skip ?_
   change Code.wp Try.prog _ _ _ _
   refine wp_seq ?_
   obtain ⟨x396,hx397a,hx397b,hx397c,hx397d,hD⟩ := aB hD
   obtain ⟨r398,hc399,hD⟩ := oB hD
   have hc399k := L_ref04_At_ok hc399
   refine ds 30 [factE 27 hc399k] [3,4,5,6,37] [(1,0),(2,0),(3,0),(4,0)] h fun ac wd h => ?_
   rcases i2e hD with ⟨hb401,hD⟩ | ⟨hb401,hD⟩
   ·
    refine kF h ?_
    refine wp_skip ?_
    change Code.wp Try.prog _ _ _ _
    obtain ⟨r404,hc405,hD⟩ := oB hD
    have hc405k := L_ref04_Picked_ok hc405
    refine ds 49 [factE 42 hc405k] [3,4,5,6,8,9] [(1,0),(2,0),(3,0),(4,0),(46,0)] h fun ac wd h => ?_
    refine wp_seq ?_
    refine qs 51 [] [3,4,5,6,8,56] [(1,0),(2,0),(3,0),(4,0),(46,0)] h fun ac wd h => ?_
    rcases i2b hD with ⟨hb407,hD⟩ | ⟨hb407,hD⟩
    ·
     refine kF h ?_
     refine wp_skip ?_
     change Code.wp Try.prog _ _ _ _
     obtain ⟨r410,hc411,hD⟩ := oB hD
     have hc411_52 := ((L_ref05_Own_own hc411).cls 52).z
     refine qs 55 [factO hc411_52] [3,5,6,8,10] [(1,0),(3,0),(4,0),(46,0),(52,0),(52,1),(52,2),(53,0)] h fun ac wd h => ?_
     obtain ⟨x414,hx415a,hx415b,hx415c,hx415d,hD⟩ := aB hD
     refine qs 63 [] [3,5,6,8,10] [(1,0),(3,0),(4,0),(46,0),(52,0),(52,1),(52,2),(53,0)] h fun ac wd h => ?_
     refine wp_seq ?_
     refine qs 64 [] [3,5,6,8,10,11] [(1,0),(3,0),(4,0),(46,0),(52,0),(52,1),(52,2),(53,0)] h fun ac wd h => ?_
     refine wp_block ?_
     refine r_while (fun nf ac wd => ∃ (n705 : Int) (l706 : List (List TMsg)) (l707 : List Int),L_ref05_pick_l1 a0 a2 r404 r410 nf n705 l706 l707 = some r ∧ SL ⟨wb,S,Φ,P0⟩ 126 188 [(3,.one (.ptr (1,0) 0)),(5,.one (.ptr (3,0) 0)),(6,.one (.ptr (4,0) 0)),(8,.one (.ptr (46,0) 0)),(10,.one (.ptr (53,0) 0)),(11,.one (.d (.int .i64 n705)))] [((1,0),some (.box 69 (cTApp a0))),((3,0),some (.box 175 (cTStep a2))),((4,0),some (.box 101 [.nil,.nil,.nil])),((46,0),some (.box 189 [.d (.int .i64 r404.1.Next),.d (.sl (List.map eTSend r404.1.Sends))])),((52,0),some (.row 3 1 (dat (List.map eI (r410.States.set a2.Node.toNat r404.1.Next))))),((52,1),some (.row 170 1 (openRows cols_170 (List.map (eL eTMsg) l706)))),((52,2),some (.row 3 1 (dat (List.map eI l707)))),((53,0),some (.box 101 [.own (52,0) r410.States.length,.own (52,1) l706.length,.own (52,2) l707.length]))] ac wd) (((r404.1.Sends.length : Int) - 0).toNat + 1) ⟨0,r410.Links,r410.Sent,hD,h.z⟩ (fun nf ac wd hJ => ?_)
     obtain ⟨n705,l706,l707,hL708,h⟩ := hJ
     cases nf with
     | zero => rw [L_ref05_pick_l1] at hL708; cases hL708
     | succ nf =>
      rw [L_ref05_pick_l1] at hL708
      refine wp_seq ?_
      refine qs 193 [] [3,5,6,8,10,11,71] [(1,0),(3,0),(4,0),(46,0),(52,0),(52,1),(52,2),(53,0)] h fun ac wd h => ?_
      rcases i2 hL708 with ⟨hb710,hL708⟩ | ⟨hb710,hL708⟩
      ·
       refine kT h ?_
       refine wp_skip ?_
       change Code.wp Try.prog _ _ _ _
       refine wp_seq ?_
       refine wp_block ?_
       obtain ⟨x742,hx743a,hx743b,hx743c,hx743d,hL708⟩ := aB hL708
       obtain ⟨r744,hc745,hL708⟩ := oB hL708
       have hc745k := L_ref03_Find_ok hc745
       refine ds 205 [factE 203 hc745k] [3,5,6,8,10,11,12] [(1,0),(3,0),(4,0),(46,0),(52,0),(52,1),(52,2),(53,0)] h fun ac wd h => ?_
       obtain ⟨x748,hx749a,hx749b,hx749c,hx749d,hL708⟩ := aB hL708
       refine ds 216 [] [3,5,6,8,10,11,12] [(1,0),(3,0),(4,0),(46,0),(52,0),(52,1),(52,2),(53,0)] h fun ac wd h => ?_
       obtain ⟨x757,hx758a,hx758b,hx758c,hx758d,hL708⟩ := aB hL708
       have h := h.op (52,1) r744.toNat 0
       have h := h.sm 217 [(3,.one (.ptr (1,0) 0)),(5,.one (.ptr (3,0) 0)),(6,.one (.ptr (4,0) 0)),(8,.one (.ptr (46,0) 0)),(10,.one (.ptr (53,0) 0)),(11,.one (.d (.int .i64 n705))),(12,.one (.d (.int .i64 r744)))]
        [((1,0),some (.box 69 (cTApp a0))),((3,0),some (.box 175 (cTStep a2))),((4,0),some (.box 101 [.nil,.nil,.nil])),((46,0),some (.box 189 [.d (.int .i64 r404.1.Next),.d (.sl (List.map eTSend r404.1.Sends))])),((52,0),some (.row 3 1 (dat (List.map eI (r410.States.set a2.Node.toNat r404.1.Next))))),((52,1),some (.row 170 1 ((openRows cols_170 (List.map (eL eTMsg) l706)).set r744.toNat [.own (216,0) x757.length]))),((52,2),some (.row 3 1 (dat (List.map eI (l707.set r744.toNat (IntKind.wrap .i64 (x748 + 1))))))),((53,0),some (.box 101 [.own (52,0) r410.States.length,.own (52,1) l706.length,.own (52,2) l707.length])),((216,0),some (.row 59 2 (dat (List.map eTMsg x757))))]
       obtain ⟨v759,hv760,hL708⟩ := vB hL708
       have h := h.same [3,5,6,8,10,11,12] [(1,0),(3,0),(4,0),(46,0),(52,0),(52,1),(52,2),(53,0),(216,0)] 217 [(3,.one (.ptr (1,0) 0)),(5,.one (.ptr (3,0) 0)),(6,.one (.ptr (4,0) 0)),(8,.one (.ptr (46,0) 0)),(10,.one (.ptr (53,0) 0)),(11,.one (.d (.int .i64 n705))),(12,.one (.d (.int .i64 r744)))]
        [((1,0),some (.box 69 (cTApp a0))),((3,0),some (.box 175 (cTStep a2))),((4,0),some (.box 101 [.nil,.nil,.nil])),((46,0),some (.box 189 [.d (.int .i64 r404.1.Next),.d (.sl (List.map eTSend r404.1.Sends))])),((52,0),some (.row 3 1 (dat (List.map eI (r410.States.set a2.Node.toNat r404.1.Next))))),((52,1),some (.row 170 1 ((openRows cols_170 (List.map (eL eTMsg) l706)).set r744.toNat [.own (216,0) x757.length]))),((52,2),some (.row 3 1 (dat (List.map eI v759)))),((53,0),some (.box 101 [.own (52,0) r410.States.length,.own (52,1) l706.length,.own (52,2) v759.length])),((216,0),some (.row 59 2 (dat (List.map eTMsg x757))))]
        (by simp only [EZ,simprocAttr,hb391,hx397a,hx397b,hx397c,hx397d,hb401,hb407,hx415a,hx415b,hx415c,hx415d,hb710,hx743a,hx743b,hx743c,hx743d,hx749a,hx749b,hx749c,hx749d,hx758a,hx758b,hx758c,hx758d,dat_open,← hv760] <;> rfl)
       obtain ⟨x761,hx762a,hx762b,hx762c,hx762d,hL708⟩ := aB hL708
       obtain ⟨ha763,hL708⟩ := iT hL708
       refine ds 241 [] [3,5,6,8,10,11,12] [(1,0),(3,0),(4,0),(46,0),(52,0),(52,1),(52,2),(53,0),(238,0)] h fun ac wd h => ?_
       have h := h.fS (cols := (fun _ => .sc)) (52,1) (238,0) (openRows cols_170 (List.map (eL eTMsg) l706)) r744.toNat [.own (238,0) (x757.length + 1)] 0 (List.map eTMsg (x757 ++ [(TMsg.mk x761 x742.Letter)])) (sc_59 _)
       have h := h.sm 241 [(3,.one (.ptr (1,0) 0)),(5,.one (.ptr (3,0) 0)),(6,.one (.ptr (4,0) 0)),(8,.one (.ptr (46,0) 0)),(10,.one (.ptr (53,0) 0)),(11,.one (.d (.int .i64 n705))),(12,.one (.d (.int .i64 r744)))]
        [((1,0),some (.box 69 (cTApp a0))),((3,0),some (.box 175 (cTStep a2))),((4,0),some (.box 101 [.nil,.nil,.nil])),((46,0),some (.box 189 [.d (.int .i64 r404.1.Next),.d (.sl (List.map eTSend r404.1.Sends))])),((52,0),some (.row 3 1 (dat (List.map eI (r410.States.set a2.Node.toNat r404.1.Next))))),((52,1),some (.row 170 1 ((openRows cols_170 (List.map (eL eTMsg) l706)).set r744.toNat [.tr (.sl 59 2 (fun _ => .sc)) (.sl (List.map eTMsg (x757 ++ [(TMsg.mk x761 x742.Letter)])))]))),((52,2),some (.row 3 1 (dat (List.map eI v759)))),((53,0),some (.box 101 [.own (52,0) r410.States.length,.own (52,1) l706.length,.own (52,2) v759.length]))]
       refine qs 247 [] [3,5,6,8,10,11,123] [(1,0),(3,0),(4,0),(46,0),(52,0),(52,1),(52,2),(53,0)] h fun ac wd h => ?_
       rcases i2 hL708 with ⟨hb764,hL708⟩ | ⟨hb764,hL708⟩
       ·
        refine kT h ?_
        refine qs 250 [] [6,7] [(4,0)] h fun ac wd h => ?_
        refine wp_ret ?_
        have h := SL.bornB h (4,0) 0 3 1 (by simp only [EZ,simprocAttr, *] <;> rfl) (by simp only [EZ,simprocAttr, *] <;> rfl)
        have h := SL.bornB h (4,0) 1 170 1 (by simp only [EZ,simprocAttr, *] <;> rfl) (by simp only [EZ,simprocAttr, *] <;> rfl)
        have h := SL.bornB h (4,0) 2 3 1 (by simp only [EZ,simprocAttr, *] <;> rfl) (by simp only [EZ,simprocAttr, *] <;> rfl)
        have h := h.sw (1,0) (250,0) 253
        have h := h.sw (1,1) (251,0) 253
        have h := h.sw (1,2) (252,0) 253
        injection hL708 with hL708
        subst hL708
        exact rO h [.cell 6 101,.tmp 7] [(1,0),(1,1),(1,2)]
       ·
        refine kF h ?_
        refine wp_skip ?_
        change Code.wp Try.prog _ _ _ _
        refine qe [] [3,5,6,8,10,11] [(1,0),(3,0),(4,0),(46,0),(52,0),(52,1),(52,2),(53,0)] h fun ac wd h => ?_
        exact ⟨nf,Nat.lt_succ_self nf,(IntKind.wrap .i64 (n705 + 1)),(l706.set r744.toNat (x757 ++ [(TMsg.mk x761 x742.Letter)])),v759,hL708,h.z⟩
      ·
       refine kF h ?_
       refine wp_exit ?_
       change Code.wp Try.prog _ _ _ _
       refine qs 196 [] [6,7] [(4,0),(52,0),(52,1),(52,2)] h fun ac wd h => ?_
       refine wp_ret ?_
       have h := h.sw (1,0) (52,0) 196
       have h := h.sw (1,1) (52,1) 196
       have h := h.sw (1,2) (52,2) 196
       injection hL708 with hL708
       subst hL708
       exact rO h [.cell 6 101,.tmp 7] [(1,0),(1,1),(1,2)]
    ·
     refine kT h ?_
     refine qs 54 [] [6,7] [(4,0)] h fun ac wd h => ?_
     refine wp_ret ?_
     have h := SL.bornB h (4,0) 0 3 1 (by simp only [EZ,simprocAttr, *] <;> rfl) (by simp only [EZ,simprocAttr, *] <;> rfl)
     have h := SL.bornB h (4,0) 1 170 1 (by simp only [EZ,simprocAttr, *] <;> rfl) (by simp only [EZ,simprocAttr, *] <;> rfl)
     have h := SL.bornB h (4,0) 2 3 1 (by simp only [EZ,simprocAttr, *] <;> rfl) (by simp only [EZ,simprocAttr, *] <;> rfl)
     have h := h.sw (1,0) (54,0) 57
     have h := h.sw (1,1) (55,0) 57
     have h := h.sw (1,2) (56,0) 57
     injection hD with hD
     subst hD
     exact rO h [.cell 6 101,.tmp 7] [(1,0),(1,1),(1,2)]
   ·
    refine kT h ?_
    refine qs 33 [] [6,7] [(4,0)] h fun ac wd h => ?_
    refine wp_ret ?_
    have h := SL.bornB h (4,0) 0 3 1 (by simp only [EZ,simprocAttr, *] <;> rfl) (by simp only [EZ,simprocAttr, *] <;> rfl)
    have h := SL.bornB h (4,0) 1 170 1 (by simp only [EZ,simprocAttr, *] <;> rfl) (by simp only [EZ,simprocAttr, *] <;> rfl)
    have h := SL.bornB h (4,0) 2 3 1 (by simp only [EZ,simprocAttr, *] <;> rfl) (by simp only [EZ,simprocAttr, *] <;> rfl)
    have h := h.sw (1,0) (33,0) 36
    have h := h.sw (1,1) (34,0) 36
    have h := h.sw (1,2) (35,0) 36
    injection hD with hD
    subst hD
    exact rO h [.cell 6 101,.tmp 7] [(1,0),(1,1),(1,2)]
theorem L_ref05_pick_ok {a0 : TApp} {a1 : TConf} {a2 : TStep} {r : TConf × Int} (hD : L_ref05_pick a0 a1 a2 = some r) :
  CallH Try.prog 116 [.agg (cTApp a0),.agg (cTConf a1),.agg (cTStep a2)] []
   (.tup [.inl [.d (.sl (List.map eI r.1.States)),.d (.sl (List.map (eL eTMsg) r.1.Links)),.d (.sl (List.map eI r.1.Sent))],.inr (.d (.int .i64 r.2))]) [] :=
 (L_ref05_pick_own hD).fr

theorem L_ref05_Place_ok {a0 : (List TMsg)} {a1 : Int} {r : Int} (hD : L_ref05_Place a0 a1 = some r) :
  CallH Try.prog 139 [.one (.d (.sl (List.map eTMsg a0))),.one (.d (.int .i64 a1))] []
   (.one (.d (.int .i64 r))) [] := by
 unfold L_ref05_Place at hD
 refine rc Try.func139 rfl Try.ntmps139 fun S Φ P0 wb ac h => ?_
 refine qs 2 [] [0,1] [] h fun ac wd h => ?_
 refine wp_seq ?_
 refine qs 3 [] [0,1,5] [] h fun ac wd h => ?_
 refine wp_block ?_
 refine r_while (fun nf ac wd => ∃ (n143 : Int),L_ref05_Place_l1 a0 a1 nf n143 = some r ∧ SL ⟨wb,S,Φ,P0⟩ 20 31 [(0,.one (.d (.sl (List.map eTMsg a0)))),(1,.one (.d (.int .i64 a1))),(5,.one (.d (.int .i64 n143)))] [] ac wd) (((a0.length : Int) - 0).toNat + 1) ⟨0,hD,h.z⟩ (fun nf ac wd hJ => ?_)
 obtain ⟨n143,hL144,h⟩ := hJ
 cases nf with
 | zero => rw [L_ref05_Place_l1] at hL144; cases hL144
 | succ nf =>
  rw [L_ref05_Place_l1] at hL144
  refine wp_seq ?_
  refine qs 35 [] [0,1,5,9] [] h fun ac wd h => ?_
  rcases i2 hL144 with ⟨hb146,hL144⟩ | ⟨hb146,hL144⟩
  ·
   refine kT h ?_
   refine wp_skip ?_
   change Code.wp Try.prog _ _ _ _
   refine wp_seq ?_
   refine wp_block ?_
   obtain ⟨x154,hx155a,hx155b,hx155c,hx155d,hL144⟩ := aB hL144
   refine qs 42 [] [0,1,5,18] [] h fun ac wd h => ?_
   rcases i2e hL144 with ⟨hb156,hL144⟩ | ⟨hb156,hL144⟩
   ·
    refine kT h ?_
    refine qs 44 [] [4] [] h fun ac wd h => ?_
    refine wp_ret ?_
    injection hL144 with hL144
    subst hL144
    exact rE h [.tmp 4]
   ·
    refine kF h ?_
    refine wp_skip ?_
    change Code.wp Try.prog _ _ _ _
    refine qe [] [0,1,5] [] h fun ac wd h => ?_
    exact ⟨nf,Nat.lt_succ_self nf,(IntKind.wrap .i64 (n143 + 1)),hL144,h.z⟩
  ·
   refine kF h ?_
   refine wp_exit ?_
   change Code.wp Try.prog _ _ _ _
   refine qs 36 [] [4] [] h fun ac wd h => ?_
   refine wp_ret ?_
   injection hL144 with hL144
   subst hL144
   exact rE h [.tmp 4]

theorem L_ref04_Taken_ok {a0 : (List TNode)} {a1 : Int} {a2 : Int} {a3 : Int} {a4 : Int} {r : Int} (hD : L_ref04_Taken a0 a1 a2 a3 a4 = some r) :
  CallH Try.prog 140 [.one (.d (.sl (List.map eTNode a0))),.one (.d (.int .i64 a1)),.one (.d (.int .i64 a2)),.one (.d (.int .i64 a3)),.one (.d (.int .i64 a4))] []
   (.one (.d (.int .i64 r))) [] := by
 unfold L_ref04_Taken at hD
 refine rc Try.func140 rfl Try.ntmps140 fun S Φ P0 wb ac h => ?_
 refine qs 2 [] [0,1,2,3,4] [] h fun ac wd h => ?_
 obtain ⟨r194,hc195,hD⟩ := oB hD
 have hc195k := L_ref04_At_ok hc195
 refine qs 8 [factE 5 hc195k] [2,3,4,11] [] h fun ac wd h => ?_
 refine wp_seq ?_
 refine qs 9 [] [2,3,4,11,12] [] h fun ac wd h => ?_
 refine wp_block ?_
 refine r_while (fun nf ac wd => ∃ (n349 : Int),L_ref04_Taken_l1 a2 a3 a4 r194 nf n349 = some r ∧ SL ⟨wb,S,Φ,P0⟩ 46 55 [(2,.one (.d (.int .i64 a2))),(3,.one (.d (.int .i64 a3))),(4,.one (.d (.int .i64 a4))),(11,.one (.d (.sl (List.map eTTake r194.Takes)))),(12,.one (.d (.int .i64 n349)))] [] ac wd) (((r194.Takes.length : Int) - 0).toNat + 1) ⟨0,hD,h.z⟩ (fun nf ac wd hJ => ?_)
 obtain ⟨n349,hL350,h⟩ := hJ
 cases nf with
 | zero => rw [L_ref04_Taken_l1] at hL350; cases hL350
 | succ nf =>
  rw [L_ref04_Taken_l1] at hL350
  refine wp_seq ?_
  refine qs 59 [] [2,3,4,11,12,21] [] h fun ac wd h => ?_
  rcases i2 hL350 with ⟨hb352,hL350⟩ | ⟨hb352,hL350⟩
  ·
   refine kT h ?_
   refine wp_skip ?_
   change Code.wp Try.prog _ _ _ _
   refine wp_seq ?_
   refine wp_block ?_
   obtain ⟨e371,hE372,hL350⟩ := Option.bind_eq_some_iff.1 hL350
   refine r_seqJ (fun ac wd => ∃ (b370 : Bool),b370 = e371 ∧ SL ⟨wb,S,Φ,P0⟩ 46 75 [(2,.one (.d (.int .i64 a2))),(3,.one (.d (.int .i64 a3))),(4,.one (.d (.int .i64 a4))),(11,.one (.d (.sl (List.map eTTake r194.Takes)))),(12,.one (.d (.int .i64 n349))),(39,.one (.d (.bool b370)))] [] ac wd) ?_ ?_
   ·
    obtain ⟨x373,hx374a,hx374b,hx374c,hx374d,hE372⟩ := aB hE372
    rcases i2e hE372 with ⟨hb375,hE372⟩ | ⟨hb375,hE372⟩
    ·
     refine qeg [] [none,none,none,none,none,none,none,none,some (some 31,true),some (some 31,true),some (some 31,true),some (some 31,true),some (some 31,true),some (some 31,true),some (some 31,true),none] [2,3,4,11,12,39] [] h fun ac wd h => ?_
     injection hE372 with hE372; subst hE372
     exact ⟨decide (x373.Letter = a4),rfl,h.z⟩
    ·
     refine qeg [] [none,none,none,none,none,none,none,none,some (some 31,true),some (some 31,true),some (some 31,true),some (some 31,true),some (some 31,true),some (some 31,true),some (some 31,true),none] [2,3,4,11,12,39] [] h fun ac wd h => ?_
     injection hE372 with hE372; subst hE372
     exact ⟨false,rfl,h.z⟩
   ·
    rintro ac wd ⟨b370,rfl,h⟩
    (try dsimp only at hL350)
    rcases i2b hL350 with ⟨hb376,hL350⟩ | ⟨hb376,hL350⟩
    ·
     refine kT h ?_
     obtain ⟨x379,hx380a,hx380b,hx380c,hx380d,hL350⟩ := aB hL350
     refine qs 81 [] [10] [] h fun ac wd h => ?_
     refine wp_ret ?_
     injection hL350 with hL350
     subst hL350
     exact rE h [.tmp 10]
    ·
     refine kF h ?_
     refine wp_skip ?_
     change Code.wp Try.prog _ _ _ _
     refine qe [] [2,3,4,11,12] [] h fun ac wd h => ?_
     exact ⟨nf,Nat.lt_succ_self nf,(IntKind.wrap .i64 (n349 + 1)),hL350,h.z⟩
  ·
   refine kF h ?_
   refine wp_exit ?_
   change Code.wp Try.prog _ _ _ _
   refine qs 61 [] [10] [] h fun ac wd h => ?_
   refine wp_ret ?_
   injection hL350 with hL350
   subst hL350
   exact rE h [.tmp 10]

theorem L_ref05_deliver_own {a0 : TApp} {a1 : TConf} {a2 : TStep} {r : TConf × Int} (hD : L_ref05_deliver a0 a1 a2 = some r) :
  CallH Try.prog 117 [.agg (cTApp a0),.agg (cTConf a1),.agg (cTStep a2)] []
   (.tup [.inl [.own (1,0) r.1.States.length,.own (1,1) r.1.Links.length,.own (1,2) r.1.Sent.length],.inr (.d (.int .i64 r.2))]) [((1,0),some (.row 3 1 (dat (List.map eI r.1.States)))),((1,1),some (.row 170 1 (openRows cols_170 (List.map (eL eTMsg) r.1.Links)))),((1,2),some (.row 3 1 (dat (List.map eI r.1.Sent))))] := by
 unfold L_ref05_deliver at hD
 refine rc Try.func117 rfl Try.ntmps117 fun S Φ P0 wb ac h => ?_
 refine qs 6 [] [3,4,5,6] [(1,0),(2,0),(3,0),(4,0)] h fun ac wd h => ?_
 refine wp_seq ?_
 obtain ⟨e75,hE76,hD⟩ := Option.bind_eq_some_iff.1 hD
 refine r_seqJ (fun ac wd => ∃ (b74 : Bool),b74 = e75 ∧ SL ⟨wb,S,Φ,P0⟩ 101 18 [(3,.one (.ptr (1,0) 0)),(4,.one (.ptr (2,0) 0)),(5,.one (.ptr (3,0) 0)),(6,.one (.ptr (4,0) 0)),(24,.one (.d (.bool b74)))] [((1,0),some (.box 69 (cTApp a0))),((2,0),some (.box 101 (cTConf a1))),((3,0),some (.box 175 (cTStep a2))),((4,0),some (.box 101 [.nil,.nil,.nil]))] ac wd) ?_ ?_
 ·
  rcases i2 hE76 with ⟨hb77,hE76⟩ | ⟨hb77,hE76⟩
  ·
   refine qeg [] [none,none,none,none,some (some 16,false),some (some 16,false),some (some 16,false),some (some 16,false),some (some 16,false),some (some 16,false),some (some 16,false),none] [3,4,5,6,24] [(1,0),(2,0),(3,0),(4,0)] h fun ac wd h => ?_
   injection hE76 with hE76; subst hE76
   exact ⟨true,rfl,h.z⟩
  ·
   refine qeg [] [none,none,none,none,some (some 16,false),some (some 16,false),some (some 16,false),some (some 16,false),some (some 16,false),some (some 16,false),some (some 16,false),none] [3,4,5,6,24] [(1,0),(2,0),(3,0),(4,0)] h fun ac wd h => ?_
   injection hE76 with hE76; subst hE76
   exact ⟨decide (a2.Link ≥ (a0.G.Links.length : Int)),rfl,h.z⟩
 ·
  rintro ac wd ⟨b74,rfl,h⟩
  (try dsimp only at hD)
  rcases i2b hD with ⟨hb79,hD⟩ | ⟨hb79,hD⟩
  ·
   refine kT h ?_
   refine qs 21 [] [6,7] [(4,0)] h fun ac wd h => ?_
   refine wp_ret ?_
   have h := SL.bornB h (4,0) 0 3 1 (by simp only [EZ,simprocAttr, *] <;> rfl) (by simp only [EZ,simprocAttr, *] <;> rfl)
   have h := SL.bornB h (4,0) 1 170 1 (by simp only [EZ,simprocAttr, *] <;> rfl) (by simp only [EZ,simprocAttr, *] <;> rfl)
   have h := SL.bornB h (4,0) 2 3 1 (by simp only [EZ,simprocAttr, *] <;> rfl) (by simp only [EZ,simprocAttr, *] <;> rfl)
   have h := h.sw (1,0) (21,0) 24
   have h := h.sw (1,1) (22,0) 24
   have h := h.sw (1,2) (23,0) 24
   injection hD with hD
   subst hD
   exact rO h [.cell 6 101,.tmp 7] [(1,0),(1,1),(1,2)]
  ·
   refine kF h ?_
   refine wp_skip ?_
   change Code.wp Try.prog _ _ _ _
   obtain ⟨x82,hx83a,hx83b,hx83c,hx83d,hD⟩ := aB hD
   refine qs 25 [] [3,4,5,6,8] [(1,0),(2,0),(3,0),(4,0)] h fun ac wd h => ?_
   obtain ⟨r86,hc87,hD⟩ := oB hD
   have hc87k := L_ref05_Place_ok hc87
   refine qs 30 [factE 28 hc87k] [3,4,5,6,8,9] [(1,0),(2,0),(3,0),(4,0)] h fun ac wd h => ?_
   refine wp_seq ?_
   obtain ⟨e91,hE92,hD⟩ := Option.bind_eq_some_iff.1 hD
   refine r_seqJ (fun ac wd => ∃ (b90 : Bool),b90 = e91 ∧ SL ⟨wb,S,Φ,P0⟩ 101 40 [(3,.one (.ptr (1,0) 0)),(4,.one (.ptr (2,0) 0)),(5,.one (.ptr (3,0) 0)),(6,.one (.ptr (4,0) 0)),(8,.one (.d (.sl (List.map eTMsg x82)))),(9,.one (.d (.int .i64 r86))),(45,.one (.d (.bool b90)))] [((1,0),some (.box 69 (cTApp a0))),((2,0),some (.box 101 (cTConf a1))),((3,0),some (.box 175 (cTStep a2))),((4,0),some (.box 101 [.nil,.nil,.nil]))] ac wd) ?_ ?_
   ·
    rcases i2 hE92 with ⟨hb93,hE92⟩ | ⟨hb93,hE92⟩
    ·
     refine qeg [] [none,none,none,some (some 38,false),some (some 38,false),some (some 38,false),some (some 41,true),some (some 41,true),some (some 38,false),none] [3,4,5,6,8,9,45] [(1,0),(2,0),(3,0),(4,0)] h fun ac wd h => ?_
     injection hE92 with hE92; subst hE92
     exact ⟨true,rfl,h.z⟩
    ·
     rcases i2 hE92 with ⟨hb94,hE92⟩ | ⟨hb94,hE92⟩
     ·
      refine qeg [] [none,none,none,some (some 38,false),some (some 38,false),some (some 38,false),some (some 41,true),some (some 41,true),some (some 38,false),none] [3,4,5,6,8,9,45] [(1,0),(2,0),(3,0),(4,0)] h fun ac wd h => ?_
      injection hE92 with hE92; subst hE92
      exact ⟨a0.Fifo,rfl,h.z⟩
     ·
      refine qeg [] [none,none,none,some (some 38,false),some (some 38,false),some (some 38,false),some (some 41,true),some (some 41,true),some (some 38,false),none] [3,4,5,6,8,9,45] [(1,0),(2,0),(3,0),(4,0)] h fun ac wd h => ?_
      injection hE92 with hE92; subst hE92
      exact ⟨false,rfl,h.z⟩
   ·
    rintro ac wd ⟨b90,rfl,h⟩
    (try dsimp only at hD)
    rcases i2b hD with ⟨hb96,hD⟩ | ⟨hb96,hD⟩
    ·
     refine kT h ?_
     refine qs 43 [] [6,7] [(4,0)] h fun ac wd h => ?_
     refine wp_ret ?_
     have h := SL.bornB h (4,0) 0 3 1 (by simp only [EZ,simprocAttr, *] <;> rfl) (by simp only [EZ,simprocAttr, *] <;> rfl)
     have h := SL.bornB h (4,0) 1 170 1 (by simp only [EZ,simprocAttr, *] <;> rfl) (by simp only [EZ,simprocAttr, *] <;> rfl)
     have h := SL.bornB h (4,0) 2 3 1 (by simp only [EZ,simprocAttr, *] <;> rfl) (by simp only [EZ,simprocAttr, *] <;> rfl)
     have h := h.sw (1,0) (43,0) 46
     have h := h.sw (1,1) (44,0) 46
     have h := h.sw (1,2) (45,0) 46
     injection hD with hD
     subst hD
     exact rO h [.cell 6 101,.tmp 7] [(1,0),(1,1),(1,2)]
    ·
     refine kF h ?_
     refine wp_skip ?_
     change Code.wp Try.prog _ _ _ _
     obtain ⟨r99,hc100,hD⟩ := oB hD
     have hc100_41 := ((L_ref05_Own_own hc100).cls 41).z
     refine qs 44 [factO hc100_41] [3,4,5,6,8,9,10] [(1,0),(2,0),(3,0),(4,0),(41,0),(41,1),(41,2),(42,0)] h fun ac wd h => ?_
     obtain ⟨x103,hx104a,hx104b,hx104c,hx104d,hD⟩ := aB hD
     refine qs 53 [] [3,4,5,6,8,9,10,11] [(1,0),(2,0),(3,0),(4,0),(41,0),(41,1),(41,2),(42,0)] h fun ac wd h => ?_
     obtain ⟨x113,hx114a,hx114b,hx114c,hx114d,hD⟩ := aB hD
     obtain ⟨x115,hx116a,hx116b,hx116c,hx116d,hD⟩ := aB hD
     obtain ⟨r117,hc118,hD⟩ := oB hD
     obtain ⟨x119,hx120a,hx120b,hx120c,hx120d,hD⟩ := aB hD
     have hc118k := L_ref04_Taken_ok hc118
     refine ds 80 [factE 77 hc118k] [5,6,8,9,10] [(3,0),(4,0),(41,0),(41,1),(41,2),(42,0)] h fun ac wd h => ?_
     obtain ⟨ha126,hD⟩ := iT hD
     obtain ⟨ha127,hD⟩ := iT hD
     obtain ⟨v128,hv129,hD⟩ := vB hD
     obtain ⟨ha130,hD⟩ := iT hD
     refine qs 86 [] [5,6,8,9,10,12] [(3,0),(4,0),(41,0),(41,1),(41,2),(42,0),(84,0)] h fun ac wd h => ?_
     obtain ⟨ha136,hD⟩ := iT hD
     obtain ⟨ha137,hD⟩ := iT hD
     obtain ⟨v138,hv139,hD⟩ := vB hD
     obtain ⟨ha140,hD⟩ := iT hD
     refine qs 93 [] [5,6,10,12] [(3,0),(4,0),(41,0),(41,1),(41,2),(42,0),(91,0)] h fun ac wd h => ?_
     obtain ⟨x143,hx144a,hx144b,hx144c,hx144d,hD⟩ := aB hD
     refine qs 100 [] [6,10] [(4,0),(41,0),(41,1),(41,2),(42,0),(91,0)] h fun ac wd h => ?_
     have h := h.fS (cols := (fun _ => .sc)) (41,1) (91,0) (openRows cols_170 (List.map (eL eTMsg) r99.Links)) a2.Link.toNat [.own (91,0) (v128.length + v138.length)] 0 (List.map eTMsg (v128 ++ v138)) (sc_59 _)
     have h := h.sm 100 [(6,.one (.ptr (4,0) 0)),(10,.one (.ptr (42,0) 0))]
      [((4,0),some (.box 101 [.nil,.nil,.nil])),((41,0),some (.row 3 1 (dat (List.map eI (r99.States.set x103.a1.toNat r117))))),((41,1),some (.row 170 1 ((openRows cols_170 (List.map (eL eTMsg) r99.Links)).set a2.Link.toNat [.tr (.sl 59 2 (fun _ => .sc)) (.sl (List.map eTMsg (v128 ++ v138)))]))),((41,2),some (.row 3 1 (dat (List.map eI r99.Sent)))),((42,0),some (.box 101 [.own (41,0) r99.States.length,.own (41,1) r99.Links.length,.own (41,2) r99.Sent.length]))]
     refine qs 103 [] [6,7] [(4,0),(41,0),(41,1),(41,2)] h fun ac wd h => ?_
     refine wp_ret ?_
     have h := h.sw (1,0) (41,0) 103
     have h := h.sw (1,1) (41,1) 103
     have h := h.sw (1,2) (41,2) 103
     injection hD with hD
     subst hD
     exact rO h [.cell 6 101,.tmp 7] [(1,0),(1,1),(1,2)]
theorem L_ref05_deliver_ok {a0 : TApp} {a1 : TConf} {a2 : TStep} {r : TConf × Int} (hD : L_ref05_deliver a0 a1 a2 = some r) :
  CallH Try.prog 117 [.agg (cTApp a0),.agg (cTConf a1),.agg (cTStep a2)] []
   (.tup [.inl [.d (.sl (List.map eI r.1.States)),.d (.sl (List.map (eL eTMsg) r.1.Links)),.d (.sl (List.map eI r.1.Sent))],.inr (.d (.int .i64 r.2))]) [] :=
 (L_ref05_deliver_own hD).fr

theorem L_ref05_Apply_own {a0 : TApp} {a1 : TConf} {a2 : TStep} {r : TConf × Int} (hD : L_ref05_Apply a0 a1 a2 = some r) :
  CallH Try.prog 87 [.agg (cTApp a0),.agg (cTConf a1),.agg (cTStep a2)] []
   (.tup [.inl [.own (1,0) r.1.States.length,.own (1,1) r.1.Links.length,.own (1,2) r.1.Sent.length],.inr (.d (.int .i64 r.2))]) [((1,0),some (.row 3 1 (dat (List.map eI r.1.States)))),((1,1),some (.row 170 1 (openRows cols_170 (List.map (eL eTMsg) r.1.Links)))),((1,2),some (.row 3 1 (dat (List.map eI r.1.Sent))))] := by
 unfold L_ref05_Apply at hD
 refine rc Try.func87 rfl Try.ntmps87 fun S Φ P0 wb ac h => ?_
 refine qs 6 [] [3,4,5,6] [(1,0),(2,0),(3,0),(4,0)] h fun ac wd h => ?_
 refine wp_seq ?_
 refine qs 9 [] [3,4,5,6,10] [(1,0),(2,0),(3,0),(4,0)] h fun ac wd h => ?_
 rcases i2e hD with ⟨hb26,hD⟩ | ⟨hb26,hD⟩
 ·
  refine kT h ?_
  obtain ⟨r29,hc30,hD⟩ := oB hD
  have hc30_12 := ((L_ref05_pick_own hc30).cls 12).z
  refine qs 17 [factO hc30_12] [6,7] [(4,0),(12,0),(12,1),(12,2)] h fun ac wd h => ?_
  refine wp_ret ?_
  have h := h.sw (1,0) (12,0) 17
  have h := h.sw (1,1) (12,1) 17
  have h := h.sw (1,2) (12,2) 17
  injection hD with hD
  subst hD
  exact rO h [.cell 6 101,.tmp 7] [(1,0),(1,1),(1,2)]
 ·
  refine kF h ?_
  refine wp_skip ?_
  change Code.wp Try.prog _ _ _ _
  refine wp_seq ?_
  refine qs 12 [] [3,4,5,6,19] [(1,0),(2,0),(3,0),(4,0)] h fun ac wd h => ?_
  rcases i2e hD with ⟨hb36,hD⟩ | ⟨hb36,hD⟩
  ·
   refine kT h ?_
   obtain ⟨r39,hc40,hD⟩ := oB hD
   have hc40_15 := ((L_ref05_deliver_own hc40).cls 15).z
   refine qs 20 [factO hc40_15] [6,7] [(4,0),(15,0),(15,1),(15,2)] h fun ac wd h => ?_
   refine wp_ret ?_
   have h := h.sw (1,0) (15,0) 20
   have h := h.sw (1,1) (15,1) 20
   have h := h.sw (1,2) (15,2) 20
   injection hD with hD
   subst hD
   exact rO h [.cell 6 101,.tmp 7] [(1,0),(1,1),(1,2)]
  ·
   refine kF h ?_
   refine wp_skip ?_
   change Code.wp Try.prog _ _ _ _
   refine qs 15 [] [6,7] [(4,0)] h fun ac wd h => ?_
   refine wp_ret ?_
   have h := SL.bornB h (4,0) 0 3 1 (by simp only [EZ,simprocAttr, *] <;> rfl) (by simp only [EZ,simprocAttr, *] <;> rfl)
   have h := SL.bornB h (4,0) 1 170 1 (by simp only [EZ,simprocAttr, *] <;> rfl) (by simp only [EZ,simprocAttr, *] <;> rfl)
   have h := SL.bornB h (4,0) 2 3 1 (by simp only [EZ,simprocAttr, *] <;> rfl) (by simp only [EZ,simprocAttr, *] <;> rfl)
   have h := h.sw (1,0) (15,0) 18
   have h := h.sw (1,1) (16,0) 18
   have h := h.sw (1,2) (17,0) 18
   injection hD with hD
   subst hD
   exact rO h [.cell 6 101,.tmp 7] [(1,0),(1,1),(1,2)]
theorem L_ref05_Apply_ok {a0 : TApp} {a1 : TConf} {a2 : TStep} {r : TConf × Int} (hD : L_ref05_Apply a0 a1 a2 = some r) :
  CallH Try.prog 87 [.agg (cTApp a0),.agg (cTConf a1),.agg (cTStep a2)] []
   (.tup [.inl [.d (.sl (List.map eI r.1.States)),.d (.sl (List.map (eL eTMsg) r.1.Links)),.d (.sl (List.map eI r.1.Sent))],.inr (.d (.int .i64 r.2))]) [] :=
 (L_ref05_Apply_own hD).fr

theorem L_law17_doable_own {a0 : TApp} {a1 : TConf} {a2 : (List TStep)} {a3 : Int} {r : (List TStep)} (hD : L_law17_doable a0 a1 a2 a3 = some r) :
  CallH Try.prog 37 [.agg (cTApp a0),.agg (cTConf a1),.one (.d (.sl (List.map eTStep a2))),.one (.d (.int .i64 a3))] []
   (.one (.own (1,0) r.length)) [((1,0),some (.row 125 5 (dat (List.map eTStep r))))] := by
 unfold L_law17_doable at hD
 refine rc Try.func37 rfl Try.ntmps37 fun S Φ P0 wb ac h => ?_
 refine qs 4 [] [2,3,4,5] [(1,0),(2,0)] h fun ac wd h => ?_
 obtain ⟨r258,hc259,hD⟩ := oB hD
 obtain ⟨r260,hc261,hD⟩ := oB hD
 have hc259k := L_law05_App_ok hc259
 have hc261k := L_law05_Ref_ok hc261
 refine ds 14 [factE 5 hc259k,factE 7 hc261k] [2,3,9,10,11] [(8,0),(9,0),(10,0)] h fun ac wd h => ?_
 refine wp_seq ?_
 refine qs 15 [] [2,3,9,10,11,12] [(8,0),(9,0),(10,0)] h fun ac wd h => ?_
 refine wp_block ?_
 refine r_while (fun nf ac wd => ∃ (n462 : Int) (m463 : TConf) (l464 : List TStep),L_law17_doable_l1 a2 a3 r258 nf n462 m463 l464 = some r ∧ SL ⟨wb,S,Φ,P0⟩ 53 91 [(2,.one (.d (.sl (List.map eTStep a2)))),(3,.one (.d (.int .i64 a3))),(9,.one (.ptr (9,0) 0)),(10,.one (.ptr (10,0) 0)),(11,.one (.own (8,0) l464.length)),(12,.one (.d (.int .i64 n462)))] [((8,0),some (.row 125 5 (dat (List.map eTStep l464)))),((9,0),some (.box 69 [.d (.int .i64 r258.G.N),.d (.sl (List.map eA2I r258.G.Links)),.d (.sl (List.map eTNode r258.T)),.d (.bool r258.Fifo)])),((10,0),some (.box 101 (cTConf m463)))] ac wd) (((a2.length : Int) - 0).toNat + 1) ⟨0,r260,([] : List TStep),hD,h.z⟩ (fun nf ac wd hJ => ?_)
 obtain ⟨n462,m463,l464,hL465,h⟩ := hJ
 cases nf with
 | zero => rw [L_law17_doable_l1] at hL465; cases hL465
 | succ nf =>
  rw [L_law17_doable_l1] at hL465
  refine wp_seq ?_
  obtain ⟨e468,hE469,hL465⟩ := Option.bind_eq_some_iff.1 hL465
  refine r_seqJ (fun ac wd => ∃ (b467 : Bool),b467 = e468 ∧ SL ⟨wb,S,Φ,P0⟩ 53 100 [(2,.one (.d (.sl (List.map eTStep a2)))),(3,.one (.d (.int .i64 a3))),(9,.one (.ptr (9,0) 0)),(10,.one (.ptr (10,0) 0)),(11,.one (.own (8,0) l464.length)),(12,.one (.d (.int .i64 n462))),(28,.one (.d (.bool b467)))] [((8,0),some (.row 125 5 (dat (List.map eTStep l464)))),((9,0),some (.box 69 [.d (.int .i64 r258.G.N),.d (.sl (List.map eA2I r258.G.Links)),.d (.sl (List.map eTNode r258.T)),.d (.bool r258.Fifo)])),((10,0),some (.box 101 (cTConf m463)))] ac wd) ?_ ?_
  ·
   rcases i2 hE469 with ⟨hb470,hE469⟩ | ⟨hb470,hE469⟩
   ·
    refine qeg [] [none,none,none,none,none,some (some 24,true),some (some 24,true),some (some 24,true),none] [2,3,9,10,11,12,28] [(8,0),(9,0),(10,0)] h fun ac wd h => ?_
    injection hE469 with hE469; subst hE469
    exact ⟨decide (n462 < a3),rfl,h.z⟩
   ·
    refine qeg [] [none,none,none,none,none,some (some 24,true),some (some 24,true),some (some 24,true),none] [2,3,9,10,11,12,28] [(8,0),(9,0),(10,0)] h fun ac wd h => ?_
    injection hE469 with hE469; subst hE469
    exact ⟨false,rfl,h.z⟩
  ·
   rintro ac wd ⟨b467,rfl,h⟩
   (try dsimp only at hL465)
   rcases i2b hL465 with ⟨hb472,hL465⟩ | ⟨hb472,hL465⟩
   ·
    refine kT h ?_
    refine wp_skip ?_
    change Code.wp Try.prog _ _ _ _
    obtain ⟨e489,hE490,hL465⟩ := Option.bind_eq_some_iff.1 hL465
    refine r_seqJ (fun ac wd => ∃ (m487 : TConf) (l488 : List TStep),(m487,l488) = e489 ∧ SL ⟨wb,S,Φ,P0⟩ 53 126 [(2,.one (.d (.sl (List.map eTStep a2)))),(3,.one (.d (.int .i64 a3))),(9,.one (.ptr (9,0) 0)),(10,.one (.ptr (10,0) 0)),(11,.one (.own (124,0) l488.length)),(12,.one (.d (.int .i64 n462)))] [((9,0),some (.box 69 [.d (.int .i64 r258.G.N),.d (.sl (List.map eA2I r258.G.Links)),.d (.sl (List.map eTNode r258.T)),.d (.bool r258.Fifo)])),((10,0),some (.box 101 (cTConf m487))),((124,0),some (.row 125 5 (dat (List.map eTStep l488))))] ac wd) ?_ ?_
    ·
     refine wp_block ?_
     obtain ⟨x497,hx498a,hx498b,hx498c,hx498d,hE490⟩ := aB hE490
     obtain ⟨r499,hc500,hE490⟩ := oB hE490
     obtain ⟨r501,hc502,hE490⟩ := oB hE490
     have hc500k := L_law05_Step_ok hc500
     have hc502k := L_ref05_Apply_ok hc502
     refine ds 114 [factE 106 hc500k,factE 107 hc502k] [2,3,9,10,11,12,13,14] [(8,0),(9,0),(10,0),(111,0)] h fun ac wd h => ?_
     refine qs 116 [] [2,3,9,10,11,12,13,43] [(8,0),(9,0),(10,0),(111,0)] h fun ac wd h => ?_
     rcases i2e hE490 with ⟨hb503,hE490⟩ | ⟨hb503,hE490⟩
     ·
      refine kT h ?_
      refine qs 118 [] [2,3,9,10,11,12] [(8,0),(9,0),(10,0)] h fun ac wd h => ?_
      obtain ⟨ha504,hE490⟩ := iT hE490
      refine qe [] [2,3,9,10,11,12] [(9,0),(10,0),(124,0)] h fun ac wd h => ?_
      injection hE490 with hE490; subst hE490
      exact ⟨r501.1,(l464 ++ [x497]),rfl,h.z⟩
     ·
      refine kF h ?_
      refine wp_skip ?_
      have h := h.sw (124,0) (8,0) 126
      injection hE490 with hE490; subst hE490
      exact ⟨m463,l464,rfl,h.z⟩
    ·
     rintro ac wd ⟨m487,l488,rfl,h⟩
     (try dsimp only at hL465)
     refine qe [] [2,3,9,10,11,12] [(9,0),(10,0),(124,0)] h fun ac wd h => ?_
     have h := h.sw (8,0) (124,0) 129
     exact ⟨nf,Nat.lt_succ_self nf,(IntKind.wrap .i64 (n462 + 1)),m487,l488,hL465,h.z⟩
   ·
    refine kF h ?_
    refine wp_exit ?_
    change Code.wp Try.prog _ _ _ _
    refine qs 102 [] [8] [(8,0)] h fun ac wd h => ?_
    refine wp_ret ?_
    have h := h.sw (1,0) (8,0) 102
    injection hL465 with hL465
    subst hL465
    exact rO h [.tmp 8] [(1,0)]
theorem L_law17_doable_ok {a0 : TApp} {a1 : TConf} {a2 : (List TStep)} {a3 : Int} {r : (List TStep)} (hD : L_law17_doable a0 a1 a2 a3 = some r) :
  CallH Try.prog 37 [.agg (cTApp a0),.agg (cTConf a1),.one (.d (.sl (List.map eTStep a2))),.one (.d (.int .i64 a3))] []
   (.one (.d (.sl (List.map eTStep r)))) [] :=
 (L_law17_doable_own hD).fr

theorem L_ref17_Where_ok {a0 : TGraph} {a1 : TStep} {r : Int} (hD : L_ref17_Where a0 a1 = some r) :
  CallH Try.prog 91 [.agg (cTGraph a0),.agg (cTStep a1)] []
   (.one (.d (.int .i64 r))) [] := by
 unfold L_ref17_Where at hD
 refine rc Try.func91 rfl Try.ntmps91 fun S Φ P0 wb ac h => ?_
 refine qs 4 [] [2,3] [(1,0),(2,0)] h fun ac wd h => ?_
 refine wp_seq ?_
 obtain ⟨e30,hE31,hD⟩ := Option.bind_eq_some_iff.1 hD
 refine r_seqJ (fun ac wd => ∃ (b29 : Bool),b29 = e30 ∧ SL ⟨wb,S,Φ,P0⟩ 45 19 [(2,.one (.ptr (1,0) 0)),(3,.one (.ptr (2,0) 0)),(19,.one (.d (.bool b29)))] [((1,0),some (.box 32 (cTGraph a0))),((2,0),some (.box 175 (cTStep a1)))] ac wd) ?_ ?_
 ·
  rcases i2e hE31 with ⟨hb32,hE31⟩ | ⟨hb32,hE31⟩
  ·
   rcases i2 hE31 with ⟨hb33,hE31⟩ | ⟨hb33,hE31⟩
   ·
    refine qeg [] [none,none,none,none,some (some 8,true),some (some 8,true),some (some 8,true),none,none,some (some 13,true),some (some 13,true),some (some 13,true),some (some 13,true),some (some 13,true),none] [2,3,19] [(1,0),(2,0)] h fun ac wd h => ?_
    injection hE31 with hE31; subst hE31
    exact ⟨decide (a1.Node < a0.N),rfl,h.z⟩
   ·
    refine qeg [] [none,none,none,none,some (some 8,true),some (some 8,true),some (some 8,true),none,none,some (some 13,true),some (some 13,true),some (some 13,true),some (some 13,true),some (some 13,true),none] [2,3,19] [(1,0),(2,0)] h fun ac wd h => ?_
    injection hE31 with hE31; subst hE31
    exact ⟨false,rfl,h.z⟩
  ·
   refine qeg [] [none,none,none,none,some (some 8,true),some (some 8,true),some (some 8,true),none,none,some (some 13,true),some (some 13,true),some (some 13,true),some (some 13,true),some (some 13,true),none] [2,3,19] [(1,0),(2,0)] h fun ac wd h => ?_
   injection hE31 with hE31; subst hE31
   exact ⟨false,rfl,h.z⟩
 ·
  rintro ac wd ⟨b29,rfl,h⟩
  (try dsimp only at hD)
  rcases i2b hD with ⟨hb35,hD⟩ | ⟨hb35,hD⟩
  ·
   refine kT h ?_
   refine qs 22 [] [4] [] h fun ac wd h => ?_
   refine wp_ret ?_
   injection hD with hD
   subst hD
   exact rE h [.tmp 4]
  ·
   refine kF h ?_
   refine wp_skip ?_
   change Code.wp Try.prog _ _ _ _
   refine wp_seq ?_
   obtain ⟨e39,hE40,hD⟩ := Option.bind_eq_some_iff.1 hD
   refine r_seqJ (fun ac wd => ∃ (b38 : Bool),b38 = e39 ∧ SL ⟨wb,S,Φ,P0⟩ 45 35 [(2,.one (.ptr (1,0) 0)),(3,.one (.ptr (2,0) 0)),(37,.one (.d (.bool b38)))] [((1,0),some (.box 32 (cTGraph a0))),((2,0),some (.box 175 (cTStep a1)))] ac wd) ?_ ?_
   ·
    rcases i2e hE40 with ⟨hb41,hE40⟩ | ⟨hb41,hE40⟩
    ·
     rcases i2 hE40 with ⟨hb42,hE40⟩ | ⟨hb42,hE40⟩
     ·
      refine qeg [] [none,none,none,none,some (some 25,true),some (some 25,true),some (some 25,true),none,none,some (some 30,true),some (some 30,true),some (some 30,true),some (some 30,true),some (some 30,true),some (some 30,true),none] [2,3,37] [(1,0),(2,0)] h fun ac wd h => ?_
      injection hE40 with hE40; subst hE40
      exact ⟨decide (a1.Link < (a0.Links.length : Int)),rfl,h.z⟩
     ·
      refine qeg [] [none,none,none,none,some (some 25,true),some (some 25,true),some (some 25,true),none,none,some (some 30,true),some (some 30,true),some (some 30,true),some (some 30,true),some (some 30,true),some (some 30,true),none] [2,3,37] [(1,0),(2,0)] h fun ac wd h => ?_
      injection hE40 with hE40; subst hE40
      exact ⟨false,rfl,h.z⟩
    ·
     refine qeg [] [none,none,none,none,some (some 25,true),some (some 25,true),some (some 25,true),none,none,some (some 30,true),some (some 30,true),some (some 30,true),some (some 30,true),some (some 30,true),some (some 30,true),none] [2,3,37] [(1,0),(2,0)] h fun ac wd h => ?_
     injection hE40 with hE40; subst hE40
     exact ⟨false,rfl,h.z⟩
   ·
    rintro ac wd ⟨b38,rfl,h⟩
    (try dsimp only at hD)
    rcases i2b hD with ⟨hb48,hD⟩ | ⟨hb48,hD⟩
    ·
     refine kT h ?_
     obtain ⟨x51,hx52a,hx52b,hx52c,hx52d,hD⟩ := aB hD
     refine qs 43 [] [4] [] h fun ac wd h => ?_
     refine wp_ret ?_
     injection hD with hD
     subst hD
     exact rE h [.tmp 4]
    ·
     refine kF h ?_
     refine wp_skip ?_
     change Code.wp Try.prog _ _ _ _
     refine qs 36 [] [4] [] h fun ac wd h => ?_
     refine wp_ret ?_
     injection hD with hD
     subst hD
     exact rE h [.tmp 4]

theorem L_ref17_Counts_own {a0 : TGraph} {a1 : (List TStep)} {r : (List Int)} (hD : L_ref17_Counts a0 a1 = some r) :
  CallH Try.prog 41 [.agg (cTGraph a0),.one (.d (.sl (List.map eTStep a1)))] []
   (.one (.own (1,0) r.length)) [((1,0),some (.row 3 1 (dat (List.map eI r))))] := by
 unfold L_ref17_Counts at hD
 refine rc Try.func41 rfl Try.ntmps41 fun S Φ P0 wb ac h => ?_
 refine qs 3 [] [1,2] [(1,0)] h fun ac wd h => ?_
 obtain ⟨ha191,hD⟩ := iT hD
 obtain ⟨ha192,hD⟩ := iT hD
 obtain ⟨ha193,hD⟩ := iT hD
 refine qs 7 [] [1,2,5] [(1,0),(5,0)] h fun ac wd h => ?_
 refine wp_seq ?_
 refine qs 8 [] [1,2,5,6] [(1,0),(5,0)] h fun ac wd h => ?_
 refine wp_block ?_
 refine r_while (fun nf ac wd => ∃ (n343 : Int) (l344 : List Int),L_ref17_Counts_l1 a0 a1 nf n343 l344 = some r ∧ SL ⟨wb,S,Φ,P0⟩ 34 58 [(1,.one (.d (.sl (List.map eTStep a1)))),(2,.one (.ptr (1,0) 0)),(5,.one (.own (5,0) l344.length)),(6,.one (.d (.int .i64 n343)))] [((1,0),some (.box 32 (cTGraph a0))),((5,0),some (.row 3 1 (dat (List.map eI l344))))] ac wd) (((a1.length : Int) - 0).toNat + 1) ⟨0,(List.replicate a0.N.toNat 0),hD,h.z⟩ (fun nf ac wd hJ => ?_)
 obtain ⟨n343,l344,hL345,h⟩ := hJ
 cases nf with
 | zero => rw [L_ref17_Counts_l1] at hL345; cases hL345
 | succ nf =>
  rw [L_ref17_Counts_l1] at hL345
  refine wp_seq ?_
  refine qs 62 [] [1,2,5,6,14] [(1,0),(5,0)] h fun ac wd h => ?_
  rcases i2 hL345 with ⟨hb347,hL345⟩ | ⟨hb347,hL345⟩
  ·
   refine kT h ?_
   refine wp_skip ?_
   change Code.wp Try.prog _ _ _ _
   obtain ⟨e360,hE361,hL345⟩ := Option.bind_eq_some_iff.1 hL345
   refine r_seqJ (fun ac wd => ∃ (l359 : List Int),l359 = e360 ∧ SL ⟨wb,S,Φ,P0⟩ 34 80 [(1,.one (.d (.sl (List.map eTStep a1)))),(2,.one (.ptr (1,0) 0)),(5,.one (.own (5,0) l359.length)),(6,.one (.d (.int .i64 n343)))] [((1,0),some (.box 32 (cTGraph a0))),((5,0),some (.row 3 1 (dat (List.map eI l359))))] ac wd) ?_ ?_
   ·
    refine wp_block ?_
    obtain ⟨x366,hx367a,hx367b,hx367c,hx367d,hE361⟩ := aB hE361
    obtain ⟨r368,hc369,hE361⟩ := oB hE361
    have hc369k := L_ref17_Where_ok hc369
    refine ds 69 [factE 67 hc369k] [1,2,5,6,7] [(1,0),(5,0)] h fun ac wd h => ?_
    refine qs 71 [] [1,2,5,6,7,24] [(1,0),(5,0)] h fun ac wd h => ?_
    rcases i2 hE361 with ⟨hb370,hE361⟩ | ⟨hb370,hE361⟩
    ·
     refine kT h ?_
     obtain ⟨x371,hx372a,hx372b,hx372c,hx372d,hE361⟩ := aB hE361
     refine qe [] [1,2,5,6] [(1,0),(5,0)] h fun ac wd h => ?_
     injection hE361 with hE361; subst hE361
     exact ⟨(l344.set r368.toNat (IntKind.wrap .i64 (x371 + 1))),rfl,h.z⟩
    ·
     refine kF h ?_
     refine wp_skip ?_
     injection hE361 with hE361; subst hE361
     exact ⟨l344,rfl,h.z⟩
   ·
    rintro ac wd ⟨l359,rfl,h⟩
    (try dsimp only at hL345)
    refine qe [] [1,2,5,6] [(1,0),(5,0)] h fun ac wd h => ?_
    exact ⟨nf,Nat.lt_succ_self nf,(IntKind.wrap .i64 (n343 + 1)),l359,hL345,h.z⟩
  ·
   refine kF h ?_
   refine wp_exit ?_
   change Code.wp Try.prog _ _ _ _
   refine qs 64 [] [4] [(5,0)] h fun ac wd h => ?_
   refine wp_ret ?_
   have h := h.sw (1,0) (5,0) 64
   injection hL345 with hL345
   subst hL345
   exact rO h [.tmp 4] [(1,0)]
theorem L_ref17_Counts_ok {a0 : TGraph} {a1 : (List TStep)} {r : (List Int)} (hD : L_ref17_Counts a0 a1 = some r) :
  CallH Try.prog 41 [.agg (cTGraph a0),.one (.d (.sl (List.map eTStep a1)))] []
   (.one (.d (.sl (List.map eI r)))) [] :=
 (L_ref17_Counts_own hD).fr

theorem L_law05_CutConf_own {a0 : TConf} {r : TConf} (hD : L_law05_CutConf a0 = some r) :
  CallH Try.prog 44 [.agg (cTConf a0)] []
   (.agg [.own (1,0) r.States.length,.own (1,1) r.Links.length,.own (1,2) r.Sent.length]) [((1,0),some (.row 3 1 (dat (List.map eI r.States)))),((1,1),some (.row 170 1 (openRows cols_170 (List.map (eL eTMsg) r.Links)))),((1,2),some (.row 3 1 (dat (List.map eI r.Sent))))] := by
 unfold L_law05_CutConf at hD
 refine rc Try.func44 rfl Try.ntmps44 fun S Φ P0 wb ac h => ?_
 refine qs 3 [] [1,2] [(1,0),(2,0)] h fun ac wd h => ?_
 obtain ⟨ha180,hD⟩ := iT hD
 obtain ⟨ha181,hD⟩ := iT hD
 obtain ⟨v182,hv183,hD⟩ := vB hD
 obtain ⟨ha184,hD⟩ := iT hD
 obtain ⟨ha185,hD⟩ := iT hD
 obtain ⟨ha186,hD⟩ := iT hD
 obtain ⟨v187,hv188,hD⟩ := vB hD
 obtain ⟨ha189,hD⟩ := iT hD
 refine ds 24 [] [1,2,3] [(1,0),(2,0),(11,0),(20,0),(22,0)] h fun ac wd h => ?_
 refine wp_seq ?_
 refine qs 25 [] [1,2,3,4] [(1,0),(2,0),(11,0),(20,0),(22,0)] h fun ac wd h => ?_
 refine wp_block ?_
 have h := SL.bornB h (22,0) 1 170 1 (by simp only [EZ,simprocAttr, *] <;> rfl) (by simp only [EZ,simprocAttr, *] <;> rfl)
 refine r_while (fun nf ac wd => ∃ (n311 : Int) (l312 : List (List TMsg)),L_law05_CutConf_l1 a0 v182 v187 nf n311 l312 = some r ∧ SL ⟨wb,S,Φ,P0⟩ 56 91 [(1,.one (.ptr (1,0) 0)),(2,.one (.ptr (2,0) 0)),(3,.one (.ptr (22,0) 0)),(4,.one (.d (.int .i64 n311)))] [((1,0),some (.box 104 (cTConf a0))),((2,0),some (.box 104 [.nil,.nil,.nil])),((11,0),some (.row 3 1 (dat (List.map eI v182)))),((20,0),some (.row 3 1 (dat (List.map eI v187)))),((22,0),some (.box 104 [.own (11,0) v182.length,.own (25,0) l312.length,.own (20,0) v187.length])),((25,0),some (.row 170 1 (openRows cols_170 (List.map (eL eTMsg) l312))))] ac wd) (((a0.Links.length : Int) - 0).toNat + 1) ⟨0,([] : List (List TMsg)),hD,h.z⟩ (fun nf ac wd hJ => ?_)
 obtain ⟨n311,l312,hL313,h⟩ := hJ
 cases nf with
 | zero => rw [L_law05_CutConf_l1] at hL313; cases hL313
 | succ nf =>
  rw [L_law05_CutConf_l1] at hL313
  refine wp_seq ?_
  obtain ⟨e316,hE317,hL313⟩ := Option.bind_eq_some_iff.1 hL313
  refine r_seqJ (fun ac wd => ∃ (b315 : Bool),b315 = e316 ∧ SL ⟨wb,S,Φ,P0⟩ 56 100 [(1,.one (.ptr (1,0) 0)),(2,.one (.ptr (2,0) 0)),(3,.one (.ptr (22,0) 0)),(4,.one (.d (.int .i64 n311))),(32,.one (.d (.bool b315)))] [((1,0),some (.box 104 (cTConf a0))),((2,0),some (.box 104 [.nil,.nil,.nil])),((11,0),some (.row 3 1 (dat (List.map eI v182)))),((20,0),some (.row 3 1 (dat (List.map eI v187)))),((22,0),some (.box 104 [.own (11,0) v182.length,.own (25,0) l312.length,.own (20,0) v187.length])),((25,0),some (.row 170 1 (openRows cols_170 (List.map (eL eTMsg) l312))))] ac wd) ?_ ?_
  ·
   rcases i2 hE317 with ⟨hb318,hE317⟩ | ⟨hb318,hE317⟩
   ·
    refine qeg [] [none,none,none,none,none,none,some (some 29,true),some (some 29,true),none] [1,2,3,4,32] [(1,0),(2,0),(11,0),(20,0),(22,0),(25,0)] h fun ac wd h => ?_
    injection hE317 with hE317; subst hE317
    exact ⟨decide (n311 < 40),rfl,h.z⟩
   ·
    refine qeg [] [none,none,none,none,none,none,some (some 29,true),some (some 29,true),none] [1,2,3,4,32] [(1,0),(2,0),(11,0),(20,0),(22,0),(25,0)] h fun ac wd h => ?_
    injection hE317 with hE317; subst hE317
    exact ⟨false,rfl,h.z⟩
  ·
   rintro ac wd ⟨b315,rfl,h⟩
   (try dsimp only at hL313)
   rcases i2b hL313 with ⟨hb320,hL313⟩ | ⟨hb320,hL313⟩
   ·
    refine kT h ?_
    refine wp_skip ?_
    change Code.wp Try.prog _ _ _ _
    refine wp_seq ?_
    refine wp_block ?_
    obtain ⟨x329,hx330a,hx330b,hx330c,hx330d,hL313⟩ := aB hL313
    obtain ⟨ha331,hL313⟩ := iT hL313
    obtain ⟨ha332,hL313⟩ := iT hL313
    obtain ⟨v333,hv334,hL313⟩ := vB hL313
    obtain ⟨ha335,hL313⟩ := iT hL313
    obtain ⟨ha336,hL313⟩ := iT hL313
    refine de [] [1,2,3,4] [(1,0),(2,0),(11,0),(20,0),(22,0),(116,0),(118,0)] h fun ac wd h => ?_
    have h := h.fL (cols := (fun _ => .sc)) (118,0) (116,0) (openRows cols_170 (List.map (eL eTMsg) l312)) [.own (116,0) v333.length] 0 (List.map eTMsg v333) (sc_59 _)
    have h := h.sm 121 [(1,.one (.ptr (1,0) 0)),(2,.one (.ptr (2,0) 0)),(3,.one (.ptr (22,0) 0)),(4,.one (.d (.int .i64 n311)))]
     [((1,0),some (.box 104 (cTConf a0))),((2,0),some (.box 104 [.nil,.nil,.nil])),((11,0),some (.row 3 1 (dat (List.map eI v182)))),((20,0),some (.row 3 1 (dat (List.map eI v187)))),((22,0),some (.box 104 [.own (11,0) v182.length,.own (118,0) (l312.length + 1),.own (20,0) v187.length])),((118,0),some (.row 170 1 ((openRows cols_170 (List.map (eL eTMsg) l312) ++ [[.tr (.sl 59 2 (fun _ => .sc)) (.sl (List.map eTMsg v333))]]))))]
    change Code.wp Try.prog _ _ _ _
    refine qe [] [1,2,3,4] [(1,0),(2,0),(11,0),(20,0),(22,0),(118,0)] h fun ac wd h => ?_
    have h := h.sw (25,0) (118,0) 124
    exact ⟨nf,Nat.lt_succ_self nf,(IntKind.wrap .i64 (n311 + 1)),(l312 ++ [v333]),hL313,h.z⟩
   ·
    refine kF h ?_
    refine wp_exit ?_
    change Code.wp Try.prog _ _ _ _
    refine qs 102 [] [2] [(2,0),(11,0),(20,0),(25,0)] h fun ac wd h => ?_
    refine wp_ret ?_
    have h := h.sw (1,0) (11,0) 102
    have h := h.sw (1,1) (25,0) 102
    have h := h.sw (1,2) (20,0) 102
    injection hL313 with hL313
    subst hL313
    exact rO h [.cell 2 104] [(1,0),(1,1),(1,2)]
theorem L_law05_CutConf_ok {a0 : TConf} {r : TConf} (hD : L_law05_CutConf a0 = some r) :
  CallH Try.prog 44 [.agg (cTConf a0)] []
   (.agg [.d (.sl (List.map eI r.States)),.d (.sl (List.map (eL eTMsg) r.Links)),.d (.sl (List.map eI r.Sent))]) [] :=
 (L_law05_CutConf_own hD).fr

theorem L_plain_Run_own {a0 : TApp} {a1 : TConf} {a2 : (List TStep)} {r : TConf × Int × Int} (hD : L_plain_Run a0 a1 a2 = some r) :
  CallH Try.prog 47 [.agg (cTApp a0),.agg (cTConf a1),.one (.d (.sl (List.map eTStep a2)))] []
   (.tup [.inl [.own (1,0) r.1.States.length,.own (1,1) r.1.Links.length,.own (1,2) r.1.Sent.length],.inr (.d (.int .i64 r.2.1)),.inr (.d (.int .i64 r.2.2))]) [((1,0),some (.row 3 1 (dat (List.map eI r.1.States)))),((1,1),some (.row 170 1 (openRows cols_170 (List.map (eL eTMsg) r.1.Links)))),((1,2),some (.row 3 1 (dat (List.map eI r.1.Sent))))] := by
 unfold L_plain_Run at hD
 refine rc Try.func47 rfl Try.ntmps47 fun S Φ P0 wb ac h => ?_
 refine qs 6 [] [2,3,4,6] [(1,0),(2,0),(3,0)] h fun ac wd h => ?_
 obtain ⟨r161,hc162,hD⟩ := oB hD
 have hc162_7 := ((L_plain_own_own hc162).cls 7).z
 refine qs 9 [factO hc162_7] [2,3,4,6] [(1,0),(2,0),(3,0),(7,0),(7,1),(7,2)] h fun ac wd h => ?_
 refine wp_seq ?_
 refine qs 12 [] [2,3,4,6,15,16,17] [(1,0),(2,0),(3,0),(7,0),(7,1),(7,2)] h fun ac wd h => ?_
 refine wp_block ?_
 refine r_while (fun nf ac wd => ∃ (n285 : Int) (l286 : List Int) (l287 : List (List TMsg)) (l288 : List Int),L_plain_Run_l1 a0 a2 nf n285 l286 l287 l288 = some r ∧ SL ⟨wb,S,Φ,P0⟩ 39 58 [(2,.one (.d (.sl (List.map eTStep a2)))),(3,.one (.ptr (1,0) 0)),(4,.one (.ptr (2,0) 0)),(6,.one (.ptr (3,0) 0)),(15,.one (.d (.sl (List.map eTStep a2)))),(16,.one (.d (.int .i64 (a2.length : Int)))),(17,.one (.d (.int .i64 n285)))] [((1,0),some (.box 53 (cTApp a0))),((2,0),some (.box 104 [.own (7,0) l286.length,.own (7,1) l287.length,.own (7,2) l288.length])),((3,0),some (.box 104 [.nil,.nil,.nil])),((7,0),some (.row 3 1 (dat (List.map eI l286)))),((7,1),some (.row 170 1 (openRows cols_170 (List.map (eL eTMsg) l287)))),((7,2),some (.row 3 1 (dat (List.map eI l288))))] ac wd) (((a2.length : Int) - 0).toNat + 1) ⟨0,r161.States,r161.Links,r161.Sent,hD,h.z⟩ (fun nf ac wd hJ => ?_)
 obtain ⟨n285,l286,l287,l288,hL289,h⟩ := hJ
 cases nf with
 | zero => rw [L_plain_Run_l1] at hL289; cases hL289
 | succ nf =>
  rw [L_plain_Run_l1] at hL289
  refine qs 59 [] [2,3,4,6,15,16,17,18] [(1,0),(2,0),(3,0),(7,0),(7,1),(7,2)] h fun ac wd h => ?_
  refine wp_seq ?_
  rcases i2 hL289 with ⟨hb291,hL289⟩ | ⟨hb291,hL289⟩
  ·
   refine kT h ?_
   refine wp_skip ?_
   change Code.wp Try.prog _ _ _ _
   refine wp_seq ?_
   refine wp_block ?_
   obtain ⟨x304,hx305a,hx305b,hx305c,hx305d,hL289⟩ := aB hL289
   refine qs 65 [] [2,3,4,6,9,10,15,16,17] [(1,0),(2,0),(3,0),(7,0),(7,1),(7,2),(62,0)] h fun ac wd h => ?_
   obtain ⟨r308,hc309,hL289⟩ := oB hL289
   have hc309_68 := ((L_plain_Apply_own hc309).cls 68).z
   refine qs 75 [factO hc309_68] [2,3,4,6,9,11,12,15,16,17] [(1,0),(2,0),(3,0),(7,0),(7,1),(7,2),(68,0),(68,1),(68,2),(72,0)] h fun ac wd h => ?_
   refine wp_seq ?_
   refine qs 77 [] [2,3,4,6,9,11,12,15,16,17,30] [(1,0),(2,0),(3,0),(7,0),(7,1),(7,2),(68,0),(68,1),(68,2),(72,0)] h fun ac wd h => ?_
   rcases i2e hL289 with ⟨hb311,hL289⟩ | ⟨hb311,hL289⟩
   ·
    refine kF h ?_
    refine wp_skip ?_
    change Code.wp Try.prog _ _ _ _
    refine qe [] [2,3,4,6,15,16,17] [(1,0),(2,0),(3,0),(68,0),(68,1),(68,2)] h fun ac wd h => ?_
    change Code.wp Try.prog _ _ _ _
    refine qe [] [2,3,4,6,15,16,17] [(1,0),(2,0),(3,0),(68,0),(68,1),(68,2)] h fun ac wd h => ?_
    have h := h.sw (7,0) (68,0) 81
    have h := h.sw (7,1) (68,1) 81
    have h := h.sw (7,2) (68,2) 81
    exact ⟨nf,Nat.lt_succ_self nf,(IntKind.wrap .i64 (n285 + 1)),r308.1.States,r308.1.Links,r308.1.Sent,hL289,h.z⟩
   ·
    refine kT h ?_
    refine qs 83 [] [6,7,8] [(3,0),(7,0),(7,1),(7,2)] h fun ac wd h => ?_
    refine wp_ret ?_
    have h := h.sw (1,0) (7,0) 83
    have h := h.sw (1,1) (7,1) 83
    have h := h.sw (1,2) (7,2) 83
    injection hL289 with hL289
    subst hL289
    exact rO h [.cell 6 104,.tmp 7,.tmp 8] [(1,0),(1,1),(1,2)]
  ·
   refine kF h ?_
   refine wp_exit ?_
   change Code.wp Try.prog _ _ _ _
   refine qs 65 [] [6,7,8] [(3,0),(7,0),(7,1),(7,2)] h fun ac wd h => ?_
   refine wp_ret ?_
   have h := h.sw (1,0) (7,0) 65
   have h := h.sw (1,1) (7,1) 65
   have h := h.sw (1,2) (7,2) 65
   injection hL289 with hL289
   subst hL289
   exact rO h [.cell 6 104,.tmp 7,.tmp 8] [(1,0),(1,1),(1,2)]
theorem L_plain_Run_ok {a0 : TApp} {a1 : TConf} {a2 : (List TStep)} {r : TConf × Int × Int} (hD : L_plain_Run a0 a1 a2 = some r) :
  CallH Try.prog 47 [.agg (cTApp a0),.agg (cTConf a1),.one (.d (.sl (List.map eTStep a2)))] []
   (.tup [.inl [.d (.sl (List.map eI r.1.States)),.d (.sl (List.map (eL eTMsg) r.1.Links)),.d (.sl (List.map eI r.1.Sent))],.inr (.d (.int .i64 r.2.1)),.inr (.d (.int .i64 r.2.2))]) [] :=
 (L_plain_Run_own hD).fr

end Go.Proofs.Ytabbejabdkkaiaa
