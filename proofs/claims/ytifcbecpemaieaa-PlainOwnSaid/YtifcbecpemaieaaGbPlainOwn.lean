/- Functions as typed ones,and that the program's functions answer as these do. No condition. -/
import Derived.Test.YtifcbecpemaieaaGb6
import Derived.Test.YtifcbecpemaieaaGb8
import Derived.Test.YtifcbecpemaieaaGdPlainOwn
set_option linter.unusedSimpArgs false
set_option linter.unusedVariables false
set_option maxRecDepth 20000
set_option maxHeartbeats 4000000
namespace Go.Proofs.Ytifcbecpemaieaa
open Go.RowKit

theorem L_law05_PlainOwn_ok {a0 : TApp} {a1 : TConf} {a2 : TStep} {r : Bool} (hD : L_law05_PlainOwn a0 a1 a2 = some r) :
  CallH Try.prog 14 [.agg (cTApp a0),.agg (cTConf a1),.agg (cTStep a2)] []
   (.one (.d (.bool r))) [] := by
 unfold L_law05_PlainOwn at hD
 refine rc Try.func14 rfl Try.ntmps14 fun S Φ P0 wb ac h => ?_
 refine qs 5 [] [3,4,5] [(1,0),(2,0),(3,0)] h fun ac wd h => ?_
 obtain ⟨r9568,hc9569,hD⟩ := oB hD
 have hc9569k := L_law05_Cut_ok hc9569
 refine qs 8 [factE 6 hc9569k] [3,4,5] [(1,0),(2,0),(3,0)] h fun ac wd h => ?_
 obtain ⟨r9572,hc9573,hD⟩ := oB hD
 have hc9573k := L_law05_CutConf_ok hc9573
 refine qs 11 [factE 9 hc9573k] [3,4,5] [(1,0),(2,0),(3,0)] h fun ac wd h => ?_
 refine wp_seq ?_
 obtain ⟨r9580,hc9581,hD⟩ := oB hD
 obtain ⟨r9582,hc9583,hD⟩ := oB hD
 obtain ⟨r9584,hc9585,hD⟩ := oB hD
 have hc9581k := L_law05_App_ok hc9581
 have hc9583k := L_law05_Ref_ok hc9583
 have hc9585k := L_ref05_Right_ok hc9585
 refine ds 17 [factE 12 hc9581k,factE 14 hc9583k,factE 15 hc9585k] [3,4,5,28] [(1,0),(2,0),(3,0)] h fun ac wd h => ?_
 rcases i2b hD with ⟨hb9600,hD⟩ | ⟨hb9600,hD⟩
 ·
  refine kF h ?_
  refine wp_skip ?_
  change Code.wp Try.prog _ _ _ _
  obtain ⟨r12836,hc12837,hD⟩ := oB hD
  obtain ⟨r12838,hc12839,hD⟩ := oB hD
  have hc12837k := L_law05_CutConf_ok hc12837
  have hc12839k := L_law05_Ref_ok hc12839
  refine qs 22 [factE 18 hc12837k,factE 19 hc12839k] [3,4,5,7] [(1,0),(2,0),(3,0),(20,0)] h fun ac wd h => ?_
  obtain ⟨r12842,hc12843,hD⟩ := oB hD
  have hc12843_25 := ((L_plain_Apply_own hc12843).cls 25).z
  refine qs 32 [factO hc12843_25] [3,4,5,7,8] [(1,0),(2,0),(3,0),(20,0),(25,0),(25,1),(25,2),(29,0)] h fun ac wd h => ?_
  obtain ⟨r12846,hc12847,hD⟩ := oB hD
  have hc12847_36 := ((L_plain_Run_own hc12847).cls 36).z
  refine qs 45 [factO hc12847_36] [4,7,8,10] [(2,0),(20,0),(25,0),(25,1),(25,2),(29,0),(36,0),(36,1),(36,2),(41,0)] h fun ac wd h => ?_
  refine qs 49 [] [4,7,13] [(2,0),(20,0),(25,0),(25,1),(25,2),(36,0),(36,1),(36,2),(47,0)] h fun ac wd h => ?_
  have h := h.fL (cols := (fun _ => .sc)) (47,0) (36,0) ([[.own (25,0) r12842.1.States.length,.own (25,1) r12842.1.Links.length,.own (25,2) r12842.1.Sent.length]]) [.own (36,0) r12846.1.States.length,.own (36,1) r12846.1.Links.length,.own (36,2) r12846.1.Sent.length] 0 (List.map eI r12846.1.States) (sc_3 _)
  have h := h.sm 49 [(4,.one (.ptr (2,0) 0)),(7,.one (.ptr (20,0) 0)),(13,.one (.own (47,0) (1 + 1)))]
   [((2,0),some (.box 31 (cTConf r9572))),((20,0),some (.box 40 [.d (.sl (List.map eI r12838.States)),.d (.sl (List.map (eL eTMsg) r12838.Links)),.d (.sl (List.map eI r12838.Sent))])),((25,0),some (.row 3 1 (dat (List.map eI r12842.1.States)))),((25,1),some (.row 43 1 (openRows cols_43 (List.map (eL eTMsg) r12842.1.Links)))),((25,2),some (.row 3 1 (dat (List.map eI r12842.1.Sent)))),((36,1),some (.row 43 1 (openRows cols_43 (List.map (eL eTMsg) r12846.1.Links)))),((36,2),some (.row 3 1 (dat (List.map eI r12846.1.Sent)))),((47,0),some (.row 31 3 (([[.own (25,0) r12842.1.States.length,.own (25,1) r12842.1.Links.length,.own (25,2) r12842.1.Sent.length]] ++ [[.tr (.sl 3 1 (fun _ => .sc)) (.sl (List.map eI r12846.1.States)),.own (36,1) r12846.1.Links.length,.own (36,2) r12846.1.Sent.length]]))))]
  have h := h.fL (cols := cols_43) (47,0) (36,1) ([[.own (25,0) r12842.1.States.length,.own (25,1) r12842.1.Links.length,.own (25,2) r12842.1.Sent.length]]) [.tr (.sl 3 1 (fun _ => .sc)) (.sl (List.map eI r12846.1.States)),.own (36,1) r12846.1.Links.length,.own (36,2) r12846.1.Sent.length] 1 (List.map (eL eTMsg) r12846.1.Links) (sc_43 _)
  have h := h.sm 49 [(4,.one (.ptr (2,0) 0)),(7,.one (.ptr (20,0) 0)),(13,.one (.own (47,0) (1 + 1)))]
   [((2,0),some (.box 31 (cTConf r9572))),((20,0),some (.box 40 [.d (.sl (List.map eI r12838.States)),.d (.sl (List.map (eL eTMsg) r12838.Links)),.d (.sl (List.map eI r12838.Sent))])),((25,0),some (.row 3 1 (dat (List.map eI r12842.1.States)))),((25,1),some (.row 43 1 (openRows cols_43 (List.map (eL eTMsg) r12842.1.Links)))),((25,2),some (.row 3 1 (dat (List.map eI r12842.1.Sent)))),((36,2),some (.row 3 1 (dat (List.map eI r12846.1.Sent)))),((47,0),some (.row 31 3 (([[.own (25,0) r12842.1.States.length,.own (25,1) r12842.1.Links.length,.own (25,2) r12842.1.Sent.length]] ++ [[.tr (.sl 3 1 (fun _ => .sc)) (.sl (List.map eI r12846.1.States)),.tr (.sl 43 1 cols_43) (.sl (List.map (eL eTMsg) r12846.1.Links)),.own (36,2) r12846.1.Sent.length]]))))]
  have h := h.fL (cols := (fun _ => .sc)) (47,0) (36,2) ([[.own (25,0) r12842.1.States.length,.own (25,1) r12842.1.Links.length,.own (25,2) r12842.1.Sent.length]]) [.tr (.sl 3 1 (fun _ => .sc)) (.sl (List.map eI r12846.1.States)),.tr (.sl 43 1 cols_43) (.sl (List.map (eL eTMsg) r12846.1.Links)),.own (36,2) r12846.1.Sent.length] 2 (List.map eI r12846.1.Sent) (sc_3 _)
  have h := h.sm 49 [(4,.one (.ptr (2,0) 0)),(7,.one (.ptr (20,0) 0)),(13,.one (.own (47,0) (1 + 1)))]
   [((2,0),some (.box 31 (cTConf r9572))),((20,0),some (.box 40 [.d (.sl (List.map eI r12838.States)),.d (.sl (List.map (eL eTMsg) r12838.Links)),.d (.sl (List.map eI r12838.Sent))])),((25,0),some (.row 3 1 (dat (List.map eI r12842.1.States)))),((25,1),some (.row 43 1 (openRows cols_43 (List.map (eL eTMsg) r12842.1.Links)))),((25,2),some (.row 3 1 (dat (List.map eI r12842.1.Sent)))),((47,0),some (.row 31 3 (([[.own (25,0) r12842.1.States.length,.own (25,1) r12842.1.Links.length,.own (25,2) r12842.1.Sent.length]] ++ [[.tr (.sl 3 1 (fun _ => .sc)) (.sl (List.map eI r12846.1.States)),.tr (.sl 43 1 cols_43) (.sl (List.map (eL eTMsg) r12846.1.Links)),.tr (.sl 3 1 (fun _ => .sc)) (.sl (List.map eI r12846.1.Sent))]]))))]
  have h := h.f0 (cols := (fun _ => .sc)) (l := ([[.own (25,0) r12842.1.States.length,.own (25,1) r12842.1.Links.length,.own (25,2) r12842.1.Sent.length]] ++ [[.tr (.sl 3 1 (fun _ => .sc)) (.sl (List.map eI r12846.1.States)),.tr (.sl 43 1 cols_43) (.sl (List.map (eL eTMsg) r12846.1.Links)),.tr (.sl 3 1 (fun _ => .sc)) (.sl (List.map eI r12846.1.Sent))]])) (r := [.own (25,0) r12842.1.States.length,.own (25,1) r12842.1.Links.length,.own (25,2) r12842.1.Sent.length]) (L := List.map eI r12842.1.States) (47,0) (25,0) 0 0 (sc_3 _)
  have h := h.sm 49 [(4,.one (.ptr (2,0) 0)),(7,.one (.ptr (20,0) 0)),(13,.one (.own (47,0) (1 + 1)))]
   [((2,0),some (.box 31 (cTConf r9572))),((20,0),some (.box 40 [.d (.sl (List.map eI r12838.States)),.d (.sl (List.map (eL eTMsg) r12838.Links)),.d (.sl (List.map eI r12838.Sent))])),((25,1),some (.row 43 1 (openRows cols_43 (List.map (eL eTMsg) r12842.1.Links)))),((25,2),some (.row 3 1 (dat (List.map eI r12842.1.Sent)))),((47,0),some (.row 31 3 (([[.tr (.sl 3 1 (fun _ => .sc)) (.sl (List.map eI r12842.1.States)),.own (25,1) r12842.1.Links.length,.own (25,2) r12842.1.Sent.length]] ++ [[.tr (.sl 3 1 (fun _ => .sc)) (.sl (List.map eI r12846.1.States)),.tr (.sl 43 1 cols_43) (.sl (List.map (eL eTMsg) r12846.1.Links)),.tr (.sl 3 1 (fun _ => .sc)) (.sl (List.map eI r12846.1.Sent))]]))))]
  have h := h.f0 (cols := cols_43) (l := ([[.tr (.sl 3 1 (fun _ => .sc)) (.sl (List.map eI r12842.1.States)),.own (25,1) r12842.1.Links.length,.own (25,2) r12842.1.Sent.length]] ++ [[.tr (.sl 3 1 (fun _ => .sc)) (.sl (List.map eI r12846.1.States)),.tr (.sl 43 1 cols_43) (.sl (List.map (eL eTMsg) r12846.1.Links)),.tr (.sl 3 1 (fun _ => .sc)) (.sl (List.map eI r12846.1.Sent))]])) (r := [.tr (.sl 3 1 (fun _ => .sc)) (.sl (List.map eI r12842.1.States)),.own (25,1) r12842.1.Links.length,.own (25,2) r12842.1.Sent.length]) (L := List.map (eL eTMsg) r12842.1.Links) (47,0) (25,1) 0 1 (sc_43 _)
  have h := h.sm 49 [(4,.one (.ptr (2,0) 0)),(7,.one (.ptr (20,0) 0)),(13,.one (.own (47,0) (1 + 1)))]
   [((2,0),some (.box 31 (cTConf r9572))),((20,0),some (.box 40 [.d (.sl (List.map eI r12838.States)),.d (.sl (List.map (eL eTMsg) r12838.Links)),.d (.sl (List.map eI r12838.Sent))])),((25,2),some (.row 3 1 (dat (List.map eI r12842.1.Sent)))),((47,0),some (.row 31 3 (([[.tr (.sl 3 1 (fun _ => .sc)) (.sl (List.map eI r12842.1.States)),.tr (.sl 43 1 cols_43) (.sl (List.map (eL eTMsg) r12842.1.Links)),.own (25,2) r12842.1.Sent.length]] ++ [[.tr (.sl 3 1 (fun _ => .sc)) (.sl (List.map eI r12846.1.States)),.tr (.sl 43 1 cols_43) (.sl (List.map (eL eTMsg) r12846.1.Links)),.tr (.sl 3 1 (fun _ => .sc)) (.sl (List.map eI r12846.1.Sent))]]))))]
  have h := h.f0 (cols := (fun _ => .sc)) (l := ([[.tr (.sl 3 1 (fun _ => .sc)) (.sl (List.map eI r12842.1.States)),.tr (.sl 43 1 cols_43) (.sl (List.map (eL eTMsg) r12842.1.Links)),.own (25,2) r12842.1.Sent.length]] ++ [[.tr (.sl 3 1 (fun _ => .sc)) (.sl (List.map eI r12846.1.States)),.tr (.sl 43 1 cols_43) (.sl (List.map (eL eTMsg) r12846.1.Links)),.tr (.sl 3 1 (fun _ => .sc)) (.sl (List.map eI r12846.1.Sent))]])) (r := [.tr (.sl 3 1 (fun _ => .sc)) (.sl (List.map eI r12842.1.States)),.tr (.sl 43 1 cols_43) (.sl (List.map (eL eTMsg) r12842.1.Links)),.own (25,2) r12842.1.Sent.length]) (L := List.map eI r12842.1.Sent) (47,0) (25,2) 0 2 (sc_3 _)
  have h := h.sm 49 [(4,.one (.ptr (2,0) 0)),(7,.one (.ptr (20,0) 0)),(13,.one (.own (47,0) (1 + 1)))]
   [((2,0),some (.box 31 (cTConf r9572))),((20,0),some (.box 40 [.d (.sl (List.map eI r12838.States)),.d (.sl (List.map (eL eTMsg) r12838.Links)),.d (.sl (List.map eI r12838.Sent))])),((47,0),some (.row 31 3 (([[.tr (.sl 3 1 (fun _ => .sc)) (.sl (List.map eI r12842.1.States)),.tr (.sl 43 1 cols_43) (.sl (List.map (eL eTMsg) r12842.1.Links)),.tr (.sl 3 1 (fun _ => .sc)) (.sl (List.map eI r12842.1.Sent))]] ++ [[.tr (.sl 3 1 (fun _ => .sc)) (.sl (List.map eI r12846.1.States)),.tr (.sl 43 1 cols_43) (.sl (List.map (eL eTMsg) r12846.1.Links)),.tr (.sl 3 1 (fun _ => .sc)) (.sl (List.map eI r12846.1.Sent))]]))))]
  refine wp_seq ?_
  refine qs 50 [] [4,7,13,14] [(2,0),(20,0),(47,0)] h fun ac wd h => ?_
  obtain ⟨e17601,hE17602,hD⟩ := Option.bind_eq_some_iff.1 hD
  refine r_meet (fun ac wd => () = e17601 ∧ SL ⟨wb,S,Φ,P0⟩ 137 634 [(4,.one (.ptr (2,0) 0)),(7,.one (.ptr (20,0) 0))] [((2,0),some (.box 31 (cTConf r9572))),((20,0),some (.box 40 [.d (.sl (List.map eI r12838.States)),.d (.sl (List.map (eL eTMsg) r12838.Links)),.d (.sl (List.map eI r12838.Sent))]))] ac wd) ?_ ?_
  ·
   refine wp_block ?_
   refine r_while (fun nf ac wd => ∃ (n20769 : Int) (l20770 : List TConf),L_law05_PlainOwn_l1 nf n20769 l20770 = some e17601 ∧ SL ⟨wb,S,Φ,P0⟩ 137 632 [(4,.one (.ptr (2,0) 0)),(7,.one (.ptr (20,0) 0)),(13,.one (.own (47,0) l20770.length)),(14,.one (.d (.int .i64 n20769)))] [((2,0),some (.box 31 (cTConf r9572))),((20,0),some (.box 40 [.d (.sl (List.map eI r12838.States)),.d (.sl (List.map (eL eTMsg) r12838.Links)),.d (.sl (List.map eI r12838.Sent))])),((47,0),some (.row 31 3 (openRows cols_31 (List.map eTConf l20770))))] ac wd) (((2 : Int) - 0).toNat + 1) ⟨0,([r12842.1] ++ [r12846.1]),hE17602,h.z⟩ (fun nf ac wd hJ => ?_)
   obtain ⟨n20769,l20770,hL20771,h⟩ := hJ
   cases nf with
   | zero => rw [L_law05_PlainOwn_l1] at hL20771; cases hL20771
   | succ nf =>
    rw [L_law05_PlainOwn_l1] at hL20771
    refine wp_seq ?_
    refine qs 634 [] [4,7,13,14,59] [(2,0),(20,0),(47,0)] h fun ac wd h => ?_
    rcases i2 hL20771 with ⟨hb20773,hL20771⟩ | ⟨hb20773,hL20771⟩
    ·
     refine kT h ?_
     refine wp_skip ?_
     change Code.wp Try.prog _ _ _ _
     obtain ⟨e21609,hE21610,hL20771⟩ := Option.bind_eq_some_iff.1 hL20771
     refine r_seqJ (fun ac wd => ∃ (l21608 : List TConf),l21608 = e21609 ∧ SL ⟨wb,S,Φ,P0⟩ 137 920 [(4,.one (.ptr (2,0) 0)),(7,.one (.ptr (20,0) 0)),(13,.one (.own (47,0) l21608.length)),(14,.one (.d (.int .i64 n20769)))] [((2,0),some (.box 31 (cTConf r9572))),((20,0),some (.box 40 [.d (.sl (List.map eI r12838.States)),.d (.sl (List.map (eL eTMsg) r12838.Links)),.d (.sl (List.map eI r12838.Sent))])),((47,0),some (.row 31 3 (openRows cols_31 (List.map eTConf l21608))))] ac wd) ?_ ?_
     ·
      refine wp_block ?_
      refine wp_seq ?_
      refine qs 635 [] [4,7,13,14,15] [(2,0),(20,0),(47,0)] h fun ac wd h => ?_
      obtain ⟨e21776,hE21777,hE21610⟩ := Option.bind_eq_some_iff.1 hE21610
      refine r_meet (fun ac wd => ∃ (l21775 : List TConf),l21775 = e21776 ∧ SL ⟨wb,S,Φ,P0⟩ 137 686 [(4,.one (.ptr (2,0) 0)),(7,.one (.ptr (20,0) 0)),(13,.one (.own (47,0) l21775.length)),(14,.one (.d (.int .i64 n20769)))] [((2,0),some (.box 31 (cTConf r9572))),((20,0),some (.box 40 [.d (.sl (List.map eI r12838.States)),.d (.sl (List.map (eL eTMsg) r12838.Links)),.d (.sl (List.map eI r12838.Sent))])),((47,0),some (.row 31 3 (openRows cols_31 (List.map eTConf l21775))))] ac wd) ?_ ?_
      ·
       refine wp_block ?_
       refine r_while (fun nf ac wd => ∃ (n21816 : Int) (l21817 : List TConf),L_law05_PlainOwn_l2 n20769 nf n21816 l21817 = some e21776 ∧ SL ⟨wb,S,Φ,P0⟩ 137 677 [(4,.one (.ptr (2,0) 0)),(7,.one (.ptr (20,0) 0)),(13,.one (.own (47,0) l21817.length)),(14,.one (.d (.int .i64 n20769))),(15,.one (.d (.int .i64 n21816)))] [((2,0),some (.box 31 (cTConf r9572))),((20,0),some (.box 40 [.d (.sl (List.map eI r12838.States)),.d (.sl (List.map (eL eTMsg) r12838.Links)),.d (.sl (List.map eI r12838.Sent))])),((47,0),some (.row 31 3 (openRows cols_31 (List.map eTConf l21817))))] ac wd) (((at? l20770 n20769).elim 0 fun x21821 => ((x21821.States.length : Int) - 0).toNat) + 1) ⟨0,l20770,hE21777,h.z⟩ (fun nf ac wd hJ => ?_)
       obtain ⟨n21816,l21817,hL21818,h⟩ := hJ
       cases nf with
       | zero => rw [L_law05_PlainOwn_l2] at hL21818; cases hL21818
       | succ nf =>
        rw [L_law05_PlainOwn_l2] at hL21818
        refine wp_seq ?_
        obtain ⟨x21825,hx21826a,hx21826b,hx21826c,hx21826d,hL21818⟩ := aB hL21818
        have h := h.op (47,0) n20769.toNat 0
        have h := h.sm 678 [(4,.one (.ptr (2,0) 0)),(7,.one (.ptr (20,0) 0)),(13,.one (.own (47,0) l21817.length)),(14,.one (.d (.int .i64 n20769))),(15,.one (.d (.int .i64 n21816)))]
         [((2,0),some (.box 31 (cTConf r9572))),((20,0),some (.box 40 [.d (.sl (List.map eI r12838.States)),.d (.sl (List.map (eL eTMsg) r12838.Links)),.d (.sl (List.map eI r12838.Sent))])),((47,0),some (.row 31 3 ((openRows cols_31 (List.map eTConf l21817)).set n20769.toNat [.own (677,0) x21825.States.length,.tr (.sl 43 1 cols_43) (.sl (List.map (eL eTMsg) x21825.Links)),.tr (.sl 3 1 (fun _ => .sc)) (.sl (List.map eI x21825.Sent))]))),((677,0),some (.row 3 1 (dat (List.map eI x21825.States))))]
        refine qs 686 [] [4,7,13,14,15,69] [(2,0),(20,0),(47,0),(677,0)] h fun ac wd h => ?_
        have h := h.fS (cols := (fun _ => .sc)) (47,0) (677,0) (openRows cols_31 (List.map eTConf l21817)) n20769.toNat [.own (677,0) x21825.States.length,.tr (.sl 43 1 cols_43) (.sl (List.map (eL eTMsg) x21825.Links)),.tr (.sl 3 1 (fun _ => .sc)) (.sl (List.map eI x21825.Sent))] 0 (List.map eI x21825.States) (sc_3 _)
        have h := h.sm 686 [(4,.one (.ptr (2,0) 0)),(7,.one (.ptr (20,0) 0)),(13,.one (.own (47,0) l21817.length)),(14,.one (.d (.int .i64 n20769))),(15,.one (.d (.int .i64 n21816))),(69,.one (.d (.bool (decide (n21816 < (x21825.States.length : Int))))))]
         [((2,0),some (.box 31 (cTConf r9572))),((20,0),some (.box 40 [.d (.sl (List.map eI r12838.States)),.d (.sl (List.map (eL eTMsg) r12838.Links)),.d (.sl (List.map eI r12838.Sent))])),((47,0),some (.row 31 3 ((openRows cols_31 (List.map eTConf l21817)).set n20769.toNat [.tr (.sl 3 1 (fun _ => .sc)) (.sl (List.map eI x21825.States)),.tr (.sl 43 1 cols_43) (.sl (List.map (eL eTMsg) x21825.Links)),.tr (.sl 3 1 (fun _ => .sc)) (.sl (List.map eI x21825.Sent))])))]
        rcases i2 hL21818 with ⟨hb21828,hL21818⟩ | ⟨hb21828,hL21818⟩
        ·
         refine kT h ?_
         refine wp_skip ?_
         change Code.wp Try.prog _ _ _ _
         refine wp_seq ?_
         refine wp_block ?_
         obtain ⟨v21841,hv21842,hL21818⟩ := vB hL21818
         have h := h.same [4,7,13,14,15,69] [(2,0),(20,0),(47,0)] 686 [(4,.one (.ptr (2,0) 0)),(7,.one (.ptr (20,0) 0)),(13,.one (.own (47,0) v21841.length)),(14,.one (.d (.int .i64 n20769))),(15,.one (.d (.int .i64 n21816))),(69,.one (.d (.bool (decide (n21816 < (x21825.States.length : Int))))))]
          [((2,0),some (.box 31 (cTConf r9572))),((20,0),some (.box 40 [.d (.sl (List.map eI r12838.States)),.d (.sl (List.map (eL eTMsg) r12838.Links)),.d (.sl (List.map eI r12838.Sent))])),((47,0),some (.row 31 3 (openRows cols_31 (List.map eTConf v21841))))]
          (by simp only [EZ,simprocAttr,hb9600,hb20773,hx21826a,hx21826b,hx21826c,hx21826d,hb21828,dat_open,← hv21842] <;> rfl)
         obtain ⟨x21843,hx21844a,hx21844b,hx21844c,hx21844d,hL21818⟩ := aB hL21818
         have h := h.op (47,0) n20769.toNat 0
         have h := h.sm 687 [(4,.one (.ptr (2,0) 0)),(7,.one (.ptr (20,0) 0)),(13,.one (.own (47,0) v21841.length)),(14,.one (.d (.int .i64 n20769))),(15,.one (.d (.int .i64 n21816))),(69,.one (.d (.bool (decide (n21816 < (x21825.States.length : Int))))))]
          [((2,0),some (.box 31 (cTConf r9572))),((20,0),some (.box 40 [.d (.sl (List.map eI r12838.States)),.d (.sl (List.map (eL eTMsg) r12838.Links)),.d (.sl (List.map eI r12838.Sent))])),((47,0),some (.row 31 3 ((openRows cols_31 (List.map eTConf v21841)).set n20769.toNat [.own (686,0) x21843.States.length,.tr (.sl 43 1 cols_43) (.sl (List.map (eL eTMsg) x21843.Links)),.tr (.sl 3 1 (fun _ => .sc)) (.sl (List.map eI x21843.Sent))]))),((686,0),some (.row 3 1 (dat (List.map eI x21843.States))))]
         obtain ⟨x21845,hx21846a,hx21846b,hx21846c,hx21846d,hL21818⟩ := aB hL21818
         refine qe [] [4,7,13,14,15] [(2,0),(20,0),(47,0),(686,0)] h fun ac wd h => ?_
         have h := h.fS (cols := (fun _ => .sc)) (47,0) (686,0) (openRows cols_31 (List.map eTConf v21841)) n20769.toNat [.own (686,0) x21843.States.length,.tr (.sl 43 1 cols_43) (.sl (List.map (eL eTMsg) x21843.Links)),.tr (.sl 3 1 (fun _ => .sc)) (.sl (List.map eI x21843.Sent))] 0 (List.map eI (x21843.States.set n21816.toNat 99)) (sc_3 _)
         have h := h.sm 695 [(4,.one (.ptr (2,0) 0)),(7,.one (.ptr (20,0) 0)),(13,.one (.own (47,0) v21841.length)),(14,.one (.d (.int .i64 n20769))),(15,.one (.d (.int .i64 n21816)))]
          [((2,0),some (.box 31 (cTConf r9572))),((20,0),some (.box 40 [.d (.sl (List.map eI r12838.States)),.d (.sl (List.map (eL eTMsg) r12838.Links)),.d (.sl (List.map eI r12838.Sent))])),((47,0),some (.row 31 3 ((openRows cols_31 (List.map eTConf v21841)).set n20769.toNat [.tr (.sl 3 1 (fun _ => .sc)) (.sl (List.map eI (x21843.States.set n21816.toNat 99))),.tr (.sl 43 1 cols_43) (.sl (List.map (eL eTMsg) x21843.Links)),.tr (.sl 3 1 (fun _ => .sc)) (.sl (List.map eI x21843.Sent))])))]
         change Code.wp Try.prog _ _ _ _
         refine qe [] [4,7,13,14,15] [(2,0),(20,0),(47,0)] h fun ac wd h => ?_
         exact ⟨nf,Nat.lt_succ_self nf,(IntKind.wrap .i64 (n21816 + 1)),(v21841.set n20769.toNat (TConf.mk (x21843.States.set n21816.toNat 99) x21843.Links x21843.Sent)),hL21818,h.z⟩
        ·
         refine kF h ?_
         refine wp_exit ?_
         injection hL21818 with hL21818; subst hL21818
         exact ⟨(l21817.set n20769.toNat x21825),rfl,h.z⟩
      ·
       rintro ac wd ⟨l21775,rfl,h⟩
       (try dsimp only at hE21610)
       refine wp_seq ?_
       refine qs 687 [] [4,7,13,14,16] [(2,0),(20,0),(47,0)] h fun ac wd h => ?_
       obtain ⟨e22798,hE22799,hE21610⟩ := Option.bind_eq_some_iff.1 hE21610
       refine r_meet (fun ac wd => ∃ (l22797 : List TConf),l22797 = e22798 ∧ SL ⟨wb,S,Φ,P0⟩ 137 738 [(4,.one (.ptr (2,0) 0)),(7,.one (.ptr (20,0) 0)),(13,.one (.own (47,0) l22797.length)),(14,.one (.d (.int .i64 n20769)))] [((2,0),some (.box 31 (cTConf r9572))),((20,0),some (.box 40 [.d (.sl (List.map eI r12838.States)),.d (.sl (List.map (eL eTMsg) r12838.Links)),.d (.sl (List.map eI r12838.Sent))])),((47,0),some (.row 31 3 (openRows cols_31 (List.map eTConf l22797))))] ac wd) ?_ ?_
       ·
        refine wp_block ?_
        refine r_while (fun nf ac wd => ∃ (n22838 : Int) (l22839 : List TConf),L_law05_PlainOwn_l3 n20769 nf n22838 l22839 = some e22798 ∧ SL ⟨wb,S,Φ,P0⟩ 137 729 [(4,.one (.ptr (2,0) 0)),(7,.one (.ptr (20,0) 0)),(13,.one (.own (47,0) l22839.length)),(14,.one (.d (.int .i64 n20769))),(16,.one (.d (.int .i64 n22838)))] [((2,0),some (.box 31 (cTConf r9572))),((20,0),some (.box 40 [.d (.sl (List.map eI r12838.States)),.d (.sl (List.map (eL eTMsg) r12838.Links)),.d (.sl (List.map eI r12838.Sent))])),((47,0),some (.row 31 3 (openRows cols_31 (List.map eTConf l22839))))] ac wd) (((at? l21775 n20769).elim 0 fun x22843 => ((x22843.Sent.length : Int) - 0).toNat) + 1) ⟨0,l21775,hE22799,h.z⟩ (fun nf ac wd hJ => ?_)
        obtain ⟨n22838,l22839,hL22840,h⟩ := hJ
        cases nf with
        | zero => rw [L_law05_PlainOwn_l3] at hL22840; cases hL22840
        | succ nf =>
         rw [L_law05_PlainOwn_l3] at hL22840
         refine wp_seq ?_
         obtain ⟨x22847,hx22848a,hx22848b,hx22848c,hx22848d,hL22840⟩ := aB hL22840
         have h := h.op (47,0) n20769.toNat 2
         have h := h.sm 730 [(4,.one (.ptr (2,0) 0)),(7,.one (.ptr (20,0) 0)),(13,.one (.own (47,0) l22839.length)),(14,.one (.d (.int .i64 n20769))),(16,.one (.d (.int .i64 n22838)))]
          [((2,0),some (.box 31 (cTConf r9572))),((20,0),some (.box 40 [.d (.sl (List.map eI r12838.States)),.d (.sl (List.map (eL eTMsg) r12838.Links)),.d (.sl (List.map eI r12838.Sent))])),((47,0),some (.row 31 3 ((openRows cols_31 (List.map eTConf l22839)).set n20769.toNat [.tr (.sl 3 1 (fun _ => .sc)) (.sl (List.map eI x22847.States)),.tr (.sl 43 1 cols_43) (.sl (List.map (eL eTMsg) x22847.Links)),.own (729,0) x22847.Sent.length]))),((729,0),some (.row 3 1 (dat (List.map eI x22847.Sent))))]
         refine qs 738 [] [4,7,13,14,16,86] [(2,0),(20,0),(47,0),(729,0)] h fun ac wd h => ?_
         have h := h.fS (cols := (fun _ => .sc)) (47,0) (729,0) (openRows cols_31 (List.map eTConf l22839)) n20769.toNat [.tr (.sl 3 1 (fun _ => .sc)) (.sl (List.map eI x22847.States)),.tr (.sl 43 1 cols_43) (.sl (List.map (eL eTMsg) x22847.Links)),.own (729,0) x22847.Sent.length] 2 (List.map eI x22847.Sent) (sc_3 _)
         have h := h.sm 738 [(4,.one (.ptr (2,0) 0)),(7,.one (.ptr (20,0) 0)),(13,.one (.own (47,0) l22839.length)),(14,.one (.d (.int .i64 n20769))),(16,.one (.d (.int .i64 n22838))),(86,.one (.d (.bool (decide (n22838 < (x22847.Sent.length : Int))))))]
          [((2,0),some (.box 31 (cTConf r9572))),((20,0),some (.box 40 [.d (.sl (List.map eI r12838.States)),.d (.sl (List.map (eL eTMsg) r12838.Links)),.d (.sl (List.map eI r12838.Sent))])),((47,0),some (.row 31 3 ((openRows cols_31 (List.map eTConf l22839)).set n20769.toNat [.tr (.sl 3 1 (fun _ => .sc)) (.sl (List.map eI x22847.States)),.tr (.sl 43 1 cols_43) (.sl (List.map (eL eTMsg) x22847.Links)),.tr (.sl 3 1 (fun _ => .sc)) (.sl (List.map eI x22847.Sent))])))]
         rcases i2 hL22840 with ⟨hb22850,hL22840⟩ | ⟨hb22850,hL22840⟩
         ·
          refine kT h ?_
          refine wp_skip ?_
          change Code.wp Try.prog _ _ _ _
          refine wp_seq ?_
          refine wp_block ?_
          obtain ⟨v22863,hv22864,hL22840⟩ := vB hL22840
          have h := h.same [4,7,13,14,16,86] [(2,0),(20,0),(47,0)] 738 [(4,.one (.ptr (2,0) 0)),(7,.one (.ptr (20,0) 0)),(13,.one (.own (47,0) v22863.length)),(14,.one (.d (.int .i64 n20769))),(16,.one (.d (.int .i64 n22838))),(86,.one (.d (.bool (decide (n22838 < (x22847.Sent.length : Int))))))]
           [((2,0),some (.box 31 (cTConf r9572))),((20,0),some (.box 40 [.d (.sl (List.map eI r12838.States)),.d (.sl (List.map (eL eTMsg) r12838.Links)),.d (.sl (List.map eI r12838.Sent))])),((47,0),some (.row 31 3 (openRows cols_31 (List.map eTConf v22863))))]
           (by simp only [EZ,simprocAttr,hb9600,hb20773,hx22848a,hx22848b,hx22848c,hx22848d,hb22850,dat_open,← hv22864] <;> rfl)
          obtain ⟨x22865,hx22866a,hx22866b,hx22866c,hx22866d,hL22840⟩ := aB hL22840
          have h := h.op (47,0) n20769.toNat 2
          have h := h.sm 739 [(4,.one (.ptr (2,0) 0)),(7,.one (.ptr (20,0) 0)),(13,.one (.own (47,0) v22863.length)),(14,.one (.d (.int .i64 n20769))),(16,.one (.d (.int .i64 n22838))),(86,.one (.d (.bool (decide (n22838 < (x22847.Sent.length : Int))))))]
           [((2,0),some (.box 31 (cTConf r9572))),((20,0),some (.box 40 [.d (.sl (List.map eI r12838.States)),.d (.sl (List.map (eL eTMsg) r12838.Links)),.d (.sl (List.map eI r12838.Sent))])),((47,0),some (.row 31 3 ((openRows cols_31 (List.map eTConf v22863)).set n20769.toNat [.tr (.sl 3 1 (fun _ => .sc)) (.sl (List.map eI x22865.States)),.tr (.sl 43 1 cols_43) (.sl (List.map (eL eTMsg) x22865.Links)),.own (738,0) x22865.Sent.length]))),((738,0),some (.row 3 1 (dat (List.map eI x22865.Sent))))]
          obtain ⟨x22867,hx22868a,hx22868b,hx22868c,hx22868d,hL22840⟩ := aB hL22840
          refine qe [] [4,7,13,14,16] [(2,0),(20,0),(47,0),(738,0)] h fun ac wd h => ?_
          have h := h.fS (cols := (fun _ => .sc)) (47,0) (738,0) (openRows cols_31 (List.map eTConf v22863)) n20769.toNat [.tr (.sl 3 1 (fun _ => .sc)) (.sl (List.map eI x22865.States)),.tr (.sl 43 1 cols_43) (.sl (List.map (eL eTMsg) x22865.Links)),.own (738,0) x22865.Sent.length] 2 (List.map eI (x22865.Sent.set n22838.toNat 99)) (sc_3 _)
          have h := h.sm 747 [(4,.one (.ptr (2,0) 0)),(7,.one (.ptr (20,0) 0)),(13,.one (.own (47,0) v22863.length)),(14,.one (.d (.int .i64 n20769))),(16,.one (.d (.int .i64 n22838)))]
           [((2,0),some (.box 31 (cTConf r9572))),((20,0),some (.box 40 [.d (.sl (List.map eI r12838.States)),.d (.sl (List.map (eL eTMsg) r12838.Links)),.d (.sl (List.map eI r12838.Sent))])),((47,0),some (.row 31 3 ((openRows cols_31 (List.map eTConf v22863)).set n20769.toNat [.tr (.sl 3 1 (fun _ => .sc)) (.sl (List.map eI x22865.States)),.tr (.sl 43 1 cols_43) (.sl (List.map (eL eTMsg) x22865.Links)),.tr (.sl 3 1 (fun _ => .sc)) (.sl (List.map eI (x22865.Sent.set n22838.toNat 99)))])))]
          change Code.wp Try.prog _ _ _ _
          refine qe [] [4,7,13,14,16] [(2,0),(20,0),(47,0)] h fun ac wd h => ?_
          exact ⟨nf,Nat.lt_succ_self nf,(IntKind.wrap .i64 (n22838 + 1)),(v22863.set n20769.toNat (TConf.mk x22865.States x22865.Links (x22865.Sent.set n22838.toNat 99))),hL22840,h.z⟩
         ·
          refine kF h ?_
          refine wp_exit ?_
          injection hL22840 with hL22840; subst hL22840
          exact ⟨(l22839.set n20769.toNat x22847),rfl,h.z⟩
       ·
        rintro ac wd ⟨l22797,rfl,h⟩
        (try dsimp only at hE21610)
        refine qs 739 [] [4,7,13,14,17] [(2,0),(20,0),(47,0)] h fun ac wd h => ?_
        obtain ⟨e23417,hE23418,hE21610⟩ := Option.bind_eq_some_iff.1 hE21610
        refine r_meetQ (fun ac wd => ∃ (l23416 : List TConf),l23416 = e23417 ∧ SL ⟨wb,S,Φ,P0⟩ 137 920 [(4,.one (.ptr (2,0) 0)),(7,.one (.ptr (20,0) 0)),(13,.one (.own (47,0) l23416.length)),(14,.one (.d (.int .i64 n20769)))] [((2,0),some (.box 31 (cTConf r9572))),((20,0),some (.box 40 [.d (.sl (List.map eI r12838.States)),.d (.sl (List.map (eL eTMsg) r12838.Links)),.d (.sl (List.map eI r12838.Sent))])),((47,0),some (.row 31 3 (openRows cols_31 (List.map eTConf l23416))))] ac wd) ?_ ?_
        ·
         refine wp_block ?_
         refine r_while (fun nf ac wd => ∃ (n23783 : Int) (l23784 : List TConf),L_law05_PlainOwn_l4 n20769 nf n23783 l23784 = some e23417 ∧ SL ⟨wb,S,Φ,P0⟩ 137 911 [(4,.one (.ptr (2,0) 0)),(7,.one (.ptr (20,0) 0)),(13,.one (.own (47,0) l23784.length)),(14,.one (.d (.int .i64 n20769))),(17,.one (.d (.int .i64 n23783)))] [((2,0),some (.box 31 (cTConf r9572))),((20,0),some (.box 40 [.d (.sl (List.map eI r12838.States)),.d (.sl (List.map (eL eTMsg) r12838.Links)),.d (.sl (List.map eI r12838.Sent))])),((47,0),some (.row 31 3 (openRows cols_31 (List.map eTConf l23784))))] ac wd) (((at? l22797 n20769).elim 0 fun x23788 => ((x23788.Links.length : Int) - 0).toNat) + 1) ⟨0,l22797,hE23418,h.z⟩ (fun nf ac wd hJ => ?_)
         obtain ⟨n23783,l23784,hL23785,h⟩ := hJ
         cases nf with
         | zero => rw [L_law05_PlainOwn_l4] at hL23785; cases hL23785
         | succ nf =>
          rw [L_law05_PlainOwn_l4] at hL23785
          refine wp_seq ?_
          obtain ⟨x23792,hx23793a,hx23793b,hx23793c,hx23793d,hL23785⟩ := aB hL23785
          have h := h.op (47,0) n20769.toNat 1
          have h := h.sm 912 [(4,.one (.ptr (2,0) 0)),(7,.one (.ptr (20,0) 0)),(13,.one (.own (47,0) l23784.length)),(14,.one (.d (.int .i64 n20769))),(17,.one (.d (.int .i64 n23783)))]
           [((2,0),some (.box 31 (cTConf r9572))),((20,0),some (.box 40 [.d (.sl (List.map eI r12838.States)),.d (.sl (List.map (eL eTMsg) r12838.Links)),.d (.sl (List.map eI r12838.Sent))])),((47,0),some (.row 31 3 ((openRows cols_31 (List.map eTConf l23784)).set n20769.toNat [.tr (.sl 3 1 (fun _ => .sc)) (.sl (List.map eI x23792.States)),.own (911,0) x23792.Links.length,.tr (.sl 3 1 (fun _ => .sc)) (.sl (List.map eI x23792.Sent))]))),((911,0),some (.row 43 1 (openRows cols_43 (List.map (eL eTMsg) x23792.Links))))]
          refine qs 920 [] [4,7,13,14,17,103] [(2,0),(20,0),(47,0),(911,0)] h fun ac wd h => ?_
          have h := h.fS (cols := cols_43) (47,0) (911,0) (openRows cols_31 (List.map eTConf l23784)) n20769.toNat [.tr (.sl 3 1 (fun _ => .sc)) (.sl (List.map eI x23792.States)),.own (911,0) x23792.Links.length,.tr (.sl 3 1 (fun _ => .sc)) (.sl (List.map eI x23792.Sent))] 1 (List.map (eL eTMsg) x23792.Links) (sc_43 _)
          have h := h.sm 920 [(4,.one (.ptr (2,0) 0)),(7,.one (.ptr (20,0) 0)),(13,.one (.own (47,0) l23784.length)),(14,.one (.d (.int .i64 n20769))),(17,.one (.d (.int .i64 n23783))),(103,.one (.d (.bool (decide (n23783 < (x23792.Links.length : Int))))))]
           [((2,0),some (.box 31 (cTConf r9572))),((20,0),some (.box 40 [.d (.sl (List.map eI r12838.States)),.d (.sl (List.map (eL eTMsg) r12838.Links)),.d (.sl (List.map eI r12838.Sent))])),((47,0),some (.row 31 3 ((openRows cols_31 (List.map eTConf l23784)).set n20769.toNat [.tr (.sl 3 1 (fun _ => .sc)) (.sl (List.map eI x23792.States)),.tr (.sl 43 1 cols_43) (.sl (List.map (eL eTMsg) x23792.Links)),.tr (.sl 3 1 (fun _ => .sc)) (.sl (List.map eI x23792.Sent))])))]
          rcases i2 hL23785 with ⟨hb23795,hL23785⟩ | ⟨hb23795,hL23785⟩
          ·
           refine kT h ?_
           refine wp_skip ?_
           change Code.wp Try.prog _ _ _ _
           obtain ⟨e23956,hE23957,hL23785⟩ := Option.bind_eq_some_iff.1 hL23785
           refine r_seqJ (fun ac wd => ∃ (l23955 : List TConf),l23955 = e23956 ∧ SL ⟨wb,S,Φ,P0⟩ 137 994 [(4,.one (.ptr (2,0) 0)),(7,.one (.ptr (20,0) 0)),(13,.one (.own (47,0) l23955.length)),(14,.one (.d (.int .i64 n20769))),(17,.one (.d (.int .i64 n23783)))] [((2,0),some (.box 31 (cTConf r9572))),((20,0),some (.box 40 [.d (.sl (List.map eI r12838.States)),.d (.sl (List.map (eL eTMsg) r12838.Links)),.d (.sl (List.map eI r12838.Sent))])),((47,0),some (.row 31 3 (openRows cols_31 (List.map eTConf l23955))))] ac wd) ?_ ?_
           ·
            refine wp_block ?_
            refine qs 921 [] [4,7,13,14,17,18] [(2,0),(20,0),(47,0)] h fun ac wd h => ?_
            obtain ⟨e24045,hE24046,hE23957⟩ := Option.bind_eq_some_iff.1 hE23957
            refine r_meetQ (fun ac wd => ∃ (l24044 : List TConf),l24044 = e24045 ∧ SL ⟨wb,S,Φ,P0⟩ 137 994 [(4,.one (.ptr (2,0) 0)),(7,.one (.ptr (20,0) 0)),(13,.one (.own (47,0) l24044.length)),(14,.one (.d (.int .i64 n20769))),(17,.one (.d (.int .i64 n23783)))] [((2,0),some (.box 31 (cTConf r9572))),((20,0),some (.box 40 [.d (.sl (List.map eI r12838.States)),.d (.sl (List.map (eL eTMsg) r12838.Links)),.d (.sl (List.map eI r12838.Sent))])),((47,0),some (.row 31 3 (openRows cols_31 (List.map eTConf l24044))))] ac wd) ?_ ?_
            ·
             refine wp_block ?_
             refine r_while (fun nf ac wd => ∃ (n24105 : Int) (l24106 : List TConf),L_law05_PlainOwn_l5 n20769 n23783 nf n24105 l24106 = some e24045 ∧ SL ⟨wb,S,Φ,P0⟩ 137 981 [(4,.one (.ptr (2,0) 0)),(7,.one (.ptr (20,0) 0)),(13,.one (.own (47,0) l24106.length)),(14,.one (.d (.int .i64 n20769))),(17,.one (.d (.int .i64 n23783))),(18,.one (.d (.int .i64 n24105)))] [((2,0),some (.box 31 (cTConf r9572))),((20,0),some (.box 40 [.d (.sl (List.map eI r12838.States)),.d (.sl (List.map (eL eTMsg) r12838.Links)),.d (.sl (List.map eI r12838.Sent))])),((47,0),some (.row 31 3 (openRows cols_31 (List.map eTConf l24106))))] ac wd) (((at? (l23784.set n20769.toNat x23792) n20769).elim 0 fun x24112 => ((at? x24112.Links n23783).elim 0 fun x24114 => ((x24114.length : Int) - 0).toNat)) + 1) ⟨0,(l23784.set n20769.toNat x23792),hE24046,h.z⟩ (fun nf ac wd hJ => ?_)
             obtain ⟨n24105,l24106,hL24107,h⟩ := hJ
             cases nf with
             | zero => rw [L_law05_PlainOwn_l5] at hL24107; cases hL24107
             | succ nf =>
              rw [L_law05_PlainOwn_l5] at hL24107
              refine wp_seq ?_
              obtain ⟨x24120,hx24121a,hx24121b,hx24121c,hx24121d,hL24107⟩ := aB hL24107
              have h := h.op (47,0) n20769.toNat 1
              have h := h.sm 982 [(4,.one (.ptr (2,0) 0)),(7,.one (.ptr (20,0) 0)),(13,.one (.own (47,0) l24106.length)),(14,.one (.d (.int .i64 n20769))),(17,.one (.d (.int .i64 n23783))),(18,.one (.d (.int .i64 n24105)))]
               [((2,0),some (.box 31 (cTConf r9572))),((20,0),some (.box 40 [.d (.sl (List.map eI r12838.States)),.d (.sl (List.map (eL eTMsg) r12838.Links)),.d (.sl (List.map eI r12838.Sent))])),((47,0),some (.row 31 3 ((openRows cols_31 (List.map eTConf l24106)).set n20769.toNat [.tr (.sl 3 1 (fun _ => .sc)) (.sl (List.map eI x24120.States)),.own (981,0) x24120.Links.length,.tr (.sl 3 1 (fun _ => .sc)) (.sl (List.map eI x24120.Sent))]))),((981,0),some (.row 43 1 (openRows cols_43 (List.map (eL eTMsg) x24120.Links))))]
              obtain ⟨x24122,hx24123a,hx24123b,hx24123c,hx24123d,hL24107⟩ := aB hL24107
              have h := h.op (981,0) n23783.toNat 0
              have h := h.sm 983 [(4,.one (.ptr (2,0) 0)),(7,.one (.ptr (20,0) 0)),(13,.one (.own (47,0) l24106.length)),(14,.one (.d (.int .i64 n20769))),(17,.one (.d (.int .i64 n23783))),(18,.one (.d (.int .i64 n24105)))]
               [((2,0),some (.box 31 (cTConf r9572))),((20,0),some (.box 40 [.d (.sl (List.map eI r12838.States)),.d (.sl (List.map (eL eTMsg) r12838.Links)),.d (.sl (List.map eI r12838.Sent))])),((47,0),some (.row 31 3 ((openRows cols_31 (List.map eTConf l24106)).set n20769.toNat [.tr (.sl 3 1 (fun _ => .sc)) (.sl (List.map eI x24120.States)),.own (981,0) x24120.Links.length,.tr (.sl 3 1 (fun _ => .sc)) (.sl (List.map eI x24120.Sent))]))),((981,0),some (.row 43 1 ((openRows cols_43 (List.map (eL eTMsg) x24120.Links)).set n23783.toNat [.own (982,0) x24122.length]))),((982,0),some (.row 70 2 (dat (List.map eTMsg x24122))))]
              refine qs 994 [] [4,7,13,14,17,18,116] [(2,0),(20,0),(47,0),(981,0),(982,0)] h fun ac wd h => ?_
              have h := h.fS (cols := (fun _ => .sc)) (981,0) (982,0) (openRows cols_43 (List.map (eL eTMsg) x24120.Links)) n23783.toNat [.own (982,0) x24122.length] 0 (List.map eTMsg x24122) (sc_70 _)
              have h := h.sm 994 [(4,.one (.ptr (2,0) 0)),(7,.one (.ptr (20,0) 0)),(13,.one (.own (47,0) l24106.length)),(14,.one (.d (.int .i64 n20769))),(17,.one (.d (.int .i64 n23783))),(18,.one (.d (.int .i64 n24105))),(116,.one (.d (.bool (decide (n24105 < (x24122.length : Int))))))]
               [((2,0),some (.box 31 (cTConf r9572))),((20,0),some (.box 40 [.d (.sl (List.map eI r12838.States)),.d (.sl (List.map (eL eTMsg) r12838.Links)),.d (.sl (List.map eI r12838.Sent))])),((47,0),some (.row 31 3 ((openRows cols_31 (List.map eTConf l24106)).set n20769.toNat [.tr (.sl 3 1 (fun _ => .sc)) (.sl (List.map eI x24120.States)),.own (981,0) x24120.Links.length,.tr (.sl 3 1 (fun _ => .sc)) (.sl (List.map eI x24120.Sent))]))),((981,0),some (.row 43 1 ((openRows cols_43 (List.map (eL eTMsg) x24120.Links)).set n23783.toNat [.tr (.sl 70 2 (fun _ => .sc)) (.sl (List.map eTMsg x24122))])))]
              have h := h.fS (cols := cols_43) (47,0) (981,0) (openRows cols_31 (List.map eTConf l24106)) n20769.toNat [.tr (.sl 3 1 (fun _ => .sc)) (.sl (List.map eI x24120.States)),.own (981,0) x24120.Links.length,.tr (.sl 3 1 (fun _ => .sc)) (.sl (List.map eI x24120.Sent))] 1 (List.map (eL eTMsg) (x24120.Links.set n23783.toNat x24122)) (sc_43 _)
              have h := h.sm 994 [(4,.one (.ptr (2,0) 0)),(7,.one (.ptr (20,0) 0)),(13,.one (.own (47,0) l24106.length)),(14,.one (.d (.int .i64 n20769))),(17,.one (.d (.int .i64 n23783))),(18,.one (.d (.int .i64 n24105))),(116,.one (.d (.bool (decide (n24105 < (x24122.length : Int))))))]
               [((2,0),some (.box 31 (cTConf r9572))),((20,0),some (.box 40 [.d (.sl (List.map eI r12838.States)),.d (.sl (List.map (eL eTMsg) r12838.Links)),.d (.sl (List.map eI r12838.Sent))])),((47,0),some (.row 31 3 ((openRows cols_31 (List.map eTConf l24106)).set n20769.toNat [.tr (.sl 3 1 (fun _ => .sc)) (.sl (List.map eI x24120.States)),.tr (.sl 43 1 cols_43) (.sl (List.map (eL eTMsg) (x24120.Links.set n23783.toNat x24122))),.tr (.sl 3 1 (fun _ => .sc)) (.sl (List.map eI x24120.Sent))])))]
              rcases i2 hL24107 with ⟨hb24125,hL24107⟩ | ⟨hb24125,hL24107⟩
              ·
               refine kT h ?_
               refine wp_skip ?_
               change Code.wp Try.prog _ _ _ _
               refine wp_seq ?_
               refine wp_block ?_
               obtain ⟨v24142,hv24143,hL24107⟩ := vB hL24107
               have h := h.same [4,7,13,14,17,18,116] [(2,0),(20,0),(47,0)] 994 [(4,.one (.ptr (2,0) 0)),(7,.one (.ptr (20,0) 0)),(13,.one (.own (47,0) v24142.length)),(14,.one (.d (.int .i64 n20769))),(17,.one (.d (.int .i64 n23783))),(18,.one (.d (.int .i64 n24105))),(116,.one (.d (.bool (decide (n24105 < (x24122.length : Int))))))]
                [((2,0),some (.box 31 (cTConf r9572))),((20,0),some (.box 40 [.d (.sl (List.map eI r12838.States)),.d (.sl (List.map (eL eTMsg) r12838.Links)),.d (.sl (List.map eI r12838.Sent))])),((47,0),some (.row 31 3 (openRows cols_31 (List.map eTConf v24142))))]
                (by simp only [EZ,simprocAttr,hb9600,hb20773,hx23793a,hx23793b,hx23793c,hx23793d,hb23795,hx24121a,hx24121b,hx24121c,hx24121d,hx24123a,hx24123b,hx24123c,hx24123d,hb24125,dat_open,← hv24143] <;> rfl)
               obtain ⟨x24144,hx24145a,hx24145b,hx24145c,hx24145d,hL24107⟩ := aB hL24107
               have h := h.op (47,0) n20769.toNat 1
               have h := h.sm 995 [(4,.one (.ptr (2,0) 0)),(7,.one (.ptr (20,0) 0)),(13,.one (.own (47,0) v24142.length)),(14,.one (.d (.int .i64 n20769))),(17,.one (.d (.int .i64 n23783))),(18,.one (.d (.int .i64 n24105))),(116,.one (.d (.bool (decide (n24105 < (x24122.length : Int))))))]
                [((2,0),some (.box 31 (cTConf r9572))),((20,0),some (.box 40 [.d (.sl (List.map eI r12838.States)),.d (.sl (List.map (eL eTMsg) r12838.Links)),.d (.sl (List.map eI r12838.Sent))])),((47,0),some (.row 31 3 ((openRows cols_31 (List.map eTConf v24142)).set n20769.toNat [.tr (.sl 3 1 (fun _ => .sc)) (.sl (List.map eI x24144.States)),.own (994,0) x24144.Links.length,.tr (.sl 3 1 (fun _ => .sc)) (.sl (List.map eI x24144.Sent))]))),((994,0),some (.row 43 1 (openRows cols_43 (List.map (eL eTMsg) x24144.Links))))]
               obtain ⟨x24146,hx24147a,hx24147b,hx24147c,hx24147d,hL24107⟩ := aB hL24107
               have h := h.op (994,0) n23783.toNat 0
               have h := h.sm 996 [(4,.one (.ptr (2,0) 0)),(7,.one (.ptr (20,0) 0)),(13,.one (.own (47,0) v24142.length)),(14,.one (.d (.int .i64 n20769))),(17,.one (.d (.int .i64 n23783))),(18,.one (.d (.int .i64 n24105))),(116,.one (.d (.bool (decide (n24105 < (x24122.length : Int))))))]
                [((2,0),some (.box 31 (cTConf r9572))),((20,0),some (.box 40 [.d (.sl (List.map eI r12838.States)),.d (.sl (List.map (eL eTMsg) r12838.Links)),.d (.sl (List.map eI r12838.Sent))])),((47,0),some (.row 31 3 ((openRows cols_31 (List.map eTConf v24142)).set n20769.toNat [.tr (.sl 3 1 (fun _ => .sc)) (.sl (List.map eI x24144.States)),.own (994,0) x24144.Links.length,.tr (.sl 3 1 (fun _ => .sc)) (.sl (List.map eI x24144.Sent))]))),((994,0),some (.row 43 1 ((openRows cols_43 (List.map (eL eTMsg) x24144.Links)).set n23783.toNat [.own (995,0) x24146.length]))),((995,0),some (.row 70 2 (dat (List.map eTMsg x24146))))]
               obtain ⟨x24148,hx24149a,hx24149b,hx24149c,hx24149d,hL24107⟩ := aB hL24107
               refine qe [] [4,7,13,14,17,18] [(2,0),(20,0),(47,0),(994,0),(995,0)] h fun ac wd h => ?_
               have h := h.fS (cols := (fun _ => .sc)) (994,0) (995,0) (openRows cols_43 (List.map (eL eTMsg) x24144.Links)) n23783.toNat [.own (995,0) x24146.length] 0 (List.map eTMsg (x24146.set n24105.toNat (TMsg.mk 99 0))) (sc_70 _)
               have h := h.sm 1008 [(4,.one (.ptr (2,0) 0)),(7,.one (.ptr (20,0) 0)),(13,.one (.own (47,0) v24142.length)),(14,.one (.d (.int .i64 n20769))),(17,.one (.d (.int .i64 n23783))),(18,.one (.d (.int .i64 n24105)))]
                [((2,0),some (.box 31 (cTConf r9572))),((20,0),some (.box 40 [.d (.sl (List.map eI r12838.States)),.d (.sl (List.map (eL eTMsg) r12838.Links)),.d (.sl (List.map eI r12838.Sent))])),((47,0),some (.row 31 3 ((openRows cols_31 (List.map eTConf v24142)).set n20769.toNat [.tr (.sl 3 1 (fun _ => .sc)) (.sl (List.map eI x24144.States)),.own (994,0) x24144.Links.length,.tr (.sl 3 1 (fun _ => .sc)) (.sl (List.map eI x24144.Sent))]))),((994,0),some (.row 43 1 ((openRows cols_43 (List.map (eL eTMsg) x24144.Links)).set n23783.toNat [.tr (.sl 70 2 (fun _ => .sc)) (.sl (List.map eTMsg (x24146.set n24105.toNat (TMsg.mk 99 0))))])))]
               have h := h.fS (cols := cols_43) (47,0) (994,0) (openRows cols_31 (List.map eTConf v24142)) n20769.toNat [.tr (.sl 3 1 (fun _ => .sc)) (.sl (List.map eI x24144.States)),.own (994,0) x24144.Links.length,.tr (.sl 3 1 (fun _ => .sc)) (.sl (List.map eI x24144.Sent))] 1 (List.map (eL eTMsg) (x24144.Links.set n23783.toNat (x24146.set n24105.toNat (TMsg.mk 99 0)))) (sc_43 _)
               have h := h.sm 1008 [(4,.one (.ptr (2,0) 0)),(7,.one (.ptr (20,0) 0)),(13,.one (.own (47,0) v24142.length)),(14,.one (.d (.int .i64 n20769))),(17,.one (.d (.int .i64 n23783))),(18,.one (.d (.int .i64 n24105)))]
                [((2,0),some (.box 31 (cTConf r9572))),((20,0),some (.box 40 [.d (.sl (List.map eI r12838.States)),.d (.sl (List.map (eL eTMsg) r12838.Links)),.d (.sl (List.map eI r12838.Sent))])),((47,0),some (.row 31 3 ((openRows cols_31 (List.map eTConf v24142)).set n20769.toNat [.tr (.sl 3 1 (fun _ => .sc)) (.sl (List.map eI x24144.States)),.tr (.sl 43 1 cols_43) (.sl (List.map (eL eTMsg) (x24144.Links.set n23783.toNat (x24146.set n24105.toNat (TMsg.mk 99 0))))),.tr (.sl 3 1 (fun _ => .sc)) (.sl (List.map eI x24144.Sent))])))]
               change Code.wp Try.prog _ _ _ _
               refine qe [] [4,7,13,14,17,18] [(2,0),(20,0),(47,0)] h fun ac wd h => ?_
               exact ⟨nf,Nat.lt_succ_self nf,(IntKind.wrap .i64 (n24105 + 1)),(v24142.set n20769.toNat (TConf.mk x24144.States (x24144.Links.set n23783.toNat (x24146.set n24105.toNat (TMsg.mk 99 0))) x24144.Sent)),hL24107,h.z⟩
              ·
               refine kF h ?_
               refine wp_exit ?_
               injection hL24107 with hL24107; subst hL24107
               exact ⟨(l24106.set n20769.toNat (TConf.mk x24120.States (x24120.Links.set n23783.toNat x24122) x24120.Sent)),rfl,h.z⟩
            ·
             rintro ac wd ⟨l24044,rfl,h⟩
             (try dsimp only at hE23957)
             injection hE23957 with hE23957; subst hE23957
             exact ⟨l24044,rfl,h.z⟩
           ·
            rintro ac wd ⟨l23955,rfl,h⟩
            (try dsimp only at hL23785)
            refine qe [] [4,7,13,14,17] [(2,0),(20,0),(47,0)] h fun ac wd h => ?_
            exact ⟨nf,Nat.lt_succ_self nf,(IntKind.wrap .i64 (n23783 + 1)),l23955,hL23785,h.z⟩
          ·
           refine kF h ?_
           refine wp_exit ?_
           injection hL23785 with hL23785; subst hL23785
           exact ⟨(l23784.set n20769.toNat x23792),rfl,h.z⟩
        ·
         rintro ac wd ⟨l23416,rfl,h⟩
         (try dsimp only at hE21610)
         injection hE21610 with hE21610; subst hE21610
         exact ⟨l23416,rfl,h.z⟩
     ·
      rintro ac wd ⟨l21608,rfl,h⟩
      (try dsimp only at hL20771)
      refine qe [] [4,7,13,14] [(2,0),(20,0),(47,0)] h fun ac wd h => ?_
      exact ⟨nf,Nat.lt_succ_self nf,(IntKind.wrap .i64 (n20769 + 1)),l21608,hL20771,h.z⟩
    ·
     refine kF h ?_
     refine wp_exit ?_
     injection hL20771 with hL20771; subst hL20771
     exact ⟨rfl,h.z⟩
  ·
   rintro ac wd ⟨rfl,h⟩
   (try dsimp only at hD)
   obtain ⟨r24155,hc24156,hD⟩ := oB hD
   obtain ⟨hb24157,hD⟩ := iT hD
   obtain ⟨r24158,hc24159,hD⟩ := oB hD
   have hc9583k := L_law05_Ref_ok hc9583
   have hc24156k := L_ref05_Same_ok hc24156
   have hc24159k := L_law05_fixed_ok hc24159
   refine dsg 642 [factE 635 hc9583k,factE 637 hc24156k,factE 639 hc24159k] [none,none,none,none,none,some (some 134,true),none,none] [6] [] h fun ac wd h => ?_
   refine wp_ret ?_
   injection hD with hD
   subst hD
   exact rE h [.tmp 6]
 ·
  refine kT h ?_
  obtain ⟨r24165,hc24166,hD⟩ := oB hD
  obtain ⟨hb24167,hD⟩ := iFb hD
  obtain ⟨r24170,hc24171,hD⟩ := oB hD
  have hc24166k := L_plain_Right_ok hc24166
  have hc24171k := L_law05_fixed_ok hc24171
  refine qsg 25 [factE 19 hc24166k,factE 22 hc24171k] [none,none,none,none,none,some (some 33,true),none,none] [6] [] h fun ac wd h => ?_
  refine wp_ret ?_
  injection hD with hD
  subst hD
  exact rE h [.tmp 6]

end Go.Proofs.Ytifcbecpemaieaa
