/- Functions as typed ones,and that the program's functions answer as these do. No condition. -/
import Derived.Test.YtifcbecpemaieaaGb4
import Derived.Test.YtifcbecpemaieaaGb7
import Derived.Test.YtifcbecpemaieaaGd
set_option linter.unusedSimpArgs false
set_option linter.unusedVariables false
set_option maxRecDepth 20000
set_option maxHeartbeats 4000000
namespace Go.Proofs.Ytifcbecpemaieaa
open Go.RowKit

theorem L_law05_CutConf_own {a0 : TConf} {r : TConf} (hD : L_law05_CutConf a0 = some r) :
  CallH Try.prog 18 [.agg (cTConf a0)] []
   (.agg [.own (1,0) r.States.length,.own (1,1) r.Links.length,.own (1,2) r.Sent.length]) [((1,0),some (.row 3 1 (dat (List.map eI r.States)))),((1,1),some (.row 43 1 (openRows cols_43 (List.map (eL eTMsg) r.Links)))),((1,2),some (.row 3 1 (dat (List.map eI r.Sent))))] := by
 unfold L_law05_CutConf at hD
 refine rc Try.func18 rfl Try.ntmps18 fun S Φ P0 wb ac h => ?_
 refine qs 3 [] [1,2] [(1,0),(2,0)] h fun ac wd h => ?_
 obtain ⟨ha180,hD⟩ := iT hD
 obtain ⟨ha181,hD⟩ := iT hD
 obtain ⟨v182,hv183,hD⟩ := vB hD
 obtain ⟨ha184,hD⟩ := iT hD
 obtain ⟨ha185,hD⟩ := iT hD
 obtain ⟨ha186,hD⟩ := iT hD
 obtain ⟨v187,hv188,hD⟩ := vB hD
 obtain ⟨ha189,hD⟩ := iT hD
 refine ds 24 [] [1,2,3] [(1,0),(2,0),(11,0),(20,0),(22,0)] h fun ac wd h => ?_
 refine wp_seq ?_
 refine qs 25 [] [1,2,3,4] [(1,0),(2,0),(11,0),(20,0),(22,0)] h fun ac wd h => ?_
 refine wp_block ?_
 have h := SL.bornB h (22,0) 1 43 1 (by simp only [EZ,simprocAttr, *] <;> rfl) (by simp only [EZ,simprocAttr, *] <;> rfl)
 refine r_while (fun nf ac wd => ∃ (n311 : Int) (l312 : List (List TMsg)),L_law05_CutConf_l1 a0 v182 v187 nf n311 l312 = some r ∧ SL ⟨wb,S,Φ,P0⟩ 56 91 [(1,.one (.ptr (1,0) 0)),(2,.one (.ptr (2,0) 0)),(3,.one (.ptr (22,0) 0)),(4,.one (.d (.int .i64 n311)))] [((1,0),some (.box 31 (cTConf a0))),((2,0),some (.box 31 [.nil,.nil,.nil])),((11,0),some (.row 3 1 (dat (List.map eI v182)))),((20,0),some (.row 3 1 (dat (List.map eI v187)))),((22,0),some (.box 31 [.own (11,0) v182.length,.own (25,0) l312.length,.own (20,0) v187.length])),((25,0),some (.row 43 1 (openRows cols_43 (List.map (eL eTMsg) l312))))] ac wd) (((a0.Links.length : Int) - 0).toNat + 1) ⟨0,([] : List (List TMsg)),hD,h.z⟩ (fun nf ac wd hJ => ?_)
 obtain ⟨n311,l312,hL313,h⟩ := hJ
 cases nf with
 | zero => rw [L_law05_CutConf_l1] at hL313; cases hL313
 | succ nf =>
  rw [L_law05_CutConf_l1] at hL313
  refine wp_seq ?_
  obtain ⟨e316,hE317,hL313⟩ := Option.bind_eq_some_iff.1 hL313
  refine r_seqJ (fun ac wd => ∃ (b315 : Bool),b315 = e316 ∧ SL ⟨wb,S,Φ,P0⟩ 56 100 [(1,.one (.ptr (1,0) 0)),(2,.one (.ptr (2,0) 0)),(3,.one (.ptr (22,0) 0)),(4,.one (.d (.int .i64 n311))),(32,.one (.d (.bool b315)))] [((1,0),some (.box 31 (cTConf a0))),((2,0),some (.box 31 [.nil,.nil,.nil])),((11,0),some (.row 3 1 (dat (List.map eI v182)))),((20,0),some (.row 3 1 (dat (List.map eI v187)))),((22,0),some (.box 31 [.own (11,0) v182.length,.own (25,0) l312.length,.own (20,0) v187.length])),((25,0),some (.row 43 1 (openRows cols_43 (List.map (eL eTMsg) l312))))] ac wd) ?_ ?_
  ·
   rcases i2 hE317 with ⟨hb318,hE317⟩ | ⟨hb318,hE317⟩
   ·
    refine qeg [] [none,none,none,none,none,none,some (some 29,true),some (some 29,true),none] [1,2,3,4,32] [(1,0),(2,0),(11,0),(20,0),(22,0),(25,0)] h fun ac wd h => ?_
    injection hE317 with hE317; subst hE317
    exact ⟨decide (n311 < 40),rfl,h.z⟩
   ·
    refine qeg [] [none,none,none,none,none,none,some (some 29,true),some (some 29,true),none] [1,2,3,4,32] [(1,0),(2,0),(11,0),(20,0),(22,0),(25,0)] h fun ac wd h => ?_
    injection hE317 with hE317; subst hE317
    exact ⟨false,rfl,h.z⟩
  ·
   rintro ac wd ⟨b315,rfl,h⟩
   (try dsimp only at hL313)
   rcases i2b hL313 with ⟨hb320,hL313⟩ | ⟨hb320,hL313⟩
   ·
    refine kT h ?_
    refine wp_skip ?_
    change Code.wp Try.prog _ _ _ _
    refine wp_seq ?_
    refine wp_block ?_
    obtain ⟨x329,hx330a,hx330b,hx330c,hx330d,hL313⟩ := aB hL313
    obtain ⟨ha331,hL313⟩ := iT hL313
    obtain ⟨ha332,hL313⟩ := iT hL313
    obtain ⟨v333,hv334,hL313⟩ := vB hL313
    obtain ⟨ha335,hL313⟩ := iT hL313
    obtain ⟨ha336,hL313⟩ := iT hL313
    refine de [] [1,2,3,4] [(1,0),(2,0),(11,0),(20,0),(22,0),(116,0),(118,0)] h fun ac wd h => ?_
    have h := h.fL (cols := (fun _ => .sc)) (118,0) (116,0) (openRows cols_43 (List.map (eL eTMsg) l312)) [.own (116,0) v333.length] 0 (List.map eTMsg v333) (sc_70 _)
    have h := h.sm 121 [(1,.one (.ptr (1,0) 0)),(2,.one (.ptr (2,0) 0)),(3,.one (.ptr (22,0) 0)),(4,.one (.d (.int .i64 n311)))]
     [((1,0),some (.box 31 (cTConf a0))),((2,0),some (.box 31 [.nil,.nil,.nil])),((11,0),some (.row 3 1 (dat (List.map eI v182)))),((20,0),some (.row 3 1 (dat (List.map eI v187)))),((22,0),some (.box 31 [.own (11,0) v182.length,.own (118,0) (l312.length + 1),.own (20,0) v187.length])),((118,0),some (.row 43 1 ((openRows cols_43 (List.map (eL eTMsg) l312) ++ [[.tr (.sl 70 2 (fun _ => .sc)) (.sl (List.map eTMsg v333))]]))))]
    change Code.wp Try.prog _ _ _ _
    refine qe [] [1,2,3,4] [(1,0),(2,0),(11,0),(20,0),(22,0),(118,0)] h fun ac wd h => ?_
    have h := h.sw (25,0) (118,0) 124
    exact ⟨nf,Nat.lt_succ_self nf,(IntKind.wrap .i64 (n311 + 1)),(l312 ++ [v333]),hL313,h.z⟩
   ·
    refine kF h ?_
    refine wp_exit ?_
    change Code.wp Try.prog _ _ _ _
    refine qs 102 [] [2] [(2,0),(11,0),(20,0),(25,0)] h fun ac wd h => ?_
    refine wp_ret ?_
    have h := h.sw (1,0) (11,0) 102
    have h := h.sw (1,1) (25,0) 102
    have h := h.sw (1,2) (20,0) 102
    injection hL313 with hL313
    subst hL313
    exact rO h [.cell 2 31] [(1,0),(1,1),(1,2)]
theorem L_law05_CutConf_ok {a0 : TConf} {r : TConf} (hD : L_law05_CutConf a0 = some r) :
  CallH Try.prog 18 [.agg (cTConf a0)] []
   (.agg [.d (.sl (List.map eI r.States)),.d (.sl (List.map (eL eTMsg) r.Links)),.d (.sl (List.map eI r.Sent))]) [] :=
 (L_law05_CutConf_own hD).fr

theorem L_ref05_Right_ok {a0 : TApp} {a1 : TConf} {r : Bool} (hD : L_ref05_Right a0 a1 = some r) :
  CallH Try.prog 19 [.agg (cTApp a0),.agg (cTConf a1)] []
   (.one (.d (.bool r))) [] := by
 unfold L_ref05_Right at hD
 refine rc Try.func19 rfl Try.ntmps19 fun S Φ P0 wb ac h => ?_
 refine qs 4 [] [2,3] [(1,0),(2,0)] h fun ac wd h => ?_
 refine wp_seq ?_
 obtain ⟨e2010,hE2011,hD⟩ := Option.bind_eq_some_iff.1 hD
 refine r_seqJ (fun ac wd => ∃ (b2009 : Bool),b2009 = e2010 ∧ SL ⟨wb,S,Φ,P0⟩ 138 39 [(2,.one (.ptr (1,0) 0)),(3,.one (.ptr (2,0) 0)),(44,.one (.d (.bool b2009)))] [((1,0),some (.box 38 (cTApp a0))),((2,0),some (.box 40 (cTConf a1)))] ac wd) ?_ ?_
 ·
  obtain ⟨r2012,hc2013,hE2011⟩ := oB hE2011
  rcases i2b hE2011 with ⟨hb2014,hE2011⟩ | ⟨hb2014,hE2011⟩
  ·
   rcases i2e hE2011 with ⟨hb2015,hE2011⟩ | ⟨hb2015,hE2011⟩
   ·
    rcases i2e hE2011 with ⟨hb2016,hE2011⟩ | ⟨hb2016,hE2011⟩
    ·
     have hc2013k := L_ref04_Right_ok hc2013
     refine qeg [factE 8 hc2013k] [none,none,none,none,none,none,none,some (some 16,false),some (some 16,false),some (some 16,false),some (some 16,false),some (some 16,false),some (some 16,false),some (some 16,false),none,none,some (some 25,false),some (some 25,false),some (some 25,false),some (some 25,false),some (some 25,false),some (some 25,false),some (some 25,false),some (some 25,false),none,none,some (some 35,false),some (some 35,false),some (some 35,false),some (some 35,false),some (some 35,false),some (some 35,false),some (some 35,false),some (some 35,false),none] [2,3,44] [(1,0),(2,0)] h fun ac wd h => ?_
     injection hE2011 with hE2011; subst hE2011
     exact ⟨!(decide ((a1.Sent.length : Int) = (a0.G.Links.length : Int))),rfl,h.z⟩
    ·
     have hc2013k := L_ref04_Right_ok hc2013
     refine qeg [factE 8 hc2013k] [none,none,none,none,none,none,none,some (some 16,false),some (some 16,false),some (some 16,false),some (some 16,false),some (some 16,false),some (some 16,false),some (some 16,false),none,none,some (some 25,false),some (some 25,false),some (some 25,false),some (some 25,false),some (some 25,false),some (some 25,false),some (some 25,false),some (some 25,false),none,none,some (some 35,false),some (some 35,false),some (some 35,false),some (some 35,false),some (some 35,false),some (some 35,false),some (some 35,false),some (some 35,false),none] [2,3,44] [(1,0),(2,0)] h fun ac wd h => ?_
     injection hE2011 with hE2011; subst hE2011
     exact ⟨true,rfl,h.z⟩
   ·
    have hc2013k := L_ref04_Right_ok hc2013
    refine qeg [factE 8 hc2013k] [none,none,none,none,none,none,none,some (some 16,false),some (some 16,false),some (some 16,false),some (some 16,false),some (some 16,false),some (some 16,false),some (some 16,false),none,none,some (some 25,false),some (some 25,false),some (some 25,false),some (some 25,false),some (some 25,false),some (some 25,false),some (some 25,false),some (some 25,false),none,none,some (some 35,false),some (some 35,false),some (some 35,false),some (some 35,false),some (some 35,false),some (some 35,false),some (some 35,false),some (some 35,false),none] [2,3,44] [(1,0),(2,0)] h fun ac wd h => ?_
    injection hE2011 with hE2011; subst hE2011
    exact ⟨true,rfl,h.z⟩
  ·
   have hc2013k := L_ref04_Right_ok hc2013
   refine qeg [factE 8 hc2013k] [none,none,none,none,none,none,none,some (some 16,false),some (some 16,false),some (some 16,false),some (some 16,false),some (some 16,false),some (some 16,false),some (some 16,false),none,none,some (some 25,false),some (some 25,false),some (some 25,false),some (some 25,false),some (some 25,false),some (some 25,false),some (some 25,false),some (some 25,false),none,none,some (some 35,false),some (some 35,false),some (some 35,false),some (some 35,false),some (some 35,false),some (some 35,false),some (some 35,false),some (some 35,false),none] [2,3,44] [(1,0),(2,0)] h fun ac wd h => ?_
   injection hE2011 with hE2011; subst hE2011
   exact ⟨true,rfl,h.z⟩
 ·
  rintro ac wd ⟨b2009,rfl,h⟩
  (try dsimp only at hD)
  rcases i2b hD with ⟨hb2018,hD⟩ | ⟨hb2018,hD⟩
  ·
   refine kT h ?_
   refine qs 40 [] [4] [] h fun ac wd h => ?_
   refine wp_ret ?_
   injection hD with hD
   subst hD
   exact rE h [.tmp 4]
  ·
   refine kF h ?_
   refine wp_skip ?_
   change Code.wp Try.prog _ _ _ _
   refine wp_seq ?_
   refine qs 40 [] [2,3,5] [(1,0),(2,0)] h fun ac wd h => ?_
   obtain ⟨e2111,hE2112,hD⟩ := Option.bind_eq_some_iff.1 hD
   refine r_meet (fun ac wd => (.inl ()) = e2111 ∧ SL ⟨wb,S,Φ,P0⟩ 138 103 [(3,.one (.ptr (2,0) 0))] [((2,0),some (.box 40 (cTConf a1)))] ac wd) ?_ ?_
   ·
    refine wp_block ?_
    refine r_while (fun nf ac wd => ∃ (n2174 : Int),L_ref05_Right_l1 a0 a1 nf n2174 = some e2111 ∧ SL ⟨wb,S,Φ,P0⟩ 138 98 [(2,.one (.ptr (1,0) 0)),(3,.one (.ptr (2,0) 0)),(5,.one (.d (.int .i64 n2174)))] [((1,0),some (.box 38 (cTApp a0))),((2,0),some (.box 40 (cTConf a1)))] ac wd) (((a1.States.length : Int) - 0).toNat + 1) ⟨0,hE2112,h.z⟩ (fun nf ac wd hJ => ?_)
    obtain ⟨n2174,hL2175,h⟩ := hJ
    cases nf with
    | zero => rw [L_ref05_Right_l1] at hL2175; cases hL2175
    | succ nf =>
     rw [L_ref05_Right_l1] at hL2175
     refine wp_seq ?_
     refine qs 103 [] [2,3,5,49] [(1,0),(2,0)] h fun ac wd h => ?_
     rcases i2 hL2175 with ⟨hb2177,hL2175⟩ | ⟨hb2177,hL2175⟩
     ·
      refine kT h ?_
      refine wp_skip ?_
      change Code.wp Try.prog _ _ _ _
      refine wp_seq ?_
      refine wp_block ?_
      obtain ⟨e2198,hE2199,hL2175⟩ := Option.bind_eq_some_iff.1 hL2175
      refine r_seqJ (fun ac wd => ∃ (b2197 : Bool),b2197 = e2198 ∧ SL ⟨wb,S,Φ,P0⟩ 138 124 [(2,.one (.ptr (1,0) 0)),(3,.one (.ptr (2,0) 0)),(5,.one (.d (.int .i64 n2174))),(72,.one (.d (.bool b2197)))] [((1,0),some (.box 38 (cTApp a0))),((2,0),some (.box 40 (cTConf a1)))] ac wd) ?_ ?_
      ·
       obtain ⟨x2200,hx2201a,hx2201b,hx2201c,hx2201d,hE2199⟩ := aB hE2199
       rcases i2 hE2199 with ⟨hb2202,hE2199⟩ | ⟨hb2202,hE2199⟩
       ·
        refine deg [] [none,none,none,none,none,none,none,some (some 58,false),some (some 58,false),some (some 58,false),some (some 58,false),some (some 58,false),some (some 58,false),some (some 58,false),some (some 58,false),some (some 58,false),some (some 58,false),some (some 58,false),some (some 58,false),some (some 58,false),none] [2,3,5,72] [(1,0),(2,0)] h fun ac wd h => ?_
        injection hE2199 with hE2199; subst hE2199
        exact ⟨true,rfl,h.z⟩
       ·
        obtain ⟨x2203,hx2204a,hx2204b,hx2204c,hx2204d,hE2199⟩ := aB hE2199
        refine deg [] [none,none,none,none,none,none,none,some (some 58,false),some (some 58,false),some (some 58,false),some (some 58,false),some (some 58,false),some (some 58,false),some (some 58,false),some (some 58,false),some (some 58,false),some (some 58,false),some (some 58,false),some (some 58,false),some (some 58,false),none] [2,3,5,72] [(1,0),(2,0)] h fun ac wd h => ?_
        injection hE2199 with hE2199; subst hE2199
        exact ⟨decide (x2200 ≥ (x2203.States.length : Int)),rfl,h.z⟩
      ·
       rintro ac wd ⟨b2197,rfl,h⟩
       (try dsimp only at hL2175)
       rcases i2b hL2175 with ⟨hb2205,hL2175⟩ | ⟨hb2205,hL2175⟩
       ·
        refine kT h ?_
        refine qs 125 [] [4] [] h fun ac wd h => ?_
        refine wp_ret ?_
        injection hL2175 with hL2175
        subst hL2175
        (try dsimp only at hD)
        injection hD with hD
        subst hD
        exact rE h [.tmp 4]
       ·
        refine kF h ?_
        refine wp_skip ?_
        change Code.wp Try.prog _ _ _ _
        refine qe [] [2,3,5] [(1,0),(2,0)] h fun ac wd h => ?_
        exact ⟨nf,Nat.lt_succ_self nf,(IntKind.wrap .i64 (n2174 + 1)),hL2175,h.z⟩
     ·
      refine kF h ?_
      refine wp_exit ?_
      injection hL2175 with hL2175; subst hL2175
      exact ⟨rfl,h.z⟩
   ·
    rintro ac wd ⟨rfl,h⟩
    (try dsimp only at hD)
    refine wp_seq ?_
    refine qs 104 [] [3,6] [(2,0)] h fun ac wd h => ?_
    refine wp_block ?_
    refine r_while (fun nf ac wd => ∃ (n3704 : Int),L_ref05_Right_l2 a1 nf n3704 = some r ∧ SL ⟨wb,S,Φ,P0⟩ 138 360 [(3,.one (.ptr (2,0) 0)),(6,.one (.d (.int .i64 n3704)))] [((2,0),some (.box 40 (cTConf a1)))] ac wd) (((a1.Links.length : Int) - 0).toNat + 1) ⟨0,hD,h.z⟩ (fun nf ac wd hJ => ?_)
    obtain ⟨n3704,hL3705,h⟩ := hJ
    cases nf with
    | zero => rw [L_ref05_Right_l2] at hL3705; cases hL3705
    | succ nf =>
     rw [L_ref05_Right_l2] at hL3705
     refine wp_seq ?_
     refine qs 365 [] [3,6,77] [(2,0)] h fun ac wd h => ?_
     rcases i2 hL3705 with ⟨hb3707,hL3705⟩ | ⟨hb3707,hL3705⟩
     ·
      refine kT h ?_
      refine wp_skip ?_
      change Code.wp Try.prog _ _ _ _
      obtain ⟨e3855,hE3856,hL3705⟩ := Option.bind_eq_some_iff.1 hL3705
      refine r_seqJ (fun ac wd => (.inl ()) = e3855 ∧ SL ⟨wb,S,Φ,P0⟩ 138 485 [(3,.one (.ptr (2,0) 0)),(6,.one (.d (.int .i64 n3704)))] [((2,0),some (.box 40 (cTConf a1)))] ac wd) ?_ ?_
      ·
       refine wp_block ?_
       refine wp_seq ?_
       obtain ⟨e3861,hE3862,hE3856⟩ := Option.bind_eq_some_iff.1 hE3856
       refine r_seqJ (fun ac wd => ∃ (b3860 : Bool),b3860 = e3861 ∧ SL ⟨wb,S,Φ,P0⟩ 138 379 [(3,.one (.ptr (2,0) 0)),(6,.one (.d (.int .i64 n3704))),(93,.one (.d (.bool b3860)))] [((2,0),some (.box 40 (cTConf a1)))] ac wd) ?_ ?_
       ·
        obtain ⟨x3863,hx3864a,hx3864b,hx3864c,hx3864d,hE3862⟩ := aB hE3862
        rcases i2 hE3862 with ⟨hb3865,hE3862⟩ | ⟨hb3865,hE3862⟩
        ·
         refine qeg [] [none,none,none,none,none,none,none,some (some 86,false),some (some 86,false),some (some 86,false),some (some 86,false),some (some 86,false),some (some 86,false),none] [3,6,93] [(2,0)] h fun ac wd h => ?_
         injection hE3862 with hE3862; subst hE3862
         exact ⟨true,rfl,h.z⟩
        ·
         refine qeg [] [none,none,none,none,none,none,none,some (some 86,false),some (some 86,false),some (some 86,false),some (some 86,false),some (some 86,false),some (some 86,false),none] [3,6,93] [(2,0)] h fun ac wd h => ?_
         injection hE3862 with hE3862; subst hE3862
         exact ⟨decide (x3863 > 500),rfl,h.z⟩
       ·
        rintro ac wd ⟨b3860,rfl,h⟩
        (try dsimp only at hE3856)
        rcases i2b hE3856 with ⟨hb3867,hE3856⟩ | ⟨hb3867,hE3856⟩
        ·
         refine kT h ?_
         refine qs 380 [] [4] [] h fun ac wd h => ?_
         refine wp_ret ?_
         injection hE3856 with hE3856
         subst hE3856
         (try dsimp only at hL3705)
         injection hL3705 with hL3705
         subst hL3705
         exact rE h [.tmp 4]
        ·
         refine kF h ?_
         refine wp_skip ?_
         change Code.wp Try.prog _ _ _ _
         refine qs 380 [] [3,6,7] [(2,0)] h fun ac wd h => ?_
         refine qs 381 [] [3,6,7,8] [(2,0)] h fun ac wd h => ?_
         obtain ⟨e4004,hE4005,hE3856⟩ := Option.bind_eq_some_iff.1 hE3856
         refine r_meetQ (fun ac wd => (.inl ()) = e4004 ∧ SL ⟨wb,S,Φ,P0⟩ 138 485 [(3,.one (.ptr (2,0) 0)),(6,.one (.d (.int .i64 n3704)))] [((2,0),some (.box 40 (cTConf a1)))] ac wd) ?_ ?_
         ·
          refine wp_block ?_
          refine r_while (fun nf ac wd => ∃ (n4096 : Int) (n4097 : Int),L_ref05_Right_l3 a1 n3704 nf n4096 n4097 = some e4004 ∧ SL ⟨wb,S,Φ,P0⟩ 138 477 [(3,.one (.ptr (2,0) 0)),(6,.one (.d (.int .i64 n3704))),(7,.one (.d (.int .i64 n4096))),(8,.one (.d (.int .i64 n4097)))] [((2,0),some (.box 40 (cTConf a1)))] ac wd) (a1.Links.flatten.length + 1) ⟨0,0,hE4005,h.z⟩ (fun nf ac wd hJ => ?_)
          obtain ⟨n4096,n4097,hL4098,h⟩ := hJ
          cases nf with
          | zero => rw [L_ref05_Right_l3] at hL4098; cases hL4098
          | succ nf =>
           rw [L_ref05_Right_l3] at hL4098
           refine wp_seq ?_
           obtain ⟨x4101,hx4102a,hx4102b,hx4102c,hx4102d,hL4098⟩ := aB hL4098
           refine qs 485 [] [3,6,7,8,101] [(2,0)] h fun ac wd h => ?_
           rcases i2 hL4098 with ⟨hb4104,hL4098⟩ | ⟨hb4104,hL4098⟩
           ·
            refine kT h ?_
            refine wp_skip ?_
            change Code.wp Try.prog _ _ _ _
            refine wp_seq ?_
            refine wp_block ?_
            obtain ⟨x4126,hx4127a,hx4127b,hx4127c,hx4127d,hL4098⟩ := aB hL4098
            refine qs 495 [] [3,6,7,8,9] [(2,0),(493,0)] h fun ac wd h => ?_
            refine wp_seq ?_
            obtain ⟨e4134,hE4135,hL4098⟩ := Option.bind_eq_some_iff.1 hL4098
            refine r_seqJ (fun ac wd => ∃ (b4133 : Bool),b4133 = e4134 ∧ SL ⟨wb,S,Φ,P0⟩ 138 519 [(3,.one (.ptr (2,0) 0)),(6,.one (.d (.int .i64 n3704))),(8,.one (.d (.int .i64 n4097))),(9,.one (.ptr (493,0) 0)),(135,.one (.d (.bool b4133)))] [((2,0),some (.box 40 (cTConf a1))),((493,0),some (.box 70 (cTMsg x4126)))] ac wd) ?_ ?_
            ·
             rcases i2 hE4135 with ⟨hb4136,hE4135⟩ | ⟨hb4136,hE4135⟩
             ·
              refine deg [] [none,none,none,none,none,some (some 116,false),some (some 116,false),some (some 116,false),some (some 116,false),some (some 116,false),some (some 116,false),some (some 116,false),some (some 116,false),none,none,some (some 126,false),some (some 126,false),some (some 126,false),none,none,some (some 131,false),some (some 131,false),some (some 131,false),none] [3,6,8,9,135] [(2,0),(493,0)] h fun ac wd h => ?_
              injection hE4135 with hE4135; subst hE4135
              exact ⟨true,rfl,h.z⟩
             ·
              obtain ⟨x4137,hx4138a,hx4138b,hx4138c,hx4138d,hE4135⟩ := aB hE4135
              rcases i2 hE4135 with ⟨hb4139,hE4135⟩ | ⟨hb4139,hE4135⟩
              ·
               refine deg [] [none,none,none,none,none,some (some 116,false),some (some 116,false),some (some 116,false),some (some 116,false),some (some 116,false),some (some 116,false),some (some 116,false),some (some 116,false),none,none,some (some 126,false),some (some 126,false),some (some 126,false),none,none,some (some 131,false),some (some 131,false),some (some 131,false),none] [3,6,8,9,135] [(2,0),(493,0)] h fun ac wd h => ?_
               injection hE4135 with hE4135; subst hE4135
               exact ⟨true,rfl,h.z⟩
              ·
               rcases i2 hE4135 with ⟨hb4140,hE4135⟩ | ⟨hb4140,hE4135⟩
               ·
                refine deg [] [none,none,none,none,none,some (some 116,false),some (some 116,false),some (some 116,false),some (some 116,false),some (some 116,false),some (some 116,false),some (some 116,false),some (some 116,false),none,none,some (some 126,false),some (some 126,false),some (some 126,false),none,none,some (some 131,false),some (some 131,false),some (some 131,false),none] [3,6,8,9,135] [(2,0),(493,0)] h fun ac wd h => ?_
                injection hE4135 with hE4135; subst hE4135
                exact ⟨true,rfl,h.z⟩
               ·
                refine deg [] [none,none,none,none,none,some (some 116,false),some (some 116,false),some (some 116,false),some (some 116,false),some (some 116,false),some (some 116,false),some (some 116,false),some (some 116,false),none,none,some (some 126,false),some (some 126,false),some (some 126,false),none,none,some (some 131,false),some (some 131,false),some (some 131,false),none] [3,6,8,9,135] [(2,0),(493,0)] h fun ac wd h => ?_
                injection hE4135 with hE4135; subst hE4135
                exact ⟨decide (x4126.Letter > 3),rfl,h.z⟩
            ·
             rintro ac wd ⟨b4133,rfl,h⟩
             (try dsimp only at hL4098)
             rcases i2b hL4098 with ⟨hb4142,hL4098⟩ | ⟨hb4142,hL4098⟩
             ·
              refine kT h ?_
              refine qs 520 [] [4] [] h fun ac wd h => ?_
              refine wp_ret ?_
              injection hL4098 with hL4098
              subst hL4098
              (try dsimp only at hE3856)
              injection hE3856 with hE3856
              subst hE3856
              (try dsimp only at hL3705)
              injection hL3705 with hL3705
              subst hL3705
              exact rE h [.tmp 4]
             ·
              refine kF h ?_
              refine wp_skip ?_
              change Code.wp Try.prog _ _ _ _
              refine qe [] [3,6,7,8] [(2,0)] h fun ac wd h => ?_
              change Code.wp Try.prog _ _ _ _
              refine qe [] [3,6,7,8] [(2,0)] h fun ac wd h => ?_
              exact ⟨nf,Nat.lt_succ_self nf,x4126.Seq,(IntKind.wrap .i64 (n4097 + 1)),hL4098,h.z⟩
           ·
            refine kF h ?_
            refine wp_exit ?_
            injection hL4098 with hL4098; subst hL4098
            exact ⟨rfl,h.z⟩
         ·
          rintro ac wd ⟨rfl,h⟩
          (try dsimp only at hE3856)
          injection hE3856 with hE3856; subst hE3856
          exact ⟨rfl,h.z⟩
      ·
       rintro ac wd ⟨rfl,h⟩
       (try dsimp only at hL3705)
       refine qe [] [3,6] [(2,0)] h fun ac wd h => ?_
       exact ⟨nf,Nat.lt_succ_self nf,(IntKind.wrap .i64 (n3704 + 1)),hL3705,h.z⟩
     ·
      refine kF h ?_
      refine wp_exit ?_
      change Code.wp Try.prog _ _ _ _
      refine qs 366 [] [4] [] h fun ac wd h => ?_
      refine wp_ret ?_
      injection hL3705 with hL3705
      subst hL3705
      exact rE h [.tmp 4]

theorem L_law15_wait_own {a0 : Int} {r : TNode} (hD : L_law15_wait a0 = some r) :
  CallH Try.prog 102 [.one (.d (.int .i64 a0))] []
   (.agg [.d (.int .i64 r.Start),.own (1,0) r.States.length]) [((1,0),some (.row 141 4 (openRows cols_141 (List.map eTState r.States))))] := by
 unfold L_law15_wait at hD
 refine rc Try.func102 rfl Try.ntmps102 fun S Φ P0 wb ac h => ?_
 refine qs 2 [] [0,2] [(1,0)] h fun ac wd h => ?_
 refine qs 8 [] [2] [(1,0),(3,0),(5,0)] h fun ac wd h => ?_
 have h := h.nilTr (5,0) (l := [[.d (.int .i64 2),.own (3,0) 1,.nil,.nil]]) (l' := [[.d (.int .i64 2),.own (3,0) 1,.tr (.sl 149 2 cols_149) (.sl (List.map eTPick [])),.tr (.sl 151 3 (fun _ => .sc)) (.sl (List.map eTTake []))]]) (by simp only [EZ,simprocAttr] <;> rfl) (RowsTo.cons (RowTo.cons (.inl rfl) (RowTo.cons (.inl rfl) (RowTo.cons (.inr (.inr ⟨rfl,_,_,_,rfl⟩)) (RowTo.cons (.inr (.inr ⟨rfl,_,_,_,rfl⟩)) RowTo.nil)))) (RowsTo.refl []))
 have h := h.sm 8 [(2,.one (.ptr (1,0) 0))]
  [((1,0),some (.box 120 [.d (.int .i64 0),.own (5,0) 1])),((3,0),some (.row 3 1 (dat (List.map eI [a0])))),((5,0),some (.row 141 4 ([[.d (.int .i64 2),.own (3,0) 1,.tr (.sl 149 2 cols_149) (.sl (List.map eTPick [])),.tr (.sl 151 3 (fun _ => .sc)) (.sl (List.map eTTake []))]])))]
 have h := h.fL (cols := (fun _ => .sc)) (5,0) (3,0) ([]) [.d (.int .i64 2),.own (3,0) 1,.tr (.sl 149 2 cols_149) (.sl (List.map eTPick [])),.tr (.sl 151 3 (fun _ => .sc)) (.sl (List.map eTTake []))] 1 (List.map eI [a0]) (sc_3 _)
 have h := h.sm 8 [(2,.one (.ptr (1,0) 0))]
  [((1,0),some (.box 120 [.d (.int .i64 0),.own (5,0) 1])),((5,0),some (.row 141 4 ([[.d (.int .i64 2),.tr (.sl 3 1 (fun _ => .sc)) (.sl (List.map eI [a0])),.tr (.sl 149 2 cols_149) (.sl (List.map eTPick [])),.tr (.sl 151 3 (fun _ => .sc)) (.sl (List.map eTTake []))]])))]
 refine wp_ret ?_
 have h := h.sw (1,0) (5,0) 8
 injection hD with hD
 subst hD
 exact rO h [.cell 2 120] [(1,0)]
theorem L_law15_wait_ok {a0 : Int} {r : TNode} (hD : L_law15_wait a0 = some r) :
  CallH Try.prog 102 [.one (.d (.int .i64 a0))] []
   (.agg [.d (.int .i64 r.Start),.d (.sl (List.map eTState r.States))]) [] :=
 (L_law15_wait_own hD).fr

theorem L_law15_Dead_own {r : TApp} (hD : L_law15_Dead = some r) :
  CallH Try.prog 69 [] []
   (.agg [.d (.int .i64 r.G.N),.own (1,0) r.G.Links.length,.own (1,1) r.T.length,.d (.bool r.Fifo)]) [((1,0),some (.row 97 2 (dat (List.map eA2I r.G.Links)))),((1,1),some (.row 120 2 (dat (List.map eTNode r.T))))] := by
 unfold L_law15_Dead at hD
 refine rc Try.func69 rfl Try.ntmps69 fun S Φ P0 wb ac h => ?_
 refine qs 2 [] [0] [(1,0)] h fun ac wd h => ?_
 obtain ⟨r19,hc20,hD⟩ := oB hD
 obtain ⟨r21,hc22,hD⟩ := oB hD
 obtain ⟨r23,hc24,hD⟩ := oB hD
 have hc20_2 := ((L_graph_Full_own hc20).cls 2).z
 have hc22k := L_law15_wait_ok hc22
 have hc24k := L_law15_wait_ok hc24
 have hc24k := L_law15_wait_ok hc24
 refine qs 9 [factO hc20_2,factE 3 hc22k,factE 4 hc24k,factE 5 hc24k] [0] [(1,0),(2,0),(6,0)] h fun ac wd h => ?_
 refine wp_ret ?_
 have h := h.sw (1,0) (2,0) 9
 have h := h.sw (1,1) (6,0) 9
 injection hD with hD
 subst hD
 exact rO h [.cell 0 27] [(1,0),(1,1)]
theorem L_law15_Dead_ok {r : TApp} (hD : L_law15_Dead = some r) :
  CallH Try.prog 69 [] []
   (.agg [.d (.int .i64 r.G.N),.d (.sl (List.map eA2I r.G.Links)),.d (.sl (List.map eTNode r.T)),.d (.bool r.Fifo)]) [] :=
 (L_law15_Dead_own hD).fr

theorem L_slices_Clone_int_int_own {a0 : (List Int)} {r : (List Int)} (hD : L_slices_Clone_int_int a0 = some r) :
  CallH Try.prog 122 [.one (.d (.sl (List.map eI a0)))] []
   (.one (.own (1,0) r.length)) [((1,0),some (.row 3 1 (dat (List.map eI r))))] := by
 unfold L_slices_Clone_int_int at hD
 refine rc Try.func122 rfl Try.ntmps122 fun S Φ P0 wb ac h => ?_
 refine qs 2 [] [0] [] h fun ac wd h => ?_
 refine wp_seq ?_
 refine qs 4 [] [0,4] [] h fun ac wd h => ?_
 refine r_condB h (by simp only [EZ,simprocAttr, *] <;> rfl) (fun hn6 => ?_) (fun hn6 => ?_)
 ·
  have hn6 := hn6 rfl
  obtain rfl : a0 = [] := List.eq_nil_of_length_eq_zero (by simpa using hn6)
  have hD : (some []) = some r := by simpa using hD
  refine qs 5 [] [2] [] h fun ac wd h => ?_
  refine wp_ret ?_
  have h := SL.bornS h 2 3 1 (by simp only [EZ,simprocAttr, *] <;> rfl)
  have h := h.sw (1,0) (5,0) 6
  injection hD with hD
  subst hD
  exact rO h [.tmp 2] [(1,0)]
 ·
  refine wp_skip ?_
  change Code.wp Try.prog _ _ _ _
  obtain ⟨ha8,hD⟩ := iT hD
  refine qs 8 [] [2] [(6,0)] h fun ac wd h => ?_
  refine wp_ret ?_
  have h := h.sw (1,0) (6,0) 8
  injection hD with hD
  subst hD
  exact rO h [.tmp 2] [(1,0)]
theorem L_table_Waits_own {a0 : (List TNode)} {a1 : Int} {a2 : Int} {r : (List Int)} (hD : L_table_Waits a0 a1 a2 = some r) :
  CallH Try.prog 103 [.one (.d (.sl (List.map eTNode a0))),.one (.d (.int .i64 a1)),.one (.d (.int .i64 a2))] []
   (.one (.own (1,0) r.length)) [((1,0),some (.row 3 1 (dat (List.map eI r))))] := by
 unfold L_table_Waits at hD
 refine rc Try.func103 rfl Try.ntmps103 fun S Φ P0 wb ac h => ?_
 refine qs 2 [] [0,1,2] [] h fun ac wd h => ?_
 obtain ⟨r11,hc12,hD⟩ := oB hD
 have hc12k := L_table_at_ok hc12
 refine qs 12 [factE 5 hc12k] [7] [(9,0)] h fun ac wd h => ?_
 obtain ⟨r15,hc16,hD⟩ := oB hD
 have hc16_14 := ((L_slices_Clone_int_int_own hc16).cls 14).z
 refine qs 16 [factO hc16_14] [6] [(14,0)] h fun ac wd h => ?_
 refine wp_ret ?_
 have h := h.sw (1,0) (14,0) 16
 injection hD with hD
 subst hD
 exact rO h [.tmp 6] [(1,0)]
theorem L_table_Waits_ok {a0 : (List TNode)} {a1 : Int} {a2 : Int} {r : (List Int)} (hD : L_table_Waits a0 a1 a2 = some r) :
  CallH Try.prog 103 [.one (.d (.sl (List.map eTNode a0))),.one (.d (.int .i64 a1)),.one (.d (.int .i64 a2))] []
   (.one (.d (.sl (List.map eI r)))) [] :=
 (L_table_Waits_own hD).fr

theorem L_knot_Edges_own {a0 : TApp} {a1 : TConf} {r : (List A2I)} (hD : L_knot_Edges a0 a1 = some r) :
  CallH Try.prog 71 [.agg (cTApp a0),.agg (cTConf a1)] []
   (.one (.own (1,0) r.length)) [((1,0),some (.row 97 2 (dat (List.map eA2I r))))] := by
 unfold L_knot_Edges at hD
 refine rc Try.func71 rfl Try.ntmps71 fun S Φ P0 wb ac h => ?_
 refine qs 4 [] [2,3] [(1,0),(2,0)] h fun ac wd h => ?_
 refine qs 5 [] [2,3,5] [(1,0),(2,0)] h fun ac wd h => ?_
 refine wp_seq ?_
 refine qs 9 [] [2,3,5,12,13,14] [(1,0),(2,0)] h fun ac wd h => ?_
 refine wp_block ?_
 have h := SL.bornS h 5 97 2 (by simp only [EZ,simprocAttr, *] <;> rfl)
 refine r_while (fun nf ac wd => ∃ (n3159 : Int) (l3160 : List A2I),L_knot_Edges_l1 a0 a1 nf n3159 l3160 = some r ∧ SL ⟨wb,S,Φ,P0⟩ 54 161 [(2,.one (.ptr (1,0) 0)),(3,.one (.ptr (2,0) 0)),(5,.one (.own (9,0) l3160.length)),(12,.one (.d (.sl (List.map eI a1.States)))),(13,.one (.d (.int .i64 (a1.States.length : Int)))),(14,.one (.d (.int .i64 n3159)))] [((1,0),some (.box 27 (cTApp a0))),((2,0),some (.box 31 (cTConf a1))),((9,0),some (.row 97 2 (dat (List.map eA2I l3160))))] ac wd) (((a1.States.length : Int) - 0).toNat + 1) ⟨0,([] : List A2I),hD,h.z⟩ (fun nf ac wd hJ => ?_)
 obtain ⟨n3159,l3160,hL3161,h⟩ := hJ
 cases nf with
 | zero => rw [L_knot_Edges_l1] at hL3161; cases hL3161
 | succ nf =>
  rw [L_knot_Edges_l1] at hL3161
  refine qs 162 [] [2,3,5,12,13,14,15] [(1,0),(2,0),(9,0)] h fun ac wd h => ?_
  refine wp_seq ?_
  rcases i2 hL3161 with ⟨hb3163,hL3161⟩ | ⟨hb3163,hL3161⟩
  ·
   refine kT h ?_
   refine wp_skip ?_
   change Code.wp Try.prog _ _ _ _
   obtain ⟨e3306,hE3307,hL3161⟩ := Option.bind_eq_some_iff.1 hL3161
   refine r_seqJ (fun ac wd => ∃ (l3305 : List A2I),l3305 = e3306 ∧ SL ⟨wb,S,Φ,P0⟩ 54 235 [(2,.one (.ptr (1,0) 0)),(3,.one (.ptr (2,0) 0)),(5,.one (.own (9,0) l3305.length)),(12,.one (.d (.sl (List.map eI a1.States)))),(13,.one (.d (.int .i64 (a1.States.length : Int)))),(14,.one (.d (.int .i64 n3159)))] [((1,0),some (.box 27 (cTApp a0))),((2,0),some (.box 31 (cTConf a1))),((9,0),some (.row 97 2 (dat (List.map eA2I l3305))))] ac wd) ?_ ?_
   ·
    refine wp_block ?_
    obtain ⟨x3310,hx3311a,hx3311b,hx3311c,hx3311d,hE3307⟩ := aB hE3307
    refine qs 167 [] [2,3,5,6,7,12,13,14] [(1,0),(2,0),(9,0)] h fun ac wd h => ?_
    obtain ⟨r3314,hc3315,hE3307⟩ := oB hE3307
    have hc3315k := L_table_Waits_ok hc3315
    refine qs 174 [factE 171 hc3315k] [2,3,5,6,12,13,14,23,24,25] [(1,0),(2,0),(9,0)] h fun ac wd h => ?_
    obtain ⟨e3450,hE3451,hE3307⟩ := Option.bind_eq_some_iff.1 hE3307
    refine r_meetQ (fun ac wd => ∃ (l3449 : List A2I),l3449 = e3450 ∧ SL ⟨wb,S,Φ,P0⟩ 54 235 [(2,.one (.ptr (1,0) 0)),(3,.one (.ptr (2,0) 0)),(5,.one (.own (9,0) l3449.length)),(12,.one (.d (.sl (List.map eI a1.States)))),(13,.one (.d (.int .i64 (a1.States.length : Int)))),(14,.one (.d (.int .i64 n3159)))] [((1,0),some (.box 27 (cTApp a0))),((2,0),some (.box 31 (cTConf a1))),((9,0),some (.row 97 2 (dat (List.map eA2I l3449))))] ac wd) ?_ ?_
    ·
     refine wp_block ?_
     refine r_while (fun nf ac wd => ∃ (n3540 : Int) (l3541 : List A2I),L_knot_Edges_l2 a0 a1 n3159 r3314 nf n3540 l3541 = some e3450 ∧ SL ⟨wb,S,Φ,P0⟩ 54 234 [(2,.one (.ptr (1,0) 0)),(3,.one (.ptr (2,0) 0)),(5,.one (.own (9,0) l3541.length)),(6,.one (.d (.int .i64 n3159))),(12,.one (.d (.sl (List.map eI a1.States)))),(13,.one (.d (.int .i64 (a1.States.length : Int)))),(14,.one (.d (.int .i64 n3159))),(23,.one (.d (.sl (List.map eI r3314)))),(24,.one (.d (.int .i64 (r3314.length : Int)))),(25,.one (.d (.int .i64 n3540)))] [((1,0),some (.box 27 (cTApp a0))),((2,0),some (.box 31 (cTConf a1))),((9,0),some (.row 97 2 (dat (List.map eA2I l3541))))] ac wd) (((r3314.length : Int) - 0).toNat + 1) ⟨0,l3160,hE3451,h.z⟩ (fun nf ac wd hJ => ?_)
     obtain ⟨n3540,l3541,hL3542,h⟩ := hJ
     cases nf with
     | zero => rw [L_knot_Edges_l2] at hL3542; cases hL3542
     | succ nf =>
      rw [L_knot_Edges_l2] at hL3542
      refine qs 235 [] [2,3,5,6,12,13,14,23,24,25,26] [(1,0),(2,0),(9,0)] h fun ac wd h => ?_
      refine wp_seq ?_
      rcases i2 hL3542 with ⟨hb3544,hL3542⟩ | ⟨hb3544,hL3542⟩
      ·
       refine kT h ?_
       refine wp_skip ?_
       change Code.wp Try.prog _ _ _ _
       obtain ⟨e3565,hE3566,hL3542⟩ := Option.bind_eq_some_iff.1 hL3542
       refine r_seqJ (fun ac wd => ∃ (l3564 : List A2I),l3564 = e3565 ∧ SL ⟨wb,S,Φ,P0⟩ 54 262 [(2,.one (.ptr (1,0) 0)),(3,.one (.ptr (2,0) 0)),(5,.one (.own (260,0) l3564.length)),(6,.one (.d (.int .i64 n3159))),(12,.one (.d (.sl (List.map eI a1.States)))),(13,.one (.d (.int .i64 (a1.States.length : Int)))),(14,.one (.d (.int .i64 n3159))),(23,.one (.d (.sl (List.map eI r3314)))),(24,.one (.d (.int .i64 (r3314.length : Int)))),(25,.one (.d (.int .i64 n3540)))] [((1,0),some (.box 27 (cTApp a0))),((2,0),some (.box 31 (cTConf a1))),((260,0),some (.row 97 2 (dat (List.map eA2I l3564))))] ac wd) ?_ ?_
       ·
        refine wp_block ?_
        obtain ⟨x3569,hx3570a,hx3570b,hx3570c,hx3570d,hE3566⟩ := aB hE3566
        refine qs 238 [] [2,3,5,6,9,12,13,14,23,24,25] [(1,0),(2,0),(9,0)] h fun ac wd h => ?_
        obtain ⟨r3573,hc3574,hE3566⟩ := oB hE3566
        have hc3574k := L_graph_Find_ok hc3574
        refine qs 244 [factE 242 hc3574k] [2,3,5,6,9,10,12,13,14,23,24,25] [(1,0),(2,0),(9,0)] h fun ac wd h => ?_
        obtain ⟨e3579,hE3580,hE3566⟩ := Option.bind_eq_some_iff.1 hE3566
        refine r_seqJ (fun ac wd => ∃ (b3578 : Bool),b3578 = e3579 ∧ SL ⟨wb,S,Φ,P0⟩ 54 255 [(2,.one (.ptr (1,0) 0)),(3,.one (.ptr (2,0) 0)),(5,.one (.own (9,0) l3541.length)),(6,.one (.d (.int .i64 n3159))),(9,.one (.d (.int .i64 x3569))),(12,.one (.d (.sl (List.map eI a1.States)))),(13,.one (.d (.int .i64 (a1.States.length : Int)))),(14,.one (.d (.int .i64 n3159))),(23,.one (.d (.sl (List.map eI r3314)))),(24,.one (.d (.int .i64 (r3314.length : Int)))),(25,.one (.d (.int .i64 n3540))),(44,.one (.d (.bool b3578)))] [((1,0),some (.box 27 (cTApp a0))),((2,0),some (.box 31 (cTConf a1))),((9,0),some (.row 97 2 (dat (List.map eA2I l3541))))] ac wd) ?_ ?_
        ·
         rcases i2 hE3580 with ⟨hb3581,hE3580⟩ | ⟨hb3581,hE3580⟩
         ·
          obtain ⟨x3582,hx3583a,hx3583b,hx3583c,hx3583d,hE3580⟩ := aB hE3580
          refine qeg [] [none,none,none,some (some 36,true),some (some 36,true),some (some 36,true),some (some 36,true),some (some 36,true),some (some 36,true),some (some 36,true),none] [2,3,5,6,9,12,13,14,23,24,25,44] [(1,0),(2,0),(9,0)] h fun ac wd h => ?_
          injection hE3580 with hE3580; subst hE3580
          exact ⟨decide ((x3582.length : Int) = 0),rfl,h.z⟩
         ·
          refine qeg [] [none,none,none,some (some 36,true),some (some 36,true),some (some 36,true),some (some 36,true),some (some 36,true),some (some 36,true),some (some 36,true),none] [2,3,5,6,9,12,13,14,23,24,25,44] [(1,0),(2,0),(9,0)] h fun ac wd h => ?_
          injection hE3580 with hE3580; subst hE3580
          exact ⟨false,rfl,h.z⟩
        ·
         rintro ac wd ⟨b3578,rfl,h⟩
         (try dsimp only at hE3566)
         rcases i2b hE3566 with ⟨hb3584,hE3566⟩ | ⟨hb3584,hE3566⟩
         ·
          refine kT h ?_
          obtain ⟨ha3585,hE3566⟩ := iT hE3566
          refine qe [] [2,3,5,6,12,13,14,23,24,25] [(1,0),(2,0),(260,0)] h fun ac wd h => ?_
          injection hE3566 with hE3566; subst hE3566
          exact ⟨(l3541 ++ [(A2I.mk n3159 x3569)]),rfl,h.z⟩
         ·
          refine kF h ?_
          refine wp_skip ?_
          have h := h.sw (260,0) (9,0) 262
          injection hE3566 with hE3566; subst hE3566
          exact ⟨l3541,rfl,h.z⟩
       ·
        rintro ac wd ⟨l3564,rfl,h⟩
        (try dsimp only at hL3542)
        refine qe [] [2,3,5,6,12,13,14,23,24,25] [(1,0),(2,0),(260,0)] h fun ac wd h => ?_
        have h := h.sw (9,0) (260,0) 264
        exact ⟨nf,Nat.lt_succ_self nf,(IntKind.wrap .i64 (n3540 + 1)),l3564,hL3542,h.z⟩
      ·
       refine kF h ?_
       refine wp_exit ?_
       injection hL3542 with hL3542; subst hL3542
       exact ⟨l3541,rfl,h.z⟩
    ·
     rintro ac wd ⟨l3449,rfl,h⟩
     (try dsimp only at hE3307)
     injection hE3307 with hE3307; subst hE3307
     exact ⟨l3449,rfl,h.z⟩
   ·
    rintro ac wd ⟨l3305,rfl,h⟩
    (try dsimp only at hL3161)
    refine qe [] [2,3,5,12,13,14] [(1,0),(2,0),(9,0)] h fun ac wd h => ?_
    exact ⟨nf,Nat.lt_succ_self nf,(IntKind.wrap .i64 (n3159 + 1)),l3305,hL3161,h.z⟩
  ·
   refine kF h ?_
   refine wp_exit ?_
   change Code.wp Try.prog _ _ _ _
   refine qs 164 [] [4] [(9,0)] h fun ac wd h => ?_
   refine wp_ret ?_
   have h := h.sw (1,0) (9,0) 164
   injection hL3161 with hL3161
   subst hL3161
   exact rO h [.tmp 4] [(1,0)]
theorem L_knot_Edges_ok {a0 : TApp} {a1 : TConf} {r : (List A2I)} (hD : L_knot_Edges a0 a1 = some r) :
  CallH Try.prog 71 [.agg (cTApp a0),.agg (cTConf a1)] []
   (.one (.d (.sl (List.map eA2I r)))) [] :=
 (L_knot_Edges_own hD).fr

theorem L_ref15_Pairs_ok {a0 : (List A2I)} {a1 : (List A2I)} {r : Bool} (hD : L_ref15_Pairs a0 a1 = some r) :
  CallH Try.prog 70 [.one (.d (.sl (List.map eA2I a0))),.one (.d (.sl (List.map eA2I a1)))] []
   (.one (.d (.bool r))) [] := by
 unfold L_ref15_Pairs at hD
 refine rc Try.func70 rfl Try.ntmps70 fun S Φ P0 wb ac h => ?_
 refine qs 2 [] [0,1] [] h fun ac wd h => ?_
 refine wp_seq ?_
 refine qs 7 [] [0,1,10] [] h fun ac wd h => ?_
 rcases i2e hD with ⟨hb155,hD⟩ | ⟨hb155,hD⟩
 ·
  refine kF h ?_
  refine wp_skip ?_
  change Code.wp Try.prog _ _ _ _
  refine wp_seq ?_
  refine qs 8 [] [0,1,5] [] h fun ac wd h => ?_
  refine wp_block ?_
  refine r_while (fun nf ac wd => ∃ (n279 : Int),L_ref15_Pairs_l1 a0 a1 nf n279 = some r ∧ SL ⟨wb,S,Φ,P0⟩ 26 40 [(0,.one (.d (.sl (List.map eA2I a0)))),(1,.one (.d (.sl (List.map eA2I a1)))),(5,.one (.d (.int .i64 n279)))] [] ac wd) (((a0.length : Int) - 0).toNat + 1) ⟨0,hD,h.z⟩ (fun nf ac wd hJ => ?_)
  obtain ⟨n279,hL280,h⟩ := hJ
  cases nf with
  | zero => rw [L_ref15_Pairs_l1] at hL280; cases hL280
  | succ nf =>
   rw [L_ref15_Pairs_l1] at hL280
   refine wp_seq ?_
   refine qs 44 [] [0,1,5,14] [] h fun ac wd h => ?_
   rcases i2 hL280 with ⟨hb282,hL280⟩ | ⟨hb282,hL280⟩
   ·
    refine kT h ?_
    refine wp_skip ?_
    change Code.wp Try.prog _ _ _ _
    refine wp_seq ?_
    refine wp_block ?_
    obtain ⟨x299,hx300a,hx300b,hx300c,hx300d,hL280⟩ := aB hL280
    obtain ⟨x301,hx302a,hx302b,hx302c,hx302d,hL280⟩ := aB hL280
    have hz303 := eq_A2I_vv x299 x301
    refine ds 53 [] [0,1,5,25] [] h fun ac wd h => ?_
    rcases i2e hL280 with ⟨hb304,hL280⟩ | ⟨hb304,hL280⟩
    ·
     refine kF h ?_
     refine wp_skip ?_
     change Code.wp Try.prog _ _ _ _
     refine qe [] [0,1,5] [] h fun ac wd h => ?_
     exact ⟨nf,Nat.lt_succ_self nf,(IntKind.wrap .i64 (n279 + 1)),hL280,h.z⟩
    ·
     refine kT h ?_
     refine qs 54 [] [4] [] h fun ac wd h => ?_
     refine wp_ret ?_
     injection hL280 with hL280
     subst hL280
     exact rE h [.tmp 4]
   ·
    refine kF h ?_
    refine wp_exit ?_
    change Code.wp Try.prog _ _ _ _
    refine qs 45 [] [4] [] h fun ac wd h => ?_
    refine wp_ret ?_
    injection hL280 with hL280
    subst hL280
    exact rE h [.tmp 4]
 ·
  refine kT h ?_
  refine qs 8 [] [4] [] h fun ac wd h => ?_
  refine wp_ret ?_
  injection hD with hD
  subst hD
  exact rE h [.tmp 4]

end Go.Proofs.Ytifcbecpemaieaa
