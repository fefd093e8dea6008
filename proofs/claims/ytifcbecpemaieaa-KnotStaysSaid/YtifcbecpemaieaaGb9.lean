/- Functions as typed ones,and that the program's functions answer as these do. No condition. -/
import Derived.Test.YtifcbecpemaieaaGb6
import Derived.Test.YtifcbecpemaieaaGb8
import Derived.Test.YtifcbecpemaieaaGd
set_option linter.unusedSimpArgs false
set_option linter.unusedVariables false
set_option maxRecDepth 20000
set_option maxHeartbeats 4000000
namespace Go.Proofs.Ytifcbecpemaieaa
open Go.RowKit

theorem e_ren_arB_L_knot_Knot (σ : Nm → Nm) (l : List Bool) : List.map (Cell.ren σ) (arB l) = arB l := by
 unfold arB
 rw [List.map_map]
 rfl
theorem L_knot_Knot_own {a0 : TApp} {a1 : TConf} {r : (List Int)} (hD : L_knot_Knot a0 a1 = some r) :
  CallH Try.prog 38 [.agg (cTApp a0),.agg (cTConf a1)] []
   (.one (.own (1,0) r.length)) [((1,0),some (.row 3 1 (dat (List.map eI r))))] := by
 unfold L_knot_Knot at hD
 refine rc Try.func38 rfl Try.ntmps38 fun S Φ P0 wb ac h => ?_
 refine qs 4 [] [2,3] [(1,0),(2,0)] h fun ac wd h => ?_
 refine qs 5 [] [2,3,5] [(1,0),(2,0),(4,0)] h fun ac wd h => ?_
 refine wp_seq ?_
 obtain ⟨r17004,hc17005,hD⟩ := oB hD
 have hc17005k := L_knot_Edges_ok hc17005
 refine qs 10 [factE 7 hc17005k] [2,5,15,16,17] [(1,0),(4,0)] h fun ac wd h => ?_
 obtain ⟨e17079,hE17080,hD⟩ := Option.bind_eq_some_iff.1 hD
 refine r_meet (fun ac wd => ∃ (l17078 : List Bool),l17078 = e17079 ∧ SL ⟨wb,S,Φ,P0⟩ 89 39 [(2,.one (.ptr (1,0) 0)),(5,.one (.ptr (4,0) 0))] [((1,0),some (.box 27 (cTApp a0))),((4,0),some (.box 129 (arB l17078)))] ac wd) ?_ ?_
 ·
  refine wp_block ?_
  have h := h.sm 10 [(2,.one (.ptr (1,0) 0)),(5,.one (.ptr (4,0) 0)),(15,.one (.d (.sl (List.map eA2I r17004)))),(16,.one (.d (.int .i64 (r17004.length : Int)))),(17,.one (.d (.int .i64 0)))]
   [((1,0),some (.box 27 (cTApp a0))),((4,0),some (.box 129 (arB (List.replicate 36 false))))]
  refine r_while (fun nf ac wd => ∃ (n17129 : Int) (l17130 : List Bool),L_knot_Knot_l1 r17004 nf n17129 l17130 = some e17079 ∧ SL ⟨wb,S,Φ,P0⟩ 89 38 [(2,.one (.ptr (1,0) 0)),(5,.one (.ptr (4,0) 0)),(15,.one (.d (.sl (List.map eA2I r17004)))),(16,.one (.d (.int .i64 (r17004.length : Int)))),(17,.one (.d (.int .i64 n17129)))] [((1,0),some (.box 27 (cTApp a0))),((4,0),some (.box 129 (arB l17130)))] ac wd) (((r17004.length : Int) - 0).toNat + 1) ⟨0,(List.replicate 36 false),hE17080,h.z⟩ (fun nf ac wd hJ => ?_)
  obtain ⟨n17129,l17130,hL17131,h⟩ := hJ
  cases nf with
  | zero => rw [L_knot_Knot_l1] at hL17131; cases hL17131
  | succ nf =>
   rw [L_knot_Knot_l1] at hL17131
   refine qs 39 [] [2,5,15,16,17,18] [(1,0),(4,0)] h fun ac wd h => ?_
   refine wp_seq ?_
   rcases i2 hL17131 with ⟨hb17133,hL17131⟩ | ⟨hb17133,hL17131⟩
   ·
    refine kT h ?_
    refine wp_skip ?_
    change Code.wp Try.prog _ _ _ _
    refine wp_seq ?_
    refine wp_block ?_
    obtain ⟨x17146,hx17147a,hx17147b,hx17147c,hx17147d,hL17131⟩ := aB hL17131
    refine qs 43 [] [2,5,7,15,16,17] [(1,0),(4,0),(41,0)] h fun ac wd h => ?_
    obtain ⟨ha17148,hL17131⟩ := iT hL17131
    obtain ⟨ha17149,hL17131⟩ := iT hL17131
    obtain ⟨ha17150,hL17131⟩ := iT hL17131
    obtain ⟨ha17151,hL17131⟩ := iT hL17131
    obtain ⟨ha17152,hL17131⟩ := iT hL17131
    have hz17153 : (x17146.a0.toNat * 6 + x17146.a1.toNat) + 1 ≤ l17130.length := by omega
    refine de [] [2,5,15,16,17] [(1,0),(4,0)] h fun ac wd h => ?_
    change Code.wp Try.prog _ _ _ _
    refine qe [] [2,5,15,16,17] [(1,0),(4,0)] h fun ac wd h => ?_
    exact ⟨nf,Nat.lt_succ_self nf,(IntKind.wrap .i64 (n17129 + 1)),(l17130.set (x17146.a0.toNat * 6 + x17146.a1.toNat) true),hL17131,h.z⟩
   ·
    refine kF h ?_
    refine wp_exit ?_
    injection hL17131 with hL17131; subst hL17131
    exact ⟨l17130,rfl,h.z⟩
 ·
  rintro ac wd ⟨l17078,rfl,h⟩
  (try dsimp only at hD)
  refine wp_seq ?_
  refine qs 43 [] [2,5,30,31] [(1,0),(4,0)] h fun ac wd h => ?_
  obtain ⟨e25496,hE25497,hD⟩ := Option.bind_eq_some_iff.1 hD
  refine r_meet (fun ac wd => ∃ (l25495 : List Bool),l25495 = e25496 ∧ SL ⟨wb,S,Φ,P0⟩ 89 336 [(2,.one (.ptr (1,0) 0)),(5,.one (.ptr (4,0) 0))] [((1,0),some (.box 27 (cTApp a0))),((4,0),some (.box 129 (arB l25495)))] ac wd) ?_ ?_
  ·
   refine wp_block ?_
   refine r_while (fun nf ac wd => ∃ (n30790 : Int) (l30791 : List Bool),L_knot_Knot_l2 a0 nf n30790 l30791 = some e25496 ∧ SL ⟨wb,S,Φ,P0⟩ 89 335 [(2,.one (.ptr (1,0) 0)),(5,.one (.ptr (4,0) 0)),(30,.one (.d (.int .i64 a0.G.N))),(31,.one (.d (.int .i64 n30790)))] [((1,0),some (.box 27 (cTApp a0))),((4,0),some (.box 129 (arB l30791)))] ac wd) ((a0.G.N - 0).toNat + 1) ⟨0,l17078,hE25497,h.z⟩ (fun nf ac wd hJ => ?_)
   obtain ⟨n30790,l30791,hL30792,h⟩ := hJ
   cases nf with
   | zero => rw [L_knot_Knot_l2] at hL30792; cases hL30792
   | succ nf =>
    rw [L_knot_Knot_l2] at hL30792
    refine qs 336 [] [2,5,30,31,32] [(1,0),(4,0)] h fun ac wd h => ?_
    refine wp_seq ?_
    rcases i2 hL30792 with ⟨hb30794,hL30792⟩ | ⟨hb30794,hL30792⟩
    ·
     refine kT h ?_
     refine wp_skip ?_
     change Code.wp Try.prog _ _ _ _
     obtain ⟨e32317,hE32318,hL30792⟩ := Option.bind_eq_some_iff.1 hL30792
     refine r_seqJ (fun ac wd => ∃ (l32316 : List Bool),l32316 = e32317 ∧ SL ⟨wb,S,Φ,P0⟩ 89 479 [(2,.one (.ptr (1,0) 0)),(5,.one (.ptr (4,0) 0)),(30,.one (.d (.int .i64 a0.G.N))),(31,.one (.d (.int .i64 n30790)))] [((1,0),some (.box 27 (cTApp a0))),((4,0),some (.box 129 (arB l32316)))] ac wd) ?_ ?_
     ·
      refine wp_block ?_
      refine qs 338 [] [2,5,8,30,31] [(1,0),(4,0)] h fun ac wd h => ?_
      refine qs 342 [] [2,5,8,30,31,36,37] [(1,0),(4,0)] h fun ac wd h => ?_
      obtain ⟨e33841,hE33842,hE32318⟩ := Option.bind_eq_some_iff.1 hE32318
      refine r_meetQ (fun ac wd => ∃ (l33840 : List Bool),l33840 = e33841 ∧ SL ⟨wb,S,Φ,P0⟩ 89 479 [(2,.one (.ptr (1,0) 0)),(5,.one (.ptr (4,0) 0)),(30,.one (.d (.int .i64 a0.G.N))),(31,.one (.d (.int .i64 n30790)))] [((1,0),some (.box 27 (cTApp a0))),((4,0),some (.box 129 (arB l33840)))] ac wd) ?_ ?_
      ·
       refine wp_block ?_
       refine r_while (fun nf ac wd => ∃ (n34847 : Int) (l34848 : List Bool),L_knot_Knot_l3 a0 n30790 nf n34847 l34848 = some e33841 ∧ SL ⟨wb,S,Φ,P0⟩ 89 478 [(2,.one (.ptr (1,0) 0)),(5,.one (.ptr (4,0) 0)),(8,.one (.d (.int .i64 n30790))),(30,.one (.d (.int .i64 a0.G.N))),(31,.one (.d (.int .i64 n30790))),(36,.one (.d (.int .i64 a0.G.N))),(37,.one (.d (.int .i64 n34847)))] [((1,0),some (.box 27 (cTApp a0))),((4,0),some (.box 129 (arB l34848)))] ac wd) ((a0.G.N - 0).toNat + 1) ⟨0,l30791,hE33842,h.z⟩ (fun nf ac wd hJ => ?_)
       obtain ⟨n34847,l34848,hL34849,h⟩ := hJ
       cases nf with
       | zero => rw [L_knot_Knot_l3] at hL34849; cases hL34849
       | succ nf =>
        rw [L_knot_Knot_l3] at hL34849
        refine qs 479 [] [2,5,8,30,31,36,37,38] [(1,0),(4,0)] h fun ac wd h => ?_
        refine wp_seq ?_
        rcases i2 hL34849 with ⟨hb34851,hL34849⟩ | ⟨hb34851,hL34849⟩
        ·
         refine kT h ?_
         refine wp_skip ?_
         change Code.wp Try.prog _ _ _ _
         obtain ⟨e35108,hE35109,hL34849⟩ := Option.bind_eq_some_iff.1 hL34849
         refine r_seqJ (fun ac wd => ∃ (l35107 : List Bool),l35107 = e35108 ∧ SL ⟨wb,S,Φ,P0⟩ 89 544 [(2,.one (.ptr (1,0) 0)),(5,.one (.ptr (4,0) 0)),(8,.one (.d (.int .i64 n30790))),(30,.one (.d (.int .i64 a0.G.N))),(31,.one (.d (.int .i64 n30790))),(36,.one (.d (.int .i64 a0.G.N))),(37,.one (.d (.int .i64 n34847)))] [((1,0),some (.box 27 (cTApp a0))),((4,0),some (.box 129 (arB l35107)))] ac wd) ?_ ?_
         ·
          refine wp_block ?_
          refine qs 481 [] [2,5,8,9,30,31,36,37] [(1,0),(4,0)] h fun ac wd h => ?_
          refine qs 485 [] [2,5,8,9,30,31,36,37,42,43] [(1,0),(4,0)] h fun ac wd h => ?_
          obtain ⟨e35366,hE35367,hE35109⟩ := Option.bind_eq_some_iff.1 hE35109
          refine r_meetQ (fun ac wd => ∃ (l35365 : List Bool),l35365 = e35366 ∧ SL ⟨wb,S,Φ,P0⟩ 89 544 [(2,.one (.ptr (1,0) 0)),(5,.one (.ptr (4,0) 0)),(8,.one (.d (.int .i64 n30790))),(30,.one (.d (.int .i64 a0.G.N))),(31,.one (.d (.int .i64 n30790))),(36,.one (.d (.int .i64 a0.G.N))),(37,.one (.d (.int .i64 n34847)))] [((1,0),some (.box 27 (cTApp a0))),((4,0),some (.box 129 (arB l35365)))] ac wd) ?_ ?_
          ·
           refine wp_block ?_
           refine r_while (fun nf ac wd => ∃ (n35536 : Int) (l35537 : List Bool),L_knot_Knot_l4 a0 n30790 n34847 nf n35536 l35537 = some e35366 ∧ SL ⟨wb,S,Φ,P0⟩ 89 543 [(2,.one (.ptr (1,0) 0)),(5,.one (.ptr (4,0) 0)),(8,.one (.d (.int .i64 n30790))),(9,.one (.d (.int .i64 n34847))),(30,.one (.d (.int .i64 a0.G.N))),(31,.one (.d (.int .i64 n30790))),(36,.one (.d (.int .i64 a0.G.N))),(37,.one (.d (.int .i64 n34847))),(42,.one (.d (.int .i64 a0.G.N))),(43,.one (.d (.int .i64 n35536)))] [((1,0),some (.box 27 (cTApp a0))),((4,0),some (.box 129 (arB l35537)))] ac wd) ((a0.G.N - 0).toNat + 1) ⟨0,l34848,hE35367,h.z⟩ (fun nf ac wd hJ => ?_)
           obtain ⟨n35536,l35537,hL35538,h⟩ := hJ
           cases nf with
           | zero => rw [L_knot_Knot_l4] at hL35538; cases hL35538
           | succ nf =>
            rw [L_knot_Knot_l4] at hL35538
            refine qs 544 [] [2,5,8,9,30,31,36,37,42,43,44] [(1,0),(4,0)] h fun ac wd h => ?_
            refine wp_seq ?_
            rcases i2 hL35538 with ⟨hb35540,hL35538⟩ | ⟨hb35540,hL35538⟩
            ·
             refine kT h ?_
             refine wp_skip ?_
             change Code.wp Try.prog _ _ _ _
             obtain ⟨e35582,hE35583,hL35538⟩ := Option.bind_eq_some_iff.1 hL35538
             refine r_seqJ (fun ac wd => ∃ (l35581 : List Bool),l35581 = e35582 ∧ SL ⟨wb,S,Φ,P0⟩ 89 570 [(2,.one (.ptr (1,0) 0)),(5,.one (.ptr (4,0) 0)),(8,.one (.d (.int .i64 n30790))),(9,.one (.d (.int .i64 n34847))),(30,.one (.d (.int .i64 a0.G.N))),(31,.one (.d (.int .i64 n30790))),(36,.one (.d (.int .i64 a0.G.N))),(37,.one (.d (.int .i64 n34847))),(42,.one (.d (.int .i64 a0.G.N))),(43,.one (.d (.int .i64 n35536)))] [((1,0),some (.box 27 (cTApp a0))),((4,0),some (.box 129 (arB l35581)))] ac wd) ?_ ?_
             ·
              refine wp_block ?_
              refine qs 546 [] [2,5,8,9,10,30,31,36,37,42,43] [(1,0),(4,0)] h fun ac wd h => ?_
              obtain ⟨ha35584,hE35583⟩ := iT hE35583
              obtain ⟨ha35585,hE35583⟩ := iT hE35583
              obtain ⟨ha35586,hE35583⟩ := iT hE35583
              obtain ⟨ha35587,hE35583⟩ := iT hE35583
              obtain ⟨x35588,hx35589a,hx35589b,hx35589c,hx35589d,hE35583⟩ := aN (n34847.toNat * 6 + n35536.toNat : Nat) hE35583
              rcases i2b hE35583 with ⟨hb35591,hE35583⟩ | ⟨hb35591,hE35583⟩
              ·
               obtain ⟨ha35593,hE35583⟩ := iT hE35583
               have hz35594 : (n34847.toNat * 6 + n35536.toNat) + 1 ≤ l35537.length := hx35589d
               have hz35595 : (n34847.toNat * 6 + n35536.toNat) + 1 ≤ l35537.length := by omega
               refine deg [] [none,none,none,none,none,none,none,none,some (some 53,false),some (some 53,false),some (some 53,false),some (some 53,false),some (some 53,false),some (some 53,false),some (some 59,true),some (some 59,true),some (some 59,true),some (some 59,true),some (some 59,true),some (some 53,false),none,none,none,none] [2,5,8,9,30,31,36,37,42,43] [(1,0),(4,0)] h fun ac wd h => ?_
               injection hE35583 with hE35583; subst hE35583
               exact ⟨(l35537.set (n34847.toNat * 6 + n35536.toNat) true),rfl,h.z⟩
              ·
               obtain ⟨ha35597,hE35583⟩ := iT hE35583
               obtain ⟨ha35599,hE35583⟩ := iT hE35583
               obtain ⟨x35601,hx35602a,hx35602b,hx35602c,hx35602d,hE35583⟩ := aN (n34847.toNat * 6 + n30790.toNat : Nat) hE35583
               rcases i2b hE35583 with ⟨hb35605,hE35583⟩ | ⟨hb35605,hE35583⟩
               ·
                obtain ⟨x35608,hx35609a,hx35609b,hx35609c,hx35609d,hE35583⟩ := aN (n30790.toNat * 6 + n35536.toNat : Nat) hE35583
                obtain ⟨ha35613,hE35583⟩ := iT hE35583
                have hz35614 : (n34847.toNat * 6 + n35536.toNat) + 1 ≤ l35537.length := hx35589d
                have hz35615 : (n34847.toNat * 6 + n30790.toNat) + 1 ≤ l35537.length := hx35602d
                have hz35616 : (n30790.toNat * 6 + n35536.toNat) + 1 ≤ l35537.length := hx35609d
                have hz35617 : (n34847.toNat * 6 + n35536.toNat) + 1 ≤ l35537.length := by omega
                refine deg [] [none,none,none,none,none,none,none,none,some (some 53,false),some (some 53,false),some (some 53,false),some (some 53,false),some (some 53,false),some (some 53,false),some (some 59,true),some (some 59,true),some (some 59,true),some (some 59,true),some (some 59,true),some (some 53,false),none,none,none,none] [2,5,8,9,30,31,36,37,42,43] [(1,0),(4,0)] h fun ac wd h => ?_
                injection hE35583 with hE35583; subst hE35583
                exact ⟨(l35537.set (n34847.toNat * 6 + n35536.toNat) x35608),rfl,h.z⟩
               ·
                obtain ⟨ha35620,hE35583⟩ := iT hE35583
                have hz35621 : (n34847.toNat * 6 + n35536.toNat) + 1 ≤ l35537.length := hx35589d
                have hz35622 : (n34847.toNat * 6 + n30790.toNat) + 1 ≤ l35537.length := hx35602d
                have hz35623 : (n34847.toNat * 6 + n35536.toNat) + 1 ≤ l35537.length := by omega
                refine deg [] [none,none,none,none,none,none,none,none,some (some 53,false),some (some 53,false),some (some 53,false),some (some 53,false),some (some 53,false),some (some 53,false),some (some 59,true),some (some 59,true),some (some 59,true),some (some 59,true),some (some 59,true),some (some 53,false),none,none,none,none] [2,5,8,9,30,31,36,37,42,43] [(1,0),(4,0)] h fun ac wd h => ?_
                injection hE35583 with hE35583; subst hE35583
                exact ⟨(l35537.set (n34847.toNat * 6 + n35536.toNat) false),rfl,h.z⟩
             ·
              rintro ac wd ⟨l35581,rfl,h⟩
              (try dsimp only at hL35538)
              refine qe [] [2,5,8,9,30,31,36,37,42,43] [(1,0),(4,0)] h fun ac wd h => ?_
              exact ⟨nf,Nat.lt_succ_self nf,(IntKind.wrap .i64 (n35536 + 1)),l35581,hL35538,h.z⟩
            ·
             refine kF h ?_
             refine wp_exit ?_
             injection hL35538 with hL35538; subst hL35538
             exact ⟨l35537,rfl,h.z⟩
          ·
           rintro ac wd ⟨l35365,rfl,h⟩
           (try dsimp only at hE35109)
           injection hE35109 with hE35109; subst hE35109
           exact ⟨l35365,rfl,h.z⟩
         ·
          rintro ac wd ⟨l35107,rfl,h⟩
          (try dsimp only at hL34849)
          refine qe [] [2,5,8,30,31,36,37] [(1,0),(4,0)] h fun ac wd h => ?_
          exact ⟨nf,Nat.lt_succ_self nf,(IntKind.wrap .i64 (n34847 + 1)),l35107,hL34849,h.z⟩
        ·
         refine kF h ?_
         refine wp_exit ?_
         injection hL34849 with hL34849; subst hL34849
         exact ⟨l34848,rfl,h.z⟩
      ·
       rintro ac wd ⟨l33840,rfl,h⟩
       (try dsimp only at hE32318)
       injection hE32318 with hE32318; subst hE32318
       exact ⟨l33840,rfl,h.z⟩
     ·
      rintro ac wd ⟨l32316,rfl,h⟩
      (try dsimp only at hL30792)
      refine qe [] [2,5,30,31] [(1,0),(4,0)] h fun ac wd h => ?_
      exact ⟨nf,Nat.lt_succ_self nf,(IntKind.wrap .i64 (n30790 + 1)),l32316,hL30792,h.z⟩
    ·
     refine kF h ?_
     refine wp_exit ?_
     injection hL30792 with hL30792; subst hL30792
     exact ⟨l30791,rfl,h.z⟩
  ·
   rintro ac wd ⟨l25495,rfl,h⟩
   (try dsimp only at hD)
   refine qs 337 [] [2,5,11] [(1,0),(4,0)] h fun ac wd h => ?_
   refine wp_seq ?_
   refine qs 341 [] [5,11,74,75] [(4,0)] h fun ac wd h => ?_
   refine wp_block ?_
   have h := SL.bornS h 11 3 1 (by simp only [EZ,simprocAttr, *] <;> rfl)
   refine r_while (fun nf ac wd => ∃ (n35755 : Int) (l35756 : List Int),L_knot_Knot_l5 a0 l25495 nf n35755 l35756 = some r ∧ SL ⟨wb,S,Φ,P0⟩ 89 371 [(5,.one (.ptr (4,0) 0)),(11,.one (.own (341,0) l35756.length)),(74,.one (.d (.int .i64 a0.G.N))),(75,.one (.d (.int .i64 n35755)))] [((4,0),some (.box 129 (arB l25495))),((341,0),some (.row 3 1 (dat (List.map eI l35756))))] ac wd) ((a0.G.N - 0).toNat + 1) ⟨0,([] : List Int),hD,h.z⟩ (fun nf ac wd hJ => ?_)
   obtain ⟨n35755,l35756,hL35757,h⟩ := hJ
   cases nf with
   | zero => rw [L_knot_Knot_l5] at hL35757; cases hL35757
   | succ nf =>
    rw [L_knot_Knot_l5] at hL35757
    refine qs 372 [] [5,11,74,75,76] [(4,0),(341,0)] h fun ac wd h => ?_
    refine wp_seq ?_
    rcases i2 hL35757 with ⟨hb35759,hL35757⟩ | ⟨hb35759,hL35757⟩
    ·
     refine kT h ?_
     refine wp_skip ?_
     change Code.wp Try.prog _ _ _ _
     obtain ⟨e35773,hE35774,hL35757⟩ := Option.bind_eq_some_iff.1 hL35757
     refine r_seqJ (fun ac wd => ∃ (l35772 : List Int),l35772 = e35773 ∧ SL ⟨wb,S,Φ,P0⟩ 89 384 [(5,.one (.ptr (4,0) 0)),(11,.one (.own (382,0) l35772.length)),(74,.one (.d (.int .i64 a0.G.N))),(75,.one (.d (.int .i64 n35755)))] [((4,0),some (.box 129 (arB l25495))),((382,0),some (.row 3 1 (dat (List.map eI l35772))))] ac wd) ?_ ?_
     ·
      refine wp_block ?_
      refine qs 374 [] [5,11,12,74,75] [(4,0),(341,0)] h fun ac wd h => ?_
      obtain ⟨ha35780,hE35774⟩ := iT hE35774
      obtain ⟨ha35781,hE35774⟩ := iT hE35774
      obtain ⟨x35782,hx35783a,hx35783b,hx35783c,hx35783d,hE35774⟩ := aN (n35755.toNat * 6 + n35755.toNat : Nat) hE35774
      have hz35784 : (n35755.toNat * 6 + n35755.toNat) + 1 ≤ l25495.length := hx35783d
      refine qs 379 [] [5,11,12,74,75,82] [(4,0),(341,0)] h fun ac wd h => ?_
      rcases i2b hE35774 with ⟨hb35785,hE35774⟩ | ⟨hb35785,hE35774⟩
      ·
       refine kT h ?_
       obtain ⟨ha35786,hE35774⟩ := iT hE35774
       refine qe [] [5,11,74,75] [(4,0),(382,0)] h fun ac wd h => ?_
       injection hE35774 with hE35774; subst hE35774
       exact ⟨(l35756 ++ [n35755]),rfl,h.z⟩
      ·
       refine kF h ?_
       refine wp_skip ?_
       have hzarB := @e_ren_arB_L_knot_Knot
       have h := h.sw (382,0) (341,0) 384
       injection hE35774 with hE35774; subst hE35774
       exact ⟨l35756,rfl,h.z⟩
     ·
      rintro ac wd ⟨l35772,rfl,h⟩
      (try dsimp only at hL35757)
      refine qe [] [5,11,74,75] [(4,0),(382,0)] h fun ac wd h => ?_
      have hzarB := @e_ren_arB_L_knot_Knot
      have h := h.sw (341,0) (382,0) 386
      exact ⟨nf,Nat.lt_succ_self nf,(IntKind.wrap .i64 (n35755 + 1)),l35772,hL35757,h.z⟩
    ·
     refine kF h ?_
     refine wp_exit ?_
     change Code.wp Try.prog _ _ _ _
     refine qs 374 [] [4] [(341,0)] h fun ac wd h => ?_
     refine wp_ret ?_
     have h := h.sw (1,0) (341,0) 374
     injection hL35757 with hL35757
     subst hL35757
     exact rO h [.tmp 4] [(1,0)]
theorem L_knot_Knot_ok {a0 : TApp} {a1 : TConf} {r : (List Int)} (hD : L_knot_Knot a0 a1 = some r) :
  CallH Try.prog 38 [.agg (cTApp a0),.agg (cTConf a1)] []
   (.one (.d (.sl (List.map eI r)))) [] :=
 (L_knot_Knot_own hD).fr

theorem L_knot_Held_1_1_own {a0 : A2I} {a1 : Int} {a2 : (List Int)} {r : Bool × Int × (List Int)} (hD : L_knot_Held_1_1 a0 a1 a2 = some r) :
  CallH Try.prog 74 [.agg (cA2I a0),.one (.ptr (0,0) 0),.one (.ptr (0,1) 0)] [((0,0),some (.box 3 [.d (.int .i64 a1)])),((0,1),some (.box 28 [.d (.sl (List.map eI a2))]))]
   (.one (.d (.bool r.1))) [((0,0),some (.box 3 [.d (.int .i64 r.2.1)])),((0,1),some (.box 28 [.d (.sl (List.map eI r.2.2))]))] := by
 unfold L_knot_Held_1_1 at hD
 refine rc Try.func74 rfl Try.ntmps74 fun S Φ P0 wb ac h => ?_
 refine qs 3 [] [1,2,3] [(0,0),(0,1),(1,0)] h fun ac wd h => ?_
 obtain ⟨e14,hE15,hD⟩ := Option.bind_eq_some_iff.1 hD
 refine r_seqJ (fun ac wd => ∃ (b13 : Bool),b13 = e14 ∧ SL ⟨wb,S,Φ,P0⟩ 15 14 [(4,.one (.d (.bool b13)))] [((0,0),some (.box 3 [.d (.int .i64 a1)])),((0,1),some (.box 28 [.d (.sl (List.map eI a2))]))] ac wd) ?_ ?_
 ·
  rcases i2e hE15 with ⟨hb16,hE15⟩ | ⟨hb16,hE15⟩
  ·
   obtain ⟨r17,hc18,hE15⟩ := oB hE15
   have hc18k := L_slices_Contains_int_int_ok hc18
   refine qeg [factE 11 hc18k] [none,none,none,none,none,some (some 9,true),some (some 9,true),some (some 9,true),some (some 9,true),none,none] [4] [(0,0),(0,1)] h fun ac wd h => ?_
   injection hE15 with hE15; subst hE15
   exact ⟨r17,rfl,h.z⟩
  ·
   refine qeg [] [none,none,none,none,none,some (some 9,true),some (some 9,true),some (some 9,true),some (some 9,true),none,none] [4] [(0,0),(0,1)] h fun ac wd h => ?_
   injection hE15 with hE15; subst hE15
   exact ⟨false,rfl,h.z⟩
 ·
  rintro ac wd ⟨b13,rfl,h⟩
  (try dsimp only at hD)
  refine wp_ret ?_
  injection hD with hD
  subst hD
  exact rO h [.tmp 4] [(0,0),(0,1)]

theorem L_slices_IndexFunc_2_int_2_int_own {a0 : (List A2I)} {a1 : Int} {a2 : (List Int)} {r : Int × Int × (List Int)} (hD : L_slices_IndexFunc_2_int_2_int a0 a1 a2 = some r) :
  CallH Try.prog 104 [.one (.d (.sl (List.map eA2I a0))),.one (.fnp 74 [((0,0),0),((0,1),0)])] [((0,0),some (.box 3 [.d (.int .i64 a1)])),((0,1),some (.box 28 [.d (.sl (List.map eI a2))]))]
   (.one (.d (.int .i64 r.1))) [((0,0),some (.box 3 [.d (.int .i64 r.2.1)])),((0,1),some (.box 28 [.d (.sl (List.map eI r.2.2))]))] := by
 unfold L_slices_IndexFunc_2_int_2_int at hD
 refine rc Try.func104 rfl Try.ntmps104 fun S Φ P0 wb ac h => ?_
 refine qs 2 [] [0,1] [(0,0),(0,1)] h fun ac wd h => ?_
 refine wp_seq ?_
 refine qs 5 [] [0,1,7,8] [(0,0),(0,1)] h fun ac wd h => ?_
 refine wp_block ?_
 refine r_while (fun nf ac wd => ∃ (n247 : Int) (n248 : Int) (l249 : List Int),L_slices_IndexFunc_2_int_2_int_l1 a0 nf n247 n248 l249 = some r ∧ SL ⟨wb,S,Φ,P0⟩ 19 27 [(0,.one (.d (.sl (List.map eA2I a0)))),(1,.one (.fnp 74 [((0,0),0),((0,1),0)])),(7,.one (.d (.int .i64 (a0.length : Int)))),(8,.one (.d (.int .i64 n247)))] [((0,0),some (.box 3 [.d (.int .i64 n248)])),((0,1),some (.box 28 [.d (.sl (List.map eI l249))]))] ac wd) (((a0.length : Int) - 0).toNat + 1) ⟨0,a1,a2,hD,h.z⟩ (fun nf ac wd hJ => ?_)
 obtain ⟨n247,n248,l249,hL250,h⟩ := hJ
 cases nf with
 | zero => rw [L_slices_IndexFunc_2_int_2_int_l1] at hL250; cases hL250
 | succ nf =>
  rw [L_slices_IndexFunc_2_int_2_int_l1] at hL250
  refine qs 28 [] [0,1,7,8,9] [(0,0),(0,1)] h fun ac wd h => ?_
  refine wp_seq ?_
  rcases i2 hL250 with ⟨hb252,hL250⟩ | ⟨hb252,hL250⟩
  ·
   refine kT h ?_
   refine wp_skip ?_
   change Code.wp Try.prog _ _ _ _
   refine wp_seq ?_
   refine wp_block ?_
   refine qs 30 [] [0,1,5,7,8] [(0,0),(0,1)] h fun ac wd h => ?_
   obtain ⟨x266,hx267a,hx267b,hx267c,hx267d,hL250⟩ := aB hL250
   obtain ⟨r268,hc269,hL250⟩ := oB hL250
   have hc269_35 := ((L_knot_Held_1_1_own hc269).cls 35).z
   refine qs 36 [factR hc269_35] [0,1,5,7,8,16] [(0,0),(0,1)] h fun ac wd h => ?_
   rcases i2b hL250 with ⟨hb270,hL250⟩ | ⟨hb270,hL250⟩
   ·
    refine kT h ?_
    refine qs 38 [] [4] [(0,0),(0,1)] h fun ac wd h => ?_
    refine wp_ret ?_
    injection hL250 with hL250
    subst hL250
    exact rO h [.tmp 4] [(0,0),(0,1)]
   ·
    refine kF h ?_
    refine wp_skip ?_
    change Code.wp Try.prog _ _ _ _
    refine qe [] [0,1,7,8] [(0,0),(0,1)] h fun ac wd h => ?_
    exact ⟨nf,Nat.lt_succ_self nf,(IntKind.wrap .i64 (n247 + 1)),r268.2.1,r268.2.2,hL250,h.z⟩
  ·
   refine kF h ?_
   refine wp_exit ?_
   change Code.wp Try.prog _ _ _ _
   refine qs 29 [] [4] [(0,0),(0,1)] h fun ac wd h => ?_
   refine wp_ret ?_
   injection hL250 with hL250
   subst hL250
   exact rO h [.tmp 4] [(0,0),(0,1)]

theorem L_slices_ContainsFunc_2_int_2_int_own {a0 : (List A2I)} {a1 : Int} {a2 : (List Int)} {r : Bool × Int × (List Int)} (hD : L_slices_ContainsFunc_2_int_2_int a0 a1 a2 = some r) :
  CallH Try.prog 73 [.one (.d (.sl (List.map eA2I a0))),.one (.fnp 74 [((0,0),0),((0,1),0)])] [((0,0),some (.box 3 [.d (.int .i64 a1)])),((0,1),some (.box 28 [.d (.sl (List.map eI a2))]))]
   (.one (.d (.bool r.1))) [((0,0),some (.box 3 [.d (.int .i64 r.2.1)])),((0,1),some (.box 28 [.d (.sl (List.map eI r.2.2))]))] := by
 unfold L_slices_ContainsFunc_2_int_2_int at hD
 refine rc Try.func73 rfl Try.ntmps73 fun S Φ P0 wb ac h => ?_
 refine qs 2 [] [0,1] [(0,0),(0,1)] h fun ac wd h => ?_
 obtain ⟨r7,hc8,hD⟩ := oB hD
 have hc8_4 := ((L_slices_IndexFunc_2_int_2_int_own hc8).cls 4).z
 refine qs 7 [factR hc8_4] [4] [(0,0),(0,1)] h fun ac wd h => ?_
 refine wp_ret ?_
 injection hD with hD
 subst hD
 exact rO h [.tmp 4] [(0,0),(0,1)]

theorem L_knot_Held_1_own {a0 : Int} {a1 : (List A2I)} {a2 : (List Int)} {r : Bool × (List A2I) × (List Int)} (hD : L_knot_Held_1 a0 a1 a2 = some r) :
  CallH Try.prog 72 [.one (.d (.int .i64 a0)),.one (.ptr (0,0) 0),.one (.ptr (0,1) 0)] [((0,0),some (.box 22 [.d (.sl (List.map eA2I a1))])),((0,1),some (.box 28 [.d (.sl (List.map eI a2))]))]
   (.one (.d (.bool r.1))) [((0,0),some (.box 22 [.d (.sl (List.map eA2I r.2.1))])),((0,1),some (.box 28 [.d (.sl (List.map eI r.2.2))]))] := by
 unfold L_knot_Held_1 at hD
 refine rc Try.func72 rfl Try.ntmps72 fun S Φ P0 wb ac h => ?_
 refine qs 3 [] [1,2,3] [(0,0),(0,1),(1,0)] h fun ac wd h => ?_
 obtain ⟨r7,hc8,hD⟩ := oB hD
 have hc8_5 := (((L_slices_ContainsFunc_2_int_2_int_own hc8).cls 5).nm (0,0) (1,0)).z
 refine qs 8 [factR hc8_5] [4] [(0,0),(0,1)] h fun ac wd h => ?_
 refine wp_ret ?_
 injection hD with hD
 subst hD
 exact rO h [.tmp 4] [(0,0),(0,1)]

theorem L_slices_IndexFunc_int_int_own {a0 : (List Int)} {a1 : (List A2I)} {a2 : (List Int)} {r : Int × (List A2I) × (List Int)} (hD : L_slices_IndexFunc_int_int a0 a1 a2 = some r) :
  CallH Try.prog 106 [.one (.d (.sl (List.map eI a0))),.one (.fnp 72 [((0,0),0),((0,1),0)])] [((0,0),some (.box 22 [.d (.sl (List.map eA2I a1))])),((0,1),some (.box 28 [.d (.sl (List.map eI a2))]))]
   (.one (.d (.int .i64 r.1))) [((0,0),some (.box 22 [.d (.sl (List.map eA2I r.2.1))])),((0,1),some (.box 28 [.d (.sl (List.map eI r.2.2))]))] := by
 unfold L_slices_IndexFunc_int_int at hD
 refine rc Try.func106 rfl Try.ntmps106 fun S Φ P0 wb ac h => ?_
 refine qs 2 [] [0,1] [(0,0),(0,1)] h fun ac wd h => ?_
 refine wp_seq ?_
 refine qs 5 [] [0,1,7,8] [(0,0),(0,1)] h fun ac wd h => ?_
 refine wp_block ?_
 refine r_while (fun nf ac wd => ∃ (n247 : Int) (l248 : List A2I) (l249 : List Int),L_slices_IndexFunc_int_int_l1 a0 nf n247 l248 l249 = some r ∧ SL ⟨wb,S,Φ,P0⟩ 19 27 [(0,.one (.d (.sl (List.map eI a0)))),(1,.one (.fnp 72 [((0,0),0),((0,1),0)])),(7,.one (.d (.int .i64 (a0.length : Int)))),(8,.one (.d (.int .i64 n247)))] [((0,0),some (.box 22 [.d (.sl (List.map eA2I l248))])),((0,1),some (.box 28 [.d (.sl (List.map eI l249))]))] ac wd) (((a0.length : Int) - 0).toNat + 1) ⟨0,a1,a2,hD,h.z⟩ (fun nf ac wd hJ => ?_)
 obtain ⟨n247,l248,l249,hL250,h⟩ := hJ
 cases nf with
 | zero => rw [L_slices_IndexFunc_int_int_l1] at hL250; cases hL250
 | succ nf =>
  rw [L_slices_IndexFunc_int_int_l1] at hL250
  refine qs 28 [] [0,1,7,8,9] [(0,0),(0,1)] h fun ac wd h => ?_
  refine wp_seq ?_
  rcases i2 hL250 with ⟨hb252,hL250⟩ | ⟨hb252,hL250⟩
  ·
   refine kT h ?_
   refine wp_skip ?_
   change Code.wp Try.prog _ _ _ _
   refine wp_seq ?_
   refine wp_block ?_
   refine qs 30 [] [0,1,5,7,8] [(0,0),(0,1)] h fun ac wd h => ?_
   obtain ⟨x266,hx267a,hx267b,hx267c,hx267d,hL250⟩ := aB hL250
   obtain ⟨r268,hc269,hL250⟩ := oB hL250
   have hc269_35 := ((L_knot_Held_1_own hc269).cls 35).z
   refine qs 36 [factR hc269_35] [0,1,5,7,8,16] [(0,0),(0,1)] h fun ac wd h => ?_
   rcases i2b hL250 with ⟨hb270,hL250⟩ | ⟨hb270,hL250⟩
   ·
    refine kT h ?_
    refine qs 38 [] [4] [(0,0),(0,1)] h fun ac wd h => ?_
    refine wp_ret ?_
    injection hL250 with hL250
    subst hL250
    exact rO h [.tmp 4] [(0,0),(0,1)]
   ·
    refine kF h ?_
    refine wp_skip ?_
    change Code.wp Try.prog _ _ _ _
    refine qe [] [0,1,7,8] [(0,0),(0,1)] h fun ac wd h => ?_
    exact ⟨nf,Nat.lt_succ_self nf,(IntKind.wrap .i64 (n247 + 1)),r268.2.1,r268.2.2,hL250,h.z⟩
  ·
   refine kF h ?_
   refine wp_exit ?_
   change Code.wp Try.prog _ _ _ _
   refine qs 29 [] [4] [(0,0),(0,1)] h fun ac wd h => ?_
   refine wp_ret ?_
   injection hL250 with hL250
   subst hL250
   exact rO h [.tmp 4] [(0,0),(0,1)]

theorem L_slices_ContainsFunc_int_int_own {a0 : (List Int)} {a1 : (List A2I)} {a2 : (List Int)} {r : Bool × (List A2I) × (List Int)} (hD : L_slices_ContainsFunc_int_int a0 a1 a2 = some r) :
  CallH Try.prog 76 [.one (.d (.sl (List.map eI a0))),.one (.fnp 72 [((0,0),0),((0,1),0)])] [((0,0),some (.box 22 [.d (.sl (List.map eA2I a1))])),((0,1),some (.box 28 [.d (.sl (List.map eI a2))]))]
   (.one (.d (.bool r.1))) [((0,0),some (.box 22 [.d (.sl (List.map eA2I r.2.1))])),((0,1),some (.box 28 [.d (.sl (List.map eI r.2.2))]))] := by
 unfold L_slices_ContainsFunc_int_int at hD
 refine rc Try.func76 rfl Try.ntmps76 fun S Φ P0 wb ac h => ?_
 refine qs 2 [] [0,1] [(0,0),(0,1)] h fun ac wd h => ?_
 obtain ⟨r7,hc8,hD⟩ := oB hD
 have hc8_4 := ((L_slices_IndexFunc_int_int_own hc8).cls 4).z
 refine qs 7 [factR hc8_4] [4] [(0,0),(0,1)] h fun ac wd h => ?_
 refine wp_ret ?_
 injection hD with hD
 subst hD
 exact rO h [.tmp 4] [(0,0),(0,1)]

theorem L_knot_Held_ok {a0 : TApp} {a1 : TConf} {a2 : (List Int)} {r : Bool} (hD : L_knot_Held a0 a1 a2 = some r) :
  CallH Try.prog 39 [.agg (cTApp a0),.agg (cTConf a1),.one (.d (.sl (List.map eI a2)))] []
   (.one (.d (.bool r))) [] := by
 unfold L_knot_Held at hD
 refine rc Try.func39 rfl Try.ntmps39 fun S Φ P0 wb ac h => ?_
 refine qs 5 [] [3,4,5] [(1,0),(2,0),(3,0)] h fun ac wd h => ?_
 obtain ⟨r16,hc17,hD⟩ := oB hD
 have hc17k := L_knot_Edges_ok hc17
 refine qs 10 [factE 7 hc17k] [5,7] [(3,0),(8,0)] h fun ac wd h => ?_
 refine qs 12 [] [5,8] [(3,0),(8,0)] h fun ac wd h => ?_
 obtain ⟨e22,hE23,hD⟩ := Option.bind_eq_some_iff.1 hD
 refine r_seqJ (fun ac wd => ∃ (b21 : Bool),b21 = e22 ∧ SL ⟨wb,S,Φ,P0⟩ 22 22 [(6,.one (.d (.bool b21)))] [] ac wd) ?_ ?_
 ·
  rcases i2 hE23 with ⟨hb24,hE23⟩ | ⟨hb24,hE23⟩
  ·
   obtain ⟨r25,hc26,hE23⟩ := oB hE23
   have hc26_18 := ((((L_slices_ContainsFunc_int_int_own hc26).cls 18).nm (0,0) (8,0)).nm (0,1) (3,0)).z
   refine qeg [factR hc26_18] [none,none,none,none,some (some 16,true),some (some 16,true),some (some 16,true),some (some 16,true),none,none] [6] [] h fun ac wd h => ?_
   injection hE23 with hE23; subst hE23
   exact ⟨!(r25.1),rfl,h.z⟩
  ·
   refine qeg [] [none,none,none,none,some (some 16,true),some (some 16,true),some (some 16,true),some (some 16,true),none,none] [6] [] h fun ac wd h => ?_
   injection hE23 with hE23; subst hE23
   exact ⟨false,rfl,h.z⟩
 ·
  rintro ac wd ⟨b21,rfl,h⟩
  (try dsimp only at hD)
  refine wp_ret ?_
  injection hD with hD
  subst hD
  exact rE h [.tmp 6]

theorem L_slices_Index_2_int_2_int_ok {a0 : (List A2I)} {a1 : A2I} {r : Int} (hD : L_slices_Index_2_int_2_int a0 a1 = some r) :
  CallH Try.prog 107 [.one (.d (.sl (List.map eA2I a0))),.agg (cA2I a1)] []
   (.one (.d (.int .i64 r))) [] := by
 unfold L_slices_Index_2_int_2_int at hD
 refine rc Try.func107 rfl Try.ntmps107 fun S Φ P0 wb ac h => ?_
 refine qs 3 [] [0,3] [(1,0)] h fun ac wd h => ?_
 refine wp_seq ?_
 refine qs 6 [] [0,3,7,8] [(1,0)] h fun ac wd h => ?_
 refine wp_block ?_
 refine r_while (fun nf ac wd => ∃ (n187 : Int),L_slices_Index_2_int_2_int_l1 a0 a1 nf n187 = some r ∧ SL ⟨wb,S,Φ,P0⟩ 19 28 [(0,.one (.d (.sl (List.map eA2I a0)))),(3,.one (.ptr (1,0) 0)),(7,.one (.d (.int .i64 (a0.length : Int)))),(8,.one (.d (.int .i64 n187)))] [((1,0),some (.box 97 (cA2I a1)))] ac wd) (((a0.length : Int) - 0).toNat + 1) ⟨0,hD,h.z⟩ (fun nf ac wd hJ => ?_)
 obtain ⟨n187,hL188,h⟩ := hJ
 cases nf with
 | zero => rw [L_slices_Index_2_int_2_int_l1] at hL188; cases hL188
 | succ nf =>
  rw [L_slices_Index_2_int_2_int_l1] at hL188
  refine qs 29 [] [0,3,7,8,9] [(1,0)] h fun ac wd h => ?_
  refine wp_seq ?_
  rcases i2 hL188 with ⟨hb190,hL188⟩ | ⟨hb190,hL188⟩
  ·
   refine kT h ?_
   refine wp_skip ?_
   change Code.wp Try.prog _ _ _ _
   refine wp_seq ?_
   refine wp_block ?_
   refine qs 31 [] [0,3,5,7,8] [(1,0)] h fun ac wd h => ?_
   obtain ⟨x201,hx202a,hx202b,hx202c,hx202d,hL188⟩ := aB hL188
   have hz203 := eq_A2I_vv a1 x201
   refine ds 37 [] [0,3,5,7,8,16] [(1,0)] h fun ac wd h => ?_
   rcases i2e hL188 with ⟨hb204,hL188⟩ | ⟨hb204,hL188⟩
   ·
    refine kT h ?_
    refine qs 39 [] [4] [] h fun ac wd h => ?_
    refine wp_ret ?_
    injection hL188 with hL188
    subst hL188
    exact rE h [.tmp 4]
   ·
    refine kF h ?_
    refine wp_skip ?_
    change Code.wp Try.prog _ _ _ _
    refine qe [] [0,3,7,8] [(1,0)] h fun ac wd h => ?_
    exact ⟨nf,Nat.lt_succ_self nf,(IntKind.wrap .i64 (n187 + 1)),hL188,h.z⟩
  ·
   refine kF h ?_
   refine wp_exit ?_
   change Code.wp Try.prog _ _ _ _
   refine qs 30 [] [4] [] h fun ac wd h => ?_
   refine wp_ret ?_
   injection hL188 with hL188
   subst hL188
   exact rE h [.tmp 4]

theorem L_slices_Contains_2_int_2_int_ok {a0 : (List A2I)} {a1 : A2I} {r : Bool} (hD : L_slices_Contains_2_int_2_int a0 a1 = some r) :
  CallH Try.prog 77 [.one (.d (.sl (List.map eA2I a0))),.agg (cA2I a1)] []
   (.one (.d (.bool r))) [] := by
 unfold L_slices_Contains_2_int_2_int at hD
 refine rc Try.func77 rfl Try.ntmps77 fun S Φ P0 wb ac h => ?_
 refine qs 3 [] [0,3] [(1,0)] h fun ac wd h => ?_
 obtain ⟨r7,hc8,hD⟩ := oB hD
 have hc8k := L_slices_Index_2_int_2_int_ok hc8
 refine qs 8 [factE 5 hc8k] [4] [] h fun ac wd h => ?_
 refine wp_ret ?_
 injection hD with hD
 subst hD
 exact rE h [.tmp 4]

theorem L_knot_Ring_ok {a0 : TApp} {a1 : TConf} {a2 : (List Int)} {r : Bool} (hD : L_knot_Ring a0 a1 a2 = some r) :
  CallH Try.prog 40 [.agg (cTApp a0),.agg (cTConf a1),.one (.d (.sl (List.map eI a2)))] []
   (.one (.d (.bool r))) [] := by
 unfold L_knot_Ring at hD
 refine rc Try.func40 rfl Try.ntmps40 fun S Φ P0 wb ac h => ?_
 refine qs 4 [] [2,3,4] [(1,0),(2,0)] h fun ac wd h => ?_
 obtain ⟨r410,hc411,hD⟩ := oB hD
 have hc411k := L_knot_Edges_ok hc411
 refine qs 8 [factE 6 hc411k] [2,7] [] h fun ac wd h => ?_
 refine wp_seq ?_
 refine qs 11 [] [2,7,13,14,15] [] h fun ac wd h => ?_
 refine wp_block ?_
 refine r_while (fun nf ac wd => ∃ (n745 : Int),L_knot_Ring_l1 a2 r410 nf n745 = some r ∧ SL ⟨wb,S,Φ,P0⟩ 44 67 [(2,.one (.d (.sl (List.map eI a2)))),(7,.one (.d (.sl (List.map eA2I r410)))),(13,.one (.d (.sl (List.map eI a2)))),(14,.one (.d (.int .i64 (a2.length : Int)))),(15,.one (.d (.int .i64 n745)))] [] ac wd) (((a2.length : Int) - 0).toNat + 1) ⟨0,hD,h.z⟩ (fun nf ac wd hJ => ?_)
 obtain ⟨n745,hL746,h⟩ := hJ
 cases nf with
 | zero => rw [L_knot_Ring_l1] at hL746; cases hL746
 | succ nf =>
  rw [L_knot_Ring_l1] at hL746
  refine qs 68 [] [2,7,13,14,15,16] [] h fun ac wd h => ?_
  refine wp_seq ?_
  rcases i2 hL746 with ⟨hb748,hL746⟩ | ⟨hb748,hL746⟩
  ·
   refine kT h ?_
   refine wp_skip ?_
   change Code.wp Try.prog _ _ _ _
   refine wp_seq ?_
   refine wp_block ?_
   obtain ⟨x783,hx784a,hx784b,hx784c,hx784d,hL746⟩ := aB hL746
   refine qs 73 [] [2,7,8,9,13,14,15] [] h fun ac wd h => ?_
   obtain ⟨e798,hE799,hL746⟩ := Option.bind_eq_some_iff.1 hL746
   refine r_seqJ (fun ac wd => ∃ (b797 : Bool),b797 = e798 ∧ SL ⟨wb,S,Φ,P0⟩ 44 93 [(2,.one (.d (.sl (List.map eI a2)))),(7,.one (.d (.sl (List.map eA2I r410)))),(13,.one (.d (.sl (List.map eI a2)))),(14,.one (.d (.int .i64 (a2.length : Int)))),(15,.one (.d (.int .i64 n745))),(39,.one (.d (.bool b797)))] [] ac wd) ?_ ?_
   ·
    obtain ⟨ha800,hE799⟩ := iT hE799
    obtain ⟨ha801,hE799⟩ := iT hE799
    obtain ⟨v802,hv803,hE799⟩ := vB hE799
    obtain ⟨r804,hc805,hE799⟩ := oB hE799
    rcases i2b hE799 with ⟨hb806,hE799⟩ | ⟨hb806,hE799⟩
    ·
     have hc805k := L_slices_Contains_int_int_ok hc805
     refine qeg [factE 77 hc805k] [none,none,none,none,none,none,some (some 25,false),some (some 25,false),some (some 25,false),some (some 25,false),some (some 25,false),some (some 25,false),some (some 25,false),some (some 25,false),some (some 25,false),some (some 25,false),some (some 25,false),some (some 25,false),some (some 25,false),none] [2,7,13,14,15,39] [] h fun ac wd h => ?_
     injection hE799 with hE799; subst hE799
     exact ⟨true,rfl,h.z⟩
    ·
     obtain ⟨ha807,hE799⟩ := iT hE799
     obtain ⟨x808,hx809a,hx809b,hx809c,hx809d,hE799⟩ := aB hE799
     obtain ⟨r810,hc811,hE799⟩ := oB hE799
     have hc805k := L_slices_Contains_int_int_ok hc805
     have hc811k := L_slices_Contains_2_int_2_int_ok hc811
     refine qeg [factE 77 hc805k,factE 90 hc811k] [none,none,none,none,none,none,some (some 25,false),some (some 25,false),some (some 25,false),some (some 25,false),some (some 25,false),some (some 25,false),some (some 25,false),some (some 25,false),some (some 25,false),some (some 25,false),some (some 25,false),some (some 25,false),some (some 25,false),none] [2,7,13,14,15,39] [] h fun ac wd h => ?_
     injection hE799 with hE799; subst hE799
     exact ⟨!(r810),rfl,h.z⟩
   ·
    rintro ac wd ⟨b797,rfl,h⟩
    (try dsimp only at hL746)
    rcases i2b hL746 with ⟨hb812,hL746⟩ | ⟨hb812,hL746⟩
    ·
     refine kT h ?_
     refine qs 94 [] [6] [] h fun ac wd h => ?_
     refine wp_ret ?_
     injection hL746 with hL746
     subst hL746
     exact rE h [.tmp 6]
    ·
     refine kF h ?_
     refine wp_skip ?_
     change Code.wp Try.prog _ _ _ _
     refine qe [] [2,7,13,14,15] [] h fun ac wd h => ?_
     exact ⟨nf,Nat.lt_succ_self nf,(IntKind.wrap .i64 (n745 + 1)),hL746,h.z⟩
  ·
   refine kF h ?_
   refine wp_exit ?_
   change Code.wp Try.prog _ _ _ _
   refine qs 72 [] [6] [] h fun ac wd h => ?_
   refine wp_ret ?_
   injection hL746 with hL746
   subst hL746
   exact rE h [.tmp 6]

theorem L_law15_fixed_ok {r : Bool} (hD : L_law15_fixed = some r) :
  CallH Try.prog 37 [] []
   (.one (.d (.bool r))) [] := by
 unfold L_law15_fixed at hD
 refine rc Try.func37 rfl Try.ntmps37 fun S Φ P0 wb ac h => ?_
 refine qs 2 [] [] [] h fun ac wd h => ?_
 obtain ⟨r92,hc93,hD⟩ := oB hD
 have hc93k := L_law15_Dead_ok hc93
 refine qs 5 [factE 2 hc93k] [1] [(3,0)] h fun ac wd h => ?_
 refine ds 11 [] [1,2] [(3,0),(5,0),(6,0),(7,0),(9,0)] h fun ac wd h => ?_
 have h := h.nilTr (6,0) (l := List.replicate 6 [.nil]) (l' := List.replicate 6 [.tr (.sl 70 2 (fun _ => .sc)) (.sl (List.map eTMsg []))]) (by simp only [EZ,simprocAttr] <;> rfl) (RowsTo.rep (RowTo.cons (.inr (.inr ⟨rfl,_,_,_,rfl⟩)) RowTo.nil) _)
 have h := h.sm 11 [(1,.one (.ptr (3,0) 0)),(2,.one (.ptr (9,0) 0))]
  [((3,0),some (.box 27 [.d (.int .i64 r92.G.N),.d (.sl (List.map eA2I r92.G.Links)),.d (.sl (List.map eTNode r92.T)),.d (.bool r92.Fifo)])),((5,0),some (.row 3 1 (dat (List.map eI (([0] ++ [0]) ++ [0]))))),((6,0),some (.row 43 1 (List.replicate 6 [.tr (.sl 70 2 (fun _ => .sc)) (.sl (List.map eTMsg []))]))),((7,0),some (.row 3 1 (dat (List.map eI (List.replicate 6 0))))),((9,0),some (.box 31 [.own (5,0) (1 + 1 + 1),.own (6,0) 6,.own (7,0) 6]))]
 refine qs 19 [] [1,2,3] [(3,0),(5,0),(6,0),(7,0),(9,0),(11,0),(13,0),(14,0),(15,0),(17,0)] h fun ac wd h => ?_
 have h := h.nilTr (14,0) (l := ((((([[.nil]] ++ [[.nil]]) ++ [[.own (13,0) 1]]) ++ [[.nil]]) ++ [[.nil]]) ++ [[.nil]])) (l' := ((((([[.tr (.sl 70 2 (fun _ => .sc)) (.sl (List.map eTMsg []))]] ++ [[.tr (.sl 70 2 (fun _ => .sc)) (.sl (List.map eTMsg []))]]) ++ [[.own (13,0) 1]]) ++ [[.tr (.sl 70 2 (fun _ => .sc)) (.sl (List.map eTMsg []))]]) ++ [[.tr (.sl 70 2 (fun _ => .sc)) (.sl (List.map eTMsg []))]]) ++ [[.tr (.sl 70 2 (fun _ => .sc)) (.sl (List.map eTMsg []))]])) (by simp only [EZ,simprocAttr] <;> rfl) (RowsTo.append (RowsTo.append (RowsTo.append (RowsTo.append (RowsTo.append (RowsTo.cons (RowTo.cons (.inr (.inr ⟨rfl,_,_,_,rfl⟩)) RowTo.nil) (RowsTo.refl [])) (RowsTo.cons (RowTo.cons (.inr (.inr ⟨rfl,_,_,_,rfl⟩)) RowTo.nil) (RowsTo.refl []))) (RowsTo.cons (RowTo.cons (.inl rfl) RowTo.nil) (RowsTo.refl []))) (RowsTo.cons (RowTo.cons (.inr (.inr ⟨rfl,_,_,_,rfl⟩)) RowTo.nil) (RowsTo.refl []))) (RowsTo.cons (RowTo.cons (.inr (.inr ⟨rfl,_,_,_,rfl⟩)) RowTo.nil) (RowsTo.refl []))) (RowsTo.cons (RowTo.cons (.inr (.inr ⟨rfl,_,_,_,rfl⟩)) RowTo.nil) (RowsTo.refl [])))
 have h := h.sm 19 [(1,.one (.ptr (3,0) 0)),(2,.one (.ptr (9,0) 0)),(3,.one (.ptr (17,0) 0))]
  [((3,0),some (.box 27 [.d (.int .i64 r92.G.N),.d (.sl (List.map eA2I r92.G.Links)),.d (.sl (List.map eTNode r92.T)),.d (.bool r92.Fifo)])),((5,0),some (.row 3 1 (dat (List.map eI (([0] ++ [0]) ++ [0]))))),((6,0),some (.row 43 1 (openRows cols_43 (List.map (eL eTMsg) (List.replicate 6 []))))),((7,0),some (.row 3 1 (dat (List.map eI (List.replicate 6 0))))),((9,0),some (.box 31 [.own (5,0) (1 + 1 + 1),.own (6,0) 6,.own (7,0) 6])),((11,0),some (.row 3 1 (dat (List.map eI (([0] ++ [0]) ++ [0]))))),((13,0),some (.row 70 2 (dat (List.map eTMsg [(TMsg.mk 1 0)])))),((14,0),some (.row 43 1 (((((([[.tr (.sl 70 2 (fun _ => .sc)) (.sl (List.map eTMsg []))]] ++ [[.tr (.sl 70 2 (fun _ => .sc)) (.sl (List.map eTMsg []))]]) ++ [[.own (13,0) 1]]) ++ [[.tr (.sl 70 2 (fun _ => .sc)) (.sl (List.map eTMsg []))]]) ++ [[.tr (.sl 70 2 (fun _ => .sc)) (.sl (List.map eTMsg []))]]) ++ [[.tr (.sl 70 2 (fun _ => .sc)) (.sl (List.map eTMsg []))]])))),((15,0),some (.row 3 1 (((((([[.d (.int .i64 0)]] ++ [[.d (.int .i64 0)]]) ++ [[.d (.int .i64 1)]]) ++ [[.d (.int .i64 0)]]) ++ [[.d (.int .i64 0)]]) ++ [[.d (.int .i64 0)]])))),((17,0),some (.box 31 [.own (11,0) (1 + 1 + 1),.own (14,0) (1 + 1 + 1 + 1 + 1 + 1),.own (15,0) (1 + 1 + 1 + 1 + 1 + 1)]))]
 have h := h.f0 (cols := (fun _ => .sc)) (l := ((((([[.tr (.sl 70 2 (fun _ => .sc)) (.sl (List.map eTMsg []))]] ++ [[.tr (.sl 70 2 (fun _ => .sc)) (.sl (List.map eTMsg []))]]) ++ [[.own (13,0) 1]]) ++ [[.tr (.sl 70 2 (fun _ => .sc)) (.sl (List.map eTMsg []))]]) ++ [[.tr (.sl 70 2 (fun _ => .sc)) (.sl (List.map eTMsg []))]]) ++ [[.tr (.sl 70 2 (fun _ => .sc)) (.sl (List.map eTMsg []))]])) (r := [.own (13,0) 1]) (L := List.map eTMsg [(TMsg.mk 1 0)]) (14,0) (13,0) 2 0 (sc_70 _)
 have h := h.sm 19 [(1,.one (.ptr (3,0) 0)),(2,.one (.ptr (9,0) 0)),(3,.one (.ptr (17,0) 0))]
  [((3,0),some (.box 27 [.d (.int .i64 r92.G.N),.d (.sl (List.map eA2I r92.G.Links)),.d (.sl (List.map eTNode r92.T)),.d (.bool r92.Fifo)])),((5,0),some (.row 3 1 (dat (List.map eI (([0] ++ [0]) ++ [0]))))),((6,0),some (.row 43 1 (openRows cols_43 (List.map (eL eTMsg) (List.replicate 6 []))))),((7,0),some (.row 3 1 (dat (List.map eI (List.replicate 6 0))))),((9,0),some (.box 31 [.own (5,0) (1 + 1 + 1),.own (6,0) 6,.own (7,0) 6])),((11,0),some (.row 3 1 (dat (List.map eI (([0] ++ [0]) ++ [0]))))),((14,0),some (.row 43 1 (((((([[.tr (.sl 70 2 (fun _ => .sc)) (.sl (List.map eTMsg []))]] ++ [[.tr (.sl 70 2 (fun _ => .sc)) (.sl (List.map eTMsg []))]]) ++ [[.tr (.sl 70 2 (fun _ => .sc)) (.sl (List.map eTMsg [(TMsg.mk 1 0)]))]]) ++ [[.tr (.sl 70 2 (fun _ => .sc)) (.sl (List.map eTMsg []))]]) ++ [[.tr (.sl 70 2 (fun _ => .sc)) (.sl (List.map eTMsg []))]]) ++ [[.tr (.sl 70 2 (fun _ => .sc)) (.sl (List.map eTMsg []))]])))),((15,0),some (.row 3 1 (((((([[.d (.int .i64 0)]] ++ [[.d (.int .i64 0)]]) ++ [[.d (.int .i64 1)]]) ++ [[.d (.int .i64 0)]]) ++ [[.d (.int .i64 0)]]) ++ [[.d (.int .i64 0)]])))),((17,0),some (.box 31 [.own (11,0) (1 + 1 + 1),.own (14,0) (1 + 1 + 1 + 1 + 1 + 1),.own (15,0) (1 + 1 + 1 + 1 + 1 + 1)]))]
 obtain ⟨r135,hc136,hD⟩ := oB hD
 have h := h.fz [(5,0),(6,0),(7,0)]
 obtain ⟨r137,hc138,hD⟩ := oB hD
 obtain ⟨hb139,hD⟩ := iT hD
 obtain ⟨r140,hc141,hD⟩ := oB hD
 obtain ⟨r142,hc143,hD⟩ := oB hD
 obtain ⟨hb144,hD⟩ := iT hD
 obtain ⟨r145,hc146,hD⟩ := oB hD
 have h := h.fz [(11,0),(14,0),(15,0)]
 obtain ⟨r147,hc148,hD⟩ := oB hD
 obtain ⟨hb149,hD⟩ := iT hD
 obtain ⟨r150,hc151,hD⟩ := oB hD
 obtain ⟨hb152,hD⟩ := iTe hD
 obtain ⟨r153,hc154,hD⟩ := oB hD
 obtain ⟨hb155,hD⟩ := iT hD
 obtain ⟨r156,hc157,hD⟩ := oB hD
 obtain ⟨hb158,hD⟩ := iT hD
 obtain ⟨r159,hc160,hD⟩ := oB hD
 obtain ⟨hb161,hD⟩ := iFb hD
 obtain ⟨r176,hc177,hD⟩ := oB hD
 obtain ⟨hb178,hD⟩ := iFb hD
 obtain ⟨r190,hc191,hD⟩ := oB hD
 obtain ⟨hb192,hD⟩ := iT hD
 obtain ⟨r193,hc194,hD⟩ := oB hD
 obtain ⟨hb195,hD⟩ := iFb hD
 obtain ⟨r201,hc202,hD⟩ := oB hD
 obtain ⟨hb203,hD⟩ := iFb hD
 obtain ⟨r206,hc207,hD⟩ := oB hD
 have hc136k := L_knot_Edges_ok hc136
 have hc138k := L_ref15_Pairs_ok hc138
 have hc141k := L_knot_Knot_ok hc141
 have hc143k := L_ref01_Ints_ok hc143
 have hc146k := L_knot_Edges_ok hc146
 have hc148k := L_ref15_Pairs_ok hc148
 have hc151k := L_knot_Knot_ok hc151
 have hc154k := L_knot_Held_ok hc154
 have hc157k := L_knot_Held_ok hc157
 have hc160k := L_knot_Held_ok hc160
 have hc177k := L_knot_Held_ok hc177
 have hc191k := L_knot_Ring_ok hc191
 have hc194k := L_knot_Ring_ok hc194
 have hc202k := L_knot_Ring_ok hc202
 have hc207k := L_knot_Held_ok hc207
 refine qsg 102 [factE 21 hc136k,factE 26 hc138k,factE 30 hc141k,factE 32 hc143k,factE 37 hc146k,factE 41 hc148k,factE 46 hc151k,factE 54 hc154k,factE 60 hc157k,factE 66 hc160k,factE 72 hc177k,factE 79 hc191k,factE 85 hc194k,factE 91 hc202k,factE 98 hc207k] [none,none,none,none,none,none,none,none,none,some (some 23,true),some (some 23,true),some (some 23,true),some (some 23,true),some (some 23,true),none,none,some (some 30,true),some (some 30,true),some (some 30,true),some (some 30,true),some (some 30,true),some (some 30,true),some (some 30,true),none,none,some (some 39,true),some (some 39,true),some (some 39,true),some (some 39,true),some (some 39,true),none,none,some (some 46,true),some (some 46,true),some (some 46,true),some (some 46,true),none,none,some (some 52,true),some (some 52,true),some (some 52,true),some (some 52,true),none,none,some (some 58,true),some (some 58,true),some (some 58,true),some (some 58,true),some (some 58,true),none,none,some (some 65,true),some (some 65,true),some (some 65,true),some (some 65,true),none,none,some (some 71,true),some (some 71,true),some (some 71,true),some (some 71,true),none,none,some (some 77,true),some (some 77,true),some (some 77,true),some (some 77,true),some (some 77,true),none,none,some (some 84,true),some (some 84,true),some (some 84,true),some (some 84,true),none,none,some (some 90,true),some (some 90,true),some (some 90,true),some (some 90,true),some (some 90,true),none,none] [0] [] h fun ac wd h => ?_
 refine wp_ret ?_
 injection hD with hD
 subst hD
 exact rE h [.tmp 0]

end Go.Proofs.Ytifcbecpemaieaa
