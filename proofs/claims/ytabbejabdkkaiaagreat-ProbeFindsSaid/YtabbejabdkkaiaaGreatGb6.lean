/- Functions as typed ones,and that the program's functions answer as these do. No condition. -/
import Derived.Test.YtabbejabdkkaiaaGreatGb5
import Derived.Test.YtabbejabdkkaiaaGreatGd
set_option linter.unusedSimpArgs false
set_option linter.unusedVariables false
set_option maxRecDepth 20000
set_option maxHeartbeats 4000000
namespace Go.Proofs.YtabbejabdkkaiaaGreat
open Go.RowKit

theorem L_slices_IndexFunc_int_int_ok {a0 : (List Int)} {r : Int} (hD : L_slices_IndexFunc_int_int a0 = some r) :
  CallH Tryz.prog 99 [.one (.d (.sl (List.map eI a0))),.one (.d (.fn 86 [] []))] []
   (.one (.d (.int .i64 r))) [] := by
 unfold L_slices_IndexFunc_int_int at hD
 refine rc Tryz.func99 rfl Tryz.ntmps99 fun S Φ P0 wb ac h => ?_
 refine qs 2 [] [0,1] [] h fun ac wd h => ?_
 refine wp_seq ?_
 refine qs 5 [] [0,1,7,8] [] h fun ac wd h => ?_
 refine wp_block ?_
 refine r_while (fun nf ac wd => ∃ (aa : Int),L_slices_IndexFunc_int_int_l1 a0 nf aa = some r ∧ SL ⟨wb,S,Φ,P0⟩ 19 27 [(0,.one (.d (.sl (List.map eI a0)))),(1,.one (.d (.fn 86 [] []))),(7,.one (.d (.int .i64 (a0.length : Int)))),(8,.one (.d (.int .i64 aa)))] [] ac wd) (((a0.length : Int) - 0).toNat + 1) ⟨0,hD,h.z⟩ (fun nf ac wd hJ => ?_)
 obtain ⟨aa,ab,h⟩ := hJ
 cases nf with
 | zero => rw [L_slices_IndexFunc_int_int_l1] at ab; cases ab
 | succ nf =>
  rw [L_slices_IndexFunc_int_int_l1] at ab
  refine qs 28 [] [0,1,7,8,9] [] h fun ac wd h => ?_
  refine wp_seq ?_
  rcases i2 ab with ⟨ad,ab⟩ | ⟨ad,ab⟩
  ·
   refine kT h ?_
   refine wp_skip ?_
   change Code.wp Tryz.prog _ _ _ _
   refine wp_seq ?_
   refine wp_block ?_
   refine qs 30 [] [0,1,5,7,8] [] h fun ac wd h => ?_
   obtain ⟨ae,af,ag,ah,ai,ab⟩ := aB ab
   obtain ⟨aj,ak,ab⟩ := oB ab
   have al := L_piece_Right_1_ok ak
   refine qs 36 [factE 35 al] [0,1,5,7,8,16] [] h fun ac wd h => ?_
   rcases i2b ab with ⟨am,ab⟩ | ⟨am,ab⟩
   ·
    refine kT h ?_
    refine qs 38 [] [4] [] h fun ac wd h => ?_
    refine wp_ret ?_
    injection ab with ab
    subst ab
    exact rE h [.tmp 4]
   ·
    refine kF h ?_
    refine wp_skip ?_
    change Code.wp Tryz.prog _ _ _ _
    refine qe [] [0,1,7,8] [] h fun ac wd h => ?_
    exact ⟨nf,Nat.lt_succ_self nf,(IntKind.wrap .i64 (aa + 1)),ab,h.z⟩
  ·
   refine kF h ?_
   refine wp_exit ?_
   change Code.wp Tryz.prog _ _ _ _
   refine qs 29 [] [4] [] h fun ac wd h => ?_
   refine wp_ret ?_
   injection ab with ab
   subst ab
   exact rE h [.tmp 4]

theorem L_slices_ContainsFunc_int_int_ok {a0 : (List Int)} {r : Bool} (hD : L_slices_ContainsFunc_int_int a0 = some r) :
  CallH Tryz.prog 87 [.one (.d (.sl (List.map eI a0))),.one (.d (.fn 86 [] []))] []
   (.one (.d (.bool r))) [] := by
 unfold L_slices_ContainsFunc_int_int at hD
 refine rc Tryz.func87 rfl Tryz.ntmps87 fun S Φ P0 wb ac h => ?_
 refine qs 2 [] [0,1] [] h fun ac wd h => ?_
 obtain ⟨r7,ab,hD⟩ := oB hD
 have ad := L_slices_IndexFunc_int_int_ok ab
 refine qs 7 [factE 4 ad] [4] [] h fun ac wd h => ?_
 refine wp_ret ?_
 injection hD with hD
 subst hD
 exact rE h [.tmp 4]

theorem L_piece_Right_ok {a0 : TPiece} {r : Bool} (hD : L_piece_Right a0 = some r) :
  CallH Tryz.prog 67 [.agg (cTPiece a0)] []
   (.one (.d (.bool r))) [] := by
 unfold L_piece_Right at hD
 refine rc Tryz.func67 rfl Tryz.ntmps67 fun S Φ P0 wb ac h => ?_
 refine qs 3 [] [1] [(1,0)] h fun ac wd h => ?_
 refine wp_seq ?_
 obtain ⟨aa,ab,hD⟩ := Option.bind_eq_some_iff.1 hD
 refine r_seqJ (fun ac wd => ∃ (ad : Bool),ad = aa ∧ SL ⟨wb,S,Φ,P0⟩ 77 32 [(1,.one (.ptr (1,0) 0)),(38,.one (.d (.bool ad)))] [((1,0),some (.box 102 (cTPiece a0)))] ac wd) ?_ ?_
 ·
  obtain ⟨ae,af,ab⟩ := oB ab
  rcases i2b ab with ⟨ag,ab⟩ | ⟨ag,ab⟩
  ·
   obtain ⟨ah,ai,ab⟩ := oB ab
   rcases i2b ab with ⟨aj,ab⟩ | ⟨aj,ab⟩
   ·
    obtain ⟨ak,al,ab⟩ := oB ab
    rcases i2b ab with ⟨am,ab⟩ | ⟨am,ab⟩
    ·
     have an := L_piece_within_ok af
     have ao := L_piece_within_ok ai
     have ap := L_piece_within_ok al
     refine qeg [factE 5 an,factE 10 ao,factE 16 ap] [none,none,none,none,none,some (some 14,false),some (some 14,false),some (some 14,false),some (some 14,false),none,none,some (some 20,false),some (some 20,false),some (some 20,false),some (some 20,false),none,none,some (some 26,false),some (some 26,false),some (some 26,false),some (some 26,false),some (some 26,false),some (some 26,false),some (some 26,false),some (some 26,false),some (some 26,false),some (some 26,false),some (some 26,false),none] [1,38] [(1,0)] h fun ac wd h => ?_
     injection ab with ab; subst ab
     exact ⟨decide ((max (max (a0.Sent.length : Int) (a0.In.length : Int)) (a0.Out.length : Int)) > 5),rfl,h.z⟩
    ·
     have an := L_piece_within_ok af
     have ao := L_piece_within_ok ai
     have ap := L_piece_within_ok al
     refine qeg [factE 5 an,factE 10 ao,factE 16 ap] [none,none,none,none,none,some (some 14,false),some (some 14,false),some (some 14,false),some (some 14,false),none,none,some (some 20,false),some (some 20,false),some (some 20,false),some (some 20,false),none,none,some (some 26,false),some (some 26,false),some (some 26,false),some (some 26,false),some (some 26,false),some (some 26,false),some (some 26,false),some (some 26,false),some (some 26,false),some (some 26,false),some (some 26,false),none] [1,38] [(1,0)] h fun ac wd h => ?_
     injection ab with ab; subst ab
     exact ⟨true,rfl,h.z⟩
   ·
    have an := L_piece_within_ok af
    have ao := L_piece_within_ok ai
    refine qeg [factE 5 an,factE 10 ao] [none,none,none,none,none,some (some 14,false),some (some 14,false),some (some 14,false),some (some 14,false),none,none,some (some 20,false),some (some 20,false),some (some 20,false),some (some 20,false),none,none,some (some 26,false),some (some 26,false),some (some 26,false),some (some 26,false),some (some 26,false),some (some 26,false),some (some 26,false),some (some 26,false),some (some 26,false),some (some 26,false),some (some 26,false),none] [1,38] [(1,0)] h fun ac wd h => ?_
    injection ab with ab; subst ab
    exact ⟨true,rfl,h.z⟩
  ·
   have an := L_piece_within_ok af
   refine qeg [factE 5 an] [none,none,none,none,none,some (some 14,false),some (some 14,false),some (some 14,false),some (some 14,false),none,none,some (some 20,false),some (some 20,false),some (some 20,false),some (some 20,false),none,none,some (some 26,false),some (some 26,false),some (some 26,false),some (some 26,false),some (some 26,false),some (some 26,false),some (some 26,false),some (some 26,false),some (some 26,false),some (some 26,false),some (some 26,false),none] [1,38] [(1,0)] h fun ac wd h => ?_
   injection ab with ab; subst ab
   exact ⟨true,rfl,h.z⟩
 ·
  rintro ac wd ⟨ad,rfl,h⟩
  (try dsimp only at hD)
  rcases i2b hD with ⟨aq,hD⟩ | ⟨aq,hD⟩
  ·
   refine kT h ?_
   refine qs 33 [] [2] [] h fun ac wd h => ?_
   refine wp_ret ?_
   injection hD with hD
   subst hD
   exact rE h [.tmp 2]
  ·
   refine kF h ?_
   refine wp_skip ?_
   change Code.wp Tryz.prog _ _ _ _
   refine wp_seq ?_
   refine qs 36 [] [1,40,41,42] [(1,0)] h fun ac wd h => ?_
   obtain ⟨ar,au,hD⟩ := Option.bind_eq_some_iff.1 hD
   refine r_meet (fun ac wd => (.inl ()) = ar ∧ SL ⟨wb,S,Φ,P0⟩ 77 55 [(1,.one (.ptr (1,0) 0))] [((1,0),some (.box 102 (cTPiece a0)))] ac wd) ?_ ?_
   ·
    refine wp_block ?_
    refine r_while (fun nf ac wd => ∃ (av : Int),L_piece_Right_l1 a0 nf av = some ar ∧ SL ⟨wb,S,Φ,P0⟩ 77 54 [(1,.one (.ptr (1,0) 0)),(40,.one (.d (.sl (List.map eI a0.Sent)))),(41,.one (.d (.int .i64 (a0.Sent.length : Int)))),(42,.one (.d (.int .i64 av)))] [((1,0),some (.box 102 (cTPiece a0)))] ac wd) (((a0.Sent.length : Int) - 0).toNat + 1) ⟨0,au,h.z⟩ (fun nf ac wd hJ => ?_)
    obtain ⟨av,aw,h⟩ := hJ
    cases nf with
    | zero => rw [L_piece_Right_l1] at aw; cases aw
    | succ nf =>
     rw [L_piece_Right_l1] at aw
     refine qs 55 [] [1,40,41,42,43] [(1,0)] h fun ac wd h => ?_
     refine wp_seq ?_
     rcases i2 aw with ⟨ax,aw⟩ | ⟨ax,aw⟩
     ·
      refine kT h ?_
      refine wp_skip ?_
      change Code.wp Tryz.prog _ _ _ _
      refine wp_seq ?_
      refine wp_block ?_
      obtain ⟨ay,az,aA,aC,aD,aw⟩ := aB aw
      refine qs 58 [] [1,4,40,41,42] [(1,0)] h fun ac wd h => ?_
      obtain ⟨aE,aF,aw⟩ := oB aw
      have aG := L_piece_within_ok aF
      refine qs 61 [factE 59 aG] [1,40,41,42,48] [(1,0)] h fun ac wd h => ?_
      rcases i2b aw with ⟨aH,aw⟩ | ⟨aH,aw⟩
      ·
       refine kF h ?_
       refine wp_skip ?_
       change Code.wp Tryz.prog _ _ _ _
       refine qe [] [1,40,41,42] [(1,0)] h fun ac wd h => ?_
       exact ⟨nf,Nat.lt_succ_self nf,(IntKind.wrap .i64 (av + 1)),aw,h.z⟩
      ·
       refine kT h ?_
       refine qs 62 [] [2] [] h fun ac wd h => ?_
       refine wp_ret ?_
       injection aw with aw
       subst aw
       (try dsimp only at hD)
       injection hD with hD
       subst hD
       exact rE h [.tmp 2]
     ·
      refine kF h ?_
      refine wp_exit ?_
      injection aw with aw; subst aw
      exact ⟨rfl,h.z⟩
   ·
    rintro ac wd ⟨rfl,h⟩
    (try dsimp only at hD)
    refine wp_seq ?_
    refine qs 59 [] [1,51,52,53] [(1,0)] h fun ac wd h => ?_
    obtain ⟨aI,aJ,hD⟩ := Option.bind_eq_some_iff.1 hD
    refine r_meet (fun ac wd => (.inl ()) = aI ∧ SL ⟨wb,S,Φ,P0⟩ 77 78 [(1,.one (.ptr (1,0) 0))] [((1,0),some (.box 102 (cTPiece a0)))] ac wd) ?_ ?_
    ·
     refine wp_block ?_
     refine r_while (fun nf ac wd => ∃ (aK : Int),L_piece_Right_l2 a0 nf aK = some aI ∧ SL ⟨wb,S,Φ,P0⟩ 77 77 [(1,.one (.ptr (1,0) 0)),(51,.one (.d (.sl (List.map (eL eTMsg) a0.In)))),(52,.one (.d (.int .i64 (a0.In.length : Int)))),(53,.one (.d (.int .i64 aK)))] [((1,0),some (.box 102 (cTPiece a0)))] ac wd) (((a0.In.length : Int) - 0).toNat + 1) ⟨0,aJ,h.z⟩ (fun nf ac wd hJ => ?_)
     obtain ⟨aK,aL,h⟩ := hJ
     cases nf with
     | zero => rw [L_piece_Right_l2] at aL; cases aL
     | succ nf =>
      rw [L_piece_Right_l2] at aL
      refine qs 78 [] [1,51,52,53,54] [(1,0)] h fun ac wd h => ?_
      refine wp_seq ?_
      rcases i2 aL with ⟨aM,aL⟩ | ⟨aM,aL⟩
      ·
       refine kT h ?_
       refine wp_skip ?_
       change Code.wp Tryz.prog _ _ _ _
       refine wp_seq ?_
       refine wp_block ?_
       obtain ⟨aN,aO,aP,aQ,aR,aL⟩ := aB aL
       refine qs 81 [] [1,6,51,52,53] [(1,0)] h fun ac wd h => ?_
       obtain ⟨aS,aT,aL⟩ := oB aL
       have aU := L_piece_rising_ok aT
       refine qs 84 [factE 82 aU] [1,51,52,53,59] [(1,0)] h fun ac wd h => ?_
       rcases i2b aL with ⟨aV,aL⟩ | ⟨aV,aL⟩
       ·
        refine kF h ?_
        refine wp_skip ?_
        change Code.wp Tryz.prog _ _ _ _
        refine qe [] [1,51,52,53] [(1,0)] h fun ac wd h => ?_
        exact ⟨nf,Nat.lt_succ_self nf,(IntKind.wrap .i64 (aK + 1)),aL,h.z⟩
       ·
        refine kT h ?_
        refine qs 85 [] [2] [] h fun ac wd h => ?_
        refine wp_ret ?_
        injection aL with aL
        subst aL
        (try dsimp only at hD)
        injection hD with hD
        subst hD
        exact rE h [.tmp 2]
      ·
       refine kF h ?_
       refine wp_exit ?_
       injection aL with aL; subst aL
       exact ⟨rfl,h.z⟩
    ·
     rintro ac wd ⟨rfl,h⟩
     (try dsimp only at hD)
     refine qs 79 [] [1,7] [(1,0)] h fun ac wd h => ?_
     refine wp_seq ?_
     refine qs 83 [] [7,62,63,64] [] h fun ac wd h => ?_
     refine wp_block ?_
     refine r_while (fun nf ac wd => ∃ (aW : Int),L_piece_Right_l3 a0 nf aW = some r ∧ SL ⟨wb,S,Φ,P0⟩ 77 111 [(7,.one (.d (.fn 86 [] []))),(62,.one (.d (.sl (List.map (eL eI) a0.Out)))),(63,.one (.d (.int .i64 (a0.Out.length : Int)))),(64,.one (.d (.int .i64 aW)))] [] ac wd) (((a0.Out.length : Int) - 0).toNat + 1) ⟨0,hD,h.z⟩ (fun nf ac wd hJ => ?_)
     obtain ⟨aW,aX,h⟩ := hJ
     cases nf with
     | zero => rw [L_piece_Right_l3] at aX; cases aX
     | succ nf =>
      rw [L_piece_Right_l3] at aX
      refine qs 112 [] [7,62,63,64,65] [] h fun ac wd h => ?_
      refine wp_seq ?_
      rcases i2 aX with ⟨aY,aX⟩ | ⟨aY,aX⟩
      ·
       refine kT h ?_
       refine wp_skip ?_
       change Code.wp Tryz.prog _ _ _ _
       refine wp_seq ?_
       refine wp_block ?_
       obtain ⟨aZ,ba,bb,bc,bd,aX⟩ := aB aX
       refine qs 115 [] [7,9,62,63,64] [] h fun ac wd h => ?_
       obtain ⟨be,bf,aX⟩ := Option.bind_eq_some_iff.1 aX
       refine r_seqJ (fun ac wd => ∃ (bg : Bool),bg = be ∧ SL ⟨wb,S,Φ,P0⟩ 77 123 [(7,.one (.d (.fn 86 [] []))),(62,.one (.d (.sl (List.map (eL eI) a0.Out)))),(63,.one (.d (.int .i64 (a0.Out.length : Int)))),(64,.one (.d (.int .i64 aW))),(75,.one (.d (.bool bg)))] [] ac wd) ?_ ?_
       ·
        rcases i2 bf with ⟨bh,bf⟩ | ⟨bh,bf⟩
        ·
         refine qeg [] [none,none,none,none,some (some 71,false),some (some 71,false),some (some 71,false),none] [7,62,63,64,75] [] h fun ac wd h => ?_
         injection bf with bf; subst bf
         exact ⟨true,rfl,h.z⟩
        ·
         obtain ⟨bi,bj,bf⟩ := oB bf
         have bk := L_slices_ContainsFunc_int_int_ok bj
         refine qeg [factE 121 bk] [none,none,none,none,some (some 71,false),some (some 71,false),some (some 71,false),none] [7,62,63,64,75] [] h fun ac wd h => ?_
         injection bf with bf; subst bf
         exact ⟨bi,rfl,h.z⟩
       ·
        rintro ac wd ⟨bg,rfl,h⟩
        (try dsimp only at aX)
        rcases i2b aX with ⟨bl,aX⟩ | ⟨bl,aX⟩
        ·
         refine kT h ?_
         refine qs 124 [] [2] [] h fun ac wd h => ?_
         refine wp_ret ?_
         injection aX with aX
         subst aX
         exact rE h [.tmp 2]
        ·
         refine kF h ?_
         refine wp_skip ?_
         change Code.wp Tryz.prog _ _ _ _
         refine qe [] [7,62,63,64] [] h fun ac wd h => ?_
         exact ⟨nf,Nat.lt_succ_self nf,(IntKind.wrap .i64 (aW + 1)),aX,h.z⟩
      ·
       refine kF h ?_
       refine wp_exit ?_
       change Code.wp Tryz.prog _ _ _ _
       refine qs 113 [] [2] [] h fun ac wd h => ?_
       refine wp_ret ?_
       injection aX with aX
       subst aX
       exact rE h [.tmp 2]

theorem L_host_Right_ok {a0 : TApp} {a1 : THost} {r : Bool} (hD : L_host_Right a0 a1 = some r) :
  CallH Tryz.prog 38 [.agg (cTApp a0),.agg (cTHost a1)] []
   (.one (.d (.bool r))) [] := by
 unfold L_host_Right at hD
 refine rc Tryz.func38 rfl Tryz.ntmps38 fun S Φ P0 wb ac h => ?_
 refine qs 4 [] [2,3] [(1,0),(2,0)] h fun ac wd h => ?_
 refine wp_seq ?_
 obtain ⟨aa,ab,hD⟩ := Option.bind_eq_some_iff.1 hD
 refine r_seqJ (fun ac wd => ∃ (ad : Bool),ad = aa ∧ SL ⟨wb,S,Φ,P0⟩ 69 41 [(2,.one (.ptr (1,0) 0)),(3,.one (.ptr (2,0) 0)),(41,.one (.d (.bool ad)))] [((1,0),some (.box 27 (cTApp a0))),((2,0),some (.box 31 (cTHost a1)))] ac wd) ?_ ?_
 ·
  obtain ⟨ae,af,ab⟩ := oB ab
  rcases i2b ab with ⟨ag,ab⟩ | ⟨ag,ab⟩
  ·
   rcases i2 ab with ⟨ah,ab⟩ | ⟨ah,ab⟩
   ·
    have ai := L_table_Right_ok af
    refine deg [factE 8 ai] [none,none,none,none,none,none,none,some (some 11,false),some (some 11,false),some (some 11,false),none,none,some (some 16,false),some (some 16,false),some (some 16,false),some (some 16,false),some (some 16,false),some (some 16,false),none,none,some (some 24,false),some (some 24,false),some (some 24,false),none,none,some (some 29,false),some (some 29,false),some (some 29,false),some (some 29,false),some (some 29,false),some (some 29,false),some (some 29,false),some (some 29,false),some (some 29,false),some (some 29,false),some (some 29,false),none] [2,3,41] [(1,0),(2,0)] h fun ac wd h => ?_
    injection ab with ab; subst ab
    exact ⟨true,rfl,h.z⟩
   ·
    rcases i2 ab with ⟨aj,ab⟩ | ⟨aj,ab⟩
    ·
     have ai := L_table_Right_ok af
     refine deg [factE 8 ai] [none,none,none,none,none,none,none,some (some 11,false),some (some 11,false),some (some 11,false),none,none,some (some 16,false),some (some 16,false),some (some 16,false),some (some 16,false),some (some 16,false),some (some 16,false),none,none,some (some 24,false),some (some 24,false),some (some 24,false),none,none,some (some 29,false),some (some 29,false),some (some 29,false),some (some 29,false),some (some 29,false),some (some 29,false),some (some 29,false),some (some 29,false),some (some 29,false),some (some 29,false),some (some 29,false),none] [2,3,41] [(1,0),(2,0)] h fun ac wd h => ?_
     injection ab with ab; subst ab
     exact ⟨true,rfl,h.z⟩
    ·
     rcases i2 ab with ⟨ak,ab⟩ | ⟨ak,ab⟩
     ·
      have ai := L_table_Right_ok af
      refine deg [factE 8 ai] [none,none,none,none,none,none,none,some (some 11,false),some (some 11,false),some (some 11,false),none,none,some (some 16,false),some (some 16,false),some (some 16,false),some (some 16,false),some (some 16,false),some (some 16,false),none,none,some (some 24,false),some (some 24,false),some (some 24,false),none,none,some (some 29,false),some (some 29,false),some (some 29,false),some (some 29,false),some (some 29,false),some (some 29,false),some (some 29,false),some (some 29,false),some (some 29,false),some (some 29,false),some (some 29,false),none] [2,3,41] [(1,0),(2,0)] h fun ac wd h => ?_
      injection ab with ab; subst ab
      exact ⟨true,rfl,h.z⟩
     ·
      obtain ⟨al,am,an,ao,ap,ab⟩ := aB ab
      have ai := L_table_Right_ok af
      refine deg [factE 8 ai] [none,none,none,none,none,none,none,some (some 11,false),some (some 11,false),some (some 11,false),none,none,some (some 16,false),some (some 16,false),some (some 16,false),some (some 16,false),some (some 16,false),some (some 16,false),none,none,some (some 24,false),some (some 24,false),some (some 24,false),none,none,some (some 29,false),some (some 29,false),some (some 29,false),some (some 29,false),some (some 29,false),some (some 29,false),some (some 29,false),some (some 29,false),some (some 29,false),some (some 29,false),some (some 29,false),none] [2,3,41] [(1,0),(2,0)] h fun ac wd h => ?_
      injection ab with ab; subst ab
      exact ⟨decide (a1.State ≥ (al.States.length : Int)),rfl,h.z⟩
  ·
   have ai := L_table_Right_ok af
   refine deg [factE 8 ai] [none,none,none,none,none,none,none,some (some 11,false),some (some 11,false),some (some 11,false),none,none,some (some 16,false),some (some 16,false),some (some 16,false),some (some 16,false),some (some 16,false),some (some 16,false),none,none,some (some 24,false),some (some 24,false),some (some 24,false),none,none,some (some 29,false),some (some 29,false),some (some 29,false),some (some 29,false),some (some 29,false),some (some 29,false),some (some 29,false),some (some 29,false),some (some 29,false),some (some 29,false),some (some 29,false),none] [2,3,41] [(1,0),(2,0)] h fun ac wd h => ?_
   injection ab with ab; subst ab
   exact ⟨true,rfl,h.z⟩
 ·
  rintro ac wd ⟨ad,rfl,h⟩
  (try dsimp only at hD)
  rcases i2b hD with ⟨aq,hD⟩ | ⟨aq,hD⟩
  ·
   refine kT h ?_
   refine qs 42 [] [4] [] h fun ac wd h => ?_
   refine wp_ret ?_
   injection hD with hD
   subst hD
   exact rE h [.tmp 4]
  ·
   refine kF h ?_
   refine wp_skip ?_
   change Code.wp Tryz.prog _ _ _ _
   obtain ⟨ar,au,hD⟩ := Option.bind_eq_some_iff.1 hD
   refine r_seqJ (fun ac wd => ∃ (av : Bool),av = ar ∧ SL ⟨wb,S,Φ,P0⟩ 69 69 [(4,.one (.d (.bool av)))] [] ac wd) ?_ ?_
   ·
    obtain ⟨aw,ax,au⟩ := oB au
    rcases i2e au with ⟨ay,au⟩ | ⟨ay,au⟩
    ·
     obtain ⟨az,aA,au⟩ := oB au
     rcases i2e au with ⟨aC,au⟩ | ⟨aC,au⟩
     ·
      obtain ⟨aD,aE,au⟩ := oB au
      obtain ⟨aF,aG,au⟩ := oB au
      have aH := L_graph_In_ok ax
      have aI := L_graph_Out_ok aA
      have aJ := L_host_Host_told_ok aE
      have aK := L_piece_Right_ok aG
      refine deg [factE 48 aH,factE 59 aI,factE 65 aJ,factE 66 aK] [none,none,none,none,none,none,none,none,none,none,none,some (some 52,true),some (some 52,true),some (some 52,true),some (some 52,true),some (some 52,true),some (some 52,true),some (some 52,true),some (some 52,true),some (some 52,true),some (some 52,true),none,none,some (some 64,true),some (some 64,true),some (some 64,true),none,none] [4] [] h fun ac wd h => ?_
      injection au with au; subst au
      exact ⟨aF,rfl,h.z⟩
     ·
      have aH := L_graph_In_ok ax
      have aI := L_graph_Out_ok aA
      refine deg [factE 48 aH,factE 59 aI] [none,none,none,none,none,none,none,none,none,none,none,some (some 52,true),some (some 52,true),some (some 52,true),some (some 52,true),some (some 52,true),some (some 52,true),some (some 52,true),some (some 52,true),some (some 52,true),some (some 52,true),none,none,some (some 64,true),some (some 64,true),some (some 64,true),none,none] [4] [] h fun ac wd h => ?_
      injection au with au; subst au
      exact ⟨false,rfl,h.z⟩
    ·
     have aH := L_graph_In_ok ax
     refine deg [factE 48 aH] [none,none,none,none,none,none,none,none,none,none,none,some (some 52,true),some (some 52,true),some (some 52,true),some (some 52,true),some (some 52,true),some (some 52,true),some (some 52,true),some (some 52,true),some (some 52,true),some (some 52,true),none,none,some (some 64,true),some (some 64,true),some (some 64,true),none,none] [4] [] h fun ac wd h => ?_
     injection au with au; subst au
     exact ⟨false,rfl,h.z⟩
   ·
    rintro ac wd ⟨av,rfl,h⟩
    (try dsimp only at hD)
    refine wp_ret ?_
    injection hD with hD
    subst hD
    exact rE h [.tmp 4]

theorem L_table_at_ok {a0 : (List TNode)} {a1 : Int} {a2 : Int} {r : TState × Bool} (hD : L_table_at a0 a1 a2 = some r) :
  CallH Tryz.prog 88 [.one (.d (.sl (List.map eTNode a0))),.one (.d (.int .i64 a1)),.one (.d (.int .i64 a2))] []
   (.tup [.inl [.d (.int .i64 r.1.Mode),.d (.sl (List.map eI r.1.Waits)),.d (.sl (List.map eTPick r.1.Picks)),.d (.sl (List.map eTTake r.1.Takes))],.inr (.d (.bool r.2))]) [] := by
 unfold L_table_at at hD
 refine rc Tryz.func88 rfl Tryz.ntmps88 fun S Φ P0 wb ac h => ?_
 refine qs 3 [] [0,1,2,6] [(1,0)] h fun ac wd h => ?_
 refine wp_seq ?_
 obtain ⟨aa,ab,hD⟩ := Option.bind_eq_some_iff.1 hD
 refine r_seqJ (fun ac wd => ∃ (ad : Bool),ad = aa ∧ SL ⟨wb,S,Φ,P0⟩ 39 25 [(0,.one (.d (.sl (List.map eTNode a0)))),(1,.one (.d (.int .i64 a1))),(2,.one (.d (.int .i64 a2))),(6,.one (.ptr (1,0) 0)),(29,.one (.d (.bool ad)))] [((1,0),some (.box 138 [.d (.int .i64 0),.nil,.nil,.nil]))] ac wd) ?_ ?_
 ·
  rcases i2 ab with ⟨ae,ab⟩ | ⟨ae,ab⟩
  ·
   refine qeg [] [none,none,none,some (some 10,false),some (some 10,false),some (some 10,false),some (some 10,false),none,none,some (some 16,false),some (some 16,false),none,none,some (some 20,false),some (some 20,false),some (some 20,false),some (some 20,false),some (some 20,false),some (some 20,false),some (some 20,false),some (some 20,false),none] [0,1,2,6,29] [(1,0)] h fun ac wd h => ?_
   injection ab with ab; subst ab
   exact ⟨true,rfl,h.z⟩
  ·
   rcases i2 ab with ⟨af,ab⟩ | ⟨af,ab⟩
   ·
    refine qeg [] [none,none,none,some (some 10,false),some (some 10,false),some (some 10,false),some (some 10,false),none,none,some (some 16,false),some (some 16,false),none,none,some (some 20,false),some (some 20,false),some (some 20,false),some (some 20,false),some (some 20,false),some (some 20,false),some (some 20,false),some (some 20,false),none] [0,1,2,6,29] [(1,0)] h fun ac wd h => ?_
    injection ab with ab; subst ab
    exact ⟨true,rfl,h.z⟩
   ·
    rcases i2 ab with ⟨ag,ab⟩ | ⟨ag,ab⟩
    ·
     refine qeg [] [none,none,none,some (some 10,false),some (some 10,false),some (some 10,false),some (some 10,false),none,none,some (some 16,false),some (some 16,false),none,none,some (some 20,false),some (some 20,false),some (some 20,false),some (some 20,false),some (some 20,false),some (some 20,false),some (some 20,false),some (some 20,false),none] [0,1,2,6,29] [(1,0)] h fun ac wd h => ?_
     injection ab with ab; subst ab
     exact ⟨true,rfl,h.z⟩
    ·
     obtain ⟨ah,ai,aj,ak,al,ab⟩ := aB ab
     refine qeg [] [none,none,none,some (some 10,false),some (some 10,false),some (some 10,false),some (some 10,false),none,none,some (some 16,false),some (some 16,false),none,none,some (some 20,false),some (some 20,false),some (some 20,false),some (some 20,false),some (some 20,false),some (some 20,false),some (some 20,false),some (some 20,false),none] [0,1,2,6,29] [(1,0)] h fun ac wd h => ?_
     injection ab with ab; subst ab
     exact ⟨decide (a2 ≥ (ah.States.length : Int)),rfl,h.z⟩
 ·
  rintro ac wd ⟨ad,rfl,h⟩
  (try dsimp only at hD)
  rcases i2b hD with ⟨am,hD⟩ | ⟨am,hD⟩
  ·
   refine kT h ?_
   refine qs 28 [] [6,7] [(1,0)] h fun ac wd h => ?_
   refine wp_ret ?_
   injection hD with hD
   subst hD
   exact rE h [.cell 6 138,.tmp 7]
  ·
   refine kF h ?_
   refine wp_skip ?_
   change Code.wp Tryz.prog _ _ _ _
   obtain ⟨an,ao,ap,aq,ar,hD⟩ := aB hD
   obtain ⟨au,av,aw,ax,ay,hD⟩ := aB hD
   refine qs 35 [] [6,7] [(1,0)] h fun ac wd h => ?_
   refine wp_ret ?_
   injection hD with hD
   subst hD
   exact rE h [.cell 6 138,.tmp 7]

theorem L_table_Mode_ok {a0 : (List TNode)} {a1 : Int} {a2 : Int} {r : Int} (hD : L_table_Mode a0 a1 a2 = some r) :
  CallH Tryz.prog 69 [.one (.d (.sl (List.map eTNode a0))),.one (.d (.int .i64 a1)),.one (.d (.int .i64 a2))] []
   (.one (.d (.int .i64 r))) [] := by
 unfold L_table_Mode at hD
 refine rc Tryz.func69 rfl Tryz.ntmps69 fun S Φ P0 wb ac h => ?_
 refine qs 2 [] [0,1,2] [] h fun ac wd h => ?_
 obtain ⟨r7,ab,hD⟩ := oB hD
 have ad := L_table_at_ok ab
 refine qs 12 [factE 5 ad] [7] [(9,0)] h fun ac wd h => ?_
 refine qs 15 [] [6] [] h fun ac wd h => ?_
 refine wp_ret ?_
 injection hD with hD
 subst hD
 exact rE h [.tmp 6]

theorem L_probe_seat_blocked_ok {a0 : TSeat} {r : Bool} (hD : L_probe_seat_blocked a0 = some r) :
  CallH Tryz.prog 39 [.agg (cTSeat a0)] []
   (.one (.d (.bool r))) [] := by
 unfold L_probe_seat_blocked at hD
 refine rc Tryz.func39 rfl Tryz.ntmps39 fun S Φ P0 wb ac h => ?_
 refine qs 3 [] [1] [(1,0)] h fun ac wd h => ?_
 obtain ⟨r7,ab,hD⟩ := oB hD
 have ad := L_table_Mode_ok ab
 refine qs 15 [factE 12 ad] [2] [] h fun ac wd h => ?_
 refine wp_ret ?_
 injection hD with hD
 subst hD
 exact rE h [.tmp 2]

theorem L_slices_Clone_int_int_own {a0 : (List Int)} {r : (List Int)} (hD : L_slices_Clone_int_int a0 = some r) :
  CallH Tryz.prog 50 [.one (.d (.sl (List.map eI a0)))] []
   (.one (.own (1,0) r.length)) [((1,0),some (.row 3 1 (dat (List.map eI r))))] := by
 unfold L_slices_Clone_int_int at hD
 refine rc Tryz.func50 rfl Tryz.ntmps50 fun S Φ P0 wb ac h => ?_
 refine qs 2 [] [0] [] h fun ac wd h => ?_
 refine wp_seq ?_
 refine qs 4 [] [0,4] [] h fun ac wd h => ?_
 refine r_condB h (by simp only [EZ,simprocAttr, *] <;> rfl) (fun aa => ?_) (fun aa => ?_)
 ·
  have aa := aa rfl
  obtain rfl : a0 = [] := List.eq_nil_of_length_eq_zero (by simpa using aa)
  have hD : (some []) = some r := by simpa using hD
  refine qs 5 [] [2] [] h fun ac wd h => ?_
  refine wp_ret ?_
  have h := SL.bornS h 2 3 1 (by simp only [EZ,simprocAttr, *] <;> rfl)
  have h := h.sw (1,0) (5,0) 6
  injection hD with hD
  subst hD
  exact rO h [.tmp 2] [(1,0)]
 ·
  refine wp_skip ?_
  change Code.wp Tryz.prog _ _ _ _
  obtain ⟨ab,hD⟩ := iT hD
  refine qs 8 [] [2] [(6,0)] h fun ac wd h => ?_
  refine wp_ret ?_
  have h := h.sw (1,0) (6,0) 8
  injection hD with hD
  subst hD
  exact rO h [.tmp 2] [(1,0)]
theorem L_slices_Clone_int_int_ok {a0 : (List Int)} {r : (List Int)} (hD : L_slices_Clone_int_int a0 = some r) :
  CallH Tryz.prog 50 [.one (.d (.sl (List.map eI a0)))] []
   (.one (.d (.sl (List.map eI r)))) [] :=
 (L_slices_Clone_int_int_own hD).fr

theorem L_table_Waits_own {a0 : (List TNode)} {a1 : Int} {a2 : Int} {r : (List Int)} (hD : L_table_Waits a0 a1 a2 = some r) :
  CallH Tryz.prog 70 [.one (.d (.sl (List.map eTNode a0))),.one (.d (.int .i64 a1)),.one (.d (.int .i64 a2))] []
   (.one (.own (1,0) r.length)) [((1,0),some (.row 3 1 (dat (List.map eI r))))] := by
 unfold L_table_Waits at hD
 refine rc Tryz.func70 rfl Tryz.ntmps70 fun S Φ P0 wb ac h => ?_
 refine qs 2 [] [0,1,2] [] h fun ac wd h => ?_
 obtain ⟨aa,ab,hD⟩ := oB hD
 have ad := L_table_at_ok ab
 refine qs 12 [factE 5 ad] [7] [(9,0)] h fun ac wd h => ?_
 obtain ⟨ae,af,hD⟩ := oB hD
 have ag := ((L_slices_Clone_int_int_own af).cls 14).z
 refine qs 16 [factO ag] [6] [(14,0)] h fun ac wd h => ?_
 refine wp_ret ?_
 have h := h.sw (1,0) (14,0) 16
 injection hD with hD
 subst hD
 exact rO h [.tmp 6] [(1,0)]
theorem L_table_Waits_ok {a0 : (List TNode)} {a1 : Int} {a2 : Int} {r : (List Int)} (hD : L_table_Waits a0 a1 a2 = some r) :
  CallH Tryz.prog 70 [.one (.d (.sl (List.map eTNode a0))),.one (.d (.int .i64 a1)),.one (.d (.int .i64 a2))] []
   (.one (.d (.sl (List.map eI r)))) [] :=
 (L_table_Waits_own hD).fr

theorem L_host_Got_ok {a0 : TApp} {a1 : THost} {a2 : Int} {r : Int} (hD : L_host_Got a0 a1 a2 = some r) :
  CallH Tryz.prog 71 [.agg (cTApp a0),.agg (cTHost a1),.one (.d (.int .i64 a2))] []
   (.one (.d (.int .i64 r))) [] := by
 unfold L_host_Got at hD
 refine rc Tryz.func71 rfl Tryz.ntmps71 fun S Φ P0 wb ac h => ?_
 refine qs 4 [] [2,3,4] [(1,0),(2,0)] h fun ac wd h => ?_
 refine wp_seq ?_
 obtain ⟨aa,ab,hD⟩ := oB hD
 obtain ⟨ad,ae,hD⟩ := oB hD
 have af := L_graph_In_ok ab
 have ag := L_slices_Index_int_int_ok ae
 refine qs 12 [factE 8 af,factE 10 ag] [4,7] [(2,0)] h fun ac wd h => ?_
 refine qs 14 [] [4,7,16] [(2,0)] h fun ac wd h => ?_
 rcases i2 hD with ⟨ah,hD⟩ | ⟨ah,hD⟩
 ·
  refine kT h ?_
  obtain ⟨ai,aj,ak,al,am,hD⟩ := aB hD
  refine qs 21 [] [6] [] h fun ac wd h => ?_
  refine wp_ret ?_
  injection hD with hD
  subst hD
  exact rE h [.tmp 6]
 ·
  refine kF h ?_
  refine wp_skip ?_
  change Code.wp Tryz.prog _ _ _ _
  refine qs 15 [] [6] [] h fun ac wd h => ?_
  refine wp_ret ?_
  injection hD with hD
  subst hD
  exact rE h [.tmp 6]

theorem L_slices_Grow_int_int_own {a0 : Int} {r : (List Int)} (hD : L_slices_Grow_int_int a0 = some r) :
  CallH Tryz.prog 89 [.one (.nil),.one (.d (.int .i64 a0))] []
   (.one (.own (1,0) r.length)) [((1,0),some (.row 3 1 (dat (List.map eI r))))] := by
 unfold L_slices_Grow_int_int at hD
 refine rc Tryz.func89 rfl Tryz.ntmps89 fun S Φ P0 wb ac h => ?_
 refine qs 2 [] [0,1] [] h fun ac wd h => ?_
 refine wp_seq ?_
 refine qs 4 [] [0,1,6] [] h fun ac wd h => ?_
 rcases i2 hD with ⟨aa,hD⟩ | ⟨aa,hD⟩
 ·
  refine kT h ?_
  cases hD
 ·
  refine kF h ?_
  refine wp_skip ?_
  change Code.wp Tryz.prog _ _ _ _
  refine wp_seq ?_
  refine qs 12 [] [0,1] [] h fun ac wd h => ?_
  refine qs 14 [] [0,1,16] [] h fun ac wd h => ?_
  obtain ⟨ab,ad,hD⟩ := Option.bind_eq_some_iff.1 hD
  refine r_meet (fun ac wd => () = ab ∧ SL ⟨wb,S,Φ,P0⟩ 27 24 [(0,.one (.own (19,0) 0))] [((19,0),some (.row 3 1 ([])))] ac wd) ?_ ?_
  ·
   rcases i2 ad with ⟨ae,ad⟩ | ⟨ae,ad⟩
   ·
    refine kT h ?_
    obtain ⟨af,ad⟩ := iT ad
    obtain ⟨ag,ad⟩ := iT ad
    obtain ⟨ah,ad⟩ := iT ad
    obtain ⟨ai,ad⟩ := iT ad
    have aj : ¬ ((IntKind.wrap .i64 (a0 - (IntKind.wrap .i64 0))).toNat) = 0 := by omega
    have ak : 0 ≤ ((IntKind.wrap .i64 (a0 - (IntKind.wrap .i64 0))).toNat) := by omega
    refine qe [] [0] [(19,0)] h fun ac wd h => ?_
    have h := h.head (19,0) 0 rfl
    have h := h.sm 24 [(0,.one (.own (19,0) 0))]
     [((19,0),some (.row 3 1 ([])))]
    injection ad with ad; subst ad
    exact ⟨rfl,h.z⟩
   ·
    refine kF h ?_
    refine wp_skip ?_
    have h := SL.bornS h 0 3 1 (by simp only [EZ,simprocAttr, *] <;> rfl)
    have h := h.sw (19,0) (14,0) 24
    injection ad with ad; subst ad
    exact ⟨rfl,h.z⟩
  ·
   rintro ac wd ⟨rfl,h⟩
   (try dsimp only at hD)
   refine qs 26 [] [4] [(19,0)] h fun ac wd h => ?_
   refine wp_ret ?_
   have h := h.sw (1,0) (19,0) 26
   injection hD with hD
   subst hD
   exact rO h [.tmp 4] [(1,0)]
theorem L_slices_Grow_int_int_ok {a0 : Int} {r : (List Int)} (hD : L_slices_Grow_int_int a0 = some r) :
  CallH Tryz.prog 89 [.one (.nil),.one (.d (.int .i64 a0))] []
   (.one (.d (.sl (List.map eI r)))) [] :=
 (L_slices_Grow_int_int_own hD).fr

theorem L_slices_Concat_int_int_own {a0 : (List (List Int))} {r : (List Int)} (hD : L_slices_Concat_int_int a0 = some r) :
  CallH Tryz.prog 73 [.one (.d (.sl (List.map (eL eI) a0)))] []
   (.one (.own (1,0) r.length)) [((1,0),some (.row 3 1 (dat (List.map eI r))))] := by
 unfold L_slices_Concat_int_int at hD
 refine rc Tryz.func73 rfl Tryz.ntmps73 fun S Φ P0 wb ac h => ?_
 refine qs 2 [] [0] [] h fun ac wd h => ?_
 refine qs 3 [] [0,3] [] h fun ac wd h => ?_
 refine wp_seq ?_
 refine qs 6 [] [0,3,9,10,11] [] h fun ac wd h => ?_
 obtain ⟨aa,ab,hD⟩ := Option.bind_eq_some_iff.1 hD
 refine r_meet (fun ac wd => ∃ (ad : Int),ad = aa ∧ SL ⟨wb,S,Φ,P0⟩ 36 33 [(0,.one (.d (.sl (List.map (eL eI) a0)))),(3,.one (.d (.int .i64 ad)))] [] ac wd) ?_ ?_
 ·
  refine wp_block ?_
  refine r_while (fun nf ac wd => ∃ (ae : Int) (af : Int),L_slices_Concat_int_int_l1 a0 nf ae af = some aa ∧ SL ⟨wb,S,Φ,P0⟩ 36 32 [(0,.one (.d (.sl (List.map (eL eI) a0)))),(3,.one (.d (.int .i64 ae))),(9,.one (.d (.sl (List.map (eL eI) a0)))),(10,.one (.d (.int .i64 (a0.length : Int)))),(11,.one (.d (.int .i64 af)))] [] ac wd) (((a0.length : Int) - 0).toNat + 1) ⟨0,0,ab,h.z⟩ (fun nf ac wd hJ => ?_)
  obtain ⟨ae,af,ag,h⟩ := hJ
  cases nf with
  | zero => rw [L_slices_Concat_int_int_l1] at ag; cases ag
  | succ nf =>
   rw [L_slices_Concat_int_int_l1] at ag
   refine qs 33 [] [0,3,9,10,11,12] [] h fun ac wd h => ?_
   refine wp_seq ?_
   rcases i2 ag with ⟨ah,ag⟩ | ⟨ah,ag⟩
   ·
    refine kT h ?_
    refine wp_skip ?_
    change Code.wp Tryz.prog _ _ _ _
    refine wp_seq ?_
    refine wp_block ?_
    obtain ⟨ai,aj,ak,al,am,ag⟩ := aB ag
    refine qs 36 [] [0,3,5,9,10,11] [] h fun ac wd h => ?_
    refine qs 41 [] [0,3,9,10,11] [] h fun ac wd h => ?_
    refine qs 43 [] [0,3,9,10,11,20] [] h fun ac wd h => ?_
    rcases i2 ag with ⟨an,ag⟩ | ⟨an,ag⟩
    ·
     refine kT h ?_
     cases ag
    ·
     refine kF h ?_
     refine wp_skip ?_
     change Code.wp Tryz.prog _ _ _ _
     refine qe [] [0,3,9,10,11] [] h fun ac wd h => ?_
     exact ⟨nf,Nat.lt_succ_self nf,(IntKind.wrap .i64 (ae + (ai.length : Int))),(IntKind.wrap .i64 (af + 1)),ag,h.z⟩
   ·
    refine kF h ?_
    refine wp_exit ?_
    injection ag with ag; subst ag
    exact ⟨ae,rfl,h.z⟩
 ·
  rintro ac wd ⟨ad,rfl,h⟩
  (try dsimp only at hD)
  obtain ⟨ao,ap,hD⟩ := oB hD
  have aq := ((L_slices_Grow_int_int_own ap).cls 34).z
  refine qs 36 [factR aq] [0,6] [(34,0)] h fun ac wd h => ?_
  refine wp_seq ?_
  refine qs 39 [] [6,25,26,27] [(34,0)] h fun ac wd h => ?_
  refine wp_block ?_
  refine r_while (fun nf ac wd => ∃ (ar : Int) (au : List Int),L_slices_Concat_int_int_l2 a0 nf ar au = some r ∧ SL ⟨wb,S,Φ,P0⟩ 36 59 [(6,.one (.own (34,0) au.length)),(25,.one (.d (.sl (List.map (eL eI) a0)))),(26,.one (.d (.int .i64 (a0.length : Int)))),(27,.one (.d (.int .i64 ar)))] [((34,0),some (.row 3 1 (dat (List.map eI au))))] ac wd) (((a0.length : Int) - 0).toNat + 1) ⟨0,ao,hD,h.z⟩ (fun nf ac wd hJ => ?_)
  obtain ⟨ar,au,av,h⟩ := hJ
  cases nf with
  | zero => rw [L_slices_Concat_int_int_l2] at av; cases av
  | succ nf =>
   rw [L_slices_Concat_int_int_l2] at av
   refine qs 60 [] [6,25,26,27,28] [(34,0)] h fun ac wd h => ?_
   refine wp_seq ?_
   rcases i2 av with ⟨aw,av⟩ | ⟨aw,av⟩
   ·
    refine kT h ?_
    refine wp_skip ?_
    change Code.wp Tryz.prog _ _ _ _
    refine wp_seq ?_
    refine wp_block ?_
    obtain ⟨ax,ay,az,aA,aC,av⟩ := aB av
    refine qs 63 [] [6,8,25,26,27] [(34,0)] h fun ac wd h => ?_
    obtain ⟨aD,av⟩ := iT av
    refine qe [] [6,25,26,27] [(65,0)] h fun ac wd h => ?_
    change Code.wp Tryz.prog _ _ _ _
    refine qe [] [6,25,26,27] [(65,0)] h fun ac wd h => ?_
    have h := h.sw (34,0) (65,0) 69
    exact ⟨nf,Nat.lt_succ_self nf,(IntKind.wrap .i64 (ar + 1)),(au ++ ax),av,h.z⟩
   ·
    refine kF h ?_
    refine wp_exit ?_
    change Code.wp Tryz.prog _ _ _ _
    refine qs 62 [] [2] [(34,0)] h fun ac wd h => ?_
    refine wp_ret ?_
    have h := h.sw (1,0) (34,0) 62
    injection av with av
    subst av
    exact rO h [.tmp 2] [(1,0)]
theorem L_slices_Concat_int_int_ok {a0 : (List (List Int))} {r : (List Int)} (hD : L_slices_Concat_int_int a0 = some r) :
  CallH Tryz.prog 73 [.one (.d (.sl (List.map (eL eI) a0)))] []
   (.one (.d (.sl (List.map eI r)))) [] :=
 (L_slices_Concat_int_int_own hD).fr

theorem L_probe_seat_probe_own {a0 : TSeat} {a1 : Int} {a2 : Int} {a3 : (List Int)} {r : (List TOut)} (hD : L_probe_seat_probe a0 a1 a2 a3 = some r) :
  CallH Tryz.prog 40 [.agg (cTSeat a0),.one (.d (.int .i64 a1)),.one (.d (.int .i64 a2)),.one (.d (.sl (List.map eI a3)))] []
   (.one (.own (1,0) r.length)) [((1,0),some (.row 90 10 (openRows cols_90 (List.map eTOut r))))] := by
 unfold L_probe_seat_probe at hD
 refine rc Tryz.func40 rfl Tryz.ntmps40 fun S Φ P0 wb ac h => ?_
 refine qs 3 [] [1,2,3,4] [(1,0)] h fun ac wd h => ?_
 refine qs 4 [] [1,2,3,4,9] [(1,0)] h fun ac wd h => ?_
 refine wp_seq ?_
 obtain ⟨aa,ab,hD⟩ := oB hD
 have ad := L_table_Waits_ok ab
 refine qs 16 [factE 13 ad] [1,2,3,4,9,23,24,25] [(1,0)] h fun ac wd h => ?_
 refine wp_block ?_
 have h := SL.bornS h 9 90 10 (by simp only [EZ,simprocAttr, *] <;> rfl)
 refine r_while (fun nf ac wd => ∃ (ae : Int) (af : List TOut),L_probe_seat_probe_l1 a0 a1 a2 a3 aa nf ae af = some r ∧ SL ⟨wb,S,Φ,P0⟩ 68 110 [(1,.one (.d (.int .i64 a1))),(2,.one (.d (.int .i64 a2))),(3,.one (.d (.sl (List.map eI a3)))),(4,.one (.ptr (1,0) 0)),(9,.one (.own (16,0) af.length)),(23,.one (.d (.sl (List.map eI aa)))),(24,.one (.d (.int .i64 (aa.length : Int)))),(25,.one (.d (.int .i64 ae)))] [((1,0),some (.box 116 (cTSeat a0))),((16,0),some (.row 90 10 (openRows cols_90 (List.map eTOut af))))] ac wd) (((aa.length : Int) - 0).toNat + 1) ⟨0,([] : List TOut),hD,h.z⟩ (fun nf ac wd hJ => ?_)
 obtain ⟨ae,af,ag,h⟩ := hJ
 cases nf with
 | zero => rw [L_probe_seat_probe_l1] at ag; cases ag
 | succ nf =>
  rw [L_probe_seat_probe_l1] at ag
  refine qs 111 [] [1,2,3,4,9,23,24,25,26] [(1,0),(16,0)] h fun ac wd h => ?_
  refine wp_seq ?_
  rcases i2 ag with ⟨ah,ag⟩ | ⟨ah,ag⟩
  ·
   refine kT h ?_
   refine wp_skip ?_
   change Code.wp Tryz.prog _ _ _ _
   refine wp_seq ?_
   refine wp_block ?_
   obtain ⟨ai,aj,ak,al,am,ag⟩ := aB ag
   refine qs 114 [] [1,2,3,4,9,11,23,24,25] [(1,0),(16,0)] h fun ac wd h => ?_
   obtain ⟨an,ao,ag⟩ := oB ag
   obtain ⟨ap,aq,ag⟩ := oB ag
   have ar := L_graph_Find_ok ao
   have au := L_host_Got_ok aq
   refine ds 128 [factE 125 ar,factE 126 au] [1,2,3,4,9,11,12,23,24,25] [(1,0),(16,0)] h fun ac wd h => ?_
   obtain ⟨av,aw,ag⟩ := oB ag
   have ax := ((L_slices_Concat_int_int_own aw).cls 137).z
   refine qs 141 [factO ax] [1,2,3,4,9,11,13,23,24,25] [(1,0),(16,0),(137,0),(139,0)] h fun ac wd h => ?_
   obtain ⟨ay,az,ag⟩ := oB ag
   obtain ⟨aA,ag⟩ := iT ag
   have aC := L_graph_Find_ok az
   refine de [factE 149 aC] [1,2,3,4,9,23,24,25] [(1,0),(137,0),(153,0)] h fun ac wd h => ?_
   have h := h.nilTr (153,0) (l := (openRows cols_90 (List.map eTOut af) ++ [[.d (.int .i64 ay),.d (.int .i64 6),.d (.int .i64 0),.d (.int .i64 0),.d (.int .i64 0),.nil,.d (.int .i64 a1),.d (.int .i64 a2),.d (.int .i64 ap),.own (137,0) av.length]])) (l' := (openRows cols_90 (List.map eTOut af) ++ [[.d (.int .i64 ay),.d (.int .i64 6),.d (.int .i64 0),.d (.int .i64 0),.d (.int .i64 0),.tr (.sl 102 6 cols_102) (.sl (List.map eTPiece [])),.d (.int .i64 a1),.d (.int .i64 a2),.d (.int .i64 ap),.own (137,0) av.length]])) (by simp only [EZ,simprocAttr, *] <;> rfl) (RowsTo.append (RowsTo.refl _) (RowsTo.cons (RowTo.cons (.inl rfl) (RowTo.cons (.inl rfl) (RowTo.cons (.inl rfl) (RowTo.cons (.inl rfl) (RowTo.cons (.inl rfl) (RowTo.cons (.inr (.inr ⟨rfl,_,_,_,rfl⟩)) (RowTo.cons (.inl rfl) (RowTo.cons (.inl rfl) (RowTo.cons (.inl rfl) (RowTo.cons (.inl rfl) RowTo.nil)))))))))) (RowsTo.refl [])))
   have h := h.sm 155 [(1,.one (.d (.int .i64 a1))),(2,.one (.d (.int .i64 a2))),(3,.one (.d (.sl (List.map eI a3)))),(4,.one (.ptr (1,0) 0)),(9,.one (.own (153,0) (af.length + 1))),(23,.one (.d (.sl (List.map eI aa)))),(24,.one (.d (.int .i64 (aa.length : Int)))),(25,.one (.d (.int .i64 ae)))]
    [((1,0),some (.box 116 (cTSeat a0))),((137,0),some (.row 3 1 (dat (List.map eI av)))),((153,0),some (.row 90 10 ((openRows cols_90 (List.map eTOut af) ++ [[.d (.int .i64 ay),.d (.int .i64 6),.d (.int .i64 0),.d (.int .i64 0),.d (.int .i64 0),.tr (.sl 102 6 cols_102) (.sl (List.map eTPiece [])),.d (.int .i64 a1),.d (.int .i64 a2),.d (.int .i64 ap),.own (137,0) av.length]]))))]
   have h := h.fL (cols := (fun _ => .sc)) (153,0) (137,0) (openRows cols_90 (List.map eTOut af)) [.d (.int .i64 ay),.d (.int .i64 6),.d (.int .i64 0),.d (.int .i64 0),.d (.int .i64 0),.tr (.sl 102 6 cols_102) (.sl (List.map eTPiece [])),.d (.int .i64 a1),.d (.int .i64 a2),.d (.int .i64 ap),.own (137,0) av.length] 9 (List.map eI av) (sc_3 _)
   have h := h.sm 155 [(1,.one (.d (.int .i64 a1))),(2,.one (.d (.int .i64 a2))),(3,.one (.d (.sl (List.map eI a3)))),(4,.one (.ptr (1,0) 0)),(9,.one (.own (153,0) (af.length + 1))),(23,.one (.d (.sl (List.map eI aa)))),(24,.one (.d (.int .i64 (aa.length : Int)))),(25,.one (.d (.int .i64 ae)))]
    [((1,0),some (.box 116 (cTSeat a0))),((153,0),some (.row 90 10 ((openRows cols_90 (List.map eTOut af) ++ [[.d (.int .i64 ay),.d (.int .i64 6),.d (.int .i64 0),.d (.int .i64 0),.d (.int .i64 0),.tr (.sl 102 6 cols_102) (.sl (List.map eTPiece [])),.d (.int .i64 a1),.d (.int .i64 a2),.d (.int .i64 ap),.tr (.sl 3 1 (fun _ => .sc)) (.sl (List.map eI av))]]))))]
   change Code.wp Tryz.prog _ _ _ _
   refine qe [] [1,2,3,4,9,23,24,25] [(1,0),(153,0)] h fun ac wd h => ?_
   have h := h.sw (16,0) (153,0) 157
   exact ⟨nf,Nat.lt_succ_self nf,(IntKind.wrap .i64 (ae + 1)),((af ++ [(TOut.mk ay (TFrame.mk 6 0 (TMsg.mk 0 0) [] a1 a2 ap av))]) : List TOut),ag,h.z⟩
  ·
   refine kF h ?_
   refine wp_exit ?_
   change Code.wp Tryz.prog _ _ _ _
   refine qs 113 [] [8] [(16,0)] h fun ac wd h => ?_
   refine wp_ret ?_
   have h := h.sw (1,0) (16,0) 113
   injection ag with ag
   subst ag
   exact rO h [.tmp 8] [(1,0)]
theorem L_probe_seat_probe_ok {a0 : TSeat} {a1 : Int} {a2 : Int} {a3 : (List Int)} {r : (List TOut)} (hD : L_probe_seat_probe a0 a1 a2 a3 = some r) :
  CallH Tryz.prog 40 [.agg (cTSeat a0),.one (.d (.int .i64 a1)),.one (.d (.int .i64 a2)),.one (.d (.sl (List.map eI a3)))] []
   (.one (.d (.sl (List.map eTOut r)))) [] :=
 (L_probe_seat_probe_own hD).fr

theorem L_probe_Start_own {a0 : TApp} {a1 : THost} {a2 : Int} {r : (List TOut) × Int} (hD : L_probe_Start a0 a1 a2 = some r) :
  CallH Tryz.prog 11 [.agg (cTApp a0),.agg (cTHost a1),.one (.d (.int .i64 a2))] []
   (.tup [.inr (.own (1,0) r.1.length),.inr (.d (.int .i64 r.2))]) [((1,0),some (.row 90 10 (openRows cols_90 (List.map eTOut r.1))))] := by
 unfold L_probe_Start at hD
 refine rc Tryz.func11 rfl Tryz.ntmps11 fun S Φ P0 wb ac h => ?_
 refine qs 5 [] [2,3,4] [(1,0),(2,0)] h fun ac wd h => ?_
 refine qs 10 [] [2,3,4,8] [(1,0),(2,0),(8,0)] h fun ac wd h => ?_
 refine wp_seq ?_
 refine wp_block ?_
 refine qs 14 [] [2,4,8,12] [(2,0),(8,0)] h fun ac wd h => ?_
 rcases i2b hD with ⟨aa,hD⟩ | ⟨aa,hD⟩
 ·
  refine kF h ?_
  obtain ⟨ab,ad,hD⟩ := Option.bind_eq_some_iff.1 hD
  refine r_seqJ (fun ac wd => ∃ (ae : Bool),ae = ab ∧ SL ⟨wb,S,Φ,P0⟩ 32 21 [(2,.one (.d (.int .i64 a2))),(4,.one (.ptr (2,0) 0)),(8,.one (.ptr (8,0) 0)),(16,.one (.d (.bool ae)))] [((2,0),some (.box 31 (cTHost a1))),((8,0),some (.box 116 (cTHost a1 ++ cTApp a0)))] ac wd) ?_ ?_
  ·
   rcases i2 ad with ⟨af,ad⟩ | ⟨af,ad⟩
   ·
    refine qeg [] [none,none,none,some (some 19,false),some (some 19,false),none,none] [2,4,8,16] [(2,0),(8,0)] h fun ac wd h => ?_
    injection ad with ad; subst ad
    exact ⟨true,rfl,h.z⟩
   ·
    refine qeg [] [none,none,none,some (some 19,false),some (some 19,false),none,none] [2,4,8,16] [(2,0),(8,0)] h fun ac wd h => ?_
    injection ad with ad; subst ad
    exact ⟨decide (a2 > 200),rfl,h.z⟩
  ·
   rintro ac wd ⟨ae,rfl,h⟩
   (try dsimp only at hD)
   rcases i2b hD with ⟨ag,hD⟩ | ⟨ag,hD⟩
   ·
    refine kT h ?_
    refine qs 23 [] [6,7] [] h fun ac wd h => ?_
    refine wp_ret ?_
    have h := SL.bornS h 6 90 10 (by simp only [EZ,simprocAttr, *] <;> rfl)
    have h := h.sw (1,0) (23,0) 24
    injection hD with hD
    subst hD
    exact rO h [.tmp 6,.tmp 7] [(1,0)]
   ·
    refine kF h ?_
    obtain ⟨ah,ai,hD⟩ := oB hD
    have aj := L_probe_seat_blocked_ok ai
    refine qs 25 [factE 22 aj] [2,4,8,23] [(2,0),(8,0)] h fun ac wd h => ?_
    rcases i2b hD with ⟨ak,hD⟩ | ⟨ak,hD⟩
    ·
     refine kF h ?_
     refine wp_skip ?_
     change Code.wp Tryz.prog _ _ _ _
     obtain ⟨al,am,hD⟩ := oB hD
     have an := ((L_probe_seat_probe_own am).cls 29).z
     refine qs 32 [factO an] [6,7] [(29,0)] h fun ac wd h => ?_
     refine wp_ret ?_
     have h := h.sw (1,0) (29,0) 32
     injection hD with hD
     subst hD
     exact rO h [.tmp 6,.tmp 7] [(1,0)]
    ·
     refine kT h ?_
     refine qs 27 [] [6,7] [] h fun ac wd h => ?_
     refine wp_ret ?_
     have h := SL.bornS h 6 90 10 (by simp only [EZ,simprocAttr, *] <;> rfl)
     have h := h.sw (1,0) (27,0) 28
     injection hD with hD
     subst hD
     exact rO h [.tmp 6,.tmp 7] [(1,0)]
 ·
  refine kT h ?_
  refine qs 16 [] [6,7] [] h fun ac wd h => ?_
  refine wp_ret ?_
  have h := SL.bornS h 6 90 10 (by simp only [EZ,simprocAttr, *] <;> rfl)
  have h := h.sw (1,0) (16,0) 17
  injection hD with hD
  subst hD
  exact rO h [.tmp 6,.tmp 7] [(1,0)]
theorem L_probe_Start_ok {a0 : TApp} {a1 : THost} {a2 : Int} {r : (List TOut) × Int} (hD : L_probe_Start a0 a1 a2 = some r) :
  CallH Tryz.prog 11 [.agg (cTApp a0),.agg (cTHost a1),.one (.d (.int .i64 a2))] []
   (.tup [.inr (.d (.sl (List.map eTOut r.1))),.inr (.d (.int .i64 r.2))]) [] :=
 (L_probe_Start_own hD).fr

theorem L_graph_Back_ok {a0 : TGraph} {a1 : Int} {r : Int} (hD : L_graph_Back a0 a1 = some r) :
  CallH Tryz.prog 49 [.agg (cTGraph a0),.one (.d (.int .i64 a1))] []
   (.one (.d (.int .i64 r))) [] := by
 unfold L_graph_Back at hD
 refine rc Tryz.func49 rfl Tryz.ntmps49 fun S Φ P0 wb ac h => ?_
 refine qs 3 [] [1,2] [(1,0)] h fun ac wd h => ?_
 refine wp_seq ?_
 obtain ⟨aa,ab,hD⟩ := Option.bind_eq_some_iff.1 hD
 refine r_seqJ (fun ac wd => ∃ (ad : Bool),ad = aa ∧ SL ⟨wb,S,Φ,P0⟩ 28 12 [(1,.one (.d (.int .i64 a1))),(2,.one (.ptr (1,0) 0)),(13,.one (.d (.bool ad)))] [((1,0),some (.box 24 (cTGraph a0)))] ac wd) ?_ ?_
 ·
  rcases i2 ab with ⟨ae,ab⟩ | ⟨ae,ab⟩
  ·
   refine qeg [] [none,none,none,some (some 7,false),some (some 7,false),some (some 7,false),some (some 7,false),some (some 7,false),none] [1,2,13] [(1,0)] h fun ac wd h => ?_
   injection ab with ab; subst ab
   exact ⟨true,rfl,h.z⟩
  ·
   refine qeg [] [none,none,none,some (some 7,false),some (some 7,false),some (some 7,false),some (some 7,false),some (some 7,false),none] [1,2,13] [(1,0)] h fun ac wd h => ?_
   injection ab with ab; subst ab
   exact ⟨decide (a1 ≥ (a0.Links.length : Int)),rfl,h.z⟩
 ·
  rintro ac wd ⟨ad,rfl,h⟩
  (try dsimp only at hD)
  rcases i2b hD with ⟨af,hD⟩ | ⟨af,hD⟩
  ·
   refine kT h ?_
   refine qs 13 [] [4] [] h fun ac wd h => ?_
   refine wp_ret ?_
   injection hD with hD
   subst hD
   exact rE h [.tmp 4]
  ·
   refine kF h ?_
   refine wp_skip ?_
   change Code.wp Tryz.prog _ _ _ _
   obtain ⟨ag,ah,ai,aj,ak,hD⟩ := aB hD
   obtain ⟨al,am,hD⟩ := oB hD
   have an := L_graph_Find_ok am
   refine ds 27 [factE 25 an] [4] [] h fun ac wd h => ?_
   refine wp_ret ?_
   injection hD with hD
   subst hD
   exact rE h [.tmp 4]

theorem L_host_Gave_ok {a0 : TApp} {a1 : THost} {a2 : Int} {r : Int} (hD : L_host_Gave a0 a1 a2 = some r) :
  CallH Tryz.prog 48 [.agg (cTApp a0),.agg (cTHost a1),.one (.d (.int .i64 a2))] []
   (.one (.d (.int .i64 r))) [] := by
 unfold L_host_Gave at hD
 refine rc Tryz.func48 rfl Tryz.ntmps48 fun S Φ P0 wb ac h => ?_
 refine qs 4 [] [2,3,4] [(1,0),(2,0)] h fun ac wd h => ?_
 refine wp_seq ?_
 obtain ⟨aa,ab,hD⟩ := oB hD
 obtain ⟨ad,ae,hD⟩ := oB hD
 have af := L_graph_Out_ok ab
 have ag := L_slices_Index_int_int_ok ae
 refine qs 12 [factE 8 af,factE 10 ag] [4,7] [(2,0)] h fun ac wd h => ?_
 refine qs 14 [] [4,7,16] [(2,0)] h fun ac wd h => ?_
 rcases i2 hD with ⟨ah,hD⟩ | ⟨ah,hD⟩
 ·
  refine kT h ?_
  obtain ⟨ai,aj,ak,al,am,hD⟩ := aB hD
  refine qs 21 [] [6] [] h fun ac wd h => ?_
  refine wp_ret ?_
  injection hD with hD
  subst hD
  exact rE h [.tmp 6]
 ·
  refine kF h ?_
  refine wp_skip ?_
  change Code.wp Tryz.prog _ _ _ _
  refine qs 15 [] [6] [] h fun ac wd h => ?_
  refine wp_ret ?_
  injection hD with hD
  subst hD
  exact rE h [.tmp 6]

theorem L_probe_last_ok {a0 : (List Int)} {a1 : Int} {r : Int} (hD : L_probe_last a0 a1 = some r) :
  CallH Tryz.prog 51 [.one (.d (.sl (List.map eI a0))),.one (.d (.int .i64 a1))] []
   (.one (.d (.int .i64 r))) [] := by
 unfold L_probe_last at hD
 refine rc Tryz.func51 rfl Tryz.ntmps51 fun S Φ P0 wb ac h => ?_
 refine qs 2 [] [0,1] [] h fun ac wd h => ?_
 refine wp_seq ?_
 refine qs 6 [] [0,1,8] [] h fun ac wd h => ?_
 rcases i2 hD with ⟨aa,hD⟩ | ⟨aa,hD⟩
 ·
  refine kT h ?_
  obtain ⟨ab,ad,ae,af,ag,hD⟩ := aB hD
  refine qs 11 [] [4] [] h fun ac wd h => ?_
  refine wp_ret ?_
  injection hD with hD
  subst hD
  exact rE h [.tmp 4]
 ·
  refine kF h ?_
  refine wp_skip ?_
  change Code.wp Tryz.prog _ _ _ _
  refine qs 7 [] [4] [] h fun ac wd h => ?_
  refine wp_ret ?_
  injection hD with hD
  subst hD
  exact rE h [.tmp 4]

end Go.Proofs.YtabbejabdkkaiaaGreat
