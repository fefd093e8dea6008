/- Functions as typed ones,and that the program's functions answer as these do. No condition. -/
import Derived.Test.YtabbejabdkkaiaaGb3
import Derived.Test.YtabbejabdkkaiaaGd
set_option linter.unusedSimpArgs false
set_option linter.unusedVariables false
set_option maxRecDepth 20000
set_option maxHeartbeats 4000000
namespace Go.Proofs.Ytabbejabdkkaiaa
open Go.RowKit

theorem L_ref07_probe_ok {a0 : TFrame} {r : Bool} (hD : L_ref07_probe a0 = some r) :
  CallH Try.prog 67 [.agg (cTFrame a0)] []
   (.one (.d (.bool r))) [] := by
 unfold L_ref07_probe at hD
 refine rc Try.func67 rfl Try.ntmps67 fun S Φ P0 wb ac h => ?_
 refine qs 3 [] [1] [(1,0)] h fun ac wd h => ?_
 refine wp_seq ?_
 obtain ⟨aa,ab,hD⟩ := Option.bind_eq_some_iff.1 hD
 refine r_seqJ (fun ac wd => ∃ (ad : Bool),ad = aa ∧ SL ⟨wb,S,Φ,P0⟩ 82 60 [(1,.one (.ptr (1,0) 0)),(60,.one (.d (.bool ad)))] [((1,0),some (.box 76 (cTFrame a0)))] ac wd) ?_ ?_
 ·
  rcases i2e ab with ⟨ae,ab⟩ | ⟨ae,ab⟩
  ·
   rcases i2e ab with ⟨af,ab⟩ | ⟨af,ab⟩
   ·
    rcases i2 ab with ⟨ag,ab⟩ | ⟨ag,ab⟩
    ·
     have ah := eq_TMsg_vm a0.M 0 0
     refine qeg [] [none,none,none,none,some (some 7,false),some (some 7,false),some (some 7,false),some (some 7,false),none,none,some (some 13,false),some (some 13,false),some (some 13,false),some (some 13,false),none,none,some (some 19,false),some (some 19,false),some (some 19,false),none,none,some (some 24,false),some (some 24,false),some (some 24,false),none,none,some (some 29,false),some (some 29,false),some (some 29,false),none,none,some (some 34,false),some (some 34,false),some (some 34,false),none,none,some (some 39,false),some (some 39,false),some (some 39,false),none,none,some (some 44,false),some (some 44,false),some (some 44,false),none,none,some (some 49,false),some (some 49,false),some (some 49,false),some (some 49,false),none,none,some (some 55,false),some (some 55,false),some (some 55,false),some (some 55,false),none] [1,60] [(1,0)] h fun ac wd h => ?_
     injection ab with ab; subst ab
     exact ⟨true,rfl,h.z⟩
    ·
     rcases i2 ab with ⟨ai,ab⟩ | ⟨ai,ab⟩
     ·
      have aj := eq_TMsg_vm a0.M 0 0
      refine qeg [] [none,none,none,none,some (some 7,false),some (some 7,false),some (some 7,false),some (some 7,false),none,none,some (some 13,false),some (some 13,false),some (some 13,false),some (some 13,false),none,none,some (some 19,false),some (some 19,false),some (some 19,false),none,none,some (some 24,false),some (some 24,false),some (some 24,false),none,none,some (some 29,false),some (some 29,false),some (some 29,false),none,none,some (some 34,false),some (some 34,false),some (some 34,false),none,none,some (some 39,false),some (some 39,false),some (some 39,false),none,none,some (some 44,false),some (some 44,false),some (some 44,false),none,none,some (some 49,false),some (some 49,false),some (some 49,false),some (some 49,false),none,none,some (some 55,false),some (some 55,false),some (some 55,false),some (some 55,false),none] [1,60] [(1,0)] h fun ac wd h => ?_
      injection ab with ab; subst ab
      exact ⟨true,rfl,h.z⟩
     ·
      rcases i2 ab with ⟨ak,ab⟩ | ⟨ak,ab⟩
      ·
       have al := eq_TMsg_vm a0.M 0 0
       refine qeg [] [none,none,none,none,some (some 7,false),some (some 7,false),some (some 7,false),some (some 7,false),none,none,some (some 13,false),some (some 13,false),some (some 13,false),some (some 13,false),none,none,some (some 19,false),some (some 19,false),some (some 19,false),none,none,some (some 24,false),some (some 24,false),some (some 24,false),none,none,some (some 29,false),some (some 29,false),some (some 29,false),none,none,some (some 34,false),some (some 34,false),some (some 34,false),none,none,some (some 39,false),some (some 39,false),some (some 39,false),none,none,some (some 44,false),some (some 44,false),some (some 44,false),none,none,some (some 49,false),some (some 49,false),some (some 49,false),some (some 49,false),none,none,some (some 55,false),some (some 55,false),some (some 55,false),some (some 55,false),none] [1,60] [(1,0)] h fun ac wd h => ?_
       injection ab with ab; subst ab
       exact ⟨true,rfl,h.z⟩
      ·
       rcases i2 ab with ⟨am,ab⟩ | ⟨am,ab⟩
       ·
        have an := eq_TMsg_vm a0.M 0 0
        refine qeg [] [none,none,none,none,some (some 7,false),some (some 7,false),some (some 7,false),some (some 7,false),none,none,some (some 13,false),some (some 13,false),some (some 13,false),some (some 13,false),none,none,some (some 19,false),some (some 19,false),some (some 19,false),none,none,some (some 24,false),some (some 24,false),some (some 24,false),none,none,some (some 29,false),some (some 29,false),some (some 29,false),none,none,some (some 34,false),some (some 34,false),some (some 34,false),none,none,some (some 39,false),some (some 39,false),some (some 39,false),none,none,some (some 44,false),some (some 44,false),some (some 44,false),none,none,some (some 49,false),some (some 49,false),some (some 49,false),some (some 49,false),none,none,some (some 55,false),some (some 55,false),some (some 55,false),some (some 55,false),none] [1,60] [(1,0)] h fun ac wd h => ?_
        injection ab with ab; subst ab
        exact ⟨true,rfl,h.z⟩
       ·
        rcases i2 ab with ⟨ao,ab⟩ | ⟨ao,ab⟩
        ·
         have ap := eq_TMsg_vm a0.M 0 0
         refine qeg [] [none,none,none,none,some (some 7,false),some (some 7,false),some (some 7,false),some (some 7,false),none,none,some (some 13,false),some (some 13,false),some (some 13,false),some (some 13,false),none,none,some (some 19,false),some (some 19,false),some (some 19,false),none,none,some (some 24,false),some (some 24,false),some (some 24,false),none,none,some (some 29,false),some (some 29,false),some (some 29,false),none,none,some (some 34,false),some (some 34,false),some (some 34,false),none,none,some (some 39,false),some (some 39,false),some (some 39,false),none,none,some (some 44,false),some (some 44,false),some (some 44,false),none,none,some (some 49,false),some (some 49,false),some (some 49,false),some (some 49,false),none,none,some (some 55,false),some (some 55,false),some (some 55,false),some (some 55,false),none] [1,60] [(1,0)] h fun ac wd h => ?_
         injection ab with ab; subst ab
         exact ⟨true,rfl,h.z⟩
        ·
         rcases i2 ab with ⟨aq,ab⟩ | ⟨aq,ab⟩
         ·
          have ar := eq_TMsg_vm a0.M 0 0
          refine qeg [] [none,none,none,none,some (some 7,false),some (some 7,false),some (some 7,false),some (some 7,false),none,none,some (some 13,false),some (some 13,false),some (some 13,false),some (some 13,false),none,none,some (some 19,false),some (some 19,false),some (some 19,false),none,none,some (some 24,false),some (some 24,false),some (some 24,false),none,none,some (some 29,false),some (some 29,false),some (some 29,false),none,none,some (some 34,false),some (some 34,false),some (some 34,false),none,none,some (some 39,false),some (some 39,false),some (some 39,false),none,none,some (some 44,false),some (some 44,false),some (some 44,false),none,none,some (some 49,false),some (some 49,false),some (some 49,false),some (some 49,false),none,none,some (some 55,false),some (some 55,false),some (some 55,false),some (some 55,false),none] [1,60] [(1,0)] h fun ac wd h => ?_
          injection ab with ab; subst ab
          exact ⟨true,rfl,h.z⟩
         ·
          rcases i2 ab with ⟨au,ab⟩ | ⟨au,ab⟩
          ·
           have av := eq_TMsg_vm a0.M 0 0
           refine qeg [] [none,none,none,none,some (some 7,false),some (some 7,false),some (some 7,false),some (some 7,false),none,none,some (some 13,false),some (some 13,false),some (some 13,false),some (some 13,false),none,none,some (some 19,false),some (some 19,false),some (some 19,false),none,none,some (some 24,false),some (some 24,false),some (some 24,false),none,none,some (some 29,false),some (some 29,false),some (some 29,false),none,none,some (some 34,false),some (some 34,false),some (some 34,false),none,none,some (some 39,false),some (some 39,false),some (some 39,false),none,none,some (some 44,false),some (some 44,false),some (some 44,false),none,none,some (some 49,false),some (some 49,false),some (some 49,false),some (some 49,false),none,none,some (some 55,false),some (some 55,false),some (some 55,false),some (some 55,false),none] [1,60] [(1,0)] h fun ac wd h => ?_
           injection ab with ab; subst ab
           exact ⟨true,rfl,h.z⟩
          ·
           rcases i2 ab with ⟨aw,ab⟩ | ⟨aw,ab⟩
           ·
            have ax := eq_TMsg_vm a0.M 0 0
            refine qeg [] [none,none,none,none,some (some 7,false),some (some 7,false),some (some 7,false),some (some 7,false),none,none,some (some 13,false),some (some 13,false),some (some 13,false),some (some 13,false),none,none,some (some 19,false),some (some 19,false),some (some 19,false),none,none,some (some 24,false),some (some 24,false),some (some 24,false),none,none,some (some 29,false),some (some 29,false),some (some 29,false),none,none,some (some 34,false),some (some 34,false),some (some 34,false),none,none,some (some 39,false),some (some 39,false),some (some 39,false),none,none,some (some 44,false),some (some 44,false),some (some 44,false),none,none,some (some 49,false),some (some 49,false),some (some 49,false),some (some 49,false),none,none,some (some 55,false),some (some 55,false),some (some 55,false),some (some 55,false),none] [1,60] [(1,0)] h fun ac wd h => ?_
            injection ab with ab; subst ab
            exact ⟨true,rfl,h.z⟩
           ·
            have ay := eq_TMsg_vm a0.M 0 0
            refine qeg [] [none,none,none,none,some (some 7,false),some (some 7,false),some (some 7,false),some (some 7,false),none,none,some (some 13,false),some (some 13,false),some (some 13,false),some (some 13,false),none,none,some (some 19,false),some (some 19,false),some (some 19,false),none,none,some (some 24,false),some (some 24,false),some (some 24,false),none,none,some (some 29,false),some (some 29,false),some (some 29,false),none,none,some (some 34,false),some (some 34,false),some (some 34,false),none,none,some (some 39,false),some (some 39,false),some (some 39,false),none,none,some (some 44,false),some (some 44,false),some (some 44,false),none,none,some (some 49,false),some (some 49,false),some (some 49,false),some (some 49,false),none,none,some (some 55,false),some (some 55,false),some (some 55,false),some (some 55,false),none] [1,60] [(1,0)] h fun ac wd h => ?_
            injection ab with ab; subst ab
            exact ⟨decide ((a0.Path.length : Int) > 6),rfl,h.z⟩
   ·
    have az := eq_TMsg_vm a0.M 0 0
    refine qeg [] [none,none,none,none,some (some 7,false),some (some 7,false),some (some 7,false),some (some 7,false),none,none,some (some 13,false),some (some 13,false),some (some 13,false),some (some 13,false),none,none,some (some 19,false),some (some 19,false),some (some 19,false),none,none,some (some 24,false),some (some 24,false),some (some 24,false),none,none,some (some 29,false),some (some 29,false),some (some 29,false),none,none,some (some 34,false),some (some 34,false),some (some 34,false),none,none,some (some 39,false),some (some 39,false),some (some 39,false),none,none,some (some 44,false),some (some 44,false),some (some 44,false),none,none,some (some 49,false),some (some 49,false),some (some 49,false),some (some 49,false),none,none,some (some 55,false),some (some 55,false),some (some 55,false),some (some 55,false),none] [1,60] [(1,0)] h fun ac wd h => ?_
    injection ab with ab; subst ab
    exact ⟨true,rfl,h.z⟩
  ·
   refine qeg [] [none,none,none,none,some (some 7,false),some (some 7,false),some (some 7,false),some (some 7,false),none,none,some (some 13,false),some (some 13,false),some (some 13,false),some (some 13,false),none,none,some (some 19,false),some (some 19,false),some (some 19,false),none,none,some (some 24,false),some (some 24,false),some (some 24,false),none,none,some (some 29,false),some (some 29,false),some (some 29,false),none,none,some (some 34,false),some (some 34,false),some (some 34,false),none,none,some (some 39,false),some (some 39,false),some (some 39,false),none,none,some (some 44,false),some (some 44,false),some (some 44,false),none,none,some (some 49,false),some (some 49,false),some (some 49,false),some (some 49,false),none,none,some (some 55,false),some (some 55,false),some (some 55,false),some (some 55,false),none] [1,60] [(1,0)] h fun ac wd h => ?_
   injection ab with ab; subst ab
   exact ⟨true,rfl,h.z⟩
 ·
  rintro ac wd ⟨ad,rfl,h⟩
  (try dsimp only at hD)
  rcases i2b hD with ⟨aA,hD⟩ | ⟨aA,hD⟩
  ·
   refine kT h ?_
   refine qs 61 [] [2] [] h fun ac wd h => ?_
   refine wp_ret ?_
   injection hD with hD
   subst hD
   exact rE h [.tmp 2]
  ·
   refine kF h ?_
   refine wp_skip ?_
   change Code.wp Try.prog _ _ _ _
   refine wp_seq ?_
   refine qs 61 [] [1,3] [(1,0)] h fun ac wd h => ?_
   refine wp_block ?_
   refine r_while (fun nf ac wd => ∃ (aC : Int),L_ref07_probe_l1 a0 nf aC = some r ∧ SL ⟨wb,S,Φ,P0⟩ 82 105 [(1,.one (.ptr (1,0) 0)),(3,.one (.d (.int .i64 aC)))] [((1,0),some (.box 76 (cTFrame a0)))] ac wd) (((a0.Path.length : Int) - 0).toNat + 1) ⟨0,hD,h.z⟩ (fun nf ac wd hJ => ?_)
   obtain ⟨aC,aD,h⟩ := hJ
   cases nf with
   | zero => rw [L_ref07_probe_l1] at aD; cases aD
   | succ nf =>
    rw [L_ref07_probe_l1] at aD
    refine wp_seq ?_
    refine qs 110 [] [1,3,65] [(1,0)] h fun ac wd h => ?_
    rcases i2 aD with ⟨aE,aD⟩ | ⟨aE,aD⟩
    ·
     refine kT h ?_
     refine wp_skip ?_
     change Code.wp Try.prog _ _ _ _
     refine wp_seq ?_
     refine wp_block ?_
     obtain ⟨aF,aG,aD⟩ := Option.bind_eq_some_iff.1 aD
     refine r_seqJ (fun ac wd => ∃ (aH : Bool),aH = aF ∧ SL ⟨wb,S,Φ,P0⟩ 82 124 [(1,.one (.ptr (1,0) 0)),(3,.one (.d (.int .i64 aC))),(81,.one (.d (.bool aH)))] [((1,0),some (.box 76 (cTFrame a0)))] ac wd) ?_ ?_
     ·
      obtain ⟨aI,aJ,aK,aL,aM,aG⟩ := aB aG
      rcases i2 aG with ⟨aN,aG⟩ | ⟨aN,aG⟩
      ·
       refine qeg [] [none,none,none,none,none,none,none,some (some 74,false),some (some 74,false),some (some 74,false),some (some 74,false),some (some 74,false),some (some 74,false),none] [1,3,81] [(1,0)] h fun ac wd h => ?_
       injection aG with aG; subst aG
       exact ⟨true,rfl,h.z⟩
      ·
       refine qeg [] [none,none,none,none,none,none,none,some (some 74,false),some (some 74,false),some (some 74,false),some (some 74,false),some (some 74,false),some (some 74,false),none] [1,3,81] [(1,0)] h fun ac wd h => ?_
       injection aG with aG; subst aG
       exact ⟨decide (aI > 5),rfl,h.z⟩
     ·
      rintro ac wd ⟨aH,rfl,h⟩
      (try dsimp only at aD)
      rcases i2b aD with ⟨aO,aD⟩ | ⟨aO,aD⟩
      ·
       refine kT h ?_
       refine qs 125 [] [2] [] h fun ac wd h => ?_
       refine wp_ret ?_
       injection aD with aD
       subst aD
       exact rE h [.tmp 2]
      ·
       refine kF h ?_
       refine wp_skip ?_
       change Code.wp Try.prog _ _ _ _
       refine qe [] [1,3] [(1,0)] h fun ac wd h => ?_
       exact ⟨nf,Nat.lt_succ_self nf,(IntKind.wrap .i64 (aC + 1)),aD,h.z⟩
    ·
     refine kF h ?_
     refine wp_exit ?_
     change Code.wp Try.prog _ _ _ _
     refine qs 111 [] [2] [] h fun ac wd h => ?_
     refine wp_ret ?_
     injection aD with aD
     subst aD
     exact rE h [.tmp 2]

theorem L_ref07_bare_ok {a0 : TFrame} {r : Bool} (hD : L_ref07_bare a0 = some r) :
  CallH Try.prog 68 [.agg (cTFrame a0)] []
   (.one (.d (.bool r))) [] := by
 unfold L_ref07_bare at hD
 refine rc Try.func68 rfl Try.ntmps68 fun S Φ P0 wb ac h => ?_
 refine qs 3 [] [1] [(1,0)] h fun ac wd h => ?_
 obtain ⟨aa,ab,hD⟩ := Option.bind_eq_some_iff.1 hD
 refine r_seqJ (fun ac wd => ∃ (ad : Bool),ad = aa ∧ SL ⟨wb,S,Φ,P0⟩ 22 23 [(2,.one (.d (.bool ad)))] [] ac wd) ?_ ?_
 ·
  rcases i2e ab with ⟨ae,ab⟩ | ⟨ae,ab⟩
  ·
   rcases i2e ab with ⟨af,ab⟩ | ⟨af,ab⟩
   ·
    rcases i2e ab with ⟨ag,ab⟩ | ⟨ag,ab⟩
    ·
     refine qeg [] [none,none,none,none,some (some 6,true),some (some 6,true),some (some 6,true),none,none,some (some 11,true),some (some 11,true),some (some 11,true),none,none,some (some 16,true),some (some 16,true),some (some 16,true),some (some 16,true),none,none] [2] [] h fun ac wd h => ?_
     injection ab with ab; subst ab
     exact ⟨decide ((a0.Path.length : Int) = 0),rfl,h.z⟩
    ·
     refine qeg [] [none,none,none,none,some (some 6,true),some (some 6,true),some (some 6,true),none,none,some (some 11,true),some (some 11,true),some (some 11,true),none,none,some (some 16,true),some (some 16,true),some (some 16,true),some (some 16,true),none,none] [2] [] h fun ac wd h => ?_
     injection ab with ab; subst ab
     exact ⟨false,rfl,h.z⟩
   ·
    refine qeg [] [none,none,none,none,some (some 6,true),some (some 6,true),some (some 6,true),none,none,some (some 11,true),some (some 11,true),some (some 11,true),none,none,some (some 16,true),some (some 16,true),some (some 16,true),some (some 16,true),none,none] [2] [] h fun ac wd h => ?_
    injection ab with ab; subst ab
    exact ⟨false,rfl,h.z⟩
  ·
   refine qeg [] [none,none,none,none,some (some 6,true),some (some 6,true),some (some 6,true),none,none,some (some 11,true),some (some 11,true),some (some 11,true),none,none,some (some 16,true),some (some 16,true),some (some 16,true),some (some 16,true),none,none] [2] [] h fun ac wd h => ?_
   injection ab with ab; subst ab
   exact ⟨false,rfl,h.z⟩
 ·
  rintro ac wd ⟨ad,rfl,h⟩
  (try dsimp only at hD)
  refine wp_ret ?_
  injection hD with hD
  subst hD
  exact rE h [.tmp 2]

theorem L_ref07_Right_ok {a0 : TFrame} {r : Bool} (hD : L_ref07_Right a0 = some r) :
  CallH Try.prog 24 [.agg (cTFrame a0)] []
   (.one (.d (.bool r))) [] := by
 unfold L_ref07_Right at hD
 refine rc Try.func24 rfl Try.ntmps24 fun S Φ P0 wb ac h => ?_
 refine qs 3 [] [1] [(1,0)] h fun ac wd h => ?_
 refine wp_seq ?_
 refine qs 6 [] [1,6] [(1,0)] h fun ac wd h => ?_
 rcases i2e hD with ⟨aa,hD⟩ | ⟨aa,hD⟩
 ·
  refine kT h ?_
  obtain ⟨ab,ad,hD⟩ := oB hD
  have ae := L_ref07_probe_ok ad
  refine qs 9 [factE 7 ae] [2] [] h fun ac wd h => ?_
  refine wp_ret ?_
  injection hD with hD
  subst hD
  exact rE h [.tmp 2]
 ·
  refine kF h ?_
  refine wp_skip ?_
  change Code.wp Try.prog _ _ _ _
  refine wp_seq ?_
  obtain ⟨af,ag,hD⟩ := Option.bind_eq_some_iff.1 hD
  refine r_seqJ (fun ac wd => ∃ (ah : Bool),ah = af ∧ SL ⟨wb,S,Φ,P0⟩ 115 50 [(1,.one (.ptr (1,0) 0)),(52,.one (.d (.bool ah)))] [((1,0),some (.box 76 (cTFrame a0)))] ac wd) ?_ ?_
  ·
   rcases i2 ag with ⟨ai,ag⟩ | ⟨ai,ag⟩
   ·
    refine qeg [] [none,none,none,none,some (some 12,false),some (some 12,false),some (some 12,false),none,none,some (some 17,false),some (some 17,false),some (some 17,false),none,none,some (some 22,false),some (some 22,false),some (some 22,false),none,none,some (some 27,false),some (some 27,false),some (some 27,false),none,none,some (some 32,false),some (some 32,false),some (some 32,false),some (some 32,false),some (some 36,true),some (some 36,true),some (some 36,true),some (some 32,false),none,none,some (some 42,false),some (some 42,false),some (some 42,false),some (some 42,false),some (some 46,true),some (some 46,true),some (some 46,true),some (some 46,true),some (some 42,false),none] [1,52] [(1,0)] h fun ac wd h => ?_
    injection ag with ag; subst ag
    exact ⟨true,rfl,h.z⟩
   ·
    rcases i2 ag with ⟨aj,ag⟩ | ⟨aj,ag⟩
    ·
     refine qeg [] [none,none,none,none,some (some 12,false),some (some 12,false),some (some 12,false),none,none,some (some 17,false),some (some 17,false),some (some 17,false),none,none,some (some 22,false),some (some 22,false),some (some 22,false),none,none,some (some 27,false),some (some 27,false),some (some 27,false),none,none,some (some 32,false),some (some 32,false),some (some 32,false),some (some 32,false),some (some 36,true),some (some 36,true),some (some 36,true),some (some 32,false),none,none,some (some 42,false),some (some 42,false),some (some 42,false),some (some 42,false),some (some 46,true),some (some 46,true),some (some 46,true),some (some 46,true),some (some 42,false),none] [1,52] [(1,0)] h fun ac wd h => ?_
     injection ag with ag; subst ag
     exact ⟨true,rfl,h.z⟩
    ·
     obtain ⟨ak,al,ag⟩ := oB ag
     rcases i2b ag with ⟨am,ag⟩ | ⟨am,ag⟩
     ·
      rcases i2 ag with ⟨an,ag⟩ | ⟨an,ag⟩
      ·
       have ao := L_ref07_bare_ok al
       refine qeg [factE 16 ao] [none,none,none,none,some (some 12,false),some (some 12,false),some (some 12,false),none,none,some (some 17,false),some (some 17,false),some (some 17,false),none,none,some (some 22,false),some (some 22,false),some (some 22,false),none,none,some (some 27,false),some (some 27,false),some (some 27,false),none,none,some (some 32,false),some (some 32,false),some (some 32,false),some (some 32,false),some (some 36,true),some (some 36,true),some (some 36,true),some (some 32,false),none,none,some (some 42,false),some (some 42,false),some (some 42,false),some (some 42,false),some (some 46,true),some (some 46,true),some (some 46,true),some (some 46,true),some (some 42,false),none] [1,52] [(1,0)] h fun ac wd h => ?_
       injection ag with ag; subst ag
       exact ⟨true,rfl,h.z⟩
      ·
       rcases i2 ag with ⟨ap,ag⟩ | ⟨ap,ag⟩
       ·
        have ao := L_ref07_bare_ok al
        refine qeg [factE 16 ao] [none,none,none,none,some (some 12,false),some (some 12,false),some (some 12,false),none,none,some (some 17,false),some (some 17,false),some (some 17,false),none,none,some (some 22,false),some (some 22,false),some (some 22,false),none,none,some (some 27,false),some (some 27,false),some (some 27,false),none,none,some (some 32,false),some (some 32,false),some (some 32,false),some (some 32,false),some (some 36,true),some (some 36,true),some (some 36,true),some (some 32,false),none,none,some (some 42,false),some (some 42,false),some (some 42,false),some (some 42,false),some (some 46,true),some (some 46,true),some (some 46,true),some (some 46,true),some (some 42,false),none] [1,52] [(1,0)] h fun ac wd h => ?_
        injection ag with ag; subst ag
        exact ⟨true,rfl,h.z⟩
       ·
        rcases i2 ag with ⟨aq,ag⟩ | ⟨aq,ag⟩
        ·
         rcases i2 ag with ⟨ar,ag⟩ | ⟨ar,ag⟩
         ·
          have ao := L_ref07_bare_ok al
          refine qeg [factE 16 ao] [none,none,none,none,some (some 12,false),some (some 12,false),some (some 12,false),none,none,some (some 17,false),some (some 17,false),some (some 17,false),none,none,some (some 22,false),some (some 22,false),some (some 22,false),none,none,some (some 27,false),some (some 27,false),some (some 27,false),none,none,some (some 32,false),some (some 32,false),some (some 32,false),some (some 32,false),some (some 36,true),some (some 36,true),some (some 36,true),some (some 32,false),none,none,some (some 42,false),some (some 42,false),some (some 42,false),some (some 42,false),some (some 46,true),some (some 46,true),some (some 46,true),some (some 46,true),some (some 42,false),none] [1,52] [(1,0)] h fun ac wd h => ?_
          injection ag with ag; subst ag
          exact ⟨true,rfl,h.z⟩
         ·
          have ao := L_ref07_bare_ok al
          have au := eq_TMsg_vm a0.M 0 0
          refine qeg [factE 16 ao] [none,none,none,none,some (some 12,false),some (some 12,false),some (some 12,false),none,none,some (some 17,false),some (some 17,false),some (some 17,false),none,none,some (some 22,false),some (some 22,false),some (some 22,false),none,none,some (some 27,false),some (some 27,false),some (some 27,false),none,none,some (some 32,false),some (some 32,false),some (some 32,false),some (some 32,false),some (some 36,true),some (some 36,true),some (some 36,true),some (some 32,false),none,none,some (some 42,false),some (some 42,false),some (some 42,false),some (some 42,false),some (some 46,true),some (some 46,true),some (some 46,true),some (some 46,true),some (some 42,false),none] [1,52] [(1,0)] h fun ac wd h => ?_
          injection ag with ag; subst ag
          exact ⟨!(decide (a0.M = (TMsg.mk 0 0))),rfl,h.z⟩
        ·
         have ao := L_ref07_bare_ok al
         refine qeg [factE 16 ao] [none,none,none,none,some (some 12,false),some (some 12,false),some (some 12,false),none,none,some (some 17,false),some (some 17,false),some (some 17,false),none,none,some (some 22,false),some (some 22,false),some (some 22,false),none,none,some (some 27,false),some (some 27,false),some (some 27,false),none,none,some (some 32,false),some (some 32,false),some (some 32,false),some (some 32,false),some (some 36,true),some (some 36,true),some (some 36,true),some (some 32,false),none,none,some (some 42,false),some (some 42,false),some (some 42,false),some (some 42,false),some (some 46,true),some (some 46,true),some (some 46,true),some (some 46,true),some (some 42,false),none] [1,52] [(1,0)] h fun ac wd h => ?_
         injection ag with ag; subst ag
         exact ⟨false,rfl,h.z⟩
     ·
      have ao := L_ref07_bare_ok al
      refine qeg [factE 16 ao] [none,none,none,none,some (some 12,false),some (some 12,false),some (some 12,false),none,none,some (some 17,false),some (some 17,false),some (some 17,false),none,none,some (some 22,false),some (some 22,false),some (some 22,false),none,none,some (some 27,false),some (some 27,false),some (some 27,false),none,none,some (some 32,false),some (some 32,false),some (some 32,false),some (some 32,false),some (some 36,true),some (some 36,true),some (some 36,true),some (some 32,false),none,none,some (some 42,false),some (some 42,false),some (some 42,false),some (some 42,false),some (some 46,true),some (some 46,true),some (some 46,true),some (some 46,true),some (some 42,false),none] [1,52] [(1,0)] h fun ac wd h => ?_
      injection ag with ag; subst ag
      exact ⟨true,rfl,h.z⟩
  ·
   rintro ac wd ⟨ah,rfl,h⟩
   (try dsimp only at hD)
   rcases i2b hD with ⟨av,hD⟩ | ⟨av,hD⟩
   ·
    refine kT h ?_
    refine qs 51 [] [2] [] h fun ac wd h => ?_
    refine wp_ret ?_
    injection hD with hD
    subst hD
    exact rE h [.tmp 2]
   ·
    refine kF h ?_
    refine wp_skip ?_
    change Code.wp Try.prog _ _ _ _
    refine wp_seq ?_
    refine qs 53 [] [1,55] [(1,0)] h fun ac wd h => ?_
    rcases i2e hD with ⟨aw,hD⟩ | ⟨aw,hD⟩
    ·
     refine kT h ?_
     obtain ⟨ax,ay,hD⟩ := Option.bind_eq_some_iff.1 hD
     refine r_seqJ (fun ac wd => ∃ (az : Bool),az = ax ∧ SL ⟨wb,S,Φ,P0⟩ 115 82 [(2,.one (.d (.bool az)))] [] ac wd) ?_ ?_
     ·
      rcases i2e ay with ⟨aA,ay⟩ | ⟨aA,ay⟩
      ·
       rcases i2 ay with ⟨aC,ay⟩ | ⟨aC,ay⟩
       ·
        rcases i2 ay with ⟨aD,ay⟩ | ⟨aD,ay⟩
        ·
         rcases i2 ay with ⟨aE,ay⟩ | ⟨aE,ay⟩
         ·
          refine qeg [] [none,none,none,none,none,some (some 60,true),some (some 60,true),some (some 60,true),some (some 60,true),none,none,some (some 66,true),some (some 66,true),some (some 66,true),some (some 66,true),none,none,some (some 72,true),some (some 72,true),some (some 72,true),some (some 72,true),none,none,some (some 78,true),some (some 78,true),some (some 78,true),some (some 78,true),none,none] [2] [] h fun ac wd h => ?_
          injection ay with ay; subst ay
          exact ⟨decide (a0.M.Letter ≤ 3),rfl,h.z⟩
         ·
          refine qeg [] [none,none,none,none,none,some (some 60,true),some (some 60,true),some (some 60,true),some (some 60,true),none,none,some (some 66,true),some (some 66,true),some (some 66,true),some (some 66,true),none,none,some (some 72,true),some (some 72,true),some (some 72,true),some (some 72,true),none,none,some (some 78,true),some (some 78,true),some (some 78,true),some (some 78,true),none,none] [2] [] h fun ac wd h => ?_
          injection ay with ay; subst ay
          exact ⟨false,rfl,h.z⟩
        ·
         refine qeg [] [none,none,none,none,none,some (some 60,true),some (some 60,true),some (some 60,true),some (some 60,true),none,none,some (some 66,true),some (some 66,true),some (some 66,true),some (some 66,true),none,none,some (some 72,true),some (some 72,true),some (some 72,true),some (some 72,true),none,none,some (some 78,true),some (some 78,true),some (some 78,true),some (some 78,true),none,none] [2] [] h fun ac wd h => ?_
         injection ay with ay; subst ay
         exact ⟨false,rfl,h.z⟩
       ·
        refine qeg [] [none,none,none,none,none,some (some 60,true),some (some 60,true),some (some 60,true),some (some 60,true),none,none,some (some 66,true),some (some 66,true),some (some 66,true),some (some 66,true),none,none,some (some 72,true),some (some 72,true),some (some 72,true),some (some 72,true),none,none,some (some 78,true),some (some 78,true),some (some 78,true),some (some 78,true),none,none] [2] [] h fun ac wd h => ?_
        injection ay with ay; subst ay
        exact ⟨false,rfl,h.z⟩
      ·
       refine qeg [] [none,none,none,none,none,some (some 60,true),some (some 60,true),some (some 60,true),some (some 60,true),none,none,some (some 66,true),some (some 66,true),some (some 66,true),some (some 66,true),none,none,some (some 72,true),some (some 72,true),some (some 72,true),some (some 72,true),none,none,some (some 78,true),some (some 78,true),some (some 78,true),some (some 78,true),none,none] [2] [] h fun ac wd h => ?_
       injection ay with ay; subst ay
       exact ⟨false,rfl,h.z⟩
     ·
      rintro ac wd ⟨az,rfl,h⟩
      (try dsimp only at hD)
      refine wp_ret ?_
      injection hD with hD
      subst hD
      exact rE h [.tmp 2]
    ·
     refine kF h ?_
     refine wp_skip ?_
     change Code.wp Try.prog _ _ _ _
     refine wp_seq ?_
     refine qs 56 [] [1,86] [(1,0)] h fun ac wd h => ?_
     rcases i2e hD with ⟨aF,hD⟩ | ⟨aF,hD⟩
     ·
      refine kF h ?_
      refine wp_skip ?_
      change Code.wp Try.prog _ _ _ _
      refine wp_seq ?_
      refine qs 57 [] [1,3] [(1,0)] h fun ac wd h => ?_
      refine wp_block ?_
      refine r_while (fun nf ac wd => ∃ (aG : Int),L_ref07_Right_l1 a0 nf aG = some r ∧ SL ⟨wb,S,Φ,P0⟩ 115 87 [(1,.one (.ptr (1,0) 0)),(3,.one (.d (.int .i64 aG)))] [((1,0),some (.box 76 (cTFrame a0)))] ac wd) (((a0.Pieces.length : Int) - 0).toNat + 1) ⟨0,hD,h.z⟩ (fun nf ac wd hJ => ?_)
      obtain ⟨aG,aH,h⟩ := hJ
      cases nf with
      | zero => rw [L_ref07_Right_l1] at aH; cases aH
      | succ nf =>
       rw [L_ref07_Right_l1] at aH
       refine wp_seq ?_
       refine qs 92 [] [1,3,95] [(1,0)] h fun ac wd h => ?_
       rcases i2 aH with ⟨aI,aH⟩ | ⟨aI,aH⟩
       ·
        refine kT h ?_
        refine wp_skip ?_
        change Code.wp Try.prog _ _ _ _
        refine wp_seq ?_
        refine wp_block ?_
        obtain ⟨aJ,aK,aL,aM,aN,aH⟩ := aB aH
        obtain ⟨aO,aP,aH⟩ := oB aH
        have aQ := L_ref06_Right_ok aP
        refine qs 99 [factE 97 aQ] [1,3,104] [(1,0)] h fun ac wd h => ?_
        rcases i2b aH with ⟨aR,aH⟩ | ⟨aR,aH⟩
        ·
         refine kF h ?_
         refine wp_skip ?_
         change Code.wp Try.prog _ _ _ _
         refine qe [] [1,3] [(1,0)] h fun ac wd h => ?_
         exact ⟨nf,Nat.lt_succ_self nf,(IntKind.wrap .i64 (aG + 1)),aH,h.z⟩
        ·
         refine kT h ?_
         refine qs 100 [] [2] [] h fun ac wd h => ?_
         refine wp_ret ?_
         injection aH with aH
         subst aH
         exact rE h [.tmp 2]
       ·
        refine kF h ?_
        refine wp_exit ?_
        change Code.wp Try.prog _ _ _ _
        obtain ⟨aS,aT,aH⟩ := Option.bind_eq_some_iff.1 aH
        refine r_seqJ (fun ac wd => ∃ (aU : Bool),aU = aS ∧ SL ⟨wb,S,Φ,P0⟩ 115 103 [(2,.one (.d (.bool aU)))] [] ac wd) ?_ ?_
        ·
         rcases i2 aT with ⟨aV,aT⟩ | ⟨aV,aT⟩
         ·
          refine qeg [] [none,none,none,none,none,some (some 109,true),some (some 109,true),some (some 109,true),some (some 109,true),none,none] [2] [] h fun ac wd h => ?_
          injection aT with aT; subst aT
          exact ⟨decide ((a0.Pieces.length : Int) ≤ 6),rfl,h.z⟩
         ·
          refine qeg [] [none,none,none,none,none,some (some 109,true),some (some 109,true),some (some 109,true),some (some 109,true),none,none] [2] [] h fun ac wd h => ?_
          injection aT with aT; subst aT
          exact ⟨false,rfl,h.z⟩
        ·
         rintro ac wd ⟨aU,rfl,h⟩
         (try dsimp only at aH)
         refine wp_ret ?_
         injection aH with aH
         subst aH
         exact rE h [.tmp 2]
     ·
      refine kT h ?_
      refine qs 61 [] [2] [] h fun ac wd h => ?_
      refine wp_ret ?_
      injection hD with hD
      subst hD
      exact rE h [.tmp 2]

theorem L_graph_Full_own {a0 : Int} {r : TGraph} (hD : L_graph_Full a0 = some r) :
  CallH Try.prog 58 [.one (.d (.int .i64 a0))] []
   (.agg [.d (.int .i64 r.N),.own (1,0) r.Links.length]) [((1,0),some (.row 126 2 (dat (List.map eA2I r.Links))))] := by
 unfold L_graph_Full at hD
 refine rc Try.func58 rfl Try.ntmps58 fun S Φ P0 wb ac h => ?_
 refine qs 2 [] [0,2] [(1,0)] h fun ac wd h => ?_
 refine qs 8 [] [2,3] [(1,0),(6,0)] h fun ac wd h => ?_
 refine wp_seq ?_
 refine qs 11 [] [2,3,11,12] [(1,0),(6,0)] h fun ac wd h => ?_
 refine wp_block ?_
 have h := SL.bornB h (6,0) 1 126 2 (by simp only [EZ,simprocAttr, *] <;> rfl) (by simp only [EZ,simprocAttr, *] <;> rfl)
 refine r_while (fun nf ac wd => ∃ (aa : Int) (ab : List A2I),L_graph_Full_l1 a0 nf aa ab = some r ∧ SL ⟨wb,S,Φ,P0⟩ 34 105 [(2,.one (.ptr (1,0) 0)),(3,.one (.ptr (6,0) 0)),(11,.one (.d (.int .i64 (min (max a0 1) 6)))),(12,.one (.d (.int .i64 aa)))] [((1,0),some (.box 25 [.d (.int .i64 0),.nil])),((6,0),some (.box 25 [.d (.int .i64 (min (max a0 1) 6)),.own (11,0) ab.length])),((11,0),some (.row 126 2 (dat (List.map eA2I ab))))] ac wd) (((min (max a0 1) 6) - 0).toNat + 1) ⟨0,([] : List A2I),hD,h.z⟩ (fun nf ac wd hJ => ?_)
 obtain ⟨aa,ab,ad,h⟩ := hJ
 cases nf with
 | zero => rw [L_graph_Full_l1] at ad; cases ad
 | succ nf =>
  rw [L_graph_Full_l1] at ad
  refine qs 106 [] [2,3,11,12,13] [(1,0),(6,0),(11,0)] h fun ac wd h => ?_
  refine wp_seq ?_
  rcases i2 ad with ⟨ae,ad⟩ | ⟨ae,ad⟩
  ·
   refine kT h ?_
   refine wp_skip ?_
   change Code.wp Try.prog _ _ _ _
   obtain ⟨af,ag,ad⟩ := Option.bind_eq_some_iff.1 ad
   refine r_seqJ (fun ac wd => ∃ (ah : List A2I),ah = af ∧ SL ⟨wb,S,Φ,P0⟩ 34 146 [(2,.one (.ptr (1,0) 0)),(3,.one (.ptr (6,0) 0)),(11,.one (.d (.int .i64 (min (max a0 1) 6)))),(12,.one (.d (.int .i64 aa)))] [((1,0),some (.box 25 [.d (.int .i64 0),.nil])),((6,0),some (.box 25 [.d (.int .i64 (min (max a0 1) 6)),.own (11,0) ah.length])),((11,0),some (.row 126 2 (dat (List.map eA2I ah))))] ac wd) ?_ ?_
   ·
    refine wp_block ?_
    refine qs 108 [] [2,3,4,11,12] [(1,0),(6,0),(11,0)] h fun ac wd h => ?_
    refine qs 111 [] [2,3,4,11,12,16,17] [(1,0),(6,0),(11,0)] h fun ac wd h => ?_
    obtain ⟨ai,aj,ag⟩ := Option.bind_eq_some_iff.1 ag
    refine r_meetQ (fun ac wd => ∃ (ak : List A2I),ak = ai ∧ SL ⟨wb,S,Φ,P0⟩ 34 146 [(2,.one (.ptr (1,0) 0)),(3,.one (.ptr (6,0) 0)),(11,.one (.d (.int .i64 (min (max a0 1) 6)))),(12,.one (.d (.int .i64 aa)))] [((1,0),some (.box 25 [.d (.int .i64 0),.nil])),((6,0),some (.box 25 [.d (.int .i64 (min (max a0 1) 6)),.own (11,0) ak.length])),((11,0),some (.row 126 2 (dat (List.map eA2I ak))))] ac wd) ?_ ?_
    ·
     refine wp_block ?_
     refine r_while (fun nf ac wd => ∃ (al : Int) (am : List A2I),L_graph_Full_l2 a0 aa nf al am = some ai ∧ SL ⟨wb,S,Φ,P0⟩ 34 145 [(2,.one (.ptr (1,0) 0)),(3,.one (.ptr (6,0) 0)),(4,.one (.d (.int .i64 aa))),(11,.one (.d (.int .i64 (min (max a0 1) 6)))),(12,.one (.d (.int .i64 aa))),(16,.one (.d (.int .i64 (min (max a0 1) 6)))),(17,.one (.d (.int .i64 al)))] [((1,0),some (.box 25 [.d (.int .i64 0),.nil])),((6,0),some (.box 25 [.d (.int .i64 (min (max a0 1) 6)),.own (11,0) am.length])),((11,0),some (.row 126 2 (dat (List.map eA2I am))))] ac wd) (((min (max a0 1) 6) - 0).toNat + 1) ⟨0,ab,aj,h.z⟩ (fun nf ac wd hJ => ?_)
     obtain ⟨al,am,an,h⟩ := hJ
     cases nf with
     | zero => rw [L_graph_Full_l2] at an; cases an
     | succ nf =>
      rw [L_graph_Full_l2] at an
      refine qs 146 [] [2,3,4,11,12,16,17,18] [(1,0),(6,0),(11,0)] h fun ac wd h => ?_
      refine wp_seq ?_
      rcases i2 an with ⟨ao,an⟩ | ⟨ao,an⟩
      ·
       refine kT h ?_
       refine wp_skip ?_
       change Code.wp Try.prog _ _ _ _
       obtain ⟨ap,aq,an⟩ := Option.bind_eq_some_iff.1 an
       refine r_seqJ (fun ac wd => ∃ (ar : List A2I),ar = ap ∧ SL ⟨wb,S,Φ,P0⟩ 34 160 [(2,.one (.ptr (1,0) 0)),(3,.one (.ptr (6,0) 0)),(4,.one (.d (.int .i64 aa))),(11,.one (.d (.int .i64 (min (max a0 1) 6)))),(12,.one (.d (.int .i64 aa))),(16,.one (.d (.int .i64 (min (max a0 1) 6)))),(17,.one (.d (.int .i64 al)))] [((1,0),some (.box 25 [.d (.int .i64 0),.nil])),((6,0),some (.box 25 [.d (.int .i64 (min (max a0 1) 6)),.own (11,0) ar.length])),((11,0),some (.row 126 2 (dat (List.map eA2I ar))))] ac wd) ?_ ?_
       ·
        refine wp_block ?_
        refine qs 148 [] [2,3,4,5,11,12,16,17] [(1,0),(6,0),(11,0)] h fun ac wd h => ?_
        refine qs 151 [] [2,3,4,5,11,12,16,17,22] [(1,0),(6,0),(11,0)] h fun ac wd h => ?_
        rcases i2e aq with ⟨au,aq⟩ | ⟨au,aq⟩
        ·
         refine kF h ?_
         refine wp_skip ?_
         injection aq with aq; subst aq
         exact ⟨am,rfl,h.z⟩
        ·
         refine kT h ?_
         obtain ⟨av,aq⟩ := iT aq
         refine qe [] [2,3,4,11,12,16,17] [(1,0),(6,0),(157,0)] h fun ac wd h => ?_
         have h := h.sw (11,0) (157,0) 160
         injection aq with aq; subst aq
         exact ⟨(am ++ [(A2I.mk aa al)]),rfl,h.z⟩
       ·
        rintro ac wd ⟨ar,rfl,h⟩
        (try dsimp only at an)
        refine qe [] [2,3,4,11,12,16,17] [(1,0),(6,0),(11,0)] h fun ac wd h => ?_
        exact ⟨nf,Nat.lt_succ_self nf,(IntKind.wrap .i64 (al + 1)),ar,an,h.z⟩
      ·
       refine kF h ?_
       refine wp_exit ?_
       injection an with an; subst an
       exact ⟨am,rfl,h.z⟩
    ·
     rintro ac wd ⟨ak,rfl,h⟩
     (try dsimp only at ag)
     injection ag with ag; subst ag
     exact ⟨ak,rfl,h.z⟩
   ·
    rintro ac wd ⟨ah,rfl,h⟩
    (try dsimp only at ad)
    refine qe [] [2,3,11,12] [(1,0),(6,0),(11,0)] h fun ac wd h => ?_
    exact ⟨nf,Nat.lt_succ_self nf,(IntKind.wrap .i64 (aa + 1)),ah,ad,h.z⟩
  ·
   refine kF h ?_
   refine wp_exit ?_
   change Code.wp Try.prog _ _ _ _
   refine qs 108 [] [2] [(1,0),(11,0)] h fun ac wd h => ?_
   refine wp_ret ?_
   have h := h.sw (1,0) (11,0) 108
   injection ad with ad
   subst ad
   exact rO h [.cell 2 25] [(1,0)]
theorem L_graph_Full_ok {a0 : Int} {r : TGraph} (hD : L_graph_Full a0 = some r) :
  CallH Try.prog 58 [.one (.d (.int .i64 a0))] []
   (.agg [.d (.int .i64 r.N),.d (.sl (List.map eA2I r.Links))]) [] :=
 (L_graph_Full_own hD).fr

theorem L_law15_wait_own {a0 : Int} {r : TNode} (hD : L_law15_wait a0 = some r) :
  CallH Try.prog 108 [.one (.d (.int .i64 a0))] []
   (.agg [.d (.int .i64 r.Start),.own (1,0) r.States.length]) [((1,0),some (.row 43 4 (openRows cols_43 (List.map eTState r.States))))] := by
 unfold L_law15_wait at hD
 refine rc Try.func108 rfl Try.ntmps108 fun S Φ P0 wb ac h => ?_
 refine qs 2 [] [0,2] [(1,0)] h fun ac wd h => ?_
 refine qs 8 [] [2] [(1,0),(3,0),(5,0)] h fun ac wd h => ?_
 have h := h.nilTr (5,0) (l := [[.d (.int .i64 2),.own (3,0) 1,.nil,.nil]]) (l' := [[.d (.int .i64 2),.own (3,0) 1,.tr (.sl 46 2 cols_46) (.sl (List.map eTPick [])),.tr (.sl 48 3 (fun _ => .sc)) (.sl (List.map eTTake []))]]) (by simp only [EZ,simprocAttr] <;> rfl) (RowsTo.cons (RowTo.cons (.inl rfl) (RowTo.cons (.inl rfl) (RowTo.cons (.inr (.inr ⟨rfl,_,_,_,rfl⟩)) (RowTo.cons (.inr (.inr ⟨rfl,_,_,_,rfl⟩)) RowTo.nil)))) (RowsTo.refl []))
 have h := h.sm 8 [(2,.one (.ptr (1,0) 0))]
  [((1,0),some (.box 38 [.d (.int .i64 0),.own (5,0) 1])),((3,0),some (.row 3 1 (dat (List.map eI [a0])))),((5,0),some (.row 43 4 ([[.d (.int .i64 2),.own (3,0) 1,.tr (.sl 46 2 cols_46) (.sl (List.map eTPick [])),.tr (.sl 48 3 (fun _ => .sc)) (.sl (List.map eTTake []))]])))]
 have h := h.fL (cols := (fun _ => .sc)) (5,0) (3,0) ([]) [.d (.int .i64 2),.own (3,0) 1,.tr (.sl 46 2 cols_46) (.sl (List.map eTPick [])),.tr (.sl 48 3 (fun _ => .sc)) (.sl (List.map eTTake []))] 1 (List.map eI [a0]) (sc_3 _)
 have h := h.sm 8 [(2,.one (.ptr (1,0) 0))]
  [((1,0),some (.box 38 [.d (.int .i64 0),.own (5,0) 1])),((5,0),some (.row 43 4 ([[.d (.int .i64 2),.tr (.sl 3 1 (fun _ => .sc)) (.sl (List.map eI [a0])),.tr (.sl 46 2 cols_46) (.sl (List.map eTPick [])),.tr (.sl 48 3 (fun _ => .sc)) (.sl (List.map eTTake []))]])))]
 refine wp_ret ?_
 have h := h.sw (1,0) (5,0) 8
 injection hD with hD
 subst hD
 exact rO h [.cell 2 38] [(1,0)]
theorem L_law15_wait_ok {a0 : Int} {r : TNode} (hD : L_law15_wait a0 = some r) :
  CallH Try.prog 108 [.one (.d (.int .i64 a0))] []
   (.agg [.d (.int .i64 r.Start),.d (.sl (List.map eTState r.States))]) [] :=
 (L_law15_wait_own hD).fr

theorem L_law15_Dead_own {r : TApp} (hD : L_law15_Dead = some r) :
  CallH Try.prog 70 [] []
   (.agg [.d (.int .i64 r.G.N),.own (1,0) r.G.Links.length,.own (1,1) r.T.length,.d (.bool r.Fifo)]) [((1,0),some (.row 126 2 (dat (List.map eA2I r.G.Links)))),((1,1),some (.row 38 2 (dat (List.map eTNode r.T))))] := by
 unfold L_law15_Dead at hD
 refine rc Try.func70 rfl Try.ntmps70 fun S Φ P0 wb ac h => ?_
 refine qs 2 [] [0] [(1,0)] h fun ac wd h => ?_
 obtain ⟨aa,ab,hD⟩ := oB hD
 obtain ⟨ad,ae,hD⟩ := oB hD
 obtain ⟨af,ag,hD⟩ := oB hD
 have ah := ((L_graph_Full_own ab).cls 2).z
 have ai := L_law15_wait_ok ae
 have aj := L_law15_wait_ok ag
 have aj := L_law15_wait_ok ag
 refine qs 9 [factO ah,factE 3 ai,factE 4 aj,factE 5 aj] [0] [(1,0),(2,0),(6,0)] h fun ac wd h => ?_
 refine wp_ret ?_
 have h := h.sw (1,0) (2,0) 9
 have h := h.sw (1,1) (6,0) 9
 injection hD with hD
 subst hD
 exact rO h [.cell 0 53] [(1,0),(1,1)]
theorem L_law15_Dead_ok {r : TApp} (hD : L_law15_Dead = some r) :
  CallH Try.prog 70 [] []
   (.agg [.d (.int .i64 r.G.N),.d (.sl (List.map eA2I r.G.Links)),.d (.sl (List.map eTNode r.T)),.d (.bool r.Fifo)]) [] :=
 (L_law15_Dead_own hD).fr

theorem L_graph_of_v1_own {a0 : TGraph} {a1 : Int} {r : (List Int)} (hD : L_graph_of_v1 a0 a1 = some r) :
  CallH Try.prog 113 [.agg (cTGraph a0),.one (.d (.int .i64 a1)),.one (.d (.int .i64 1))] []
   (.one (.own (1,0) r.length)) [((1,0),some (.row 3 1 (dat (List.map eI r))))] := by
 unfold L_graph_of_v1 at hD
 refine rc Try.func113 rfl Try.ntmps113 fun S Φ P0 wb ac h => ?_
 refine qs 3 [] [1,2,3] [(1,0)] h fun ac wd h => ?_
 refine qs 4 [] [1,2,3,7] [(1,0)] h fun ac wd h => ?_
 refine wp_seq ?_
 refine qs 8 [] [1,2,7,11,12,13] [] h fun ac wd h => ?_
 refine wp_block ?_
 have h := SL.bornS h 7 3 1 (by simp only [EZ,simprocAttr, *] <;> rfl)
 refine r_while (fun nf ac wd => ∃ (aa : Int) (ab : List Int),L_graph_of_v1_l1 a0 a1 nf aa ab = some r ∧ SL ⟨wb,S,Φ,P0⟩ 29 46 [(1,.one (.d (.int .i64 a1))),(2,.one (.d (.int .i64 1))),(7,.one (.own (8,0) ab.length)),(11,.one (.d (.sl (List.map eA2I a0.Links)))),(12,.one (.d (.int .i64 (a0.Links.length : Int)))),(13,.one (.d (.int .i64 aa)))] [((8,0),some (.row 3 1 (dat (List.map eI ab))))] ac wd) (((a0.Links.length : Int) - 0).toNat + 1) ⟨0,([] : List Int),hD,h.z⟩ (fun nf ac wd hJ => ?_)
 obtain ⟨aa,ab,ad,h⟩ := hJ
 cases nf with
 | zero => rw [L_graph_of_v1_l1] at ad; cases ad
 | succ nf =>
  rw [L_graph_of_v1_l1] at ad
  refine qs 47 [] [1,2,7,11,12,13,14] [(8,0)] h fun ac wd h => ?_
  refine wp_seq ?_
  rcases i2 ad with ⟨ae,ad⟩ | ⟨ae,ad⟩
  ·
   refine kT h ?_
   refine wp_skip ?_
   change Code.wp Try.prog _ _ _ _
   obtain ⟨af,ag,ad⟩ := Option.bind_eq_some_iff.1 ad
   refine r_seqJ (fun ac wd => ∃ (ah : List Int),ah = af ∧ SL ⟨wb,S,Φ,P0⟩ 29 63 [(1,.one (.d (.int .i64 a1))),(2,.one (.d (.int .i64 1))),(7,.one (.own (61,0) ah.length)),(11,.one (.d (.sl (List.map eA2I a0.Links)))),(12,.one (.d (.int .i64 (a0.Links.length : Int)))),(13,.one (.d (.int .i64 aa)))] [((61,0),some (.row 3 1 (dat (List.map eI ah))))] ac wd) ?_ ?_
   ·
    refine wp_block ?_
    obtain ⟨ai,aj,ak,al,am,ag⟩ := aB ag
    refine qs 53 [] [1,2,7,8,9,11,12,13] [(8,0),(50,0)] h fun ac wd h => ?_
    refine qs 58 [] [1,2,7,8,11,12,13,22] [(8,0)] h fun ac wd h => ?_
    rcases i2e ag with ⟨an,ag⟩ | ⟨an,ag⟩
    ·
     refine kT h ?_
     obtain ⟨ao,ag⟩ := iT ag
     refine qe [] [1,2,7,11,12,13] [(61,0)] h fun ac wd h => ?_
     injection ag with ag; subst ag
     exact ⟨(ab ++ [aa]),rfl,h.z⟩
    ·
     refine kF h ?_
     refine wp_skip ?_
     have h := h.sw (61,0) (8,0) 63
     injection ag with ag; subst ag
     exact ⟨ab,rfl,h.z⟩
   ·
    rintro ac wd ⟨ah,rfl,h⟩
    (try dsimp only at ad)
    refine qe [] [1,2,7,11,12,13] [(61,0)] h fun ac wd h => ?_
    have h := h.sw (8,0) (61,0) 65
    exact ⟨nf,Nat.lt_succ_self nf,(IntKind.wrap .i64 (aa + 1)),ah,ad,h.z⟩
  ·
   refine kF h ?_
   refine wp_exit ?_
   change Code.wp Try.prog _ _ _ _
   refine qs 49 [] [6] [(8,0)] h fun ac wd h => ?_
   refine wp_ret ?_
   have h := h.sw (1,0) (8,0) 49
   injection ad with ad
   subst ad
   exact rO h [.tmp 6] [(1,0)]
theorem L_graph_of_v1_ok {a0 : TGraph} {a1 : Int} {r : (List Int)} (hD : L_graph_of_v1 a0 a1 = some r) :
  CallH Try.prog 113 [.agg (cTGraph a0),.one (.d (.int .i64 a1)),.one (.d (.int .i64 1))] []
   (.one (.d (.sl (List.map eI r)))) [] :=
 (L_graph_of_v1_own hD).fr

theorem L_graph_In_own {a0 : TGraph} {a1 : Int} {r : (List Int)} (hD : L_graph_In a0 a1 = some r) :
  CallH Try.prog 77 [.agg (cTGraph a0),.one (.d (.int .i64 a1))] []
   (.one (.own (1,0) r.length)) [((1,0),some (.row 3 1 (dat (List.map eI r))))] := by
 unfold L_graph_In at hD
 refine rc Try.func77 rfl Try.ntmps77 fun S Φ P0 wb ac h => ?_
 refine qs 3 [] [1,2] [(1,0)] h fun ac wd h => ?_
 obtain ⟨r7,ab,hD⟩ := oB hD
 have ad := ((L_graph_of_v1_own ab).cls 5).z
 refine qs 7 [factO ad] [4] [(5,0)] h fun ac wd h => ?_
 refine wp_ret ?_
 have h := h.sw (1,0) (5,0) 7
 injection hD with hD
 subst hD
 exact rO h [.tmp 4] [(1,0)]
theorem L_graph_In_ok {a0 : TGraph} {a1 : Int} {r : (List Int)} (hD : L_graph_In a0 a1 = some r) :
  CallH Try.prog 77 [.agg (cTGraph a0),.one (.d (.int .i64 a1))] []
   (.one (.d (.sl (List.map eI r)))) [] :=
 (L_graph_In_own hD).fr

theorem L_graph_of_v2_own {a0 : TGraph} {a1 : Int} {r : (List Int)} (hD : L_graph_of_v2 a0 a1 = some r) :
  CallH Try.prog 113 [.agg (cTGraph a0),.one (.d (.int .i64 a1)),.one (.d (.int .i64 0))] []
   (.one (.own (1,0) r.length)) [((1,0),some (.row 3 1 (dat (List.map eI r))))] := by
 unfold L_graph_of_v2 at hD
 refine rc Try.func113 rfl Try.ntmps113 fun S Φ P0 wb ac h => ?_
 refine qs 3 [] [1,2,3] [(1,0)] h fun ac wd h => ?_
 refine qs 4 [] [1,2,3,7] [(1,0)] h fun ac wd h => ?_
 refine wp_seq ?_
 refine qs 8 [] [1,2,7,11,12,13] [] h fun ac wd h => ?_
 refine wp_block ?_
 have h := SL.bornS h 7 3 1 (by simp only [EZ,simprocAttr, *] <;> rfl)
 refine r_while (fun nf ac wd => ∃ (aa : Int) (ab : List Int),L_graph_of_v2_l1 a0 a1 nf aa ab = some r ∧ SL ⟨wb,S,Φ,P0⟩ 29 46 [(1,.one (.d (.int .i64 a1))),(2,.one (.d (.int .i64 0))),(7,.one (.own (8,0) ab.length)),(11,.one (.d (.sl (List.map eA2I a0.Links)))),(12,.one (.d (.int .i64 (a0.Links.length : Int)))),(13,.one (.d (.int .i64 aa)))] [((8,0),some (.row 3 1 (dat (List.map eI ab))))] ac wd) (((a0.Links.length : Int) - 0).toNat + 1) ⟨0,([] : List Int),hD,h.z⟩ (fun nf ac wd hJ => ?_)
 obtain ⟨aa,ab,ad,h⟩ := hJ
 cases nf with
 | zero => rw [L_graph_of_v2_l1] at ad; cases ad
 | succ nf =>
  rw [L_graph_of_v2_l1] at ad
  refine qs 47 [] [1,2,7,11,12,13,14] [(8,0)] h fun ac wd h => ?_
  refine wp_seq ?_
  rcases i2 ad with ⟨ae,ad⟩ | ⟨ae,ad⟩
  ·
   refine kT h ?_
   refine wp_skip ?_
   change Code.wp Try.prog _ _ _ _
   obtain ⟨af,ag,ad⟩ := Option.bind_eq_some_iff.1 ad
   refine r_seqJ (fun ac wd => ∃ (ah : List Int),ah = af ∧ SL ⟨wb,S,Φ,P0⟩ 29 63 [(1,.one (.d (.int .i64 a1))),(2,.one (.d (.int .i64 0))),(7,.one (.own (61,0) ah.length)),(11,.one (.d (.sl (List.map eA2I a0.Links)))),(12,.one (.d (.int .i64 (a0.Links.length : Int)))),(13,.one (.d (.int .i64 aa)))] [((61,0),some (.row 3 1 (dat (List.map eI ah))))] ac wd) ?_ ?_
   ·
    refine wp_block ?_
    obtain ⟨ai,aj,ak,al,am,ag⟩ := aB ag
    refine qs 53 [] [1,2,7,8,9,11,12,13] [(8,0),(50,0)] h fun ac wd h => ?_
    refine qs 58 [] [1,2,7,8,11,12,13,22] [(8,0)] h fun ac wd h => ?_
    rcases i2e ag with ⟨an,ag⟩ | ⟨an,ag⟩
    ·
     refine kT h ?_
     obtain ⟨ao,ag⟩ := iT ag
     refine qe [] [1,2,7,11,12,13] [(61,0)] h fun ac wd h => ?_
     injection ag with ag; subst ag
     exact ⟨(ab ++ [aa]),rfl,h.z⟩
    ·
     refine kF h ?_
     refine wp_skip ?_
     have h := h.sw (61,0) (8,0) 63
     injection ag with ag; subst ag
     exact ⟨ab,rfl,h.z⟩
   ·
    rintro ac wd ⟨ah,rfl,h⟩
    (try dsimp only at ad)
    refine qe [] [1,2,7,11,12,13] [(61,0)] h fun ac wd h => ?_
    have h := h.sw (8,0) (61,0) 65
    exact ⟨nf,Nat.lt_succ_self nf,(IntKind.wrap .i64 (aa + 1)),ah,ad,h.z⟩
  ·
   refine kF h ?_
   refine wp_exit ?_
   change Code.wp Try.prog _ _ _ _
   refine qs 49 [] [6] [(8,0)] h fun ac wd h => ?_
   refine wp_ret ?_
   have h := h.sw (1,0) (8,0) 49
   injection ad with ad
   subst ad
   exact rO h [.tmp 6] [(1,0)]
theorem L_graph_of_v2_ok {a0 : TGraph} {a1 : Int} {r : (List Int)} (hD : L_graph_of_v2 a0 a1 = some r) :
  CallH Try.prog 113 [.agg (cTGraph a0),.one (.d (.int .i64 a1)),.one (.d (.int .i64 0))] []
   (.one (.d (.sl (List.map eI r)))) [] :=
 (L_graph_of_v2_own hD).fr

theorem L_graph_Out_own {a0 : TGraph} {a1 : Int} {r : (List Int)} (hD : L_graph_Out a0 a1 = some r) :
  CallH Try.prog 109 [.agg (cTGraph a0),.one (.d (.int .i64 a1))] []
   (.one (.own (1,0) r.length)) [((1,0),some (.row 3 1 (dat (List.map eI r))))] := by
 unfold L_graph_Out at hD
 refine rc Try.func109 rfl Try.ntmps109 fun S Φ P0 wb ac h => ?_
 refine qs 3 [] [1,2] [(1,0)] h fun ac wd h => ?_
 obtain ⟨r7,ab,hD⟩ := oB hD
 have ad := ((L_graph_of_v2_own ab).cls 5).z
 refine qs 7 [factO ad] [4] [(5,0)] h fun ac wd h => ?_
 refine wp_ret ?_
 have h := h.sw (1,0) (5,0) 7
 injection hD with hD
 subst hD
 exact rO h [.tmp 4] [(1,0)]
theorem L_graph_Out_ok {a0 : TGraph} {a1 : Int} {r : (List Int)} (hD : L_graph_Out a0 a1 = some r) :
  CallH Try.prog 109 [.agg (cTGraph a0),.one (.d (.int .i64 a1))] []
   (.one (.d (.sl (List.map eI r)))) [] :=
 (L_graph_Out_own hD).fr

end Go.Proofs.Ytabbejabdkkaiaa
