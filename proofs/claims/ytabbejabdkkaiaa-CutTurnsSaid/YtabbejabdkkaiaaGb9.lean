/- Functions as typed ones,and that the program's functions answer as these do. No condition. -/
import Derived.Test.YtabbejabdkkaiaaGb6
import Derived.Test.YtabbejabdkkaiaaGd
set_option linter.unusedSimpArgs false
set_option linter.unusedVariables false
set_option maxRecDepth 20000
set_option maxHeartbeats 4000000
namespace Go.Proofs.Ytabbejabdkkaiaa
open Go.RowKit

theorem L_ref05_Msgs_ok {a0 : (List TMsg)} {a1 : (List TMsg)} {r : Bool} (hD : L_ref05_Msgs a0 a1 = some r) :
  CallH Try.prog 94 [.one (.d (.sl (List.map eTMsg a0))),.one (.d (.sl (List.map eTMsg a1)))] []
   (.one (.d (.bool r))) [] := by
 unfold L_ref05_Msgs at hD
 refine rc Try.func94 rfl Try.ntmps94 fun S Φ P0 wb ac h => ?_
 refine qs 2 [] [0,1] [] h fun ac wd h => ?_
 refine wp_seq ?_
 refine qs 7 [] [0,1,10] [] h fun ac wd h => ?_
 rcases i2e hD with ⟨hb155,hD⟩ | ⟨hb155,hD⟩
 ·
  refine kF h ?_
  refine wp_skip ?_
  change Code.wp Try.prog _ _ _ _
  refine wp_seq ?_
  refine qs 8 [] [0,1,5] [] h fun ac wd h => ?_
  refine wp_block ?_
  refine r_while (fun nf ac wd => ∃ (n279 : Int),L_ref05_Msgs_l1 a0 a1 nf n279 = some r ∧ SL ⟨wb,S,Φ,P0⟩ 26 40 [(0,.one (.d (.sl (List.map eTMsg a0)))),(1,.one (.d (.sl (List.map eTMsg a1)))),(5,.one (.d (.int .i64 n279)))] [] ac wd) (((a0.length : Int) - 0).toNat + 1) ⟨0,hD,h.z⟩ (fun nf ac wd hJ => ?_)
  obtain ⟨n279,hL280,h⟩ := hJ
  cases nf with
  | zero => rw [L_ref05_Msgs_l1] at hL280; cases hL280
  | succ nf =>
   rw [L_ref05_Msgs_l1] at hL280
   refine wp_seq ?_
   refine qs 44 [] [0,1,5,14] [] h fun ac wd h => ?_
   rcases i2 hL280 with ⟨hb282,hL280⟩ | ⟨hb282,hL280⟩
   ·
    refine kT h ?_
    refine wp_skip ?_
    change Code.wp Try.prog _ _ _ _
    refine wp_seq ?_
    refine wp_block ?_
    obtain ⟨x299,hx300a,hx300b,hx300c,hx300d,hL280⟩ := aB hL280
    obtain ⟨x301,hx302a,hx302b,hx302c,hx302d,hL280⟩ := aB hL280
    have hz303 := eq_TMsg_vv x299 x301
    refine ds 53 [] [0,1,5,25] [] h fun ac wd h => ?_
    rcases i2e hL280 with ⟨hb304,hL280⟩ | ⟨hb304,hL280⟩
    ·
     refine kF h ?_
     refine wp_skip ?_
     change Code.wp Try.prog _ _ _ _
     refine qe [] [0,1,5] [] h fun ac wd h => ?_
     exact ⟨nf,Nat.lt_succ_self nf,(IntKind.wrap .i64 (n279 + 1)),hL280,h.z⟩
    ·
     refine kT h ?_
     refine qs 54 [] [4] [] h fun ac wd h => ?_
     refine wp_ret ?_
     injection hL280 with hL280
     subst hL280
     exact rE h [.tmp 4]
   ·
    refine kF h ?_
    refine wp_exit ?_
    change Code.wp Try.prog _ _ _ _
    refine qs 45 [] [4] [] h fun ac wd h => ?_
    refine wp_ret ?_
    injection hL280 with hL280
    subst hL280
    exact rE h [.tmp 4]
 ·
  refine kT h ?_
  refine qs 8 [] [4] [] h fun ac wd h => ?_
  refine wp_ret ?_
  injection hD with hD
  subst hD
  exact rE h [.tmp 4]

theorem L_ref05_Same_ok {a0 : TConf} {a1 : TConf} {r : Bool} (hD : L_ref05_Same a0 a1 = some r) :
  CallH Try.prog 48 [.agg (cTConf a0),.agg (cTConf a1)] []
   (.one (.d (.bool r))) [] := by
 unfold L_ref05_Same at hD
 refine rc Try.func48 rfl Try.ntmps48 fun S Φ P0 wb ac h => ?_
 refine qs 4 [] [2,3] [(1,0),(2,0)] h fun ac wd h => ?_
 refine wp_seq ?_
 obtain ⟨e200,hE201,hD⟩ := Option.bind_eq_some_iff.1 hD
 refine r_seqJ (fun ac wd => ∃ (b199 : Bool),b199 = e200 ∧ SL ⟨wb,S,Φ,P0⟩ 48 27 [(2,.one (.ptr (1,0) 0)),(3,.one (.ptr (2,0) 0)),(28,.one (.d (.bool b199)))] [((1,0),some (.box 101 (cTConf a0))),((2,0),some (.box 101 (cTConf a1)))] ac wd) ?_ ?_
 ·
  obtain ⟨r202,hc203,hE201⟩ := oB hE201
  rcases i2b hE201 with ⟨hb204,hE201⟩ | ⟨hb204,hE201⟩
  ·
   obtain ⟨r205,hc206,hE201⟩ := oB hE201
   rcases i2b hE201 with ⟨hb207,hE201⟩ | ⟨hb207,hE201⟩
   ·
    have hc203k := L_ref01_Ints_ok hc203
    have hc206k := L_ref01_Ints_ok hc206
    refine qeg [factE 8 hc203k,factE 15 hc206k] [none,none,none,none,none,none,none,some (some 12,false),some (some 12,false),some (some 12,false),some (some 12,false),some (some 12,false),some (some 12,false),none,none,some (some 20,false),some (some 20,false),some (some 20,false),some (some 20,false),some (some 20,false),some (some 20,false),some (some 20,false),none] [2,3,28] [(1,0),(2,0)] h fun ac wd h => ?_
    injection hE201 with hE201; subst hE201
    exact ⟨!(decide ((a0.Links.length : Int) = (a1.Links.length : Int))),rfl,h.z⟩
   ·
    have hc203k := L_ref01_Ints_ok hc203
    have hc206k := L_ref01_Ints_ok hc206
    refine qeg [factE 8 hc203k,factE 15 hc206k] [none,none,none,none,none,none,none,some (some 12,false),some (some 12,false),some (some 12,false),some (some 12,false),some (some 12,false),some (some 12,false),none,none,some (some 20,false),some (some 20,false),some (some 20,false),some (some 20,false),some (some 20,false),some (some 20,false),some (some 20,false),none] [2,3,28] [(1,0),(2,0)] h fun ac wd h => ?_
    injection hE201 with hE201; subst hE201
    exact ⟨true,rfl,h.z⟩
  ·
   have hc203k := L_ref01_Ints_ok hc203
   refine qeg [factE 8 hc203k] [none,none,none,none,none,none,none,some (some 12,false),some (some 12,false),some (some 12,false),some (some 12,false),some (some 12,false),some (some 12,false),none,none,some (some 20,false),some (some 20,false),some (some 20,false),some (some 20,false),some (some 20,false),some (some 20,false),some (some 20,false),none] [2,3,28] [(1,0),(2,0)] h fun ac wd h => ?_
   injection hE201 with hE201; subst hE201
   exact ⟨true,rfl,h.z⟩
 ·
  rintro ac wd ⟨b199,rfl,h⟩
  (try dsimp only at hD)
  rcases i2b hD with ⟨hb209,hD⟩ | ⟨hb209,hD⟩
  ·
   refine kT h ?_
   refine qs 28 [] [4] [] h fun ac wd h => ?_
   refine wp_ret ?_
   injection hD with hD
   subst hD
   exact rE h [.tmp 4]
  ·
   refine kF h ?_
   refine wp_skip ?_
   change Code.wp Try.prog _ _ _ _
   refine wp_seq ?_
   refine qs 28 [] [2,3,5] [(1,0),(2,0)] h fun ac wd h => ?_
   refine wp_block ?_
   refine r_while (fun nf ac wd => ∃ (n353 : Int),L_ref05_Same_l1 a0 a1 nf n353 = some r ∧ SL ⟨wb,S,Φ,P0⟩ 48 68 [(2,.one (.ptr (1,0) 0)),(3,.one (.ptr (2,0) 0)),(5,.one (.d (.int .i64 n353)))] [((1,0),some (.box 101 (cTConf a0))),((2,0),some (.box 101 (cTConf a1)))] ac wd) (((a0.Links.length : Int) - 0).toNat + 1) ⟨0,hD,h.z⟩ (fun nf ac wd hJ => ?_)
   obtain ⟨n353,hL354,h⟩ := hJ
   cases nf with
   | zero => rw [L_ref05_Same_l1] at hL354; cases hL354
   | succ nf =>
    rw [L_ref05_Same_l1] at hL354
    refine wp_seq ?_
    refine qs 73 [] [2,3,5,33] [(1,0),(2,0)] h fun ac wd h => ?_
    rcases i2 hL354 with ⟨hb356,hL354⟩ | ⟨hb356,hL354⟩
    ·
     refine kT h ?_
     refine wp_skip ?_
     change Code.wp Try.prog _ _ _ _
     refine wp_seq ?_
     refine wp_block ?_
     obtain ⟨x376,hx377a,hx377b,hx377c,hx377d,hL354⟩ := aB hL354
     obtain ⟨x378,hx379a,hx379b,hx379c,hx379d,hL354⟩ := aB hL354
     obtain ⟨r380,hc381,hL354⟩ := oB hL354
     have hc381k := L_ref05_Msgs_ok hc381
     refine ds 85 [factE 83 hc381k] [2,3,5,47] [(1,0),(2,0)] h fun ac wd h => ?_
     rcases i2b hL354 with ⟨hb382,hL354⟩ | ⟨hb382,hL354⟩
     ·
      refine kF h ?_
      refine wp_skip ?_
      change Code.wp Try.prog _ _ _ _
      refine qe [] [2,3,5] [(1,0),(2,0)] h fun ac wd h => ?_
      exact ⟨nf,Nat.lt_succ_self nf,(IntKind.wrap .i64 (n353 + 1)),hL354,h.z⟩
     ·
      refine kT h ?_
      refine qs 86 [] [4] [] h fun ac wd h => ?_
      refine wp_ret ?_
      injection hL354 with hL354
      subst hL354
      exact rE h [.tmp 4]
    ·
     refine kF h ?_
     refine wp_exit ?_
     change Code.wp Try.prog _ _ _ _
     refine qs 74 [] [4] [] h fun ac wd h => ?_
     refine wp_ret ?_
     injection hL354 with hL354
     subst hL354
     exact rE h [.tmp 4]

end Go.Proofs.Ytabbejabdkkaiaa
