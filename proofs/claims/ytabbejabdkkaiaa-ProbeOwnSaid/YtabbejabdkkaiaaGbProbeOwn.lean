/- Functions as typed ones,and that the program's functions answer as these do. No condition. -/
import Derived.Test.YtabbejabdkkaiaaGb8
import Derived.Test.YtabbejabdkkaiaaGb9
import Derived.Test.YtabbejabdkkaiaaGdProbeOwn
set_option linter.unusedSimpArgs false
set_option linter.unusedVariables false
set_option maxRecDepth 20000
set_option maxHeartbeats 4000000
namespace Go.Proofs.Ytabbejabdkkaiaa
open Go.RowKit

theorem iO {α β : Type} {o : Option α} {f : α → Option β} {y : Option β} {b : β} (h : oE o f y = some b) : (∃ r,o = some r ∧ f r = some b) ∨ y = some b := by
 cases o with
 | some r => exact .inl ⟨r,rfl,h⟩
 | none => exact .inr h
theorem L_law16_ProbeOwn_ok {a0 : TApp} {a1 : THost} {a2 : THeard} {r : Bool} (hD : L_law16_ProbeOwn a0 a1 a2 = some r) :
  CallH Try.prog 7 [.agg (cTApp a0),.agg (cTHost a1),.agg (cTHeard a2)] []
   (.one (.d (.bool r))) [] := by
 unfold L_law16_ProbeOwn at hD
 refine rc Try.func7 rfl Try.ntmps7 fun S Φ P0 wb ac h => ?_
 refine qs 5 [] [3,4,5] [(1,0),(2,0),(3,0)] h fun ac wd h => ?_
 obtain ⟨aa,ab,hD⟩ := oB hD
 have ad := L_law05_Cut_ok ab
 refine qs 8 [factE 6 ad] [3,4,5] [(1,0),(2,0),(3,0)] h fun ac wd h => ?_
 obtain ⟨ae,af,hD⟩ := oB hD
 have ag := L_law07_Cut_ok af
 refine qs 13 [factE 10 ag] [3,4,5,7] [(1,0),(2,0),(3,0),(11,0)] h fun ac wd h => ?_
 obtain ⟨ah,hD⟩ := iT hD
 obtain ⟨ai,hD⟩ := iT hD
 obtain ⟨aj,ak,hD⟩ := vB hD
 obtain ⟨al,hD⟩ := iT hD
 refine qs 23 [] [3,4,5,7,8] [(1,0),(2,0),(3,0),(11,0),(21,0)] h fun ac wd h => ?_
 refine wp_seq ?_
 obtain ⟨am,an,hD⟩ := Option.bind_eq_some_iff.1 hD
 refine r_seqJ (fun ac wd => ∃ (ao : Bool),ao = am ∧ SL ⟨wb,S,Φ,P0⟩ 159 40 [(3,.one (.ptr (1,0) 0)),(4,.one (.ptr (2,0) 0)),(5,.one (.ptr (3,0) 0)),(7,.one (.ptr (11,0) 0)),(8,.one (.own (21,0) aj.length)),(50,.one (.d (.bool ao)))] [((1,0),some (.box 53 (cTApp aa))),((2,0),some (.box 57 (cTHost a1))),((3,0),some (.box 64 (cTHeard a2))),((11,0),some (.box 62 (cTFrame ae))),((21,0),some (.row 3 1 (dat (List.map eI aj))))] ac wd) ?_ ?_
 ·
  obtain ⟨ap,aq,an⟩ := oB an
  obtain ⟨ar,au,an⟩ := oB an
  obtain ⟨av,aw,an⟩ := oB an
  rcases i2b an with ⟨ax,an⟩ | ⟨ax,an⟩
  ·
   rcases i2e an with ⟨ay,an⟩ | ⟨ay,an⟩
   ·
    obtain ⟨az,aA,an⟩ := oB an
    obtain ⟨aC,aD,an⟩ := oB an
    have aE := L_law05_App_ok aq
    have aF := L_law09_Ref_ok au
    have aG := L_ref09_Right_ok aw
    have aH := L_law07_Ref_ok aA
    have aI := L_ref07_Right_ok aD
    refine deg [factE 24 aE,factE 26 aF,factE 27 aG,factE 36 aH,factE 37 aI] [none,none,none,none,none,none,none,some (some 40,false),some (some 40,false),some (some 40,false),none,none,some (some 45,false),some (some 45,false),some (some 45,false),some (some 45,false),none] [3,4,5,7,8,50] [(1,0),(2,0),(3,0),(11,0),(21,0)] h fun ac wd h => ?_
    injection an with an; subst an
    exact ⟨!(aC),rfl,h.z⟩
   ·
    have aE := L_law05_App_ok aq
    have aF := L_law09_Ref_ok au
    have aG := L_ref09_Right_ok aw
    refine deg [factE 24 aE,factE 26 aF,factE 27 aG] [none,none,none,none,none,none,none,some (some 40,false),some (some 40,false),some (some 40,false),none,none,some (some 45,false),some (some 45,false),some (some 45,false),some (some 45,false),none] [3,4,5,7,8,50] [(1,0),(2,0),(3,0),(11,0),(21,0)] h fun ac wd h => ?_
    injection an with an; subst an
    exact ⟨true,rfl,h.z⟩
  ·
   have aE := L_law05_App_ok aq
   have aF := L_law09_Ref_ok au
   have aG := L_ref09_Right_ok aw
   refine deg [factE 24 aE,factE 26 aF,factE 27 aG] [none,none,none,none,none,none,none,some (some 40,false),some (some 40,false),some (some 40,false),none,none,some (some 45,false),some (some 45,false),some (some 45,false),some (some 45,false),none] [3,4,5,7,8,50] [(1,0),(2,0),(3,0),(11,0),(21,0)] h fun ac wd h => ?_
   injection an with an; subst an
   exact ⟨true,rfl,h.z⟩
 ·
  rintro ac wd ⟨ao,rfl,h⟩
  (try dsimp only at hD)
  rcases i2b hD with ⟨aJ,hD⟩ | ⟨aJ,hD⟩
  ·
   refine kT h ?_
   obtain ⟨aK,aL,hD⟩ := oB hD
   have aM := L_law16_fixed_ok aL
   refine qs 42 [factE 40 aM] [6] [] h fun ac wd h => ?_
   refine wp_ret ?_
   injection hD with hD
   subst hD
   exact rE h [.tmp 6]
  ·
   refine kF h ?_
   refine wp_skip ?_
   change Code.wp Try.prog _ _ _ _
   obtain ⟨aN,hD⟩ := iT hD
   refine ds 49 [] [3,4,5,7,8,9,10] [(1,0),(2,0),(3,0),(11,0),(21,0),(42,0),(46,0)] h fun ac wd h => ?_
   rcases iO hD with ⟨aO,aP,hD⟩ | hD
   ·
    have h := h.fz [(21,0)]
    have aQ := ((L_probe_Hear_v1_own aP).cls 55).z
    refine qs 63 [factO aQ] [7,8,9,10,11,12,13] [(11,0),(42,0),(46,0),(55,0),(55,1)] h fun ac wd h => ?_
    refine wp_seq ?_
    refine qs 66 [] [7,8,9,10,11,12,13,72] [(11,0),(42,0),(46,0),(55,0),(55,1)] h fun ac wd h => ?_
    obtain ⟨aR,aS,hD⟩ := Option.bind_eq_some_iff.1 hD
    refine r_meet (fun ac wd => () = aR ∧ SL ⟨wb,S,Φ,P0⟩ 159 93 [(7,.one (.ptr (11,0) 0)),(8,.one (.d (.sl (List.map eI aj)))),(9,.one (.own (42,0) aj.length)),(10,.one (.own (46,0) ae.Path.length)),(12,.one (.own (55,1) aO.2.1.length)),(13,.one (.nil))] [((11,0),some (.box 62 (cTFrame ae))),((42,0),some (.row 3 1 (dat (List.map eI aj)))),((46,0),some (.row 3 1 (dat (List.map eI ae.Path)))),((55,1),some (.row 93 10 (openRows cols_93 (List.map eTOut aO.2.1))))] ac wd) ?_ ?_
    ·
     rcases i2 aS with ⟨aT,aS⟩ | ⟨aT,aS⟩
     ·
      refine kT h ?_
      refine qs 67 [] [7,8,9,10,11,12,13,14] [(11,0),(42,0),(46,0),(55,0),(55,1)] h fun ac wd h => ?_
      refine wp_block ?_
      refine r_while (fun nf ac wd => ∃ (aU : Int) (aV : List Int),L_law16_ProbeOwn_l1 nf aU aV = some aR ∧ SL ⟨wb,S,Φ,P0⟩ 159 89 [(7,.one (.ptr (11,0) 0)),(8,.one (.d (.sl (List.map eI aj)))),(9,.one (.own (42,0) aj.length)),(10,.one (.own (46,0) ae.Path.length)),(11,.one (.own (55,0) aV.length)),(12,.one (.own (55,1) aO.2.1.length)),(13,.one (.nil)),(14,.one (.d (.int .i64 aU)))] [((11,0),some (.box 62 (cTFrame ae))),((42,0),some (.row 3 1 (dat (List.map eI aj)))),((46,0),some (.row 3 1 (dat (List.map eI ae.Path)))),((55,0),some (.row 3 1 (dat (List.map eI aV)))),((55,1),some (.row 93 10 (openRows cols_93 (List.map eTOut aO.2.1))))] ac wd) (((aO.1.length : Int) - 0).toNat + 1) ⟨0,aO.1,aS,h.z⟩ (fun nf ac wd hJ => ?_)
      obtain ⟨aU,aV,aW,h⟩ := hJ
      cases nf with
      | zero => rw [L_law16_ProbeOwn_l1] at aW; cases aW
      | succ nf =>
       rw [L_law16_ProbeOwn_l1] at aW
       refine wp_seq ?_
       refine qs 93 [] [7,8,9,10,11,12,13,14,76] [(11,0),(42,0),(46,0),(55,0),(55,1)] h fun ac wd h => ?_
       rcases i2 aW with ⟨aX,aW⟩ | ⟨aX,aW⟩
       ·
        refine kT h ?_
        refine wp_skip ?_
        change Code.wp Try.prog _ _ _ _
        refine wp_seq ?_
        refine wp_block ?_
        obtain ⟨aY,aZ,ba,bb,bc,aW⟩ := aB aW
        refine qe [] [7,8,9,10,11,12,13,14] [(11,0),(42,0),(46,0),(55,0),(55,1)] h fun ac wd h => ?_
        change Code.wp Try.prog _ _ _ _
        refine qe [] [7,8,9,10,11,12,13,14] [(11,0),(42,0),(46,0),(55,0),(55,1)] h fun ac wd h => ?_
        exact ⟨nf,Nat.lt_succ_self nf,(IntKind.wrap .i64 (aU + 1)),(aV.set aU.toNat 99),aW,h.z⟩
       ·
        refine kF h ?_
        refine wp_exit ?_
        injection aW with aW; subst aW
        exact ⟨rfl,h.z⟩
     ·
      refine kF h ?_
      refine wp_skip ?_
      injection aS with aS; subst aS
      exact ⟨rfl,h.z⟩
    ·
     rintro ac wd ⟨rfl,h⟩
     (try dsimp only at hD)
     refine wp_seq ?_
     refine qs 94 [] [7,8,9,10,12,13,15] [(11,0),(42,0),(46,0),(55,1)] h fun ac wd h => ?_
     obtain ⟨bd,be,hD⟩ := Option.bind_eq_some_iff.1 hD
     refine r_meet (fun ac wd => () = bd ∧ SL ⟨wb,S,Φ,P0⟩ 159 98 [(7,.one (.ptr (11,0) 0)),(8,.one (.d (.sl (List.map eI aj)))),(9,.one (.own (42,0) aj.length)),(10,.one (.own (46,0) ae.Path.length)),(12,.one (.own (55,1) aO.2.1.length))] [((11,0),some (.box 62 (cTFrame ae))),((42,0),some (.row 3 1 (dat (List.map eI aj)))),((46,0),some (.row 3 1 (dat (List.map eI ae.Path)))),((55,1),some (.row 93 10 (openRows cols_93 (List.map eTOut aO.2.1))))] ac wd) ?_ ?_
     ·
      refine wp_block ?_
      refine r_while (fun nf ac wd => L_law16_ProbeOwn_l2 nf  = some bd ∧ SL ⟨wb,S,Φ,P0⟩ 159 94 [(7,.one (.ptr (11,0) 0)),(8,.one (.d (.sl (List.map eI aj)))),(9,.one (.own (42,0) aj.length)),(10,.one (.own (46,0) ae.Path.length)),(12,.one (.own (55,1) aO.2.1.length)),(13,.one (.nil)),(15,.one (.d (.int .i64 0)))] [((11,0),some (.box 62 (cTFrame ae))),((42,0),some (.row 3 1 (dat (List.map eI aj)))),((46,0),some (.row 3 1 (dat (List.map eI ae.Path)))),((55,1),some (.row 93 10 (openRows cols_93 (List.map eTOut aO.2.1))))] ac wd) (1) ⟨be,h.z⟩ (fun nf ac wd hJ => ?_)
      obtain ⟨bf,h⟩ := hJ
      cases nf with
      | zero => rw [L_law16_ProbeOwn_l2] at bf; cases bf
      | succ nf =>
       rw [L_law16_ProbeOwn_l2] at bf
       refine wp_seq ?_
       refine qs 98 [] [7,8,9,10,12,13,15,85] [(11,0),(42,0),(46,0),(55,1)] h fun ac wd h => ?_
       refine kF h ?_
       refine wp_exit ?_
       injection bf with bf; subst bf
       exact ⟨rfl,h.z⟩
     ·
      rintro ac wd ⟨rfl,h⟩
      (try dsimp only at hD)
      refine wp_seq ?_
      refine qs 99 [] [7,8,9,10,12,16] [(11,0),(42,0),(46,0),(55,1)] h fun ac wd h => ?_
      obtain ⟨bg,bh,hD⟩ := Option.bind_eq_some_iff.1 hD
      refine r_meet (fun ac wd => ∃ (bi : List TOut),bi = bg ∧ SL ⟨wb,S,Φ,P0⟩ 159 239 [(7,.one (.ptr (11,0) 0)),(8,.one (.d (.sl (List.map eI aj)))),(9,.one (.own (42,0) aj.length)),(10,.one (.own (46,0) ae.Path.length)),(12,.one (.own (55,1) bi.length))] [((11,0),some (.box 62 (cTFrame ae))),((42,0),some (.row 3 1 (dat (List.map eI aj)))),((46,0),some (.row 3 1 (dat (List.map eI ae.Path)))),((55,1),some (.row 93 10 (openRows cols_93 (List.map eTOut bi))))] ac wd) ?_ ?_
      ·
       refine wp_block ?_
       refine r_while (fun nf ac wd => ∃ (bj : Int) (bk : List TOut),L_law16_ProbeOwn_l3 nf bj bk = some bg ∧ SL ⟨wb,S,Φ,P0⟩ 159 235 [(7,.one (.ptr (11,0) 0)),(8,.one (.d (.sl (List.map eI aj)))),(9,.one (.own (42,0) aj.length)),(10,.one (.own (46,0) ae.Path.length)),(12,.one (.own (55,1) bk.length)),(16,.one (.d (.int .i64 bj)))] [((11,0),some (.box 62 (cTFrame ae))),((42,0),some (.row 3 1 (dat (List.map eI aj)))),((46,0),some (.row 3 1 (dat (List.map eI ae.Path)))),((55,1),some (.row 93 10 (openRows cols_93 (List.map eTOut bk))))] ac wd) (((aO.2.1.length : Int) - 0).toNat + 1) ⟨0,aO.2.1,bh,h.z⟩ (fun nf ac wd hJ => ?_)
       obtain ⟨bj,bk,bl,h⟩ := hJ
       cases nf with
       | zero => rw [L_law16_ProbeOwn_l3] at bl; cases bl
       | succ nf =>
        rw [L_law16_ProbeOwn_l3] at bl
        refine wp_seq ?_
        refine qs 239 [] [7,8,9,10,12,16,94] [(11,0),(42,0),(46,0),(55,1)] h fun ac wd h => ?_
        rcases i2 bl with ⟨bm,bl⟩ | ⟨bm,bl⟩
        ·
         refine kT h ?_
         refine wp_skip ?_
         change Code.wp Try.prog _ _ _ _
         obtain ⟨bn,bo,bl⟩ := Option.bind_eq_some_iff.1 bl
         refine r_seqJ (fun ac wd => ∃ (bp : List TOut),bp = bn ∧ SL ⟨wb,S,Φ,P0⟩ 159 300 [(7,.one (.ptr (11,0) 0)),(8,.one (.d (.sl (List.map eI aj)))),(9,.one (.own (42,0) aj.length)),(10,.one (.own (46,0) ae.Path.length)),(12,.one (.own (55,1) bp.length)),(16,.one (.d (.int .i64 bj)))] [((11,0),some (.box 62 (cTFrame ae))),((42,0),some (.row 3 1 (dat (List.map eI aj)))),((46,0),some (.row 3 1 (dat (List.map eI ae.Path)))),((55,1),some (.row 93 10 (openRows cols_93 (List.map eTOut bp))))] ac wd) ?_ ?_
         ·
          refine wp_block ?_
          refine qs 240 [] [7,8,9,10,12,16,17] [(11,0),(42,0),(46,0),(55,1)] h fun ac wd h => ?_
          obtain ⟨bq,br,bo⟩ := Option.bind_eq_some_iff.1 bo
          refine r_meetQ (fun ac wd => ∃ (bs : List TOut),bs = bq ∧ SL ⟨wb,S,Φ,P0⟩ 159 300 [(7,.one (.ptr (11,0) 0)),(8,.one (.d (.sl (List.map eI aj)))),(9,.one (.own (42,0) aj.length)),(10,.one (.own (46,0) ae.Path.length)),(12,.one (.own (55,1) bs.length)),(16,.one (.d (.int .i64 bj)))] [((11,0),some (.box 62 (cTFrame ae))),((42,0),some (.row 3 1 (dat (List.map eI aj)))),((46,0),some (.row 3 1 (dat (List.map eI ae.Path)))),((55,1),some (.row 93 10 (openRows cols_93 (List.map eTOut bs))))] ac wd) ?_ ?_
          ·
           refine wp_block ?_
           refine r_while (fun nf ac wd => ∃ (bt : Int) (bu : List TOut),L_law16_ProbeOwn_l4 bj nf bt bu = some bq ∧ SL ⟨wb,S,Φ,P0⟩ 159 290 [(7,.one (.ptr (11,0) 0)),(8,.one (.d (.sl (List.map eI aj)))),(9,.one (.own (42,0) aj.length)),(10,.one (.own (46,0) ae.Path.length)),(12,.one (.own (55,1) bu.length)),(16,.one (.d (.int .i64 bj))),(17,.one (.d (.int .i64 bt)))] [((11,0),some (.box 62 (cTFrame ae))),((42,0),some (.row 3 1 (dat (List.map eI aj)))),((46,0),some (.row 3 1 (dat (List.map eI ae.Path)))),((55,1),some (.row 93 10 (openRows cols_93 (List.map eTOut bu))))] ac wd) (((at? bk bj).elim 0 fun bv => ((bv.F.Path.length : Int) - 0).toNat) + 1) ⟨0,bk,br,h.z⟩ (fun nf ac wd hJ => ?_)
           obtain ⟨bt,bu,bw,h⟩ := hJ
           cases nf with
           | zero => rw [L_law16_ProbeOwn_l4] at bw; cases bw
           | succ nf =>
            rw [L_law16_ProbeOwn_l4] at bw
            refine wp_seq ?_
            obtain ⟨bx,bz,bA,bB,bC,bw⟩ := aB bw
            have h := h.op (55,1) bj.toNat 9
            have h := h.sm 291 [(7,.one (.ptr (11,0) 0)),(8,.one (.d (.sl (List.map eI aj)))),(9,.one (.own (42,0) aj.length)),(10,.one (.own (46,0) ae.Path.length)),(12,.one (.own (55,1) bu.length)),(16,.one (.d (.int .i64 bj))),(17,.one (.d (.int .i64 bt)))]
             [((11,0),some (.box 62 (cTFrame ae))),((42,0),some (.row 3 1 (dat (List.map eI aj)))),((46,0),some (.row 3 1 (dat (List.map eI ae.Path)))),((55,1),some (.row 93 10 ((openRows cols_93 (List.map eTOut bu)).set bj.toNat [.d (.int .i64 bx.Link),.d (.int .i64 bx.F.Kind),.d (.int .i64 bx.F.Epoch),.d (.int .i64 bx.F.M.Seq),.d (.int .i64 bx.F.M.Letter),.tr (.sl 148 6 cols_148) (.sl (List.map eTPiece bx.F.Pieces)),.d (.int .i64 bx.F.Init),.d (.int .i64 bx.F.Num),.d (.int .i64 bx.F.Count),.own (290,0) bx.F.Path.length]))),((290,0),some (.row 3 1 (dat (List.map eI bx.F.Path))))]
            refine qs 300 [] [7,8,9,10,12,16,17,105] [(11,0),(42,0),(46,0),(55,1),(290,0)] h fun ac wd h => ?_
            have h := h.fS (cols := (fun _ => .sc)) (55,1) (290,0) (openRows cols_93 (List.map eTOut bu)) bj.toNat [.d (.int .i64 bx.Link),.d (.int .i64 bx.F.Kind),.d (.int .i64 bx.F.Epoch),.d (.int .i64 bx.F.M.Seq),.d (.int .i64 bx.F.M.Letter),.tr (.sl 148 6 cols_148) (.sl (List.map eTPiece bx.F.Pieces)),.d (.int .i64 bx.F.Init),.d (.int .i64 bx.F.Num),.d (.int .i64 bx.F.Count),.own (290,0) bx.F.Path.length] 9 (List.map eI bx.F.Path) (sc_3 _)
            have h := h.sm 300 [(7,.one (.ptr (11,0) 0)),(8,.one (.d (.sl (List.map eI aj)))),(9,.one (.own (42,0) aj.length)),(10,.one (.own (46,0) ae.Path.length)),(12,.one (.own (55,1) bu.length)),(16,.one (.d (.int .i64 bj))),(17,.one (.d (.int .i64 bt))),(105,.one (.d (.bool (decide (bt < (bx.F.Path.length : Int))))))]
             [((11,0),some (.box 62 (cTFrame ae))),((42,0),some (.row 3 1 (dat (List.map eI aj)))),((46,0),some (.row 3 1 (dat (List.map eI ae.Path)))),((55,1),some (.row 93 10 ((openRows cols_93 (List.map eTOut bu)).set bj.toNat [.d (.int .i64 bx.Link),.d (.int .i64 bx.F.Kind),.d (.int .i64 bx.F.Epoch),.d (.int .i64 bx.F.M.Seq),.d (.int .i64 bx.F.M.Letter),.tr (.sl 148 6 cols_148) (.sl (List.map eTPiece bx.F.Pieces)),.d (.int .i64 bx.F.Init),.d (.int .i64 bx.F.Num),.d (.int .i64 bx.F.Count),.tr (.sl 3 1 (fun _ => .sc)) (.sl (List.map eI bx.F.Path))])))]
            rcases i2 bw with ⟨bD,bw⟩ | ⟨bD,bw⟩
            ·
             refine kT h ?_
             refine wp_skip ?_
             change Code.wp Try.prog _ _ _ _
             refine wp_seq ?_
             refine wp_block ?_
             obtain ⟨bE,bF,bw⟩ := vB bw
             have h := h.same [7,8,9,10,12,16,17,105] [(11,0),(42,0),(46,0),(55,1)] 300 [(7,.one (.ptr (11,0) 0)),(8,.one (.d (.sl (List.map eI aj)))),(9,.one (.own (42,0) aj.length)),(10,.one (.own (46,0) ae.Path.length)),(12,.one (.own (55,1) bE.length)),(16,.one (.d (.int .i64 bj))),(17,.one (.d (.int .i64 bt))),(105,.one (.d (.bool (decide (bt < (bx.F.Path.length : Int))))))]
              [((11,0),some (.box 62 (cTFrame ae))),((42,0),some (.row 3 1 (dat (List.map eI aj)))),((46,0),some (.row 3 1 (dat (List.map eI ae.Path)))),((55,1),some (.row 93 10 (openRows cols_93 (List.map eTOut bE))))]
              (by simp only [EZ,simprocAttr,ah,ai,ak,al,aJ,aN,bm,bz,bA,bB,bC,bD,dat_open,← bF] <;> rfl)
             obtain ⟨bG,bH,bI,bJ,bK,bw⟩ := aB bw
             have h := h.op (55,1) bj.toNat 9
             have h := h.sm 301 [(7,.one (.ptr (11,0) 0)),(8,.one (.d (.sl (List.map eI aj)))),(9,.one (.own (42,0) aj.length)),(10,.one (.own (46,0) ae.Path.length)),(12,.one (.own (55,1) bE.length)),(16,.one (.d (.int .i64 bj))),(17,.one (.d (.int .i64 bt))),(105,.one (.d (.bool (decide (bt < (bx.F.Path.length : Int))))))]
              [((11,0),some (.box 62 (cTFrame ae))),((42,0),some (.row 3 1 (dat (List.map eI aj)))),((46,0),some (.row 3 1 (dat (List.map eI ae.Path)))),((55,1),some (.row 93 10 ((openRows cols_93 (List.map eTOut bE)).set bj.toNat [.d (.int .i64 bG.Link),.d (.int .i64 bG.F.Kind),.d (.int .i64 bG.F.Epoch),.d (.int .i64 bG.F.M.Seq),.d (.int .i64 bG.F.M.Letter),.tr (.sl 148 6 cols_148) (.sl (List.map eTPiece bG.F.Pieces)),.d (.int .i64 bG.F.Init),.d (.int .i64 bG.F.Num),.d (.int .i64 bG.F.Count),.own (300,0) bG.F.Path.length]))),((300,0),some (.row 3 1 (dat (List.map eI bG.F.Path))))]
             obtain ⟨bL,bM,bN,bO,bP,bw⟩ := aB bw
             refine qe [] [7,8,9,10,12,16,17] [(11,0),(42,0),(46,0),(55,1),(300,0)] h fun ac wd h => ?_
             have h := h.fS (cols := (fun _ => .sc)) (55,1) (300,0) (openRows cols_93 (List.map eTOut bE)) bj.toNat [.d (.int .i64 bG.Link),.d (.int .i64 bG.F.Kind),.d (.int .i64 bG.F.Epoch),.d (.int .i64 bG.F.M.Seq),.d (.int .i64 bG.F.M.Letter),.tr (.sl 148 6 cols_148) (.sl (List.map eTPiece bG.F.Pieces)),.d (.int .i64 bG.F.Init),.d (.int .i64 bG.F.Num),.d (.int .i64 bG.F.Count),.own (300,0) bG.F.Path.length] 9 (List.map eI (bG.F.Path.set bt.toNat (IntKind.wrap .i64 (90 + bj)))) (sc_3 _)
             have h := h.sm 312 [(7,.one (.ptr (11,0) 0)),(8,.one (.d (.sl (List.map eI aj)))),(9,.one (.own (42,0) aj.length)),(10,.one (.own (46,0) ae.Path.length)),(12,.one (.own (55,1) bE.length)),(16,.one (.d (.int .i64 bj))),(17,.one (.d (.int .i64 bt)))]
              [((11,0),some (.box 62 (cTFrame ae))),((42,0),some (.row 3 1 (dat (List.map eI aj)))),((46,0),some (.row 3 1 (dat (List.map eI ae.Path)))),((55,1),some (.row 93 10 ((openRows cols_93 (List.map eTOut bE)).set bj.toNat [.d (.int .i64 bG.Link),.d (.int .i64 bG.F.Kind),.d (.int .i64 bG.F.Epoch),.d (.int .i64 bG.F.M.Seq),.d (.int .i64 bG.F.M.Letter),.tr (.sl 148 6 cols_148) (.sl (List.map eTPiece bG.F.Pieces)),.d (.int .i64 bG.F.Init),.d (.int .i64 bG.F.Num),.d (.int .i64 bG.F.Count),.tr (.sl 3 1 (fun _ => .sc)) (.sl (List.map eI (bG.F.Path.set bt.toNat (IntKind.wrap .i64 (90 + bj)))))])))]
             change Code.wp Try.prog _ _ _ _
             refine qe [] [7,8,9,10,12,16,17] [(11,0),(42,0),(46,0),(55,1)] h fun ac wd h => ?_
             exact ⟨nf,Nat.lt_succ_self nf,(IntKind.wrap .i64 (bt + 1)),(bE.set bj.toNat (TOut.mk bG.Link (TFrame.mk bG.F.Kind bG.F.Epoch bG.F.M bG.F.Pieces bG.F.Init bG.F.Num bG.F.Count (bG.F.Path.set bt.toNat (IntKind.wrap .i64 (90 + bj)))))),bw,h.z⟩
            ·
             refine kF h ?_
             refine wp_exit ?_
             injection bw with bw; subst bw
             exact ⟨(bu.set bj.toNat bx),rfl,h.z⟩
          ·
           rintro ac wd ⟨bs,rfl,h⟩
           (try dsimp only at bo)
           injection bo with bo; subst bo
           exact ⟨bs,rfl,h.z⟩
         ·
          rintro ac wd ⟨bp,rfl,h⟩
          (try dsimp only at bl)
          refine qe [] [7,8,9,10,12,16] [(11,0),(42,0),(46,0),(55,1)] h fun ac wd h => ?_
          exact ⟨nf,Nat.lt_succ_self nf,(IntKind.wrap .i64 (bj + 1)),bp,bl,h.z⟩
        ·
         refine kF h ?_
         refine wp_exit ?_
         injection bl with bl; subst bl
         exact ⟨bk,rfl,h.z⟩
      ·
       rintro ac wd ⟨bi,rfl,h⟩
       (try dsimp only at hD)
       refine wp_seq ?_
       refine qs 240 [] [7,8,9,10,12,18] [(11,0),(42,0),(46,0),(55,1)] h fun ac wd h => ?_
       obtain ⟨bQ,bR,hD⟩ := Option.bind_eq_some_iff.1 hD
       refine r_meet (fun ac wd => () = bQ ∧ SL ⟨wb,S,Φ,P0⟩ 159 384 [(7,.one (.ptr (11,0) 0)),(8,.one (.d (.sl (List.map eI aj)))),(9,.one (.own (42,0) aj.length)),(10,.one (.own (46,0) ae.Path.length))] [((11,0),some (.box 62 (cTFrame ae))),((42,0),some (.row 3 1 (dat (List.map eI aj)))),((46,0),some (.row 3 1 (dat (List.map eI ae.Path))))] ac wd) ?_ ?_
       ·
        refine wp_block ?_
        refine r_while (fun nf ac wd => ∃ (bS : Int) (bT : List TOut),L_law16_ProbeOwn_l5 nf bS bT = some bQ ∧ SL ⟨wb,S,Φ,P0⟩ 159 380 [(7,.one (.ptr (11,0) 0)),(8,.one (.d (.sl (List.map eI aj)))),(9,.one (.own (42,0) aj.length)),(10,.one (.own (46,0) ae.Path.length)),(12,.one (.own (55,1) bT.length)),(18,.one (.d (.int .i64 bS)))] [((11,0),some (.box 62 (cTFrame ae))),((42,0),some (.row 3 1 (dat (List.map eI aj)))),((46,0),some (.row 3 1 (dat (List.map eI ae.Path)))),((55,1),some (.row 93 10 (openRows cols_93 (List.map eTOut bT))))] ac wd) (((bi.length : Int) - 0).toNat + 1) ⟨0,bi,bR,h.z⟩ (fun nf ac wd hJ => ?_)
        obtain ⟨bS,bT,bU,h⟩ := hJ
        cases nf with
        | zero => rw [L_law16_ProbeOwn_l5] at bU; cases bU
        | succ nf =>
         rw [L_law16_ProbeOwn_l5] at bU
         refine wp_seq ?_
         refine qs 384 [] [7,8,9,10,12,18,121] [(11,0),(42,0),(46,0),(55,1)] h fun ac wd h => ?_
         rcases i2 bU with ⟨bV,bU⟩ | ⟨bV,bU⟩
         ·
          refine kT h ?_
          refine wp_skip ?_
          change Code.wp Try.prog _ _ _ _
          obtain ⟨bW,bX,bU⟩ := Option.bind_eq_some_iff.1 bU
          refine r_seqJ (fun ac wd => ∃ (bY : List TOut),bY = bW ∧ SL ⟨wb,S,Φ,P0⟩ 159 447 [(7,.one (.ptr (11,0) 0)),(8,.one (.d (.sl (List.map eI aj)))),(9,.one (.own (42,0) aj.length)),(10,.one (.own (46,0) ae.Path.length)),(12,.one (.own (55,1) bY.length)),(18,.one (.d (.int .i64 bS)))] [((11,0),some (.box 62 (cTFrame ae))),((42,0),some (.row 3 1 (dat (List.map eI aj)))),((46,0),some (.row 3 1 (dat (List.map eI ae.Path)))),((55,1),some (.row 93 10 (openRows cols_93 (List.map eTOut bY))))] ac wd) ?_ ?_
          ·
           refine wp_block ?_
           refine qs 385 [] [7,8,9,10,12,18,19] [(11,0),(42,0),(46,0),(55,1)] h fun ac wd h => ?_
           obtain ⟨bZ,b0,bX⟩ := Option.bind_eq_some_iff.1 bX
           refine r_meetQ (fun ac wd => ∃ (b1 : List TOut),b1 = bZ ∧ SL ⟨wb,S,Φ,P0⟩ 159 447 [(7,.one (.ptr (11,0) 0)),(8,.one (.d (.sl (List.map eI aj)))),(9,.one (.own (42,0) aj.length)),(10,.one (.own (46,0) ae.Path.length)),(12,.one (.own (55,1) b1.length)),(18,.one (.d (.int .i64 bS)))] [((11,0),some (.box 62 (cTFrame ae))),((42,0),some (.row 3 1 (dat (List.map eI aj)))),((46,0),some (.row 3 1 (dat (List.map eI ae.Path)))),((55,1),some (.row 93 10 (openRows cols_93 (List.map eTOut b1))))] ac wd) ?_ ?_
           ·
            refine wp_block ?_
            refine r_while (fun nf ac wd => ∃ (b2 : Int) (b3 : List TOut),L_law16_ProbeOwn_l6 bS nf b2 b3 = some bZ ∧ SL ⟨wb,S,Φ,P0⟩ 159 437 [(7,.one (.ptr (11,0) 0)),(8,.one (.d (.sl (List.map eI aj)))),(9,.one (.own (42,0) aj.length)),(10,.one (.own (46,0) ae.Path.length)),(12,.one (.own (55,1) b3.length)),(18,.one (.d (.int .i64 bS))),(19,.one (.d (.int .i64 b2)))] [((11,0),some (.box 62 (cTFrame ae))),((42,0),some (.row 3 1 (dat (List.map eI aj)))),((46,0),some (.row 3 1 (dat (List.map eI ae.Path)))),((55,1),some (.row 93 10 (openRows cols_93 (List.map eTOut b3))))] ac wd) (((at? bT bS).elim 0 fun b4 => ((b4.F.Path.length : Int) - 0).toNat) + 1) ⟨0,bT,b0,h.z⟩ (fun nf ac wd hJ => ?_)
            obtain ⟨b2,b3,b5,h⟩ := hJ
            cases nf with
            | zero => rw [L_law16_ProbeOwn_l6] at b5; cases b5
            | succ nf =>
             rw [L_law16_ProbeOwn_l6] at b5
             refine wp_seq ?_
             obtain ⟨b6,b7,b8,b9,ca,b5⟩ := aB b5
             have h := h.op (55,1) bS.toNat 9
             have h := h.sm 438 [(7,.one (.ptr (11,0) 0)),(8,.one (.d (.sl (List.map eI aj)))),(9,.one (.own (42,0) aj.length)),(10,.one (.own (46,0) ae.Path.length)),(12,.one (.own (55,1) b3.length)),(18,.one (.d (.int .i64 bS))),(19,.one (.d (.int .i64 b2)))]
              [((11,0),some (.box 62 (cTFrame ae))),((42,0),some (.row 3 1 (dat (List.map eI aj)))),((46,0),some (.row 3 1 (dat (List.map eI ae.Path)))),((55,1),some (.row 93 10 ((openRows cols_93 (List.map eTOut b3)).set bS.toNat [.d (.int .i64 b6.Link),.d (.int .i64 b6.F.Kind),.d (.int .i64 b6.F.Epoch),.d (.int .i64 b6.F.M.Seq),.d (.int .i64 b6.F.M.Letter),.tr (.sl 148 6 cols_148) (.sl (List.map eTPiece b6.F.Pieces)),.d (.int .i64 b6.F.Init),.d (.int .i64 b6.F.Num),.d (.int .i64 b6.F.Count),.own (437,0) b6.F.Path.length]))),((437,0),some (.row 3 1 (dat (List.map eI b6.F.Path))))]
             refine qs 447 [] [7,8,9,10,12,18,19,132] [(11,0),(42,0),(46,0),(55,1),(437,0)] h fun ac wd h => ?_
             have h := h.fS (cols := (fun _ => .sc)) (55,1) (437,0) (openRows cols_93 (List.map eTOut b3)) bS.toNat [.d (.int .i64 b6.Link),.d (.int .i64 b6.F.Kind),.d (.int .i64 b6.F.Epoch),.d (.int .i64 b6.F.M.Seq),.d (.int .i64 b6.F.M.Letter),.tr (.sl 148 6 cols_148) (.sl (List.map eTPiece b6.F.Pieces)),.d (.int .i64 b6.F.Init),.d (.int .i64 b6.F.Num),.d (.int .i64 b6.F.Count),.own (437,0) b6.F.Path.length] 9 (List.map eI b6.F.Path) (sc_3 _)
             have h := h.sm 447 [(7,.one (.ptr (11,0) 0)),(8,.one (.d (.sl (List.map eI aj)))),(9,.one (.own (42,0) aj.length)),(10,.one (.own (46,0) ae.Path.length)),(12,.one (.own (55,1) b3.length)),(18,.one (.d (.int .i64 bS))),(19,.one (.d (.int .i64 b2))),(132,.one (.d (.bool (decide (b2 < (b6.F.Path.length : Int))))))]
              [((11,0),some (.box 62 (cTFrame ae))),((42,0),some (.row 3 1 (dat (List.map eI aj)))),((46,0),some (.row 3 1 (dat (List.map eI ae.Path)))),((55,1),some (.row 93 10 ((openRows cols_93 (List.map eTOut b3)).set bS.toNat [.d (.int .i64 b6.Link),.d (.int .i64 b6.F.Kind),.d (.int .i64 b6.F.Epoch),.d (.int .i64 b6.F.M.Seq),.d (.int .i64 b6.F.M.Letter),.tr (.sl 148 6 cols_148) (.sl (List.map eTPiece b6.F.Pieces)),.d (.int .i64 b6.F.Init),.d (.int .i64 b6.F.Num),.d (.int .i64 b6.F.Count),.tr (.sl 3 1 (fun _ => .sc)) (.sl (List.map eI b6.F.Path))])))]
             rcases i2 b5 with ⟨cb,b5⟩ | ⟨cb,b5⟩
             ·
              refine kT h ?_
              refine wp_skip ?_
              change Code.wp Try.prog _ _ _ _
              refine wp_seq ?_
              refine wp_block ?_
              obtain ⟨cc,cd,b5⟩ := vB b5
              have h := h.same [7,8,9,10,12,18,19,132] [(11,0),(42,0),(46,0),(55,1)] 447 [(7,.one (.ptr (11,0) 0)),(8,.one (.d (.sl (List.map eI aj)))),(9,.one (.own (42,0) aj.length)),(10,.one (.own (46,0) ae.Path.length)),(12,.one (.own (55,1) cc.length)),(18,.one (.d (.int .i64 bS))),(19,.one (.d (.int .i64 b2))),(132,.one (.d (.bool (decide (b2 < (b6.F.Path.length : Int))))))]
               [((11,0),some (.box 62 (cTFrame ae))),((42,0),some (.row 3 1 (dat (List.map eI aj)))),((46,0),some (.row 3 1 (dat (List.map eI ae.Path)))),((55,1),some (.row 93 10 (openRows cols_93 (List.map eTOut cc))))]
               (by simp only [EZ,simprocAttr,ah,ai,ak,al,aJ,aN,bV,b7,b8,b9,ca,cb,dat_open,← cd] <;> rfl)
              obtain ⟨ce,cf,cg,ch,ci,b5⟩ := aB b5
              have h := h.op (55,1) bS.toNat 9
              have h := h.sm 448 [(7,.one (.ptr (11,0) 0)),(8,.one (.d (.sl (List.map eI aj)))),(9,.one (.own (42,0) aj.length)),(10,.one (.own (46,0) ae.Path.length)),(12,.one (.own (55,1) cc.length)),(18,.one (.d (.int .i64 bS))),(19,.one (.d (.int .i64 b2))),(132,.one (.d (.bool (decide (b2 < (b6.F.Path.length : Int))))))]
               [((11,0),some (.box 62 (cTFrame ae))),((42,0),some (.row 3 1 (dat (List.map eI aj)))),((46,0),some (.row 3 1 (dat (List.map eI ae.Path)))),((55,1),some (.row 93 10 ((openRows cols_93 (List.map eTOut cc)).set bS.toNat [.d (.int .i64 ce.Link),.d (.int .i64 ce.F.Kind),.d (.int .i64 ce.F.Epoch),.d (.int .i64 ce.F.M.Seq),.d (.int .i64 ce.F.M.Letter),.tr (.sl 148 6 cols_148) (.sl (List.map eTPiece ce.F.Pieces)),.d (.int .i64 ce.F.Init),.d (.int .i64 ce.F.Num),.d (.int .i64 ce.F.Count),.own (447,0) ce.F.Path.length]))),((447,0),some (.row 3 1 (dat (List.map eI ce.F.Path))))]
              obtain ⟨cj,ck,cl,cm,cn,b5⟩ := aB b5
              refine qs 460 [] [7,8,9,10,12,18,19,146] [(11,0),(42,0),(46,0),(55,1),(447,0)] h fun ac wd h => ?_
              have h := h.fS (cols := (fun _ => .sc)) (55,1) (447,0) (openRows cols_93 (List.map eTOut cc)) bS.toNat [.d (.int .i64 ce.Link),.d (.int .i64 ce.F.Kind),.d (.int .i64 ce.F.Epoch),.d (.int .i64 ce.F.M.Seq),.d (.int .i64 ce.F.M.Letter),.tr (.sl 148 6 cols_148) (.sl (List.map eTPiece ce.F.Pieces)),.d (.int .i64 ce.F.Init),.d (.int .i64 ce.F.Num),.d (.int .i64 ce.F.Count),.own (447,0) ce.F.Path.length] 9 (List.map eI ce.F.Path) (sc_3 _)
              have h := h.sm 460 [(7,.one (.ptr (11,0) 0)),(8,.one (.d (.sl (List.map eI aj)))),(9,.one (.own (42,0) aj.length)),(10,.one (.own (46,0) ae.Path.length)),(12,.one (.own (55,1) cc.length)),(18,.one (.d (.int .i64 bS))),(19,.one (.d (.int .i64 b2))),(146,.one (.d (.bool (!(decide (cj = (IntKind.wrap .i64 (90 + bS))))))))]
               [((11,0),some (.box 62 (cTFrame ae))),((42,0),some (.row 3 1 (dat (List.map eI aj)))),((46,0),some (.row 3 1 (dat (List.map eI ae.Path)))),((55,1),some (.row 93 10 ((openRows cols_93 (List.map eTOut cc)).set bS.toNat [.d (.int .i64 ce.Link),.d (.int .i64 ce.F.Kind),.d (.int .i64 ce.F.Epoch),.d (.int .i64 ce.F.M.Seq),.d (.int .i64 ce.F.M.Letter),.tr (.sl 148 6 cols_148) (.sl (List.map eTPiece ce.F.Pieces)),.d (.int .i64 ce.F.Init),.d (.int .i64 ce.F.Num),.d (.int .i64 ce.F.Count),.tr (.sl 3 1 (fun _ => .sc)) (.sl (List.map eI ce.F.Path))])))]
              obtain ⟨co,b5⟩ := iTe b5
              refine kF h ?_
              refine wp_skip ?_
              change Code.wp Try.prog _ _ _ _
              refine qe [] [7,8,9,10,12,18,19] [(11,0),(42,0),(46,0),(55,1)] h fun ac wd h => ?_
              exact ⟨nf,Nat.lt_succ_self nf,(IntKind.wrap .i64 (b2 + 1)),(cc.set bS.toNat ce),b5,h.z⟩
             ·
              refine kF h ?_
              refine wp_exit ?_
              injection b5 with b5; subst b5
              exact ⟨(b3.set bS.toNat b6),rfl,h.z⟩
           ·
            rintro ac wd ⟨b1,rfl,h⟩
            (try dsimp only at bX)
            injection bX with bX; subst bX
            exact ⟨b1,rfl,h.z⟩
          ·
           rintro ac wd ⟨bY,rfl,h⟩
           (try dsimp only at bU)
           refine qe [] [7,8,9,10,12,18] [(11,0),(42,0),(46,0),(55,1)] h fun ac wd h => ?_
           exact ⟨nf,Nat.lt_succ_self nf,(IntKind.wrap .i64 (bS + 1)),bY,bU,h.z⟩
         ·
          refine kF h ?_
          refine wp_exit ?_
          injection bU with bU; subst bU
          exact ⟨rfl,h.z⟩
       ·
        rintro ac wd ⟨rfl,h⟩
        (try dsimp only at hD)
        obtain ⟨cp,cq,hD⟩ := oB hD
        obtain ⟨cr,hD⟩ := iT hD
        obtain ⟨cs,ct,hD⟩ := oB hD
        obtain ⟨cu,hD⟩ := iT hD
        obtain ⟨cv,cw,hD⟩ := oB hD
        have cx := L_ref01_Ints_ok cq
        have cy := L_ref01_Ints_ok ct
        have cz := L_law16_fixed_ok cw
        refine qsg 397 [factE 386 cx,factE 391 cy,factE 394 cz] [none,none,none,none,some (some 150,true),some (some 150,true),some (some 150,true),some (some 150,true),none,none,some (some 156,true),none,none] [6] [] h fun ac wd h => ?_
        refine wp_ret ?_
        injection hD with hD
        subst hD
        exact rE h [.tmp 6]
   ·
    obtain ⟨cA,cB,hD⟩ := oB hD
    have h := h.fz [(21,0)]
    have cC := ((L_probe_Hear_v2_own cB).cls 55).z
    refine qs 63 [factO cC] [7,8,9,10,11,12,13] [(11,0),(42,0),(46,0),(55,0)] h fun ac wd h => ?_
    refine wp_seq ?_
    refine qs 66 [] [7,8,9,10,11,12,13,72] [(11,0),(42,0),(46,0),(55,0)] h fun ac wd h => ?_
    obtain ⟨cD,cE,hD⟩ := Option.bind_eq_some_iff.1 hD
    refine r_meet (fun ac wd => () = cD ∧ SL ⟨wb,S,Φ,P0⟩ 159 66 [(7,.one (.ptr (11,0) 0)),(8,.one (.d (.sl (List.map eI aj)))),(9,.one (.own (42,0) aj.length)),(10,.one (.own (46,0) ae.Path.length)),(12,.one (.nil)),(13,.one (.own (55,0) cA.2.2.length))] [((11,0),some (.box 62 (cTFrame ae))),((42,0),some (.row 3 1 (dat (List.map eI aj)))),((46,0),some (.row 3 1 (dat (List.map eI ae.Path)))),((55,0),some (.row 3 1 (dat (List.map eI cA.2.2))))] ac wd) ?_ ?_
    ·
     refine kF h ?_
     refine wp_skip ?_
     injection cE with cE; subst cE
     exact ⟨rfl,h.z⟩
    ·
     rintro ac wd ⟨rfl,h⟩
     (try dsimp only at hD)
     refine wp_seq ?_
     refine qs 67 [] [7,8,9,10,12,13,15] [(11,0),(42,0),(46,0),(55,0)] h fun ac wd h => ?_
     obtain ⟨cF,cG,hD⟩ := Option.bind_eq_some_iff.1 hD
     refine r_meet (fun ac wd => () = cF ∧ SL ⟨wb,S,Φ,P0⟩ 159 93 [(7,.one (.ptr (11,0) 0)),(8,.one (.d (.sl (List.map eI aj)))),(9,.one (.own (42,0) aj.length)),(10,.one (.own (46,0) ae.Path.length)),(12,.one (.nil))] [((11,0),some (.box 62 (cTFrame ae))),((42,0),some (.row 3 1 (dat (List.map eI aj)))),((46,0),some (.row 3 1 (dat (List.map eI ae.Path))))] ac wd) ?_ ?_
     ·
      refine wp_block ?_
      refine r_while (fun nf ac wd => ∃ (cH : Int) (cI : List Int),L_law16_ProbeOwn_l7 nf cH cI = some cF ∧ SL ⟨wb,S,Φ,P0⟩ 159 89 [(7,.one (.ptr (11,0) 0)),(8,.one (.d (.sl (List.map eI aj)))),(9,.one (.own (42,0) aj.length)),(10,.one (.own (46,0) ae.Path.length)),(12,.one (.nil)),(13,.one (.own (55,0) cI.length)),(15,.one (.d (.int .i64 cH)))] [((11,0),some (.box 62 (cTFrame ae))),((42,0),some (.row 3 1 (dat (List.map eI aj)))),((46,0),some (.row 3 1 (dat (List.map eI ae.Path)))),((55,0),some (.row 3 1 (dat (List.map eI cI))))] ac wd) (((cA.2.2.length : Int) - 0).toNat + 1) ⟨0,cA.2.2,cG,h.z⟩ (fun nf ac wd hJ => ?_)
      obtain ⟨cH,cI,cJ,h⟩ := hJ
      cases nf with
      | zero => rw [L_law16_ProbeOwn_l7] at cJ; cases cJ
      | succ nf =>
       rw [L_law16_ProbeOwn_l7] at cJ
       refine wp_seq ?_
       refine qs 93 [] [7,8,9,10,12,13,15,85] [(11,0),(42,0),(46,0),(55,0)] h fun ac wd h => ?_
       rcases i2 cJ with ⟨cK,cJ⟩ | ⟨cK,cJ⟩
       ·
        refine kT h ?_
        refine wp_skip ?_
        change Code.wp Try.prog _ _ _ _
        refine wp_seq ?_
        refine wp_block ?_
        obtain ⟨cL,cM,cN,cO,cP,cJ⟩ := aB cJ
        refine qe [] [7,8,9,10,12,13,15] [(11,0),(42,0),(46,0),(55,0)] h fun ac wd h => ?_
        change Code.wp Try.prog _ _ _ _
        refine qe [] [7,8,9,10,12,13,15] [(11,0),(42,0),(46,0),(55,0)] h fun ac wd h => ?_
        exact ⟨nf,Nat.lt_succ_self nf,(IntKind.wrap .i64 (cH + 1)),(cI.set cH.toNat 99),cJ,h.z⟩
       ·
        refine kF h ?_
        refine wp_exit ?_
        injection cJ with cJ; subst cJ
        exact ⟨rfl,h.z⟩
     ·
      rintro ac wd ⟨rfl,h⟩
      (try dsimp only at hD)
      refine wp_seq ?_
      refine qs 94 [] [7,8,9,10,12,16] [(11,0),(42,0),(46,0)] h fun ac wd h => ?_
      obtain ⟨cQ,cR,hD⟩ := Option.bind_eq_some_iff.1 hD
      refine r_meet (fun ac wd => () = cQ ∧ SL ⟨wb,S,Φ,P0⟩ 159 98 [(7,.one (.ptr (11,0) 0)),(8,.one (.d (.sl (List.map eI aj)))),(9,.one (.own (42,0) aj.length)),(10,.one (.own (46,0) ae.Path.length)),(12,.one (.nil))] [((11,0),some (.box 62 (cTFrame ae))),((42,0),some (.row 3 1 (dat (List.map eI aj)))),((46,0),some (.row 3 1 (dat (List.map eI ae.Path))))] ac wd) ?_ ?_
      ·
       refine wp_block ?_
       refine r_while (fun nf ac wd => L_law16_ProbeOwn_l8 nf  = some cQ ∧ SL ⟨wb,S,Φ,P0⟩ 159 94 [(7,.one (.ptr (11,0) 0)),(8,.one (.d (.sl (List.map eI aj)))),(9,.one (.own (42,0) aj.length)),(10,.one (.own (46,0) ae.Path.length)),(12,.one (.nil)),(16,.one (.d (.int .i64 0)))] [((11,0),some (.box 62 (cTFrame ae))),((42,0),some (.row 3 1 (dat (List.map eI aj)))),((46,0),some (.row 3 1 (dat (List.map eI ae.Path))))] ac wd) (1) ⟨cR,h.z⟩ (fun nf ac wd hJ => ?_)
       obtain ⟨cS,h⟩ := hJ
       cases nf with
       | zero => rw [L_law16_ProbeOwn_l8] at cS; cases cS
       | succ nf =>
        rw [L_law16_ProbeOwn_l8] at cS
        refine wp_seq ?_
        refine qs 98 [] [7,8,9,10,12,16,94] [(11,0),(42,0),(46,0)] h fun ac wd h => ?_
        refine kF h ?_
        refine wp_exit ?_
        injection cS with cS; subst cS
        exact ⟨rfl,h.z⟩
      ·
       rintro ac wd ⟨rfl,h⟩
       (try dsimp only at hD)
       refine wp_seq ?_
       refine qs 99 [] [7,8,9,10,12,18] [(11,0),(42,0),(46,0)] h fun ac wd h => ?_
       obtain ⟨cT,cU,hD⟩ := Option.bind_eq_some_iff.1 hD
       refine r_meet (fun ac wd => () = cT ∧ SL ⟨wb,S,Φ,P0⟩ 159 103 [(7,.one (.ptr (11,0) 0)),(8,.one (.d (.sl (List.map eI aj)))),(9,.one (.own (42,0) aj.length)),(10,.one (.own (46,0) ae.Path.length))] [((11,0),some (.box 62 (cTFrame ae))),((42,0),some (.row 3 1 (dat (List.map eI aj)))),((46,0),some (.row 3 1 (dat (List.map eI ae.Path))))] ac wd) ?_ ?_
       ·
        refine wp_block ?_
        refine r_while (fun nf ac wd => L_law16_ProbeOwn_l9 nf  = some cT ∧ SL ⟨wb,S,Φ,P0⟩ 159 99 [(7,.one (.ptr (11,0) 0)),(8,.one (.d (.sl (List.map eI aj)))),(9,.one (.own (42,0) aj.length)),(10,.one (.own (46,0) ae.Path.length)),(12,.one (.nil)),(18,.one (.d (.int .i64 0)))] [((11,0),some (.box 62 (cTFrame ae))),((42,0),some (.row 3 1 (dat (List.map eI aj)))),((46,0),some (.row 3 1 (dat (List.map eI ae.Path))))] ac wd) (1) ⟨cU,h.z⟩ (fun nf ac wd hJ => ?_)
        obtain ⟨cV,h⟩ := hJ
        cases nf with
        | zero => rw [L_law16_ProbeOwn_l9] at cV; cases cV
        | succ nf =>
         rw [L_law16_ProbeOwn_l9] at cV
         refine wp_seq ?_
         refine qs 103 [] [7,8,9,10,12,18,121] [(11,0),(42,0),(46,0)] h fun ac wd h => ?_
         refine kF h ?_
         refine wp_exit ?_
         injection cV with cV; subst cV
         exact ⟨rfl,h.z⟩
       ·
        rintro ac wd ⟨rfl,h⟩
        (try dsimp only at hD)
        obtain ⟨cW,cX,hD⟩ := oB hD
        obtain ⟨cY,hD⟩ := iT hD
        obtain ⟨cZ,c0,hD⟩ := oB hD
        obtain ⟨c1,hD⟩ := iT hD
        obtain ⟨c2,c3,hD⟩ := oB hD
        have c4 := L_ref01_Ints_ok cX
        have c5 := L_ref01_Ints_ok c0
        have c6 := L_law16_fixed_ok c3
        refine qsg 116 [factE 105 c4,factE 110 c5,factE 113 c6] [none,none,none,none,some (some 150,true),some (some 150,true),some (some 150,true),some (some 150,true),none,none,some (some 156,true),none,none] [6] [] h fun ac wd h => ?_
        refine wp_ret ?_
        injection hD with hD
        subst hD
        exact rE h [.tmp 6]

end Go.Proofs.Ytabbejabdkkaiaa
