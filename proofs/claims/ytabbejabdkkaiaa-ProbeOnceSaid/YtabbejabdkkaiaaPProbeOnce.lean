/- The law ProbeOnce, in plain words: true at every input. No condition. -/
import Derived.Test.YtabbejabdkkaiaaPvb
import Derived.Test.YtabbejabdkkaiaaGdProbeOnce
set_option linter.unusedSimpArgs false
set_option linter.unusedVariables false
namespace Go.Proofs.Ytabbejabdkkaiaa
open Go.RowKit

theorem probeOnce_true (a0 : TApp) (a1 : THost) (a2 : THeard) (w0 : wTApp a0) (w1 : wTHost a1) (w2 : wTHeard a2) : L_law16_ProbeOnce a0 a1 a2 = some true := by
 classical
 unfold L_law16_ProbeOnce
 rw [law_cutA,Option.bind_some,law_cutF,Option.bind_some,if_pos (by omega),if_pos (by omega),Option.bind_some,take_min (i := 10) _ 10 rfl]
 have ha := cutA_sz a0
 have hh := szH_of w1
 have hf := cutF_sz a2.F
 have hl : (a2.Seen.take 10).length ≤ 10 := by rw [List.length_take]; omega
 have hg := ha.g
 generalize cutA a0 = a at ha hg
 generalize cutF a2.F = f at hf
 generalize a2.Seen.take 10 = seen at hl
 rw [law_app ha.t,Option.bind_some,show L_law09_Ref a1 = some a1 from rfl,Option.bind_some,ref_host ha hh,Option.bind_some]
 by_cases hR : HRightP a a1
 ·
  rw [if_pos (dT hR)]
  by_cases hk : f.Kind = 6
  ·
   rw [if_pos hk,law_refF (by omega),Option.bind_some,ref_frame hk (by omega),Option.bind_some,Option.bind_some]
   by_cases hF : FrameP f
   ·
    have hi := hF.ini
    have hn := hF.num
    have hc := hF.cnt
    have hp := hF.len
    have hb := back_ge a.G a2.Link
    have z : ¬ ((([] : List TOut).length : Int) > 0) := by simp
    have z' : ¬ ((([] : List Int).length : Int) > 0) := by simp
    have z2 : ¬ (IntKind.wrap .i64 ((([] : List TOut).length : Int) + (([] : List Int).length : Int)) > 0) := by decide
    have third : ∀ (P : HearP a a1 a2.Link f),hearOf a a1 seen a2.Link ⟨f.Kind,f.Epoch,f.M,f.Pieces,f.Init,f.Num,(IntKind.wrap .i64 (f.Count + 1)).tmod 501,f.Path⟩ = (seen,[],[]) := fun P => by
     unfold hearOf
     rw [if_neg]
     intro q
     have e1 := P.2.2
     have e2 := q.2.2
     dsimp only at e2
     rw [e1,wr (by omega) (by omega)] at e2
     rcases Int.lt_or_le f.Count 500 with c | c
     ·
      rw [Int.tmod_eq_of_lt (by omega) (by omega)] at e2
      omega
     ·
      rw [show f.Count = 500 by omega] at e2
      exact absurd e2 (by decide)
    rw [if_neg (by rw [dT hF]; decide),probe_hear hR ha a2.Link (by omega) (by omega) (by omega),Option.bind_some]
    have h3 := probe_hear hR ha (seen := seen) a2.Link (f := ⟨f.Kind,f.Epoch,f.M,f.Pieces,f.Init,f.Num,(IntKind.wrap .i64 (f.Count + 1)).tmod 501,f.Path⟩) (by dsimp only; omega) (by omega) (by dsimp only; omega)
    by_cases hC : HearP a a1 a2.Link f
    ·
     by_cases h1 : f.Init = a1.Node
     ·
      have e : hearOf a a1 seen a2.Link f = (seen,[],f.Path) := by unfold hearOf; rw [if_pos hC,if_pos h1]
      rw [e]
      dsimp only
      rw [if_neg z,if_pos (by omega),if_pos h1,ints_same (by omega),Option.bind_some,Option.bind_some,if_neg (by decide),if_neg z,Option.bind_some,h3,Option.bind_some,third hC,wr (n := (([] : List TOut).length : Int) + (f.Path.length : Int)) (by simp only [List.length_nil]; omega) (by simp only [List.length_nil]; omega),if_pos (by simp only [List.length_nil]; omega)]
      dsimp only
      rw [if_neg z2,ints_same (by omega),Option.bind_some,Option.bind_some,if_neg (by decide),law_ref,Option.bind_some,ref_back _ (by omega),Option.bind_some,if_pos hb,fixed16]
      rfl
     ·
      by_cases h2 : lastOf seen f.Init ≥ f.Num
      ·
       have e : hearOf a a1 seen a2.Link f = (seen,[],[]) := by unfold hearOf; rw [if_pos hC,if_neg h1,if_pos h2]
       rw [e]
       dsimp only
       rw [if_neg z,if_neg z',Option.bind_some,if_neg (by decide),if_neg z,Option.bind_some,h3,Option.bind_some,if_neg z2,Option.bind_some,if_neg (by decide),law_ref,Option.bind_some,ref_back _ (by omega),Option.bind_some,if_pos hb,fixed16]
       rfl
      ·
       have e : hearOf a a1 seen a2.Link f = (nowOf seen f.Init f.Num,outsH a a1 f.Init f.Num f.Path,[]) := by unfold hearOf; rw [if_pos hC,if_neg h1,if_neg h2]
       have ho : 0 < (outsH a a1 f.Init f.Num f.Path).length := by
        unfold outsH
        rw [List.length_map]
        exact List.length_pos_iff.2 ((st_waits hR).1 hC.2.1)
       have ho' := outsH_len (h := a1) ha f.Init f.Num f.Path
       have hnl := now_len seen f.Num hi.1
       have hlast := now_last seen f.Num hi.1
       have l3 := land3 a2.Num
       rw [e]
       dsimp only
       generalize outsH a a1 f.Init f.Num f.Path = outs at ho ho'
       generalize nowOf seen f.Init f.Num = now at hnl hlast
       have e2 : hearOf a a1 now a2.Link ⟨f.Kind,f.Epoch,f.M,f.Pieces,f.Init,max 1 (IntKind.wrap .i64 (f.Num - landK .i64 a2.Num 3)),f.Count,f.Path⟩ = (now,[],[]) := by
        have hC2 : HearP a a1 a2.Link ⟨f.Kind,f.Epoch,f.M,f.Pieces,f.Init,max 1 (IntKind.wrap .i64 (f.Num - landK .i64 a2.Num 3)),f.Count,f.Path⟩ := hC
        unfold hearOf
        rw [if_pos hC2]
        dsimp only
        rw [if_neg h1,if_pos]
        rw [hlast,wr (by omega) (by omega)]
        omega
       rw [if_pos (by omega),if_neg z',Option.bind_some,if_neg (by decide),if_pos (by omega),probe_hear hR ha a2.Link (f := ⟨f.Kind,f.Epoch,f.M,f.Pieces,f.Init,max 1 (IntKind.wrap .i64 (f.Num - landK .i64 a2.Num 3)),f.Count,f.Path⟩) (by dsimp only; omega) (by omega) (by dsimp only; omega),Option.bind_some,e2]
       dsimp only
       rw [if_neg z,if_neg z',ints_same (by omega),Option.bind_some,if_pos rfl,if_neg h1,Option.bind_some,h3,Option.bind_some,third hC,wr (n := (outs.length : Int) + (([] : List Int).length : Int)) (by simp only [List.length_nil]; omega) (by simp only [List.length_nil]; omega),if_pos (by simp only [List.length_nil]; omega)]
       dsimp only
       rw [if_neg z2,ints_same (by omega),Option.bind_some,Option.bind_some,if_neg (by decide),law_ref,Option.bind_some,ref_back _ (by omega),Option.bind_some,if_pos hb,fixed16]
       rfl
    ·
     have e : hearOf a a1 seen a2.Link f = (seen,[],[]) := by unfold hearOf; rw [if_neg hC]
     rw [e]
     dsimp only
     rw [if_neg z,if_neg z',Option.bind_some,if_neg (by decide),if_neg z,Option.bind_some,h3,Option.bind_some,if_neg z2,Option.bind_some,if_neg (by decide),law_ref,Option.bind_some,ref_back _ (by omega),Option.bind_some,if_pos hb,fixed16]
     rfl
   ·
    rw [if_pos (by rw [dF hF]; decide),fixed16]
    rfl
  ·
   rw [if_neg hk,Option.bind_some,if_pos rfl,fixed16]
   rfl
 ·
  rw [if_neg (by rw [dF hR]; decide),Option.bind_some,if_pos rfl,fixed16]
  rfl
end Go.Proofs.Ytabbejabdkkaiaa
