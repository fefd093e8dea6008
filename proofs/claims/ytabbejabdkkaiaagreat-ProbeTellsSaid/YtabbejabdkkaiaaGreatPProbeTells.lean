/- The law ProbeTells, in plain words: true at every input. No condition. -/
import Derived.Test.YtabbejabdkkaiaaGreatPvd
import Derived.Test.YtabbejabdkkaiaaGreatGdProbeTells
set_option linter.unusedSimpArgs false
set_option linter.unusedVariables false
namespace Go.Proofs.YtabbejabdkkaiaaGreat
open Go.RowKit

theorem probeTells_true (a0 : TApp) (a1 : THost) (a2 : THeard) (w0 : wTApp a0) (w1 : wTHost a1) (w2 : wTHeard a2) : L_law16_ProbeTells a0 a1 a2 = some true := by
 classical
 unfold L_law16_ProbeTells
 rw [law_cutA,Option.bind_some]
 have ha := cutA_sz a0
 have hh := szH_of w1
 have hf := cutF_sz a2.F
 have hl : (a2.Seen.take 10).length ≤ 10 := by rw [List.length_take]; omega
 have hg := ha.g
 generalize cutA a0 = a at ha hg
 rw [law_app ha.t,Option.bind_some,show L_law09_Ref a1 = some a1 from rfl,Option.bind_some,if_pos (by omega),if_pos (by omega),Option.bind_some,take_min (i := 10) _ 10 rfl,law_cutF,Option.bind_some]
 generalize cutF a2.F = f at hf
 generalize a2.Seen.take 10 = seen at hl
 rw [ref_host ha hh,Option.bind_some]
 by_cases hR : HRightP a a1
 ·
  obtain ⟨s1,s2⟩ := startOf_ok (h := a1) ha a2.Num
  rw [if_pos (dT hR),probe_start hR ha,Option.bind_some,ref16_start hR ha,Option.bind_some,law_outs s1 fun o ho => (s2 o ho).1,Option.bind_some,outs_same s1 s2,Option.bind_some,if_pos rfl,if_pos rfl]
  by_cases hk : f.Kind = 6
  ·
   rw [if_pos hk,law_refF (by omega),Option.bind_some,ref_frame hk (by omega),Option.bind_some,Option.bind_some]
   by_cases hF : FrameP f
   ·
    have hi := hF.ini
    have hp := hF.len
    obtain ⟨h1,⟨h2,h3⟩,h4⟩ := hearOf_ok (h := a1) ha (seen := seen) a2.Link (f := f) (by omega) (by omega) (by omega)
    rw [if_neg (by rw [dT hF]; decide),probe_hear hR ha a2.Link (by omega) (by omega) (by omega),Option.bind_some,Option.bind_some,ref16_hear hR ha a2.Link (by omega) (by omega) (by omega),Option.bind_some,ints_same h1,Option.bind_some,if_pos rfl,law_outs h2 fun o ho => (h3 o ho).1,Option.bind_some,outs_same h2 h3,Option.bind_some,if_pos rfl,ints_same h4,Option.bind_some,if_pos rfl,fixed16]
    rfl
   ·
    rw [if_pos (by rw [dF hF]; decide),fixed16]
    rfl
  ·
   rw [if_neg hk,Option.bind_some,if_pos rfl,fixed16]
   rfl
 ·
  rw [if_neg (by rw [dF hR]; decide),fixed16]
  rfl
end Go.Proofs.YtabbejabdkkaiaaGreat
