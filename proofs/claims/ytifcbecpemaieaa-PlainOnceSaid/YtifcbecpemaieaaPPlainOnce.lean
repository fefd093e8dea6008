/- The law PlainOnce, in plain words: true at every input. No condition. -/
import Derived.Test.YtifcbecpemaieaaPpj
import Derived.Test.YtifcbecpemaieaaGdPlainOnce
set_option linter.unusedSimpArgs false
set_option linter.unusedVariables false
namespace Go.Proofs.Ytifcbecpemaieaa
open Go.RowKit

theorem plainOnce_true (a0 : TApp) (a1 : TConf) (a2 : List TStep) (w0 : wTApp a0) (w1 : wTConf a1) (w2 : (wL 40 wTStep) a2) : L_law05_PlainOnce a0 a1 a2 = some true := by
 classical
 unfold L_law05_PlainOnce
 rw [law_cutA,Option.bind_some,law_cutC,Option.bind_some,if_pos (by omega),if_pos (by omega),Option.bind_some,take_min (i := 10) _ 10 rfl]
 have ha := cutA_sz a0
 have hc := cutC_sz a1
 have hl : (a2.take 10).length ≤ 10 := by rw [List.length_take]; omega
 generalize cutA a0 = a at ha
 generalize cutC a1 = c at hc
 generalize a2.take 10 = l at hl
 rw [law_app ha.t,Option.bind_some,plain_right ha hc,Option.bind_some,law_conf,Option.bind_some,ref_right5 ha hc,Option.bind_some,if_pos rfl]
 by_cases hR : CRightP a c
 ·
  have hcl := can_len hR ha
  rw [if_pos (dT hR),plain_run ha hR (by omega),Option.bind_some,law_steps (by omega),Option.bind_some,ref_run ha hR (by omega),Option.bind_some,law_conf,Option.bind_some,conf_same ((run_right ha hR).sz ha),Option.bind_some,if_pos rfl,if_pos rfl,if_pos rfl,plain_can hR ha,Option.bind_some,law_steps (by omega),Option.bind_some,ref_can hR ha,Option.bind_some,steps_same (by omega),Option.bind_some,if_pos rfl,plain_same hc,Option.bind_some,ref_same hc,Option.bind_some,if_pos rfl,fixed05]
  rfl
 ·
  rw [if_neg (by rw [dF hR]; decide),fixed05]
  rfl
end Go.Proofs.Ytifcbecpemaieaa
