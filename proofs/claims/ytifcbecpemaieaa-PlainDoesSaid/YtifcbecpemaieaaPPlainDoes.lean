/- The law PlainDoes, in plain words: true at every input. No condition. -/
import Derived.Test.YtifcbecpemaieaaPpj
import Derived.Test.YtifcbecpemaieaaGdPlainDoes
set_option linter.unusedSimpArgs false
set_option linter.unusedVariables false
namespace Go.Proofs.Ytifcbecpemaieaa
open Go.RowKit

theorem plainDoes_l1 {a : TApp} (ha : SzA a) (l : List TStep) {c : TConf} (h : CRightP a c) : L_law05_PlainDoes_l1 l a a (((l.length : Int) - 0).toNat + 1) 0 c c = some () := by
 have q := loopI (F := fun nf k (s : TConf) => L_law05_PlainDoes_l1 l a a nf k s s) (len := l.length) (fun _ s => CRightP a s) (fun _ _ => some ())
  (fun nf s _ => by
   rw [L_law05_PlainDoes_l1,baf,if_neg (by rw [decide_eq_true_iff]; omega)])
  (fun nf k s hk hs ih => by
   rw [L_law05_PlainDoes_l1,baf]
   by_cases h40 : k < 40
   ·
    have hl := can_len hs ha
    rw [if_pos (by rw [decide_eq_true_iff]; omega),at_get hk,Option.bind_some,plain_apply hs ha,Option.bind_some,L_law05_Step,Option.bind_some,ref_apply hs ha,Option.bind_some,law_conf,Option.bind_some,conf_same (apply_sz hs ha _),Option.bind_some,if_pos rfl,if_pos rfl,plain_can hs ha,Option.bind_some,law_steps (by omega),Option.bind_some,ref_can hs ha,Option.bind_some,steps_same (by omega),Option.bind_some,if_pos rfl,wr_succ (by omega)]
    by_cases e : (applyP a s l[k]).2 = 0
    ·
     rw [if_pos e,Option.bind_some]
     exact ih _ (apply_right hs ha e)
    ·
     rw [if_neg e,Option.bind_some]
     exact ih _ hs
   · rw [if_neg (by rw [decide_eq_true_iff]; omega)])
  l.length (((l.length : Int) - 0).toNat + 1) 0 c (by omega) (by omega) h
 exact q
theorem plainDoes_true (a0 : TApp) (a1 : List TStep) (w0 : wTApp a0) (w1 : (wL 40 wTStep) a1) : L_law05_PlainDoes a0 a1 = some true := by
 classical
 unfold L_law05_PlainDoes
 rw [law_cutA,Option.bind_some]
 have ha := cutA_sz a0
 generalize cutA a0 = a at ha
 have hg := ha.g
 rw [law_app ha.t,Option.bind_some,ref_tright (by omega) ha.t,Option.bind_some]
 by_cases hR : TRightP a.T a.G
 ·
  have hc := start_right hR
  rw [if_pos (dT hR),plain_start ha,Option.bind_some,ref_start ha,Option.bind_some,law_conf,Option.bind_some,conf_same (hc.sz ha),Option.bind_some,if_pos rfl,plainDoes_l1 ha a1 hc,Option.bind_some,if_pos (by omega),if_pos (by omega),Option.bind_some,take_min (i := 40) _ 40 rfl]
  have hl : (a1.take 40).length ≤ 40 := by rw [List.length_take]; omega
  generalize a1.take 40 = l at hl
  rw [plain_run ha hc (by omega),Option.bind_some,law_steps (by omega),Option.bind_some,ref_run ha hc (by omega),Option.bind_some,law_conf,Option.bind_some,conf_same ((run_right ha hc).sz ha),Option.bind_some,if_pos rfl,if_pos rfl,if_pos rfl,fixed05]
  rfl
 ·
  rw [if_neg (by rw [dF hR]; decide),noC_conf,plain_right ha noC_sz,Option.bind_some,if_neg (by rw [dF (noC_right hR)]; decide),fixed05]
  rfl
end Go.Proofs.Ytifcbecpemaieaa
