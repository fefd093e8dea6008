/- The law CutTurns, in plain words: true at every input. No condition. -/
import Derived.Test.YtabbejabdkkaiaaPue
import Derived.Test.YtabbejabdkkaiaaGdCutTurns
set_option linter.unusedSimpArgs false
set_option linter.unusedVariables false
namespace Go.Proofs.Ytabbejabdkkaiaa
open Go.RowKit

section
variable {g : TGraph}
end
theorem fixed17 : L_law17_fixed = some true := by decide +kernel

theorem cutTurns_true (a0 : TApp) (a1 : TConf) (a2 : TCut) (w0 : wTApp a0) (w1 : wTConf a1) (w2 : wTCut a2) : L_law17_CutTurns a0 a1 a2 = some true := by
 classical
 unfold L_law17_CutTurns
 rw [law_cutA,Option.bind_some,law_cutC,Option.bind_some]
 have ha := cutA_sz a0
 have hc := cutC_sz a1
 generalize cutA a0 = a at ha
 generalize cutC a1 = c at hc
 rw [law_app ha.t,Option.bind_some,law_conf,Option.bind_some,ref_right5 ha hc,Option.bind_some]
 by_cases hR : CRightP a c
 ·
  rw [if_pos (dT hR),law_doable hR ha,Option.bind_some]
  have hl : okP a c (doL a c (a2.Steps.take 30)) := doL_ok
  have hn := doL_len (a := a) (l := a2.Steps.take 30) (c := c)
  rw [List.length_take] at hn
  generalize doL a c (a2.Steps.take 30) = l at hl hn
  have hcn := w2.2.1.2
  have hs := split_len (g := a.G) (l := l) (left := leftP a.G a2.Counts)
  have hg : goodP a c l (leftP a.G a2.Counts) noL ↔ _ := cut_good ha (left := leftP a.G a2.Counts) hR hl
  have hrun := okP_run (k := 0) hl
  rw [Nat.zero_add] at hrun
  rw [cut_split hR.tab.1 (by omega) hcn,Option.bind_some,plain_run ha hR (by omega),Option.bind_some,plain_run ha hR (by omega),Option.bind_some,hrun,cut_good_eq hR ha hl (by omega) hcn]
  dsimp only
  rw [if_pos rfl,if_pos rfl,Option.bind_some]
  by_cases q : okP a c (splitP a.G l (leftP a.G a2.Counts)).1
  ·
   have hrun1 := okP_run (k := 0) q
   rw [Nat.zero_add] at hrun1
   obtain ⟨t1,t2⟩ := good_turn ha hR hl (hg.2 q)
   have hrun2 := okP_run (k := 0) t1
   rw [Nat.zero_add,List.length_append,hs,t2] at hrun2
   have hz := (okP_right ha hR hl).sz ha
   rw [hrun1]
   dsimp only
   rw [dT (hg.2 q),if_pos (dT rfl).symm,if_pos rfl,if_pos rfl,dT rfl,Option.bind_some,if_neg (by simp),if_pos rfl,if_pos (by omega),if_pos (by omega),plain_run ha hR (by rw [List.length_append]; omega),Option.bind_some,hrun2]
   dsimp only
   rw [if_pos rfl,if_pos rfl,law_conf,Option.bind_some,Option.bind_some,conf_same hz,Option.bind_some,if_pos rfl,fixed17]
   rfl
  ·
   have hq : (runP a c (splitP a.G l (leftP a.G a2.Counts)).1 0).2.2 ≠ 0 := fun e => q (run_okP e)
   rw [dF (fun g => q (hg.1 g)),dF hq,if_pos rfl,if_neg hq,if_pos rfl,Option.bind_some,if_neg (by decide),if_neg hq,fixed17]
   rfl
 ·
  rw [if_neg (by rw [dF hR]; decide),plain_right ha hc,Option.bind_some,if_neg (by rw [dF hR]; decide),fixed17]
  rfl
end Go.Proofs.Ytabbejabdkkaiaa
