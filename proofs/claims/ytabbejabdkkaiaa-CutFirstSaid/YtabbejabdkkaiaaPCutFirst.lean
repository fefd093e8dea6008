/- The law CutFirst, in plain words: true at every input. No condition. -/
import Derived.Test.YtabbejabdkkaiaaPuf
import Derived.Test.YtabbejabdkkaiaaGdCutFirst
set_option linter.unusedSimpArgs false
set_option linter.unusedVariables false
namespace Go.Proofs.Ytabbejabdkkaiaa
open Go.RowKit

theorem cutFirst_true (a0 : TApp) (a1 : List TStep) (a2 : Int) (w0 : wTApp a0) (w1 : (wL 40 wTStep) a1) (w2 : (wI .u8) a2) : L_law17_CutFirst a0 a1 a2 = some true := by
 classical
 unfold L_law17_CutFirst
 rw [law_cutA,Option.bind_some]
 have ha := cutA_sz a0
 generalize cutA a0 = a at ha
 rw [law_app ha.t,Option.bind_some,ref_start ha,Option.bind_some,start_iff ha,Option.bind_some]
 generalize startP a = c
 by_cases hR : CRightP a c
 ·
  rw [if_pos (dT hR),law_doable hR ha,Option.bind_some]
  have hl : okP a c (doL a c (a1.take 30)) := doL_ok
  have hn := doL_len (a := a) (l := a1.take 30) (c := c)
  rw [List.length_take] at hn
  generalize doL a c (a1.take 30) = l at hl hn
  have hw : 0 ≤ a2 ∧ a2 ≤ 255 := w2.u8
  have e1 : IntKind.wrap .i64 ((l.length : Int) + 1) = (l.length : Int) + 1 := wr (by omega) (by omega)
  have e2 : IntKind.wrap .i64 a2 = a2 := wr (by omega) (by omega)
  obtain ⟨k,ek,hk⟩ : ∃ k : Nat,a2.tmod ((l.length : Int) + 1) = k ∧ k ≤ l.length := by
   have h1 := Int.tmod_nonneg ((l.length : Int) + 1) hw.1
   have h2 := Int.tmod_lt_of_pos a2 (show (0 : Int) < (l.length : Int) + 1 by omega)
   exact ⟨(a2.tmod ((l.length : Int) + 1)).toNat,by omega,by omega⟩
  have hlk : (l.take k).length = k := by rw [List.length_take]; omega
  have hld : (l.drop k).length = l.length - k := by rw [List.length_drop]
  have happ : l.take k ++ l.drop k = l := List.take_append_drop k l
  have hN := hR.tab.1.2.1
  rw [e1,e2,ek,if_pos (by omega),if_pos (by omega),if_pos (by omega),Option.bind_some,Int.toNat_natCast]
  generalize l.take k = p at hlk happ
  generalize l.drop k = q at hld happ
  subst happ
  obtain ⟨f1,f2⟩ := cut_first ha hR hl
  have hcw := ncntL_w a.G (l := p) (by omega)
  rw [cut_counts hR.tab.1 (by omega),Option.bind_some,cut_split hR.tab.1 (by omega) hcw,Option.bind_some,law_steps (by omega),Option.bind_some,ref17_counts hR.tab.1 (by omega),Option.bind_some,ints_same (by rw [ncntL_len]; omega),Option.bind_some,if_pos rfl,f1]
  dsimp only
  rw [law_steps (by omega),Option.bind_some,steps_same (by omega),Option.bind_some,if_pos rfl,law_steps (by omega),Option.bind_some,Option.bind_some,law_steps (by omega),Option.bind_some,steps_same (by omega),Option.bind_some,if_pos rfl,cut_good_eq hR ha hl (by omega) hcw,Option.bind_some,if_pos (dT f2),fixed17]
  rfl
 ·
  rw [if_neg (by rw [dF hR]; decide),fixed17]
  rfl
end Go.Proofs.Ytabbejabdkkaiaa
