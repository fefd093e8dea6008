/- The law ProbeEach, in plain words: true at every input. No condition. -/
import Derived.Test.YtabbejabdkkaiaaPvb
import Derived.Test.YtabbejabdkkaiaaGdProbeEach
set_option linter.unusedSimpArgs false
set_option linter.unusedVariables false
namespace Go.Proofs.Ytabbejabdkkaiaa
open Go.RowKit

theorem probeEach_true (a0 : TApp) (a1 : THost) (a2 : Int) (w0 : wTApp a0) (w1 : wTHost a1) (w2 : (wI .i64) a2) : L_law16_ProbeEach a0 a1 a2 = some true := by
  classical
  unfold L_law16_ProbeEach
  rw [law_cutA,Option.bind_some]
  have ha := cutA_sz a0
  have hh := szH_of w1
  have hg := ha.g
  generalize cutA a0 = a at ha hg
  rw [law_app ha.t,Option.bind_some,show L_law09_Ref a1 = some a1 from rfl,Option.bind_some,ref_host ha hh,Option.bind_some]
  by_cases hR : HRightP a a1
  · rw [if_pos (dT hR),probe_start hR ha,Option.bind_some,ref_at,Option.bind_some]
    rw [show stOf a.T a1.Node a1.State = stH a a1 from rfl]
    have z : ¬ ((([] : List TOut).length : Int) > 0) := by simp
    have hw := st_waits hR
    have hn := n5 hR
    unfold startOf
    by_cases c1 : a.Fifo = true
    · rw [if_pos c1,if_pos c1]
      by_cases c2 : a2 < 1 ∨ a2 > 200
      · rw [if_pos c2]
        dsimp only
        rw [show decide ((2 : Int) = 0) = false from rfl,if_pos rfl,if_neg (show ¬ ((2 : Int) = 0) by decide),if_neg (show ¬ ((2 : Int) = 0) by decide),dF z]
        have e : (if a2 ≥ 1 then if a2 ≤ 200 then if false = decide (((stH a a1).Waits.length : Int) > 0) then if false = decide (((stH a a1).Waits.length : Int) > 0) then some false else some true else some true else some false else some false : Option Bool) = some false := by
          by_cases q : a2 ≥ 1
          · rw [if_pos q,if_neg (by omega)]
          · rw [if_neg q]
        first
          | (rw [e,Option.bind_some,if_neg (by decide),fixed16]; rfl)
          | (by_cases q : a2 ≥ 1
             · rw [if_pos q,if_neg (by omega),Option.bind_some,if_neg (by decide),fixed16]; rfl
             · rw [if_neg q,Option.bind_some,if_neg (by decide),fixed16]; rfl)
      · rw [if_neg c2,if_pos (by omega),if_pos (by omega)]
        by_cases c3 : (stH a a1).Mode = 2
        · have hp : ((stH a a1).Waits.length : Int) > 0 := by
            have := List.length_pos_iff.2 (hw.1 c3)
            omega
          rw [if_pos c3]
          dsimp only
          have hlen : (outsH a a1 a1.Node a2 []).length = (stH a a1).Waits.length := by unfold outsH; rw [List.length_map]
          have hl := stH_sz (h := a1) ha
          rw [dT hp,if_pos (dT rfl),if_pos rfl,if_pos rfl,Option.bind_some,if_neg (by decide),if_pos rfl,if_pos (by omega)]
          have h1 := sameV (F := fun nf k => L_law16_ProbeEach_l1 a1 a2 (outsH a a1 a1.Node a2 [],0) (stH a a1) a nf k) (l := (stH a a1).Waits) ()
            (fun nf => by rw [L_law16_ProbeEach_l1,if_neg (by dsimp only; omega)])
            (fun nf k hk => by
              have hk' : k < (outsH a a1 a1.Node a2 []).length := by omega
              have e : (outsH a a1 a1.Node a2 [])[k] = mkO a a1 a1.Node a2 [] (stH a a1).Waits[k] := outs_get hk' hk
              have gl := got_le hR (find a.G (stH a a1).Waits[k] a1.Node)
              rw [L_law16_ProbeEach_l1,if_pos (by dsimp only; omega),at_get (l := outsH a a1 a1.Node a2 []) hk',Option.bind_some,law_ref,Option.bind_some,at_get hk,Option.bind_some,ref_find _ _ (by omega),Option.bind_some,ref_find _ _ (by omega),Option.bind_some,e]
              unfold mkO
              dsimp only
              rw [if_pos rfl,if_pos rfl,if_pos rfl,if_pos rfl,List.nil_append,ints_same (by simp),Option.bind_some,if_pos rfl,host_got hR ha,Option.bind_some,if_pos rfl,law_refF (by simp),Option.bind_some,ref_frame rfl (by simp),Option.bind_some,if_pos (dT ⟨rfl,rfl,rfl,hn,by dsimp only; omega,gl,by simp,by simpa using hn⟩),wr_succ (by omega)])
            ((((outsH a a1 a1.Node a2 []).length : Int) - 0).toNat + 1) (by omega)
          rw [h1,Option.bind_some,fixed16]
          rfl
        · have hp : ¬ (((stH a a1).Waits.length : Int) > 0) := fun q => c3 (hw.2 fun e => by rw [e] at q; simp at q)
          rw [if_neg c3]
          dsimp only
          rw [show decide ((8 : Int) = 0) = false from rfl,dF hp,if_pos rfl,if_neg (by decide),if_pos rfl,dF z,Option.bind_some,if_neg (by decide),if_neg (by decide),fixed16]
          rfl
    · rw [if_neg c1,if_neg c1]
      dsimp only
      rw [show decide ((9 : Int) = 0) = false from rfl,if_pos rfl,if_neg (by decide),dF z,Option.bind_some,if_neg (by decide),if_neg (by decide),fixed16]
      rfl
  · rw [if_neg (by rw [dF hR]; decide),fixed16]
    rfl
end Go.Proofs.Ytabbejabdkkaiaa
