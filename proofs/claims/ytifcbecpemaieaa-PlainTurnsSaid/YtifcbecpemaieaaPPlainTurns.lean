/- The law PlainTurns, in plain words: true at every input. No condition. -/
import Derived.Test.YtifcbecpemaieaaPpj
import Derived.Test.YtifcbecpemaieaaGdPlainTurns
set_option linter.unusedSimpArgs false
set_option linter.unusedVariables false
namespace Go.Proofs.Ytifcbecpemaieaa
open Go.RowKit

theorem land65535 (x : Int) : 0 ≤ landK .i64 x 65535 ∧ landK .i64 x 65535 ≤ 65535 := by
 have h1 : (BitVec.ofInt 64 x &&& BitVec.ofInt 64 65535).toNat ≤ 65535 := by
  rw [BitVec.toNat_and]
  exact Nat.le_trans Nat.and_le_right (by decide)
 have e : landK .i64 x 65535 = IntKind.wrap .i64 ((BitVec.ofInt 64 x &&& BitVec.ofInt 64 65535).toNat : Int) := rfl
 rw [e,wr (by omega) (by omega)]
 omega
theorem pick_far (x : Int) {N : Nat} (h : 1 ≤ N) : ∃ s : Nat,(landK .i64 x 65535).tmod (N : Int) = (s : Int) ∧ s < N := by
 have hl := land65535 x
 have h1 := Int.tmod_nonneg (N : Int) hl.1
 have h2 := Int.tmod_lt_of_pos (landK .i64 x 65535) (show (0 : Int) < N by omega)
 exact ⟨((landK .i64 x 65535).tmod N).toNat,by omega,by omega⟩
theorem plainTurns_true (a0 : TApp) (a1 : TConf) (a2 : A2I) (w0 : wTApp a0) (w1 : wTConf a1) (w2 : wA2I a2) : L_law05_PlainTurns a0 a1 a2 = some true := by
 classical
 unfold L_law05_PlainTurns
 rw [law_cutA,Option.bind_some,law_cutC,Option.bind_some]
 have ha := cutA_sz a0
 have hc := cutC_sz a1
 generalize cutA a0 = a at ha
 generalize cutC a1 = c at hc
 rw [law_app ha.t,Option.bind_some,law_conf,Option.bind_some,ref_right5 ha hc,Option.bind_some]
 by_cases hR : CRightP a c
 ·
  rw [if_pos (dT hR),plain_can hR ha,Option.bind_some]
  have hok := @can_ok a c
  generalize canP a c = l at hok
  by_cases h0 : (l.length : Int) = 0
  · rw [if_pos h0,fixed05]; rfl
  ·
   obtain ⟨i,e1,hi⟩ := pick_far a2.a0 (N := l.length) (by omega)
   obtain ⟨j,e2,hj⟩ := pick_far a2.a1 (N := l.length) (by omega)
   have hs := hok (List.getElem_mem hi)
   have ht := hok (List.getElem_mem hj)
   rw [if_neg h0,if_pos h0,e1,e2,at_get hi,Option.bind_some,at_get hj,Option.bind_some,law_ref,Option.bind_some]
   generalize l[i] = s at hs
   generalize l[j] = t at ht
   rw [L_law05_Step,Option.bind_some,law_where hR.tab.1,Option.bind_some,L_law05_Step,Option.bind_some,law_where hR.tab.1,Option.bind_some]
   by_cases hn : whereP a s = whereP a t
   · rw [if_pos hn,fixed05]; rfl
   ·
    obtain ⟨e,f1,f2⟩ := steps_turn hR ha hs ht hn
    have g1 : runP a c ([s] ++ [t]) 0 = (e,((2 : Nat) : Int),0) := by
     show runP a c [s,t] 0 = _
     rw [runP,if_pos hs,runP,if_pos (by rw [f1]),runP,f1]
    have g2 : runP a c ([t] ++ [s]) 0 = (e,((2 : Nat) : Int),0) := by
     show runP a c [t,s] 0 = _
     rw [runP,if_pos ht,runP,if_pos (by rw [f2]),runP,f2]
    have hr := run_right ha (l := [s] ++ [t]) (k := 0) hR
    rw [g1] at hr
    have hz : SzC e := hr.sz ha
    rw [if_neg hn,plain_run ha hR (by simp),Option.bind_some,plain_run ha hR (by simp),Option.bind_some,g1,g2]
    dsimp only
    rw [if_pos rfl,if_pos rfl,if_pos (by decide),if_pos (by decide),law_conf,Option.bind_some,Option.bind_some,conf_same hz,Option.bind_some,if_pos rfl,fixed05]
    rfl
 ·
  rw [if_neg (by rw [dF hR]; decide),plain_right ha hc,Option.bind_some,if_neg (by rw [dF hR]; decide),fixed05]
  rfl
end Go.Proofs.Ytifcbecpemaieaa
