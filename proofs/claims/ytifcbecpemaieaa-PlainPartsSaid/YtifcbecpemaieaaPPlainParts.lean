/- The law PlainParts, in plain words: true at every input. No condition. -/
import Derived.Test.YtifcbecpemaieaaPpj
import Derived.Test.YtifcbecpemaieaaGdPlainParts
set_option linter.unusedSimpArgs false
set_option linter.unusedVariables false
namespace Go.Proofs.Ytifcbecpemaieaa
open Go.RowKit

theorem plainParts_true (a0 : TApp) (a1 : List TStep) (a2 : Int) (w0 : wTApp a0) (w1 : (wL 40 wTStep) a1) (w2 : (wI .u8) a2) : L_law05_PlainParts a0 a1 a2 = some true := by
 classical
 unfold L_law05_PlainParts
 rw [law_cutA,Option.bind_some,if_pos (by omega),if_pos (by omega),Option.bind_some,take_min (i := 40) _ 40 rfl]
 have ha := cutA_sz a0
 have hl : (a1.take 40).length ≤ 40 := by rw [List.length_take]; omega
 generalize cutA a0 = a at ha
 generalize a1.take 40 = l at hl
 have hg := ha.g
 rw [law_app ha.t,Option.bind_some,ref_tright (by omega) ha.t,Option.bind_some]
 by_cases hR : TRightP a.T a.G
 ·
  have hc := start_right hR
  have hw : 0 ≤ a2 ∧ a2 ≤ 255 := w2.u8
  have e1 : IntKind.wrap .i64 ((l.length : Int) + 1) = (l.length : Int) + 1 := wr (by omega) (by omega)
  have e2 : IntKind.wrap .i64 a2 = a2 := wr (by omega) (by omega)
  obtain ⟨k,ek,hk⟩ : ∃ k : Nat,a2.tmod ((l.length : Int) + 1) = k ∧ k ≤ l.length := by
   have h1 := Int.tmod_nonneg ((l.length : Int) + 1) hw.1
   have h2 := Int.tmod_lt_of_pos a2 (show (0 : Int) < (l.length : Int) + 1 by omega)
   exact ⟨(a2.tmod ((l.length : Int) + 1)).toNat,by omega,by omega⟩
  have hlk : (l.take k).length = k := by rw [List.length_take]; omega
  have hld : (l.drop k).length = l.length - k := by rw [List.length_drop]
  have happ : l.take k ++ l.drop k = l := List.take_append_drop k l
  generalize hp : l.take k = p at hlk happ
  generalize hq : l.drop k = q at hld happ
  rw [if_pos (dT hR),e1,e2,ek,if_pos (by omega),plain_start ha,Option.bind_some,plain_run ha hc (by omega),Option.bind_some,if_pos (by omega),if_pos (by omega),Option.bind_some,Int.toNat_natCast,hp,plain_run ha hc (by omega),Option.bind_some]
  generalize startP a = c at hc
  have hrl := run_right ha (l := l) (k := 0) hc
  have hrp := run_right ha (l := p) (k := 0) hc
  -- the whole run,and how far it came
  have key : ∀ (r : List TStep),((runP a c r 0).2.2 = 0 ↔ (runP a c r 0).2.1 = (r.length : Int)) ∧ 0 ≤ (runP a c r 0).2.1 ∧ (runP a c r 0).2.1 ≤ (r.length : Int) := fun r => by
   by_cases e : (runP a c r 0).2.2 = 0
   ·
    have := runP_ok e
    rw [Nat.zero_add] at this
    exact ⟨⟨fun _ => this,fun _ => e⟩,by omega,by omega⟩
   ·
    obtain ⟨n,h1,h2,_⟩ := runP_at e
    exact ⟨⟨fun q => absurd q e,fun q => by omega⟩,by omega,by omega⟩
  obtain ⟨k1,k2,k3⟩ := key l
  obtain ⟨k4,k5,k6⟩ := key p
  rw [if_neg (by omega),if_neg (by omega),if_neg (by omega),if_neg (by omega),if_pos (ddec k1),if_pos (ddec (by rw [k4,hlk]))]
  by_cases f : (runP a c p 0).2.2 = 0
  ·
   have hm := k4.1 f
   have e3 : runP a c l 0 = runP a (runP a c p 0).1 q k := by
    rw [← happ,runP_app f,Nat.zero_add,hlk]
   have e4 := runP_shift (a := a) (l := q) (c := (runP a c p 0).1) (k := k)
   rw [if_pos f,Option.bind_some,hq,plain_run ha hrp (by omega),Option.bind_some,if_pos k2,if_pos k3,Option.bind_some]
   -- the run as far as it came
   have e5 : runP a c (l.take (runP a c l 0).2.1.toNat) 0 = ((runP a c l 0).1,(runP a c l 0).2.1,0) := by
    by_cases g : (runP a c l 0).2.2 = 0
    ·
     have := k1.1 g
     rw [this,Int.toNat_natCast,List.take_length,← this,← g]
    ·
     obtain ⟨n,h1,h2,h3⟩ := runP_at g
     rw [Nat.zero_add] at h2 h3
     rw [h2,Int.toNat_natCast,h3]
   rw [plain_run ha hc (by rw [List.length_take]; omega),Option.bind_some,e5]
   have e6 : (runP a (runP a c p 0).1 q 0).2.2 = (runP a c l 0).2.2 := by rw [e3,e4]
   have e7 : (k : Int) + (runP a (runP a c p 0).1 q 0).2.1 = (runP a c l 0).2.1 := by rw [e3,e4]; dsimp only; omega
   have e8 : (runP a (runP a c p 0).1 q 0).1 = (runP a c l 0).1 := by rw [e3,e4]
   rw [if_pos e6,if_pos (by rw [wr (by omega) (by omega)]; exact e7),law_conf,Option.bind_some,law_conf,Option.bind_some,e8,conf_same (hrl.sz ha),Option.bind_some,if_pos rfl,if_pos rfl,if_pos rfl,Option.bind_some,conf_same (hrl.sz ha),Option.bind_some,if_pos rfl,fixed05]
   rfl
  ·
   have e3 : runP a c l 0 = runP a c p 0 := by rw [← happ,runP_bad f]
   rw [if_neg f,e3,if_pos rfl,if_pos rfl,law_conf,Option.bind_some,Option.bind_some,conf_same (hrp.sz ha),Option.bind_some,if_pos rfl,fixed05]
   rfl
 ·
  rw [if_neg (by rw [dF hR]; decide),fixed05]
  rfl
end Go.Proofs.Ytifcbecpemaieaa
