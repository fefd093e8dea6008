/- The law CalmAlone, in plain words: true at every input. No condition. -/
import Derived.Test.YtifcbecpemaieaaPqa
import Derived.Test.YtifcbecpemaieaaGdCalmAlone
set_option linter.unusedSimpArgs false
set_option linter.unusedVariables false
namespace Go.Proofs.Ytifcbecpemaieaa
open Go.RowKit

theorem cutC_cut (c : TConf) : cutC (cutC c) = cutC c := by
 unfold cutC
 simp only [List.take_take,Nat.min_self,← List.map_take,List.map_map]
 congr 1
 refine List.map_congr_left fun x _ => ?_
 simp [List.take_take]
theorem sum_set {v : Int} : ∀ {l : List Int} {j : Nat} {w : Int},l[j]? = some w → (l.set j v).sum = l.sum - w + v
 | [],j,w,h => by simp at h
 | x :: l,0,w,h => by
  rw [List.getElem?_cons_zero] at h
  injection h with h
  subst h
  rw [List.set_cons_zero,List.sum_cons,List.sum_cons]
  omega
 | x :: l,j + 1,w,h => by
  rw [List.getElem?_cons_succ] at h
  rw [List.set_cons_succ,List.sum_cons,List.sum_cons,sum_set h]
  omega
theorem lnS_set {l : List (List TMsg)} {j : Nat} {w v : List TMsg} (h : l[j]? = some w) : lnS (l.set j v) = lnS l - (w.length : Int) + (v.length : Int) := by
 unfold lnS
 rw [List.map_set]
 exact sum_set (by rw [List.getElem?_map,h]; rfl)
def bare (c : TConf) (k : Nat) : TConf := ⟨c.States,c.Links.set k [],c.Sent⟩
theorem bare_right {a : TApp} {c : TConf} (h : CRightP a c) (k : Nat) : CRightP a (bare c k) := by
 refine ⟨h.tab,h.nst,by unfold bare; dsimp only; rw [List.length_set]; exact h.nli,h.nse,h.sts,fun l ms z hm hz => ?_⟩
 unfold bare at hm hz
 dsimp only at hm hz
 rw [List.getElem?_set] at hm
 split at hm
 ·
  split at hm
  ·
   injection hm with hm
   rename_i e hl
   subst e
   obtain ⟨q1,q2,_⟩ := h.lnk k _ z (List.getElem?_eq_getElem hl) hz
   subst hm
   exact ⟨q1,q2,trivial⟩
  · cases hm
 · exact h.lnk l ms z hm hz
theorem bare_sz {c : TConf} (h : SzC c) (k : Nat) : SzC (bare c k) := by
 refine ⟨h.st,by unfold bare; dsimp only; rw [List.length_set]; exact h.li,fun x hx => ?_,h.se⟩
 rcases List.mem_or_eq_of_mem_set hx with hx | rfl
 · exact h.ms x hx
 · simp
theorem calmAlone_true (a0 : TApp) (a1 : TConf) (a2 : Int) (w0 : wTApp a0) (w1 : wTConf a1) (w2 : (wI .u8) a2) : L_law14_CalmAlone a0 a1 a2 = some true := by
 classical
 unfold L_law14_CalmAlone
 rw [law_cutA,Option.bind_some,law_cutC,Option.bind_some]
 have ha := cutA_sz a0
 have hc := cutC_sz a1
 have hcut := cutC_cut a1
 generalize cutA a0 = a at ha
 generalize cutC a1 = c at hc hcut
 rw [law_app ha.t,Option.bind_some,law_conf,Option.bind_some,ref_right5 ha hc,Option.bind_some]
 have hli := hc.li
 by_cases hR : CRightP a c
 ·
  rw [if_pos (dT hR),Option.bind_some]
  by_cases h0 : (c.Links.length : Int) = 0
  · rw [if_pos (dT h0),fixed14]; rfl
  ·
   have hw := w2.u8
   have e2 : IntKind.wrap .i64 a2 = a2 := wr (by omega) (by omega)
   obtain ⟨k,ek,hk⟩ : ∃ k : Nat,a2.tmod (c.Links.length : Int) = k ∧ k < c.Links.length := by
    have h1 := Int.tmod_nonneg (c.Links.length : Int) hw.1
    have h2 := Int.tmod_lt_of_pos a2 (show (0 : Int) < (c.Links.length : Int) by omega)
    exact ⟨(a2.tmod (c.Links.length : Int)).toNat,by omega,by omega⟩
   have hRd := bare_right hR k
   have hcd := bare_sz hc k
   have hel := List.getElem?_eq_getElem hk
   have hbl : (bare c k).Links.length = c.Links.length := by unfold bare; dsimp only; rw [List.length_set]
   have hmo : mo a (bare c k) = mo a c := rfl
   have hs := lnS_set (v := []) hel
   have hb := lnS_b hc
   have hb2 := lnS_b hcd
   have hm := hc.ms _ (List.getElem_mem hk)
   have hs' : lnS (bare c k).Links = lnS c.Links - (c.Links[k].length : Int) := by
    show lnS (c.Links.set k []) = _
    rw [hs]
    simp
   have k1 : k < (c.Links.map fun x => (x.length : Int)).length := by rw [List.length_map]; exact hk
   have k2 : k < ((bare c k).Links.map fun x => (x.length : Int)).length := by rw [List.length_map,hbl]; exact hk
   rw [if_neg (by rw [dF h0]; decide),if_pos h0,law_cutC,Option.bind_some,hcut,e2,ek,at_get hk,Option.bind_some,Int.toNat_natCast]
   rw [show (TConf.mk c.States (c.Links.set k []) c.Sent) = bare c k from rfl,calm_count hR,Option.bind_some,calm_count hRd,Option.bind_some,calm_loads hc,Option.bind_some,calm_loads hcd,Option.bind_some,if_pos (by rw [List.length_map]),if_pos (by rw [List.length_map,List.length_map,hbl]),at_get k1,Option.bind_some,Option.bind_some,List.getElem_map,if_pos rfl,at_get k2,Option.bind_some,List.getElem_map]
   have e3 : ∀ h : k < (bare c k).Links.length,(bare c k).Links[k] = [] := fun h => by
    have : (bare c k).Links[k]? = some [] := by
     unfold bare
     dsimp only
     rw [List.getElem?_set_self hk]
    rw [List.getElem?_eq_getElem h] at this
    exact Option.some.inj this
   rw [e3,if_pos (show (([] : List TMsg).length : Int) = 0 from rfl),hmo,if_pos rfl,if_pos rfl,if_pos rfl,calm_way hcd,Option.bind_some,calm_way hc,Option.bind_some,if_pos (by rw [wr (by omega) (by omega)]; exact hs'),calm_over hR hc,Option.bind_some]
   by_cases q : overP a c
   ·
    have q2 : overP a (bare c k) := ⟨q.1,by have := q.2; omega⟩
    rw [if_pos (dT q),calm_over hRd hcd,Option.bind_some,if_pos (dT q2),fixed14]
    rfl
   ·
    rw [if_neg (by rw [dF q]; decide),fixed14]
    rfl
 ·
  rw [if_neg (by rw [dF hR]; decide),Option.bind_some,if_pos rfl,fixed14]
  rfl
end Go.Proofs.Ytifcbecpemaieaa
