/- The law CalmTells, in plain words: true at every input. No condition. -/
import Derived.Test.YtifcbecpemaieaaPqa
import Derived.Test.YtifcbecpemaieaaGdCalmTells
set_option linter.unusedSimpArgs false
set_option linter.unusedVariables false
namespace Go.Proofs.Ytifcbecpemaieaa
open Go.RowKit

theorem ref14_count {a : TApp} {c : TConf} (h : CRightP a c) (i : Fin 3) : L_ref14_Count a c (mI i) = some (mcnt i (mo a c)) := by
 have h6 := h.tab.1.2.1
 have hN := h.nst
 have hlen := mo_len a c
 unfold L_ref14_Count
 have q := loopI (F := fun nf k (s : Int) => L_ref14_Count_l1 a c (mI i) nf s k) (len := c.States.length) (fun k s => s = mcnt i ((mo a c).take k)) (fun _ _ => some (mcnt i (mo a c)))
  (fun nf s hs => by
   rw [L_ref14_Count_l1,if_neg (by omega),hs,List.take_of_length_le (by omega)])
  (fun nf k s hk hs ih => by
   have hb := mcnt_le i ((mo a c).take k)
   rw [List.length_take] at hb
   have hm := h.mode k _ (List.getElem?_eq_getElem hk)
   have hg := modesL_get a.T 0 c.States k
   rw [List.getElem?_eq_getElem hk,Nat.zero_add] at hg
   have hkl : k < (mo a c).length := by omega
   have e1 : (mo a c)[k] = mF (stOf a.T (k : Int) c.States[k]).Mode := by
    have : (mo a c)[k]? = some (mF (stOf a.T (k : Int) c.States[k]).Mode) := hg
    rw [List.getElem?_eq_getElem hkl] at this
    exact Option.some.inj this
   have e2 : mcnt i ((mo a c).take (k + 1)) = if (mo a c)[k] = i then mcnt i ((mo a c).take k) + 1 else mcnt i ((mo a c).take k) := by
    rw [List.take_succ_eq_append_getElem hkl,mcnt_snoc]
   have e3 : (stOf a.T (k : Int) c.States[k]).Mode = mI i ↔ (mo a c)[k] = i := by
    rw [e1]
    constructor
    ·
     intro e
     refine Fin.ext ?_
     have := mF_val hm
     have e4 : (((mF (stOf a.T (k : Int) c.States[k]).Mode).val : Nat) : Int) = ((i.val : Nat) : Int) := this.trans e
     omega
    ·
     intro e
     rw [← e]
     exact (mF_val hm).symm
   rw [L_ref14_Count_l1,if_pos (by omega),at_get hk,Option.bind_some,ref_at,Option.bind_some,wr_succ (by omega)]
   by_cases q : (stOf a.T (k : Int) c.States[k]).Mode = mI i
   ·
    rw [if_pos q,Option.bind_some,hs,wr (by omega) (by omega)]
    exact ih _ (by rw [e2,if_pos (e3.1 q)])
   ·
    rw [if_neg q,Option.bind_some]
    exact ih _ (by rw [e2,if_neg fun r => q (e3.2 r),hs]))
  c.States.length (((c.States.length : Int) - 0).toNat + 1) 0 0 (by omega) (by omega) (by simp [mcnt])
 exact q
theorem ref14_way {c : TConf} (hc : SzC c) : L_ref14_Way c = some (lnS c.Links) := by
 have hl := hc.li
 unfold L_ref14_Way
 have q := sum_l1 (F := fun nf k s => L_ref14_Way_l1 c nf s k) (l := c.Links.map fun x => (x.length : Int)) (lens_b hc) (by rw [List.length_map]; omega)
  (fun nf s => by rw [L_ref14_Way_l1,if_neg (by rw [List.length_map]; omega)])
  (fun nf k s hk => by
   rw [List.length_map] at hk
   rw [L_ref14_Way_l1,if_pos (by omega),at_get hk,Option.bind_some,wr_succ (by omega),List.getElem_map])
 rw [List.length_map] at q
 exact q
theorem ref14_loads {c : TConf} (hc : SzC c) : L_ref14_Loads c = some (c.Links.map fun x => (x.length : Int)) := by
 have hl := hc.li
 unfold L_ref14_Loads
 have h := loopMap (F := fun nf n acc => L_ref14_Loads_l1 c nf n acc) (l := c.Links) (fun x => [(x.length : Int)]) id 1 (by simp)
  (fun nf acc h => by rw [L_ref14_Loads_l1,if_neg (by omega)]; rfl)
  (fun nf k acc hk h2 => by
   rw [L_ref14_Loads_l1,if_pos (by omega),at_get hk,Option.bind_some,if_pos (by omega),wr_succ (by omega)])
  c.Links.length (((c.Links.length : Int) - 0).toNat + 1) 0 [] (by simp) (by omega) (by simp)
 rw [flatMap_one,List.drop_zero,List.nil_append] at h
 exact h
theorem mcnt_zero {i : Fin 3} {l : List (Fin 3)} : mcnt i l = 0 ↔ i ∉ l := by
 unfold mcnt
 rw [show ((l.count i : Nat) : Int) = 0 ↔ l.count i = 0 by omega,List.count_eq_zero]
theorem over_iff {a : TApp} {c : TConf} : overP a c ↔ mcnt 1 (mo a c) = 0 ∧ mcnt 2 (mo a c) = 0 ∧ lnS c.Links = 0 := by
 unfold overP
 rw [mcnt_zero,mcnt_zero]
 constructor
 ·
  rintro ⟨h1,h2⟩
  exact ⟨fun q => absurd (h1 _ q) (by decide),fun q => absurd (h1 _ q) (by decide),h2⟩
 ·
  rintro ⟨h1,h2,h3⟩
  refine ⟨fun m hm => ?_,h3⟩
  match m with
  | 0 => rfl
  | 1 => exact absurd hm h1
  | 2 => exact absurd hm h2
open Classical in
theorem ref14_over {a : TApp} {c : TConf} (h : CRightP a c) (hc : SzC c) : L_ref14_Over a c = some (decide (overP a c)) := by
 unfold L_ref14_Over
 have e1 : L_ref14_Count a c 1 = some (mcnt 1 (mo a c)) := ref14_count h 1
 have e2 : L_ref14_Count a c 2 = some (mcnt 2 (mo a c)) := ref14_count h 2
 rw [e1,Option.bind_some,e2,Option.bind_some,ref14_way hc,Option.bind_some]
 by_cases q1 : mcnt 1 (mo a c) = 0
 ·
  rw [if_pos q1]
  by_cases q2 : mcnt 2 (mo a c) = 0
  ·
   rw [if_pos q2]
   try rw [Option.bind_some]
   exact sdec ⟨fun e => over_iff.2 ⟨q1,q2,e⟩,fun e => (over_iff.1 e).2.2⟩
  ·
   rw [if_neg q2]
   try rw [Option.bind_some]
   exact sF fun e => q2 (over_iff.1 e).2.1
 ·
  rw [if_neg q1]
  try rw [Option.bind_some]
  exact sF fun e => q1 (over_iff.1 e).1
theorem calmTells_true (a0 : TApp) (a1 : TConf) (w0 : wTApp a0) (w1 : wTConf a1) : L_law14_CalmTells a0 a1 = some true := by
 classical
 unfold L_law14_CalmTells
 rw [law_cutA,Option.bind_some,law_cutC,Option.bind_some]
 have ha := cutA_sz a0
 have hc := cutC_sz a1
 generalize cutA a0 = a at ha
 generalize cutC a1 = c at hc
 rw [law_app ha.t,Option.bind_some,law_conf,Option.bind_some,ref_right5 ha hc,Option.bind_some]
 by_cases hR : CRightP a c
 ·
  have e0 : L_ref14_Count a c 0 = some (mcnt 0 (mo a c)) := ref14_count hR 0
  have e1 : L_ref14_Count a c 1 = some (mcnt 1 (mo a c)) := ref14_count hR 1
  have e2 : L_ref14_Count a c 2 = some (mcnt 2 (mo a c)) := ref14_count hR 2
  have hs := mcnt_sum (mo a c)
  have hl := mo_len a c
  have hN := hR.nst
  have h6 := hR.tab.1.2.1
  have b0 := mcnt_le 0 (mo a c)
  have b1 := mcnt_le 1 (mo a c)
  have b2 := mcnt_le 2 (mo a c)
  have hli := hc.li
  rw [if_pos (dT hR),calm_count hR,Option.bind_some,calm_over hR hc,Option.bind_some,ref14_over hR hc,Option.bind_some,if_pos rfl,e0,Option.bind_some,if_pos rfl,e1,Option.bind_some,if_pos rfl,e2,Option.bind_some,if_pos rfl]
  dsimp only
  rw [wr (n := mcnt 0 (mo a c) + mcnt 1 (mo a c)) (by omega) (by omega),wr (by omega) (by omega),if_pos (by omega),calm_way hc,Option.bind_some,ref14_way hc,Option.bind_some,if_pos rfl,calm_loads hc,Option.bind_some,ref14_loads hc,Option.bind_some,ints_same (by rw [List.length_map]; omega),Option.bind_some,if_pos rfl,fixed14]
  rfl
 ·
  rw [if_neg (by rw [dF hR]; decide),plain_right ha hc,Option.bind_some,if_neg (by rw [dF hR]; decide),fixed14]
  rfl
end Go.Proofs.Ytifcbecpemaieaa
