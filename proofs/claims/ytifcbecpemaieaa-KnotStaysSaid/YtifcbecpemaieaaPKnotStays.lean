/- The law KnotStays, in plain words: true at every input. No condition. -/
import Derived.Test.YtifcbecpemaieaaPks
import Derived.Test.YtifcbecpemaieaaGdKnotStays
set_option linter.unusedSimpArgs false
set_option linter.unusedVariables false
namespace Go.Proofs.Ytifcbecpemaieaa
open Go.RowKit

open Classical in
theorem knotStays_l2 {l r : List Int} (hl : l.length ≤ 1000) (hr : r.length ≤ 1000) (hm : ∀ x ∈ l,x ∈ r) : L_law15_KnotStays_l2 l r (((l.length : Int) - 0).toNat + 1) 0 = some () := by
 have q := loopI (σ := Unit) (F := fun nf k _ => L_law15_KnotStays_l2 l r nf k) (len := l.length) (fun _ _ => True) (fun _ _ => some ())
  (fun nf _ _ => by rw [L_law15_KnotStays_l2,if_neg (by omega)])
  (fun nf k _ hk _ ih => by
   rw [L_law15_KnotStays_l2,if_pos (by omega),at_get hk,Option.bind_some,ref_in_list _ hr,Option.bind_some,if_pos (dT (hm _ (List.getElem_mem hk))),wr_succ (by omega)]
   exact ih () trivial)
  l.length (((l.length : Int) - 0).toNat + 1) 0 () (by omega) (by omega) trivial
 exact q
open Classical in
theorem knotStays_l1 {a : TApp} (ha : SzA a) (w : TWay) {l : List Int} (hl : l.length ≤ 1000) {c : TConf} (h : CRightP a c) : L_law15_KnotStays_l1 w a (decide (heldP a c l)) (decide (ringP a c l)) l (((w.Steps.length : Int) - 0).toNat + 1) (knotOf a c) 0 c = some () := by
 have q := loopI (F := fun nf k (s : TConf) => L_law15_KnotStays_l1 w a (decide (heldP a c l)) (decide (ringP a c l)) l nf (knotOf a s) k s) (len := w.Steps.length) (fun _ s => CRightP a s ∧ (heldP a c l → heldP a s l) ∧ (ringP a c l → ringP a s l)) (fun _ _ => some ())
  (fun nf s _ => by
   rw [L_law15_KnotStays_l1,baf,if_neg (by rw [decide_eq_true_iff]; omega)])
  (fun nf k s hk ⟨hs,h1,h2⟩ ih => by
   rw [L_law15_KnotStays_l1,baf]
   by_cases h30 : k < 30
   ·
    rw [if_pos (by rw [decide_eq_true_iff]; omega),at_get hk,Option.bind_some,plain_apply hs ha,Option.bind_some,wr_succ (by omega)]
    by_cases e : (applyP a s w.Steps[k]).2 = 0
    ·
     have hd := apply_right hs ha e
     have k1 := knotOf_len hs
     have k2 := knotOf_len hd
     have g1 : heldP a c l → heldP a (applyP a s w.Steps[k]).1 l := fun q => held_step hs ha e (h1 q)
     have g2 : ringP a c l → ringP a (applyP a s w.Steps[k]).1 l := fun q => ring_step hs ha e (h2 q)
     rw [if_pos e,knot_knot hd ha,Option.bind_some,knotStays_l2 (by omega) (by omega) (fun x hx => knot_step hs ha e hx),Option.bind_some]
     have e0 : (if decide (heldP a c l) = true then
       (L_knot_Held a (applyP a s w.Steps[k]).1 l).bind fun r => if r = true then
        if decide (ringP a c l) = true then (L_knot_Ring a (applyP a s w.Steps[k]).1 l).bind fun r => some (!r) else some false
       else some true
      else if decide (ringP a c l) = true then (L_knot_Ring a (applyP a s w.Steps[k]).1 l).bind fun r => some (!r) else some false) = some false := by
      have e1 : (if decide (ringP a c l) = true then (L_knot_Ring a (applyP a s w.Steps[k]).1 l).bind fun r => some (!r) else some false) = some false := by
       by_cases q : ringP a c l
       · rw [if_pos (dT q),knot_ring hd ha hl,Option.bind_some,dT (g2 q)]; rfl
       · rw [if_neg (by rw [dF q]; decide)]
      by_cases q : heldP a c l
      · rw [if_pos (dT q),knot_held hd ha hl,Option.bind_some,if_pos (dT (g1 q)),e1]
      · rw [if_neg (by rw [dF q]; decide),e1]
     rw [e0,Option.bind_some,if_neg (by decide),Option.bind_some]
     exact ih _ ⟨hd,g1,g2⟩
    ·
     rw [if_neg e,Option.bind_some]
     exact ih _ ⟨hs,h1,h2⟩
   · rw [if_neg (by rw [decide_eq_true_iff]; omega)])
  w.Steps.length (((w.Steps.length : Int) - 0).toNat + 1) 0 c (by omega) (by omega) ⟨h,id,id⟩
 exact q
theorem knotStays_true (a0 : TApp) (a1 : TConf) (a2 : TWay) (w0 : wTApp a0) (w1 : wTConf a1) (w2 : wTWay a2) : L_law15_KnotStays a0 a1 a2 = some true := by
 classical
 unfold L_law15_KnotStays
 rw [law_cutA,Option.bind_some,law_cutC,Option.bind_some,if_pos (by omega),if_pos (by omega),Option.bind_some,take_min (i := 10) _ 10 rfl]
 have ha := cutA_sz a0
 have hc := cutC_sz a1
 have hl : (a2.Nodes.take 10).length ≤ 10 := by rw [List.length_take]; omega
 generalize cutA a0 = a at ha
 generalize cutC a1 = c at hc
 generalize a2.Nodes.take 10 = l at hl
 rw [law_app ha.t,Option.bind_some,law_conf,Option.bind_some,ref_right5 ha hc,Option.bind_some]
 by_cases hR : CRightP a c
 ·
  rw [if_pos (dT hR),knot_knot hR ha,Option.bind_some,knot_held hR ha (by omega),Option.bind_some,knot_ring hR ha (by omega),Option.bind_some,knotStays_l1 ha a2 (by omega) hR,Option.bind_some,fixed15]
  rfl
 ·
  rw [if_neg (by rw [dF hR]; decide),plain_right ha hc,Option.bind_some,if_neg (by rw [dF hR]; decide),fixed15]
  rfl
end Go.Proofs.Ytifcbecpemaieaa
