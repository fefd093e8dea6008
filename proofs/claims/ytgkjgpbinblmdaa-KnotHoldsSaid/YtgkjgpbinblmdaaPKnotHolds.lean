/- The law KnotHolds, in plain words: true at every input. No condition. -/
import Derived.Test.YtgkjgpbinblmdaaPkd
import Derived.Test.YtgkjgpbinblmdaaGdKnotHolds
set_option linter.unusedSimpArgs false
set_option linter.unusedVariables false
namespace Go.Proofs.Ytgkjgpbinblmdaa
open Go.RowKit

theorem cutC_cut (c : TConf) : cutC (cutC c) = cutC c := by
  unfold cutC
  simp only [List.take_take, Nat.min_self, ← List.map_take, List.map_map]
  congr 1
  refine List.map_congr_left fun x _ => ?_
  simp [List.take_take]
theorem flatMap_cong {α β : Type} : ∀ {l : List α} {f g : α → List β}, (∀ x ∈ l, f x = g x) → l.flatMap f = l.flatMap g
  | [], _, _, _ => rfl
  | x :: l, f, g, h => by rw [List.flatMap_cons, List.flatMap_cons, h x (by simp), flatMap_cong fun y hy => h y (by simp [hy])]
/-- One more message on a link. -/
def moreC (c : TConf) (j : Nat) (z : Int) (l : List TMsg) : TConf := ⟨c.States, c.Links.set j (l ++ [⟨z + 1, 0⟩]), c.Sent.set j (z + 1)⟩
section
variable {a : TApp} {c : TConf}
theorem more_right (h : CRightP a c) {j : Nat} {z : Int} (hz : c.Sent[j]? = some z) (hl : c.Links[j]? = some []) (h5 : z < 500) : CRightP a (moreC c j z []) := by
  have hj := (List.getElem?_eq_some_iff.1 hl).1
  have hjs := (List.getElem?_eq_some_iff.1 hz).1
  refine ⟨h.tab, h.nst, by unfold moreC; simp [h.nli], by unfold moreC; simp [h.nse], h.sts, fun l ms y hm hy => ?_⟩
  unfold moreC at hm hy
  dsimp only at hm hy
  rw [List.getElem?_set] at hm hy
  by_cases e : j = l
  · subst e
    rw [if_pos rfl, if_pos hj] at hm
    rw [if_pos rfl, if_pos hjs] at hy
    injection hm with hm
    injection hy with hy
    have := h.lnk j [] z hl hz
    subst hm hy
    refine ⟨by have := this.1; omega, by omega, ?_⟩
    have h0 := this.1
    refine ⟨?_, ?_, ?_, ?_, trivial⟩
    · show (0 : Int) < z + 1; omega
    · show z + 1 ≤ z + 1; omega
    · show (0 : Int) ≤ 0; omega
    · show (0 : Int) ≤ 3; omega
  · rw [if_neg e] at hm hy
    exact h.lnk l ms y hm hy
theorem more_edges (h : CRightP a c) (ha : SzA a) {j : Nat} {z : Int} {e : A2I} (hf : find a.G e.a1 e.a0 = j) (hl : c.Links[j]? = some []) : edgesOf a (moreC c j z []) = (edgesOf a c).filter fun x => x ≠ e := by
  have hj := (List.getElem?_eq_some_iff.1 hl).1
  unfold edgesOf
  rw [List.filter_flatMap]
  refine flatMap_cong fun n hn => ?_
  have hn' : n < c.States.length := List.mem_range.1 hn
  have hw : waitsAt a (moreC c j z []) n = waitsAt a c n := rfl
  rw [hw, List.filter_map, List.filter_filter]
  congr 1
  refine List.filter_congr fun w hwm => ?_
  have h0 := (h.waits ha hn').fnd w hwm
  obtain ⟨i, hi1, hi2, hi3⟩ := find_lt h0
  obtain ⟨j', hj1, hj2, hj3⟩ := find_lt (g := a.G) (a := e.a1) (b := e.a0) (by omega)
  have hjj : j' = j := by omega
  subst hjj
  unfold freeB
  rw [hi1, Int.toNat_natCast]
  unfold moreC
  dsimp only
  rw [List.getElem?_set]
  by_cases q : j' = i
  · subst q
    rw [hi3] at hj3
    injection hj3 with hj3
    injection hj3 with e1 e2
    have ee : A2I.mk n w = e := by rw [e1, e2]
    rw [if_pos rfl, if_pos hj]
    have : ((fun x => decide (x ≠ e)) ∘ A2I.mk (n : Int)) w = false := by
      show decide (A2I.mk n w ≠ e) = false
      exact dF' ee
    rw [this, Bool.false_and]
    exact Bool.and_false _
  · have ne : A2I.mk n w ≠ e := fun ee => by
      subst ee
      dsimp only at hj1
      omega
    rw [if_neg q]
    have : ((fun x => decide (x ≠ e)) ∘ A2I.mk (n : Int)) w = true := by
      show decide (A2I.mk n w ≠ e) = true
      exact dT' ne
    rw [this, Bool.true_and]
theorem filter_ne {l : List A2I} (hn : l.Nodup) {e : A2I} (he : e ∈ l) : (l.filter fun x => x ≠ e).length = l.length - 1 := by
  rw [← List.length_erase_of_mem he, hn.erase_eq_filter]
  congr 1
  exact List.filter_congr fun x _ => by by_cases q : x = e <;> simp [q]
theorem knotHolds_l1 (h : CRightP a c) (ha : SzA a) : L_law15_KnotHolds_l1 a c (knotOf a c) ((((knotOf a c).length : Int) - 0).toNat + 1) 0 = some () := by
  have hk := knotOf_len h
  have hN := h.nst
  have q := loopI (σ := Unit) (F := fun nf k _ => L_law15_KnotHolds_l1 a c (knotOf a c) nf k) (len := (knotOf a c).length) (fun _ _ => True) (fun _ _ => some ())
    (fun nf s _ => by rw [L_law15_KnotHolds_l1, if_neg (by omega)])
    (fun nf k s hk _ ih => by
      obtain ⟨n, e1, e2, e3⟩ := knot_blocked h ha (List.getElem_mem hk)
      rw [List.getElem?_eq_getElem e2, Option.getD_some] at e3
      rw [L_law15_KnotHolds_l1, if_pos (by omega), at_get hk, Option.bind_some, e1, if_neg (by omega), if_neg (by omega), at_get e2, Option.bind_some, table_mode, Option.bind_some, if_pos e3, wr_succ (by omega)]
      exact ih () trivial)
    (knotOf a c).length ((((knotOf a c).length : Int) - 0).toNat + 1) 0 () (by omega) (by omega) trivial
  exact q
theorem knotHolds_l2 {r l : List Int} (hr : r.length ≤ 1000) (hl : l.length ≤ 1000) (hm : ∀ n ∈ l, n ∈ r) : L_law15_KnotHolds_l2 r l (((l.length : Int) - 0).toNat + 1) 0 = some () := by
  have q := loopI (σ := Unit) (F := fun nf k _ => L_law15_KnotHolds_l2 r l nf k) (len := l.length) (fun _ _ => True) (fun _ _ => some ())
    (fun nf s _ => by rw [L_law15_KnotHolds_l2, if_neg (by omega)])
    (fun nf k s hk _ ih => by
      rw [L_law15_KnotHolds_l2, if_pos (by omega), at_get hk, Option.bind_some, ref_in_list _ hr, Option.bind_some, if_pos (dT (hm _ (List.getElem_mem hk))), wr_succ (by omega)]
      exact ih () trivial)
    l.length (((l.length : Int) - 0).toNat + 1) 0 () (by omega) (by omega) trivial
  exact q
theorem knotHolds_l4 {l : List A2I} {e : A2I} (hl : l.length ≤ 1000) (hm : e ∉ l) : L_law15_KnotHolds_l4 l e (((l.length : Int) - 0).toNat + 1) 0 = some () := by
  have q := loopI (σ := Unit) (F := fun nf k _ => L_law15_KnotHolds_l4 l e nf k) (len := l.length) (fun _ _ => True) (fun _ _ => some ())
    (fun nf s _ => by rw [L_law15_KnotHolds_l4, if_neg (by omega)])
    (fun nf k s hk _ ih => by
      rw [L_law15_KnotHolds_l4, if_pos (by omega), at_get hk, Option.bind_some, if_neg (fun q : l[k] = e => hm (q ▸ List.getElem_mem hk)), wr_succ (by omega)]
      exact ih () trivial)
    l.length (((l.length : Int) - 0).toNat + 1) 0 () (by omega) (by omega) trivial
  exact q
theorem knotHolds_l3 (h : CRightP a c) (ha : SzA a) (hcut : cutC c = c) : ∃ b, L_law15_KnotHolds_l3 a c (edgesOf a c) ((((edgesOf a c).length : Int) - 0).toNat + 1) 0 = some b ∧ (b = .inl () ∨ b = .inr true) := by
  have hel := edges_len h ha
  have hg := ha.g
  exact loopE (σ := Unit) (F := fun nf k _ => L_law15_KnotHolds_l3 a c (edgesOf a c) nf k) (len := (edgesOf a c).length) (fun _ _ => True) (fun b => b = .inl () ∨ b = .inr true)
    (fun nf s _ => ⟨.inl (), by rw [L_law15_KnotHolds_l3, if_neg (by omega)], .inl rfl⟩)
    (fun nf k s hk _ ih => by
      have hm : (edgesOf a c)[k] ∈ edgesOf a c := List.getElem_mem hk
      have he : edgeB a c (edgesOf a c)[k].a0 (edgesOf a c)[k].a1 = true := (mem_edges _ _).1 hm
      obtain ⟨n, w, e1, e2, e3, e4, e5, e6⟩ := h.edge ha he
      have ef := (h.waits ha e3).fnd _ e5
      rw [← e1] at ef e6
      obtain ⟨j, hj1, hj2, hj3⟩ := find_lt ef
      have hjl : j < c.Links.length := by rw [h.nli]; exact hj2
      have hjs : j < c.Sent.length := by rw [h.nse]; exact hj2
      have hlk : c.Links[j]? = some [] := by
        unfold freeB at e6
        rw [hj1, Int.toNat_natCast, Bool.and_eq_true] at e6
        have := e6.2
        rw [List.getElem?_eq_getElem hjl] at this ⊢
        cases e : c.Links[j] with
        | nil => rfl
        | cons x y => rw [e] at this; exact absurd this (by simp [isE])
      have hlk' : c.Links[j] = [] := by
        rw [List.getElem?_eq_getElem hjl] at hlk
        exact Option.some.inj hlk
      have hz := List.getElem?_eq_getElem hjs
      have hz0 := (h.lnk j _ _ hlk hz).1
      rw [L_law15_KnotHolds_l3, if_pos (by omega), at_get hk, Option.bind_some, graph_find _ _ (by omega), Option.bind_some, hj1, if_neg (by omega), if_neg (by omega), at_get hjs, Option.bind_some, Option.bind_some, wr_succ (show k < 9223372036854775807 by omega)]
      by_cases q : c.Sent[j] ≥ 500
      · refine ⟨.inr true, ?_, .inr rfl⟩
        rw [if_pos (dT q), if_pos (by omega), if_pos (by omega), fixed15, Option.bind_some, Option.bind_some]
      · rw [if_neg (by rw [dF q]; decide), law_cutC, Option.bind_some, hcut, at_get hjs, Option.bind_some, at_get hjl, Option.bind_some, Option.bind_some, Int.toNat_natCast, wr (by omega) (by omega), at_get (show j < (c.Sent.set j (c.Sent[j] + 1)).length by rw [List.length_set]; exact hjs), Option.bind_some, List.getElem_set_self, hlk', if_pos (by decide)]
        have hR := more_right h hz hlk (by omega)
        have hE := more_edges (z := c.Sent[j]) h ha hj1 hlk
        have hkE := knot_edges hR ha
        rw [hE] at hkE
        have hlen := filter_ne (edges_nodup h ha) hm
        have hne : (edgesOf a c)[k] ∉ (edgesOf a c).filter fun x => x ≠ (edgesOf a c)[k] := fun q => by
          simpa using (List.mem_filter.1 q).2
        unfold moreC at hkE
        rw [hkE, Option.bind_some, wr (by omega) (by omega), if_pos (by omega), knotHolds_l4 (by omega) hne, Option.bind_some, Option.bind_some]
        exact ih () trivial)
    (edgesOf a c).length ((((edgesOf a c).length : Int) - 0).toNat + 1) 0 () (by omega) (by omega) trivial
end
theorem knotHolds_true (a0 : TApp) (a1 : TConf) (a2 : List Int) (w0 : wTApp a0) (w1 : wTConf a1) (w2 : (wL 8 (wI .i64)) a2) : L_law15_KnotHolds a0 a1 a2 = some true := by
  classical
  unfold L_law15_KnotHolds
  rw [law_cutA, Option.bind_some, law_cutC, Option.bind_some, if_pos (by omega), if_pos (by omega), Option.bind_some, take_min (i := 10) _ 10 rfl]
  have ha := cutA_sz a0
  have hc := cutC_sz a1
  have hcut := cutC_cut a1
  have hl : (a2.take 10).length ≤ 10 := by rw [List.length_take]; omega
  generalize cutA a0 = a at ha
  generalize cutC a1 = c at hc hcut
  generalize a2.take 10 = l at hl
  rw [law_app ha.t, Option.bind_some, law_conf, Option.bind_some, ref_right5 ha hc, Option.bind_some]
  by_cases hR : CRightP a c
  · have hk := knotOf_len hR
    have e0 : decide (((knotOf a c).length : Int) > 0) = decide (heldP a c (knotOf a c)) := ddec ⟨fun g => (knot_helds hR ha).2 fun e => by rw [e] at g; simp at g, fun g => by
      have := List.length_pos_iff.2 ((knot_helds hR ha).1 g)
      omega⟩
    rw [if_pos (dT hR), knot_knot hR ha, Option.bind_some, knot_held hR ha (by omega), Option.bind_some, if_pos e0, knotHolds_l1 hR ha, Option.bind_some, knot_ring hR ha (by omega), Option.bind_some]
    obtain ⟨b, q1, q2⟩ := knotHolds_l3 hR ha hcut
    have fin : ((L_knot_Edges a c).bind fun r3978 => ((L_law15_KnotHolds_l3 a c r3978 (((r3978.length : Int) - 0).toNat + 1) 0) : Option (Unit ⊕ Bool)).bind fun e4727 => match e4727 with
            | (.inl _) => (L_law15_fixed).bind fun r5611 => some r5611
            | (.inr q5613) => some q5613) = some true := by
      rw [knot_edges hR ha, Option.bind_some, q1, Option.bind_some]
      rcases q2 with q2 | q2
      · rw [q2, fixed15]; rfl
      · rw [q2]
    by_cases r : ringP a c l
    · rw [if_pos (dT r), knotHolds_l2 (by omega) (by omega) (ring_knot hR ha r), Option.bind_some, knot_held hR ha (by omega), Option.bind_some, if_pos (dT (ring_held r)), Option.bind_some]
      exact fin
    · rw [if_neg (by rw [dF r]; decide), Option.bind_some]
      exact fin
  · rw [if_neg (by rw [dF hR]; decide), plain_right ha hc, Option.bind_some, if_neg (by rw [dF hR]; decide), fixed15]
    rfl
end Go.Proofs.Ytgkjgpbinblmdaa
