/- The law MarkEnds, in plain words: true at every input. No condition. -/
import Derived.Test.YtkjihlonnhfidaaPm
set_option linter.unusedSimpArgs false
set_option linter.unusedVariables false
namespace Go.Proofs.Ytkjihlonnhfidaa
open Go.RowKit

/-- A mark of epoch 1 that is done. -/
structure Shut (n : Nat) (m : TMark) : Prop where
  k : MK n 0 m
  e : m.Epoch = 1
  s : m.Open = List.replicate n false
theorem ends_l1 {n : Nat} {h : THost} (k0 : HK n h) : ∀ (j nf k : Nat) (m : TMark), k + j = n → j < nf → MK n 0 m → m.Epoch = 1 → m.Open = List.replicate j true ++ List.replicate k false →
    ∃ m', L_law10_MarkEnds_l1 h nf (k : Int) m = some m' ∧ Shut n m'
  | 0, nf + 1, k, m, h1, h2, h3, h4, h5 => by
    rw [L_law10_MarkEnds_l1, if_neg (by rw [k0.len]; omega)]
    exact ⟨m, rfl, h3, h4, by rw [h5]; simp; omega⟩
  | j + 1, nf + 1, k, m, h1, h2, h3, h4, h5 => by
    have h6 := k0.le
    have hlen := k0.len
    have e1 : IntKind.wrap .i64 (IntKind.wrap .i64 ((h.In.length : Int) - 1) - (k : Int)) = (j : Int) := by
      rw [hlen, wr (n := (n : Int) - 1) (by omega) (by omega), wr (by omega) (by omega)]
      omega
    rw [L_law10_MarkEnds_l1, if_pos (by omega), e1, mark_marker k0.sm k0.le8 (fun _ => by rw [hlen]; exact h3.w (by omega) (by omega)), Option.bind_some, mmark_in k0 h4 (by omega) (by omega), wr_succ (by omega)]
    refine ends_l1 k0 j nf (k + 1) _ (by omega) (by omega) ⟨by simpa using h3.op, h3.len, h3.rows, h3.sent, h3.out⟩ h4 ?_
    simp only [h5, Int.toNat_natCast]
    rw [List.set_append_left _ _ (by simp), List.replicate_succ' (n := j), List.set_append_right _ _ (by simp)]
    simp [List.replicate_succ]
theorem Shut.mapp {n : Nat} {m : TMark} (h : Shut n m) (a : Int) (x : TMsg) : mapp m a x = m := by
  unfold Go.Proofs.Ytkjihlonnhfidaa.mapp
  rw [if_neg]
  rw [h.s, List.getElem?_replicate]
  split <;> simp
theorem Shut.mmark {n : Nat} {m : TMark} {h : THost} (k0 : HK n h) (hs : Shut n m) (a : Int) : mmark m h 1 a = (m, false) := by
  by_cases ha : a < 0 ∨ a ≥ (n : Int)
  · unfold Go.Proofs.Ytkjihlonnhfidaa.mmark
    rw [k0.len, if_pos ha]
  · rw [mmark_in k0 hs.e (by omega) (by omega), hs.s]
    have : (List.replicate n false).set a.toNat false = m.Open := by
      rw [hs.s]
      apply List.ext_getElem? 
      intro i
      rw [List.getElem?_set, List.getElem?_replicate]
      by_cases hi : a.toNat = i
      · subst hi
        simp
      · simp [hi]
    rw [this]
theorem ends_l2 {n : Nat} {l : List TOp} {h : THost} {m : TMark} (k0 : HK n h) (hs : Shut n m) : ∀ (nf k : Nat), k ≤ 30 → l.length - k < nf → L_law10_MarkEnds_l2 l m h nf (k : Int) m = some m
  | 0, k, _, h3 => by omega
  | nf + 1, k, h2, h3 => by
    have hn := k0.le
    have hw := hs.k.w (by omega) (by omega)
    rw [L_law10_MarkEnds_l2, band, Option.bind_some]
    by_cases hc : (k : Int) < (l.length : Int) ∧ (k : Int) < 30
    · have hk : k < l.length := by omega
      rw [if_pos (by simpa using hc), at_nat, List.getElem?_eq_getElem hk, Option.bind_some, mark_marker k0.sm k0.le8 (fun _ => by rw [k0.len]; exact hw), hs.mmark k0, mark_app hw, hs.mapp]
      have e : (if l[k].Marker = true then (some (m, false)).bind (fun r : TMark × Bool => if r.2 = true then none else some r.1) else (some m).bind fun r => some r) = some m := by
        split <;> simp
      rw [e, Option.bind_some, law10_ref, Option.bind_some, ref10_same (hs.k.open_sm (by omega)) hw.p, Option.bind_some, if_pos rfl, wr_succ (by omega)]
      exact ends_l2 k0 hs nf (k + 1) (by omega) (by omega)
    · rw [if_neg (by simpa using hc)]
theorem one_left' : ∀ n, n < 6 → 0 < n → (!((List.replicate n true).set 0 false).contains true) = decide (n = 1) := by decide
theorem markEnds_true (a0 : Int) (a1 : List TOp) (w0 : wI .u8 a0) (w1 : wL 40 wTOp a1) : L_law10_MarkEnds a0 a1 = some true := by
  obtain ⟨n, hn, he⟩ := ends_eq (b := 0) w0 (by omega)
  have hk := ends_hk (b := 0) hn
  unfold L_law10_MarkEnds
  rw [he, Option.bind_some, mark_begin hk.sm hk.le8, Option.bind_some, fuel_eq]
  obtain ⟨m, h1, h2⟩ := ends_l1 hk n (n + 1) 0 _ (by omega) (by omega) (MK.begin hk 1 0) rfl (by simp [mbegin])
  have h1' : L_law10_MarkEnds_l1 ⟨1, 2, 0, List.replicate n [], List.replicate n []⟩ ((List.replicate n ([] : List TMsg)).length + 1) 0 (mbegin ⟨1, 2, 0, List.replicate n [], List.replicate n []⟩ 1) = some m := by
    rw [List.length_replicate]
    exact h1
  have hw := h2.k.w (by omega) (by omega)
  rw [h1', Option.bind_some, mark_done (h2.k.open_sm (by omega)), Option.bind_some]
  have hd : mdone m 1 = true := by
    simp [mdone, h2.e, h2.s]
  have h3 : L_law10_MarkEnds_l2 a1 m ⟨1, 2, 0, List.replicate n [], List.replicate n []⟩ (a1.length + 1) 0 m = some m := ends_l2 hk h2 _ 0 (by omega) (by omega)
  rw [if_pos hd, law10_ref, Option.bind_some, fuel_eq, h3, Option.bind_some, fixed10]
  simp only [List.length_replicate]
  by_cases hz : n = 0
  · rw [if_pos (by omega)]
    rfl
  · rw [if_neg (by omega), mark_marker hk.sm hk.le8 (fun e => by rw [h2.e] at e; cases e), Option.bind_some]
    have e1 : mmark m ⟨1, 2, 0, List.replicate n [], List.replicate n []⟩ 2 0 = (⟨2, (List.replicate n true).set 0 false, (mbegin ⟨1, 2, 0, List.replicate n [], List.replicate n []⟩ 2).P⟩, true) := by
      unfold mmark
      rw [hk.len, if_neg (by omega), if_neg (by rw [h2.e]; decide), h2.e]
      simp [mbegin]
    rw [e1]
    have hb := MK.begin hk 2 0
    have hb' : MK n 0 ⟨2, (List.replicate n true).set 0 false, (mbegin ⟨1, 2, 0, List.replicate n [], List.replicate n []⟩ 2).P⟩ := ⟨by simp, hb.len, hb.rows, hb.sent, hb.out⟩
    rw [mark_marker hk.sm hk.le8 (fun _ => by rw [hk.len]; exact hb'.w (by omega) (by omega)), Option.bind_some, wr (by omega) (by omega), mmark_in hk rfl (by omega) (by omega)]
    rw [if_pos rfl, if_neg (by simp), if_pos rfl, mark_done (by simp [sm]; omega), Option.bind_some, if_pos]
    · rfl
    · simp only [mdone, decide_true, Bool.true_and]
      rw [one_left' n (by omega) (by omega)]
      simp
      omega
end Go.Proofs.Ytkjihlonnhfidaa
