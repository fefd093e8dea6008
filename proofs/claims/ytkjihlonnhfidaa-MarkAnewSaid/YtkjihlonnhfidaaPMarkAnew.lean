/- The law MarkAnew, in plain words: true at every input. No condition. -/
import Derived.Test.YtkjihlonnhfidaaPm
set_option linter.unusedSimpArgs false
set_option linter.unusedVariables false
namespace Go.Proofs.Ytkjihlonnhfidaa
open Go.RowKit

theorem mapp_epoch (m : TMark) (a : Int) (x : TMsg) : (mapp m a x).Epoch = m.Epoch := by
  unfold mapp; split <;> rfl
theorem anew_l1 {n : Nat} {l : List TOp} (hn : n ≤ 5) : ∀ (nf k : Nat) (m : TMark), MK n k m → m.Epoch = 1 → k ≤ 20 → l.length - k < nf → ∃ m', L_law10_MarkAnew_l1 l nf (k : Int) m = some m' ∧ MK n 20 m' ∧ m'.Epoch = 1
  | 0, k, m, _, _, _, h3 => by omega
  | nf + 1, k, m, h1, he, h2, h3 => by
    rw [L_law10_MarkAnew_l1, band, Option.bind_some]
    by_cases hc : (k : Int) < (l.length : Int) ∧ (k : Int) < 20
    · have hk : k < l.length := by omega
      rw [if_pos (by simpa using hc), at_nat, List.getElem?_eq_getElem hk, Option.bind_some, mark_app (h1.w (by omega) (by omega)), Option.bind_some, wr_succ (by omega)]
      exact anew_l1 hn nf (k + 1) _ (h1.app _ _) (by rw [mapp_epoch, he]) (by omega) (by omega)
    · rw [if_neg (by simpa using hc)]
      exact ⟨m, rfl, h1.mono h2, he⟩
theorem anew_l2 {n : Nat} {a : Int} {h : THost} {r : TMark × Bool} (k0 : HK n h) (h1 : r.1.Open = (List.replicate n true).set a.toNat false) (h2 : r.1.P.In = List.replicate n []) (ha : 0 ≤ a) : ∀ (j nf k : Nat), k + j = n → j < nf → L_law10_MarkAnew_l2 a h r nf (k : Int) = some ()
  | 0, nf + 1, k, h3, h4 => by
    rw [L_law10_MarkAnew_l2, if_neg (by rw [k0.len]; omega)]
  | j + 1, nf + 1, k, h3, h4 => by
    have hk : k < n := by omega
    have := k0.le
    rw [L_law10_MarkAnew_l2, if_pos (by rw [k0.len]; omega), at_nat, at_nat, h1, h2, List.getElem?_set, List.getElem?_replicate, List.getElem?_replicate, if_pos hk, if_pos hk]
    by_cases e : a.toNat = k
    · rw [if_pos e, if_pos (by simp; omega), Option.bind_some, if_neg (by rw [decide_eq_true (by omega)]; simp), Option.bind_some, if_pos (by simp), wr_succ (by omega)]
      exact anew_l2 k0 h1 h2 ha j nf (k + 1) (by omega) (by omega)
    · rw [if_neg e, Option.bind_some, if_neg (by rw [decide_eq_false (by omega)]; simp), Option.bind_some, if_pos (by simp), wr_succ (by omega)]
      exact anew_l2 k0 h1 h2 ha j nf (k + 1) (by omega) (by omega)
theorem one_left : ∀ n, n < 6 → ∀ a, a < n → (!((List.replicate n true).set a false).contains true) = decide (n = 1) := by decide
theorem markAnew_true (a0 : Int) (a1 : List TOp) (a2 : Int) (w0 : wI .u8 a0) (w1 : wL 40 wTOp a1) (w2 : wI .i64 a2) : L_law10_MarkAnew a0 a1 a2 = some true := by
  obtain ⟨n, hn, he⟩ := ends_eq (b := 3) w0 (by omega)
  have hk := ends_hk (b := 3) hn
  have hk8 := ends_hk (b := 8) hn
  unfold L_law10_MarkAnew
  rw [he, Option.bind_some, mark_begin hk.sm hk.le8, Option.bind_some, fuel_eq]
  obtain ⟨m, h1, h2, h3⟩ := anew_l1 (l := a1) hn (a1.length + 1) 0 _ (MK.begin hk 1 0) rfl (by omega) (by omega)
  rw [show ((0 : Nat) : Int) = 0 from rfl] at h1
  rw [h1, Option.bind_some]
  have hm := h2.w (n := n) (by omega) (by omega)
  rw [mark_marker (h := ⟨1, 2, 8, List.replicate n [], List.replicate n []⟩) hk8.sm hk8.le8 (fun e => by rw [hk8.len]; exact hm), Option.bind_some, bor, Option.bind_some]
  simp only [List.length_replicate, fuel_eq]
  by_cases hc : a2 < 0 ∨ a2 ≥ (n : Int)
  · have e1 : mmark m ⟨1, 2, 8, List.replicate n [], List.replicate n []⟩ 2 a2 = (m, false) := by
      unfold mmark
      rw [hk8.len, if_pos hc]
    rw [if_pos (by simpa using hc), e1, if_neg (by simp), law10_ref, Option.bind_some, Option.bind_some, ref10_same (h2.open_sm (by omega)) hm.p, Option.bind_some, if_pos rfl, fixed10]
    rfl
  · have hb := MK.begin hk8 2 0
    have h4 : a2.toNat < n := by omega
    have e1 : mmark m ⟨1, 2, 8, List.replicate n [], List.replicate n []⟩ 2 a2 = (⟨2, (List.replicate n true).set a2.toNat false, (mbegin ⟨1, 2, 8, List.replicate n [], List.replicate n []⟩ 2).P⟩, true) := by
      unfold mmark
      rw [hk8.len, if_neg hc, if_neg (by rw [h3]; decide), h3]
      simp [mbegin]
    have hl : L_law10_MarkAnew_l2 a2 ⟨1, 2, 3, List.replicate n [], List.replicate n []⟩ (⟨2, (List.replicate n true).set a2.toNat false, (mbegin ⟨1, 2, 8, List.replicate n [], List.replicate n []⟩ 2).P⟩, true) (n + 1) 0 = some () :=
      anew_l2 hk rfl (by simp [mbegin, hpiece]) (by omega) n (n + 1) 0 (by omega) (by omega)
    rw [if_neg (by simpa using hc), e1, hl]
    rw [if_pos rfl, if_pos rfl, if_pos (by simp), if_pos (by simp [mbegin, hpiece]), if_pos (by simp [mbegin, hpiece]), Option.bind_some, mark_done (by simp [sm]; omega), Option.bind_some, fixed10]
    have := one_left n (by omega) _ h4
    rw [if_pos]
    · rfl
    · simp only [mdone, decide_true, Bool.true_and]
      rw [this]
      simp
      omega
end Go.Proofs.Ytkjihlonnhfidaa
