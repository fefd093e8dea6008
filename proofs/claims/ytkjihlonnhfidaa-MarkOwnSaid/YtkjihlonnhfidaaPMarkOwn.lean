/- The law MarkOwn, in plain words: true at every input. No condition. -/
import Derived.Test.YtkjihlonnhfidaaPm
set_option linter.unusedSimpArgs false
set_option linter.unusedVariables false
namespace Go.Proofs.Ytkjihlonnhfidaa
open Go.RowKit

theorem own_l2 {m : TMark} (hs : smR m.P.In) : ∀ (n nf k : Nat) (acc : List (List TMsg)), k + n = m.P.In.length → n < nf → acc.length = k → L_law10_MarkOwn_l2 m nf (k : Int) acc = some (acc ++ m.P.In.drop k)
  | 0, nf + 1, k, acc, h1, h2, h3 => by
    rw [L_law10_MarkOwn_l2, if_neg (by omega), List.drop_of_length_le (by omega)]
    simp
  | n + 1, nf + 1, k, acc, h1, h2, h3 => by
    have hk : k < m.P.In.length := by omega
    have h4 := hs.1
    have h5 := hs.2 _ (List.getElem_mem hk)
    unfold sm at h4 h5
    rw [L_law10_MarkOwn_l2, if_pos (by omega), at_nat, List.getElem?_eq_getElem hk, Option.bind_some, if_pos (by omega), if_pos (by omega), wr_succ (by omega), own_l2 hs n nf (k + 1) _ (by omega) (by omega) (by simp [h3]), List.drop_eq_getElem_cons hk, List.append_assoc, List.singleton_append]
theorem own_l1 {n : Nat} {l : List TOp} {h : THost} (k0 : HK n h) : ∀ (nf k : Nat) (m : TMark), MK n k m → k ≤ 20 → l.length - k < nf → L_law10_MarkOwn_l1 l h nf (k : Int) m = some ()
  | 0, k, m, _, _, h3 => by omega
  | nf + 1, k, m, h1, h2, h3 => by
    have hw := h1.w (by have := k0.le; omega) (by omega)
    have hso : sm m.Open.length := h1.open_sm (by have := k0.le; omega)
    rw [L_law10_MarkOwn_l1, band, Option.bind_some]
    by_cases hc : (k : Int) < (l.length : Int) ∧ (k : Int) < 20
    · rw [if_pos (by simpa using hc)]
      have hk : k < l.length := by omega
      have hl2 : L_law10_MarkOwn_l2 m (m.P.In.length + 1) 0 [] = some ([] ++ m.P.In.drop 0) := own_l2 hw.p.2.1 m.P.In.length (m.P.In.length + 1) 0 [] (by simp) (by omega) rfl
      have hso' := hso
      unfold sm at hso'
      rw [if_pos (by omega), law10_ref, Option.bind_some, fuel_eq, hl2, Option.bind_some, at_nat, List.getElem?_eq_getElem hk, Option.bind_some]
      simp only [List.nil_append, List.drop_zero]
      rw [mark_app hw, Option.bind_some, mark_app hw, Option.bind_some, mark_marker k0.sm k0.le8 (fun _ => by rw [k0.len]; exact hw), Option.bind_some, ref10_same hso hw.p, Option.bind_some, if_pos rfl]
      have hnext : ∀ m', MK n (k + 1) m' → L_law10_MarkOwn_l1 l h nf (IntKind.wrap .i64 ((k : Int) + 1)) m' = some () := fun m' hm' => by
        rw [wr_succ (by omega)]
        exact own_l1 k0 nf (k + 1) m' hm' (by omega) (by omega)
      have hin : ((if l[k].At ≥ 0 then if l[k].At < (m.Open.length : Int) then (at? m.Open l[k].At).bind fun x4644 => some x4644 else some false else some false)) = some (decide (0 ≤ l[k].At ∧ m.Open[l[k].At.toNat]? = some true)) := by
        by_cases h0 : 0 ≤ l[k].At
        · rw [if_pos h0]
          by_cases h4 : l[k].At < (m.Open.length : Int)
          · rw [if_pos h4, at_lt h0 h4, Option.bind_some, List.getElem?_eq_getElem (by omega)]
            simp [h0]
          · rw [if_neg h4, List.getElem?_eq_none (by omega)]
            simp
        · rw [if_neg (by omega)]
          simp [h0]
      rw [hin, Option.bind_some]
      have fin : ((if l[k].Marker = true then some (mmark m h 1 l[k].At).1 else some (mapp m l[k].At l[k].M)).bind fun m4437 => L_law10_MarkOwn_l1 l h nf (IntKind.wrap .i64 ((k : Int) + 1)) m4437) = some () := by
        by_cases hm : l[k].Marker = true
        · rw [if_pos hm, Option.bind_some]
          exact hnext _ ((MK.mark k0 (fun _ => h1) fun _ _ => h1).mono (by omega))
        · rw [if_neg hm, Option.bind_some]
          exact hnext _ (h1.app _ _)
      by_cases hop : 0 ≤ l[k].At ∧ m.Open[l[k].At.toNat]? = some true
      · have hi : l[k].At.toNat < m.P.In.length := by
          rw [h1.len, ← h1.op]
          exact (List.getElem?_eq_some_iff.1 hop.2).1
        have hr := h1.rows _ (List.getElem_mem hi)
        have e1 : ∀ x, mapp m l[k].At x = ⟨m.Epoch, m.Open, { m.P with In := m.P.In.set l[k].At.toNat (m.P.In[l[k].At.toNat] ++ [x]) }⟩ := fun x => by
          unfold mapp
          rw [if_pos hop, List.getElem?_eq_getElem hi]
          rfl
        rw [if_pos (by simpa using hop), at_lt hop.1 (by omega)]
        simp only [Option.bind_some, e1, List.length_set]
        rw [if_pos trivial, if_pos trivial]
        have e2 : ∀ x, at? (m.P.In.set l[k].At.toNat (m.P.In[l[k].At.toNat] ++ [x])) l[k].At = some (m.P.In[l[k].At.toNat] ++ [x]) := fun x => by
          rw [at_i hop.1, List.getElem?_set]
          simp [hi]
        have e3 : ∀ x : TMsg, at? (m.P.In[l[k].At.toNat] ++ [x]) (m.P.In[l[k].At.toNat].length : Int) = some x := fun x => by
          rw [at_nat]
          simp
        have e4 : ∀ x : TMsg, (((m.P.In[l[k].At.toNat] ++ [x]).length : Nat) : Int) = IntKind.wrap .i64 ((m.P.In[l[k].At.toNat].length : Int) + 1) := fun x => by
          rw [wr_succ (by omega)]
          simp
        simp only [e2, Option.bind_some, e3, e4, if_true]
        have := fin
        simp only [e1] at this
        exact this
      · rw [if_neg (by simpa using hop), Option.bind_some]
        exact fin
    · rw [if_neg (by simpa using hc)]
theorem markOwn_true (a0 : Int) (a1 : List TOp) (w0 : wI .u8 a0) (w1 : wL 40 wTOp a1) : L_law10_MarkOwn a0 a1 = some true := by
  obtain ⟨n, hn, he⟩ := ends_eq (b := 3) w0 (by omega)
  have hk := ends_hk (b := 3) hn
  unfold L_law10_MarkOwn
  rw [he, Option.bind_some, mark_begin hk.sm hk.le8, Option.bind_some]
  have h1 : L_law10_MarkOwn_l1 a1 _ (a1.length + 1) 0 (mbegin _ 1) = some () := own_l1 hk _ 0 _ (MK.begin hk 1 0) (by omega) (by omega)
  rw [fuel_eq, h1, Option.bind_some, fixed10]
  rfl
end Go.Proofs.Ytkjihlonnhfidaa
