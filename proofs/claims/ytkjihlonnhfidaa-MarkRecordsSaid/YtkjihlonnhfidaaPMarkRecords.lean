/- The law MarkRecords, in plain words: true at every input. No condition. -/
import Derived.Test.YtkjihlonnhfidaaPm
set_option linter.unusedSimpArgs false
set_option linter.unusedVariables false
namespace Go.Proofs.Ytkjihlonnhfidaa
open Go.RowKit

/-- What is open is not closed; what stands is what is wanted. -/
structure Recd (n k : Nat) (s : Int) (m : TMark) (cl : List Bool) (w : List (List TMsg)) : Prop where
  k : MK n k m
  e : m.Epoch = 7
  cl : cl = m.Open.map (!·)
  w : w = m.P.In
  p : m.P.Node = 1 ∧ m.P.State = 2 ∧ m.P.Steps = s
theorem rec_l1 {n : Nat} {s : Int} {l : List TOp} {h : THost} (k0 : HK n h) : ∀ (nf k : Nat) (m : TMark) (cl : List Bool) (w : List (List TMsg)), Recd n k s m cl w → k ≤ 60 → l.length - k < nf →
    ∃ m' cl' w', L_law10_MarkRecords_l1 l h nf (k : Int) m cl w = some (m', cl', w') ∧ Recd n 60 s m' cl' w'
  | 0, k, m, cl, w, _, _, h3 => by omega
  | nf + 1, k, m, cl, w, h1, h2, h3 => by
    have hn := k0.le
    have hw := h1.k.w (by omega) (by omega)
    rw [L_law10_MarkRecords_l1, band, Option.bind_some]
    by_cases hc : (k : Int) < (l.length : Int) ∧ (k : Int) < 60
    · have hk : k < l.length := by omega
      rw [if_pos (by simpa using hc), at_nat, List.getElem?_eq_getElem hk, Option.bind_some]
      by_cases hm : l[k].Marker = true
      · rw [if_pos hm, mark_marker k0.sm k0.le8 (fun _ => by rw [k0.len]; exact hw), Option.bind_some, k0.len]
        have e0 : (if l[k].At ≥ 0 then some (decide (l[k].At < (n : Int))) else some false) = some (decide (0 ≤ l[k].At ∧ l[k].At < (n : Int))) := band _ _
        rw [e0, Option.bind_some]
        by_cases ha : 0 ≤ l[k].At ∧ l[k].At < (n : Int)
        · have hcl : l[k].At.toNat < cl.length := by rw [h1.cl]; simp [h1.k.op]; omega
          rw [mmark_in k0 h1.e ha.1 ha.2, if_neg (by simp), if_pos (by simpa using ha), at_lt ha.1 (by omega), Option.bind_some, Option.bind_some, Option.bind_some, wr_succ (by omega)]
          refine rec_l1 k0 nf (k + 1) _ _ _ ⟨⟨by simpa using h1.k.op, h1.k.len, fun x hx => Nat.le_succ_of_le (h1.k.rows x hx), h1.k.sent, h1.k.out⟩, h1.e, ?_, h1.w, h1.p⟩ (by omega) (by omega)
          rw [h1.cl]
          simp [List.map_set]
        · have e1 : mmark m h 7 l[k].At = (m, false) := by
            unfold mmark
            rw [k0.len, if_pos (by omega)]
          rw [e1, if_neg (by simp), if_neg (by simpa using ha), Option.bind_some, Option.bind_some, wr_succ (by omega)]
          exact rec_l1 k0 nf (k + 1) _ _ _ ⟨h1.k.mono (by omega), h1.e, h1.cl, h1.w, h1.p⟩ (by omega) (by omega)
      · rw [if_neg hm, mark_app hw, Option.bind_some, k0.len]
        have e0 : (if l[k].At ≥ 0 then if l[k].At < (n : Int) then (at? cl l[k].At).bind fun x => some (!(x)) else some false else some false) = some (decide (0 ≤ l[k].At ∧ m.Open[l[k].At.toNat]? = some true)) := by
          by_cases h0 : 0 ≤ l[k].At
          · rw [if_pos h0]
            by_cases h4 : l[k].At < (n : Int)
            · have hlo : l[k].At.toNat < m.Open.length := by rw [h1.k.op]; omega
              rw [if_pos h4, at_i h0, h1.cl, List.getElem?_map, List.getElem?_eq_getElem hlo]
              simp [h0]
            · rw [if_neg h4, List.getElem?_eq_none (by rw [h1.k.op]; omega)]
              simp
          · rw [if_neg (by omega)]
            simp [h0]
        rw [e0, Option.bind_some]
        by_cases hop : 0 ≤ l[k].At ∧ m.Open[l[k].At.toNat]? = some true
        · have hi : l[k].At.toNat < m.P.In.length := by
            rw [h1.k.len, ← h1.k.op]
            exact (List.getElem?_eq_some_iff.1 hop.2).1
          have hr := h1.k.rows _ (List.getElem_mem hi)
          rw [if_pos (by simpa using hop), at_i hop.1, h1.w, List.getElem?_eq_getElem hi, Option.bind_some, if_pos (by omega), Option.bind_some, wr_succ (by omega)]
          have e1 : mapp m l[k].At l[k].M = ⟨m.Epoch, m.Open, { m.P with In := m.P.In.set l[k].At.toNat (m.P.In[l[k].At.toNat] ++ [l[k].M]) }⟩ := by
            unfold mapp
            rw [if_pos hop, List.getElem?_eq_getElem hi]
            rfl
          refine rec_l1 k0 nf (k + 1) _ _ _ ⟨h1.k.app _ _, ?_, ?_, ?_, ?_⟩ (by omega) (by omega)
          · rw [e1]; exact h1.e
          · rw [e1]; exact h1.cl
          · rw [e1]
          · rw [e1]; exact h1.p
        · have e1 : mapp m l[k].At l[k].M = m := by
            unfold mapp
            rw [if_neg hop]
          rw [if_neg (by simpa using hop), e1, Option.bind_some, wr_succ (by omega)]
          exact rec_l1 k0 nf (k + 1) _ _ _ ⟨h1.k.mono (by omega), h1.e, h1.cl, h1.w, h1.p⟩ (by omega) (by omega)
    · rw [if_neg (by simpa using hc)]
      exact ⟨m, cl, w, rfl, h1.k.mono h2, h1.e, h1.cl, h1.w, h1.p⟩
theorem rec_l2 {n : Nat} {s : Int} {h : THost} {m : TMark} {cl : List Bool} (k0 : HK n h) (hr : Recd n 60 s m cl m.P.In) : ∀ (j nf k : Nat) (b : Bool), k + j = n → j < nf →
    L_law10_MarkRecords_l2 cl m h nf b (k : Int) m.P.In = some (b && (cl.drop k).all id)
  | 0, nf + 1, k, b, h1, h2 => by
    rw [L_law10_MarkRecords_l2, if_neg (by rw [k0.len]; omega), List.drop_of_length_le (by rw [hr.cl]; simp [hr.k.op]; omega)]
    simp
  | j + 1, nf + 1, k, b, h1, h2 => by
    have hn := k0.le
    have hcl : k < cl.length := by rw [hr.cl]; simp [hr.k.op]; omega
    have hi : k < m.P.In.length := by rw [hr.k.len]; omega
    have hrow := hr.k.rows _ (List.getElem_mem hi)
    have e0 : (if b = true then (at? cl (k : Int)).bind fun x => some x else some false) = some (b && cl[k]) := by
      rw [at_nat, List.getElem?_eq_getElem hcl]
      cases b <;> rfl
    rw [L_law10_MarkRecords_l2, if_pos (by rw [k0.len]; omega), e0, Option.bind_some, at_nat, List.getElem?_eq_getElem hi, Option.bind_some, Option.bind_some, ref05_Msgs (by unfold sm; omega), Option.bind_some, if_pos (by simp), wr_succ (by omega)]
    simp only [Int.toNat_natCast, List.set_getElem_self]
    rw [rec_l2 k0 hr j nf (k + 1) _ (by omega) (by omega), List.drop_eq_getElem_cons hcl, List.all_cons, Bool.and_assoc]
    rfl
theorem markRecords_true (a0 a1 : Int) (a2 : List TOp) (w0 : wI .u8 a0) (w1 : wI .u8 a1) (w2 : wL 40 wTOp a2) : L_law10_MarkRecords a0 a1 a2 = some true := by
  have hu := w1.u8
  obtain ⟨n, hn, he⟩ := ends_eq (b := a1) w0 hu
  have hk := ends_hk (b := a1) hn
  unfold L_law10_MarkRecords
  rw [he, Option.bind_some, mark_begin hk.sm hk.le8, Option.bind_some, fuel_eq]
  simp only [List.length_replicate]
  have h0 : Recd n 0 a1 (mbegin ⟨1, 2, a1, List.replicate n [], List.replicate n []⟩ 7) (List.replicate n false) (List.replicate n []) :=
    ⟨MK.begin hk 7 0, rfl, by simp [mbegin], by simp [mbegin, hpiece], by simp [mbegin, hpiece]⟩
  obtain ⟨m, cl, w, h1, h2⟩ := rec_l1 (l := a2) hk (a2.length + 1) 0 _ _ _ h0 (by omega) (by omega)
  rw [show ((0 : Nat) : Int) = 0 from rfl] at h1
  obtain rfl := h2.w
  have h3 := rec_l2 hk h2 n (n + 1) 0 true (by omega) (by omega)
  rw [show ((0 : Nat) : Int) = 0 from rfl] at h3
  rw [if_pos (by omega), if_pos (by omega), if_pos (by omega), h1, Option.bind_some]
  simp only
  rw [if_pos (by rw [h2.k.len]), fuel_eq, h3, Option.bind_some, mark_done (h2.k.open_sm (by omega)), Option.bind_some, if_pos, if_pos h2.p.1, if_pos h2.p.2.1, if_pos, fixed10]
  · rfl
  · rw [wr (by omega) (by omega)]; exact h2.p.2.2
  · simp only [mdone, h2.e, decide_true, Bool.true_and, List.drop_zero]
    rw [h2.cl, Bool.eq_iff_iff]
    simp
end Go.Proofs.Ytkjihlonnhfidaa
