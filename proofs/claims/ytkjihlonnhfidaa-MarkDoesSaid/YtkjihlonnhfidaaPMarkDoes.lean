/- The law MarkDoes, in plain words: true at every input; the document's functions as plain ones. No condition. -/
import Derived.Test.YtkjihlonnhfidaaPm
set_option linter.unusedSimpArgs false
set_option linter.unusedVariables false
namespace Go.Proofs.Ytkjihlonnhfidaa
open Go.RowKit

theorem r9own1 {h : THost} (hs : smR h.In) : ∀ (n nf k : Nat) (acc : List (List TMsg)), k + n = h.In.length → n < nf → acc.length = k → L_ref09_own_l1 h nf (k : Int) acc = some ((acc ++ h.In.drop k))
  | 0, nf + 1, k, acc, h1, h2, h3 => by
    rw [L_ref09_own_l1, if_neg (by omega), List.drop_of_length_le (by omega), List.append_nil]
  | n + 1, nf + 1, k, acc, h1, h2, h3 => by
    have hk : k < h.In.length := by omega
    have h4 := hs.1
    have h5 := hs.2 _ (List.getElem_mem hk)
    unfold sm at h4 h5
    rw [L_ref09_own_l1, if_pos (by omega), at_nat, List.getElem?_eq_getElem hk, Option.bind_some, if_pos (by omega), if_pos (by omega), wr_succ (by omega), r9own1 hs n nf (k + 1) _ (by omega) (by omega) (by simp [h3]), List.drop_eq_getElem_cons hk, List.append_assoc, List.singleton_append]

theorem r9own2 {h : THost} {q : List (List TMsg)} (hs : smR h.Out) : ∀ (n nf k : Nat) (acc : List (List Int)), k + n = h.Out.length → n < nf → acc.length = k → L_ref09_own_l2 h q nf (k : Int) acc = some (THost.mk h.Node h.State h.Steps q (acc ++ h.Out.drop k))
  | 0, nf + 1, k, acc, h1, h2, h3 => by
    rw [L_ref09_own_l2, if_neg (by omega), List.drop_of_length_le (by omega), List.append_nil]
  | n + 1, nf + 1, k, acc, h1, h2, h3 => by
    have hk : k < h.Out.length := by omega
    have h4 := hs.1
    have h5 := hs.2 _ (List.getElem_mem hk)
    unfold sm at h4 h5
    rw [L_ref09_own_l2, if_pos (by omega), at_nat, List.getElem?_eq_getElem hk, Option.bind_some, if_pos (by omega), if_pos (by omega), wr_succ (by omega), r9own2 hs n nf (k + 1) _ (by omega) (by omega) (by simp [h3]), List.drop_eq_getElem_cons hk, List.append_assoc, List.singleton_append]

theorem r10own1 {m : TMark} (hs : smR m.P.In) : ∀ (n nf k : Nat) (acc : List (List TMsg)), k + n = m.P.In.length → n < nf → acc.length = k → L_ref10_own_l1 m nf (k : Int) acc = some (TMark.mk m.Epoch m.Open ⟨m.P.Node, m.P.State, m.P.Steps, m.P.Sent, (acc ++ m.P.In.drop k), m.P.Out⟩)
  | 0, nf + 1, k, acc, h1, h2, h3 => by
    rw [L_ref10_own_l1, if_neg (by omega), List.drop_of_length_le (by omega), List.append_nil]
  | n + 1, nf + 1, k, acc, h1, h2, h3 => by
    have hk : k < m.P.In.length := by omega
    have h4 := hs.1
    have h5 := hs.2 _ (List.getElem_mem hk)
    unfold sm at h4 h5
    rw [L_ref10_own_l1, if_pos (by omega), at_nat, List.getElem?_eq_getElem hk, Option.bind_some, if_pos (by omega), if_pos (by omega), wr_succ (by omega), r10own1 hs n nf (k + 1) _ (by omega) (by omega) (by simp [h3]), List.drop_eq_getElem_cons hk, List.append_assoc, List.singleton_append]

theorem r9own {h : THost} (hs : smH h) : L_ref09_own h = some h := by
  unfold L_ref09_own
  have h1 : L_ref09_own_l1 h (h.In.length + 1) 0 [] = _ := r9own1 hs.1 h.In.length (h.In.length + 1) 0 [] (by simp) (by omega) rfl
  have h2 : L_ref09_own_l2 h h.In (h.Out.length + 1) 0 [] = _ := r9own2 hs.2 h.Out.length (h.Out.length + 1) 0 [] (by simp) (by omega) rfl
  rw [fuel_eq, fuel_eq, h1, Option.bind_some]
  simp only [List.drop_zero, List.nil_append] at h2 ⊢
  exact h2
theorem r9piece1 {h : THost} (hs : sm h.Out.length) : ∀ (n nf k : Nat) (acc : List Int), k + n = h.Out.length → n < nf → acc.length = k → L_ref09_Piece_l1 h nf (k : Int) acc = some (acc ++ (h.Out.drop k).map (fun x => (x.length : Int)))
  | 0, nf + 1, k, acc, h1, h2, h3 => by
    rw [L_ref09_Piece_l1, if_neg (by omega), List.drop_of_length_le (by omega), List.map_nil, List.append_nil]
  | n + 1, nf + 1, k, acc, h1, h2, h3 => by
    have hs' := hs
    unfold sm at hs'
    have hk : k < h.Out.length := by omega
    rw [L_ref09_Piece_l1, if_pos (by omega), at_nat, List.getElem?_eq_getElem hk, Option.bind_some, if_pos (by omega), wr_succ (by omega), r9piece1 hs n nf (k + 1) _ (by omega) (by omega) (by simp [h3]), List.drop_eq_getElem_cons hk, List.map_cons, List.append_assoc, List.singleton_append]
theorem r9piece2 {h : THost} (hs : sm h.In.length) : ∀ (n nf k : Nat) (acc : List (List TMsg)), k + n = h.In.length → n < nf → acc.length = k → L_ref09_Piece_l2 h nf (k : Int) acc = some (acc ++ List.replicate n [], [])
  | 0, nf + 1, k, acc, h1, h2, h3 => by
    rw [L_ref09_Piece_l2, if_neg (by omega)]
    simp
  | n + 1, nf + 1, k, acc, h1, h2, h3 => by
    have hs' := hs
    unfold sm at hs'
    rw [L_ref09_Piece_l2, if_pos (by omega), if_pos (by omega), wr_succ (by omega), r9piece2 hs n nf (k + 1) _ (by omega) (by omega) (by simp [h3]), List.append_assoc, List.singleton_append, List.replicate_succ]
theorem r9piece {h : THost} (hs : smH h) : L_ref09_Piece h false = some (hpiece h) := by
  unfold L_ref09_Piece
  have h1 : L_ref09_Piece_l1 h (h.Out.length + 1) 0 [] = _ := r9piece1 hs.2.1 h.Out.length (h.Out.length + 1) 0 [] (by simp) (by omega) rfl
  have h2 : L_ref09_Piece_l2 h (h.In.length + 1) 0 [] = _ := r9piece2 hs.1.1 h.In.length (h.In.length + 1) 0 [] (by simp) (by omega) rfl
  rw [r9own hs, Option.bind_some, fuel_eq, fuel_eq, h1, Option.bind_some, if_neg (by simp), h2, Option.bind_some]
  rfl
theorem r10begin1 {h : THost} {e : Int} {q : TPiece} (hs : sm h.In.length) : ∀ (n nf k : Nat) (acc : List Bool), k + n = h.In.length → n < nf → acc.length = k → L_ref10_Begin_l1 h e q nf (k : Int) acc = some ⟨e, acc ++ List.replicate n true, q⟩
  | 0, nf + 1, k, acc, h1, h2, h3 => by
    rw [L_ref10_Begin_l1, if_neg (by omega)]
    simp
  | n + 1, nf + 1, k, acc, h1, h2, h3 => by
    have hs' := hs
    unfold sm at hs'
    rw [L_ref10_Begin_l1, if_pos (by omega), if_pos (by omega), wr_succ (by omega), r10begin1 hs n nf (k + 1) _ (by omega) (by omega) (by simp [h3]), List.append_assoc, List.singleton_append, List.replicate_succ]
theorem r10begin {h : THost} (hs : smH h) (e : Int) : L_ref10_Begin h e = some (mbegin h e) := by
  unfold L_ref10_Begin
  rw [r9piece hs, Option.bind_some, fuel_eq]
  exact r10begin1 hs.1.1 h.In.length (h.In.length + 1) 0 [] (by simp) (by omega) rfl
theorem r10own {m : TMark} (h : sm m.Open.length) (hp : smP m.P) : L_ref10_own m = some m := by
  unfold L_ref10_own
  unfold sm at h
  rw [if_pos (by omega), fuel_eq]
  have h1 : L_ref10_own_l1 m (m.P.In.length + 1) 0 [] = _ := r10own1 hp.2.1 m.P.In.length (m.P.In.length + 1) 0 [] (by simp) (by omega) rfl
  rw [h1]
  rfl
theorem r10marker {m : TMark} {h : THost} {e at_ : Int} (hs : smH h) (hn : h.In.length ≤ 8) (hm : m.Epoch = e → MW h.In.length m) : L_ref10_Marker m h e at_ = some (mmark m h e at_) := by
  unfold L_ref10_Marker mmark
  rw [bor, Option.bind_some]
  by_cases hc : at_ < 0 ∨ at_ ≥ (h.In.length : Int)
  · rw [if_pos (by simpa using hc), if_pos hc]
  · rw [if_neg (by simpa using hc), if_neg hc]
    have hw : ∃ m1, (if m.Epoch = e then some m else (L_ref10_Begin h e).bind fun r39 => some r39) = some m1 ∧ m1 = (if m.Epoch = e then m else mbegin h e) ∧ MW h.In.length m1 := by
      by_cases he : m.Epoch = e
      · exact ⟨m, by rw [if_pos he], by rw [if_pos he], hm he⟩
      · exact ⟨mbegin h e, by rw [if_neg he, r10begin hs]; rfl, by rw [if_neg he], MW.begin hs e⟩
    obtain ⟨m1, h1, h2, h3⟩ := hw
    rw [h1, Option.bind_some, r10own (by rw [h3.op]; unfold sm; omega) h3.p, Option.bind_some, at_lt (by omega) (by rw [h3.op]; omega), Option.bind_some, ← h2]
theorem r10app {m : TMark} {at_ : Int} {x : TMsg} {n : Nat} (hm : MW n m) : L_ref10_App m at_ x = some (mapp m at_ x) := by
  unfold L_ref10_App mapp
  have h3 := hm.op
  have h4 := hm.len
  by_cases h0 : 0 ≤ at_
  · rw [if_neg (by omega)]
    by_cases h1 : at_ < (m.Open.length : Int)
    · rw [if_neg (by omega), at_lt h0 h1, Option.bind_some, Option.bind_some]
      by_cases hb : m.Open[at_.toNat]'(by omega) = true
      · have hin : at_.toNat < m.P.In.length := by omega
        rw [if_neg (by simp [hb]), r10own (by rw [h3]; have := hm.p.2.1.1; rw [h4] at this; exact this) hm.p, Option.bind_some, at_lt h0 (by omega), Option.bind_some, if_pos]
        · rw [if_pos ⟨h0, by rw [List.getElem?_eq_getElem (by omega), hb]⟩, List.getElem?_eq_getElem hin]
          rfl
        · have := hm.p.2.1.2 _ (List.getElem_mem hin)
          unfold sm at this
          omega
      · rw [if_pos (by simp [hb]), if_neg (by rw [List.getElem?_eq_getElem (by omega)]; simp [hb])]
    · rw [if_pos (by omega), Option.bind_some, if_pos rfl, if_neg (by rw [List.getElem?_eq_none (by omega)]; simp)]
  · rw [if_pos (by omega), Option.bind_some, if_pos rfl, if_neg (by simp [h0])]
theorem r10done1 {m : TMark} {e : Int} (hs : sm m.Open.length) : ∀ (n nf k : Nat), k + n = m.Open.length → n < nf → L_ref10_Done_l1 m e nf (k : Int) = some (decide (m.Epoch = e) && !(m.Open.drop k).contains true)
  | 0, nf + 1, k, h1, h2 => by
    rw [L_ref10_Done_l1, if_neg (by omega), List.drop_of_length_le (by omega)]
    simp
  | n + 1, nf + 1, k, h1, h2 => by
    have hk : k < m.Open.length := by omega
    have hs' := hs
    unfold sm at hs'
    rw [L_ref10_Done_l1, if_pos (by omega), at_nat, List.getElem?_eq_getElem hk, Option.bind_some, List.drop_eq_getElem_cons hk, List.contains_cons]
    by_cases hb : m.Open[k] = true
    · rw [if_pos hb, hb]
      simp
    · rw [if_neg hb, wr_succ (by omega), r10done1 hs n nf (k + 1) (by omega) (by omega)]
      rw [Bool.eq_false_iff.2 hb]
      rfl
theorem r10done {m : TMark} {e : Int} (hs : sm m.Open.length) : L_ref10_Done m e = some (mdone m e) := by
  unfold L_ref10_Done
  rw [fuel_eq]
  exact r10done1 hs m.Open.length (m.Open.length + 1) 0 (by simp) (by omega)
theorem land255 (x : Int) : 0 ≤ landK .i64 x 255 ∧ landK .i64 x 255 ≤ 255 := by
  have h1 : (BitVec.ofInt 64 x &&& BitVec.ofInt 64 255).toNat ≤ 255 := by
    rw [BitVec.toNat_and]
    exact Nat.le_trans Nat.and_le_right (by decide)
  have e : landK .i64 x 255 = IntKind.wrap .i64 ((BitVec.ofInt 64 x &&& BitVec.ofInt 64 255).toNat : Int) := rfl
  rw [e, wr (by omega) (by omega)]
  omega
/-- A mark that is new, or one over n links. -/
def Dn (n k : Nat) (m : TMark) : Prop := m = ⟨0, [], ⟨0, 0, 0, [], [], []⟩⟩ ∨ (MK n k m ∧ 1 ≤ m.Epoch)
theorem Dn.sm {n k : Nat} {m : TMark} (h : Dn n k m) (hn : n ≤ 8) (hk : k ≤ 1000) : sm m.Open.length ∧ smP m.P := by
  rcases h with rfl | ⟨h, _⟩
  · exact ⟨sm_nil, sm_nil, smR_nil, smR_nil⟩
  · exact ⟨h.open_sm hn, (h.w hn hk).p⟩
theorem zero_app (a : Int) (x : TMsg) : mapp ⟨0, [], ⟨0, 0, 0, [], [], []⟩⟩ a x = ⟨0, [], ⟨0, 0, 0, [], [], []⟩⟩ := by
  unfold mapp
  simp
theorem zero_w : MW 0 ⟨0, [], ⟨0, 0, 0, [], [], []⟩⟩ := ⟨rfl, rfl, sm_nil, smR_nil, smR_nil⟩
theorem Dn.app {n k : Nat} {m : TMark} (h : Dn n k m) (hn : n ≤ 8) (hk : k ≤ 999) (a : Int) (x : TMsg) : L_mark_App m a x = some (mapp m a x) ∧ L_ref10_App m a x = some (mapp m a x) ∧ Dn n (k + 1) (mapp m a x) := by
  rcases h with rfl | ⟨h, he⟩
  · exact ⟨mark_app zero_w, r10app zero_w, .inl (zero_app a x)⟩
  · refine ⟨mark_app (h.w hn (by omega)), r10app (h.w hn (by omega)), .inr ⟨h.app a x, ?_⟩⟩
    unfold mapp
    split <;> exact he
theorem Dn.mark {n k : Nat} {m : TMark} {h : THost} (hd : Dn n k m) (k0 : HK n h) (hk : k ≤ 999) {e : Int} (he : 1 ≤ e) (a : Int) : L_mark_Marker m h e a = some (mmark m h e a) ∧ L_ref10_Marker m h e a = some (mmark m h e a) ∧ Dn n (k + 1) (mmark m h e a).1 := by
  have hn := k0.le
  have hw : m.Epoch = e → MW h.In.length m := fun e1 => by
    rcases hd with rfl | ⟨hd, _⟩
    · simp only at e1; omega
    · rw [k0.len]; exact hd.w (by omega) (by omega)
  refine ⟨mark_marker k0.sm k0.le8 hw, r10marker k0.sm k0.le8 hw, ?_⟩
  by_cases hc : a < 0 ∨ a ≥ (h.In.length : Int)
  · have e1 : mmark m h e a = (m, false) := by
      unfold mmark
      rw [if_pos hc]
    rw [e1]
    rcases hd with hd | ⟨hd, h1⟩
    · exact .inl hd
    · exact .inr ⟨hd.mono (by omega), h1⟩
  · by_cases e1 : m.Epoch = e
    · rcases hd with rfl | ⟨hd, h1⟩
      · simp only at e1; omega
      · refine .inr ⟨(MK.mark k0 (fun _ => hd) fun h2 => absurd e1 h2).mono (by omega), ?_⟩
        unfold mmark
        rw [if_neg hc]
        simp only [if_pos e1]
        exact h1
    · refine .inr ⟨(MK.mark (c := k) k0 (fun h2 => absurd h2 e1) fun _ h2 => absurd h2 (by rw [← k0.len]; exact hc)).mono (by omega), ?_⟩
      unfold mmark
      rw [if_neg hc]
      simp only [if_neg e1]
      exact he
theorem does_l1 {n : Nat} {l : List TOp} {h : THost} (k0 : HK n h) : ∀ (nf k : Nat) (s : Int) (m : TMark), Dn n k m → k ≤ 60 → l.length - k < nf → L_law10_MarkDoes_l1 l h nf (k : Int) s m m = some ()
  | 0, k, s, m, _, _, h3 => by omega
  | nf + 1, k, s, m, h1, h2, h3 => by
    have hn := k0.le
    rw [L_law10_MarkDoes_l1, band, Option.bind_some]
    by_cases hc : (k : Int) < (l.length : Int) ∧ (k : Int) < 60
    · have hk : k < l.length := by omega
      rw [if_pos (by simpa using hc), at_nat, List.getElem?_eq_getElem hk, Option.bind_some]
      generalize l[k] = op
      have hl := land255 op.Epoch
      have e1 : IntKind.wrap .i64 (1 + landK .i64 op.Epoch 255) = 1 + landK .i64 op.Epoch 255 := wr (by omega) (by omega)
      rw [e1]
      have k1 : ∀ t : Int, HK n ⟨h.Node, h.State, t, h.In, h.Out⟩ := fun t => ⟨k0.inn, k0.out, k0.le⟩
      have hb : ∃ m', (if op.Marker = true then (L_mark_Marker m (THost.mk h.Node h.State s h.In h.Out) (1 + landK .i64 op.Epoch 255) op.At).bind fun r2608 => (L_law09_Ref (THost.mk h.Node h.State s h.In h.Out)).bind fun r2614 => (L_ref10_Marker m r2614 (1 + landK .i64 op.Epoch 255) op.At).bind fun r2616 => if r2608.2 = r2616.2 then some (r2608.1, r2616.1) else none
          else (L_mark_App m op.At op.M).bind fun r2622 => (L_ref10_App m op.At op.M).bind fun r2624 => some (r2622, r2624)) = some (m', m') ∧ Dn n (k + 1) m' := by
        by_cases hm : op.Marker = true
        · obtain ⟨g1, g2, g3⟩ := h1.mark (k1 s) (by omega) (e := 1 + landK .i64 op.Epoch 255) (by omega) op.At
          refine ⟨_, ?_, g3⟩
          rw [if_pos hm, g1, Option.bind_some, L_law09_Ref, Option.bind_some, g2, Option.bind_some, if_pos rfl]
        · obtain ⟨g1, g2, g3⟩ := h1.app (by omega) (by omega) op.At op.M
          refine ⟨_, ?_, g3⟩
          rw [if_neg hm, g1, Option.bind_some, g2, Option.bind_some]
      obtain ⟨m', hb1, hb2⟩ := hb
      obtain ⟨hs1, hs2⟩ := hb2.sm (by omega) (by omega)
      have hbeg := MK.begin (k1 (IntKind.wrap .i64 (s + 1))) (1 + landK .i64 op.Epoch 255) 0
      rw [hb1, Option.bind_some]
      simp only []
      rw [law10_ref, Option.bind_some, ref10_same hs1 hs2, Option.bind_some, if_pos rfl, mark_done hs1, Option.bind_some, r10done hs1, Option.bind_some, if_pos rfl, mark_begin (k1 _).sm (k1 _).le8, Option.bind_some, law10_ref, Option.bind_some, L_law09_Ref, Option.bind_some, r10begin (k1 _).sm, Option.bind_some, ref10_same (hbeg.open_sm (by omega)) (hbeg.w (by omega) (by omega)).p, Option.bind_some, if_pos rfl, wr_succ (by omega)]
      exact does_l1 k0 nf (k + 1) _ m' hb2 (by omega) (by omega)
    · rw [if_neg (by simpa using hc)]
theorem markDoes_true (a0 a1 : Int) (a2 : List TOp) (w0 : wI .u8 a0) (w1 : wI .u8 a1) (w2 : wL 40 wTOp a2) : L_law10_MarkDoes a0 a1 a2 = some true := by
  obtain ⟨n, hn, he⟩ := ends_eq (b := a1) w0 w1.u8
  unfold L_law10_MarkDoes
  have h1 : ∀ s : Int, L_law10_MarkDoes_l1 a2 ⟨1, 2, a1, List.replicate n [], List.replicate n []⟩ (a2.length + 1) 0 s ⟨0, [], ⟨0, 0, 0, [], [], []⟩⟩ ⟨0, [], ⟨0, 0, 0, [], [], []⟩⟩ = some () := fun s =>
    does_l1 (ends_hk hn) _ 0 s _ (.inl rfl) (by omega) (by omega)
  rw [he, Option.bind_some, fuel_eq, h1, Option.bind_some, fixed10]
  rfl
end Go.Proofs.Ytkjihlonnhfidaa
