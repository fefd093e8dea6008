/- What mark's functions and the document's give, as plain functions. No condition. -/
import Derived.Test.YtkjihlonnhfidaaGd
import Derived.Test.YtkjihlonnhfidaaPa
import Derived.Test.YtkjihlonnhfidaaGw
set_option linter.unusedSimpArgs false
set_option linter.unusedVariables false
namespace Go.Proofs.Ytkjihlonnhfidaa
open Go.RowKit

def smR {α : Type} (l : List (List α)) : Prop := sm l.length ∧ ∀ x ∈ l, sm x.length
def smP (p : TPiece) : Prop := sm p.Sent.length ∧ smR p.In ∧ smR p.Out
theorem smR_nil {α : Type} : smR ([] : List (List α)) := ⟨by simp [sm], by simp⟩
theorem smR_rep {α : Type} {n : Nat} (h : n ≤ 1000) : smR (List.replicate n ([] : List α)) := ⟨by simp [sm]; omega, fun x hx => by rw [(List.mem_replicate.1 hx).2]; simp [sm]⟩
theorem drop_eq {α : Type} {a b : List α} {k : Nat} (ha : k < a.length) (hb : k < b.length) : (a.drop k = b.drop k) ↔ (a[k] = b[k] ∧ a.drop (k + 1) = b.drop (k + 1)) := by
  rw [List.drop_eq_getElem_cons ha, List.drop_eq_getElem_cons hb, List.cons.injEq]
theorem mem_drop {α : Type} {a : List α} {k : Nat} {x : α} (ha : k < a.length) : x ∈ a.drop k ↔ (x = a[k] ∨ x ∈ a.drop (k + 1)) := by
  rw [List.drop_eq_getElem_cons ha, List.mem_cons]
theorem sm_nil : sm 0 := by simp [sm]

theorem clone_int {l : List Int} (h : sm l.length) : L_slices_Clone_int_int l = some l := by
  unfold L_slices_Clone_int_int
  unfold sm at h
  rw [if_pos (by omega)]
theorem own1_int {x : List Int} {r : List (List Int)} (h : sm x.length) : L_piece_own_int_1 (x :: r) = some (x, r) := by
  unfold L_piece_own_int_1
  rw [at_zero, List.getElem?_cons_zero, Option.bind_some, clone_int h, Option.bind_some, if_pos (by simp; omega)]
  rfl
theorem lists_int : ∀ (r : List (List Int)) (nf k a : Nat) (acc : List (List Int)), k + r.length = a → r.length < nf → sm a → acc.length = k → (∀ x ∈ r, sm x.length) → L_piece_lists_int_l1 (a : Int) nf (k : Int) r acc = some (acc ++ r, [])
  | [], nf + 1, k, a, acc, h1, _, _, _, _ => by
    rw [L_piece_lists_int_l1, if_neg (by simp at h1; omega)]
    simp
  | x :: r, nf + 1, k, a, acc, h1, h2, h3, h4, h5 => by
    have h3' := h3
    unfold sm at h3'
    simp only [List.length_cons] at h1 h2
    rw [L_piece_lists_int_l1, if_pos (by omega), own1_int (h5 x (by simp)), Option.bind_some, if_pos (by omega), wr_succ (by omega), lists_int r nf (k + 1) a (acc ++ [x]) (by omega) (by omega) h3 (by simp [h4]) fun y hy => h5 y (by simp [hy])]
    simp
theorem own_int {l : List (List Int)} (h : smR l) : L_piece_own_int l = some l := by
  unfold L_piece_own_int L_piece_lists_int
  rw [fuel_eq, show (0 : Int) = ((0 : Nat) : Int) from rfl, lists_int l _ 0 l.length [] (by simp) (by omega) h.1 rfl h.2]
  rfl

theorem clone_api_Msg {l : List TMsg} (h : sm l.length) : L_slices_Clone_api_Msg_api_Msg l = some l := by
  unfold L_slices_Clone_api_Msg_api_Msg
  unfold sm at h
  rw [if_pos (by omega)]
theorem own1_api_Msg {x : List TMsg} {r : List (List TMsg)} (h : sm x.length) : L_piece_own_api_Msg_1 (x :: r) = some (x, r) := by
  unfold L_piece_own_api_Msg_1
  rw [at_zero, List.getElem?_cons_zero, Option.bind_some, clone_api_Msg h, Option.bind_some, if_pos (by simp; omega)]
  rfl
theorem lists_api_Msg : ∀ (r : List (List TMsg)) (nf k a : Nat) (acc : List (List TMsg)), k + r.length = a → r.length < nf → sm a → acc.length = k → (∀ x ∈ r, sm x.length) → L_piece_lists_api_Msg_l1 (a : Int) nf (k : Int) r acc = some (acc ++ r, [])
  | [], nf + 1, k, a, acc, h1, _, _, _, _ => by
    rw [L_piece_lists_api_Msg_l1, if_neg (by simp at h1; omega)]
    simp
  | x :: r, nf + 1, k, a, acc, h1, h2, h3, h4, h5 => by
    have h3' := h3
    unfold sm at h3'
    simp only [List.length_cons] at h1 h2
    rw [L_piece_lists_api_Msg_l1, if_pos (by omega), own1_api_Msg (h5 x (by simp)), Option.bind_some, if_pos (by omega), wr_succ (by omega), lists_api_Msg r nf (k + 1) a (acc ++ [x]) (by omega) (by omega) h3 (by simp [h4]) fun y hy => h5 y (by simp [hy])]
    simp
theorem own_api_Msg {l : List (List TMsg)} (h : smR l) : L_piece_own_api_Msg l = some l := by
  unfold L_piece_own_api_Msg L_piece_lists_api_Msg
  rw [fuel_eq, show (0 : Int) = ((0 : Nat) : Int) from rfl, lists_api_Msg l _ 0 l.length [] (by simp) (by omega) h.1 rfl h.2]
  rfl

theorem piece_own {p : TPiece} (h : smP p) : L_piece_Own p = some p := by
  unfold L_piece_Own
  rw [clone_int h.1, Option.bind_some, own_api_Msg h.2.1, Option.bind_some, own_int h.2.2]
  rfl
theorem copy_full {α : Type} (l : List α) (x : α) : (l.take (List.replicate l.length x).length) ++ (List.replicate l.length x).drop (l.take (List.replicate l.length x).length).length = l := by
  simp
theorem mark_own {m : TMark} (h : sm m.Open.length) (hp : smP m.P) : L_mark_Mark_own m = some m := by
  unfold L_mark_Mark_own
  unfold sm at h
  rw [if_pos (by omega), if_pos (by omega), Option.bind_some, piece_own hp, Option.bind_some, copy_full]
theorem repeat_true {n : Nat} (h : n ≤ 8) : L_slices_Repeat_bool_bool [true] (n : Int) = some (List.replicate n true) := by
  rcases n with _ | _ | _ | _ | _ | _ | _ | _ | _ | n
  all_goals first | (exfalso; omega) | (exact of_decide_eq_true (by decide +kernel))
theorem hpiece_l1 {h : THost} {l113 : List (List TMsg)} {l114 : List (List Int)} {r : TPiece} (hs : sm h.Out.length) : ∀ (n nf k : Nat) (acc : List Int), k + n = h.Out.length → n < nf → acc.length = k →
    L_host_Piece_l1 h l113 l114 r nf (k : Int) acc = some ⟨r.Node, r.State, r.Steps, acc ++ (h.Out.drop k).map (fun x => (x.length : Int)), l113, l114⟩
  | 0, nf + 1, k, acc, h1, h2, h3 => by
    rw [L_host_Piece_l1, if_neg (by omega), List.drop_of_length_le (by omega)]
    simp
  | n + 1, nf + 1, k, acc, h1, h2, h3 => by
    unfold sm at hs
    have hk : k < h.Out.length := by omega
    rw [L_host_Piece_l1, if_pos (by omega), at_nat, List.getElem?_eq_getElem hk, Option.bind_some, if_pos (by omega), wr_succ (by omega), hpiece_l1 (by unfold sm; exact hs) n nf (k + 1) _ (by omega) (by omega) (by simp [h3]), List.drop_eq_getElem_cons hk, List.map_cons, List.append_assoc, List.singleton_append]
/-- What a host tells of itself, without what came. -/
def hpiece (h : THost) : TPiece := ⟨h.Node, h.State, h.Steps, h.Out.map (fun x => (x.length : Int)), List.replicate h.In.length [], []⟩
def smH (h : THost) : Prop := smR h.In ∧ smR h.Out
theorem host_piece {h : THost} (hs : smH h) : L_host_Piece h false = some (hpiece h) := by
  have h1 := hs.1.1
  have h2 := hs.2.1
  unfold L_host_Piece L_host_Host_told
  rw [Option.bind_some, piece_own (p := ⟨h.Node, h.State, h.Steps, [], h.In, h.Out⟩) ⟨by simp [sm], hs.1, hs.2⟩, Option.bind_some]
  unfold sm at h1
  rw [if_neg (by simp), if_pos (by omega), if_pos (by omega), Option.bind_some, fuel_eq]
  have := hpiece_l1 (h := h) (l113 := List.replicate h.In.length []) (l114 := []) (r := ⟨h.Node, h.State, h.Steps, [], h.In, h.Out⟩) h2 h.Out.length (h.Out.length + 1) 0 [] (by simp) (by omega) rfl
  simpa [hpiece] using this
def mbegin (h : THost) (e : Int) : TMark := ⟨e, List.replicate h.In.length true, hpiece h⟩
theorem mark_begin {h : THost} (hs : smH h) (hn : h.In.length ≤ 8) (e : Int) : L_mark_Begin h e = some (mbegin h e) := by
  unfold L_mark_Begin
  rw [repeat_true hn, Option.bind_some, host_piece hs]
  rfl
/-- A mark over n links whose lists are small. -/
structure MW (n : Nat) (m : TMark) : Prop where
  op : m.Open.length = n
  len : m.P.In.length = n
  p : smP m.P
theorem MW.begin {h : THost} (hs : smH h) (e : Int) : MW h.In.length (mbegin h e) := by
  refine ⟨by simp [mbegin], by simp [mbegin, hpiece], ?_, ?_, ?_⟩
  · simpa [mbegin, hpiece] using hs.2.1
  · refine ⟨by simpa [mbegin, hpiece] using hs.1.1, fun x hx => ?_⟩
    simp only [mbegin, hpiece] at hx
    rw [(List.mem_replicate.1 hx).2]
    simp [sm]
  · simp [mbegin, hpiece, smR_nil]
def mmark (m : TMark) (h : THost) (e at_ : Int) : TMark × Bool :=
  if at_ < 0 ∨ at_ ≥ (h.In.length : Int) then (m, false)
  else
    let m1 := if m.Epoch = e then m else mbegin h e
    (⟨m1.Epoch, m1.Open.set at_.toNat false, m1.P⟩, !decide (m.Epoch = e))
theorem bor (p q : Prop) [Decidable p] [Decidable q] : (if p then some true else some (decide q)) = some (decide (p ∨ q)) := by
  by_cases h : p <;> simp [h]
theorem mark_marker {m : TMark} {h : THost} {e at_ : Int} (hs : smH h) (hn : h.In.length ≤ 8) (hm : m.Epoch = e → MW h.In.length m) : L_mark_Marker m h e at_ = some (mmark m h e at_) := by
  unfold L_mark_Marker mmark
  rw [bor, Option.bind_some]
  by_cases hc : at_ < 0 ∨ at_ ≥ (h.In.length : Int)
  · rw [if_pos (by simpa using hc), if_pos hc]
  · rw [if_neg (by simpa using hc), if_neg hc]
    have hw : ∃ m1, (if m.Epoch = e then some m else (L_mark_Begin h e).bind fun r39 => some r39) = some m1 ∧ m1 = (if m.Epoch = e then m else mbegin h e) ∧ MW h.In.length m1 := by
      by_cases he : m.Epoch = e
      · exact ⟨m, by rw [if_pos he], by rw [if_pos he], hm he⟩
      · exact ⟨mbegin h e, by rw [if_neg he, mark_begin hs hn]; rfl, by rw [if_neg he], MW.begin hs e⟩
    obtain ⟨m1, h1, h2, h3⟩ := hw
    rw [h1, Option.bind_some, mark_own (by rw [h3.op]; unfold sm; omega) h3.p, Option.bind_some, at_lt (by omega) (by rw [h3.op]; omega), Option.bind_some, ← h2]
def mapp (m : TMark) (at_ : Int) (x : TMsg) : TMark :=
  if 0 ≤ at_ ∧ m.Open[at_.toNat]? = some true then ⟨m.Epoch, m.Open, { m.P with In := m.P.In.set at_.toNat ((m.P.In[at_.toNat]?).getD [] ++ [x]) }⟩ else m
theorem mark_app {m : TMark} {at_ : Int} {x : TMsg} {n : Nat} (hm : MW n m) : L_mark_App m at_ x = some (mapp m at_ x) := by
  unfold L_mark_App mapp L_mark_Mark_has
  have h3 := hm.op
  have h4 := hm.len
  by_cases h0 : 0 ≤ at_
  · rw [if_pos (show at_ ≥ 0 from h0)]
    by_cases h1 : at_ < (m.Open.length : Int)
    · simp only [Option.bind_some, decide_eq_true h1, if_true]
      rw [at_lt h0 h1, Option.bind_some, Option.bind_some]
      by_cases hb : m.Open[at_.toNat]'(by omega) = true
      · have hin : at_.toNat < m.P.In.length := by omega
        rw [if_neg (by simp [hb]), mark_own (by rw [h3]; have := hm.p.2.1.1; rw [h4] at this; exact this) hm.p, Option.bind_some, at_lt h0 (by omega), Option.bind_some, if_pos]
        · rw [if_pos ⟨h0, by rw [List.getElem?_eq_getElem (by omega), hb]⟩, List.getElem?_eq_getElem hin]
          rfl
        · have := hm.p.2.1.2 _ (List.getElem_mem hin)
          unfold sm at this
          omega
      · rw [if_pos (by simp [hb]), if_neg (by rw [List.getElem?_eq_getElem (by omega)]; simp [hb])]
    · simp only [Option.bind_some, decide_eq_false h1]
      rw [if_neg (by simp), Option.bind_some, if_pos rfl, if_neg (by rw [List.getElem?_eq_none (by omega)]; simp)]
  · rw [if_neg (by omega)]
    simp only [Option.bind_some]
    rw [if_neg (by simp), Option.bind_some, if_pos rfl, if_neg (by simp [h0])]
theorem index_true (l : List Bool) (hs : sm l.length) : ∀ (n nf k : Nat), k + n = l.length → n < nf → ∃ i : Int, L_slices_Index_bool_bool_l1 l true nf (k : Int) = some i ∧ (0 ≤ i ↔ true ∈ l.drop k)
  | 0, nf + 1, k, h1, h2 => by
    rw [L_slices_Index_bool_bool_l1, if_neg (by omega), List.drop_of_length_le (by omega)]
    exact ⟨-1, rfl, by simp⟩
  | n + 1, nf + 1, k, h1, h2 => by
    have hk : k < l.length := by omega
    have hs' := hs
    unfold sm at hs'
    rw [L_slices_Index_bool_bool_l1, if_pos (by omega), at_nat, List.getElem?_eq_getElem hk, Option.bind_some]
    simp only [mem_drop hk]
    by_cases hb : true = l[k]
    · rw [if_pos hb]
      exact ⟨(k : Int), rfl, ⟨fun _ => .inl hb, fun _ => by omega⟩⟩
    · rw [if_neg hb, wr_succ (by omega)]
      obtain ⟨i, h3, h4⟩ := index_true l hs n nf (k + 1) (by omega) (by omega)
      exact ⟨i, h3, h4.trans ⟨.inr, fun h => h.resolve_left hb⟩⟩
def mdone (m : TMark) (e : Int) : Bool := decide (m.Epoch = e) && !m.Open.contains true
theorem mark_done {m : TMark} {e : Int} (hs : sm m.Open.length) : L_mark_Done m e = some (mdone m e) := by
  unfold L_mark_Done mdone L_slices_Contains_bool_bool L_slices_Index_bool_bool
  by_cases he : m.Epoch = e
  · obtain ⟨i, h1, h2⟩ := index_true m.Open hs m.Open.length (m.Open.length + 1) 0 (by simp) (by omega)
    rw [if_pos he, fuel_eq, show (0 : Int) = ((0 : Nat) : Int) from rfl, h1]
    simp only [Option.bind_some]
    rw [decide_eq_true he, Bool.true_and]
    congr 2
    rw [Bool.eq_iff_iff, decide_eq_true_iff, List.contains_iff_mem]
    simpa using h2
  · rw [if_neg he]
    simp [he]

theorem ref01_Ints_l1 {a b : List Int} (hl : a.length = b.length) (hs : sm a.length) : ∀ (n nf k : Nat), k + n = a.length → n < nf → L_ref01_Ints_l1 a b nf (k : Int) = some (decide (a.drop k = b.drop k))
  | 0, nf + 1, k, h1, h2 => by
    rw [L_ref01_Ints_l1, if_neg (by omega), List.drop_of_length_le (by omega), List.drop_of_length_le (by omega)]
    simp
  | n + 1, nf + 1, k, h1, h2 => by
    have hk : k < a.length := by omega
    have hk' : k < b.length := by omega
    have hs' := hs
    unfold sm at hs'
    rw [L_ref01_Ints_l1, if_pos (by omega), at_nat, at_nat, List.getElem?_eq_getElem hk, List.getElem?_eq_getElem hk', Option.bind_some, Option.bind_some]
    simp only [drop_eq hk hk']
    by_cases he : a[k] = b[k]
    · rw [if_pos he, wr_succ (by omega), ref01_Ints_l1 hl hs n nf (k + 1) (by omega) (by omega)]
      simp [he]
    · rw [if_neg he]
      simp [he]
theorem ref01_Ints {a b : List Int} (hs : sm a.length) : L_ref01_Ints a b = some (decide (a = b)) := by
  unfold L_ref01_Ints
  by_cases hl : a.length = b.length
  · rw [if_pos (by omega), fuel_eq, show (0 : Int) = ((0 : Nat) : Int) from rfl, ref01_Ints_l1 hl hs a.length _ 0 (by simp) (by omega)]
    simp
  · rw [if_neg (by omega)]
    have : a ≠ b := fun e => hl (by rw [e])
    simp [this]

theorem ref05_Msgs_l1 {a b : List TMsg} (hl : a.length = b.length) (hs : sm a.length) : ∀ (n nf k : Nat), k + n = a.length → n < nf → L_ref05_Msgs_l1 a b nf (k : Int) = some (decide (a.drop k = b.drop k))
  | 0, nf + 1, k, h1, h2 => by
    rw [L_ref05_Msgs_l1, if_neg (by omega), List.drop_of_length_le (by omega), List.drop_of_length_le (by omega)]
    simp
  | n + 1, nf + 1, k, h1, h2 => by
    have hk : k < a.length := by omega
    have hk' : k < b.length := by omega
    have hs' := hs
    unfold sm at hs'
    rw [L_ref05_Msgs_l1, if_pos (by omega), at_nat, at_nat, List.getElem?_eq_getElem hk, List.getElem?_eq_getElem hk', Option.bind_some, Option.bind_some]
    simp only [drop_eq hk hk']
    by_cases he : a[k] = b[k]
    · rw [if_pos he, wr_succ (by omega), ref05_Msgs_l1 hl hs n nf (k + 1) (by omega) (by omega)]
      simp [he]
    · rw [if_neg he]
      simp [he]
theorem ref05_Msgs {a b : List TMsg} (hs : sm a.length) : L_ref05_Msgs a b = some (decide (a = b)) := by
  unfold L_ref05_Msgs
  by_cases hl : a.length = b.length
  · rw [if_pos (by omega), fuel_eq, show (0 : Int) = ((0 : Nat) : Int) from rfl, ref05_Msgs_l1 hl hs a.length _ 0 (by simp) (by omega)]
    simp
  · rw [if_neg (by omega)]
    have : a ≠ b := fun e => hl (by rw [e])
    simp [this]

theorem ref06_same1 {a b : TPiece} (hl : a.In.length = b.In.length) (hs : smR a.In) : ∀ (n nf k : Nat), k + n = a.In.length → n < nf → L_ref06_Same_l1 a b nf (k : Int) = some (if a.In.drop k = b.In.drop k then .inl () else .inr false)
  | 0, nf + 1, k, h1, h2 => by
    rw [L_ref06_Same_l1, if_neg (by omega), List.drop_of_length_le (by omega), List.drop_of_length_le (by omega)]
    simp
  | n + 1, nf + 1, k, h1, h2 => by
    have hk : k < a.In.length := by omega
    have hk' : k < b.In.length := by omega
    have hs' := hs.1
    unfold sm at hs'
    rw [L_ref06_Same_l1, if_pos (by omega), at_nat, at_nat, List.getElem?_eq_getElem hk, List.getElem?_eq_getElem hk', Option.bind_some, Option.bind_some, ref05_Msgs (hs.2 _ (List.getElem_mem hk)), Option.bind_some]
    simp only [drop_eq hk hk']
    by_cases he : a.In[k] = b.In[k]
    · rw [if_pos (by simp [he]), wr_succ (by omega), ref06_same1 hl hs n nf (k + 1) (by omega) (by omega)]
      simp [he]
    · rw [if_neg (by simp [he])]
      simp [he]
theorem ref06_same2 {a b : TPiece} (hl : a.Out.length = b.Out.length) (hs : smR a.Out) : ∀ (n nf k : Nat), k + n = a.Out.length → n < nf → L_ref06_Same_l2 a b nf (k : Int) = some (decide (a.Out.drop k = b.Out.drop k))
  | 0, nf + 1, k, h1, h2 => by
    rw [L_ref06_Same_l2, if_neg (by omega), List.drop_of_length_le (by omega), List.drop_of_length_le (by omega)]
    simp
  | n + 1, nf + 1, k, h1, h2 => by
    have hk : k < a.Out.length := by omega
    have hk' : k < b.Out.length := by omega
    have hs' := hs.1
    unfold sm at hs'
    rw [L_ref06_Same_l2, if_pos (by omega), at_nat, at_nat, List.getElem?_eq_getElem hk, List.getElem?_eq_getElem hk', Option.bind_some, Option.bind_some, ref01_Ints (hs.2 _ (List.getElem_mem hk)), Option.bind_some]
    simp only [drop_eq hk hk']
    by_cases he : a.Out[k] = b.Out[k]
    · rw [if_pos (by simp [he]), wr_succ (by omega), ref06_same2 hl hs n nf (k + 1) (by omega) (by omega)]
      simp [he]
    · rw [if_neg (by simp [he])]
      simp [he]
/-- A thing is the same as itself. -/
theorem ref06_same {a : TPiece} (hs : smP a) : L_ref06_Same a a = some true := by
  unfold L_ref06_Same
  rw [if_pos rfl, if_pos rfl, if_pos rfl, ref01_Ints hs.1]
  simp only [decide_true, Option.bind_some, if_true, Bool.not_true, Bool.false_eq_true, if_false, fuel_eq]
  have h1 := ref06_same1 (a := a) (b := a) rfl hs.2.1 a.In.length (a.In.length + 1) 0 (by simp) (by omega)
  have h2 := ref06_same2 (a := a) (b := a) rfl hs.2.2 a.Out.length (a.Out.length + 1) 0 (by simp) (by omega)
  simp only [if_true, decide_true] at h1 h2
  rw [show ((0 : Nat) : Int) = 0 from rfl] at h1 h2
  rw [h1]
  exact h2
theorem ref10_same1 {a : TMark} (hs : sm a.Open.length) : ∀ (n nf k : Nat), k + n = a.Open.length → n < nf → L_ref10_Same_l1 a a nf (k : Int) = some true
  | 0, nf + 1, k, h1, h2 => by
    rw [L_ref10_Same_l1, if_neg (by omega)]
  | n + 1, nf + 1, k, h1, h2 => by
    have hk : k < a.Open.length := by omega
    have hs' := hs
    unfold sm at hs'
    rw [L_ref10_Same_l1, if_pos (by omega), at_nat, List.getElem?_eq_getElem hk, Option.bind_some, Option.bind_some, if_pos rfl, wr_succ (by omega), ref10_same1 hs n nf (k + 1) (by omega) (by omega)]
theorem ref10_same {a : TMark} (hs : sm a.Open.length) (hp : smP a.P) : L_ref10_Same a a = some true := by
  unfold L_ref10_Same
  rw [if_pos rfl, if_pos rfl, ref06_same hp]
  simp only [Option.bind_some, Bool.not_true, Bool.false_eq_true, if_false, fuel_eq]
  exact ref10_same1 hs a.Open.length (a.Open.length + 1) 0 (by simp) (by omega)
theorem law10_ref (m : TMark) : L_law10_Ref m = some m := rfl
theorem fixed10 : L_law10_fixed = some true := by decide +kernel

theorem band (p q : Prop) [Decidable p] [Decidable q] : (if p then some (decide q) else some false) = some (decide (p ∧ q)) := by
  by_cases h : p <;> simp [h]
/-- A mark over n links, with c messages of each at most. -/
structure MK (n c : Nat) (m : TMark) : Prop where
  op : m.Open.length = n
  len : m.P.In.length = n
  rows : ∀ x ∈ m.P.In, x.length ≤ c
  sent : m.P.Sent.length ≤ 8
  out : m.P.Out = []
theorem MK.w {n c : Nat} {m : TMark} (h : MK n c m) (hn : n ≤ 8) (hc : c ≤ 1000) : MW n m := by
  refine ⟨h.op, h.len, ?_, ⟨?_, fun x hx => ?_⟩, ?_⟩
  · have := h.sent; unfold sm; omega
  · have := h.len; unfold sm; omega
  · have := h.rows x hx; unfold sm; omega
  · rw [h.out]; exact smR_nil
theorem MK.open_sm {n c : Nat} {m : TMark} (h : MK n c m) (hn : n ≤ 8) : sm m.Open.length := by
  rw [h.op]; unfold sm; omega
/-- A host with n links, nothing taken, nothing sent. -/
structure HK (n : Nat) (h : THost) : Prop where
  inn : h.In = List.replicate n []
  out : h.Out = List.replicate n []
  le : n ≤ 5
theorem HK.sm {n : Nat} {h : THost} (k : HK n h) : smH h := by
  have := k.le
  exact ⟨by rw [k.inn]; exact smR_rep (by omega), by rw [k.out]; exact smR_rep (by omega)⟩
theorem HK.len {n : Nat} {h : THost} (k : HK n h) : h.In.length = n := by rw [k.inn]; simp
theorem HK.le8 {n : Nat} {h : THost} (k : HK n h) : h.In.length ≤ 8 := by rw [k.len]; have := k.le; omega
theorem MK.begin {n : Nat} {h : THost} (k : HK n h) (e : Int) (c : Nat) : MK n c (mbegin h e) := by
  have := k.le
  refine ⟨by simp [mbegin, k.inn], by simp [mbegin, hpiece, k.inn], fun x hx => ?_, by simp [mbegin, hpiece, k.out]; omega, rfl⟩
  simp only [mbegin, hpiece] at hx
  rw [(List.mem_replicate.1 hx).2]
  simp
theorem MK.mono {n c c' : Nat} {m : TMark} (h : MK n c m) (hc : c ≤ c') : MK n c' m := ⟨h.op, h.len, fun x hx => Nat.le_trans (h.rows x hx) hc, h.sent, h.out⟩
theorem MK.app {n c : Nat} {m : TMark} (h : MK n c m) (a : Int) (x : TMsg) : MK n (c + 1) (mapp m a x) := by
  unfold mapp
  split
  · rename_i h0
    have hi : a.toNat < m.P.In.length := by
      rw [h.len, ← h.op]
      exact (List.getElem?_eq_some_iff.1 h0.2).1
    refine ⟨h.op, by simpa using h.len, fun y hy => ?_, h.sent, h.out⟩
    rcases List.mem_or_eq_of_mem_set hy with hy | rfl
    · exact Nat.le_succ_of_le (h.rows y hy)
    · rw [List.getElem?_eq_getElem hi]
      have := h.rows _ (List.getElem_mem hi)
      simpa using this
  · exact h.mono (by omega)
theorem MK.mark {n c : Nat} {m : TMark} {h : THost} (k : HK n h) {e a : Int} (hm : m.Epoch = e → MK n c m) (ha : m.Epoch ≠ e → a < 0 ∨ a ≥ (n : Int) → MK n c m) : MK n c (mmark m h e a).1 := by
  unfold mmark
  rw [k.len]
  split
  · rename_i h1
    by_cases he : m.Epoch = e
    · exact hm he
    · exact ha he h1
  · by_cases he : m.Epoch = e
    · simp only [if_pos he]
      have := hm he
      exact ⟨by simpa using this.op, this.len, this.rows, this.sent, this.out⟩
    · simp only [if_neg he]
      have := MK.begin k e c
      exact ⟨by simpa using this.op, this.len, this.rows, this.sent, this.out⟩
theorem ends_eq {a b : Int} (wa : wI .u8 a) (wb : 0 ≤ b ∧ b ≤ 255) : ∃ n, n ≤ 5 ∧ L_law10_ends a b = some ⟨1, 2, b, List.replicate n [], List.replicate n []⟩ := by
  have ha := wa.u8
  refine ⟨(a.tmod 6).toNat, ?_, ?_⟩
  · have := Int.tmod_lt_of_pos a (show (0 : Int) < 6 by omega)
    omega
  · unfold L_law10_ends
    have h1 : 0 ≤ a.tmod 6 := Int.tmod_nonneg 6 ha.1
    have h2 := Int.tmod_lt_of_pos a (show (0 : Int) < 6 by omega)
    rw [wr (n := a) (by omega) (by omega), wr (n := b) (by omega) (by omega), if_pos h1, if_pos (by omega), if_pos (by omega)]
theorem ends_hk {n : Nat} {b : Int} (hn : n ≤ 5) : HK n ⟨1, 2, b, List.replicate n [], List.replicate n []⟩ := ⟨rfl, rfl, hn⟩
theorem mmark_in {n : Nat} {m : TMark} {h : THost} (k0 : HK n h) {e a : Int} (he : m.Epoch = e) (ha : 0 ≤ a) (ha' : a < n) : mmark m h e a = (⟨m.Epoch, m.Open.set a.toNat false, m.P⟩, false) := by
  unfold mmark
  rw [k0.len, if_neg (by omega), if_pos he]
  simp [he]
end Go.Proofs.Ytkjihlonnhfidaa
