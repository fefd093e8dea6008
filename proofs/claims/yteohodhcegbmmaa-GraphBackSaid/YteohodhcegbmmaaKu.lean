/- Own objects frozen, opened, folded; nil as an own empty row. No condition. -/
import Derived.Test.YteohodhcegbmmaaKt
set_option linter.unusedSimpArgs false
set_option linter.unusedVariables false
namespace Go.Proofs.Yteohodhcegbmmaa
open Go.RowKit

def Cell.scB : C → Bool
  | .int _ _ => true
  | .bool _ => true
  | .str _ => true
  | _ => false
/-- A cell of owned rows. -/
def cellOf : TD → C → Cell
  | .sc, c => .d c
  | T, c => .tr T c
def cellsOf (cols : Nat → TD) : Nat → List C → List Cell
  | _, [] => []
  | j, c :: r => cellOf (cols j) c :: cellsOf cols (j + 1) r
def openRows (cols : Nat → TD) (L : List (List C)) : List (List Cell) := L.map (cellsOf cols 0)
theorem cellsOf_length (cols : Nat → TD) : ∀ (r : List C) (j : Nat), (cellsOf cols j r).length = r.length
  | [], _ => rfl
  | _ :: r, j => by simp [cellsOf, cellsOf_length cols r]
theorem cellsOf_get (cols : Nat → TD) : ∀ (r : List C) (k j : Nat), (cellsOf cols k r)[j]? = (r[j]?).map (cellOf (cols (k + j)))
  | [], _, j => by simp [cellsOf]
  | c :: r, k, 0 => by simp [cellsOf]
  | c :: r, k, j + 1 => by
    simp only [cellsOf, List.getElem?_cons_succ]
    rw [cellsOf_get cols r (k + 1) j, show k + 1 + j = k + (j + 1) by omega]
theorem openRows_get {cols : Nat → TD} {L : List (List C)} {i : Nat} {r : List Cell} (h : (openRows cols L)[i]? = some r) : ∃ r0, L[i]? = some r0 ∧ r.length = r0.length ∧ ∀ j, r[j]? = (r0[j]?).map (cellOf (cols j)) := by
  simp only [openRows, List.getElem?_map, Option.map_eq_some_iff] at h
  obtain ⟨r0, h0, rfl⟩ := h
  exact ⟨r0, h0, cellsOf_length _ _ _, fun j => by rw [cellsOf_get, Nat.zero_add]⟩
theorem cellOf_ids (T : TD) (c : C) : (cellOf T c).ids = [] := by cases T <;> rfl
theorem openRows_ids (cols : Nat → TD) (L : List (List C)) : (openRows cols L).flatMap (fun r => r.flatMap Cell.ids) = [] := by
  refine List.flatMap_eq_nil_iff.2 fun r hr => List.flatMap_eq_nil_iff.2 fun c hc => ?_
  obtain ⟨i, hi⟩ := List.mem_iff_getElem?.1 hr
  obtain ⟨r0, _, _, h3⟩ := openRows_get hi
  obtain ⟨j, hj⟩ := List.mem_iff_getElem?.1 hc
  rw [h3] at hj
  obtain ⟨c0, _, rfl⟩ := Option.map_eq_some_iff.1 hj
  exact cellOf_ids _ _

section
variable {w0 : Bas} {N : Nat} {ρ : Place} {φ : Foot} {f f' : Nat → AV} {m m' : Nm → Option AObj} {a : Act} {w : World}

theorem tree_sc {c : C} {v : Value} {F S : Nat → Prop} (h : Tree w .sc c v F) : View S w c v := by
  cases h with
  | int k n => exact .int k n
  | bool b => exact .bool b
  | str s => exact .str s
/-- A cell that owns a slice is opened: the slice gets a name. -/
theorem StR.open_ (h : StR w0 N ρ φ f m a w) {id new : Nm} {e sz e' sz' i j : Nat} {cols : Nat → TD} {l : List (List Cell)} {r : List Cell} {L : List (List C)} (hm : m id = some (.row e sz l)) (hi : l[i]? = some r) (hj : r[j]? = some (.tr (.sl e' sz' cols) (.sl L))) (hfr : Fresh f m new) :
    ∃ ρ' φ', StR w0 N ρ' φ' f (mset (mset m id (some (.row e sz (l.set i (r.set j (.own new L.length)))))) new (some (.row e' sz' (openRows cols L)))) a w := by
  have hne : id ≠ new := fun e => by have := hfr.hn; rw [← e, hm] at this; cases this
  have hrow := h.objs id _ hm
  have hil : i < l.length := (List.getElem?_eq_some_iff.1 hi).1
  have hjl : j < r.length := (List.getElem?_eq_some_iff.1 hj).1
  rcases hrow.2 with ⟨_, h0⟩ | ⟨b, base, cap, hr, cur, G, hfb, hh, hlc, hcs, hcell, hG, hd⟩
  · rw [h0] at hi; simp at hi
  obtain ⟨v, hv, ho, hcv, ht⟩ := (hcell i r hi).2 j _ hj
  have htree := ht _ _ rfl
  -- where the slice lies
  obtain ⟨pl, Fn, hFn, hnew, hcvn⟩ : ∃ (pl : Option (Nat × Nat × Nat)) (Fn : Nat → Prop), (∀ x, Fn x → G i j x) ∧
      (∀ ρ' S, ρ' new = pl → (openRows cols L).length ≤ 140737488355328 ∧ ((ρ' new = none ∧ openRows cols L = []) ∨ ∃ b base cap, ρ' new = some (b, base, cap) ∧ RowR ρ' S w Fn e' sz' (openRows cols L) b base cap)) ∧ (∀ ρ' S, ρ' new = pl → CV ρ' S w (.own new L.length) v) := by
    cases htree with
    | nil _ _ _ A F => exact ⟨none, fun _ => False, fun _ h => h.elim, fun ρ' S hp => ⟨by simp [openRows], .inl ⟨hp, rfl⟩⟩, fun ρ' S hp => .inr ⟨hp, rfl, A, rfl⟩⟩
    | sl _ _ _ _ b' base' cap' cur' u G' F hh' hF hc hb hz hl hu ht' hG' hd' =>
      refine ⟨some (b', base', cap'), G i j, fun _ h => h, fun ρ' S hp => ⟨by simpa [openRows] using hb, .inr ⟨b', base', cap', hp, cur', G', hF, hh', by simpa [openRows] using hc, hz, fun i1 r1 hi1 => ?_, hG', hd'⟩⟩, fun ρ' S hp => .inl ⟨b', base', cap', hp, rfl⟩⟩
      obtain ⟨r0, h1, h2, h3⟩ := openRows_get hi1
      refine ⟨by rw [h2]; exact hl i1 r0 h1, fun j1 d hj1 => ?_⟩
      rw [h3] at hj1
      obtain ⟨c0, hc0, rfl⟩ := Option.map_eq_some_iff.1 hj1
      have htr := ht' i1 r0 j1 c0 h1 hc0
      refine ⟨_, hu i1 r0 j1 c0 h1 hc0, htr.one, ?_, fun T c ee => ?_⟩
      · cases hT : cols j1 with
        | sc => rw [hT] at htr; exact tree_sc htr
        | sl a1 a2 a3 => trivial
      · cases hT : cols j1 with
        | sc => rw [hT] at ee; cases ee
        | sl a1 a2 a3 =>
          rw [hT] at ee htr
          injection ee with e1 e2
          rw [← e1, ← e2]
          exact htr
  refine ⟨pset ρ new pl, fun k => if k = new then Fn else if k = id then (fun x => φ id x ∧ ¬ Fn x) else φ k, ?_⟩
  have hms : ∀ k o', (k = id ∨ k = new) → mset (mset m id (some (.row e sz (l.set i (r.set j (.own new L.length)))))) new (some (.row e' sz' (openRows cols L))) k = some o' → (k = new ∧ o' = .row e' sz' (openRows cols L)) ∨ (k = id ∧ o' = .row e sz (l.set i (r.set j (.own new L.length)))) := fun k o' hk hi => by
    simp only [mset] at hi
    by_cases e1 : k = new
    · rw [if_pos e1] at hi; injection hi with hi; exact .inl ⟨e1, hi.symm⟩
    · rw [if_neg e1, if_pos (hk.resolve_right e1)] at hi; injection hi with hi; exact .inr ⟨hk.resolve_right e1, hi.symm⟩
  have hold : ∀ k o', ¬ (k = id ∨ k = new) → mset (mset m id (some (.row e sz (l.set i (r.set j (.own new L.length)))))) new (some (.row e' sz' (openRows cols L))) k = some o' → m k = some o' := fun k o' hk hi => by
    simp only [mset, if_neg (fun e => hk (.inr e)), if_neg (fun e => hk (.inl e))] at hi
    exact hi
  refine (h.step (w' := w) (ρ' := pset ρ new pl) (φ' := fun k => if k = new then Fn else if k = id then (fun x => φ id x ∧ ¬ Fn x) else φ k) (fun k => k = id ∨ k = new) (Mv.refl _ w) hold (fun k o' hk hi x => ?_) (fun k o' hk hi => ⟨if_neg fun e => hk (.inr e), fun q hq => if_neg fun (e : q = new) => hfr.hm k o' (hold k o' hk hi) (e ▸ hq)⟩) (fun t q hq => if_neg fun (e : q = new) => hfr.hf t (e ▸ hq)) (fun k o' x hk hi hx => .inr ⟨id, _, .inl rfl, hm, ?_⟩) (fun k k' o1 o2 x hk hk' hi1 hi2 hx hx' => ?_) (fun k o' hk h0 hi => ?_) fun hS k o' hk hi1 => ?_).1
  · simp only [if_neg (fun e => hk (.inr e)), if_neg (fun e => hk (.inl e))]
  · rcases hms k o' hk hi with ⟨rfl, _⟩ | ⟨rfl, _⟩
    · simp only [if_true] at hx
      exact (hG i j x (hFn x hx)).1
    · simp only [if_neg hne, if_true] at hx
      exact hx.1
  · rcases hms k o1 hk hi1 with ⟨rfl, _⟩ | ⟨rfl, _⟩ <;> rcases hms k' o2 hk' hi2 with ⟨rfl, _⟩ | ⟨rfl, _⟩
    · rfl
    · simp only [if_true] at hx
      simp only [if_neg hne, if_true] at hx'
      exact absurd hx hx'.2
    · simp only [if_true] at hx'
      simp only [if_neg hne, if_true] at hx
      exact absurd hx' hx.2
    · rfl
  · rcases hms k o' hk hi with ⟨rfl, _⟩ | ⟨rfl, _⟩
    · exact absurd h0 hfr.h0
    · exact ⟨_, hm, if_neg hne⟩
  · rcases hms k o' hk hi1 with ⟨rfl, rfl⟩ | ⟨rfl, rfl⟩
    · have := hnew (pset ρ k pl) (Sof w0 (fun q => if q = k then Fn else if q = id then (fun x => φ id x ∧ ¬ Fn x) else φ q) (mset (mset m id (some (.row e sz (l.set i (r.set j (.own k L.length)))))) k (some (.row e' sz' (openRows cols L)))) w) (if_pos rfl)
      simp only [OR, if_true]
      exact this
    · refine ⟨by simpa using hrow.1, .inr ⟨b, base, cap, by rw [show pset ρ new pl k = ρ k from if_neg hne]; exact hr, cur, fun i1 j1 x => G i1 j1 x ∧ ¬ (i1 = i ∧ j1 = j), ?_, hh, by simpa using hlc, hcs, fun i1 r1 hi2 => ?_, fun i1 j1 x hx => ?_, fun i1 j1 i2 j2 x hx hx' => hd _ _ _ _ x hx.1 hx'.1⟩⟩
      · simp only [if_neg hne, if_true]
        exact ⟨hfb, fun hx => (hG i j b (hFn b hx)).2 rfl⟩
      · have hk0 : ∀ p : Addr, Sof w0 φ m w p.block → w.cell? p = w.cell? p := fun _ _ => rfl
        have oldc : ∀ (i1 j1 : Nat) (r0 : List Cell) (d : Cell), l[i1]? = some r0 → r0[j1]? = some d → ¬ (i1 = i ∧ j1 = j) → ∃ v, cur[base + i1 * sz + j1]? = some v ∧ RC (pset ρ new pl) (Sof w0 (fun q => if q = new then Fn else if q = k then (fun x => φ k x ∧ ¬ Fn x) else φ q) (mset (mset m k (some (.row e sz (l.set i (r.set j (.own new L.length)))))) new (some (.row e' sz' (openRows cols L)))) w) w (fun x => G i1 j1 x ∧ ¬ (i1 = i ∧ j1 = j)) d v := fun i1 j1 r0 d h1 h2 h3 => by
          obtain ⟨v', hv', hrc⟩ := (hcell i1 r0 h1).2 j1 d h2
          exact ⟨v', hv', hrc.next (fun _ _ => rfl) hS (fun q hq => if_neg fun (e9 : q = new) => hfr.hm k _ hm (e9 ▸ List.mem_flatMap.2 ⟨r0, List.mem_of_getElem? h1, List.mem_flatMap.2 ⟨d, List.mem_of_getElem? h2, hq⟩⟩)) (fun _ _ => rfl) fun x hx => ⟨hx, h3⟩⟩
        rw [List.getElem?_set] at hi2
        by_cases e1 : i = i1
        · subst e1
          rw [if_pos rfl, if_pos hil] at hi2
          injection hi2 with hi2
          subst hi2
          refine ⟨by rw [List.length_set]; exact (hcell i r hi).1, fun j1 d hj1 => ?_⟩
          rw [List.getElem?_set] at hj1
          by_cases e2 : j = j1
          · subst e2
            rw [if_pos rfl, if_pos hjl] at hj1
            injection hj1 with hj1
            subst hj1
            exact ⟨v, hv, ho, hcvn _ _ (if_pos rfl), fun T c ee => by cases ee⟩
          · rw [if_neg e2] at hj1
            exact oldc i j1 r d hi hj1 fun e3 => e2 e3.2.symm
        · rw [if_neg e1] at hi2
          exact ⟨(hcell i1 r1 hi2).1, fun j1 d hj1 => oldc i1 j1 r1 d hi2 hj1 fun e3 => e1 e3.1.symm⟩
      · simp only [if_neg hne, if_true]
        refine ⟨⟨(hG i1 j1 x hx.1).1, fun hf => hx.2 ?_⟩, (hG i1 j1 x hx.1).2⟩
        exact hd i1 j1 i j x hx.1 (hFn x hf)
/-- A named slice that a cell holds is folded: the cell owns it. -/
theorem StR.fold_ (h : StR w0 N ρ φ f m a w) {id ch : Nm} {e sz e' sz' i j n : Nat} {cols : Nat → TD} {l : List (List Cell)} {r : List Cell} {L : List (List C)} (hm : m id = some (.row e sz l)) (hi : l[i]? = some r) (hj : r[j]? = some (.own ch n)) (hc : m ch = some (.row e' sz' (openRows cols L))) (hn : L.length = n) (hne : ch ≠ id)
    (hsc : ∀ r ∈ L, ∀ (j : Nat) (c : C), r[j]? = some c → cols j = .sc → Cell.scB c = true) :
    ∃ φ', StR w0 N ρ φ' f (mset (mset m ch none) id (some (.row e sz (l.set i (r.set j (.tr (.sl e' sz' cols) (.sl L))))))) a w := by
  have hrow := h.objs id _ hm
  have hil : i < l.length := (List.getElem?_eq_some_iff.1 hi).1
  have hjl : j < r.length := (List.getElem?_eq_some_iff.1 hj).1
  rcases hrow.2 with ⟨_, h0⟩ | ⟨b, base, cap, hr, cur, G, hfb, hh, hlc, hcs, hcell, hG, hd⟩
  · rw [h0] at hi; simp at hi
  obtain ⟨v, hv, ho, hcv, _⟩ := (hcell i r hi).2 j _ hj
  have htree : Tree w (.sl e' sz' cols) (.sl L) v (φ ch) := by
    have hrowc := h.objs ch _ hc
    rcases hcv with ⟨b', base', cap', hr', hv'⟩ | ⟨hr', hn0, A, hv'⟩
    · obtain ⟨hlen, hrr⟩ := place_row h hc hr'
      obtain ⟨cur', G', h1, h2, h3, h4, h5, h6, h7⟩ := hrr
      rw [hv', ← hn]
      refine Tree.sl e' sz' cols L b' base' cap' cur' (fun i1 j1 => (cur'[base' + i1 * sz' + j1]?).getD undef) G' (φ ch) h2 h1 (by simpa [openRows] using h3) (by simpa [openRows] using hlen) h4 (fun i1 r1 hi1 => ?_) (fun i1 r1 j1 d hi1 hj1 => ?_) (fun i1 r1 j1 d hi1 hj1 => ?_) h6 h7
      all_goals
        have hoi : (openRows cols L)[i1]? = some (cellsOf cols 0 r1) := by simp [openRows, hi1]
      · have := (h5 i1 _ hoi).1
        rwa [cellsOf_length] at this
      · obtain ⟨v1, hv1, _⟩ := (h5 i1 _ hoi).2 j1 _ (by rw [cellsOf_get, hj1]; rfl)
        rw [hv1]; rfl
      · obtain ⟨v1, hv1, ho1, hcv1, ht1⟩ := (h5 i1 _ hoi).2 j1 _ (by rw [cellsOf_get, hj1]; rfl)
        rw [hv1]
        simp only [Nat.zero_add] at hcv1 ht1
        cases hT : cols j1 with
        | sc =>
          rw [hT] at hcv1
          have hs := hsc r1 (List.mem_of_getElem? hi1) j1 d hj1 hT
          have hview : View (Sof w0 φ m w) w d v1 := hcv1
          cases hview with
          | int k n => exact .int k n _
          | bool b => exact .bool b _
          | str s => exact .str s _
          | sl => cases hs
          | rop => cases hs
          | fn => cases hs
        | sl a1 a2 a3 =>
          rw [hT] at ht1
          exact ht1 _ _ rfl
    · have : L = [] := List.eq_nil_of_length_eq_zero (by omega)
      subst this
      rw [hv']
      exact Tree.nil e' sz' cols A _
  refine ⟨fun k => if k = id then (fun x => φ id x ∨ φ ch x) else φ k, ?_⟩
  have hms : ∀ k o', (k = id ∨ k = ch) → mset (mset m ch none) id (some (.row e sz (l.set i (r.set j (.tr (.sl e' sz' cols) (.sl L)))))) k = some o' → k = id ∧ o' = .row e sz (l.set i (r.set j (.tr (.sl e' sz' cols) (.sl L)))) := fun k o' hk hi => by
    simp only [mset] at hi
    by_cases e1 : k = id
    · rw [if_pos e1] at hi; injection hi with hi; exact ⟨e1, hi.symm⟩
    · rw [if_neg e1, if_pos (hk.resolve_left e1)] at hi; cases hi
  have hold : ∀ k o', ¬ (k = id ∨ k = ch) → mset (mset m ch none) id (some (.row e sz (l.set i (r.set j (.tr (.sl e' sz' cols) (.sl L)))))) k = some o' → m k = some o' := fun k o' hk hi => by
    simp only [mset, if_neg (fun e => hk (.inr e)), if_neg (fun e => hk (.inl e))] at hi
    exact hi
  refine (h.step (w' := w) (ρ' := ρ) (fun k => k = id ∨ k = ch) (Mv.refl _ w) hold (fun k o' hk hi x => by simp only [if_neg (fun e => hk (.inl e))]) (fun k o' hk hi => ⟨rfl, fun _ _ => rfl⟩) (fun _ _ _ => rfl) (fun k o' x hk hi hx => .inr ?_) (fun k k' o1 o2 x hk hk' hi1 hi2 _ _ => by rw [(hms k o1 hk hi1).1, (hms k' o2 hk' hi2).1]) (fun k o' hk h0 hi => ⟨AObj.row e sz l, by rw [(hms k o' hk hi).1]; exact hm, rfl⟩) fun hS k o' hk hi1 => ?_).1
  · obtain ⟨rfl, _⟩ := hms k o' hk hi
    simp only [if_true] at hx
    rcases hx with hx | hx
    · exact ⟨k, _, .inl rfl, hm, hx⟩
    · exact ⟨ch, _, .inr rfl, hc, hx⟩
  · obtain ⟨rfl, rfl⟩ := hms k o' hk hi1
    refine ⟨by simpa using hrow.1, .inr ⟨b, base, cap, hr, cur, fun i1 j1 x => if i1 = i ∧ j1 = j then φ ch x else G i1 j1 x, ?_, hh, by simpa using hlc, hcs, fun i1 r1 hi2 => ?_, fun i1 j1 x hx => ?_, fun i1 j1 i2 j2 x hx hx' => ?_⟩⟩
    · simp only [if_true]; exact .inl hfb
    · have oldc : ∀ (i1 j1 : Nat) (r0 : List Cell) (d : Cell), l[i1]? = some r0 → r0[j1]? = some d → ¬ (i1 = i ∧ j1 = j) → ∃ v, cur[base + i1 * sz + j1]? = some v ∧ RC ρ (Sof w0 (fun q => if q = k then (fun x => φ k x ∨ φ ch x) else φ q) (mset (mset m ch none) k (some (.row e sz (l.set i (r.set j (.tr (.sl e' sz' cols) (.sl L))))))) w) w (fun x => if i1 = i ∧ j1 = j then φ ch x else G i1 j1 x) d v := fun i1 j1 r0 d h1 h2 h3 => by
        obtain ⟨v', hv', hrc⟩ := (hcell i1 r0 h1).2 j1 d h2
        exact ⟨v', hv', hrc.next (fun _ _ => rfl) hS (fun _ _ => rfl) (fun _ _ => rfl) fun x hx => by rw [if_neg h3]; exact hx⟩
      rw [List.getElem?_set] at hi2
      by_cases e1 : i = i1
      · subst e1
        rw [if_pos rfl, if_pos hil] at hi2
        injection hi2 with hi2
        subst hi2
        refine ⟨by rw [List.length_set]; exact (hcell i r hi).1, fun j1 d hj1 => ?_⟩
        rw [List.getElem?_set] at hj1
        by_cases e2 : j = j1
        · subst e2
          rw [if_pos rfl, if_pos hjl] at hj1
          injection hj1 with hj1
          subst hj1
          refine ⟨v, hv, ho, trivial, fun T c ee => ?_⟩
          injection ee with e3 e4
          subst e3 e4
          exact htree.keep (fun _ _ => rfl) fun x hx => by simp only [and_self, if_true]; exact hx
        · rw [if_neg e2] at hj1
          exact oldc i j1 r d hi hj1 fun e3 => e2 e3.2.symm
      · rw [if_neg e1] at hi2
        exact ⟨(hcell i1 r1 hi2).1, fun j1 d hj1 => oldc i1 j1 r1 d hi2 hj1 fun e3 => e1 e3.1.symm⟩
    · simp only [if_true]
      by_cases e1 : i1 = i ∧ j1 = j
      · simp only [if_pos e1] at hx
        exact ⟨.inr hx, fun e2 => hne (h.disj ch k _ _ b hc hm (e2 ▸ hx) hfb)⟩
      · simp only [if_neg e1] at hx
        exact ⟨.inl (hG i1 j1 x hx).1, (hG i1 j1 x hx).2⟩
    · by_cases e1 : i1 = i ∧ j1 = j <;> by_cases e2 : i2 = i ∧ j2 = j
      · omega
      · simp only [if_pos e1] at hx
        simp only [if_neg e2] at hx'
        exact absurd (h.disj ch k _ _ x hc hm hx (hG _ _ x hx').1) hne
      · simp only [if_neg e1] at hx
        simp only [if_pos e2] at hx'
        exact absurd (h.disj ch k _ _ x hc hm hx' (hG _ _ x hx).1) hne
      · simp only [if_neg e1] at hx
        simp only [if_neg e2] at hx'
        exact hd _ _ _ _ x hx hx'
end
end Go.Proofs.Yteohodhcegbmmaa
