/- Own objects frozen to data; lengths; the rows that a slice shows. No condition. -/
import Derived.Test.YteohodhcegbmmaaKe
set_option linter.unusedSimpArgs false
set_option linter.unusedVariables false
namespace Go.Proofs.Yteohodhcegbmmaa
open Go.RowKit

section
variable {P : Program} {w0 : Bas} {N : Nat} {ρ : Place} {φ : Foot} {f : Nat → AV} {m : Nm → Option AObj} {a : Act} {w w' : World} {o : Oper}

/-- In a row: what is owned along is data too. -/
def trOr (g : Cell → Option C) : Cell → Option C
  | .tr _ c => some c
  | c => g c
/-- The rows that a slice shows. -/
def rowsOf (m : Nm → Option AObj) : Cell → Option (List (List Cell))
  | .nil => some []
  | .own id n => match m id with
    | some (.row _ _ l) => if l.length = n then some l else if n ≤ l.length then some (l.take n) else none
    | _ => none
  | .sub id sz off n => match m id with
    | some (.row _ sz' l) => if sz = sz' ∧ off + n ≤ l.length then some ((l.drop off).take n) else none
    | _ => none
  | _ => none
/-- A cell as data: what it names is taken along, so many levels deep. -/
def frz (m : Nm → Option AObj) : Nat → Cell → Option C
  | 0 => fun c => match c with
    | .d c => some c
    | .nil => some (.sl [])
    | _ => none
  | k + 1 => fun c => match c with
    | .d c => some c
    | .nil => some (.sl [])
    | .ptr id off => match m id with
      | some (.box _ l) => (mapO (frz m k) (l.drop off)).map C.rop
      | _ => none
    | .fnp g caps => (mapO (fun p : Nm × Nat => match m p.1 with
      | some (.box _ l) => (mapO (frz m k) (l.drop p.2)).map C.rop
      | _ => none) caps).map (C.fn g [])
    | .own id n => match rowsOf m (.own id n) with
      | some l => (mapO (mapO (trOr (frz m k))) l).map C.sl
      | none => none
    | .sub id sz off n => match rowsOf m (.sub id sz off n) with
      | some l => (mapO (mapO (trOr (frz m k))) l).map C.sl
      | none => none
    | _ => none
/-- What is named so, at every level. -/
def reach (m : Nm → Option AObj) : Nat → Cell → List Nm
  | 0 => Cell.ids
  | k + 1 => fun c => c.ids ++ c.ids.flatMap fun id => match m id with
      | some (.row _ _ l) => l.flatMap fun r => r.flatMap (reach m k)
      | some (.box _ l) => l.flatMap (reach m k)
      | _ => []
theorem view_nil {S : Nat → Prop} {A : Option Addr} {c : Nat} : View S w (.sl []) (.slice A 0 c) := .sl [] 0 A c (fun _ _ => .bool true) (by simp) (Nat.zero_le _) (by simp) (by simp) (by simp)
theorem place_row (h : StR w0 N ρ φ f m a w) {id : Nm} {ty sz : Nat} {l : List (List Cell)} (hm : m id = some (.row ty sz l)) {b base cap : Nat} (hr : ρ id = some (b, base, cap)) : l.length ≤ 140737488355328 ∧ RowR ρ (Sof w0 φ m w) w (φ id) ty sz l b base cap := by
  have hrow := h.objs id _ hm
  rcases hrow.2 with ⟨hr', _⟩ | ⟨b', base', cp', hr', hrr⟩
  · rw [hr] at hr'; cases hr'
  rw [hr] at hr'
  injection hr' with hr'
  injection hr' with e1 e2
  injection e2 with e2 e3
  subst e1 e2 e3
  exact ⟨hrow.1, hrr⟩
theorem place_none (h : StR w0 N ρ φ f m a w) {id : Nm} {ty sz : Nat} {l : List (List Cell)} (hm : m id = some (.row ty sz l)) (hr : ρ id = none) : l = [] := by
  have hrow := h.objs id _ hm
  rcases hrow.2 with ⟨_, hl⟩ | ⟨b', base', cp', hr', _⟩
  · exact hl
  · rw [hr] at hr'; cases hr'
/-- Rows of an own object, some way on. -/
theorem RowR.at_ {S K : Nat → Prop} {ty sz b base cap : Nat} {l : List (List Cell)} (h : RowR ρ S w K ty sz l b base cap) (off : Nat) {n : Nat} (hn : off + n ≤ l.length) : ∃ (cur : Array Value) (G : Nat → Nat → Nat → Prop), K b ∧ w.heap[b]? = some (.cells cur ty (0, 0)) ∧ off + n ≤ cap ∧ base + cap * sz ≤ cur.size ∧
    (∀ (i : Nat) (r : List Cell), ((l.drop off).take n)[i]? = some r → r.length = sz ∧ ∀ (j : Nat) (d : Cell), r[j]? = some d → ∃ v, cur[base + off * sz + i * sz + j]? = some v ∧ RC ρ S w (G i j) d v) ∧ (∀ i j x, G i j x → K x ∧ x ≠ b) ∧ (∀ i j i' j' x, G i j x → G i' j' x → i = i' ∧ j = j') := by
  obtain ⟨cur, G, hfb, hh, hlc, hcs, hcell, hG, hd⟩ := h
  refine ⟨cur, fun i j => G (off + i) j, hfb, hh, by omega, hcs, fun i r hi => ?_, fun i j x hx => hG _ _ x hx, fun i j i' j' x hx hx' => ?_⟩
  · rw [List.getElem?_take] at hi
    split at hi
    · rw [List.getElem?_drop] at hi
      obtain ⟨h1, h2⟩ := hcell _ r hi
      refine ⟨h1, fun j d hj => ?_⟩
      obtain ⟨v, hv, hrc⟩ := h2 j d hj
      exact ⟨v, by rw [← hv, Nat.add_mul, Nat.add_assoc base], hrc⟩
    · cases hi
  · have := hd _ _ _ _ x hx hx'
    omega
theorem rowsOf_ok (h : StR w0 N ρ φ f m a w) {c : Cell} {l : List (List Cell)} {v : Value} (hc : rowsOf m c = some l) (hv : CV ρ (Sof w0 φ m w) w c v) : l.length ≤ 140737488355328 ∧ ((l = [] ∧ ∃ A, v = .slice A 0 0) ∨
    ∃ id ty sz l0 b p cap cur, ∃ G : Nat → Nat → Nat → Prop, id ∈ c.ids ∧ m id = some (.row ty sz l0) ∧ (∀ r ∈ l, r ∈ l0) ∧ v = .slice (some ⟨b, p, none⟩) l.length cap ∧ φ id b ∧ w.heap[b]? = some (.cells cur ty (0, 0)) ∧ l.length ≤ cap ∧ p + cap * sz ≤ cur.size ∧
      (∀ (i : Nat) (r : List Cell), l[i]? = some r → r.length = sz ∧ ∀ (j : Nat) (d : Cell), r[j]? = some d → ∃ v, cur[p + i * sz + j]? = some v ∧ RC ρ (Sof w0 φ m w) w (G i j) d v) ∧ (∀ i j x, G i j x → φ id x ∧ x ≠ b) ∧ (∀ i j i' j' x, G i j x → G i' j' x → i = i' ∧ j = j')) := by
  cases c with
  | nil =>
    simp only [rowsOf, Option.some.injEq] at hc
    subst hc
    exact ⟨by simp, .inl ⟨rfl, none, hv⟩⟩
  | own id n =>
    simp only [rowsOf] at hc
    split at hc
    · rename_i ty sz l0 hm
      have hlen : l = l0.take n ∧ n ≤ l0.length := by
        split at hc
        · rename_i e
          injection hc with hc
          subst hc
          exact ⟨by rw [List.take_of_length_le (by omega)], by omega⟩
        · split at hc
          · injection hc with hc; exact ⟨hc.symm, by assumption⟩
          · cases hc
      obtain ⟨rfl, hn⟩ := hlen
      rcases hv with ⟨b, base, cap, hr, hv⟩ | ⟨hr, h0, A, hv⟩
      · obtain ⟨hb, hrr⟩ := place_row h hm hr
        obtain ⟨cur, G, h1, h2, h3, h4, h5, h6, h7⟩ := hrr.at_ 0 (n := n) (by omega)
        refine ⟨by rw [List.length_take]; omega, .inr ⟨id, ty, sz, l0, b, base, cap, cur, G, by simp [Cell.ids], hm, fun r hr => List.mem_of_mem_take hr, by rw [hv, List.length_take, Nat.min_eq_left hn], h1, h2, by rw [List.length_take]; omega, h4, fun i r hi => ?_, h6, h7⟩⟩
        have := h5 i r (by simpa using hi)
        simpa only [Nat.zero_mul, Nat.add_zero] using this
      · subst h0
        exact ⟨by simp, .inl ⟨by simp, A, hv⟩⟩
    · cases hc
  | sub id sz off n =>
    simp only [rowsOf] at hc
    split at hc
    · rename_i ty sz' l0 hm
      split at hc
      · rename_i hcond
        obtain ⟨rfl, hn⟩ := hcond
        injection hc with hc
        subst hc
        have hlen : ((l0.drop off).take n).length = n := by rw [List.length_take, List.length_drop]; omega
        rcases hv with ⟨b, base, cap, A, hr, hle, hv, hA⟩ | ⟨hr, _, h0, A, hv⟩
        · obtain ⟨hb, hrr⟩ := place_row h hm hr
          obtain ⟨cur, G, h1, h2, h3, h4, h5, h6, h7⟩ := hrr.at_ off (n := n) hn
          rcases Nat.lt_or_ge off cap with hlt | hge
          · refine ⟨by rw [hlen]; omega, .inr ⟨id, ty, sz, l0, b, base + off * sz, cap - off, cur, G, by simp [Cell.ids], hm, fun r hr => List.mem_of_mem_drop (List.mem_of_mem_take hr), by rw [hv, hlen, hA hlt], h1, h2, by rw [hlen]; omega, ?_, h5, h6, h7⟩⟩
            rw [Nat.add_assoc, ← Nat.add_mul, show off + (cap - off) = cap by omega]
            exact h4
          · have h0 : n = 0 := by omega
            subst h0
            rw [show cap - off = 0 by omega] at hv
            exact ⟨by simp, .inl ⟨by simp, A, hv⟩⟩
        · subst h0
          exact ⟨by simp, .inl ⟨by simp, A, hv⟩⟩
      · cases hc
    · cases hc
  | _ => cases hc
theorem reach_sub {k : Nat} {c : Cell} {id : Nm} (h : id ∈ c.ids) : id ∈ reach m k c := by
  cases k with
  | zero => exact h
  | succ k => simp only [reach]; exact List.mem_append.2 (.inl h)
theorem reach_row {k : Nat} {c : Cell} {id i : Nm} {ty sz : Nat} {l : List (List Cell)} {r : List Cell} {d : Cell} (h : id ∈ c.ids) (hm : m id = some (.row ty sz l)) (hr : r ∈ l) (hd : d ∈ r) (hi : i ∈ reach m k d) : i ∈ reach m (k + 1) c := by
  simp only [reach]
  refine List.mem_append.2 (.inr (List.mem_flatMap.2 ⟨id, h, ?_⟩))
  rw [hm]
  exact List.mem_flatMap.2 ⟨r, hr, List.mem_flatMap.2 ⟨d, hd, hi⟩⟩
theorem reach_box {k : Nat} {c : Cell} {id i : Nm} {ty : Nat} {l : List Cell} {d : Cell} (h : id ∈ c.ids) (hm : m id = some (.box ty l)) (hd : d ∈ l) (hi : i ∈ reach m k d) : i ∈ reach m (k + 1) c := by
  simp only [reach]
  refine List.mem_append.2 (.inr (List.mem_flatMap.2 ⟨id, h, ?_⟩))
  rw [hm]
  exact List.mem_flatMap.2 ⟨d, hd, hi⟩
/-- A pointer into a box, frozen. -/
theorem rop_ok (h : StR w0 N ρ φ f m a w) {T : Nat → Prop} {id : Nm} {off ty : Nat} {l : List Cell} {cs : List C} {g : Cell → Option C} (hm : m id = some (.box ty l)) (hcs : mapO g (l.drop off) = some cs) {v : Value} (hv : ∃ b q, ρ id = some (b, q) ∧ v = .pointer (some ⟨b, off, none⟩)) (hT : ∀ b, φ id b → T b)
    (ih : ∀ c d v, c ∈ l → g c = some d → CV ρ (Sof w0 φ m w) w c v → View T w d v) : View T w (.rop cs) v := by
  obtain ⟨b, q, hr, rfl⟩ := hv
  obtain ⟨b', cur, hr', hfb, hh, hcv⟩ := h.objs id _ hm
  rw [hr] at hr'
  injection hr' with hr'
  injection hr' with e1 e2
  subst e1
  obtain ⟨hl, hg⟩ := mapO_get hcs
  have key : ∀ (j : Nat) (d : C), cs[j]? = some d → ∃ c u, l[off + j]? = some c ∧ g c = some d ∧ cur[off + j]? = some u ∧ CV ρ (Sof w0 φ m w) w c u := fun j d hj => by
    obtain ⟨c, hc, hf⟩ := hg j d hj
    rw [List.getElem?_drop] at hc
    have hlt : off + j < cur.toList.length := by rw [hcv.1]; exact (List.getElem?_eq_some_iff.1 hc).1
    have hu := List.getElem?_eq_getElem hlt
    exact ⟨c, _, hc, hf, by simp, (hcv.2 _ c _ hc hu).1⟩
  refine View.rop cs b off (fun j => (cur[off + j]?).getD undef) (hT b hfb) (fun j d hj => ?_) fun j d hj => ?_
  · obtain ⟨c, u, _, _, hu, _⟩ := key j d hj
    rw [cell_in hh, hu]
    rfl
  · obtain ⟨c, u, hc, hf, hu, hcv⟩ := key j d hj
    rw [hu]
    exact ih c d u (List.mem_of_getElem? hc) hf hcv
theorem frz_rows (h : StR w0 N ρ φ f m a w) {T : Nat → Prop} {c : Cell} {l : List (List Cell)} {L : List (List C)} {g : Cell → Option C} {v : Value} (hc : rowsOf m c = some l) (hL : mapO (mapO (trOr g)) l = some L) (hv : CV ρ (Sof w0 φ m w) w c v) (hT : ∀ id o b, id ∈ c.ids → m id = some o → φ id b → T b)
    (ih : ∀ id ty sz l0 r c' d v, id ∈ c.ids → m id = some (.row ty sz l0) → r ∈ l0 → c' ∈ r → g c' = some d → CV ρ (Sof w0 φ m w) w c' v → View T w d v) : View T w (.sl L) v := by
  obtain ⟨hLl, hLg⟩ := mapO_get hL
  obtain ⟨hb, h1⟩ := rowsOf_ok h hc hv
  rcases h1 with ⟨rfl, A, rfl⟩ | ⟨id, ty, sz, l0, b, p, cap, cur, G, hid, hm, hsub, rfl, hfb, hh, hlc, hcs, hcell, hG, hd⟩
  · have : L = [] := List.eq_nil_of_length_eq_zero (by simpa using hLl)
    subst this
    exact view_nil
  · have key : ∀ (i : Nat) (r : List C) (j : Nat) (d : C), L[i]? = some r → r[j]? = some d → ∃ u, cur[p + i * sz + j]? = some u ∧ View T w d u := fun i r j d hi hj => by
      obtain ⟨r', hr1, hr2⟩ := hLg i r hi
      obtain ⟨d', hd1, hd2⟩ := (mapO_get hr2).2 j d hj
      obtain ⟨x, hx, h1, h2, h3⟩ := (hcell i r' hr1).2 j d' hd1
      refine ⟨x, hx, ?_⟩
      unfold trOr at hd2
      split at hd2
      · rename_i T' c'
        injection hd2 with hd2
        subst hd2
        exact (h3 T' c' rfl).view fun y hy => hT id _ y hid hm (hG i j y hy).1
      · exact ih id ty sz l0 r' d' d x hid hm (hsub r' (List.mem_of_getElem? hr1)) (List.mem_of_getElem? hd1) hd2 h2
    rw [← hLl]
    refine .sl L sz _ cap (fun i j => (cur[p + i * sz + j]?).getD undef) (fun i r hi => ?_) (by omega) (by omega) (fun _ => ⟨b, p, rfl, hT id _ b hid hm hfb, fun i r j d hi hj => ?_⟩) fun i r j d hi hj => ?_
    · obtain ⟨r', hr1, hr2⟩ := hLg i r hi
      rw [(mapO_get hr2).1]
      exact (hcell i r' hr1).1
    · obtain ⟨u, hu, _⟩ := key i r j d hi hj
      rw [cell_in hh, ← Nat.add_assoc, hu]
      rfl
    · obtain ⟨u, hu, hview⟩ := key i r j d hi hj
      rw [hu]
      exact hview
theorem frz_ok (h : StR w0 N ρ φ f m a w) {T : Nat → Prop} (hT : ∀ b, Sof w0 φ m w b → T b) : ∀ {k : Nat} {c : Cell} {d : C} {v : Value}, frz m k c = some d → CV ρ (Sof w0 φ m w) w c v → (∀ id o b, id ∈ reach m k c → m id = some o → φ id b → T b) → View T w d v := by
  intro k
  induction k with
  | zero =>
    intro c d v hc hv hk
    cases c with
    | d c => injection hc with hc; subst hc; exact View.keep hv (fun _ _ => rfl) hT
    | nil => injection hc with hc; subst hc; rw [show v = .slice none 0 0 from hv]; exact view_nil
    | _ => cases hc
  | succ k ih =>
    intro c d v hc hv hk
    cases c with
    | d c => injection hc with hc; subst hc; exact View.keep hv (fun _ _ => rfl) hT
    | nil => injection hc with hc; subst hc; rw [show v = .slice none 0 0 from hv]; exact view_nil
    | own id n =>
      simp only [frz] at hc
      split at hc
      · rename_i l hl
        obtain ⟨L, hL, rfl⟩ := Option.map_eq_some_iff.1 hc
        exact frz_rows h hl hL hv (fun i o b hi => hk i o b (reach_sub hi)) fun i ty sz l0 r c' d v hi hm hr hc' hg hcv => ih hg hcv fun i2 o b hi2 => hk i2 o b (reach_row hi hm hr hc' hi2)
      · cases hc
    | sub id sz off n =>
      simp only [frz] at hc
      split at hc
      · rename_i l hl
        obtain ⟨L, hL, rfl⟩ := Option.map_eq_some_iff.1 hc
        exact frz_rows h hl hL hv (fun i o b hi => hk i o b (reach_sub hi)) fun i ty sz l0 r c' d v hi hm hr hc' hg hcv => ih hg hcv fun i2 o b hi2 => hk i2 o b (reach_row hi hm hr hc' hi2)
      · cases hc
    | ptr id off =>
      simp only [frz] at hc
      split at hc
      · rename_i ty l hm
        obtain ⟨cs, hcs, rfl⟩ := Option.map_eq_some_iff.1 hc
        exact rop_ok h hm hcs hv (fun b => hk id _ b (reach_sub (by simp [Cell.ids])) hm) fun c d v hcl hg hcv => ih hg hcv fun i2 o b hi2 => hk i2 o b (reach_box (by simp [Cell.ids]) hm hcl hi2)
      · cases hc
    | fnp g caps =>
      simp only [frz] at hc
      obtain ⟨cs, hcs, rfl⟩ := Option.map_eq_some_iff.1 hc
      obtain ⟨vs, rfl, hvl, hvs⟩ := hv
      obtain ⟨hl, hg⟩ := mapO_get hcs
      refine View.fn g [] cs #[] vs (fun _ => []) rfl (by rw [hvl, hl]) (by simp) (by simp) (by simp) fun i c v hi hvi => ?_
      obtain ⟨p, hp, hf⟩ := hg i c hi
      split at hf
      · rename_i ty l hm
        obtain ⟨cs', hcs', rfl⟩ := Option.map_eq_some_iff.1 hf
        have hpm : p.1 ∈ (Cell.fnp g caps).ids := by simp only [Cell.ids]; exact List.mem_map.2 ⟨p, List.mem_of_getElem? hp, rfl⟩
        exact rop_ok h hm hcs' (hvs i p v hp hvi) (fun b => hk p.1 _ b (reach_sub hpm) hm) fun c d v hcl hg hcv => ih hg hcv fun i2 o b hi2 => hk i2 o b (reach_box hpm hm hcl hi2)
      · cases hf
    | _ => cases hc

/-- len of a slice. -/
def lenC : Cell → Option Nat
  | .d (.sl l) => some l.length
  | .own _ n => some n
  | .sub _ _ _ n => some n
  | .nil => some 0
  | _ => none
theorem lenC_ok {S : Nat → Prop} {c : Cell} {n : Nat} {v : Value} (h : lenC c = some n) (hv : CV ρ S w c v) : ∃ A cap, v = .slice A n cap := by
  unfold lenC at h
  split at h
  · injection h with h; subst h
    rename_i l
    cases (show View S w (.sl l) v from hv) with
    | sl _ sz A cap u => exact ⟨A, cap, rfl⟩
  · injection h with h; subst h
    rcases hv with ⟨b, x, c, _, hv⟩ | ⟨_, hn, A, hv⟩
    · exact ⟨_, _, hv⟩
    · exact ⟨A, 0, by rw [hv, hn]⟩
  · injection h with h; subst h
    rcases hv with ⟨b, x, c, A, _, _, hv, _⟩ | ⟨_, _, hn, A, hv⟩
    · exact ⟨_, _, hv⟩
    · exact ⟨A, 0, by rw [hv, hn]⟩
  · injection h with h; subst h
    exact ⟨none, 0, hv⟩
  · cases h
theorem so_len (h : StR w0 N ρ φ f m a w) (x : Operand) (t : TypeId) (c : Cell) (n : Nat) (ts : Array TypeId) (ho : o.op = .call { callee := .builtin .len, args := #[x], argTypes := ts }) (hts : ts[0]? = some t) (ht : (tElt P t).isSome = true) (hx : aeval N f x = .one c) (hn : lenC c = some n) :
    Does P w0 N f m o a w (.one (.d (.int .i64 n))) [] := by
  have hv := aeval_ok h x
  rw [hx] at hv
  obtain ⟨A, cap, e⟩ := lenC_ok (ρ := ρ) hn hv
  obtain ⟨⟨el, sz, by_⟩, he⟩ := Option.isSome_iff_exists.1 ht
  have hu := (tElt_ok he).1
  refine does_pure h (u := .int .i64 n) ?_ (View.int _ _)
  simp only [execOp, ho, resolve, invoke, builtin, Sem.run_bind, Sem.run_pure, Result.andThen_ok, List.map_toArray, List.map_cons, List.map_nil, e]
  simp [Builtin.len_, hts, run_underlying hu, goInt]
end
end Go.Proofs.Yteohodhcegbmmaa
