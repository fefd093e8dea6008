/- Operations on memory: addresses, loads, stores, new boxes and rows, append. No condition. -/
import Derived.Test.YteohodhcegbmmaaKb
set_option linter.unusedSimpArgs false
set_option linter.unusedVariables false
namespace Go.Proofs.Yteohodhcegbmmaa
open Go.RowKit

section
variable {P : Program} {w0 : Bas} {N : Nat} {ρ : Place} {φ : Foot} {f : Nat → AV} {m : Nm → Option AObj} {a : Act} {w : World} {o : Oper}

theorem run_field {s : TypeId} {i off b p : Nat} (h : tFld P s i = some off) (w : World) : (Instr.fieldAt s (.pointer (some ⟨b, p, none⟩)) i).run P w = .ok (.pointer (some ⟨b, p + off, none⟩)) w := by
  unfold tFld at h
  split at h
  · rename_i fs hu
    split at h
    · rename_i fd hf
      split at h
      · rename_i inf hi
        split at h
        · cases h
        · rename_i h0
          injection h with h
          subst h
          simp [Instr.fieldAt, run_underlying hu, hf, Instr.sureAddr, fieldPlace, sizeOf, typeInfo, hi, h0, add_lit]
      · cases h
    · cases h
  · cases h

/-- Into a pointer, some cells further. -/
def fwd (c : Cell) (k : Nat) : Option Cell :=
  match c with
  | .ptr id off => some (.ptr id (off + k))
  | .eptr id sz i j => some (.eptr id sz i (j + k))
  | .d (.rop cs) => some (.d (.rop (cs.drop k)))
  | _ => none
theorem fwd_ok {S : Nat → Prop} {c c' : Cell} {k : Nat} {v : Value} (h : fwd c k = some c') (hv : CV ρ S w c v) : ∃ b p, v = .pointer (some ⟨b, p, none⟩) ∧ CV ρ S w c' (.pointer (some ⟨b, p + k, none⟩)) := by
  unfold fwd at h
  split at h
  · injection h with h; subst h
    obtain ⟨b, c, hr, hv⟩ := hv
    exact ⟨b, _, hv, b, c, hr, rfl⟩
  · injection h with h; subst h
    obtain ⟨b, x, c, hr, hv⟩ := hv
    exact ⟨b, _, hv, b, x, c, hr, by rw [Nat.add_assoc]⟩
  · injection h with h; subst h
    rename_i cs
    cases (show View S w (.rop cs) v from hv) with
    | rop _ b p u hb hc hu =>
      refine ⟨b, p, rfl, View.rop _ b (p + k) (fun j => u (k + j)) hb (fun j c hj => ?_) fun j c hj => ?_⟩
      · rw [List.getElem?_drop] at hj
        rw [Nat.add_assoc]
        exact hc (k + j) c hj
      · rw [List.getElem?_drop] at hj
        exact hu (k + j) c hj
  · cases h
theorem so_fieldAddr (h : StR w0 N ρ φ f m a w) (s : TypeId) (x : Operand) (i off : Nat) (c c' : Cell) (ho : o.op = .fieldAddr s x i) (hx : aeval N f x = .one c) (ht : tFld P s i = some off) (hc : fwd c off = some c') : Does P w0 N f m o a w (.one c') [] := by
  have hv := aeval_ok h x
  rw [hx] at hv
  obtain ⟨b, p, e, h1⟩ := fwd_ok (ρ := ρ) hc hv
  exact does_pure h (by simp only [execOp, ho, e, Sem.run_bind, run_field ht w]; rfl) h1

/-- An element of a slice. -/
def elemOfS (c : Cell) (sz : Nat) (i : Int) : Option Cell :=
  match c with
  | .d (.sl l) => if 0 ≤ i then (l[i.toNat]?).bind fun r => if r.length = sz then some (.d (.rop r)) else none else none
  | .own id n => if 0 ≤ i ∧ i < n then some (.eptr id sz i.toNat 0) else none
  | .sub id sz' off n => if 0 ≤ i ∧ i < n ∧ sz' = sz then some (.eptr id sz (off + i.toNat) 0) else none
  | _ => none
theorem elemOfS_ok {S : Nat → Prop} {c c' : Cell} {sz : Nat} {i : Int} {v : Value} (h : elemOfS c sz i = some c') (hv : CV ρ S w c v) : ∃ b p n cap, v = .slice (some ⟨b, p, none⟩) n cap ∧ 0 ≤ i ∧ i < n ∧ CV ρ S w c' (.pointer (some ⟨b, p + i.toNat * sz, none⟩)) := by
  unfold elemOfS at h
  split at h
  · rename_i l
    split at h
    · rename_i h0
      cases hl : l[i.toNat]? with
      | none => rw [hl] at h; cases h
      | some r =>
        rw [hl] at h
        simp only [Option.bind_some] at h
        split at h
        · rename_i hr
          injection h with h
          subst h
          have hlt : i.toNat < l.length := (List.getElem?_eq_some_iff.1 hl).1
          cases (show View S w (.sl l) v from hv) with
          | sl _ sz' A cap u hsz hcap hb hA hu =>
            obtain ⟨b, p, rfl, hs, hcell⟩ := hA (by omega)
            have e : sz' = sz := (hsz _ _ hl).symm.trans hr
            subst e
            refine ⟨b, p, l.length, cap, rfl, h0, by omega, View.rop _ b _ (fun j => u i.toNat j) hs (fun j c hj => ?_) fun j c hj => hu _ _ _ _ hl hj⟩
            have := hcell _ _ _ _ hl hj
            rw [Nat.add_assoc]
            exact this
        · cases h
    · cases h
  · rename_i id n
    split at h
    · rename_i h0
      injection h with h
      subst h
      rcases hv with ⟨b, base, cap, hr, hv⟩ | ⟨_, hn, _⟩
      · exact ⟨b, base, n, cap, hv, h0.1, h0.2, b, base, cap, hr, by simp⟩
      · omega
    · cases h
  · rename_i id sz' off n
    split at h
    · rename_i h0
      obtain ⟨h1, h2, rfl⟩ := h0
      injection h with h
      subst h
      rcases hv with ⟨b, base, cap, A, hr, hle, hv, hA⟩ | ⟨_, _, hn, _⟩
      · have hlt : off < cap := by omega
        rw [hA hlt] at hv
        exact ⟨b, _, n, _, hv, h1, h2, b, base, cap, hr, by rw [Nat.add_mul]; simp [Nat.add_assoc]⟩
      · omega
    · cases h
  · cases h
theorem tElt_ok {t e sz by_ : Nat} (h : tElt P t = some (e, sz, by_)) : P.underlying t = some (.slice e) ∧ ∃ i, P.info? e = some i ∧ i.size = sz ∧ i.bytes = by_ := by
  unfold tElt at h
  split at h
  · rename_i e' hu
    cases hi : P.info? e' with
    | none => rw [hi] at h; cases h
    | some i =>
      rw [hi] at h
      simp only [Option.map_some, Option.some.injEq, Prod.mk.injEq] at h
      obtain ⟨rfl, h1, h2⟩ := h
      exact ⟨hu, i, hi, h1, h2⟩
  · cases h
theorem tArr_ok {t n sz : Nat} (h : tArr P t = some (n, sz)) : ∃ e, P.underlying t = some (.array n e) ∧ ∃ i, P.info? e = some i ∧ i.size = sz := by
  unfold tArr at h
  split at h
  · rename_i n' e' hu
    cases hi : P.info? e' with
    | none => rw [hi] at h; cases h
    | some i =>
      rw [hi] at h
      simp only [Option.map_some, Option.some.injEq, Prod.mk.injEq] at h
      obtain ⟨rfl, h1⟩ := h
      exact ⟨e', hu, i, hi, h1⟩
  · cases h
theorem so_indexAddr (h : StR w0 N ρ φ f m a w) (t : TypeId) (x y : Operand) (k : IntKind) (i : Int) (e sz by_ : Nat) (c c' : Cell) (ho : o.op = .indexAddr t x y) (hx : aeval N f x = .one c) (hy : aeval N f y = .one (.d (.int k i)))
    (ht : tElt P t = some (e, sz, by_)) (hc : elemOfS c sz i = some c') : Does P w0 N f m o a w (.one c') [] := by
  have hv := aeval_ok h x
  rw [hx] at hv
  obtain ⟨b, p, n, cap, e1, h0, h1, h2⟩ := elemOfS_ok (ρ := ρ) hc hv
  obtain ⟨hu, inf, hi, hsz, _⟩ := tElt_ok ht
  refine does_pure h (u := .pointer (some ⟨b, p + i.toNat * sz, none⟩)) ?_ h2
  have ey := av_int h hy
  simp only [execOp, ho, e1, ey, Sem.run_bind, Instr.indexAt, asIntOf, Sem.run_pure, Result.andThen_ok, run_underlying hu]
  simp [h0, h1, sizeOf, typeInfo, hi, hsz, add_lit]
theorem so_indexArr (h : StR w0 N ρ φ f m a w) (t : TypeId) (x y : Operand) (k : IntKind) (i : Int) (n sz : Nat) (c c' : Cell) (ho : o.op = .indexAddr t x y) (hx : aeval N f x = .one c) (hy : aeval N f y = .one (.d (.int k i)))
    (ht : tArr P t = some (n, sz)) (h0 : 0 ≤ i) (h1 : i < n) (hc : fwd c (i.toNat * sz) = some c') : Does P w0 N f m o a w (.one c') [] := by
  have hv := aeval_ok h x
  rw [hx] at hv
  obtain ⟨b, p, e1, h2⟩ := fwd_ok (ρ := ρ) hc hv
  obtain ⟨e, hu, inf, hi, hsz⟩ := tArr_ok ht
  refine does_pure h (u := .pointer (some ⟨b, p + i.toNat * sz, none⟩)) ?_ h2
  have ey := av_int h hy
  simp only [execOp, ho, e1, ey, Sem.run_bind, Instr.indexAt, asIntOf, Sem.run_pure, Result.andThen_ok, run_underlying hu, Instr.sureAddr]
  simp [h0, h1, sizeOf, typeInfo, hi, hsz, add_lit]

/-- The cells that a pointer leads to. -/
def cellsAt (m : Nm → Option AObj) (c : Cell) (n : Nat) : Option (List Cell) :=
  match c with
  | .d (.rop cs) => if n ≤ cs.length then some ((cs.take n).map .d) else none
  | .ptr id off => match m id with
    | some (.box _ l) => if off + n ≤ l.length then some ((l.drop off).take n) else none
    | _ => none
  | .eptr id sz i j => match m id with
    | some (.row _ sz' l) => if sz = sz' then (l[i]?).bind fun r => if j + n ≤ r.length then some ((r.drop j).take n) else none else none
    | _ => none
  | _ => none
theorem cellsAt_ok (h : StR w0 N ρ φ f m a w) {c : Cell} {n : Nat} {l : List Cell} {v : Value} (hc : cellsAt m c n = some l) (hv : CV ρ (Sof w0 φ m w) w c v) :
    ∃ b p, ∃ vs : List Value, v = .pointer (some ⟨b, p, none⟩) ∧ l.length = n ∧ w.rangeAt b p vs ∧ CVs ρ (Sof w0 φ m w) w l vs := by
  unfold cellsAt at hc
  split at hc
  · rename_i cs
    split at hc
    · rename_i hn
      injection hc with hc
      subst hc
      cases (show View _ w (.rop cs) v from hv) with
      | rop _ b p u hb hcell hu =>
      refine ⟨b, p, (List.range n).map u, rfl, by simp [hn], fun j x hj => ?_, by simp [hn], fun i c x hi hx => ?_⟩
      · simp only [List.getElem?_map, Option.map_eq_some_iff] at hj
        obtain ⟨i, hi, rfl⟩ := hj
        have hi' : i = j ∧ j < n := by
          have := List.getElem?_eq_some_iff.1 hi
          obtain ⟨h1, h2⟩ := this
          simp at h1 h2
          exact ⟨h2.symm, h1⟩
        obtain ⟨rfl, hlt⟩ := hi'
        exact hcell i cs[i] (List.getElem?_eq_getElem (by omega))
      · simp only [List.getElem?_map, Option.map_eq_some_iff] at hi hx
        obtain ⟨d, hd, rfl⟩ := hi
        obtain ⟨i', hi', rfl⟩ := hx
        have e : i' = i ∧ i < n := by
          obtain ⟨h1, h2⟩ := List.getElem?_eq_some_iff.1 hi'
          simp at h1 h2
          exact ⟨h2.symm, h1⟩
        obtain ⟨rfl, hlt⟩ := e
        rw [List.getElem?_take, if_pos hlt] at hd
        have := hu i' d hd
        exact ⟨this, this.one⟩
    · cases hc
  · rename_i id off
    split at hc
    · rename_i ty l0 hid
      split at hc
      · rename_i hn
        injection hc with hc
        subst hc
        obtain ⟨b, cp, hr, hv⟩ := hv
        obtain ⟨b', cur, hr', _, hh, hcv⟩ := h.objs id _ hid
        rw [hr] at hr'
        injection hr' with hr'
        injection hr' with e1 e2
        subst e1
        refine ⟨b, off, (cur.toList.drop off).take n, hv, by simp; omega, fun j x hj => ?_, by simp [hcv.1], fun i c x hi hx => ?_⟩
        · rw [List.getElem?_take] at hj
          split at hj
          · rw [List.getElem?_drop] at hj
            rw [cell_of_row w b (off + j) cur ty (0, 0) hh]
            simpa using hj
          · cases hj
        · rw [List.getElem?_take] at hi hx
          split at hi
          · rename_i hlt
            rw [if_pos hlt] at hx
            rw [List.getElem?_drop] at hi hx
            exact hcv.2 _ _ _ hi hx
          · cases hi
      · cases hc
    · cases hc
  · rename_i id sz i j
    split at hc
    · rename_i ty sz' l0 hid
      split at hc
      · rename_i hsz
        subst hsz
        cases hl : l0[i]? with
        | none => rw [hl] at hc; cases hc
        | some r =>
          rw [hl] at hc
          simp only [Option.bind_some] at hc
          split at hc
          · rename_i hn
            injection hc with hc
            subst hc
            obtain ⟨b, base, cp, hr, hv⟩ := hv
            have hrow := (h.objs id _ hid).2
            rcases hrow with ⟨hr', _⟩ | ⟨b', base', cp', hr', cur, G, hfb, hh, hlc, hcs, hcell, _, _⟩
            · rw [hr] at hr'; cases hr'
            · rw [hr] at hr'
              injection hr' with hr'
              injection hr' with e1 e2
              injection e2 with e2 e3
              subst e1 e2 e3
              obtain ⟨hrl, hcell⟩ := hcell i r hl
              have hsome : ∀ k, k < n → ∃ x, cur[base + i * sz + (j + k)]? = some x ∧ ∀ d, r[j + k]? = some d → CV ρ (Sof w0 φ m w) w d x ∧ x.oneCell' = true := fun k hk => by
                obtain ⟨x, hx, hv⟩ := hcell (j + k) r[j + k] (List.getElem?_eq_getElem (by omega))
                exact ⟨x, hx, fun d hd => by
                  have : r[j + k]? = some r[j + k] := List.getElem?_eq_getElem (by omega)
                  rw [this] at hd
                  injection hd with hd
                  subst hd
                  exact ⟨hv.2.1, hv.1⟩⟩
              refine ⟨b, base + i * sz + j, (cur.toList.drop (base + i * sz + j)).take n, hv, by simp; omega, fun k x hk => ?_, ?_, fun k c x hk hx => ?_⟩
              · rw [List.getElem?_take] at hk
                split at hk
                · rw [List.getElem?_drop] at hk
                  rw [cell_of_row w b _ cur ty (0, 0) hh]
                  simpa using hk
                · cases hk
              · simp only [List.length_take, List.length_drop, Array.length_toList]
                rcases Nat.eq_zero_or_pos n with h0 | h0
                · subst h0; simp
                · obtain ⟨x, hx, _⟩ := hsome (n - 1) (by omega)
                  have := (Array.getElem?_eq_some_iff.1 hx).1
                  omega
              · rw [List.getElem?_take] at hk hx
                split at hk
                · rename_i hlt
                  rw [if_pos hlt] at hx
                  rw [List.getElem?_drop] at hk hx
                  obtain ⟨x', hx', hv'⟩ := hsome k hlt
                  have e : x' = x := by
                    rw [← Nat.add_assoc] at hx'
                    have hx2 : cur[base + i * sz + j + k]? = some x := by simpa using hx
                    rw [hx'] at hx2
                    injection hx2
                  subst e
                  exact hv' c hk
                · cases hk
          · cases hc
      · cases hc
    · cases hc
  · cases hc
theorem so_loadRow (h : StR w0 N ρ φ f m a w) (t : TypeId) (x : Operand) (n : Nat) (c : Cell) (l : List Cell) (ho : o.op = .load t x) (hx : aeval N f x = .one c) (ht : tShape P t = some (some n)) (hc : cellsAt m c n = some l) : Does P w0 N f m o a w (.agg l) [] := by
  have hv := aeval_ok h x
  rw [hx] at hv
  obtain ⟨b, p, vs, e, hl, hra, hcv⟩ := cellsAt_ok h hc hv
  obtain ⟨d, hu, hd, hi⟩ := tShape_row ht
  refine does_pure h (u := .agg vs.toArray) ?_ ⟨vs, rfl, hcv⟩
  simp only [execOp, ho, e, Sem.run_bind, run_loadAt_mid w b p t vs d hra hu hd (by rw [hi, hcv.1, hl])]
  rfl
theorem so_loadOne (h : StR w0 N ρ φ f m a w) (t : TypeId) (x : Operand) (c c' : Cell) (ho : o.op = .load t x) (hx : aeval N f x = .one c) (ht : tShape P t = some none) (hc : cellsAt m c 1 = some [c']) : Does P w0 N f m o a w (.one c') [] := by
  have hv := aeval_ok h x
  rw [hx] at hv
  obtain ⟨b, p, vs, e, hl, hra, hcv⟩ := cellsAt_ok h hc hv
  obtain ⟨d, hu, hd, hi⟩ := tShape_one ht
  obtain ⟨u, hvs⟩ : ∃ u, vs = [u] := by
    match vs, hcv.1 with
    | [u], _ => exact ⟨u, rfl⟩
  subst hvs
  have hcell := hra 0 u rfl
  refine does_pure h (u := u) ?_ (hcv.2 0 c' u rfl rfl).1
  have hagg : (isAgg t).run P w = .ok false w := by
    unfold isAgg
    rw [Sem.run_bind, run_underlying hu w]
    cases d <;> simp_all
  simp only [execOp, ho, e, Instr.loadAt, Instr.sureAddr, loadVar, Sem.run_bind, Sem.run_pure, Result.andThen_ok, hagg]
  simp [load, Sem.run, show w.cell? ⟨b, p, none⟩ = some u from hcell]
end
end Go.Proofs.Yteohodhcegbmmaa
