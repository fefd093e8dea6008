/- Stores; rows frozen to data; lengths; append; make; a slice of data; calls. No condition. -/
import Derived.Test.YteohodhcegbmmaaKd
set_option linter.unusedSimpArgs false
set_option linter.unusedVariables false
namespace Go.Proofs.Yteohodhcegbmmaa
open Go.RowKit

section
variable {P : Program} {w0 : Bas} {N : Nat} {ρ : Place} {φ : Foot} {f : Nat → AV} {m : Nm → Option AObj} {a : Act} {w w' : World} {o : Oper}

theorem run_storeAt {t : TypeId} {n b p : Nat} {v : Value} {cur : Array Value} {ty : TypeId} (hs : (P.info? t).map (·.size) = some n) (hn : v.cells.size = n) (hb : w.heap[b]? = some (.cells cur ty (0, 0))) (hp : p + n ≤ cur.size) (h1 : ∀ u ∈ v.cells.toList, u.oneCell' = true) :
    (Instr.storeAt t (.pointer (some ⟨b, p, none⟩)) v).run P w = .ok () (w.setRow b (lay cur.toList p v.cells.toList).toArray) := by
  cases hi : P.info? t with
  | none => rw [hi] at hs; cases hs
  | some i =>
    rw [hi] at hs
    simp only [Option.map_some, Option.some.injEq] at hs
    have hst := run_storeCells_at (P := P) b p ty v.cells.toList 0 cur w hb (by simp; omega) h1
    simp only [Nat.add_zero, Array.length_toList] at hst
    simp only [Instr.storeAt, Instr.sureAddr, storeVar, Sem.run_bind, Sem.run_pure, Result.andThen_ok, sizeOf, typeInfo]
    simp [hi, hn, hs, lay] at hst ⊢
    exact hst

def nCells (P : Program) (t : TypeId) : Option Nat := (P.info? t).map (·.size)
/-- A store into an own box. -/
theorem so_storeBox (h : StR w0 N ρ φ f m a w) (t : TypeId) (x y : Operand) (id : Nm) (off n : Nat) (ty : TypeId) (l : List Cell) (v : AV) (ho : o.op = .store t x y) (hx : aeval N f x = .one (.ptr id off)) (hy : aeval N f y = v)
    (hs : nCells P t = some n) (hm : m id = some (.box ty l)) (hk : v.okCells = true) (hn : v.cells.length = n) (hp : off + n ≤ l.length) : Does P w0 N f m o a w (.one .any) [(id, some (.box ty (lay l off v.cells)))] := by
  have h1 := aeval_ok h x
  rw [hx] at h1
  obtain ⟨b, cp, hr, e⟩ := h1
  have h2 := aeval_ok h y
  rw [hy] at h2
  have hc := av_cells h2 hk
  obtain ⟨b', cur, hr', hfb, hh, hcv⟩ := h.objs id _ hm
  rw [hr] at hr'
  injection hr' with hr'
  injection hr' with e1 e2
  subst e1
  have hsz : (a.eval y).cells.size = n := by rw [← Array.length_toList, hc.1, hn]
  have hcs : cur.size = l.length := by rw [← Array.length_toList, hcv.1]
  have hrun := run_storeAt (P := P) (w := w) (v := a.eval y) hs hsz hh (by rw [hcs]; exact hp) (fun u hu => by
    obtain ⟨i, hi⟩ := List.mem_iff_getElem?.1 hu
    have hlt : i < v.cells.length := by rw [← hc.1]; exact (List.getElem?_eq_some_iff.1 hi).1
    exact (hc.2 i _ u (List.getElem?_eq_getElem hlt) hi).2)
  have hg := Mv.setRow w b (lay cur.toList off (a.eval y).cells.toList).toArray
  have hblk := setRow_heap w b cur (lay cur.toList off (a.eval y).cells.toList).toArray ty (0, 0) hh
  have hS : ∀ p : Addr, Sof w0 φ m w p.block → (w.setRow b (lay cur.toList off (a.eval y).cells.toList).toArray).cell? p = w.cell? p := fun p hp => World.cell?_of_block (hg.block p.block hp.1 fun e => hp.2.1 id _ hm (by rw [e]; exact hfb))
  have hst := (h.write id (.box ty l) (.box ty (lay l off v.cells)) hm (hg.mono fun x hx => by rw [hx]; exact hfb) ⟨b, _, by rw [hr, e2], hfb, hblk, by
    have := (cvs_lay hcv hc (by rw [hn]; exact hp)).next (ρ' := ρ) (S' := Sof w0 φ m w) (w' := w.setRow b (lay cur.toList off (a.eval y).cells.toList).toArray) hS (fun _ hb => hb) (fun _ _ => rfl)
    simpa using this⟩).1
  exact fun K Q hK => wp_of_skip (w' := w.setRow b (lay cur.toList off (a.eval y).cells.toList).toArray) (by simp only [execOp, ho, e, Sem.run_bind, hrun]; rfl) (hK _ _ ⟨ρ, φ, hst.put o.dst trivial⟩)

theorem lay_at {α : Type} (l cs : List α) (off k : Nat) (hp : off + cs.length ≤ l.length) : (lay l off cs)[k]? = if k < off then l[k]? else if k < off + cs.length then cs[k - off]? else l[k]? := by
  rw [lay_get hp]
  by_cases h1 : k < off
  · rw [if_neg (by omega), if_pos h1]
  · by_cases h2 : k < off + cs.length
    · rw [if_pos ⟨by omega, h2⟩, if_neg h1, if_pos h2]
    · rw [if_neg (by omega), if_neg h1, if_neg h2]
/-- A row whose cells are written from a place on. -/
theorem RowR.laid {S : Nat → Prop} {K : Nat → Prop} {ty sz b base cap : Nat} {l : List (List Cell)} (h : RowR ρ S w K ty sz l b base cap) {i j : Nat} {r cs : List Cell} {us : List Value} (hi : l[i]? = some r) (hp : j + cs.length ≤ r.length) (hc : CVs ρ S w cs us) (hnt : ∀ d ∈ cs, ∀ T c, d ≠ .tr T c)
    (hS : ∀ p : Addr, S p.block → p.block ≠ b) : ∃ cur : Array Value, w.heap[b]? = some (.cells cur ty (0, 0)) ∧ base + i * sz + j + us.length ≤ cur.size ∧ K b ∧ RowR ρ S (w.setRow b (lay cur.toList (base + i * sz + j) us).toArray) K ty sz (l.set i (lay r j cs)) b base cap := by
  obtain ⟨cur, G, hfb, hh, hlc, hcs, hcell, hG, hd⟩ := h
  have hil : i < l.length := (List.getElem?_eq_some_iff.1 hi).1
  have hrl := (hcell i r hi).1
  have hcl : us.length = cs.length := hc.1
  have hle : (i + 1) * sz ≤ cap * sz := Nat.mul_le_mul_right _ (by omega)
  rw [Nat.add_mul, Nat.one_mul] at hle
  have hfit : base + i * sz + j + us.length ≤ cur.size := by omega
  have hg := Mv.setRow w b (lay cur.toList (base + i * sz + j) us).toArray
  have hblk := setRow_heap w b cur (lay cur.toList (base + i * sz + j) us).toArray ty (0, 0) hh
  have hk : ∀ p : Addr, S p.block → (w.setRow b (lay cur.toList (base + i * sz + j) us).toArray).cell? p = w.cell? p := fun p hp => World.cell?_of_block (setRow_other w b p.block _ (hS p hp))
  have hb : ∀ i1 j1 x, G i1 j1 x → (w.setRow b (lay cur.toList (base + i * sz + j) us).toArray).heap[x]? = w.heap[x]? := fun i1 j1 x hx => setRow_other w b x _ (hG i1 j1 x hx).2
  have hlg := fun k => lay_at cur.toList us (base + i * sz + j) k (by rw [Array.length_toList]; exact hfit)
  refine ⟨cur, hh, hfit, hfb, _, G, hfb, hblk, by simpa using hlc, by simpa [lay_length (l := cur.toList) (cs := us) (off := base + i * sz + j) (by rw [Array.length_toList]; exact hfit)] using hcs, fun i' r' hi' => ?_, hG, hd⟩
  have old : ∀ (i' j' : Nat) (d : Cell) (r0 : List Cell), l[i']? = some r0 → r0[j']? = some d → cur[base + i' * sz + j']? = (lay cur.toList (base + i * sz + j) us)[base + i' * sz + j']? → ∃ v, (lay cur.toList (base + i * sz + j) us).toArray[base + i' * sz + j']? = some v ∧ RC ρ S (w.setRow b (lay cur.toList (base + i * sz + j) us).toArray) (G i' j') d v := fun i' j' d r0 hr0 hd he => by
    obtain ⟨u, hu, hrc⟩ := (hcell i' r0 hr0).2 j' d hd
    exact ⟨u, by simpa [← he] using hu, hrc.next hk (fun _ hb => hb) (fun _ _ => rfl) (hb i' j') fun _ hx => hx⟩
  rw [List.getElem?_set] at hi'
  by_cases ei : i = i'
  · subst ei
    rw [if_pos rfl, if_pos hil] at hi'
    injection hi' with hi'
    subst hi'
    refine ⟨by rw [lay_length hp]; exact hrl, fun j' d hd => ?_⟩
    rw [lay_at _ _ _ _ hp] at hd
    have hlk := hlg (base + i * sz + j')
    by_cases h3 : j' < j
    · rw [if_pos h3] at hd
      exact old i j' d r hi hd (by rw [hlk, if_pos (by omega)]; simp)
    · rw [if_neg h3] at hd
      by_cases h4 : j' < j + cs.length
      · rw [if_pos h4] at hd
        rw [if_neg (by omega), hcl, if_pos (by omega)] at hlk
        have hidx : base + i * sz + j' - (base + i * sz + j) = j' - j := by omega
        rw [hidx] at hlk
        have hlt : j' - j < us.length := by rw [hcl]; omega
        have hu := List.getElem?_eq_getElem hlt
        obtain ⟨hv, ho⟩ := hc.2 (j' - j) d _ hd hu
        exact ⟨_, by rw [List.getElem?_toArray, hlk, hu], ho, CV.next hv hk (fun _ hb => hb) (fun _ _ => rfl), fun T c e => absurd e (hnt d (List.mem_of_getElem? hd) T c)⟩
      · rw [if_neg h4] at hd
        exact old i j' d r hi hd (by rw [hlk, if_neg (by omega), hcl, if_neg (by omega)]; simp)
  · rw [if_neg ei] at hi'
    obtain ⟨hl1, hg1⟩ := hcell i' r' hi'
    refine ⟨hl1, fun j' d hd => ?_⟩
    have hj' : j' < sz := by rw [← hl1]; exact (List.getElem?_eq_some_iff.1 hd).1
    refine old i' j' d r' hi' hd ?_
    rw [hlg]
    rcases Nat.lt_or_gt_of_ne ei with h5 | h5
    · have : (i + 1) * sz ≤ i' * sz := Nat.mul_le_mul_right _ h5
      rw [Nat.add_mul, Nat.one_mul] at this
      rw [if_neg (by omega), hcl, if_neg (by omega)]
      simp
    · have : (i' + 1) * sz ≤ i * sz := Nat.mul_le_mul_right _ h5
      rw [Nat.add_mul, Nat.one_mul] at this
      rw [if_pos (by omega)]
      simp
/-- A store into an own row. -/
theorem so_storeRow (h : StR w0 N ρ φ f m a w) (t : TypeId) (x y : Operand) (id : Nm) (sz i j n : Nat) (ty : TypeId) (l : List (List Cell)) (r : List Cell) (v : AV) (ho : o.op = .store t x y) (hx : aeval N f x = .one (.eptr id sz i j)) (hy : aeval N f y = v)
    (hs : nCells P t = some n) (hm : m id = some (.row ty sz l)) (hk : v.okCells = true) (hn : v.cells.length = n) (hi : l[i]? = some r) (hp : j + n ≤ r.length) : Does P w0 N f m o a w (.one .any) [(id, some (.row ty sz (l.set i (lay r j v.cells))))] := by
  have h1 := aeval_ok h x
  rw [hx] at h1
  obtain ⟨b, base, cp, hr, e⟩ := h1
  have h2 := aeval_ok h y
  rw [hy] at h2
  have hc := av_cells h2 hk
  have hrow := h.objs id _ hm
  rcases hrow.2 with ⟨hr', _⟩ | ⟨b', base', cp', hr', hrr⟩
  · rw [hr] at hr'; cases hr'
  rw [hr] at hr'
  injection hr' with hr'
  injection hr' with e1 e2
  injection e2 with e2 e3
  subst e1 e2 e3
  obtain ⟨cur, hh, hfit, hfb, hnew⟩ := hrr.laid hi (by rw [hn]; exact hp) hc (okCells_ntr hk) fun p hp e => hp.2.1 id _ hm (by rw [e]; exact hrr.elim fun _ h => h.elim fun _ h => h.1)
  have hcl : (a.eval y).cells.toList.length = n := by rw [hc.1, hn]
  have hrun := run_storeAt (P := P) (w := w) (v := a.eval y) hs (by rw [← hcl, Array.length_toList]) hh (by rw [← hcl]; exact hfit) (fun u hu => by
    obtain ⟨k, hk⟩ := List.mem_iff_getElem?.1 hu
    have hlt : k < v.cells.length := by rw [← hc.1]; exact (List.getElem?_eq_some_iff.1 hk).1
    exact (hc.2 k _ u (List.getElem?_eq_getElem hlt) hk).2)
  have hst := (h.write id (.row ty sz l) (.row ty sz (l.set i (lay r j v.cells))) hm ((Mv.setRow w b _).mono fun x hx => by rw [hx]; exact hfb) ⟨by simpa using hrow.1, .inr ⟨b, base, cp, hr, hnew⟩⟩).1
  exact fun K Q hK => wp_of_skip (by simp only [execOp, ho, e, Sem.run_bind, hrun]; rfl) (hK _ _ ⟨ρ, φ, hst.put o.dst trivial⟩)

def mapO {α β : Type} (g : α → Option β) : List α → Option (List β)
  | [] => some []
  | x :: xs => match g x, mapO g xs with
    | some y, some ys => some (y :: ys)
    | _, _ => none
theorem mapO_get {α β : Type} {g : α → Option β} : ∀ {xs : List α} {ys : List β}, mapO g xs = some ys → ys.length = xs.length ∧ ∀ (i : Nat) (y : β), ys[i]? = some y → ∃ x, xs[i]? = some x ∧ g x = some y
  | [], ys, h => by simp only [mapO, Option.some.injEq] at h; subst h; simp
  | x :: xs, ys, h => by
    simp only [mapO] at h
    split at h
    · rename_i y ys' h1 h2
      injection h with h
      subst h
      obtain ⟨hl, hg⟩ := mapO_get h2
      refine ⟨by simp [hl], fun i c' hi => ?_⟩
      cases i with
      | zero => simp at hi; subst hi; exact ⟨x, rfl, h1⟩
      | succ i => simpa using hg i c' (by simpa using hi)
    · cases h
end
end Go.Proofs.Yteohodhcegbmmaa
