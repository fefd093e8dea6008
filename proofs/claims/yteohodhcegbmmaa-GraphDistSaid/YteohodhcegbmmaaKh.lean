/- append, as a step on own rows. No condition. -/
import Derived.Test.YteohodhcegbmmaaKg
set_option linter.unusedSimpArgs false
set_option linter.unusedVariables false
namespace Go.Proofs.Yteohodhcegbmmaa
open Go.RowKit

section
variable {P : Program} {w0 : Bas} {N : Nat} {ρ ρ' : Place} {φ : Foot} {f : Nat → AV} {m : Nm → Option AObj} {a : Act} {w w' : World} {o : Oper} {fr : Nm}

/-- What rows of cells hold (no cell owns along). -/
def RowsV (ρ : Place) (S : Nat → Prop) (w : World) (sz : Nat) (l : List (List Cell)) (ys : List Value) : Prop :=
  ys.length = l.length * sz ∧ ∀ (i : Nat) (r : List Cell), l[i]? = some r → r.length = sz ∧ ∀ (j : Nat) (d : Cell), r[j]? = some d → d.ntr = true ∧ ∃ u, ys[i * sz + j]? = some u ∧ CV ρ S w d u ∧ u.oneCell' = true
theorem ntr_ne {d : Cell} (h : d.ntr = true) (T : TD) (c : C) : d ≠ .tr T c := fun e => by subst e; cases h
theorem RowsV.one {S : Nat → Prop} {sz : Nat} {l : List (List Cell)} {ys : List Value} (h : RowsV ρ S w sz l ys) : ∀ u ∈ ys, u.oneCell' = true := by
  intro u hu
  obtain ⟨k, hk⟩ := List.mem_iff_getElem?.1 hu
  have hlt : k < l.length * sz := by rw [← h.1]; exact (List.getElem?_eq_some_iff.1 hk).1
  have hpos : 0 < sz := by
    rcases Nat.eq_zero_or_pos sz with h0 | h0
    · subst h0; simp at hlt
    · exact h0
  have hi : k / sz < l.length := Nat.div_lt_of_lt_mul (by rwa [Nat.mul_comm] at hlt)
  have h1 := h.2 _ _ (List.getElem?_eq_getElem hi)
  have h2 : k % sz < l[k / sz].length := by rw [h1.1]; exact Nat.mod_lt _ hpos
  obtain ⟨_, u', hu', _, hv⟩ := h1.2 _ _ (List.getElem?_eq_getElem h2)
  rw [Nat.mul_comm, Nat.div_add_mod, hk] at hu'
  injection hu' with hu'
  subst hu'
  exact hv
/-- The rows of an append's source. -/
def srcOf (m : Nm → Option AObj) (c : Cell) : Option (List (List Cell)) :=
  match c with
  | .d (.sl l) => some (l.map fun r => r.map .d)
  | c => match rowsOf m c with
    | some l => if l.all (fun r => r.all Cell.ntr) = true then some l else none
    | none => none
theorem own_rd {S K : Nat → Prop} {sz b p cap : Nat} {cur : Array Value} {ty : TypeId} {fz : Nat × Nat} {l : List (List Cell)} {G : Nat → Nat → Nat → Prop} (hh : w.heap[b]? = some (.cells cur ty fz)) (hlc : l.length ≤ cap) (hcs : p + cap * sz ≤ cur.size) :
    RdV w sz (some ⟨b, p, none⟩) l.length ((cur.toList.drop p).take (l.length * sz)) := by
  have : l.length * sz ≤ cap * sz := Nat.mul_le_mul_right _ hlc
  have e : cur.toList.length = cur.size := Array.length_toList
  refine ⟨by rw [List.length_take, List.length_drop]; omega, fun _ => ⟨b, p, rfl, fun j u hj => ?_⟩⟩
  rw [List.getElem?_take] at hj
  split at hj
  · rw [List.getElem?_drop] at hj
    rw [cell_in hh]
    simpa using hj
  · cases hj
theorem src_ok (h : StR w0 N ρ φ f m a w) {c : Cell} {l : List (List Cell)} {sz : Nat} {v : Value} (hc : srcOf m c = some l) (hv : CV ρ (Sof w0 φ m w) w c v) (hsz : ∀ r ∈ l, r.length = sz) :
    ∃ (A : Option Addr) (cap : Nat) (ys : List Value), v = .slice A l.length cap ∧ RdV w sz A l.length ys ∧ RowsV ρ (Sof w0 φ m w) w sz l ys := by
  unfold srcOf at hc
  split at hc
  · rename_i l'
    injection hc with hc
    subst hc
    have hsz' : ∀ r ∈ l', r.length = sz := fun r hr => by
      have := hsz (r.map .d) (List.mem_map.2 ⟨r, hr, rfl⟩)
      simpa using this
    obtain ⟨A, cap, ys, e, hr, hy⟩ := view_src (show View _ w (.sl l') v from hv) hsz'
    rw [List.length_map]
    refine ⟨A, cap, ys, e, hr, by rw [List.length_map]; exact hr.1, fun i r hi => ⟨hsz r (List.mem_of_getElem? hi), fun j d hj => ?_⟩⟩
    rw [List.getElem?_map] at hi
    obtain ⟨r0, hr0, rfl⟩ := Option.map_eq_some_iff.1 hi
    rw [List.getElem?_map] at hj
    obtain ⟨d0, hd0, rfl⟩ := Option.map_eq_some_iff.1 hj
    obtain ⟨u, hu, hview⟩ := hy i r0 hr0 j d0 hd0
    exact ⟨rfl, u, hu, hview, hview.one⟩
  · split at hc
    · rename_i l0 hrow
      split at hc
      · rename_i hntr
        injection hc with hc
        subst hc
        have hnt : ∀ r ∈ l0, ∀ d ∈ r, d.ntr = true := fun r hr d hd => List.all_eq_true.1 (List.all_eq_true.1 hntr r hr) d hd
        rcases (rowsOf_ok h hrow hv).2 with ⟨rfl, A, e⟩ | ⟨id, ty, sz', l1, b, p, cap, cur, G, hid, hm, hsub, e, hfb, hh, hlc, hcs, hcell, hG, hd⟩
        · exact ⟨A, 0, [], e, ⟨by simp, fun h => absurd h (by simp)⟩, by simp, by simp⟩
        · have esz : sz' = sz ∨ l0 = [] := by
            cases l0 with
            | nil => exact .inr rfl
            | cons r rs => exact .inl ((hcell 0 r rfl).1.symm.trans (hsz r (by simp)))
          rcases esz with esz | esz
          · subst esz
            have hrd := own_rd (S := fun _ => True) (K := fun _ => True) (G := G) (l := l0) hh hlc hcs
            refine ⟨_, cap, _, e, hrd, hrd.1, fun i r hi => ⟨(hcell i r hi).1, fun j d hj => ⟨hnt r (List.mem_of_getElem? hi) d (List.mem_of_getElem? hj), ?_⟩⟩⟩
            obtain ⟨u, hu, hrc⟩ := (hcell i r hi).2 j d hj
            have hjlt : j < sz' := by rw [← (hcell i r hi).1]; exact (List.getElem?_eq_some_iff.1 hj).1
            have hilt : i < l0.length := (List.getElem?_eq_some_iff.1 hi).1
            have : (i + 1) * sz' ≤ l0.length * sz' := Nat.mul_le_mul_right _ hilt
            rw [Nat.add_mul, Nat.one_mul] at this
            refine ⟨u, ?_, hrc.2.1, hrc.1⟩
            rw [List.getElem?_take, if_pos (by omega), List.getElem?_drop, ← Nat.add_assoc]
            simpa using hu
          · subst esz
            exact ⟨_, cap, [], e, ⟨by simp, fun h => absurd h (by simp)⟩, by simp, by simp⟩
      · cases hc
    · cases hc
theorem rowsOf_ids {c : Cell} {l : List (List Cell)} (hc : rowsOf m c = some l) {id : Nm} (h : id ∈ l.flatMap (fun r => r.flatMap Cell.ids)) : ∃ i o, m i = some o ∧ id ∈ o.ids := by
  cases c with
  | nil => simp only [rowsOf, Option.some.injEq] at hc; subst hc; simp at h
  | own i n =>
    simp only [rowsOf] at hc
    split at hc
    · rename_i ty sz l0 hm
      refine ⟨i, _, hm, ?_⟩
      split at hc
      · injection hc with hc; subst hc; exact h
      · split at hc
        · injection hc with hc; subst hc
          obtain ⟨r, hr, h⟩ := List.mem_flatMap.1 h
          exact List.mem_flatMap.2 ⟨r, List.mem_of_mem_take hr, h⟩
        · cases hc
    · cases hc
  | sub i sz off n =>
    simp only [rowsOf] at hc
    split at hc
    · rename_i ty sz l0 hm
      refine ⟨i, _, hm, ?_⟩
      split at hc
      · injection hc with hc; subst hc
        obtain ⟨r, hr, h⟩ := List.mem_flatMap.1 h
        exact List.mem_flatMap.2 ⟨r, List.mem_of_mem_drop (List.mem_of_mem_take hr), h⟩
      · cases hc
    · cases hc
  | _ => cases hc
theorem rowsOf_fresh (hfr : Fresh f m fr) {c : Cell} {l : List (List Cell)} (hc : rowsOf m c = some l) : fr ∉ l.flatMap (fun r => r.flatMap Cell.ids) := fun h => by
  obtain ⟨i, o, hi, hid⟩ := rowsOf_ids hc h
  exact hfr.hm i o hi hid
theorem src_fresh (hfr : Fresh f m fr) {c : Cell} {l : List (List Cell)} (hc : srcOf m c = some l) : fr ∉ l.flatMap (fun r => r.flatMap Cell.ids) := by
  unfold srcOf at hc
  split at hc
  · injection hc with hc
    subst hc
    intro h
    obtain ⟨r, hr, h⟩ := List.mem_flatMap.1 h
    obtain ⟨r0, _, rfl⟩ := List.mem_map.1 hr
    obtain ⟨d, hd, h⟩ := List.mem_flatMap.1 h
    obtain ⟨d0, _, rfl⟩ := List.mem_map.1 hd
    cases h
  · split at hc
    · split at hc
      · injection hc with hc
        subst hc
        exact rowsOf_fresh hfr (by assumption)
      · cases hc
    · cases hc

/-- Old rows, and new ones behind them, in one block. -/
theorem RowR.glue {S F : Nat → Prop} {e sz n : Nat} {l l' : List (List Cell)} {news : List Value} {G : Nat → Nat → Nat → Prop} {old : Nat → Option Value} (hn : l.length = n)
    (hold : ∀ (i : Nat) (r : List Cell), l[i]? = some r → r.length = sz ∧ ∀ (j : Nat) (d : Cell), r[j]? = some d → ∃ v, old (i * sz + j) = some v ∧ RC ρ S w (G i j) d v) (hnew : RowsV ρ S w sz l' news)
    {b' base' cap' : Nat} {cur' : Array Value} (hF : F b') (hh : w'.heap[b']? = some (.cells cur' e (0, 0))) (hc : n + l'.length ≤ cap') (hz : base' + cap' * sz ≤ cur'.size)
    (h1 : ∀ k, k < n * sz → cur'[base' + k]? = old k) (h2 : ∀ k u, news[k]? = some u → cur'[base' + n * sz + k]? = some u)
    (hk : ∀ p : Addr, S p.block → w'.cell? p = w.cell? p) (hρ : ∀ id ∈ (l ++ l').flatMap (fun r => r.flatMap Cell.ids), ρ' id = ρ id) (hb : ∀ i j x, G i j x → w'.heap[x]? = w.heap[x]?)
    (hG : ∀ i j x, G i j x → F x ∧ x ≠ b') (hd : ∀ i j i' j' x, G i j x → G i' j' x → i = i' ∧ j = j') : RowR ρ' S w' F e sz (l ++ l') b' base' cap' := by
  refine ⟨cur', fun i j x => i < n ∧ G i j x, hF, hh, by rw [List.length_append]; omega, hz, fun i r hi => ?_, fun i j x hx => hG i j x hx.2, fun i j i' j' x hx hx' => hd i j i' j' x hx.2 hx'.2⟩
  have hids : ∀ (j : Nat) (d : Cell), r[j]? = some d → ∀ id ∈ d.ids, ρ' id = ρ id := fun j d hj id hid => hρ id (List.mem_flatMap.2 ⟨r, List.mem_of_getElem? hi, List.mem_flatMap.2 ⟨d, List.mem_of_getElem? hj, hid⟩⟩)
  rcases Nat.lt_or_ge i l.length with hlt | hge
  · rw [List.getElem?_append_left hlt] at hi
    obtain ⟨h3, h4⟩ := hold i r hi
    refine ⟨h3, fun j d hj => ?_⟩
    obtain ⟨v, hv, hrc⟩ := h4 j d hj
    have hjlt : j < sz := by rw [← h3]; exact (List.getElem?_eq_some_iff.1 hj).1
    have : (i + 1) * sz ≤ n * sz := Nat.mul_le_mul_right _ (by omega)
    rw [Nat.add_mul, Nat.one_mul] at this
    exact ⟨v, by rw [Nat.add_assoc, h1 _ (by omega), hv], hrc.next hk (fun _ hx => hx) (hids j d hj) (hb i j) fun x hx => ⟨by omega, hx⟩⟩
  · rw [List.getElem?_append_right hge] at hi
    obtain ⟨h3, h4⟩ := hnew.2 _ r hi
    refine ⟨h3, fun j d hj => ?_⟩
    obtain ⟨hnt, u, hu, hcv, ho⟩ := h4 j d hj
    refine ⟨u, ?_, ho, hcv.next hk (fun _ hx => hx) (hids j d hj), fun T c e => absurd e (ntr_ne hnt T c)⟩
    have e1 : base' + i * sz + j = base' + n * sz + ((i - l.length) * sz + j) := by
      have : i * sz = n * sz + (i - l.length) * sz := by rw [← Nat.add_mul]; congr 1; omega
      omega
    rw [e1]
    exact h2 _ u hu

def killOf : List Nm → List Upd
  | id :: _ => [(id, none)]
  | [] => []
theorem ids_of_rows {c : Cell} {l : List (List Cell)} (hc : rowsOf m c = some l) {id : Nm} (h : id ∈ c.ids) : c.ids = [id] := by
  cases c <;> simp [rowsOf, Cell.ids] at hc h ⊢ <;> rw [h]
theorem so_append (h : StR w0 N ρ φ f m a w) (s x : Operand) (t : Nat) (fr : Nm) (e sz by_ : Nat) (cs cx : Cell) (l l' : List (List Cell)) (ho : o.op = .call { callee := .builtin .append, args := #[s, x], argTypes := #[t, t] })
    (ht : tElt P t = some (e, sz, by_)) (hz : ∃ z, tZero P e = some z ∧ z.length = sz) (hpos : 0 < by_) (hs : aeval N f s = .one cs) (hx : aeval N f x = .one cx) (hd : rowsOf m cs = some l) (hty : ∀ id ∈ cs.ids, ∃ l0, m id = some (.row e sz l0)) (hsrc : srcOf m cx = some l') (hl : ∀ r ∈ l', r.length = sz)
    (hb : (l.length + l'.length) * by_ ≤ 140737488355328) (hfr : Fresh f m fr) : Does P w0 N f m o a w (.one (.own fr (l.length + l'.length))) (killOf cs.ids ++ [(fr, some (.row e sz (l ++ l')))]) := by
  obtain ⟨hu, inf, hi, h1, h2⟩ := tElt_ok ht
  obtain ⟨zl, hz1, hz2⟩ := hz
  obtain ⟨z, hiz, hzc⟩ : ∃ z, inf.zero = some z ∧ z.cells.size = sz := by
    unfold tZero at hz1
    rw [hi] at hz1
    simp only [Option.bind_some, Option.map_eq_some_iff] at hz1
    obtain ⟨z, hz, hz'⟩ := hz1
    exact ⟨z, hz, by rw [← hz2, ← hz']; simp⟩
  have hvx := aeval_ok h x
  rw [hx] at hvx
  obtain ⟨A', cap', ys, ex, hreads, hrows⟩ := src_ok h hsrc hvx hl
  have hvs := aeval_ok h s
  rw [hs] at hvs
  have hlen : l.length + l'.length ≤ 140737488355328 := Nat.le_trans (Nat.le_mul_of_pos_right _ hpos) hb
  have hρf : ∀ id ∈ (l ++ l').flatMap (fun r => r.flatMap Cell.ids), ∀ pl, pset ρ fr pl id = ρ id := fun id hid pl => if_neg fun (e : id = fr) => by
    subst e
    rw [List.flatMap_append, List.mem_append] at hid
    exact hid.elim (rowsOf_fresh hfr hd) (src_fresh hfr hsrc)
  have fin : ∀ (id : Nm) (v' : Value) (w' : World) (pl : Option (Nat × Nat × Nat)) (F : Nat → Prop), (cs.ids = [id] ∨ cs.ids = [] ∧ id = fr) → (execOp a.eval o).run P w = .ok (.value v') w' → Mv (fun b => ∃ o, m id = some o ∧ φ id b) w w' →
      (∀ b, F b → (w.heap.size ≤ b ∧ b < w'.heap.size) ∨ ∃ o, m id = some o ∧ φ id b) → OR (pset ρ fr pl) (fset φ fr F) (Sof w0 φ m w) w' fr (.row e sz (l ++ l')) →
      CV (pset ρ fr pl) (fun _ => False) w' (.own fr (l.length + l'.length)) v' → Does P w0 N f m o a w (.one (.own fr (l.length + l'.length))) (killOf cs.ids ++ [(fr, some (.row e sz (l ++ l')))]) := by
    intro id v' w' pl F hid hrun hmv hF hor hcv K Q hK
    refine wp_of_run hrun (hK _ _ ⟨pset ρ fr pl, fset φ fr F, ?_⟩)
    have hturn := h.turn id fr pl F _ hfr hmv hF hor
    have em : mupd m (killOf cs.ids ++ [(fr, some (.row e sz (l ++ l')))]) = mset (mset m id none) fr (some (.row e sz (l ++ l'))) := by
      rcases hid with hid | ⟨hid, rfl⟩
      · rw [hid]; rfl
      · rw [hid]
        funext i
        simp only [killOf, List.nil_append, mupd, mput, mset]
        split <;> rfl
    rw [em]
    exact hturn.1.put o.dst (x := .one (.own fr (l.length + l'.length))) (v := v') hcv
  have hex : ∀ R, (Builtin.append_ #[t, t] o.type #[a.eval s, .slice A' l'.length cap']).run P w = R → (execOp a.eval o).run P w = R.andThen fun v w => .ok (.value v) w := fun R hR => by
    simp only [execOp, ho, resolve, invoke, builtin, Sem.run_bind, Sem.run_pure, Result.andThen_ok, List.map_toArray, List.map_cons, List.map_nil, ex, hR]
  rcases (rowsOf_ok h hd hvs).2 with ⟨rfl, A, es⟩ | ⟨id, ty, sz', l0, b, p, cap, cur, G, hid, hm, hsub, es, hfb, hh, hlc, hcs, hcell, hG, hdj⟩
  · -- nothing there yet
    have hrun := run_append_k (P := P) w t o.type e inf z sz by_ hu hi hiz h1 h2 hzc hpos A 0 0 [] ⟨by simp, fun h => absurd h (by omega)⟩ A' l'.length cap' ys hreads hrows.one (by simpa using hb) (Nat.le_refl _) (.inl ⟨rfl, rfl⟩)
    rw [← es] at hrun
    have hid : ∃ id, (cs.ids = [id] ∨ cs.ids = [] ∧ id = fr) := by
      cases e2 : cs.ids with
      | nil => exact ⟨fr, .inr ⟨rfl, rfl⟩⟩
      | cons i r => exact ⟨i, .inl (by rw [ids_of_rows hd (id := i) (by rw [e2]; simp)] at e2; exact e2.symm)⟩
    obtain ⟨id, hid⟩ := hid
    rcases hrun with ⟨hle, hrun⟩ | ⟨cap2, w', cur', hge, hrun, hh', hlt, hmv, hcs', hget⟩
    · have hl0 : l' = [] := List.eq_nil_of_length_eq_zero (by omega)
      subst hl0
      have hrun1 : (Builtin.append_ #[t, t] o.type #[a.eval s, .slice A' ([] : List (List Cell)).length cap']).run P w = .ok (a.eval s) w := by
        rcases hrun with ⟨_, hr⟩ | ⟨b, base, ety, cur, _, hb', _, hr⟩
        · exact hr
        · have hy : ys = [] := List.eq_nil_of_length_eq_zero (by simpa using hreads.1)
          subst hy
          rw [hr]
          have e3 : w.setRow b (lay cur.toList (base + 0 * sz) []).toArray = w := by
            simp only [lay, List.append_nil, List.length_nil, Nat.add_zero, List.take_append_drop, Array.toArray_toList]
            exact setRow_self w b cur ety (0, 0) hb'
          rw [e3]
          rw [es]
          rfl
      refine fin id _ w none (fun _ => False) hid (hex _ hrun1) (Mv.refl _ w) (fun _ h => h.elim) ⟨by simp, .inl ⟨if_pos rfl, rfl⟩⟩ (.inr ⟨if_pos rfl, rfl, A, es⟩)
    · refine fin id _ w' (some (w.heap.size, 0, cap2)) (· = w.heap.size) hid (hex _ hrun) (hmv.mono fun _ h => h.elim) (fun b hb => .inl (by rw [hb]; exact ⟨Nat.le_refl _, hlt⟩)) ⟨by simpa using hlen, .inr ⟨w.heap.size, 0, cap2, if_pos rfl, ?_⟩⟩ (.inl ⟨w.heap.size, 0, cap2, if_pos rfl, by simp⟩)
      refine RowR.glue (n := 0) (G := fun _ _ _ => False) (old := fun _ => none) (ρ := ρ) (w := w) (news := ys) rfl (by simp) hrows ((congrFun (if_pos rfl) _).mpr rfl) hh' (by simpa using hge) (by omega) (by simp) (fun k u hk => ?_) (fun p hp => World.cell?_of_block (hmv.block p.block hp.1 fun h => h)) (fun id hid => hρf id hid _) (fun _ _ _ h => h.elim) (fun _ _ _ h => h.elim) (fun _ _ _ _ _ h => h.elim)
      have := hget k u (by simpa using hk)
      simpa using this
  · -- behind rows
    have hids := ids_of_rows hd hid
    obtain ⟨l00, hm'⟩ := hty id hid
    rw [hm] at hm'
    injection hm' with hm'
    injection hm' with e1 e2 e3
    subst e1 e2
    have hrd := own_rd (S := fun _ => True) (K := fun _ => True) (G := G) (l := l) hh hlc hcs
    have hnc : l.length * sz' ≤ cap * sz' := Nat.mul_le_mul_right _ hlc
    have hrun := run_append_k (P := P) w t o.type ty inf z sz' by_ hu hi hiz h1 h2 hzc hpos _ l.length cap _ hrd A' l'.length cap' ys hreads hrows.one hb hlc (.inr ⟨b, p, ty, cur, rfl, hh, hcs⟩)
    rw [← es] at hrun
    have hold : ∀ (i : Nat) (r : List Cell), l[i]? = some r → r.length = sz' ∧ ∀ (j : Nat) (d : Cell), r[j]? = some d → ∃ v, (fun k => cur[p + k]?) (i * sz' + j) = some v ∧ RC ρ (Sof w0 φ m w) w (G i j) d v := fun i r hi => ⟨(hcell i r hi).1, fun j d hj => by
      obtain ⟨v, hv, hrc⟩ := (hcell i r hi).2 j d hj
      exact ⟨v, by rw [← hv, Nat.add_assoc], hrc⟩⟩
    have hSb : ∀ q : Addr, Sof w0 φ m w q.block → q.block ≠ b := fun q hq e => hq.2.1 id _ hm (by rw [e]; exact hfb)
    rcases hrun with ⟨hroom, hrun⟩ | ⟨cap2, w', cur', hge, hrun, hh', hlt, hmv, hcs', hget⟩
    · have hboth : ∃ w', (Builtin.append_ #[t, t] o.type #[a.eval s, .slice A' l'.length cap']).run P w = .ok (.slice (some ⟨b, p, none⟩) (l.length + l'.length) cap) w' ∧ Mv (· = b) w w' ∧ w'.heap[b]? = some (.cells (lay cur.toList (p + l.length * sz') ys).toArray ty (0, 0)) := by
        rcases hrun with ⟨h0, hr⟩ | ⟨b2, base2, ety, cur2, e5, hb2, _, hr⟩
        · have hy : ys = [] := List.eq_nil_of_length_eq_zero (by rw [hreads.1, h0]; simp)
          refine ⟨w, by rw [hr, es, h0]; rfl, Mv.refl _ w, ?_⟩
          subst hy
          simp only [lay, List.append_nil, List.length_nil, Nat.add_zero, List.take_append_drop, Array.toArray_toList]
          exact hh
        · injection e5 with e5
          injection e5 with e6 e7
          subst e6 e7
          rw [hh] at hb2
          injection hb2 with hb2
          injection hb2 with e8 e9 e10
          subst e8
          exact ⟨_, hr, Mv.setRow w b _, setRow_heap w b cur _ ty (0, 0) hh⟩
      obtain ⟨w', hrun, hmv, hh'⟩ := hboth
      have hml : (l.length + l'.length) * sz' ≤ cap * sz' := Nat.mul_le_mul_right _ hroom
      rw [Nat.add_mul] at hml
      have hfit : p + l.length * sz' + ys.length ≤ cur.toList.length := by
        have e9 : cur.toList.length = cur.size := Array.length_toList
        rw [hreads.1]
        omega
      refine fin id _ w' (some (b, p, cap)) (φ id) (.inl hids) (hex _ hrun) (hmv.mono fun x hx => ⟨_, hm, by rw [hx]; exact hfb⟩) (fun b hb => .inr ⟨_, hm, hb⟩) ⟨by rw [List.length_append]; exact hlen, .inr ⟨b, p, cap, if_pos rfl, ?_⟩⟩ (.inl ⟨b, p, cap, if_pos rfl, rfl⟩)
      refine RowR.glue (n := l.length) (G := G) (old := fun k => cur[p + k]?) (ρ := ρ) (w := w) (news := ys) rfl hold hrows ((congrFun (if_pos rfl) _).mpr hfb) hh' hroom ?_ (fun k hk => ?_) (fun k u hk => ?_) (fun q hq => World.cell?_of_block (hmv.block q.block hq.1 (hSb q hq))) (fun id hid => hρf id hid _) (fun i j x hx => hmv.block x (h.lt id _ x hm (hG i j x hx).1) (hG i j x hx).2) (fun i j x hx => ⟨(congrFun (if_pos rfl) _).mpr (hG i j x hx).1, (hG i j x hx).2⟩) hdj
      · have := lay_length (l := cur.toList) (cs := ys) (off := p + l.length * sz') hfit
        simp only [List.size_toArray, this, Array.length_toList]
        exact hcs
      · rw [List.getElem?_toArray, lay_at _ _ _ _ hfit, if_pos (by omega)]
        simp
      · have hlt : k < ys.length := (List.getElem?_eq_some_iff.1 hk).1
        rw [List.getElem?_toArray, lay_at _ _ _ _ hfit, if_neg (by omega), if_pos (by omega), ← hk]
        congr 1
        omega
    · refine fin id _ w' (some (w.heap.size, 0, cap2)) (fun x => x = w.heap.size ∨ φ id x) (.inl hids) (hex _ hrun) (hmv.mono fun _ h => h.elim) (fun b hb => hb.elim (fun e => .inl (by rw [e]; exact ⟨Nat.le_refl _, hlt⟩)) fun hb => .inr ⟨_, hm, hb⟩) ⟨by rw [List.length_append]; exact hlen, .inr ⟨w.heap.size, 0, cap2, if_pos rfl, ?_⟩⟩ (.inl ⟨w.heap.size, 0, cap2, if_pos rfl, rfl⟩)
      refine RowR.glue (n := l.length) (G := G) (old := fun k => cur[p + k]?) (ρ := ρ) (w := w) (news := ys) rfl hold hrows ((congrFun (if_pos rfl) _).mpr (.inl rfl)) hh' hge (by omega) (fun k hk => ?_) (fun k u hk => ?_) (fun q hq => World.cell?_of_block (hmv.block q.block hq.1 fun h => h)) (fun id hid => hρf id hid _) (fun i j x hx => hmv.block x (h.lt id _ x hm (hG i j x hx).1) fun h => h) (fun i j x hx => ⟨(congrFun (if_pos rfl) _).mpr (.inr (hG i j x hx).1), Nat.ne_of_lt (h.lt id _ x hm (hG i j x hx).1)⟩) hdj
      · have hlo : k < ((cur.toList.drop p).take (l.length * sz')).length := by rw [hrd.1]; exact hk
        have e5 := hget k _ (by rw [List.getElem?_append_left hlo]; exact List.getElem?_eq_getElem hlo)
        have e6 : ((cur.toList.drop p).take (l.length * sz'))[k]? = cur[p + k]? := by
          rw [List.getElem?_take, if_pos hk, List.getElem?_drop]
          simp
        rw [Nat.zero_add, e5, ← List.getElem?_eq_getElem hlo, e6]
      · have e5 := hget (l.length * sz' + k) u (by rw [List.getElem?_append_right (by rw [hrd.1]; omega), hrd.1, ← hk]; congr 1; omega)
        rw [Nat.zero_add]
        exact e5
end
end Go.Proofs.Yteohodhcegbmmaa
