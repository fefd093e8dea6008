/- A region in every order that it may take (second half): the run in the text's order, the check, the two rules. No condition. -/
import Derived.Test.YteohodhcegbmmaaKo
set_option linter.unusedSimpArgs false
set_option linter.unusedVariables false
namespace Go.Proofs.Yteohodhcegbmmaa
open Go.RowKit

/-- Every name in sight is of p. -/
def Names (p : Nat → Prop) (s : S2) : Prop := (∀ t, ∀ id ∈ (s.1 t).ids, p id.1) ∧ ∀ i o, s.2 i = some o → p i.1 ∧ ∀ id ∈ o.ids, p id.1
theorem mupd_cases : ∀ {U : List Upd} {m : Nm → Option AObj} {i : Nm} {o : AObj}, mupd m U i = some o → m i = some o ∨ (i.1 ∈ uIds U ∧ ∀ id ∈ o.ids, id.1 ∈ uIds U)
  | [], _, _, _, h => .inl h
  | (j, x) :: U, m, i, o, h => by
    have sub : ∀ k, k ∈ uIds U → k ∈ uIds ((j, x) :: U) := fun k hk => by
      cases x <;> simp [uIds, hk]
    simp only [mupd] at h
    rcases mupd_cases h with h1 | h1
    · simp only [mput, mset] at h1
      by_cases e : i = j
      · rw [if_pos e] at h1
        rw [e, h1]
        refine .inr ⟨by simp [uIds], fun id hid => ?_⟩
        simp only [uIds, List.mem_cons, List.mem_append, List.mem_map]
        exact .inr (.inl ⟨id, hid, rfl⟩)
      · rw [if_neg e] at h1
        exact .inl h1
    · exact .inr ⟨sub _ h1.1, fun id hid => sub _ (h1.2 id hid)⟩
theorem Names.put {p : Nat → Prop} {s : S2} {r : Rec} (h : Names p s) (hr : ∀ id ∈ r.V, p id) : Names p (r.put s) := by
  refine ⟨fun t id hid => ?_, fun i o ho => ?_⟩
  · simp only [Rec.put] at hid
    cases hd : r.dst with
    | none => rw [hd] at hid; exact h.1 t id hid
    | some d =>
      rw [hd] at hid
      simp only [fput] at hid
      split at hid
      · exact hr id.1 (List.mem_append.2 (.inl (List.mem_map.2 ⟨id, hid, rfl⟩)))
      · exact h.1 t id hid
  · rcases mupd_cases ho with h1 | h1
    · exact h.2 i o h1
    · exact ⟨hr i.1 (List.mem_append.2 (.inr h1.1)), fun id hid => hr id.1 (List.mem_append.2 (.inr (h1.2 id hid)))⟩
theorem Names.app {p : Nat → Prop} : ∀ {rs : List Rec} {L : Nat → Bool} {s : S2}, Names p s → (∀ k r, rs[k]? = some r → L k = true → ∀ id ∈ r.V, p id) → Names p (app L rs s)
  | [], _, _, h, _ => h
  | r :: rs, L, s, h, hr => by
    simp only [Go.Proofs.Yteohodhcegbmmaa.app]
    refine Names.app ?_ fun k r' hk => hr (k + 1) r' (by simpa using hk)
    split
    · rename_i h0
      exact h.put (hr 0 r (by simp) h0)
    · exact h
theorem Names.fresh {s : S2} {fr : Nat} (h : Names (fun id => id ≠ fr) s) (h0 : fr ≠ 0) (k : Nat) : Fresh s.1 s.2 (fr, k) :=
  ⟨fun t hid => h.1 t (fr, k) hid rfl, fun i o ho hid => (h.2 i o ho).2 (fr, k) hid rfl, by
    cases e : s.2 (fr, k) with
    | none => rfl
    | some o => exact absurd rfl (h.2 (fr, k) o e).1, h0⟩
theorem Names.mono {p q : Nat → Prop} {s : S2} (h : Names p s) (hpq : ∀ id, p id → q id) : Names q s := ⟨fun t id hid => hpq id.1 (h.1 t id hid), fun i o ho => ⟨hpq i.1 (h.2 i o ho).1, fun id hid => hpq id.1 ((h.2 i o ho).2 id hid)⟩⟩

inductive Runs (P : Program) (Z : List (Fact P)) (N : Nat) (l0 : List Oper) : List Oper → Nat → S2 → List Rec → Prop
  | nil (nx : Nat) (s : S2) : Runs P Z N l0 [] nx s []
  | cons {o : Oper} {l : List Oper} {nx : Nat} {s : S2} {r : Rec} {rs : List Rec} (hs : gstep P Z (aeval N s.1) s.2 nx (gof l0 o) o = some (r.v, r.U)) (hd : r.dst = o.dst) (hR : r.R = (opN s.2 (aeval N s.1) o).map (·.1)) (hV : ∀ id ∈ r.V, id < nx + 1)
      (h : Runs P Z N l0 l (nx + 1) (r.put s) rs) : Runs P Z N l0 (o :: l) nx s (r :: rs)

theorem app_ext : ∀ {rs : List Rec} {L L' : Nat → Bool} {s : S2}, (∀ k, k < rs.length → L k = L' k) → app L rs s = app L' rs s
  | [], _, _, _, _ => rfl
  | r :: rs, L, L', s, h => by
    simp only [app]
    rw [h 0 (by simp), app_ext fun k hk => h (k + 1) (by simpa using hk)]

section
variable {P : Program} {Z : List (Fact P)} {w0 : Bas} {N : Nat} {l0 l : List Oper} {nx : Nat} {s : S2} {rs : List Rec} {Q : Exit → Act → World → Prop}

theorem Runs.at_ : ∀ {l : List Oper} {nx : Nat} {s : S2} {rs : List Rec} {i : Nat} {o : Oper}, Runs P Z N l0 l nx s rs → l[i]? = some o → ∃ r, rs[i]? = some r ∧ r.dst = o.dst ∧ (∀ id ∈ r.V, id < nx + i + 1) ∧
    r.R = (opN (app (fun k => decide (k < i)) rs s).2 (aeval N (app (fun k => decide (k < i)) rs s).1) o).map (·.1) ∧ gstep P Z (aeval N (app (fun k => decide (k < i)) rs s).1) (app (fun k => decide (k < i)) rs s).2 (nx + i) (gof l0 o) o = some (r.v, r.U) := by
  intro l nx s rs i o h hi
  induction h generalizing i with
  | nil => simp at hi
  | cons hs hd hR hV h ih =>
    rename_i o' l nx s r rs
    cases i with
    | zero =>
      simp at hi
      subst hi
      have e : app (fun k => decide (k < 0)) (r :: rs) s = s := by
        rw [app_ext (L' := fun _ => false) (fun k _ => by simp)]
        exact app_false
      rw [e]
      exact ⟨r, by simp, hd, by simpa using hV, hR, by simpa using hs⟩
    | succ i =>
      obtain ⟨r', h1, h2, h3, h4, h5⟩ := ih (by simpa using hi)
      have e : app (fun k => decide (k < i + 1)) (r :: rs) s = app (fun k => decide (k < i)) rs (r.put s) := by
        simp only [app]
        rw [if_pos (by simp)]
        exact app_ext fun k _ => by simp
      rw [e]
      refine ⟨r', by simpa using h1, h2, fun id hid => ?_, h4, ?_⟩
      · have := h3 id hid; omega
      · have e2 : nx + (i + 1) = nx + 1 + i := by omega
        rw [e2]; exact h5
theorem Runs.len {l : List Oper} {nx : Nat} {s : S2} {rs : List Rec} (h : Runs P Z N l0 l nx s rs) : rs.length = l.length := by
  induction h with
  | nil => rfl
  | cons _ _ _ _ _ ih => simp [ih]
theorem Runs.bd {l : List Oper} {nx : Nat} {s : S2} {rs : List Rec} (h : Runs P Z N l0 l nx s rs) (hb : Names (· < nx) s) : Names (· < nx + l.length) (app (fun _ => true) rs s) := by
  induction h with
  | nil => exact hb
  | cons hs hd hR hV h ih =>
    rename_i o' l nx s r rs
    have := ih ((hb.mono fun id (h : id < nx) => (by omega : id < nx + 1)).put hV)
    simp only [app, if_true, List.length_cons]
    refine this.mono fun id h => ?_
    have : id < nx + 1 + l.length := h
    omega

/-- A region that runs in the text's order. -/
theorem plain_ok : ∀ {l : List Oper} {nx : Nat} {s : S2} {rs : List Rec} {i : Nat} {a : Act} {w : World}, Runs P Z N l0 l nx s rs → 0 < nx → Names (· < nx) s → (∀ j, l[j]? = l0[i + j]?) → St w0 N s.1 s.2 a w →
    (∀ a w, St w0 N (app (fun _ => true) rs s).1 (app (fun _ => true) rs s).2 a w → Q .normal a w) → wpOps P l0.toArray Q (List.range' i l.length) a w := by
  intro l nx s rs i a w h
  induction h generalizing i a w with
  | nil => intro _ _ _ h hQ; exact hQ a w h
  | cons hs hd hR hV h ih =>
    rename_i o' l nx s r rs
    intro hpos hb hl hst hQ
    rw [List.length_cons, List.range'_succ, wpOps_cons]
    have h0 : l0[i]? = some o' := by have := hl 0; simpa using this.symm
    refine gstep_ok hst ((hb.mono fun id (hid : id < nx) => (by omega : id ≠ nx)).fresh (by omega)) hs (by simpa using h0) fun a' w' hst' => ?_
    refine ih (by omega) ((hb.mono fun id (hid : id < nx) => (by omega : id < nx + 1)).put hV) (fun j => ?_) ?_ ?_
    · have := hl (j + 1)
      simp only [List.getElem?_cons_succ] at this
      rw [this]
      congr 1
      omega
    · rw [← hd] at hst'
      exact hst'
    · simpa only [app, if_true] using hQ
theorem wp_plain (h0 : 0 < nx) {id : Nat} {a : Act} {w : World} (h : Runs P Z N l l nx s rs) (hb : Names (· < nx) s) (hst : St w0 N s.1 s.2 a w)
    (hQ : ∀ a w, St w0 N (app (fun _ => true) rs s).1 (app (fun _ => true) rs s).2 a w → Q .normal a w) : (Code.region id l.toArray false).wp P Q a w := by
  refine wp_region ?_
  have := plain_ok (i := 0) h h0 hb (fun j => by simp) hst hQ
  rw [List.size_toArray, List.range_eq_range']
  exact this

/- The check, for a region that draws its order. -/
def mask (A : List Nat) (o : Oper) : Nat := o.after.toList.foldl (fun acc e => if Region.binds .any e = true then acc ||| ((1 <<< e.on) ||| A.getD e.on 0) else acc) 0
def masks : List Oper → List Nat → List Nat
  | [], A => A
  | o :: r, A => masks r (A ++ [mask A o])
def okMasks (A : List Nat) : Nat → List Oper → Bool
  | _, [] => true
  | i, o :: r => A.getD i 0 == mask A o && (o.after.toList.all fun e => !Region.binds .any e || Nat.blt e.on i) && okMasks A (i + 1) r
/-- A look-up, and an entry's first step: of which map, by which key. -/
def lkOf (o : Oper) : Option (Nat × Nat × Nat) := match o.op with
  | .lookup t (.tmp a) (.tmp b) false => some (t, a, b)
  | _ => none
def meOf (o : Oper) : Option (Nat × Nat × Nat) := match o.op with
  | .mapEntry t (.tmp a) (.tmp b) => some (t, a, b)
  | _ => none
structure Tr where
  dst : Option Nat
  looks : List Nat
  R : List Nat
  W : List Nat
  V : List Nat
  lk : Option (Nat × Nat × Nat)
  me : Option (Nat × Nat × Nat)
def meets (fr : Nat) (x y : Tr) : Bool :=
  (match x.dst with
    | some d => y.looks.contains d || y.dst == some d
    | none => false) ||
  (match y.dst with
    | some d => x.looks.contains d
    | none => false) ||
  x.W.any (fun id => y.R.contains id || y.W.contains id) || (!(x.lk.isSome && x.lk == y.me) && x.R.any (fun id => y.W.contains id)) || y.V.contains fr
def okPairs (A : List Nat) (fr : Nat) (i : Nat) (x : Tr) : Nat → List Tr → Bool
  | _, [] => true
  | k, y :: r => (!meets fr x y || Nat.testBit (A.getD k 0) i) && okPairs A fr i x (k + 1) r
def okAll (A : List Nat) (nx : Nat) : Nat → List Tr → Bool
  | _, [] => true
  | i, x :: r => okPairs A (nx + i) i x (i + 1) r && okAll A nx (i + 1) r
/-- What an operation looks at, of the text alone. -/
def trs (l : Array Oper) : List Oper → List (List Nat × List Nat × List Nat) → List Tr
  | o :: r, (R, W, V) :: q => ⟨o.dst, o.looksAt l, R, W, V, lkOf o, meOf o⟩ :: trs l r q
  | _, _ => []
def oneME : List Oper → Bool
  | [] => true
  | o :: r => if (meOf o).isSome = true then r.all fun y => !(meOf y).isSome else oneME r
theorem oneME_at : ∀ {l : List Oper} {j k : Nat} {x y : Oper}, oneME l = true → l[j]? = some x → l[k]? = some y → (meOf x).isSome = true → (meOf y).isSome = true → j = k
  | [], _, _, _, _, _, h, _, _, _ => by simp at h
  | o :: r, j, k, x, y, h, hj, hk, hx, hy => by
    simp only [oneME] at h
    cases j with
    | zero =>
      simp at hj
      subst hj
      rw [if_pos hx] at h
      cases k with
      | zero => rfl
      | succ k =>
        have := List.all_eq_true.1 h y (List.mem_of_getElem? (by simpa using hk))
        rw [hy] at this
        cases this
    | succ j =>
      cases k with
      | zero =>
        simp at hk
        subst hk
        rw [if_pos hy] at h
        have := List.all_eq_true.1 h x (List.mem_of_getElem? (by simpa using hj))
        rw [hx] at this
        cases this
      | succ k =>
        split at h
        · have := List.all_eq_true.1 h y (List.mem_of_getElem? (by simpa using hk))
          rw [hy] at this
          cases this
        · exact congrArg Nat.succ (oneME_at h (by simpa using hj) (by simpa using hk) hx hy)
def chk (l : List Oper) (nx : Nat) (T : List (List Nat × List Nat × List Nat)) : Bool :=
  okMasks (masks l []) 0 l && (okAll (masks l []) nx 0 (trs l.toArray l T) && oneME l)

theorem okMasks_at {A : List Nat} : ∀ {l : List Oper} {i k : Nat} {o : Oper}, okMasks A i l = true → l[k]? = some o → A.getD (i + k) 0 = mask A o ∧ ∀ e ∈ o.after, Region.binds .any e = true → e.on < i + k
  | [], _, _, _, _, h => by simp at h
  | o' :: l, i, k, o, h, hk => by
    simp only [okMasks, Bool.and_eq_true] at h
    cases k with
    | zero =>
      simp at hk
      subst hk
      refine ⟨by simpa using h.1.1, fun e he hb => ?_⟩
      have := List.all_eq_true.1 h.1.2 e (by simpa using he)
      rw [hb] at this
      simp only [Bool.not_true, Bool.false_or] at this
      rw [Nat.blt_eq] at this
      simpa using this
    | succ k =>
      have := okMasks_at (k := k) h.2 (by simpa using hk)
      rw [show i + (k + 1) = i + 1 + k by omega]
      exact this
theorem fold_bit {A : List Nat} {k : Nat} : ∀ {es : List Edge} {acc : Nat}, Nat.testBit (es.foldl (fun acc e => if Region.binds .any e = true then acc ||| ((1 <<< e.on) ||| A.getD e.on 0) else acc) acc) k = true →
    Nat.testBit acc k = true ∨ ∃ e ∈ es, Region.binds .any e = true ∧ (e.on = k ∨ Nat.testBit (A.getD e.on 0) k = true)
  | [], _, h => .inl h
  | e :: es, acc, h => by
    simp only [List.foldl_cons] at h
    rcases fold_bit h with h | ⟨e', he', hb, hk⟩
    · split at h
      · rename_i hb
        simp only [Nat.testBit_or, Bool.or_eq_true] at h
        rcases h with h | h | h
        · exact .inl h
        · refine .inr ⟨e, by simp, hb, .inl ?_⟩
          rw [Nat.one_shiftLeft, Nat.testBit_two_pow] at h
          simpa using h
        · exact .inr ⟨e, by simp, hb, .inr h⟩
      · exact .inl h
    · exact .inr ⟨e', List.mem_cons_of_mem _ he', hb, hk⟩
theorem okPairs_at {A : List Nat} {fr i : Nat} {x y : Tr} : ∀ {l : List Tr} {k j : Nat}, okPairs A fr i x k l = true → l[j]? = some y → meets fr x y = true → Nat.testBit (A.getD (k + j) 0) i = true
  | [], _, _, _, h, _ => by simp at h
  | z :: l, k, j, h, hj, hm => by
    simp only [okPairs, Bool.and_eq_true] at h
    cases j with
    | zero =>
      simp at hj
      subst hj
      have := h.1
      rw [hm] at this
      simpa using this
    | succ j =>
      have := okPairs_at (j := j) h.2 (by simpa using hj) hm
      rw [show k + (j + 1) = k + 1 + j by omega]
      exact this
theorem okAll_at {A : List Nat} {nx : Nat} {x y : Tr} : ∀ {l : List Tr} {n i k : Nat}, okAll A nx n l = true → i < k → l[i]? = some x → l[k]? = some y → meets (nx + (n + i)) x y = true → Nat.testBit (A.getD (n + k) 0) (n + i) = true
  | [], _, _, _, _, _, h, _, _ => by simp at h
  | z :: l, n, i, k, h, hik, hi, hk, hm => by
    simp only [okAll, Bool.and_eq_true] at h
    cases k with
    | zero => omega
    | succ k =>
      cases i with
      | zero =>
        simp at hi
        subst hi
        have := okPairs_at (j := k) h.1 (by simpa using hk) hm
        rw [show n + (k + 1) = n + 1 + k by omega]
        exact this
      | succ i =>
        have := okAll_at (n := n + 1) (i := i) (k := k) h.2 (by omega) (by simpa using hi) (by simpa using hk) (by rw [show n + 1 + i = n + (i + 1) by omega]; exact hm)
        rw [show n + (k + 1) = n + 1 + k by omega, show n + (i + 1) = n + 1 + i by omega]
        exact this
def Rec.tr (r : Rec) : List Nat × List Nat × List Nat := (r.R, r.W, r.V)
theorem trs_at {A : Array Oper} : ∀ {l : List Oper} {rs : List Rec} {i : Nat} {o : Oper} {r : Rec}, l[i]? = some o → rs[i]? = some r → (trs A l (rs.map Rec.tr))[i]? = some ⟨o.dst, o.looksAt A, r.R, r.W, r.V, lkOf o, meOf o⟩
  | [], _, _, _, _, h, _ => by simp at h
  | _ :: _, [], _, _, _, _, h => by simp at h
  | o' :: l, r' :: rs, i, o, r, h, h' => by
    cases i with
    | zero => simp at h h'; subst h h'; rfl
    | succ i =>
      have := trs_at (A := A) (i := i) (l := l) (rs := rs) (by simpa using h) (by simpa using h')
      simpa [trs, Rec.tr] using this

/-- What the check gives: an operation waits for every earlier one that it meets. -/
def Closed (l : List Oper) (L : Nat → Bool) : Prop := ∀ i o, l[i]? = some o → L i = true → ∀ e ∈ o.after, Region.binds .any e = true → L e.on = true
theorem chk_waits (hc : chk l nx (rs.map Rec.tr) = true) {L : Nat → Bool} (hL : Closed l L) {i k : Nat} {x y : Oper} {r q : Rec} (hik : i < k) (hi : l[i]? = some x) (hk : l[k]? = some y) (hr : rs[i]? = some r) (hq : rs[k]? = some q)
    (hm : meets (nx + i) ⟨x.dst, x.looksAt l.toArray, r.R, r.W, r.V, lkOf x, meOf x⟩ ⟨y.dst, y.looksAt l.toArray, q.R, q.W, q.V, lkOf y, meOf y⟩ = true) (hLk : L k = true) : L i = true := by
  simp only [chk, Bool.and_eq_true] at hc
  have hbit := okAll_at hc.2.1 hik (trs_at hi hr) (trs_at hk hq) (by simpa using hm)
  simp only [Nat.zero_add] at hbit
  have key : ∀ n, ∀ k, k ≤ n → ∀ o, l[k]? = some o → L k = true → Nat.testBit ((masks l []).getD k 0) i = true → L i = true := by
    intro n
    induction n with
    | zero =>
      intro k hkn o ho hLk hb
      have hk0 : k = 0 := by omega
      subst hk0
      have := okMasks_at hc.1 ho
      simp only [Nat.zero_add] at this
      rw [this.1] at hb
      rcases fold_bit hb with h | ⟨e, he, hbi, _⟩
      · simp at h
      · exact absurd (this.2 e (by simpa using he) hbi) (by omega)
    | succ n ih =>
      intro k hkn o ho hLk hb
      have := okMasks_at hc.1 ho
      simp only [Nat.zero_add] at this
      rw [this.1] at hb
      rcases fold_bit hb with h | ⟨e, he, hbi, h⟩
      · simp at h
      · have hLe := hL k o ho hLk e (by simpa using he) hbi
        rcases h with h | h
        · rw [← h]; exact hLe
        · have hlt := this.2 e (by simpa using he) hbi
          have hlen : e.on < l.length := by
            have := (List.getElem?_eq_some_iff.1 ho).1
            omega
          exact ih e.on (by omega) _ (List.getElem?_eq_getElem hlen) hLe h
  exact key k k (Nat.le_refl _) y hk hLk hbit
end
end Go.Proofs.Yteohodhcegbmmaa
