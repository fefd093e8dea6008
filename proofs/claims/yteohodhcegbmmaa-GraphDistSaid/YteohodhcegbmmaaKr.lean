/- The run of a region as a function on lists; the rules for code on the abstract state: regions, branches, loops, what a function is given and what it answers. No condition. -/
import Derived.Test.YteohodhcegbmmaaKq
set_option linter.unusedSimpArgs false
set_option linter.unusedVariables false
namespace Go.Proofs.Yteohodhcegbmmaa
open Go.RowKit

abbrev LF := List (Nat × AV)
def fget : LF → Nat → AV
  | [], _ => .one .any
  | (k, v) :: r, t => if t = k then v else fget r t
def fadd (F : LF) (dst : Option Nat) (v : AV) : LF :=
  match dst with
  | some d => (d, v) :: F
  | none => F
def madd (M : LM) : List Upd → LM
  | [] => M
  | p :: r => madd (p :: M) r
theorem fget_add (F : LF) (dst : Option Nat) (v : AV) : fget (fadd F dst v) = fput (fget F) dst v := by
  cases dst with
  | none => rfl
  | some d => rfl
theorem mget_add : ∀ (U : List Upd) (M : LM), mget (madd M U) = mupd (mget M) U
  | [], _ => rfl
  | u :: U, M => by
    simp only [madd, mupd]
    rw [mget_add U]
    rfl
def fkeep (F : LF) (ks : List Nat) : LF := ks.map fun t => (t, fget F t)
def mkeep (M : LM) (ks : List Nm) : LM := ks.map fun t => (t, mget M t)
theorem fget_keep {F : LF} {t : Nat} : ∀ {ks : List Nat}, fget (fkeep F ks) t = if t ∈ ks then fget F t else .one .any
  | [] => by simp [fkeep, fget]
  | k :: ks => by
    have ih := fget_keep (F := F) (t := t) (ks := ks)
    simp only [fkeep] at ih
    simp only [fkeep, List.map_cons, fget, ih, List.mem_cons]
    by_cases e : t = k
    · simp [e]
    · simp [e]
theorem mget_keep {M : LM} {t : Nm} : ∀ {ks : List Nm}, mget (mkeep M ks) t = if t ∈ ks then mget M t else none
  | [] => by simp [mkeep, mget]
  | k :: ks => by
    have ih := mget_keep (M := M) (t := t) (ks := ks)
    simp only [mkeep] at ih
    simp only [mkeep, List.map_cons, mget, mput, mset, ih, List.mem_cons]
    by_cases e : t = k
    · simp [e]
    · simp [e]

abbrev Gd := Option (Option Nat × Bool)
abbrev T3 := List Nat × List Nat × List Nat
def okV (nx : Nat) (v : AV) (U : List Upd) : Bool := (v.ids.map (·.1) ++ uIds U).all fun id => Nat.blt id (nx + 1)
/-- The run in the text's order, of a region that runs so. -/
noncomputable def arun (P : Program) (Z : List (Fact P)) (N : Nat) : List Gd → List Oper → Nat → LF → LM → Option (LF × LM)
  | [], [], _, F, M => some (F, M)
  | g :: gs, o :: l, nx, F, M =>
    match gstep P Z (aeval N (fget F)) (mget M) nx g o with
    | some (v, U) => if okV nx v U = true then arun P Z N gs l (nx + 1) (fadd F o.dst v) (madd M U) else none
    | none => none
  | _, _, _, _, _ => none
/-- The same, with what each operation looks at, writes and shows. -/
noncomputable def drun (P : Program) (Z : List (Fact P)) (N : Nat) : List Gd → List Oper → Nat → LF → LM → List T3 → Option (LF × LM × List T3)
  | [], [], _, F, M, T => some (F, M, T)
  | g :: gs, o :: l, nx, F, M, T =>
    match gstep P Z (aeval N (fget F)) (mget M) nx g o with
    | some (v, U) => if okV nx v U = true then drun P Z N gs l (nx + 1) (fadd F o.dst v) (madd M U) (((opN (mget M) (aeval N (fget F)) o).map (·.1), U.map ucl, v.ids.map (·.1) ++ uIds U) :: T) else none
    | none => none
  | _, _, _, _, _, _ => none

structure SL (w0 : Bas) (N nx : Nat) (F : LF) (M : LM) (a : Act) (w : World) : Prop where
  st : St w0 N (fget F) (mget M) a w
  nm : Names (· < nx) (fget F, mget M)
  pos : 0 < nx

section
variable {P : Program} {w0 : Bas} {N nx : Nat} {F F' : LF} {M M' : LM} {a : Act} {w : World} {l l0 : List Oper} {Q : Exit → Act → World → Prop}

theorem okV_all {nx : Nat} {v : AV} {U : List Upd} (h : okV nx v U = true) : ∀ id ∈ v.ids.map (·.1) ++ uIds U, id < nx + 1 := fun id hid => by
  have := List.all_eq_true.1 h id hid
  rw [Nat.blt_eq] at this
  exact this
theorem arun_runs {Z : List (Fact P)} : ∀ {l : List Oper} {nx : Nat} {F F' : LF} {M M' : LM}, arun P Z N (l.map (gof l0)) l nx F M = some (F', M') → ∃ rs, Runs P Z N l0 l nx (fget F, mget M) rs ∧ app (fun _ => true) rs (fget F, mget M) = (fget F', mget M')
  | [], nx, F, F', M, M', h => by
    simp only [List.map_nil, arun, Option.some.injEq, Prod.mk.injEq] at h
    obtain ⟨rfl, rfl⟩ := h
    exact ⟨[], .nil _ _, rfl⟩
  | o :: l, nx, F, F', M, M', h => by
    simp only [List.map_cons, arun] at h
    split at h
    · rename_i v U hs
      split at h
      · rename_i hV
        obtain ⟨rs, h1, h2⟩ := arun_runs h
        have e : (fget (fadd F o.dst v), mget (madd M U)) = Rec.put ⟨o.dst, v, U, (opN (mget M) (aeval N (fget F)) o).map (·.1)⟩ (fget F, mget M) := by
          simp only [Rec.put, fget_add, mget_add]
        rw [e] at h1 h2
        exact ⟨_ :: rs, .cons (r := ⟨o.dst, v, U, (opN (mget M) (aeval N (fget F)) o).map (·.1)⟩) hs rfl rfl (okV_all hV) h1, by simpa only [app, if_true] using h2⟩
      · cases h
    · cases h
theorem drun_runs {Z : List (Fact P)} : ∀ {l : List Oper} {nx : Nat} {F F' : LF} {M M' : LM} {T T' : List T3}, drun P Z N (l.map (gof l0)) l nx F M T = some (F', M', T') → ∃ rs, Runs P Z N l0 l nx (fget F, mget M) rs ∧ app (fun _ => true) rs (fget F, mget M) = (fget F', mget M') ∧ T'.reverse = T.reverse ++ rs.map Rec.tr
  | [], nx, F, F', M, M', T, T', h => by
    simp only [List.map_nil, drun, Option.some.injEq, Prod.mk.injEq] at h
    obtain ⟨rfl, rfl, rfl⟩ := h
    exact ⟨[], .nil _ _, rfl, by simp⟩
  | o :: l, nx, F, F', M, M', T, T', h => by
    simp only [List.map_cons, drun] at h
    split at h
    · rename_i v U hs
      split at h
      · rename_i hV
        obtain ⟨rs, h1, h2, h3⟩ := drun_runs h
        have e : (fget (fadd F o.dst v), mget (madd M U)) = Rec.put ⟨o.dst, v, U, (opN (mget M) (aeval N (fget F)) o).map (·.1)⟩ (fget F, mget M) := by
          simp only [Rec.put, fget_add, mget_add]
        rw [e] at h1 h2
        exact ⟨_ :: rs, .cons (r := ⟨o.dst, v, U, (opN (mget M) (aeval N (fget F)) o).map (·.1)⟩) hs rfl rfl (okV_all hV) h1, by simpa only [app, if_true] using h2, by
          rw [h3]
          simp [Rec.tr, Rec.W, Rec.V]⟩
      · cases h
    · cases h

/-- What is no longer wanted goes. -/
theorem StR.less {ρ : Place} {φ : Foot} {f f' : Nat → AV} {m m' : Nm → Option AObj} (h : StR w0 N ρ φ f m a w) (hf : ∀ t, f' t = f t ∨ f' t = .one .any) (hm : ∀ i, m' i = m i ∨ m' i = none) : StR w0 N ρ φ f' m' a w := by
  have old : ∀ i o, m' i = some o → m i = some o := fun i o hi => by
    rcases hm i with e | e
    · rw [← e]; exact hi
    · rw [e] at hi; cases hi
  have hS : ∀ b, Sof w0 φ m w b → Sof w0 φ m' w b := fun b hb => ⟨hb.1, fun i o hi => hb.2.1 i o (old i o hi), hb.2.2⟩
  refine ⟨h.mv, h.dfr, h.size, fun t v ht => ?_, fun i o hi => (h.objs i o (old i o hi)).next (fun _ _ => rfl) hS (fun _ _ => rfl) rfl (fun _ _ => rfl) (fun _ hb => hb), fun i o b hi => h.lt i o b (old i o hi), fun i o b hi => h.base i o b (old i o hi), fun i i' o o' b hi hi' => h.disj i i' o o' b (old i o hi) (old i' o' hi'), fun i o h0 hi => h.stab i o h0 (old i o hi)⟩
  rcases hf t with e | e
  · rw [e]; exact (h.regs t v ht).next (fun _ _ => rfl) hS (fun _ _ => rfl)
  · rw [e]; trivial
theorem SL.keep (h : SL w0 N nx F M a w) (ks : List Nat) (ms : List Nm) : SL w0 N nx (fkeep F ks) (mkeep M ms) a w := by
  obtain ⟨⟨ρ, φ, h1⟩, h2, h3⟩ := h
  have hf : ∀ t, fget (fkeep F ks) t = fget F t ∨ fget (fkeep F ks) t = .one .any := fun t => by
    rw [fget_keep]
    split
    · exact .inl rfl
    · exact .inr rfl
  have hm : ∀ t, mget (mkeep M ms) t = mget M t ∨ mget (mkeep M ms) t = none := fun t => by
    rw [mget_keep]
    split
    · exact .inl rfl
    · exact .inr rfl
  refine ⟨⟨ρ, φ, h1.less hf hm⟩, ⟨fun t id hid => ?_, fun i o hi => ?_⟩, h3⟩
  · rcases hf t with e | e
    · simp only [e] at hid; exact h2.1 t id hid
    · simp only [e] at hid; cases hid
  · rcases hm i with e | e
    · simp only [e] at hi; exact h2.2 i o hi
    · simp only [e] at hi; cases hi

def okeep (ks : List Nat) (ms : List Nm) : Option (LF × LM) → Option (LF × LM)
  | some (F, M) => some (fkeep F ks, mkeep M ms)
  | none => none
def dkeep (ks : List Nat) (ms : List Nm) : Option (LF × LM × List T3) → Option (LF × LM × List T3)
  | some (F, M, T) => some (fkeep F ks, mkeep M ms, T)
  | none => none
/-- THE RULE for a region that runs in its text's order; ks, ms: the slots and the objects that are wanted later. -/
theorem r_plain {id : Nat} (Z : List (Fact P)) (gs : List Gd) (ks : List Nat) (ms : List Nm) (h : SL w0 N nx F M a w) (hg : l.map (gof l) = gs) (e : okeep ks ms (arun P Z N gs l nx F M) = some (F', M'))
    (hQ : ∀ a w, SL w0 N (nx + l.length) F' M' a w → Q .normal a w) : (Code.region id l.toArray false).wp P Q a w := by
  subst hg
  unfold okeep at e
  split at e
  · rename_i F1 M1 e1
    injection e with e
    injection e with e2 e3
    subst e2 e3
    obtain ⟨rs, h1, h2⟩ := arun_runs e1
    have hb := h1.bd h.nm
    rw [h2] at hb
    refine wp_plain h.pos h1 h.nm h.st fun a w hst => hQ a w (SL.keep ⟨?_, hb, by have := h.pos; omega⟩ ks ms)
    rw [h2] at hst
    exact hst
  · cases e
/-- THE RULE for a region that draws its order. -/
theorem r_drawn {id : Nat} {T : List T3} (hm : P.follows .mixedOrders = true) (Z : List (Fact P)) (gs : List Gd) (ks : List Nat) (ms : List Nm) (h : SL w0 N nx F M a w) (hg : l.map (gof l) = gs) (e : dkeep ks ms (drun P Z N gs l nx F M []) = some (F', M', T)) (hc : chk l nx T.reverse = true)
    (hQ : ∀ a w, SL w0 N (nx + l.length) F' M' a w → Q .normal a w) : (Code.region id l.toArray true).wp P Q a w := by
  subst hg
  unfold dkeep at e
  split at e
  · rename_i F1 M1 T1 e1
    injection e with e
    injection e with e2 e
    injection e with e3 e4
    subst e2 e3 e4
    obtain ⟨rs, h1, h2, h3⟩ := drun_runs e1
    have hb := h1.bd h.nm
    rw [h2] at hb
    simp only [List.reverse_nil, List.nil_append] at h3
    rw [h3] at hc
    refine wp_drawn h.pos hm h1 h.nm hc h.st fun a w hst => hQ a w (SL.keep ⟨?_, hb, by have := h.pos; omega⟩ ks ms)
    rw [h2] at hst
    exact hst
  · cases e
theorem rs_plain {id : Nat} {y : Code} (nx' : Nat) (Z : List (Fact P)) (gs : List Gd) (ks : List Nat) (ms : List Nm) (h : SL w0 N nx F M a w) (hg : l.map (gof l) = gs) (hx : nx + l.length = nx') (e : okeep ks ms (arun P Z N gs l nx F M) = some (F', M'))
    (hQ : ∀ a w, SL w0 N nx' F' M' a w → y.wp P Q a w) : (Code.seq (.region id l.toArray false) y).wp P Q a w :=
  wp_seq (r_plain Z gs ks ms h hg e (hx ▸ hQ))
theorem rs_drawn {id : Nat} {y : Code} {T : List T3} (nx' : Nat) (hm : P.follows .mixedOrders = true) (Z : List (Fact P)) (gs : List Gd) (ks : List Nat) (ms : List Nm) (h : SL w0 N nx F M a w) (hg : l.map (gof l) = gs) (hx : nx + l.length = nx') (e : dkeep ks ms (drun P Z N gs l nx F M []) = some (F', M', T)) (hc : chk l nx T.reverse = true)
    (hQ : ∀ a w, SL w0 N nx' F' M' a w → y.wp P Q a w) : (Code.seq (.region id l.toArray true) y).wp P Q a w :=
  wp_seq (r_drawn hm Z gs ks ms h hg e hc (hx ▸ hQ))
theorem r_cond {c : Operand} {x y : Code} (h : SL w0 N nx F M a w) (b : Bool) (e : aeval N (fget F) c = .one (.d (.bool b))) (ht : b = true → x.wp P Q a w) (hf : b = false → y.wp P Q a w) : (Code.cond c x y).wp P Q a w := by
  obtain ⟨ρ, φ, h1⟩ := h.st
  have := aeval_ok h1 c
  rw [e] at this
  exact wp_cond_split (cv_bool (ρ := ρ) this) ht hf
/-- A branch on whether a slice is nil: it has no elements where it is. -/
theorem r_condB {c : Operand} {x y : Code} {b0 : Bool} {n : Nat} (h : SL w0 N nx F M a w) (e : aeval N (fget F) c = .one (.bb b0 n)) (ht : (b0 = true → n = 0) → x.wp P Q a w) (hf : (b0 = false → n = 0) → y.wp P Q a w) : (Code.cond c x y).wp P Q a w := by
  obtain ⟨ρ, φ, h1⟩ := h.st
  have := aeval_ok h1 c
  rw [e] at this
  obtain ⟨b, hb, hn⟩ := this
  exact wp_cond_split hb (fun e => ht fun e' => hn (e.trans e'.symm)) (fun e => hf fun e' => hn (e.trans e'.symm))
end
end Go.Proofs.Yteohodhcegbmmaa
