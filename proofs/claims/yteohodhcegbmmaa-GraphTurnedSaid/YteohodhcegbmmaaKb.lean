/- One operation at a time: what it does to the abstract frame and the own objects, and that the model does just that. No condition. -/
import Derived.Test.YteohodhcegbmmaaKa
import Derived.Deep.MidRow
import Derived.Laws.Tables
set_option linter.unusedSimpArgs false
set_option linter.unusedVariables false
namespace Go.Proofs.Yteohodhcegbmmaa
open Go.RowKit


theorem add_lit (b o n : Nat) : (⟨b, o, none⟩ : Addr).add n = ⟨b, o + n, none⟩ := by
  unfold Addr.add
  by_cases h : n = 0 <;> simp [h]
/-- The store of a frame's slot, as the abstract frame has it. -/
def fput (f : Nat → AV) (dst : Option Nat) (v : AV) : Nat → AV :=
  match dst with
  | some d => fun t => if t = d then v else f t
  | none => f
def mset (m : Nm → Option AObj) (id : Nm) (o : Option AObj) : Nm → Option AObj := fun i => if i = id then o else m i
/-- What is written: an object. -/
abbrev Upd := Nm × Option AObj
def mput (m : Nm → Option AObj) (u : Upd) : Nm → Option AObj := mset m u.1 u.2
def mupd (m : Nm → Option AObj) : List Upd → Nm → Option AObj
  | [] => m
  | u :: r => mupd (mput m u) r

theorem regs_put {ρ : Place} {S : Nat → Prop} {w : World} {f : Nat → AV} {a : Act} {dst : Option Tmp} {x : AV} {v : Value} (h : ∀ (t : Nat) (u : Value), a.tmps[t]? = some u → AVR ρ S w (f t) u) (hv : AVR ρ S w x v) :
    ∀ (t : Nat) (u : Value), (a.put dst v).tmps[t]? = some u → AVR ρ S w (fput f dst x t) u := by
  intro t u hu
  cases dst with
  | none => exact h t u hu
  | some d =>
    simp only [Act.put, Array.getElem?_setIfInBounds] at hu
    simp only [fput]
    by_cases e : d = t
    · subst e
      simp only [if_true] at hu ⊢
      split at hu
      · injection hu with hu
        subst hu
        exact hv
      · cases hu
    · rw [if_neg e] at hu
      rw [if_neg (Ne.symm e)]
      exact h t u hu
theorem put_size (a : Act) (dst : Option Tmp) (v : Value) : (a.put dst v).tmps.size = a.tmps.size := by cases dst <;> simp [Act.put]
theorem put_dfr (a : Act) (dst : Option Tmp) (v : Value) : (a.put dst v).defers = a.defers := by cases dst <;> rfl
/-- A slot is set; memory stands. -/
theorem StR.put {w0 : Bas} {N : Nat} {ρ : Place} {φ : Foot} {f : Nat → AV} {m : Nm → Option AObj} {a : Act} {w : World} (h : StR w0 N ρ φ f m a w) (dst : Option Tmp) {x : AV} {v : Value} (hv : AVR ρ (Sof w0 φ m w) w x v) : StR w0 N ρ φ (fput f dst x) m (a.put dst v) w :=
  ⟨h.mv, (put_dfr a dst v).trans h.dfr, (put_size a dst v).trans h.size, regs_put h.regs hv, h.objs, h.lt, h.base, h.disj, h.stab⟩
/-- A draw. -/
theorem StR.drew {w0 : Bas} {N : Nat} {ρ : Place} {φ : Foot} {f : Nat → AV} {m : Nm → Option AObj} {a : Act} {w : World} (h : StR w0 N ρ φ f m a w) : StR w0 N ρ φ f m a w.drew :=
  (h.step (fun _ => False) ((Mv.drew w).mono fun _ h => h.elim) (fun _ _ _ hi => hi) (fun _ _ _ _ _ => Iff.rfl) (fun _ _ _ _ => ⟨rfl, fun _ _ => rfl⟩) (fun _ _ _ => rfl) (fun _ _ _ h => h.elim) (fun _ _ _ _ _ h => h.elim) (fun _ _ h => h.elim) (fun _ _ _ h => h.elim)).1
theorem St.drew {w0 : Bas} {N : Nat} {f : Nat → AV} {m : Nm → Option AObj} {a : Act} {w : World} (h : St w0 N f m a w) : St w0 N f m a w.drew := let ⟨ρ, φ, h⟩ := h; ⟨ρ, φ, h.drew⟩

/-- A constant. -/
def ofVal : Value → Cell
  | .int k n => .d (.int k n)
  | .bool b => .d (.bool b)
  | .string s => .d (.str s)
  | .slice none 0 0 => .nil
  | _ => .any
def Cell.known : Cell → Bool
  | .any => false
  | .tr _ _ => false
  | _ => true
theorem ofVal_cv {ρ : Place} {S : Nat → Prop} {w : World} (v : Value) : CV ρ S w (ofVal v) v := by
  unfold ofVal
  split
  · exact .int _ _
  · exact .bool _
  · exact .str _
  · rfl
  · trivial
theorem ofVal_one {v : Value} (h : (ofVal v).known = true) : v.oneCell' = true := by
  unfold ofVal at h
  split at h
  · rfl
  · rfl
  · rfl
  · rfl
  · cases h
theorem ofVal_ids (v : Value) : (ofVal v).ids = [] := by
  unfold ofVal
  split <;> rfl

def aeval (N : Nat) (f : Nat → AV) : Operand → AV
  | .tmp t => if t < N then f t else .one .any
  | .const v => .one (ofVal v)
  | _ => .one .any
theorem aeval_ok {w0 : Bas} {N : Nat} {ρ : Place} {φ : Foot} {f : Nat → AV} {m : Nm → Option AObj} {a : Act} {w : World} (h : StR w0 N ρ φ f m a w) (x : Operand) : AVR ρ (Sof w0 φ m w) w (aeval N f x) (a.eval x) := by
  cases x with
  | tmp t =>
    simp only [aeval, Act.eval]
    by_cases e : t < N
    · rw [if_pos e]
      have hs : t < a.tmps.size := by rw [h.size]; exact e
      have := h.regs t a.tmps[t] (Array.getElem?_eq_getElem hs)
      simpa [Array.getD, hs] using this
    · rw [if_neg e]
      trivial
  | const v => exact ofVal_cv v
  | global g => trivial
  | func g => trivial

/-- The program's types, as the operations ask them. -/
def tShape (P : Program) (t : TypeId) : Option (Option Nat) :=
  match P.underlying t, P.info? t with
  | some d, some i => if d.isRow = true then some (some i.size) else if i.size = 1 then some none else none
  | _, _ => none
def tZero (P : Program) (t : TypeId) : Option (List Value) := (P.info? t).bind fun i => i.zero.map fun z => z.cells.toList
def tFld (P : Program) (s : TypeId) (f : Nat) : Option Nat :=
  match P.underlying s with
  | some (.struct fs) => match fs[f]? with
    | some fd => match P.info? fd.type with
      | some i => if i.size = 0 then none else some fd.offset
      | none => none
    | none => none
  | _ => none
/-- A slice type's element: its type, how many cells, how many bytes. -/
def tElt (P : Program) (t : TypeId) : Option (TypeId × Nat × Nat) :=
  match P.underlying t with
  | some (.slice e) => (P.info? e).map fun i => (e, i.size, i.bytes)
  | _ => none
/-- An array type: how many elements, of how many cells. -/
def tArr (P : Program) (t : TypeId) : Option (Nat × Nat) :=
  match P.underlying t with
  | some (.array n e) => (P.info? e).map fun i => (n, i.size)
  | _ => none
def tInt (P : Program) (t : TypeId) : Option IntKind :=
  match P.underlying t with
  | some (.int k) => some k
  | _ => none
/-- A struct or array type: where its parts lie, and its zero. -/
def tBuilt (P : Program) (t : TypeId) : Option (List (Nat × Nat) × List Value) :=
  match P.info? t, P.underlying t with
  | some it, some (.struct fields) =>
    match it.zero, fields.toList.mapM (fun f => (P.info? f.type).map fun i => (f.offset, i.size)) with
    | some z, some places => some (places, z.cells.toList)
    | _, _ => none
  | some it, some (.array n e) =>
    match it.zero, P.info? e with
    | some z, some ie => some ((List.range n).map fun i => (i * ie.size, ie.size), z.cells.toList)
    | _, _ => none
  | _, _ => none

theorem wp_of_run {P : Program} {o : Oper} {a : Act} {w w' : World} {v : Value} {K : Act → World → Prop} {Q : Exit → Act → World → Prop} (h : (execOp a.eval o).run P w = .ok (.value v) w') (hk : K (a.put o.dst v) w') : o.wp P a w K Q := by
  unfold Oper.wp
  rw [h]
  exact hk
theorem wp_of_skip {P : Program} {o : Oper} {a : Act} {w w' : World} {K : Act → World → Prop} {Q : Exit → Act → World → Prop} (h : (execOp a.eval o).run P w = .ok .skip w') (hk : K (a.put o.dst undef) w') : o.wp P a w K Q := by
  unfold Oper.wp
  rw [h]
  exact hk

/-- An operation that does as told: the slot is set, the objects are turned. -/
def Does (P : Program) (w0 : Bas) (N : Nat) (f : Nat → AV) (m : Nm → Option AObj) (o : Oper) (a : Act) (w : World) (v : AV) (U : List Upd) : Prop :=
  ∀ (K : Act → World → Prop) (Q : Exit → Act → World → Prop), (∀ a' w', St w0 N (fput f o.dst v) (mupd m U) a' w' → K a' w') → o.wp P a w K Q

section
variable {P : Program} {w0 : Bas} {N : Nat} {ρ : Place} {φ : Foot} {f : Nat → AV} {m : Nm → Option AObj} {a : Act} {w : World} {o : Oper}
theorem does_pure (h : StR w0 N ρ φ f m a w) {u : Value} {v : AV} (hr : (execOp a.eval o).run P w = .ok (.value u) w) (hv : AVR ρ (Sof w0 φ m w) w v u) : Does P w0 N f m o a w v [] :=
  fun _ _ hK => wp_of_run hr (hK _ _ ⟨ρ, φ, h.put o.dst hv⟩)

theorem so_move (h : StR w0 N ρ φ f m a w) (x : Operand) (ho : o.op = .move x ∨ o.op = .assign x) : Does P w0 N f m o a w (aeval N f x) [] :=
  does_pure h (u := a.eval x) (by rcases ho with ho | ho <;> simp [execOp, ho]) (aeval_ok h x)
theorem so_pick (h : StR w0 N ρ φ f m a w) (c x y : Operand) (b : Bool) (ho : o.op = .pick c x y) (hc : aeval N f c = .one (.d (.bool b))) : Does P w0 N f m o a w (if b then aeval N f x else aeval N f y) [] := by
  have h1 := aeval_ok h c
  rw [hc] at h1
  have e : a.eval c = .bool b := by
    simp only [AVR, CV] at h1
    generalize a.eval c = u at h1
    cases h1
    rfl
  refine does_pure h (u := if b then a.eval x else a.eval y) (by simp [execOp, ho, e, asBool]) ?_
  cases b
  · exact aeval_ok h y
  · exact aeval_ok h x

/-- What a data cell's value is. -/
theorem cv_int {S : Nat → Prop} {k : IntKind} {n : Int} {v : Value} (h : CV ρ S w (.d (.int k n)) v) : v = .int k n := by cases (show View S w (.int k n) v from h); rfl
theorem cv_bool {S : Nat → Prop} {b : Bool} {v : Value} (h : CV ρ S w (.d (.bool b)) v) : v = .bool b := by cases (show View S w (.bool b) v from h); rfl
theorem av_int (h : StR w0 N ρ φ f m a w) {x : Operand} {k : IntKind} {n : Int} (e : aeval N f x = .one (.d (.int k n))) : a.eval x = .int k n := by
  have := aeval_ok h x
  rw [e] at this
  exact cv_int (ρ := ρ) this
theorem av_bool (h : StR w0 N ρ φ f m a w) {x : Operand} {b : Bool} (e : aeval N f x = .one (.d (.bool b))) : a.eval x = .bool b := by
  have := aeval_ok h x
  rw [e] at this
  exact cv_bool (ρ := ρ) this

/-- Bit by bit and. -/
def landK (k : IntKind) (x y : Int) : Int := k.wrap ((BitVec.ofInt k.bits x &&& BitVec.ofInt k.bits y).toNat)
/-- Numbers. -/
def arith (op : BinOp) (k : IntKind) (x y : Int) : Option C :=
  match op with
  | .add => some (.int k (k.wrap (x + y)))
  | .sub => some (.int k (k.wrap (x - y)))
  | .mul => some (.int k (k.wrap (x * y)))
  | .rem => if y = 0 then none else some (.int k (x.tmod y))
  | .quo => if y = 0 then none else some (.int k (k.wrap (x.tdiv y)))
  | .and => some (.int k (landK k x y))
  | .shr => if 0 ≤ y ∧ y ≤ k.bits then some (.int k (x.fdiv (2 ^ y.toNat))) else none
  | .shl => if 0 ≤ y ∧ y ≤ k.bits then some (.int k (k.wrap (x * 2 ^ y.toNat))) else none
  | .eql => some (.bool (x == y))
  | .neq => some (.bool (x != y))
  | .lss => some (.bool (decide (x < y)))
  | .leq => some (.bool (decide (x ≤ y)))
  | .gtr => some (.bool (decide (x > y)))
  | .geq => some (.bool (decide (x ≥ y)))
  | _ => none
theorem so_arith (h : StR w0 N ρ φ f m a w) (op : BinOp) (xt yt : TypeId) (x y : Operand) (k : IntKind) (p q : Int) (c : C) (ho : o.op = .binOp op xt x y yt) (hx : aeval N f x = .one (.d (.int k p))) (hy : aeval N f y = .one (.d (.int k q))) (hc : arith op k p q = some c) :
    Does P w0 N f m o a w (.one (.d c)) [] := by
  have ex := av_int h hx
  have ey := av_int h hy
  unfold arith at hc
  split at hc <;> first
    | (injection hc with hc; subst hc; exact does_pure h (by simp [execOp, ho, ex, ey, eqGuard, binOp, Op.intArith, Op.intBits, Op.intCmp]; rfl) (by first | exact View.int _ _ | exact View.bool _))
    | (by_cases hne : q = 0
       · rw [if_pos hne] at hc; cases hc
       · rw [if_neg hne] at hc; injection hc with hc; subst hc; exact does_pure h (by simp [execOp, ho, ex, ey, eqGuard, binOp, Op.intDiv, hne] <;> rfl) (View.int _ _))
    | (split at hc
       · rename_i hs
         injection hc with hc; subst hc
         have h1 : ¬ q < 0 := by omega
         have h2 : min q.toNat k.bits = q.toNat := by omega
         exact does_pure h (by simp only [execOp, ho, ex, ey, eqGuard, binOp, Op.shift, if_neg h1, h2]; rfl) (View.int _ _)
       · cases hc)
    | cases hc
def boolOp (op : BinOp) (x y : Bool) : Option C :=
  match op with
  | .eql => some (.bool (x == y))
  | .neq => some (.bool (!(x == y)))
  | _ => none
theorem run_bool_eq {P : Program} {w : World} {t : TypeId} (hu : P.underlying t = some .bool) (p q : Bool) : (Op.equal t (.bool p) (.bool q)).run P w = .ok (p == q) w := by
  show (Op.equalIn (9999 + 1) t (.bool p) (.bool q)).run P w = _
  exact run_equalIn_bool w 9999 t p q hu
theorem so_boolOp (h : StR w0 N ρ φ f m a w) (op : BinOp) (xt yt : TypeId) (x y : Operand) (p q : Bool) (c : C) (hu : P.underlying xt = some .bool) (ho : o.op = .binOp op xt x y yt) (hx : aeval N f x = .one (.d (.bool p))) (hy : aeval N f y = .one (.d (.bool q))) (hc : boolOp op p q = some c) :
    Does P w0 N f m o a w (.one (.d c)) [] := by
  have ex := av_bool h hx
  have ey := av_bool h hy
  unfold boolOp at hc
  split at hc
  · injection hc with hc; subst hc
    exact does_pure h (u := .bool (p == q)) (by simp only [execOp, ho, ex, ey, eqGuard, binOp, Sem.run_bind, run_bool_eq hu]; rfl) (View.bool _)
  · injection hc with hc; subst hc
    exact does_pure h (u := .bool (!(p == q))) (by simp only [execOp, ho, ex, ey, eqGuard, binOp, Sem.run_bind, run_bool_eq hu]; rfl) (View.bool _)
  · cases hc
theorem so_not (h : StR w0 N ρ φ f m a w) (x : Operand) (t : TypeId) (p : Bool) (ho : o.op = .unOp .not t x) (hx : aeval N f x = .one (.d (.bool p))) : Does P w0 N f m o a w (.one (.d (.bool (!p)))) [] :=
  does_pure h (u := .bool (!p)) (by simp [execOp, ho, av_bool h hx, Op.unary]) (View.bool _)
theorem so_neg (h : StR w0 N ρ φ f m a w) (x : Operand) (t : TypeId) (k : IntKind) (p : Int) (ho : o.op = .unOp .neg t x) (hx : aeval N f x = .one (.d (.int k p))) : Does P w0 N f m o a w (.one (.d (.int k (k.wrap (0 - p))))) [] :=
  does_pure h (u := .int k (k.wrap (0 - p))) (by simp [execOp, ho, av_int h hx, Op.unary, Op.intArith]) (View.int _ _)
theorem so_convert (h : StR w0 N ρ φ f m a w) (x : Operand) (s t : TypeId) (k k' : IntKind) (p : Int) (hs : tInt P s = some k) (ht : tInt P t = some k') (ho : o.op = .convert s t x) (hx : aeval N f x = .one (.d (.int k p))) : Does P w0 N f m o a w (.one (.d (.int k' (k'.wrap p)))) [] := by
  have us : ∃ d, P.underlying s = some d := by
    unfold tInt at hs
    split at hs
    · exact ⟨_, by assumption⟩
    · cases hs
  have ut : P.underlying t = some (.int k') := by
    unfold tInt at ht
    split at ht
    · injection ht with ht; subst ht; assumption
    · cases ht
  obtain ⟨d, hd⟩ := us
  exact does_pure h (u := .int k' (k'.wrap p)) (by simp [execOp, ho, av_int h hx, convert, run_underlying hd, run_underlying ut, Conv.intToInt]) (View.int _ _)
theorem so_extract (h : StR w0 N ρ φ f m a w) (x : Operand) (i : Nat) (l : List (List Cell ⊕ Cell)) (y : List Cell ⊕ Cell) (ho : o.op = .extract x i) (hx : aeval N f x = .tup l) (hy : l[i]? = some y) :
    Does P w0 N f m o a w (match y with | .inl cs => .agg cs | .inr c => .one c) [] := by
  have hv := aeval_ok h x
  rw [hx] at hv
  obtain ⟨vs, hv, hl, hc⟩ := hv
  have hi : i < vs.length := by rw [hl]; exact (List.getElem?_eq_some_iff.1 hy).1
  have h1 := hc i y vs[i] hy (List.getElem?_eq_getElem hi)
  refine does_pure h (u := vs[i]) (by simp [execOp, ho, hv, Instr.extract, hi]) ?_
  cases y with
  | inl cs => exact h1
  | inr c => exact h1

theorem tShape_row {t : TypeId} {n : Nat} (h : tShape P t = some (some n)) : ∃ d, P.underlying t = some d ∧ d.isRow = true ∧ (P.info? t).map (·.size) = some n := by
  unfold tShape at h
  split at h
  · rename_i d i h1 h2
    split at h
    · rename_i h3
      injection h with h
      injection h with h
      exact ⟨d, h1, h3, by rw [h2]; simp [h]⟩
    · split at h <;> simp at h
  · cases h
theorem tShape_one {t : TypeId} (h : tShape P t = some none) : ∃ d, P.underlying t = some d ∧ d.isRow = false ∧ (P.info? t).map (·.size) = some 1 := by
  unfold tShape at h
  split at h
  · rename_i d i h1 h2
    split at h
    · simp at h
    · rename_i h3
      split at h
      · rename_i h4
        exact ⟨d, h1, by simpa using h3, by rw [h2]; simp [h4]⟩
      · cases h
  · cases h
end
end Go.Proofs.Yteohodhcegbmmaa
