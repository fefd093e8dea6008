/- What a frame and the blocks that a call made read as: data, own boxes, own rows whose inner rows may be owned along with them; and how a step keeps all that is in sight. No condition. -/
import Derived.WalkKit
import Derived.WalkSpells
import Derived.WalkLawsBesides
import Derived.Deep.Draws
import Derived.Maps.AppendAt
import Derived.RegionTactic
import Derived.OwnWalk
set_option linter.unusedSimpArgs false
set_option linter.unusedVariables false
namespace Go.Proofs.Yteohodhcegbmmaa
open Go.RowKit

/-- Data: numbers, bools, strings, slices of rows of these, pointers to cells that stand, functions. -/
inductive C where
  | int (k : IntKind) (n : Int)
  | bool (b : Bool)
  | str (s : ByteArray)
  | sl (l : List (List C))
  | rop (cs : List C)
  | fn (g : FuncId) (first : List (List C ⊕ C)) (caps : List C)

/-- A value that reads as data, out of blocks of S. -/
inductive View (S : Nat → Prop) (w : World) : C → Value → Prop where
  | int (k : IntKind) (n : Int) : View S w (.int k n) (.int k n)
  | bool (b : Bool) : View S w (.bool b) (.bool b)
  | str (s : ByteArray) : View S w (.str s) (.string s)
  | sl (l : List (List C)) (sz : Nat) (A : Option Addr) (c : Nat) (u : Nat → Nat → Value)
      (hsz : ∀ (i : Nat) (r : List C), l[i]? = some r → r.length = sz) (hc : l.length ≤ c) (hb : l.length ≤ 140737488355328)
      (hA : 0 < l.length → ∃ b o, A = some ⟨b, o, none⟩ ∧ S b ∧ ∀ (i : Nat) (r : List C) (j : Nat) (d : C), l[i]? = some r → r[j]? = some d → w.cell? ⟨b, o + (i * sz + j), none⟩ = some (u i j))
      (hu : ∀ (i : Nat) (r : List C) (j : Nat) (d : C), l[i]? = some r → r[j]? = some d → View S w d (u i j)) : View S w (.sl l) (.slice A l.length c)
  | rop (cs : List C) (b o : Nat) (u : Nat → Value) (hS : S b) (hcell : ∀ (j : Nat) (c : C), cs[j]? = some c → w.cell? ⟨b, o + j, none⟩ = some (u j))
      (hu : ∀ (j : Nat) (c : C), cs[j]? = some c → View S w c (u j)) : View S w (.rop cs) (.pointer (some ⟨b, o, none⟩))
  | fn (g : FuncId) (first : List (List C ⊕ C)) (caps : List C) (us vs : Array Value) (x : Nat → List Value) (h1 : us.size = first.length) (h2 : vs.size = caps.length)
      (hl : ∀ (i : Nat) (l : List C), first[i]? = some (.inl l) → us[i]? = some (.agg (x i).toArray) ∧ (x i).length = l.length)
      (hx : ∀ (i : Nat) (l : List C) (j : Nat) (c : C) (v : Value), first[i]? = some (.inl l) → l[j]? = some c → (x i)[j]? = some v → View S w c v)
      (hy : ∀ (i : Nat) (c : C) (v : Value), first[i]? = some (.inr c) → us[i]? = some v → View S w c v)
      (hz : ∀ (i : Nat) (c : C) (v : Value), caps[i]? = some c → vs[i]? = some v → View S w c v) : View S w (.fn g first caps) (.func (.func g) us vs)

theorem View.keep {S S' : Nat → Prop} {w w' : World} {c : C} {v : Value} (h : View S w c v) (hk : ∀ p : Addr, S p.block → w'.cell? p = w.cell? p) (hS : ∀ b, S b → S' b) : View S' w' c v := by
  induction h with
  | int k n => exact .int k n
  | bool b => exact .bool b
  | str s => exact .str s
  | sl l sz A c u hsz hc hb hA _ ih =>
    refine .sl l sz A c u hsz hc hb (fun h0 => ?_) ih
    obtain ⟨b, o, e, hs, hcell⟩ := hA h0
    exact ⟨b, o, e, hS b hs, fun i r j d hr hd => (hk ⟨b, _, none⟩ hs).trans (hcell i r j d hr hd)⟩
  | rop cs b o u hs hcell _ ih => exact .rop cs b o u (hS b hs) (fun j c hj => (hk ⟨b, _, none⟩ hs).trans (hcell j c hj)) ih
  | fn g first caps us vs x h1 h2 hl _ _ _ ih1 ih2 ih3 => exact .fn g first caps us vs x h1 h2 hl ih1 ih2 ih3
theorem View.one {S : Nat → Prop} {w : World} {c : C} {v : Value} (h : View S w c v) : v.oneCell' = true := by
  cases h <;> rfl

/-- A name: the class (who made it), and which one of that class. -/
abbrev Nm := Nat × Nat
/-- What the cells of an owned row are: scalars; slices that are owned along, of so many cells each. -/
inductive TD where
  | sc
  | sl (e sz : Nat) (cols : Nat → TD)

/-- What one cell, or a slot, holds: data; an owned slice (in rows' cells alone); a pointer into an own object; a slice over an own row, from its first row on or further on; a function with captured boxes; a map; some bool; nil; unknown. -/
inductive Cell where
  | d (c : C)
  | tr (T : TD) (c : C)
  | ptr (id : Nm) (off : Nat)
  | eptr (id : Nm) (sz i j : Nat)
  | own (id : Nm) (n : Nat)
  | sub (id : Nm) (sz off n : Nat)
  | fnp (g : FuncId) (caps : List (Nm × Nat))
  | mp (id : Nm)
  | bb (e : Bool) (n : Nat)
  | nil
  | any

inductive AV where
  | one (c : Cell)
  | agg (l : List Cell)
  | tup (l : List (List Cell ⊕ Cell))

inductive AObj where
  | box (ty : TypeId) (l : List Cell)
  | row (ty : TypeId) (sz : Nat) (l : List (List Cell))
  | map (kt et : TypeId) (ag : Bool) (n : Nat) (l : List (List Int × C))

def Cell.ids : Cell → List Nm
  | .ptr id _ => [id]
  | .eptr id _ _ _ => [id]
  | .own id _ => [id]
  | .sub id _ _ _ => [id]
  | .fnp _ caps => caps.map (·.1)
  | .mp id => [id]
  | _ => []
def sumIds : List Cell ⊕ Cell → List Nm
  | .inl l => l.flatMap Cell.ids
  | .inr c => c.ids
def AV.ids : AV → List Nm
  | .one c => c.ids
  | .agg l => l.flatMap Cell.ids
  | .tup l => l.flatMap sumIds
def AObj.ids : AObj → List Nm
  | .box _ l => l.flatMap Cell.ids
  | .row _ _ l => l.flatMap fun r => r.flatMap Cell.ids
  | .map _ _ _ _ _ => []
def AV.cells : AV → List Cell
  | .one c => [c]
  | .agg l => l
  | .tup _ => []

/-- A slice that reads as data, and that owns all its blocks, which are among F. -/
inductive Tree (w : World) : TD → C → Value → (Nat → Prop) → Prop where
  | int (k : IntKind) (n : Int) (F : Nat → Prop) : Tree w .sc (.int k n) (.int k n) F
  | bool (b : Bool) (F : Nat → Prop) : Tree w .sc (.bool b) (.bool b) F
  | str (s : ByteArray) (F : Nat → Prop) : Tree w .sc (.str s) (.string s) F
  | nil (e sz : Nat) (cols : Nat → TD) (A : Option Addr) (F : Nat → Prop) : Tree w (.sl e sz cols) (.sl []) (.slice A 0 0) F
  | sl (e sz : Nat) (cols : Nat → TD) (l : List (List C)) (b base cap : Nat) (cur : Array Value) (u : Nat → Nat → Value) (G : Nat → Nat → Nat → Prop) (F : Nat → Prop)
      (hh : w.heap[b]? = some (.cells cur e (0, 0))) (hF : F b) (hc : l.length ≤ cap) (hb : l.length ≤ 140737488355328) (hz : base + cap * sz ≤ cur.size)
      (hl : ∀ (i : Nat) (r : List C), l[i]? = some r → r.length = sz)
      (hu : ∀ (i : Nat) (r : List C) (j : Nat) (d : C), l[i]? = some r → r[j]? = some d → cur[base + i * sz + j]? = some (u i j))
      (ht : ∀ (i : Nat) (r : List C) (j : Nat) (d : C), l[i]? = some r → r[j]? = some d → Tree w (cols j) d (u i j) (G i j))
      (hG : ∀ i j x, G i j x → F x ∧ x ≠ b) (hd : ∀ i j i' j' x, G i j x → G i' j' x → i = i' ∧ j = j') : Tree w (.sl e sz cols) (.sl l) (.slice (some ⟨b, base, none⟩) l.length cap) F

theorem Tree.one {w : World} {T : TD} {c : C} {v : Value} {F : Nat → Prop} (h : Tree w T c v F) : v.oneCell' = true := by
  cases h <;> rfl
theorem Tree.keep {w w' : World} {T : TD} {c : C} {v : Value} {F F' : Nat → Prop} (h : Tree w T c v F) (hk : ∀ b, F b → w'.heap[b]? = w.heap[b]?) (hF : ∀ b, F b → F' b) : Tree w' T c v F' := by
  induction h generalizing F' with
  | int k n F => exact .int k n F'
  | bool b F => exact .bool b F'
  | str s F => exact .str s F'
  | nil e sz cols A F => exact .nil e sz cols A F'
  | sl e sz cols l b base cap cur u G F hh hFb hc hb hz hl hu ht hG hd ih =>
    exact .sl e sz cols l b base cap cur u G F' ((hk b hFb).trans hh) (hF b hFb) hc hb hz hl hu (fun i r j d hr hj => ih i r j d hr hj (fun x hx => hk x (hG i j x hx).1) fun x hx => hx) (fun i j x hx => ⟨hF x (hG i j x hx).1, (hG i j x hx).2⟩) hd
theorem cell_in {w : World} {b k : Nat} {cur : Array Value} {ty : TypeId} {fz : Nat × Nat} (h : w.heap[b]? = some (.cells cur ty fz)) : w.cell? ⟨b, k, none⟩ = cur[k]? := by
  simp [World.cell?, h]
theorem Tree.view {w : World} {T : TD} {c : C} {v : Value} {F S : Nat → Prop} (h : Tree w T c v F) (hF : ∀ b, F b → S b) : View S w c v := by
  induction h with
  | int k n F => exact .int k n
  | bool b F => exact .bool b
  | str s F => exact .str s
  | nil e sz cols A F => exact .sl [] 0 A 0 (fun _ _ => .bool true) (by simp) (Nat.le_refl _) (by simp) (by simp) (by simp)
  | sl e sz cols l b base cap cur u G F hh hFb hc hb hz hl hu ht hG hd ih =>
    exact .sl l sz _ cap u hl hc hb (fun _ => ⟨b, base, rfl, hF b hFb, fun i r j d hr hj => by rw [cell_in hh, ← Nat.add_assoc]; exact hu i r j d hr hj⟩) fun i r j d hr hj => ih i r j d hr hj fun x hx => hF x (hG i j x hx).1

/-- Where an own object lies: its block; where in it; a row's capacity. -/
abbrev Place := Nm → Option (Nat × Nat × Nat)

def CV (ρ : Place) (S : Nat → Prop) (w : World) : Cell → Value → Prop
  | .d c, v => View S w c v
  | .tr _ _, _ => True
  | .ptr id off, v => ∃ b p, ρ id = some (b, p) ∧ v = .pointer (some ⟨b, off, none⟩)
  | .eptr id sz i j, v => ∃ b base cap, ρ id = some (b, base, cap) ∧ v = .pointer (some ⟨b, base + i * sz + j, none⟩)
  | .own id n, v => (∃ b base cap, ρ id = some (b, base, cap) ∧ v = .slice (some ⟨b, base, none⟩) n cap) ∨ (ρ id = none ∧ n = 0 ∧ ∃ A, v = .slice A 0 0)
  | .sub id sz off n, v => (∃ b base cap A, ρ id = some (b, base, cap) ∧ off + n ≤ cap ∧ v = .slice A n (cap - off) ∧ (off < cap → A = some ⟨b, base + off * sz, none⟩)) ∨ (ρ id = none ∧ off = 0 ∧ n = 0 ∧ ∃ A, v = .slice A 0 0)
  | .fnp g caps, v => ∃ vs : Array Value, v = .func (.func g) #[] vs ∧ vs.size = caps.length ∧ ∀ (i : Nat) (p : Nm × Nat) (x : Value), caps[i]? = some p → vs[i]? = some x → ∃ b q, ρ p.1 = some (b, q) ∧ x = .pointer (some ⟨b, p.2, none⟩)
  | .mp id, v => ∃ b q, ρ id = some (b, q) ∧ v = .map (some b)
  | .bb e n, v => ∃ b, v = .bool b ∧ (b = e → n = 0)
  | .nil, v => v = .slice none 0 0
  | .any, _ => True
def CVs (ρ : Place) (S : Nat → Prop) (w : World) (l : List Cell) (vs : List Value) : Prop :=
  vs.length = l.length ∧ ∀ (i : Nat) (c : Cell) (v : Value), l[i]? = some c → vs[i]? = some v → CV ρ S w c v ∧ v.oneCell' = true
def SV (ρ : Place) (S : Nat → Prop) (w : World) : List Cell ⊕ Cell → Value → Prop
  | .inl l, v => ∃ vs : List Value, v = .agg vs.toArray ∧ CVs ρ S w l vs
  | .inr c, v => CV ρ S w c v
def AVR (ρ : Place) (S : Nat → Prop) (w : World) : AV → Value → Prop
  | .one c, v => CV ρ S w c v
  | .agg l, v => ∃ vs : List Value, v = .agg vs.toArray ∧ CVs ρ S w l vs
  | .tup l, v => ∃ vs : List Value, v = .tuple vs.toArray ∧ vs.length = l.length ∧ ∀ (i : Nat) (x : List Cell ⊕ Cell) (v : Value), l[i]? = some x → vs[i]? = some v → SV ρ S w x v
/-- A cell of a row: its value, and what it owns along. -/
def RC (ρ : Place) (S : Nat → Prop) (w : World) (F : Nat → Prop) (d : Cell) (v : Value) : Prop :=
  v.oneCell' = true ∧ CV ρ S w d v ∧ ∀ T c, d = .tr T c → Tree w T c v F
/-- The blocks of objects. -/
abbrev Foot := Nm → Nat → Prop
def RowR (ρ : Place) (S : Nat → Prop) (w : World) (P : Nat → Prop) (ty : TypeId) (sz : Nat) (l : List (List Cell)) (b base cap : Nat) : Prop :=
  ∃ (cur : Array Value) (G : Nat → Nat → Nat → Prop), P b ∧ w.heap[b]? = some (.cells cur ty (0, 0)) ∧ l.length ≤ cap ∧ base + cap * sz ≤ cur.size ∧
    (∀ (i : Nat) (r : List Cell), l[i]? = some r → r.length = sz ∧ ∀ (j : Nat) (d : Cell), r[j]? = some d → ∃ v, cur[base + i * sz + j]? = some v ∧ RC ρ S w (G i j) d v) ∧
    (∀ i j x, G i j x → P x ∧ x ≠ b) ∧ (∀ i j i' j' x, G i j x → G i' j' x → i = i' ∧ j = j')
/-- A map's key, of its numbers. -/
def keyV (ag : Bool) (k : List Int) : Value := if ag = true then .agg (k.map (Value.int .i64)).toArray else match k with
  | [n] => .int .i64 n
  | _ => .agg #[]
def MapR (S : Nat → Prop) (w : World) (ag : Bool) (n : Nat) (l : List (List Int × C)) (es : Array MapEntry) : Prop :=
  es.size = l.length ∧ ∀ (i : Nat) (x : List Int × C) (e : MapEntry), l[i]? = some x → es[i]? = some e → e.key = keyV ag x.1 ∧ x.1.length = n ∧ e.born = i ∧ View S w x.2 e.val
theorem MapR.next {S S' : Nat → Prop} {w w' : World} {ag : Bool} {n : Nat} {l : List (List Int × C)} {es : Array MapEntry} (h : MapR S w ag n l es) (hk : ∀ p : Addr, S p.block → w'.cell? p = w.cell? p) (hS : ∀ b, S b → S' b) : MapR S' w' ag n l es :=
  ⟨h.1, fun i x e hx he => let ⟨h1, h2, h3, h4⟩ := h.2 i x e hx he; ⟨h1, h2, h3, View.keep h4 hk hS⟩⟩
def OR (ρ : Place) (φ : Foot) (S : Nat → Prop) (w : World) (id : Nm) : AObj → Prop
  | .box ty l => ∃ b, ∃ cur : Array Value, ρ id = some (b, 0, 0) ∧ φ id b ∧ w.heap[b]? = some (.cells cur ty (0, 0)) ∧ CVs ρ S w l cur.toList
  | .row ty sz l => l.length ≤ 140737488355328 ∧ ((ρ id = none ∧ l = []) ∨ ∃ b base cap, ρ id = some (b, base, cap) ∧ RowR ρ S w (φ id) ty sz l b base cap)
  | .map _ _ ag n l => ∃ b, ∃ es : Array MapEntry, ρ id = some (b, 0, 0) ∧ φ id b ∧ w.heap[b]? = some (.map es es.size) ∧ MapR S w ag n l es

/-- The world goes on; of the blocks that were there only those of K may be written. -/
structure Mv (K : Nat → Prop) (w w' : World) : Prop where
  os : w'.os = w.os
  tape : w'.tape = w.tape
  output : w'.output = w.output
  size : w.heap.size ≤ w'.heap.size
  block : ∀ k, k < w.heap.size → ¬ K k → w'.heap[k]? = w.heap[k]?
theorem Mv.refl (K : Nat → Prop) (w : World) : Mv K w w := ⟨rfl, rfl, rfl, Nat.le_refl _, fun _ _ _ => rfl⟩
theorem Mv.trans {K K' K'' : Nat → Prop} {a b c : World} (h : Mv K a b) (k : Mv K' b c) (h1 : ∀ x, K x → K'' x) (h2 : ∀ x, x < a.heap.size → K' x → K'' x) : Mv K'' a c :=
  ⟨k.os.trans h.os, k.tape.trans h.tape, k.output.trans h.output, Nat.le_trans h.size k.size, fun i hi hn => (k.block i (Nat.lt_of_lt_of_le hi h.size) fun e => hn (h2 i hi e)).trans (h.block i hi fun e => hn (h1 i e))⟩
theorem Mv.mono {K K' : Nat → Prop} {a b : World} (h : Mv K a b) (h1 : ∀ x, K x → K' x) : Mv K' a b := ⟨h.os, h.tape, h.output, h.size, fun i hi hn => h.block i hi fun e => hn (h1 i e)⟩
theorem Mv.drew (w : World) : Mv (fun _ => False) w w.drew := ⟨rfl, rfl, rfl, Nat.le_refl _, fun _ _ _ => rfl⟩
theorem Mv.alloc (w : World) (o : Obj) : Mv (fun _ => False) w (w.alloc o) := ⟨rfl, rfl, rfl, by simp, fun k hk _ => Below.heap_alloc w o k hk⟩
theorem Mv.setRow (w : World) (g : Nat) (cs : Array Value) : Mv (· = g) w (w.setRow g cs) := ⟨rfl, rfl, rfl, by simp, fun k _ hne => setRow_other w g k cs hne⟩

/-- Where a call began: its world; the blocks that its arguments may be read from; those that it may write; where the objects lie that it was handed (class 0). -/
structure Bas where
  w : World
  S : Nat → Prop
  Φ : Nat → Prop
  P0 : Place
def Sof (w0 : Bas) (φ : Foot) (m : Nm → Option AObj) (w : World) : Nat → Prop :=
  fun b => b < w.heap.size ∧ (∀ id o, m id = some o → ¬ φ id b) ∧ (w0.S b ∨ w0.Φ b ∨ w0.w.heap.size ≤ b)

structure StR (w0 : Bas) (N : Nat) (ρ : Place) (φ : Foot) (f : Nat → AV) (m : Nm → Option AObj) (a : Act) (w : World) : Prop where
  mv : Mv w0.Φ w0.w w
  dfr : a.defers = []
  size : a.tmps.size = N
  regs : ∀ (t : Nat) (v : Value), a.tmps[t]? = some v → AVR ρ (Sof w0 φ m w) w (f t) v
  objs : ∀ (id : Nm) (o : AObj), m id = some o → OR ρ φ (Sof w0 φ m w) w id o
  lt : ∀ (id : Nm) (o : AObj) (b : Nat), m id = some o → φ id b → b < w.heap.size
  base : ∀ (id : Nm) (o : AObj) (b : Nat), m id = some o → φ id b → w0.Φ b ∨ w0.w.heap.size ≤ b
  disj : ∀ (id id' : Nm) (o o' : AObj) (b : Nat), m id = some o → m id' = some o' → φ id b → φ id' b → id = id'
  stab : ∀ (id : Nm) (o : AObj), id.1 = 0 → m id = some o → ρ id = w0.P0 id
def St (w0 : Bas) (N : Nat) (f : Nat → AV) (m : Nm → Option AObj) (a : Act) (w : World) : Prop := ∃ ρ φ, StR w0 N ρ φ f m a w

section
variable {ρ ρ' : Place} {S S' : Nat → Prop} {w w' : World}
/-- How one relation goes over into the next: the cells of S stand, and S grows; the places of the ids in sight stand. -/
theorem CV.next {c : Cell} {v : Value} (h : CV ρ S w c v) (hk : ∀ p : Addr, S p.block → w'.cell? p = w.cell? p) (hS : ∀ b, S b → S' b) (hρ : ∀ id ∈ c.ids, ρ' id = ρ id) : CV ρ' S' w' c v := by
  cases c with
  | d c => exact View.keep h hk hS
  | tr T c => trivial
  | ptr id off => exact let ⟨b, p, hr, hv⟩ := h; ⟨b, p, (hρ id (by simp [Cell.ids])).trans hr, hv⟩
  | eptr id sz i j => exact let ⟨b, x, c, hr, hv⟩ := h; ⟨b, x, c, (hρ id (by simp [Cell.ids])).trans hr, hv⟩
  | own id n =>
    have e := hρ id (by simp [Cell.ids])
    rcases h with ⟨b, x, c, hr, hv⟩ | ⟨hr, hv⟩
    · exact .inl ⟨b, x, c, e.trans hr, hv⟩
    · exact .inr ⟨e.trans hr, hv⟩
  | sub id sz off n =>
    have e := hρ id (by simp [Cell.ids])
    rcases h with ⟨b, x, c, A, hr, hv⟩ | ⟨hr, hv⟩
    · exact .inl ⟨b, x, c, A, e.trans hr, hv⟩
    · exact .inr ⟨e.trans hr, hv⟩
  | fnp g caps =>
    obtain ⟨vs, hv, hl, hc⟩ := h
    refine ⟨vs, hv, hl, fun i p x hp hx => ?_⟩
    obtain ⟨b, q, hr, hx'⟩ := hc i p x hp hx
    exact ⟨b, q, (hρ p.1 (List.mem_map.2 ⟨p, List.mem_of_getElem? hp, rfl⟩)).trans hr, hx'⟩
  | mp id => exact let ⟨b, q, hr, hv⟩ := h; ⟨b, q, (hρ id (by simp [Cell.ids])).trans hr, hv⟩
  | bb e n => exact h
  | nil => exact h
  | any => trivial
theorem CVs.next {l : List Cell} {vs : List Value} (h : CVs ρ S w l vs) (hk : ∀ p : Addr, S p.block → w'.cell? p = w.cell? p) (hS : ∀ b, S b → S' b) (hρ : ∀ id ∈ l.flatMap Cell.ids, ρ' id = ρ id) : CVs ρ' S' w' l vs :=
  ⟨h.1, fun i c v hc hv => ⟨(h.2 i c v hc hv).1.next hk hS fun id hid => hρ id (List.mem_flatMap.2 ⟨c, List.mem_of_getElem? hc, hid⟩), (h.2 i c v hc hv).2⟩⟩
theorem SV.next {x : List Cell ⊕ Cell} {v : Value} (h : SV ρ S w x v) (hk : ∀ p : Addr, S p.block → w'.cell? p = w.cell? p) (hS : ∀ b, S b → S' b) (hρ : ∀ id ∈ sumIds x, ρ' id = ρ id) : SV ρ' S' w' x v := by
  cases x with
  | inl l => exact let ⟨vs, hv, hc⟩ := h; ⟨vs, hv, hc.next hk hS hρ⟩
  | inr c => exact CV.next h hk hS hρ
theorem AVR.next {x : AV} {v : Value} (h : AVR ρ S w x v) (hk : ∀ p : Addr, S p.block → w'.cell? p = w.cell? p) (hS : ∀ b, S b → S' b) (hρ : ∀ id ∈ x.ids, ρ' id = ρ id) : AVR ρ' S' w' x v := by
  cases x with
  | one c => exact CV.next h hk hS hρ
  | agg l => exact let ⟨vs, hv, hc⟩ := h; ⟨vs, hv, hc.next hk hS hρ⟩
  | tup l =>
    obtain ⟨vs, hv, hl, hc⟩ := h
    exact ⟨vs, hv, hl, fun i x v hx hv => (hc i x v hx hv).next hk hS fun id hid => hρ id (List.mem_flatMap.2 ⟨x, List.mem_of_getElem? hx, hid⟩)⟩
theorem RC.next {F F' : Nat → Prop} {d : Cell} {v : Value} (h : RC ρ S w F d v) (hk : ∀ p : Addr, S p.block → w'.cell? p = w.cell? p) (hS : ∀ b, S b → S' b) (hρ : ∀ id ∈ d.ids, ρ' id = ρ id) (hb : ∀ b, F b → w'.heap[b]? = w.heap[b]?) (hF : ∀ b, F b → F' b) : RC ρ' S' w' F' d v :=
  ⟨h.1, h.2.1.next hk hS hρ, fun T c e => (h.2.2 T c e).keep hb hF⟩
theorem RowR.next {P P' : Nat → Prop} {ty sz b base cap : Nat} {l : List (List Cell)} (h : RowR ρ S w P ty sz l b base cap) (hk : ∀ p : Addr, S p.block → w'.cell? p = w.cell? p) (hS : ∀ b, S b → S' b) (hρ : ∀ id ∈ l.flatMap (fun r => r.flatMap Cell.ids), ρ' id = ρ id) (hb : ∀ b, P b → w'.heap[b]? = w.heap[b]?) (hP : ∀ b, P b → P' b) : RowR ρ' S' w' P' ty sz l b base cap := by
  obtain ⟨cur, G, h0, h1, h2, h3, h4, h5, h6⟩ := h
  refine ⟨cur, G, hP b h0, (hb b h0).trans h1, h2, h3, fun i r hi => ⟨(h4 i r hi).1, fun j d hd => ?_⟩, fun i j x hx => ⟨hP x (h5 i j x hx).1, (h5 i j x hx).2⟩, h6⟩
  obtain ⟨v, hv, hrc⟩ := (h4 i r hi).2 j d hd
  exact ⟨v, hv, hrc.next hk hS (fun id hid => hρ id (List.mem_flatMap.2 ⟨r, List.mem_of_getElem? hi, List.mem_flatMap.2 ⟨d, List.mem_of_getElem? hd, hid⟩⟩)) (fun x hx => hb x (h5 i j x hx).1) fun _ hx => hx⟩
/-- An object whose own blocks stand. -/
theorem OR.next {φ φ' : Foot} {id : Nm} {o : AObj} (h : OR ρ φ S w id o) (hk : ∀ p : Addr, S p.block → w'.cell? p = w.cell? p) (hS : ∀ b, S b → S' b) (hρ : ∀ i ∈ o.ids, ρ' i = ρ i) (hid : ρ' id = ρ id) (hb : ∀ b, φ id b → w'.heap[b]? = w.heap[b]?) (hφ : ∀ b, φ id b → φ' id b) : OR ρ' φ' S' w' id o := by
  cases o with
  | box ty l =>
    obtain ⟨b, cur, hr, hf, hh, hc⟩ := h
    exact ⟨b, cur, hid.trans hr, hφ b hf, (hb b hf).trans hh, hc.next hk hS hρ⟩
  | row ty sz l =>
    refine ⟨h.1, ?_⟩
    rcases h.2 with ⟨hr, hl⟩ | ⟨b, base, cap, hr, h1⟩
    · exact .inl ⟨hid.trans hr, hl⟩
    · exact .inr ⟨b, base, cap, hid.trans hr, h1.next hk hS hρ hb hφ⟩
  | map kt et ag n l =>
    obtain ⟨b, es, hr, hf, hh, hm⟩ := h
    exact ⟨b, es, hid.trans hr, hφ b hf, (hb b hf).trans hh, hm.next hk hS⟩
end

section
variable {w0 : Bas} {N : Nat} {ρ ρ' : Place} {φ φ' : Foot} {f : Nat → AV} {m m' : Nm → Option AObj} {a : Act} {w w' : World}
/-- A step that touches the objects of K alone: what is read stays, and more may be read. -/
theorem Sof.step (hlt : ∀ (id : Nm) (o : AObj) (b : Nat), m id = some o → φ id b → b < w.heap.size) (K : Nm → Prop) (hsz : w.heap.size ≤ w'.heap.size)
    (hm : ∀ id o, ¬ K id → m' id = some o → m id = some o) (hφ : ∀ id o, ¬ K id → m' id = some o → ∀ b, φ' id b → φ id b)
    (hfp : ∀ id o b, K id → m' id = some o → φ' id b → w.heap.size ≤ b ∨ ∃ id' o', m id' = some o' ∧ φ id' b) : ∀ b, Sof w0 φ m w b → Sof w0 φ' m' w' b := by
  intro b hb
  refine ⟨Nat.lt_of_lt_of_le hb.1 hsz, fun id o hi hf => ?_, hb.2.2⟩
  by_cases hk : K id
  · rcases hfp id o b hk hi hf with h1 | ⟨id', o', h1, h2⟩
    · have := hb.1; omega
    · exact hb.2.1 id' o' h1 h2
  · exact hb.2.1 id o (hm id o hk hi) (hφ id o hk hi b hf)
/-- THE STEP: objects of K go, come or turn; all else stays. -/
theorem StR.step (h : StR w0 N ρ φ f m a w) (K : Nm → Prop) (hw : Mv (fun b => ∃ id o, K id ∧ m id = some o ∧ φ id b) w w')
    (hm : ∀ id o, ¬ K id → m' id = some o → m id = some o) (hφ : ∀ id o, ¬ K id → m' id = some o → ∀ b, φ' id b ↔ φ id b) (hρm : ∀ id o, ¬ K id → m' id = some o → ρ' id = ρ id ∧ ∀ i ∈ o.ids, ρ' i = ρ i)
    (hρf : ∀ t, ∀ id ∈ (f t).ids, ρ' id = ρ id)
    (hfp : ∀ id o b, K id → m' id = some o → φ' id b → (w.heap.size ≤ b ∧ b < w'.heap.size) ∨ ∃ id' o', K id' ∧ m id' = some o' ∧ φ id' b)
    (hdj : ∀ id id' o o' b, K id → K id' → m' id = some o → m' id' = some o' → φ' id b → φ' id' b → id = id')
    (hst : ∀ id o, K id → id.1 = 0 → m' id = some o → ∃ o', m id = some o' ∧ ρ' id = ρ id)
    (hnew : (∀ b, Sof w0 φ m w b → Sof w0 φ' m' w' b) → ∀ id o, K id → m' id = some o → OR ρ' φ' (Sof w0 φ' m' w') w' id o) : StR w0 N ρ' φ' f m' a w' ∧ (∀ b, Sof w0 φ m w b → Sof w0 φ' m' w' b) := by
  have hS : ∀ b, Sof w0 φ m w b → Sof w0 φ' m' w' b := Sof.step h.lt K hw.size hm (fun id o hk hi b => (hφ id o hk hi b).1) fun id o b hk hi hf => by
    rcases hfp id o b hk hi hf with h1 | ⟨id', o', _, h2⟩
    · exact .inl h1.1
    · exact .inr ⟨id', o', h2⟩
  have hk : ∀ p : Addr, Sof w0 φ m w p.block → w'.cell? p = w.cell? p := fun p hp => World.cell?_of_block (hw.block p.block hp.1 fun ⟨id, o, _, h1, h2⟩ => hp.2.1 id o h1 h2)
  refine ⟨⟨h.mv.trans hw (fun _ hx => hx) fun x hx ⟨id, o, _, h1, h2⟩ => ?_, h.dfr, h.size, fun t v ht => (h.regs t v ht).next hk hS (hρf t), fun id o hi => ?_, fun id o b hi hf => ?_, fun id o b hi hf => ?_, fun id id' o o' b hi hi' hf hf' => ?_, fun id o h0 hi => ?_⟩, hS⟩
  · rcases h.base id o x h1 h2 with h3 | h3
    · exact h3
    · omega
  · by_cases hK : K id
    · exact hnew hS id o hK hi
    · have hi0 := hm id o hK hi
      refine (h.objs id o hi0).next hk hS (hρm id o hK hi).2 (hρm id o hK hi).1 (fun b hb => hw.block b (h.lt id o b hi0 hb) fun ⟨id', o', h1, h2, h3⟩ => hK ?_) fun b hb => (hφ id o hK hi b).2 hb
      rw [h.disj id id' o o' b hi0 h2 hb h3]
      exact h1
  · by_cases hK : K id
    · rcases hfp id o b hK hi hf with h1 | ⟨id', o', _, h1, h2⟩
      · exact h1.2
      · exact Nat.lt_of_lt_of_le (h.lt id' o' b h1 h2) hw.size
    · exact Nat.lt_of_lt_of_le (h.lt id o b (hm id o hK hi) ((hφ id o hK hi b).1 hf)) hw.size
  · by_cases hK : K id
    · rcases hfp id o b hK hi hf with h1 | ⟨id', o', _, h1, h2⟩
      · exact .inr (Nat.le_trans h.mv.size h1.1)
      · exact h.base id' o' b h1 h2
    · exact h.base id o b (hm id o hK hi) ((hφ id o hK hi b).1 hf)
  · by_cases hK : K id <;> by_cases hK' : K id'
    · exact hdj id id' o o' b hK hK' hi hi' hf hf'
    · exfalso
      have hi0 := hm id' o' hK' hi'
      have hf0 := (hφ id' o' hK' hi' b).1 hf'
      rcases hfp id o b hK hi hf with h1 | ⟨id2, o2, h3, h1, h2⟩
      · have := h.lt id' o' b hi0 hf0; omega
      · exact hK' (h.disj id' id2 o' o2 b hi0 h1 hf0 h2 ▸ h3)
    · exfalso
      have hi0 := hm id o hK hi
      have hf0 := (hφ id o hK hi b).1 hf
      rcases hfp id' o' b hK' hi' hf' with h1 | ⟨id2, o2, h3, h1, h2⟩
      · have := h.lt id o b hi0 hf0; omega
      · exact hK (h.disj id id2 o o2 b hi0 h1 hf0 h2 ▸ h3)
    · exact h.disj id id' o o' b (hm id o hK hi) (hm id' o' hK' hi') ((hφ id o hK hi b).1 hf) ((hφ id' o' hK' hi' b).1 hf')
  · by_cases hK : K id
    · obtain ⟨o', h1, h2⟩ := hst id o hK h0 hi
      rw [h2]
      exact h.stab id o' h0 h1
    · rw [(hρm id o hK hi).1]
      exact h.stab id o h0 (hm id o hK hi)
end
end Go.Proofs.Yteohodhcegbmmaa
