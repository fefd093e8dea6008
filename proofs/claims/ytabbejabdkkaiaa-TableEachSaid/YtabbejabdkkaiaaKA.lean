/- What a frame and the blocks that a call made read as: data, own boxes, own rows whose inner rows may be owned along with them; and how a step keeps all that is in sight. One operation at a time: what it does to the abstract frame and the own objects, and that the model does just that. Operations on memory: addresses, loads, stores, new boxes and rows, append. Operations that make memory: new boxes, literals; parts laid over cells. Stores; rows frozen to data; lengths; append; make; a slice of data; calls. No condition. -/
import Derived.WalkKit
import Derived.WalkSpells
import Derived.WalkLawsBesides
import Derived.Deep.Draws
import Derived.Maps.AppendAt
import Derived.RegionTactic
import Derived.OwnWalk
import Derived.Deep.MidRow
import Derived.Laws.Tables
set_option linter.unusedSimpArgs false
set_option linter.unusedVariables false
namespace Go.Proofs.Ytabbejabdkkaiaa
open Go.RowKit

inductive C where
 | int (k : IntKind) (n : Int)
 | bool (b : Bool)
 | str (s : ByteArray)
 | sl (l : List (List C))
 | rop (cs : List C)
 | fn (g : FuncId) (first : List (List C ⊕ C)) (caps : List C)

inductive View (S : Nat → Prop) (w : World) : C → Value → Prop where
 | int (k : IntKind) (n : Int) : View S w (.int k n) (.int k n)
 | bool (b : Bool) : View S w (.bool b) (.bool b)
 | str (s : ByteArray) : View S w (.str s) (.string s)
 | sl (l : List (List C)) (sz : Nat) (A : Option Addr) (c : Nat) (u : Nat → Nat → Value)
   (hsz : ∀ (i : Nat) (r : List C),l[i]? = some r → r.length = sz) (hc : l.length ≤ c) (hb : l.length ≤ 140737488355328)
   (hA : 0 < l.length → ∃ b o,A = some ⟨b,o,none⟩ ∧ S b ∧ ∀ (i : Nat) (r : List C) (j : Nat) (d : C),l[i]? = some r → r[j]? = some d → w.cell? ⟨b,o + (i * sz + j),none⟩ = some (u i j))
   (hu : ∀ (i : Nat) (r : List C) (j : Nat) (d : C),l[i]? = some r → r[j]? = some d → View S w d (u i j)) : View S w (.sl l) (.slice A l.length c)
 | rop (cs : List C) (b o : Nat) (u : Nat → Value) (hS : S b) (hcell : ∀ (j : Nat) (c : C),cs[j]? = some c → w.cell? ⟨b,o + j,none⟩ = some (u j))
   (hu : ∀ (j : Nat) (c : C),cs[j]? = some c → View S w c (u j)) : View S w (.rop cs) (.pointer (some ⟨b,o,none⟩))
 | fn (g : FuncId) (first : List (List C ⊕ C)) (caps : List C) (us vs : Array Value) (x : Nat → List Value) (h1 : us.size = first.length) (h2 : vs.size = caps.length)
   (hl : ∀ (i : Nat) (l : List C),first[i]? = some (.inl l) → us[i]? = some (.agg (x i).toArray) ∧ (x i).length = l.length)
   (hx : ∀ (i : Nat) (l : List C) (j : Nat) (c : C) (v : Value),first[i]? = some (.inl l) → l[j]? = some c → (x i)[j]? = some v → View S w c v)
   (hy : ∀ (i : Nat) (c : C) (v : Value),first[i]? = some (.inr c) → us[i]? = some v → View S w c v)
   (hz : ∀ (i : Nat) (c : C) (v : Value),caps[i]? = some c → vs[i]? = some v → View S w c v) : View S w (.fn g first caps) (.func (.func g) us vs)

theorem View.keep {S S' : Nat → Prop} {w w' : World} {c : C} {v : Value} (h : View S w c v) (hk : ∀ p : Addr,S p.block → w'.cell? p = w.cell? p) (hS : ∀ b,S b → S' b) : View S' w' c v := by
 induction h with
 | int k n => exact .int k n
 | bool b => exact .bool b
 | str s => exact .str s
 | sl l sz A c u hsz hc hb hA _ ih =>
  refine .sl l sz A c u hsz hc hb (fun h0 => ?_) ih
  obtain ⟨b,o,e,hs,hcell⟩ := hA h0
  exact ⟨b,o,e,hS b hs,fun i r j d hr hd => (hk ⟨b,_,none⟩ hs).trans (hcell i r j d hr hd)⟩
 | rop cs b o u hs hcell _ ih => exact .rop cs b o u (hS b hs) (fun j c hj => (hk ⟨b,_,none⟩ hs).trans (hcell j c hj)) ih
 | fn g first caps us vs x h1 h2 hl _ _ _ ih1 ih2 ih3 => exact .fn g first caps us vs x h1 h2 hl ih1 ih2 ih3
theorem View.one {S : Nat → Prop} {w : World} {c : C} {v : Value} (h : View S w c v) : v.oneCell' = true := by
 cases h <;> rfl

abbrev Nm := Nat × Nat
inductive TD where
 | sc
 | sl (e sz : Nat) (cols : Nat → TD)

inductive Cell where
 | d (c : C)
 | tr (T : TD) (c : C)
 | ptr (id : Nm) (off : Nat)
 | eptr (id : Nm) (sz i j : Nat)
 | own (id : Nm) (n : Nat)
 | sub (id : Nm) (sz off n : Nat)
 | fnp (g : FuncId) (caps : List (Nm × Nat))
 | mp (id : Nm)
 | bb (e : Bool) (n : Nat)
 | nil
 | any

inductive AV where
 | one (c : Cell)
 | agg (l : List Cell)
 | tup (l : List (List Cell ⊕ Cell))

inductive AObj where
 | box (ty : TypeId) (l : List Cell)
 | row (ty : TypeId) (sz : Nat) (l : List (List Cell))
 | map (kt et : TypeId) (ag : Bool) (n : Nat) (l : List (List Int × C))

def Cell.ids : Cell → List Nm
 | .ptr id _ => [id]
 | .eptr id _ _ _ => [id]
 | .own id _ => [id]
 | .sub id _ _ _ => [id]
 | .fnp _ caps => caps.map (·.1)
 | .mp id => [id]
 | _ => []
def sumIds : List Cell ⊕ Cell → List Nm
 | .inl l => l.flatMap Cell.ids
 | .inr c => c.ids
def AV.ids : AV → List Nm
 | .one c => c.ids
 | .agg l => l.flatMap Cell.ids
 | .tup l => l.flatMap sumIds
def AObj.ids : AObj → List Nm
 | .box _ l => l.flatMap Cell.ids
 | .row _ _ l => l.flatMap fun r => r.flatMap Cell.ids
 | .map _ _ _ _ _ => []
def AV.cells : AV → List Cell
 | .one c => [c]
 | .agg l => l
 | .tup _ => []

inductive Tree (w : World) : TD → C → Value → (Nat → Prop) → Prop where
 | int (k : IntKind) (n : Int) (F : Nat → Prop) : Tree w .sc (.int k n) (.int k n) F
 | bool (b : Bool) (F : Nat → Prop) : Tree w .sc (.bool b) (.bool b) F
 | str (s : ByteArray) (F : Nat → Prop) : Tree w .sc (.str s) (.string s) F
 | nil (e sz : Nat) (cols : Nat → TD) (A : Option Addr) (F : Nat → Prop) : Tree w (.sl e sz cols) (.sl []) (.slice A 0 0) F
 | sl (e sz : Nat) (cols : Nat → TD) (l : List (List C)) (b base cap : Nat) (cur : Array Value) (u : Nat → Nat → Value) (G : Nat → Nat → Nat → Prop) (F : Nat → Prop)
   (hh : w.heap[b]? = some (.cells cur e (0,0))) (hF : F b) (hc : l.length ≤ cap) (hb : l.length ≤ 140737488355328) (hz : base + cap * sz ≤ cur.size)
   (hl : ∀ (i : Nat) (r : List C),l[i]? = some r → r.length = sz)
   (hu : ∀ (i : Nat) (r : List C) (j : Nat) (d : C),l[i]? = some r → r[j]? = some d → cur[base + i * sz + j]? = some (u i j))
   (ht : ∀ (i : Nat) (r : List C) (j : Nat) (d : C),l[i]? = some r → r[j]? = some d → Tree w (cols j) d (u i j) (G i j))
   (hG : ∀ i j x,G i j x → F x ∧ x ≠ b) (hd : ∀ i j i' j' x,G i j x → G i' j' x → i = i' ∧ j = j') : Tree w (.sl e sz cols) (.sl l) (.slice (some ⟨b,base,none⟩) l.length cap) F

theorem Tree.one {w : World} {T : TD} {c : C} {v : Value} {F : Nat → Prop} (h : Tree w T c v F) : v.oneCell' = true := by
 cases h <;> rfl
theorem Tree.keep {w w' : World} {T : TD} {c : C} {v : Value} {F F' : Nat → Prop} (h : Tree w T c v F) (hk : ∀ b,F b → w'.heap[b]? = w.heap[b]?) (hF : ∀ b,F b → F' b) : Tree w' T c v F' := by
 induction h generalizing F' with
 | int k n F => exact .int k n F'
 | bool b F => exact .bool b F'
 | str s F => exact .str s F'
 | nil e sz cols A F => exact .nil e sz cols A F'
 | sl e sz cols l b base cap cur u G F hh hFb hc hb hz hl hu ht hG hd ih =>
  exact .sl e sz cols l b base cap cur u G F' ((hk b hFb).trans hh) (hF b hFb) hc hb hz hl hu (fun i r j d hr hj => ih i r j d hr hj (fun x hx => hk x (hG i j x hx).1) fun x hx => hx) (fun i j x hx => ⟨hF x (hG i j x hx).1,(hG i j x hx).2⟩) hd
theorem cell_in {w : World} {b k : Nat} {cur : Array Value} {ty : TypeId} {fz : Nat × Nat} (h : w.heap[b]? = some (.cells cur ty fz)) : w.cell? ⟨b,k,none⟩ = cur[k]? := by
 simp [World.cell?,h]
theorem Tree.view {w : World} {T : TD} {c : C} {v : Value} {F S : Nat → Prop} (h : Tree w T c v F) (hF : ∀ b,F b → S b) : View S w c v := by
 induction h with
 | int k n F => exact .int k n
 | bool b F => exact .bool b
 | str s F => exact .str s
 | nil e sz cols A F => exact .sl [] 0 A 0 (fun _ _ => .bool true) (by simp) (Nat.le_refl _) (by simp) (by simp) (by simp)
 | sl e sz cols l b base cap cur u G F hh hFb hc hb hz hl hu ht hG hd ih =>
  exact .sl l sz _ cap u hl hc hb (fun _ => ⟨b,base,rfl,hF b hFb,fun i r j d hr hj => by rw [cell_in hh,← Nat.add_assoc]; exact hu i r j d hr hj⟩) fun i r j d hr hj => ih i r j d hr hj fun x hx => hF x (hG i j x hx).1

abbrev Place := Nm → Option (Nat × Nat × Nat)

def CV (ρ : Place) (S : Nat → Prop) (w : World) : Cell → Value → Prop
 | .d c,v => View S w c v
 | .tr _ _,_ => True
 | .ptr id off,v => ∃ b p,ρ id = some (b,p) ∧ v = .pointer (some ⟨b,off,none⟩)
 | .eptr id sz i j,v => ∃ b base cap,ρ id = some (b,base,cap) ∧ v = .pointer (some ⟨b,base + i * sz + j,none⟩)
 | .own id n,v => (∃ b base cap,ρ id = some (b,base,cap) ∧ v = .slice (some ⟨b,base,none⟩) n cap) ∨ (ρ id = none ∧ n = 0 ∧ ∃ A,v = .slice A 0 0)
 | .sub id sz off n,v => (∃ b base cap A,ρ id = some (b,base,cap) ∧ off + n ≤ cap ∧ v = .slice A n (cap - off) ∧ (off < cap → A = some ⟨b,base + off * sz,none⟩)) ∨ (ρ id = none ∧ off = 0 ∧ n = 0 ∧ ∃ A,v = .slice A 0 0)
 | .fnp g caps,v => ∃ vs : Array Value,v = .func (.func g) #[] vs ∧ vs.size = caps.length ∧ ∀ (i : Nat) (p : Nm × Nat) (x : Value),caps[i]? = some p → vs[i]? = some x → ∃ b q,ρ p.1 = some (b,q) ∧ x = .pointer (some ⟨b,p.2,none⟩)
 | .mp id,v => ∃ b q,ρ id = some (b,q) ∧ v = .map (some b)
 | .bb e n,v => ∃ b,v = .bool b ∧ (b = e → n = 0)
 | .nil,v => v = .slice none 0 0
 | .any,_ => True
def CVs (ρ : Place) (S : Nat → Prop) (w : World) (l : List Cell) (vs : List Value) : Prop :=
 vs.length = l.length ∧ ∀ (i : Nat) (c : Cell) (v : Value),l[i]? = some c → vs[i]? = some v → CV ρ S w c v ∧ v.oneCell' = true
def SV (ρ : Place) (S : Nat → Prop) (w : World) : List Cell ⊕ Cell → Value → Prop
 | .inl l,v => ∃ vs : List Value,v = .agg vs.toArray ∧ CVs ρ S w l vs
 | .inr c,v => CV ρ S w c v
def AVR (ρ : Place) (S : Nat → Prop) (w : World) : AV → Value → Prop
 | .one c,v => CV ρ S w c v
 | .agg l,v => ∃ vs : List Value,v = .agg vs.toArray ∧ CVs ρ S w l vs
 | .tup l,v => ∃ vs : List Value,v = .tuple vs.toArray ∧ vs.length = l.length ∧ ∀ (i : Nat) (x : List Cell ⊕ Cell) (v : Value),l[i]? = some x → vs[i]? = some v → SV ρ S w x v
def RC (ρ : Place) (S : Nat → Prop) (w : World) (F : Nat → Prop) (d : Cell) (v : Value) : Prop :=
 v.oneCell' = true ∧ CV ρ S w d v ∧ ∀ T c,d = .tr T c → Tree w T c v F
abbrev Foot := Nm → Nat → Prop
def RowR (ρ : Place) (S : Nat → Prop) (w : World) (P : Nat → Prop) (ty : TypeId) (sz : Nat) (l : List (List Cell)) (b base cap : Nat) : Prop :=
 ∃ (cur : Array Value) (G : Nat → Nat → Nat → Prop),P b ∧ w.heap[b]? = some (.cells cur ty (0,0)) ∧ l.length ≤ cap ∧ base + cap * sz ≤ cur.size ∧
  (∀ (i : Nat) (r : List Cell),l[i]? = some r → r.length = sz ∧ ∀ (j : Nat) (d : Cell),r[j]? = some d → ∃ v,cur[base + i * sz + j]? = some v ∧ RC ρ S w (G i j) d v) ∧
  (∀ i j x,G i j x → P x ∧ x ≠ b) ∧ (∀ i j i' j' x,G i j x → G i' j' x → i = i' ∧ j = j')
def keyV (ag : Bool) (k : List Int) : Value := if ag = true then .agg (k.map (Value.int .i64)).toArray else match k with
 | [n] => .int .i64 n
 | _ => .agg #[]
def MapR (S : Nat → Prop) (w : World) (ag : Bool) (n : Nat) (l : List (List Int × C)) (es : Array MapEntry) : Prop :=
 es.size = l.length ∧ ∀ (i : Nat) (x : List Int × C) (e : MapEntry),l[i]? = some x → es[i]? = some e → e.key = keyV ag x.1 ∧ x.1.length = n ∧ e.born = i ∧ View S w x.2 e.val
theorem MapR.next {S S' : Nat → Prop} {w w' : World} {ag : Bool} {n : Nat} {l : List (List Int × C)} {es : Array MapEntry} (h : MapR S w ag n l es) (hk : ∀ p : Addr,S p.block → w'.cell? p = w.cell? p) (hS : ∀ b,S b → S' b) : MapR S' w' ag n l es :=
 ⟨h.1,fun i x e hx he => let ⟨h1,h2,h3,h4⟩ := h.2 i x e hx he; ⟨h1,h2,h3,View.keep h4 hk hS⟩⟩
def OR (ρ : Place) (φ : Foot) (S : Nat → Prop) (w : World) (id : Nm) : AObj → Prop
 | .box ty l => ∃ b,∃ cur : Array Value,ρ id = some (b,0,0) ∧ φ id b ∧ w.heap[b]? = some (.cells cur ty (0,0)) ∧ CVs ρ S w l cur.toList
 | .row ty sz l => l.length ≤ 140737488355328 ∧ ((ρ id = none ∧ l = []) ∨ ∃ b base cap,ρ id = some (b,base,cap) ∧ RowR ρ S w (φ id) ty sz l b base cap)
 | .map _ _ ag n l => ∃ b,∃ es : Array MapEntry,ρ id = some (b,0,0) ∧ φ id b ∧ w.heap[b]? = some (.map es es.size) ∧ MapR S w ag n l es

structure Mv (K : Nat → Prop) (w w' : World) : Prop where
 os : w'.os = w.os
 tape : w'.tape = w.tape
 output : w'.output = w.output
 size : w.heap.size ≤ w'.heap.size
 block : ∀ k,k < w.heap.size → ¬ K k → w'.heap[k]? = w.heap[k]?
theorem Mv.refl (K : Nat → Prop) (w : World) : Mv K w w := ⟨rfl,rfl,rfl,Nat.le_refl _,fun _ _ _ => rfl⟩
theorem Mv.trans {K K' K'' : Nat → Prop} {a b c : World} (h : Mv K a b) (k : Mv K' b c) (h1 : ∀ x,K x → K'' x) (h2 : ∀ x,x < a.heap.size → K' x → K'' x) : Mv K'' a c :=
 ⟨k.os.trans h.os,k.tape.trans h.tape,k.output.trans h.output,Nat.le_trans h.size k.size,fun i hi hn => (k.block i (Nat.lt_of_lt_of_le hi h.size) fun e => hn (h2 i hi e)).trans (h.block i hi fun e => hn (h1 i e))⟩
theorem Mv.mono {K K' : Nat → Prop} {a b : World} (h : Mv K a b) (h1 : ∀ x,K x → K' x) : Mv K' a b := ⟨h.os,h.tape,h.output,h.size,fun i hi hn => h.block i hi fun e => hn (h1 i e)⟩
theorem Mv.drew (w : World) : Mv (fun _ => False) w w.drew := ⟨rfl,rfl,rfl,Nat.le_refl _,fun _ _ _ => rfl⟩
theorem Mv.alloc (w : World) (o : Obj) : Mv (fun _ => False) w (w.alloc o) := ⟨rfl,rfl,rfl,by simp,fun k hk _ => Below.heap_alloc w o k hk⟩
theorem Mv.setRow (w : World) (g : Nat) (cs : Array Value) : Mv (· = g) w (w.setRow g cs) := ⟨rfl,rfl,rfl,by simp,fun k _ hne => setRow_other w g k cs hne⟩

structure Bas where
 w : World
 S : Nat → Prop
 Φ : Nat → Prop
 P0 : Place
def Sof (w0 : Bas) (φ : Foot) (m : Nm → Option AObj) (w : World) : Nat → Prop :=
 fun b => b < w.heap.size ∧ (∀ id o,m id = some o → ¬ φ id b) ∧ (w0.S b ∨ w0.Φ b ∨ w0.w.heap.size ≤ b)

structure StR (w0 : Bas) (N : Nat) (ρ : Place) (φ : Foot) (f : Nat → AV) (m : Nm → Option AObj) (a : Act) (w : World) : Prop where
 mv : Mv w0.Φ w0.w w
 dfr : a.defers = []
 size : a.tmps.size = N
 regs : ∀ (t : Nat) (v : Value),a.tmps[t]? = some v → AVR ρ (Sof w0 φ m w) w (f t) v
 objs : ∀ (id : Nm) (o : AObj),m id = some o → OR ρ φ (Sof w0 φ m w) w id o
 lt : ∀ (id : Nm) (o : AObj) (b : Nat),m id = some o → φ id b → b < w.heap.size
 base : ∀ (id : Nm) (o : AObj) (b : Nat),m id = some o → φ id b → w0.Φ b ∨ w0.w.heap.size ≤ b
 disj : ∀ (id id' : Nm) (o o' : AObj) (b : Nat),m id = some o → m id' = some o' → φ id b → φ id' b → id = id'
 stab : ∀ (id : Nm) (o : AObj),id.1 = 0 → m id = some o → ρ id = w0.P0 id
def St (w0 : Bas) (N : Nat) (f : Nat → AV) (m : Nm → Option AObj) (a : Act) (w : World) : Prop := ∃ ρ φ,StR w0 N ρ φ f m a w

section
variable {ρ ρ' : Place} {S S' : Nat → Prop} {w w' : World}
theorem CV.next {c : Cell} {v : Value} (h : CV ρ S w c v) (hk : ∀ p : Addr,S p.block → w'.cell? p = w.cell? p) (hS : ∀ b,S b → S' b) (hρ : ∀ id ∈ c.ids,ρ' id = ρ id) : CV ρ' S' w' c v := by
 cases c with
 | d c => exact View.keep h hk hS
 | tr T c => trivial
 | ptr id off => exact let ⟨b,p,hr,hv⟩ := h; ⟨b,p,(hρ id (by simp [Cell.ids])).trans hr,hv⟩
 | eptr id sz i j => exact let ⟨b,x,c,hr,hv⟩ := h; ⟨b,x,c,(hρ id (by simp [Cell.ids])).trans hr,hv⟩
 | own id n =>
  have e := hρ id (by simp [Cell.ids])
  rcases h with ⟨b,x,c,hr,hv⟩ | ⟨hr,hv⟩
  · exact .inl ⟨b,x,c,e.trans hr,hv⟩
  · exact .inr ⟨e.trans hr,hv⟩
 | sub id sz off n =>
  have e := hρ id (by simp [Cell.ids])
  rcases h with ⟨b,x,c,A,hr,hv⟩ | ⟨hr,hv⟩
  · exact .inl ⟨b,x,c,A,e.trans hr,hv⟩
  · exact .inr ⟨e.trans hr,hv⟩
 | fnp g caps =>
  obtain ⟨vs,hv,hl,hc⟩ := h
  refine ⟨vs,hv,hl,fun i p x hp hx => ?_⟩
  obtain ⟨b,q,hr,hx'⟩ := hc i p x hp hx
  exact ⟨b,q,(hρ p.1 (List.mem_map.2 ⟨p,List.mem_of_getElem? hp,rfl⟩)).trans hr,hx'⟩
 | mp id => exact let ⟨b,q,hr,hv⟩ := h; ⟨b,q,(hρ id (by simp [Cell.ids])).trans hr,hv⟩
 | bb e n => exact h
 | nil => exact h
 | any => trivial
theorem CVs.next {l : List Cell} {vs : List Value} (h : CVs ρ S w l vs) (hk : ∀ p : Addr,S p.block → w'.cell? p = w.cell? p) (hS : ∀ b,S b → S' b) (hρ : ∀ id ∈ l.flatMap Cell.ids,ρ' id = ρ id) : CVs ρ' S' w' l vs :=
 ⟨h.1,fun i c v hc hv => ⟨(h.2 i c v hc hv).1.next hk hS fun id hid => hρ id (List.mem_flatMap.2 ⟨c,List.mem_of_getElem? hc,hid⟩),(h.2 i c v hc hv).2⟩⟩
theorem SV.next {x : List Cell ⊕ Cell} {v : Value} (h : SV ρ S w x v) (hk : ∀ p : Addr,S p.block → w'.cell? p = w.cell? p) (hS : ∀ b,S b → S' b) (hρ : ∀ id ∈ sumIds x,ρ' id = ρ id) : SV ρ' S' w' x v := by
 cases x with
 | inl l => exact let ⟨vs,hv,hc⟩ := h; ⟨vs,hv,hc.next hk hS hρ⟩
 | inr c => exact CV.next h hk hS hρ
theorem AVR.next {x : AV} {v : Value} (h : AVR ρ S w x v) (hk : ∀ p : Addr,S p.block → w'.cell? p = w.cell? p) (hS : ∀ b,S b → S' b) (hρ : ∀ id ∈ x.ids,ρ' id = ρ id) : AVR ρ' S' w' x v := by
 cases x with
 | one c => exact CV.next h hk hS hρ
 | agg l => exact let ⟨vs,hv,hc⟩ := h; ⟨vs,hv,hc.next hk hS hρ⟩
 | tup l =>
  obtain ⟨vs,hv,hl,hc⟩ := h
  exact ⟨vs,hv,hl,fun i x v hx hv => (hc i x v hx hv).next hk hS fun id hid => hρ id (List.mem_flatMap.2 ⟨x,List.mem_of_getElem? hx,hid⟩)⟩
theorem RC.next {F F' : Nat → Prop} {d : Cell} {v : Value} (h : RC ρ S w F d v) (hk : ∀ p : Addr,S p.block → w'.cell? p = w.cell? p) (hS : ∀ b,S b → S' b) (hρ : ∀ id ∈ d.ids,ρ' id = ρ id) (hb : ∀ b,F b → w'.heap[b]? = w.heap[b]?) (hF : ∀ b,F b → F' b) : RC ρ' S' w' F' d v :=
 ⟨h.1,h.2.1.next hk hS hρ,fun T c e => (h.2.2 T c e).keep hb hF⟩
theorem RowR.next {P P' : Nat → Prop} {ty sz b base cap : Nat} {l : List (List Cell)} (h : RowR ρ S w P ty sz l b base cap) (hk : ∀ p : Addr,S p.block → w'.cell? p = w.cell? p) (hS : ∀ b,S b → S' b) (hρ : ∀ id ∈ l.flatMap (fun r => r.flatMap Cell.ids),ρ' id = ρ id) (hb : ∀ b,P b → w'.heap[b]? = w.heap[b]?) (hP : ∀ b,P b → P' b) : RowR ρ' S' w' P' ty sz l b base cap := by
 obtain ⟨cur,G,h0,h1,h2,h3,h4,h5,h6⟩ := h
 refine ⟨cur,G,hP b h0,(hb b h0).trans h1,h2,h3,fun i r hi => ⟨(h4 i r hi).1,fun j d hd => ?_⟩,fun i j x hx => ⟨hP x (h5 i j x hx).1,(h5 i j x hx).2⟩,h6⟩
 obtain ⟨v,hv,hrc⟩ := (h4 i r hi).2 j d hd
 exact ⟨v,hv,hrc.next hk hS (fun id hid => hρ id (List.mem_flatMap.2 ⟨r,List.mem_of_getElem? hi,List.mem_flatMap.2 ⟨d,List.mem_of_getElem? hd,hid⟩⟩)) (fun x hx => hb x (h5 i j x hx).1) fun _ hx => hx⟩
theorem OR.next {φ φ' : Foot} {id : Nm} {o : AObj} (h : OR ρ φ S w id o) (hk : ∀ p : Addr,S p.block → w'.cell? p = w.cell? p) (hS : ∀ b,S b → S' b) (hρ : ∀ i ∈ o.ids,ρ' i = ρ i) (hid : ρ' id = ρ id) (hb : ∀ b,φ id b → w'.heap[b]? = w.heap[b]?) (hφ : ∀ b,φ id b → φ' id b) : OR ρ' φ' S' w' id o := by
 cases o with
 | box ty l =>
  obtain ⟨b,cur,hr,hf,hh,hc⟩ := h
  exact ⟨b,cur,hid.trans hr,hφ b hf,(hb b hf).trans hh,hc.next hk hS hρ⟩
 | row ty sz l =>
  refine ⟨h.1,?_⟩
  rcases h.2 with ⟨hr,hl⟩ | ⟨b,base,cap,hr,h1⟩
  · exact .inl ⟨hid.trans hr,hl⟩
  · exact .inr ⟨b,base,cap,hid.trans hr,h1.next hk hS hρ hb hφ⟩
 | map kt et ag n l =>
  obtain ⟨b,es,hr,hf,hh,hm⟩ := h
  exact ⟨b,es,hid.trans hr,hφ b hf,(hb b hf).trans hh,hm.next hk hS⟩
end

section
variable {w0 : Bas} {N : Nat} {ρ ρ' : Place} {φ φ' : Foot} {f : Nat → AV} {m m' : Nm → Option AObj} {a : Act} {w w' : World}
theorem Sof.step (hlt : ∀ (id : Nm) (o : AObj) (b : Nat),m id = some o → φ id b → b < w.heap.size) (K : Nm → Prop) (hsz : w.heap.size ≤ w'.heap.size)
  (hm : ∀ id o,¬ K id → m' id = some o → m id = some o) (hφ : ∀ id o,¬ K id → m' id = some o → ∀ b,φ' id b → φ id b)
  (hfp : ∀ id o b,K id → m' id = some o → φ' id b → w.heap.size ≤ b ∨ ∃ id' o',m id' = some o' ∧ φ id' b) : ∀ b,Sof w0 φ m w b → Sof w0 φ' m' w' b := by
 intro b hb
 refine ⟨Nat.lt_of_lt_of_le hb.1 hsz,fun id o hi hf => ?_,hb.2.2⟩
 by_cases hk : K id
 ·
  rcases hfp id o b hk hi hf with h1 | ⟨id',o',h1,h2⟩
  · have := hb.1; omega
  · exact hb.2.1 id' o' h1 h2
 · exact hb.2.1 id o (hm id o hk hi) (hφ id o hk hi b hf)
theorem StR.step (h : StR w0 N ρ φ f m a w) (K : Nm → Prop) (hw : Mv (fun b => ∃ id o,K id ∧ m id = some o ∧ φ id b) w w')
  (hm : ∀ id o,¬ K id → m' id = some o → m id = some o) (hφ : ∀ id o,¬ K id → m' id = some o → ∀ b,φ' id b ↔ φ id b) (hρm : ∀ id o,¬ K id → m' id = some o → ρ' id = ρ id ∧ ∀ i ∈ o.ids,ρ' i = ρ i)
  (hρf : ∀ t,∀ id ∈ (f t).ids,ρ' id = ρ id)
  (hfp : ∀ id o b,K id → m' id = some o → φ' id b → (w.heap.size ≤ b ∧ b < w'.heap.size) ∨ ∃ id' o',K id' ∧ m id' = some o' ∧ φ id' b)
  (hdj : ∀ id id' o o' b,K id → K id' → m' id = some o → m' id' = some o' → φ' id b → φ' id' b → id = id')
  (hst : ∀ id o,K id → id.1 = 0 → m' id = some o → ∃ o',m id = some o' ∧ ρ' id = ρ id)
  (hnew : (∀ b,Sof w0 φ m w b → Sof w0 φ' m' w' b) → ∀ id o,K id → m' id = some o → OR ρ' φ' (Sof w0 φ' m' w') w' id o) : StR w0 N ρ' φ' f m' a w' ∧ (∀ b,Sof w0 φ m w b → Sof w0 φ' m' w' b) := by
 have hS : ∀ b,Sof w0 φ m w b → Sof w0 φ' m' w' b := Sof.step h.lt K hw.size hm (fun id o hk hi b => (hφ id o hk hi b).1) fun id o b hk hi hf => by
  rcases hfp id o b hk hi hf with h1 | ⟨id',o',_,h2⟩
  · exact .inl h1.1
  · exact .inr ⟨id',o',h2⟩
 have hk : ∀ p : Addr,Sof w0 φ m w p.block → w'.cell? p = w.cell? p := fun p hp => World.cell?_of_block (hw.block p.block hp.1 fun ⟨id,o,_,h1,h2⟩ => hp.2.1 id o h1 h2)
 refine ⟨⟨h.mv.trans hw (fun _ hx => hx) fun x hx ⟨id,o,_,h1,h2⟩ => ?_,h.dfr,h.size,fun t v ht => (h.regs t v ht).next hk hS (hρf t),fun id o hi => ?_,fun id o b hi hf => ?_,fun id o b hi hf => ?_,fun id id' o o' b hi hi' hf hf' => ?_,fun id o h0 hi => ?_⟩,hS⟩
 ·
  rcases h.base id o x h1 h2 with h3 | h3
  · exact h3
  · omega
 ·
  by_cases hK : K id
  · exact hnew hS id o hK hi
  ·
   have hi0 := hm id o hK hi
   refine (h.objs id o hi0).next hk hS (hρm id o hK hi).2 (hρm id o hK hi).1 (fun b hb => hw.block b (h.lt id o b hi0 hb) fun ⟨id',o',h1,h2,h3⟩ => hK ?_) fun b hb => (hφ id o hK hi b).2 hb
   rw [h.disj id id' o o' b hi0 h2 hb h3]
   exact h1
 ·
  by_cases hK : K id
  ·
   rcases hfp id o b hK hi hf with h1 | ⟨id',o',_,h1,h2⟩
   · exact h1.2
   · exact Nat.lt_of_lt_of_le (h.lt id' o' b h1 h2) hw.size
  · exact Nat.lt_of_lt_of_le (h.lt id o b (hm id o hK hi) ((hφ id o hK hi b).1 hf)) hw.size
 ·
  by_cases hK : K id
  ·
   rcases hfp id o b hK hi hf with h1 | ⟨id',o',_,h1,h2⟩
   · exact .inr (Nat.le_trans h.mv.size h1.1)
   · exact h.base id' o' b h1 h2
  · exact h.base id o b (hm id o hK hi) ((hφ id o hK hi b).1 hf)
 ·
  by_cases hK : K id <;> by_cases hK' : K id'
  · exact hdj id id' o o' b hK hK' hi hi' hf hf'
  ·
   exfalso
   have hi0 := hm id' o' hK' hi'
   have hf0 := (hφ id' o' hK' hi' b).1 hf'
   rcases hfp id o b hK hi hf with h1 | ⟨id2,o2,h3,h1,h2⟩
   · have := h.lt id' o' b hi0 hf0; omega
   · exact hK' (h.disj id' id2 o' o2 b hi0 h1 hf0 h2 ▸ h3)
  ·
   exfalso
   have hi0 := hm id o hK hi
   have hf0 := (hφ id o hK hi b).1 hf
   rcases hfp id' o' b hK' hi' hf' with h1 | ⟨id2,o2,h3,h1,h2⟩
   · have := h.lt id o b hi0 hf0; omega
   · exact hK (h.disj id id2 o o2 b hi0 h1 hf0 h2 ▸ h3)
  · exact h.disj id id' o o' b (hm id o hK hi) (hm id' o' hK' hi') ((hφ id o hK hi b).1 hf) ((hφ id' o' hK' hi' b).1 hf')
 ·
  by_cases hK : K id
  ·
   obtain ⟨o',h1,h2⟩ := hst id o hK h0 hi
   rw [h2]
   exact h.stab id o' h0 h1
  ·
   rw [(hρm id o hK hi).1]
   exact h.stab id o h0 (hm id o hK hi)
end
theorem add_lit (b o n : Nat) : (⟨b,o,none⟩ : Addr).add n = ⟨b,o + n,none⟩ := by
 unfold Addr.add
 by_cases h : n = 0 <;> simp [h]
def fput (f : Nat → AV) (dst : Option Nat) (v : AV) : Nat → AV :=
 match dst with
 | some d => fun t => if t = d then v else f t
 | none => f
def mset (m : Nm → Option AObj) (id : Nm) (o : Option AObj) : Nm → Option AObj := fun i => if i = id then o else m i
abbrev Upd := Nm × Option AObj
def mput (m : Nm → Option AObj) (u : Upd) : Nm → Option AObj := mset m u.1 u.2
def mupd (m : Nm → Option AObj) : List Upd → Nm → Option AObj
 | [] => m
 | u :: r => mupd (mput m u) r

theorem regs_put {ρ : Place} {S : Nat → Prop} {w : World} {f : Nat → AV} {a : Act} {dst : Option Tmp} {x : AV} {v : Value} (h : ∀ (t : Nat) (u : Value),a.tmps[t]? = some u → AVR ρ S w (f t) u) (hv : AVR ρ S w x v) :
  ∀ (t : Nat) (u : Value),(a.put dst v).tmps[t]? = some u → AVR ρ S w (fput f dst x t) u := by
 intro t u hu
 cases dst with
 | none => exact h t u hu
 | some d =>
  simp only [Act.put,Array.getElem?_setIfInBounds] at hu
  simp only [fput]
  by_cases e : d = t
  ·
   subst e
   simp only [if_true] at hu ⊢
   split at hu
   ·
    injection hu with hu
    subst hu
    exact hv
   · cases hu
  ·
   rw [if_neg e] at hu
   rw [if_neg (Ne.symm e)]
   exact h t u hu
theorem put_size (a : Act) (dst : Option Tmp) (v : Value) : (a.put dst v).tmps.size = a.tmps.size := by cases dst <;> simp [Act.put]
theorem put_dfr (a : Act) (dst : Option Tmp) (v : Value) : (a.put dst v).defers = a.defers := by cases dst <;> rfl
theorem StR.put {w0 : Bas} {N : Nat} {ρ : Place} {φ : Foot} {f : Nat → AV} {m : Nm → Option AObj} {a : Act} {w : World} (h : StR w0 N ρ φ f m a w) (dst : Option Tmp) {x : AV} {v : Value} (hv : AVR ρ (Sof w0 φ m w) w x v) : StR w0 N ρ φ (fput f dst x) m (a.put dst v) w :=
 ⟨h.mv,(put_dfr a dst v).trans h.dfr,(put_size a dst v).trans h.size,regs_put h.regs hv,h.objs,h.lt,h.base,h.disj,h.stab⟩
theorem StR.drew {w0 : Bas} {N : Nat} {ρ : Place} {φ : Foot} {f : Nat → AV} {m : Nm → Option AObj} {a : Act} {w : World} (h : StR w0 N ρ φ f m a w) : StR w0 N ρ φ f m a w.drew :=
 (h.step (fun _ => False) ((Mv.drew w).mono fun _ h => h.elim) (fun _ _ _ hi => hi) (fun _ _ _ _ _ => Iff.rfl) (fun _ _ _ _ => ⟨rfl,fun _ _ => rfl⟩) (fun _ _ _ => rfl) (fun _ _ _ h => h.elim) (fun _ _ _ _ _ h => h.elim) (fun _ _ h => h.elim) (fun _ _ _ h => h.elim)).1
theorem St.drew {w0 : Bas} {N : Nat} {f : Nat → AV} {m : Nm → Option AObj} {a : Act} {w : World} (h : St w0 N f m a w) : St w0 N f m a w.drew := let ⟨ρ,φ,h⟩ := h; ⟨ρ,φ,h.drew⟩

def ofVal : Value → Cell
 | .int k n => .d (.int k n)
 | .bool b => .d (.bool b)
 | .string s => .d (.str s)
 | .slice none 0 0 => .nil
 | _ => .any
def Cell.known : Cell → Bool
 | .any => false
 | .tr _ _ => false
 | _ => true
theorem ofVal_cv {ρ : Place} {S : Nat → Prop} {w : World} (v : Value) : CV ρ S w (ofVal v) v := by
 unfold ofVal
 split
 · exact .int _ _
 · exact .bool _
 · exact .str _
 · rfl
 · trivial
theorem ofVal_one {v : Value} (h : (ofVal v).known = true) : v.oneCell' = true := by
 unfold ofVal at h
 split at h
 · rfl
 · rfl
 · rfl
 · rfl
 · cases h
def zok : Value → Bool
 | .nilFunc => true
 | v => (ofVal v).known
theorem zok_one {v : Value} (h : zok v = true) : v.oneCell' = true := by
 unfold zok at h
 split at h
 · rfl
 · exact ofVal_one h
theorem ofVal_ids (v : Value) : (ofVal v).ids = [] := by
 unfold ofVal
 split <;> rfl

def aeval (N : Nat) (f : Nat → AV) : Operand → AV
 | .tmp t => if t < N then f t else .one .any
 | .const v => .one (ofVal v)
 | .func g => .one (.d (.fn g [] []))
 | _ => .one .any
theorem aeval_ok {w0 : Bas} {N : Nat} {ρ : Place} {φ : Foot} {f : Nat → AV} {m : Nm → Option AObj} {a : Act} {w : World} (h : StR w0 N ρ φ f m a w) (x : Operand) : AVR ρ (Sof w0 φ m w) w (aeval N f x) (a.eval x) := by
 cases x with
 | tmp t =>
  simp only [aeval,Act.eval]
  by_cases e : t < N
  ·
   rw [if_pos e]
   have hs : t < a.tmps.size := by rw [h.size]; exact e
   have := h.regs t a.tmps[t] (Array.getElem?_eq_getElem hs)
   simpa [Array.getD,hs] using this
  ·
   rw [if_neg e]
   trivial
 | const v => exact ofVal_cv v
 | global g => trivial
 | func g => exact .fn g [] [] #[] #[] (fun _ => []) rfl rfl (fun i l h => by simp at h) (fun i l j c v h => by simp at h) (fun i c v h => by simp at h) (fun i c v h => by simp at h)

def tShape (P : Program) (t : TypeId) : Option (Option Nat) :=
 match P.underlying t,P.info? t with
 | some d,some i => if d.isRow = true then some (some i.size) else if i.size = 1 then some none else none
 | _,_ => none
def tZero (P : Program) (t : TypeId) : Option (List Value) := (P.info? t).bind fun i => i.zero.map fun z => z.cells.toList
def tFld (P : Program) (s : TypeId) (f : Nat) : Option Nat :=
 match P.underlying s with
 | some (.struct fs) => match fs[f]? with
  | some fd => match P.info? fd.type with
   | some i => if i.size = 0 then none else some fd.offset
   | none => none
  | none => none
 | _ => none
def tElt (P : Program) (t : TypeId) : Option (TypeId × Nat × Nat) :=
 match P.underlying t with
 | some (.slice e) => (P.info? e).map fun i => (e,i.size,i.bytes)
 | _ => none
def tArr (P : Program) (t : TypeId) : Option (Nat × Nat) :=
 match P.underlying t with
 | some (.array n e) => (P.info? e).map fun i => (n,i.size)
 | _ => none
def tInt (P : Program) (t : TypeId) : Option IntKind :=
 match P.underlying t with
 | some (.int k) => some k
 | _ => none
def tBuilt (P : Program) (t : TypeId) : Option (List (Nat × Nat) × List Value) :=
 match P.info? t,P.underlying t with
 | some it,some (.struct fields) =>
  match it.zero,fields.toList.mapM (fun f => (P.info? f.type).map fun i => (f.offset,i.size)) with
  | some z,some places => some (places,z.cells.toList)
  | _,_ => none
 | some it,some (.array n e) =>
  match it.zero,P.info? e with
  | some z,some ie => some ((List.range n).map fun i => (i * ie.size,ie.size),z.cells.toList)
  | _,_ => none
 | _,_ => none

theorem wp_of_run {P : Program} {o : Oper} {a : Act} {w w' : World} {v : Value} {K : Act → World → Prop} {Q : Exit → Act → World → Prop} (h : (execOp a.eval o).run P w = .ok (.value v) w') (hk : K (a.put o.dst v) w') : o.wp P a w K Q := by
 unfold Oper.wp
 rw [h]
 exact hk
theorem wp_of_skip {P : Program} {o : Oper} {a : Act} {w w' : World} {K : Act → World → Prop} {Q : Exit → Act → World → Prop} (h : (execOp a.eval o).run P w = .ok .skip w') (hk : K (a.put o.dst undef) w') : o.wp P a w K Q := by
 unfold Oper.wp
 rw [h]
 exact hk

def Does (P : Program) (w0 : Bas) (N : Nat) (f : Nat → AV) (m : Nm → Option AObj) (o : Oper) (a : Act) (w : World) (v : AV) (U : List Upd) : Prop :=
 ∀ (K : Act → World → Prop) (Q : Exit → Act → World → Prop),(∀ a' w',St w0 N (fput f o.dst v) (mupd m U) a' w' → K a' w') → o.wp P a w K Q

section
variable {P : Program} {w0 : Bas} {N : Nat} {ρ : Place} {φ : Foot} {f : Nat → AV} {m : Nm → Option AObj} {a : Act} {w : World} {o : Oper}
theorem does_pure (h : StR w0 N ρ φ f m a w) {u : Value} {v : AV} (hr : (execOp a.eval o).run P w = .ok (.value u) w) (hv : AVR ρ (Sof w0 φ m w) w v u) : Does P w0 N f m o a w v [] :=
 fun _ _ hK => wp_of_run hr (hK _ _ ⟨ρ,φ,h.put o.dst hv⟩)

theorem so_move (h : StR w0 N ρ φ f m a w) (x : Operand) (ho : o.op = .move x ∨ o.op = .assign x) : Does P w0 N f m o a w (aeval N f x) [] :=
 does_pure h (u := a.eval x) (by rcases ho with ho | ho <;> simp [execOp,ho]) (aeval_ok h x)
theorem so_pick (h : StR w0 N ρ φ f m a w) (c x y : Operand) (b : Bool) (ho : o.op = .pick c x y) (hc : aeval N f c = .one (.d (.bool b))) : Does P w0 N f m o a w (if b then aeval N f x else aeval N f y) [] := by
 have h1 := aeval_ok h c
 rw [hc] at h1
 have e : a.eval c = .bool b := by
  simp only [AVR,CV] at h1
  generalize a.eval c = u at h1
  cases h1
  rfl
 refine does_pure h (u := if b then a.eval x else a.eval y) (by simp [execOp,ho,e,asBool]) ?_
 cases b
 · exact aeval_ok h y
 · exact aeval_ok h x

theorem cv_int {S : Nat → Prop} {k : IntKind} {n : Int} {v : Value} (h : CV ρ S w (.d (.int k n)) v) : v = .int k n := by cases (show View S w (.int k n) v from h); rfl
theorem cv_bool {S : Nat → Prop} {b : Bool} {v : Value} (h : CV ρ S w (.d (.bool b)) v) : v = .bool b := by cases (show View S w (.bool b) v from h); rfl
theorem av_int (h : StR w0 N ρ φ f m a w) {x : Operand} {k : IntKind} {n : Int} (e : aeval N f x = .one (.d (.int k n))) : a.eval x = .int k n := by
 have := aeval_ok h x
 rw [e] at this
 exact cv_int (ρ := ρ) this
theorem av_bool (h : StR w0 N ρ φ f m a w) {x : Operand} {b : Bool} (e : aeval N f x = .one (.d (.bool b))) : a.eval x = .bool b := by
 have := aeval_ok h x
 rw [e] at this
 exact cv_bool (ρ := ρ) this

def landK (k : IntKind) (x y : Int) : Int := k.wrap ((BitVec.ofInt k.bits x &&& BitVec.ofInt k.bits y).toNat)
def arith (op : BinOp) (k : IntKind) (x y : Int) : Option C :=
 match op with
 | .add => some (.int k (k.wrap (x + y)))
 | .sub => some (.int k (k.wrap (x - y)))
 | .mul => some (.int k (k.wrap (x * y)))
 | .rem => if y = 0 then none else some (.int k (x.tmod y))
 | .quo => if y = 0 then none else some (.int k (k.wrap (x.tdiv y)))
 | .and => some (.int k (landK k x y))
 | .shr => if 0 ≤ y ∧ y ≤ k.bits then some (.int k (x.fdiv (2 ^ y.toNat))) else none
 | .shl => if 0 ≤ y ∧ y ≤ k.bits then some (.int k (k.wrap (x * 2 ^ y.toNat))) else none
 | .eql => some (.bool (x == y))
 | .neq => some (.bool (x != y))
 | .lss => some (.bool (decide (x < y)))
 | .leq => some (.bool (decide (x ≤ y)))
 | .gtr => some (.bool (decide (x > y)))
 | .geq => some (.bool (decide (x ≥ y)))
 | _ => none
theorem so_arith (h : StR w0 N ρ φ f m a w) (op : BinOp) (xt yt : TypeId) (x y : Operand) (k : IntKind) (p q : Int) (c : C) (ho : o.op = .binOp op xt x y yt) (hx : aeval N f x = .one (.d (.int k p))) (hy : aeval N f y = .one (.d (.int k q))) (hc : arith op k p q = some c) :
    Does P w0 N f m o a w (.one (.d c)) [] := by
  have ex := av_int h hx
  have ey := av_int h hy
  unfold arith at hc
  split at hc <;> first
    | (injection hc with hc; subst hc; exact does_pure h (by simp [execOp,ho,ex,ey,eqGuard,binOp,Op.intArith,Op.intBits,Op.intCmp]; rfl) (by first | exact View.int _ _ | exact View.bool _))
    | (by_cases hne : q = 0
       · rw [if_pos hne] at hc; cases hc
       · rw [if_neg hne] at hc; injection hc with hc; subst hc; exact does_pure h (by simp [execOp,ho,ex,ey,eqGuard,binOp,Op.intDiv,hne] <;> rfl) (View.int _ _))
    | (split at hc
       · rename_i hs
         injection hc with hc; subst hc
         have h1 : ¬ q < 0 := by omega
         have h2 : min q.toNat k.bits = q.toNat := by omega
         exact does_pure h (by simp only [execOp,ho,ex,ey,eqGuard,binOp,Op.shift,if_neg h1,h2]; rfl) (View.int _ _)
       · cases hc)
    | cases hc
def boolOp (op : BinOp) (x y : Bool) : Option C :=
 match op with
 | .eql => some (.bool (x == y))
 | .neq => some (.bool (!(x == y)))
 | _ => none
theorem run_bool_eq {P : Program} {w : World} {t : TypeId} (hu : P.underlying t = some .bool) (p q : Bool) : (Op.equal t (.bool p) (.bool q)).run P w = .ok (p == q) w := by
 show (Op.equalIn (9999 + 1) t (.bool p) (.bool q)).run P w = _
 exact run_equalIn_bool w 9999 t p q hu
theorem so_boolOp (h : StR w0 N ρ φ f m a w) (op : BinOp) (xt yt : TypeId) (x y : Operand) (p q : Bool) (c : C) (hu : P.underlying xt = some .bool) (ho : o.op = .binOp op xt x y yt) (hx : aeval N f x = .one (.d (.bool p))) (hy : aeval N f y = .one (.d (.bool q))) (hc : boolOp op p q = some c) :
  Does P w0 N f m o a w (.one (.d c)) [] := by
 have ex := av_bool h hx
 have ey := av_bool h hy
 unfold boolOp at hc
 split at hc
 ·
  injection hc with hc; subst hc
  exact does_pure h (u := .bool (p == q)) (by simp only [execOp,ho,ex,ey,eqGuard,binOp,Sem.run_bind,run_bool_eq hu]; rfl) (View.bool _)
 ·
  injection hc with hc; subst hc
  exact does_pure h (u := .bool (!(p == q))) (by simp only [execOp,ho,ex,ey,eqGuard,binOp,Sem.run_bind,run_bool_eq hu]; rfl) (View.bool _)
 · cases hc
theorem so_not (h : StR w0 N ρ φ f m a w) (x : Operand) (t : TypeId) (p : Bool) (ho : o.op = .unOp .not t x) (hx : aeval N f x = .one (.d (.bool p))) : Does P w0 N f m o a w (.one (.d (.bool (!p)))) [] :=
 does_pure h (u := .bool (!p)) (by simp [execOp,ho,av_bool h hx,Op.unary]) (View.bool _)
theorem so_neg (h : StR w0 N ρ φ f m a w) (x : Operand) (t : TypeId) (k : IntKind) (p : Int) (ho : o.op = .unOp .neg t x) (hx : aeval N f x = .one (.d (.int k p))) : Does P w0 N f m o a w (.one (.d (.int k (k.wrap (0 - p))))) [] :=
 does_pure h (u := .int k (k.wrap (0 - p))) (by simp [execOp,ho,av_int h hx,Op.unary,Op.intArith]) (View.int _ _)
theorem so_convert (h : StR w0 N ρ φ f m a w) (x : Operand) (s t : TypeId) (k k' : IntKind) (p : Int) (hs : tInt P s = some k) (ht : tInt P t = some k') (ho : o.op = .convert s t x) (hx : aeval N f x = .one (.d (.int k p))) : Does P w0 N f m o a w (.one (.d (.int k' (k'.wrap p)))) [] := by
 have us : ∃ d,P.underlying s = some d := by
  unfold tInt at hs
  split at hs
  · exact ⟨_,by assumption⟩
  · cases hs
 have ut : P.underlying t = some (.int k') := by
  unfold tInt at ht
  split at ht
  · injection ht with ht; subst ht; assumption
  · cases ht
 obtain ⟨d,hd⟩ := us
 exact does_pure h (u := .int k' (k'.wrap p)) (by simp [execOp,ho,av_int h hx,convert,run_underlying hd,run_underlying ut,Conv.intToInt]) (View.int _ _)
theorem so_extract (h : StR w0 N ρ φ f m a w) (x : Operand) (i : Nat) (l : List (List Cell ⊕ Cell)) (y : List Cell ⊕ Cell) (ho : o.op = .extract x i) (hx : aeval N f x = .tup l) (hy : l[i]? = some y) :
  Does P w0 N f m o a w (match y with | .inl cs => .agg cs | .inr c => .one c) [] := by
 have hv := aeval_ok h x
 rw [hx] at hv
 obtain ⟨vs,hv,hl,hc⟩ := hv
 have hi : i < vs.length := by rw [hl]; exact (List.getElem?_eq_some_iff.1 hy).1
 have h1 := hc i y vs[i] hy (List.getElem?_eq_getElem hi)
 refine does_pure h (u := vs[i]) (by simp [execOp,ho,hv,Instr.extract,hi]) ?_
 cases y with
 | inl cs => exact h1
 | inr c => exact h1

theorem tShape_row {t : TypeId} {n : Nat} (h : tShape P t = some (some n)) : ∃ d,P.underlying t = some d ∧ d.isRow = true ∧ (P.info? t).map (·.size) = some n := by
 unfold tShape at h
 split at h
 ·
  rename_i d i h1 h2
  split at h
  ·
   rename_i h3
   injection h with h
   injection h with h
   exact ⟨d,h1,h3,by rw [h2]; simp [h]⟩
  · split at h <;> simp at h
 · cases h
theorem tShape_one {t : TypeId} (h : tShape P t = some none) : ∃ d,P.underlying t = some d ∧ d.isRow = false ∧ (P.info? t).map (·.size) = some 1 := by
 unfold tShape at h
 split at h
 ·
  rename_i d i h1 h2
  split at h
  · simp at h
  ·
   rename_i h3
   split at h
   ·
    rename_i h4
    exact ⟨d,h1,by simpa using h3,by rw [h2]; simp [h4]⟩
   · cases h
 · cases h
end
section
variable {P : Program} {w0 : Bas} {N : Nat} {ρ : Place} {φ : Foot} {f : Nat → AV} {m : Nm → Option AObj} {a : Act} {w : World} {o : Oper}

theorem run_field {s : TypeId} {i off b p : Nat} (h : tFld P s i = some off) (w : World) : (Instr.fieldAt s (.pointer (some ⟨b,p,none⟩)) i).run P w = .ok (.pointer (some ⟨b,p + off,none⟩)) w := by
 unfold tFld at h
 split at h
 ·
  rename_i fs hu
  split at h
  ·
   rename_i fd hf
   split at h
   ·
    rename_i inf hi
    split at h
    · cases h
    ·
     rename_i h0
     injection h with h
     subst h
     simp [Instr.fieldAt,run_underlying hu,hf,Instr.sureAddr,fieldPlace,sizeOf,typeInfo,hi,h0,add_lit]
   · cases h
  · cases h
 · cases h

def fwd (c : Cell) (k : Nat) : Option Cell :=
 match c with
 | .ptr id off => some (.ptr id (off + k))
 | .eptr id sz i j => some (.eptr id sz i (j + k))
 | .d (.rop cs) => some (.d (.rop (cs.drop k)))
 | _ => none
theorem fwd_ok {S : Nat → Prop} {c c' : Cell} {k : Nat} {v : Value} (h : fwd c k = some c') (hv : CV ρ S w c v) : ∃ b p,v = .pointer (some ⟨b,p,none⟩) ∧ CV ρ S w c' (.pointer (some ⟨b,p + k,none⟩)) := by
 unfold fwd at h
 split at h
 ·
  injection h with h; subst h
  obtain ⟨b,c,hr,hv⟩ := hv
  exact ⟨b,_,hv,b,c,hr,rfl⟩
 ·
  injection h with h; subst h
  obtain ⟨b,x,c,hr,hv⟩ := hv
  exact ⟨b,_,hv,b,x,c,hr,by rw [Nat.add_assoc]⟩
 ·
  injection h with h; subst h
  rename_i cs
  cases (show View S w (.rop cs) v from hv) with
  | rop _ b p u hb hc hu =>
   refine ⟨b,p,rfl,View.rop _ b (p + k) (fun j => u (k + j)) hb (fun j c hj => ?_) fun j c hj => ?_⟩
   ·
    rw [List.getElem?_drop] at hj
    rw [Nat.add_assoc]
    exact hc (k + j) c hj
   ·
    rw [List.getElem?_drop] at hj
    exact hu (k + j) c hj
 · cases h
theorem so_fieldAddr (h : StR w0 N ρ φ f m a w) (s : TypeId) (x : Operand) (i off : Nat) (c c' : Cell) (ho : o.op = .fieldAddr s x i) (hx : aeval N f x = .one c) (ht : tFld P s i = some off) (hc : fwd c off = some c') : Does P w0 N f m o a w (.one c') [] := by
 have hv := aeval_ok h x
 rw [hx] at hv
 obtain ⟨b,p,e,h1⟩ := fwd_ok (ρ := ρ) hc hv
 exact does_pure h (by simp only [execOp,ho,e,Sem.run_bind,run_field ht w]; rfl) h1

def elemOfS (c : Cell) (sz : Nat) (i : Int) : Option Cell :=
 match c with
 | .d (.sl l) => if 0 ≤ i then (l[i.toNat]?).bind fun r => if r.length = sz then some (.d (.rop r)) else none else none
 | .own id n => if 0 ≤ i ∧ i < n then some (.eptr id sz i.toNat 0) else none
 | .sub id sz' off n => if 0 ≤ i ∧ i < n ∧ sz' = sz then some (.eptr id sz (off + i.toNat) 0) else none
 | _ => none
theorem elemOfS_ok {S : Nat → Prop} {c c' : Cell} {sz : Nat} {i : Int} {v : Value} (h : elemOfS c sz i = some c') (hv : CV ρ S w c v) : ∃ b p n cap,v = .slice (some ⟨b,p,none⟩) n cap ∧ 0 ≤ i ∧ i < n ∧ CV ρ S w c' (.pointer (some ⟨b,p + i.toNat * sz,none⟩)) := by
 unfold elemOfS at h
 split at h
 ·
  rename_i l
  split at h
  ·
   rename_i h0
   cases hl : l[i.toNat]? with
   | none => rw [hl] at h; cases h
   | some r =>
    rw [hl] at h
    simp only [Option.bind_some] at h
    split at h
    ·
     rename_i hr
     injection h with h
     subst h
     have hlt : i.toNat < l.length := (List.getElem?_eq_some_iff.1 hl).1
     cases (show View S w (.sl l) v from hv) with
     | sl _ sz' A cap u hsz hcap hb hA hu =>
      obtain ⟨b,p,rfl,hs,hcell⟩ := hA (by omega)
      have e : sz' = sz := (hsz _ _ hl).symm.trans hr
      subst e
      refine ⟨b,p,l.length,cap,rfl,h0,by omega,View.rop _ b _ (fun j => u i.toNat j) hs (fun j c hj => ?_) fun j c hj => hu _ _ _ _ hl hj⟩
      have := hcell _ _ _ _ hl hj
      rw [Nat.add_assoc]
      exact this
    · cases h
  · cases h
 ·
  rename_i id n
  split at h
  ·
   rename_i h0
   injection h with h
   subst h
   rcases hv with ⟨b,base,cap,hr,hv⟩ | ⟨_,hn,_⟩
   · exact ⟨b,base,n,cap,hv,h0.1,h0.2,b,base,cap,hr,by simp⟩
   · omega
  · cases h
 ·
  rename_i id sz' off n
  split at h
  ·
   rename_i h0
   obtain ⟨h1,h2,rfl⟩ := h0
   injection h with h
   subst h
   rcases hv with ⟨b,base,cap,A,hr,hle,hv,hA⟩ | ⟨_,_,hn,_⟩
   ·
    have hlt : off < cap := by omega
    rw [hA hlt] at hv
    exact ⟨b,_,n,_,hv,h1,h2,b,base,cap,hr,by rw [Nat.add_mul]; simp [Nat.add_assoc]⟩
   · omega
  · cases h
 · cases h
theorem tElt_ok {t e sz by_ : Nat} (h : tElt P t = some (e,sz,by_)) : P.underlying t = some (.slice e) ∧ ∃ i,P.info? e = some i ∧ i.size = sz ∧ i.bytes = by_ := by
 unfold tElt at h
 split at h
 ·
  rename_i e' hu
  cases hi : P.info? e' with
  | none => rw [hi] at h; cases h
  | some i =>
   rw [hi] at h
   simp only [Option.map_some,Option.some.injEq,Prod.mk.injEq] at h
   obtain ⟨rfl,h1,h2⟩ := h
   exact ⟨hu,i,hi,h1,h2⟩
 · cases h
theorem tArr_ok {t n sz : Nat} (h : tArr P t = some (n,sz)) : ∃ e,P.underlying t = some (.array n e) ∧ ∃ i,P.info? e = some i ∧ i.size = sz := by
 unfold tArr at h
 split at h
 ·
  rename_i n' e' hu
  cases hi : P.info? e' with
  | none => rw [hi] at h; cases h
  | some i =>
   rw [hi] at h
   simp only [Option.map_some,Option.some.injEq,Prod.mk.injEq] at h
   obtain ⟨rfl,h1⟩ := h
   exact ⟨e',hu,i,hi,h1⟩
 · cases h
theorem so_indexAddr (h : StR w0 N ρ φ f m a w) (t : TypeId) (x y : Operand) (k : IntKind) (i : Int) (e sz by_ : Nat) (c c' : Cell) (ho : o.op = .indexAddr t x y) (hx : aeval N f x = .one c) (hy : aeval N f y = .one (.d (.int k i)))
  (ht : tElt P t = some (e,sz,by_)) (hc : elemOfS c sz i = some c') : Does P w0 N f m o a w (.one c') [] := by
 have hv := aeval_ok h x
 rw [hx] at hv
 obtain ⟨b,p,n,cap,e1,h0,h1,h2⟩ := elemOfS_ok (ρ := ρ) hc hv
 obtain ⟨hu,inf,hi,hsz,_⟩ := tElt_ok ht
 refine does_pure h (u := .pointer (some ⟨b,p + i.toNat * sz,none⟩)) ?_ h2
 have ey := av_int h hy
 simp only [execOp,ho,e1,ey,Sem.run_bind,Instr.indexAt,asIntOf,Sem.run_pure,Result.andThen_ok,run_underlying hu]
 simp [h0,h1,sizeOf,typeInfo,hi,hsz,add_lit]
theorem so_indexArr (h : StR w0 N ρ φ f m a w) (t : TypeId) (x y : Operand) (k : IntKind) (i : Int) (n sz : Nat) (c c' : Cell) (ho : o.op = .indexAddr t x y) (hx : aeval N f x = .one c) (hy : aeval N f y = .one (.d (.int k i)))
  (ht : tArr P t = some (n,sz)) (h0 : 0 ≤ i) (h1 : i < n) (hc : fwd c (i.toNat * sz) = some c') : Does P w0 N f m o a w (.one c') [] := by
 have hv := aeval_ok h x
 rw [hx] at hv
 obtain ⟨b,p,e1,h2⟩ := fwd_ok (ρ := ρ) hc hv
 obtain ⟨e,hu,inf,hi,hsz⟩ := tArr_ok ht
 refine does_pure h (u := .pointer (some ⟨b,p + i.toNat * sz,none⟩)) ?_ h2
 have ey := av_int h hy
 simp only [execOp,ho,e1,ey,Sem.run_bind,Instr.indexAt,asIntOf,Sem.run_pure,Result.andThen_ok,run_underlying hu,Instr.sureAddr]
 simp [h0,h1,sizeOf,typeInfo,hi,hsz,add_lit]

def cellsAt (m : Nm → Option AObj) (c : Cell) (n : Nat) : Option (List Cell) :=
 match c with
 | .d (.rop cs) => if n ≤ cs.length then some ((cs.take n).map .d) else none
 | .ptr id off => match m id with
  | some (.box _ l) => if off + n ≤ l.length then some ((l.drop off).take n) else none
  | _ => none
 | .eptr id sz i j => match m id with
  | some (.row _ sz' l) => if sz = sz' then (l[i]?).bind fun r => if j + n ≤ r.length then some ((r.drop j).take n) else none else none
  | _ => none
 | _ => none
theorem cellsAt_ok (h : StR w0 N ρ φ f m a w) {c : Cell} {n : Nat} {l : List Cell} {v : Value} (hc : cellsAt m c n = some l) (hv : CV ρ (Sof w0 φ m w) w c v) :
  ∃ b p,∃ vs : List Value,v = .pointer (some ⟨b,p,none⟩) ∧ l.length = n ∧ w.rangeAt b p vs ∧ CVs ρ (Sof w0 φ m w) w l vs := by
 unfold cellsAt at hc
 split at hc
 ·
  rename_i cs
  split at hc
  ·
   rename_i hn
   injection hc with hc
   subst hc
   cases (show View _ w (.rop cs) v from hv) with
   | rop _ b p u hb hcell hu =>
   refine ⟨b,p,(List.range n).map u,rfl,by simp [hn],fun j x hj => ?_,by simp [hn],fun i c x hi hx => ?_⟩
   ·
    simp only [List.getElem?_map,Option.map_eq_some_iff] at hj
    obtain ⟨i,hi,rfl⟩ := hj
    have hi' : i = j ∧ j < n := by
     have := List.getElem?_eq_some_iff.1 hi
     obtain ⟨h1,h2⟩ := this
     simp at h1 h2
     exact ⟨h2.symm,h1⟩
    obtain ⟨rfl,hlt⟩ := hi'
    exact hcell i cs[i] (List.getElem?_eq_getElem (by omega))
   ·
    simp only [List.getElem?_map,Option.map_eq_some_iff] at hi hx
    obtain ⟨d,hd,rfl⟩ := hi
    obtain ⟨i',hi',rfl⟩ := hx
    have e : i' = i ∧ i < n := by
     obtain ⟨h1,h2⟩ := List.getElem?_eq_some_iff.1 hi'
     simp at h1 h2
     exact ⟨h2.symm,h1⟩
    obtain ⟨rfl,hlt⟩ := e
    rw [List.getElem?_take,if_pos hlt] at hd
    have := hu i' d hd
    exact ⟨this,this.one⟩
  · cases hc
 ·
  rename_i id off
  split at hc
  ·
   rename_i ty l0 hid
   split at hc
   ·
    rename_i hn
    injection hc with hc
    subst hc
    obtain ⟨b,cp,hr,hv⟩ := hv
    obtain ⟨b',cur,hr',_,hh,hcv⟩ := h.objs id _ hid
    rw [hr] at hr'
    injection hr' with hr'
    injection hr' with e1 e2
    subst e1
    refine ⟨b,off,(cur.toList.drop off).take n,hv,by simp; omega,fun j x hj => ?_,by simp [hcv.1],fun i c x hi hx => ?_⟩
    ·
     rw [List.getElem?_take] at hj
     split at hj
     ·
      rw [List.getElem?_drop] at hj
      rw [cell_of_row w b (off + j) cur ty (0,0) hh]
      simpa using hj
     · cases hj
    ·
     rw [List.getElem?_take] at hi hx
     split at hi
     ·
      rename_i hlt
      rw [if_pos hlt] at hx
      rw [List.getElem?_drop] at hi hx
      exact hcv.2 _ _ _ hi hx
     · cases hi
   · cases hc
  · cases hc
 ·
  rename_i id sz i j
  split at hc
  ·
   rename_i ty sz' l0 hid
   split at hc
   ·
    rename_i hsz
    subst hsz
    cases hl : l0[i]? with
    | none => rw [hl] at hc; cases hc
    | some r =>
     rw [hl] at hc
     simp only [Option.bind_some] at hc
     split at hc
     ·
      rename_i hn
      injection hc with hc
      subst hc
      obtain ⟨b,base,cp,hr,hv⟩ := hv
      have hrow := (h.objs id _ hid).2
      rcases hrow with ⟨hr',_⟩ | ⟨b',base',cp',hr',cur,G,hfb,hh,hlc,hcs,hcell,_,_⟩
      · rw [hr] at hr'; cases hr'
      ·
       rw [hr] at hr'
       injection hr' with hr'
       injection hr' with e1 e2
       injection e2 with e2 e3
       subst e1 e2 e3
       obtain ⟨hrl,hcell⟩ := hcell i r hl
       have hsome : ∀ k,k < n → ∃ x,cur[base + i * sz + (j + k)]? = some x ∧ ∀ d,r[j + k]? = some d → CV ρ (Sof w0 φ m w) w d x ∧ x.oneCell' = true := fun k hk => by
        obtain ⟨x,hx,hv⟩ := hcell (j + k) r[j + k] (List.getElem?_eq_getElem (by omega))
        exact ⟨x,hx,fun d hd => by
         have : r[j + k]? = some r[j + k] := List.getElem?_eq_getElem (by omega)
         rw [this] at hd
         injection hd with hd
         subst hd
         exact ⟨hv.2.1,hv.1⟩⟩
       refine ⟨b,base + i * sz + j,(cur.toList.drop (base + i * sz + j)).take n,hv,by simp; omega,fun k x hk => ?_,?_,fun k c x hk hx => ?_⟩
       ·
        rw [List.getElem?_take] at hk
        split at hk
        ·
         rw [List.getElem?_drop] at hk
         rw [cell_of_row w b _ cur ty (0,0) hh]
         simpa using hk
        · cases hk
       ·
        simp only [List.length_take,List.length_drop,Array.length_toList]
        rcases Nat.eq_zero_or_pos n with h0 | h0
        · subst h0; simp
        ·
         obtain ⟨x,hx,_⟩ := hsome (n - 1) (by omega)
         have := (Array.getElem?_eq_some_iff.1 hx).1
         omega
       ·
        rw [List.getElem?_take] at hk hx
        split at hk
        ·
         rename_i hlt
         rw [if_pos hlt] at hx
         rw [List.getElem?_drop] at hk hx
         obtain ⟨x',hx',hv'⟩ := hsome k hlt
         have e : x' = x := by
          rw [← Nat.add_assoc] at hx'
          have hx2 : cur[base + i * sz + j + k]? = some x := by simpa using hx
          rw [hx'] at hx2
          injection hx2
         subst e
         exact hv' c hk
        · cases hk
     · cases hc
   · cases hc
  · cases hc
 · cases hc
theorem so_loadRow (h : StR w0 N ρ φ f m a w) (t : TypeId) (x : Operand) (n : Nat) (c : Cell) (l : List Cell) (ho : o.op = .load t x) (hx : aeval N f x = .one c) (ht : tShape P t = some (some n)) (hc : cellsAt m c n = some l) : Does P w0 N f m o a w (.agg l) [] := by
 have hv := aeval_ok h x
 rw [hx] at hv
 obtain ⟨b,p,vs,e,hl,hra,hcv⟩ := cellsAt_ok h hc hv
 obtain ⟨d,hu,hd,hi⟩ := tShape_row ht
 refine does_pure h (u := .agg vs.toArray) ?_ ⟨vs,rfl,hcv⟩
 simp only [execOp,ho,e,Sem.run_bind,run_loadAt_mid w b p t vs d hra hu hd (by rw [hi,hcv.1,hl])]
 rfl
theorem so_loadOne (h : StR w0 N ρ φ f m a w) (t : TypeId) (x : Operand) (c c' : Cell) (ho : o.op = .load t x) (hx : aeval N f x = .one c) (ht : tShape P t = some none) (hc : cellsAt m c 1 = some [c']) : Does P w0 N f m o a w (.one c') [] := by
 have hv := aeval_ok h x
 rw [hx] at hv
 obtain ⟨b,p,vs,e,hl,hra,hcv⟩ := cellsAt_ok h hc hv
 obtain ⟨d,hu,hd,hi⟩ := tShape_one ht
 obtain ⟨u,hvs⟩ : ∃ u,vs = [u] := by
  match vs,hcv.1 with
  | [u],_ => exact ⟨u,rfl⟩
 subst hvs
 have hcell := hra 0 u rfl
 refine does_pure h (u := u) ?_ (hcv.2 0 c' u rfl rfl).1
 have hagg : (isAgg t).run P w = .ok false w := by
  unfold isAgg
  rw [Sem.run_bind,run_underlying hu w]
  cases d <;> simp_all
 simp only [execOp,ho,e,Instr.loadAt,Instr.sureAddr,loadVar,Sem.run_bind,Sem.run_pure,Result.andThen_ok,hagg]
 simp [load,Sem.run,show w.cell? ⟨b,p,none⟩ = some u from hcell]
end
structure Fresh (f : Nat → AV) (m : Nm → Option AObj) (fr : Nm) : Prop where
 hf : ∀ t,fr ∉ (f t).ids
 hm : ∀ (i : Nm) (o : AObj),m i = some o → fr ∉ o.ids
 hn : m fr = none
 h0 : fr.1 ≠ 0

def pset (ρ : Place) (fr : Nm) (pl : Option (Nat × Nat × Nat)) : Place := fun i => if i = fr then pl else ρ i
def fset (φ : Foot) (fr : Nm) (F : Nat → Prop) : Foot := fun i => if i = fr then F else φ i

section
variable {P : Program} {w0 : Bas} {N : Nat} {ρ : Place} {φ : Foot} {f : Nat → AV} {m : Nm → Option AObj} {a : Act} {w w' : World} {o : Oper}

theorem StR.turn (h : StR w0 N ρ φ f m a w) (id fr : Nm) (pl : Option (Nat × Nat × Nat)) (F : Nat → Prop) (ob : AObj) (hfr : Fresh f m fr)
  (hw : Mv (fun b => ∃ o,m id = some o ∧ φ id b) w w') (hF : ∀ b,F b → (w.heap.size ≤ b ∧ b < w'.heap.size) ∨ ∃ o,m id = some o ∧ φ id b)
  (ho : OR (pset ρ fr pl) (fset φ fr F) (Sof w0 φ m w) w' fr ob) :
  StR w0 N (pset ρ fr pl) (fset φ fr F) f (mset (mset m id none) fr (some ob)) a w' ∧ (∀ b,Sof w0 φ m w b → Sof w0 (fset φ fr F) (mset (mset m id none) fr (some ob)) w' b) := by
 have only : ∀ i o',(i = id ∨ i = fr) → mset (mset m id none) fr (some ob) i = some o' → i = fr ∧ o' = ob := fun i o' hi hm => by
  simp only [mset] at hm
  by_cases e : i = fr
  ·
   rw [if_pos e] at hm
   injection hm with hm
   exact ⟨e,hm.symm⟩
  ·
   rw [if_neg e,if_pos (hi.resolve_right e)] at hm
   cases hm
 refine h.step (fun i => i = id ∨ i = fr) (hw.mono fun b ⟨o',h1,h2⟩ => ⟨id,o',.inl rfl,h1,h2⟩) (fun i o' hi hm => ?_) (fun i o' hi _ b => ?_) (fun i o' hi hm => ?_) (fun t i hi => if_neg fun (e : i = fr) => hfr.hf t (e ▸ hi)) (fun i o' b hi hm hf => ?_) (fun i i' o1 o2 b hi hi' hm hm' _ _ => ?_) (fun i o' hi h0 hm => ?_) (fun hS i o' hi hm => ?_)
 ·
  simp only [mset,if_neg (fun e => hi (.inr e)),if_neg (fun e => hi (.inl e))] at hm
  exact hm
 · simp only [fset,if_neg (fun e => hi (.inr e))]
 ·
  simp only [mset,if_neg (fun e => hi (.inr e)),if_neg (fun e => hi (.inl e))] at hm
  exact ⟨if_neg (fun e => hi (.inr e)),fun j hj => if_neg fun (e : j = fr) => hfr.hm i o' hm (e ▸ hj)⟩
 ·
  obtain ⟨rfl,rfl⟩ := only i o' hi hm
  simp only [fset,if_true] at hf
  rcases hF b hf with h1 | ⟨o',h1,h2⟩
  · exact .inl h1
  · exact .inr ⟨id,o',.inl rfl,h1,h2⟩
 · rw [(only i o1 hi hm).1,(only i' o2 hi' hm').1]
 ·
  obtain ⟨rfl,rfl⟩ := only i o' hi hm
  exact absurd h0 hfr.h0
 ·
  obtain ⟨rfl,rfl⟩ := only i o' hi hm
  exact ho.next (fun _ _ => rfl) hS (fun _ _ => rfl) rfl (fun _ _ => rfl) fun _ hb => hb
theorem StR.new (h : StR w0 N ρ φ f m a w) (fr : Nm) (cap : Nat) (cs : Array Value) (ty : TypeId) (ob : AObj) (hfr : Fresh f m fr)
  (ho : OR (pset ρ fr (some (w.heap.size,0,cap))) (fset φ fr (· = w.heap.size)) (Sof w0 φ m w) (w.alloc (.cells cs ty)) fr ob) :
  StR w0 N (pset ρ fr (some (w.heap.size,0,cap))) (fset φ fr (· = w.heap.size)) f (mset m fr (some ob)) a (w.alloc (.cells cs ty)) := by
 have := (h.turn fr fr (some (w.heap.size,0,cap)) (· = w.heap.size) ob hfr ((Mv.alloc w _).mono fun _ h => h.elim) (fun b e => .inl (by rw [e]; simp)) ho).1
 have e : mset (mset m fr none) fr (some ob) = mset m fr (some ob) := by
  funext i
  simp only [mset]
  split <;> rfl
 rwa [e] at this
theorem StR.write (h : StR w0 N ρ φ f m a w) (id : Nm) (o0 ob : AObj) (hid : m id = some o0) (hw : Mv (φ id) w w') (ho : OR ρ φ (Sof w0 φ m w) w' id ob) :
  StR w0 N ρ φ f (mset m id (some ob)) a w' ∧ (∀ b,Sof w0 φ m w b → Sof w0 φ (mset m id (some ob)) w' b) := by
 refine h.step (fun i => i = id) (hw.mono fun b hb => ⟨id,o0,rfl,hid,hb⟩) (fun i o' hi hm => ?_) (fun i o' hi _ b => Iff.rfl) (fun i o' hi hm => ⟨rfl,fun _ _ => rfl⟩) (fun _ _ _ => rfl) (fun i o' b hi hm hf => .inr ⟨id,o0,rfl,hid,hi ▸ hf⟩) (fun i i' _ _ _ hi hi' _ _ _ _ => by rw [hi,hi']) (fun i o' hi h0 hm => ⟨o0,by rw [hi]; exact hid,rfl⟩) (fun hS i o' hi hm => ?_)
 ·
  simp only [mset,if_neg hi] at hm
  exact hm
 ·
  subst hi
  simp only [mset,if_true] at hm
  injection hm with hm
  subst hm
  exact ho.next (fun _ _ => rfl) hS (fun _ _ => rfl) rfl (fun _ _ => rfl) fun _ hb => hb

def Cell.ntr : Cell → Bool
 | .tr _ _ => false
 | _ => true
def AV.okCells : AV → Bool
 | .one c => c.known
 | .agg l => l.all Cell.ntr
 | .tup _ => false
theorem okCells_ntr {v : AV} (h : v.okCells = true) : ∀ d ∈ v.cells,∀ T c,d ≠ .tr T c := by
 intro d hd T c e
 subst e
 cases v with
 | one c' => simp [AV.cells] at hd; subst hd; cases h
 | agg l => have := List.all_eq_true.1 h _ hd; cases this
 | tup l => cases h
theorem cv_one {S : Nat → Prop} {c : Cell} {v : Value} (h : CV ρ S w c v) (hk : c.known = true) : v.oneCell' = true := by
 cases c with
 | d c => exact View.one h
 | tr T c => cases hk
 | ptr id off => obtain ⟨b,c,_,rfl⟩ := h; rfl
 | eptr id sz i j => obtain ⟨b,x,c,_,rfl⟩ := h; rfl
 | own id n =>
  rcases h with ⟨b,x,c,_,rfl⟩ | ⟨_,_,A,rfl⟩ <;> rfl
 | sub id sz off n =>
  rcases h with ⟨b,x,c,A,_,_,rfl,_⟩ | ⟨_,_,_,A,rfl⟩ <;> rfl
 | fnp g caps => obtain ⟨vs,rfl,_⟩ := h; rfl
 | mp id => obtain ⟨b,q,_,rfl⟩ := h; rfl
 | bb e n => obtain ⟨b,rfl,_⟩ := h; rfl
 | nil => rw [show v = .slice none 0 0 from h]; rfl
 | any => cases hk
theorem cells_one {v : Value} (h : v.oneCell' = true) : v.cells = #[v] := by
 cases v <;> first | rfl | cases h
theorem av_cells {S : Nat → Prop} {x : AV} {v : Value} (h : AVR ρ S w x v) (hk : x.okCells = true) : CVs ρ S w x.cells v.cells.toList := by
 cases x with
 | one c =>
  have h1 := cv_one (ρ := ρ) (show CV ρ S w c v from h) hk
  rw [cells_one h1]
  refine ⟨rfl,fun i c' v' hc hv => ?_⟩
  cases i with
  | zero => simp [AV.cells] at hc hv; subst hc hv; exact ⟨h,h1⟩
  | succ i => simp at hv
 | agg l =>
  obtain ⟨vs,rfl,hc⟩ := h
  simpa [Value.cells,AV.cells] using hc
 | tup l => cases hk

theorem so_alloc (h : StR w0 N ρ φ f m a w) (t : TypeId) (fr : Nm) (zs : List Value) (ho : o.op = .alloc t) (ht : tZero P t = some zs) (hk : zs.all zok = true) (hfr : Fresh f m fr) :
  Does P w0 N f m o a w (.one (.ptr fr 0)) [(fr,some (.box t (zs.map ofVal)))] := by
 unfold tZero at ht
 cases hi : P.info? t with
 | none => rw [hi] at ht; cases ht
 | some i =>
  rw [hi] at ht
  simp only [Option.bind_some] at ht
  cases hz : i.zero with
  | none => rw [hz] at ht; cases ht
  | some z =>
   rw [hz] at ht
   simp only [Option.map_some,Option.some.injEq] at ht
   subst ht
   have h1 := h.new fr 0 z.cells t (.box t (z.cells.toList.map ofVal)) hfr ⟨w.heap.size,z.cells,if_pos rfl,(congrFun (if_pos rfl) _).mpr rfl,heap_alloc_new w _,by simp,fun i c v hc hv => by
    simp only [List.getElem?_map,Option.map_eq_some_iff] at hc
    obtain ⟨v',hv',rfl⟩ := hc
    rw [hv] at hv'
    injection hv' with hv'
    subst hv'
    exact ⟨ofVal_cv v,zok_one (List.all_eq_true.1 hk v (by simpa using List.mem_of_getElem? hv))⟩⟩
   exact fun K Q hK => wp_of_run (v := .pointer (some ⟨w.heap.size,0,none⟩)) (w' := w.alloc (.cells z.cells t))
    (by simp only [execOp,ho,Instr.alloc,Sem.run_bind,zeroValue,typeInfo]; simp [hi,hz,newVar,newRow,newObj,Sem.run])
    (hK _ _ ⟨_,_,h1.put o.dst ⟨w.heap.size,_,if_pos rfl,rfl⟩⟩)
theorem so_box (h : StR w0 N ρ φ f m a w) (t : TypeId) (x : Operand) (fr : Nm) (v : AV) (ho : o.op = .box t x) (hx : aeval N f x = v) (hk : v.okCells = true) (hfr : Fresh f m fr) :
  Does P w0 N f m o a w (.one (.ptr fr 0)) [(fr,some (.box t v.cells))] := by
 have hv := aeval_ok h x
 rw [hx] at hv
 have hc := av_cells hv hk
 have h1 := h.new fr 0 (a.eval x).cells t (.box t v.cells) hfr ⟨w.heap.size,_,if_pos rfl,(congrFun (if_pos rfl) _).mpr rfl,heap_alloc_new w _,hc.next (fun p hp => World.cell?_alloc_lt w _ p hp.1) (fun _ hb => hb) fun id hid => if_neg fun (e : id = fr) => ?_⟩
 ·
  exact fun K Q hK => wp_of_run (v := .pointer (some ⟨w.heap.size,0,none⟩)) (w' := w.alloc (.cells (a.eval x).cells t))
   (by simp only [execOp,ho,Instr.box,Sem.run_bind]; simp [newVar,newRow,newObj,Sem.run])
   (hK _ _ ⟨_,_,h1.put o.dst ⟨w.heap.size,_,if_pos rfl,rfl⟩⟩)
 ·
  subst e
  have hids : id ∈ v.ids := by
   cases v with
   | one c => simpa [AV.cells,AV.ids] using hid
   | agg l => exact hid
   | tup l => cases hk
  rw [← hx] at hids
  cases x with
  | tmp t' =>
   simp only [aeval] at hids
   split at hids
   · exact hfr.hf t' hids
   · simp [AV.ids,Cell.ids] at hids
  | const u => simp [aeval,AV.ids,ofVal_ids] at hids
  | global g => simp [aeval,AV.ids,Cell.ids] at hids
  | func g => simp [aeval,AV.ids,Cell.ids] at hids
end
def lay {α : Type} (l : List α) (off : Nat) (cs : List α) : List α := l.take off ++ cs ++ l.drop (off + cs.length)
theorem lay_length {α : Type} {l : List α} {off : Nat} {cs : List α} (h : off + cs.length ≤ l.length) : (lay l off cs).length = l.length := by
 simp only [lay,List.length_append,List.length_take,List.length_drop]; omega
theorem lay_get {α : Type} {l : List α} {off : Nat} {cs : List α} (h : off + cs.length ≤ l.length) (i : Nat) : (lay l off cs)[i]? = if off ≤ i ∧ i < off + cs.length then cs[i - off]? else l[i]? := by
 unfold lay
 have ht : (l.take off).length = off := by rw [List.length_take]; omega
 by_cases h1 : i < off
 · rw [if_neg (by omega),List.append_assoc,List.getElem?_append_left (by omega),List.getElem?_take,if_pos h1]
 ·
  by_cases h2 : i < off + cs.length
  · rw [if_pos ⟨by omega,h2⟩,List.append_assoc,List.getElem?_append_right (by omega),List.getElem?_append_left (by omega),ht]
  ·
   rw [if_neg (by omega),List.getElem?_append_right (by simp; omega),List.getElem?_drop]
   congr 1
   simp only [List.length_append,ht]
   omega
theorem fold_lay (off : Nat) : ∀ (vs : List Value) (k : Nat) (cells : Array Value),off + k + vs.length ≤ cells.size → ((vs.zipIdx k).foldl (fun cs (c,j) => cs.setIfInBounds (off + j) c) cells) = (lay cells.toList (off + k) vs).toArray
 | [],k,cells,h => by simp [lay]
 | v :: vs,k,cells,h => by
  simp only [List.length_cons] at h
  simp only [List.zipIdx_cons,List.foldl_cons]
  rw [fold_lay off vs (k + 1) _ (by simp; omega)]
  apply Array.ext'
  simp only
  apply List.ext_getElem?
  intro i
  rw [lay_get (by simp; omega),lay_get (by simp; omega)]
  simp only [Array.toList_setIfInBounds,List.getElem?_set,List.length_cons,Array.length_toList]
  by_cases h1 : off + (k + 1) ≤ i ∧ i < off + (k + 1) + vs.length
  ·
   rw [if_pos h1,if_pos (by omega)]
   obtain ⟨d,hd⟩ : ∃ d,i - (off + k) = d + 1 := ⟨i - (off + k) - 1,by omega⟩
   rw [hd,List.getElem?_cons_succ]
   congr 1
   omega
  ·
   rw [if_neg h1]
   by_cases h2 : off + k = i
   ·
    subst h2
    rw [if_pos rfl,if_pos (by omega),if_pos (by omega)]
    simp
   · rw [if_neg h2,if_neg (by omega)]

def afill (place : Nat → Option (Nat × Nat)) (cells : List Cell) : List (Nat × AV) → Option (List Cell)
 | [] => some cells
 | (i,x) :: rest =>
  match place i with
  | none => none
  | some (off,size) => if x.okCells = true ∧ x.cells.length = size ∧ off + size ≤ cells.length then afill place (lay cells off x.cells) rest else none

section
variable {P : Program} {w0 : Bas} {N : Nat} {ρ : Place} {φ : Foot} {f : Nat → AV} {m : Nm → Option AObj} {a : Act} {w w' : World} {o : Oper}

theorem cvs_lay {S : Nat → Prop} {l cs : List Cell} {vs us : List Value} {off : Nat} (h : CVs ρ S w l vs) (h' : CVs ρ S w cs us) (hl : off + cs.length ≤ l.length) : CVs ρ S w (lay l off cs) (lay vs off us) := by
 have hl' : off + us.length ≤ vs.length := by rw [h.1,h'.1]; exact hl
 refine ⟨by rw [lay_length hl,lay_length hl',h.1],fun i c v hc hv => ?_⟩
 rw [lay_get hl] at hc
 rw [lay_get hl',h'.1] at hv
 split at hc
 ·
  rename_i hi
  rw [if_pos hi] at hv
  exact h'.2 _ _ _ hc hv
 ·
  rename_i hi
  rw [if_neg hi] at hv
  exact h.2 _ _ _ hc hv
theorem fill_ok {S : Nat → Prop} (place : Nat → Option (Nat × Nat)) : ∀ (ps : List (Nat × AV)) (us : List (Nat × Value)) (l l' : List Cell) (cur : List Value),ps.length = us.length →
  (∀ (k : Nat) (p : Nat × AV) (u : Nat × Value),ps[k]? = some p → us[k]? = some u → p.1 = u.1 ∧ AVR ρ S w p.2 u.2) → CVs ρ S w l cur → afill place l ps = some l' →
  ∃ cur',Instr.fill place cur.toArray us = some cur' ∧ CVs ρ S w l' cur'.toList
 | [],us,l,l',cur,hlen,_,hc,h => by
  have : us = [] := List.eq_nil_of_length_eq_zero (by simpa using hlen.symm)
  subst this
  simp only [afill,Option.some.injEq] at h
  subst h
  exact ⟨cur.toArray,rfl,by simpa using hc⟩
 | (i,x) :: ps,us,l,l',cur,hlen,hr,hc,h => by
  match us,hlen with
  | (j,u) :: us,hlen =>
   obtain ⟨e,hx⟩ := hr 0 (i,x) (j,u) rfl rfl
   simp only at e hx
   subst e
   simp only [afill] at h
   cases hp : place i with
   | none => rw [hp] at h; cases h
   | some os =>
    obtain ⟨off,size⟩ := os
    rw [hp] at h
    simp only at h
    split at h
    ·
     rename_i hok
     obtain ⟨h1,h2,h3⟩ := hok
     have hcs := av_cells hx h1
     have hsz : u.cells.size = size := by rw [← Array.length_toList,hcs.1,h2]
     have hlay := cvs_lay hc hcs (by rw [h2]; exact h3)
     obtain ⟨cur',hf,hcv⟩ := fill_ok place ps us _ l' _ (by simpa using hlen) (fun k p q hp hq => hr (k + 1) p q (by simpa using hp) (by simpa using hq)) hlay h
     refine ⟨cur',?_,hcv⟩
     simp only [Instr.fill,hp]
     have hle : off + u.cells.size ≤ cur.length := by rw [hsz,hc.1]; exact h3
     rw [if_neg (by simp [hsz]; omega)]
     have hfold := fold_lay off u.cells.toList 0 cur.toArray (by simp; omega)
     simp only [Nat.add_zero] at hfold
     rw [show (u.cells.zipIdx.foldl (fun cs (x : Value × Nat) => cs.setIfInBounds (off + x.2) x.1) cur.toArray) = (lay cur off u.cells.toList).toArray from ?_]
     · exact hf
     ·
      rw [← Array.foldl_toList,Array.toList_zipIdx]
      exact hfold
    · cases h

def partsAV (ev : Operand → AV) (ps : Array (Nat × Operand)) : List (Nat × AV) := ps.toList.map fun p => (p.1,ev p.2)
theorem parts_rel (h : StR w0 N ρ φ f m a w) (ps : Array (Nat × Operand)) : ∀ (k : Nat) (p : Nat × AV) (u : Nat × Value),(partsAV (aeval N f) ps)[k]? = some p → ((ps.map fun (i,x) => (i,a.eval x)).toList)[k]? = some u → p.1 = u.1 ∧ AVR ρ (Sof w0 φ m w) w p.2 u.2 := by
 intro k p u hp hu
 simp only [partsAV,List.getElem?_map,Array.toList_map,Option.map_eq_some_iff] at hp hu
 obtain ⟨q,hq,rfl⟩ := hp
 obtain ⟨q',hq',rfl⟩ := hu
 rw [hq] at hq'
 injection hq' with hq'
 subst hq'
 exact ⟨rfl,aeval_ok h q.2⟩
theorem tBuilt_ok {t : TypeId} {pl : List (Nat × Nat)} {zs : List Value} (h : tBuilt P t = some (pl,zs)) {us : List (Nat × Value)} {cells : Array Value} (hf : Instr.fill (pl[·]?) zs.toArray us = some cells) : P.built t us = some cells := by
 unfold tBuilt at h
 split at h
 ·
  rename_i it fields h1 h2
  split at h
  ·
   rename_i z places h3 h4
   injection h with h
   injection h with e1 e2
   subst e1 e2
   simp only [Program.built,h1,h2,h3,h4]
   simpa using hf
  · cases h
 ·
  rename_i it n e h1 h2
  split at h
  ·
   rename_i z ie h3 h4
   injection h with h
   injection h with e1 e2
   subst e1 e2
   simp only [Program.built,h1,h2,h3,h4]
   have mono : ∀ (us : List (Nat × Value)) (cs cells : Array Value),Instr.fill (((List.range n).map fun i => (i * ie.size,ie.size))[·]?) cs us = some cells → Instr.fill (fun i => some (i * ie.size,ie.size)) cs us = some cells := by
    intro us
    induction us with
    | nil => intro cs cells h; exact h
    | cons p us ih =>
     intro cs cells h
     obtain ⟨i,v⟩ := p
     simp only [Instr.fill] at h ⊢
     by_cases hi : i < n
     ·
      rw [List.getElem?_map,List.getElem?_range hi] at h
      simp only [Option.map_some] at h
      split at h
      · cases h
      ·
       rename_i hne
       rw [if_neg hne]
       exact ih _ _ h
     ·
      rw [List.getElem?_eq_none (by simp; omega)] at h
      cases h
   exact mono us _ _ (by simpa using hf)
  · cases h
 · cases h
theorem so_build (h : StR w0 N ρ φ f m a w) (t : TypeId) (ps : Array (Nat × Operand)) (pl : List (Nat × Nat)) (zs : List Value) (l : List Cell) (ho : o.op = .build t ps) (ht : tBuilt P t = some (pl,zs)) (hk : zs.all zok = true)
  (hl : afill (pl[·]?) (zs.map ofVal) (partsAV (aeval N f) ps) = some l) : Does P w0 N f m o a w (.agg l) [] := by
 have hz : CVs ρ (Sof w0 φ m w) w (zs.map ofVal) zs := ⟨by simp,fun i c v hc hv => by
  simp only [List.getElem?_map,Option.map_eq_some_iff] at hc
  obtain ⟨v',hv',rfl⟩ := hc
  rw [hv] at hv'
  injection hv' with hv'
  subst hv'
  exact ⟨ofVal_cv v,zok_one (List.all_eq_true.1 hk v (List.mem_of_getElem? hv))⟩⟩
 obtain ⟨cur',hf,hcv⟩ := fill_ok (pl[·]?) (partsAV (aeval N f) ps) (ps.map fun (i,x) => (i,a.eval x)).toList _ l zs (by simp [partsAV]) (parts_rel h ps) hz hl
 have hb := tBuilt_ok ht hf
 exact does_pure h (u := .agg cur') (by simp only [execOp,ho,Sem.run_bind,run_build w t _ cur' hb]; rfl) ⟨cur'.toList,by simp,hcv⟩
end
section
variable {P : Program} {w0 : Bas} {N : Nat} {ρ : Place} {φ : Foot} {f : Nat → AV} {m : Nm → Option AObj} {a : Act} {w w' : World} {o : Oper}

theorem run_storeAt {t : TypeId} {n b p : Nat} {v : Value} {cur : Array Value} {ty : TypeId} (hs : (P.info? t).map (·.size) = some n) (hn : v.cells.size = n) (hb : w.heap[b]? = some (.cells cur ty (0,0))) (hp : p + n ≤ cur.size) (h1 : ∀ u ∈ v.cells.toList,u.oneCell' = true) :
  (Instr.storeAt t (.pointer (some ⟨b,p,none⟩)) v).run P w = .ok () (w.setRow b (lay cur.toList p v.cells.toList).toArray) := by
 cases hi : P.info? t with
 | none => rw [hi] at hs; cases hs
 | some i =>
  rw [hi] at hs
  simp only [Option.map_some,Option.some.injEq] at hs
  have hst := run_storeCells_at (P := P) b p ty v.cells.toList 0 cur w hb (by simp; omega) h1
  simp only [Nat.add_zero,Array.length_toList] at hst
  simp only [Instr.storeAt,Instr.sureAddr,storeVar,Sem.run_bind,Sem.run_pure,Result.andThen_ok,sizeOf,typeInfo]
  simp [hi,hn,hs,lay] at hst ⊢
  exact hst

def nCells (P : Program) (t : TypeId) : Option Nat := (P.info? t).map (·.size)
theorem so_storeBox (h : StR w0 N ρ φ f m a w) (t : TypeId) (x y : Operand) (id : Nm) (off n : Nat) (ty : TypeId) (l : List Cell) (v : AV) (ho : o.op = .store t x y) (hx : aeval N f x = .one (.ptr id off)) (hy : aeval N f y = v)
  (hs : nCells P t = some n) (hm : m id = some (.box ty l)) (hk : v.okCells = true) (hn : v.cells.length = n) (hp : off + n ≤ l.length) : Does P w0 N f m o a w (.one .any) [(id,some (.box ty (lay l off v.cells)))] := by
 have h1 := aeval_ok h x
 rw [hx] at h1
 obtain ⟨b,cp,hr,e⟩ := h1
 have h2 := aeval_ok h y
 rw [hy] at h2
 have hc := av_cells h2 hk
 obtain ⟨b',cur,hr',hfb,hh,hcv⟩ := h.objs id _ hm
 rw [hr] at hr'
 injection hr' with hr'
 injection hr' with e1 e2
 subst e1
 have hsz : (a.eval y).cells.size = n := by rw [← Array.length_toList,hc.1,hn]
 have hcs : cur.size = l.length := by rw [← Array.length_toList,hcv.1]
 have hrun := run_storeAt (P := P) (w := w) (v := a.eval y) hs hsz hh (by rw [hcs]; exact hp) (fun u hu => by
  obtain ⟨i,hi⟩ := List.mem_iff_getElem?.1 hu
  have hlt : i < v.cells.length := by rw [← hc.1]; exact (List.getElem?_eq_some_iff.1 hi).1
  exact (hc.2 i _ u (List.getElem?_eq_getElem hlt) hi).2)
 have hg := Mv.setRow w b (lay cur.toList off (a.eval y).cells.toList).toArray
 have hblk := setRow_heap w b cur (lay cur.toList off (a.eval y).cells.toList).toArray ty (0,0) hh
 have hS : ∀ p : Addr,Sof w0 φ m w p.block → (w.setRow b (lay cur.toList off (a.eval y).cells.toList).toArray).cell? p = w.cell? p := fun p hp => World.cell?_of_block (hg.block p.block hp.1 fun e => hp.2.1 id _ hm (by rw [e]; exact hfb))
 have hst := (h.write id (.box ty l) (.box ty (lay l off v.cells)) hm (hg.mono fun x hx => by rw [hx]; exact hfb) ⟨b,_,by rw [hr,e2],hfb,hblk,by
  have := (cvs_lay hcv hc (by rw [hn]; exact hp)).next (ρ' := ρ) (S' := Sof w0 φ m w) (w' := w.setRow b (lay cur.toList off (a.eval y).cells.toList).toArray) hS (fun _ hb => hb) (fun _ _ => rfl)
  simpa using this⟩).1
 exact fun K Q hK => wp_of_skip (w' := w.setRow b (lay cur.toList off (a.eval y).cells.toList).toArray) (by simp only [execOp,ho,e,Sem.run_bind,hrun]; rfl) (hK _ _ ⟨ρ,φ,hst.put o.dst trivial⟩)

theorem lay_at {α : Type} (l cs : List α) (off k : Nat) (hp : off + cs.length ≤ l.length) : (lay l off cs)[k]? = if k < off then l[k]? else if k < off + cs.length then cs[k - off]? else l[k]? := by
 rw [lay_get hp]
 by_cases h1 : k < off
 · rw [if_neg (by omega),if_pos h1]
 ·
  by_cases h2 : k < off + cs.length
  · rw [if_pos ⟨by omega,h2⟩,if_neg h1,if_pos h2]
  · rw [if_neg (by omega),if_neg h1,if_neg h2]
theorem RowR.laid {S : Nat → Prop} {K : Nat → Prop} {ty sz b base cap : Nat} {l : List (List Cell)} (h : RowR ρ S w K ty sz l b base cap) {i j : Nat} {r cs : List Cell} {us : List Value} (hi : l[i]? = some r) (hp : j + cs.length ≤ r.length) (hc : CVs ρ S w cs us) (hnt : ∀ d ∈ cs,∀ T c,d ≠ .tr T c)
  (hS : ∀ p : Addr,S p.block → p.block ≠ b) : ∃ cur : Array Value,w.heap[b]? = some (.cells cur ty (0,0)) ∧ base + i * sz + j + us.length ≤ cur.size ∧ K b ∧ RowR ρ S (w.setRow b (lay cur.toList (base + i * sz + j) us).toArray) K ty sz (l.set i (lay r j cs)) b base cap := by
 obtain ⟨cur,G,hfb,hh,hlc,hcs,hcell,hG,hd⟩ := h
 have hil : i < l.length := (List.getElem?_eq_some_iff.1 hi).1
 have hrl := (hcell i r hi).1
 have hcl : us.length = cs.length := hc.1
 have hle : (i + 1) * sz ≤ cap * sz := Nat.mul_le_mul_right _ (by omega)
 rw [Nat.add_mul,Nat.one_mul] at hle
 have hfit : base + i * sz + j + us.length ≤ cur.size := by omega
 have hg := Mv.setRow w b (lay cur.toList (base + i * sz + j) us).toArray
 have hblk := setRow_heap w b cur (lay cur.toList (base + i * sz + j) us).toArray ty (0,0) hh
 have hk : ∀ p : Addr,S p.block → (w.setRow b (lay cur.toList (base + i * sz + j) us).toArray).cell? p = w.cell? p := fun p hp => World.cell?_of_block (setRow_other w b p.block _ (hS p hp))
 have hb : ∀ i1 j1 x,G i1 j1 x → (w.setRow b (lay cur.toList (base + i * sz + j) us).toArray).heap[x]? = w.heap[x]? := fun i1 j1 x hx => setRow_other w b x _ (hG i1 j1 x hx).2
 have hlg := fun k => lay_at cur.toList us (base + i * sz + j) k (by rw [Array.length_toList]; exact hfit)
 refine ⟨cur,hh,hfit,hfb,_,G,hfb,hblk,by simpa using hlc,by simpa [lay_length (l := cur.toList) (cs := us) (off := base + i * sz + j) (by rw [Array.length_toList]; exact hfit)] using hcs,fun i' r' hi' => ?_,hG,hd⟩
 have old : ∀ (i' j' : Nat) (d : Cell) (r0 : List Cell),l[i']? = some r0 → r0[j']? = some d → cur[base + i' * sz + j']? = (lay cur.toList (base + i * sz + j) us)[base + i' * sz + j']? → ∃ v,(lay cur.toList (base + i * sz + j) us).toArray[base + i' * sz + j']? = some v ∧ RC ρ S (w.setRow b (lay cur.toList (base + i * sz + j) us).toArray) (G i' j') d v := fun i' j' d r0 hr0 hd he => by
  obtain ⟨u,hu,hrc⟩ := (hcell i' r0 hr0).2 j' d hd
  exact ⟨u,by simpa [← he] using hu,hrc.next hk (fun _ hb => hb) (fun _ _ => rfl) (hb i' j') fun _ hx => hx⟩
 rw [List.getElem?_set] at hi'
 by_cases ei : i = i'
 ·
  subst ei
  rw [if_pos rfl,if_pos hil] at hi'
  injection hi' with hi'
  subst hi'
  refine ⟨by rw [lay_length hp]; exact hrl,fun j' d hd => ?_⟩
  rw [lay_at _ _ _ _ hp] at hd
  have hlk := hlg (base + i * sz + j')
  by_cases h3 : j' < j
  ·
   rw [if_pos h3] at hd
   exact old i j' d r hi hd (by rw [hlk,if_pos (by omega)]; simp)
  ·
   rw [if_neg h3] at hd
   by_cases h4 : j' < j + cs.length
   ·
    rw [if_pos h4] at hd
    rw [if_neg (by omega),hcl,if_pos (by omega)] at hlk
    have hidx : base + i * sz + j' - (base + i * sz + j) = j' - j := by omega
    rw [hidx] at hlk
    have hlt : j' - j < us.length := by rw [hcl]; omega
    have hu := List.getElem?_eq_getElem hlt
    obtain ⟨hv,ho⟩ := hc.2 (j' - j) d _ hd hu
    exact ⟨_,by rw [List.getElem?_toArray,hlk,hu],ho,CV.next hv hk (fun _ hb => hb) (fun _ _ => rfl),fun T c e => absurd e (hnt d (List.mem_of_getElem? hd) T c)⟩
   ·
    rw [if_neg h4] at hd
    exact old i j' d r hi hd (by rw [hlk,if_neg (by omega),hcl,if_neg (by omega)]; simp)
 ·
  rw [if_neg ei] at hi'
  obtain ⟨hl1,hg1⟩ := hcell i' r' hi'
  refine ⟨hl1,fun j' d hd => ?_⟩
  have hj' : j' < sz := by rw [← hl1]; exact (List.getElem?_eq_some_iff.1 hd).1
  refine old i' j' d r' hi' hd ?_
  rw [hlg]
  rcases Nat.lt_or_gt_of_ne ei with h5 | h5
  ·
   have : (i + 1) * sz ≤ i' * sz := Nat.mul_le_mul_right _ h5
   rw [Nat.add_mul,Nat.one_mul] at this
   rw [if_neg (by omega),hcl,if_neg (by omega)]
   simp
  ·
   have : (i' + 1) * sz ≤ i * sz := Nat.mul_le_mul_right _ h5
   rw [Nat.add_mul,Nat.one_mul] at this
   rw [if_pos (by omega)]
   simp
theorem so_storeRow (h : StR w0 N ρ φ f m a w) (t : TypeId) (x y : Operand) (id : Nm) (sz i j n : Nat) (ty : TypeId) (l : List (List Cell)) (r : List Cell) (v : AV) (ho : o.op = .store t x y) (hx : aeval N f x = .one (.eptr id sz i j)) (hy : aeval N f y = v)
  (hs : nCells P t = some n) (hm : m id = some (.row ty sz l)) (hk : v.okCells = true) (hn : v.cells.length = n) (hi : l[i]? = some r) (hp : j + n ≤ r.length) : Does P w0 N f m o a w (.one .any) [(id,some (.row ty sz (l.set i (lay r j v.cells))))] := by
 have h1 := aeval_ok h x
 rw [hx] at h1
 obtain ⟨b,base,cp,hr,e⟩ := h1
 have h2 := aeval_ok h y
 rw [hy] at h2
 have hc := av_cells h2 hk
 have hrow := h.objs id _ hm
 rcases hrow.2 with ⟨hr',_⟩ | ⟨b',base',cp',hr',hrr⟩
 · rw [hr] at hr'; cases hr'
 rw [hr] at hr'
 injection hr' with hr'
 injection hr' with e1 e2
 injection e2 with e2 e3
 subst e1 e2 e3
 obtain ⟨cur,hh,hfit,hfb,hnew⟩ := hrr.laid hi (by rw [hn]; exact hp) hc (okCells_ntr hk) fun p hp e => hp.2.1 id _ hm (by rw [e]; exact hrr.elim fun _ h => h.elim fun _ h => h.1)
 have hcl : (a.eval y).cells.toList.length = n := by rw [hc.1,hn]
 have hrun := run_storeAt (P := P) (w := w) (v := a.eval y) hs (by rw [← hcl,Array.length_toList]) hh (by rw [← hcl]; exact hfit) (fun u hu => by
  obtain ⟨k,hk⟩ := List.mem_iff_getElem?.1 hu
  have hlt : k < v.cells.length := by rw [← hc.1]; exact (List.getElem?_eq_some_iff.1 hk).1
  exact (hc.2 k _ u (List.getElem?_eq_getElem hlt) hk).2)
 have hst := (h.write id (.row ty sz l) (.row ty sz (l.set i (lay r j v.cells))) hm ((Mv.setRow w b _).mono fun x hx => by rw [hx]; exact hfb) ⟨by simpa using hrow.1,.inr ⟨b,base,cp,hr,hnew⟩⟩).1
 exact fun K Q hK => wp_of_skip (by simp only [execOp,ho,e,Sem.run_bind,hrun]; rfl) (hK _ _ ⟨ρ,φ,hst.put o.dst trivial⟩)

def mapO {α β : Type} (g : α → Option β) : List α → Option (List β)
 | [] => some []
 | x :: xs => match g x,mapO g xs with
  | some y,some ys => some (y :: ys)
  | _,_ => none
theorem mapO_get {α β : Type} {g : α → Option β} : ∀ {xs : List α} {ys : List β},mapO g xs = some ys → ys.length = xs.length ∧ ∀ (i : Nat) (y : β),ys[i]? = some y → ∃ x,xs[i]? = some x ∧ g x = some y
 | [],ys,h => by simp only [mapO,Option.some.injEq] at h; subst h; simp
 | x :: xs,ys,h => by
  simp only [mapO] at h
  split at h
  ·
   rename_i y ys' h1 h2
   injection h with h
   subst h
   obtain ⟨hl,hg⟩ := mapO_get h2
   refine ⟨by simp [hl],fun i c' hi => ?_⟩
   cases i with
   | zero => simp at hi; subst hi; exact ⟨x,rfl,h1⟩
   | succ i => simpa using hg i c' (by simpa using hi)
  · cases h
end
end Go.Proofs.Ytabbejabdkkaiaa
