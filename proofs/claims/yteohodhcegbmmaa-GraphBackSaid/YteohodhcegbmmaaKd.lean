/- Operations that make memory: new boxes, literals; parts laid over cells. No condition. -/
import Derived.Test.YteohodhcegbmmaaKc
set_option linter.unusedSimpArgs false
set_option linter.unusedVariables false
namespace Go.Proofs.Yteohodhcegbmmaa
open Go.RowKit

/-- A name that is nowhere in sight. -/
structure Fresh (f : Nat → AV) (m : Nm → Option AObj) (fr : Nm) : Prop where
  hf : ∀ t, fr ∉ (f t).ids
  hm : ∀ (i : Nm) (o : AObj), m i = some o → fr ∉ o.ids
  hn : m fr = none
  h0 : fr.1 ≠ 0

/-- The places, one name more; the blocks of one object more. -/
def pset (ρ : Place) (fr : Nm) (pl : Option (Nat × Nat × Nat)) : Place := fun i => if i = fr then pl else ρ i
def fset (φ : Foot) (fr : Nm) (F : Nat → Prop) : Foot := fun i => if i = fr then F else φ i

section
variable {P : Program} {w0 : Bas} {N : Nat} {ρ : Place} {φ : Foot} {f : Nat → AV} {m : Nm → Option AObj} {a : Act} {w w' : World} {o : Oper}

/-- An own object goes, a new one comes: in its blocks, or in new ones. -/
theorem StR.turn (h : StR w0 N ρ φ f m a w) (id fr : Nm) (pl : Option (Nat × Nat × Nat)) (F : Nat → Prop) (ob : AObj) (hfr : Fresh f m fr)
    (hw : Mv (fun b => ∃ o, m id = some o ∧ φ id b) w w') (hF : ∀ b, F b → (w.heap.size ≤ b ∧ b < w'.heap.size) ∨ ∃ o, m id = some o ∧ φ id b)
    (ho : OR (pset ρ fr pl) (fset φ fr F) (Sof w0 φ m w) w' fr ob) :
    StR w0 N (pset ρ fr pl) (fset φ fr F) f (mset (mset m id none) fr (some ob)) a w' ∧ (∀ b, Sof w0 φ m w b → Sof w0 (fset φ fr F) (mset (mset m id none) fr (some ob)) w' b) := by
  have only : ∀ i o', (i = id ∨ i = fr) → mset (mset m id none) fr (some ob) i = some o' → i = fr ∧ o' = ob := fun i o' hi hm => by
    simp only [mset] at hm
    by_cases e : i = fr
    · rw [if_pos e] at hm
      injection hm with hm
      exact ⟨e, hm.symm⟩
    · rw [if_neg e, if_pos (hi.resolve_right e)] at hm
      cases hm
  refine h.step (fun i => i = id ∨ i = fr) (hw.mono fun b ⟨o', h1, h2⟩ => ⟨id, o', .inl rfl, h1, h2⟩) (fun i o' hi hm => ?_) (fun i o' hi _ b => ?_) (fun i o' hi hm => ?_) (fun t i hi => if_neg fun (e : i = fr) => hfr.hf t (e ▸ hi)) (fun i o' b hi hm hf => ?_) (fun i i' o1 o2 b hi hi' hm hm' _ _ => ?_) (fun i o' hi h0 hm => ?_) (fun hS i o' hi hm => ?_)
  · simp only [mset, if_neg (fun e => hi (.inr e)), if_neg (fun e => hi (.inl e))] at hm
    exact hm
  · simp only [fset, if_neg (fun e => hi (.inr e))]
  · simp only [mset, if_neg (fun e => hi (.inr e)), if_neg (fun e => hi (.inl e))] at hm
    exact ⟨if_neg (fun e => hi (.inr e)), fun j hj => if_neg fun (e : j = fr) => hfr.hm i o' hm (e ▸ hj)⟩
  · obtain ⟨rfl, rfl⟩ := only i o' hi hm
    simp only [fset, if_true] at hf
    rcases hF b hf with h1 | ⟨o', h1, h2⟩
    · exact .inl h1
    · exact .inr ⟨id, o', .inl rfl, h1, h2⟩
  · rw [(only i o1 hi hm).1, (only i' o2 hi' hm').1]
  · obtain ⟨rfl, rfl⟩ := only i o' hi hm
    exact absurd h0 hfr.h0
  · obtain ⟨rfl, rfl⟩ := only i o' hi hm
    exact ho.next (fun _ _ => rfl) hS (fun _ _ => rfl) rfl (fun _ _ => rfl) fun _ hb => hb
/-- A new own object in a new block. -/
theorem StR.new (h : StR w0 N ρ φ f m a w) (fr : Nm) (cap : Nat) (cs : Array Value) (ty : TypeId) (ob : AObj) (hfr : Fresh f m fr)
    (ho : OR (pset ρ fr (some (w.heap.size, 0, cap))) (fset φ fr (· = w.heap.size)) (Sof w0 φ m w) (w.alloc (.cells cs ty)) fr ob) :
    StR w0 N (pset ρ fr (some (w.heap.size, 0, cap))) (fset φ fr (· = w.heap.size)) f (mset m fr (some ob)) a (w.alloc (.cells cs ty)) := by
  have := (h.turn fr fr (some (w.heap.size, 0, cap)) (· = w.heap.size) ob hfr ((Mv.alloc w _).mono fun _ h => h.elim) (fun b e => .inl (by rw [e]; simp)) ho).1
  have e : mset (mset m fr none) fr (some ob) = mset m fr (some ob) := by
    funext i
    simp only [mset]
    split <;> rfl
  rwa [e] at this
/-- An own object is written; it stays where it is. -/
theorem StR.write (h : StR w0 N ρ φ f m a w) (id : Nm) (o0 ob : AObj) (hid : m id = some o0) (hw : Mv (φ id) w w') (ho : OR ρ φ (Sof w0 φ m w) w' id ob) :
    StR w0 N ρ φ f (mset m id (some ob)) a w' ∧ (∀ b, Sof w0 φ m w b → Sof w0 φ (mset m id (some ob)) w' b) := by
  refine h.step (fun i => i = id) (hw.mono fun b hb => ⟨id, o0, rfl, hid, hb⟩) (fun i o' hi hm => ?_) (fun i o' hi _ b => Iff.rfl) (fun i o' hi hm => ⟨rfl, fun _ _ => rfl⟩) (fun _ _ _ => rfl) (fun i o' b hi hm hf => .inr ⟨id, o0, rfl, hid, hi ▸ hf⟩) (fun i i' _ _ _ hi hi' _ _ _ _ => by rw [hi, hi']) (fun i o' hi h0 hm => ⟨o0, by rw [hi]; exact hid, rfl⟩) (fun hS i o' hi hm => ?_)
  · simp only [mset, if_neg hi] at hm
    exact hm
  · subst hi
    simp only [mset, if_true] at hm
    injection hm with hm
    subst hm
    exact ho.next (fun _ _ => rfl) hS (fun _ _ => rfl) rfl (fun _ _ => rfl) fun _ hb => hb

def Cell.ntr : Cell → Bool
  | .tr _ _ => false
  | _ => true
def AV.okCells : AV → Bool
  | .one c => c.known
  | .agg l => l.all Cell.ntr
  | .tup _ => false
theorem okCells_ntr {v : AV} (h : v.okCells = true) : ∀ d ∈ v.cells, ∀ T c, d ≠ .tr T c := by
  intro d hd T c e
  subst e
  cases v with
  | one c' => simp [AV.cells] at hd; subst hd; cases h
  | agg l => have := List.all_eq_true.1 h _ hd; cases this
  | tup l => cases h
theorem cv_one {S : Nat → Prop} {c : Cell} {v : Value} (h : CV ρ S w c v) (hk : c.known = true) : v.oneCell' = true := by
  cases c with
  | d c => exact View.one h
  | tr T c => cases hk
  | ptr id off => obtain ⟨b, c, _, rfl⟩ := h; rfl
  | eptr id sz i j => obtain ⟨b, x, c, _, rfl⟩ := h; rfl
  | own id n =>
    rcases h with ⟨b, x, c, _, rfl⟩ | ⟨_, _, A, rfl⟩ <;> rfl
  | sub id sz off n =>
    rcases h with ⟨b, x, c, A, _, _, rfl, _⟩ | ⟨_, _, _, A, rfl⟩ <;> rfl
  | fnp g caps => obtain ⟨vs, rfl, _⟩ := h; rfl
  | mp id => obtain ⟨b, q, _, rfl⟩ := h; rfl
  | bb e n => obtain ⟨b, rfl, _⟩ := h; rfl
  | nil => rw [show v = .slice none 0 0 from h]; rfl
  | any => cases hk
theorem cells_one {v : Value} (h : v.oneCell' = true) : v.cells = #[v] := by
  cases v <;> first | rfl | cases h
theorem av_cells {S : Nat → Prop} {x : AV} {v : Value} (h : AVR ρ S w x v) (hk : x.okCells = true) : CVs ρ S w x.cells v.cells.toList := by
  cases x with
  | one c =>
    have h1 := cv_one (ρ := ρ) (show CV ρ S w c v from h) hk
    rw [cells_one h1]
    refine ⟨rfl, fun i c' v' hc hv => ?_⟩
    cases i with
    | zero => simp [AV.cells] at hc hv; subst hc hv; exact ⟨h, h1⟩
    | succ i => simp at hv
  | agg l =>
    obtain ⟨vs, rfl, hc⟩ := h
    simpa [Value.cells, AV.cells] using hc
  | tup l => cases hk

theorem so_alloc (h : StR w0 N ρ φ f m a w) (t : TypeId) (fr : Nm) (zs : List Value) (ho : o.op = .alloc t) (ht : tZero P t = some zs) (hk : (zs.map ofVal).all Cell.known = true) (hfr : Fresh f m fr) :
    Does P w0 N f m o a w (.one (.ptr fr 0)) [(fr, some (.box t (zs.map ofVal)))] := by
  unfold tZero at ht
  cases hi : P.info? t with
  | none => rw [hi] at ht; cases ht
  | some i =>
    rw [hi] at ht
    simp only [Option.bind_some] at ht
    cases hz : i.zero with
    | none => rw [hz] at ht; cases ht
    | some z =>
      rw [hz] at ht
      simp only [Option.map_some, Option.some.injEq] at ht
      subst ht
      have h1 := h.new fr 0 z.cells t (.box t (z.cells.toList.map ofVal)) hfr ⟨w.heap.size, z.cells, if_pos rfl, (congrFun (if_pos rfl) _).mpr rfl, heap_alloc_new w _, by simp, fun i c v hc hv => by
        simp only [List.getElem?_map, Option.map_eq_some_iff] at hc
        obtain ⟨v', hv', rfl⟩ := hc
        rw [hv] at hv'
        injection hv' with hv'
        subst hv'
        refine ⟨ofVal_cv v, ofVal_one ?_⟩
        exact List.all_eq_true.1 hk _ (List.mem_map.2 ⟨v, List.mem_of_getElem? hv, rfl⟩)⟩
      exact fun K Q hK => wp_of_run (v := .pointer (some ⟨w.heap.size, 0, none⟩)) (w' := w.alloc (.cells z.cells t))
        (by simp only [execOp, ho, Instr.alloc, Sem.run_bind, zeroValue, typeInfo]; simp [hi, hz, newVar, newRow, newObj, Sem.run])
        (hK _ _ ⟨_, _, h1.put o.dst ⟨w.heap.size, _, if_pos rfl, rfl⟩⟩)
theorem so_box (h : StR w0 N ρ φ f m a w) (t : TypeId) (x : Operand) (fr : Nm) (v : AV) (ho : o.op = .box t x) (hx : aeval N f x = v) (hk : v.okCells = true) (hfr : Fresh f m fr) :
    Does P w0 N f m o a w (.one (.ptr fr 0)) [(fr, some (.box t v.cells))] := by
  have hv := aeval_ok h x
  rw [hx] at hv
  have hc := av_cells hv hk
  have h1 := h.new fr 0 (a.eval x).cells t (.box t v.cells) hfr ⟨w.heap.size, _, if_pos rfl, (congrFun (if_pos rfl) _).mpr rfl, heap_alloc_new w _, hc.next (fun p hp => World.cell?_alloc_lt w _ p hp.1) (fun _ hb => hb) fun id hid => if_neg fun (e : id = fr) => ?_⟩
  · exact fun K Q hK => wp_of_run (v := .pointer (some ⟨w.heap.size, 0, none⟩)) (w' := w.alloc (.cells (a.eval x).cells t))
      (by simp only [execOp, ho, Instr.box, Sem.run_bind]; simp [newVar, newRow, newObj, Sem.run])
      (hK _ _ ⟨_, _, h1.put o.dst ⟨w.heap.size, _, if_pos rfl, rfl⟩⟩)
  · subst e
    have hids : id ∈ v.ids := by
      cases v with
      | one c => simpa [AV.cells, AV.ids] using hid
      | agg l => exact hid
      | tup l => cases hk
    rw [← hx] at hids
    cases x with
    | tmp t' =>
      simp only [aeval] at hids
      split at hids
      · exact hfr.hf t' hids
      · simp [AV.ids, Cell.ids] at hids
    | const u => simp [aeval, AV.ids, ofVal_ids] at hids
    | global g => simp [aeval, AV.ids, Cell.ids] at hids
    | func g => simp [aeval, AV.ids, Cell.ids] at hids
end
/-- A part laid over cells. -/
def lay {α : Type} (l : List α) (off : Nat) (cs : List α) : List α := l.take off ++ cs ++ l.drop (off + cs.length)
theorem lay_length {α : Type} {l : List α} {off : Nat} {cs : List α} (h : off + cs.length ≤ l.length) : (lay l off cs).length = l.length := by
  simp only [lay, List.length_append, List.length_take, List.length_drop]; omega
theorem lay_get {α : Type} {l : List α} {off : Nat} {cs : List α} (h : off + cs.length ≤ l.length) (i : Nat) : (lay l off cs)[i]? = if off ≤ i ∧ i < off + cs.length then cs[i - off]? else l[i]? := by
  unfold lay
  have ht : (l.take off).length = off := by rw [List.length_take]; omega
  by_cases h1 : i < off
  · rw [if_neg (by omega), List.append_assoc, List.getElem?_append_left (by omega), List.getElem?_take, if_pos h1]
  · by_cases h2 : i < off + cs.length
    · rw [if_pos ⟨by omega, h2⟩, List.append_assoc, List.getElem?_append_right (by omega), List.getElem?_append_left (by omega), ht]
    · rw [if_neg (by omega), List.getElem?_append_right (by simp; omega), List.getElem?_drop]
      congr 1
      simp only [List.length_append, ht]
      omega
theorem fold_lay (off : Nat) : ∀ (vs : List Value) (k : Nat) (cells : Array Value), off + k + vs.length ≤ cells.size → ((vs.zipIdx k).foldl (fun cs (c, j) => cs.setIfInBounds (off + j) c) cells) = (lay cells.toList (off + k) vs).toArray
  | [], k, cells, h => by simp [lay]
  | v :: vs, k, cells, h => by
    simp only [List.length_cons] at h
    simp only [List.zipIdx_cons, List.foldl_cons]
    rw [fold_lay off vs (k + 1) _ (by simp; omega)]
    apply Array.ext'
    simp only
    apply List.ext_getElem?
    intro i
    rw [lay_get (by simp; omega), lay_get (by simp; omega)]
    simp only [Array.toList_setIfInBounds, List.getElem?_set, List.length_cons, Array.length_toList]
    by_cases h1 : off + (k + 1) ≤ i ∧ i < off + (k + 1) + vs.length
    · rw [if_pos h1, if_pos (by omega)]
      obtain ⟨d, hd⟩ : ∃ d, i - (off + k) = d + 1 := ⟨i - (off + k) - 1, by omega⟩
      rw [hd, List.getElem?_cons_succ]
      congr 1
      omega
    · rw [if_neg h1]
      by_cases h2 : off + k = i
      · subst h2
        rw [if_pos rfl, if_pos (by omega), if_pos (by omega)]
        simp
      · rw [if_neg h2, if_neg (by omega)]

def afill (place : Nat → Option (Nat × Nat)) (cells : List Cell) : List (Nat × AV) → Option (List Cell)
  | [] => some cells
  | (i, x) :: rest =>
    match place i with
    | none => none
    | some (off, size) => if x.okCells = true ∧ x.cells.length = size ∧ off + size ≤ cells.length then afill place (lay cells off x.cells) rest else none

section
variable {P : Program} {w0 : Bas} {N : Nat} {ρ : Place} {φ : Foot} {f : Nat → AV} {m : Nm → Option AObj} {a : Act} {w w' : World} {o : Oper}

theorem cvs_lay {S : Nat → Prop} {l cs : List Cell} {vs us : List Value} {off : Nat} (h : CVs ρ S w l vs) (h' : CVs ρ S w cs us) (hl : off + cs.length ≤ l.length) : CVs ρ S w (lay l off cs) (lay vs off us) := by
  have hl' : off + us.length ≤ vs.length := by rw [h.1, h'.1]; exact hl
  refine ⟨by rw [lay_length hl, lay_length hl', h.1], fun i c v hc hv => ?_⟩
  rw [lay_get hl] at hc
  rw [lay_get hl', h'.1] at hv
  split at hc
  · rename_i hi
    rw [if_pos hi] at hv
    exact h'.2 _ _ _ hc hv
  · rename_i hi
    rw [if_neg hi] at hv
    exact h.2 _ _ _ hc hv
theorem fill_ok {S : Nat → Prop} (place : Nat → Option (Nat × Nat)) : ∀ (ps : List (Nat × AV)) (us : List (Nat × Value)) (l l' : List Cell) (cur : List Value), ps.length = us.length →
    (∀ (k : Nat) (p : Nat × AV) (u : Nat × Value), ps[k]? = some p → us[k]? = some u → p.1 = u.1 ∧ AVR ρ S w p.2 u.2) → CVs ρ S w l cur → afill place l ps = some l' →
    ∃ cur', Instr.fill place cur.toArray us = some cur' ∧ CVs ρ S w l' cur'.toList
  | [], us, l, l', cur, hlen, _, hc, h => by
    have : us = [] := List.eq_nil_of_length_eq_zero (by simpa using hlen.symm)
    subst this
    simp only [afill, Option.some.injEq] at h
    subst h
    exact ⟨cur.toArray, rfl, by simpa using hc⟩
  | (i, x) :: ps, us, l, l', cur, hlen, hr, hc, h => by
    match us, hlen with
    | (j, u) :: us, hlen =>
      obtain ⟨e, hx⟩ := hr 0 (i, x) (j, u) rfl rfl
      simp only at e hx
      subst e
      simp only [afill] at h
      cases hp : place i with
      | none => rw [hp] at h; cases h
      | some os =>
        obtain ⟨off, size⟩ := os
        rw [hp] at h
        simp only at h
        split at h
        · rename_i hok
          obtain ⟨h1, h2, h3⟩ := hok
          have hcs := av_cells hx h1
          have hsz : u.cells.size = size := by rw [← Array.length_toList, hcs.1, h2]
          have hlay := cvs_lay hc hcs (by rw [h2]; exact h3)
          obtain ⟨cur', hf, hcv⟩ := fill_ok place ps us _ l' _ (by simpa using hlen) (fun k p q hp hq => hr (k + 1) p q (by simpa using hp) (by simpa using hq)) hlay h
          refine ⟨cur', ?_, hcv⟩
          simp only [Instr.fill, hp]
          have hle : off + u.cells.size ≤ cur.length := by rw [hsz, hc.1]; exact h3
          rw [if_neg (by simp [hsz]; omega)]
          have hfold := fold_lay off u.cells.toList 0 cur.toArray (by simp; omega)
          simp only [Nat.add_zero] at hfold
          rw [show (u.cells.zipIdx.foldl (fun cs (x : Value × Nat) => cs.setIfInBounds (off + x.2) x.1) cur.toArray) = (lay cur off u.cells.toList).toArray from ?_]
          · exact hf
          · rw [← Array.foldl_toList, Array.toList_zipIdx]
            exact hfold
        · cases h

def partsAV (ev : Operand → AV) (ps : Array (Nat × Operand)) : List (Nat × AV) := ps.toList.map fun p => (p.1, ev p.2)
theorem parts_rel (h : StR w0 N ρ φ f m a w) (ps : Array (Nat × Operand)) : ∀ (k : Nat) (p : Nat × AV) (u : Nat × Value), (partsAV (aeval N f) ps)[k]? = some p → ((ps.map fun (i, x) => (i, a.eval x)).toList)[k]? = some u → p.1 = u.1 ∧ AVR ρ (Sof w0 φ m w) w p.2 u.2 := by
  intro k p u hp hu
  simp only [partsAV, List.getElem?_map, Array.toList_map, Option.map_eq_some_iff] at hp hu
  obtain ⟨q, hq, rfl⟩ := hp
  obtain ⟨q', hq', rfl⟩ := hu
  rw [hq] at hq'
  injection hq' with hq'
  subst hq'
  exact ⟨rfl, aeval_ok h q.2⟩
theorem tBuilt_ok {t : TypeId} {pl : List (Nat × Nat)} {zs : List Value} (h : tBuilt P t = some (pl, zs)) {us : List (Nat × Value)} {cells : Array Value} (hf : Instr.fill (pl[·]?) zs.toArray us = some cells) : P.built t us = some cells := by
  unfold tBuilt at h
  split at h
  · rename_i it fields h1 h2
    split at h
    · rename_i z places h3 h4
      injection h with h
      injection h with e1 e2
      subst e1 e2
      simp only [Program.built, h1, h2, h3, h4]
      simpa using hf
    · cases h
  · rename_i it n e h1 h2
    split at h
    · rename_i z ie h3 h4
      injection h with h
      injection h with e1 e2
      subst e1 e2
      simp only [Program.built, h1, h2, h3, h4]
      have mono : ∀ (us : List (Nat × Value)) (cs cells : Array Value), Instr.fill (((List.range n).map fun i => (i * ie.size, ie.size))[·]?) cs us = some cells → Instr.fill (fun i => some (i * ie.size, ie.size)) cs us = some cells := by
        intro us
        induction us with
        | nil => intro cs cells h; exact h
        | cons p us ih =>
          intro cs cells h
          obtain ⟨i, v⟩ := p
          simp only [Instr.fill] at h ⊢
          by_cases hi : i < n
          · rw [List.getElem?_map, List.getElem?_range hi] at h
            simp only [Option.map_some] at h
            split at h
            · cases h
            · rename_i hne
              rw [if_neg hne]
              exact ih _ _ h
          · rw [List.getElem?_eq_none (by simp; omega)] at h
            cases h
      exact mono us _ _ (by simpa using hf)
    · cases h
  · cases h
theorem so_build (h : StR w0 N ρ φ f m a w) (t : TypeId) (ps : Array (Nat × Operand)) (pl : List (Nat × Nat)) (zs : List Value) (l : List Cell) (ho : o.op = .build t ps) (ht : tBuilt P t = some (pl, zs)) (hk : (zs.map ofVal).all Cell.known = true)
    (hl : afill (pl[·]?) (zs.map ofVal) (partsAV (aeval N f) ps) = some l) : Does P w0 N f m o a w (.agg l) [] := by
  have hz : CVs ρ (Sof w0 φ m w) w (zs.map ofVal) zs := ⟨by simp, fun i c v hc hv => by
    simp only [List.getElem?_map, Option.map_eq_some_iff] at hc
    obtain ⟨v', hv', rfl⟩ := hc
    rw [hv] at hv'
    injection hv' with hv'
    subst hv'
    exact ⟨ofVal_cv v, ofVal_one (List.all_eq_true.1 hk _ (List.mem_map.2 ⟨v, List.mem_of_getElem? hv, rfl⟩))⟩⟩
  obtain ⟨cur', hf, hcv⟩ := fill_ok (pl[·]?) (partsAV (aeval N f) ps) (ps.map fun (i, x) => (i, a.eval x)).toList _ l zs (by simp [partsAV]) (parts_rel h ps) hz hl
  have hb := tBuilt_ok ht hf
  exact does_pure h (u := .agg cur') (by simp only [execOp, ho, Sem.run_bind, run_build w t _ cur' hb]; rfl) ⟨cur'.toList, by simp, hcv⟩
end
end Go.Proofs.Yteohodhcegbmmaa
