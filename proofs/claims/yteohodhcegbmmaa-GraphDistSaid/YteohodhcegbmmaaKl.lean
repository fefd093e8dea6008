/- min, max, parts of values, values held against each other, functions as values, clear. No condition. -/
import Derived.Test.YteohodhcegbmmaaKk
import Derived.Laws.StructEq
import Derived.Laws.Cover3
import Derived.ChangeKeysEq
set_option linter.unusedSimpArgs false
set_option linter.unusedVariables false
namespace Go.Proofs.Yteohodhcegbmmaa
open Go.RowKit

section
variable {P : Program} {w0 : Bas} {N : Nat} {ρ ρ' : Place} {φ φ' : Foot} {f : Nat → AV} {m : Nm → Option AObj} {a : Act} {w w' : World} {o : Oper}

def intOfAV (k : IntKind) : AV → Option Int
  | .one (.d (.int k' n)) => if k' = k then some n else none
  | _ => none
def foldI (isMax : Bool) (x : Int) : List Int → Int
  | [] => x
  | y :: r => foldI isMax (if isMax then (if y > x then y else x) else (if y < x then y else x)) r
theorem ints_ok (h : StR w0 N ρ φ f m a w) {k : IntKind} : ∀ {xs : List Operand} {ns : List Int}, mapO (fun x => intOfAV k (aeval N f x)) xs = some ns → xs.map a.eval = ns.map (Value.int k)
  | [], ns, e => by simp only [mapO, Option.some.injEq] at e; subst e; rfl
  | x :: xs, ns, e => by
    simp only [mapO] at e
    split at e
    · rename_i n ns' h1 h2
      injection e with e
      subst e
      have hx : aeval N f x = .one (.d (.int k n)) := by
        unfold intOfAV at h1
        split at h1
        · rename_i k' n' he
          split at h1
          · rename_i hk
            subst hk
            injection h1 with h1
            subst h1
            exact he
          · cases h1
        · cases h1
      simp only [List.map_cons, av_int h hx, ints_ok h h2]
    · cases e
theorem run_min (k : IntKind) : ∀ (ns : List Int) (x : Int), ((ns.map (Value.int k)).foldlM Builtin.min2 (.int k x)).run P w = .ok (.int k (foldI false x ns)) w
  | [], x => by simp [foldI]
  | y :: ns, x => by
    simp only [List.map_cons, List.foldlM_cons, Sem.run_bind, Builtin.min2, Sem.run_pure, Result.andThen_ok, foldI]
    exact run_min k ns _
theorem run_max (k : IntKind) : ∀ (ns : List Int) (x : Int), ((ns.map (Value.int k)).foldlM Builtin.max2 (.int k x)).run P w = .ok (.int k (foldI true x ns)) w
  | [], x => by simp [foldI]
  | y :: ns, x => by
    simp only [List.map_cons, List.foldlM_cons, Sem.run_bind, Builtin.max2, Sem.run_pure, Result.andThen_ok, foldI]
    exact run_max k ns _
theorem so_minmax (h : StR w0 N ρ φ f m a w) (c : Call) (isMax : Bool) (k : IntKind) (x : Operand) (xs : List Operand) (n : Int) (ns : List Int) (ho : o.op = .call c) (hc : c.callee = .builtin (if isMax then .max else .min)) (ha : c.args.toList = x :: xs) (hx : aeval N f x = .one (.d (.int k n))) (hxs : mapO (fun x => intOfAV k (aeval N f x)) xs = some ns) :
    Does P w0 N f m o a w (.one (.d (.int k (foldI isMax n ns)))) [] := by
  have e1 := ints_ok h hxs
  have e2 : (c.args.map a.eval).toList = Value.int k n :: ns.map (Value.int k) := by rw [Array.toList_map, ha, List.map_cons, av_int h hx, e1]
  refine does_pure h (u := .int k (foldI isMax n ns)) ?_ (View.int _ _)
  cases isMax
  · simp only [execOp, ho, resolve, hc, invoke, builtin, Sem.run_bind, Sem.run_pure, Result.andThen_ok, Bool.false_eq_true, if_false, Builtin.min_, e2, run_min]
  · simp only [execOp, ho, resolve, hc, invoke, builtin, Sem.run_bind, Sem.run_pure, Result.andThen_ok, if_true, Builtin.max_, e2, run_max]

/-- A field of a value. -/
def tFldV (P : Program) (s : TypeId) (i : Nat) : Option (Nat × Option Nat) :=
  match P.underlying s with
  | some (.struct fs) => match fs[i]? with
    | some fd => (tShape P fd.type).map fun sh => (fd.offset, sh)
    | none => none
  | _ => none
def cutAV (l : List Cell) (off : Nat) : Option Nat → Option AV
  | some n => if off + n ≤ l.length then some (.agg ((l.drop off).take n)) else none
  | none => (l[off]?).map .one
theorem so_field (h : StR w0 N ρ φ f m a w) (s : TypeId) (x : Operand) (i off : Nat) (sh : Option Nat) (l : List Cell) (y : AV) (ho : o.op = .field s x i) (hx : aeval N f x = .agg l) (ht : tFldV P s i = some (off, sh)) (hy : cutAV l off sh = some y) : Does P w0 N f m o a w y [] := by
  have hv := aeval_ok h x
  rw [hx] at hv
  obtain ⟨vs, e, hcv⟩ := hv
  unfold tFldV at ht
  split at ht
  · rename_i fs hu
    split at ht
    · rename_i fd hf
      obtain ⟨sh', hsh, e2⟩ := Option.map_eq_some_iff.1 ht
      injection e2 with e2 e3
      subst e2 e3
      cases sh' with
      | some n =>
        obtain ⟨d, hd1, hd2, hd3⟩ := tShape_row hsh
        simp only [cutAV] at hy
        split at hy
        · rename_i hn
          injection hy with hy
          subst hy
          obtain ⟨inf, hinf, hsz⟩ : ∃ inf, P.info? fd.type = some inf ∧ inf.size = n := by
            cases hi : P.info? fd.type with
            | none => rw [hi] at hd3; cases hd3
            | some inf => rw [hi] at hd3; exact ⟨inf, rfl, by simpa using hd3⟩
          refine does_pure h (u := .agg (vs.toArray.extract fd.offset (fd.offset + n))) ?_ ⟨(vs.drop fd.offset).take n, by simp, by simp [hcv.1], fun j c v hj hvj => ?_⟩
          · have hagg : (isAgg fd.type).run P w = .ok true w := by
              unfold isAgg
              rw [Sem.run_bind, run_underlying hd1 w]
              cases d <;> simp_all [TypeDesc.isRow]
            simp only [execOp, ho, e, Instr.field, Sem.run_bind, run_underlying hu, Result.andThen_ok, hf, asAgg, Sem.run_pure, part, hagg, sizeOf, typeInfo]
            simp [hinf, hsz]
          · rw [List.getElem?_take] at hj hvj
            split at hj
            · rename_i hlt
              rw [if_pos hlt] at hvj
              rw [List.getElem?_drop] at hj hvj
              exact hcv.2 _ c v hj hvj
            · cases hj
        · cases hy
      | none =>
        obtain ⟨d, hd1, hd2, hd3⟩ := tShape_one hsh
        simp only [cutAV, Option.map_eq_some_iff] at hy
        obtain ⟨c, hc, rfl⟩ := hy
        have hlt : fd.offset < vs.length := by rw [hcv.1]; exact (List.getElem?_eq_some_iff.1 hc).1
        refine does_pure h (u := vs[fd.offset]) ?_ (hcv.2 _ c _ hc (List.getElem?_eq_getElem hlt)).1
        have hagg : (isAgg fd.type).run P w = .ok false w := by
          unfold isAgg
          rw [Sem.run_bind, run_underlying hd1 w]
          cases d <;> simp_all [TypeDesc.isRow]
        simp only [execOp, ho, e, Instr.field, Sem.run_bind, run_underlying hu, Result.andThen_ok, hf, asAgg, Sem.run_pure, part, hagg]
        simp [hlt]
    · cases ht
  · cases ht

/-- Values of numbers alone, held against each other. -/
def tFlat (P : Program) (t : TypeId) : Option Nat :=
  if P.eqGuardType P.depth t = false then
    match P.underlying t with
    | some (.struct fs) => if P.stoodInHeld t = false ∧ (fs.toList.zipIdx.all fun (f, i) => f.name != "_" && f.offset == i && (match P.underlying f.type with | some (.int _) => true | _ => false)) = true then some fs.size else none
    | some (.array n e) => match P.underlying e with
      | some (.int _) => if P.cellsOf e = 1 then some n else none
      | _ => none
    | _ => none
  else none
def flatI : List Cell → Option (List (IntKind × Int))
  | [] => some []
  | .d (.int k n) :: r => match flatI r with
    | some l => some ((k, n) :: l)
    | none => none
  | _ :: _ => none
def eqI : List (IntKind × Int) → List (IntKind × Int) → Bool
  | [], [] => true
  | x :: xs, y :: ys => (x.2 == y.2) && eqI xs ys
  | _, _ => false
theorem flatI_ok {S : Nat → Prop} : ∀ {l : List Cell} {ns : List (IntKind × Int)} {vs : List Value}, flatI l = some ns → CVs ρ S w l vs → vs = ns.map fun p => Value.int p.1 p.2
  | [], ns, vs, h, hc => by
    simp only [flatI, Option.some.injEq] at h
    subst h
    exact List.eq_nil_of_length_eq_zero hc.1
  | c :: l, ns, vs, h, hc => by
    cases c with
    | d c =>
      cases c with
      | int k n =>
        simp only [flatI] at h
        split at h
        · rename_i ns' h1
          injection h with h
          subst h
          cases vs with
          | nil => simp [CVs] at hc
          | cons v vs =>
            have h2 := (hc.2 0 _ v rfl rfl).1
            rw [cv_int (ρ := ρ) h2]
            rw [flatI_ok h1 (⟨by simpa using hc.1, fun i c' v' hi hv => hc.2 (i + 1) c' v' (by simpa using hi) (by simpa using hv)⟩ : CVs ρ S w l vs)]
            rfl
        · cases h
      | _ => cases h
    | _ => cases h
theorem run_part_int {t : TypeId} {k0 : IntKind} (hu : P.underlying t = some (.int k0)) {xs : Array Value} {i : Nat} {v : Value} (hv : xs[i]? = some v) : (part t xs i).run P w = .ok v w := by
  have hagg : (isAgg t).run P w = .ok false w := by
    unfold isAgg
    rw [Sem.run_bind, run_underlying hu w]
    rfl
  simp only [part, Sem.run_bind, hagg, Result.andThen_ok]
  simp [hv]
theorem run_fields (d : Nat) (xs ys : Array Value) : ∀ (fs : List Field) (k : Nat) (ns ms : List (IntKind × Int)), (fs.zipIdx k).all (fun (f, i) => f.name != "_" && f.offset == i && (match P.underlying f.type with | some (.int _) => true | _ => false)) = true →
    ns.length = fs.length → ms.length = fs.length → ns.map (·.1) = ms.map (·.1) → (∀ j p, ns[j]? = some p → xs[k + j]? = some (.int p.1 p.2)) → (∀ j p, ms[j]? = some p → ys[k + j]? = some (.int p.1 p.2)) →
    (Op.eqFields (d + 1) xs ys fs).run P w = .ok (eqI ns ms) w
  | [], k, ns, ms, _, h1, h2, _, _, _ => by
    have e1 : ns = [] := List.eq_nil_of_length_eq_zero h1
    have e2 : ms = [] := List.eq_nil_of_length_eq_zero h2
    subst e1 e2
    simp [Op.eqFields, eqI]
  | f :: fs, k, ns, ms, hall, h1, h2, hk, hx, hy => by
    match ns, ms, h1, h2, hk, hx, hy with
    | p :: ns, q :: ms, h1, h2, hk, hx, hy =>
      simp only [List.zipIdx_cons, List.all_cons, Bool.and_eq_true, bne_iff_ne, ne_eq, beq_iff_eq] at hall
      obtain ⟨⟨⟨hn, hoff⟩, hty⟩, hall⟩ := hall
      simp only [List.map_cons, List.cons.injEq] at hk
      cases hu : P.underlying f.type with
      | none => rw [hu] at hty; cases hty
      | some td =>
        cases td with
        | int k0 =>
          have e1 := run_part_int (P := P) (w := w) hu (hx 0 p rfl)
          have e2 := run_part_int (P := P) (w := w) hu (hy 0 q rfl)
          rw [Nat.add_zero, ← hoff] at e1 e2
          obtain ⟨pk, pn⟩ := p
          obtain ⟨qk, qn⟩ := q
          simp only at hk e1 e2
          obtain ⟨hk0, hk⟩ := hk
          subst hk0
          have e3 := run_equalIn_int (P := P) w d f.type pk k0 pn qn hu
          have ih := run_fields d xs ys fs (k + 1) ns ms hall (by simpa using h1) (by simpa using h2) hk (fun j p hj => by have := hx (j + 1) p (by simpa using hj); rwa [show k + (j + 1) = k + 1 + j by omega] at this) (fun j p hj => by have := hy (j + 1) p (by simpa using hj); rwa [show k + (j + 1) = k + 1 + j by omega] at this)
          simp only [Op.eqFields, hn, ne_eq, not_false_eq_true, if_true, Sem.run_bind, e1, e2, e3, Result.andThen_ok, eqI]
          cases (pn == qn)
          · simp
          · simpa using ih
        | _ => rw [hu] at hty; cases hty
theorem run_items (d : Nat) {e : TypeId} {k0 : IntKind} (hu : P.underlying e = some (.int k0)) (xs ys : Array Value) : ∀ (n k : Nat) (ns ms : List (IntKind × Int)),
    ns.length = n → ms.length = n → ns.map (·.1) = ms.map (·.1) → (∀ j p, ns[j]? = some p → xs[k + j]? = some (.int p.1 p.2)) → (∀ j p, ms[j]? = some p → ys[k + j]? = some (.int p.1 p.2)) →
    (Op.eqItems (d + 1) e 1 xs ys (List.range' k n)).run P w = .ok (eqI ns ms) w
  | 0, k, ns, ms, h1, h2, _, _, _ => by
    have e1 : ns = [] := List.eq_nil_of_length_eq_zero h1
    have e2 : ms = [] := List.eq_nil_of_length_eq_zero h2
    subst e1 e2
    simp [Op.eqItems, eqI]
  | n + 1, k, ns, ms, h1, h2, hk, hx, hy => by
    match ns, ms, h1, h2, hk, hx, hy with
    | p :: ns, q :: ms, h1, h2, hk, hx, hy =>
      simp only [List.map_cons, List.cons.injEq] at hk
      have e1 := run_part_int (P := P) (w := w) hu (hx 0 p rfl)
      have e2 := run_part_int (P := P) (w := w) hu (hy 0 q rfl)
      rw [Nat.add_zero] at e1 e2
      obtain ⟨pk, pn⟩ := p
      obtain ⟨qk, qn⟩ := q
      simp only at hk e1 e2
      obtain ⟨hk0, hk⟩ := hk
      subst hk0
      have e3 := run_equalIn_int (P := P) w d e pk k0 pn qn hu
      have ih := run_items d hu xs ys n (k + 1) ns ms (by simpa using h1) (by simpa using h2) hk (fun j p hj => by have := hx (j + 1) p (by simpa using hj); rwa [show k + (j + 1) = k + 1 + j by omega] at this) (fun j p hj => by have := hy (j + 1) p (by simpa using hj); rwa [show k + (j + 1) = k + 1 + j by omega] at this)
      simp only [List.range'_succ, Op.eqItems, Nat.mul_one, Sem.run_bind, e1, e2, e3, Result.andThen_ok, eqI]
      cases (pn == qn)
      · simp
      · simpa using ih
theorem run_flat {t : TypeId} {n : Nat} (ht : tFlat P t = some n) {ns ms : List (IntKind × Int)} (h1 : ns.length = n) (h2 : ms.length = n) (hk : ns.map (·.1) = ms.map (·.1)) :
    (Op.equalIn 10000 t (.agg (ns.map fun p => Value.int p.1 p.2).toArray) (.agg (ms.map fun p => Value.int p.1 p.2).toArray)).run P w = .ok (eqI ns ms) w := by
  unfold tFlat at ht
  have get : ∀ (l : List (IntKind × Int)) (j : Nat) (p : IntKind × Int), l[j]? = some p → (l.map fun p => Value.int p.1 p.2).toArray[0 + j]? = some (.int p.1 p.2) := fun l j p hj => by
    rw [Nat.zero_add, List.getElem?_toArray, List.getElem?_map, hj]
    rfl
  split at ht
  · split at ht
    · rename_i fs hu
      split at ht
      · rename_i hc
        injection ht with ht
        have hfs : P.fieldsOf t = fs := by simp [Program.fieldsOf, hu]
        rw [show (10000 : Nat) = 9999 + 1 from rfl, run_equalIn_struct w 9999 t _ _ (by rw [hfs]; exact hu) hc.1, hfs]
        exact run_fields 9998 _ _ fs.toList 0 ns ms hc.2 (by simpa [h1] using ht.symm) (by simpa [h2] using ht.symm) hk (get ns) (get ms)
      · cases ht
    · rename_i n' e hu
      split at ht
      · rename_i k0 hue
        split at ht
        · rename_i hce
          injection ht with ht
          subst ht
          obtain ⟨i, hi⟩ := info_of_underlying hue
          rw [show (10000 : Nat) = 9999 + 1 from rfl, run_equalIn_array w 9999 _ _ hu hi, hce, List.range_eq_range']
          exact run_items 9998 hue _ _ n' 0 ns ms h1 h2 hk (get ns) (get ms)
        · cases ht
      · cases ht
    · cases ht
  · cases ht
def aggOp (op : BinOp) (b : Bool) : Option C :=
  match op with
  | .eql => some (.bool b)
  | .neq => some (.bool (!b))
  | _ => none
theorem so_eqAgg (h : StR w0 N ρ φ f m a w) (op : BinOp) (t yt : TypeId) (x y : Operand) (l l' : List Cell) (n : Nat) (ns ms : List (IntKind × Int)) (c : C) (ho : o.op = .binOp op t x y yt) (ht : tFlat P t = some n) (hx : aeval N f x = .agg l) (hy : aeval N f y = .agg l') (h1 : flatI l = some ns) (h2 : flatI l' = some ms)
    (hn : ns.length = n) (hm : ms.length = n) (hk : ns.map (·.1) = ms.map (·.1)) (hc : aggOp op (eqI ns ms) = some c) : Does P w0 N f m o a w (.one (.d c)) [] := by
  have hv := aeval_ok h x
  rw [hx] at hv
  obtain ⟨vs, e1, hcv⟩ := hv
  have hv := aeval_ok h y
  rw [hy] at hv
  obtain ⟨us, e2, hcu⟩ := hv
  have e3 := flatI_ok h1 hcv
  have e4 := flatI_ok h2 hcu
  subst e3 e4
  have hrun := run_flat (P := P) (w := w) ht hn hm hk
  have hg : P.eqGuardType P.depth t = false := by
    unfold tFlat at ht
    split at ht
    · assumption
    · cases ht
  unfold aggOp at hc
  split at hc
  · injection hc with hc
    subst hc
    exact does_pure h (u := .bool (eqI ns ms)) (by simp only [execOp, ho, e1, e2, Sem.run_bind, run_eqGuard_agg w _ t x y _ _ hg, run_eql_struct, hrun, Result.andThen_ok, Sem.run_pure]) (View.bool _)
  · injection hc with hc
    subst hc
    exact does_pure h (u := .bool (!eqI ns ms)) (by simp only [execOp, ho, e1, e2, Sem.run_bind, run_eqGuard_agg w _ t x y _ _ hg, run_neq_struct, hrun, Result.andThen_ok, Sem.run_pure]) (View.bool _)
  · cases hc

/-- A slice held against nil. -/
def nilOp (op : BinOp) (c : Cell) : Option Cell :=
  match op, c with
  | .eql, .nil => some (.d (.bool true))
  | .neq, .nil => some (.d (.bool false))
  | .eql, .d (.sl l) => some (.bb true l.length)
  | .neq, .d (.sl l) => some (.bb false l.length)
  | .eql, .own _ n => some (.bb true n)
  | .neq, .own _ n => some (.bb false n)
  | _, _ => none
theorem so_nil (h : StR w0 N ρ φ f m a w) (op : BinOp) (t yt : TypeId) (x y : Operand) (c c' : Cell) (ho : o.op = .binOp op t x y yt) (ht : (tElt P t).isSome = true) (hx : aeval N f x = .one c) (hy : aeval N f y = .one .nil) (hc : nilOp op c = some c') : Does P w0 N f m o a w (.one c') [] := by
  have hv := aeval_ok h x
  rw [hx] at hv
  have hvy := aeval_ok h y
  rw [hy] at hvy
  have ey : a.eval y = .slice none 0 0 := hvy
  obtain ⟨⟨el, sz, by_⟩, he⟩ := Option.isSome_iff_exists.1 ht
  have hu := (tElt_ok he).1
  have sl : ∃ A n cap, a.eval x = .slice A n cap ∧ (c = .nil → A = none) ∧ (∀ l, c = .d (.sl l) → A = none → l.length = 0) ∧ (∀ i k, c = .own i k → A = none → k = 0) := by
    unfold nilOp at hc
    split at hc
    · exact ⟨none, 0, 0, hv, fun _ => rfl, fun l e => (by cases e), fun i k e => (by cases e)⟩
    · exact ⟨none, 0, 0, hv, fun _ => rfl, fun l e => (by cases e), fun i k e => (by cases e)⟩
    all_goals first
      | (cases hc; done)
      | skip
    · rename_i l
      have hv' : View (Sof w0 φ m w) w (.sl l) (a.eval x) := hv
      generalize a.eval x = v at hv' ⊢
      cases hv' with
      | sl _ sz A cap u hsz hcap hb hA hu =>
        refine ⟨A, _, cap, rfl, fun h => (by cases h), fun l' e hn => ?_, fun i k e => (by cases e)⟩
        injection e with e; injection e with e; subst e
        cases hl : l.length with
        | zero => rfl
        | succ k =>
          obtain ⟨b, q, e1, _⟩ := hA (by omega)
          rw [hn] at e1
          cases e1
    · rename_i l
      have hv' : View (Sof w0 φ m w) w (.sl l) (a.eval x) := hv
      generalize a.eval x = v at hv' ⊢
      cases hv' with
      | sl _ sz A cap u hsz hcap hb hA hu =>
        refine ⟨A, _, cap, rfl, fun h => (by cases h), fun l' e hn => ?_, fun i k e => (by cases e)⟩
        injection e with e; injection e with e; subst e
        cases hl : l.length with
        | zero => rfl
        | succ k =>
          obtain ⟨b, q, e1, _⟩ := hA (by omega)
          rw [hn] at e1
          cases e1
    · rename_i id n
      rcases hv with ⟨b, base, cap, hr, hv⟩ | ⟨hr, hn, A, hv⟩
      · exact ⟨_, _, _, hv, fun h => (by cases h), fun l e => (by cases e), fun i k e hn => (by cases hn)⟩
      · subst hn
        exact ⟨_, _, _, hv, fun h => (by cases h), fun l e => (by cases e), fun i k e _ => by injection e with _ e; exact e.symm⟩
    · rename_i id n
      rcases hv with ⟨b, base, cap, hr, hv⟩ | ⟨hr, hn, A, hv⟩
      · exact ⟨_, _, _, hv, fun h => (by cases h), fun l e => (by cases e), fun i k e hn => (by cases hn)⟩
      · subst hn
        exact ⟨_, _, _, hv, fun h => (by cases h), fun l e => (by cases e), fun i k e _ => by injection e with _ e; exact e.symm⟩
  obtain ⟨A, n, cap, ex, hA, hD, hO⟩ := sl
  have none_of : A.isNone = true → A = none := fun h => by cases A with | none => rfl | some _ => cases h
  have hq : (Op.equal t (.slice A n cap) (.slice none 0 0)).run P w = .ok A.isNone w := run_equal_slice_nil w t el A n cap hu
  have hgoal : op = .eql ∧ CV ρ (Sof w0 φ m w) w c' (.bool A.isNone) ∨ op = .neq ∧ CV ρ (Sof w0 φ m w) w c' (.bool (!A.isNone)) := by
    unfold nilOp at hc
    split at hc
    · injection hc with hc; subst hc; rw [hA rfl]; exact .inl ⟨rfl, View.bool _⟩
    · injection hc with hc; subst hc; rw [hA rfl]; exact .inr ⟨rfl, View.bool _⟩
    · injection hc with hc; subst hc; exact .inl ⟨rfl, _, rfl, fun h => hD _ rfl (none_of h)⟩
    · injection hc with hc; subst hc; exact .inr ⟨rfl, _, rfl, fun h => hD _ rfl (none_of (by cases e : A.isNone <;> simp [e] at h ⊢))⟩
    · injection hc with hc; subst hc; exact .inl ⟨rfl, _, rfl, fun h => hO _ _ rfl (none_of h)⟩
    · injection hc with hc; subst hc; exact .inr ⟨rfl, _, rfl, fun h => hO _ _ rfl (none_of (by cases e : A.isNone <;> simp [e] at h ⊢))⟩
    · cases hc
  rcases hgoal with ⟨rfl, hg⟩ | ⟨rfl, hg⟩
  · exact does_pure h (u := .bool A.isNone) (by simp [execOp, ho, ex, ey, eqGuard, binOp, hq]) hg
  · exact does_pure h (u := .bool (!A.isNone)) (by simp [execOp, ho, ex, ey, eqGuard, binOp, hq]) hg

/-- A function as a value: with what it is given at once, all data; or with captured boxes. -/
def sumOf : AV → Option (List C ⊕ C)
  | .agg l => (mapO (fun c => match c with | .d d => some d | _ => none) l).map .inl
  | .one (.d c) => some (.inr c)
  | _ => none
def ptrOf : AV → Option (Nm × Nat)
  | .one (.ptr id off) => some (id, off)
  | _ => none
def dOf : AV → Option C
  | .one (.d c) => some c
  | _ => none
def funcOf (g : FuncId) (first caps : List AV) : Option Cell :=
  match mapO sumOf first, mapO dOf caps with
  | some fs, some cs => some (.d (.fn g fs cs))
  | _, _ => match first, mapO ptrOf caps with
    | [], some ps => some (.fnp g ps)
    | _, _ => none
theorem so_makeFunc (h : StR w0 N ρ φ f m a w) (g : FuncId) (first caps : Array Operand) (c : Cell) (ho : o.op = .makeFunc (.func g) first caps) (hc : funcOf g (first.toList.map (aeval N f)) (caps.toList.map (aeval N f)) = some c) : Does P w0 N f m o a w (.one c) [] := by
  refine does_pure h (u := .func (.func g) (first.map a.eval) (caps.map a.eval)) (by simp [execOp, ho, Instr.makeFunc]) ?_
  have rel : ∀ (xs : Array Operand) (i : Nat) (x : AV), (xs.toList.map (aeval N f))[i]? = some x → ∃ v, (xs.map a.eval)[i]? = some v ∧ AVR ρ (Sof w0 φ m w) w x v := fun xs i x hx => by
    rw [List.getElem?_map] at hx
    obtain ⟨q, hq, rfl⟩ := Option.map_eq_some_iff.1 hx
    have hq' : xs[i]? = some q := by simpa using hq
    exact ⟨a.eval q, by simp [hq'], aeval_ok h q⟩
  unfold funcOf at hc
  split at hc
  · rename_i fs cs h1 h2
    injection hc with hc
    subst hc
    obtain ⟨hl1, hg1⟩ := mapO_get h1
    obtain ⟨hl2, hg2⟩ := mapO_get h2
    have firsts : ∀ (i : Nat) (y : List C ⊕ C), fs[i]? = some y → ∃ v, (first.map a.eval)[i]? = some v ∧ match y with
        | .inl l => ∃ vs : List Value, v = .agg vs.toArray ∧ vs.length = l.length ∧ ∀ (j : Nat) (c : C) (u : Value), l[j]? = some c → vs[j]? = some u → View (Sof w0 φ m w) w c u
        | .inr c => View (Sof w0 φ m w) w c v := fun i y hy => by
      obtain ⟨x, hx, hsum⟩ := hg1 i y hy
      obtain ⟨v, hv, hav⟩ := rel first i x hx
      refine ⟨v, hv, ?_⟩
      unfold sumOf at hsum
      split at hsum
      · obtain ⟨l, hl, rfl⟩ := Option.map_eq_some_iff.1 hsum
        obtain ⟨vs, e, hcv⟩ := hav
        obtain ⟨hll, hlg⟩ := mapO_get hl
        refine ⟨vs, e, by rw [hcv.1, hll], fun j c u hj hu => ?_⟩
        obtain ⟨c', hc', hd⟩ := hlg j c hj
        split at hd
        · injection hd with hd
          subst hd
          exact (hcv.2 j _ u hc' hu).1
        · cases hd
      · injection hsum with hsum
        subst hsum
        exact hav
      · cases hsum
    refine View.fn g fs cs _ _ (fun i => ((first.map a.eval)[i]?.getD undef).cells.toList) (by simpa using hl1.symm) (by simpa using hl2.symm) (fun i l hi => ?_) (fun i l j c v hi hj hv => ?_) (fun i c v hi hv => ?_) fun i c v hi hv => ?_
    · obtain ⟨v, hv, vs, rfl, hl, _⟩ := firsts i _ hi
      rw [hv]
      exact ⟨by simp [Value.cells], by simpa [Value.cells] using hl⟩
    · obtain ⟨v', hv', vs, rfl, hl, hcs⟩ := firsts i _ hi
      rw [hv'] at hv
      exact hcs j c v hj (by simpa [Value.cells] using hv)
    · obtain ⟨v', hv', hview⟩ := firsts i _ hi
      rw [hv'] at hv
      injection hv with hv
      subst hv
      exact hview
    · obtain ⟨x, hx, hd⟩ := hg2 i c hi
      obtain ⟨v', hv', hav⟩ := rel caps i x hx
      rw [hv'] at hv
      injection hv with hv
      subst hv
      unfold dOf at hd
      split at hd
      · injection hd with hd
        subst hd
        exact hav
      · cases hd
  · split at hc
    · rename_i hf hp
      injection hc with hc
      subst hc
      obtain ⟨hl, hg⟩ := mapO_get hp
      have hf0 : first.map a.eval = #[] := by
        have : first.toList = [] := by simpa using hf
        apply Array.ext'
        simp [this]
      refine ⟨caps.map a.eval, by rw [hf0], by simpa using hl.symm, fun i p x hpi hx => ?_⟩
      obtain ⟨y, hy, hpo⟩ := hg i p hpi
      obtain ⟨v', hv', hav⟩ := rel caps i y hy
      rw [hv'] at hx
      injection hx with hx
      subst hx
      unfold ptrOf at hpo
      split at hpo
      · injection hpo with hpo
        subst hpo
        exact hav
      · cases hpo
    · cases hc

/-- clear of a slice over an own row. -/
theorem so_clear (h : StR w0 N ρ φ f m a w) (x : Operand) (t : Nat) (e sz by_ : Nat) (cs : Cell) (id : Nm) (off : Nat) (l0 l : List (List Cell)) (zs : List Value) (ho : o.op = .call { callee := .builtin .clear, args := #[x], argTypes := #[t] })
    (ht : tElt P t = some (e, sz, by_)) (hz : tZero P e = some zs) (hzl : zs.length = sz) (hkn : (zs.map ofVal).all Cell.known = true) (hx : aeval N f x = .one cs) (hd : rowsOf m cs = some l) (hat : dstAt cs = some (id, off)) (hm : m id = some (.row e sz l0)) (hsub : ∀ i s o n, cs = .sub i s o n → s = sz) :
    Does P w0 N f m o a w (.tup []) [(id, some (.row e sz (lay l0 off (List.replicate l.length (zs.map ofVal)))))] := by
  obtain ⟨hu, inf, hi, h1, h2⟩ := tElt_ok ht
  obtain ⟨z, hz, hzs, hzsz⟩ := zero_of hi hz hzl
  have hv := aeval_ok h x
  rw [hx] at hv
  have hr : RowsV ρ (Sof w0 φ m w) w sz (List.replicate l.length (zs.map ofVal)) (zrep l.length zs) := ⟨by rw [zrep_length, List.length_replicate, hzl], fun i r hi => ⟨(rep_cells hzl hkn i r hi).1, fun j d hj => by
    obtain ⟨h3, v, h4, h5, h6⟩ := (rep_cells hzl hkn i r hi).2 j d hj
    exact ⟨h3, v, h4, h5 _ _ _, h6⟩⟩⟩
  obtain ⟨A, n, cap, es, hn, hcase⟩ := over_ok h hd hat hm hsub hv (by rw [List.length_replicate]; exact Nat.le_refl _) hr
  subst hn
  have hzc : Builtin.zeroCells z.cells l.length = (zrep l.length zs).toArray := by
    have := made_zrep z.cells l.length
    rw [hzs] at this
    exact this
  have em : ∀ X, mupd m [(id, some X)] = mset m id (some X) := fun _ => rfl
  have htup : AVR ρ (Sof w0 φ m w) w (.tup []) (.tuple #[]) := ⟨[], rfl, rfl, fun i x v h => by simp at h⟩
  intro K Q hK
  rcases hcase with ⟨hl0, hu0⟩ | ⟨b, p, cur, rfl, hh, hfit, hst⟩
  · have hl1 : l = [] := by
      cases l with
      | nil => rfl
      | cons r rs => simp [List.replicate_succ] at hl0
    subst hl1
    have hw : (execOp a.eval o).run P w = .ok (.value (.tuple #[])) w := by
      simp only [execOp, ho, resolve, invoke, builtin, Sem.run_bind, Sem.run_pure, Result.andThen_ok, List.map_toArray, List.map_cons, List.map_nil, es]
      cases A <;> simp [Builtin.clear_, run_underlying hu]
    refine wp_of_run hw (hK _ _ ⟨ρ, φ, ?_⟩)
    have hlay : lay l0 off (List.replicate ([] : List (List Cell)).length (zs.map ofVal)) = l0 := by simp [lay]
    rw [em, hlay]
    have : mset m id (some (.row e sz l0)) = m := by
      funext i
      simp only [mset]
      split
      · rename_i e9; rw [e9, hm]
      · rfl
    rw [this]
    exact h.put o.dst (x := .tup []) htup
  · have hst2 := run_storeCells_at P b p e (zrep l.length zs) 0 cur w hh (by simpa using hfit) hr.one
    simp only [Nat.add_zero] at hst2
    have hw : (execOp a.eval o).run P w = .ok (.value (.tuple #[])) (w.setRow b (lay cur.toList p (zrep l.length zs)).toArray) := by
      simp only [execOp, ho, resolve, invoke, builtin, Sem.run_bind, Sem.run_pure, Result.andThen_ok, List.map_toArray, List.map_cons, List.map_nil, es]
      have hclear : (Builtin.clear_ #[t] o.type #[.slice (some ⟨b, p, none⟩) l.length cap]).run P w = .ok (.tuple #[]) (w.setRow b (lay cur.toList p (zrep l.length zs)).toArray) := by
        cases hl : l.length with
        | zero =>
          have e0 : l = [] := List.eq_nil_of_length_eq_zero hl
          subst e0
          simp only [Builtin.clear_, Sem.run_bind]
          simp [run_underlying hu, zrep, lay]
          exact (setRow_self w b cur e (0, 0) hh).symm
        | succ n =>
          rw [hl] at hzc hst2
          simp [Builtin.clear_, run_underlying hu, zeroValue, typeInfo, hi, hz, hzc, hst2, lay]
      rw [hclear]
      rfl
    refine wp_of_run hw (hK _ _ ⟨ρ, φ, ?_⟩)
    rw [em]
    exact hst.put o.dst (x := .tup []) ⟨[], rfl, rfl, fun i x v h => by simp at h⟩
end
end Go.Proofs.Yteohodhcegbmmaa
