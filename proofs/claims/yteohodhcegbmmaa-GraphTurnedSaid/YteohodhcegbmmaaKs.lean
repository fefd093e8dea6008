/- What a function is given and what it answers, on the abstract state. No condition. -/
import Derived.Test.YteohodhcegbmmaaKr
set_option linter.unusedSimpArgs false
set_option linter.unusedVariables false
namespace Go.Proofs.Yteohodhcegbmmaa
open Go.RowKit

def argF : Nat → List AV → LF
  | _, [] => []
  | i, x :: xs => (i, x) :: argF (i + 1) xs
theorem argF_get : ∀ {xs : List AV} {i t : Nat}, fget (argF i xs) t = if i ≤ t then (xs[t - i]?).getD (.one .any) else .one .any
  | [], i, t => by simp [argF, fget]
  | x :: xs, i, t => by
    simp only [argF, fget]
    rw [argF_get]
    by_cases e : t = i
    · subst e
      simp
    · rw [if_neg e]
      by_cases h : i ≤ t
      · rw [if_pos h, if_pos (by omega)]
        rw [show t - i = (t - (i + 1)) + 1 by omega]
        simp
      · rw [if_neg h, if_neg (by omega)]

/-- A function's results, of the abstract state. -/
def aRes (P : Program) (N : Nat) (F : LF) (M : LM) : ResultVar → Option AV
  | .tmp t => if t < N then some (fget F t) else none
  | .cell t ty => (stLoad P (mget M) ty (aeval N (fget F) (.tmp t))).map (·.1)
def toS : AV → Option (List Cell ⊕ Cell)
  | .one c => some (.inr c)
  | .agg l => some (.inl l)
  | .tup _ => none
def allS : List AV → Option (List (List Cell ⊕ Cell))
  | [] => some []
  | x :: xs => match toS x, allS xs with
    | some y, some ys => some (y :: ys)
    | _, _ => none
/-- One result is itself; several are a tuple. -/
def ansOf : List AV → Option AV
  | [x] => some x
  | xs => (allS xs).map .tup

section
variable {P : Program} {w0 : Bas} {N nx : Nat} {F F' : LF} {M M' : LM} {a : Act} {w : World} {Q : Exit → Act → World → Prop}

theorem allS_get : ∀ {xs : List AV} {ys : List (List Cell ⊕ Cell)}, allS xs = some ys → ys.length = xs.length ∧ ∀ (i : Nat) (x : AV), xs[i]? = some x → ∃ y, ys[i]? = some y ∧ toS x = some y
  | [], ys, h => by simp only [allS, Option.some.injEq] at h; subst h; simp
  | x :: xs, ys, h => by
    simp only [allS] at h
    split at h
    · rename_i y ys' h1 h2
      injection h with h
      subst h
      obtain ⟨hl, hg⟩ := allS_get h2
      refine ⟨by simp [hl], fun i c' hi => ?_⟩
      cases i with
      | zero => simp at hi; subst hi; exact ⟨y, rfl, h1⟩
      | succ i => simpa using hg i c' (by simpa using hi)
    · cases h

theorem av_loaded {ρ : Place} {φ : Foot} (h : StR w0 N ρ φ (fget F) (mget M) a w) {ty : TypeId} {x : Operand} {y : AV} {U : List Upd} (hx : stLoad P (mget M) ty (aeval N (fget F) x) = some (y, U)) :
    ∃ p v, a.eval x = .pointer (some p) ∧ (loadVar ty p).run P w = .ok v w ∧ AVR ρ (Sof w0 φ (mget M) w) w y v := by
  unfold stLoad at hx
  split at hx
  · rename_i c hc
    have hv := aeval_ok h x
    rw [hc] at hv
    split at hx
    · rename_i n ht
      simp only [Option.map_eq_some_iff] at hx
      obtain ⟨l, hl, hs⟩ := hx
      injection hs with e1 e2
      subst e1
      obtain ⟨b, p, vs, e, hl', hra, hcv⟩ := cellsAt_ok h hl hv
      obtain ⟨d, hu, hd, hi⟩ := tShape_row ht
      exact ⟨_, _, e, run_loadVar_mid w b p ty vs d hra hu hd (by rw [hi, hcv.1, hl']), vs, rfl, hcv⟩
    · rename_i ht
      split at hx
      · rename_i c' hc'
        injection hx with hs
        injection hs with e1 e2
        subst e1
        obtain ⟨b, p, vs, e, hl', hra, hcv⟩ := cellsAt_ok h hc' hv
        obtain ⟨d, hu, hd, hi⟩ := tShape_one ht
        obtain ⟨u, hvs⟩ : ∃ u, vs = [u] := by
          match vs, hcv.1 with
          | [u], _ => exact ⟨u, rfl⟩
        subst hvs
        have hcell := hra 0 u rfl
        refine ⟨_, u, e, ?_, (hcv.2 0 c' u rfl rfl).1⟩
        have hagg : (isAgg ty).run P w = .ok false w := by
          unfold isAgg
          rw [Sem.run_bind, run_underlying hu w]
          cases d <;> simp_all
        simp only [loadVar, Sem.run_bind, Result.andThen_ok, hagg]
        simp [load, Sem.run, show w.cell? ⟨b, p, none⟩ = some u from hcell]
      · cases hx
    · cases hx
  · cases hx

def resOne (tmps : Array Value) : ResultVar → Sem Value
  | .tmp t => pure (tmps.getD t undef)
  | .cell a t => do loadVar t (← asAddr (tmps.getD a undef))
theorem results_eq (fn : Func) (tmps : Array Value) : results fn tmps = (do let vs ← fn.results.mapM (resOne tmps); pure (if h : vs.size = 1 then vs[0] else .tuple vs)) := by
  unfold results
  congr
theorem resOne_ok {ρ : Place} {φ : Foot} (h : StR w0 N ρ φ (fget F) (mget M) a w) {r : ResultVar} {x : AV} (hx : aRes P N F M r = some x) : ∃ v, (resOne a.tmps r).run P w = .ok v w ∧ AVR ρ (Sof w0 φ (mget M) w) w x v := by
  cases r with
  | tmp t =>
    simp only [aRes] at hx
    split at hx
    · rename_i ht
      injection hx with hx
      subst hx
      have := aeval_ok h (.tmp t)
      simp only [aeval, if_pos ht] at this
      exact ⟨_, rfl, this⟩
    · cases hx
  | cell t ty =>
    simp only [aRes, Option.map_eq_some_iff] at hx
    obtain ⟨⟨y, U⟩, hy, e⟩ := hx
    subst e
    obtain ⟨p, v, e1, e2, e3⟩ := av_loaded h hy
    refine ⟨v, ?_, e3⟩
    have e1' : a.tmps.getD t undef = .pointer (some p) := e1
    simp only [resOne, e1', asAddr, Sem.run_bind, Sem.run_pure, Result.andThen_ok, e2]
theorem res_list {ρ : Place} {φ : Foot} (h : StR w0 N ρ φ (fget F) (mget M) a w) : ∀ {rs : List ResultVar} {xs : List AV}, rs.mapM (aRes P N F M) = some xs → ∃ vs : List Value, vs.length = xs.length ∧ (rs.mapM (resOne a.tmps)).run P w = .ok vs w ∧ ∀ (i : Nat) (x : AV) (v : Value), xs[i]? = some x → vs[i]? = some v → AVR ρ (Sof w0 φ (mget M) w) w x v
  | [], xs, hx => by
    simp only [List.mapM_nil, Option.pure_def, Option.some.injEq] at hx
    subst hx
    exact ⟨[], rfl, by simp, fun i x v h => by simp at h⟩
  | r :: rs, xs, hx => by
    simp only [List.mapM_cons, Option.bind_eq_bind, Option.bind_eq_some_iff, Option.pure_def, Option.some.injEq] at hx
    obtain ⟨y, hy, ys, hys, rfl⟩ := hx
    obtain ⟨v, hv, hav⟩ := resOne_ok h hy
    obtain ⟨vs, hl, hr, hall⟩ := res_list h hys
    refine ⟨v :: vs, by simp [hl], ?_, fun i x u hx hu => ?_⟩
    · simp only [List.mapM_cons, Sem.run_bind, hv, Result.andThen_ok, hr, Sem.run_pure]
    · cases i with
      | zero => simp at hx hu; subst hx hu; exact hav
      | succ i => exact hall i x u (by simpa using hx) (by simpa using hu)

def oneV : List Value → Value
  | [v] => v
  | vs => .tuple vs.toArray
theorem ret_value {fn : Func} {vs : List Value} (hr : (fn.results.toList.mapM (resOne a.tmps)).run P w = .ok vs w) : (results fn a.tmps).run P w = .ok (oneV vs) w := by
  have hmap : (fn.results.mapM (resOne a.tmps)).run P w = .ok vs.toArray w := by
    rw [show fn.results = fn.results.toList.toArray from rfl, List.mapM_toArray]
    simp only [map_eq_pure_bind, Sem.run_bind, hr, Result.andThen_ok, Sem.run_pure]
  rw [results_eq]
  simp only [Sem.run_bind, hmap, Result.andThen_ok, Sem.run_pure]
  match vs with
  | [] => rfl
  | [v] => rfl
  | _ :: _ :: _ => simp [oneV]
theorem ans_rel {ρ : Place} {S : Nat → Prop} {xs : List AV} {vs : List Value} {ans : AV} (ha : ansOf xs = some ans) (h : Rels ρ S w xs vs) : AVR ρ S w ans (oneV vs) := by
  have many : ∀ (l : List (List Cell ⊕ Cell)), allS xs = some l → AVR ρ S w (.tup l) (.tuple vs.toArray) := fun l hl => by
    obtain ⟨h1, h2⟩ := allS_get hl
    refine ⟨vs, rfl, by rw [h1, h.1], fun i z v hzi hvi => ?_⟩
    have hil : i < xs.length := by rw [← h1]; exact (List.getElem?_eq_some_iff.1 hzi).1
    obtain ⟨z', h3, h4⟩ := h2 i _ (List.getElem?_eq_getElem hil)
    rw [hzi] at h3
    injection h3 with h3
    subst h3
    have hd := h.2 i _ v (List.getElem?_eq_getElem hil) hvi
    generalize xs[i] = y at h4 hd
    cases y with
    | one c => injection h4 with h4; subst h4; exact hd
    | agg l => injection h4 with h4; subst h4; exact hd
    | tup l => cases h4
  match xs, vs, h, ha, many with
  | [], [], h, ha, many =>
    simp only [ansOf, Option.map_eq_some_iff] at ha
    obtain ⟨l, hl, rfl⟩ := ha
    exact many l hl
  | [x], [v], h, ha, many =>
    simp only [ansOf, Option.some.injEq] at ha
    subst ha
    exact h.2 0 x v rfl rfl
  | x :: y :: xs, u :: v :: vs, h, ha, many =>
    simp only [ansOf, Option.map_eq_some_iff] at ha
    obtain ⟨l, hl, rfl⟩ := ha
    exact many l hl
  | [], v :: vs, h, _, _ => simp [Rels] at h
  | x :: xs, [], h, _, _ => simp [Rels] at h
  | [x], u :: v :: vs, h, _, _ => simp [Rels] at h
  | x :: y :: xs, [v], h, _, _ => simp [Rels] at h

/-- What a function answers, with the objects behind it. -/
theorem r_ret {fn : Func} {S Φ : Nat → Prop} {P0 : Place} {wb : World} {xs : List AV} {ans : AV} {M1 : LM} (ks : List Nm) (hw : w0 = ⟨wb, S, Φ, P0⟩) (h : SL w0 N nx F M a w) (hx : fn.results.toList.mapM (aRes P N F M) = some xs) (ha : ansOf xs = some ans) (hM : mkeep M ks = M1) :
    bodyPost P fn (HPost S Φ (fun id => id.1 = 0) P0 wb ans (mget M1)) .ret a w := by
  subst hw hM
  obtain ⟨⟨ρ, φ, h1⟩, hn, hpos⟩ := h
  obtain ⟨vs, hl, hr, hall⟩ := res_list h1 hx
  have old : ∀ i o, mget (mkeep M ks) i = some o → mget M i = some o := fun i o hi => by
    rw [mget_keep] at hi
    split at hi
    · exact hi
    · cases hi
  have hS : ∀ b, Sof ⟨wb, S, Φ, P0⟩ φ (mget M) w b → Sof ⟨wb, S, Φ, P0⟩ φ (mget (mkeep M ks)) w b := fun b hb => ⟨hb.1, fun i o hi => hb.2.1 i o (old i o hi), hb.2.2⟩
  exact bodyPost_ret (ret_value hr) h1.dfr ⟨_, ρ, φ, rfl, h1.mv, (ans_rel ha ⟨hl, hall⟩).next (fun _ _ => rfl) hS (fun _ _ => rfl), fun id o hi => (h1.objs id o (old id o hi)).next (fun _ _ => rfl) hS (fun _ _ => rfl) rfl (fun _ _ => rfl) (fun _ hb => hb),
    fun id o b hi hf => ⟨h1.lt id o b (old id o hi) hf, h1.base id o b (old id o hi) hf⟩, fun id id' o o' b hi hi' => h1.disj id id' o o' b (old id o hi) (old id' o' hi'), fun id o hi h0 => h1.stab id o h0 (old id o hi)⟩
/-- What a function answers, frozen. -/
theorem r_retD {fn : Func} {S Φ : Nat → Prop} {P0 : Place} {wb : World} {xs ys : List AV} {ans : AV} (hw : w0 = ⟨wb, S, Φ, P0⟩) (h : SL w0 N nx F M a w) (hx : fn.results.toList.mapM (aRes P N F M) = some xs) (hy : frzAVs (mget M) xs = some ys) (ha : ansOf ys = some ans) :
    bodyPost P fn (HPost S Φ (fun id => id.1 = 0) P0 wb ans (mget [])) .ret a w := by
  subst hw
  obtain ⟨⟨ρ, φ, h1⟩, hn, hpos⟩ := h
  obtain ⟨vs, hl, hr, hall⟩ := res_list h1 hx
  obtain ⟨hyl, hyg⟩ := frzAVs_get hy
  have hS : ∀ b, Sof ⟨wb, S, Φ, P0⟩ φ (mget M) w b → Sof ⟨wb, S, Φ, P0⟩ φ (mget []) w b := fun b hb => ⟨hb.1, fun i o hi => by simp [mget] at hi, hb.2.2⟩
  refine bodyPost_ret (ret_value hr) h1.dfr ⟨_, ρ, φ, rfl, h1.mv, ans_rel ha ⟨by rw [hl, hyl], fun i y v hyi hvi => ?_⟩, fun id o hi => by simp [mget] at hi, fun id o b hi => by simp [mget] at hi, fun id id' o o' b hi => by simp [mget] at hi, fun id o hi => by simp [mget] at hi⟩
  have hil : i < xs.length := by rw [← hyl]; exact (List.getElem?_eq_some_iff.1 hyi).1
  obtain ⟨y', h3, h4⟩ := hyg i _ (List.getElem?_eq_getElem hil)
  rw [hyi] at h3
  injection h3 with h3
  subst h3
  exact frzAV_ok h1 h4 (hall i _ v (List.getElem?_eq_getElem hil) hvi) hS fun id o b hid hm hf => ⟨h1.lt id o b hm hf, fun i o hi => by simp [mget] at hi, by rcases h1.base id o b hm hf with h5 | h5; exact .inr (.inl h5); exact .inr (.inr h5)⟩

def shutB (ans : AV) (M1 : LM) : Bool := (ans.ids.all fun id => (mget M1 id).isSome) && M1.all fun u => match u.2 with
  | some o => o.ids.all fun id => (mget M1 id).isSome
  | none => true
def zeroB (args : List AV) (M0 : LM) : Bool := (args.all fun x => x.ids.all fun id => Nat.beq id.1 0) && (uIds M0).all fun k => Nat.beq k 0
theorem mget_uIds : ∀ {M : LM} {i : Nm} {o : AObj}, mget M i = some o → i.1 ∈ uIds M ∧ ∀ id ∈ o.ids, id.1 ∈ uIds M
  | [], _, _, h => by simp [mget] at h
  | (j, x) :: M, i, o, h => by
    have sub : ∀ k, k ∈ uIds M → k ∈ uIds ((j, x) :: M) := fun k hk => by cases x <;> simp [uIds, hk]
    simp only [mget, mput, mset] at h
    by_cases e : i = j
    · rw [if_pos e] at h
      rw [e, h]
      refine ⟨by simp [uIds], fun id hid => ?_⟩
      simp only [uIds, List.mem_cons, List.mem_append, List.mem_map]
      exact .inr (.inl ⟨id, hid, rfl⟩)
    · rw [if_neg e] at h
      have := mget_uIds h
      exact ⟨sub _ this.1, fun id hid => sub _ (this.2 id hid)⟩
/-- A function's contract, of its body. -/
theorem r_call {g : FuncId} {fn : Func} {c : Code} {args : List AV} {ans : AV} {M0 M1 : LM} (hf : P.funcs[g]? = some fn) (hb : fn.body = some c) {N : Nat} (hn : fn.ntmps = N) (hB : hasBody P g = true) (hz : zeroB args M0 = true) (hs : shutB ans M1 = true) (hN : args.length ≤ N)
    (h : ∀ (S Φ : Nat → Prop) (P0 : Place) (w : World) (a : Act), SL ⟨w, S, Φ, P0⟩ N 1 (argF 0 args) M0 a w → c.wp P (bodyPost P fn (HPost S Φ (fun id => id.1 = 0) P0 w ans (mget M1))) a w) : CallH P g args M0 ans M1 := by
  subst hn
  simp only [shutB, Bool.and_eq_true, List.all_eq_true] at hs
  simp only [zeroB, Bool.and_eq_true, List.all_eq_true] at hz
  have some_ne : ∀ {id : Nm}, (mget M1 id).isSome = true → mget M1 id ≠ none := fun {id} h e => by rw [e] at h; cases h
  refine ⟨hB, ⟨fun id hid => some_ne (hs.1 id hid), fun i o hi id hid => some_ne ?_⟩, fun S Φ ρ φ w vs hS hΦ hl hv hobj hfoot hdisj => ?_⟩
  · have := hs.2 _ (mget_mem hi)
    simp only [List.all_eq_true] at this
    exact this id hid
  · have z0 : ∀ id, mget M0 id ≠ none → id.1 = 0 := fun id hid => by
      cases e : mget M0 id with
      | none => exact absurd e hid
      | some o => exact Nat.eq_of_beq_eq_true (hz.2 _ (mget_uIds e).1)
    have hS' : ∀ b, S b → Sof ⟨w, S, Φ, ρ⟩ φ (mget M0) w b := fun b hb => ⟨(hS b hb).1, fun id o hi hf => (hS b hb).2 (hfoot id o b hi hf), .inl hb⟩
    refine (calls_of_wp hf hb (h S Φ ρ w _ ⟨⟨ρ, φ, Mv.refl _ w, rfl, ?_, fun t v ht => ?_, fun id o hi => (hobj id o hi).next (fun _ _ => rfl) hS' (fun _ _ => rfl) rfl (fun _ _ => rfl) (fun _ hb => hb), fun id o b hi hf => hΦ b (hfoot id o b hi hf), fun id o b hi hf => .inl (hfoot id o b hi hf), fun id id' o o' b => hdisj id id' o o' b, fun id o _ _ => rfl⟩, ⟨fun t id hid => ?_, fun i o hi => ?_⟩, Nat.one_pos⟩)).mono fun e w' ⟨v, ρ', φ', h1, h2, h3, h4, h5, h6, h7⟩ => ⟨v, ρ', φ', h1, h2, h3, h4, h5, h6, fun id o hi hI => h7 id o hi (z0 id hI)⟩
    · simp [hl]
      omega
    · rw [argF_get, if_pos (Nat.zero_le _), Nat.sub_zero]
      by_cases ht' : t < args.length
      · have e1 := List.getElem?_eq_getElem ht'
        rw [e1]
        have hvt : vs[t]? = some v := by
          simp only [Array.getElem?_append] at ht
          rw [if_pos (by simpa [hl] using ht')] at ht
          simpa using ht
        exact AVR.next (hv t _ v e1 hvt) (fun _ _ => rfl) hS' (fun _ _ => rfl)
      · rw [List.getElem?_eq_none (by omega)]
        trivial
    · simp only [] at hid
      rw [argF_get, if_pos (Nat.zero_le _), Nat.sub_zero] at hid
      cases e : args[t]? with
      | none => rw [e] at hid; cases hid
      | some x =>
        rw [e] at hid
        have := hz.1 x (List.mem_of_getElem? e) id hid
        rw [Nat.eq_of_beq_eq_true this]
        exact Nat.one_pos
    · have h0 := mget_uIds (M := M0) hi
      refine ⟨?_, fun id hid => ?_⟩
      · rw [Nat.eq_of_beq_eq_true (hz.2 _ h0.1)]; exact Nat.one_pos
      · rw [Nat.eq_of_beq_eq_true (hz.2 _ (h0.2 id hid))]; exact Nat.one_pos
end
end Go.Proofs.Yteohodhcegbmmaa
