/- A contract in other names; nil as data. No condition. -/
import Derived.Test.YteohodhcegbmmaaKy
set_option linter.unusedSimpArgs false
set_option linter.unusedVariables false
namespace Go.Proofs.Yteohodhcegbmmaa
open Go.RowKit

section
variable {σ τ : Nm → Nm}
theorem Cell.ren_ids (c : Cell) : (c.ren σ).ids = c.ids.map σ := by
  cases c <;> simp [Cell.ren, Cell.ids]
theorem sum_ren_ids (x : List Cell ⊕ Cell) : sumIds (sumRen σ x) = (sumIds x).map σ := by
  cases x with
  | inl l => simp [sumRen, sumIds, List.flatMap_map, List.map_flatMap, Cell.ren_ids]
  | inr c => simp [sumRen, sumIds, Cell.ren_ids]
theorem AV.ren_ids (x : AV) : (x.ren σ).ids = x.ids.map σ := by
  cases x with
  | one c => simp [AV.ren, AV.ids, Cell.ren_ids]
  | agg l => simp [AV.ren, AV.ids, List.flatMap_map, List.map_flatMap, Cell.ren_ids]
  | tup l => simp [AV.ren, AV.ids, List.flatMap_map, List.map_flatMap, sum_ren_ids]
theorem AObj.ren_ids (o : AObj) : (o.ren σ).ids = o.ids.map σ := by
  cases o with
  | box t l => simp [AObj.ren, AObj.ids, List.flatMap_map, List.map_flatMap, Cell.ren_ids]
  | row t s l => simp [AObj.ren, AObj.ids, List.flatMap_map, List.map_flatMap, Cell.ren_ids]
  | map kt et ag n l => rfl
theorem Cell.ren_ren (h : ∀ i, τ (σ i) = i) (c : Cell) : (c.ren σ).ren τ = c := by
  cases c <;> simp [Cell.ren, h, Function.comp_def]
theorem sum_ren_ren (h : ∀ i, τ (σ i) = i) (x : List Cell ⊕ Cell) : sumRen τ (sumRen σ x) = x := by
  cases x with
  | inl l => simp [sumRen, Function.comp_def, Cell.ren_ren h]
  | inr c => simp [sumRen, Cell.ren_ren h]
theorem AV.ren_ren (h : ∀ i, τ (σ i) = i) (x : AV) : (x.ren σ).ren τ = x := by
  cases x with
  | one c => simp [AV.ren, Cell.ren_ren h]
  | agg l => simp [AV.ren, Function.comp_def, Cell.ren_ren h]
  | tup l => simp [AV.ren, Function.comp_def, sum_ren_ren h]
theorem AObj.ren_ren (h : ∀ i, τ (σ i) = i) (o : AObj) : (o.ren σ).ren τ = o := by
  cases o with
  | box t l => simp [AObj.ren, Function.comp_def, Cell.ren_ren h]
  | row t s l => simp [AObj.ren, Function.comp_def, Cell.ren_ren h]
  | map kt et ag n l => rfl
/-- A contract in other names. -/
theorem CallH.ren {P : Program} {g : FuncId} {args : List AV} {ans : AV} {M0 M1 : LM} (h : CallH P g args M0 ans M1) (h1 : ∀ i, τ (σ i) = i) (h2 : ∀ i, σ (τ i) = i) :
    CallH P g (args.map (AV.ren σ)) (mren σ M0) (ans.ren σ) (mren σ M1) := by
  have inj : ∀ a b, σ a = σ b → a = b := fun a b e => by rw [← h1 a, e, h1]
  have hget : ∀ (M : LM) (i : Nm), mget (mren σ M) (σ i) = (mget M i).map (AObj.ren σ) := fun M i => mget_ren inj i M
  have hold : ∀ (M : LM) (i : Nm) (o : AObj), mget (mren σ M) i = some o → ∃ o0, mget M (τ i) = some o0 ∧ o = o0.ren σ := fun M i o hi => by
    have := hget M (τ i)
    rw [h2, hi] at this
    obtain ⟨o0, h3, h4⟩ := Option.map_eq_some_iff.1 this.symm
    exact ⟨o0, h3, h4.symm⟩
  have hne : ∀ (M : LM) (i : Nm), mget M i ≠ none → mget (mren σ M) (σ i) ≠ none := fun M i hi e => by
    rw [hget] at e
    exact hi (Option.map_eq_none_iff.1 e)
  refine ⟨h.body, ⟨fun id hid => ?_, fun i o hi id hid => ?_⟩, fun S Φ ρ φ w vs hS hΦ hl hv hobj hfoot hdisj => ?_⟩
  · rw [AV.ren_ids, List.mem_map] at hid
    obtain ⟨j, hj, rfl⟩ := hid
    exact hne _ _ (h.shut.1 j hj)
  · obtain ⟨o0, h3, rfl⟩ := hold _ _ _ hi
    rw [AObj.ren_ids, List.mem_map] at hid
    obtain ⟨j, hj, rfl⟩ := hid
    exact hne _ _ (h.shut.2 _ _ h3 j hj)
  · have hc := h.calls S Φ (fun i => ρ (σ i)) (fun i => φ (σ i)) w vs hS hΦ (by simpa using hl) (fun i x v hx hvi => ?_) (fun id o hi => ?_) (fun id o b hi hb => ?_) fun id id' o o' b hi hi' hb hb' => ?_
    · refine hc.mono fun e w' ⟨v, ρ1, φ1, e1, e2, e3, e4, e5, e6, e7⟩ => ?_
      have hSof : ∀ b, Sof ⟨w, S, Φ, fun i => ρ (σ i)⟩ φ1 (mget M1) w' b → Sof ⟨w, S, Φ, ρ⟩ (fun i => φ1 (τ i)) (mget (mren σ M1)) w' b := fun b hb => ⟨hb.1, fun id o hi hf => by
        obtain ⟨o0, h3, rfl⟩ := hold _ _ _ hi
        exact hb.2.1 _ _ h3 hf, hb.2.2⟩
      refine ⟨v, fun i => ρ1 (τ i), fun i => φ1 (τ i), e1, e2, e3.ren hSof fun id _ => by simp only [h1], fun id o hi => ?_, fun id o b hi hb => ?_, fun id id' o o' b hi hi' hb hb' => ?_, fun id o hi hI => ?_⟩
      · obtain ⟨o0, h3, rfl⟩ := hold _ _ _ hi
        have := (e4 _ _ h3).ren (σ := σ) (ρ' := fun i => ρ1 (τ i)) (φ' := fun i => φ1 (τ i)) hSof (fun i _ => by simp only [h1]) (by simp only [h2]) fun b hb => by simp only [h2]; exact hb
        rwa [h2] at this
      · obtain ⟨o0, h3, rfl⟩ := hold _ _ _ hi
        exact e5 _ _ b h3 hb
      · obtain ⟨o0, h3, rfl⟩ := hold _ _ _ hi
        obtain ⟨o1, h4, rfl⟩ := hold _ _ _ hi'
        have := e6 _ _ _ _ b h3 h4 hb hb'
        rw [← h2 id, this, h2]
      · obtain ⟨o0, h3, rfl⟩ := hold _ _ _ hi
        have := e7 _ _ h3 (fun e => hI (by have := hget M0 (τ id); rw [h2, e] at this; exact this))
        simp only [h2] at this
        exact this
    · have hx' : (args.map (AV.ren σ))[i]? = some (x.ren σ) := by rw [List.getElem?_map, hx]; rfl
      have := (hv i _ v hx' hvi).ren (σ := τ) (ρ' := fun i => ρ (σ i)) (S' := S) (fun _ hb => hb) fun id _ => by simp only [h2]
      rwa [AV.ren_ren h1] at this
    · have hi' : mget (mren σ M0) (σ id) = some (o.ren σ) := by rw [hget, hi]; rfl
      have := (hobj _ _ hi').ren (σ := τ) (ρ' := fun i => ρ (σ i)) (φ' := fun i => φ (σ i)) (S' := S) (fun _ hb => hb) (fun i _ => by simp only [h2]) (by simp only [h1]) fun b hb => by simp only [h1]; exact hb
      rwa [AObj.ren_ren h1, h1] at this
    · have hi' : mget (mren σ M0) (σ id) = some (o.ren σ) := by rw [hget, hi]; rfl
      exact hfoot _ _ b hi' hb
    · have h3 : mget (mren σ M0) (σ id) = some (o.ren σ) := by rw [hget, hi]; rfl
      have h4 : mget (mren σ M0) (σ id') = some (o'.ren σ) := by rw [hget, hi']; rfl
      exact inj _ _ (hdisj _ _ _ _ b h3 h4 hb hb')
/-- Class 1 and another class, changed for each other. -/
def csw (k : Nat) (i : Nm) : Nm := if i.1 = 1 then (k, i.2) else if i.1 = k then (1, i.2) else i
theorem csw_csw (k : Nat) (i : Nm) : csw k (csw k i) = i := by
  obtain ⟨a, b⟩ := i
  unfold csw
  by_cases h1 : a = 1
  · subst h1
    by_cases h2 : k = 1 <;> simp [h2]
  · by_cases h2 : a = k
    · subst h2
      simp [h1]
    · simp [h1, h2]
theorem CallH.cls {P : Program} {g : FuncId} {args : List AV} {ans : AV} {M0 M1 : LM} (h : CallH P g args M0 ans M1) (k : Nat) : CallH P g (args.map (AV.ren (csw k))) (mren (csw k) M0) (ans.ren (csw k)) (mren (csw k) M1) := h.ren (csw_csw k) (csw_csw k)
theorem CallH.nm {P : Program} {g : FuncId} {args : List AV} {ans : AV} {M0 M1 : LM} (h : CallH P g args M0 ans M1) (x y : Nm) : CallH P g (args.map (AV.ren (swp x y))) (mren (swp x y) M0) (ans.ren (swp x y)) (mren (swp x y) M1) := h.ren (swp_swp x y) (swp_swp x y)
end
/-- The same contract, in other words. -/
theorem CallH.as {P : Program} {g : FuncId} {args args' : List AV} {ans ans' : AV} {M0 M0' M1 M1' : LM} (h : CallH P g args M0 ans M1) (e : args = args' ∧ M0 = M0' ∧ ans = ans' ∧ M1 = M1') : CallH P g args' M0' ans' M1' := by
  obtain ⟨rfl, rfl, rfl, rfl⟩ := e
  exact h

/-- A part of a tuple, frozen. -/
def frzSum (m : Nm → Option AObj) : List Cell ⊕ Cell → Option (List Cell ⊕ Cell)
  | .inl l => (mapO (frz m 5) l).map fun ds => .inl (ds.map .d)
  | .inr c => (frz m 5 c).map fun d => .inr (.d d)
/-- An answer, frozen. -/
def frzA (m : Nm → Option AObj) : AV → Option AV
  | .one c => frzAV m (.one c)
  | .agg l => frzAV m (.agg l)
  | .tup l => (mapO (frzSum m) l).map .tup
theorem frzA_ok {w0 : Bas} {N : Nat} {ρ : Place} {φ : Foot} {f : Nat → AV} {m : Nm → Option AObj} {a : Act} {w : World} (h : StR w0 N ρ φ f m a w) {x y : AV} {v : Value} (hc : frzA m x = some y) (hv : AVR ρ (Sof w0 φ m w) w x v) {T : Nat → Prop} (hT : ∀ b, Sof w0 φ m w b → T b) (hk : ∀ id o b, m id = some o → φ id b → T b) : AVR ρ T w y v := by
  cases x with
  | one c => exact frzAV_ok h (show frzAV m (.one c) = some y from hc) hv hT fun id o b _ => hk id o b
  | agg l => exact frzAV_ok h (show frzAV m (.agg l) = some y from hc) hv hT fun id o b _ => hk id o b
  | tup l =>
    simp only [frzA, Option.map_eq_some_iff] at hc
    obtain ⟨l', hl, rfl⟩ := hc
    obtain ⟨vs, h1, h2, h3⟩ := hv
    obtain ⟨h4, h5⟩ := mapO_get hl
    refine ⟨vs, h1, by rw [h2, h4], fun i y u hy hu => ?_⟩
    obtain ⟨x, hx, hxy⟩ := h5 i y hy
    have hs := h3 i x u hx hu
    cases x with
    | inl cs =>
      simp only [frzSum, Option.map_eq_some_iff] at hxy
      obtain ⟨ds, hd, rfl⟩ := hxy
      exact frzAV_ok h (x := .agg cs) (y := .agg (ds.map .d)) (by simp [frzAV, hd]) hs hT fun id o b _ => hk id o b
    | inr c =>
      simp only [frzSum, Option.map_eq_some_iff] at hxy
      obtain ⟨d, hd, rfl⟩ := hxy
      exact frzAV_ok h (x := .one c) (y := .one (.d d)) (by simp [frzAV, hd]) hs hT fun id o b _ => hk id o b
/-- A contract whose answer is own, as one whose answer is data. -/
theorem CallH.frz {P : Program} {g : FuncId} {args : List AV} {ans ans' : AV} {M1 : LM} (h : CallH P g args [] ans M1) (h0 : (M1.all fun p => Nat.blt 0 p.1.1) = true) (hf : frzA (mget M1) ans = some ans') (hs : ans'.ids = []) : CallH P g args [] ans' [] := by
  refine ⟨h.body, ⟨fun id hid => (by rw [hs] at hid; cases hid), fun i o hi => (by simp [mget] at hi)⟩, fun S Φ ρ φ w vs hS hΦ hl hv hobj hfoot hdisj => ?_⟩
  refine (h.calls S Φ ρ φ w vs hS hΦ hl hv hobj hfoot hdisj).mono fun e w' ⟨v, ρ1, φ1, e1, e2, e3, e4, e5, e6, e7⟩ => ?_
  have st : StR ⟨w, S, Φ, ρ⟩ 0 ρ1 φ1 (fun _ => .one .any) (mget M1) ⟨#[], []⟩ w' := ⟨e2, rfl, rfl, fun t v ht => by simp at ht, e4, fun id o b hm hb => (e5 id o b hm hb).1, fun id o b hm hb => (e5 id o b hm hb).2, e6, fun id o hz hm => by
    have := List.all_eq_true.1 h0 _ (mget_mem hm)
    rw [Nat.blt_eq] at this
    simp only at this
    omega⟩
  refine ⟨v, ρ1, φ1, e1, e2, frzA_ok st hf e3 (fun b hb => ⟨hb.1, fun i o hi => by simp [mget] at hi, hb.2.2⟩) fun id o b hm hb => ⟨(e5 id o b hm hb).1, fun i o hi => by simp [mget] at hi, (e5 id o b hm hb).2.elim (fun h => .inr (.inl h)) fun h => .inr (.inr h)⟩, fun id o hi => by simp [mget] at hi, fun id o b hi => by simp [mget] at hi, fun id id' o o' b hi => by simp [mget] at hi, fun id o hi => by simp [mget] at hi⟩
section
variable {P : Program} {w0 : Bas} {N nx : Nat} {F : LF} {M : LM} {a : Act} {w : World}
/-- What is answered, own objects with it. -/
def retO (P : Program) (N : Nat) (F : LF) (M : LM) (rs : List ResultVar) : Option AV := match rs.mapM (aRes P N F M) with
  | some xs => ansOf xs
  | none => none
theorem r_retO {fn : Func} {S Φ : Nat → Prop} {P0 : Place} {wb : World} {ans : AV} {M1 : LM} (hw : w0 = ⟨wb, S, Φ, P0⟩) (h : SL w0 N nx F M a w) (rs : List ResultVar) (hr : fn.results.toList = rs) (ks : List Nm) (e : retO P N F M rs = some ans ∧ mkeep M ks = M1) :
    bodyPost P fn (HPost S Φ (fun id => id.1 = 0) P0 wb ans (mget M1)) .ret a w := by
  subst hr
  obtain ⟨e, hM⟩ := e
  unfold retO at e
  split at e
  · rename_i xs hx
    exact r_ret ks hw h hx e hM
  · cases e
end

/-- A nil slice is data without elements. -/
theorem nil_view {S : Nat → Prop} {w : World} {v : Value} (h : v = .slice none 0 0) : View S w (.sl []) v := by rw [h]; exact view_nil
section
variable {w0 : Bas} {N nx : Nat} {F : LF} {M : LM} {a : Act} {w : World}
/-- The rule: a nil slot as data. -/
theorem SL.nilS (h : SL w0 N nx F M a w) (t : Nat) (ht : fget F t = .one .nil) : SL w0 N nx ((t, .one (.d (.sl []))) :: F) M a w := by
  obtain ⟨⟨ρ, φ, hst⟩, hn, hp⟩ := h
  refine ⟨⟨ρ, φ, hst.mv, hst.dfr, hst.size, fun k v hk => ?_, hst.objs, hst.lt, hst.base, hst.disj, hst.stab⟩, ⟨fun k q hq => ?_, hn.2⟩, hp⟩
  · simp only [fget]
    by_cases e : k = t
    · subst e
      rw [if_pos rfl]
      have := hst.regs k v hk
      rw [ht] at this
      exact nil_view this
    · rw [if_neg e]
      exact hst.regs k v hk
  · simp only [fget] at hq
    by_cases e : k = t
    · subst e
      rw [if_pos rfl] at hq
      cases hq
    · rw [if_neg e] at hq
      exact hn.1 k q hq
/-- The rule: a nil cell of a box as data. -/
theorem SL.nilB (h : SL w0 N nx F M a w) (id : Nm) (k : Nat) {bt : Nat} {l : List Cell} (hm : mget M id = some (.box bt l)) (hk : l[k]? = some .nil) : SL w0 N nx F ((id, some (.box bt (l.set k (.d (.sl []))))) :: M) a w := by
  obtain ⟨⟨ρ, φ, hst⟩, hn, hp⟩ := h
  have hkl : k < l.length := (List.getElem?_eq_some_iff.1 hk).1
  refine ⟨⟨ρ, φ, (hst.write id _ (.box bt (l.set k (.d (.sl [])))) hm (Mv.refl _ w) ?_).1⟩, ⟨hn.1, fun q o hq => ?_⟩, hp⟩
  · obtain ⟨b, cur, h1, h2, h3, h4⟩ := hst.objs id _ hm
    refine ⟨b, cur, h1, h2, h3, by rw [List.length_set]; exact h4.1, fun i c v hc hv => ?_⟩
    rw [List.getElem?_set] at hc
    by_cases e : k = i
    · subst e
      rw [if_pos rfl, if_pos hkl] at hc
      injection hc with hc
      subst hc
      have := h4.2 k _ v hk hv
      exact ⟨nil_view this.1, this.2⟩
    · rw [if_neg e] at hc
      exact h4.2 i c v hc hv
  · simp only [mget, mput, mset] at hq
    by_cases e : q = id
    · rw [if_pos e] at hq
      injection hq with hq
      subst hq e
      refine ⟨(hn.2 q _ hm).1, fun x hx => ?_⟩
      simp only [AObj.ids, List.mem_flatMap] at hx
      obtain ⟨c, hc, hx⟩ := hx
      rcases List.mem_or_eq_of_mem_set hc with h3 | h3
      · exact (hn.2 q _ hm).2 x (List.mem_flatMap.2 ⟨c, h3, hx⟩)
      · subst h3
        cases hx
    · rw [if_neg e] at hq
      exact hn.2 q o hq
end
end Go.Proofs.Yteohodhcegbmmaa
