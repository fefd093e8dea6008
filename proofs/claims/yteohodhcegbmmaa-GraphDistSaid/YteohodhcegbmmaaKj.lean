/- Calls: what a function does with data and with objects that it is handed; the step. No condition. -/
import Derived.Test.YteohodhcegbmmaaKi
set_option linter.unusedSimpArgs false
set_option linter.unusedVariables false
namespace Go.Proofs.Yteohodhcegbmmaa
open Go.RowKit

abbrev LM := List Upd
def mget : LM → Nm → Option AObj
  | [] => fun _ => none
  | u :: r => mput (mget r) u
def hasBody (P : Program) (g : FuncId) : Bool :=
  match P.funcs[g]? with
  | some fn => !(fn.name == "runtime.NumGoroutine") && fn.body.isSome
  | none => false
/-- What a call leaves: its answer; the objects that it was handed or that it made. -/
def HPost (S Φ : Nat → Prop) (I : Nm → Prop) (P0 : Place) (w : World) (ans : AV) (m1 : Nm → Option AObj) (e : Ending) (w' : World) : Prop :=
  ∃ v ρ φ, e = .returned v ∧ Mv Φ w w' ∧ AVR ρ (Sof ⟨w, S, Φ, P0⟩ φ m1 w') w' ans v ∧ (∀ id o, m1 id = some o → OR ρ φ (Sof ⟨w, S, Φ, P0⟩ φ m1 w') w' id o) ∧ (∀ id o b, m1 id = some o → φ id b → b < w'.heap.size ∧ (Φ b ∨ w.heap.size ≤ b)) ∧
    (∀ id id' o o' b, m1 id = some o → m1 id' = some o' → φ id b → φ id' b → id = id') ∧ ∀ id o, m1 id = some o → I id → ρ id = P0 id
/-- A function's contract at arguments that may name objects (M0); its answer, and the objects behind it (M1). -/
structure CallH (P : Program) (g : FuncId) (args : List AV) (M0 : LM) (ans : AV) (M1 : LM) : Prop where
  body : hasBody P g = true
  shut : (∀ id ∈ ans.ids, mget M1 id ≠ none) ∧ ∀ i o, mget M1 i = some o → ∀ id ∈ o.ids, mget M1 id ≠ none
  calls : ∀ (S Φ : Nat → Prop) (ρ : Place) (φ : Foot) (w : World) (vs : List Value), (∀ b, S b → b < w.heap.size ∧ ¬ Φ b) → (∀ b, Φ b → b < w.heap.size) → vs.length = args.length →
    (∀ (i : Nat) (x : AV) (v : Value), args[i]? = some x → vs[i]? = some v → AVR ρ S w x v) → (∀ id o, mget M0 id = some o → OR ρ φ S w id o) → (∀ id o b, mget M0 id = some o → φ id b → Φ b) →
    (∀ id id' o o' b, mget M0 id = some o → mget M0 id' = some o' → φ id b → φ id' b → id = id') →
    Calls P g vs.toArray w (HPost S Φ (fun id => mget M0 id ≠ none) ρ w ans (mget M1))

def frzAV (m : Nm → Option AObj) : AV → Option AV
  | .one c => (frz m 5 c).map fun d => .one (.d d)
  | .agg l => (mapO (frz m 5) l).map fun ds => .agg (ds.map .d)
  | .tup _ => none
def reachAV (m : Nm → Option AObj) : AV → List Nm
  | .one c => reach m 5 c
  | .agg l => l.flatMap (reach m 5)
  | .tup _ => []
def frzAVs (m : Nm → Option AObj) : List AV → Option (List AV)
  | [] => some []
  | x :: xs => match frzAV m x, frzAVs m xs with
    | some y, some ys => some (y :: ys)
    | _, _ => none
theorem frzAVs_get {m : Nm → Option AObj} : ∀ {xs ys : List AV}, frzAVs m xs = some ys → ys.length = xs.length ∧ ∀ (i : Nat) (x : AV), xs[i]? = some x → ∃ y, ys[i]? = some y ∧ frzAV m x = some y
  | [], ys, h => by simp only [frzAVs, Option.some.injEq] at h; subst h; simp
  | x :: xs, ys, h => by
    simp only [frzAVs] at h
    split at h
    · rename_i y ys' h1 h2
      injection h with h
      subst h
      obtain ⟨hl, hg⟩ := frzAVs_get h2
      refine ⟨by simp [hl], fun i c' hi => ?_⟩
      cases i with
      | zero => simp at hi; subst hi; exact ⟨y, rfl, h1⟩
      | succ i => simpa using hg i c' (by simpa using hi)
    · cases h

def cleanC : Cell → Bool
  | .d (.int _ _) => true
  | .d (.bool _) => true
  | .d (.str _) => true
  | .d _ => false
  | _ => true
def cleanS : List Cell ⊕ Cell → Bool
  | .inl l => l.all cleanC
  | .inr c => cleanC c
def AV.clean : AV → Bool
  | .one c => cleanC c
  | .agg l => l.all cleanC
  | .tup l => l.all cleanS
def AObj.clean : AObj → Bool
  | .box _ l => l.all cleanC
  | .row _ _ l => l.all fun r => r.all cleanC
  | .map _ _ _ _ _ => false
section
variable {ρ ρ' : Place} {S S' : Nat → Prop} {w : World}
theorem clean_cv {c : Cell} {v : Value} (hs : cleanC c = true) (h : CV ρ S w c v) (hρ : ∀ id ∈ c.ids, ρ' id = ρ id) : CV ρ' S' w c v := by
  have key : CV ρ S' w c v := by
    cases c with
    | d c =>
      cases c with
      | int k n => cases (show View S w (.int k n) v from h); exact View.int _ _
      | bool b => cases (show View S w (.bool b) v from h); exact View.bool _
      | str s => cases (show View S w (.str s) v from h); exact View.str _
      | _ => cases hs
    | _ => exact h
  exact key.next (fun _ _ => rfl) (fun _ h => h) hρ
theorem clean_cvs {l : List Cell} {vs : List Value} (hs : l.all cleanC = true) (h : CVs ρ S w l vs) (hρ : ∀ id ∈ l.flatMap Cell.ids, ρ' id = ρ id) : CVs ρ' S' w l vs :=
  ⟨h.1, fun i c v hc hv => ⟨clean_cv (List.all_eq_true.1 hs c (List.mem_of_getElem? hc)) (h.2 i c v hc hv).1 fun id hid => hρ id (List.mem_flatMap.2 ⟨c, List.mem_of_getElem? hc, hid⟩), (h.2 i c v hc hv).2⟩⟩
theorem clean_av {x : AV} {v : Value} (hs : x.clean = true) (h : AVR ρ S w x v) (hρ : ∀ id ∈ x.ids, ρ' id = ρ id) : AVR ρ' S' w x v := by
  cases x with
  | one c => exact clean_cv hs h hρ
  | agg l =>
    obtain ⟨vs, e, hc⟩ := h
    exact ⟨vs, e, clean_cvs hs hc hρ⟩
  | tup l =>
    obtain ⟨vs, e, hl, hc⟩ := h
    refine ⟨vs, e, hl, fun i x v hx hv => ?_⟩
    have h1 := hc i x v hx hv
    have h2 := List.all_eq_true.1 hs x (List.mem_of_getElem? hx)
    have h3 : ∀ id ∈ sumIds x, ρ' id = ρ id := fun id hid => hρ id (List.mem_flatMap.2 ⟨x, List.mem_of_getElem? hx, hid⟩)
    cases x with
    | inl l =>
      obtain ⟨us, e', hu⟩ := h1
      exact ⟨us, e', clean_cvs h2 hu h3⟩
    | inr c => exact clean_cv h2 h1 h3
theorem clean_or {φ φ' : Foot} {id : Nm} {o : AObj} (hs : o.clean = true) (h : OR ρ φ S w id o) (hid : ρ' id = ρ id) (hρ : ∀ i ∈ o.ids, ρ' i = ρ i) (hφ : ∀ b, φ id b → φ' id b) : OR ρ' φ' S' w id o := by
  cases o with
  | box ty l => exact let ⟨b, cur, hr, hf, hh, hc⟩ := h; ⟨b, cur, hid.trans hr, hφ b hf, hh, clean_cvs hs hc hρ⟩
  | row ty sz l =>
    refine ⟨h.1, ?_⟩
    rcases h.2 with ⟨hr, hl⟩ | ⟨b, base, cap, hr, cur, G, h0, h1, h2, h3, h4, h5, h6⟩
    · exact .inl ⟨hid.trans hr, hl⟩
    · refine .inr ⟨b, base, cap, hid.trans hr, cur, G, hφ b h0, h1, h2, h3, fun i r hi => ⟨(h4 i r hi).1, fun j d hd => ?_⟩, fun i j x hx => ⟨hφ x (h5 i j x hx).1, (h5 i j x hx).2⟩, h6⟩
      obtain ⟨v, hv, ho, hcv, ht⟩ := (h4 i r hi).2 j d hd
      have hc := List.all_eq_true.1 (List.all_eq_true.1 hs r (List.mem_of_getElem? hi)) d (List.mem_of_getElem? hd)
      exact ⟨v, hv, ho, clean_cv hc hcv fun k hk => hρ k (List.mem_flatMap.2 ⟨r, List.mem_of_getElem? hi, List.mem_flatMap.2 ⟨d, List.mem_of_getElem? hd, hk⟩⟩), ht⟩
  | map kt et ag n l => cases hs
end

/-- A fact on a call, in the caller's own names. -/
structure Fact (P : Program) where
  g : FuncId
  raw : Bool
  args : List AV
  M0 : LM
  ans : AV
  M1 : LM
  ok : CallH P g args M0 ans M1
  r0 : raw = false → M0 = []
  key : Option Nat
def Fact.clean {P : Program} (z : Fact P) : Bool := z.ans.clean && z.M1.all fun u => match u.2 with | some o => o.clean | none => true
theorem mget_mem : ∀ {M : LM} {id : Nm} {o : AObj}, mget M id = some o → (id, some o) ∈ M
  | [], _, _, h => by simp [mget] at h
  | u :: M, id, o, h => by
    simp only [mget, mput, mset] at h
    by_cases e : id = u.1
    · rw [if_pos e] at h
      rw [e, ← h]
      simp
    · rw [if_neg e] at h
      exact List.mem_cons_of_mem _ (mget_mem h)
def kills (ks : List Nm) : List Upd := ks.map fun i => (i, none)
theorem mupd_kills : ∀ (ks : List Nm) (m : Nm → Option AObj) (i : Nm), mupd m (kills ks) i = if i ∈ ks then none else m i
  | [], _, _ => by simp [kills, mupd]
  | k :: ks, m, i => by
    have := mupd_kills ks (mset m k none) i
    simp only [kills, List.map_cons, mupd, mput] at this ⊢
    rw [this]
    simp only [mset, List.mem_cons]
    by_cases h1 : i ∈ ks <;> by_cases h2 : i = k <;> simp [h1, h2]
theorem mupd_append : ∀ (U V : List Upd) (m : Nm → Option AObj), mupd m (U ++ V) = mupd (mupd m U) V
  | [], _, _ => rfl
  | _ :: U, V, _ => mupd_append U V _
/-- What M1 holds is laid over what is there. -/
def outs (M1 : LM) : List Upd := M1.reverse
theorem mupd_outs : ∀ (M1 : LM) (m : Nm → Option AObj) (i : Nm), mupd m (outs M1) i = if i ∈ M1.map (·.1) then mget M1 i else m i
  | [], m, i => by simp [outs, mupd]
  | u :: M1, m, i => by
    have ih := mupd_outs M1 m i
    simp only [outs, List.reverse_cons] at ih ⊢
    rw [mupd_append]
    simp only [mupd, mput, mset, mget, List.map_cons, List.mem_cons]
    by_cases e : i = u.1
    · simp [e]
    · simp only [e, if_false, false_or, ih]
/-- The fact fits the call. -/
def Fact.fits {P : Program} (z : Fact P) (m : Nm → Option AObj) (fr : Nat) (xs : List AV) : Prop :=
  (z.key = none ∨ z.key = some fr) ∧ (if z.raw = true then z.args = xs else frzAVs m xs = some z.args) ∧ (∀ p ∈ z.M0, p.2 ≠ none ∧ m p.1 = p.2 ∧ p.1 ∈ xs.flatMap (reachAV m)) ∧ (z.M0.map (·.1)).Nodup ∧ ∀ p ∈ z.M1, p.1.1 = fr ∨ p.1 ∈ z.M0.map (·.1)
def Fact.ks {P : Program} (z : Fact P) (m : Nm → Option AObj) (xs : List AV) : List Nm := if z.raw = true then z.M0.map (·.1) else if z.clean = true then [] else xs.flatMap (reachAV m)

section
variable {P : Program} {w0 : Bas} {N : Nat} {ρ ρ' : Place} {φ φ' : Foot} {f : Nat → AV} {m : Nm → Option AObj} {a : Act} {w w' : World} {o : Oper}
/-- What a call leaves joins what is in sight. -/
theorem StR.join (h : StR w0 N ρ φ f m a w) (dst : Option Tmp) {ks : List Nm} {M1 : LM} {ans : AV} {S Φ : Nat → Prop} {I : Nm → Prop} {e : Ending} (hp : HPost S Φ I ρ w ans (mget M1) e w')
    (hsh : (∀ id ∈ ans.ids, mget M1 id ≠ none) ∧ ∀ i o, mget M1 i = some o → ∀ id ∈ o.ids, mget M1 id ≠ none)
    (hfr : ∀ id ∈ M1.map (·.1), Fresh f m id ∨ I id) (hI : ∀ id, I id → id ∈ ks ∧ ∃ o, m id = some o) (hΦ : ∀ b, Φ b → ∃ id o, I id ∧ m id = some o ∧ φ id b)
    (hSS : (ans.clean = true ∧ ∀ i o, mget M1 i = some o → o.clean = true) ∨ ∀ b, S b → Sof w0 φ (mupd m (kills ks)) w b) :
    ∃ v, e = .returned v ∧ St w0 N (fput f dst ans) (mupd m (kills ks ++ outs M1)) (a.put dst v) w' := by
  obtain ⟨v, ρ', φ', rfl, hmv, hav, hob, hfp, hdj, hst⟩ := hp
  refine ⟨v, rfl, fun id => if mget M1 id ≠ none then ρ' id else ρ id, fun id => if mget M1 id ≠ none then φ' id else φ id, ?_⟩
  have hm' : ∀ id, mupd m (kills ks ++ outs M1) id = if id ∈ M1.map (·.1) then mget M1 id else if id ∈ ks then none else m id := fun id => by
    rw [mupd_append, mupd_outs, mupd_kills]
  have hin : ∀ {id : Nm}, mget M1 id ≠ none → id ∈ M1.map (·.1) := fun {id} hne => by
    cases e : mget M1 id with
    | none => exact absurd e hne
    | some o => exact List.mem_map.2 ⟨_, mget_mem e, rfl⟩
  -- names in sight keep their places
  have sight : ∀ id, (∀ hf : Fresh f m id, False) → mget M1 id ≠ none → ρ' id = ρ id := fun id hnf hne => by
    rcases hfr id (hin hne) with h1 | h1
    · exact (hnf h1).elim
    · cases e : mget M1 id with
      | none => exact absurd e hne
      | some o => exact hst id o e h1
  have hnew : ∀ id o, (id ∈ ks ∨ id ∈ M1.map (·.1)) → mupd m (kills ks ++ outs M1) id = some o → mget M1 id = some o := fun id o hk hi => by
    rw [hm'] at hi
    split at hi
    · exact hi
    · rename_i h1
      rw [if_pos (hk.resolve_right h1)] at hi
      cases hi
  have hold : ∀ id o, ¬ (id ∈ ks ∨ id ∈ M1.map (·.1)) → mupd m (kills ks ++ outs M1) id = some o → m id = some o ∧ mget M1 id = none := fun id o hk hi => by
    rw [hm', if_neg (fun h1 => hk (.inr h1)), if_neg (fun h1 => hk (.inl h1))] at hi
    refine ⟨hi, ?_⟩
    cases e : mget M1 id with
    | none => rfl
    | some x => exact absurd (hin (by rw [e]; simp)) fun h1 => hk (.inr h1)
  have lift : ∀ (b : Nat), (b < w'.heap.size ∧ (∀ id o, mget M1 id = some o → ¬ φ' id b) ∧ (Φ b ∨ w.heap.size ≤ b)) → Sof w0 (fun id => if mget M1 id ≠ none then φ' id else φ id) (mupd m (kills ks ++ outs M1)) w' b := fun b hb => by
    refine ⟨hb.1, fun id o hi hf => ?_, ?_⟩
    · by_cases hk : id ∈ ks ∨ id ∈ M1.map (·.1)
      · have h1 := hnew id o hk hi
        have hne : mget M1 id ≠ none := by rw [h1]; simp
        simp only [if_pos hne] at hf
        exact hb.2.1 id o h1 hf
      · obtain ⟨h1, h2⟩ := hold id o hk hi
        simp only [h2, ne_eq, not_true, if_false] at hf
        rcases hb.2.2 with h3 | h3
        · obtain ⟨i, o', hii, h4, h5⟩ := hΦ b h3
          exact hk (.inl (by rw [h.disj id i o o' b h1 h4 hf h5]; exact (hI i hii).1))
        · have := h.lt id o b h1 hf
          omega
    · rcases hb.2.2 with h3 | h3
      · obtain ⟨i, o', hii, h4, h5⟩ := hΦ b h3
        rcases h.base i o' b h4 h5 with h6 | h6
        · exact .inr (.inl h6)
        · exact .inr (.inr h6)
      · exact .inr (.inr (Nat.le_trans h.mv.size h3))
  have hS0 : ∀ b, Sof w0 φ m w b → Sof w0 (fun id => if mget M1 id ≠ none then φ' id else φ id) (mupd m (kills ks ++ outs M1)) w' b := Sof.step h.lt (fun id => id ∈ ks ∨ id ∈ M1.map (·.1)) hmv.size (fun id o hk hi => (hold id o hk hi).1) (fun id o hk hi b hf => by
      simp only [(hold id o hk hi).2, ne_eq, not_true, if_false] at hf
      exact hf) fun id o b hk hi hf => by
      have h1 := hnew id o hk hi
      have hne : mget M1 id ≠ none := by rw [h1]; simp
      simp only [if_pos hne] at hf
      rcases (hfp id o b h1 hf).2 with h2 | h2
      · obtain ⟨i, o', _, h4, h5⟩ := hΦ b h2
        exact .inr ⟨i, o', h4, h5⟩
      · exact .inl h2
  have hSk : ∀ b, Sof w0 φ (mupd m (kills ks)) w b → b < w'.heap.size → (∀ id o, mget M1 id = some o → ¬ φ' id b) → Sof w0 (fun id => if mget M1 id ≠ none then φ' id else φ id) (mupd m (kills ks ++ outs M1)) w' b := fun b hb hlt hno => by
    refine ⟨hlt, fun id o hi hf => ?_, hb.2.2⟩
    by_cases hk : id ∈ ks ∨ id ∈ M1.map (·.1)
    · have h1 := hnew id o hk hi
      have hne : mget M1 id ≠ none := by rw [h1]; simp
      simp only [if_pos hne] at hf
      exact hno id o h1 hf
    · obtain ⟨h1, h2⟩ := hold id o hk hi
      simp only [h2, ne_eq, not_true, if_false] at hf
      refine hb.2.1 id o ?_ hf
      rw [mupd_kills, if_neg (fun h3 => hk (.inl h3))]
      exact h1
  have avr : ∀ {x : AV} {u : Value}, (∀ id ∈ x.ids, mget M1 id ≠ none) → (x.clean = true ∨ ∀ b, S b → Sof w0 φ (mupd m (kills ks)) w b) → AVR ρ' (Sof ⟨w, S, Φ, ρ⟩ φ' (mget M1) w') w' x u → AVR (fun id => if mget M1 id ≠ none then ρ' id else ρ id) (Sof w0 (fun id => if mget M1 id ≠ none then φ' id else φ id) (mupd m (kills ks ++ outs M1)) w') w' x u := fun {x u} hids hc hx => by
    have hρ : ∀ id ∈ x.ids, (fun id => if mget M1 id ≠ none then ρ' id else ρ id) id = ρ' id := fun id hid => if_pos (hids id hid)
    rcases hc with hc | hc
    · exact clean_av hc hx hρ
    · refine hx.next (fun _ _ => rfl) (fun b hb => ?_) hρ
      rcases hb.2.2 with h1 | h1
      · exact hSk b (hc b h1) hb.1 hb.2.1
      · exact lift b ⟨hb.1, hb.2.1, h1⟩
  have hstep := h.step (w' := w') (m' := mupd m (kills ks ++ outs M1)) (ρ' := fun id => if mget M1 id ≠ none then ρ' id else ρ id) (φ' := fun id => if mget M1 id ≠ none then φ' id else φ id) (fun id => id ∈ ks ∨ id ∈ M1.map (·.1)) (hmv.mono fun b hb => by
      obtain ⟨i, o', hii, h4, h5⟩ := hΦ b hb
      exact ⟨i, o', .inl (hI i hii).1, h4, h5⟩) (fun id o hk hi => (hold id o hk hi).1) (fun id o hk hi b => by simp only [(hold id o hk hi).2, ne_eq, not_true, if_false]) (fun id o hk hi => ⟨by simp only [(hold id o hk hi).2, ne_eq, not_true, if_false], fun i hii => ?_⟩) (fun t i hi => ?_) (fun id o b hk hi hf => ?_) (fun id id' o o' b hk hk' hi hi' hf hf' => ?_) (fun id o hk h0 hi => ?_) fun hS id o hk hi => ?_
  · exact ⟨hstep.1.mv, (put_dfr a dst v).trans hstep.1.dfr, (put_size a dst v).trans hstep.1.size, regs_put hstep.1.regs (avr hsh.1 (hSS.imp (·.1) id) hav), hstep.1.objs, hstep.1.lt, hstep.1.base, hstep.1.disj, hstep.1.stab⟩
  · show (if mget M1 i ≠ none then ρ' i else ρ i) = ρ i
    split
    · rename_i hne
      exact sight i (fun hf => hf.hm id o (hold id o hk hi).1 hii) hne
    · rfl
  · show (if mget M1 i ≠ none then ρ' i else ρ i) = ρ i
    split
    · rename_i hne
      exact sight i (fun hf => hf.hf t hi) hne
    · rfl
  · have h1 := hnew id o hk hi
    have hne : mget M1 id ≠ none := by rw [h1]; simp
    simp only [if_pos hne] at hf
    obtain ⟨h2, h3⟩ := hfp id o b h1 hf
    rcases h3 with h3 | h3
    · obtain ⟨i, o', hii, h4, h5⟩ := hΦ b h3
      exact .inr ⟨i, o', .inl (hI i hii).1, h4, h5⟩
    · exact .inl ⟨h3, h2⟩
  · have h1 := hnew id o hk hi
    have h2 := hnew id' o' hk' hi'
    have hne : mget M1 id ≠ none := by rw [h1]; simp
    have hne' : mget M1 id' ≠ none := by rw [h2]; simp
    simp only [if_pos hne] at hf
    simp only [if_pos hne'] at hf'
    exact hdj id id' o o' b h1 h2 hf hf'
  · have h1 := hnew id o hk hi
    have hne : mget M1 id ≠ none := by rw [h1]; simp
    rcases hfr id (hin hne) with h2 | h2
    · exact absurd h0 h2.h0
    · obtain ⟨_, o', h3⟩ := hI id h2
      exact ⟨o', h3, by simp only [if_pos hne]; exact hst id o h1 h2⟩
  · have h1 := hnew id o hk hi
    have hne : mget M1 id ≠ none := by rw [h1]; simp
    have hρ : ∀ i ∈ o.ids, (fun id => if mget M1 id ≠ none then ρ' id else ρ id) i = ρ' i := fun i hi => if_pos (hsh.2 id o h1 i hi)
    have hφ : ∀ b, φ' id b → (fun id => if mget M1 id ≠ none then φ' id else φ id) id b := fun b hb => by simp only [if_pos hne]; exact hb
    rcases hSS with hc | hc
    · exact clean_or (hc.2 id o h1) (hob id o h1) (if_pos hne) hρ hφ
    · refine (hob id o h1).next (fun _ _ => rfl) (fun b hb => ?_) hρ (if_pos hne) (fun _ _ => rfl) hφ
      rcases hb.2.2 with h3 | h3
      · exact hSk b (hc b h3) hb.1 hb.2.1
      · exact lift b ⟨hb.1, hb.2.1, h3⟩
end
end Go.Proofs.Yteohodhcegbmmaa
