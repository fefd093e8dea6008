/- The rules on the lists: freeze, open, fold, nil as an own empty row or as an owned empty cell. No condition. -/
import Derived.Test.YteohodhcegbmmaaKu
set_option linter.unusedSimpArgs false
set_option linter.unusedVariables false
namespace Go.Proofs.Yteohodhcegbmmaa
open Go.RowKit

def memN (id : Nm) : List Nm → Bool
  | [] => false
  | k :: r => if id = k then true else memN id r
theorem memN_mem {id : Nm} : ∀ {ks : List Nm}, memN id ks = true → id ∈ ks
  | k :: r, h => by
    simp only [memN] at h
    split at h
    · rename_i e; rw [e]; simp
    · exact List.mem_cons_of_mem _ (memN_mem h)
/-- A cell with what is frozen. -/
def gcell (ks : List Nm) (m : Nm → Option AObj) (c : Cell) : Cell :=
  if (c.ids.any fun id => memN id ks) = true then
    if ((reach m 5 c).all fun id => memN id ks) = true then match frz m 5 c with
      | some d => .d d
      | none => .any
    else .any
  else c
def sumMap (g : Cell → Cell) : List Cell ⊕ Cell → List Cell ⊕ Cell
  | .inl l => .inl (l.map g)
  | .inr c => .inr (g c)
def AV.mapC (g : Cell → Cell) : AV → AV
  | .one c => .one (g c)
  | .agg l => .agg (l.map g)
  | .tup l => .tup (l.map (sumMap g))
def boxMap (g : Cell → Cell) : AObj → AObj
  | .box ty l => .box ty (l.map g)
  | o => o
section
variable {w0 : Bas} {N nx : Nat} {ρ : Place} {φ : Foot} {f f' : Nat → AV} {m m' : Nm → Option AObj} {a : Act} {w : World} {F F' : LF} {M M' : LM}

/-- Objects are frozen: what named them is data. -/
theorem StR.freeze (h : StR w0 N ρ φ f m a w) (ks : List Nm) (hf : ∀ t, f' t = (f t).mapC (gcell ks m)) (hm : ∀ id o', m' id = some o' → id ∉ ks ∧ ∃ o, m id = some o ∧ o' = boxMap (gcell ks m) o) : StR w0 N ρ φ f' m' a w := by
  have hS : ∀ b, Sof w0 φ m w b → Sof w0 φ m' w b := fun b hb => ⟨hb.1, fun id o' hi hx => by
    obtain ⟨_, o, h1, _⟩ := hm id o' hi
    exact hb.2.1 id o h1 hx, hb.2.2⟩
  have key : ∀ c v, CV ρ (Sof w0 φ m w) w c v → CV ρ (Sof w0 φ m' w) w (gcell ks m c) v := fun c v hc => by
    unfold gcell
    split
    · split
      · rename_i _ hall
        split
        · rename_i d hd
          refine frz_ok h hS hd hc fun id o b hid hi hx => ⟨h.lt id o b hi hx, fun i o' hi' hx' => ?_, by rcases h.base id o b hi hx with h5 | h5; exact .inr (.inl h5); exact .inr (.inr h5)⟩
          obtain ⟨h1, o1, h2, _⟩ := hm i o' hi'
          have := h.disj i id o1 o b h2 hi hx' hx
          subst this
          exact h1 (memN_mem (List.all_eq_true.1 hall i hid))
        · trivial
      · trivial
    · exact hc.next (fun _ _ => rfl) hS (fun _ _ => rfl)
  have keys : ∀ l vs, CVs ρ (Sof w0 φ m w) w l vs → CVs ρ (Sof w0 φ m' w) w (l.map (gcell ks m)) vs := fun l vs hc => ⟨by rw [List.length_map]; exact hc.1, fun i c v hi hv => by
    rw [List.getElem?_map] at hi
    obtain ⟨c0, h0, rfl⟩ := Option.map_eq_some_iff.1 hi
    exact ⟨key c0 v (hc.2 i c0 v h0 hv).1, (hc.2 i c0 v h0 hv).2⟩⟩
  refine ⟨h.mv, h.dfr, h.size, fun t v ht => ?_, fun id o' hi => ?_, fun id o' b hi => ?_, fun id o' b hi => ?_, fun id id' o1 o2 b hi hi' => ?_, fun id o' h0 hi => ?_⟩
  · rw [hf]
    have := h.regs t v ht
    revert this
    generalize f t = x
    intro hx
    cases x with
    | one c => exact key c v hx
    | agg l => exact let ⟨vs, e, hc⟩ := hx; ⟨vs, e, keys l vs hc⟩
    | tup l =>
      obtain ⟨vs, e, hl, hc⟩ := hx
      refine ⟨vs, e, by rw [List.length_map]; exact hl, fun i y u hi hu => ?_⟩
      rw [List.getElem?_map] at hi
      obtain ⟨y0, h0, rfl⟩ := Option.map_eq_some_iff.1 hi
      have := hc i y0 u h0 hu
      cases y0 with
      | inl l => exact let ⟨us, e, hc⟩ := this; ⟨us, e, keys l us hc⟩
      | inr c => exact key c u this
  · obtain ⟨_, o, h1, rfl⟩ := hm id o' hi
    have ho := h.objs id o h1
    cases o with
    | box ty l => exact let ⟨b, cur, hr, hx, hh, hc⟩ := ho; ⟨b, cur, hr, hx, hh, keys l _ hc⟩
    | row ty sz l => exact ho.next (fun _ _ => rfl) hS (fun _ _ => rfl) rfl (fun _ _ => rfl) fun _ hb => hb
    | map kt et ag n l => exact ho.next (fun _ _ => rfl) hS (fun _ _ => rfl) rfl (fun _ _ => rfl) fun _ hb => hb
  · obtain ⟨_, o, h1, _⟩ := hm id o' hi
    exact h.lt id o b h1
  · obtain ⟨_, o, h1, _⟩ := hm id o' hi
    exact h.base id o b h1
  · obtain ⟨_, o, h1, _⟩ := hm id o1 hi
    obtain ⟨_, o3, h2, _⟩ := hm id' o2 hi'
    exact h.disj id id' o o3 b h1 h2
  · obtain ⟨_, o, h1, _⟩ := hm id o' hi
    exact h.stab id o h0 h1
def ffrz (ks : List Nm) (m : Nm → Option AObj) (F : LF) : LF := F.map fun p => (p.1, p.2.mapC (gcell ks m))
def mfrz (ks : List Nm) (m : Nm → Option AObj) (M : LM) : LM := M.map fun u => (u.1, if memN u.1 ks = true then none else u.2.map (boxMap (gcell ks m)))
theorem fget_frz (ks : List Nm) (m : Nm → Option AObj) (t : Nat) : ∀ F, fget (ffrz ks m F) t = (fget F t).mapC (gcell ks m)
  | [] => by simp [ffrz, fget, AV.mapC, gcell, Cell.ids]
  | (k, v) :: F => by
    have ih := fget_frz ks m t F
    simp only [ffrz] at ih
    simp only [ffrz, List.map_cons, fget, ih]
    split <;> rfl
theorem mget_frz (ks : List Nm) (m : Nm → Option AObj) (i : Nm) : ∀ M, mget (mfrz ks m M) i = if memN i ks = true then none else (mget M i).map (boxMap (gcell ks m))
  | [] => by simp [mfrz, mget]
  | (k, o) :: M => by
    have ih := mget_frz ks m i M
    simp only [mfrz] at ih
    simp only [mfrz, List.map_cons, mget, mput, mset, ih]
    by_cases e : i = k
    · subst e
      simp only [if_true]
    · simp only [if_neg e]
theorem memN_of {id : Nm} : ∀ {ks : List Nm}, id ∈ ks → memN id ks = true
  | k :: r, h => by
    simp only [memN]
    split
    · rfl
    · rename_i e
      rcases List.mem_cons.1 h with h | h
      · exact absurd h e
      · exact memN_of h
theorem SL.freeze (h : SL w0 N nx F M a w) (ks : List Nm) (eF : ffrz ks (mget M) F = F') (eM : mfrz ks (mget M) M = M') (e : okN nx F' M' = true) : SL w0 N nx F' M' a w := by
  obtain ⟨⟨ρ, φ, hst⟩, hn, hp⟩ := h
  refine ⟨⟨ρ, φ, hst.freeze ks (fun t => by rw [← eF, fget_frz]) fun id o' hi => ?_⟩, (names_ok e).1, hp⟩
  rw [← eM, mget_frz] at hi
  split at hi
  · cases hi
  · rename_i hk
    obtain ⟨o, ho, rfl⟩ := Option.map_eq_some_iff.1 hi
    exact ⟨fun hid => hk (memN_of hid), o, ho, rfl⟩

theorem SL.fresh (h : SL w0 N nx F M a w) (k : Nat) : Fresh (fget F) (mget M) (nx, k) :=
  ⟨fun t hid => Nat.lt_irrefl _ (h.nm.1 t _ hid), fun i o hi hid => Nat.lt_irrefl _ ((h.nm.2 i o hi).2 _ hid), by
    cases e : mget M (nx, k) with
    | none => rfl
    | some o => exact absurd (h.nm.2 _ o e).1 (Nat.lt_irrefl _), fun e => by have := h.pos; simp only at e; omega⟩
/-- The rule: a cell that owns a slice is opened. -/
theorem SL.open_ (h : SL w0 N nx F M a w) {e sz e' sz' : Nat} {cols : Nat → TD} {l : List (List Cell)} {r : List Cell} {L : List (List C)} (id : Nm) (i j : Nat) (hm : mget M id = some (.row e sz l)) (hi : l[i]? = some r) (hj : r[j]? = some (.tr (.sl e' sz' cols) (.sl L))) :
    SL w0 N (nx + 1) F (((nx, 0), some (.row e' sz' (openRows cols L))) :: (id, some (.row e sz (l.set i (r.set j (.own (nx, 0) L.length))))) :: M) a w := by
  have hfr := h.fresh 0
  obtain ⟨⟨ρ, φ, hst⟩, hn, hp⟩ := h
  obtain ⟨ρ', φ', h1⟩ := hst.open_ hm hi hj hfr
  refine ⟨⟨ρ', φ', h1⟩, ⟨fun t q hq => Nat.lt_succ_of_lt (hn.1 t q hq), fun k o hk => ?_⟩, by omega⟩
  simp only [mget, mput, mset] at hk
  split at hk
  · rename_i e1
    injection hk with hk
    subst hk
    rw [e1]
    exact ⟨Nat.lt_succ_self _, fun q hq => by rw [show (AObj.row e' sz' (openRows cols L)).ids = [] from openRows_ids cols L] at hq; cases hq⟩
  · split at hk
    · rename_i e1
      injection hk with hk
      subst hk
      rw [e1]
      refine ⟨Nat.lt_succ_of_lt (hn.2 id _ hm).1, fun q hq => ?_⟩
      obtain ⟨r1, hr1, hq⟩ := List.mem_flatMap.1 hq
      obtain ⟨c, hc, hq2⟩ := List.mem_flatMap.1 hq
      rcases List.mem_or_eq_of_mem_set hr1 with h2 | h2
      · exact Nat.lt_succ_of_lt ((hn.2 id _ hm).2 q (List.mem_flatMap.2 ⟨r1, h2, List.mem_flatMap.2 ⟨c, hc, hq2⟩⟩))
      · subst h2
        rcases List.mem_or_eq_of_mem_set hc with h3 | h3
        · exact Nat.lt_succ_of_lt ((hn.2 id _ hm).2 q (List.mem_flatMap.2 ⟨r, List.mem_of_getElem? hi, List.mem_flatMap.2 ⟨c, h3, hq2⟩⟩))
        · subst h3
          simp only [Cell.ids, List.mem_singleton] at hq2
          subst hq2
          exact Nat.lt_succ_self _
    · exact ⟨Nat.lt_succ_of_lt (hn.2 k o hk).1, fun q hq => Nat.lt_succ_of_lt ((hn.2 k o hk).2 q hq)⟩
def scRows (cols : Nat → TD) (L : List (List C)) : Prop := ∀ r ∈ L, ∀ (j : Nat) (c : C), r[j]? = some c → cols j = .sc → Cell.scB c = true
/-- The rule: a named slice that a cell holds is folded. -/
theorem SL.fold_ (h : SL w0 N nx F M a w) {e sz e' sz' n : Nat} {cols : Nat → TD} {l l' : List (List Cell)} {r : List Cell} {L : List (List C)} (id ch : Nm) (i j : Nat) (hm : mget M id = some (.row e sz l)) (hi : l[i]? = some r) (hj : r[j]? = some (.own ch n)) (hc : mget M ch = some (.row e' sz' l')) (hl : l' = openRows cols L) (hn : L.length = n) (hne : ch ≠ id) (hsc : scRows cols L) :
    SL w0 N nx F ((id, some (.row e sz (l.set i (r.set j (.tr (.sl e' sz' cols) (.sl L)))))) :: (ch, none) :: M) a w := by
  subst hl
  obtain ⟨⟨ρ, φ, hst⟩, hnm, hp⟩ := h
  obtain ⟨φ', h1⟩ := hst.fold_ hm hi hj hc hn hne hsc
  refine ⟨⟨ρ, φ', h1⟩, ⟨hnm.1, fun k o hk => ?_⟩, hp⟩
  simp only [mget, mput, mset] at hk
  split at hk
  · rename_i e1
    injection hk with hk
    subst hk
    rw [e1]
    refine ⟨(hnm.2 id _ hm).1, fun q hq => ?_⟩
    obtain ⟨r1, hr1, hq⟩ := List.mem_flatMap.1 hq
    obtain ⟨c, hc, hq2⟩ := List.mem_flatMap.1 hq
    rcases List.mem_or_eq_of_mem_set hr1 with h2 | h2
    · exact (hnm.2 id _ hm).2 q (List.mem_flatMap.2 ⟨r1, h2, List.mem_flatMap.2 ⟨c, hc, hq2⟩⟩)
    · subst h2
      rcases List.mem_or_eq_of_mem_set hc with h3 | h3
      · exact (hnm.2 id _ hm).2 q (List.mem_flatMap.2 ⟨r, List.mem_of_getElem? hi, List.mem_flatMap.2 ⟨c, h3, hq2⟩⟩)
      · subst h3
        cases hq2
  · split at hk
    · cases hk
    · exact hnm.2 k o hk

/-- Nil as an own empty row: in a slot. -/
theorem SL.bornS (h : SL w0 N nx F M a w) (t : Nat) (ty sz : Nat) (ht : fget F t = .one .nil) : SL w0 N (nx + 1) ((t, .one (.own (nx, 0) 0)) :: F) (((nx, 0), some (.row ty sz [])) :: M) a w := by
  have hfr := h.fresh 0
  obtain ⟨⟨ρ, φ, hst⟩, hn, hp⟩ := h
  have hstep := (hst.step (w' := w) (ρ' := pset ρ (nx, 0) none) (φ' := fset φ (nx, 0) fun _ => False) (m' := mset (mget M) (nx, 0) (some (.row ty sz []))) (fun k => k = (nx, 0)) (Mv.refl _ w) (fun k o hk hi => by simpa only [mset, if_neg hk] using hi) (fun k o hk hi x => by simp only [fset, if_neg hk]) (fun k o hk hi => ⟨if_neg hk, fun q hq => if_neg fun (e : q = (nx, 0)) => hfr.hm k o (by simpa only [mset, if_neg hk] using hi) (e ▸ hq)⟩) (fun t q hq => if_neg fun (e : q = (nx, 0)) => hfr.hf t (e ▸ hq)) (fun k o x hk hi hx => by subst hk; simp only [fset, if_true] at hx) (fun k k' _ _ _ hk hk' _ _ _ _ => by rw [hk, hk']) (fun k o hk h0 hi => absurd h0 (by rw [hk]; exact hfr.h0)) fun hS k o hk hi => by
    subst hk
    simp only [mset, if_true] at hi
    injection hi with hi
    subst hi
    exact ⟨by simp, .inl ⟨if_pos rfl, rfl⟩⟩).1
  refine ⟨⟨_, _, hstep.mv, hstep.dfr, hstep.size, fun t' v ht' => ?_, hstep.objs, hstep.lt, hstep.base, hstep.disj, hstep.stab⟩, ⟨fun t' q hq => ?_, fun k o hk => ?_⟩, by omega⟩
  · simp only [fget]
    split
    · rename_i e1
      subst e1
      have := hstep.regs t' v ht'
      rw [ht] at this
      exact .inr ⟨if_pos rfl, rfl, none, this⟩
    · exact hstep.regs t' v ht'
  · simp only [fget] at hq
    split at hq
    · simp only [AV.ids, Cell.ids, List.mem_singleton] at hq
      subst hq
      exact Nat.lt_succ_self _
    · exact Nat.lt_succ_of_lt (hn.1 t' q hq)
  · simp only [mget, mput, mset] at hk
    split at hk
    · rename_i e1
      injection hk with hk
      subst hk
      rw [e1]
      exact ⟨Nat.lt_succ_self _, fun q hq => by simp [AObj.ids] at hq⟩
    · exact ⟨Nat.lt_succ_of_lt (hn.2 k o hk).1, fun q hq => Nat.lt_succ_of_lt ((hn.2 k o hk).2 q hq)⟩
/-- Nil as an own empty row: in a box. -/
theorem SL.bornB (h : SL w0 N nx F M a w) (id : Nm) (k ty sz : Nat) {bt : Nat} {l : List Cell} (hm : mget M id = some (.box bt l)) (hk : l[k]? = some .nil) : SL w0 N (nx + 1) F ((id, some (.box bt (l.set k (.own (nx, 0) 0)))) :: ((nx, 0), some (.row ty sz [])) :: M) a w := by
  have hfr := h.fresh 0
  obtain ⟨⟨ρ, φ, hst⟩, hn, hp⟩ := h
  have hne : id ≠ (nx, 0) := fun e => by have := hfr.hn; rw [← e, hm] at this; cases this
  have hkl : k < l.length := (List.getElem?_eq_some_iff.1 hk).1
  have hms : ∀ q o', (q = id ∨ q = (nx, 0)) → mset (mset (mget M) (nx, 0) (some (.row ty sz []))) id (some (.box bt (l.set k (.own (nx, 0) 0)))) q = some o' → (q = id ∧ o' = .box bt (l.set k (.own (nx, 0) 0))) ∨ (q = (nx, 0) ∧ o' = .row ty sz []) := fun q o' hq hi => by
    simp only [mset] at hi
    by_cases e1 : q = id
    · rw [if_pos e1] at hi; injection hi with hi; exact .inl ⟨e1, hi.symm⟩
    · rw [if_neg e1, if_pos (hq.resolve_left e1)] at hi; injection hi with hi; exact .inr ⟨hq.resolve_left e1, hi.symm⟩
  have hold : ∀ q o', ¬ (q = id ∨ q = (nx, 0)) → mset (mset (mget M) (nx, 0) (some (.row ty sz []))) id (some (.box bt (l.set k (.own (nx, 0) 0)))) q = some o' → mget M q = some o' := fun q o' hq hi => by
    simp only [mset, if_neg (fun e => hq (.inl e)), if_neg (fun e => hq (.inr e))] at hi
    exact hi
  have hstep := (hst.step (w' := w) (ρ' := pset ρ (nx, 0) none) (φ' := fset φ (nx, 0) fun _ => False) (m' := mset (mset (mget M) (nx, 0) (some (.row ty sz []))) id (some (.box bt (l.set k (.own (nx, 0) 0))))) (fun q => q = id ∨ q = (nx, 0)) (Mv.refl _ w) hold (fun q o hq hi x => by simp only [fset, if_neg (fun e => hq (.inr e))]) (fun q o hq hi => ⟨if_neg fun e => hq (.inr e), fun p hp => if_neg fun (e : p = (nx, 0)) => hfr.hm q o (hold q o hq hi) (e ▸ hp)⟩) (fun t q hq => if_neg fun (e : q = (nx, 0)) => hfr.hf t (e ▸ hq)) (fun q o x hq hi hx => .inr ⟨id, _, .inl rfl, hm, ?_⟩) (fun q q' o1 o2 x hq hq' hi hi' hx hx' => ?_) (fun q o hq h0 hi => ?_) fun hS q o hq hi => ?_).1
  · refine ⟨⟨_, _, hstep⟩, ⟨fun t' q hq => Nat.lt_succ_of_lt (hn.1 t' q hq), fun q o hq => ?_⟩, by omega⟩
    simp only [mget, mput, mset] at hq
    split at hq
    · rename_i e1
      injection hq with hq
      subst hq
      rw [e1]
      refine ⟨Nat.lt_succ_of_lt (hn.2 id _ hm).1, fun p hp => ?_⟩
      obtain ⟨c, hc, hp⟩ := List.mem_flatMap.1 hp
      rcases List.mem_or_eq_of_mem_set hc with h3 | h3
      · exact Nat.lt_succ_of_lt ((hn.2 id _ hm).2 p (List.mem_flatMap.2 ⟨c, h3, hp⟩))
      · subst h3
        simp only [Cell.ids, List.mem_singleton] at hp
        subst hp
        exact Nat.lt_succ_self _
    · split at hq
      · rename_i e1
        injection hq with hq
        subst hq
        rw [e1]
        exact ⟨Nat.lt_succ_self _, fun p hp => by simp [AObj.ids] at hp⟩
      · exact ⟨Nat.lt_succ_of_lt (hn.2 q o hq).1, fun p hp => Nat.lt_succ_of_lt ((hn.2 q o hq).2 p hp)⟩
  · rcases hms q o hq hi with ⟨rfl, _⟩ | ⟨rfl, _⟩
    · simpa only [fset, if_neg hne] using hx
    · simp only [fset, if_true] at hx
  · rcases hms q o1 hq hi with ⟨rfl, _⟩ | ⟨rfl, _⟩ <;> rcases hms q' o2 hq' hi' with ⟨rfl, _⟩ | ⟨rfl, _⟩
    · rfl
    · simp only [fset, if_true] at hx'
    · simp only [fset, if_true] at hx
    · rfl
  · rcases hms q o hq hi with ⟨rfl, _⟩ | ⟨rfl, _⟩
    · exact ⟨_, hm, if_neg hne⟩
    · exact absurd h0 hfr.h0
  · rcases hms q o hq hi with ⟨rfl, rfl⟩ | ⟨rfl, rfl⟩
    · obtain ⟨b, cur, hr, hx, hh, hc⟩ := hst.objs q _ hm
      refine ⟨b, cur, by rw [show pset ρ (nx, 0) none q = ρ q from if_neg hne]; exact hr, by simpa only [fset, if_neg hne] using hx, hh, by rw [List.length_set]; exact hc.1, fun i c v hi hv => ?_⟩
      rw [List.getElem?_set] at hi
      by_cases e1 : k = i
      · subst e1
        rw [if_pos rfl, if_pos hkl] at hi
        injection hi with hi
        subst hi
        obtain ⟨h1, h2⟩ := hc.2 k _ v hk hv
        exact ⟨.inr ⟨if_pos rfl, rfl, none, h1⟩, h2⟩
      · rw [if_neg e1] at hi
        obtain ⟨h1, h2⟩ := hc.2 i c v hi hv
        exact ⟨h1.next (fun _ _ => rfl) hS fun p hp => if_neg fun (e : p = (nx, 0)) => hfr.hm q _ hm (e ▸ List.mem_flatMap.2 ⟨c, List.mem_of_getElem? hi, hp⟩), h2⟩
    · exact ⟨by simp, .inl ⟨if_pos rfl, rfl⟩⟩

/-- Nil cells of a row as owned empty slices. -/
def CellTo (c c' : Cell) : Prop := c' = c ∨ (c = .nil ∧ c' = .d (.sl [])) ∨ (c = .nil ∧ ∃ e sz cols, c' = .tr (.sl e sz cols) (.sl []))
def RowTo (r r' : List Cell) : Prop := r'.length = r.length ∧ ∀ (j : Nat) (c' : Cell), r'[j]? = some c' → ∃ c, r[j]? = some c ∧ CellTo c c'
def RowsTo (l l' : List (List Cell)) : Prop := l'.length = l.length ∧ ∀ (i : Nat) (r' : List Cell), l'[i]? = some r' → ∃ r, l[i]? = some r ∧ RowTo r r'
theorem RowTo.refl (r : List Cell) : RowTo r r := ⟨rfl, fun j c h => ⟨c, h, .inl rfl⟩⟩
theorem RowTo.nil : RowTo [] [] := RowTo.refl _
theorem RowTo.cons {c c' : Cell} {r r' : List Cell} (h : CellTo c c') (k : RowTo r r') : RowTo (c :: r) (c' :: r') := by
  refine ⟨by simp [k.1], fun j d hj => ?_⟩
  cases j with
  | zero => simp at hj; subst hj; exact ⟨c, rfl, h⟩
  | succ j => exact k.2 j d (by simpa using hj)
theorem RowsTo.refl (l : List (List Cell)) : RowsTo l l := ⟨rfl, fun i r h => ⟨r, h, RowTo.refl r⟩⟩
theorem RowsTo.cons {r r' : List Cell} {l l' : List (List Cell)} (h : RowTo r r') (k : RowsTo l l') : RowsTo (r :: l) (r' :: l') := by
  refine ⟨by simp [k.1], fun j d hj => ?_⟩
  cases j with
  | zero => simp at hj; subst hj; exact ⟨r, rfl, h⟩
  | succ j => exact k.2 j d (by simpa using hj)
theorem RowsTo.append {l l' k k' : List (List Cell)} (h : RowsTo l l') (g : RowsTo k k') : RowsTo (l ++ k) (l' ++ k') := by
  refine ⟨by simp [h.1, g.1], fun i r hi => ?_⟩
  rcases Nat.lt_or_ge i l'.length with h1 | h1
  · rw [List.getElem?_append_left h1] at hi
    rw [List.getElem?_append_left (by rw [← h.1]; exact h1)]
    exact h.2 i r hi
  · rw [List.getElem?_append_right h1] at hi
    rw [List.getElem?_append_right (by rw [← h.1]; exact h1), ← h.1]
    exact g.2 _ r hi
theorem RowsTo.rep {r r' : List Cell} (h : RowTo r r') (n : Nat) : RowsTo (List.replicate n r) (List.replicate n r') := by
  refine ⟨by simp, fun i q hi => ?_⟩
  rw [List.getElem?_replicate] at hi
  split at hi
  · rename_i hlt
    injection hi with hi
    subst hi
    exact ⟨r, by rw [List.getElem?_replicate, if_pos hlt], h⟩
  · cases hi
theorem RowsTo.set {l l' : List (List Cell)} (h : RowsTo l l') {r r' : List Cell} (k : RowTo r r') (i : Nat) : RowsTo (l.set i r) (l'.set i r') := by
  refine ⟨by simp [h.1], fun j q hj => ?_⟩
  rw [List.getElem?_set] at hj
  by_cases e : i = j
  · subst e
    rw [if_pos rfl] at hj
    split at hj
    · rename_i hlt
      injection hj with hj
      subst hj
      exact ⟨r, by rw [List.getElem?_set, if_pos rfl, if_pos (by rw [← h.1]; exact hlt)], k⟩
    · cases hj
  · rw [if_neg e] at hj
    obtain ⟨r0, h1, h2⟩ := h.2 j q hj
    exact ⟨r0, by rw [List.getElem?_set, if_neg e]; exact h1, h2⟩
/-- In a row that ends so, or where one was set: a named slice is folded. -/
theorem SL.foldL (h : SL w0 N nx F M a w) {e sz e' sz' n : Nat} {cols : Nat → TD} {l' : List (List Cell)} (id ch : Nm) (l : List (List Cell)) (r : List Cell) (j : Nat) (L : List (List C)) (hm : mget M id = some (.row e sz (l ++ [r]))) (hj : r[j]? = some (.own ch n)) (hc : mget M ch = some (.row e' sz' l')) (hl : l' = openRows cols L) (hn : L.length = n) (hne : ch ≠ id) (hsc : scRows cols L) :
    SL w0 N nx F ((id, some (.row e sz (l ++ [r.set j (.tr (.sl e' sz' cols) (.sl L))]))) :: (ch, none) :: M) a w := by
  have := h.fold_ id ch l.length j hm (by simp) hj hc hl hn hne hsc
  rw [List.set_append_right _ _ (Nat.le_refl _), Nat.sub_self] at this
  exact this
theorem SL.foldS (h : SL w0 N nx F M a w) {e sz e' sz' n : Nat} {cols : Nat → TD} {l' : List (List Cell)} (id ch : Nm) (l : List (List Cell)) (i : Nat) (r : List Cell) (j : Nat) (L : List (List C)) (hm : mget M id = some (.row e sz (l.set i r))) (hi : i < l.length) (hj : r[j]? = some (.own ch n)) (hc : mget M ch = some (.row e' sz' l')) (hl : l' = openRows cols L) (hn : L.length = n) (hne : ch ≠ id) (hsc : scRows cols L) :
    SL w0 N nx F ((id, some (.row e sz (l.set i (r.set j (.tr (.sl e' sz' cols) (.sl L)))))) :: (ch, none) :: M) a w := by
  have := h.fold_ id ch i j hm (by rw [List.getElem?_set, if_pos rfl, if_pos hi]) hj hc hl hn hne hsc
  rwa [List.set_set] at this
theorem SL.nilTr (h : SL w0 N nx F M a w) (id : Nm) {ty sz : Nat} {l l' : List (List Cell)} (hm : mget M id = some (.row ty sz l)) (ht : RowsTo l l') : SL w0 N nx F ((id, some (.row ty sz l')) :: M) a w := by
  obtain ⟨⟨ρ, φ, hst⟩, hn, hp⟩ := h
  refine ⟨⟨ρ, φ, (hst.write id _ (.row ty sz l') hm (Mv.refl _ w) ?_).1⟩, ⟨hn.1, fun q o hq => ?_⟩, hp⟩
  · have hrow := hst.objs id _ hm
    refine ⟨by rw [ht.1]; exact hrow.1, ?_⟩
    rcases hrow.2 with ⟨hr, hl⟩ | ⟨b, base, cap, hr, cur, G, h0, h1, h2, h3, h4, h5, h6⟩
    · exact .inl ⟨hr, List.eq_nil_of_length_eq_zero (by rw [ht.1, hl]; rfl)⟩
    · refine .inr ⟨b, base, cap, hr, cur, G, h0, h1, by rw [ht.1]; exact h2, h3, fun i r' hi => ?_, h5, h6⟩
      obtain ⟨r, hr0, hrt⟩ := ht.2 i r' hi
      obtain ⟨h7, h8⟩ := h4 i r hr0
      refine ⟨by rw [hrt.1]; exact h7, fun j d' hj => ?_⟩
      obtain ⟨d, hd, hc⟩ := hrt.2 j d' hj
      obtain ⟨v, hv, hrc⟩ := h8 j d hd
      refine ⟨v, hv, ?_⟩
      rcases hc with rfl | ⟨rfl, rfl⟩ | ⟨rfl, e, s, cols, rfl⟩
      · exact hrc
      · refine ⟨hrc.1, ?_, fun T c ee => by cases ee⟩
        rw [show v = .slice none 0 0 from hrc.2.1]
        exact view_nil
      · refine ⟨hrc.1, trivial, fun T c ee => ?_⟩
        injection ee with e1 e2
        subst e1 e2
        rw [show v = .slice none 0 0 from hrc.2.1]
        exact Tree.nil e s cols none _
  · simp only [mget, mput, mset] at hq
    split at hq
    · rename_i e1
      injection hq with hq
      subst hq
      rw [e1]
      refine ⟨(hn.2 id _ hm).1, fun p hp => ?_⟩
      obtain ⟨r', hr', hp⟩ := List.mem_flatMap.1 hp
      obtain ⟨d', hd', hp⟩ := List.mem_flatMap.1 hp
      obtain ⟨i, hi⟩ := List.mem_iff_getElem?.1 hr'
      obtain ⟨r, hr0, hrt⟩ := ht.2 i r' hi
      obtain ⟨j, hj⟩ := List.mem_iff_getElem?.1 hd'
      obtain ⟨d, hd, hc⟩ := hrt.2 j d' hj
      rcases hc with rfl | ⟨rfl, rfl⟩ | ⟨rfl, e, s, cols, rfl⟩
      · exact (hn.2 id _ hm).2 p (List.mem_flatMap.2 ⟨r, List.mem_of_getElem? hr0, List.mem_flatMap.2 ⟨_, List.mem_of_getElem? hd, hp⟩⟩)
      · cases hp
      · cases hp
    · exact hn.2 q o hq
end
end Go.Proofs.Yteohodhcegbmmaa
