/- Names counted anew, other names for the same state, loops. No condition. -/
import Derived.Test.YteohodhcegbmmaaKs
set_option linter.unusedSimpArgs false
set_option linter.unusedVariables false
namespace Go.Proofs.Yteohodhcegbmmaa
open Go.RowKit

def okN (nx : Nat) (F : LF) (M : LM) : Bool := Nat.blt 0 nx && F.all (fun p => (p.2.ids.map (·.1)).all fun id => Nat.blt id nx) && (uIds M).all fun id => Nat.blt id nx
theorem fget_ids {F : LF} {t : Nat} {id : Nm} : id ∈ (fget F t).ids → ∃ p ∈ F, id ∈ p.2.ids := by
  induction F with
  | nil => intro h; simp [fget, AV.ids, Cell.ids] at h
  | cons q F ih =>
    obtain ⟨k, v⟩ := q
    intro h
    simp only [fget] at h
    split at h
    · exact ⟨(k, v), by simp, h⟩
    · obtain ⟨p, hp, hi⟩ := ih h
      exact ⟨p, List.mem_cons_of_mem _ hp, hi⟩
section
variable {P : Program} {w0 : Bas} {N nx : Nat} {F F' : LF} {M M' : LM} {a : Act} {w : World} {Q : Exit → Act → World → Prop}
theorem names_ok {nx : Nat} (e : okN nx F M = true) : Names (· < nx) (fget F, mget M) ∧ 0 < nx := by
  simp only [okN, Bool.and_eq_true, List.all_eq_true] at e
  refine ⟨⟨fun t id hid => ?_, fun i o ho => ?_⟩, by have := e.1.1; rwa [Nat.blt_eq] at this⟩
  · obtain ⟨p, hp, hi⟩ := fget_ids hid
    have := e.1.2 p hp id.1 (List.mem_map.2 ⟨id, hi, rfl⟩)
    rw [Nat.blt_eq] at this
    exact this
  · have h1 := mget_uIds (M := M) ho
    have key : ∀ k, k ∈ uIds M → k < nx := fun k hk => by
      have := e.2 k hk
      rw [Nat.blt_eq] at this
      exact this
    exact ⟨key _ h1.1, fun id hid => key _ (h1.2 id hid)⟩
/-- The names, counted anew. -/
theorem SL.count (h : SL w0 N nx F M a w) (nx' : Nat) (e : okN nx' F M = true) : SL w0 N nx' F M a w := ⟨h.st, (names_ok e).1, (names_ok e).2⟩
/-- A loop whose measure falls. -/
theorem r_while {c : Code} (J : Nat → Act → World → Prop) (n : Nat) (h0 : J n a w) (round : ∀ n a w, J n a w → c.wp P (Exit.then (fun a w => ∃ n', n' < n ∧ J n' a w) Q) a w) : (Code.loop c).wp P Q a w := by
  have mono : ∀ (K K' : Act → World → Prop), (∀ a w, K a w → K' a w) → ∀ e a w, Exit.then K Q e a w → Exit.then K' Q e a w := fun K K' hk e a w he => by
    cases e <;> first | exact hk a w he | exact he
  have key : ∀ m n a w, n < m → J n a w → Code.rounds P c Q m a w := by
    intro m
    induction m with
    | zero => intro n a w h; omega
    | succ m ih =>
      intro n a w hn hJ
      exact Code.wp_mono (mono _ _ fun a w ⟨n', h1, h2⟩ => ih n' a w (by omega) h2) (round n a w hJ)
  exact wp_loop_rounds (n + 1) (key (n + 1) n a w (by omega) h0)
end
def Cell.ren (σ : Nm → Nm) : Cell → Cell
  | .ptr id o => .ptr (σ id) o
  | .eptr id s i j => .eptr (σ id) s i j
  | .own id n => .own (σ id) n
  | .sub id s o n => .sub (σ id) s o n
  | .fnp g caps => .fnp g (caps.map fun p => (σ p.1, p.2))
  | .mp id => .mp (σ id)
  | c => c
def sumRen (σ : Nm → Nm) : List Cell ⊕ Cell → List Cell ⊕ Cell
  | .inl l => .inl (l.map (Cell.ren σ))
  | .inr c => .inr (c.ren σ)
def AV.ren (σ : Nm → Nm) : AV → AV
  | .one c => .one (c.ren σ)
  | .agg l => .agg (l.map (Cell.ren σ))
  | .tup l => .tup (l.map (sumRen σ))
def AObj.ren (σ : Nm → Nm) : AObj → AObj
  | .box ty l => .box ty (l.map (Cell.ren σ))
  | .row ty sz l => .row ty sz (l.map fun r => r.map (Cell.ren σ))
  | .map kt et ag n l => .map kt et ag n l


section
variable {w0 : Bas} {N : Nat} {ρ ρ' : Place} {φ φ' : Foot} {S S' : Nat → Prop} {f f' : Nat → AV} {m m' : Nm → Option AObj} {a : Act} {w : World} {σ : Nm → Nm}
theorem CV.ren {c : Cell} {v : Value} (h : CV ρ S w c v) (hS : ∀ b, S b → S' b) (hρ : ∀ id ∈ c.ids, ρ' (σ id) = ρ id) : CV ρ' S' w (c.ren σ) v := by
  cases c with
  | d c => exact View.keep h (fun _ _ => rfl) hS
  | tr T c => trivial
  | ptr id off => exact let ⟨b, c, hr, hv⟩ := h; ⟨b, c, (hρ id (by simp [Cell.ids])).trans hr, hv⟩
  | eptr id sz i j => exact let ⟨b, x, c, hr, hv⟩ := h; ⟨b, x, c, (hρ id (by simp [Cell.ids])).trans hr, hv⟩
  | own id n =>
    have e := hρ id (by simp [Cell.ids])
    rcases h with ⟨b, x, c, hr, hv⟩ | ⟨hr, hv⟩
    · exact .inl ⟨b, x, c, e.trans hr, hv⟩
    · exact .inr ⟨e.trans hr, hv⟩
  | sub id sz off n =>
    have e := hρ id (by simp [Cell.ids])
    rcases h with ⟨b, x, c, A, hr, hv⟩ | ⟨hr, hv⟩
    · exact .inl ⟨b, x, c, A, e.trans hr, hv⟩
    · exact .inr ⟨e.trans hr, hv⟩
  | fnp g caps =>
    obtain ⟨vs, hv, hl, hc⟩ := h
    refine ⟨vs, hv, by rw [List.length_map]; exact hl, fun i p x hp hx => ?_⟩
    rw [List.getElem?_map] at hp
    obtain ⟨p0, hp0, rfl⟩ := Option.map_eq_some_iff.1 hp
    obtain ⟨b, q, hr, hx'⟩ := hc i p0 x hp0 hx
    exact ⟨b, q, (hρ p0.1 (List.mem_map.2 ⟨p0, List.mem_of_getElem? hp0, rfl⟩)).trans hr, hx'⟩
  | mp id => exact let ⟨b, q, hr, hv⟩ := h; ⟨b, q, (hρ id (by simp [Cell.ids])).trans hr, hv⟩
  | bb e n => exact h
  | nil => exact h
  | any => trivial
theorem CVs.ren {l : List Cell} {vs : List Value} (h : CVs ρ S w l vs) (hS : ∀ b, S b → S' b) (hρ : ∀ id ∈ l.flatMap Cell.ids, ρ' (σ id) = ρ id) : CVs ρ' S' w (l.map (Cell.ren σ)) vs :=
  ⟨by rw [List.length_map]; exact h.1, fun i c v hc hv => by
    rw [List.getElem?_map] at hc
    obtain ⟨c0, hc0, rfl⟩ := Option.map_eq_some_iff.1 hc
    exact ⟨(h.2 i c0 v hc0 hv).1.ren hS fun id hid => hρ id (List.mem_flatMap.2 ⟨c0, List.mem_of_getElem? hc0, hid⟩), (h.2 i c0 v hc0 hv).2⟩⟩
theorem SV.ren {x : List Cell ⊕ Cell} {v : Value} (h : SV ρ S w x v) (hS : ∀ b, S b → S' b) (hρ : ∀ id ∈ sumIds x, ρ' (σ id) = ρ id) : SV ρ' S' w (sumRen σ x) v := by
  cases x with
  | inl l => exact let ⟨vs, hv, hc⟩ := h; ⟨vs, hv, hc.ren hS hρ⟩
  | inr c => exact CV.ren h hS hρ
theorem AVR.ren {x : AV} {v : Value} (h : AVR ρ S w x v) (hS : ∀ b, S b → S' b) (hρ : ∀ id ∈ x.ids, ρ' (σ id) = ρ id) : AVR ρ' S' w (x.ren σ) v := by
  cases x with
  | one c => exact CV.ren h hS hρ
  | agg l => exact let ⟨vs, hv, hc⟩ := h; ⟨vs, hv, hc.ren hS hρ⟩
  | tup l =>
    obtain ⟨vs, hv, hl, hc⟩ := h
    refine ⟨vs, hv, by rw [List.length_map]; exact hl, fun i x v hx hv => ?_⟩
    rw [List.getElem?_map] at hx
    obtain ⟨x0, hx0, rfl⟩ := Option.map_eq_some_iff.1 hx
    exact (hc i x0 v hx0 hv).ren hS fun id hid => hρ id (List.mem_flatMap.2 ⟨x0, List.mem_of_getElem? hx0, hid⟩)
theorem OR.ren {id : Nm} {o : AObj} (h : OR ρ φ S w id o) (hS : ∀ b, S b → S' b) (hρ : ∀ i ∈ o.ids, ρ' (σ i) = ρ i) (hid : ρ' (σ id) = ρ id) (hφ : ∀ b, φ id b → φ' (σ id) b) : OR ρ' φ' S' w (σ id) (o.ren σ) := by
  cases o with
  | box ty l => exact let ⟨b, cur, hr, hf, hh, hc⟩ := h; ⟨b, cur, hid.trans hr, hφ b hf, hh, hc.ren hS hρ⟩
  | row ty sz l =>
    refine ⟨by rw [List.length_map]; exact h.1, ?_⟩
    rcases h.2 with ⟨hr, hl⟩ | ⟨b, base, cap, hr, cur, G, h0, h1, h2, h3, h4, h5, h6⟩
    · exact .inl ⟨hid.trans hr, by rw [hl]; rfl⟩
    · refine .inr ⟨b, base, cap, hid.trans hr, cur, G, hφ b h0, h1, by rw [List.length_map]; exact h2, h3, fun i r hi => ?_, fun i j x hx => ⟨hφ x (h5 i j x hx).1, (h5 i j x hx).2⟩, h6⟩
      rw [List.getElem?_map] at hi
      obtain ⟨r0, hr0, rfl⟩ := Option.map_eq_some_iff.1 hi
      refine ⟨by rw [List.length_map]; exact (h4 i r0 hr0).1, fun j d hd => ?_⟩
      rw [List.getElem?_map] at hd
      obtain ⟨d0, hd0, rfl⟩ := Option.map_eq_some_iff.1 hd
      obtain ⟨v, hv, ho, hcv, ht⟩ := (h4 i r0 hr0).2 j d0 hd0
      refine ⟨v, hv, ho, hcv.ren hS fun id hid => hρ id (List.mem_flatMap.2 ⟨r0, List.mem_of_getElem? hr0, List.mem_flatMap.2 ⟨d0, List.mem_of_getElem? hd0, hid⟩⟩), fun T c e => ?_⟩
      cases d0 <;> simp [Cell.ren] at e
      exact ht _ _ (by rw [e.1, e.2])
  | map kt et ag n l => exact let ⟨b, es, hr, hf, hh, hm⟩ := h; ⟨b, es, hid.trans hr, hφ b hf, hh, hm.next (fun _ _ => rfl) hS⟩
/-- New names for all: σ has an inverse τ; each new object is an old one renamed, each new slot an old one renamed. -/
theorem StR.ren (h : StR w0 N ρ φ f m a w) (τ : Nm → Nm) (hτ : ∀ id, τ (σ id) = id) (h0 : ∀ id, id.1 = 0 → σ id = id) (hf : ∀ t, f' t = (f t).ren σ) (hm : ∀ id o', m' id = some o' → ∃ i o, m i = some o ∧ σ i = id ∧ o.ren σ = o') :
    StR w0 N (fun id => ρ (τ id)) (fun id => φ (τ id)) f' m' a w := by
  have hρ : ∀ id, (fun id => ρ (τ id)) (σ id) = ρ id := fun id => by simp only [hτ]
  have hS : ∀ b, Sof w0 φ m w b → Sof w0 (fun id => φ (τ id)) m' w b := fun b hb => ⟨hb.1, fun id o hi hr => by
    obtain ⟨i, o0, h1, h2, h3⟩ := hm id o hi
    subst h2
    simp only [hτ] at hr
    exact hb.2.1 i o0 h1 hr, hb.2.2⟩
  refine ⟨h.mv, h.dfr, h.size, fun t v ht => ?_, fun id o hi => ?_, fun id o b hi hr => ?_, fun id o b hi hr => ?_, fun id id' o o' b hi hi' hr hr' => ?_, fun id o hz hi => ?_⟩
  · rw [hf]
    exact (h.regs t v ht).ren hS fun id _ => hρ id
  · obtain ⟨i, o0, h1, h2, h3⟩ := hm id o hi
    subst h2 h3
    exact (h.objs i o0 h1).ren hS (fun id _ => hρ id) (hρ i) fun b hb => by simp only [hτ]; exact hb
  · obtain ⟨i, o0, h1, h2, h3⟩ := hm id o hi
    subst h2
    simp only [hτ] at hr
    exact h.lt i o0 b h1 hr
  · obtain ⟨i, o0, h1, h2, h3⟩ := hm id o hi
    subst h2
    simp only [hτ] at hr
    exact h.base i o0 b h1 hr
  · obtain ⟨i, o0, h1, h2, h3⟩ := hm id o hi
    obtain ⟨i', o1, h4, h5, h6⟩ := hm id' o' hi'
    subst h2 h5
    simp only [hτ] at hr hr'
    rw [h.disj i i' o0 o1 b h1 h4 hr hr']
  · obtain ⟨i, o0, h1, h2, h3⟩ := hm id o hi
    have e : i = id := by
      have h4 := hτ i
      rw [h2] at h4
      have h5 := hτ id
      rw [h0 id hz] at h5
      exact h4.symm.trans h5
    subst e
    have e2 := h0 i hz
    have : τ i = i := by
      have h5 := hτ i
      rwa [e2] at h5
    simp only [this]
    exact h.stab i o0 hz h1
end
/-- Two names changed for each other. -/
def swp (x y : Nm) (id : Nm) : Nm := if id = x then y else if id = y then x else id
theorem swp_swp (x y id : Nm) : swp x y (swp x y id) = id := by
  unfold swp
  by_cases h1 : id = x
  · subst h1
    rw [if_pos rfl]
    by_cases h2 : y = id
    · rw [if_pos h2]; exact h2
    · rw [if_neg h2, if_pos rfl]
  · rw [if_neg h1]
    by_cases h2 : id = y
    · subst h2
      rw [if_pos rfl, if_pos rfl]
    · rw [if_neg h2, if_neg h1, if_neg h2]
theorem swp_inj {x y a b : Nm} (h : swp x y a = swp x y b) : a = b := by
  rw [← swp_swp x y a, h, swp_swp]

def Upd.ren (σ : Nm → Nm) (u : Upd) : Upd := (σ u.1, u.2.map (AObj.ren σ))
def fren (σ : Nm → Nm) (F : LF) : LF := F.map fun p => (p.1, p.2.ren σ)
def mren (σ : Nm → Nm) (M : LM) : LM := M.map (Upd.ren σ)
theorem fget_ren (σ : Nm → Nm) (t : Nat) : ∀ (F : LF), fget (fren σ F) t = (fget F t).ren σ
  | [] => rfl
  | (k, v) :: F => by
    have ih := fget_ren σ t F
    simp only [fren] at ih
    simp only [fren, List.map_cons, fget, ih]
    split <;> rfl
theorem mget_ren {σ : Nm → Nm} (hσ : ∀ a b, σ a = σ b → a = b) (i : Nm) : ∀ (M : LM), mget (mren σ M) (σ i) = (mget M i).map (AObj.ren σ)
  | [] => rfl
  | (id, o) :: M => by
    have ih := mget_ren hσ i M
    simp only [mren] at ih
    simp only [mren, List.map_cons, mget, Upd.ren, mput, mset]
    by_cases e : i = id
    · rw [if_pos e, if_pos (by rw [e])]
    · rw [if_neg e, if_neg (fun e' => e (hσ _ _ e')), ih]
section
variable {w0 : Bas} {N nx : Nat} {F F' : LF} {M M' : LM} {a : Act} {w : World}
/-- Two names changed for each other, in the lists. -/
theorem SL.swap (h : SL w0 N nx F M a w) (x y : Nm) (nx' : Nat) (hx : x.1 ≠ 0) (hy : y.1 ≠ 0) (eF : fren (swp x y) F = F') (eM : mren (swp x y) M = M') (e : okN nx' F' M' = true) : SL w0 N nx' F' M' a w := by
  obtain ⟨⟨ρ, φ, hst⟩, hn, hp⟩ := h
  have hg := fun i => mget_ren (σ := swp x y) (fun a b h => swp_inj h) i M
  refine ⟨⟨_, _, hst.ren (σ := swp x y) (swp x y) (swp_swp x y) (fun id h0 => ?_) (fun t => by rw [← eF, fget_ren]) fun id o' hi => ?_⟩, (names_ok e).1, (names_ok e).2⟩
  · unfold swp
    rw [if_neg (fun e => hx (by rw [← e]; exact h0)), if_neg (fun e => hy (by rw [← e]; exact h0))]
  · have := hg (swp x y id)
    rw [swp_swp, eM, hi] at this
    obtain ⟨o, ho, he⟩ := Option.map_eq_some_iff.1 this.symm
    exact ⟨swp x y id, o, ho, swp_swp x y id, he⟩
end
end Go.Proofs.Yteohodhcegbmmaa
