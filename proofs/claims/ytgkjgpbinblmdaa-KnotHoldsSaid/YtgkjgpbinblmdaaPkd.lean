/- The knot: nodes held are behind edges from themselves, rings turned, edges in their order. No condition. -/
import Derived.Test.YtgkjgpbinblmdaaPkc
set_option linter.unusedSimpArgs false
set_option linter.unusedVariables false
namespace Go.Proofs.Ytgkjgpbinblmdaa
open Go.RowKit

section
open Classical in
/-- A loop that asks of each whether one was so. -/
theorem orLoop {α : Type} {F : Nat → Bool → Int → Option Bool} {l : List α} (p : α → Prop)
    (fin : ∀ nf s, F (nf + 1) s (l.length : Int) = some s)
    (step : ∀ nf k s (h : k < l.length), F (nf + 1) s (k : Int) = F nf (s || decide (p l[k])) ((k + 1 : Nat) : Int)) (nf : Nat) (hn : l.length < nf) :
    F nf false 0 = some (decide (∃ x ∈ l, p x)) := by
  have q := loopI (F := fun nf k s => F nf s k) (len := l.length) (fun k s => s = decide (∃ x ∈ l.take k, p x)) (fun _ _ => some (decide (∃ x ∈ l, p x)))
    (fun nf s hs => by rw [fin, hs, List.take_length])
    (fun nf k s hk hs ih => by
      rw [step nf k s hk]
      refine ih _ ?_
      rw [hs, List.take_succ_eq_append_getElem hk, ← Bool.decide_or]
      refine ddec ⟨fun g => ?_, fun ⟨x, hx, g⟩ => ?_⟩
      · rcases g with ⟨x, hx, g⟩ | g
        · exact ⟨x, List.mem_append.2 (.inl hx), g⟩
        · exact ⟨_, List.mem_append.2 (.inr (by simp)), g⟩
      · rcases List.mem_append.1 hx with hx | hx
        · exact .inl ⟨x, hx, g⟩
        · rw [List.mem_singleton] at hx; subst hx; exact .inr g)
    l.length nf 0 false (by omega) hn (by simp)
  exact q
end
section
variable {a : TApp} {c : TConf}
theorem held_cycle (h : CRightP a c) (ha : SzA a) {l : List Int} (q : heldP a c l) : ∃ n ∈ l, n ∈ knotOf a c := by
  obtain ⟨h1, h2⟩ := q
  obtain ⟨n, hn, ht⟩ := some_cycle (E := EP a c) (l.map Int.toNat) (by simpa using h1) (fun k hk => by
    obtain ⟨x, hx, rfl⟩ := List.mem_map.1 hk
    obtain ⟨m, hm, he⟩ := h2 x hx
    obtain ⟨i, j, e1, e2, _⟩ := h.edge ha he
    subst e1 e2
    exact ⟨j, List.mem_map.2 ⟨_, hm, by simp⟩, by unfold EP; simpa using he⟩)
  obtain ⟨x, hx, e⟩ := List.mem_map.1 hn
  obtain ⟨m, hm, he⟩ := h2 x hx
  obtain ⟨i, j, e1, e2, _⟩ := h.edge ha he
  exact ⟨x, hx, (mem_knot x).2 ⟨n, by omega, (tg_lt (EP.lt h ha) ht).1, ht⟩⟩
theorem held_both {x y : List Int} (hx : heldP a c x) (hy : heldP a c y) : heldP a c (x ++ y) :=
  ⟨fun e => hx.1 (List.append_eq_nil_iff.1 e).1, fun n hn => by
    rcases List.mem_append.1 hn with hn | hn
    · obtain ⟨m, hm, e⟩ := hx.2 n hn
      exact ⟨m, List.mem_append.2 (.inl hm), e⟩
    · obtain ⟨m, hm, e⟩ := hy.2 n hn
      exact ⟨m, List.mem_append.2 (.inr hm), e⟩⟩
/-- Before another, by its first and then by its second. -/
def LexLt (e f : A2I) : Prop := e.a0 < f.a0 ∨ (e.a0 = f.a0 ∧ e.a1 < f.a1)
theorem edges_lex (h : CRightP a c) (ha : SzA a) : (edgesOf a c).Pairwise LexLt := by
  unfold edgesOf
  rw [List.pairwise_flatMap]
  refine ⟨fun n hn => ?_, ?_⟩
  · rw [List.pairwise_map]
    have := ((h.waits ha (List.mem_range.1 hn)).ris).filter (freeB a.G c n)
    exact this.imp fun {x y} hxy => .inr ⟨rfl, hxy⟩
  · refine List.pairwise_lt_range.imp fun {i j} hij x hx y hy => ?_
    obtain ⟨u, _, rfl⟩ := List.mem_map.1 hx
    obtain ⟨v, _, rfl⟩ := List.mem_map.1 hy
    exact .inl (by dsimp only; omega)
theorem edges_nodup (h : CRightP a c) (ha : SzA a) : (edgesOf a c).Nodup :=
  (edges_lex h ha).imp fun {x y} hxy e => by
    subst e
    rcases hxy with q | q
    · omega
    · omega
theorem waits_row (h : CRightP a c) (ha : SzA a) {n : Nat} (hn : n < c.States.length) : (waitsAt a c n).filter (freeB a.G c n) = ((List.range c.States.length).filter fun w => edgeB a c n ((w : Nat) : Int)).map fun w => ((w : Nat) : Int) := by
  have hw := h.waits ha hn
  have r := rising_filter (N := c.States.length) (freeB a.G c n) (waitsAt a c n) 0 hw.ris (fun x hx => ⟨by have := hw.rng x hx; omega, (hw.rng x hx).2⟩)
  have e3 : (List.range c.States.length).filter (fun w => edgeB a c n ((w : Nat) : Int)) = (List.range c.States.length).filter ((fun x => decide (x ∈ waitsAt a c n) && freeB a.G c n x) ∘ fun n => ((n : Nat) : Int)) := List.filter_congr fun x hx => edge_nat hn _
  rw [r, Nat.sub_zero, ← List.range_eq_range', List.filter_map, ← e3]
theorem edge_irr (h : CRightP a c) (ha : SzA a) (x : Int) : edgeB a c x x = false := by
  rw [← Bool.not_eq_true]
  intro he
  obtain ⟨n, w, e1, e2, h3, h4, h5, h6⟩ := h.edge ha he
  have := h.tab.1.link (find_some.1 ((h.waits ha h3).fnd x h5))
  exact this.2.2.2.2 e1
/-- A ring, by its places. -/
theorem ring_iff {l : List Int} : ringP a c l ↔ l ≠ [] ∧ l.Nodup ∧ ∀ (i : Nat) (hi : i < l.length), edgeB a c l[i] (l[(i + 1) % l.length]'(Nat.mod_lt _ (by omega))) = true := by
  refine and_congr_right fun h0 => ⟨fun h => ⟨?_, fun i hi => ?_⟩, fun ⟨h1, h2⟩ i n hi => ?_⟩
  · unfold List.Nodup
    rw [List.pairwise_iff_getElem]
    intro i j hi hj hij e
    refine (h j _ (List.getElem?_eq_getElem hj)).1 ?_
    rw [← e]
    have : l[i] = (l.take j)[i]'(by rw [List.length_take]; omega) := by rw [List.getElem_take]
    rw [this]
    exact List.getElem_mem _
  · exact (h i _ (List.getElem?_eq_getElem hi)).2 _ (List.getElem?_eq_getElem (Nat.mod_lt _ (by omega)))
  · obtain ⟨hi', e⟩ := List.getElem?_eq_some_iff.1 hi
    subst e
    refine (ring_cur hi').2 ⟨fun hm => ?_, h2 i hi'⟩
    obtain ⟨j, hj, e⟩ := List.getElem_of_mem hm
    rw [List.length_take] at hj
    rw [List.getElem_take] at e
    have := (List.getElem_inj h1).1 e
    omega
theorem turn_get {l : List Int} {k i : Nat} (hk : k ≤ l.length) (hi : i < l.length) : (l.drop k ++ l.take k)[i]'(by simp; omega) = l[(i + k) % l.length]'(Nat.mod_lt _ (by omega)) := by
  rw [List.getElem_append]
  split
  · rename_i q
    rw [List.length_drop] at q
    rw [List.getElem_drop]
    congr 1
    rw [Nat.mod_eq_of_lt (by omega)]
    omega
  · rename_i q
    rw [List.length_drop] at q
    rw [List.getElem_take]
    congr 1
    rw [List.length_drop, Nat.mod_eq_sub_mod (by omega), Nat.mod_eq_of_lt (by omega)]
    omega
theorem ring_turn {l : List Int} {k : Nat} (hk : k ≤ l.length) (h : ringP a c l) : ringP a c (l.drop k ++ l.take k) := by
  rw [ring_iff] at h ⊢
  obtain ⟨h1, h2, h3⟩ := h
  have hp : (l.drop k ++ l.take k).Perm l := List.perm_append_comm.trans (by rw [List.take_append_drop])
  have hlen : (l.drop k ++ l.take k).length = l.length := by simp; omega
  refine ⟨fun e => h1 ?_, hp.nodup_iff.2 h2, fun i hi => ?_⟩
  · rw [e] at hp
    exact hp.symm.eq_nil
  · have hi' : i < l.length := by omega
    have e1 := turn_get (l := l) hk hi'
    have e2 := turn_get (l := l) (i := (i + 1) % l.length) hk (Nat.mod_lt _ (by omega))
    rw [e1]
    simp only [hlen]
    rw [e2]
    have := h3 ((i + k) % l.length) (Nat.mod_lt _ (by omega))
    simp only [Nat.mod_add_mod] at this ⊢
    simp only [show i + 1 + k = i + k + 1 by omega]
    exact this
theorem ring_turned {l : List Int} {k : Nat} (hk : k ≤ l.length) : ringP a c (l.drop k ++ l.take k) ↔ ringP a c l := by
  refine ⟨fun h => ?_, ring_turn hk⟩
  have := ring_turn (k := l.length - k) (by simp) h
  have e1 : (l.drop k ++ l.take k).drop (l.length - k) = l.take k := by
    rw [← List.length_drop, List.drop_left]
  have e2 : (l.drop k ++ l.take k).take (l.length - k) = l.drop k := by
    rw [← List.length_drop, List.take_left]
  rwa [e1, e2, List.take_append_drop] at this
theorem ring_one (h : CRightP a c) (ha : SzA a) (x : Int) : ¬ ringP a c [x] := fun q => by
  have := (ring_iff.1 q).2.2 0 (by simp)
  simp [edge_irr h ha] at this
theorem ring_nil : ¬ ringP a c [] := fun q => q.1 rfl
theorem ring_twice {l : List Int} : ¬ ringP a c (l ++ l) := fun q => by
  obtain ⟨h1, h2, _⟩ := ring_iff.1 q
  cases l with
  | nil => exact h1 rfl
  | cons x l =>
    have := (List.nodup_append.1 h2).2.2 x (by simp) x (by simp)
    exact this rfl
theorem ring_held {l : List Int} (q : ringP a c l) : heldP a c l := by
  obtain ⟨h1, h2, h3⟩ := ring_iff.1 q
  refine ⟨h1, fun n hn => ?_⟩
  obtain ⟨i, hi, rfl⟩ := List.getElem_of_mem hn
  exact ⟨_, List.getElem_mem (Nat.mod_lt _ (by omega)), h3 i hi⟩
theorem ring_knot (h : CRightP a c) (ha : SzA a) {l : List Int} (q : ringP a c l) : ∀ n ∈ l, n ∈ knotOf a c := by
  obtain ⟨h1, h2, h3⟩ := ring_iff.1 q
  intro n hn
  obtain ⟨i, hi, rfl⟩ := List.getElem_of_mem hn
  have hnat : ∀ (j : Nat) (hj : j < l.length), l[j] = ((l[j].toNat : Nat) : Int) ∧ l[j].toNat < c.States.length := fun j hj => by
    obtain ⟨u, w, e1, e2, e3, _⟩ := h.edge ha (h3 j hj)
    omega
  have hE : ∀ (j : Nat) (hj : j < l.length), EP a c l[j].toNat (l[(j + 1) % l.length]'(Nat.mod_lt _ (by omega))).toNat := fun j hj => by
    unfold EP
    rw [← (hnat j hj).1, ← (hnat _ (Nat.mod_lt _ (by omega))).1]
    exact h3 j hj
  have key : ∀ d : Nat, Relation.TransGen (EP a c) l[i].toNat (l[(i + (d + 1)) % l.length]'(Nat.mod_lt _ (by omega))).toNat := by
    intro d
    induction d with
    | zero => exact .single (hE i hi)
    | succ d ih =>
      have := hE ((i + (d + 1)) % l.length) (Nat.mod_lt _ (by omega))
      simp only [Nat.mod_add_mod] at this
      exact .tail ih this
  have hk := key (l.length - 1)
  simp only [show i + (l.length - 1 + 1) = i + l.length by omega, Nat.add_mod_right, Nat.mod_eq_of_lt hi] at hk
  exact (mem_knot _).2 ⟨_, (hnat i hi).1, (hnat i hi).2, hk⟩
theorem knot_helds (h : CRightP a c) (ha : SzA a) : heldP a c (knotOf a c) ↔ knotOf a c ≠ [] := by
  refine ⟨fun q => q.1, fun q => ⟨q, fun n hn => ?_⟩⟩
  obtain ⟨i, rfl, h1, h2⟩ := (mem_knot n).1 hn
  obtain ⟨m, e, hm⟩ := tg_first h2
  have hml := (EP.lt h ha i m e).2
  refine ⟨m, (mem_knot _).2 ⟨m, rfl, hml, ?_⟩, e⟩
  rcases hm with rfl | hm
  · exact h2
  · exact .tail hm e
theorem knot_blocked (h : CRightP a c) (ha : SzA a) {x : Int} (hx : x ∈ knotOf a c) : ∃ n : Nat, x = n ∧ n < c.States.length ∧ (stOf a.T n ((c.States[n]?).getD 0)).Mode = 2 := by
  obtain ⟨i, rfl, h1, h2⟩ := (mem_knot x).1 hx
  obtain ⟨m, e, _⟩ := tg_first h2
  obtain ⟨n, w, e1, e2, e3, e4, e5, e6⟩ := h.edge ha e
  have : n = i := by omega
  subst this
  exact ⟨n, rfl, h1, (h.waits ha h1).mode fun q => by rw [q] at e5; simp at e5⟩
end
end Go.Proofs.Ytgkjgpbinblmdaa
