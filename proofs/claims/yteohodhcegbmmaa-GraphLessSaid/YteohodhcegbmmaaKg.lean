/- append: the law of the model, for a slice that lies anywhere; the step. No condition. -/
import Derived.Test.YteohodhcegbmmaaKf
import Derived.Laws.Append
set_option linter.unusedSimpArgs false
set_option linter.unusedVariables false
namespace Go.Proofs.Yteohodhcegbmmaa
open Go.RowKit

/-- What lies at an address, cell by cell. -/
def RdV (w : World) (size : Nat) (A : Option Addr) (n : Nat) (xs : List Value) : Prop :=
  xs.length = n * size ∧ (0 < n → ∃ b o, A = some ⟨b, o, none⟩ ∧ ∀ j u, xs[j]? = some u → w.cell? ⟨b, o + j, none⟩ = some u)
section
variable {P : Program} (w : World)
theorem run_first {size m c : Nat} {A : Option Addr} {news : List Value} (hr : RdV w size A m news) : (Builtin.firstCells size m (.slice A m c)).run P w = .ok news.toArray w := by
  rcases Nat.eq_zero_or_pos m with h0 | h0
  · subst h0
    have hn : news = [] := List.eq_nil_of_length_eq_zero (by simpa using hr.1)
    subst hn
    cases A with
    | none => simp [Builtin.firstCells]
    | some a => exact run_firstCells_some w size 0 a 0 c [] (by simp) (by simp)
  · obtain ⟨b, o, rfl, hc⟩ := hr.2 h0
    exact run_firstCells_some w size m _ m c news hr.1 fun j u hj => by rw [add_lit]; exact hc j u hj
/-- append: in place where there is room, else in a new block. -/
theorem run_append_k (t ty e : TypeId) (i : TypeInfo) (z : Value) (size bytes : Nat) (ht : P.underlying t = some (.slice e)) (hi : P.info? e = some i) (hz : i.zero = some z)
    (hsize : i.size = size) (hby : i.bytes = bytes) (hzs : z.cells.size = size) (hpos : 0 < bytes) (A : Option Addr) (n cap : Nat) (olds : List Value) (ho : RdV w size A n olds)
    (A' : Option Addr) (m c : Nat) (news : List Value) (hr : RdV w size A' m news) (h1 : ∀ u ∈ news, u.oneCell' = true) (hbytes : (n + m) * bytes ≤ 140737488355328)
    (hnc : n ≤ cap) (hA : (n = 0 ∧ cap = 0) ∨ ∃ b base ety, ∃ cur : Array Value, A = some ⟨b, base, none⟩ ∧ w.heap[b]? = some (.cells cur ety (0, 0)) ∧ base + cap * size ≤ cur.size) :
    (n + m ≤ cap ∧ ((m = 0 ∧ (Builtin.append_ #[t, t] ty #[.slice A n cap, .slice A' m c]).run P w = .ok (.slice A n cap) w) ∨ ∃ b base ety, ∃ cur : Array Value, A = some ⟨b, base, none⟩ ∧ w.heap[b]? = some (.cells cur ety (0, 0)) ∧ base + cap * size ≤ cur.size ∧
      (Builtin.append_ #[t, t] ty #[.slice A n cap, .slice A' m c]).run P w = .ok (.slice A (n + m) cap) (w.setRow b (lay cur.toList (base + n * size) news).toArray))) ∨
    ∃ cap' w', ∃ cur' : Array Value, n + m ≤ cap' ∧ (Builtin.append_ #[t, t] ty #[.slice A n cap, .slice A' m c]).run P w = .ok (.slice (some ⟨w.heap.size, 0, none⟩) (n + m) cap') w' ∧ w'.heap[w.heap.size]? = some (.cells cur' e (0, 0)) ∧
      w.heap.size < w'.heap.size ∧ Mv (fun _ => False) w w' ∧ cur'.size = cap' * size ∧ ∀ (k : Nat) (u : Value), (olds ++ news)[k]? = some u → cur'[k]? = some u := by
  subst hsize hby
  have hle : n + m ≤ (n + m) * i.bytes := Nat.le_mul_of_pos_right _ hpos
  by_cases hroom : n + m ≤ cap
  · left
    refine ⟨hroom, ?_⟩
    have hf := run_first (P := P) w (c := c) hr
    rcases hA with ⟨h0, hc0⟩ | ⟨b, base, ety, cur, rfl, hb, hfit⟩
    · have hm : m = 0 := by omega
      subst hm
      have hn : news = [] := List.eq_nil_of_length_eq_zero (by simpa using hr.1)
      subst hn
      refine .inl ⟨rfl, ?_⟩
      cases A with
      | none => simp [Builtin.append_, run_underlying ht, sizeOf, typeInfo, hi, Builtin.lenOf, hf, h0, hc0]
      | some a => simp [Builtin.append_, run_underlying ht, sizeOf, typeInfo, hi, Builtin.lenOf, hf, h0, hc0, storeCells]
    · right
      have hml : (n + m) * i.size ≤ cap * i.size := Nat.mul_le_mul_right _ hroom
      rw [Nat.add_mul] at hml
      have hst := run_storeCells_at P b (base + n * i.size) ety news 0 cur w hb (by rw [hr.1]; omega) h1
      simp only [Nat.add_zero] at hst
      exact ⟨b, base, ety, cur, rfl, hb, hfit, by simp [Builtin.append_, run_underlying ht, sizeOf, typeInfo, hi, Builtin.lenOf, hroom, hf, add_lit, hst, lay]⟩
  · right
    have hcapn : (n = 0 ∧ cap = 0) ∨ ∃ a, A = some a := by
      rcases hA with h | ⟨b, base, ety, cur, h, _⟩
      · exact .inl h
      · exact .inr ⟨_, h⟩
    have hnews : ∃ ad : Addr, (Builtin.append_ #[t, t] ty #[.slice A n cap, .slice A' m c]).run P w = (Builtin.append_ #[t, t] ty #[.slice A n cap, .slice (some ad) m c]).run P w ∧ ∀ j u, news[j]? = some u → w.cell? (ad.add j) = some u := by
      obtain ⟨b, o, rfl, hc⟩ := hr.2 (by omega)
      exact ⟨_, rfl, fun j u hj => by rw [add_lit]; exact hc j u hj⟩
    obtain ⟨ad, hrun, hnews⟩ := hnews
    rw [hrun]
    have hbig : ∀ X : Nat, n + m ≤ X → X * i.size = (n + m) * i.size + (X - (n + m)) * i.size := fun X hX => by rw [← Nat.add_mul]; congr 1; omega
    have hget : ∀ (k : Nat) (u : Value) (Z : Array Value), (olds ++ news)[k]? = some u → (olds.toArray ++ news.toArray ++ Z)[k]? = some u := fun k u Z hk => by
      have hlt : k < (olds ++ news).length := (List.getElem?_eq_some_iff.1 hk).1
      simp only [List.append_toArray]
      rw [Array.getElem?_append_left (by simpa using hlt)]
      simpa using hk
    have hsz : ∀ cap', n + m ≤ cap' → (olds.toArray ++ news.toArray ++ Builtin.zeroCells z.cells (cap' - (n + m))).size = cap' * i.size := fun cap' hc' => by
      rw [hbig cap' hc']
      simp only [Array.size_append, List.size_toArray, size_zeroCells, hzs, ho.1, hr.1, Nat.add_mul]
    cases A with
    | some a =>
      have hro : ∀ j u, olds[j]? = some u → w.cell? (a.add j) = some u := fun j u hj => by
        have h0 : 0 < n := by
          rcases Nat.eq_zero_or_pos n with h | h
          · subst h
            have : olds = [] := List.eq_nil_of_length_eq_zero (by simpa using ho.1)
            subst this
            simp at hj
          · exact h
        obtain ⟨b, o, e1, hc⟩ := ho.2 h0
        injection e1 with e1
        subst e1
        rw [add_lit]; exact hc j u hj
      have hg := run_append_grow (P := P) w t ty e i z ht hi hz a n cap olds ho.1 hro ad m c news hr.1 hnews (by omega) (by omega) (growslice_fits (by omega) hbytes)
      have hge := grownCap_ge w (n + m) cap e
      exact ⟨_, _, _, hge, hg, heap_alloc_new w.drew _, by simp, (Mv.drew w).trans (Mv.alloc w.drew _) (fun _ h => h) (fun _ _ h => h), hsz _ hge, fun k u hk => hget k u _ hk⟩
    | none =>
      obtain ⟨rfl, rfl⟩ := hcapn.resolve_right fun ⟨a, h⟩ => by cases h
      have ho0 : olds = [] := List.eq_nil_of_length_eq_zero (by simpa using ho.1)
      subst ho0
      have hg := run_append_nil (P := P) w t ty e i z ht hi hz ad m c news hr.1 hnews (by omega) (by omega) (by have := hbytes; simp only [Nat.zero_add] at this; omega)
      have hge := grownCap_ge w m 0 e
      refine ⟨_, _, _, by rw [Nat.zero_add]; exact hge, by rw [Nat.zero_add]; exact hg, heap_alloc_new w.drew _, by simp, (Mv.drew w).trans (Mv.alloc w.drew _) (fun _ h => h) (fun _ _ h => h), ?_, fun k u hk => ?_⟩
      · have := hsz (grownCap w m 0 e) (by rw [Nat.zero_add]; exact hge)
        simpa using this
      · have := hget k u (Builtin.zeroCells z.cells (grownCap w m 0 e - m)) hk
        simpa using this
end

section
variable {P : Program} {w0 : Bas} {N : Nat} {ρ : Place} {φ : Foot} {f : Nat → AV} {m : Nm → Option AObj} {a : Act} {w w' : World} {o : Oper}
theorem view_src {S : Nat → Prop} {l : List (List C)} {v : Value} {sz : Nat} (hv : View S w (.sl l) v) (hsz : ∀ r ∈ l, r.length = sz) : ∃ (A : Option Addr) (cap : Nat) (ys : List Value), v = .slice A l.length cap ∧ RdV w sz A l.length ys ∧ ∀ (i : Nat) (r : List C), l[i]? = some r → ∀ (j : Nat) (d : C), r[j]? = some d → ∃ u, ys[i * sz + j]? = some u ∧ View S w d u := by
  cases hv with
  | sl _ sz' A cap u hsz' hcap hb hA hu =>
    rcases Nat.eq_zero_or_pos l.length with h0 | h0
    · have : l = [] := List.eq_nil_of_length_eq_zero h0
      subst this
      exact ⟨A, cap, [], rfl, ⟨by simp, fun h => absurd h (by simp)⟩, by simp⟩
    · have e : sz' = sz := by
        have h1 : l[0]? = some l[0] := List.getElem?_eq_getElem h0
        rw [← hsz' 0 _ h1]
        exact hsz _ (List.mem_of_getElem? h1)
      subst e
      obtain ⟨b, p, hAe, hs, hcell⟩ := hA h0
      have key : ∀ k, k < l.length * sz' → ∃ i j r d, k = i * sz' + j ∧ l[i]? = some r ∧ r[j]? = some d := fun k hk => by
        have hpos : 0 < sz' := by
          rcases Nat.eq_zero_or_pos sz' with h | h
          · subst h; simp at hk
          · exact h
        have hi : k / sz' < l.length := Nat.div_lt_of_lt_mul (by rwa [Nat.mul_comm] at hk)
        have h1 : l[k / sz']? = some l[k / sz'] := List.getElem?_eq_getElem hi
        have h2 : k % sz' < l[k / sz'].length := by rw [hsz' _ _ h1]; exact Nat.mod_lt _ hpos
        exact ⟨k / sz', k % sz', _, _, by rw [Nat.mul_comm, Nat.div_add_mod], h1, List.getElem?_eq_getElem h2⟩
      refine ⟨A, cap, (List.range (l.length * sz')).map fun k => u (k / sz') (k % sz'), rfl, ⟨by simp, fun _ => ⟨b, p, hAe, fun k x hk => ?_⟩⟩, fun i r hi j d hj => ?_⟩
      · simp only [List.getElem?_map, Option.map_eq_some_iff] at hk
        obtain ⟨k', hk', rfl⟩ := hk
        obtain ⟨h1, h2⟩ := List.getElem?_eq_some_iff.1 hk'
        simp at h1 h2
        subst h2
        obtain ⟨i, j, r, d, e, hi, hj⟩ := key k h1
        have hjlt : j < sz' := by rw [← hsz' i r hi]; exact (List.getElem?_eq_some_iff.1 hj).1
        have e1 : k / sz' = i := by rw [e, Nat.mul_comm, Nat.mul_add_div (by omega)]; simp [Nat.div_eq_of_lt hjlt]
        have e2 : k % sz' = j := by rw [e, Nat.mul_comm, Nat.mul_add_mod]; exact Nat.mod_eq_of_lt hjlt
        rw [e1, e2, e]
        exact hcell i r j d hi hj
      · have hjlt : j < sz' := by rw [← hsz' i r hi]; exact (List.getElem?_eq_some_iff.1 hj).1
        have hilt : i < l.length := (List.getElem?_eq_some_iff.1 hi).1
        have hk : i * sz' + j < l.length * sz' := by
          have : (i + 1) * sz' ≤ l.length * sz' := Nat.mul_le_mul_right _ hilt
          rw [Nat.add_mul, Nat.one_mul] at this
          omega
        refine ⟨u i j, ?_, hu i r j d hi hj⟩
        rw [List.getElem?_map, List.getElem?_range hk]
        have e1 : (i * sz' + j) / sz' = i := by rw [Nat.mul_comm, Nat.mul_add_div (by omega)]; simp [Nat.div_eq_of_lt hjlt]
        have e2 : (i * sz' + j) % sz' = j := by rw [Nat.mul_comm, Nat.mul_add_mod]; exact Nat.mod_eq_of_lt hjlt
        simp [e1, e2]

end
end Go.Proofs.Yteohodhcegbmmaa
