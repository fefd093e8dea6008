/- The law GraphDist, in plain words: true at every input. No condition. -/
import Derived.Test.YteohodhcegbmmaaPge
set_option linter.unusedSimpArgs false
set_option linter.unusedVariables false
namespace Go.Proofs.Yteohodhcegbmmaa
open Go.RowKit

section
variable {g : TGraph}
theorem RightP.link (h : RightP g) {k : Nat} (hk : k < g.Links.length) : good g.N g.Links[k] := (h.2.2.2.1 k _ (List.getElem?_eq_getElem hk)).1
theorem gdist_l1 (hR : RightP g) {s : Nat} {o : List Int} (hol : o.length = g.N.toNat) (d3 : ∀ v, v < g.N.toNat → ∃ d : Nat, D o v = d ∧ (d : Int) ≤ g.N - 1 ∧ Wk (EG g) s d v ∧ ∀ k, Wk (EG g) s k v → d ≤ k) :
    ∀ (m nf k : Nat) (nr : List Bool), k + m = g.Links.length → m < nf → nr.length = g.N.toNat → ∃ nr', L_law03_GraphDist_l1 g o nf (k : Int) nr = some nr' ∧ nr'.length = g.N.toNat ∧ (∀ v : Nat, nr[v]? = some true → nr'[v]? = some true) ∧ ∀ (j : Nat) (l : A2I), k ≤ j → g.Links[j]? = some l → D o l.a0.toNat = D o l.a1.toNat - 1 → nr'[l.a1.toNat]? = some true
  | 0, nf + 1, k, nr, h1, h2, h3 => by
    rw [L_law03_GraphDist_l1, if_neg (by omega)]
    refine ⟨nr, rfl, h3, fun _ h => h, fun j l hj hx => ?_⟩
    have := (List.getElem?_eq_some_iff.1 hx).1
    omega
  | m + 1, nf + 1, k, nr, h1, h2, h3 => by
    have hk : k < g.Links.length := by omega
    have h6 := hR.2.1
    have hl30 := hR.2.2.1
    have hg := hR.link hk
    have hE : EG g g.Links[k].a0.toNat g.Links[k].a1.toNat := by
      obtain ⟨q1, q2, q3, q4, q5⟩ := hg
      exact ⟨_, List.getElem_mem hk, by omega, by omega⟩
    obtain ⟨q1, q2, q3, q4, q5⟩ := hg
    obtain ⟨d, d1, d2, d4, d5⟩ := d3 g.Links[k].a0.toNat (by omega)
    obtain ⟨e, e1, e2, e4, e5⟩ := d3 g.Links[k].a1.toNat (by omega)
    have hle := e5 _ (.s d4 hE)
    have a0e : at? o g.Links[k].a0 = some (d : Int) := by
      rw [← d1, ← at_D (by omega), show ((g.Links[k].a0.toNat : Nat) : Int) = g.Links[k].a0 by omega]
    have a1e : at? o g.Links[k].a1 = some (e : Int) := by
      rw [← e1, ← at_D (by omega), show ((g.Links[k].a1.toNat : Nat) : Int) = g.Links[k].a1 by omega]
    have hwl : g.Links[k].a1.toNat < nr.length := by omega
    obtain ⟨b, hb⟩ : ∃ b, nr[g.Links[k].a1.toNat]? = some b := ⟨_, List.getElem?_eq_getElem hwl⟩
    rw [L_law03_GraphDist_l1, if_pos (by omega), at_nat, List.getElem?_eq_getElem hk, Option.bind_some, a1e, Option.bind_some, a0e, Option.bind_some, wr (by omega) (by omega), wr (by omega) (by omega), if_neg (by omega), if_neg (by omega), if_neg (by omega), at_i q3, hb, Option.bind_some]
    have hst : (if b = true then some (nr.set g.Links[k].a1.toNat true) else some (nr.set g.Links[k].a1.toNat (decide ((d : Int) = (e : Int) - 1)))) = some (nr.set g.Links[k].a1.toNat (b || decide ((d : Int) = (e : Int) - 1))) := by
      cases b <;> simp
    rw [hst, Option.bind_some, wr_succ (by omega)]
    obtain ⟨nr', g1, g2, g3, g4⟩ := gdist_l1 hR hol d3 m nf (k + 1) (nr.set g.Links[k].a1.toNat (b || decide ((d : Int) = (e : Int) - 1))) (by omega) (by omega) (by simpa using h3)
    refine ⟨nr', g1, g2, fun v hv => g3 v ?_, fun j l hj hx hD => ?_⟩
    · rw [List.getElem?_set]
      by_cases hv' : g.Links[k].a1.toNat = v
      · subst hv'
        rw [hb] at hv
        injection hv with hv
        rw [if_pos rfl, if_pos (by omega), hv]
        rfl
      · rw [if_neg hv']
        exact hv
    · by_cases hjk : j = k
      · subst hjk
        rw [List.getElem?_eq_getElem hk] at hx
        injection hx with hx
        subst hx
        refine g3 _ ?_
        rw [List.getElem?_set_self (by omega)]
        rw [d1, e1] at hD
        rw [decide_eq_true hD, Bool.or_true]
      · exact g4 j l (by omega) hx hD
theorem gdist_l2 (hR : RightP g) {s : Nat} {a1 : Int} (ha : (landK .i64 a1 255).tmod g.N = (s : Int)) {o : List Int} {nr : List Bool} (hol : o.length = g.N.toNat) (hnl : nr.length = g.N.toNat) (d3 : ∀ v, v < g.N.toNat → ∃ d : Nat, D o v = d ∧ (d : Int) ≤ g.N - 1 ∧ Wk (EG g) s d v ∧ ∀ k, Wk (EG g) s k v → d ≤ k) (hnr : ∀ (l : A2I), l ∈ g.Links → D o l.a0.toNat = D o l.a1.toNat - 1 → nr[l.a1.toNat]? = some true) :
    ∀ (m nf k : Nat), k + m = g.N.toNat → m < nf → L_law03_GraphDist_l2 a1 nr g o nf (k : Int) = some ()
  | 0, nf + 1, k, h1, h2 => by rw [L_law03_GraphDist_l2, if_neg (by omega)]
  | m + 1, nf + 1, k, h1, h2 => by
    have h6 := hR.2.1
    have hcond : (if (k : Int) = ((landK .i64 a1 255).tmod g.N) then
        some false
      else
        (at? o (k : Int)).bind fun x1820 =>
        if x1820 < 1 then
          some true
        else
          (at? nr (k : Int)).bind fun x1825 =>
          some (!(x1825))) = some false := by
      rw [ha]
      by_cases e : k = s
      · rw [if_pos (by omega)]
      · rw [if_neg (by omega)]
        obtain ⟨d, x1, x2, x3, x4⟩ := d3 k (by omega)
        rw [at_D (by omega), Option.bind_some, x1]
        cases x3 with
        | z => exact absurd rfl e
        | s w ed =>
          rename_i d' u
          obtain ⟨l, hl, l1, l2⟩ := ed
          have hu : u < g.N.toNat := by
            obtain ⟨_, _, _, _⟩ := hR.ok.rng l hl
            omega
          obtain ⟨d'', y1, y2, y3, y4⟩ := d3 u hu
          have z1 := y4 _ w
          have z2 := x4 _ (.s y3 ⟨l, hl, l1, l2⟩)
          have hn := hnr l hl (by rw [l1, l2, Int.toNat_natCast, Int.toNat_natCast, x1, y1]; omega)
          rw [l2, Int.toNat_natCast] at hn
          rw [if_neg (by omega), at_nat, hn]
          rfl
    rw [L_law03_GraphDist_l2, if_pos (by omega), hcond, Option.bind_some]
    simp only [Bool.false_eq_true, if_false]
    rw [wr_succ (by omega)]
    exact gdist_l2 hR ha hol hnl d3 hnr m nf (k + 1) (by omega) (by omega)
end
open Classical in
theorem graphDist_true (a0 : TGraph) (a1 a2 : Int) (w0 : wTGraph a0) (w1 : wI .i64 a1) (w2 : wI .i64 a2) : L_law03_GraphDist a0 a1 a2 = some true := by
  unfold L_law03_GraphDist
  rw [law_cut, Option.bind_some]
  have hlen := cut_len a0
  generalize (⟨a0.N, a0.Links.take 40⟩ : TGraph) = g at hlen
  rw [law_ref, Option.bind_some, ref_right (by omega), Option.bind_some]
  by_cases hR : RightP g
  · have h1 := hR.1
    have h6 := hR.2.1
    obtain ⟨a, ea, ha⟩ := pick_node a1 h1
    obtain ⟨b, eb, hb⟩ := pick_node a2 h1
    obtain ⟨d, d1, d2, d3⟩ := hR.dist ha
    obtain ⟨e, e1, e2, e3⟩ := hR.dist hb
    obtain ⟨z, z1, z2, z3, z4⟩ := d3 a ha
    have hz := z4 0 .z
    obtain ⟨x, x1, x2, x3, x4⟩ := d3 b hb
    obtain ⟨y, y1, y2, y3, y4⟩ := e3 a ha
    have hxy := x4 _ (y3.back hR.2.2.2.2.1)
    have hyx := y4 _ (x3.back hR.2.2.2.2.1)
    obtain ⟨nr, n1, n2, n3, n4⟩ := gdist_l1 hR d2 d3 g.Links.length (g.Links.length + 1) 0 (List.replicate g.N.toNat false) (by omega) (by omega) (by simp)
    have n5 := gdist_l2 hR ea d2 n2 d3 (fun l hl hD => by
      obtain ⟨i, hi, el⟩ := List.getElem_of_mem hl
      exact n4 i l (Nat.zero_le _) (by rw [List.getElem?_eq_getElem hi, el]) hD) g.N.toNat (g.N.toNat + 1) 0 (by omega) (by omega)
    rw [show ((0 : Nat) : Int) = 0 from rfl] at n1 n5
    rw [if_pos (decide_eq_true hR), if_pos (by omega), ea, eb, d1, Option.bind_some, e1, Option.bind_some, if_pos (by omega), if_pos (by omega), at_D (by omega), Option.bind_some, if_pos (by omega), at_D (by omega), Option.bind_some, at_D (by omega), Option.bind_some, if_pos (by omega), if_pos (by omega), if_pos (by omega), if_pos (by omega), fuel_eq, n1, Option.bind_some, show (g.N - 0).toNat + 1 = g.N.toNat + 1 by omega, n5, Option.bind_some, fixed03]
    rfl
  · rw [if_neg (by simpa using hR), graph_right (by omega), Option.bind_some, if_neg (by simpa using hR), fixed03]
    rfl
end Go.Proofs.Yteohodhcegbmmaa
