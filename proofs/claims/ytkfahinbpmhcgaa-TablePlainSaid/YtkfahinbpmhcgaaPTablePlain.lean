/- The law TablePlain, in plain words: true at every input. No condition. -/
import Derived.Test.YtkfahinbpmhcgaaPtc
import Derived.Test.YtkfahinbpmhcgaaGdTablePlain
set_option linter.unusedSimpArgs false
set_option linter.unusedVariables false
namespace Go.Proofs.Ytkfahinbpmhcgaa
open Go.RowKit

/-- From which nodes links lead here. -/
def Wl (g : TGraph) (n : Int) (k : Nat) : List Int := ((List.range k).filter fun f => decide (0 ≤ find g ((f : Nat) : Int) n)).map fun f => ((f : Nat) : Int)
theorem Wl_succ (g : TGraph) (n : Int) (k : Nat) : Wl g n (k + 1) = Wl g n k ++ if 0 ≤ find g (k : Int) n then [(k : Int)] else [] := by
  unfold Wl
  rw [List.range_succ, List.filter_append, List.map_append]
  congr 1
  by_cases h : 0 ≤ find g (k : Int) n
  · rw [if_pos h, List.filter_cons_of_pos (by simpa using h)]
    rfl
  · rw [if_neg h, List.filter_cons_of_neg (by simpa using h)]
    rfl
theorem Wl_len (g : TGraph) (n : Int) (k : Nat) : (Wl g n k).length ≤ k := by
  unfold Wl
  rw [List.length_map]
  exact Nat.le_trans (List.length_filter_le _ _) (by simp)
def md (w : List Int) : Int := if w = [] then 0 else 2
def wOf (g : TGraph) (b : List Bool) (n : Nat) : List Int := if b[n]? = some true then Wl g n g.N.toNat else []
def nodeOf (g : TGraph) (b : List Bool) (n : Nat) : TNode := ⟨0, [⟨md (wOf g b n), wOf g b n, [], []⟩]⟩
theorem plain_l2 {g : TGraph} (hs : g.Links.length ≤ 1000) (hN : g.N ≤ 6) (b : List Bool) (n : Nat) : L_law04_TablePlain_l2 b (n : Int) g g ((g.N - 0).toNat + 1) 0 0 [] = some (md (wOf g b n), wOf g b n) := by
  by_cases hb : b[n]? = some true
  · have hlt := (List.getElem?_eq_some_iff.1 hb).1
    have hbt := (List.getElem?_eq_some_iff.1 hb).2
    have e : wOf g b n = Wl g n g.N.toNat := if_pos hb
    rw [e]
    exact loopI (σ := Int × List Int) (F := fun nf k s => L_law04_TablePlain_l2 b (n : Int) g g nf k s.1 s.2) (len := g.N.toNat) (fun k s => s = (md (Wl g n k), Wl g n k)) (fun _ _ => some (md (Wl g n g.N.toNat), Wl g n g.N.toNat))
      (fun nf s h => by
        subst h
        rw [L_law04_TablePlain_l2, if_neg (by omega), Option.bind_some, if_neg (by decide)])
      (fun nf k s hk h ih => by
        subst h
        have hW := Wl_len g n k
        rw [L_law04_TablePlain_l2, if_pos (by omega), if_pos (by omega), at_get hlt, Option.bind_some, Option.bind_some, if_pos hbt, ref_find _ _ hs, Option.bind_some, wr_succ (by omega)]
        have hk1 := ih (md (Wl g n (k + 1)), Wl g n (k + 1)) rfl
        rw [Wl_succ] at hk1
        by_cases hf : find g (k : Int) (n : Int) ≥ 0
        · rw [if_pos hf, if_pos (by dsimp only; omega), Option.bind_some]
          rw [if_pos (show 0 ≤ find g (k : Int) n from hf)] at hk1
          have : md (Wl g n k ++ [(k : Int)]) = 2 := if_neg (by simp)
          rw [this] at hk1
          exact hk1
        · rw [if_neg hf, Option.bind_some]
          rw [if_neg (show ¬ 0 ≤ find g (k : Int) n from hf), List.append_nil] at hk1
          exact hk1) g.N.toNat _ 0 (0, []) (by omega) (by omega) rfl
  · have e : wOf g b n = [] := if_neg hb
    rw [e, L_law04_TablePlain_l2]
    have e2 : (if (0 : Int) < g.N then if (n : Int) < (b.length : Int) then (at? b n).bind fun x => some x else some false else some false) = some false := by
      split
      · split
        · rename_i h2
          have hlt : n < b.length := by omega
          rw [at_get hlt, Option.bind_some]
          congr 1
          rw [List.getElem?_eq_getElem hlt] at hb
          cases h3 : b[n] with
          | true => rw [h3] at hb; exact absurd rfl hb
          | false => rfl
        · rfl
      · rfl
    rw [e2, Option.bind_some, if_neg (by decide)]
    rfl
theorem Wl_mono (g : TGraph) (n : Int) (k : Nat) : (Wl g n k).Pairwise (· < ·) := by
  unfold Wl
  rw [List.pairwise_map]
  exact (List.pairwise_lt_range.filter _).imp fun h => by omega
theorem node_ok (g : TGraph) (b : List Bool) (n : Nat) : NodeP g n (nodeOf g b n) := by
  refine ⟨by simp [nodeOf], by simp [nodeOf], by simp [nodeOf], by simp [nodeOf], fun s hs => ?_⟩
  simp only [nodeOf, List.mem_singleton] at hs
  subst hs
  have hmem : ∀ w ∈ wOf g b n, 0 ≤ find g w n := fun w hw => by
    unfold wOf at hw
    split at hw
    · obtain ⟨f, hf, rfl⟩ := List.mem_map.1 hw
      simpa using (List.mem_filter.1 hf).2
    · simp at hw
  have hpw : (wOf g b n).Pairwise (· < ·) := by
    unfold wOf
    split
    · exact Wl_mono g n _
    · exact .nil
  have hmd : 0 ≤ md (wOf g b n) ∧ md (wOf g b n) ≤ 2 := by unfold md; split <;> decide
  refine ⟨hmd.1, hmd.2, ⟨fun e => ⟨fun q => ?_, fun i w hw => ⟨hmem w (List.mem_of_getElem? hw), fun v h0 hv => ?_⟩⟩, fun e => ?_⟩, ⟨by simp, .inr rfl, fun p hp => by simp at hp⟩, fun i t ht => by simp at ht, fun t ht => by simp at ht⟩
  · dsimp only at e q
    rw [q] at e
    exact absurd e (by decide)
  · dsimp only at hw hv
    obtain ⟨hi, ei⟩ := List.getElem?_eq_some_iff.1 hw
    obtain ⟨hj, ej⟩ := List.getElem?_eq_some_iff.1 hv
    have := List.pairwise_iff_getElem.1 hpw (i - 1) i hj hi (by omega)
    rwa [ei, ej] at this
  · dsimp only at e ⊢
    unfold md at e
    by_cases q : wOf g b n = []
    · exact q
    · rw [if_neg q] at e
      exact absurd rfl e
theorem wOf_len (g : TGraph) (b : List Bool) (n : Nat) : (wOf g b n).length ≤ g.N.toNat := by
  unfold wOf
  split
  · exact Wl_len g n _
  · simp
theorem tablePlain_true (a0 : TGraph) (a1 : List Bool) (w0 : wTGraph a0) (w1 : (wL 1 wB) a1) : L_law04_TablePlain a0 a1 = some true := by
  classical
  unfold L_law04_TablePlain
  rw [law_cut, Option.bind_some]
  have hlen := cut_len a0
  generalize (⟨a0.N, a0.Links.take 40⟩ : TGraph) = g at hlen
  rw [law_ref, Option.bind_some, ref_right (by omega), Option.bind_some]
  by_cases hR : RightP g
  · have h1 := hR.1
    have h6 := hR.2.1
    have h : L_law04_TablePlain_l1 a1 g g ((g.N - 0).toNat + 1) 0 [] = some ((List.range g.N.toNat).map (nodeOf g a1)) := by
      have h := loopMap (F := fun nf n acc => L_law04_TablePlain_l1 a1 g g nf n acc) (l := List.range g.N.toNat) (fun n => [nodeOf g a1 n]) id 1 (by simp)
        (fun nf acc h => by rw [L_law04_TablePlain_l1, if_neg (by rw [List.length_range]; omega)]; rfl)
        (fun nf k acc h h2 => by
          rw [List.length_range] at h
          rw [L_law04_TablePlain_l1, if_pos (by omega), plain_l2 (by omega) h6, Option.bind_some]
          dsimp only
          rw [if_pos (by omega), Option.bind_some, wr_succ (by omega), List.getElem_range]
          rfl)
        (List.range g.N.toNat).length ((g.N - 0).toNat + 1) 0 [] (by simp) (by rw [List.length_range]; omega) (by simp)
      simpa [flatMap_one] using h
    have hln : ((List.range g.N.toNat).map (nodeOf g a1)).length = g.N.toNat := by simp
    have hz : SzL ((List.range g.N.toNat).map (nodeOf g a1)) := by
      refine ⟨by omega, fun x hx => ?_⟩
      obtain ⟨n, _, rfl⟩ := List.mem_map.1 hx
      refine ⟨by simp [nodeOf], fun s hs => ?_⟩
      simp only [nodeOf, List.mem_singleton] at hs
      subst hs
      have := wOf_len g a1 n
      exact ⟨by dsimp only; omega, by simp, by simp, by simp⟩
    have hT : TRightP ((List.range g.N.toNat).map (nodeOf g a1)) g := by
      refine ⟨hR, by omega, fun n x hx => ?_⟩
      rw [List.getElem?_map, Option.map_eq_some_iff] at hx
      obtain ⟨m, hm, rfl⟩ := hx
      obtain ⟨hi, e⟩ := List.getElem?_eq_some_iff.1 hm
      rw [List.getElem_range] at e
      subst e
      exact node_ok g a1 n
    generalize (List.range g.N.toNat).map (nodeOf g a1) = l at h hln hz hT
    rw [if_pos (dT hR), h, Option.bind_some, table_right (by omega) hz, Option.bind_some, if_pos (dT hT), if_pos (by omega), table_right (by omega), Option.bind_some, if_neg, fixed04]
    · rfl
    · rw [dF]
      · decide
      · intro q
        have := q.2.1
        rw [List.length_take, List.length_drop] at this
        omega
    · exact ⟨by have := hz.1; rw [List.length_take, List.length_drop]; omega, fun x hx => hz.2 x (List.mem_of_mem_drop (List.mem_of_mem_take hx))⟩
  · rw [if_neg (by rw [dF hR]; decide), table_right (by omega), Option.bind_some, if_neg, fixed04]
    · rfl
    · rw [dF fun q => hR q.1]
      decide
    · exact ⟨by simp, fun x hx => by
        rw [List.mem_singleton] at hx
        subst hx
        exact ⟨by simp, fun s hs => by
          rw [List.mem_singleton] at hs
          subst hs
          exact ⟨by simp, by simp, by simp, by simp⟩⟩⟩
end Go.Proofs.Ytkfahinbpmhcgaa
