/- The law TableMore, in plain words: true at every input. No condition. -/
import Derived.Test.YtkfahinbpmhcgaaPtc
import Derived.Test.YtkfahinbpmhcgaaGdTableMore
set_option linter.unusedSimpArgs false
set_option linter.unusedVariables false
namespace Go.Proofs.Ytkfahinbpmhcgaa
open Go.RowKit

def zst : TState := ⟨0, [], [], []⟩
def more (x : TNode) : TNode := ⟨x.Start, x.States ++ [zst]⟩
theorem more_ok {g : TGraph} {n : Int} {x : TNode} (h : NodeP g n x) (h7 : x.States.length ≤ 7) : NodeP g n (more x) := by
  obtain ⟨h1, h2, h3, h4, h5⟩ := h
  have hl : (more x).States.length = x.States.length + 1 := by simp [more]
  refine ⟨by omega, by omega, h3, by rw [hl]; show x.Start < _; omega, fun s hs => ?_⟩
  rcases List.mem_append.1 hs with hs | hs
  · obtain ⟨q1, q2, q3, q4, q5, q6⟩ := h5 s hs
    refine ⟨q1, q2, q3, ⟨q4.1, q4.2.1, fun p hp => ?_⟩, fun i t ht => ?_, fun t ht to hto => ?_⟩
    · obtain ⟨r1, r2, r3⟩ := q4.2.2 p hp
      exact ⟨r1, by rw [hl]; omega, r3⟩
    · obtain ⟨r1, r2, r3, r4, r5, r6⟩ := q5 i t ht
      exact ⟨r1, r2, r3, r4, by rw [hl]; omega, r6⟩
    · obtain ⟨i, hi, e⟩ := List.getElem_of_mem ht
      obtain ⟨_, _, _, r4, r5, _⟩ := q5 i t (by rw [List.getElem?_eq_getElem hi, e])
      refine q6 t ht to ?_
      have : (x.States ++ [zst])[t.Next.toNat]? = some to := hto
      rwa [List.getElem?_append_left (by omega)] at this
  · rw [List.mem_singleton] at hs
    subst hs
    exact ⟨by decide, by decide, ⟨fun e => absurd e (by decide), fun _ => rfl⟩, ⟨by decide, .inr rfl, fun p hp => by simp [zst] at hp⟩, fun i t ht => by simp [zst] at ht, fun t ht => by simp [zst] at ht⟩
theorem tableMore_true (a0 : List TNode) (a1 : TGraph) (a2 : A5I) (w0 : (wL 32 wTNode) a0) (w1 : wTGraph a1) (w2 : wA5I a2) : L_law04_TableMore a0 a1 a2 = some true := by
  classical
  unfold L_law04_TableMore
  rw [law_cutL, Option.bind_some, law_cut, Option.bind_some]
  have hl := cutL_sz a0
  have hcc := cutL_cutL a0
  have hlen := cut_len a1
  generalize cutL a0 = l at hl hcc
  generalize (⟨a1.N, a1.Links.take 40⟩ : TGraph) = g at hlen
  rw [law_refL hl, Option.bind_some, law_ref, Option.bind_some, ref_tright (by omega) hl, Option.bind_some]
  by_cases hR : TRightP l g
  · have h1 := hR.1.1
    rw [if_pos (dT hR), if_pos (by omega), law_cutL, Option.bind_some, hcc]
    obtain ⟨n, en, hn⟩ := pick_node a2.a0 h1
    have hln : n < l.length := by have := hR.2.1; omega
    have hx : l[n]? = some l[n] := List.getElem?_eq_getElem hln
    have hp := hR.2.2 n _ hx
    have h8 := hp.2.1
    rw [en, at_get hln, Option.bind_some, if_pos (by omega), Option.bind_some, if_pos (by have := hp.1; omega), Int.toNat_natCast]
    have hxz := hl.2 _ (List.getElem_mem hln)
    have hxx : (TNode.mk l[n].Start (l[n].States ++ [⟨0, [], [], []⟩])) = more l[n] := rfl
    have hmz : SzL (l.set n (more l[n])) := by
      refine ⟨by rw [List.length_set]; exact hl.1, fun y hy => ?_⟩
      rcases List.mem_or_eq_of_mem_set hy with hy | rfl
      · exact hl.2 y hy
      · refine ⟨by simp [more]; omega, fun s hs => ?_⟩
        rcases List.mem_append.1 hs with hs | hs
        · exact hxz.2 s hs
        · rw [List.mem_singleton] at hs
          subst hs
          exact ⟨by simp [zst], by simp [zst], by simp [zst], by simp [zst]⟩
    rw [hxx]
    have hset : (l.set n (more l[n]))[n]? = some (more l[n]) := by rw [List.getElem?_set]; simp [hln]
    by_cases h7 : (l[n].States.length : Int) > 7
    · rw [if_pos h7, table_right (by omega) hmz, Option.bind_some, if_neg, fixed04]
      · rfl
      · rw [dF]
        · decide
        · intro q
          have := (q.2.2 n _ hset).2.1
          simp [more] at this
          omega
    · have hRm : TRightP (l.set n (more l[n])) g := by
        refine ⟨hR.1, by rw [List.length_set]; exact hR.2.1, fun k y hy => ?_⟩
        rw [List.getElem?_set] at hy
        by_cases e : n = k
        · subst e
          rw [if_pos rfl, if_pos hln] at hy
          injection hy with hy
          subst hy
          exact more_ok hp (by omega)
        · rw [if_neg e] at hy
          exact hR.2.2 k y hy
      obtain ⟨s, es, hs⟩ := pick_nat a2.a1 hp.1
      have hms : s < (more l[n]).States.length := by simp [more]; omega
      have hmm : l[n].States.length < (more l[n]).States.length := by simp [more]
      have e1 : stOf (l.set n (more l[n])) n s = l[n].States[s] := by
        rw [stOf_at hset hms]
        exact List.getElem_append_left hs
      have e2 : stOf (l.set n (more l[n])) n l[n].States.length = zst := by
        rw [stOf_at hset hmm]
        simp [more]
      have e3 : stOf l n s = l[n].States[s] := stOf_at hx hs
      have hz1 := (hxz.2 _ (List.getElem_mem hs)).1
      rw [if_neg h7, table_right (by omega) hmz, Option.bind_some, if_pos (dT hRm), es, table_mode, Option.bind_some, table_mode, Option.bind_some, e1, e3, if_pos rfl, table_mode, Option.bind_some, e2, if_pos (show zst.Mode = 0 from rfl), table_waits hmz, Option.bind_some, table_waits hl, Option.bind_some, e1, e3, ints_same (by omega), Option.bind_some, if_pos rfl, table_taken hmz, Option.bind_some, table_taken hl, Option.bind_some, e1, e3, if_pos rfl, table_taken hmz, Option.bind_some, e2, if_pos (show takenOf zst.Takes (l[n].States.length : Int) a2.a3 a2.a4 = (l[n].States.length : Int) from rfl), fixed04]
      rfl
  · rw [if_neg (by rw [dF hR]; decide), table_right (by omega) hl, Option.bind_some, if_neg (by rw [dF hR]; decide), fixed04]
    rfl
end Go.Proofs.Ytkfahinbpmhcgaa
