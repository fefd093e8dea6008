/- Cuts: what the program's functions answer, in the plain words. No condition. -/
import Derived.Test.YtabbejabdkkaiaaPuc
import Derived.Test.YtabbejabdkkaiaaPpj
set_option linter.unusedSimpArgs false
set_option linter.unusedVariables false
namespace Go.Proofs.Ytabbejabdkkaiaa
open Go.RowKit

section
variable {g : TGraph}
theorem band3 (p q r : Prop) [Decidable p] [Decidable q] [Decidable r] : (if p then if q then some (decide r) else some false else some false) = some (decide (p ∧ q ∧ r)) := by
 by_cases hp : p <;> by_cases hq : q <;> simp [hp,hq]
theorem cut_where (s : TStep) : L_cut_Where g s = some (whereC g s) := by
 unfold L_cut_Where whereC
 rw [band3,Option.bind_some]
 by_cases h1 : s.Kind = 0 ∧ s.Node ≥ 0 ∧ s.Node < g.N
 · rw [if_pos (dT h1),if_pos (show s.Kind = 0 ∧ 0 ≤ s.Node ∧ s.Node < g.N from h1)]
 ·
  rw [if_neg (by rw [dF h1]; decide),if_neg (show ¬ (s.Kind = 0 ∧ 0 ≤ s.Node ∧ s.Node < g.N) from h1),band3,Option.bind_some]
  by_cases h2 : s.Kind = 1 ∧ s.Link ≥ 0 ∧ s.Link < (g.Links.length : Int)
  · rw [if_pos (dT h2),if_pos (show s.Kind = 1 ∧ 0 ≤ s.Link ∧ s.Link < (g.Links.length : Int) from h2),at_lt h2.2.1 h2.2.2,Option.bind_some,List.getElem?_eq_getElem (by omega),Option.getD_some]
  · rw [if_neg (by rw [dF h2]; decide),if_neg (show ¬ (s.Kind = 1 ∧ 0 ≤ s.Link ∧ s.Link < (g.Links.length : Int)) from h2)]
theorem ref17_where (s : TStep) : L_ref17_Where g s = some (whereC g s) := by
 have := cut_where (g := g) s
 unfold L_cut_Where at this
 unfold L_ref17_Where
 exact this
theorem whereC_lt (h : RightP g) (s : TStep) : whereC g s < g.N := by
 unfold whereC
 split
 · rename_i q; exact q.2.2
 ·
  split
  ·
   rename_i q
   have hl : s.Link.toNat < g.Links.length := by omega
   rw [List.getElem?_eq_getElem hl,Option.getD_some]
   exact (h.link (List.getElem_mem hl)).2.2.2.1
  ·
   have := h.1
   omega
theorem sides_l1 {v : List Int} (hv : v.length ≤ 1000) : L_cut_sides_l1 v (((v.length : Int) - 0).toNat + 1) 0 v = some (v.map fun x => max x 0) := by
 have q := loopI (F := fun nf k s => L_cut_sides_l1 v nf k s) (len := v.length) (fun k s => s = (v.take k).map (fun x => max x 0) ++ v.drop k) (fun _ _ => some (v.map fun x => max x 0))
  (fun nf s hs => by
   rw [L_cut_sides_l1,if_neg (by omega),hs,List.take_length,List.drop_length,List.append_nil])
  (fun nf k s hk hs ih => by
   have hl : s.length = v.length := by rw [hs,List.length_append,List.length_map,List.length_take,List.length_drop]; omega
   have hk' : k < s.length := by omega
   have hm : ((v.take k).map fun x => max x 0).length = k := by rw [List.length_map,List.length_take]; omega
   have e : s[k] = v[k] := by
    have : s[k]? = some v[k] := by
     rw [hs,List.getElem?_append_right (by omega),hm,Nat.sub_self,List.getElem?_drop,Nat.add_zero,List.getElem?_eq_getElem hk]
    rw [List.getElem?_eq_getElem hk'] at this
    exact Option.some.inj this
   rw [L_cut_sides_l1,if_pos (by omega),at_get hk',Option.bind_some,wr_succ (by omega),Int.toNat_natCast,e]
   refine ih _ ?_
   rw [hs,List.set_append,if_neg (by omega),hm,Nat.sub_self,List.drop_eq_getElem_cons hk,List.set_cons_zero,List.take_succ_eq_append_getElem hk,List.map_append,List.append_assoc]
   rfl)
  v.length (((v.length : Int) - 0).toNat + 1) 0 v (by omega) (by omega) (by simp)
 exact q
theorem cut_sides_eq {counts : List Int} (h0 : 0 ≤ g.N) (h1 : g.N ≤ 1000) : L_cut_sides g counts = some (leftP g counts) := by
 unfold L_cut_sides
 rw [if_pos h0,if_pos (by omega),if_pos (by omega),Option.bind_some,List.length_replicate,Option.bind_some]
 have hl : (counts.take g.N.toNat ++ (List.replicate g.N.toNat (0 : Int)).drop (counts.take g.N.toNat).length).length = g.N.toNat := by
  rw [List.length_append,List.length_drop,List.length_replicate,List.length_take]
  omega
 rw [sides_l1 (by rw [hl]; omega)]
 congr 1
 refine List.ext_getElem? fun n => ?_
 unfold leftP
 rw [List.getElem?_map,List.getElem?_map]
 by_cases hn : n < g.N.toNat
 ·
  rw [List.getElem?_eq_getElem (l := List.range g.N.toNat) (by rw [List.length_range]; exact hn),List.getElem_range,List.getElem?_append]
  by_cases hc : n < counts.length
  ·
   rw [if_pos (by rw [List.length_take]; omega),List.getElem?_take,if_pos hn,Option.map_some,List.getElem?_eq_getElem hc,Option.getD_some]
   rfl
  ·
   rw [if_neg (by rw [List.length_take]; omega),List.getElem?_drop,List.getElem?_replicate,if_pos (by rw [List.length_take]; omega),Option.map_some,Option.map_some,List.getElem?_eq_none (show counts.length ≤ n by omega)]
   rfl
 ·
  rw [List.getElem?_eq_none (by omega),List.getElem?_eq_none (by rw [List.length_range]; omega)]
  rfl
structure LeftOk (g : TGraph) (k : Nat) (left : List Int) : Prop where
 len : left.length = g.N.toNat
 bd : ∀ x ∈ left,-(k : Int) ≤ x ∧ x ≤ 9223372036854775807
theorem LeftOk.side {k : Nat} {left : List Int} (h : LeftOk g k left) (w : Int) : LeftOk g (k + 1) (side w left).2 := by
 unfold Go.Proofs.Ytabbejabdkkaiaa.side
 split
 · exact ⟨h.len,fun x hx => by have := h.bd x hx; omega⟩
 ·
  refine ⟨by dsimp only; rw [List.length_set]; exact h.len,fun x hx => ?_⟩
  by_cases hl : w.toNat < left.length
  ·
   rcases List.mem_or_eq_of_mem_set hx with hx | hx
   ·
    have := h.bd x hx
    omega
   ·
    have := h.bd _ (List.getElem_mem hl)
    unfold lft at hx
    rw [List.getElem?_eq_getElem hl,Option.getD_some] at hx
    omega
  ·
   dsimp only at hx
   rw [List.set_eq_of_length_le (by omega)] at hx
   have := h.bd x hx
   omega
theorem leftP_ok {counts : List Int} (hc : ∀ x ∈ counts,wI .i64 x) : LeftOk g 0 (leftP g counts) := by
 refine ⟨leftP_len counts,fun x hx => ?_⟩
 obtain ⟨n,_,rfl⟩ := List.mem_map.1 hx
 by_cases hn : n < counts.length
 ·
  rw [List.getElem?_eq_getElem hn,Option.getD_some]
  have := (hc _ (List.getElem_mem hn)).i64
  omega
 ·
  rw [List.getElem?_eq_none (by omega)]
  decide
theorem cut_side_eq (h : RightP g) {k : Nat} {left : List Int} (hl : LeftOk g k left) (hk : k ≤ 1000) (s : TStep) : L_cut_side s g left = some (side (whereC g s) left) := by
 have hw := whereC_lt h s
 have hlen := hl.len
 unfold L_cut_side
 rw [cut_where,Option.bind_some]
 unfold side
 by_cases c : whereC g s < 0
 · rw [if_pos c,if_pos c]
 ·
  have hx : (whereC g s).toNat < left.length := by omega
  have hb := hl.bd _ (List.getElem_mem hx)
  have e : lft left (whereC g s) = left[(whereC g s).toNat] := by
   unfold lft
   rw [List.getElem?_eq_getElem hx,Option.getD_some]
  rw [if_neg c,if_neg c,at_lt (by omega) (by omega),Option.bind_some,wr (by omega) (by omega),Option.bind_some,at_lt (by omega) (by rw [List.length_set]; omega),Option.bind_some,List.getElem_set_self,e]
theorem ncnt_snoc (w : Int) (l : List TStep) (s : TStep) : ncnt g w (l ++ [s]) = ncnt g w l + (if whereC g s = w then 1 else 0) := by
 rw [ncnt_app,ncnt_cons]
 unfold ncnt
 simp
theorem ncntL_snoc (l : List TStep) (s : TStep) (hw : whereC g s < g.N) : ncntL g (l ++ [s]) = if 0 ≤ whereC g s then (ncntL g l).set (whereC g s).toNat (ncnt g (whereC g s) l + 1) else ncntL g l := by
 have hlen : (ncntL g l).length = g.N.toNat := by unfold ncntL; rw [List.length_map,List.length_range]
 by_cases h0 : 0 ≤ whereC g s
 ·
  rw [if_pos h0]
  refine List.ext_getElem? fun n => ?_
  rw [ncntL_get,List.getElem?_set,hlen,ncntL_get,ncnt_snoc]
  by_cases hn : n < g.N.toNat
  ·
   rw [if_pos hn]
   by_cases e : (whereC g s).toNat = n
   · rw [if_pos e,if_pos (by omega),if_pos (by omega),show ((n : Nat) : Int) = whereC g s by omega]
   · rw [if_neg e,if_neg (by omega),if_pos hn,Int.add_zero]
  · rw [if_neg hn,if_neg (by omega),if_neg hn]
 ·
  rw [if_neg h0]
  refine List.ext_getElem? fun n => ?_
  rw [ncntL_get,ncntL_get,ncnt_snoc,if_neg (show ¬ whereC g s = (n : Int) by omega),Int.add_zero]
end
end Go.Proofs.Ytabbejabdkkaiaa
