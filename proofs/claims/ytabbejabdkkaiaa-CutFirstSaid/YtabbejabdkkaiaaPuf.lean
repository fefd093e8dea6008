/- Cuts: the reference's counts; the program's own fixed cuts. No condition. -/
import Derived.Test.YtabbejabdkkaiaaPue
set_option linter.unusedSimpArgs false
set_option linter.unusedVariables false
namespace Go.Proofs.Ytabbejabdkkaiaa
open Go.RowKit

section
variable {g : TGraph}
theorem ref17_counts (h : RightP g) {l : List TStep} (hl : l.length ≤ 1000) : L_ref17_Counts g l = some (ncntL g l) := by
 have h1 := h.1
 have h2 := h.2.1
 unfold L_ref17_Counts
 rw [if_pos (by omega),if_pos (by omega),if_pos (by omega)]
 have q := loopI (F := fun nf k (s : List Int) => L_ref17_Counts_l1 g l nf k s) (len := l.length) (fun k s => s = ncntL g (l.take k)) (fun _ _ => some (ncntL g l))
  (fun nf s hs => by
   rw [L_ref17_Counts_l1,if_neg (by omega),hs,List.take_length])
  (fun nf k s hk hs ih => by
   have hw := whereC_lt h l[k]
   have hlen : s.length = g.N.toNat := by rw [hs]; unfold ncntL; rw [List.length_map,List.length_range]
   rw [L_ref17_Counts_l1,if_pos (by omega),at_get hk,Option.bind_some,ref17_where,Option.bind_some,wr_succ (by omega)]
   have e := ncntL_snoc (g := g) (l.take k) l[k] hw
   rw [← List.take_succ_eq_append_getElem hk] at e
   by_cases c : whereC g l[k] ≥ 0
   ·
    have hx : (whereC g l[k]).toNat < s.length := by omega
    have ex : s[(whereC g l[k]).toNat] = ncnt g (whereC g l[k]) (l.take k) := by
     have : s[(whereC g l[k]).toNat]? = some (ncnt g (whereC g l[k]) (l.take k)) := by
      rw [hs,ncntL_get,if_pos (by omega)]
      congr 2
      omega
     rw [List.getElem?_eq_getElem hx] at this
     exact Option.some.inj this
    have b1 := ncnt_pos (g := g) (whereC g l[k]) (l.take k)
    have b2 := ncnt_len (g := g) (whereC g l[k]) (l.take k)
    rw [List.length_take] at b2
    rw [if_pos c,at_lt (by omega) (by omega),Option.bind_some,Option.bind_some,ex,wr (by omega) (by omega)]
    exact ih _ (by rw [e,if_pos c,hs])
   ·
    rw [if_neg c,Option.bind_some]
    exact ih _ (by rw [e,if_neg (by omega),hs]))
  l.length (((l.length : Int) - 0).toNat + 1) 0 (List.replicate g.N.toNat 0) (by omega) (by omega) (by
   refine List.ext_getElem? fun n => ?_
   rw [List.take_zero,ncntL_get,List.getElem?_replicate]
   unfold ncnt
   simp)
 exact q
end
theorem fixed17 : L_law17_fixed = some true := by decide +kernel
theorem sz_start {a : TApp} (ha : SzA a) : SzC (startP a) := by
 have h1 := ha.t.1
 have h2 := ha.g
 refine ⟨by simp [startP]; omega,by simp [startP]; omega,fun l hl => ?_,by simp [startP]; omega⟩
 rw [(List.mem_replicate.1 hl).2]
 decide
open Classical in
theorem start_iff {a : TApp} (ha : SzA a) : L_ref05_Right a (startP a) = some (decide (CRightP a (startP a))) := ref_right5 ha (sz_start ha)
theorem ncntL_len (g : TGraph) (l : List TStep) : (ncntL g l).length = g.N.toNat := by unfold ncntL; rw [List.length_map,List.length_range]
theorem wI_i64 {x : Int} (h1 : -9223372036854775808 ≤ x) (h2 : x ≤ 9223372036854775807) : wI .i64 x := by
 have e1 : IntKind.min .i64 = -9223372036854775808 := by decide
 have e2 : IntKind.max .i64 = 9223372036854775807 := by decide
 unfold wI
 omega
theorem ncntL_w (g : TGraph) {l : List TStep} (hl : l.length ≤ 1000) : ∀ x ∈ ncntL g l,wI .i64 x := fun x hx => by
 obtain ⟨n,_,rfl⟩ := List.mem_map.1 hx
 have h1 := ncnt_pos (g := g) (n : Nat) l
 have h2 := ncnt_len (g := g) (n : Nat) l
 exact wI_i64 (by omega) (by omega)
end Go.Proofs.Ytabbejabdkkaiaa
