/- Nodes that are held, and rings, in plain words. No condition. -/
import Derived.Test.YtifcbecpemaieaaPkb
set_option linter.unusedSimpArgs false
set_option linter.unusedVariables false
namespace Go.Proofs.Ytifcbecpemaieaa
open Go.RowKit

theorem fixed15 : L_law15_fixed = some true := by decide +kernel
def heldP (a : TApp) (c : TConf) (l : List Int) : Prop := l ≠ [] ∧ ∀ n ∈ l,∃ m ∈ l,edgeB a c n m = true
open Classical in
theorem held_11 (e : A2I) (n : Int) (l : List Int) (hl : l.length ≤ 1000) : L_knot_Held_1_1 e n l = some (decide (e.a0 = n ∧ e.a1 ∈ l),n,l) := by
 unfold L_knot_Held_1_1
 by_cases q : e.a0 = n
 ·
  rw [if_pos q,contains_int hl,Option.bind_some,Option.bind_some]
  congr 2
  exact ddec ⟨fun r => ⟨q,r⟩,fun r => r.2⟩
 · rw [if_neg q,Option.bind_some,dF fun r => q r.1]
open Classical in
theorem held_any2 (es : List A2I) (he : es.length ≤ 10000) (n : Int) (l : List Int) (hl : l.length ≤ 1000) : L_slices_ContainsFunc_2_int_2_int es n l = some (decide (∃ e ∈ es,e.a0 = n ∧ e.a1 ∈ l),n,l) := by
 unfold L_slices_ContainsFunc_2_int_2_int L_slices_IndexFunc_2_int_2_int
 obtain ⟨r,h1,h2⟩ := anyLoop (σ := Int × List Int) (F := fun nf k m => L_slices_IndexFunc_2_int_2_int_l1 es nf k m.1 m.2) (l := es) (n,l) (fun e => e.a0 = n ∧ e.a1 ∈ l)
  (fun nf => by rw [L_slices_IndexFunc_2_int_2_int_l1,if_neg (by omega)])
  (fun nf k hk => by
   rw [L_slices_IndexFunc_2_int_2_int_l1,if_pos (by omega),at_get hk,Option.bind_some,held_11 _ _ _ hl,Option.bind_some,wr_succ (by omega)]
   dsimp only
   exact ⟨fun q => by rw [if_pos (dT q)],fun q => by rw [if_neg (by rw [dF q]; decide)]⟩) (((es.length : Int) - 0).toNat + 1) (by omega)
 dsimp only at h1
 rw [h1,Option.bind_some]
 congr 2
 exact ddec h2
open Classical in
theorem held_1 (es : List A2I) (he : es.length ≤ 10000) (n : Int) (l : List Int) (hl : l.length ≤ 1000) : L_knot_Held_1 n es l = some (decide (¬ ∃ e ∈ es,e.a0 = n ∧ e.a1 ∈ l),es,l) := by
 unfold L_knot_Held_1
 rw [held_any2 es he n l hl,Option.bind_some]
 dsimp only
 congr 2
 exact Option.some.inj (ndec Iff.rfl)
open Classical in
theorem held_any1 (xs : List Int) (hx : xs.length ≤ 1000) (es : List A2I) (he : es.length ≤ 10000) (l : List Int) (hl : l.length ≤ 1000) : L_slices_ContainsFunc_int_int xs es l = some (decide (∃ n ∈ xs,¬ ∃ e ∈ es,e.a0 = n ∧ e.a1 ∈ l),es,l) := by
 unfold L_slices_ContainsFunc_int_int L_slices_IndexFunc_int_int
 obtain ⟨r,h1,h2⟩ := anyLoop (σ := List A2I × List Int) (F := fun nf k m => L_slices_IndexFunc_int_int_l1 xs nf k m.1 m.2) (l := xs) (es,l) (fun n => ¬ ∃ e ∈ es,e.a0 = n ∧ e.a1 ∈ l)
  (fun nf => by rw [L_slices_IndexFunc_int_int_l1,if_neg (by omega)])
  (fun nf k hk => by
   rw [L_slices_IndexFunc_int_int_l1,if_pos (by omega),at_get hk,Option.bind_some,held_1 _ he _ _ hl,Option.bind_some,wr_succ (by omega)]
   dsimp only
   exact ⟨fun q => by rw [if_pos (dT q)],fun q => by rw [if_neg (by rw [dF q]; decide)]⟩) (((xs.length : Int) - 0).toNat + 1) (by omega)
 dsimp only at h1
 rw [h1,Option.bind_some]
 congr 2
 exact ddec h2
section
variable {a : TApp} {c : TConf}
theorem edge_mem (n : Int) (l : List Int) : (∃ e ∈ edgesOf a c,e.a0 = n ∧ e.a1 ∈ l) ↔ ∃ m ∈ l,edgeB a c n m = true :=
 ⟨fun ⟨e,he,h1,h2⟩ => ⟨e.a1,h2,by subst h1; exact (mem_edges e.a0 e.a1).1 he⟩,fun ⟨m,hm,h⟩ => ⟨A2I.mk n m,(mem_edges n m).2 h,rfl,hm⟩⟩
open Classical in
theorem knot_held (h : CRightP a c) (ha : SzA a) {l : List Int} (hl : l.length ≤ 1000) : L_knot_Held a c l = some (decide (heldP a c l)) := by
 have hel := edges_len h ha
 unfold L_knot_Held
 rw [knot_edges h ha,Option.bind_some,held_any1 l hl _ (by omega) l hl,Option.bind_some]
 by_cases q : (l.length : Int) > 0
 ·
  rw [if_pos q,Option.bind_some]
  refine ndec ⟨fun ⟨_,r⟩ ⟨n,hn,hno⟩ => hno ((edge_mem n l).2 (r n hn)),fun r => ⟨fun e => by rw [e] at q; simp at q,fun n hn => Classical.byContradiction fun hno => r ⟨n,hn,fun g => hno ((edge_mem n l).1 g)⟩⟩⟩
 ·
  rw [if_neg q,Option.bind_some]
  exact sF fun r => r.1 (List.eq_nil_of_length_eq_zero (by omega))
def nextI (l : List Int) (i : Nat) : Nat := (i + 1) % l.length
def RingQ (a : TApp) (c : TConf) (l : List Int) (i : Nat) (n : Int) : Prop := n ∉ l.take i ∧ ∀ m,l[nextI l i]? = some m → edgeB a c n m = true
def ringP (a : TApp) (c : TConf) (l : List Int) : Prop := l ≠ [] ∧ ∀ (i : Nat) (n : Int),l[i]? = some n → RingQ a c l i n
theorem next_lt {l : List Int} {i : Nat} (hi : i < l.length) : nextI l i < l.length := Nat.mod_lt _ (by omega)
theorem ring_cur {l : List Int} {i : Nat} (hi : i < l.length) : RingQ a c l i l[i] ↔ l[i] ∉ l.take i ∧ edgeB a c l[i] (l[nextI l i]'(next_lt hi)) = true :=
 and_congr_right fun _ => ⟨fun h => h _ (List.getElem?_eq_getElem (next_lt hi)),fun h m hm => by
  rw [List.getElem?_eq_getElem (next_lt hi)] at hm
  injection hm with hm
  exact hm ▸ h⟩
open Classical in
theorem ring_end (l : List Int) : some (if ∀ (k : Nat) x,l[k]? = some x → RingQ a c l k x then decide ((l.length : Int) > 0) else false) = some (decide (ringP a c l)) := by
 by_cases r : ∀ (k : Nat) x,l[k]? = some x → RingQ a c l k x
 ·
  rw [if_pos r]
  refine sdec ⟨fun g => ⟨fun e => by rw [e] at g; simp at g,r⟩,fun g => ?_⟩
  rcases Nat.eq_zero_or_pos l.length with e | e
  · exact absurd (List.eq_nil_of_length_eq_zero e) g.1
  · omega
 ·
  rw [if_neg r]
  exact sF fun g => r g.2
theorem index_2 (l : List A2I) (x : A2I) (hs : l.length ≤ 10000) : ∃ i : Int,L_slices_Index_2_int_2_int l x = some i ∧ (i ≥ 0 ↔ x ∈ l) := by
 unfold L_slices_Index_2_int_2_int
 obtain ⟨r,h1,h2⟩ := anyLoop (σ := Unit) (F := fun nf k _ => (L_slices_Index_2_int_2_int_l1 l x nf k).map fun r => (r,())) (l := l) () (fun e => x = e)
  (fun nf => by rw [L_slices_Index_2_int_2_int_l1,if_neg (by omega)]; rfl)
  (fun nf k hk => by
   rw [L_slices_Index_2_int_2_int_l1,if_pos (by omega),at_get hk,Option.bind_some,wr_succ (by omega)]
   exact ⟨fun q => by rw [if_pos q]; rfl,fun q => by rw [if_neg q]⟩) (((l.length : Int) - 0).toNat + 1) (by omega)
 obtain ⟨i,e1,e2⟩ := Option.map_eq_some_iff.1 h1
 injection e2 with e2 _
 subst e2
 exact ⟨i,e1,h2.trans ⟨fun ⟨y,hy,e⟩ => e ▸ hy,fun hy => ⟨x,hy,rfl⟩⟩⟩
open Classical in
theorem contains_2 (l : List A2I) (x : A2I) (hs : l.length ≤ 10000) : L_slices_Contains_2_int_2_int l x = some (decide (x ∈ l)) := by
 unfold L_slices_Contains_2_int_2_int
 obtain ⟨i,h1,h2⟩ := index_2 l x hs
 rw [h1,Option.bind_some]
 exact sdec h2
open Classical in
theorem knot_ring (h : CRightP a c) (ha : SzA a) {l : List Int} (hl : l.length ≤ 1000) : L_knot_Ring a c l = some (decide (ringP a c l)) := by
 have hel := edges_len h ha
 unfold L_knot_Ring
 rw [knot_edges h ha,Option.bind_some,← ring_end]
 exact loopList (F := fun nf k => L_knot_Ring_l1 l (edgesOf a c) nf k) (l := l) (fun i n => RingQ a c l i n) (decide ((l.length : Int) > 0)) false
  (fun nf => by rw [L_knot_Ring_l1,if_neg (by omega)])
  (fun nf k hk => stepN (by rw [L_knot_Ring_l1,if_pos (by omega),at_get hk,Option.bind_some,wr_succ (by omega)]) (by
   rw [if_pos (by omega),if_pos (by omega),Option.bind_some,Int.toNat_natCast,contains_int (by rw [List.length_take]; omega),Option.bind_some,ring_cur hk]
   by_cases q : l[k] ∈ l.take k
   ·
    rw [if_pos (dT q)]
    exact sT' fun r => r.1 q
   ·
    have e : ((k + 1 : Nat) : Int).tmod (l.length : Int) = ((nextI l k : Nat) : Int) := by
     unfold nextI
     rw [Int.tmod_eq_emod_of_nonneg (by omega),Int.natCast_emod]
    rw [if_neg (by rw [dF q]; decide),if_pos (by omega),e,at_get (next_lt hk),Option.bind_some,contains_2 _ _ (by omega),Option.bind_some]
    refine ndec (not_congr ⟨fun r => (mem_edges _ _).2 r.2,fun r => ⟨q,(mem_edges _ _).1 r⟩⟩))) (((l.length : Int) - 0).toNat + 1) (by omega)
end
end Go.Proofs.Ytifcbecpemaieaa
