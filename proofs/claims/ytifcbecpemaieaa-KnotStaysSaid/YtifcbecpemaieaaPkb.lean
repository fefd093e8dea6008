/- The knot in plain words: the program's, and the document's. No condition. -/
import Derived.Test.YtifcbecpemaieaaPka
set_option linter.unusedSimpArgs false
set_option linter.unusedVariables false
namespace Go.Proofs.Ytifcbecpemaieaa
open Go.RowKit

def Wy (L : List Bool) (i j : Nat) : Prop := B L (i * 6 + j)
structure WI (E : Nat → Nat → Prop) (N k i j : Nat) (L : List Bool) : Prop where
 len : L.length = 36
 dn : ∀ x y,x < N → y < N → (x < i ∨ x = i ∧ y < j) → (Wy L x y ↔ Rk E (k + 1) x y)
 up : ∀ x y,x < N → y < N → ¬ (x < i ∨ x = i ∧ y < j) → (Wy L x y ↔ Rk E k x y)
section
variable {E : Nat → Nat → Prop} {N k i j : Nat} {L : List Bool}
theorem WI.set (h : WI E N k i j L) (hN : N ≤ 6) (hi : i < N) (hj : j < N) (b : Bool) (hb : b = true ↔ Rk E (k + 1) i j) : WI E N k i (j + 1) (L.set (i * 6 + j) b) := by
 have hl := h.len
 have hs : ∀ x y,x < N → y < N → (Wy (L.set (i * 6 + j) b) x y ↔ if x = i ∧ y = j then b = true else Wy L x y) := fun x y hx hy => by
  unfold Wy
  rw [B_set (by omega)]
  by_cases e : x = i ∧ y = j
  · rw [if_pos e,if_pos (by omega)]
  · rw [if_neg e,if_neg (by omega)]
 refine ⟨by rw [List.length_set]; exact hl,fun x y hx hy q => ?_,fun x y hx hy q => ?_⟩
 ·
  rw [hs x y hx hy]
  by_cases e : x = i ∧ y = j
  · rw [if_pos e,e.1,e.2]; exact hb
  · rw [if_neg e]; exact h.dn x y hx hy (by omega)
 ·
  rw [hs x y hx hy,if_neg (by omega)]
  exact h.up x y hx hy (by omega)
theorem WI.row (h : WI E N k i N L) : WI E N k (i + 1) 0 L :=
 ⟨h.len,fun x y hx hy q => h.dn x y hx hy (by omega),fun x y hx hy q => h.up x y hx hy (by omega)⟩
theorem WI.round (h : WI E N k N 0 L) : WI E N (k + 1) 0 0 L :=
 ⟨h.len,fun x y hx hy q => by omega,fun x y hx hy q => h.dn x y hx hy (by omega)⟩
theorem WI.ij (h : WI E N k i j L) (hi : i < N) (hj : j < N) : Wy L i j ↔ Rk E k i j := h.up i j hi hj (by omega)
theorem WI.ik (h : WI E N k i j L) (hi : i < N) (hk : k < N) : Wy L i k ↔ Rk E k i k := by
 by_cases q : k < j
 · rw [h.dn i k hi hk (by omega)]; exact Rk.to
 · exact h.up i k hi hk (by omega)
theorem WI.kj (h : WI E N k i j L) (hk : k < N) (hj : j < N) : Wy L k j ↔ Rk E k k j := by
 by_cases q : k < i
 · rw [h.dn k j hk hj (by omega)]; exact Rk.from
 · exact h.up k j hk hj (by omega)
end
section
variable {a : TApp} {c : TConf}
theorem knot_l4 (h : CRightP a c) {k i : Nat} (hk : k < c.States.length) (hi : i < c.States.length) {L : List Bool} (hL : WI (EP a c) c.States.length k i 0 L) : ∃ L',L_knot_Knot_l4 a k i ((a.G.N - 0).toNat + 1) 0 L = some L' ∧ WI (EP a c) c.States.length k (i + 1) 0 L' := by
 have h6 := h.n6
 have hN := h.nst
 obtain ⟨L',q1,q2⟩ := loopE (F := fun nf j s => L_knot_Knot_l4 a k i nf j s) (len := c.States.length) (fun j s => WI (EP a c) c.States.length k i j s) (fun s => WI (EP a c) c.States.length k i c.States.length s)
  (fun nf s hs => ⟨s,by rw [L_knot_Knot_l4,if_neg (by omega)],hs⟩)
  (fun nf j s hj hs ih => by
   have hl := hs.len
   rw [L_knot_Knot_l4,if_pos (by omega),if_pos (by omega),if_pos (by omega),if_pos (by omega),if_pos (by omega)]
   simp only [Int.toNat_natCast]
   rw [at_get (show i * 6 + j < s.length by omega),Option.bind_some,wr_succ (by omega)]
   have hij := hs.ij hi hj
   have hik := hs.ik hi hk
   have hkj := hs.kj hk hj
   unfold Wy at hij hik hkj
   rw [← B_get (by omega)] at hij hik hkj
   by_cases e1 : s[i * 6 + j] = true
   ·
    rw [if_pos e1,if_pos (by omega),Option.bind_some]
    exact ih _ (hs.set h6.2 hi hj true ⟨fun _ => .inl (hij.1 e1),fun _ => rfl⟩)
   ·
    rw [if_neg e1,if_pos (by omega),if_pos (by omega),at_get (show i * 6 + k < s.length by omega),Option.bind_some]
    by_cases e2 : s[i * 6 + k] = true
    ·
     rw [if_pos e2,at_get (show k * 6 + j < s.length by omega),Option.bind_some,if_pos (by omega),Option.bind_some]
     exact ih _ (hs.set h6.2 hi hj _ ⟨fun q => .inr ⟨hik.1 e2,hkj.1 q⟩,fun q => by
      rcases q with q | ⟨_,q⟩
      · exact absurd (hij.2 q) e1
      · exact hkj.2 q⟩)
    ·
     rw [if_neg e2,if_pos (by omega),Option.bind_some]
     exact ih _ (hs.set h6.2 hi hj false ⟨(fun q => by cases q),fun q => by
      rcases q with q | ⟨q,_⟩
      · exact absurd (hij.2 q) e1
      · exact absurd (hik.2 q) e2⟩))
  c.States.length ((a.G.N - 0).toNat + 1) 0 L (by omega) (by omega) hL
 exact ⟨L',q1,q2.row⟩
theorem knot_l3 (h : CRightP a c) {k : Nat} (hk : k < c.States.length) {L : List Bool} (hL : WI (EP a c) c.States.length k 0 0 L) : ∃ L',L_knot_Knot_l3 a k ((a.G.N - 0).toNat + 1) 0 L = some L' ∧ WI (EP a c) c.States.length (k + 1) 0 0 L' := by
 have h6 := h.n6
 have hN := h.nst
 obtain ⟨L',q1,q2⟩ := loopE (F := fun nf i s => L_knot_Knot_l3 a k nf i s) (len := c.States.length) (fun i s => WI (EP a c) c.States.length k i 0 s) (fun s => WI (EP a c) c.States.length k c.States.length 0 s)
  (fun nf s hs => ⟨s,by rw [L_knot_Knot_l3,if_neg (by omega)],hs⟩)
  (fun nf i s hi hs ih => by
   obtain ⟨s',e1,e2⟩ := knot_l4 h hk hi hs
   rw [L_knot_Knot_l3,if_pos (by omega),e1,Option.bind_some,Option.bind_some,wr_succ (by omega)]
   exact ih _ e2)
  c.States.length ((a.G.N - 0).toNat + 1) 0 L (by omega) (by omega) hL
 exact ⟨L',q1,q2.round⟩
theorem knot_l2 (h : CRightP a c) {L : List Bool} (hL : WI (EP a c) c.States.length 0 0 0 L) : ∃ L',L_knot_Knot_l2 a ((a.G.N - 0).toNat + 1) 0 L = some L' ∧ WI (EP a c) c.States.length c.States.length 0 0 L' := by
 have h6 := h.n6
 have hN := h.nst
 exact loopE (F := fun nf k s => L_knot_Knot_l2 a nf k s) (len := c.States.length) (fun k s => WI (EP a c) c.States.length k 0 0 s) (fun s => WI (EP a c) c.States.length c.States.length 0 0 s)
  (fun nf s hs => ⟨s,by rw [L_knot_Knot_l2,if_neg (by omega)],hs⟩)
  (fun nf k s hk hs ih => by
   obtain ⟨s',e1,e2⟩ := knot_l3 h hk hs
   rw [L_knot_Knot_l2,if_pos (by omega),e1,Option.bind_some,Option.bind_some,wr_succ (by omega)]
   exact ih _ e2)
  c.States.length ((a.G.N - 0).toNat + 1) 0 L (by omega) (by omega) hL
theorem B_rep (n v : Nat) : ¬ B (List.replicate n false) v := by
 unfold B
 rw [List.getElem?_replicate]
 split <;> simp
theorem knot_l1 (h : CRightP a c) (ha : SzA a) : ∃ L,L_knot_Knot_l1 (edgesOf a c) ((((edgesOf a c).length : Int) - 0).toNat + 1) 0 (List.replicate 36 false) = some L ∧ WI (EP a c) c.States.length 0 0 0 L := by
 have h6 := h.n6
 have hel := edges_len h ha
 obtain ⟨L,q1,q2,q3⟩ := loopE (F := fun nf k s => L_knot_Knot_l1 (edgesOf a c) nf k s) (len := (edgesOf a c).length) (fun k s => s.length = 36 ∧ ∀ x y,x < 6 → y < 6 → (Wy s x y ↔ A2I.mk x y ∈ (edgesOf a c).take k)) (fun s => s.length = 36 ∧ ∀ x y,x < 6 → y < 6 → (Wy s x y ↔ A2I.mk x y ∈ edgesOf a c))
  (fun nf s hs => ⟨s,by rw [L_knot_Knot_l1,if_neg (by omega)],hs.1,by have := hs.2; rwa [List.take_length] at this⟩)
  (fun nf k s hk ⟨hs1,hs2⟩ ih => by
   have hm : (edgesOf a c)[k] ∈ edgesOf a c := List.getElem_mem hk
   obtain ⟨n,w,e1,e2,e3,e4,_⟩ := h.edge ha ((mem_edges (edgesOf a c)[k].a0 (edgesOf a c)[k].a1).1 hm)
   have ee : (edgesOf a c)[k] = A2I.mk n w := by rw [← e1,← e2]
   rw [L_knot_Knot_l1,if_pos (by omega),at_get hk,Option.bind_some,ee]
   dsimp only
   rw [if_pos (by omega),if_pos (by omega),if_pos (by omega),if_pos (by omega),Int.toNat_natCast,Int.toNat_natCast,if_pos (by omega),wr_succ (by omega)]
   refine ih _ ⟨by rw [List.length_set]; exact hs1,fun x y hx hy => ?_⟩
   rw [List.take_succ_eq_append_getElem hk,List.mem_append,List.mem_singleton,ee,← hs2 x y hx hy]
   unfold Wy
   rw [B_set (by omega)]
   by_cases e : x = n ∧ y = w
   ·
    rw [if_pos (by omega)]
    exact ⟨fun _ => .inr (by rw [e.1,e.2]),fun _ => rfl⟩
   ·
    rw [if_neg (by omega)]
    refine ⟨.inl,fun q => ?_⟩
    rcases q with q | q
    · exact q
    ·
     injection q with q1 q2
     exact absurd ⟨by omega,by omega⟩ e)
  (edgesOf a c).length ((((edgesOf a c).length : Int) - 0).toNat + 1) 0 (List.replicate 36 false) (by omega) (by omega) ⟨by simp,fun x y hx hy => by
   rw [List.take_zero]
   exact ⟨fun q => absurd q (B_rep _ _),fun q => by simp at q⟩⟩
 exact ⟨L,q1,q2,fun x y hx hy q => by omega,fun x y hx hy _ => (q3 x y (by omega) (by omega)).trans (mem_edges _ _)⟩
open Classical in
noncomputable def knotOf (a : TApp) (c : TConf) : List Int := ((List.range c.States.length).filter fun n => decide (Relation.TransGen (EP a c) n n)).map fun n => ((n : Nat) : Int)
open Classical in
theorem knot_knot (h : CRightP a c) (ha : SzA a) : L_knot_Knot a c = some (knotOf a c) := by
 have h6 := h.n6
 have hN := h.nst
 obtain ⟨L1,e1,w1⟩ := knot_l1 h ha
 obtain ⟨L2,e2,w2⟩ := knot_l2 h w1
 unfold L_knot_Knot
 rw [knot_edges h ha,Option.bind_some,e1,Option.bind_some,e2,Option.bind_some]
 have hl := w2.len
 have q := loopMapO (F := fun nf k s => L_knot_Knot_l5 a L2 nf k s) (l := List.range c.States.length) (fun n => if decide (Relation.TransGen (EP a c) n n) = true then [((n : Nat) : Int)] else []) id 0 1 (fun x _ => by split <;> simp)
  (fun nf s hs => by rw [List.length_range,L_knot_Knot_l5,if_neg (by omega)]; rfl)
  (fun nf k s hk hs => by
   rw [List.length_range] at hk
   have hW : Wy L2 k k ↔ Relation.TransGen (EP a c) k k := (w2.up k k hk hk (by omega)).trans (Rk.iff (EP.lt h ha))
   unfold Wy at hW
   rw [← B_get (by omega)] at hW
   rw [L_knot_Knot_l5,if_pos (by omega),if_pos (by omega),if_pos (by omega)]
   simp only [Int.toNat_natCast]
   rw [at_get (show k * 6 + k < L2.length by omega),Option.bind_some,wr_succ (by omega),List.getElem_range]
   by_cases e : Relation.TransGen (EP a c) k k
   · rw [if_pos (hW.2 e),if_pos (by omega),Option.bind_some,if_pos (dT e)]
   · rw [if_neg fun q => e (hW.1 q),Option.bind_some,if_neg (by rw [dF e]; decide),List.append_nil])
  (List.range c.States.length).length ((a.G.N - 0).toNat + 1) 0 [] (by simp) (by rw [List.length_range]; omega) (by simp)
 rw [List.drop_zero,flatMap_if (fun n => decide (Relation.TransGen (EP a c) n n)) (fun n => ((n : Nat) : Int))] at q
 exact q
theorem knotOf_len (h : CRightP a c) : (knotOf a c).length ≤ 6 := by
 have h6 := h.n6
 unfold knotOf
 rw [List.length_map]
 exact Nat.le_trans (List.length_filter_le _ _) (by simp; omega)
end
end Go.Proofs.Ytifcbecpemaieaa
