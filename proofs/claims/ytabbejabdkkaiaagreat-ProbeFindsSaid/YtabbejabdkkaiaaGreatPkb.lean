/- The knot in plain words: the program's, and the document's. No condition. -/
import Derived.Test.YtabbejabdkkaiaaGreatPka
set_option linter.unusedSimpArgs false
set_option linter.unusedVariables false
namespace Go.Proofs.YtabbejabdkkaiaaGreat
open Go.RowKit

def Wy (L : List Bool) (i j : Nat) : Prop := B L (i * 6 + j)
structure WI (E : Nat → Nat → Prop) (N k i j : Nat) (L : List Bool) : Prop where
 len : L.length = 36
 dn : ∀ x y,x < N → y < N → (x < i ∨ x = i ∧ y < j) → (Wy L x y ↔ Rk E (k + 1) x y)
 up : ∀ x y,x < N → y < N → ¬ (x < i ∨ x = i ∧ y < j) → (Wy L x y ↔ Rk E k x y)
section
variable {E : Nat → Nat → Prop} {N k i j : Nat} {L : List Bool}
theorem WI.set (h : WI E N k i j L) (hN : N ≤ 6) (hi : i < N) (hj : j < N) (b : Bool) (hb : b = true ↔ Rk E (k + 1) i j) : WI E N k i (j + 1) (L.set (i * 6 + j) b) := by
 have hl := h.len
 have hs : ∀ x y,x < N → y < N → (Wy (L.set (i * 6 + j) b) x y ↔ if x = i ∧ y = j then b = true else Wy L x y) := fun x y hx hy => by
  unfold Wy
  rw [B_set (by omega)]
  by_cases e : x = i ∧ y = j
  · rw [if_pos e,if_pos (by omega)]
  · rw [if_neg e,if_neg (by omega)]
 refine ⟨by rw [List.length_set]; exact hl,fun x y hx hy q => ?_,fun x y hx hy q => ?_⟩
 ·
  rw [hs x y hx hy]
  by_cases e : x = i ∧ y = j
  · rw [if_pos e,e.1,e.2]; exact hb
  · rw [if_neg e]; exact h.dn x y hx hy (by omega)
 ·
  rw [hs x y hx hy,if_neg (by omega)]
  exact h.up x y hx hy (by omega)
theorem WI.row (h : WI E N k i N L) : WI E N k (i + 1) 0 L :=
 ⟨h.len,fun x y hx hy q => h.dn x y hx hy (by omega),fun x y hx hy q => h.up x y hx hy (by omega)⟩
theorem WI.round (h : WI E N k N 0 L) : WI E N (k + 1) 0 0 L :=
 ⟨h.len,fun x y hx hy q => by omega,fun x y hx hy q => h.dn x y hx hy (by omega)⟩
end
section
variable {a : TApp} {c : TConf}
theorem B_rep (n v : Nat) : ¬ B (List.replicate n false) v := by
 unfold B
 rw [List.getElem?_replicate]
 split <;> simp
open Classical in
noncomputable def knotOf (a : TApp) (c : TConf) : List Int := ((List.range c.States.length).filter fun n => decide (Relation.TransGen (EP a c) n n)).map fun n => ((n : Nat) : Int)
structure RI (E : Nat → Nat → Prop) (N : Nat) (L0 L : List Bool) : Prop where
 len : L.length = N
 keep : ∀ v,B L0 v → B L v
 cl : ∀ Z : Nat → Prop,(∀ n w,Z n → E n w → Z w) → (∀ v,B L0 v → Z v) → ∀ v,B L v → Z v
theorem reach_l4 (h : CRightP a c) (ha : SzA a) {n : Nat} (hn : n < c.States.length) {L0 L1 : List Bool} (h0 : RI (EP a c) c.States.length L0 L1) (h00 : L0.length = c.States.length) : ∃ L',L_ref15_Reach_l4 a c n ((a.G.N - 0).toNat + 1) 0 L1 = some L' ∧ RI (EP a c) c.States.length L0 L' ∧ (∀ v,B L1 v → B L' v) ∧ ∀ w,B L0 n → EP a c n w → B L' w := by
 have h6 := h.n6
 have hN := h.nst
 obtain ⟨L',q1,q2,q3,q4⟩ := loopE (F := fun nf j s => L_ref15_Reach_l4 a c n nf j s) (len := c.States.length) (fun j s => RI (EP a c) c.States.length L0 s ∧ (∀ v,B L1 v → B s v) ∧ ∀ w,w < j → B L0 n → EP a c n w → B s w) (fun s => RI (EP a c) c.States.length L0 s ∧ (∀ v,B L1 v → B s v) ∧ ∀ w,w < c.States.length → B L0 n → EP a c n w → B s w)
  (fun nf s hs => ⟨s,by rw [L_ref15_Reach_l4,if_neg (by omega)],hs⟩)
  (fun nf j s hj ⟨hs,hm,hw⟩ ih => by
   have hl := hs.len
   have key : ∀ b : Bool,(b = true ↔ B s j ∨ B s n ∧ EP a c n j) → RI (EP a c) c.States.length L0 (s.set j b) ∧ (∀ v,B L1 v → B (s.set j b) v) ∧ ∀ w,w < j + 1 → B L0 n → EP a c n w → B (s.set j b) w := fun b hb => by
    have hup : ∀ v,B s v → B (s.set j b) v := fun v hv => by
     rw [B_set (by omega)]
     by_cases e : v = j
     · rw [if_pos e]; exact hb.2 (.inl (e ▸ hv))
     · rw [if_neg e]; exact hv
    refine ⟨⟨by rw [List.length_set]; exact hl,fun v hv => hup v (hs.keep v hv),fun Z hZ h0Z v hv => ?_⟩,fun v hv => hup v (hm v hv),fun w hwj h1 h2 => ?_⟩
    ·
     rw [B_set (by omega)] at hv
     by_cases e : v = j
     ·
      rw [if_pos e] at hv
      rcases hb.1 hv with q | ⟨q,q'⟩
      · exact hs.cl Z hZ h0Z v (e ▸ q)
      · exact e ▸ hZ n j (hs.cl Z hZ h0Z n q) q'
     ·
      rw [if_neg e] at hv
      exact hs.cl Z hZ h0Z v hv
    ·
     by_cases e : w = j
     ·
      subst e
      rw [B_set (by omega),if_pos rfl]
      exact hb.2 (.inr ⟨hs.keep n h1,h2⟩)
     · exact hup w (hw w (by omega) h1 h2)
   have hbj := B_get (o := s) (n := j) (by omega)
   have hbn := B_get (o := s) (n := n) (by omega)
   rw [L_ref15_Reach_l4,if_pos (by omega),at_get (show j < s.length by omega),Option.bind_some,wr_succ (by omega)]
   by_cases e1 : s[j] = true
   ·
    rw [if_pos e1,Option.bind_some,Int.toNat_natCast]
    exact ih _ (key true ⟨fun _ => .inl (hbj.1 e1),fun _ => rfl⟩)
   ·
    rw [if_neg e1,at_get (show n < s.length by omega),Option.bind_some]
    by_cases e2 : s[n] = true
    ·
     rw [if_pos e2,ref_edge h ha,Option.bind_some,Option.bind_some,Int.toNat_natCast]
     exact ih _ (key _ ⟨fun q => .inr ⟨hbn.1 e2,q⟩,fun q => by
      rcases q with q | ⟨_,q⟩
      · exact absurd (hbj.2 q) e1
      · exact q⟩)
    ·
     rw [if_neg e2,Option.bind_some,Int.toNat_natCast]
     exact ih _ (key false ⟨(fun q => by cases q),fun q => by
      rcases q with q | ⟨q,_⟩
      · exact absurd (hbj.2 q) e1
      · exact absurd (hbn.2 q) e2⟩))
  c.States.length ((a.G.N - 0).toNat + 1) 0 L1 (by omega) (by omega) ⟨h0,fun _ hv => hv,fun w hw => by omega⟩
 exact ⟨L',q1,q2,q3,fun w h1 h2 => q4 w (EP.lt h ha _ _ h2).2 h1 h2⟩
theorem reach_l3 (h : CRightP a c) (ha : SzA a) {L0 : List Bool} (h00 : L0.length = c.States.length) : ∃ L',L_ref15_Reach_l3 a c ((a.G.N - 0).toNat + 1) 0 L0 = some L' ∧ RI (EP a c) c.States.length L0 L' ∧ ∀ n w,B L0 n → EP a c n w → B L' w := by
 have h6 := h.n6
 have hN := h.nst
 obtain ⟨L',q1,q2,q3⟩ := loopE (F := fun nf j s => L_ref15_Reach_l3 a c nf j s) (len := c.States.length) (fun j s => RI (EP a c) c.States.length L0 s ∧ ∀ n w,n < j → B L0 n → EP a c n w → B s w) (fun s => RI (EP a c) c.States.length L0 s ∧ ∀ n w,n < c.States.length → B L0 n → EP a c n w → B s w)
  (fun nf s hs => ⟨s,by rw [L_ref15_Reach_l3,if_neg (by omega)],hs⟩)
  (fun nf j s hj ⟨hs,hw⟩ ih => by
   obtain ⟨s',e1,e2,e3,e4⟩ := reach_l4 h ha hj hs h00
   rw [L_ref15_Reach_l3,if_pos (by omega),e1,Option.bind_some,Option.bind_some,wr_succ (by omega)]
   refine ih _ ⟨e2,fun n w hn h1 h2 => ?_⟩
   by_cases e : n = j
   · subst e; exact e4 w h1 h2
   · exact e3 w (hw n w (by omega) h1 h2))
  c.States.length ((a.G.N - 0).toNat + 1) 0 L0 (by omega) (by omega) ⟨⟨h00,fun _ hv => hv,fun _ _ hv => hv⟩,fun n w hn => by omega⟩
 exact ⟨L',q1,q2,fun n w h1 h2 => q3 n w (EP.lt h ha _ _ h2).1 h1 h2⟩
structure RO (a : TApp) (c : TConf) (s k : Nat) (L : List Bool) : Prop where
 len : L.length = c.States.length
 fst : ∀ v,EP a c s v → B L v
 snd : ∀ v,B L v → Relation.TransGen (EP a c) s v
 cnt : (∀ n w,B L n → EP a c n w → B L w) ∨ k + 1 ≤ cnt L
theorem reach_l2 (h : CRightP a c) (ha : SzA a) {s : Nat} {L : List Bool} (h0 : RO a c s 0 L) : ∃ L',L_ref15_Reach_l2 a c ((a.G.N - 0).toNat + 1) 0 L = some L' ∧ RO a c s c.States.length L' := by
 have h6 := h.n6
 have hN := h.nst
 exact loopE (F := fun nf k s => L_ref15_Reach_l2 a c nf k s) (len := c.States.length) (fun k L => RO a c s k L) (fun L => RO a c s c.States.length L)
  (fun nf s hs => ⟨s,by rw [L_ref15_Reach_l2,if_neg (by omega)],hs⟩)
  (fun nf k L hk hL ih => by
   obtain ⟨L',e1,e2,e3⟩ := reach_l3 h ha hL.len
   rw [L_ref15_Reach_l2,if_pos (by omega),e1,Option.bind_some,Option.bind_some,wr_succ (by omega)]
   refine ih _ ⟨e2.len,fun v hv => e2.keep v (hL.fst v hv),e2.cl _ (fun n w hn hw => .tail hn hw) hL.snd,?_⟩
   by_cases hc : ∀ n w,B L n → EP a c n w → B L w
   · refine .inl fun n w hn hw => e2.keep w (hc n w (e2.cl (B L) hc (fun _ hv => hv) n hn) hw)
   ·
    right
    rcases hL.cnt with q | q
    · exact absurd q hc
    ·
     have : ∃ n w,B L n ∧ EP a c n w ∧ ¬ B L w := by
      refine Classical.byContradiction fun hno => hc fun n w hn hw => Classical.byContradiction fun hb => hno ⟨n,w,hn,hw,hb⟩
     obtain ⟨n,w,hn,hw,hb⟩ := this
     have := cnt_lt (o := L) (p := L') (by rw [hL.len,e2.len]) e2.keep ⟨w,e3 n w hn hw,hb⟩
     omega)
  c.States.length ((a.G.N - 0).toNat + 1) 0 L (by omega) (by omega) h0
theorem ref_reach (h : CRightP a c) (ha : SzA a) {s : Nat} (hs : s < c.States.length) : ∃ L,L_ref15_Reach a c s = some L ∧ L.length = c.States.length ∧ ∀ v,B L v ↔ Relation.TransGen (EP a c) s v := by
 have h6 := h.n6
 have hN := h.nst
 have hNn : a.G.N.toNat = c.States.length := by omega
 unfold L_ref15_Reach
 rw [if_pos (by omega),if_pos (by omega),if_pos (by omega),hNn]
 obtain ⟨L1,q1,q2,q3⟩ := loopE (F := fun nf k L => L_ref15_Reach_l1 a c s nf k L) (len := c.States.length) (fun k L => L.length = c.States.length ∧ ∀ v,B L v ↔ v < k ∧ EP a c s v) (fun L => L.length = c.States.length ∧ ∀ v,B L v ↔ v < c.States.length ∧ EP a c s v)
  (fun nf s hs => ⟨s,by rw [L_ref15_Reach_l1,if_neg (by omega)],hs⟩)
  (fun nf k L hk ⟨hl,hL⟩ ih => by
   rw [L_ref15_Reach_l1,if_pos (by omega),ref_edge h ha,Option.bind_some,at_get (show k < L.length by omega),Option.bind_some,wr_succ (by omega),Int.toNat_natCast]
   refine ih _ ⟨by rw [List.length_set]; exact hl,fun v => ?_⟩
   rw [B_set (by omega)]
   by_cases e : v = k
   ·
    subst e
    rw [if_pos rfl]
    exact ⟨fun q => ⟨by omega,q⟩,fun q => q.2⟩
   ·
    rw [if_neg e,hL]
    exact ⟨fun q => ⟨by omega,q.2⟩,fun q => ⟨by omega,q.2⟩⟩)
  c.States.length ((a.G.N - 0).toNat + 1) 0 (List.replicate c.States.length false) (by omega) (by omega) ⟨by simp,fun v => ⟨fun q => absurd q (B_rep _ _),fun q => by omega⟩⟩
 rw [show L_ref15_Reach_l1 a c s ((a.G.N - 0).toNat + 1) 0 (List.replicate c.States.length false) = some L1 from q1,Option.bind_some]
 have h0 : RO a c s 0 L1 := ⟨q2,fun v hv => (q3 v).2 ⟨(EP.lt h ha _ _ hv).2,hv⟩,fun v hv => .single ((q3 v).1 hv).2,by
  by_cases e : ∃ v,B L1 v
  ·
   obtain ⟨v,hv⟩ := e
   right
   have : 0 < cnt L1 := List.countP_pos_iff.2 ⟨true,List.mem_of_getElem? hv,rfl⟩
   omega
  · exact .inl fun n w hn => absurd ⟨n,hn⟩ e⟩
 obtain ⟨L2,e1,e2⟩ := reach_l2 h ha h0
 have hcl : ∀ n w,B L2 n → EP a c n w → B L2 w := by
  rcases e2.cnt with q | q
  · exact q
  ·
   have := cnt_le L2
   have := e2.len
   omega
 refine ⟨L2,e1,e2.len,fun v => ⟨e2.snd v,fun ht => ?_⟩⟩
 induction ht with
 | single hv => exact e2.fst _ hv
 | tail _ hv ih => exact hcl _ _ ih hv
open Classical in
theorem ref_knot (h : CRightP a c) (ha : SzA a) : L_ref15_Knot a c = some (knotOf a c) := by
 have h6 := h.n6
 have hN := h.nst
 unfold L_ref15_Knot
 have q := loopMapO (F := fun nf k s => L_ref15_Knot_l1 a c nf k s) (l := List.range c.States.length) (fun n => if decide (Relation.TransGen (EP a c) n n) = true then [((n : Nat) : Int)] else []) id 0 1 (fun x _ => by split <;> simp)
  (fun nf s hs => by rw [List.length_range,L_ref15_Knot_l1,if_neg (by omega)]; rfl)
  (fun nf k s hk hs => by
   rw [List.length_range] at hk
   obtain ⟨L,e1,e2,e3⟩ := ref_reach h ha hk
   have hW := e3 k
   rw [← B_get (by omega)] at hW
   rw [L_ref15_Knot_l1,if_pos (by omega),e1,Option.bind_some,at_get (show k < L.length by omega),Option.bind_some,wr_succ (by omega),List.getElem_range]
   by_cases e : Relation.TransGen (EP a c) k k
   · rw [if_pos (hW.2 e),if_pos (by omega),Option.bind_some,if_pos (dT e)]
   · rw [if_neg fun q => e (hW.1 q),Option.bind_some,if_neg (by rw [dF e]; decide),List.append_nil])
  (List.range c.States.length).length ((a.G.N - 0).toNat + 1) 0 [] (by simp) (by rw [List.length_range]; omega) (by simp)
 rw [List.drop_zero,flatMap_if (fun n => decide (Relation.TransGen (EP a c) n n)) (fun n => ((n : Nat) : Int))] at q
 exact q
theorem knotOf_len (h : CRightP a c) : (knotOf a c).length ≤ 6 := by
 have h6 := h.n6
 unfold knotOf
 rw [List.length_map]
 exact Nat.le_trans (List.length_filter_le _ _) (by simp; omega)
theorem mem_knot (x : Int) : x ∈ knotOf a c ↔ ∃ n : Nat,x = n ∧ n < c.States.length ∧ Relation.TransGen (EP a c) n n := by
 unfold knotOf
 rw [List.mem_map]
 constructor
 ·
  rintro ⟨n,hn,rfl⟩
  obtain ⟨h1,h2⟩ := List.mem_filter.1 hn
  exact ⟨n,rfl,List.mem_range.1 h1,by simpa using h2⟩
 ·
  rintro ⟨n,rfl,h1,h2⟩
  exact ⟨n,List.mem_filter.2 ⟨List.mem_range.2 h1,by simpa using h2⟩,rfl⟩
end
end Go.Proofs.YtabbejabdkkaiaaGreat
