/- Whether a table may be, whole; what a table tells of a state. No condition. -/
import Derived.Test.YtabbejabdkkaiaaPtb
set_option linter.unusedSimpArgs false
set_option linter.unusedVariables false
namespace Go.Proofs.Ytabbejabdkkaiaa
open Go.RowKit

section
variable {g : TGraph}
open Classical in
theorem stays_l2 (s : TState) (n : Int) (x : TNode) (hz : SzS s) (hx : SzN x) (t : TTake) (h0 : 0 ≤ t.Next) (h1 : t.Next < (x.States.length : Int)) :
  L_table_place_stays_l2 ⟨s,n,x,g⟩ t (((s.Waits.length : Int) - 0).toNat + 1) 0 = some (if KeptP s (x.States[t.Next.toNat]'(by omega)) t.From then .inl () else .inr false) := by
 have hl := hz.1
 have hn : t.Next.toNat < x.States.length := by omega
 have hto := (hx.2 _ (List.getElem_mem hn)).1
 generalize hq : x.States[t.Next.toNat] = to at hto
 have h := loopList (F := fun nf k => L_table_place_stays_l2 ⟨s,n,x,g⟩ t nf k) (l := s.Waits) (fun _ w => w ≠ t.From → to.Mode = 2 ∧ w ∈ to.Waits) (.inl () : Unit ⊕ Bool) (.inr false)
  (fun nf => by rw [L_table_place_stays_l2,if_neg (by dsimp only; omega)])
  (fun nf k hk => stepN (by rw [L_table_place_stays_l2,if_pos (by dsimp only; omega),at_get (l := s.Waits) hk,Option.bind_some,at_lt (l := x.States) h0 h1,Option.bind_some,wr_succ (by omega)]) (by
   rw [hq]
   by_cases c1 : s.Waits[k] = t.From
   ·
    rw [if_pos c1]
    exact sF' fun q => absurd c1 q
   ·
    rw [if_neg c1]
    by_cases c2 : to.Mode = 2
    ·
     rw [if_pos c2,contains_int (by omega),Option.bind_some]
     exact ndec (not_congr ⟨fun q => (q c1).2,fun q _ => ⟨c2,q⟩⟩)
    ·
     rw [if_neg c2]
     exact sT' fun q => c2 (q c1).1)) (((s.Waits.length : Int) - 0).toNat + 1) (by omega)
 exact Eq.trans h (iteC all_mem)
open Classical in
theorem place_stays (s : TState) (n : Int) (x : TNode) (hz : SzS s) (hx : SzN x) (ht : TakesP g n x.States.length s) : L_table_place_stays ⟨s,n,x,g⟩ = some (decide (StaysP x s)) := by
 have hl := hz.2.2.2
 unfold L_table_place_stays
 have h := loopList (F := fun nf k => L_table_place_stays_l1 ⟨s,n,x,g⟩ nf k) (l := s.Takes) (fun _ t => ∀ to,x.States[t.Next.toNat]? = some to → KeptP s to t.From) true false
  (fun nf => by rw [L_table_place_stays_l1,if_neg (by dsimp only; omega)])
  (fun nf k hk => by
   have hk2 := ht k _ (List.getElem?_eq_getElem hk)
   have h0 := hk2.2.2.2.1
   have h1 := hk2.2.2.2.2.1
   have hn : s.Takes[k].Next.toNat < x.States.length := by omega
   have e : (∀ to,x.States[s.Takes[k].Next.toNat]? = some to → KeptP s to s.Takes[k].From) ↔ KeptP s x.States[s.Takes[k].Next.toNat] s.Takes[k].From := ⟨fun h => h _ (List.getElem?_eq_getElem hn),fun h to hto => by
    rw [List.getElem?_eq_getElem hn] at hto
    injection hto with hto
    exact hto ▸ h⟩
   have hl2 := stays_l2 (g := g) s n x hz hx s.Takes[k] h0 h1
   refine stepS (v := ()) (by rw [L_table_place_stays_l1,if_pos (by dsimp only; omega),wr_succ (by omega)]) rfl rfl (fun q => ?_) (fun q => ?_)
   ·
    rw [at_get (l := s.Takes) hk,Option.bind_some]
    rw [hl2,Option.bind_some,if_pos (e.1 q)]
   ·
    rw [at_get (l := s.Takes) hk,Option.bind_some]
    rw [hl2,Option.bind_some,if_neg fun r => q (e.2 r)]) (((s.Takes.length : Int) - 0).toNat + 1) (by omega)
 refine Eq.trans h ?_
 rw [ite_dec]
 exact sdec all_mem
open Classical in
theorem place_may (s : TState) (n : Int) (x : TNode) (hs : g.Links.length ≤ 1000) (hz : SzS s) (hx : SzN x) : L_table_place_may ⟨s,n,x,g⟩ = some (decide (StateP g n x s)) := by
 unfold L_table_place_may L_table_place_may_1
 rw [baf,Option.bind_some,place_waits _ _ _ hs hz,place_picks _ _ _ hs hz,place_takes _ _ _ hs hz]
 dsimp only
 by_cases c1 : s.Mode ≥ 0 ∧ s.Mode < 3
 ·
  rw [if_pos (dT c1),Option.bind_some]
  by_cases c2 : WaitsP g n s
  ·
   rw [if_pos (dT c2),Option.bind_some]
   by_cases c3 : PicksP g n x.States.length s
   ·
    rw [if_pos (dT c3),Option.bind_some]
    by_cases c4 : TakesP g n x.States.length s
    ·
     rw [if_pos (dT c4),place_stays _ _ _ hz hx c4,Option.bind_some]
     by_cases c5 : StaysP x s
     ·
      rw [if_pos (dT c5)]
      exact sT ⟨by omega,by omega,c2,c3,c4,c5⟩
     ·
      rw [if_neg (by rw [dF c5]; decide)]
      exact sF fun q => c5 q.2.2.2.2.2
    ·
     rw [if_neg (by rw [dF c4]; decide)]
     exact sF fun q => c4 q.2.2.2.2.1
   ·
    rw [if_neg (by rw [dF c3]; decide)]
    exact sF fun q => c3 q.2.2.2.1
  ·
   rw [if_neg (by rw [dF c2]; decide)]
   exact sF fun q => c2 q.2.2.1
 ·
  rw [if_neg (by rw [dF c1]; decide)]
  exact sF fun q => c1 ⟨q.1,by have := q.2.1; omega⟩
theorem or4 {β : Type} (a b c d : Prop) {_ : Decidable a} {_ : Decidable b} {_ : Decidable c} {_ : Decidable d} (f : Bool → Option β) : ((if a then some true else if b then some true else if c then some true else some (decide d)).bind f) = f (decide (a ∨ b ∨ c ∨ d)) := by
 by_cases h : a
 · rw [if_pos h,Option.bind_some,dT (.inl h)]
 ·
  by_cases h2 : b
  · rw [if_neg h,if_pos h2,Option.bind_some,dT (.inr (.inl h2))]
  ·
   by_cases h3 : c
   · rw [if_neg h,if_neg h2,if_pos h3,Option.bind_some,dT (.inr (.inr (.inl h3)))]
   ·
    rw [if_neg h,if_neg h2,if_neg h3,Option.bind_some]
    congr 1
    exact ddec ⟨fun q => .inr (.inr (.inr q)),fun q => by rcases q with q | q | q | q; exact absurd q h; exact absurd q h2; exact absurd q h3; exact q⟩
open Classical in
theorem tright_l2 (n : Int) (x : TNode) (hs : g.Links.length ≤ 1000) (hx : SzN x) : L_table_Right_l2 g n x (((x.States.length : Int) - 0).toNat + 1) 0 = some (if ∀ s ∈ x.States,StateP g n x s then .inl () else .inr false) := by
 have hl := hx.1
 have h := loopList (F := fun nf k => L_table_Right_l2 g n x nf k) (l := x.States) (fun _ s => StateP g n x s) (.inl () : Unit ⊕ Bool) (.inr false)
  (fun nf => by rw [L_table_Right_l2,if_neg (by omega)])
  (fun nf k hk => stepY (by rw [L_table_Right_l2,if_pos (by omega),at_get hk,Option.bind_some,wr_succ (by omega)]) (place_may _ _ _ hs (hx.2 _ (List.getElem_mem hk)) hx)) (((x.States.length : Int) - 0).toNat + 1) (by omega)
 exact Eq.trans h (iteC all_mem)
open Classical in
theorem ref_right_l2 (n : Int) (x : TNode) (hs : g.Links.length ≤ 1000) (hx : SzN x) : L_ref04_Right_l2 g n x (((x.States.length : Int) - 0).toNat + 1) 0 = some (if ∀ s ∈ x.States,StateP g n x s then .inl () else .inr false) := by
 have hl := hx.1
 have h := loopList (F := fun nf k => L_ref04_Right_l2 g n x nf k) (l := x.States) (fun _ s => StateP g n x s) (.inl () : Unit ⊕ Bool) (.inr false)
  (fun nf => by rw [L_ref04_Right_l2,if_neg (by omega)])
  (fun nf k hk => stepN (by rw [L_ref04_Right_l2,if_pos (by omega),at_get hk,Option.bind_some,wr_succ (by omega)]) (by
   have hz := hx.2 _ (List.getElem_mem hk)
   generalize x.States[k] = s at hz
   by_cases c0 : s.Mode < 0
   ·
    rw [if_pos c0]
    exact sT' fun q => by have := q.1; omega
   ·
    rw [if_neg c0]
    by_cases c1 : s.Mode > 2
    ·
     rw [if_pos c1]
     exact sT' fun q => by have := q.2.1; omega
    ·
     rw [if_neg c1,ref_waits _ _ hs hz,Option.bind_some]
     by_cases c2 : WaitsP g n s
     ·
      rw [if_pos (dT c2),ref_picks _ _ _ hs hz,Option.bind_some]
      by_cases c3 : PicksP g n x.States.length s
      ·
       rw [if_pos (dT c3),ref_takes _ _ _ hs hz hx,Option.bind_some]
       exact ndec (not_congr ⟨fun q => q.2.2.2.2,fun q => ⟨by omega,by omega,c2,c3,q⟩⟩)
      ·
       rw [if_neg (by rw [dF c3]; decide)]
       exact sT' fun q => c3 q.2.2.2.1
     ·
      rw [if_neg (by rw [dF c2]; decide)]
      exact sT' fun q => c2 q.2.2.1)) (((x.States.length : Int) - 0).toNat + 1) (by omega)
 exact Eq.trans h (iteC all_mem)
open Classical in
theorem table_right {l : List TNode} (hs : g.Links.length ≤ 100) (hl : SzL l) : L_table_Right l g = some (decide (TRightP l g)) := by
 have hll := hl.1
 unfold L_table_Right
 rw [graph_right hs,Option.bind_some]
 by_cases c1 : RightP g
 ·
  rw [if_pos (dT c1),Option.bind_some]
  by_cases c2 : (l.length : Int) = g.N
  ·
   rw [if_neg (by rw [dT c2]; decide)]
   have h := loopList (F := fun nf k => L_table_Right_l1 l g nf k) (l := l) (fun n x => NodeP g n x) true false
    (fun nf => by rw [L_table_Right_l1,if_neg (by omega)])
    (fun nf k hk => by
     have hx := hl.2 _ (List.getElem_mem hk)
     have h2 := tright_l2 (g := g) (k : Int) l[k] (by omega) hx
     refine stepS (v := ()) (by rw [L_table_Right_l1,if_pos (by omega),wr_succ (by omega)]) rfl rfl (fun q => ?_) (fun q => ?_)
     ·
      obtain ⟨q1,q2,q3,q4,q5⟩ := q
      rw [at_get hk,Option.bind_some,or4,if_neg (by rw [dF (by omega)]; decide),h2,Option.bind_some,if_pos q5]
     ·
      rw [at_get hk,Option.bind_some,or4]
      by_cases c3 : (l[k].States.length : Int) < 1 ∨ (l[k].States.length : Int) > 8 ∨ l[k].Start < 0 ∨ l[k].Start ≥ (l[k].States.length : Int)
      · rw [if_pos (dT c3)]
      · rw [if_neg (by rw [dF c3]; decide),h2,Option.bind_some,if_neg fun q5 => q ⟨by omega,by omega,by omega,by omega,q5⟩]) (((l.length : Int) - 0).toNat + 1) (by omega)
   refine Eq.trans h ?_
   rw [ite_dec]
   exact sdec ⟨fun q => ⟨c1,c2,q⟩,fun q => q.2.2⟩
  ·
   rw [if_pos (by rw [dF c2]; rfl)]
   exact sF fun q => c2 q.2.1
 ·
  rw [if_neg (by rw [dF c1]; decide),Option.bind_some,if_pos rfl]
  exact sF fun q => c1 q.1
open Classical in
theorem ref_tright {l : List TNode} (hs : g.Links.length ≤ 100) (hl : SzL l) : L_ref04_Right l g = some (decide (TRightP l g)) := by
 have hll := hl.1
 unfold L_ref04_Right
 rw [ref_right hs,Option.bind_some]
 by_cases c1 : RightP g
 ·
  rw [if_pos (dT c1),Option.bind_some]
  by_cases c2 : (l.length : Int) = g.N
  ·
   rw [if_neg (by rw [dT c2]; decide)]
   have h := loopList (F := fun nf k => L_ref04_Right_l1 l g nf k) (l := l) (fun n x => NodeP g n x) true false
    (fun nf => by rw [L_ref04_Right_l1,if_neg (by omega)])
    (fun nf k hk => by
     have hx := hl.2 _ (List.getElem_mem hk)
     have h2 := ref_right_l2 (g := g) (k : Int) l[k] (by omega) hx
     refine stepS (v := ()) (by rw [L_ref04_Right_l1,if_pos (by omega),wr_succ (by omega)]) rfl rfl (fun q => ?_) (fun q => ?_)
     ·
      obtain ⟨q1,q2,q3,q4,q5⟩ := q
      rw [at_get hk,Option.bind_some,or4,if_neg (by rw [dF (by omega)]; decide),h2,Option.bind_some,if_pos q5]
     ·
      rw [at_get hk,Option.bind_some,or4]
      by_cases c3 : (l[k].States.length : Int) < 1 ∨ (l[k].States.length : Int) > 8 ∨ l[k].Start < 0 ∨ l[k].Start ≥ (l[k].States.length : Int)
      · rw [if_pos (dT c3)]
      · rw [if_neg (by rw [dF c3]; decide),h2,Option.bind_some,if_neg fun q5 => q ⟨by omega,by omega,by omega,by omega,q5⟩]) (((l.length : Int) - 0).toNat + 1) (by omega)
   refine Eq.trans h ?_
   rw [ite_dec]
   exact sdec ⟨fun q => ⟨c1,c2,q⟩,fun q => q.2.2⟩
  ·
   rw [if_pos (by rw [dF c2]; rfl)]
   exact sF fun q => c2 q.2.1
 ·
  rw [if_neg (by rw [dF c1]; decide),Option.bind_some,if_pos rfl]
  exact sF fun q => c1 q.1
end
def stA (l : List TNode) (n s : Int) : Option TState := if 0 ≤ n ∧ 0 ≤ s then (l[n.toNat]?).bind fun x => x.States[s.toNat]? else none
def takeB (a b : Int) (t : TTake) : Bool := decide (t.From = a ∧ t.Letter = b)
def takenOf (l : List TTake) (s a b : Int) : Int := match l.find? (takeB a b) with
 | some t => t.Next
 | none => s
theorem fixed04 : L_law04_fixed = some true := by decide +kernel
theorem TRightP.st {l : List TNode} {g : TGraph} (h : TRightP l g) {n s : Int} {st : TState} (hs : stA l n s = some st) : ∃ x,l[n.toNat]? = some x ∧ 0 ≤ n ∧ 0 ≤ s ∧ x.States[s.toNat]? = some st ∧ NodeP g n x ∧ StateP g n x st := by
 unfold stA at hs
 split at hs
 ·
  rename_i hc
  obtain ⟨x,h1,h2⟩ := Option.bind_eq_some_iff.1 hs
  have hn := h.2.2 _ _ h1
  have e : ((n.toNat : Nat) : Int) = n := by omega
  rw [e] at hn
  exact ⟨x,h1,hc.1,hc.2,h2,hn,hn.2.2.2.2 _ (List.mem_of_getElem? h2)⟩
 · cases hs
theorem pick_nat (x : Int) {N : Nat} (h : 1 ≤ N) : ∃ s : Nat,(landK .i64 x 255).tmod (N : Int) = (s : Int) ∧ s < N := by
 obtain ⟨s,h1,h2⟩ := pick_node x (N := (N : Int)) (by omega)
 exact ⟨s,h1,by omega⟩
theorem takenOf_cases (l : List TTake) (s a b : Int) : (takenOf l s a b = s ∧ ∀ t ∈ l,¬ (t.From = a ∧ t.Letter = b)) ∨ ∃ t ∈ l,takenOf l s a b = t.Next ∧ t.From = a ∧ t.Letter = b := by
 unfold takenOf
 cases h : l.find? (takeB a b) with
 | none =>
  refine .inl ⟨rfl,fun t ht q => ?_⟩
  have := List.find?_eq_none.1 h t ht
  rw [takeB,decide_eq_true_iff] at this
  exact this q
 | some t =>
  have h1 := List.find?_some h
  rw [takeB,decide_eq_true_iff] at h1
  exact .inr ⟨t,List.mem_of_find?_eq_some h,rfl,h1⟩
theorem NodeP.taken {g : TGraph} {n : Int} {x : TNode} (h : NodeP g n x) {s : Nat} (hs : s < x.States.length) (a b : Int) : ∃ s' : Nat,takenOf x.States[s].Takes s a b = (s' : Int) ∧ s' < x.States.length ∧ ((s' = s ∧ ∀ t ∈ x.States[s].Takes,¬ (t.From = a ∧ t.Letter = b)) ∨ ∃ t ∈ x.States[s].Takes,t.From = a ∧ t.Letter = b ∧ t.Next = (s' : Int) ∧ 0 ≤ find g a n ∧ ∃ hs' : s' < x.States.length,KeptP x.States[s] x.States[s'] a) := by
 have hst := h.2.2.2.2 _ (List.getElem_mem hs)
 rcases takenOf_cases x.States[s].Takes s a b with ⟨e,h2⟩ | ⟨t,ht,e,ha,hb⟩
 · exact ⟨s,e,hs,.inl ⟨rfl,h2⟩⟩
 ·
  obtain ⟨i,hi,ei⟩ := List.getElem_of_mem ht
  have h3 := hst.2.2.2.2.1 i t (by rw [List.getElem?_eq_getElem hi,ei])
  have hn := h3.2.2.2.1
  have hn2 := h3.2.2.2.2.1
  have hk := hst.2.2.2.2.2 t ht _ (List.getElem?_eq_getElem (show t.Next.toNat < x.States.length by omega))
  refine ⟨t.Next.toNat,by rw [e]; omega,by omega,.inr ⟨t,ht,ha,hb,by omega,ha ▸ h3.1,by omega,ha ▸ hk⟩⟩
theorem find_mem {g : TGraph} {a b : Int} : 0 ≤ find g a b ↔ A2I.mk a b ∈ g.Links := find_some
end Go.Proofs.Ytabbejabdkkaiaa
