/- Whether a table may be: the program, and the document. No condition. -/
import Derived.Test.YtabbejabdkkaiaaPta
set_option linter.unusedSimpArgs false
set_option linter.unusedVariables false
namespace Go.Proofs.Ytabbejabdkkaiaa
open Go.RowKit

section
variable {g : TGraph}
theorem place_in (s : TState) (n : Int) (x : TNode) (hs : g.Links.length ≤ 1000) (a : Int) : L_table_place_in ⟨s,n,x,g⟩ a = some (decide (0 ≤ find g a n)) := by
 unfold L_table_place_in
 rw [graph_find _ _ hs,Option.bind_some]
theorem place_state (s : TState) (n : Int) (x : TNode) (a : Int) : L_table_place_state ⟨s,n,x,g⟩ a = some (decide (0 ≤ a ∧ a < (x.States.length : Int))) := by
 unfold L_table_place_state
 rw [baf]
theorem table_letter (a : Int) : L_table_letter a = some (decide (0 ≤ a ∧ a ≤ 3)) := by
 unfold L_table_letter
 rw [baf]
 exact sdec ⟨fun h => ⟨h.1,by omega⟩,fun h => ⟨h.1,by omega⟩⟩
theorem waitP_cur {n : Int} {s : TState} {k : Nat} (hk : k < s.Waits.length) : WaitP g n s k s.Waits[k] ↔ 0 ≤ find g s.Waits[k] n ∧ (0 < k → s.Waits[k - 1]'(by omega) < s.Waits[k]) := by
 unfold WaitP
 refine and_congr_right fun _ => ⟨fun h h0 => h _ h0 (List.getElem?_eq_getElem (by omega)),fun h v h0 hv => ?_⟩
 rw [List.getElem?_eq_getElem (by omega)] at hv
 injection hv with hv
 exact hv ▸ h h0
open Classical in
theorem waits_end {n : Int} {s : TState} (hm : s.Mode = 2) : (if ∀ k w,s.Waits[k]? = some w → WaitP g n s k w then decide (0 < s.Waits.length) else false) = decide (WaitsP g n s) := by
 by_cases h : ∀ k w,s.Waits[k]? = some w → WaitP g n s k w
 ·
  rw [if_pos h]
  by_cases h0 : 0 < s.Waits.length
  · rw [decide_eq_true h0,decide_eq_true ⟨fun _ => ⟨by intro e; rw [e] at h0; simp at h0,h⟩,fun e => absurd hm e⟩]
  ·
   rw [decide_eq_false h0,decide_eq_false]
   rintro ⟨h1,_⟩
   have := (h1 hm).1
   cases hw : s.Waits with
   | nil => exact this hw
   | cons a b => rw [hw] at h0; simp at h0
 ·
  rw [if_neg h,decide_eq_false]
  rintro ⟨h1,_⟩
  exact h (h1 hm).2
open Classical in
theorem place_waits (s : TState) (n : Int) (x : TNode) (hs : g.Links.length ≤ 1000) (hz : SzS s) : L_table_place_waits ⟨s,n,x,g⟩ = some (decide (WaitsP g n s)) := by
 have hl := hz.1
 unfold L_table_place_waits
 by_cases hm : s.Mode = 2
 ·
  rw [if_pos hm]
  have h := loopList (F := fun nf k => L_table_place_waits_l1 ⟨s,n,x,g⟩ nf k) (l := s.Waits) (fun k w => WaitP g n s k w) (decide (0 < s.Waits.length)) false
   (fun nf => by rw [L_table_place_waits_l1,if_neg (by simp)]; exact sdec (by dsimp only; omega))
   (fun nf k hk => stepN (by rw [L_table_place_waits_l1,if_pos (by simp only []; omega),at_get (l := s.Waits) hk,Option.bind_some,wr_succ (by omega)]) (by
    rw [place_in _ _ _ hs,Option.bind_some,waitP_cur hk]
    by_cases hf : 0 ≤ find g s.Waits[k] n
    ·
     rw [if_pos (decide_eq_true hf)]
     by_cases hk0 : (k : Int) > 0
     ·
      rw [if_pos hk0,wr (by omega) (by omega),show ((k : Int) - 1) = ((k - 1 : Nat) : Int) by omega,at_get (l := s.Waits) (by omega),Option.bind_some]
      refine sdec ⟨fun h q => ?_,fun h => ?_⟩
      · have := q.2 (by omega); omega
      ·
       rcases Int.lt_or_le s.Waits[k - 1] s.Waits[k] with h2 | h2
       · exact absurd ⟨hf,fun _ => h2⟩ h
       · omega
     ·
      rw [if_neg hk0]
      exact sF' ⟨hf,fun h => by omega⟩
    ·
     rw [if_neg (by simpa using hf)]
     exact sT' fun q => hf q.1)) (((s.Waits.length : Int) - 0).toNat + 1) (by omega)
  rw [waits_end hm] at h
  exact h
 ·
  rw [if_neg hm]
  refine sdec ⟨fun h => ⟨fun e => absurd e hm,fun _ => List.eq_nil_of_length_eq_zero (by simp only [] at h; omega)⟩,fun h => ?_⟩
  have := h.2 hm
  simp [this]
open Classical in
theorem ref_waits (s : TState) (n : Int) (hs : g.Links.length ≤ 1000) (hz : SzS s) : L_ref04_waits s n g = some (decide (WaitsP g n s)) := by
 have hl := hz.1
 unfold L_ref04_waits
 by_cases hm : s.Mode = 2
 ·
  rw [if_pos hm]
  have h := loopList (F := fun nf k => L_ref04_waits_l1 s n g nf k) (l := s.Waits) (fun k w => WaitP g n s k w) (decide (0 < s.Waits.length)) false
   (fun nf => by rw [L_ref04_waits_l1,if_neg (by simp)]; exact sdec (by omega))
   (fun nf k hk => stepN (by rw [L_ref04_waits_l1,if_pos (by omega),wr_succ (by omega)]) (by
    rw [at_get (l := s.Waits) hk,Option.bind_some,ref_find _ _ hs,Option.bind_some,waitP_cur hk]
    by_cases hf : 0 ≤ find g s.Waits[k] n
    ·
     rw [if_neg (by omega)]
     by_cases hk0 : (k : Int) > 0
     ·
      rw [if_pos hk0,wr (by omega) (by omega),show ((k : Int) - 1) = ((k - 1 : Nat) : Int) by omega,at_get (l := s.Waits) (by omega),Option.bind_some]
      refine sdec ⟨fun h q => ?_,fun h => ?_⟩
      · have := q.2 (by omega); omega
      ·
       rcases Int.lt_or_le s.Waits[k - 1] s.Waits[k] with h2 | h2
       · exact absurd ⟨hf,fun _ => h2⟩ h
       · omega
     ·
      rw [if_neg hk0]
      exact sF' ⟨hf,fun h => by omega⟩
    ·
     rw [if_pos (by omega)]
     exact sT' fun q => hf q.1)) (((s.Waits.length : Int) - 0).toNat + 1) (by omega)
  rw [waits_end hm] at h
  exact h
 ·
  rw [if_neg hm]
  refine sdec ⟨fun h => ⟨fun e => absurd e hm,fun _ => List.eq_nil_of_length_eq_zero (by omega)⟩,fun h => ?_⟩
  have := h.2 hm
  simp [this]
open Classical in
theorem place_bad (z : TSend) (s : TState) (n : Int) (x : TNode) (hs : g.Links.length ≤ 1000) : L_table_place_picks_1 z ⟨s,n,x,g⟩ = some (decide (¬ SendP g n z),⟨s,n,x,g⟩) := by
 unfold L_table_place_picks_1
 simp only []
 rw [graph_find _ _ hs,Option.bind_some,table_letter,Option.bind_some]
 by_cases h : find g n z.To < 0
 ·
  rw [if_pos h,Option.bind_some,dT']
  intro q
  have := q.1
  omega
 ·
  rw [if_neg h,Option.bind_some]
  congr 2
  by_cases h2 : 0 ≤ z.Letter ∧ z.Letter ≤ 3
  ·
   rw [decide_eq_true h2,decide_eq_false]
   · rfl
   · exact fun q => q ⟨by omega,h2⟩
  ·
   rw [decide_eq_false h2,decide_eq_true]
   · rfl
   · exact fun q => h2 q.2
open Classical in
theorem bad_any (l : List TSend) (hl : l.length ≤ 100) (s : TState) (n : Int) (x : TNode) (hs : g.Links.length ≤ 1000) : L_slices_ContainsFunc_table_Send_table_Send l ⟨s,n,x,g⟩ = some (decide (¬ ∀ z ∈ l,SendP g n z),⟨s,n,x,g⟩) := by
 unfold L_slices_ContainsFunc_table_Send_table_Send L_slices_IndexFunc_table_Send_table_Send
 have h := loopE (F := fun nf k (m : TPlace) => L_slices_IndexFunc_table_Send_table_Send_l1 l nf k m) (len := l.length) (fun k m => m = ⟨s,n,x,g⟩ ∧ ∀ j z,j < k → l[j]? = some z → SendP g n z) (fun r => r.2 = ⟨s,n,x,g⟩ ∧ (0 ≤ r.1 ↔ ¬ ∀ z ∈ l,SendP g n z))
  (fun nf m ⟨hm,hk⟩ => ⟨_,by rw [L_slices_IndexFunc_table_Send_table_Send_l1,if_neg (by omega)],hm,by
   refine ⟨fun h => absurd h (by dsimp only; omega),fun h => absurd (all_mem.1 fun j z hj => hk j z (List.getElem?_eq_some_iff.1 hj).1 hj) h⟩⟩)
  (fun nf k m hk ⟨hm,h⟩ ih => by
   subst hm
   rw [L_slices_IndexFunc_table_Send_table_Send_l1,if_pos (by omega),at_get hk,Option.bind_some,place_bad _ _ _ _ hs,Option.bind_some]
   by_cases hq : SendP g n l[k]
   ·
    rw [if_neg (by simpa using hq),wr_succ (by omega)]
    refine ih _ ⟨rfl,fun j z hj hz => ?_⟩
    by_cases e : j = k
    ·
     subst e
     rw [List.getElem?_eq_getElem hk] at hz
     injection hz with hz
     exact hz ▸ hq
    · exact h j z (by omega) hz
   ·
    rw [if_pos (by simpa using hq)]
    exact ⟨_,rfl,rfl,⟨fun _ q => hq (q _ (List.getElem_mem hk)),fun _ => by simp only []; omega⟩⟩)
  l.length (((l.length : Int) - 0).toNat + 1) 0 ⟨s,n,x,g⟩ (by omega) (by omega) ⟨rfl,fun j z hj => by omega⟩
 obtain ⟨r,h1,h2,h3⟩ := h
 have h1' : L_slices_IndexFunc_table_Send_table_Send_l1 l (((l.length : Int) - 0).toNat + 1) 0 ⟨s,n,x,g⟩ = some r := h1
 rw [h1',Option.bind_some,h2]
 congr 2
 by_cases h : 0 ≤ r.1
 · rw [decide_eq_true h,decide_eq_true (h3.1 h)]
 · rw [decide_eq_false h,decide_eq_false fun q => h (h3.2 q)]
open Classical in
theorem picks_end {n : Int} {many : Nat} {s : TState} (h4 : s.Picks.length ≤ 4) (h1 : s.Mode = 1 ∨ s.Picks = []) : (if ∀ (k : Nat) p,s.Picks[k]? = some p → PickP g n many p then true else false) = decide (PicksP g n many s) := by
 by_cases h : ∀ (k : Nat) p,s.Picks[k]? = some p → PickP g n many p
 · rw [if_pos h,decide_eq_true ⟨h4,h1,all_mem.1 h⟩]
 · rw [if_neg h,decide_eq_false fun q => h (all_mem.2 q.2.2)]
theorem or3 {β : Type} (p q r : Prop) [Decidable p] [Decidable q] [Decidable r] (f : Bool → Option β) : ((if p then some true else if q then some false else some (decide r)).bind f) = f (decide (p ∨ ¬ q ∧ r)) := by
 by_cases h : p <;> by_cases h2 : q <;> simp [h,h2]
open Classical in
theorem pick_bad (p : TPick) (hp : p.Sends.length ≤ 100) (s : TState) (n : Int) (x : TNode) (hs : g.Links.length ≤ 1000) :
  ((L_table_place_state ⟨s,n,x,g⟩ p.Next).bind fun r => if r = true then if (p.Sends.length : Int) > 4 then some (true,(⟨s,n,x,g⟩ : TPlace)) else (L_slices_ContainsFunc_table_Send_table_Send p.Sends ⟨s,n,x,g⟩).bind fun r => some (r.1,r.2) else some (true,⟨s,n,x,g⟩)) = some (decide (¬ PickP g n x.States.length p),⟨s,n,x,g⟩) := by
 rw [place_state,Option.bind_some,bad_any _ hp _ _ _ hs,Option.bind_some]
 by_cases c1 : 0 ≤ p.Next ∧ p.Next < (x.States.length : Int)
 ·
  rw [if_pos (decide_eq_true c1)]
  by_cases c2 : (p.Sends.length : Int) > 4
  · rw [if_pos c2,dT' fun q => by have := q.2.2.1; omega]
  ·
   rw [if_neg c2]
   congr 2
   exact ddec (not_congr ⟨fun h => ⟨c1.1,c1.2,by omega,h⟩,fun h => h.2.2.2⟩)
 · rw [if_neg (by simpa using c1),dT' fun q => c1 ⟨q.1,q.2.1⟩]
theorem picks_gate {s : TState} (hc : ¬ ((s.Picks.length : Int) > 4 ∨ ¬ s.Mode = 1 ∧ (s.Picks.length : Int) > 0)) : s.Picks.length ≤ 4 ∧ (s.Mode = 1 ∨ s.Picks = []) := by
 refine ⟨by omega,?_⟩
 by_cases h : s.Mode = 1
 · exact .inl h
 · exact .inr (List.eq_nil_of_length_eq_zero (by omega))
theorem picks_shut {n : Int} {many : Nat} {s : TState} (hc : (s.Picks.length : Int) > 4 ∨ ¬ s.Mode = 1 ∧ (s.Picks.length : Int) > 0) : ¬ PicksP g n many s := by
 rintro ⟨h1,h2,_⟩
 rcases hc with h | ⟨h,h'⟩
 · omega
 ·
  rcases h2 with h2 | h2
  · exact h h2
  · rw [h2] at h'; simp at h'
open Classical in
theorem place_picks (s : TState) (n : Int) (x : TNode) (hs : g.Links.length ≤ 1000) (hz : SzS s) : L_table_place_picks ⟨s,n,x,g⟩ = some (decide (PicksP g n x.States.length s)) := by
 have hl := hz.2.1
 unfold L_table_place_picks
 dsimp only
 rw [or3]
 by_cases hc : (s.Picks.length : Int) > 4 ∨ ¬ s.Mode = 1 ∧ (s.Picks.length : Int) > 0
 ·
  rw [if_pos (decide_eq_true hc)]
  exact sF (picks_shut hc)
 ·
  rw [if_neg (by simpa using hc)]
  obtain ⟨h4,h1⟩ := picks_gate hc
  have h := loopI (F := fun nf k (m : TPlace) => L_table_place_picks_l1 ⟨s,n,x,g⟩ nf k m) (len := s.Picks.length) (fun _ m => m = ⟨s,n,x,g⟩) (fun k _ => some (decide (∀ (j : Nat) p,k ≤ j → s.Picks[j]? = some p → PickP g n x.States.length p)))
   (fun nf m hm => by
    rw [L_table_place_picks_l1,if_neg (by dsimp only; omega)]
    exact sT fun j p hj hp => by have := (List.getElem?_eq_some_iff.1 hp).1; omega)
   (fun nf k m hk hm ih => by
    subst hm
    rw [L_table_place_picks_l1,if_pos (by dsimp only; omega),at_get (l := s.Picks) hk,Option.bind_some,pick_bad _ (hz.2.2.1 _ (List.getElem_mem hk)) _ _ _ hs,Option.bind_some]
    dsimp only
    by_cases hq : PickP g n x.States.length s.Picks[k]
    ·
     rw [if_neg (by simpa using hq),wr_succ (by omega),ih _ rfl]
     refine sdec ⟨fun h j p hj hp => ?_,fun h j p hj => h j p (by omega)⟩
     by_cases ej : j = k
     ·
      subst ej
      rw [List.getElem?_eq_getElem hk] at hp
      injection hp with hp
      exact hp ▸ hq
     · exact h j p (by omega) hp
    ·
     rw [if_pos (by simpa using hq)]
     exact sF fun h => hq (h k _ (Nat.le_refl k) (List.getElem?_eq_getElem hk)))
   s.Picks.length (((s.Picks.length : Int) - 0).toNat + 1) 0 ⟨s,n,x,g⟩ (by omega) (by omega) rfl
  refine Eq.trans h (sdec ⟨fun h => ⟨h4,h1,all_mem.1 fun j p => h j p (Nat.zero_le j)⟩,fun h j p _ hp => h.2.2 p (List.mem_of_getElem? hp)⟩)
open Classical in
theorem ref_picks_l2 (n : Int) (p : TPick) (hp : p.Sends.length ≤ 100) (hs : g.Links.length ≤ 1000) : L_ref04_picks_l2 n g p (((p.Sends.length : Int) - 0).toNat + 1) 0 = some (if ∀ z ∈ p.Sends,SendP g n z then .inl () else .inr false) := by
 have h := loopList (F := fun nf k => L_ref04_picks_l2 n g p nf k) (l := p.Sends) (fun _ z => SendP g n z) (.inl () : Unit ⊕ Bool) (.inr false)
  (fun nf => by rw [L_ref04_picks_l2,if_neg (by omega)])
  (fun nf k hk => stepN (by rw [L_ref04_picks_l2,if_pos (by omega),wr_succ (by omega)]) (by
   rw [at_get hk,Option.bind_some,ref_find _ _ hs,Option.bind_some]
   unfold SendP
   by_cases h1 : find g n p.Sends[k].To < 0
   ·
    rw [if_pos h1]
    exact sT' fun q => by omega
   ·
    rw [if_neg h1]
    by_cases h2 : p.Sends[k].Letter < 0
    ·
     rw [if_pos h2]
     exact sT' fun q => by omega
    ·
     rw [if_neg h2]
     exact sdec (by omega))) (((p.Sends.length : Int) - 0).toNat + 1) (by omega)
 exact h.trans (iteC all_mem)
open Classical in
theorem ref_picks (s : TState) (n : Int) (many : Nat) (hs : g.Links.length ≤ 1000) (hz : SzS s) : L_ref04_picks s n (many : Int) g = some (decide (PicksP g n many s)) := by
 have hl := hz.2.1
 unfold L_ref04_picks
 have e0 : ∀ f : Bool → Option Bool,((if (s.Picks.length : Int) > 4 then some true else if (s.Picks.length : Int) > 0 then some (!(decide (s.Mode = 1))) else some false).bind f) = f (decide ((s.Picks.length : Int) > 4 ∨ ¬ s.Mode = 1 ∧ (s.Picks.length : Int) > 0)) := fun f => by
  by_cases h : (s.Picks.length : Int) > 4
  · rw [if_pos h,Option.bind_some,decide_eq_true (.inl h)]
  ·
   rw [if_neg h]
   by_cases h2 : (s.Picks.length : Int) > 0
   ·
    rw [if_pos h2,Option.bind_some]
    congr 1
    exact Option.some.inj (ndec (by omega))
   · rw [if_neg h2,Option.bind_some,decide_eq_false (by omega)]
 rw [e0]
 by_cases hc : (s.Picks.length : Int) > 4 ∨ ¬ s.Mode = 1 ∧ (s.Picks.length : Int) > 0
 ·
  rw [if_pos (decide_eq_true hc)]
  exact sF (picks_shut hc)
 ·
  rw [if_neg (by simpa using hc)]
  obtain ⟨h4,h1⟩ := picks_gate hc
  have h := loopList (F := fun nf k => L_ref04_picks_l1 s n (many : Int) g nf k) (l := s.Picks) (fun _ p => PickP g n many p) true false
   (fun nf => by rw [L_ref04_picks_l1,if_neg (by omega)])
   (fun nf k hk => by
    have hp := hz.2.2.1 _ (List.getElem_mem hk)
    refine stepS (v := ()) (by rw [L_ref04_picks_l1,if_pos (by omega),wr_succ (by omega)]) rfl rfl (fun q => ?_) (fun q => ?_)
    ·
     obtain ⟨q1,q2,q3,q4⟩ := q
     rw [at_get hk,Option.bind_some,if_neg (by omega),if_neg (by omega),Option.bind_some,if_neg (by simp; omega),ref_picks_l2 _ _ hp hs,Option.bind_some,if_pos q4]
    ·
     rw [at_get hk,Option.bind_some]
     by_cases c1 : s.Picks[k].Next < 0
     · rw [if_pos c1,Option.bind_some,if_pos rfl]
     ·
      rw [if_neg c1]
      by_cases c2 : s.Picks[k].Next ≥ (many : Int)
      · rw [if_pos c2,Option.bind_some,if_pos rfl]
      ·
       rw [if_neg c2,Option.bind_some]
       by_cases c3 : (s.Picks[k].Sends.length : Int) > 4
       · rw [if_pos (decide_eq_true c3)]
       · rw [if_neg (by simpa using c3),ref_picks_l2 _ _ hp hs,Option.bind_some,if_neg fun q4 => q ⟨by omega,by omega,by omega,q4⟩]) (((s.Picks.length : Int) - 0).toNat + 1) (by omega)
  refine Eq.trans h ?_
  rw [← picks_end h4 h1]
theorem take_same (t u : TTake) : L_table_place_takes_1 u t = some (decide (u.From = t.From ∧ u.Letter = t.Letter),t) := by
 unfold L_table_place_takes_1
 rw [baf]
open Classical in
theorem twice_any (l : List TTake) (hl : l.length ≤ 100) (t : TTake) : L_slices_ContainsFunc_table_Take_table_Take l t = some (decide (¬ ∀ u ∈ l,¬ (u.From = t.From ∧ u.Letter = t.Letter)),t) := by
 unfold L_slices_ContainsFunc_table_Take_table_Take L_slices_IndexFunc_table_Take_table_Take
 have h := loopE (F := fun nf k (m : TTake) => L_slices_IndexFunc_table_Take_table_Take_l1 l nf k m) (len := l.length) (fun k m => m = t ∧ ∀ j z,j < k → l[j]? = some z → ¬ (z.From = t.From ∧ z.Letter = t.Letter)) (fun r => r.2 = t ∧ (0 ≤ r.1 ↔ ¬ ∀ u ∈ l,¬ (u.From = t.From ∧ u.Letter = t.Letter)))
  (fun nf m ⟨hm,hk⟩ => ⟨_,by rw [L_slices_IndexFunc_table_Take_table_Take_l1,if_neg (by omega)],hm,by
   refine ⟨fun h => absurd h (by dsimp only; omega),fun h => absurd (all_mem.1 fun j z hj => hk j z (List.getElem?_eq_some_iff.1 hj).1 hj) h⟩⟩)
  (fun nf k m hk ⟨hm,h⟩ ih => by
   subst hm
   rw [L_slices_IndexFunc_table_Take_table_Take_l1,if_pos (by omega),at_get hk,Option.bind_some,take_same,Option.bind_some]
   by_cases hq : l[k].From = m.From ∧ l[k].Letter = m.Letter
   ·
    rw [if_pos (by simpa using hq)]
    exact ⟨_,rfl,rfl,⟨fun _ q => q _ (List.getElem_mem hk) hq,fun _ => by dsimp only; omega⟩⟩
   ·
    rw [if_neg (by simpa using hq),wr_succ (by omega)]
    refine ih _ ⟨rfl,fun j z hj hz => ?_⟩
    by_cases e : j = k
    ·
     subst e
     rw [List.getElem?_eq_getElem hk] at hz
     injection hz with hz
     exact hz ▸ hq
    · exact h j z (by omega) hz)
  l.length (((l.length : Int) - 0).toNat + 1) 0 t (by omega) (by omega) ⟨rfl,fun j z hj => by omega⟩
 obtain ⟨r,h1,h2,h3⟩ := h
 have h1' : L_slices_IndexFunc_table_Take_table_Take_l1 l (((l.length : Int) - 0).toNat + 1) 0 t = some r := h1
 rw [h1',Option.bind_some,h2]
 congr 2
 exact ddec h3
open Classical in
theorem place_takes (s : TState) (n : Int) (x : TNode) (hs : g.Links.length ≤ 1000) (hz : SzS s) : L_table_place_takes ⟨s,n,x,g⟩ = some (decide (TakesP g n x.States.length s)) := by
 have hl := hz.2.2.2
 unfold L_table_place_takes
 have h := loopList (F := fun nf k => L_table_place_takes_l1 ⟨s,n,x,g⟩ nf k) (l := s.Takes) (fun k t => TakeP g n x.States.length s k t) true false
  (fun nf => by rw [L_table_place_takes_l1,if_neg (by dsimp only; omega)])
  (fun nf k hk => stepN (by rw [L_table_place_takes_l1,if_pos (by dsimp only; omega),at_get (l := s.Takes) hk,Option.bind_some,wr_succ (by omega)]) (by
   rw [place_in _ _ _ hs,Option.bind_some]
   by_cases c1 : 0 ≤ find g s.Takes[k].From n
   ·
    rw [if_pos (decide_eq_true c1),table_letter,Option.bind_some]
    by_cases c2 : 0 ≤ s.Takes[k].Letter ∧ s.Takes[k].Letter ≤ 3
    ·
     rw [if_pos (decide_eq_true c2),place_state,Option.bind_some]
     by_cases c3 : 0 ≤ s.Takes[k].Next ∧ s.Takes[k].Next < (x.States.length : Int)
     ·
      rw [if_pos (decide_eq_true c3),if_pos (by omega),if_pos (by dsimp only; omega),Option.bind_some]
      dsimp only
      rw [Int.toNat_natCast,twice_any _ (by simp only [List.length_take]; omega),Option.bind_some]
      refine sdec (not_congr ⟨fun h => ⟨c1,c2.1,c2.2,c3.1,c3.2,fun j u hj hu => h u (List.mem_of_getElem? (by rw [List.getElem?_take,if_pos hj]; exact hu))⟩,fun h u hu => ?_⟩)
      obtain ⟨j,hj,e⟩ := List.getElem_of_mem hu
      rw [List.length_take] at hj
      rw [List.getElem_take] at e
      exact h.2.2.2.2.2 j u (by omega) (by rw [List.getElem?_eq_getElem (by omega),e])
     ·
      rw [if_neg (by simpa using c3)]
      exact sT' fun q => c3 ⟨q.2.2.2.1,q.2.2.2.2.1⟩
    ·
     rw [if_neg (by simpa using c2)]
     exact sT' fun q => c2 ⟨q.2.1,q.2.2.1⟩
   ·
    rw [if_neg (by simpa using c1)]
    exact sT' fun q => c1 q.1)) (((s.Takes.length : Int) - 0).toNat + 1) (by omega)
 refine Eq.trans h ?_
 rw [ite_dec]
 rfl
open Classical in
theorem ref_in_list (l : List Int) (hl : l.length ≤ 1000) (a : Int) : L_ref04_In l a = some (decide (a ∈ l)) := by
 unfold L_ref04_In
 have h := loopList (F := fun nf k => L_ref04_In_l1 l a nf k) (l := l) (fun _ x => x ≠ a) false true
  (fun nf => by rw [L_ref04_In_l1,if_neg (by omega)])
  (fun nf k hk => by
   rw [L_ref04_In_l1,if_pos (by omega),at_get hk,Option.bind_some,wr_succ (by omega)]
   exact ⟨fun q => by rw [if_neg q],fun q => by rw [if_pos (Classical.not_not.1 q)]⟩) (((l.length : Int) - 0).toNat + 1) (by omega)
 refine Eq.trans h ?_
 by_cases hm : a ∈ l
 ·
  rw [if_neg,dT hm]
  intro q
  exact all_mem.1 q a hm rfl
 ·
  rw [if_pos,dF hm]
  exact all_mem.2 fun x hx e => hm (e ▸ hx)
open Classical in
theorem ref_kept (s to : TState) (but : Int) (hz : SzS s) (hz' : SzS to) : L_ref04_kept s to but = some (decide (KeptP s to but)) := by
 have hl := hz.1
 have hl' := hz'.1
 unfold L_ref04_kept
 have h := loopList (F := fun nf k => L_ref04_kept_l1 s to but nf k) (l := s.Waits) (fun _ w => w ≠ but → to.Mode = 2 ∧ w ∈ to.Waits) true false
  (fun nf => by rw [L_ref04_kept_l1,if_neg (by omega)])
  (fun nf k hk => stepN (by rw [L_ref04_kept_l1,if_pos (by omega),wr_succ (by omega)]) (by
   rw [at_get hk,Option.bind_some]
   by_cases c1 : s.Waits[k] = but
   ·
    rw [if_pos c1]
    exact sF' fun q => absurd c1 q
   ·
    rw [if_neg c1]
    by_cases c2 : to.Mode = 2
    ·
     rw [if_pos c2,ref_in_list _ (by omega),Option.bind_some]
     exact ndec (not_congr ⟨fun q => (q c1).2,fun q _ => ⟨c2,q⟩⟩)
    ·
     rw [if_neg c2]
     exact sT' fun q => c2 (q c1).1)) (((s.Waits.length : Int) - 0).toNat + 1) (by omega)
 refine Eq.trans h ?_
 rw [ite_dec]
 exact sdec all_mem
open Classical in
theorem ref_takes_l2 (s : TState) (hz : SzS s) (k : Nat) (hk : k < s.Takes.length) (t : TTake) : L_ref04_takes_l2 s (k : Int) t (((k : Int) - 0).toNat + 1) 0 = some (if ∀ j u,j < k → s.Takes[j]? = some u → ¬ (u.From = t.From ∧ u.Letter = t.Letter) then .inl () else .inr false) := by
 have hl := hz.2.2.2
 have h := loopAll (F := fun nf i => L_ref04_takes_l2 s (k : Int) t nf i) (len := k) (fun j => ∀ u,s.Takes[j]? = some u → ¬ (u.From = t.From ∧ u.Letter = t.Letter)) (.inl () : Unit ⊕ Bool) (.inr false)
  (fun nf => by rw [L_ref04_takes_l2,if_neg (by omega)])
  (fun nf j hj => stepN (by rw [L_ref04_takes_l2,if_pos (by omega),wr_succ (by omega)]) (by
   rw [at_get (l := s.Takes) (k := j) (by omega),Option.bind_some]
   have e : (∀ u,s.Takes[j]? = some u → ¬ (u.From = t.From ∧ u.Letter = t.Letter)) ↔ ¬ (s.Takes[j].From = t.From ∧ s.Takes[j].Letter = t.Letter) := ⟨fun h => h _ (List.getElem?_eq_getElem (by omega)),fun h u hu => by
    rw [List.getElem?_eq_getElem (by omega)] at hu
    injection hu with hu
    exact hu ▸ h⟩
   by_cases c1 : s.Takes[j].From = t.From
   ·
    rw [if_pos c1]
    exact sdec ⟨fun h q => e.1 q ⟨c1,h⟩,fun h => Classical.not_not.1 fun q => h (e.2 fun r => q r.2)⟩
   ·
    rw [if_neg c1]
    exact sF' (e.2 fun r => c1 r.1))) k (((k : Int) - 0).toNat + 1) 0 (by omega) (by omega)
 exact Eq.trans h (iteC ⟨fun q j u hj hu => q j (Nat.zero_le j) hj u hu,fun q j _ hj u hu => q j u hj hu⟩)
def TakeQ (g : TGraph) (n : Int) (x : TNode) (s : TState) (i : Nat) (t : TTake) : Prop := TakeP g n x.States.length s i t ∧ ∀ to,x.States[t.Next.toNat]? = some to → KeptP s to t.From
open Classical in
theorem ref_takes (s : TState) (n : Int) (x : TNode) (hs : g.Links.length ≤ 1000) (hz : SzS s) (hx : SzN x) : L_ref04_takes s n x g = some (decide (TakesP g n x.States.length s ∧ StaysP x s)) := by
 have hl := hz.2.2.2
 unfold L_ref04_takes
 have h := loopList (F := fun nf k => L_ref04_takes_l1 s n x g nf k) (l := s.Takes) (fun k t => TakeQ g n x s k t) true false
  (fun nf => by rw [L_ref04_takes_l1,if_neg (by omega)])
  (fun nf k hk => by
   have hll := ref_takes_l2 s hz k hk s.Takes[k]
   refine stepS (v := ()) (by rw [L_ref04_takes_l1,if_pos (by omega),wr_succ (by omega)]) rfl rfl (fun q => ?_) (fun q => ?_)
   ·
    obtain ⟨⟨q1,q2,q3,q4,q5,q6⟩,q7⟩ := q
    have hn : s.Takes[k].Next.toNat < x.States.length := by omega
    rw [at_get hk,Option.bind_some,ref_find _ _ hs,Option.bind_some,if_neg (by omega),if_neg (by omega),if_neg (by omega),if_neg (by omega),if_neg (by omega),at_lt q4 q5,Option.bind_some,ref_kept _ _ _ hz (hx.2 _ (List.getElem_mem hn)),Option.bind_some,dT (q7 _ (List.getElem?_eq_getElem hn)),Option.bind_some]
    rw [if_neg (by decide),hll,Option.bind_some,if_pos q6]
   ·
    rw [at_get hk,Option.bind_some,ref_find _ _ hs,Option.bind_some]
    by_cases c1 : find g s.Takes[k].From n < 0
    · rw [if_pos c1,Option.bind_some,if_pos rfl]
    ·
     rw [if_neg c1]
     by_cases c2 : s.Takes[k].Letter < 0
     · rw [if_pos c2,Option.bind_some,if_pos rfl]
     ·
      rw [if_neg c2]
      by_cases c3 : s.Takes[k].Letter > 3
      · rw [if_pos c3,Option.bind_some,if_pos rfl]
      ·
       rw [if_neg c3]
       by_cases c4 : s.Takes[k].Next < 0
       · rw [if_pos c4,Option.bind_some,if_pos rfl]
       ·
        rw [if_neg c4]
        by_cases c5 : s.Takes[k].Next ≥ (x.States.length : Int)
        · rw [if_pos c5,Option.bind_some,if_pos rfl]
        ·
         have hn : s.Takes[k].Next.toNat < x.States.length := by omega
         rw [if_neg c5,at_lt (by omega) (by omega),Option.bind_some,ref_kept _ _ _ hz (hx.2 _ (List.getElem_mem hn)),Option.bind_some]
         by_cases c6 : KeptP s x.States[s.Takes[k].Next.toNat] s.Takes[k].From
         ·
          rw [dT c6,Option.bind_some,if_neg (by decide),hll,Option.bind_some,if_neg]
          intro q6
          refine q ⟨⟨by omega,by omega,by omega,by omega,by omega,q6⟩,fun to hto => ?_⟩
          rw [List.getElem?_eq_getElem hn] at hto
          injection hto with hto
          exact hto ▸ c6
         · rw [dF c6,Option.bind_some,if_pos (by decide)]) (((s.Takes.length : Int) - 0).toNat + 1) (by omega)
 refine Eq.trans h ?_
 rw [ite_dec]
 exact sdec ⟨fun q => ⟨fun i t ht => (q i t ht).1,fun t ht => by
  obtain ⟨i,hi,e⟩ := List.getElem_of_mem ht
  exact (q i t (by rw [List.getElem?_eq_getElem hi,e])).2⟩,fun q i t ht => ⟨q.1 i t ht,q.2 t (List.mem_of_getElem? ht)⟩⟩
end
end Go.Proofs.Ytabbejabdkkaiaa
