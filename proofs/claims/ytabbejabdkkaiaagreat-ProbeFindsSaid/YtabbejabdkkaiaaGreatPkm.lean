/- Ways over edges: what comes of going over each node once; rounds that add what is next; nodes that each have one behind them. No condition. -/
import Derived.Test.YtabbejabdkkaiaaGreatPa
set_option linter.unusedSimpArgs false
set_option linter.unusedVariables false
namespace Go.Proofs.YtabbejabdkkaiaaGreat
open Go.RowKit

def Rk (E : Nat → Nat → Prop) : Nat → Nat → Nat → Prop
 | 0,i,j => E i j
 | k + 1,i,j => Rk E k i j ∨ (Rk E k i k ∧ Rk E k k j)
section
variable {E : Nat → Nat → Prop}
theorem Rk.mono {k i j : Nat} (h : Rk E k i j) : Rk E (k + 1) i j := .inl h
theorem Rk.to {k i : Nat} : Rk E (k + 1) i k ↔ Rk E k i k := ⟨fun h => h.elim id (·.1),.inl⟩
theorem Rk.from {k j : Nat} : Rk E (k + 1) k j ↔ Rk E k k j := ⟨fun h => h.elim id (·.2),.inl⟩
theorem Rk.trans : ∀ {k m i j : Nat},m < k → Rk E k i m → Rk E k m j → Rk E k i j
 | k + 1,m,i,j,hm,h1,h2 => by
  by_cases e : m = k
  ·
   subst e
   exact .inr ⟨Rk.to.1 h1,Rk.from.1 h2⟩
  ·
   have hm' : m < k := by omega
   rcases h1 with h1 | ⟨h1,h1'⟩ <;> rcases h2 with h2 | ⟨h2,h2'⟩
   · exact .inl (Rk.trans hm' h1 h2)
   · exact .inr ⟨Rk.trans hm' h1 h2,h2'⟩
   · exact .inr ⟨h1,Rk.trans hm' h1' h2⟩
   · exact .inr ⟨h1,h2'⟩
theorem Rk.base {i j : Nat} (h : E i j) : ∀ k,Rk E k i j
 | 0 => h
 | k + 1 => .inl (Rk.base h k)
theorem tg_first {i j : Nat} (h : Relation.TransGen E i j) : ∃ m,E i m ∧ (m = j ∨ Relation.TransGen E m j) := by
 induction h with
 | single h => exact ⟨_,h,.inl rfl⟩
 | tail h e ih =>
  obtain ⟨m,h1,h2⟩ := ih
  rcases h2 with rfl | h2
  · exact ⟨_,h1,.inr (.single e)⟩
  · exact ⟨m,h1,.inr (.tail h2 e)⟩
end
def B (o : List Bool) (n : Nat) : Prop := o[n]? = some true
theorem B_set {o : List Bool} {w v : Nat} {b : Bool} (hw : w < o.length) : B (o.set w b) v ↔ if v = w then b = true else B o v := by
 unfold B
 rw [List.getElem?_set]
 by_cases h : w = v
 ·
  subst h
  simp [hw]
 · rw [if_neg h,if_neg fun e => h e.symm]
theorem B_get {o : List Bool} {n : Nat} (h : n < o.length) : o[n] = true ↔ B o n := by
 unfold B
 rw [List.getElem?_eq_getElem h]
 exact ⟨fun e => by rw [e],fun e => Option.some.inj e⟩
def cnt (o : List Bool) : Nat := o.countP id
theorem cnt_le (o : List Bool) : cnt o ≤ o.length := List.countP_le_length
theorem cnt_mono : ∀ {o p : List Bool},o.length = p.length → (∀ n,B o n → B p n) → cnt o ≤ cnt p
 | [],[],_,_ => Nat.le_refl _
 | a :: o,b :: p,hl,h => by
  have ih := cnt_mono (o := o) (p := p) (by simpa using hl) fun n hn => by
   have := h (n + 1) (by unfold B at hn ⊢; simpa using hn)
   unfold B at this ⊢
   simpa using this
  have h0 := h 0
  unfold B at h0
  unfold cnt at ih ⊢
  rw [List.countP_cons,List.countP_cons]
  cases a <;> cases b <;> simp_all <;> omega
theorem cnt_lt : ∀ {o p : List Bool},o.length = p.length → (∀ n,B o n → B p n) → (∃ n,B p n ∧ ¬ B o n) → cnt o < cnt p
 | [],[],_,_,⟨n,h,_⟩ => by simp [B] at h
 | a :: o,b :: p,hl,h,⟨n,h1,h2⟩ => by
  have hl' : o.length = p.length := by simpa using hl
  have hm : ∀ n,B o n → B p n := fun n hn => by
   have := h (n + 1) (by unfold B at hn ⊢; simpa using hn)
   unfold B at this ⊢
   simpa using this
  have h0 := h 0
  cases n with
  | zero =>
   have ih := cnt_mono hl' hm
   unfold B at h1 h2
   simp at h1 h2
   unfold cnt at ih ⊢
   rw [List.countP_cons,List.countP_cons]
   simp [h1,h2]
   omega
  | succ n =>
   have ih := cnt_lt hl' hm ⟨n,by unfold B at h1 ⊢; simpa using h1,by unfold B at h2 ⊢; simpa using h2⟩
   unfold B at h0
   unfold cnt at ih ⊢
   rw [List.countP_cons,List.countP_cons]
   cases a <;> cases b <;> simp_all <;> omega
theorem rising_filter {N : Nat} (p : Int → Bool) : ∀ (l : List Int) (k : Nat),l.Pairwise (· < ·) → (∀ x ∈ l,(k : Int) ≤ x ∧ x < (N : Int)) → l.filter p = (((List.range' k (N - k)).map fun n => ((n : Nat) : Int)).filter fun x => decide (x ∈ l) && p x)
 | [],k,_,_ => by
  have : ∀ l : List Int,(l.filter fun x => decide (x ∈ ([] : List Int)) && p x) = [] := fun l => List.filter_eq_nil_iff.2 fun x _ => by simp
  rw [this]
  rfl
 | a :: l,k,hp,hr => by
  obtain ⟨h1,h2⟩ := List.pairwise_cons.1 hp
  obtain ⟨ha,hb⟩ := hr a (by simp)
  have hsplit : List.range' k (N - k) = List.range' k (a.toNat - k) ++ (a.toNat :: List.range' (a.toNat + 1) (N - (a.toNat + 1))) := by
   have e1 : N - k = (a.toNat - k) + ((N - (a.toNat + 1)) + 1) := by omega
   have e2 : k + (a.toNat - k) = a.toNat := by omega
   rw [e1,← List.range'_append_1,List.range'_succ,e2]
  have hpre : (((List.range' k (a.toNat - k)).map fun n => ((n : Nat) : Int)).filter fun x => decide (x ∈ a :: l) && p x) = [] := by
   refine List.filter_eq_nil_iff.2 fun x hx => ?_
   obtain ⟨n,hn,rfl⟩ := List.mem_map.1 hx
   have := List.mem_range'_1.1 hn
   have hne : ¬ ((n : Nat) : Int) ∈ a :: l := by
    intro q
    rcases List.mem_cons.1 q with q | q
    · omega
    ·
     have := h1 _ q
     omega
   simp [hne]
  have hpost : (((List.range' (a.toNat + 1) (N - (a.toNat + 1))).map fun n => ((n : Nat) : Int)).filter fun x => decide (x ∈ a :: l) && p x) = (((List.range' (a.toNat + 1) (N - (a.toNat + 1))).map fun n => ((n : Nat) : Int)).filter fun x => decide (x ∈ l) && p x) := by
   refine List.filter_congr fun x hx => ?_
   obtain ⟨n,hn,rfl⟩ := List.mem_map.1 hx
   have := List.mem_range'_1.1 hn
   have hne : ((n : Nat) : Int) ≠ a := by omega
   simp [hne]
  have ih := rising_filter (N := N) p l (a.toNat + 1) h2 fun x hx => ⟨by have := h1 x hx; omega,(hr x (by simp [hx])).2⟩
  rw [hsplit,List.map_append,List.filter_append,hpre,List.nil_append,List.map_cons,show ((a.toNat : Nat) : Int) = a by omega,List.filter_cons,List.filter_cons,hpost,← ih]
  simp
end Go.Proofs.YtabbejabdkkaiaaGreat
