/- Nodes that are held, and rings, in plain words. No condition. -/
import Derived.Test.YtabbejabdkkaiaaGreatPkb
set_option linter.unusedSimpArgs false
set_option linter.unusedVariables false
namespace Go.Proofs.YtabbejabdkkaiaaGreat
open Go.RowKit

section
variable {a : TApp} {c : TConf}
def nextI (l : List Int) (i : Nat) : Nat := (i + 1) % l.length
def RingQ (a : TApp) (c : TConf) (l : List Int) (i : Nat) (n : Int) : Prop := n ∉ l.take i ∧ ∀ m,l[nextI l i]? = some m → edgeB a c n m = true
def ringP (a : TApp) (c : TConf) (l : List Int) : Prop := l ≠ [] ∧ ∀ (i : Nat) (n : Int),l[i]? = some n → RingQ a c l i n
theorem next_lt {l : List Int} {i : Nat} (hi : i < l.length) : nextI l i < l.length := Nat.mod_lt _ (by omega)
theorem next_eq {l : List Int} {i : Nat} (hi : i < l.length) : nextI l i = if i + 1 < l.length then i + 1 else 0 := by
 unfold nextI
 split
 · rename_i h; exact Nat.mod_eq_of_lt h
 ·
  have : i + 1 = l.length := by omega
  rw [this,Nat.mod_self]
theorem ring_cur {l : List Int} {i : Nat} (hi : i < l.length) : RingQ a c l i l[i] ↔ l[i] ∉ l.take i ∧ edgeB a c l[i] (l[nextI l i]'(next_lt hi)) = true :=
 and_congr_right fun _ => ⟨fun h => h _ (List.getElem?_eq_getElem (next_lt hi)),fun h m hm => by
  rw [List.getElem?_eq_getElem (next_lt hi)] at hm
  injection hm with hm
  exact hm ▸ h⟩
open Classical in
theorem ring_end (l : List Int) : some (if ∀ (k : Nat) x,l[k]? = some x → RingQ a c l k x then decide ((l.length : Int) > 0) else false) = some (decide (ringP a c l)) := by
 by_cases r : ∀ (k : Nat) x,l[k]? = some x → RingQ a c l k x
 ·
  rw [if_pos r]
  refine sdec ⟨fun g => ⟨fun e => by rw [e] at g; simp at g,r⟩,fun g => ?_⟩
  rcases Nat.eq_zero_or_pos l.length with e | e
  · exact absurd (List.eq_nil_of_length_eq_zero e) g.1
  · omega
 ·
  rw [if_neg r]
  exact sF fun g => r g.2
open Classical in
theorem ref_ring (h : CRightP a c) (ha : SzA a) {l : List Int} (hl : l.length ≤ 1000) : L_ref15_Ring a c l = some (decide (ringP a c l)) := by
 unfold L_ref15_Ring
 rw [← ring_end]
 exact loopList (F := fun nf k => L_ref15_Ring_l1 a c l nf k) (l := l) (fun i n => RingQ a c l i n) (decide ((l.length : Int) > 0)) false
  (fun nf => by rw [L_ref15_Ring_l1,if_neg (by omega)])
  (fun nf k hk => by
   have e : (if ((k + 1 : Nat) : Int) < (l.length : Int) then (at? l ((k + 1 : Nat) : Int)).bind fun x => some x else some (l[0]'(by omega))) = some (l[nextI l k]'(next_lt hk)) := by
    have := next_eq hk
    by_cases q : k + 1 < l.length
    ·
     rw [if_pos (by omega),at_get q,Option.bind_some]
     rw [if_pos q] at this
     simp only [this]
    ·
     rw [if_neg (by omega)]
     rw [if_neg q] at this
     simp only [this]
   refine stepN (by rw [L_ref15_Ring_l1,if_pos (by omega),at_zero,List.getElem?_eq_getElem (by omega),Option.bind_some,wr_succ (by omega),e,Option.bind_some]) ?_
   rw [if_pos (by omega),if_pos (by omega),Option.bind_some,at_get hk,Option.bind_some,Int.toNat_natCast,ref_in_list _ (by rw [List.length_take]; omega),Option.bind_some,ring_cur hk]
   by_cases q : l[k] ∈ l.take k
   ·
    rw [if_pos (dT q)]
    exact sT' fun r => r.1 q
   ·
    rw [if_neg (by rw [dF q]; decide),ref_edge h ha,Option.bind_some]
    have e2 : ∀ b : Bool,some (!b) = some (decide (¬ b = true)) := fun b => by cases b <;> rfl
    rw [e2]
    exact sdec (not_congr ⟨fun r => ⟨q,r⟩,fun r => r.2⟩)) (((l.length : Int) - 0).toNat + 1) (by omega)
end
end Go.Proofs.YtabbejabdkkaiaaGreat
