/- Ways over edges: what comes of going over each node once; rounds that add what is next; nodes that each have one behind them. No condition. -/
import Derived.Test.YtabbejabdkkaiaaGreatPa
set_option linter.unusedSimpArgs false
set_option linter.unusedVariables false
namespace Go.Proofs.YtabbejabdkkaiaaGreat
open Go.RowKit

def Rk (E : Nat → Nat → Prop) : Nat → Nat → Nat → Prop
 | 0,i,j => E i j
 | k + 1,i,j => Rk E k i j ∨ (Rk E k i k ∧ Rk E k k j)
section
variable {E : Nat → Nat → Prop}
theorem Rk.mono {k i j : Nat} (h : Rk E k i j) : Rk E (k + 1) i j := .inl h
theorem Rk.to {k i : Nat} : Rk E (k + 1) i k ↔ Rk E k i k := ⟨fun h => h.elim id (·.1),.inl⟩
theorem Rk.from {k j : Nat} : Rk E (k + 1) k j ↔ Rk E k k j := ⟨fun h => h.elim id (·.2),.inl⟩
theorem Rk.trans : ∀ {k m i j : Nat},m < k → Rk E k i m → Rk E k m j → Rk E k i j
 | k + 1,m,i,j,hm,h1,h2 => by
  by_cases e : m = k
  ·
   subst e
   exact .inr ⟨Rk.to.1 h1,Rk.from.1 h2⟩
  ·
   have hm' : m < k := by omega
   rcases h1 with h1 | ⟨h1,h1'⟩ <;> rcases h2 with h2 | ⟨h2,h2'⟩
   · exact .inl (Rk.trans hm' h1 h2)
   · exact .inr ⟨Rk.trans hm' h1 h2,h2'⟩
   · exact .inr ⟨h1,Rk.trans hm' h1' h2⟩
   · exact .inr ⟨h1,h2'⟩
theorem Rk.base {i j : Nat} (h : E i j) : ∀ k,Rk E k i j
 | 0 => h
 | k + 1 => .inl (Rk.base h k)
end
def cnt (o : List Bool) : Nat := o.countP id
end Go.Proofs.YtabbejabdkkaiaaGreat
