/- Helpers of plain laws: elements by a number, wrapped sums. No condition. -/
import Derived.Test.YtabbejabdkkaiaaKH
set_option linter.unusedSimpArgs false
set_option linter.unusedVariables false
namespace Go.Proofs.Ytabbejabdkkaiaa
open Go.RowKit

theorem at_nat {α : Type} (l : List α) (k : Nat) : at? l (k : Int) = l[k]? := by
 unfold at?; simp
theorem at_i {α : Type} {l : List α} {i : Int} (h : 0 ≤ i) : at? l i = l[i.toNat]? := by
 unfold at?; simp [h]
theorem at_lt {α : Type} {l : List α} {i : Int} (h : 0 ≤ i) (h' : i < (l.length : Int)) : at? l i = some (l[i.toNat]'(by omega)) := by
 rw [at_i h,List.getElem?_eq_getElem]
theorem wr {n : Int} (h : -9223372036854775808 ≤ n) (h' : n ≤ 9223372036854775807) : IntKind.wrap .i64 n = n := by
 have e1 : (2 : Int) ^ IntKind.bits .i64 = 18446744073709551616 := by decide
 have e2 : (2 : Int) ^ (IntKind.bits .i64 - 1) = 9223372036854775808 := by decide
 have e3 : IntKind.signed .i64 = true := rfl
 simp only [IntKind.wrap,e1,e2,e3,Bool.true_and,decide_eq_true_eq]
 by_cases h0 : 0 ≤ n
 · rw [Int.emod_eq_of_lt h0 (by omega),if_neg (by omega)]
 ·
  have : n % 18446744073709551616 = n + 18446744073709551616 := by
   rw [← Int.add_emod_right,Int.emod_eq_of_lt (by omega) (by omega)]
  rw [this,if_pos (by omega)]
  omega
theorem wr_succ {k : Nat} (h : k < 9223372036854775807) : IntKind.wrap .i64 ((k : Int) + 1) = ((k + 1 : Nat) : Int) := by
 rw [wr (by omega) (by omega)]; simp
def sm (n : Nat) : Prop := n ≤ 1099511627776
theorem fuel_eq (n : Nat) : (((n : Int) - 0).toNat + 1) = n + 1 := by omega
end Go.Proofs.Ytabbejabdkkaiaa
