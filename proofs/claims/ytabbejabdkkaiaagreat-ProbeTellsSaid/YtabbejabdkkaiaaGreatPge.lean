/- Shared by the laws on graphs: rows held against each other, all links, what may be has. No condition. -/
import Derived.Test.YtabbejabdkkaiaaGreatPgd
set_option linter.unusedSimpArgs false
set_option linter.unusedVariables false
namespace Go.Proofs.YtabbejabdkkaiaaGreat
open Go.RowKit

theorem drop_eq {α : Type} {a b : List α} {k : Nat} (ha : k < a.length) (hb : k < b.length) : (a.drop k = b.drop k) ↔ (a[k] = b[k] ∧ a.drop (k + 1) = b.drop (k + 1)) := by
 rw [List.drop_eq_getElem_cons ha,List.drop_eq_getElem_cons hb,List.cons.injEq]
theorem ref01_Ints_l1 {a b : List Int} (hl : a.length = b.length) (hs : sm a.length) : ∀ (n nf k : Nat),k + n = a.length → n < nf → L_ref01_Ints_l1 a b nf (k : Int) = some (decide (a.drop k = b.drop k))
 | 0,nf + 1,k,h1,h2 => by
  rw [L_ref01_Ints_l1,if_neg (by omega),List.drop_of_length_le (by omega),List.drop_of_length_le (by omega)]
  simp
 | n + 1,nf + 1,k,h1,h2 => by
  have hk : k < a.length := by omega
  have hk' : k < b.length := by omega
  have hs' := hs
  unfold sm at hs'
  rw [L_ref01_Ints_l1,if_pos (by omega),at_nat,at_nat,List.getElem?_eq_getElem hk,List.getElem?_eq_getElem hk',Option.bind_some,Option.bind_some]
  simp only [drop_eq hk hk']
  by_cases he : a[k] = b[k]
  ·
   rw [if_pos he,wr_succ (by omega),ref01_Ints_l1 hl hs n nf (k + 1) (by omega) (by omega)]
   simp [he]
  ·
   rw [if_neg he]
   simp [he]
theorem ref01_Ints {a b : List Int} (hs : sm a.length) : L_ref01_Ints a b = some (decide (a = b)) := by
 unfold L_ref01_Ints
 by_cases hl : a.length = b.length
 ·
  rw [if_pos (by omega),fuel_eq,show (0 : Int) = ((0 : Nat) : Int) from rfl,ref01_Ints_l1 hl hs a.length _ 0 (by simp) (by omega)]
  simp
 ·
  rw [if_neg (by omega)]
  have : a ≠ b := fun e => hl (by rw [e])
  simp [this]
theorem ints_same {a : List Int} (hs : a.length ≤ 1000) : L_ref01_Ints a a = some true := by
 rw [ref01_Ints (by unfold sm; omega)]
 simp
theorem law_ref (g : TGraph) : L_law03_Ref g = some g := rfl
theorem cut_len (g : TGraph) : (⟨g.N,g.Links.take 40⟩ : TGraph).Links.length ≤ 40 := by simp; omega
section
variable {g : TGraph}
theorem RightP.ok (h : RightP g) : GOk g g.N.toNat := h.2.2.2.1.ok h.1 h.2.1 (by have := h.2.2.1; omega)
end
end Go.Proofs.YtabbejabdkkaiaaGreat
