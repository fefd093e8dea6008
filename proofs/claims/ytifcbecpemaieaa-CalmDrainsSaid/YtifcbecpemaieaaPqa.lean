/- Calm, in plain words: the modes of all nodes, how many messages are under way. No condition. -/
import Derived.Test.YtifcbecpemaieaaPka
import Derived.Test.YtifcbecpemaieaaPca
set_option linter.unusedSimpArgs false
set_option linter.unusedVariables false
namespace Go.Proofs.Ytifcbecpemaieaa
open Go.RowKit

section
variable {a : TApp} {c : TConf}
theorem CRightP.mode (h : CRightP a c) (j : Nat) (s : Int) (hj : c.States[j]? = some s) : 0 ≤ (stOf a.T (j : Int) s).Mode ∧ (stOf a.T (j : Int) s).Mode ≤ 2 := by
 obtain ⟨hl,e⟩ := List.getElem?_eq_some_iff.1 hj
 have hT : j < a.T.length := by have := h.nst; have := h.tab.2.1; omega
 obtain ⟨h0,h1⟩ := h.sts j _ hj
 have h2 := h1 _ (List.getElem?_eq_getElem hT)
 have hs : s.toNat < a.T[j].States.length := by omega
 have e2 := stOf_at (l := a.T) (n := j) (s := s.toNat) (List.getElem?_eq_getElem hT) hs
 rw [Int.toNat_of_nonneg h0] at e2
 rw [e2]
 have := (h.tab.2.2 j _ (List.getElem?_eq_getElem hT)).2.2.2.2 _ (List.getElem_mem hs)
 exact ⟨this.1,this.2.1⟩
end
def lnS (l : List (List TMsg)) : Int := (l.map fun x => (x.length : Int)).sum
theorem sum_ap (x : Int) : ∀ l : List Int,(l ++ [x]).sum = l.sum + x
 | [] => by simp
 | y :: l => by
  rw [List.cons_append,List.sum_cons,List.sum_cons,sum_ap x l]
  omega
theorem sum_b : ∀ {l : List Int},(∀ x ∈ l,0 ≤ x ∧ x ≤ 1000) → 0 ≤ l.sum ∧ l.sum ≤ 1000 * (l.length : Int)
 | [],_ => by simp
 | y :: l,h => by
  have := sum_b fun x hx => h x (List.mem_cons_of_mem y hx)
  have := h y (by simp)
  rw [List.sum_cons,List.length_cons]
  omega
theorem sum_tk {l : List Int} {k : Nat} (hk : k < l.length) : (l.take (k + 1)).sum = (l.take k).sum + l[k] := by
 rw [List.take_succ_eq_append_getElem hk,sum_ap]
theorem lens_b {c : TConf} (hc : SzC c) : ∀ x ∈ c.Links.map (fun x => (x.length : Int)),0 ≤ x ∧ x ≤ 1000 := fun x hx => by
 obtain ⟨y,hy,rfl⟩ := List.mem_map.1 hx
 have := hc.ms y hy
 omega
theorem lnS_b {c : TConf} (hc : SzC c) : 0 ≤ lnS c.Links ∧ lnS c.Links ≤ 100000 := by
 have := sum_b (lens_b hc)
 have h2 := hc.li
 rw [List.length_map] at this
 unfold lnS
 omega
theorem sum_l1 {F : Nat → Int → Int → Option Int} {l : List Int} (hb : ∀ x ∈ l,0 ≤ x ∧ x ≤ 1000) (hl : l.length ≤ 1000)
  (fin : ∀ nf s,F (nf + 1) (l.length : Int) s = some s) (step : ∀ nf k s (h : k < l.length),F (nf + 1) (k : Int) s = F nf ((k + 1 : Nat) : Int) (IntKind.wrap .i64 (s + l[k]))) : F (((l.length : Int) - 0).toNat + 1) 0 0 = some l.sum := by
 have q := loopI (F := F) (len := l.length) (fun k s => s = (l.take k).sum) (fun _ _ => some l.sum)
  (fun nf s hs => by rw [fin,hs,List.take_length])
  (fun nf k s hk hs ih => by
   have h1 := sum_b (l := l.take k) fun x hx => hb x (List.mem_of_mem_take hx)
   have h2 := hb _ (List.getElem_mem hk)
   rw [List.length_take] at h1
   rw [step nf k s hk,wr (by omega) (by omega)]
   exact ih _ (by rw [hs,sum_tk hk]))
  l.length (((l.length : Int) - 0).toNat + 1) 0 0 (by omega) (by omega) (by simp)
 exact q
section
variable {c : TConf}
theorem calm_loads (hc : SzC c) : L_calm_Loads c = some (c.Links.map fun x => (x.length : Int)) := by
 have hl := hc.li
 unfold L_calm_Loads
 have h := loopMap (F := fun nf n acc => L_calm_Loads_l1 c nf n acc) (l := c.Links) (fun x => [(x.length : Int)]) id 1 (by simp)
  (fun nf acc h => by rw [L_calm_Loads_l1,if_neg (by omega)]; rfl)
  (fun nf k acc hk h2 => by
   rw [L_calm_Loads_l1,if_pos (by omega),at_get hk,Option.bind_some,if_pos (by omega),wr_succ (by omega)])
  c.Links.length (((c.Links.length : Int) - 0).toNat + 1) 0 [] (by simp) (by omega) (by simp)
 rw [flatMap_one,List.drop_zero,List.nil_append] at h
 exact h
theorem calm_way (hc : SzC c) : L_calm_Way c = some (lnS c.Links) := by
 have hl := hc.li
 unfold L_calm_Way
 rw [calm_loads hc,Option.bind_some]
 exact sum_l1 (F := fun nf k s => L_calm_Way_l1 (c.Links.map fun x => (x.length : Int)) nf s k) (lens_b hc) (by rw [List.length_map]; omega)
  (fun nf s => by rw [L_calm_Way_l1,if_neg (by omega)])
  (fun nf k s hk => by rw [L_calm_Way_l1,if_pos (by omega),at_get hk,Option.bind_some,wr_succ (by rw [List.length_map] at hk; omega)])
end
theorem fixed14 : L_law14_fixed = some true := by decide +kernel
end Go.Proofs.Ytifcbecpemaieaa
