/- Graphs in plain words: links by their ends, the first link that fits, the links of a node. No condition. -/
import Derived.Test.YtabbejabdkkaiaaGd
import Derived.Test.YtabbejabdkkaiaaPa
import Derived.Test.YtabbejabdkkaiaaGw
set_option linter.unusedSimpArgs false
set_option linter.unusedVariables false
namespace Go.Proofs.Ytabbejabdkkaiaa
open Go.RowKit

theorem land255 (x : Int) : 0 ≤ landK .i64 x 255 ∧ landK .i64 x 255 ≤ 255 := by
 have h1 : (BitVec.ofInt 64 x &&& BitVec.ofInt 64 255).toNat ≤ 255 := by
  rw [BitVec.toNat_and]
  exact Nat.le_trans Nat.and_le_right (by decide)
 have e : landK .i64 x 255 = IntKind.wrap .i64 ((BitVec.ofInt 64 x &&& BitVec.ofInt 64 255).toNat : Int) := rfl
 rw [e,wr (by omega) (by omega)]
 omega
def idxs (p : A2I → Bool) : Nat → List A2I → List Int
 | _,[] => []
 | k,x :: l => if p x = true then (k : Int) :: idxs p (k + 1) l else idxs p (k + 1) l
theorem idxs_len (p : A2I → Bool) : ∀ (k : Nat) (l : List A2I),(idxs p k l).length ≤ l.length
 | _,[] => by simp [idxs]
 | k,x :: l => by
  have := idxs_len p (k + 1) l
  simp only [idxs]
  split <;> simp <;> omega
theorem idxs_mem (p : A2I → Bool) : ∀ (k : Nat) (l : List A2I) (i : Int),i ∈ idxs p k l ↔ ∃ j : Nat,i = ((k + j : Nat) : Int) ∧ ∃ x,l[j]? = some x ∧ p x = true
 | k,[],i => by simp [idxs]
 | k,x :: l,i => by
  have ih := idxs_mem p (k + 1) l i
  constructor
  ·
   intro h
   have h2 : (i = (k : Int) ∧ p x = true) ∨ i ∈ idxs p (k + 1) l := by
    simp only [idxs] at h
    split at h
    ·
     rename_i hp
     rcases List.mem_cons.1 h with h | h
     · exact .inl ⟨h,hp⟩
     · exact .inr h
    · exact .inr h
   rcases h2 with ⟨h,hp⟩ | h
   · exact ⟨0,by simpa using h,x,rfl,hp⟩
   ·
    obtain ⟨j,h1,y,h2,h3⟩ := ih.1 h
    exact ⟨j + 1,by rw [h1]; congr 1; omega,y,by simpa using h2,h3⟩
  ·
   rintro ⟨j,h1,y,h2,h3⟩
   simp only [idxs]
   cases j with
   | zero =>
    simp at h2
    subst h2
    rw [if_pos h3]
    simp [h1]
   | succ j =>
    have : i ∈ idxs p (k + 1) l := ih.2 ⟨j,by rw [h1]; congr 1; omega,y,by simpa using h2,h3⟩
    split
    · exact List.mem_cons_of_mem _ this
    · exact this
def fdx (p : A2I → Bool) : Nat → List A2I → Int
 | _,[] => -1
 | k,x :: l => if p x = true then (k : Int) else fdx p (k + 1) l
def lk (a b : Int) (x : A2I) : Bool := decide (x.a0 = a ∧ x.a1 = b)
theorem fdx_cases (p : A2I → Bool) : ∀ (k : Nat) (l : List A2I),(fdx p k l = -1 ∧ ∀ x ∈ l,p x = false) ∨ ∃ j : Nat,fdx p k l = ((k + j : Nat) : Int) ∧ (∃ x,l[j]? = some x ∧ p x = true) ∧ ∀ i x,i < j → l[i]? = some x → p x = false
 | k,[] => .inl ⟨rfl,by simp⟩
 | k,x :: l => by
  simp only [fdx]
  by_cases hp : p x = true
  ·
   rw [if_pos hp]
   exact .inr ⟨0,by simp,⟨x,rfl,hp⟩,fun i _ hi => by omega⟩
  ·
   rw [if_neg hp]
   rcases fdx_cases p (k + 1) l with ⟨h1,h2⟩ | ⟨j,h1,h2,h3⟩
   ·
    exact .inl ⟨h1,fun y hy => by
     rcases List.mem_cons.1 hy with rfl | hy
     · simpa using hp
     · exact h2 y hy⟩
   ·
    refine .inr ⟨j + 1,by rw [h1]; congr 1; omega,by simpa using h2,fun i y hi hy => ?_⟩
    cases i with
    | zero => simp at hy; subst hy; simpa using hp
    | succ i => exact h3 i y (by omega) (by simpa using hy)
section
variable {g : TGraph}
theorem find_l1 (a b : Int) (hs : g.Links.length ≤ 1000) : ∀ (n nf k : Nat),k + n = g.Links.length → n < nf → L_graph_Find_l1 g a b nf (k : Int) = some (fdx (lk a b) k (g.Links.drop k))
 | 0,nf + 1,k,h1,h2 => by
  rw [L_graph_Find_l1,if_neg (by omega),List.drop_of_length_le (by omega)]
  rfl
 | n + 1,nf + 1,k,h1,h2 => by
  have hk : k < g.Links.length := by omega
  rw [L_graph_Find_l1,if_pos (by omega),at_nat,List.getElem?_eq_getElem hk,Option.bind_some,List.drop_eq_getElem_cons hk]
  simp only [fdx]
  have e : (g.Links[k] = A2I.mk a b) ↔ (lk a b g.Links[k] = true) := by
   unfold lk
   rw [decide_eq_true_iff]
   constructor
   · intro h; rw [h]; exact ⟨rfl,rfl⟩
   · rintro ⟨rfl,rfl⟩; rfl
  by_cases hp : g.Links[k] = A2I.mk a b
  · rw [if_pos hp,if_pos (e.1 hp)]
  ·
   rw [if_neg hp,if_neg fun h => hp (e.2 h),wr_succ (by omega)]
   exact find_l1 a b hs n nf (k + 1) (by omega) (by omega)
def find (g : TGraph) (a b : Int) : Int := fdx (lk a b) 0 g.Links
theorem graph_find (a b : Int) (hs : g.Links.length ≤ 1000) : L_graph_Find g a b = some (find g a b) := by
 unfold L_graph_Find
 rw [fuel_eq]
 exact find_l1 a b hs g.Links.length _ 0 (by simp) (by omega)
theorem rfind_l1 (a b : Int) (hs : g.Links.length ≤ 1000) : ∀ (n nf k : Nat),k + n = g.Links.length → n < nf → L_ref03_Find_l1 g a b nf (k : Int) = some (fdx (lk a b) k (g.Links.drop k))
 | 0,nf + 1,k,h1,h2 => by
  rw [L_ref03_Find_l1,if_neg (by omega),List.drop_of_length_le (by omega)]
  rfl
 | n + 1,nf + 1,k,h1,h2 => by
  have hk : k < g.Links.length := by omega
  rw [L_ref03_Find_l1,if_pos (by omega),at_nat,List.getElem?_eq_getElem hk,Option.bind_some,List.drop_eq_getElem_cons hk]
  simp only [fdx]
  have e : (if g.Links[k].a0 = a then some (decide (g.Links[k].a1 = b)) else some false) = some (lk a b g.Links[k]) := by
   unfold lk
   by_cases h1 : g.Links[k].a0 = a <;> simp [h1]
  rw [e,Option.bind_some]
  by_cases hp : lk a b g.Links[k] = true
  · rw [if_pos hp,if_pos hp]
  ·
   rw [if_neg hp,if_neg hp,wr_succ (by omega)]
   exact rfind_l1 a b hs n nf (k + 1) (by omega) (by omega)
theorem ref_find (a b : Int) (hs : g.Links.length ≤ 1000) : L_ref03_Find g a b = some (find g a b) := by
 unfold L_ref03_Find
 rw [fuel_eq]
 exact rfind_l1 a b hs g.Links.length _ 0 (by simp) (by omega)
def outs_ (g : TGraph) (n : Int) : List Int := idxs (fun x => decide (x.a0 = n)) 0 g.Links
theorem gout_l1 (a : Int) (hs : g.Links.length ≤ 1000) : ∀ (n nf k : Nat) (acc : List Int),k + n = g.Links.length → n < nf → acc.length ≤ k → L_graph_of_v1_l1 g a nf (k : Int) acc = some (acc ++ idxs (fun x => decide (x.a0 = a)) k (g.Links.drop k))
 | 0,nf + 1,k,acc,h1,h2,h3 => by
  rw [L_graph_of_v1_l1,if_neg (by omega),List.drop_of_length_le (by omega)]
  simp [idxs]
 | n + 1,nf + 1,k,acc,h1,h2,h3 => by
  have hk : k < g.Links.length := by omega
  rw [L_graph_of_v1_l1,if_pos (by omega),at_nat,List.getElem?_eq_getElem hk,Option.bind_some,List.drop_eq_getElem_cons hk]
  simp only [idxs]
  by_cases hp : g.Links[k].a0 = a
  ·
   rw [if_pos hp,if_pos (by omega),Option.bind_some,if_pos (by simpa using hp),wr_succ (by omega),gout_l1 a hs n nf (k + 1) _ (by omega) (by omega) (by simp; omega)]
   simp
  ·
   rw [if_neg hp,Option.bind_some,if_neg (by simpa using hp),wr_succ (by omega)]
   exact gout_l1 a hs n nf (k + 1) _ (by omega) (by omega) (by omega)
theorem graph_out (a : Int) (hs : g.Links.length ≤ 1000) : L_graph_Out g a = some (outs_ g a) := by
 unfold L_graph_Out L_graph_of_v1
 have h : L_graph_of_v1_l1 g a (g.Links.length + 1) 0 [] = _ := gout_l1 a hs g.Links.length _ 0 [] (by simp) (by omega) (by simp)
 rw [fuel_eq,h]
 rfl
theorem bor3 (p q : Prop) [Decidable p] [Decidable q] : (if p then some true else some (decide q)) = some (decide (p ∨ q)) := by
 by_cases h : p <;> simp [h]
def back (g : TGraph) (l : Int) : Int := if 0 ≤ l then match g.Links[l.toNat]? with
 | some x => find g x.a1 x.a0
 | none => -1 else -1
theorem law_cut (g : TGraph) : L_law03_Cut g = some ⟨g.N,g.Links.take 40⟩ := by
 unfold L_law03_Cut
 rw [if_pos (by omega),if_pos (by omega),Option.bind_some]
 congr 2
 by_cases h : g.Links.length ≤ 40
 · rw [List.take_of_length_le (by omega),List.take_of_length_le h]
 ·
  congr 1
  omega
end
end Go.Proofs.Ytabbejabdkkaiaa
