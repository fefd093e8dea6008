/- Whether a graph may be: the program's answer and the document's are the same. No condition. -/
import Derived.Test.YtabbejabdkkaiaaPgc
set_option linter.unusedSimpArgs false
set_option linter.unusedVariables false
namespace Go.Proofs.Ytabbejabdkkaiaa
open Go.RowKit

theorem mIdx_cons (p : List Int × Int) (m : NMap) (k : List Int) : mIdxI (p :: m) k = if p.1 = k then 0 else mIdxI m k + 1 := by
 unfold mIdxI
 rw [List.findIdx_cons]
 by_cases h : p.1 = k <;> simp [h]
theorem mGet_cons (p : List Int × Int) (m : NMap) (k : List Int) : mGetI (p :: m) k = if p.1 = k then p.2 else mGetI m k := by
 unfold mGetI
 rw [mIdx_cons]
 by_cases h : p.1 = k <;> simp [h]
theorem mPut_cons (p : List Int × Int) (m : NMap) (k : List Int) (v : Int) : mPutI (p :: m) k v = if p.1 = k then (p.1,v) :: m else p :: mPutI m k v := by
 unfold mPutI mSetI
 rw [mIdx_cons]
 by_cases h : p.1 = k
 · simp [h]
 ·
  simp only [if_neg h,List.length_cons,Nat.add_lt_add_iff_right,List.modify_succ_cons]
  split <;> simp
theorem mGet_put (k k' : List Int) (v : Int) : ∀ m : NMap,mGetI (mPutI m k v) k' = if k' = k then v else mGetI m k'
 | [] => by
  have e : mPutI [] k v = [(k,v)] := rfl
  rw [e,mGet_cons]
  by_cases h : k = k'
  · simp [h]
  · rw [if_neg h,if_neg fun e => h e.symm]
 | p :: m => by
  have ih := mGet_put k k' v m
  rw [mPut_cons]
  by_cases h : p.1 = k
  ·
   rw [if_pos h,mGet_cons,mGet_cons]
   by_cases h2 : k' = k
   · simp [h,h2]
   ·
    have : ¬ p.1 = k' := fun e => h2 (by rw [← e,h])
    rw [if_neg this,if_neg h2,if_neg this]
  ·
   rw [if_neg h,mGet_cons,mGet_cons,ih]
   by_cases h2 : p.1 = k'
   · rw [if_pos h2,if_pos h2,if_neg fun e => h (by rw [h2,e])]
   · rw [if_neg h2,if_neg h2]
def good (N : Int) (x : A2I) : Prop := 0 ≤ x.a0 ∧ x.a0 < N ∧ 0 ≤ x.a1 ∧ x.a1 < N ∧ x.a0 ≠ x.a1
def turn (x : A2I) : A2I := ⟨x.a1,x.a0⟩
def Fst (g : TGraph) (j : Nat) : Prop := ∀ x,g.Links[j]? = some x → good g.N x ∧ ∀ i,i < j → g.Links[i]? ≠ some x
def C1 (g : TGraph) : Prop := ∀ j,Fst g j
def C2 (g : TGraph) : Prop := ∀ x ∈ g.Links,turn x ∈ g.Links
def Seen (g : TGraph) (k : Nat) (m : NMap) : Prop := ∀ a b,mGetI m [a,b] = if A2I.mk a b ∈ g.Links.take k then 1 else 0
section
variable {g : TGraph}
theorem mem_take {k : Nat} {x : A2I} : x ∈ g.Links.take k ↔ ∃ i,i < k ∧ g.Links[i]? = some x := by
 constructor
 ·
  intro h
  obtain ⟨i,hi,e⟩ := List.getElem_of_mem h
  rw [List.length_take] at hi
  rw [List.getElem_take] at e
  exact ⟨i,by omega,by rw [List.getElem?_eq_getElem (by omega),e]⟩
 ·
  rintro ⟨i,hi,h⟩
  have hl := (List.getElem?_eq_some_iff.1 h).1
  refine List.mem_of_getElem? (i := i) ?_
  rw [List.getElem?_take,if_pos hi,h]
open Classical in
theorem right_l1 (hs : g.Links.length ≤ 1000) : ∀ (n nf k : Nat) (m : NMap),k + n = g.Links.length → n < nf → Seen g k m →
  ((∀ j,k ≤ j → Fst g j) → ∃ m',L_graph_Right_l1 g nf (k : Int) m = some (.inl m') ∧ Seen g g.Links.length m') ∧ ((¬ ∀ j,k ≤ j → Fst g j) → L_graph_Right_l1 g nf (k : Int) m = some (.inr false))
 | 0,nf + 1,k,m,h1,h2,h3 => by
  have e : k = g.Links.length := by omega
  rw [L_graph_Right_l1,if_neg (by omega)]
  refine ⟨fun _ => ⟨m,rfl,e ▸ h3⟩,fun h => absurd (fun j hj x hx => ?_) h⟩
  have := (List.getElem?_eq_some_iff.1 hx).1
  omega
 | n + 1,nf + 1,k,m,h1,h2,h3 => by
  have hk : k < g.Links.length := by omega
  have hx : g.Links[k]? = some g.Links[k] := List.getElem?_eq_getElem hk
  rw [L_graph_Right_l1,if_pos (by omega),at_nat,hx,Option.bind_some]
  have hcond : ((L_graph_Graph_node g g.Links[k].a0).bind fun r745 => if r745 = true then (L_graph_Graph_node g g.Links[k].a1).bind fun r748 => if r748 = true then if g.Links[k].a0 = g.Links[k].a1 then some true else some (decide (mGetI m [g.Links[k].a0,g.Links[k].a1] > 0)) else some true else some true) = some (decide (¬ Fst g k)) := by
   rw [node_eq,node_eq,Option.bind_some,Option.bind_some]
   have hF : Fst g k ↔ (good g.N g.Links[k] ∧ ∀ i,i < k → g.Links[i]? ≠ some g.Links[k]) := ⟨fun h => h _ hx,fun h x hx' => by rw [hx] at hx'; injection hx' with hx'; subst hx'; exact h⟩
   have hsn : (∀ i,i < k → g.Links[i]? ≠ some g.Links[k]) ↔ ¬ mGetI m [g.Links[k].a0,g.Links[k].a1] > 0 := by
    rw [h3]
    constructor
    ·
     intro h
     rw [if_neg]
     · decide
     ·
      intro hm
      obtain ⟨i,hi,e⟩ := mem_take.1 hm
      exact h i hi e
    ·
     intro h i hi e
     apply h
     rw [if_pos (mem_take.2 ⟨i,hi,e⟩)]
     decide
   by_cases c1 : 0 ≤ g.Links[k].a0 ∧ g.Links[k].a0 < g.N
   ·
    by_cases c2 : 0 ≤ g.Links[k].a1 ∧ g.Links[k].a1 < g.N
    ·
     by_cases c3 : g.Links[k].a0 = g.Links[k].a1
     ·
      rw [if_pos (by simpa using c1),if_pos (by simpa using c2),if_pos c3,decide_eq_true]
      rw [hF]
      exact fun h => h.1.2.2.2.2 c3
     ·
      rw [if_pos (by simpa using c1),if_pos (by simpa using c2),if_neg c3]
      congr 1
      rw [Bool.eq_iff_iff,decide_eq_true_iff,decide_eq_true_iff,hF,hsn]
      constructor
      ·
       intro h1 h2
       exact h2.2 h1
      ·
       intro h1
       by_cases h5 : mGetI m [g.Links[k].a0,g.Links[k].a1] > 0
       · exact h5
       · exact absurd ⟨⟨c1.1,c1.2,c2.1,c2.2,c3⟩,h5⟩ h1
    ·
     rw [if_pos (by simpa using c1),if_neg (by simpa using c2),decide_eq_true]
     rw [hF]
     exact fun h => c2 ⟨h.1.2.2.1,h.1.2.2.2.1⟩
   ·
    rw [if_neg (by simpa using c1),decide_eq_true]
    rw [hF]
    exact fun h => c1 ⟨h.1.1,h.1.2.1⟩
  rw [hcond,Option.bind_some]
  by_cases hF : Fst g k
  ·
   have hg := hF _ hx
   have hnot : ¬ (A2I.mk g.Links[k].a0 g.Links[k].a1 ∈ g.Links.take k) := fun hm => by
    obtain ⟨i,hi,e⟩ := mem_take.1 hm
    exact hg.2 i hi e
   rw [if_neg (by simpa using hF),wr_succ (by omega),h3 g.Links[k].a0,if_neg hnot]
   have hs2 : Seen g (k + 1) (mPutI m [g.Links[k].a0,g.Links[k].a1] (IntKind.wrap .i64 (0 + 1))) := fun a b => by
    rw [mGet_put,wr (by omega) (by omega)]
    by_cases e : [a,b] = [g.Links[k].a0,g.Links[k].a1]
    ·
     rw [if_pos e,if_pos]
     · rfl
     ·
      simp only [List.cons.injEq,and_true] at e
      rw [e.1,e.2]
      exact mem_take.2 ⟨k,by omega,hx⟩
    ·
     rw [if_neg e,h3]
     congr 1
     rw [eq_iff_iff,mem_take,mem_take]
     constructor
     ·
      rintro ⟨i,hi,h⟩
      exact ⟨i,by omega,h⟩
     ·
      rintro ⟨i,hi,h⟩
      by_cases e2 : i = k
      ·
       subst e2
       rw [hx] at h
       injection h with h
       exact absurd (by rw [h]) e
      · exact ⟨i,by omega,h⟩
   obtain ⟨g1,g2⟩ := right_l1 hs n nf (k + 1) _ (by omega) (by omega) hs2
   refine ⟨fun h => g1 fun j hj => h j (by omega),fun h => g2 fun h' => h fun j hj => ?_⟩
   by_cases e : j = k
   · rw [e]; exact hF
   · exact h' j (by omega)
  ·
   rw [if_pos (by simpa using hF)]
   exact ⟨fun h => absurd (h k (Nat.le_refl _)) hF,fun _ => rfl⟩
open Classical in
theorem right_l2 (hs : g.Links.length ≤ 1000) {m : NMap} (hm : Seen g g.Links.length m) : ∀ (n nf k : Nat),k + n = g.Links.length → n < nf → L_graph_Right_l2 g m nf (k : Int) = some (if ∀ x ∈ g.Links.drop k,turn x ∈ g.Links then .inl () else .inr false)
 | 0,nf + 1,k,h1,h2 => by
  rw [L_graph_Right_l2,if_neg (by omega),List.drop_of_length_le (by omega),if_pos (by simp)]
 | n + 1,nf + 1,k,h1,h2 => by
  have hk : k < g.Links.length := by omega
  have hx : g.Links[k]? = some g.Links[k] := List.getElem?_eq_getElem hk
  rw [L_graph_Right_l2,if_pos (by omega),at_nat,hx,Option.bind_some,L_graph_turned,Option.bind_some,List.drop_eq_getElem_cons hk,hm,List.take_length]
  by_cases ht : turn g.Links[k] ∈ g.Links
  ·
   have ht' : A2I.mk g.Links[k].a1 g.Links[k].a0 ∈ g.Links := ht
   rw [if_pos ht',if_neg (by decide),wr_succ (by omega),right_l2 hs hm n nf (k + 1) (by omega) (by omega)]
   simp only [List.mem_cons,forall_eq_or_imp,ht,true_and]
  ·
   have ht' : ¬ A2I.mk g.Links[k].a1 g.Links[k].a0 ∈ g.Links := ht
   rw [if_neg ht',if_pos rfl,if_neg]
   intro h
   exact ht (h _ List.mem_cons_self)
theorem index_int (l : List Int) (a : Int) (hs : l.length ≤ 1000) : ∀ (n nf k : Nat),k + n = l.length → n < nf → ∃ i : Int,L_slices_Index_int_int_l1 l a nf (k : Int) = some i ∧ (0 ≤ i ↔ a ∈ l.drop k)
 | 0,nf + 1,k,h1,h2 => by
  rw [L_slices_Index_int_int_l1,if_neg (by omega),List.drop_of_length_le (by omega)]
  exact ⟨-1,rfl,by simp⟩
 | n + 1,nf + 1,k,h1,h2 => by
  have hk : k < l.length := by omega
  rw [L_slices_Index_int_int_l1,if_pos (by omega),at_nat,List.getElem?_eq_getElem hk,Option.bind_some]
  have hmd : a ∈ l.drop k ↔ (a = l[k] ∨ a ∈ l.drop (k + 1)) := by rw [List.drop_eq_getElem_cons hk,List.mem_cons]
  by_cases hb : a = l[k]
  ·
   rw [if_pos hb]
   exact ⟨(k : Int),rfl,⟨fun _ => hmd.2 (.inl hb),fun _ => by omega⟩⟩
  ·
   rw [if_neg hb,wr_succ (by omega)]
   obtain ⟨i,h3,h4⟩ := index_int l a hs n nf (k + 1) (by omega) (by omega)
   exact ⟨i,h3,h4.trans ⟨fun h => hmd.2 (.inr h),fun h => (hmd.1 h).resolve_left hb⟩⟩
theorem contains_int {l : List Int} {a : Int} (hs : l.length ≤ 1000) : L_slices_Contains_int_int l a = some (decide (a ∈ l)) := by
 unfold L_slices_Contains_int_int L_slices_Index_int_int
 obtain ⟨i,h1,h2⟩ := index_int l a hs l.length (l.length + 1) 0 (by simp) (by omega)
 rw [fuel_eq]
 rw [show ((0 : Nat) : Int) = 0 from rfl] at h1
 rw [h1,Option.bind_some]
 congr 1
 rw [Bool.eq_iff_iff,decide_eq_true_iff,decide_eq_true_iff]
 simpa using h2
def Conn (g : TGraph) (s : Nat) : Prop := ∀ v,v < g.N.toNat → ∃ k,Wk (EG g) s k v
def RightP (g : TGraph) : Prop := 1 ≤ g.N ∧ g.N ≤ 6 ∧ g.Links.length ≤ 30 ∧ C1 g ∧ C2 g ∧ Conn g 0
theorem C1.ok (h : C1 g) (h1 : 1 ≤ g.N) (h6 : g.N ≤ 6) (hl : g.Links.length ≤ 100) : GOk g g.N.toNat := by
 refine ⟨by omega,by omega,hl,fun l hl => ?_⟩
 obtain ⟨i,hi,e⟩ := List.getElem_of_mem hl
 have := (h i l (by rw [List.getElem?_eq_getElem hi,e])).1
 obtain ⟨_,_,_,_,_⟩ := this
 omega
theorem IsD.conn {n s : Nat} {o : List Int} (h : IsD (EG g) n s o) (hn : n = g.N.toNat) : (-1 : Int) ∉ o ↔ Conn g s := by
 subst hn
 constructor
 ·
  intro h1 v hv
  rcases h.val v hv with ⟨h2,_⟩ | ⟨d,_,h2,_⟩
  ·
   have hl : v < o.length := by rw [h.len]; exact hv
   rw [D_get hl] at h2
   exact absurd (h2 ▸ List.getElem_mem hl) h1
  · exact ⟨d,h2⟩
 ·
  intro h1 h2
  obtain ⟨v,hv,e⟩ := List.getElem_of_mem h2
  have hvn : v < g.N.toNat := by rw [← h.len]; exact hv
  obtain ⟨k,hk⟩ := h1 v hvn
  rcases h.val v hvn with ⟨_,h3⟩ | ⟨d,h3,_⟩
  · exact h3 k hk
  ·
   rw [D_get hv,e] at h3
   omega
open Classical in
theorem graph_right (hs : g.Links.length ≤ 100) : L_graph_Right g = some (decide (RightP g)) := by
 unfold L_graph_Right
 have hb : (if g.N < 1 then some true else if g.N > 6 then some true else some (decide ((g.Links.length : Int) > 30))) = some (decide (¬ (1 ≤ g.N ∧ g.N ≤ 6 ∧ g.Links.length ≤ 30))) := by
  by_cases h1 : g.N < 1
  · rw [if_pos h1,decide_eq_true (by omega)]
  ·
   by_cases h2 : g.N > 6
   · rw [if_neg h1,if_pos h2,decide_eq_true (by omega)]
   ·
    rw [if_neg h1,if_neg h2]
    congr 1
    rw [Bool.eq_iff_iff,decide_eq_true_iff,decide_eq_true_iff]
    omega
 rw [hb,Option.bind_some]
 by_cases hc : 1 ≤ g.N ∧ g.N ≤ 6 ∧ g.Links.length ≤ 30
 ·
  rw [if_neg (by simpa using hc),fuel_eq]
  have h0 : Seen g 0 [] := fun a b => by
   rw [List.take_zero,if_neg (by simp)]
   rfl
  obtain ⟨g1,g2⟩ := right_l1 (by omega) g.Links.length (g.Links.length + 1) 0 [] (by omega) (by omega) h0
  rw [show ((0 : Nat) : Int) = 0 from rfl] at g1 g2
  by_cases h1 : C1 g
  ·
   obtain ⟨m,e1,hm⟩ := g1 fun j _ => h1 j
   have e2 := right_l2 (by omega) hm g.Links.length (g.Links.length + 1) 0 (by omega) (by omega)
   rw [show ((0 : Nat) : Int) = 0 from rfl,List.drop_zero] at e2
   rw [e1,Option.bind_some]
   simp only []
   rw [e2,Option.bind_some]
   by_cases h2 : C2 g
   ·
    rw [if_pos (show ∀ x,x ∈ g.Links → turn x ∈ g.Links from h2)]
    simp only []
    have ok := h1.ok hc.1 hc.2.1 hs
    obtain ⟨o,e3,h3,_⟩ := graph_dist ok (s := 0) (by omega)
    rw [show ((0 : Nat) : Int) = 0 from rfl] at e3
    have hol := h3.len
    rw [e3,Option.bind_some,contains_int (by omega),Option.bind_some]
    congr 1
    have hcn := h3.conn rfl
    rw [Bool.eq_iff_iff,Bool.not_eq_true',decide_eq_false_iff_not,decide_eq_true_iff,hcn]
    exact ⟨fun h => ⟨hc.1,hc.2.1,hc.2.2,h1,h2,h⟩,fun h => h.2.2.2.2.2⟩
   ·
    rw [if_neg (show ¬ ∀ x,x ∈ g.Links → turn x ∈ g.Links from h2)]
    simp only []
    rw [decide_eq_false fun h => h2 h.2.2.2.2.1]
  ·
   rw [g2 fun h => h1 fun j => h j (Nat.zero_le _),Option.bind_some]
   simp only []
   rw [decide_eq_false fun h => h1 h.2.2.2.1]
 · rw [if_pos (decide_eq_true hc),decide_eq_false fun h => hc ⟨h.1,h.2.1,h.2.2.1⟩]
theorem EG.symm (h : C2 g) {u v : Nat} (e : EG g u v) : EG g v u := by
 obtain ⟨l,hl,e1,e2⟩ := e
 exact ⟨turn l,h l hl,e2,e1⟩
theorem Wk.trans {E : Nat → Nat → Prop} {a b c i j : Nat} (h : Wk E a i b) (h' : Wk E b j c) : Wk E a (i + j) c := by
 induction h' with
 | z => exact h
 | s _ e ih => exact .s ih e
theorem Wk.back (h : C2 g) {a b i : Nat} (w : Wk (EG g) a i b) : Wk (EG g) b i a := by
 induction w with
 | z => exact .z
 | s w e ih =>
  rename_i k u v
  have := Wk.trans (.s .z (EG.symm h e)) ih
  rwa [show 0 + 1 + k = k + 1 by omega] at this
theorem Conn.all (h : C2 g) (hc : Conn g 0) {s : Nat} (hs : s < g.N.toNat) : Conn g s := fun v hv => by
 obtain ⟨i,hi⟩ := hc s hs
 obtain ⟨j,hj⟩ := hc v hv
 exact ⟨i + j,(hi.back h).trans hj⟩
theorem find_first {a b : Int} {j : Nat} {x : A2I} (hx : g.Links[j]? = some x) (ha : x.a0 = a) (hb : x.a1 = b) : find g a b = (j : Int) ↔ ∀ i,i < j → g.Links[i]? ≠ some x := by
 have hxe : ∀ y : A2I,lk a b y = true ↔ y = x := fun y => by
  unfold lk
  rw [decide_eq_true_iff]
  constructor
  ·
   rintro ⟨h1,h2⟩
   cases x; cases y
   simp_all
  ·
   rintro rfl
   exact ⟨ha,hb⟩
 unfold find
 rcases fdx_cases (lk a b) 0 g.Links with ⟨h1,h2⟩ | ⟨k,h1,⟨y,h2,h3⟩,h4⟩
 ·
  have := h2 x (List.mem_of_getElem? hx)
  rw [(hxe x).2 rfl] at this
  cases this
 ·
  have hy := (hxe y).1 h3
  subst hy
  rw [h1,Nat.zero_add]
  constructor
  ·
   intro e i hi hxi
   have := h4 i y (by omega) hxi
   rw [h3] at this
   cases this
  ·
   intro h
   rcases Nat.lt_trichotomy k j with h5 | h5 | h5
   · exact absurd h2 (h k h5)
   · rw [h5]
   ·
    have := h4 j y h5 hx
    rw [h3] at this
    cases this
theorem find_some {a b : Int} : 0 ≤ find g a b ↔ A2I.mk a b ∈ g.Links := by
 unfold find
 rcases fdx_cases (lk a b) 0 g.Links with ⟨h1,h2⟩ | ⟨k,h1,⟨y,h2,h3⟩,h4⟩
 ·
  rw [h1]
  constructor
  · intro h; omega
  ·
   intro h
   have := h2 _ h
   simp [lk] at this
 ·
  rw [h1]
  constructor
  ·
   intro _
   unfold lk at h3
   rw [decide_eq_true_iff] at h3
   have : y = A2I.mk a b := by
    cases y
    simp_all
   rw [← this]
   exact List.mem_of_getElem? h2
  ·
   intro _
   omega
open Classical in
theorem rright_l1 (hs : g.Links.length ≤ 1000) : ∀ (n nf k : Nat),k + n = g.Links.length → n < nf → L_ref03_Right_l1 g nf (k : Int) = some (if ∀ j x,k ≤ j → g.Links[j]? = some x → Fst g j ∧ turn x ∈ g.Links then .inl () else .inr false)
 | 0,nf + 1,k,h1,h2 => by
  rw [L_ref03_Right_l1,if_neg (by omega),if_pos]
  intro j x hj hx
  have := (List.getElem?_eq_some_iff.1 hx).1
  omega
 | n + 1,nf + 1,k,h1,h2 => by
  have hk : k < g.Links.length := by omega
  have hx : g.Links[k]? = some g.Links[k] := List.getElem?_eq_getElem hk
  rw [L_ref03_Right_l1,if_pos (by omega),at_nat,hx,Option.bind_some]
  have hff := find_first (g := g) hx rfl rfl
  have hfs : 0 ≤ find g g.Links[k].a1 g.Links[k].a0 ↔ turn g.Links[k] ∈ g.Links := find_some
  have hF : Fst g k ↔ (good g.N g.Links[k] ∧ ∀ i,i < k → g.Links[i]? ≠ some g.Links[k]) := ⟨fun h => h _ hx,fun h x hx' => by rw [hx] at hx'; injection hx' with hx'; subst hx'; exact h⟩
  generalize hl : g.Links[k] = l at hff hfs hF
  have hcond : (if l.a0 < 0 then some true else if l.a0 ≥ g.N then some true else if l.a1 < 0 then some true else if l.a1 ≥ g.N then some true else if l.a0 = l.a1 then some true else (L_ref03_Find g l.a0 l.a1).bind fun r1264 => if r1264 = (k : Int) then (L_ref03_Find g l.a1 l.a0).bind fun r1267 => some (decide (r1267 < 0)) else some true) = some (decide (¬ (Fst g k ∧ turn l ∈ g.Links))) := by
   rw [ref_find _ _ hs,ref_find _ _ hs,Option.bind_some,Option.bind_some]
   by_cases c1 : l.a0 < 0
   ·
    rw [if_pos c1,decide_eq_true]
    rw [hF]; rintro ⟨⟨⟨_,_,_,_,_⟩,_⟩,_⟩; omega
   ·
    by_cases c2 : l.a0 ≥ g.N
    ·
     rw [if_neg c1,if_pos c2,decide_eq_true]
     rw [hF]; rintro ⟨⟨⟨_,_,_,_,_⟩,_⟩,_⟩; omega
    ·
     by_cases c3 : l.a1 < 0
     ·
      rw [if_neg c1,if_neg c2,if_pos c3,decide_eq_true]
      rw [hF]; rintro ⟨⟨⟨_,_,_,_,_⟩,_⟩,_⟩; omega
     ·
      by_cases c4 : l.a1 ≥ g.N
      ·
       rw [if_neg c1,if_neg c2,if_neg c3,if_pos c4,decide_eq_true]
       rw [hF]; rintro ⟨⟨⟨_,_,_,_,_⟩,_⟩,_⟩; omega
      ·
       by_cases c5 : l.a0 = l.a1
       ·
        rw [if_neg c1,if_neg c2,if_neg c3,if_neg c4,if_pos c5,decide_eq_true]
        rw [hF]; rintro ⟨⟨⟨_,_,_,_,h⟩,_⟩,_⟩; exact h c5
       ·
        have hg : good g.N l := ⟨by omega,by omega,by omega,by omega,c5⟩
        rw [if_neg c1,if_neg c2,if_neg c3,if_neg c4,if_neg c5]
        by_cases c6 : find g l.a0 l.a1 = (k : Int)
        ·
         rw [if_pos c6]
         congr 1
         rw [Bool.eq_iff_iff,decide_eq_true_iff,decide_eq_true_iff,← hfs]
         constructor
         ·
          intro h h'
          omega
         ·
          intro h
          by_cases h7 : find g l.a1 l.a0 < 0
          · exact h7
          · exact absurd ⟨hF.2 ⟨hg,hff.1 c6⟩,by omega⟩ h
        ·
         rw [if_neg c6,decide_eq_true]
         intro h
         exact c6 (hff.2 (hF.1 h.1).2)
  rw [hcond,Option.bind_some]
  by_cases hc : Fst g k ∧ turn l ∈ g.Links
  ·
   rw [if_neg (by simpa using hc),wr_succ (by omega),rright_l1 hs n nf (k + 1) (by omega) (by omega)]
   congr 2
   rw [eq_iff_iff]
   constructor
   ·
    intro h j x hj hxj
    by_cases e : j = k
    ·
     subst e
     rw [hx,hl] at hxj
     injection hxj with hxj
     subst hxj
     exact hc
    · exact h j x (by omega) hxj
   ·
    intro h j x hj hxj
    exact h j x (by omega) hxj
  ·
   rw [if_pos (decide_eq_true hc),if_neg]
   intro h
   exact hc (h k l (Nat.le_refl _) (by rw [hx,hl]))
open Classical in
theorem rright_l3 {o : List Int} (hs : o.length ≤ 1000) : ∀ (n nf k : Nat),k + n = o.length → n < nf → L_ref03_Right_l3 o nf (k : Int) = some (if ∀ x ∈ o.drop k,0 ≤ x then .inl () else .inr false)
 | 0,nf + 1,k,h1,h2 => by
  rw [L_ref03_Right_l3,if_neg (by omega),List.drop_of_length_le (by omega),if_pos (by simp)]
 | n + 1,nf + 1,k,h1,h2 => by
  have hk : k < o.length := by omega
  rw [L_ref03_Right_l3,if_pos (by omega),at_nat,List.getElem?_eq_getElem hk,Option.bind_some,List.drop_eq_getElem_cons hk]
  by_cases ht : o[k] < 0
  ·
   rw [if_pos ht,if_neg]
   intro h
   have := h _ (List.mem_cons_self)
   omega
  ·
   rw [if_neg ht,wr_succ (by omega),rright_l3 hs n nf (k + 1) (by omega) (by omega)]
   simp only [List.mem_cons,forall_eq_or_imp,show 0 ≤ o[k] by omega,true_and]
theorem IsD.nonneg {n s : Nat} {o : List Int} (h : IsD (EG g) n s o) : (∀ x ∈ o,0 ≤ x) ↔ (-1 : Int) ∉ o := by
 constructor
 ·
  intro h1 h2
  have := h1 _ h2
  omega
 ·
  intro h1 x hx
  obtain ⟨v,hv,e⟩ := List.getElem_of_mem hx
  rcases h.val v (by rw [← h.len]; exact hv) with ⟨h2,_⟩ | ⟨d,h2,_⟩
  ·
   rw [D_get hv,e] at h2
   exact absurd (h2 ▸ hx) h1
  ·
   rw [D_get hv,e] at h2
   omega
open Classical in
theorem rright_l2 (ok : GOk g g.N.toNat) (h1 : 1 ≤ g.N) : ∀ (m nf k : Nat),k + m = g.N.toNat → m < nf → L_ref03_Right_l2 g nf (k : Int) = some (decide (∀ s,k ≤ s → s < g.N.toNat → Conn g s))
 | 0,nf + 1,k,h2,h3 => by
  rw [L_ref03_Right_l2,if_neg (by omega),decide_eq_true]
  intro s h4 h5
  omega
 | m + 1,nf + 1,k,h2,h3 => by
  have hle := ok.le
  obtain ⟨o,_,e1,h4,_⟩ := ref_dist ok (s := k) (by omega)
  have hol := h4.len
  have e2 := rright_l3 (o := o) (by omega) o.length (o.length + 1) 0 (by omega) (by omega)
  rw [show ((0 : Nat) : Int) = 0 from rfl,List.drop_zero] at e2
  rw [L_ref03_Right_l2,if_pos (by omega),e1,Option.bind_some,fuel_eq,e2,Option.bind_some]
  have hcn : (∀ x ∈ o,0 ≤ x) ↔ Conn g k := h4.nonneg.trans (h4.conn rfl)
  by_cases hc : ∀ x ∈ o,0 ≤ x
  ·
   rw [if_pos hc]
   simp only [Option.bind_some]
   rw [wr_succ (by omega),rright_l2 ok h1 m nf (k + 1) (by omega) (by omega)]
   congr 1
   rw [Bool.eq_iff_iff,decide_eq_true_iff,decide_eq_true_iff]
   constructor
   ·
    intro h s h5 h6
    by_cases e : s = k
    · rw [e]; exact hcn.1 hc
    · exact h s (by omega) h6
   ·
    intro h s h5 h6
    exact h s (by omega) h6
  ·
   rw [if_neg hc]
   simp only [Option.bind_some]
   rw [decide_eq_false]
   intro h
   exact hc (hcn.2 (h k (Nat.le_refl _) (by omega)))
open Classical in
theorem ref_right (hs : g.Links.length ≤ 100) : L_ref03_Right g = some (decide (RightP g)) := by
 unfold L_ref03_Right
 have hb : (if g.N < 1 then some true else if g.N > 6 then some true else some (decide ((g.Links.length : Int) > 30))) = some (decide (¬ (1 ≤ g.N ∧ g.N ≤ 6 ∧ g.Links.length ≤ 30))) := by
  by_cases h1 : g.N < 1
  · rw [if_pos h1,decide_eq_true (by omega)]
  ·
   by_cases h2 : g.N > 6
   · rw [if_neg h1,if_pos h2,decide_eq_true (by omega)]
   ·
    rw [if_neg h1,if_neg h2]
    congr 1
    rw [Bool.eq_iff_iff,decide_eq_true_iff,decide_eq_true_iff]
    omega
 rw [hb,Option.bind_some]
 by_cases hc : 1 ≤ g.N ∧ g.N ≤ 6 ∧ g.Links.length ≤ 30
 ·
  have e1 := rright_l1 (g := g) (by omega) g.Links.length (g.Links.length + 1) 0 (by omega) (by omega)
  rw [show ((0 : Nat) : Int) = 0 from rfl] at e1
  rw [if_neg (by simpa using hc),fuel_eq,e1,Option.bind_some]
  by_cases h1 : C1 g ∧ C2 g
  ·
   rw [if_pos (fun j x _ hx => ⟨h1.1 j,h1.2 x (List.mem_of_getElem? hx)⟩)]
   simp only []
   have ok := h1.1.ok hc.1 hc.2.1 hs
   have e2 := rright_l2 ok hc.1 g.N.toNat (g.N.toNat + 1) 0 (by omega) (by omega)
   have e3 : (g.N - 0).toNat + 1 = g.N.toNat + 1 := by omega
   rw [e3]
   rw [show ((0 : Nat) : Int) = 0 from rfl] at e2
   rw [e2]
   congr 1
   rw [Bool.eq_iff_iff,decide_eq_true_iff,decide_eq_true_iff]
   exact ⟨fun h => ⟨hc.1,hc.2.1,hc.2.2,h1.1,h1.2,h 0 (Nat.le_refl _) (by omega)⟩,fun h s _ hs' => h.2.2.2.2.2.all h1.2 hs'⟩
  ·
   rw [if_neg]
   ·
    simp only []
    rw [decide_eq_false fun h => h1 ⟨h.2.2.2.1,h.2.2.2.2.1⟩]
   ·
    intro h
    refine h1 ⟨fun j x hx => (h j x (Nat.zero_le _) hx).1 x hx,fun x hx => ?_⟩
    obtain ⟨i,hi,e⟩ := List.getElem_of_mem hx
    exact (h i x (Nat.zero_le _) (by rw [List.getElem?_eq_getElem hi,e])).2
 · rw [if_pos (decide_eq_true hc),decide_eq_false fun h => hc ⟨h.1,h.2.1,h.2.2.1⟩]
end
end Go.Proofs.Ytabbejabdkkaiaa
