/- Edges in plain words: who waits for whom, with nothing under way. No condition. -/
import Derived.Test.YtabbejabdkkaiaaGreatPca
import Derived.Test.YtabbejabdkkaiaaGreatPkm
import Derived.Test.YtabbejabdkkaiaaGreatPgf
set_option linter.unusedSimpArgs false
set_option linter.unusedVariables false
namespace Go.Proofs.YtabbejabdkkaiaaGreat
open Go.RowKit

theorem ref_at (l : List TNode) (n s : Int) : L_ref04_At l n s = some (stOf l n s) := by
 unfold L_ref04_At stOf stA
 by_cases c1 : n < 0
 ·
  rw [if_pos c1,Option.bind_some,if_pos rfl,if_neg (by omega)]
  rfl
 ·
  rw [if_neg c1]
  by_cases c2 : n ≥ (l.length : Int)
  ·
   rw [if_pos c2,Option.bind_some,if_pos rfl,List.getElem?_eq_none (by omega)]
   split <;> rfl
  ·
   rw [if_neg c2]
   have hn : n.toNat < l.length := by omega
   by_cases c3 : s < 0
   ·
    rw [if_pos c3,Option.bind_some,if_pos rfl,if_neg (by omega)]
    rfl
   ·
    rw [if_neg c3,at_lt (by omega) (by omega),Option.bind_some,Option.bind_some,if_pos (show 0 ≤ n ∧ 0 ≤ s from ⟨by omega,by omega⟩),List.getElem?_eq_getElem hn]
    dsimp only [Option.bind_some]
    by_cases c4 : s ≥ (l[n.toNat].States.length : Int)
    ·
     rw [if_pos (dT c4),List.getElem?_eq_none (by omega)]
     rfl
    ·
     rw [if_neg (by rw [dF c4]; decide),at_lt (by omega) (by omega),Option.bind_some,List.getElem?_eq_getElem (by omega)]
     rfl
def waitsAt (a : TApp) (c : TConf) (n : Nat) : List Int := (stOf a.T n ((c.States[n]?).getD 0)).Waits
def isE : Option (List TMsg) → Bool
 | some [] => true
 | _ => false
def freeB (g : TGraph) (c : TConf) (n w : Int) : Bool := decide (0 ≤ find g w n) && isE (c.Links[(find g w n).toNat]?)
def edgeB (a : TApp) (c : TConf) (n w : Int) : Bool := decide (0 ≤ n ∧ n < (c.States.length : Int) ∧ w ∈ waitsAt a c n.toNat) && freeB a.G c n w
def edgesOf (a : TApp) (c : TConf) : List A2I := (List.range c.States.length).flatMap fun n => ((waitsAt a c n).filter (freeB a.G c n)).map (A2I.mk n)
def EP (a : TApp) (c : TConf) (n w : Nat) : Prop := edgeB a c n w = true
theorem RightP.link {g : TGraph} (h : RightP g) {x : A2I} (hx : x ∈ g.Links) : good g.N x := (C1_iff.1 h.2.2.2.1).1 x hx
theorem find_lt {g : TGraph} {a b : Int} (h : 0 ≤ find g a b) : ∃ j : Nat,find g a b = j ∧ j < g.Links.length ∧ g.Links[j]? = some (A2I.mk a b) := by
 obtain ⟨j,h1,h2⟩ := find_at (find_some.1 h)
 exact ⟨j,h1,(List.getElem?_eq_some_iff.1 h2).1,h2⟩
theorem free_eq {g : TGraph} {c : TConf} (hl : c.Links.length = g.Links.length) (n w : Int) : (if find g w n ≥ 0 then (at? c.Links (find g w n)).bind fun x => some (decide ((x.length : Int) = 0)) else some false) = some (freeB g c n w) := by
 unfold freeB
 by_cases h : 0 ≤ find g w n
 ·
  obtain ⟨j,h1,h2,_⟩ := find_lt h
  have hj : j < c.Links.length := by omega
  have e0 : decide (0 ≤ (j : Int)) = true := dT (by omega)
  rw [if_pos h,h1,at_get hj,Option.bind_some,Int.toNat_natCast,List.getElem?_eq_getElem hj,e0,Bool.true_and]
  cases c.Links[j] with
  | nil => rfl
  | cons m r =>
   have e1 : decide (((m :: r).length : Int) = 0) = false := dF (by rw [List.length_cons]; omega)
   rw [e1]
   rfl
 ·
  rw [if_neg h,dF h]
  rfl
theorem rises {l : List Int} (h : ∀ i w,l[i]? = some w → ∀ v,0 < i → l[i - 1]? = some v → v < w) : l.Pairwise (· < ·) := by
 rw [List.pairwise_iff_getElem]
 intro i j hi hj hij
 induction j with
 | zero => omega
 | succ j ih =>
  have h1 := h (j + 1) l[j + 1] (List.getElem?_eq_getElem hj) l[j] (by omega) (List.getElem?_eq_getElem (by omega))
  by_cases e : i = j
  · subst e; exact h1
  ·
   have := ih (by omega) (by omega)
   omega
structure WaitsOk (a : TApp) (c : TConf) (n : Nat) : Prop where
 fnd : ∀ w ∈ waitsAt a c n,0 ≤ find a.G w n
 rng : ∀ w ∈ waitsAt a c n,0 ≤ w ∧ w < (c.States.length : Int)
 ris : (waitsAt a c n).Pairwise (· < ·)
 mode : waitsAt a c n ≠ [] → (stOf a.T n ((c.States[n]?).getD 0)).Mode = 2
 few : (waitsAt a c n).length ≤ 100
section
variable {a : TApp} {c : TConf}
theorem CRightP.waits (h : CRightP a c) (ha : SzA a) {n : Nat} (hn : n < c.States.length) : WaitsOk a c n := by
 have hT : n < a.T.length := by have := h.nst; have := h.tab.2.1; omega
 obtain ⟨h0,h1⟩ := h.sts n _ (List.getElem?_eq_getElem hn)
 have h2 := h1 _ (List.getElem?_eq_getElem hT)
 have hs : c.States[n].toNat < a.T[n].States.length := by omega
 have e : stOf a.T n ((c.States[n]?).getD 0) = a.T[n].States[c.States[n].toNat] := by
  rw [List.getElem?_eq_getElem hn,Option.getD_some]
  have := stOf_at (l := a.T) (n := n) (s := c.States[n].toNat) (List.getElem?_eq_getElem hT) hs
  rwa [Int.toNat_of_nonneg h0] at this
 have hst := (h.tab.2.2 n _ (List.getElem?_eq_getElem hT)).2.2.2.2 _ (List.getElem_mem hs)
 have hz := ((ha.t).2 _ (List.getElem_mem hT)).2 _ (List.getElem_mem hs)
 have hW : waitsAt a c n = (a.T[n].States[c.States[n].toNat]).Waits := by unfold waitsAt; rw [e]
 generalize a.T[n].States[c.States[n].toNat] = st at e hst hz hW
 have hmode : st.Waits ≠ [] → st.Mode = 2 := fun q => by
  by_cases m : st.Mode = 2
  · exact m
  · exact absurd (hst.2.2.1.2 m) q
 have hall : ∀ i w,st.Waits[i]? = some w → WaitP a.G n st i w := fun i w hi => (hst.2.2.1.1 (hmode fun q => by rw [q] at hi; simp at hi)).2 i w hi
 have hf : ∀ w ∈ waitsAt a c n,0 ≤ find a.G w n := fun w hw => by
  rw [hW] at hw
  obtain ⟨i,hi,ei⟩ := List.getElem_of_mem hw
  exact (hall i w (by rw [List.getElem?_eq_getElem hi,ei])).1
 refine ⟨hf,fun w hw => ?_,?_,fun q => by rw [e]; exact hmode (by rwa [hW] at q),by rw [hW]; exact hz.1⟩
 ·
  have := h.tab.1.link (find_some.1 (hf w hw))
  have hN := h.nst
  exact ⟨this.1,by rw [hN]; exact this.2.1⟩
 ·
  rw [hW]
  exact rises fun i w hi => (hall i w hi).2
theorem edge_nat {n : Nat} (hn : n < c.States.length) (w : Int) : edgeB a c n w = (decide (w ∈ waitsAt a c n) && freeB a.G c n w) := by
 unfold edgeB
 rw [Int.toNat_natCast]
 congr 1
 exact ddec ⟨fun q => q.2.2,fun q => ⟨by omega,by omega,q⟩⟩
theorem CRightP.edge (h : CRightP a c) (ha : SzA a) {x y : Int} (he : edgeB a c x y = true) : ∃ n w : Nat,x = n ∧ y = w ∧ n < c.States.length ∧ w < c.States.length ∧ y ∈ waitsAt a c n ∧ freeB a.G c n y = true := by
 unfold edgeB at he
 rw [Bool.and_eq_true,decide_eq_true_iff] at he
 obtain ⟨⟨h1,h2,h3⟩,h4⟩ := he
 have e : ((x.toNat : Nat) : Int) = x := by omega
 have hw := (h.waits ha (n := x.toNat) (by omega)).rng y h3
 exact ⟨x.toNat,y.toNat,by omega,by omega,by omega,by omega,h3,by rw [e]; exact h4⟩
theorem EP.lt (h : CRightP a c) (ha : SzA a) : ∀ i j,EP a c i j → i < c.States.length ∧ j < c.States.length := fun i j he => by
 obtain ⟨n,w,h1,h2,h3,h4,_⟩ := h.edge ha he
 omega
theorem CRightP.n6 (h : CRightP a c) : 1 ≤ c.States.length ∧ c.States.length ≤ 6 := by
 have := h.nst
 have := h.tab.1.1
 have := h.tab.1.2.1
 omega
theorem ref_edge (h : CRightP a c) (ha : SzA a) (x y : Int) : L_ref15_Edge a c x y = some (edgeB a c x y) := by
 have hg := ha.g
 unfold L_ref15_Edge edgeB
 by_cases c1 : x < 0
 ·
  rw [if_pos c1,Option.bind_some,if_pos rfl,dF (by omega)]
  rfl
 ·
  rw [if_neg c1]
  by_cases c2 : x ≥ (c.States.length : Int)
  ·
   rw [if_pos c2,Option.bind_some,if_pos rfl,dF (by omega)]
   rfl
  ·
   have hx : x.toNat < c.States.length := by omega
   have e : (stOf a.T x c.States[x.toNat]).Waits = waitsAt a c x.toNat := by
    unfold waitsAt
    rw [List.getElem?_eq_getElem hx,Int.toNat_of_nonneg (by omega)]
    rfl
   have hf := (h.waits ha hx).few
   rw [if_neg c2,at_lt (by omega) (by omega),Option.bind_some,ref_at,Option.bind_some,e,ref_in_list _ (by omega),Option.bind_some,Option.bind_some]
   by_cases c3 : y ∈ waitsAt a c x.toNat
   ·
    rw [dT c3,if_neg (by decide),ref_find _ _ (by omega),Option.bind_some,free_eq h.nli,Option.bind_some,dT ⟨by omega,by omega,c3⟩]
    rfl
   ·
    rw [dF c3,if_pos (by decide),dF fun q => c3 q.2.2]
    rfl
theorem ref_edges_l2 (h : CRightP a c) (ha : SzA a) {n : Nat} (hn : n < c.States.length) (acc : List A2I) (hacc : acc.length ≤ 100000) : L_ref15_Edges_l2 a c n ((a.G.N - 0).toNat + 1) 0 acc = some (acc ++ ((waitsAt a c n).filter (freeB a.G c n)).map (A2I.mk n)) := by
 have h6 := h.n6
 have hN := h.nst
 have q := loopMapO (F := fun nf k s => L_ref15_Edges_l2 a c n nf k s) (l := List.range c.States.length) (fun w => if edgeB a c n ((w : Nat) : Int) = true then [A2I.mk n ((w : Nat) : Int)] else []) id 100000 1 (fun x _ => by split <;> simp)
  (fun nf s hs => by rw [List.length_range,L_ref15_Edges_l2,if_neg (by omega)]; rfl)
  (fun nf k s hk hs => by
   rw [List.length_range] at hk
   rw [L_ref15_Edges_l2,if_pos (by omega),ref_edge h ha,Option.bind_some,wr_succ (by omega),List.getElem_range]
   by_cases e : edgeB a c n (k : Int) = true
   · rw [if_pos e,if_pos (by omega),Option.bind_some,if_pos e]
   · rw [if_neg e,Option.bind_some,if_neg e,List.append_nil])
  (List.range c.States.length).length ((a.G.N - 0).toNat + 1) 0 acc (by simp) (by rw [List.length_range]; omega) (by omega)
 have hw := h.waits ha hn
 have r := rising_filter (N := c.States.length) (freeB a.G c n) (waitsAt a c n) 0 hw.ris (fun x hx => ⟨by have := hw.rng x hx; omega,(hw.rng x hx).2⟩)
 rw [List.drop_zero,flatMap_if (fun w => edgeB a c n ((w : Nat) : Int)) (fun w => A2I.mk n ((w : Nat) : Int))] at q
 refine Eq.trans q ?_
 have e3 : (List.range c.States.length).filter (fun w => edgeB a c n ((w : Nat) : Int)) = (List.range c.States.length).filter ((fun x => decide (x ∈ waitsAt a c n) && freeB a.G c n x) ∘ fun n => ((n : Nat) : Int)) := List.filter_congr fun x hx => edge_nat hn _
 rw [r,Nat.sub_zero,← List.range_eq_range',List.filter_map,List.map_map,← e3]
 rfl
theorem ref_edges (h : CRightP a c) (ha : SzA a) : L_ref15_Edges a c = some (edgesOf a c) := by
 have h6 := h.n6
 have hN := h.nst
 have q := loopMapO (F := fun nf k s => L_ref15_Edges_l1 a c nf k s) (l := List.range c.States.length) (fun n => ((waitsAt a c n).filter (freeB a.G c n)).map (A2I.mk n)) id 0 100 (fun n hn => by
   rw [List.length_map]
   exact Nat.le_trans (List.length_filter_le _ _) (h.waits ha (List.mem_range.1 hn)).few)
  (fun nf s hs => by rw [List.length_range,L_ref15_Edges_l1,if_neg (by omega)]; rfl)
  (fun nf k s hk hs => by
   rw [List.length_range] at hk
   rw [L_ref15_Edges_l1,if_pos (by omega),ref_edges_l2 h ha hk s (by omega),Option.bind_some,Option.bind_some,wr_succ (by omega),List.getElem_range])
  (List.range c.States.length).length ((a.G.N - 0).toNat + 1) 0 [] (by simp) (by rw [List.length_range]; omega) (by simp)
 unfold L_ref15_Edges
 exact q
end
end Go.Proofs.YtabbejabdkkaiaaGreat
