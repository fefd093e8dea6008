/- Walks, and how far nodes are: what a search finds. No condition. -/
import Derived.Test.YtabbejabdkkaiaaPga
set_option linter.unusedSimpArgs false
set_option linter.unusedVariables false
namespace Go.Proofs.Ytabbejabdkkaiaa
open Go.RowKit

inductive Wk (E : Nat → Nat → Prop) (s : Nat) : Nat → Nat → Prop where
 | z : Wk E s 0 s
 | s {k u v : Nat} (h : Wk E s k u) (e : E u v) : Wk E s (k + 1) v
def D (out : List Int) (v : Nat) : Int := (out[v]?).getD (-1)
structure IsD (E : Nat → Nat → Prop) (n s : Nat) (out : List Int) : Prop where
 len : out.length = n
 val : ∀ v,v < n → (D out v = -1 ∧ ∀ k,¬ Wk E s k v) ∨ ∃ d : Nat,D out v = d ∧ Wk E s d v ∧ ∀ k,Wk E s k v → d ≤ k
theorem D_get {out : List Int} {v : Nat} (h : v < out.length) : D out v = out[v] := by
 unfold D
 rw [List.getElem?_eq_getElem h]
 rfl
theorem IsD.unique {E : Nat → Nat → Prop} {n s : Nat} {o p : List Int} (h : IsD E n s o) (h' : IsD E n s p) : o = p := by
 apply List.ext_getElem (by rw [h.len,h'.len])
 intro v hv hv'
 have e : D o v = D p v := by
  rcases h.val v (by rw [← h.len]; exact hv) with ⟨h1,h2⟩ | ⟨d,h1,h2,h3⟩ <;> rcases h'.val v (by rw [← h.len]; exact hv) with ⟨g1,g2⟩ | ⟨d',g1,g2,g3⟩
  · rw [h1,g1]
  · exact absurd g2 (h2 d')
  · exact absurd h2 (g2 d)
  ·
   have := h3 d' g2
   have := g3 d h2
   rw [h1,g1]
   omega
 rw [← D_get hv,← D_get hv',e]
def und (o : List Int) : Nat := o.countP fun x => decide (x < 0)
theorem D_set {o : List Int} {w v : Nat} {x : Int} (hw : w < o.length) : D (o.set w x) v = if v = w then x else D o v := by
 unfold D
 rw [List.getElem?_set]
 by_cases h : w = v
 ·
  subst h
  simp [hw]
 · rw [if_neg h,if_neg fun e => h e.symm]
theorem und_set {o : List Int} {w : Nat} {x : Int} (hw : w < o.length) (h : D o w < 0) (hx : 0 ≤ x) : und (o.set w x) + 1 = und o := by
 unfold und
 rw [List.countP_set hw]
 have h1 : o[w] < 0 := by rw [← D_get hw]; exact h
 have h2 : 0 < o.countP fun x => decide (x < 0) := List.countP_pos_iff.2 ⟨o[w],List.getElem_mem hw,by simpa using h1⟩
 have h3 : ¬ x < 0 := by omega
 simp only [h1,decide_true,if_true,h3,decide_false,Bool.false_eq_true,if_false]
 omega
theorem und_le (o : List Int) : und o ≤ o.length := List.countP_le_length
structure GOk (g : TGraph) (n : Nat) : Prop where
 N : g.N = n
 le : n ≤ 6
 few : g.Links.length ≤ 100
 rng : ∀ l ∈ g.Links,0 ≤ l.a0 ∧ l.a0 < n ∧ 0 ≤ l.a1 ∧ l.a1 < n
def EG (g : TGraph) (u v : Nat) : Prop := ∃ l ∈ g.Links,l.a0 = (u : Int) ∧ l.a1 = (v : Int)
def ints (l : List Nat) : List Int := l.map fun (x : Nat) => (x : Int)
structure II (g : TGraph) (u n : Nat) (out : List Int) (d : Int) (o : List Int) (new : List Nat) : Prop where
 len : o.length = n
 old : ∀ v,v < n → 0 ≤ D out v → D o v = D out v
 neu : ∀ v,v < n → D out v < 0 → (D o v = -1 ∧ v ∉ new) ∨ (D o v = d + 1 ∧ v ∈ new)
 nlt : ∀ x ∈ new,x < n ∧ D out x < 0
 edg : ∀ x ∈ new,EG g u x
 cnt : new.length + und o = und out
 bnd : ∀ v,v < n → D o v + (und o : Int) ≤ (n : Int) - 1
section
variable {g : TGraph} {n : Nat}
theorem inner (ok : GOk g n) {u : Nat} (hu : u < n) {out : List Int} {t : List Nat} (hol : out.length = n) {d : Int} (hd : D out u = d) (hd0 : 0 ≤ d) {r : List Int} (hr : ∀ x ∈ r,∃ l,0 ≤ x ∧ g.Links[x.toNat]? = some l ∧ l.a0 = (u : Int)) (hrl : r.length ≤ 1000) (ht : t.length ≤ 1000) :
  ∀ (m nf k : Nat) (o : List Int) (new : List Nat),k + m = r.length → m < nf → II g u n out d o new →
   ∃ o' new',L_graph_Dist_l2 g r (u : Int) nf (k : Int) o (ints (t ++ new)) = some (o',ints (t ++ new')) ∧ II g u n out d o' new' ∧ (∀ (j : Nat) (x : Int) (l : A2I),k ≤ j → r[j]? = some x → g.Links[x.toNat]? = some l → 0 ≤ D o' l.a1.toNat) ∧ ∀ v,v < n → 0 ≤ D o v → 0 ≤ D o' v
 | 0,nf + 1,k,o,new,h1,h2,h3 => by
  rw [L_graph_Dist_l2,if_neg (by omega)]
  refine ⟨o,new,rfl,h3,fun j x l hj hx => ?_,fun v _ h => h⟩
  have := (List.getElem?_eq_some_iff.1 hx).1
  omega
 | m + 1,nf + 1,k,o,new,h1,h2,h3 => by
  have hk : k < r.length := by omega
  obtain ⟨l,hx0,hl,hla⟩ := hr _ (List.getElem_mem hk)
  have hlm := List.mem_of_getElem? hl
  obtain ⟨_,_,hw0,hw1⟩ := ok.rng l hlm
  have hle := ok.le
  have hwn : l.a1.toNat < n := by omega
  have hwl : l.a1.toNat < o.length := by rw [h3.len]; exact hwn
  have hul : u < o.length := by rw [h3.len]; exact hu
  have hDu : D o u = d := by rw [h3.old u hu (by omega),hd]
  have hb := h3.bnd u hu
  rw [hDu] at hb
  have hcnt := h3.cnt
  have hul2 := und_le out
  have hlen : (ints (t ++ new)).length = t.length + new.length := by simp [ints]
  rw [L_graph_Dist_l2,if_pos (by omega),at_nat,List.getElem?_eq_getElem hk,Option.bind_some,at_i hx0,hl,Option.bind_some,at_lt hw0 (by omega),Option.bind_some,at_nat,List.getElem?_eq_getElem hul]
  rw [← D_get hwl,← D_get hul,hDu]
  by_cases hneg : D o l.a1.toNat < 0
  ·
   have hdn : D out l.a1.toNat < 0 := by
    rcases Int.lt_or_le (D out l.a1.toNat) 0 with h | h
    · exact h
    · rw [h3.old _ hwn h] at hneg; omega
   have hnn : l.a1.toNat ∉ new := by
    rcases h3.neu _ hwn hdn with ⟨_,h⟩ | ⟨h,_⟩
    · exact h
    · omega
   have hus := und_set hwl hneg (show (0 : Int) ≤ d + 1 by omega)
   have hstep : II g u n out d (o.set l.a1.toNat (d + 1)) (new ++ [l.a1.toNat]) := by
    refine ⟨by rw [List.length_set,h3.len],fun v hv h => ?_,fun v hv h => ?_,fun x hx => ?_,fun x hx => ?_,?_,fun v hv => ?_⟩
    ·
     rw [D_set hwl,if_neg (fun e => by subst e; omega)]
     exact h3.old v hv h
    ·
     rw [D_set hwl]
     by_cases e : v = l.a1.toNat
     ·
      rw [if_pos e]
      exact .inr ⟨rfl,by simp [e]⟩
     ·
      rw [if_neg e]
      rcases h3.neu v hv h with ⟨h4,h5⟩ | ⟨h4,h5⟩
      · exact .inl ⟨h4,by simp [h5,e]⟩
      · exact .inr ⟨h4,by simp [h5]⟩
    ·
     rcases List.mem_append.1 hx with hx | hx
     · exact h3.nlt x hx
     ·
      simp only [List.mem_singleton] at hx
      subst hx
      exact ⟨hwn,hdn⟩
    ·
     rcases List.mem_append.1 hx with hx | hx
     · exact h3.edg x hx
     ·
      simp only [List.mem_singleton] at hx
      subst hx
      exact ⟨l,hlm,hla,by omega⟩
    ·
     simp only [List.length_append,List.length_singleton]
     omega
    ·
     rw [D_set hwl]
     split
     · omega
     ·
      have := h3.bnd v hv
      omega
   rw [if_pos hneg,Option.bind_some,if_pos (by omega),Option.bind_some,wr (n := d + 1) (by omega) (by omega),wr_succ (by omega)]
   have e1 : ints (t ++ new) ++ [l.a1] = ints (t ++ (new ++ [l.a1.toNat])) := by
    simp only [ints,List.map_append,List.map_cons,List.map_nil,List.append_assoc]
    rw [show ((l.a1.toNat : Nat) : Int) = l.a1 by omega]
   simp only [e1]
   obtain ⟨o',new',g1,g2,g3,g4⟩ := inner ok hu hol hd hd0 hr hrl ht m nf (k + 1) _ _ (by omega) (by omega) hstep
   refine ⟨o',new',g1,g2,fun j x l' hj hx hl' => ?_,fun v hv h => ?_⟩
   ·
    by_cases e : j = k
    ·
     subst e
     rw [List.getElem?_eq_getElem hk] at hx
     injection hx with hx
     subst hx
     rw [hl] at hl'
     injection hl' with hl'
     subst hl'
     exact g4 _ hwn (by rw [D_set hwl,if_pos rfl]; omega)
    · exact g3 j x l' (by omega) hx hl'
   ·
    refine g4 v hv ?_
    rw [D_set hwl]
    split <;> omega
  ·
   rw [if_neg hneg,Option.bind_some,wr_succ (by omega)]
   obtain ⟨o',new',g1,g2,g3,g4⟩ := inner ok hu hol hd hd0 hr hrl ht m nf (k + 1) o new (by omega) (by omega) h3
   refine ⟨o',new',g1,g2,fun j x l' hj hx hl' => ?_,g4⟩
   by_cases e : j = k
   ·
    subst e
    rw [List.getElem?_eq_getElem hk] at hx
    injection hx with hx
    subst hx
    rw [hl] at hl'
    injection hl' with hl'
    subst hl'
    exact g4 _ hwn (by omega)
   · exact g3 j x l' (by omega) hx hl'
structure BI (g : TGraph) (n s : Nat) (out : List Int) (q : List Nat) : Prop where
 len : out.length = n
 s0 : D out s = 0
 snd : ∀ v,v < n → D out v = -1 ∨ ∃ d : Nat,D out v = d ∧ Wk (EG g) s d v
 qlt : ∀ x ∈ q,x < n ∧ 0 ≤ D out x
 srt : q.Pairwise fun x y => D out x ≤ D out y
 top : ∀ h t,q = h :: t → ∀ v,v < n → D out v ≤ D out h + 1
 cls : ∀ u,u < n → 0 ≤ D out u → u ∉ q → ∀ v,EG g u v → 0 ≤ D out v ∧ D out v ≤ D out u + 1
 bnd : ∀ v,v < n → D out v + (und out : Int) ≤ (n : Int) - 1
 few : q.length + und out ≤ n
theorem EG.lt (ok : GOk g n) {u v : Nat} (h : EG g u v) : u < n ∧ v < n := by
 obtain ⟨l,hl,e1,e2⟩ := h
 obtain ⟨_,_,_,_⟩ := ok.rng l hl
 omega
theorem outer (ok : GOk g n) {s : Nat} (hs : s < n) : ∀ (nf : Nat) (out : List Int) (q : List Nat),BI g n s out q → q.length + und out < nf → ∃ o,L_graph_Dist_l1 g nf out (ints q) = some o ∧ IsD (EG g) n s o ∧ ∀ v,v < n → D o v ≤ (n : Int) - 1
 | 0,_,_,_,h => by omega
 | nf + 1,out,[],hb,h => by
  rw [L_graph_Dist_l1,if_pos (by simp [ints])]
  refine ⟨out,rfl,⟨hb.len,fun v hv => ?_⟩,fun v hv => by have := hb.bnd v hv; omega⟩
  have far : ∀ k v,Wk (EG g) s k v → 0 ≤ D out v ∧ D out v ≤ k := by
   intro k v hw
   induction hw with
   | z => rw [hb.s0]; omega
   | s h1 e ih =>
    obtain ⟨hu,hv⟩ := EG.lt ok e
    have := hb.cls _ hu ih.1 (by simp) _ e
    omega
  rcases hb.snd v hv with h1 | ⟨d,h1,h2⟩
  · exact .inl ⟨h1,fun k hw => by have := far k v hw; omega⟩
  · exact .inr ⟨d,h1,h2,fun k hw => by have := far k v hw; omega⟩
 | nf + 1,out,u :: t,hb,h => by
  have hle := ok.le
  have hfew := ok.few
  obtain ⟨hu,hd0⟩ := hb.qlt u (by simp)
  have hcnt := hb.few
  simp only [List.length_cons] at hcnt h
  have h0 : II g u n out (D out u) out [] := ⟨hb.len,fun _ _ _ => rfl,fun v hv hn => by
   rcases hb.snd v hv with h1 | ⟨d,h1,_⟩
   · exact .inl ⟨h1,by simp⟩
   · omega,by simp,by simp,by simp,hb.bnd⟩
  have hol := idxs_len (fun x => decide (x.a0 = (u : Int))) 0 g.Links
  obtain ⟨o',new,g1,g2,g3,g4⟩ := inner ok hu hb.len rfl hd0 (r := outs_ g u) (t := t) (fun x hx => by
   obtain ⟨j,e1,y,e2,e3⟩ := (idxs_mem _ _ _ _).1 hx
   refine ⟨y,by omega,?_,by simpa using e3⟩
   rw [e1,Nat.zero_add,Int.toNat_natCast]
   exact e2) (by unfold outs_; omega) (by omega) (outs_ g u).length ((outs_ g u).length + 1) 0 out [] (by simp) (by omega) h0
  rw [List.append_nil] at g1
  have hat : at? (ints (u :: t)) 0 = some (u : Int) := rfl
  have hdr : (ints (u :: t)).drop 1 = ints t := rfl
  have hg1 : L_graph_Dist_l2 g (outs_ g u) (u : Int) ((((outs_ g u).length : Int) - 0).toNat + 1) 0 out (ints t) = some (o',ints (t ++ new)) := by
   rw [fuel_eq]
   exact g1
  rw [L_graph_Dist_l1,if_neg (by simp [ints]; omega),hat,Option.bind_some,if_pos (by simp [ints]; omega),graph_out _ (by omega),Option.bind_some,hdr,hg1,Option.bind_some]
  simp only []
  have hund := g2.cnt
  have hsrt := List.pairwise_cons.1 hb.srt
  have htop := hb.top u t rfl
  have hDt : ∀ x ∈ t,D o' x = D out x := fun x hx => g2.old x (hb.qlt x (by simp [hx])).1 (hb.qlt x (by simp [hx])).2
  have hDn : ∀ x ∈ new,D o' x = D out u + 1 := fun x hx => by
   obtain ⟨h1,h2⟩ := g2.nlt x hx
   rcases g2.neu x h1 h2 with ⟨_,h3⟩ | ⟨h3,_⟩
   · exact absurd hx h3
   · exact h3
  have hle1 : ∀ v,v < n → D o' v ≤ D out u + 1 := fun v hv => by
   rcases Int.lt_or_le (D out v) 0 with h1 | h1
   · rcases g2.neu v hv h1 with ⟨h2,_⟩ | ⟨h2,_⟩ <;> omega
   ·
    rw [g2.old v hv h1]
    exact htop v hv
  have hlow : ∀ x ∈ t ++ new,D out u ≤ D o' x := fun x hx => by
   rcases List.mem_append.1 hx with hx | hx
   ·
    rw [hDt x hx]
    exact hsrt.1 x hx
   ·
    rw [hDn x hx]
    omega
  have hDu : D o' u = D out u := g2.old u hu hd0
  refine outer ok hs nf o' (t ++ new) ⟨g2.len,?_,fun v hv => ?_,fun x hx => ?_,?_,fun h' t' e v hv => ?_,fun w hw hw0 hwq v e => ?_,g2.bnd,?_⟩ ?_
  · rw [g2.old s hs (by rw [hb.s0]; omega),hb.s0]
  ·
   rcases Int.lt_or_le (D out v) 0 with h1 | h1
   ·
    rcases g2.neu v hv h1 with ⟨h2,_⟩ | ⟨h2,h3⟩
    · exact .inl h2
    ·
     right
     rcases hb.snd u hu with h4 | ⟨d,h4,h5⟩
     · omega
     · exact ⟨d + 1,by rw [h2,h4]; simp,.s h5 (g2.edg v h3)⟩
   ·
    rw [g2.old v hv h1]
    exact hb.snd v hv
  ·
   rcases List.mem_append.1 hx with hx | hx
   ·
    rw [hDt x hx]
    exact hb.qlt x (by simp [hx])
   ·
    rw [hDn x hx]
    exact ⟨(g2.nlt x hx).1,by omega⟩
  ·
   refine List.pairwise_append.2 ⟨hsrt.2.imp_of_mem fun hx hy hxy => by rw [hDt _ hx,hDt _ hy]; exact hxy,List.pairwise_of_forall_mem_list fun x hx y hy => by rw [hDn x hx,hDn y hy]; exact Int.le_refl _,fun x hx y hy => ?_⟩
   rw [hDn y hy]
   exact hle1 x (hb.qlt x (by simp [hx])).1
  ·
   have := hlow h' (by rw [e]; simp)
   have := hle1 v hv
   omega
  ·
   by_cases hwu : w = u
   ·
    subst hwu
    obtain ⟨l,hl,e1,e2⟩ := e
    obtain ⟨i,hi,hli⟩ := List.getElem_of_mem hl
    have hmem : (i : Int) ∈ outs_ g w := (idxs_mem _ _ _ _).2 ⟨i,by simp,l,by rw [List.getElem?_eq_getElem hi,hli],by simpa using e1⟩
    obtain ⟨j,hj,hji⟩ := List.getElem_of_mem hmem
    have := g3 j (i : Int) l (by omega) (by rw [List.getElem?_eq_getElem hj,hji]) (by rw [Int.toNat_natCast,List.getElem?_eq_getElem hi,hli])
    have hv : v < n := by
     obtain ⟨_,_,_,_⟩ := ok.rng l hl
     omega
    have e3 : l.a1.toNat = v := by omega
    rw [e3] at this
    have h5 := hle1 v hv
    rw [hDu]
    exact ⟨this,h5⟩
   ·
    have hwout : 0 ≤ D out w := by
     rcases Int.lt_or_le (D out w) 0 with h1 | h1
     ·
      rcases g2.neu w hw h1 with ⟨h2,_⟩ | ⟨h2,h3⟩
      · omega
      · exact absurd (List.mem_append.2 (.inr h3)) hwq
     · exact h1
    have hwq' : w ∉ u :: t := by
     intro hm
     rcases List.mem_cons.1 hm with hm | hm
     · exact hwu hm
     · exact hwq (List.mem_append.2 (.inl hm))
    obtain ⟨h3,h4⟩ := hb.cls w hw hwout hwq' v e
    obtain ⟨_,hv⟩ := EG.lt ok e
    rw [g2.old w hw hwout,g2.old v hv h3]
    exact ⟨h3,h4⟩
  ·
   simp only [List.length_append]
   omega
  ·
   simp only [List.length_append]
   omega
end
end Go.Proofs.Ytabbejabdkkaiaa
