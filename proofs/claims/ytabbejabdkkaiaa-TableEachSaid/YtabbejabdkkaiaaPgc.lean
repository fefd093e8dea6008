/- How far nodes are: the program's search and the document's give the same. No condition. -/
import Derived.Test.YtabbejabdkkaiaaPgb
set_option linter.unusedSimpArgs false
set_option linter.unusedVariables false
namespace Go.Proofs.Ytabbejabdkkaiaa
open Go.RowKit

section
variable {g : TGraph} {n : Nat}
theorem node_eq (a : Int) : L_graph_Graph_node g a = some (decide (0 ≤ a ∧ a < g.N)) := by
 unfold L_graph_Graph_node
 by_cases h : 0 ≤ a
 ·
  rw [if_pos h]
  simp [h]
 ·
  rw [if_neg h]
  simp [h]
theorem repeat_neg : ∀ k : Fin 7,L_slices_Repeat_int_int [-1] (k.val : Int) = some (List.replicate k.val (-1)) := by decide +kernel
theorem D_rep (v : Nat) : D (List.replicate n (-1)) v = -1 := by
 unfold D
 rw [List.getElem?_replicate]
 split <;> rfl
theorem und_rep : und (List.replicate n (-1 : Int)) = n := by
 unfold und
 rw [List.countP_replicate]
 simp
theorem first_BI (ok : GOk g n) {s : Nat} (hs : s < n) : BI g n s ((List.replicate n (-1)).set s 0) [s] := by
 have hl : s < (List.replicate n (-1 : Int)).length := by simpa using hs
 have hu := und_set (x := 0) hl (by rw [D_rep]; decide) (Int.le_refl 0)
 rw [und_rep] at hu
 have hD : ∀ v,D ((List.replicate n (-1)).set s 0) v = if v = s then 0 else -1 := fun v => by rw [D_set hl,D_rep]
 refine ⟨by simp,by rw [hD,if_pos rfl],fun v hv => ?_,fun x hx => ?_,by simp,fun h t e v hv => ?_,fun u hu' h0 hq v e => ?_,fun v hv => ?_,?_⟩
 ·
  rw [hD]
  by_cases e : v = s
  ·
   rw [if_pos e,e]
   exact .inr ⟨0,rfl,.z⟩
  ·
   rw [if_neg e]
   exact .inl rfl
 ·
  simp only [List.mem_singleton] at hx
  rw [hx,hD,if_pos rfl]
  exact ⟨hs,Int.le_refl 0⟩
 ·
  injection e with e _
  rw [← e,hD,hD,if_pos rfl]
  split <;> omega
 ·
  rw [hD] at h0
  split at h0
  ·
   rename_i e2
   exact absurd (by simp [e2]) hq
  · omega
 ·
  rw [hD]
  split <;> omega
 ·
  simp only [List.length_singleton]
  omega
theorem graph_dist (ok : GOk g n) {s : Nat} (hs : s < n) : ∃ o,L_graph_Dist g (s : Int) = some o ∧ IsD (EG g) n s o ∧ ∀ v,v < n → D o v ≤ (n : Int) - 1 := by
 have hle := ok.le
 obtain ⟨o,h1,h2,h3⟩ := outer ok hs (n + 2) _ _ (first_BI ok hs) (by
  have := (first_BI ok hs).few
  omega)
 refine ⟨o,?_,h2,h3⟩
 unfold L_graph_Dist
 have hr : L_slices_Repeat_int_int [-1] (n : Int) = some (List.replicate n (-1)) := repeat_neg ⟨n,by omega⟩
 rw [node_eq,Option.bind_some,if_pos (by rw [ok.N]; simp; omega),ok.N,hr,Option.bind_some,at_nat,List.getElem?_eq_getElem (by simpa using hs),Option.bind_some]
 simp only [Int.toNat_natCast]
 exact h1
structure Ph (g : TGraph) (n s k : Nat) (o : List Int) : Prop where
 len : o.length = n
 snd : ∀ v,v < n → D o v = -1 ∨ ∃ d : Nat,D o v = d ∧ d ≤ k ∧ Wk (EG g) s d v
 cpl : ∀ j v,j ≤ k → Wk (EG g) s j v → 0 ≤ D o v ∧ D o v ≤ j
structure Qh (g : TGraph) (n s k i : Nat) (b o : List Int) : Prop where
 len : o.length = n
 snd : ∀ v,v < n → D o v = -1 ∨ ∃ d : Nat,D o v = d ∧ d ≤ k + 1 ∧ Wk (EG g) s d v
 old : ∀ v,v < n → 0 ≤ D b v → D o v = D b v
 neu : ∀ v,v < n → D b v < 0 → D o v = -1 ∨ D o v = k + 1
 don : ∀ (j : Nat) (l : A2I),j < i → g.Links[j]? = some l → D b l.a0.toNat = k → 0 ≤ D o l.a1.toNat
theorem phase (ok : GOk g n) {s k : Nat} (hk : k ≤ 100) {b : List Int} (hb : Ph g n s k b) : ∀ (m nf i : Nat) (o : List Int),i + m = g.Links.length → m < nf → Qh g n s k i b o → ∃ o',L_ref03_Dist_l3 g (k : Int) nf (i : Int) o = some o' ∧ Qh g n s k g.Links.length b o'
 | 0,nf + 1,i,o,h1,h2,h3 => by
  rw [L_ref03_Dist_l3,if_neg (by omega)]
  have e : i = g.Links.length := by omega
  subst e
  exact ⟨o,rfl,h3⟩
 | m + 1,nf + 1,i,o,h1,h2,h3 => by
  have hi : i < g.Links.length := by omega
  have hfew := ok.few
  have hle := ok.le
  obtain ⟨ha0,ha1,hw0,hw1⟩ := ok.rng _ (List.getElem_mem hi)
  have hal : g.Links[i].a0.toNat < o.length := by rw [h3.len]; omega
  have hwl : g.Links[i].a1.toNat < o.length := by rw [h3.len]; omega
  have hwn : g.Links[i].a1.toNat < n := by omega
  have han : g.Links[i].a0.toNat < n := by omega
  have hcond : ((at? o g.Links[i].a0).bind fun x3717 => if x3717 = (k : Int) then (at? o g.Links[i].a1).bind fun x3720 => some (decide (x3720 < 0)) else some false) = some (decide (D o g.Links[i].a0.toNat = k ∧ D o g.Links[i].a1.toNat < 0)) := by
   rw [at_lt ha0 (by omega),Option.bind_some,at_lt hw0 (by omega),← D_get hal,← D_get hwl]
   by_cases h : D o g.Links[i].a0.toNat = k <;> simp [h]
  rw [L_ref03_Dist_l3,if_pos (by omega),at_nat,List.getElem?_eq_getElem hi,Option.bind_some,hcond,Option.bind_some]
  by_cases hc : D o g.Links[i].a0.toNat = k ∧ D o g.Links[i].a1.toNat < 0
  ·
   rw [if_pos (by simpa using hc),at_lt hw0 (by omega),Option.bind_some,Option.bind_some,wr (n := (k : Int) + 1) (by omega) (by omega),wr_succ (by omega)]
   have hbw : D b g.Links[i].a1.toNat < 0 := by
    rcases Int.lt_or_le (D b g.Links[i].a1.toNat) 0 with h | h
    · exact h
    · have := h3.old _ hwn h; omega
   have hba : D b g.Links[i].a0.toNat = k := by
    rcases Int.lt_or_le (D b g.Links[i].a0.toNat) 0 with h | h
    · rcases h3.neu _ han h with h4 | h4 <;> omega
    · rw [← h3.old _ han h]; exact hc.1
   have hwk : Wk (EG g) s k g.Links[i].a0.toNat := by
    rcases hb.snd _ han with h | ⟨d,h,_,h5⟩
    · omega
    ·
     have : d = k := by omega
     rw [← this]
     exact h5
   refine phase ok hk hb m nf (i + 1) _ (by omega) (by omega) ⟨by rw [List.length_set,h3.len],fun v hv => ?_,fun v hv h => ?_,fun v hv h => ?_,fun j l hj hl hd => ?_⟩
   ·
    rw [D_set hwl]
    by_cases e : v = g.Links[i].a1.toNat
    ·
     rw [if_pos e]
     refine .inr ⟨k + 1,by simp,Nat.le_refl _,?_⟩
     rw [e]
     exact .s hwk ⟨_,List.getElem_mem hi,by omega,by omega⟩
    ·
     rw [if_neg e]
     exact h3.snd v hv
   ·
    rw [D_set hwl,if_neg (fun e => by subst e; omega)]
    exact h3.old v hv h
   ·
    rw [D_set hwl]
    by_cases e : v = g.Links[i].a1.toNat
    ·
     rw [if_pos e]
     exact .inr rfl
    ·
     rw [if_neg e]
     exact h3.neu v hv h
   ·
    rw [D_set hwl]
    by_cases e : l.a1.toNat = g.Links[i].a1.toNat
    · rw [if_pos e]; omega
    ·
     rw [if_neg e]
     by_cases e2 : j = i
     ·
      subst e2
      rw [List.getElem?_eq_getElem hi] at hl
      injection hl with hl
      subst hl
      exact absurd rfl e
     · exact h3.don j l (by omega) hl hd
  ·
   rw [if_neg (by simpa using hc),Option.bind_some,wr_succ (by omega)]
   refine phase ok hk hb m nf (i + 1) _ (by omega) (by omega) ⟨h3.len,h3.snd,h3.old,h3.neu,fun j l hj hl hd => ?_⟩
   by_cases e2 : j = i
   ·
    subst e2
    rw [List.getElem?_eq_getElem hi] at hl
    injection hl with hl
    subst hl
    have : D o g.Links[j].a0.toNat = k := by rw [h3.old _ han (by omega),hd]
    omega
   · exact h3.don j l (by omega) hl hd
theorem Wk.lt (ok : GOk g n) {s k v : Nat} (hs : s < n) (h : Wk (EG g) s k v) : v < n := by
 cases h with
 | z => exact hs
 | s h e => exact (EG.lt ok e).2
theorem Qh.next (ok : GOk g n) {s k : Nat} (hs : s < n) {b o : List Int} (hb : Ph g n s k b) (h : Qh g n s k g.Links.length b o) : Ph g n s (k + 1) o := by
 refine ⟨h.len,h.snd,fun j v hj hw => ?_⟩
 have hv := hw.lt ok hs
 by_cases hjk : j ≤ k
 ·
  have h1 := hb.cpl j v hjk hw
  rw [h.old v hv h1.1]
  exact h1
 ·
  have hj' : j = k + 1 := by omega
  subst hj'
  have hup : ∀ (x : Int),D o v = x → x ≤ ((k + 1 : Nat) : Int) := fun x hx => by
   rcases h.snd v hv with h1 | ⟨d,h1,h2,_⟩ <;> omega
  cases hw with
  | s hw e =>
   rename_i u
   have hu := (EG.lt ok e).1
   have h1 := hb.cpl k u (Nat.le_refl _) hw
   refine ⟨?_,hup _ rfl⟩
   obtain ⟨l,hl,e1,e2⟩ := e
   by_cases hdu : D b u = k
   ·
    obtain ⟨i,hi,hli⟩ := List.getElem_of_mem hl
    have := h.don i l hi (by rw [List.getElem?_eq_getElem hi,hli]) (by rw [show l.a0.toNat = u by omega]; exact hdu)
    rw [show l.a1.toNat = v by omega] at this
    exact this
   ·
    rcases hb.snd u hu with h2 | ⟨d,h2,h3,h4⟩
    · omega
    ·
     have h5 := hb.cpl (d + 1) v (by omega) (.s h4 ⟨l,hl,e1,e2⟩)
     rw [h.old v hv h5.1]
     exact h5.1
theorem phases (ok : GOk g n) {s : Nat} (hs : s < n) : ∀ (m nf k : Nat) (o : List Int),k + m = n → m < nf → Ph g n s k o → ∃ o',L_ref03_Dist_l2 g nf (k : Int) o = some o' ∧ Ph g n s n o'
 | 0,nf + 1,k,o,h1,h2,h3 => by
  rw [L_ref03_Dist_l2,if_neg (by rw [ok.N]; omega)]
  have e : k = n := by omega
  subst e
  exact ⟨o,rfl,h3⟩
 | m + 1,nf + 1,k,o,h1,h2,h3 => by
  have hle := ok.le
  have h0 : Qh g n s k 0 o o := ⟨h3.len,fun v hv => by
   rcases h3.snd v hv with h | ⟨d,g1,g2,g3⟩
   · exact .inl h
   · exact .inr ⟨d,g1,by omega,g3⟩,fun _ _ _ => rfl,fun v hv h => by
   rcases h3.snd v hv with h' | ⟨d,g1,g2,g3⟩
   · exact .inl h'
   · omega,fun j l hj => by omega⟩
  obtain ⟨o',g1,g2⟩ := phase ok (by omega) h3 g.Links.length (g.Links.length + 1) 0 o (by omega) (by omega) h0
  have g1' : L_ref03_Dist_l3 g (k : Int) ((((g.Links.length : Int) - 0).toNat + 1)) 0 o = some o' := by
   rw [fuel_eq]
   exact g1
  rw [L_ref03_Dist_l2,if_pos (by rw [ok.N]; omega),g1',Option.bind_some,Option.bind_some,wr_succ (by omega)]
  exact phases ok hs m nf (k + 1) o' (by omega) (by omega) (g2.next ok hs h3)
theorem negs (ok : GOk g n) : ∀ (m nf k : Nat) (acc : List Int),k + m = n → m < nf → acc.length = k → L_ref03_Dist_l1 g nf (k : Int) acc = some (acc ++ List.replicate m (-1))
 | 0,nf + 1,k,acc,h1,h2,h3 => by
  rw [L_ref03_Dist_l1,if_neg (by rw [ok.N]; omega)]
  simp
 | m + 1,nf + 1,k,acc,h1,h2,h3 => by
  have hle := ok.le
  rw [L_ref03_Dist_l1,if_pos (by rw [ok.N]; omega),if_pos (by omega),wr_succ (by omega),negs ok m nf (k + 1) _ (by omega) (by omega) (by simp [h3]),List.append_assoc,List.singleton_append,List.replicate_succ]
theorem ref_dist (ok : GOk g n) {s : Nat} (hs : s < n) : ∃ o,L_graph_Dist g (s : Int) = some o ∧ L_ref03_Dist g (s : Int) = some o ∧ IsD (EG g) n s o ∧ ∀ v,v < n → D o v ≤ (n : Int) - 1 := by
 obtain ⟨o,h1,h2,h3⟩ := graph_dist ok hs
 have hl : s < (List.replicate n (-1 : Int)).length := by simpa using hs
 have hD : ∀ v,D ((List.replicate n (-1)).set s 0) v = if v = s then 0 else -1 := fun v => by rw [D_set hl,D_rep]
 have hph : Ph g n s 0 ((List.replicate n (-1)).set s 0) := by
  refine ⟨by simp,fun v hv => ?_,fun j v hj hw => ?_⟩
  ·
   rw [hD]
   by_cases e : v = s
   ·
    rw [if_pos e,e]
    exact .inr ⟨0,rfl,Nat.le_refl _,.z⟩
   ·
    rw [if_neg e]
    exact .inl rfl
  ·
   have : j = 0 := by omega
   subst this
   cases hw
   rw [hD,if_pos rfl]
   exact ⟨Int.le_refl _,Int.le_refl _⟩
 obtain ⟨p,g1,g2⟩ := phases ok hs n (n + 1) 0 _ (by omega) (by omega) hph
 have hp : IsD (EG g) n s p := by
  refine ⟨g2.len,fun v hv => ?_⟩
  rcases h2.val v hv with ⟨_,h5⟩ | ⟨d,h4,h5,h6⟩
  ·
   refine .inl ⟨?_,h5⟩
   rcases g2.snd v hv with h7 | ⟨d,_,_,h7⟩
   · exact h7
   · exact absurd h7 (h5 d)
  ·
   have h7 := h3 v hv
   have h8 := g2.cpl d v (by omega) h5
   rcases g2.snd v hv with h9 | ⟨d',h9,_,h10⟩
   · omega
   ·
    have := h6 d' h10
    exact .inr ⟨d,by omega,h5,h6⟩
 have hop : p = o := hp.unique h2
 refine ⟨o,h1,?_,h2,h3⟩
 unfold L_ref03_Dist
 have hn : L_ref03_Dist_l1 g ((((n : Int) - 0).toNat + 1)) 0 [] = some (List.replicate n (-1)) := by
  rw [fuel_eq]
  exact negs ok n (n + 1) 0 [] (by omega) (by omega) rfl
 have hg1 : L_ref03_Dist_l2 g ((((n : Int) - 0).toNat + 1)) 0 ((List.replicate n (-1)).set s 0) = some p := by
  rw [fuel_eq]
  exact g1
 rw [bor3,Option.bind_some,if_neg (by rw [ok.N]; simp; omega),ok.N,hn,Option.bind_some,at_nat,List.getElem?_eq_getElem hl,Option.bind_some,Int.toNat_natCast,hg1,hop]
end
end Go.Proofs.Ytabbejabdkkaiaa
