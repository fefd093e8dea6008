/- The law CalmDrains, in plain words: true at every input. No condition. -/
import Derived.Test.YtifcbecpemaieaaPqa
import Derived.Test.YtifcbecpemaieaaPpi
import Derived.Test.YtifcbecpemaieaaGdCalmDrains
set_option linter.unusedSimpArgs false
set_option linter.unusedVariables false
namespace Go.Proofs.Ytifcbecpemaieaa
open Go.RowKit

def firstOf (j : Nat) : List TMsg → List TStep
 | m :: _ => [⟨1,0,0,(j : Nat),m.Seq⟩]
 | [] => []
def firstsOf (c : TConf) : List TStep := (List.range c.Links.length).flatMap fun j => firstOf j ((c.Links[j]?).getD [])
theorem firstOf_len (j : Nat) (l : List TMsg) : (firstOf j l).length ≤ 1 := by cases l <;> simp [firstOf]
theorem calmDrains_l2 {c : TConf} (hc : SzC c) : L_law14_CalmDrains_l2 c (((c.Links.length : Int) - 0).toNat + 1) 0 [] = some (firstsOf c) := by
 have hli := hc.li
 have q := loopMapO (F := fun nf k s => L_law14_CalmDrains_l2 c nf k s) (l := List.range c.Links.length) (fun j => firstOf j ((c.Links[j]?).getD [])) id 0 1 (fun j hj => firstOf_len _ _)
  (fun nf s hs => by rw [List.length_range,L_law14_CalmDrains_l2,if_neg (by omega)]; rfl)
  (fun nf k s hk hs => by
   rw [List.length_range] at hk
   rw [L_law14_CalmDrains_l2,if_pos (by omega),at_get hk,Option.bind_some,wr_succ (by omega),List.getElem_range,List.getElem?_eq_getElem hk,Option.getD_some]
   cases e : c.Links[k] with
   | nil => rw [if_neg (by simp),Option.bind_some,firstOf,List.append_nil]
   | cons m r =>
    rw [if_pos (by rw [List.length_cons]; omega),at_zero,List.getElem?_cons_zero,Option.bind_some,if_pos (by omega),Option.bind_some]
    rfl)
  (List.range c.Links.length).length (((c.Links.length : Int) - 0).toNat + 1) 0 [] (by simp) (by rw [List.length_range]; omega) (by simp)
 exact q
theorem firsts_ok {a : TApp} {c : TConf} (h : CRightP a c) {s : TStep} (hs : s ∈ firstsOf c) : (applyP a c s).2 = 0 ∧ s.Kind = 1 := by
 obtain ⟨j,hj,hm⟩ := List.mem_flatMap.1 hs
 have hj := List.mem_range.1 hj
 have el := List.getElem?_eq_getElem hj
 rw [el,Option.getD_some] at hm
 cases e : c.Links[j] with
 | nil => rw [e] at hm; simp [firstOf] at hm
 | cons m r =>
  rw [e] at hm el
  simp only [firstOf,List.mem_singleton] at hm
  subst hm
  exact ⟨(del_ok h (i := 0) (m := m) el rfl).2 fun q => by omega,rfl⟩
theorem lnS_nil : ∀ {l : List (List TMsg)},(∀ x ∈ l,x = []) → lnS l = 0
 | [],_ => rfl
 | x :: l,h => by
  have ih := lnS_nil fun y hy => h y (List.mem_cons_of_mem x hy)
  have h0 := h x (by simp)
  unfold lnS at ih ⊢
  rw [List.map_cons,List.sum_cons,ih,h0]
  rfl
theorem firsts_some {c : TConf} (q : lnS c.Links ≠ 0) : 0 < (firstsOf c).length := by
 refine Classical.byContradiction fun hno => q (lnS_nil fun x hx => ?_)
 obtain ⟨j,hj,e⟩ := List.getElem_of_mem hx
 cases x with
 | nil => rfl
 | cons m r =>
  have hm : (⟨1,0,0,(j : Nat),m.Seq⟩ : TStep) ∈ firstsOf c := List.mem_flatMap.2 ⟨j,List.mem_range.2 hj,by rw [List.getElem?_eq_getElem hj,Option.getD_some,e]; simp [firstOf]⟩
  exact absurd (List.length_pos_of_mem hm) hno
theorem firsts_few {c : TConf} (hc : SzC c) : (firstsOf c).length ≤ 100 := by
 have hli := hc.li
 have key : ∀ k,((List.range k).flatMap fun j => firstOf j ((c.Links[j]?).getD [])).length ≤ k := by
  intro k
  induction k with
  | zero => simp
  | succ k ih =>
   have := firstOf_len k ((c.Links[k]?).getD [])
   rw [List.range_succ,List.flatMap_append,List.length_append]
   simp only [List.flatMap_cons,List.flatMap_nil,List.append_nil]
   omega
 have := key c.Links.length
 unfold firstsOf
 omega
theorem u16 {n : Int} (h : wI .u16 n) : 0 ≤ n ∧ n ≤ 65535 := by
 have e1 : IntKind.min .u16 = 0 := by decide
 have e2 : IntKind.max .u16 = 65535 := by decide
 unfold wI at h
 omega
theorem pick_at {l : List Int} (hw : ∀ x ∈ l,wI .u16 x) {n k : Nat} (hn : 0 < n) : ∃ i : Nat,i < n ∧ (if (k : Int) < (l.length : Int) then (at? l (k : Int)).bind fun x => if ¬ (n : Int) = 0 then some ((IntKind.wrap .i64 x).tmod (n : Int)) else none else some 0) = some (i : Int) := by
 by_cases hk : k < l.length
 ·
  have hx := u16 (hw _ (List.getElem_mem hk))
  have h1 := Int.tmod_nonneg (n : Int) hx.1
  have h2 := Int.tmod_lt_of_pos l[k] (show (0 : Int) < n by omega)
  refine ⟨(l[k].tmod n).toNat,by omega,?_⟩
  rw [if_pos (by omega),at_get hk,Option.bind_some,if_pos (by omega),wr (by omega) (by omega)]
  congr 1
  omega
 · exact ⟨0,hn,by rw [if_neg (by omega)]; rfl⟩
theorem calmDrains_l1 {a : TApp} (ha : SzA a) {l : List Int} (hw : ∀ x ∈ l,wI .u16 x) {c : TConf} (h : CRightP a c) : ∃ d,L_law14_CalmDrains_l1 l a (lnS c.Links) ((lnS c.Links - 0).toNat + 1) 0 c = some d ∧ CRightP a d ∧ lnS d.Links = max 0 (lnS c.Links - 60) := by
 have hb := lnS_b (h.sz ha)
 obtain ⟨N,hN⟩ : ∃ N : Nat,lnS c.Links = N := ⟨(lnS c.Links).toNat,by omega⟩
 rw [hN] at hb ⊢
 exact loopE (F := fun nf k (s : TConf) => L_law14_CalmDrains_l1 l a (N : Int) nf k s) (len := min N 60) (fun k s => CRightP a s ∧ lnS s.Links = (N : Int) - k) (fun d => CRightP a d ∧ lnS d.Links = max 0 ((N : Int) - 60))
  (fun nf s ⟨hs,hl⟩ => ⟨s,by rw [L_law14_CalmDrains_l1,baf,if_neg (by rw [decide_eq_true_iff]; omega)],hs,by omega⟩)
  (fun nf k s hk ⟨hs,hl⟩ ih => by
   have hz := hs.sz ha
   have h0 : lnS s.Links ≠ 0 := by omega
   have hp := firsts_some h0
   have hf := firsts_few hz
   obtain ⟨i,hi,ei⟩ := pick_at hw (k := k) hp
   obtain ⟨ok,k1⟩ := firsts_ok hs (List.getElem_mem hi)
   have hd := apply_right hs ha ok
   have hs1 : lnS (applyP a s (firstsOf s)[i]).1.Links = lnS s.Links - 1 := ((step_sums hs ha ok).1 k1).1
   have n1 := hs.nli
   have n2 := hd.nli
   rw [L_law14_CalmDrains_l1,baf,if_pos (by rw [decide_eq_true_iff]; omega),calmDrains_l2 hz,Option.bind_some,if_neg (by omega),ei,Option.bind_some,at_get hi,Option.bind_some,plain_apply hs ha,Option.bind_some,if_pos ok,calm_way (hd.sz ha),Option.bind_some,wr (n := (N : Int) - k) (by omega) (by omega),wr (n := (N : Int) - k - 1) (by omega) (by omega),if_pos (by omega),if_pos (by omega),Option.bind_some,wr_succ (by omega)]
   exact ih _ ⟨hd,by omega⟩)
  (min N 60) (((N : Int) - 0).toNat + 1) 0 c (by omega) (by omega) ⟨h,by omega⟩
theorem calmDrains_true (a0 : TApp) (a1 : TConf) (a2 : List Int) (w0 : wTApp a0) (w1 : wTConf a1) (w2 : (wL 2 (wI .u16)) a2) : L_law14_CalmDrains a0 a1 a2 = some true := by
 classical
 unfold L_law14_CalmDrains
 rw [law_cutA,Option.bind_some,law_cutC,Option.bind_some]
 have ha := cutA_sz a0
 have hc := cutC_sz a1
 generalize cutA a0 = a at ha
 generalize cutC a1 = c at hc
 rw [law_app ha.t,Option.bind_some,law_conf,Option.bind_some,ref_right5 ha hc,Option.bind_some]
 by_cases hR : CRightP a c
 ·
  obtain ⟨d,e,hd,hl⟩ := calmDrains_l1 ha (l := a2) (fun x hx => w2.2 x hx) hR
  have zd := hd.sz ha
  have hli := zd.li
  have hb := lnS_b hc
  have n1 := hd.nli
  rw [if_pos (dT hR),calm_way hc,Option.bind_some,e,Option.bind_some,calm_loads zd,Option.bind_some]
  have hs := sum_l1 (F := fun nf k s => L_law14_CalmDrains_l3 (d.Links.map fun x => (x.length : Int)) nf s k) (lens_b zd) (by rw [List.length_map]; omega)
   (fun nf s => by rw [L_law14_CalmDrains_l3,if_neg (by omega)])
   (fun nf k s hk => by rw [L_law14_CalmDrains_l3,if_pos (by omega),at_get hk,Option.bind_some,wr_succ (by rw [List.length_map] at hk; omega)])
  rw [hs,Option.bind_some,wr (by omega) (by omega),if_pos (show (d.Links.map fun x => (x.length : Int)).sum = _ from hl),if_pos (by rw [List.length_map]; omega),fixed14]
  rfl
 ·
  rw [if_neg (by rw [dF hR]; decide),plain_right ha hc,Option.bind_some,if_neg (by rw [dF hR]; decide),fixed14]
  rfl
end Go.Proofs.Ytifcbecpemaieaa
