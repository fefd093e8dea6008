/- The law CalmSteps, in plain words: true at every input. No condition. -/
import Derived.Test.YtifcbecpemaieaaPqa
import Derived.Test.YtifcbecpemaieaaPpi
import Derived.Test.YtifcbecpemaieaaGdCalmSteps
set_option linter.unusedSimpArgs false
set_option linter.unusedVariables false
namespace Go.Proofs.Ytifcbecpemaieaa
open Go.RowKit

theorem CRightP.sent {a : TApp} {c : TConf} (h : CRightP a c) : ∀ x ∈ c.Sent,0 ≤ x ∧ x ≤ 1000 := fun x hx => by
 obtain ⟨j,hj,rfl⟩ := List.getElem_of_mem hx
 have h1 := h.nli
 have h2 := h.nse
 obtain ⟨q1,q2,_⟩ := h.lnk j _ _ (List.getElem?_eq_getElem (show j < c.Links.length by omega)) (List.getElem?_eq_getElem hj)
 omega
theorem sent_bd {l : List Int} (h : ∀ x ∈ l,0 ≤ x ∧ x ≤ 1000) (hl : l.length ≤ 100) (k : Nat) : 0 ≤ (l.take k).sum ∧ (l.take k).sum ≤ 100000 := by
 have := sum_b (l := l.take k) fun x hx => h x (List.mem_of_mem_take hx)
 rw [List.length_take] at this
 omega
theorem calmSteps_l2 {a : TApp} {c : TConf} {d : TConf × Int} (hc : CRightP a c) (hd : CRightP a d.1) (ha : SzA a) : L_law14_CalmSteps_l2 c d (((d.1.Sent.length : Int) - 0).toNat + 1) 0 0 = some (d.1.Sent.sum - c.Sent.sum) := by
 have zc := hc.sz ha
 have zd := hd.sz ha
 have n2 := hc.nse
 have n4 := hd.nse
 have hg := ha.g
 have q := loopI (F := fun nf k (s : Int) => L_law14_CalmSteps_l2 c d nf s k) (len := d.1.Sent.length) (fun k s => s = (d.1.Sent.take k).sum - (c.Sent.take k).sum) (fun _ _ => some (d.1.Sent.sum - c.Sent.sum))
  (fun nf s hs => by
   subst hs
   rw [L_law14_CalmSteps_l2,baf,if_neg (by rw [decide_eq_true_iff]; omega),List.take_of_length_le (by omega),List.take_of_length_le (by omega)])
  (fun nf k s hk hs ih => by
   subst hs
   have k3 : k < c.Sent.length := by omega
   have b3 := sent_bd hc.sent zc.se k
   have b4 := sent_bd hd.sent zd.se k
   have b7 := hc.sent _ (List.getElem_mem k3)
   have b8 := hd.sent _ (List.getElem_mem hk)
   rw [L_law14_CalmSteps_l2,baf,if_pos (by rw [decide_eq_true_iff]; omega),at_get hk,Option.bind_some,at_get k3,Option.bind_some,wr_succ (by omega),wr (n := (d.1.Sent.take k).sum - (c.Sent.take k).sum + _) (by omega) (by omega),wr (n := _ - c.Sent[k]) (by omega) (by omega)]
   refine ih _ ?_
   rw [sum_tk hk,sum_tk k3]
   omega)
  d.1.Sent.length (((d.1.Sent.length : Int) - 0).toNat + 1) 0 0 (by omega) (by omega) (by simp)
 exact q
theorem mcnt_set {i v w : Fin 3} : ∀ {l : List (Fin 3)} {n : Nat},l[n]? = some w → mcnt i (l.set n v) + (if w = i then 1 else 0) = mcnt i l + (if v = i then 1 else 0)
 | [],n,h => by simp at h
 | x :: l,0,h => by
  rw [List.getElem?_cons_zero] at h
  injection h with h
  subst h
  unfold mcnt
  rw [List.set_cons_zero,List.count_cons,List.count_cons]
  simp only [beq_iff_eq]
  split <;> split <;> omega
 | x :: l,n + 1,h => by
  rw [List.getElem?_cons_succ] at h
  have ih := mcnt_set (i := i) (v := v) h
  unfold mcnt at ih ⊢
  rw [List.set_cons_succ,List.count_cons,List.count_cons]
  split <;> omega
theorem step_state {a : TApp} {c : TConf} {s : TStep} (h : CRightP a c) (he : (applyP a c s).2 = 0) : ∃ n v,n < c.States.length ∧ (applyP a c s).1.States = c.States.set n v := by
 rcases step_view h he with ⟨n,p,q⟩ | ⟨j,i,n,y,l,b,q⟩
 · exact ⟨n,_,q.lt,q.st⟩
 · exact ⟨n,_,q.lt,q.st⟩
def moved (x u y v z w : Int) : Int := max (x - u) (u - x) + max (y - v) (v - y) + max (z - w) (w - z)
theorem step_moved {a : TApp} {c : TConf} {s : TStep} (h : CRightP a c) (he : (applyP a c s).2 = 0) : moved (mcnt 0 (mo a c)) (mcnt 0 (mo a (applyP a c s).1)) (mcnt 1 (mo a c)) (mcnt 1 (mo a (applyP a c s).1)) (mcnt 2 (mo a c)) (mcnt 2 (mo a (applyP a c s).1)) = 0 ∨ moved (mcnt 0 (mo a c)) (mcnt 0 (mo a (applyP a c s).1)) (mcnt 1 (mo a c)) (mcnt 1 (mo a (applyP a c s).1)) (mcnt 2 (mo a c)) (mcnt 2 (mo a (applyP a c s).1)) = 2 := by
 obtain ⟨n,t,hn,e⟩ := step_state h he
 have e1 : mo a (applyP a c s).1 = (mo a c).set n (mF (stOf a.T ((0 + n : Nat) : Int) t).Mode) := by
  unfold mo
  rw [e,modesL_set]
 have hl : n < (mo a c).length := by rw [mo_len]; exact hn
 rw [e1]
 generalize mF (stOf a.T ((0 + n : Nat) : Int) t).Mode = v
 have s0 := mcnt_set (i := 0) (v := v) (List.getElem?_eq_getElem hl)
 have s1 := mcnt_set (i := 1) (v := v) (List.getElem?_eq_getElem hl)
 have s2 := mcnt_set (i := 2) (v := v) (List.getElem?_eq_getElem hl)
 unfold moved
 generalize mcnt 0 ((mo a c).set n v) = u0 at *
 generalize mcnt 1 ((mo a c).set n v) = u1 at *
 generalize mcnt 2 ((mo a c).set n v) = u2 at *
 generalize (mo a c)[n] = w at *
 generalize mcnt 0 (mo a c) = x0 at *
 generalize mcnt 1 (mo a c) = x1 at *
 generalize mcnt 2 (mo a c) = x2 at *
 clear e1 hl e hn he h
 match v,w with
 | 0,0 => simp at s0 s1 s2; omega
 | 0,1 => simp at s0 s1 s2; omega
 | 0,2 => simp at s0 s1 s2; omega
 | 1,0 => simp at s0 s1 s2; omega
 | 1,1 => simp at s0 s1 s2; omega
 | 1,2 => simp at s0 s1 s2; omega
 | 2,0 => simp at s0 s1 s2; omega
 | 2,1 => simp at s0 s1 s2; omega
 | 2,2 => simp at s0 s1 s2; omega
theorem calmSteps_l1 {a : TApp} (ha : SzA a) (l : List TStep) {c : TConf} (h : CRightP a c) : L_law14_CalmSteps_l1 l a (((l.length : Int) - 0).toNat + 1) 0 c = some () := by
 have q := loopI (F := fun nf k (s : TConf) => L_law14_CalmSteps_l1 l a nf k s) (len := l.length) (fun _ s => CRightP a s) (fun _ _ => some ())
  (fun nf s _ => by
   rw [L_law14_CalmSteps_l1,baf,if_neg (by rw [decide_eq_true_iff]; omega)])
  (fun nf k s hk hs ih => by
   rw [L_law14_CalmSteps_l1,baf]
   by_cases h40 : k < 40
   ·
    rw [if_pos (by rw [decide_eq_true_iff]; omega),at_get hk,Option.bind_some,plain_apply hs ha,Option.bind_some,wr_succ (by omega)]
    by_cases e : (applyP a s l[k]).2 = 0
    ·
     have hd := apply_right hs ha e
     have zc := hs.sz ha
     have zd := hd.sz ha
     obtain ⟨s1,s2⟩ := step_sums hs ha e
     have hm := step_moved hs e
     have c0 := mcnt_le 0 (mo a s)
     have c1 := mcnt_le 1 (mo a s)
     have c2 := mcnt_le 2 (mo a s)
     have d0 := mcnt_le 0 (mo a (applyP a s l[k]).1)
     have d1 := mcnt_le 1 (mo a (applyP a s l[k]).1)
     have d2 := mcnt_le 2 (mo a (applyP a s l[k]).1)
     have z1 := zc.st
     have z2 := zd.st
     rw [mo_len] at c0 c1 c2 d0 d1 d2
     have w1 := lnS_b zc
     have w2 := lnS_b zd
     unfold moved at hm
     rw [if_pos e,calm_count hs,Option.bind_some,calm_count hd,Option.bind_some,calmSteps_l2 hs hd ha,Option.bind_some,calm_way zd,Option.bind_some,calm_way zc,Option.bind_some]
     have s1' : l[k].Kind = 1 → lnS (applyP a s l[k]).1.Links = lnS s.Links - 1 ∧ (applyP a s l[k]).1.Sent.sum = s.Sent.sum := s1
     have s2' : l[k].Kind = 0 → ∃ m : Nat,lnS (applyP a s l[k]).1.Links = lnS s.Links + m ∧ (applyP a s l[k]).1.Sent.sum = s.Sent.sum + m := s2
     dsimp only
     generalize mcnt 0 (mo a s) = x0 at *
     generalize mcnt 1 (mo a s) = x1 at *
     generalize mcnt 2 (mo a s) = x2 at *
     generalize mcnt 0 (mo a (applyP a s l[k]).1) = y0 at *
     generalize mcnt 1 (mo a (applyP a s l[k]).1) = y1 at *
     generalize mcnt 2 (mo a (applyP a s l[k]).1) = y2 at *
     rw [wr (n := x0 - y0) (by omega) (by omega),wr (n := y0 - x0) (by omega) (by omega),wr (n := x1 - y1) (by omega) (by omega),wr (n := y1 - x1) (by omega) (by omega),wr (n := x2 - y2) (by omega) (by omega),wr (n := y2 - x2) (by omega) (by omega),wr (n := max (x0 - y0) (y0 - x0) + max (x1 - y1) (y1 - x1)) (by omega) (by omega),wr (n := _ + max (x2 - y2) (y2 - x2)) (by omega) (by omega),wr (n := lnS _ - lnS _) (by omega) (by omega)]
     have key : ∀ (A B : Prop) [Decidable A] [Decidable B] (o : Option Bool),(A ∨ B) → (if A then o else if B then o else some true) = o := fun A B _ _ o h => by
      by_cases hA : A
      · rw [if_pos hA]
      · rw [if_neg hA,if_pos (h.resolve_left hA)]
     rw [key _ _ _ hm]
     rcases step_kind e with k0 | k1
     ·
      obtain ⟨m,e1,e2⟩ := s2' k0
      rw [if_neg (by rw [k0]; decide),if_pos k0,dT (by omega),Option.bind_some,if_neg (by decide),Option.bind_some]
      exact ih _ hd
     ·
      obtain ⟨e1,e2⟩ := s1' k1
      rw [if_pos k1,if_pos (by omega),if_neg (by rw [k1]; decide),Option.bind_some,if_neg (by decide),Option.bind_some]
      exact ih _ hd
    ·
     rw [if_neg e,Option.bind_some]
     exact ih _ hs
   · rw [if_neg (by rw [decide_eq_true_iff]; omega)])
  l.length (((l.length : Int) - 0).toNat + 1) 0 c (by omega) (by omega) h
 exact q
theorem calmSteps_true (a0 : TApp) (a1 : List TStep) (w0 : wTApp a0) (w1 : (wL 40 wTStep) a1) : L_law14_CalmSteps a0 a1 = some true := by
 classical
 unfold L_law14_CalmSteps
 rw [law_cutA,Option.bind_some]
 have ha := cutA_sz a0
 generalize cutA a0 = a at ha
 have hg := ha.g
 rw [law_app ha.t,Option.bind_some,ref_tright (by omega) ha.t,Option.bind_some]
 by_cases hR : TRightP a.T a.G
 ·
  rw [if_pos (dT hR),plain_start ha,Option.bind_some,calmSteps_l1 ha a1 (start_right hR),Option.bind_some,fixed14]
  rfl
 ·
  rw [if_neg (by rw [dF hR]; decide),fixed14]
  rfl
end Go.Proofs.Ytifcbecpemaieaa
