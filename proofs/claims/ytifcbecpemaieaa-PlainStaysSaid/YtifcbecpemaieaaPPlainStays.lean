/- The law PlainStays, in plain words: true at every input. No condition. -/
import Derived.Test.YtifcbecpemaieaaPpj
import Derived.Test.YtifcbecpemaieaaGdPlainStays
set_option linter.unusedSimpArgs false
set_option linter.unusedVariables false
namespace Go.Proofs.Ytifcbecpemaieaa
open Go.RowKit

theorem sum_snoc (x : Int) : ∀ l : List Int,(l ++ [x]).sum = l.sum + x
 | [] => by simp
 | y :: l => by
  rw [List.cons_append,List.sum_cons,List.sum_cons,sum_snoc x l]
  omega
theorem sum_bd : ∀ {l : List Int},(∀ x ∈ l,0 ≤ x ∧ x ≤ 1000) → 0 ≤ l.sum ∧ l.sum ≤ 1000 * (l.length : Int)
 | [],_ => by simp
 | y :: l,h => by
  have := sum_bd fun x hx => h x (List.mem_cons_of_mem y hx)
  have := h y (by simp)
  rw [List.sum_cons,List.length_cons]
  omega
theorem lenS_succ {l : List (List TMsg)} {k : Nat} (hk : k < l.length) : lenS (l.take (k + 1)) = lenS (l.take k) + (l[k].length : Int) := by
 unfold lenS
 rw [List.take_succ_eq_append_getElem hk,List.map_append,List.map_singleton,sum_snoc]
theorem sum_succ {l : List Int} {k : Nat} (hk : k < l.length) : (l.take (k + 1)).sum = (l.take k).sum + l[k] := by
 rw [List.take_succ_eq_append_getElem hk,sum_snoc]
theorem lenS_bd {l : List (List TMsg)} (h : ∀ x ∈ l,x.length ≤ 1000) (hl : l.length ≤ 100) (k : Nat) : 0 ≤ lenS (l.take k) ∧ lenS (l.take k) ≤ 100000 := by
 have := sum_bd (l := (l.take k).map fun x => (x.length : Int)) fun x hx => by
  obtain ⟨y,hy,rfl⟩ := List.mem_map.1 hx
  have := h y (List.mem_of_mem_take hy)
  omega
 rw [List.length_map,List.length_take] at this
 unfold lenS
 omega
theorem CRightP.sent {a : TApp} {c : TConf} (h : CRightP a c) : ∀ x ∈ c.Sent,0 ≤ x ∧ x ≤ 1000 := fun x hx => by
 obtain ⟨j,hj,rfl⟩ := List.getElem_of_mem hx
 have h1 := h.nli
 have h2 := h.nse
 obtain ⟨q1,q2,_⟩ := h.lnk j _ _ (List.getElem?_eq_getElem (show j < c.Links.length by omega)) (List.getElem?_eq_getElem hj)
 omega
theorem sent_bd {l : List Int} (h : ∀ x ∈ l,0 ≤ x ∧ x ≤ 1000) (hl : l.length ≤ 100) (k : Nat) : 0 ≤ (l.take k).sum ∧ (l.take k).sum ≤ 100000 := by
 have := sum_bd (l := l.take k) fun x hx => h x (List.mem_of_mem_take hx)
 rw [List.length_take] at this
 omega
theorem plainStays_l2 {a : TApp} {c : TConf} {d : TConf × Int} (hc : CRightP a c) (hd : CRightP a d.1) (ha : SzA a) : L_law05_PlainStays_l2 c d (((c.Links.length : Int) - 0).toNat + 1) 0 0 0 = some (lenS d.1.Links - lenS c.Links,d.1.Sent.sum - c.Sent.sum) := by
 have zc := hc.sz ha
 have zd := hd.sz ha
 have n1 := hc.nli
 have n2 := hc.nse
 have n3 := hd.nli
 have n4 := hd.nse
 have hg := ha.g
 have q := loopI (F := fun nf k (s : Int × Int) => L_law05_PlainStays_l2 c d nf s.1 s.2 k) (len := c.Links.length) (fun k s => s = (lenS (d.1.Links.take k) - lenS (c.Links.take k),(d.1.Sent.take k).sum - (c.Sent.take k).sum)) (fun _ _ => some (lenS d.1.Links - lenS c.Links,d.1.Sent.sum - c.Sent.sum))
  (fun nf s hs => by
   subst hs
   rw [L_law05_PlainStays_l2,if_neg (by omega),Option.bind_some,if_neg (by decide),List.take_of_length_le (by omega),List.take_of_length_le (by omega),List.take_of_length_le (by omega),List.take_of_length_le (by omega)])
  (fun nf k s hk hs ih => by
   subst hs
   have k1 : k < d.1.Links.length := by omega
   have k2 : k < d.1.Sent.length := by omega
   have k3 : k < c.Sent.length := by omega
   have b1 := lenS_bd zc.ms zc.li k
   have b2 := lenS_bd zd.ms zd.li k
   have b3 := sent_bd hc.sent zc.se k
   have b4 := sent_bd hd.sent zd.se k
   have b5 := zc.ms _ (List.getElem_mem hk)
   have b6 := zd.ms _ (List.getElem_mem k1)
   have b7 := hc.sent _ (List.getElem_mem k3)
   have b8 := hd.sent _ (List.getElem_mem k2)
   rw [L_law05_PlainStays_l2,if_pos (by omega),if_pos (by omega),dT (by omega),Option.bind_some,if_pos rfl,at_get k1,Option.bind_some,at_get hk,Option.bind_some,at_get k2,Option.bind_some,at_get k3,Option.bind_some,wr_succ (by omega)]
   dsimp only
   rw [wr (n := lenS (d.1.Links.take k) - lenS (c.Links.take k) + _) (by omega) (by omega),wr (n := _ - (c.Links[k].length : Int)) (by omega) (by omega),wr (n := (d.1.Sent.take k).sum - (c.Sent.take k).sum + _) (by omega) (by omega),wr (n := _ - c.Sent[k]) (by omega) (by omega)]
   refine ih (_,_) ?_
   rw [lenS_succ hk,lenS_succ k1,sum_succ k2,sum_succ k3]
   exact Prod.ext (by dsimp only; omega) (by dsimp only; omega))
  c.Links.length (((c.Links.length : Int) - 0).toNat + 1) 0 (0,0) (by omega) (by omega) (by simp [lenS])
 exact q
theorem plainStays_l1 {a : TApp} {c : TConf} (h : CRightP a c) (ha : SzA a) {l : List TStep} (hl : l.length ≤ 1000000) (hok : ∀ s ∈ l,(applyP a c s).2 = 0) : L_law05_PlainStays_l1 a c l (((l.length : Int) - 0).toNat + 1) 0 = some () := by
 have q := loopI (σ := Unit) (F := fun nf k _ => L_law05_PlainStays_l1 a c l nf k) (len := l.length) (fun _ _ => True) (fun _ _ => some ())
  (fun nf _ _ => by rw [L_law05_PlainStays_l1,if_neg (by omega)])
  (fun nf k _ hk _ ih => by
   have he := hok _ (List.getElem_mem hk)
   have hd := apply_right h ha he
   obtain ⟨s1,s2⟩ := step_sums h ha he
   rw [L_law05_PlainStays_l1,if_pos (by omega),at_get hk,Option.bind_some,plain_apply h ha,Option.bind_some,if_pos he,plain_right ha (hd.sz ha),Option.bind_some,if_pos (dT hd),plainStays_l2 h hd ha,Option.bind_some,wr_succ (by omega)]
   dsimp only
   rcases step_kind he with k0 | k1
   ·
    obtain ⟨m,e1,e2⟩ := s2 k0
    rw [if_neg (by rw [k0]; decide),if_pos k0,if_pos (by omega),Option.bind_some,if_neg (by rw [dF (by omega)]; decide),Option.bind_some]
    exact ih () trivial
   ·
    obtain ⟨e1,e2⟩ := s1 k1
    rw [if_pos k1,if_pos (by omega),if_pos (by omega),if_neg (by rw [k1]; decide),Option.bind_some,if_neg (by decide),Option.bind_some]
    exact ih () trivial)
  l.length (((l.length : Int) - 0).toNat + 1) 0 () (by omega) (by omega) trivial
 exact q
theorem plainStays_true (a0 : TApp) (a1 : TConf) (w0 : wTApp a0) (w1 : wTConf a1) : L_law05_PlainStays a0 a1 = some true := by
 classical
 unfold L_law05_PlainStays
 rw [law_cutA,Option.bind_some,law_cutC,Option.bind_some]
 have ha := cutA_sz a0
 have hc := cutC_sz a1
 generalize cutA a0 = a at ha
 generalize cutC a1 = c at hc
 rw [law_app ha.t,Option.bind_some,law_conf,Option.bind_some,ref_right5 ha hc,Option.bind_some]
 by_cases hR : CRightP a c
 ·
  have hl := can_len hR ha
  rw [if_pos (dT hR),plain_can hR ha,Option.bind_some,plainStays_l1 hR ha (by omega) (fun s hs => can_ok hs),Option.bind_some,fixed05]
  rfl
 ·
  rw [if_neg (by rw [dF hR]; decide),plain_right ha hc,Option.bind_some,if_neg (by rw [dF hR]; decide),fixed05]
  rfl
end Go.Proofs.Ytifcbecpemaieaa
