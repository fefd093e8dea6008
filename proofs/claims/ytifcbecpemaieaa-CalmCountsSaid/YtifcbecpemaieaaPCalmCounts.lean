/- The law CalmCounts, in plain words: true at every input. No condition. -/
import Derived.Test.YtifcbecpemaieaaPqa
import Derived.Test.YtifcbecpemaieaaGdCalmCounts
set_option linter.unusedSimpArgs false
set_option linter.unusedVariables false
namespace Go.Proofs.Ytifcbecpemaieaa
open Go.RowKit

theorem mo_get {a : TApp} {c : TConf} (h : CRightP a c) {k : Nat} (hk : k < c.States.length) : ∃ hl : k < (mo a c).length,mI (mo a c)[k] = (stOf a.T (k : Int) c.States[k]).Mode := by
 have hkl : k < (mo a c).length := by rw [mo_len]; exact hk
 have hg := modesL_get a.T 0 c.States k
 rw [List.getElem?_eq_getElem hk,Nat.zero_add] at hg
 have hg' : (mo a c)[k]? = some (mF (stOf a.T (k : Int) c.States[k]).Mode) := hg
 rw [List.getElem?_eq_getElem hkl] at hg'
 refine ⟨hkl,?_⟩
 rw [Option.some.inj hg']
 exact mF_val (h.mode k _ (List.getElem?_eq_getElem hk))
theorem counts_l1 {a : TApp} {c : TConf} (h : CRightP a c) : L_law14_CalmCounts_l1 a c a ((a.G.N - 0).toNat + 1) 0 [0,0,0] = some [mcnt 0 (mo a c),mcnt 1 (mo a c),mcnt 2 (mo a c)] := by
 have h6 := h.tab.1.2.1
 have hN := h.nst
 have hlen := mo_len a c
 have q := loopI (F := fun nf k (s : List Int) => L_law14_CalmCounts_l1 a c a nf k s) (len := c.States.length) (fun k s => s = [mcnt 0 ((mo a c).take k),mcnt 1 ((mo a c).take k),mcnt 2 ((mo a c).take k)]) (fun _ _ => some [mcnt 0 (mo a c),mcnt 1 (mo a c),mcnt 2 (mo a c)])
  (fun nf s hs => by
   rw [L_law14_CalmCounts_l1,if_neg (by omega),hs,List.take_of_length_le (by omega)])
  (fun nf k s hk hs ih => by
   have b0 := mcnt_le 0 ((mo a c).take k)
   have b1 := mcnt_le 1 ((mo a c).take k)
   have b2 := mcnt_le 2 ((mo a c).take k)
   rw [List.length_take] at b0 b1 b2
   obtain ⟨hkl,hm⟩ := mo_get h hk
   have e2 : ∀ i,mcnt i ((mo a c).take (k + 1)) = if (mo a c)[k] = i then mcnt i ((mo a c).take k) + 1 else mcnt i ((mo a c).take k) := fun i => by
    rw [List.take_succ_eq_append_getElem hkl,mcnt_snoc]
   rw [L_law14_CalmCounts_l1,if_pos (by omega),at_get hk,Option.bind_some,ref_at,Option.bind_some,← hm,wr_succ (by omega),hs]
   generalize (mo a c)[k] = x at e2
   match x with
   | 0 =>
    rw [show at? [mcnt 0 ((mo a c).take k),mcnt 1 ((mo a c).take k),mcnt 2 ((mo a c).take k)] (mI 0) = some (mcnt 0 ((mo a c).take k)) from rfl,Option.bind_some,wr (by omega) (by omega)]
    exact ih _ (by rw [e2,e2,e2]; rfl)
   | 1 =>
    rw [show at? [mcnt 0 ((mo a c).take k),mcnt 1 ((mo a c).take k),mcnt 2 ((mo a c).take k)] (mI 1) = some (mcnt 1 ((mo a c).take k)) from rfl,Option.bind_some,wr (by omega) (by omega)]
    exact ih _ (by rw [e2,e2,e2]; rfl)
   | 2 =>
    rw [show at? [mcnt 0 ((mo a c).take k),mcnt 1 ((mo a c).take k),mcnt 2 ((mo a c).take k)] (mI 2) = some (mcnt 2 ((mo a c).take k)) from rfl,Option.bind_some,wr (by omega) (by omega)]
    exact ih _ (by rw [e2,e2,e2]; rfl))
  c.States.length ((a.G.N - 0).toNat + 1) 0 [0,0,0] (by omega) (by omega) rfl
 exact q
theorem mcnt_all {l : List (Fin 3)} : mcnt 0 l = (l.length : Int) ↔ ∀ m ∈ l,m = 0 := by
 unfold mcnt
 rw [show ((l.count 0 : Nat) : Int) = (l.length : Int) ↔ l.count 0 = l.length by omega,List.count_eq_length]
 exact ⟨fun h m hm => (h m hm).symm,fun h m hm => (h m hm).symm⟩
theorem calmCounts_true (a0 : TApp) (a1 : TConf) (w0 : wTApp a0) (w1 : wTConf a1) : L_law14_CalmCounts a0 a1 = some true := by
 classical
 unfold L_law14_CalmCounts
 rw [law_cutA,Option.bind_some,law_cutC,Option.bind_some]
 have ha := cutA_sz a0
 have hc := cutC_sz a1
 generalize cutA a0 = a at ha
 generalize cutC a1 = c at hc
 rw [law_app ha.t,Option.bind_some,law_conf,Option.bind_some,ref_right5 ha hc,Option.bind_some]
 by_cases hR : CRightP a c
 ·
  have hl := mo_len a c
  have hN := hR.nst
  have hall := mcnt_all (l := mo a c)
  rw [if_pos (dT hR),calm_count hR,Option.bind_some]
  dsimp only [List.cons_append,List.nil_append]
  rw [counts_l1 hR,Option.bind_some,ints_same (by simp),Option.bind_some,if_pos rfl,calm_over hR hc,Option.bind_some]
  by_cases q : mcnt 0 (mo a c) = a.G.N
  ·
   have q1 := hall.1 (by omega)
   rw [if_pos q,calm_way hc,Option.bind_some,if_pos (ddec ⟨fun e => e.2,fun e => ⟨q1,e⟩⟩),fixed14]
   rfl
  ·
   rw [if_neg q,if_pos (dF fun e => q (by have := hall.2 e.1; omega)),fixed14]
   rfl
 ·
  rw [if_neg (by rw [dF hR]; decide),plain_right ha hc,Option.bind_some,if_neg (by rw [dF hR]; decide),fixed14]
  rfl
end Go.Proofs.Ytifcbecpemaieaa
