/- The law PlainOwn, in plain words: true at every input. No condition. -/
import Derived.Test.YtifcbecpemaieaaPpj
import Derived.Test.YtifcbecpemaieaaGdPlainOwn
set_option linter.unusedSimpArgs false
set_option linter.unusedVariables false
namespace Go.Proofs.Ytifcbecpemaieaa
open Go.RowKit

def Two (s : List TConf) : Prop := s.length = 2 ∧ ∀ c ∈ s,SzC c
theorem Two.set {s : List TConf} (h : Two s) (n : Nat) {c : TConf} (hc : SzC c) : Two (s.set n c) := by
 refine ⟨by rw [List.length_set]; exact h.1,fun x hx => ?_⟩
 rcases List.mem_or_eq_of_mem_set hx with hx | rfl
 · exact h.2 x hx
 · exact hc
theorem set_self {α : Type} {l : List α} {k : Nat} (h : k < l.length) : l.set k l[k] = l := List.set_getElem_self h
theorem own_l2 {n : Nat} {s : List TConf} (h : Two s) (hn : n < 2) : ∃ r,L_law05_PlainOwn_l2 n (((at? s n).elim 0 fun x => ((x.States.length : Int) - 0).toNat) + 1) 0 s = some r ∧ Two r := by
 have hns : n < s.length := by rw [h.1]; exact hn
 rw [at_get hns]
 exact loopE (F := fun nf k (t : List TConf) => L_law05_PlainOwn_l2 n nf k t) (len := s[n].States.length) (fun _ t => Two t ∧ ∀ c,t[n]? = some c → c.States.length = s[n].States.length) (fun r => Two r)
  (fun nf t ⟨ht,he⟩ => by
   have hnt : n < t.length := by rw [ht.1]; exact hn
   have hl := he _ (List.getElem?_eq_getElem hnt)
   exact ⟨t,by rw [L_law05_PlainOwn_l2,at_get hnt,Option.bind_some,if_neg (by omega),Int.toNat_natCast,set_self hnt],ht⟩)
  (fun nf k t hk ⟨ht,he⟩ ih => by
   have hnt : n < t.length := by rw [ht.1]; exact hn
   have hl := he _ (List.getElem?_eq_getElem hnt)
   have hz := ht.2 _ (List.getElem_mem hnt)
   have h1 := hz.st
   rw [L_law05_PlainOwn_l2,at_get hnt,Option.bind_some,if_pos (by omega),Option.bind_some,Int.toNat_natCast,set_self hnt,at_get hnt,Option.bind_some,at_get (show k < t[n].States.length by omega),Option.bind_some,wr_succ (by omega),Int.toNat_natCast]
   refine ih _ ⟨ht.set n ⟨by dsimp only; rw [List.length_set]; exact hz.st,hz.li,hz.ms,hz.se⟩,fun c hc => ?_⟩
   rw [List.getElem?_set_self hnt] at hc
   injection hc with hc
   subst hc
   dsimp only
   rw [List.length_set]
   exact hl)
  s[n].States.length _ 0 s (by omega) (by simp) ⟨h,fun c hc => by
   rw [List.getElem?_eq_getElem hns] at hc
   injection hc with hc
   rw [hc]⟩
theorem own_l3 {n : Nat} {s : List TConf} (h : Two s) (hn : n < 2) : ∃ r,L_law05_PlainOwn_l3 n (((at? s n).elim 0 fun x => ((x.Sent.length : Int) - 0).toNat) + 1) 0 s = some r ∧ Two r := by
 have hns : n < s.length := by rw [h.1]; exact hn
 rw [at_get hns]
 exact loopE (F := fun nf k (t : List TConf) => L_law05_PlainOwn_l3 n nf k t) (len := s[n].Sent.length) (fun _ t => Two t ∧ ∀ c,t[n]? = some c → c.Sent.length = s[n].Sent.length) (fun r => Two r)
  (fun nf t ⟨ht,he⟩ => by
   have hnt : n < t.length := by rw [ht.1]; exact hn
   have hl := he _ (List.getElem?_eq_getElem hnt)
   exact ⟨t,by rw [L_law05_PlainOwn_l3,at_get hnt,Option.bind_some,if_neg (by omega),Int.toNat_natCast,set_self hnt],ht⟩)
  (fun nf k t hk ⟨ht,he⟩ ih => by
   have hnt : n < t.length := by rw [ht.1]; exact hn
   have hl := he _ (List.getElem?_eq_getElem hnt)
   have hz := ht.2 _ (List.getElem_mem hnt)
   have h1 := hz.se
   rw [L_law05_PlainOwn_l3,at_get hnt,Option.bind_some,if_pos (by omega),Option.bind_some,Int.toNat_natCast,set_self hnt,at_get hnt,Option.bind_some,at_get (show k < t[n].Sent.length by omega),Option.bind_some,wr_succ (by omega),Int.toNat_natCast]
   refine ih _ ⟨ht.set n ⟨hz.st,hz.li,hz.ms,by dsimp only; rw [List.length_set]; exact hz.se⟩,fun c hc => ?_⟩
   rw [List.getElem?_set_self hnt] at hc
   injection hc with hc
   subst hc
   dsimp only
   rw [List.length_set]
   exact hl)
  s[n].Sent.length _ 0 s (by omega) (by simp) ⟨h,fun c hc => by
   rw [List.getElem?_eq_getElem hns] at hc
   injection hc with hc
   rw [hc]⟩
theorem SzC.link {c : TConf} (h : SzC c) (j : Nat) {l : List TMsg} (hl : l.length ≤ 1000) : SzC ⟨c.States,c.Links.set j l,c.Sent⟩ := by
 refine ⟨h.st,by dsimp only; rw [List.length_set]; exact h.li,fun x hx => ?_,h.se⟩
 rcases List.mem_or_eq_of_mem_set hx with hx | rfl
 · exact h.ms x hx
 · exact hl
theorem own_l5 {n j : Nat} {s : List TConf} (h : Two s) (hn : n < 2) (hns : n < s.length) (hj : j < s[n].Links.length) : ∃ r,L_law05_PlainOwn_l5 n j (((at? s n).elim 0 fun x => ((at? x.Links j).elim 0 fun y => ((y.length : Int) - 0).toNat)) + 1) 0 s = some r ∧ Two r ∧ ∀ c,r[n]? = some c → c.Links.length = s[n].Links.length := by
 rw [at_get hns]
 dsimp only [Option.elim_some]
 rw [at_get hj]
 exact loopE (F := fun nf k (t : List TConf) => L_law05_PlainOwn_l5 n j nf k t) (len := s[n].Links[j].length) (fun _ t => Two t ∧ ∀ c,t[n]? = some c → c.Links.length = s[n].Links.length ∧ ∀ l,c.Links[j]? = some l → l.length = s[n].Links[j].length) (fun r => Two r ∧ ∀ c,r[n]? = some c → c.Links.length = s[n].Links.length)
  (fun nf t ⟨ht,he⟩ => by
   have hnt : n < t.length := by rw [ht.1]; exact hn
   obtain ⟨hl,hm⟩ := he _ (List.getElem?_eq_getElem hnt)
   have hjt : j < t[n].Links.length := by omega
   have hk := hm _ (List.getElem?_eq_getElem hjt)
   exact ⟨t,by rw [L_law05_PlainOwn_l5,at_get hnt,Option.bind_some,at_get hjt,Option.bind_some,if_neg (by omega),Int.toNat_natCast,Int.toNat_natCast,set_self hjt,set_self hnt],ht,fun c hc => (he c hc).1⟩)
  (fun nf k t hk ⟨ht,he⟩ ih => by
   have hnt : n < t.length := by rw [ht.1]; exact hn
   obtain ⟨hl,hm⟩ := he _ (List.getElem?_eq_getElem hnt)
   have hjt : j < t[n].Links.length := by omega
   have hkl := hm _ (List.getElem?_eq_getElem hjt)
   have hz := ht.2 _ (List.getElem_mem hnt)
   have h1 := hz.ms _ (List.getElem_mem hjt)
   rw [L_law05_PlainOwn_l5,at_get hnt,Option.bind_some,at_get hjt,Option.bind_some,if_pos (by omega),Option.bind_some,Int.toNat_natCast,Int.toNat_natCast,set_self hjt,set_self hnt,at_get hnt,Option.bind_some,at_get hjt,Option.bind_some,at_get (show k < t[n].Links[j].length by omega),Option.bind_some,wr_succ (by omega),Int.toNat_natCast]
   refine ih _ ⟨ht.set n (hz.link j (by rw [List.length_set]; exact h1)),fun c hc => ?_⟩
   rw [List.getElem?_set_self hnt] at hc
   injection hc with hc
   subst hc
   dsimp only
   refine ⟨by rw [List.length_set]; exact hl,fun l hl2 => ?_⟩
   rw [List.getElem?_set_self hjt] at hl2
   injection hl2 with hl2
   rw [← hl2,List.length_set]
   exact hkl)
  s[n].Links[j].length _ 0 s (by omega) (by simp) ⟨h,fun c hc => by
   rw [List.getElem?_eq_getElem hns] at hc
   injection hc with hc
   subst hc
   refine ⟨rfl,fun l hl => ?_⟩
   rw [List.getElem?_eq_getElem hj] at hl
   injection hl with hl
   rw [hl]⟩
theorem own_l4 {n : Nat} {s : List TConf} (h : Two s) (hn : n < 2) : ∃ r,L_law05_PlainOwn_l4 n (((at? s n).elim 0 fun x => ((x.Links.length : Int) - 0).toNat) + 1) 0 s = some r ∧ Two r := by
 have hns : n < s.length := by rw [h.1]; exact hn
 rw [at_get hns]
 exact loopE (F := fun nf k (t : List TConf) => L_law05_PlainOwn_l4 n nf k t) (len := s[n].Links.length) (fun _ t => Two t ∧ ∀ c,t[n]? = some c → c.Links.length = s[n].Links.length) (fun r => Two r)
  (fun nf t ⟨ht,he⟩ => by
   have hnt : n < t.length := by rw [ht.1]; exact hn
   have hl := he _ (List.getElem?_eq_getElem hnt)
   exact ⟨t,by rw [L_law05_PlainOwn_l4,at_get hnt,Option.bind_some,if_neg (by omega),Int.toNat_natCast,set_self hnt],ht⟩)
  (fun nf k t hk ⟨ht,he⟩ ih => by
   have hnt : n < t.length := by rw [ht.1]; exact hn
   have hl := he _ (List.getElem?_eq_getElem hnt)
   have hz := ht.2 _ (List.getElem_mem hnt)
   have h1 := hz.li
   obtain ⟨r,e1,e2,e3⟩ := own_l5 (j := k) ht hn hnt (by omega)
   rw [L_law05_PlainOwn_l4,at_get hnt,Option.bind_some,if_pos (by omega),Int.toNat_natCast,set_self hnt,e1,Option.bind_some,Option.bind_some,wr_succ (by omega)]
   exact ih _ ⟨e2,fun c hc => (e3 c hc).trans hl⟩)
  s[n].Links.length _ 0 s (by omega) (by simp) ⟨h,fun c hc => by
   rw [List.getElem?_eq_getElem hns] at hc
   injection hc with hc
   rw [hc]⟩
theorem own_l1 {s : List TConf} (h : Two s) : L_law05_PlainOwn_l1 (((2 : Int) - 0).toNat + 1) 0 s = some () := by
 have q := loopI (F := fun nf k (t : List TConf) => L_law05_PlainOwn_l1 nf k t) (len := 2) (fun _ t => Two t) (fun _ _ => some ())
  (fun nf t ht => by rw [L_law05_PlainOwn_l1,if_neg (by omega)])
  (fun nf k t hk ht ih => by
   obtain ⟨r1,e1,f1⟩ := own_l2 ht hk
   obtain ⟨r2,e2,f2⟩ := own_l3 f1 hk
   obtain ⟨r3,e3,f3⟩ := own_l4 f2 hk
   rw [L_law05_PlainOwn_l1,if_pos (by omega),e1,Option.bind_some,e2,Option.bind_some,e3,Option.bind_some,Option.bind_some,wr_succ (by omega)]
   exact ih _ f3)
  2 (((2 : Int) - 0).toNat + 1) 0 s (by omega) (by omega) h
 exact q
theorem cutC_cut (c : TConf) : cutC (cutC c) = cutC c := by
 unfold cutC
 simp only [List.take_take,Nat.min_self,← List.map_take,List.map_map]
 congr 1
 refine List.map_congr_left fun x _ => ?_
 simp [List.take_take]
theorem plainOwn_true (a0 : TApp) (a1 : TConf) (a2 : TStep) (w0 : wTApp a0) (w1 : wTConf a1) (w2 : wTStep a2) : L_law05_PlainOwn a0 a1 a2 = some true := by
 classical
 unfold L_law05_PlainOwn
 rw [law_cutA,Option.bind_some,law_cutC,Option.bind_some]
 have ha := cutA_sz a0
 have hc := cutC_sz a1
 have hcut := cutC_cut a1
 generalize cutA a0 = a at ha
 generalize cutC a1 = c at hc hcut
 rw [law_app ha.t,Option.bind_some,law_conf,Option.bind_some,ref_right5 ha hc,Option.bind_some]
 by_cases hR : CRightP a c
 ·
  have h2 : Two ([(applyP a c a2).1] ++ [(runP a c [a2] 0).1]) := by
   refine ⟨rfl,fun x hx => ?_⟩
   rcases List.mem_append.1 hx with hx | hx
   ·
    rw [List.mem_singleton] at hx
    rw [hx]
    exact apply_sz hR ha _
   ·
    rw [List.mem_singleton] at hx
    rw [hx]
    exact (run_right ha hR).sz ha
  rw [if_pos (dT hR),law_cutC,Option.bind_some,hcut,law_conf,Option.bind_some,plain_apply hR ha,Option.bind_some,plain_run ha hR (by simp),Option.bind_some,own_l1 h2,Option.bind_some,conf_same hc,Option.bind_some,if_pos rfl,fixed05]
  rfl
 ·
  rw [if_neg (by rw [dF hR]; decide),plain_right ha hc,Option.bind_some,if_neg (by rw [dF hR]; decide),fixed05]
  rfl
end Go.Proofs.Ytifcbecpemaieaa
