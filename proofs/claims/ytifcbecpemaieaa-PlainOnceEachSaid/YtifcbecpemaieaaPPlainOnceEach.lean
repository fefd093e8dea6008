/- The law PlainOnceEach, in plain words: true at every input. No condition. -/
import Derived.Test.YtifcbecpemaieaaPpj
import Derived.Test.YtifcbecpemaieaaGdPlainOnceEach
set_option linter.unusedSimpArgs false
set_option linter.unusedVariables false
namespace Go.Proofs.Ytifcbecpemaieaa
open Go.RowKit

theorem GI.few {a : TApp} {c : TConf} {got : List (List Int)} (h : CRightP a c) (hg : GI a c got) {j : Nat} {g : List Int} (hj : got[j]? = some g) : g.length ≤ 500 := by
 have h1 := (List.getElem?_eq_some_iff.1 hj).1
 have h2 := hg.1
 obtain ⟨l,z,e1,e2,q1,q2,_⟩ := h.at_link (j := j) (by omega)
 have := (hg.2 j g l z hj e1 e2).cnt
 omega
theorem set_self {α : Type} {l : List α} {k : Nat} {x : α} (h : l[k]? = some x) : l.set k x = l := by
 obtain ⟨h1,h2⟩ := List.getElem?_eq_some_iff.1 h
 rw [← h2,List.set_getElem_self]
theorem onceEach_l1 {a : TApp} (ha : SzA a) (l : List TStep) {c : TConf} {got : List (List Int)} (h : CRightP a c) (hg : GI a c got) : ∃ r,L_law05_PlainOnceEach_l1 l a (((l.length : Int) - 0).toNat + 1) 0 c got = some r ∧ CRightP a r.1 ∧ GI a r.1 r.2 := by
 have hlk := ha.g
 exact loopE (F := fun nf k (s : TConf × List (List Int)) => L_law05_PlainOnceEach_l1 l a nf k s.1 s.2) (len := l.length) (fun _ s => CRightP a s.1 ∧ GI a s.1 s.2) (fun r => CRightP a r.1 ∧ GI a r.1 r.2)
  (fun nf s hs => ⟨s,by rw [L_law05_PlainOnceEach_l1,baf,if_neg (by rw [decide_eq_true_iff]; omega)],hs⟩)
  (fun nf k s hk ⟨hs,hg⟩ ih => by
   rw [L_law05_PlainOnceEach_l1,baf]
   by_cases h40 : k < 40
   ·
    rw [if_pos (by rw [decide_eq_true_iff]; omega),at_get hk,Option.bind_some,plain_apply hs ha,Option.bind_some,wr_succ (by omega)]
    by_cases e : (applyP a s.1 l[k]).2 = 0
    ·
     have hd := apply_right hs ha e
     rw [if_pos e]
     by_cases k1 : l[k].Kind = 1
     ·
      obtain ⟨j,g,z,e1,e2,e3,e4,e5,e6,e7,e8,e9⟩ := got_del hs e k1 hg
      have hlen := hg.1
      have hse := hs.nse
      have hf := hg.few hs e3
      have a3 : at? s.2 (j : Int) = some g := by rw [at_nat]; exact e3
      have a4 : at? s.1.Sent (j : Int) = some z := by rw [at_nat]; exact e4
      rw [if_pos k1,e1,if_neg (by omega),if_neg (by omega),if_neg (by omega),if_neg (by omega),a4,Option.bind_some,if_neg (by omega),a3,Option.bind_some,ref_in_list _ (by omega),Option.bind_some,if_neg (by rw [dF e7]; decide),Int.toNat_natCast,set_self e3,wr (by omega) (by omega)]
      have e0 : (if a.Fifo = true then some (!(decide (l[k].Seq = (g.length : Int) + 1)),s.2) else some (false,s.2)) = some (false,s.2) := by
       by_cases q : a.Fifo = true
       · rw [if_pos q,dT (e8 q)]; rfl
       · rw [if_neg q]
      rw [e0,Option.bind_some]
      dsimp only
      rw [if_neg (by decide),a3,Option.bind_some,if_pos (by omega),Option.bind_some,Option.bind_some]
      exact ih (_,_) ⟨hd,e9⟩
     ·
      rw [if_neg k1,Option.bind_some,Option.bind_some]
      exact ih (_,_) ⟨hd,got_pick hs ha e k1 hg⟩
    ·
     rw [if_neg e,Option.bind_some]
     exact ih (_,_) ⟨hs,hg⟩
   ·
    rw [if_neg (by rw [decide_eq_true_iff]; omega)]
    exact ⟨s,rfl,hs,hg⟩)
  l.length (((l.length : Int) - 0).toNat + 1) 0 (c,got) (by omega) (by omega) ⟨h,hg⟩
theorem onceEach_l2 {a : TApp} {c : TConf} (h : CRightP a c) (ha : SzA a) {got : List (List Int)} (hg : GI a c got) : L_law05_PlainOnceEach_l2 c (((got.length : Int) - 0).toNat + 1) 0 got = some () := by
 have hlk := ha.g
 have hlen := hg.1
 have hse := h.nse
 have hli := h.nli
 have q := loopI (F := fun nf k (s : List (List Int)) => L_law05_PlainOnceEach_l2 c nf k s) (len := got.length) (fun _ s => s = got) (fun _ _ => some ())
  (fun nf s hs => by rw [L_law05_PlainOnceEach_l2,hs,if_neg (by omega)])
  (fun nf k s hk hs ih => by
   subst hs
   obtain ⟨l,z,e1,e2,q1,q2,_⟩ := h.at_link (j := k) (by omega)
   have e3 := List.getElem?_eq_getElem hk
   have hc := (hg.2 k _ l z e3 e1 e2).cnt
   have hf := hg.few h e3
   have a1 : at? c.Links (k : Int) = some l := by rw [at_nat]; exact e1
   have a2 : at? c.Sent (k : Int) = some z := by rw [at_nat]; exact e2
   rw [L_law05_PlainOnceEach_l2,if_pos (by omega),if_neg (by omega),if_neg (by omega),a2,Option.bind_some,at_get hk,Option.bind_some,a1,Option.bind_some,wr (by omega) (by omega),if_pos hc,wr_succ (by omega),Int.toNat_natCast,set_self e3]
   exact ih _ rfl)
  got.length (((got.length : Int) - 0).toNat + 1) 0 got (by omega) (by omega) rfl
 exact q
theorem plainOnceEach_true (a0 : TApp) (a1 : List TStep) (w0 : wTApp a0) (w1 : (wL 40 wTStep) a1) : L_law05_PlainOnceEach a0 a1 = some true := by
 classical
 unfold L_law05_PlainOnceEach
 rw [law_cutA,Option.bind_some]
 have ha := cutA_sz a0
 generalize cutA a0 = a at ha
 have hg := ha.g
 rw [law_app ha.t,Option.bind_some,ref_tright (by omega) ha.t,Option.bind_some]
 by_cases hR : TRightP a.T a.G
 ·
  have hc := start_right hR
  obtain ⟨r,e,r1,r2⟩ := onceEach_l1 ha a1 hc (got_start a)
  rw [if_pos (dT hR),plain_start ha,Option.bind_some,if_pos (by omega),if_pos (by omega),e,Option.bind_some]
  dsimp only
  rw [onceEach_l2 r1 ha r2,Option.bind_some,fixed05]
  rfl
 ·
  rw [if_neg (by rw [dF hR]; decide),fixed05]
  rfl
end Go.Proofs.Ytifcbecpemaieaa
