/- Plain systems: what is copied is the same; where they start; what is the same is. No condition. -/
import Derived.Test.YtabbejabdkkaiaaPca
import Derived.Test.YtabbejabdkkaiaaPgf
set_option linter.unusedSimpArgs false
set_option linter.unusedVariables false
namespace Go.Proofs.Ytabbejabdkkaiaa
open Go.RowKit

theorem clone_msgs {l : List TMsg} (h : l.length ≤ 1000) : L_slices_Clone_api_Msg_api_Msg l = some l := by
 unfold L_slices_Clone_api_Msg_api_Msg
 rw [if_pos (by omega)]
theorem take_drop_all {α : Type} {l v : List α} (h : v.length = l.length) : (l.take v.length) ++ v.drop (l.take v.length).length = l := by
 rw [List.take_of_length_le (by omega),List.drop_eq_nil_of_le (by omega),List.append_nil]
theorem plain_own {c : TConf} (hc : SzC c) : L_plain_own c = some c := by
 have h1 := hc.st
 have h2 := hc.li
 have h3 := hc.se
 unfold L_plain_own
 rw [if_pos (by omega),if_pos (by omega),if_pos (by omega),if_pos (by omega),if_pos (by omega),if_pos (by omega),Option.bind_some,Option.bind_some]
 have q := loopI (F := fun nf k (s : List (List TMsg)) => L_plain_own_l1 c (List.replicate c.States.length 0) (List.replicate c.Sent.length 0) nf k s) (len := c.Links.length) (fun k s => s.length = c.Links.length ∧ s.take k = c.Links.take k) (fun _ _ => some c)
  (fun nf s ⟨hs,ht⟩ => by
   rw [L_plain_own_l1,if_neg (by omega),take_drop_all (by simp),take_drop_all (by simp)]
   rw [List.take_length,← hs,List.take_length] at ht
   rw [ht])
  (fun nf k s hk ⟨hs,ht⟩ ih => by
   have hk2 : k < s.length := by omega
   rw [L_plain_own_l1,if_pos (by omega),at_get hk,Option.bind_some,clone_msgs (hc.ms _ (List.getElem_mem hk)),Option.bind_some,at_get hk2,Option.bind_some,wr_succ (by omega),Int.toNat_natCast]
   refine ih _ ⟨by rw [List.length_set]; exact hs,?_⟩
   rw [List.take_succ_eq_append_getElem (by rw [List.length_set]; exact hk2),List.take_succ_eq_append_getElem hk,List.getElem_set_self,List.take_set_of_le (Nat.le_refl k),ht])
  c.Links.length (((c.Links.length : Int) - 0).toNat + 1) 0 (List.replicate c.Links.length []) (by omega) (by omega) ⟨by simp,by simp⟩
 exact q
theorem ref_own {c : TConf} (hc : SzC c) : L_ref05_Own c = some c := by
 have h1 := hc.st
 have h2 := hc.li
 have h3 := hc.se
 unfold L_ref05_Own
 rw [if_pos (by omega),if_pos (by omega)]
 have h := loopMap (F := fun nf n acc => L_ref05_Own_l1 c nf n acc) (l := c.Links) (fun p => [p]) (fun q => TConf.mk c.States q c.Sent) 1 (by simp)
  (fun nf acc h => by rw [L_ref05_Own_l1,if_neg (by omega)])
  (fun nf k acc hk h2 => by
   have := hc.ms _ (List.getElem_mem hk)
   rw [L_ref05_Own_l1,if_pos (by omega),at_get hk,Option.bind_some,if_pos (by omega),if_pos (by omega),wr_succ (by omega)])
  c.Links.length (((c.Links.length : Int) - 0).toNat + 1) 0 [] (by simp) (by omega) (by simp)
 rw [flatMap_self,List.drop_zero,List.nil_append] at h
 exact h
def startP (a : TApp) : TConf := ⟨a.T.map (·.Start),List.replicate a.G.Links.length [],List.replicate a.G.Links.length 0⟩
theorem law_steps {l : List TStep} (hl : l.length ≤ 1000000) : L_law05_Steps l = some l := by
 unfold L_law05_Steps
 have h := loopMap (F := fun nf n acc => L_law05_Steps_l1 l nf n acc) (l := l) (fun x => [x]) id 1 (by simp)
  (fun nf acc h => by rw [L_law05_Steps_l1,if_neg (by omega)]; rfl)
  (fun nf k acc hk h2 => by
   rw [L_law05_Steps_l1,if_pos (by omega),at_get hk,Option.bind_some,L_law05_Step,Option.bind_some,if_pos (by omega),wr_succ (by omega)])
  l.length (((l.length : Int) - 0).toNat + 1) 0 [] (by simp) (by omega) (by simp)
 rw [flatMap_self,List.drop_zero,List.nil_append] at h
 exact h
theorem msgs_len {z : Int} : ∀ {l : List TMsg} {last : Int},MsgsP z last l → 0 ≤ last → last ≤ z → (l.length : Int) ≤ z - last
 | [],last,_,_,_ => by simp; omega
 | m :: l,last,⟨h1,h2,_,_,h5⟩,h6,h7 => by
  have := msgs_len h5 (by omega) h2
  rw [List.length_cons]
  omega
theorem CRightP.sz {a : TApp} {c : TConf} (h : CRightP a c) (ha : SzA a) : SzC c := by
 have hg := ha.g
 have hN := h.nst
 have h6 := h.tab.1.2.1
 have h1 := h.nli
 have h2 := h.nse
 refine ⟨by omega,by omega,fun l hl => ?_,by omega⟩
 obtain ⟨j,hj,rfl⟩ := List.getElem_of_mem hl
 have hj2 : j < c.Sent.length := by omega
 obtain ⟨q1,q2,q3⟩ := h.lnk j _ _ (List.getElem?_eq_getElem hj) (List.getElem?_eq_getElem hj2)
 have := msgs_len q3 (by omega) q1
 omega
end Go.Proofs.Ytabbejabdkkaiaa
