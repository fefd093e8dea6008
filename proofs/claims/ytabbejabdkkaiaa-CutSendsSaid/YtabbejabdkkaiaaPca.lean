/- Configurations in plain words: what is cut, which may be. No condition. -/
import Derived.Test.YtabbejabdkkaiaaPtc
set_option linter.unusedSimpArgs false
set_option linter.unusedVariables false
namespace Go.Proofs.Ytabbejabdkkaiaa
open Go.RowKit

def cutA (a : TApp) : TApp := ⟨⟨a.G.N,a.G.Links.take 40⟩,cutL a.T,a.Fifo⟩
theorem law_cutA (a : TApp) : L_law05_Cut a = some (cutA a) := by
 unfold L_law05_Cut
 rw [law_cut,Option.bind_some,law_cutL,Option.bind_some]
 rfl
theorem law_app {a : TApp} (h : SzL a.T) : L_law05_App a = some a := by
 unfold L_law05_App
 rw [law_ref,Option.bind_some,law_refL h,Option.bind_some]
theorem law_conf (c : TConf) : L_law05_Ref c = some c := rfl
def MsgsP (z : Int) : Int → List TMsg → Prop
 | _,[] => True
 | last,m :: r => last < m.Seq ∧ m.Seq ≤ z ∧ 0 ≤ m.Letter ∧ m.Letter ≤ 3 ∧ MsgsP z m.Seq r
def LinkP (z : Int) (l : List TMsg) : Prop := 0 ≤ z ∧ z ≤ 500 ∧ MsgsP z 0 l
structure CRightP (a : TApp) (c : TConf) : Prop where
 tab : TRightP a.T a.G
 nst : (c.States.length : Int) = a.G.N
 nli : c.Links.length = a.G.Links.length
 nse : c.Sent.length = a.G.Links.length
 sts : ∀ (n : Nat) (s : Int),c.States[n]? = some s → 0 ≤ s ∧ ∀ x : TNode,a.T[n]? = some x → s < (x.States.length : Int)
 lnk : ∀ (l : Nat) (ms : List TMsg) (z : Int),c.Links[l]? = some ms → c.Sent[l]? = some z → LinkP z ms
structure SzC (c : TConf) : Prop where
 st : c.States.length ≤ 100
 li : c.Links.length ≤ 100
 ms : ∀ l ∈ c.Links,l.length ≤ 1000
 se : c.Sent.length ≤ 100
structure SzA (a : TApp) : Prop where
 g : a.G.Links.length ≤ 40
 t : SzL a.T
theorem cutA_sz (a : TApp) : SzA (cutA a) := ⟨cut_len a.G,cutL_sz a.T⟩
theorem msgs_drop {z : Int} {l : List TMsg} {k : Nat} (hk : k < l.length) (last : Int) : MsgsP z last (l.drop k) ↔ last < l[k].Seq ∧ l[k].Seq ≤ z ∧ 0 ≤ l[k].Letter ∧ l[k].Letter ≤ 3 ∧ MsgsP z l[k].Seq (l.drop (k + 1)) := by
 rw [List.drop_eq_getElem_cons hk]
 rfl
theorem and4c (p : Option Bool) (r a b c : Prop) {_ : Decidable r} {_ : Decidable a} {_ : Decidable b} {_ : Decidable c} (h : p = some (decide r)) (f : Bool → Option Bool) :
  ((p.bind fun x => if x = true then if a then if b then some (!(decide c)) else some true else some true else some true).bind f) = f (decide (¬ (r ∧ a ∧ b ∧ c))) := by
 rw [h,Option.bind_some]
 by_cases h1 : r
 ·
  rw [if_pos (dT h1)]
  by_cases h2 : a
  ·
   rw [if_pos h2]
   by_cases h3 : b
   ·
    rw [if_pos h3,Option.bind_some]
    congr 1
    exact Option.some.inj (ndec (not_congr ⟨fun q => q.2.2.2,fun q => ⟨h1,h2,h3,q⟩⟩))
   · rw [if_neg h3,Option.bind_some,dT' fun q => h3 q.2.2.1]
  · rw [if_neg h2,Option.bind_some,dT' fun q => h2 q.2.1]
 · rw [if_neg (by rw [dF h1]; decide),Option.bind_some,dT' fun q => h1 q.1]
def StsP (a : TApp) (n : Nat) (s : Int) : Prop := 0 ≤ s ∧ ∀ x : TNode,a.T[n]? = some x → s < (x.States.length : Int)
def LnkP (c : TConf) (l : Nat) (ms : List TMsg) : Prop := ∀ z,c.Sent[l]? = some z → LinkP z ms
theorem CRightP_iff {a : TApp} {c : TConf} (h1 : TRightP a.T a.G) (h2 : (c.States.length : Int) = a.G.N) (h3 : (c.Links.length : Int) = (a.G.Links.length : Int)) (h4 : (c.Sent.length : Int) = (a.G.Links.length : Int)) :
  CRightP a c ↔ (∀ n s,c.States[n]? = some s → StsP a n s) ∧ ∀ l ms,c.Links[l]? = some ms → LnkP c l ms :=
 ⟨fun h => ⟨h.sts,fun l ms hl z hz => h.lnk l ms z hl hz⟩,fun h => ⟨h1,h2,by omega,by omega,h.1,fun l ms z hl hz => h.2 l ms hl z hz⟩⟩
theorem sts_cur {a : TApp} {k : Nat} {s : Int} (hk : k < a.T.length) : StsP a k s ↔ 0 ≤ s ∧ s < (a.T[k].States.length : Int) :=
 and_congr_right fun _ => ⟨fun h => h _ (List.getElem?_eq_getElem hk),fun h x hx => by
  rw [List.getElem?_eq_getElem hk] at hx
  injection hx with hx
  exact hx ▸ h⟩
theorem flat_len {α : Type} : ∀ {l : List (List α)} {k : Nat} (hk : k < l.length),l[k].length ≤ l.flatten.length
 | x :: l,0,_ => by simp
 | x :: l,k + 1,hk => by
  have := flat_len (l := l) (k := k) (by simpa using hk)
  simp only [List.getElem_cons_succ,List.flatten_cons,List.length_append]
  omega
open Classical in
theorem ref_right5_l3 {c : TConf} (hc : SzC c) {k : Nat} (hk : k < c.Links.length) (hs : k < c.Sent.length) : L_ref05_Right_l3 c (k : Int) (c.Links.flatten.length + 1) 0 0 = some (if MsgsP c.Sent[k] 0 c.Links[k] then .inl () else .inr false) := by
 have hl := hc.ms _ (List.getElem_mem hk)
 have hf := flat_len hk
 have h := loopI (F := fun nf i (s : Int) => L_ref05_Right_l3 c (k : Int) nf s i) (len := c.Links[k].length) (fun _ _ => True) (fun i s => some (if MsgsP c.Sent[k] s (c.Links[k].drop i) then .inl () else .inr false))
  (fun nf s _ => by
   rw [L_ref05_Right_l3,at_get hk,Option.bind_some,if_neg (by omega),List.drop_length,if_pos (show MsgsP _ _ [] from trivial)])
  (fun nf i s hi _ ih => by
   rw [L_ref05_Right_l3,at_get hk,Option.bind_some,if_pos (by omega),at_get hi,Option.bind_some,at_get hs,Option.bind_some,or4,wr_succ (by omega)]
   by_cases q : c.Links[k][i].Seq ≤ s ∨ c.Links[k][i].Seq > c.Sent[k] ∨ c.Links[k][i].Letter < 0 ∨ c.Links[k][i].Letter > 3
   ·
    rw [if_pos (dT q),if_neg]
    intro r
    have := (msgs_drop hi s).1 r
    omega
   ·
    rw [if_neg (by rw [dF q]; decide),ih _ trivial]
    exact iteC ⟨fun r => (msgs_drop hi s).2 ⟨by omega,by omega,by omega,by omega,r⟩,fun r => ((msgs_drop hi s).1 r).2.2.2.2⟩)
  c.Links[k].length (c.Links.flatten.length + 1) 0 0 (by omega) (by omega) trivial
 exact h
open Classical in
theorem ref_right5 {a : TApp} {c : TConf} (ha : SzA a) (hc : SzC c) : L_ref05_Right a c = some (decide (CRightP a c)) := by
 unfold L_ref05_Right
 rw [and4c _ _ _ _ _ (ref_tright (by have := ha.g; omega) ha.t)]
 by_cases g0 : TRightP a.T a.G ∧ (c.States.length : Int) = a.G.N ∧ (c.Links.length : Int) = (a.G.Links.length : Int) ∧ (c.Sent.length : Int) = (a.G.Links.length : Int)
 ·
  rw [if_neg (by rw [dF' g0]; decide)]
  obtain ⟨g1,g2,g3,g4⟩ := g0
  have hT := g1.2.1
  have s1 := hc.st
  have s2 := hc.li
  have h1 := loopList (F := fun nf k => L_ref05_Right_l1 a c nf k) (l := c.States) (fun n s => StsP a n s) (.inl () : Unit ⊕ Bool) (.inr false)
   (fun nf => by rw [L_ref05_Right_l1,if_neg (by omega)])
   (fun nf k hk => stepN (by rw [L_ref05_Right_l1,if_pos (by omega),wr_succ (by omega)]) (by
    rw [at_get hk,Option.bind_some,sts_cur (by omega)]
    by_cases q : c.States[k] < 0
    ·
     rw [if_pos q]
     exact sT' fun r => by omega
    ·
     rw [if_neg q,at_get (by omega),Option.bind_some]
     exact sdec (by omega))) (((c.States.length : Int) - 0).toNat + 1) (by omega)
  have h2 := loopList (F := fun nf k => L_ref05_Right_l2 c nf k) (l := c.Links) (fun l ms => LnkP c l ms) true false
   (fun nf => by rw [L_ref05_Right_l2,if_neg (by omega)])
   (fun nf k hk => by
    have hs : k < c.Sent.length := by omega
    have e : LnkP c k c.Links[k] ↔ LinkP c.Sent[k] c.Links[k] := ⟨fun q => q _ (List.getElem?_eq_getElem hs),fun q z hz => by
     rw [List.getElem?_eq_getElem hs] at hz
     injection hz with hz
     exact hz ▸ q⟩
    refine stepS (v := ()) (by rw [L_ref05_Right_l2,if_pos (by omega),wr_succ (by omega)]) rfl rfl (fun q => ?_) (fun q => ?_)
    ·
     obtain ⟨q1,q2,q3⟩ := e.1 q
     rw [at_get hs,Option.bind_some,if_neg (by omega),Option.bind_some,if_neg (by rw [dF (by omega)]; decide),ref_right5_l3 hc hk hs,Option.bind_some,if_pos q3]
    ·
     rw [at_get hs,Option.bind_some]
     by_cases r1 : c.Sent[k] < 0
     · rw [if_pos r1,Option.bind_some,if_pos rfl]
     ·
      rw [if_neg r1,Option.bind_some]
      by_cases r2 : c.Sent[k] > 500
      · rw [if_pos (dT r2)]
      · rw [if_neg (by rw [dF r2]; decide),ref_right5_l3 hc hk hs,Option.bind_some,if_neg fun r3 => q (e.2 ⟨by omega,by omega,r3⟩)]) (((c.Links.length : Int) - 0).toNat + 1) (by omega)
  rw [h1,h2,Option.bind_some,dec_congr (CRightP_iff g1 g2 g3 g4)]
  by_cases q1 : ∀ n s,c.States[n]? = some s → StsP a n s
  ·
   rw [if_pos q1]
   dsimp only
   rw [ite_dec]
   exact sdec ⟨fun q => ⟨q1,q⟩,fun q => q.2⟩
  ·
   rw [if_neg q1]
   exact sF fun q => q1 q.1
 ·
  rw [if_pos (by rw [dT' g0])]
  exact sF fun q => g0 ⟨q.tab,q.nst,by rw [q.nli],by rw [q.nse]⟩
end Go.Proofs.Ytabbejabdkkaiaa
