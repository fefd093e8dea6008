/- Plain systems: a delivery, a step: the program's, and the document's. No condition. -/
import Derived.Test.YtabbejabdkkaiaaPpb
set_option linter.unusedSimpArgs false
set_option linter.unusedVariables false
namespace Go.Proofs.Ytabbejabdkkaiaa
open Go.RowKit

def placeI (q : Int) : List TMsg → Nat → Option Nat
 | [],_ => none
 | m :: l,k => if m.Seq = q then some k else placeI q l (k + 1)
def placeP (l : List TMsg) (q : Int) : Option Nat := placeI q l 0
def placeN : Option Nat → Int
 | some i => i
 | none => -1
theorem placeI_some {q : Int} : ∀ {l : List TMsg} {k i : Nat},placeI q l k = some i → ∃ j,i = k + j ∧ j < l.length ∧ ∃ m,l[j]? = some m ∧ m.Seq = q
 | [],k,i,h => by cases h
 | m :: l,k,i,h => by
  unfold placeI at h
  split at h
  ·
   rename_i e
   injection h with h
   exact ⟨0,by omega,by simp,m,by simp,e⟩
  ·
   obtain ⟨j,h1,h2,h3⟩ := placeI_some h
   exact ⟨j + 1,by omega,by simp; omega,by simpa using h3⟩
theorem placeP_some {l : List TMsg} {q : Int} {i : Nat} (h : placeP l q = some i) : ∃ hi : i < l.length,l[i].Seq = q := by
 obtain ⟨j,h1,h2,m,h3,h4⟩ := placeI_some h
 obtain rfl : i = j := by omega
 rw [List.getElem?_eq_getElem h2] at h3
 injection h3 with h3
 exact ⟨h2,by rw [h3]; exact h4⟩
theorem ref_place {l : List TMsg} (hl : l.length ≤ 10000) (q : Int) : L_ref05_Place l q = some (placeN (placeP l q)) := by
 unfold L_ref05_Place placeP
 have h := loopI (σ := Unit) (F := fun nf k _ => L_ref05_Place_l1 l q nf k) (len := l.length) (fun _ _ => True) (fun k _ => some (placeN (placeI q (l.drop k) k)))
  (fun nf _ _ => by
   rw [L_ref05_Place_l1,if_neg (by omega),List.drop_length]
   rfl)
  (fun nf k _ hk _ ih => by
   rw [L_ref05_Place_l1,if_pos (by omega),at_get hk,Option.bind_some,List.drop_eq_getElem_cons hk,placeI,wr_succ (by omega)]
   by_cases e : l[k].Seq = q
   · rw [if_pos e,if_pos e]; rfl
   · rw [if_neg e,if_neg e]; exact ih () trivial)
  l.length (((l.length : Int) - 0).toNat + 1) 0 () (by omega) (by omega) trivial
 exact h
theorem plain_place {l : List TMsg} (hl : l.length ≤ 10000) (s : TStep) : L_slices_IndexFunc_api_Msg_api_Msg l s = some (placeN (placeP l s.Seq),s) := by
 unfold L_slices_IndexFunc_api_Msg_api_Msg placeP
 have h := loopI (σ := Unit) (F := fun nf k _ => L_slices_IndexFunc_api_Msg_api_Msg_l1 l nf k s) (len := l.length) (fun _ _ => True) (fun k _ => some (placeN (placeI s.Seq (l.drop k) k),s))
  (fun nf _ _ => by
   rw [L_slices_IndexFunc_api_Msg_api_Msg_l1,if_neg (by omega),List.drop_length]
   rfl)
  (fun nf k _ hk _ ih => by
   rw [L_slices_IndexFunc_api_Msg_api_Msg_l1,if_pos (by omega),at_get hk,Option.bind_some,L_plain_App_deliver_1,Option.bind_some,List.drop_eq_getElem_cons hk,placeI,wr_succ (by omega)]
   dsimp only
   by_cases e : l[k].Seq = s.Seq
   · rw [if_pos (dT e),if_pos e]; rfl
   · rw [if_neg (by rw [dF e]; decide),if_neg e]; exact ih () trivial)
  l.length (((l.length : Int) - 0).toNat + 1) 0 () (by omega) (by omega) trivial
 exact h
theorem slices_delete {l : List TMsg} (hl : l.length ≤ 10000) {i : Nat} (hi : i < l.length) : L_slices_Delete_api_Msg_api_Msg l (i : Int) ((i + 1 : Nat) : Int) = some (l.take i ++ l.drop (i + 1)) := by
 unfold L_slices_Delete_api_Msg_api_Msg
 rw [if_pos (by omega),if_pos (by omega),if_pos (by omega),if_neg (by omega),Int.toNat_natCast,Int.toNat_natCast,if_pos (by omega)]
def doneP (a : TApp) (c : TConf) (x : A2I) (j : Nat) (l : List TMsg) (i : Nat) (m : TMsg) : TConf :=
 ⟨c.States.set x.a1.toNat (takenOf (stOf a.T x.a1 ((c.States[x.a1.toNat]?).getD 0)).Takes ((c.States[x.a1.toNat]?).getD 0) x.a0 m.Letter),c.Links.set j (l.take i ++ l.drop (i + 1)),c.Sent⟩
def deliverP (a : TApp) (c : TConf) (s : TStep) : TConf × Int :=
 if s.Link < 0 ∨ s.Link ≥ (a.G.Links.length : Int) then (noC,1) else
 match placeP ((c.Links[s.Link.toNat]?).getD []) s.Seq with
 | none => (noC,3)
 | some i => if a.Fifo = true ∧ 0 < i then (noC,3) else
  (doneP a c ((a.G.Links[s.Link.toNat]?).getD ⟨0,0⟩) s.Link.toNat ((c.Links[s.Link.toNat]?).getD []) i ((((c.Links[s.Link.toNat]?).getD [])[i]?).getD ⟨0,0⟩),0)
theorem plain_deliver {a : TApp} {c : TConf} (h : CRightP a c) (ha : SzA a) (s : TStep) : L_plain_App_deliver a c s = some (deliverP a c s) := by
 have hN := h.nst
 have hc := h.sz ha
 have hli := h.nli
 unfold L_plain_App_deliver deliverP
 rw [borf]
 by_cases c1 : s.Link < 0 ∨ s.Link ≥ (a.G.Links.length : Int)
 ·
  rw [if_pos (dT c1),if_pos c1]
  rfl
 ·
  obtain ⟨j,ej⟩ : ∃ j : Nat,s.Link = j := ⟨s.Link.toNat,by omega⟩
  have hj : j < c.Links.length := by omega
  have hjg : j < a.G.Links.length := by omega
  have hm := hc.ms _ (List.getElem_mem hj)
  have hgood := h.tab.1.link (List.getElem_mem hjg)
  rw [if_neg (by rw [dF c1]; decide),if_neg c1,ej,at_get hj,Option.bind_some,plain_place (by omega),Option.bind_some]
  simp only [ej,Int.toNat_natCast]
  rw [List.getElem?_eq_getElem hj,List.getElem?_eq_getElem hjg,Option.getD_some,Option.getD_some]
  cases hp : placeP c.Links[j] s.Seq with
  | none =>
   have hneg : placeN none < 0 := by decide
   rw [if_pos hneg,Option.bind_some,if_pos rfl]
   rfl
  | some i =>
   obtain ⟨hi,_⟩ := placeP_some hp
   have hn : a.G.Links[j].a1.toNat < c.States.length := by have := hgood.2.2.2.1; have := hgood.2.2.1; omega
   rw [show placeN (some i) = (i : Int) from rfl]
   dsimp only
   rw [if_neg (by omega)]
   by_cases c2 : a.Fifo = true ∧ 0 < i
   ·
    rw [if_pos c2.1,if_pos c2,Option.bind_some,if_pos (dT (by omega))]
    rfl
   ·
    have e : (if a.Fifo = true then some (decide ((i : Int) > 0)) else some false) = some false := by
     by_cases q : a.Fifo = true
     · rw [if_pos q,dF fun r => c2 ⟨q,by omega⟩]
     · rw [if_neg q]
    have hg2 := hgood.2.2.1
    have hg3 := hgood.2.2.2.1
    rw [e,Option.bind_some,if_neg (by decide),if_neg c2,at_get hjg,Option.bind_some,plain_own hc,Option.bind_some,at_lt hg2 (by omega),Option.bind_some,at_get hj,Option.bind_some,at_get hi,Option.bind_some,table_taken ha.t,Option.bind_some,Option.bind_some,Option.bind_some,wr_succ (by omega),slices_delete (by omega) hi,Option.bind_some,List.getElem?_eq_getElem hi,Option.getD_some]
    unfold doneP
    rw [List.getElem?_eq_getElem hn,Option.getD_some]
theorem ref_takenP (l : List TNode) (n s a b : Int) (hl : SzL l) : L_ref04_Taken l n s a b = some (takenOf (stOf l n s).Takes s a b) := by
 unfold L_ref04_Taken
 have hz := (stOf_sz hl n s).2.2.2
 rw [ref_at,Option.bind_some]
 generalize stOf l n s = r at hz
 have h := loopI (σ := Unit) (F := fun nf k _ => L_ref04_Taken_l1 s a b r nf k) (len := r.Takes.length) (fun _ _ => True) (fun k _ => some (takenOf (r.Takes.drop k) s a b))
  (fun nf _ _ => by
   rw [L_ref04_Taken_l1,if_neg (by omega),List.drop_length]
   rfl)
  (fun nf k _ hk _ ih => by
   rw [L_ref04_Taken_l1,if_pos (by omega),at_get hk,Option.bind_some,baf,Option.bind_some,List.drop_eq_getElem_cons hk,wr_succ (by omega),ih () trivial]
   unfold takenOf
   rw [List.find?_cons]
   unfold takeB
   by_cases c : r.Takes[k].From = a ∧ r.Takes[k].Letter = b
   · rw [if_pos (dT c),dT c]
   · rw [if_neg (by rw [dF c]; decide),dF c])
  r.Takes.length (((r.Takes.length : Int) - 0).toNat + 1) 0 () (by omega) (by omega) trivial
 exact h
theorem ref_deliver {a : TApp} {c : TConf} (h : CRightP a c) (ha : SzA a) (s : TStep) : L_ref05_deliver a c s = some (deliverP a c s) := by
 have hN := h.nst
 have hc := h.sz ha
 have hli := h.nli
 unfold L_ref05_deliver deliverP
 rw [borf]
 by_cases c1 : s.Link < 0 ∨ s.Link ≥ (a.G.Links.length : Int)
 ·
  rw [if_pos (dT c1),if_pos c1]
  rfl
 ·
  obtain ⟨j,ej⟩ : ∃ j : Nat,s.Link = j := ⟨s.Link.toNat,by omega⟩
  have hj : j < c.Links.length := by omega
  have hjg : j < a.G.Links.length := by omega
  have hm := hc.ms _ (List.getElem_mem hj)
  have hgood := h.tab.1.link (List.getElem_mem hjg)
  rw [if_neg (by rw [dF c1]; decide),if_neg c1,ej,at_get hj,Option.bind_some,ref_place (by omega),Option.bind_some]
  simp only [ej,Int.toNat_natCast]
  rw [List.getElem?_eq_getElem hj,List.getElem?_eq_getElem hjg,Option.getD_some,Option.getD_some]
  cases hp : placeP c.Links[j] s.Seq with
  | none =>
   have hneg : placeN none < 0 := by decide
   rw [if_pos hneg,Option.bind_some,if_pos rfl]
   rfl
  | some i =>
   obtain ⟨hi,_⟩ := placeP_some hp
   have hn : a.G.Links[j].a1.toNat < c.States.length := by have := hgood.2.2.2.1; have := hgood.2.2.1; omega
   rw [show placeN (some i) = (i : Int) from rfl]
   dsimp only
   rw [if_neg (by omega)]
   by_cases c2 : a.Fifo = true ∧ 0 < i
   ·
    rw [if_pos (by omega),if_pos c2,Option.bind_some,if_pos c2.1]
    rfl
   ·
    have e : (if (i : Int) > 0 then some a.Fifo else some false) = some false := by
     by_cases q : (i : Int) > 0
     ·
      rw [if_pos q]
      cases e2 : a.Fifo with
      | false => rfl
      | true => exact absurd ⟨e2,by omega⟩ c2
     · rw [if_neg q]
    have hg2 := hgood.2.2.1
    have hg3 := hgood.2.2.2.1
    rw [e,Option.bind_some,if_neg (by decide),if_neg c2,ref_own hc,Option.bind_some,at_get hjg,Option.bind_some,at_lt hg2 (by omega),Option.bind_some,at_get hi,Option.bind_some,ref_takenP _ _ _ _ _ ha.t,Option.bind_some,Option.bind_some,if_pos (by omega),if_pos (by omega),Option.bind_some,if_pos (by rw [List.length_take]; omega),wr_succ (by omega),if_pos (by omega),if_pos (by omega),Option.bind_some,Int.toNat_natCast,Int.toNat_natCast,if_pos (by rw [List.length_take,List.length_drop]; omega),at_get hj,Option.bind_some,List.getElem?_eq_getElem hi,Option.getD_some]
    unfold doneP
    rw [List.getElem?_eq_getElem hn,Option.getD_some]
def applyP (a : TApp) (c : TConf) (s : TStep) : TConf × Int := if s.Kind = 0 then pickP a c s else if s.Kind = 1 then deliverP a c s else (noC,1)
theorem plain_apply {a : TApp} {c : TConf} (h : CRightP a c) (ha : SzA a) (s : TStep) : L_plain_Apply a c s = some (applyP a c s) := by
 unfold L_plain_Apply applyP
 rw [plain_pick h ha,Option.bind_some,plain_deliver h ha,Option.bind_some]
 split
 · rfl
 · split <;> rfl
theorem ref_apply {a : TApp} {c : TConf} (h : CRightP a c) (ha : SzA a) (s : TStep) : L_ref05_Apply a c s = some (applyP a c s) := by
 unfold L_ref05_Apply applyP
 rw [ref_pick h ha,Option.bind_some,ref_deliver h ha,Option.bind_some]
 split
 · rfl
 · split <;> rfl
end Go.Proofs.Ytabbejabdkkaiaa
