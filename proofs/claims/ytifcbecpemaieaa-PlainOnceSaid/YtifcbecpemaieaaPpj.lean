/- Plain systems: all that can be done, the document's; the same configuration; sizes. No condition. -/
import Derived.Test.YtifcbecpemaieaaPpi
import Derived.Test.YtifcbecpemaieaaPpg
set_option linter.unusedSimpArgs false
set_option linter.unusedVariables false
namespace Go.Proofs.Ytifcbecpemaieaa
open Go.RowKit

section
variable {a : TApp} {c : TConf}
theorem rcan_l2 (h : CRightP a c) (ha : SzA a) (n : Nat) (acc : List TStep) (hacc : acc.length ≤ 100000) : L_ref05_Can_l2 a c n (((4 : Int) - 0).toNat + 1) 0 acc = some (acc ++ ((List.range 4).map fun k => (⟨0,(n : Nat),(k : Nat),0,0⟩ : TStep)).filter fun s => decide ((applyP a c s).2 = 0)) := by
 have q := loopMapO (F := fun nf k s => L_ref05_Can_l2 a c n nf k s) (l := List.range 4) (fun k => if decide ((applyP a c ⟨0,(n : Nat),(k : Nat),0,0⟩).2 = 0) = true then [(⟨0,(n : Nat),(k : Nat),0,0⟩ : TStep)] else []) id 100000 1 (fun x _ => by split <;> simp)
  (fun nf s hs => by rw [List.length_range,L_ref05_Can_l2,if_neg (by omega)]; rfl)
  (fun nf k s hk hs => by
   rw [List.length_range] at hk
   rw [L_ref05_Can_l2,if_pos (by omega),ref_apply h ha,Option.bind_some,wr_succ (by omega),List.getElem_range]
   by_cases e : (applyP a c ⟨0,(n : Nat),(k : Nat),0,0⟩).2 = 0
   · rw [if_pos e,if_pos (by omega),Option.bind_some,if_pos (dT e)]
   · rw [if_neg e,Option.bind_some,if_neg (by rw [dF e]; decide),List.append_nil])
  (List.range 4).length (((4 : Int) - 0).toNat + 1) 0 acc (by simp) (by rw [List.length_range]; omega) (by omega)
 rw [List.drop_zero,flatMap_if (fun k => decide ((applyP a c ⟨0,(n : Nat),(k : Nat),0,0⟩).2 = 0)) (fun k => (⟨0,(n : Nat),(k : Nat),0,0⟩ : TStep))] at q
 rw [List.filter_map]
 exact q
theorem rcan_l1 (h : CRightP a c) (ha : SzA a) : L_ref05_Can_l1 a c ((a.G.N - 0).toNat + 1) 0 [] = some ((picksOf a c.States.length).filter fun s => decide ((applyP a c s).2 = 0)) := by
 have hN := h.nst
 have h6 := h.tab.1.2.1
 have q := loopMapO (F := fun nf k s => L_ref05_Can_l1 a c nf k s) (l := List.range c.States.length) (fun n => ((List.range 4).map fun k => (⟨0,(n : Nat),(k : Nat),0,0⟩ : TStep)).filter fun s => decide ((applyP a c s).2 = 0)) id 0 4 (fun x _ => by
   refine Nat.le_trans (List.length_filter_le _ _) ?_
   simp)
  (fun nf s hs => by rw [List.length_range,L_ref05_Can_l1,if_neg (by omega)]; rfl)
  (fun nf k s hk hs => by
   rw [List.length_range] at hk
   rw [L_ref05_Can_l1,if_pos (by omega),rcan_l2 h ha k s (by omega),Option.bind_some,Option.bind_some,wr_succ (by omega),List.getElem_range])
  (List.range c.States.length).length ((a.G.N - 0).toNat + 1) 0 [] (by simp) (by rw [List.length_range]; omega) (by simp)
 unfold picksOf
 rw [List.filter_flatMap]
 exact q
theorem rcan_l4 (h : CRightP a c) (ha : SzA a) {j : Nat} (hj : j < c.Links.length) (acc : List TStep) (hacc : acc.length ≤ 1000000) : L_ref05_Can_l4 a c j (c.Links.flatten.length + 1) 0 acc = some (acc ++ ((((c.Links[j]?).getD []).map fun m => (⟨1,0,0,(j : Nat),m.Seq⟩ : TStep)).filter fun s => decide ((applyP a c s).2 = 0))) := by
 have hm := (h.sz ha).ms _ (List.getElem_mem hj)
 have hf := flat_len hj
 have el := List.getElem?_eq_getElem hj
 have q := loopMapO (F := fun nf k s => L_ref05_Can_l4 a c j nf k s) (l := c.Links[j]) (fun m => if decide ((applyP a c ⟨1,0,0,(j : Nat),m.Seq⟩).2 = 0) = true then [(⟨1,0,0,(j : Nat),m.Seq⟩ : TStep)] else []) id 1000000 1 (fun x _ => by split <;> simp)
  (fun nf s hs => by rw [L_ref05_Can_l4,at_get hj,Option.bind_some,if_neg (by omega)]; rfl)
  (fun nf k s hk hs => by
   have ok := del_ok h el (List.getElem?_eq_getElem hk)
   have e0 : (if ((k : Nat) : Int) = 0 then some true else some (!(a.Fifo))) = some (decide ((applyP a c ⟨1,0,0,(j : Nat),c.Links[j][k].Seq⟩).2 = 0)) := by
    by_cases k0 : k = 0
    ·
     rw [if_pos (by omega)]
     exact sT (ok.2 fun q => by omega)
    ·
     rw [if_neg (by omega)]
     cases hf : a.Fifo with
     | false => exact sT (ok.2 fun q => by rw [hf] at q; exact absurd q.1 (by decide))
     | true => exact sF fun q => ok.1 q ⟨hf,by omega⟩
   rw [L_ref05_Can_l4,at_get hj,Option.bind_some,if_pos (by omega),e0,Option.bind_some,at_get hk,Option.bind_some,wr_succ (by omega)]
   by_cases e : (applyP a c ⟨1,0,0,(j : Nat),c.Links[j][k].Seq⟩).2 = 0
   · rw [if_pos (dT e),if_pos (by omega),Option.bind_some,if_pos (dT e)]
   · rw [if_neg (by rw [dF e]; decide),Option.bind_some,if_neg (by rw [dF e]; decide),List.append_nil])
  c.Links[j].length (c.Links.flatten.length + 1) 0 acc (by omega) (by omega) (by omega)
 rw [List.drop_zero,flatMap_if (fun (m : TMsg) => decide ((applyP a c ⟨1,0,0,(j : Nat),m.Seq⟩).2 = 0)) (fun m => (⟨1,0,0,(j : Nat),m.Seq⟩ : TStep))] at q
 rw [List.filter_map,el,Option.getD_some]
 exact q
theorem rcan_l3 (h : CRightP a c) (ha : SzA a) (acc : List TStep) (hacc : acc.length ≤ 100) : L_ref05_Can_l3 a c (((c.Links.length : Int) - 0).toNat + 1) 0 acc = some (acc ++ (delsOf c).filter fun s => decide ((applyP a c s).2 = 0)) := by
 have hc := h.sz ha
 have hli := hc.li
 have q := loopMapO (F := fun nf k s => L_ref05_Can_l3 a c nf k s) (l := List.range c.Links.length) (fun j => ((((c.Links[j]?).getD []).map fun m => (⟨1,0,0,(j : Nat),m.Seq⟩ : TStep)).filter fun s => decide ((applyP a c s).2 = 0))) id 100 1000 (fun j hj => by
   have hj := List.mem_range.1 hj
   refine Nat.le_trans (List.length_filter_le _ _) ?_
   rw [List.length_map,List.getElem?_eq_getElem hj]
   exact hc.ms _ (List.getElem_mem hj))
  (fun nf s hs => by rw [List.length_range,L_ref05_Can_l3,if_neg (by omega)]; rfl)
  (fun nf k s hk hs => by
   rw [List.length_range] at hk
   rw [L_ref05_Can_l3,if_pos (by omega),rcan_l4 h ha hk s (by omega),Option.bind_some,Option.bind_some,wr_succ (by omega),List.getElem_range])
  (List.range c.Links.length).length (((c.Links.length : Int) - 0).toNat + 1) 0 acc (by simp) (by rw [List.length_range]; omega) (by omega)
 unfold delsOf
 rw [List.filter_flatMap]
 exact q
theorem ref_can (h : CRightP a c) (ha : SzA a) : L_ref05_Can a c = some (canP a c) := by
 have h6 := h.tab.1.2.1
 have hN := h.nst
 have hp := picks_len a (N := c.States.length) (by omega)
 have hf := List.length_filter_le (fun s => decide ((applyP a c s).2 = 0)) (picksOf a c.States.length)
 unfold L_ref05_Can canP
 rw [rcan_l1 h ha,Option.bind_some,rcan_l3 h ha _ (by omega),List.filter_append]
theorem can_len (h : CRightP a c) (ha : SzA a) : (canP a c).length ≤ 200000 := by
 have h6 := h.tab.1.2.1
 have hN := h.nst
 have hp := picks_len a (N := c.States.length) (by omega)
 have hd := dels_len (h.sz ha)
 have := List.length_filter_le (fun s => decide ((applyP a c s).2 = 0)) (picksOf a c.States.length ++ delsOf c)
 rw [List.length_append] at this
 unfold canP
 omega
end
open Classical in
theorem eqLoop {α : Type} {F : Nat → Int → Option Bool} {a b : List α} (hl : a.length = b.length) (fin : ∀ nf,F (nf + 1) (a.length : Int) = some true)
  (step : ∀ nf k (h : k < a.length) (h' : k < b.length),(a[k] = b[k] → F (nf + 1) (k : Int) = F nf ((k + 1 : Nat) : Int)) ∧ (a[k] ≠ b[k] → F (nf + 1) (k : Int) = some false)) (nf : Nat) (hn : a.length < nf) : F nf 0 = some (decide (a = b)) := by
 have h := loopList (F := F) (l := a) (fun k x => b[k]? = some x) true false fin (fun nf k hk => by
  have hk' : k < b.length := by omega
  rw [List.getElem?_eq_getElem hk']
  exact ⟨fun e => (step nf k hk hk').1 (Option.some.inj e).symm,fun e => (step nf k hk hk').2 fun r => e (by rw [r])⟩) nf hn
 rw [h,ite_dec]
 refine sdec ⟨fun q => List.ext_getElem? fun k => ?_,fun e k x hx => e ▸ hx⟩
 by_cases hk : k < a.length
 · rw [List.getElem?_eq_getElem hk,q k _ (List.getElem?_eq_getElem hk)]
 · rw [List.getElem?_eq_none (by omega),List.getElem?_eq_none (by omega)]
open Classical in
theorem ref_msgs {x y : List TMsg} (hx : x.length ≤ 10000) : L_ref05_Msgs x y = some (decide (x = y)) := by
 unfold L_ref05_Msgs
 by_cases hl : x.length = y.length
 ·
  rw [if_pos (by omega)]
  refine Eq.trans (eqLoop (F := fun nf k => L_ref05_Msgs_l1 x y nf k) hl (fun nf => by rw [L_ref05_Msgs_l1,if_neg (by omega)])
   (fun nf k h h' => by
    rw [L_ref05_Msgs_l1,if_pos (by omega),at_get h,at_get h',Option.bind_some,Option.bind_some,wr_succ (show k < 9223372036854775807 by omega)]
    exact ⟨fun e => by rw [if_pos e],fun e => by rw [if_neg e]⟩) (((x.length : Int) - 0).toNat + 1) (by omega)) (sdec Iff.rfl)
 ·
  rw [if_neg (by omega)]
  exact sF fun e => hl (by rw [e])
open Classical in
theorem eq_msgs {x y : List TMsg} (hx : x.length ≤ 10000) : L_slices_Equal_api_Msg_api_Msg x y = some (decide (x = y)) := by
 unfold L_slices_Equal_api_Msg_api_Msg
 by_cases hl : x.length = y.length
 ·
  rw [if_pos (by omega)]
  refine Eq.trans (eqLoop (F := fun nf k => L_slices_Equal_api_Msg_api_Msg_l1 x y nf k) hl (fun nf => by rw [L_slices_Equal_api_Msg_api_Msg_l1,if_neg (by omega)])
   (fun nf k h h' => by
    rw [L_slices_Equal_api_Msg_api_Msg_l1,if_pos (by omega),at_get h,at_get h',Option.bind_some,Option.bind_some,wr_succ (show k < 9223372036854775807 by omega)]
    exact ⟨fun e => by rw [if_pos e],fun e => by rw [if_neg e]⟩) (((x.length : Int) - 0).toNat + 1) (by omega)) (sdec Iff.rfl)
 ·
  rw [if_neg (by omega)]
  exact sF fun e => hl (by rw [e])
open Classical in
theorem eq_ints {x y : List Int} (hx : x.length ≤ 10000) : L_slices_Equal_int_int x y = some (decide (x = y)) := by
 unfold L_slices_Equal_int_int
 by_cases hl : x.length = y.length
 ·
  rw [if_pos (by omega)]
  refine Eq.trans (eqLoop (F := fun nf k => L_slices_Equal_int_int_l1 x y nf k) hl (fun nf => by rw [L_slices_Equal_int_int_l1,if_neg (by omega)])
   (fun nf k h h' => by
    rw [L_slices_Equal_int_int_l1,if_pos (by omega),at_get h,at_get h',Option.bind_some,Option.bind_some,wr_succ (show k < 9223372036854775807 by omega)]
    exact ⟨fun e => by rw [if_pos e],fun e => by rw [if_neg e]⟩) (((x.length : Int) - 0).toNat + 1) (by omega)) (sdec Iff.rfl)
 ·
  rw [if_neg (by omega)]
  exact sF fun e => hl (by rw [e])
open Classical in
theorem eq_links {x y : List (List TMsg)} (hx : x.length ≤ 10000) (hm : ∀ l ∈ x,l.length ≤ 1000) : L_slices_EqualFunc_api_Msg_api_Msg_api_Msg_api_Msg x y = some (decide (x = y)) := by
 unfold L_slices_EqualFunc_api_Msg_api_Msg_api_Msg_api_Msg
 by_cases hl : x.length = y.length
 ·
  rw [if_pos (by omega)]
  refine Eq.trans (eqLoop (F := fun nf k => L_slices_EqualFunc_api_Msg_api_Msg_api_Msg_api_Msg_l1 x y nf k) hl (fun nf => by rw [L_slices_EqualFunc_api_Msg_api_Msg_api_Msg_api_Msg_l1,if_neg (by omega)])
   (fun nf k h h' => by
    have := hm _ (List.getElem_mem h)
    rw [L_slices_EqualFunc_api_Msg_api_Msg_api_Msg_api_Msg_l1,if_pos (by omega),at_get h,at_get h',Option.bind_some,Option.bind_some,eq_msgs (by omega),Option.bind_some,wr_succ (show k < 9223372036854775807 by omega)]
    exact ⟨fun e => by rw [if_pos (dT e)],fun e => by rw [if_neg (by rw [dF e]; decide)]⟩) (((x.length : Int) - 0).toNat + 1) (by omega)) (sdec Iff.rfl)
 ·
  rw [if_neg (by omega)]
  exact sF fun e => hl (by rw [e])
theorem conf_eq {c d : TConf} : c = d ↔ c.States = d.States ∧ c.Links = d.Links ∧ c.Sent = d.Sent :=
 ⟨fun e => by rw [e]; exact ⟨rfl,rfl,rfl⟩,fun ⟨h1,h2,h3⟩ => by cases c; cases d; dsimp only at h1 h2 h3; rw [h1,h2,h3]⟩
open Classical in
theorem plain_same {c d : TConf} (hc : SzC c) : L_plain_Same c d = some (decide (c = d)) := by
 have h1 := hc.st
 have h2 := hc.li
 have h3 := hc.se
 unfold L_plain_Same
 rw [eq_ints (by omega),Option.bind_some,eq_links (by omega) hc.ms,eq_ints (by omega),Option.bind_some]
 by_cases e1 : c.States = d.States
 ·
  rw [if_pos (dT e1)]
  by_cases e2 : c.Links = d.Links
  ·
   rw [if_pos (dT e2),Option.bind_some,Option.bind_some]
   exact sdec ⟨fun e3 => conf_eq.2 ⟨e1,e2,e3⟩,fun e => (conf_eq.1 e).2.2⟩
  ·
   rw [if_neg (by rw [dF e2]; decide),Option.bind_some]
   exact sF fun e => e2 (conf_eq.1 e).2.1
 ·
  rw [if_neg (by rw [dF e1]; decide),Option.bind_some]
  exact sF fun e => e1 (conf_eq.1 e).1
open Classical in
theorem ref_same {c d : TConf} (hc : SzC c) : L_ref05_Same c d = some (decide (c = d)) := by
 have h1 := hc.st
 have h2 := hc.li
 have h3 := hc.se
 unfold L_ref05_Same
 rw [ref01_Ints (by unfold sm; omega),Option.bind_some]
 by_cases e1 : c.States = d.States
 ·
  rw [if_pos (dT e1),ref01_Ints (by unfold sm; omega),Option.bind_some]
  by_cases e2 : c.Sent = d.Sent
  ·
   rw [if_pos (dT e2),Option.bind_some]
   by_cases e3 : c.Links.length = d.Links.length
   ·
    rw [if_neg (by rw [dT (by omega)]; decide)]
    have h := eqLoop (F := fun nf k => L_ref05_Same_l1 c d nf k) e3 (fun nf => by rw [L_ref05_Same_l1,if_neg (by omega)])
     (fun nf k h h' => by
      have := hc.ms _ (List.getElem_mem h)
      rw [L_ref05_Same_l1,if_pos (by omega),at_get h,at_get h',Option.bind_some,Option.bind_some,ref_msgs (by omega),Option.bind_some,wr_succ (show k < 9223372036854775807 by omega)]
      exact ⟨fun e => by rw [if_pos (dT e)],fun e => by rw [if_neg (by rw [dF e]; decide)]⟩) (((c.Links.length : Int) - 0).toNat + 1) (by omega)
    rw [h]
    exact sdec ⟨fun e => conf_eq.2 ⟨e1,e,e2⟩,fun e => (conf_eq.1 e).2.1⟩
   ·
    rw [if_pos (by rw [dF (by omega)]; decide)]
    exact sF fun e => e3 (by rw [e])
  ·
   rw [if_neg (by rw [dF e2]; decide),Option.bind_some,if_pos rfl]
   exact sF fun e => e2 (conf_eq.1 e).2.2
 ·
  rw [if_neg (by rw [dF e1]; decide),Option.bind_some,if_pos rfl]
  exact sF fun e => e1 (conf_eq.1 e).1
end Go.Proofs.Ytifcbecpemaieaa
