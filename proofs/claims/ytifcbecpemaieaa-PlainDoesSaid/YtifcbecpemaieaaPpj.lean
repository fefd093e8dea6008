/- Plain systems: all that can be done, the document's; the same configuration; sizes. No condition. -/
import Derived.Test.YtifcbecpemaieaaPpi
import Derived.Test.YtifcbecpemaieaaPpg
set_option linter.unusedSimpArgs false
set_option linter.unusedVariables false
namespace Go.Proofs.Ytifcbecpemaieaa
open Go.RowKit

section
variable {a : TApp} {c : TConf}
theorem rcan_l2 (h : CRightP a c) (ha : SzA a) (n : Nat) (acc : List TStep) (hacc : acc.length ≤ 100000) : L_ref05_Can_l2 a c n (((4 : Int) - 0).toNat + 1) 0 acc = some (acc ++ ((List.range 4).map fun k => (⟨0,(n : Nat),(k : Nat),0,0⟩ : TStep)).filter fun s => decide ((applyP a c s).2 = 0)) := by
 have q := loopMapO (F := fun nf k s => L_ref05_Can_l2 a c n nf k s) (l := List.range 4) (fun k => if decide ((applyP a c ⟨0,(n : Nat),(k : Nat),0,0⟩).2 = 0) = true then [(⟨0,(n : Nat),(k : Nat),0,0⟩ : TStep)] else []) id 100000 1 (fun x _ => by split <;> simp)
  (fun nf s hs => by rw [List.length_range,L_ref05_Can_l2,if_neg (by omega)]; rfl)
  (fun nf k s hk hs => by
   rw [List.length_range] at hk
   rw [L_ref05_Can_l2,if_pos (by omega),ref_apply h ha,Option.bind_some,wr_succ (by omega),List.getElem_range]
   by_cases e : (applyP a c ⟨0,(n : Nat),(k : Nat),0,0⟩).2 = 0
   · rw [if_pos e,if_pos (by omega),Option.bind_some,if_pos (dT e)]
   · rw [if_neg e,Option.bind_some,if_neg (by rw [dF e]; decide),List.append_nil])
  (List.range 4).length (((4 : Int) - 0).toNat + 1) 0 acc (by simp) (by rw [List.length_range]; omega) (by omega)
 rw [List.drop_zero,flatMap_if (fun k => decide ((applyP a c ⟨0,(n : Nat),(k : Nat),0,0⟩).2 = 0)) (fun k => (⟨0,(n : Nat),(k : Nat),0,0⟩ : TStep))] at q
 rw [List.filter_map]
 exact q
theorem rcan_l1 (h : CRightP a c) (ha : SzA a) : L_ref05_Can_l1 a c ((a.G.N - 0).toNat + 1) 0 [] = some ((picksOf a c.States.length).filter fun s => decide ((applyP a c s).2 = 0)) := by
 have hN := h.nst
 have h6 := h.tab.1.2.1
 have q := loopMapO (F := fun nf k s => L_ref05_Can_l1 a c nf k s) (l := List.range c.States.length) (fun n => ((List.range 4).map fun k => (⟨0,(n : Nat),(k : Nat),0,0⟩ : TStep)).filter fun s => decide ((applyP a c s).2 = 0)) id 0 4 (fun x _ => by
   refine Nat.le_trans (List.length_filter_le _ _) ?_
   simp)
  (fun nf s hs => by rw [List.length_range,L_ref05_Can_l1,if_neg (by omega)]; rfl)
  (fun nf k s hk hs => by
   rw [List.length_range] at hk
   rw [L_ref05_Can_l1,if_pos (by omega),rcan_l2 h ha k s (by omega),Option.bind_some,Option.bind_some,wr_succ (by omega),List.getElem_range])
  (List.range c.States.length).length ((a.G.N - 0).toNat + 1) 0 [] (by simp) (by rw [List.length_range]; omega) (by simp)
 unfold picksOf
 rw [List.filter_flatMap]
 exact q
theorem rcan_l4 (h : CRightP a c) (ha : SzA a) {j : Nat} (hj : j < c.Links.length) (acc : List TStep) (hacc : acc.length ≤ 1000000) : L_ref05_Can_l4 a c j (c.Links.flatten.length + 1) 0 acc = some (acc ++ ((((c.Links[j]?).getD []).map fun m => (⟨1,0,0,(j : Nat),m.Seq⟩ : TStep)).filter fun s => decide ((applyP a c s).2 = 0))) := by
 have hm := (h.sz ha).ms _ (List.getElem_mem hj)
 have hf := flat_len hj
 have el := List.getElem?_eq_getElem hj
 have q := loopMapO (F := fun nf k s => L_ref05_Can_l4 a c j nf k s) (l := c.Links[j]) (fun m => if decide ((applyP a c ⟨1,0,0,(j : Nat),m.Seq⟩).2 = 0) = true then [(⟨1,0,0,(j : Nat),m.Seq⟩ : TStep)] else []) id 1000000 1 (fun x _ => by split <;> simp)
  (fun nf s hs => by rw [L_ref05_Can_l4,at_get hj,Option.bind_some,if_neg (by omega)]; rfl)
  (fun nf k s hk hs => by
   have ok := del_ok h el (List.getElem?_eq_getElem hk)
   have e0 : (if ((k : Nat) : Int) = 0 then some true else some (!(a.Fifo))) = some (decide ((applyP a c ⟨1,0,0,(j : Nat),c.Links[j][k].Seq⟩).2 = 0)) := by
    by_cases k0 : k = 0
    ·
     rw [if_pos (by omega)]
     exact sT (ok.2 fun q => by omega)
    ·
     rw [if_neg (by omega)]
     cases hf : a.Fifo with
     | false => exact sT (ok.2 fun q => by rw [hf] at q; exact absurd q.1 (by decide))
     | true => exact sF fun q => ok.1 q ⟨hf,by omega⟩
   rw [L_ref05_Can_l4,at_get hj,Option.bind_some,if_pos (by omega),e0,Option.bind_some,at_get hk,Option.bind_some,wr_succ (by omega)]
   by_cases e : (applyP a c ⟨1,0,0,(j : Nat),c.Links[j][k].Seq⟩).2 = 0
   · rw [if_pos (dT e),if_pos (by omega),Option.bind_some,if_pos (dT e)]
   · rw [if_neg (by rw [dF e]; decide),Option.bind_some,if_neg (by rw [dF e]; decide),List.append_nil])
  c.Links[j].length (c.Links.flatten.length + 1) 0 acc (by omega) (by omega) (by omega)
 rw [List.drop_zero,flatMap_if (fun (m : TMsg) => decide ((applyP a c ⟨1,0,0,(j : Nat),m.Seq⟩).2 = 0)) (fun m => (⟨1,0,0,(j : Nat),m.Seq⟩ : TStep))] at q
 rw [List.filter_map,el,Option.getD_some]
 exact q
theorem rcan_l3 (h : CRightP a c) (ha : SzA a) (acc : List TStep) (hacc : acc.length ≤ 100) : L_ref05_Can_l3 a c (((c.Links.length : Int) - 0).toNat + 1) 0 acc = some (acc ++ (delsOf c).filter fun s => decide ((applyP a c s).2 = 0)) := by
 have hc := h.sz ha
 have hli := hc.li
 have q := loopMapO (F := fun nf k s => L_ref05_Can_l3 a c nf k s) (l := List.range c.Links.length) (fun j => ((((c.Links[j]?).getD []).map fun m => (⟨1,0,0,(j : Nat),m.Seq⟩ : TStep)).filter fun s => decide ((applyP a c s).2 = 0))) id 100 1000 (fun j hj => by
   have hj := List.mem_range.1 hj
   refine Nat.le_trans (List.length_filter_le _ _) ?_
   rw [List.length_map,List.getElem?_eq_getElem hj]
   exact hc.ms _ (List.getElem_mem hj))
  (fun nf s hs => by rw [List.length_range,L_ref05_Can_l3,if_neg (by omega)]; rfl)
  (fun nf k s hk hs => by
   rw [List.length_range] at hk
   rw [L_ref05_Can_l3,if_pos (by omega),rcan_l4 h ha hk s (by omega),Option.bind_some,Option.bind_some,wr_succ (by omega),List.getElem_range])
  (List.range c.Links.length).length (((c.Links.length : Int) - 0).toNat + 1) 0 acc (by simp) (by rw [List.length_range]; omega) (by omega)
 unfold delsOf
 rw [List.filter_flatMap]
 exact q
theorem ref_can (h : CRightP a c) (ha : SzA a) : L_ref05_Can a c = some (canP a c) := by
 have h6 := h.tab.1.2.1
 have hN := h.nst
 have hp := picks_len a (N := c.States.length) (by omega)
 have hf := List.length_filter_le (fun s => decide ((applyP a c s).2 = 0)) (picksOf a c.States.length)
 unfold L_ref05_Can canP
 rw [rcan_l1 h ha,Option.bind_some,rcan_l3 h ha _ (by omega),List.filter_append]
theorem can_len (h : CRightP a c) (ha : SzA a) : (canP a c).length ≤ 200000 := by
 have h6 := h.tab.1.2.1
 have hN := h.nst
 have hp := picks_len a (N := c.States.length) (by omega)
 have hd := dels_len (h.sz ha)
 have := List.length_filter_le (fun s => decide ((applyP a c s).2 = 0)) (picksOf a c.States.length ++ delsOf c)
 rw [List.length_append] at this
 unfold canP
 omega
theorem apply_bad {s : TStep} (he : (applyP a c s).2 ≠ 0) : (applyP a c s).1 = noC := by
 have hs : ∀ n z (o : Option (List (List TMsg) × List Int)),(sentP c n z o).2 ≠ 0 → (sentP c n z o).1 = noC := fun n z o => by
  cases o with
  | none => exact fun _ => rfl
  | some r => exact fun q => absurd rfl q
 unfold applyP at he ⊢
 split at he
 ·
  rename_i k0
  rw [if_pos k0]
  unfold pickP at he ⊢
  split at he
  · rename_i c1; rw [if_pos c1]
  ·
   rename_i c1
   rw [if_neg c1]
   split at he
   ·
    rename_i c2
    rw [if_pos c2]
    cases hp : pickOf (stOf a.T s.Node ((c.States[s.Node.toNat]?).getD 0)) s.K with
    | none => rfl
    | some p =>
     rw [hp] at he
     exact hs _ _ _ he
   · rename_i c2; rw [if_neg c2]
 ·
  rename_i k0
  rw [if_neg k0]
  split at he
  ·
   rename_i k1
   rw [if_pos k1]
   unfold deliverP at he ⊢
   split at he
   · rename_i c1; rw [if_pos c1]
   ·
    rename_i c1
    rw [if_neg c1]
    cases hp : placeP ((c.Links[s.Link.toNat]?).getD []) s.Seq with
    | none => rfl
    | some i =>
     rw [hp] at he
     dsimp only at he ⊢
     split at he
     · rename_i c2; rw [if_pos c2]
     · exact absurd rfl he
  · rename_i k1; rw [if_neg k1]
theorem noC_sz : SzC noC := ⟨by simp [noC],by simp [noC],fun l hl => by simp [noC] at hl,by simp [noC]⟩
theorem apply_sz (h : CRightP a c) (ha : SzA a) (s : TStep) : SzC (applyP a c s).1 := by
 by_cases e : (applyP a c s).2 = 0
 · exact (apply_right h ha e).sz ha
 · rw [apply_bad e]; exact noC_sz
end
theorem noC_conf : TConf.mk [] [] [] = noC := rfl
theorem noC_right {a : TApp} (h : ¬ TRightP a.T a.G) : ¬ CRightP a noC := fun q => h q.tab
end Go.Proofs.Ytifcbecpemaieaa
