/- Plain systems: all that can be done. No condition. -/
import Derived.Test.YtifcbecpemaieaaPpf
set_option linter.unusedSimpArgs false
set_option linter.unusedVariables false
namespace Go.Proofs.Ytifcbecpemaieaa
open Go.RowKit

def picksOf (a : TApp) (N : Nat) : List TStep := (List.range N).flatMap fun n => (List.range 4).map fun k => ⟨0,(n : Nat),(k : Nat),0,0⟩
def delsOf (c : TConf) : List TStep := (List.range c.Links.length).flatMap fun j => ((c.Links[j]?).getD []).map fun m => ⟨1,0,0,(j : Nat),m.Seq⟩
def canP (a : TApp) (c : TConf) : List TStep := (picksOf a c.States.length ++ delsOf c).filter fun s => decide ((applyP a c s).2 = 0)
theorem can_l2 (n : Nat) (acc : List TStep) (h : acc.length ≤ 100000) : L_plain_Can_l2 n (((4 : Int) - 0).toNat + 1) 0 acc = some (acc ++ (List.range 4).map fun k => ⟨0,(n : Nat),(k : Nat),0,0⟩) := by
 have q := loopMapO (F := fun nf k s => L_plain_Can_l2 n nf k s) (l := List.range 4) (fun k => [(⟨0,(n : Nat),(k : Nat),0,0⟩ : TStep)]) id 100000 1 (fun x _ => by simp)
  (fun nf s hs => by rw [List.length_range,L_plain_Can_l2,if_neg (by omega)]; rfl)
  (fun nf k s hk hs => by
   rw [List.length_range] at hk
   rw [L_plain_Can_l2,if_pos (by omega),if_pos (by omega),wr_succ (by omega),List.getElem_range])
  (List.range 4).length (((4 : Int) - 0).toNat + 1) 0 acc (by simp) (by rw [List.length_range]; omega) (by omega)
 rw [List.drop_zero,flatMap_one] at q
 exact q
theorem can_l1 {a : TApp} {N : Nat} (hN : (N : Int) = a.G.N) (h6 : N ≤ 6) : L_plain_Can_l1 a ((a.G.N - 0).toNat + 1) 0 [] = some (picksOf a N) := by
 have q := loopMapO (F := fun nf k s => L_plain_Can_l1 a nf k s) (l := List.range N) (fun n => (List.range 4).map fun k => (⟨0,(n : Nat),(k : Nat),0,0⟩ : TStep)) id 0 4 (fun x _ => by simp)
  (fun nf s hs => by rw [List.length_range,L_plain_Can_l1,if_neg (by omega)]; rfl)
  (fun nf k s hk hs => by
   rw [List.length_range] at hk
   rw [L_plain_Can_l1,if_pos (by omega),can_l2 k s (by omega),Option.bind_some,Option.bind_some,wr_succ (by omega),List.getElem_range])
  (List.range N).length ((a.G.N - 0).toNat + 1) 0 [] (by simp) (by rw [List.length_range]; omega) (by simp)
 exact q
theorem can_l4 (j : Nat) {ms : List TMsg} (hm : ms.length ≤ 1000) (acc : List TStep) (h : acc.length ≤ 1000000) : L_plain_Can_l4 j ms (((ms.length : Int) - 0).toNat + 1) 0 acc = some (acc ++ ms.map fun m => ⟨1,0,0,(j : Nat),m.Seq⟩) := by
 have q := loopMapO (F := fun nf k s => L_plain_Can_l4 j ms nf k s) (l := ms) (fun m => [(⟨1,0,0,(j : Nat),m.Seq⟩ : TStep)]) id 1000000 1 (fun x _ => by simp)
  (fun nf s hs => by rw [L_plain_Can_l4,if_neg (by omega)]; rfl)
  (fun nf k s hk hs => by
   rw [L_plain_Can_l4,if_pos (by omega),at_get hk,Option.bind_some,if_pos (by omega),wr_succ (by omega)])
  ms.length (((ms.length : Int) - 0).toNat + 1) 0 acc (by simp) (by omega) (by omega)
 rw [List.drop_zero,flatMap_one] at q
 exact q
theorem can_l3 {c : TConf} (hc : SzC c) (acc : List TStep) (h : acc.length ≤ 100) : L_plain_Can_l3 c (((c.Links.length : Int) - 0).toNat + 1) 0 acc = some (acc ++ delsOf c) := by
 have hli := hc.li
 have q := loopMapO (F := fun nf k s => L_plain_Can_l3 c nf k s) (l := List.range c.Links.length) (fun j => ((c.Links[j]?).getD []).map fun m => (⟨1,0,0,(j : Nat),m.Seq⟩ : TStep)) id 100 1000 (fun j hj => by
   have hj := List.mem_range.1 hj
   rw [List.length_map,List.getElem?_eq_getElem hj]
   exact hc.ms _ (List.getElem_mem hj))
  (fun nf s hs => by rw [List.length_range,L_plain_Can_l3,if_neg (by omega)]; rfl)
  (fun nf k s hk hs => by
   rw [List.length_range] at hk
   rw [L_plain_Can_l3,if_pos (by omega),at_get hk,Option.bind_some,can_l4 k (hc.ms _ (List.getElem_mem hk)) s (by omega),Option.bind_some,Option.bind_some,wr_succ (by omega),List.getElem_range,List.getElem?_eq_getElem hk]
   rfl)
  (List.range c.Links.length).length (((c.Links.length : Int) - 0).toNat + 1) 0 acc (by simp) (by rw [List.length_range]; omega) (by omega)
 exact q
theorem dels_len {c : TConf} (hc : SzC c) : (delsOf c).length ≤ 100000 := by
 have hli := hc.li
 have key : ∀ k,k ≤ c.Links.length → ((List.range k).flatMap fun j => ((c.Links[j]?).getD []).map fun m => (⟨1,0,0,(j : Nat),m.Seq⟩ : TStep)).length ≤ 1000 * k := by
  intro k
  induction k with
  | zero => intro _; simp
  | succ k ih =>
   intro hk
   have h1 := ih (by omega)
   have h2 := hc.ms _ (List.getElem_mem (show k < c.Links.length by omega))
   rw [List.range_succ,List.flatMap_append,List.length_append]
   simp only [List.flatMap_cons,List.flatMap_nil,List.append_nil,List.length_map]
   rw [List.getElem?_eq_getElem (show k < c.Links.length by omega),Option.getD_some]
   omega
 have := key _ (Nat.le_refl _)
 unfold delsOf
 omega
theorem picks_len (a : TApp) {N : Nat} (h : N ≤ 6) : (picksOf a N).length ≤ 24 := by
 unfold picksOf
 have : N = 0 ∨ N = 1 ∨ N = 2 ∨ N = 3 ∨ N = 4 ∨ N = 5 ∨ N = 6 := by omega
 rcases this with rfl | rfl | rfl | rfl | rfl | rfl | rfl <;> decide
theorem can_l5 {a : TApp} {c : TConf} (h : CRightP a c) (ha : SzA a) {l : List TStep} (hl : l.length ≤ 200000) : L_plain_Can_l5 a c l (((l.length : Int) - 0).toNat + 1) 0 [] = some (l.filter fun s => decide ((applyP a c s).2 = 0)) := by
 have q := loopMapO (F := fun nf k s => L_plain_Can_l5 a c l nf k s) (l := l) (fun s => if decide ((applyP a c s).2 = 0) = true then [id s] else []) id 0 1 (fun x _ => by split <;> simp)
  (fun nf s hs => by rw [L_plain_Can_l5,if_neg (by omega)]; rfl)
  (fun nf k s hk hs => by
   rw [L_plain_Can_l5,if_pos (by omega),at_get hk,Option.bind_some,plain_apply h ha,Option.bind_some,wr_succ (by omega)]
   by_cases e : (applyP a c l[k]).2 = 0
   · rw [if_pos e,if_pos (by omega),Option.bind_some,if_pos (dT e)]; rfl
   · rw [if_neg e,Option.bind_some,if_neg (by rw [dF e]; decide),List.append_nil])
  l.length (((l.length : Int) - 0).toNat + 1) 0 [] (by simp) (by omega) (by simp)
 rw [List.drop_zero,flatMap_if,List.map_id] at q
 exact q
theorem plain_can {a : TApp} {c : TConf} (h : CRightP a c) (ha : SzA a) : L_plain_Can a c = some (canP a c) := by
 have hc := h.sz ha
 have h6 := h.tab.1.2.1
 have hN := h.nst
 have hp := picks_len a (N := c.States.length) (by omega)
 have hd := dels_len hc
 unfold L_plain_Can
 rw [can_l1 hN (by omega),Option.bind_some,can_l3 hc _ (by omega),Option.bind_some,can_l5 h ha (by rw [List.length_append]; omega)]
 rfl
end Go.Proofs.Ytifcbecpemaieaa
