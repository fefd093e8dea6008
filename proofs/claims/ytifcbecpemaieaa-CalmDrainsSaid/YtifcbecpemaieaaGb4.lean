/- Functions as typed ones,and that the program's functions answer as these do. No condition. -/
import Derived.BigRegionIn
import Derived.LoopIn
import Derived.LoopNIn
import Derived.OwnWalkIn
import Derived.RangeFuncBound
import Derived.RangeFuncCalls
import Derived.RangeFuncLeaves
import Derived.RangeFuncNested
import Derived.Shelf.Abstract
import Derived.TacticsInMore
import Derived.WalkKit
import Derived.Test.YtifcbecpemaieaaGb3
import Derived.Test.YtifcbecpemaieaaGd
set_option linter.unusedSimpArgs false
set_option linter.unusedVariables false
set_option maxRecDepth 20000
set_option maxHeartbeats 4000000
namespace Go.Proofs.Ytifcbecpemaieaa
open Go.RowKit

attribute [local go_sem] Oper.semAt_some
attribute [local go_sem] Oper.semAt_some


theorem calm_Way_in (n : Nat) {c : TConf} {r : Int} (h : L_calm_Way c = some r) {S : Nat → Prop} {w : World} {c0 c1 c2 : Value} (hS : ∀ b,S b → b < w.heap.size) (hv : ConfV S w c c0 c1 c2) :
  CallsIn Fence.wide n Try.prog 25 #[.agg #[c0,c1,c2]] w fun e w' => e = .returned (.int .i64 r) ∧ Below w.heap.size w w' := by
 refine callsIn_wide.2 ?_
 have q := (L_calm_Way_ok h).calls S (fun _ => False) (fun _ => none) (fun _ _ => False) w [.agg #[c0,c1,c2]] (fun b hb => ⟨hS b hb,fun e => e⟩) (fun b hb => hb.elim) rfl
  (fun i x v hx hv' => by
   match i with
   | 0 =>
    simp at hx hv'
    subst hx hv'
    refine ⟨[c0,c1,c2],rfl,rfl,fun i d v hd hv' => ?_⟩
    match i with
    | 0 => injection hd with hd; injection hv' with hv'; subst hd hv'; exact ⟨hv.v0,hv.v0.one⟩
    | 1 => injection hd with hd; injection hv' with hv'; subst hd hv'; exact ⟨hv.v1,hv.v1.one⟩
    | 2 => injection hd with hd; injection hv' with hv'; subst hd hv'; exact ⟨hv.v2,hv.v2.one⟩
    | i + 3 => simp at hv'
   | i + 1 => simp at hx) (fun id o ho => by simp [mget] at ho) (fun id o b ho => by simp [mget] at ho) (fun id id' o o' b ho => by simp [mget] at ho)
 refine Calls.mono q ?_
 rintro e w' ⟨v,ρ,φ,rfl,hm,ha,_⟩
 refine ⟨?_,mv_below hm⟩
 cases ha with
 | int => rfl
theorem exc_own {β : Type} (x : Nat) {W : World} : OwnFrom W.heap.size (fun (_ : β) W' => Exc x W.heap.size W W') := fun s A B row h hg hr =>
 ⟨hg.os.trans h.os,hg.tape.trans h.tape,hg.output.trans h.output,Nat.le_trans h.size hg.size,fun k hk hn => (hg.block k (Nat.lt_of_lt_of_le hk h.size) (fun e => by have := (hr k e.symm).1; omega)).trans (h.block k hk hn)⟩
theorem calm_Over_in (n : Nat) (hn : 3 ≤ n) {a : TApp} {c : TConf} {r : Bool} (hD : L_calm_Over a c = some r) (w : World) (a0 a1 a2 a3 c0 c1 c2 : Value)
  (hvC : ConfV (· < w.heap.size) w c c0 c1 c2) (hvT : View (· < w.heap.size) w (.sl (List.map eTNode a.T)) a2) :
  CallsIn Fence.wide n Try.prog 26 #[.agg #[a0,a1,a2,a3],.agg #[c0,c1,c2]] w fun e W' => e = .returned (.bool r) ∧ Below w.heap.size w W' := by
 have h1 : 1 ≤ n := by omega
 unfold L_calm_Over at hD
 split at hD
 case isFalse => cases hD
 rename_i hlen
 obtain ⟨ms,hm,hD⟩ := Option.bind_eq_some_iff.1 hD
 refine callsIn_of_wp_marks Try.func26 rfl trivial ?_ rfl
 simp only [Try.ntmps26,List.size_toArray,List.length_cons,List.length_nil,Nat.reduceAdd,Nat.reduceSub,Array.replicate_succ,Array.replicate_zero,List.push_toArray,List.append_toArray,List.nil_append,List.cons_append]
 gi_wp2
 refine ⟨trivial,(calm_modes_in _ [a0,a1,a2,a3] [c0,c1,c2] _).mono ?_⟩
 rintro e w' ⟨rfl,rfl⟩
 gi_wp2
 obtain ⟨W,hW⟩ : ∃ W,W = ((((w.alloc (Obj.cells #[a0,a1,a2,a3] 27)).alloc (Obj.cells #[c0,c1,c2] 31)).alloc (Obj.cells #[Value.bool false] 4)).alloc (Obj.cells #[a0,a1,a2,a3] 27)).alloc (Obj.cells #[c0,c1,c2] 31) := ⟨_,rfl⟩
 have hWs : W.heap.size = w.heap.size + 1 + 1 + 1 + 1 + 1 := by rw [hW]; simp only [World.size_alloc]
 have hB : Below w.heap.size w W := by
  rw [hW]
  exact (((((Below.refl _ w).alloc (Nat.le_refl _) _).alloc (by simp) _).alloc (by simp; omega) _).alloc (by simp; omega) _).alloc (by simp; omega) _
 have hbm : W.heap[w.heap.size + 1]? = some (Obj.cells #[c0,c1,c2] 31) := by
  rw [hW,Below.heap_alloc _ _ _ (by simp),Below.heap_alloc _ _ _ (by simp),Below.heap_alloc _ _ _ (by simp)]
  have := World.alloc_heap_new (w.alloc (Obj.cells #[a0,a1,a2,a3] 27)) (Obj.cells #[c0,c1,c2] 31)
  simpa only [World.size_alloc] using this
 have hbx : W.heap[w.heap.size + 1 + 1]? = some (Obj.cells #[Value.bool false] 4) := by
  rw [hW,Below.heap_alloc _ _ _ (by simp),Below.heap_alloc _ _ _ (by simp)]
  have := World.alloc_heap_new ((w.alloc (Obj.cells #[a0,a1,a2,a3] 27)).alloc (Obj.cells #[c0,c1,c2] 31)) (Obj.cells #[Value.bool false] 4)
  simpa only [World.size_alloc] using this
 have hba : W.heap[w.heap.size + 1 + 1 + 1]? = some (Obj.cells #[a0,a1,a2,a3] 27) := by
  rw [hW,Below.heap_alloc _ _ _ (by simp)]
  have := World.alloc_heap_new (((w.alloc (Obj.cells #[a0,a1,a2,a3] 27)).alloc (Obj.cells #[c0,c1,c2] 31)).alloc (Obj.cells #[Value.bool false] 4)) (Obj.cells #[a0,a1,a2,a3] 27)
  simpa only [World.size_alloc] using this
 have hbc : W.heap[w.heap.size + 1 + 1 + 1 + 1]? = some (Obj.cells #[c0,c1,c2] 31) := by
  rw [hW]
  have := World.alloc_heap_new ((((w.alloc (Obj.cells #[a0,a1,a2,a3] 27)).alloc (Obj.cells #[c0,c1,c2] 31)).alloc (Obj.cells #[Value.bool false] 4)).alloc (Obj.cells #[a0,a1,a2,a3] 27)) (Obj.cells #[c0,c1,c2] 31)
  simpa only [World.size_alloc] using this
 rw [← hW]
 clear hW
 have hvC' := hvC.keep (S' := fun k => k < W.heap.size ∧ k ≠ w.heap.size + 1 + 1) (fun p hp => hB.cell hp) (fun b hb => by omega)
 have hvT' := hvT.keep (S' := fun k => k < W.heap.size ∧ k ≠ w.heap.size + 1 + 1) (fun p hp => hB.cell hp) (fun b hb => by omega)
 have cb : W.cell? ⟨w.heap.size + 1 + 1,0,none⟩ = some (.bool false) ∧ W.frozen? ⟨w.heap.size + 1 + 1,0,none⟩ = false := by
  refine ⟨?_,?_⟩ <;> simp [World.cell?,World.frozen?,hbx] <;> rfl
 refine wpIn_rangeFunc_ownG rfl h1 (gf := 89) (lb := #[.pointer (some ⟨w.heap.size + 1 + 1 + 1 + 1,0,none⟩),.pointer (some ⟨w.heap.size + 1 + 1 + 1,0,none⟩)]) rfl trivial (enters_of Try.func89 (by kernel_rfl) rfl)
  (calm_modes_stops (n - 1) (by omega) (w.heap.size + 1 + 1 + 1 + 1) (w.heap.size + 1 + 1 + 1) W.heap.size (w.heap.size + 1 + 1) c.States ms a.T c0 a2 hm hlen (by omega) (by omega) W rfl (by simp [World.cell?,hbc]) hvC'.v0 (by simp [World.cell?,hba]) hvT') (fun h k => h.trans k) excK_b (Below.refl _ _) (fun _ => rfl)
  (fun pre W' => ((∀ m ∈ pre,m = 0) ∧ W'.cell? ⟨w.heap.size + 1 + 1,0,none⟩ = some (.bool false) ∧ W'.frozen? ⟨w.heap.size + 1 + 1,0,none⟩ = false) ∧ Exc (w.heap.size + 1 + 1) W.heap.size W W' ∧ Below w.heap.size w W')
  (fun c pre W' => (c = .ret ∧ (∃ m ∈ pre,m ≠ 0) ∧ W'.cell? ⟨w.heap.size + 1 + 1,0,none⟩ = some (.bool false)) ∧ Below w.heap.size w W')
  (OwnFrom.and (Own.from (fun s A B row hs hg hr => ⟨hs.1,cell_kept hs.2.1 hg hr,(frozen_kept hs.2.1 hg hr).trans hs.2.2⟩) _) (OwnFrom.and (exc_own _) (ownFrom_below (Nat.le_refl _) (by omega))))
  (fun c => OwnFrom.and (Own.from (fun s A B row hs hg hr => ⟨hs.1,hs.2.1,cell_kept hs.2.2 hg hr⟩) _) (ownFrom_below (Nat.le_refl _) (by omega)))
  ⟨⟨by simp,cb⟩,Exc.refl _ _ _,hB⟩
  (fun y => { tmps := #[Value.agg #[a0,a1,a2,a3],Value.agg #[c0,c1,c2],Value.pointer (some { block := w.heap.size,off := 0 }),
     Value.pointer (some { block := w.heap.size + 1,off := 0 }),
     Value.pointer (some { block := w.heap.size + 1 + 1,off := 0 }),Value.int IntKind.i64 (mI y),Value.agg #[a0,a1,a2,a3],
     Value.agg #[c0,c1,c2],
     Value.func (Fn.func 89) #[]
      #[Value.pointer (some { block := w.heap.size + 1 + 1 + 1 + 1,off := 0 }),
       Value.pointer (some { block := w.heap.size + 1 + 1 + 1,off := 0 })],
     Value.int IntKind.i64 (mI y),undef,undef,undef,undef,undef],defers := [] }) ?assign ?body ?done ?stop
 case assign =>
  intro l y W K hK
  gi_wp2
  exact hK
 case body =>
  rintro l pre y W' ⟨⟨hp,q0,g0⟩,hE,hB'⟩ hlt
  by_cases hy : y = 0
  ·
   subst hy
   have e0 : mI 0 = 0 := rfl
   rw [e0]
   gi_wp2
   exact ⟨KeepsFrom.refl _ _,Exc.refl _ _ _,⟨fun m hm => (List.mem_append.1 hm).elim (hp m) (fun e => by simpa using e),q0,g0⟩,hE,hB'⟩
  ·
   have e0 : ¬ mI y = 0 := fun e => hy (Fin.ext (by show y.val = 0; simp only [mI] at e; omega))
   generalize mI y = v at e0
   gi_wp2
   exact ⟨(KeepsOthers.setCell _ _ _).from _,⟨rfl,⟨y,by simp,hy⟩,World.cell?_setCell_same' _ _ _ (by rw [q0]; rfl)⟩,hB'.setCell (p := ⟨w.heap.size + 1 + 1,0,none⟩) (by simp; omega) _⟩
 case done =>
  rintro D ys W' hD' rfl ⟨⟨hp,q0,g0⟩,hE,hB'⟩ hK
  have hall : ys.all (fun m => decide (m = 0)) = true := List.all_eq_true.2 fun m hm => by rw [hp m hm]; rfl
  rw [if_pos hall] at hD
  obtain ⟨v,hv,hD⟩ := Option.bind_eq_some_iff.1 hD
  injection hD with hD
  subst hD
  have k0 : W'.cell? ⟨w.heap.size + 1,0,none⟩ = some c0 := (hE.cell (p := ⟨w.heap.size + 1,0,none⟩) (by simp; omega) (by simp)).trans (by simp [World.cell?,hbm])
  have k1 : W'.cell? ⟨w.heap.size + 1,1,none⟩ = some c1 := (hE.cell (p := ⟨w.heap.size + 1,1,none⟩) (by simp; omega) (by simp)).trans (by simp [World.cell?,hbm])
  have k2 : W'.cell? ⟨w.heap.size + 1,2,none⟩ = some c2 := (hE.cell (p := ⟨w.heap.size + 1,2,none⟩) (by simp; omega) (by simp)).trans (by simp [World.cell?,hbm])
  have k3 : W'.heap[w.heap.size + 1]? = some (Obj.cells #[c0,c1,c2] 31) := (hE.block _ (by omega) (by omega)).trans hbm
  have hvW := hvC'.keep (S' := fun k => k < W'.heap.size) (fun p hp => hE.cell hp.1 hp.2) (fun b hb => by have := hE.size; omega)
  gi_wp2
  refine ⟨trivial,(calm_Way_in _ hv (fun b hb => hb) hvW).mono ?_⟩
  rintro e W2 ⟨rfl,hb2⟩
  have hsx := (World.block_lt_of_cell? _ _ q0)
  have q2 : W2.cell? ⟨w.heap.size + 1 + 1,0,none⟩ = some (.bool false) := (hb2.cell (p := ⟨w.heap.size + 1 + 1,0,none⟩) hsx).trans q0
  have g2 : W2.frozen? ⟨w.heap.size + 1 + 1,0,none⟩ = false := (World.frozen?_of_block (hb2.block _ hsx)).trans g0
  have hK2 : W2.heap[D]? = some (.deferred (some [])) := (hb2.block _ (Array.getElem?_eq_some_iff.1 hK).1).trans hK
  have hB2 : Below w.heap.size w W2 := hB'.trans (hb2.mono hB'.size)
  gi_wp2
  have hK3 := (KeepsOthers.setCell W2 ⟨w.heap.size + 1 + 1,0,none⟩ (.bool (v == 0))).same D _ hK2 rfl
  refine ⟨by simp,.inl ⟨_,_,rfl,run_takeDeferred hK3,?_⟩⟩
  have hc5 := cell_kept (World.cell?_setCell_same' W2 ⟨w.heap.size + 1 + 1,0,none⟩ (.bool (v == 0)) (by rw [q2]; rfl)) (grownBy_putObj' _ D (.deferred none)) (fun r e => by cases e; exact ⟨_,hK3,rfl⟩)
  refine ⟨.bool (v == 0),?_,rfl,(hB2.setCell (p := ⟨w.heap.size + 1 + 1,0,none⟩) (by simp; omega) _).trans (belowK_b (w := w) (Nat.le_refl _) _ D _ _ (by omega) hK3 rfl rfl)⟩
  simp [results,Try.f26,go_sem,hc5]
 case stop =>
  rintro D cc pre W' hD' ⟨k,hk,rfl⟩ ⟨⟨rfl,⟨m,hmp,hm0⟩,q0⟩,hB'⟩ hK
  have hall : ¬ ms.all (fun m => decide (m = 0)) = true := fun e => hm0 (of_decide_eq_true (List.all_eq_true.1 e m (List.mem_of_mem_take hmp)))
  rw [if_neg hall] at hD
  injection hD with hD
  subst hD
  gi_wp2
  refine ⟨by simp,.inl ⟨_,_,rfl,run_takeDeferred hK,?_⟩⟩
  have hc5 := cell_kept q0 (grownBy_putObj' _ D (.deferred none)) (fun r e => by cases e; exact ⟨_,hK,rfl⟩)
  refine ⟨.bool false,?_,rfl,hB'.trans (belowK_b (w := w) (Nat.le_refl _) W' D _ _ (by omega) hK rfl rfl)⟩
  simp [results,Try.f26,go_sem,hc5]

theorem L_calm_Over_ok {a0 : TApp} {a1 : TConf} {r : Bool} (hD : L_calm_Over a0 a1 = some r) :
 CallH Try.prog 26 [.agg (cTApp a0),.agg (cTConf a1)] []
  (.one (.d (.bool r))) [] := by
 refine ⟨by kernel_rfl,⟨fun id h => (by cases h),fun i o h => (by cases h)⟩,fun S Φ ρ φ w vs hS hΦ hl hv _ _ _ => ?_⟩
 match vs,hl with
 | [va,vc],_ =>
  obtain ⟨x0,x1,x2,x3,rfl,hT⟩ := app_v (hv 0 _ _ rfl rfl)
  obtain ⟨c0,c1,c2,rfl,hC⟩ := conf_v (hv 1 _ _ rfl rfl)
  have hs : ∀ b,S b → b < w.heap.size := fun b hb => (hS b hb).1
  have q := callsIn_wide.1 (calm_Over_in 3 (Nat.le_refl 3) hD w x0 x1 x2 x3 c0 c1 c2 (hC.keep (fun p _ => rfl) hs) (hT.keep (fun p _ => rfl) hs))
  refine Calls.mono q ?_
  rintro e w' ⟨rfl,hb⟩
  exact ⟨_,ρ,φ,rfl,below_mv hb Φ,View.bool _,fun id o h => (by cases h),fun id o b h => (by cases h),fun id id' o o' b h => (by cases h),fun id o h => (by cases h)⟩

theorem L_ref01_Ints_ok {a0 : (List Int)} {a1 : (List Int)} {r : Bool} (hD : L_ref01_Ints a0 a1 = some r) :
  CallH Try.prog 34 [.one (.d (.sl (List.map eI a0))),.one (.d (.sl (List.map eI a1)))] []
   (.one (.d (.bool r))) [] := by
 unfold L_ref01_Ints at hD
 refine rc Try.func34 rfl Try.ntmps34 fun S Φ P0 wb ac h => ?_
 refine qs 2 [] [0,1] [] h fun ac wd h => ?_
 refine wp_seq ?_
 refine qs 7 [] [0,1,10] [] h fun ac wd h => ?_
 rcases i2e hD with ⟨hb131,hD⟩ | ⟨hb131,hD⟩
 ·
  refine kF h ?_
  refine wp_skip ?_
  change Code.wp Try.prog _ _ _ _
  refine wp_seq ?_
  refine qs 8 [] [0,1,5] [] h fun ac wd h => ?_
  refine wp_block ?_
  refine r_while (fun nf ac wd => ∃ (n235 : Int),L_ref01_Ints_l1 a0 a1 nf n235 = some r ∧ SL ⟨wb,S,Φ,P0⟩ 26 40 [(0,.one (.d (.sl (List.map eI a0)))),(1,.one (.d (.sl (List.map eI a1)))),(5,.one (.d (.int .i64 n235)))] [] ac wd) (((a0.length : Int) - 0).toNat + 1) ⟨0,hD,h.z⟩ (fun nf ac wd hJ => ?_)
  obtain ⟨n235,hL236,h⟩ := hJ
  cases nf with
  | zero => rw [L_ref01_Ints_l1] at hL236; cases hL236
  | succ nf =>
   rw [L_ref01_Ints_l1] at hL236
   refine wp_seq ?_
   refine qs 44 [] [0,1,5,14] [] h fun ac wd h => ?_
   rcases i2 hL236 with ⟨hb238,hL236⟩ | ⟨hb238,hL236⟩
   ·
    refine kT h ?_
    refine wp_skip ?_
    change Code.wp Try.prog _ _ _ _
    refine wp_seq ?_
    refine wp_block ?_
    obtain ⟨x252,hx253a,hx253b,hx253c,hx253d,hL236⟩ := aB hL236
    obtain ⟨x254,hx255a,hx255b,hx255c,hx255d,hL236⟩ := aB hL236
    refine ds 53 [] [0,1,5,25] [] h fun ac wd h => ?_
    rcases i2e hL236 with ⟨hb256,hL236⟩ | ⟨hb256,hL236⟩
    ·
     refine kF h ?_
     refine wp_skip ?_
     change Code.wp Try.prog _ _ _ _
     refine qe [] [0,1,5] [] h fun ac wd h => ?_
     exact ⟨nf,Nat.lt_succ_self nf,(IntKind.wrap .i64 (n235 + 1)),hL236,h.z⟩
    ·
     refine kT h ?_
     refine qs 54 [] [4] [] h fun ac wd h => ?_
     refine wp_ret ?_
     injection hL236 with hL236
     subst hL236
     exact rE h [.tmp 4]
   ·
    refine kF h ?_
    refine wp_exit ?_
    change Code.wp Try.prog _ _ _ _
    refine qs 45 [] [4] [] h fun ac wd h => ?_
    refine wp_ret ?_
    injection hL236 with hL236
    subst hL236
    exact rE h [.tmp 4]
 ·
  refine kT h ?_
  refine qs 8 [] [4] [] h fun ac wd h => ?_
  refine wp_ret ?_
  injection hD with hD
  subst hD
  exact rE h [.tmp 4]

theorem L_law14_fixed_ok {r : Bool} (hD : L_law14_fixed = some r) :
  CallH Try.prog 22 [] []
   (.one (.d (.bool r))) [] := by
 unfold L_law14_fixed at hD
 refine rc Try.func22 rfl Try.ntmps22 fun S Φ P0 wb ac h => ?_
 refine qs 2 [] [] [] h fun ac wd h => ?_
 obtain ⟨r68,hc69,hD⟩ := oB hD
 have hc69k := L_law05_Two_ok hc69
 refine qs 5 [factE 2 hc69k] [1] [(3,0)] h fun ac wd h => ?_
 refine qs 13 [] [1,2] [(3,0),(5,0),(7,0),(8,0),(9,0),(11,0)] h fun ac wd h => ?_
 have h := h.nilTr (8,0) (l := ([[.own (7,0) 1]] ++ [[.nil]])) (l' := ([[.own (7,0) 1]] ++ [[.tr (.sl 70 2 (fun _ => .sc)) (.sl (List.map eTMsg []))]])) (by simp only [EZ,simprocAttr] <;> rfl) (RowsTo.append (RowsTo.cons (RowTo.cons (.inl rfl) RowTo.nil) (RowsTo.refl [])) (RowsTo.cons (RowTo.cons (.inr (.inr ⟨rfl,_,_,_,rfl⟩)) RowTo.nil) (RowsTo.refl [])))
 have h := h.sm 13 [(1,.one (.ptr (3,0) 0)),(2,.one (.ptr (11,0) 0))]
  [((3,0),some (.box 27 [.d (.int .i64 r68.G.N),.d (.sl (List.map eA2I r68.G.Links)),.d (.sl (List.map eTNode r68.T)),.d (.bool r68.Fifo)])),((5,0),some (.row 3 1 (dat (List.map eI ([0] ++ [0]))))),((7,0),some (.row 70 2 (dat (List.map eTMsg [(TMsg.mk 1 0)])))),((8,0),some (.row 43 1 (([[.own (7,0) 1]] ++ [[.tr (.sl 70 2 (fun _ => .sc)) (.sl (List.map eTMsg []))]])))),((9,0),some (.row 3 1 (([[.d (.int .i64 1)]] ++ [[.d (.int .i64 0)]])))),((11,0),some (.box 31 [.own (5,0) (1 + 1),.own (8,0) (1 + 1),.own (9,0) (1 + 1)]))]
 have h := h.f0 (cols := (fun _ => .sc)) (l := ([[.own (7,0) 1]] ++ [[.tr (.sl 70 2 (fun _ => .sc)) (.sl (List.map eTMsg []))]])) (r := [.own (7,0) 1]) (L := List.map eTMsg [(TMsg.mk 1 0)]) (8,0) (7,0) 0 0 (sc_70 _)
 have h := h.sm 13 [(1,.one (.ptr (3,0) 0)),(2,.one (.ptr (11,0) 0))]
  [((3,0),some (.box 27 [.d (.int .i64 r68.G.N),.d (.sl (List.map eA2I r68.G.Links)),.d (.sl (List.map eTNode r68.T)),.d (.bool r68.Fifo)])),((5,0),some (.row 3 1 (dat (List.map eI ([0] ++ [0]))))),((8,0),some (.row 43 1 (([[.tr (.sl 70 2 (fun _ => .sc)) (.sl (List.map eTMsg [(TMsg.mk 1 0)]))]] ++ [[.tr (.sl 70 2 (fun _ => .sc)) (.sl (List.map eTMsg []))]])))),((9,0),some (.row 3 1 (([[.d (.int .i64 1)]] ++ [[.d (.int .i64 0)]])))),((11,0),some (.box 31 [.own (5,0) (1 + 1),.own (8,0) (1 + 1),.own (9,0) (1 + 1)]))]
 refine qs 19 [] [1,2,3] [(3,0),(5,0),(8,0),(9,0),(11,0),(13,0),(14,0),(15,0),(17,0)] h fun ac wd h => ?_
 have h := h.nilTr (14,0) (l := ([[.nil]] ++ [[.nil]])) (l' := ([[.tr (.sl 70 2 (fun _ => .sc)) (.sl (List.map eTMsg []))]] ++ [[.tr (.sl 70 2 (fun _ => .sc)) (.sl (List.map eTMsg []))]])) (by simp only [EZ,simprocAttr] <;> rfl) (RowsTo.append (RowsTo.cons (RowTo.cons (.inr (.inr ⟨rfl,_,_,_,rfl⟩)) RowTo.nil) (RowsTo.refl [])) (RowsTo.cons (RowTo.cons (.inr (.inr ⟨rfl,_,_,_,rfl⟩)) RowTo.nil) (RowsTo.refl [])))
 have h := h.sm 19 [(1,.one (.ptr (3,0) 0)),(2,.one (.ptr (11,0) 0)),(3,.one (.ptr (17,0) 0))]
  [((3,0),some (.box 27 [.d (.int .i64 r68.G.N),.d (.sl (List.map eA2I r68.G.Links)),.d (.sl (List.map eTNode r68.T)),.d (.bool r68.Fifo)])),((5,0),some (.row 3 1 (dat (List.map eI ([0] ++ [0]))))),((8,0),some (.row 43 1 (openRows cols_43 (List.map (eL eTMsg) ([[(TMsg.mk 1 0)]] ++ [[]]))))),((9,0),some (.row 3 1 (dat (List.map eI ([1] ++ [0]))))),((11,0),some (.box 31 [.own (5,0) (1 + 1),.own (8,0) (1 + 1),.own (9,0) (1 + 1)])),((13,0),some (.row 3 1 (dat (List.map eI ([1] ++ [1]))))),((14,0),some (.row 43 1 (([[.tr (.sl 70 2 (fun _ => .sc)) (.sl (List.map eTMsg []))]] ++ [[.tr (.sl 70 2 (fun _ => .sc)) (.sl (List.map eTMsg []))]])))),((15,0),some (.row 3 1 (([[.d (.int .i64 1)]] ++ [[.d (.int .i64 0)]])))),((17,0),some (.box 31 [.own (13,0) (1 + 1),.own (14,0) (1 + 1),.own (15,0) (1 + 1)]))]
 refine qs 27 [] [1,2,3,4] [(3,0),(5,0),(8,0),(9,0),(11,0),(13,0),(14,0),(15,0),(17,0),(19,0),(21,0),(22,0),(23,0),(25,0)] h fun ac wd h => ?_
 have h := h.nilTr (22,0) (l := ([[.nil]] ++ [[.own (21,0) 1]])) (l' := ([[.tr (.sl 70 2 (fun _ => .sc)) (.sl (List.map eTMsg []))]] ++ [[.own (21,0) 1]])) (by simp only [EZ,simprocAttr] <;> rfl) (RowsTo.append (RowsTo.cons (RowTo.cons (.inr (.inr ⟨rfl,_,_,_,rfl⟩)) RowTo.nil) (RowsTo.refl [])) (RowsTo.cons (RowTo.cons (.inl rfl) RowTo.nil) (RowsTo.refl [])))
 have h := h.sm 27 [(1,.one (.ptr (3,0) 0)),(2,.one (.ptr (11,0) 0)),(3,.one (.ptr (17,0) 0)),(4,.one (.ptr (25,0) 0))]
  [((3,0),some (.box 27 [.d (.int .i64 r68.G.N),.d (.sl (List.map eA2I r68.G.Links)),.d (.sl (List.map eTNode r68.T)),.d (.bool r68.Fifo)])),((5,0),some (.row 3 1 (dat (List.map eI ([0] ++ [0]))))),((8,0),some (.row 43 1 (openRows cols_43 (List.map (eL eTMsg) ([[(TMsg.mk 1 0)]] ++ [[]]))))),((9,0),some (.row 3 1 (dat (List.map eI ([1] ++ [0]))))),((11,0),some (.box 31 [.own (5,0) (1 + 1),.own (8,0) (1 + 1),.own (9,0) (1 + 1)])),((13,0),some (.row 3 1 (dat (List.map eI ([1] ++ [1]))))),((14,0),some (.row 43 1 (openRows cols_43 (List.map (eL eTMsg) ([[]] ++ [[]]))))),((15,0),some (.row 3 1 (dat (List.map eI ([1] ++ [0]))))),((17,0),some (.box 31 [.own (13,0) (1 + 1),.own (14,0) (1 + 1),.own (15,0) (1 + 1)])),((19,0),some (.row 3 1 (dat (List.map eI ([1] ++ [1]))))),((21,0),some (.row 70 2 (dat (List.map eTMsg [(TMsg.mk 1 0)])))),((22,0),some (.row 43 1 (([[.tr (.sl 70 2 (fun _ => .sc)) (.sl (List.map eTMsg []))]] ++ [[.own (21,0) 1]])))),((23,0),some (.row 3 1 (([[.d (.int .i64 1)]] ++ [[.d (.int .i64 1)]])))),((25,0),some (.box 31 [.own (19,0) (1 + 1),.own (22,0) (1 + 1),.own (23,0) (1 + 1)]))]
 have h := h.fL (cols := (fun _ => .sc)) (22,0) (21,0) ([[.tr (.sl 70 2 (fun _ => .sc)) (.sl (List.map eTMsg []))]]) [.own (21,0) 1] 0 (List.map eTMsg [(TMsg.mk 1 0)]) (sc_70 _)
 have h := h.sm 27 [(1,.one (.ptr (3,0) 0)),(2,.one (.ptr (11,0) 0)),(3,.one (.ptr (17,0) 0)),(4,.one (.ptr (25,0) 0))]
  [((3,0),some (.box 27 [.d (.int .i64 r68.G.N),.d (.sl (List.map eA2I r68.G.Links)),.d (.sl (List.map eTNode r68.T)),.d (.bool r68.Fifo)])),((5,0),some (.row 3 1 (dat (List.map eI ([0] ++ [0]))))),((8,0),some (.row 43 1 (openRows cols_43 (List.map (eL eTMsg) ([[(TMsg.mk 1 0)]] ++ [[]]))))),((9,0),some (.row 3 1 (dat (List.map eI ([1] ++ [0]))))),((11,0),some (.box 31 [.own (5,0) (1 + 1),.own (8,0) (1 + 1),.own (9,0) (1 + 1)])),((13,0),some (.row 3 1 (dat (List.map eI ([1] ++ [1]))))),((14,0),some (.row 43 1 (openRows cols_43 (List.map (eL eTMsg) ([[]] ++ [[]]))))),((15,0),some (.row 3 1 (dat (List.map eI ([1] ++ [0]))))),((17,0),some (.box 31 [.own (13,0) (1 + 1),.own (14,0) (1 + 1),.own (15,0) (1 + 1)])),((19,0),some (.row 3 1 (dat (List.map eI ([1] ++ [1]))))),((22,0),some (.row 43 1 (([[.tr (.sl 70 2 (fun _ => .sc)) (.sl (List.map eTMsg []))]] ++ [[.tr (.sl 70 2 (fun _ => .sc)) (.sl (List.map eTMsg [(TMsg.mk 1 0)]))]])))),((23,0),some (.row 3 1 (([[.d (.int .i64 1)]] ++ [[.d (.int .i64 1)]])))),((25,0),some (.box 31 [.own (19,0) (1 + 1),.own (22,0) (1 + 1),.own (23,0) (1 + 1)]))]
 obtain ⟨r72,hc73,hD⟩ := oB hD
 have hc73k := L_calm_Count_ok hc73
 refine qs 37 [factE 29 hc73k] [1,2,3,4,5,6,7] [(3,0),(5,0),(8,0),(9,0),(11,0),(13,0),(14,0),(15,0),(17,0),(19,0),(22,0),(23,0),(25,0)] h fun ac wd h => ?_
 obtain ⟨r76,hc77,hD⟩ := oB hD
 have hc77k := L_calm_Count_ok hc77
 refine qs 47 [factE 39 hc77k] [1,2,3,4,5,6,7,8,9,10] [(3,0),(5,0),(8,0),(9,0),(11,0),(13,0),(14,0),(15,0),(17,0),(19,0),(22,0),(23,0),(25,0)] h fun ac wd h => ?_
 obtain ⟨r103,hc104,hD⟩ := oB hD
 obtain ⟨hb105,hD⟩ := iFb hD
 obtain ⟨r128,hc129,hD⟩ := oB hD
 obtain ⟨hb130,hD⟩ := iT hD
 obtain ⟨r131,hc132,hD⟩ := oB hD
 obtain ⟨hb133,hD⟩ := iFb hD
 obtain ⟨hb150,hD⟩ := iTe hD
 obtain ⟨hb151,hD⟩ := iTe hD
 obtain ⟨hb152,hD⟩ := iTe hD
 obtain ⟨hb153,hD⟩ := iTe hD
 obtain ⟨hb154,hD⟩ := iTe hD
 obtain ⟨hb155,hD⟩ := iTe hD
 obtain ⟨r156,hc157,hD⟩ := oB hD
 obtain ⟨hb158,hD⟩ := iTe hD
 obtain ⟨r159,hc160,hD⟩ := oB hD
 obtain ⟨hb161,hD⟩ := iTe hD
 obtain ⟨r162,hc163,hD⟩ := oB hD
 have h := h.fz [(19,0),(22,0),(23,0)]
 obtain ⟨r164,hc165,hD⟩ := oB hD
 have hc104k := L_calm_Over_ok hc104
 have hc129k := L_calm_Over_ok hc129
 have hc132k := L_calm_Over_ok hc132
 have hc157k := L_calm_Way_ok hc157
 have hc160k := L_calm_Way_ok hc160
 have hc163k := L_calm_Loads_ok hc163
 have hc165k := L_ref01_Ints_ok hc165
 refine qsg 103 [factE 49 hc104k,factE 54 hc129k,factE 59 hc132k,factE 88 hc157k,factE 93 hc160k,factE 98 hc163k,factE 100 hc165k] [none,none,none,none,none,some (some 46,true),some (some 46,true),some (some 46,true),none,none,some (some 51,true),some (some 51,true),some (some 51,true),some (some 51,true),none,none,some (some 57,true),some (some 57,true),none,none,some (some 61,true),some (some 61,true),none,none,some (some 65,true),some (some 65,true),none,none,some (some 69,true),some (some 69,true),none,none,some (some 73,true),some (some 73,true),none,none,some (some 77,true),some (some 77,true),none,none,some (some 81,true),some (some 81,true),some (some 81,true),none,none,some (some 86,true),some (some 86,true),some (some 86,true),none,none,some (some 91,true),some (some 91,true),some (some 91,true),some (some 91,true),none,none] [0] [] h fun ac wd h => ?_
 refine wp_ret ?_
 injection hD with hD
 subst hD
 exact rE h [.tmp 0]

theorem L_graph_Graph_node_ok {a0 : TGraph} {a1 : Int} {r : Bool} (hD : L_graph_Graph_node a0 a1 = some r) :
  CallH Try.prog 114 [.agg (cTGraph a0),.one (.d (.int .i64 a1))] []
   (.one (.d (.bool r))) [] := by
 unfold L_graph_Graph_node at hD
 refine rc Try.func114 rfl Try.ntmps114 fun S Φ P0 wb ac h => ?_
 refine qs 3 [] [1,2] [(1,0)] h fun ac wd h => ?_
 obtain ⟨e8,hE9,hD⟩ := Option.bind_eq_some_iff.1 hD
 refine r_seqJ (fun ac wd => ∃ (b7 : Bool),b7 = e8 ∧ SL ⟨wb,S,Φ,P0⟩ 13 12 [(4,.one (.d (.bool b7)))] [] ac wd) ?_ ?_
 ·
  rcases i2 hE9 with ⟨hb10,hE9⟩ | ⟨hb10,hE9⟩
  ·
   refine qeg [] [none,none,none,some (some 7,true),some (some 7,true),some (some 7,true),some (some 7,true),none,none] [4] [] h fun ac wd h => ?_
   injection hE9 with hE9; subst hE9
   exact ⟨decide (a1 < a0.N),rfl,h.z⟩
  ·
   refine qeg [] [none,none,none,some (some 7,true),some (some 7,true),some (some 7,true),some (some 7,true),none,none] [4] [] h fun ac wd h => ?_
   injection hE9 with hE9; subst hE9
   exact ⟨false,rfl,h.z⟩
 ·
  rintro ac wd ⟨b7,rfl,h⟩
  (try dsimp only at hD)
  refine wp_ret ?_
  injection hD with hD
  subst hD
  exact rE h [.tmp 4]

theorem L_graph_turned_ok {a0 : A2I} {r : A2I} (hD : L_graph_turned a0 = some r) :
  CallH Try.prog 115 [.agg (cA2I a0)] []
   (.agg [.d (.int .i64 r.a0),.d (.int .i64 r.a1)]) [] := by
 unfold L_graph_turned at hD
 refine rc Try.func115 rfl Try.ntmps115 fun S Φ P0 wb ac h => ?_
 refine qs 3 [] [1,2] [(1,0),(2,0)] h fun ac wd h => ?_
 refine qs 9 [] [2] [(2,0)] h fun ac wd h => ?_
 refine wp_ret ?_
 injection hD with hD
 subst hD
 exact rE h [.cell 2 97]

theorem L_math_bits_Mul64_ok {a0 : Int} {a1 : Int} {r : Int × Int} (hD : L_math_bits_Mul64 a0 a1 = some r) :
  CallH Try.prog 137 [.one (.d (.int .u64 a0)),.one (.d (.int .u64 a1))] []
   (.tup [.inr (.d (.int .u64 r.1)),.inr (.d (.int .u64 r.2))]) [] := by
 unfold L_math_bits_Mul64 at hD
 refine rc Try.func137 rfl Try.ntmps137 fun S Φ P0 wb ac h => ?_
 refine qs 3 [] [0,1] [] h fun ac wd h => ?_
 refine qs 6 [] [0,1,6] [] h fun ac wd h => ?_
 refine qs 9 [] [0,1,6,7] [] h fun ac wd h => ?_
 refine qs 12 [] [0,1,6,7,8] [] h fun ac wd h => ?_
 refine qs 15 [] [0,1,6,7,8,9] [] h fun ac wd h => ?_
 refine qs 19 [] [0,1,6,7,8,9,10] [] h fun ac wd h => ?_
 refine qs 26 [] [0,1,6,7,9,11] [] h fun ac wd h => ?_
 refine qs 29 [] [0,1,6,7,9,11,12] [] h fun ac wd h => ?_
 refine qs 32 [] [0,1,6,7,9,12,13] [] h fun ac wd h => ?_
 refine qs 38 [] [0,1,7,9,12,13] [] h fun ac wd h => ?_
 refine qs 47 [] [0,1,4] [] h fun ac wd h => ?_
 refine qs 51 [] [4,5] [] h fun ac wd h => ?_
 refine wp_ret ?_
 injection hD with hD
 subst hD
 exact rE h [.tmp 4,.tmp 5]

theorem L_math_bits_Mul_ok {a0 : Int} {a1 : Int} {r : Int × Int} (hD : L_math_bits_Mul a0 a1 = some r) :
  CallH Try.prog 132 [.one (.d (.int .u64 a0)),.one (.d (.int .u64 a1))] []
   (.tup [.inr (.d (.int .u64 r.1)),.inr (.d (.int .u64 r.2))]) [] := by
 unfold L_math_bits_Mul at hD
 refine rc Try.func132 rfl Try.ntmps132 fun S Φ P0 wb ac h => ?_
 refine qs 3 [] [0,1] [] h fun ac wd h => ?_
 refine wp_seq ?_
 refine kF h ?_
 refine wp_skip ?_
 change Code.wp Try.prog _ _ _ _
 obtain ⟨r7,hc8,hD⟩ := oB hD
 have hc8k := L_math_bits_Mul64_ok hc8
 refine qs 11 [factE 5 hc8k] [8,9] [] h fun ac wd h => ?_
 refine qs 15 [] [4,5] [] h fun ac wd h => ?_
 refine wp_ret ?_
 injection hD with hD
 subst hD
 exact rE h [.tmp 4,.tmp 5]

theorem L_slices_Repeat_int_int_own {a0 : (List Int)} {a1 : Int} {r : (List Int)} (hD : L_slices_Repeat_int_int a0 a1 = some r) :
  CallH Try.prog 123 [.one (.d (.sl (List.map eI a0))),.one (.d (.int .i64 a1))] []
   (.one (.own (1,0) r.length)) [((1,0),some (.row 3 1 (dat (List.map eI r))))] := by
 unfold L_slices_Repeat_int_int at hD
 refine rc Try.func123 rfl Try.ntmps123 fun S Φ P0 wb ac h => ?_
 refine qs 2 [] [0,1] [] h fun ac wd h => ?_
 refine wp_seq ?_
 refine qs 4 [] [0,1,10] [] h fun ac wd h => ?_
 rcases i2 hD with ⟨hb94,hD⟩ | ⟨hb94,hD⟩
 ·
  refine kT h ?_
  cases hD
 ·
  refine kF h ?_
  refine wp_skip ?_
  change Code.wp Try.prog _ _ _ _
  obtain ⟨r97,hc98,hD⟩ := oB hD
  have hc98k := L_math_bits_Mul_ok hc98
  refine qs 15 [factE 9 hc98k] [0,5,6] [] h fun ac wd h => ?_
  refine wp_seq ?_
  obtain ⟨e101,hE102,hD⟩ := Option.bind_eq_some_iff.1 hD
  refine r_seqJ (fun ac wd => ∃ (b100 : Bool),b100 = e101 ∧ SL ⟨wb,S,Φ,P0⟩ 48 21 [(0,.one (.d (.sl (List.map eI a0)))),(6,.one (.d (.int .u64 r97.2))),(26,.one (.d (.bool b100)))] [] ac wd) ?_ ?_
  ·
   rcases i2 hE102 with ⟨hb103,hE102⟩ | ⟨hb103,hE102⟩
   ·
    refine qeg [] [none,none,none,some (some 23,false),some (some 23,false),none] [0,6,26] [] h fun ac wd h => ?_
    injection hE102 with hE102; subst hE102
    exact ⟨true,rfl,h.z⟩
   ·
    refine qeg [] [none,none,none,some (some 23,false),some (some 23,false),none] [0,6,26] [] h fun ac wd h => ?_
    injection hE102 with hE102; subst hE102
    exact ⟨decide (r97.2 > 9223372036854775807),rfl,h.z⟩
  ·
   rintro ac wd ⟨b100,rfl,h⟩
   (try dsimp only at hD)
   rcases i2b hD with ⟨hb105,hD⟩ | ⟨hb105,hD⟩
   ·
    refine kT h ?_
    cases hD
   ·
    refine kF h ?_
    refine wp_skip ?_
    change Code.wp Try.prog _ _ _ _
    obtain ⟨ha109,hD⟩ := iT hD
    obtain ⟨ha110,hD⟩ := iT hD
    obtain ⟨ha111,hD⟩ := iT hD
    refine qs 25 [] [0,7] [(23,0)] h fun ac wd h => ?_
    obtain ⟨v115,hv116,hD⟩ := vB hD
    have h := h.same [0,7] [(23,0)] 25 [(0,.one (.d (.sl (List.map eI a0)))),(7,.one (.own (23,0) v115.length))]
     [((23,0),some (.row 3 1 (dat (List.map eI v115))))]
     (by simp only [EZ,simprocAttr,hb94,hb105,ha109,ha110,ha111,dat_open,← hv116] <;> rfl)
    have hl117 : ((a0.take v115.length) ++ v115.drop (a0.take v115.length).length).length = v115.length := by simp only [List.append_assoc,List.length_append,List.length_take,List.length_drop]; omega
    simp only [List.append_assoc,List.length_append,List.length_take,List.length_drop] at hl117
    refine qs 29 [] [7,8] [(23,0)] h fun ac wd h => ?_
    refine wp_seq ?_
    refine wp_block ?_
    refine r_while (fun nf ac wd => ∃ (n172 : Int) (l173 : List Int),L_slices_Repeat_int_int_l1 nf n172 l173 = some r ∧ SL ⟨wb,S,Φ,P0⟩ 48 57 [(7,.one (.own (23,0) l173.length)),(8,.one (.d (.int .i64 n172)))] [((23,0),some (.row 3 1 (dat (List.map eI l173))))] ac wd) (((((a0.take v115.length) ++ v115.drop (a0.take v115.length).length).length : Int) - ((Nat.min a0.length v115.length : Nat) : Int)).toNat + 1) ⟨((Nat.min a0.length v115.length : Nat) : Int),((a0.take v115.length) ++ v115.drop (a0.take v115.length).length),hD,h.z⟩ (fun nf ac wd hJ => ?_)
    obtain ⟨n172,l173,hL174,h⟩ := hJ
    cases nf with
    | zero => rw [L_slices_Repeat_int_int_l1] at hL174; cases hL174
    | succ nf =>
     rw [L_slices_Repeat_int_int_l1] at hL174
     refine wp_seq ?_
     refine qs 61 [] [7,8,37] [(23,0)] h fun ac wd h => ?_
     rcases i2 hL174 with ⟨hb176,hL174⟩ | ⟨hb176,hL174⟩
     ·
      refine kT h ?_
      refine wp_skip ?_
      change Code.wp Try.prog _ _ _ _
      refine wp_block ?_
      obtain ⟨ha177,hL174⟩ := iT hL174
      obtain ⟨ha178,hL174⟩ := iT hL174
      have hq179 : n172.toNat + (l173.length - n172.toNat) ≤ l173.length := by omega
      have hq180 : ¬ l173.length = n172.toNat := by omega
      have hq181 : n172.toNat ≤ l173.length := by omega
      have hl182 : (l173.take n172.toNat ++ ((l173.take n172.toNat).take (((l173.drop n172.toNat).take (l173.length - n172.toNat)).length)) ++ l173.drop (n172.toNat + ((l173.take n172.toNat).take (((l173.drop n172.toNat).take (l173.length - n172.toNat)).length)).length)).length = l173.length := by simp only [List.append_assoc,List.length_append,List.length_take,List.length_drop]; omega
      simp only [List.append_assoc,List.length_append,List.length_take,List.length_drop] at hl182
      refine de [] [7,8] [(23,0)] h fun ac wd h => ?_
      exact ⟨nf,Nat.lt_succ_self nf,(IntKind.wrap .i64 (n172 + ((Nat.min (l173.take n172.toNat).length (((l173.drop n172.toNat).take (l173.length - n172.toNat)).length) : Nat) : Int))),(l173.take n172.toNat ++ ((l173.take n172.toNat).take (((l173.drop n172.toNat).take (l173.length - n172.toNat)).length)) ++ l173.drop (n172.toNat + ((l173.take n172.toNat).take (((l173.drop n172.toNat).take (l173.length - n172.toNat)).length)).length)),hL174,h.z⟩
     ·
      refine kF h ?_
      refine wp_exit ?_
      change Code.wp Try.prog _ _ _ _
      refine qs 63 [] [4] [(23,0)] h fun ac wd h => ?_
      refine wp_ret ?_
      have h := h.sw (1,0) (23,0) 63
      injection hL174 with hL174
      subst hL174
      exact rO h [.tmp 4] [(1,0)]
theorem L_slices_Repeat_int_int_ok {a0 : (List Int)} {a1 : Int} {r : (List Int)} (hD : L_slices_Repeat_int_int a0 a1 = some r) :
  CallH Try.prog 123 [.one (.d (.sl (List.map eI a0))),.one (.d (.int .i64 a1))] []
   (.one (.d (.sl (List.map eI r)))) [] :=
 (L_slices_Repeat_int_int_own hD).fr

theorem L_graph_of_v1_own {a0 : TGraph} {a1 : Int} {r : (List Int)} (hD : L_graph_of_v1 a0 a1 = some r) :
  CallH Try.prog 133 [.agg (cTGraph a0),.one (.d (.int .i64 a1)),.one (.d (.int .i64 0))] []
   (.one (.own (1,0) r.length)) [((1,0),some (.row 3 1 (dat (List.map eI r))))] := by
 unfold L_graph_of_v1 at hD
 refine rc Try.func133 rfl Try.ntmps133 fun S Φ P0 wb ac h => ?_
 refine qs 3 [] [1,2,3] [(1,0)] h fun ac wd h => ?_
 refine qs 4 [] [1,2,3,7] [(1,0)] h fun ac wd h => ?_
 refine wp_seq ?_
 refine qs 8 [] [1,2,7,11,12,13] [] h fun ac wd h => ?_
 refine wp_block ?_
 have h := SL.bornS h 7 3 1 (by simp only [EZ,simprocAttr, *] <;> rfl)
 refine r_while (fun nf ac wd => ∃ (n197 : Int) (l198 : List Int),L_graph_of_v1_l1 a0 a1 nf n197 l198 = some r ∧ SL ⟨wb,S,Φ,P0⟩ 29 46 [(1,.one (.d (.int .i64 a1))),(2,.one (.d (.int .i64 0))),(7,.one (.own (8,0) l198.length)),(11,.one (.d (.sl (List.map eA2I a0.Links)))),(12,.one (.d (.int .i64 (a0.Links.length : Int)))),(13,.one (.d (.int .i64 n197)))] [((8,0),some (.row 3 1 (dat (List.map eI l198))))] ac wd) (((a0.Links.length : Int) - 0).toNat + 1) ⟨0,([] : List Int),hD,h.z⟩ (fun nf ac wd hJ => ?_)
 obtain ⟨n197,l198,hL199,h⟩ := hJ
 cases nf with
 | zero => rw [L_graph_of_v1_l1] at hL199; cases hL199
 | succ nf =>
  rw [L_graph_of_v1_l1] at hL199
  refine qs 47 [] [1,2,7,11,12,13,14] [(8,0)] h fun ac wd h => ?_
  refine wp_seq ?_
  rcases i2 hL199 with ⟨hb201,hL199⟩ | ⟨hb201,hL199⟩
  ·
   refine kT h ?_
   refine wp_skip ?_
   change Code.wp Try.prog _ _ _ _
   obtain ⟨e209,hE210,hL199⟩ := Option.bind_eq_some_iff.1 hL199
   refine r_seqJ (fun ac wd => ∃ (l208 : List Int),l208 = e209 ∧ SL ⟨wb,S,Φ,P0⟩ 29 63 [(1,.one (.d (.int .i64 a1))),(2,.one (.d (.int .i64 0))),(7,.one (.own (61,0) l208.length)),(11,.one (.d (.sl (List.map eA2I a0.Links)))),(12,.one (.d (.int .i64 (a0.Links.length : Int)))),(13,.one (.d (.int .i64 n197)))] [((61,0),some (.row 3 1 (dat (List.map eI l208))))] ac wd) ?_ ?_
   ·
    refine wp_block ?_
    obtain ⟨x213,hx214a,hx214b,hx214c,hx214d,hE210⟩ := aB hE210
    refine qs 53 [] [1,2,7,8,9,11,12,13] [(8,0),(50,0)] h fun ac wd h => ?_
    refine qs 58 [] [1,2,7,8,11,12,13,22] [(8,0)] h fun ac wd h => ?_
    rcases i2e hE210 with ⟨hb215,hE210⟩ | ⟨hb215,hE210⟩
    ·
     refine kT h ?_
     obtain ⟨ha216,hE210⟩ := iT hE210
     refine qe [] [1,2,7,11,12,13] [(61,0)] h fun ac wd h => ?_
     injection hE210 with hE210; subst hE210
     exact ⟨(l198 ++ [n197]),rfl,h.z⟩
    ·
     refine kF h ?_
     refine wp_skip ?_
     have h := h.sw (61,0) (8,0) 63
     injection hE210 with hE210; subst hE210
     exact ⟨l198,rfl,h.z⟩
   ·
    rintro ac wd ⟨l208,rfl,h⟩
    (try dsimp only at hL199)
    refine qe [] [1,2,7,11,12,13] [(61,0)] h fun ac wd h => ?_
    have h := h.sw (8,0) (61,0) 65
    exact ⟨nf,Nat.lt_succ_self nf,(IntKind.wrap .i64 (n197 + 1)),l208,hL199,h.z⟩
  ·
   refine kF h ?_
   refine wp_exit ?_
   change Code.wp Try.prog _ _ _ _
   refine qs 49 [] [6] [(8,0)] h fun ac wd h => ?_
   refine wp_ret ?_
   have h := h.sw (1,0) (8,0) 49
   injection hL199 with hL199
   subst hL199
   exact rO h [.tmp 6] [(1,0)]
theorem L_graph_of_v1_ok {a0 : TGraph} {a1 : Int} {r : (List Int)} (hD : L_graph_of_v1 a0 a1 = some r) :
  CallH Try.prog 133 [.agg (cTGraph a0),.one (.d (.int .i64 a1)),.one (.d (.int .i64 0))] []
   (.one (.d (.sl (List.map eI r)))) [] :=
 (L_graph_of_v1_own hD).fr

theorem L_graph_Out_own {a0 : TGraph} {a1 : Int} {r : (List Int)} (hD : L_graph_Out a0 a1 = some r) :
  CallH Try.prog 124 [.agg (cTGraph a0),.one (.d (.int .i64 a1))] []
   (.one (.own (1,0) r.length)) [((1,0),some (.row 3 1 (dat (List.map eI r))))] := by
 unfold L_graph_Out at hD
 refine rc Try.func124 rfl Try.ntmps124 fun S Φ P0 wb ac h => ?_
 refine qs 3 [] [1,2] [(1,0)] h fun ac wd h => ?_
 obtain ⟨r7,hc8,hD⟩ := oB hD
 have hc8_5 := ((L_graph_of_v1_own hc8).cls 5).z
 refine qs 7 [factO hc8_5] [4] [(5,0)] h fun ac wd h => ?_
 refine wp_ret ?_
 have h := h.sw (1,0) (5,0) 7
 injection hD with hD
 subst hD
 exact rO h [.tmp 4] [(1,0)]
theorem L_graph_Out_ok {a0 : TGraph} {a1 : Int} {r : (List Int)} (hD : L_graph_Out a0 a1 = some r) :
  CallH Try.prog 124 [.agg (cTGraph a0),.one (.d (.int .i64 a1))] []
   (.one (.d (.sl (List.map eI r)))) [] :=
 (L_graph_Out_own hD).fr

theorem L_graph_Dist_own {a0 : TGraph} {a1 : Int} {r : (List Int)} (hD : L_graph_Dist a0 a1 = some r) :
  CallH Try.prog 116 [.agg (cTGraph a0),.one (.d (.int .i64 a1))] []
   (.one (.own (1,0) r.length)) [((1,0),some (.row 3 1 (dat (List.map eI r))))] := by
 unfold L_graph_Dist at hD
 refine rc Try.func116 rfl Try.ntmps116 fun S Φ P0 wb ac h => ?_
 refine qs 3 [] [1,2] [(1,0)] h fun ac wd h => ?_
 refine wp_scope_straight ?_
 refine wp_seq ?_
 obtain ⟨r920,hc921,hD⟩ := oB hD
 have hc921k := L_graph_Graph_node_ok hc921
 refine qs 7 [factE 5 hc921k] [1,2,14] [(1,0)] h fun ac wd h => ?_
 rcases i2b hD with ⟨hb923,hD⟩ | ⟨hb923,hD⟩
 ·
  refine kF h ?_
  refine wp_skip ?_
  change Code.wp Try.prog _ _ _ _
  obtain ⟨r926,hc927,hD⟩ := oB hD
  have hc927_10 := ((L_slices_Repeat_int_int_own hc927).cls 10).z
  refine qs 12 [factO hc927_10] [1,2,5] [(1,0),(10,0)] h fun ac wd h => ?_
  obtain ⟨x930,hx931a,hx931b,hx931c,hx931d,hD⟩ := aB hD
  refine qs 16 [] [1,2,5] [(1,0),(10,0)] h fun ac wd h => ?_
  refine qs 19 [] [2,5,6] [(1,0),(10,0),(17,0)] h fun ac wd h => ?_
  refine wp_seq ?_
  refine wp_label ?_
  change Code.wp Try.prog _ _ _ _
  refine wp_seq ?_
  refine wp_block ?_
  refine r_while (fun nf ac wd => ∃ (l1684 : List Int) (l1685 : List Int),L_graph_Dist_l1 a0 nf l1684 l1685 = some r ∧ SL ⟨wb,S,Φ,P0⟩ 65 179 [(2,.one (.ptr (1,0) 0)),(5,.one (.own (10,0) l1684.length)),(6,.one (.own (17,0) l1685.length))] [((1,0),some (.box 24 (cTGraph a0))),((10,0),some (.row 3 1 (dat (List.map eI l1684)))),((17,0),some (.row 3 1 (dat (List.map eI l1685))))] ac wd) (a0.N.toNat + 2) ⟨(r926.set a1.toNat 0),[a1],hD,h.z⟩ (fun nf ac wd hJ => ?_)
  obtain ⟨l1684,l1685,hL1686,h⟩ := hJ
  cases nf with
  | zero => rw [L_graph_Dist_l1] at hL1686; cases hL1686
  | succ nf =>
   rw [L_graph_Dist_l1] at hL1686
   refine wp_block ?_
   refine wp_seq ?_
   refine qs 182 [] [2,5,6,26] [(1,0),(10,0),(17,0)] h fun ac wd h => ?_
   rcases i2e hL1686 with ⟨hb1688,hL1686⟩ | ⟨hb1688,hL1686⟩
   ·
    refine kT h ?_
    refine wp_exit ?_
    change Code.wp Try.prog _ _ _ _
    refine qs 184 [] [4] [(10,0)] h fun ac wd h => ?_
    refine wp_ret ?_
    have h := h.sw (1,0) (10,0) 184
    injection hL1686 with hL1686
    subst hL1686
    exact rO h [.tmp 4] [(1,0)]
   ·
    refine kF h ?_
    refine wp_skip ?_
    change Code.wp Try.prog _ _ _ _
    obtain ⟨x1691,hx1692a,hx1692b,hx1692c,hx1692d,hL1686⟩ := aN 0 hL1686
    refine qs 186 [] [2,5,6,7] [(1,0),(10,0),(17,0)] h fun ac wd h => ?_
    obtain ⟨ha1695,hL1686⟩ := iT hL1686
    have hq1696 : 1 + (l1685.length - 1) ≤ l1685.length := by omega
    refine qs 189 [] [2,5,6,7] [(1,0),(10,0),(17,0)] h fun ac wd h => ?_
    obtain ⟨r1699,hc1700,hL1686⟩ := oB hL1686
    have hc1700k := L_graph_Out_ok hc1700
    refine qs 194 [factE 191 hc1700k] [2,5,6,7,34,35,36] [(1,0),(10,0),(17,0)] h fun ac wd h => ?_
    obtain ⟨e1835,hE1836,hL1686⟩ := Option.bind_eq_some_iff.1 hL1686
    refine r_meetQ (fun ac wd => ∃ (l1833 : List Int) (l1834 : List Int),(l1833,l1834) = e1835 ∧ SL ⟨wb,S,Φ,P0⟩ 65 259 [(2,.one (.ptr (1,0) 0)),(5,.one (.own (10,0) l1833.length)),(6,.one (.own (17,0) l1834.length))] [((1,0),some (.box 24 (cTGraph a0))),((10,0),some (.row 3 1 (dat (List.map eI l1833)))),((17,0),some (.row 3 1 (dat (List.map eI l1834))))] ac wd) ?_ ?_
    ·
     refine wp_block ?_
     have h := h.sm 194 [(2,.one (.ptr (1,0) 0)),(5,.one (.own (10,0) l1684.length)),(6,.one (.sub (17,0) 1 1 (l1685.length - 1))),(7,.one (.d (.int .i64 x1691))),(34,.one (.d (.sl (List.map eI r1699)))),(35,.one (.d (.int .i64 (r1699.length : Int)))),(36,.one (.d (.int .i64 0)))]
      [((1,0),some (.box 24 (cTGraph a0))),((10,0),some (.row 3 1 (dat (List.map eI l1684)))),((17,0),some (.row 3 1 (dat (List.map eI l1685))))]
     have h := SL.tail h 6 (17,0) (by simp only [EZ,simprocAttr, *] <;> rfl) (by simp only [EZ,simprocAttr, *] <;> rfl) (by simp only [EZ,simprocAttr, *] <;> omega) rfl (by simp only [noIdF,EZ,simprocAttr, *] <;> rfl) (by simp only [noIdM,EZ,simprocAttr, *] <;> rfl)
     refine r_while (fun nf ac wd => ∃ (n1924 : Int) (l1925 : List Int) (l1926 : List Int),L_graph_Dist_l2 a0 r1699 x1691 nf n1924 l1925 l1926 = some e1835 ∧ SL ⟨wb,S,Φ,P0⟩ 65 258 [(2,.one (.ptr (1,0) 0)),(5,.one (.own (10,0) l1925.length)),(6,.one (.own (17,0) l1926.length)),(7,.one (.d (.int .i64 x1691))),(34,.one (.d (.sl (List.map eI r1699)))),(35,.one (.d (.int .i64 (r1699.length : Int)))),(36,.one (.d (.int .i64 n1924)))] [((1,0),some (.box 24 (cTGraph a0))),((10,0),some (.row 3 1 (dat (List.map eI l1925)))),((17,0),some (.row 3 1 (dat (List.map eI l1926))))] ac wd) (((r1699.length : Int) - 0).toNat + 1) ⟨0,l1684,(l1685.drop 1),hE1836,h.z⟩ (fun nf ac wd hJ => ?_)
     obtain ⟨n1924,l1925,l1926,hL1927,h⟩ := hJ
     cases nf with
     | zero => rw [L_graph_Dist_l2] at hL1927; cases hL1927
     | succ nf =>
      rw [L_graph_Dist_l2] at hL1927
      refine qs 259 [] [2,5,6,7,34,35,36,37] [(1,0),(10,0),(17,0)] h fun ac wd h => ?_
      refine wp_seq ?_
      rcases i2 hL1927 with ⟨hb1929,hL1927⟩ | ⟨hb1929,hL1927⟩
      ·
       refine kT h ?_
       refine wp_skip ?_
       change Code.wp Try.prog _ _ _ _
       obtain ⟨e1950,hE1951,hL1927⟩ := Option.bind_eq_some_iff.1 hL1927
       refine r_seqJ (fun ac wd => ∃ (l1948 : List Int) (l1949 : List Int),(l1948,l1949) = e1950 ∧ SL ⟨wb,S,Φ,P0⟩ 65 288 [(2,.one (.ptr (1,0) 0)),(5,.one (.own (10,0) l1948.length)),(6,.one (.own (286,0) l1949.length)),(7,.one (.d (.int .i64 x1691))),(34,.one (.d (.sl (List.map eI r1699)))),(35,.one (.d (.int .i64 (r1699.length : Int)))),(36,.one (.d (.int .i64 n1924)))] [((1,0),some (.box 24 (cTGraph a0))),((10,0),some (.row 3 1 (dat (List.map eI l1948)))),((286,0),some (.row 3 1 (dat (List.map eI l1949))))] ac wd) ?_ ?_
       ·
        refine wp_block ?_
        obtain ⟨x1954,hx1955a,hx1955b,hx1955c,hx1955d,hE1951⟩ := aB hE1951
        refine qs 262 [] [2,5,6,7,9,34,35,36] [(1,0),(10,0),(17,0)] h fun ac wd h => ?_
        obtain ⟨x1958,hx1959a,hx1959b,hx1959c,hx1959d,hE1951⟩ := aB hE1951
        refine qs 269 [] [2,5,6,7,10,34,35,36] [(1,0),(10,0),(17,0)] h fun ac wd h => ?_
        obtain ⟨x1962,hx1963a,hx1963b,hx1963c,hx1963d,hE1951⟩ := aB hE1951
        refine qs 274 [] [2,5,6,7,10,34,35,36,50] [(1,0),(10,0),(17,0)] h fun ac wd h => ?_
        rcases i2 hE1951 with ⟨hb1964,hE1951⟩ | ⟨hb1964,hE1951⟩
        ·
         refine kT h ?_
         obtain ⟨x1967,hx1968a,hx1968b,hx1968c,hx1968d,hE1951⟩ := aB hE1951
         refine qs 283 [] [2,5,6,7,10,34,35,36] [(1,0),(10,0),(17,0)] h fun ac wd h => ?_
         obtain ⟨ha1969,hE1951⟩ := iT hE1951
         refine qe [] [2,5,6,7,34,35,36] [(1,0),(10,0),(286,0)] h fun ac wd h => ?_
         injection hE1951 with hE1951; subst hE1951
         exact ⟨(l1925.set x1958.a1.toNat (IntKind.wrap .i64 (x1967 + 1))),(l1926 ++ [x1958.a1]),rfl,h.z⟩
        ·
         refine kF h ?_
         refine wp_skip ?_
         have h := h.sw (286,0) (17,0) 288
         injection hE1951 with hE1951; subst hE1951
         exact ⟨l1925,l1926,rfl,h.z⟩
       ·
        rintro ac wd ⟨l1948,l1949,rfl,h⟩
        (try dsimp only at hL1927)
        refine qe [] [2,5,6,7,34,35,36] [(1,0),(10,0),(286,0)] h fun ac wd h => ?_
        have h := h.sw (17,0) (286,0) 290
        exact ⟨nf,Nat.lt_succ_self nf,(IntKind.wrap .i64 (n1924 + 1)),l1948,l1949,hL1927,h.z⟩
      ·
       refine kF h ?_
       refine wp_exit ?_
       injection hL1927 with hL1927; subst hL1927
       exact ⟨l1925,l1926,rfl,h.z⟩
    ·
     rintro ac wd ⟨l1833,l1834,rfl,h⟩
     (try dsimp only at hL1686)
     exact ⟨nf,Nat.lt_succ_self nf,l1833,l1834,hL1686,h.z⟩
 ·
  refine kT h ?_
  refine qs 8 [] [4] [] h fun ac wd h => ?_
  refine wp_ret ?_
  have h := SL.bornS h 4 3 1 (by simp only [EZ,simprocAttr, *] <;> rfl)
  have h := h.sw (1,0) (8,0) 9
  injection hD with hD
  subst hD
  exact rO h [.tmp 4] [(1,0)]
theorem L_graph_Dist_ok {a0 : TGraph} {a1 : Int} {r : (List Int)} (hD : L_graph_Dist a0 a1 = some r) :
  CallH Try.prog 116 [.agg (cTGraph a0),.one (.d (.int .i64 a1))] []
   (.one (.d (.sl (List.map eI r)))) [] :=
 (L_graph_Dist_own hD).fr

theorem L_slices_Index_int_int_ok {a0 : (List Int)} {a1 : Int} {r : Int} (hD : L_slices_Index_int_int a0 a1 = some r) :
  CallH Try.prog 105 [.one (.d (.sl (List.map eI a0))),.one (.d (.int .i64 a1))] []
   (.one (.d (.int .i64 r))) [] := by
 unfold L_slices_Index_int_int at hD
 refine rc Try.func105 rfl Try.ntmps105 fun S Φ P0 wb ac h => ?_
 refine qs 2 [] [0,1] [] h fun ac wd h => ?_
 refine wp_seq ?_
 refine qs 5 [] [0,1,7,8] [] h fun ac wd h => ?_
 refine wp_block ?_
 refine r_while (fun nf ac wd => ∃ (n143 : Int),L_slices_Index_int_int_l1 a0 a1 nf n143 = some r ∧ SL ⟨wb,S,Φ,P0⟩ 19 27 [(0,.one (.d (.sl (List.map eI a0)))),(1,.one (.d (.int .i64 a1))),(7,.one (.d (.int .i64 (a0.length : Int)))),(8,.one (.d (.int .i64 n143)))] [] ac wd) (((a0.length : Int) - 0).toNat + 1) ⟨0,hD,h.z⟩ (fun nf ac wd hJ => ?_)
 obtain ⟨n143,hL144,h⟩ := hJ
 cases nf with
 | zero => rw [L_slices_Index_int_int_l1] at hL144; cases hL144
 | succ nf =>
  rw [L_slices_Index_int_int_l1] at hL144
  refine qs 28 [] [0,1,7,8,9] [] h fun ac wd h => ?_
  refine wp_seq ?_
  rcases i2 hL144 with ⟨hb146,hL144⟩ | ⟨hb146,hL144⟩
  ·
   refine kT h ?_
   refine wp_skip ?_
   change Code.wp Try.prog _ _ _ _
   refine wp_seq ?_
   refine wp_block ?_
   refine qs 30 [] [0,1,5,7,8] [] h fun ac wd h => ?_
   obtain ⟨x154,hx155a,hx155b,hx155c,hx155d,hL144⟩ := aB hL144
   refine qs 36 [] [0,1,5,7,8,16] [] h fun ac wd h => ?_
   rcases i2e hL144 with ⟨hb156,hL144⟩ | ⟨hb156,hL144⟩
   ·
    refine kT h ?_
    refine qs 38 [] [4] [] h fun ac wd h => ?_
    refine wp_ret ?_
    injection hL144 with hL144
    subst hL144
    exact rE h [.tmp 4]
   ·
    refine kF h ?_
    refine wp_skip ?_
    change Code.wp Try.prog _ _ _ _
    refine qe [] [0,1,7,8] [] h fun ac wd h => ?_
    exact ⟨nf,Nat.lt_succ_self nf,(IntKind.wrap .i64 (n143 + 1)),hL144,h.z⟩
  ·
   refine kF h ?_
   refine wp_exit ?_
   change Code.wp Try.prog _ _ _ _
   refine qs 29 [] [4] [] h fun ac wd h => ?_
   refine wp_ret ?_
   injection hL144 with hL144
   subst hL144
   exact rE h [.tmp 4]

theorem L_slices_Contains_int_int_ok {a0 : (List Int)} {a1 : Int} {r : Bool} (hD : L_slices_Contains_int_int a0 a1 = some r) :
  CallH Try.prog 75 [.one (.d (.sl (List.map eI a0))),.one (.d (.int .i64 a1))] []
   (.one (.d (.bool r))) [] := by
 unfold L_slices_Contains_int_int at hD
 refine rc Try.func75 rfl Try.ntmps75 fun S Φ P0 wb ac h => ?_
 refine qs 2 [] [0,1] [] h fun ac wd h => ?_
 obtain ⟨r7,hc8,hD⟩ := oB hD
 have hc8k := L_slices_Index_int_int_ok hc8
 refine qs 7 [factE 4 hc8k] [4] [] h fun ac wd h => ?_
 refine wp_ret ?_
 injection hD with hD
 subst hD
 exact rE h [.tmp 4]

end Go.Proofs.Ytifcbecpemaieaa
