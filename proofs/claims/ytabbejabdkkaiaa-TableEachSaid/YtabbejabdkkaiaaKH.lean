/- What the printed proofs rewrite with, as one; nil as data; answers in one step. A contract in other names; nil as data. Maps from keys made of numbers to numbers, as typed lists; what the printed proofs rewrite with. The rest of an own row, as a row of its own. Short forms for printed texts: branches and elements of typed functions; regions without conditions. No condition. -/
import Derived.Test.YtabbejabdkkaiaaKG
set_option linter.unusedSimpArgs false
set_option linter.unusedVariables false
namespace Go.Proofs.Ytabbejabdkkaiaa
open Go.RowKit

theorem e_seti {α : Type} (l : List α) (i : Nat) (r : α) : (l.set i r)[i]? = (l[i]?).map fun _ => r := by
 simp [List.getElem?_set]
 by_cases h : i < l.length <;> simp [h]
theorem e_beqI (x y : Int) : (x == y) = decide (x = y) := by by_cases h : x = y <;> simp [h]
theorem e_bneI (x y : Int) : (x != y) = !decide (x = y) := by by_cases h : x = y <;> simp [h]
theorem e_beqB (x y : Bool) : (x == y) = decide (x = y) := by cases x <;> cases y <;> rfl
theorem e_min (a b : Int) : foldI false a [b] = min a b := by
 simp only [foldI,Bool.false_eq_true,if_false]
 split <;> omega
theorem e_max (a b : Int) : foldI true a [b] = max a b := by
 simp only [foldI,if_true]
 split <;> omega
theorem e_min3 (a b c : Int) (r : List Int) : foldI false a (b :: c :: r) = foldI false (min a b) (c :: r) := by
 rw [← e_min]
 rfl
theorem e_max3 (a b c : Int) (r : List Int) : foldI true a (b :: c :: r) = foldI true (max a b) (c :: r) := by
 rw [← e_max]
 rfl
theorem e_nn (n : Nat) : (0 ≤ (n : Int)) = True := by simp
theorem e_repmem (n k : Nat) (x : List Cell) : (∀ r ∈ List.replicate n x,r.length = k) = (n = 0 ∨ x.length = k) := by
 simp [List.mem_replicate]
 by_cases h : n = 0 <;> simp [h]
theorem e_repfm {α β : Type} (f : α → List β) (n : Nat) (x : α) : (List.replicate n x).flatMap f = (List.replicate n (f x)).flatten := by
 induction n with
 | zero => rfl
 | succ n ih => simp [List.replicate_succ,List.flatMap_cons,ih]
theorem e_repnil {α : Type} (n : Nat) : (List.replicate n ([] : List α)).flatten = [] := by
 induction n with
 | zero => rfl
 | succ n ih => simp [List.replicate_succ,ih]
theorem e_tkm {α β : Type} (f : α → β) (l : List α) (n : Nat) : (l.map f).take n = (l.take n).map f := by simp
theorem e_dpm {α β : Type} (f : α → β) (l : List α) (n : Nat) : (l.map f).drop n = (l.drop n).map f := by simp
theorem e_dntr (r : List C) : (r.map Cell.d).all Cell.ntr = true := by
 induction r with
 | nil => rfl
 | cons c r ih => simp only [List.map_cons,List.all_cons,ih,Bool.and_true]; rfl
theorem e_allT {α : Type} (l : List α) : (l.all fun _ => true) = true := by simp
theorem e_allmap {α β : Type} (f : α → β) (l : List α) (q : β → Bool) : (l.map f).all q = l.all fun x => q (f x) := by simp [Function.comp_def]
theorem e_setall {α β : Type} (f : α → List β) (l : List α) (i : Nat) (r : α) (p : β → Bool) (h1 : (l.flatMap f).all p = true) (h2 : (f r).all p = true) : ((l.set i r).flatMap f).all p = true := by
 rw [List.all_eq_true] at h1 h2 ⊢
 intro x hx
 obtain ⟨q,hq,hxq⟩ := List.mem_flatMap.1 hx
 rcases List.mem_or_eq_of_mem_set hq with h | h
 · exact h1 x (List.mem_flatMap.2 ⟨q,h,hxq⟩)
 · subst h; exact h2 x hxq
theorem e_setfm {α β : Type} (f : α → List β) (l : List α) (i : Nat) (r : α) (h1 : l.flatMap f = []) (h2 : i < l.length) : (l.set i r).flatMap f = f r := by
 rw [List.set_eq_take_append_cons_drop,if_pos h2,List.flatMap_append,List.flatMap_cons]
 have h3 := List.flatMap_eq_nil_iff.1 h1
 rw [List.flatMap_eq_nil_iff.2 fun x hx => h3 x (List.mem_of_mem_take hx),List.flatMap_eq_nil_iff.2 fun x hx => h3 x (List.mem_of_mem_drop hx)]
 simp
theorem dat_ren (σ : Nm → Nm) (l : List (List C)) : (dat l).map (fun r => r.map (Cell.ren σ)) = dat l := by
 simp [dat,Function.comp_def,Cell.ren]
theorem cellsOf_ren (σ : Nm → Nm) (cols : Nat → TD) : ∀ (r : List C) (j : Nat),(cellsOf cols j r).map (Cell.ren σ) = cellsOf cols j r
 | [],_ => rfl
 | c :: r,j => by
  simp only [cellsOf,List.map_cons,cellsOf_ren σ cols r]
  cases cols j <;> rfl
theorem opn_ren (σ : Nm → Nm) (cols : Nat → TD) (l : List (List C)) : (openRows cols l).map (fun r => r.map (Cell.ren σ)) = openRows cols l := by
 simp [openRows,Function.comp_def,cellsOf_ren]
def EW0 := PLift.up (ai (ai (ai (ai (ai (ai (ai (ai @EV @implies_true.{1}) (ai @astep.eq_1 @stLoad.eq_1)) (ai (ai @stLoad.eq_2 @stStore.eq_1) (ai @stStore.eq_2 (ai @stStore.eq_3 @stIndexAddr.eq_1)))) (ai (ai (ai @stIndexAddr.eq_2 @stBin.eq_1) (ai @stBin.eq_2 @stBin.eq_3)) (ai (ai @stBin.eq_4 @stBin.eq_5) (ai @stUn.eq_1 (ai @stUn.eq_2 @stUn.eq_3))))) (ai (ai (ai (ai @stConv.eq_1 @stConv.eq_2) (ai @stExtract.eq_1 @stExtract.eq_2)) (ai (ai @stLen.eq_1 (ai @stCap.eq_1 @stLen.eq_2)) (ai (ai (ai @stAppend.eq_1 (ai @stAppendZ.eq_1 (ai @stAppend0.eq_1 @ownSub.eq_def))) (ai (ai @stAppendIn.eq_def @stSlice3.eq_def) (ai @beyond.eq_1 @rowLen.eq_def))) (ai @stAppend0.eq_2 @stBuildSlice.eq_1)))) (ai (ai (ai @stMake.eq_1 @stMake.eq_2) (ai @stCall.eq_1 (ai @stCopy.eq_1 @stCopy.eq_2))) (ai (ai @stClear.eq_1 @stClear.eq_2) (ai @stMinMax.eq_1 (ai @stMinMax.eq_2 @stSlice.eq_def)))))) (ai (ai (ai (ai (ai @stField.eq_def @partOf.eq_1) (ai @partOf.eq_2 @partOf.eq_3)) (ai (ai @partOf.eq_4 @partOf.eq_5) (ai @partOf.eq_6 (ai @partOf.eq_7 @partOf.eq_8)))) (ai (ai (ai @boundOf.eq_1 @boundOf.eq_2) (ai @nilOp.eq_1 @nilOp.eq_2)) (ai (ai @nilOp.eq_3 @nilOp.eq_4) (ai @nilOp.eq_5 (ai @nilOp.eq_6 @nilOp.eq_7))))) (ai (ai (ai (ai @aggOp.eq_1 @aggOp.eq_2) (ai @aggOp.eq_3 @flatI.eq_1)) (ai (ai @flatI.eq_2 @flatI.eq_3) (ai @eqI.eq_1 (ai @eqI.eq_2 @eqI.eq_3)))) (ai (ai (ai @calleeOf.eq_1 @calleeOf.eq_2) (ai @calleeOf.eq_3 (ai @sumAV.eq_1 @sumAV.eq_2))) (ai (ai @funcOf.eq_def @sumOf.eq_1) (ai @sumOf.eq_2 (ai @sumOf.eq_3 @ptrOf.eq_1))))))) (ai (ai (ai (ai (ai (ai @ptrOf.eq_2 @dOf.eq_1) (ai @dOf.eq_2 @isRow.eq_1)) (ai (ai @isRow.eq_2 @rowAt.eq_1) (ai @rowAt.eq_2 (ai @subSz.eq_1 @subSz.eq_2)))) (ai (ai (ai @dstAt.eq_1 @dstAt.eq_2) (ai @dstAt.eq_3 @cutAV.eq_1)) (ai (ai @cutAV.eq_2 @intOfAV.eq_1) (ai @intOfAV.eq_2 (ai @e_min @e_max))))) (ai (ai (ai (ai @outs.eq_1 @cellsAt.eq_1) (ai @cellsAt.eq_2 @cellsAt.eq_3)) (ai (ai @cellsAt.eq_4 @fwd.eq_1) (ai @fwd.eq_2 (ai @fwd.eq_3 @fwd.eq_4)))) (ai (ai (ai @elemOfS.eq_1 @elemOfS.eq_2) (ai @elemOfS.eq_3 (ai @elemOfS.eq_4 @lenC.eq_1))) (ai (ai @lenC.eq_2 @lenC.eq_3) (ai @lenC.eq_4 (ai @lenC.eq_5 @srcOf.eq_1)))))) (ai (ai (ai (ai (ai @srcOf.eq_2 @arith.eq_1) (ai @arith.eq_2 @arith.eq_3)) (ai (ai @arith.eq_4 @arith.eq_5) (ai @arith.eq_6 (ai @arith.eq_7 @arith.eq_8)))) (ai (ai (ai @arith.eq_9 @arith.eq_10) (ai @arith.eq_11 @arith.eq_12)) (ai (ai @arith.eq_13 @arith.eq_14) (ai @arith.eq_15 (ai @boolOp.eq_1 @boolOp.eq_2))))) (ai (ai (ai (ai @boolOp.eq_3 @lay.eq_1) (ai @partsAV.eq_1 @kills.eq_1)) (ai (ai @opN.eq_1 @Go.Op.operands.eq_1) (ai @Go.Op.operands.eq_2 (ai @Go.Op.operands.eq_3 @Go.Op.operands.eq_4)))) (ai (ai (ai @Go.Op.operands.eq_5 @Go.Op.operands.eq_6) (ai @Go.Op.operands.eq_7 (ai @Go.Op.operands.eq_8 @Go.Op.operands.eq_9))) (ai (ai @Go.Op.operands.eq_10 @Go.Op.operands.eq_11) (ai @Go.Op.operands.eq_12 (ai @Go.Op.operands.eq_13 @Go.Op.operands.eq_14)))))))) (ai (ai (ai (ai (ai (ai (ai @Go.Op.operands.eq_15 @Go.Op.operands.eq_16) (ai @Go.Op.operands.eq_17 @Go.Op.operands.eq_18)) (ai (ai @Go.Op.operands.eq_19 @Go.Op.operands.eq_20) (ai @Go.Op.operands.eq_21 (ai @Go.Op.operands.eq_22 @Go.Op.operands.eq_23)))) (ai (ai (ai @Go.Op.operands.eq_24 @Go.Op.operands.eq_25) (ai @Go.Op.operands.eq_26 @Go.Op.operands.eq_27)) (ai (ai @Go.Op.operands.eq_28 @Go.Op.operands.eq_29) (ai @Go.Op.operands.eq_30 (ai @Go.Op.operands.eq_31 @Go.Op.operands.eq_32))))) (ai (ai (ai (ai @Go.Op.operands.eq_33 @Go.Op.operands.eq_34) (ai @Go.Op.operands.eq_35 @Go.Op.operands.eq_36)) (ai (ai @Go.Op.operands.eq_37 @Go.Op.operands.eq_38) (ai @Go.Op.operands.eq_39 (ai @Go.Op.operands.eq_40 @Go.Op.operands.eq_41)))) (ai (ai (ai @Go.Op.operands.eq_42 @Go.Op.operands.eq_43) (ai @Go.Call.operands.eq_1 (ai @fD_g @fD_a))) (ai (ai @fD_m @fD_f) (ai @fD_k (ai @fO_g @fO_a)))))) (ai (ai (ai (ai (ai @fO_m @fO_f) (ai @fO_k @fR_g)) (ai (ai @fR_a @fR_m) (ai @fR_f (ai @fR_k @List.map_cons.{0,0})))) (ai (ai (ai @List.map_nil.{0,0} @List.all_cons.{0}) (ai @List.all_nil.{0} @List.flatMap_cons.{0,0})) (ai (ai @List.flatMap_nil.{0,0} @List.cons_append.{0}) (ai @List.nil_append.{0} (ai @List.append_nil.{0} @List.length_cons.{0}))))) (ai (ai (ai (ai @List.length_nil.{0} @List.take_succ_cons.{0}) (ai @List.take_zero.{0} @List.drop_succ_cons.{0})) (ai (ai @List.drop_zero.{0} @List.getElem?_cons_zero.{0}) (ai @List.getElem?_cons_succ.{0} (ai @List.isEmpty_nil.{0} @List.isEmpty_cons.{0})))) (ai (ai (ai @Bool.and_true @Bool.true_and) (ai @Bool.and_self (ai @Bool.not_true @Bool.not_false))) (ai (ai @Option.map_some.{0,0} @Option.map_none.{0,0}) (ai @Option.bind_some.{0,0} (ai @Option.bind_none.{0,0} @Bool.false_eq_true))))))) (ai (ai (ai (ai (ai (ai @Nat.zero_add @and_true) (ai @true_and @and_self)) (ai (ai @Option.isSome_some.{0} @Option.isSome_none.{0}) (ai @decide_true (ai @decide_false @Nat.le_refl)))) (ai (ai (ai @List.map_toArray.{0,0} @Array.toList_map.{0,0}) (ai @Int.toNat_natCast @if_true.{1})) (ai (ai @if_false.{1} @List.map_append.{0,0}) (ai @List.map_set.{0,0} (ai @List.map_replicate.{0,0} @e_tkm))))) (ai (ai (ai (ai @e_dpm @List.length_map.{0,0}) (ai @List.length_append.{0} @List.length_set.{0})) (ai (ai @List.length_replicate.{0} @List.getElem?_map.{0,0}) (ai @List.forall_mem_map.{0,0} (ai @implies_true.{0} @List.forall_mem_append.{0})))) (ai (ai (ai @List.mem_cons.{0} @forall_eq_or_imp.{1}) (ai @List.not_mem_nil.{0} (ai @false_imp_iff @List.set_set.{0}))) (ai (ai @e_seti @e_beqI) (ai @e_bneI (ai @e_beqB @e_nn)))))) (ai (ai (ai (ai (ai @List.take_nil.{0} @List.drop_nil.{0}) (ai @not_true @not_false)) (ai (ai @List.reverse_cons.{0} @List.reverse_nil.{0}) (ai @List.append_assoc.{0} (ai @e_repmem @Nat.add_zero)))) (ai (ai (ai @beq_self_eq_true.{0} @ite_self.{1}) (ai @List.all_replicate.{0} (ai @e_repfm @e_repnil))) (ai (ai @Nat.beq_refl @Option.getD_some.{0}) (ai @Option.getD_none.{0} (ai @or_true @true_or))))) (ai (ai (ai (ai @ne_eq.{1} @List.nodup_cons.{0}) (ai @List.nodup_nil.{0} @not_false_eq_true)) (ai (ai @or_false @false_or) (ai @forall_eq.{1} (ai @false_and @and_false)))) (ai (ai (ai @List.length_take.{0} @List.length_drop.{0}) (ai @e_dntr (ai @e_allT @e_allmap))) (ai (ai @e_setall @List.set_cons_zero.{0}) (ai @List.set_cons_succ.{0} (ai @List.all_append.{0} @e_setfm)))))))))
theorem EW : type_of% EW0.down := EW0.down
section
variable {P : Program} {w0 : Bas} {N nx : Nat} {F F' : LF} {M M' : LM} {a : Act} {w : World} {Q : Exit → Act → World → Prop}
theorem SL.same (h : SL w0 N nx F M a w) (ks : List Nat) (ms : List Nm) (nx' : Nat) (F' : LF) (M' : LM) (e : fkeep F ks = F' ∧ mkeep M ms = M' ∧ okN nx' F' M' = true) : SL w0 N nx' F' M' a w := h.cong ks ms nx' e.1 e.2.1 e.2.2
theorem r_meet {x : Code} {K : Act → World → Prop} (J : Act → World → Prop) (h : x.wp P (Exit.then J Q) a w) (hk : ∀ a w,J a w → K a w) : x.wp P (Exit.then K Q) a w :=
 Code.wp_mono (then_mono hk) h
def retD (P : Program) (N : Nat) (F : LF) (M : LM) (rs : List ResultVar) : Option AV := match rs.mapM (aRes P N F M) with
 | some xs => match frzAVs (mget M) xs with
  | some ys => ansOf ys
  | none => none
 | none => none
theorem r_retE {fn : Func} {S Φ : Nat → Prop} {P0 : Place} {wb : World} {ans : AV} (hw : w0 = ⟨wb,S,Φ,P0⟩) (h : SL w0 N nx F M a w) (rs : List ResultVar) (hr : fn.results.toList = rs) (e : retD P N F M rs = some ans) :
  bodyPost P fn (HPost S Φ (fun id => id.1 = 0) P0 wb ans (mget [])) .ret a w := by
 subst hr
 unfold retD at e
 split at e
 ·
  rename_i xs hx
  split at e
  ·
   rename_i ys hy
   exact r_retD hw h hx hy e
  · cases e
 · cases e
end
section
variable {σ τ : Nm → Nm}
theorem Cell.ren_ids (c : Cell) : (c.ren σ).ids = c.ids.map σ := by
 cases c <;> simp [Cell.ren,Cell.ids]
theorem sum_ren_ids (x : List Cell ⊕ Cell) : sumIds (sumRen σ x) = (sumIds x).map σ := by
 cases x with
 | inl l => simp [sumRen,sumIds,List.flatMap_map,List.map_flatMap,Cell.ren_ids]
 | inr c => simp [sumRen,sumIds,Cell.ren_ids]
theorem AV.ren_ids (x : AV) : (x.ren σ).ids = x.ids.map σ := by
 cases x with
 | one c => simp [AV.ren,AV.ids,Cell.ren_ids]
 | agg l => simp [AV.ren,AV.ids,List.flatMap_map,List.map_flatMap,Cell.ren_ids]
 | tup l => simp [AV.ren,AV.ids,List.flatMap_map,List.map_flatMap,sum_ren_ids]
theorem AObj.ren_ids (o : AObj) : (o.ren σ).ids = o.ids.map σ := by
 cases o with
 | box t l => simp [AObj.ren,AObj.ids,List.flatMap_map,List.map_flatMap,Cell.ren_ids]
 | row t s l => simp [AObj.ren,AObj.ids,List.flatMap_map,List.map_flatMap,Cell.ren_ids]
 | map kt et ag n l => rfl
theorem Cell.ren_ren (h : ∀ i,τ (σ i) = i) (c : Cell) : (c.ren σ).ren τ = c := by
 cases c <;> simp [Cell.ren,h,Function.comp_def]
theorem sum_ren_ren (h : ∀ i,τ (σ i) = i) (x : List Cell ⊕ Cell) : sumRen τ (sumRen σ x) = x := by
 cases x with
 | inl l => simp [sumRen,Function.comp_def,Cell.ren_ren h]
 | inr c => simp [sumRen,Cell.ren_ren h]
theorem AV.ren_ren (h : ∀ i,τ (σ i) = i) (x : AV) : (x.ren σ).ren τ = x := by
 cases x with
 | one c => simp [AV.ren,Cell.ren_ren h]
 | agg l => simp [AV.ren,Function.comp_def,Cell.ren_ren h]
 | tup l => simp [AV.ren,Function.comp_def,sum_ren_ren h]
theorem AObj.ren_ren (h : ∀ i,τ (σ i) = i) (o : AObj) : (o.ren σ).ren τ = o := by
 cases o with
 | box t l => simp [AObj.ren,Function.comp_def,Cell.ren_ren h]
 | row t s l => simp [AObj.ren,Function.comp_def,Cell.ren_ren h]
 | map kt et ag n l => rfl
theorem CallH.ren {P : Program} {g : FuncId} {args : List AV} {ans : AV} {M0 M1 : LM} (h : CallH P g args M0 ans M1) (h1 : ∀ i,τ (σ i) = i) (h2 : ∀ i,σ (τ i) = i) :
  CallH P g (args.map (AV.ren σ)) (mren σ M0) (ans.ren σ) (mren σ M1) := by
 have inj : ∀ a b,σ a = σ b → a = b := fun a b e => by rw [← h1 a,e,h1]
 have hget : ∀ (M : LM) (i : Nm),mget (mren σ M) (σ i) = (mget M i).map (AObj.ren σ) := fun M i => mget_ren inj i M
 have hold : ∀ (M : LM) (i : Nm) (o : AObj),mget (mren σ M) i = some o → ∃ o0,mget M (τ i) = some o0 ∧ o = o0.ren σ := fun M i o hi => by
  have := hget M (τ i)
  rw [h2,hi] at this
  obtain ⟨o0,h3,h4⟩ := Option.map_eq_some_iff.1 this.symm
  exact ⟨o0,h3,h4.symm⟩
 have hne : ∀ (M : LM) (i : Nm),mget M i ≠ none → mget (mren σ M) (σ i) ≠ none := fun M i hi e => by
  rw [hget] at e
  exact hi (Option.map_eq_none_iff.1 e)
 refine ⟨h.body,⟨fun id hid => ?_,fun i o hi id hid => ?_⟩,fun S Φ ρ φ w vs hS hΦ hl hv hobj hfoot hdisj => ?_⟩
 ·
  rw [AV.ren_ids,List.mem_map] at hid
  obtain ⟨j,hj,rfl⟩ := hid
  exact hne _ _ (h.shut.1 j hj)
 ·
  obtain ⟨o0,h3,rfl⟩ := hold _ _ _ hi
  rw [AObj.ren_ids,List.mem_map] at hid
  obtain ⟨j,hj,rfl⟩ := hid
  exact hne _ _ (h.shut.2 _ _ h3 j hj)
 ·
  have hc := h.calls S Φ (fun i => ρ (σ i)) (fun i => φ (σ i)) w vs hS hΦ (by simpa using hl) (fun i x v hx hvi => ?_) (fun id o hi => ?_) (fun id o b hi hb => ?_) fun id id' o o' b hi hi' hb hb' => ?_
  ·
   refine hc.mono fun e w' ⟨v,ρ1,φ1,e1,e2,e3,e4,e5,e6,e7⟩ => ?_
   have hSof : ∀ b,Sof ⟨w,S,Φ,fun i => ρ (σ i)⟩ φ1 (mget M1) w' b → Sof ⟨w,S,Φ,ρ⟩ (fun i => φ1 (τ i)) (mget (mren σ M1)) w' b := fun b hb => ⟨hb.1,fun id o hi hf => by
    obtain ⟨o0,h3,rfl⟩ := hold _ _ _ hi
    exact hb.2.1 _ _ h3 hf,hb.2.2⟩
   refine ⟨v,fun i => ρ1 (τ i),fun i => φ1 (τ i),e1,e2,e3.ren hSof fun id _ => by simp only [h1],fun id o hi => ?_,fun id o b hi hb => ?_,fun id id' o o' b hi hi' hb hb' => ?_,fun id o hi hI => ?_⟩
   ·
    obtain ⟨o0,h3,rfl⟩ := hold _ _ _ hi
    have := (e4 _ _ h3).ren (σ := σ) (ρ' := fun i => ρ1 (τ i)) (φ' := fun i => φ1 (τ i)) hSof (fun i _ => by simp only [h1]) (by simp only [h2]) fun b hb => by simp only [h2]; exact hb
    rwa [h2] at this
   ·
    obtain ⟨o0,h3,rfl⟩ := hold _ _ _ hi
    exact e5 _ _ b h3 hb
   ·
    obtain ⟨o0,h3,rfl⟩ := hold _ _ _ hi
    obtain ⟨o1,h4,rfl⟩ := hold _ _ _ hi'
    have := e6 _ _ _ _ b h3 h4 hb hb'
    rw [← h2 id,this,h2]
   ·
    obtain ⟨o0,h3,rfl⟩ := hold _ _ _ hi
    have := e7 _ _ h3 (fun e => hI (by have := hget M0 (τ id); rw [h2,e] at this; exact this))
    simp only [h2] at this
    exact this
  ·
   have hx' : (args.map (AV.ren σ))[i]? = some (x.ren σ) := by rw [List.getElem?_map,hx]; rfl
   have := (hv i _ v hx' hvi).ren (σ := τ) (ρ' := fun i => ρ (σ i)) (S' := S) (fun _ hb => hb) fun id _ => by simp only [h2]
   rwa [AV.ren_ren h1] at this
  ·
   have hi' : mget (mren σ M0) (σ id) = some (o.ren σ) := by rw [hget,hi]; rfl
   have := (hobj _ _ hi').ren (σ := τ) (ρ' := fun i => ρ (σ i)) (φ' := fun i => φ (σ i)) (S' := S) (fun _ hb => hb) (fun i _ => by simp only [h2]) (by simp only [h1]) fun b hb => by simp only [h1]; exact hb
   rwa [AObj.ren_ren h1,h1] at this
  ·
   have hi' : mget (mren σ M0) (σ id) = some (o.ren σ) := by rw [hget,hi]; rfl
   exact hfoot _ _ b hi' hb
  ·
   have h3 : mget (mren σ M0) (σ id) = some (o.ren σ) := by rw [hget,hi]; rfl
   have h4 : mget (mren σ M0) (σ id') = some (o'.ren σ) := by rw [hget,hi']; rfl
   exact inj _ _ (hdisj _ _ _ _ b h3 h4 hb hb')
def csw (k : Nat) (i : Nm) : Nm := if i.1 = 1 then (k,i.2) else if i.1 = k then (1,i.2) else i
theorem csw_csw (k : Nat) (i : Nm) : csw k (csw k i) = i := by
 obtain ⟨a,b⟩ := i
 unfold csw
 by_cases h1 : a = 1
 ·
  subst h1
  by_cases h2 : k = 1 <;> simp [h2]
 ·
  by_cases h2 : a = k
  ·
   subst h2
   simp [h1]
  · simp [h1,h2]
theorem CallH.cls {P : Program} {g : FuncId} {args : List AV} {ans : AV} {M0 M1 : LM} (h : CallH P g args M0 ans M1) (k : Nat) : CallH P g (args.map (AV.ren (csw k))) (mren (csw k) M0) (ans.ren (csw k)) (mren (csw k) M1) := h.ren (csw_csw k) (csw_csw k)
theorem CallH.nm {P : Program} {g : FuncId} {args : List AV} {ans : AV} {M0 M1 : LM} (h : CallH P g args M0 ans M1) (x y : Nm) : CallH P g (args.map (AV.ren (swp x y))) (mren (swp x y) M0) (ans.ren (swp x y)) (mren (swp x y) M1) := h.ren (swp_swp x y) (swp_swp x y)
end
theorem CallH.as {P : Program} {g : FuncId} {args args' : List AV} {ans ans' : AV} {M0 M0' M1 M1' : LM} (h : CallH P g args M0 ans M1) (e : args = args' ∧ M0 = M0' ∧ ans = ans' ∧ M1 = M1') : CallH P g args' M0' ans' M1' := by
 obtain ⟨rfl,rfl,rfl,rfl⟩ := e
 exact h

def frzSum (m : Nm → Option AObj) : List Cell ⊕ Cell → Option (List Cell ⊕ Cell)
 | .inl l => (mapO (frz m 5) l).map fun ds => .inl (ds.map .d)
 | .inr c => (frz m 5 c).map fun d => .inr (.d d)
def frzA (m : Nm → Option AObj) : AV → Option AV
 | .one c => frzAV m (.one c)
 | .agg l => frzAV m (.agg l)
 | .tup l => (mapO (frzSum m) l).map .tup
theorem frzA_ok {w0 : Bas} {N : Nat} {ρ : Place} {φ : Foot} {f : Nat → AV} {m : Nm → Option AObj} {a : Act} {w : World} (h : StR w0 N ρ φ f m a w) {x y : AV} {v : Value} (hc : frzA m x = some y) (hv : AVR ρ (Sof w0 φ m w) w x v) {T : Nat → Prop} (hT : ∀ b,Sof w0 φ m w b → T b) (hk : ∀ id o b,m id = some o → φ id b → T b) : AVR ρ T w y v := by
 cases x with
 | one c => exact frzAV_ok h (show frzAV m (.one c) = some y from hc) hv hT fun id o b _ => hk id o b
 | agg l => exact frzAV_ok h (show frzAV m (.agg l) = some y from hc) hv hT fun id o b _ => hk id o b
 | tup l =>
  simp only [frzA,Option.map_eq_some_iff] at hc
  obtain ⟨l',hl,rfl⟩ := hc
  obtain ⟨vs,h1,h2,h3⟩ := hv
  obtain ⟨h4,h5⟩ := mapO_get hl
  refine ⟨vs,h1,by rw [h2,h4],fun i y u hy hu => ?_⟩
  obtain ⟨x,hx,hxy⟩ := h5 i y hy
  have hs := h3 i x u hx hu
  cases x with
  | inl cs =>
   simp only [frzSum,Option.map_eq_some_iff] at hxy
   obtain ⟨ds,hd,rfl⟩ := hxy
   exact frzAV_ok h (x := .agg cs) (y := .agg (ds.map .d)) (by simp [frzAV,hd]) hs hT fun id o b _ => hk id o b
  | inr c =>
   simp only [frzSum,Option.map_eq_some_iff] at hxy
   obtain ⟨d,hd,rfl⟩ := hxy
   exact frzAV_ok h (x := .one c) (y := .one (.d d)) (by simp [frzAV,hd]) hs hT fun id o b _ => hk id o b
theorem CallH.frz {P : Program} {g : FuncId} {args : List AV} {ans ans' : AV} {M1 : LM} (h : CallH P g args [] ans M1) (h0 : (M1.all fun p => Nat.blt 0 p.1.1) = true) (hf : frzA (mget M1) ans = some ans') (hs : ans'.ids = []) : CallH P g args [] ans' [] := by
 refine ⟨h.body,⟨fun id hid => (by rw [hs] at hid; cases hid),fun i o hi => (by simp [mget] at hi)⟩,fun S Φ ρ φ w vs hS hΦ hl hv hobj hfoot hdisj => ?_⟩
 refine (h.calls S Φ ρ φ w vs hS hΦ hl hv hobj hfoot hdisj).mono fun e w' ⟨v,ρ1,φ1,e1,e2,e3,e4,e5,e6,e7⟩ => ?_
 have st : StR ⟨w,S,Φ,ρ⟩ 0 ρ1 φ1 (fun _ => .one .any) (mget M1) ⟨#[],[]⟩ w' := ⟨e2,rfl,rfl,fun t v ht => by simp at ht,e4,fun id o b hm hb => (e5 id o b hm hb).1,fun id o b hm hb => (e5 id o b hm hb).2,e6,fun id o hz hm => by
  have := List.all_eq_true.1 h0 _ (mget_mem hm)
  rw [Nat.blt_eq] at this
  simp only at this
  omega⟩
 refine ⟨v,ρ1,φ1,e1,e2,frzA_ok st hf e3 (fun b hb => ⟨hb.1,fun i o hi => by simp [mget] at hi,hb.2.2⟩) fun id o b hm hb => ⟨(e5 id o b hm hb).1,fun i o hi => by simp [mget] at hi,(e5 id o b hm hb).2.elim (fun h => .inr (.inl h)) fun h => .inr (.inr h)⟩,fun id o hi => by simp [mget] at hi,fun id o b hi => by simp [mget] at hi,fun id id' o o' b hi => by simp [mget] at hi,fun id o hi => by simp [mget] at hi⟩
section
variable {P : Program} {w0 : Bas} {N nx : Nat} {F : LF} {M : LM} {a : Act} {w : World}
def retO (P : Program) (N : Nat) (F : LF) (M : LM) (rs : List ResultVar) : Option AV := match rs.mapM (aRes P N F M) with
 | some xs => ansOf xs
 | none => none
theorem r_retO {fn : Func} {S Φ : Nat → Prop} {P0 : Place} {wb : World} {ans : AV} {M1 : LM} (hw : w0 = ⟨wb,S,Φ,P0⟩) (h : SL w0 N nx F M a w) (rs : List ResultVar) (hr : fn.results.toList = rs) (ks : List Nm) (e : retO P N F M rs = some ans ∧ mkeep M ks = M1) :
  bodyPost P fn (HPost S Φ (fun id => id.1 = 0) P0 wb ans (mget M1)) .ret a w := by
 subst hr
 obtain ⟨e,hM⟩ := e
 unfold retO at e
 split at e
 ·
  rename_i xs hx
  exact r_ret ks hw h hx e hM
 · cases e
end

theorem nil_view {S : Nat → Prop} {w : World} {v : Value} (h : v = .slice none 0 0) : View S w (.sl []) v := by rw [h]; exact view_nil
section
variable {w0 : Bas} {N nx : Nat} {F : LF} {M : LM} {a : Act} {w : World}
theorem SL.nilS (h : SL w0 N nx F M a w) (t : Nat) (ht : fget F t = .one .nil) : SL w0 N nx ((t,.one (.d (.sl []))) :: F) M a w := by
 obtain ⟨⟨ρ,φ,hst⟩,hn,hp⟩ := h
 refine ⟨⟨ρ,φ,hst.mv,hst.dfr,hst.size,fun k v hk => ?_,hst.objs,hst.lt,hst.base,hst.disj,hst.stab⟩,⟨fun k q hq => ?_,hn.2⟩,hp⟩
 ·
  simp only [fget]
  by_cases e : k = t
  ·
   subst e
   rw [if_pos rfl]
   have := hst.regs k v hk
   rw [ht] at this
   exact nil_view this
  ·
   rw [if_neg e]
   exact hst.regs k v hk
 ·
  simp only [fget] at hq
  by_cases e : k = t
  ·
   subst e
   rw [if_pos rfl] at hq
   cases hq
  ·
   rw [if_neg e] at hq
   exact hn.1 k q hq
theorem SL.nilB (h : SL w0 N nx F M a w) (id : Nm) (k : Nat) {bt : Nat} {l : List Cell} (hm : mget M id = some (.box bt l)) (hk : l[k]? = some .nil) : SL w0 N nx F ((id,some (.box bt (l.set k (.d (.sl []))))) :: M) a w := by
 obtain ⟨⟨ρ,φ,hst⟩,hn,hp⟩ := h
 have hkl : k < l.length := (List.getElem?_eq_some_iff.1 hk).1
 refine ⟨⟨ρ,φ,(hst.write id _ (.box bt (l.set k (.d (.sl [])))) hm (Mv.refl _ w) ?_).1⟩,⟨hn.1,fun q o hq => ?_⟩,hp⟩
 ·
  obtain ⟨b,cur,h1,h2,h3,h4⟩ := hst.objs id _ hm
  refine ⟨b,cur,h1,h2,h3,by rw [List.length_set]; exact h4.1,fun i c v hc hv => ?_⟩
  rw [List.getElem?_set] at hc
  by_cases e : k = i
  ·
   subst e
   rw [if_pos rfl,if_pos hkl] at hc
   injection hc with hc
   subst hc
   have := h4.2 k _ v hk hv
   exact ⟨nil_view this.1,this.2⟩
  ·
   rw [if_neg e] at hc
   exact h4.2 i c v hc hv
 ·
  simp only [mget,mput,mset] at hq
  by_cases e : q = id
  ·
   rw [if_pos e] at hq
   injection hq with hq
   subst hq e
   refine ⟨(hn.2 q _ hm).1,fun x hx => ?_⟩
   simp only [AObj.ids,List.mem_flatMap] at hx
   obtain ⟨c,hc,hx⟩ := hx
   rcases List.mem_or_eq_of_mem_set hc with h3 | h3
   · exact (hn.2 q _ hm).2 x (List.mem_flatMap.2 ⟨c,h3,hx⟩)
   ·
    subst h3
    cases hx
  ·
   rw [if_neg e] at hq
   exact hn.2 q o hq
end
abbrev NMap := List (List Int × Int)
def mE (m : NMap) : List (List Int × C) := m.map fun p => (p.1,.int .i64 p.2)
def mIdxI (m : NMap) (k : List Int) : Nat := m.findIdx fun p => decide (p.1 = k)
def mGetI (m : NMap) (k : List Int) : Int := ((m[mIdxI m k]?).map (·.2)).getD 0
def mSetI (m : NMap) (i : Nat) (v : Int) : NMap := m.modify i fun p => (p.1,v)
def mPutI (m : NMap) (k : List Int) (v : Int) : NMap := if mIdxI m k < m.length then mSetI m (mIdxI m k) v else m ++ [(k,v)]
def mTouchI (m : NMap) (k : List Int) : NMap := if mIdxI m k < m.length then m else m ++ [(k,0)]
theorem e_mE0 : ([] : List (List Int × C)) = mE [] := rfl
theorem e_mlen (m : NMap) : (mE m).length = m.length := by simp [mE]
theorem e_mIdx (m : NMap) (k : List Int) : mIdx (mE m) k = mIdxI m k := by
 unfold mIdx mIdxI mE
 rw [List.findIdx_map]
 rfl
theorem e_mGet (m : NMap) (k : List Int) : mGet (mE m) k = ((m[mIdxI m k]?).map (·.2)).map (C.int .i64) := by
 unfold mGet
 rw [e_mIdx]
 simp only [mE,List.getElem?_map,Option.map_map]
 rfl
theorem e_found (o : Option Int) : foundC (.int .i64 0) (o.map (C.int .i64)) = .d (.int .i64 (o.getD 0)) := by
 cases o <;> rfl
theorem e_getC (o : Option Int) : (o.map (C.int .i64)).getD (.int .i64 0) = .int .i64 (o.getD 0) := by
 cases o <;> rfl
theorem e_mGetI (m : NMap) (k : List Int) : ((m[mIdxI m k]?).map (·.2)).getD 0 = mGetI m k := rfl
theorem e_mSet (m : NMap) (i : Nat) (v : Int) : mSet (mE m) i (.int .i64 v) = mE (mSetI m i v) := by
 unfold mSet mSetI mE
 apply List.ext_getElem?
 intro j
 simp only [List.getElem?_modify,List.getElem?_map]
 by_cases h : i = j
 ·
  subst h
  cases m[i]? <;> simp
 · cases m[j]? <;> simp [h]
theorem e_mPut (m : NMap) (k : List Int) (v : Int) : mPut (mE m) k (.int .i64 v) = mE (mPutI m k v) := by
 unfold mPut mPutI
 rw [e_mIdx,e_mlen,e_mSet]
 split
 · rfl
 · simp [mE]
theorem e_mTouch (m : NMap) (k : List Int) : mTouch (mE m) k (.int .i64 0) = mE (mTouchI m k) := by
 unfold mTouch mTouchI
 rw [e_mIdx,e_mlen]
 split
 · rfl
 · simp [mE]
theorem e_touched (m : NMap) (k : List Int) : (mIdxI m k < (mTouchI m k).length) = True := by
 unfold mTouchI
 split
 ·
  rename_i h
  exact eq_true h
 ·
  have : mIdxI m k ≤ m.length := List.findIdx_le_length
  simp only [List.length_append,List.length_singleton,eq_iff_iff,iff_true]
  omega
theorem e_setTouch (m : NMap) (k : List Int) (v : Int) : mSetI (mTouchI m k) (mIdxI m k) v = mPutI m k v := by
 unfold mTouchI mPutI
 split
 · rfl
 ·
  rename_i h
  have h1 : mIdxI m k = m.length := Nat.le_antisymm List.findIdx_le_length (by omega)
  unfold mSetI
  rw [h1]
  apply List.ext_getElem?
  intro j
  rw [List.getElem?_modify]
  by_cases hj : m.length = j
  ·
   subst hj
   simp
  ·
   by_cases h2 : j < m.length
   ·
    rw [List.getElem?_append_left h2,List.getElem?_append_left h2]
    simp [hj]
   ·
    rw [List.getElem?_eq_none (by simp; omega),List.getElem?_eq_none (by simp; omega)]
    rfl
theorem e_i64s0 : i64s [] = some [] := rfl
theorem e_i64s1 (n : Int) (r : List Cell) : i64s (.d (.int .i64 n) :: r) = (i64s r).map (n :: ·) := rfl
theorem e_hint0 : hintOk none = true := rfl
theorem e_hint1 (k : IntKind) (n : Int) : hintOk (some (.one (.d (.int k n)))) = true := rfl
theorem e_zeroC (k : IntKind) (n : Int) : zeroC (.int k n) = some (.int k n) := rfl
theorem e_mapAt (m : Nm → Option AObj) (i : Nm) : mapAt m (.one (.mp i)) = match m i with
  | some (.map kt et ag n l) => some (i,kt,et,ag,n,l)
  | _ => none := rfl
theorem e_oid3 (kt et : TypeId) (ag : Bool) (n : Nat) (l : List (List Int × C)) : (AObj.map kt et ag n l).ids = [] := rfl
theorem e_key1 (n : Nat) (l : List Cell) : keyAV true n (.agg l) = match i64s l with
  | some k => if k.length = n then some k else none
  | none => none := rfl
theorem e_key0 (n : Nat) (k : Int) : keyAV false n (.one (.d (.int .i64 k))) = if n = 1 then some [k] else none := rfl
theorem e_ren3 (σ : Nm → Nm) (kt et : TypeId) (ag : Bool) (n : Nat) (l : List (List Int × C)) : (AObj.map kt et ag n l).ren σ = .map kt et ag n l := rfl
theorem e_zokF : zok .nilFunc = true := rfl
theorem e_zokI (k : IntKind) (n : Int) : zok (.int k n) = true := rfl
theorem e_zokB (b : Bool) : zok (.bool b) = true := rfl
theorem e_zokS (s : ByteArray) : zok (.string s) = true := rfl
theorem e_zokN : zok (.slice none 0 0) = true := rfl
theorem e_lfi0 (k : List Int) : mIdx [] k = 0 := rfl
theorem e_lfi1 (k0 k : List Int) (c : C) (l : List (List Int × C)) : mIdx ((k0,c) :: l) k = if k = k0 then 0 else mIdx l k + 1 := by
 unfold mIdx
 rw [List.findIdx_cons]
 by_cases h : k = k0
 · subst h; simp
 · rw [if_neg h,decide_eq_false fun e => h e.symm]; rfl
theorem e_lfg0 (k : List Int) : mGet [] k = none := rfl
theorem e_lfg1 (k0 k : List Int) (c : C) (l : List (List Int × C)) : mGet ((k0,c) :: l) k = if k = k0 then some c else mGet l k := by
 unfold mGet
 rw [e_lfi1]
 by_cases h : k = k0
 · rw [if_pos h,if_pos h]; rfl
 · rw [if_neg h,if_neg h]; rfl
theorem e_lfp (l : List (List Int × C)) (k : List Int) (g : FuncId) (f : List (List C ⊕ C)) (cs : List C) : mPut l k (.fn g f cs) = if mIdx l k < l.length then mSet l (mIdx l k) (.fn g f cs) else l ++ [(k,.fn g f cs)] := rfl
theorem e_lfk (a b : Int) : ([a] = [b]) = (a = b) := by simp
theorem e_lff0 (z : Value) (c : C) : foundC z (some c) = .d c := rfl
theorem e_lff1 (z : Value) : foundC z none = ofVal z := rfl
theorem EM : type_of% (And.intro (And.intro (And.intro (And.intro (And.intro @e_zokF @e_lfi0) (And.intro @e_lfi1 @e_lfg0)) (And.intro (And.intro @e_lfg1 @e_lfp) (And.intro @e_lfk (And.intro @e_lff0 @e_lff1)))) (And.intro @e_zokI (And.intro @e_zokB (And.intro @e_zokS @e_zokN)))) (And.intro (And.intro (And.intro @e_mlen (And.intro @e_mIdx @e_mGet)) (And.intro (And.intro @e_found @e_getC) (And.intro @e_mGetI @e_mSet))) (And.intro (And.intro (And.intro @e_mPut @e_mTouch) (And.intro @e_touched @e_setTouch)) (And.intro (And.intro (And.intro @e_i64s0 @e_i64s1) (And.intro @e_hint0 @e_hint1)) (And.intro (And.intro (And.intro @e_zeroC @e_mapAt) (And.intro @e_oid3 (And.intro @e_key1 @e_key0))) (And.intro (And.intro @stMakeMap.eq_def @stLookup.eq_def) (And.intro (And.intro @stMapPut.eq_def @stMapEntry.eq_def) @stEntryStore.eq_def))))))) :=
 (And.intro (And.intro (And.intro (And.intro (And.intro @e_zokF @e_lfi0) (And.intro @e_lfi1 @e_lfg0)) (And.intro (And.intro @e_lfg1 @e_lfp) (And.intro @e_lfk (And.intro @e_lff0 @e_lff1)))) (And.intro @e_zokI (And.intro @e_zokB (And.intro @e_zokS @e_zokN)))) (And.intro (And.intro (And.intro @e_mlen (And.intro @e_mIdx @e_mGet)) (And.intro (And.intro @e_found @e_getC) (And.intro @e_mGetI @e_mSet))) (And.intro (And.intro (And.intro @e_mPut @e_mTouch) (And.intro @e_touched @e_setTouch)) (And.intro (And.intro (And.intro @e_i64s0 @e_i64s1) (And.intro @e_hint0 @e_hint1)) (And.intro (And.intro (And.intro @e_zeroC @e_mapAt) (And.intro @e_oid3 (And.intro @e_key1 @e_key0))) (And.intro (And.intro @stMakeMap.eq_def @stLookup.eq_def) (And.intro (And.intro @stMapPut.eq_def @stMapEntry.eq_def) @stEntryStore.eq_def)))))))
def noIdF (id : Nm) (t : Nat) (F : LF) : Bool := F.all fun p => Nat.beq p.1 t || p.2.ids.all fun i => !decide (i = id)
def noIdM (id : Nm) (M : LM) : Bool := M.all fun u => match u.2 with
 | some o => o.ids.all fun i => !decide (i = id)
 | none => true
theorem noIdF_get {id : Nm} {t : Nat} : ∀ {F : LF},noIdF id t F = true → ∀ k,k ≠ t → id ∉ (fget F k).ids
 | [],_,k,_ => by simp [fget,AV.ids,Cell.ids]
 | p :: F,h,k,hk => by
  simp only [noIdF,List.all_cons,Bool.and_eq_true] at h
  simp only [fget]
  split
  ·
   rename_i e
   rw [← e] at h
   intro hid
   rcases Bool.or_eq_true _ _ ▸ h.1 with h1 | h1
   · exact hk (Nat.eq_of_beq_eq_true h1)
   ·
    have := List.all_eq_true.1 h1 id hid
    simp at this
  · exact noIdF_get (F := F) h.2 k hk
theorem noIdM_get {id : Nm} {M : LM} (h : noIdM id M = true) {q : Nm} {o : AObj} (hq : mget M q = some o) : id ∉ o.ids := by
 intro hid
 have := List.all_eq_true.1 h _ (mget_mem hq)
 simp only at this
 have := List.all_eq_true.1 this id hid
 simp at this
section
variable {P : Program} {w0 : Bas} {N nx : Nat} {F : LF} {M : LM} {a : Act} {w : World}
theorem SL.tail (h : SL w0 N nx F M a w) (t : Nat) (id : Nm) {ty sz off n : Nat} {l : List (List Cell)} (ht : fget F t = .one (.sub id sz off n)) (hm : mget M id = some (.row ty sz l)) (hn : off + n = l.length) (h0 : Nat.blt 0 id.1 = true) (hF : noIdF id t F = true) (hM : noIdM id M = true) :
  SL w0 N nx ((t,.one (.own id n)) :: F) ((id,some (.row ty sz (l.drop off))) :: M) a w := by
 obtain ⟨⟨ρ,φ,hst⟩,hnm,hp⟩ := h
 have h0' : id.1 ≠ 0 := by
  rw [Nat.blt_eq] at h0
  omega
 have hFk := noIdF_get hF
 have hMk : ∀ {q : Nm} {o : AObj},mget M q = some o → id ∉ o.ids := fun hq => noIdM_get hM hq
 have hdom : ∀ q o,mset (mget M) id (some (.row ty sz (l.drop off))) q = some o → ∃ o',mget M q = some o' := fun q o hq => by
  simp only [mset] at hq
  split at hq
  ·
   rename_i e
   rw [e]
   exact ⟨_,hm⟩
  · exact ⟨o,hq⟩
 have hS : ∀ b,Sof w0 φ (mget M) w b → Sof w0 φ (mset (mget M) id (some (.row ty sz (l.drop off)))) w b := fun b hb => ⟨hb.1,fun q o hq => by
  obtain ⟨o',hq'⟩ := hdom q o hq
  exact hb.2.1 q o' hq',hb.2.2⟩
 have hrow := hst.objs id _ hm
 have main : ∃ pl : Option (Nat × Nat × Nat),(∀ v,a.tmps[t]? = some v → CV (pset ρ id pl) (Sof w0 φ (mset (mget M) id (some (.row ty sz (l.drop off)))) w) w (.own id n) v) ∧ OR (pset ρ id pl) φ (Sof w0 φ (mset (mget M) id (some (.row ty sz (l.drop off)))) w) w id (.row ty sz (l.drop off)) := by
  have hlen : (l.drop off).length = n := by rw [List.length_drop]; omega
  have hρ : ∀ pl,∀ i,i ≠ id → pset ρ id pl i = ρ i := fun pl i hi => if_neg hi
  have hreg : ∀ v,a.tmps[t]? = some v → CV ρ (Sof w0 φ (mget M) w) w (.sub id sz off n) v := fun v hv => by
   have := hst.regs t v hv
   rw [ht] at this
   exact this
  rcases hrow.2 with ⟨hr,hl⟩ | ⟨b,base,cap,hr,hrr⟩
  ·
   refine ⟨none,fun v hv => ?_,by rw [hlen]; have := hrow.1; omega,.inl ⟨if_pos rfl,by rw [hl]; simp⟩⟩
   rcases hreg v hv with ⟨b,base,cap,A,hr',_⟩ | ⟨_,_,hz,A,hv⟩
   · rw [hr] at hr'; cases hr'
   · exact .inr ⟨if_pos rfl,hz,A,hv⟩
  ·
   obtain ⟨cur,G,g1,g2,g3,g4,g5,g6,g7⟩ := hrr.at_ off (n := n) (by omega)
   by_cases hcap : off < cap
   ·
    refine ⟨some (b,base + off * sz,cap - off),fun v hv => ?_,by rw [hlen]; have := hrow.1; omega,.inr ⟨b,base + off * sz,cap - off,if_pos rfl,cur,G,g1,g2,by rw [hlen]; omega,?_,fun i r hi => ?_,g6,g7⟩⟩
    ·
     rcases hreg v hv with ⟨b',base',cap',A,hr',_,hv,hA⟩ | ⟨hr',_⟩
     ·
      rw [hr] at hr'
      injection hr' with hr'
      injection hr' with e1 e2
      injection e2 with e2 e3
      subst e1 e2 e3
      exact .inl ⟨b,base + off * sz,cap - off,if_pos rfl,by rw [hv,hA hcap]⟩
     · rw [hr] at hr'; cases hr'
    ·
     rw [Nat.add_assoc,← Nat.add_mul,show off + (cap - off) = cap by omega]
     exact g4
    ·
     have hi' : ((l.drop off).take n)[i]? = some r := by
      rw [List.take_of_length_le (by omega)]
      exact hi
     obtain ⟨k1,k2⟩ := g5 i r hi'
     refine ⟨k1,fun j d hd => ?_⟩
     obtain ⟨v,hv,k3⟩ := k2 j d hd
     refine ⟨v,hv,k3.next (fun _ _ => rfl) hS (fun i2 hi2 => hρ _ i2 fun e => ?_) (fun _ _ => rfl) fun _ hb => hb⟩
     subst e
     exact hMk hm (List.mem_flatMap.2 ⟨r,List.mem_of_mem_drop (List.mem_of_getElem? hi),List.mem_flatMap.2 ⟨d,List.mem_of_getElem? hd,hi2⟩⟩)
   ·
    have hz : n = 0 := by omega
    refine ⟨none,fun v hv => ?_,by rw [hlen]; omega,.inl ⟨if_pos rfl,List.eq_nil_of_length_eq_zero (by omega)⟩⟩
    rcases hreg v hv with ⟨b',base',cap',A,hr',_,hv,hA⟩ | ⟨hr',_⟩
    ·
     rw [hr] at hr'
     injection hr' with hr'
     injection hr' with e1 e2
     injection e2 with e2 e3
     subst e1 e2 e3
     refine .inr ⟨if_pos rfl,hz,A,?_⟩
     rw [hv,hz,show cap - off = 0 by omega]
    · rw [hr] at hr'; cases hr'
 obtain ⟨pl,hcv,hor⟩ := main
 have hρ : ∀ i,i ≠ id → pset ρ id pl i = ρ i := fun i hi => if_neg hi
 refine ⟨⟨pset ρ id pl,φ,hst.mv,hst.dfr,hst.size,fun k v hk => ?_,fun q o hq => ?_,fun q o b hq hf => ?_,fun q o b hq hf => ?_,fun q q' o o' b hq hq' hf hf' => ?_,fun q o hz hq => ?_⟩,⟨fun k q hq => ?_,fun q o hq => ?_⟩,hp⟩
 ·
  simp only [fget]
  by_cases e : k = t
  ·
   subst e
   rw [if_pos rfl]
   exact hcv v hk
  ·
   rw [if_neg e]
   exact (hst.regs k v hk).next (fun _ _ => rfl) hS fun i hi => hρ i fun e2 => hFk k e (by rw [← e2]; exact hi)
 ·
  simp only [mget,mput] at hq
  by_cases e : q = id
  ·
   subst e
   simp only [mset,if_true] at hq
   injection hq with hq
   subst hq
   exact hor
  ·
   simp only [mset,if_neg e] at hq
   exact (hst.objs q o hq).next (fun _ _ => rfl) hS (fun i hi => hρ i fun e2 => hMk hq (by rw [← e2]; exact hi)) (hρ q e) (fun _ _ => rfl) fun _ hb => hb
 ·
  obtain ⟨o',hq'⟩ := hdom q o hq
  exact hst.lt q o' b hq' hf
 ·
  obtain ⟨o',hq'⟩ := hdom q o hq
  exact hst.base q o' b hq' hf
 ·
  obtain ⟨o1,h1⟩ := hdom q o hq
  obtain ⟨o2,h2⟩ := hdom q' o' hq'
  exact hst.disj q q' o1 o2 b h1 h2 hf hf'
 ·
  obtain ⟨o',hq'⟩ := hdom q o hq
  rw [hρ q fun e => h0' (by rw [← e]; exact hz)]
  exact hst.stab q o' hz hq'
 ·
  simp only [fget] at hq
  by_cases e : k = t
  ·
   subst e
   rw [if_pos rfl] at hq
   simp only [AV.ids,Cell.ids,List.mem_singleton] at hq
   rw [hq]
   exact (hnm.2 id _ hm).1
  ·
   rw [if_neg e] at hq
   exact hnm.1 k q hq
 ·
  simp only [mget,mput,mset] at hq
  split at hq
  ·
   rename_i e
   injection hq with hq
   subst hq
   rw [e]
   refine ⟨(hnm.2 id _ hm).1,fun p hp => (hnm.2 id _ hm).2 p ?_⟩
   obtain ⟨r,hr,hp⟩ := List.mem_flatMap.1 hp
   exact List.mem_flatMap.2 ⟨r,List.mem_of_mem_drop hr,hp⟩
  · exact hnm.2 q o hq
theorem SL.head (h : SL w0 N nx F M a w) (id : Nm) (k : Nat) {ty sz : Nat} {l : List (List Cell)} (hm : mget M id = some (.row ty sz l)) :
  SL w0 N nx F ((id,some (.row ty sz (l.take k))) :: M) a w := by
 obtain ⟨⟨ρ,φ,hst⟩,hnm,hp⟩ := h
 have hdom : ∀ q o,mset (mget M) id (some (.row ty sz (l.take k))) q = some o → ∃ o',mget M q = some o' := fun q o hq => by
  simp only [mset] at hq
  split at hq
  ·
   rename_i e
   rw [e]
   exact ⟨_,hm⟩
  · exact ⟨o,hq⟩
 have hS : ∀ b,Sof w0 φ (mget M) w b → Sof w0 φ (mset (mget M) id (some (.row ty sz (l.take k)))) w b := fun b hb => ⟨hb.1,fun q o hq => by
  obtain ⟨o',hq'⟩ := hdom q o hq
  exact hb.2.1 q o' hq',hb.2.2⟩
 have hrow := hst.objs id _ hm
 have hor : OR ρ φ (Sof w0 φ (mset (mget M) id (some (.row ty sz (l.take k)))) w) w id (.row ty sz (l.take k)) := by
  have hlen : (l.take k).length ≤ l.length := by rw [List.length_take]; omega
  refine ⟨by have := hrow.1; omega,?_⟩
  rcases hrow.2 with ⟨hr,hl⟩ | ⟨b,base,cap,hr,cur,G,g1,g2,g3,g4,g5,g6,g7⟩
  · exact .inl ⟨hr,by rw [hl]; simp⟩
  ·
   refine .inr ⟨b,base,cap,hr,cur,G,g1,g2,by omega,g4,fun i r hi => ?_,g6,g7⟩
   have hi' : l[i]? = some r := by
    rw [List.getElem?_take] at hi
    split at hi
    · exact hi
    · cases hi
   obtain ⟨k1,k2⟩ := g5 i r hi'
   refine ⟨k1,fun j d hd => ?_⟩
   obtain ⟨v,hv,k3⟩ := k2 j d hd
   exact ⟨v,hv,k3.next (fun _ _ => rfl) hS (fun _ _ => rfl) (fun _ _ => rfl) fun _ hb => hb⟩
 refine ⟨⟨ρ,φ,hst.mv,hst.dfr,hst.size,fun j v hk => (hst.regs j v hk).next (fun _ _ => rfl) hS fun _ _ => rfl,fun q o hq => ?_,fun q o b hq hf => ?_,fun q o b hq hf => ?_,fun q q' o o' b hq hq' hf hf' => ?_,fun q o hz hq => ?_⟩,⟨fun j q hq => hnm.1 j q hq,fun q o hq => ?_⟩,hp⟩
 ·
  simp only [mget,mput] at hq
  by_cases e : q = id
  ·
   subst e
   simp only [mset,if_true] at hq
   injection hq with hq
   subst hq
   exact hor
  ·
   simp only [mset,if_neg e] at hq
   exact (hst.objs q o hq).next (fun _ _ => rfl) hS (fun _ _ => rfl) rfl (fun _ _ => rfl) fun _ hb => hb
 ·
  obtain ⟨o',hq'⟩ := hdom q o hq
  exact hst.lt q o' b hq' hf
 ·
  obtain ⟨o',hq'⟩ := hdom q o hq
  exact hst.base q o' b hq' hf
 ·
  obtain ⟨o1,h1⟩ := hdom q o hq
  obtain ⟨o2,h2⟩ := hdom q' o' hq'
  exact hst.disj q q' o1 o2 b h1 h2 hf hf'
 ·
  obtain ⟨o',hq'⟩ := hdom q o hq
  exact hst.stab q o' hz hq'
 ·
  simp only [mget,mput,mset] at hq
  split at hq
  ·
   rename_i e
   injection hq with hq
   subst hq
   rw [e]
   refine ⟨(hnm.2 id _ hm).1,fun p hp => (hnm.2 id _ hm).2 p ?_⟩
   obtain ⟨r,hr,hp⟩ := List.mem_flatMap.1 hp
   exact List.mem_flatMap.2 ⟨r,List.mem_of_mem_take hr,hp⟩
  · exact hnm.2 q o hq
end
section
variable {α β : Type} {p : Prop} [Decidable p] {x y : Option α} {r : α}
theorem i2 (h : (if p then x else y) = some r) : (p ∧ x = some r) ∨ (¬ p ∧ y = some r) := by
 by_cases hp : p
 · exact .inl ⟨hp,by rwa [if_pos hp] at h⟩
 · exact .inr ⟨hp,by rwa [if_neg hp] at h⟩
theorem i2e (h : (if p then x else y) = some r) : (p = True ∧ x = some r) ∨ (¬ p ∧ y = some r) := (i2 h).imp_left fun h => ⟨eq_true h.1,h.2⟩
theorem i2b {b : Bool} (h : (if b = true then x else y) = some r) : (b = true ∧ x = some r) ∨ (b = false ∧ y = some r) := (i2 h).imp_right fun h => ⟨eq_false_of_ne_true h.1,h.2⟩
theorem iT (h : (if p then x else none) = some r) : p ∧ x = some r := (i2 h).elim id fun h => nomatch h.2
theorem iTe (h : (if p then x else none) = some r) : p = True ∧ x = some r := ⟨eq_true (iT h).1,(iT h).2⟩
theorem iF (h : (if p then none else y) = some r) : ¬ p ∧ y = some r := (i2 h).elim (fun h => nomatch h.2) id
theorem iFb {b : Bool} (h : (if b = true then none else y) = some r) : b = false ∧ y = some r := ⟨eq_false_of_ne_true (iF h).1,(iF h).2⟩
theorem aB {l : List β} {i : Int} {f : β → Option α} (h : (at? l i).bind f = some r) : ∃ x,0 ≤ i ∧ l[i.toNat]? = some x ∧ i < (l.length : Int) ∧ i.toNat < l.length ∧ f x = some r := by
 obtain ⟨x,h1,h2⟩ := Option.bind_eq_some_iff.1 h
 obtain ⟨h3,h4,h5⟩ := at_some h1
 exact ⟨x,h3,h4,h5,(List.getElem?_eq_some_iff.1 h4).1,h2⟩
theorem aN {l : List β} {i : Int} (k : Nat) {f : β → Option α} (h : (at? l i).bind f = some r) (e : i = (k : Int) := by rfl) : ∃ x,0 ≤ i ∧ l[k]? = some x ∧ i < (l.length : Int) ∧ k < l.length ∧ f x = some r := by
 subst e
 obtain ⟨x,h1,h2,h3,h4,h5⟩ := aB h
 exact ⟨x,h1,h2,h3,h4,h5⟩
theorem oB {o : Option β} {f : β → Option α} (h : o.bind f = some r) : ∃ x,o = some x ∧ f x = some r := Option.bind_eq_some_iff.1 h
theorem vB {e : β} {f : β → Option α} (h : (some e).bind f = some r) : ∃ x,e = x ∧ f x = some r := ⟨e,rfl,h⟩
end
theorem e_blt (a b : Nat) : Nat.blt a b = decide (a < b) := by
 rw [Bool.eq_iff_iff,Nat.blt_eq,decide_eq_true_iff]
theorem e_ble (a b : Nat) : Nat.ble a b = decide (a ≤ b) := by
 rw [Bool.eq_iff_iff,Nat.ble_eq,decide_eq_true_iff]
section
variable {P : Program} {w0 : Bas} {N nx : Nat} {F F' : LF} {M M' : LM} {a : Act} {w : World} {l l0 : List Oper} {Q : Exit → Act → World → Prop}
noncomputable def arun0 (P : Program) (Z : List (Fact P)) (N : Nat) : List Oper → Nat → LF → LM → Option (LF × LM)
 | [],_,F,M => some (F,M)
 | o :: l,nx,F,M =>
  match astep P Z (aeval N (fget F)) (mget M) nx o with
  | some (v,U) => if okV nx v U = true then arun0 P Z N l (nx + 1) (fadd F o.dst v) (madd M U) else none
  | none => none
theorem arun0_eq (Z : List (Fact P)) : ∀ (l : List Oper) (nx : Nat) (F : LF) (M : LM),arun P Z N (l.map fun _ => none) l nx F M = arun0 P Z N l nx F M
 | [],_,_,_ => rfl
 | o :: l,nx,F,M => by
  simp only [List.map_cons,arun,arun0,arun0_eq Z l]
  rfl
noncomputable def drun0 (P : Program) (Z : List (Fact P)) (N : Nat) : List Oper → Nat → LF → LM → List T3 → Option (LF × LM × List T3)
 | [],_,F,M,T => some (F,M,T)
 | o :: l,nx,F,M,T =>
  match astep P Z (aeval N (fget F)) (mget M) nx o with
  | some (v,U) => if okV nx v U = true then drun0 P Z N l (nx + 1) (fadd F o.dst v) (madd M U) (((opN (mget M) (aeval N (fget F)) o).map (·.1),U.map ucl,v.ids.map (·.1) ++ uIds U) :: T) else none
  | none => none
theorem drun0_eq (Z : List (Fact P)) : ∀ (l : List Oper) (nx : Nat) (F : LF) (M : LM) (T : List T3),drun P Z N (l.map fun _ => none) l nx F M T = drun0 P Z N l nx F M T
 | [],_,_,_,_ => rfl
 | o :: l,nx,F,M,T => by
  simp only [List.map_cons,drun,drun0,drun0_eq Z l]
  rfl
theorem n_plain {id : Nat} (Z : List (Fact P)) (ks : List Nat) (ms : List Nm) (h : SL w0 N nx F M a w) (hg : l.map (gof l) = l.map fun _ => none) (e : okeep ks ms (arun0 P Z N l nx F M) = some (F',M'))
  (hQ : ∀ a w,SL w0 N (nx + l.length) F' M' a w → Q .normal a w) : (Code.region id l.toArray false).wp P Q a w :=
 r_plain Z _ ks ms h hg (by rw [arun0_eq]; exact e) hQ
theorem n_drawn {id : Nat} {T : List T3} (hm : P.follows .mixedOrders = true) (Z : List (Fact P)) (ks : List Nat) (ms : List Nm) (h : SL w0 N nx F M a w) (hg : l.map (gof l) = l.map fun _ => none) (e : dkeep ks ms (drun0 P Z N l nx F M []) = some (F',M',T)) (hc : chk l nx T.reverse = true)
  (hQ : ∀ a w,SL w0 N (nx + l.length) F' M' a w → Q .normal a w) : (Code.region id l.toArray true).wp P Q a w :=
 r_drawn hm Z _ ks ms h hg (by rw [drun0_eq]; exact e) hc hQ
theorem ns_plain {id : Nat} {y : Code} (nx' : Nat) (Z : List (Fact P)) (ks : List Nat) (ms : List Nm) (h : SL w0 N nx F M a w) (hg : l.map (gof l) = l.map fun _ => none) (hx : nx + l.length = nx') (e : okeep ks ms (arun0 P Z N l nx F M) = some (F',M'))
  (hQ : ∀ a w,SL w0 N nx' F' M' a w → y.wp P Q a w) : (Code.seq (.region id l.toArray false) y).wp P Q a w :=
 rs_plain nx' Z _ ks ms h hg hx (by rw [arun0_eq]; exact e) hQ
theorem ns_drawn {id : Nat} {y : Code} {T : List T3} (nx' : Nat) (hm : P.follows .mixedOrders = true) (Z : List (Fact P)) (ks : List Nat) (ms : List Nm) (h : SL w0 N nx F M a w) (hg : l.map (gof l) = l.map fun _ => none) (hx : nx + l.length = nx') (e : dkeep ks ms (drun0 P Z N l nx F M []) = some (F',M',T)) (hc : chk l nx T.reverse = true)
  (hQ : ∀ a w,SL w0 N nx' F' M' a w → y.wp P Q a w) : (Code.seq (.region id l.toArray true) y).wp P Q a w :=
 rs_drawn nx' hm Z _ ks ms h hg hx (by rw [drun0_eq]; exact e) hc hQ
theorem n_condT {c : Operand} {x y : Code} (h : SL w0 N nx F M a w) (e : aeval N (fget F) c = .one (.d (.bool true))) (ht : x.wp P Q a w) : (Code.cond c x y).wp P Q a w :=
 r_condT h true e rfl ht
theorem n_condF {c : Operand} {x y : Code} (h : SL w0 N nx F M a w) (e : aeval N (fget F) c = .one (.d (.bool false))) (hf : y.wp P Q a w) : (Code.cond c x y).wp P Q a w :=
 r_condF h false e rfl hf
theorem SL.toS (h : SL w0 N nx F M a w) {nx' : Nat} (e : fkeep F (F'.map (·.1)) = F' ∧ mkeep M (M'.map (·.1)) = M' ∧ okN nx' F' M' = true) : SL w0 N nx' F' M' a w := h.same _ _ _ _ _ e
end
def arB (l : List Bool) : List Cell := l.map fun x => .d (.bool x)
theorem e_aBl (l : List Bool) : (arB l).length = l.length := by simp [arB]
theorem e_aBd (l : List Bool) (k : Nat) : List.take 1 (List.drop k (arB l)) = match l[k]? with
  | some x => [.d (.bool x)]
  | none => [] := by
 unfold arB
 rw [← List.map_drop,← List.map_take]
 cases h : l[k]? with
 | none =>
  have := List.getElem?_eq_none_iff.1 h
  rw [List.drop_of_length_le this]
  rfl
 | some x =>
  obtain ⟨h1,h2⟩ := List.getElem?_eq_some_iff.1 h
  rw [List.drop_eq_getElem_cons h1,h2]
  rfl
theorem e_aBs {l : List Bool} {k : Nat} (h : k < l.length) (x : Bool) : List.take k (arB l) ++ (.d (.bool x) :: List.drop (k + 1) (arB l)) = arB (l.set k x) := by
 unfold arB
 rw [List.set_eq_take_append_cons_drop,if_pos h,List.map_append,List.map_cons,List.map_take,List.map_drop]
theorem e_aBy {l : List Bool} {k : Nat} (h : k < l.length) (x : Bool) : lay (arB l) k [.d (.bool x)] = arB (l.set k x) := by
 rw [← e_aBs h x]
 simp [lay]
theorem e_aBi (l : List Bool) : (arB l).flatMap Cell.ids = [] := by
 refine List.flatMap_eq_nil_iff.2 fun c hc => ?_
 obtain ⟨x,_,rfl⟩ := List.mem_map.1 hc
 rfl
def arI (l : List Int) : List Cell := l.map fun x => .d (.int .i64 x)
theorem e_aIl (l : List Int) : (arI l).length = l.length := by simp [arI]
theorem e_aId (l : List Int) (k : Nat) : List.take 1 (List.drop k (arI l)) = match l[k]? with
  | some x => [.d (.int .i64 x)]
  | none => [] := by
 unfold arI
 rw [← List.map_drop,← List.map_take]
 cases h : l[k]? with
 | none =>
  have := List.getElem?_eq_none_iff.1 h
  rw [List.drop_of_length_le this]
  rfl
 | some x =>
  obtain ⟨h1,h2⟩ := List.getElem?_eq_some_iff.1 h
  rw [List.drop_eq_getElem_cons h1,h2]
  rfl
theorem e_aIs {l : List Int} {k : Nat} (h : k < l.length) (x : Int) : List.take k (arI l) ++ (.d (.int .i64 x) :: List.drop (k + 1) (arI l)) = arI (l.set k x) := by
 unfold arI
 rw [List.set_eq_take_append_cons_drop,if_pos h,List.map_append,List.map_cons,List.map_take,List.map_drop]
theorem e_aIy {l : List Int} {k : Nat} (h : k < l.length) (x : Int) : lay (arI l) k [.d (.int .i64 x)] = arI (l.set k x) := by
 rw [← e_aIs h x]
 simp [lay]
theorem e_aIi (l : List Int) : (arI l).flatMap Cell.ids = [] := by
 refine List.flatMap_eq_nil_iff.2 fun c hc => ?_
 obtain ⟨x,_,rfl⟩ := List.mem_map.1 hc
 rfl
end Go.Proofs.Ytabbejabdkkaiaa
