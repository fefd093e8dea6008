/- Functions as typed ones,and that the program's functions answer as these do. No condition. -/
import Derived.Test.YtabbejabdkkaiaaGb4
import Derived.Test.YtabbejabdkkaiaaGdTableEach
set_option linter.unusedSimpArgs false
set_option linter.unusedVariables false
set_option maxRecDepth 20000
set_option maxHeartbeats 4000000
namespace Go.Proofs.Ytabbejabdkkaiaa
open Go.RowKit

/-- Slots that an act did not write. -/
def KeepT (D : List Nat) (a a' : Act) : Prop := ∀ t,t ∉ D → a'.tmps[t]? = a.tmps[t]?
theorem KeepT.put {D : List Nat} {a a' : Act} (h : KeepT D a a') {dst : Option Tmp} (hd : ∀ d,dst = some d → d ∈ D) (v : Value) : KeepT D a (a'.put dst v) := by
 intro t ht
 cases dst with
 | none => exact h t ht
 | some d =>
  show (a'.tmps.setIfInBounds d v)[t]? = _
  rw [Array.getElem?_setIfInBounds_ne (fun (e : d = t) => ht (e ▸ hd d rfl))]
  exact h t ht
section
variable {P : Program} {w0 : Bas} {N nx : Nat} {F F1 F2 F' : LF} {M M1 : LM} {a a0 : Act} {w : World} {l : List Oper} {Q : Exit → Act → World → Prop} {D : List Nat}
theorem letsOut_keep (h : LetsOut Q) : LetsOut (fun e a' w' => Q e a' w' ∧ (e = .normal → KeepT D a0 a')) := let ⟨x,y,h⟩ := h; ⟨x,y,h,fun e => by cases e⟩
theorem upon_keep {o : Oper} (hd : ∀ d,o.dst = some d → d ∈ D) (h : KeepT D a0 a) {next : Act → World → Prop} {r : Result Next} (hr : o.upon P a next Q r) :
  o.upon P a (fun a' w' => next a' w' ∧ KeepT D a0 a') (fun e a' w' => Q e a' w' ∧ (e = .normal → KeepT D a0 a')) r := by
 cases r with
 | ok n w' =>
  cases n with
  | value v => exact ⟨hr,h.put hd v⟩
  | skip => exact ⟨hr,h.put hd _⟩
  | defer d => exact ⟨hr,KeepT.put (a' := { a with defers := d :: a.defers }) h hd _⟩
  | enter f args =>
   refine Calls.mono hr ?_
   intro e w'' q
   cases e with
   | returned v => exact ⟨q,h.put hd v⟩
   | panicked c => exact ⟨q,fun e => by cases e⟩
   | outgrown => exact letsOut_keep q
  | row r args =>
   refine Rows.mono hr ?_
   exact fun v w'' q => ⟨q,h.put hd v⟩
  | _ => exact hr
 | halt x w' =>
  cases x with
  | panic v => exact ⟨hr,fun e => by cases e⟩
  | _ => exact hr
theorem wpAny_keep {md : Region.Mode} {ops : Array Oper} (hd : ∀ (i : Nat) (o : Oper) (d : Nat),ops[i]? = some o → o.dst = some d → d ∈ D) : ∀ (fuel : Nat) (listed : Array Bool) (a : Act) (w : World),KeepT D a0 a → wpAny P md ops Q fuel listed a w → wpAny P md ops (fun e a' w' => Q e a' w' ∧ (e = .normal → KeepT D a0 a')) fuel listed a w
 | 0,_,_,_,hk,h => ⟨h.1,h.2,fun _ => hk⟩
 | fuel + 1,listed,a,w,hk,h => by
  refine ⟨fun hr => ⟨h.1 hr,fun _ => hk⟩,fun i hi => ?_⟩
  have h2 := h.2 i hi
  unfold wpOp at h2 ⊢
  cases e : ops[i]? with
  | none =>
   rw [e] at h2
   exact wpAny_keep hd fuel _ a w hk h2
  | some o =>
   rw [e] at h2
   simp only at h2 ⊢
   split
   ·
    rename_i hw
    rw [if_pos hw] at h2
    rcases h2 with h2 | h2
    · exact .inl (Oper.wp_mono (fun a' w' q => wpAny_keep hd fuel _ a' w' q.2 q.1) (upon_keep (fun d hd' => hd i o d e hd') hk h2))
    · exact .inr ⟨h2.1,letsOut_keep h2.2⟩
   ·
    rename_i hw
    rw [if_neg hw] at h2
    exact wpAny_keep hd fuel _ _ w (hk.put (fun d hd' => hd i o d e hd') _) h2
/-- All that there is,as data,for the time of a region. -/
def lendB (w : World) : Bas := ⟨w,fun b => b < w.heap.size,fun _ => False,fun _ => none⟩
theorem SL.lent (h : SL w0 N nx F M a w) (hM : ∀ id,mget M id = none) : SL (lendB w) N nx F M a w := by
 obtain ⟨⟨ρ,φ,hst⟩,hn,hp⟩ := h
 refine ⟨⟨ρ,φ,Mv.refl _ w,hst.dfr,hst.size,fun t v hv => (hst.regs t v hv).next (fun _ _ => rfl) (fun b hb => ⟨hb.1,hb.2.1,.inl hb.1⟩) fun _ _ => rfl,fun id o hi => ?_,fun id o b hi => ?_,fun id o b hi => ?_,fun id id' o o' b hi => ?_,fun id o _ hi => ?_⟩,hn,hp⟩ <;> (rw [hM] at hi; cases hi)
/-- THE RULE: a region that reads own rows as data,of which nothing but what it answers (bools) lives behind it. -/
theorem r_lend {id : Nat} {T : List T3} (hm : P.follows .mixedOrders = true) (Z : List (Fact P)) (gs : List Gd) (ks : List Nat) (h : SL w0 N nx F M a w) (h1 : SL w0 N nx F1 M1 a w) (hM : ∀ id,mget M1 id = none) (hg : l.map (gof l) = gs) (e : dkeep ks [] (drun P Z N gs l nx F1 M1 []) = some (F',[],T)) (hc : chk l nx T.reverse = true)
  (hF : ∀ t,fget F' t = .one .any ∨ ∃ b,fget F' t = .one (.d (.bool b))) (hF2 : ∀ t,fget F2 t = fget F' t ∨ (t ∉ l.filterMap (·.dst) ∧ fget F2 t = fget F t) ∨ fget F2 t = .one .any)
  (hQ : ∀ a w,SL w0 N (nx + l.length) F2 M a w → Q .normal a w) : (Code.region id l.toArray true).wp P Q a w := by
 have hL := h1.lent hM
 subst hg
 unfold dkeep at e
 split at e
 ·
  rename_i F3 M3 T1 e1
  injection e with e
  injection e with e2 e
  injection e with e3 e4
  subst e4
  obtain ⟨rs,r1,r2,r3⟩ := drun_runs e1
  have hb := r1.bd hL.nm
  rw [r2] at hb
  simp only [List.reverse_nil,List.nil_append] at r3
  rw [r3] at hc
  have hf : (fun k => (Array.replicate l.toArray.size false).getD k false) = fun _ => false := by
   funext k
   simp [Array.getD_eq_getD_getElem?,Array.getElem?_replicate]
   split <;> rfl
  have hall := any_ok hL.pos r1 hL.nm hc (Q := fun e a' w' => e = .normal ∧ St (lendB w) N (fget F3) (mget M3) a' w') (fun a' w' q => ⟨rfl,by rw [r2] at q; exact q⟩) _ (Array.replicate l.toArray.size false) a { w with drawn := w.drawn + 1 } (by simp) (by simp [unl,List.countP_replicate]; rfl)
   (by rw [hf]; intro i o _ hi; cases hi) (by rw [hf,app_false]; exact hL.st.drew)
  have hk := wpAny_keep (a0 := a) (D := l.filterMap (·.dst)) (fun i o d hi hd => List.mem_filterMap.2 ⟨o,List.mem_of_getElem? (by simpa using hi),hd⟩) _ _ _ _ (fun _ _ => rfl) hall
  refine wp_mono (wp_region_any hm hk) ?_
  rintro e a' w' ⟨⟨rfl,hst'⟩,hkeep⟩
  have hkeep := hkeep rfl
  obtain ⟨ρ',φ',g⟩ := hst'
  obtain ⟨⟨ρ,φ,s⟩,hn,hp⟩ := h
  have hmv : Mv (fun _ => False) w w' := g.mv
  have hcell : ∀ p : Addr,Sof w0 φ (mget M) w p.block → w'.cell? p = w.cell? p := fun p hp => World.cell?_of_block (hmv.block p.block hp.1 fun h => h)
  have hS : ∀ b,Sof w0 φ (mget M) w b → Sof w0 φ (mget M) w' b := fun b hb => ⟨Nat.lt_of_lt_of_le hb.1 hmv.size,hb.2.1,hb.2.2⟩
  have hF3 : ∀ t,t ∈ ks → fget F' t = fget F3 t := fun t ht => by
   rw [← e2,fget_keep,if_pos ht]
  have hF4 : ∀ t,t ∉ ks → fget F' t = .one .any := fun t ht => by
   rw [← e2,fget_keep,if_neg ht]
  refine hQ a' w' ⟨⟨ρ,φ,s.mv.trans hmv (fun _ h => h) (fun _ _ h => h.elim),g.dfr,g.size,fun t v hv => ?_,fun id o hi => ?_,fun id o b hi hb => ?_,s.base,s.disj,s.stab⟩,⟨fun t q hq => ?_,fun id o hi => ?_⟩,by omega⟩
  ·
   rcases hF2 t with q | ⟨q1,q2⟩ | q
   ·
    rw [q]
    rcases hF t with z | ⟨b,z⟩
    · rw [z]; trivial
    ·
     have hv' := g.regs t v hv
     by_cases ht : t ∈ ks
     ·
      rw [← hF3 t ht,z] at hv'
      rw [z]
      cases hv' with
      | bool => exact View.bool _
     · rw [hF4 t ht] at z; cases z
   ·
    rw [q2]
    rw [hkeep t q1] at hv
    exact (s.regs t v hv).next hcell hS fun _ _ => rfl
   · rw [q]; trivial
  · exact (s.objs id o hi).next hcell hS (fun _ _ => rfl) rfl (fun b hb => hmv.block b (s.lt id o b hi hb) fun h => h) fun _ hb => hb
  · exact Nat.lt_of_lt_of_le (s.lt id o b hi hb) hmv.size
  ·
   rcases hF2 t with z | ⟨_,z⟩ | z
   ·
    rw [show (fget F2,mget M).1 t = fget F2 t from rfl,z] at hq
    rcases hF t with y | ⟨b,y⟩ <;> rw [y] at hq <;> cases hq
   ·
    have := hn.1 t q (by rw [show (fget F,mget M).1 t = fget F t from rfl,← z]; exact hq)
    show q.1 < nx + l.length
    have : q.1 < nx := this
    omega
   · rw [show (fget F2,mget M).1 t = fget F2 t from rfl,z] at hq; cases hq
  ·
   have := hn.2 id o hi
   exact ⟨by have : id.1 < nx := this.1; show id.1 < nx + l.length; omega,fun q hq => by have : q.1 < nx := this.2 q hq; show q.1 < nx + l.length; omega⟩
 · cases e
theorem r_lend0 {id : Nat} {T : List T3} (hm : P.follows .mixedOrders = true) (Z : List (Fact P)) (ks : List Nat) (h : SL w0 N nx F M a w) (h1 : SL w0 N nx F1 M1 a w) (hM : ∀ id,mget M1 id = none) (hg : l.map (gof l) = l.map fun _ => none) (e : dkeep ks [] (drun0 P Z N l nx F1 M1 []) = some (F',[],T)) (hc : chk l nx T.reverse = true)
  (hF : ∀ t,fget F' t = .one .any ∨ ∃ b,fget F' t = .one (.d (.bool b))) (hF2 : ∀ t,fget F2 t = fget F' t ∨ (t ∉ l.filterMap (·.dst) ∧ fget F2 t = fget F t) ∨ fget F2 t = .one .any)
  (hQ : ∀ a w,SL w0 N (nx + l.length) F2 M a w → Q .normal a w) : (Code.region id l.toArray true).wp P Q a w :=
 r_lend hm Z _ ks h h1 hM hg (by rw [drun0_eq]; exact e) hc hF hF2 hQ
end
theorem L_law04_TableEach_ok {a0 : (List TNode)} {a1 : TGraph} {a2 : A3I} {r : Bool} (hD : L_law04_TableEach a0 a1 a2 = some r) :
  CallH Try.prog 3 [.one (.d (.sl (List.map eTNode a0))),.agg (cTGraph a1),.agg (cA3I a2)] []
   (.one (.d (.bool r))) [] := by
 unfold L_law04_TableEach at hD
 refine rc Try.func3 rfl Try.ntmps3 fun S Φ P0 wb ac h => ?_
 refine qs 4 [] [0,4,5] [(1,0),(2,0)] h fun ac wd h => ?_
 obtain ⟨aa,ab,hD⟩ := oB hD
 have ad := ((L_law04_Cut_own ab).cls 5).z
 refine qs 7 [factO ad] [0,4,5] [(1,0),(2,0),(5,0)] h fun ac wd h => ?_
 obtain ⟨ae,af,hD⟩ := oB hD
 have ag := L_law03_Cut_ok af
 refine qs 10 [factE 8 ag] [0,4,5] [(1,0),(2,0),(5,0)] h fun ac wd h => ?_
 refine wp_seq ?_
 obtain ⟨ah,ai,hD⟩ := oB hD
 obtain ⟨aj,ak,hD⟩ := oB hD
 obtain ⟨al,am,hD⟩ := oB hD
 have an := L_law04_Ref_ok ai
 have ao := L_law03_Ref_ok ak
 have ap := L_ref04_Right_ok am
 have h1 := h.sm 10 [(0,.one (.own (5,0) aa.length)),(4,.one (.ptr (1,0) 0))] [((1,0),some (.box 25 (cTGraph ae))),((5,0),some (.row 38 2 (openRows cols_38 (List.map eTNode aa))))]
 have h1 := h1.fz [(1,0),(5,0)]
 have h1 := h1.sm 10 [(0,.one (.d (.sl (List.map eTNode aa)))),(4,.one (.d (.rop (eTGraph ae))))] []
 refine wp_seq (r_lend0 (F2 := [(0,.one (.own (5,0) aa.length)),(4,.one (.ptr (1,0) 0)),(5,.one (.ptr (2,0) 0)),(19,.one (.d (.bool (!(al)))))]) (nx := 10) ty_hm [factE 11 an,factE 13 ao,factE 14 ap] [19] h h1 (fun _ => rfl) rfl (by simp (maxSteps := 10000000) only [EZ,simprocAttr, *] <;> rfl) (by kernel_rfl) ?_ ?_ fun ac wd h => ?_)
 ·
  intro t
  simp only [fget]
  split <;> first | exact .inr ⟨_,rfl⟩ | exact .inl rfl
 ·
  intro t
  by_cases aq : t = 19
  · exact .inl (by rw [aq]; rfl)
  by_cases e0 : t = 0
  · exact .inr (.inl ⟨by rw [e0]; exact of_decide_eq_true (by kernel_rfl),by rw [e0]; rfl⟩)
  by_cases e4 : t = 4
  · exact .inr (.inl ⟨by rw [e4]; exact of_decide_eq_true (by kernel_rfl),by rw [e4]; rfl⟩)
  by_cases e5 : t = 5
  · exact .inr (.inl ⟨by rw [e5]; exact of_decide_eq_true (by kernel_rfl),by rw [e5]; rfl⟩)
  exact .inr (.inr (by simp only [fget,aq,e0,e4,e5,if_false]))
 rcases i2b hD with ⟨aw,hD⟩ | ⟨aw,hD⟩
 ·
  refine kF h ?_
  refine wp_skip ?_
  change Code.wp Try.prog _ _ _ _
  obtain ⟨ax,hD⟩ := iT hD
  refine qs 23 [] [0,4,5,7] [(1,0),(2,0),(5,0)] h fun ac wd h => ?_
  obtain ⟨ay,az,aA,aC,aD,hD⟩ := aB hD
  have h := h.op (5,0) (((landK .i64 a2.a0 255).tmod ae.N).toNat) 1
  have h := h.sm 24 [(0,.one (.own (5,0) aa.length)),(4,.one (.ptr (1,0) 0)),(5,.one (.ptr (2,0) 0)),(7,.one (.d (.int .i64 ((landK .i64 a2.a0 255).tmod ae.N))))]
   [((1,0),some (.box 25 (cTGraph ae))),((2,0),some (.box 26 (cA3I a2))),((5,0),some (.row 38 2 ((openRows cols_38 (List.map eTNode aa)).set (((landK .i64 a2.a0 255).tmod ae.N).toNat) [.d (.int .i64 ay.Start),.own (23,0) ay.States.length]))),((23,0),some (.row 43 4 (openRows cols_43 (List.map eTState ay.States))))]
  obtain ⟨aE,hD⟩ := iT hD
  refine ds 35 [] [0,4,5,7,8] [(1,0),(2,0),(5,0),(23,0)] h fun ac wd h => ?_
  have h := h.fS (cols := cols_43) (5,0) (23,0) (openRows cols_38 (List.map eTNode aa)) (((landK .i64 a2.a0 255).tmod ae.N).toNat) [.d (.int .i64 ay.Start),.own (23,0) ay.States.length] 1 (List.map eTState ay.States) (sc_43 _)
  have h := h.sm 35 [(0,.one (.own (5,0) aa.length)),(4,.one (.ptr (1,0) 0)),(5,.one (.ptr (2,0) 0)),(7,.one (.d (.int .i64 ((landK .i64 a2.a0 255).tmod ae.N)))),(8,.one (.d (.int .i64 ((landK .i64 a2.a1 255).tmod (ay.States.length : Int)))))]
   [((1,0),some (.box 25 (cTGraph ae))),((2,0),some (.box 26 (cA3I a2))),((5,0),some (.row 38 2 ((openRows cols_38 (List.map eTNode aa)).set (((landK .i64 a2.a0 255).tmod ae.N).toNat) [.d (.int .i64 ay.Start),.tr (.sl 43 4 cols_43) (.sl (List.map eTState ay.States))])))]
  obtain ⟨aF,aG,hD⟩ := vB hD
  have h := h.same [0,4,5,7,8] [(1,0),(2,0),(5,0)] 35 [(0,.one (.own (5,0) aF.length)),(4,.one (.ptr (1,0) 0)),(5,.one (.ptr (2,0) 0)),(7,.one (.d (.int .i64 ((landK .i64 a2.a0 255).tmod ae.N)))),(8,.one (.d (.int .i64 ((landK .i64 a2.a1 255).tmod (ay.States.length : Int)))))]
   [((1,0),some (.box 25 (cTGraph ae))),((2,0),some (.box 26 (cA3I a2))),((5,0),some (.row 38 2 (openRows cols_38 (List.map eTNode aF))))]
   (by simp only [EZ,simprocAttr,aw,ax,az,aA,aC,aD,aE,dat_open,← aG] <;> rfl)
  obtain ⟨aH,aI,aJ,aK,aL,hD⟩ := aB hD
  have h := h.op (5,0) (((landK .i64 a2.a0 255).tmod ae.N).toNat) 1
  have h := h.sm 36 [(0,.one (.own (5,0) aF.length)),(4,.one (.ptr (1,0) 0)),(5,.one (.ptr (2,0) 0)),(7,.one (.d (.int .i64 ((landK .i64 a2.a0 255).tmod ae.N)))),(8,.one (.d (.int .i64 ((landK .i64 a2.a1 255).tmod (ay.States.length : Int)))))]
   [((1,0),some (.box 25 (cTGraph ae))),((2,0),some (.box 26 (cA3I a2))),((5,0),some (.row 38 2 ((openRows cols_38 (List.map eTNode aF)).set (((landK .i64 a2.a0 255).tmod ae.N).toNat) [.d (.int .i64 aH.Start),.own (35,0) aH.States.length]))),((35,0),some (.row 43 4 (openRows cols_43 (List.map eTState aH.States))))]
  obtain ⟨aM,aN,aO,aP,aQ,hD⟩ := aB hD
  have h := h.op (35,0) (((landK .i64 a2.a1 255).tmod (ay.States.length : Int)).toNat) 1
  have h := h.sm 37 [(0,.one (.own (5,0) aF.length)),(4,.one (.ptr (1,0) 0)),(5,.one (.ptr (2,0) 0)),(7,.one (.d (.int .i64 ((landK .i64 a2.a0 255).tmod ae.N)))),(8,.one (.d (.int .i64 ((landK .i64 a2.a1 255).tmod (ay.States.length : Int)))))]
   [((1,0),some (.box 25 (cTGraph ae))),((2,0),some (.box 26 (cA3I a2))),((5,0),some (.row 38 2 ((openRows cols_38 (List.map eTNode aF)).set (((landK .i64 a2.a0 255).tmod ae.N).toNat) [.d (.int .i64 aH.Start),.own (35,0) aH.States.length]))),((35,0),some (.row 43 4 ((openRows cols_43 (List.map eTState aH.States)).set (((landK .i64 a2.a1 255).tmod (ay.States.length : Int)).toNat) [.d (.int .i64 aM.Mode),.own (36,0) aM.Waits.length,.tr (.sl 46 2 cols_46) (.sl (List.map eTPick aM.Picks)),.tr (.sl 48 3 (fun _ => .sc)) (.sl (List.map eTTake aM.Takes))]))),((36,0),some (.row 3 1 (dat (List.map eI aM.Waits))))]
  have h := h.op (35,0) (((landK .i64 a2.a1 255).tmod (ay.States.length : Int)).toNat) 2
  have h := h.sm 38 [(0,.one (.own (5,0) aF.length)),(4,.one (.ptr (1,0) 0)),(5,.one (.ptr (2,0) 0)),(7,.one (.d (.int .i64 ((landK .i64 a2.a0 255).tmod ae.N)))),(8,.one (.d (.int .i64 ((landK .i64 a2.a1 255).tmod (ay.States.length : Int)))))]
   [((1,0),some (.box 25 (cTGraph ae))),((2,0),some (.box 26 (cA3I a2))),((5,0),some (.row 38 2 ((openRows cols_38 (List.map eTNode aF)).set (((landK .i64 a2.a0 255).tmod ae.N).toNat) [.d (.int .i64 aH.Start),.own (35,0) aH.States.length]))),((35,0),some (.row 43 4 ((openRows cols_43 (List.map eTState aH.States)).set (((landK .i64 a2.a1 255).tmod (ay.States.length : Int)).toNat) [.d (.int .i64 aM.Mode),.own (36,0) aM.Waits.length,.own (37,0) aM.Picks.length,.tr (.sl 48 3 (fun _ => .sc)) (.sl (List.map eTTake aM.Takes))]))),((36,0),some (.row 3 1 (dat (List.map eI aM.Waits)))),((37,0),some (.row 46 2 (openRows cols_46 (List.map eTPick aM.Picks))))]
  have h := h.op (35,0) (((landK .i64 a2.a1 255).tmod (ay.States.length : Int)).toNat) 3
  have h := h.sm 39 [(0,.one (.own (5,0) aF.length)),(4,.one (.ptr (1,0) 0)),(5,.one (.ptr (2,0) 0)),(7,.one (.d (.int .i64 ((landK .i64 a2.a0 255).tmod ae.N)))),(8,.one (.d (.int .i64 ((landK .i64 a2.a1 255).tmod (ay.States.length : Int)))))]
   [((1,0),some (.box 25 (cTGraph ae))),((2,0),some (.box 26 (cA3I a2))),((5,0),some (.row 38 2 ((openRows cols_38 (List.map eTNode aF)).set (((landK .i64 a2.a0 255).tmod ae.N).toNat) [.d (.int .i64 aH.Start),.own (35,0) aH.States.length]))),((35,0),some (.row 43 4 ((openRows cols_43 (List.map eTState aH.States)).set (((landK .i64 a2.a1 255).tmod (ay.States.length : Int)).toNat) [.d (.int .i64 aM.Mode),.own (36,0) aM.Waits.length,.own (37,0) aM.Picks.length,.own (38,0) aM.Takes.length]))),((36,0),some (.row 3 1 (dat (List.map eI aM.Waits)))),((37,0),some (.row 46 2 (openRows cols_46 (List.map eTPick aM.Picks)))),((38,0),some (.row 48 3 (dat (List.map eTTake aM.Takes))))]
  refine qs 49 [] [0,4,5,7,8,9] [(1,0),(2,0),(5,0),(35,0),(36,0),(37,0),(38,0),(47,0)] h fun ac wd h => ?_
  refine wp_seq ?_
  refine qs 52 [] [0,4,7,8,9,53] [(1,0),(5,0),(35,0),(36,0),(37,0),(38,0),(47,0)] h fun ac wd h => ?_
  refine wp_block ?_
  refine qs 54 [] [0,4,7,8,9,53,55] [(1,0),(5,0),(35,0),(36,0),(37,0),(38,0),(47,0)] h fun ac wd h => ?_
  rcases i2e hD with ⟨aR,hD⟩ | ⟨aR,hD⟩
  ·
   refine kT h ?_
   refine qe [] [0,4,7,8,9] [(1,0),(5,0),(35,0),(36,0),(37,0),(38,0),(47,0)] h fun ac wd h => ?_
   change Code.wp Try.prog _ _ _ _
   refine ds 65 [] [0,4] [(1,0),(5,0),(35,0),(36,0),(37,0),(38,0)] h fun ac wd h => ?_
   have h := h.fS (cols := (fun _ => .sc)) (35,0) (36,0) (openRows cols_43 (List.map eTState aH.States)) (((landK .i64 a2.a1 255).tmod (ay.States.length : Int)).toNat) [.d (.int .i64 3),.own (36,0) aM.Waits.length,.own (37,0) aM.Picks.length,.own (38,0) aM.Takes.length] 1 (List.map eI aM.Waits) (sc_3 _)
   have h := h.sm 65 [(0,.one (.own (5,0) aF.length)),(4,.one (.ptr (1,0) 0))]
    [((1,0),some (.box 25 (cTGraph ae))),((5,0),some (.row 38 2 ((openRows cols_38 (List.map eTNode aF)).set (((landK .i64 a2.a0 255).tmod ae.N).toNat) [.d (.int .i64 aH.Start),.own (35,0) aH.States.length]))),((35,0),some (.row 43 4 ((openRows cols_43 (List.map eTState aH.States)).set (((landK .i64 a2.a1 255).tmod (ay.States.length : Int)).toNat) [.d (.int .i64 3),.tr (.sl 3 1 (fun _ => .sc)) (.sl (List.map eI aM.Waits)),.own (37,0) aM.Picks.length,.own (38,0) aM.Takes.length]))),((37,0),some (.row 46 2 (openRows cols_46 (List.map eTPick aM.Picks)))),((38,0),some (.row 48 3 (dat (List.map eTTake aM.Takes))))]
   have h := h.fS (cols := cols_46) (35,0) (37,0) (openRows cols_43 (List.map eTState aH.States)) (((landK .i64 a2.a1 255).tmod (ay.States.length : Int)).toNat) [.d (.int .i64 3),.tr (.sl 3 1 (fun _ => .sc)) (.sl (List.map eI aM.Waits)),.own (37,0) aM.Picks.length,.own (38,0) aM.Takes.length] 2 (List.map eTPick aM.Picks) (sc_46 _)
   have h := h.sm 65 [(0,.one (.own (5,0) aF.length)),(4,.one (.ptr (1,0) 0))]
    [((1,0),some (.box 25 (cTGraph ae))),((5,0),some (.row 38 2 ((openRows cols_38 (List.map eTNode aF)).set (((landK .i64 a2.a0 255).tmod ae.N).toNat) [.d (.int .i64 aH.Start),.own (35,0) aH.States.length]))),((35,0),some (.row 43 4 ((openRows cols_43 (List.map eTState aH.States)).set (((landK .i64 a2.a1 255).tmod (ay.States.length : Int)).toNat) [.d (.int .i64 3),.tr (.sl 3 1 (fun _ => .sc)) (.sl (List.map eI aM.Waits)),.tr (.sl 46 2 cols_46) (.sl (List.map eTPick aM.Picks)),.own (38,0) aM.Takes.length]))),((38,0),some (.row 48 3 (dat (List.map eTTake aM.Takes))))]
   have h := h.fS (cols := (fun _ => .sc)) (35,0) (38,0) (openRows cols_43 (List.map eTState aH.States)) (((landK .i64 a2.a1 255).tmod (ay.States.length : Int)).toNat) [.d (.int .i64 3),.tr (.sl 3 1 (fun _ => .sc)) (.sl (List.map eI aM.Waits)),.tr (.sl 46 2 cols_46) (.sl (List.map eTPick aM.Picks)),.own (38,0) aM.Takes.length] 3 (List.map eTTake aM.Takes) (sc_48 _)
   have h := h.sm 65 [(0,.one (.own (5,0) aF.length)),(4,.one (.ptr (1,0) 0))]
    [((1,0),some (.box 25 (cTGraph ae))),((5,0),some (.row 38 2 ((openRows cols_38 (List.map eTNode aF)).set (((landK .i64 a2.a0 255).tmod ae.N).toNat) [.d (.int .i64 aH.Start),.own (35,0) aH.States.length]))),((35,0),some (.row 43 4 ((openRows cols_43 (List.map eTState aH.States)).set (((landK .i64 a2.a1 255).tmod (ay.States.length : Int)).toNat) [.d (.int .i64 3),.tr (.sl 3 1 (fun _ => .sc)) (.sl (List.map eI aM.Waits)),.tr (.sl 46 2 cols_46) (.sl (List.map eTPick aM.Picks)),.tr (.sl 48 3 (fun _ => .sc)) (.sl (List.map eTTake aM.Takes))])))]
   have h := h.fS (cols := cols_43) (5,0) (35,0) (openRows cols_38 (List.map eTNode aF)) (((landK .i64 a2.a0 255).tmod ae.N).toNat) [.d (.int .i64 aH.Start),.own (35,0) aH.States.length] 1 (List.map eTState (aH.States.set (((landK .i64 a2.a1 255).tmod (ay.States.length : Int)).toNat) (TState.mk 3 aM.Waits aM.Picks aM.Takes))) (sc_43 _)
   have h := h.sm 65 [(0,.one (.own (5,0) aF.length)),(4,.one (.ptr (1,0) 0))]
    [((1,0),some (.box 25 (cTGraph ae))),((5,0),some (.row 38 2 ((openRows cols_38 (List.map eTNode aF)).set (((landK .i64 a2.a0 255).tmod ae.N).toNat) [.d (.int .i64 aH.Start),.tr (.sl 43 4 cols_43) (.sl (List.map eTState (aH.States.set (((landK .i64 a2.a1 255).tmod (ay.States.length : Int)).toNat) (TState.mk 3 aM.Waits aM.Picks aM.Takes))))])))]
   obtain ⟨aS,aT,hD⟩ := oB hD
   obtain ⟨aU,hD⟩ := iFb hD
   obtain ⟨aV,aW,hD⟩ := oB hD
   have aX := L_table_Right_ok aT
   have aY := L_law04_fixed_ok aW
   refine qsg 73 [factE 67 aX,factE 70 aY] [none,none,none,none,none,some (some 133,true),none,none] [6] [] h fun ac wd h => ?_
   refine wp_ret ?_
   injection hD with hD
   subst hD
   exact rE h [.tmp 6]
  ·
   refine kF h ?_
   refine qs 56 [] [0,4,7,8,9,53,58] [(1,0),(5,0),(35,0),(36,0),(37,0),(38,0),(47,0)] h fun ac wd h => ?_
   rcases i2e hD with ⟨aZ,hD⟩ | ⟨aZ,hD⟩
   ·
    refine kT h ?_
    obtain ⟨ba,hD⟩ := iT hD
    refine qe [] [0,4,7,8,9] [(1,0),(5,0),(35,0),(37,0),(38,0),(47,0),(60,0)] h fun ac wd h => ?_
    change Code.wp Try.prog _ _ _ _
    refine ds 72 [] [0,4] [(1,0),(5,0),(35,0),(37,0),(38,0),(60,0)] h fun ac wd h => ?_
    have h := h.fS (cols := (fun _ => .sc)) (35,0) (60,0) (openRows cols_43 (List.map eTState aH.States)) (((landK .i64 a2.a1 255).tmod (ay.States.length : Int)).toNat) [.d (.int .i64 aM.Mode),.own (60,0) (aM.Waits.length + 1),.own (37,0) aM.Picks.length,.own (38,0) aM.Takes.length] 1 (List.map eI (aM.Waits ++ [((landK .i64 a2.a0 255).tmod ae.N)])) (sc_3 _)
    have h := h.sm 72 [(0,.one (.own (5,0) aF.length)),(4,.one (.ptr (1,0) 0))]
     [((1,0),some (.box 25 (cTGraph ae))),((5,0),some (.row 38 2 ((openRows cols_38 (List.map eTNode aF)).set (((landK .i64 a2.a0 255).tmod ae.N).toNat) [.d (.int .i64 aH.Start),.own (35,0) aH.States.length]))),((35,0),some (.row 43 4 ((openRows cols_43 (List.map eTState aH.States)).set (((landK .i64 a2.a1 255).tmod (ay.States.length : Int)).toNat) [.d (.int .i64 aM.Mode),.tr (.sl 3 1 (fun _ => .sc)) (.sl (List.map eI (aM.Waits ++ [((landK .i64 a2.a0 255).tmod ae.N)]))),.own (37,0) aM.Picks.length,.own (38,0) aM.Takes.length]))),((37,0),some (.row 46 2 (openRows cols_46 (List.map eTPick aM.Picks)))),((38,0),some (.row 48 3 (dat (List.map eTTake aM.Takes))))]
    have h := h.fS (cols := cols_46) (35,0) (37,0) (openRows cols_43 (List.map eTState aH.States)) (((landK .i64 a2.a1 255).tmod (ay.States.length : Int)).toNat) [.d (.int .i64 aM.Mode),.tr (.sl 3 1 (fun _ => .sc)) (.sl (List.map eI (aM.Waits ++ [((landK .i64 a2.a0 255).tmod ae.N)]))),.own (37,0) aM.Picks.length,.own (38,0) aM.Takes.length] 2 (List.map eTPick aM.Picks) (sc_46 _)
    have h := h.sm 72 [(0,.one (.own (5,0) aF.length)),(4,.one (.ptr (1,0) 0))]
     [((1,0),some (.box 25 (cTGraph ae))),((5,0),some (.row 38 2 ((openRows cols_38 (List.map eTNode aF)).set (((landK .i64 a2.a0 255).tmod ae.N).toNat) [.d (.int .i64 aH.Start),.own (35,0) aH.States.length]))),((35,0),some (.row 43 4 ((openRows cols_43 (List.map eTState aH.States)).set (((landK .i64 a2.a1 255).tmod (ay.States.length : Int)).toNat) [.d (.int .i64 aM.Mode),.tr (.sl 3 1 (fun _ => .sc)) (.sl (List.map eI (aM.Waits ++ [((landK .i64 a2.a0 255).tmod ae.N)]))),.tr (.sl 46 2 cols_46) (.sl (List.map eTPick aM.Picks)),.own (38,0) aM.Takes.length]))),((38,0),some (.row 48 3 (dat (List.map eTTake aM.Takes))))]
    have h := h.fS (cols := (fun _ => .sc)) (35,0) (38,0) (openRows cols_43 (List.map eTState aH.States)) (((landK .i64 a2.a1 255).tmod (ay.States.length : Int)).toNat) [.d (.int .i64 aM.Mode),.tr (.sl 3 1 (fun _ => .sc)) (.sl (List.map eI (aM.Waits ++ [((landK .i64 a2.a0 255).tmod ae.N)]))),.tr (.sl 46 2 cols_46) (.sl (List.map eTPick aM.Picks)),.own (38,0) aM.Takes.length] 3 (List.map eTTake aM.Takes) (sc_48 _)
    have h := h.sm 72 [(0,.one (.own (5,0) aF.length)),(4,.one (.ptr (1,0) 0))]
     [((1,0),some (.box 25 (cTGraph ae))),((5,0),some (.row 38 2 ((openRows cols_38 (List.map eTNode aF)).set (((landK .i64 a2.a0 255).tmod ae.N).toNat) [.d (.int .i64 aH.Start),.own (35,0) aH.States.length]))),((35,0),some (.row 43 4 ((openRows cols_43 (List.map eTState aH.States)).set (((landK .i64 a2.a1 255).tmod (ay.States.length : Int)).toNat) [.d (.int .i64 aM.Mode),.tr (.sl 3 1 (fun _ => .sc)) (.sl (List.map eI (aM.Waits ++ [((landK .i64 a2.a0 255).tmod ae.N)]))),.tr (.sl 46 2 cols_46) (.sl (List.map eTPick aM.Picks)),.tr (.sl 48 3 (fun _ => .sc)) (.sl (List.map eTTake aM.Takes))])))]
    have h := h.fS (cols := cols_43) (5,0) (35,0) (openRows cols_38 (List.map eTNode aF)) (((landK .i64 a2.a0 255).tmod ae.N).toNat) [.d (.int .i64 aH.Start),.own (35,0) aH.States.length] 1 (List.map eTState (aH.States.set (((landK .i64 a2.a1 255).tmod (ay.States.length : Int)).toNat) (TState.mk aM.Mode (aM.Waits ++ [((landK .i64 a2.a0 255).tmod ae.N)]) aM.Picks aM.Takes))) (sc_43 _)
    have h := h.sm 72 [(0,.one (.own (5,0) aF.length)),(4,.one (.ptr (1,0) 0))]
     [((1,0),some (.box 25 (cTGraph ae))),((5,0),some (.row 38 2 ((openRows cols_38 (List.map eTNode aF)).set (((landK .i64 a2.a0 255).tmod ae.N).toNat) [.d (.int .i64 aH.Start),.tr (.sl 43 4 cols_43) (.sl (List.map eTState (aH.States.set (((landK .i64 a2.a1 255).tmod (ay.States.length : Int)).toNat) (TState.mk aM.Mode (aM.Waits ++ [((landK .i64 a2.a0 255).tmod ae.N)]) aM.Picks aM.Takes))))])))]
    obtain ⟨bb,bc,hD⟩ := oB hD
    obtain ⟨bd,hD⟩ := iFb hD
    obtain ⟨be,bf,hD⟩ := oB hD
    have bg := L_table_Right_ok bc
    have bh := L_law04_fixed_ok bf
    refine qsg 80 [factE 74 bg,factE 77 bh] [none,none,none,none,none,some (some 133,true),none,none] [6] [] h fun ac wd h => ?_
    refine wp_ret ?_
    injection hD with hD
    subst hD
    exact rE h [.tmp 6]
   ·
    refine kF h ?_
    refine qs 58 [] [0,4,7,8,9,53,66] [(1,0),(5,0),(35,0),(36,0),(37,0),(38,0),(47,0)] h fun ac wd h => ?_
    rcases i2e hD with ⟨bi,hD⟩ | ⟨bi,hD⟩
    ·
     refine kT h ?_
     obtain ⟨bj,hD⟩ := iT hD
     refine de [] [0,4,7,8,9] [(1,0),(5,0),(35,0),(36,0),(38,0),(47,0),(68,0)] h fun ac wd h => ?_
     have h := h.nilTr (68,0) (l := (openRows cols_46 (List.map eTPick aM.Picks) ++ [[.d (.int .i64 (aH.States.length : Int)),.nil]])) (l' := (openRows cols_46 (List.map eTPick aM.Picks) ++ [[.d (.int .i64 (aH.States.length : Int)),.tr (.sl 50 2 (fun _ => .sc)) (.sl (List.map eTSend []))]])) (by simp only [EZ,simprocAttr, *] <;> rfl) (RowsTo.append (RowsTo.refl _) (RowsTo.cons (RowTo.cons (.inl rfl) (RowTo.cons (.inr (.inr ⟨rfl,_,_,_,rfl⟩)) RowTo.nil)) (RowsTo.refl [])))
     have h := h.sm 71 [(0,.one (.own (5,0) aF.length)),(4,.one (.ptr (1,0) 0)),(7,.one (.d (.int .i64 ((landK .i64 a2.a0 255).tmod ae.N)))),(8,.one (.d (.int .i64 ((landK .i64 a2.a1 255).tmod (ay.States.length : Int))))),(9,.one (.ptr (47,0) 0))]
      [((1,0),some (.box 25 (cTGraph ae))),((5,0),some (.row 38 2 ((openRows cols_38 (List.map eTNode aF)).set (((landK .i64 a2.a0 255).tmod ae.N).toNat) [.d (.int .i64 aH.Start),.own (35,0) aH.States.length]))),((35,0),some (.row 43 4 ((openRows cols_43 (List.map eTState aH.States)).set (((landK .i64 a2.a1 255).tmod (ay.States.length : Int)).toNat) [.d (.int .i64 aM.Mode),.own (36,0) aM.Waits.length,.own (37,0) aM.Picks.length,.own (38,0) aM.Takes.length]))),((36,0),some (.row 3 1 (dat (List.map eI aM.Waits)))),((38,0),some (.row 48 3 (dat (List.map eTTake aM.Takes)))),((47,0),some (.box 43 [.d (.int .i64 aM.Mode),.own (36,0) aM.Waits.length,.own (68,0) (aM.Picks.length + 1),.own (38,0) aM.Takes.length])),((68,0),some (.row 46 2 ((openRows cols_46 (List.map eTPick aM.Picks) ++ [[.d (.int .i64 (aH.States.length : Int)),.tr (.sl 50 2 (fun _ => .sc)) (.sl (List.map eTSend []))]]))))]
     change Code.wp Try.prog _ _ _ _
     refine ds 80 [] [0,4] [(1,0),(5,0),(35,0),(36,0),(38,0),(68,0)] h fun ac wd h => ?_
     have h := h.fS (cols := (fun _ => .sc)) (35,0) (36,0) (openRows cols_43 (List.map eTState aH.States)) (((landK .i64 a2.a1 255).tmod (ay.States.length : Int)).toNat) [.d (.int .i64 aM.Mode),.own (36,0) aM.Waits.length,.own (68,0) (aM.Picks.length + 1),.own (38,0) aM.Takes.length] 1 (List.map eI aM.Waits) (sc_3 _)
     have h := h.sm 80 [(0,.one (.own (5,0) aF.length)),(4,.one (.ptr (1,0) 0))]
      [((1,0),some (.box 25 (cTGraph ae))),((5,0),some (.row 38 2 ((openRows cols_38 (List.map eTNode aF)).set (((landK .i64 a2.a0 255).tmod ae.N).toNat) [.d (.int .i64 aH.Start),.own (35,0) aH.States.length]))),((35,0),some (.row 43 4 ((openRows cols_43 (List.map eTState aH.States)).set (((landK .i64 a2.a1 255).tmod (ay.States.length : Int)).toNat) [.d (.int .i64 aM.Mode),.tr (.sl 3 1 (fun _ => .sc)) (.sl (List.map eI aM.Waits)),.own (68,0) (aM.Picks.length + 1),.own (38,0) aM.Takes.length]))),((38,0),some (.row 48 3 (dat (List.map eTTake aM.Takes)))),((68,0),some (.row 46 2 (openRows cols_46 (List.map eTPick (aM.Picks ++ [(TPick.mk (aH.States.length : Int) [])])))))]
     have h := h.fS (cols := cols_46) (35,0) (68,0) (openRows cols_43 (List.map eTState aH.States)) (((landK .i64 a2.a1 255).tmod (ay.States.length : Int)).toNat) [.d (.int .i64 aM.Mode),.tr (.sl 3 1 (fun _ => .sc)) (.sl (List.map eI aM.Waits)),.own (68,0) (aM.Picks.length + 1),.own (38,0) aM.Takes.length] 2 (List.map eTPick (aM.Picks ++ [(TPick.mk (aH.States.length : Int) [])])) (sc_46 _)
     have h := h.sm 80 [(0,.one (.own (5,0) aF.length)),(4,.one (.ptr (1,0) 0))]
      [((1,0),some (.box 25 (cTGraph ae))),((5,0),some (.row 38 2 ((openRows cols_38 (List.map eTNode aF)).set (((landK .i64 a2.a0 255).tmod ae.N).toNat) [.d (.int .i64 aH.Start),.own (35,0) aH.States.length]))),((35,0),some (.row 43 4 ((openRows cols_43 (List.map eTState aH.States)).set (((landK .i64 a2.a1 255).tmod (ay.States.length : Int)).toNat) [.d (.int .i64 aM.Mode),.tr (.sl 3 1 (fun _ => .sc)) (.sl (List.map eI aM.Waits)),.tr (.sl 46 2 cols_46) (.sl (List.map eTPick (aM.Picks ++ [(TPick.mk (aH.States.length : Int) [])]))),.own (38,0) aM.Takes.length]))),((38,0),some (.row 48 3 (dat (List.map eTTake aM.Takes))))]
     have h := h.fS (cols := (fun _ => .sc)) (35,0) (38,0) (openRows cols_43 (List.map eTState aH.States)) (((landK .i64 a2.a1 255).tmod (ay.States.length : Int)).toNat) [.d (.int .i64 aM.Mode),.tr (.sl 3 1 (fun _ => .sc)) (.sl (List.map eI aM.Waits)),.tr (.sl 46 2 cols_46) (.sl (List.map eTPick (aM.Picks ++ [(TPick.mk (aH.States.length : Int) [])]))),.own (38,0) aM.Takes.length] 3 (List.map eTTake aM.Takes) (sc_48 _)
     have h := h.sm 80 [(0,.one (.own (5,0) aF.length)),(4,.one (.ptr (1,0) 0))]
      [((1,0),some (.box 25 (cTGraph ae))),((5,0),some (.row 38 2 ((openRows cols_38 (List.map eTNode aF)).set (((landK .i64 a2.a0 255).tmod ae.N).toNat) [.d (.int .i64 aH.Start),.own (35,0) aH.States.length]))),((35,0),some (.row 43 4 ((openRows cols_43 (List.map eTState aH.States)).set (((landK .i64 a2.a1 255).tmod (ay.States.length : Int)).toNat) [.d (.int .i64 aM.Mode),.tr (.sl 3 1 (fun _ => .sc)) (.sl (List.map eI aM.Waits)),.tr (.sl 46 2 cols_46) (.sl (List.map eTPick (aM.Picks ++ [(TPick.mk (aH.States.length : Int) [])]))),.tr (.sl 48 3 (fun _ => .sc)) (.sl (List.map eTTake aM.Takes))])))]
     have h := h.fS (cols := cols_43) (5,0) (35,0) (openRows cols_38 (List.map eTNode aF)) (((landK .i64 a2.a0 255).tmod ae.N).toNat) [.d (.int .i64 aH.Start),.own (35,0) aH.States.length] 1 (List.map eTState (aH.States.set (((landK .i64 a2.a1 255).tmod (ay.States.length : Int)).toNat) (TState.mk aM.Mode aM.Waits (aM.Picks ++ [(TPick.mk (aH.States.length : Int) [])]) aM.Takes))) (sc_43 _)
     have h := h.sm 80 [(0,.one (.own (5,0) aF.length)),(4,.one (.ptr (1,0) 0))]
      [((1,0),some (.box 25 (cTGraph ae))),((5,0),some (.row 38 2 ((openRows cols_38 (List.map eTNode aF)).set (((landK .i64 a2.a0 255).tmod ae.N).toNat) [.d (.int .i64 aH.Start),.tr (.sl 43 4 cols_43) (.sl (List.map eTState (aH.States.set (((landK .i64 a2.a1 255).tmod (ay.States.length : Int)).toNat) (TState.mk aM.Mode aM.Waits (aM.Picks ++ [(TPick.mk (aH.States.length : Int) [])]) aM.Takes))))])))]
     obtain ⟨bk,bl,hD⟩ := oB hD
     obtain ⟨bm,hD⟩ := iFb hD
     obtain ⟨bn,bo,hD⟩ := oB hD
     have bp := L_table_Right_ok bl
     have bq := L_law04_fixed_ok bo
     refine qsg 88 [factE 82 bp,factE 85 bq] [none,none,none,none,none,some (some 133,true),none,none] [6] [] h fun ac wd h => ?_
     refine wp_ret ?_
     injection hD with hD
     subst hD
     exact rE h [.tmp 6]
    ·
     refine kF h ?_
     refine qs 60 [] [0,4,7,8,9,53,80] [(1,0),(5,0),(35,0),(36,0),(37,0),(38,0),(47,0)] h fun ac wd h => ?_
     rcases i2e hD with ⟨br,hD⟩ | ⟨br,hD⟩
     ·
      refine kT h ?_
      obtain ⟨bs,hD⟩ := iT hD
      refine qe [] [0,4,7,8,9] [(1,0),(5,0),(35,0),(36,0),(37,0),(47,0),(65,0)] h fun ac wd h => ?_
      change Code.wp Try.prog _ _ _ _
      refine ds 77 [] [0,4] [(1,0),(5,0),(35,0),(36,0),(37,0),(65,0)] h fun ac wd h => ?_
      have h := h.fS (cols := (fun _ => .sc)) (35,0) (36,0) (openRows cols_43 (List.map eTState aH.States)) (((landK .i64 a2.a1 255).tmod (ay.States.length : Int)).toNat) [.d (.int .i64 aM.Mode),.own (36,0) aM.Waits.length,.own (37,0) aM.Picks.length,.own (65,0) (aM.Takes.length + 1)] 1 (List.map eI aM.Waits) (sc_3 _)
      have h := h.sm 77 [(0,.one (.own (5,0) aF.length)),(4,.one (.ptr (1,0) 0))]
       [((1,0),some (.box 25 (cTGraph ae))),((5,0),some (.row 38 2 ((openRows cols_38 (List.map eTNode aF)).set (((landK .i64 a2.a0 255).tmod ae.N).toNat) [.d (.int .i64 aH.Start),.own (35,0) aH.States.length]))),((35,0),some (.row 43 4 ((openRows cols_43 (List.map eTState aH.States)).set (((landK .i64 a2.a1 255).tmod (ay.States.length : Int)).toNat) [.d (.int .i64 aM.Mode),.tr (.sl 3 1 (fun _ => .sc)) (.sl (List.map eI aM.Waits)),.own (37,0) aM.Picks.length,.own (65,0) (aM.Takes.length + 1)]))),((37,0),some (.row 46 2 (openRows cols_46 (List.map eTPick aM.Picks)))),((65,0),some (.row 48 3 (dat (List.map eTTake (aM.Takes ++ [(TTake.mk ((landK .i64 a2.a0 255).tmod ae.N) 0 0)])))))]
      have h := h.fS (cols := cols_46) (35,0) (37,0) (openRows cols_43 (List.map eTState aH.States)) (((landK .i64 a2.a1 255).tmod (ay.States.length : Int)).toNat) [.d (.int .i64 aM.Mode),.tr (.sl 3 1 (fun _ => .sc)) (.sl (List.map eI aM.Waits)),.own (37,0) aM.Picks.length,.own (65,0) (aM.Takes.length + 1)] 2 (List.map eTPick aM.Picks) (sc_46 _)
      have h := h.sm 77 [(0,.one (.own (5,0) aF.length)),(4,.one (.ptr (1,0) 0))]
       [((1,0),some (.box 25 (cTGraph ae))),((5,0),some (.row 38 2 ((openRows cols_38 (List.map eTNode aF)).set (((landK .i64 a2.a0 255).tmod ae.N).toNat) [.d (.int .i64 aH.Start),.own (35,0) aH.States.length]))),((35,0),some (.row 43 4 ((openRows cols_43 (List.map eTState aH.States)).set (((landK .i64 a2.a1 255).tmod (ay.States.length : Int)).toNat) [.d (.int .i64 aM.Mode),.tr (.sl 3 1 (fun _ => .sc)) (.sl (List.map eI aM.Waits)),.tr (.sl 46 2 cols_46) (.sl (List.map eTPick aM.Picks)),.own (65,0) (aM.Takes.length + 1)]))),((65,0),some (.row 48 3 (dat (List.map eTTake (aM.Takes ++ [(TTake.mk ((landK .i64 a2.a0 255).tmod ae.N) 0 0)])))))]
      have h := h.fS (cols := (fun _ => .sc)) (35,0) (65,0) (openRows cols_43 (List.map eTState aH.States)) (((landK .i64 a2.a1 255).tmod (ay.States.length : Int)).toNat) [.d (.int .i64 aM.Mode),.tr (.sl 3 1 (fun _ => .sc)) (.sl (List.map eI aM.Waits)),.tr (.sl 46 2 cols_46) (.sl (List.map eTPick aM.Picks)),.own (65,0) (aM.Takes.length + 1)] 3 (List.map eTTake (aM.Takes ++ [(TTake.mk ((landK .i64 a2.a0 255).tmod ae.N) 0 0)])) (sc_48 _)
      have h := h.sm 77 [(0,.one (.own (5,0) aF.length)),(4,.one (.ptr (1,0) 0))]
       [((1,0),some (.box 25 (cTGraph ae))),((5,0),some (.row 38 2 ((openRows cols_38 (List.map eTNode aF)).set (((landK .i64 a2.a0 255).tmod ae.N).toNat) [.d (.int .i64 aH.Start),.own (35,0) aH.States.length]))),((35,0),some (.row 43 4 ((openRows cols_43 (List.map eTState aH.States)).set (((landK .i64 a2.a1 255).tmod (ay.States.length : Int)).toNat) [.d (.int .i64 aM.Mode),.tr (.sl 3 1 (fun _ => .sc)) (.sl (List.map eI aM.Waits)),.tr (.sl 46 2 cols_46) (.sl (List.map eTPick aM.Picks)),.tr (.sl 48 3 (fun _ => .sc)) (.sl (List.map eTTake (aM.Takes ++ [(TTake.mk ((landK .i64 a2.a0 255).tmod ae.N) 0 0)])))])))]
      have h := h.fS (cols := cols_43) (5,0) (35,0) (openRows cols_38 (List.map eTNode aF)) (((landK .i64 a2.a0 255).tmod ae.N).toNat) [.d (.int .i64 aH.Start),.own (35,0) aH.States.length] 1 (List.map eTState (aH.States.set (((landK .i64 a2.a1 255).tmod (ay.States.length : Int)).toNat) (TState.mk aM.Mode aM.Waits aM.Picks (aM.Takes ++ [(TTake.mk ((landK .i64 a2.a0 255).tmod ae.N) 0 0)])))) (sc_43 _)
      have h := h.sm 77 [(0,.one (.own (5,0) aF.length)),(4,.one (.ptr (1,0) 0))]
       [((1,0),some (.box 25 (cTGraph ae))),((5,0),some (.row 38 2 ((openRows cols_38 (List.map eTNode aF)).set (((landK .i64 a2.a0 255).tmod ae.N).toNat) [.d (.int .i64 aH.Start),.tr (.sl 43 4 cols_43) (.sl (List.map eTState (aH.States.set (((landK .i64 a2.a1 255).tmod (ay.States.length : Int)).toNat) (TState.mk aM.Mode aM.Waits aM.Picks (aM.Takes ++ [(TTake.mk ((landK .i64 a2.a0 255).tmod ae.N) 0 0)])))))])))]
      obtain ⟨bt,bu,hD⟩ := oB hD
      obtain ⟨bv,hD⟩ := iFb hD
      obtain ⟨bw,bx,hD⟩ := oB hD
      have bz := L_table_Right_ok bu
      have bA := L_law04_fixed_ok bx
      refine qsg 85 [factE 79 bz,factE 82 bA] [none,none,none,none,none,some (some 133,true),none,none] [6] [] h fun ac wd h => ?_
      refine wp_ret ?_
      injection hD with hD
      subst hD
      exact rE h [.tmp 6]
     ·
      refine kF h ?_
      refine qs 62 [] [0,4,7,8,9,53,89] [(1,0),(5,0),(35,0),(36,0),(37,0),(38,0),(47,0)] h fun ac wd h => ?_
      rcases i2e hD with ⟨bB,hD⟩ | ⟨bB,hD⟩
      ·
       refine kT h ?_
       obtain ⟨bC,hD⟩ := iT hD
       refine qe [] [0,4,7,8,9] [(1,0),(5,0),(35,0),(36,0),(38,0),(47,0),(66,0),(69,0)] h fun ac wd h => ?_
       have h := h.fL (cols := (fun _ => .sc)) (69,0) (66,0) (openRows cols_46 (List.map eTPick aM.Picks)) [.d (.int .i64 0),.own (66,0) 1] 1 (List.map eTSend [(TSend.mk ((landK .i64 a2.a0 255).tmod ae.N) 0)]) (sc_50 _)
       have h := h.sm 72 [(0,.one (.own (5,0) aF.length)),(4,.one (.ptr (1,0) 0)),(7,.one (.d (.int .i64 ((landK .i64 a2.a0 255).tmod ae.N)))),(8,.one (.d (.int .i64 ((landK .i64 a2.a1 255).tmod (ay.States.length : Int))))),(9,.one (.ptr (47,0) 0))]
        [((1,0),some (.box 25 (cTGraph ae))),((5,0),some (.row 38 2 ((openRows cols_38 (List.map eTNode aF)).set (((landK .i64 a2.a0 255).tmod ae.N).toNat) [.d (.int .i64 aH.Start),.own (35,0) aH.States.length]))),((35,0),some (.row 43 4 ((openRows cols_43 (List.map eTState aH.States)).set (((landK .i64 a2.a1 255).tmod (ay.States.length : Int)).toNat) [.d (.int .i64 aM.Mode),.own (36,0) aM.Waits.length,.own (37,0) aM.Picks.length,.own (38,0) aM.Takes.length]))),((36,0),some (.row 3 1 (dat (List.map eI aM.Waits)))),((38,0),some (.row 48 3 (dat (List.map eTTake aM.Takes)))),((47,0),some (.box 43 [.d (.int .i64 aM.Mode),.own (36,0) aM.Waits.length,.own (69,0) (aM.Picks.length + 1),.own (38,0) aM.Takes.length])),((69,0),some (.row 46 2 ((openRows cols_46 (List.map eTPick aM.Picks) ++ [[.d (.int .i64 0),.tr (.sl 50 2 (fun _ => .sc)) (.sl (List.map eTSend [(TSend.mk ((landK .i64 a2.a0 255).tmod ae.N) 0)]))]]))))]
       change Code.wp Try.prog _ _ _ _
       refine ds 81 [] [0,4] [(1,0),(5,0),(35,0),(36,0),(38,0),(69,0)] h fun ac wd h => ?_
       have h := h.fS (cols := (fun _ => .sc)) (35,0) (36,0) (openRows cols_43 (List.map eTState aH.States)) (((landK .i64 a2.a1 255).tmod (ay.States.length : Int)).toNat) [.d (.int .i64 aM.Mode),.own (36,0) aM.Waits.length,.own (69,0) (aM.Picks.length + 1),.own (38,0) aM.Takes.length] 1 (List.map eI aM.Waits) (sc_3 _)
       have h := h.sm 81 [(0,.one (.own (5,0) aF.length)),(4,.one (.ptr (1,0) 0))]
        [((1,0),some (.box 25 (cTGraph ae))),((5,0),some (.row 38 2 ((openRows cols_38 (List.map eTNode aF)).set (((landK .i64 a2.a0 255).tmod ae.N).toNat) [.d (.int .i64 aH.Start),.own (35,0) aH.States.length]))),((35,0),some (.row 43 4 ((openRows cols_43 (List.map eTState aH.States)).set (((landK .i64 a2.a1 255).tmod (ay.States.length : Int)).toNat) [.d (.int .i64 aM.Mode),.tr (.sl 3 1 (fun _ => .sc)) (.sl (List.map eI aM.Waits)),.own (69,0) (aM.Picks.length + 1),.own (38,0) aM.Takes.length]))),((38,0),some (.row 48 3 (dat (List.map eTTake aM.Takes)))),((69,0),some (.row 46 2 (openRows cols_46 (List.map eTPick (aM.Picks ++ [(TPick.mk 0 [(TSend.mk ((landK .i64 a2.a0 255).tmod ae.N) 0)])])))))]
       have h := h.fS (cols := cols_46) (35,0) (69,0) (openRows cols_43 (List.map eTState aH.States)) (((landK .i64 a2.a1 255).tmod (ay.States.length : Int)).toNat) [.d (.int .i64 aM.Mode),.tr (.sl 3 1 (fun _ => .sc)) (.sl (List.map eI aM.Waits)),.own (69,0) (aM.Picks.length + 1),.own (38,0) aM.Takes.length] 2 (List.map eTPick (aM.Picks ++ [(TPick.mk 0 [(TSend.mk ((landK .i64 a2.a0 255).tmod ae.N) 0)])])) (sc_46 _)
       have h := h.sm 81 [(0,.one (.own (5,0) aF.length)),(4,.one (.ptr (1,0) 0))]
        [((1,0),some (.box 25 (cTGraph ae))),((5,0),some (.row 38 2 ((openRows cols_38 (List.map eTNode aF)).set (((landK .i64 a2.a0 255).tmod ae.N).toNat) [.d (.int .i64 aH.Start),.own (35,0) aH.States.length]))),((35,0),some (.row 43 4 ((openRows cols_43 (List.map eTState aH.States)).set (((landK .i64 a2.a1 255).tmod (ay.States.length : Int)).toNat) [.d (.int .i64 aM.Mode),.tr (.sl 3 1 (fun _ => .sc)) (.sl (List.map eI aM.Waits)),.tr (.sl 46 2 cols_46) (.sl (List.map eTPick (aM.Picks ++ [(TPick.mk 0 [(TSend.mk ((landK .i64 a2.a0 255).tmod ae.N) 0)])]))),.own (38,0) aM.Takes.length]))),((38,0),some (.row 48 3 (dat (List.map eTTake aM.Takes))))]
       have h := h.fS (cols := (fun _ => .sc)) (35,0) (38,0) (openRows cols_43 (List.map eTState aH.States)) (((landK .i64 a2.a1 255).tmod (ay.States.length : Int)).toNat) [.d (.int .i64 aM.Mode),.tr (.sl 3 1 (fun _ => .sc)) (.sl (List.map eI aM.Waits)),.tr (.sl 46 2 cols_46) (.sl (List.map eTPick (aM.Picks ++ [(TPick.mk 0 [(TSend.mk ((landK .i64 a2.a0 255).tmod ae.N) 0)])]))),.own (38,0) aM.Takes.length] 3 (List.map eTTake aM.Takes) (sc_48 _)
       have h := h.sm 81 [(0,.one (.own (5,0) aF.length)),(4,.one (.ptr (1,0) 0))]
        [((1,0),some (.box 25 (cTGraph ae))),((5,0),some (.row 38 2 ((openRows cols_38 (List.map eTNode aF)).set (((landK .i64 a2.a0 255).tmod ae.N).toNat) [.d (.int .i64 aH.Start),.own (35,0) aH.States.length]))),((35,0),some (.row 43 4 ((openRows cols_43 (List.map eTState aH.States)).set (((landK .i64 a2.a1 255).tmod (ay.States.length : Int)).toNat) [.d (.int .i64 aM.Mode),.tr (.sl 3 1 (fun _ => .sc)) (.sl (List.map eI aM.Waits)),.tr (.sl 46 2 cols_46) (.sl (List.map eTPick (aM.Picks ++ [(TPick.mk 0 [(TSend.mk ((landK .i64 a2.a0 255).tmod ae.N) 0)])]))),.tr (.sl 48 3 (fun _ => .sc)) (.sl (List.map eTTake aM.Takes))])))]
       have h := h.fS (cols := cols_43) (5,0) (35,0) (openRows cols_38 (List.map eTNode aF)) (((landK .i64 a2.a0 255).tmod ae.N).toNat) [.d (.int .i64 aH.Start),.own (35,0) aH.States.length] 1 (List.map eTState (aH.States.set (((landK .i64 a2.a1 255).tmod (ay.States.length : Int)).toNat) (TState.mk aM.Mode aM.Waits (aM.Picks ++ [(TPick.mk 0 [(TSend.mk ((landK .i64 a2.a0 255).tmod ae.N) 0)])]) aM.Takes))) (sc_43 _)
       have h := h.sm 81 [(0,.one (.own (5,0) aF.length)),(4,.one (.ptr (1,0) 0))]
        [((1,0),some (.box 25 (cTGraph ae))),((5,0),some (.row 38 2 ((openRows cols_38 (List.map eTNode aF)).set (((landK .i64 a2.a0 255).tmod ae.N).toNat) [.d (.int .i64 aH.Start),.tr (.sl 43 4 cols_43) (.sl (List.map eTState (aH.States.set (((landK .i64 a2.a1 255).tmod (ay.States.length : Int)).toNat) (TState.mk aM.Mode aM.Waits (aM.Picks ++ [(TPick.mk 0 [(TSend.mk ((landK .i64 a2.a0 255).tmod ae.N) 0)])]) aM.Takes))))])))]
       obtain ⟨bD,bE,hD⟩ := oB hD
       obtain ⟨bF,hD⟩ := iFb hD
       obtain ⟨bG,bH,hD⟩ := oB hD
       have bI := L_table_Right_ok bE
       have bJ := L_law04_fixed_ok bH
       refine qsg 89 [factE 83 bI,factE 86 bJ] [none,none,none,none,none,some (some 133,true),none,none] [6] [] h fun ac wd h => ?_
       refine wp_ret ?_
       injection hD with hD
       subst hD
       exact rE h [.tmp 6]
      ·
       refine kF h ?_
       refine qs 64 [] [0,4,7,8,9,53,100] [(1,0),(5,0),(35,0),(36,0),(37,0),(38,0),(47,0)] h fun ac wd h => ?_
       rcases i2e hD with ⟨bK,hD⟩ | ⟨bK,hD⟩
       ·
        refine kT h ?_
        obtain ⟨bL,hD⟩ := iT hD
        refine qe [] [0,4,7,8,9] [(1,0),(5,0),(35,0),(36,0),(38,0),(47,0),(72,0)] h fun ac wd h => ?_
        have h := h.nilTr (72,0) (l := (((((openRows cols_46 (List.map eTPick aM.Picks) ++ [[.d (.int .i64 0),.nil]]) ++ [[.d (.int .i64 0),.nil]]) ++ [[.d (.int .i64 0),.nil]]) ++ [[.d (.int .i64 0),.nil]]) ++ [[.d (.int .i64 0),.nil]])) (l' := (((((openRows cols_46 (List.map eTPick aM.Picks) ++ [[.d (.int .i64 0),.tr (.sl 50 2 (fun _ => .sc)) (.sl (List.map eTSend []))]]) ++ [[.d (.int .i64 0),.tr (.sl 50 2 (fun _ => .sc)) (.sl (List.map eTSend []))]]) ++ [[.d (.int .i64 0),.tr (.sl 50 2 (fun _ => .sc)) (.sl (List.map eTSend []))]]) ++ [[.d (.int .i64 0),.tr (.sl 50 2 (fun _ => .sc)) (.sl (List.map eTSend []))]]) ++ [[.d (.int .i64 0),.tr (.sl 50 2 (fun _ => .sc)) (.sl (List.map eTSend []))]])) (by simp only [EZ,simprocAttr, *] <;> rfl) (RowsTo.append (RowsTo.append (RowsTo.append (RowsTo.append (RowsTo.append (RowsTo.refl _) (RowsTo.cons (RowTo.cons (.inl rfl) (RowTo.cons (.inr (.inr ⟨rfl,_,_,_,rfl⟩)) RowTo.nil)) (RowsTo.refl []))) (RowsTo.cons (RowTo.cons (.inl rfl) (RowTo.cons (.inr (.inr ⟨rfl,_,_,_,rfl⟩)) RowTo.nil)) (RowsTo.refl []))) (RowsTo.cons (RowTo.cons (.inl rfl) (RowTo.cons (.inr (.inr ⟨rfl,_,_,_,rfl⟩)) RowTo.nil)) (RowsTo.refl []))) (RowsTo.cons (RowTo.cons (.inl rfl) (RowTo.cons (.inr (.inr ⟨rfl,_,_,_,rfl⟩)) RowTo.nil)) (RowsTo.refl []))) (RowsTo.cons (RowTo.cons (.inl rfl) (RowTo.cons (.inr (.inr ⟨rfl,_,_,_,rfl⟩)) RowTo.nil)) (RowsTo.refl [])))
        have h := h.sm 75 [(0,.one (.own (5,0) aF.length)),(4,.one (.ptr (1,0) 0)),(7,.one (.d (.int .i64 ((landK .i64 a2.a0 255).tmod ae.N)))),(8,.one (.d (.int .i64 ((landK .i64 a2.a1 255).tmod (ay.States.length : Int))))),(9,.one (.ptr (47,0) 0))]
         [((1,0),some (.box 25 (cTGraph ae))),((5,0),some (.row 38 2 ((openRows cols_38 (List.map eTNode aF)).set (((landK .i64 a2.a0 255).tmod ae.N).toNat) [.d (.int .i64 aH.Start),.own (35,0) aH.States.length]))),((35,0),some (.row 43 4 ((openRows cols_43 (List.map eTState aH.States)).set (((landK .i64 a2.a1 255).tmod (ay.States.length : Int)).toNat) [.d (.int .i64 aM.Mode),.own (36,0) aM.Waits.length,.own (37,0) aM.Picks.length,.own (38,0) aM.Takes.length]))),((36,0),some (.row 3 1 (dat (List.map eI aM.Waits)))),((38,0),some (.row 48 3 (dat (List.map eTTake aM.Takes)))),((47,0),some (.box 43 [.d (.int .i64 aM.Mode),.own (36,0) aM.Waits.length,.own (72,0) (aM.Picks.length + 1 + 1 + 1 + 1 + 1),.own (38,0) aM.Takes.length])),((72,0),some (.row 46 2 ((((((openRows cols_46 (List.map eTPick aM.Picks) ++ [[.d (.int .i64 0),.tr (.sl 50 2 (fun _ => .sc)) (.sl (List.map eTSend []))]]) ++ [[.d (.int .i64 0),.tr (.sl 50 2 (fun _ => .sc)) (.sl (List.map eTSend []))]]) ++ [[.d (.int .i64 0),.tr (.sl 50 2 (fun _ => .sc)) (.sl (List.map eTSend []))]]) ++ [[.d (.int .i64 0),.tr (.sl 50 2 (fun _ => .sc)) (.sl (List.map eTSend []))]]) ++ [[.d (.int .i64 0),.tr (.sl 50 2 (fun _ => .sc)) (.sl (List.map eTSend []))]]))))]
        change Code.wp Try.prog _ _ _ _
        refine ds 84 [] [0,4] [(1,0),(5,0),(35,0),(36,0),(38,0),(72,0)] h fun ac wd h => ?_
        have h := h.fS (cols := (fun _ => .sc)) (35,0) (36,0) (openRows cols_43 (List.map eTState aH.States)) (((landK .i64 a2.a1 255).tmod (ay.States.length : Int)).toNat) [.d (.int .i64 aM.Mode),.own (36,0) aM.Waits.length,.own (72,0) (aM.Picks.length + 1 + 1 + 1 + 1 + 1),.own (38,0) aM.Takes.length] 1 (List.map eI aM.Waits) (sc_3 _)
        have h := h.sm 84 [(0,.one (.own (5,0) aF.length)),(4,.one (.ptr (1,0) 0))]
         [((1,0),some (.box 25 (cTGraph ae))),((5,0),some (.row 38 2 ((openRows cols_38 (List.map eTNode aF)).set (((landK .i64 a2.a0 255).tmod ae.N).toNat) [.d (.int .i64 aH.Start),.own (35,0) aH.States.length]))),((35,0),some (.row 43 4 ((openRows cols_43 (List.map eTState aH.States)).set (((landK .i64 a2.a1 255).tmod (ay.States.length : Int)).toNat) [.d (.int .i64 aM.Mode),.tr (.sl 3 1 (fun _ => .sc)) (.sl (List.map eI aM.Waits)),.own (72,0) (aM.Picks.length + 1 + 1 + 1 + 1 + 1),.own (38,0) aM.Takes.length]))),((38,0),some (.row 48 3 (dat (List.map eTTake aM.Takes)))),((72,0),some (.row 46 2 (openRows cols_46 (List.map eTPick (((((aM.Picks ++ [(TPick.mk 0 [])]) ++ [(TPick.mk 0 [])]) ++ [(TPick.mk 0 [])]) ++ [(TPick.mk 0 [])]) ++ [(TPick.mk 0 [])])))))]
        have h := h.fS (cols := cols_46) (35,0) (72,0) (openRows cols_43 (List.map eTState aH.States)) (((landK .i64 a2.a1 255).tmod (ay.States.length : Int)).toNat) [.d (.int .i64 aM.Mode),.tr (.sl 3 1 (fun _ => .sc)) (.sl (List.map eI aM.Waits)),.own (72,0) (aM.Picks.length + 1 + 1 + 1 + 1 + 1),.own (38,0) aM.Takes.length] 2 (List.map eTPick (((((aM.Picks ++ [(TPick.mk 0 [])]) ++ [(TPick.mk 0 [])]) ++ [(TPick.mk 0 [])]) ++ [(TPick.mk 0 [])]) ++ [(TPick.mk 0 [])])) (sc_46 _)
        have h := h.sm 84 [(0,.one (.own (5,0) aF.length)),(4,.one (.ptr (1,0) 0))]
         [((1,0),some (.box 25 (cTGraph ae))),((5,0),some (.row 38 2 ((openRows cols_38 (List.map eTNode aF)).set (((landK .i64 a2.a0 255).tmod ae.N).toNat) [.d (.int .i64 aH.Start),.own (35,0) aH.States.length]))),((35,0),some (.row 43 4 ((openRows cols_43 (List.map eTState aH.States)).set (((landK .i64 a2.a1 255).tmod (ay.States.length : Int)).toNat) [.d (.int .i64 aM.Mode),.tr (.sl 3 1 (fun _ => .sc)) (.sl (List.map eI aM.Waits)),.tr (.sl 46 2 cols_46) (.sl (List.map eTPick (((((aM.Picks ++ [(TPick.mk 0 [])]) ++ [(TPick.mk 0 [])]) ++ [(TPick.mk 0 [])]) ++ [(TPick.mk 0 [])]) ++ [(TPick.mk 0 [])]))),.own (38,0) aM.Takes.length]))),((38,0),some (.row 48 3 (dat (List.map eTTake aM.Takes))))]
        have h := h.fS (cols := (fun _ => .sc)) (35,0) (38,0) (openRows cols_43 (List.map eTState aH.States)) (((landK .i64 a2.a1 255).tmod (ay.States.length : Int)).toNat) [.d (.int .i64 aM.Mode),.tr (.sl 3 1 (fun _ => .sc)) (.sl (List.map eI aM.Waits)),.tr (.sl 46 2 cols_46) (.sl (List.map eTPick (((((aM.Picks ++ [(TPick.mk 0 [])]) ++ [(TPick.mk 0 [])]) ++ [(TPick.mk 0 [])]) ++ [(TPick.mk 0 [])]) ++ [(TPick.mk 0 [])]))),.own (38,0) aM.Takes.length] 3 (List.map eTTake aM.Takes) (sc_48 _)
        have h := h.sm 84 [(0,.one (.own (5,0) aF.length)),(4,.one (.ptr (1,0) 0))]
         [((1,0),some (.box 25 (cTGraph ae))),((5,0),some (.row 38 2 ((openRows cols_38 (List.map eTNode aF)).set (((landK .i64 a2.a0 255).tmod ae.N).toNat) [.d (.int .i64 aH.Start),.own (35,0) aH.States.length]))),((35,0),some (.row 43 4 ((openRows cols_43 (List.map eTState aH.States)).set (((landK .i64 a2.a1 255).tmod (ay.States.length : Int)).toNat) [.d (.int .i64 aM.Mode),.tr (.sl 3 1 (fun _ => .sc)) (.sl (List.map eI aM.Waits)),.tr (.sl 46 2 cols_46) (.sl (List.map eTPick (((((aM.Picks ++ [(TPick.mk 0 [])]) ++ [(TPick.mk 0 [])]) ++ [(TPick.mk 0 [])]) ++ [(TPick.mk 0 [])]) ++ [(TPick.mk 0 [])]))),.tr (.sl 48 3 (fun _ => .sc)) (.sl (List.map eTTake aM.Takes))])))]
        have h := h.fS (cols := cols_43) (5,0) (35,0) (openRows cols_38 (List.map eTNode aF)) (((landK .i64 a2.a0 255).tmod ae.N).toNat) [.d (.int .i64 aH.Start),.own (35,0) aH.States.length] 1 (List.map eTState (aH.States.set (((landK .i64 a2.a1 255).tmod (ay.States.length : Int)).toNat) (TState.mk aM.Mode aM.Waits (((((aM.Picks ++ [(TPick.mk 0 [])]) ++ [(TPick.mk 0 [])]) ++ [(TPick.mk 0 [])]) ++ [(TPick.mk 0 [])]) ++ [(TPick.mk 0 [])]) aM.Takes))) (sc_43 _)
        have h := h.sm 84 [(0,.one (.own (5,0) aF.length)),(4,.one (.ptr (1,0) 0))]
         [((1,0),some (.box 25 (cTGraph ae))),((5,0),some (.row 38 2 ((openRows cols_38 (List.map eTNode aF)).set (((landK .i64 a2.a0 255).tmod ae.N).toNat) [.d (.int .i64 aH.Start),.tr (.sl 43 4 cols_43) (.sl (List.map eTState (aH.States.set (((landK .i64 a2.a1 255).tmod (ay.States.length : Int)).toNat) (TState.mk aM.Mode aM.Waits (((((aM.Picks ++ [(TPick.mk 0 [])]) ++ [(TPick.mk 0 [])]) ++ [(TPick.mk 0 [])]) ++ [(TPick.mk 0 [])]) ++ [(TPick.mk 0 [])]) aM.Takes))))])))]
        obtain ⟨bM,bN,hD⟩ := oB hD
        obtain ⟨bO,hD⟩ := iFb hD
        obtain ⟨bP,bQ,hD⟩ := oB hD
        have bR := L_table_Right_ok bN
        have bS := L_law04_fixed_ok bQ
        refine qsg 92 [factE 86 bR,factE 89 bS] [none,none,none,none,none,some (some 133,true),none,none] [6] [] h fun ac wd h => ?_
        refine wp_ret ?_
        injection hD with hD
        subst hD
        exact rE h [.tmp 6]
       ·
        refine kF h ?_
        refine qs 66 [] [0,4,7,8,9,112] [(1,0),(5,0),(35,0),(36,0),(37,0),(38,0),(47,0)] h fun ac wd h => ?_
        rcases i2e hD with ⟨bT,hD⟩ | ⟨bT,hD⟩
        ·
         refine kT h ?_
         obtain ⟨bU,hD⟩ := iT hD
         refine qe [] [0,4,7,8,9] [(1,0),(5,0),(35,0),(36,0),(37,0),(47,0),(71,0)] h fun ac wd h => ?_
         change Code.wp Try.prog _ _ _ _
         refine ds 83 [] [0,4] [(1,0),(5,0),(35,0),(36,0),(37,0),(71,0)] h fun ac wd h => ?_
         have h := h.fS (cols := (fun _ => .sc)) (35,0) (36,0) (openRows cols_43 (List.map eTState aH.States)) (((landK .i64 a2.a1 255).tmod (ay.States.length : Int)).toNat) [.d (.int .i64 aM.Mode),.own (36,0) aM.Waits.length,.own (37,0) aM.Picks.length,.own (71,0) (aM.Takes.length + 1 + 1)] 1 (List.map eI aM.Waits) (sc_3 _)
         have h := h.sm 83 [(0,.one (.own (5,0) aF.length)),(4,.one (.ptr (1,0) 0))]
          [((1,0),some (.box 25 (cTGraph ae))),((5,0),some (.row 38 2 ((openRows cols_38 (List.map eTNode aF)).set (((landK .i64 a2.a0 255).tmod ae.N).toNat) [.d (.int .i64 aH.Start),.own (35,0) aH.States.length]))),((35,0),some (.row 43 4 ((openRows cols_43 (List.map eTState aH.States)).set (((landK .i64 a2.a1 255).tmod (ay.States.length : Int)).toNat) [.d (.int .i64 aM.Mode),.tr (.sl 3 1 (fun _ => .sc)) (.sl (List.map eI aM.Waits)),.own (37,0) aM.Picks.length,.own (71,0) (aM.Takes.length + 1 + 1)]))),((37,0),some (.row 46 2 (openRows cols_46 (List.map eTPick aM.Picks)))),((71,0),some (.row 48 3 (dat (List.map eTTake ((aM.Takes ++ [(TTake.mk (-1) 0 0)]) ++ [(TTake.mk (-1) 0 0)])))))]
         have h := h.fS (cols := cols_46) (35,0) (37,0) (openRows cols_43 (List.map eTState aH.States)) (((landK .i64 a2.a1 255).tmod (ay.States.length : Int)).toNat) [.d (.int .i64 aM.Mode),.tr (.sl 3 1 (fun _ => .sc)) (.sl (List.map eI aM.Waits)),.own (37,0) aM.Picks.length,.own (71,0) (aM.Takes.length + 1 + 1)] 2 (List.map eTPick aM.Picks) (sc_46 _)
         have h := h.sm 83 [(0,.one (.own (5,0) aF.length)),(4,.one (.ptr (1,0) 0))]
          [((1,0),some (.box 25 (cTGraph ae))),((5,0),some (.row 38 2 ((openRows cols_38 (List.map eTNode aF)).set (((landK .i64 a2.a0 255).tmod ae.N).toNat) [.d (.int .i64 aH.Start),.own (35,0) aH.States.length]))),((35,0),some (.row 43 4 ((openRows cols_43 (List.map eTState aH.States)).set (((landK .i64 a2.a1 255).tmod (ay.States.length : Int)).toNat) [.d (.int .i64 aM.Mode),.tr (.sl 3 1 (fun _ => .sc)) (.sl (List.map eI aM.Waits)),.tr (.sl 46 2 cols_46) (.sl (List.map eTPick aM.Picks)),.own (71,0) (aM.Takes.length + 1 + 1)]))),((71,0),some (.row 48 3 (dat (List.map eTTake ((aM.Takes ++ [(TTake.mk (-1) 0 0)]) ++ [(TTake.mk (-1) 0 0)])))))]
         have h := h.fS (cols := (fun _ => .sc)) (35,0) (71,0) (openRows cols_43 (List.map eTState aH.States)) (((landK .i64 a2.a1 255).tmod (ay.States.length : Int)).toNat) [.d (.int .i64 aM.Mode),.tr (.sl 3 1 (fun _ => .sc)) (.sl (List.map eI aM.Waits)),.tr (.sl 46 2 cols_46) (.sl (List.map eTPick aM.Picks)),.own (71,0) (aM.Takes.length + 1 + 1)] 3 (List.map eTTake ((aM.Takes ++ [(TTake.mk (-1) 0 0)]) ++ [(TTake.mk (-1) 0 0)])) (sc_48 _)
         have h := h.sm 83 [(0,.one (.own (5,0) aF.length)),(4,.one (.ptr (1,0) 0))]
          [((1,0),some (.box 25 (cTGraph ae))),((5,0),some (.row 38 2 ((openRows cols_38 (List.map eTNode aF)).set (((landK .i64 a2.a0 255).tmod ae.N).toNat) [.d (.int .i64 aH.Start),.own (35,0) aH.States.length]))),((35,0),some (.row 43 4 ((openRows cols_43 (List.map eTState aH.States)).set (((landK .i64 a2.a1 255).tmod (ay.States.length : Int)).toNat) [.d (.int .i64 aM.Mode),.tr (.sl 3 1 (fun _ => .sc)) (.sl (List.map eI aM.Waits)),.tr (.sl 46 2 cols_46) (.sl (List.map eTPick aM.Picks)),.tr (.sl 48 3 (fun _ => .sc)) (.sl (List.map eTTake ((aM.Takes ++ [(TTake.mk (-1) 0 0)]) ++ [(TTake.mk (-1) 0 0)])))])))]
         have h := h.fS (cols := cols_43) (5,0) (35,0) (openRows cols_38 (List.map eTNode aF)) (((landK .i64 a2.a0 255).tmod ae.N).toNat) [.d (.int .i64 aH.Start),.own (35,0) aH.States.length] 1 (List.map eTState (aH.States.set (((landK .i64 a2.a1 255).tmod (ay.States.length : Int)).toNat) (TState.mk aM.Mode aM.Waits aM.Picks ((aM.Takes ++ [(TTake.mk (-1) 0 0)]) ++ [(TTake.mk (-1) 0 0)])))) (sc_43 _)
         have h := h.sm 83 [(0,.one (.own (5,0) aF.length)),(4,.one (.ptr (1,0) 0))]
          [((1,0),some (.box 25 (cTGraph ae))),((5,0),some (.row 38 2 ((openRows cols_38 (List.map eTNode aF)).set (((landK .i64 a2.a0 255).tmod ae.N).toNat) [.d (.int .i64 aH.Start),.tr (.sl 43 4 cols_43) (.sl (List.map eTState (aH.States.set (((landK .i64 a2.a1 255).tmod (ay.States.length : Int)).toNat) (TState.mk aM.Mode aM.Waits aM.Picks ((aM.Takes ++ [(TTake.mk (-1) 0 0)]) ++ [(TTake.mk (-1) 0 0)])))))])))]
         obtain ⟨bV,bW,hD⟩ := oB hD
         obtain ⟨bX,hD⟩ := iFb hD
         obtain ⟨bY,bZ,hD⟩ := oB hD
         have b0 := L_table_Right_ok bW
         have b1 := L_law04_fixed_ok bZ
         refine qsg 91 [factE 85 b0,factE 88 b1] [none,none,none,none,none,some (some 133,true),none,none] [6] [] h fun ac wd h => ?_
         refine wp_ret ?_
         injection hD with hD
         subst hD
         exact rE h [.tmp 6]
        ·
         refine kF h ?_
         refine qe [] [0,4,7,8,9] [(1,0),(5,0),(35,0),(36,0),(37,0),(38,0),(47,0)] h fun ac wd h => ?_
         change Code.wp Try.prog _ _ _ _
         refine ds 77 [] [0,4] [(1,0),(5,0),(35,0),(36,0),(37,0),(38,0)] h fun ac wd h => ?_
         have h := h.fS (cols := (fun _ => .sc)) (35,0) (36,0) (openRows cols_43 (List.map eTState aH.States)) (((landK .i64 a2.a1 255).tmod (ay.States.length : Int)).toNat) [.d (.int .i64 (-1)),.own (36,0) aM.Waits.length,.own (37,0) aM.Picks.length,.own (38,0) aM.Takes.length] 1 (List.map eI aM.Waits) (sc_3 _)
         have h := h.sm 77 [(0,.one (.own (5,0) aF.length)),(4,.one (.ptr (1,0) 0))]
          [((1,0),some (.box 25 (cTGraph ae))),((5,0),some (.row 38 2 ((openRows cols_38 (List.map eTNode aF)).set (((landK .i64 a2.a0 255).tmod ae.N).toNat) [.d (.int .i64 aH.Start),.own (35,0) aH.States.length]))),((35,0),some (.row 43 4 ((openRows cols_43 (List.map eTState aH.States)).set (((landK .i64 a2.a1 255).tmod (ay.States.length : Int)).toNat) [.d (.int .i64 (-1)),.tr (.sl 3 1 (fun _ => .sc)) (.sl (List.map eI aM.Waits)),.own (37,0) aM.Picks.length,.own (38,0) aM.Takes.length]))),((37,0),some (.row 46 2 (openRows cols_46 (List.map eTPick aM.Picks)))),((38,0),some (.row 48 3 (dat (List.map eTTake aM.Takes))))]
         have h := h.fS (cols := cols_46) (35,0) (37,0) (openRows cols_43 (List.map eTState aH.States)) (((landK .i64 a2.a1 255).tmod (ay.States.length : Int)).toNat) [.d (.int .i64 (-1)),.tr (.sl 3 1 (fun _ => .sc)) (.sl (List.map eI aM.Waits)),.own (37,0) aM.Picks.length,.own (38,0) aM.Takes.length] 2 (List.map eTPick aM.Picks) (sc_46 _)
         have h := h.sm 77 [(0,.one (.own (5,0) aF.length)),(4,.one (.ptr (1,0) 0))]
          [((1,0),some (.box 25 (cTGraph ae))),((5,0),some (.row 38 2 ((openRows cols_38 (List.map eTNode aF)).set (((landK .i64 a2.a0 255).tmod ae.N).toNat) [.d (.int .i64 aH.Start),.own (35,0) aH.States.length]))),((35,0),some (.row 43 4 ((openRows cols_43 (List.map eTState aH.States)).set (((landK .i64 a2.a1 255).tmod (ay.States.length : Int)).toNat) [.d (.int .i64 (-1)),.tr (.sl 3 1 (fun _ => .sc)) (.sl (List.map eI aM.Waits)),.tr (.sl 46 2 cols_46) (.sl (List.map eTPick aM.Picks)),.own (38,0) aM.Takes.length]))),((38,0),some (.row 48 3 (dat (List.map eTTake aM.Takes))))]
         have h := h.fS (cols := (fun _ => .sc)) (35,0) (38,0) (openRows cols_43 (List.map eTState aH.States)) (((landK .i64 a2.a1 255).tmod (ay.States.length : Int)).toNat) [.d (.int .i64 (-1)),.tr (.sl 3 1 (fun _ => .sc)) (.sl (List.map eI aM.Waits)),.tr (.sl 46 2 cols_46) (.sl (List.map eTPick aM.Picks)),.own (38,0) aM.Takes.length] 3 (List.map eTTake aM.Takes) (sc_48 _)
         have h := h.sm 77 [(0,.one (.own (5,0) aF.length)),(4,.one (.ptr (1,0) 0))]
          [((1,0),some (.box 25 (cTGraph ae))),((5,0),some (.row 38 2 ((openRows cols_38 (List.map eTNode aF)).set (((landK .i64 a2.a0 255).tmod ae.N).toNat) [.d (.int .i64 aH.Start),.own (35,0) aH.States.length]))),((35,0),some (.row 43 4 ((openRows cols_43 (List.map eTState aH.States)).set (((landK .i64 a2.a1 255).tmod (ay.States.length : Int)).toNat) [.d (.int .i64 (-1)),.tr (.sl 3 1 (fun _ => .sc)) (.sl (List.map eI aM.Waits)),.tr (.sl 46 2 cols_46) (.sl (List.map eTPick aM.Picks)),.tr (.sl 48 3 (fun _ => .sc)) (.sl (List.map eTTake aM.Takes))])))]
         have h := h.fS (cols := cols_43) (5,0) (35,0) (openRows cols_38 (List.map eTNode aF)) (((landK .i64 a2.a0 255).tmod ae.N).toNat) [.d (.int .i64 aH.Start),.own (35,0) aH.States.length] 1 (List.map eTState (aH.States.set (((landK .i64 a2.a1 255).tmod (ay.States.length : Int)).toNat) (TState.mk (-1) aM.Waits aM.Picks aM.Takes))) (sc_43 _)
         have h := h.sm 77 [(0,.one (.own (5,0) aF.length)),(4,.one (.ptr (1,0) 0))]
          [((1,0),some (.box 25 (cTGraph ae))),((5,0),some (.row 38 2 ((openRows cols_38 (List.map eTNode aF)).set (((landK .i64 a2.a0 255).tmod ae.N).toNat) [.d (.int .i64 aH.Start),.tr (.sl 43 4 cols_43) (.sl (List.map eTState (aH.States.set (((landK .i64 a2.a1 255).tmod (ay.States.length : Int)).toNat) (TState.mk (-1) aM.Waits aM.Picks aM.Takes))))])))]
         obtain ⟨b2,b3,hD⟩ := oB hD
         obtain ⟨b4,hD⟩ := iFb hD
         obtain ⟨b5,b6,hD⟩ := oB hD
         have b7 := L_table_Right_ok b3
         have b8 := L_law04_fixed_ok b6
         refine qsg 85 [factE 79 b7,factE 82 b8] [none,none,none,none,none,some (some 133,true),none,none] [6] [] h fun ac wd h => ?_
         refine wp_ret ?_
         injection hD with hD
         subst hD
         exact rE h [.tmp 6]
 ·
  refine kT h ?_
  obtain ⟨b9,ca,hD⟩ := oB hD
  obtain ⟨cb,hD⟩ := iFb hD
  obtain ⟨cc,cd,hD⟩ := oB hD
  have ce := L_table_Right_ok ca
  have cf := L_law04_fixed_ok cd
  refine qsg 24 [factE 18 ce,factE 21 cf] [none,none,none,none,none,some (some 24,true),none,none] [6] [] h fun ac wd h => ?_
  refine wp_ret ?_
  injection hD with hD
  subst hD
  exact rE h [.tmp 6]

end Go.Proofs.Ytabbejabdkkaiaa
