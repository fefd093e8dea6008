/- The run of a region as a function on lists; the rules for code on the abstract state: regions, branches, loops, what a function is given and what it answers. What a function is given and what it answers, on the abstract state. Names counted anew, other names for the same state, loops. Own objects frozen, opened, folded; nil as an own empty row. No condition. -/
import Derived.Test.YtabbejabdkkaiaaKE
set_option linter.unusedSimpArgs false
set_option linter.unusedVariables false
namespace Go.Proofs.Ytabbejabdkkaiaa
open Go.RowKit

abbrev LF := List (Nat × AV)
def fget : LF → Nat → AV
 | [],_ => .one .any
 | (k,v) :: r,t => if t = k then v else fget r t
def fadd (F : LF) (dst : Option Nat) (v : AV) : LF :=
 match dst with
 | some d => (d,v) :: F
 | none => F
def madd (M : LM) : List Upd → LM
 | [] => M
 | p :: r => madd (p :: M) r
theorem fget_add (F : LF) (dst : Option Nat) (v : AV) : fget (fadd F dst v) = fput (fget F) dst v := by
 cases dst with
 | none => rfl
 | some d => rfl
theorem mget_add : ∀ (U : List Upd) (M : LM),mget (madd M U) = mupd (mget M) U
 | [],_ => rfl
 | u :: U,M => by
  simp only [madd,mupd]
  rw [mget_add U]
  rfl
def fkeep (F : LF) (ks : List Nat) : LF := ks.map fun t => (t,fget F t)
def mkeep (M : LM) (ks : List Nm) : LM := ks.map fun t => (t,mget M t)
theorem fget_keep {F : LF} {t : Nat} : ∀ {ks : List Nat},fget (fkeep F ks) t = if t ∈ ks then fget F t else .one .any
 | [] => by simp [fkeep,fget]
 | k :: ks => by
  have ih := fget_keep (F := F) (t := t) (ks := ks)
  simp only [fkeep] at ih
  simp only [fkeep,List.map_cons,fget,ih,List.mem_cons]
  by_cases e : t = k
  · simp [e]
  · simp [e]
theorem mget_keep {M : LM} {t : Nm} : ∀ {ks : List Nm},mget (mkeep M ks) t = if t ∈ ks then mget M t else none
 | [] => by simp [mkeep,mget]
 | k :: ks => by
  have ih := mget_keep (M := M) (t := t) (ks := ks)
  simp only [mkeep] at ih
  simp only [mkeep,List.map_cons,mget,mput,mset,ih,List.mem_cons]
  by_cases e : t = k
  · simp [e]
  · simp [e]

abbrev Gd := Option (Option Nat × Bool)
abbrev T3 := List Nat × List Nat × List Nat
def okV (nx : Nat) (v : AV) (U : List Upd) : Bool := (v.ids.map (·.1) ++ uIds U).all fun id => Nat.blt id (nx + 1)
noncomputable def arun (P : Program) (Z : List (Fact P)) (N : Nat) : List Gd → List Oper → Nat → LF → LM → Option (LF × LM)
 | [],[],_,F,M => some (F,M)
 | g :: gs,o :: l,nx,F,M =>
  match gstep P Z (aeval N (fget F)) (mget M) nx g o with
  | some (v,U) => if okV nx v U = true then arun P Z N gs l (nx + 1) (fadd F o.dst v) (madd M U) else none
  | none => none
 | _,_,_,_,_ => none
noncomputable def drun (P : Program) (Z : List (Fact P)) (N : Nat) : List Gd → List Oper → Nat → LF → LM → List T3 → Option (LF × LM × List T3)
 | [],[],_,F,M,T => some (F,M,T)
 | g :: gs,o :: l,nx,F,M,T =>
  match gstep P Z (aeval N (fget F)) (mget M) nx g o with
  | some (v,U) => if okV nx v U = true then drun P Z N gs l (nx + 1) (fadd F o.dst v) (madd M U) (((opN (mget M) (aeval N (fget F)) o).map (·.1),U.map ucl,v.ids.map (·.1) ++ uIds U) :: T) else none
  | none => none
 | _,_,_,_,_,_ => none

structure SL (w0 : Bas) (N nx : Nat) (F : LF) (M : LM) (a : Act) (w : World) : Prop where
 st : St w0 N (fget F) (mget M) a w
 nm : Names (· < nx) (fget F,mget M)
 pos : 0 < nx

section
variable {P : Program} {w0 : Bas} {N nx : Nat} {F F' : LF} {M M' : LM} {a : Act} {w : World} {l l0 : List Oper} {Q : Exit → Act → World → Prop}

theorem okV_all {nx : Nat} {v : AV} {U : List Upd} (h : okV nx v U = true) : ∀ id ∈ v.ids.map (·.1) ++ uIds U,id < nx + 1 := fun id hid => by
 have := List.all_eq_true.1 h id hid
 rw [Nat.blt_eq] at this
 exact this
theorem arun_runs {Z : List (Fact P)} : ∀ {l : List Oper} {nx : Nat} {F F' : LF} {M M' : LM},arun P Z N (l.map (gof l0)) l nx F M = some (F',M') → ∃ rs,Runs P Z N l0 l nx (fget F,mget M) rs ∧ app (fun _ => true) rs (fget F,mget M) = (fget F',mget M')
 | [],nx,F,F',M,M',h => by
  simp only [List.map_nil,arun,Option.some.injEq,Prod.mk.injEq] at h
  obtain ⟨rfl,rfl⟩ := h
  exact ⟨[],.nil _ _,rfl⟩
 | o :: l,nx,F,F',M,M',h => by
  simp only [List.map_cons,arun] at h
  split at h
  ·
   rename_i v U hs
   split at h
   ·
    rename_i hV
    obtain ⟨rs,h1,h2⟩ := arun_runs h
    have e : (fget (fadd F o.dst v),mget (madd M U)) = Rec.put ⟨o.dst,v,U,(opN (mget M) (aeval N (fget F)) o).map (·.1)⟩ (fget F,mget M) := by
     simp only [Rec.put,fget_add,mget_add]
    rw [e] at h1 h2
    exact ⟨_ :: rs,.cons (r := ⟨o.dst,v,U,(opN (mget M) (aeval N (fget F)) o).map (·.1)⟩) hs rfl rfl (okV_all hV) h1,by simpa only [app,if_true] using h2⟩
   · cases h
  · cases h
theorem drun_runs {Z : List (Fact P)} : ∀ {l : List Oper} {nx : Nat} {F F' : LF} {M M' : LM} {T T' : List T3},drun P Z N (l.map (gof l0)) l nx F M T = some (F',M',T') → ∃ rs,Runs P Z N l0 l nx (fget F,mget M) rs ∧ app (fun _ => true) rs (fget F,mget M) = (fget F',mget M') ∧ T'.reverse = T.reverse ++ rs.map Rec.tr
 | [],nx,F,F',M,M',T,T',h => by
  simp only [List.map_nil,drun,Option.some.injEq,Prod.mk.injEq] at h
  obtain ⟨rfl,rfl,rfl⟩ := h
  exact ⟨[],.nil _ _,rfl,by simp⟩
 | o :: l,nx,F,F',M,M',T,T',h => by
  simp only [List.map_cons,drun] at h
  split at h
  ·
   rename_i v U hs
   split at h
   ·
    rename_i hV
    obtain ⟨rs,h1,h2,h3⟩ := drun_runs h
    have e : (fget (fadd F o.dst v),mget (madd M U)) = Rec.put ⟨o.dst,v,U,(opN (mget M) (aeval N (fget F)) o).map (·.1)⟩ (fget F,mget M) := by
     simp only [Rec.put,fget_add,mget_add]
    rw [e] at h1 h2
    exact ⟨_ :: rs,.cons (r := ⟨o.dst,v,U,(opN (mget M) (aeval N (fget F)) o).map (·.1)⟩) hs rfl rfl (okV_all hV) h1,by simpa only [app,if_true] using h2,by
     rw [h3]
     simp [Rec.tr,Rec.W,Rec.V]⟩
   · cases h
  · cases h

theorem StR.less {ρ : Place} {φ : Foot} {f f' : Nat → AV} {m m' : Nm → Option AObj} (h : StR w0 N ρ φ f m a w) (hf : ∀ t,f' t = f t ∨ f' t = .one .any) (hm : ∀ i,m' i = m i ∨ m' i = none) : StR w0 N ρ φ f' m' a w := by
 have old : ∀ i o,m' i = some o → m i = some o := fun i o hi => by
  rcases hm i with e | e
  · rw [← e]; exact hi
  · rw [e] at hi; cases hi
 have hS : ∀ b,Sof w0 φ m w b → Sof w0 φ m' w b := fun b hb => ⟨hb.1,fun i o hi => hb.2.1 i o (old i o hi),hb.2.2⟩
 refine ⟨h.mv,h.dfr,h.size,fun t v ht => ?_,fun i o hi => (h.objs i o (old i o hi)).next (fun _ _ => rfl) hS (fun _ _ => rfl) rfl (fun _ _ => rfl) (fun _ hb => hb),fun i o b hi => h.lt i o b (old i o hi),fun i o b hi => h.base i o b (old i o hi),fun i i' o o' b hi hi' => h.disj i i' o o' b (old i o hi) (old i' o' hi'),fun i o h0 hi => h.stab i o h0 (old i o hi)⟩
 rcases hf t with e | e
 · rw [e]; exact (h.regs t v ht).next (fun _ _ => rfl) hS (fun _ _ => rfl)
 · rw [e]; trivial
theorem SL.keep (h : SL w0 N nx F M a w) (ks : List Nat) (ms : List Nm) : SL w0 N nx (fkeep F ks) (mkeep M ms) a w := by
 obtain ⟨⟨ρ,φ,h1⟩,h2,h3⟩ := h
 have hf : ∀ t,fget (fkeep F ks) t = fget F t ∨ fget (fkeep F ks) t = .one .any := fun t => by
  rw [fget_keep]
  split
  · exact .inl rfl
  · exact .inr rfl
 have hm : ∀ t,mget (mkeep M ms) t = mget M t ∨ mget (mkeep M ms) t = none := fun t => by
  rw [mget_keep]
  split
  · exact .inl rfl
  · exact .inr rfl
 refine ⟨⟨ρ,φ,h1.less hf hm⟩,⟨fun t id hid => ?_,fun i o hi => ?_⟩,h3⟩
 ·
  rcases hf t with e | e
  · simp only [e] at hid; exact h2.1 t id hid
  · simp only [e] at hid; cases hid
 ·
  rcases hm i with e | e
  · simp only [e] at hi; exact h2.2 i o hi
  · simp only [e] at hi; cases hi

def okeep (ks : List Nat) (ms : List Nm) : Option (LF × LM) → Option (LF × LM)
 | some (F,M) => some (fkeep F ks,mkeep M ms)
 | none => none
def dkeep (ks : List Nat) (ms : List Nm) : Option (LF × LM × List T3) → Option (LF × LM × List T3)
 | some (F,M,T) => some (fkeep F ks,mkeep M ms,T)
 | none => none
theorem r_plain {id : Nat} (Z : List (Fact P)) (gs : List Gd) (ks : List Nat) (ms : List Nm) (h : SL w0 N nx F M a w) (hg : l.map (gof l) = gs) (e : okeep ks ms (arun P Z N gs l nx F M) = some (F',M'))
  (hQ : ∀ a w,SL w0 N (nx + l.length) F' M' a w → Q .normal a w) : (Code.region id l.toArray false).wp P Q a w := by
 subst hg
 unfold okeep at e
 split at e
 ·
  rename_i F1 M1 e1
  injection e with e
  injection e with e2 e3
  subst e2 e3
  obtain ⟨rs,h1,h2⟩ := arun_runs e1
  have hb := h1.bd h.nm
  rw [h2] at hb
  refine wp_plain h.pos h1 h.nm h.st fun a w hst => hQ a w (SL.keep ⟨?_,hb,by have := h.pos; omega⟩ ks ms)
  rw [h2] at hst
  exact hst
 · cases e
theorem r_drawn {id : Nat} {T : List T3} (hm : P.follows .mixedOrders = true) (Z : List (Fact P)) (gs : List Gd) (ks : List Nat) (ms : List Nm) (h : SL w0 N nx F M a w) (hg : l.map (gof l) = gs) (e : dkeep ks ms (drun P Z N gs l nx F M []) = some (F',M',T)) (hc : chk l nx T.reverse = true)
  (hQ : ∀ a w,SL w0 N (nx + l.length) F' M' a w → Q .normal a w) : (Code.region id l.toArray true).wp P Q a w := by
 subst hg
 unfold dkeep at e
 split at e
 ·
  rename_i F1 M1 T1 e1
  injection e with e
  injection e with e2 e
  injection e with e3 e4
  subst e2 e3 e4
  obtain ⟨rs,h1,h2,h3⟩ := drun_runs e1
  have hb := h1.bd h.nm
  rw [h2] at hb
  simp only [List.reverse_nil,List.nil_append] at h3
  rw [h3] at hc
  refine wp_drawn h.pos hm h1 h.nm hc h.st fun a w hst => hQ a w (SL.keep ⟨?_,hb,by have := h.pos; omega⟩ ks ms)
  rw [h2] at hst
  exact hst
 · cases e
theorem rs_plain {id : Nat} {y : Code} (nx' : Nat) (Z : List (Fact P)) (gs : List Gd) (ks : List Nat) (ms : List Nm) (h : SL w0 N nx F M a w) (hg : l.map (gof l) = gs) (hx : nx + l.length = nx') (e : okeep ks ms (arun P Z N gs l nx F M) = some (F',M'))
  (hQ : ∀ a w,SL w0 N nx' F' M' a w → y.wp P Q a w) : (Code.seq (.region id l.toArray false) y).wp P Q a w :=
 wp_seq (r_plain Z gs ks ms h hg e (hx ▸ hQ))
theorem rs_drawn {id : Nat} {y : Code} {T : List T3} (nx' : Nat) (hm : P.follows .mixedOrders = true) (Z : List (Fact P)) (gs : List Gd) (ks : List Nat) (ms : List Nm) (h : SL w0 N nx F M a w) (hg : l.map (gof l) = gs) (hx : nx + l.length = nx') (e : dkeep ks ms (drun P Z N gs l nx F M []) = some (F',M',T)) (hc : chk l nx T.reverse = true)
  (hQ : ∀ a w,SL w0 N nx' F' M' a w → y.wp P Q a w) : (Code.seq (.region id l.toArray true) y).wp P Q a w :=
 wp_seq (r_drawn hm Z gs ks ms h hg e hc (hx ▸ hQ))
theorem r_cond {c : Operand} {x y : Code} (h : SL w0 N nx F M a w) (b : Bool) (e : aeval N (fget F) c = .one (.d (.bool b))) (ht : b = true → x.wp P Q a w) (hf : b = false → y.wp P Q a w) : (Code.cond c x y).wp P Q a w := by
 obtain ⟨ρ,φ,h1⟩ := h.st
 have := aeval_ok h1 c
 rw [e] at this
 exact wp_cond_split (cv_bool (ρ := ρ) this) ht hf
theorem r_condB {c : Operand} {x y : Code} {b0 : Bool} {n : Nat} (h : SL w0 N nx F M a w) (e : aeval N (fget F) c = .one (.bb b0 n)) (ht : (b0 = true → n = 0) → x.wp P Q a w) (hf : (b0 = false → n = 0) → y.wp P Q a w) : (Code.cond c x y).wp P Q a w := by
 obtain ⟨ρ,φ,h1⟩ := h.st
 have := aeval_ok h1 c
 rw [e] at this
 obtain ⟨b,hb,hn⟩ := this
 exact wp_cond_split hb (fun e => ht fun e' => hn (e.trans e'.symm)) (fun e => hf fun e' => hn (e.trans e'.symm))
end
def argF : Nat → List AV → LF
 | _,[] => []
 | i,x :: xs => (i,x) :: argF (i + 1) xs
theorem argF_get : ∀ {xs : List AV} {i t : Nat},fget (argF i xs) t = if i ≤ t then (xs[t - i]?).getD (.one .any) else .one .any
 | [],i,t => by simp [argF,fget]
 | x :: xs,i,t => by
  simp only [argF,fget]
  rw [argF_get]
  by_cases e : t = i
  ·
   subst e
   simp
  ·
   rw [if_neg e]
   by_cases h : i ≤ t
   ·
    rw [if_pos h,if_pos (by omega)]
    rw [show t - i = (t - (i + 1)) + 1 by omega]
    simp
   · rw [if_neg h,if_neg (by omega)]

def aRes (P : Program) (N : Nat) (F : LF) (M : LM) : ResultVar → Option AV
 | .tmp t => if t < N then some (fget F t) else none
 | .cell t ty => (stLoad P (mget M) ty (aeval N (fget F) (.tmp t))).map (·.1)
def toS : AV → Option (List Cell ⊕ Cell)
 | .one c => some (.inr c)
 | .agg l => some (.inl l)
 | .tup _ => none
def allS : List AV → Option (List (List Cell ⊕ Cell))
 | [] => some []
 | x :: xs => match toS x,allS xs with
  | some y,some ys => some (y :: ys)
  | _,_ => none
def ansOf : List AV → Option AV
 | [x] => some x
 | xs => (allS xs).map .tup

section
variable {P : Program} {w0 : Bas} {N nx : Nat} {F F' : LF} {M M' : LM} {a : Act} {w : World} {Q : Exit → Act → World → Prop}

theorem allS_get : ∀ {xs : List AV} {ys : List (List Cell ⊕ Cell)},allS xs = some ys → ys.length = xs.length ∧ ∀ (i : Nat) (x : AV),xs[i]? = some x → ∃ y,ys[i]? = some y ∧ toS x = some y
 | [],ys,h => by simp only [allS,Option.some.injEq] at h; subst h; simp
 | x :: xs,ys,h => by
  simp only [allS] at h
  split at h
  ·
   rename_i y ys' h1 h2
   injection h with h
   subst h
   obtain ⟨hl,hg⟩ := allS_get h2
   refine ⟨by simp [hl],fun i c' hi => ?_⟩
   cases i with
   | zero => simp at hi; subst hi; exact ⟨y,rfl,h1⟩
   | succ i => simpa using hg i c' (by simpa using hi)
  · cases h

theorem av_loaded {ρ : Place} {φ : Foot} (h : StR w0 N ρ φ (fget F) (mget M) a w) {ty : TypeId} {x : Operand} {y : AV} {U : List Upd} (hx : stLoad P (mget M) ty (aeval N (fget F) x) = some (y,U)) :
  ∃ p v,a.eval x = .pointer (some p) ∧ (loadVar ty p).run P w = .ok v w ∧ AVR ρ (Sof w0 φ (mget M) w) w y v := by
 unfold stLoad at hx
 split at hx
 ·
  rename_i c hc
  have hv := aeval_ok h x
  rw [hc] at hv
  split at hx
  ·
   rename_i n ht
   simp only [Option.map_eq_some_iff] at hx
   obtain ⟨l,hl,hs⟩ := hx
   injection hs with e1 e2
   subst e1
   obtain ⟨b,p,vs,e,hl',hra,hcv⟩ := cellsAt_ok h hl hv
   obtain ⟨d,hu,hd,hi⟩ := tShape_row ht
   exact ⟨_,_,e,run_loadVar_mid w b p ty vs d hra hu hd (by rw [hi,hcv.1,hl']),vs,rfl,hcv⟩
  ·
   rename_i ht
   split at hx
   ·
    rename_i c' hc'
    injection hx with hs
    injection hs with e1 e2
    subst e1
    obtain ⟨b,p,vs,e,hl',hra,hcv⟩ := cellsAt_ok h hc' hv
    obtain ⟨d,hu,hd,hi⟩ := tShape_one ht
    obtain ⟨u,hvs⟩ : ∃ u,vs = [u] := by
     match vs,hcv.1 with
     | [u],_ => exact ⟨u,rfl⟩
    subst hvs
    have hcell := hra 0 u rfl
    refine ⟨_,u,e,?_,(hcv.2 0 c' u rfl rfl).1⟩
    have hagg : (isAgg ty).run P w = .ok false w := by
     unfold isAgg
     rw [Sem.run_bind,run_underlying hu w]
     cases d <;> simp_all
    simp only [loadVar,Sem.run_bind,Result.andThen_ok,hagg]
    simp [load,Sem.run,show w.cell? ⟨b,p,none⟩ = some u from hcell]
   · cases hx
  · cases hx
 · cases hx

def resOne (tmps : Array Value) : ResultVar → Sem Value
 | .tmp t => pure (tmps.getD t undef)
 | .cell a t => do loadVar t (← asAddr (tmps.getD a undef))
theorem results_eq (fn : Func) (tmps : Array Value) : results fn tmps = (do let vs ← fn.results.mapM (resOne tmps); pure (if h : vs.size = 1 then vs[0] else .tuple vs)) := by
 unfold results
 congr
theorem resOne_ok {ρ : Place} {φ : Foot} (h : StR w0 N ρ φ (fget F) (mget M) a w) {r : ResultVar} {x : AV} (hx : aRes P N F M r = some x) : ∃ v,(resOne a.tmps r).run P w = .ok v w ∧ AVR ρ (Sof w0 φ (mget M) w) w x v := by
 cases r with
 | tmp t =>
  simp only [aRes] at hx
  split at hx
  ·
   rename_i ht
   injection hx with hx
   subst hx
   have := aeval_ok h (.tmp t)
   simp only [aeval,if_pos ht] at this
   exact ⟨_,rfl,this⟩
  · cases hx
 | cell t ty =>
  simp only [aRes,Option.map_eq_some_iff] at hx
  obtain ⟨⟨y,U⟩,hy,e⟩ := hx
  subst e
  obtain ⟨p,v,e1,e2,e3⟩ := av_loaded h hy
  refine ⟨v,?_,e3⟩
  have e1' : a.tmps.getD t undef = .pointer (some p) := e1
  simp only [resOne,e1',asAddr,Sem.run_bind,Sem.run_pure,Result.andThen_ok,e2]
theorem res_list {ρ : Place} {φ : Foot} (h : StR w0 N ρ φ (fget F) (mget M) a w) : ∀ {rs : List ResultVar} {xs : List AV},rs.mapM (aRes P N F M) = some xs → ∃ vs : List Value,vs.length = xs.length ∧ (rs.mapM (resOne a.tmps)).run P w = .ok vs w ∧ ∀ (i : Nat) (x : AV) (v : Value),xs[i]? = some x → vs[i]? = some v → AVR ρ (Sof w0 φ (mget M) w) w x v
 | [],xs,hx => by
  simp only [List.mapM_nil,Option.pure_def,Option.some.injEq] at hx
  subst hx
  exact ⟨[],rfl,by simp,fun i x v h => by simp at h⟩
 | r :: rs,xs,hx => by
  simp only [List.mapM_cons,Option.bind_eq_bind,Option.bind_eq_some_iff,Option.pure_def,Option.some.injEq] at hx
  obtain ⟨y,hy,ys,hys,rfl⟩ := hx
  obtain ⟨v,hv,hav⟩ := resOne_ok h hy
  obtain ⟨vs,hl,hr,hall⟩ := res_list h hys
  refine ⟨v :: vs,by simp [hl],?_,fun i x u hx hu => ?_⟩
  · simp only [List.mapM_cons,Sem.run_bind,hv,Result.andThen_ok,hr,Sem.run_pure]
  ·
   cases i with
   | zero => simp at hx hu; subst hx hu; exact hav
   | succ i => exact hall i x u (by simpa using hx) (by simpa using hu)

def oneV : List Value → Value
 | [v] => v
 | vs => .tuple vs.toArray
theorem ret_value {fn : Func} {vs : List Value} (hr : (fn.results.toList.mapM (resOne a.tmps)).run P w = .ok vs w) : (results fn a.tmps).run P w = .ok (oneV vs) w := by
 have hmap : (fn.results.mapM (resOne a.tmps)).run P w = .ok vs.toArray w := by
  rw [show fn.results = fn.results.toList.toArray from rfl,List.mapM_toArray]
  simp only [map_eq_pure_bind,Sem.run_bind,hr,Result.andThen_ok,Sem.run_pure]
 rw [results_eq]
 simp only [Sem.run_bind,hmap,Result.andThen_ok,Sem.run_pure]
 match vs with
 | [] => rfl
 | [v] => rfl
 | _ :: _ :: _ => simp [oneV]
theorem ans_rel {ρ : Place} {S : Nat → Prop} {xs : List AV} {vs : List Value} {ans : AV} (ha : ansOf xs = some ans) (h : Rels ρ S w xs vs) : AVR ρ S w ans (oneV vs) := by
 have many : ∀ (l : List (List Cell ⊕ Cell)),allS xs = some l → AVR ρ S w (.tup l) (.tuple vs.toArray) := fun l hl => by
  obtain ⟨h1,h2⟩ := allS_get hl
  refine ⟨vs,rfl,by rw [h1,h.1],fun i z v hzi hvi => ?_⟩
  have hil : i < xs.length := by rw [← h1]; exact (List.getElem?_eq_some_iff.1 hzi).1
  obtain ⟨z',h3,h4⟩ := h2 i _ (List.getElem?_eq_getElem hil)
  rw [hzi] at h3
  injection h3 with h3
  subst h3
  have hd := h.2 i _ v (List.getElem?_eq_getElem hil) hvi
  generalize xs[i] = y at h4 hd
  cases y with
  | one c => injection h4 with h4; subst h4; exact hd
  | agg l => injection h4 with h4; subst h4; exact hd
  | tup l => cases h4
 match xs,vs,h,ha,many with
 | [],[],h,ha,many =>
  simp only [ansOf,Option.map_eq_some_iff] at ha
  obtain ⟨l,hl,rfl⟩ := ha
  exact many l hl
 | [x],[v],h,ha,many =>
  simp only [ansOf,Option.some.injEq] at ha
  subst ha
  exact h.2 0 x v rfl rfl
 | x :: y :: xs,u :: v :: vs,h,ha,many =>
  simp only [ansOf,Option.map_eq_some_iff] at ha
  obtain ⟨l,hl,rfl⟩ := ha
  exact many l hl
 | [],v :: vs,h,_,_ => simp [Rels] at h
 | x :: xs,[],h,_,_ => simp [Rels] at h
 | [x],u :: v :: vs,h,_,_ => simp [Rels] at h
 | x :: y :: xs,[v],h,_,_ => simp [Rels] at h

theorem r_ret {fn : Func} {S Φ : Nat → Prop} {P0 : Place} {wb : World} {xs : List AV} {ans : AV} {M1 : LM} (ks : List Nm) (hw : w0 = ⟨wb,S,Φ,P0⟩) (h : SL w0 N nx F M a w) (hx : fn.results.toList.mapM (aRes P N F M) = some xs) (ha : ansOf xs = some ans) (hM : mkeep M ks = M1) :
  bodyPost P fn (HPost S Φ (fun id => id.1 = 0) P0 wb ans (mget M1)) .ret a w := by
 subst hw hM
 obtain ⟨⟨ρ,φ,h1⟩,hn,hpos⟩ := h
 obtain ⟨vs,hl,hr,hall⟩ := res_list h1 hx
 have old : ∀ i o,mget (mkeep M ks) i = some o → mget M i = some o := fun i o hi => by
  rw [mget_keep] at hi
  split at hi
  · exact hi
  · cases hi
 have hS : ∀ b,Sof ⟨wb,S,Φ,P0⟩ φ (mget M) w b → Sof ⟨wb,S,Φ,P0⟩ φ (mget (mkeep M ks)) w b := fun b hb => ⟨hb.1,fun i o hi => hb.2.1 i o (old i o hi),hb.2.2⟩
 exact bodyPost_ret (ret_value hr) h1.dfr ⟨_,ρ,φ,rfl,h1.mv,(ans_rel ha ⟨hl,hall⟩).next (fun _ _ => rfl) hS (fun _ _ => rfl),fun id o hi => (h1.objs id o (old id o hi)).next (fun _ _ => rfl) hS (fun _ _ => rfl) rfl (fun _ _ => rfl) (fun _ hb => hb),
  fun id o b hi hf => ⟨h1.lt id o b (old id o hi) hf,h1.base id o b (old id o hi) hf⟩,fun id id' o o' b hi hi' => h1.disj id id' o o' b (old id o hi) (old id' o' hi'),fun id o hi h0 => h1.stab id o h0 (old id o hi)⟩
theorem r_retD {fn : Func} {S Φ : Nat → Prop} {P0 : Place} {wb : World} {xs ys : List AV} {ans : AV} (hw : w0 = ⟨wb,S,Φ,P0⟩) (h : SL w0 N nx F M a w) (hx : fn.results.toList.mapM (aRes P N F M) = some xs) (hy : frzAVs (mget M) xs = some ys) (ha : ansOf ys = some ans) :
  bodyPost P fn (HPost S Φ (fun id => id.1 = 0) P0 wb ans (mget [])) .ret a w := by
 subst hw
 obtain ⟨⟨ρ,φ,h1⟩,hn,hpos⟩ := h
 obtain ⟨vs,hl,hr,hall⟩ := res_list h1 hx
 obtain ⟨hyl,hyg⟩ := frzAVs_get hy
 have hS : ∀ b,Sof ⟨wb,S,Φ,P0⟩ φ (mget M) w b → Sof ⟨wb,S,Φ,P0⟩ φ (mget []) w b := fun b hb => ⟨hb.1,fun i o hi => by simp [mget] at hi,hb.2.2⟩
 refine bodyPost_ret (ret_value hr) h1.dfr ⟨_,ρ,φ,rfl,h1.mv,ans_rel ha ⟨by rw [hl,hyl],fun i y v hyi hvi => ?_⟩,fun id o hi => by simp [mget] at hi,fun id o b hi => by simp [mget] at hi,fun id id' o o' b hi => by simp [mget] at hi,fun id o hi => by simp [mget] at hi⟩
 have hil : i < xs.length := by rw [← hyl]; exact (List.getElem?_eq_some_iff.1 hyi).1
 obtain ⟨y',h3,h4⟩ := hyg i _ (List.getElem?_eq_getElem hil)
 rw [hyi] at h3
 injection h3 with h3
 subst h3
 exact frzAV_ok h1 h4 (hall i _ v (List.getElem?_eq_getElem hil) hvi) hS fun id o b hid hm hf => ⟨h1.lt id o b hm hf,fun i o hi => by simp [mget] at hi,by rcases h1.base id o b hm hf with h5 | h5; exact .inr (.inl h5); exact .inr (.inr h5)⟩

def shutB (ans : AV) (M1 : LM) : Bool := (ans.ids.all fun id => (mget M1 id).isSome) && M1.all fun u => match u.2 with
 | some o => o.ids.all fun id => (mget M1 id).isSome
 | none => true
def zeroB (args : List AV) (M0 : LM) : Bool := (args.all fun x => x.ids.all fun id => Nat.beq id.1 0) && (uIds M0).all fun k => Nat.beq k 0
theorem mget_uIds : ∀ {M : LM} {i : Nm} {o : AObj},mget M i = some o → i.1 ∈ uIds M ∧ ∀ id ∈ o.ids,id.1 ∈ uIds M
 | [],_,_,h => by simp [mget] at h
 | (j,x) :: M,i,o,h => by
  have sub : ∀ k,k ∈ uIds M → k ∈ uIds ((j,x) :: M) := fun k hk => by cases x <;> simp [uIds,hk]
  simp only [mget,mput,mset] at h
  by_cases e : i = j
  ·
   rw [if_pos e] at h
   rw [e,h]
   refine ⟨by simp [uIds],fun id hid => ?_⟩
   simp only [uIds,List.mem_cons,List.mem_append,List.mem_map]
   exact .inr (.inl ⟨id,hid,rfl⟩)
  ·
   rw [if_neg e] at h
   have := mget_uIds h
   exact ⟨sub _ this.1,fun id hid => sub _ (this.2 id hid)⟩
theorem r_call {g : FuncId} {fn : Func} {c : Code} {args : List AV} {ans : AV} {M0 M1 : LM} (hf : P.funcs[g]? = some fn) (hb : fn.body = some c) {N : Nat} (hn : fn.ntmps = N) (hB : hasBody P g = true) (hz : zeroB args M0 = true) (hs : shutB ans M1 = true) (hN : args.length ≤ N)
  (h : ∀ (S Φ : Nat → Prop) (P0 : Place) (w : World) (a : Act),SL ⟨w,S,Φ,P0⟩ N 1 (argF 0 args) M0 a w → c.wp P (bodyPost P fn (HPost S Φ (fun id => id.1 = 0) P0 w ans (mget M1))) a w) : CallH P g args M0 ans M1 := by
 subst hn
 simp only [shutB,Bool.and_eq_true,List.all_eq_true] at hs
 simp only [zeroB,Bool.and_eq_true,List.all_eq_true] at hz
 have some_ne : ∀ {id : Nm},(mget M1 id).isSome = true → mget M1 id ≠ none := fun {id} h e => by rw [e] at h; cases h
 refine ⟨hB,⟨fun id hid => some_ne (hs.1 id hid),fun i o hi id hid => some_ne ?_⟩,fun S Φ ρ φ w vs hS hΦ hl hv hobj hfoot hdisj => ?_⟩
 ·
  have := hs.2 _ (mget_mem hi)
  simp only [List.all_eq_true] at this
  exact this id hid
 ·
  have z0 : ∀ id,mget M0 id ≠ none → id.1 = 0 := fun id hid => by
   cases e : mget M0 id with
   | none => exact absurd e hid
   | some o => exact Nat.eq_of_beq_eq_true (hz.2 _ (mget_uIds e).1)
  have hS' : ∀ b,S b → Sof ⟨w,S,Φ,ρ⟩ φ (mget M0) w b := fun b hb => ⟨(hS b hb).1,fun id o hi hf => (hS b hb).2 (hfoot id o b hi hf),.inl hb⟩
  refine (calls_of_wp hf hb (h S Φ ρ w _ ⟨⟨ρ,φ,Mv.refl _ w,rfl,?_,fun t v ht => ?_,fun id o hi => (hobj id o hi).next (fun _ _ => rfl) hS' (fun _ _ => rfl) rfl (fun _ _ => rfl) (fun _ hb => hb),fun id o b hi hf => hΦ b (hfoot id o b hi hf),fun id o b hi hf => .inl (hfoot id o b hi hf),fun id id' o o' b => hdisj id id' o o' b,fun id o _ _ => rfl⟩,⟨fun t id hid => ?_,fun i o hi => ?_⟩,Nat.one_pos⟩)).mono fun e w' ⟨v,ρ',φ',h1,h2,h3,h4,h5,h6,h7⟩ => ⟨v,ρ',φ',h1,h2,h3,h4,h5,h6,fun id o hi hI => h7 id o hi (z0 id hI)⟩
  ·
   simp [hl]
   omega
  ·
   rw [argF_get,if_pos (Nat.zero_le _),Nat.sub_zero]
   by_cases ht' : t < args.length
   ·
    have e1 := List.getElem?_eq_getElem ht'
    rw [e1]
    have hvt : vs[t]? = some v := by
     simp only [Array.getElem?_append] at ht
     rw [if_pos (by simpa [hl] using ht')] at ht
     simpa using ht
    exact AVR.next (hv t _ v e1 hvt) (fun _ _ => rfl) hS' (fun _ _ => rfl)
   ·
    rw [List.getElem?_eq_none (by omega)]
    trivial
  ·
   simp only [] at hid
   rw [argF_get,if_pos (Nat.zero_le _),Nat.sub_zero] at hid
   cases e : args[t]? with
   | none => rw [e] at hid; cases hid
   | some x =>
    rw [e] at hid
    have := hz.1 x (List.mem_of_getElem? e) id hid
    rw [Nat.eq_of_beq_eq_true this]
    exact Nat.one_pos
  ·
   have h0 := mget_uIds (M := M0) hi
   refine ⟨?_,fun id hid => ?_⟩
   · rw [Nat.eq_of_beq_eq_true (hz.2 _ h0.1)]; exact Nat.one_pos
   · rw [Nat.eq_of_beq_eq_true (hz.2 _ (h0.2 id hid))]; exact Nat.one_pos
end
def okN (nx : Nat) (F : LF) (M : LM) : Bool := Nat.blt 0 nx && F.all (fun p => (p.2.ids.map (·.1)).all fun id => Nat.blt id nx) && (uIds M).all fun id => Nat.blt id nx
theorem fget_ids {F : LF} {t : Nat} {id : Nm} : id ∈ (fget F t).ids → ∃ p ∈ F,id ∈ p.2.ids := by
 induction F with
 | nil => intro h; simp [fget,AV.ids,Cell.ids] at h
 | cons q F ih =>
  obtain ⟨k,v⟩ := q
  intro h
  simp only [fget] at h
  split at h
  · exact ⟨(k,v),by simp,h⟩
  ·
   obtain ⟨p,hp,hi⟩ := ih h
   exact ⟨p,List.mem_cons_of_mem _ hp,hi⟩
section
variable {P : Program} {w0 : Bas} {N nx : Nat} {F F' : LF} {M M' : LM} {a : Act} {w : World} {Q : Exit → Act → World → Prop}
theorem names_ok {nx : Nat} (e : okN nx F M = true) : Names (· < nx) (fget F,mget M) ∧ 0 < nx := by
 simp only [okN,Bool.and_eq_true,List.all_eq_true] at e
 refine ⟨⟨fun t id hid => ?_,fun i o ho => ?_⟩,by have := e.1.1; rwa [Nat.blt_eq] at this⟩
 ·
  obtain ⟨p,hp,hi⟩ := fget_ids hid
  have := e.1.2 p hp id.1 (List.mem_map.2 ⟨id,hi,rfl⟩)
  rw [Nat.blt_eq] at this
  exact this
 ·
  have h1 := mget_uIds (M := M) ho
  have key : ∀ k,k ∈ uIds M → k < nx := fun k hk => by
   have := e.2 k hk
   rw [Nat.blt_eq] at this
   exact this
  exact ⟨key _ h1.1,fun id hid => key _ (h1.2 id hid)⟩
theorem SL.count (h : SL w0 N nx F M a w) (nx' : Nat) (e : okN nx' F M = true) : SL w0 N nx' F M a w := ⟨h.st,(names_ok e).1,(names_ok e).2⟩
theorem r_while {c : Code} (J : Nat → Act → World → Prop) (n : Nat) (h0 : J n a w) (round : ∀ n a w,J n a w → c.wp P (Exit.then (fun a w => ∃ n',n' < n ∧ J n' a w) Q) a w) : (Code.loop c).wp P Q a w := by
 have mono : ∀ (K K' : Act → World → Prop),(∀ a w,K a w → K' a w) → ∀ e a w,Exit.then K Q e a w → Exit.then K' Q e a w := fun K K' hk e a w he => by
  cases e <;> first | exact hk a w he | exact he
 have key : ∀ m n a w,n < m → J n a w → Code.rounds P c Q m a w := by
  intro m
  induction m with
  | zero => intro n a w h; omega
  | succ m ih =>
   intro n a w hn hJ
   exact Code.wp_mono (mono _ _ fun a w ⟨n',h1,h2⟩ => ih n' a w (by omega) h2) (round n a w hJ)
 exact wp_loop_rounds (n + 1) (key (n + 1) n a w (by omega) h0)
end
def Cell.ren (σ : Nm → Nm) : Cell → Cell
 | .ptr id o => .ptr (σ id) o
 | .eptr id s i j => .eptr (σ id) s i j
 | .own id n => .own (σ id) n
 | .sub id s o n => .sub (σ id) s o n
 | .fnp g caps => .fnp g (caps.map fun p => (σ p.1,p.2))
 | .mp id => .mp (σ id)
 | c => c
def sumRen (σ : Nm → Nm) : List Cell ⊕ Cell → List Cell ⊕ Cell
 | .inl l => .inl (l.map (Cell.ren σ))
 | .inr c => .inr (c.ren σ)
def AV.ren (σ : Nm → Nm) : AV → AV
 | .one c => .one (c.ren σ)
 | .agg l => .agg (l.map (Cell.ren σ))
 | .tup l => .tup (l.map (sumRen σ))
def AObj.ren (σ : Nm → Nm) : AObj → AObj
 | .box ty l => .box ty (l.map (Cell.ren σ))
 | .row ty sz l => .row ty sz (l.map fun r => r.map (Cell.ren σ))
 | .map kt et ag n l => .map kt et ag n l


section
variable {w0 : Bas} {N : Nat} {ρ ρ' : Place} {φ φ' : Foot} {S S' : Nat → Prop} {f f' : Nat → AV} {m m' : Nm → Option AObj} {a : Act} {w : World} {σ : Nm → Nm}
theorem CV.ren {c : Cell} {v : Value} (h : CV ρ S w c v) (hS : ∀ b,S b → S' b) (hρ : ∀ id ∈ c.ids,ρ' (σ id) = ρ id) : CV ρ' S' w (c.ren σ) v := by
 cases c with
 | d c => exact View.keep h (fun _ _ => rfl) hS
 | tr T c => trivial
 | ptr id off => exact let ⟨b,c,hr,hv⟩ := h; ⟨b,c,(hρ id (by simp [Cell.ids])).trans hr,hv⟩
 | eptr id sz i j => exact let ⟨b,x,c,hr,hv⟩ := h; ⟨b,x,c,(hρ id (by simp [Cell.ids])).trans hr,hv⟩
 | own id n =>
  have e := hρ id (by simp [Cell.ids])
  rcases h with ⟨b,x,c,hr,hv⟩ | ⟨hr,hv⟩
  · exact .inl ⟨b,x,c,e.trans hr,hv⟩
  · exact .inr ⟨e.trans hr,hv⟩
 | sub id sz off n =>
  have e := hρ id (by simp [Cell.ids])
  rcases h with ⟨b,x,c,A,hr,hv⟩ | ⟨hr,hv⟩
  · exact .inl ⟨b,x,c,A,e.trans hr,hv⟩
  · exact .inr ⟨e.trans hr,hv⟩
 | fnp g caps =>
  obtain ⟨vs,hv,hl,hc⟩ := h
  refine ⟨vs,hv,by rw [List.length_map]; exact hl,fun i p x hp hx => ?_⟩
  rw [List.getElem?_map] at hp
  obtain ⟨p0,hp0,rfl⟩ := Option.map_eq_some_iff.1 hp
  obtain ⟨b,q,hr,hx'⟩ := hc i p0 x hp0 hx
  exact ⟨b,q,(hρ p0.1 (List.mem_map.2 ⟨p0,List.mem_of_getElem? hp0,rfl⟩)).trans hr,hx'⟩
 | mp id => exact let ⟨b,q,hr,hv⟩ := h; ⟨b,q,(hρ id (by simp [Cell.ids])).trans hr,hv⟩
 | bb e n => exact h
 | nil => exact h
 | any => trivial
theorem CVs.ren {l : List Cell} {vs : List Value} (h : CVs ρ S w l vs) (hS : ∀ b,S b → S' b) (hρ : ∀ id ∈ l.flatMap Cell.ids,ρ' (σ id) = ρ id) : CVs ρ' S' w (l.map (Cell.ren σ)) vs :=
 ⟨by rw [List.length_map]; exact h.1,fun i c v hc hv => by
  rw [List.getElem?_map] at hc
  obtain ⟨c0,hc0,rfl⟩ := Option.map_eq_some_iff.1 hc
  exact ⟨(h.2 i c0 v hc0 hv).1.ren hS fun id hid => hρ id (List.mem_flatMap.2 ⟨c0,List.mem_of_getElem? hc0,hid⟩),(h.2 i c0 v hc0 hv).2⟩⟩
theorem SV.ren {x : List Cell ⊕ Cell} {v : Value} (h : SV ρ S w x v) (hS : ∀ b,S b → S' b) (hρ : ∀ id ∈ sumIds x,ρ' (σ id) = ρ id) : SV ρ' S' w (sumRen σ x) v := by
 cases x with
 | inl l => exact let ⟨vs,hv,hc⟩ := h; ⟨vs,hv,hc.ren hS hρ⟩
 | inr c => exact CV.ren h hS hρ
theorem AVR.ren {x : AV} {v : Value} (h : AVR ρ S w x v) (hS : ∀ b,S b → S' b) (hρ : ∀ id ∈ x.ids,ρ' (σ id) = ρ id) : AVR ρ' S' w (x.ren σ) v := by
 cases x with
 | one c => exact CV.ren h hS hρ
 | agg l => exact let ⟨vs,hv,hc⟩ := h; ⟨vs,hv,hc.ren hS hρ⟩
 | tup l =>
  obtain ⟨vs,hv,hl,hc⟩ := h
  refine ⟨vs,hv,by rw [List.length_map]; exact hl,fun i x v hx hv => ?_⟩
  rw [List.getElem?_map] at hx
  obtain ⟨x0,hx0,rfl⟩ := Option.map_eq_some_iff.1 hx
  exact (hc i x0 v hx0 hv).ren hS fun id hid => hρ id (List.mem_flatMap.2 ⟨x0,List.mem_of_getElem? hx0,hid⟩)
theorem OR.ren {id : Nm} {o : AObj} (h : OR ρ φ S w id o) (hS : ∀ b,S b → S' b) (hρ : ∀ i ∈ o.ids,ρ' (σ i) = ρ i) (hid : ρ' (σ id) = ρ id) (hφ : ∀ b,φ id b → φ' (σ id) b) : OR ρ' φ' S' w (σ id) (o.ren σ) := by
 cases o with
 | box ty l => exact let ⟨b,cur,hr,hf,hh,hc⟩ := h; ⟨b,cur,hid.trans hr,hφ b hf,hh,hc.ren hS hρ⟩
 | row ty sz l =>
  refine ⟨by rw [List.length_map]; exact h.1,?_⟩
  rcases h.2 with ⟨hr,hl⟩ | ⟨b,base,cap,hr,cur,G,h0,h1,h2,h3,h4,h5,h6⟩
  · exact .inl ⟨hid.trans hr,by rw [hl]; rfl⟩
  ·
   refine .inr ⟨b,base,cap,hid.trans hr,cur,G,hφ b h0,h1,by rw [List.length_map]; exact h2,h3,fun i r hi => ?_,fun i j x hx => ⟨hφ x (h5 i j x hx).1,(h5 i j x hx).2⟩,h6⟩
   rw [List.getElem?_map] at hi
   obtain ⟨r0,hr0,rfl⟩ := Option.map_eq_some_iff.1 hi
   refine ⟨by rw [List.length_map]; exact (h4 i r0 hr0).1,fun j d hd => ?_⟩
   rw [List.getElem?_map] at hd
   obtain ⟨d0,hd0,rfl⟩ := Option.map_eq_some_iff.1 hd
   obtain ⟨v,hv,ho,hcv,ht⟩ := (h4 i r0 hr0).2 j d0 hd0
   refine ⟨v,hv,ho,hcv.ren hS fun id hid => hρ id (List.mem_flatMap.2 ⟨r0,List.mem_of_getElem? hr0,List.mem_flatMap.2 ⟨d0,List.mem_of_getElem? hd0,hid⟩⟩),fun T c e => ?_⟩
   cases d0 <;> simp [Cell.ren] at e
   exact ht _ _ (by rw [e.1,e.2])
 | map kt et ag n l => exact let ⟨b,es,hr,hf,hh,hm⟩ := h; ⟨b,es,hid.trans hr,hφ b hf,hh,hm.next (fun _ _ => rfl) hS⟩
theorem StR.ren (h : StR w0 N ρ φ f m a w) (τ : Nm → Nm) (hτ : ∀ id,τ (σ id) = id) (h0 : ∀ id,id.1 = 0 → σ id = id) (hf : ∀ t,f' t = (f t).ren σ) (hm : ∀ id o',m' id = some o' → ∃ i o,m i = some o ∧ σ i = id ∧ o.ren σ = o') :
  StR w0 N (fun id => ρ (τ id)) (fun id => φ (τ id)) f' m' a w := by
 have hρ : ∀ id,(fun id => ρ (τ id)) (σ id) = ρ id := fun id => by simp only [hτ]
 have hS : ∀ b,Sof w0 φ m w b → Sof w0 (fun id => φ (τ id)) m' w b := fun b hb => ⟨hb.1,fun id o hi hr => by
  obtain ⟨i,o0,h1,h2,h3⟩ := hm id o hi
  subst h2
  simp only [hτ] at hr
  exact hb.2.1 i o0 h1 hr,hb.2.2⟩
 refine ⟨h.mv,h.dfr,h.size,fun t v ht => ?_,fun id o hi => ?_,fun id o b hi hr => ?_,fun id o b hi hr => ?_,fun id id' o o' b hi hi' hr hr' => ?_,fun id o hz hi => ?_⟩
 ·
  rw [hf]
  exact (h.regs t v ht).ren hS fun id _ => hρ id
 ·
  obtain ⟨i,o0,h1,h2,h3⟩ := hm id o hi
  subst h2 h3
  exact (h.objs i o0 h1).ren hS (fun id _ => hρ id) (hρ i) fun b hb => by simp only [hτ]; exact hb
 ·
  obtain ⟨i,o0,h1,h2,h3⟩ := hm id o hi
  subst h2
  simp only [hτ] at hr
  exact h.lt i o0 b h1 hr
 ·
  obtain ⟨i,o0,h1,h2,h3⟩ := hm id o hi
  subst h2
  simp only [hτ] at hr
  exact h.base i o0 b h1 hr
 ·
  obtain ⟨i,o0,h1,h2,h3⟩ := hm id o hi
  obtain ⟨i',o1,h4,h5,h6⟩ := hm id' o' hi'
  subst h2 h5
  simp only [hτ] at hr hr'
  rw [h.disj i i' o0 o1 b h1 h4 hr hr']
 ·
  obtain ⟨i,o0,h1,h2,h3⟩ := hm id o hi
  have e : i = id := by
   have h4 := hτ i
   rw [h2] at h4
   have h5 := hτ id
   rw [h0 id hz] at h5
   exact h4.symm.trans h5
  subst e
  have e2 := h0 i hz
  have : τ i = i := by
   have h5 := hτ i
   rwa [e2] at h5
  simp only [this]
  exact h.stab i o0 hz h1
end
def swp (x y : Nm) (id : Nm) : Nm := if id = x then y else if id = y then x else id
theorem swp_swp (x y id : Nm) : swp x y (swp x y id) = id := by
 unfold swp
 by_cases h1 : id = x
 ·
  subst h1
  rw [if_pos rfl]
  by_cases h2 : y = id
  · rw [if_pos h2]; exact h2
  · rw [if_neg h2,if_pos rfl]
 ·
  rw [if_neg h1]
  by_cases h2 : id = y
  ·
   subst h2
   rw [if_pos rfl,if_pos rfl]
  · rw [if_neg h2,if_neg h1,if_neg h2]
theorem swp_inj {x y a b : Nm} (h : swp x y a = swp x y b) : a = b := by
 rw [← swp_swp x y a,h,swp_swp]

def Upd.ren (σ : Nm → Nm) (u : Upd) : Upd := (σ u.1,u.2.map (AObj.ren σ))
def fren (σ : Nm → Nm) (F : LF) : LF := F.map fun p => (p.1,p.2.ren σ)
def mren (σ : Nm → Nm) (M : LM) : LM := M.map (Upd.ren σ)
theorem fget_ren (σ : Nm → Nm) (t : Nat) : ∀ (F : LF),fget (fren σ F) t = (fget F t).ren σ
 | [] => rfl
 | (k,v) :: F => by
  have ih := fget_ren σ t F
  simp only [fren] at ih
  simp only [fren,List.map_cons,fget,ih]
  split <;> rfl
theorem mget_ren {σ : Nm → Nm} (hσ : ∀ a b,σ a = σ b → a = b) (i : Nm) : ∀ (M : LM),mget (mren σ M) (σ i) = (mget M i).map (AObj.ren σ)
 | [] => rfl
 | (id,o) :: M => by
  have ih := mget_ren hσ i M
  simp only [mren] at ih
  simp only [mren,List.map_cons,mget,Upd.ren,mput,mset]
  by_cases e : i = id
  · rw [if_pos e,if_pos (by rw [e])]
  · rw [if_neg e,if_neg (fun e' => e (hσ _ _ e')),ih]
section
variable {w0 : Bas} {N nx : Nat} {F F' : LF} {M M' : LM} {a : Act} {w : World}
theorem SL.swap (h : SL w0 N nx F M a w) (x y : Nm) (nx' : Nat) (hx : x.1 ≠ 0) (hy : y.1 ≠ 0) (eF : fren (swp x y) F = F') (eM : mren (swp x y) M = M') (e : okN nx' F' M' = true) : SL w0 N nx' F' M' a w := by
 obtain ⟨⟨ρ,φ,hst⟩,hn,hp⟩ := h
 have hg := fun i => mget_ren (σ := swp x y) (fun a b h => swp_inj h) i M
 refine ⟨⟨_,_,hst.ren (σ := swp x y) (swp x y) (swp_swp x y) (fun id h0 => ?_) (fun t => by rw [← eF,fget_ren]) fun id o' hi => ?_⟩,(names_ok e).1,(names_ok e).2⟩
 ·
  unfold swp
  rw [if_neg (fun e => hx (by rw [← e]; exact h0)),if_neg (fun e => hy (by rw [← e]; exact h0))]
 ·
  have := hg (swp x y id)
  rw [swp_swp,eM,hi] at this
  obtain ⟨o,ho,he⟩ := Option.map_eq_some_iff.1 this.symm
  exact ⟨swp x y id,o,ho,swp_swp x y id,he⟩
end
def Cell.scB : C → Bool
 | .int _ _ => true
 | .bool _ => true
 | .str _ => true
 | _ => false
def cellOf : TD → C → Cell
 | .sc,c => .d c
 | T,c => .tr T c
def cellsOf (cols : Nat → TD) : Nat → List C → List Cell
 | _,[] => []
 | j,c :: r => cellOf (cols j) c :: cellsOf cols (j + 1) r
def openRows (cols : Nat → TD) (L : List (List C)) : List (List Cell) := L.map (cellsOf cols 0)
theorem cellsOf_length (cols : Nat → TD) : ∀ (r : List C) (j : Nat),(cellsOf cols j r).length = r.length
 | [],_ => rfl
 | _ :: r,j => by simp [cellsOf,cellsOf_length cols r]
theorem cellsOf_get (cols : Nat → TD) : ∀ (r : List C) (k j : Nat),(cellsOf cols k r)[j]? = (r[j]?).map (cellOf (cols (k + j)))
 | [],_,j => by simp [cellsOf]
 | c :: r,k,0 => by simp [cellsOf]
 | c :: r,k,j + 1 => by
  simp only [cellsOf,List.getElem?_cons_succ]
  rw [cellsOf_get cols r (k + 1) j,show k + 1 + j = k + (j + 1) by omega]
theorem openRows_get {cols : Nat → TD} {L : List (List C)} {i : Nat} {r : List Cell} (h : (openRows cols L)[i]? = some r) : ∃ r0,L[i]? = some r0 ∧ r.length = r0.length ∧ ∀ j,r[j]? = (r0[j]?).map (cellOf (cols j)) := by
 simp only [openRows,List.getElem?_map,Option.map_eq_some_iff] at h
 obtain ⟨r0,h0,rfl⟩ := h
 exact ⟨r0,h0,cellsOf_length _ _ _,fun j => by rw [cellsOf_get,Nat.zero_add]⟩
theorem cellOf_ids (T : TD) (c : C) : (cellOf T c).ids = [] := by cases T <;> rfl
theorem openRows_ids (cols : Nat → TD) (L : List (List C)) : (openRows cols L).flatMap (fun r => r.flatMap Cell.ids) = [] := by
 refine List.flatMap_eq_nil_iff.2 fun r hr => List.flatMap_eq_nil_iff.2 fun c hc => ?_
 obtain ⟨i,hi⟩ := List.mem_iff_getElem?.1 hr
 obtain ⟨r0,_,_,h3⟩ := openRows_get hi
 obtain ⟨j,hj⟩ := List.mem_iff_getElem?.1 hc
 rw [h3] at hj
 obtain ⟨c0,_,rfl⟩ := Option.map_eq_some_iff.1 hj
 exact cellOf_ids _ _

section
variable {w0 : Bas} {N : Nat} {ρ : Place} {φ : Foot} {f f' : Nat → AV} {m m' : Nm → Option AObj} {a : Act} {w : World}

theorem tree_sc {c : C} {v : Value} {F S : Nat → Prop} (h : Tree w .sc c v F) : View S w c v := by
 cases h with
 | int k n => exact .int k n
 | bool b => exact .bool b
 | str s => exact .str s
theorem StR.open_ (h : StR w0 N ρ φ f m a w) {id new : Nm} {e sz e' sz' i j : Nat} {cols : Nat → TD} {l : List (List Cell)} {r : List Cell} {L : List (List C)} (hm : m id = some (.row e sz l)) (hi : l[i]? = some r) (hj : r[j]? = some (.tr (.sl e' sz' cols) (.sl L))) (hfr : Fresh f m new) :
  ∃ ρ' φ',StR w0 N ρ' φ' f (mset (mset m id (some (.row e sz (l.set i (r.set j (.own new L.length)))))) new (some (.row e' sz' (openRows cols L)))) a w := by
 have hne : id ≠ new := fun e => by have := hfr.hn; rw [← e,hm] at this; cases this
 have hrow := h.objs id _ hm
 have hil : i < l.length := (List.getElem?_eq_some_iff.1 hi).1
 have hjl : j < r.length := (List.getElem?_eq_some_iff.1 hj).1
 rcases hrow.2 with ⟨_,h0⟩ | ⟨b,base,cap,hr,cur,G,hfb,hh,hlc,hcs,hcell,hG,hd⟩
 · rw [h0] at hi; simp at hi
 obtain ⟨v,hv,ho,hcv,ht⟩ := (hcell i r hi).2 j _ hj
 have htree := ht _ _ rfl
 -- where the slice lies
 obtain ⟨pl,Fn,hFn,hnew,hcvn⟩ : ∃ (pl : Option (Nat × Nat × Nat)) (Fn : Nat → Prop),(∀ x,Fn x → G i j x) ∧
   (∀ ρ' S,ρ' new = pl → (openRows cols L).length ≤ 140737488355328 ∧ ((ρ' new = none ∧ openRows cols L = []) ∨ ∃ b base cap,ρ' new = some (b,base,cap) ∧ RowR ρ' S w Fn e' sz' (openRows cols L) b base cap)) ∧ (∀ ρ' S,ρ' new = pl → CV ρ' S w (.own new L.length) v) := by
  cases htree with
  | nil _ _ _ A F => exact ⟨none,fun _ => False,fun _ h => h.elim,fun ρ' S hp => ⟨by simp [openRows],.inl ⟨hp,rfl⟩⟩,fun ρ' S hp => .inr ⟨hp,rfl,A,rfl⟩⟩
  | sl _ _ _ _ b' base' cap' cur' u G' F hh' hF hc hb hz hl hu ht' hG' hd' =>
   refine ⟨some (b',base',cap'),G i j,fun _ h => h,fun ρ' S hp => ⟨by simpa [openRows] using hb,.inr ⟨b',base',cap',hp,cur',G',hF,hh',by simpa [openRows] using hc,hz,fun i1 r1 hi1 => ?_,hG',hd'⟩⟩,fun ρ' S hp => .inl ⟨b',base',cap',hp,rfl⟩⟩
   obtain ⟨r0,h1,h2,h3⟩ := openRows_get hi1
   refine ⟨by rw [h2]; exact hl i1 r0 h1,fun j1 d hj1 => ?_⟩
   rw [h3] at hj1
   obtain ⟨c0,hc0,rfl⟩ := Option.map_eq_some_iff.1 hj1
   have htr := ht' i1 r0 j1 c0 h1 hc0
   refine ⟨_,hu i1 r0 j1 c0 h1 hc0,htr.one,?_,fun T c ee => ?_⟩
   ·
    cases hT : cols j1 with
    | sc => rw [hT] at htr; exact tree_sc htr
    | sl a1 a2 a3 => trivial
   ·
    cases hT : cols j1 with
    | sc => rw [hT] at ee; cases ee
    | sl a1 a2 a3 =>
     rw [hT] at ee htr
     injection ee with e1 e2
     rw [← e1,← e2]
     exact htr
 refine ⟨pset ρ new pl,fun k => if k = new then Fn else if k = id then (fun x => φ id x ∧ ¬ Fn x) else φ k,?_⟩
 have hms : ∀ k o',(k = id ∨ k = new) → mset (mset m id (some (.row e sz (l.set i (r.set j (.own new L.length)))))) new (some (.row e' sz' (openRows cols L))) k = some o' → (k = new ∧ o' = .row e' sz' (openRows cols L)) ∨ (k = id ∧ o' = .row e sz (l.set i (r.set j (.own new L.length)))) := fun k o' hk hi => by
  simp only [mset] at hi
  by_cases e1 : k = new
  · rw [if_pos e1] at hi; injection hi with hi; exact .inl ⟨e1,hi.symm⟩
  · rw [if_neg e1,if_pos (hk.resolve_right e1)] at hi; injection hi with hi; exact .inr ⟨hk.resolve_right e1,hi.symm⟩
 have hold : ∀ k o',¬ (k = id ∨ k = new) → mset (mset m id (some (.row e sz (l.set i (r.set j (.own new L.length)))))) new (some (.row e' sz' (openRows cols L))) k = some o' → m k = some o' := fun k o' hk hi => by
  simp only [mset,if_neg (fun e => hk (.inr e)),if_neg (fun e => hk (.inl e))] at hi
  exact hi
 refine (h.step (w' := w) (ρ' := pset ρ new pl) (φ' := fun k => if k = new then Fn else if k = id then (fun x => φ id x ∧ ¬ Fn x) else φ k) (fun k => k = id ∨ k = new) (Mv.refl _ w) hold (fun k o' hk hi x => ?_) (fun k o' hk hi => ⟨if_neg fun e => hk (.inr e),fun q hq => if_neg fun (e : q = new) => hfr.hm k o' (hold k o' hk hi) (e ▸ hq)⟩) (fun t q hq => if_neg fun (e : q = new) => hfr.hf t (e ▸ hq)) (fun k o' x hk hi hx => .inr ⟨id,_,.inl rfl,hm,?_⟩) (fun k k' o1 o2 x hk hk' hi1 hi2 hx hx' => ?_) (fun k o' hk h0 hi => ?_) fun hS k o' hk hi1 => ?_).1
 · simp only [if_neg (fun e => hk (.inr e)),if_neg (fun e => hk (.inl e))]
 ·
  rcases hms k o' hk hi with ⟨rfl,_⟩ | ⟨rfl,_⟩
  ·
   simp only [if_true] at hx
   exact (hG i j x (hFn x hx)).1
  ·
   simp only [if_neg hne,if_true] at hx
   exact hx.1
 ·
  rcases hms k o1 hk hi1 with ⟨rfl,_⟩ | ⟨rfl,_⟩ <;> rcases hms k' o2 hk' hi2 with ⟨rfl,_⟩ | ⟨rfl,_⟩
  · rfl
  ·
   simp only [if_true] at hx
   simp only [if_neg hne,if_true] at hx'
   exact absurd hx hx'.2
  ·
   simp only [if_true] at hx'
   simp only [if_neg hne,if_true] at hx
   exact absurd hx' hx.2
  · rfl
 ·
  rcases hms k o' hk hi with ⟨rfl,_⟩ | ⟨rfl,_⟩
  · exact absurd h0 hfr.h0
  · exact ⟨_,hm,if_neg hne⟩
 ·
  rcases hms k o' hk hi1 with ⟨rfl,rfl⟩ | ⟨rfl,rfl⟩
  ·
   have := hnew (pset ρ k pl) (Sof w0 (fun q => if q = k then Fn else if q = id then (fun x => φ id x ∧ ¬ Fn x) else φ q) (mset (mset m id (some (.row e sz (l.set i (r.set j (.own k L.length)))))) k (some (.row e' sz' (openRows cols L)))) w) (if_pos rfl)
   simp only [OR,if_true]
   exact this
  ·
   refine ⟨by simpa using hrow.1,.inr ⟨b,base,cap,by rw [show pset ρ new pl k = ρ k from if_neg hne]; exact hr,cur,fun i1 j1 x => G i1 j1 x ∧ ¬ (i1 = i ∧ j1 = j),?_,hh,by simpa using hlc,hcs,fun i1 r1 hi2 => ?_,fun i1 j1 x hx => ?_,fun i1 j1 i2 j2 x hx hx' => hd _ _ _ _ x hx.1 hx'.1⟩⟩
   ·
    simp only [if_neg hne,if_true]
    exact ⟨hfb,fun hx => (hG i j b (hFn b hx)).2 rfl⟩
   ·
    have hk0 : ∀ p : Addr,Sof w0 φ m w p.block → w.cell? p = w.cell? p := fun _ _ => rfl
    have oldc : ∀ (i1 j1 : Nat) (r0 : List Cell) (d : Cell),l[i1]? = some r0 → r0[j1]? = some d → ¬ (i1 = i ∧ j1 = j) → ∃ v,cur[base + i1 * sz + j1]? = some v ∧ RC (pset ρ new pl) (Sof w0 (fun q => if q = new then Fn else if q = k then (fun x => φ k x ∧ ¬ Fn x) else φ q) (mset (mset m k (some (.row e sz (l.set i (r.set j (.own new L.length)))))) new (some (.row e' sz' (openRows cols L)))) w) w (fun x => G i1 j1 x ∧ ¬ (i1 = i ∧ j1 = j)) d v := fun i1 j1 r0 d h1 h2 h3 => by
     obtain ⟨v',hv',hrc⟩ := (hcell i1 r0 h1).2 j1 d h2
     exact ⟨v',hv',hrc.next (fun _ _ => rfl) hS (fun q hq => if_neg fun (e9 : q = new) => hfr.hm k _ hm (e9 ▸ List.mem_flatMap.2 ⟨r0,List.mem_of_getElem? h1,List.mem_flatMap.2 ⟨d,List.mem_of_getElem? h2,hq⟩⟩)) (fun _ _ => rfl) fun x hx => ⟨hx,h3⟩⟩
    rw [List.getElem?_set] at hi2
    by_cases e1 : i = i1
    ·
     subst e1
     rw [if_pos rfl,if_pos hil] at hi2
     injection hi2 with hi2
     subst hi2
     refine ⟨by rw [List.length_set]; exact (hcell i r hi).1,fun j1 d hj1 => ?_⟩
     rw [List.getElem?_set] at hj1
     by_cases e2 : j = j1
     ·
      subst e2
      rw [if_pos rfl,if_pos hjl] at hj1
      injection hj1 with hj1
      subst hj1
      exact ⟨v,hv,ho,hcvn _ _ (if_pos rfl),fun T c ee => by cases ee⟩
     ·
      rw [if_neg e2] at hj1
      exact oldc i j1 r d hi hj1 fun e3 => e2 e3.2.symm
    ·
     rw [if_neg e1] at hi2
     exact ⟨(hcell i1 r1 hi2).1,fun j1 d hj1 => oldc i1 j1 r1 d hi2 hj1 fun e3 => e1 e3.1.symm⟩
   ·
    simp only [if_neg hne,if_true]
    refine ⟨⟨(hG i1 j1 x hx.1).1,fun hf => hx.2 ?_⟩,(hG i1 j1 x hx.1).2⟩
    exact hd i1 j1 i j x hx.1 (hFn x hf)
theorem StR.fold_ (h : StR w0 N ρ φ f m a w) {id ch : Nm} {e sz e' sz' i j n : Nat} {cols : Nat → TD} {l : List (List Cell)} {r : List Cell} {L : List (List C)} (hm : m id = some (.row e sz l)) (hi : l[i]? = some r) (hj : r[j]? = some (.own ch n)) (hc : m ch = some (.row e' sz' (openRows cols L))) (hn : L.length = n) (hne : ch ≠ id)
  (hsc : ∀ r ∈ L,∀ (j : Nat) (c : C),r[j]? = some c → cols j = .sc → Cell.scB c = true) :
  ∃ φ',StR w0 N ρ φ' f (mset (mset m ch none) id (some (.row e sz (l.set i (r.set j (.tr (.sl e' sz' cols) (.sl L))))))) a w := by
 have hrow := h.objs id _ hm
 have hil : i < l.length := (List.getElem?_eq_some_iff.1 hi).1
 have hjl : j < r.length := (List.getElem?_eq_some_iff.1 hj).1
 rcases hrow.2 with ⟨_,h0⟩ | ⟨b,base,cap,hr,cur,G,hfb,hh,hlc,hcs,hcell,hG,hd⟩
 · rw [h0] at hi; simp at hi
 obtain ⟨v,hv,ho,hcv,_⟩ := (hcell i r hi).2 j _ hj
 have htree : Tree w (.sl e' sz' cols) (.sl L) v (φ ch) := by
  have hrowc := h.objs ch _ hc
  rcases hcv with ⟨b',base',cap',hr',hv'⟩ | ⟨hr',hn0,A,hv'⟩
  ·
   obtain ⟨hlen,hrr⟩ := place_row h hc hr'
   obtain ⟨cur',G',h1,h2,h3,h4,h5,h6,h7⟩ := hrr
   rw [hv',← hn]
   refine Tree.sl e' sz' cols L b' base' cap' cur' (fun i1 j1 => (cur'[base' + i1 * sz' + j1]?).getD undef) G' (φ ch) h2 h1 (by simpa [openRows] using h3) (by simpa [openRows] using hlen) h4 (fun i1 r1 hi1 => ?_) (fun i1 r1 j1 d hi1 hj1 => ?_) (fun i1 r1 j1 d hi1 hj1 => ?_) h6 h7
   all_goals
    have hoi : (openRows cols L)[i1]? = some (cellsOf cols 0 r1) := by simp [openRows,hi1]
   ·
    have := (h5 i1 _ hoi).1
    rwa [cellsOf_length] at this
   ·
    obtain ⟨v1,hv1,_⟩ := (h5 i1 _ hoi).2 j1 _ (by rw [cellsOf_get,hj1]; rfl)
    rw [hv1]; rfl
   ·
    obtain ⟨v1,hv1,ho1,hcv1,ht1⟩ := (h5 i1 _ hoi).2 j1 _ (by rw [cellsOf_get,hj1]; rfl)
    rw [hv1]
    simp only [Nat.zero_add] at hcv1 ht1
    cases hT : cols j1 with
    | sc =>
     rw [hT] at hcv1
     have hs := hsc r1 (List.mem_of_getElem? hi1) j1 d hj1 hT
     have hview : View (Sof w0 φ m w) w d v1 := hcv1
     cases hview with
     | int k n => exact .int k n _
     | bool b => exact .bool b _
     | str s => exact .str s _
     | sl => cases hs
     | rop => cases hs
     | fn => cases hs
    | sl a1 a2 a3 =>
     rw [hT] at ht1
     exact ht1 _ _ rfl
  ·
   have : L = [] := List.eq_nil_of_length_eq_zero (by omega)
   subst this
   rw [hv']
   exact Tree.nil e' sz' cols A _
 refine ⟨fun k => if k = id then (fun x => φ id x ∨ φ ch x) else φ k,?_⟩
 have hms : ∀ k o',(k = id ∨ k = ch) → mset (mset m ch none) id (some (.row e sz (l.set i (r.set j (.tr (.sl e' sz' cols) (.sl L)))))) k = some o' → k = id ∧ o' = .row e sz (l.set i (r.set j (.tr (.sl e' sz' cols) (.sl L)))) := fun k o' hk hi => by
  simp only [mset] at hi
  by_cases e1 : k = id
  · rw [if_pos e1] at hi; injection hi with hi; exact ⟨e1,hi.symm⟩
  · rw [if_neg e1,if_pos (hk.resolve_left e1)] at hi; cases hi
 have hold : ∀ k o',¬ (k = id ∨ k = ch) → mset (mset m ch none) id (some (.row e sz (l.set i (r.set j (.tr (.sl e' sz' cols) (.sl L)))))) k = some o' → m k = some o' := fun k o' hk hi => by
  simp only [mset,if_neg (fun e => hk (.inr e)),if_neg (fun e => hk (.inl e))] at hi
  exact hi
 refine (h.step (w' := w) (ρ' := ρ) (fun k => k = id ∨ k = ch) (Mv.refl _ w) hold (fun k o' hk hi x => by simp only [if_neg (fun e => hk (.inl e))]) (fun k o' hk hi => ⟨rfl,fun _ _ => rfl⟩) (fun _ _ _ => rfl) (fun k o' x hk hi hx => .inr ?_) (fun k k' o1 o2 x hk hk' hi1 hi2 _ _ => by rw [(hms k o1 hk hi1).1,(hms k' o2 hk' hi2).1]) (fun k o' hk h0 hi => ⟨AObj.row e sz l,by rw [(hms k o' hk hi).1]; exact hm,rfl⟩) fun hS k o' hk hi1 => ?_).1
 ·
  obtain ⟨rfl,_⟩ := hms k o' hk hi
  simp only [if_true] at hx
  rcases hx with hx | hx
  · exact ⟨k,_,.inl rfl,hm,hx⟩
  · exact ⟨ch,_,.inr rfl,hc,hx⟩
 ·
  obtain ⟨rfl,rfl⟩ := hms k o' hk hi1
  refine ⟨by simpa using hrow.1,.inr ⟨b,base,cap,hr,cur,fun i1 j1 x => if i1 = i ∧ j1 = j then φ ch x else G i1 j1 x,?_,hh,by simpa using hlc,hcs,fun i1 r1 hi2 => ?_,fun i1 j1 x hx => ?_,fun i1 j1 i2 j2 x hx hx' => ?_⟩⟩
  · simp only [if_true]; exact .inl hfb
  ·
   have oldc : ∀ (i1 j1 : Nat) (r0 : List Cell) (d : Cell),l[i1]? = some r0 → r0[j1]? = some d → ¬ (i1 = i ∧ j1 = j) → ∃ v,cur[base + i1 * sz + j1]? = some v ∧ RC ρ (Sof w0 (fun q => if q = k then (fun x => φ k x ∨ φ ch x) else φ q) (mset (mset m ch none) k (some (.row e sz (l.set i (r.set j (.tr (.sl e' sz' cols) (.sl L))))))) w) w (fun x => if i1 = i ∧ j1 = j then φ ch x else G i1 j1 x) d v := fun i1 j1 r0 d h1 h2 h3 => by
    obtain ⟨v',hv',hrc⟩ := (hcell i1 r0 h1).2 j1 d h2
    exact ⟨v',hv',hrc.next (fun _ _ => rfl) hS (fun _ _ => rfl) (fun _ _ => rfl) fun x hx => by rw [if_neg h3]; exact hx⟩
   rw [List.getElem?_set] at hi2
   by_cases e1 : i = i1
   ·
    subst e1
    rw [if_pos rfl,if_pos hil] at hi2
    injection hi2 with hi2
    subst hi2
    refine ⟨by rw [List.length_set]; exact (hcell i r hi).1,fun j1 d hj1 => ?_⟩
    rw [List.getElem?_set] at hj1
    by_cases e2 : j = j1
    ·
     subst e2
     rw [if_pos rfl,if_pos hjl] at hj1
     injection hj1 with hj1
     subst hj1
     refine ⟨v,hv,ho,trivial,fun T c ee => ?_⟩
     injection ee with e3 e4
     subst e3 e4
     exact htree.keep (fun _ _ => rfl) fun x hx => by simp only [and_self,if_true]; exact hx
    ·
     rw [if_neg e2] at hj1
     exact oldc i j1 r d hi hj1 fun e3 => e2 e3.2.symm
   ·
    rw [if_neg e1] at hi2
    exact ⟨(hcell i1 r1 hi2).1,fun j1 d hj1 => oldc i1 j1 r1 d hi2 hj1 fun e3 => e1 e3.1.symm⟩
  ·
   simp only [if_true]
   by_cases e1 : i1 = i ∧ j1 = j
   ·
    simp only [if_pos e1] at hx
    exact ⟨.inr hx,fun e2 => hne (h.disj ch k _ _ b hc hm (e2 ▸ hx) hfb)⟩
   ·
    simp only [if_neg e1] at hx
    exact ⟨.inl (hG i1 j1 x hx).1,(hG i1 j1 x hx).2⟩
  ·
   by_cases e1 : i1 = i ∧ j1 = j <;> by_cases e2 : i2 = i ∧ j2 = j
   · omega
   ·
    simp only [if_pos e1] at hx
    simp only [if_neg e2] at hx'
    exact absurd (h.disj ch k _ _ x hc hm hx (hG _ _ x hx').1) hne
   ·
    simp only [if_neg e1] at hx
    simp only [if_pos e2] at hx'
    exact absurd (h.disj ch k _ _ x hc hm hx' (hG _ _ x hx).1) hne
   ·
    simp only [if_neg e1] at hx
    simp only [if_neg e2] at hx'
    exact hd _ _ _ _ x hx hx'
end
end Go.Proofs.Ytabbejabdkkaiaa
