/- Calls: what a function does with data and with objects that it is handed; the step. The step of a call. min, max, parts of values, values held against each other, functions as values, clear. Maps: keys made of numbers, values that are data. Maps: the operations, as steps on own maps. No condition. -/
import Derived.Test.YtabbejabdkkaiaaKB
import Derived.Laws.StructEq
import Derived.Laws.Cover3
import Derived.ChangeKeysEq
import Derived.MapKept
import Derived.WideKeyRuns
set_option linter.unusedSimpArgs false
set_option linter.unusedVariables false
namespace Go.Proofs.Ytabbejabdkkaiaa
open Go.RowKit

abbrev LM := List Upd
def mget : LM → Nm → Option AObj
 | [] => fun _ => none
 | u :: r => mput (mget r) u
def hasBody (P : Program) (g : FuncId) : Bool :=
 match P.funcs[g]? with
 | some fn => !(fn.name == "runtime.NumGoroutine") && fn.body.isSome
 | none => false
def HPost (S Φ : Nat → Prop) (I : Nm → Prop) (P0 : Place) (w : World) (ans : AV) (m1 : Nm → Option AObj) (e : Ending) (w' : World) : Prop :=
 ∃ v ρ φ,e = .returned v ∧ Mv Φ w w' ∧ AVR ρ (Sof ⟨w,S,Φ,P0⟩ φ m1 w') w' ans v ∧ (∀ id o,m1 id = some o → OR ρ φ (Sof ⟨w,S,Φ,P0⟩ φ m1 w') w' id o) ∧ (∀ id o b,m1 id = some o → φ id b → b < w'.heap.size ∧ (Φ b ∨ w.heap.size ≤ b)) ∧
  (∀ id id' o o' b,m1 id = some o → m1 id' = some o' → φ id b → φ id' b → id = id') ∧ ∀ id o,m1 id = some o → I id → ρ id = P0 id
structure CallH (P : Program) (g : FuncId) (args : List AV) (M0 : LM) (ans : AV) (M1 : LM) : Prop where
 body : hasBody P g = true
 shut : (∀ id ∈ ans.ids,mget M1 id ≠ none) ∧ ∀ i o,mget M1 i = some o → ∀ id ∈ o.ids,mget M1 id ≠ none
 calls : ∀ (S Φ : Nat → Prop) (ρ : Place) (φ : Foot) (w : World) (vs : List Value),(∀ b,S b → b < w.heap.size ∧ ¬ Φ b) → (∀ b,Φ b → b < w.heap.size) → vs.length = args.length →
  (∀ (i : Nat) (x : AV) (v : Value),args[i]? = some x → vs[i]? = some v → AVR ρ S w x v) → (∀ id o,mget M0 id = some o → OR ρ φ S w id o) → (∀ id o b,mget M0 id = some o → φ id b → Φ b) →
  (∀ id id' o o' b,mget M0 id = some o → mget M0 id' = some o' → φ id b → φ id' b → id = id') →
  Calls P g vs.toArray w (HPost S Φ (fun id => mget M0 id ≠ none) ρ w ans (mget M1))

def frzAV (m : Nm → Option AObj) : AV → Option AV
 | .one c => (frz m 5 c).map fun d => .one (.d d)
 | .agg l => (mapO (frz m 5) l).map fun ds => .agg (ds.map .d)
 | .tup _ => none
def reachAV (m : Nm → Option AObj) : AV → List Nm
 | .one c => reach m 5 c
 | .agg l => l.flatMap (reach m 5)
 | .tup _ => []
def frzAVs (m : Nm → Option AObj) : List AV → Option (List AV)
 | [] => some []
 | x :: xs => match frzAV m x,frzAVs m xs with
  | some y,some ys => some (y :: ys)
  | _,_ => none
theorem frzAVs_get {m : Nm → Option AObj} : ∀ {xs ys : List AV},frzAVs m xs = some ys → ys.length = xs.length ∧ ∀ (i : Nat) (x : AV),xs[i]? = some x → ∃ y,ys[i]? = some y ∧ frzAV m x = some y
 | [],ys,h => by simp only [frzAVs,Option.some.injEq] at h; subst h; simp
 | x :: xs,ys,h => by
  simp only [frzAVs] at h
  split at h
  ·
   rename_i y ys' h1 h2
   injection h with h
   subst h
   obtain ⟨hl,hg⟩ := frzAVs_get h2
   refine ⟨by simp [hl],fun i c' hi => ?_⟩
   cases i with
   | zero => simp at hi; subst hi; exact ⟨y,rfl,h1⟩
   | succ i => simpa using hg i c' (by simpa using hi)
  · cases h

def cleanC : Cell → Bool
 | .d (.int _ _) => true
 | .d (.bool _) => true
 | .d (.str _) => true
 | .d _ => false
 | _ => true
def cleanS : List Cell ⊕ Cell → Bool
 | .inl l => l.all cleanC
 | .inr c => cleanC c
def AV.clean : AV → Bool
 | .one c => cleanC c
 | .agg l => l.all cleanC
 | .tup l => l.all cleanS
def AObj.clean : AObj → Bool
 | .box _ l => l.all cleanC
 | .row _ _ l => l.all fun r => r.all cleanC
 | .map _ _ _ _ _ => false
section
variable {ρ ρ' : Place} {S S' : Nat → Prop} {w : World}
theorem clean_cv {c : Cell} {v : Value} (hs : cleanC c = true) (h : CV ρ S w c v) (hρ : ∀ id ∈ c.ids,ρ' id = ρ id) : CV ρ' S' w c v := by
 have key : CV ρ S' w c v := by
  cases c with
  | d c =>
   cases c with
   | int k n => cases (show View S w (.int k n) v from h); exact View.int _ _
   | bool b => cases (show View S w (.bool b) v from h); exact View.bool _
   | str s => cases (show View S w (.str s) v from h); exact View.str _
   | _ => cases hs
  | _ => exact h
 exact key.next (fun _ _ => rfl) (fun _ h => h) hρ
theorem clean_cvs {l : List Cell} {vs : List Value} (hs : l.all cleanC = true) (h : CVs ρ S w l vs) (hρ : ∀ id ∈ l.flatMap Cell.ids,ρ' id = ρ id) : CVs ρ' S' w l vs :=
 ⟨h.1,fun i c v hc hv => ⟨clean_cv (List.all_eq_true.1 hs c (List.mem_of_getElem? hc)) (h.2 i c v hc hv).1 fun id hid => hρ id (List.mem_flatMap.2 ⟨c,List.mem_of_getElem? hc,hid⟩),(h.2 i c v hc hv).2⟩⟩
theorem clean_av {x : AV} {v : Value} (hs : x.clean = true) (h : AVR ρ S w x v) (hρ : ∀ id ∈ x.ids,ρ' id = ρ id) : AVR ρ' S' w x v := by
 cases x with
 | one c => exact clean_cv hs h hρ
 | agg l =>
  obtain ⟨vs,e,hc⟩ := h
  exact ⟨vs,e,clean_cvs hs hc hρ⟩
 | tup l =>
  obtain ⟨vs,e,hl,hc⟩ := h
  refine ⟨vs,e,hl,fun i x v hx hv => ?_⟩
  have h1 := hc i x v hx hv
  have h2 := List.all_eq_true.1 hs x (List.mem_of_getElem? hx)
  have h3 : ∀ id ∈ sumIds x,ρ' id = ρ id := fun id hid => hρ id (List.mem_flatMap.2 ⟨x,List.mem_of_getElem? hx,hid⟩)
  cases x with
  | inl l =>
   obtain ⟨us,e',hu⟩ := h1
   exact ⟨us,e',clean_cvs h2 hu h3⟩
  | inr c => exact clean_cv h2 h1 h3
theorem clean_or {φ φ' : Foot} {id : Nm} {o : AObj} (hs : o.clean = true) (h : OR ρ φ S w id o) (hid : ρ' id = ρ id) (hρ : ∀ i ∈ o.ids,ρ' i = ρ i) (hφ : ∀ b,φ id b → φ' id b) : OR ρ' φ' S' w id o := by
 cases o with
 | box ty l => exact let ⟨b,cur,hr,hf,hh,hc⟩ := h; ⟨b,cur,hid.trans hr,hφ b hf,hh,clean_cvs hs hc hρ⟩
 | row ty sz l =>
  refine ⟨h.1,?_⟩
  rcases h.2 with ⟨hr,hl⟩ | ⟨b,base,cap,hr,cur,G,h0,h1,h2,h3,h4,h5,h6⟩
  · exact .inl ⟨hid.trans hr,hl⟩
  ·
   refine .inr ⟨b,base,cap,hid.trans hr,cur,G,hφ b h0,h1,h2,h3,fun i r hi => ⟨(h4 i r hi).1,fun j d hd => ?_⟩,fun i j x hx => ⟨hφ x (h5 i j x hx).1,(h5 i j x hx).2⟩,h6⟩
   obtain ⟨v,hv,ho,hcv,ht⟩ := (h4 i r hi).2 j d hd
   have hc := List.all_eq_true.1 (List.all_eq_true.1 hs r (List.mem_of_getElem? hi)) d (List.mem_of_getElem? hd)
   exact ⟨v,hv,ho,clean_cv hc hcv fun k hk => hρ k (List.mem_flatMap.2 ⟨r,List.mem_of_getElem? hi,List.mem_flatMap.2 ⟨d,List.mem_of_getElem? hd,hk⟩⟩),ht⟩
 | map kt et ag n l => cases hs
end

structure Fact (P : Program) where
 g : FuncId
 raw : Bool
 args : List AV
 M0 : LM
 ans : AV
 M1 : LM
 ok : CallH P g args M0 ans M1
 r0 : raw = false → M0 = []
 key : Option Nat
def Fact.clean {P : Program} (z : Fact P) : Bool := z.ans.clean && z.M1.all fun u => match u.2 with | some o => o.clean | none => true
theorem mget_mem : ∀ {M : LM} {id : Nm} {o : AObj},mget M id = some o → (id,some o) ∈ M
 | [],_,_,h => by simp [mget] at h
 | u :: M,id,o,h => by
  simp only [mget,mput,mset] at h
  by_cases e : id = u.1
  ·
   rw [if_pos e] at h
   rw [e,← h]
   simp
  ·
   rw [if_neg e] at h
   exact List.mem_cons_of_mem _ (mget_mem h)
def kills (ks : List Nm) : List Upd := ks.map fun i => (i,none)
theorem mupd_kills : ∀ (ks : List Nm) (m : Nm → Option AObj) (i : Nm),mupd m (kills ks) i = if i ∈ ks then none else m i
 | [],_,_ => by simp [kills,mupd]
 | k :: ks,m,i => by
  have := mupd_kills ks (mset m k none) i
  simp only [kills,List.map_cons,mupd,mput] at this ⊢
  rw [this]
  simp only [mset,List.mem_cons]
  by_cases h1 : i ∈ ks <;> by_cases h2 : i = k <;> simp [h1,h2]
theorem mupd_append : ∀ (U V : List Upd) (m : Nm → Option AObj),mupd m (U ++ V) = mupd (mupd m U) V
 | [],_,_ => rfl
 | _ :: U,V,_ => mupd_append U V _
def outs (M1 : LM) : List Upd := M1.reverse
theorem mupd_outs : ∀ (M1 : LM) (m : Nm → Option AObj) (i : Nm),mupd m (outs M1) i = if i ∈ M1.map (·.1) then mget M1 i else m i
 | [],m,i => by simp [outs,mupd]
 | u :: M1,m,i => by
  have ih := mupd_outs M1 m i
  simp only [outs,List.reverse_cons] at ih ⊢
  rw [mupd_append]
  simp only [mupd,mput,mset,mget,List.map_cons,List.mem_cons]
  by_cases e : i = u.1
  · simp [e]
  · simp only [e,if_false,false_or,ih]
def Fact.fits {P : Program} (z : Fact P) (m : Nm → Option AObj) (fr : Nat) (xs : List AV) : Prop :=
 (z.key = none ∨ z.key = some fr) ∧ (if z.raw = true then z.args = xs else frzAVs m xs = some z.args) ∧ (∀ p ∈ z.M0,p.2 ≠ none ∧ m p.1 = p.2 ∧ p.1 ∈ xs.flatMap (reachAV m)) ∧ (z.M0.map (·.1)).Nodup ∧ ∀ p ∈ z.M1,p.1.1 = fr ∨ p.1 ∈ z.M0.map (·.1)
def Fact.ks {P : Program} (z : Fact P) (m : Nm → Option AObj) (xs : List AV) : List Nm := if z.raw = true then z.M0.map (·.1) else if z.clean = true then [] else xs.flatMap (reachAV m)

section
variable {P : Program} {w0 : Bas} {N : Nat} {ρ ρ' : Place} {φ φ' : Foot} {f : Nat → AV} {m : Nm → Option AObj} {a : Act} {w w' : World} {o : Oper}
theorem StR.join (h : StR w0 N ρ φ f m a w) (dst : Option Tmp) {ks : List Nm} {M1 : LM} {ans : AV} {S Φ : Nat → Prop} {I : Nm → Prop} {e : Ending} (hp : HPost S Φ I ρ w ans (mget M1) e w')
  (hsh : (∀ id ∈ ans.ids,mget M1 id ≠ none) ∧ ∀ i o,mget M1 i = some o → ∀ id ∈ o.ids,mget M1 id ≠ none)
  (hfr : ∀ id ∈ M1.map (·.1),Fresh f m id ∨ I id) (hI : ∀ id,I id → id ∈ ks ∧ ∃ o,m id = some o) (hΦ : ∀ b,Φ b → ∃ id o,I id ∧ m id = some o ∧ φ id b)
  (hSS : (ans.clean = true ∧ ∀ i o,mget M1 i = some o → o.clean = true) ∨ ∀ b,S b → Sof w0 φ (mupd m (kills ks)) w b) :
  ∃ v,e = .returned v ∧ St w0 N (fput f dst ans) (mupd m (kills ks ++ outs M1)) (a.put dst v) w' := by
 obtain ⟨v,ρ',φ',rfl,hmv,hav,hob,hfp,hdj,hst⟩ := hp
 refine ⟨v,rfl,fun id => if mget M1 id ≠ none then ρ' id else ρ id,fun id => if mget M1 id ≠ none then φ' id else φ id,?_⟩
 have hm' : ∀ id,mupd m (kills ks ++ outs M1) id = if id ∈ M1.map (·.1) then mget M1 id else if id ∈ ks then none else m id := fun id => by
  rw [mupd_append,mupd_outs,mupd_kills]
 have hin : ∀ {id : Nm},mget M1 id ≠ none → id ∈ M1.map (·.1) := fun {id} hne => by
  cases e : mget M1 id with
  | none => exact absurd e hne
  | some o => exact List.mem_map.2 ⟨_,mget_mem e,rfl⟩
 -- names in sight keep their places
 have sight : ∀ id,(∀ hf : Fresh f m id,False) → mget M1 id ≠ none → ρ' id = ρ id := fun id hnf hne => by
  rcases hfr id (hin hne) with h1 | h1
  · exact (hnf h1).elim
  ·
   cases e : mget M1 id with
   | none => exact absurd e hne
   | some o => exact hst id o e h1
 have hnew : ∀ id o,(id ∈ ks ∨ id ∈ M1.map (·.1)) → mupd m (kills ks ++ outs M1) id = some o → mget M1 id = some o := fun id o hk hi => by
  rw [hm'] at hi
  split at hi
  · exact hi
  ·
   rename_i h1
   rw [if_pos (hk.resolve_right h1)] at hi
   cases hi
 have hold : ∀ id o,¬ (id ∈ ks ∨ id ∈ M1.map (·.1)) → mupd m (kills ks ++ outs M1) id = some o → m id = some o ∧ mget M1 id = none := fun id o hk hi => by
  rw [hm',if_neg (fun h1 => hk (.inr h1)),if_neg (fun h1 => hk (.inl h1))] at hi
  refine ⟨hi,?_⟩
  cases e : mget M1 id with
  | none => rfl
  | some x => exact absurd (hin (by rw [e]; simp)) fun h1 => hk (.inr h1)
 have lift : ∀ (b : Nat),(b < w'.heap.size ∧ (∀ id o,mget M1 id = some o → ¬ φ' id b) ∧ (Φ b ∨ w.heap.size ≤ b)) → Sof w0 (fun id => if mget M1 id ≠ none then φ' id else φ id) (mupd m (kills ks ++ outs M1)) w' b := fun b hb => by
  refine ⟨hb.1,fun id o hi hf => ?_,?_⟩
  ·
   by_cases hk : id ∈ ks ∨ id ∈ M1.map (·.1)
   ·
    have h1 := hnew id o hk hi
    have hne : mget M1 id ≠ none := by rw [h1]; simp
    simp only [if_pos hne] at hf
    exact hb.2.1 id o h1 hf
   ·
    obtain ⟨h1,h2⟩ := hold id o hk hi
    simp only [h2,ne_eq,not_true,if_false] at hf
    rcases hb.2.2 with h3 | h3
    ·
     obtain ⟨i,o',hii,h4,h5⟩ := hΦ b h3
     exact hk (.inl (by rw [h.disj id i o o' b h1 h4 hf h5]; exact (hI i hii).1))
    ·
     have := h.lt id o b h1 hf
     omega
  ·
   rcases hb.2.2 with h3 | h3
   ·
    obtain ⟨i,o',hii,h4,h5⟩ := hΦ b h3
    rcases h.base i o' b h4 h5 with h6 | h6
    · exact .inr (.inl h6)
    · exact .inr (.inr h6)
   · exact .inr (.inr (Nat.le_trans h.mv.size h3))
 have hS0 : ∀ b,Sof w0 φ m w b → Sof w0 (fun id => if mget M1 id ≠ none then φ' id else φ id) (mupd m (kills ks ++ outs M1)) w' b := Sof.step h.lt (fun id => id ∈ ks ∨ id ∈ M1.map (·.1)) hmv.size (fun id o hk hi => (hold id o hk hi).1) (fun id o hk hi b hf => by
   simp only [(hold id o hk hi).2,ne_eq,not_true,if_false] at hf
   exact hf) fun id o b hk hi hf => by
   have h1 := hnew id o hk hi
   have hne : mget M1 id ≠ none := by rw [h1]; simp
   simp only [if_pos hne] at hf
   rcases (hfp id o b h1 hf).2 with h2 | h2
   ·
    obtain ⟨i,o',_,h4,h5⟩ := hΦ b h2
    exact .inr ⟨i,o',h4,h5⟩
   · exact .inl h2
 have hSk : ∀ b,Sof w0 φ (mupd m (kills ks)) w b → b < w'.heap.size → (∀ id o,mget M1 id = some o → ¬ φ' id b) → Sof w0 (fun id => if mget M1 id ≠ none then φ' id else φ id) (mupd m (kills ks ++ outs M1)) w' b := fun b hb hlt hno => by
  refine ⟨hlt,fun id o hi hf => ?_,hb.2.2⟩
  by_cases hk : id ∈ ks ∨ id ∈ M1.map (·.1)
  ·
   have h1 := hnew id o hk hi
   have hne : mget M1 id ≠ none := by rw [h1]; simp
   simp only [if_pos hne] at hf
   exact hno id o h1 hf
  ·
   obtain ⟨h1,h2⟩ := hold id o hk hi
   simp only [h2,ne_eq,not_true,if_false] at hf
   refine hb.2.1 id o ?_ hf
   rw [mupd_kills,if_neg (fun h3 => hk (.inl h3))]
   exact h1
 have avr : ∀ {x : AV} {u : Value},(∀ id ∈ x.ids,mget M1 id ≠ none) → (x.clean = true ∨ ∀ b,S b → Sof w0 φ (mupd m (kills ks)) w b) → AVR ρ' (Sof ⟨w,S,Φ,ρ⟩ φ' (mget M1) w') w' x u → AVR (fun id => if mget M1 id ≠ none then ρ' id else ρ id) (Sof w0 (fun id => if mget M1 id ≠ none then φ' id else φ id) (mupd m (kills ks ++ outs M1)) w') w' x u := fun {x u} hids hc hx => by
  have hρ : ∀ id ∈ x.ids,(fun id => if mget M1 id ≠ none then ρ' id else ρ id) id = ρ' id := fun id hid => if_pos (hids id hid)
  rcases hc with hc | hc
  · exact clean_av hc hx hρ
  ·
   refine hx.next (fun _ _ => rfl) (fun b hb => ?_) hρ
   rcases hb.2.2 with h1 | h1
   · exact hSk b (hc b h1) hb.1 hb.2.1
   · exact lift b ⟨hb.1,hb.2.1,h1⟩
 have hstep := h.step (w' := w') (m' := mupd m (kills ks ++ outs M1)) (ρ' := fun id => if mget M1 id ≠ none then ρ' id else ρ id) (φ' := fun id => if mget M1 id ≠ none then φ' id else φ id) (fun id => id ∈ ks ∨ id ∈ M1.map (·.1)) (hmv.mono fun b hb => by
   obtain ⟨i,o',hii,h4,h5⟩ := hΦ b hb
   exact ⟨i,o',.inl (hI i hii).1,h4,h5⟩) (fun id o hk hi => (hold id o hk hi).1) (fun id o hk hi b => by simp only [(hold id o hk hi).2,ne_eq,not_true,if_false]) (fun id o hk hi => ⟨by simp only [(hold id o hk hi).2,ne_eq,not_true,if_false],fun i hii => ?_⟩) (fun t i hi => ?_) (fun id o b hk hi hf => ?_) (fun id id' o o' b hk hk' hi hi' hf hf' => ?_) (fun id o hk h0 hi => ?_) fun hS id o hk hi => ?_
 · exact ⟨hstep.1.mv,(put_dfr a dst v).trans hstep.1.dfr,(put_size a dst v).trans hstep.1.size,regs_put hstep.1.regs (avr hsh.1 (hSS.imp (·.1) id) hav),hstep.1.objs,hstep.1.lt,hstep.1.base,hstep.1.disj,hstep.1.stab⟩
 ·
  show (if mget M1 i ≠ none then ρ' i else ρ i) = ρ i
  split
  ·
   rename_i hne
   exact sight i (fun hf => hf.hm id o (hold id o hk hi).1 hii) hne
  · rfl
 ·
  show (if mget M1 i ≠ none then ρ' i else ρ i) = ρ i
  split
  ·
   rename_i hne
   exact sight i (fun hf => hf.hf t hi) hne
  · rfl
 ·
  have h1 := hnew id o hk hi
  have hne : mget M1 id ≠ none := by rw [h1]; simp
  simp only [if_pos hne] at hf
  obtain ⟨h2,h3⟩ := hfp id o b h1 hf
  rcases h3 with h3 | h3
  ·
   obtain ⟨i,o',hii,h4,h5⟩ := hΦ b h3
   exact .inr ⟨i,o',.inl (hI i hii).1,h4,h5⟩
  · exact .inl ⟨h3,h2⟩
 ·
  have h1 := hnew id o hk hi
  have h2 := hnew id' o' hk' hi'
  have hne : mget M1 id ≠ none := by rw [h1]; simp
  have hne' : mget M1 id' ≠ none := by rw [h2]; simp
  simp only [if_pos hne] at hf
  simp only [if_pos hne'] at hf'
  exact hdj id id' o o' b h1 h2 hf hf'
 ·
  have h1 := hnew id o hk hi
  have hne : mget M1 id ≠ none := by rw [h1]; simp
  rcases hfr id (hin hne) with h2 | h2
  · exact absurd h0 h2.h0
  ·
   obtain ⟨_,o',h3⟩ := hI id h2
   exact ⟨o',h3,by simp only [if_pos hne]; exact hst id o h1 h2⟩
 ·
  have h1 := hnew id o hk hi
  have hne : mget M1 id ≠ none := by rw [h1]; simp
  have hρ : ∀ i ∈ o.ids,(fun id => if mget M1 id ≠ none then ρ' id else ρ id) i = ρ' i := fun i hi => if_pos (hsh.2 id o h1 i hi)
  have hφ : ∀ b,φ' id b → (fun id => if mget M1 id ≠ none then φ' id else φ id) id b := fun b hb => by simp only [if_pos hne]; exact hb
  rcases hSS with hc | hc
  · exact clean_or (hc.2 id o h1) (hob id o h1) (if_pos hne) hρ hφ
  ·
   refine (hob id o h1).next (fun _ _ => rfl) (fun b hb => ?_) hρ (if_pos hne) (fun _ _ => rfl) hφ
   rcases hb.2.2 with h3 | h3
   · exact hSk b (hc b h3) hb.1 hb.2.1
   · exact lift b ⟨hb.1,hb.2.1,h3⟩
end
section
variable {P : Program} {w0 : Bas} {N : Nat} {ρ ρ' : Place} {φ φ' : Foot} {f : Nat → AV} {m : Nm → Option AObj} {a : Act} {w w' : World} {o : Oper}

theorem frzAV_ok (h : StR w0 N ρ φ f m a w) {x y : AV} {v : Value} (hc : frzAV m x = some y) (hv : AVR ρ (Sof w0 φ m w) w x v) {T : Nat → Prop} (hT : ∀ b,Sof w0 φ m w b → T b) (hk : ∀ id o b,id ∈ reachAV m x → m id = some o → φ id b → T b) : AVR ρ T w y v := by
 cases x with
 | one c =>
  simp only [frzAV,Option.map_eq_some_iff] at hc
  obtain ⟨d,hd,rfl⟩ := hc
  exact frz_ok h hT hd hv hk
 | agg l =>
  simp only [frzAV,Option.map_eq_some_iff] at hc
  obtain ⟨ds,hd,rfl⟩ := hc
  obtain ⟨vs,rfl,hcv⟩ := hv
  obtain ⟨hl,hg⟩ := mapO_get hd
  refine ⟨vs,rfl,by rw [hcv.1]; simp [hl],fun i c v hi hvi => ?_⟩
  simp only [List.getElem?_map,Option.map_eq_some_iff] at hi
  obtain ⟨d,hdi,rfl⟩ := hi
  obtain ⟨c',hci,hf⟩ := hg i d hdi
  obtain ⟨h1,h2⟩ := hcv.2 i c' v hci hvi
  exact ⟨frz_ok h hT hf h1 (fun id o b hid => hk id o b (List.mem_flatMap.2 ⟨_,List.mem_of_getElem? hci,hid⟩)),h2⟩
 | tup l => cases hc
def Rels (ρ : Place) (S : Nat → Prop) (w : World) (xs : List AV) (vs : List Value) : Prop := vs.length = xs.length ∧ ∀ (i : Nat) (x : AV) (v : Value),xs[i]? = some x → vs[i]? = some v → AVR ρ S w x v
theorem Rels.append {S : Nat → Prop} {xs ys : List AV} {us vs : List Value} (h : Rels ρ S w xs us) (k : Rels ρ S w ys vs) : Rels ρ S w (xs ++ ys) (us ++ vs) := by
 refine ⟨by simp [h.1,k.1],fun i x v hx hv => ?_⟩
 rcases Nat.lt_or_ge i xs.length with hlt | hge
 ·
  rw [List.getElem?_append_left hlt] at hx
  rw [List.getElem?_append_left (by rw [h.1]; exact hlt)] at hv
  exact h.2 i x v hx hv
 ·
  rw [List.getElem?_append_right hge] at hx
  rw [List.getElem?_append_right (by rw [h.1]; exact hge),h.1] at hv
  exact k.2 _ x v hx hv
def sumAV : List C ⊕ C → AV
 | .inl l => .agg (l.map .d)
 | .inr c => .one (.d c)
def calleeOf (ev : Operand → AV) : Callee → Option (FuncId × List AV × List AV)
 | .value (.func g) => some (g,[],[])
 | .value x => match ev x with
  | .one (.d (.fn g first caps)) => some (g,first.map sumAV,caps.map fun c => .one (.d c))
  | .one (.fnp g caps) => some (g,[],caps.map fun p => .one (.ptr p.1 p.2))
  | _ => none
 | _ => none
theorem run_enter {c : Call} {g : FuncId} {x : Operand} {us vs : Array Value} (ho : o.op = .call c) (hc : c.callee = .value x) (hx : a.eval x = .func (.func g) us vs) (hb : hasBody P g = true) : (execOp a.eval o).run P w = .ok (.enter g (us ++ c.args.map a.eval ++ vs)) w := by
 unfold hasBody at hb
 split at hb
 ·
  rename_i fn hfn
  simp only [Bool.and_eq_true,Bool.not_eq_true'] at hb
  have hbody : fn.body.isNone = false := by
   cases hfb : fn.body with
   | none => rw [hfb] at hb; simp at hb
   | some b => rfl
  simp only [execOp,ho,resolve,hc,hx,Deferred.ofValue,Sem.run_bind,Sem.run_pure,Result.andThen_ok,invoke,callFunc]
  simp only [run_program,Result.andThen_ok,hfn,hb.1,hbody,Bool.false_eq_true,if_false,Sem.run_pure]
 · cases hb
theorem callee_ok (h : StR w0 N ρ φ f m a w) {c : Call} {g : FuncId} {pre post : List AV} (ho : o.op = .call c) (hc : calleeOf (aeval N f) c.callee = some (g,pre,post)) (hb : hasBody P g = true) :
  ∃ vals : List Value,(execOp a.eval o).run P w = .ok (.enter g vals.toArray) w ∧ Rels ρ (Sof w0 φ m w) w (pre ++ c.args.toList.map (aeval N f) ++ post) vals := by
 have hargs : Rels ρ (Sof w0 φ m w) w (c.args.toList.map (aeval N f)) (c.args.toList.map a.eval) := ⟨by simp,fun i x v hx hv => by
  rw [List.getElem?_map] at hx hv
  obtain ⟨q,hq,rfl⟩ := Option.map_eq_some_iff.1 hx
  obtain ⟨q',hq',rfl⟩ := Option.map_eq_some_iff.1 hv
  rw [hq] at hq'
  injection hq' with hq'
  subst hq'
  exact aeval_ok h q⟩
 have fin : ∀ (x : Operand) (us vs : Array Value),c.callee = .value x → a.eval x = .func (.func g) us vs → Rels ρ (Sof w0 φ m w) w pre us.toList → Rels ρ (Sof w0 φ m w) w post vs.toList → ∃ vals : List Value,(execOp a.eval o).run P w = .ok (.enter g vals.toArray) w ∧ Rels ρ (Sof w0 φ m w) w (pre ++ c.args.toList.map (aeval N f) ++ post) vals := fun x us vs hcx hx h1 h2 => by
  refine ⟨us.toList ++ c.args.toList.map a.eval ++ vs.toList,?_,(h1.append hargs).append h2⟩
  rw [run_enter ho hcx hx hb]
  congr 2
  apply Array.ext'
  simp
 have nil : Rels ρ (Sof w0 φ m w) w [] [] := ⟨rfl,fun i x v h => by simp at h⟩
 unfold calleeOf at hc
 split at hc
 ·
  rename_i g' hcx
  injection hc with hc
  injection hc with e1 e2
  injection e2 with e2 e3
  subst e1 e2 e3
  exact fin (.func g') #[] #[] hcx rfl nil nil
 ·
  rename_i x _ hcx
  have hv := aeval_ok h x
  split at hc
  ·
   rename_i g' first caps he
   injection hc with hc
   injection hc with e1 e2
   injection e2 with e2 e3
   subst e1 e2 e3
   rw [he] at hv
   have hv2 : View (Sof w0 φ m w) w (.fn g' first caps) (a.eval x) := hv
   generalize hx : a.eval x = u at hv2
   cases hv2 with
   | fn _ _ _ us vs xx h1 h2 hl hxx hy hz =>
   refine fin x us vs hcx hx ⟨by simp [h1],fun i y v hi hvi => ?_⟩ ⟨by simp [h2],fun i y v hi hvi => ?_⟩
   ·
    rw [List.getElem?_map] at hi
    obtain ⟨q,hq,rfl⟩ := Option.map_eq_some_iff.1 hi
    have hvi' : us[i]? = some v := by simpa using hvi
    cases q with
    | inl l =>
     obtain ⟨h3,h4⟩ := hl i l hq
     rw [h3] at hvi'
     injection hvi' with hvi'
     subst hvi'
     refine ⟨xx i,rfl,by rw [h4]; simp,fun j d v hj hvj => ?_⟩
     rw [List.getElem?_map] at hj
     obtain ⟨d',hd',rfl⟩ := Option.map_eq_some_iff.1 hj
     have := hxx i l j d' v hq hd' hvj
     exact ⟨this,this.one⟩
    | inr d => exact hy i d v hq hvi'
   ·
    rw [List.getElem?_map] at hi
    obtain ⟨q,hq,rfl⟩ := Option.map_eq_some_iff.1 hi
    exact hz i q v hq (by simpa using hvi)
  ·
   rename_i g' caps he
   injection hc with hc
   injection hc with e1 e2
   injection e2 with e2 e3
   subst e1 e2 e3
   rw [he] at hv
   obtain ⟨vs,hx,hl,hvs⟩ := hv
   refine fin x #[] vs hcx hx nil ⟨by simp [hl],fun i y v hi hvi => ?_⟩
   rw [List.getElem?_map] at hi
   obtain ⟨p,hp,rfl⟩ := Option.map_eq_some_iff.1 hi
   exact hvs i p v hp (by simpa using hvi)
  · cases hc
 · cases hc
theorem so_call (h : StR w0 N ρ φ f m a w) (c : Call) (z : Fact P) (fr : Nat) (pre post : List AV) (ho : o.op = .call c) (hc : calleeOf (aeval N f) c.callee = some (z.g,pre,post)) (hz : z.fits m fr (pre ++ c.args.toList.map (aeval N f) ++ post)) (hfr : ∀ k,Fresh f m (fr,k)) :
  Does P w0 N f m o a w z.ans (kills (z.ks m (pre ++ c.args.toList.map (aeval N f) ++ post)) ++ outs z.M1) := by
 generalize hxs : pre ++ c.args.toList.map (aeval N f) ++ post = xs at hz
 obtain ⟨vals,hrun,hrel⟩ := callee_ok (P := P) h ho hc z.ok.body
 rw [hxs] at hrel
 obtain ⟨_,hargs,hM0,hnd,hM1⟩ := hz
 intro K Q hK
 unfold Oper.wp
 rw [hrun]
 simp only [Oper.upon]
 have hIn : ∀ id o',mget z.M0 id = some o' → m id = some o' := fun id o' hi => (hM0 _ (mget_mem hi)).2.1
 have hks : ∀ b,Sof w0 φ m w b → Sof w0 φ (mupd m (kills (z.ks m xs))) w b := fun b hb => ⟨hb.1,fun id o' hi => by
  rw [mupd_kills] at hi
  split at hi
  · cases hi
  · exact hb.2.1 id o' hi,hb.2.2⟩
 have fresh : ∀ id ∈ z.M1.map (·.1),Fresh f m id ∨ mget z.M0 id ≠ none := fun id hid => by
  obtain ⟨p,hp,rfl⟩ := List.mem_map.1 hid
  rcases hM1 p hp with h1 | h1
  ·
   left
   have e : p.1 = (fr,p.1.2) := Prod.ext h1 rfl
   rw [e]
   exact hfr p.1.2
  ·
   right
   obtain ⟨q,hq,e⟩ := List.mem_map.1 h1
   rw [← e]
   have key : ∀ (M : LM),(M.map (·.1)).Nodup → (∀ p ∈ M,p.2 ≠ none) → ∀ q ∈ M,mget M q.1 ≠ none := by
    intro M
    induction M with
    | nil => intro _ _ q hq; cases hq
    | cons u M ih =>
     intro h1 h2 q hq
     simp only [mget,mput,mset]
     by_cases e : q.1 = u.1
     · rw [if_pos e]; exact h2 u (by simp)
     ·
      rw [if_neg e]
      simp only [List.map_cons,List.nodup_cons] at h1
      rcases List.mem_cons.1 hq with e2 | hq
      · exact absurd (by rw [e2]) e
      · exact ih h1.2 (fun p hp => h2 p (List.mem_cons_of_mem _ hp)) q hq
   exact key z.M0 hnd (fun p hp => (hM0 p hp).1) q hq
 cases hraw : z.raw with
 | true =>
  simp only [hraw,if_true] at hargs
  have hksr : z.ks m xs = z.M0.map (·.1) := by simp [Fact.ks,hraw]
  have hcalls := z.ok.calls (Sof w0 φ m w) (fun b => ∃ id o',mget z.M0 id = some o' ∧ φ id b) ρ φ w vals (fun b hb => ⟨hb.1,fun ⟨id,o',h1,h2⟩ => hb.2.1 id o' (hIn id o' h1) h2⟩) (fun b ⟨id,o',h1,h2⟩ => h.lt id o' b (hIn id o' h1) h2) (by rw [hargs]; exact hrel.1) (by rw [hargs]; exact hrel.2)
   (fun id o' hi => h.objs id o' (hIn id o' hi)) (fun id o' b hi hb => ⟨id,o',hi,hb⟩) (fun id id' o1 o2 b h1 h2 => h.disj id id' o1 o2 b (hIn id o1 h1) (hIn id' o2 h2))
  refine hcalls.mono fun e' w' hpost => ?_
  obtain ⟨v,rfl,hst⟩ := h.join o.dst (ks := z.ks m xs) hpost z.ok.shut fresh (fun id hid => by
   cases e : mget z.M0 id with
   | none => exact absurd e hid
   | some o' => exact ⟨by rw [hksr]; exact List.mem_map.2 ⟨_,mget_mem e,rfl⟩,o',hIn id o' e⟩) (fun b ⟨id,o',h1,h2⟩ => ⟨id,o',by rw [h1]; simp,hIn id o' h1,h2⟩) (.inr hks)
  exact hK _ _ hst
 | false =>
  have hM00 := z.r0 hraw
  simp only [hraw,Bool.false_eq_true,if_false] at hargs
  obtain ⟨hl,hg⟩ := frzAVs_get hargs
  have hno : ∀ id,¬ (mget z.M0 id ≠ none) := fun id => by rw [hM00]; simp [mget]
  have go : ∀ (T : Nat → Prop),(∀ b,T b → b < w.heap.size) → (∀ b,Sof w0 φ m w b → T b) → (∀ x ∈ xs,∀ id o' b,id ∈ reachAV m x → m id = some o' → φ id b → T b) → ((z.clean = true) ∨ ∀ b,T b → Sof w0 φ (mupd m (kills (z.ks m xs))) w b) → ∀ (R : Ending → World → Prop),(∀ v w',St w0 N (fput f o.dst z.ans) (mupd m (kills (z.ks m xs) ++ outs z.M1)) (a.put o.dst v) w' → R (.returned v) w') → Calls P z.g vals.toArray w R := fun T hTs hT hTr hTc R hR => by
   have hcalls := z.ok.calls T (fun _ => False) ρ φ w vals (fun b hb => ⟨hTs b hb,fun h => h⟩) (fun b h => h.elim) (by rw [hl]; exact hrel.1) (fun i x v hx hv => by
     have hil : i < xs.length := by rw [← hl]; exact (List.getElem?_eq_some_iff.1 hx).1
     obtain ⟨y,hy,hf⟩ := hg i _ (List.getElem?_eq_getElem hil)
     rw [hx] at hy
     injection hy with hy
     subst hy
     exact frzAV_ok h hf (hrel.2 i _ v (List.getElem?_eq_getElem hil) hv) hT (hTr _ (List.getElem_mem hil)))
    (fun id o' hi => absurd (by rw [hi]; simp) (hno id)) (fun id o' b hi => absurd (by rw [hi]; simp) (hno id)) (fun id id' o1 o2 b h1 => absurd (by rw [h1]; simp) (hno id))
   refine hcalls.mono fun e' w' hpost => ?_
   obtain ⟨v,rfl,hst⟩ := h.join o.dst (ks := z.ks m xs) hpost z.ok.shut fresh (fun id hid => absurd hid (hno id)) (fun b h => h.elim) (hTc.imp (fun hcl => by
    simp only [Fact.clean,Bool.and_eq_true] at hcl
    exact ⟨hcl.1,fun i o' hi => by
     have := List.all_eq_true.1 hcl.2 _ (mget_mem hi)
     exact this⟩) id)
   exact hR _ _ hst
  by_cases hcl : z.clean = true
  · exact go (fun b => b < w.heap.size) (fun _ h => h) (fun b hb => hb.1) (fun x _ id o' b _ hm hf => h.lt id o' b hm hf) (.inl hcl) _ fun v w' hst => hK _ _ hst
  ·
   have hksf : z.ks m xs = xs.flatMap (reachAV m) := by simp [Fact.ks,hraw,hcl]
   refine go (Sof w0 φ (mupd m (kills (z.ks m xs))) w) (fun b hb => hb.1) hks (fun x hx id o' b hid hm hf => ⟨h.lt id o' b hm hf,fun i o1 hi hf1 => ?_,?_⟩) (.inr fun _ h => h) _ fun v w' hst => hK _ _ hst
   ·
    rw [mupd_kills] at hi
    split at hi
    · cases hi
    ·
     rename_i hni
     rw [h.disj i id o1 o' b hi hm hf1 hf,hksf] at hni
     exact hni (List.mem_flatMap.2 ⟨x,hx,hid⟩)
   ·
    rcases h.base id o' b hm hf with h1 | h1
    · exact .inr (.inl h1)
    · exact .inr (.inr h1)
end
section
variable {P : Program} {w0 : Bas} {N : Nat} {ρ ρ' : Place} {φ φ' : Foot} {f : Nat → AV} {m : Nm → Option AObj} {a : Act} {w w' : World} {o : Oper}

def intOfAV (k : IntKind) : AV → Option Int
 | .one (.d (.int k' n)) => if k' = k then some n else none
 | _ => none
def foldI (isMax : Bool) (x : Int) : List Int → Int
 | [] => x
 | y :: r => foldI isMax (if isMax then (if y > x then y else x) else (if y < x then y else x)) r
theorem ints_ok (h : StR w0 N ρ φ f m a w) {k : IntKind} : ∀ {xs : List Operand} {ns : List Int},mapO (fun x => intOfAV k (aeval N f x)) xs = some ns → xs.map a.eval = ns.map (Value.int k)
 | [],ns,e => by simp only [mapO,Option.some.injEq] at e; subst e; rfl
 | x :: xs,ns,e => by
  simp only [mapO] at e
  split at e
  ·
   rename_i n ns' h1 h2
   injection e with e
   subst e
   have hx : aeval N f x = .one (.d (.int k n)) := by
    unfold intOfAV at h1
    split at h1
    ·
     rename_i k' n' he
     split at h1
     ·
      rename_i hk
      subst hk
      injection h1 with h1
      subst h1
      exact he
     · cases h1
    · cases h1
   simp only [List.map_cons,av_int h hx,ints_ok h h2]
  · cases e
theorem run_min (k : IntKind) : ∀ (ns : List Int) (x : Int),((ns.map (Value.int k)).foldlM Builtin.min2 (.int k x)).run P w = .ok (.int k (foldI false x ns)) w
 | [],x => by simp [foldI]
 | y :: ns,x => by
  simp only [List.map_cons,List.foldlM_cons,Sem.run_bind,Builtin.min2,Sem.run_pure,Result.andThen_ok,foldI]
  exact run_min k ns _
theorem run_max (k : IntKind) : ∀ (ns : List Int) (x : Int),((ns.map (Value.int k)).foldlM Builtin.max2 (.int k x)).run P w = .ok (.int k (foldI true x ns)) w
 | [],x => by simp [foldI]
 | y :: ns,x => by
  simp only [List.map_cons,List.foldlM_cons,Sem.run_bind,Builtin.max2,Sem.run_pure,Result.andThen_ok,foldI]
  exact run_max k ns _
theorem so_minmax (h : StR w0 N ρ φ f m a w) (c : Call) (isMax : Bool) (k : IntKind) (x : Operand) (xs : List Operand) (n : Int) (ns : List Int) (ho : o.op = .call c) (hc : c.callee = .builtin (if isMax then .max else .min)) (ha : c.args.toList = x :: xs) (hx : aeval N f x = .one (.d (.int k n))) (hxs : mapO (fun x => intOfAV k (aeval N f x)) xs = some ns) :
  Does P w0 N f m o a w (.one (.d (.int k (foldI isMax n ns)))) [] := by
 have e1 := ints_ok h hxs
 have e2 : (c.args.map a.eval).toList = Value.int k n :: ns.map (Value.int k) := by rw [Array.toList_map,ha,List.map_cons,av_int h hx,e1]
 refine does_pure h (u := .int k (foldI isMax n ns)) ?_ (View.int _ _)
 cases isMax
 · simp only [execOp,ho,resolve,hc,invoke,builtin,Sem.run_bind,Sem.run_pure,Result.andThen_ok,Bool.false_eq_true,if_false,Builtin.min_,e2,run_min]
 · simp only [execOp,ho,resolve,hc,invoke,builtin,Sem.run_bind,Sem.run_pure,Result.andThen_ok,if_true,Builtin.max_,e2,run_max]

def tFldV (P : Program) (s : TypeId) (i : Nat) : Option (Nat × Option Nat) :=
 match P.underlying s with
 | some (.struct fs) => match fs[i]? with
  | some fd => (tShape P fd.type).map fun sh => (fd.offset,sh)
  | none => none
 | _ => none
def cutAV (l : List Cell) (off : Nat) : Option Nat → Option AV
 | some n => if off + n ≤ l.length then some (.agg ((l.drop off).take n)) else none
 | none => (l[off]?).map .one
theorem so_field (h : StR w0 N ρ φ f m a w) (s : TypeId) (x : Operand) (i off : Nat) (sh : Option Nat) (l : List Cell) (y : AV) (ho : o.op = .field s x i) (hx : aeval N f x = .agg l) (ht : tFldV P s i = some (off,sh)) (hy : cutAV l off sh = some y) : Does P w0 N f m o a w y [] := by
 have hv := aeval_ok h x
 rw [hx] at hv
 obtain ⟨vs,e,hcv⟩ := hv
 unfold tFldV at ht
 split at ht
 ·
  rename_i fs hu
  split at ht
  ·
   rename_i fd hf
   obtain ⟨sh',hsh,e2⟩ := Option.map_eq_some_iff.1 ht
   injection e2 with e2 e3
   subst e2 e3
   cases sh' with
   | some n =>
    obtain ⟨d,hd1,hd2,hd3⟩ := tShape_row hsh
    simp only [cutAV] at hy
    split at hy
    ·
     rename_i hn
     injection hy with hy
     subst hy
     obtain ⟨inf,hinf,hsz⟩ : ∃ inf,P.info? fd.type = some inf ∧ inf.size = n := by
      cases hi : P.info? fd.type with
      | none => rw [hi] at hd3; cases hd3
      | some inf => rw [hi] at hd3; exact ⟨inf,rfl,by simpa using hd3⟩
     refine does_pure h (u := .agg (vs.toArray.extract fd.offset (fd.offset + n))) ?_ ⟨(vs.drop fd.offset).take n,by simp,by simp [hcv.1],fun j c v hj hvj => ?_⟩
     ·
      have hagg : (isAgg fd.type).run P w = .ok true w := by
       unfold isAgg
       rw [Sem.run_bind,run_underlying hd1 w]
       cases d <;> simp_all [TypeDesc.isRow]
      simp only [execOp,ho,e,Instr.field,Sem.run_bind,run_underlying hu,Result.andThen_ok,hf,asAgg,Sem.run_pure,part,hagg,sizeOf,typeInfo]
      simp [hinf,hsz]
     ·
      rw [List.getElem?_take] at hj hvj
      split at hj
      ·
       rename_i hlt
       rw [if_pos hlt] at hvj
       rw [List.getElem?_drop] at hj hvj
       exact hcv.2 _ c v hj hvj
      · cases hj
    · cases hy
   | none =>
    obtain ⟨d,hd1,hd2,hd3⟩ := tShape_one hsh
    simp only [cutAV,Option.map_eq_some_iff] at hy
    obtain ⟨c,hc,rfl⟩ := hy
    have hlt : fd.offset < vs.length := by rw [hcv.1]; exact (List.getElem?_eq_some_iff.1 hc).1
    refine does_pure h (u := vs[fd.offset]) ?_ (hcv.2 _ c _ hc (List.getElem?_eq_getElem hlt)).1
    have hagg : (isAgg fd.type).run P w = .ok false w := by
     unfold isAgg
     rw [Sem.run_bind,run_underlying hd1 w]
     cases d <;> simp_all [TypeDesc.isRow]
    simp only [execOp,ho,e,Instr.field,Sem.run_bind,run_underlying hu,Result.andThen_ok,hf,asAgg,Sem.run_pure,part,hagg]
    simp [hlt]
  · cases ht
 · cases ht

def tFlat (P : Program) (t : TypeId) : Option Nat :=
 if P.eqGuardType P.depth t = false then
  match P.underlying t with
  | some (.struct fs) => if P.stoodInHeld t = false ∧ (fs.toList.zipIdx.all fun (f,i) => f.name != "_" && f.offset == i && (match P.underlying f.type with | some (.int _) => true | _ => false)) = true then some fs.size else none
  | some (.array n e) => match P.underlying e with
   | some (.int _) => if P.cellsOf e = 1 then some n else none
   | _ => none
  | _ => none
 else none
def flatI : List Cell → Option (List (IntKind × Int))
 | [] => some []
 | .d (.int k n) :: r => match flatI r with
  | some l => some ((k,n) :: l)
  | none => none
 | _ :: _ => none
def eqI : List (IntKind × Int) → List (IntKind × Int) → Bool
 | [],[] => true
 | x :: xs,y :: ys => (x.2 == y.2) && eqI xs ys
 | _,_ => false
theorem flatI_ok {S : Nat → Prop} : ∀ {l : List Cell} {ns : List (IntKind × Int)} {vs : List Value},flatI l = some ns → CVs ρ S w l vs → vs = ns.map fun p => Value.int p.1 p.2
 | [],ns,vs,h,hc => by
  simp only [flatI,Option.some.injEq] at h
  subst h
  exact List.eq_nil_of_length_eq_zero hc.1
 | c :: l,ns,vs,h,hc => by
  cases c with
  | d c =>
   cases c with
   | int k n =>
    simp only [flatI] at h
    split at h
    ·
     rename_i ns' h1
     injection h with h
     subst h
     cases vs with
     | nil => simp [CVs] at hc
     | cons v vs =>
      have h2 := (hc.2 0 _ v rfl rfl).1
      rw [cv_int (ρ := ρ) h2]
      rw [flatI_ok h1 (⟨by simpa using hc.1,fun i c' v' hi hv => hc.2 (i + 1) c' v' (by simpa using hi) (by simpa using hv)⟩ : CVs ρ S w l vs)]
      rfl
    · cases h
   | _ => cases h
  | _ => cases h
theorem run_part_int {t : TypeId} {k0 : IntKind} (hu : P.underlying t = some (.int k0)) {xs : Array Value} {i : Nat} {v : Value} (hv : xs[i]? = some v) : (part t xs i).run P w = .ok v w := by
 have hagg : (isAgg t).run P w = .ok false w := by
  unfold isAgg
  rw [Sem.run_bind,run_underlying hu w]
  rfl
 simp only [part,Sem.run_bind,hagg,Result.andThen_ok]
 simp [hv]
theorem run_fields (d : Nat) (xs ys : Array Value) : ∀ (fs : List Field) (k : Nat) (ns ms : List (IntKind × Int)),(fs.zipIdx k).all (fun (f,i) => f.name != "_" && f.offset == i && (match P.underlying f.type with | some (.int _) => true | _ => false)) = true →
  ns.length = fs.length → ms.length = fs.length → ns.map (·.1) = ms.map (·.1) → (∀ j p,ns[j]? = some p → xs[k + j]? = some (.int p.1 p.2)) → (∀ j p,ms[j]? = some p → ys[k + j]? = some (.int p.1 p.2)) →
  (Op.eqFields (d + 1) xs ys fs).run P w = .ok (eqI ns ms) w
 | [],k,ns,ms,_,h1,h2,_,_,_ => by
  have e1 : ns = [] := List.eq_nil_of_length_eq_zero h1
  have e2 : ms = [] := List.eq_nil_of_length_eq_zero h2
  subst e1 e2
  simp [Op.eqFields,eqI]
 | f :: fs,k,ns,ms,hall,h1,h2,hk,hx,hy => by
  match ns,ms,h1,h2,hk,hx,hy with
  | p :: ns,q :: ms,h1,h2,hk,hx,hy =>
   simp only [List.zipIdx_cons,List.all_cons,Bool.and_eq_true,bne_iff_ne,ne_eq,beq_iff_eq] at hall
   obtain ⟨⟨⟨hn,hoff⟩,hty⟩,hall⟩ := hall
   simp only [List.map_cons,List.cons.injEq] at hk
   cases hu : P.underlying f.type with
   | none => rw [hu] at hty; cases hty
   | some td =>
    cases td with
    | int k0 =>
     have e1 := run_part_int (P := P) (w := w) hu (hx 0 p rfl)
     have e2 := run_part_int (P := P) (w := w) hu (hy 0 q rfl)
     rw [Nat.add_zero,← hoff] at e1 e2
     obtain ⟨pk,pn⟩ := p
     obtain ⟨qk,qn⟩ := q
     simp only at hk e1 e2
     obtain ⟨hk0,hk⟩ := hk
     subst hk0
     have e3 := run_equalIn_int (P := P) w d f.type pk k0 pn qn hu
     have ih := run_fields d xs ys fs (k + 1) ns ms hall (by simpa using h1) (by simpa using h2) hk (fun j p hj => by have := hx (j + 1) p (by simpa using hj); rwa [show k + (j + 1) = k + 1 + j by omega] at this) (fun j p hj => by have := hy (j + 1) p (by simpa using hj); rwa [show k + (j + 1) = k + 1 + j by omega] at this)
     simp only [Op.eqFields,hn,ne_eq,not_false_eq_true,if_true,Sem.run_bind,e1,e2,e3,Result.andThen_ok,eqI]
     cases (pn == qn)
     · simp
     · simpa using ih
    | _ => rw [hu] at hty; cases hty
theorem run_items (d : Nat) {e : TypeId} {k0 : IntKind} (hu : P.underlying e = some (.int k0)) (xs ys : Array Value) : ∀ (n k : Nat) (ns ms : List (IntKind × Int)),
  ns.length = n → ms.length = n → ns.map (·.1) = ms.map (·.1) → (∀ j p,ns[j]? = some p → xs[k + j]? = some (.int p.1 p.2)) → (∀ j p,ms[j]? = some p → ys[k + j]? = some (.int p.1 p.2)) →
  (Op.eqItems (d + 1) e 1 xs ys (List.range' k n)).run P w = .ok (eqI ns ms) w
 | 0,k,ns,ms,h1,h2,_,_,_ => by
  have e1 : ns = [] := List.eq_nil_of_length_eq_zero h1
  have e2 : ms = [] := List.eq_nil_of_length_eq_zero h2
  subst e1 e2
  simp [Op.eqItems,eqI]
 | n + 1,k,ns,ms,h1,h2,hk,hx,hy => by
  match ns,ms,h1,h2,hk,hx,hy with
  | p :: ns,q :: ms,h1,h2,hk,hx,hy =>
   simp only [List.map_cons,List.cons.injEq] at hk
   have e1 := run_part_int (P := P) (w := w) hu (hx 0 p rfl)
   have e2 := run_part_int (P := P) (w := w) hu (hy 0 q rfl)
   rw [Nat.add_zero] at e1 e2
   obtain ⟨pk,pn⟩ := p
   obtain ⟨qk,qn⟩ := q
   simp only at hk e1 e2
   obtain ⟨hk0,hk⟩ := hk
   subst hk0
   have e3 := run_equalIn_int (P := P) w d e pk k0 pn qn hu
   have ih := run_items d hu xs ys n (k + 1) ns ms (by simpa using h1) (by simpa using h2) hk (fun j p hj => by have := hx (j + 1) p (by simpa using hj); rwa [show k + (j + 1) = k + 1 + j by omega] at this) (fun j p hj => by have := hy (j + 1) p (by simpa using hj); rwa [show k + (j + 1) = k + 1 + j by omega] at this)
   simp only [List.range'_succ,Op.eqItems,Nat.mul_one,Sem.run_bind,e1,e2,e3,Result.andThen_ok,eqI]
   cases (pn == qn)
   · simp
   · simpa using ih
theorem run_flat {t : TypeId} {n : Nat} (ht : tFlat P t = some n) {ns ms : List (IntKind × Int)} (h1 : ns.length = n) (h2 : ms.length = n) (hk : ns.map (·.1) = ms.map (·.1)) :
  (Op.equalIn 10000 t (.agg (ns.map fun p => Value.int p.1 p.2).toArray) (.agg (ms.map fun p => Value.int p.1 p.2).toArray)).run P w = .ok (eqI ns ms) w := by
 unfold tFlat at ht
 have get : ∀ (l : List (IntKind × Int)) (j : Nat) (p : IntKind × Int),l[j]? = some p → (l.map fun p => Value.int p.1 p.2).toArray[0 + j]? = some (.int p.1 p.2) := fun l j p hj => by
  rw [Nat.zero_add,List.getElem?_toArray,List.getElem?_map,hj]
  rfl
 split at ht
 ·
  split at ht
  ·
   rename_i fs hu
   split at ht
   ·
    rename_i hc
    injection ht with ht
    have hfs : P.fieldsOf t = fs := by simp [Program.fieldsOf,hu]
    rw [show (10000 : Nat) = 9999 + 1 from rfl,run_equalIn_struct w 9999 t _ _ (by rw [hfs]; exact hu) hc.1,hfs]
    exact run_fields 9998 _ _ fs.toList 0 ns ms hc.2 (by simpa [h1] using ht.symm) (by simpa [h2] using ht.symm) hk (get ns) (get ms)
   · cases ht
  ·
   rename_i n' e hu
   split at ht
   ·
    rename_i k0 hue
    split at ht
    ·
     rename_i hce
     injection ht with ht
     subst ht
     obtain ⟨i,hi⟩ := info_of_underlying hue
     rw [show (10000 : Nat) = 9999 + 1 from rfl,run_equalIn_array w 9999 _ _ hu hi,hce,List.range_eq_range']
     exact run_items 9998 hue _ _ n' 0 ns ms h1 h2 hk (get ns) (get ms)
    · cases ht
   · cases ht
  · cases ht
 · cases ht
def aggOp (op : BinOp) (b : Bool) : Option C :=
 match op with
 | .eql => some (.bool b)
 | .neq => some (.bool (!b))
 | _ => none
theorem so_eqAgg (h : StR w0 N ρ φ f m a w) (op : BinOp) (t yt : TypeId) (x y : Operand) (l l' : List Cell) (n : Nat) (ns ms : List (IntKind × Int)) (c : C) (ho : o.op = .binOp op t x y yt) (ht : tFlat P t = some n) (hx : aeval N f x = .agg l) (hy : aeval N f y = .agg l') (h1 : flatI l = some ns) (h2 : flatI l' = some ms)
  (hn : ns.length = n) (hm : ms.length = n) (hk : ns.map (·.1) = ms.map (·.1)) (hc : aggOp op (eqI ns ms) = some c) : Does P w0 N f m o a w (.one (.d c)) [] := by
 have hv := aeval_ok h x
 rw [hx] at hv
 obtain ⟨vs,e1,hcv⟩ := hv
 have hv := aeval_ok h y
 rw [hy] at hv
 obtain ⟨us,e2,hcu⟩ := hv
 have e3 := flatI_ok h1 hcv
 have e4 := flatI_ok h2 hcu
 subst e3 e4
 have hrun := run_flat (P := P) (w := w) ht hn hm hk
 have hg : P.eqGuardType P.depth t = false := by
  unfold tFlat at ht
  split at ht
  · assumption
  · cases ht
 unfold aggOp at hc
 split at hc
 ·
  injection hc with hc
  subst hc
  exact does_pure h (u := .bool (eqI ns ms)) (by simp only [execOp,ho,e1,e2,Sem.run_bind,run_eqGuard_agg w _ t x y _ _ hg,run_eql_struct,hrun,Result.andThen_ok,Sem.run_pure]) (View.bool _)
 ·
  injection hc with hc
  subst hc
  exact does_pure h (u := .bool (!eqI ns ms)) (by simp only [execOp,ho,e1,e2,Sem.run_bind,run_eqGuard_agg w _ t x y _ _ hg,run_neq_struct,hrun,Result.andThen_ok,Sem.run_pure]) (View.bool _)
 · cases hc

def nilOp (op : BinOp) (c : Cell) : Option Cell :=
 match op,c with
 | .eql,.nil => some (.d (.bool true))
 | .neq,.nil => some (.d (.bool false))
 | .eql,.d (.sl l) => some (.bb true l.length)
 | .neq,.d (.sl l) => some (.bb false l.length)
 | .eql,.own _ n => some (.bb true n)
 | .neq,.own _ n => some (.bb false n)
 | _,_ => none
theorem so_nil (h : StR w0 N ρ φ f m a w) (op : BinOp) (t yt : TypeId) (x y : Operand) (c c' : Cell) (ho : o.op = .binOp op t x y yt) (ht : (tElt P t).isSome = true) (hx : aeval N f x = .one c) (hy : aeval N f y = .one .nil) (hc : nilOp op c = some c') : Does P w0 N f m o a w (.one c') [] := by
 have hv := aeval_ok h x
 rw [hx] at hv
 have hvy := aeval_ok h y
 rw [hy] at hvy
 have ey : a.eval y = .slice none 0 0 := hvy
 obtain ⟨⟨el,sz,by_⟩,he⟩ := Option.isSome_iff_exists.1 ht
 have hu := (tElt_ok he).1
 have sl : ∃ A n cap,a.eval x = .slice A n cap ∧ (c = .nil → A = none) ∧ (∀ l,c = .d (.sl l) → A = none → l.length = 0) ∧ (∀ i k,c = .own i k → A = none → k = 0) := by
  unfold nilOp at hc
  split at hc
  · exact ⟨none,0,0,hv,fun _ => rfl,fun l e => (by cases e),fun i k e => (by cases e)⟩
  · exact ⟨none,0,0,hv,fun _ => rfl,fun l e => (by cases e),fun i k e => (by cases e)⟩
  all_goals first
   | (cases hc; done)
   | skip
  ·
   rename_i l
   have hv' : View (Sof w0 φ m w) w (.sl l) (a.eval x) := hv
   generalize a.eval x = v at hv' ⊢
   cases hv' with
   | sl _ sz A cap u hsz hcap hb hA hu =>
    refine ⟨A,_,cap,rfl,fun h => (by cases h),fun l' e hn => ?_,fun i k e => (by cases e)⟩
    injection e with e; injection e with e; subst e
    cases hl : l.length with
    | zero => rfl
    | succ k =>
     obtain ⟨b,q,e1,_⟩ := hA (by omega)
     rw [hn] at e1
     cases e1
  ·
   rename_i l
   have hv' : View (Sof w0 φ m w) w (.sl l) (a.eval x) := hv
   generalize a.eval x = v at hv' ⊢
   cases hv' with
   | sl _ sz A cap u hsz hcap hb hA hu =>
    refine ⟨A,_,cap,rfl,fun h => (by cases h),fun l' e hn => ?_,fun i k e => (by cases e)⟩
    injection e with e; injection e with e; subst e
    cases hl : l.length with
    | zero => rfl
    | succ k =>
     obtain ⟨b,q,e1,_⟩ := hA (by omega)
     rw [hn] at e1
     cases e1
  ·
   rename_i id n
   rcases hv with ⟨b,base,cap,hr,hv⟩ | ⟨hr,hn,A,hv⟩
   · exact ⟨_,_,_,hv,fun h => (by cases h),fun l e => (by cases e),fun i k e hn => (by cases hn)⟩
   ·
    subst hn
    exact ⟨_,_,_,hv,fun h => (by cases h),fun l e => (by cases e),fun i k e _ => by injection e with _ e; exact e.symm⟩
  ·
   rename_i id n
   rcases hv with ⟨b,base,cap,hr,hv⟩ | ⟨hr,hn,A,hv⟩
   · exact ⟨_,_,_,hv,fun h => (by cases h),fun l e => (by cases e),fun i k e hn => (by cases hn)⟩
   ·
    subst hn
    exact ⟨_,_,_,hv,fun h => (by cases h),fun l e => (by cases e),fun i k e _ => by injection e with _ e; exact e.symm⟩
 obtain ⟨A,n,cap,ex,hA,hD,hO⟩ := sl
 have none_of : A.isNone = true → A = none := fun h => by cases A with | none => rfl | some _ => cases h
 have hq : (Op.equal t (.slice A n cap) (.slice none 0 0)).run P w = .ok A.isNone w := run_equal_slice_nil w t el A n cap hu
 have hgoal : op = .eql ∧ CV ρ (Sof w0 φ m w) w c' (.bool A.isNone) ∨ op = .neq ∧ CV ρ (Sof w0 φ m w) w c' (.bool (!A.isNone)) := by
  unfold nilOp at hc
  split at hc
  · injection hc with hc; subst hc; rw [hA rfl]; exact .inl ⟨rfl,View.bool _⟩
  · injection hc with hc; subst hc; rw [hA rfl]; exact .inr ⟨rfl,View.bool _⟩
  · injection hc with hc; subst hc; exact .inl ⟨rfl,_,rfl,fun h => hD _ rfl (none_of h)⟩
  · injection hc with hc; subst hc; exact .inr ⟨rfl,_,rfl,fun h => hD _ rfl (none_of (by cases e : A.isNone <;> simp [e] at h ⊢))⟩
  · injection hc with hc; subst hc; exact .inl ⟨rfl,_,rfl,fun h => hO _ _ rfl (none_of h)⟩
  · injection hc with hc; subst hc; exact .inr ⟨rfl,_,rfl,fun h => hO _ _ rfl (none_of (by cases e : A.isNone <;> simp [e] at h ⊢))⟩
  · cases hc
 rcases hgoal with ⟨rfl,hg⟩ | ⟨rfl,hg⟩
 · exact does_pure h (u := .bool A.isNone) (by simp [execOp,ho,ex,ey,eqGuard,binOp,hq]) hg
 · exact does_pure h (u := .bool (!A.isNone)) (by simp [execOp,ho,ex,ey,eqGuard,binOp,hq]) hg

def sumOf : AV → Option (List C ⊕ C)
 | .agg l => (mapO (fun c => match c with | .d d => some d | _ => none) l).map .inl
 | .one (.d c) => some (.inr c)
 | _ => none
def ptrOf : AV → Option (Nm × Nat)
 | .one (.ptr id off) => some (id,off)
 | _ => none
def dOf : AV → Option C
 | .one (.d c) => some c
 | _ => none
def funcOf (g : FuncId) (first caps : List AV) : Option Cell :=
 match mapO sumOf first,mapO dOf caps with
 | some fs,some cs => some (.d (.fn g fs cs))
 | _,_ => match first,mapO ptrOf caps with
  | [],some ps => some (.fnp g ps)
  | _,_ => none
theorem so_makeFunc (h : StR w0 N ρ φ f m a w) (g : FuncId) (first caps : Array Operand) (c : Cell) (ho : o.op = .makeFunc (.func g) first caps) (hc : funcOf g (first.toList.map (aeval N f)) (caps.toList.map (aeval N f)) = some c) : Does P w0 N f m o a w (.one c) [] := by
 refine does_pure h (u := .func (.func g) (first.map a.eval) (caps.map a.eval)) (by simp [execOp,ho,Instr.makeFunc]) ?_
 have rel : ∀ (xs : Array Operand) (i : Nat) (x : AV),(xs.toList.map (aeval N f))[i]? = some x → ∃ v,(xs.map a.eval)[i]? = some v ∧ AVR ρ (Sof w0 φ m w) w x v := fun xs i x hx => by
  rw [List.getElem?_map] at hx
  obtain ⟨q,hq,rfl⟩ := Option.map_eq_some_iff.1 hx
  have hq' : xs[i]? = some q := by simpa using hq
  exact ⟨a.eval q,by simp [hq'],aeval_ok h q⟩
 unfold funcOf at hc
 split at hc
 ·
  rename_i fs cs h1 h2
  injection hc with hc
  subst hc
  obtain ⟨hl1,hg1⟩ := mapO_get h1
  obtain ⟨hl2,hg2⟩ := mapO_get h2
  have firsts : ∀ (i : Nat) (y : List C ⊕ C),fs[i]? = some y → ∃ v,(first.map a.eval)[i]? = some v ∧ match y with
    | .inl l => ∃ vs : List Value,v = .agg vs.toArray ∧ vs.length = l.length ∧ ∀ (j : Nat) (c : C) (u : Value),l[j]? = some c → vs[j]? = some u → View (Sof w0 φ m w) w c u
    | .inr c => View (Sof w0 φ m w) w c v := fun i y hy => by
   obtain ⟨x,hx,hsum⟩ := hg1 i y hy
   obtain ⟨v,hv,hav⟩ := rel first i x hx
   refine ⟨v,hv,?_⟩
   unfold sumOf at hsum
   split at hsum
   ·
    obtain ⟨l,hl,rfl⟩ := Option.map_eq_some_iff.1 hsum
    obtain ⟨vs,e,hcv⟩ := hav
    obtain ⟨hll,hlg⟩ := mapO_get hl
    refine ⟨vs,e,by rw [hcv.1,hll],fun j c u hj hu => ?_⟩
    obtain ⟨c',hc',hd⟩ := hlg j c hj
    split at hd
    ·
     injection hd with hd
     subst hd
     exact (hcv.2 j _ u hc' hu).1
    · cases hd
   ·
    injection hsum with hsum
    subst hsum
    exact hav
   · cases hsum
  refine View.fn g fs cs _ _ (fun i => ((first.map a.eval)[i]?.getD undef).cells.toList) (by simpa using hl1.symm) (by simpa using hl2.symm) (fun i l hi => ?_) (fun i l j c v hi hj hv => ?_) (fun i c v hi hv => ?_) fun i c v hi hv => ?_
  ·
   obtain ⟨v,hv,vs,rfl,hl,_⟩ := firsts i _ hi
   rw [hv]
   exact ⟨by simp [Value.cells],by simpa [Value.cells] using hl⟩
  ·
   obtain ⟨v',hv',vs,rfl,hl,hcs⟩ := firsts i _ hi
   rw [hv'] at hv
   exact hcs j c v hj (by simpa [Value.cells] using hv)
  ·
   obtain ⟨v',hv',hview⟩ := firsts i _ hi
   rw [hv'] at hv
   injection hv with hv
   subst hv
   exact hview
  ·
   obtain ⟨x,hx,hd⟩ := hg2 i c hi
   obtain ⟨v',hv',hav⟩ := rel caps i x hx
   rw [hv'] at hv
   injection hv with hv
   subst hv
   unfold dOf at hd
   split at hd
   ·
    injection hd with hd
    subst hd
    exact hav
   · cases hd
 ·
  split at hc
  ·
   rename_i hf hp
   injection hc with hc
   subst hc
   obtain ⟨hl,hg⟩ := mapO_get hp
   have hf0 : first.map a.eval = #[] := by
    have : first.toList = [] := by simpa using hf
    apply Array.ext'
    simp [this]
   refine ⟨caps.map a.eval,by rw [hf0],by simpa using hl.symm,fun i p x hpi hx => ?_⟩
   obtain ⟨y,hy,hpo⟩ := hg i p hpi
   obtain ⟨v',hv',hav⟩ := rel caps i y hy
   rw [hv'] at hx
   injection hx with hx
   subst hx
   unfold ptrOf at hpo
   split at hpo
   ·
    injection hpo with hpo
    subst hpo
    exact hav
   · cases hpo
  · cases hc

theorem so_clear (h : StR w0 N ρ φ f m a w) (x : Operand) (t : Nat) (e sz by_ : Nat) (cs : Cell) (id : Nm) (off : Nat) (l0 l : List (List Cell)) (zs : List Value) (ho : o.op = .call { callee := .builtin .clear,args := #[x],argTypes := #[t] })
  (ht : tElt P t = some (e,sz,by_)) (hz : tZero P e = some zs) (hzl : zs.length = sz) (hkn : (zs.map ofVal).all Cell.known = true) (hx : aeval N f x = .one cs) (hd : rowsOf m cs = some l) (hat : dstAt cs = some (id,off)) (hm : m id = some (.row e sz l0)) (hsub : ∀ i s o n,cs = .sub i s o n → s = sz) :
  Does P w0 N f m o a w (.tup []) [(id,some (.row e sz (lay l0 off (List.replicate l.length (zs.map ofVal)))))] := by
 obtain ⟨hu,inf,hi,h1,h2⟩ := tElt_ok ht
 obtain ⟨z,hz,hzs,hzsz⟩ := zero_of hi hz hzl
 have hv := aeval_ok h x
 rw [hx] at hv
 have hr : RowsV ρ (Sof w0 φ m w) w sz (List.replicate l.length (zs.map ofVal)) (zrep l.length zs) := ⟨by rw [zrep_length,List.length_replicate,hzl],fun i r hi => ⟨(rep_cells hzl hkn i r hi).1,fun j d hj => by
  obtain ⟨h3,v,h4,h5,h6⟩ := (rep_cells hzl hkn i r hi).2 j d hj
  exact ⟨h3,v,h4,h5 _ _ _,h6⟩⟩⟩
 obtain ⟨A,n,cap,es,hn,hcase⟩ := over_ok h hd hat hm hsub hv (by rw [List.length_replicate]; exact Nat.le_refl _) hr
 subst hn
 have hzc : Builtin.zeroCells z.cells l.length = (zrep l.length zs).toArray := by
  have := made_zrep z.cells l.length
  rw [hzs] at this
  exact this
 have em : ∀ X,mupd m [(id,some X)] = mset m id (some X) := fun _ => rfl
 have htup : AVR ρ (Sof w0 φ m w) w (.tup []) (.tuple #[]) := ⟨[],rfl,rfl,fun i x v h => by simp at h⟩
 intro K Q hK
 rcases hcase with ⟨hl0,hu0⟩ | ⟨b,p,cur,rfl,hh,hfit,hst⟩
 ·
  have hl1 : l = [] := by
   cases l with
   | nil => rfl
   | cons r rs => simp [List.replicate_succ] at hl0
  subst hl1
  have hw : (execOp a.eval o).run P w = .ok (.value (.tuple #[])) w := by
   simp only [execOp,ho,resolve,invoke,builtin,Sem.run_bind,Sem.run_pure,Result.andThen_ok,List.map_toArray,List.map_cons,List.map_nil,es]
   cases A <;> simp [Builtin.clear_,run_underlying hu]
  refine wp_of_run hw (hK _ _ ⟨ρ,φ,?_⟩)
  have hlay : lay l0 off (List.replicate ([] : List (List Cell)).length (zs.map ofVal)) = l0 := by simp [lay]
  rw [em,hlay]
  have : mset m id (some (.row e sz l0)) = m := by
   funext i
   simp only [mset]
   split
   · rename_i e9; rw [e9,hm]
   · rfl
  rw [this]
  exact h.put o.dst (x := .tup []) htup
 ·
  have hst2 := run_storeCells_at P b p e (zrep l.length zs) 0 cur w hh (by simpa using hfit) hr.one
  simp only [Nat.add_zero] at hst2
  have hw : (execOp a.eval o).run P w = .ok (.value (.tuple #[])) (w.setRow b (lay cur.toList p (zrep l.length zs)).toArray) := by
   simp only [execOp,ho,resolve,invoke,builtin,Sem.run_bind,Sem.run_pure,Result.andThen_ok,List.map_toArray,List.map_cons,List.map_nil,es]
   have hclear : (Builtin.clear_ #[t] o.type #[.slice (some ⟨b,p,none⟩) l.length cap]).run P w = .ok (.tuple #[]) (w.setRow b (lay cur.toList p (zrep l.length zs)).toArray) := by
    cases hl : l.length with
    | zero =>
     have e0 : l = [] := List.eq_nil_of_length_eq_zero hl
     subst e0
     simp only [Builtin.clear_,Sem.run_bind]
     simp [run_underlying hu,zrep,lay]
     exact (setRow_self w b cur e (0,0) hh).symm
    | succ n =>
     rw [hl] at hzc hst2
     simp [Builtin.clear_,run_underlying hu,zeroValue,typeInfo,hi,hz,hzc,hst2,lay]
   rw [hclear]
   rfl
  refine wp_of_run hw (hK _ _ ⟨ρ,φ,?_⟩)
  rw [em]
  exact hst.put o.dst (x := .tup []) ⟨[],rfl,rfl,fun i x v h => by simp at h⟩
end
def tMap (P : Program) (t : TypeId) : Option (TypeId × TypeId × Bool × Nat) :=
 match P.underlying t with
 | some (.map kt et) => match P.underlying kt with
  | some (.int _) => some (kt,et,false,1)
  | some (.array _ _) | some (.struct _) => (tFlat P kt).map fun n => (kt,et,true,n)
  | _ => none
 | _ => none
def mIdx (l : List (List Int × C)) (k : List Int) : Nat := l.findIdx fun p => decide (p.1 = k)
def mGet (l : List (List Int × C)) (k : List Int) : Option C := (l[mIdx l k]?).map (·.2)
def mTouch (l : List (List Int × C)) (k : List Int) (z : C) : List (List Int × C) := if mIdx l k < l.length then l else l ++ [(k,z)]
def mSet (l : List (List Int × C)) (i : Nat) (v : C) : List (List Int × C) := l.modify i fun p => (p.1,v)
def mPut (l : List (List Int × C)) (k : List Int) (v : C) : List (List Int × C) := if mIdx l k < l.length then mSet l (mIdx l k) v else l ++ [(k,v)]
def i64s : List Cell → Option (List Int)
 | [] => some []
 | .d (.int .i64 n) :: r => (i64s r).map (n :: ·)
 | _ :: _ => none
def keyAV (ag : Bool) (n : Nat) (x : AV) : Option (List Int) :=
 match ag,x with
 | true,.agg l => match i64s l with
  | some k => if k.length = n then some k else none
  | none => none
 | false,.one (.d (.int .i64 k)) => if n = 1 then some [k] else none
 | _,_ => none
theorem i64s_ok {ρ : Place} {S : Nat → Prop} {w : World} : ∀ {l : List Cell} {ns : List Int} {vs : List Value},i64s l = some ns → CVs ρ S w l vs → vs = ns.map (Value.int .i64)
 | [],ns,vs,h,hc => by
  simp only [i64s,Option.some.injEq] at h
  subst h
  have := hc.1
  simpa using this
 | .d (.int .i64 n) :: r,ns,vs,h,hc => by
  simp only [i64s,Option.map_eq_some_iff] at h
  obtain ⟨ms,h1,rfl⟩ := h
  match vs,hc with
  | [],hc => have := hc.1; simp at this
  | v :: vs,hc =>
   have hv := (hc.2 0 _ v rfl rfl).1
   have : View S w (.int .i64 n) v := hv
   cases this
   rw [i64s_ok h1 (⟨by simpa using hc.1,fun i c' v' hi hv => hc.2 (i + 1) c' v' (by simpa using hi) (by simpa using hv)⟩ : CVs ρ S w r vs)]
   rfl

section
variable {P : Program} {w : World}
theorem keyAV_ok {ρ : Place} {S : Nat → Prop} {ag : Bool} {n : Nat} {x : AV} {k : List Int} {v : Value} (h : keyAV ag n x = some k) (hv : AVR ρ S w x v) : v = keyV ag k ∧ k.length = n := by
 unfold keyAV at h
 split at h
 ·
  rename_i l
  split at h
  ·
   rename_i k' hk
   split at h
   ·
    rename_i hn
    injection h with h
    subst h
    obtain ⟨vs,rfl,hc⟩ := hv
    rw [i64s_ok hk hc]
    exact ⟨by simp [keyV],hn⟩
   · cases h
  · cases h
 ·
  split at h
  ·
   rename_i hn
   injection h with h
   subst h
   have : View S w (.int .i64 _) v := hv
   cases this
   exact ⟨rfl,by simp [hn]⟩
  · cases h
 · cases h
theorem run_checkKey_int {e : TypeId} {k0 : IntKind} (hu : P.underlying e = some (.int k0)) (em : Bool) (d : Nat) (v : Value) : (Instr.checkKey em (d + 1) e v).run P w = .ok () w := by
 unfold Instr.checkKey
 simp [Sem.run_bind,run_underlying hu,Result.andThen_ok]
theorem keyV_get {k : List Int} (j : Nat) (x : Int) (h : k[j]? = some x) : (k.map (Value.int .i64)).toArray[j]? = some (.int .i64 x) := by
 rw [List.getElem?_toArray,List.getElem?_map,h]
 rfl
theorem run_check_flat {t : TypeId} {n : Nat} (ht : tFlat P t = some n) (em : Bool) {k : List Int} (hk : k.length = n) : (Instr.checkKey em 10000 t (.agg (k.map (Value.int .i64)).toArray)).run P w = .ok () w := by
 unfold tFlat at ht
 split at ht
 ·
  split at ht
  ·
   rename_i fs hu
   split at ht
   ·
    rename_i hc
    injection ht with ht
    rw [show (10000 : Nat) = 9998 + 1 + 1 from rfl,Instr.checkKey]
    simp only [Sem.run_bind,run_underlying hu,Result.andThen_ok]
    rw [← Array.forIn_toList]
    have each : ∀ f ∈ fs.toList,∃ x k0,P.underlying f.type = some (.int k0) ∧ (k.map (Value.int .i64)).toArray[f.offset]? = some (.int .i64 x) := fun f hf => by
     obtain ⟨i,hi,hfi⟩ := List.getElem_of_mem hf
     have := List.all_eq_true.1 hc.2 (f,i) (by
      rw [List.mem_zipIdx_iff_getElem?]
      simp only
      rw [← hfi,List.getElem?_eq_getElem hi])
     simp only [Bool.and_eq_true,beq_iff_eq] at this
     obtain ⟨⟨_,hoff⟩,hty⟩ := this
     have hik : i < k.length := by
      rw [hk,← ht]
      simpa using hi
     cases hue : P.underlying f.type with
     | none => rw [hue] at hty; cases hty
     | some d =>
      rw [hue] at hty
      cases d with
      | int k0 => exact ⟨k[i],k0,rfl,by rw [hoff]; exact keyV_get i _ (List.getElem?_eq_getElem hik)⟩
      | _ => cases hty
    generalize fs.toList = L at each
    induction L with
    | nil => simp
    | cons f L ih =>
     obtain ⟨x,k0,hue,hx⟩ := each f (by simp)
     have e1 := run_part_int (P := P) (w := w) hue hx
     simp only [List.forIn_cons,Sem.run_bind]
     by_cases hn : f.name ≠ "_"
     ·
      simp only [hn,if_true,Sem.run_bind,e1,Result.andThen_ok,run_checkKey_int hue em 9998,Sem.run_pure,ne_eq,not_false_eq_true]
      exact ih fun g hg => each g (by simp [hg])
     ·
      simp only [hn,if_false,Sem.run_pure,Result.andThen_ok]
      exact ih fun g hg => each g (by simp [hg])
   · cases ht
  ·
   rename_i n' e hu
   split at ht
   ·
    rename_i k0 hue
    split at ht
    ·
     rename_i hce
     injection ht with ht
     subst ht
     obtain ⟨i,hi⟩ := info_of_underlying hue
     rw [show (10000 : Nat) = 9998 + 1 + 1 from rfl,Instr.checkKey]
     simp only [Sem.run_bind,run_underlying hu,Result.andThen_ok]
     simp only [Std.Legacy.Range.forIn_eq_forIn_range',Std.Legacy.Range.size,Nat.sub_zero,Nat.add_one_sub_one,Nat.div_one]
     have each : ∀ j ∈ List.range' 0 n' 1,∃ x,(k.map (Value.int .i64)).toArray[j]? = some (.int .i64 x) := fun j hj => by
      have hjk : j < k.length := by
       rw [List.mem_range'_1] at hj
       omega
      exact ⟨k[j],keyV_get j _ (List.getElem?_eq_getElem hjk)⟩
     generalize List.range' 0 n' 1 = is at each
     induction is with
     | nil => simp
     | cons j is ih =>
      obtain ⟨x,hx⟩ := each j (by simp)
      have e1 := run_part_int (P := P) (w := w) hue hx
      simp only [List.forIn_cons,Sem.run_bind,run_sizeOf w hi,Result.andThen_ok,hce,Nat.mul_one,e1,run_checkKey_int hue em 9998,Sem.run_pure]
      exact ih fun y hy => each y (by simp [hy])
    · cases ht
   · cases ht
  · cases ht
 · cases ht
theorem eqI_i64 : ∀ (k k' : List Int),k.length = k'.length → eqI (k.map fun n => (IntKind.i64,n)) (k'.map fun n => (IntKind.i64,n)) = decide (k = k')
 | [],[],_ => rfl
 | x :: k,y :: k',h => by
  simp only [List.map_cons,eqI,eqI_i64 k k' (by simpa using h)]
  by_cases e : x = y <;> simp [e]
theorem run_key_eq {t : TypeId} {n : Nat} (ht : tFlat P t = some n) {k k' : List Int} (hk : k.length = n) (hk' : k'.length = n) : (Op.equal t (keyV true k) (keyV true k')).run P w = .ok (decide (k = k')) w := by
 have h := run_flat (w := w) ht (ns := k.map fun n => (IntKind.i64,n)) (ms := k'.map fun n => (IntKind.i64,n)) (by simpa using hk) (by simpa using hk') (by simp [Function.comp_def,List.map_const',hk,hk'])
 rw [eqI_i64 k k' (by rw [hk,hk'])] at h
 simpa [keyV,Function.comp_def,Op.equal,Op.maxDepth] using h
def fnd (l : List (List Int × C)) (es : List MapEntry) (k : List Int) (i : Nat) : Option (Nat × Value) := if mIdx l k < l.length then (es[mIdx l k]?).map fun e => (i + mIdx l k,e.val) else none
theorem fnd_cons {x : List Int × C} {l : List (List Int × C)} {e : MapEntry} {es : List MapEntry} {k : List Int} {i : Nat} : fnd (x :: l) (e :: es) k i = if k = x.1 then some (i,e.val) else fnd l es k (i + 1) := by
 unfold fnd mIdx
 rw [List.findIdx_cons]
 by_cases h : x.1 = k
 ·
  rw [decide_eq_true h]
  simp [h]
 ·
  have h' : ¬ k = x.1 := fun e => h e.symm
  simp only [decide_eq_false h,cond_false,List.length_cons,Nat.add_lt_add_iff_right,List.getElem?_cons_succ,if_neg h']
  rw [show i + (List.findIdx (fun p => decide (p.1 = k)) l + 1) = i + 1 + List.findIdx (fun p => decide (p.1 = k)) l by omega]
theorem run_asking {t : TypeId} {n : Nat} (ht : tFlat P t = some n) {k : List Int} (hk : k.length = n) : ∀ (l : List (List Int × C)) (es : List MapEntry) (i : Nat),es.length = l.length → (∀ (j : Nat) (x : List Int × C) (e : MapEntry),l[j]? = some x → es[j]? = some e → e.key = keyV true x.1 ∧ x.1.length = n) →
  (Instr.findAsking t (keyV true k) es i).run P w = .ok (fnd l es k i) w
 | [],[],i,_,_ => by simp [Instr.findAsking,fnd]
 | x :: l,e :: es,i,hl,h => by
  have h0 := h 0 x e rfl rfl
  rw [fnd_cons]
  unfold Instr.findAsking
  simp only [Sem.run_bind,h0.1,run_key_eq ht hk h0.2,Result.andThen_ok]
  by_cases hx : k = x.1
  · simp [hx]
  ·
   simp only [hx,decide_false,if_false,Bool.false_eq_true]
   exact run_asking ht hk l es (i + 1) (by simpa using hl) fun j y f hy hf => h (j + 1) y f (by simpa using hy) (by simpa using hf)
 | [],_ :: _,_,hl,_ => by simp at hl
 | _ :: _,[],_,hl,_ => by simp at hl
theorem now_found {k0 : IntKind} {k : Int} : ∀ (l : List (List Int × C)) (es : List MapEntry) (i : Nat),es.length = l.length → (∀ (j : Nat) (x : List Int × C) (e : MapEntry),l[j]? = some x → es[j]? = some e → e.key = keyV false x.1 ∧ x.1.length = 1) →
  Instr.findNow (.int k0) (.int .i64 k) es i = some (fnd l es [k] i)
 | [],[],i,_,_ => by simp [Instr.findNow,fnd]
 | x :: l,e :: es,i,hl,h => by
  have h0 := h 0 x e rfl rfl
  rw [fnd_cons]
  obtain ⟨xk,xv⟩ := x
  match xk,h0 with
  | [y],h0 =>
   have hk : e.key = .int .i64 y := h0.1
   unfold Instr.findNow
   rw [hk]
   simp only [Instr.sameNow,if_true]
   by_cases hx : k = y
   ·
    subst hx
    simp
   ·
    have e1 : (k == y) = false := by simpa using hx
    have e2 : ¬ [k] = [y] := by simpa using hx
    rw [e1,if_neg e2]
    exact now_found l es (i + 1) (by simpa using hl) fun j z f hz hf => h (j + 1) z f (by simpa using hz) (by simpa using hf)
  | [],h0 => have := h0.2; simp at this
  | _ :: _ :: _,h0 => have := h0.2; simp at this
 | [],_ :: _,_,hl,_ => by simp at hl
 | _ :: _,[],_,hl,_ => by simp at hl
theorem run_find {S : Nat → Prop} {t kt et : TypeId} {ag : Bool} {n : Nat} {l : List (List Int × C)} {es : Array MapEntry} {k : List Int} (ht : tMap P t = some (kt,et,ag,n)) (hk : k.length = n) (h : MapR S w ag n l es) :
  P.underlying t = some (.map kt et) ∧ (∀ em,(Instr.checkKey em 10000 kt (keyV ag k)).run P w = .ok () w) ∧ (Instr.findKey kt (keyV ag k) es.toList).run P w = .ok (fnd l es.toList k 0) w ∧ ∀ m,Instr.sameBits (m + 2) (keyV ag k) (keyV ag k) = true := by
 unfold tMap at ht
 split at ht
 ·
  rename_i kt' et' hu
  split at ht
  ·
   rename_i k0 huk
   injection ht with ht
   injection ht with e1 ht
   injection ht with e2 ht
   injection ht with e3 e4
   subst e1 e2 e3 e4
   match k,hk with
   | [y],_ =>
    refine ⟨hu,fun em => run_checkKey_int huk em 9999 _,?_,fun m => by simp [keyV,Instr.sameBits]⟩
    exact MapKept.run_findKey huk (now_found (k0 := k0) l es.toList 0 (by simpa using h.1) fun j x e hx he => let ⟨h1,h2,_⟩ := h.2 j x e hx (by simpa using he); ⟨h1,h2⟩)
  all_goals first | cases ht; done | skip
  all_goals
   rename_i huk
   simp only [Option.map_eq_some_iff,Prod.mk.injEq] at ht
   obtain ⟨n',hf,e1,e2,e3,e4⟩ := ht
   subst e1 e2 e3 e4
   refine ⟨hu,fun em => by simpa [keyV] using run_check_flat hf em hk,?_,fun m => ?_⟩
   ·
    rw [run_findKey_eq w (by rw [huk])]
    exact run_asking hf hk l es.toList 0 (by simpa using h.1) fun j x e hx he => let ⟨h1,h2,_⟩ := h.2 j x e hx (by simpa using he); ⟨h1,h2⟩
   ·
    have : ∀ (k : List Int),((k.map (Value.int .i64)).zip (k.map (Value.int .i64))).all (fun p => Instr.sameBits (m + 1) p.1 p.2) = true := by
     intro k
     induction k with
     | nil => rfl
     | cons x k ih => simp only [List.map_cons,List.zip_cons_cons,List.all_cons,ih,Bool.and_true]; simp [Instr.sameBits]
    simp only [keyV,if_true,Instr.sameBits,beq_self_eq_true,Bool.true_and]
    simpa using this k
 · cases ht
end
def tZ1 (P : Program) (t : TypeId) : Option Value := match P.underlying t with
 | some (.struct _) | some (.array _ _) => none
 | _ => (P.info? t).bind (·.zero)
theorem run_zero1 {P : Program} {w : World} {t : TypeId} {z : Value} (h : tZ1 P t = some z) : (zeroValue t).run P w = .ok z w := by
 have h2 : (P.info? t).bind (·.zero) = some z := by
  unfold tZ1 at h
  split at h <;> first | cases h; done | exact h
 cases hi : P.info? t with
 | none => rw [hi] at h2; cases h2
 | some i =>
  rw [hi] at h2
  simp only [Option.bind_some] at h2
  simp only [zeroValue,Sem.run_bind,typeInfo]
  simp [hi,h2,Sem.run]
section
variable {S : Nat → Prop} {w w' : World} {ag : Bool} {n : Nat} {l : List (List Int × C)} {es : Array MapEntry} {k : List Int}
theorem mIdx_lt (h : mIdx l k < l.length) : (l[mIdx l k]).1 = k := by
 have := List.findIdx_getElem (p := fun p : List Int × C => decide (p.1 = k)) (w := h)
 exact of_decide_eq_true this
theorem MapR.at_ (h : MapR S w ag n l es) {i : Nat} (hi : i < l.length) : ∃ e,es[i]? = some e ∧ e.key = keyV ag l[i].1 ∧ l[i].1.length = n ∧ e.born = i ∧ View S w l[i].2 e.val := by
 have hs : i < es.size := by rw [h.1]; exact hi
 exact ⟨es[i],Array.getElem?_eq_getElem hs,h.2 i l[i] es[i] (List.getElem?_eq_getElem hi) (Array.getElem?_eq_getElem hs)⟩
theorem MapR.set (h : MapR S w ag n l es) {i : Nat} {c : C} {u : Value} {kv : Value} (hi : i < l.length) (hkv : kv = keyV ag (l[i]).1) (hu : View S w c u) : MapR S w ag n (mSet l i c) (es.modify i fun e => { e with key := kv,val := u }) := by
 refine ⟨by simp [mSet,h.1],fun j x e hx he => ?_⟩
 unfold mSet at hx
 rw [List.getElem?_modify] at hx
 rw [Array.getElem?_modify] at he
 by_cases hj : i = j
 ·
  subst hj
  obtain ⟨e0,g1,g2,g3,g4,g5⟩ := h.at_ hi
  rw [if_pos rfl,g1] at he
  simp only [Option.map_some,Option.some.injEq] at he
  rw [List.getElem?_eq_getElem hi] at hx
  simp only [if_true,Option.map_eq_map,Option.map_some,Option.some.injEq] at hx
  subst hx he
  exact ⟨hkv,g3,g4,hu⟩
 ·
  rw [if_neg hj] at he
  simp only [if_neg hj] at hx
  exact h.2 j x e (by simpa using hx) he
theorem MapR.push (h : MapR S w ag n l es) {c : C} {u : Value} (hk : k.length = n) (hu : View S w c u) : MapR S w ag n (l ++ [(k,c)]) (es.push { key := keyV ag k,val := u,born := es.size }) := by
 refine ⟨by simp [h.1],fun j x e hx he => ?_⟩
 rw [Array.getElem?_push] at he
 by_cases hj : j = es.size
 ·
  subst hj
  rw [if_pos rfl] at he
  rw [h.1,List.getElem?_append_right (Nat.le_refl _)] at hx
  simp at hx he
  subst hx he
  exact ⟨rfl,hk,rfl,hu⟩
 ·
  rw [if_neg hj] at he
  have : j < l.length := by
   have := (Array.getElem?_eq_some_iff.1 he).1
   rw [← h.1]
   exact this
  rw [List.getElem?_append_left this] at hx
  exact h.2 j x e hx he
end
theorem heap_new_any (w : World) (o : Obj) : (w.alloc o).heap[w.heap.size]? = some o := (MapKept.heap_alloc w o).1
def setMap (w : World) (b : Nat) (o : Obj) : World := { w with heap := w.heap.setIfInBounds b o }
theorem setMap_mv (w : World) (b : Nat) (o : Obj) : Mv (· = b) w (setMap w b o) :=
 ⟨rfl,rfl,rfl,by simp [setMap],fun k _ hne => by
  simp only [setMap]
  rw [Array.getElem?_setIfInBounds]
  rw [if_neg (fun e => hne e.symm)]⟩
section
variable {P : Program} {w0 : Bas} {N : Nat} {ρ : Place} {φ : Foot} {f : Nat → AV} {m : Nm → Option AObj} {a : Act} {w : World} {o : Oper} {t kt et : TypeId} {ag : Bool} {n : Nat}
theorem StR.newObj (h : StR w0 N ρ φ f m a w) (fr : Nm) (ob : Obj) (o : AObj) (hfr : Fresh f m fr)
  (ho : OR (pset ρ fr (some (w.heap.size,0,0))) (fset φ fr (· = w.heap.size)) (Sof w0 φ m w) (w.alloc ob) fr o) :
  StR w0 N (pset ρ fr (some (w.heap.size,0,0))) (fset φ fr (· = w.heap.size)) f (mset m fr (some o)) a (w.alloc ob) := by
 have := (h.turn fr fr (some (w.heap.size,0,0)) (· = w.heap.size) o hfr ((Mv.alloc w _).mono fun _ h => h.elim) (fun b e => .inl (by rw [e]; simp)) ho).1
 have e : mset (mset m fr none) fr (some o) = mset m fr (some o) := by
  funext i
  simp only [mset]
  split <;> rfl
 rwa [e] at this
theorem so_makeMap (h : StR w0 N ρ φ f m a w) (r : Option Operand) (fr : Nm) (ho : o.op = .makeMap t r) (ht : tMap P t = some (kt,et,ag,n)) (hr : ∀ x,r = some x → ∃ k c,aeval N f x = .one (.d (.int k c))) (hfr : Fresh f m fr) :
  Does P w0 N f m o a w (.one (.mp fr)) [(fr,some (.map kt et ag n []))] := by
 have h1 := h.newObj fr (.map #[] 0) (.map kt et ag n []) hfr ⟨w.heap.size,#[],if_pos rfl,(congrFun (if_pos rfl) _).mpr rfl,heap_new_any w _,rfl,fun i x e hx => by simp at hx⟩
 have hu : P.underlying t = some (.map kt et) := by
  unfold tMap at ht
  split at ht
  ·
   rename_i kt' et' hu
   split at ht
   · injection ht with ht; injection ht with e1 ht; injection ht with e2 ht; subst e1 e2; exact hu
   all_goals first | cases ht; done | (simp only [Option.map_eq_some_iff,Prod.mk.injEq] at ht; obtain ⟨_,_,e1,e2,_⟩ := ht; subst e1 e2; exact hu)
  · cases ht
 refine fun K Q hK => wp_of_run (v := .map (some w.heap.size)) (w' := w.alloc (.map #[] 0)) ?_ (hK _ _ ⟨_,_,h1.put o.dst ⟨w.heap.size,_,if_pos rfl,rfl⟩⟩)
 cases r with
 | none => simp only [execOp,ho,Option.map_none,Instr.makeMap,Sem.run_bind]; simp [newObj,Sem.run]
 | some x =>
  obtain ⟨k,c,hx⟩ := hr x rfl
  have hv := aeval_ok h x
  rw [hx] at hv
  have hv' : View (Sof w0 φ m w) w (.int k c) (a.eval x) := hv
  generalize e0 : a.eval x = u at hv'
  cases hv'
  simp only [execOp,ho,Option.map_some,e0,Instr.makeMap,Sem.run_bind,run_underlying hu,Result.andThen_ok]
  simp [asInt,asIntOf,newObj,Sem.run]
theorem map_of (h : StR w0 N ρ φ f m a w) {x : Operand} {id : Nm} {l : List (List Int × C)} (hx : aeval N f x = .one (.mp id)) (hm : m id = some (.map kt et ag n l)) :
  ∃ b es,a.eval x = .map (some b) ∧ ρ id = some (b,0,0) ∧ φ id b ∧ w.heap[b]? = some (.map es es.size) ∧ MapR (Sof w0 φ m w) w ag n l es := by
 have h1 := aeval_ok h x
 rw [hx] at h1
 obtain ⟨b,q,hr,e⟩ := h1
 obtain ⟨b',es,hr',hf,hh,hmr⟩ := h.objs id _ hm
 rw [hr] at hr'
 injection hr' with hr'
 injection hr' with e1 e2
 subst e1
 exact ⟨b,es,e,by rw [hr,e2],hf,hh,hmr⟩
theorem key_of (h : StR w0 N ρ φ f m a w) {y : Operand} {k : List Int} (hy : keyAV ag n (aeval N f y) = some k) : a.eval y = keyV ag k ∧ k.length = n := keyAV_ok hy (aeval_ok h y)
theorem StR.setMap (h : StR w0 N ρ φ f m a w) {id : Nm} {l l' : List (List Int × C)} (hm : m id = some (.map kt et ag n l)) {b : Nat} (hr : ρ id = some (b,0,0)) (hf : φ id b) {es : Array MapEntry} (es' : Array MapEntry) (hh : w.heap[b]? = some (.map es es.size)) (hmr : MapR (Sof w0 φ m w) w ag n l' es') :
  StR w0 N ρ φ f (mset m id (some (.map kt et ag n l'))) a (Go.Proofs.Ytabbejabdkkaiaa.setMap w b (.map es' es'.size)) := by
 have hg := setMap_mv w b (.map es' es'.size)
 have hS : ∀ p : Addr,Sof w0 φ m w p.block → (Go.Proofs.Ytabbejabdkkaiaa.setMap w b (.map es' es'.size)).cell? p = w.cell? p := fun p hp => World.cell?_of_block (hg.block p.block hp.1 fun e => hp.2.1 id _ hm (by rw [e]; exact hf))
 refine (h.write id (.map kt et ag n l) (.map kt et ag n l') hm (hg.mono fun x hx => by rw [hx]; exact hf) ⟨b,es',hr,hf,?_,hmr.next hS fun _ hb => hb⟩).1
 exact (MapKept.heap_set hh).1
theorem so_lookup (h : StR w0 N ρ φ f m a w) (x y : Operand) (ok : Bool) (id : Nm) (l : List (List Int × C)) (k : List Int) (z : Value) (ho : o.op = .lookup t x y ok) (ht : tMap P t = some (kt,et,ag,n)) (hx : aeval N f x = .one (.mp id)) (hm : m id = some (.map kt et ag n l)) (hy : keyAV ag n (aeval N f y) = some k) (hz : tZ1 P et = some z) :
  Does P w0 N f m o a w (if ok = true then .tup [.inr (match mGet l k with | some c => .d c | none => ofVal z),.inr (.d (.bool (decide (mIdx l k < l.length))))] else .one (match mGet l k with | some c => .d c | none => ofVal z)) [] := by
 obtain ⟨b,es,e,hr,hf,hh,hmr⟩ := map_of h hx hm
 obtain ⟨ey,hkl⟩ := key_of h hy
 obtain ⟨g1,g2,g3,_⟩ := run_find (w := w) ht hkl hmr
 have hres : ∃ u : Value,(Instr.lookup t (.map (some b)) (keyV ag k) ok).run P w = .ok (if ok = true then .tuple #[u,.bool (decide (mIdx l k < l.length))] else u) w ∧ CV ρ (Sof w0 φ m w) w (match mGet l k with | some c => .d c | none => ofVal z) u := by
  by_cases hi : mIdx l k < l.length
  ·
   obtain ⟨e0,q1,q2,q3,q4,q5⟩ := hmr.at_ hi
   refine ⟨e0.val,?_,?_⟩
   ·
    have hfnd : fnd l es.toList k 0 = some (0 + mIdx l k,e0.val) := by
     unfold fnd
     rw [if_pos hi]
     simp [q1]
    rw [hfnd] at g3
    simp only [Instr.lookup,Sem.run_bind,run_underlying g1,Result.andThen_ok,Sem.run_pure,MapKept.run_getObj_map hh,g2,g3]
    cases ok <;> simp [hi]
   ·
    unfold mGet
    rw [List.getElem?_eq_getElem hi]
    exact q5
  ·
   refine ⟨z,?_,?_⟩
   ·
    have hfnd : fnd l es.toList k 0 = none := by
     unfold fnd
     rw [if_neg hi]
    rw [hfnd] at g3
    simp only [Instr.lookup,Sem.run_bind,run_underlying g1,Result.andThen_ok,Sem.run_pure,MapKept.run_getObj_map hh,g2,g3,run_zero1 hz]
    cases ok <;> simp [hi]
   ·
    unfold mGet
    rw [List.getElem?_eq_none (by omega)]
    exact ofVal_cv z
 obtain ⟨u,hu1,hu2⟩ := hres
 refine does_pure h (u := if ok = true then .tuple #[u,.bool (decide (mIdx l k < l.length))] else u) (by simp only [execOp,ho,e,ey,Sem.run_bind,hu1,Result.andThen_ok,Sem.run_pure]) ?_
 cases ok with
 | false => exact hu2
 | true =>
  refine ⟨[u,.bool (decide (mIdx l k < l.length))],rfl,rfl,fun i x v hx hv => ?_⟩
  match i,hx,hv with
  | 0,hx,hv => simp at hx hv; subst hx hv; exact hu2
  | 1,hx,hv => simp at hx hv; subst hx hv; exact View.bool _
  | i + 2,hx,hv => simp at hx
theorem run_stays {k : Value} (hs : Instr.sameBits 10000 k k = true) : (Instr.keyThatStays k k).run P w = .ok k w := by
 unfold Instr.keyThatStays
 simp [hs]
theorem so_mapUpdate (h : StR w0 N ρ φ f m a w) (x y z : Operand) (id : Nm) (l : List (List Int × C)) (k : List Int) (c : C) (ho : o.op = .mapUpdate t x y z ∨ o.op = .insert t x y z) (ht : tMap P t = some (kt,et,ag,n)) (hx : aeval N f x = .one (.mp id)) (hm : m id = some (.map kt et ag n l)) (hy : keyAV ag n (aeval N f y) = some k) (hz : aeval N f z = .one (.d c)) :
  Does P w0 N f m o a w (.one .any) [(id,some (.map kt et ag n (mPut l k c)))] := by
 obtain ⟨b,es,e,hr,hf,hh,hmr⟩ := map_of h hx hm
 obtain ⟨ey,hkl⟩ := key_of h hy
 obtain ⟨g1,g2,g3,g4⟩ := run_find (w := w) ht hkl hmr
 have hv : View (Sof w0 φ m w) w c (a.eval z) := by
  have := aeval_ok h z
  rw [hz] at this
  exact this
 have hres : ∃ es',(Instr.mapUpdate t (.map (some b)) (keyV ag k) (a.eval z)).run P w = .ok () (setMap w b (.map es' es'.size)) ∧ MapR (Sof w0 φ m w) w ag n (mPut l k c) es' := by
  by_cases hi : mIdx l k < l.length
  ·
   obtain ⟨e0,q1,q2,q3,q4,q5⟩ := hmr.at_ hi
   rw [mIdx_lt hi] at q2
   have hfnd : fnd l es.toList k 0 = some (mIdx l k,e0.val) := by
    unfold fnd
    rw [if_pos hi]
    simp [q1]
   rw [hfnd] at g3
   refine ⟨es.modify (mIdx l k) fun e => { e with key := keyV ag k,val := a.eval z },?_,?_⟩
   ·
    simp only [Instr.mapUpdate,Sem.run_bind,run_underlying g1,Result.andThen_ok,MapKept.run_getObj_map hh,g2,g3,q1,Option.map_some,Option.getD_some,q2,run_stays (g4 9998),MapKept.run_setObj_map _ hh]
    simp [setMap]
   ·
    unfold mPut
    rw [if_pos hi]
    exact hmr.set hi (by rw [mIdx_lt hi]) hv
  ·
   have hfnd : fnd l es.toList k 0 = none := by
    unfold fnd
    rw [if_neg hi]
   rw [hfnd] at g3
   refine ⟨es.push { key := keyV ag k,val := a.eval z,born := es.size },?_,?_⟩
   ·
    simp only [Instr.mapUpdate,Sem.run_bind,run_underlying g1,Result.andThen_ok,MapKept.run_getObj_map hh,g2,g3,MapKept.run_setObj_map _ hh]
    simp [setMap]
   ·
    unfold mPut
    rw [if_neg hi]
    exact hmr.push hkl hv
 obtain ⟨es',h1,h2⟩ := hres
 have hst := h.setMap hm hr hf es' hh h2
 exact fun K Q hK => wp_of_skip (w' := setMap w b (.map es' es'.size)) (by rcases ho with ho | ho <;> (simp only [execOp,ho,e,ey,Sem.run_bind,h1]; rfl)) (hK _ _ ⟨ρ,φ,hst.put o.dst trivial⟩)
theorem so_mapEntry (h : StR w0 N ρ φ f m a w) (x y : Operand) (id : Nm) (l : List (List Int × C)) (k : List Int) (z : Value) (c0 : C) (ho : o.op = .mapEntry t x y) (ht : tMap P t = some (kt,et,ag,n)) (hx : aeval N f x = .one (.mp id)) (hm : m id = some (.map kt et ag n l)) (hy : keyAV ag n (aeval N f y) = some k) (hz : tZ1 P et = some z) (hc : ofVal z = .d c0) :
  Does P w0 N f m o a w (.tup [.inr (.d ((mGet l k).getD c0)),.inr (.d (.int .i64 (mIdx l k : Nat)))]) [(id,some (.map kt et ag n (mTouch l k c0)))] := by
 obtain ⟨b,es,e,hr,hf,hh,hmr⟩ := map_of h hx hm
 obtain ⟨ey,hkl⟩ := key_of h hy
 obtain ⟨g1,g2,g3,g4⟩ := run_find (w := w) ht hkl hmr
 have hv : View (Sof w0 φ m w) w c0 z := by
  have : CV ρ (Sof w0 φ m w) w (ofVal z) z := ofVal_cv z
  rw [hc] at this
  exact this
 have hres : ∃ es' u,(Instr.mapEntry t (.map (some b)) (keyV ag k)).run P w = .ok (.tuple #[u,.int .i64 (mIdx l k : Nat)]) (setMap w b (.map es' es'.size)) ∧ MapR (Sof w0 φ m w) w ag n (mTouch l k c0) es' ∧ View (Sof w0 φ m w) w ((mGet l k).getD c0) u := by
  by_cases hi : mIdx l k < l.length
  ·
   obtain ⟨e0,q1,q2,q3,q4,q5⟩ := hmr.at_ hi
   rw [mIdx_lt hi] at q2
   have hfnd : fnd l es.toList k 0 = some (mIdx l k,e0.val) := by
    unfold fnd
    rw [if_pos hi]
    simp [q1]
   rw [hfnd] at g3
   refine ⟨es.modify (mIdx l k) fun e => { e with key := keyV ag k },e0.val,?_,?_,?_⟩
   ·
    simp only [Instr.mapEntry,Sem.run_bind,run_underlying g1,Result.andThen_ok,MapKept.run_getObj_map hh,g2,g3,q1,Option.map_some,Option.getD_some,q2,run_stays (g4 9998),MapKept.run_setObj_map _ hh,q4,goInt,Sem.run_pure]
    simp [setMap]
   ·
    unfold mTouch
    rw [if_pos hi]
    have h9 := hmr.set (c := l[mIdx l k].2) (u := e0.val) hi (by rw [mIdx_lt hi]) q5
    have e1 : mSet l (mIdx l k) l[mIdx l k].2 = l := by
     unfold mSet
     apply List.ext_getElem?
     intro j
     rw [List.getElem?_modify]
     by_cases hj : mIdx l k = j
     ·
      subst hj
      rw [List.getElem?_eq_getElem hi]
      simp
     · simp [hj]
    rw [e1] at h9
    have e2 : (es.modify (mIdx l k) fun e => { e with key := keyV ag k,val := e0.val }) = es.modify (mIdx l k) fun e => { e with key := keyV ag k } := by
     apply Array.ext_getElem?
     intro j
     rw [Array.getElem?_modify,Array.getElem?_modify]
     by_cases hj : mIdx l k = j
     ·
      subst hj
      rw [if_pos rfl,if_pos rfl,q1]
      rfl
     · rw [if_neg hj,if_neg hj]
    rw [e2] at h9
    exact h9
   ·
    unfold mGet
    rw [List.getElem?_eq_getElem hi]
    exact q5
  ·
   have hfnd : fnd l es.toList k 0 = none := by
    unfold fnd
    rw [if_neg hi]
   have hlen : mIdx l k = l.length := Nat.le_antisymm List.findIdx_le_length (by omega)
   rw [hfnd] at g3
   refine ⟨es.push { key := keyV ag k,val := z,born := es.size },z,?_,?_,?_⟩
   ·
    simp only [Instr.mapEntry,Sem.run_bind,run_underlying g1,Result.andThen_ok,MapKept.run_getObj_map hh,g2,g3,run_zero1 hz,MapKept.run_setObj_map _ hh,goInt,Sem.run_pure]
    simp [setMap,hlen,hmr.1]
   ·
    unfold mTouch
    rw [if_neg hi]
    exact hmr.push hkl hv
   ·
    unfold mGet
    rw [List.getElem?_eq_none (by omega)]
    exact hv
 obtain ⟨es',u,h1,h2,h3⟩ := hres
 have hst := h.setMap hm hr hf es' hh h2
 have hg := setMap_mv w b (.map es' es'.size)
 have hS : ∀ p : Addr,Sof w0 φ m w p.block → (setMap w b (.map es' es'.size)).cell? p = w.cell? p := fun p hp => World.cell?_of_block (hg.block p.block hp.1 fun e => hp.2.1 id _ hm (by rw [e]; exact hf))
 refine fun K Q hK => wp_of_run (v := .tuple #[u,.int .i64 (mIdx l k : Nat)]) (w' := setMap w b (.map es' es'.size)) (by simp only [execOp,ho,e,ey,Sem.run_bind,h1,Result.andThen_ok,Sem.run_pure]) (hK _ _ ⟨ρ,φ,hst.put o.dst ?_⟩)
 refine ⟨[u,.int .i64 (mIdx l k : Nat)],rfl,rfl,fun i x v hx hv => ?_⟩
 match i,hx,hv with
 | 0,hx,hv =>
  simp only [List.getElem?_cons_zero,Option.some.injEq] at hx hv
  subst hx hv
  refine View.keep h3 hS fun b' hb => ⟨by simpa [setMap] using hb.1,fun id' o' hi' hf' => ?_,hb.2.2⟩
  simp only [mset] at hi'
  split at hi'
  ·
   rename_i e9
   subst e9
   exact hb.2.1 _ _ hm hf'
  · exact hb.2.1 id' o' hi' hf'
 | 1,hx,hv => simp at hx hv; subst hx hv; exact View.int _ _
 | i + 2,hx,hv => simp at hx
theorem so_entryStore (h : StR w0 N ρ φ f m a w) (x y z : Operand) (id : Nm) (l : List (List Int × C)) (i : Nat) (c : C) (ho : o.op = .entryStore t x y z) (hx : aeval N f x = .one (.mp id)) (hm : m id = some (.map kt et ag n l)) (hy : aeval N f y = .one (.d (.int .i64 (i : Nat)))) (hi : i < l.length) (hz : aeval N f z = .one (.d c)) :
  Does P w0 N f m o a w (.one .any) [(id,some (.map kt et ag n (mSet l i c)))] := by
 obtain ⟨b,es,e,hr,hf,hh,hmr⟩ := map_of h hx hm
 have hv : View (Sof w0 φ m w) w c (a.eval z) := by
  have := aeval_ok h z
  rw [hz] at this
  exact this
 have hs : a.eval y = .int .i64 (i : Nat) := by
  have := aeval_ok h y
  rw [hy] at this
  have hv' : View (Sof w0 φ m w) w (.int .i64 (i : Nat)) (a.eval y) := this
  generalize a.eval y = u at hv'
  cases hv'
  rfl
 have his : i < es.size := by rw [hmr.1]; exact hi
 have hfi : es.findIdx? (fun e => (e.born : Int) == (i : Int)) = some i := by
  rw [Array.findIdx?_eq_some_iff_getElem]
  refine ⟨his,?_,fun j hj => ?_⟩
  ·
   obtain ⟨e0,q1,_,_,q4,_⟩ := hmr.at_ hi
   rw [Array.getElem?_eq_getElem his] at q1
   injection q1 with q1
   simp [q1,q4]
  ·
   have hjl : j < l.length := by omega
   have hjs : j < es.size := by omega
   obtain ⟨e0,q1,_,_,q4,_⟩ := hmr.at_ hjl
   rw [Array.getElem?_eq_getElem hjs] at q1
   injection q1 with q1
   simp [q1,q4]
   omega
 have hset : MapR (Sof w0 φ m w) w ag n (mSet l i c) (es.modify i fun e => { e with val := a.eval z }) := by
  obtain ⟨e0,q1,q2,q3,q4,q5⟩ := hmr.at_ hi
  have h9 := hmr.set (c := c) (u := a.eval z) (kv := keyV ag l[i].1) hi rfl hv
  have e2 : (es.modify i fun e => { e with key := keyV ag l[i].1,val := a.eval z }) = es.modify i fun e => { e with val := a.eval z } := by
   apply Array.ext_getElem?
   intro j
   rw [Array.getElem?_modify,Array.getElem?_modify]
   by_cases hj : i = j
   ·
    subst hj
    rw [if_pos rfl,if_pos rfl,q1]
    simp [q2]
   · rw [if_neg hj,if_neg hj]
  rw [e2] at h9
  exact h9
 have hst := h.setMap hm hr hf _ hh hset
 refine fun K Q hK => wp_of_skip (w' := setMap w b (.map (es.modify i fun e => { e with val := a.eval z }) (es.modify i fun e => { e with val := a.eval z }).size)) ?_ (hK _ _ ⟨ρ,φ,hst.put o.dst trivial⟩)
 simp only [execOp,ho,e,hs,Instr.entryStore,Sem.run_bind,Sem.run_pure,Result.andThen_ok,MapKept.run_getObj_map hh,asInt,asIntOf,hfi,MapKept.run_setObj_map _ hh]
 simp [setMap]
end
end Go.Proofs.Ytabbejabdkkaiaa
