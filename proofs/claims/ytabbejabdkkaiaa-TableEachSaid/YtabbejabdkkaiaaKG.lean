/- The rules on the lists: freeze, open, fold, nil as an own empty row or as an owned empty cell. Rewriting rules for runs, by the shape of what is looked at; facts on calls. Helpers of printed texts: an element by a number, branches that are decided, ways that meet. No condition. -/
import Derived.Test.YtabbejabdkkaiaaKF
set_option linter.unusedSimpArgs false
set_option linter.unusedVariables false
namespace Go.Proofs.Ytabbejabdkkaiaa
open Go.RowKit

def memN (id : Nm) : List Nm → Bool
 | [] => false
 | k :: r => if id = k then true else memN id r
theorem memN_mem {id : Nm} : ∀ {ks : List Nm},memN id ks = true → id ∈ ks
 | k :: r,h => by
  simp only [memN] at h
  split at h
  · rename_i e; rw [e]; simp
  · exact List.mem_cons_of_mem _ (memN_mem h)
def gcell (ks : List Nm) (m : Nm → Option AObj) (c : Cell) : Cell :=
 if (c.ids.any fun id => memN id ks) = true then
  if ((reach m 5 c).all fun id => memN id ks) = true then match frz m 5 c with
   | some d => .d d
   | none => .any
  else .any
 else c
def sumMap (g : Cell → Cell) : List Cell ⊕ Cell → List Cell ⊕ Cell
 | .inl l => .inl (l.map g)
 | .inr c => .inr (g c)
def AV.mapC (g : Cell → Cell) : AV → AV
 | .one c => .one (g c)
 | .agg l => .agg (l.map g)
 | .tup l => .tup (l.map (sumMap g))
def boxMap (g : Cell → Cell) : AObj → AObj
 | .box ty l => .box ty (l.map g)
 | o => o
section
variable {w0 : Bas} {N nx : Nat} {ρ : Place} {φ : Foot} {f f' : Nat → AV} {m m' : Nm → Option AObj} {a : Act} {w : World} {F F' : LF} {M M' : LM}

theorem StR.freeze (h : StR w0 N ρ φ f m a w) (ks : List Nm) (hf : ∀ t,f' t = (f t).mapC (gcell ks m)) (hm : ∀ id o',m' id = some o' → id ∉ ks ∧ ∃ o,m id = some o ∧ o' = boxMap (gcell ks m) o) : StR w0 N ρ φ f' m' a w := by
 have hS : ∀ b,Sof w0 φ m w b → Sof w0 φ m' w b := fun b hb => ⟨hb.1,fun id o' hi hx => by
  obtain ⟨_,o,h1,_⟩ := hm id o' hi
  exact hb.2.1 id o h1 hx,hb.2.2⟩
 have key : ∀ c v,CV ρ (Sof w0 φ m w) w c v → CV ρ (Sof w0 φ m' w) w (gcell ks m c) v := fun c v hc => by
  unfold gcell
  split
  ·
   split
   ·
    rename_i _ hall
    split
    ·
     rename_i d hd
     refine frz_ok h hS hd hc fun id o b hid hi hx => ⟨h.lt id o b hi hx,fun i o' hi' hx' => ?_,by rcases h.base id o b hi hx with h5 | h5; exact .inr (.inl h5); exact .inr (.inr h5)⟩
     obtain ⟨h1,o1,h2,_⟩ := hm i o' hi'
     have := h.disj i id o1 o b h2 hi hx' hx
     subst this
     exact h1 (memN_mem (List.all_eq_true.1 hall i hid))
    · trivial
   · trivial
  · exact hc.next (fun _ _ => rfl) hS (fun _ _ => rfl)
 have keys : ∀ l vs,CVs ρ (Sof w0 φ m w) w l vs → CVs ρ (Sof w0 φ m' w) w (l.map (gcell ks m)) vs := fun l vs hc => ⟨by rw [List.length_map]; exact hc.1,fun i c v hi hv => by
  rw [List.getElem?_map] at hi
  obtain ⟨c0,h0,rfl⟩ := Option.map_eq_some_iff.1 hi
  exact ⟨key c0 v (hc.2 i c0 v h0 hv).1,(hc.2 i c0 v h0 hv).2⟩⟩
 refine ⟨h.mv,h.dfr,h.size,fun t v ht => ?_,fun id o' hi => ?_,fun id o' b hi => ?_,fun id o' b hi => ?_,fun id id' o1 o2 b hi hi' => ?_,fun id o' h0 hi => ?_⟩
 ·
  rw [hf]
  have := h.regs t v ht
  revert this
  generalize f t = x
  intro hx
  cases x with
  | one c => exact key c v hx
  | agg l => exact let ⟨vs,e,hc⟩ := hx; ⟨vs,e,keys l vs hc⟩
  | tup l =>
   obtain ⟨vs,e,hl,hc⟩ := hx
   refine ⟨vs,e,by rw [List.length_map]; exact hl,fun i y u hi hu => ?_⟩
   rw [List.getElem?_map] at hi
   obtain ⟨y0,h0,rfl⟩ := Option.map_eq_some_iff.1 hi
   have := hc i y0 u h0 hu
   cases y0 with
   | inl l => exact let ⟨us,e,hc⟩ := this; ⟨us,e,keys l us hc⟩
   | inr c => exact key c u this
 ·
  obtain ⟨_,o,h1,rfl⟩ := hm id o' hi
  have ho := h.objs id o h1
  cases o with
  | box ty l => exact let ⟨b,cur,hr,hx,hh,hc⟩ := ho; ⟨b,cur,hr,hx,hh,keys l _ hc⟩
  | row ty sz l => exact ho.next (fun _ _ => rfl) hS (fun _ _ => rfl) rfl (fun _ _ => rfl) fun _ hb => hb
  | map kt et ag n l => exact ho.next (fun _ _ => rfl) hS (fun _ _ => rfl) rfl (fun _ _ => rfl) fun _ hb => hb
 ·
  obtain ⟨_,o,h1,_⟩ := hm id o' hi
  exact h.lt id o b h1
 ·
  obtain ⟨_,o,h1,_⟩ := hm id o' hi
  exact h.base id o b h1
 ·
  obtain ⟨_,o,h1,_⟩ := hm id o1 hi
  obtain ⟨_,o3,h2,_⟩ := hm id' o2 hi'
  exact h.disj id id' o o3 b h1 h2
 ·
  obtain ⟨_,o,h1,_⟩ := hm id o' hi
  exact h.stab id o h0 h1
def ffrz (ks : List Nm) (m : Nm → Option AObj) (F : LF) : LF := F.map fun p => (p.1,p.2.mapC (gcell ks m))
def mfrz (ks : List Nm) (m : Nm → Option AObj) (M : LM) : LM := M.map fun u => (u.1,if memN u.1 ks = true then none else u.2.map (boxMap (gcell ks m)))
theorem fget_frz (ks : List Nm) (m : Nm → Option AObj) (t : Nat) : ∀ F,fget (ffrz ks m F) t = (fget F t).mapC (gcell ks m)
 | [] => by simp [ffrz,fget,AV.mapC,gcell,Cell.ids]
 | (k,v) :: F => by
  have ih := fget_frz ks m t F
  simp only [ffrz] at ih
  simp only [ffrz,List.map_cons,fget,ih]
  split <;> rfl
theorem mget_frz (ks : List Nm) (m : Nm → Option AObj) (i : Nm) : ∀ M,mget (mfrz ks m M) i = if memN i ks = true then none else (mget M i).map (boxMap (gcell ks m))
 | [] => by simp [mfrz,mget]
 | (k,o) :: M => by
  have ih := mget_frz ks m i M
  simp only [mfrz] at ih
  simp only [mfrz,List.map_cons,mget,mput,mset,ih]
  by_cases e : i = k
  ·
   subst e
   simp only [if_true]
  · simp only [if_neg e]
theorem memN_of {id : Nm} : ∀ {ks : List Nm},id ∈ ks → memN id ks = true
 | k :: r,h => by
  simp only [memN]
  split
  · rfl
  ·
   rename_i e
   rcases List.mem_cons.1 h with h | h
   · exact absurd h e
   · exact memN_of h
theorem SL.freeze (h : SL w0 N nx F M a w) (ks : List Nm) (eF : ffrz ks (mget M) F = F') (eM : mfrz ks (mget M) M = M') (e : okN nx F' M' = true) : SL w0 N nx F' M' a w := by
 obtain ⟨⟨ρ,φ,hst⟩,hn,hp⟩ := h
 refine ⟨⟨ρ,φ,hst.freeze ks (fun t => by rw [← eF,fget_frz]) fun id o' hi => ?_⟩,(names_ok e).1,hp⟩
 rw [← eM,mget_frz] at hi
 split at hi
 · cases hi
 ·
  rename_i hk
  obtain ⟨o,ho,rfl⟩ := Option.map_eq_some_iff.1 hi
  exact ⟨fun hid => hk (memN_of hid),o,ho,rfl⟩

theorem SL.fresh (h : SL w0 N nx F M a w) (k : Nat) : Fresh (fget F) (mget M) (nx,k) :=
 ⟨fun t hid => Nat.lt_irrefl _ (h.nm.1 t _ hid),fun i o hi hid => Nat.lt_irrefl _ ((h.nm.2 i o hi).2 _ hid),by
  cases e : mget M (nx,k) with
  | none => rfl
  | some o => exact absurd (h.nm.2 _ o e).1 (Nat.lt_irrefl _),fun e => by have := h.pos; simp only at e; omega⟩
theorem SL.open_ (h : SL w0 N nx F M a w) {e sz e' sz' : Nat} {cols : Nat → TD} {l : List (List Cell)} {r : List Cell} {L : List (List C)} (id : Nm) (i j : Nat) (hm : mget M id = some (.row e sz l)) (hi : l[i]? = some r) (hj : r[j]? = some (.tr (.sl e' sz' cols) (.sl L))) :
  SL w0 N (nx + 1) F (((nx,0),some (.row e' sz' (openRows cols L))) :: (id,some (.row e sz (l.set i (r.set j (.own (nx,0) L.length))))) :: M) a w := by
 have hfr := h.fresh 0
 obtain ⟨⟨ρ,φ,hst⟩,hn,hp⟩ := h
 obtain ⟨ρ',φ',h1⟩ := hst.open_ hm hi hj hfr
 refine ⟨⟨ρ',φ',h1⟩,⟨fun t q hq => Nat.lt_succ_of_lt (hn.1 t q hq),fun k o hk => ?_⟩,by omega⟩
 simp only [mget,mput,mset] at hk
 split at hk
 ·
  rename_i e1
  injection hk with hk
  subst hk
  rw [e1]
  exact ⟨Nat.lt_succ_self _,fun q hq => by rw [show (AObj.row e' sz' (openRows cols L)).ids = [] from openRows_ids cols L] at hq; cases hq⟩
 ·
  split at hk
  ·
   rename_i e1
   injection hk with hk
   subst hk
   rw [e1]
   refine ⟨Nat.lt_succ_of_lt (hn.2 id _ hm).1,fun q hq => ?_⟩
   obtain ⟨r1,hr1,hq⟩ := List.mem_flatMap.1 hq
   obtain ⟨c,hc,hq2⟩ := List.mem_flatMap.1 hq
   rcases List.mem_or_eq_of_mem_set hr1 with h2 | h2
   · exact Nat.lt_succ_of_lt ((hn.2 id _ hm).2 q (List.mem_flatMap.2 ⟨r1,h2,List.mem_flatMap.2 ⟨c,hc,hq2⟩⟩))
   ·
    subst h2
    rcases List.mem_or_eq_of_mem_set hc with h3 | h3
    · exact Nat.lt_succ_of_lt ((hn.2 id _ hm).2 q (List.mem_flatMap.2 ⟨r,List.mem_of_getElem? hi,List.mem_flatMap.2 ⟨c,h3,hq2⟩⟩))
    ·
     subst h3
     simp only [Cell.ids,List.mem_singleton] at hq2
     subst hq2
     exact Nat.lt_succ_self _
  · exact ⟨Nat.lt_succ_of_lt (hn.2 k o hk).1,fun q hq => Nat.lt_succ_of_lt ((hn.2 k o hk).2 q hq)⟩
def scRows (cols : Nat → TD) (L : List (List C)) : Prop := ∀ r ∈ L,∀ (j : Nat) (c : C),r[j]? = some c → cols j = .sc → Cell.scB c = true
theorem SL.fold_ (h : SL w0 N nx F M a w) {e sz e' sz' n : Nat} {cols : Nat → TD} {l l' : List (List Cell)} {r : List Cell} {L : List (List C)} (id ch : Nm) (i j : Nat) (hm : mget M id = some (.row e sz l)) (hi : l[i]? = some r) (hj : r[j]? = some (.own ch n)) (hc : mget M ch = some (.row e' sz' l')) (hl : l' = openRows cols L) (hn : L.length = n) (hne : ch ≠ id) (hsc : scRows cols L) :
  SL w0 N nx F ((id,some (.row e sz (l.set i (r.set j (.tr (.sl e' sz' cols) (.sl L)))))) :: (ch,none) :: M) a w := by
 subst hl
 obtain ⟨⟨ρ,φ,hst⟩,hnm,hp⟩ := h
 obtain ⟨φ',h1⟩ := hst.fold_ hm hi hj hc hn hne hsc
 refine ⟨⟨ρ,φ',h1⟩,⟨hnm.1,fun k o hk => ?_⟩,hp⟩
 simp only [mget,mput,mset] at hk
 split at hk
 ·
  rename_i e1
  injection hk with hk
  subst hk
  rw [e1]
  refine ⟨(hnm.2 id _ hm).1,fun q hq => ?_⟩
  obtain ⟨r1,hr1,hq⟩ := List.mem_flatMap.1 hq
  obtain ⟨c,hc,hq2⟩ := List.mem_flatMap.1 hq
  rcases List.mem_or_eq_of_mem_set hr1 with h2 | h2
  · exact (hnm.2 id _ hm).2 q (List.mem_flatMap.2 ⟨r1,h2,List.mem_flatMap.2 ⟨c,hc,hq2⟩⟩)
  ·
   subst h2
   rcases List.mem_or_eq_of_mem_set hc with h3 | h3
   · exact (hnm.2 id _ hm).2 q (List.mem_flatMap.2 ⟨r,List.mem_of_getElem? hi,List.mem_flatMap.2 ⟨c,h3,hq2⟩⟩)
   ·
    subst h3
    cases hq2
 ·
  split at hk
  · cases hk
  · exact hnm.2 k o hk

theorem SL.bornS (h : SL w0 N nx F M a w) (t : Nat) (ty sz : Nat) (ht : fget F t = .one .nil) : SL w0 N (nx + 1) ((t,.one (.own (nx,0) 0)) :: F) (((nx,0),some (.row ty sz [])) :: M) a w := by
 have hfr := h.fresh 0
 obtain ⟨⟨ρ,φ,hst⟩,hn,hp⟩ := h
 have hstep := (hst.step (w' := w) (ρ' := pset ρ (nx,0) none) (φ' := fset φ (nx,0) fun _ => False) (m' := mset (mget M) (nx,0) (some (.row ty sz []))) (fun k => k = (nx,0)) (Mv.refl _ w) (fun k o hk hi => by simpa only [mset,if_neg hk] using hi) (fun k o hk hi x => by simp only [fset,if_neg hk]) (fun k o hk hi => ⟨if_neg hk,fun q hq => if_neg fun (e : q = (nx,0)) => hfr.hm k o (by simpa only [mset,if_neg hk] using hi) (e ▸ hq)⟩) (fun t q hq => if_neg fun (e : q = (nx,0)) => hfr.hf t (e ▸ hq)) (fun k o x hk hi hx => by subst hk; simp only [fset,if_true] at hx) (fun k k' _ _ _ hk hk' _ _ _ _ => by rw [hk,hk']) (fun k o hk h0 hi => absurd h0 (by rw [hk]; exact hfr.h0)) fun hS k o hk hi => by
  subst hk
  simp only [mset,if_true] at hi
  injection hi with hi
  subst hi
  exact ⟨by simp,.inl ⟨if_pos rfl,rfl⟩⟩).1
 refine ⟨⟨_,_,hstep.mv,hstep.dfr,hstep.size,fun t' v ht' => ?_,hstep.objs,hstep.lt,hstep.base,hstep.disj,hstep.stab⟩,⟨fun t' q hq => ?_,fun k o hk => ?_⟩,by omega⟩
 ·
  simp only [fget]
  split
  ·
   rename_i e1
   subst e1
   have := hstep.regs t' v ht'
   rw [ht] at this
   exact .inr ⟨if_pos rfl,rfl,none,this⟩
  · exact hstep.regs t' v ht'
 ·
  simp only [fget] at hq
  split at hq
  ·
   simp only [AV.ids,Cell.ids,List.mem_singleton] at hq
   subst hq
   exact Nat.lt_succ_self _
  · exact Nat.lt_succ_of_lt (hn.1 t' q hq)
 ·
  simp only [mget,mput,mset] at hk
  split at hk
  ·
   rename_i e1
   injection hk with hk
   subst hk
   rw [e1]
   exact ⟨Nat.lt_succ_self _,fun q hq => by simp [AObj.ids] at hq⟩
  · exact ⟨Nat.lt_succ_of_lt (hn.2 k o hk).1,fun q hq => Nat.lt_succ_of_lt ((hn.2 k o hk).2 q hq)⟩
theorem SL.bornB (h : SL w0 N nx F M a w) (id : Nm) (k ty sz : Nat) {bt : Nat} {l : List Cell} (hm : mget M id = some (.box bt l)) (hk : l[k]? = some .nil) : SL w0 N (nx + 1) F ((id,some (.box bt (l.set k (.own (nx,0) 0)))) :: ((nx,0),some (.row ty sz [])) :: M) a w := by
 have hfr := h.fresh 0
 obtain ⟨⟨ρ,φ,hst⟩,hn,hp⟩ := h
 have hne : id ≠ (nx,0) := fun e => by have := hfr.hn; rw [← e,hm] at this; cases this
 have hkl : k < l.length := (List.getElem?_eq_some_iff.1 hk).1
 have hms : ∀ q o',(q = id ∨ q = (nx,0)) → mset (mset (mget M) (nx,0) (some (.row ty sz []))) id (some (.box bt (l.set k (.own (nx,0) 0)))) q = some o' → (q = id ∧ o' = .box bt (l.set k (.own (nx,0) 0))) ∨ (q = (nx,0) ∧ o' = .row ty sz []) := fun q o' hq hi => by
  simp only [mset] at hi
  by_cases e1 : q = id
  · rw [if_pos e1] at hi; injection hi with hi; exact .inl ⟨e1,hi.symm⟩
  · rw [if_neg e1,if_pos (hq.resolve_left e1)] at hi; injection hi with hi; exact .inr ⟨hq.resolve_left e1,hi.symm⟩
 have hold : ∀ q o',¬ (q = id ∨ q = (nx,0)) → mset (mset (mget M) (nx,0) (some (.row ty sz []))) id (some (.box bt (l.set k (.own (nx,0) 0)))) q = some o' → mget M q = some o' := fun q o' hq hi => by
  simp only [mset,if_neg (fun e => hq (.inl e)),if_neg (fun e => hq (.inr e))] at hi
  exact hi
 have hstep := (hst.step (w' := w) (ρ' := pset ρ (nx,0) none) (φ' := fset φ (nx,0) fun _ => False) (m' := mset (mset (mget M) (nx,0) (some (.row ty sz []))) id (some (.box bt (l.set k (.own (nx,0) 0))))) (fun q => q = id ∨ q = (nx,0)) (Mv.refl _ w) hold (fun q o hq hi x => by simp only [fset,if_neg (fun e => hq (.inr e))]) (fun q o hq hi => ⟨if_neg fun e => hq (.inr e),fun p hp => if_neg fun (e : p = (nx,0)) => hfr.hm q o (hold q o hq hi) (e ▸ hp)⟩) (fun t q hq => if_neg fun (e : q = (nx,0)) => hfr.hf t (e ▸ hq)) (fun q o x hq hi hx => .inr ⟨id,_,.inl rfl,hm,?_⟩) (fun q q' o1 o2 x hq hq' hi hi' hx hx' => ?_) (fun q o hq h0 hi => ?_) fun hS q o hq hi => ?_).1
 ·
  refine ⟨⟨_,_,hstep⟩,⟨fun t' q hq => Nat.lt_succ_of_lt (hn.1 t' q hq),fun q o hq => ?_⟩,by omega⟩
  simp only [mget,mput,mset] at hq
  split at hq
  ·
   rename_i e1
   injection hq with hq
   subst hq
   rw [e1]
   refine ⟨Nat.lt_succ_of_lt (hn.2 id _ hm).1,fun p hp => ?_⟩
   obtain ⟨c,hc,hp⟩ := List.mem_flatMap.1 hp
   rcases List.mem_or_eq_of_mem_set hc with h3 | h3
   · exact Nat.lt_succ_of_lt ((hn.2 id _ hm).2 p (List.mem_flatMap.2 ⟨c,h3,hp⟩))
   ·
    subst h3
    simp only [Cell.ids,List.mem_singleton] at hp
    subst hp
    exact Nat.lt_succ_self _
  ·
   split at hq
   ·
    rename_i e1
    injection hq with hq
    subst hq
    rw [e1]
    exact ⟨Nat.lt_succ_self _,fun p hp => by simp [AObj.ids] at hp⟩
   · exact ⟨Nat.lt_succ_of_lt (hn.2 q o hq).1,fun p hp => Nat.lt_succ_of_lt ((hn.2 q o hq).2 p hp)⟩
 ·
  rcases hms q o hq hi with ⟨rfl,_⟩ | ⟨rfl,_⟩
  · simpa only [fset,if_neg hne] using hx
  · simp only [fset,if_true] at hx
 ·
  rcases hms q o1 hq hi with ⟨rfl,_⟩ | ⟨rfl,_⟩ <;> rcases hms q' o2 hq' hi' with ⟨rfl,_⟩ | ⟨rfl,_⟩
  · rfl
  · simp only [fset,if_true] at hx'
  · simp only [fset,if_true] at hx
  · rfl
 ·
  rcases hms q o hq hi with ⟨rfl,_⟩ | ⟨rfl,_⟩
  · exact ⟨_,hm,if_neg hne⟩
  · exact absurd h0 hfr.h0
 ·
  rcases hms q o hq hi with ⟨rfl,rfl⟩ | ⟨rfl,rfl⟩
  ·
   obtain ⟨b,cur,hr,hx,hh,hc⟩ := hst.objs q _ hm
   refine ⟨b,cur,by rw [show pset ρ (nx,0) none q = ρ q from if_neg hne]; exact hr,by simpa only [fset,if_neg hne] using hx,hh,by rw [List.length_set]; exact hc.1,fun i c v hi hv => ?_⟩
   rw [List.getElem?_set] at hi
   by_cases e1 : k = i
   ·
    subst e1
    rw [if_pos rfl,if_pos hkl] at hi
    injection hi with hi
    subst hi
    obtain ⟨h1,h2⟩ := hc.2 k _ v hk hv
    exact ⟨.inr ⟨if_pos rfl,rfl,none,h1⟩,h2⟩
   ·
    rw [if_neg e1] at hi
    obtain ⟨h1,h2⟩ := hc.2 i c v hi hv
    exact ⟨h1.next (fun _ _ => rfl) hS fun p hp => if_neg fun (e : p = (nx,0)) => hfr.hm q _ hm (e ▸ List.mem_flatMap.2 ⟨c,List.mem_of_getElem? hi,hp⟩),h2⟩
  · exact ⟨by simp,.inl ⟨if_pos rfl,rfl⟩⟩

def CellTo (c c' : Cell) : Prop := c' = c ∨ (c = .nil ∧ c' = .d (.sl [])) ∨ (c = .nil ∧ ∃ e sz cols,c' = .tr (.sl e sz cols) (.sl []))
def RowTo (r r' : List Cell) : Prop := r'.length = r.length ∧ ∀ (j : Nat) (c' : Cell),r'[j]? = some c' → ∃ c,r[j]? = some c ∧ CellTo c c'
def RowsTo (l l' : List (List Cell)) : Prop := l'.length = l.length ∧ ∀ (i : Nat) (r' : List Cell),l'[i]? = some r' → ∃ r,l[i]? = some r ∧ RowTo r r'
theorem RowTo.refl (r : List Cell) : RowTo r r := ⟨rfl,fun j c h => ⟨c,h,.inl rfl⟩⟩
theorem RowTo.nil : RowTo [] [] := RowTo.refl _
theorem RowTo.cons {c c' : Cell} {r r' : List Cell} (h : CellTo c c') (k : RowTo r r') : RowTo (c :: r) (c' :: r') := by
 refine ⟨by simp [k.1],fun j d hj => ?_⟩
 cases j with
 | zero => simp at hj; subst hj; exact ⟨c,rfl,h⟩
 | succ j => exact k.2 j d (by simpa using hj)
theorem RowsTo.refl (l : List (List Cell)) : RowsTo l l := ⟨rfl,fun i r h => ⟨r,h,RowTo.refl r⟩⟩
theorem RowsTo.cons {r r' : List Cell} {l l' : List (List Cell)} (h : RowTo r r') (k : RowsTo l l') : RowsTo (r :: l) (r' :: l') := by
 refine ⟨by simp [k.1],fun j d hj => ?_⟩
 cases j with
 | zero => simp at hj; subst hj; exact ⟨r,rfl,h⟩
 | succ j => exact k.2 j d (by simpa using hj)
theorem RowsTo.append {l l' k k' : List (List Cell)} (h : RowsTo l l') (g : RowsTo k k') : RowsTo (l ++ k) (l' ++ k') := by
 refine ⟨by simp [h.1,g.1],fun i r hi => ?_⟩
 rcases Nat.lt_or_ge i l'.length with h1 | h1
 ·
  rw [List.getElem?_append_left h1] at hi
  rw [List.getElem?_append_left (by rw [← h.1]; exact h1)]
  exact h.2 i r hi
 ·
  rw [List.getElem?_append_right h1] at hi
  rw [List.getElem?_append_right (by rw [← h.1]; exact h1),← h.1]
  exact g.2 _ r hi
theorem RowsTo.rep {r r' : List Cell} (h : RowTo r r') (n : Nat) : RowsTo (List.replicate n r) (List.replicate n r') := by
 refine ⟨by simp,fun i q hi => ?_⟩
 rw [List.getElem?_replicate] at hi
 split at hi
 ·
  rename_i hlt
  injection hi with hi
  subst hi
  exact ⟨r,by rw [List.getElem?_replicate,if_pos hlt],h⟩
 · cases hi
theorem RowsTo.set {l l' : List (List Cell)} (h : RowsTo l l') {r r' : List Cell} (k : RowTo r r') (i : Nat) : RowsTo (l.set i r) (l'.set i r') := by
 refine ⟨by simp [h.1],fun j q hj => ?_⟩
 rw [List.getElem?_set] at hj
 by_cases e : i = j
 ·
  subst e
  rw [if_pos rfl] at hj
  split at hj
  ·
   rename_i hlt
   injection hj with hj
   subst hj
   exact ⟨r,by rw [List.getElem?_set,if_pos rfl,if_pos (by rw [← h.1]; exact hlt)],k⟩
  · cases hj
 ·
  rw [if_neg e] at hj
  obtain ⟨r0,h1,h2⟩ := h.2 j q hj
  exact ⟨r0,by rw [List.getElem?_set,if_neg e]; exact h1,h2⟩
theorem SL.foldL (h : SL w0 N nx F M a w) {e sz e' sz' n : Nat} {cols : Nat → TD} {l' : List (List Cell)} (id ch : Nm) (l : List (List Cell)) (r : List Cell) (j : Nat) (L : List (List C)) (hm : mget M id = some (.row e sz (l ++ [r]))) (hj : r[j]? = some (.own ch n)) (hc : mget M ch = some (.row e' sz' l')) (hl : l' = openRows cols L) (hn : L.length = n) (hne : ch ≠ id) (hsc : scRows cols L) :
  SL w0 N nx F ((id,some (.row e sz (l ++ [r.set j (.tr (.sl e' sz' cols) (.sl L))]))) :: (ch,none) :: M) a w := by
 have := h.fold_ id ch l.length j hm (by simp) hj hc hl hn hne hsc
 rw [List.set_append_right _ _ (Nat.le_refl _),Nat.sub_self] at this
 exact this
theorem SL.foldS (h : SL w0 N nx F M a w) {e sz e' sz' n : Nat} {cols : Nat → TD} {l' : List (List Cell)} (id ch : Nm) (l : List (List Cell)) (i : Nat) (r : List Cell) (j : Nat) (L : List (List C)) (hm : mget M id = some (.row e sz (l.set i r))) (hi : i < l.length) (hj : r[j]? = some (.own ch n)) (hc : mget M ch = some (.row e' sz' l')) (hl : l' = openRows cols L) (hn : L.length = n) (hne : ch ≠ id) (hsc : scRows cols L) :
  SL w0 N nx F ((id,some (.row e sz (l.set i (r.set j (.tr (.sl e' sz' cols) (.sl L)))))) :: (ch,none) :: M) a w := by
 have := h.fold_ id ch i j hm (by rw [List.getElem?_set,if_pos rfl,if_pos hi]) hj hc hl hn hne hsc
 rwa [List.set_set] at this
theorem SL.nilTr (h : SL w0 N nx F M a w) (id : Nm) {ty sz : Nat} {l l' : List (List Cell)} (hm : mget M id = some (.row ty sz l)) (ht : RowsTo l l') : SL w0 N nx F ((id,some (.row ty sz l')) :: M) a w := by
 obtain ⟨⟨ρ,φ,hst⟩,hn,hp⟩ := h
 refine ⟨⟨ρ,φ,(hst.write id _ (.row ty sz l') hm (Mv.refl _ w) ?_).1⟩,⟨hn.1,fun q o hq => ?_⟩,hp⟩
 ·
  have hrow := hst.objs id _ hm
  refine ⟨by rw [ht.1]; exact hrow.1,?_⟩
  rcases hrow.2 with ⟨hr,hl⟩ | ⟨b,base,cap,hr,cur,G,h0,h1,h2,h3,h4,h5,h6⟩
  · exact .inl ⟨hr,List.eq_nil_of_length_eq_zero (by rw [ht.1,hl]; rfl)⟩
  ·
   refine .inr ⟨b,base,cap,hr,cur,G,h0,h1,by rw [ht.1]; exact h2,h3,fun i r' hi => ?_,h5,h6⟩
   obtain ⟨r,hr0,hrt⟩ := ht.2 i r' hi
   obtain ⟨h7,h8⟩ := h4 i r hr0
   refine ⟨by rw [hrt.1]; exact h7,fun j d' hj => ?_⟩
   obtain ⟨d,hd,hc⟩ := hrt.2 j d' hj
   obtain ⟨v,hv,hrc⟩ := h8 j d hd
   refine ⟨v,hv,?_⟩
   rcases hc with rfl | ⟨rfl,rfl⟩ | ⟨rfl,e,s,cols,rfl⟩
   · exact hrc
   ·
    refine ⟨hrc.1,?_,fun T c ee => by cases ee⟩
    rw [show v = .slice none 0 0 from hrc.2.1]
    exact view_nil
   ·
    refine ⟨hrc.1,trivial,fun T c ee => ?_⟩
    injection ee with e1 e2
    subst e1 e2
    rw [show v = .slice none 0 0 from hrc.2.1]
    exact Tree.nil e s cols none _
 ·
  simp only [mget,mput,mset] at hq
  split at hq
  ·
   rename_i e1
   injection hq with hq
   subst hq
   rw [e1]
   refine ⟨(hn.2 id _ hm).1,fun p hp => ?_⟩
   obtain ⟨r',hr',hp⟩ := List.mem_flatMap.1 hp
   obtain ⟨d',hd',hp⟩ := List.mem_flatMap.1 hp
   obtain ⟨i,hi⟩ := List.mem_iff_getElem?.1 hr'
   obtain ⟨r,hr0,hrt⟩ := ht.2 i r' hi
   obtain ⟨j,hj⟩ := List.mem_iff_getElem?.1 hd'
   obtain ⟨d,hd,hc⟩ := hrt.2 j d' hj
   rcases hc with rfl | ⟨rfl,rfl⟩ | ⟨rfl,e,s,cols,rfl⟩
   · exact (hn.2 id _ hm).2 p (List.mem_flatMap.2 ⟨r,List.mem_of_getElem? hr0,List.mem_flatMap.2 ⟨_,List.mem_of_getElem? hd,hp⟩⟩)
   · cases hp
   · cases hp
  · exact hn.2 q o hq
end
def dat (l : List (List C)) : List (List Cell) := l.map fun r => r.map Cell.d
theorem dat_cell (l : List (List C)) : ∀ r ∈ dat l,∀ c ∈ r,∃ d,c = .d d := by
 intro r hr c hc
 obtain ⟨r0,_,rfl⟩ := List.mem_map.1 hr
 obtain ⟨d,_,rfl⟩ := List.mem_map.1 hc
 exact ⟨d,rfl⟩
theorem dat_ids (l : List (List C)) : (dat l).flatMap (fun r => r.flatMap Cell.ids) = [] := by
 refine List.flatMap_eq_nil_iff.2 fun r hr => List.flatMap_eq_nil_iff.2 fun c hc => ?_
 obtain ⟨d,rfl⟩ := dat_cell l r hr c hc
 rfl
theorem opn_cell (cols : Nat → TD) (l : List (List C)) : ∀ r ∈ openRows cols l,∀ c ∈ r,(∃ d,c = .d d) ∨ ∃ T d,c = .tr T d := by
 intro r hr c hc
 obtain ⟨i,hi⟩ := List.mem_iff_getElem?.1 hr
 obtain ⟨r0,_,_,h3⟩ := openRows_get hi
 obtain ⟨j,hj⟩ := List.mem_iff_getElem?.1 hc
 rw [h3] at hj
 obtain ⟨c0,_,rfl⟩ := Option.map_eq_some_iff.1 hj
 cases cols j with
 | sc => exact .inl ⟨c0,rfl⟩
 | sl e s k => exact .inr ⟨_,c0,rfl⟩
theorem rows_reach' {m : Nm → Option AObj} (l : List (List Cell)) (k : Nat) (h : ∀ r ∈ l,∀ c ∈ r,reach m k c = []) : l.flatMap (fun r => r.flatMap (reach m k)) = [] :=
 List.flatMap_eq_nil_iff.2 fun r hr => List.flatMap_eq_nil_iff.2 fun c hc => h r hr c hc
theorem dat_ntr (l : List (List C)) : ((dat l).all fun r => r.all Cell.ntr) = true := by
 refine List.all_eq_true.2 fun r hr => List.all_eq_true.2 fun c hc => ?_
 obtain ⟨d,rfl⟩ := dat_cell l r hr c hc
 rfl
theorem mapO_app {α β : Type} (g : α → Option β) : ∀ (xs ys : List α),mapO g (xs ++ ys) = match mapO g xs,mapO g ys with
  | some a,some b => some (a ++ b)
  | _,_ => none
 | [],ys => by
  simp only [List.nil_append,mapO]
  cases mapO g ys <;> rfl
 | x :: xs,ys => by
  simp only [List.cons_append,mapO]
  rw [mapO_app g xs ys]
  cases g x <;> cases mapO g xs <;> cases mapO g ys <;> rfl
theorem mapO_rep {α β : Type} (g : α → Option β) (x : α) : ∀ (n : Nat),mapO g (List.replicate n x) = match g x with
  | some y => some (List.replicate n y)
  | none => if n = 0 then some [] else none
 | 0 => by cases g x <;> rfl
 | n + 1 => by
  simp only [List.replicate_succ,mapO]
  rw [mapO_rep g x n]
  cases g x <;> rfl
theorem mapO_all {α β γ : Type} (g : α → Option β) (k : γ → α) (j : γ → β) (h : ∀ x,g (k x) = some (j x)) : ∀ (l : List γ),mapO g (l.map k) = some (l.map j)
 | [] => rfl
 | x :: l => by
  simp only [List.map_cons,mapO,h,mapO_all g k j h l]
theorem dat_mo {m : Nm → Option AObj} (k : Nat) (l : List (List C)) : mapO (mapO (trOr (frz m k))) (dat l) = some l := by
 have := mapO_all (mapO (trOr (frz m k))) (fun r : List C => r.map Cell.d) id (fun r => by
  have := mapO_all (trOr (frz m k)) Cell.d id (fun c => by cases k <;> rfl) r
  simpa using this) l
 simpa [dat] using this
theorem cellsOf_mo {m : Nm → Option AObj} (k : Nat) (cols : Nat → TD) : ∀ (r : List C) (j : Nat),mapO (trOr (frz m k)) (cellsOf cols j r) = some r
 | [],_ => rfl
 | c :: r,j => by
  simp only [cellsOf,mapO,cellsOf_mo k cols r]
  cases cols j with
  | sc => cases k <;> rfl
  | sl e s q => rfl
theorem opn_mo {m : Nm → Option AObj} (k : Nat) (cols : Nat → TD) (l : List (List C)) : mapO (mapO (trOr (frz m k))) (openRows cols l) = some l := by
 have := mapO_all (mapO (trOr (frz m k))) (cellsOf cols 0) id (fun r => cellsOf_mo k cols r 0) l
 simpa [openRows] using this
theorem dat_open (L : List (List C)) : openRows (fun _ => .sc) L = dat L := by
 have : ∀ (r : List C) (j : Nat),cellsOf (fun _ => .sc) j r = r.map Cell.d := by
  intro r
  induction r with
  | nil => intro _; rfl
  | cons c r ih => intro j; simp [cellsOf,cellOf,ih]
 simp [openRows,dat,this]
section
variable {P : Program} {Z : List (Fact P)} {ev : Operand → AV} {m : Nm → Option AObj} {N nx fr : Nat} {F : LF} {M : LM}
theorem rows_reach (l : List (List Cell)) (k : Nat) (h : (∀ r ∈ l,∀ c ∈ r,∃ d,c = .d d) ∨ ∀ r ∈ l,∀ c ∈ r,(∃ d,c = .d d) ∨ ∃ T d,c = .tr T d) : l.flatMap (fun r => r.flatMap (reach m k)) = [] := by
 refine rows_reach' l k fun r hr c hc => ?_
 rcases h with h | h
 ·
  obtain ⟨d,rfl⟩ := h r hr c hc
  cases k <;> rfl
 · rcases h r hr c hc with ⟨d,rfl⟩ | ⟨T,d,rfl⟩ <;> cases k <;> rfl
theorem e_ids1 (c : Cell) : (AV.one c).ids = c.ids := rfl
theorem e_ids2 (l : List Cell) : (AV.agg l).ids = l.flatMap Cell.ids := rfl
theorem e_ids3 (l : List (List Cell ⊕ Cell)) : (AV.tup l).ids = l.flatMap sumIds := rfl
theorem e_sum1 (l : List Cell) : sumIds (.inl l) = l.flatMap Cell.ids := rfl
theorem e_sum2 (c : Cell) : sumIds (.inr c) = c.ids := rfl
theorem e_cid1 (c : C) : (Cell.d c).ids = [] := rfl
theorem e_cid2 (T : TD) (c : C) : (Cell.tr T c).ids = [] := rfl
theorem e_cid3 (i : Nm) (o : Nat) : (Cell.ptr i o).ids = [i] := rfl
theorem e_cid4 (i : Nm) (s a b : Nat) : (Cell.eptr i s a b).ids = [i] := rfl
theorem e_cid5 (i : Nm) (n : Nat) : (Cell.own i n).ids = [i] := rfl
theorem e_cid6 (i : Nm) (s o n : Nat) : (Cell.sub i s o n).ids = [i] := rfl
theorem e_cid7 (g : FuncId) (l : List (Nm × Nat)) : (Cell.fnp g l).ids = l.map (·.1) := rfl
theorem e_cid8 (i : Nm) : (Cell.mp i).ids = [i] := rfl
theorem e_cid9 : Cell.nil.ids = [] := rfl
theorem e_cid10 : Cell.any.ids = [] := rfl
theorem e_cid11 (e : Bool) (n : Nat) : (Cell.bb e n).ids = [] := rfl
theorem e_oid1 (t : Nat) (l : List Cell) : (AObj.box t l).ids = l.flatMap Cell.ids := rfl
theorem e_oid2 (t s : Nat) (l : List (List Cell)) : (AObj.row t s l).ids = l.flatMap fun r => r.flatMap Cell.ids := rfl
theorem e_cells1 (c : Cell) : (AV.one c).cells = [c] := rfl
theorem e_cells2 (l : List Cell) : (AV.agg l).cells = l := rfl
theorem e_okc1 (c : Cell) : (AV.one c).okCells = c.known := rfl
theorem e_okc2 (l : List Cell) : (AV.agg l).okCells = l.all Cell.ntr := rfl
theorem e_kn0 (c : C) : (Cell.d c).known = true := rfl
theorem e_nt0 (c : C) : (Cell.d c).ntr = true := rfl
theorem e_kn1 (i : Nm) (o : Nat) : (Cell.ptr i o).known = true := rfl
theorem e_nt1 (i : Nm) (o : Nat) : (Cell.ptr i o).ntr = true := rfl
theorem e_kn2 (i : Nm) (s a b : Nat) : (Cell.eptr i s a b).known = true := rfl
theorem e_nt2 (i : Nm) (s a b : Nat) : (Cell.eptr i s a b).ntr = true := rfl
theorem e_kn3 (i : Nm) (n : Nat) : (Cell.own i n).known = true := rfl
theorem e_nt3 (i : Nm) (n : Nat) : (Cell.own i n).ntr = true := rfl
theorem e_kn4 (i : Nm) (s o n : Nat) : (Cell.sub i s o n).known = true := rfl
theorem e_nt4 (i : Nm) (s o n : Nat) : (Cell.sub i s o n).ntr = true := rfl
theorem e_kn5 (g : FuncId) (l : List (Nm × Nat)) : (Cell.fnp g l).known = true := rfl
theorem e_nt5 (g : FuncId) (l : List (Nm × Nat)) : (Cell.fnp g l).ntr = true := rfl
theorem e_kn6  : (Cell.nil).known = true := rfl
theorem e_nt6  : (Cell.nil).ntr = true := rfl
theorem e_kn7 (e : Bool) (n : Nat) : (Cell.bb e n).known = true := rfl
theorem e_nt7 (e : Bool) (n : Nat) : (Cell.bb e n).ntr = true := rfl
theorem e_kn8 (i : Nm) : (Cell.mp i).known = true := rfl
theorem e_nt8 (i : Nm) : (Cell.mp i).ntr = true := rfl
theorem e_nt20 : Cell.any.ntr = true := rfl
theorem e_ov1 (k : IntKind) (n : Int) : ofVal (.int k n) = .d (.int k n) := rfl
theorem e_ov2 (b : Bool) : ofVal (.bool b) = .d (.bool b) := rfl
theorem e_ov3 : ofVal (.slice none 0 0) = .nil := rfl
theorem e_ov4 (s : ByteArray) : ofVal (.string s) = .d (.str s) := rfl
theorem e_ev1 (f : Nat → AV) (t : Nat) : aeval N f (.tmp t) = if t < N then f t else .one .any := rfl
theorem e_ev2 (f : Nat → AV) (v : Value) : aeval N f (.const v) = .one (ofVal v) := rfl
theorem e_ev3 (f : Nat → AV) (g : FuncId) : aeval N f (.func g) = .one (.d (.fn g [] [])) := rfl
theorem e_fg0 (t : Nat) : fget [] t = .one .any := rfl
theorem e_fg1 (k t : Nat) (v : AV) (r : LF) : fget ((k,v) :: r) t = if t = k then v else fget r t := rfl
theorem e_mg0 (t : Nm) : mget [] t = none := rfl
theorem e_mg1 (k t : Nm) (v : Option AObj) (r : LM) : mget ((k,v) :: r) t = if t = k then v else mget r t := rfl
theorem e_nm (a b c d : Nat) : ((a,b) = (c,d)) = (a = c ∧ b = d) := by simp
theorem e_fa1 (d : Nat) (v : AV) : fadd F (some d) v = (d,v) :: F := rfl
theorem e_fa0 (v : AV) : fadd F none v = F := rfl
theorem e_ma0 : madd M [] = M := rfl
theorem e_ma1 (p : Upd) (r : List Upd) : madd M (p :: r) = madd (p :: M) r := rfl
theorem e_ui0 : uIds [] = [] := rfl
theorem e_ui1 (i : Nm) (r : List Upd) : uIds ((i,none) :: r) = i.1 :: uIds r := rfl
theorem e_ui2 (i : Nm) (o : AObj) (r : List Upd) : uIds ((i,some o) :: r) = i.1 :: (o.ids.map (·.1) ++ uIds r) := rfl
theorem e_ucl (i : Nm) (o : Option AObj) : ucl (i,o) = i.1 := rfl
theorem e_okV (v : AV) (U : List Upd) : okV nx v U = (v.ids.map (·.1) ++ uIds U).all fun id => Nat.blt id (nx + 1) := rfl
theorem e_okN : okN nx F M = (Nat.blt 0 nx && F.all (fun p => (p.2.ids.map (·.1)).all fun id => Nat.blt id nx) && (uIds M).all fun id => Nat.blt id nx) := rfl
theorem e_ar0 : arun P Z N [] [] nx F M = some (F,M) := rfl
theorem e_ar1 (g : Gd) (gs : List Gd) (o : Oper) (l : List Oper) : arun P Z N (g :: gs) (o :: l) nx F M = match gstep P Z (aeval N (fget F)) (mget M) nx g o with
  | some (v,U) => if okV nx v U = true then arun P Z N gs l (nx + 1) (fadd F o.dst v) (madd M U) else none
  | none => none := rfl
theorem e_dr0 (T : List T3) : drun P Z N [] [] nx F M T = some (F,M,T) := rfl
theorem e_dr1 (g : Gd) (gs : List Gd) (o : Oper) (l : List Oper) (T : List T3) : drun P Z N (g :: gs) (o :: l) nx F M T = match gstep P Z (aeval N (fget F)) (mget M) nx g o with
  | some (v,U) => if okV nx v U = true then drun P Z N gs l (nx + 1) (fadd F o.dst v) (madd M U) (((opN (mget M) (aeval N (fget F)) o).map (·.1),U.map ucl,v.ids.map (·.1) ++ uIds U) :: T) else none
  | none => none := rfl
theorem e_g0 (o : Oper) : gstep P Z ev m fr none o = astep P Z ev m fr o := rfl
theorem e_g1 (d : Nat) (w : Bool) (o : Oper) : gstep P Z ev m fr (some (some d,w)) o = match ev (.tmp d) with
  | .one (.d (.bool b)) => if b = w then astep P Z ev m fr o else some (.tup [],[])
  | .tup [] => some (.tup [],[])
  | _ => none := rfl
theorem e_ok (ks : List Nat) (ms : List Nm) : okeep ks ms (some (F,M)) = some (fkeep F ks,mkeep M ms) := rfl
theorem e_dk (ks : List Nat) (ms : List Nm) (T : List T3) : dkeep ks ms (some (F,M,T)) = some (fkeep F ks,mkeep M ms,T) := rfl
theorem e_fk (ks : List Nat) : fkeep F ks = ks.map fun t => (t,fget F t) := rfl
theorem e_mk (ks : List Nm) : mkeep M ks = ks.map fun t => (t,mget M t) := rfl
theorem e_frz1 (k : Nat) (c : C) : frz m k (.d c) = some c := by cases k <;> rfl
theorem e_frz2 (k : Nat) : frz m k .nil = some (.sl []) := by cases k <;> rfl
theorem e_frz3 (k : Nat) (i : Nm) (n : Nat) : frz m (k + 1) (.own i n) = match rowsOf m (.own i n) with
  | some l => (mapO (mapO (trOr (frz m k))) l).map C.sl
  | none => none := rfl
theorem e_frz4 (k : Nat) (i : Nm) (s o n : Nat) : frz m (k + 1) (.sub i s o n) = match rowsOf m (.sub i s o n) with
  | some l => (mapO (mapO (trOr (frz m k))) l).map C.sl
  | none => none := rfl
theorem e_frz5 (k : Nat) (i : Nm) (o : Nat) : frz m (k + 1) (.ptr i o) = match m i with
  | some (.box _ l) => (mapO (frz m k) (l.drop o)).map C.rop
  | _ => none := rfl
theorem e_frz6 (k : Nat) (g : FuncId) (l : List (Nm × Nat)) : frz m (k + 1) (.fnp g l) = (mapO (fun p : Nm × Nat => match m p.1 with
   | some (.box _ l) => (mapO (frz m k) (l.drop p.2)).map C.rop
   | _ => none) l).map (C.fn g []) := rfl
theorem e_ro1 (i : Nm) (n : Nat) : rowsOf m (.own i n) = match m i with
  | some (.row _ _ l) => if l.length = n then some l else if n ≤ l.length then some (l.take n) else none
  | _ => none := rfl
theorem e_ro2 (i : Nm) (s o n : Nat) : rowsOf m (.sub i s o n) = match m i with
  | some (.row _ sz l) => if s = sz ∧ o + n ≤ l.length then some ((l.drop o).take n) else none
  | _ => none := rfl
theorem e_ro3 : rowsOf m .nil = some [] := rfl
theorem e_tro1 (g : Cell → Option C) (T : TD) (c : C) : trOr g (.tr T c) = some c := rfl
theorem e_tro2 (g : Cell → Option C) (c : C) : trOr g (.d c) = g (.d c) := rfl
theorem e_tro3 (g : Cell → Option C) (i : Nm) (n : Nat) : trOr g (.own i n) = g (.own i n) := rfl
theorem e_tro4 (g : Cell → Option C) : trOr g .nil = g .nil := rfl
theorem e_tro5 (g : Cell → Option C) (i : Nm) (s o n : Nat) : trOr g (.sub i s o n) = g (.sub i s o n) := rfl
theorem e_rea1 (k : Nat) (c : C) : reach m k (.d c) = [] := by cases k <;> rfl
theorem e_rea2 (k : Nat) : reach m k .nil = [] := by cases k <;> rfl
theorem e_rea3 (k : Nat) : reach m k .any = [] := by cases k <;> rfl
theorem e_rea4 (k : Nat) (e : Bool) (n : Nat) : reach m k (.bb e n) = [] := by cases k <;> rfl
theorem e_rea5 (k : Nat) (T : TD) (c : C) : reach m k (.tr T c) = [] := by cases k <;> rfl
theorem e_rea6 (k : Nat) (i : Nm) (n : Nat) : reach m (k + 1) (.own i n) = i :: (match m i with
   | some (.row _ _ l) => l.flatMap fun r => r.flatMap (reach m k)
   | some (.box _ l) => l.flatMap (reach m k)
   | _ => []) := by simp [reach,Cell.ids]; rfl
theorem e_rea7 (k : Nat) (i : Nm) (s o n : Nat) : reach m (k + 1) (.sub i s o n) = i :: (match m i with
   | some (.row _ _ l) => l.flatMap fun r => r.flatMap (reach m k)
   | some (.box _ l) => l.flatMap (reach m k)
   | _ => []) := by simp [reach,Cell.ids]; rfl
theorem e_rea8 (k : Nat) (i : Nm) (o : Nat) : reach m (k + 1) (.ptr i o) = i :: (match m i with
   | some (.row _ _ l) => l.flatMap fun r => r.flatMap (reach m k)
   | some (.box _ l) => l.flatMap (reach m k)
   | _ => []) := by simp [reach,Cell.ids]; rfl
theorem e_rea9 (k : Nat) (i : Nm) (s a b : Nat) : reach m (k + 1) (.eptr i s a b) = i :: (match m i with
   | some (.row _ _ l) => l.flatMap fun r => r.flatMap (reach m k)
   | some (.box _ l) => l.flatMap (reach m k)
   | _ => []) := by simp [reach,Cell.ids]; rfl
theorem e_rea10 (k : Nat) (i : Nm)  : reach m (k + 1) (.mp i) = i :: (match m i with
   | some (.row _ _ l) => l.flatMap fun r => r.flatMap (reach m k)
   | some (.box _ l) => l.flatMap (reach m k)
   | _ => []) := by simp [reach,Cell.ids]; rfl
theorem e_rea11 (k : Nat) (g : FuncId) (l : List (Nm × Nat)) : reach m (k + 1) (.fnp g l) = l.map (·.1) ++ (l.map (·.1)).flatMap fun i => match m i with
   | some (.row _ _ l) => l.flatMap fun r => r.flatMap (reach m k)
   | some (.box _ l) => l.flatMap (reach m k)
   | _ => [] := rfl
theorem e_rav1 (c : Cell) : reachAV m (.one c) = reach m 5 c := rfl
theorem e_rav2 (l : List Cell) : reachAV m (.agg l) = l.flatMap (reach m 5) := rfl
theorem e_rav3 (l : List (List Cell ⊕ Cell)) : reachAV m (.tup l) = [] := rfl
theorem e_mo0 {α β : Type} (g : α → Option β) : mapO g [] = some [] := rfl
theorem e_mo1 {α β : Type} (g : α → Option β) (x : α) (xs : List α) : mapO g (x :: xs) = match g x,mapO g xs with
  | some y,some ys => some (y :: ys)
  | _,_ => none := rfl
theorem e_ch0 (sz : Nat) (l : List Cell) : chunk sz 0 l = [] := rfl
theorem e_ch1 (sz n : Nat) (l : List Cell) : chunk sz (n + 1) l = l.take sz :: chunk sz n (l.drop sz) := rfl
theorem e_fa (c : Cell) : frzAV m (.one c) = (frz m 5 c).map fun d => .one (.d d) := rfl
theorem e_fb (l : List Cell) : frzAV m (.agg l) = (mapO (frz m 5) l).map fun ds => .agg (ds.map .d) := rfl
theorem e_fas0 : frzAVs m [] = some [] := rfl
theorem e_fas1 (x : AV) (xs : List AV) : frzAVs m (x :: xs) = match frzAV m x,frzAVs m xs with
  | some y,some ys => some (y :: ys)
  | _,_ => none := rfl
theorem e_cc0 (k : IntKind) (n : Int) : cleanC (.d (.int k n)) = true := rfl
theorem e_cc1 (b : Bool) : cleanC (.d (.bool b)) = true := rfl
theorem e_cc2 (b : ByteArray) : cleanC (.d (.str b)) = true := rfl
theorem e_cc3 (l : List (List C)) : cleanC (.d (.sl l)) = false := rfl
theorem e_cc4 (l : List C) : cleanC (.d (.rop l)) = false := rfl
theorem e_cc5 (g : FuncId) (f : List (List C ⊕ C)) (l : List C) : cleanC (.d (.fn g f l)) = false := rfl
theorem e_cc6 (i : Nm) (n : Nat) : cleanC (.own i n) = true := rfl
theorem e_cc7 (i : Nm) (n : Nat) : cleanC (.ptr i n) = true := rfl
theorem e_cc8 (T : TD) (c : C) : cleanC (.tr T c) = true := rfl
theorem e_cc9  : cleanC (.nil) = true := rfl
theorem e_cc10  : cleanC (.any) = true := rfl
theorem e_cla (c : Cell) : (AV.one c).clean = cleanC c := rfl
theorem e_clb (l : List Cell) : (AV.agg l).clean = l.all cleanC := rfl
theorem e_clc (l : List (List Cell ⊕ Cell)) : (AV.tup l).clean = l.all cleanS := rfl
theorem e_cls1 (l : List Cell) : cleanS (.inl l) = l.all cleanC := rfl
theorem e_cls2 (c : Cell) : cleanS (.inr c) = cleanC c := rfl
theorem e_clo1 (t : Nat) (l : List Cell) : (AObj.box t l).clean = l.all cleanC := rfl
theorem e_clo2 (t s : Nat) (l : List (List Cell)) : (AObj.row t s l).clean = l.all fun r => r.all cleanC := rfl
theorem e_af0 (pl : Nat → Option (Nat × Nat)) (l : List Cell) : afill pl l [] = some l := rfl
theorem e_af1 (pl : Nat → Option (Nat × Nat)) (l : List Cell) (i : Nat) (x : AV) (rest : List (Nat × AV)) : afill pl l ((i,x) :: rest) = match pl i with
  | none => none
  | some (off,size) => if x.okCells = true ∧ x.cells.length = size ∧ off + size ≤ l.length then afill pl (lay l off x.cells) rest else none := rfl
theorem e_zr0 {α : Type} (z : List α) : zrep 0 z = [] := rfl
theorem e_zr1 {α : Type} (n : Nat) (z : List α) : zrep (n + 1) z = z ++ zrep n z := rfl
theorem e_argF0 (i : Nat) : argF i [] = [] := rfl
theorem e_argF1 (i : Nat) (x : AV) (xs : List AV) : argF i (x :: xs) = (i,x) :: argF (i + 1) xs := rfl
theorem e_kl1 (i : Nm) (r : List Nm) : killOf (i :: r) = [(i,none)] := rfl
theorem e_kl0 : killOf [] = [] := rfl
theorem e_r1 (t : Nat) : aRes P N F M (.tmp t) = if t < N then some (fget F t) else none := rfl
theorem e_r2 (t ty : Nat) : aRes P N F M (.cell t ty) = (stLoad P (mget M) ty (aeval N (fget F) (.tmp t))).map (·.1) := rfl
theorem e_an1 (x : AV) : ansOf [x] = some x := rfl
theorem e_an0 : ansOf [] = some (.tup []) := rfl
theorem e_an2 (x y : AV) (l : List AV) : ansOf (x :: y :: l) = (allS (x :: y :: l)).map .tup := rfl
theorem e_al0 : allS [] = some [] := rfl
theorem e_al1 (x : AV) (xs : List AV) : allS (x :: xs) = match toS x,allS xs with
  | some y,some ys => some (y :: ys)
  | _,_ => none := rfl
theorem e_ts1 (c : Cell) : toS (.one c) = some (.inr c) := rfl
theorem e_ts2 (l : List Cell) : toS (.agg l) = some (.inl l) := rfl
theorem e_app_ids (l l' : List (List Cell)) : (l ++ l').flatMap (fun r => r.flatMap Cell.ids) = l.flatMap (fun r => r.flatMap Cell.ids) ++ l'.flatMap (fun r => r.flatMap Cell.ids) := List.flatMap_append
theorem e_app_rea (k : Nat) (l l' : List (List Cell)) : (l ++ l').flatMap (fun r => r.flatMap (reach m k)) = l.flatMap (fun r => r.flatMap (reach m k)) ++ l'.flatMap (fun r => r.flatMap (reach m k)) := List.flatMap_append
theorem e_mo_app {α β : Type} (g : α → Option β) (xs ys : List α) : mapO g (xs ++ ys) = match mapO g xs,mapO g ys with
  | some a,some b => some (a ++ b)
  | _,_ => none := mapO_app g xs ys
theorem e_rep_mo {α β : Type} (g : α → Option β) (x : α) (n : Nat) : mapO g (List.replicate n x) = match g x with
  | some y => some (List.replicate n y)
  | none => if n = 0 then some [] else none := mapO_rep g x n
theorem e_dat1 (l : List (List C)) : (dat l).flatMap (fun r => r.flatMap Cell.ids) = [] := dat_ids _
theorem e_dat2 (k : Nat) (l : List (List C)) : (dat l).flatMap (fun r => r.flatMap (reach m k)) = [] := rows_reach (dat l) k (by first | exact .inl (dat_cell _) | exact .inr (opn_cell _ _))
theorem e_dat3 (k : Nat) (l : List (List C)) : mapO (mapO (trOr (frz m k))) (dat l) = some l := dat_mo k l
theorem e_dat4 (l : List (List C)) : (dat l).length = l.length := by simp [dat,openRows]
theorem e_opn1 (cols : Nat → TD) (l : List (List C)) : (openRows cols l).flatMap (fun r => r.flatMap Cell.ids) = [] := openRows_ids _ _
theorem e_opn2 (k : Nat) (cols : Nat → TD) (l : List (List C)) : (openRows cols l).flatMap (fun r => r.flatMap (reach m k)) = [] := rows_reach (openRows cols l) k (by first | exact .inl (dat_cell _) | exact .inr (opn_cell _ _))
theorem e_opn3 (k : Nat) (cols : Nat → TD) (l : List (List C)) : mapO (mapO (trOr (frz m k))) (openRows cols l) = some l := opn_mo k cols l
theorem e_opn4 (cols : Nat → TD) (l : List (List C)) : (openRows cols l).length = l.length := by simp [dat,openRows]
theorem e_dat5 (l : List (List C)) (i : Nat) : (dat l)[i]? = (l[i]?).map fun r => r.map Cell.d := by simp [dat]
theorem e_dat6 (l : List (List C)) : ((dat l).all fun r => r.all Cell.ntr) = true := dat_ntr l
theorem e_dat7 (l l' : List (List C)) : dat (l ++ l') = dat l ++ dat l' := by simp [dat]
theorem e_dat8 (r : List C) (l : List (List C)) : dat (r :: l) = r.map Cell.d :: dat l := rfl
theorem e_dat9 : dat [] = [] := rfl
theorem e_dat10 (n : Nat) (r : List C) : dat (List.replicate n r) = List.replicate n (r.map Cell.d) := by simp [dat]
theorem e_dat11_1 (l : List (List C)) (i : Nat) (c0 : C) : (dat l).set i [.d c0] = dat (l.set i [c0]) := by simp [dat,List.map_set]
theorem e_dat11_2 (l : List (List C)) (i : Nat) (c0 c1 : C) : (dat l).set i [.d c0,.d c1] = dat (l.set i [c0,c1]) := by simp [dat,List.map_set]
theorem e_dat11_3 (l : List (List C)) (i : Nat) (c0 c1 c2 : C) : (dat l).set i [.d c0,.d c1,.d c2] = dat (l.set i [c0,c1,c2]) := by simp [dat,List.map_set]
theorem e_dat11_4 (l : List (List C)) (i : Nat) (c0 c1 c2 c3 : C) : (dat l).set i [.d c0,.d c1,.d c2,.d c3] = dat (l.set i [c0,c1,c2,c3]) := by simp [dat,List.map_set]
theorem e_dat11_5 (l : List (List C)) (i : Nat) (c0 c1 c2 c3 c4 : C) : (dat l).set i [.d c0,.d c1,.d c2,.d c3,.d c4] = dat (l.set i [c0,c1,c2,c3,c4]) := by simp [dat,List.map_set]
theorem e_dat11_6 (l : List (List C)) (i : Nat) (c0 c1 c2 c3 c4 c5 : C) : (dat l).set i [.d c0,.d c1,.d c2,.d c3,.d c4,.d c5] = dat (l.set i [c0,c1,c2,c3,c4,c5]) := by simp [dat,List.map_set]
theorem e_dat11_7 (l : List (List C)) (i : Nat) (c0 c1 c2 c3 c4 c5 c6 : C) : (dat l).set i [.d c0,.d c1,.d c2,.d c3,.d c4,.d c5,.d c6] = dat (l.set i [c0,c1,c2,c3,c4,c5,c6]) := by simp [dat,List.map_set]
theorem e_dat11_8 (l : List (List C)) (i : Nat) (c0 c1 c2 c3 c4 c5 c6 c7 : C) : (dat l).set i [.d c0,.d c1,.d c2,.d c3,.d c4,.d c5,.d c6,.d c7] = dat (l.set i [c0,c1,c2,c3,c4,c5,c6,c7]) := by simp [dat,List.map_set]
theorem e_dat12 (l : List (List C)) (n : Nat) : (dat l).take n = dat (l.take n) := by simp [dat,List.map_take]
theorem e_opn12 (cols : Nat → TD) (l : List (List C)) (n : Nat) : (openRows cols l).take n = openRows cols (l.take n) := by simp [openRows,List.map_take]
theorem e_opn13 (cols : Nat → TD) (l : List (List C)) (n : Nat) : (openRows cols l).drop n = openRows cols (l.drop n) := by simp [openRows,List.map_drop]
theorem e_dat13 (l : List (List C)) (n : Nat) : (dat l).drop n = dat (l.drop n) := by simp [dat,List.map_drop]
theorem e_dat14 (p : List Cell → Prop) (l : List (List C)) : (∀ r ∈ dat l,p r) ↔ ∀ r ∈ l,p (r.map Cell.d) := by simp [dat]
theorem e_dat15 (l : List (List C)) (q : List Cell → Bool) : (dat l).all q = l.all fun r => q (r.map Cell.d) := by simp [dat,Function.comp_def]
theorem e_dat16 (l : List (List C)) : (l.map fun r => r.map Cell.d) = dat l := rfl
theorem e_opn5 (cols : Nat → TD) (l : List (List C)) (i : Nat) : (openRows cols l)[i]? = (l[i]?).map (cellsOf cols 0) := by simp [openRows]
theorem e_opn7 (cols : Nat → TD) (l l' : List (List C)) : openRows cols (l ++ l') = openRows cols l ++ openRows cols l' := by simp [openRows]
theorem e_opn8 (cols : Nat → TD) (r : List C) (l : List (List C)) : openRows cols (r :: l) = cellsOf cols 0 r :: openRows cols l := rfl
theorem e_opn9 (cols : Nat → TD) : openRows cols [] = [] := rfl
theorem e_opn10 (cols : Nat → TD) (n : Nat) (r : List C) : openRows cols (List.replicate n r) = List.replicate n (cellsOf cols 0 r) := by simp [openRows]
theorem e_opn14 (cols : Nat → TD) (p : List Cell → Prop) (l : List (List C)) : (∀ r ∈ openRows cols l,p r) ↔ ∀ r ∈ l,p (cellsOf cols 0 r) := by simp [openRows]
theorem e_opn15 (cols : Nat → TD) (l : List (List C)) (q : List Cell → Bool) : (openRows cols l).all q = l.all fun r => q (cellsOf cols 0 r) := by simp [openRows,Function.comp_def]
theorem e_co0 (cols : Nat → TD) (j : Nat) : cellsOf cols j [] = [] := rfl
theorem e_co1 (cols : Nat → TD) (j : Nat) (c : C) (r : List C) : cellsOf cols j (c :: r) = cellOf (cols j) c :: cellsOf cols (j + 1) r := rfl
theorem e_ce0 (c : C) : cellOf .sc c = .d c := rfl
theorem e_ce1 (e s : Nat) (k : Nat → TD) (c : C) : cellOf (.sl e s k) c = .tr (.sl e s k) c := rfl
theorem e_pk0 (g : FuncId) (xs : List AV) : pick m fr g xs ([] : List (Fact P)) = none := rfl
theorem e_mem0 (i : Nm) : memN i [] = false := rfl
theorem e_mem1 (i k : Nm) (r : List Nm) : memN i (k :: r) = if i = k then true else memN i r := rfl
open Classical in
theorem e_pk1 (z : Fact P) (Z : List (Fact P)) (g : FuncId) (xs : List AV) : pick m fr g xs (z :: Z) = if z.g = g ∧ z.fits m fr xs then some z else pick m fr g xs Z := rfl
end
theorem ai {a b : Prop} (x : a) (y : b) : a ∧ b := ⟨x,y⟩
def EV0 := PLift.up (ai @e_ids1 (ai @e_ids2 (ai @e_ids3 (ai @e_sum1 (ai @e_sum2 (ai @e_cid1 (ai @e_cid2 (ai @e_cid3 (ai @e_cid4 (ai @e_cid5 (ai @e_cid6 (ai @e_cid7 (ai @e_cid8 (ai @e_cid9 (ai @e_cid10 (ai @e_cid11 (ai @e_oid1 (ai @e_oid2 (ai @e_cells1 (ai @e_cells2 (ai @e_okc1 (ai @e_okc2 (ai @e_kn0 (ai @e_nt0 (ai @e_kn1 (ai @e_nt1 (ai @e_kn2 (ai @e_nt2 (ai @e_kn3 (ai @e_nt3 (ai @e_kn4 (ai @e_nt4 (ai @e_kn5 (ai @e_nt5 (ai @e_kn6 (ai @e_nt6 (ai @e_kn7 (ai @e_nt7 (ai @e_kn8 (ai @e_nt8 (ai @e_nt20 (ai @e_ov1 (ai @e_ov2 (ai @e_ov3 (ai @e_ov4 (ai @e_ev1 (ai (ai @e_ev2 @e_ev3) (ai @e_fg0 (ai @e_fg1 (ai @e_mg0 (ai @e_mg1 (ai @e_nm (ai @e_fa1 (ai @e_fa0 (ai @e_ma0 (ai @e_ma1 (ai @e_ui0 (ai @e_ui1 (ai @e_ui2 (ai @e_ucl (ai @e_okV (ai @e_okN (ai @e_ar0 (ai @e_ar1 (ai @e_dr0 (ai @e_dr1 (ai @e_g0 (ai @e_g1 (ai @e_ok (ai @e_dk (ai @e_fk (ai @e_mk (ai @e_frz1 (ai @e_frz2 (ai @e_frz3 (ai @e_frz4 (ai @e_frz5 (ai @e_frz6 (ai @e_ro1 (ai @e_ro2 (ai @e_ro3 (ai @e_tro1 (ai @e_tro2 (ai @e_tro3 (ai @e_tro4 (ai @e_tro5 (ai @e_rea1 (ai @e_rea2 (ai @e_rea3 (ai @e_rea4 (ai @e_rea5 (ai @e_rea6 (ai @e_rea7 (ai @e_rea8 (ai @e_rea9 (ai @e_rea10 (ai @e_rea11 (ai @e_rav1 (ai @e_rav2 (ai @e_rav3 (ai @e_mo0 (ai @e_mo1 (ai @e_ch0 (ai @e_ch1 (ai @e_fa (ai @e_fb (ai @e_fas0 (ai @e_fas1 (ai @e_cc0 (ai @e_cc1 (ai @e_cc2 (ai @e_cc3 (ai @e_cc4 (ai @e_cc5 (ai @e_cc6 (ai @e_cc7 (ai @e_cc8 (ai @e_cc9 (ai @e_cc10 (ai @e_cla (ai @e_clb (ai @e_clc (ai @e_cls1 (ai @e_cls2 (ai @e_clo1 (ai @e_clo2 (ai @e_af0 (ai @e_af1 (ai @e_zr0 (ai @e_zr1 (ai @e_argF0 (ai @e_argF1 (ai @e_kl1 (ai @e_kl0 (ai @e_r1 (ai @e_r2 (ai @e_an1 (ai @e_an0 (ai @e_an2 (ai @e_al0 (ai @e_al1 (ai @e_ts1 (ai @e_ts2 (ai @e_app_ids (ai @e_app_rea (ai @e_mo_app (ai @e_rep_mo (ai @e_dat1 (ai @e_dat2 (ai @e_dat3 (ai @e_dat4 (ai @e_opn1 (ai @e_opn2 (ai @e_opn3 (ai @e_opn4 (ai @e_dat5 (ai @e_dat6 (ai @e_dat7 (ai @e_dat8 (ai @e_dat9 (ai @e_dat10 (ai @e_dat11_1 (ai @e_dat11_2 (ai @e_dat11_3 (ai @e_dat11_4 (ai @e_dat11_5 (ai @e_dat11_6 (ai @e_dat11_7 (ai @e_dat11_8 (ai @e_dat12 (ai @e_opn12 (ai @e_opn13 (ai @e_dat13 (ai @e_dat14 (ai @e_dat15 (ai @e_dat16 (ai @e_opn5 (ai @e_opn7 (ai @e_opn8 (ai @e_opn9 (ai @e_opn10 (ai @e_opn14 (ai @e_opn15 (ai @e_co0 (ai @e_co1 (ai @e_ce0 (ai @e_ce1 (ai @e_pk0 (ai @e_mem0 (ai @e_mem1 (@e_pk1)))))))))))))))))))))))))))))))))))))))))))))))))))))))))))))))))))))))))))))))))))))))))))))))))))))))))))))))))))))))))))))))))))))))))))))))))))))))))))))))))))))))))))))))))))))))))))))))
theorem EV : type_of% EV0.down := EV0.down

def factD {P : Program} {g : FuncId} {args : List AV} {ans : AV} (h : CallH P g args [] ans []) : Fact P := ⟨g,false,args,[],ans,[],h,fun _ => rfl,none⟩
def factE {P : Program} {g : FuncId} {args : List AV} {ans : AV} (k : Nat) (h : CallH P g args [] ans []) : Fact P := ⟨g,false,args,[],ans,[],h,fun _ => rfl,some k⟩
def factO {P : Program} {g : FuncId} {args : List AV} {ans : AV} {M1 : LM} (h : CallH P g args [] ans M1) : Fact P := ⟨g,false,args,[],ans,M1,h,fun _ => rfl,none⟩
def factR {P : Program} {g : FuncId} {args : List AV} {ans : AV} {M0 M1 : LM} (h : CallH P g args M0 ans M1) : Fact P := ⟨g,true,args,M0,ans,M1,h,fun h => (by cases h),none⟩
section
variable {P : Program} {g : FuncId} {args : List AV} {ans : AV} {M0 M1 : LM} {m : Nm → Option AObj} {fr : Nat} {xs : List AV}
theorem fD_g (h : CallH P g args [] ans []) : (factD h).g = g := rfl
theorem fD_a (h : CallH P g args [] ans []) : (factD h).ans = ans := rfl
theorem fD_m (h : CallH P g args [] ans []) : (factD h).M1 = [] := rfl
theorem fD_f (h : CallH P g args [] ans []) : (factD h).fits m fr xs = (frzAVs m xs = some args) := by
 simp [Fact.fits,factD]
theorem fD_k (h : CallH P g args [] ans []) : (factD h).ks m xs = if ans.clean = true then [] else xs.flatMap (reachAV m) := by
 simp [Fact.ks,factD,Fact.clean]
theorem fE_g (k : Nat) (h : CallH P g args [] ans []) : (factE k h).g = g := rfl
theorem fE_a (k : Nat) (h : CallH P g args [] ans []) : (factE k h).ans = ans := rfl
theorem fE_m (k : Nat) (h : CallH P g args [] ans []) : (factE k h).M1 = [] := rfl
theorem fE_f (k : Nat) (h : CallH P g args [] ans []) : (factE k h).fits m fr xs = (k = fr ∧ frzAVs m xs = some args) := by
 simp [Fact.fits,factE]
theorem fE_k (k : Nat) (h : CallH P g args [] ans []) : (factE k h).ks m xs = if ans.clean = true then [] else xs.flatMap (reachAV m) := by
 simp [Fact.ks,factE,Fact.clean]
theorem fO_g (h : CallH P g args [] ans M1) : (factO h).g = g := rfl
theorem fO_a (h : CallH P g args [] ans M1) : (factO h).ans = ans := rfl
theorem fO_m (h : CallH P g args [] ans M1) : (factO h).M1 = M1 := rfl
theorem fO_f (h : CallH P g args [] ans M1) : (factO h).fits m fr xs = (frzAVs m xs = some args ∧ ∀ p ∈ M1,p.1.1 = fr) := by
 simp [Fact.fits,factO]
theorem fO_k (h : CallH P g args [] ans M1) : (factO h).ks m xs = if (ans.clean && M1.all fun u => match u.2 with | some o => o.clean | none => true) = true then [] else xs.flatMap (reachAV m) := by
 simp [Fact.ks,factO,Fact.clean]
 rfl
theorem fR_g (h : CallH P g args M0 ans M1) : (factR h).g = g := rfl
theorem fR_a (h : CallH P g args M0 ans M1) : (factR h).ans = ans := rfl
theorem fR_m (h : CallH P g args M0 ans M1) : (factR h).M1 = M1 := rfl
theorem fR_f (h : CallH P g args M0 ans M1) : (factR h).fits m fr xs = (args = xs ∧ (∀ p ∈ M0,p.2 ≠ none ∧ m p.1 = p.2 ∧ p.1 ∈ xs.flatMap (reachAV m)) ∧ (M0.map (·.1)).Nodup ∧ ∀ p ∈ M1,p.1.1 = fr ∨ p.1 ∈ M0.map (·.1)) := by
 simp [Fact.fits,factR]
theorem fR_k (h : CallH P g args M0 ans M1) : (factR h).ks m xs = M0.map (·.1) := by
 simp [Fact.ks,factR]
end
def at? {α : Type} (l : List α) (i : Int) : Option α := if 0 ≤ i then l[i.toNat]? else none
theorem at_some {α : Type} {l : List α} {i : Int} {x : α} (h : at? l i = some x) : 0 ≤ i ∧ l[i.toNat]? = some x ∧ i < (l.length : Int) := by
 unfold at? at h
 split at h
 ·
  rename_i h0
  have := (List.getElem?_eq_some_iff.1 h).1
  exact ⟨h0,h,by omega⟩
 · cases h
def eI (x : Int) : List C := [.int .i64 x]
def eB (x : Bool) : List C := [.bool x]
def eS (x : ByteArray) : List C := [.str x]
def e_u8 (x : Int) : List C := [.int .u8 x]
def e_u64 (x : Int) : List C := [.int .u64 x]
def eL {α : Type} (e : α → List C) (l : List α) : List C := [.sl (l.map e)]
section
variable {P : Program} {w0 : Bas} {N nx : Nat} {F F' : LF} {M M' : LM} {a : Act} {w : World} {Q : Exit → Act → World → Prop}
theorem r_condT {c : Operand} {x y : Code} (h : SL w0 N nx F M a w) (b : Bool) (e : aeval N (fget F) c = .one (.d (.bool b))) (hb : b = true) (ht : x.wp P Q a w) : (Code.cond c x y).wp P Q a w :=
 r_cond h b e (fun _ => ht) (fun h => by rw [hb] at h; cases h)
theorem r_condF {c : Operand} {x y : Code} (h : SL w0 N nx F M a w) (b : Bool) (e : aeval N (fget F) c = .one (.d (.bool b))) (hb : b = false) (hf : y.wp P Q a w) : (Code.cond c x y).wp P Q a w :=
 r_cond h b e (fun h => by rw [hb] at h; cases h) (fun _ => hf)
theorem then_mono {J J' : Act → World → Prop} (hk : ∀ a w,J a w → J' a w) : ∀ e a w,Exit.then J Q e a w → Exit.then J' Q e a w := fun e a w h => by
 cases e <;> first | exact hk a w h | exact h
theorem r_seqJ {x y : Code} (J : Act → World → Prop) (h : x.wp P (Exit.then J Q) a w) (hk : ∀ a w,J a w → y.wp P Q a w) : (Code.seq x y).wp P Q a w :=
 wp_seq (Code.wp_mono (then_mono hk) h)
theorem r_meetQ {x : Code} (J : Act → World → Prop) (h : x.wp P (Exit.then J Q) a w) (hk : ∀ a w,J a w → Q .normal a w) : x.wp P Q a w :=
 Code.wp_mono (fun e a w h => by cases e <;> first | exact hk a w h | exact h) h
theorem r_seq3J {x y z : Code} (J : Act → World → Prop) (h : x.wp P (Exit.then (y.wp P (Exit.then J Q)) Q) a w) (hk : ∀ a w,J a w → z.wp P Q a w) : (Code.seq x (Code.seq y z)).wp P Q a w :=
 wp_seq (Code.wp_mono (then_mono fun _ _ h => wp_seq (Code.wp_mono (then_mono hk) h)) h)
theorem SL.cong (h : SL w0 N nx F M a w) (ks : List Nat) (ms : List Nm) (nx' : Nat) (eF : fkeep F ks = F') (eM : mkeep M ms = M') (e : okN nx' F' M' = true) : SL w0 N nx' F' M' a w := by
 subst eF eM
 exact (h.keep ks ms).count nx' e
end
end Go.Proofs.Ytabbejabdkkaiaa
