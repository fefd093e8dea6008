/- A region, run in its text's order on the abstract state, is right in every order that the region may take, where no two operations without a given order meet. A region in every order that it may take (second half): the run in the text's order, the check, the two rules. A region that draws its order: the rule. No condition. -/
import Derived.Test.YtabbejabdkkaiaaKD
set_option linter.unusedSimpArgs false
set_option linter.unusedVariables false
namespace Go.Proofs.Ytabbejabdkkaiaa
open Go.RowKit

structure Rec where
 dst : Option Nat
 v : AV
 U : List Upd
 R : List Nat
def uIds : List Upd → List Nat
 | [] => []
 | (i,none) :: r => i.1 :: uIds r
 | (i,some o) :: r => i.1 :: (o.ids.map (·.1) ++ uIds r)
def ucl (u : Upd) : Nat := u.1.1
def Rec.W (r : Rec) : List Nat := r.U.map ucl
def Rec.V (r : Rec) : List Nat := r.v.ids.map (·.1) ++ uIds r.U
abbrev S2 := (Nat → AV) × (Nm → Option AObj)
def Rec.put (r : Rec) (s : S2) : S2 := (fput s.1 r.dst r.v,mupd s.2 r.U)
def app : (Nat → Bool) → List Rec → S2 → S2
 | _,[],s => s
 | L,r :: rs,s => app (fun k => L (k + 1)) rs (if L 0 = true then r.put s else s)

theorem mput_other {u : Upd} {m : Nm → Option AObj} {id : Nm} (h : id.1 ≠ ucl u) : mput m u id = m id := if_neg fun e => h (by rw [e]; rfl)
theorem mput_same {u : Upd} {m m' : Nm → Option AObj} {id : Nm} (h : m id = m' id) : mput m u id = mput m' u id := by simp only [mput,mset,h]
theorem mupd_other : ∀ {U : List Upd} {m : Nm → Option AObj} {id : Nm},id.1 ∉ U.map ucl → mupd m U id = m id
 | [],_,_,_ => rfl
 | u :: U,m,id,h => by
  simp only [List.map_cons,List.mem_cons,not_or] at h
  simp only [mupd]
  rw [mupd_other h.2,mput_other h.1]
theorem mupd_same : ∀ {U : List Upd} {m m' : Nm → Option AObj} {id : Nm},m id = m' id → mupd m U id = mupd m' U id
 | [],_,_,_,h => h
 | u :: U,m,m',id,h => by
  simp only [mupd]
  exact mupd_same (U := U) (mput_same h)

theorem app_slot : ∀ {rs : List Rec} {L L' : Nat → Bool} {s s' : S2} {t : Nat},s.1 t = s'.1 t → (∀ k r,rs[k]? = some r → r.dst = some t → L k = L' k) → (app L rs s).1 t = (app L' rs s').1 t
 | [],_,_,_,_,_,h,_ => h
 | r :: rs,L,L',s,s',t,h,hL => by
  simp only [app]
  refine app_slot ?_ fun k r' hk => hL (k + 1) r' (by simpa using hk)
  by_cases e : r.dst = some t
  ·
   have := hL 0 r (by simp) e
   rw [this]
   split
   · simp [Rec.put,fput,e]
   · exact h
  ·
   have hp : ∀ s : S2,(r.put s).1 t = s.1 t := fun s => by
    simp only [Rec.put]
    cases hd : r.dst with
    | some d => simp only [fput]; rw [if_neg (fun e' => e (by rw [hd,e']))]
    | none => rfl
   split <;> split <;> simp only [hp,h]
theorem app_name : ∀ {rs : List Rec} {L L' : Nat → Bool} {s s' : S2} {id : Nm},s.2 id = s'.2 id → (∀ k r,rs[k]? = some r → id.1 ∈ r.W → L k = L' k) → (app L rs s).2 id = (app L' rs s').2 id
 | [],_,_,_,_,_,h,_ => h
 | r :: rs,L,L',s,s',id,h,hL => by
  simp only [app]
  refine app_name ?_ fun k r' hk => hL (k + 1) r' (by simpa using hk)
  by_cases e : id.1 ∈ r.W
  ·
   have := hL 0 r (by simp) e
   rw [this]
   split
   · exact mupd_same h
   · exact h
  ·
   have hp : ∀ s : S2,(r.put s).2 id = s.2 id := fun s => mupd_other e
   split <;> split <;> simp only [hp,h]
theorem app_lastSlot : ∀ {rs : List Rec} {L : Nat → Bool} {s : S2} {t i : Nat} {r : Rec},rs[i]? = some r → L i = true → r.dst = some t → (∀ k r',i < k → rs[k]? = some r' → L k = true → r'.dst ≠ some t) → (app L rs s).1 t = r.v
 | [],_,_,_,_,_,h,_,_,_ => by simp at h
 | q :: rs,L,s,t,i,r,h,hLi,hd,hlast => by
  simp only [app]
  cases i with
  | zero =>
   simp at h
   subst h
   rw [if_pos hLi]
   rw [app_slot (L' := fun _ => false) (s' := q.put s) rfl fun k r' hk hd' => by
    cases hL : L (k + 1)
    · rfl
    · exact absurd hd' (hlast (k + 1) r' (by omega) (by simpa using hk) hL)]
   have hff : ∀ (rs : List Rec) (s : S2),app (fun _ => false) rs s = s := by
    intro rs
    induction rs with
    | nil => intro s; rfl
    | cons r rs ih => intro s; simp only [app]; exact ih _
   rw [hff]
   simp [Rec.put,fput,hd]
  | succ i => exact app_lastSlot (by simpa using h) hLi hd fun k r' hk hr hL => hlast (k + 1) r' (by omega) (by simpa using hr) hL
theorem app_false : ∀ {rs : List Rec} {s : S2},app (fun _ => false) rs s = s
 | [],_ => rfl
 | _ :: rs,s => by simp only [app]; exact app_false
theorem app_lastName : ∀ {rs : List Rec} {L L0 : Nat → Bool} {s : S2} {id : Nm} {i : Nat} {r : Rec},rs[i]? = some r → L i = true → L0 i = false → (∀ k,k ≠ i → L0 k = L k) → (∀ k r',i < k → rs[k]? = some r' → L k = true → id.1 ∉ r'.W) → (app L rs s).2 id = mupd (app L0 rs s).2 r.U id
 | [],_,_,_,_,_,_,h,_,_,_,_ => by simp at h
 | q :: rs,L,L0,s,id,i,r,h,hLi,hL0,hE,hlast => by
  simp only [app]
  cases i with
  | zero =>
   simp at h
   subst h
   rw [if_pos hLi,hL0,if_neg (by decide)]
   have hno : ∀ k r',rs[k]? = some r' → id.1 ∈ r'.W → L (k + 1) = false := fun k r' hk hd' => by
    cases hL : L (k + 1)
    · rfl
    · exact absurd hd' (hlast (k + 1) r' (by omega) (by simpa using hk) hL)
   rw [app_name (L' := fun _ => false) (s' := q.put s) rfl hno,app_false]
   refine mupd_same ?_
   rw [app_name (L' := fun _ => false) (s' := s) rfl fun k r' hk hd' => by rw [hE (k + 1) (by omega)]; exact hno k r' hk hd',app_false]
  | succ i =>
   rw [hE 0 (by omega)]
   exact app_lastName (L := fun k => L (k + 1)) (L0 := fun k => L0 (k + 1)) (by simpa using h) hLi hL0 (fun k hk => hE (k + 1) (by omega)) fun k r' hk hr hL => hlast (k + 1) r' (by omega) (by simpa using hr) hL

def gof (l : List Oper) (o : Oper) : Option (Option Nat × Bool) := o.guard.map fun p => ((l[p.1]?).bind (·.dst),p.2)
noncomputable def gstep (P : Program) (Z : List (Fact P)) (ev : Operand → AV) (m : Nm → Option AObj) (fr : Nat) (g : Option (Option Nat × Bool)) (o : Oper) : Res :=
 match g with
 | none => astep P Z ev m fr o
 | some (some d,want) => match ev (.tmp d) with
  | .one (.d (.bool b)) => if b = want then astep P Z ev m fr o else some (.tup [],[])
  | .tup [] => some (.tup [],[])
  | _ => none
 | some (none,_) => none

section
variable {P : Program} {Z : List (Fact P)} {w0 : Bas} {N : Nat} {f f' : Nat → AV} {m m' : Nm → Option AObj} {a : Act} {w : World} {o : Oper} {fr : Nat} {v : AV} {U : List Upd} {l : List Oper} {Q : Exit → Act → World → Prop}

theorem gstep_ok (h : St w0 N f m a w) (hfr : ∀ k,Fresh f m (fr,k)) (hs : gstep P Z (aeval N f) m fr (gof l o) o = some (v,U)) {i : Nat} (hi : l.toArray[i]? = some o) {K : Act → World → Prop} (hK : ∀ a' w',St w0 N (fput f o.dst v) (mupd m U) a' w' → K a' w') : wpOp P l.toArray Q i K a w := by
 obtain ⟨ρ,φ,h⟩ := h
 unfold wpOp
 rw [hi]
 simp only []
 unfold gstep gof at hs
 cases hg : o.guard with
 | none =>
  rw [hg] at hs
  simp only [Option.map_none] at hs
  have : Region.wanted o (yielded l.toArray a.tmps) = true := by simp [Region.wanted,hg]
  rw [this,if_pos rfl]
  exact .inl (astep_ok h hfr hs K Q hK)
 | some p =>
  obtain ⟨j,want⟩ := p
  rw [hg] at hs
  simp only [Option.map_some] at hs
  split at hs
  · cases ‹_ = none›
  ·
   rename_i d want' hd
   injection hd with hd
   injection hd with hd hw
   subst hw
   split at hs
   ·
    rename_i b hb
    have hy : yielded l.toArray a.tmps j = some b := by
     unfold yielded
     have e : (l.toArray[j]?).bind (·.dst) = some d := by simpa using hd
     rw [e]
     simp only [Option.bind_some]
     simp only [aeval] at hb
     split at hb
     ·
      rename_i hN
      have hs : d < a.tmps.size := by rw [h.size]; exact hN
      have hv := h.regs d a.tmps[d] (Array.getElem?_eq_getElem hs)
      rw [hb] at hv
      rw [Array.getElem?_eq_getElem hs,cv_bool (ρ := ρ) hv]
     · injection hb with hb; cases hb
    have hw : Region.wanted o (yielded l.toArray a.tmps) = (b == want) := by simp [Region.wanted,hg,hy]
    rw [hw]
    split at hs
    ·
     rename_i e
     subst e
     rw [if_pos (by simp)]
     exact .inl (astep_ok h hfr hs K Q hK)
    ·
     rename_i e
     rw [if_neg (by simpa using e)]
     injection hs with hs
     injection hs with e1 e2
     subst e1 e2
     exact hK _ _ ⟨ρ,φ,h.put o.dst (x := .tup []) ⟨[],rfl,rfl,by simp⟩⟩
   ·
    rename_i hb
    injection hs with hs
    injection hs with e1 e2
    subst e1 e2
    have hy : yielded l.toArray a.tmps j = none := by
     unfold yielded
     have e : (l.toArray[j]?).bind (·.dst) = some d := by simpa using hd
     rw [e]
     simp only [Option.bind_some]
     simp only [aeval] at hb
     split at hb
     ·
      rename_i hN
      have hs : d < a.tmps.size := by rw [h.size]; exact hN
      have hv := h.regs d a.tmps[d] (Array.getElem?_eq_getElem hs)
      rw [hb] at hv
      obtain ⟨vs,hv1,hv2,_⟩ := hv
      rw [Array.getElem?_eq_getElem hs,hv1]
     · cases hb
    have hw : Region.wanted o (yielded l.toArray a.tmps) = false := by simp [Region.wanted,hg,hy]
    rw [hw,if_neg (by simp)]
    exact hK _ _ ⟨ρ,φ,h.put o.dst (x := .tup []) ⟨[],rfl,rfl,by simp⟩⟩
   · cases hs
  · cases hs
theorem aeval_congr {x : Operand} (h : ∀ t,x = .tmp t → f' t = f t) : aeval N f' x = aeval N f x := by
 cases x with
 | tmp t => simp only [aeval,h t rfl]
 | _ => rfl
theorem gstep_congr (hf : ∀ t ∈ o.looksAt l.toArray,f' t = f t) (hm : ∀ id ∈ opN m (aeval N f) o,m' id = m id) : gstep P Z (aeval N f') m' fr (gof l o) o = gstep P Z (aeval N f) m fr (gof l o) o := by
 have hev : ∀ x ∈ o.op.operands,aeval N f' x = aeval N f x := fun x hx => aeval_congr fun t ht => hf t (by
  unfold Oper.looksAt
  refine List.mem_append.2 (.inl (List.mem_filterMap.2 ⟨x,by simpa using hx,by rw [ht]⟩)))
 have ha := astep_congr (P := P) (Z := Z) fr o hev hm
 unfold gstep gof
 cases hg : o.guard with
 | none => simpa using ha
 | some p =>
  obtain ⟨j,want⟩ := p
  simp only [Option.map_some]
  cases hd : (l[j]?).bind (·.dst) with
  | none => rfl
  | some d =>
   simp only []
   have : aeval N f' (.tmp d) = aeval N f (.tmp d) := aeval_congr fun t ht => by
    injection ht with ht
    subst ht
    refine hf d ?_
    unfold Oper.looksAt
    refine List.mem_append.2 (.inr ?_)
    rw [hg]
    simp [hd]
   rw [this,ha]
theorem mGet_touch (l : List (List Int × C)) (k : List Int) (c0 : C) : mGet (mTouch l k c0) k = some ((mGet l k).getD c0) := by
 unfold mTouch
 split
 ·
  rename_i h
  unfold mGet
  rw [List.getElem?_eq_getElem h]
  rfl
 ·
  rename_i h
  have h1 : mIdx l k = l.length := Nat.le_antisymm List.findIdx_le_length (by omega)
  have h2 : mIdx (l ++ [(k,c0)]) k = l.length := by
   have h3 : mIdx l k = l.length := h1
   unfold mIdx at h3 ⊢
   rw [List.findIdx_append,h3,if_neg (by omega)]
   simp
  unfold mGet
  rw [h1,h2]
  simp
theorem gstep_touch {t : TypeId} {x y : Operand} (ho : o.op = .lookup t x y false) (hf : ∀ t ∈ o.looksAt l.toArray,f' t = f t)
  (hm : ∀ id,aeval N f x = .one (.mp id) → m' id = m id ∨ ∃ kt et ag n l k z c0,m id = some (.map kt et ag n l) ∧ keyAV ag n (aeval N f y) = some k ∧ tZ1 P et = some z ∧ zeroC z = some c0 ∧ m' id = some (.map kt et ag n (mTouch l k c0))) :
  gstep P Z (aeval N f') m' fr (gof l o) o = gstep P Z (aeval N f) m fr (gof l o) o := by
 have hev : ∀ z ∈ o.op.operands,aeval N f' z = aeval N f z := fun z hz => aeval_congr fun t ht => hf t (by
  unfold Oper.looksAt
  refine List.mem_append.2 (.inl (List.mem_filterMap.2 ⟨z,by simpa using hz,by rw [ht]⟩)))
 have ha : astep P Z (aeval N f') m' fr o = astep P Z (aeval N f) m fr o := by
  have hx := hev x (by rw [ho]; simp [Op.operands])
  have hy := hev y (by rw [ho]; simp [Op.operands])
  unfold astep
  rw [ho]
  simp only [hx,hy]
  unfold stLookup
  cases hc : aeval N f x with
  | one c =>
   cases c with
   | mp id =>
    rcases hm id hc with h | ⟨kt,et,ag,n,l0,k,z,c0,h1,h2,h3,h4,h5⟩
    · simp only [mapAt,h]
    ·
     simp only [mapAt,h1,h5]
     cases tMap P t with
     | none => rfl
     | some q =>
      obtain ⟨kt',et',ag',n'⟩ := q
      simp only []
      by_cases hq : kt = kt' ∧ et = et' ∧ ag = ag' ∧ n = n'
      ·
       obtain ⟨rfl,rfl,rfl,rfl⟩ := hq
       simp only [and_self,if_true,h2,h3,mGet_touch]
       have hz : ofVal z = .d c0 := by
        unfold zeroC at h4
        split at h4
        · rename_i c h9; injection h4 with h4; rw [← h4]; exact h9
        · cases h4
       cases mGet l0 k <;> simp [foundC,hz]
      · rw [if_neg hq,if_neg hq]
   | _ => rfl
  | _ => rfl
 unfold gstep gof
 cases hg : o.guard with
 | none => simpa using ha
 | some p =>
  obtain ⟨j,want⟩ := p
  simp only [Option.map_some]
  cases hd : (l[j]?).bind (·.dst) with
  | none => rfl
  | some d =>
   simp only []
   have : aeval N f' (.tmp d) = aeval N f (.tmp d) := aeval_congr fun t ht => by
    injection ht with ht
    subst ht
    refine hf d ?_
    unfold Oper.looksAt
    refine List.mem_append.2 (.inr ?_)
    rw [hg]
    simp [hd]
   rw [this,ha]
end
def Names (p : Nat → Prop) (s : S2) : Prop := (∀ t,∀ id ∈ (s.1 t).ids,p id.1) ∧ ∀ i o,s.2 i = some o → p i.1 ∧ ∀ id ∈ o.ids,p id.1
theorem mupd_cases : ∀ {U : List Upd} {m : Nm → Option AObj} {i : Nm} {o : AObj},mupd m U i = some o → m i = some o ∨ (i.1 ∈ uIds U ∧ ∀ id ∈ o.ids,id.1 ∈ uIds U)
 | [],_,_,_,h => .inl h
 | (j,x) :: U,m,i,o,h => by
  have sub : ∀ k,k ∈ uIds U → k ∈ uIds ((j,x) :: U) := fun k hk => by
   cases x <;> simp [uIds,hk]
  simp only [mupd] at h
  rcases mupd_cases h with h1 | h1
  ·
   simp only [mput,mset] at h1
   by_cases e : i = j
   ·
    rw [if_pos e] at h1
    rw [e,h1]
    refine .inr ⟨by simp [uIds],fun id hid => ?_⟩
    simp only [uIds,List.mem_cons,List.mem_append,List.mem_map]
    exact .inr (.inl ⟨id,hid,rfl⟩)
   ·
    rw [if_neg e] at h1
    exact .inl h1
  · exact .inr ⟨sub _ h1.1,fun id hid => sub _ (h1.2 id hid)⟩
theorem Names.put {p : Nat → Prop} {s : S2} {r : Rec} (h : Names p s) (hr : ∀ id ∈ r.V,p id) : Names p (r.put s) := by
 refine ⟨fun t id hid => ?_,fun i o ho => ?_⟩
 ·
  simp only [Rec.put] at hid
  cases hd : r.dst with
  | none => rw [hd] at hid; exact h.1 t id hid
  | some d =>
   rw [hd] at hid
   simp only [fput] at hid
   split at hid
   · exact hr id.1 (List.mem_append.2 (.inl (List.mem_map.2 ⟨id,hid,rfl⟩)))
   · exact h.1 t id hid
 ·
  rcases mupd_cases ho with h1 | h1
  · exact h.2 i o h1
  · exact ⟨hr i.1 (List.mem_append.2 (.inr h1.1)),fun id hid => hr id.1 (List.mem_append.2 (.inr (h1.2 id hid)))⟩
theorem Names.app {p : Nat → Prop} : ∀ {rs : List Rec} {L : Nat → Bool} {s : S2},Names p s → (∀ k r,rs[k]? = some r → L k = true → ∀ id ∈ r.V,p id) → Names p (app L rs s)
 | [],_,_,h,_ => h
 | r :: rs,L,s,h,hr => by
  simp only [Go.Proofs.Ytabbejabdkkaiaa.app]
  refine Names.app ?_ fun k r' hk => hr (k + 1) r' (by simpa using hk)
  split
  ·
   rename_i h0
   exact h.put (hr 0 r (by simp) h0)
  · exact h
theorem Names.fresh {s : S2} {fr : Nat} (h : Names (fun id => id ≠ fr) s) (h0 : fr ≠ 0) (k : Nat) : Fresh s.1 s.2 (fr,k) :=
 ⟨fun t hid => h.1 t (fr,k) hid rfl,fun i o ho hid => (h.2 i o ho).2 (fr,k) hid rfl,by
  cases e : s.2 (fr,k) with
  | none => rfl
  | some o => exact absurd rfl (h.2 (fr,k) o e).1,h0⟩
theorem Names.mono {p q : Nat → Prop} {s : S2} (h : Names p s) (hpq : ∀ id,p id → q id) : Names q s := ⟨fun t id hid => hpq id.1 (h.1 t id hid),fun i o ho => ⟨hpq i.1 (h.2 i o ho).1,fun id hid => hpq id.1 ((h.2 i o ho).2 id hid)⟩⟩

inductive Runs (P : Program) (Z : List (Fact P)) (N : Nat) (l0 : List Oper) : List Oper → Nat → S2 → List Rec → Prop
 | nil (nx : Nat) (s : S2) : Runs P Z N l0 [] nx s []
 | cons {o : Oper} {l : List Oper} {nx : Nat} {s : S2} {r : Rec} {rs : List Rec} (hs : gstep P Z (aeval N s.1) s.2 nx (gof l0 o) o = some (r.v,r.U)) (hd : r.dst = o.dst) (hR : r.R = (opN s.2 (aeval N s.1) o).map (·.1)) (hV : ∀ id ∈ r.V,id < nx + 1)
   (h : Runs P Z N l0 l (nx + 1) (r.put s) rs) : Runs P Z N l0 (o :: l) nx s (r :: rs)

theorem app_ext : ∀ {rs : List Rec} {L L' : Nat → Bool} {s : S2},(∀ k,k < rs.length → L k = L' k) → app L rs s = app L' rs s
 | [],_,_,_,_ => rfl
 | r :: rs,L,L',s,h => by
  simp only [app]
  rw [h 0 (by simp),app_ext fun k hk => h (k + 1) (by simpa using hk)]

section
variable {P : Program} {Z : List (Fact P)} {w0 : Bas} {N : Nat} {l0 l : List Oper} {nx : Nat} {s : S2} {rs : List Rec} {Q : Exit → Act → World → Prop}

theorem Runs.at_ : ∀ {l : List Oper} {nx : Nat} {s : S2} {rs : List Rec} {i : Nat} {o : Oper},Runs P Z N l0 l nx s rs → l[i]? = some o → ∃ r,rs[i]? = some r ∧ r.dst = o.dst ∧ (∀ id ∈ r.V,id < nx + i + 1) ∧
  r.R = (opN (app (fun k => decide (k < i)) rs s).2 (aeval N (app (fun k => decide (k < i)) rs s).1) o).map (·.1) ∧ gstep P Z (aeval N (app (fun k => decide (k < i)) rs s).1) (app (fun k => decide (k < i)) rs s).2 (nx + i) (gof l0 o) o = some (r.v,r.U) := by
 intro l nx s rs i o h hi
 induction h generalizing i with
 | nil => simp at hi
 | cons hs hd hR hV h ih =>
  rename_i o' l nx s r rs
  cases i with
  | zero =>
   simp at hi
   subst hi
   have e : app (fun k => decide (k < 0)) (r :: rs) s = s := by
    rw [app_ext (L' := fun _ => false) (fun k _ => by simp)]
    exact app_false
   rw [e]
   exact ⟨r,by simp,hd,by simpa using hV,hR,by simpa using hs⟩
  | succ i =>
   obtain ⟨r',h1,h2,h3,h4,h5⟩ := ih (by simpa using hi)
   have e : app (fun k => decide (k < i + 1)) (r :: rs) s = app (fun k => decide (k < i)) rs (r.put s) := by
    simp only [app]
    rw [if_pos (by simp)]
    exact app_ext fun k _ => by simp
   rw [e]
   refine ⟨r',by simpa using h1,h2,fun id hid => ?_,h4,?_⟩
   · have := h3 id hid; omega
   ·
    have e2 : nx + (i + 1) = nx + 1 + i := by omega
    rw [e2]; exact h5
theorem Runs.len {l : List Oper} {nx : Nat} {s : S2} {rs : List Rec} (h : Runs P Z N l0 l nx s rs) : rs.length = l.length := by
 induction h with
 | nil => rfl
 | cons _ _ _ _ _ ih => simp [ih]
theorem Runs.bd {l : List Oper} {nx : Nat} {s : S2} {rs : List Rec} (h : Runs P Z N l0 l nx s rs) (hb : Names (· < nx) s) : Names (· < nx + l.length) (app (fun _ => true) rs s) := by
 induction h with
 | nil => exact hb
 | cons hs hd hR hV h ih =>
  rename_i o' l nx s r rs
  have := ih ((hb.mono fun id (h : id < nx) => (by omega : id < nx + 1)).put hV)
  simp only [app,if_true,List.length_cons]
  refine this.mono fun id h => ?_
  have : id < nx + 1 + l.length := h
  omega

theorem plain_ok : ∀ {l : List Oper} {nx : Nat} {s : S2} {rs : List Rec} {i : Nat} {a : Act} {w : World},Runs P Z N l0 l nx s rs → 0 < nx → Names (· < nx) s → (∀ j,l[j]? = l0[i + j]?) → St w0 N s.1 s.2 a w →
  (∀ a w,St w0 N (app (fun _ => true) rs s).1 (app (fun _ => true) rs s).2 a w → Q .normal a w) → wpOps P l0.toArray Q (List.range' i l.length) a w := by
 intro l nx s rs i a w h
 induction h generalizing i a w with
 | nil => intro _ _ _ h hQ; exact hQ a w h
 | cons hs hd hR hV h ih =>
  rename_i o' l nx s r rs
  intro hpos hb hl hst hQ
  rw [List.length_cons,List.range'_succ,wpOps_cons]
  have h0 : l0[i]? = some o' := by have := hl 0; simpa using this.symm
  refine gstep_ok hst ((hb.mono fun id (hid : id < nx) => (by omega : id ≠ nx)).fresh (by omega)) hs (by simpa using h0) fun a' w' hst' => ?_
  refine ih (by omega) ((hb.mono fun id (hid : id < nx) => (by omega : id < nx + 1)).put hV) (fun j => ?_) ?_ ?_
  ·
   have := hl (j + 1)
   simp only [List.getElem?_cons_succ] at this
   rw [this]
   congr 1
   omega
  ·
   rw [← hd] at hst'
   exact hst'
  · simpa only [app,if_true] using hQ
theorem wp_plain (h0 : 0 < nx) {id : Nat} {a : Act} {w : World} (h : Runs P Z N l l nx s rs) (hb : Names (· < nx) s) (hst : St w0 N s.1 s.2 a w)
  (hQ : ∀ a w,St w0 N (app (fun _ => true) rs s).1 (app (fun _ => true) rs s).2 a w → Q .normal a w) : (Code.region id l.toArray false).wp P Q a w := by
 refine wp_region ?_
 have := plain_ok (i := 0) h h0 hb (fun j => by simp) hst hQ
 rw [List.size_toArray,List.range_eq_range']
 exact this

/- The check,for a region that draws its order. -/
def mask (A : List Nat) (o : Oper) : Nat := o.after.toList.foldl (fun acc e => if Region.binds .any e = true then acc ||| ((1 <<< e.on) ||| A.getD e.on 0) else acc) 0
def masks : List Oper → List Nat → List Nat
 | [],A => A
 | o :: r,A => masks r (A ++ [mask A o])
def okMasks (A : List Nat) : Nat → List Oper → Bool
 | _,[] => true
 | i,o :: r => A.getD i 0 == mask A o && (o.after.toList.all fun e => !Region.binds .any e || Nat.blt e.on i) && okMasks A (i + 1) r
def lkOf (o : Oper) : Option (Nat × Nat × Nat) := match o.op with
 | .lookup t (.tmp a) (.tmp b) false => some (t,a,b)
 | _ => none
def meOf (o : Oper) : Option (Nat × Nat × Nat) := match o.op with
 | .mapEntry t (.tmp a) (.tmp b) => some (t,a,b)
 | _ => none
structure Tr where
 dst : Option Nat
 looks : List Nat
 R : List Nat
 W : List Nat
 V : List Nat
 lk : Option (Nat × Nat × Nat)
 me : Option (Nat × Nat × Nat)
def meets (fr : Nat) (x y : Tr) : Bool :=
 (match x.dst with
  | some d => y.looks.contains d || y.dst == some d
  | none => false) ||
 (match y.dst with
  | some d => x.looks.contains d
  | none => false) ||
 x.W.any (fun id => y.R.contains id || y.W.contains id) || (!(x.lk.isSome && x.lk == y.me) && x.R.any (fun id => y.W.contains id)) || y.V.contains fr
def okPairs (A : List Nat) (fr : Nat) (i : Nat) (x : Tr) : Nat → List Tr → Bool
 | _,[] => true
 | k,y :: r => (!meets fr x y || Nat.testBit (A.getD k 0) i) && okPairs A fr i x (k + 1) r
def okAll (A : List Nat) (nx : Nat) : Nat → List Tr → Bool
 | _,[] => true
 | i,x :: r => okPairs A (nx + i) i x (i + 1) r && okAll A nx (i + 1) r
def trs (l : Array Oper) : List Oper → List (List Nat × List Nat × List Nat) → List Tr
 | o :: r,(R,W,V) :: q => ⟨o.dst,o.looksAt l,R,W,V,lkOf o,meOf o⟩ :: trs l r q
 | _,_ => []
def oneME : List Oper → Bool
 | [] => true
 | o :: r => if (meOf o).isSome = true then r.all fun y => !(meOf y).isSome else oneME r
theorem oneME_at : ∀ {l : List Oper} {j k : Nat} {x y : Oper},oneME l = true → l[j]? = some x → l[k]? = some y → (meOf x).isSome = true → (meOf y).isSome = true → j = k
 | [],_,_,_,_,_,h,_,_,_ => by simp at h
 | o :: r,j,k,x,y,h,hj,hk,hx,hy => by
  simp only [oneME] at h
  cases j with
  | zero =>
   simp at hj
   subst hj
   rw [if_pos hx] at h
   cases k with
   | zero => rfl
   | succ k =>
    have := List.all_eq_true.1 h y (List.mem_of_getElem? (by simpa using hk))
    rw [hy] at this
    cases this
  | succ j =>
   cases k with
   | zero =>
    simp at hk
    subst hk
    rw [if_pos hy] at h
    have := List.all_eq_true.1 h x (List.mem_of_getElem? (by simpa using hj))
    rw [hx] at this
    cases this
   | succ k =>
    split at h
    ·
     have := List.all_eq_true.1 h y (List.mem_of_getElem? (by simpa using hk))
     rw [hy] at this
     cases this
    · exact congrArg Nat.succ (oneME_at h (by simpa using hj) (by simpa using hk) hx hy)
def chk (l : List Oper) (nx : Nat) (T : List (List Nat × List Nat × List Nat)) : Bool :=
 okMasks (masks l []) 0 l && (okAll (masks l []) nx 0 (trs l.toArray l T) && oneME l)

theorem okMasks_at {A : List Nat} : ∀ {l : List Oper} {i k : Nat} {o : Oper},okMasks A i l = true → l[k]? = some o → A.getD (i + k) 0 = mask A o ∧ ∀ e ∈ o.after,Region.binds .any e = true → e.on < i + k
 | [],_,_,_,_,h => by simp at h
 | o' :: l,i,k,o,h,hk => by
  simp only [okMasks,Bool.and_eq_true] at h
  cases k with
  | zero =>
   simp at hk
   subst hk
   refine ⟨by simpa using h.1.1,fun e he hb => ?_⟩
   have := List.all_eq_true.1 h.1.2 e (by simpa using he)
   rw [hb] at this
   simp only [Bool.not_true,Bool.false_or] at this
   rw [Nat.blt_eq] at this
   simpa using this
  | succ k =>
   have := okMasks_at (k := k) h.2 (by simpa using hk)
   rw [show i + (k + 1) = i + 1 + k by omega]
   exact this
theorem fold_bit {A : List Nat} {k : Nat} : ∀ {es : List Edge} {acc : Nat},Nat.testBit (es.foldl (fun acc e => if Region.binds .any e = true then acc ||| ((1 <<< e.on) ||| A.getD e.on 0) else acc) acc) k = true →
  Nat.testBit acc k = true ∨ ∃ e ∈ es,Region.binds .any e = true ∧ (e.on = k ∨ Nat.testBit (A.getD e.on 0) k = true)
 | [],_,h => .inl h
 | e :: es,acc,h => by
  simp only [List.foldl_cons] at h
  rcases fold_bit h with h | ⟨e',he',hb,hk⟩
  ·
   split at h
   ·
    rename_i hb
    simp only [Nat.testBit_or,Bool.or_eq_true] at h
    rcases h with h | h | h
    · exact .inl h
    ·
     refine .inr ⟨e,by simp,hb,.inl ?_⟩
     rw [Nat.one_shiftLeft,Nat.testBit_two_pow] at h
     simpa using h
    · exact .inr ⟨e,by simp,hb,.inr h⟩
   · exact .inl h
  · exact .inr ⟨e',List.mem_cons_of_mem _ he',hb,hk⟩
theorem okPairs_at {A : List Nat} {fr i : Nat} {x y : Tr} : ∀ {l : List Tr} {k j : Nat},okPairs A fr i x k l = true → l[j]? = some y → meets fr x y = true → Nat.testBit (A.getD (k + j) 0) i = true
 | [],_,_,_,h,_ => by simp at h
 | z :: l,k,j,h,hj,hm => by
  simp only [okPairs,Bool.and_eq_true] at h
  cases j with
  | zero =>
   simp at hj
   subst hj
   have := h.1
   rw [hm] at this
   simpa using this
  | succ j =>
   have := okPairs_at (j := j) h.2 (by simpa using hj) hm
   rw [show k + (j + 1) = k + 1 + j by omega]
   exact this
theorem okAll_at {A : List Nat} {nx : Nat} {x y : Tr} : ∀ {l : List Tr} {n i k : Nat},okAll A nx n l = true → i < k → l[i]? = some x → l[k]? = some y → meets (nx + (n + i)) x y = true → Nat.testBit (A.getD (n + k) 0) (n + i) = true
 | [],_,_,_,_,_,h,_,_ => by simp at h
 | z :: l,n,i,k,h,hik,hi,hk,hm => by
  simp only [okAll,Bool.and_eq_true] at h
  cases k with
  | zero => omega
  | succ k =>
   cases i with
   | zero =>
    simp at hi
    subst hi
    have := okPairs_at (j := k) h.1 (by simpa using hk) hm
    rw [show n + (k + 1) = n + 1 + k by omega]
    exact this
   | succ i =>
    have := okAll_at (n := n + 1) (i := i) (k := k) h.2 (by omega) (by simpa using hi) (by simpa using hk) (by rw [show n + 1 + i = n + (i + 1) by omega]; exact hm)
    rw [show n + (k + 1) = n + 1 + k by omega,show n + (i + 1) = n + 1 + i by omega]
    exact this
def Rec.tr (r : Rec) : List Nat × List Nat × List Nat := (r.R,r.W,r.V)
theorem trs_at {A : Array Oper} : ∀ {l : List Oper} {rs : List Rec} {i : Nat} {o : Oper} {r : Rec},l[i]? = some o → rs[i]? = some r → (trs A l (rs.map Rec.tr))[i]? = some ⟨o.dst,o.looksAt A,r.R,r.W,r.V,lkOf o,meOf o⟩
 | [],_,_,_,_,h,_ => by simp at h
 | _ :: _,[],_,_,_,_,h => by simp at h
 | o' :: l,r' :: rs,i,o,r,h,h' => by
  cases i with
  | zero => simp at h h'; subst h h'; rfl
  | succ i =>
   have := trs_at (A := A) (i := i) (l := l) (rs := rs) (by simpa using h) (by simpa using h')
   simpa [trs,Rec.tr] using this

def Closed (l : List Oper) (L : Nat → Bool) : Prop := ∀ i o,l[i]? = some o → L i = true → ∀ e ∈ o.after,Region.binds .any e = true → L e.on = true
theorem chk_waits (hc : chk l nx (rs.map Rec.tr) = true) {L : Nat → Bool} (hL : Closed l L) {i k : Nat} {x y : Oper} {r q : Rec} (hik : i < k) (hi : l[i]? = some x) (hk : l[k]? = some y) (hr : rs[i]? = some r) (hq : rs[k]? = some q)
  (hm : meets (nx + i) ⟨x.dst,x.looksAt l.toArray,r.R,r.W,r.V,lkOf x,meOf x⟩ ⟨y.dst,y.looksAt l.toArray,q.R,q.W,q.V,lkOf y,meOf y⟩ = true) (hLk : L k = true) : L i = true := by
 simp only [chk,Bool.and_eq_true] at hc
 have hbit := okAll_at hc.2.1 hik (trs_at hi hr) (trs_at hk hq) (by simpa using hm)
 simp only [Nat.zero_add] at hbit
 have key : ∀ n,∀ k,k ≤ n → ∀ o,l[k]? = some o → L k = true → Nat.testBit ((masks l []).getD k 0) i = true → L i = true := by
  intro n
  induction n with
  | zero =>
   intro k hkn o ho hLk hb
   have hk0 : k = 0 := by omega
   subst hk0
   have := okMasks_at hc.1 ho
   simp only [Nat.zero_add] at this
   rw [this.1] at hb
   rcases fold_bit hb with h | ⟨e,he,hbi,_⟩
   · simp at h
   · exact absurd (this.2 e (by simpa using he) hbi) (by omega)
  | succ n ih =>
   intro k hkn o ho hLk hb
   have := okMasks_at hc.1 ho
   simp only [Nat.zero_add] at this
   rw [this.1] at hb
   rcases fold_bit hb with h | ⟨e,he,hbi,h⟩
   · simp at h
   ·
    have hLe := hL k o ho hLk e (by simpa using he) hbi
    rcases h with h | h
    · rw [← h]; exact hLe
    ·
     have hlt := this.2 e (by simpa using he) hbi
     have hlen : e.on < l.length := by
      have := (List.getElem?_eq_some_iff.1 ho).1
      omega
     exact ih e.on (by omega) _ (List.getElem?_eq_getElem hlen) hLe h
 exact key k k (Nat.le_refl _) y hk hLk hbit
end
section
variable {P : Program} {Z : List (Fact P)} {w0 : Bas} {N : Nat} {l : List Oper} {nx : Nat} {s : S2} {rs : List Rec} {Q : Exit → Act → World → Prop}

theorem any_step (hpos : 0 < nx) (h : Runs P Z N l l nx s rs) (hb : Names (· < nx) s) (hc : chk l nx (rs.map Rec.tr) = true) {L L' : Nat → Bool} (hL : Closed l L) {i : Nat} {o : Oper} (hi : l[i]? = some o) (hLi : L i = false) (hready : ∀ e ∈ o.after,Region.binds .any e = true → L e.on = true)
  (hL' : ∀ k,L' k = (L k || decide (k = i))) {a : Act} {w : World} (hst : St w0 N (app L rs s).1 (app L rs s).2 a w) {K : Act → World → Prop} (hK : ∀ a' w',St w0 N (app L' rs s).1 (app L' rs s).2 a' w' → K a' w') : wpOp P l.toArray Q i K a w := by
 obtain ⟨r,hr,hd,hV,hR,hs⟩ := h.at_ hi
 have hlen := h.len
 have hL'c : Closed l L' := fun k y hk hy e he hbi => by
  rw [hL'] at hy ⊢
  by_cases ek : k = i
  ·
   subst ek
   rw [hi] at hk
   injection hk with hk
   subst hk
   rw [hready e he hbi]
   rfl
  ·
   simp only [ek,decide_false,Bool.or_false] at hy
   rw [hL k y hk hy e he hbi]
   rfl
 have hL'i : L' i = true := by rw [hL']; simp
 have rec_op : ∀ (k : Nat) (q : Rec),rs[k]? = some q → ∃ y : Oper,l[k]? = some y ∧ q.dst = y.dst := fun k q hq => by
  have hk : k < l.length := by rw [← hlen]; exact (List.getElem?_eq_some_iff.1 hq).1
  obtain ⟨q',h1,h2,_⟩ := h.at_ (List.getElem?_eq_getElem hk)
  rw [hq] at h1
  injection h1 with h1
  subst h1
  exact ⟨_,List.getElem?_eq_getElem hk,h2⟩
 -- no later one that meets it is listed; each earlier one that it meets is
 have late : ∀ k q y,rs[k]? = some q → l[k]? = some y → i < k → meets (nx + i) ⟨o.dst,o.looksAt l.toArray,r.R,r.W,r.V,lkOf o,meOf o⟩ ⟨y.dst,y.looksAt l.toArray,q.R,q.W,q.V,lkOf y,meOf y⟩ = true → L k = false := fun k q y hq hy hik hm => by
  cases hLk : L k
  · rfl
  ·
   rw [chk_waits hc hL hik hi hy hr hq hm hLk] at hLi
   cases hLi
 have early : ∀ k q y,rs[k]? = some q → l[k]? = some y → k < i → meets (nx + k) ⟨y.dst,y.looksAt l.toArray,q.R,q.W,q.V,lkOf y,meOf y⟩ ⟨o.dst,o.looksAt l.toArray,r.R,r.W,r.V,lkOf o,meOf o⟩ = true → L k = true := fun k q y hq hy hik hm => by
  have := chk_waits hc hL'c hik hy hi hq hr hm hL'i
  rw [hL'] at this
  simpa [show k ≠ i by omega] using this
 have hf : ∀ t ∈ o.looksAt l.toArray,(app L rs s).1 t = (app (fun k => decide (k < i)) rs s).1 t := fun t ht => app_slot rfl fun k q hq hqd => by
  obtain ⟨y,hy,hqy⟩ := rec_op k q hq
  rcases Nat.lt_trichotomy k i with h1 | h1 | h1
  ·
   rw [early k q y hq hy h1 (by simp [meets,← hqy,hqd,ht])]
   simp [h1]
  ·
   subst h1
   simp [hLi]
  ·
   rw [late k q y hq hy h1 (by simp only [meets,← hqy,hqd]; simp [ht])]
   simp
   omega
 have exempt : (∃ k q y,rs[k]? = some q ∧ l[k]? = some y ∧ i < k ∧ L k = true ∧ (lkOf o).isSome = true ∧ lkOf o = meOf y) ∨ ∀ k q y,rs[k]? = some q → l[k]? = some y → i < k → L k = true → ((lkOf o).isSome && lkOf o == meOf y) = false := by
  by_cases hx : ∃ k q y,rs[k]? = some q ∧ l[k]? = some y ∧ i < k ∧ L k = true ∧ (lkOf o).isSome = true ∧ lkOf o = meOf y
  · exact .inl hx
  ·
   refine .inr fun k q y h1 h2 h3 h4 => ?_
   cases h5 : (lkOf o).isSome
   · rfl
   ·
    simp only [Bool.true_and,beq_eq_false_iff_ne,ne_eq]
    exact fun h6 => hx ⟨k,q,y,h1,h2,h3,h4,h5,h6⟩
 have hgs : gstep P Z (aeval N (app L rs s).1) (app L rs s).2 (nx + i) (gof l o) o = some (r.v,r.U) := by
  rcases exempt with ⟨k,q,y,hq,hy,hik,hLk,hsome,hsame⟩ | hno
  ·
   -- an entry of the same key has come ahead of the look-up
   obtain ⟨t,a1,b1,hoo⟩ : ∃ t a1 b1,o.op = .lookup t (.tmp a1) (.tmp b1) false := by
    unfold lkOf at hsome
    split at hsome
    · exact ⟨_,_,_,‹_›⟩
    · cases hsome
   have hyo : y.op = .mapEntry t (.tmp a1) (.tmp b1) := by
    have e1 : lkOf o = some (t,a1,b1) := by simp only [lkOf,hoo]
    rw [e1] at hsame
    unfold meOf at hsame
    split at hsame
    ·
     rename_i t' a' b' e2
     injection hsame with hsame
     injection hsame with e3 hsame
     injection hsame with e4 e5
     subst e3 e4 e5
     exact e2
    · cases hsame
   have hyme : (meOf y).isSome = true := by rw [← hsame]; exact hsome
   simp only [chk,Bool.and_eq_true] at hc
   have hone := hc.2.2
   have hc' : chk l nx (rs.map Rec.tr) = true := by simp only [chk,Bool.and_eq_true]; exact hc
   obtain ⟨q',g1,gd,gV,gR,gs⟩ := h.at_ hy
   rw [hq] at g1
   injection g1 with g1
   subst g1
   -- ahead of k,what meets it is listed
   have before : ∀ j p z,rs[j]? = some p → l[j]? = some z → j < k → meets (nx + j) ⟨z.dst,z.looksAt l.toArray,p.R,p.W,p.V,lkOf z,meOf z⟩ ⟨y.dst,y.looksAt l.toArray,q.R,q.W,q.V,lkOf y,meOf y⟩ = true → L j = true := fun j p z hp hz hjk hm => chk_waits hc' hL hjk hz hy hp hq hm hLk
   have hlo : ∀ d,d = a1 ∨ d = b1 → d ∈ o.looksAt l.toArray := fun d hd => by
    unfold Oper.looksAt
    refine List.mem_append.2 (.inl (List.mem_filterMap.2 ⟨.tmp d,?_,rfl⟩))
    rw [hoo]
    rcases hd with rfl | rfl <;> simp [Op.operands]
   have hly : ∀ d,d = a1 ∨ d = b1 → d ∈ y.looksAt l.toArray := fun d hd => by
    unfold Oper.looksAt
    refine List.mem_append.2 (.inl (List.mem_filterMap.2 ⟨.tmp d,?_,rfl⟩))
    rw [hyo]
    rcases hd with rfl | rfl <;> simp [Op.operands]
   have hslot : ∀ d,d = a1 ∨ d = b1 → (app (fun j => decide (j < k)) rs s).1 d = (app (fun j => decide (j < i)) rs s).1 d := fun d hd => app_slot rfl fun j p hp hpd => by
    obtain ⟨z,hz,hpz⟩ := rec_op j p hp
    rcases Nat.lt_trichotomy j i with h1 | h1 | h1
    · simp [h1]; omega
    ·
     subst h1
     have e1 : z = o := by rw [hi] at hz; injection hz with hz; exact hz.symm
     have := before j p z hp hz hik (by simp only [meets,← hpz,hpd]; simp [hly d hd])
     rw [hLi] at this
     cases this
    ·
     by_cases h2 : j < k
     ·
      have e1 := before j p z hp hz h2 (by simp only [meets,← hpz,hpd]; simp [hly d hd])
      have e2 := late j p z hp hz h1 (by simp only [meets,← hpz,hpd]; simp [hlo d hd])
      rw [e1] at e2
      cases e2
     · simp; omega
   have haev : ∀ (st : S2),aeval N st.1 (.tmp a1) = if a1 < N then st.1 a1 else .one .any := fun _ => rfl
   have hae : ∀ d,d = a1 ∨ d = b1 → aeval N (app (fun j => decide (j < k)) rs s).1 (.tmp d) = aeval N (app (fun j => decide (j < i)) rs s).1 (.tmp d) := fun d hd => aeval_congr fun t' ht' => by
    injection ht' with ht'
    subst ht'
    exact hslot d hd
   refine (gstep_touch hoo hf fun id hid => ?_).trans hs
   have hidR : id.1 ∈ r.R := by
    rw [hR]
    refine List.mem_map.2 ⟨id,?_,rfl⟩
    simp only [opN,hoo,hid,AV.ids,Cell.ids,List.mem_singleton]
   have hidQ : id.1 ∈ q.R := by
    rw [gR]
    refine List.mem_map.2 ⟨id,?_,rfl⟩
    simp only [opN,hyo,hae a1 (.inl rfl),hid,AV.ids,Cell.ids,List.mem_singleton]
   -- who writes it
   have wr : ∀ j p,rs[j]? = some p → id.1 ∈ p.W → j ≠ k → (j < i ∧ L j = true) ∨ (i < j ∧ L j = false ∧ ¬ j < k) := fun j p hp hpW hjk => by
    obtain ⟨z,hz,hpz⟩ := rec_op j p hp
    rcases Nat.lt_trichotomy j i with h1 | h1 | h1
    ·
     refine .inl ⟨h1,early j p z hp hz h1 ?_⟩
     simp only [meets,Bool.or_eq_true]
     exact .inl (.inl (.inr (List.any_eq_true.2 ⟨id.1,hpW,by simp [hidR]⟩)))
    ·
     subst h1
     exfalso
     have := before j p z hp hz hik (by
      simp only [meets,Bool.or_eq_true]
      exact .inl (.inl (.inr (List.any_eq_true.2 ⟨id.1,hpW,by simp [hidQ]⟩))))
     rw [hLi] at this
     cases this
    ·
     have hnot : ((lkOf o).isSome && lkOf o == meOf z) = false := by
      rw [hsome,Bool.true_and,beq_eq_false_iff_ne]
      intro e1
      exact hjk (oneME_at hone hz hy (by rw [← e1]; exact hsome) hyme)
     have hl := late j p z hp hz h1 (by
      simp only [meets,Bool.or_eq_true,hnot,Bool.not_false,Bool.true_and]
      exact .inl (.inr (List.any_eq_true.2 ⟨id.1,hidR,by simp [hpW]⟩)))
     refine .inr ⟨h1,hl,fun h2 => ?_⟩
     have := before j p z hp hz h2 (by
      simp only [meets,Bool.or_eq_true]
      exact .inl (.inl (.inr (List.any_eq_true.2 ⟨id.1,hpW,by simp [hidQ]⟩))))
     rw [hl] at this
     cases this
   have hmk : (app (fun j => decide (j < k)) rs s).2 id = (app (fun j => decide (j < i)) rs s).2 id := app_name rfl fun j p hp hpW => by
    by_cases hjk : j = k
    · subst hjk; simp; omega
    ·
     rcases wr j p hp hpW hjk with ⟨h1,_⟩ | ⟨h1,_,h2⟩
     · simp [h1]; omega
     · simp [h2]; omega
   by_cases hqW : id.1 ∈ q.W
   ·
    refine .inr ?_
    have hL0 : (app L rs s).2 id = mupd (app (fun j => L j && decide (j ≠ k)) rs s).2 q.U id := app_lastName hq hLk (by simp) (fun j hj => by simp [hj]) fun j p hkj hp hLj hpW => by
     rcases wr j p hp hpW (by omega) with ⟨h1,_⟩ | ⟨_,h1,_⟩
     · omega
     · rw [h1] at hLj; cases hLj
    have hL1 : (app (fun j => L j && decide (j ≠ k)) rs s).2 id = (app (fun j => decide (j < i)) rs s).2 id := app_name rfl fun j p hp hpW => by
     by_cases hjk : j = k
     · subst hjk; simp; omega
     ·
      rcases wr j p hp hpW hjk with ⟨h1,h2⟩ | ⟨h1,h2,_⟩
      · simp [h1,h2,hjk]
      · simp [h2]; omega
    -- what the entry's first step wrote
    have hast : astep P Z (aeval N (app (fun j => decide (j < k)) rs s).1) (app (fun j => decide (j < k)) rs s).2 (nx + k) y = some (q.v,q.U) := by
     unfold gstep at gs
     split at gs
     · exact gs
     ·
      split at gs
      ·
       split at gs
       · exact gs
       · injection gs with gs; injection gs with e1 e2; rw [Rec.W,← e2] at hqW; cases hqW
      · injection gs with gs; injection gs with e1 e2; rw [Rec.W,← e2] at hqW; cases hqW
      · cases gs
     · cases gs
    unfold astep at hast
    rw [hyo] at hast
    simp only [hae a1 (.inl rfl),hae b1 (.inr rfl),hid] at hast
    unfold stMapEntry at hast
    split at hast
    ·
     rename_i kt et ag n id' kt' et' ag' n' l0 ht hma
     split at hast
     ·
      rename_i hcc
      obtain ⟨e1,e2,e3,e4⟩ := hcc
      subst e1 e2 e3 e4
      obtain ⟨hx1,hx2⟩ := mapAt_ok hma
      injection hx1 with hx1
      injection hx1 with hx1
      subst hx1
      split at hast
      ·
       rename_i key c0 hkey hz
       injection hast with hast
       injection hast with e5 e6
       obtain ⟨z,hz1,hz2⟩ := Option.bind_eq_some_iff.1 hz
       refine ⟨kt',et',ag',n',l0,key,z,c0,hmk ▸ hx2,hkey,hz1,hz2,?_⟩
       rw [hL0,← e6]
       simp [mupd,mput,mset]
      · cases hast
     · cases hast
    · cases hast
   ·
    refine .inl (app_name rfl fun j p hp hpW => ?_)
    by_cases hjk : j = k
    ·
     subst hjk
     rw [hq] at hp
     injection hp with hp
     subst hp
     exact absurd hpW hqW
    ·
     rcases wr j p hp hpW hjk with ⟨h1,h2⟩ | ⟨h1,h2,_⟩
     · simp [h1,h2]
     · simp [h2]; omega
  ·
   have hm : ∀ id ∈ opN (app (fun k => decide (k < i)) rs s).2 (aeval N (app (fun k => decide (k < i)) rs s).1) o,(app L rs s).2 id = (app (fun k => decide (k < i)) rs s).2 id := fun id hid => app_name rfl fun k q hq hqW => by
    have hid : id.1 ∈ r.R := by rw [hR]; exact List.mem_map.2 ⟨id,hid,rfl⟩
    obtain ⟨y,hy,hqy⟩ := rec_op k q hq
    rcases Nat.lt_trichotomy k i with h1 | h1 | h1
    ·
     rw [early k q y hq hy h1 (by
      simp only [meets,Bool.or_eq_true]
      exact .inl (.inl (.inr (List.any_eq_true.2 ⟨id.1,hqW,by simp [hid]⟩))))]
     simp [h1]
    ·
     subst h1
     simp [hLi]
    ·
     have : L k = false := by
      cases hLk : L k
      · rfl
      ·
       rw [← hLk]
       exact late k q y hq hy h1 (by
        simp only [meets,Bool.or_eq_true,hno k q y hq hy h1 hLk,Bool.not_false,Bool.true_and]
        exact .inl (.inr (List.any_eq_true.2 ⟨id.1,hid,by simp [hqW]⟩)))
     rw [this]
     simp; omega
   exact (gstep_congr (P := P) (Z := Z) (fr := nx + i) hf hm).trans hs
 have hfresh : ∀ k,Fresh (app L rs s).1 (app L rs s).2 (nx + i,k) := by
  refine Names.fresh ((hb.mono fun id (hid : id < nx) => (by omega : id ≠ nx + i)).app fun k q hq hLk id hid => ?_) (by omega)
  obtain ⟨y,hy,hqy⟩ := rec_op k q hq
  rcases Nat.lt_trichotomy k i with h1 | h1 | h1
  ·
   obtain ⟨q',h3,_,h4,_⟩ := h.at_ hy
   rw [hq] at h3
   injection h3 with h3
   subst h3
   have := h4 id hid
   omega
  ·
   subst h1
   rw [hLi] at hLk
   cases hLk
  ·
   intro e
   subst e
   rw [late k q y hq hy h1 (by
    simp only [meets,Bool.or_eq_true]
    exact .inr (by simp [hid]))] at hLk
   cases hLk
 refine gstep_ok hst hfresh hgs (by simpa using hi) fun a' w' hst' => hK a' w' ?_
 have e1 : (app L' rs s).1 = fput (app L rs s).1 o.dst r.v := by
  funext t
  by_cases ht : r.dst = some t
  ·
   rw [app_lastSlot hr hL'i ht fun k q hik hq hLk hqd => ?_]
   · rw [← hd,ht]; simp [fput]
   ·
    obtain ⟨y,hy,hqy⟩ := rec_op k q hq
    rw [hL',late k q y hq hy hik (by simp [meets,← hd,ht,← hqy,hqd])] at hLk
    simp at hLk
    omega
  ·
   have e : fput (app L rs s).1 o.dst r.v t = (app L rs s).1 t := by
    rw [← hd]
    cases hrd : r.dst with
    | none => rfl
    | some d => simp only [fput]; rw [if_neg (fun e => ht (by rw [hrd,e]))]
   rw [e]
   refine app_slot rfl fun k q hq hqd => ?_
   have : k ≠ i := fun e => by
    subst e
    rw [hr] at hq
    injection hq with hq
    subst hq
    exact ht hqd
   rw [hL']
   simp [this]
 have e2 : (app L' rs s).2 = mupd (app L rs s).2 r.U := by
  funext id
  by_cases ht : id.1 ∈ r.W
  ·
   refine app_lastName hr hL'i hLi (fun k hk => by rw [hL']; simp [hk]) fun k q hik hq hLk hqW => ?_
   obtain ⟨y,hy,hqy⟩ := rec_op k q hq
   rw [hL',late k q y hq hy hik (by
    simp only [meets,Bool.or_eq_true]
    exact .inl (.inl (.inr (List.any_eq_true.2 ⟨id.1,ht,by simp [hqW]⟩))))] at hLk
   simp at hLk
   omega
  ·
   rw [mupd_other ht]
   refine app_name rfl fun k q hq hqW => ?_
   have : k ≠ i := fun e => by
    subst e
    rw [hr] at hq
    injection hq with hq
    subst hq
    exact ht hqW
   rw [hL']
   simp [this]
 rw [e1,e2]
 exact hst'

def unl (listed : Array Bool) : Nat := listed.toList.countP (fun b => !b)
theorem unl_set {listed : Array Bool} {i : Nat} (h : listed.getD i true = false) : unl listed = unl (listed.setIfInBounds i true) + 1 := by
 have hi : i < listed.size := by
  rcases Nat.lt_or_ge i listed.size with h1 | h1
  · exact h1
  ·
   rw [Array.getD_eq_getD_getElem?,Array.getElem?_eq_none h1] at h
   cases h
 have hv : listed.toList[i]'(by simpa using hi) = false := by simpa [Array.getD_eq_getD_getElem?,hi] using h
 unfold unl
 rw [Array.toList_setIfInBounds,List.countP_set (by simpa using hi),hv]
 have : 0 < listed.toList.countP (fun b => !b) := List.countP_pos_iff.2 ⟨false,by rw [← hv]; exact List.getElem_mem _,rfl⟩
 simp only [Bool.not_false,if_true,Bool.not_true,Bool.false_eq_true,if_false]
 omega

theorem any_ok (hpos : 0 < nx) (h : Runs P Z N l l nx s rs) (hb : Names (· < nx) s) (hc : chk l nx (rs.map Rec.tr) = true) (hQ : ∀ a w,St w0 N (app (fun _ => true) rs s).1 (app (fun _ => true) rs s).2 a w → Q .normal a w) :
  ∀ (fuel : Nat) (listed : Array Bool) (a : Act) (w : World),listed.size = l.length → unl listed = fuel → Closed l (fun k => listed.getD k false) → St w0 N (app (fun k => listed.getD k false) rs s).1 (app (fun k => listed.getD k false) rs s).2 a w → wpAny P .any l.toArray Q fuel listed a w := by
 have hchk := hc
 simp only [chk,Bool.and_eq_true] at hchk
 have done : ∀ (listed : Array Bool) (a : Act) (w : World),listed.size = l.length → Region.ready .any l.toArray listed = [] → St w0 N (app (fun k => listed.getD k false) rs s).1 (app (fun k => listed.getD k false) rs s).2 a w → Q .normal a w := by
  intro listed a w hsz hr hst
  have all : ∀ n k,k ≤ n → k < l.length → listed.getD k false = true := by
   intro n
   induction n with
   | zero =>
    intro k hkn hk
    have hk0 : k = 0 := by omega
    subst hk0
    cases hg : listed.getD 0 false with
    | true => rfl
    | false =>
     have : (0 : Nat) ∈ Region.ready .any l.toArray listed := mem_ready.2 ⟨by simpa [Array.getD_eq_getD_getElem?,hsz,hk] using hg,l[0],by simp [hk],fun e he hbi => by
      have := (okMasks_at hchk.1 (List.getElem?_eq_getElem hk)).2 e he hbi
      omega⟩
     rw [hr] at this
     cases this
   | succ n ih =>
    intro k hkn hk
    cases hg : listed.getD k false with
    | true => rfl
    | false =>
     have : k ∈ Region.ready .any l.toArray listed := mem_ready.2 ⟨by simpa [Array.getD_eq_getD_getElem?,hsz,hk] using hg,l[k],by simp [hk],fun e he hbi => by
      have := (okMasks_at hchk.1 (List.getElem?_eq_getElem hk)).2 e he hbi
      exact ih e.on (by omega) (by omega)⟩
     rw [hr] at this
     cases this
  rw [app_ext (L' := fun _ => true) fun k hk => all k k (Nat.le_refl _) (by rw [← h.len]; exact hk)] at hst
  exact hQ a w hst
 have stepAll : ∀ (listed : Array Bool) (a : Act) (w : World) (i : Nat),listed.size = l.length → i ∈ Region.ready .any l.toArray listed → Closed l (fun k => listed.getD k false) → St w0 N (app (fun k => listed.getD k false) rs s).1 (app (fun k => listed.getD k false) rs s).2 a w →
   ∀ {K : Act → World → Prop},(∀ a' w',Closed l (fun k => (listed.setIfInBounds i true).getD k false) → St w0 N (app (fun k => (listed.setIfInBounds i true).getD k false) rs s).1 (app (fun k => (listed.setIfInBounds i true).getD k false) rs s).2 a' w' → K a' w') → wpOp P l.toArray Q i K a w := by
  intro listed a w i hsz hi hcl hst K hK
  obtain ⟨h0,o,ho,hall⟩ := mem_ready.1 hi
  have ho' : l[i]? = some o := by simpa using ho
  have hil : i < l.length := (List.getElem?_eq_some_iff.1 ho').1
  have hL' : ∀ k,(listed.setIfInBounds i true).getD k false = (listed.getD k false || decide (k = i)) := fun k => by
   by_cases e : k = i
   ·
    subst e
    simp [Array.getD_eq_getD_getElem?,hsz,hil]
   · simp [Array.getD_eq_getD_getElem?,Ne.symm e,e]
  have h0' : listed.getD i false = false := by simpa [Array.getD_eq_getD_getElem?,hsz,hil] using h0
  refine any_step hpos h hb hc hcl ho' h0' hall hL' hst fun a' w' hst' => hK a' w' (fun k y hk hy e he hbi => ?_) hst'
  simp only [hL'] at hy ⊢
  by_cases ek : k = i
  ·
   subst ek
   rw [ho'] at hk
   injection hk with hk
   subst hk
   rw [hall e he hbi]
   rfl
  ·
   simp only [ek,decide_false,Bool.or_false] at hy
   have := hcl k y hk hy e he hbi
   simp only at this
   rw [this]
   rfl
 intro fuel
 induction fuel with
 | zero =>
  intro listed a w hsz hun hcl hst
  have hr : Region.ready .any l.toArray listed = [] := by
   rw [List.eq_nil_iff_forall_not_mem]
   intro i hi
   have := unl_set (mem_ready.1 hi).1
   omega
  exact ⟨hr,done listed a w hsz hr hst⟩
 | succ fuel ih =>
  intro listed a w hsz hun hcl hst
  refine ⟨fun hr => done listed a w hsz hr hst,fun i hi => stepAll listed a w i hsz hi hcl hst fun a' w' hcl' hst' => ih _ a' w' (by simpa using hsz) ?_ hcl' hst'⟩
  have := unl_set (mem_ready.1 hi).1
  omega

theorem wp_drawn (hpos : 0 < nx) (hm : P.follows .mixedOrders = true) {id : Nat} {a : Act} {w : World} (h : Runs P Z N l l nx s rs) (hb : Names (· < nx) s) (hc : chk l nx (rs.map Rec.tr) = true) (hst : St w0 N s.1 s.2 a w)
  (hQ : ∀ a w,St w0 N (app (fun _ => true) rs s).1 (app (fun _ => true) rs s).2 a w → Q .normal a w) : (Code.region id l.toArray true).wp P Q a w := by
 have hf : (fun k => (Array.replicate l.toArray.size false).getD k false) = fun _ => false := by
  funext k
  simp [Array.getD_eq_getD_getElem?,Array.getElem?_replicate]
  split <;> rfl
 refine wp_region_any hm (any_ok hpos h hb hc hQ _ _ _ _ (by simp) (by simp [unl,List.countP_replicate]) ?_ ?_)
 ·
  rw [hf]
  intro i o _ hi
  cases hi
 ·
  rw [hf,app_false]
  exact hst.drew
end
end Go.Proofs.Ytabbejabdkkaiaa
