/- A region, run in its text's order on the abstract state, is right in every order that the region may take, where no two operations without a given order meet. No condition. -/
import Derived.Test.YteohodhcegbmmaaKn
set_option linter.unusedSimpArgs false
set_option linter.unusedVariables false
namespace Go.Proofs.Yteohodhcegbmmaa
open Go.RowKit

/-- What one operation of a run did. -/
structure Rec where
  dst : Option Nat
  v : AV
  U : List Upd
  R : List Nat
/-- The classes that are shown by what is written. -/
def uIds : List Upd → List Nat
  | [] => []
  | (i, none) :: r => i.1 :: uIds r
  | (i, some o) :: r => i.1 :: (o.ids.map (·.1) ++ uIds r)
def ucl (u : Upd) : Nat := u.1.1
def Rec.W (r : Rec) : List Nat := r.U.map ucl
def Rec.V (r : Rec) : List Nat := r.v.ids.map (·.1) ++ uIds r.U
abbrev S2 := (Nat → AV) × (Nm → Option AObj)
def Rec.put (r : Rec) (s : S2) : S2 := (fput s.1 r.dst r.v, mupd s.2 r.U)
/-- The records of a set, laid in the text's order. -/
def app : (Nat → Bool) → List Rec → S2 → S2
  | _, [], s => s
  | L, r :: rs, s => app (fun k => L (k + 1)) rs (if L 0 = true then r.put s else s)

theorem mput_other {u : Upd} {m : Nm → Option AObj} {id : Nm} (h : id.1 ≠ ucl u) : mput m u id = m id := if_neg fun e => h (by rw [e]; rfl)
theorem mput_same {u : Upd} {m m' : Nm → Option AObj} {id : Nm} (h : m id = m' id) : mput m u id = mput m' u id := by simp only [mput, mset, h]
theorem mupd_other : ∀ {U : List Upd} {m : Nm → Option AObj} {id : Nm}, id.1 ∉ U.map ucl → mupd m U id = m id
  | [], _, _, _ => rfl
  | u :: U, m, id, h => by
    simp only [List.map_cons, List.mem_cons, not_or] at h
    simp only [mupd]
    rw [mupd_other h.2, mput_other h.1]
theorem mupd_same : ∀ {U : List Upd} {m m' : Nm → Option AObj} {id : Nm}, m id = m' id → mupd m U id = mupd m' U id
  | [], _, _, _, h => h
  | u :: U, m, m', id, h => by
    simp only [mupd]
    exact mupd_same (U := U) (mput_same h)

theorem app_slot : ∀ {rs : List Rec} {L L' : Nat → Bool} {s s' : S2} {t : Nat}, s.1 t = s'.1 t → (∀ k r, rs[k]? = some r → r.dst = some t → L k = L' k) → (app L rs s).1 t = (app L' rs s').1 t
  | [], _, _, _, _, _, h, _ => h
  | r :: rs, L, L', s, s', t, h, hL => by
    simp only [app]
    refine app_slot ?_ fun k r' hk => hL (k + 1) r' (by simpa using hk)
    by_cases e : r.dst = some t
    · have := hL 0 r (by simp) e
      rw [this]
      split
      · simp [Rec.put, fput, e]
      · exact h
    · have hp : ∀ s : S2, (r.put s).1 t = s.1 t := fun s => by
        simp only [Rec.put]
        cases hd : r.dst with
        | some d => simp only [fput]; rw [if_neg (fun e' => e (by rw [hd, e']))]
        | none => rfl
      split <;> split <;> simp only [hp, h]
theorem app_name : ∀ {rs : List Rec} {L L' : Nat → Bool} {s s' : S2} {id : Nm}, s.2 id = s'.2 id → (∀ k r, rs[k]? = some r → id.1 ∈ r.W → L k = L' k) → (app L rs s).2 id = (app L' rs s').2 id
  | [], _, _, _, _, _, h, _ => h
  | r :: rs, L, L', s, s', id, h, hL => by
    simp only [app]
    refine app_name ?_ fun k r' hk => hL (k + 1) r' (by simpa using hk)
    by_cases e : id.1 ∈ r.W
    · have := hL 0 r (by simp) e
      rw [this]
      split
      · exact mupd_same h
      · exact h
    · have hp : ∀ s : S2, (r.put s).2 id = s.2 id := fun s => mupd_other e
      split <;> split <;> simp only [hp, h]
theorem app_lastSlot : ∀ {rs : List Rec} {L : Nat → Bool} {s : S2} {t i : Nat} {r : Rec}, rs[i]? = some r → L i = true → r.dst = some t → (∀ k r', i < k → rs[k]? = some r' → L k = true → r'.dst ≠ some t) → (app L rs s).1 t = r.v
  | [], _, _, _, _, _, h, _, _, _ => by simp at h
  | q :: rs, L, s, t, i, r, h, hLi, hd, hlast => by
    simp only [app]
    cases i with
    | zero =>
      simp at h
      subst h
      rw [if_pos hLi]
      rw [app_slot (L' := fun _ => false) (s' := q.put s) rfl fun k r' hk hd' => by
        cases hL : L (k + 1)
        · rfl
        · exact absurd hd' (hlast (k + 1) r' (by omega) (by simpa using hk) hL)]
      have hff : ∀ (rs : List Rec) (s : S2), app (fun _ => false) rs s = s := by
        intro rs
        induction rs with
        | nil => intro s; rfl
        | cons r rs ih => intro s; simp only [app]; exact ih _
      rw [hff]
      simp [Rec.put, fput, hd]
    | succ i => exact app_lastSlot (by simpa using h) hLi hd fun k r' hk hr hL => hlast (k + 1) r' (by omega) (by simpa using hr) hL
theorem app_false : ∀ {rs : List Rec} {s : S2}, app (fun _ => false) rs s = s
  | [], _ => rfl
  | _ :: rs, s => by simp only [app]; exact app_false
theorem app_lastName : ∀ {rs : List Rec} {L L0 : Nat → Bool} {s : S2} {id : Nm} {i : Nat} {r : Rec}, rs[i]? = some r → L i = true → L0 i = false → (∀ k, k ≠ i → L0 k = L k) → (∀ k r', i < k → rs[k]? = some r' → L k = true → id.1 ∉ r'.W) → (app L rs s).2 id = mupd (app L0 rs s).2 r.U id
  | [], _, _, _, _, _, _, h, _, _, _, _ => by simp at h
  | q :: rs, L, L0, s, id, i, r, h, hLi, hL0, hE, hlast => by
    simp only [app]
    cases i with
    | zero =>
      simp at h
      subst h
      rw [if_pos hLi, hL0, if_neg (by decide)]
      have hno : ∀ k r', rs[k]? = some r' → id.1 ∈ r'.W → L (k + 1) = false := fun k r' hk hd' => by
        cases hL : L (k + 1)
        · rfl
        · exact absurd hd' (hlast (k + 1) r' (by omega) (by simpa using hk) hL)
      rw [app_name (L' := fun _ => false) (s' := q.put s) rfl hno, app_false]
      refine mupd_same ?_
      rw [app_name (L' := fun _ => false) (s' := s) rfl fun k r' hk hd' => by rw [hE (k + 1) (by omega)]; exact hno k r' hk hd', app_false]
    | succ i =>
      rw [hE 0 (by omega)]
      exact app_lastName (L := fun k => L (k + 1)) (L0 := fun k => L0 (k + 1)) (by simpa using h) hLi hL0 (fun k hk => hE (k + 1) (by omega)) fun k r' hk hr hL => hlast (k + 1) r' (by omega) (by simpa using hr) hL

/-- The step, guarded. -/
def gof (l : List Oper) (o : Oper) : Option (Option Nat × Bool) := o.guard.map fun p => ((l[p.1]?).bind (·.dst), p.2)
noncomputable def gstep (P : Program) (Z : List (Fact P)) (ev : Operand → AV) (m : Nm → Option AObj) (fr : Nat) (g : Option (Option Nat × Bool)) (o : Oper) : Res :=
  match g with
  | none => astep P Z ev m fr o
  | some (some d, want) => match ev (.tmp d) with
    | .one (.d (.bool b)) => if b = want then astep P Z ev m fr o else some (.tup [], [])
    | .tup [] => some (.tup [], [])
    | _ => none
  | some (none, _) => none

section
variable {P : Program} {Z : List (Fact P)} {w0 : Bas} {N : Nat} {f f' : Nat → AV} {m m' : Nm → Option AObj} {a : Act} {w : World} {o : Oper} {fr : Nat} {v : AV} {U : List Upd} {l : List Oper} {Q : Exit → Act → World → Prop}

theorem gstep_ok (h : St w0 N f m a w) (hfr : ∀ k, Fresh f m (fr, k)) (hs : gstep P Z (aeval N f) m fr (gof l o) o = some (v, U)) {i : Nat} (hi : l.toArray[i]? = some o) {K : Act → World → Prop} (hK : ∀ a' w', St w0 N (fput f o.dst v) (mupd m U) a' w' → K a' w') : wpOp P l.toArray Q i K a w := by
  obtain ⟨ρ, φ, h⟩ := h
  unfold wpOp
  rw [hi]
  simp only []
  unfold gstep gof at hs
  cases hg : o.guard with
  | none =>
    rw [hg] at hs
    simp only [Option.map_none] at hs
    have : Region.wanted o (yielded l.toArray a.tmps) = true := by simp [Region.wanted, hg]
    rw [this, if_pos rfl]
    exact .inl (astep_ok h hfr hs K Q hK)
  | some p =>
    obtain ⟨j, want⟩ := p
    rw [hg] at hs
    simp only [Option.map_some] at hs
    split at hs
    · cases ‹_ = none›
    · rename_i d want' hd
      injection hd with hd
      injection hd with hd hw
      subst hw
      split at hs
      · rename_i b hb
        have hy : yielded l.toArray a.tmps j = some b := by
          unfold yielded
          have e : (l.toArray[j]?).bind (·.dst) = some d := by simpa using hd
          rw [e]
          simp only [Option.bind_some]
          simp only [aeval] at hb
          split at hb
          · rename_i hN
            have hs : d < a.tmps.size := by rw [h.size]; exact hN
            have hv := h.regs d a.tmps[d] (Array.getElem?_eq_getElem hs)
            rw [hb] at hv
            rw [Array.getElem?_eq_getElem hs, cv_bool (ρ := ρ) hv]
          · injection hb with hb; cases hb
        have hw : Region.wanted o (yielded l.toArray a.tmps) = (b == want) := by simp [Region.wanted, hg, hy]
        rw [hw]
        split at hs
        · rename_i e
          subst e
          rw [if_pos (by simp)]
          exact .inl (astep_ok h hfr hs K Q hK)
        · rename_i e
          rw [if_neg (by simpa using e)]
          injection hs with hs
          injection hs with e1 e2
          subst e1 e2
          exact hK _ _ ⟨ρ, φ, h.put o.dst (x := .tup []) ⟨[], rfl, rfl, by simp⟩⟩
      · rename_i hb
        injection hs with hs
        injection hs with e1 e2
        subst e1 e2
        have hy : yielded l.toArray a.tmps j = none := by
          unfold yielded
          have e : (l.toArray[j]?).bind (·.dst) = some d := by simpa using hd
          rw [e]
          simp only [Option.bind_some]
          simp only [aeval] at hb
          split at hb
          · rename_i hN
            have hs : d < a.tmps.size := by rw [h.size]; exact hN
            have hv := h.regs d a.tmps[d] (Array.getElem?_eq_getElem hs)
            rw [hb] at hv
            obtain ⟨vs, hv1, hv2, _⟩ := hv
            rw [Array.getElem?_eq_getElem hs, hv1]
          · cases hb
        have hw : Region.wanted o (yielded l.toArray a.tmps) = false := by simp [Region.wanted, hg, hy]
        rw [hw, if_neg (by simp)]
        exact hK _ _ ⟨ρ, φ, h.put o.dst (x := .tup []) ⟨[], rfl, rfl, by simp⟩⟩
      · cases hs
    · cases hs
theorem aeval_congr {x : Operand} (h : ∀ t, x = .tmp t → f' t = f t) : aeval N f' x = aeval N f x := by
  cases x with
  | tmp t => simp only [aeval, h t rfl]
  | _ => rfl
theorem gstep_congr (hf : ∀ t ∈ o.looksAt l.toArray, f' t = f t) (hm : ∀ id ∈ opN m (aeval N f) o, m' id = m id) : gstep P Z (aeval N f') m' fr (gof l o) o = gstep P Z (aeval N f) m fr (gof l o) o := by
  have hev : ∀ x ∈ o.op.operands, aeval N f' x = aeval N f x := fun x hx => aeval_congr fun t ht => hf t (by
    unfold Oper.looksAt
    refine List.mem_append.2 (.inl (List.mem_filterMap.2 ⟨x, by simpa using hx, by rw [ht]⟩)))
  have ha := astep_congr (P := P) (Z := Z) fr o hev hm
  unfold gstep gof
  cases hg : o.guard with
  | none => simpa using ha
  | some p =>
    obtain ⟨j, want⟩ := p
    simp only [Option.map_some]
    cases hd : (l[j]?).bind (·.dst) with
    | none => rfl
    | some d =>
      simp only []
      have : aeval N f' (.tmp d) = aeval N f (.tmp d) := aeval_congr fun t ht => by
        injection ht with ht
        subst ht
        refine hf d ?_
        unfold Oper.looksAt
        refine List.mem_append.2 (.inr ?_)
        rw [hg]
        simp [hd]
      rw [this, ha]
theorem mGet_touch (l : List (List Int × C)) (k : List Int) (c0 : C) : mGet (mTouch l k c0) k = some ((mGet l k).getD c0) := by
  unfold mTouch
  split
  · rename_i h
    unfold mGet
    rw [List.getElem?_eq_getElem h]
    rfl
  · rename_i h
    have h1 : mIdx l k = l.length := Nat.le_antisymm List.findIdx_le_length (by omega)
    have h2 : mIdx (l ++ [(k, c0)]) k = l.length := by
      have h3 : mIdx l k = l.length := h1
      unfold mIdx at h3 ⊢
      rw [List.findIdx_append, h3, if_neg (by omega)]
      simp
    unfold mGet
    rw [h1, h2]
    simp
/-- A look-up does not see that an entry of its key, with the zero value, has come. -/
theorem gstep_touch {t : TypeId} {x y : Operand} (ho : o.op = .lookup t x y false) (hf : ∀ t ∈ o.looksAt l.toArray, f' t = f t)
    (hm : ∀ id, aeval N f x = .one (.mp id) → m' id = m id ∨ ∃ kt et ag n l k z c0, m id = some (.map kt et ag n l) ∧ keyAV ag n (aeval N f y) = some k ∧ tZ1 P et = some z ∧ zeroC z = some c0 ∧ m' id = some (.map kt et ag n (mTouch l k c0))) :
    gstep P Z (aeval N f') m' fr (gof l o) o = gstep P Z (aeval N f) m fr (gof l o) o := by
  have hev : ∀ z ∈ o.op.operands, aeval N f' z = aeval N f z := fun z hz => aeval_congr fun t ht => hf t (by
    unfold Oper.looksAt
    refine List.mem_append.2 (.inl (List.mem_filterMap.2 ⟨z, by simpa using hz, by rw [ht]⟩)))
  have ha : astep P Z (aeval N f') m' fr o = astep P Z (aeval N f) m fr o := by
    have hx := hev x (by rw [ho]; simp [Op.operands])
    have hy := hev y (by rw [ho]; simp [Op.operands])
    unfold astep
    rw [ho]
    simp only [hx, hy]
    unfold stLookup
    cases hc : aeval N f x with
    | one c =>
      cases c with
      | mp id =>
        rcases hm id hc with h | ⟨kt, et, ag, n, l0, k, z, c0, h1, h2, h3, h4, h5⟩
        · simp only [mapAt, h]
        · simp only [mapAt, h1, h5]
          cases tMap P t with
          | none => rfl
          | some q =>
            obtain ⟨kt', et', ag', n'⟩ := q
            simp only []
            by_cases hq : kt = kt' ∧ et = et' ∧ ag = ag' ∧ n = n'
            · obtain ⟨rfl, rfl, rfl, rfl⟩ := hq
              simp only [and_self, if_true, h2, h3, mGet_touch]
              have hz : ofVal z = .d c0 := by
                unfold zeroC at h4
                split at h4
                · rename_i c h9; injection h4 with h4; rw [← h4]; exact h9
                · cases h4
              cases mGet l0 k <;> simp [foundC, hz]
            · rw [if_neg hq, if_neg hq]
      | _ => rfl
    | _ => rfl
  unfold gstep gof
  cases hg : o.guard with
  | none => simpa using ha
  | some p =>
    obtain ⟨j, want⟩ := p
    simp only [Option.map_some]
    cases hd : (l[j]?).bind (·.dst) with
    | none => rfl
    | some d =>
      simp only []
      have : aeval N f' (.tmp d) = aeval N f (.tmp d) := aeval_congr fun t ht => by
        injection ht with ht
        subst ht
        refine hf d ?_
        unfold Oper.looksAt
        refine List.mem_append.2 (.inr ?_)
        rw [hg]
        simp [hd]
      rw [this, ha]
end
end Go.Proofs.Yteohodhcegbmmaa
