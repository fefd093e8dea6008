/- A step looks at its operands, and at the objects that these name, alone. No condition. -/
import Derived.Test.YteohodhcegbmmaaKm
set_option linter.unusedSimpArgs false
set_option linter.unusedVariables false
namespace Go.Proofs.Yteohodhcegbmmaa
open Go.RowKit

section
variable {P : Program} {Z : List (Fact P)} {m m' : Nm → Option AObj} {ev ev' : Operand → AV}

theorem mapO_congr {α β : Type} {g g' : α → Option β} : ∀ {l : List α}, (∀ x ∈ l, g' x = g x) → mapO g' l = mapO g l
  | [], _ => rfl
  | x :: l, h => by
    simp only [mapO]
    rw [h x (by simp), mapO_congr fun y hy => h y (by simp [hy])]
theorem flatMap_congr' {α β : Type} {g g' : α → List β} : ∀ {l : List α}, (∀ x ∈ l, g' x = g x) → l.flatMap g' = l.flatMap g
  | [], _ => rfl
  | x :: l, h => by
    simp only [List.flatMap_cons]
    rw [h x (by simp), flatMap_congr' fun y hy => h y (by simp [hy])]
theorem rowsOf_congr {c : Cell} (h : ∀ id ∈ c.ids, m' id = m id) : rowsOf m' c = rowsOf m c := by
  cases c with
  | own id n => simp only [rowsOf, h id (by simp [Cell.ids])]
  | sub id sz off n => simp only [rowsOf, h id (by simp [Cell.ids])]
  | _ => rfl
theorem rowsOf_mem {c : Cell} {l : List (List Cell)} (h : rowsOf m c = some l) : ∀ r ∈ l, ∀ d ∈ r, ∃ id ∈ c.ids, ∃ ty sz l0, m id = some (.row ty sz l0) ∧ r ∈ l0 := by
  intro r hr d hd
  cases c with
  | nil => simp only [rowsOf, Option.some.injEq] at h; subst h; cases hr
  | own i n =>
    simp only [rowsOf] at h
    split at h
    · rename_i ty sz l0 hm
      refine ⟨i, by simp [Cell.ids], ty, sz, l0, hm, ?_⟩
      split at h
      · injection h with h; subst h; exact hr
      · split at h
        · injection h with h; subst h; exact List.mem_of_mem_take hr
        · cases h
    · cases h
  | sub i sz off n =>
    simp only [rowsOf] at h
    split at h
    · rename_i ty sz' l0 hm
      refine ⟨i, by simp [Cell.ids], ty, sz', l0, hm, ?_⟩
      split at h
      · injection h with h; subst h; exact List.mem_of_mem_drop (List.mem_of_mem_take hr)
      · cases h
    · cases h
  | _ => cases h
theorem reach_congr : ∀ {k : Nat} {c : Cell}, (∀ id ∈ reach m k c, m' id = m id) → reach m' k c = reach m k c ∧ frz m' k c = frz m k c := by
  intro k
  induction k with
  | zero => intro c _; exact ⟨rfl, by cases c <;> rfl⟩
  | succ k ih =>
    intro c h
    have hids : ∀ id ∈ c.ids, m' id = m id := fun id hid => h id (reach_sub hid)
    have hrow : ∀ id ∈ c.ids, ∀ ty sz l, m id = some (.row ty sz l) → ∀ r ∈ l, ∀ d ∈ r, reach m' k d = reach m k d ∧ frz m' k d = frz m k d := fun id hid ty sz l hm r hr d hd => ih fun i hi => h i (reach_row hid hm hr hd hi)
    have hbox : ∀ id ∈ c.ids, ∀ ty l, m id = some (.box ty l) → ∀ d ∈ l, reach m' k d = reach m k d ∧ frz m' k d = frz m k d := fun id hid ty l hm d hd => ih fun i hi => h i (reach_box hid hm hd hi)
    refine ⟨?_, ?_⟩
    · simp only [reach]
      congr 1
      refine flatMap_congr' fun id hid => ?_
      rw [hids id hid]
      cases hm : m id with
      | none => rfl
      | some o =>
        cases o with
        | box ty l => exact flatMap_congr' fun d hd => (hbox id hid ty l hm d hd).1
        | row ty sz l => exact flatMap_congr' fun r hr => flatMap_congr' fun d hd => (hrow id hid ty sz l hm r hr d hd).1
        | map kt et ag n l => rfl
    · have hrows : ∀ l, rowsOf m c = some l → mapO (mapO (trOr (frz m' k))) l = mapO (mapO (trOr (frz m k))) l := fun l hl => mapO_congr fun r hr => mapO_congr fun d hd => by
        obtain ⟨id, hid, ty, sz, l0, hm, hr0⟩ := rowsOf_mem hl r hr d hd
        have := (hrow id hid ty sz l0 hm r hr0 d hd).2
        cases d <;> first | rfl | exact this
      have hptr : ∀ (id : Nm) (off : Nat), id ∈ c.ids → (match m' id with | some (.box _ l) => (mapO (frz m' k) (l.drop off)).map C.rop | _ => none) = (match m id with | some (.box _ l) => (mapO (frz m k) (l.drop off)).map C.rop | _ => none) := fun id off hid => by
        rw [hids id hid]
        cases hm : m id with
        | none => rfl
        | some o =>
          cases o with
          | box ty l =>
            simp only
            rw [mapO_congr fun d hd => (hbox id hid ty l hm d (List.mem_of_mem_drop hd)).2]
          | row ty sz l => rfl
          | map kt et ag n l => rfl
      cases c with
      | own id n =>
        simp only [frz, rowsOf_congr hids]
        cases hl : rowsOf m (.own id n) with
        | none => rfl
        | some l => simp only [hrows l hl]
      | sub id sz off n =>
        simp only [frz, rowsOf_congr hids]
        cases hl : rowsOf m (.sub id sz off n) with
        | none => rfl
        | some l => simp only [hrows l hl]
      | ptr id off =>
        simp only [frz]
        exact hptr id off (by simp [Cell.ids])
      | fnp g caps =>
        simp only [frz]
        congr 1
        exact mapO_congr fun p hp => hptr p.1 p.2 (by simp only [Cell.ids]; exact List.mem_map.2 ⟨p, hp, rfl⟩)
      | _ => rfl
theorem reachAV_congr {x : AV} (h : ∀ id ∈ reachAV m x, m' id = m id) : reachAV m' x = reachAV m x ∧ frzAV m' x = frzAV m x := by
  cases x with
  | one c =>
    have := reach_congr (m := m) (m' := m') (k := 5) (c := c) h
    exact ⟨this.1, by simp only [frzAV, this.2]⟩
  | agg l =>
    have key : ∀ c ∈ l, reach m' 5 c = reach m 5 c ∧ frz m' 5 c = frz m 5 c := fun c hc => reach_congr fun id hid => h id (List.mem_flatMap.2 ⟨c, hc, hid⟩)
    refine ⟨?_, ?_⟩
    · simp only [reachAV]
      exact flatMap_congr' fun c hc => (key c hc).1
    · simp only [frzAV]
      rw [mapO_congr fun c hc => (key c hc).2]
  | tup l => exact ⟨rfl, rfl⟩
theorem frzAVs_congr : ∀ {l : List AV}, (∀ x ∈ l, ∀ id ∈ reachAV m x, m' id = m id) → frzAVs m' l = frzAVs m l
  | [], _ => rfl
  | x :: l, h => by
    simp only [frzAVs]
    rw [(reachAV_congr (h x (by simp))).2, frzAVs_congr fun y hy => h y (by simp [hy])]
theorem cellsAt_congr {c : Cell} {n : Nat} (h : ∀ id ∈ c.ids, m' id = m id) : cellsAt m' c n = cellsAt m c n := by
  cases c with
  | d c => cases c <;> rfl
  | ptr id off => simp only [cellsAt, h id (by simp [Cell.ids])]
  | eptr id sz i j => simp only [cellsAt, h id (by simp [Cell.ids])]
  | _ => rfl
theorem srcOf_congr {c : Cell} (h : ∀ id ∈ c.ids, m' id = m id) : srcOf m' c = srcOf m c := by
  cases c with
  | d c => cases c <;> simp only [srcOf, rowsOf_congr h]
  | _ => simp only [srcOf, rowsOf_congr h]
theorem partOf_congr {sz : Nat} {c : Cell} {lo : Int} {hi : Option Int} (h : ∀ id ∈ c.ids, m' id = m id) : partOf m' sz c lo hi = partOf m sz c lo hi := by
  cases c with
  | d c => cases c <;> rfl
  | own id n => simp only [partOf, rowsOf_congr h]
  | sub id s off n => simp only [partOf, rowsOf_congr h]
  | _ => rfl
theorem dst_ids {c : Cell} {id : Nm} {off : Nat} (h : dstAt c = some (id, off)) : id ∈ c.ids := by
  cases c <;> simp [dstAt, Cell.ids] at h ⊢ <;> exact h.1.symm
theorem pick_congr {fr : Nat} {g : FuncId} {xs : List AV} (h : ∀ x ∈ xs, ∀ id ∈ reachAV m x, m' id = m id) : ∀ {Z : List (Fact P)}, pick m' fr g xs Z = pick m fr g xs Z
  | [] => rfl
  | z :: Z => by
    have hr : xs.flatMap (reachAV m') = xs.flatMap (reachAV m) := flatMap_congr' fun x hx => (reachAV_congr (h x hx)).1
    have hfit : z.fits m' fr xs ↔ z.fits m fr xs := by
      unfold Fact.fits
      rw [frzAVs_congr h, hr]
      refine and_congr Iff.rfl (and_congr Iff.rfl (and_congr ?_ Iff.rfl))
      refine forall_congr' fun p => forall_congr' fun hp => and_congr Iff.rfl ⟨fun h1 => ?_, fun h1 => ?_⟩
      all_goals
        obtain ⟨x, hx, hid⟩ := List.mem_flatMap.1 h1.2
        have e := h x hx p.1 hid
      · exact ⟨by rw [← e]; exact h1.1, h1.2⟩
      · exact ⟨by rw [e]; exact h1.1, h1.2⟩
    simp only [pick]
    rw [pick_congr h]
    by_cases hc : z.g = g ∧ z.fits m fr xs
    · rw [if_pos hc, if_pos ⟨hc.1, hfit.2 hc.2⟩]
    · rw [if_neg hc, if_neg fun h2 => hc ⟨h2.1, hfit.1 h2.2⟩]

/-- The objects that an operation looks at. -/
def opN (m : Nm → Option AObj) (ev : Operand → AV) (o : Oper) : List Nm :=
  match o.op with
  | .load _ x => (ev x).ids
  | .store _ x _ => (ev x).ids
  | .slice _ x _ _ _ => (ev x).ids
  | .lookup _ x _ _ => (ev x).ids
  | .mapUpdate _ x _ _ => (ev x).ids
  | .insert _ x _ _ => (ev x).ids
  | .mapEntry _ x _ => (ev x).ids
  | .entryStore _ x _ _ => (ev x).ids
  | .call c => match c.callee with
    | .builtin .len => []
    | .builtin .min => []
    | .builtin .max => []
    | .builtin _ => c.args.toList.flatMap fun x => (ev x).ids
    | .value _ => c.operands.toList.flatMap fun x => (ev x).ids ++ reachAV m (ev x)
    | .invoke _ _ => []
  | _ => []

theorem calleeOf_congr {cal : Callee} (h : ∀ x, cal = .value x → ev' x = ev x) : calleeOf ev' cal = calleeOf ev cal := by
  cases cal with
  | value x =>
    have e := h x rfl
    cases x <;> simp only [calleeOf, e]
  | _ => rfl
theorem post_reach {cal : Callee} {g : FuncId} {pre post : List AV} (h : calleeOf ev cal = some (g, pre, post)) : ∀ y ∈ pre ++ post, ∀ id ∈ reachAV m y, ∃ x, cal = .value x ∧ id ∈ reachAV m (ev x) := by
  intro y hy id hid
  unfold calleeOf at h
  split at h
  · injection h with h; injection h with e1 e2; injection e2 with e2 e3; subst e2 e3; cases hy
  · rename_i x _
    split at h
    · injection h with h; injection h with e1 e2; injection e2 with e2 e3; subst e2 e3
      exfalso
      rcases List.mem_append.1 hy with hy | hy
      · obtain ⟨z, _, rfl⟩ := List.mem_map.1 hy
        cases z with
        | inl l =>
          simp only [sumAV, reachAV] at hid
          obtain ⟨c, hc, hi⟩ := List.mem_flatMap.1 hid
          obtain ⟨c0, _, rfl⟩ := List.mem_map.1 hc
          simp [reach, Cell.ids] at hi
        | inr c => simp [sumAV, reachAV, reach, Cell.ids] at hid
      · obtain ⟨z, _, rfl⟩ := List.mem_map.1 hy
        simp [reachAV, reach, Cell.ids] at hid
    · rename_i g' caps he
      injection h with h; injection h with e1 e2; injection e2 with e2 e3; subst e2 e3
      refine ⟨x, rfl, ?_⟩
      rw [he]
      simp only [List.nil_append] at hy
      obtain ⟨p, hp, rfl⟩ := List.mem_map.1 hy
      have hpm : p.1 ∈ (Cell.fnp g' caps).ids := by simp only [Cell.ids]; exact List.mem_map.2 ⟨p, hp, rfl⟩
      simp only [reachAV, reach, Cell.ids, List.flatMap_cons, List.flatMap_nil, List.append_nil, List.singleton_append, List.mem_cons] at hid ⊢
      rcases hid with rfl | hid
      · exact List.mem_append.2 (.inl (List.mem_map.2 ⟨p, hp, rfl⟩))
      · exact List.mem_append.2 (.inr (List.mem_flatMap.2 ⟨p.1, List.mem_map.2 ⟨p, hp, rfl⟩, hid⟩))
    · cases h
  · cases h

theorem mapAt_congr {x : AV} (h : ∀ id ∈ x.ids, m' id = m id) : mapAt m' x = mapAt m x := by
  unfold mapAt
  split
  · rename_i id
    rw [h id (by simp [AV.ids, Cell.ids])]
  · rfl
theorem astep_congr (fr : Nat) (o : Oper) (hev : ∀ x ∈ o.op.operands, ev' x = ev x) (hm : ∀ id ∈ opN m ev o, m' id = m id) : astep P Z ev' m' fr o = astep P Z ev m fr o := by
  unfold astep
  cases hop : o.op <;> rw [hop] at hev <;> simp only [opN, hop] at hm <;> simp only [Op.operands] at hev ⊢
  case makeMap t r =>
    have e : r.map ev' = r.map ev := by
      cases r with
      | none => rfl
      | some x => simp only [Option.map_some]; rw [hev x (by simp)]
    rw [e]
  case lookup t x y ok => rw [hev x (by simp), hev y (by simp)]; unfold stLookup; rw [mapAt_congr hm]
  case mapUpdate t x y z => rw [hev x (by simp), hev y (by simp), hev z (by simp)]; unfold stMapPut; rw [mapAt_congr hm]
  case insert t x y z => rw [hev x (by simp), hev y (by simp), hev z (by simp)]; unfold stMapPut; rw [mapAt_congr hm]
  case mapEntry t x y => rw [hev x (by simp), hev y (by simp)]; unfold stMapEntry; rw [mapAt_congr hm]
  case entryStore t x y z => rw [hev x (by simp), hev y (by simp), hev z (by simp)]; unfold stEntryStore; rw [mapAt_congr hm]
  case move x => rw [hev x (by simp)]
  case assign x => rw [hev x (by simp)]
  case pick c x y => rw [hev c (by simp), hev x (by simp), hev y (by simp)]
  case box t x => rw [hev x (by simp)]
  case build t ps =>
    have e : partsAV ev' ps = partsAV ev ps := by
      unfold partsAV
      refine List.map_congr_left fun p hp => ?_
      rw [hev p.2 (by simp; exact ⟨p.1, by simpa using hp⟩)]
    rw [e]
  case buildSlice t n ps =>
    have e : partsAV ev' ps = partsAV ev ps := by
      unfold partsAV
      refine List.map_congr_left fun p hp => ?_
      rw [hev p.2 (by simp; exact ⟨p.1, by simpa using hp⟩)]
    rw [e]
  case load t x =>
    rw [hev x (by simp)]
    unfold stLoad
    split
    · rename_i c hx
      have hc : ∀ id ∈ c.ids, m' id = m id := fun id hid => hm id (by rw [hx]; exact hid)
      simp only [cellsAt_congr hc]
    · rfl
  case store t x y =>
    rw [hev x (by simp), hev y (by simp)]
    unfold stStore
    split
    · rename_i id off hx
      rw [hm id (by rw [hx]; simp [AV.ids, Cell.ids])]
    · rename_i id sz i j hx
      rw [hm id (by rw [hx]; simp [AV.ids, Cell.ids])]
    · rfl
  case fieldAddr s x i => rw [hev x (by simp)]
  case indexAddr t x y => rw [hev x (by simp), hev y (by simp)]
  case binOp op t x y yt => rw [hev x (by simp), hev y (by simp)]
  case unOp op t x => rw [hev x (by simp)]
  case convert s t x => rw [hev x (by simp)]
  case extract x i => rw [hev x (by simp)]
  case makeSlice t x y => rw [hev x (by simp), hev y (by simp)]
  case field s x i => rw [hev x (by simp)]
  case makeFunc fn first caps =>
    cases fn with
    | func g =>
      have e1 : first.toList.map ev' = first.toList.map ev := List.map_congr_left fun x hx => hev x (by simp only [Array.mem_append]; exact .inl (by simpa using hx))
      have e2 : caps.toList.map ev' = caps.toList.map ev := List.map_congr_left fun x hx => hev x (by simp only [Array.mem_append]; exact .inr (by simpa using hx))
      simp only [e1, e2]
    | _ => rfl
  case slice t x lo hi mx =>
    cases mx with
    | some y => rfl
    | none =>
      have e1 : boundOf ev' lo = boundOf ev lo := by
        cases lo with
        | none => rfl
        | some y => simp only [boundOf]; rw [hev y (by simp)]
      have e2 : boundOf ev' hi = boundOf ev hi := by
        cases hi with
        | none => rfl
        | some y => simp only [boundOf]; rw [hev y (by simp)]
      simp only
      rw [hev x (by simp), e1, e2]
      unfold stSlice
      split
      · rename_i c e sz by_ l h hx _ _ _
        rw [partOf_congr fun id hid => hm id (by rw [hx]; exact hid)]
      · rfl
  case call c =>
    have hargs : ∀ x ∈ c.args, ev' x = ev x := fun x hx => hev x (by simp only [Call.operands]; exact Array.mem_append.2 (.inr hx))
    have hids0 : (match c.callee with
        | .builtin .append => True
        | .builtin .copy => True
        | .builtin .clear => True
        | _ => False) → ∀ x ∈ c.args, ∀ id ∈ (ev x).ids, m' id = m id := fun hcl x hx id hid => by
      have key : id ∈ c.args.toList.flatMap fun x => (ev x).ids := List.mem_flatMap.2 ⟨x, by simpa using hx, hid⟩
      split at hcl
      · rename_i hc; simp only [hc] at hm; exact hm id key
      · rename_i hc; simp only [hc] at hm; exact hm id key
      · rename_i hc; simp only [hc] at hm; exact hm id key
      · exact hcl.elim
    have emap : c.args.toList.map ev' = c.args.toList.map ev := List.map_congr_left fun x hx => hargs x (by simpa using hx)
    split
    · split
      · rename_i x t h1 h2
        have hx : x ∈ c.args := by rw [← Array.mem_toList_iff, h1]; simp
        rw [hargs x hx]
      · rfl
    · rename_i hcal
      have hids := hids0 (by rw [hcal]; trivial)
      split
      · rename_i s x t t' h1 h2
        have hs : s ∈ c.args := by rw [← Array.mem_toList_iff, h1]; simp
        have hx : x ∈ c.args := by rw [← Array.mem_toList_iff, h1]; simp
        rw [hargs x hx, hargs s hs]
        split
        · unfold stAppend
          split
          · rename_i cs cx es ex
            have h3 : ∀ id ∈ cs.ids, m' id = m id := fun id hid => hids s hs id (by rw [es]; exact hid)
            have h4 : ∀ id ∈ cx.ids, m' id = m id := fun id hid => hids x hx id (by rw [ex]; exact hid)
            have h5 : ∀ e sz, (cs.ids.all fun id => isRow e sz (m' id)) = (cs.ids.all fun id => isRow e sz (m id)) := fun e sz => by
              rw [Bool.eq_iff_iff, List.all_eq_true, List.all_eq_true]
              exact forall_congr' fun id => forall_congr' fun hid => by rw [h3 id hid]
            simp only [rowsOf_congr h3, srcOf_congr h4, h5]
          · rfl
        · rfl
      · rfl
    · rename_i hcal
      have hids := hids0 (by rw [hcal]; trivial)
      split
      · rename_i s x t t' h1 h2
        have hs : s ∈ c.args := by rw [← Array.mem_toList_iff, h1]; simp
        have hx : x ∈ c.args := by rw [← Array.mem_toList_iff, h1]; simp
        rw [hargs x hx, hargs s hs]
        unfold stCopy
        split
        · rename_i cs cx es ex
          have h3 : ∀ id ∈ cs.ids, m' id = m id := fun id hid => hids s hs id (by rw [es]; exact hid)
          have h4 : ∀ id ∈ cx.ids, m' id = m id := fun id hid => hids x hx id (by rw [ex]; exact hid)
          rw [rowsOf_congr h3, srcOf_congr h4]
          split
          · rename_i id off l l' _ hat _ _
            rw [h3 id (dst_ids hat)]
          · rfl
        · rfl
      · rfl
    · rename_i hcal
      have hids := hids0 (by rw [hcal]; trivial)
      split
      · rename_i s t h1 h2
        have hs : s ∈ c.args := by rw [← Array.mem_toList_iff, h1]; simp
        rw [hargs s hs]
        unfold stClear
        split
        · rename_i cs es
          have h3 : ∀ id ∈ cs.ids, m' id = m id := fun id hid => hids s hs id (by rw [es]; exact hid)
          rw [rowsOf_congr h3]
          split
          · rename_i id off l _ hat _
            rw [h3 id (dst_ids hat)]
          · rfl
        · rfl
      · rfl
    · rw [emap]
    · rw [emap]
    · rfl
    · rfl
    · rename_i x hc
      simp only [hc] at hm
      have hr' : ∀ x ∈ c.operands, ∀ id ∈ reachAV m (ev x), m' id = m id := fun x hx id hid => hm id (List.mem_flatMap.2 ⟨x, by simpa using hx, List.mem_append.2 (.inr hid)⟩)
      have hrs : ∀ x ∈ c.args, ∀ id ∈ reachAV m (ev x), m' id = m id := fun x hx => hr' x (by simp only [Call.operands]; exact Array.mem_append.2 (.inr hx))
      have hx : x ∈ c.operands := by simp only [Call.operands, hc]; simp
      have hcal : calleeOf ev' (.value x) = calleeOf ev (.value x) := calleeOf_congr fun y hy => by injection hy with hy; subst hy; exact hev x hx
      rw [hcal]
      split
      · rename_i g pre post hco
        rw [emap]
        unfold stCall
        have key : ∀ y ∈ pre ++ c.args.toList.map ev ++ post, ∀ id ∈ reachAV m y, m' id = m id := fun y hy id hid => by
          rcases List.mem_append.1 hy with hy | hy
          · rcases List.mem_append.1 hy with hy | hy
            · obtain ⟨x', hx', hid'⟩ := post_reach hco y (List.mem_append.2 (.inl hy)) id hid
              injection hx' with hx'
              subst hx'
              exact hr' x hx id hid'
            · obtain ⟨q, hq, rfl⟩ := List.mem_map.1 hy
              exact hrs q (by simpa using hq) id hid
          · obtain ⟨x', hx', hid'⟩ := post_reach hco y (List.mem_append.2 (.inr hy)) id hid
            injection hx' with hx'
            subst hx'
            exact hr' x hx id hid'
        rw [pick_congr key]
        congr 1
        funext z
        have : (pre ++ c.args.toList.map ev ++ post).flatMap (reachAV m') = (pre ++ c.args.toList.map ev ++ post).flatMap (reachAV m) := flatMap_congr' fun y hy => (reachAV_congr (key y hy)).1
        simp only [Fact.ks, this]
      · rfl
end
end Go.Proofs.Yteohodhcegbmmaa
