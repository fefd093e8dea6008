/- Rewriting rules for runs, by the shape of what is looked at; facts on calls. No condition. -/
import Derived.Test.YteohodhcegbmmaaKv
set_option linter.unusedSimpArgs false
set_option linter.unusedVariables false
namespace Go.Proofs.Yteohodhcegbmmaa
open Go.RowKit
/-- Rows of data. -/
def dat (l : List (List C)) : List (List Cell) := l.map fun r => r.map Cell.d
theorem dat_cell (l : List (List C)) : ∀ r ∈ dat l, ∀ c ∈ r, ∃ d, c = .d d := by
  intro r hr c hc
  obtain ⟨r0, _, rfl⟩ := List.mem_map.1 hr
  obtain ⟨d, _, rfl⟩ := List.mem_map.1 hc
  exact ⟨d, rfl⟩
theorem dat_ids (l : List (List C)) : (dat l).flatMap (fun r => r.flatMap Cell.ids) = [] := by
  refine List.flatMap_eq_nil_iff.2 fun r hr => List.flatMap_eq_nil_iff.2 fun c hc => ?_
  obtain ⟨d, rfl⟩ := dat_cell l r hr c hc
  rfl
theorem opn_cell (cols : Nat → TD) (l : List (List C)) : ∀ r ∈ openRows cols l, ∀ c ∈ r, (∃ d, c = .d d) ∨ ∃ T d, c = .tr T d := by
  intro r hr c hc
  obtain ⟨i, hi⟩ := List.mem_iff_getElem?.1 hr
  obtain ⟨r0, _, _, h3⟩ := openRows_get hi
  obtain ⟨j, hj⟩ := List.mem_iff_getElem?.1 hc
  rw [h3] at hj
  obtain ⟨c0, _, rfl⟩ := Option.map_eq_some_iff.1 hj
  cases cols j with
  | sc => exact .inl ⟨c0, rfl⟩
  | sl e s k => exact .inr ⟨_, c0, rfl⟩
theorem rows_reach' {m : Nm → Option AObj} (l : List (List Cell)) (k : Nat) (h : ∀ r ∈ l, ∀ c ∈ r, reach m k c = []) : l.flatMap (fun r => r.flatMap (reach m k)) = [] :=
  List.flatMap_eq_nil_iff.2 fun r hr => List.flatMap_eq_nil_iff.2 fun c hc => h r hr c hc
theorem dat_ntr (l : List (List C)) : ((dat l).all fun r => r.all Cell.ntr) = true := by
  refine List.all_eq_true.2 fun r hr => List.all_eq_true.2 fun c hc => ?_
  obtain ⟨d, rfl⟩ := dat_cell l r hr c hc
  rfl
theorem mapO_app {α β : Type} (g : α → Option β) : ∀ (xs ys : List α), mapO g (xs ++ ys) = match mapO g xs, mapO g ys with
    | some a, some b => some (a ++ b)
    | _, _ => none
  | [], ys => by
    simp only [List.nil_append, mapO]
    cases mapO g ys <;> rfl
  | x :: xs, ys => by
    simp only [List.cons_append, mapO]
    rw [mapO_app g xs ys]
    cases g x <;> cases mapO g xs <;> cases mapO g ys <;> rfl
theorem mapO_rep {α β : Type} (g : α → Option β) (x : α) : ∀ (n : Nat), mapO g (List.replicate n x) = match g x with
    | some y => some (List.replicate n y)
    | none => if n = 0 then some [] else none
  | 0 => by cases g x <;> rfl
  | n + 1 => by
    simp only [List.replicate_succ, mapO]
    rw [mapO_rep g x n]
    cases g x <;> rfl
theorem mapO_all {α β γ : Type} (g : α → Option β) (k : γ → α) (j : γ → β) (h : ∀ x, g (k x) = some (j x)) : ∀ (l : List γ), mapO g (l.map k) = some (l.map j)
  | [] => rfl
  | x :: l => by
    simp only [List.map_cons, mapO, h, mapO_all g k j h l]
theorem dat_mo {m : Nm → Option AObj} (k : Nat) (l : List (List C)) : mapO (mapO (trOr (frz m k))) (dat l) = some l := by
  have := mapO_all (mapO (trOr (frz m k))) (fun r : List C => r.map Cell.d) id (fun r => by
    have := mapO_all (trOr (frz m k)) Cell.d id (fun c => by cases k <;> rfl) r
    simpa using this) l
  simpa [dat] using this
theorem cellsOf_mo {m : Nm → Option AObj} (k : Nat) (cols : Nat → TD) : ∀ (r : List C) (j : Nat), mapO (trOr (frz m k)) (cellsOf cols j r) = some r
  | [], _ => rfl
  | c :: r, j => by
    simp only [cellsOf, mapO, cellsOf_mo k cols r]
    cases cols j with
    | sc => cases k <;> rfl
    | sl e s q => rfl
theorem opn_mo {m : Nm → Option AObj} (k : Nat) (cols : Nat → TD) (l : List (List C)) : mapO (mapO (trOr (frz m k))) (openRows cols l) = some l := by
  have := mapO_all (mapO (trOr (frz m k))) (cellsOf cols 0) id (fun r => cellsOf_mo k cols r 0) l
  simpa [openRows] using this
theorem dat_open (L : List (List C)) : openRows (fun _ => .sc) L = dat L := by
  have : ∀ (r : List C) (j : Nat), cellsOf (fun _ => .sc) j r = r.map Cell.d := by
    intro r
    induction r with
    | nil => intro _; rfl
    | cons c r ih => intro j; simp [cellsOf, cellOf, ih]
  simp [openRows, dat, this]
section
variable {P : Program} {Z : List (Fact P)} {ev : Operand → AV} {m : Nm → Option AObj} {N nx fr : Nat} {F : LF} {M : LM}
theorem rows_reach (l : List (List Cell)) (k : Nat) (h : (∀ r ∈ l, ∀ c ∈ r, ∃ d, c = .d d) ∨ ∀ r ∈ l, ∀ c ∈ r, (∃ d, c = .d d) ∨ ∃ T d, c = .tr T d) : l.flatMap (fun r => r.flatMap (reach m k)) = [] := by
  refine rows_reach' l k fun r hr c hc => ?_
  rcases h with h | h
  · obtain ⟨d, rfl⟩ := h r hr c hc
    cases k <;> rfl
  · rcases h r hr c hc with ⟨d, rfl⟩ | ⟨T, d, rfl⟩ <;> cases k <;> rfl
theorem e_ids1 (c : Cell) : (AV.one c).ids = c.ids := rfl
theorem e_ids2 (l : List Cell) : (AV.agg l).ids = l.flatMap Cell.ids := rfl
theorem e_ids3 (l : List (List Cell ⊕ Cell)) : (AV.tup l).ids = l.flatMap sumIds := rfl
theorem e_sum1 (l : List Cell) : sumIds (.inl l) = l.flatMap Cell.ids := rfl
theorem e_sum2 (c : Cell) : sumIds (.inr c) = c.ids := rfl
theorem e_cid1 (c : C) : (Cell.d c).ids = [] := rfl
theorem e_cid2 (T : TD) (c : C) : (Cell.tr T c).ids = [] := rfl
theorem e_cid3 (i : Nm) (o : Nat) : (Cell.ptr i o).ids = [i] := rfl
theorem e_cid4 (i : Nm) (s a b : Nat) : (Cell.eptr i s a b).ids = [i] := rfl
theorem e_cid5 (i : Nm) (n : Nat) : (Cell.own i n).ids = [i] := rfl
theorem e_cid6 (i : Nm) (s o n : Nat) : (Cell.sub i s o n).ids = [i] := rfl
theorem e_cid7 (g : FuncId) (l : List (Nm × Nat)) : (Cell.fnp g l).ids = l.map (·.1) := rfl
theorem e_cid8 (i : Nm) : (Cell.mp i).ids = [i] := rfl
theorem e_cid9 : Cell.nil.ids = [] := rfl
theorem e_cid10 : Cell.any.ids = [] := rfl
theorem e_cid11 (e : Bool) (n : Nat) : (Cell.bb e n).ids = [] := rfl
theorem e_oid1 (t : Nat) (l : List Cell) : (AObj.box t l).ids = l.flatMap Cell.ids := rfl
theorem e_oid2 (t s : Nat) (l : List (List Cell)) : (AObj.row t s l).ids = l.flatMap fun r => r.flatMap Cell.ids := rfl
theorem e_cells1 (c : Cell) : (AV.one c).cells = [c] := rfl
theorem e_cells2 (l : List Cell) : (AV.agg l).cells = l := rfl
theorem e_okc1 (c : Cell) : (AV.one c).okCells = c.known := rfl
theorem e_okc2 (l : List Cell) : (AV.agg l).okCells = l.all Cell.ntr := rfl
theorem e_kn0 (c : C) : (Cell.d c).known = true := rfl
theorem e_nt0 (c : C) : (Cell.d c).ntr = true := rfl
theorem e_kn1 (i : Nm) (o : Nat) : (Cell.ptr i o).known = true := rfl
theorem e_nt1 (i : Nm) (o : Nat) : (Cell.ptr i o).ntr = true := rfl
theorem e_kn2 (i : Nm) (s a b : Nat) : (Cell.eptr i s a b).known = true := rfl
theorem e_nt2 (i : Nm) (s a b : Nat) : (Cell.eptr i s a b).ntr = true := rfl
theorem e_kn3 (i : Nm) (n : Nat) : (Cell.own i n).known = true := rfl
theorem e_nt3 (i : Nm) (n : Nat) : (Cell.own i n).ntr = true := rfl
theorem e_kn4 (i : Nm) (s o n : Nat) : (Cell.sub i s o n).known = true := rfl
theorem e_nt4 (i : Nm) (s o n : Nat) : (Cell.sub i s o n).ntr = true := rfl
theorem e_kn5 (g : FuncId) (l : List (Nm × Nat)) : (Cell.fnp g l).known = true := rfl
theorem e_nt5 (g : FuncId) (l : List (Nm × Nat)) : (Cell.fnp g l).ntr = true := rfl
theorem e_kn6  : (Cell.nil).known = true := rfl
theorem e_nt6  : (Cell.nil).ntr = true := rfl
theorem e_kn7 (e : Bool) (n : Nat) : (Cell.bb e n).known = true := rfl
theorem e_nt7 (e : Bool) (n : Nat) : (Cell.bb e n).ntr = true := rfl
theorem e_kn8 (i : Nm) : (Cell.mp i).known = true := rfl
theorem e_nt8 (i : Nm) : (Cell.mp i).ntr = true := rfl
theorem e_nt20 : Cell.any.ntr = true := rfl
theorem e_ov1 (k : IntKind) (n : Int) : ofVal (.int k n) = .d (.int k n) := rfl
theorem e_ov2 (b : Bool) : ofVal (.bool b) = .d (.bool b) := rfl
theorem e_ov3 : ofVal (.slice none 0 0) = .nil := rfl
theorem e_ov4 (s : ByteArray) : ofVal (.string s) = .d (.str s) := rfl
theorem e_ev1 (f : Nat → AV) (t : Nat) : aeval N f (.tmp t) = if t < N then f t else .one .any := rfl
theorem e_ev2 (f : Nat → AV) (v : Value) : aeval N f (.const v) = .one (ofVal v) := rfl
theorem e_fg0 (t : Nat) : fget [] t = .one .any := rfl
theorem e_fg1 (k t : Nat) (v : AV) (r : LF) : fget ((k, v) :: r) t = if t = k then v else fget r t := rfl
theorem e_mg0 (t : Nm) : mget [] t = none := rfl
theorem e_mg1 (k t : Nm) (v : Option AObj) (r : LM) : mget ((k, v) :: r) t = if t = k then v else mget r t := rfl
theorem e_nm (a b c d : Nat) : ((a, b) = (c, d)) = (a = c ∧ b = d) := by simp
theorem e_fa1 (d : Nat) (v : AV) : fadd F (some d) v = (d, v) :: F := rfl
theorem e_fa0 (v : AV) : fadd F none v = F := rfl
theorem e_ma0 : madd M [] = M := rfl
theorem e_ma1 (p : Upd) (r : List Upd) : madd M (p :: r) = madd (p :: M) r := rfl
theorem e_ui0 : uIds [] = [] := rfl
theorem e_ui1 (i : Nm) (r : List Upd) : uIds ((i, none) :: r) = i.1 :: uIds r := rfl
theorem e_ui2 (i : Nm) (o : AObj) (r : List Upd) : uIds ((i, some o) :: r) = i.1 :: (o.ids.map (·.1) ++ uIds r) := rfl
theorem e_ucl (i : Nm) (o : Option AObj) : ucl (i, o) = i.1 := rfl
theorem e_okV (v : AV) (U : List Upd) : okV nx v U = (v.ids.map (·.1) ++ uIds U).all fun id => Nat.blt id (nx + 1) := rfl
theorem e_okN : okN nx F M = (Nat.blt 0 nx && F.all (fun p => (p.2.ids.map (·.1)).all fun id => Nat.blt id nx) && (uIds M).all fun id => Nat.blt id nx) := rfl
theorem e_ar0 : arun P Z N [] [] nx F M = some (F, M) := rfl
theorem e_ar1 (g : Gd) (gs : List Gd) (o : Oper) (l : List Oper) : arun P Z N (g :: gs) (o :: l) nx F M = match gstep P Z (aeval N (fget F)) (mget M) nx g o with
    | some (v, U) => if okV nx v U = true then arun P Z N gs l (nx + 1) (fadd F o.dst v) (madd M U) else none
    | none => none := rfl
theorem e_dr0 (T : List T3) : drun P Z N [] [] nx F M T = some (F, M, T) := rfl
theorem e_dr1 (g : Gd) (gs : List Gd) (o : Oper) (l : List Oper) (T : List T3) : drun P Z N (g :: gs) (o :: l) nx F M T = match gstep P Z (aeval N (fget F)) (mget M) nx g o with
    | some (v, U) => if okV nx v U = true then drun P Z N gs l (nx + 1) (fadd F o.dst v) (madd M U) (((opN (mget M) (aeval N (fget F)) o).map (·.1), U.map ucl, v.ids.map (·.1) ++ uIds U) :: T) else none
    | none => none := rfl
theorem e_g0 (o : Oper) : gstep P Z ev m fr none o = astep P Z ev m fr o := rfl
theorem e_g1 (d : Nat) (w : Bool) (o : Oper) : gstep P Z ev m fr (some (some d, w)) o = match ev (.tmp d) with
    | .one (.d (.bool b)) => if b = w then astep P Z ev m fr o else some (.tup [], [])
    | .tup [] => some (.tup [], [])
    | _ => none := rfl
theorem e_ok (ks : List Nat) (ms : List Nm) : okeep ks ms (some (F, M)) = some (fkeep F ks, mkeep M ms) := rfl
theorem e_dk (ks : List Nat) (ms : List Nm) (T : List T3) : dkeep ks ms (some (F, M, T)) = some (fkeep F ks, mkeep M ms, T) := rfl
theorem e_fk (ks : List Nat) : fkeep F ks = ks.map fun t => (t, fget F t) := rfl
theorem e_mk (ks : List Nm) : mkeep M ks = ks.map fun t => (t, mget M t) := rfl
theorem e_frz1 (k : Nat) (c : C) : frz m k (.d c) = some c := by cases k <;> rfl
theorem e_frz2 (k : Nat) : frz m k .nil = some (.sl []) := by cases k <;> rfl
theorem e_frz3 (k : Nat) (i : Nm) (n : Nat) : frz m (k + 1) (.own i n) = match rowsOf m (.own i n) with
    | some l => (mapO (mapO (trOr (frz m k))) l).map C.sl
    | none => none := rfl
theorem e_frz4 (k : Nat) (i : Nm) (s o n : Nat) : frz m (k + 1) (.sub i s o n) = match rowsOf m (.sub i s o n) with
    | some l => (mapO (mapO (trOr (frz m k))) l).map C.sl
    | none => none := rfl
theorem e_frz5 (k : Nat) (i : Nm) (o : Nat) : frz m (k + 1) (.ptr i o) = match m i with
    | some (.box _ l) => (mapO (frz m k) (l.drop o)).map C.rop
    | _ => none := rfl
theorem e_frz6 (k : Nat) (g : FuncId) (l : List (Nm × Nat)) : frz m (k + 1) (.fnp g l) = (mapO (fun p : Nm × Nat => match m p.1 with
      | some (.box _ l) => (mapO (frz m k) (l.drop p.2)).map C.rop
      | _ => none) l).map (C.fn g []) := rfl
theorem e_ro1 (i : Nm) (n : Nat) : rowsOf m (.own i n) = match m i with
    | some (.row _ _ l) => if l.length = n then some l else if n ≤ l.length then some (l.take n) else none
    | _ => none := rfl
theorem e_ro2 (i : Nm) (s o n : Nat) : rowsOf m (.sub i s o n) = match m i with
    | some (.row _ sz l) => if s = sz ∧ o + n ≤ l.length then some ((l.drop o).take n) else none
    | _ => none := rfl
theorem e_ro3 : rowsOf m .nil = some [] := rfl
theorem e_tro1 (g : Cell → Option C) (T : TD) (c : C) : trOr g (.tr T c) = some c := rfl
theorem e_tro2 (g : Cell → Option C) (c : C) : trOr g (.d c) = g (.d c) := rfl
theorem e_tro3 (g : Cell → Option C) (i : Nm) (n : Nat) : trOr g (.own i n) = g (.own i n) := rfl
theorem e_tro4 (g : Cell → Option C) : trOr g .nil = g .nil := rfl
theorem e_tro5 (g : Cell → Option C) (i : Nm) (s o n : Nat) : trOr g (.sub i s o n) = g (.sub i s o n) := rfl
theorem e_rea1 (k : Nat) (c : C) : reach m k (.d c) = [] := by cases k <;> rfl
theorem e_rea2 (k : Nat) : reach m k .nil = [] := by cases k <;> rfl
theorem e_rea3 (k : Nat) : reach m k .any = [] := by cases k <;> rfl
theorem e_rea4 (k : Nat) (e : Bool) (n : Nat) : reach m k (.bb e n) = [] := by cases k <;> rfl
theorem e_rea5 (k : Nat) (T : TD) (c : C) : reach m k (.tr T c) = [] := by cases k <;> rfl
theorem e_rea6 (k : Nat) (i : Nm) (n : Nat) : reach m (k + 1) (.own i n) = i :: (match m i with
      | some (.row _ _ l) => l.flatMap fun r => r.flatMap (reach m k)
      | some (.box _ l) => l.flatMap (reach m k)
      | _ => []) := by simp [reach, Cell.ids]; rfl
theorem e_rea7 (k : Nat) (i : Nm) (s o n : Nat) : reach m (k + 1) (.sub i s o n) = i :: (match m i with
      | some (.row _ _ l) => l.flatMap fun r => r.flatMap (reach m k)
      | some (.box _ l) => l.flatMap (reach m k)
      | _ => []) := by simp [reach, Cell.ids]; rfl
theorem e_rea8 (k : Nat) (i : Nm) (o : Nat) : reach m (k + 1) (.ptr i o) = i :: (match m i with
      | some (.row _ _ l) => l.flatMap fun r => r.flatMap (reach m k)
      | some (.box _ l) => l.flatMap (reach m k)
      | _ => []) := by simp [reach, Cell.ids]; rfl
theorem e_rea9 (k : Nat) (i : Nm) (s a b : Nat) : reach m (k + 1) (.eptr i s a b) = i :: (match m i with
      | some (.row _ _ l) => l.flatMap fun r => r.flatMap (reach m k)
      | some (.box _ l) => l.flatMap (reach m k)
      | _ => []) := by simp [reach, Cell.ids]; rfl
theorem e_rea10 (k : Nat) (i : Nm)  : reach m (k + 1) (.mp i) = i :: (match m i with
      | some (.row _ _ l) => l.flatMap fun r => r.flatMap (reach m k)
      | some (.box _ l) => l.flatMap (reach m k)
      | _ => []) := by simp [reach, Cell.ids]; rfl
theorem e_rea11 (k : Nat) (g : FuncId) (l : List (Nm × Nat)) : reach m (k + 1) (.fnp g l) = l.map (·.1) ++ (l.map (·.1)).flatMap fun i => match m i with
      | some (.row _ _ l) => l.flatMap fun r => r.flatMap (reach m k)
      | some (.box _ l) => l.flatMap (reach m k)
      | _ => [] := rfl
theorem e_rav1 (c : Cell) : reachAV m (.one c) = reach m 5 c := rfl
theorem e_rav2 (l : List Cell) : reachAV m (.agg l) = l.flatMap (reach m 5) := rfl
theorem e_rav3 (l : List (List Cell ⊕ Cell)) : reachAV m (.tup l) = [] := rfl
theorem e_mo0 {α β : Type} (g : α → Option β) : mapO g [] = some [] := rfl
theorem e_mo1 {α β : Type} (g : α → Option β) (x : α) (xs : List α) : mapO g (x :: xs) = match g x, mapO g xs with
    | some y, some ys => some (y :: ys)
    | _, _ => none := rfl
theorem e_ch0 (sz : Nat) (l : List Cell) : chunk sz 0 l = [] := rfl
theorem e_ch1 (sz n : Nat) (l : List Cell) : chunk sz (n + 1) l = l.take sz :: chunk sz n (l.drop sz) := rfl
theorem e_fa (c : Cell) : frzAV m (.one c) = (frz m 5 c).map fun d => .one (.d d) := rfl
theorem e_fb (l : List Cell) : frzAV m (.agg l) = (mapO (frz m 5) l).map fun ds => .agg (ds.map .d) := rfl
theorem e_fas0 : frzAVs m [] = some [] := rfl
theorem e_fas1 (x : AV) (xs : List AV) : frzAVs m (x :: xs) = match frzAV m x, frzAVs m xs with
    | some y, some ys => some (y :: ys)
    | _, _ => none := rfl
theorem e_cc0 (k : IntKind) (n : Int) : cleanC (.d (.int k n)) = true := rfl
theorem e_cc1 (b : Bool) : cleanC (.d (.bool b)) = true := rfl
theorem e_cc2 (b : ByteArray) : cleanC (.d (.str b)) = true := rfl
theorem e_cc3 (l : List (List C)) : cleanC (.d (.sl l)) = false := rfl
theorem e_cc4 (l : List C) : cleanC (.d (.rop l)) = false := rfl
theorem e_cc5 (g : FuncId) (f : List (List C ⊕ C)) (l : List C) : cleanC (.d (.fn g f l)) = false := rfl
theorem e_cc6 (i : Nm) (n : Nat) : cleanC (.own i n) = true := rfl
theorem e_cc7 (i : Nm) (n : Nat) : cleanC (.ptr i n) = true := rfl
theorem e_cc8 (T : TD) (c : C) : cleanC (.tr T c) = true := rfl
theorem e_cc9  : cleanC (.nil) = true := rfl
theorem e_cc10  : cleanC (.any) = true := rfl
theorem e_cla (c : Cell) : (AV.one c).clean = cleanC c := rfl
theorem e_clb (l : List Cell) : (AV.agg l).clean = l.all cleanC := rfl
theorem e_clc (l : List (List Cell ⊕ Cell)) : (AV.tup l).clean = l.all cleanS := rfl
theorem e_cls1 (l : List Cell) : cleanS (.inl l) = l.all cleanC := rfl
theorem e_cls2 (c : Cell) : cleanS (.inr c) = cleanC c := rfl
theorem e_clo1 (t : Nat) (l : List Cell) : (AObj.box t l).clean = l.all cleanC := rfl
theorem e_clo2 (t s : Nat) (l : List (List Cell)) : (AObj.row t s l).clean = l.all fun r => r.all cleanC := rfl
theorem e_af0 (pl : Nat → Option (Nat × Nat)) (l : List Cell) : afill pl l [] = some l := rfl
theorem e_af1 (pl : Nat → Option (Nat × Nat)) (l : List Cell) (i : Nat) (x : AV) (rest : List (Nat × AV)) : afill pl l ((i, x) :: rest) = match pl i with
    | none => none
    | some (off, size) => if x.okCells = true ∧ x.cells.length = size ∧ off + size ≤ l.length then afill pl (lay l off x.cells) rest else none := rfl
theorem e_zr0 {α : Type} (z : List α) : zrep 0 z = [] := rfl
theorem e_zr1 {α : Type} (n : Nat) (z : List α) : zrep (n + 1) z = z ++ zrep n z := rfl
theorem e_argF0 (i : Nat) : argF i [] = [] := rfl
theorem e_argF1 (i : Nat) (x : AV) (xs : List AV) : argF i (x :: xs) = (i, x) :: argF (i + 1) xs := rfl
theorem e_kl1 (i : Nm) (r : List Nm) : killOf (i :: r) = [(i, none)] := rfl
theorem e_kl0 : killOf [] = [] := rfl
theorem e_r1 (t : Nat) : aRes P N F M (.tmp t) = if t < N then some (fget F t) else none := rfl
theorem e_r2 (t ty : Nat) : aRes P N F M (.cell t ty) = (stLoad P (mget M) ty (aeval N (fget F) (.tmp t))).map (·.1) := rfl
theorem e_an1 (x : AV) : ansOf [x] = some x := rfl
theorem e_an0 : ansOf [] = some (.tup []) := rfl
theorem e_an2 (x y : AV) (l : List AV) : ansOf (x :: y :: l) = (allS (x :: y :: l)).map .tup := rfl
theorem e_al0 : allS [] = some [] := rfl
theorem e_al1 (x : AV) (xs : List AV) : allS (x :: xs) = match toS x, allS xs with
    | some y, some ys => some (y :: ys)
    | _, _ => none := rfl
theorem e_ts1 (c : Cell) : toS (.one c) = some (.inr c) := rfl
theorem e_ts2 (l : List Cell) : toS (.agg l) = some (.inl l) := rfl
theorem e_app_ids (l l' : List (List Cell)) : (l ++ l').flatMap (fun r => r.flatMap Cell.ids) = l.flatMap (fun r => r.flatMap Cell.ids) ++ l'.flatMap (fun r => r.flatMap Cell.ids) := List.flatMap_append
theorem e_app_rea (k : Nat) (l l' : List (List Cell)) : (l ++ l').flatMap (fun r => r.flatMap (reach m k)) = l.flatMap (fun r => r.flatMap (reach m k)) ++ l'.flatMap (fun r => r.flatMap (reach m k)) := List.flatMap_append
theorem e_mo_app {α β : Type} (g : α → Option β) (xs ys : List α) : mapO g (xs ++ ys) = match mapO g xs, mapO g ys with
    | some a, some b => some (a ++ b)
    | _, _ => none := mapO_app g xs ys
theorem e_rep_mo {α β : Type} (g : α → Option β) (x : α) (n : Nat) : mapO g (List.replicate n x) = match g x with
    | some y => some (List.replicate n y)
    | none => if n = 0 then some [] else none := mapO_rep g x n
theorem e_dat1 (l : List (List C)) : (dat l).flatMap (fun r => r.flatMap Cell.ids) = [] := dat_ids _
theorem e_dat2 (k : Nat) (l : List (List C)) : (dat l).flatMap (fun r => r.flatMap (reach m k)) = [] := rows_reach (dat l) k (by first | exact .inl (dat_cell _) | exact .inr (opn_cell _ _))
theorem e_dat3 (k : Nat) (l : List (List C)) : mapO (mapO (trOr (frz m k))) (dat l) = some l := dat_mo k l
theorem e_dat4 (l : List (List C)) : (dat l).length = l.length := by simp [dat, openRows]
theorem e_opn1 (cols : Nat → TD) (l : List (List C)) : (openRows cols l).flatMap (fun r => r.flatMap Cell.ids) = [] := openRows_ids _ _
theorem e_opn2 (k : Nat) (cols : Nat → TD) (l : List (List C)) : (openRows cols l).flatMap (fun r => r.flatMap (reach m k)) = [] := rows_reach (openRows cols l) k (by first | exact .inl (dat_cell _) | exact .inr (opn_cell _ _))
theorem e_opn3 (k : Nat) (cols : Nat → TD) (l : List (List C)) : mapO (mapO (trOr (frz m k))) (openRows cols l) = some l := opn_mo k cols l
theorem e_opn4 (cols : Nat → TD) (l : List (List C)) : (openRows cols l).length = l.length := by simp [dat, openRows]
theorem e_dat5 (l : List (List C)) (i : Nat) : (dat l)[i]? = (l[i]?).map fun r => r.map Cell.d := by simp [dat]
theorem e_dat6 (l : List (List C)) : ((dat l).all fun r => r.all Cell.ntr) = true := dat_ntr l
theorem e_dat7 (l l' : List (List C)) : dat (l ++ l') = dat l ++ dat l' := by simp [dat]
theorem e_dat8 (r : List C) (l : List (List C)) : dat (r :: l) = r.map Cell.d :: dat l := rfl
theorem e_dat9 : dat [] = [] := rfl
theorem e_dat10 (n : Nat) (r : List C) : dat (List.replicate n r) = List.replicate n (r.map Cell.d) := by simp [dat]
theorem e_dat11_1 (l : List (List C)) (i : Nat) (c0 : C) : (dat l).set i [.d c0] = dat (l.set i [c0]) := by simp [dat, List.map_set]
theorem e_dat11_2 (l : List (List C)) (i : Nat) (c0 c1 : C) : (dat l).set i [.d c0, .d c1] = dat (l.set i [c0, c1]) := by simp [dat, List.map_set]
theorem e_dat11_3 (l : List (List C)) (i : Nat) (c0 c1 c2 : C) : (dat l).set i [.d c0, .d c1, .d c2] = dat (l.set i [c0, c1, c2]) := by simp [dat, List.map_set]
theorem e_dat11_4 (l : List (List C)) (i : Nat) (c0 c1 c2 c3 : C) : (dat l).set i [.d c0, .d c1, .d c2, .d c3] = dat (l.set i [c0, c1, c2, c3]) := by simp [dat, List.map_set]
theorem e_dat11_5 (l : List (List C)) (i : Nat) (c0 c1 c2 c3 c4 : C) : (dat l).set i [.d c0, .d c1, .d c2, .d c3, .d c4] = dat (l.set i [c0, c1, c2, c3, c4]) := by simp [dat, List.map_set]
theorem e_dat11_6 (l : List (List C)) (i : Nat) (c0 c1 c2 c3 c4 c5 : C) : (dat l).set i [.d c0, .d c1, .d c2, .d c3, .d c4, .d c5] = dat (l.set i [c0, c1, c2, c3, c4, c5]) := by simp [dat, List.map_set]
theorem e_dat11_7 (l : List (List C)) (i : Nat) (c0 c1 c2 c3 c4 c5 c6 : C) : (dat l).set i [.d c0, .d c1, .d c2, .d c3, .d c4, .d c5, .d c6] = dat (l.set i [c0, c1, c2, c3, c4, c5, c6]) := by simp [dat, List.map_set]
theorem e_dat11_8 (l : List (List C)) (i : Nat) (c0 c1 c2 c3 c4 c5 c6 c7 : C) : (dat l).set i [.d c0, .d c1, .d c2, .d c3, .d c4, .d c5, .d c6, .d c7] = dat (l.set i [c0, c1, c2, c3, c4, c5, c6, c7]) := by simp [dat, List.map_set]
theorem e_dat12 (l : List (List C)) (n : Nat) : (dat l).take n = dat (l.take n) := by simp [dat, List.map_take]
theorem e_opn12 (cols : Nat → TD) (l : List (List C)) (n : Nat) : (openRows cols l).take n = openRows cols (l.take n) := by simp [openRows, List.map_take]
theorem e_opn13 (cols : Nat → TD) (l : List (List C)) (n : Nat) : (openRows cols l).drop n = openRows cols (l.drop n) := by simp [openRows, List.map_drop]
theorem e_dat13 (l : List (List C)) (n : Nat) : (dat l).drop n = dat (l.drop n) := by simp [dat, List.map_drop]
theorem e_dat14 (p : List Cell → Prop) (l : List (List C)) : (∀ r ∈ dat l, p r) ↔ ∀ r ∈ l, p (r.map Cell.d) := by simp [dat]
theorem e_dat15 (l : List (List C)) (q : List Cell → Bool) : (dat l).all q = l.all fun r => q (r.map Cell.d) := by simp [dat, Function.comp_def]
theorem e_dat16 (l : List (List C)) : (l.map fun r => r.map Cell.d) = dat l := rfl
theorem e_opn5 (cols : Nat → TD) (l : List (List C)) (i : Nat) : (openRows cols l)[i]? = (l[i]?).map (cellsOf cols 0) := by simp [openRows]
theorem e_opn7 (cols : Nat → TD) (l l' : List (List C)) : openRows cols (l ++ l') = openRows cols l ++ openRows cols l' := by simp [openRows]
theorem e_opn8 (cols : Nat → TD) (r : List C) (l : List (List C)) : openRows cols (r :: l) = cellsOf cols 0 r :: openRows cols l := rfl
theorem e_opn9 (cols : Nat → TD) : openRows cols [] = [] := rfl
theorem e_opn10 (cols : Nat → TD) (n : Nat) (r : List C) : openRows cols (List.replicate n r) = List.replicate n (cellsOf cols 0 r) := by simp [openRows]
theorem e_opn14 (cols : Nat → TD) (p : List Cell → Prop) (l : List (List C)) : (∀ r ∈ openRows cols l, p r) ↔ ∀ r ∈ l, p (cellsOf cols 0 r) := by simp [openRows]
theorem e_opn15 (cols : Nat → TD) (l : List (List C)) (q : List Cell → Bool) : (openRows cols l).all q = l.all fun r => q (cellsOf cols 0 r) := by simp [openRows, Function.comp_def]
theorem e_co0 (cols : Nat → TD) (j : Nat) : cellsOf cols j [] = [] := rfl
theorem e_co1 (cols : Nat → TD) (j : Nat) (c : C) (r : List C) : cellsOf cols j (c :: r) = cellOf (cols j) c :: cellsOf cols (j + 1) r := rfl
theorem e_ce0 (c : C) : cellOf .sc c = .d c := rfl
theorem e_ce1 (e s : Nat) (k : Nat → TD) (c : C) : cellOf (.sl e s k) c = .tr (.sl e s k) c := rfl
theorem e_pk0 (g : FuncId) (xs : List AV) : pick m fr g xs ([] : List (Fact P)) = none := rfl
theorem e_mem0 (i : Nm) : memN i [] = false := rfl
theorem e_mem1 (i k : Nm) (r : List Nm) : memN i (k :: r) = if i = k then true else memN i r := rfl
open Classical in
theorem e_pk1 (z : Fact P) (Z : List (Fact P)) (g : FuncId) (xs : List AV) : pick m fr g xs (z :: Z) = if z.g = g ∧ z.fits m fr xs then some z else pick m fr g xs Z := rfl
end
/-- All of them, as one. -/
theorem EV : type_of% (And.intro @e_ids1 (And.intro @e_ids2 (And.intro @e_ids3 (And.intro @e_sum1 (And.intro @e_sum2 (And.intro @e_cid1 (And.intro @e_cid2 (And.intro @e_cid3 (And.intro @e_cid4 (And.intro @e_cid5 (And.intro @e_cid6 (And.intro @e_cid7 (And.intro @e_cid8 (And.intro @e_cid9 (And.intro @e_cid10 (And.intro @e_cid11 (And.intro @e_oid1 (And.intro @e_oid2 (And.intro @e_cells1 (And.intro @e_cells2 (And.intro @e_okc1 (And.intro @e_okc2 (And.intro @e_kn0 (And.intro @e_nt0 (And.intro @e_kn1 (And.intro @e_nt1 (And.intro @e_kn2 (And.intro @e_nt2 (And.intro @e_kn3 (And.intro @e_nt3 (And.intro @e_kn4 (And.intro @e_nt4 (And.intro @e_kn5 (And.intro @e_nt5 (And.intro @e_kn6 (And.intro @e_nt6 (And.intro @e_kn7 (And.intro @e_nt7 (And.intro @e_kn8 (And.intro @e_nt8 (And.intro @e_nt20 (And.intro @e_ov1 (And.intro @e_ov2 (And.intro @e_ov3 (And.intro @e_ov4 (And.intro @e_ev1 (And.intro @e_ev2 (And.intro @e_fg0 (And.intro @e_fg1 (And.intro @e_mg0 (And.intro @e_mg1 (And.intro @e_nm (And.intro @e_fa1 (And.intro @e_fa0 (And.intro @e_ma0 (And.intro @e_ma1 (And.intro @e_ui0 (And.intro @e_ui1 (And.intro @e_ui2 (And.intro @e_ucl (And.intro @e_okV (And.intro @e_okN (And.intro @e_ar0 (And.intro @e_ar1 (And.intro @e_dr0 (And.intro @e_dr1 (And.intro @e_g0 (And.intro @e_g1 (And.intro @e_ok (And.intro @e_dk (And.intro @e_fk (And.intro @e_mk (And.intro @e_frz1 (And.intro @e_frz2 (And.intro @e_frz3 (And.intro @e_frz4 (And.intro @e_frz5 (And.intro @e_frz6 (And.intro @e_ro1 (And.intro @e_ro2 (And.intro @e_ro3 (And.intro @e_tro1 (And.intro @e_tro2 (And.intro @e_tro3 (And.intro @e_tro4 (And.intro @e_tro5 (And.intro @e_rea1 (And.intro @e_rea2 (And.intro @e_rea3 (And.intro @e_rea4 (And.intro @e_rea5 (And.intro @e_rea6 (And.intro @e_rea7 (And.intro @e_rea8 (And.intro @e_rea9 (And.intro @e_rea10 (And.intro @e_rea11 (And.intro @e_rav1 (And.intro @e_rav2 (And.intro @e_rav3 (And.intro @e_mo0 (And.intro @e_mo1 (And.intro @e_ch0 (And.intro @e_ch1 (And.intro @e_fa (And.intro @e_fb (And.intro @e_fas0 (And.intro @e_fas1 (And.intro @e_cc0 (And.intro @e_cc1 (And.intro @e_cc2 (And.intro @e_cc3 (And.intro @e_cc4 (And.intro @e_cc5 (And.intro @e_cc6 (And.intro @e_cc7 (And.intro @e_cc8 (And.intro @e_cc9 (And.intro @e_cc10 (And.intro @e_cla (And.intro @e_clb (And.intro @e_clc (And.intro @e_cls1 (And.intro @e_cls2 (And.intro @e_clo1 (And.intro @e_clo2 (And.intro @e_af0 (And.intro @e_af1 (And.intro @e_zr0 (And.intro @e_zr1 (And.intro @e_argF0 (And.intro @e_argF1 (And.intro @e_kl1 (And.intro @e_kl0 (And.intro @e_r1 (And.intro @e_r2 (And.intro @e_an1 (And.intro @e_an0 (And.intro @e_an2 (And.intro @e_al0 (And.intro @e_al1 (And.intro @e_ts1 (And.intro @e_ts2 (And.intro @e_app_ids (And.intro @e_app_rea (And.intro @e_mo_app (And.intro @e_rep_mo (And.intro @e_dat1 (And.intro @e_dat2 (And.intro @e_dat3 (And.intro @e_dat4 (And.intro @e_opn1 (And.intro @e_opn2 (And.intro @e_opn3 (And.intro @e_opn4 (And.intro @e_dat5 (And.intro @e_dat6 (And.intro @e_dat7 (And.intro @e_dat8 (And.intro @e_dat9 (And.intro @e_dat10 (And.intro @e_dat11_1 (And.intro @e_dat11_2 (And.intro @e_dat11_3 (And.intro @e_dat11_4 (And.intro @e_dat11_5 (And.intro @e_dat11_6 (And.intro @e_dat11_7 (And.intro @e_dat11_8 (And.intro @e_dat12 (And.intro @e_opn12 (And.intro @e_opn13 (And.intro @e_dat13 (And.intro @e_dat14 (And.intro @e_dat15 (And.intro @e_dat16 (And.intro @e_opn5 (And.intro @e_opn7 (And.intro @e_opn8 (And.intro @e_opn9 (And.intro @e_opn10 (And.intro @e_opn14 (And.intro @e_opn15 (And.intro @e_co0 (And.intro @e_co1 (And.intro @e_ce0 (And.intro @e_ce1 (And.intro @e_pk0 (And.intro @e_mem0 (And.intro @e_mem1 (@e_pk1))))))))))))))))))))))))))))))))))))))))))))))))))))))))))))))))))))))))))))))))))))))))))))))))))))))))))))))))))))))))))))))))))))))))))))))))))))))))))))))))))))))))))))))))))))))))))))))) := (And.intro @e_ids1 (And.intro @e_ids2 (And.intro @e_ids3 (And.intro @e_sum1 (And.intro @e_sum2 (And.intro @e_cid1 (And.intro @e_cid2 (And.intro @e_cid3 (And.intro @e_cid4 (And.intro @e_cid5 (And.intro @e_cid6 (And.intro @e_cid7 (And.intro @e_cid8 (And.intro @e_cid9 (And.intro @e_cid10 (And.intro @e_cid11 (And.intro @e_oid1 (And.intro @e_oid2 (And.intro @e_cells1 (And.intro @e_cells2 (And.intro @e_okc1 (And.intro @e_okc2 (And.intro @e_kn0 (And.intro @e_nt0 (And.intro @e_kn1 (And.intro @e_nt1 (And.intro @e_kn2 (And.intro @e_nt2 (And.intro @e_kn3 (And.intro @e_nt3 (And.intro @e_kn4 (And.intro @e_nt4 (And.intro @e_kn5 (And.intro @e_nt5 (And.intro @e_kn6 (And.intro @e_nt6 (And.intro @e_kn7 (And.intro @e_nt7 (And.intro @e_kn8 (And.intro @e_nt8 (And.intro @e_nt20 (And.intro @e_ov1 (And.intro @e_ov2 (And.intro @e_ov3 (And.intro @e_ov4 (And.intro @e_ev1 (And.intro @e_ev2 (And.intro @e_fg0 (And.intro @e_fg1 (And.intro @e_mg0 (And.intro @e_mg1 (And.intro @e_nm (And.intro @e_fa1 (And.intro @e_fa0 (And.intro @e_ma0 (And.intro @e_ma1 (And.intro @e_ui0 (And.intro @e_ui1 (And.intro @e_ui2 (And.intro @e_ucl (And.intro @e_okV (And.intro @e_okN (And.intro @e_ar0 (And.intro @e_ar1 (And.intro @e_dr0 (And.intro @e_dr1 (And.intro @e_g0 (And.intro @e_g1 (And.intro @e_ok (And.intro @e_dk (And.intro @e_fk (And.intro @e_mk (And.intro @e_frz1 (And.intro @e_frz2 (And.intro @e_frz3 (And.intro @e_frz4 (And.intro @e_frz5 (And.intro @e_frz6 (And.intro @e_ro1 (And.intro @e_ro2 (And.intro @e_ro3 (And.intro @e_tro1 (And.intro @e_tro2 (And.intro @e_tro3 (And.intro @e_tro4 (And.intro @e_tro5 (And.intro @e_rea1 (And.intro @e_rea2 (And.intro @e_rea3 (And.intro @e_rea4 (And.intro @e_rea5 (And.intro @e_rea6 (And.intro @e_rea7 (And.intro @e_rea8 (And.intro @e_rea9 (And.intro @e_rea10 (And.intro @e_rea11 (And.intro @e_rav1 (And.intro @e_rav2 (And.intro @e_rav3 (And.intro @e_mo0 (And.intro @e_mo1 (And.intro @e_ch0 (And.intro @e_ch1 (And.intro @e_fa (And.intro @e_fb (And.intro @e_fas0 (And.intro @e_fas1 (And.intro @e_cc0 (And.intro @e_cc1 (And.intro @e_cc2 (And.intro @e_cc3 (And.intro @e_cc4 (And.intro @e_cc5 (And.intro @e_cc6 (And.intro @e_cc7 (And.intro @e_cc8 (And.intro @e_cc9 (And.intro @e_cc10 (And.intro @e_cla (And.intro @e_clb (And.intro @e_clc (And.intro @e_cls1 (And.intro @e_cls2 (And.intro @e_clo1 (And.intro @e_clo2 (And.intro @e_af0 (And.intro @e_af1 (And.intro @e_zr0 (And.intro @e_zr1 (And.intro @e_argF0 (And.intro @e_argF1 (And.intro @e_kl1 (And.intro @e_kl0 (And.intro @e_r1 (And.intro @e_r2 (And.intro @e_an1 (And.intro @e_an0 (And.intro @e_an2 (And.intro @e_al0 (And.intro @e_al1 (And.intro @e_ts1 (And.intro @e_ts2 (And.intro @e_app_ids (And.intro @e_app_rea (And.intro @e_mo_app (And.intro @e_rep_mo (And.intro @e_dat1 (And.intro @e_dat2 (And.intro @e_dat3 (And.intro @e_dat4 (And.intro @e_opn1 (And.intro @e_opn2 (And.intro @e_opn3 (And.intro @e_opn4 (And.intro @e_dat5 (And.intro @e_dat6 (And.intro @e_dat7 (And.intro @e_dat8 (And.intro @e_dat9 (And.intro @e_dat10 (And.intro @e_dat11_1 (And.intro @e_dat11_2 (And.intro @e_dat11_3 (And.intro @e_dat11_4 (And.intro @e_dat11_5 (And.intro @e_dat11_6 (And.intro @e_dat11_7 (And.intro @e_dat11_8 (And.intro @e_dat12 (And.intro @e_opn12 (And.intro @e_opn13 (And.intro @e_dat13 (And.intro @e_dat14 (And.intro @e_dat15 (And.intro @e_dat16 (And.intro @e_opn5 (And.intro @e_opn7 (And.intro @e_opn8 (And.intro @e_opn9 (And.intro @e_opn10 (And.intro @e_opn14 (And.intro @e_opn15 (And.intro @e_co0 (And.intro @e_co1 (And.intro @e_ce0 (And.intro @e_ce1 (And.intro @e_pk0 (And.intro @e_mem0 (And.intro @e_mem1 (@e_pk1)))))))))))))))))))))))))))))))))))))))))))))))))))))))))))))))))))))))))))))))))))))))))))))))))))))))))))))))))))))))))))))))))))))))))))))))))))))))))))))))))))))))))))))))))))))))))))))))

/-- Facts on calls. -/
def factD {P : Program} {g : FuncId} {args : List AV} {ans : AV} (h : CallH P g args [] ans []) : Fact P := ⟨g, false, args, [], ans, [], h, fun _ => rfl, none⟩
/-- A fact for one step alone. -/
def factE {P : Program} {g : FuncId} {args : List AV} {ans : AV} (k : Nat) (h : CallH P g args [] ans []) : Fact P := ⟨g, false, args, [], ans, [], h, fun _ => rfl, some k⟩
def factO {P : Program} {g : FuncId} {args : List AV} {ans : AV} {M1 : LM} (h : CallH P g args [] ans M1) : Fact P := ⟨g, false, args, [], ans, M1, h, fun _ => rfl, none⟩
def factR {P : Program} {g : FuncId} {args : List AV} {ans : AV} {M0 M1 : LM} (h : CallH P g args M0 ans M1) : Fact P := ⟨g, true, args, M0, ans, M1, h, fun h => (by cases h), none⟩
section
variable {P : Program} {g : FuncId} {args : List AV} {ans : AV} {M0 M1 : LM} {m : Nm → Option AObj} {fr : Nat} {xs : List AV}
theorem fD_g (h : CallH P g args [] ans []) : (factD h).g = g := rfl
theorem fD_a (h : CallH P g args [] ans []) : (factD h).ans = ans := rfl
theorem fD_m (h : CallH P g args [] ans []) : (factD h).M1 = [] := rfl
theorem fD_f (h : CallH P g args [] ans []) : (factD h).fits m fr xs = (frzAVs m xs = some args) := by
  simp [Fact.fits, factD]
theorem fD_k (h : CallH P g args [] ans []) : (factD h).ks m xs = if ans.clean = true then [] else xs.flatMap (reachAV m) := by
  simp [Fact.ks, factD, Fact.clean]
theorem fE_g (k : Nat) (h : CallH P g args [] ans []) : (factE k h).g = g := rfl
theorem fE_a (k : Nat) (h : CallH P g args [] ans []) : (factE k h).ans = ans := rfl
theorem fE_m (k : Nat) (h : CallH P g args [] ans []) : (factE k h).M1 = [] := rfl
theorem fE_f (k : Nat) (h : CallH P g args [] ans []) : (factE k h).fits m fr xs = (k = fr ∧ frzAVs m xs = some args) := by
  simp [Fact.fits, factE]
theorem fE_k (k : Nat) (h : CallH P g args [] ans []) : (factE k h).ks m xs = if ans.clean = true then [] else xs.flatMap (reachAV m) := by
  simp [Fact.ks, factE, Fact.clean]
theorem fO_g (h : CallH P g args [] ans M1) : (factO h).g = g := rfl
theorem fO_a (h : CallH P g args [] ans M1) : (factO h).ans = ans := rfl
theorem fO_m (h : CallH P g args [] ans M1) : (factO h).M1 = M1 := rfl
theorem fO_f (h : CallH P g args [] ans M1) : (factO h).fits m fr xs = (frzAVs m xs = some args ∧ ∀ p ∈ M1, p.1.1 = fr) := by
  simp [Fact.fits, factO]
theorem fO_k (h : CallH P g args [] ans M1) : (factO h).ks m xs = if (ans.clean && M1.all fun u => match u.2 with | some o => o.clean | none => true) = true then [] else xs.flatMap (reachAV m) := by
  simp [Fact.ks, factO, Fact.clean]
  rfl
theorem fR_g (h : CallH P g args M0 ans M1) : (factR h).g = g := rfl
theorem fR_a (h : CallH P g args M0 ans M1) : (factR h).ans = ans := rfl
theorem fR_m (h : CallH P g args M0 ans M1) : (factR h).M1 = M1 := rfl
theorem fR_f (h : CallH P g args M0 ans M1) : (factR h).fits m fr xs = (args = xs ∧ (∀ p ∈ M0, p.2 ≠ none ∧ m p.1 = p.2 ∧ p.1 ∈ xs.flatMap (reachAV m)) ∧ (M0.map (·.1)).Nodup ∧ ∀ p ∈ M1, p.1.1 = fr ∨ p.1 ∈ M0.map (·.1)) := by
  simp [Fact.fits, factR]
theorem fR_k (h : CallH P g args M0 ans M1) : (factR h).ks m xs = M0.map (·.1) := by
  simp [Fact.ks, factR]
end
end Go.Proofs.Yteohodhcegbmmaa
