/- Own objects frozen to data; lengths; the rows that a slice shows. append: the law of the model, for a slice that lies anywhere; the step. append, as a step on own rows. Slice literals, make, parts of slices, copy, clear. No condition. -/
import Derived.Test.YtabbejabdkkaiaaKA
import Derived.Laws.Append
import Derived.Laws.Slices
import Derived.Lib.AppendZeros
set_option linter.unusedSimpArgs false
set_option linter.unusedVariables false
namespace Go.Proofs.Ytabbejabdkkaiaa
open Go.RowKit

section
variable {P : Program} {w0 : Bas} {N : Nat} {ρ : Place} {φ : Foot} {f : Nat → AV} {m : Nm → Option AObj} {a : Act} {w w' : World} {o : Oper}

def trOr (g : Cell → Option C) : Cell → Option C
 | .tr _ c => some c
 | c => g c
def rowsOf (m : Nm → Option AObj) : Cell → Option (List (List Cell))
 | .nil => some []
 | .own id n => match m id with
  | some (.row _ _ l) => if l.length = n then some l else if n ≤ l.length then some (l.take n) else none
  | _ => none
 | .sub id sz off n => match m id with
  | some (.row _ sz' l) => if sz = sz' ∧ off + n ≤ l.length then some ((l.drop off).take n) else none
  | _ => none
 | _ => none
def frz (m : Nm → Option AObj) : Nat → Cell → Option C
 | 0 => fun c => match c with
  | .d c => some c
  | .nil => some (.sl [])
  | _ => none
 | k + 1 => fun c => match c with
  | .d c => some c
  | .nil => some (.sl [])
  | .ptr id off => match m id with
   | some (.box _ l) => (mapO (frz m k) (l.drop off)).map C.rop
   | _ => none
  | .fnp g caps => (mapO (fun p : Nm × Nat => match m p.1 with
   | some (.box _ l) => (mapO (frz m k) (l.drop p.2)).map C.rop
   | _ => none) caps).map (C.fn g [])
  | .own id n => match rowsOf m (.own id n) with
   | some l => (mapO (mapO (trOr (frz m k))) l).map C.sl
   | none => none
  | .sub id sz off n => match rowsOf m (.sub id sz off n) with
   | some l => (mapO (mapO (trOr (frz m k))) l).map C.sl
   | none => none
  | _ => none
def reach (m : Nm → Option AObj) : Nat → Cell → List Nm
 | 0 => Cell.ids
 | k + 1 => fun c => c.ids ++ c.ids.flatMap fun id => match m id with
   | some (.row _ _ l) => l.flatMap fun r => r.flatMap (reach m k)
   | some (.box _ l) => l.flatMap (reach m k)
   | _ => []
theorem view_nil {S : Nat → Prop} {A : Option Addr} {c : Nat} : View S w (.sl []) (.slice A 0 c) := .sl [] 0 A c (fun _ _ => .bool true) (by simp) (Nat.zero_le _) (by simp) (by simp) (by simp)
theorem place_row (h : StR w0 N ρ φ f m a w) {id : Nm} {ty sz : Nat} {l : List (List Cell)} (hm : m id = some (.row ty sz l)) {b base cap : Nat} (hr : ρ id = some (b,base,cap)) : l.length ≤ 140737488355328 ∧ RowR ρ (Sof w0 φ m w) w (φ id) ty sz l b base cap := by
 have hrow := h.objs id _ hm
 rcases hrow.2 with ⟨hr',_⟩ | ⟨b',base',cp',hr',hrr⟩
 · rw [hr] at hr'; cases hr'
 rw [hr] at hr'
 injection hr' with hr'
 injection hr' with e1 e2
 injection e2 with e2 e3
 subst e1 e2 e3
 exact ⟨hrow.1,hrr⟩
theorem place_none (h : StR w0 N ρ φ f m a w) {id : Nm} {ty sz : Nat} {l : List (List Cell)} (hm : m id = some (.row ty sz l)) (hr : ρ id = none) : l = [] := by
 have hrow := h.objs id _ hm
 rcases hrow.2 with ⟨_,hl⟩ | ⟨b',base',cp',hr',_⟩
 · exact hl
 · rw [hr] at hr'; cases hr'
theorem RowR.at_ {S K : Nat → Prop} {ty sz b base cap : Nat} {l : List (List Cell)} (h : RowR ρ S w K ty sz l b base cap) (off : Nat) {n : Nat} (hn : off + n ≤ l.length) : ∃ (cur : Array Value) (G : Nat → Nat → Nat → Prop),K b ∧ w.heap[b]? = some (.cells cur ty (0,0)) ∧ off + n ≤ cap ∧ base + cap * sz ≤ cur.size ∧
  (∀ (i : Nat) (r : List Cell),((l.drop off).take n)[i]? = some r → r.length = sz ∧ ∀ (j : Nat) (d : Cell),r[j]? = some d → ∃ v,cur[base + off * sz + i * sz + j]? = some v ∧ RC ρ S w (G i j) d v) ∧ (∀ i j x,G i j x → K x ∧ x ≠ b) ∧ (∀ i j i' j' x,G i j x → G i' j' x → i = i' ∧ j = j') := by
 obtain ⟨cur,G,hfb,hh,hlc,hcs,hcell,hG,hd⟩ := h
 refine ⟨cur,fun i j => G (off + i) j,hfb,hh,by omega,hcs,fun i r hi => ?_,fun i j x hx => hG _ _ x hx,fun i j i' j' x hx hx' => ?_⟩
 ·
  rw [List.getElem?_take] at hi
  split at hi
  ·
   rw [List.getElem?_drop] at hi
   obtain ⟨h1,h2⟩ := hcell _ r hi
   refine ⟨h1,fun j d hj => ?_⟩
   obtain ⟨v,hv,hrc⟩ := h2 j d hj
   exact ⟨v,by rw [← hv,Nat.add_mul,Nat.add_assoc base],hrc⟩
  · cases hi
 ·
  have := hd _ _ _ _ x hx hx'
  omega
theorem rowsOf_ok (h : StR w0 N ρ φ f m a w) {c : Cell} {l : List (List Cell)} {v : Value} (hc : rowsOf m c = some l) (hv : CV ρ (Sof w0 φ m w) w c v) : l.length ≤ 140737488355328 ∧ ((l = [] ∧ ∃ A,v = .slice A 0 0) ∨
  ∃ id ty sz l0 b p cap cur,∃ G : Nat → Nat → Nat → Prop,id ∈ c.ids ∧ m id = some (.row ty sz l0) ∧ (∀ r ∈ l,r ∈ l0) ∧ v = .slice (some ⟨b,p,none⟩) l.length cap ∧ φ id b ∧ w.heap[b]? = some (.cells cur ty (0,0)) ∧ l.length ≤ cap ∧ p + cap * sz ≤ cur.size ∧
   (∀ (i : Nat) (r : List Cell),l[i]? = some r → r.length = sz ∧ ∀ (j : Nat) (d : Cell),r[j]? = some d → ∃ v,cur[p + i * sz + j]? = some v ∧ RC ρ (Sof w0 φ m w) w (G i j) d v) ∧ (∀ i j x,G i j x → φ id x ∧ x ≠ b) ∧ (∀ i j i' j' x,G i j x → G i' j' x → i = i' ∧ j = j')) := by
 cases c with
 | nil =>
  simp only [rowsOf,Option.some.injEq] at hc
  subst hc
  exact ⟨by simp,.inl ⟨rfl,none,hv⟩⟩
 | own id n =>
  simp only [rowsOf] at hc
  split at hc
  ·
   rename_i ty sz l0 hm
   have hlen : l = l0.take n ∧ n ≤ l0.length := by
    split at hc
    ·
     rename_i e
     injection hc with hc
     subst hc
     exact ⟨by rw [List.take_of_length_le (by omega)],by omega⟩
    ·
     split at hc
     · injection hc with hc; exact ⟨hc.symm,by assumption⟩
     · cases hc
   obtain ⟨rfl,hn⟩ := hlen
   rcases hv with ⟨b,base,cap,hr,hv⟩ | ⟨hr,h0,A,hv⟩
   ·
    obtain ⟨hb,hrr⟩ := place_row h hm hr
    obtain ⟨cur,G,h1,h2,h3,h4,h5,h6,h7⟩ := hrr.at_ 0 (n := n) (by omega)
    refine ⟨by rw [List.length_take]; omega,.inr ⟨id,ty,sz,l0,b,base,cap,cur,G,by simp [Cell.ids],hm,fun r hr => List.mem_of_mem_take hr,by rw [hv,List.length_take,Nat.min_eq_left hn],h1,h2,by rw [List.length_take]; omega,h4,fun i r hi => ?_,h6,h7⟩⟩
    have := h5 i r (by simpa using hi)
    simpa only [Nat.zero_mul,Nat.add_zero] using this
   ·
    subst h0
    exact ⟨by simp,.inl ⟨by simp,A,hv⟩⟩
  · cases hc
 | sub id sz off n =>
  simp only [rowsOf] at hc
  split at hc
  ·
   rename_i ty sz' l0 hm
   split at hc
   ·
    rename_i hcond
    obtain ⟨rfl,hn⟩ := hcond
    injection hc with hc
    subst hc
    have hlen : ((l0.drop off).take n).length = n := by rw [List.length_take,List.length_drop]; omega
    rcases hv with ⟨b,base,cap,A,hr,hle,hv,hA⟩ | ⟨hr,_,h0,A,hv⟩
    ·
     obtain ⟨hb,hrr⟩ := place_row h hm hr
     obtain ⟨cur,G,h1,h2,h3,h4,h5,h6,h7⟩ := hrr.at_ off (n := n) hn
     rcases Nat.lt_or_ge off cap with hlt | hge
     ·
      refine ⟨by rw [hlen]; omega,.inr ⟨id,ty,sz,l0,b,base + off * sz,cap - off,cur,G,by simp [Cell.ids],hm,fun r hr => List.mem_of_mem_drop (List.mem_of_mem_take hr),by rw [hv,hlen,hA hlt],h1,h2,by rw [hlen]; omega,?_,h5,h6,h7⟩⟩
      rw [Nat.add_assoc,← Nat.add_mul,show off + (cap - off) = cap by omega]
      exact h4
     ·
      have h0 : n = 0 := by omega
      subst h0
      rw [show cap - off = 0 by omega] at hv
      exact ⟨by simp,.inl ⟨by simp,A,hv⟩⟩
    ·
     subst h0
     exact ⟨by simp,.inl ⟨by simp,A,hv⟩⟩
   · cases hc
  · cases hc
 | _ => cases hc
theorem reach_sub {k : Nat} {c : Cell} {id : Nm} (h : id ∈ c.ids) : id ∈ reach m k c := by
 cases k with
 | zero => exact h
 | succ k => simp only [reach]; exact List.mem_append.2 (.inl h)
theorem reach_row {k : Nat} {c : Cell} {id i : Nm} {ty sz : Nat} {l : List (List Cell)} {r : List Cell} {d : Cell} (h : id ∈ c.ids) (hm : m id = some (.row ty sz l)) (hr : r ∈ l) (hd : d ∈ r) (hi : i ∈ reach m k d) : i ∈ reach m (k + 1) c := by
 simp only [reach]
 refine List.mem_append.2 (.inr (List.mem_flatMap.2 ⟨id,h,?_⟩))
 rw [hm]
 exact List.mem_flatMap.2 ⟨r,hr,List.mem_flatMap.2 ⟨d,hd,hi⟩⟩
theorem reach_box {k : Nat} {c : Cell} {id i : Nm} {ty : Nat} {l : List Cell} {d : Cell} (h : id ∈ c.ids) (hm : m id = some (.box ty l)) (hd : d ∈ l) (hi : i ∈ reach m k d) : i ∈ reach m (k + 1) c := by
 simp only [reach]
 refine List.mem_append.2 (.inr (List.mem_flatMap.2 ⟨id,h,?_⟩))
 rw [hm]
 exact List.mem_flatMap.2 ⟨d,hd,hi⟩
theorem rop_ok (h : StR w0 N ρ φ f m a w) {T : Nat → Prop} {id : Nm} {off ty : Nat} {l : List Cell} {cs : List C} {g : Cell → Option C} (hm : m id = some (.box ty l)) (hcs : mapO g (l.drop off) = some cs) {v : Value} (hv : ∃ b q,ρ id = some (b,q) ∧ v = .pointer (some ⟨b,off,none⟩)) (hT : ∀ b,φ id b → T b)
  (ih : ∀ c d v,c ∈ l → g c = some d → CV ρ (Sof w0 φ m w) w c v → View T w d v) : View T w (.rop cs) v := by
 obtain ⟨b,q,hr,rfl⟩ := hv
 obtain ⟨b',cur,hr',hfb,hh,hcv⟩ := h.objs id _ hm
 rw [hr] at hr'
 injection hr' with hr'
 injection hr' with e1 e2
 subst e1
 obtain ⟨hl,hg⟩ := mapO_get hcs
 have key : ∀ (j : Nat) (d : C),cs[j]? = some d → ∃ c u,l[off + j]? = some c ∧ g c = some d ∧ cur[off + j]? = some u ∧ CV ρ (Sof w0 φ m w) w c u := fun j d hj => by
  obtain ⟨c,hc,hf⟩ := hg j d hj
  rw [List.getElem?_drop] at hc
  have hlt : off + j < cur.toList.length := by rw [hcv.1]; exact (List.getElem?_eq_some_iff.1 hc).1
  have hu := List.getElem?_eq_getElem hlt
  exact ⟨c,_,hc,hf,by simp,(hcv.2 _ c _ hc hu).1⟩
 refine View.rop cs b off (fun j => (cur[off + j]?).getD undef) (hT b hfb) (fun j d hj => ?_) fun j d hj => ?_
 ·
  obtain ⟨c,u,_,_,hu,_⟩ := key j d hj
  rw [cell_in hh,hu]
  rfl
 ·
  obtain ⟨c,u,hc,hf,hu,hcv⟩ := key j d hj
  rw [hu]
  exact ih c d u (List.mem_of_getElem? hc) hf hcv
theorem frz_rows (h : StR w0 N ρ φ f m a w) {T : Nat → Prop} {c : Cell} {l : List (List Cell)} {L : List (List C)} {g : Cell → Option C} {v : Value} (hc : rowsOf m c = some l) (hL : mapO (mapO (trOr g)) l = some L) (hv : CV ρ (Sof w0 φ m w) w c v) (hT : ∀ id o b,id ∈ c.ids → m id = some o → φ id b → T b)
  (ih : ∀ id ty sz l0 r c' d v,id ∈ c.ids → m id = some (.row ty sz l0) → r ∈ l0 → c' ∈ r → g c' = some d → CV ρ (Sof w0 φ m w) w c' v → View T w d v) : View T w (.sl L) v := by
 obtain ⟨hLl,hLg⟩ := mapO_get hL
 obtain ⟨hb,h1⟩ := rowsOf_ok h hc hv
 rcases h1 with ⟨rfl,A,rfl⟩ | ⟨id,ty,sz,l0,b,p,cap,cur,G,hid,hm,hsub,rfl,hfb,hh,hlc,hcs,hcell,hG,hd⟩
 ·
  have : L = [] := List.eq_nil_of_length_eq_zero (by simpa using hLl)
  subst this
  exact view_nil
 ·
  have key : ∀ (i : Nat) (r : List C) (j : Nat) (d : C),L[i]? = some r → r[j]? = some d → ∃ u,cur[p + i * sz + j]? = some u ∧ View T w d u := fun i r j d hi hj => by
   obtain ⟨r',hr1,hr2⟩ := hLg i r hi
   obtain ⟨d',hd1,hd2⟩ := (mapO_get hr2).2 j d hj
   obtain ⟨x,hx,h1,h2,h3⟩ := (hcell i r' hr1).2 j d' hd1
   refine ⟨x,hx,?_⟩
   unfold trOr at hd2
   split at hd2
   ·
    rename_i T' c'
    injection hd2 with hd2
    subst hd2
    exact (h3 T' c' rfl).view fun y hy => hT id _ y hid hm (hG i j y hy).1
   · exact ih id ty sz l0 r' d' d x hid hm (hsub r' (List.mem_of_getElem? hr1)) (List.mem_of_getElem? hd1) hd2 h2
  rw [← hLl]
  refine .sl L sz _ cap (fun i j => (cur[p + i * sz + j]?).getD undef) (fun i r hi => ?_) (by omega) (by omega) (fun _ => ⟨b,p,rfl,hT id _ b hid hm hfb,fun i r j d hi hj => ?_⟩) fun i r j d hi hj => ?_
  ·
   obtain ⟨r',hr1,hr2⟩ := hLg i r hi
   rw [(mapO_get hr2).1]
   exact (hcell i r' hr1).1
  ·
   obtain ⟨u,hu,_⟩ := key i r j d hi hj
   rw [cell_in hh,← Nat.add_assoc,hu]
   rfl
  ·
   obtain ⟨u,hu,hview⟩ := key i r j d hi hj
   rw [hu]
   exact hview
theorem frz_ok (h : StR w0 N ρ φ f m a w) {T : Nat → Prop} (hT : ∀ b,Sof w0 φ m w b → T b) : ∀ {k : Nat} {c : Cell} {d : C} {v : Value},frz m k c = some d → CV ρ (Sof w0 φ m w) w c v → (∀ id o b,id ∈ reach m k c → m id = some o → φ id b → T b) → View T w d v := by
 intro k
 induction k with
 | zero =>
  intro c d v hc hv hk
  cases c with
  | d c => injection hc with hc; subst hc; exact View.keep hv (fun _ _ => rfl) hT
  | nil => injection hc with hc; subst hc; rw [show v = .slice none 0 0 from hv]; exact view_nil
  | _ => cases hc
 | succ k ih =>
  intro c d v hc hv hk
  cases c with
  | d c => injection hc with hc; subst hc; exact View.keep hv (fun _ _ => rfl) hT
  | nil => injection hc with hc; subst hc; rw [show v = .slice none 0 0 from hv]; exact view_nil
  | own id n =>
   simp only [frz] at hc
   split at hc
   ·
    rename_i l hl
    obtain ⟨L,hL,rfl⟩ := Option.map_eq_some_iff.1 hc
    exact frz_rows h hl hL hv (fun i o b hi => hk i o b (reach_sub hi)) fun i ty sz l0 r c' d v hi hm hr hc' hg hcv => ih hg hcv fun i2 o b hi2 => hk i2 o b (reach_row hi hm hr hc' hi2)
   · cases hc
  | sub id sz off n =>
   simp only [frz] at hc
   split at hc
   ·
    rename_i l hl
    obtain ⟨L,hL,rfl⟩ := Option.map_eq_some_iff.1 hc
    exact frz_rows h hl hL hv (fun i o b hi => hk i o b (reach_sub hi)) fun i ty sz l0 r c' d v hi hm hr hc' hg hcv => ih hg hcv fun i2 o b hi2 => hk i2 o b (reach_row hi hm hr hc' hi2)
   · cases hc
  | ptr id off =>
   simp only [frz] at hc
   split at hc
   ·
    rename_i ty l hm
    obtain ⟨cs,hcs,rfl⟩ := Option.map_eq_some_iff.1 hc
    exact rop_ok h hm hcs hv (fun b => hk id _ b (reach_sub (by simp [Cell.ids])) hm) fun c d v hcl hg hcv => ih hg hcv fun i2 o b hi2 => hk i2 o b (reach_box (by simp [Cell.ids]) hm hcl hi2)
   · cases hc
  | fnp g caps =>
   simp only [frz] at hc
   obtain ⟨cs,hcs,rfl⟩ := Option.map_eq_some_iff.1 hc
   obtain ⟨vs,rfl,hvl,hvs⟩ := hv
   obtain ⟨hl,hg⟩ := mapO_get hcs
   refine View.fn g [] cs #[] vs (fun _ => []) rfl (by rw [hvl,hl]) (by simp) (by simp) (by simp) fun i c v hi hvi => ?_
   obtain ⟨p,hp,hf⟩ := hg i c hi
   split at hf
   ·
    rename_i ty l hm
    obtain ⟨cs',hcs',rfl⟩ := Option.map_eq_some_iff.1 hf
    have hpm : p.1 ∈ (Cell.fnp g caps).ids := by simp only [Cell.ids]; exact List.mem_map.2 ⟨p,List.mem_of_getElem? hp,rfl⟩
    exact rop_ok h hm hcs' (hvs i p v hp hvi) (fun b => hk p.1 _ b (reach_sub hpm) hm) fun c d v hcl hg hcv => ih hg hcv fun i2 o b hi2 => hk i2 o b (reach_box hpm hm hcl hi2)
   · cases hf
  | _ => cases hc

def lenC : Cell → Option Nat
 | .d (.sl l) => some l.length
 | .own _ n => some n
 | .sub _ _ _ n => some n
 | .nil => some 0
 | _ => none
theorem lenC_ok {S : Nat → Prop} {c : Cell} {n : Nat} {v : Value} (h : lenC c = some n) (hv : CV ρ S w c v) : ∃ A cap,v = .slice A n cap := by
 unfold lenC at h
 split at h
 ·
  injection h with h; subst h
  rename_i l
  cases (show View S w (.sl l) v from hv) with
  | sl _ sz A cap u => exact ⟨A,cap,rfl⟩
 ·
  injection h with h; subst h
  rcases hv with ⟨b,x,c,_,hv⟩ | ⟨_,hn,A,hv⟩
  · exact ⟨_,_,hv⟩
  · exact ⟨A,0,by rw [hv,hn]⟩
 ·
  injection h with h; subst h
  rcases hv with ⟨b,x,c,A,_,_,hv,_⟩ | ⟨_,_,hn,A,hv⟩
  · exact ⟨_,_,hv⟩
  · exact ⟨A,0,by rw [hv,hn]⟩
 ·
  injection h with h; subst h
  exact ⟨none,0,hv⟩
 · cases h
theorem so_len (h : StR w0 N ρ φ f m a w) (x : Operand) (t : TypeId) (c : Cell) (n : Nat) (ts : Array TypeId) (ho : o.op = .call { callee := .builtin .len,args := #[x],argTypes := ts }) (hts : ts[0]? = some t) (ht : (tElt P t).isSome = true) (hx : aeval N f x = .one c) (hn : lenC c = some n) :
  Does P w0 N f m o a w (.one (.d (.int .i64 n))) [] := by
 have hv := aeval_ok h x
 rw [hx] at hv
 obtain ⟨A,cap,e⟩ := lenC_ok (ρ := ρ) hn hv
 obtain ⟨⟨el,sz,by_⟩,he⟩ := Option.isSome_iff_exists.1 ht
 have hu := (tElt_ok he).1
 refine does_pure h (u := .int .i64 n) ?_ (View.int _ _)
 simp only [execOp,ho,resolve,invoke,builtin,Sem.run_bind,Sem.run_pure,Result.andThen_ok,List.map_toArray,List.map_cons,List.map_nil,e]
 simp [Builtin.len_,hts,run_underlying hu,goInt]
theorem so_capnil (h : StR w0 N ρ φ f m a w) (x : Operand) (t : TypeId) (ts : Array TypeId) (ho : o.op = .call { callee := .builtin .cap,args := #[x],argTypes := ts }) (hts : ts[0]? = some t) (ht : (tElt P t).isSome = true) (hx : aeval N f x = .one .nil) :
  Does P w0 N f m o a w (.one (.d (.int .i64 0))) [] := by
 have hv := aeval_ok h x
 rw [hx] at hv
 have e : _ = Value.slice none 0 0 := hv
 obtain ⟨⟨el,sz,by_⟩,he⟩ := Option.isSome_iff_exists.1 ht
 have hu := (tElt_ok he).1
 refine does_pure h (u := .int .i64 0) ?_ (View.int _ _)
 simp only [execOp,ho,resolve,invoke,builtin,Sem.run_bind,Sem.run_pure,Result.andThen_ok,List.map_toArray,List.map_cons,List.map_nil,e]
 simp [Builtin.cap_,hts,run_underlying hu,goInt]
end
def RdV (w : World) (size : Nat) (A : Option Addr) (n : Nat) (xs : List Value) : Prop :=
 xs.length = n * size ∧ (0 < n → ∃ b o,A = some ⟨b,o,none⟩ ∧ ∀ j u,xs[j]? = some u → w.cell? ⟨b,o + j,none⟩ = some u)
section
variable {P : Program} (w : World)
theorem run_first {size m c : Nat} {A : Option Addr} {news : List Value} (hr : RdV w size A m news) : (Builtin.firstCells size m (.slice A m c)).run P w = .ok news.toArray w := by
 rcases Nat.eq_zero_or_pos m with h0 | h0
 ·
  subst h0
  have hn : news = [] := List.eq_nil_of_length_eq_zero (by simpa using hr.1)
  subst hn
  cases A with
  | none => simp [Builtin.firstCells]
  | some a => exact run_firstCells_some w size 0 a 0 c [] (by simp) (by simp)
 ·
  obtain ⟨b,o,rfl,hc⟩ := hr.2 h0
  exact run_firstCells_some w size m _ m c news hr.1 fun j u hj => by rw [add_lit]; exact hc j u hj
theorem run_append_k (t ty e : TypeId) (i : TypeInfo) (z : Value) (size bytes : Nat) (ht : P.underlying t = some (.slice e)) (hi : P.info? e = some i) (hz : i.zero = some z)
  (hsize : i.size = size) (hby : i.bytes = bytes) (hzs : z.cells.size = size) (hpos : 0 < bytes) (A : Option Addr) (n cap : Nat) (olds : List Value) (ho : RdV w size A n olds)
  (A' : Option Addr) (m c : Nat) (news : List Value) (hr : RdV w size A' m news) (h1 : ∀ u ∈ news,u.oneCell' = true) (hbytes : (n + m) * bytes ≤ 140737488355328)
  (hnc : n ≤ cap) (hA : (n = 0 ∧ cap = 0) ∨ ∃ b base ety,∃ cur : Array Value,A = some ⟨b,base,none⟩ ∧ w.heap[b]? = some (.cells cur ety (0,0)) ∧ base + cap * size ≤ cur.size) :
  (n + m ≤ cap ∧ ((m = 0 ∧ (Builtin.append_ #[t,t] ty #[.slice A n cap,.slice A' m c]).run P w = .ok (.slice A n cap) w) ∨ ∃ b base ety,∃ cur : Array Value,A = some ⟨b,base,none⟩ ∧ w.heap[b]? = some (.cells cur ety (0,0)) ∧ base + cap * size ≤ cur.size ∧
   (Builtin.append_ #[t,t] ty #[.slice A n cap,.slice A' m c]).run P w = .ok (.slice A (n + m) cap) (w.setRow b (lay cur.toList (base + n * size) news).toArray))) ∨
  ∃ cap' w',∃ cur' : Array Value,¬ n + m ≤ cap ∧ n + m ≤ cap' ∧ (Builtin.append_ #[t,t] ty #[.slice A n cap,.slice A' m c]).run P w = .ok (.slice (some ⟨w.heap.size,0,none⟩) (n + m) cap') w' ∧ w'.heap[w.heap.size]? = some (.cells cur' e (0,0)) ∧
   w.heap.size < w'.heap.size ∧ Mv (fun _ => False) w w' ∧ cur'.size = cap' * size ∧ ∀ (k : Nat) (u : Value),(olds ++ news)[k]? = some u → cur'[k]? = some u := by
 subst hsize hby
 have hle : n + m ≤ (n + m) * i.bytes := Nat.le_mul_of_pos_right _ hpos
 by_cases hroom : n + m ≤ cap
 ·
  left
  refine ⟨hroom,?_⟩
  have hf := run_first (P := P) w (c := c) hr
  rcases hA with ⟨h0,hc0⟩ | ⟨b,base,ety,cur,rfl,hb,hfit⟩
  ·
   have hm : m = 0 := by omega
   subst hm
   have hn : news = [] := List.eq_nil_of_length_eq_zero (by simpa using hr.1)
   subst hn
   refine .inl ⟨rfl,?_⟩
   cases A with
   | none => simp [Builtin.append_,run_underlying ht,sizeOf,typeInfo,hi,Builtin.lenOf,hf,h0,hc0]
   | some a => simp [Builtin.append_,run_underlying ht,sizeOf,typeInfo,hi,Builtin.lenOf,hf,h0,hc0,storeCells]
  ·
   right
   have hml : (n + m) * i.size ≤ cap * i.size := Nat.mul_le_mul_right _ hroom
   rw [Nat.add_mul] at hml
   have hst := run_storeCells_at P b (base + n * i.size) ety news 0 cur w hb (by rw [hr.1]; omega) h1
   simp only [Nat.add_zero] at hst
   exact ⟨b,base,ety,cur,rfl,hb,hfit,by simp [Builtin.append_,run_underlying ht,sizeOf,typeInfo,hi,Builtin.lenOf,hroom,hf,add_lit,hst,lay]⟩
 ·
  right
  have hcapn : (n = 0 ∧ cap = 0) ∨ ∃ a,A = some a := by
   rcases hA with h | ⟨b,base,ety,cur,h,_⟩
   · exact .inl h
   · exact .inr ⟨_,h⟩
  have hnews : ∃ ad : Addr,(Builtin.append_ #[t,t] ty #[.slice A n cap,.slice A' m c]).run P w = (Builtin.append_ #[t,t] ty #[.slice A n cap,.slice (some ad) m c]).run P w ∧ ∀ j u,news[j]? = some u → w.cell? (ad.add j) = some u := by
   obtain ⟨b,o,rfl,hc⟩ := hr.2 (by omega)
   exact ⟨_,rfl,fun j u hj => by rw [add_lit]; exact hc j u hj⟩
  obtain ⟨ad,hrun,hnews⟩ := hnews
  rw [hrun]
  have hbig : ∀ X : Nat,n + m ≤ X → X * i.size = (n + m) * i.size + (X - (n + m)) * i.size := fun X hX => by rw [← Nat.add_mul]; congr 1; omega
  have hget : ∀ (k : Nat) (u : Value) (Z : Array Value),(olds ++ news)[k]? = some u → (olds.toArray ++ news.toArray ++ Z)[k]? = some u := fun k u Z hk => by
   have hlt : k < (olds ++ news).length := (List.getElem?_eq_some_iff.1 hk).1
   simp only [List.append_toArray]
   rw [Array.getElem?_append_left (by simpa using hlt)]
   simpa using hk
  have hsz : ∀ cap',n + m ≤ cap' → (olds.toArray ++ news.toArray ++ Builtin.zeroCells z.cells (cap' - (n + m))).size = cap' * i.size := fun cap' hc' => by
   rw [hbig cap' hc']
   simp only [Array.size_append,List.size_toArray,size_zeroCells,hzs,ho.1,hr.1,Nat.add_mul]
  cases A with
  | some a =>
   have hro : ∀ j u,olds[j]? = some u → w.cell? (a.add j) = some u := fun j u hj => by
    have h0 : 0 < n := by
     rcases Nat.eq_zero_or_pos n with h | h
     ·
      subst h
      have : olds = [] := List.eq_nil_of_length_eq_zero (by simpa using ho.1)
      subst this
      simp at hj
     · exact h
    obtain ⟨b,o,e1,hc⟩ := ho.2 h0
    injection e1 with e1
    subst e1
    rw [add_lit]; exact hc j u hj
   have hg := run_append_grow (P := P) w t ty e i z ht hi hz a n cap olds ho.1 hro ad m c news hr.1 hnews (by omega) (by omega) (growslice_fits (by omega) hbytes)
   have hge := grownCap_ge w (n + m) cap e
   exact ⟨_,_,_,hroom,hge,hg,heap_alloc_new w.drew _,by simp,(Mv.drew w).trans (Mv.alloc w.drew _) (fun _ h => h) (fun _ _ h => h),hsz _ hge,fun k u hk => hget k u _ hk⟩
  | none =>
   obtain ⟨rfl,rfl⟩ := hcapn.resolve_right fun ⟨a,h⟩ => by cases h
   have ho0 : olds = [] := List.eq_nil_of_length_eq_zero (by simpa using ho.1)
   subst ho0
   have hg := run_append_nil (P := P) w t ty e i z ht hi hz ad m c news hr.1 hnews (by omega) (by omega) (by have := hbytes; simp only [Nat.zero_add] at this; omega)
   have hge := grownCap_ge w m 0 e
   refine ⟨_,_,_,hroom,by rw [Nat.zero_add]; exact hge,by rw [Nat.zero_add]; exact hg,heap_alloc_new w.drew _,by simp,(Mv.drew w).trans (Mv.alloc w.drew _) (fun _ h => h) (fun _ _ h => h),?_,fun k u hk => ?_⟩
   ·
    have := hsz (grownCap w m 0 e) (by rw [Nat.zero_add]; exact hge)
    simpa using this
   ·
    have := hget k u (Builtin.zeroCells z.cells (grownCap w m 0 e - m)) hk
    simpa using this
end

section
variable {P : Program} {w0 : Bas} {N : Nat} {ρ : Place} {φ : Foot} {f : Nat → AV} {m : Nm → Option AObj} {a : Act} {w w' : World} {o : Oper}
theorem view_src {S : Nat → Prop} {l : List (List C)} {v : Value} {sz : Nat} (hv : View S w (.sl l) v) (hsz : ∀ r ∈ l,r.length = sz) : ∃ (A : Option Addr) (cap : Nat) (ys : List Value),v = .slice A l.length cap ∧ RdV w sz A l.length ys ∧ ∀ (i : Nat) (r : List C),l[i]? = some r → ∀ (j : Nat) (d : C),r[j]? = some d → ∃ u,ys[i * sz + j]? = some u ∧ View S w d u := by
 cases hv with
 | sl _ sz' A cap u hsz' hcap hb hA hu =>
  rcases Nat.eq_zero_or_pos l.length with h0 | h0
  ·
   have : l = [] := List.eq_nil_of_length_eq_zero h0
   subst this
   exact ⟨A,cap,[],rfl,⟨by simp,fun h => absurd h (by simp)⟩,by simp⟩
  ·
   have e : sz' = sz := by
    have h1 : l[0]? = some l[0] := List.getElem?_eq_getElem h0
    rw [← hsz' 0 _ h1]
    exact hsz _ (List.mem_of_getElem? h1)
   subst e
   obtain ⟨b,p,hAe,hs,hcell⟩ := hA h0
   have key : ∀ k,k < l.length * sz' → ∃ i j r d,k = i * sz' + j ∧ l[i]? = some r ∧ r[j]? = some d := fun k hk => by
    have hpos : 0 < sz' := by
     rcases Nat.eq_zero_or_pos sz' with h | h
     · subst h; simp at hk
     · exact h
    have hi : k / sz' < l.length := Nat.div_lt_of_lt_mul (by rwa [Nat.mul_comm] at hk)
    have h1 : l[k / sz']? = some l[k / sz'] := List.getElem?_eq_getElem hi
    have h2 : k % sz' < l[k / sz'].length := by rw [hsz' _ _ h1]; exact Nat.mod_lt _ hpos
    exact ⟨k / sz',k % sz',_,_,by rw [Nat.mul_comm,Nat.div_add_mod],h1,List.getElem?_eq_getElem h2⟩
   refine ⟨A,cap,(List.range (l.length * sz')).map fun k => u (k / sz') (k % sz'),rfl,⟨by simp,fun _ => ⟨b,p,hAe,fun k x hk => ?_⟩⟩,fun i r hi j d hj => ?_⟩
   ·
    simp only [List.getElem?_map,Option.map_eq_some_iff] at hk
    obtain ⟨k',hk',rfl⟩ := hk
    obtain ⟨h1,h2⟩ := List.getElem?_eq_some_iff.1 hk'
    simp at h1 h2
    subst h2
    obtain ⟨i,j,r,d,e,hi,hj⟩ := key k h1
    have hjlt : j < sz' := by rw [← hsz' i r hi]; exact (List.getElem?_eq_some_iff.1 hj).1
    have e1 : k / sz' = i := by rw [e,Nat.mul_comm,Nat.mul_add_div (by omega)]; simp [Nat.div_eq_of_lt hjlt]
    have e2 : k % sz' = j := by rw [e,Nat.mul_comm,Nat.mul_add_mod]; exact Nat.mod_eq_of_lt hjlt
    rw [e1,e2,e]
    exact hcell i r j d hi hj
   ·
    have hjlt : j < sz' := by rw [← hsz' i r hi]; exact (List.getElem?_eq_some_iff.1 hj).1
    have hilt : i < l.length := (List.getElem?_eq_some_iff.1 hi).1
    have hk : i * sz' + j < l.length * sz' := by
     have : (i + 1) * sz' ≤ l.length * sz' := Nat.mul_le_mul_right _ hilt
     rw [Nat.add_mul,Nat.one_mul] at this
     omega
    refine ⟨u i j,?_,hu i r j d hi hj⟩
    rw [List.getElem?_map,List.getElem?_range hk]
    have e1 : (i * sz' + j) / sz' = i := by rw [Nat.mul_comm,Nat.mul_add_div (by omega)]; simp [Nat.div_eq_of_lt hjlt]
    have e2 : (i * sz' + j) % sz' = j := by rw [Nat.mul_comm,Nat.mul_add_mod]; exact Nat.mod_eq_of_lt hjlt
    simp [e1,e2]

end
section
variable {P : Program} {w0 : Bas} {N : Nat} {ρ ρ' : Place} {φ : Foot} {f : Nat → AV} {m : Nm → Option AObj} {a : Act} {w w' : World} {o : Oper} {fr : Nm}

def RowsV (ρ : Place) (S : Nat → Prop) (w : World) (sz : Nat) (l : List (List Cell)) (ys : List Value) : Prop :=
 ys.length = l.length * sz ∧ ∀ (i : Nat) (r : List Cell),l[i]? = some r → r.length = sz ∧ ∀ (j : Nat) (d : Cell),r[j]? = some d → d.ntr = true ∧ ∃ u,ys[i * sz + j]? = some u ∧ CV ρ S w d u ∧ u.oneCell' = true
theorem ntr_ne {d : Cell} (h : d.ntr = true) (T : TD) (c : C) : d ≠ .tr T c := fun e => by subst e; cases h
theorem RowsV.one {S : Nat → Prop} {sz : Nat} {l : List (List Cell)} {ys : List Value} (h : RowsV ρ S w sz l ys) : ∀ u ∈ ys,u.oneCell' = true := by
 intro u hu
 obtain ⟨k,hk⟩ := List.mem_iff_getElem?.1 hu
 have hlt : k < l.length * sz := by rw [← h.1]; exact (List.getElem?_eq_some_iff.1 hk).1
 have hpos : 0 < sz := by
  rcases Nat.eq_zero_or_pos sz with h0 | h0
  · subst h0; simp at hlt
  · exact h0
 have hi : k / sz < l.length := Nat.div_lt_of_lt_mul (by rwa [Nat.mul_comm] at hlt)
 have h1 := h.2 _ _ (List.getElem?_eq_getElem hi)
 have h2 : k % sz < l[k / sz].length := by rw [h1.1]; exact Nat.mod_lt _ hpos
 obtain ⟨_,u',hu',_,hv⟩ := h1.2 _ _ (List.getElem?_eq_getElem h2)
 rw [Nat.mul_comm,Nat.div_add_mod,hk] at hu'
 injection hu' with hu'
 subst hu'
 exact hv
def srcOf (m : Nm → Option AObj) (c : Cell) : Option (List (List Cell)) :=
 match c with
 | .d (.sl l) => some (l.map fun r => r.map .d)
 | c => match rowsOf m c with
  | some l => if l.all (fun r => r.all Cell.ntr) = true then some l else none
  | none => none
theorem own_rd {S K : Nat → Prop} {sz b p cap : Nat} {cur : Array Value} {ty : TypeId} {fz : Nat × Nat} {l : List (List Cell)} {G : Nat → Nat → Nat → Prop} (hh : w.heap[b]? = some (.cells cur ty fz)) (hlc : l.length ≤ cap) (hcs : p + cap * sz ≤ cur.size) :
  RdV w sz (some ⟨b,p,none⟩) l.length ((cur.toList.drop p).take (l.length * sz)) := by
 have : l.length * sz ≤ cap * sz := Nat.mul_le_mul_right _ hlc
 have e : cur.toList.length = cur.size := Array.length_toList
 refine ⟨by rw [List.length_take,List.length_drop]; omega,fun _ => ⟨b,p,rfl,fun j u hj => ?_⟩⟩
 rw [List.getElem?_take] at hj
 split at hj
 ·
  rw [List.getElem?_drop] at hj
  rw [cell_in hh]
  simpa using hj
 · cases hj
theorem src_ok (h : StR w0 N ρ φ f m a w) {c : Cell} {l : List (List Cell)} {sz : Nat} {v : Value} (hc : srcOf m c = some l) (hv : CV ρ (Sof w0 φ m w) w c v) (hsz : ∀ r ∈ l,r.length = sz) :
  ∃ (A : Option Addr) (cap : Nat) (ys : List Value),v = .slice A l.length cap ∧ RdV w sz A l.length ys ∧ RowsV ρ (Sof w0 φ m w) w sz l ys := by
 unfold srcOf at hc
 split at hc
 ·
  rename_i l'
  injection hc with hc
  subst hc
  have hsz' : ∀ r ∈ l',r.length = sz := fun r hr => by
   have := hsz (r.map .d) (List.mem_map.2 ⟨r,hr,rfl⟩)
   simpa using this
  obtain ⟨A,cap,ys,e,hr,hy⟩ := view_src (show View _ w (.sl l') v from hv) hsz'
  rw [List.length_map]
  refine ⟨A,cap,ys,e,hr,by rw [List.length_map]; exact hr.1,fun i r hi => ⟨hsz r (List.mem_of_getElem? hi),fun j d hj => ?_⟩⟩
  rw [List.getElem?_map] at hi
  obtain ⟨r0,hr0,rfl⟩ := Option.map_eq_some_iff.1 hi
  rw [List.getElem?_map] at hj
  obtain ⟨d0,hd0,rfl⟩ := Option.map_eq_some_iff.1 hj
  obtain ⟨u,hu,hview⟩ := hy i r0 hr0 j d0 hd0
  exact ⟨rfl,u,hu,hview,hview.one⟩
 ·
  split at hc
  ·
   rename_i l0 hrow
   split at hc
   ·
    rename_i hntr
    injection hc with hc
    subst hc
    have hnt : ∀ r ∈ l0,∀ d ∈ r,d.ntr = true := fun r hr d hd => List.all_eq_true.1 (List.all_eq_true.1 hntr r hr) d hd
    rcases (rowsOf_ok h hrow hv).2 with ⟨rfl,A,e⟩ | ⟨id,ty,sz',l1,b,p,cap,cur,G,hid,hm,hsub,e,hfb,hh,hlc,hcs,hcell,hG,hd⟩
    · exact ⟨A,0,[],e,⟨by simp,fun h => absurd h (by simp)⟩,by simp,by simp⟩
    ·
     have esz : sz' = sz ∨ l0 = [] := by
      cases l0 with
      | nil => exact .inr rfl
      | cons r rs => exact .inl ((hcell 0 r rfl).1.symm.trans (hsz r (by simp)))
     rcases esz with esz | esz
     ·
      subst esz
      have hrd := own_rd (S := fun _ => True) (K := fun _ => True) (G := G) (l := l0) hh hlc hcs
      refine ⟨_,cap,_,e,hrd,hrd.1,fun i r hi => ⟨(hcell i r hi).1,fun j d hj => ⟨hnt r (List.mem_of_getElem? hi) d (List.mem_of_getElem? hj),?_⟩⟩⟩
      obtain ⟨u,hu,hrc⟩ := (hcell i r hi).2 j d hj
      have hjlt : j < sz' := by rw [← (hcell i r hi).1]; exact (List.getElem?_eq_some_iff.1 hj).1
      have hilt : i < l0.length := (List.getElem?_eq_some_iff.1 hi).1
      have : (i + 1) * sz' ≤ l0.length * sz' := Nat.mul_le_mul_right _ hilt
      rw [Nat.add_mul,Nat.one_mul] at this
      refine ⟨u,?_,hrc.2.1,hrc.1⟩
      rw [List.getElem?_take,if_pos (by omega),List.getElem?_drop,← Nat.add_assoc]
      simpa using hu
     ·
      subst esz
      exact ⟨_,cap,[],e,⟨by simp,fun h => absurd h (by simp)⟩,by simp,by simp⟩
   · cases hc
  · cases hc
theorem rowsOf_ids {c : Cell} {l : List (List Cell)} (hc : rowsOf m c = some l) {id : Nm} (h : id ∈ l.flatMap (fun r => r.flatMap Cell.ids)) : ∃ i o,m i = some o ∧ id ∈ o.ids := by
 cases c with
 | nil => simp only [rowsOf,Option.some.injEq] at hc; subst hc; simp at h
 | own i n =>
  simp only [rowsOf] at hc
  split at hc
  ·
   rename_i ty sz l0 hm
   refine ⟨i,_,hm,?_⟩
   split at hc
   · injection hc with hc; subst hc; exact h
   ·
    split at hc
    ·
     injection hc with hc; subst hc
     obtain ⟨r,hr,h⟩ := List.mem_flatMap.1 h
     exact List.mem_flatMap.2 ⟨r,List.mem_of_mem_take hr,h⟩
    · cases hc
  · cases hc
 | sub i sz off n =>
  simp only [rowsOf] at hc
  split at hc
  ·
   rename_i ty sz l0 hm
   refine ⟨i,_,hm,?_⟩
   split at hc
   ·
    injection hc with hc; subst hc
    obtain ⟨r,hr,h⟩ := List.mem_flatMap.1 h
    exact List.mem_flatMap.2 ⟨r,List.mem_of_mem_drop (List.mem_of_mem_take hr),h⟩
   · cases hc
  · cases hc
 | _ => cases hc
theorem rowsOf_fresh (hfr : Fresh f m fr) {c : Cell} {l : List (List Cell)} (hc : rowsOf m c = some l) : fr ∉ l.flatMap (fun r => r.flatMap Cell.ids) := fun h => by
 obtain ⟨i,o,hi,hid⟩ := rowsOf_ids hc h
 exact hfr.hm i o hi hid
theorem src_fresh (hfr : Fresh f m fr) {c : Cell} {l : List (List Cell)} (hc : srcOf m c = some l) : fr ∉ l.flatMap (fun r => r.flatMap Cell.ids) := by
 unfold srcOf at hc
 split at hc
 ·
  injection hc with hc
  subst hc
  intro h
  obtain ⟨r,hr,h⟩ := List.mem_flatMap.1 h
  obtain ⟨r0,_,rfl⟩ := List.mem_map.1 hr
  obtain ⟨d,hd,h⟩ := List.mem_flatMap.1 h
  obtain ⟨d0,_,rfl⟩ := List.mem_map.1 hd
  cases h
 ·
  split at hc
  ·
   split at hc
   ·
    injection hc with hc
    subst hc
    exact rowsOf_fresh hfr (by assumption)
   · cases hc
  · cases hc

theorem RowR.glue {S F : Nat → Prop} {e sz n : Nat} {l l' : List (List Cell)} {news : List Value} {G : Nat → Nat → Nat → Prop} {old : Nat → Option Value} (hn : l.length = n)
  (hold : ∀ (i : Nat) (r : List Cell),l[i]? = some r → r.length = sz ∧ ∀ (j : Nat) (d : Cell),r[j]? = some d → ∃ v,old (i * sz + j) = some v ∧ RC ρ S w (G i j) d v) (hnew : RowsV ρ S w sz l' news)
  {b' base' cap' : Nat} {cur' : Array Value} (hF : F b') (hh : w'.heap[b']? = some (.cells cur' e (0,0))) (hc : n + l'.length ≤ cap') (hz : base' + cap' * sz ≤ cur'.size)
  (h1 : ∀ k,k < n * sz → cur'[base' + k]? = old k) (h2 : ∀ k u,news[k]? = some u → cur'[base' + n * sz + k]? = some u)
  (hk : ∀ p : Addr,S p.block → w'.cell? p = w.cell? p) (hρ : ∀ id ∈ (l ++ l').flatMap (fun r => r.flatMap Cell.ids),ρ' id = ρ id) (hb : ∀ i j x,G i j x → w'.heap[x]? = w.heap[x]?)
  (hG : ∀ i j x,G i j x → F x ∧ x ≠ b') (hd : ∀ i j i' j' x,G i j x → G i' j' x → i = i' ∧ j = j') : RowR ρ' S w' F e sz (l ++ l') b' base' cap' := by
 refine ⟨cur',fun i j x => i < n ∧ G i j x,hF,hh,by rw [List.length_append]; omega,hz,fun i r hi => ?_,fun i j x hx => hG i j x hx.2,fun i j i' j' x hx hx' => hd i j i' j' x hx.2 hx'.2⟩
 have hids : ∀ (j : Nat) (d : Cell),r[j]? = some d → ∀ id ∈ d.ids,ρ' id = ρ id := fun j d hj id hid => hρ id (List.mem_flatMap.2 ⟨r,List.mem_of_getElem? hi,List.mem_flatMap.2 ⟨d,List.mem_of_getElem? hj,hid⟩⟩)
 rcases Nat.lt_or_ge i l.length with hlt | hge
 ·
  rw [List.getElem?_append_left hlt] at hi
  obtain ⟨h3,h4⟩ := hold i r hi
  refine ⟨h3,fun j d hj => ?_⟩
  obtain ⟨v,hv,hrc⟩ := h4 j d hj
  have hjlt : j < sz := by rw [← h3]; exact (List.getElem?_eq_some_iff.1 hj).1
  have : (i + 1) * sz ≤ n * sz := Nat.mul_le_mul_right _ (by omega)
  rw [Nat.add_mul,Nat.one_mul] at this
  exact ⟨v,by rw [Nat.add_assoc,h1 _ (by omega),hv],hrc.next hk (fun _ hx => hx) (hids j d hj) (hb i j) fun x hx => ⟨by omega,hx⟩⟩
 ·
  rw [List.getElem?_append_right hge] at hi
  obtain ⟨h3,h4⟩ := hnew.2 _ r hi
  refine ⟨h3,fun j d hj => ?_⟩
  obtain ⟨hnt,u,hu,hcv,ho⟩ := h4 j d hj
  refine ⟨u,?_,ho,hcv.next hk (fun _ hx => hx) (hids j d hj),fun T c e => absurd e (ntr_ne hnt T c)⟩
  have e1 : base' + i * sz + j = base' + n * sz + ((i - l.length) * sz + j) := by
   have : i * sz = n * sz + (i - l.length) * sz := by rw [← Nat.add_mul]; congr 1; omega
   omega
  rw [e1]
  exact h2 _ u hu

def killOf : List Nm → List Upd
 | id :: _ => [(id,none)]
 | [] => []
theorem ids_of_rows {c : Cell} {l : List (List Cell)} (hc : rowsOf m c = some l) {id : Nm} (h : id ∈ c.ids) : c.ids = [id] := by
 cases c <;> simp [rowsOf,Cell.ids] at hc h ⊢ <;> rw [h]
theorem so_append (h : StR w0 N ρ φ f m a w) (s x : Operand) (t : Nat) (fr : Nm) (e sz by_ : Nat) (cs cx : Cell) (l l' : List (List Cell)) (ho : o.op = .call { callee := .builtin .append,args := #[s,x],argTypes := #[t,t] })
  (ht : tElt P t = some (e,sz,by_)) (hz : ∃ z,tZero P e = some z ∧ z.length = sz) (hpos : 0 < by_) (hs : aeval N f s = .one cs) (hx : aeval N f x = .one cx) (hd : rowsOf m cs = some l) (hty : ∀ id ∈ cs.ids,∃ l0,m id = some (.row e sz l0)) (hsrc : srcOf m cx = some l') (hl : ∀ r ∈ l',r.length = sz)
  (hb : (l.length + l'.length) * by_ ≤ 140737488355328) (hfr : Fresh f m fr) : Does P w0 N f m o a w (.one (.own fr (l.length + l'.length))) (killOf cs.ids ++ [(fr,some (.row e sz (l ++ l')))]) := by
 obtain ⟨hu,inf,hi,h1,h2⟩ := tElt_ok ht
 obtain ⟨zl,hz1,hz2⟩ := hz
 obtain ⟨z,hiz,hzc⟩ : ∃ z,inf.zero = some z ∧ z.cells.size = sz := by
  unfold tZero at hz1
  rw [hi] at hz1
  simp only [Option.bind_some,Option.map_eq_some_iff] at hz1
  obtain ⟨z,hz,hz'⟩ := hz1
  exact ⟨z,hz,by rw [← hz2,← hz']; simp⟩
 have hvx := aeval_ok h x
 rw [hx] at hvx
 obtain ⟨A',cap',ys,ex,hreads,hrows⟩ := src_ok h hsrc hvx hl
 have hvs := aeval_ok h s
 rw [hs] at hvs
 have hlen : l.length + l'.length ≤ 140737488355328 := Nat.le_trans (Nat.le_mul_of_pos_right _ hpos) hb
 have hρf : ∀ id ∈ (l ++ l').flatMap (fun r => r.flatMap Cell.ids),∀ pl,pset ρ fr pl id = ρ id := fun id hid pl => if_neg fun (e : id = fr) => by
  subst e
  rw [List.flatMap_append,List.mem_append] at hid
  exact hid.elim (rowsOf_fresh hfr hd) (src_fresh hfr hsrc)
 have fin : ∀ (id : Nm) (v' : Value) (w' : World) (pl : Option (Nat × Nat × Nat)) (F : Nat → Prop),(cs.ids = [id] ∨ cs.ids = [] ∧ id = fr) → (execOp a.eval o).run P w = .ok (.value v') w' → Mv (fun b => ∃ o,m id = some o ∧ φ id b) w w' →
   (∀ b,F b → (w.heap.size ≤ b ∧ b < w'.heap.size) ∨ ∃ o,m id = some o ∧ φ id b) → OR (pset ρ fr pl) (fset φ fr F) (Sof w0 φ m w) w' fr (.row e sz (l ++ l')) →
   CV (pset ρ fr pl) (fun _ => False) w' (.own fr (l.length + l'.length)) v' → Does P w0 N f m o a w (.one (.own fr (l.length + l'.length))) (killOf cs.ids ++ [(fr,some (.row e sz (l ++ l')))]) := by
  intro id v' w' pl F hid hrun hmv hF hor hcv K Q hK
  refine wp_of_run hrun (hK _ _ ⟨pset ρ fr pl,fset φ fr F,?_⟩)
  have hturn := h.turn id fr pl F _ hfr hmv hF hor
  have em : mupd m (killOf cs.ids ++ [(fr,some (.row e sz (l ++ l')))]) = mset (mset m id none) fr (some (.row e sz (l ++ l'))) := by
   rcases hid with hid | ⟨hid,rfl⟩
   · rw [hid]; rfl
   ·
    rw [hid]
    funext i
    simp only [killOf,List.nil_append,mupd,mput,mset]
    split <;> rfl
  rw [em]
  exact hturn.1.put o.dst (x := .one (.own fr (l.length + l'.length))) (v := v') hcv
 have hex : ∀ R,(Builtin.append_ #[t,t] o.type #[a.eval s,.slice A' l'.length cap']).run P w = R → (execOp a.eval o).run P w = R.andThen fun v w => .ok (.value v) w := fun R hR => by
  simp only [execOp,ho,resolve,invoke,builtin,Sem.run_bind,Sem.run_pure,Result.andThen_ok,List.map_toArray,List.map_cons,List.map_nil,ex,hR]
 rcases (rowsOf_ok h hd hvs).2 with ⟨rfl,A,es⟩ | ⟨id,ty,sz',l0,b,p,cap,cur,G,hid,hm,hsub,es,hfb,hh,hlc,hcs,hcell,hG,hdj⟩
 ·
  -- nothing there yet
  have hrun := run_append_k (P := P) w t o.type e inf z sz by_ hu hi hiz h1 h2 hzc hpos A 0 0 [] ⟨by simp,fun h => absurd h (by omega)⟩ A' l'.length cap' ys hreads hrows.one (by simpa using hb) (Nat.le_refl _) (.inl ⟨rfl,rfl⟩)
  rw [← es] at hrun
  have hid : ∃ id,(cs.ids = [id] ∨ cs.ids = [] ∧ id = fr) := by
   cases e2 : cs.ids with
   | nil => exact ⟨fr,.inr ⟨rfl,rfl⟩⟩
   | cons i r => exact ⟨i,.inl (by rw [ids_of_rows hd (id := i) (by rw [e2]; simp)] at e2; exact e2.symm)⟩
  obtain ⟨id,hid⟩ := hid
  rcases hrun with ⟨hle,hrun⟩ | ⟨cap2,w',cur',_,hge,hrun,hh',hlt,hmv,hcs',hget⟩
  ·
   have hl0 : l' = [] := List.eq_nil_of_length_eq_zero (by omega)
   subst hl0
   have hrun1 : (Builtin.append_ #[t,t] o.type #[a.eval s,.slice A' ([] : List (List Cell)).length cap']).run P w = .ok (a.eval s) w := by
    rcases hrun with ⟨_,hr⟩ | ⟨b,base,ety,cur,_,hb',_,hr⟩
    · exact hr
    ·
     have hy : ys = [] := List.eq_nil_of_length_eq_zero (by simpa using hreads.1)
     subst hy
     rw [hr]
     have e3 : w.setRow b (lay cur.toList (base + 0 * sz) []).toArray = w := by
      simp only [lay,List.append_nil,List.length_nil,Nat.add_zero,List.take_append_drop,Array.toArray_toList]
      exact setRow_self w b cur ety (0,0) hb'
     rw [e3]
     rw [es]
     rfl
   refine fin id _ w none (fun _ => False) hid (hex _ hrun1) (Mv.refl _ w) (fun _ h => h.elim) ⟨by simp,.inl ⟨if_pos rfl,rfl⟩⟩ (.inr ⟨if_pos rfl,rfl,A,es⟩)
  ·
   refine fin id _ w' (some (w.heap.size,0,cap2)) (· = w.heap.size) hid (hex _ hrun) (hmv.mono fun _ h => h.elim) (fun b hb => .inl (by rw [hb]; exact ⟨Nat.le_refl _,hlt⟩)) ⟨by simpa using hlen,.inr ⟨w.heap.size,0,cap2,if_pos rfl,?_⟩⟩ (.inl ⟨w.heap.size,0,cap2,if_pos rfl,by simp⟩)
   refine RowR.glue (n := 0) (G := fun _ _ _ => False) (old := fun _ => none) (ρ := ρ) (w := w) (news := ys) rfl (by simp) hrows ((congrFun (if_pos rfl) _).mpr rfl) hh' (by simpa using hge) (by omega) (by simp) (fun k u hk => ?_) (fun p hp => World.cell?_of_block (hmv.block p.block hp.1 fun h => h)) (fun id hid => hρf id hid _) (fun _ _ _ h => h.elim) (fun _ _ _ h => h.elim) (fun _ _ _ _ _ h => h.elim)
   have := hget k u (by simpa using hk)
   simpa using this
 ·
  -- behind rows
  have hids := ids_of_rows hd hid
  obtain ⟨l00,hm'⟩ := hty id hid
  rw [hm] at hm'
  injection hm' with hm'
  injection hm' with e1 e2 e3
  subst e1 e2
  have hrd := own_rd (S := fun _ => True) (K := fun _ => True) (G := G) (l := l) hh hlc hcs
  have hnc : l.length * sz' ≤ cap * sz' := Nat.mul_le_mul_right _ hlc
  have hrun := run_append_k (P := P) w t o.type ty inf z sz' by_ hu hi hiz h1 h2 hzc hpos _ l.length cap _ hrd A' l'.length cap' ys hreads hrows.one hb hlc (.inr ⟨b,p,ty,cur,rfl,hh,hcs⟩)
  rw [← es] at hrun
  have hold : ∀ (i : Nat) (r : List Cell),l[i]? = some r → r.length = sz' ∧ ∀ (j : Nat) (d : Cell),r[j]? = some d → ∃ v,(fun k => cur[p + k]?) (i * sz' + j) = some v ∧ RC ρ (Sof w0 φ m w) w (G i j) d v := fun i r hi => ⟨(hcell i r hi).1,fun j d hj => by
   obtain ⟨v,hv,hrc⟩ := (hcell i r hi).2 j d hj
   exact ⟨v,by rw [← hv,Nat.add_assoc],hrc⟩⟩
  have hSb : ∀ q : Addr,Sof w0 φ m w q.block → q.block ≠ b := fun q hq e => hq.2.1 id _ hm (by rw [e]; exact hfb)
  rcases hrun with ⟨hroom,hrun⟩ | ⟨cap2,w',cur',_,hge,hrun,hh',hlt,hmv,hcs',hget⟩
  ·
   have hboth : ∃ w',(Builtin.append_ #[t,t] o.type #[a.eval s,.slice A' l'.length cap']).run P w = .ok (.slice (some ⟨b,p,none⟩) (l.length + l'.length) cap) w' ∧ Mv (· = b) w w' ∧ w'.heap[b]? = some (.cells (lay cur.toList (p + l.length * sz') ys).toArray ty (0,0)) := by
    rcases hrun with ⟨h0,hr⟩ | ⟨b2,base2,ety,cur2,e5,hb2,_,hr⟩
    ·
     have hy : ys = [] := List.eq_nil_of_length_eq_zero (by rw [hreads.1,h0]; simp)
     refine ⟨w,by rw [hr,es,h0]; rfl,Mv.refl _ w,?_⟩
     subst hy
     simp only [lay,List.append_nil,List.length_nil,Nat.add_zero,List.take_append_drop,Array.toArray_toList]
     exact hh
    ·
     injection e5 with e5
     injection e5 with e6 e7
     subst e6 e7
     rw [hh] at hb2
     injection hb2 with hb2
     injection hb2 with e8 e9 e10
     subst e8
     exact ⟨_,hr,Mv.setRow w b _,setRow_heap w b cur _ ty (0,0) hh⟩
   obtain ⟨w',hrun,hmv,hh'⟩ := hboth
   have hml : (l.length + l'.length) * sz' ≤ cap * sz' := Nat.mul_le_mul_right _ hroom
   rw [Nat.add_mul] at hml
   have hfit : p + l.length * sz' + ys.length ≤ cur.toList.length := by
    have e9 : cur.toList.length = cur.size := Array.length_toList
    rw [hreads.1]
    omega
   refine fin id _ w' (some (b,p,cap)) (φ id) (.inl hids) (hex _ hrun) (hmv.mono fun x hx => ⟨_,hm,by rw [hx]; exact hfb⟩) (fun b hb => .inr ⟨_,hm,hb⟩) ⟨by rw [List.length_append]; exact hlen,.inr ⟨b,p,cap,if_pos rfl,?_⟩⟩ (.inl ⟨b,p,cap,if_pos rfl,rfl⟩)
   refine RowR.glue (n := l.length) (G := G) (old := fun k => cur[p + k]?) (ρ := ρ) (w := w) (news := ys) rfl hold hrows ((congrFun (if_pos rfl) _).mpr hfb) hh' hroom ?_ (fun k hk => ?_) (fun k u hk => ?_) (fun q hq => World.cell?_of_block (hmv.block q.block hq.1 (hSb q hq))) (fun id hid => hρf id hid _) (fun i j x hx => hmv.block x (h.lt id _ x hm (hG i j x hx).1) (hG i j x hx).2) (fun i j x hx => ⟨(congrFun (if_pos rfl) _).mpr (hG i j x hx).1,(hG i j x hx).2⟩) hdj
   ·
    have := lay_length (l := cur.toList) (cs := ys) (off := p + l.length * sz') hfit
    simp only [List.size_toArray,this,Array.length_toList]
    exact hcs
   ·
    rw [List.getElem?_toArray,lay_at _ _ _ _ hfit,if_pos (by omega)]
    simp
   ·
    have hlt : k < ys.length := (List.getElem?_eq_some_iff.1 hk).1
    rw [List.getElem?_toArray,lay_at _ _ _ _ hfit,if_neg (by omega),if_pos (by omega),← hk]
    congr 1
    omega
  ·
   refine fin id _ w' (some (w.heap.size,0,cap2)) (fun x => x = w.heap.size ∨ φ id x) (.inl hids) (hex _ hrun) (hmv.mono fun _ h => h.elim) (fun b hb => hb.elim (fun e => .inl (by rw [e]; exact ⟨Nat.le_refl _,hlt⟩)) fun hb => .inr ⟨_,hm,hb⟩) ⟨by rw [List.length_append]; exact hlen,.inr ⟨w.heap.size,0,cap2,if_pos rfl,?_⟩⟩ (.inl ⟨w.heap.size,0,cap2,if_pos rfl,rfl⟩)
   refine RowR.glue (n := l.length) (G := G) (old := fun k => cur[p + k]?) (ρ := ρ) (w := w) (news := ys) rfl hold hrows ((congrFun (if_pos rfl) _).mpr (.inl rfl)) hh' hge (by omega) (fun k hk => ?_) (fun k u hk => ?_) (fun q hq => World.cell?_of_block (hmv.block q.block hq.1 fun h => h)) (fun id hid => hρf id hid _) (fun i j x hx => hmv.block x (h.lt id _ x hm (hG i j x hx).1) fun h => h) (fun i j x hx => ⟨(congrFun (if_pos rfl) _).mpr (.inr (hG i j x hx).1),Nat.ne_of_lt (h.lt id _ x hm (hG i j x hx).1)⟩) hdj
   ·
    have hlo : k < ((cur.toList.drop p).take (l.length * sz')).length := by rw [hrd.1]; exact hk
    have e5 := hget k _ (by rw [List.getElem?_append_left hlo]; exact List.getElem?_eq_getElem hlo)
    have e6 : ((cur.toList.drop p).take (l.length * sz'))[k]? = cur[p + k]? := by
     rw [List.getElem?_take,if_pos hk,List.getElem?_drop]
     simp
    rw [Nat.zero_add,e5,← List.getElem?_eq_getElem hlo,e6]
   ·
    have e5 := hget (l.length * sz' + k) u (by rw [List.getElem?_append_right (by rw [hrd.1]; omega),hrd.1,← hk]; congr 1; omega)
    rw [Nat.zero_add]
    exact e5
end
section
variable {P : Program} {w0 : Bas} {N : Nat} {ρ ρ' : Place} {φ : Foot} {f : Nat → AV} {m : Nm → Option AObj} {a : Act} {w w' : World} {o : Oper}

def chunk (sz : Nat) : Nat → List Cell → List (List Cell)
 | 0,_ => []
 | n + 1,l => l.take sz :: chunk sz n (l.drop sz)
theorem chunk_length {sz : Nat} : ∀ {n : Nat} {l : List Cell},(chunk sz n l).length = n
 | 0,_ => rfl
 | n + 1,l => by simp [chunk,chunk_length]
theorem chunk_get {sz : Nat} : ∀ {n : Nat} {l : List Cell},l.length = n * sz → ∀ (i : Nat) (r : List Cell),(chunk sz n l)[i]? = some r → r.length = sz ∧ ∀ (j : Nat) (d : Cell),r[j]? = some d → l[i * sz + j]? = some d
 | 0,l,_,i,r,h => by simp [chunk] at h
 | n + 1,l,hl,i,r,h => by
  rw [Nat.add_mul,Nat.one_mul] at hl
  cases i with
  | zero =>
   simp [chunk] at h
   subst h
   refine ⟨by rw [List.length_take]; omega,fun j d hj => ?_⟩
   rw [List.getElem?_take] at hj
   split at hj
   · simpa using hj
   · cases hj
  | succ i =>
   obtain ⟨h3,h4⟩ := chunk_get (sz := sz) (n := n) (l := l.drop sz) (by rw [List.length_drop]; omega) i r (by simpa [chunk] using h)
   refine ⟨h3,fun j d hj => ?_⟩
   have := h4 j d hj
   rw [List.getElem?_drop] at this
   rw [← this]
   congr 1
   rw [Nat.add_mul,Nat.one_mul]
   omega
theorem lay_sub {l cs : List Cell} {off : Nat} {c : Cell} (h : c ∈ lay l off cs) : c ∈ l ∨ c ∈ cs := by
 simp only [lay,List.mem_append] at h
 rcases h with (h | h) | h
 · exact .inl (List.mem_of_mem_take h)
 · exact .inr h
 · exact .inl (List.mem_of_mem_drop h)
theorem cells_ids {x : AV} {id : Nm} (h : id ∈ x.cells.flatMap Cell.ids) : id ∈ x.ids := by
 cases x with
 | one c => simpa [AV.cells,AV.ids] using h
 | agg l => exact h
 | tup l => simp [AV.cells] at h
theorem afill_ids {place : Nat → Option (Nat × Nat)} : ∀ {ps : List (Nat × AV)} {l l' : List Cell},afill place l ps = some l' → ∀ id ∈ l'.flatMap Cell.ids,id ∈ l.flatMap Cell.ids ∨ id ∈ ps.flatMap fun p => p.2.ids
 | [],l,l',h,id,hid => by
  simp only [afill,Option.some.injEq] at h
  subst h
  exact .inl hid
 | (i,x) :: ps,l,l',h,id,hid => by
  simp only [afill] at h
  split at h
  · cases h
  ·
   split at h
   ·
    rcases afill_ids h id hid with h1 | h1
    ·
     obtain ⟨c,hc,hi⟩ := List.mem_flatMap.1 h1
     rcases lay_sub hc with hc | hc
     · exact .inl (List.mem_flatMap.2 ⟨c,hc,hi⟩)
     ·
      exact .inr (by
       simp only [List.flatMap_cons,List.mem_append]
       exact .inl (cells_ids (List.mem_flatMap.2 ⟨c,hc,hi⟩)))
    · exact .inr (by simp only [List.flatMap_cons,List.mem_append]; exact .inr h1)
   · cases h
theorem aeval_fresh {fr : Nm} (h : Fresh f m fr) (x : Operand) : fr ∉ (aeval N f x).ids := by
 cases x with
 | tmp t =>
  simp only [aeval]
  split
  · exact h.hf t
  · simp [AV.ids,Cell.ids]
 | const u => simp [aeval,AV.ids,ofVal_ids]
 | global g => simp [aeval,AV.ids,Cell.ids]
 | func g => simp [aeval,AV.ids,Cell.ids]
def zrep {α : Type} : Nat → List α → List α
 | 0,_ => []
 | n + 1,z => z ++ zrep n z
theorem zrep_length {α : Type} (z : List α) : ∀ n,(zrep n z).length = n * z.length
 | 0 => by simp [zrep]
 | n + 1 => by simp [zrep,zrep_length z n,Nat.add_mul]; omega
theorem zrep_get {α : Type} (z : List α) : ∀ (n k : Nat),k < n * z.length → (zrep n z)[k]? = z[k % z.length]?
 | 0,k,h => by simp at h
 | n + 1,k,h => by
  rw [Nat.add_mul,Nat.one_mul] at h
  simp only [zrep]
  by_cases hk : k < z.length
  · rw [List.getElem?_append_left hk,Nat.mod_eq_of_lt hk]
  · rw [List.getElem?_append_right (by omega),zrep_get z n _ (by omega),show k % z.length = (k - z.length) % z.length from Nat.mod_eq_sub_mod (by omega)]
theorem zrep_map {α β : Type} (g : α → β) (z : List α) : ∀ n,zrep n (z.map g) = (zrep n z).map g
 | 0 => rfl
 | n + 1 => by simp [zrep,zrep_map g z n]
theorem made_zrep (z : Array Value) (n : Nat) : ((Array.range (n * z.size)).map (z[· % z.size]!)) = (zrep n z.toList).toArray := by
 apply Array.ext'
 apply List.ext_getElem?
 intro k
 by_cases hk : k < n * z.size
 ·
  have hpos : 0 < z.size := by
   rcases Nat.eq_zero_or_pos z.size with h0 | h0
   · rw [h0] at hk; simp at hk
   · exact h0
  have hmod : k % z.size < z.size := Nat.mod_lt _ hpos
  have h1 := zrep_get z.toList n k (by simpa using hk)
  simp only [Array.length_toList] at h1
  simp only [h1]
  simp [hk,hmod]
 · rw [List.getElem?_eq_none (by simp; omega),List.getElem?_eq_none (by simp [zrep_length]; omega)]

theorem zrep_ids {n : Nat} {zs : List Value} : (zrep n (zs.map ofVal)).flatMap Cell.ids = [] := by
 rw [zrep_map]
 refine List.flatMap_eq_nil_iff.2 fun c hc => ?_
 obtain ⟨v,_,rfl⟩ := List.mem_map.1 hc
 exact ofVal_ids v

theorem zero_of {e sz : Nat} {zs : List Value} {inf : TypeInfo} (hi : P.info? e = some inf) (hz : tZero P e = some zs) (hzl : zs.length = sz) : ∃ z,inf.zero = some z ∧ z.cells.toList = zs ∧ z.cells.size = sz := by
 unfold tZero at hz
 rw [hi] at hz
 simp only [Option.bind_some,Option.map_eq_some_iff] at hz
 obtain ⟨z,hz,hzs⟩ := hz
 exact ⟨z,hz,hzs,by rw [← hzl,← hzs]; simp⟩
theorem or_new (S : Nat → Prop) (fr : Nm) (n sz e : Nat) (cur : Array Value) (l : List (List Cell)) (hb : n ≤ 140737488355328) (hl : l.length = n) (hcs : cur.size = n * sz)
  (hcell : ∀ (i : Nat) (r : List Cell),l[i]? = some r → r.length = sz ∧ ∀ (j : Nat) (d : Cell),r[j]? = some d → d.ntr = true ∧ ∃ v,cur[i * sz + j]? = some v ∧ CV (pset ρ fr (some (w.heap.size,0,n))) S (w.alloc (.cells cur e)) d v ∧ v.oneCell' = true) :
  OR (pset ρ fr (some (w.heap.size,0,n))) (fset φ fr (· = w.heap.size)) S (w.alloc (.cells cur e)) fr (.row e sz l) := by
 refine ⟨by omega,.inr ⟨w.heap.size,0,n,if_pos rfl,cur,fun _ _ _ => False,(congrFun (if_pos rfl) _).mpr rfl,heap_alloc_new w _,by omega,by omega,fun i r hr => ⟨(hcell i r hr).1,fun j d hj => ?_⟩,fun _ _ _ h => h.elim,fun _ _ _ _ _ h => h.elim⟩⟩
 obtain ⟨hnt,v,hv,hcv,ho⟩ := (hcell i r hr).2 j d hj
 exact ⟨v,by rw [Nat.zero_add]; exact hv,ho,hcv,fun T c e => absurd e (ntr_ne hnt T c)⟩
theorem afill_ntr {place : Nat → Option (Nat × Nat)} : ∀ {ps : List (Nat × AV)} {l l' : List Cell},afill place l ps = some l' → (∀ d ∈ l,d.ntr = true) → ∀ d ∈ l',d.ntr = true
 | [],l,l',h,h0 => by
  simp only [afill,Option.some.injEq] at h
  subst h
  exact h0
 | (i,x) :: ps,l,l',h,h0 => by
  simp only [afill] at h
  split at h
  · cases h
  ·
   split at h
   ·
    rename_i hok
    refine afill_ntr h fun d hd => ?_
    rcases lay_sub hd with hd | hd
    · exact h0 d hd
    ·
     have := okCells_ntr hok.1 d hd
     cases d <;> first | rfl | exact absurd rfl (this _ _)
   · cases h
theorem ofVal_ntr (v : Value) : (ofVal v).ntr = true := by
 unfold ofVal
 split <;> rfl
theorem so_buildSlice (h : StR w0 N ρ φ f m a w) (t n : Nat) (fr : Nm) (e sz by_ : Nat) (ps : Array (Nat × Operand)) (zs : List Value) (l : List Cell) (ho : o.op = .buildSlice t n ps) (ht : tElt P t = some (e,sz,by_)) (hz : tZero P e = some zs) (hzl : zs.length = sz) (hn : n * sz ≤ 16777216) (hnb : n ≤ 16777216)
  (hk : zs.all zok = true) (hl : afill (fun i => some (i * sz,sz)) (zrep n (zs.map ofVal)) (partsAV (aeval N f) ps) = some l) (hfr : Fresh f m fr) (hlen : l.length = n * sz) :
  Does P w0 N f m o a w (.one (.own fr n)) [(fr,some (.row e sz (chunk sz n l)))] := by
 obtain ⟨hu,inf,hi,h1,h2⟩ := tElt_ok ht
 obtain ⟨z,hz,hzs,hzsz⟩ := zero_of hi hz hzl
 have hzc : CVs ρ (Sof w0 φ m w) w (zrep n (zs.map ofVal)) (zrep n zs) := ⟨by rw [zrep_length,zrep_length,List.length_map],fun i c v hc hv => by
  rw [zrep_map,List.getElem?_map] at hc
  rw [hv] at hc
  simp only [Option.map_some,Option.some.injEq] at hc
  subst hc
  refine ⟨ofVal_cv v,zok_one (List.all_eq_true.1 hk v ?_)⟩
  have hi : i < n * zs.length := by rw [← zrep_length]; exact (List.getElem?_eq_some_iff.1 hv).1
  rw [zrep_get _ _ _ hi] at hv
  exact List.mem_of_getElem? hv⟩
 obtain ⟨cur,hf,hcv⟩ := fill_ok (fun i => some (i * sz,sz)) (partsAV (aeval N f) ps) (ps.map fun (i,x) => (i,a.eval x)).toList _ l (zrep n zs) (by simp [partsAV]) (parts_rel h ps) hzc hl
 have hcsz : cur.size = n * sz := by rw [← Array.length_toList,hcv.1,hlen]
 have hids : fr ∉ l.flatMap Cell.ids := fun hid => by
  rcases afill_ids hl fr hid with h1 | h1
  · rw [zrep_ids] at h1; cases h1
  ·
   obtain ⟨p,hp,hi⟩ := List.mem_flatMap.1 h1
   simp only [partsAV,List.mem_map] at hp
   obtain ⟨q,_,rfl⟩ := hp
   exact aeval_fresh hfr q.2 hi
 have hnt := afill_ntr hl fun d hd => by
  rw [zrep_map] at hd
  obtain ⟨v,_,rfl⟩ := List.mem_map.1 hd
  exact ofVal_ntr v
 have hnew := h.new fr n cur e (.row e sz (chunk sz n l)) hfr (or_new _ fr n sz e cur _ (by omega) chunk_length hcsz fun i r hr => ⟨(chunk_get hlen i r hr).1,fun j d hj => by
  have hc := (chunk_get hlen i r hr).2 j d hj
  have hlt : i * sz + j < cur.toList.length := by rw [hcv.1]; exact (List.getElem?_eq_some_iff.1 hc).1
  have hcu := List.getElem?_eq_getElem hlt
  obtain ⟨hv,ho⟩ := hcv.2 _ d _ hc hcu
  exact ⟨hnt d (List.mem_of_getElem? hc),_,by simp,CV.next hv (fun p hp => World.cell?_alloc_lt w _ p hp.1) (fun _ hb => hb) (fun id hid => if_neg fun (e : id = fr) => hids (e ▸ List.mem_flatMap.2 ⟨d,List.mem_of_getElem? hc,hid⟩)),ho⟩⟩)
 intro K Q hK
 have hfill : Instr.fill (fun i => some (i * sz,sz)) (zrep n zs).toArray (ps.toList.map fun x => (x.1,a.eval x.2)) = some cur := by simpa using hf
 refine wp_of_run (w := w) (v := .slice (some ⟨w.heap.size,0,none⟩) n n) (w' := w.alloc (.cells cur e)) ?_ (hK _ _ ⟨_,_,hnew.put o.dst (x := .one (.own fr n)) (v := .slice (some ⟨w.heap.size,0,none⟩) n n) (.inl ⟨w.heap.size,0,n,if_pos rfl,rfl⟩)⟩)
 have hgt : ¬ n * sz > 2 ^ 24 := by omega
 simp only [execOp,ho,Instr.buildSlice,Sem.run_bind,run_underlying hu,Result.andThen_ok,sizeOf,typeInfo]
 simp only [run_program,Result.andThen_ok,hi,Sem.run_pure,h1,hgt,if_false]
 by_cases h0 : n * sz = 0
 ·
  have e0 : (zrep n zs) = [] := List.eq_nil_of_length_eq_zero (by rw [zrep_length,hzl]; exact h0)
  rw [e0] at hfill
  have e1 : (Array.map (fun x => (default : Value)) (Array.range 0)) = (([] : List Value)).toArray := by simp
  simp [h0]
  rw [e1,hfill]
  simp [newRow,newObj,Sem.run]
 ·
  have hm := made_zrep z.cells n
  rw [hzsz,hzs] at hm
  simp [h0,zeroValue,typeInfo,hi,hz,hm,hzsz]
  rw [hfill]
  simp [newRow,newObj,Sem.run]
theorem rep_cells {n sz : Nat} {zs : List Value} (hzl : zs.length = sz) (hkn : (zs.map ofVal).all Cell.known = true) (i : Nat) (r : List Cell) (hi : (List.replicate n (zs.map ofVal))[i]? = some r) :
  r.length = sz ∧ ∀ (j : Nat) (d : Cell),r[j]? = some d → d.ntr = true ∧ ∃ v,(zrep n zs)[i * sz + j]? = some v ∧ (∀ ρ S w,CV ρ S w d v) ∧ v.oneCell' = true := by
 rw [List.getElem?_replicate] at hi
 split at hi
 ·
  rename_i hin
  injection hi with hi'
  subst hi'
  refine ⟨by simp [hzl],fun j d hj => ?_⟩
  rw [List.getElem?_map] at hj
  obtain ⟨z0,hz0,rfl⟩ := Option.map_eq_some_iff.1 hj
  have hjl : j < sz := by rw [← hzl]; exact (List.getElem?_eq_some_iff.1 hz0).1
  have hlt : i * sz + j < n * sz := by
   have : (i + 1) * sz ≤ n * sz := Nat.mul_le_mul_right _ hin
   rw [Nat.add_mul,Nat.one_mul] at this
   omega
  refine ⟨ofVal_ntr z0,z0,?_,fun _ _ _ => ofVal_cv _,ofVal_one (List.all_eq_true.1 hkn _ (List.mem_map.2 ⟨z0,List.mem_of_getElem? hz0,rfl⟩))⟩
  have := zrep_get zs n (i * sz + j) (by rw [hzl]; exact hlt)
  rw [hzl,Nat.mul_comm,Nat.mul_add_mod,Nat.mod_eq_of_lt hjl,hz0] at this
  rw [Nat.mul_comm]
  exact this
 · cases hi
theorem so_makeSlice (h : StR w0 N ρ φ f m a w) (t : Nat) (fr : Nm) (e sz by_ : Nat) (x y : Operand) (k k' : IntKind) (n : Nat) (zs : List Value) (ho : o.op = .makeSlice t x y) (ht : tElt P t = some (e,sz,by_)) (hz : tZero P e = some zs) (hzl : zs.length = sz) (hx : aeval N f x = .one (.d (.int k n))) (hy : aeval N f y = .one (.d (.int k' n)))
  (hkn : (zs.map ofVal).all Cell.known = true) (hb : by_ * n ≤ 140737488355328) (hnb : n ≤ 140737488355328) (hfr : Fresh f m fr) :
  Does P w0 N f m o a w (.one (.own fr n)) [(fr,some (.row e sz (List.replicate n (zs.map ofVal))))] := by
 obtain ⟨hu,inf,hi,h1,h2⟩ := tElt_ok ht
 obtain ⟨z,hz,hzs,hzsz⟩ := zero_of hi hz hzl
 have hrun := run_make (P := P) w t e inf z hu hi hz k k' n n (by omega) (Int.le_refl _) (by
  have h : ((inf.bytes * n : Nat) : Int) ≤ 281474976710656 := by rw [h2]; omega
  rwa [Int.natCast_mul] at h) (by omega)
 simp only [Int.toNat_natCast] at hrun
 have hmade : madeCells z.cells (n * inf.size) = (zrep n zs).toArray := by
  have := made_zrep z.cells n
  rw [hzs] at this
  rw [h1,← hzsz]
  exact this
 rw [hmade] at hrun
 have hnew := h.new fr n (zrep n zs).toArray e _ hfr (or_new _ fr n sz e (zrep n zs).toArray (List.replicate n (zs.map ofVal)) hnb (by simp) (by simp [zrep_length,hzl]) fun i r hi => ⟨(rep_cells hzl hkn i r hi).1,fun j d hj => by
  obtain ⟨h3,v,h4,h5,h6⟩ := (rep_cells hzl hkn i r hi).2 j d hj
  exact ⟨h3,v,by rw [List.getElem?_toArray]; exact h4,h5 _ _ _,h6⟩⟩)
 intro K Q hK
 exact wp_of_run (w := w) (v := .slice (some ⟨w.heap.size,0,none⟩) n n) (w' := w.alloc (.cells (zrep n zs).toArray e))
  (by simp only [execOp,ho,av_int h hx,av_int h hy,Sem.run_bind,hrun]; rfl) (hK _ _ ⟨_,_,hnew.put o.dst (x := .one (.own fr n)) (v := .slice (some ⟨w.heap.size,0,none⟩) n n) (.inl ⟨w.heap.size,0,n,if_pos rfl,rfl⟩)⟩)

theorem so_appendZ (h : StR w0 N ρ φ f m a w) (s x : Operand) (t tn : Nat) (fr : Nm) (e sz by_ : Nat) (k kn : IntKind) (n : Nat) (zs : List Value) (ho : o.op = .call { callee := .builtin .append,args := #[s,x],argTypes := #[t,tn] })
  (ht : tElt P t = some (e,sz,by_)) (htn : tInt P tn = some kn) (hz : tZero P e = some zs) (hzl : zs.length = sz) (hs : aeval N f s = .one .nil) (hx : aeval N f x = .one (.d (.int k n)))
  (hkn : (zs.map ofVal).all Cell.known = true) (h0 : 0 < n) (hs0 : 0 < sz) (hb : by_ * n ≤ 140737488355328) (hnb : n ≤ 140737488355328) (hfr : Fresh f m fr) :
  Does P w0 N f m o a w (.one (.own fr n)) [(fr,some (.row e sz (List.replicate n (zs.map ofVal))))] := by
 obtain ⟨hu,inf,hi,h1,h2⟩ := tElt_ok ht
 obtain ⟨z,hz,hzs,hzsz⟩ := zero_of hi hz hzl
 have htn' : P.underlying tn = some (.int kn) := by
  unfold tInt at htn
  split at htn
  · injection htn with htn; subst htn; assumption
  · cases htn
 have hvs := aeval_ok h s
 rw [hs] at hvs
 have es : a.eval s = Value.slice none 0 0 := hvs
 have hrun := Lib.run_append_nil_zeros (P := P) w t tn o.type e inf z k kn hu htn' hi hz n h0 (by omega) (by omega) (by rw [h2,Nat.mul_comm]; omega)
 have hge := grownCap_ge w n 0 e
 have hzc : Builtin.zeroCells z.cells n = (zrep n zs).toArray := by
  have := made_zrep z.cells n
  rw [hzs] at this
  exact this
 have hr : RowsV ρ (Sof w0 φ m w) w sz (List.replicate n (zs.map ofVal)) (zrep n zs) := ⟨by rw [zrep_length,List.length_replicate,hzl],fun i r hi => ⟨(rep_cells hzl hkn i r hi).1,fun j d hj => by
  obtain ⟨h3,v,h4,h5,h6⟩ := (rep_cells hzl hkn i r hi).2 j d hj
  exact ⟨h3,v,h4,h5 _ _ _,h6⟩⟩⟩
 have hids : ∀ id,id ∉ (List.replicate n (zs.map ofVal)).flatMap (fun r => r.flatMap Cell.ids) := fun id hid => by
  obtain ⟨r,hr,hid⟩ := List.mem_flatMap.1 hid
  obtain ⟨_,rfl⟩ := List.mem_replicate.1 hr
  obtain ⟨d,hd,hid⟩ := List.mem_flatMap.1 hid
  obtain ⟨v,_,rfl⟩ := List.mem_map.1 hd
  rw [ofVal_ids] at hid
  cases hid
 rw [hzc] at hrun
 generalize hC : grownCap w n 0 e = C at hrun hge
 have hmv : Mv (fun _ => False) w (w.drew.alloc (.cells ((zrep n zs).toArray ++ Builtin.zeroCells z.cells (C - n)) e)) := (Mv.drew w).trans (Mv.alloc w.drew _) (fun _ h => h) (fun _ _ h => h)
 have hsz : ((zrep n zs).toArray ++ Builtin.zeroCells z.cells (C - n)).size = C * sz := by
  have : C * sz = n * sz + (C - n) * sz := by rw [← Nat.add_mul]; congr 1; omega
  rw [this,Array.size_append,List.size_toArray,zrep_length,hzl,size_zeroCells,hzsz]
 have hor : OR (pset ρ fr (some (w.heap.size,0,C))) (fset φ fr (· = w.heap.size)) (Sof w0 φ m w) (w.drew.alloc (.cells ((zrep n zs).toArray ++ Builtin.zeroCells z.cells (C - n)) e)) fr (.row e sz (List.replicate n (zs.map ofVal))) := by
  refine ⟨by simpa using hnb,.inr ⟨w.heap.size,0,C,if_pos rfl,?_⟩⟩
  refine RowR.glue (n := 0) (l := []) (G := fun _ _ _ => False) (old := fun _ => none) (ρ := ρ) (w := w) (news := zrep n zs) rfl (by simp) hr ((congrFun (if_pos rfl) _).mpr rfl) (heap_alloc_new w.drew _) (by simpa using hge) (by rw [hsz]; omega) (by simp) (fun k u hk => ?_) (fun p hp => World.cell?_of_block (hmv.block p.block hp.1 fun h => h)) (fun id hid => absurd hid (by simpa using hids id)) (fun _ _ _ h => h.elim) (fun _ _ _ h => h.elim) (fun _ _ _ _ _ h => h.elim)
  have hlt : k < (zrep n zs).toArray.size := by simpa using (List.getElem?_eq_some_iff.1 hk).1
  rw [Nat.zero_mul,Nat.add_zero,Nat.zero_add,Array.getElem?_append_left hlt]
  simpa using hk
 have hturn := h.turn fr fr (some (w.heap.size,0,C)) (· = w.heap.size) _ hfr (hmv.mono fun _ h => h.elim) (fun b hb => .inl (by rw [hb]; exact ⟨Nat.le_refl _,by simp⟩)) hor
 intro K Q hK
 have em : mset (mset m fr none) fr (some (.row e sz (List.replicate n (zs.map ofVal)))) = mupd m [(fr,some (.row e sz (List.replicate n (zs.map ofVal))))] := by
  funext i
  simp only [mupd,mput,mset]
  split <;> rfl
 rw [em] at hturn
 refine wp_of_run (w := w) (v := .slice (some ⟨w.heap.size,0,none⟩) n C) ?_ (hK _ _ ⟨_,_,hturn.1.put o.dst (x := .one (.own fr n)) (v := .slice (some ⟨w.heap.size,0,none⟩) n C) (.inl ⟨w.heap.size,0,C,if_pos rfl,rfl⟩)⟩)
 simp only [execOp,ho,resolve,invoke,builtin,Sem.run_bind,Sem.run_pure,Result.andThen_ok,List.map_toArray,List.map_cons,List.map_nil,es,av_int h hx,hrun]

def rowLen : Option AObj → Nat
 | some (.row _ _ l) => l.length
 | _ => 0
def beyond (m : Nm → Option AObj) (sz : Nat) (id : Nm) (n : Nat) (lo h : Int) : Option Cell :=
 if 0 ≤ lo ∧ lo ≤ h ∧ h ≤ (rowLen (m id) : Int) ∧ (n : Int) < h then some (.sub id sz lo.toNat (h.toNat - lo.toNat)) else none
def partOf (m : Nm → Option AObj) (sz : Nat) (c : Cell) (lo : Int) (hi : Option Int) : Option Cell :=
 match c with
 | .d (.sl l) => if (∀ r ∈ l,r.length = sz) ∧ 0 ≤ lo then match hi with
  | none => if lo ≤ l.length then some (.d (.sl (l.drop lo.toNat))) else none
  | some h => if lo ≤ h ∧ h ≤ l.length then some (.d (.sl ((l.take h.toNat).drop lo.toNat))) else none
  else none
 | .nil => if lo = 0 ∧ (hi = none ∨ hi = some 0) then some .nil else none
 | .own id n => match rowsOf m c with
  | some _ => match hi with
   | none => if 0 ≤ lo ∧ lo ≤ n then some (.sub id sz lo.toNat (n - lo.toNat)) else none
   | some h => if lo = 0 then (if 0 ≤ h ∧ h ≤ n then some (.own id h.toNat) else beyond m sz id n lo h) else if 0 ≤ lo ∧ lo ≤ h ∧ h ≤ n then some (.sub id sz lo.toNat (h.toNat - lo.toNat)) else beyond m sz id n lo h
  | none => none
 | .sub id sz' off n => match rowsOf m c with
  | some _ => if sz' = sz then match hi with
   | none => if 0 ≤ lo ∧ lo ≤ n then some (.sub id sz (off + lo.toNat) (n - lo.toNat)) else none
   | some h => if 0 ≤ lo ∧ lo ≤ h ∧ h ≤ n then some (.sub id sz (off + lo.toNat) (h.toNat - lo.toNat)) else none
   else none
  | none => none
 | _ => none
def hiV (n : Nat) : Option Int → Int
 | none => n
 | some h => h
theorem view_part {S : Nat → Prop} {l : List (List C)} {sz : Nat} {v : Value} (hv : View S w (.sl l) v) (hsz : ∀ r ∈ l,r.length = sz) (lo h : Nat) (h1 : lo ≤ h) (h2 : h ≤ l.length) : ∃ A cap,v = .slice A l.length cap ∧ l.length ≤ cap ∧ View S w (.sl ((l.take h).drop lo)) (sliced A lo h cap sz) := by
 cases hv with
 | sl _ sz' A cap u hsz' hc hb hA hu =>
 refine ⟨A,cap,rfl,hc,?_⟩
 have hlen : ((l.take h).drop lo).length = h - lo := by rw [List.length_drop,List.length_take]; omega
 have hget : ∀ (i : Nat) (r : List C),((l.take h).drop lo)[i]? = some r → l[lo + i]? = some r := fun i r hi => by
  rw [List.getElem?_drop,List.getElem?_take] at hi
  split at hi
  · exact hi
  · cases hi
 unfold sliced
 rw [← hlen]
 refine .sl _ sz _ _ (fun i j => u (lo + i) j) (fun i r hi => hsz r (List.mem_of_getElem? (hget i r hi))) (by rw [hlen]; omega) (by rw [hlen]; omega) (fun h0 => ?_) fun i r j d hi hj => hu _ r j d (hget i r hi) hj
 rw [hlen] at h0
 obtain ⟨b,p,rfl,hs,hcell⟩ := hA (by omega)
 have e : sz' = sz := by
  have h3 : l[0]? = some l[0] := List.getElem?_eq_getElem (by omega)
  rw [← hsz' 0 _ h3]
  exact hsz _ (List.mem_of_getElem? h3)
 subst e
 rw [if_neg (by omega)]
 refine ⟨b,p + lo * sz',by simp [add_lit],hs,fun i r j d hi hj => ?_⟩
 have := hcell _ r j d (hget i r hi) hj
 rw [← this,Nat.add_mul]
 congr 2
 omega
theorem own_part (h : StR w0 N ρ φ f m a w) {c : Cell} {l : List (List Cell)} {v : Value} (hc : rowsOf m c = some l) (hv : CV ρ (Sof w0 φ m w) w c v) : ∃ A cap,v = .slice A l.length cap ∧ l.length ≤ cap := by
 rcases (rowsOf_ok h hc hv).2 with ⟨rfl,A,rfl⟩ | ⟨id,ty,sz',l0,b,p,cap,cur,G,hid,hm,hsub,rfl,hfb,hh,hlc,_⟩
 · exact ⟨A,0,rfl,by simp⟩
 · exact ⟨_,cap,rfl,hlc⟩
theorem rowsOf_own {id : Nm} {n : Nat} {l : List (List Cell)} (hc : rowsOf m (.own id n) = some l) : l.length = n := by
 simp only [rowsOf] at hc
 split at hc
 ·
  split at hc
  · injection hc with hc; subst hc; assumption
  ·
   split at hc
   · injection hc with hc; subst hc; rw [List.length_take]; omega
   · cases hc
 · cases hc
theorem rowsOf_sub {id : Nm} {sz off n : Nat} {l : List (List Cell)} (hc : rowsOf m (.sub id sz off n) = some l) : l.length = n := by
 simp only [rowsOf] at hc
 split at hc
 ·
  split at hc
  · injection hc with hc; subst hc; rw [List.length_take,List.length_drop]; omega
  · cases hc
 · cases hc
theorem partOf_ok (h : StR w0 N ρ φ f m a w) {sz : Nat} {c c' : Cell} {lo : Int} {hi : Option Int} {v : Value} (hc : partOf m sz c lo hi = some c') (hv : CV ρ (Sof w0 φ m w) w c v) :
  ∃ A n cap,v = .slice A n cap ∧ 0 ≤ lo ∧ lo ≤ hiV n hi ∧ hiV n hi ≤ (cap : Int) ∧ n ≤ cap ∧ CV ρ (Sof w0 φ m w) w c' (sliced A lo.toNat (hiV n hi).toNat cap sz) := by
 unfold partOf at hc
 split at hc
 ·
  rename_i l
  split at hc
  ·
   rename_i h1
   obtain ⟨hsz,h0⟩ := h1
   split at hc
   ·
    split at hc
    ·
     rename_i h2
     injection hc with hc
     subst hc
     obtain ⟨A,cap,rfl,hcap,hview⟩ := view_part (show View _ w (.sl l) v from hv) hsz lo.toNat l.length (by omega) (Nat.le_refl _)
     rw [List.take_length] at hview
     exact ⟨A,l.length,cap,rfl,h0,h2,by simp only [hiV]; omega,hcap,by simp only [hiV,Int.toNat_natCast]; exact hview⟩
    · cases hc
   ·
    rename_i h
    split at hc
    ·
     rename_i h2
     injection hc with hc
     subst hc
     obtain ⟨A,cap,rfl,hcap,hview⟩ := view_part (show View _ w (.sl l) v from hv) hsz lo.toNat h.toNat (by omega) (by omega)
     exact ⟨A,l.length,cap,rfl,h0,h2.1,by simp only [hiV]; omega,hcap,hview⟩
    · cases hc
  · cases hc
 ·
  split at hc
  ·
   rename_i h1
   injection hc with hc
   subst hc
   obtain ⟨rfl,h1⟩ := h1
   rw [show v = .slice none 0 0 from hv]
   have e : hiV 0 hi = 0 := by rcases h1 with rfl | rfl <;> rfl
   exact ⟨none,0,0,rfl,by omega,by omega,by omega,by omega,by rw [e]; rfl⟩
  · cases hc
 ·
  rename_i id n
  split at hc
  ·
   rename_i l hl
   have hln := rowsOf_own hl
   have hown : ∀ (k : Nat),k ≤ n → ∃ A cap,v = .slice A n cap ∧ n ≤ cap ∧ CV ρ (Sof w0 φ m w) w (.own id k) (sliced A 0 k cap sz) := fun k hk => by
    obtain ⟨A,cap,e,hle⟩ := own_part h hl hv
    rw [hln] at e hle
    refine ⟨A,cap,e,hle,?_⟩
    have e2 : sliced A 0 k cap sz = .slice A k cap := by
     simp only [sliced,Nat.sub_zero,Nat.zero_mul]
     cases A with
     | none => simp
     | some x => simp [Addr.add]
    rw [e2]
    rcases hv with ⟨b,base,cap',hr,hv⟩ | ⟨hr,h0,A',hv⟩
    ·
     rw [hv] at e
     injection e with e3 e4 e5
     subst e3 e5
     exact .inl ⟨b,base,cap',hr,rfl⟩
    ·
     rw [hv] at e
     injection e with e3 e4 e5
     subst e3 e5
     have : k = 0 := by omega
     subst this
     exact .inr ⟨hr,rfl,_,rfl⟩
   have hsub : ∀ (lo k : Nat),lo ≤ k → k ≤ n → ∃ A cap,v = .slice A n cap ∧ n ≤ cap ∧ CV ρ (Sof w0 φ m w) w (.sub id sz lo (k - lo)) (sliced A lo k cap sz) := fun lo k hlo hk => by
    obtain ⟨A,cap,e,hle⟩ := own_part h hl hv
    rw [hln] at e hle
    refine ⟨A,cap,e,hle,?_⟩
    rcases hv with ⟨b,base,cap',hr,hv⟩ | ⟨hr,h0,A',hv⟩
    ·
     rw [hv] at e
     injection e with e3 e4 e5
     subst e3 e5
     exact .inl ⟨b,base,cap',_,hr,by omega,rfl,fun hlt => by rw [if_neg (by omega)]; simp [add_lit]⟩
    ·
     rw [hv] at e
     injection e with e3 e4 e5
     subst e3 e5
     have e6 : lo = 0 ∧ k = 0 := by omega
     obtain ⟨rfl,rfl⟩ := e6
     exact .inr ⟨hr,rfl,rfl,_,rfl⟩
   have hbey : ∀ h' : Int,beyond m sz id n lo h' = some c' → ∃ A n cap,v = .slice A n cap ∧ 0 ≤ lo ∧ lo ≤ hiV n (some h') ∧ hiV n (some h') ≤ (cap : Int) ∧ n ≤ cap ∧ CV ρ (Sof w0 φ m w) w c' (sliced A lo.toNat (hiV n (some h')).toNat cap sz) := fun h' hb => by
    unfold beyond at hb
    split at hb
    ·
     rename_i h2
     injection hb with hb
     subst hb
     obtain ⟨A,cap,e,hle⟩ := own_part h hl hv
     rw [hln] at e hle
     obtain ⟨q1,q2,q3,q4⟩ := h2
     cases hm : m id with
     | none => rw [hm] at q3; simp only [rowLen] at q3; omega
     | some ob =>
      cases ob with
      | box ty l0 => rw [hm] at q3; simp only [rowLen] at q3; omega
      | map kt et ag n0 l0 => rw [hm] at q3; simp only [rowLen] at q3; omega
      | row ty sz0 l0 =>
       rw [hm] at q3
       simp only [rowLen] at q3
       rcases hv with ⟨b,base,cap',hr,hv⟩ | ⟨hr,h0,A',hv⟩
       ·
        have hcap : l0.length ≤ cap' := (place_row h hm hr).2.elim fun _ x => x.elim fun _ y => y.2.2.1
        rw [hv] at e
        injection e with e3 e4 e5
        subst e3 e5
        exact ⟨_,n,cap',hv,q1,q2,by simp only [hiV]; omega,hle,.inl ⟨b,base,cap',_,hr,by omega,rfl,fun hlt => by rw [if_neg (by omega)]; simp [add_lit]⟩⟩
       ·
        rw [place_none h hm hr] at q3
        simp only [List.length_nil] at q3
        omega
    · cases hb
   split at hc
   ·
    split at hc
    ·
     rename_i h1
     injection hc with hc
     subst hc
     obtain ⟨A,cap,e,hle,hcv⟩ := hsub lo.toNat n (by omega) (Nat.le_refl _)
     exact ⟨A,n,cap,e,h1.1,h1.2,by simp only [hiV]; omega,hle,by simpa [hiV] using hcv⟩
    · cases hc
   ·
    rename_i h'
    split at hc
    ·
     rename_i h1
     subst h1
     split at hc
     ·
      rename_i h2
      injection hc with hc
      subst hc
      obtain ⟨A,cap,e,hle,hcv⟩ := hown h'.toNat (by omega)
      exact ⟨A,n,cap,e,by omega,h2.1,by simp only [hiV]; omega,hle,hcv⟩
     · exact hbey h' hc
    ·
     split at hc
     ·
      rename_i h2
      injection hc with hc
      subst hc
      obtain ⟨A,cap,e,hle,hcv⟩ := hsub lo.toNat h'.toNat (by omega) (by omega)
      exact ⟨A,n,cap,e,h2.1,h2.2.1,by simp only [hiV]; omega,hle,hcv⟩
     · exact hbey h' hc
  · cases hc
 ·
  rename_i id sz' off n
  split at hc
  ·
   rename_i l hl
   have hln := rowsOf_sub hl
   split at hc
   ·
    rename_i hsz
    subst hsz
    have hsub : ∀ (lo k : Nat),lo ≤ k → k ≤ n → ∃ A cap,v = .slice A n cap ∧ n ≤ cap ∧ CV ρ (Sof w0 φ m w) w (.sub id sz' (off + lo) (k - lo)) (sliced A lo k cap sz') := fun lo k hlo hk => by
     obtain ⟨A,cap,e,hle⟩ := own_part h hl hv
     rw [hln] at e hle
     refine ⟨A,cap,e,hle,?_⟩
     rcases hv with ⟨b,base,cap',A',hr,hle',hv,hA⟩ | ⟨hr,h0,h0',A',hv⟩
     ·
      rw [hv] at e
      injection e with e3 e4 e5
      subst e3 e5
      refine .inl ⟨b,base,cap',if cap' - off = lo then A' else A'.map (·.add (lo * sz')),hr,by omega,?_,fun hlt => ?_⟩
      ·
       unfold sliced
       rw [Nat.sub_add_eq]
      ·
       rw [if_neg (by omega),hA (by omega)]
       simp [add_lit,Nat.add_mul,Nat.add_assoc]
     ·
      rw [hv] at e
      injection e with e3 e4 e5
      subst e3 e5
      have e6 : lo = 0 ∧ k = 0 := by omega
      obtain ⟨rfl,rfl⟩ := e6
      exact .inr ⟨hr,by omega,rfl,_,rfl⟩
    split at hc
    ·
     split at hc
     ·
      rename_i h1
      injection hc with hc
      subst hc
      obtain ⟨A,cap,e,hle,hcv⟩ := hsub lo.toNat n (by omega) (Nat.le_refl _)
      exact ⟨A,n,cap,e,h1.1,h1.2,by simp only [hiV]; omega,hle,by simpa [hiV] using hcv⟩
     · cases hc
    ·
     rename_i h'
     split at hc
     ·
      rename_i h2
      injection hc with hc
      subst hc
      obtain ⟨A,cap,e,hle,hcv⟩ := hsub lo.toNat h'.toNat (by omega) (by omega)
      exact ⟨A,n,cap,e,h2.1,h2.2.1,by simp only [hiV]; omega,hle,hcv⟩
     · cases hc
   · cases hc
  · cases hc
 · cases hc
theorem so_slice (h : StR w0 N ρ φ f m a w) (t : TypeId) (x : Operand) (lo hi : Option Operand) (e sz by_ : Nat) (c c' : Cell) (l : Int) (u : Option Int) (ho : o.op = .slice t x lo hi none) (ht : tElt P t = some (e,sz,by_)) (hx : aeval N f x = .one c)
  (hlo : match lo with | none => l = 0 | some y => ∃ k,aeval N f y = .one (.d (.int k l))) (hhi : match hi with | none => u = none | some y => ∃ k n,aeval N f y = .one (.d (.int k n)) ∧ u = some n)
  (hc : partOf m sz c l u = some c') : Does P w0 N f m o a w (.one c') [] := by
 have hv := aeval_ok h x
 rw [hx] at hv
 obtain ⟨A,n,cap,e1,h0,h1,h2,h3,h4⟩ := partOf_ok h hc hv
 obtain ⟨hu,inf,hinf,hsz,_⟩ := tElt_ok ht
 have hel : P.elem t = e := by simp [Program.elem,hu]
 have hu' : P.underlying t = some (.slice (P.elem t)) := by rw [hel]; exact hu
 refine does_pure h ?_ h4
 have hs : (sizeOf (P.elem t)).run P w = .ok sz w := by rw [hel]; simp [sizeOf,typeInfo,hinf,hsz]
 have key : (Instr.sliceAt t (.slice A n cap) (lo.map a.eval) (hi.map a.eval) none).run P w = .ok (sliced A l.toNat (hiV n u).toNat cap sz) w := by
  rw [run_sliceAt_slice w t _ _ _ _ hu']
  cases lo with
  | none =>
   simp only at hlo
   subst hlo
   cases hi with
   | none =>
    simp only at hhi
    subst hhi
    simp only [Option.map_none]
    rw [run_slice_all w t A n cap hu',hs]
    simp [hiV]
   | some y =>
    obtain ⟨k,q,hy,rfl⟩ := hhi
    simp only [Option.map_none,Option.map_some,av_int h hy,hiV] at h1 h2 ⊢
    rw [run_slice_h w t A n cap hu' k q (by omega) (by omega),hs]
    rfl
  | some z =>
   obtain ⟨kz,hz⟩ := hlo
   cases hi with
   | none =>
    simp only at hhi
    subst hhi
    simp only [Option.map_none,Option.map_some,av_int h hz,hiV] at h1 h2 ⊢
    rw [run_slice_l w t A n cap hu' kz l (by omega) (by omega),hs]
    simp
   | some y =>
    obtain ⟨k,q,hy,rfl⟩ := hhi
    simp only [Option.map_some,av_int h hz,av_int h hy,hiV] at h1 h2 ⊢
    rw [run_slice_lh w t A n cap hu' kz k l q (by omega) (by omega) (by omega),hs]
    rfl
 simp only [execOp,ho,e1,Option.map_none,Sem.run_bind,key]
 rfl

theorem so_slice3 (h : StR w0 N ρ φ f m a w) (t : TypeId) (x y z u : Operand) (e sz by_ : Nat) (c : Cell) (rows : List (List Cell)) (k1 k2 k3 : IntKind) (n1 n2 n3 : Int) (ho : o.op = .slice t x (some y) (some z) (some u)) (ht : tElt P t = some (e,sz,by_)) (hx : aeval N f x = .one c)
  (hy : aeval N f y = .one (.d (.int k1 n1))) (hz : aeval N f z = .one (.d (.int k2 n2))) (hu : aeval N f u = .one (.d (.int k3 n3))) (hr : rowsOf m c = some rows) (h0 : 0 ≤ n1) (h1 : n1 ≤ n2) (h2 : n2 ≤ n3) (h3 : n3 ≤ (rows.length : Int)) : Does P w0 N f m o a w (.one .any) [] := by
 have hv := aeval_ok h x
 rw [hx] at hv
 obtain ⟨A,cap,e1,hcap⟩ := own_part h hr hv
 obtain ⟨hu',inf,hinf,hsz,_⟩ := tElt_ok ht
 have hel : P.elem t = e := by simp [Program.elem,hu']
 have hu2 : P.underlying t = some (.slice (P.elem t)) := by rw [hel]; exact hu'
 have hs : (sizeOf (P.elem t)).run P w = .ok sz w := by rw [hel]; simp [sizeOf,typeInfo,hinf,hsz]
 refine does_pure (u := sliced A n1.toNat n2.toNat n3.toNat sz) h ?_ trivial
 have key : (Instr.sliceAt t (.slice A rows.length cap) (some (a.eval y)) (some (a.eval z)) (some (a.eval u))).run P w = .ok (sliced A n1.toNat n2.toNat n3.toNat sz) w := by
  rw [run_sliceAt_slice w t _ _ _ _ hu2]
  simp only [av_int h hy,av_int h hz,av_int h hu]
  rw [run_slice_lhm w t A rows.length cap hu2 k1 k2 k3 n1 n2 n3 h0 h1 h2 (by omega),hs]
  rfl
 simp only [execOp,ho,e1,Option.map_some,Sem.run_bind,key]
 rfl
theorem RowR.over {S : Nat → Prop} {K : Nat → Prop} {ty sz b base cap : Nat} {l l' : List (List Cell)} (h : RowR ρ S w K ty sz l b base cap) {off : Nat} {us : List Value} (hp : off + l'.length ≤ l.length) (hc : RowsV ρ S w sz l' us)
  (hS : ∀ p : Addr,S p.block → p.block ≠ b) : ∃ cur : Array Value,w.heap[b]? = some (.cells cur ty (0,0)) ∧ base + off * sz + us.length ≤ cur.size ∧ K b ∧ RowR ρ S (w.setRow b (lay cur.toList (base + off * sz) us).toArray) K ty sz (lay l off l') b base cap := by
 obtain ⟨cur,G,hfb,hh,hlc,hcs,hcell,hG,hd⟩ := h
 have hle : (off + l'.length) * sz ≤ cap * sz := Nat.mul_le_mul_right _ (by omega)
 rw [Nat.add_mul] at hle
 have hul : us.length = l'.length * sz := hc.1
 have e9 : cur.toList.length = cur.size := Array.length_toList
 have hfit : base + off * sz + us.length ≤ cur.toList.length := by omega
 have hblk := setRow_heap w b cur (lay cur.toList (base + off * sz) us).toArray ty (0,0) hh
 have hk : ∀ p : Addr,S p.block → (w.setRow b (lay cur.toList (base + off * sz) us).toArray).cell? p = w.cell? p := fun p hp => World.cell?_of_block (setRow_other w b p.block _ (hS p hp))
 have hb : ∀ i1 j1 x,G i1 j1 x → (w.setRow b (lay cur.toList (base + off * sz) us).toArray).heap[x]? = w.heap[x]? := fun i1 j1 x hx => setRow_other w b x _ (hG i1 j1 x hx).2
 refine ⟨cur,hh,by omega,hfb,_,G,hfb,hblk,by rw [lay_length hp]; exact hlc,?_,fun i r hi => ?_,hG,hd⟩
 ·
  have := lay_length (l := cur.toList) (cs := us) (off := base + off * sz) hfit
  simp only [List.size_toArray,this,e9]
  exact hcs
 ·
  rw [lay_at _ _ _ _ hp] at hi
  have old : l[i]? = some r → (i < off ∨ off + l'.length ≤ i) → r.length = sz ∧ ∀ (j : Nat) (d : Cell),r[j]? = some d → ∃ v,(lay cur.toList (base + off * sz) us).toArray[base + i * sz + j]? = some v ∧ RC ρ S (w.setRow b (lay cur.toList (base + off * sz) us).toArray) (G i j) d v := fun hi hout => by
   obtain ⟨h1,h2⟩ := hcell i r hi
   refine ⟨h1,fun j d hj => ?_⟩
   obtain ⟨v,hv,hrc⟩ := h2 j d hj
   have hjl : j < sz := by rw [← h1]; exact (List.getElem?_eq_some_iff.1 hj).1
   refine ⟨v,?_,hrc.next hk (fun _ hx => hx) (fun _ _ => rfl) (hb i j) fun _ hx => hx⟩
   rw [List.getElem?_toArray,lay_at _ _ _ _ hfit]
   rcases hout with hlt | hge
   ·
    have : (i + 1) * sz ≤ off * sz := Nat.mul_le_mul_right _ hlt
    rw [Nat.add_mul,Nat.one_mul] at this
    rw [if_pos (by omega)]
    simpa using hv
   ·
    have : (off + l'.length) * sz ≤ i * sz := Nat.mul_le_mul_right _ hge
    rw [Nat.add_mul] at this
    rw [if_neg (by omega),if_neg (by omega)]
    simpa using hv
  by_cases h3 : i < off
  ·
   rw [if_pos h3] at hi
   exact old hi (.inl h3)
  ·
   rw [if_neg h3] at hi
   by_cases h4 : i < off + l'.length
   ·
    rw [if_pos h4] at hi
    obtain ⟨h1,h2⟩ := hc.2 _ r hi
    refine ⟨h1,fun j d hj => ?_⟩
    obtain ⟨hnt,v,hv,hcv,hone⟩ := h2 j d hj
    have hjl : j < sz := by rw [← h1]; exact (List.getElem?_eq_some_iff.1 hj).1
    refine ⟨v,?_,hone,hcv.next hk (fun _ hx => hx) (fun _ _ => rfl),fun T c e => absurd e (ntr_ne hnt T c)⟩
    have hlt : (i - off) * sz + j < us.length := (List.getElem?_eq_some_iff.1 hv).1
    have e1 : i * sz = off * sz + (i - off) * sz := by rw [← Nat.add_mul]; congr 1; omega
    rw [List.getElem?_toArray,lay_at _ _ _ _ hfit,if_neg (by omega),if_pos (by omega),← hv]
    congr 1
    omega
   ·
    rw [if_neg h4] at hi
    exact old hi (.inr (by omega))
theorem RowsV.take {S : Nat → Prop} {sz : Nat} {l : List (List Cell)} {ys : List Value} (h : RowsV ρ S w sz l ys) (k : Nat) : RowsV ρ S w sz (l.take k) (ys.take ((l.take k).length * sz)) := by
 have hle : (l.take k).length * sz ≤ l.length * sz := Nat.mul_le_mul_right _ (by rw [List.length_take]; omega)
 refine ⟨by rw [List.length_take,h.1]; omega,fun i r hi => ?_⟩
 have hil : i < (l.take k).length := (List.getElem?_eq_some_iff.1 hi).1
 rw [List.getElem?_take] at hi
 split at hi
 ·
  obtain ⟨h1,h2⟩ := h.2 i r hi
  refine ⟨h1,fun j d hj => ?_⟩
  obtain ⟨h3,u,hu,h4⟩ := h2 j d hj
  refine ⟨h3,u,?_,h4⟩
  have hjl : j < sz := by rw [← h1]; exact (List.getElem?_eq_some_iff.1 hj).1
  have : (i + 1) * sz ≤ (l.take k).length * sz := Nat.mul_le_mul_right _ hil
  rw [Nat.add_mul,Nat.one_mul] at this
  rw [List.getElem?_take,if_pos (by omega)]
  exact hu
 · cases hi
def dstAt : Cell → Option (Nm × Nat)
 | .own id _ => some (id,0)
 | .sub id _ off _ => some (id,off)
 | _ => none
theorem over_ok (h : StR w0 N ρ φ f m a w) {c : Cell} {id : Nm} {off e sz : Nat} {l0 l l' : List (List Cell)} {v : Value} (hc : rowsOf m c = some l) (hat : dstAt c = some (id,off)) (hm : m id = some (.row e sz l0)) (hsub : ∀ i s o n,c = .sub i s o n → s = sz) (hv : CV ρ (Sof w0 φ m w) w c v) {us : List Value} (hl : l'.length ≤ l.length) (hr : RowsV ρ (Sof w0 φ m w) w sz l' us) :
  ∃ A n cap,v = .slice A n cap ∧ n = l.length ∧ ((l' = [] ∧ us = []) ∨ ∃ b p,∃ cur : Array Value,A = some ⟨b,p,none⟩ ∧ w.heap[b]? = some (.cells cur e (0,0)) ∧ p + us.length ≤ cur.size ∧ StR w0 N ρ φ f (mset m id (some (.row e sz (lay l0 off l')))) a (w.setRow b (lay cur.toList p us).toArray)) := by
 obtain ⟨A,cap,e1,hcap⟩ := own_part h hc hv
 refine ⟨A,l.length,cap,e1,rfl,?_⟩
 by_cases h0 : l' = []
 ·
  subst h0
  exact .inl ⟨rfl,List.eq_nil_of_length_eq_zero (by simpa using hr.1)⟩
 ·
  right
  have hpos : 0 < l'.length := by
   rcases Nat.eq_zero_or_pos l'.length with h1 | h1
   · exact absurd (List.eq_nil_of_length_eq_zero h1) h0
   · exact h1
  have fin : ∀ b base cp,ρ id = some (b,base,cp) → off + l.length ≤ l0.length → A = some ⟨b,base + off * sz,none⟩ → ∃ b p,∃ cur : Array Value,A = some ⟨b,p,none⟩ ∧ w.heap[b]? = some (.cells cur e (0,0)) ∧ p + us.length ≤ cur.size ∧ StR w0 N ρ φ f (mset m id (some (.row e sz (lay l0 off l')))) a (w.setRow b (lay cur.toList p us).toArray) := fun b base cp hr1 hle hA => by
   obtain ⟨hb,hrr⟩ := place_row h hm hr1
   obtain ⟨cur,hh,hfit,hfb,hnew⟩ := hrr.over (off := off) (by omega) hr fun p hp e => hp.2.1 id _ hm (by rw [e]; exact hrr.elim fun _ h => h.elim fun _ h => h.1)
   exact ⟨b,_,cur,hA,hh,hfit,(h.write id (.row e sz l0) (.row e sz (lay l0 off l')) hm ((Mv.setRow w b _).mono fun x hx => by rw [hx]; exact hfb) ⟨by rw [lay_length (by omega)]; exact hb,.inr ⟨b,base,cp,hr1,hnew⟩⟩).1⟩
  cases c with
  | own i n =>
   simp only [dstAt,Option.some.injEq,Prod.mk.injEq] at hat
   obtain ⟨rfl,rfl⟩ := hat
   have hle : l.length ≤ l0.length := by
    simp only [rowsOf,hm] at hc
    split at hc
    · injection hc with hc; subst hc; omega
    ·
     split at hc
     · injection hc with hc; subst hc; rw [List.length_take]; omega
     · cases hc
   rcases hv with ⟨b,base,cap',hr1,hv⟩ | ⟨_,h1,A',hv⟩
   ·
    rw [hv] at e1
    injection e1 with e2 e3 e4
    exact fin b base cap' hr1 (by omega) (by rw [← e2]; simp)
   ·
    rw [hv] at e1
    injection e1 with e2 e3 e4
    omega
  | sub i s off' n =>
   simp only [dstAt,Option.some.injEq,Prod.mk.injEq] at hat
   obtain ⟨rfl,rfl⟩ := hat
   have hs := hsub _ _ _ _ rfl
   subst hs
   have hle : off' + l.length ≤ l0.length := by
    simp only [rowsOf,hm] at hc
    split at hc
    · injection hc with hc; subst hc; rw [List.length_take,List.length_drop]; omega
    · cases hc
   rcases hv with ⟨b,base,cap',A',hr1,hle',hv,hA⟩ | ⟨_,_,h1,A',hv⟩
   ·
    rw [hv] at e1
    injection e1 with e2 e3 e4
    exact fin b base cap' hr1 hle (by rw [← e2]; exact hA (by omega))
   ·
    rw [hv] at e1
    injection e1 with e2 e3 e4
    omega
  | _ => cases hat
theorem run_copyNat (t e : TypeId) (inf : TypeInfo) (ts : Array TypeId) (ty : TypeId) (ht : P.underlying t = some (.slice e)) (hi : P.info? e = some inf) (h0 : ts[0]? = some t) (A : Option Addr) (n c : Nat) (A' : Option Addr) (n' c' : Nat) (us : List Value) (hr : RdV w inf.size A' (Nat.min n' n) us) :
  (Builtin.copy_ ts ty #[.slice A n c,.slice A' n' c']).run P w = ((match A with | some x => storeCells x us | none => (pure () : Sem Unit)).run P w).andThen fun _ w => .ok (goInt (Nat.min n' n : Nat)) w := by
 have hf : (Builtin.firstCells inf.size (Nat.min n' n) (.slice A' n' c')).run P w = .ok us.toArray w := by
  have := run_first (P := P) w (c := c') hr
  cases A' <;> exact this
 cases A with
 | none => simp [Builtin.copy_,h0,run_underlying ht,Builtin.lenOf,sizeOf,typeInfo,hi,hf,Result.andThen]
 | some x => simp [Builtin.copy_,h0,run_underlying ht,Builtin.lenOf,sizeOf,typeInfo,hi,hf,Result.andThen]
theorem so_copy (h : StR w0 N ρ φ f m a w) (s x : Operand) (t t' : Nat) (e sz by_ : Nat) (cs cx : Cell) (id : Nm) (off : Nat) (l0 l l' : List (List Cell)) (ho : o.op = .call { callee := .builtin .copy,args := #[s,x],argTypes := #[t,t'] })
  (ht : tElt P t = some (e,sz,by_)) (hs : aeval N f s = .one cs) (hx : aeval N f x = .one cx) (hd : rowsOf m cs = some l) (hat : dstAt cs = some (id,off)) (hm : m id = some (.row e sz l0)) (hsub : ∀ i s o n,cs = .sub i s o n → s = sz) (hsrc : srcOf m cx = some l') (hl : ∀ r ∈ l',r.length = sz) :
  Does P w0 N f m o a w (.one (.d (.int .i64 ((Nat.min l'.length l.length : Nat) : Int)))) [(id,some (.row e sz (lay l0 off (l'.take l.length))))] := by
 obtain ⟨hu,inf,hi,h1,h2⟩ := tElt_ok ht
 have hvx := aeval_ok h x
 rw [hx] at hvx
 obtain ⟨A',cap',ys,ex,hreads,hrows⟩ := src_ok h hsrc hvx hl
 have hvs := aeval_ok h s
 rw [hs] at hvs
 have hrt := hrows.take l.length
 have hlt : (l'.take l.length).length = Nat.min l'.length l.length := by rw [List.length_take]; exact Nat.min_comm _ _
 obtain ⟨A,n,cap,es,hn,hcase⟩ := over_ok h hd hat hm hsub hvs (us := ys.take ((l'.take l.length).length * sz)) (by rw [List.length_take]; omega) hrt
 subst hn
 have hrd : RdV w inf.size A' (Nat.min l'.length l.length) (ys.take ((l'.take l.length).length * sz)) := by
  rw [← hlt,h1]
  refine ⟨hrt.1,fun h0 => ?_⟩
  have h0' : 0 < l'.length := by rw [List.length_take] at h0; omega
  obtain ⟨b,p,e5,hc⟩ := hreads.2 h0'
  refine ⟨b,p,e5,fun j u hj => hc j u ?_⟩
  rw [List.getElem?_take] at hj
  split at hj
  · exact hj
  · cases hj
 have hrun := run_copyNat (P := P) (w := w) t e inf #[t,t'] o.type hu hi rfl A l.length cap A' l'.length cap' _ hrd
 have em : ∀ X,mupd m [(id,some X)] = mset m id (some X) := fun _ => rfl
 intro K Q hK
 rcases hcase with ⟨hl0,hu0⟩ | ⟨b,p,cur,rfl,hh,hfit,hst⟩
 ·
  have hw : (execOp a.eval o).run P w = .ok (.value (goInt (Nat.min l'.length l.length : Nat))) w := by
   rw [hu0] at hrun
   have e7 : ((match A with | some x => storeCells x ([] : List Value) | none => (pure () : Sem Unit)).run P w) = .ok () w := by cases A <;> rfl
   rw [e7] at hrun
   simp only [execOp,ho,resolve,invoke,builtin,Sem.run_bind,Sem.run_pure,Result.andThen_ok,List.map_toArray,List.map_cons,List.map_nil,ex,es,hrun]
  refine wp_of_run hw (hK _ _ ⟨ρ,φ,?_⟩)
  have hlay : lay l0 off (l'.take l.length) = l0 := by rw [hl0]; simp [lay]
  rw [em,hlay]
  have : mset m id (some (.row e sz l0)) = m := by
   funext i
   simp only [mset]
   split
   · rename_i e9; rw [e9,hm]
   · rfl
  rw [this]
  exact h.put o.dst (x := .one (.d (.int .i64 _))) (View.int _ _)
 ·
  have hst2 := run_storeCells_at P b p e (ys.take ((l'.take l.length).length * sz)) 0 cur w hh (by simpa using hfit) hrt.one
  simp only [Nat.add_zero] at hst2
  have hw : (execOp a.eval o).run P w = .ok (.value (goInt (Nat.min l'.length l.length : Nat))) (w.setRow b (lay cur.toList p (ys.take ((l'.take l.length).length * sz))).toArray) := by
   simp only [hst2,Result.andThen] at hrun
   simp only [execOp,ho,resolve,invoke,builtin,Sem.run_bind,Sem.run_pure,Result.andThen_ok,List.map_toArray,List.map_cons,List.map_nil,ex,es,hrun,lay]
  refine wp_of_run hw (hK _ _ ⟨ρ,φ,?_⟩)
  rw [em]
  exact hst.put o.dst (x := .one (.d (.int .i64 _))) (View.int _ _)
theorem so_appendIn (h : StR w0 N ρ φ f m a w) (s x : Operand) (t : Nat) (e sz by_ : Nat) (id : Nm) (n : Nat) (cx : Cell) (l0 l' : List (List Cell)) (ho : o.op = .call { callee := .builtin .append,args := #[s,x],argTypes := #[t,t] })
  (ht : tElt P t = some (e,sz,by_)) (hz : ∃ z,tZero P e = some z ∧ z.length = sz) (hpos : 0 < by_) (hs : aeval N f s = .one (.own id n)) (hx : aeval N f x = .one cx) (hm : m id = some (.row e sz l0)) (hsrc : srcOf m cx = some l') (hl : ∀ r ∈ l',r.length = sz) (hn : n + l'.length ≤ l0.length)
  (hb : (n + l'.length) * by_ ≤ 140737488355328) : Does P w0 N f m o a w (.one (.own id (n + l'.length))) [(id,some (.row e sz (lay l0 n l')))] := by
 obtain ⟨hu,inf,hi,h1,h2⟩ := tElt_ok ht
 obtain ⟨zl,hz1,hz2⟩ := hz
 obtain ⟨z,hiz,hzc⟩ : ∃ z,inf.zero = some z ∧ z.cells.size = sz := by
  unfold tZero at hz1
  rw [hi] at hz1
  simp only [Option.bind_some,Option.map_eq_some_iff] at hz1
  obtain ⟨z,hz,hz'⟩ := hz1
  exact ⟨z,hz,by rw [← hz2,← hz']; simp⟩
 have hvx := aeval_ok h x
 rw [hx] at hvx
 obtain ⟨A',cap',ys,ex,hreads,hrows⟩ := src_ok h hsrc hvx hl
 have hvs := aeval_ok h s
 rw [hs] at hvs
 have hex : ∀ R,(Builtin.append_ #[t,t] o.type #[a.eval s,.slice A' l'.length cap']).run P w = R → (execOp a.eval o).run P w = R.andThen fun v w => .ok (.value v) w := fun R hR => by
  simp only [execOp,ho,resolve,invoke,builtin,Sem.run_bind,Sem.run_pure,Result.andThen_ok,List.map_toArray,List.map_cons,List.map_nil,ex,hR]
 have em : ∀ X,mupd m [(id,some X)] = mset m id (some X) := fun _ => rfl
 have hself : mset m id (some (.row e sz l0)) = m := by
  funext i
  simp only [mset]
  split
  · rename_i e9; rw [e9,hm]
  · rfl
 rcases hvs with ⟨b,base,cap,hr1,hv⟩ | ⟨hr1,h0,A,hv⟩
 ·
  obtain ⟨hbl,hrr⟩ := place_row h hm hr1
  obtain ⟨cur,G,hfb,hh,hlc,hcs,hcell,hG,hd⟩ := hrr
  have hnc : n * sz ≤ cap * sz := Nat.mul_le_mul_right _ (by omega)
  have hrd : RdV w sz (some ⟨b,base,none⟩) n ((cur.toList.drop base).take (n * sz)) := by
   have hct : ∀ (i : Nat) (r : List Cell),(l0.take n)[i]? = some r → r.length = sz ∧ ∀ (j : Nat) (d : Cell),r[j]? = some d → ∃ v,cur[base + i * sz + j]? = some v ∧ RC ρ (Sof w0 φ m w) w (G i j) d v := fun i r hi => by
    rw [List.getElem?_take] at hi
    split at hi
    · exact hcell i r hi
    · cases hi
   have := own_rd (S := fun _ => True) (K := fun _ => True) (G := G) (l := l0.take n) hh (by rw [List.length_take]; omega) hcs
   rw [List.length_take,Nat.min_eq_left (by omega)] at this
   exact this
  have hrun := run_append_k (P := P) w t o.type e inf z sz by_ hu hi hiz h1 h2 hzc hpos _ n cap _ hrd A' l'.length cap' ys hreads hrows.one hb (by omega) (.inr ⟨b,base,e,cur,rfl,hh,hcs⟩)
  rw [← hv] at hrun
  rcases hrun with ⟨hroom,hrun⟩ | ⟨cap2,w',cur',hno,_⟩
  ·
   obtain ⟨cur2,hh2,hfit,hfb2,hnew⟩ := (place_row h hm hr1).2.over (off := n) hn hrows fun p hp e9 => hp.2.1 id _ hm (by rw [e9]; exact hfb)
   rw [hh] at hh2
   injection hh2 with hh2
   injection hh2 with e8 e9 e10
   subst e8
   have hst := (h.write id (.row e sz l0) (.row e sz (lay l0 n l')) hm ((Mv.setRow w b _).mono fun x hx => by rw [hx]; exact hfb) ⟨by rw [lay_length (by omega)]; exact hbl,.inr ⟨b,base,cap,hr1,hnew⟩⟩).1
   have hgo : ∃ w',(Builtin.append_ #[t,t] o.type #[a.eval s,.slice A' l'.length cap']).run P w = .ok (.slice (some ⟨b,base,none⟩) (n + l'.length) cap) w' ∧ StR w0 N ρ φ f (mset m id (some (.row e sz (lay l0 n l')))) a w' := by
    rcases hrun with ⟨hl0,hr⟩ | ⟨b2,base2,ety,cur3,e5,hb3,_,hr⟩
    ·
     have hl' : l' = [] := List.eq_nil_of_length_eq_zero hl0
     subst hl'
     refine ⟨w,by rw [hr,hv]; rfl,?_⟩
     have e7 : lay l0 n ([] : List (List Cell)) = l0 := by simp [lay]
     rw [e7,hself]
     exact h
    ·
     injection e5 with e5
     injection e5 with e6 e7
     subst e6 e7
     rw [hh] at hb3
     injection hb3 with hb3
     injection hb3 with e8 e9 e10
     subst e8
     exact ⟨_,hr,hst⟩
   obtain ⟨w',hr,hst'⟩ := hgo
   intro K Q hK
   refine wp_of_run (hex _ hr) (hK _ _ ⟨ρ,φ,?_⟩)
   rw [em]
   exact hst'.put o.dst (x := .one (.own id (n + l'.length))) (.inl ⟨b,base,cap,hr1,rfl⟩)
  · exact absurd (show n + l'.length ≤ cap by omega) hno
 ·
  have hl00 := place_none h hm hr1
  subst hl00
  simp only [List.length_nil,Nat.le_zero_eq,Nat.add_eq_zero_iff] at hn
  have hl' : l' = [] := List.eq_nil_of_length_eq_zero hn.2
  subst hl'
  have hrun := run_append_k (P := P) w t o.type e inf z sz by_ hu hi hiz h1 h2 hzc hpos A 0 0 [] ⟨by simp,fun h => absurd h (by omega)⟩ A' ([] : List (List Cell)).length cap' ys hreads hrows.one (by simp) (Nat.le_refl _) (.inl ⟨rfl,rfl⟩)
  rw [← hv] at hrun
  have hr : (Builtin.append_ #[t,t] o.type #[a.eval s,.slice A' ([] : List (List Cell)).length cap']).run P w = .ok (a.eval s) w := by
   rcases hrun with ⟨_,⟨_,hr⟩ | ⟨b,base,ety,cur,e5,hb',_,hr⟩⟩ | ⟨_,_,_,hno,_⟩
   · rw [hr,hv]
   ·
    have hy : ys = [] := List.eq_nil_of_length_eq_zero (by simpa using hreads.1)
    subst hy
    rw [hr,hv]
    have e3 : w.setRow b (lay cur.toList (base + 0 * sz) []).toArray = w := by
     simp only [lay,List.append_nil,List.length_nil,Nat.add_zero,List.take_append_drop,Array.toArray_toList]
     exact setRow_self w b cur ety (0,0) hb'
    rw [e3]
    rfl
   · exact absurd (by simp) hno
  intro K Q hK
  refine wp_of_run (hex _ hr) (hK _ _ ⟨ρ,φ,?_⟩)
  rw [em]
  have e7 : lay ([] : List (List Cell)) n ([] : List (List Cell)) = [] := by simp [lay]
  rw [e7,hself]
  exact h.put o.dst (x := .one (.own id (n + ([] : List (List Cell)).length))) (.inr ⟨hr1,by simpa using h0,A,hv⟩)
end
end Go.Proofs.Ytabbejabdkkaiaa
