/- From a law's contract on data to the given statement: what arguments read as, and that they stay. No condition. -/
import Derived.Test.YtabbejabdkkaiaaKH
import Derived.Test.YtabbejabdkkaiaaRows
import Derived.SizedLaws
import Derived.WideKeyArgs
import Derived.JoinedOf
import Derived.WalkKit
import Derived.ProofKit
import Derived.ChangeArms
import Derived.OpenShut
set_option linter.unusedSimpArgs false
set_option linter.unusedVariables false
namespace Go.Proofs.Ytabbejabdkkaiaa
open Go.RowKit Go.ChangeShapes Go.WideShapes Go.ChangeAt

mutual
inductive HasTy (P : Program) : TypeId → List C → Prop where
 | int {t : TypeId} {k : IntKind} (n : Int) (hu : P.underlying t = some (.int k)) (hw : k.min ≤ n ∧ n ≤ k.max) : HasTy P t [.int k n]
 | bool {t : TypeId} (b : Bool) (hu : P.underlying t = some .bool) : HasTy P t [.bool b]
 | str {t : TypeId} (s : ByteArray) (hu : P.underlying t = some .string) (hl : s.size ≤ reachBytes) : HasTy P t [.str s]
 | sl {t e : TypeId} (l : List (List C)) (hu : P.underlying t = some (.slice e)) (hl : l.length * P.bytesOf e ≤ reachBytes) (h : ∀ r ∈ l,HasTy P e r) : HasTy P t [.sl l]
 | struct {t : TypeId} {fs : Array Field} (l : List C) (hu : P.underlying t = some (.struct fs)) (h : HasTys P (fs.toList.map (·.type)) l) : HasTy P t l
 | array {t e : TypeId} {n : Nat} (l : List C) (hu : P.underlying t = some (.array n e)) (h : HasTys P (List.replicate n e) l) : HasTy P t l
inductive HasTys (P : Program) : List TypeId → List C → Prop where
 | nil : HasTys P [] []
 | cons {t : TypeId} {ts : List TypeId} {x y : List C} (h : HasTy P t x) (h' : HasTys P ts y) : HasTys P (t :: ts) (x ++ y)
end

section
variable {P : Program} {t e : TypeId} {l : List C}
theorem HasTy.int_inv {k : IntKind} (hu : P.underlying t = some (.int k)) (h : HasTy P t l) : ∃ n : Int,l = [.int k n] ∧ k.min ≤ n ∧ n ≤ k.max := by
 cases h with
 | int n h1 h2 => rw [hu] at h1; cases h1; exact ⟨n,rfl,h2⟩
 | _ => simp_all
theorem HasTy.bool_inv (hu : P.underlying t = some .bool) (h : HasTy P t l) : ∃ b : Bool,l = [.bool b] := by
 cases h with
 | bool b h1 => exact ⟨b,rfl⟩
 | _ => simp_all
theorem HasTy.str_inv (hu : P.underlying t = some .string) (h : HasTy P t l) : ∃ s : ByteArray,l = [.str s] ∧ s.size ≤ reachBytes := by
 cases h with
 | str s h1 h2 => exact ⟨s,rfl,h2⟩
 | _ => simp_all
theorem HasTy.sl_inv (hu : P.underlying t = some (.slice e)) (h : HasTy P t l) : ∃ r : List (List C),l = [.sl r] ∧ r.length * P.bytesOf e ≤ reachBytes ∧ ∀ x ∈ r,HasTy P e x := by
 cases h with
 | sl r h1 h2 h3 => rw [hu] at h1; cases h1; exact ⟨r,rfl,h2,h3⟩
 | _ => simp_all
theorem HasTy.struct_inv {fs : Array Field} (hu : P.underlying t = some (.struct fs)) (h : HasTy P t l) : HasTys P (fs.toList.map (·.type)) l := by
 cases h with
 | struct l h1 h2 => rw [hu] at h1; cases h1; exact h2
 | _ => simp_all
theorem HasTy.array_inv {n : Nat} (hu : P.underlying t = some (.array n e)) (h : HasTy P t l) : HasTys P (List.replicate n e) l := by
 cases h with
 | array l h1 h2 => rw [hu] at h1; cases h1; exact h2
 | _ => simp_all
theorem HasTys.nil_inv (h : HasTys P [] l) : l = [] := by cases h; rfl
theorem HasTys.cons_inv {ts : List TypeId} (h : HasTys P (t :: ts) l) : ∃ x y,l = x ++ y ∧ HasTy P t x ∧ HasTys P ts y := by
 cases h with
 | cons h h' => exact ⟨_,_,rfl,h,h'⟩
theorem rows_of {α : Type} {enc : α → List C} {wf : α → Prop} : ∀ {r : List (List C)},(∀ x ∈ r,∃ a,x = enc a ∧ wf a) → ∃ l : List α,r = l.map enc ∧ (∀ a ∈ l,wf a) ∧ l.length = r.length
 | [],_ => ⟨[],rfl,by simp,rfl⟩
 | x :: r,h => by
  obtain ⟨a,rfl,ha⟩ := h x (by simp)
  obtain ⟨l,rfl,hl,hn⟩ := rows_of (r := r) (fun y hy => h y (by simp [hy]))
  exact ⟨a :: l,rfl,by simpa using ⟨ha,hl⟩,by simp⟩
end

def laidFrom (P : Program) (total : Nat) : Nat → List Field → Bool
 | off,[] => decide (off = total)
 | off,f :: r => decide (f.offset = off) && laidFrom P total (off + P.cellsOf f.type) r
def plainTy (P : Program) : Nat → TypeId → Bool
 | 0,_ => false
 | n + 1,t => match P.underlying t with
  | some .bool | some (.int _) | some .string => true
  | some (.slice e) => plainTy P n e && decide (0 < P.bytesOf e) && decide (0 < P.cellsOf e)
  | some (.struct fs) => laidFrom P (P.cellsOf t) 0 fs.toList && fs.toList.all fun f => plainTy P n f.type
  | some (.array m e) => decide (P.cellsOf t = m * P.cellsOf e) && plainTy P n e
  | _ => false
theorem laidFrom_le {P : Program} {total : Nat} : ∀ {off : Nat} {fl : List Field},laidFrom P total off fl = true → off ≤ total
 | off,[],h => by simp [laidFrom] at h; omega
 | off,f :: r,h => by
  simp only [laidFrom,Bool.and_eq_true] at h
  have := laidFrom_le h.2
  omega

section
variable {H : Type} {enc : TypeId × Value → H} {P : Program} {w : World}
def Vw (w : World) (l : List C) (cs : List Value) : Prop := l.length = cs.length ∧ ∀ (i : Nat) (c : C) (v : Value),l[i]? = some c → cs[i]? = some v → View (· < w.heap.size) w c v
theorem Vw.append {w : World} {l l' : List C} {cs cs' : List Value} (h : Vw w l cs) (h' : Vw w l' cs') : Vw w (l ++ l') (cs ++ cs') := by
 refine ⟨by simp [h.1,h'.1],fun i c v hc hv => ?_⟩
 by_cases hi : i < l.length
 ·
  rw [List.getElem?_append_left hi] at hc
  rw [List.getElem?_append_left (h.1 ▸ hi)] at hv
  exact h.2 i c v hc hv
 ·
  rw [List.getElem?_append_right (by omega)] at hc
  rw [List.getElem?_append_right (by rw [← h.1]; omega)] at hv
  rw [← h.1] at hv
  exact h'.2 _ c v hc hv
theorem Vw.one {w : World} {c : C} {v : Value} (h : View (· < w.heap.size) w c v) : Vw w [c] [v] := ⟨rfl,fun i c' v' hc hv => by
 cases i with
 | zero => simp at hc hv; subst hc hv; exact h
 | succ i => simp at hc⟩
theorem cells_get {a : Addr} {n : Nat} {cs : List Value} (h : w.cells? 0 a n = some cs) : cs.length = n ∧ ∀ j,j < n → w.cell? (a.add j) = cs[j]? := by
 unfold World.cells? at h
 rw [if_pos (Nat.zero_le _)] at h
 have aux : ∀ (k : List Nat) (cs : List Value),k.mapM (fun i => w.cell? (a.add i)) = some cs → cs.length = k.length ∧ ∀ (j x : Nat),k[j]? = some x → w.cell? (a.add x) = cs[j]? := by
  intro k
  induction k with
  | nil => intro cs h; simp at h; subst h; simp
  | cons x k ih =>
   intro cs h
   simp only [List.mapM_cons,Option.bind_eq_bind,Option.bind_eq_some_iff,Option.pure_def,Option.some.injEq] at h
   obtain ⟨y,hy,ys,hys,rfl⟩ := h
   obtain ⟨h1,h2⟩ := ih ys hys
   refine ⟨by simp [h1],fun j z hz => ?_⟩
   cases j with
   | zero => simp at hz; subst hz; simpa using hy
   | succ j => simpa using h2 j z (by simpa using hz)
 obtain ⟨h1,h2⟩ := aux _ _ h
 refine ⟨by simpa using h1,fun j hj => h2 j j (by simp [hj])⟩
theorem mapM_get {α β : Type} {f : α → Option β} : ∀ {k : List α} {ys : List β},k.mapM f = some ys → ys.length = k.length ∧ ∀ (j : Nat) (x : α),k[j]? = some x → f x = ys[j]?
 | [],ys,h => by simp at h; subst h; simp
 | x :: k,ys,h => by
  simp only [List.mapM_cons,Option.bind_eq_bind,Option.bind_eq_some_iff,Option.pure_def,Option.some.injEq] at h
  obtain ⟨y,hy,zs,hzs,rfl⟩ := h
  obtain ⟨h1,h2⟩ := mapM_get hzs
  refine ⟨by simp [h1],fun j z hz => ?_⟩
  cases j with
  | zero => simp at hz; subst hz; simpa using hy
  | succ j => simpa using h2 j z (by simpa using hz)

theorem weightsAll_mem {e : TypeId} : ∀ {l : List (DataW H)} {d : DataW H},d ∈ l → ∀ x ∈ d.weights P e,x ∈ DataW.weightsAll P e l
 | [],d,hd,_,_ => by cases hd
 | y :: l,d,hd,x,hx => by
  simp only [DataW.weightsAll,List.mem_append]
  rcases List.mem_cons.1 hd with rfl | hd
  · exact .inl hx
  · exact .inr (weightsAll_mem hd x hx)
def laidP (P : Program) (total : Nat) : Nat → List (Nat × TypeId) → Prop
 | off,[] => off = total
 | off,f :: r => f.1 = off ∧ laidP P total (off + P.cellsOf f.2) r
theorem laidP_le {total : Nat} : ∀ {off : Nat} {fl : List (Nat × TypeId)},laidP P total off fl → off ≤ total
 | off,[],h => by simp [laidP] at h; omega
 | off,f :: r,h => by
  have := laidP_le h.2
  omega
theorem laidP_fields {total : Nat} : ∀ {off : Nat} {fl : List Field},laidFrom P total off fl = true → laidP P total off (fl.map fun f => (f.offset,f.type))
 | off,[],h => by simpa [laidFrom,laidP] using h
 | off,f :: r,h => by
  simp only [laidFrom,Bool.and_eq_true,decide_eq_true_eq] at h
  exact ⟨h.1,laidP_fields h.2⟩
theorem laidP_array {e : TypeId} {total : Nat} : ∀ {n s : Nat},total = (s + n) * P.cellsOf e → laidP P total (s * P.cellsOf e) ((List.range' s n).map fun i => (i * P.cellsOf e,e))
 | 0,s,h => by simpa [laidP] using h.symm
 | n + 1,s,h => by
  simp only [List.range'_succ,List.map_cons]
  refine ⟨rfl,?_⟩
  have := laidP_array (e := e) (total := total) (n := n) (s := s + 1) (by rw [h]; congr 1; omega)
  simp only [Nat.add_mul,Nat.one_mul] at this ⊢
  exact this
theorem fields_view {n : Nat} {cs : List Value} {total : Nat} (hcs : cs.length = total) : ∀ {fl : List (Nat × TypeId)} {off : Nat} {xs : List (DataW H × List MemPlace)},laidP P total off fl → xs.length = fl.length →
  (∀ (i : Nat) (f : Nat × TypeId),fl[i]? = some f → DataW.trod enc P w 0 (fun _ => true) true n f.2 ((cs.drop f.1).take (P.cellsOf f.2)) = xs[i]?) →
  (∀ (i : Nat) (f : Nat × TypeId) (y : DataW H × List MemPlace),fl[i]? = some f → xs[i]? = some y → DataW.trod enc P w 0 (fun _ => true) true n f.2 ((cs.drop f.1).take (P.cellsOf f.2)) = some y → ∃ l,HasTy P f.2 l ∧ Vw w l ((cs.drop f.1).take (P.cellsOf f.2))) →
  ∃ l,HasTys P (fl.map (·.2)) l ∧ Vw w l (cs.drop off)
 | [],off,xs,hl,hx,_,_ => by
  simp only [laidP] at hl
  refine ⟨[],.nil,?_,fun i c v hc => by simp at hc⟩
  rw [List.length_drop]
  simp
  omega
 | f :: r,off,[],hl,hx,_,_ => by simp at hx
 | f :: r,off,y :: xs,hl,hx,hf,hi => by
  obtain ⟨h1,h2⟩ := hl
  subst h1
  have hle := laidP_le h2
  obtain ⟨l1,h3,h4⟩ := hi 0 f y rfl rfl (hf 0 f rfl)
  obtain ⟨l2,h5,h6⟩ := fields_view hcs (fl := r) (off := f.1 + P.cellsOf f.2) (xs := xs) h2 (by simpa using hx) (fun i g hg => by simpa using hf (i + 1) g (by simpa using hg))
   fun i g z hg hz ht => hi (i + 1) g z (by simpa using hg) (by simpa using hz) ht
  refine ⟨l1 ++ l2,.cons h3 h5,?_⟩
  have : cs.drop f.1 = (cs.drop f.1).take (P.cellsOf f.2) ++ cs.drop (f.1 + P.cellsOf f.2) := by
   rw [← List.drop_drop,List.take_append_drop]
  rw [this]
  exact h4.append h6
theorem trod_view : ∀ (n k : Nat) (t : TypeId) (cs : List Value) (d : DataW H) (ps : List MemPlace),plainTy P k t = true → DataW.trod enc P w 0 (fun _ => true) true n t cs = some (d,ps) → (∀ x ∈ d.weights P t,x ≤ reachBytes) →
  ∃ l,HasTy P t l ∧ Vw w l cs := by
 intro n
 induction n with
 | zero => intro k t cs d ps _ h; simp [DataW.trod] at h
 | succ n ih =>
  intro k t cs d ps hk h hw
  cases k with
  | zero => simp [plainTy] at hk
  | succ k =>
   unfold plainTy at hk
   split at hk
   ·
    rename_i hu
    obtain ⟨b,rfl,hx⟩ := DataW.trod_bool hu h
    exact ⟨[.bool b],.bool b hu,Vw.one (.bool b)⟩
   ·
    rename_i k' hu
    obtain ⟨x,rfl,hx,hwf⟩ := DataW.trod_int hu h
    simp only [Lit.wf,Bool.and_eq_true,decide_eq_true_eq] at hwf
    exact ⟨[.int k' x],.int x hu hwf,Vw.one (.int k' x)⟩
   ·
    rename_i hu
    obtain ⟨s,rfl,hx,hl⟩ := DataW.trod_string hu h
    injection hx with hx1 hx2
    subst hx1
    have := hw s.data.toList.length (by simp [DataW.weights])
    exact ⟨[.str s],.str s hu this,Vw.one (.str s)⟩
   ·
    rename_i e hu
    simp only [Bool.and_eq_true,decide_eq_true_eq] at hk
    obtain ⟨⟨hke,hby⟩,hsz⟩ := hk
    rcases DataW.trod_slice hu h with ⟨rfl,hx⟩ | ⟨a,len,cap,elems,rest,m,hm,rfl,hx,_,hlc,hcm,hel,hget,hsp,_⟩
    · exact ⟨[.sl []],.sl [] hu (by rw [List.length_nil,Nat.zero_mul]; exact Nat.zero_le _) (by simp),Vw.one (.sl [] 0 none 0 (fun _ _ => .bool true) (by simp) (Nat.le_refl _) (by simp) (by simp) (by simp))⟩
    ·
     injection hm with hm
     subst hm
     injection hx with hx1 hx2
     subst hx1
     simp only [DataW.weights,hu,List.mem_cons,List.mem_append,List.length_map] at hw
     have hrow : ∀ i : Nat,∃ r : List C,i < len → HasTy P e r ∧ ∃ ds,w.cells? 0 (a.add (i * P.cellsOf e)) (P.cellsOf e) = some ds ∧ Vw w r ds := by
      intro i
      by_cases hi : i < len
      ·
       have h1 := hget i hi
       have hie : i < elems.length := by omega
       rw [List.getElem?_eq_getElem hie,Option.bind_eq_some_iff] at h1
       obtain ⟨ds,hds,h2⟩ := h1
       obtain ⟨r,hr,hv⟩ := ih k e ds (elems[i]).1 (elems[i]).2 hke h2 (fun x hx => hw x (.inr (.inl (weightsAll_mem (List.mem_map.2 ⟨elems[i],List.getElem_mem hie,rfl⟩) x hx))))
       exact ⟨r,fun _ => ⟨hr,ds,hds,hv⟩⟩
      · exact ⟨[],fun h => absurd h hi⟩
     obtain ⟨f,hf⟩ := Classical.axiomOfChoice hrow
     have hll : ((List.range len).map f).length = len := by simp
     have hbound := hw _ (.inl rfl)
     have hlen47 : len ≤ 140737488355328 := by
      have h1 : (elems.length + rest.length) * 1 ≤ (elems.length + rest.length) * P.bytesOf e := Nat.mul_le_mul_left _ hby
      have : reachBytes = 0x7ffffffff000 := rfl
      omega
     refine ⟨[.sl ((List.range len).map f)],.sl _ hu ?_ ?_,?_⟩
     ·
      rw [hll]
      refine Nat.le_trans (Nat.mul_le_mul_right _ ?_) hbound
      omega
     ·
      intro r hr
      obtain ⟨i,hi,rfl⟩ := List.mem_map.1 hr
      exact (hf i (by simpa using hi)).1
     ·
      refine Vw.one ?_
      have hfi : ∀ (i : Nat) (r : List C),((List.range len).map f)[i]? = some r → i < len ∧ r = f i := by
       intro i r hr
       have hi : i < len := by
        have := (List.getElem?_eq_some_iff.1 hr).1
        simpa using this
       rw [List.getElem?_map,List.getElem?_range hi] at hr
       exact ⟨hi,(Option.some.inj hr).symm⟩
      have hrl : ∀ i,i < len → (f i).length = P.cellsOf e := by
       intro i hi
       obtain ⟨_,ds,hds,hv⟩ := hf i hi
       rw [hv.1]
       exact (cells_get hds).1
      have hspot : 0 < len → a.spot = none := by
       intro h0
       obtain ⟨_,ds,hds,hv⟩ := hf 0 h0
       obtain ⟨g1,g2⟩ := cells_get hds
       have := g2 0 hsz
       rw [List.getElem?_eq_getElem (by omega)] at this
       simp only [Nat.zero_mul,Addr.add,if_pos] at this
       unfold World.cell? at this
       split at this
       ·
        split at this
        · cases this
        ·
         rename_i h5
         simpa using h5
       · cases this
      have hadd : ∀ i j,0 < len → (a.add (i * P.cellsOf e)).add j = ⟨a.block,a.off + (i * P.cellsOf e + j),none⟩ := by
       intro i j h0
       have hs := hspot h0
       obtain ⟨b,o,s⟩ := a
       simp only at hs
       subst hs
       unfold Addr.add
       split <;> split <;> simp_all <;> omega
      have hlt : ∀ (i j : Nat) (d : C),i < len → (f i)[j]? = some d → ∃ v,w.cell? ⟨a.block,a.off + (i * P.cellsOf e + j),none⟩ = some v ∧ View (· < w.heap.size) w d v := by
       intro i j d hi hd
       obtain ⟨_,ds,hds,hv⟩ := hf i hi
       obtain ⟨g1,g2⟩ := cells_get hds
       have hj : j < ds.length := by
        have := (List.getElem?_eq_some_iff.1 hd).1
        rw [← hv.1]
        exact this
       have h6 := g2 j (by omega)
       rw [List.getElem?_eq_getElem hj,hadd i j (by omega)] at h6
       exact ⟨ds[j],h6,hv.2 j d _ hd (List.getElem?_eq_getElem hj)⟩
      suffices hs : View (· < w.heap.size) w (.sl ((List.range len).map f)) (.slice (some a) ((List.range len).map f).length cap) by rwa [hll] at hs
      refine .sl _ (P.cellsOf e) (some a) cap (fun i j => (w.cell? ⟨a.block,a.off + (i * P.cellsOf e + j),none⟩).getD (.bool true)) (fun i r hr => ?_) (by rw [hll]; omega) (by rw [hll]; exact hlen47) (fun h0 => ?_) fun i r j d hr hd => ?_
      ·
       obtain ⟨hi,rfl⟩ := hfi i r hr
       exact hrl i hi
      ·
       rw [hll] at h0
       refine ⟨a.block,a.off,?_,?_,fun i r j d hr hd => ?_⟩
       ·
        have hs := hspot h0
        obtain ⟨b,o,s⟩ := a
        simp only at hs
        subst hs
        rfl
       ·
        have hr0 := hrl 0 h0
        obtain ⟨v,hv,_⟩ := hlt 0 0 _ h0 (List.getElem?_eq_getElem (by omega))
        unfold World.cell? at hv
        split at hv
        ·
         rename_i h7
         exact (Array.getElem?_eq_some_iff.1 h7).1
        · cases hv
       ·
        obtain ⟨hi,rfl⟩ := hfi i r hr
        obtain ⟨v,hv,_⟩ := hlt i j d hi hd
        simp only [hv,Option.getD_some]
      ·
       obtain ⟨hi,rfl⟩ := hfi i r hr
       obtain ⟨v,hv,hvw⟩ := hlt i j d hi hd
       simp only [hv,Option.getD_some]
       exact hvw
   ·
    rename_i fs hu
    simp only [Bool.and_eq_true] at hk
    obtain ⟨hla,hall⟩ := hk
    obtain ⟨xs,m,hm,hx,hlx,hlen,hf⟩ := DataW.trod_struct hu h
    injection hm with hm
    subst hm
    injection hx with hx1 hx2
    subst hx1
    simp only [DataW.weights,hu] at hw
    obtain ⟨l,h1,h2⟩ := fields_view (enc := enc) (n := n) hlx (xs := xs) (laidP_fields hla) (by simpa using hlen) (fun i f hfi => by
     rw [List.getElem?_map,Option.map_eq_some_iff] at hfi
     obtain ⟨g,hg,rfl⟩ := hfi
     exact hf i g (by simpa using hg)) fun i f y hfi hy ht => by
     rw [List.getElem?_map,Option.map_eq_some_iff] at hfi
     obtain ⟨g,hg,rfl⟩ := hfi
     refine ih k g.type _ y.1 y.2 (List.all_eq_true.1 hall g (List.mem_of_getElem? hg)) ht fun x hx => hw x ?_
     exact DataW.weights_mem_each (by rw [List.getElem?_map,hg]; rfl) (by rw [List.getElem?_map,hy]; rfl) x hx
    exact ⟨l,.struct l hu (by simpa [Function.comp_def] using h1),by simpa using h2⟩
   ·
    rename_i m e hu
    simp only [Bool.and_eq_true,decide_eq_true_eq] at hk
    obtain ⟨hsz,hke⟩ := hk
    obtain ⟨xs,m',hm,hx,hlx,hlen,hf⟩ := DataW.trod_array hu h
    injection hm with hm
    subst hm
    injection hx with hx1 hx2
    subst hx1
    simp only [DataW.weights,hu] at hw
    have hget : ∀ (i : Nat) (f : Nat × TypeId),((List.range' 0 m).map fun i => (i * P.cellsOf e,e))[i]? = some f → i < m ∧ f = (i * P.cellsOf e,e) := by
     intro i f hfi
     rw [List.getElem?_map,Option.map_eq_some_iff] at hfi
     obtain ⟨g,hg,rfl⟩ := hfi
     have hi : i < m := by
      have := (List.getElem?_eq_some_iff.1 hg).1
      simpa using this
     rw [List.getElem?_range' hi] at hg
     have := Option.some.inj hg
     refine ⟨hi,?_⟩
     rw [← this]
     simp
    obtain ⟨l,h1,h2⟩ := fields_view (enc := enc) (n := n) hlx (xs := xs) (off := 0 * P.cellsOf e) (laidP_array (n := m) (s := 0) (by rw [hsz,Nat.zero_add])) (by simpa using hlen) (fun i f hfi => by
     obtain ⟨hi,rfl⟩ := hget i f hfi
     exact hf i hi) fun i f y hfi hy ht => by
     obtain ⟨hi,rfl⟩ := hget i f hfi
     refine ih k e _ y.1 y.2 hke ht fun x hx => hw x ?_
     exact weightsAll_mem (List.mem_map.2 ⟨y,List.mem_of_getElem? hy,rfl⟩) x hx
    refine ⟨l,.array l hu ?_,by simpa using h2⟩
    rw [List.map_map] at h1
    have : (List.range' 0 m).map ((fun x : Nat × TypeId => x.2) ∘ fun i => (i * P.cellsOf e,e)) = List.replicate m e := by
     rw [List.eq_replicate_iff]
     simp
    rw [this] at h1
    exact h1
   · cases hk
def avOf (P : Program) (t : TypeId) (l : List C) : AV := match P.underlying t with
 | some (.struct _) | some (.array _ _) => .agg (l.map .d)
 | _ => match l with
  | [c] => .one (.d c)
  | _ => .one .any
theorem arg_agg {ρ : Place} {l : List C} {cs : Array Value} (hv : Vw w l cs.toList) : AVR ρ (· < w.heap.size) w (.agg (l.map .d)) (.agg cs) := by
 refine ⟨cs.toList,rfl,by simp [hv.1],fun i c v hc hvi => ?_⟩
 rw [List.getElem?_map,Option.map_eq_some_iff] at hc
 obtain ⟨c0,h1,rfl⟩ := hc
 have := hv.2 i c0 v h1 hvi
 exact ⟨this,this.one⟩
theorem arg_av {ρ : Place} {t : TypeId} {v : Value} {d : DataW H} {ps : List MemPlace} {k : Nat} {r : Reach} {b : Nat} (hk : plainTy P k t = true) (hv : Value.okWide P w r b t v)
  (h : DataW.Trod enc P w 0 (fun _ => true) true t v d ps) (hw : ∀ x ∈ d.weights P t,x ≤ reachBytes) : ∃ l,HasTy P t l ∧ AVR ρ (· < w.heap.size) w (avOf P t l) v := by
 obtain ⟨n,hn⟩ := h
 obtain ⟨l,h1,h2⟩ := trod_view n k t _ d ps hk hn hw
 refine ⟨l,h1,?_⟩
 have honecell : ∀ c,l = [c] → (∀ cs,v ≠ .agg cs) → CV ρ (· < w.heap.size) w (.d c) v := by
  intro c hc hna
  have e : v.cells = #[v] := by
   cases v <;> first | rfl | (exact absurd rfl (hna _))
  rw [e] at h2
  exact h2.2 0 c v (by rw [hc]; rfl) rfl
 unfold avOf
 cases h1 with
 | struct l hu _ =>
  simp only [hu]
  unfold Value.okWide at hv
  rw [hu] at hv
  obtain ⟨cs,rfl,_,_⟩ := hv
  exact arg_agg h2
 | array l hu _ =>
  simp only [hu]
  unfold Value.okWide at hv
  rw [hu] at hv
  obtain ⟨cs,rfl,_,_⟩ := hv
  exact arg_agg h2
 | int n hu _ =>
  simp only [hu]
  refine honecell _ rfl fun cs e => ?_
  subst e
  simp [Value.okWide,hu,Cell.okWide,Cell.ok] at hv
 | bool b hu =>
  simp only [hu]
  refine honecell _ rfl fun cs e => ?_
  subst e
  simp [Value.okWide,hu,Cell.okWide,Cell.ok] at hv
 | str s hu _ =>
  simp only [hu]
  refine honecell _ rfl fun cs e => ?_
  subst e
  simp [Value.okWide,hu,Cell.okWide,Cell.ok] at hv
 | sl l hu _ _ =>
  simp only [hu]
  refine honecell _ rfl fun cs e => ?_
  subst e
  simp [Value.okWide,hu,Cell.okWide,Cell.ok] at hv

inductive ArgTys (P : Program) : List TypeId → List (List C) → Prop where
 | nil : ArgTys P [] []
 | cons {t : TypeId} {ts : List TypeId} {x : List C} {xs : List (List C)} (h : HasTy P t x) (h' : ArgTys P ts xs) : ArgTys P (t :: ts) (x :: xs)
theorem ArgTys.nil_inv {ls : List (List C)} (h : ArgTys P [] ls) : ls = [] := by cases h; rfl
theorem ArgTys.cons_inv {t : TypeId} {ts : List TypeId} {ls : List (List C)} (h : ArgTys P (t :: ts) ls) : ∃ x xs,ls = x :: xs ∧ HasTy P t x ∧ ArgTys P ts xs := by
 cases h with
 | cons h h' => exact ⟨_,_,rfl,h,h'⟩
theorem args_av {ρ : Place} {k : Nat} {r : Reach} {b : Nat} : ∀ {ts : List TypeId} {vs : List Value} {ds : List (DataW H)} {ps : List MemPlace},DataW.TrodAll enc P w 0 (fun _ => true) true ts vs ds ps → (∀ t ∈ ts,plainTy P k t = true) →
  (∀ (j : Nat) t v,ts[j]? = some t → vs[j]? = some v → Value.okWide P w r b t v) → (∀ x ∈ DataW.weightsEach P ts ds,x ≤ reachBytes) →
  ∃ ls,ArgTys P ts ls ∧ vs.length = (List.zipWith (avOf P) ts ls).length ∧ ∀ (i : Nat) (x : AV) (v : Value),(List.zipWith (avOf P) ts ls)[i]? = some x → vs[i]? = some v → AVR ρ (· < w.heap.size) w x v
 | [],vs,ds,ps,h,_,_,_ => by
  obtain ⟨rfl,rfl,rfl⟩ := trodAll_nil h
  exact ⟨[],.nil,rfl,fun i x v hx => by simp at hx⟩
 | t :: ts,vs,ds,ps,h,hp,hv,hw => by
  obtain ⟨v,vs1,d,ds1,a,b',rfl,rfl,rfl,h1,h2⟩ := trodAll_cons h
  simp only [DataW.weightsEach,List.mem_append] at hw
  obtain ⟨l,h3,h4⟩ := arg_av (ρ := ρ) (hp t (by simp)) (hv 0 t v rfl rfl) h1 fun x hx => hw x (.inl hx)
  obtain ⟨ls,h5,h6,h7⟩ := args_av (ρ := ρ) h2 (fun u hu => hp u (by simp [hu])) (fun j u x hu hx => hv (j + 1) u x (by simpa using hu) (by simpa using hx)) fun x hx => hw x (.inr hx)
  refine ⟨l :: ls,.cons h3 h5,by simp [h6],fun i x u hx hu => ?_⟩
  cases i with
  | zero => simp at hx hu; subst hx hu; exact h4
  | succ i => exact h7 i x u (by simpa using hx) (by simpa using hu)
theorem trodAll_below {W' : World} (hl : laidOutB P = true) (hb : Below w.heap.size w W') : ∀ {ts : List TypeId} {vs : List Value} {ds : List (DataW H)} {ps : List MemPlace},(∀ t ∈ ts,P.readableRec t = true ∧ t < P.types.size) →
  DataW.TrodAll enc P w 0 (fun _ => true) true ts vs ds ps → DataW.TrodAll enc P W' 0 (fun b => decide (b < w.heap.size)) true ts vs ds ps
 | [],vs,ds,ps,_,h => by
  obtain ⟨rfl,rfl,rfl⟩ := trodAll_nil h
  exact trodAll_mk0
 | t :: ts,vs,ds,ps,hp,h => by
  obtain ⟨v,vs1,d,ds1,a,b',rfl,rfl,rfl,h1,h2⟩ := trodAll_cons h
  have h3 : ∀ x ∈ a,x.block < w.heap.size := by
   obtain ⟨n,hn⟩ := h1
   exact DataW.trod_lt n t _ _ hn
  exact ⟨a,b',Below.trod hl (hp t (by simp)).1 (hp t (by simp)).2 h1 hb h3,trodAll_below hl hb (fun u hu => hp u (by simp [hu])) h2,rfl⟩
end

theorem kept_of_below {w w' : World} (h : Below w.heap.size w w') (may : MemPlace → Prop) : w.keptBut w' may := by
 refine ⟨h.os,h.output,fun i hi => ?_⟩
 rw [h.block i hi]
 split
 ·
  rename_i c t fr c' t' fr' h1 h2
  rw [h1] at h2
  cases h2
  exact ⟨rfl,rfl,rfl,fun _ _ => rfl⟩
 ·
  rename_i es c es' c' h1 h2
  rw [h1] at h2
  cases h2
  exact .inr ⟨rfl,rfl⟩
 · rfl

theorem trodAll_len {H : Type} {enc : TypeId × Value → H} {P : Program} {w : World} {base : Nat} {spare : Nat → Bool} {held : Bool} : ∀ {ts : List TypeId} {vs : List Value} {ds : List (DataW H)} {ps : List MemPlace},DataW.TrodAll enc P w base spare held ts vs ds ps → ds.length = ts.length
 | [],_,_,_,h => by
  obtain ⟨rfl,rfl,rfl⟩ := trodAll_nil h
  rfl
 | _ :: _,_,_,_,h => by
  obtain ⟨v,vs1,d,ds1,a,b',rfl,rfl,rfl,h1,h2⟩ := trodAll_cons h
  simp [trodAll_len h2]
theorem said_lift {H : Type} {enc : TypeId × Value → H} {a : Assume} {C : Checked} {os : Os} {f : FuncId} {fn : Func} {s : ChangeSpec} (k tb : Nat)
  (own : ownKnob C.prog.godebug = none) (started : os.Started) (noInit : C.prog.inits.idxOf? f = none) (hfn : C.prog.funcs[f]? = some fn)
  (witness : ∃ (w : World) (tape : Tape) (i : Input),w.os = os ∧ (w.forCall tape i).Shaped C.prog ∧ i.vars = [] ∧ Input.okWide C.prog (w.forCall tape i) .any w.heap.size f i ∧
   s.pre6 enc C.prog fn [] false (w.forCall tape i).memory i.args ∧ a.holds C.prog (lone (Frame.enter C.prog f i.args .normal) [] (w.forCall tape i)))
  (hl : laidOutB C.prog = true) (hp : (fn.params.toList.all fun t => plainTy C.prog k t && C.prog.readableRec t && decide (t < C.prog.types.size)) = true)
  (hr : fn.resultTypes = #[tb]) (hb : C.prog.underlying tb = some .bool) (hv : s.vars = [])
  (hs : ∀ ds : List (DataW H),ds.length = fn.params.toList.length → s.fn H ds = { results := [.lit (.bool true)],args := ds })
  (hC : ∀ ls,ArgTys C.prog fn.params.toList ls → CallH C.prog f (List.zipWith (avOf C.prog) fn.params.toList ls) [] (.one (.d (.bool true))) []) :
  ReturnsInHanded a C os f .any (s.pre6 enc C.prog fn [] false) (s.post enc C.prog fn false true false false) := by
 refine returnsInHanded_of_change_sized own started noInit hfn witness ?_
 intro W base args ds gs before hval hW _ hsz _
 have hW' := hW
 obtain ⟨p,q,hA,hV,rfl,_,_⟩ := hW
 rw [hv] at hV
 obtain ⟨rfl,rfl⟩ := trodVars_none hV
 simp only [List.all_eq_true,Bool.and_eq_true,decide_eq_true_eq] at hp
 have hwt : ∀ x ∈ DataW.weightsEach C.prog fn.params.toList ds,x ≤ reachBytes := by
  intro x hx
  have h1 := List.all_eq_true.1 hsz x
  have e : s.plain.varTypes C.prog = [] := by unfold ChangeSpec.plain; unfold DataSpec.varTypes; simp [hv]
  rw [e] at h1
  simp only [List.append_nil] at h1
  simpa using h1 hx
 obtain ⟨ls,h1,h2,h3⟩ := args_av (ρ := fun _ => none) (k := k) hA (fun t ht => (hp t ht).1.1) (fun j t v ht hvj => hval j t v (by simpa using ht) (by simpa using hvj)) hwt
 have hc := (hC ls h1).calls (· < W.heap.size) (fun _ => False) (fun _ => none) (fun _ _ => False) W args.toList (fun b hb => ⟨hb,id⟩) (fun b hb => hb.elim) h2 h3
  (fun id o h => by simp [mget] at h) (fun id o b h => by simp [mget] at h) fun id id' o o' b h => by simp [mget] at h
 refine (by simpa using hc : Calls C.prog f args W _).mono fun e W' hpost => ?_
 obtain ⟨v,ρ,φ,he,hmv,hav,_⟩ := hpost
 have hbel : Below W.heap.size W W' := ⟨hmv.os,hmv.tape,hmv.output,hmv.size,fun i hi => hmv.block i hi id⟩
 have hvt : v = .bool true := by
  have : View _ W' (.bool true) v := hav
  cases this
  rfl
 subst hvt
 have hdl : ds.length = fn.params.toList.length := trodAll_len hA
 refine ⟨_,he,ds,[],p ++ [],[],p,[],hW',?_,?_,?_,kept_of_below hbel _,fun h => by cases h⟩
 ·
  rw [List.append_nil,hs ds hdl,hr]
  exact trodAll_mk1 (shut_bool hb true)
 ·
  rw [List.append_nil,hs ds hdl]
  exact trodAll_below hl hbel (fun t ht => ⟨(hp t ht).1.2,(hp t ht).2⟩) hA
 ·
  rw [List.append_nil,hs ds hdl,hv]
  exact rfl
def wI (k : IntKind) (n : Int) : Prop := k.min ≤ n ∧ n ≤ k.max
def wB (_ : Bool) : Prop := True
def wS (s : ByteArray) : Prop := s.size ≤ reachBytes
def wL {α : Type} (by_ : Nat) (w : α → Prop) (l : List α) : Prop := l.length * by_ ≤ reachBytes ∧ ∀ x ∈ l,w x
theorem wI.u8 {n : Int} (h : wI .u8 n) : 0 ≤ n ∧ n ≤ 255 := by
 have e1 : IntKind.min .u8 = 0 := by decide
 have e2 : IntKind.max .u8 = 255 := by decide
 unfold wI at h
 omega
theorem wI.i64 {n : Int} (h : wI .i64 n) : -9223372036854775808 ≤ n ∧ n ≤ 9223372036854775807 := by
 have e1 : IntKind.min .i64 = -9223372036854775808 := by decide
 have e2 : IntKind.max .i64 = 9223372036854775807 := by decide
 unfold wI at h
 omega
theorem wL.len {α : Type} {b : Nat} {w : α → Prop} {l : List α} (h : wL b w l) (hb : 0 < b) : l.length ≤ 140737488351232 := by
 have h1 := h.1
 have h2 : l.length * 1 ≤ l.length * b := Nat.mul_le_mul_left _ hb
 have : reachBytes = 140737488351232 := by decide
 omega
end Go.Proofs.Ytabbejabdkkaiaa
