/- Probes where nothing is under way: whoever begins, and in whichever order probes come, a ring is found just if the one that began is behind edges from itself. No condition. -/
import Derived.Test.YtabbejabdkkaiaaGreatPvb
import Derived.Test.YtabbejabdkkaiaaGreatPkd
set_option linter.unusedSimpArgs false
set_option linter.unusedVariables false
namespace Go.Proofs.YtabbejabdkkaiaaGreat
open Go.RowKit

theorem sum_sub {f : Nat → Nat} : ∀ {S L : List Nat},S.Nodup → (∀ x ∈ S,x ∈ L) → (S.map f).sum ≤ (L.map f).sum
 | [],L,_,_ => by simp
 | x :: S,L,h,hs => by
  have hx : x ∈ L := hs x (List.mem_cons_self ..)
  have hp := List.perm_cons_erase hx
  have e : (L.map f).sum = f x + ((L.erase x).map f).sum := by
   rw [(hp.map f).sum_nat,List.map_cons,List.sum_cons]
  rw [List.nodup_cons] at h
  have := sum_sub (f := f) (S := S) (L := L.erase x) h.2 fun y hy => by
   have : y ≠ x := fun e => h.1 (e ▸ hy)
   exact (List.mem_erase_of_ne this).2 (hs y (List.mem_cons_of_mem _ hy))
  rw [List.map_cons,List.sum_cons,e]
  omega
theorem sum_const {f : Nat → Nat} {m : Nat} : ∀ {L : List Nat},(∀ x ∈ L,f x ≤ m) → (L.map f).sum ≤ L.length * m
 | [],_ => by simp
 | x :: L,h => by
  have := sum_const (f := f) (m := m) (L := L) fun y hy => h y (List.mem_cons_of_mem _ hy)
  have := h x (List.mem_cons_self ..)
  rw [List.map_cons,List.sum_cons,List.length_cons,Nat.add_mul,Nat.one_mul]
  omega
theorem few_ints {N : Nat} {l : List Int} (hn : l.Nodup) (h : ∀ x ∈ l,0 ≤ x ∧ x < (N : Int)) : l.length ≤ N := by
 have := hn.length_le_of_subset (l₂ := (List.range N).map fun n => ((n : Nat) : Int)) fun x hx => by
  have := h x hx
  exact List.mem_map.2 ⟨x.toNat,List.mem_range.2 (by omega),by omega⟩
 simpa using this
theorem deg5 {g : TGraph} (h : RightP g) {v : Int} (hv : 0 ≤ v ∧ v < g.N) : (ins_ g v).length ≤ 5 ∧ (outs_ g v).length ≤ 5 := by
 obtain ⟨hg,hn⟩ := C1_iff.1 h.2.2.2.1
 have hN := h.2.1
 have key : ∀ (p : A2I → Bool) (f : A2I → Int),(∀ x y,p x = true → p y = true → f x = f y → x = y) → (∀ x ∈ g.Links,p x = true → f x ≠ v ∧ 0 ≤ f x ∧ f x < g.N) → (g.Links.filter p).length ≤ 5 := fun p f h1 h2 => by
  have hnd : ((g.Links.filter p).map f).Nodup := by
   unfold List.Nodup
   rw [List.pairwise_map]
   exact (hn.filter p).imp_of_mem fun {x y} hx hy hne e => hne (h1 x y (List.mem_filter.1 hx).2 (List.mem_filter.1 hy).2 e)
  have := few_ints (N := g.N.toNat) (l := v :: (g.Links.filter p).map f) (List.nodup_cons.2 ⟨fun hm => by
   obtain ⟨x,hx,e⟩ := List.mem_map.1 hm
   obtain ⟨hx1,hx2⟩ := List.mem_filter.1 hx
   exact (h2 x hx1 hx2).1 e,hnd⟩) fun x hx => by
    rcases List.mem_cons.1 hx with rfl | hx
    · omega
    ·
     obtain ⟨y,hy,rfl⟩ := List.mem_map.1 hx
     obtain ⟨hy1,hy2⟩ := List.mem_filter.1 hy
     have := h2 y hy1 hy2
     omega
  simp only [List.length_cons,List.length_map] at this
  omega
 unfold ins_ outs_
 rw [idxs_cnt,idxs_cnt,List.countP_eq_length_filter,List.countP_eq_length_filter]
 constructor
 ·
  refine key _ (·.a0) (fun x y hx hy e => ?_) fun x hx hp => ?_
  ·
   rw [decide_eq_true_iff] at hx hy
   cases x; cases y; simp_all
  ·
   rw [decide_eq_true_iff] at hp
   have := hg x hx
   exact ⟨fun e => this.2.2.2.2 (by rw [e,hp]),this.1,this.2.1⟩
 ·
  refine key _ (·.a1) (fun x y hx hy e => ?_) fun x hx hp => ?_
  ·
   rw [decide_eq_true_iff] at hx hy
   cases x; cases y; simp_all
  ·
   rw [decide_eq_true_iff] at hp
   have := hg x hx
   exact ⟨fun e => this.2.2.2.2 (by rw [e,hp]),this.2.2.1,this.2.2.2.1⟩
def hostN (a : TApp) (c : TConf) (v : Nat) : THost := ⟨v,(c.States[v]?).getD 0,0,List.replicate (ins_ a.G v).length [],List.replicate (outs_ a.G v).length []⟩
theorem many_rep {α : Type} (ks : List Int) (m : Nat) (x : Int) : many ks (List.replicate m ([] : List α)) x = 0 := by
 unfold many
 split
 ·
  rw [List.getElem?_replicate]
  split <;> rfl
 · rfl
section
variable {a : TApp} {c : TConf}
theorem host_right (h : CRightP a c) {v : Nat} (hv : v < c.States.length) : HRightP a (hostN a c v) := by
 have hN := h.nst
 have hs := h.sts v _ (List.getElem?_eq_getElem hv)
 have hd := deg5 h.tab.1 (v := (v : Int)) (by omega)
 refine ⟨h.tab,⟨by simp [hostN],by simp only [hostN]; omega⟩,⟨?_,fun x hx => ?_⟩,by simp [hostN],by simp [hostN],by simp [hostN],by simpa [hostN] using hd,fun l hl => ?_,fun l hl => ?_⟩
 ·
  simp only [hostN,List.getElem?_eq_getElem hv,Option.getD_some]
  exact hs.1
 ·
  simp only [hostN,List.getElem?_eq_getElem hv,Option.getD_some]
  exact hs.2 x (by simpa [hostN] using hx)
 ·
  obtain ⟨_,rfl⟩ := List.mem_replicate.1 hl
  exact trivial
 ·
  obtain ⟨_,rfl⟩ := List.mem_replicate.1 hl
  exact ⟨by simp,by simp⟩
theorem st_host (v : Nat) : (stH a (hostN a c v)).Waits = waitsAt a c v := rfl
def Quiet (c : TConf) : Prop := ∀ (l : Nat) ms,c.Links[l]? = some ms → ms = []
theorem ep_iff (h : CRightP a c) (ha : SzA a) (hq : Quiet c) {u w : Nat} (hu : u < c.States.length) : EP a c u w ↔ (w : Int) ∈ waitsAt a c u := by
 unfold EP
 rw [edge_nat hu,Bool.and_eq_true,decide_eq_true_iff]
 refine ⟨fun q => q.1,fun q => ⟨q,?_⟩⟩
 have hf := (h.waits ha hu).fnd w q
 obtain ⟨j,h1,h2,_⟩ := find_lt hf
 have hj : j < c.Links.length := by rw [h.nli]; exact h2
 unfold freeB
 rw [h1,Int.toNat_natCast,List.getElem?_eq_getElem hj,hq j _ (List.getElem?_eq_getElem hj),dT (by omega)]
 rfl
def numW (a : TApp) (c : TConf) (S : List Nat) : Nat := (S.map fun v => (waitsAt a c v).length).sum
theorem edges_num (h : CRightP a c) (ha : SzA a) (hq : Quiet c) : (edgesOf a c).length = numW a c (List.range c.States.length) := by
 unfold edgesOf numW
 rw [List.length_flatMap]
 congr 1
 refine List.map_congr_left fun v hv => ?_
 have hv := List.mem_range.1 hv
 rw [List.length_map,List.filter_eq_self.2]
 intro w hw
 have hr := (h.waits ha hv).rng w hw
 have := (ep_iff h ha hq (u := v) (w := w.toNat) hv).2 (by rw [Int.toNat_of_nonneg hr.1]; exact hw)
 unfold EP at this
 rw [Int.toNat_of_nonneg hr.1,edge_nat hv,Bool.and_eq_true] at this
 exact this.2
theorem num_le (h : CRightP a c) (ha : SzA a) {S : List Nat} (hn : S.Nodup) (hl : ∀ v ∈ S,v < c.States.length) : numW a c S ≤ numW a c (List.range c.States.length) ∧ numW a c (List.range c.States.length) ≤ 36 := by
 refine ⟨sum_sub hn fun x hx => List.mem_range.2 (hl x hx),?_⟩
 have h6 := h.n6
 have := sum_const (f := fun v => (waitsAt a c v).length) (m := 6) (L := List.range c.States.length) fun v hv => by
  have hw := h.waits ha (List.mem_range.1 hv)
  have := few_ints (N := c.States.length) (l := waitsAt a c v) (hw.ris.imp fun h => by omega) hw.rng
  omega
 rw [List.length_range] at this
 unfold numW
 omega
inductive Pth (E : Nat → Nat → Prop) (n : Nat) : List Nat → Nat → Prop where
 | one : Pth E n [n] n
 | snoc {p : List Nat} {u w : Nat} : Pth E n p u → E u w → w ∉ p → Pth E n (p ++ [w]) w
theorem Pth.facts {E : Nat → Nat → Prop} {n : Nat} : ∀ {p : List Nat} {u : Nat},Pth E n p u → p.Nodup ∧ 0 < p.length ∧ p[0]? = some n ∧ p[p.length - 1]? = some u ∧ ∀ i x y,p[i]? = some x → p[i + 1]? = some y → E x y
 | _,_,.one => ⟨by simp,by simp,rfl,rfl,fun i x y _ h => by simp at h⟩
 | _,_,.snoc (p := p) (u := u) (w := w) hp he hw => by
  obtain ⟨h1,h2,h3,h4,h5⟩ := hp.facts
  refine ⟨?_,by simp,?_,by simp,fun i x y hx hy => ?_⟩
  ·
   rw [List.nodup_append]
   exact ⟨h1,by simp,fun x hx y hy e => by rw [List.mem_singleton] at hy; subst hy; exact hw (e ▸ hx)⟩
  · rw [List.getElem?_append_left h2,h3]
  ·
   by_cases c1 : i + 1 < p.length
   ·
    rw [List.getElem?_append_left (by omega)] at hx
    rw [List.getElem?_append_left c1] at hy
    exact h5 i x y hx hy
   ·
    by_cases c2 : i + 1 = p.length
    ·
     rw [List.getElem?_append_left (by omega),show i = p.length - 1 by omega,h4] at hx
     rw [List.getElem?_append_right (by omega),c2,Nat.sub_self] at hy
     simp at hx hy
     rw [← hx,← hy]
     exact he
    ·
     rw [List.getElem?_eq_none (by rw [List.length_append,List.length_singleton]; omega)] at hy
     cases hy
theorem pth_tg {E : Nat → Nat → Prop} {n : Nat} : ∀ {p : List Nat} {u : Nat},Pth E n p u → u = n ∨ Relation.TransGen E n u
 | _,_,.one => .inl rfl
 | _,_,.snoc hp he _ => .inr (by
  rcases pth_tg hp with e | h
  · rw [← e]; exact .single (e ▸ he)
  · exact .tail h he)
theorem pth_ring {n u : Nat} {p : List Nat} (hp : Pth (EP a c) n p u) (he : EP a c u n) : ringP a c (ints p) := by
 obtain ⟨h1,h2,h3,h4,h5⟩ := hp.facts
 have hl : (ints p).length = p.length := by unfold ints; rw [List.length_map]
 have hg : ∀ i (hi : i < (ints p).length),(ints p)[i] = ((p[i]'(by omega) : Nat) : Int) := fun i hi => List.getElem_map _
 refine ring_iff.2 ⟨fun e => by rw [e] at hl; simp at hl; omega,?_,fun i hi => ?_⟩
 ·
  unfold List.Nodup ints
  rw [List.pairwise_map]
  exact h1.imp fun h e => h (by omega)
 ·
  rw [hg i hi,hg _ (Nat.mod_lt _ (by omega))]
  by_cases q : i + 1 < p.length
  ·
   have e : (i + 1) % (ints p).length = i + 1 := Nat.mod_eq_of_lt (by omega)
   simp only [e]
   exact h5 i _ _ (List.getElem?_eq_getElem (by omega)) (List.getElem?_eq_getElem q)
  ·
   have e : (i + 1) % (ints p).length = 0 := by rw [show i + 1 = (ints p).length by omega]; exact Nat.mod_self _
   simp only [e]
   rw [List.getElem?_eq_getElem h2] at h3
   rw [List.getElem?_eq_getElem (by omega)] at h4
   injection h3 with h3
   injection h4 with h4
   have e2 : p[i]'(by omega) = u := by
    rw [← h4]
    congr 1
    omega
   rw [h3,e2]
   exact he
def frm (n : Nat) (p : List Nat) : TFrame := ⟨6,0,⟨0,0⟩,[],n,7,0,ints p⟩
def outm (a : TApp) (n : Nat) (p : List Nat) (u : Nat) (w : Int) : TOut := ⟨find a.G u w,frm n p⟩
theorem outs_host (n : Nat) (p : List Nat) (u : Nat) : outsH a (hostN a c u) n 7 (ints p) = (waitsAt a c u).map (outm a n (p ++ [u]) u) := by
 unfold outsH
 rw [st_host]
 refine List.map_congr_left fun w _ => ?_
 have e : got a (hostN a c u) (find a.G w (hostN a c u).Node) = 0 := many_rep _ _ _
 unfold mkO
 rw [e]
 unfold outm frm ints
 rw [List.map_append]
 rfl
theorem frm_ok (h : CRightP a c) {n u : Nat} {p : List Nat} (hn : n < c.States.length) (hp : Pth (EP a c) n p u) (hl : ∀ v ∈ p,v < c.States.length) : FrameP (frm n p) := by
 have h6 := h.n6
 obtain ⟨h1,h2,_⟩ := hp.facts
 have h3 := h1.length_le_of_subset (l₂ := List.range c.States.length) fun x hx => List.mem_range.2 (hl x hx)
 rw [List.length_range] at h3
 have hll : (ints p).length = p.length := by unfold ints; rw [List.length_map]
 refine ⟨rfl,rfl,rfl,?_,⟨by simp [frm],by simp [frm]⟩,⟨by simp [frm],by simp [frm]⟩,?_,fun x hx => ?_⟩
 · simp only [frm]; omega
 · simp only [frm]; omega
 ·
  obtain ⟨v,hv,rfl⟩ := List.mem_map.1 hx
  have := hl v hv
  omega
structure FI (a : TApp) (c : TConf) (n : Nat) (way : List TOut) (seen : List (List Int)) (S : List Nat) (found : Bool) : Prop where
 nd : S.Nodup
 lt : ∀ v ∈ S,v < c.States.length
 ways : ∀ o ∈ way,∃ (p : List Nat) (u w : Nat),u ∈ S ∧ Pth (EP a c) n p u ∧ (∀ v ∈ p,v ∈ S) ∧ (w : Int) ∈ waitsAt a c u ∧ o = outm a n p u w
 len : seen.length = c.States.length
 seen : ∀ v l,seen[v]? = some l → (v ∈ S → v ≠ n → lastOf l n = 7) ∧ (v ∉ S ∨ v = n → l = []) ∧ l.length ≤ 10
 comp : ∀ u ∈ S,∀ w : Nat,(w : Int) ∈ waitsAt a c u → (w ∈ S ∧ w ≠ n) ∨ waitsAt a c w = [] ∨ (w = n ∧ found = true) ∨ ∃ o ∈ way,o.Link = find a.G u w
 fnd : found = true → Relation.TransGen (EP a c) n n
theorem link_of (h : CRightP a c) (ha : SzA a) {u w : Nat} (hu : u < c.States.length) (hw : (w : Int) ∈ waitsAt a c u) : ∃ j : Nat,find a.G u w = j ∧ j < a.G.Links.length ∧ a.G.Links[j]? = some (A2I.mk u w) := by
 have hf := (h.waits ha hu).fnd w hw
 have := h.tab.1.2.2.2.2.1 _ (find_some.1 hf)
 exact find_lt (find_some.2 this)
theorem hear_p (h : CRightP a c) (ha : SzA a) {n u w : Nat} (p : List Nat) (hu : u < c.States.length) (hw : (w : Int) ∈ waitsAt a c u) (hwl : w < c.States.length) : HearP a (hostN a c w) (find a.G u w) (frm n p) ↔ waitsAt a c w ≠ [] := by
 have hm := st_waits (host_right h hwl)
 rw [st_host] at hm
 obtain ⟨j,h1,h2,h3⟩ := link_of h ha hu hw
 constructor
 · exact fun q => hm.1 q.2.1
 ·
  refine fun q => ⟨?_,hm.2 q,?_⟩
  ·
   rw [h1]
   exact (idxs_mem _ _ _ _).2 ⟨j,by simp,_,h3,by simp [hostN]⟩
  · exact many_rep _ _ _
theorem same_link (h : CRightP a c) (ha : SzA a) {u w u' w' : Nat} (hu : u < c.States.length) (hw : (w : Int) ∈ waitsAt a c u) (hu' : u' < c.States.length) (hw' : (w' : Int) ∈ waitsAt a c u') (e : find a.G u w = find a.G u' w') : u = u' ∧ w = w' := by
 obtain ⟨j,h1,_,h3⟩ := link_of h ha hu hw
 obtain ⟨k,k1,_,k3⟩ := link_of h ha hu' hw'
 have : j = k := by omega
 subst this
 rw [h3] at k3
 injection k3 with k3
 injection k3 with e1 e2
 omega
theorem mem_rest {α : Type} {l : List α} {k : Nat} (hk : k < l.length) {x : α} (hx : x ∈ l) : x = l[k] ∨ x ∈ l.take k ++ l.drop (k + 1) := by
 rw [← List.take_append_drop k l,List.drop_eq_getElem_cons hk] at hx
 rcases List.mem_append.1 hx with hx | hx
 · exact .inr (List.mem_append_left _ hx)
 ·
  rcases List.mem_cons.1 hx with hx | hx
  · exact .inl hx
  · exact .inr (List.mem_append_right _ hx)
theorem rest_mem {α : Type} {l : List α} {k : Nat} {x : α} (hx : x ∈ l.take k ++ l.drop (k + 1)) : x ∈ l := by
 rcases List.mem_append.1 hx with hx | hx
 · exact List.mem_of_mem_take hx
 · exact List.mem_of_mem_drop hx
theorem FI.step (h : CRightP a c) (ha : SzA a) (hq : Quiet c) {n : Nat} (hn : n < c.States.length) {way : List TOut} {seen : List (List Int)} {S : List Nat} {found : Bool} (I : FI a c n way seen S found) {k : Nat} (hk : k < way.length) :
  ∃ (p : List Nat) (u w : Nat) (l : List Int),way[k] = outm a n p u w ∧ u < c.States.length ∧ (w : Int) ∈ waitsAt a c u ∧ w < c.States.length ∧ (∀ v ∈ p,v < c.States.length) ∧ Pth (EP a c) n p u ∧ seen[w]? = some l ∧ l.length ≤ 10 ∧
   ∃ (S' : List Nat) (s : List Int) (m : List TOut) (q : List Int),hearOf a (hostN a c w) l (find a.G u w) (frm n p) = (s,m,q) ∧ (q = [] ∨ q = ints p ∧ EP a c u n) ∧ m.length ≤ 100 ∧ s.length ≤ 10 ∧
    FI a c n (way.take k ++ way.drop (k + 1) ++ m) (seen.set w s) S' (found || decide ((q.length : Int) > 0)) ∧ numW a c S' = numW a c S + m.length ∧ ∀ x ∈ S,x ∈ S' := by
 classical
 have h6 := h.n6
 obtain ⟨p,u,w,h1,h2,h3,h4,h5⟩ := I.ways _ (List.getElem_mem hk)
 have hu := I.lt u h1
 have hwr := (h.waits ha hu).rng _ h4
 have hw : w < c.States.length := by omega
 have hwl : w < seen.length := by rw [I.len]; exact hw
 obtain ⟨s1,s2,s3⟩ := I.seen w _ (List.getElem?_eq_getElem hwl)
 have he : EP a c u w := (ep_iff h ha hq hu).2 h4
 have hpl : ∀ v ∈ p,v < c.States.length := fun v hv => I.lt v (h3 v hv)
 refine ⟨p,u,w,seen[w],h5,hu,h4,hw,hpl,h2,List.getElem?_eq_getElem hwl,s3,?_⟩
 have hself : seen.set w seen[w] = seen := List.set_getElem_self hwl
 -- what is left without this one
 have rest : ∀ f : Bool,(found = true → f = true) → (f = true → Relation.TransGen (EP a c) n n) → ((w ∈ S ∧ w ≠ n) ∨ waitsAt a c w = [] ∨ (w = n ∧ f = true)) → FI a c n (way.take k ++ way.drop (k + 1) ++ []) (seen.set w seen[w]) S f := fun f hf1 hf2 hf3 => by
  rw [hself,List.append_nil]
  refine ⟨I.nd,I.lt,fun o ho => I.ways o (rest_mem ho),I.len,I.seen,fun u' hu' w' hw' => ?_,hf2⟩
  rcases I.comp u' hu' w' hw' with g | g | g | ⟨o,ho,g⟩
  · exact .inl g
  · exact .inr (.inl g)
  · exact .inr (.inr (.inl ⟨g.1,hf1 g.2⟩))
  ·
   rcases mem_rest hk ho with e | ho
   ·
    rw [e,h5] at g
    obtain ⟨e1,e2⟩ := same_link h ha hu h4 (I.lt u' hu') hw' g
    subst e2
    rcases hf3 with g | g | g
    · exact .inl g
    · exact .inr (.inl g)
    · exact .inr (.inr (.inl g))
   · exact .inr (.inr (.inr ⟨o,ho,g⟩))
 unfold hearOf
 rw [hear_p h ha p hu h4 hw]
 by_cases c1 : waitsAt a c w ≠ []
 ·
  rw [if_pos c1]
  by_cases c2 : (frm n p).Init = (hostN a c w).Node
  ·
   have e : n = w := by have : (n : Int) = (w : Int) := c2; omega
   rw [if_pos c2]
   have hl : (ints p).length = p.length := by unfold ints; rw [List.length_map]
   have hpos := h2.facts.2.1
   refine ⟨S,_,_,_,rfl,.inr ⟨rfl,by rw [e]; exact he⟩,by simp,s3,?_,by simp,fun _ g => g⟩
   have ef : (found || decide (((frm n p).Path.length : Int) > 0)) = true := by
    rw [show (frm n p).Path = ints p from rfl,dT (by omega),Bool.or_true]
   rw [ef]
   refine rest true (fun _ => rfl) (fun _ => ?_) (.inr (.inr ⟨e.symm,rfl⟩))
   have hen : EP a c u n := by rw [e]; exact he
   rcases pth_tg h2 with g | g
   · exact .single (g ▸ hen)
   · exact .tail g hen
  ·
   have hne : w ≠ n := fun e => c2 (by rw [e]; rfl)
   rw [if_neg c2]
   by_cases c3 : w ∈ S
   ·
    have hl : lastOf seen[w] (frm n p).Init ≥ (frm n p).Num := by
     show lastOf seen[w] (n : Int) ≥ 7
     rw [s1 c3 hne]
     decide
    rw [if_pos hl]
    refine ⟨S,_,_,_,rfl,.inl rfl,by simp,s3,?_,by simp,fun _ g => g⟩
    rw [show (found || decide ((([] : List Int).length : Int) > 0)) = found by simp]
    exact rest found id I.fnd (.inl ⟨c3,hne⟩)
   ·
    have hnil := s2 (.inl c3)
    have hl : ¬ lastOf seen[w] (frm n p).Init ≥ (frm n p).Num := by
     rw [hnil]
     show ¬ lastOf [] (n : Int) ≥ 7
     simp [lastOf]
    rw [if_neg hl]
    have eo : outsH a (hostN a c w) (frm n p).Init (frm n p).Num (frm n p).Path = (waitsAt a c w).map (outm a n (p ++ [w]) w) := outs_host n p w
    have few := (h.waits ha hw).few
    have en : nowOf seen[w] (frm n p).Init (frm n p).Num = nowOf [] (n : Int) 7 := by rw [hnil]; rfl
    have nl := now_len [] (i := (n : Int)) 7 (by omega)
    simp only [List.length_nil] at nl
    rw [eo,en]
    refine ⟨w :: S,_,_,_,rfl,.inl rfl,by rw [List.length_map]; exact few,by omega,?_,by unfold numW; rw [List.map_cons,List.sum_cons,List.length_map]; omega,fun _ g => List.mem_cons_of_mem _ g⟩
    rw [show (found || decide ((([] : List Int).length : Int) > 0)) = found by simp]
    have hwp : w ∉ p := fun q => c3 (h3 w q)
    refine ⟨List.nodup_cons.2 ⟨c3,I.nd⟩,fun v hv => ?_,fun o ho => ?_,by rw [List.length_set]; exact I.len,fun v l hl => ?_,fun u' hu' w' hw' => ?_,I.fnd⟩
    ·
     rcases List.mem_cons.1 hv with rfl | hv
     · exact hw
     · exact I.lt v hv
    ·
     rcases List.mem_append.1 ho with ho | ho
     ·
      obtain ⟨p',u',w',g1,g2,g3,g4,g5⟩ := I.ways o (rest_mem ho)
      exact ⟨p',u',w',List.mem_cons_of_mem _ g1,g2,fun v hv => List.mem_cons_of_mem _ (g3 v hv),g4,g5⟩
     ·
      obtain ⟨x,hx,rfl⟩ := List.mem_map.1 ho
      have hxr := (h.waits ha hw).rng x hx
      refine ⟨p ++ [w],w,x.toNat,List.mem_cons_self ..,.snoc h2 he hwp,fun v hv => ?_,by rw [Int.toNat_of_nonneg hxr.1]; exact hx,by rw [Int.toNat_of_nonneg hxr.1]⟩
      rcases List.mem_append.1 hv with hv | hv
      · exact List.mem_cons_of_mem _ (h3 v hv)
      ·
       rw [List.mem_singleton] at hv
       subst hv
       exact List.mem_cons_self ..
    ·
     by_cases e : v = w
     ·
      subst e
      rw [List.getElem?_set_self hwl] at hl
      injection hl with hl
      subst hl
      exact ⟨fun _ _ => now_last [] 7 (by omega),fun g => g.elim (fun g => absurd (List.mem_cons_self ..) g) (fun g => absurd g hne),by omega⟩
     ·
      rw [List.getElem?_set_ne fun g => e g.symm] at hl
      obtain ⟨g1,g2,g3⟩ := I.seen v l hl
      exact ⟨fun q => g1 ((List.mem_cons.1 q).resolve_left e),fun q => g2 (q.imp_left fun q r => q (List.mem_cons_of_mem _ r)),g3⟩
    ·
     rcases List.mem_cons.1 hu' with rfl | hu'
     · exact .inr (.inr (.inr ⟨_,List.mem_append_right _ (List.mem_map.2 ⟨_,hw',rfl⟩),rfl⟩))
     ·
      rcases I.comp u' hu' w' hw' with g | g | g | ⟨o,ho,g⟩
      · exact .inl ⟨List.mem_cons_of_mem _ g.1,g.2⟩
      · exact .inr (.inl g)
      · exact .inr (.inr (.inl g))
      ·
       rcases mem_rest hk ho with e | ho
       ·
        rw [e,h5] at g
        obtain ⟨e1,e2⟩ := same_link h ha hu h4 (I.lt u' hu') hw' g
        subst e2
        exact .inl ⟨List.mem_cons_self ..,hne⟩
       · exact .inr (.inr (.inr ⟨o,List.mem_append_left _ ho,g⟩))
 ·
  rw [if_neg c1]
  refine ⟨S,_,_,_,rfl,.inl rfl,by simp,s3,?_,by simp,fun _ g => g⟩
  rw [show (found || decide ((([] : List Int).length : Int) > 0)) = found by simp]
  exact rest found id I.fnd (.inr (.inl (Classical.byContradiction c1)))
theorem FI.done (h : CRightP a c) (ha : SzA a) (hq : Quiet c) {n : Nat} {seen : List (List Int)} {S : List Nat} {found : Bool} (I : FI a c n [] seen S found) (hn : n ∈ S) : found = true ↔ Relation.TransGen (EP a c) n n := by
 refine ⟨I.fnd,fun ht => Classical.byContradiction fun hf => ?_⟩
 have nx : ∀ u ∈ S,∀ w,EP a c u w → (w ∈ S ∧ w ≠ n) ∨ waitsAt a c w = [] := fun u hu w he => by
  rcases I.comp u hu w ((ep_iff h ha hq (I.lt u hu)).1 he) with g | g | g | ⟨o,ho,_⟩
  · exact .inl g
  · exact .inr g
  · exact absurd g.2 hf
  · cases ho
 have all : ∀ x,Relation.TransGen (EP a c) n x → (x ∈ S ∧ x ≠ n) ∨ waitsAt a c x = [] := fun x hx => by
  induction hx with
  | single he => exact nx n hn _ he
  | tail hx he ih =>
   rcases ih with g | g
   · exact nx _ g.1 _ he
   ·
    have := (ep_iff h ha hq ((EP.lt h ha _ _ he).1)).1 he
    rw [g] at this
    cases this
 rcases all n ht with g | g
 · exact g.2 rfl
 ·
  obtain ⟨m,hm,_⟩ := tg_first ht
  have := (ep_iff h ha hq ((EP.lt h ha _ _ hm).1)).1 hm
  rw [g] at this
  cases this
end
end Go.Proofs.YtabbejabdkkaiaaGreat
