/- The law ProbeFinds, in plain words: true at every input. No condition. -/
import Derived.Test.YtabbejabdkkaiaaGreatPvc
import Derived.Test.YtabbejabdkkaiaaGreatGdProbeFinds
set_option linter.unusedSimpArgs false
set_option linter.unusedVariables false
namespace Go.Proofs.YtabbejabdkkaiaaGreat
open Go.RowKit

def c0 (a : TApp) (l : List Int) : TConf := ⟨l,List.replicate a.G.Links.length [],List.replicate a.G.Links.length 0⟩
theorem ref5_start {a : TApp} (ha : SzA a) : L_ref05_Start a = some (c0 a (a.T.map (·.Start))) := by
 have hg := ha.g
 have ht := ha.t.1
 unfold L_ref05_Start
 have h := loopMap (F := fun nf n acc => L_ref05_Start_l1 a nf n acc) (l := a.T) (fun x => [x.Start]) id 1 (by simp)
  (fun nf acc h => by rw [L_ref05_Start_l1,if_neg (by omega)]; rfl)
  (fun nf k acc hk h2 => by
   rw [L_ref05_Start_l1,if_pos (by omega),at_get hk,Option.bind_some,if_pos (by omega),wr_succ (by omega)])
  a.T.length (((a.T.length : Int) - 0).toNat + 1) 0 [] (by simp) (by omega) (by simp)
 rw [flatMap_one,List.drop_zero,List.nil_append] at h
 rw [show L_ref05_Start_l1 a (((a.T.length : Int) - 0).toNat + 1) 0 [] = some (a.T.map (·.Start)) from h,Option.bind_some]
 have q := loopI (F := fun nf k (t : List (List TMsg) × List Int) => L_ref05_Start_l2 a (a.T.map (·.Start)) nf k t.1 t.2) (len := a.G.Links.length) (fun k t => t = (List.replicate k [],List.replicate k 0)) (fun _ _ => some (c0 a (a.T.map (·.Start))))
  (fun nf t ht => by
   rw [L_ref05_Start_l2,if_neg (by omega),ht]
   rfl)
  (fun nf k t hk ht ih => by
   rw [L_ref05_Start_l2,if_pos (by omega),ht]
   dsimp only
   rw [if_pos (by rw [List.length_replicate]; omega),if_pos (by rw [List.length_replicate]; omega),wr_succ (by omega)]
   exact ih (_,_) (by rw [List.replicate_succ',List.replicate_succ']))
  a.G.Links.length (((a.G.Links.length : Int) - 0).toNat + 1) 0 ([],[]) (by omega) (by omega) rfl
 exact q
def StsOk (a : TApp) (l : List Int) : Prop := (l.length : Int) = a.G.N ∧ ∀ (v : Nat) s,l[v]? = some s → 0 ≤ s ∧ ∀ x : TNode,a.T[v]? = some x → s < (x.States.length : Int)
section
variable {a : TApp}
theorem c0_right (h : TRightP a.T a.G) {l : List Int} (hs : StsOk a l) : CRightP a (c0 a l) :=
 ⟨h,hs.1,by simp [c0],by simp [c0],hs.2,fun k ms z hl hz => by
  simp only [c0] at hl hz
  rw [List.getElem?_replicate] at hl hz
  split at hl
  ·
   rename_i hk
   rw [if_pos hk] at hz
   injection hl with hl
   injection hz with hz
   subst hl hz
   exact ⟨by omega,by omega,trivial⟩
  · cases hl⟩
theorem c0_quiet (l : List Int) : Quiet (c0 a l) := fun k ms h => by
 simp only [c0] at h
 rw [List.getElem?_replicate] at h
 split at h
 · injection h with h; exact h.symm
 · cases h
theorem sts_start (h : TRightP a.T a.G) : StsOk a (a.T.map (·.Start)) := by
 refine ⟨by rw [List.length_map]; exact h.2.1,fun v s hs => ?_⟩
 rw [List.getElem?_map,Option.map_eq_some_iff] at hs
 obtain ⟨x,hx,rfl⟩ := hs
 have hn := h.2.2 v x hx
 refine ⟨hn.2.2.1,fun y hy => ?_⟩
 rw [hx] at hy
 injection hy with hy
 subst hy
 exact hn.2.2.2.1
theorem finds_l1 {s : TStatic} (h : TRightP a.T a.G) : ∃ l,L_law16_ProbeFinds_l1 s a ((a.G.N - 0).toNat + 1) 0 (a.T.map (·.Start)) = some l ∧ StsOk a l := by
 have h6 := h.1.2.1
 have h1 := h.1.1
 have hT := h.2.1
 refine loopE (F := fun nf k l => L_law16_ProbeFinds_l1 s a nf k l) (len := min a.G.N.toNat s.States.length) (fun _ l => StsOk a l) (StsOk a)
  (fun nf l hl => ⟨l,by rw [L_law16_ProbeFinds_l1,baf,if_neg (by rw [decide_eq_true_eq]; omega)],hl⟩)
  (fun nf k l hk hl ih => ?_) (min a.G.N.toNat s.States.length) _ 0 _ (by omega) (by omega) (sts_start h)
 have hx : k < a.T.length := by omega
 have hn := h.2.2 k _ (List.getElem?_eq_getElem hx)
 have hl1 := hl.1
 rw [L_law16_ProbeFinds_l1,baf,if_pos (by rw [decide_eq_true_eq]; omega),at_get (by omega),Option.bind_some,at_get hx,Option.bind_some,if_pos (by have := hn.1; omega),at_get (by omega),Option.bind_some,wr_succ (by omega),Int.toNat_natCast]
 refine ih _ ⟨by rw [List.length_set]; exact hl1,fun v z hz => ?_⟩
 by_cases e : v = k
 ·
  subst e
  rw [List.getElem?_set_self (by omega)] at hz
  injection hz with hz
  subst hz
  obtain ⟨m,e1,e2⟩ := pick_nat (s.States[v]'(by omega)) (N := a.T[v].States.length) hn.1
  rw [e1]
  refine ⟨by omega,fun x hx' => ?_⟩
  rw [List.getElem?_eq_getElem hx] at hx'
  injection hx' with hx'
  subst hx'
  omega
 ·
  rw [List.getElem?_set_ne fun g => e g.symm] at hz
  exact hl.2 v z hz
theorem finds_hosts (h : TRightP a.T a.G) (ha : SzA a) {l : List Int} (hs : StsOk a l) : L_law16_hosts a l = some ((List.range l.length).map (hostN a (c0 a l))) := by
 have h6 := h.1.2.1
 have h1 := h.1.1
 have hT := h.2.1
 have hg := ha.g
 have hl := hs.1
 have q := loopMap (F := fun nf k acc => L_law16_hosts_l1 a l nf k acc) (l := List.range l.length) (fun v => [hostN a (c0 a l) v]) id 1 (by simp)
  (fun nf acc h => by rw [L_law16_hosts_l1,if_neg (by rw [List.length_range]; omega)]; rfl)
  (fun nf k acc hk h2 => by
   rw [List.length_range] at hk
   have hx : k < a.T.length := by omega
   have d := deg5 h.1 (v := (k : Int)) (by omega)
   have e : L_host_New a (k : Int) = some ⟨k,a.T[k].Start,0,List.replicate (ins_ a.G k).length [],List.replicate (outs_ a.G k).length []⟩ := by
    unfold L_host_New
    rw [orC rfl,Option.bind_some,if_neg (by rw [dF (by omega)]; decide),Option.bind_some,at_get hx,Option.bind_some,graph_in _ (by omega),Option.bind_some,if_pos (by omega),if_pos (by omega),graph_out _ (by omega),Option.bind_some,if_pos (by omega),if_pos (by omega)]
   rw [L_law16_hosts_l1,if_pos (by omega),e,Option.bind_some,at_get hk,Option.bind_some,if_pos (by omega),wr_succ (by omega),List.getElem_range]
   unfold hostN
   simp only [c0,List.getElem?_eq_getElem hk,Option.getD_some])
  (List.range l.length).length ((a.G.N - 0).toNat + 1) 0 [] (by simp) (by rw [List.length_range]; omega) (by simp)
 rw [flatMap_one,List.drop_zero,List.nil_append] at q
 exact q
theorem szH_host (c : TConf) (h : CRightP a c) {v : Nat} (hv : v < c.States.length) : SzH (hostN a c v) := by
 have d := (host_right h hv).i5
 refine ⟨⟨by omega,fun l hl => ?_⟩,by omega,fun l hl => ?_⟩
 · obtain ⟨_,rfl⟩ := List.mem_replicate.1 hl; simp
 · obtain ⟨_,rfl⟩ := List.mem_replicate.1 hl; simp
theorem finds_l2 (ha : SzA a) {c : TConf} (h : CRightP a c) : L_law16_ProbeFinds_l2 a ((List.range c.States.length).map (hostN a c)) (((((List.range c.States.length).map (hostN a c)).length : Int) - 0).toNat + 1) 0 = some () := by
 have h6 := h.n6
 refine sameV (F := fun nf k => L_law16_ProbeFinds_l2 a ((List.range c.States.length).map (hostN a c)) nf k) (l := (List.range c.States.length).map (hostN a c)) ()
  (fun nf => by rw [L_law16_ProbeFinds_l2,if_neg (by omega)]) (fun nf k hk => ?_) _ (by omega)
 have hk' : k < c.States.length := by simpa using hk
 have e : ((List.range c.States.length).map (hostN a c))[k] = hostN a c k := by rw [List.getElem_map,List.getElem_range]
 rw [L_law16_ProbeFinds_l2,if_pos (by omega),at_get hk,Option.bind_some,e,show L_law09_Ref (hostN a c k) = some (hostN a c k) from rfl,Option.bind_some,ref_host ha (szH_host c h hk'),Option.bind_some,if_pos (dT (host_right h hk')),wr_succ (by omega)]
theorem at_host (c : TConf) {v : Nat} (hv : v < c.States.length) : at? ((List.range c.States.length).map (hostN a c)) (v : Int) = some (hostN a c v) := by
 rw [at_get (by simpa using hv),List.getElem_map,List.getElem_range]
theorem finds_l3 (b : TApp) (hb : b.G = a.G ∧ b.T = a.T) (hf : a.Fifo = true) (s : TStatic) (wp : ∀ x ∈ s.Picks,0 ≤ x ∧ x ≤ 65535) (ha : SzA a) {l : List Int} (h : CRightP a (c0 a l)) (t : TConf) (ht : t.Links = (c0 a l).Links ∧ t.Sent = (c0 a l).Sent) {n : Nat} (hn : n < l.length) (hi : (landK .i64 s.Init 255).tmod a.G.N = (n : Int)) :
  ∀ (nf : Nat) (way : List TOut) (seen : List (List Int)) (S : List Nat) (found : Bool) (i : Int),FI a (c0 a l) n way seen S found → n ∈ S → way.length + (numW a (c0 a l) (List.range l.length) - numW a (c0 a l) S) < nf → 0 ≤ i → i + (nf : Int) ≤ 1000 →
   ∃ (q : Int) (g : Bool),L_law16_ProbeFinds_l3 s l b a t ((List.range l.length).map (hostN a (c0 a l))) nf way (numW a (c0 a l) S : Int) found i seen = some (q,g) ∧ (g = true ↔ Relation.TransGen (EP a (c0 a l)) n n) ∧ q ≤ (edgesOf a (c0 a l)).length
 | 0,_,_,_,_,_,_,_,hm,_,_ => absurd hm (Nat.not_lt_zero _)
 | nf + 1,way,seen,S,found,i,I,hS,hm,h0,h1 => by
  have hq := c0_quiet (a := a) l
  have h6 := h.n6
  have hg := ha.g
  have hNn := num_le h ha I.nd I.lt
  have hee := edges_num h ha hq
  have hcs : (c0 a l).States.length = l.length := rfl
  rw [hcs] at hNn hee
  have hbA : TApp.mk b.G b.T true = a := by rw [hb.1,hb.2,← hf]
  rw [L_law16_ProbeFinds_l3]
  by_cases hw : (way.length : Int) > 0
  ·
   rw [if_pos hw,hbA]
   obtain ⟨k,e,hk⟩ : ∃ k : Nat,(if i < (s.Picks.length : Int) then (at? s.Picks i).bind fun x => if ¬ (way.length : Int) = 0 then some ((IntKind.wrap .i64 x).tmod (way.length : Int)) else none else some 0) = some (k : Int) ∧ k < way.length := by
    by_cases c1 : i < (s.Picks.length : Int)
    ·
     have hx := wp _ (List.getElem_mem (l := s.Picks) (n := i.toNat) (by omega))
     rw [if_pos c1,at_lt h0 c1,Option.bind_some,if_pos (by omega),wr (by omega) (by omega)]
     have g1 := Int.tmod_nonneg (way.length : Int) hx.1
     have g2 := Int.tmod_lt_of_pos (s.Picks[i.toNat]'(by omega)) hw
     exact ⟨((s.Picks[i.toNat]'(by omega)).tmod (way.length : Int)).toNat,by rw [Int.toNat_of_nonneg g1],by omega⟩
    · exact ⟨0,by rw [if_neg c1]; rfl,by omega⟩
   obtain ⟨p,u,w,ls,e1,hu,h4,hwl,hpl,hpt,hsw,hls,S',m1,m,q,e2,e3,hml,hsl,J,e4,e5⟩ := I.step h ha hq hn hk
   obtain ⟨j,f1,f2,f3⟩ := link_of h ha hu h4
   have hfr := frm_ok h hn hpt hpl
   have hlen : (ints p).length ≤ 1000 := by have := hfr.len; simp only [frm] at this; omega
   have hseen : at? seen (w : Int) = some ls := by rw [at_nat,hsw]
   have hlink : at? b.G.Links (j : Int) = some (A2I.mk u w) := by rw [hb.1,at_nat,f3]
   have hS' : n ∈ S' := e5 n hS
   have hNn' := num_le h ha J.nd J.lt
   rw [hcs] at hNn'
   have hfound : (if found = true then some ((IntKind.wrap .i64 ((numW a (c0 a l) S : Int) + (m.length : Int))),true,seen.set w m1,(way.take k ++ way.drop (k + 1)) ++ m) else some ((IntKind.wrap .i64 ((numW a (c0 a l) S : Int) + (m.length : Int))),decide ((q.length : Int) > 0),seen.set w m1,(way.take k ++ way.drop (k + 1)) ++ m) : Option (Int × Bool × List (List Int) × List TOut)) = some ((numW a (c0 a l) S' : Int),found || decide ((q.length : Int) > 0),seen.set w m1,(way.take k ++ way.drop (k + 1)) ++ m) := by
    have ew : (numW a (c0 a l) S : Int) + (m.length : Int) = (numW a (c0 a l) S' : Int) := by rw [e4]; omega
    rw [ew,wr (by omega) (by omega)]
    cases found
    · rw [if_neg (by decide),Bool.false_or]
    · rw [if_pos rfl,Bool.true_or]
   have hrec := finds_l3 b hb hf s wp ha h t ht hn hi nf _ _ S' _ (i + 1) J hS' (by
    rw [List.length_append,List.length_append,List.length_take,List.length_drop]
    omega) (by omega) (by omega)
   obtain ⟨x,g,r1,r2,r3⟩ := hrec
   refine ⟨x,g,?_,r2,r3⟩
   rw [e,Option.bind_some,at_get hk,Option.bind_some,if_pos (by omega),if_pos (by omega),Option.bind_some,Int.toNat_natCast,if_pos (by rw [List.length_take]; omega),wr_succ (by omega),if_pos (by omega),if_pos (by omega),Option.bind_some,Int.toNat_natCast,if_pos (by rw [List.length_take,List.length_drop]; omega),e1]
   unfold outm
   dsimp only
   rw [f1,if_neg (by omega),if_neg (by rw [hb.1]; omega),if_neg (by omega),law_refF (by simp [frm]),Option.bind_some,ref_frame rfl (by simpa [frm] using hlen),Option.bind_some,if_pos (dT hfr),hlink,Option.bind_some]
   dsimp only
   have hin := hfr.ini
   rw [show at? ((List.range l.length).map (hostN a (c0 a l))) (w : Int) = some (hostN a (c0 a l) w) from at_host (c0 a l) hwl,Option.bind_some,hseen,Option.bind_some,probe_hear (host_right h hwl) ha _ (by omega) (by omega) (by simpa [frm] using hlen),Option.bind_some,← f1,e2]
   dsimp only
   rw [if_pos (by rw [List.length_take,List.length_drop]; omega)]
   have hq2 : (if (q.length : Int) > 0 then (at? q 0).bind fun x => if x = (landK .i64 s.Init 255).tmod b.G.N then (L_ref15_Ring a ⟨l,t.Links,t.Sent⟩ q).bind fun r => some (!r) else some true else some false) = some false := by
    rcases e3 with rfl | ⟨rfl,he⟩
    · rfl
    ·
     have hr := pth_ring hpt he
     have hpf := hpt.facts
     have hp0 : at? (ints p) 0 = some (n : Int) := by
      rw [at_zero]
      unfold ints
      rw [List.getElem?_map,hpf.2.2.1]
      rfl
     have hl2 : (ints p).length = p.length := by unfold ints; rw [List.length_map]
     rw [if_pos (by omega),hp0,Option.bind_some,if_pos (by rw [hb.1,hi]),ht.1,ht.2,show (⟨l,(c0 a l).Links,(c0 a l).Sent⟩ : TConf) = c0 a l from rfl,ref_ring h ha hlen,dT hr]
     rfl
   rw [hq2,Option.bind_some,if_neg (by decide),Int.toNat_natCast,hfound,Option.bind_some,wr (n := i + 1) (by omega) (by omega)]
   exact r1
  ·
   have hnil : way = [] := List.eq_nil_of_length_eq_zero (by omega)
   subst hnil
   exact ⟨_,_,by rw [if_neg hw],I.done h ha hq hS,by omega⟩
end
theorem probeFinds_true (a0 : TApp) (a1 : TStatic) (w0 : wTApp a0) (w1 : wTStatic a1) : L_law16_ProbeFinds a0 a1 = some true := by
 classical
 unfold L_law16_ProbeFinds
 rw [law_cutA,Option.bind_some]
 have ha0 := cutA_sz a0
 generalize hb : cutA a0 = b at ha0
 clear hb
 have ha : SzA (TApp.mk b.G b.T true) := ⟨ha0.g,ha0.t⟩
 rw [law_app ha.t,Option.bind_some]
 generalize hA : TApp.mk b.G b.T true = a at ha
 have hG : b.G = a.G ∧ b.T = a.T := by rw [← hA]; exact ⟨rfl,rfl⟩
 have hf : a.Fifo = true := by rw [← hA]
 have hg := ha.g
 rw [ref_tright (by omega) ha.t,Option.bind_some]
 by_cases hT : TRightP a.T a.G
 ·
  have h1 := hT.1.1
  have h6 := hT.1.2.1
  obtain ⟨l,e1,hs⟩ := finds_l1 (s := a1) hT
  have hl := hs.1
  have hc := c0_right hT hs
  have hq := c0_quiet (a := a) l
  have eb : L_law16_ProbeFinds_l1 a1 b ((b.G.N - 0).toNat + 1) 0 (a.T.map (·.Start)) = some l := by
   have : ∀ (nf : Nat) (i : Int) (z : List Int),L_law16_ProbeFinds_l1 a1 b nf i z = L_law16_ProbeFinds_l1 a1 a nf i z := fun nf => by
    induction nf with
    | zero => intro i z; rfl
    | succ nf ih => intro i z; rw [L_law16_ProbeFinds_l1,L_law16_ProbeFinds_l1,hG.1,hG.2]; simp only [ih]
   rw [this,hG.1]
   exact e1
  obtain ⟨n,hi,hn⟩ := pick_node a1.Init h1
  have hnl : n < l.length := by omega
  have hh := host_right hc (v := n) hnl
  rw [if_pos (dT hT),ref5_start ha,Option.bind_some]
  dsimp only [c0]
  rw [eb,Option.bind_some,hG.1,if_pos (by omega),finds_hosts hT ha hs,Option.bind_some,if_pos (by omega),if_pos (by omega),if_pos (by omega)]
  rw [show L_law16_ProbeFinds_l2 a ((List.range l.length).map (hostN a (c0 a l))) (((((List.range l.length).map (hostN a (c0 a l))).length : Int) - 0).toNat + 1) 0 = some () from finds_l2 ha hc,Option.bind_some,hi,show at? ((List.range l.length).map (hostN a (c0 a l))) (n : Int) = some (hostN a (c0 a l) n) from at_host (c0 a l) hnl,Option.bind_some,probe_start hh ha,Option.bind_some,at_get hnl,Option.bind_some,ref_at,Option.bind_some]
  have est : stOf a.T n l[n] = stH a (hostN a (c0 a l) n) := by
   unfold stH hostN
   simp only [c0,List.getElem?_eq_getElem hnl,Option.getD_some]
  rw [est]
  have hw := st_waits hh
  rw [st_host] at hw
  have hfew := (hc.waits ha hnl).few
  -- where it begins
  have I0 : FI a (c0 a l) n ((waitsAt a (c0 a l) n).map (outm a n [n] n)) (List.replicate a.G.N.toNat []) [n] false := by
   refine ⟨by simp,fun v hv => ?_,fun o ho => ?_,?_,fun v z hz => ?_,fun u hu w gw => ?_,fun g => by cases g⟩
   · rw [List.mem_singleton] at hv; subst hv; exact hnl
   ·
    obtain ⟨x,hx,rfl⟩ := List.mem_map.1 ho
    have hxr := (hc.waits ha hnl).rng x hx
    exact ⟨[n],n,x.toNat,by simp,.one,by simp,by rw [Int.toNat_of_nonneg hxr.1]; exact hx,by rw [Int.toNat_of_nonneg hxr.1]⟩
   ·
    rw [List.length_replicate]
    show a.G.N.toNat = l.length
    omega
   ·
    rw [List.getElem?_replicate] at hz
    split at hz
    ·
     injection hz with hz
     subst hz
     exact ⟨fun g g' => absurd (List.mem_singleton.1 g) g',fun _ => rfl,by simp⟩
    · cases hz
   ·
    rw [List.mem_singleton] at hu
    subst hu
    exact .inr (.inr (.inr ⟨_,List.mem_map.2 ⟨_,gw,rfl⟩,rfl⟩))
  have hnum : numW a (c0 a l) [n] = (waitsAt a (c0 a l) n).length := by simp [numW]
  have hall := num_le hc ha (S := [n]) (by simp) (fun v hv => by rw [List.mem_singleton] at hv; subst hv; exact hnl)
  have hpk : ∀ x ∈ a1.Picks,0 ≤ x ∧ x ≤ 65535 := fun x hx => by
   have := w1.2.2.1.2 x hx
   have e1 : IntKind.min .u16 = 0 := by decide
   have e2 : IntKind.max .u16 = 65535 := by decide
   unfold wI at this
   omega
  obtain ⟨q,g,r1,r2,r3⟩ := finds_l3 (a := a) b hG hf a1 hpk ha hc ⟨a.T.map (·.Start),List.replicate a.G.Links.length [],List.replicate a.G.Links.length 0⟩ ⟨rfl,rfl⟩ hnl hi 1000 _ _ [n] false 0 I0 (by simp) (by rw [List.length_map]; have := hall.2; show _ + (numW a (c0 a l) (List.range (c0 a l).States.length) - _) < _; omega) (by omega) (by omega)
  rw [hnum] at r1
  have hk := knotOf_len hc
  have hme : ((n : Int) ∈ knotOf a (c0 a l)) ↔ Relation.TransGen (EP a (c0 a l)) n n := by
   rw [mem_knot]
   exact ⟨fun ⟨m,e,_,g⟩ => by
    have : m = n := by omega
    exact this ▸ g,fun g => ⟨n,rfl,hnl,g⟩⟩
  have fin : ∀ way : List TOut,way = (waitsAt a (c0 a l) n).map (outm a n [n] n) → ((L_law16_ProbeFinds_l3 a1 l b a ⟨a.T.map (·.Start),List.replicate a.G.Links.length [],List.replicate a.G.Links.length 0⟩ ((List.range l.length).map (hostN a (c0 a l))) 1000 way (way.length : Int) false 0 (List.replicate a.G.N.toNat [])).bind fun p =>
    (L_ref15_Knot a (c0 a l)).bind fun r => (L_ref04_In r (n : Int)).bind fun r2 => if p.2 = r2 then (L_ref15_Edges a (c0 a l)).bind fun r3 => if p.1 ≤ (r3.length : Int) then (L_law16_fixed).bind fun z => some z else none else none) = some true := fun way ew => by
   rw [ew,List.length_map,r1,Option.bind_some,ref_knot hc ha,Option.bind_some,ref_in_list _ (by omega),Option.bind_some,ref_edges hc ha]
   dsimp only
   rw [if_pos (by
    by_cases c1 : g = true
    · rw [c1,dT (hme.2 (r2.1 c1))]
    ·
     rw [dF fun z => c1 (r2.2 (hme.1 z))]
     simpa using c1),Option.bind_some,if_pos r3,fixed16]
   rfl
  unfold startOf
  rw [if_pos hf,if_neg (show ¬ ((7 : Int) < 1 ∨ (7 : Int) > 200) by decide)]
  by_cases c3 : (stH a (hostN a (c0 a l) n)).Mode = 2
  ·
   rw [if_pos c3]
   dsimp only
   rw [dT c3,if_pos (dT rfl),if_pos rfl,if_pos rfl,Option.bind_some,if_neg (by decide)]
   exact fin _ (by
    have := outs_host (a := a) (c := c0 a l) n [] n
    exact this)
  ·
   have hnil : waitsAt a (c0 a l) n = [] := Classical.byContradiction fun z => c3 (hw.2 z)
   rw [if_neg c3]
   dsimp only
   rw [dF c3,if_pos (by decide),if_neg (by decide),if_pos rfl,show decide ((8 : Int) = 8) = true from rfl,Option.bind_some,if_neg (by decide)]
   exact fin [] (by rw [hnil]; rfl)
 ·
  rw [if_neg (by rw [dF hT]; decide),fixed16]
  rfl
end Go.Proofs.YtabbejabdkkaiaaGreat
