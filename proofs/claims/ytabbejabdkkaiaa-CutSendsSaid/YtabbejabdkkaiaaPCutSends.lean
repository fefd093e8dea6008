/- The law CutSends, in plain words: true at every input. No condition. -/
import Derived.Test.YtabbejabdkkaiaaPue
import Derived.Test.YtabbejabdkkaiaaGdCutSends
set_option linter.unusedSimpArgs false
set_option linter.unusedVariables false
namespace Go.Proofs.Ytabbejabdkkaiaa
open Go.RowKit

section
variable {g : TGraph}
theorem ref17_counts (h : RightP g) {l : List TStep} (hl : l.length ≤ 1000) : L_ref17_Counts g l = some (ncntL g l) := by
 have h1 := h.1
 have h2 := h.2.1
 unfold L_ref17_Counts
 rw [if_pos (by omega),if_pos (by omega),if_pos (by omega)]
 have q := loopI (F := fun nf k (s : List Int) => L_ref17_Counts_l1 g l nf k s) (len := l.length) (fun k s => s = ncntL g (l.take k)) (fun _ _ => some (ncntL g l))
  (fun nf s hs => by
   rw [L_ref17_Counts_l1,if_neg (by omega),hs,List.take_length])
  (fun nf k s hk hs ih => by
   have hw := whereC_lt h l[k]
   have hlen : s.length = g.N.toNat := by rw [hs]; unfold ncntL; rw [List.length_map,List.length_range]
   rw [L_ref17_Counts_l1,if_pos (by omega),at_get hk,Option.bind_some,ref17_where,Option.bind_some,wr_succ (by omega)]
   have e := ncntL_snoc (g := g) (l.take k) l[k] hw
   rw [← List.take_succ_eq_append_getElem hk] at e
   by_cases c : whereC g l[k] ≥ 0
   ·
    have hx : (whereC g l[k]).toNat < s.length := by omega
    have ex : s[(whereC g l[k]).toNat] = ncnt g (whereC g l[k]) (l.take k) := by
     have : s[(whereC g l[k]).toNat]? = some (ncnt g (whereC g l[k]) (l.take k)) := by
      rw [hs,ncntL_get,if_pos (by omega)]
      congr 2
      omega
     rw [List.getElem?_eq_getElem hx] at this
     exact Option.some.inj this
    have b1 := ncnt_pos (g := g) (whereC g l[k]) (l.take k)
    have b2 := ncnt_len (g := g) (whereC g l[k]) (l.take k)
    rw [List.length_take] at b2
    rw [if_pos c,at_lt (by omega) (by omega),Option.bind_some,Option.bind_some,ex,wr (by omega) (by omega)]
    exact ih _ (by rw [e,if_pos c,hs])
   ·
    rw [if_neg c,Option.bind_some]
    exact ih _ (by rw [e,if_neg (by omega),hs]))
  l.length (((l.length : Int) - 0).toNat + 1) 0 (List.replicate g.N.toNat 0) (by omega) (by omega) (by
   refine List.ext_getElem? fun n => ?_
   rw [List.take_zero,ncntL_get,List.getElem?_replicate]
   unfold ncnt
   simp)
 exact q
end
theorem fixed17 : L_law17_fixed = some true := by decide +kernel
theorem sz_start {a : TApp} (ha : SzA a) : SzC (startP a) := by
 have h1 := ha.t.1
 have h2 := ha.g
 refine ⟨by simp [startP]; omega,by simp [startP]; omega,fun l hl => ?_,by simp [startP]; omega⟩
 rw [(List.mem_replicate.1 hl).2]
 decide
open Classical in
theorem start_iff {a : TApp} (ha : SzA a) : L_ref05_Right a (startP a) = some (decide (CRightP a (startP a))) := ref_right5 ha (sz_start ha)
theorem ncntL_len (g : TGraph) (l : List TStep) : (ncntL g l).length = g.N.toNat := by unfold ncntL; rw [List.length_map,List.length_range]
theorem wI_i64 {x : Int} (h1 : -9223372036854775808 ≤ x) (h2 : x ≤ 9223372036854775807) : wI .i64 x := by
 have e1 : IntKind.min .i64 = -9223372036854775808 := by decide
 have e2 : IntKind.max .i64 = 9223372036854775807 := by decide
 unfold wI
 omega
theorem ncntL_w (g : TGraph) {l : List TStep} (hl : l.length ≤ 1000) : ∀ x ∈ ncntL g l,wI .i64 x := fun x hx => by
 obtain ⟨n,_,rfl⟩ := List.mem_map.1 hx
 have h1 := ncnt_pos (g := g) (n : Nat) l
 have h2 := ncnt_len (g := g) (n : Nat) l
 exact wI_i64 (by omega) (by omega)

section
variable {a : TApp} {c : TConf} {l : List TStep}
def sentAt (a : TApp) (c : TConf) (l : List TStep) (j k : Nat) : Int := ((endP a c (l.take k)).Sent[j]?).getD 0
theorem ok_take (hl : okP a c l) (k : Nat) : okP a c (l.take k) := (okP_app.1 (show okP a c (l.take k ++ l.drop k) by rw [List.take_append_drop]; exact hl)).1
theorem run_take (ha : SzA a) (h : CRightP a c) (hl : okP a c l) (hn : l.length ≤ 30) (k : Nat) : L_plain_Run a c (l.take k) = some (endP a c (l.take k),((l.take k).length : Int),0) := by
 rw [plain_run ha h (by rw [List.length_take]; omega),okP_run (ok_take hl k),Nat.zero_add]
theorem right_take (ha : SzA a) (h : CRightP a c) (hl : okP a c l) (k : Nat) : CRightP a (endP a c (l.take k)) := okP_right ha h (ok_take hl k)
theorem sent_take (ha : SzA a) (h : CRightP a c) (hl : okP a c l) {j k : Nat} (hj : j < a.G.Links.length) : (endP a c (l.take k)).Sent[j]? = some (sentAt a c l j k) := by
 have hk := (right_take ha h hl k).nse
 unfold sentAt
 rw [List.getElem?_eq_getElem (by omega),Option.getD_some]
theorem sends_l2 (ha : SzA a) (h : CRightP a c) (hl : okP a c l) (hn : l.length ≤ 30) {j i : Nat} (hj : j < a.G.Links.length) (hi : i < l.length) {s : TStep} (hs : s.Link = j) (h0 : sentAt a c l j 0 < s.Seq) :
  ∃ f : Nat,L_law17_CutSends_l2 i a c l s 1000 0 0 = some (f : Int) ∧ f ≤ i ∧ sentAt a c l j f < s.Seq ∧ ∀ m,f < m → m ≤ i → s.Seq ≤ sentAt a c l j m := by
 have key : ∀ (t k f nf : Nat),k + t = i + 1 → t < nf → f < k → sentAt a c l j f < s.Seq → (∀ m,f < m → m < k → s.Seq ≤ sentAt a c l j m) → ∃ g : Nat,L_law17_CutSends_l2 i a c l s nf f k = some (g : Int) ∧ g ≤ i ∧ sentAt a c l j g < s.Seq ∧ ∀ m,g < m → m ≤ i → s.Seq ≤ sentAt a c l j m := by
  intro t
  induction t with
  | zero =>
   intro k f nf e1 e2 e3 e4 e5
   cases nf with
   | zero => omega
   | succ nf =>
    refine ⟨f,?_,by omega,e4,fun m h1 h2 => e5 m h1 (by omega)⟩
    unfold L_law17_CutSends_l2
    rw [if_neg (by omega)]
  | succ t ih =>
   intro k f nf e1 e2 e3 e4 e5
   cases nf with
   | zero => omega
   | succ nf =>
    have hse := (right_take ha h hl k).nse
    have hst : L_law17_CutSends_l2 i a c l s (nf + 1) f k = (if sentAt a c l j k < s.Seq then some (k : Int) else some (f : Int)).bind fun n => L_law17_CutSends_l2 i a c l s nf n ((k + 1 : Nat) : Int) := by
     rw [L_law17_CutSends_l2,if_pos (by omega),if_pos (by omega),if_pos (by omega),Option.bind_some,Int.toNat_natCast,run_take ha h hl hn,Option.bind_some]
     dsimp only
     rw [if_pos rfl,if_pos (by omega),hs,at_nat,sent_take ha h hl hj,Option.bind_some,wr_succ (by omega)]
    rw [hst]
    by_cases e : sentAt a c l j k < s.Seq
    ·
     rw [if_pos e,Option.bind_some]
     exact ih (k + 1) k nf (by omega) (by omega) (by omega) e (fun m h1 h2 => by omega)
    ·
     rw [if_neg e,Option.bind_some]
     refine ih (k + 1) f nf (by omega) (by omega) (by omega) e4 (fun m h1 h2 => ?_)
     by_cases em : m = k
     · subst em; omega
     · exact e5 m h1 (by omega)
 have hse := (right_take ha h hl 0).nse
 have q := key i 1 0 999 (by omega) (by omega) (by omega) h0 (fun m h1 h2 => by omega)
 rw [L_law17_CutSends_l2,if_pos (by omega),if_pos (by omega),if_pos (by omega),Option.bind_some,run_take ha h hl hn (Int.toNat 0),Option.bind_some]
 dsimp only
 rw [if_pos rfl,if_pos (by have : (Int.toNat 0) = 0 := rfl; rw [this]; omega),hs,at_nat,sent_take ha h hl hj,Option.bind_some,if_pos (show sentAt a c l j (Int.toNat 0) < s.Seq from h0),Option.bind_some,wr (by decide) (by decide)]
 exact q
theorem sends_not (ha : SzA a) (h : CRightP a c) (hl : okP a c l) (h0 : ∀ j,sentAt a c l j 0 = 0) {i : Nat} (hi : i < l.length) (hk : l[i].Kind = 1) :
  ∃ (j : Nat) (x : A2I),l[i].Link = j ∧ a.G.Links[j]? = some x ∧ 0 ≤ x.a0 ∧ x.a0 < a.G.N ∧ sentAt a c l j 0 < l[i].Seq ∧
   ∀ f,f ≤ i → sentAt a c l j f < l[i].Seq → (∀ m,f < m → m ≤ i → l[i].Seq ≤ sentAt a c l j m) →
    ¬ goodP a c l (leftP a.G ((ncntL a.G (l.take (i + 1))).set x.a0.toNat (ncnt a.G x.a0 (l.take f)))) noL := by
 have hsp : l.take i ++ l[i] :: l.drop (i + 1) = l := by rw [← List.drop_eq_getElem_cons hi,List.take_append_drop]
 have ho : okP a (endP a c (l.take i)) (l[i] :: l.drop (i + 1)) := (okP_app.1 (show okP a c (l.take i ++ l[i] :: l.drop (i + 1)) by rw [hsp]; exact hl)).2
 have hRi := right_take ha h hl i
 rcases step_view hRi ho.1 with ⟨n,p,q⟩ | ⟨j,ii,n,y,ms,m,q⟩
 · exact absurd hk (by rw [q.kind]; decide)
 have hj := (List.getElem?_eq_some_iff.1 q.ends).1
 obtain ⟨l0,z0,f1,f2,f3,f4,f5⟩ := hRi.at_link hj
 rw [q.ms] at f1
 injection f1 with f1
 subst f1
 obtain ⟨hii,g2⟩ := placeP_some q.place
 have g1 := List.getElem?_eq_getElem hii
 have hm := msgs_at f5 g1
 rw [sent_take ha h hl hj] at f2
 injection f2 with f2
 have hx := List.mem_of_getElem? q.ends
 obtain ⟨x1,x2,x3,x4,x5⟩ := h.tab.1.link hx
 dsimp only at x1 x2 x3 x4 x5
 refine ⟨j,⟨y,n⟩,q.link,q.ends,x1,x2,by rw [h0]; omega,fun f hf e1 e2 => ?_⟩
 have hfi : f < i := by
  rcases Nat.lt_or_ge f i with r | r
  · exact r
  ·
   have : f = i := by omega
   subst this
   omega
 have hfl : f < l.length := by omega
 have hsf : l.take f ++ l[f] :: l.drop (f + 1) = l := by rw [← List.drop_eq_getElem_cons hfl,List.take_append_drop]
 have hof : okP a (endP a c (l.take f)) (l[f] :: l.drop (f + 1)) := (okP_app.1 (show okP a c (l.take f ++ l[f] :: l.drop (f + 1)) by rw [hsf]; exact hl)).2
 have hstep : endP a c (l.take (f + 1)) = (applyP a (endP a c (l.take f)) l[f]).1 := by
  rw [List.take_succ_eq_append_getElem hfl,endP_app]
  rfl
 have hsb : sentBy (endP a c (l.take f)) (applyP a (endP a c (l.take f)) l[f]).1 l[i].Link l[i].Seq := by
  refine ⟨j,_,_,q.link,sent_take ha h hl hj,?_,e1,e2 (f + 1) (by omega) (by omega)⟩
  rw [← hstep]
  exact sent_take ha h hl hj
 obtain ⟨k',x',r1,r2,r3⟩ := sentBy_at (right_take ha h hl f) ha hof.1 hsb
 have ek : j = k' := by have := q.link; omega
 subst ek
 rw [q.ends] at r2
 injection r2 with r2
 subst r2
 dsimp only at r3
 have wf := where_ok (right_take ha h hl f) hof.1
 have wi := where_ok hRi ho.1
 have ewi : whereC a.G l[i] = n := by rw [wi.1,q.where]
 have ewf : whereC a.G l[f] = y := by rw [wf.1]; exact r3.symm
 have hmid : l.take (f + 1) ++ (l.drop (f + 1)).take (i - (f + 1)) = l.take i := by
  rw [← List.take_add,show f + 1 + (i - (f + 1)) = i by omega]
 have hall : l = l.take f ++ l[f] :: ((l.drop (f + 1)).take (i - (f + 1)) ++ l[i] :: l.drop (i + 1)) := by
  rw [← List.cons_append,← List.append_assoc]
  have e3 : l.take f ++ l[f] :: (l.drop (f + 1)).take (i - (f + 1)) = l.take i := by
   rw [← hmid,List.take_succ_eq_append_getElem hfl,List.append_assoc]
   rfl
  rw [e3,hsp]
 have e3 : l.take f ++ l[f] :: (l.drop (f + 1)).take (i - (f + 1)) = l.take i := by
  rw [← hmid,List.take_succ_eq_append_getElem hfl,List.append_assoc]
  rfl
 have hcut := cut_sends (left := leftP a.G ((ncntL a.G (l.take (i + 1))).set y.toNat (ncnt a.G y (l.take f)))) ha (l1 := l.take f) (r := (l.drop (f + 1)).take (i - (f + 1))) (l2 := l.drop (i + 1)) (b := l[f]) (s := l[i]) h (by rw [← hall]; exact hl) hk (leftP_len _) hsb
  (by
   have hp := ncnt_pos (g := a.G) y (l.take f)
   rw [ewf,lft_leftP _ x1,if_pos x2,List.getElem?_set,if_pos rfl,ncntL_len,if_pos (by omega),Option.getD_some]
   omega)
  (by
   have hp := ncnt_pos (g := a.G) (n : Int) (l.take i)
   rw [ewi,lft_leftP _ x3,if_pos x4,List.getElem?_set,if_neg (by omega),ncntL_get,if_pos (by omega),Option.getD_some,e3,Int.toNat_natCast,List.take_succ_eq_append_getElem hi,ncnt_snoc,if_pos ewi]
   omega)
 rw [← hall] at hcut
 exact hcut
end
open Classical in
theorem cutSends_l1 {a : TApp} {c : TConf} {l : List TStep} (ha : SzA a) (h : CRightP a c) (hl : okP a c l) (hn : l.length ≤ 30) (h0 : ∀ j,sentAt a c l j 0 = 0) (a2 : A2u8) :
  ∃ b,L_law17_CutSends_l1 a2 a a c l (((l.length : Int) - 0).toNat + 1) 0 = some b ∧ (b = .inl () ∨ b = .inr true) := by
 have hN := h.tab.1.2.1
 refine loopE (σ := Unit) (F := fun nf k _ => L_law17_CutSends_l1 a2 a a c l nf k) (len := l.length) (fun _ _ => True) (fun b => b = .inl () ∨ b = .inr true)
  (fun nf _ _ => ⟨.inl (),by rw [L_law17_CutSends_l1,if_neg (by omega)],.inl rfl⟩)
  (fun nf i _ hi _ ih => ?_) l.length _ 0 () (by omega) (by omega) trivial
 obtain ⟨r,hr1,hr2⟩ := ih () trivial
 rw [L_law17_CutSends_l1,if_pos (by omega),at_get hi,Option.bind_some]
 by_cases hk : l[i].Kind = 1
 ·
  obtain ⟨j,x,q1,q2,q3,q4,q5,q6⟩ := sends_not ha h hl h0 hi hk
  have hj := (List.getElem?_eq_some_iff.1 q2).1
  obtain ⟨f,f1,f2,f3,f4⟩ := sends_l2 ha h hl hn hj hi q1 q5
  have hse := (right_take ha h hl i).nse
  have hlt : ∀ k,(l.take k).length ≤ 30 := fun k => by rw [List.length_take]; omega
  have e1 : IntKind.wrap .i64 ((i : Int) + 1) = ((i + 1 : Nat) : Int) := wr_succ (by omega)
  have hb := ncnt_pos (g := a.G) x.a0 (l.take f)
  have hb2 := ncnt_len (g := a.G) x.a0 (l.take f)
  have hlf := hlt f
  have hcw : ∀ v ∈ (ncntL a.G (l.take (i + 1))).set x.a0.toNat (ncnt a.G x.a0 (l.take f)),wI .i64 v := fun v hv => by
   rcases List.mem_or_eq_of_mem_set hv with hv | hv
   · exact ncntL_w a.G (by have := hlt (i + 1); omega) v hv
   ·
    subst hv
    exact wI_i64 (by omega) (by omega)
  have hget : (ncntL a.G (l.take f))[x.a0.toNat]? = some (ncnt a.G x.a0 (l.take f)) := by
   rw [ncntL_get,if_pos (by omega),show ((x.a0.toNat : Nat) : Int) = x.a0 by omega]
  have hx0 : x.a0 = ((x.a0.toNat : Nat) : Int) := by omega
  have hlen1 := ncntL_len a.G (l.take (i + 1))
  rw [if_pos hk,q1,at_nat,q2,Option.bind_some,e1,if_pos (by omega),if_pos (by omega),Option.bind_some,Int.toNat_natCast,law_steps (by have := hlt (i + 1); omega),Option.bind_some,ref17_counts h.tab.1 (by have := hlt (i + 1); omega),Option.bind_some,if_pos (by omega),if_pos (by omega),Option.bind_some,Int.toNat_natCast,run_take ha h hl hn,Option.bind_some]
  dsimp only
  rw [if_pos rfl,if_pos (by omega),f1,Option.bind_some,if_pos (by omega),if_pos (by omega),if_pos (by omega),Option.bind_some,Int.toNat_natCast,law_steps (by have := hlt f; omega),Option.bind_some,ref17_counts h.tab.1 (by have := hlt f; omega),Option.bind_some]
  have hat1 : at? (ncntL a.G (l.take f)) x.a0 = some (ncnt a.G x.a0 (l.take f)) := by rw [hx0,at_nat,hget,← hx0]
  have hat2 : ∃ v,at? (ncntL a.G (l.take (i + 1))) x.a0 = some v := ⟨_,at_lt q3 (by omega)⟩
  obtain ⟨v,hat2⟩ := hat2
  rw [hat1,Option.bind_some,hat2,Option.bind_some,cut_good_eq h ha hl (by omega) hcw,Option.bind_some,if_neg (by rw [dF (q6 f f2 f3 f4)]; decide)]
  by_cases hq : (i : Int) > (IntKind.wrap .i64 a2.a0).tmod 12
  ·
   rw [if_pos hq,fixed17]
   exact ⟨_,rfl,.inr rfl⟩
  ·
   rw [if_neg hq,Option.bind_some]
   exact ⟨r,hr1,hr2⟩
 ·
  rw [if_neg hk,Option.bind_some,wr_succ (by omega)]
  exact ⟨r,hr1,hr2⟩
theorem cutSends_true (a0 : TApp) (a1 : List TStep) (a2 : A2u8) (w0 : wTApp a0) (w1 : (wL 40 wTStep) a1) (w2 : wA2u8 a2) : L_law17_CutSends a0 a1 a2 = some true := by
 classical
 unfold L_law17_CutSends
 rw [law_cutA,Option.bind_some]
 have ha := cutA_sz a0
 generalize cutA a0 = a at ha
 rw [law_app ha.t,Option.bind_some,ref_start ha,Option.bind_some,start_iff ha,Option.bind_some]
 have h0 : ∀ (l : List TStep) j,sentAt a (startP a) l j 0 = 0 := fun l j => by
  unfold sentAt
  rw [List.take_zero]
  show (((startP a).Sent)[j]?).getD 0 = 0
  unfold startP
  rw [List.getElem?_replicate]
  split <;> rfl
 generalize startP a = c at h0
 by_cases hR : CRightP a c
 ·
  rw [if_pos (dT hR),law_doable hR ha,Option.bind_some]
  have hl : okP a c (doL a c (a1.take 30)) := doL_ok
  have hn := doL_len (a := a) (l := a1.take 30) (c := c)
  rw [List.length_take] at hn
  generalize doL a c (a1.take 30) = l at hl hn
  obtain ⟨b,e1,e2⟩ := cutSends_l1 ha hR hl (by omega) (h0 l) a2
  rw [e1,Option.bind_some]
  rcases e2 with rfl | rfl
  ·
   dsimp only
   rw [fixed17]
   rfl
  · rfl
 ·
  rw [if_neg (by rw [dF hR]; decide),fixed17]
  rfl
end Go.Proofs.Ytabbejabdkkaiaa
