/- Cuts in plain words: which steps are ahead; which cuts are good; the theorem of cuts. No condition. -/
import Derived.Test.YtabbejabdkkaiaaPua
set_option linter.unusedSimpArgs false
set_option linter.unusedVariables false
namespace Go.Proofs.Ytabbejabdkkaiaa
open Go.RowKit

def whereC (g : TGraph) (s : TStep) : Int :=
 if s.Kind = 0 ∧ 0 ≤ s.Node ∧ s.Node < g.N then s.Node else
 if s.Kind = 1 ∧ 0 ≤ s.Link ∧ s.Link < (g.Links.length : Int) then ((g.Links[s.Link.toNat]?).getD ⟨0,0⟩).a1 else -1
def lft (left : List Int) (w : Int) : Int := (left[w.toNat]?).getD 0
def side (w : Int) (left : List Int) : Bool × List Int := if w < 0 then (false,left) else (decide (0 ≤ lft left w - 1),left.set w.toNat (lft left w - 1))
def splitP (g : TGraph) : List TStep → List Int → List TStep × List TStep
 | [],_ => ([],[])
 | s :: l,left => if (side (whereC g s) left).1 = true then (s :: (splitP g l (side (whereC g s) left).2).1,(splitP g l (side (whereC g s) left).2).2) else ((splitP g l (side (whereC g s) left).2).1,s :: (splitP g l (side (whereC g s) left).2).2)
def lateP (b : Bool) (L : Int → Int → Prop) (c d : TConf) (j q : Int) : Prop := L j q ∨ (b = false ∧ sentBy c d j q)
def goodP (a : TApp) : TConf → List TStep → List Int → (Int → Int → Prop) → Prop
 | _,[],_,_ => True
 | c,s :: l,left,L => (s.Kind = 1 → (side (whereC a.G s) left).1 = true → ¬ L s.Link s.Seq) ∧ goodP a (applyP a c s).1 l (side (whereC a.G s) left).2 (lateP (side (whereC a.G s) left).1 L c (applyP a c s).1)
theorem lft_side {w v : Int} {left : List Int} (hv : 0 ≤ v) : lft (side w left).2 v = if w = v ∧ w.toNat < left.length then lft left v - 1 else lft left v := by
 unfold side
 by_cases h : w < 0
 · rw [if_pos h,if_neg (by omega)]
 ·
  rw [if_neg h]
  unfold lft
  dsimp only
  rw [List.getElem?_set]
  by_cases e : w.toNat = v.toNat
  ·
   have ew : w = v := by omega
   subst ew
   rw [if_pos rfl]
   by_cases hl : w.toNat < left.length
   · rw [if_pos hl,if_pos ⟨rfl,hl⟩,Option.getD_some]
   · rw [if_neg hl,if_neg (by omega),List.getElem?_eq_none (by omega)]
  · rw [if_neg e,if_neg (by omega)]
theorem lft_le {w v : Int} {left : List Int} (hv : 0 ≤ v) : lft (side w left).2 v ≤ lft left v := by
 rw [lft_side hv]
 split <;> omega
theorem side_t {w : Int} {left : List Int} : (side w left).1 = true ↔ 0 ≤ w ∧ 1 ≤ lft left w := by
 unfold side
 by_cases h : w < 0
 ·
  rw [if_pos h]
  exact ⟨fun e => (by cases e),fun e => by omega⟩
 ·
  rw [if_neg h]
  dsimp only
  rw [decide_eq_true_iff]
  omega
theorem side_own {w : Int} {left : List Int} (h : (side w left).1 ≠ true) (hw : 0 ≤ w) : lft (side w left).2 w ≤ 0 := by
 have h1 : ¬ 1 ≤ lft left w := fun e => h (side_t.2 ⟨hw,e⟩)
 have := lft_le (w := w) (left := left) hw
 omega
section
variable {g : TGraph}
theorem split_ne {w : Int} (hw : 0 ≤ w) : ∀ {l : List TStep} {left : List Int},lft left w ≤ 0 → ∀ s ∈ (splitP g l left).1,whereC g s ≠ w
 | [],left,h,s,hs => by simp [splitP] at hs
 | t :: l,left,h,s,hs => by
  have h' : lft (side (whereC g t) left).2 w ≤ 0 := Int.le_trans (lft_le hw) h
  rw [splitP] at hs
  split at hs
  ·
   rename_i c
   rcases List.mem_cons.1 hs with rfl | hs
   ·
    intro e
    have := (side_t.1 c).2
    rw [e] at this
    omega
   · exact split_ne hw h' s hs
  · exact split_ne hw h' s hs
theorem split_len : ∀ {l : List TStep} {left : List Int},(splitP g l left).1.length + (splitP g l left).2.length = l.length
 | [],left => rfl
 | t :: l,left => by
  have ih := split_len (l := l) (left := (side (whereC g t) left).2)
  rw [splitP]
  split
  ·
   rw [List.length_cons,List.length_cons]
   dsimp only
   omega
  ·
   rw [List.length_cons,List.length_cons]
   dsimp only
   omega
end
section
variable {a : TApp} {c d : TConf} {b s : TStep}
theorem where_ok (h : CRightP a c) (hs : (applyP a c s).2 = 0) : whereC a.G s = whereP a s ∧ 0 ≤ whereP a s ∧ whereP a s < a.G.N := by
 have hN := h.nst
 rcases step_view h hs with ⟨n,p,q⟩ | ⟨j,i,n,y,l,m,q⟩
 ·
  have := q.lt
  rw [q.where]
  unfold whereC
  rw [if_pos ⟨q.kind,by rw [q.node]; omega,by rw [q.node]; omega⟩,q.node]
  exact ⟨rfl,by omega,by omega⟩
 ·
  have := q.lt
  have hj := (List.getElem?_eq_some_iff.1 q.ends).1
  rw [q.where]
  unfold whereC
  rw [if_neg (by rw [q.kind]; omega),if_pos ⟨q.kind,by rw [q.link]; omega,by rw [q.link]; omega⟩,q.link,Int.toNat_natCast,q.ends,Option.getD_some]
  exact ⟨rfl,by omega,by omega⟩
theorem good_late : ∀ {l : List TStep} {c : TConf} {left : List Int} {L : Int → Int → Prop},goodP a c l left L → ∀ t ∈ (splitP a.G l left).1,t.Kind = 1 → ¬ L t.Link t.Seq
 | [],c,left,L,_,t,ht,_ => by simp [splitP] at ht
 | s :: l,c,left,L,⟨h1,h2⟩,t,ht,hk => by
  rw [splitP] at ht
  split at ht
  ·
   rename_i e
   rcases List.mem_cons.1 ht with rfl | ht
   · exact h1 hk e
   · exact fun hl => good_late h2 t ht hk (.inl hl)
  · exact fun hl => good_late h2 t ht hk (.inl hl)
theorem good_turn (ha : SzA a) : ∀ {l : List TStep} {c : TConf} {left : List Int} {L : Int → Int → Prop},CRightP a c → okP a c l → goodP a c l left L → okP a c ((splitP a.G l left).1 ++ (splitP a.G l left).2) ∧ endP a c ((splitP a.G l left).1 ++ (splitP a.G l left).2) = endP a c l
 | [],c,left,L,h,_,_ => ⟨trivial,rfl⟩
 | s :: l,c,left,L,h,⟨hs,hl⟩,⟨g1,g2⟩ => by
  have h1 := apply_right h ha hs
  obtain ⟨i1,i2⟩ := good_turn ha (l := l) (c := (applyP a c s).1) h1 hl g2
  obtain ⟨w1,w2,w3⟩ := where_ok h hs
  rw [splitP]
  split
  · exact ⟨⟨hs,i1⟩,i2⟩
  ·
   rename_i e
   dsimp only
   obtain ⟨o1,o2⟩ := okP_app.1 i1
   have hne := split_ne (g := a.G) (w := whereC a.G s) (by omega) (l := l) (side_own e (by omega))
   have hokw : ∀ {p : List TStep} {c : TConf},CRightP a c → okP a c p → ∀ t ∈ p,whereC a.G t = whereP a t := fun {p} => by
    induction p with
    | nil => intro c _ _ t ht; simp at ht
    | cons x p ih =>
     intro c hc ho t ht
     rcases List.mem_cons.1 ht with rfl | ht
     · exact (where_ok hc ho.1).1
     · exact ih (apply_right hc ha ho.1) ho.2 t ht
   have hw := hokw h1 o1
   obtain ⟨r1,r2⟩ := step_past ha h hs o1 (fun t ht q => hne t ht (by rw [hw t ht,w1,q])) (fun t ht hk hh => good_late g2 t ht hk (.inr ⟨by cases q : (side (whereC a.G s) left).1 with | false => rfl | true => exact absurd q e,hh⟩))
   refine ⟨okP_app.2 ⟨r1,by rw [r2],by rw [r2]; exact o2⟩,?_⟩
   rw [endP_app]
   show endP a (applyP a (endP a c _) s).1 _ = _
   rw [r2,← endP_app]
   exact i2
theorem step_over (ha : SzA a) : ∀ {q : List TStep} {e : TConf} {s : TStep},CRightP a e → (applyP a e s).2 = 0 → okP a e q → (∀ b ∈ q,whereP a b ≠ whereP a s) → okP a (applyP a e s).1 q ∧ applyP a (endP a e q) s = (endP a (applyP a e s).1 q,0)
 | [],e,s,h,hs,_,_ => ⟨trivial,Prod.ext rfl hs⟩
 | b :: q,e,s,h,hs,⟨hb,hq⟩,hw => by
  obtain ⟨x,f1,f2⟩ := steps_turn h ha hb hs (hw b (by simp))
  have h1 := apply_right h ha hb
  obtain ⟨r1,r2⟩ := step_over ha (q := q) (e := (applyP a e b).1) (s := s) h1 (by rw [f1]) hq fun t ht => hw t (List.mem_cons_of_mem b ht)
  rw [f1] at r1 r2
  refine ⟨⟨by rw [f2],by rw [f2]; exact r1⟩,?_⟩
  show applyP a (endP a (applyP a e b).1 q) s = (endP a (applyP a (applyP a e s).1 b).1 q,0)
  rw [r2,f2]
theorem turn_good (ha : SzA a) : ∀ {l : List TStep} {c e : TConf} {q : List TStep} {left : List Int} {L : Int → Int → Prop},CRightP a e → okP a e q → endP a e q = c → CRightP a c → okP a c l → okP a e (splitP a.G l left).1 →
  (∀ b ∈ q,0 ≤ whereP a b ∧ lft left (whereP a b) ≤ 0) →
  (∀ j s,L j s → ∃ (k : Nat) (x : A2I) (z : Int),j = k ∧ a.G.Links[k]? = some x ∧ 0 ≤ x.a0 ∧ lft left x.a0 ≤ 0 ∧ e.Sent[k]? = some z ∧ z < s) → goodP a c l left L
 | [],c,e,q,left,L,_,_,_,_,_,_,_,_ => trivial
 | s :: l,c,e,q,left,L,he,hq,hec,hc,⟨hs,hl⟩,hp,hb,hL => by
  have h1 := apply_right hc ha hs
  obtain ⟨w1,w2,w3⟩ := where_ok hc hs
  rw [splitP] at hp
  by_cases f : (side (whereC a.G s) left).1 = true
  ·
   rw [if_pos f] at hp
   obtain ⟨hse,hp'⟩ := hp
   have f2 := (side_t.1 f).2
   have ne : ∀ b ∈ q,whereP a b ≠ whereP a s := fun b hbq e1 => by
    have := (hb b hbq).2
    rw [e1,← w1] at this
    omega
   obtain ⟨r1,r2⟩ := step_over ha he hse hq ne
   rw [hec] at r2
   refine ⟨fun hk _ hh => ?_,?_⟩
   ·
    obtain ⟨k,x,z,e1,e2,_,_,e3,e4⟩ := hL _ _ hh
    rcases step_view he hse with ⟨n,p,v⟩ | ⟨j,i,n,y,m,mm,v⟩
    · exact absurd (v.kind.symm.trans hk) (by decide)
    ·
     have ej : j = k := by have := v.link; omega
     subst ej
     obtain ⟨l0,z0,g1,g2,_,_,g3⟩ := he.at_link (List.getElem?_eq_some_iff.1 e2).1
     have g4 := v.ms
     rw [g1] at g4
     injection g4 with g4
     subst g4
     rw [e3] at g2
     injection g2 with g2
     have := msgs_at g3 v.msg
     obtain ⟨hi,hsq⟩ := placeP_some v.place
     have g5 := v.msg
     rw [List.getElem?_eq_getElem hi] at g5
     injection g5 with g5
     rw [g5] at hsq
     omega
   ·
    refine turn_good ha (l := l) (e := (applyP a e s).1) (q := q) (apply_right he ha hse) r1 (by rw [r2]) h1 hl hp' (fun b hbq => ⟨(hb b hbq).1,Int.le_trans (lft_le (hb b hbq).1) (hb b hbq).2⟩) fun j t hh => ?_
    rcases hh with hh | ⟨hh,_⟩
    ·
     obtain ⟨k,x,z,e1,e2,e3,e4,e5,e6⟩ := hL _ _ hh
     refine ⟨k,x,z,e1,e2,e3,Int.le_trans (lft_le e3) e4,?_,e6⟩
     rw [sent_keep he ha hse e2 fun e7 => by rw [e7,← w1] at e4; omega]
     exact e5
    ·
     rw [f] at hh
     cases hh
  ·
   rw [if_neg f] at hp
   have own := side_own f (by omega)
   refine ⟨fun _ e => absurd e f,?_⟩
   have hee : endP a e (q ++ [s]) = (applyP a c s).1 := by
    rw [endP_app,hec]
    rfl
   refine turn_good ha (l := l) (e := e) (q := q ++ [s]) he (okP_app.2 ⟨hq,by rw [hec]; exact ⟨hs,trivial⟩⟩) hee h1 hl hp (fun b hbq => ?_) fun j t hh => ?_
   ·
    rcases List.mem_append.1 hbq with hbq | hbq
    · exact ⟨(hb b hbq).1,Int.le_trans (lft_le (hb b hbq).1) (hb b hbq).2⟩
    ·
     rw [List.mem_singleton] at hbq
     subst hbq
     exact ⟨w2,by rw [← w1]; exact own⟩
   ·
    rcases hh with hh | ⟨_,hh⟩
    ·
     obtain ⟨k,x,z,e1,e2,e3,e4,e5,e6⟩ := hL _ _ hh
     exact ⟨k,x,z,e1,e2,e3,Int.le_trans (lft_le e3) e4,e5,e6⟩
    ·
     obtain ⟨k,x,e1,e2,e3⟩ := sentBy_at hc ha hs hh
     obtain ⟨k',z,z',g1,g2,g3,g4,g5⟩ := hh
     obtain rfl : k' = k := by omega
     have hk := (List.getElem?_eq_some_iff.1 e2).1
     have hv := List.getElem?_eq_getElem (l := e.Sent) (i := k') (by have := he.nse; omega)
     obtain ⟨v',f1,f2⟩ := ends_up ha he hq hv
     rw [hec,g2] at f1
     injection f1 with f1
     exact ⟨k',x,_,e1,e2,by rw [e3]; exact w2,by rw [e3,← w1]; exact own,hv,by omega⟩
theorem cut_good (ha : SzA a) {l : List TStep} {left : List Int} (h : CRightP a c) (hl : okP a c l) : goodP a c l left (fun _ _ => False) ↔ okP a c (splitP a.G l left).1 :=
 ⟨fun g => (okP_app.1 (good_turn ha h hl g).1).1,fun g => turn_good ha (q := []) h trivial rfl h hl g (fun b hb => by simp at hb) fun j s hh => hh.elim⟩
end
end Go.Proofs.Ytabbejabdkkaiaa
