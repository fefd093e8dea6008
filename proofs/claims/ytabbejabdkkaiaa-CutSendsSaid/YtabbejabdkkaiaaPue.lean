/- Cuts: what can be done of steps; whether a cut is good: the program's answer, in the plain words. No condition. -/
import Derived.Test.YtabbejabdkkaiaaPud
set_option linter.unusedSimpArgs false
set_option linter.unusedVariables false
namespace Go.Proofs.Ytabbejabdkkaiaa
open Go.RowKit

theorem ifc {p q : Prop} [Decidable p] [Decidable q] {x y : Int} (h : p ↔ q) : (if p then x else y) = (if q then x else y) := by
 by_cases c : p
 · rw [if_pos c,if_pos (h.1 c)]
 · rw [if_neg c,if_neg fun e => c (h.2 e)]
def doL (a : TApp) : TConf → List TStep → List TStep
 | _,[] => []
 | c,s :: l => if (applyP a c s).2 = 0 then s :: doL a (applyP a c s).1 l else doL a c l
section
variable {a : TApp} {c : TConf}
theorem doL_ok : ∀ {l : List TStep} {c : TConf},okP a c (doL a c l)
 | [],c => trivial
 | s :: l,c => by
  rw [doL]
  split
  ·
   rename_i e
   exact ⟨e,doL_ok (l := l)⟩
  · exact doL_ok (l := l)
theorem doL_len : ∀ {l : List TStep} {c : TConf},(doL a c l).length ≤ l.length
 | [],c => Nat.le_refl _
 | s :: l,c => by
  rw [doL]
  have h1 := doL_len (l := l) (c := (applyP a c s).1)
  have h2 := doL_len (l := l) (c := c)
  split
  · rw [List.length_cons,List.length_cons]; omega
  · rw [List.length_cons]; omega
theorem law_doable (h : CRightP a c) (ha : SzA a) (l : List TStep) : L_law17_doable a c l 30 = some (doL a c (l.take 30)) := by
 unfold L_law17_doable
 rw [law_app ha.t,Option.bind_some,law_conf,Option.bind_some]
 have q := loopI (F := fun nf k (s : TConf × List TStep) => L_law17_doable_l1 l 30 a nf k s.1 s.2) (len := l.length) (fun k s => CRightP a s.1 ∧ s.2.length ≤ k ∧ k ≤ 30) (fun k s => some (s.2 ++ doL a s.1 ((l.take 30).drop k)))
  (fun nf s ⟨_,_,h3⟩ => by
   rw [L_law17_doable_l1,baf,if_neg (by rw [decide_eq_true_iff]; omega),List.drop_eq_nil_of_le (by rw [List.length_take]; omega),doL,List.append_nil])
  (fun nf k s hk ⟨h1,h2,h3⟩ ih => by
   rw [L_law17_doable_l1,baf]
   by_cases h30 : k < 30
   ·
    have hk' : k < (l.take 30).length := by rw [List.length_take]; omega
    rw [if_pos (by rw [decide_eq_true_iff]; omega),at_get hk,Option.bind_some,L_law05_Step,Option.bind_some,ref_apply h1 ha,Option.bind_some,wr_succ (by omega),List.drop_eq_getElem_cons hk',List.getElem_take,doL]
    by_cases e : (applyP a s.1 l[k]).2 = 0
    ·
     rw [if_pos e,if_pos e,if_pos (by omega),Option.bind_some]
     refine (ih (_,s.2 ++ [l[k]]) ⟨apply_right h1 ha e,by dsimp only; rw [List.length_append,List.length_singleton]; omega,by omega⟩).trans ?_
     dsimp only
     rw [List.append_assoc]
     rfl
    ·
     rw [if_neg e,if_neg e,Option.bind_some]
     exact ih s ⟨h1,by omega,by omega⟩
   · rw [if_neg (by rw [decide_eq_true_iff]; omega),List.drop_eq_nil_of_le (by rw [List.length_take]; omega),doL,List.append_nil])
  l.length (((l.length : Int) - 0).toNat + 1) 0 (c,[]) (by omega) (by omega) ⟨h,by simp,by omega⟩
 rw [List.drop_zero] at q
 exact q
structure Rep (m : NMap) (L : Int → Int → Prop) (k : Nat) : Prop where
 iff : ∀ j q,mGetI m [j,q] > 0 ↔ L j q
 bd : ∀ j q,0 ≤ mGetI m [j,q] ∧ mGetI m [j,q] ≤ k
open Classical in
theorem good_l3 {n : Nat} {r : Bool × List Int} {d : TConf × Int} {z z' : Int} (hd : d.1.Sent[n]? = some z') (h0 : 0 ≤ z) (h1 : z ≤ z') (h2 : z' ≤ 500) {m : NMap} {k : Nat} (hk : k ≤ 1000) (hm : ∀ q,0 ≤ mGetI m [(n : Int),q] ∧ mGetI m [(n : Int),q] ≤ k) :
  ∃ m',L_cut_Good_l3 n r d 1000 (IntKind.wrap .i64 (z + 1)) m = some m' ∧ ∀ j q,mGetI m' [j,q] = mGetI m [j,q] + (if j = n ∧ r.1 = false ∧ z < q ∧ q ≤ z' then 1 else 0) := by
 have key : ∀ (t nf : Nat) (y : Int) (m0 : NMap),z + 1 ≤ y → y + t = z' + 1 → t < nf → (∀ j q,mGetI m0 [j,q] = mGetI m [j,q] + (if j = n ∧ r.1 = false ∧ z < q ∧ q < y then 1 else 0)) →
   ∃ m',L_cut_Good_l3 n r d nf y m0 = some m' ∧ ∀ j q,mGetI m' [j,q] = mGetI m [j,q] + (if j = n ∧ r.1 = false ∧ z < q ∧ q ≤ z' then 1 else 0) := by
  intro t
  induction t with
  | zero =>
   intro nf y m0 h3 h4 h5 h6
   cases nf with
   | zero => omega
   | succ nf =>
    refine ⟨m0,?_,fun j q => ?_⟩
    · rw [L_cut_Good_l3,at_nat,hd,Option.bind_some,if_neg (by omega),Option.bind_some,if_neg (by decide)]
    ·
     rw [h6]
     congr 1
     refine ifc ?_
     constructor
     · rintro ⟨e1,e2,e3,e4⟩; exact ⟨e1,e2,e3,by omega⟩
     · rintro ⟨e1,e2,e3,e4⟩; exact ⟨e1,e2,e3,by omega⟩
  | succ t ih =>
   intro nf y m0 h3 h4 h5 h6
   cases nf with
   | zero => omega
   | succ nf =>
    cases hr : r.1 with
    | true =>
     refine ⟨m0,?_,fun j q => ?_⟩
     ·
      rw [L_cut_Good_l3,at_nat,hd,Option.bind_some,if_pos (by omega),hr]
      rfl
     · rw [h6,if_neg (by rw [hr]; simp),if_neg (by simp)]
    | false =>
     have hb := hm y
     have hv : mGetI m0 [(n : Int),y] = mGetI m [(n : Int),y] := by
      rw [h6,if_neg (by omega)]
      omega
     obtain ⟨m',g1,g2⟩ := ih nf (y + 1) (mPutI m0 [(n : Int),y] (mGetI m0 [(n : Int),y] + 1)) (by omega) (by omega) (by omega) (fun j q => by
      rw [mGet_put]
      by_cases e : j = (n : Int) ∧ q = y
      ·
       obtain ⟨e1,e2⟩ := e
       subst e1 e2
       rw [if_pos rfl,hv,if_pos ⟨rfl,hr,by omega,by omega⟩]
      ·
       rw [if_neg (by simpa using fun e1 e2 => e ⟨e1,e2⟩),h6]
       congr 1
       refine ifc ?_
       constructor
       · rintro ⟨e1,e2,e3,e4⟩; exact ⟨e1,e2,e3,by omega⟩
       ·
        rintro ⟨e1,e2,e3,e4⟩; exact ⟨e1,e2,e3,by
         have : q ≠ y := fun e5 => e ⟨e1,e5⟩
         omega⟩)
     refine ⟨m',?_,fun j q => by rw [g2,hr]⟩
     rw [L_cut_Good_l3,at_nat,hd,Option.bind_some,if_pos (by omega),hr,Option.bind_some]
     rw [if_pos (by decide),hv,wr (n := y + 1) (by omega) (by omega),wr (by omega) (by omega),← hv]
     exact g1
 obtain ⟨m',g1,g2⟩ := key (z' - z).toNat 1000 (z + 1) m (by omega) (by omega) (by omega) (fun j q => by rw [if_neg (by omega)]; omega)
 rw [wr (by omega) (by omega)]
 exact ⟨m',g1,g2⟩
open Classical in
theorem good_l2 (h : CRightP a c) {d : TConf × Int} (hd : CRightP a d.1) (ha : SzA a) (hup : ∀ (j : Nat) (v : Int),c.Sent[j]? = some v → ∃ v',d.1.Sent[j]? = some v' ∧ v ≤ v') {r : Bool × List Int} {m : NMap} {k : Nat} (hk : k ≤ 900) (hm : ∀ j q,0 ≤ mGetI m [j,q] ∧ mGetI m [j,q] ≤ k) :
  ∃ m',L_cut_Good_l2 c r d (((d.1.Sent.length : Int) - 0).toNat + 1) 0 m = some m' ∧ ∀ j q,mGetI m' [j,q] = mGetI m [j,q] + (if r.1 = false ∧ sentBy c d.1 j q then 1 else 0) := by
 have n1 := h.nse
 have n2 := hd.nse
 have hg := ha.g
 exact loopE (F := fun nf i (s : NMap) => L_cut_Good_l2 c r d nf i s) (len := d.1.Sent.length) (fun i s => ∀ j q,mGetI s [j,q] = mGetI m [j,q] + (if j < (i : Int) ∧ r.1 = false ∧ sentBy c d.1 j q then 1 else 0)) (fun m' => ∀ j q,mGetI m' [j,q] = mGetI m [j,q] + (if r.1 = false ∧ sentBy c d.1 j q then 1 else 0))
  (fun nf s hs => ⟨s,by rw [L_cut_Good_l2,if_neg (by omega)],fun j q => by
   rw [hs]
   congr 1
   refine ifc ⟨fun e => e.2,fun e => ⟨?_,e⟩⟩
   obtain ⟨k',_,_,e1,e2,_⟩ := e.2
   have := (List.getElem?_eq_some_iff.1 e2).1
   omega⟩)
  (fun nf i s hi hs ih => by
   have hic : i < c.Sent.length := by omega
   have ev := List.getElem?_eq_getElem hic
   obtain ⟨v',e1,e2⟩ := hup i _ ev
   obtain ⟨l0,z0,f1,f2,f3,f4,_⟩ := h.at_link (j := i) (by omega)
   obtain ⟨l1,z1,g1,g2,g3,g4,_⟩ := hd.at_link (j := i) (by omega)
   rw [ev] at f2
   rw [e1] at g2
   injection f2 with f2
   injection g2 with g2
   obtain ⟨m',r1,r2⟩ := good_l3 (n := i) (r := r) (d := d) (z := c.Sent[i]) (m := s) (k := k) e1 (by omega) e2 (by omega) (by omega) (fun q => by
    have := hm i q
    rw [hs,if_neg (by omega)]
    omega)
   rw [L_cut_Good_l2,if_pos (by omega),at_get hic,Option.bind_some,r1,Option.bind_some,Option.bind_some,wr_succ (by omega)]
   refine ih m' fun j q => ?_
   rw [r2,hs]
   by_cases ej : j = (i : Int)
   ·
    subst ej
    rw [if_neg (by omega)]
    by_cases es : r.1 = false ∧ c.Sent[i] < q ∧ q ≤ v'
    ·
     rw [if_pos ⟨rfl,es⟩,if_pos ⟨by omega,es.1,i,_,_,rfl,ev,e1,es.2⟩]
     omega
    ·
     rw [if_neg fun e => es e.2,if_neg]
     · omega
     ·
      rintro ⟨_,e3,k',z,z',e4,e5,e6,e7,e8⟩
      have ek : i = k' := by omega
      subst ek
      rw [ev] at e5
      rw [e1] at e6
      injection e5 with e5
      injection e6 with e6
      exact es ⟨e3,by omega,by omega⟩
   ·
    rw [if_neg (show ¬ (j = (i : Int) ∧ r.1 = false ∧ c.Sent[i] < q ∧ q ≤ v') from fun e => ej e.1),Int.add_zero]
    congr 1
    exact ifc ⟨fun e => ⟨by omega,e.2⟩,fun e => ⟨by omega,e.2⟩⟩)
  d.1.Sent.length (((d.1.Sent.length : Int) - 0).toNat + 1) 0 m (by omega) (by omega) (fun j q => by
   rw [if_neg]
   · omega
   ·
    rintro ⟨e1,_,k',_,_,e2,_⟩
    omega)
theorem band3' (p r : Prop) (b : Bool) [Decidable p] [Decidable r] : (if p then if b = true then some (decide r) else some false else some false) = some (decide (p ∧ b = true ∧ r)) := by
 by_cases hp : p <;> cases b <;> simp [hp]
open Classical in
theorem cut_good_eq (h : CRightP a c) (ha : SzA a) {l : List TStep} (hok : okP a c l) (hl : l.length ≤ 800) {counts : List Int} (hc : ∀ x ∈ counts,wI .i64 x) : L_cut_Good a c l counts = some (decide (goodP a c l (leftP a.G counts) noL)) := by
 have h1 := h.tab.1.1
 have h2 := h.tab.1.2.1
 unfold L_cut_Good
 rw [cut_sides_eq (by omega) (by omega),Option.bind_some]
 have key : ∀ (t nf k : Nat) (c : TConf) (m : NMap) (left : List Int) (L : Int → Int → Prop),k + t = l.length → t < nf → CRightP a c → okP a c (l.drop k) → Rep m L k → LeftOk a.G k left → L_cut_Good_l1 a l nf k c m left = some (decide (goodP a c (l.drop k) left L)) := by
  intro t
  induction t with
  | zero =>
   intro nf k c m left L e1 e2 _ _ _ _
   cases nf with
   | zero => omega
   | succ nf =>
    rw [L_cut_Good_l1,if_neg (by omega),List.drop_eq_nil_of_le (by omega)]
    exact sT trivial
  | succ t ih =>
   intro nf k c m left L e1 e2 hR ho hm hleft
   cases nf with
   | zero => omega
   | succ nf =>
    have hk : k < l.length := by omega
    rw [List.drop_eq_getElem_cons hk] at ho ⊢
    obtain ⟨o1,o2⟩ := ho
    have hd := apply_right hR ha o1
    obtain ⟨m',r1,r2⟩ := good_l2 hR (d := applyP a c l[k]) hd ha (fun j v hv => sent_up hR o1 hv) (r := side (whereC a.G l[k]) left) (m := m) (k := k) (by omega) hm.bd
    have hm' : Rep m' (lateP (side (whereC a.G l[k]) left).1 L c (applyP a c l[k]).1) (k + 1) := by
     refine ⟨fun j q => ?_,fun j q => ?_⟩
     ·
      have b := hm.bd j q
      have i := hm.iff j q
      rw [r2]
      unfold lateP
      by_cases e : (side (whereC a.G l[k]) left).1 = false ∧ sentBy c (applyP a c l[k]).1 j q
      ·
       rw [if_pos e]
       exact ⟨fun _ => .inr e,fun _ => by omega⟩
      ·
       rw [if_neg e,Int.add_zero,i]
       exact ⟨.inl,fun q => q.resolve_right e⟩
     ·
      have b := hm.bd j q
      rw [r2]
      split <;> omega
    have hnext := ih nf (k + 1) (applyP a c l[k]).1 m' (side (whereC a.G l[k]) left).2 _ (by omega) (by omega) hd o2 hm' (hleft.side _)
    rw [L_cut_Good_l1,if_pos (by omega),at_get hk,Option.bind_some,cut_side_eq hR.tab.1 hleft (by omega),Option.bind_some,band3',Option.bind_some,wr_succ (by omega)]
    have e0 := hm.iff l[k].Link l[k].Seq
    by_cases f : l[k].Kind = 1 ∧ (side (whereC a.G l[k]) left).1 = true ∧ mGetI m [l[k].Link,l[k].Seq] > 0
    ·
     rw [if_pos (dT f),Option.bind_some]
     exact sF fun g => g.1 f.1 f.2.1 (e0.1 f.2.2)
    ·
     rw [if_neg (by rw [dF f]; decide),plain_apply hR ha,Option.bind_some,r1,Option.bind_some,Option.bind_some]
     refine hnext.trans (sdec ⟨fun g => ⟨fun g1 g2 g3 => f ⟨g1,g2,e0.2 g3⟩,g⟩,fun g => g.2⟩)
 have q := key l.length (((l.length : Int) - 0).toNat + 1) 0 c [] (leftP a.G counts) noL (by omega) (by omega) h hok ⟨fun j q => ⟨fun e => absurd (show (0 : Int) > 0 from e) (by decide),fun e => e.elim⟩,fun j q => ⟨Int.le_refl 0,Int.le_refl 0⟩⟩ (leftP_ok hc)
 rw [List.drop_zero] at q
 exact q
end
end Go.Proofs.Ytabbejabdkkaiaa
