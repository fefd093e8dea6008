/- The law ProbeOwn, in plain words: true at every input. No condition. -/
import Derived.Test.YtabbejabdkkaiaaPvb
import Derived.Test.YtabbejabdkkaiaaGdProbeOwn
set_option linter.unusedSimpArgs false
set_option linter.unusedVariables false
namespace Go.Proofs.Ytabbejabdkkaiaa
open Go.RowKit

def PassP (a : TApp) (h : THost) (seen : List Int) (link : Int) (f : TFrame) : Prop := HearP a h link f ∧ ¬ f.Init = h.Node ∧ ¬ lastOf seen f.Init ≥ f.Num
section
variable {a : TApp} {h : THost}
def gateE (a : TApp) (h : THost) (link : Int) (f : TFrame) : Option Bool := (L_graph_In a.G h.Node).bind fun r83 => (L_slices_Contains_int_int r83 link).bind fun r85 => if r85 = true then (L_probe_seat_blocked (TSeat.mk h a)).bind fun r88 => if r88 = true then (L_graph_Back a.G link).bind fun r91 => (L_host_Gave a h r91).bind fun r93 => some (!(decide (r93 = f.Count))) else some true else some true
open Classical in
theorem hear_gate (hR : HRightP a h) (ha : SzA a) (link : Int) (f : TFrame) : gateE a h link f = some (decide (¬ HearP a h link f)) := by
 have hg := ha.g
 unfold gateE
 rw [graph_in _ (by omega),Option.bind_some,contains_int (by have := hR.il5; omega),Option.bind_some]
 by_cases c1 : link ∈ ins_ a.G h.Node
 ·
  rw [if_pos (dT c1),seat_blocked,Option.bind_some]
  by_cases c2 : (stH a h).Mode = 2
  ·
   rw [if_pos (dT c2),graph_back _ (by omega),Option.bind_some,host_gave hR ha,Option.bind_some]
   exact ndec (not_congr ⟨fun q => q.2.2,fun q => ⟨c1,c2,q⟩⟩)
  ·
   rw [if_neg (by rw [dF c2]; decide)]
   exact sT' fun q => c2 q.2.1
 ·
  rw [if_neg (by rw [dF c1]; decide)]
  exact sT' fun q => c1 q.1
open Classical in
theorem hear_own (hR : HRightP a h) (ha : SzA a) {seen : List Int} (link : Int) {f : TFrame} (hi : 0 ≤ f.Init ∧ f.Init ≤ 1000) (hs : seen.length ≤ 100000) (hp : f.Path.length ≤ 1000) :
  (PassP a h seen link f → L_probe_Hear_v1 a h seen link f = some (nowOf seen f.Init f.Num,outsH a h f.Init f.Num f.Path,[])) ∧
  (¬ PassP a h seen link f → L_probe_Hear_v1 a h seen link f = none ∧ ∃ q,L_probe_Hear_v2 a h seen link f = some (seen,[],q) ∧ q.length ≤ 1000) := by
 have hgate := hear_gate hR ha link f
 unfold gateE at hgate
 have e : (seen.take (List.replicate (max (seen.length : Int) (f.Init + 1)).toNat (0 : Int)).length ++ (List.replicate (max (seen.length : Int) (f.Init + 1)).toNat (0 : Int)).drop (seen.take (List.replicate (max (seen.length : Int) (f.Init + 1)).toNat (0 : Int)).length).length) = seen ++ List.replicate ((max (seen.length : Int) (f.Init + 1)).toNat - seen.length) 0 := by
  rw [List.length_replicate,List.take_of_length_le (by omega),List.drop_replicate]
 constructor
 ·
  rintro ⟨c,c1,c2⟩
  unfold L_probe_Hear_v1
  rw [hgate,dF fun q => q c,Option.bind_some,if_neg (by decide),if_neg c1,probe_last _ hi.1,Option.bind_some,if_neg c2,wr (n := f.Init + 1) (by omega) (by omega),if_pos (by omega),if_pos (by omega),if_pos (by omega),Option.bind_some,Option.bind_some,e,at_lt hi.1 (by rw [List.length_append,List.length_replicate]; omega),Option.bind_some,seat_probe hR ha _ _ hp,Option.bind_some]
  rfl
 ·
  intro hn
  unfold L_probe_Hear_v1 L_probe_Hear_v2
  rw [hgate]
  by_cases c : HearP a h link f
  ·
   rw [dF fun q => q c]
   by_cases c1 : f.Init = h.Node
   ·
    refine ⟨?_,f.Path,?_,hp⟩
    ·
     rw [Option.bind_some,if_neg (by decide),if_pos c1]
     unfold L_slices_Clone_int_int
     rw [if_pos (by omega),Option.bind_some]
    ·
     rw [Option.bind_some,if_neg (by decide),if_pos c1]
     unfold L_slices_Clone_int_int
     rw [if_pos (by omega),Option.bind_some]
   ·
    have c2 : lastOf seen f.Init ≥ f.Num := Classical.byContradiction fun q => hn ⟨c,c1,q⟩
    exact ⟨by rw [Option.bind_some,if_neg (by decide),if_neg c1,probe_last _ hi.1,Option.bind_some,if_pos c2],[],by rw [Option.bind_some,if_neg (by decide),if_neg c1,probe_last _ hi.1,Option.bind_some,if_pos c2],by simp⟩
  ·
   rw [dT c]
   exact ⟨rfl,[],rfl,by simp⟩
end
theorem set_self {α : Type} {l : List α} {i : Nat} {x : α} (h : l[i]? = some x) : l.set i x = l := by
 obtain ⟨hi,rfl⟩ := List.getElem?_eq_some_iff.1 h
 exact List.set_getElem_self hi
theorem at_of {α : Type} {l : List α} {i : Nat} {x : α} (h : l[i]? = some x) : at? l (i : Int) = some x := by rw [at_nat,h]
theorem fill99 {F : Nat → Int → List Int → Option Unit} {l : List Int} (hl : l.length ≤ 100000) (fin : ∀ nf l',l'.length = l.length → F (nf + 1) (l.length : Int) l' = some ()) (step : ∀ nf k l',k < l.length → l'.length = l.length → F (nf + 1) (k : Int) l' = F nf ((k + 1 : Nat) : Int) (l'.set k 99)) : F (((l.length : Int) - 0).toNat + 1) 0 l = some () :=
 loopI (F := F) (len := l.length) (fun _ l' => l'.length = l.length) (fun _ _ => some ()) (fun nf l' h => fin nf l' h) (fun nf k l' hk h ih => by rw [step nf k l' hk h]; exact ih _ (by rw [List.length_set]; exact h)) l.length _ 0 l (by omega) (by omega) rfl
theorem own_l1 {l : List Int} (hl : l.length ≤ 100000) : L_law16_ProbeOwn_l1 (((l.length : Int) - 0).toNat + 1) 0 l = some () :=
 fill99 (F := fun nf k l => L_law16_ProbeOwn_l1 nf k l) hl (fun nf l' h => by rw [L_law16_ProbeOwn_l1,if_neg (by omega)]) (fun nf k l' hk h => by
  rw [L_law16_ProbeOwn_l1,if_pos (by omega),at_get (by omega),Option.bind_some,wr_succ (by omega),Int.toNat_natCast])
theorem own_l7 {l : List Int} (hl : l.length ≤ 100000) : L_law16_ProbeOwn_l7 (((l.length : Int) - 0).toNat + 1) 0 l = some () :=
 fill99 (F := fun nf k l => L_law16_ProbeOwn_l7 nf k l) hl (fun nf l' h => by rw [L_law16_ProbeOwn_l7,if_neg (by omega)]) (fun nf k l' hk h => by
  rw [L_law16_ProbeOwn_l7,if_pos (by omega),at_get (by omega),Option.bind_some,wr_succ (by omega),Int.toNat_natCast])
def v90 (i : Nat) : Int := IntKind.wrap .i64 (90 + (i : Int))
def Wr (i : Nat) (o : TOut) : Prop := ∀ x ∈ o.F.Path,x = v90 i
theorem own_l4 {l : List TOut} {i : Nat} {x : TOut} (hx : l[i]? = some x) (hp : x.F.Path.length ≤ 1000) :
  ∃ l',L_law16_ProbeOwn_l4 (i : Int) (((at? l (i : Int)).elim 0 fun x => ((x.F.Path.length : Int) - 0).toNat) + 1) 0 l = some l' ∧ (l'.length = l.length ∧ (∀ j,j ≠ i → l'[j]? = l[j]?) ∧ ∃ y,l'[i]? = some y ∧ y.F.Path.length ≤ 1000 ∧ Wr i y) := by
 refine loopE (F := fun nf k l => L_law16_ProbeOwn_l4 (i : Int) nf k l) (len := x.F.Path.length) (fun k m => m.length = l.length ∧ (∀ j,j ≠ i → m[j]? = l[j]?) ∧ ∃ y,m[i]? = some y ∧ y.F.Path.length = x.F.Path.length ∧ ∀ j v,j < k → y.F.Path[j]? = some v → v = v90 i) (fun l' => l'.length = l.length ∧ (∀ j,j ≠ i → l'[j]? = l[j]?) ∧ ∃ y,l'[i]? = some y ∧ y.F.Path.length ≤ 1000 ∧ Wr i y)
  (fun nf m ⟨h1,h2,y,h3,h4,h5⟩ => ?_) (fun nf k m hk ⟨h1,h2,y,h3,h4,h5⟩ ih => ?_) x.F.Path.length _ 0 l (by omega) (by rw [at_of hx,Option.elim_some]; omega) ⟨rfl,fun _ _ => rfl,x,hx,rfl,fun j v hj => absurd hj (Nat.not_lt_zero j)⟩
 ·
  refine ⟨m,?_,h1,h2,y,h3,by omega,fun v hv => ?_⟩
  · rw [L_law16_ProbeOwn_l4,at_of h3,Option.bind_some,if_neg (by omega),Int.toNat_natCast,set_self h3]
  ·
   obtain ⟨j,hj,e⟩ := List.getElem_of_mem hv
   exact h5 j v (by omega) (by rw [List.getElem?_eq_getElem hj,e])
 ·
  have hi : i < m.length := (List.getElem?_eq_some_iff.1 h3).1
  rw [L_law16_ProbeOwn_l4,at_of h3,Option.bind_some,if_pos (by omega),Int.toNat_natCast,set_self h3,Option.bind_some,at_of h3,Option.bind_some,at_get (l := y.F.Path) (by omega),Option.bind_some,wr_succ (by omega),Int.toNat_natCast]
  refine ih _ ⟨by rw [List.length_set]; exact h1,fun j hj => by rw [List.getElem?_set_ne fun e => hj e.symm]; exact h2 j hj,_,List.getElem?_set_self hi,by dsimp only; rw [List.length_set]; exact h4,fun j v hj hv => ?_⟩
  dsimp only at hv
  by_cases e : j = k
  ·
   subst e
   rw [List.getElem?_set_self (by omega)] at hv
   injection hv with hv
   exact hv.symm
  ·
   rw [List.getElem?_set_ne fun g => e g.symm] at hv
   exact h5 j v (by omega) hv
theorem own_l3 {l : List TOut} (hl : l.length ≤ 1000) (hp : ∀ o ∈ l,o.F.Path.length ≤ 1000) :
  ∃ l',L_law16_ProbeOwn_l3 (((l.length : Int) - 0).toNat + 1) 0 l = some l' ∧ (l'.length = l.length ∧ ∀ i y,l'[i]? = some y → y.F.Path.length ≤ 1000 ∧ Wr i y) := by
 refine loopE (F := fun nf k l => L_law16_ProbeOwn_l3 nf k l) (len := l.length) (fun k m => m.length = l.length ∧ (∀ i y,m[i]? = some y → y.F.Path.length ≤ 1000) ∧ ∀ i y,i < k → m[i]? = some y → Wr i y) (fun l' => l'.length = l.length ∧ ∀ i y,l'[i]? = some y → y.F.Path.length ≤ 1000 ∧ Wr i y)
  (fun nf m ⟨h1,h2,h3⟩ => ?_) (fun nf k m hk ⟨h1,h2,h3⟩ ih => ?_) l.length (((l.length : Int) - 0).toNat + 1) 0 l (by omega) (by omega) ⟨rfl,fun i y hy => hp y (List.mem_of_getElem? hy),fun i y hi => absurd hi (Nat.not_lt_zero i)⟩
 ·
  exact ⟨m,by rw [L_law16_ProbeOwn_l3,if_neg (by omega)],h1,fun i y hy => by
   have hlt : i < m.length := (List.getElem?_eq_some_iff.1 hy).1
   exact ⟨h2 i y hy,h3 i y (by omega) hy⟩⟩
 ·
  have hk' : k < m.length := by omega
  obtain ⟨l',e,g1,g2,y,g3,g4,g5⟩ := own_l4 (List.getElem?_eq_getElem hk') (h2 k _ (List.getElem?_eq_getElem hk'))
  rw [L_law16_ProbeOwn_l3,if_pos (by omega),e,Option.bind_some,Option.bind_some,wr_succ (by omega)]
  refine ih l' ⟨by omega,fun i z hz => ?_,fun i z hi hz => ?_⟩
  ·
   by_cases q : i = k
   · subst q; rw [g3] at hz; injection hz with hz; subst hz; exact g4
   · rw [g2 i q] at hz; exact h2 i z hz
  ·
   by_cases q : i = k
   · subst q; rw [g3] at hz; injection hz with hz; subst hz; exact g5
   · rw [g2 i q] at hz; exact h3 i z (by omega) hz
theorem own_l6 {l : List TOut} {i : Nat} {x : TOut} (hx : l[i]? = some x) (hp : x.F.Path.length ≤ 1000) (hw : Wr i x) :
  L_law16_ProbeOwn_l6 (i : Int) (((at? l (i : Int)).elim 0 fun x => ((x.F.Path.length : Int) - 0).toNat) + 1) 0 l = some l := by
 refine loopI (F := fun nf k l => L_law16_ProbeOwn_l6 (i : Int) nf k l) (len := x.F.Path.length) (fun _ m => m = l) (fun _ _ => some l)
  (fun nf m e => ?_) (fun nf k m hk e ih => ?_) x.F.Path.length _ 0 l (by omega) (by rw [at_of hx,Option.elim_some]; omega) rfl
 ·
  subst e
  rw [L_law16_ProbeOwn_l6,at_of hx,Option.bind_some,if_neg (by omega),Int.toNat_natCast,set_self hx]
 ·
  subst e
  rw [L_law16_ProbeOwn_l6,at_of hx,Option.bind_some,if_pos (by omega),Int.toNat_natCast,set_self hx,Option.bind_some,at_of hx,Option.bind_some,at_get (l := x.F.Path) hk,Option.bind_some,if_pos (show x.F.Path[k] = IntKind.wrap .i64 (90 + (i : Int)) from hw _ (List.getElem_mem hk)),wr_succ (by omega),set_self hx]
  exact ih _ rfl
theorem own_l5 {l : List TOut} (hl : l.length ≤ 1000) (hw : ∀ i y,l[i]? = some y → y.F.Path.length ≤ 1000 ∧ Wr i y) : L_law16_ProbeOwn_l5 (((l.length : Int) - 0).toNat + 1) 0 l = some () := by
 refine loopI (F := fun nf k l => L_law16_ProbeOwn_l5 nf k l) (len := l.length) (fun _ m => m = l) (fun _ _ => some ())
  (fun nf m e => ?_) (fun nf k m hk e ih => ?_) l.length _ 0 l (by omega) (by omega) rfl
 ·
  subst e
  rw [L_law16_ProbeOwn_l5,if_neg (by omega)]
 ·
  subst e
  obtain ⟨h1,h2⟩ := hw k _ (List.getElem?_eq_getElem hk)
  rw [L_law16_ProbeOwn_l5,if_pos (by omega),own_l6 (List.getElem?_eq_getElem hk) h1 h2,Option.bind_some,Option.bind_some,wr_succ (by omega)]
  exact ih _ rfl
theorem oE_none {α β : Type} {o : Option α} {f : α → Option β} {y : Option β} (h : o = none) : oE o f y = y := by rw [h]; rfl
theorem oE_some {α β : Type} {o : Option α} {f : α → Option β} {y : Option β} {r : α} (h : o = some r) : oE o f y = f r := by rw [h]; rfl
theorem probeOwn_true (a0 : TApp) (a1 : THost) (a2 : THeard) (w0 : wTApp a0) (w1 : wTHost a1) (w2 : wTHeard a2) : L_law16_ProbeOwn a0 a1 a2 = some true := by
 classical
 unfold L_law16_ProbeOwn
 rw [law_cutA,Option.bind_some,law_cutF,Option.bind_some,if_pos (by omega),if_pos (by omega),Option.bind_some,take_min (i := 10) _ 10 rfl]
 have ha := cutA_sz a0
 have hh := szH_of w1
 have hf := cutF_sz a2.F
 have hl : (a2.Seen.take 10).length ≤ 10 := by rw [List.length_take]; omega
 generalize cutA a0 = a at ha
 generalize cutF a2.F = f at hf
 generalize a2.Seen.take 10 = seen at hl
 rw [if_pos (by omega),law_app ha.t,Option.bind_some,show L_law09_Ref a1 = some a1 from rfl,Option.bind_some,ref_host ha hh,Option.bind_some]
 by_cases hR : HRightP a a1
 ·
  rw [if_pos (dT hR)]
  by_cases hk : f.Kind = 6
  ·
   rw [if_pos hk,law_refF (by omega),Option.bind_some,ref_frame hk (by omega),Option.bind_some,Option.bind_some]
   by_cases hF : FrameP f
   ·
    have hi := hF.ini
    have hp := hF.len
    rw [if_neg (by rw [dT hF]; decide),if_pos (by omega)]
    obtain ⟨h1,h2⟩ := hear_own hR ha (seen := seen) a2.Link (f := f) (by omega) (by omega) (by omega)
    by_cases hC : PassP a a1 seen a2.Link f
    ·
     have ho := outsH_len (h := a1) ha f.Init f.Num f.Path
     have hnl := now_len seen f.Num hi.1
     have hpo : ∀ o ∈ outsH a a1 f.Init f.Num f.Path,o.F.Path.length ≤ 1000 := fun o ho => by
      obtain ⟨w,_,rfl⟩ := List.mem_map.1 ho
      show (f.Path ++ [a1.Node]).length ≤ 1000
      rw [List.length_append,List.length_singleton]
      omega
     rw [oE_some (h1 hC)]
     dsimp only
     obtain ⟨l',e,g1,g2⟩ := own_l3 (l := outsH a a1 f.Init f.Num f.Path) (by omega) hpo
     have e1 : (if ((outsH a a1 f.Init f.Num f.Path).length : Int) > 0 then L_law16_ProbeOwn_l1 ((((nowOf seen f.Init f.Num).length : Int) - 0).toNat + 1) 0 (nowOf seen f.Init f.Num) else some ()) = some () := by
      split
      · exact own_l1 (by omega)
      · rfl
     rw [e1,Option.bind_some,show L_law16_ProbeOwn_l2 1 = some () from rfl,Option.bind_some,e,Option.bind_some,own_l5 (by omega) g2,Option.bind_some,ints_same (by omega),Option.bind_some,if_pos rfl,ints_same (by omega),Option.bind_some,if_pos rfl,fixed16]
     rfl
    ·
     obtain ⟨g1,q,g2,g3⟩ := h2 hC
     rw [oE_none g1,g2,Option.bind_some,Option.bind_some]
     dsimp only
     rw [own_l7 (by omega),Option.bind_some,show L_law16_ProbeOwn_l8 1 = some () from rfl,Option.bind_some,show L_law16_ProbeOwn_l9 1 = some () from rfl,Option.bind_some,ints_same (by omega),Option.bind_some,if_pos rfl,ints_same (by omega),Option.bind_some,if_pos rfl,fixed16]
     rfl
   ·
    rw [if_pos (by rw [dF hF]; decide),fixed16]
    rfl
  ·
   rw [if_neg hk,Option.bind_some,if_pos rfl,fixed16]
   rfl
 ·
  rw [if_neg (by rw [dF hR]; decide),Option.bind_some,if_pos rfl,fixed16]
  rfl
end Go.Proofs.Ytabbejabdkkaiaa
