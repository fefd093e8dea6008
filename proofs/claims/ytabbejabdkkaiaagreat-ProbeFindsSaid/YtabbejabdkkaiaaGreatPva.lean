/- Pieces, frames and hosts in plain words: what is cut, which may be. No condition. -/
import Derived.Test.YtabbejabdkkaiaaGreatPka
set_option linter.unusedSimpArgs false
set_option linter.unusedVariables false
namespace Go.Proofs.YtabbejabdkkaiaaGreat
open Go.RowKit

theorem orC {p q : Prop} {ip : Decidable p} {iq : Decidable q} {x : Option Bool} (h : x = some (@decide q iq)) : (@ite _ p ip (some true) x) = some (@decide (p ∨ q) (@instDecidableOr p q ip iq)) := by
 by_cases hp : p
 · rw [if_pos hp,dT (.inl hp)]
 ·
  rw [if_neg hp,h]
  exact sdec ⟨.inr,fun r => r.resolve_left hp⟩
theorem andC {p q : Prop} {ip : Decidable p} {iq : Decidable q} {x : Option Bool} (h : x = some (@decide q iq)) : (@ite _ p ip x (some true)) = some (@decide (¬ p ∨ q) (@instDecidableOr (¬ p) q (@instDecidableNot p ip) iq)) := by
 by_cases hp : p
 ·
  rw [if_pos hp,h]
  exact sdec ⟨.inr,fun r => r.resolve_left fun g => g hp⟩
 · rw [if_neg hp,dT (.inl hp)]
theorem law_refs {l : List TPiece} (hl : l.length ≤ 100) : L_law06_Refs l = some l := by
 have h := loopMap (F := fun nf n acc => L_law06_Refs_l1 l nf n acc) (l := l) (fun p => [p]) (fun q => q) 1 (by simp)
  (fun nf acc h => by rw [L_law06_Refs_l1,if_neg (by omega)])
  (fun nf k acc h h2 => by rw [L_law06_Refs_l1,if_pos (by omega),at_get h,Option.bind_some,L_law06_Ref,Option.bind_some,if_pos (by omega),wr_succ (by omega)])
  l.length (((l.length : Int) - 0).toNat + 1) 0 [] (by simp) (by omega) (by simp)
 simpa [flatMap_self,L_law06_Refs] using h
theorem law_refF {f : TFrame} (hl : f.Pieces.length ≤ 100) : L_law07_Ref f = some f := by
 unfold L_law07_Ref
 rw [law_refs hl]
 rfl
structure FrameP (f : TFrame) : Prop where
 ep : f.Epoch = 0
 m : f.M = ⟨0,0⟩
 pc : f.Pieces = []
 ini : 0 ≤ f.Init ∧ f.Init ≤ 5
 num : 1 ≤ f.Num ∧ f.Num ≤ 200
 cnt : 0 ≤ f.Count ∧ f.Count ≤ 500
 len : 1 ≤ f.Path.length ∧ f.Path.length ≤ 6
 path : ∀ x ∈ f.Path,0 ≤ x ∧ x ≤ 5
open Classical in
theorem ref_frame {f : TFrame} (hk : f.Kind = 6) (hl : f.Path.length ≤ 1000) : L_ref07_Right f = some (decide (FrameP f)) := by
 unfold L_ref07_Right L_ref07_probe
 rw [if_pos hk,andC (andC (orC (orC (orC (orC (orC (orC (orC (orC rfl))))))))),Option.bind_some]
 by_cases c : ¬ f.Epoch = 0 ∨ ¬ f.M = ⟨0,0⟩ ∨ (f.Pieces.length : Int) > 0 ∨ f.Init < 0 ∨ f.Init > 5 ∨ f.Num < 1 ∨ f.Num > 200 ∨ f.Count < 0 ∨ f.Count > 500 ∨ (f.Path.length : Int) < 1 ∨ (f.Path.length : Int) > 6
 ·
  rw [if_pos (dT c),Option.bind_some]
  refine sF fun q => ?_
  have h3 := q.pc
  have h4 := q.ini
  have h5 := q.num
  have h6 := q.cnt
  have h7 := q.len
  rcases c with c | c | c | c
  · exact c q.ep
  · exact c q.m
  · rw [h3] at c; simp at c
  · omega
 ·
  rw [if_neg (by rw [dF c]; decide)]
  have e1 : f.Epoch = 0 := Classical.byContradiction fun g => c (.inl g)
  have e2 : f.M = ⟨0,0⟩ := Classical.byContradiction fun g => c (.inr (.inl g))
  have e3 : ¬ ((f.Pieces.length : Int) > 0 ∨ f.Init < 0 ∨ f.Init > 5 ∨ f.Num < 1 ∨ f.Num > 200 ∨ f.Count < 0 ∨ f.Count > 500 ∨ (f.Path.length : Int) < 1 ∨ (f.Path.length : Int) > 6) := fun g => c (.inr (.inr g))
  have h := loopList (F := fun nf k => L_ref07_probe_l1 f nf k) (l := f.Path) (fun _ x => 0 ≤ x ∧ x ≤ 5) true false
   (fun nf => by rw [L_ref07_probe_l1,if_neg (by omega)])
   (fun nf k hk => stepN (by rw [L_ref07_probe_l1,if_pos (by omega),at_get hk,Option.bind_some,wr_succ (by omega)]) (by
    rw [orC rfl]
    exact sdec (by omega))) (((f.Path.length : Int) - 0).toNat + 1) (by omega)
  rw [h,Option.bind_some,ite_dec]
  refine sdec ⟨fun q => ⟨e1,e2,List.eq_nil_of_length_eq_zero (by omega),by omega,by omega,by omega,by omega,all_mem.1 q⟩,fun q => all_mem.2 q.path⟩
def OutP (l : List Int) : Prop := l.length ≤ 500 ∧ ∀ x ∈ l,0 ≤ x ∧ x ≤ 3
structure SzH (h : THost) : Prop where
 i : h.In.length ≤ 140737488355328 ∧ ∀ l ∈ h.In,l.length ≤ 140737488355328
 o : h.Out.length ≤ 140737488355328 ∧ ∀ l ∈ h.Out,l.length ≤ 140737488355328
structure HRightP (a : TApp) (h : THost) : Prop where
 tab : TRightP a.T a.G
 nd : 0 ≤ h.Node ∧ h.Node < a.G.N
 st : 0 ≤ h.State ∧ ∀ x : TNode,a.T[h.Node.toNat]? = some x → h.State < (x.States.length : Int)
 il : h.In.length = (ins_ a.G h.Node).length
 ol : h.Out.length = (outs_ a.G h.Node).length
 sp : 0 ≤ h.Steps ∧ h.Steps ≤ 2147483647
 i5 : h.In.length ≤ 5 ∧ h.Out.length ≤ 5
 ins : ∀ l ∈ h.In,MsgsP 500 0 l
 outs : ∀ l ∈ h.Out,OutP l
open Classical in
theorem ref06_l3 {p : TPiece} {k : Nat} (hk : k < p.In.length) (hl : p.In[k].length ≤ 140737488355328) : L_ref06_Right_l3 p (k : Int) (((at? p.In (k : Int)).elim 0 fun x => ((x.length : Int) - 0).toNat) + 1) 0 0 = some (if MsgsP 500 0 p.In[k] then .inl () else .inr false) := by
 have h := loopI (F := fun nf i (s : Int) => L_ref06_Right_l3 p (k : Int) nf s i) (len := p.In[k].length) (fun _ _ => True) (fun i s => some (if MsgsP 500 s (p.In[k].drop i) then .inl () else .inr false))
  (fun nf s _ => by
   rw [L_ref06_Right_l3,at_get hk,Option.bind_some,if_neg (by omega),List.drop_length,if_pos (show MsgsP _ _ [] from trivial)])
  (fun nf i s hi _ ih => by
   rw [L_ref06_Right_l3,at_get hk,Option.bind_some,if_pos (by omega),at_get hi,Option.bind_some,or4,wr_succ (by omega)]
   by_cases q : p.In[k][i].Seq ≤ s ∨ p.In[k][i].Seq > 500 ∨ p.In[k][i].Letter < 0 ∨ p.In[k][i].Letter > 3
   ·
    rw [if_pos (dT q),if_neg]
    intro r
    have := (msgs_drop hi s).1 r
    omega
   ·
    rw [if_neg (by rw [dF q]; decide),ih _ trivial]
    exact iteC ⟨fun r => (msgs_drop hi s).2 ⟨by omega,by omega,by omega,by omega,r⟩,fun r => ((msgs_drop hi s).1 r).2.2.2.2⟩)
  p.In[k].length (((at? p.In (k : Int)).elim 0 fun x => ((x.length : Int) - 0).toNat) + 1) 0 0 (by omega) (by rw [at_get hk,Option.elim_some]; omega) trivial
 exact h
open Classical in
theorem ref06_l5 {l : List Int} (hl : l.length ≤ 1000) : L_ref06_Right_l5 l (((l.length : Int) - 0).toNat + 1) 0 = some (if ∀ x ∈ l,0 ≤ x ∧ x ≤ 3 then .inl () else .inr false) := by
 have h := loopList (F := fun nf k => L_ref06_Right_l5 l nf k) (l := l) (fun _ x => 0 ≤ x ∧ x ≤ 3) (.inl () : Unit ⊕ Bool) (.inr false)
  (fun nf => by rw [L_ref06_Right_l5,if_neg (by omega)])
  (fun nf k hk => stepN (by rw [L_ref06_Right_l5,if_pos (by omega),at_get hk,Option.bind_some,wr_succ (by omega)]) (by
   rw [orC rfl]
   exact sdec (by omega))) (((l.length : Int) - 0).toNat + 1) (by omega)
 exact h.trans (iteC all_mem)
open Classical in
theorem ref_piece {s : Int} {i : List (List TMsg)} {o : List (List Int)} (hi : ∀ l ∈ i,l.length ≤ 140737488355328) :
  L_ref06_Right ⟨0,0,s,[],i,o⟩ = some (decide ((0 ≤ s ∧ s ≤ 2147483647) ∧ (i.length ≤ 5 ∧ o.length ≤ 5) ∧ (∀ l ∈ i,MsgsP 500 0 l) ∧ ∀ l ∈ o,OutP l)) := by
 unfold L_ref06_Right
 rw [orC (orC (orC (orC (orC (orC (orC (orC rfl))))))),Option.bind_some]
 dsimp only
 by_cases c : (0 : Int) < 0 ∨ (0 : Int) > 5 ∨ (0 : Int) < 0 ∨ (0 : Int) > 7 ∨ s < 0 ∨ s > 2147483647 ∨ (([] : List Int).length : Int) > 5 ∨ (i.length : Int) > 5 ∨ (o.length : Int) > 5
 ·
  rw [if_pos (dT c)]
  refine sF fun q => ?_
  simp only [List.length_nil] at c
  omega
 ·
  rw [if_neg (by rw [dF c]; decide)]
  simp only [List.length_nil] at c
  rw [L_ref06_Right_l1,if_neg (by simp),Option.bind_some]
  dsimp only
  have h2 := loopList (F := fun nf k => L_ref06_Right_l2 ⟨0,0,s,[],i,o⟩ nf k) (l := i) (fun _ l => MsgsP 500 0 l) (.inl () : Unit ⊕ Bool) (.inr false)
   (fun nf => by rw [L_ref06_Right_l2,if_neg (by dsimp only; omega)])
   (fun nf k hk => by
    have := ref06_l3 (p := ⟨0,0,s,[],i,o⟩) hk (hi _ (List.getElem_mem hk))
    constructor
    ·
     intro q
     rw [L_ref06_Right_l2,if_pos (by dsimp only; omega),this,if_pos q,Option.bind_some,wr_succ (by omega)]
     rfl
    ·
     intro q
     rw [L_ref06_Right_l2,if_pos (by dsimp only; omega),this,if_neg q,Option.bind_some]
     rfl) (((i.length : Int) - 0).toNat + 1) (by omega)
  have h4 := loopList (F := fun nf k => L_ref06_Right_l4 ⟨0,0,s,[],i,o⟩ nf k) (l := o) (fun _ l => OutP l) true false
   (fun nf => by rw [L_ref06_Right_l4,if_neg (by dsimp only; omega)])
   (fun nf k hk => by
    constructor
    ·
     intro q
     have q1 := q.1
     rw [L_ref06_Right_l4,if_pos (by dsimp only; omega),at_get (l := o) hk,Option.bind_some,if_neg (by omega),ref06_l5 (by omega),if_pos q.2,Option.bind_some,wr_succ (by omega)]
     rfl
    ·
     intro q
     rw [L_ref06_Right_l4,if_pos (by dsimp only; omega),at_get (l := o) hk,Option.bind_some]
     by_cases g : (o[k].length : Int) > 500
     ·
      rw [if_pos g]
      rfl
     ·
      rw [if_neg g,ref06_l5 (by omega),if_neg fun r => q ⟨by omega,r⟩]
      rfl) (((o.length : Int) - 0).toNat + 1) (by omega)
  rw [h2]
  by_cases g : ∀ (k : Nat) x,i[k]? = some x → MsgsP 500 0 x
  ·
   rw [if_pos g,Option.bind_some]
   dsimp only
   rw [h4,ite_dec]
   exact sdec ⟨fun q => ⟨by omega,by omega,all_mem.1 g,all_mem.1 q⟩,fun q => all_mem.2 q.2.2.2⟩
  ·
   rw [if_neg g,Option.bind_some]
   exact sF fun q => g (all_mem.2 q.2.2.1)
open Classical in
theorem ref_host {a : TApp} {h : THost} (ha : SzA a) (hh : SzH h) : L_ref09_Right a h = some (decide (HRightP a h)) := by
 have hg := ha.g
 unfold L_ref09_Right
 rw [ref_tright (by omega) ha.t,Option.bind_some]
 by_cases hT : TRightP a.T a.G
 ·
  have hN := hT.2.1
  rw [if_pos (dT hT)]
  by_cases c1 : h.Node < 0
  ·
   rw [if_pos c1,Option.bind_some,if_pos rfl]
   exact sF fun q => by have := q.nd; omega
  by_cases c2 : h.Node ≥ a.G.N
  ·
   rw [if_neg c1,if_pos c2,Option.bind_some,if_pos rfl]
   exact sF fun q => by have := q.nd; omega
  by_cases c3 : h.State < 0
  ·
   rw [if_neg c1,if_neg c2,if_pos c3,Option.bind_some,if_pos rfl]
   exact sF fun q => by have := q.st.1; omega
  have hx : h.Node.toNat < a.T.length := by omega
  rw [if_neg c1,if_neg c2,if_neg c3,at_lt (by omega) (by omega),Option.bind_some,Option.bind_some]
  by_cases c4 : h.State ≥ (a.T[h.Node.toNat].States.length : Int)
  ·
   rw [if_pos (dT c4)]
   exact sF fun q => by have := q.st.2 _ (List.getElem?_eq_getElem hx); omega
  rw [if_neg (by rw [dF c4]; decide),ref_in _ (by omega),Option.bind_some]
  by_cases c5 : (h.In.length : Int) = ((ins_ a.G h.Node).length : Int)
  ·
   rw [if_pos c5,ref_out _ (by omega),Option.bind_some]
   by_cases c6 : (h.Out.length : Int) = ((outs_ a.G h.Node).length : Int)
   ·
    rw [if_pos c6,ref_piece hh.i.2,Option.bind_some,Option.bind_some]
    exact sdec ⟨fun q => ⟨hT,by omega,⟨by omega,fun x hx' => by
     rw [List.getElem?_eq_getElem hx] at hx'
     injection hx' with hx'
     subst hx'
     omega⟩,by omega,by omega,q.1,q.2.1,q.2.2.1,q.2.2.2⟩,fun q => ⟨q.sp,q.i5,q.ins,q.outs⟩⟩
   ·
    rw [if_neg c6,Option.bind_some]
    exact sF fun q => c6 (by have := q.ol; omega)
  ·
   rw [if_neg c5,Option.bind_some]
   exact sF fun q => c5 (by have := q.il; omega)
 ·
  rw [if_neg (by rw [dF hT]; decide),Option.bind_some,if_pos rfl]
  exact sF fun q => hT q.tab
theorem fixed16 : L_law16_fixed = some true := by decide +kernel
end Go.Proofs.YtabbejabdkkaiaaGreat
