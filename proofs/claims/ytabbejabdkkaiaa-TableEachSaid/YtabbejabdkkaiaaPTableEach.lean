/- The law TableEach, in plain words: true at every input. No condition. -/
import Derived.Test.YtabbejabdkkaiaaPtc
import Derived.Test.YtabbejabdkkaiaaPgf
import Derived.Test.YtabbejabdkkaiaaGdTableEach
set_option linter.unusedSimpArgs false
set_option linter.unusedVariables false
set_option maxHeartbeats 4000000
namespace Go.Proofs.Ytabbejabdkkaiaa
open Go.RowKit

section
variable {l : List TNode} {g : TGraph}
theorem each_set {i k : Nat} {x : TNode} {s' : TState} (hx : l[i]? = some x) (hk : k < x.States.length) (q : TRightP (l.set i ⟨x.Start,x.States.set k s'⟩) g) : StateP g i ⟨x.Start,x.States.set k s'⟩ s' := by
 have hi : i < l.length := (List.getElem?_eq_some_iff.1 hx).1
 have h := (q.2.2 i _ (List.getElem?_set_self hi)).2.2.2.2 s' (List.mem_set hk s')
 exact h
theorem each_no (hR : RightP g) (i : Int) : ¬ 0 ≤ find g i i := fun q => by
 have := (C1_iff.1 hR.2.2.2.1).1 _ (find_mem.1 q)
 exact this.2.2.2.2 rfl
theorem each_neg (hR : RightP g) (i : Int) : ¬ 0 ≤ find g (-1) i := fun q => by
 have h : (0 : Int) ≤ -1 := ((C1_iff.1 hR.2.2.2.1).1 _ (find_mem.1 q)).1
 exact absurd h (by decide)
def SmL (l : List TNode) : Prop := l.length ≤ 100 ∧ ∀ x ∈ l,x.States.length ≤ 100 ∧ ∀ s ∈ x.States,s.Waits.length ≤ 30 ∧ s.Picks.length ≤ 30 ∧ (∀ p ∈ s.Picks,p.Sends.length ≤ 30) ∧ s.Takes.length ≤ 30
theorem cut_small (l : List TNode) : SmL (cutL l) := by
 refine ⟨by simp [cutL]; omega,fun x hx => ?_⟩
 obtain ⟨y,_,rfl⟩ := List.mem_map.1 hx
 refine ⟨by simp [cutN]; omega,fun s hs => ?_⟩
 obtain ⟨z,_,rfl⟩ := List.mem_map.1 hs
 refine ⟨by simp [cutS]; omega,by simp [cutS]; omega,fun p hp => ?_,by simp [cutS]; omega⟩
 obtain ⟨r,_,rfl⟩ := List.mem_map.1 hp
 simp [cutP]; omega
theorem SmL.set (h : SmL l) {i k : Nat} {x : TNode} {s' : TState} (hx : l[i]? = some x) (hs : SzS s') : SzL (l.set i ⟨x.Start,x.States.set k s'⟩) := by
 have big : ∀ y ∈ l,SzN y := fun y hy => by
  obtain ⟨h1,h2⟩ := h.2 y hy
  refine ⟨h1,fun s hs => ?_⟩
  obtain ⟨a,b,c,d⟩ := h2 s hs
  exact ⟨by omega,by omega,fun p hp => by have := c p hp; omega,by omega⟩
 refine ⟨by rw [List.length_set]; exact h.1,fun y hy => ?_⟩
 rcases List.mem_or_eq_of_mem_set hy with hy | rfl
 · exact big y hy
 ·
  have hb := big x (List.mem_of_getElem? hx)
  refine ⟨by rw [List.length_set]; exact hb.1,fun s hs' => ?_⟩
  rcases List.mem_or_eq_of_mem_set hs' with hs' | rfl
  · exact hb.2 s hs'
  · exact hs
open Classical in
theorem each_bad (h : SmL l) (hg : g.Links.length ≤ 100) {i k : Nat} {x : TNode} {s' : TState} (hx : l[i]? = some x) (hk : k < x.States.length) (hs : SzS s') (hn : ¬ StateP g i ⟨x.Start,x.States.set k s'⟩ s') (y : Option Bool) :
  ((L_table_Right (l.set i ⟨x.Start,x.States.set k s'⟩) g).bind fun r => if r = true then none else (L_law04_fixed).bind fun r => some r) = some true := by
 rw [table_right hg (h.set hx hs),Option.bind_some,dF fun q => hn (each_set hx hk q),if_neg (by decide),fixed04]
 rfl
end
theorem set_id {α : Type} {l : List α} {i : Nat} {x : α} (h : l[i]? = some x) : l.set i x = l := by
 obtain ⟨hi,rfl⟩ := List.getElem?_eq_some_iff.1 h
 exact List.set_getElem_self hi
theorem tableEach_true (a0 : List TNode) (a1 : TGraph) (a2 : A3I) (w0 : (wL 32 wTNode) a0) (w1 : wTGraph a1) (w2 : wA3I a2) : L_law04_TableEach a0 a1 a2 = some true := by
 classical
 unfold L_law04_TableEach
 rw [law_cutL,Option.bind_some,law_cut,Option.bind_some]
 have hl := cutL_sz a0
 have hm := cut_small a0
 have hg := cut_len a1
 generalize cutL a0 = l at hl hm
 generalize (⟨a1.N,a1.Links.take 40⟩ : TGraph) = g at hg
 rw [law_refL hl,Option.bind_some,law_ref,Option.bind_some,ref_tright (by omega) hl,Option.bind_some]
 by_cases hT : TRightP l g
 ·
  have h1 := hT.1.1
  obtain ⟨i,e1,hi⟩ := pick_node a2.a0 h1
  have hil : i < l.length := by have := hT.2.1; omega
  have hx := List.getElem?_eq_getElem hil
  have hnode := hT.2.2 i _ hx
  obtain ⟨k,e2,hk⟩ := pick_nat a2.a1 (N := l[i].States.length) hnode.1
  have hsz := (hm.2 _ (List.getElem_mem hil)).2 _ (List.getElem_mem hk)
  have hst := hnode.2.2.2.2 _ (List.getElem_mem hk)
  have hno := each_no hT.1 (i : Int)
  rw [if_pos (dT hT),if_pos (by omega),e1,at_get hil,Option.bind_some,if_pos (by omega),Int.toNat_natCast,set_id hx,Option.bind_some,at_get hil,Option.bind_some,e2,at_get hk,Option.bind_some,Int.toNat_natCast]
  obtain ⟨z1,z2,z3,z4⟩ := hsz
  generalize hs0 : l[i].States[k] = s at z1 z2 z3 z4 hst
  have bad : ∀ s' : TState,SzS s' → ¬ StateP g i ⟨l[i].Start,l[i].States.set k s'⟩ s' → ((L_table_Right (l.set i ⟨l[i].Start,l[i].States.set k s'⟩) g).bind fun r => if r = true then none else (L_law04_fixed).bind fun r => some r) = some true := fun s' hs hn => each_bad hm (by omega) hx hk hs hn none
  have zp : ∀ (p : TPick),p.Sends.length ≤ 30 → ∀ q ∈ s.Picks ++ [p],q.Sends.length ≤ 100 := fun p hp q hq => by
   rcases List.mem_append.1 hq with hq | hq
   · have := z3 q hq; omega
   · rw [List.mem_singleton] at hq; subst hq; omega
  by_cases c0 : landK .i64 a2.a2 7 = 0
  ·
   rw [if_pos c0]
   exact bad ⟨3,s.Waits,s.Picks,s.Takes⟩ ⟨by dsimp only; omega,by dsimp only; omega,fun p hp => by have := z3 p hp; omega,by dsimp only; omega⟩ fun q => absurd q.2.1 (by dsimp only; omega)
  rw [if_neg c0]
  by_cases c1 : landK .i64 a2.a2 7 = 1
  ·
   rw [if_pos c1,if_pos (by omega)]
   refine bad ⟨s.Mode,s.Waits ++ [(i : Int)],s.Picks,s.Takes⟩ ⟨by simp only [List.length_append,List.length_singleton]; omega,by dsimp only; omega,fun p hp => by have := z3 p hp; omega,by dsimp only; omega⟩ fun q => ?_
   by_cases hm2 : s.Mode = 2
   · exact hno ((q.2.2.1.1 hm2).2 s.Waits.length (i : Int) (by simp)).1
   ·
    have := q.2.2.1.2 hm2
    simp at this
  rw [if_neg c1]
  by_cases c2 : landK .i64 a2.a2 7 = 2
  ·
   rw [if_pos c2,if_pos (by omega)]
   refine bad ⟨s.Mode,s.Waits,s.Picks ++ [⟨(l[i].States.length : Int),[]⟩],s.Takes⟩ ⟨by dsimp only; omega,by simp only [List.length_append,List.length_singleton]; omega,zp _ (by simp),by dsimp only; omega⟩ fun q => ?_
   have := (q.2.2.2.1.2.2 _ (List.mem_append_right _ (List.mem_singleton.2 rfl))).2.1
   simp only [List.length_set] at this
   omega
  rw [if_neg c2]
  by_cases c3 : landK .i64 a2.a2 7 = 3
  ·
   rw [if_pos c3,if_pos (by omega)]
   refine bad ⟨s.Mode,s.Waits,s.Picks,s.Takes ++ [⟨(i : Int),0,0⟩]⟩ ⟨by dsimp only; omega,by dsimp only; omega,fun p hp => by have := z3 p hp; omega,by simp only [List.length_append,List.length_singleton]; omega⟩ fun q => ?_
   exact hno (q.2.2.2.2.1 s.Takes.length ⟨(i : Int),0,0⟩ (by simp)).1
  rw [if_neg c3]
  by_cases c4 : landK .i64 a2.a2 7 = 4
  ·
   rw [if_pos c4,if_pos (by omega)]
   refine bad ⟨s.Mode,s.Waits,s.Picks ++ [⟨0,[⟨(i : Int),0⟩]⟩],s.Takes⟩ ⟨by dsimp only; omega,by simp only [List.length_append,List.length_singleton]; omega,zp _ (by simp),by dsimp only; omega⟩ fun q => ?_
   exact hno ((q.2.2.2.1.2.2 _ (List.mem_append_right _ (List.mem_singleton.2 rfl))).2.2.2 ⟨(i : Int),0⟩ (by simp)).1
  rw [if_neg c4]
  by_cases c5 : landK .i64 a2.a2 7 = 5
  ·
   rw [if_pos c5,if_pos (by omega)]
   refine bad ⟨s.Mode,s.Waits,s.Picks ++ [⟨0,[]⟩] ++ [⟨0,[]⟩] ++ [⟨0,[]⟩] ++ [⟨0,[]⟩] ++ [⟨0,[]⟩],s.Takes⟩ ⟨by dsimp only; omega,by simp only [List.length_append,List.length_singleton]; omega,fun p hp => ?_,by dsimp only; omega⟩ fun q => ?_
   ·
    simp only [List.append_assoc,List.mem_append,List.mem_singleton] at hp
    rcases hp with hp | hp | hp | hp | hp | hp
    · have := z3 p hp; omega
    all_goals (subst hp; simp)
   ·
    have := q.2.2.2.1.1
    simp only [List.length_append,List.length_singleton] at this
    omega
  rw [if_neg c5]
  by_cases c6 : landK .i64 a2.a2 7 = 6
  ·
   rw [if_pos c6,if_pos (by omega)]
   refine bad ⟨s.Mode,s.Waits,s.Picks,s.Takes ++ [⟨-1,0,0⟩] ++ [⟨-1,0,0⟩]⟩ ⟨by dsimp only; omega,by dsimp only; omega,fun p hp => by have := z3 p hp; omega,by simp only [List.length_append,List.length_singleton]; omega⟩ fun q => ?_
   exact each_neg hT.1 (i : Int) (q.2.2.2.2.1 s.Takes.length ⟨-1,0,0⟩ (by simp)).1
  rw [if_neg c6]
  exact bad ⟨-1,s.Waits,s.Picks,s.Takes⟩ ⟨by dsimp only; omega,by dsimp only; omega,fun p hp => by have := z3 p hp; omega,by dsimp only; omega⟩ fun q => absurd q.1 (by dsimp only; omega)
 ·
  rw [if_neg (by rw [dF hT]; decide),table_right (by omega) hl,Option.bind_some,dF hT,if_neg (by decide),fixed04]
  rfl
end Go.Proofs.Ytabbejabdkkaiaa
