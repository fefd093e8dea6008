/- Tables in plain words: what is cut, what may be. No condition. -/
import Derived.Test.YtabbejabdkkaiaaPge
import Derived.Test.YtabbejabdkkaiaaPl
set_option linter.unusedSimpArgs false
set_option linter.unusedVariables false
namespace Go.Proofs.Ytabbejabdkkaiaa
open Go.RowKit

def cutP (p : TPick) : TPick := ⟨p.Next,p.Sends.take 10⟩
def cutS (s : TState) : TState := ⟨s.Mode,s.Waits.take 10,(s.Picks.take 10).map cutP,s.Takes.take 30⟩
def cutN (x : TNode) : TNode := ⟨x.Start,(x.States.take 10).map cutS⟩
def cutL (l : List TNode) : List TNode := (l.take 8).map cutN
theorem cut_l1 (s : TState) : L_law04_cut_l1 s (((s.Picks.length : Int) - 0).toNat + 1) 0 [] = some ((s.Picks.take 10).map cutP) := by
 have h := loopMap (F := fun nf n acc => L_law04_cut_l1 s nf n acc) (l := s.Picks.take 10) (fun p => [cutP p]) id 1 (by simp)
  (fun nf acc h => by
   rw [L_law04_cut_l1,baf,if_neg (by simp only [List.length_take,decide_eq_true_eq]; omega)]; rfl)
  (fun nf k acc h h2 => by
   rw [List.length_take] at h
   rw [L_law04_cut_l1,baf,if_pos (by simp only [decide_eq_true_eq]; omega),at_get (by omega),Option.bind_some,if_pos (by omega),if_pos (by omega),Option.bind_some,take_min (i := 10) _ 10 rfl,if_pos (by simp only [List.length_take]; omega),if_pos (by omega),wr_succ (by omega),List.getElem_take]; rfl)
  (s.Picks.take 10).length (((s.Picks.length : Int) - 0).toNat + 1) 0 [] (by simp) (by simp only [List.length_take]; omega) (by simp)
 simpa [flatMap_one] using h
theorem cut_l2 (s : TState) (a : List TPick) (b : List Int) : L_law04_cut_l2 s a b (((s.Takes.length : Int) - 0).toNat + 1) 0 [] = some ⟨s.Mode,b,a,s.Takes.take 30⟩ := by
 have h := loopMap (F := fun nf n acc => L_law04_cut_l2 s a b nf n acc) (l := s.Takes.take 30) (fun p => [p]) (fun q => TState.mk s.Mode b a q) 1 (by simp)
  (fun nf acc h => by
   rw [L_law04_cut_l2,baf,if_neg (by simp only [List.length_take,decide_eq_true_eq]; omega)])
  (fun nf k acc h h2 => by
   rw [List.length_take] at h
   rw [L_law04_cut_l2,baf,if_pos (by simp only [decide_eq_true_eq]; omega),at_get (by omega),Option.bind_some,if_pos (by omega),wr_succ (by omega),List.getElem_take])
  (s.Takes.take 30).length (((s.Takes.length : Int) - 0).toNat + 1) 0 [] (by simp) (by simp only [List.length_take]; omega) (by simp)
 simpa [flatMap_self] using h
theorem law_cutS (s : TState) : L_law04_cut s = some (cutS s) := by
 unfold L_law04_cut
 rw [if_pos (by omega),if_pos (by omega),Option.bind_some,take_min (i := 10) _ 10 rfl,if_pos (by simp only [List.length_take]; omega),cut_l1,Option.bind_some,cut_l2]
 rfl
theorem Cut_l2 (x : TNode) : L_law04_Cut_l2 x (((x.States.length : Int) - 0).toNat + 1) 0 [] = some ((x.States.take 10).map cutS) := by
 have h := loopMap (F := fun nf n acc => L_law04_Cut_l2 x nf n acc) (l := x.States.take 10) (fun p => [cutS p]) id 1 (by simp)
  (fun nf acc h => by
   rw [L_law04_Cut_l2,baf,if_neg (by simp only [List.length_take,decide_eq_true_eq]; omega)]; rfl)
  (fun nf k acc h h2 => by
   rw [List.length_take] at h
   rw [L_law04_Cut_l2,baf,if_pos (by simp only [decide_eq_true_eq]; omega),at_get (by omega),Option.bind_some,law_cutS,Option.bind_some,if_pos (by omega),wr_succ (by omega),List.getElem_take])
  (x.States.take 10).length (((x.States.length : Int) - 0).toNat + 1) 0 [] (by simp) (by simp only [List.length_take]; omega) (by simp)
 simpa [flatMap_one] using h
theorem law_cutL (l : List TNode) : L_law04_Cut l = some (cutL l) := by
 have h := loopMap (F := fun nf n acc => L_law04_Cut_l1 l nf n acc) (l := l.take 8) (fun p => [cutN p]) id 1 (by simp)
  (fun nf acc h => by
   rw [L_law04_Cut_l1,baf,if_neg (by simp only [List.length_take,decide_eq_true_eq]; omega)]; rfl)
  (fun nf k acc h h2 => by
   rw [List.length_take] at h
   rw [L_law04_Cut_l1,baf,if_pos (by simp only [decide_eq_true_eq]; omega),at_get (by omega),Option.bind_some,Cut_l2,Option.bind_some,if_pos (by omega),Option.bind_some,wr_succ (by omega),List.getElem_take]; rfl)
  (l.take 8).length (((l.length : Int) - 0).toNat + 1) 0 [] (by simp) (by simp only [List.length_take]; omega) (by simp)
 unfold L_law04_Cut
 simpa [flatMap_one,cutL] using h
def SzS (s : TState) : Prop := s.Waits.length ≤ 100 ∧ s.Picks.length ≤ 100 ∧ (∀ p ∈ s.Picks,p.Sends.length ≤ 100) ∧ s.Takes.length ≤ 100
def SzN (x : TNode) : Prop := x.States.length ≤ 100 ∧ ∀ s ∈ x.States,SzS s
def SzL (l : List TNode) : Prop := l.length ≤ 100 ∧ ∀ x ∈ l,SzN x
theorem cutL_sz (l : List TNode) : SzL (cutL l) := by
 refine ⟨by simp [cutL]; omega,fun x hx => ?_⟩
 obtain ⟨y,_,rfl⟩ := List.mem_map.1 hx
 refine ⟨by simp [cutN]; omega,fun s hs => ?_⟩
 obtain ⟨s,_,rfl⟩ := List.mem_map.1 hs
 refine ⟨by simp [cutS]; omega,by simp [cutS]; omega,fun p hp => ?_,by simp [cutS]; omega⟩
 obtain ⟨p,_,rfl⟩ := List.mem_map.1 hp
 simp [cutP]; omega
theorem state_l2 (x : TPick) (hs : x.Sends.length ≤ 100) : L_law04_state_l2 x (((x.Sends.length : Int) - 0).toNat + 1) 0 [] = some x.Sends := by
 have h := loopMap (F := fun nf n acc => L_law04_state_l2 x nf n acc) (l := x.Sends) (fun p => [p]) id 1 (by simp)
  (fun nf acc h => by
   rw [L_law04_state_l2,if_neg (by omega)]; rfl)
  (fun nf k acc h h2 => by
   rw [L_law04_state_l2,if_pos (by omega),at_get h,Option.bind_some,if_pos (by omega),wr_succ (by omega)])
  x.Sends.length (((x.Sends.length : Int) - 0).toNat + 1) 0 [] (by simp) (by omega) (by simp)
 simpa [flatMap_self] using h
theorem state_l1 (s : TState) (hs : SzS s) : L_law04_state_l1 s (((s.Picks.length : Int) - 0).toNat + 1) 0 [] = some s.Picks := by
 have hl := hs.2.1
 have h := loopMap (F := fun nf n acc => L_law04_state_l1 s nf n acc) (l := s.Picks) (fun p => [p]) id 1 (by simp)
  (fun nf acc h => by
   rw [L_law04_state_l1,if_neg (by omega)]; rfl)
  (fun nf k acc h h2 => by
   rw [L_law04_state_l1,if_pos (by omega),at_get h,Option.bind_some,state_l2 _ (hs.2.2.1 _ (List.getElem_mem h)),Option.bind_some,if_pos (by omega),Option.bind_some,wr_succ (by omega)])
  s.Picks.length (((s.Picks.length : Int) - 0).toNat + 1) 0 [] (by simp) (by omega) (by simp)
 simpa [flatMap_self] using h
theorem state_l3 (s : TState) (hs : SzS s) (a : List TPick) : L_law04_state_l3 s a (((s.Takes.length : Int) - 0).toNat + 1) 0 [] = some ⟨s.Mode,s.Waits,a,s.Takes⟩ := by
 have hl := hs.2.2.2
 have h := loopMap (F := fun nf n acc => L_law04_state_l3 s a nf n acc) (l := s.Takes) (fun p => [p]) (fun q => TState.mk s.Mode s.Waits a q) 1 (by simp)
  (fun nf acc h => by
   rw [L_law04_state_l3,if_neg (by omega)])
  (fun nf k acc h h2 => by
   rw [L_law04_state_l3,if_pos (by omega),at_get h,Option.bind_some,if_pos (by omega),wr_succ (by omega)])
  s.Takes.length (((s.Takes.length : Int) - 0).toNat + 1) 0 [] (by simp) (by omega) (by simp)
 simpa [flatMap_self] using h
theorem law_state (s : TState) (hs : SzS s) : L_law04_state s = some s := by
 unfold L_law04_state
 rw [state_l1 s hs,Option.bind_some,state_l3 s hs]
theorem Ref_l2 (x : TNode) (hs : SzN x) : L_law04_Ref_l2 x (((x.States.length : Int) - 0).toNat + 1) 0 [] = some x.States := by
 have hl := hs.1
 have h := loopMap (F := fun nf n acc => L_law04_Ref_l2 x nf n acc) (l := x.States) (fun p => [p]) id 1 (by simp)
  (fun nf acc h => by
   rw [L_law04_Ref_l2,if_neg (by omega)]; rfl)
  (fun nf k acc h h2 => by
   rw [L_law04_Ref_l2,if_pos (by omega),at_get h,Option.bind_some,law_state _ (hs.2 _ (List.getElem_mem h)),Option.bind_some,if_pos (by omega),wr_succ (by omega)])
  x.States.length (((x.States.length : Int) - 0).toNat + 1) 0 [] (by simp) (by omega) (by simp)
 simpa [flatMap_self] using h
theorem law_refL {l : List TNode} (hs : SzL l) : L_law04_Ref l = some l := by
 have hl := hs.1
 have h := loopMap (F := fun nf n acc => L_law04_Ref_l1 l nf n acc) (l := l) (fun p => [p]) id 1 (by simp)
  (fun nf acc h => by
   rw [L_law04_Ref_l1,if_neg (by omega)]; rfl)
  (fun nf k acc h h2 => by
   rw [L_law04_Ref_l1,if_pos (by omega),at_get h,Option.bind_some,Ref_l2 _ (hs.2 _ (List.getElem_mem h)),Option.bind_some,if_pos (by omega),Option.bind_some,wr_succ (by omega)])
  l.length (((l.length : Int) - 0).toNat + 1) 0 [] (by simp) (by omega) (by simp)
 unfold L_law04_Ref
 simpa [flatMap_self] using h
def WaitP (g : TGraph) (n : Int) (s : TState) (i : Nat) (w : Int) : Prop := 0 ≤ find g w n ∧ ∀ v,0 < i → s.Waits[i - 1]? = some v → v < w
def WaitsP (g : TGraph) (n : Int) (s : TState) : Prop := (s.Mode = 2 → s.Waits ≠ [] ∧ ∀ i w,s.Waits[i]? = some w → WaitP g n s i w) ∧ (s.Mode ≠ 2 → s.Waits = [])
def SendP (g : TGraph) (n : Int) (z : TSend) : Prop := 0 ≤ find g n z.To ∧ 0 ≤ z.Letter ∧ z.Letter ≤ 3
def PickP (g : TGraph) (n : Int) (many : Nat) (p : TPick) : Prop := 0 ≤ p.Next ∧ p.Next < (many : Int) ∧ p.Sends.length ≤ 4 ∧ ∀ z ∈ p.Sends,SendP g n z
def PicksP (g : TGraph) (n : Int) (many : Nat) (s : TState) : Prop := s.Picks.length ≤ 4 ∧ (s.Mode = 1 ∨ s.Picks = []) ∧ ∀ p ∈ s.Picks,PickP g n many p
def TakeP (g : TGraph) (n : Int) (many : Nat) (s : TState) (i : Nat) (t : TTake) : Prop :=
 0 ≤ find g t.From n ∧ 0 ≤ t.Letter ∧ t.Letter ≤ 3 ∧ 0 ≤ t.Next ∧ t.Next < (many : Int) ∧ ∀ j u,j < i → s.Takes[j]? = some u → ¬ (u.From = t.From ∧ u.Letter = t.Letter)
def TakesP (g : TGraph) (n : Int) (many : Nat) (s : TState) : Prop := ∀ i t,s.Takes[i]? = some t → TakeP g n many s i t
def KeptP (s to : TState) (but : Int) : Prop := ∀ w ∈ s.Waits,w ≠ but → to.Mode = 2 ∧ w ∈ to.Waits
def StaysP (x : TNode) (s : TState) : Prop := ∀ t ∈ s.Takes,∀ to,x.States[t.Next.toNat]? = some to → KeptP s to t.From
def StateP (g : TGraph) (n : Int) (x : TNode) (s : TState) : Prop := 0 ≤ s.Mode ∧ s.Mode ≤ 2 ∧ WaitsP g n s ∧ PicksP g n x.States.length s ∧ TakesP g n x.States.length s ∧ StaysP x s
def NodeP (g : TGraph) (n : Int) (x : TNode) : Prop := 1 ≤ x.States.length ∧ x.States.length ≤ 8 ∧ 0 ≤ x.Start ∧ x.Start < (x.States.length : Int) ∧ ∀ s ∈ x.States,StateP g n x s
def TRightP (l : List TNode) (g : TGraph) : Prop := RightP g ∧ (l.length : Int) = g.N ∧ ∀ (n : Nat) x,l[n]? = some x → NodeP g n x
end Go.Proofs.Ytabbejabdkkaiaa
