/- The law ProbePasses, in plain words: true at every input. No condition. -/
import Derived.Test.YtabbejabdkkaiaaPvb
import Derived.Test.YtabbejabdkkaiaaGdProbePasses
set_option linter.unusedSimpArgs false
set_option linter.unusedVariables false
namespace Go.Proofs.Ytabbejabdkkaiaa
open Go.RowKit

theorem now_get (seen : List Int) {i : Int} (v : Int) (hi : 0 ≤ i) {k : Nat} (hk : k < (nowOf seen i v).length) (hne : (k : Int) ≠ i) : (nowOf seen i v)[k] = (seen[k]?).getD 0 := by
 have hl := now_len seen v hi
 have e : (nowOf seen i v)[k]? = (seen ++ List.replicate ((max (seen.length : Int) (i + 1)).toNat - seen.length) 0)[k]? := by
  unfold nowOf
  rw [List.getElem?_set_ne (by omega)]
 rw [List.getElem?_eq_getElem hk] at e
 by_cases c : k < seen.length
 ·
  rw [List.getElem?_append_left c,List.getElem?_eq_getElem c] at e
  rw [List.getElem?_eq_getElem c]
  exact Option.some.inj e
 ·
  rw [List.getElem?_append_right (by omega),List.getElem?_replicate,if_pos (by omega)] at e
  rw [List.getElem?_eq_none (by omega)]
  exact Option.some.inj e
theorem probePasses_true (a0 : TApp) (a1 : THost) (a2 : THeard) (w0 : wTApp a0) (w1 : wTHost a1) (w2 : wTHeard a2) : L_law16_ProbePasses a0 a1 a2 = some true := by
 classical
 unfold L_law16_ProbePasses
 rw [law_cutA,Option.bind_some]
 have ha := cutA_sz a0
 have hh := szH_of w1
 have hf := cutF_sz a2.F
 have hl : (a2.Seen.take 10).length ≤ 10 := by rw [List.length_take]; omega
 have hg := ha.g
 generalize cutA a0 = a at ha hg
 rw [law_app ha.t,Option.bind_some,law_cutF,Option.bind_some,if_pos (by omega),if_pos (by omega),Option.bind_some,take_min (i := 10) _ 10 rfl]
 generalize cutF a2.F = f at hf
 generalize a2.Seen.take 10 = seen at hl
 rw [show L_law09_Ref a1 = some a1 from rfl,Option.bind_some,ref_host ha hh,Option.bind_some]
 by_cases hR : HRightP a a1
 ·
  rw [if_pos (dT hR)]
  by_cases hk : f.Kind = 6
  ·
   rw [if_pos hk,law_refF (by omega),Option.bind_some,ref_frame hk (by omega),Option.bind_some,Option.bind_some]
   by_cases hF : FrameP f
   ·
    have hi := hF.ini
    have hn := hF.num
    have hp := hF.len
    have z : ((([] : List TOut).length : Int) = 0) := rfl
    rw [if_neg (by rw [dT hF]; decide),probe_hear hR ha a2.Link (by omega) (by omega) (by omega),Option.bind_some]
    by_cases hC : HearP a a1 a2.Link f ∧ ¬ f.Init = a1.Node ∧ ¬ lastOf seen f.Init ≥ f.Num
    ·
     obtain ⟨hC,h1,h2⟩ := hC
     have e : hearOf a a1 seen a2.Link f = (nowOf seen f.Init f.Num,outsH a a1 f.Init f.Num f.Path,[]) := by unfold hearOf; rw [if_pos hC,if_neg h1,if_neg h2]
     have hlen : (outsH a a1 f.Init f.Num f.Path).length = (stH a a1).Waits.length := by unfold outsH; rw [List.length_map]
     have hw := List.length_pos_iff.2 ((st_waits hR).1 hC.2.1)
     have hws := stH_sz (h := a1) ha
     have hnl := now_len seen f.Num hi.1
     have hng : at? (nowOf seen f.Init f.Num) f.Init = some f.Num := by
      have hlast := now_last seen f.Num hi.1
      unfold lastOf at hlast
      rw [at_lt hi.1 (by omega)]
      rw [List.getElem?_eq_getElem (by omega),Option.getD_some] at hlast
      rw [hlast]
     rw [e]
     dsimp only
     rw [if_neg (by omega),ref_at,Option.bind_some,if_pos (by omega),if_pos (by omega),show stOf a.T a1.Node a1.State = stH a a1 from rfl,if_pos (by omega),if_neg (by omega),hng,Option.bind_some,if_pos rfl]
     have g1 := sameV (F := fun nf k => L_law16_ProbePasses_l1 a1 (stH a a1) a f (nowOf seen f.Init f.Num,outsH a a1 f.Init f.Num f.Path,[]) nf k) (l := (stH a a1).Waits) ()
      (fun nf => by rw [L_law16_ProbePasses_l1,if_neg (by dsimp only; omega)])
      (fun nf k hk => by
       have hk' : k < (outsH a a1 f.Init f.Num f.Path).length := by omega
       have e : (outsH a a1 f.Init f.Num f.Path)[k] = mkO a a1 f.Init f.Num f.Path (stH a a1).Waits[k] := outs_get hk' hk
       rw [L_law16_ProbePasses_l1,if_pos (by dsimp only; omega),at_get (l := outsH a a1 f.Init f.Num f.Path) hk',Option.bind_some,at_get hk,Option.bind_some,ref_find _ _ (by omega),Option.bind_some,e]
       unfold mkO
       dsimp only
       rw [if_pos rfl,if_pos rfl,if_pos rfl,ints_same (by rw [List.length_append,List.length_singleton]; omega),Option.bind_some,if_pos rfl,if_pos rfl,wr_succ (by omega)])
      ((((outsH a a1 f.Init f.Num f.Path).length : Int) - 0).toNat + 1) (by omega)
     have g2 := sameV (F := fun nf k => L_law16_ProbePasses_l2 f (nowOf seen f.Init f.Num,outsH a a1 f.Init f.Num f.Path,[]) seen nf k) (l := nowOf seen f.Init f.Num) ()
      (fun nf => by rw [L_law16_ProbePasses_l2,if_neg (by dsimp only; omega)])
      (fun nf k hk => by
       rw [L_law16_ProbePasses_l2,if_pos (by dsimp only; omega)]
       dsimp only
       by_cases c1 : (k : Int) = f.Init
       · rw [if_pos c1,Option.bind_some,if_neg (by decide),wr_succ (by omega)]
       ·
        have eg := now_get seen f.Num hi.1 hk c1
        rw [if_neg c1]
        by_cases c2 : (k : Int) < (seen.length : Int)
        ·
         rw [List.getElem?_eq_getElem (by omega),Option.getD_some] at eg
         rw [if_pos c2,at_get hk,Option.bind_some,at_get (l := seen) (by omega),Option.bind_some,if_pos eg,if_neg (by omega),Option.bind_some,if_neg (by decide),wr_succ (by omega)]
        ·
         rw [List.getElem?_eq_none (by omega),Option.getD_none] at eg
         rw [if_neg c2,if_pos (by omega),at_get hk,Option.bind_some,eg,Option.bind_some,if_neg (by decide),wr_succ (by omega)])
      ((((nowOf seen f.Init f.Num).length : Int) - 0).toNat + 1) (by omega)
     rw [g1,Option.bind_some,g2,Option.bind_some,fixed16]
     rfl
    ·
     have e : ∃ p,hearOf a a1 seen a2.Link f = (seen,[],p) := by
      unfold hearOf
      by_cases q : HearP a a1 a2.Link f
      ·
       rw [if_pos q]
       by_cases q1 : f.Init = a1.Node
       · rw [if_pos q1]; exact ⟨_,rfl⟩
       · rw [if_neg q1,if_pos (Classical.byContradiction fun g => hC ⟨q,q1,g⟩)]; exact ⟨_,rfl⟩
      · rw [if_neg q]; exact ⟨_,rfl⟩
     obtain ⟨p,e⟩ := e
     rw [e]
     dsimp only
     rw [if_pos z,ints_same (by omega),Option.bind_some,if_pos rfl,fixed16]
     rfl
   ·
    rw [if_pos (by rw [dF hF]; decide),fixed16]
    rfl
  ·
   rw [if_neg hk,Option.bind_some,if_pos rfl,fixed16]
   rfl
 ·
  rw [if_neg (by rw [dF hR]; decide),Option.bind_some,if_pos rfl,fixed16]
  rfl
end Go.Proofs.Ytabbejabdkkaiaa
