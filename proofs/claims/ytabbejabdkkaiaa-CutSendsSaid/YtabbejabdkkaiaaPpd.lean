/- Plain systems: where the document's start; many steps. No condition. -/
import Derived.Test.YtabbejabdkkaiaaPpc
set_option linter.unusedSimpArgs false
set_option linter.unusedVariables false
namespace Go.Proofs.Ytabbejabdkkaiaa
open Go.RowKit

theorem ref_start {a : TApp} (ha : SzA a) : L_ref05_Start a = some (startP a) := by
 have hg := ha.g
 have ht := ha.t.1
 unfold L_ref05_Start
 have h := loopMap (F := fun nf n acc => L_ref05_Start_l1 a nf n acc) (l := a.T) (fun x => [x.Start]) id 1 (by simp)
  (fun nf acc h => by rw [L_ref05_Start_l1,if_neg (by omega)]; rfl)
  (fun nf k acc hk h2 => by
   rw [L_ref05_Start_l1,if_pos (by omega),at_get hk,Option.bind_some,if_pos (by omega),wr_succ (by omega)])
  a.T.length (((a.T.length : Int) - 0).toNat + 1) 0 [] (by simp) (by omega) (by simp)
 rw [flatMap_one,List.drop_zero,List.nil_append] at h
 rw [show L_ref05_Start_l1 a (((a.T.length : Int) - 0).toNat + 1) 0 [] = some (a.T.map (·.Start)) from h,Option.bind_some]
 have q := loopI (F := fun nf k (t : List (List TMsg) × List Int) => L_ref05_Start_l2 a (a.T.map (·.Start)) nf k t.1 t.2) (len := a.G.Links.length) (fun k t => t = (List.replicate k [],List.replicate k 0)) (fun _ _ => some (startP a))
  (fun nf t ht => by
   rw [L_ref05_Start_l2,if_neg (by omega),ht]
   rfl)
  (fun nf k t hk ht ih => by
   rw [L_ref05_Start_l2,if_pos (by omega),ht]
   dsimp only
   rw [if_pos (by rw [List.length_replicate]; omega),if_pos (by rw [List.length_replicate]; omega),wr_succ (by omega)]
   exact ih (_,_) (by rw [List.replicate_succ',List.replicate_succ']))
  a.G.Links.length (((a.G.Links.length : Int) - 0).toNat + 1) 0 ([],[]) (by omega) (by omega) rfl
 exact q
theorem msgs_more {z b : Int} (hb : 0 ≤ b ∧ b ≤ 3) : ∀ {l : List TMsg} {last : Int},MsgsP z last l → last ≤ z → MsgsP (z + 1) last (l ++ [⟨z + 1,b⟩])
 | [],last,_,h => ⟨by show last < z + 1; omega,by show z + 1 ≤ z + 1; omega,hb.1,hb.2,trivial⟩
 | m :: l,last,⟨h1,h2,h3,h4,h5⟩,h => ⟨h1,by omega,h3,h4,msgs_more hb h5 h2⟩
theorem MsgsP.weak {z : Int} : ∀ {l : List TMsg} {last last' : Int},MsgsP z last l → last' ≤ last → MsgsP z last' l
 | [],_,_,_,_ => trivial
 | m :: l,_,_,⟨h1,h2,h3,h4,h5⟩,h => ⟨by omega,h2,h3,h4,h5⟩
theorem msgs_less {z : Int} : ∀ {l : List TMsg} {last : Int} (i : Nat),MsgsP z last l → MsgsP z last (l.take i ++ l.drop (i + 1))
 | [],_,i,_ => by simp; trivial
 | m :: l,last,0,⟨h1,h2,h3,h4,h5⟩ => by simpa using h5.weak (by omega)
 | m :: l,last,i + 1,⟨h1,h2,h3,h4,h5⟩ => by
  simp only [List.take_succ_cons,List.drop_succ_cons,List.cons_append]
  exact ⟨h1,h2,h3,h4,msgs_less i h5⟩
end Go.Proofs.Ytabbejabdkkaiaa
