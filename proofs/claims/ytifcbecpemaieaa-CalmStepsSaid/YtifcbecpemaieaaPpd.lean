/- Plain systems: where the document's start; many steps. No condition. -/
import Derived.Test.YtifcbecpemaieaaPpc
set_option linter.unusedSimpArgs false
set_option linter.unusedVariables false
namespace Go.Proofs.Ytifcbecpemaieaa
open Go.RowKit

theorem start_right {a : TApp} (h : TRightP a.T a.G) : CRightP a (startP a) := by
 refine ⟨h,?_,by simp [startP],by simp [startP],fun n s hs => ?_,fun l ms z hl hz => ?_⟩
 ·
  simp only [startP,List.length_map]
  exact h.2.1
 ·
  simp only [startP,List.getElem?_map,Option.map_eq_some_iff] at hs
  obtain ⟨x,hx,rfl⟩ := hs
  have hn := h.2.2 n x hx
  refine ⟨hn.2.2.1,fun y hy => ?_⟩
  rw [hx] at hy
  injection hy with hy
  exact hy ▸ hn.2.2.2.1
 ·
  simp only [startP,List.getElem?_replicate] at hl hz
  split at hl
  ·
   injection hl with hl
   rw [if_pos (by assumption)] at hz
   injection hz with hz
   subst hl hz
   exact ⟨by omega,by omega,trivial⟩
  · cases hl
theorem msgs_more {z b : Int} (hb : 0 ≤ b ∧ b ≤ 3) : ∀ {l : List TMsg} {last : Int},MsgsP z last l → last ≤ z → MsgsP (z + 1) last (l ++ [⟨z + 1,b⟩])
 | [],last,_,h => ⟨by show last < z + 1; omega,by show z + 1 ≤ z + 1; omega,hb.1,hb.2,trivial⟩
 | m :: l,last,⟨h1,h2,h3,h4,h5⟩,h => ⟨h1,by omega,h3,h4,msgs_more hb h5 h2⟩
theorem MsgsP.weak {z : Int} : ∀ {l : List TMsg} {last last' : Int},MsgsP z last l → last' ≤ last → MsgsP z last' l
 | [],_,_,_,_ => trivial
 | m :: l,_,_,⟨h1,h2,h3,h4,h5⟩,h => ⟨by omega,h2,h3,h4,h5⟩
theorem msgs_less {z : Int} : ∀ {l : List TMsg} {last : Int} (i : Nat),MsgsP z last l → MsgsP z last (l.take i ++ l.drop (i + 1))
 | [],_,i,_ => by simp; trivial
 | m :: l,last,0,⟨h1,h2,h3,h4,h5⟩ => by simpa using h5.weak (by omega)
 | m :: l,last,i + 1,⟨h1,h2,h3,h4,h5⟩ => by
  simp only [List.take_succ_cons,List.drop_succ_cons,List.cons_append]
  exact ⟨h1,h2,h3,h4,msgs_less i h5⟩
end Go.Proofs.Ytifcbecpemaieaa
