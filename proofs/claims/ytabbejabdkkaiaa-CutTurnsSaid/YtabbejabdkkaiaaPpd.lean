/- Plain systems: where the document's start; many steps. No condition. -/
import Derived.Test.YtabbejabdkkaiaaPpc
set_option linter.unusedSimpArgs false
set_option linter.unusedVariables false
namespace Go.Proofs.Ytabbejabdkkaiaa
open Go.RowKit

theorem msgs_more {z b : Int} (hb : 0 ≤ b ∧ b ≤ 3) : ∀ {l : List TMsg} {last : Int},MsgsP z last l → last ≤ z → MsgsP (z + 1) last (l ++ [⟨z + 1,b⟩])
 | [],last,_,h => ⟨by show last < z + 1; omega,by show z + 1 ≤ z + 1; omega,hb.1,hb.2,trivial⟩
 | m :: l,last,⟨h1,h2,h3,h4,h5⟩,h => ⟨h1,by omega,h3,h4,msgs_more hb h5 h2⟩
theorem MsgsP.weak {z : Int} : ∀ {l : List TMsg} {last last' : Int},MsgsP z last l → last' ≤ last → MsgsP z last' l
 | [],_,_,_,_ => trivial
 | m :: l,_,_,⟨h1,h2,h3,h4,h5⟩,h => ⟨by omega,h2,h3,h4,h5⟩
theorem msgs_less {z : Int} : ∀ {l : List TMsg} {last : Int} (i : Nat),MsgsP z last l → MsgsP z last (l.take i ++ l.drop (i + 1))
 | [],_,i,_ => by simp; trivial
 | m :: l,last,0,⟨h1,h2,h3,h4,h5⟩ => by simpa using h5.weak (by omega)
 | m :: l,last,i + 1,⟨h1,h2,h3,h4,h5⟩ => by
  simp only [List.take_succ_cons,List.drop_succ_cons,List.cons_append]
  exact ⟨h1,h2,h3,h4,msgs_less i h5⟩
end Go.Proofs.Ytabbejabdkkaiaa
