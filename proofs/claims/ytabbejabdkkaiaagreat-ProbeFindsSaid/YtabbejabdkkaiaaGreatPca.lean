/- Configurations in plain words: what is cut, which may be. No condition. -/
import Derived.Test.YtabbejabdkkaiaaGreatPtc
set_option linter.unusedSimpArgs false
set_option linter.unusedVariables false
namespace Go.Proofs.YtabbejabdkkaiaaGreat
open Go.RowKit

def cutA (a : TApp) : TApp := ⟨⟨a.G.N,a.G.Links.take 40⟩,cutL a.T,a.Fifo⟩
theorem law_cutA (a : TApp) : L_law05_Cut a = some (cutA a) := by
 unfold L_law05_Cut
 rw [law_cut,Option.bind_some,law_cutL,Option.bind_some]
 rfl
theorem law_app {a : TApp} (h : SzL a.T) : L_law05_App a = some a := by
 unfold L_law05_App
 rw [law_ref,Option.bind_some,law_refL h,Option.bind_some]
def MsgsP (z : Int) : Int → List TMsg → Prop
 | _,[] => True
 | last,m :: r => last < m.Seq ∧ m.Seq ≤ z ∧ 0 ≤ m.Letter ∧ m.Letter ≤ 3 ∧ MsgsP z m.Seq r
def LinkP (z : Int) (l : List TMsg) : Prop := 0 ≤ z ∧ z ≤ 500 ∧ MsgsP z 0 l
structure CRightP (a : TApp) (c : TConf) : Prop where
 tab : TRightP a.T a.G
 nst : (c.States.length : Int) = a.G.N
 nli : c.Links.length = a.G.Links.length
 nse : c.Sent.length = a.G.Links.length
 sts : ∀ (n : Nat) (s : Int),c.States[n]? = some s → 0 ≤ s ∧ ∀ x : TNode,a.T[n]? = some x → s < (x.States.length : Int)
 lnk : ∀ (l : Nat) (ms : List TMsg) (z : Int),c.Links[l]? = some ms → c.Sent[l]? = some z → LinkP z ms
structure SzA (a : TApp) : Prop where
 g : a.G.Links.length ≤ 40
 t : SzL a.T
theorem cutA_sz (a : TApp) : SzA (cutA a) := ⟨cut_len a.G,cutL_sz a.T⟩
theorem msgs_drop {z : Int} {l : List TMsg} {k : Nat} (hk : k < l.length) (last : Int) : MsgsP z last (l.drop k) ↔ last < l[k].Seq ∧ l[k].Seq ≤ z ∧ 0 ≤ l[k].Letter ∧ l[k].Letter ≤ 3 ∧ MsgsP z l[k].Seq (l.drop (k + 1)) := by
 rw [List.drop_eq_getElem_cons hk]
 rfl
end Go.Proofs.YtabbejabdkkaiaaGreat
