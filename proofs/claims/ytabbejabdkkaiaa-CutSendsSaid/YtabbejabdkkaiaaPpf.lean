/- Plain systems: many steps. No condition. -/
import Derived.Test.YtabbejabdkkaiaaPpe
set_option linter.unusedSimpArgs false
set_option linter.unusedVariables false
namespace Go.Proofs.Ytabbejabdkkaiaa
open Go.RowKit

def runP (a : TApp) : TConf → List TStep → Nat → TConf × Int × Int
 | c,[],k => (c,(k : Int),0)
 | c,s :: l,k => if (applyP a c s).2 = 0 then runP a (applyP a c s).1 l (k + 1) else (c,(k : Int),(applyP a c s).2)
theorem plain_run {a : TApp} (ha : SzA a) {c : TConf} (h : CRightP a c) {l : List TStep} (hl : l.length ≤ 1000) : L_plain_Run a c l = some (runP a c l 0) := by
 unfold L_plain_Run
 rw [plain_own (h.sz ha),Option.bind_some]
 have q := loopI (F := fun nf k (d : TConf) => L_plain_Run_l1 a l nf k d.States d.Links d.Sent) (len := l.length) (fun _ d => CRightP a d) (fun k d => some (runP a d (l.drop k) k))
  (fun nf d hd => by
   rw [L_plain_Run_l1,if_neg (by omega),List.drop_length]
   rfl)
  (fun nf k d hk hd ih => by
   rw [L_plain_Run_l1,if_pos (by omega),at_get hk,Option.bind_some,plain_apply hd ha,Option.bind_some,wr_succ (by omega),List.drop_eq_getElem_cons hk,runP]
   by_cases e : (applyP a d l[k]).2 = 0
   ·
    rw [if_pos e,if_pos e]
    exact ih _ (apply_right hd ha e)
   · rw [if_neg e,if_neg e])
  l.length (((l.length : Int) - 0).toNat + 1) 0 c (by omega) (by omega) h
 exact q
end Go.Proofs.Ytabbejabdkkaiaa
