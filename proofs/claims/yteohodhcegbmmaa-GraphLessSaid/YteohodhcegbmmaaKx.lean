/- Helpers of printed texts: an element by a number, branches that are decided, ways that meet. No condition. -/
import Derived.Test.YteohodhcegbmmaaKw
set_option linter.unusedSimpArgs false
set_option linter.unusedVariables false
namespace Go.Proofs.Yteohodhcegbmmaa
open Go.RowKit

/-- An element by a number. -/
def at? {α : Type} (l : List α) (i : Int) : Option α := if 0 ≤ i then l[i.toNat]? else none
theorem at_some {α : Type} {l : List α} {i : Int} {x : α} (h : at? l i = some x) : 0 ≤ i ∧ l[i.toNat]? = some x ∧ i < (l.length : Int) := by
  unfold at? at h
  split at h
  · rename_i h0
    have := (List.getElem?_eq_some_iff.1 h).1
    exact ⟨h0, h, by omega⟩
  · cases h
def eI (x : Int) : List C := [.int .i64 x]
def eB (x : Bool) : List C := [.bool x]
def eS (x : ByteArray) : List C := [.str x]
def e_u8 (x : Int) : List C := [.int .u8 x]
def e_u64 (x : Int) : List C := [.int .u64 x]
def eL {α : Type} (e : α → List C) (l : List α) : List C := [.sl (l.map e)]
section
variable {P : Program} {w0 : Bas} {N nx : Nat} {F F' : LF} {M M' : LM} {a : Act} {w : World} {Q : Exit → Act → World → Prop}
theorem r_condT {c : Operand} {x y : Code} (h : SL w0 N nx F M a w) (b : Bool) (e : aeval N (fget F) c = .one (.d (.bool b))) (hb : b = true) (ht : x.wp P Q a w) : (Code.cond c x y).wp P Q a w :=
  r_cond h b e (fun _ => ht) (fun h => by rw [hb] at h; cases h)
theorem r_condF {c : Operand} {x y : Code} (h : SL w0 N nx F M a w) (b : Bool) (e : aeval N (fget F) c = .one (.d (.bool b))) (hb : b = false) (hf : y.wp P Q a w) : (Code.cond c x y).wp P Q a w :=
  r_cond h b e (fun h => by rw [hb] at h; cases h) (fun _ => hf)
theorem then_mono {J J' : Act → World → Prop} (hk : ∀ a w, J a w → J' a w) : ∀ e a w, Exit.then J Q e a w → Exit.then J' Q e a w := fun e a w h => by
  cases e <;> first | exact hk a w h | exact h
/-- Ways that meet behind a part. -/
theorem r_seqJ {x y : Code} (J : Act → World → Prop) (h : x.wp P (Exit.then J Q) a w) (hk : ∀ a w, J a w → y.wp P Q a w) : (Code.seq x y).wp P Q a w :=
  wp_seq (Code.wp_mono (then_mono hk) h)
/-- Ways that meet at the end. -/
theorem r_meetQ {x : Code} (J : Act → World → Prop) (h : x.wp P (Exit.then J Q) a w) (hk : ∀ a w, J a w → Q .normal a w) : x.wp P Q a w :=
  Code.wp_mono (fun e a w h => by cases e <;> first | exact hk a w h | exact h) h
/-- Ways that meet behind two parts. -/
theorem r_seq3J {x y z : Code} (J : Act → World → Prop) (h : x.wp P (Exit.then (y.wp P (Exit.then J Q)) Q) a w) (hk : ∀ a w, J a w → z.wp P Q a w) : (Code.seq x (Code.seq y z)).wp P Q a w :=
  wp_seq (Code.wp_mono (then_mono fun _ _ h => wp_seq (Code.wp_mono (then_mono hk) h)) h)
/-- The same state, in other words. -/
theorem SL.cong (h : SL w0 N nx F M a w) (ks : List Nat) (ms : List Nm) (nx' : Nat) (eF : fkeep F ks = F') (eM : mkeep M ms = M') (e : okN nx' F' M' = true) : SL w0 N nx' F' M' a w := by
  subst eF eM
  exact (h.keep ks ms).count nx' e
end
end Go.Proofs.Yteohodhcegbmmaa
