/- Loops of typed functions, by what they come to. No condition. -/
import Derived.Test.YtabbejabdkkaiaaPa
set_option linter.unusedSimpArgs false
set_option linter.unusedVariables false
namespace Go.Proofs.Ytabbejabdkkaiaa
open Go.RowKit

theorem loopI {σ β : Type} {F : Nat → Int → σ → Option β} {len : Nat} (I : Nat → σ → Prop) (R : Nat → σ → Option β)
  (fin : ∀ nf s,I len s → F (nf + 1) (len : Int) s = R len s)
  (step : ∀ nf k s,k < len → I k s → (∀ s',I (k + 1) s' → F nf ((k + 1 : Nat) : Int) s' = R (k + 1) s') → F (nf + 1) (k : Int) s = R k s) :
  ∀ (m nf k : Nat) (s : σ),k + m = len → m < nf → I k s → F nf (k : Int) s = R k s
 | 0,nf + 1,k,s,h1,h2,h3 => by
  obtain rfl : k = len := by omega
  exact fin nf s h3
 | m + 1,nf + 1,k,s,h1,h2,h3 => step nf k s (by omega) h3 fun s' h => loopI I R fin step m nf (k + 1) s' (by omega) (by omega) h
theorem loopE {σ β : Type} {F : Nat → Int → σ → Option β} {len : Nat} (I : Nat → σ → Prop) (Q : β → Prop)
  (fin : ∀ nf s,I len s → ∃ b,F (nf + 1) (len : Int) s = some b ∧ Q b)
  (step : ∀ nf k s,k < len → I k s → (∀ s',I (k + 1) s' → ∃ b,F nf ((k + 1 : Nat) : Int) s' = some b ∧ Q b) → ∃ b,F (nf + 1) (k : Int) s = some b ∧ Q b) :
  ∀ (m nf k : Nat) (s : σ),k + m = len → m < nf → I k s → ∃ b,F nf (k : Int) s = some b ∧ Q b
 | 0,nf + 1,k,s,h1,h2,h3 => by
  obtain rfl : k = len := by omega
  exact fin nf s h3
 | m + 1,nf + 1,k,s,h1,h2,h3 => step nf k s (by omega) h3 fun s' h => loopE I Q fin step m nf (k + 1) s' (by omega) (by omega) h
open Classical in
theorem loopAll {β : Type} {F : Nat → Int → Option β} {len : Nat} (P : Nat → Prop) (go stop : β)
  (fin : ∀ nf,F (nf + 1) (len : Int) = some go)
  (step : ∀ nf k,k < len → (P k → F (nf + 1) (k : Int) = F nf ((k + 1 : Nat) : Int)) ∧ (¬ P k → F (nf + 1) (k : Int) = some stop)) :
  ∀ (m nf k : Nat),k + m = len → m < nf → F nf (k : Int) = some (if ∀ j,k ≤ j → j < len → P j then go else stop)
 | 0,nf + 1,k,h1,h2 => by
  obtain rfl : k = len := by omega
  rw [fin,if_pos fun j h h' => by omega]
 | m + 1,nf + 1,k,h1,h2 => by
  by_cases h : P k
  ·
   rw [(step nf k (by omega)).1 h,loopAll P go stop fin step m nf (k + 1) (by omega) (by omega)]
   congr 1
   refine ite_congr (propext ⟨fun g j hj hl => ?_,fun g j hj hl => g j (by omega) hl⟩) (fun _ => rfl) (fun _ => rfl)
   by_cases e : j = k
   · exact e ▸ h
   · exact g j (by omega) hl
  · rw [(step nf k (by omega)).2 h,if_neg fun g => h (g k (Nat.le_refl k) (by omega))]
theorem loopMap {α γ β : Type} {F : Nat → Int → List γ → Option β} {l : List α} (f : α → List γ) (g : List γ → β) (c : Nat) (hf : ∀ x ∈ l,(f x).length ≤ c)
  (fin : ∀ nf acc,acc.length ≤ c * l.length → F (nf + 1) (l.length : Int) acc = some (g acc))
  (step : ∀ nf k acc (h : k < l.length),acc.length ≤ c * k → F (nf + 1) (k : Int) acc = F nf ((k + 1 : Nat) : Int) (acc ++ f l[k])) :
  ∀ (m nf k : Nat) (acc : List γ),k + m = l.length → m < nf → acc.length ≤ c * k → F nf (k : Int) acc = some (g (acc ++ (l.drop k).flatMap f))
 | 0,nf + 1,k,acc,h1,h2,h3 => by
  obtain rfl : k = l.length := by omega
  rw [fin nf acc h3,List.drop_length]
  simp
 | m + 1,nf + 1,k,acc,h1,h2,h3 => by
  have hk : k < l.length := by omega
  have := hf _ (List.getElem_mem hk)
  rw [step nf k acc hk h3,loopMap f g c hf fin step m nf (k + 1) _ (by omega) (by omega) (by rw [List.length_append,Nat.mul_add]; omega)]
  rw [List.drop_eq_getElem_cons hk,List.flatMap_cons,List.append_assoc]
theorem flatMap_one {α γ : Type} (f : α → γ) (l : List α) : l.flatMap (fun x => [f x]) = l.map f := by
 induction l with
 | nil => rfl
 | cons x l ih => simp [ih]
theorem flatMap_self {α : Type} (l : List α) : l.flatMap (fun x => [x]) = l := by
 rw [flatMap_one (fun x => x)]; simp
theorem at_get {α : Type} {l : List α} {k : Nat} (h : k < l.length) : at? l (k : Int) = some l[k] := by
 rw [at_nat,List.getElem?_eq_getElem h]
open Classical in
theorem some_ite {β : Type} (p q : Prop) (x y : β) (h : p ↔ q) : some (if p then x else y) = some (if q then x else y) := by
 rw [propext h]
theorem baf {β : Type} (p q : Prop) [Decidable p] [Decidable q] (f : Bool → Option β) : ((if p then some (decide q) else some false).bind f) = f (decide (p ∧ q)) := by
 by_cases h : p <;> simp [h]
open Classical in
theorem loopList {α β : Type} {F : Nat → Int → Option β} {l : List α} (Q : Nat → α → Prop) (go stop : β)
  (fin : ∀ nf,F (nf + 1) (l.length : Int) = some go)
  (step : ∀ nf k (h : k < l.length),(Q k l[k] → F (nf + 1) (k : Int) = F nf ((k + 1 : Nat) : Int)) ∧ (¬ Q k l[k] → F (nf + 1) (k : Int) = some stop)) (nf : Nat) (hn : l.length < nf) :
  F nf 0 = some (if ∀ k x,l[k]? = some x → Q k x then go else stop) := by
 have h := loopAll (F := F) (len := l.length) (fun k => ∀ x,l[k]? = some x → Q k x) go stop fin (fun nf k hk => by
  have e : (∀ x,l[k]? = some x → Q k x) ↔ Q k l[k] := ⟨fun h => h _ (List.getElem?_eq_getElem hk),fun h x hx => by
   rw [List.getElem?_eq_getElem hk] at hx
   injection hx with hx
   exact hx ▸ h⟩
  rw [e]
  exact step nf k hk) l.length nf 0 (by omega) hn
 refine h.trans (some_ite _ _ _ _ ⟨fun g k x hx => g k (Nat.zero_le k) ((List.getElem?_eq_some_iff.1 hx).1) x hx,fun g j _ _ x hx => g j x hx⟩)
theorem take_min {α : Type} (l : List α) (n : Nat) {i : Int} (h : i = (n : Int)) : l.take ((min (l.length : Int) i).toNat) = l.take n := by
 subst h
 by_cases e : l.length ≤ n
 · rw [List.take_of_length_le e,List.take_of_length_le (by omega)]
 · congr 1; omega
theorem all_mem {α : Type} {l : List α} {P : α → Prop} : (∀ (k : Nat) (x : α),l[k]? = some x → P x) ↔ ∀ x ∈ l,P x :=
 ⟨fun h x hx => by
  obtain ⟨k,hk,e⟩ := List.getElem_of_mem hx
  exact h k x (by rw [List.getElem?_eq_getElem hk,e]),fun h k x hx => h x (List.mem_of_getElem? hx)⟩
theorem sdec {p q : Prop} {ip : Decidable p} {iq : Decidable q} (h : p ↔ q) : some (@decide p ip) = some (@decide q iq) := by
 by_cases hp : p
 · rw [decide_eq_true hp,decide_eq_true (h.1 hp)]
 · rw [decide_eq_false hp,decide_eq_false fun hq => hp (h.2 hq)]
theorem ddec {p q : Prop} {ip : Decidable p} {iq : Decidable q} (h : p ↔ q) : @decide p ip = @decide q iq := Option.some.inj (sdec h)
theorem dT {p : Prop} {ip : Decidable p} (h : p) : @decide p ip = true := decide_eq_true h
theorem dF {p : Prop} {ip : Decidable p} (h : ¬ p) : @decide p ip = false := decide_eq_false h
theorem dT' {p : Prop} {ip : Decidable (¬ p)} (h : ¬ p) : @decide (¬ p) ip = true := decide_eq_true h
theorem dF' {p : Prop} {ip : Decidable (¬ p)} (h : p) : @decide (¬ p) ip = false := decide_eq_false fun q => q h
theorem sT {p : Prop} {ip : Decidable p} (h : p) : some true = some (@decide p ip) := by rw [decide_eq_true h]
theorem sF {p : Prop} {ip : Decidable p} (h : ¬ p) : some false = some (@decide p ip) := by rw [decide_eq_false h]
theorem sT' {p : Prop} {ip : Decidable (¬ p)} (h : ¬ p) : some true = some (@decide (¬ p) ip) := by rw [dT' h]
theorem sF' {p : Prop} {ip : Decidable (¬ p)} (h : p) : some false = some (@decide (¬ p) ip) := by rw [dF' h]
theorem ndec {p q : Prop} {ip : Decidable p} {iq : Decidable q} (h : p ↔ ¬ q) : some (!@decide q iq) = some (@decide p ip) := by
 by_cases hq : q
 · rw [decide_eq_true hq,decide_eq_false fun hp => h.1 hp hq]; rfl
 · rw [decide_eq_false hq,decide_eq_true (h.2 hq)]; rfl
theorem iteC {β : Type} {p q : Prop} {ip : Decidable p} {iq : Decidable q} {x y : β} (h : p ↔ q) : some (@ite β p ip x y) = some (@ite β q iq x y) := by
 by_cases hp : p
 · rw [if_pos hp,if_pos (h.1 hp)]
 · rw [if_neg hp,if_neg fun hq => hp (h.2 hq)]
open Classical in
theorem ite_dec {p : Prop} : (if p then true else false) = decide p := by by_cases h : p <;> simp [h]
open Classical in
theorem stepN {β : Type} {G next : Option β} {X : Option Bool} {Q : Prop} {stop : β} (h : G = X.bind fun b => if b = true then some stop else next) (hx : X = some (decide (¬ Q))) : (Q → G = next) ∧ (¬ Q → G = some stop) := by
 rw [h,hx,Option.bind_some]
 exact ⟨fun q => by rw [if_neg (by simpa using q)],fun q => by rw [if_pos (by simpa using q)]⟩
open Classical in
theorem stepY {β : Type} {G next : Option β} {X : Option Bool} {Q : Prop} {stop : β} (h : G = X.bind fun b => if b = true then next else some stop) (hx : X = some (decide Q)) : (Q → G = next) ∧ (¬ Q → G = some stop) := by
 rw [h,hx,Option.bind_some]
 exact ⟨fun q => by rw [if_pos (by simpa using q)],fun q => by rw [if_neg (by simpa using q)]⟩
theorem stepS {γ β : Type} {G next : Option β} {X : Option (γ ⊕ β)} {f : γ ⊕ β → Option β} {Q : Prop} {stop : β} {v : γ} (h : G = X.bind f) (f1 : f (.inl v) = next) (f2 : f (.inr stop) = some stop) (h1 : Q → X = some (.inl v)) (h2 : ¬ Q → X = some (.inr stop)) : (Q → G = next) ∧ (¬ Q → G = some stop) :=
 ⟨fun q => by rw [h,h1 q,Option.bind_some,f1],fun q => by rw [h,h2 q,Option.bind_some,f2]⟩
end Go.Proofs.Ytabbejabdkkaiaa
