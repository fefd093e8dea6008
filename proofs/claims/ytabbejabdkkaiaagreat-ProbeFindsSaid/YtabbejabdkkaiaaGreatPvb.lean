/- Probes in plain words: what a host got and gave, what it sends to begin, what comes of a probe. No condition. -/
import Derived.Test.YtabbejabdkkaiaaGreatPva
set_option linter.unusedSimpArgs false
set_option linter.unusedVariables false
namespace Go.Proofs.YtabbejabdkkaiaaGreat
open Go.RowKit

theorem sameV {α β : Type} {F : Nat → Int → Option β} {l : List α} (v : β) (fin : ∀ nf,F (nf + 1) (l.length : Int) = some v) (step : ∀ nf k,k < l.length → F (nf + 1) (k : Int) = F nf ((k + 1 : Nat) : Int)) (nf : Nat) (hn : l.length < nf) : F nf 0 = some v := by
 have h := loopI (σ := Unit) (F := fun nf k _ => F nf k) (len := l.length) (fun _ _ => True) (fun _ _ => some v) (fun nf _ _ => fin nf) (fun nf k _ hk _ ih => by rw [step nf k hk]; exact ih () trivial) l.length nf 0 () (by omega) hn trivial
 exact h
def plc (x : Int) : Nat → List Int → Int
 | _,[] => -1
 | k,y :: l => if x = y then (k : Int) else plc x (k + 1) l
theorem plc_cases (x : Int) : ∀ (k : Nat) (l : List Int),(plc x k l = -1 ∧ x ∉ l) ∨ ∃ j : Nat,plc x k l = ((k + j : Nat) : Int) ∧ l[j]? = some x
 | k,[] => .inl ⟨rfl,by simp⟩
 | k,y :: l => by
  simp only [plc]
  by_cases e : x = y
  ·
   rw [if_pos e]
   exact .inr ⟨0,by simp,by simp [e]⟩
  ·
   rw [if_neg e]
   rcases plc_cases x (k + 1) l with ⟨h1,h2⟩ | ⟨j,h1,h2⟩
   · exact .inl ⟨h1,by simp [e,h2]⟩
   · exact .inr ⟨j + 1,by rw [h1]; congr 1; omega,by simpa using h2⟩
theorem index_l1 (l : List Int) (x : Int) (hs : l.length ≤ 1000) : ∀ (n nf k : Nat),k + n = l.length → n < nf → L_slices_Index_int_int_l1 l x nf (k : Int) = some (plc x k (l.drop k))
 | 0,nf + 1,k,h1,h2 => by
  rw [L_slices_Index_int_int_l1,if_neg (by omega),List.drop_of_length_le (by omega)]
  rfl
 | n + 1,nf + 1,k,h1,h2 => by
  have hk : k < l.length := by omega
  rw [L_slices_Index_int_int_l1,if_pos (by omega),at_get hk,Option.bind_some,List.drop_eq_getElem_cons hk]
  simp only [plc]
  by_cases e : x = l[k]
  · rw [if_pos e,if_pos e]
  ·
   rw [if_neg e,if_neg e,wr_succ (by omega)]
   exact index_l1 l x hs n nf (k + 1) (by omega) (by omega)
theorem index_plc {l : List Int} (x : Int) (hs : l.length ≤ 1000) : L_slices_Index_int_int l x = some (plc x 0 l) := by
 unfold L_slices_Index_int_int
 rw [fuel_eq]
 exact index_l1 l x hs l.length _ 0 (by simp) (by omega)
def many {α : Type} (ks : List Int) (ls : List (List α)) (x : Int) : Int := if plc x 0 ks ≥ 0 then (((ls[(plc x 0 ks).toNat]?).getD []).length : Int) else 0
def got (a : TApp) (h : THost) (l : Int) : Int := many (ins_ a.G h.Node) h.In l
def gave (a : TApp) (h : THost) (l : Int) : Int := many (outs_ a.G h.Node) h.Out l
theorem many_at {α : Type} {ks : List Int} {ls : List (List α)} (x : Int) (hl : ls.length = ks.length) : (if plc x 0 ks ≥ 0 then (at? ls (plc x 0 ks)).bind fun y => some (y.length : Int) else some 0) = some (many ks ls x) := by
 unfold many
 rcases plc_cases x 0 ks with ⟨h1,_⟩ | ⟨j,h1,h2⟩
 · rw [if_neg (by omega),if_neg (by omega)]
 ·
  have hj : j < ls.length := by rw [hl]; exact (List.getElem?_eq_some_iff.1 h2).1
  rw [h1,Nat.zero_add,if_pos (by omega),if_pos (by omega),at_get hj,Option.bind_some,Int.toNat_natCast,List.getElem?_eq_getElem hj,Option.getD_some]
section
variable {a : TApp} {h : THost}
theorem HRightP.il5 (hR : HRightP a h) : (ins_ a.G h.Node).length ≤ 5 ∧ (outs_ a.G h.Node).length ≤ 5 := by
 have := hR.i5
 have h1 := hR.il
 have h2 := hR.ol
 omega
theorem host_got (hR : HRightP a h) (ha : SzA a) (l : Int) : L_host_Got a h l = some (got a h l) := by
 have hg := ha.g
 unfold L_host_Got
 rw [graph_in _ (by omega),Option.bind_some,index_plc _ (by have := hR.il5; omega),Option.bind_some]
 exact many_at l hR.il
theorem host_gave (hR : HRightP a h) (ha : SzA a) (l : Int) : L_host_Gave a h l = some (gave a h l) := by
 have hg := ha.g
 unfold L_host_Gave
 rw [graph_out _ (by omega),Option.bind_some,index_plc _ (by have := hR.il5; omega),Option.bind_some]
 exact many_at l hR.ol
end
theorem grow_nil {k : Int} (h0 : 0 < k) (h1 : k ≤ 1000000) : L_slices_Grow_int_int k = some [] := by
 unfold L_slices_Grow_int_int
 rw [if_neg (by omega),wr (n := 0) (by omega) (by omega),wr (n := k - 0) (by omega) (by omega),if_pos (by omega),if_pos (by omega),if_pos (by omega),if_pos (by omega),if_pos (by omega),Option.bind_some]
theorem concat_two {p : List Int} (n : Int) (hp : p.length ≤ 1000) : L_slices_Concat_int_int ([p] ++ [[n]]) = some (p ++ [n]) := by
 show L_slices_Concat_int_int [p,[n]] = _
 have e0 : at? [p,[n]] 0 = some p := rfl
 have e1 : at? [p,[n]] 1 = some [n] := rfl
 have el : (([p,[n]] : List (List Int)).length : Int) = 2 := rfl
 have ef : ((2 : Int) - 0).toNat + 1 = 0 + 1 + 1 + 1 := rfl
 have en : (([n] : List Int).length : Int) = 1 := rfl
 unfold L_slices_Concat_int_int
 rw [el,ef,L_slices_Concat_int_int_l1,el,if_pos (by omega),e0,Option.bind_some,wr (n := 0 + (p.length : Int)) (by omega) (by omega),if_neg (by omega),wr (n := 0 + 1) (by omega) (by omega),
  L_slices_Concat_int_int_l1,el,if_pos (by omega),show (0 + 1 : Int) = 1 from rfl,e1,Option.bind_some,en,wr (n := 0 + (p.length : Int) + 1) (by omega) (by omega),if_neg (by omega),wr (n := 1 + 1) (by omega) (by omega),
  L_slices_Concat_int_int_l1,el,if_neg (by omega),Option.bind_some,grow_nil (by omega) (by omega),Option.bind_some,
  L_slices_Concat_int_int_l2,el,if_pos (by omega),e0,Option.bind_some,if_pos (by simp only [List.length_nil]; omega),wr (n := 0 + 1) (by omega) (by omega),show (0 + 1 : Int) = 1 from rfl,
  L_slices_Concat_int_int_l2,el,if_pos (by omega),e1,Option.bind_some,if_pos (by simp only [List.nil_append,List.length_cons,List.length_nil]; omega),wr (n := 1 + 1) (by omega) (by omega),
  L_slices_Concat_int_int_l2,el,if_neg (by omega),List.nil_append]
def mkO (a : TApp) (h : THost) (init num : Int) (path : List Int) (w : Int) : TOut := ⟨find a.G h.Node w,⟨6,0,⟨0,0⟩,[],init,num,got a h (find a.G w h.Node),path ++ [h.Node]⟩⟩
def stH (a : TApp) (h : THost) : TState := stOf a.T h.Node h.State
def outsH (a : TApp) (h : THost) (init num : Int) (path : List Int) : List TOut := (stH a h).Waits.map (mkO a h init num path)
def lastOf (seen : List Int) (i : Int) : Int := (seen[i.toNat]?).getD 0
def nowOf (seen : List Int) (i v : Int) : List Int := (seen ++ List.replicate ((max (seen.length : Int) (i + 1)).toNat - seen.length) 0).set i.toNat v
def HearP (a : TApp) (h : THost) (link : Int) (f : TFrame) : Prop := link ∈ ins_ a.G h.Node ∧ (stH a h).Mode = 2 ∧ gave a h (back a.G link) = f.Count
open Classical in
noncomputable def hearOf (a : TApp) (h : THost) (seen : List Int) (link : Int) (f : TFrame) : List Int × List TOut × List Int :=
 if HearP a h link f then
  if f.Init = h.Node then (seen,[],f.Path)
  else if lastOf seen f.Init ≥ f.Num then (seen,[],[])
  else (nowOf seen f.Init f.Num,outsH a h f.Init f.Num f.Path,[])
 else (seen,[],[])
section
variable {a : TApp} {h : THost}
theorem stH_sz (ha : SzA a) : (stH a h).Waits.length ≤ 100 := (stOf_sz ha.t _ _).1
theorem seat_probe (hR : HRightP a h) (ha : SzA a) (init num : Int) {path : List Int} (hp : path.length ≤ 1000) : L_probe_seat_probe ⟨h,a⟩ init num path = some (outsH a h init num path) := by
 have hg := ha.g
 have hw := stH_sz (h := h) ha
 unfold L_probe_seat_probe
 dsimp only
 rw [table_waits ha.t,Option.bind_some]
 change L_probe_seat_probe_l1 ⟨h,a⟩ init num path (stH a h).Waits ((((stH a h).Waits.length : Int) - 0).toNat + 1) 0 [] = _
 have h1 := loopMap (F := fun nf n acc => L_probe_seat_probe_l1 ⟨h,a⟩ init num path (stH a h).Waits nf n acc) (l := (stH a h).Waits) (fun w => [mkO a h init num path w]) (fun q => q) 1 (by simp)
  (fun nf acc h => by rw [L_probe_seat_probe_l1,if_neg (by omega)])
  (fun nf k acc hk h2 => by
   rw [L_probe_seat_probe_l1,if_pos (by omega),at_get hk,Option.bind_some]
   dsimp only
   rw [graph_find _ _ (by omega),Option.bind_some,host_got hR ha,Option.bind_some,concat_two _ hp,Option.bind_some,graph_find _ _ (by omega),Option.bind_some,if_pos (by omega),wr_succ (by omega)]
   rfl)
  (stH a h).Waits.length ((((stH a h).Waits.length : Int) - 0).toNat + 1) 0 [] (by simp) (by omega) (by simp)
 rw [flatMap_one] at h1
 exact h1
theorem seat_blocked : L_probe_seat_blocked ⟨h,a⟩ = some (decide ((stH a h).Mode = 2)) := by
 unfold L_probe_seat_blocked
 rw [table_mode,Option.bind_some]
 rfl
def startOf (a : TApp) (h : THost) (num : Int) : List TOut × Int :=
 if a.Fifo = true then if num < 1 ∨ num > 200 then ([],2) else if (stH a h).Mode = 2 then (outsH a h h.Node num [],0) else ([],8) else ([],9)
theorem probe_start (hR : HRightP a h) (ha : SzA a) (num : Int) : L_probe_Start a h num = some (startOf a h num) := by
 unfold L_probe_Start startOf
 by_cases c1 : a.Fifo = true
 ·
  rw [if_pos c1,if_pos c1,orC rfl,Option.bind_some]
  by_cases c2 : num < 1 ∨ num > 200
  · rw [if_pos (dT c2),if_pos c2]
  ·
   rw [if_neg (by rw [dF c2]; decide),if_neg c2,seat_blocked,Option.bind_some]
   by_cases c3 : (stH a h).Mode = 2
   ·
    rw [if_pos (dT c3),if_pos c3,seat_probe hR ha _ _ (by simp)]
    rfl
   · rw [if_neg (by rw [dF c3]; decide),if_neg c3]
 · rw [if_neg c1,if_neg c1]
theorem probe_last (seen : List Int) {i : Int} (hi : 0 ≤ i) : L_probe_last seen i = some (lastOf seen i) := by
 unfold L_probe_last lastOf
 by_cases c : i < (seen.length : Int)
 · rw [if_pos c,at_lt hi c,Option.bind_some,List.getElem?_eq_getElem (by omega),Option.getD_some]
 · rw [if_neg c,List.getElem?_eq_none (by omega),Option.getD_none]
theorem probe_hear (hR : HRightP a h) (ha : SzA a) {seen : List Int} (link : Int) {f : TFrame} (hi : 0 ≤ f.Init ∧ f.Init ≤ 1000) (hs : seen.length ≤ 100000) (hp : f.Path.length ≤ 1000) : L_probe_Hear a h seen link f = some (hearOf a h seen link f) := by
 have hg := ha.g
 unfold L_probe_Hear hearOf
 rw [graph_in _ (by omega),Option.bind_some,contains_int (by have := hR.il5; omega),Option.bind_some,seat_blocked,Option.bind_some,graph_back _ (by omega),Option.bind_some,host_gave hR ha,Option.bind_some]
 by_cases c : HearP a h link f
 ·
  rw [if_pos c,if_pos (dT c.1),if_pos (dT c.2.1),dT c.2.2,Option.bind_some,if_neg (by decide)]
  by_cases c1 : f.Init = h.Node
  ·
   rw [if_pos c1,if_pos c1]
   unfold L_slices_Clone_int_int
   rw [if_pos (by omega),Option.bind_some]
  ·
   rw [if_neg c1,if_neg c1,probe_last _ hi.1,Option.bind_some]
   by_cases c2 : lastOf seen f.Init ≥ f.Num
   · rw [if_pos c2,if_pos c2]
   ·
    rw [if_neg c2,if_neg c2,wr (n := f.Init + 1) (by omega) (by omega),if_pos (by omega),if_pos (by omega),if_pos (by omega),Option.bind_some,Option.bind_some]
    have e : (seen.take (List.replicate (max (seen.length : Int) (f.Init + 1)).toNat (0 : Int)).length ++ (List.replicate (max (seen.length : Int) (f.Init + 1)).toNat (0 : Int)).drop (seen.take (List.replicate (max (seen.length : Int) (f.Init + 1)).toNat (0 : Int)).length).length) = seen ++ List.replicate ((max (seen.length : Int) (f.Init + 1)).toNat - seen.length) 0 := by
     rw [List.length_replicate,List.take_of_length_le (by omega),List.drop_replicate]
    rw [e,at_lt hi.1 (by rw [List.length_append,List.length_replicate]; omega),Option.bind_some,seat_probe hR ha _ _ hp,Option.bind_some]
    rfl
 ·
  rw [if_neg c]
  by_cases c1 : link ∈ ins_ a.G h.Node
  ·
   rw [if_pos (dT c1)]
   by_cases c2 : (stH a h).Mode = 2
   · rw [if_pos (dT c2),dF fun q => c ⟨c1,c2,q⟩,Option.bind_some,if_pos (by decide)]
   · rw [if_neg (by rw [dF c2]; decide),Option.bind_some,if_pos rfl]
  · rw [if_neg (by rw [dF c1]; decide),Option.bind_some,if_pos rfl]
theorem now_last (seen : List Int) {i : Int} (v : Int) (hi : 0 ≤ i) : lastOf (nowOf seen i v) i = v := by
 unfold lastOf nowOf
 rw [List.getElem?_set_self (by rw [List.length_append,List.length_replicate]; omega),Option.getD_some]
theorem now_len (seen : List Int) {i : Int} (v : Int) (hi : 0 ≤ i) : ((nowOf seen i v).length : Int) = max (seen.length : Int) (i + 1) := by
 unfold nowOf
 rw [List.length_set,List.length_append,List.length_replicate]
 omega
end
theorem st_waits {a : TApp} {h : THost} (hR : HRightP a h) : (stH a h).Mode = 2 ↔ (stH a h).Waits ≠ [] := by
 unfold stH stOf
 cases e : stA a.T h.Node h.State with
 | none => simp
 | some s =>
  rw [Option.getD_some]
  obtain ⟨x,_,_,_,_,_,h6⟩ := hR.tab.st e
  exact ⟨fun q => (h6.2.2.1.1 q).1,fun q => Classical.byContradiction fun g => q (h6.2.2.1.2 g)⟩
end Go.Proofs.YtabbejabdkkaiaaGreat
