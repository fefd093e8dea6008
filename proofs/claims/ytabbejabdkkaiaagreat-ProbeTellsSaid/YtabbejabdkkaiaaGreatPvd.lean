/- Probes as the document has them: the same as the program's. No condition. -/
import Derived.Test.YtabbejabdkkaiaaGreatPvb
set_option linter.unusedSimpArgs false
set_option linter.unusedVariables false
namespace Go.Proofs.YtabbejabdkkaiaaGreat
open Go.RowKit

theorem place_l1 (l : List Int) (x : Int) (hs : l.length ≤ 1000) : ∀ (n nf k : Nat),k + n = l.length → n < nf → L_ref09_Place_l1 l x nf (k : Int) = some (plc x k (l.drop k))
 | 0,nf + 1,k,h1,h2 => by
  rw [L_ref09_Place_l1,if_neg (by omega),List.drop_of_length_le (by omega)]
  rfl
 | n + 1,nf + 1,k,h1,h2 => by
  have hk : k < l.length := by omega
  rw [L_ref09_Place_l1,if_pos (by omega),at_get hk,Option.bind_some,List.drop_eq_getElem_cons hk]
  simp only [plc]
  by_cases e : x = l[k]
  · rw [if_pos e.symm,if_pos e]
  ·
   rw [if_neg fun g => e g.symm,if_neg e,wr_succ (by omega)]
   exact place_l1 l x hs n nf (k + 1) (by omega) (by omega)
theorem place_plc {l : List Int} (x : Int) (hs : l.length ≤ 1000) : L_ref09_Place l x = some (plc x 0 l) := by
 unfold L_ref09_Place
 rw [fuel_eq]
 exact place_l1 l x hs l.length _ 0 (by simp) (by omega)
theorem many_at' {α : Type} {ks : List Int} {ls : List (List α)} (x : Int) (hl : ls.length = ks.length) : (if plc x 0 ks < 0 then some 0 else (at? ls (plc x 0 ks)).bind fun y => some (y.length : Int)) = some (many ks ls x) := by
 rw [← many_at x hl]
 by_cases c : plc x 0 ks < 0
 · rw [if_pos c,if_neg (by omega)]
 · rw [if_neg c,if_pos (by omega)]
theorem plc_mem {x : Int} {l : List Int} : plc x 0 l < 0 ↔ x ∉ l := by
 rcases plc_cases x 0 l with ⟨h1,h2⟩ | ⟨j,h1,h2⟩
 · rw [h1]; exact ⟨fun _ => h2,fun _ => by decide⟩
 · rw [h1]; exact ⟨fun q => by omega,fun q => absurd (List.mem_of_getElem? h2) q⟩
section
variable {a : TApp} {h : THost}
theorem ref_got (hR : HRightP a h) (ha : SzA a) (l : Int) : L_ref09_Got a h l = some (got a h l) := by
 have hg := ha.g
 unfold L_ref09_Got
 rw [ref_in _ (by omega),Option.bind_some,place_plc _ (by have := hR.il5; omega),Option.bind_some]
 exact many_at' l hR.il
theorem ref_gave (hR : HRightP a h) (ha : SzA a) (l : Int) : L_ref09_Gave a h l = some (gave a h l) := by
 have hg := ha.g
 unfold L_ref09_Gave
 rw [ref_out _ (by omega),Option.bind_some,place_plc _ (by have := hR.il5; omega),Option.bind_some]
 exact many_at' l hR.ol
theorem ref16_send (hR : HRightP a h) (ha : SzA a) (init num : Int) {path : List Int} (hp : path.length ≤ 1000) : L_ref16_send a h init num path = some (outsH a h init num path) := by
 have hg := ha.g
 have hw := stH_sz (h := h) ha
 unfold L_ref16_send
 rw [ref_at,Option.bind_some]
 change L_ref16_send_l1 a h init num path (stH a h) ((((stH a h).Waits.length : Int) - 0).toNat + 1) 0 [] = _
 have h1 := loopMap (F := fun nf n acc => L_ref16_send_l1 a h init num path (stH a h) nf n acc) (l := (stH a h).Waits) (fun w => [mkO a h init num path w]) (fun q => q) 1 (by simp)
  (fun nf acc h => by rw [L_ref16_send_l1,if_neg (by omega)])
  (fun nf k acc hk h2 => by
   rw [L_ref16_send_l1,if_pos (by omega),if_pos (by omega),if_pos (by omega),at_get hk,Option.bind_some,ref_find _ _ (by omega),Option.bind_some,ref_got hR ha,Option.bind_some,ref_find _ _ (by omega),Option.bind_some,if_pos (by omega),wr_succ (by omega)]
   rfl)
  (stH a h).Waits.length ((((stH a h).Waits.length : Int) - 0).toNat + 1) 0 [] (by simp) (by omega) (by simp)
 rw [flatMap_one] at h1
 exact h1
theorem ref16_start (hR : HRightP a h) (ha : SzA a) (num : Int) : L_ref16_Start a h num = some (startOf a h num) := by
 unfold L_ref16_Start startOf
 by_cases c1 : a.Fifo = true
 ·
  rw [if_pos c1,if_pos c1,orC rfl,Option.bind_some]
  by_cases c2 : num < 1 ∨ num > 200
  · rw [if_pos (dT c2),if_pos c2]
  ·
   rw [if_neg (by rw [dF c2]; decide),if_neg c2,ref_at,Option.bind_some]
   change (if (stH a h).Mode = 2 then _ else _) = _
   by_cases c3 : (stH a h).Mode = 2
   ·
    rw [if_pos c3,if_pos c3,ref16_send hR ha _ _ (by simp)]
    rfl
   · rw [if_neg c3,if_neg c3]
 · rw [if_neg c1,if_neg c1]
theorem ref_now (f : TFrame) : ∀ (m nf : Nat) (l : List Int),m = (f.Init + 1 - (l.length : Int)).toNat → m < nf → l.length ≤ 100000 → f.Init ≤ 1000 → L_ref16_Hear_l1 f nf l = some (l ++ List.replicate m 0)
 | 0,nf + 1,l,h1,h2,h3,h4 => by
  rw [L_ref16_Hear_l1,if_neg (by omega)]
  simp
 | m + 1,nf + 1,l,h1,h2,h3,h4 => by
  rw [L_ref16_Hear_l1,if_pos (by omega),if_pos (by omega),ref_now f m nf (l ++ [0]) (by rw [List.length_append,List.length_singleton]; omega) (by omega) (by rw [List.length_append,List.length_singleton]; omega) h4,List.append_assoc,List.replicate_succ]
  rfl
theorem last_now (seen : List Int) {i : Int} (m : Nat) (hi : 0 ≤ i) (hm : i < ((seen ++ List.replicate m 0).length : Int)) : at? (seen ++ List.replicate m 0) i = some (lastOf seen i) := by
 rw [at_lt hi hm]
 unfold lastOf
 by_cases c : i.toNat < seen.length
 · rw [List.getElem_append_left c,List.getElem?_eq_getElem c,Option.getD_some]
 · rw [List.getElem_append_right (by omega),List.getElem_replicate,List.getElem?_eq_none (by omega),Option.getD_none]
theorem ref16_hear (hR : HRightP a h) (ha : SzA a) {seen : List Int} (link : Int) {f : TFrame} (hi : 0 ≤ f.Init ∧ f.Init ≤ 1000) (hs : seen.length ≤ 90000) (hp : f.Path.length ≤ 1000) : L_ref16_Hear a h seen link f = some (hearOf a h seen link f) := by
 have hg := ha.g
 unfold L_ref16_Hear hearOf
 rw [ref_in _ (by omega),Option.bind_some,place_plc _ (by have := hR.il5; omega),Option.bind_some,ref_at,Option.bind_some,ref_back _ (by omega),Option.bind_some,ref_gave hR ha,Option.bind_some]
 change ((if plc link 0 (ins_ a.G h.Node) < 0 then some true else if (stH a h).Mode = 2 then some (!decide (gave a h (back a.G link) = f.Count)) else some true : Option Bool).bind _) = _
 by_cases c : HearP a h link f
 ·
  rw [if_pos c,if_neg fun q => plc_mem.1 q c.1,if_pos c.2.1,dT c.2.2,Option.bind_some,if_neg (by decide)]
  by_cases c1 : f.Init = h.Node
  · rw [if_pos c1,if_pos c1]
  ·
   rw [if_neg c1,if_neg c1,if_pos (by omega),ref_now f (f.Init + 1 - (seen.length : Int)).toNat _ seen rfl (by omega) (by omega) hi.2,Option.bind_some,last_now seen _ hi.1 (by rw [List.length_append,List.length_replicate]; omega),Option.bind_some]
   by_cases c2 : lastOf seen f.Init ≥ f.Num
   · rw [if_pos c2,if_pos c2]
   ·
    rw [if_neg c2,if_neg c2,ref16_send hR ha _ _ hp,Option.bind_some]
    unfold nowOf
    rw [show (max (seen.length : Int) (f.Init + 1)).toNat - seen.length = (f.Init + 1 - (seen.length : Int)).toNat by omega]
 ·
  rw [if_neg c]
  by_cases c1 : link ∈ ins_ a.G h.Node
  ·
   rw [if_neg fun q => plc_mem.1 q c1]
   by_cases c2 : (stH a h).Mode = 2
   · rw [if_pos c2,dF fun q => c ⟨c1,c2,q⟩,Option.bind_some,if_pos (by decide)]
   · rw [if_neg c2,Option.bind_some,if_pos rfl]
  · rw [if_pos (plc_mem.2 c1),Option.bind_some,if_pos rfl]
end
theorem law_outs {l : List TOut} (hl : l.length ≤ 100) (hp : ∀ o ∈ l,o.F.Pieces = []) : L_law16_Outs l = some l := by
 have h := loopMap (F := fun nf n acc => L_law16_Outs_l1 l nf n acc) (l := l) (fun p => [p]) (fun q => q) 1 (by simp)
  (fun nf acc h => by rw [L_law16_Outs_l1,if_neg (by omega)])
  (fun nf k acc h h2 => by rw [L_law16_Outs_l1,if_pos (by omega),at_get h,Option.bind_some,law_refF (by rw [hp _ (List.getElem_mem h)]; simp),Option.bind_some,if_pos (by omega),wr_succ (by omega)])
  l.length (((l.length : Int) - 0).toNat + 1) 0 [] (by simp) (by omega) (by simp)
 simpa [flatMap_self,L_law16_Outs] using h
theorem frame_same {f : TFrame} (hp : f.Pieces = []) (hl : f.Path.length ≤ 1000) : L_ref07_Same f f = some true := by
 unfold L_ref07_Same
 rw [if_pos rfl,if_pos rfl,if_pos rfl,hp]
 unfold L_ref06_All
 rw [if_pos rfl,show ((([] : List TPiece).length : Int) - 0).toNat + 1 = 0 + 1 from rfl,L_ref06_All_l1,if_neg (by simp),Option.bind_some,if_pos rfl,if_pos rfl,if_pos rfl,if_pos rfl,ints_same hl]
 rfl
theorem outs_same {l : List TOut} (hl : l.length ≤ 100) (hp : ∀ o ∈ l,o.F.Pieces = [] ∧ o.F.Path.length ≤ 1000) : L_ref16_Outs l l = some true := by
 unfold L_ref16_Outs
 rw [if_pos rfl]
 exact same_l1 (F := fun nf k => L_ref16_Outs_l1 l l nf k) (l := l) (fun nf => by rw [L_ref16_Outs_l1,if_neg (by omega)])
  (fun nf k hk => by
   obtain ⟨h1,h2⟩ := hp _ (List.getElem_mem hk)
   rw [L_ref16_Outs_l1,if_pos (by omega),at_get hk,Option.bind_some,Option.bind_some,if_pos rfl,frame_same h1 h2,Option.bind_some,Option.bind_some,if_neg (by decide),wr_succ (by omega)])
  _ (by omega)
theorem outsH_ok {a : TApp} {h : THost} (init num : Int) {path : List Int} (hp : path.length ≤ 900) : ∀ o ∈ outsH a h init num path,o.F.Pieces = [] ∧ o.F.Path.length ≤ 1000 := fun o ho => by
 obtain ⟨w,_,rfl⟩ := List.mem_map.1 ho
 exact ⟨rfl,by show (path ++ [h.Node]).length ≤ 1000; rw [List.length_append,List.length_singleton]; omega⟩
theorem startOf_ok {a : TApp} {h : THost} (ha : SzA a) (num : Int) : (startOf a h num).1.length ≤ 100 ∧ ∀ o ∈ (startOf a h num).1,o.F.Pieces = [] ∧ o.F.Path.length ≤ 1000 := by
 unfold startOf
 split
 ·
  split
  · simp
  ·
   split
   · exact ⟨outsH_len ha _ _ _,outsH_ok _ _ (by simp)⟩
   · simp
 · simp
theorem hearOf_ok {a : TApp} {h : THost} (ha : SzA a) {seen : List Int} (link : Int) {f : TFrame} (hi : 0 ≤ f.Init ∧ f.Init ≤ 100) (hs : seen.length ≤ 900) (hp : f.Path.length ≤ 900) : (hearOf a h seen link f).1.length ≤ 1000 ∧ ((hearOf a h seen link f).2.1.length ≤ 100 ∧ ∀ o ∈ (hearOf a h seen link f).2.1,o.F.Pieces = [] ∧ o.F.Path.length ≤ 1000) ∧ (hearOf a h seen link f).2.2.length ≤ 1000 := by
 unfold hearOf
 split
 ·
  split
  · exact ⟨by dsimp only; omega,⟨by simp,by simp⟩,by dsimp only; omega⟩
  ·
   split
   · exact ⟨by dsimp only; omega,⟨by simp,by simp⟩,by simp⟩
   ·
    refine ⟨?_,⟨outsH_len ha _ _ _,outsH_ok _ _ hp⟩,by simp⟩
    have := now_len seen f.Num hi.1
    dsimp only
    omega
 · exact ⟨by dsimp only; omega,⟨by simp,by simp⟩,by simp⟩
end Go.Proofs.YtabbejabdkkaiaaGreat
