/- One step of an abstract run, as a function: what an operation does to the frame and the objects in sight; it is right. A step looks at its operands, and at the objects that these name, alone. No condition. -/
import Derived.Test.YtabbejabdkkaiaaKC
set_option linter.unusedSimpArgs false
set_option linter.unusedVariables false
namespace Go.Proofs.Ytabbejabdkkaiaa
open Go.RowKit

abbrev Res := Option (AV × List Upd)
def stLoad (P : Program) (m : Nm → Option AObj) (t : TypeId) (x : AV) : Res :=
 match x with
 | .one c => match tShape P t with
  | some (some n) => (cellsAt m c n).map fun l => (.agg l,[])
  | some none => match cellsAt m c 1 with
   | some [c'] => some (.one c',[])
   | _ => none
  | none => none
 | _ => none
def stStore (P : Program) (m : Nm → Option AObj) (t : TypeId) (x y : AV) : Res :=
 match x with
 | .one (.ptr id off) => match m id,nCells P t with
  | some (.box ty l),some n => if y.okCells = true ∧ y.cells.length = n ∧ off + n ≤ l.length then some (.one .any,[(id,some (.box ty (lay l off y.cells)))]) else none
  | _,_ => none
 | .one (.eptr id sz i j) => match m id,nCells P t with
  | some (.row ty sz' l),some n => match l[i]? with
   | some r => if sz' = sz ∧ y.okCells = true ∧ y.cells.length = n ∧ j + n ≤ r.length then some (.one .any,[(id,some (.row ty sz (l.set i (lay r j y.cells))))]) else none
   | none => none
  | _,_ => none
 | _ => none
def stIndexAddr (P : Program) (t : TypeId) (x y : AV) : Res :=
 match x,y with
 | .one c,.one (.d (.int _ i)) => match tElt P t with
  | some (_,sz,_) => (elemOfS c sz i).map fun c' => (.one c',[])
  | none => match tArr P t with
   | some (n,sz) => if 0 ≤ i ∧ i < n then (fwd c (i.toNat * sz)).map fun c' => (.one c',[]) else none
   | none => none
 | _,_ => none
def isBoolT (P : Program) (t : TypeId) : Bool := match P.underlying t with | some .bool => true | _ => false
def stBin (P : Program) (op : BinOp) (t : TypeId) (x y : AV) : Res :=
 match x,y with
 | .one (.d (.int k p)),.one (.d (.int k' q)) => if k = k' then (arith op k p q).map fun c => (.one (.d c),[]) else none
 | .one (.d (.bool p)),.one (.d (.bool q)) => if isBoolT P t = true then (boolOp op p q).map fun c => (.one (.d c),[]) else none
 | .one c,.one .nil => if (tElt P t).isSome = true then (nilOp op c).map fun c => (.one c,[]) else none
 | .agg l,.agg l' => match tFlat P t,flatI l,flatI l' with
  | some n,some ns,some ms => if ns.length = n ∧ ms.length = n ∧ ns.map (·.1) = ms.map (·.1) then (aggOp op (eqI ns ms)).map fun c => (.one (.d c),[]) else none
  | _,_,_ => none
 | _,_ => none
def stUn (op : UnOp) (x : AV) : Res :=
 match op,x with
 | .not,.one (.d (.bool p)) => some (.one (.d (.bool (!p))),[])
 | .neg,.one (.d (.int k p)) => some (.one (.d (.int k (k.wrap (0 - p)))),[])
 | _,_ => none
def stConv (P : Program) (s t : TypeId) (x : AV) : Res :=
 match x with
 | .one (.d (.int k p)) => match tInt P s,tInt P t with
  | some k1,some k' => if k1 = k then some (.one (.d (.int k' (k'.wrap p))),[]) else none
  | _,_ => none
 | _ => none
def stExtract (x : AV) (i : Nat) : Res :=
 match x with
 | .tup l => (l[i]?).map fun y => ((match y with | .inl cs => .agg cs | .inr c => .one c),[])
 | _ => none
def stLen (P : Program) (t : TypeId) (x : AV) : Res :=
 match x with
 | .one c => if (tElt P t).isSome = true then (lenC c).map fun (n : Nat) => (.one (.d (.int .i64 (n : Int))),[]) else none
 | _ => none
def stCap (P : Program) (t : TypeId) (x : AV) : Res :=
 match x with
 | .one .nil => if (tElt P t).isSome = true then some (.one (.d (.int .i64 0)),[]) else none
 | _ => none
def isRow (e sz : Nat) : Option AObj → Bool
 | some (.row ty sz' _) => Nat.beq ty e && Nat.beq sz' sz
 | _ => false
def stAppend0 (P : Program) (m : Nm → Option AObj) (fr : Nm) (t : Nat) (s x : AV) : Res :=
 match s,x with
 | .one cs,.one cx => match tElt P t with
  | some (e,sz,by_) => match tZero P e,rowsOf m cs,srcOf m cx with
   | some zs,some l,some l' => if zs.length = sz ∧ 0 < by_ ∧ (cs.ids.all fun id => isRow e sz (m id)) = true ∧ (∀ r ∈ l',r.length = sz) ∧ (l.length + l'.length) * by_ ≤ 140737488355328 then some (.one (.own fr (l.length + l'.length)),killOf cs.ids ++ [(fr,some (.row e sz (l ++ l')))]) else none
   | _,_,_ => none
  | none => none
 | _,_ => none
def stAppendZ (P : Program) (fr : Nm) (t t' : Nat) (s x : AV) : Res :=
 match s,x with
 | .one .nil,.one (.d (.int _ p)) => match tElt P t,tInt P t' with
  | some (e,sz,by_),some _ => match tZero P e with
   | some zs => if 0 < p ∧ 0 < sz ∧ zs.length = sz ∧ (zs.map ofVal).all Cell.known = true ∧ by_ * p.toNat ≤ 140737488355328 ∧ p.toNat ≤ 140737488355328 then some (.one (.own fr p.toNat),[(fr,some (.row e sz (List.replicate p.toNat (zs.map ofVal))))]) else none
   | none => none
  | _,_ => none
 | _,_ => none
def rowAt : Option AObj → Option (Nat × Nat × List (List Cell))
 | some (.row e sz l) => some (e,sz,l)
 | _ => none
def ownSub : AV → AV → Bool
 | .one (.own id _),.one (.sub id' _ _ _) => decide (id = id')
 | _,_ => false
def stAppendIn (P : Program) (m : Nm → Option AObj) (t : Nat) (s x : AV) : Res :=
 match s,x with
 | .one (.own id n),.one cx => match tElt P t,rowAt (m id),srcOf m cx with
  | some (e,sz,by_),some (e',sz',l0),some l' => match tZero P e with
   | some zs => if e' = e ∧ sz' = sz ∧ zs.length = sz ∧ 0 < by_ ∧ (∀ r ∈ l',r.length = sz) ∧ n + l'.length ≤ l0.length ∧ (n + l'.length) * by_ ≤ 140737488355328 then some (.one (.own id (n + l'.length)),[(id,some (.row e sz (lay l0 n l')))]) else none
   | none => none
  | _,_,_ => none
 | _,_ => none
def stAppend (P : Program) (m : Nm → Option AObj) (fr : Nm) (t : Nat) (s x : AV) : Res :=
 if ownSub s x = true then stAppendIn P m t s x else stAppend0 P m fr t s x
def subSz (sz : Nat) : Cell → Bool
 | .sub _ s _ _ => Nat.beq s sz
 | _ => true
def stCopy (P : Program) (m : Nm → Option AObj) (t : Nat) (s x : AV) : Res :=
 match s,x with
 | .one cs,.one cx => match tElt P t,dstAt cs,rowsOf m cs,srcOf m cx with
  | some (e,sz,_),some (id,off),some l,some l' => match rowAt (m id) with
   | some (e',sz',l0) => if e' = e ∧ sz' = sz ∧ subSz sz cs = true ∧ (∀ r ∈ l',r.length = sz) then some (.one (.d (.int .i64 ((Nat.min l'.length l.length : Nat) : Int))),[(id,some (.row e sz (lay l0 off (l'.take l.length))))]) else none
   | none => none
  | _,_,_,_ => none
 | _,_ => none
def stClear (P : Program) (m : Nm → Option AObj) (t : Nat) (s : AV) : Res :=
 match s with
 | .one cs => match tElt P t,dstAt cs,rowsOf m cs with
  | some (e,sz,_),some (id,off),some l => match rowAt (m id),tZero P e with
   | some (e',sz',l0),some zs => if e' = e ∧ sz' = sz ∧ subSz sz cs = true ∧ zs.length = sz ∧ (zs.map ofVal).all Cell.known = true then some (.tup [],[(id,some (.row e sz (lay l0 off (List.replicate l.length (zs.map ofVal)))))]) else none
   | _,_ => none
  | _,_,_ => none
 | _ => none
def stMinMax (isMax : Bool) (xs : List AV) : Res :=
 match xs with
 | .one (.d (.int k n)) :: r => (mapO (intOfAV k) r).map fun ns => (.one (.d (.int k (foldI isMax n ns))),[])
 | _ => none
def boundOf (ev : Operand → AV) : Option Operand → Option (Option Int)
 | none => some none
 | some y => match ev y with
  | .one (.d (.int _ n)) => some (some n)
  | _ => none
def stSlice (P : Program) (m : Nm → Option AObj) (t : Nat) (x : AV) (lo hi : Option (Option Int)) : Res :=
 match x,tElt P t,lo,hi with
 | .one c,some (_,sz,_),some l,some h => (partOf m sz c (l.getD 0) h).map fun c' => (.one c',[])
 | _,_,_,_ => none
def stSlice3 (P : Program) (m : Nm → Option AObj) (t : Nat) (x y z u : AV) : Res :=
 match x,tElt P t,y,z,u with
 | .one c,some _,.one (.d (.int _ n1)),.one (.d (.int _ n2)),.one (.d (.int _ n3)) => match rowsOf m c with
  | some l => if 0 ≤ n1 ∧ n1 ≤ n2 ∧ n2 ≤ n3 ∧ n3 ≤ (l.length : Int) then some (.one .any,[]) else none
  | none => none
 | _,_,_,_,_ => none
def stField (P : Program) (s : TypeId) (i : Nat) (x : AV) : Res :=
 match x,tFldV P s i with
 | .agg l,some (off,sh) => (cutAV l off sh).map fun y => (y,[])
 | _,_ => none
def stBuildSlice (P : Program) (fr : Nm) (t n : Nat) (ps : List (Nat × AV)) : Res :=
 match tElt P t with
 | some (e,sz,_) => match tZero P e with
  | some zs => if zs.length = sz ∧ n * sz ≤ 16777216 ∧ n ≤ 16777216 ∧ zs.all zok = true then
    match afill (fun i => some (i * sz,sz)) (zrep n (zs.map ofVal)) ps with
    | some l => if l.length = n * sz then some (.one (.own fr n),[(fr,some (.row e sz (chunk sz n l)))]) else none
    | none => none
   else none
  | none => none
 | none => none
def stMake (P : Program) (fr : Nm) (t : Nat) (x y : AV) : Res :=
 match x,y with
 | .one (.d (.int _ p)),.one (.d (.int _ q)) => match tElt P t with
  | some (e,sz,by_) => match tZero P e with
   | some zs => if 0 ≤ p ∧ p = q ∧ zs.length = sz ∧ (zs.map ofVal).all Cell.known = true ∧ by_ * p.toNat ≤ 140737488355328 ∧ p.toNat ≤ 140737488355328 then some (.one (.own fr p.toNat),[(fr,some (.row e sz (List.replicate p.toNat (zs.map ofVal))))]) else none
   | none => none
  | none => none
 | _,_ => none
open Classical in
noncomputable def pick {P : Program} (m : Nm → Option AObj) (fr : Nat) (g : FuncId) (xs : List AV) : List (Fact P) → Option (Fact P)
 | [] => none
 | z :: Z => if z.g = g ∧ z.fits m fr xs then some z else pick m fr g xs Z
noncomputable def stCall {P : Program} (Z : List (Fact P)) (m : Nm → Option AObj) (fr : Nat) (g : FuncId) (xs : List AV) : Res :=
 (pick m fr g xs Z).map fun z => (z.ans,kills (z.ks m xs) ++ outs z.M1)

def mapAt (m : Nm → Option AObj) (x : AV) : Option (Nm × TypeId × TypeId × Bool × Nat × List (List Int × C)) :=
 match x with
 | .one (.mp id) => match m id with
  | some (.map kt et ag n l) => some (id,kt,et,ag,n,l)
  | _ => none
 | _ => none
def hintOk : Option AV → Bool
 | none => true
 | some (.one (.d (.int _ _))) => true
 | _ => false
def stMakeMap (P : Program) (fr : Nm) (t : TypeId) (r : Option AV) : Res :=
 match tMap P t with
 | some (kt,et,ag,n) => if hintOk r = true then some (.one (.mp fr),[(fr,some (.map kt et ag n []))]) else none
 | none => none
def foundC (z : Value) : Option C → Cell
 | some c => .d c
 | none => ofVal z
def stLookup (P : Program) (m : Nm → Option AObj) (t : TypeId) (x y : AV) (ok : Bool) : Res :=
 match tMap P t,mapAt m x with
 | some (kt,et,ag,n),some (_,kt',et',ag',n',l) => if kt' = kt ∧ et' = et ∧ ag' = ag ∧ n' = n then
   match keyAV ag n y,tZ1 P et with
   | some k,some z => some (if ok = true then .tup [.inr (foundC z (mGet l k)),.inr (.d (.bool (decide (mIdx l k < l.length))))] else .one (foundC z (mGet l k)),[])
   | _,_ => none
  else none
 | _,_ => none
def stMapPut (P : Program) (m : Nm → Option AObj) (t : TypeId) (x y z : AV) : Res :=
 match tMap P t,mapAt m x with
 | some (kt,et,ag,n),some (id,kt',et',ag',n',l) => if kt' = kt ∧ et' = et ∧ ag' = ag ∧ n' = n then
   match keyAV ag n y,z with
   | some k,.one (.d c) => some (.one .any,[(id,some (.map kt et ag n (mPut l k c)))])
   | _,_ => none
  else none
 | _,_ => none
def zeroC (z : Value) : Option C := match ofVal z with
 | .d c => some c
 | _ => none
def stMapEntry (P : Program) (m : Nm → Option AObj) (t : TypeId) (x y : AV) : Res :=
 match tMap P t,mapAt m x with
 | some (kt,et,ag,n),some (id,kt',et',ag',n',l) => if kt' = kt ∧ et' = et ∧ ag' = ag ∧ n' = n then
   match keyAV ag n y,(tZ1 P et).bind zeroC with
   | some k,some c0 => some (.tup [.inr (.d ((mGet l k).getD c0)),.inr (.d (.int .i64 (mIdx l k : Nat)))],[(id,some (.map kt et ag n (mTouch l k c0)))])
   | _,_ => none
  else none
 | _,_ => none
def stEntryStore (m : Nm → Option AObj) (x y z : AV) : Res :=
 match mapAt m x,y,z with
 | some (id,kt,et,ag,n,l),.one (.d (.int .i64 i)),.one (.d c) => if 0 ≤ i ∧ i.toNat < l.length then some (.one .any,[(id,some (.map kt et ag n (mSet l i.toNat c)))]) else none
 | _,_,_ => none

noncomputable def astep (P : Program) (Z : List (Fact P)) (ev : Operand → AV) (m : Nm → Option AObj) (fr : Nat) (o : Oper) : Res :=
 match o.op with
 | .move x => some (ev x,[])
 | .assign x => some (ev x,[])
 | .pick c x y => match ev c with
  | .one (.d (.bool b)) => some (if b then ev x else ev y,[])
  | _ => none
 | .alloc t => match tZero P t with
  | some zs => if zs.all zok = true then some (.one (.ptr (fr,0) 0),[((fr,0),some (.box t (zs.map ofVal)))]) else none
  | none => none
 | .box t x => if (ev x).okCells = true then some (.one (.ptr (fr,0) 0),[((fr,0),some (.box t (ev x).cells))]) else none
 | .build t ps => match tBuilt P t with
  | some (pl,zs) => if zs.all zok = true then (afill (pl[·]?) (zs.map ofVal) (partsAV ev ps)).map fun l => (.agg l,[]) else none
  | none => none
 | .buildSlice t n ps => stBuildSlice P (fr,0) t n (partsAV ev ps)
 | .load t x => stLoad P m t (ev x)
 | .store t x y => stStore P m t (ev x) (ev y)
 | .fieldAddr s x i => match ev x,tFld P s i with
  | .one c,some off => (fwd c off).map fun c' => (.one c',[])
  | _,_ => none
 | .indexAddr t x y => stIndexAddr P t (ev x) (ev y)
 | .binOp op t x y _ => stBin P op t (ev x) (ev y)
 | .unOp op _ x => stUn op (ev x)
 | .convert s t x => stConv P s t (ev x)
 | .extract x i => stExtract (ev x) i
 | .makeSlice t x y => stMake P (fr,0) t (ev x) (ev y)
 | .slice t x lo hi none => stSlice P m t (ev x) (boundOf ev lo) (boundOf ev hi)
 | .slice t x (some y) (some z) (some u) => stSlice3 P m t (ev x) (ev y) (ev z) (ev u)
 | .field s x i => stField P s i (ev x)
 | .makeFunc (.func g) first caps => (funcOf g (first.toList.map ev) (caps.toList.map ev)).map fun c => (.one c,[])
 | .call c => match c.callee with
  | .builtin .len => match c.args.toList,c.argTypes.toList with
   | [x],[t] => stLen P t (ev x)
   | _,_ => none
  | .builtin .cap => match c.args.toList,c.argTypes.toList with
   | [x],[t] => stCap P t (ev x)
   | _,_ => none
  | .builtin .append => match c.args.toList,c.argTypes.toList with
   | [s,x],[t,t'] => if t = t' then stAppend P m (fr,0) t (ev s) (ev x) else stAppendZ P (fr,0) t t' (ev s) (ev x)
   | _,_ => none
  | .builtin .copy => match c.args.toList,c.argTypes.toList with
   | [s,x],[t,_] => stCopy P m t (ev s) (ev x)
   | _,_ => none
  | .builtin .clear => match c.args.toList,c.argTypes.toList with
   | [s],[t] => stClear P m t (ev s)
   | _,_ => none
  | .builtin .min => stMinMax false (c.args.toList.map ev)
  | .builtin .max => stMinMax true (c.args.toList.map ev)
  | .builtin _ => none
  | .invoke _ _ => none
  | .value x => match calleeOf ev (.value x) with
   | some (g,pre,post) => stCall Z m fr g (pre ++ c.args.toList.map ev ++ post)
   | none => none
 | .makeMap t r => stMakeMap P (fr,0) t (r.map ev)
 | .lookup t x y ok => stLookup P m t (ev x) (ev y) ok
 | .mapUpdate t x y z => stMapPut P m t (ev x) (ev y) (ev z)
 | .insert t x y z => stMapPut P m t (ev x) (ev y) (ev z)
 | .mapEntry t x y => stMapEntry P m t (ev x) (ev y)
 | .entryStore _ x y z => stEntryStore m (ev x) (ev y) (ev z)
 | _ => none

section
variable {P : Program} {Z : List (Fact P)} {w0 : Bas} {N : Nat} {ρ : Place} {φ : Foot} {f : Nat → AV} {m : Nm → Option AObj} {a : Act} {w : World} {o : Oper} {fr : Nat} {v : AV} {U : List Upd}

theorem pick_ok {m : Nm → Option AObj} {fr : Nat} {g : FuncId} {xs : List AV} {z : Fact P} : ∀ {Z : List (Fact P)},pick m fr g xs Z = some z → z.g = g ∧ z.fits m fr xs
 | [],h => by cases h
 | y :: Z,h => by
  simp only [pick] at h
  split at h
  ·
   injection h with h
   subst h
   assumption
  · exact pick_ok h
theorem mapO_map {α β γ : Type} (g : β → Option γ) (k : α → β) : ∀ (l : List α),mapO g (l.map k) = mapO (fun x => g (k x)) l
 | [] => rfl
 | x :: l => by simp only [List.map_cons,mapO,mapO_map g k l]
theorem mapAt_ok {m : Nm → Option AObj} {x : AV} {id : Nm} {kt et : TypeId} {ag : Bool} {n : Nat} {l : List (List Int × C)} (h : mapAt m x = some (id,kt,et,ag,n,l)) : x = .one (.mp id) ∧ m id = some (.map kt et ag n l) := by
 unfold mapAt at h
 split at h
 ·
  split at h
  ·
   rename_i hm
   simp only [Option.some.injEq,Prod.mk.injEq] at h
   obtain ⟨rfl,rfl,rfl,rfl,rfl,rfl⟩ := h
   exact ⟨rfl,hm⟩
  · cases h
 · cases h
theorem foundC_eq (z : Value) (c : Option C) : foundC z c = (match c with | some c => .d c | none => ofVal z) := by
 cases c <;> rfl
theorem mapPut_ok (h : StR w0 N ρ φ f m a w) {t : TypeId} {x y z : Operand} (ho : o.op = .mapUpdate t x y z ∨ o.op = .insert t x y z) (hs : stMapPut P m t (aeval N f x) (aeval N f y) (aeval N f z) = some (v,U)) : Does P w0 N f m o a w v U := by
 unfold stMapPut at hs
 split at hs
 ·
  rename_i kt et ag n id kt' et' ag' n' l ht hm
  split at hs
  ·
   rename_i hc
   obtain ⟨e1,e2,e3,e4⟩ := hc
   subst e1 e2 e3 e4
   obtain ⟨hx,hm⟩ := mapAt_ok hm
   split at hs
   ·
    rename_i k c hy hz
    injection hs with hs; injection hs with e1 e2; subst e1 e2
    exact so_mapUpdate h x y z id l k c ho ht hx hm hy hz
   · cases hs
  · cases hs
 · cases hs
theorem astep_ok (h : StR w0 N ρ φ f m a w) (hfr : ∀ k,Fresh f m (fr,k)) (hs : astep P Z (aeval N f) m fr o = some (v,U)) : Does P w0 N f m o a w v U := by
  unfold astep at hs
  split at hs
  · rename_i x ho; injection hs with hs; injection hs with e1 e2; subst e1 e2; exact so_move h x (.inl ho)
  · rename_i x ho; injection hs with hs; injection hs with e1 e2; subst e1 e2; exact so_move h x (.inr ho)
  · rename_i c x y ho
    split at hs
    · rename_i b hc; injection hs with hs; injection hs with e1 e2; subst e1 e2; exact so_pick h c x y b ho hc
    · cases hs
  · rename_i t ho
    split at hs
    · rename_i zs hz
      split at hs
      · rename_i hk; injection hs with hs; injection hs with e1 e2; subst e1 e2; exact so_alloc h t (fr,0) zs ho hz hk (hfr 0)
      · cases hs
    · cases hs
  · rename_i t x ho
    split at hs
    · rename_i hk; injection hs with hs; injection hs with e1 e2; subst e1 e2; exact so_box h t x (fr,0) _ ho rfl hk (hfr 0)
    · cases hs
  · rename_i t ps ho
    split at hs
    · rename_i pl zs hb
      split at hs
      · rename_i hk
        simp only [Option.map_eq_some_iff] at hs
        obtain ⟨l,hl,hs⟩ := hs
        injection hs with e1 e2; subst e1 e2
        exact so_build h t ps pl zs l ho hb hk hl
      · cases hs
    · cases hs
  · rename_i t n ps ho
    unfold stBuildSlice at hs
    split at hs
    · rename_i e sz by_ ht
      split at hs
      · rename_i zs hz
        split at hs
        · rename_i hc
          obtain ⟨h1,h2,h3,h4⟩ := hc
          split at hs
          · rename_i l hl
            split at hs
            · rename_i hlen
              injection hs with hs; injection hs with e1 e2; subst e1 e2
              exact so_buildSlice h t n (fr,0) e sz by_ ps zs l ho ht hz h1 h2 h3 h4 hl (hfr 0) hlen
            · cases hs
          · cases hs
        · cases hs
      · cases hs
    · cases hs
  · rename_i t x ho
    unfold stLoad at hs
    split at hs
    · rename_i c hx
      split at hs
      · rename_i n ht
        simp only [Option.map_eq_some_iff] at hs
        obtain ⟨l,hl,hs⟩ := hs
        injection hs with e1 e2; subst e1 e2
        exact so_loadRow h t x n c l ho hx ht hl
      · rename_i ht
        split at hs
        · rename_i c' hc
          injection hs with hs; injection hs with e1 e2; subst e1 e2
          exact so_loadOne h t x c c' ho hx ht hc
        · cases hs
      · cases hs
    · cases hs
  · rename_i t x y ho
    unfold stStore at hs
    split at hs
    · rename_i id off hx
      split at hs
      · rename_i ty l n hm hn
        split at hs
        · rename_i hc
          obtain ⟨h1,h2,h3⟩ := hc
          injection hs with hs; injection hs with e1 e2; subst e1 e2
          exact so_storeBox h t x y id off n ty l _ ho hx rfl hn hm h1 h2 h3
        · cases hs
      · cases hs
    · rename_i id sz i j hx
      split at hs
      · rename_i ty sz' l n hm hn
        split at hs
        · rename_i r hr
          split at hs
          · rename_i hc
            obtain ⟨h0,h1,h2,h3⟩ := hc
            subst h0
            injection hs with hs; injection hs with e1 e2; subst e1 e2
            exact so_storeRow h t x y id _ i j n ty l r _ ho hx rfl hn hm h1 h2 hr h3
          · cases hs
        · cases hs
      · cases hs
    · cases hs
  · rename_i s x i ho
    split at hs
    · rename_i c off hx ht
      simp only [Option.map_eq_some_iff] at hs
      obtain ⟨c',hc,hs⟩ := hs
      injection hs with e1 e2; subst e1 e2
      exact so_fieldAddr h s x i off c c' ho hx ht hc
    · cases hs
  · rename_i t x y ho
    unfold stIndexAddr at hs
    split at hs
    · rename_i c k i hx hy
      split at hs
      · rename_i e sz by_ ht
        simp only [Option.map_eq_some_iff] at hs
        obtain ⟨c',hc,hs⟩ := hs
        injection hs with e1 e2; subst e1 e2
        exact so_indexAddr h t x y k i e sz by_ c c' ho hx hy ht hc
      · split at hs
        · rename_i n sz ht
          split at hs
          · rename_i hi
            simp only [Option.map_eq_some_iff] at hs
            obtain ⟨c',hc,hs⟩ := hs
            injection hs with e1 e2; subst e1 e2
            exact so_indexArr h t x y k i n sz c c' ho hx hy ht hi.1 hi.2 hc
          · cases hs
        · cases hs
    · cases hs
  · rename_i op t x y yt ho
    unfold stBin at hs
    split at hs
    · rename_i k p k' q hx hy
      split at hs
      · rename_i hk
        subst hk
        simp only [Option.map_eq_some_iff] at hs
        obtain ⟨c,hc,hs⟩ := hs
        injection hs with e1 e2; subst e1 e2
        exact so_arith h op t yt x y k p q c ho hx hy hc
      · cases hs
    · rename_i p q hx hy
      split at hs
      · rename_i hb
        simp only [Option.map_eq_some_iff] at hs
        obtain ⟨c,hc,hs⟩ := hs
        injection hs with e1 e2; subst e1 e2
        have hu : P.underlying t = some .bool := by
          unfold isBoolT at hb
          split at hb
          · assumption
          · cases hb
        exact so_boolOp h op t yt x y p q c hu ho hx hy hc
      · cases hs
    · rename_i c hx hy
      split at hs
      · rename_i ht
        simp only [Option.map_eq_some_iff] at hs
        obtain ⟨c',hc,hs⟩ := hs
        injection hs with e1 e2; subst e1 e2
        exact so_nil h op t yt x y c c' ho ht hx hy hc
      · cases hs
    · rename_i l l' hx hy
      split at hs
      · rename_i n ns ms h1 h2 h3
        split at hs
        · rename_i hc
          simp only [Option.map_eq_some_iff] at hs
          obtain ⟨c,hcc,hs⟩ := hs
          injection hs with e1 e2; subst e1 e2
          exact so_eqAgg h op t yt x y l l' n ns ms c ho h1 hx hy h2 h3 hc.1 hc.2.1 hc.2.2 hcc
        · cases hs
      · cases hs
    · cases hs
  · rename_i op t x ho
    unfold stUn at hs
    split at hs
    · rename_i p hx; injection hs with hs; injection hs with e1 e2; subst e1 e2; exact so_not h x t p ho hx
    · rename_i k p hx; injection hs with hs; injection hs with e1 e2; subst e1 e2; exact so_neg h x t k p ho hx
    · cases hs
  · rename_i s t x ho
    unfold stConv at hs
    split at hs
    · rename_i k p hx
      split at hs
      · rename_i k1 k' h1 h2
        split at hs
        · rename_i e; subst e; injection hs with hs; injection hs with e1 e2; subst e1 e2; exact so_convert h x s t k1 k' p h1 h2 ho hx
        · cases hs
      · cases hs
    · cases hs
  · rename_i x i ho
    unfold stExtract at hs
    split at hs
    · rename_i l hx
      simp only [Option.map_eq_some_iff] at hs
      obtain ⟨y,hy,hs⟩ := hs
      injection hs with e1 e2; subst e1 e2
      have := so_extract (P := P) h x i l y ho hx hy
      cases y <;> exact this
    · cases hs
  · rename_i t x y ho
    unfold stMake at hs
    split at hs
    · rename_i k p k' q hx hy
      split at hs
      · rename_i e sz by_ ht
        split at hs
        · rename_i zs hz
          split at hs
          · rename_i hc
            obtain ⟨h0,rfl,h1,h2,h3,h4⟩ := hc
            injection hs with hs; injection hs with e1 e2; subst e1 e2
            have ep : ((p.toNat : Nat) : Int) = p := Int.toNat_of_nonneg h0
            exact so_makeSlice h t (fr,0) e sz by_ x y k k' p.toNat zs ho ht hz h1 (by rw [ep]; exact hx) (by rw [ep]; exact hy) h2 h3 h4 (hfr 0)
          · cases hs
        · cases hs
      · cases hs
    · cases hs
  · rename_i t x lo hi ho
    unfold stSlice at hs
    split at hs
    · rename_i c e sz by_ l u hx ht hlo hhi
      simp only [Option.map_eq_some_iff] at hs
      obtain ⟨c',hc,hs⟩ := hs
      injection hs with e1 e2; subst e1 e2
      refine so_slice h t x lo hi e sz by_ c c' (l.getD 0) u ho ht hx ?_ ?_ hc
      · cases lo with
        | none => simp only [boundOf,Option.some.injEq] at hlo; subst hlo; rfl
        | some y =>
          simp only [boundOf] at hlo
          split at hlo
          · rename_i k n hy; injection hlo with hlo; subst hlo; exact ⟨k,hy⟩
          · cases hlo
      · cases hi with
        | none => simp only [boundOf,Option.some.injEq] at hhi; exact hhi.symm
        | some y =>
          simp only [boundOf] at hhi
          split at hhi
          · rename_i k n hy; injection hhi with hhi; exact ⟨k,n,hy,hhi.symm⟩
          · cases hhi
    · cases hs
  · rename_i t x y z u ho
    unfold stSlice3 at hs
    split at hs
    · rename_i c q k1 n1 k2 n2 k3 n3 hx ht hy hz hu
      obtain ⟨e,sz,by_⟩ := q
      split at hs
      · rename_i l hl
        split at hs
        · rename_i hc
          injection hs with hs; injection hs with e1 e2; subst e1 e2
          exact so_slice3 h t x y z u e sz by_ c l k1 k2 k3 n1 n2 n3 ho ht hx hy hz hu hl hc.1 hc.2.1 hc.2.2.1 hc.2.2.2
        · cases hs
      · cases hs
    · cases hs
  · rename_i s x i ho
    unfold stField at hs
    split at hs
    · rename_i l off sh hx ht
      simp only [Option.map_eq_some_iff] at hs
      obtain ⟨y,hy,hs⟩ := hs
      injection hs with e1 e2; subst e1 e2
      exact so_field h s x i off sh l y ho hx ht hy
    · cases hs
  · rename_i g first caps ho
    simp only [Option.map_eq_some_iff] at hs
    obtain ⟨c,hc,hs⟩ := hs
    injection hs with e1 e2; subst e1 e2
    exact so_makeFunc h g first caps c ho hc
  · rename_i c ho
    split at hs
    · rename_i hc
      split at hs
      · rename_i x t h1 h2
        unfold stLen at hs
        split at hs
        · rename_i cc hx
          split at hs
          · rename_i ht
            simp only [Option.map_eq_some_iff] at hs
            obtain ⟨n,hn,hs⟩ := hs
            injection hs with e1 e2; subst e1 e2
            obtain ⟨callee,args,ats⟩ := c
            simp only at hc h1 h2
            subst hc
            have e3 : args = #[x] := Array.ext' h1
            have e4 : ats = #[t] := Array.ext' h2
            subst e3 e4
            exact so_len h x t cc n #[t] ho rfl ht hx hn
          · cases hs
        · cases hs
      · cases hs
    · rename_i hc
      split at hs
      · rename_i x t h1 h2
        unfold stCap at hs
        split at hs
        · rename_i hx
          split at hs
          · rename_i ht
            injection hs with hs; injection hs with e1 e2; subst e1 e2
            obtain ⟨callee,args,ats⟩ := c
            simp only at hc h1 h2
            subst hc
            have e3 : args = #[x] := Array.ext' h1
            have e4 : ats = #[t] := Array.ext' h2
            subst e3 e4
            exact so_capnil h x t #[t] ho rfl ht hx
          · cases hs
        · cases hs
      · cases hs
    · rename_i hc
      split at hs
      · rename_i s x t t' h1 h2
        split at hs
        · rename_i e0
          subst e0
          unfold stAppend at hs
          split at hs
          · rename_i hsub
            unfold stAppendIn at hs
            split at hs
            · rename_i id n cx hs' hx
              split at hs
              · rename_i e sz by_ e' sz' l0 l' ht hrow hsrc
                split at hs
                · rename_i zs hz
                  split at hs
                  · rename_i hcnd
                    obtain ⟨rfl,rfl,h3,h4,h5,h6,h7⟩ := hcnd
                    injection hs with hs; injection hs with e1 e2; subst e1 e2
                    obtain ⟨callee,args,ats⟩ := c
                    simp only at hc h1 h2
                    subst hc
                    have e3 : args = #[s,x] := Array.ext' h1
                    have e4 : ats = #[t,t] := Array.ext' h2
                    subst e3 e4
                    have hm : m id = some (.row e' sz' l0) := by
                      unfold rowAt at hrow
                      split at hrow
                      · rename_i hm; injection hrow with hrow; injection hrow with e5 e6; injection e6 with e6 e7; subst e5 e6 e7; exact hm
                      · cases hrow
                    exact so_appendIn h s x t e' sz' by_ id n cx l0 l' ho ht ⟨zs,hz,h3⟩ h4 hs' hx hm hsrc h5 h6 h7
                  · cases hs
                · cases hs
              · cases hs
            · cases hs
          · unfold stAppend0 at hs
            split at hs
            · rename_i cs cx hs' hx
              split at hs
              · rename_i e sz by_ ht
                split at hs
                · rename_i zs l l' hz hd hsrc
                  split at hs
                  · rename_i hcnd
                    obtain ⟨h3,h4,h5,h6,h7⟩ := hcnd
                    injection hs with hs; injection hs with e1 e2; subst e1 e2
                    obtain ⟨callee,args,ats⟩ := c
                    simp only at hc h1 h2
                    subst hc
                    have e3 : args = #[s,x] := Array.ext' h1
                    have e4 : ats = #[t,t] := Array.ext' h2
                    subst e3 e4
                    refine so_append h s x t (fr,0) e sz by_ cs cx l l' ho ht ⟨zs,hz,h3⟩ h4 hs' hx hd (fun id hid => ?_) hsrc h6 h7 (hfr 0)
                    have := List.all_eq_true.1 h5 id hid
                    unfold isRow at this
                    split at this
                    · rename_i ty sz' l0 hm
                      rw [Bool.and_eq_true] at this
                      exact ⟨l0,by rw [hm,Nat.eq_of_beq_eq_true this.1,Nat.eq_of_beq_eq_true this.2]⟩
                    · cases this
                  · cases hs
                · cases hs
              · cases hs
            · cases hs
        · unfold stAppendZ at hs
          split at hs
          · rename_i k p hs' hx
            split at hs
            · rename_i e sz by_ kn ht htn
              split at hs
              · rename_i zs hz
                split at hs
                · rename_i hcnd
                  obtain ⟨h3,h4,h5,h6,h7,h8⟩ := hcnd
                  injection hs with hs; injection hs with e1 e2; subst e1 e2
                  obtain ⟨callee,args,ats⟩ := c
                  simp only at hc h1 h2
                  subst hc
                  have e3 : args = #[s,x] := Array.ext' h1
                  have e4 : ats = #[t,t'] := Array.ext' h2
                  subst e3 e4
                  have ep : ((p.toNat : Nat) : Int) = p := Int.toNat_of_nonneg (by omega)
                  exact so_appendZ h s x t t' (fr,0) e sz by_ k kn p.toNat zs ho ht htn hz h5 hs' (by rw [ep]; exact hx) h6 (by omega) h4 h7 h8 (hfr 0)
                · cases hs
              · cases hs
            · cases hs
          · cases hs
      · cases hs
    · rename_i hc
      split at hs
      · rename_i s x t t' h1 h2
        unfold stCopy at hs
        split at hs
        · rename_i cs cx hs' hx
          split at hs
          · rename_i e sz by_ id off l l' ht hat hd hsrc
            split at hs
            · rename_i e' sz' l0 hrow
              split at hs
              · rename_i hcnd
                obtain ⟨rfl,rfl,h3,h4⟩ := hcnd
                injection hs with hs; injection hs with e1 e2; subst e1 e2
                obtain ⟨callee,args,ats⟩ := c
                simp only at hc h1 h2
                subst hc
                have e3 : args = #[s,x] := Array.ext' h1
                have e4 : ats = #[t,t'] := Array.ext' h2
                subst e3 e4
                have hm : m id = some (.row e' sz' l0) := by
                  unfold rowAt at hrow
                  split at hrow
                  · rename_i hm; injection hrow with hrow; injection hrow with e5 e6; injection e6 with e6 e7; subst e5 e6 e7; exact hm
                  · cases hrow
                exact so_copy h s x t t' e' sz' by_ cs cx id off l0 l l' ho ht hs' hx hd hat hm (fun i s o n e9 => by subst e9; simpa [subSz] using h3) hsrc h4
              · cases hs
            · cases hs
          · cases hs
        · cases hs
      · cases hs
    · rename_i hc
      split at hs
      · rename_i s t h1 h2
        unfold stClear at hs
        split at hs
        · rename_i cs hs'
          split at hs
          · rename_i e sz by_ id off l ht hat hd
            split at hs
            · rename_i e' sz' l0 zs hrow hz
              split at hs
              · rename_i hcnd
                obtain ⟨rfl,rfl,h3,h4,h5⟩ := hcnd
                injection hs with hs; injection hs with e1 e2; subst e1 e2
                obtain ⟨callee,args,ats⟩ := c
                simp only at hc h1 h2
                subst hc
                have e3 : args = #[s] := Array.ext' h1
                have e4 : ats = #[t] := Array.ext' h2
                subst e3 e4
                have hm : m id = some (.row e' sz' l0) := by
                  unfold rowAt at hrow
                  split at hrow
                  · rename_i hm; injection hrow with hrow; injection hrow with e5 e6; injection e6 with e6 e7; subst e5 e6 e7; exact hm
                  · cases hrow
                exact so_clear h s t e' sz' by_ cs id off l0 l zs ho ht hz h4 h5 hs' hd hat hm (fun i s o n e9 => by subst e9; simpa [subSz] using h3)
              · cases hs
            · cases hs
          · cases hs
        · cases hs
      · cases hs
    all_goals first
      | (rename_i hc
         unfold stMinMax at hs
         split at hs
         · rename_i k n r hx
           simp only [Option.map_eq_some_iff] at hs
           obtain ⟨ns,hns,hs⟩ := hs
           injection hs with e1 e2; subst e1 e2
           cases hargs : c.args.toList with
           | nil => rw [hargs] at hx; cases hx
           | cons x xs =>
             rw [hargs] at hx
             injection hx with hx1 hx2
             subst hx2
             rw [mapO_map] at hns
             first
               | exact so_minmax h c false k x xs n ns ho hc hargs hx1 hns
               | exact so_minmax h c true k x xs n ns ho hc hargs hx1 hns
         · cases hs)
      | (cases hs; done)
      | skip
    rename_i x hc
    split at hs
    · rename_i g pre post hcal
      unfold stCall at hs
      simp only [Option.map_eq_some_iff] at hs
      obtain ⟨z,hz,hs⟩ := hs
      injection hs with e1 e2; subst e1 e2
      obtain ⟨hg,hfit⟩ := pick_ok hz
      subst hg
      exact so_call h c z fr pre post ho (by rw [hc]; exact hcal) hfit hfr
    · cases hs
  · rename_i t r ho
    unfold stMakeMap at hs
    split at hs
    · rename_i kt et ag n ht
      split at hs
      · rename_i hh
        injection hs with hs; injection hs with e1 e2; subst e1 e2
        refine so_makeMap h r (fr,0) ho ht (fun x hx => ?_) (hfr 0)
        subst hx
        simp only [Option.map_some] at hh
        unfold hintOk at hh
        split at hh
        · rename_i h9; cases h9
        · rename_i k c h9; injection h9 with h9; exact ⟨k,c,h9⟩
        · cases hh
      · cases hs
    · cases hs
  · rename_i t x y ok ho
    unfold stLookup at hs
    split at hs
    · rename_i kt et ag n id kt' et' ag' n' l ht hm
      split at hs
      · rename_i hc
        obtain ⟨e1,e2,e3,e4⟩ := hc
        subst e1 e2 e3 e4
        obtain ⟨hx,hm⟩ := mapAt_ok hm
        split at hs
        · rename_i k z hy hz
          injection hs with hs; injection hs with e1 e2; subst e1 e2
          have := so_lookup h x y ok id l k z ho ht hx hm hy hz
          rw [foundC_eq]
          exact this
        · cases hs
      · cases hs
    · cases hs
  · rename_i t x y z ho
    exact mapPut_ok h (.inl ho) hs
  · rename_i t x y z ho
    exact mapPut_ok h (.inr ho) hs
  · rename_i t x y ho
    unfold stMapEntry at hs
    split at hs
    · rename_i kt et ag n id kt' et' ag' n' l ht hm
      split at hs
      · rename_i hc
        obtain ⟨e1,e2,e3,e4⟩ := hc
        subst e1 e2 e3 e4
        obtain ⟨hx,hm⟩ := mapAt_ok hm
        split at hs
        · rename_i k c0 hy hz
          injection hs with hs; injection hs with e1 e2; subst e1 e2
          obtain ⟨z,hz1,hz2⟩ := Option.bind_eq_some_iff.1 hz
          have hz3 : ofVal z = .d c0 := by
            unfold zeroC at hz2
            split at hz2
            · rename_i c h9; injection hz2 with hz2; rw [← hz2]; exact h9
            · cases hz2
          exact so_mapEntry h x y id l k z c0 ho ht hx hm hy hz1 hz3
        · cases hs
      · cases hs
    · cases hs
  · rename_i t x y z ho
    unfold stEntryStore at hs
    split at hs
    · rename_i id kt et ag n l i c hm hy hz
      obtain ⟨hx,hm⟩ := mapAt_ok hm
      split at hs
      · rename_i hi
        injection hs with hs; injection hs with e1 e2; subst e1 e2
        exact so_entryStore h x y z id l i.toNat c ho hx hm (by rw [hy]; congr 3; omega) hi.2 hz
      · cases hs
    · cases hs
  · cases hs
end
section
variable {P : Program} {Z : List (Fact P)} {m m' : Nm → Option AObj} {ev ev' : Operand → AV}

theorem mapO_congr {α β : Type} {g g' : α → Option β} : ∀ {l : List α},(∀ x ∈ l,g' x = g x) → mapO g' l = mapO g l
 | [],_ => rfl
 | x :: l,h => by
  simp only [mapO]
  rw [h x (by simp),mapO_congr fun y hy => h y (by simp [hy])]
theorem flatMap_congr' {α β : Type} {g g' : α → List β} : ∀ {l : List α},(∀ x ∈ l,g' x = g x) → l.flatMap g' = l.flatMap g
 | [],_ => rfl
 | x :: l,h => by
  simp only [List.flatMap_cons]
  rw [h x (by simp),flatMap_congr' fun y hy => h y (by simp [hy])]
theorem rowsOf_congr {c : Cell} (h : ∀ id ∈ c.ids,m' id = m id) : rowsOf m' c = rowsOf m c := by
 cases c with
 | own id n => simp only [rowsOf,h id (by simp [Cell.ids])]
 | sub id sz off n => simp only [rowsOf,h id (by simp [Cell.ids])]
 | _ => rfl
theorem rowsOf_mem {c : Cell} {l : List (List Cell)} (h : rowsOf m c = some l) : ∀ r ∈ l,∀ d ∈ r,∃ id ∈ c.ids,∃ ty sz l0,m id = some (.row ty sz l0) ∧ r ∈ l0 := by
 intro r hr d hd
 cases c with
 | nil => simp only [rowsOf,Option.some.injEq] at h; subst h; cases hr
 | own i n =>
  simp only [rowsOf] at h
  split at h
  ·
   rename_i ty sz l0 hm
   refine ⟨i,by simp [Cell.ids],ty,sz,l0,hm,?_⟩
   split at h
   · injection h with h; subst h; exact hr
   ·
    split at h
    · injection h with h; subst h; exact List.mem_of_mem_take hr
    · cases h
  · cases h
 | sub i sz off n =>
  simp only [rowsOf] at h
  split at h
  ·
   rename_i ty sz' l0 hm
   refine ⟨i,by simp [Cell.ids],ty,sz',l0,hm,?_⟩
   split at h
   · injection h with h; subst h; exact List.mem_of_mem_drop (List.mem_of_mem_take hr)
   · cases h
  · cases h
 | _ => cases h
theorem reach_congr : ∀ {k : Nat} {c : Cell},(∀ id ∈ reach m k c,m' id = m id) → reach m' k c = reach m k c ∧ frz m' k c = frz m k c := by
 intro k
 induction k with
 | zero => intro c _; exact ⟨rfl,by cases c <;> rfl⟩
 | succ k ih =>
  intro c h
  have hids : ∀ id ∈ c.ids,m' id = m id := fun id hid => h id (reach_sub hid)
  have hrow : ∀ id ∈ c.ids,∀ ty sz l,m id = some (.row ty sz l) → ∀ r ∈ l,∀ d ∈ r,reach m' k d = reach m k d ∧ frz m' k d = frz m k d := fun id hid ty sz l hm r hr d hd => ih fun i hi => h i (reach_row hid hm hr hd hi)
  have hbox : ∀ id ∈ c.ids,∀ ty l,m id = some (.box ty l) → ∀ d ∈ l,reach m' k d = reach m k d ∧ frz m' k d = frz m k d := fun id hid ty l hm d hd => ih fun i hi => h i (reach_box hid hm hd hi)
  refine ⟨?_,?_⟩
  ·
   simp only [reach]
   congr 1
   refine flatMap_congr' fun id hid => ?_
   rw [hids id hid]
   cases hm : m id with
   | none => rfl
   | some o =>
    cases o with
    | box ty l => exact flatMap_congr' fun d hd => (hbox id hid ty l hm d hd).1
    | row ty sz l => exact flatMap_congr' fun r hr => flatMap_congr' fun d hd => (hrow id hid ty sz l hm r hr d hd).1
    | map kt et ag n l => rfl
  ·
   have hrows : ∀ l,rowsOf m c = some l → mapO (mapO (trOr (frz m' k))) l = mapO (mapO (trOr (frz m k))) l := fun l hl => mapO_congr fun r hr => mapO_congr fun d hd => by
    obtain ⟨id,hid,ty,sz,l0,hm,hr0⟩ := rowsOf_mem hl r hr d hd
    have := (hrow id hid ty sz l0 hm r hr0 d hd).2
    cases d <;> first | rfl | exact this
   have hptr : ∀ (id : Nm) (off : Nat),id ∈ c.ids → (match m' id with | some (.box _ l) => (mapO (frz m' k) (l.drop off)).map C.rop | _ => none) = (match m id with | some (.box _ l) => (mapO (frz m k) (l.drop off)).map C.rop | _ => none) := fun id off hid => by
    rw [hids id hid]
    cases hm : m id with
    | none => rfl
    | some o =>
     cases o with
     | box ty l =>
      simp only
      rw [mapO_congr fun d hd => (hbox id hid ty l hm d (List.mem_of_mem_drop hd)).2]
     | row ty sz l => rfl
     | map kt et ag n l => rfl
   cases c with
   | own id n =>
    simp only [frz,rowsOf_congr hids]
    cases hl : rowsOf m (.own id n) with
    | none => rfl
    | some l => simp only [hrows l hl]
   | sub id sz off n =>
    simp only [frz,rowsOf_congr hids]
    cases hl : rowsOf m (.sub id sz off n) with
    | none => rfl
    | some l => simp only [hrows l hl]
   | ptr id off =>
    simp only [frz]
    exact hptr id off (by simp [Cell.ids])
   | fnp g caps =>
    simp only [frz]
    congr 1
    exact mapO_congr fun p hp => hptr p.1 p.2 (by simp only [Cell.ids]; exact List.mem_map.2 ⟨p,hp,rfl⟩)
   | _ => rfl
theorem reachAV_congr {x : AV} (h : ∀ id ∈ reachAV m x,m' id = m id) : reachAV m' x = reachAV m x ∧ frzAV m' x = frzAV m x := by
 cases x with
 | one c =>
  have := reach_congr (m := m) (m' := m') (k := 5) (c := c) h
  exact ⟨this.1,by simp only [frzAV,this.2]⟩
 | agg l =>
  have key : ∀ c ∈ l,reach m' 5 c = reach m 5 c ∧ frz m' 5 c = frz m 5 c := fun c hc => reach_congr fun id hid => h id (List.mem_flatMap.2 ⟨c,hc,hid⟩)
  refine ⟨?_,?_⟩
  ·
   simp only [reachAV]
   exact flatMap_congr' fun c hc => (key c hc).1
  ·
   simp only [frzAV]
   rw [mapO_congr fun c hc => (key c hc).2]
 | tup l => exact ⟨rfl,rfl⟩
theorem frzAVs_congr : ∀ {l : List AV},(∀ x ∈ l,∀ id ∈ reachAV m x,m' id = m id) → frzAVs m' l = frzAVs m l
 | [],_ => rfl
 | x :: l,h => by
  simp only [frzAVs]
  rw [(reachAV_congr (h x (by simp))).2,frzAVs_congr fun y hy => h y (by simp [hy])]
theorem cellsAt_congr {c : Cell} {n : Nat} (h : ∀ id ∈ c.ids,m' id = m id) : cellsAt m' c n = cellsAt m c n := by
 cases c with
 | d c => cases c <;> rfl
 | ptr id off => simp only [cellsAt,h id (by simp [Cell.ids])]
 | eptr id sz i j => simp only [cellsAt,h id (by simp [Cell.ids])]
 | _ => rfl
theorem srcOf_congr {c : Cell} (h : ∀ id ∈ c.ids,m' id = m id) : srcOf m' c = srcOf m c := by
 cases c with
 | d c => cases c <;> simp only [srcOf,rowsOf_congr h]
 | _ => simp only [srcOf,rowsOf_congr h]
theorem partOf_congr {sz : Nat} {c : Cell} {lo : Int} {hi : Option Int} (h : ∀ id ∈ c.ids,m' id = m id) : partOf m' sz c lo hi = partOf m sz c lo hi := by
 cases c with
 | d c => cases c <;> rfl
 | own id n => simp only [partOf,rowsOf_congr h,beyond,h id (by simp [Cell.ids])]
 | sub id s off n => simp only [partOf,rowsOf_congr h]
 | _ => rfl
theorem dst_ids {c : Cell} {id : Nm} {off : Nat} (h : dstAt c = some (id,off)) : id ∈ c.ids := by
 cases c <;> simp [dstAt,Cell.ids] at h ⊢ <;> exact h.1.symm
theorem pick_congr {fr : Nat} {g : FuncId} {xs : List AV} (h : ∀ x ∈ xs,∀ id ∈ reachAV m x,m' id = m id) : ∀ {Z : List (Fact P)},pick m' fr g xs Z = pick m fr g xs Z
 | [] => rfl
 | z :: Z => by
  have hr : xs.flatMap (reachAV m') = xs.flatMap (reachAV m) := flatMap_congr' fun x hx => (reachAV_congr (h x hx)).1
  have hfit : z.fits m' fr xs ↔ z.fits m fr xs := by
   unfold Fact.fits
   rw [frzAVs_congr h,hr]
   refine and_congr Iff.rfl (and_congr Iff.rfl (and_congr ?_ Iff.rfl))
   refine forall_congr' fun p => forall_congr' fun hp => and_congr Iff.rfl ⟨fun h1 => ?_,fun h1 => ?_⟩
   all_goals
    obtain ⟨x,hx,hid⟩ := List.mem_flatMap.1 h1.2
    have e := h x hx p.1 hid
   · exact ⟨by rw [← e]; exact h1.1,h1.2⟩
   · exact ⟨by rw [e]; exact h1.1,h1.2⟩
  simp only [pick]
  rw [pick_congr h]
  by_cases hc : z.g = g ∧ z.fits m fr xs
  · rw [if_pos hc,if_pos ⟨hc.1,hfit.2 hc.2⟩]
  · rw [if_neg hc,if_neg fun h2 => hc ⟨h2.1,hfit.1 h2.2⟩]

def opN (m : Nm → Option AObj) (ev : Operand → AV) (o : Oper) : List Nm :=
 match o.op with
 | .load _ x => (ev x).ids
 | .store _ x _ => (ev x).ids
 | .slice _ x _ _ _ => (ev x).ids
 | .lookup _ x _ _ => (ev x).ids
 | .mapUpdate _ x _ _ => (ev x).ids
 | .insert _ x _ _ => (ev x).ids
 | .mapEntry _ x _ => (ev x).ids
 | .entryStore _ x _ _ => (ev x).ids
 | .call c => match c.callee with
  | .builtin .len => []
  | .builtin .min => []
  | .builtin .max => []
  | .builtin _ => c.args.toList.flatMap fun x => (ev x).ids
  | .value _ => c.operands.toList.flatMap fun x => (ev x).ids ++ reachAV m (ev x)
  | .invoke _ _ => []
 | _ => []

theorem calleeOf_congr {cal : Callee} (h : ∀ x,cal = .value x → ev' x = ev x) : calleeOf ev' cal = calleeOf ev cal := by
 cases cal with
 | value x =>
  have e := h x rfl
  cases x <;> simp only [calleeOf,e]
 | _ => rfl
theorem post_reach {cal : Callee} {g : FuncId} {pre post : List AV} (h : calleeOf ev cal = some (g,pre,post)) : ∀ y ∈ pre ++ post,∀ id ∈ reachAV m y,∃ x,cal = .value x ∧ id ∈ reachAV m (ev x) := by
 intro y hy id hid
 unfold calleeOf at h
 split at h
 · injection h with h; injection h with e1 e2; injection e2 with e2 e3; subst e2 e3; cases hy
 ·
  rename_i x _
  split at h
  ·
   injection h with h; injection h with e1 e2; injection e2 with e2 e3; subst e2 e3
   exfalso
   rcases List.mem_append.1 hy with hy | hy
   ·
    obtain ⟨z,_,rfl⟩ := List.mem_map.1 hy
    cases z with
    | inl l =>
     simp only [sumAV,reachAV] at hid
     obtain ⟨c,hc,hi⟩ := List.mem_flatMap.1 hid
     obtain ⟨c0,_,rfl⟩ := List.mem_map.1 hc
     simp [reach,Cell.ids] at hi
    | inr c => simp [sumAV,reachAV,reach,Cell.ids] at hid
   ·
    obtain ⟨z,_,rfl⟩ := List.mem_map.1 hy
    simp [reachAV,reach,Cell.ids] at hid
  ·
   rename_i g' caps he
   injection h with h; injection h with e1 e2; injection e2 with e2 e3; subst e2 e3
   refine ⟨x,rfl,?_⟩
   rw [he]
   simp only [List.nil_append] at hy
   obtain ⟨p,hp,rfl⟩ := List.mem_map.1 hy
   have hpm : p.1 ∈ (Cell.fnp g' caps).ids := by simp only [Cell.ids]; exact List.mem_map.2 ⟨p,hp,rfl⟩
   simp only [reachAV,reach,Cell.ids,List.flatMap_cons,List.flatMap_nil,List.append_nil,List.singleton_append,List.mem_cons] at hid ⊢
   rcases hid with rfl | hid
   · exact List.mem_append.2 (.inl (List.mem_map.2 ⟨p,hp,rfl⟩))
   · exact List.mem_append.2 (.inr (List.mem_flatMap.2 ⟨p.1,List.mem_map.2 ⟨p,hp,rfl⟩,hid⟩))
  · cases h
 · cases h

theorem mapAt_congr {x : AV} (h : ∀ id ∈ x.ids,m' id = m id) : mapAt m' x = mapAt m x := by
 unfold mapAt
 split
 ·
  rename_i id
  rw [h id (by simp [AV.ids,Cell.ids])]
 · rfl
theorem astep_congr (fr : Nat) (o : Oper) (hev : ∀ x ∈ o.op.operands,ev' x = ev x) (hm : ∀ id ∈ opN m ev o,m' id = m id) : astep P Z ev' m' fr o = astep P Z ev m fr o := by
 unfold astep
 cases hop : o.op <;> rw [hop] at hev <;> simp only [opN,hop] at hm <;> simp only [Op.operands] at hev ⊢
 case makeMap t r =>
  have e : r.map ev' = r.map ev := by
   cases r with
   | none => rfl
   | some x => simp only [Option.map_some]; rw [hev x (by simp)]
  rw [e]
 case lookup t x y ok => rw [hev x (by simp),hev y (by simp)]; unfold stLookup; rw [mapAt_congr hm]
 case mapUpdate t x y z => rw [hev x (by simp),hev y (by simp),hev z (by simp)]; unfold stMapPut; rw [mapAt_congr hm]
 case insert t x y z => rw [hev x (by simp),hev y (by simp),hev z (by simp)]; unfold stMapPut; rw [mapAt_congr hm]
 case mapEntry t x y => rw [hev x (by simp),hev y (by simp)]; unfold stMapEntry; rw [mapAt_congr hm]
 case entryStore t x y z => rw [hev x (by simp),hev y (by simp),hev z (by simp)]; unfold stEntryStore; rw [mapAt_congr hm]
 case move x => rw [hev x (by simp)]
 case assign x => rw [hev x (by simp)]
 case pick c x y => rw [hev c (by simp),hev x (by simp),hev y (by simp)]
 case box t x => rw [hev x (by simp)]
 case build t ps =>
  have e : partsAV ev' ps = partsAV ev ps := by
   unfold partsAV
   refine List.map_congr_left fun p hp => ?_
   rw [hev p.2 (by simp; exact ⟨p.1,by simpa using hp⟩)]
  rw [e]
 case buildSlice t n ps =>
  have e : partsAV ev' ps = partsAV ev ps := by
   unfold partsAV
   refine List.map_congr_left fun p hp => ?_
   rw [hev p.2 (by simp; exact ⟨p.1,by simpa using hp⟩)]
  rw [e]
 case load t x =>
  rw [hev x (by simp)]
  unfold stLoad
  split
  ·
   rename_i c hx
   have hc : ∀ id ∈ c.ids,m' id = m id := fun id hid => hm id (by rw [hx]; exact hid)
   simp only [cellsAt_congr hc]
  · rfl
 case store t x y =>
  rw [hev x (by simp),hev y (by simp)]
  unfold stStore
  split
  ·
   rename_i id off hx
   rw [hm id (by rw [hx]; simp [AV.ids,Cell.ids])]
  ·
   rename_i id sz i j hx
   rw [hm id (by rw [hx]; simp [AV.ids,Cell.ids])]
  · rfl
 case fieldAddr s x i => rw [hev x (by simp)]
 case indexAddr t x y => rw [hev x (by simp),hev y (by simp)]
 case binOp op t x y yt => rw [hev x (by simp),hev y (by simp)]
 case unOp op t x => rw [hev x (by simp)]
 case convert s t x => rw [hev x (by simp)]
 case extract x i => rw [hev x (by simp)]
 case makeSlice t x y => rw [hev x (by simp),hev y (by simp)]
 case field s x i => rw [hev x (by simp)]
 case makeFunc fn first caps =>
  cases fn with
  | func g =>
   have e1 : first.toList.map ev' = first.toList.map ev := List.map_congr_left fun x hx => hev x (by simp only [Array.mem_append]; exact .inl (by simpa using hx))
   have e2 : caps.toList.map ev' = caps.toList.map ev := List.map_congr_left fun x hx => hev x (by simp only [Array.mem_append]; exact .inr (by simpa using hx))
   simp only [e1,e2]
  | _ => rfl
 case slice t x lo hi mx =>
  cases mx with
  | some u =>
   cases lo with
   | none => rfl
   | some y =>
    cases hi with
    | none => rfl
    | some z =>
     simp only
     rw [hev x (by simp),hev y (by simp),hev z (by simp),hev u (by simp)]
     unfold stSlice3
     split
     ·
      rename_i c q k1 n1 k2 n2 k3 n3 hx _ _ _ _
      rw [rowsOf_congr fun id hid => hm id (by rw [hx]; exact hid)]
     · rfl
  | none =>
   have e1 : boundOf ev' lo = boundOf ev lo := by
    cases lo with
    | none => rfl
    | some y => simp only [boundOf]; rw [hev y (by simp)]
   have e2 : boundOf ev' hi = boundOf ev hi := by
    cases hi with
    | none => rfl
    | some y => simp only [boundOf]; rw [hev y (by simp)]
   simp only
   rw [hev x (by simp),e1,e2]
   unfold stSlice
   split
   ·
    rename_i c e sz by_ l h hx _ _ _
    rw [partOf_congr fun id hid => hm id (by rw [hx]; exact hid)]
   · rfl
 case call c =>
  have hargs : ∀ x ∈ c.args,ev' x = ev x := fun x hx => hev x (by simp only [Call.operands]; exact Array.mem_append.2 (.inr hx))
  have hids0 : (match c.callee with
    | .builtin .append => True
    | .builtin .copy => True
    | .builtin .clear => True
    | _ => False) → ∀ x ∈ c.args,∀ id ∈ (ev x).ids,m' id = m id := fun hcl x hx id hid => by
   have key : id ∈ c.args.toList.flatMap fun x => (ev x).ids := List.mem_flatMap.2 ⟨x,by simpa using hx,hid⟩
   split at hcl
   · rename_i hc; simp only [hc] at hm; exact hm id key
   · rename_i hc; simp only [hc] at hm; exact hm id key
   · rename_i hc; simp only [hc] at hm; exact hm id key
   · exact hcl.elim
  have emap : c.args.toList.map ev' = c.args.toList.map ev := List.map_congr_left fun x hx => hargs x (by simpa using hx)
  split
  ·
   split
   ·
    rename_i x t h1 h2
    have hx : x ∈ c.args := by rw [← Array.mem_toList_iff,h1]; simp
    rw [hargs x hx]
   · rfl
  ·
   split
   ·
    rename_i x t h1 h2
    have hx : x ∈ c.args := by rw [← Array.mem_toList_iff,h1]; simp
    rw [hargs x hx]
   · rfl
  ·
   rename_i hcal
   have hids := hids0 (by rw [hcal]; trivial)
   split
   ·
    rename_i s x t t' h1 h2
    have hs : s ∈ c.args := by rw [← Array.mem_toList_iff,h1]; simp
    have hx : x ∈ c.args := by rw [← Array.mem_toList_iff,h1]; simp
    rw [hargs x hx,hargs s hs]
    split
    ·
     unfold stAppend
     rw [show stAppendIn P m' t (ev s) (ev x) = stAppendIn P m t (ev s) (ev x) from by
      unfold stAppendIn
      split
      ·
       rename_i id n cx es ex
       rw [hids s hs id (by rw [es]; simp [AV.ids,Cell.ids]),srcOf_congr fun i hi => hids x hx i (by rw [ex]; exact hi)]
      · rfl]
     congr 1
     unfold stAppend0
     split
     ·
      rename_i cs cx es ex
      have h3 : ∀ id ∈ cs.ids,m' id = m id := fun id hid => hids s hs id (by rw [es]; exact hid)
      have h4 : ∀ id ∈ cx.ids,m' id = m id := fun id hid => hids x hx id (by rw [ex]; exact hid)
      have h5 : ∀ e sz,(cs.ids.all fun id => isRow e sz (m' id)) = (cs.ids.all fun id => isRow e sz (m id)) := fun e sz => by
       rw [Bool.eq_iff_iff,List.all_eq_true,List.all_eq_true]
       exact forall_congr' fun id => forall_congr' fun hid => by rw [h3 id hid]
      simp only [rowsOf_congr h3,srcOf_congr h4,h5]
     · rfl
    · rfl
   · rfl
  ·
   rename_i hcal
   have hids := hids0 (by rw [hcal]; trivial)
   split
   ·
    rename_i s x t t' h1 h2
    have hs : s ∈ c.args := by rw [← Array.mem_toList_iff,h1]; simp
    have hx : x ∈ c.args := by rw [← Array.mem_toList_iff,h1]; simp
    rw [hargs x hx,hargs s hs]
    unfold stCopy
    split
    ·
     rename_i cs cx es ex
     have h3 : ∀ id ∈ cs.ids,m' id = m id := fun id hid => hids s hs id (by rw [es]; exact hid)
     have h4 : ∀ id ∈ cx.ids,m' id = m id := fun id hid => hids x hx id (by rw [ex]; exact hid)
     rw [rowsOf_congr h3,srcOf_congr h4]
     split
     ·
      rename_i id off l l' _ hat _ _
      rw [h3 id (dst_ids hat)]
     · rfl
    · rfl
   · rfl
  ·
   rename_i hcal
   have hids := hids0 (by rw [hcal]; trivial)
   split
   ·
    rename_i s t h1 h2
    have hs : s ∈ c.args := by rw [← Array.mem_toList_iff,h1]; simp
    rw [hargs s hs]
    unfold stClear
    split
    ·
     rename_i cs es
     have h3 : ∀ id ∈ cs.ids,m' id = m id := fun id hid => hids s hs id (by rw [es]; exact hid)
     rw [rowsOf_congr h3]
     split
     ·
      rename_i id off l _ hat _
      rw [h3 id (dst_ids hat)]
     · rfl
    · rfl
   · rfl
  · rw [emap]
  · rw [emap]
  · rfl
  · rfl
  ·
   rename_i x hc
   simp only [hc] at hm
   have hr' : ∀ x ∈ c.operands,∀ id ∈ reachAV m (ev x),m' id = m id := fun x hx id hid => hm id (List.mem_flatMap.2 ⟨x,by simpa using hx,List.mem_append.2 (.inr hid)⟩)
   have hrs : ∀ x ∈ c.args,∀ id ∈ reachAV m (ev x),m' id = m id := fun x hx => hr' x (by simp only [Call.operands]; exact Array.mem_append.2 (.inr hx))
   have hx : x ∈ c.operands := by simp only [Call.operands,hc]; simp
   have hcal : calleeOf ev' (.value x) = calleeOf ev (.value x) := calleeOf_congr fun y hy => by injection hy with hy; subst hy; exact hev x hx
   rw [hcal]
   split
   ·
    rename_i g pre post hco
    rw [emap]
    unfold stCall
    have key : ∀ y ∈ pre ++ c.args.toList.map ev ++ post,∀ id ∈ reachAV m y,m' id = m id := fun y hy id hid => by
     rcases List.mem_append.1 hy with hy | hy
     ·
      rcases List.mem_append.1 hy with hy | hy
      ·
       obtain ⟨x',hx',hid'⟩ := post_reach hco y (List.mem_append.2 (.inl hy)) id hid
       injection hx' with hx'
       subst hx'
       exact hr' x hx id hid'
      ·
       obtain ⟨q,hq,rfl⟩ := List.mem_map.1 hy
       exact hrs q (by simpa using hq) id hid
     ·
      obtain ⟨x',hx',hid'⟩ := post_reach hco y (List.mem_append.2 (.inr hy)) id hid
      injection hx' with hx'
      subst hx'
      exact hr' x hx id hid'
    rw [pick_congr key]
    congr 1
    funext z
    have : (pre ++ c.args.toList.map ev ++ post).flatMap (reachAV m') = (pre ++ c.args.toList.map ev ++ post).flatMap (reachAV m) := flatMap_congr' fun y hy => (reachAV_congr (key y hy)).1
    simp only [Fact.ks,this]
   · rfl
end
end Go.Proofs.Ytabbejabdkkaiaa
