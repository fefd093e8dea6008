/- Functions as typed ones,and that the program's functions answer as these do. No condition. -/
import Derived.Test.YtifcbecpemaieaaGd
set_option linter.unusedSimpArgs false
set_option linter.unusedVariables false
set_option maxRecDepth 20000
set_option maxHeartbeats 4000000
namespace Go.Proofs.Ytifcbecpemaieaa
open Go.RowKit

def L_law05_PlainOwn_l2 (n20769 : Int) : Nat → Int → (List TConf) → Option (List TConf)
 | 0,_,_ => none
 | nf + 1,n21816,l21817 =>
  (at? l21817 n20769).bind fun x21825 =>
  if n21816 < (x21825.States.length : Int) then
   (some (l21817.set n20769.toNat x21825)).bind fun v21841 =>
   (at? v21841 n20769).bind fun x21843 =>
   (at? x21843.States n21816).bind fun x21845 =>
   L_law05_PlainOwn_l2 n20769 nf (IntKind.wrap .i64 (n21816 + 1)) (v21841.set n20769.toNat (TConf.mk (x21843.States.set n21816.toNat 99) x21843.Links x21843.Sent))
  else
   some (l21817.set n20769.toNat x21825)
def L_law05_PlainOwn_l3 (n20769 : Int) : Nat → Int → (List TConf) → Option (List TConf)
 | 0,_,_ => none
 | nf + 1,n22838,l22839 =>
  (at? l22839 n20769).bind fun x22847 =>
  if n22838 < (x22847.Sent.length : Int) then
   (some (l22839.set n20769.toNat x22847)).bind fun v22863 =>
   (at? v22863 n20769).bind fun x22865 =>
   (at? x22865.Sent n22838).bind fun x22867 =>
   L_law05_PlainOwn_l3 n20769 nf (IntKind.wrap .i64 (n22838 + 1)) (v22863.set n20769.toNat (TConf.mk x22865.States x22865.Links (x22865.Sent.set n22838.toNat 99)))
  else
   some (l22839.set n20769.toNat x22847)
def L_law05_PlainOwn_l5 (n20769 : Int) (n23783 : Int) : Nat → Int → (List TConf) → Option (List TConf)
 | 0,_,_ => none
 | nf + 1,n24105,l24106 =>
  (at? l24106 n20769).bind fun x24120 =>
  (at? x24120.Links n23783).bind fun x24122 =>
  if n24105 < (x24122.length : Int) then
   (some (l24106.set n20769.toNat (TConf.mk x24120.States (x24120.Links.set n23783.toNat x24122) x24120.Sent))).bind fun v24142 =>
   (at? v24142 n20769).bind fun x24144 =>
   (at? x24144.Links n23783).bind fun x24146 =>
   (at? x24146 n24105).bind fun x24148 =>
   L_law05_PlainOwn_l5 n20769 n23783 nf (IntKind.wrap .i64 (n24105 + 1)) (v24142.set n20769.toNat (TConf.mk x24144.States (x24144.Links.set n23783.toNat (x24146.set n24105.toNat (TMsg.mk 99 0))) x24144.Sent))
  else
   some (l24106.set n20769.toNat (TConf.mk x24120.States (x24120.Links.set n23783.toNat x24122) x24120.Sent))
def L_law05_PlainOwn_l4 (n20769 : Int) : Nat → Int → (List TConf) → Option (List TConf)
 | 0,_,_ => none
 | nf + 1,n23783,l23784 =>
  (at? l23784 n20769).bind fun x23792 =>
  if n23783 < (x23792.Links.length : Int) then
   ((L_law05_PlainOwn_l5 n20769 n23783 (((at? (l23784.set n20769.toNat x23792) n20769).elim 0 fun x24112 => ((at? x24112.Links n23783).elim 0 fun x24114 => ((x24114.length : Int) - 0).toNat)) + 1) 0 (l23784.set n20769.toNat x23792)).bind fun l24044 =>
   some l24044).bind fun l23955 =>
   L_law05_PlainOwn_l4 n20769 nf (IntKind.wrap .i64 (n23783 + 1)) l23955
  else
   some (l23784.set n20769.toNat x23792)
def L_law05_PlainOwn_l1 : Nat → Int → (List TConf) → Option Unit
 | 0,_,_ => none
 | nf + 1,n20769,l20770 =>
  if n20769 < 2 then
   ((L_law05_PlainOwn_l2 n20769 (((at? l20770 n20769).elim 0 fun x21821 => ((x21821.States.length : Int) - 0).toNat) + 1) 0 l20770).bind fun l21775 =>
   (L_law05_PlainOwn_l3 n20769 (((at? l21775 n20769).elim 0 fun x22843 => ((x22843.Sent.length : Int) - 0).toNat) + 1) 0 l21775).bind fun l22797 =>
   (L_law05_PlainOwn_l4 n20769 (((at? l22797 n20769).elim 0 fun x23788 => ((x23788.Links.length : Int) - 0).toNat) + 1) 0 l22797).bind fun l23416 =>
   some l23416).bind fun l21608 =>
   L_law05_PlainOwn_l1 nf (IntKind.wrap .i64 (n20769 + 1)) l21608
  else
   some ()
def L_law05_PlainOwn (a0 : TApp) (a1 : TConf) (a2 : TStep) : Option Bool :=
 (L_law05_Cut a0).bind fun r9568 =>
 (L_law05_CutConf a1).bind fun r9572 =>
 (L_law05_App r9568).bind fun r9580 =>
 (L_law05_Ref r9572).bind fun r9582 =>
 (L_ref05_Right r9580 r9582).bind fun r9584 =>
 if r9584 = true then
  (L_law05_CutConf r9572).bind fun r12836 =>
  (L_law05_Ref r12836).bind fun r12838 =>
  (L_plain_Apply r9568 r9572 a2).bind fun r12842 =>
  (L_plain_Run r9568 r9572 [a2]).bind fun r12846 =>
  (L_law05_PlainOwn_l1 (((2 : Int) - 0).toNat + 1) 0 ([r12842.1] ++ [r12846.1])).bind fun _ =>
  (L_ref05_Same r9582 r12838).bind fun r24155 =>
  if r24155 = true then
   (L_law05_fixed).bind fun r24158 =>
   some r24158
  else none
 else
  (L_plain_Right r9568 r9572).bind fun r24165 =>
  if r24165 = true then none
  else
   (L_law05_fixed).bind fun r24170 =>
   some r24170

end Go.Proofs.Ytifcbecpemaieaa
