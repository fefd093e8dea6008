/- Functions as typed ones,and that the program's functions answer as these do. No condition. -/
import Derived.Test.YtifcbecpemaieaaGd
set_option linter.unusedSimpArgs false
set_option linter.unusedVariables false
set_option maxRecDepth 20000
set_option maxHeartbeats 4000000
namespace Go.Proofs.Ytifcbecpemaieaa
open Go.RowKit

def L_law05_PlainDoes_l1 (a1 : (List TStep)) (r782 : TApp) (r786 : TApp) : Nat → Int → TConf → TConf → Option Unit
 | 0,_,_,_ => none
 | nf + 1,n1697,m1698,m1699 =>
  (if n1697 < (a1.length : Int) then
   some (decide (n1697 < 40))
  else
   some false).bind fun b1727 =>
  if b1727 = true then
   ((at? a1 n1697).bind fun x1815 =>
   (L_plain_Apply r782 m1698 x1815).bind fun r1817 =>
   (L_law05_Step x1815).bind fun r1823 =>
   (L_ref05_Apply r786 m1699 r1823).bind fun r1825 =>
   (L_law05_Ref r1817.1).bind fun r1843 =>
   (L_ref05_Same r1843 r1825.1).bind fun r1845 =>
   if r1845 = true then
    if r1817.2 = r1825.2 then
     (L_plain_Can r782 m1698).bind fun r1849 =>
     (L_law05_Steps r1849).bind fun r1851 =>
     (L_ref05_Can r786 m1699).bind fun r1853 =>
     (L_ref05_Steps r1851 r1853).bind fun r1855 =>
     if r1855 = true then
      if r1817.2 = 0 then
       some (r1817.1,r1825.1)
      else
       some (m1698,m1699)
     else none
    else none
   else none).bind fun ⟨m1807,m1808⟩ =>
   L_law05_PlainDoes_l1 a1 r782 r786 nf (IntKind.wrap .i64 (n1697 + 1)) m1807 m1808
  else
   some ()
def L_law05_PlainDoes (a0 : TApp) (a1 : (List TStep)) : Option Bool :=
 (L_law05_Cut a0).bind fun r782 =>
 (L_law05_App r782).bind fun r786 =>
 (L_ref04_Right r786.T r786.G).bind fun r790 =>
 if r790 = true then
  (L_plain_Start r782).bind fun r1079 =>
  (L_ref05_Start r786).bind fun r1081 =>
  (L_law05_Ref r1079).bind fun r1087 =>
  (L_ref05_Same r1087 r1081).bind fun r1089 =>
  if r1089 = true then
   (L_law05_PlainDoes_l1 a1 r782 r786 (((a1.length : Int) - 0).toNat + 1) 0 r1079 r1081).bind fun _ =>
   if 0 ≤ (min (a1.length : Int) 40) then
    if (min (a1.length : Int) 40) ≤ (a1.length : Int) then
     (some (a1.take ((min (a1.length : Int) 40).toNat))).bind fun v1866 =>
     (L_plain_Run r782 r1079 v1866).bind fun r1870 =>
     (L_law05_Steps v1866).bind fun r1876 =>
     (L_ref05_Run r786 r1081 r1876).bind fun r1878 =>
     (L_law05_Ref r1870.1).bind fun r1889 =>
     (L_ref05_Same r1889 r1878.1).bind fun r1891 =>
     if r1891 = true then
      if r1870.2.1 = r1878.2.1 then
       if r1870.2.2 = r1878.2.2 then
        (L_law05_fixed).bind fun r1896 =>
        some r1896
       else none
      else none
     else none
    else none
   else none
  else none
 else
  (L_plain_Right r782 (TConf.mk [] [] [])).bind fun r1903 =>
  if r1903 = true then none
  else
   (L_law05_fixed).bind fun r1908 =>
   some r1908

end Go.Proofs.Ytifcbecpemaieaa
