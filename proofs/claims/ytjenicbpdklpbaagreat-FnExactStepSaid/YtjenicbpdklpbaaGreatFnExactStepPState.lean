/- What the plain forms that FnExactStep reaches come to: PState. No conditions but those that each theorem states. -/
import Derived.Test.YtjenicbpdklpbaaGreatFnExactStepRaw0
import Derived.Test.YtjenicbpdklpbaaGreatFnExactStepRaw1
import Derived.Test.YtjenicbpdklpbaaGreatFnExactStepRaw2
import Derived.Test.YtjenicbpdklpbaaGreatFnExactStepRaw3
import Derived.Test.YtjenicbpdklpbaaGreatFnExactStepRaw4
import Derived.Test.YtjenicbpdklpbaaGreatFnExactStepRaw5
import Derived.Test.YtjenicbpdklpbaaGreatFnExactStepRaw6
import Derived.Test.YtjenicbpdklpbaaGreatFnExactStepRaw7
import Derived.Test.YtjenicbpdklpbaaGreatFnExactStepRaw8
import Derived.Test.YtjenicbpdklpbaaGreatFnExactStepRaw9
import Derived.Test.YtjenicbpdklpbaaGreatFnExactStepRaw10
set_option linter.all false
namespace Go.Proofs.YtjenicbpdklpbaaGreat.M
open Go Go.Eng Go.Proofs
set_option linter.unusedVariables false
def inR (n lo hi:Int):Bool:=decide (lo<=n)&&decide (n<=hi)
theorem Xf (n lo hi:Int):QA w (n,lo,hi)=some (inR n lo hi):=by
 apply QvW
 simp only[QlQ,inR]
 cases decide (lo<=n)<;>rfl
theorem XB (n lo hi:Int):QE w (n,lo,hi)=some (inR n lo hi):=by
 apply QzT
 simp only[QoC,inR]
 cases decide (lo<=n)<;>rfl
theorem Qat (n:Int):Yq w n=some (inR n 0 4):=by
 apply Qv7
 simp only[QkI,Xf,QQ0]
theorem Qam (n:Int):Yo w n=some (inR n 0 4):=by
 apply Qvu
 simp only[Qk9,XB,QQ0]
def XF (e:XT):Bool:=inR e.1 1 1000&&inR e.2.1 0 1&&inR e.2.2.1 0 100000&&inR e.2.2.2.1 0 1000&&decide (((ByteArray.size e.2.2.2.2:Nat):Int)<=8)
theorem QCA (a b c d:Int) (s:ByteArray):yi w (a,b,c,d,s)=some (XF (a,b,c,d,s)):=by
 apply Quu
 simp only[Qin,Xf,QQ0,XF]
 cases inR a 1 1000<;>cases inR b 0 1<;>cases inR c 0 100000<;>cases inR d 0 1000<;>simp
theorem QBj (a b c d:Int) (s:ByteArray):xq w (a,b,c,d,s)=some (XF (a,b,c,d,s)):=by
 apply QuS
 simp only[QjL,XB,QQ0,XF]
 cases inR a 1 1000<;>cases inR b 0 1<;>cases inR c 0 100000<;>cases inR d 0 1000<;>simp
theorem QEL (e:XT):yi w e=some (XF e):=QCA ..
theorem QC4 (e:XT):xq w e=some (XF e):=QBj ..
def QV (id:Int):List Qd->Int×Int×Int×Int×ByteArray×Bool
 | []=>(0,0,0,0,ByteArray.empty,false)
 |x::l=>if x.1=id then(x.2.1,x.2.2.1,x.2.2.2.1,x.2.2.2.2.1,x.2.2.2.2.2,true)else QV id l
def Q3 (id:Int):List Qa->Int
 | []=>0
 |x::l=>if x.1=id then x.2 else Q3 id l
def Qmw (id:Int):List Qd->(Bool×Int×Int×Int×Int×ByteArray)⊕Unit
 | []=> .inr ()
 |x::l=>if x.1=id then .inl (true,x.2)else Qmw id l
theorem Qkg (id:Int):(l:List Qd)->Qn (Qmw id l) (fun u3=>some (u3.2.1,u3.2.2.1,u3.2.2.2.1,u3.2.2.2.2.1,u3.2.2.2.2.2,u3.1)) (fun z4=>some (0,0,0,0,ByteArray.empty,false))=some (QV id l)
 | []=>rfl
 |x::l=>by
  have ih:=Qkg id l
  by_cases h:x.1=id
  ·simp only[Qmw,QV,h,if_true,Qn,Sum.elim_inl]
  ·simp only[Qmw,QV,h,if_false];exact ih
def Qmv (id:Int):List Qa->Int⊕Unit
 | []=> .inr ()
 |x::l=>if x.1=id then .inl x.2 else Qmv id l
theorem Qkd (id:Int):(l:List Qa)->Qn (Qmv id l) (fun u3=>some u3) (fun z4=>some 0)=some (Q3 id l)
 | []=>rfl
 |x::l=>by
  have ih:=Qkd id l
  by_cases h:x.1=id
  ·simp only[Qmv,Q3,h,if_true,Qn,Sum.elim_inl]
  ·simp only[Qmv,Q3,h,if_false];exact ih
theorem QhA (a:List Qd) (b:List Qa) (id:Int) (h:a.length<=maxLen):VK w (a,b,id)=some (QV id a):=by
 apply Qsz
 have e:=Q6 a.length (fun i=>JD wl (id,a,((a.length:Nat):Int),(i:Int))) (fun i=>Qmw id (a.drop i))
  (fun i hi ih=>by
    apply Qfo
    simp only[QbG,ilt hi,Qk hi,Qg hi,inc hi h,QQ1,ih]
    rw[QRa hi,Qmw]
    by_cases hx:a[i].1=id
    ·simp only[hx,decide_true,QQ1,if_true]
    ·simp only[hx,decide_false,QQ2,if_false])
  (by
    apply Qfo
    simp only[QbG,Qm,QQ2,QRl,Qmw])
 simp only[QQ6,QRg]at e
 simp only[QjN,e,QQ0,Qkg]
theorem Qec (a:List Qd) (b:List Qa) (id:Int) (h:a.length<=maxLen):Yw w (a,b,id)=some (QV id a):=by
 apply QuR
 have e:=Q6 a.length (fun i=>qe wl (id,(i:Int),a,b)) (fun i=>Qmw id (a.drop i))
  (fun i hi ih=>by
    apply Qfm
    simp only[Qcc,ilt hi,Qk hi,Qg hi,inc hi h,QQ1,ih]
    rw[QRa hi,Qmw]
    by_cases hx:a[i].1=id
    ·simp only[hx,decide_true,QQ1,if_true]
    ·simp only[hx,decide_false,QQ2,if_false])
  (by
    apply Qfm
    simp only[Qcc,Qm,QQ2,QRl,Qmw])
 simp only[QQ6,QRg]at e
 simp only[Qib,e,QQ0,Qkg]
theorem QhI (a:List Qd) (b:List Qa) (id:Int) (h:b.length<=maxLen):V3 w (a,b,id)=some (Q3 id b):=by
 apply Qun
 have e:=Q6 b.length (fun i=>J6 wl (id,b,((b.length:Nat):Int),(i:Int))) (fun i=>Qmv id (b.drop i))
  (fun i hi ih=>by
    apply Qff
    simp only[Qbl,ilt hi,Qk hi,Qg hi,inc hi h,QQ1,ih]
    rw[QRa hi,Qmv]
    by_cases hx:b[i].1=id
    ·simp only[hx,decide_true,QQ1,if_true]
    ·simp only[hx,decide_false,QQ2,if_false])
  (by
    apply Qff
    simp only[Qbl,Qm,QQ2,QRl,Qmv])
 simp only[QQ6,QRg]at e
 simp only[Qjx,e,QQ0,Qkd]
theorem QeP (a:List Qd) (b:List Qa) (id:Int) (h:b.length<=maxLen):Kz w (a,b,id)=some (Q3 id b):=by
 apply QsX
 have e:=Q6 b.length (fun i=>JV wl (id,(i:Int),a,b)) (fun i=>Qmv id (b.drop i))
  (fun i hi ih=>by
    apply Qe9
    simp only[Qci,ilt hi,Qk hi,Qg hi,inc hi h,QQ1,ih]
    rw[QRa hi,Qmv]
    by_cases hx:b[i].1=id
    ·simp only[hx,decide_true,QQ1,if_true]
    ·simp only[hx,decide_false,QQ2,if_false])
  (by
    apply Qe9
    simp only[Qci,Qm,QQ2,QRl,Qmv])
 simp only[QQ6,QRg]at e
 simp only[Qkm,e,QQ0,Qkd]
def QO:Int->List Qa->Bool
 |_,[]=>true
 |p,x::l=>inR x.1 0 4&&inR x.2 1 1000&&decide (p<x.1)&&QO x.1 l
def Xw (fl:List Qa):Int->List Qd->Bool
 |_,[]=>true
 |p,x::l=>inR x.1 0 4&&XF x.2&&decide (Q3 x.1 fl<x.2.1)&&decide (p<x.1)&&Xw fl x.1 l
def QC (s:Qj):Bool:=QO (-1) s.2&&Xw s.2 (-1) s.1
def qF (b:List Qa) (i:Nat):Int:=if i=0 then -1 else(b.getD (i - 1) (0,0)).1
def Qey (b:List Qd) (i:Nat):Int:=if i=0 then -1 else(b.getD (i - 1) XU).1
theorem Qhx (b:List Qa) {i:Nat}(h:i<b.length):qF b (i+1)=b[i].1:=by simp[qF,List.getD,h]
theorem QsZ (b:List Qd) {i:Nat}(h:i<b.length):Qey b (i+1)=b[i].1:=by simp[Qey,List.getD,h]
theorem QlG (b:List Qa) {i:Nat}(h0:0<i) (h:i - 1<b.length):qF b i=b[i - 1].1:=by
 simp[qF,List.getD,h,show¬i=0 by omega]
theorem QwA (b:List Qd) {i:Nat}(h0:0<i) (h:i - 1<b.length):Qey b i=b[i - 1].1:=by
 simp[Qey,List.getD,h,show¬i=0 by omega]
theorem Qd5 {n:Int}(h:inR n 0 4=true): -1<n:=by
 simp[inR]at h;omega
theorem zr (a b:Int):decide (a<=b)= !decide (b<a):=by
 by_cases h:a<=b
 ·rw[dt h,df (by omega)];rfl
 ·rw[df h,dt (by omega)];rfl
theorem Zx (a:List Qd) (b:List Qa) (ha:a.length<=maxLen) (hb:b.length<=maxLen):Xp w (a,b)=some (QC (a,b)):=by
 apply Qut
 have e0:=Q6 b.length (fun i=>KP wl (b,((b.length:Nat):Int),(i:Int),a,b)) (fun i=>if QO (qF b i) (b.drop i)then .inr (a,b)else .inl false)
  (fun i hi ih=>by
    apply Qe2
    simp only[Qaz,ilt hi,Qk hi,Qg hi,inc hi hb,QQ1,ih,Qat,Xf,QQ0]
    rw[QRa hi,QO,Qhx b hi]
    rcases Nat.eq_zero_or_pos i with h0|h0
    ·subst h0
     cases h1:inR b[0].1 0 4
     ·simp
     ·have:=Qd5 h1
      simp only[Qof,QQ2,QQ3,qF,if_true,dt this,QRd,QRn]
      cases inR b[0].2 1 1000<;>simp
    ·have hi':i - 1<b.length:=by omega
     simp only[ipos h0,QQ1,QpR h0 (by omega),Qk hi',Qg hi',QlG b h0 hi',zr]
     cases inR b[i].1 0 4<;>cases inR b[i].2 1 1000<;>cases decide (b[i - 1].1<b[i].1)<;>simp)
  (by
    apply Qe2
    simp only[Qaz,Qm,QQ2,QRl,QO,if_true])
 have e2:=Q6 a.length (fun i=>KE wl (a,((a.length:Nat):Int),(i:Int),a,b)) (fun i=>if Xw b (Qey a i) (a.drop i)then .inr ()else .inl false)
  (fun i hi ih=>by
    apply Qfc
    simp only[Qcl,ilt hi,Qk hi,Qg hi,inc hi ha,QQ1,ih,Qat,QEL,QhI _ _ _ hb,QQ0]
    rw[QRa hi,Xw,QsZ a hi]
    rcases Nat.eq_zero_or_pos i with h0|h0
    ·subst h0
     cases h1:inR a[0].1 0 4
     ·simp
     ·have:=Qd5 h1
      simp only[Qof,QQ2,QQ3,Qey,if_true,dt this,QRd,QRn,zr]
      cases XF a[0].2<;>cases decide (Q3 a[0].1 b<a[0].2.1)<;>simp
    ·have hi':i - 1<a.length:=by omega
     simp only[ipos h0,QQ1,QpR h0 (by omega),Qk hi',Qg hi',QwA a h0 hi',zr]
     cases inR a[i].1 0 4<;>cases XF a[i].2<;>cases decide (Q3 a[i].1 b<a[i].2.1)<;>cases decide (a[i - 1].1<a[i].1)<;>simp)
  (by
    apply Qfc
    simp only[Qcl,Qm,QQ2,QRl,Xw,if_true])
 simp only[QQ6,QRg,qF,Qey,if_true]at e0 e2
 simp only[Qjq,e0,QQ0,QC]
 cases QO (-1) b
 ·simp[Qn]
 ·simp only[if_true,Qn,Sum.elim_inr,e2,QQ0,QRd]
  cases Xw b (-1) a<;>simp
theorem ZG (a:List Qd) (b:List Qa) (ha:a.length<=maxLen) (hb:b.length<=maxLen):XA w (a,b)=some (QC (a,b)):=by
 apply Qt2
 have e2:=Q6 b.length (fun i=>K0 wl ((i:Int),a,b)) (fun i=>if QO (qF b i) (b.drop i)then .inr ()else .inl false)
  (fun i hi ih=>by
    apply QfE
    simp only[Qb8,ilt hi,Qk hi,Qg hi,inc hi hb,QQ1,ih,Qam,XB,QQ0]
    rw[QRa hi,QO,Qhx b hi]
    rcases Nat.eq_zero_or_pos i with h0|h0
    ·subst h0
     cases h1:inR b[0].1 0 4
     ·simp
     ·have:=Qd5 h1
      simp only[Qof,QQ2,QQ3,qF,if_true,dt this,QRd,QRn]
      cases inR b[0].2 1 1000<;>simp
    ·have hi':i - 1<b.length:=by omega
     simp only[ipos h0,QQ1,QpR h0 (by omega),Qk hi',Qg hi',QlG b h0 hi',zr]
     cases inR b[i].1 0 4<;>cases inR b[i].2 1 1000<;>cases decide (b[i - 1].1<b[i].1)<;>simp)
  (by
    apply QfE
    simp only[Qb8,Qm,QQ2,QRl,QO,if_true])
 have e0:=Q6 a.length (fun i=>KW wl ((i:Int),a,b)) (fun i=>if Xw b (Qey a i) (a.drop i)then .inr (a,b)else .inl false)
  (fun i hi ih=>by
    apply Qe7
    simp only[QcH,ilt hi,Qk hi,Qg hi,inc hi ha,QQ1,ih,Qam,QC4,QeP _ _ _ hb,QQ0]
    rw[QRa hi,Xw,QsZ a hi]
    rcases Nat.eq_zero_or_pos i with h0|h0
    ·subst h0
     cases h1:inR a[0].1 0 4
     ·simp
     ·have:=Qd5 h1
      simp only[Qof,QQ2,QQ3,Qey,if_true,dt this,QRd,QRn,zr]
      cases XF a[0].2<;>cases decide (Q3 a[0].1 b<a[0].2.1)<;>simp
    ·have hi':i - 1<a.length:=by omega
     simp only[ipos h0,QQ1,QpR h0 (by omega),Qk hi',Qg hi',QwA a h0 hi',zr]
     cases inR a[i].1 0 4<;>cases XF a[i].2<;>cases decide (Q3 a[i].1 b<a[i].2.1)<;>cases decide (a[i - 1].1<a[i].1)<;>simp)
  (by
    apply Qe7
    simp only[QcH,Qm,QQ2,QRl,Xw,if_true])
 simp only[QQ6,QRg,qF,Qey,if_true]at e0 e2
 simp only[QiL,e0,QQ0,QC]
 cases Xw b (-1) a
 ·simp[Qn]
 ·simp only[if_true,Qn,Sum.elim_inr,e2,QQ0,QRn]
  cases QO (-1) b<;>simp
end Go.Proofs.YtjenicbpdklpbaaGreat.M
