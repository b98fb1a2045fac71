/- What the plain forms that FnExactPushAll reaches come to: PState. No conditions but those that each theorem states. -/
import Derived.Test.YtiejfnbmficbmaaGreatFnExactPushAllRaw0
import Derived.Test.YtiejfnbmficbmaaGreatFnExactPushAllRaw1
import Derived.Test.YtiejfnbmficbmaaGreatFnExactPushAllRaw2
import Derived.Test.YtiejfnbmficbmaaGreatFnExactPushAllRaw3
import Derived.Test.YtiejfnbmficbmaaGreatFnExactPushAllRaw4
import Derived.Test.YtiejfnbmficbmaaGreatFnExactPushAllRaw5
import Derived.Test.YtiejfnbmficbmaaGreatFnExactPushAllRaw6
set_option linter.all false
namespace Go.Proofs.YtiejfnbmficbmaaGreat.M
open Go Go.Eng Go.Proofs
set_option linter.unusedVariables false
def inR (n lo hi:Int):Bool:=decide (lo<=n)&&decide (n<=hi)
theorem Xd (n lo hi:Int):QA w (n,lo,hi)=some (inR n lo hi):=by
 apply Qse
 simp only[Qi0,inR]
 cases decide (lo<=n)<;>rfl
theorem XE (n lo hi:Int):QH w (n,lo,hi)=some (inR n lo hi):=by
 apply QuY
 simp only[Ql7,inR]
 cases decide (lo<=n)<;>rfl
theorem Qeg (n:Int):Yy w n=some (inR n 0 4):=by
 apply QsS
 simp only[QjO,Xd,QQ0]
theorem Qd4 (n:Int):Yw w n=some (inR n 0 4):=by
 apply QsT
 simp only[QjH,XE,QQ0]
def XW (e:XA):Bool:=inR e.1 1 1000&&inR e.2.1 0 1&&inR e.2.2.1 0 100000&&inR e.2.2.2.1 0 1000&&decide (((ByteArray.size e.2.2.2.2:Nat):Int)<=8)
theorem Qz1 (a b c d:Int) (s:ByteArray):xU w (a,b,c,d,s)=some (XW (a,b,c,d,s)):=by
 apply Qrv
 simp only[QgC,Xd,QQ0,XW]
 cases inR a 1 1000<;>cases inR b 0 1<;>cases inR c 0 100000<;>cases inR d 0 1000<;>simp
theorem QxV (a b c d:Int) (s:ByteArray):qb w (a,b,c,d,s)=some (XW (a,b,c,d,s)):=by
 apply QqO
 simp only[Qic,XE,QQ0,XW]
 cases inR a 1 1000<;>cases inR b 0 1<;>cases inR c 0 100000<;>cases inR d 0 1000<;>simp
theorem QBg (e:XA):xU w e=some (XW e):=Qz1 ..
theorem QyU (e:XA):qb w e=some (XW e):=QxV ..
def QS (id:Int):List Qg->Int×Int×Int×Int×ByteArray×Bool
 | []=>(0,0,0,0,ByteArray.empty,false)
 |x::l=>if x.1=id then(x.2.1,x.2.2.1,x.2.2.2.1,x.2.2.2.2.1,x.2.2.2.2.2,true)else QS id l
def QZ (id:Int):List Qb->Int
 | []=>0
 |x::l=>if x.1=id then x.2 else QZ id l
def QjT (id:Int):List Qg->(Bool×Int×Int×Int×Int×ByteArray)⊕Unit
 | []=> .inr ()
 |x::l=>if x.1=id then .inl (true,x.2)else QjT id l
theorem QhA (id:Int):(l:List Qg)->Qq (QjT id l) (fun u3=>some (u3.2.1,u3.2.2.1,u3.2.2.2.1,u3.2.2.2.2.1,u3.2.2.2.2.2,u3.1)) (fun z4=>some (0,0,0,0,ByteArray.empty,false))=some (QS id l)
 | []=>rfl
 |x::l=>by
  have ih:=QhA id l
  by_cases h:x.1=id
  ·simp only[QjT,QS,h,if_true,Qq,Sum.elim_inl]
  ·simp only[QjT,QS,h,if_false];exact ih
def QjS (id:Int):List Qb->Int⊕Unit
 | []=> .inr ()
 |x::l=>if x.1=id then .inl x.2 else QjS id l
theorem QhM (id:Int):(l:List Qb)->Qq (QjS id l) (fun u3=>some u3) (fun z4=>some 0)=some (QZ id l)
 | []=>rfl
 |x::l=>by
  have ih:=QhM id l
  by_cases h:x.1=id
  ·simp only[QjS,QZ,h,if_true,Qq,Sum.elim_inl]
  ·simp only[QjS,QZ,h,if_false];exact ih
theorem Qll (a:List Qg) (b:List Qb) (id:Int) (h:a.length<=maxLen):J0 w (a,b,id)=some (QS id a):=by
 apply Qrf
 have e:=Q1 a.length (fun i=>Vz wl (id,a,((a.length:Nat):Int),(i:Int))) (fun i=>QjT id (a.drop i))
  (fun i hi ih=>by
    apply QdG
    simp only[QbR,ilt hi,Ql hi,Qi hi,inc hi h,QQ1,ih]
    rw[QRa hi,QjT]
    by_cases hx:a[i].1=id
    ·simp only[hx,decide_true,QQ1,if_true]
    ·simp only[hx,decide_false,QQ2,if_false])
  (by
    apply QdG
    simp only[QbR,Qs,QQ2,QRl,QjT])
 simp only[QQ6,QRg]at e
 simp only[QhI,e,QQ0,QhA]
theorem Qj9 (a:List Qg) (b:List Qb) (id:Int) (h:a.length<=maxLen):YE w (a,b,id)=some (QS id a):=by
 apply QqE
 have e:=Q1 a.length (fun i=>Ji wl (id,(i:Int),a,b)) (fun i=>QjT id (a.drop i))
  (fun i hi ih=>by
    apply QdS
    simp only[jV,ilt hi,Ql hi,Qi hi,inc hi h,QQ1,ih]
    rw[QRa hi,QjT]
    by_cases hx:a[i].1=id
    ·simp only[hx,decide_true,QQ1,if_true]
    ·simp only[hx,decide_false,QQ2,if_false])
  (by
    apply QdS
    simp only[jV,Qs,QQ2,QRl,QjT])
 simp only[QQ6,QRg]at e
 simp only[Qhr,e,QQ0,QhA]
theorem Qf7 (a:List Qg) (b:List Qb) (id:Int) (h:b.length<=maxLen):Ve w (a,b,id)=some (QZ id b):=by
 apply QqA
 have e:=Q1 b.length (fun i=>V6 wl (id,b,((b.length:Nat):Int),(i:Int))) (fun i=>QjS id (b.drop i))
  (fun i hi ih=>by
    apply QdD
    simp only[QbM,ilt hi,Ql hi,Qi hi,inc hi h,QQ1,ih]
    rw[QRa hi,QjS]
    by_cases hx:b[i].1=id
    ·simp only[hx,decide_true,QQ1,if_true]
    ·simp only[hx,decide_false,QQ2,if_false])
  (by
    apply QdD
    simp only[QbM,Qs,QQ2,QRl,QjS])
 simp only[QQ6,QRg]at e
 simp only[Qis,e,QQ0,QhM]
theorem Qdp (a:List Qg) (b:List Qb) (id:Int) (h:b.length<=maxLen):YF w (a,b,id)=some (QZ id b):=by
 apply QrF
 have e:=Q1 b.length (fun i=>VN wl (id,(i:Int),a,b)) (fun i=>QjS id (b.drop i))
  (fun i hi ih=>by
    apply QeB
    simp only[vt,ilt hi,Ql hi,Qi hi,inc hi h,QQ1,ih]
    rw[QRa hi,QjS]
    by_cases hx:b[i].1=id
    ·simp only[hx,decide_true,QQ1,if_true]
    ·simp only[hx,decide_false,QQ2,if_false])
  (by
    apply QeB
    simp only[vt,Qs,QQ2,QRl,QjS])
 simp only[QQ6,QRg]at e
 simp only[Qhz,e,QQ0,QhM]
def QN:Int->List Qb->Bool
 |_,[]=>true
 |p,x::l=>inR x.1 0 4&&inR x.2 1 1000&&decide (p<x.1)&&QN x.1 l
def Xi (fl:List Qb):Int->List Qg->Bool
 |_,[]=>true
 |p,x::l=>inR x.1 0 4&&XW x.2&&decide (QZ x.1 fl<x.2.1)&&decide (p<x.1)&&Xi fl x.1 l
def QL (s:Qk):Bool:=QN (-1) s.2&&Xi s.2 (-1) s.1
def JM (b:List Qb) (i:Nat):Int:=if i=0 then -1 else(b.getD (i - 1) (0,0)).1
def Qdi (b:List Qg) (i:Nat):Int:=if i=0 then -1 else(b.getD (i - 1) XU).1
theorem Qgc (b:List Qb) {i:Nat}(h:i<b.length):JM b (i+1)=b[i].1:=by simp[JM,List.getD,h]
theorem QpI (b:List Qg) {i:Nat}(h:i<b.length):Qdi b (i+1)=b[i].1:=by simp[Qdi,List.getD,h]
theorem QiM (b:List Qb) {i:Nat}(h0:0<i) (h:i - 1<b.length):JM b i=b[i - 1].1:=by
 simp[JM,List.getD,h,show¬i=0 by omega]
theorem QtO (b:List Qg) {i:Nat}(h0:0<i) (h:i - 1<b.length):Qdi b i=b[i - 1].1:=by
 simp[Qdi,List.getD,h,show¬i=0 by omega]
theorem Qcb {n:Int}(h:inR n 0 4=true): -1<n:=by
 simp[inR]at h;omega
theorem xk (a b:Int):decide (a<=b)= !decide (b<a):=by
 by_cases h:a<=b
 ·rw[dt h,df (by omega)];rfl
 ·rw[df h,dt (by omega)];rfl
theorem Ku (a:List Qg) (b:List Qb) (ha:a.length<=maxLen) (hb:b.length<=maxLen):XT w (a,b)=some (QL (a,b)):=by
 apply QqV
 have e0:=Q1 b.length (fun i=>YM wl (b,((b.length:Nat):Int),(i:Int),a,b)) (fun i=>if QN (JM b i) (b.drop i)then .inr (a,b)else .inl false)
  (fun i hi ih=>by
    apply Qek
    simp only[vP,ilt hi,Ql hi,Qi hi,inc hi hb,QQ1,ih,Qeg,Xd,QQ0]
    rw[QRa hi,QN,Qgc b hi]
    rcases Nat.eq_zero_or_pos i with h0|h0
    ·subst h0
     cases h1:inR b[0].1 0 4
     ·simp
     ·have:=Qcb h1
      simp only[QlS,QQ2,QQ3,JM,if_true,dt this,QRd,QRn]
      cases inR b[0].2 1 1000<;>simp
    ·have hi':i - 1<b.length:=by omega
     simp only[ipos h0,QQ1,Qm2 h0 (by omega),Ql hi',Qi hi',QiM b h0 hi',xk]
     cases inR b[i].1 0 4<;>cases inR b[i].2 1 1000<;>cases decide (b[i - 1].1<b[i].1)<;>simp)
  (by
    apply Qek
    simp only[vP,Qs,QQ2,QRl,QN,if_true])
 have e2:=Q1 a.length (fun i=>Y8 wl (a,((a.length:Nat):Int),(i:Int),a,b)) (fun i=>if Xi b (Qdi a i) (a.drop i)then .inr ()else .inl false)
  (fun i hi ih=>by
    apply QdZ
    simp only[Qbs,ilt hi,Ql hi,Qi hi,inc hi ha,QQ1,ih,Qeg,QBg,Qf7 _ _ _ hb,QQ0]
    rw[QRa hi,Xi,QpI a hi]
    rcases Nat.eq_zero_or_pos i with h0|h0
    ·subst h0
     cases h1:inR a[0].1 0 4
     ·simp
     ·have:=Qcb h1
      simp only[QlS,QQ2,QQ3,Qdi,if_true,dt this,QRd,QRn,xk]
      cases XW a[0].2<;>cases decide (QZ a[0].1 b<a[0].2.1)<;>simp
    ·have hi':i - 1<a.length:=by omega
     simp only[ipos h0,QQ1,Qm2 h0 (by omega),Ql hi',Qi hi',QtO a h0 hi',xk]
     cases inR a[i].1 0 4<;>cases XW a[i].2<;>cases decide (QZ a[i].1 b<a[i].2.1)<;>cases decide (a[i - 1].1<a[i].1)<;>simp)
  (by
    apply QdZ
    simp only[Qbs,Qs,QQ2,QRl,Xi,if_true])
 simp only[QQ6,QRg,JM,Qdi,if_true]at e0 e2
 simp only[Qij,e0,QQ0,QL]
 cases QN (-1) b
 ·simp[Qq]
 ·simp only[if_true,Qq,Sum.elim_inr,e2,QQ0,QRd]
  cases Xi b (-1) a<;>simp
theorem Jt (a:List Qg) (b:List Qb) (ha:a.length<=maxLen) (hb:b.length<=maxLen):Zs w (a,b)=some (QL (a,b)):=by
 apply Qqx
 have e2:=Q1 b.length (fun i=>YY wl ((i:Int),a,b)) (fun i=>if QN (JM b i) (b.drop i)then .inr ()else .inl false)
  (fun i hi ih=>by
    apply Qep
    simp only[jY,ilt hi,Ql hi,Qi hi,inc hi hb,QQ1,ih,Qd4,XE,QQ0]
    rw[QRa hi,QN,Qgc b hi]
    rcases Nat.eq_zero_or_pos i with h0|h0
    ·subst h0
     cases h1:inR b[0].1 0 4
     ·simp
     ·have:=Qcb h1
      simp only[QlS,QQ2,QQ3,JM,if_true,dt this,QRd,QRn]
      cases inR b[0].2 1 1000<;>simp
    ·have hi':i - 1<b.length:=by omega
     simp only[ipos h0,QQ1,Qm2 h0 (by omega),Ql hi',Qi hi',QiM b h0 hi',xk]
     cases inR b[i].1 0 4<;>cases inR b[i].2 1 1000<;>cases decide (b[i - 1].1<b[i].1)<;>simp)
  (by
    apply Qep
    simp only[jY,Qs,QQ2,QRl,QN,if_true])
 have e0:=Q1 a.length (fun i=>YK wl ((i:Int),a,b)) (fun i=>if Xi b (Qdi a i) (a.drop i)then .inr (a,b)else .inl false)
  (fun i hi ih=>by
    apply QdR
    simp only[vB,ilt hi,Ql hi,Qi hi,inc hi ha,QQ1,ih,Qd4,QyU,Qdp _ _ _ hb,QQ0]
    rw[QRa hi,Xi,QpI a hi]
    rcases Nat.eq_zero_or_pos i with h0|h0
    ·subst h0
     cases h1:inR a[0].1 0 4
     ·simp
     ·have:=Qcb h1
      simp only[QlS,QQ2,QQ3,Qdi,if_true,dt this,QRd,QRn,xk]
      cases XW a[0].2<;>cases decide (QZ a[0].1 b<a[0].2.1)<;>simp
    ·have hi':i - 1<a.length:=by omega
     simp only[ipos h0,QQ1,Qm2 h0 (by omega),Ql hi',Qi hi',QtO a h0 hi',xk]
     cases inR a[i].1 0 4<;>cases XW a[i].2<;>cases decide (QZ a[i].1 b<a[i].2.1)<;>cases decide (a[i - 1].1<a[i].1)<;>simp)
  (by
    apply QdR
    simp only[vB,Qs,QQ2,QRl,Xi,if_true])
 simp only[QQ6,QRg,JM,Qdi,if_true]at e0 e2
 simp only[Qg4,e0,QQ0,QL]
 cases Xi b (-1) a
 ·simp[Qq]
 ·simp only[if_true,Qq,Sum.elim_inr,e2,QQ0,QRn]
  cases QN (-1) b<;>simp
end Go.Proofs.YtiejfnbmficbmaaGreat.M
