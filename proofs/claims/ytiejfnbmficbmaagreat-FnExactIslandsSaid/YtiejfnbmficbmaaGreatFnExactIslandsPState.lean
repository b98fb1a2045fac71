/- What the plain forms that FnExactIslands reaches come to: PState. No conditions but those that each theorem states. -/
import Derived.Test.YtiejfnbmficbmaaGreatFnExactIslandsRaw0
import Derived.Test.YtiejfnbmficbmaaGreatFnExactIslandsRaw1
import Derived.Test.YtiejfnbmficbmaaGreatFnExactIslandsRaw2
import Derived.Test.YtiejfnbmficbmaaGreatFnExactIslandsRaw3
import Derived.Test.YtiejfnbmficbmaaGreatFnExactIslandsRaw4
import Derived.Test.YtiejfnbmficbmaaGreatFnExactIslandsRaw5
import Derived.Test.YtiejfnbmficbmaaGreatFnExactIslandsRaw6
import Derived.Test.YtiejfnbmficbmaaGreatFnExactIslandsRaw7
import Derived.Test.YtiejfnbmficbmaaGreatFnExactIslandsRaw8
import Derived.Test.YtiejfnbmficbmaaGreatFnExactIslandsRaw9
set_option linter.all false
namespace Go.Proofs.YtiejfnbmficbmaaGreat.M
open Go Go.Eng Go.Proofs
set_option linter.unusedVariables false
def inR (n lo hi:Int):Bool:=decide (lo<=n)&&decide (n<=hi)
theorem Xi (n lo hi:Int):QC w (n,lo,hi)=some (inR n lo hi):=by
 apply Qvy
 simp only[Qk6,inR]
 cases decide (lo<=n)<;>rfl
theorem Xx (n lo hi:Int):QE w (n,lo,hi)=some (inR n lo hi):=by
 apply QyJ
 simp only[Qpf,inR]
 cases decide (lo<=n)<;>rfl
theorem Qga (n:Int):Kf w n=some (inR n 0 4):=by
 apply Qv3
 simp only[Qmi,Xi,QQ0]
theorem QgE (n:Int):Kb w n=some (inR n 0 4):=by
 apply QwJ
 simp only[QkU,Xx,QQ0]
def Zd (e:XM):Bool:=inR e.1 1 1000&&inR e.2.1 0 1&&inR e.2.2.1 0 100000&&inR e.2.2.2.1 0 1000&&decide (((ByteArray.size e.2.2.2.2:Nat):Int)<=8)
theorem QDm (a b c d:Int) (s:ByteArray):yl w (a,b,c,d,s)=some (Zd (a,b,c,d,s)):=by
 apply QsZ
 simp only[QjH,Xi,QQ0,Zd]
 cases inR a 1 1000<;>cases inR b 0 1<;>cases inR c 0 100000<;>cases inR d 0 1000<;>simp
theorem QBv (a b c d:Int) (s:ByteArray):qI w (a,b,c,d,s)=some (Zd (a,b,c,d,s)):=by
 apply QuC
 simp only[Qjq,Xx,QQ0,Zd]
 cases inR a 1 1000<;>cases inR b 0 1<;>cases inR c 0 100000<;>cases inR d 0 1000<;>simp
theorem QE0 (e:XM):yl w e=some (Zd e):=QDm ..
theorem QDb (e:XM):qI w e=some (Zd e):=QBv ..
def QW (id:Int):List Qg->Int×Int×Int×Int×ByteArray×Bool
 | []=>(0,0,0,0,ByteArray.empty,false)
 |x::l=>if x.1=id then(x.2.1,x.2.2.1,x.2.2.2.1,x.2.2.2.2.1,x.2.2.2.2.2,true)else QW id l
def Q4 (id:Int):List Qb->Int
 | []=>0
 |x::l=>if x.1=id then x.2 else Q4 id l
def QmE (id:Int):List Qg->(Bool×Int×Int×Int×Int×ByteArray)⊕Unit
 | []=> .inr ()
 |x::l=>if x.1=id then .inl (true,x.2)else QmE id l
theorem QiV (id:Int):(l:List Qg)->Qp (QmE id l) (fun u3=>some (u3.2.1,u3.2.2.1,u3.2.2.2.1,u3.2.2.2.2.1,u3.2.2.2.2.2,u3.1)) (fun z4=>some (0,0,0,0,ByteArray.empty,false))=some (QW id l)
 | []=>rfl
 |x::l=>by
  have ih:=QiV id l
  by_cases h:x.1=id
  ·simp only[QmE,QW,h,if_true,Qp,Sum.elim_inl]
  ·simp only[QmE,QW,h,if_false];exact ih
def Qmw (id:Int):List Qb->Int⊕Unit
 | []=> .inr ()
 |x::l=>if x.1=id then .inl x.2 else Qmw id l
theorem Qkl (id:Int):(l:List Qb)->Qp (Qmw id l) (fun u3=>some u3) (fun z4=>some 0)=some (Q4 id l)
 | []=>rfl
 |x::l=>by
  have ih:=Qkl id l
  by_cases h:x.1=id
  ·simp only[Qmw,Q4,h,if_true,Qp,Sum.elim_inl]
  ·simp only[Qmw,Q4,h,if_false];exact ih
theorem Qn7 (a:List Qg) (b:List Qb) (id:Int) (h:a.length<=maxLen):xe w (a,b,id)=some (QW id a):=by
 apply QuR
 have e:=Q5 a.length (fun i=>JT wl (id,a,((a.length:Nat):Int),(i:Int))) (fun i=>QmE id (a.drop i))
  (fun i hi ih=>by
    apply QfE
    simp only[Qc6,ilt hi,Qj hi,Qf hi,inc hi h,QQ1,ih]
    rw[QRa hi,QmE]
    by_cases hx:a[i].1=id
    ·simp only[hx,decide_true,QQ1,if_true]
    ·simp only[hx,decide_false,QQ2,if_false])
  (by
    apply QfE
    simp only[Qc6,Qo,QQ2,QRl,QmE])
 simp only[QQ6,QRg]at e
 simp only[Qjm,e,QQ0,QiV]
theorem Qmt (a:List Qg) (b:List Qb) (id:Int) (h:a.length<=maxLen):Kt w (a,b,id)=some (QW id a):=by
 apply Qu6
 have e:=Q5 a.length (fun i=>JE wl (id,(i:Int),a,b)) (fun i=>QmE id (a.drop i))
  (fun i hi ih=>by
    apply QgG
    simp only[QcN,ilt hi,Qj hi,Qf hi,inc hi h,QQ1,ih]
    rw[QRa hi,QmE]
    by_cases hx:a[i].1=id
    ·simp only[hx,decide_true,QQ1,if_true]
    ·simp only[hx,decide_false,QQ2,if_false])
  (by
    apply QgG
    simp only[QcN,Qo,QQ2,QRl,QmE])
 simp only[QQ6,QRg]at e
 simp only[Qj5,e,QQ0,QiV]
theorem QhZ (a:List Qg) (b:List Qb) (id:Int) (h:b.length<=maxLen):VP w (a,b,id)=some (Q4 id b):=by
 apply QuK
 have e:=Q5 b.length (fun i=>qc wl (id,b,((b.length:Nat):Int),(i:Int))) (fun i=>Qmw id (b.drop i))
  (fun i hi ih=>by
    apply QgP
    simp only[Qa3,ilt hi,Qj hi,Qf hi,inc hi h,QQ1,ih]
    rw[QRa hi,Qmw]
    by_cases hx:b[i].1=id
    ·simp only[hx,decide_true,QQ1,if_true]
    ·simp only[hx,decide_false,QQ2,if_false])
  (by
    apply QgP
    simp only[Qa3,Qo,QQ2,QRl,Qmw])
 simp only[QQ6,QRg]at e
 simp only[QjG,e,QQ0,Qkl]
theorem QeH (a:List Qg) (b:List Qb) (id:Int) (h:b.length<=maxLen):Ku w (a,b,id)=some (Q4 id b):=by
 apply QuJ
 have e:=Q5 b.length (fun i=>Jq wl (id,(i:Int),a,b)) (fun i=>Qmw id (b.drop i))
  (fun i hi ih=>by
    apply Qft
    simp only[Qc1,ilt hi,Qj hi,Qf hi,inc hi h,QQ1,ih]
    rw[QRa hi,Qmw]
    by_cases hx:b[i].1=id
    ·simp only[hx,decide_true,QQ1,if_true]
    ·simp only[hx,decide_false,QQ2,if_false])
  (by
    apply Qft
    simp only[Qc1,Qo,QQ2,QRl,Qmw])
 simp only[QQ6,QRg]at e
 simp only[QjJ,e,QQ0,Qkl]
def QR:Int->List Qb->Bool
 |_,[]=>true
 |p,x::l=>inR x.1 0 4&&inR x.2 1 1000&&decide (p<x.1)&&QR x.1 l
def Xu (fl:List Qb):Int->List Qg->Bool
 |_,[]=>true
 |p,x::l=>inR x.1 0 4&&Zd x.2&&decide (Q4 x.1 fl<x.2.1)&&decide (p<x.1)&&Xu fl x.1 l
def QK (s:Qk):Bool:=QR (-1) s.2&&Xu s.2 (-1) s.1
def qD (b:List Qb) (i:Nat):Int:=if i=0 then -1 else(b.getD (i - 1) (0,0)).1
def QeX (b:List Qg) (i:Nat):Int:=if i=0 then -1 else(b.getD (i - 1) XZ).1
theorem Qh9 (b:List Qb) {i:Nat}(h:i<b.length):qD b (i+1)=b[i].1:=by simp[qD,List.getD,h]
theorem Qt4 (b:List Qg) {i:Nat}(h:i<b.length):QeX b (i+1)=b[i].1:=by simp[QeX,List.getD,h]
theorem QlY (b:List Qb) {i:Nat}(h0:0<i) (h:i - 1<b.length):qD b i=b[i - 1].1:=by
 simp[qD,List.getD,h,show¬i=0 by omega]
theorem QwN (b:List Qg) {i:Nat}(h0:0<i) (h:i - 1<b.length):QeX b i=b[i - 1].1:=by
 simp[QeX,List.getD,h,show¬i=0 by omega]
theorem Qem {n:Int}(h:inR n 0 4=true): -1<n:=by
 simp[inR]at h;omega
theorem zz (a b:Int):decide (a<=b)= !decide (b<a):=by
 by_cases h:a<=b
 ·rw[dt h,df (by omega)];rfl
 ·rw[df h,dt (by omega)];rfl
theorem Yp (a:List Qg) (b:List Qb) (ha:a.length<=maxLen) (hb:b.length<=maxLen):XG w (a,b)=some (QK (a,b)):=by
 apply Qu0
 have e0:=Q5 b.length (fun i=>KE wl (b,((b.length:Nat):Int),(i:Int),a,b)) (fun i=>if QR (qD b i) (b.drop i)then .inr (a,b)else .inl false)
  (fun i hi ih=>by
    apply QfX
    simp only[QbK,ilt hi,Qj hi,Qf hi,inc hi hb,QQ1,ih,Qga,Xi,QQ0]
    rw[QRa hi,QR,Qh9 b hi]
    rcases Nat.eq_zero_or_pos i with h0|h0
    ·subst h0
     cases h1:inR b[0].1 0 4
     ·simp
     ·have:=Qem h1
      simp only[QoA,QQ2,QQ3,qD,if_true,dt this,QRd,QRn]
      cases inR b[0].2 1 1000<;>simp
    ·have hi':i - 1<b.length:=by omega
     simp only[ipos h0,QQ1,Qqp h0 (by omega),Qj hi',Qf hi',QlY b h0 hi',zz]
     cases inR b[i].1 0 4<;>cases inR b[i].2 1 1000<;>cases decide (b[i - 1].1<b[i].1)<;>simp)
  (by
    apply QfX
    simp only[QbK,Qo,QQ2,QRl,QR,if_true])
 have e2:=Q5 a.length (fun i=>KR wl (a,((a.length:Nat):Int),(i:Int),a,b)) (fun i=>if Xu b (QeX a i) (a.drop i)then .inr ()else .inl false)
  (fun i hi ih=>by
    apply QgM
    simp only[Qbf,ilt hi,Qj hi,Qf hi,inc hi ha,QQ1,ih,Qga,QE0,QhZ _ _ _ hb,QQ0]
    rw[QRa hi,Xu,Qt4 a hi]
    rcases Nat.eq_zero_or_pos i with h0|h0
    ·subst h0
     cases h1:inR a[0].1 0 4
     ·simp
     ·have:=Qem h1
      simp only[QoA,QQ2,QQ3,QeX,if_true,dt this,QRd,QRn,zz]
      cases Zd a[0].2<;>cases decide (Q4 a[0].1 b<a[0].2.1)<;>simp
    ·have hi':i - 1<a.length:=by omega
     simp only[ipos h0,QQ1,Qqp h0 (by omega),Qj hi',Qf hi',QwN a h0 hi',zz]
     cases inR a[i].1 0 4<;>cases Zd a[i].2<;>cases decide (Q4 a[i].1 b<a[i].2.1)<;>cases decide (a[i - 1].1<a[i].1)<;>simp)
  (by
    apply QgM
    simp only[Qbf,Qo,QQ2,QRl,Xu,if_true])
 simp only[QQ6,QRg,qD,QeX,if_true]at e0 e2
 simp only[Qi3,e0,QQ0,QK]
 cases QR (-1) b
 ·simp[Qp]
 ·simp only[if_true,Qp,QY0,e2,QQ0,QRd]
  cases Xu b (-1) a<;>simp
theorem Vo (a:List Qg) (b:List Qb) (ha:a.length<=maxLen) (hb:b.length<=maxLen):Zw w (a,b)=some (QK (a,b)):=by
 apply Qu2
 have e2:=Q5 b.length (fun i=>KN wl ((i:Int),a,b)) (fun i=>if QR (qD b i) (b.drop i)then .inr ()else .inl false)
  (fun i hi ih=>by
    apply Qgt
    simp only[Qbr,ilt hi,Qj hi,Qf hi,inc hi hb,QQ1,ih,QgE,Xx,QQ0]
    rw[QRa hi,QR,Qh9 b hi]
    rcases Nat.eq_zero_or_pos i with h0|h0
    ·subst h0
     cases h1:inR b[0].1 0 4
     ·simp
     ·have:=Qem h1
      simp only[QoA,QQ2,QQ3,qD,if_true,dt this,QRd,QRn]
      cases inR b[0].2 1 1000<;>simp
    ·have hi':i - 1<b.length:=by omega
     simp only[ipos h0,QQ1,Qqp h0 (by omega),Qj hi',Qf hi',QlY b h0 hi',zz]
     cases inR b[i].1 0 4<;>cases inR b[i].2 1 1000<;>cases decide (b[i - 1].1<b[i].1)<;>simp)
  (by
    apply Qgt
    simp only[Qbr,Qo,QQ2,QRl,QR,if_true])
 have e0:=Q5 a.length (fun i=>KF wl ((i:Int),a,b)) (fun i=>if Xu b (QeX a i) (a.drop i)then .inr (a,b)else .inl false)
  (fun i hi ih=>by
    apply Qfb
    simp only[Qbx,ilt hi,Qj hi,Qf hi,inc hi ha,QQ1,ih,QgE,QDb,QeH _ _ _ hb,QQ0]
    rw[QRa hi,Xu,Qt4 a hi]
    rcases Nat.eq_zero_or_pos i with h0|h0
    ·subst h0
     cases h1:inR a[0].1 0 4
     ·simp
     ·have:=Qem h1
      simp only[QoA,QQ2,QQ3,QeX,if_true,dt this,QRd,QRn,zz]
      cases Zd a[0].2<;>cases decide (Q4 a[0].1 b<a[0].2.1)<;>simp
    ·have hi':i - 1<a.length:=by omega
     simp only[ipos h0,QQ1,Qqp h0 (by omega),Qj hi',Qf hi',QwN a h0 hi',zz]
     cases inR a[i].1 0 4<;>cases Zd a[i].2<;>cases decide (Q4 a[i].1 b<a[i].2.1)<;>cases decide (a[i - 1].1<a[i].1)<;>simp)
  (by
    apply Qfb
    simp only[Qbx,Qo,QQ2,QRl,Xu,if_true])
 simp only[QQ6,QRg,qD,QeX,if_true]at e0 e2
 simp only[QkH,e0,QQ0,QK]
 cases Xu b (-1) a
 ·simp[Qp]
 ·simp only[if_true,Qp,QY0,e2,QQ0,QRn]
  cases QR (-1) b<;>simp
end Go.Proofs.YtiejfnbmficbmaaGreat.M
