/- What the plain forms that FnExactGiveAll reaches come to: PState. No conditions but those that each theorem states. -/
import Derived.Test.YtiejfnbmficbmaaGreatFnExactGiveAllRaw0
import Derived.Test.YtiejfnbmficbmaaGreatFnExactGiveAllRaw1
import Derived.Test.YtiejfnbmficbmaaGreatFnExactGiveAllRaw2
import Derived.Test.YtiejfnbmficbmaaGreatFnExactGiveAllRaw3
import Derived.Test.YtiejfnbmficbmaaGreatFnExactGiveAllRaw4
import Derived.Test.YtiejfnbmficbmaaGreatFnExactGiveAllRaw5
import Derived.Test.YtiejfnbmficbmaaGreatFnExactGiveAllRaw6
import Derived.Test.YtiejfnbmficbmaaGreatFnExactGiveAllRaw7
import Derived.Test.YtiejfnbmficbmaaGreatFnExactGiveAllRaw8
import Derived.Test.YtiejfnbmficbmaaGreatFnExactGiveAllRaw9
set_option linter.all false
namespace Go.Proofs.YtiejfnbmficbmaaGreat.M
open Go Go.Eng Go.Proofs
set_option linter.unusedVariables false
def inR (n lo hi:Int):Bool:=decide (lo<=n)&&decide (n<=hi)
theorem Xi (n lo hi:Int):QA w (n,lo,hi)=some (inR n lo hi):=by
 apply QxF
 simp only[QnH,inR]
 cases decide (lo<=n)<;>rfl
theorem XN (n lo hi:Int):QL w (n,lo,hi)=some (inR n lo hi):=by
 apply QBy
 simp only[QqF,inR]
 cases decide (lo<=n)<;>rfl
theorem Qid (n:Int):Ko w n=some (inR n 0 4):=by
 apply Qze
 simp only[Qny,Xi,QQ0]
theorem QgN (n:Int):Kw w n=some (inR n 0 4):=by
 apply QxO
 simp only[QmZ,XN,QQ0]
def X2 (e:XT):Bool:=inR e.1 1 1000&&inR e.2.1 0 1&&inR e.2.2.1 0 100000&&inR e.2.2.2.1 0 1000&&decide (((ByteArray.size e.2.2.2.2:Nat):Int)<=8)
theorem QFo (a b c d:Int) (s:ByteArray):jk w (a,b,c,d,s)=some (X2 (a,b,c,d,s)):=by
 apply QvZ
 simp only[Qko,Xi,QQ0,X2]
 cases inR a 1 1000<;>cases inR b 0 1<;>cases inR c 0 100000<;>cases inR d 0 1000<;>simp
theorem QDG (a b c d:Int) (s:ByteArray):xX w (a,b,c,d,s)=some (X2 (a,b,c,d,s)):=by
 apply Qxj
 simp only[Qml,XN,QQ0,X2]
 cases inR a 1 1000<;>cases inR b 0 1<;>cases inR c 0 100000<;>cases inR d 0 1000<;>simp
theorem QHS (e:XT):jk w e=some (X2 e):=QFo ..
theorem QGS (e:XT):xX w e=some (X2 e):=QDG ..
def QZ (id:Int):List Qf->Int×Int×Int×Int×ByteArray×Bool
 | []=>(0,0,0,0,ByteArray.empty,false)
 |x::l=>if x.1=id then(x.2.1,x.2.2.1,x.2.2.2.1,x.2.2.2.2.1,x.2.2.2.2.2,true)else QZ id l
def Q7 (id:Int):List Qa->Int
 | []=>0
 |x::l=>if x.1=id then x.2 else Q7 id l
def Qod (id:Int):List Qf->(Bool×Int×Int×Int×Int×ByteArray)⊕Unit
 | []=> .inr ()
 |x::l=>if x.1=id then .inl (true,x.2)else Qod id l
theorem Ql1 (id:Int):(l:List Qf)->Qn (Qod id l) (fun u3=>some (u3.2.1,u3.2.2.1,u3.2.2.2.1,u3.2.2.2.2.1,u3.2.2.2.2.2,u3.1)) (fun z4=>some (0,0,0,0,ByteArray.empty,false))=some (QZ id l)
 | []=>rfl
 |x::l=>by
  have ih:=Ql1 id l
  by_cases h:x.1=id
  ·simp only[Qod,QZ,h,if_true,Qn,Sum.elim_inl]
  ·simp only[Qod,QZ,h,if_false];exact ih
def Qn4 (id:Int):List Qa->Int⊕Unit
 | []=> .inr ()
 |x::l=>if x.1=id then .inl x.2 else Qn4 id l
theorem Qln (id:Int):(l:List Qa)->Qn (Qn4 id l) (fun u3=>some u3) (fun z4=>some 0)=some (Q7 id l)
 | []=>rfl
 |x::l=>by
  have ih:=Qln id l
  by_cases h:x.1=id
  ·simp only[Qn4,Q7,h,if_true,Qn,Sum.elim_inl]
  ·simp only[Qn4,Q7,h,if_false];exact ih
theorem Qp1 (a:List Qf) (b:List Qa) (id:Int) (h:a.length<=maxLen):xV w (a,b,id)=some (QZ id a):=by
 apply QvP
 have e:=Q3 a.length (fun i=>qc wl (id,a,((a.length:Nat):Int),(i:Int))) (fun i=>Qod id (a.drop i))
  (fun i hi ih=>by
    apply Qii
    simp only[Qeq,ilt hi,Qj hi,Qg hi,inc hi h,QQ1,ih]
    rw[QRa hi,Qod]
    by_cases hx:a[i].1=id
    ·simp only[hx,decide_true,QQ1,if_true]
    ·simp only[hx,decide_false,QQ2,if_false])
  (by
    apply Qii
    simp only[Qeq,Qo,QQ2,QRl,Qod])
 simp only[QQ6,QRg]at e
 simp only[Qkr,e,QQ0,Ql1]
theorem Qon (a:List Qf) (b:List Qa) (id:Int) (h:a.length<=maxLen):KH w (a,b,id)=some (QZ id a):=by
 apply Qw4
 have e:=Q3 a.length (fun i=>J9 wl (id,(i:Int),a,b)) (fun i=>Qod id (a.drop i))
  (fun i hi ih=>by
    apply QgV
    simp only[QbV,ilt hi,Qj hi,Qg hi,inc hi h,QQ1,ih]
    rw[QRa hi,Qod]
    by_cases hx:a[i].1=id
    ·simp only[hx,decide_true,QQ1,if_true]
    ·simp only[hx,decide_false,QQ2,if_false])
  (by
    apply QgV
    simp only[QbV,Qo,QQ2,QRl,Qod])
 simp only[QQ6,QRg]at e
 simp only[Qj5,e,QQ0,Ql1]
theorem Qjv (a:List Qf) (b:List Qa) (id:Int) (h:b.length<=maxLen):V5 w (a,b,id)=some (Q7 id b):=by
 apply Qxm
 have e:=Q3 b.length (fun i=>J5 wl (id,b,((b.length:Nat):Int),(i:Int))) (fun i=>Qn4 id (b.drop i))
  (fun i hi ih=>by
    apply Qg4
    simp only[QeM,ilt hi,Qj hi,Qg hi,inc hi h,QQ1,ih]
    rw[QRa hi,Qn4]
    by_cases hx:b[i].1=id
    ·simp only[hx,decide_true,QQ1,if_true]
    ·simp only[hx,decide_false,QQ2,if_false])
  (by
    apply Qg4
    simp only[QeM,Qo,QQ2,QRl,Qn4])
 simp only[QQ6,QRg]at e
 simp only[Ql8,e,QQ0,Qln]
theorem Qf3 (a:List Qf) (b:List Qa) (id:Int) (h:b.length<=maxLen):KI w (a,b,id)=some (Q7 id b):=by
 apply Qu9
 have e:=Q3 b.length (fun i=>qz wl (id,(i:Int),a,b)) (fun i=>Qn4 id (b.drop i))
  (fun i hi ih=>by
    apply QhC
    simp only[Qcb,ilt hi,Qj hi,Qg hi,inc hi h,QQ1,ih]
    rw[QRa hi,Qn4]
    by_cases hx:b[i].1=id
    ·simp only[hx,decide_true,QQ1,if_true]
    ·simp only[hx,decide_false,QQ2,if_false])
  (by
    apply QhC
    simp only[Qcb,Qo,QQ2,QRl,Qn4])
 simp only[QQ6,QRg]at e
 simp only[QlN,e,QQ0,Qln]
def QO:Int->List Qa->Bool
 |_,[]=>true
 |p,x::l=>inR x.1 0 4&&inR x.2 1 1000&&decide (p<x.1)&&QO x.1 l
def Xv (fl:List Qa):Int->List Qf->Bool
 |_,[]=>true
 |p,x::l=>inR x.1 0 4&&X2 x.2&&decide (Q7 x.1 fl<x.2.1)&&decide (p<x.1)&&Xv fl x.1 l
def QF (s:Qk):Bool:=QO (-1) s.2&&Xv s.2 (-1) s.1
def xy (b:List Qa) (i:Nat):Int:=if i=0 then -1 else(b.getD (i - 1) (0,0)).1
def Qgz (b:List Qf) (i:Nat):Int:=if i=0 then -1 else(b.getD (i - 1) Zc).1
theorem QjD (b:List Qa) {i:Nat}(h:i<b.length):xy b (i+1)=b[i].1:=by simp[xy,List.getD,h]
theorem QwK (b:List Qf) {i:Nat}(h:i<b.length):Qgz b (i+1)=b[i].1:=by simp[Qgz,List.getD,h]
theorem Qm2 (b:List Qa) {i:Nat}(h0:0<i) (h:i - 1<b.length):xy b i=b[i - 1].1:=by
 simp[xy,List.getD,h,show¬i=0 by omega]
theorem Qzm (b:List Qf) {i:Nat}(h0:0<i) (h:i - 1<b.length):Qgz b i=b[i - 1].1:=by
 simp[Qgz,List.getD,h,show¬i=0 by omega]
theorem Qfb {n:Int}(h:inR n 0 4=true): -1<n:=by
 simp[inR]at h;omega
theorem yk (a b:Int):decide (a<=b)= !decide (b<a):=by
 by_cases h:a<=b
 ·rw[dt h,df (by omega)];rfl
 ·rw[df h,dt (by omega)];rfl
theorem Z9 (a:List Qf) (b:List Qa) (ha:a.length<=maxLen) (hb:b.length<=maxLen):XB w (a,b)=some (QF (a,b)):=by
 apply QvM
 have e0:=Q3 b.length (fun i=>Vi wl (b,((b.length:Nat):Int),(i:Int),a,b)) (fun i=>if QO (xy b i) (b.drop i)then .inr (a,b)else .inl false)
  (fun i hi ih=>by
    apply Qh5
    simp only[QbY,ilt hi,Qj hi,Qg hi,inc hi hb,QQ1,ih,Qid,Xi,QQ0]
    rw[QRa hi,QO,QjD b hi]
    rcases Nat.eq_zero_or_pos i with h0|h0
    ·subst h0
     cases h1:inR b[0].1 0 4
     ·simp
     ·have:=Qfb h1
      simp only[Qp3,QQ2,QQ3,xy,if_true,dt this,QRd,QRn]
      cases inR b[0].2 1 1000<;>simp
    ·have hi':i - 1<b.length:=by omega
     simp only[ipos h0,QQ1,QqZ h0 (by omega),Qj hi',Qg hi',Qm2 b h0 hi',yk]
     cases inR b[i].1 0 4<;>cases inR b[i].2 1 1000<;>cases decide (b[i - 1].1<b[i].1)<;>simp)
  (by
    apply Qh5
    simp only[QbY,Qo,QQ2,QRl,QO,if_true])
 have e2:=Q3 a.length (fun i=>K5 wl (a,((a.length:Nat):Int),(i:Int),a,b)) (fun i=>if Xv b (Qgz a i) (a.drop i)then .inr ()else .inl false)
  (fun i hi ih=>by
    apply QgW
    simp only[QbU,ilt hi,Qj hi,Qg hi,inc hi ha,QQ1,ih,Qid,QHS,Qjv _ _ _ hb,QQ0]
    rw[QRa hi,Xv,QwK a hi]
    rcases Nat.eq_zero_or_pos i with h0|h0
    ·subst h0
     cases h1:inR a[0].1 0 4
     ·simp
     ·have:=Qfb h1
      simp only[Qp3,QQ2,QQ3,Qgz,if_true,dt this,QRd,QRn,yk]
      cases X2 a[0].2<;>cases decide (Q7 a[0].1 b<a[0].2.1)<;>simp
    ·have hi':i - 1<a.length:=by omega
     simp only[ipos h0,QQ1,QqZ h0 (by omega),Qj hi',Qg hi',Qzm a h0 hi',yk]
     cases inR a[i].1 0 4<;>cases X2 a[i].2<;>cases decide (Q7 a[i].1 b<a[i].2.1)<;>cases decide (a[i - 1].1<a[i].1)<;>simp)
  (by
    apply QgW
    simp only[QbU,Qo,QQ2,QRl,Xv,if_true])
 simp only[QQ6,QRg,xy,Qgz,if_true]at e0 e2
 simp only[Qlz,e0,QQ0,QF]
 cases QO (-1) b
 ·simp[Qn]
 ·simp only[if_true,Qn,QY0,e2,QQ0,QRd]
  cases Xv b (-1) a<;>simp
theorem Ky (a:List Qf) (b:List Qa) (ha:a.length<=maxLen) (hb:b.length<=maxLen):Zo w (a,b)=some (QF (a,b)):=by
 apply QuG
 have e2:=Q3 b.length (fun i=>KM wl ((i:Int),a,b)) (fun i=>if QO (xy b i) (b.drop i)then .inr ()else .inl false)
  (fun i hi ih=>by
    apply QhI
    simp only[Qck,ilt hi,Qj hi,Qg hi,inc hi hb,QQ1,ih,QgN,XN,QQ0]
    rw[QRa hi,QO,QjD b hi]
    rcases Nat.eq_zero_or_pos i with h0|h0
    ·subst h0
     cases h1:inR b[0].1 0 4
     ·simp
     ·have:=Qfb h1
      simp only[Qp3,QQ2,QQ3,xy,if_true,dt this,QRd,QRn]
      cases inR b[0].2 1 1000<;>simp
    ·have hi':i - 1<b.length:=by omega
     simp only[ipos h0,QQ1,QqZ h0 (by omega),Qj hi',Qg hi',Qm2 b h0 hi',yk]
     cases inR b[i].1 0 4<;>cases inR b[i].2 1 1000<;>cases decide (b[i - 1].1<b[i].1)<;>simp)
  (by
    apply QhI
    simp only[Qck,Qo,QQ2,QRl,QO,if_true])
 have e0:=Q3 a.length (fun i=>K4 wl ((i:Int),a,b)) (fun i=>if Xv b (Qgz a i) (a.drop i)then .inr (a,b)else .inl false)
  (fun i hi ih=>by
    apply Qg3
    simp only[Qdg,ilt hi,Qj hi,Qg hi,inc hi ha,QQ1,ih,QgN,QGS,Qf3 _ _ _ hb,QQ0]
    rw[QRa hi,Xv,QwK a hi]
    rcases Nat.eq_zero_or_pos i with h0|h0
    ·subst h0
     cases h1:inR a[0].1 0 4
     ·simp
     ·have:=Qfb h1
      simp only[Qp3,QQ2,QQ3,Qgz,if_true,dt this,QRd,QRn,yk]
      cases X2 a[0].2<;>cases decide (Q7 a[0].1 b<a[0].2.1)<;>simp
    ·have hi':i - 1<a.length:=by omega
     simp only[ipos h0,QQ1,QqZ h0 (by omega),Qj hi',Qg hi',Qzm a h0 hi',yk]
     cases inR a[i].1 0 4<;>cases X2 a[i].2<;>cases decide (Q7 a[i].1 b<a[i].2.1)<;>cases decide (a[i - 1].1<a[i].1)<;>simp)
  (by
    apply Qg3
    simp only[Qdg,Qo,QQ2,QRl,Xv,if_true])
 simp only[QQ6,QRg,xy,Qgz,if_true]at e0 e2
 simp only[QlV,e0,QQ0,QF]
 cases Xv b (-1) a
 ·simp[Qn]
 ·simp only[if_true,Qn,QY0,e2,QQ0,QRn]
  cases QO (-1) b<;>simp
end Go.Proofs.YtiejfnbmficbmaaGreat.M
