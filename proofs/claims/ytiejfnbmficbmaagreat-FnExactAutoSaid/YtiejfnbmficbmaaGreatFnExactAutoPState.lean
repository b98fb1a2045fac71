/- What the plain forms that FnExactAuto reaches come to: PState. No conditions but those that each theorem states. -/
import Derived.Test.YtiejfnbmficbmaaGreatFnExactAutoRaw0
import Derived.Test.YtiejfnbmficbmaaGreatFnExactAutoRaw1
import Derived.Test.YtiejfnbmficbmaaGreatFnExactAutoRaw2
import Derived.Test.YtiejfnbmficbmaaGreatFnExactAutoRaw3
import Derived.Test.YtiejfnbmficbmaaGreatFnExactAutoRaw4
import Derived.Test.YtiejfnbmficbmaaGreatFnExactAutoRaw5
import Derived.Test.YtiejfnbmficbmaaGreatFnExactAutoRaw6
import Derived.Test.YtiejfnbmficbmaaGreatFnExactAutoRaw7
import Derived.Test.YtiejfnbmficbmaaGreatFnExactAutoRaw8
import Derived.Test.YtiejfnbmficbmaaGreatFnExactAutoRaw9
import Derived.Test.YtiejfnbmficbmaaGreatFnExactAutoRaw10
set_option linter.all false
namespace Go.Proofs.YtiejfnbmficbmaaGreat.M
open Go Go.Eng Go.Proofs
set_option linter.unusedVariables false
def inR (n lo hi:Int):Bool:=decide (lo<=n)&&decide (n<=hi)
theorem Xi (n lo hi:Int):QA w (n,lo,hi)=some (inR n lo hi):=by
 apply QwF
 simp only[QlR,inR]
 cases decide (lo<=n)<;>rfl
theorem XD (n lo hi:Int):QF w (n,lo,hi)=some (inR n lo hi):=by
 apply QAV
 simp only[Qpw,inR]
 cases decide (lo<=n)<;>rfl
theorem Qat (n:Int):Yu w n=some (inR n 0 4):=by
 apply Qwk
 simp only[QlK,Xi,QQ0]
theorem Qas (n:Int):Yt w n=some (inR n 0 4):=by
 apply QwL
 simp only[Qma,XD,QQ0]
def XG (e:XO):Bool:=inR e.1 1 1000&&inR e.2.1 0 1&&inR e.2.2.1 0 100000&&inR e.2.2.2.1 0 1000&&decide (((ByteArray.size e.2.2.2.2:Nat):Int)<=8)
theorem QEV (a b c d:Int) (s:ByteArray):yu w (a,b,c,d,s)=some (XG (a,b,c,d,s)):=by
 apply QtQ
 simp only[Qki,Xi,QQ0,XG]
 cases inR a 1 1000<;>cases inR b 0 1<;>cases inR c 0 100000<;>cases inR d 0 1000<;>simp
theorem QBY (a b c d:Int) (s:ByteArray):qR w (a,b,c,d,s)=some (XG (a,b,c,d,s)):=by
 apply QtM
 simp only[QiZ,XD,QQ0,XG]
 cases inR a 1 1000<;>cases inR b 0 1<;>cases inR c 0 100000<;>cases inR d 0 1000<;>simp
theorem QFq (e:XO):yu w e=some (XG e):=QEV ..
theorem QEA (e:XO):qR w e=some (XG e):=QBY ..
def QS (id:Int):List Qd->Int×Int×Int×Int×ByteArray×Bool
 | []=>(0,0,0,0,ByteArray.empty,false)
 |x::l=>if x.1=id then(x.2.1,x.2.2.1,x.2.2.2.1,x.2.2.2.2.1,x.2.2.2.2.2,true)else QS id l
def Q5 (id:Int):List Qa->Int
 | []=>0
 |x::l=>if x.1=id then x.2 else Q5 id l
def Qm3 (id:Int):List Qd->(Bool×Int×Int×Int×Int×ByteArray)⊕Unit
 | []=> .inr ()
 |x::l=>if x.1=id then .inl (true,x.2)else Qm3 id l
theorem QkN (id:Int):(l:List Qd)->Qp (Qm3 id l) (fun u3=>some (u3.2.1,u3.2.2.1,u3.2.2.2.1,u3.2.2.2.2.1,u3.2.2.2.2.2,u3.1)) (fun z4=>some (0,0,0,0,ByteArray.empty,false))=some (QS id l)
 | []=>rfl
 |x::l=>by
  have ih:=QkN id l
  by_cases h:x.1=id
  ·simp only[Qm3,QS,h,if_true,Qp,Sum.elim_inl]
  ·simp only[Qm3,QS,h,if_false];exact ih
def QmP (id:Int):List Qa->Int⊕Unit
 | []=> .inr ()
 |x::l=>if x.1=id then .inl x.2 else QmP id l
theorem Qjd (id:Int):(l:List Qa)->Qp (QmP id l) (fun u3=>some u3) (fun z4=>some 0)=some (Q5 id l)
 | []=>rfl
 |x::l=>by
  have ih:=Qjd id l
  by_cases h:x.1=id
  ·simp only[QmP,Q5,h,if_true,Qp,Sum.elim_inl]
  ·simp only[QmP,Q5,h,if_false];exact ih
theorem Qin (a:List Qd) (b:List Qa) (id:Int) (h:a.length<=maxLen):VP w (a,b,id)=some (QS id a):=by
 apply Quo
 have e:=Q7 a.length (fun i=>JY wl (id,a,((a.length:Nat):Int),(i:Int))) (fun i=>Qm3 id (a.drop i))
  (fun i hi ih=>by
    apply QfB
    simp only[Qbm,ilt hi,Qk hi,Qg hi,inc hi h,QQ1,ih]
    rw[QRa hi,Qm3]
    by_cases hx:a[i].1=id
    ·simp only[hx,decide_true,QQ1,if_true]
    ·simp only[hx,decide_false,QQ2,if_false])
  (by
    apply QfB
    simp only[Qbm,Qm,QQ2,QRl,Qm3])
 simp only[QQ6,QRg]at e
 simp only[Qkn,e,QQ0,QkN]
theorem Qfc (a:List Qd) (b:List Qa) (id:Int) (h:a.length<=maxLen):YH w (a,b,id)=some (QS id a):=by
 apply QuF
 have e:=Q7 a.length (fun i=>J7 wl (id,(i:Int),a,b)) (fun i=>Qm3 id (a.drop i))
  (fun i hi ih=>by
    apply QgH
    simp only[QbH,ilt hi,Qk hi,Qg hi,inc hi h,QQ1,ih]
    rw[QRa hi,Qm3]
    by_cases hx:a[i].1=id
    ·simp only[hx,decide_true,QQ1,if_true]
    ·simp only[hx,decide_false,QQ2,if_false])
  (by
    apply QgH
    simp only[QbH,Qm,QQ2,QRl,Qm3])
 simp only[QQ6,QRg]at e
 simp only[Qke,e,QQ0,QkN]
theorem Qh0 (a:List Qd) (b:List Qa) (id:Int) (h:b.length<=maxLen):V4 w (a,b,id)=some (Q5 id b):=by
 apply Qux
 have e:=Q7 b.length (fun i=>JA wl (id,b,((b.length:Nat):Int),(i:Int))) (fun i=>QmP id (b.drop i))
  (fun i hi ih=>by
    apply QfO
    simp only[Qbf,ilt hi,Qk hi,Qg hi,inc hi h,QQ1,ih]
    rw[QRa hi,QmP]
    by_cases hx:b[i].1=id
    ·simp only[hx,decide_true,QQ1,if_true]
    ·simp only[hx,decide_false,QQ2,if_false])
  (by
    apply QfO
    simp only[Qbf,Qm,QQ2,QRl,QmP])
 simp only[QQ6,QRg]at e
 simp only[Qkq,e,QQ0,Qjd]
theorem QeB (a:List Qd) (b:List Qa) (id:Int) (h:b.length<=maxLen):KC w (a,b,id)=some (Q5 id b):=by
 apply Qvv
 have e:=Q7 b.length (fun i=>JU wl (id,(i:Int),a,b)) (fun i=>QmP id (b.drop i))
  (fun i hi ih=>by
    apply QgD
    simp only[QaS,ilt hi,Qk hi,Qg hi,inc hi h,QQ1,ih]
    rw[QRa hi,QmP]
    by_cases hx:b[i].1=id
    ·simp only[hx,decide_true,QQ1,if_true]
    ·simp only[hx,decide_false,QQ2,if_false])
  (by
    apply QgD
    simp only[QaS,Qm,QQ2,QRl,QmP])
 simp only[QQ6,QRg]at e
 simp only[QkK,e,QQ0,Qjd]
def QR:Int->List Qa->Bool
 |_,[]=>true
 |p,x::l=>inR x.1 0 4&&inR x.2 1 1000&&decide (p<x.1)&&QR x.1 l
def Xx (fl:List Qa):Int->List Qd->Bool
 |_,[]=>true
 |p,x::l=>inR x.1 0 4&&XG x.2&&decide (Q5 x.1 fl<x.2.1)&&decide (p<x.1)&&Xx fl x.1 l
def QD (s:Qi):Bool:=QR (-1) s.2&&Xx s.2 (-1) s.1
def qQ (b:List Qa) (i:Nat):Int:=if i=0 then -1 else(b.getD (i - 1) (0,0)).1
def Qfd (b:List Qd) (i:Nat):Int:=if i=0 then -1 else(b.getD (i - 1) XV).1
theorem Qij (b:List Qa) {i:Nat}(h:i<b.length):qQ b (i+1)=b[i].1:=by simp[qQ,List.getD,h]
theorem Qtd (b:List Qd) {i:Nat}(h:i<b.length):Qfd b (i+1)=b[i].1:=by simp[Qfd,List.getD,h]
theorem QlI (b:List Qa) {i:Nat}(h0:0<i) (h:i - 1<b.length):qQ b i=b[i - 1].1:=by
 simp[qQ,List.getD,h,show¬i=0 by omega]
theorem QxU (b:List Qd) {i:Nat}(h0:0<i) (h:i - 1<b.length):Qfd b i=b[i - 1].1:=by
 simp[Qfd,List.getD,h,show¬i=0 by omega]
theorem QdZ {n:Int}(h:inR n 0 4=true): -1<n:=by
 simp[inR]at h;omega
theorem zE (a b:Int):decide (a<=b)= !decide (b<a):=by
 by_cases h:a<=b
 ·rw[dt h,df (by omega)];rfl
 ·rw[df h,dt (by omega)];rfl
theorem ZA (a:List Qd) (b:List Qa) (ha:a.length<=maxLen) (hb:b.length<=maxLen):Xs w (a,b)=some (QD (a,b)):=by
 apply Qu8
 have e0:=Q7 b.length (fun i=>KO wl (b,((b.length:Nat):Int),(i:Int),a,b)) (fun i=>if QR (qQ b i) (b.drop i)then .inr (a,b)else .inl false)
  (fun i hi ih=>by
    apply QfZ
    simp only[Qcs,ilt hi,Qk hi,Qg hi,inc hi hb,QQ1,ih,Qat,Xi,QQ0]
    rw[QRa hi,QR,Qij b hi]
    rcases Nat.eq_zero_or_pos i with h0|h0
    ·subst h0
     cases h1:inR b[0].1 0 4
     ·simp
     ·have:=QdZ h1
      simp only[Qos,QQ2,QQ3,qQ,if_true,dt this,QRd,QRn]
      cases inR b[0].2 1 1000<;>simp
    ·have hi':i - 1<b.length:=by omega
     simp only[ipos h0,QQ1,Qp0 h0 (by omega),Qk hi',Qg hi',QlI b h0 hi',zE]
     cases inR b[i].1 0 4<;>cases inR b[i].2 1 1000<;>cases decide (b[i - 1].1<b[i].1)<;>simp)
  (by
    apply QfZ
    simp only[Qcs,Qm,QQ2,QRl,QR,if_true])
 have e2:=Q7 a.length (fun i=>K3 wl (a,((a.length:Nat):Int),(i:Int),a,b)) (fun i=>if Xx b (Qfd a i) (a.drop i)then .inr ()else .inl false)
  (fun i hi ih=>by
    apply Qfz
    simp only[Qdn,ilt hi,Qk hi,Qg hi,inc hi ha,QQ1,ih,Qat,QFq,Qh0 _ _ _ hb,QQ0]
    rw[QRa hi,Xx,Qtd a hi]
    rcases Nat.eq_zero_or_pos i with h0|h0
    ·subst h0
     cases h1:inR a[0].1 0 4
     ·simp
     ·have:=QdZ h1
      simp only[Qos,QQ2,QQ3,Qfd,if_true,dt this,QRd,QRn,zE]
      cases XG a[0].2<;>cases decide (Q5 a[0].1 b<a[0].2.1)<;>simp
    ·have hi':i - 1<a.length:=by omega
     simp only[ipos h0,QQ1,Qp0 h0 (by omega),Qk hi',Qg hi',QxU a h0 hi',zE]
     cases inR a[i].1 0 4<;>cases XG a[i].2<;>cases decide (Q5 a[i].1 b<a[i].2.1)<;>cases decide (a[i - 1].1<a[i].1)<;>simp)
  (by
    apply Qfz
    simp only[Qdn,Qm,QQ2,QRl,Xx,if_true])
 simp only[QQ6,QRg,qQ,Qfd,if_true]at e0 e2
 simp only[QiT,e0,QQ0,QD]
 cases QR (-1) b
 ·simp[Qp]
 ·simp only[if_true,Qp,QY0,e2,QQ0,QRd]
  cases Xx b (-1) a<;>simp
theorem ZK (a:List Qd) (b:List Qa) (ha:a.length<=maxLen) (hb:b.length<=maxLen):XA w (a,b)=some (QD (a,b)):=by
 apply Qt7
 have e2:=Q7 b.length (fun i=>KI wl ((i:Int),a,b)) (fun i=>if QR (qQ b i) (b.drop i)then .inr ()else .inl false)
  (fun i hi ih=>by
    apply QgI
    simp only[QaY,ilt hi,Qk hi,Qg hi,inc hi hb,QQ1,ih,Qas,XD,QQ0]
    rw[QRa hi,QR,Qij b hi]
    rcases Nat.eq_zero_or_pos i with h0|h0
    ·subst h0
     cases h1:inR b[0].1 0 4
     ·simp
     ·have:=QdZ h1
      simp only[Qos,QQ2,QQ3,qQ,if_true,dt this,QRd,QRn]
      cases inR b[0].2 1 1000<;>simp
    ·have hi':i - 1<b.length:=by omega
     simp only[ipos h0,QQ1,Qp0 h0 (by omega),Qk hi',Qg hi',QlI b h0 hi',zE]
     cases inR b[i].1 0 4<;>cases inR b[i].2 1 1000<;>cases decide (b[i - 1].1<b[i].1)<;>simp)
  (by
    apply QgI
    simp only[QaY,Qm,QQ2,QRl,QR,if_true])
 have e0:=Q7 a.length (fun i=>KW wl ((i:Int),a,b)) (fun i=>if Xx b (Qfd a i) (a.drop i)then .inr (a,b)else .inl false)
  (fun i hi ih=>by
    apply QgA
    simp only[Qdv,ilt hi,Qk hi,Qg hi,inc hi ha,QQ1,ih,Qas,QEA,QeB _ _ _ hb,QQ0]
    rw[QRa hi,Xx,Qtd a hi]
    rcases Nat.eq_zero_or_pos i with h0|h0
    ·subst h0
     cases h1:inR a[0].1 0 4
     ·simp
     ·have:=QdZ h1
      simp only[Qos,QQ2,QQ3,Qfd,if_true,dt this,QRd,QRn,zE]
      cases XG a[0].2<;>cases decide (Q5 a[0].1 b<a[0].2.1)<;>simp
    ·have hi':i - 1<a.length:=by omega
     simp only[ipos h0,QQ1,Qp0 h0 (by omega),Qk hi',Qg hi',QxU a h0 hi',zE]
     cases inR a[i].1 0 4<;>cases XG a[i].2<;>cases decide (Q5 a[i].1 b<a[i].2.1)<;>cases decide (a[i - 1].1<a[i].1)<;>simp)
  (by
    apply QgA
    simp only[Qdv,Qm,QQ2,QRl,Xx,if_true])
 simp only[QQ6,QRg,qQ,Qfd,if_true]at e0 e2
 simp only[QiP,e0,QQ0,QD]
 cases Xx b (-1) a
 ·simp[Qp]
 ·simp only[if_true,Qp,QY0,e2,QQ0,QRn]
  cases QR (-1) b<;>simp
end Go.Proofs.YtiejfnbmficbmaaGreat.M
