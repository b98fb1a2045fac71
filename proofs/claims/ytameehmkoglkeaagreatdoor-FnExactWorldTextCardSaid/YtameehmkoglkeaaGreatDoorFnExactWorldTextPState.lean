/- What the plain forms that FnExactWorldText reaches come to: PState. No conditions but those that each theorem states. -/
import Derived.Test.YtameehmkoglkeaaGreatDoorFnExactWorldTextRaw0
import Derived.Test.YtameehmkoglkeaaGreatDoorFnExactWorldTextRaw1
import Derived.Test.YtameehmkoglkeaaGreatDoorFnExactWorldTextRaw2
import Derived.Test.YtameehmkoglkeaaGreatDoorFnExactWorldTextRaw3
import Derived.Test.YtameehmkoglkeaaGreatDoorFnExactWorldTextRaw4
import Derived.Test.YtameehmkoglkeaaGreatDoorFnExactWorldTextRaw5
import Derived.Test.YtameehmkoglkeaaGreatDoorFnExactWorldTextRaw6
import Derived.Lib.Bytealg
set_option linter.all false
namespace Go.Proofs.YtameehmkoglkeaaGreatDoor.M
open Go Go.Eng Go.Proofs
set_option linter.unusedVariables false
def inR (n lo hi:Int):Bool:=decide (lo<=n)&&decide (n<=hi)
theorem Q8 (n lo hi:Int):Qt w (n,lo,hi)=some (inR n lo hi):=by
 apply QpD
 simp only[QgY,inR]
 cases decide (lo<=n)<;>rfl
theorem XE (n lo hi:Int):QD w (n,lo,hi)=some (inR n lo hi):=by
 apply QrV
 simp only[Qjg,inR]
 cases decide (lo<=n)<;>rfl
theorem Qck (n:Int):ZY w n=some (inR n 0 4):=by
 apply QoI
 simp only[Qgw,Q8,QQ0]
theorem QbD (n:Int):ZW w n=some (inR n 0 4):=by
 apply Qo1
 simp only[QgM,XE,QQ0]
def Zm (e:XI):Bool:=inR e.1 1 1000&&inR e.2.1 0 1&&inR e.2.2.1 0 100000&&inR e.2.2.2.1 0 1000&&decide (((ByteArray.size e.2.2.2.2:Nat):Int)<=8)
theorem QvX (a b c d:Int) (s:ByteArray):qu w (a,b,c,d,s)=some (Zm (a,b,c,d,s)):=by
 apply QnE
 simp only[QeL,Q8,QQ0,Zm]
 cases inR a 1 1000<;>cases inR b 0 1<;>cases inR c 0 100000<;>cases inR d 0 1000<;>simp
theorem QsU (a b c d:Int) (s:ByteArray):Vz w (a,b,c,d,s)=some (Zm (a,b,c,d,s)):=by
 apply QnF
 simp only[QfP,XE,QQ0,Zm]
 cases inR a 1 1000<;>cases inR b 0 1<;>cases inR c 0 100000<;>cases inR d 0 1000<;>simp
theorem Qwc (e:XI):qu w e=some (Zm e):=QvX ..
theorem QvZ (e:XI):Vz w e=some (Zm e):=QsU ..
def xi (id:Int):List Qg->Int×Int×Int×Int×ByteArray×Bool
 | []=>(0,0,0,0,ByteArray.empty,false)
 |x::l=>if x.1=id then(x.2.1,x.2.2.1,x.2.2.2.1,x.2.2.2.2.1,x.2.2.2.2.2,true)else xi id l
def X0 (id:Int):List Qb->Int
 | []=>0
 |x::l=>if x.1=id then x.2 else X0 id l
def Qg5 (id:Int):List Qb->Int⊕Unit
 | []=> .inr ()
 |x::l=>if x.1=id then .inl x.2 else Qg5 id l
theorem QeE (id:Int):(l:List Qb)->Qo (Qg5 id l) (fun u3=>some u3) (fun z4=>some 0)=some (X0 id l)
 | []=>rfl
 |x::l=>by
  have ih:=QeE id l
  by_cases h:x.1=id
  ·simp only[Qg5,X0,h,if_true,Qo,Sum.elim_inl]
  ·simp only[Qg5,X0,h,if_false];exact ih
theorem Qvw (a:List Qg) (b:List Qb) (id:Int) (h:b.length<=maxLen):jD w (a,b,id)=some (X0 id b):=by
 apply QmC
 have e:=QX b.length (fun i=>Ko wl (id,b,((b.length:Nat):Int),(i:Int))) (fun i=>Qg5 id (b.drop i))
  (fun i hi ih=>by
    apply QcC
    simp only[yY,ilt hi,Ql hi,Qi hi,inc hi h,QQ1,ih]
    rw[QRa hi,Qg5]
    by_cases hx:b[i].1=id
    ·simp only[hx,decide_true,QQ1,if_true]
    ·simp only[hx,decide_false,QQ2,if_false])
  (by
    apply QcC
    simp only[yY,Qs,QQ2,QRl,Qg5])
 simp only[QQ6,QRg]at e
 simp only[Qfo,e,QQ0,QeE]
theorem Qtj (a:List Qg) (b:List Qb) (id:Int) (h:b.length<=maxLen):qz w (a,b,id)=some (X0 id b):=by
 apply Qoa
 have e:=QX b.length (fun i=>KU wl (id,(i:Int),a,b)) (fun i=>Qg5 id (b.drop i))
  (fun i hi ih=>by
    apply QbB
    simp only[vn,ilt hi,Ql hi,Qi hi,inc hi h,QQ1,ih]
    rw[QRa hi,Qg5]
    by_cases hx:b[i].1=id
    ·simp only[hx,decide_true,QQ1,if_true]
    ·simp only[hx,decide_false,QQ2,if_false])
  (by
    apply QbB
    simp only[vn,Qs,QQ2,QRl,Qg5])
 simp only[QQ6,QRg]at e
 simp only[QeA,e,QQ0,QeE]
def QJ:Int->List Qb->Bool
 |_,[]=>true
 |p,x::l=>inR x.1 0 4&&inR x.2 1 1000&&decide (p<x.1)&&QJ x.1 l
def Xx (fl:List Qb):Int->List Qg->Bool
 |_,[]=>true
 |p,x::l=>inR x.1 0 4&&Zm x.2&&decide (X0 x.1 fl<x.2.1)&&decide (p<x.1)&&Xx fl x.1 l
def Q0 (s:Qn):Bool:=QJ (-1) s.2&&Xx s.2 (-1) s.1
def Vq (b:List Qb) (i:Nat):Int:=if i=0 then -1 else(b.getD (i - 1) (0,0)).1
def Qba (b:List Qg) (i:Nat):Int:=if i=0 then -1 else(b.getD (i - 1) Ya).1
theorem QdG (b:List Qb) {i:Nat}(h:i<b.length):Vq b (i+1)=b[i].1:=by simp[Vq,List.getD,h]
theorem Qnu (b:List Qg) {i:Nat}(h:i<b.length):Qba b (i+1)=b[i].1:=by simp[Qba,List.getD,h]
theorem Qgs (b:List Qb) {i:Nat}(h0:0<i) (h:i - 1<b.length):Vq b i=b[i - 1].1:=by
 simp[Vq,List.getD,h,show¬i=0 by omega]
theorem Qp5 (b:List Qg) {i:Nat}(h0:0<i) (h:i - 1<b.length):Qba b i=b[i - 1].1:=by
 simp[Qba,List.getD,h,show¬i=0 by omega]
theorem QaC {n:Int}(h:inR n 0 4=true): -1<n:=by
 simp[inR]at h;omega
theorem JK (a b:Int):decide (a<=b)= !decide (b<a):=by
 by_cases h:a<=b
 ·rw[dt h,df (by omega)];rfl
 ·rw[df h,dt (by omega)];rfl
theorem YG (a:List Qg) (b:List Qb) (ha:a.length<=maxLen) (hb:b.length<=maxLen):XK w (a,b)=some (Q0 (a,b)):=by
 apply QmU
 have e0:=QX b.length (fun i=>Ym wl (b,((b.length:Nat):Int),(i:Int),a,b)) (fun i=>if QJ (Vq b i) (b.drop i)then .inr (a,b)else .inl false)
  (fun i hi ih=>by
    apply QbO
    simp only[vA,ilt hi,Ql hi,Qi hi,inc hi hb,QQ1,ih,Qck,Q8,QQ0]
    rw[QRa hi,QJ,QdG b hi]
    rcases Nat.eq_zero_or_pos i with h0|h0
    ·subst h0
     cases h1:inR b[0].1 0 4
     ·simp
     ·have:=QaC h1
      simp only[QiD,QQ2,QQ3,Vq,if_true,dt this,QRd,QRn]
      cases inR b[0].2 1 1000<;>simp
    ·have hi':i - 1<b.length:=by omega
     simp only[ipos h0,QQ1,QjB h0 (by omega),Ql hi',Qi hi',Qgs b h0 hi',JK]
     cases inR b[i].1 0 4<;>cases inR b[i].2 1 1000<;>cases decide (b[i - 1].1<b[i].1)<;>simp)
  (by
    apply QbO
    simp only[vA,Qs,QQ2,QRl,QJ,if_true])
 have e2:=QX a.length (fun i=>Z6 wl (a,((a.length:Nat):Int),(i:Int),a,b)) (fun i=>if Xx b (Qba a i) (a.drop i)then .inr ()else .inl false)
  (fun i hi ih=>by
    apply Qcf
    simp only[jd,ilt hi,Ql hi,Qi hi,inc hi ha,QQ1,ih,Qck,Qwc,Qvw _ _ _ hb,QQ0]
    rw[QRa hi,Xx,Qnu a hi]
    rcases Nat.eq_zero_or_pos i with h0|h0
    ·subst h0
     cases h1:inR a[0].1 0 4
     ·simp
     ·have:=QaC h1
      simp only[QiD,QQ2,QQ3,Qba,if_true,dt this,QRd,QRn,JK]
      cases Zm a[0].2<;>cases decide (X0 a[0].1 b<a[0].2.1)<;>simp
    ·have hi':i - 1<a.length:=by omega
     simp only[ipos h0,QQ1,QjB h0 (by omega),Ql hi',Qi hi',Qp5 a h0 hi',JK]
     cases inR a[i].1 0 4<;>cases Zm a[i].2<;>cases decide (X0 a[i].1 b<a[i].2.1)<;>cases decide (a[i - 1].1<a[i].1)<;>simp)
  (by
    apply Qcf
    simp only[jd,Qs,QQ2,QRl,Xx,if_true])
 simp only[QQ6,QRg,Vq,Qba,if_true]at e0 e2
 simp only[QfL,e0,QQ0,Q0]
 cases QJ (-1) b
 ·simp[Qo]
 ·simp only[if_true,Qo,Sum.elim_inr,e2,QQ0,QRd]
  cases Xx b (-1) a<;>simp
theorem Vf (a:List Qg) (b:List Qb) (ha:a.length<=maxLen) (hb:b.length<=maxLen):Zd w (a,b)=some (Q0 (a,b)):=by
 apply QnP
 have e2:=QX b.length (fun i=>Z3 wl ((i:Int),a,b)) (fun i=>if QJ (Vq b i) (b.drop i)then .inr ()else .inl false)
  (fun i hi ih=>by
    apply QbH
    simp only[yR,ilt hi,Ql hi,Qi hi,inc hi hb,QQ1,ih,QbD,XE,QQ0]
    rw[QRa hi,QJ,QdG b hi]
    rcases Nat.eq_zero_or_pos i with h0|h0
    ·subst h0
     cases h1:inR b[0].1 0 4
     ·simp
     ·have:=QaC h1
      simp only[QiD,QQ2,QQ3,Vq,if_true,dt this,QRd,QRn]
      cases inR b[0].2 1 1000<;>simp
    ·have hi':i - 1<b.length:=by omega
     simp only[ipos h0,QQ1,QjB h0 (by omega),Ql hi',Qi hi',Qgs b h0 hi',JK]
     cases inR b[i].1 0 4<;>cases inR b[i].2 1 1000<;>cases decide (b[i - 1].1<b[i].1)<;>simp)
  (by
    apply QbH
    simp only[yR,Qs,QQ2,QRl,QJ,if_true])
 have e0:=QX a.length (fun i=>Ye wl ((i:Int),a,b)) (fun i=>if Xx b (Qba a i) (a.drop i)then .inr (a,b)else .inl false)
  (fun i hi ih=>by
    apply Qb3
    simp only[yE,ilt hi,Ql hi,Qi hi,inc hi ha,QQ1,ih,QbD,QvZ,Qtj _ _ _ hb,QQ0]
    rw[QRa hi,Xx,Qnu a hi]
    rcases Nat.eq_zero_or_pos i with h0|h0
    ·subst h0
     cases h1:inR a[0].1 0 4
     ·simp
     ·have:=QaC h1
      simp only[QiD,QQ2,QQ3,Qba,if_true,dt this,QRd,QRn,JK]
      cases Zm a[0].2<;>cases decide (X0 a[0].1 b<a[0].2.1)<;>simp
    ·have hi':i - 1<a.length:=by omega
     simp only[ipos h0,QQ1,QjB h0 (by omega),Ql hi',Qi hi',Qp5 a h0 hi',JK]
     cases inR a[i].1 0 4<;>cases Zm a[i].2<;>cases decide (X0 a[i].1 b<a[i].2.1)<;>cases decide (a[i - 1].1<a[i].1)<;>simp)
  (by
    apply Qb3
    simp only[yE,Qs,QQ2,QRl,Xx,if_true])
 simp only[QQ6,QRg,Vq,Qba,if_true]at e0 e2
 simp only[Qfj,e0,QQ0,Q0]
 cases Xx b (-1) a
 ·simp[Qo]
 ·simp only[if_true,Qo,Sum.elim_inr,e2,QQ0,QRn]
  cases QJ (-1) b<;>simp
end Go.Proofs.YtameehmkoglkeaaGreatDoor.M
namespace Go.Proofs.YtameehmkoglkeaaGreatDoor.M
open Go Go.Eng Go.Proofs
set_option linter.unusedVariables false
def V9 (x:XI):Nat:=ByteArray.size x.2.2.2.2
def Qi6 (x:XI):Prop:=ByteArray.size x.2.2.2.2<=maxLen
theorem Qwo {x:XI}(h:Vn Qm7 x):Qi6 x:=h.2.2.2.2.1
theorem Qxs (a0:Int) (a1:Int) (a2:Int) (a3:Int) (a4:ByteArray) (l:Int) (h0:0<=l) (hB:l<=1048576) (hf:Qi6 (a0,a1,a2,a3,a4)):Qaa w (a0,a1,a2,a3,a4,l)=some (szI (V9 (a0,a1,a2,a3,a4)) l):=by
 apply Qol
 simp only[Qi6]at hf
 have e:V9 (a0,a1,a2,a3,a4)=(ByteArray.size a4+0):=by simp only[V9];omega
 rw[e]
 simp only[QeP]
 refine Js (by omega) (by omega) (hf) fun _=> ?_
 rw[w64 (by omega) (by omega)]
 exact Z7 (by omega)
def XS (x:Qg):Nat:=V9 (x.2.1,x.2.2.1,x.2.2.2.1,x.2.2.2.2.1,x.2.2.2.2.2)
def QkA (x:Qg):Prop:=Qi6 (x.2.1,x.2.2.1,x.2.2.2.1,x.2.2.2.2.1,x.2.2.2.2.2)
theorem QyG {x:Qg}(h:Vn QL x):QkA x:=Qwo ⟨h.2.1,h.2.2.1,h.2.2.2.1,h.2.2.2.2.1,h.2.2.2.2.2.1,trivial⟩
theorem Qua (a0:Int) (a1:Int) (a2:Int) (a3:Int) (a4:Int) (a5:ByteArray) (l:Int) (h0:0<=l) (hB:l<=1048576) (hf:QkA (a0,a1,a2,a3,a4,a5)):Qbt w (a0,a1,a2,a3,a4,a5,l)=some (szI (XS (a0,a1,a2,a3,a4,a5)) l):=by
 apply Qpu
 simp only[QkA]at hf
 have e:XS (a0,a1,a2,a3,a4,a5)=(V9 (a1,a2,a3,a4,a5)+0):=by simp only[XS];omega
 rw[e]
 simp only[QfX]
 refine X7 (by omega) (Qxs a1 a2 a3 a4 a5 _ (by omega) (by omega) (hf)) fun _=> ?_
 exact Z7 (by omega)
def qQ (a:List Qg):Nat:=a.length+Jf XS a
def Qiy (a:List Qg):Prop:=a.length<=maxLen/\∀x∈a,QkA x
theorem Qyv (a:List Qg) (l:Int) (h0:0<=l) (hB:l<=1048576) (hf:Qiy a):je w (a,l)=some (szI (qQ a) l):=by
 apply Qn6
 simp only[Qfk,qQ]
 refine Js h0 hB hf.1 fun h=> ?_
 have e:=QdL XS a (fun l i=>KS wl (a,l,(i:Int))) 1048576
  (fun l i h1 r h0 hB h2 hk=>by
    apply qE
    have hs:=Qua (a[i]).1 (a[i]).2.1 (a[i]).2.2.1 (a[i]).2.2.2.1 (a[i]).2.2.2.2.1 (a[i]).2.2.2.2.2 l (by omega) (by omega) (hf.2 _ (QRf h1))
    have hs2:szI (XS a[i]) l=l - XS a[i]:=YR h2
    simp only[qe,ilt h1,Ql h1,Qi h1,inc h1 (show a.length<=maxLen from hf.1),QQ1,hs,QQ0]
    simp only[show szI (XS ((a[i]).1,(a[i]).2.1,(a[i]).2.2.1,(a[i]).2.2.2.1,(a[i]).2.2.2.2.1,(a[i]).2.2.2.2.2)) l=l - XS a[i]from hs2,df (show¬l - (XS a[i]:Int)<0 by omega),QQ2]
    exact hk)
  (fun l i h1 h0 hB h2=>by
    apply qE
    have hs:=Qua (a[i]).1 (a[i]).2.1 (a[i]).2.2.1 (a[i]).2.2.2.1 (a[i]).2.2.2.2.1 (a[i]).2.2.2.2.2 l (by omega) (by omega) (hf.2 _ (QRf h1))
    have hs2:szI (XS a[i]) l= -1:=Yf h2
    simp only[qe,ilt h1,Ql h1,Qi h1,QQ1,hs,QQ0]
    simp only[show szI (XS ((a[i]).1,(a[i]).2.1,(a[i]).2.2.1,(a[i]).2.2.2.1,(a[i]).2.2.2.2.1,(a[i]).2.2.2.2.2)) l= -1 from hs2,dt (show(-1:Int)<0 by omega),QQ1])
  (fun l=>by
    apply qE
    simp only[qe,Qs,QQ2])
  (l - a.length) (by omega) (by omega)
 have hl:=hf.1
 simp only[maxLen]at hl
 rw[w64 (by omega) (by omega)]
 simp only[QQ6]at e
 rw[e,QQ0,QaA]
def qR (a:List Qb):Nat:=a.length
def Qgr (a:List Qb):Prop:=a.length<=maxLen
theorem Qv3 (a:List Qb) (l:Int) (h0:0<=l) (hB:l<=1048576) (hf:Qgr a):zn w (a,l)=some (szI (qR a) l):=by
 apply Qlp
 simp only[Qdg]
 exact Js (m:=0) h0 hB hf fun h=>by rw[w64 (by omega) (by omega)];exact Z7 (by omega)
def Xi (x:Qn):Nat:=qQ x.1+qR x.2
def qK (x:Qn):Prop:=Qiy x.1/\Qgr x.2
theorem QjM {x:Qn}(h:Vn Zl x):qK x:=⟨⟨h.1.1,fun y hy=>QyG (h.1.2 y hy)⟩,h.2.1.1⟩
theorem Qi4 (a0:List Qg) (a1:List Qb) (l:Int) (h0:0<=l) (hB:l<=1048576) (hf:qK (a0,a1)):VJ w (a0,a1,l)=some (szI (Xi (a0,a1)) l):=by
 apply QmY
 simp only[qK]at hf
 have e:Xi (a0,a1)=(qQ a0+(qR a1+0)):=by simp only[Xi];omega
 rw[e]
 simp only[QeH]
 refine X7 (by omega) (Qyv a0 _ (by omega) (by omega) (hf.1)) fun _=> ?_
 refine X7 (by omega) (Qv3 a1 _ (by omega) (by omega) (hf.2)) fun _=> ?_
 exact Z7 (by omega)
def Xs (a:List Int):Nat:=a.length
def QdM (a:List Int):Prop:=a.length<=maxLen
theorem Qhn (a:List Int) (l:Int) (h0:0<=l) (hB:l<=1048576) (hf:QdM a):Vb w (a,l)=some (szI (Xs a) l):=by
 apply Qo8
 simp only[QgO]
 exact Js (m:=0) h0 hB hf fun h=>by rw[w64 (by omega) (by omega)];exact Z7 (by omega)
def xl (x:ZU):Nat:=Xs x.1
def Qh3 (x:ZU):Prop:=QdM x.1
theorem QxO {x:ZU}(h:Vn Qre x):Qh3 x:=h.1.1
theorem QzF (a0:List Int) (a1:Int) (l:Int) (h0:0<=l) (hB:l<=1048576) (hf:Qh3 (a0,a1)):Qbv w (a0,a1,l)=some (szI (xl (a0,a1)) l):=by
 apply Qps
 simp only[Qh3]at hf
 have e:xl (a0,a1)=(Xs a0+0):=by simp only[xl];omega
 rw[e]
 simp only[QgQ]
 refine X7 (by omega) (Qhn a0 _ (by omega) (by omega) (hf)) fun _=> ?_
 exact Z7 (by omega)
def V4 (a:List Qn):Nat:=a.length+Jf Xi a
def Qjo (a:List Qn):Prop:=a.length<=maxLen/\∀x∈a,qK x
theorem Qw1 (a:List Qn) (l:Int) (h0:0<=l) (hB:l<=1048576) (hf:Qjo a):zl w (a,l)=some (szI (V4 a) l):=by
 apply QlE
 simp only[Qdd,V4]
 refine Js h0 hB hf.1 fun h=> ?_
 have e:=QdL Xi a (fun l i=>Y6 wl (a,l,(i:Int))) 1048576
  (fun l i h1 r h0 hB h2 hk=>by
    apply JT
    have hs:=Qi4 (a[i]).1 (a[i]).2 l (by omega) (by omega) (hf.2 _ (QRf h1))
    have hs2:szI (Xi a[i]) l=l - Xi a[i]:=YR h2
    simp only[Jl,ilt h1,Ql h1,Qi h1,inc h1 (show a.length<=maxLen from hf.1),QQ1,hs,QQ0]
    simp only[show szI (Xi ((a[i]).1,(a[i]).2)) l=l - Xi a[i]from hs2,df (show¬l - (Xi a[i]:Int)<0 by omega),QQ2]
    exact hk)
  (fun l i h1 h0 hB h2=>by
    apply JT
    have hs:=Qi4 (a[i]).1 (a[i]).2 l (by omega) (by omega) (hf.2 _ (QRf h1))
    have hs2:szI (Xi a[i]) l= -1:=Yf h2
    simp only[Jl,ilt h1,Ql h1,Qi h1,QQ1,hs,QQ0]
    simp only[show szI (Xi ((a[i]).1,(a[i]).2)) l= -1 from hs2,dt (show(-1:Int)<0 by omega),QQ1])
  (fun l=>by
    apply JT
    simp only[Jl,Qs,QQ2])
  (l - a.length) (by omega) (by omega)
 have hl:=hf.1
 simp only[maxLen]at hl
 rw[w64 (by omega) (by omega)]
 simp only[QQ6]at e
 rw[e,QQ0,QaA]
def vK (x:Qap):Nat:=V4 x.2.2
def QjC (x:Qap):Prop:=Qjo x.2.2
theorem Qz2 {x:Qap}(h:Vn QsB x):QjC x:=⟨h.2.2.1.1,fun y hy=>QjM (h.2.2.1.2 y hy)⟩
theorem QAF (a0:Int) (a1:Int) (a2:List Qn) (l:Int) (h0:0<=l) (hB:l<=1048576) (hf:QjC (a0,a1,a2)):QdF w (a0,a1,a2,l)=some (szI (vK (a0,a1,a2)) l):=by
 apply QqV
 simp only[QjC]at hf
 have e:vK (a0,a1,a2)=(V4 a2+0):=by simp only[vK];omega
 rw[e]
 simp only[QhT]
 refine X7 (by omega) (Qw1 a2 _ (by omega) (by omega) (hf)) fun _=> ?_
 exact Z7 (by omega)
def qH (a:List (List Int)):Nat:=a.length+Jf Xs a
def QlZ (a:List (List Int)):Prop:=a.length<=maxLen/\∀x∈a,QdM x
theorem Qyt (a:List (List Int)) (l:Int) (h0:0<=l) (hB:l<=1048576) (hf:QlZ a):vW w (a,l)=some (szI (qH a) l):=by
 apply QmR
 simp only[Qd6,qH]
 refine Js h0 hB hf.1 fun h=> ?_
 have e:=QdL Xs a (fun l i=>K7 wl (a,l,(i:Int))) 1048576
  (fun l i h1 r h0 hB h2 hk=>by
    apply qI
    have hs:=Qhn a[i] l (by omega) (by omega) (hf.2 _ (QRf h1))
    have hs2:szI (Xs a[i]) l=l - Xs a[i]:=YR h2
    simp only[JZ,ilt h1,Ql h1,Qi h1,inc h1 (show a.length<=maxLen from hf.1),QQ1,hs,QQ0]
    simp only[show szI (Xs (a[i])) l=l - Xs a[i]from hs2,df (show¬l - (Xs a[i]:Int)<0 by omega),QQ2]
    exact hk)
  (fun l i h1 h0 hB h2=>by
    apply qI
    have hs:=Qhn a[i] l (by omega) (by omega) (hf.2 _ (QRf h1))
    have hs2:szI (Xs a[i]) l= -1:=Yf h2
    simp only[JZ,ilt h1,Ql h1,Qi h1,QQ1,hs,QQ0]
    simp only[show szI (Xs (a[i])) l= -1 from hs2,dt (show(-1:Int)<0 by omega),QQ1])
  (fun l=>by
    apply qI
    simp only[JZ,Qs,QQ2])
  (l - a.length) (by omega) (by omega)
 have hl:=hf.1
 simp only[maxLen]at hl
 rw[w64 (by omega) (by omega)]
 simp only[QQ6]at e
 rw[e,QQ0,QaA]
def zI (a:List QY):Nat:=a.length
def QlO (a:List QY):Prop:=a.length<=maxLen
theorem Qxl (a:List QY) (l:Int) (h0:0<=l) (hB:l<=1048576) (hf:QlO a):yw w (a,l)=some (szI (zI a) l):=by
 apply Qmx
 simp only[QeW]
 exact Js (m:=0) h0 hB hf fun h=>by rw[w64 (by omega) (by omega)];exact Z7 (by omega)
def zL (a:List Q2):Nat:=a.length
def QlU (a:List Q2):Prop:=a.length<=maxLen
theorem Qye (a:List Q2) (l:Int) (h0:0<=l) (hB:l<=1048576) (hf:QlU a):v7 w (a,l)=some (szI (zL a) l):=by
 apply Qor
 simp only[Qfu]
 exact Js (m:=0) h0 hB hf fun h=>by rw[w64 (by omega) (by omega)];exact Z7 (by omega)
def XT (x:Qp):Nat:=Xi (x.2.2.1,x.2.2.2.1)+xl (x.2.2.2.2.1,x.2.2.2.2.2.1)+vK (x.2.2.2.2.2.2.1,x.2.2.2.2.2.2.2.1,x.2.2.2.2.2.2.2.2.1)+Xs x.2.2.2.2.2.2.2.2.2.1+Xs x.2.2.2.2.2.2.2.2.2.2.1+qH x.2.2.2.2.2.2.2.2.2.2.2.1+zI x.2.2.2.2.2.2.2.2.2.2.2.2.2.2.1+zL x.2.2.2.2.2.2.2.2.2.2.2.2.2.2.2.2.2.2
def QdP (x:Qp):Prop:=qK (x.2.2.1,x.2.2.2.1)/\Qh3 (x.2.2.2.2.1,x.2.2.2.2.2.1)/\QjC (x.2.2.2.2.2.2.1,x.2.2.2.2.2.2.2.1,x.2.2.2.2.2.2.2.2.1)/\QdM x.2.2.2.2.2.2.2.2.2.1/\QdM x.2.2.2.2.2.2.2.2.2.2.1/\QlZ x.2.2.2.2.2.2.2.2.2.2.2.1/\QlO x.2.2.2.2.2.2.2.2.2.2.2.2.2.2.1/\QlU x.2.2.2.2.2.2.2.2.2.2.2.2.2.2.2.2.2.2
theorem QxC {x:Qp}(h:Vn Vr x):QdP x:=⟨QjM ⟨h.2.2.1,h.2.2.2.1,trivial⟩,QxO ⟨h.2.2.2.2.1,h.2.2.2.2.2.1,trivial⟩,Qz2 ⟨h.2.2.2.2.2.2.1,h.2.2.2.2.2.2.2.1,h.2.2.2.2.2.2.2.2.1,trivial⟩,h.2.2.2.2.2.2.2.2.2.1.1,h.2.2.2.2.2.2.2.2.2.2.1.1,⟨h.2.2.2.2.2.2.2.2.2.2.2.1.1,fun y hy=>((h.2.2.2.2.2.2.2.2.2.2.2.1.2 y hy).1).1⟩,h.2.2.2.2.2.2.2.2.2.2.2.2.2.2.1.1,h.2.2.2.2.2.2.2.2.2.2.2.2.2.2.2.2.2.2.1.1⟩
theorem Qt8 (a0:Int) (a1:Int) (a2:List Qg) (a3:List Qb) (a4:List Int) (a5:Int) (a6:Int) (a7:Int) (a8:List Qn) (a9:List Int) (a10:List Int) (a11:List (List Int)) (a12:Int) (a13:Int) (a14:List QY) (a15:Int) (a16:Int) (a17:Int) (a18:List Q2) (l:Int) (h0:0<=l) (hB:l<=1048576) (hf:QdP (a0,a1,a2,a3,a4,a5,a6,a7,a8,a9,a10,a11,a12,a13,a14,a15,a16,a17,a18)):Qbu w (a0,a1,a2,a3,a4,a5,a6,a7,a8,a9,a10,a11,a12,a13,a14,a15,a16,a17,a18,l)=some (szI (XT (a0,a1,a2,a3,a4,a5,a6,a7,a8,a9,a10,a11,a12,a13,a14,a15,a16,a17,a18)) l):=by
 apply Qo6
 simp only[QdP]at hf
 have e:XT (a0,a1,a2,a3,a4,a5,a6,a7,a8,a9,a10,a11,a12,a13,a14,a15,a16,a17,a18)=(Xi (a2,a3)+(xl (a4,a5)+(vK (a6,a7,a8)+(Xs a9+(Xs a10+(qH a11+(zI a14+(zL a18+0)))))))):=by simp only[XT];omega
 rw[e]
 simp only[QgK]
 refine X7 (by omega) (Qi4 a2 a3 _ (by omega) (by omega) (hf.1)) fun _=> ?_
 refine X7 (by omega) (QzF a4 a5 _ (by omega) (by omega) (hf.2.1)) fun _=> ?_
 refine X7 (by omega) (QAF a6 a7 a8 _ (by omega) (by omega) (hf.2.2.1)) fun _=> ?_
 refine X7 (by omega) (Qhn a9 _ (by omega) (by omega) (hf.2.2.2.1)) fun _=> ?_
 refine X7 (by omega) (Qhn a10 _ (by omega) (by omega) (hf.2.2.2.2.1)) fun _=> ?_
 refine X7 (by omega) (Qyt a11 _ (by omega) (by omega) (hf.2.2.2.2.2.1)) fun _=> ?_
 refine X7 (by omega) (Qxl a14 _ (by omega) (by omega) (hf.2.2.2.2.2.2.1)) fun _=> ?_
 refine X7 (by omega) (Qye a18 _ (by omega) (by omega) (hf.2.2.2.2.2.2.2)) fun _=> ?_
 exact Z7 (by omega)
theorem Qyu (a0:Int) (a1:Int) (a2:Int) (a3:Int) (a4:ByteArray) (h:V9 (a0,a1,a2,a3,a4)<=4294967296):vP w (a0,a1,a2,a3,a4)=some (a0,a1,a2,a3,a4):=by
 apply Qoo
 simp only[V9]at h
 simp only[Qeb]
theorem QAn (a0:Int) (a1:Int) (a2:Int) (a3:Int) (a4:Int) (a5:ByteArray) (h:XS (a0,a1,a2,a3,a4,a5)<=4294967296):Qa2 w (a0,a1,a2,a3,a4,a5)=some (a0,a1,a2,a3,a4,a5):=by
 apply QoD
 simp only[XS]at h
 simp only[Qf1,Qyu a1 a2 a3 a4 a5 (by omega),QQ0]
theorem Qxj (a:List Qg) (h:qQ a<=4294967296):jK w a=some a:=by
 apply Ql7
 simp only[qQ]at h
 have e:=YV a (fun x=>x) (fun i out=>K2 wl (a,(i:Int),out)) (fun out=>out)
  (fun i h1 out r ho hk=>by
    apply QbP
    have hb:=Zs XS a i h1
    simp only[vo,ilt h1,ho,Ql h1,Qi h1,inc h1 (show a.length<=maxLen by simp[maxLen];omega),QQ1,QRb,QAn (a[i]).1 (a[i]).2.1 (a[i]).2.2.1 (a[i]).2.2.2.1 (a[i]).2.2.2.2.1 (a[i]).2.2.2.2.2 (show XS a[i]<=4294967296 by omega),QQ0]
    exact hk)
  (fun out ho=>by
    apply QbP
    simp only[vo,Qs,QQ2])
  (List.replicate a.length (0,0,0,0,0,ByteArray.empty)) (by simp)
 rw[List.map_id']at e
 have hf:fits a.length 56=true:=QF (by omega)
 simp only[Qet,QRb,hf]
 simp
 exact e
theorem QxY (a0:Int) (a1:Int):vq w (a0,a1)=some (a0,a1):=by
 apply Qmr
 simp only[Qft]
theorem Qv9 (a:List Qb) (h:qR a<=4294967296):zf w a=some a:=by
 apply QlW
 simp only[qR]at h
 have e:=YV a (fun x=>x) (fun i out=>Y0 wl (a,(i:Int),out)) (fun out=>out)
  (fun i h1 out r ho hk=>by
    apply Qal
    simp only[zH,ilt h1,ho,Ql h1,Qi h1,inc h1 (show a.length<=maxLen by simp[maxLen];omega),QQ1,QRb,QxY (a[i]).1 (a[i]).2,QQ0]
    exact hk)
  (fun out ho=>by
    apply Qal
    simp only[zH,Qs,QQ2])
  (List.replicate a.length (0,0)) (by simp)
 rw[List.map_id']at e
 have hf:fits a.length 16=true:=QF (by omega)
 simp only[Qdf,QRb,hf]
 simp
 exact e
theorem QlP (a0:List Qg) (a1:List Qb) (h:Xi (a0,a1)<=4294967296):VA w (a0,a1)=some (a0,a1):=by
 apply QnH
 simp only[Xi]at h
 simp only[QfC,Qxj a0 (by omega),Qv9 a1 (by omega),QQ0]
theorem Qkr (a:List Int) (h:Xs a<=4294967296):Vm w a=some a:=by
 apply Qpy
 simp only[Xs]at h
 have e:=YV a (fun x=>x) (fun i out=>Vw wl (a,(i:Int),out)) (fun out=>out)
  (fun i h1 out r ho hk=>by
    apply QcX
    simp only[QaM,ilt h1,ho,Ql h1,Qi h1,inc h1 (show a.length<=maxLen by simp[maxLen];omega),QQ1,QRb]
    exact hk)
  (fun out ho=>by
    apply QcX
    simp only[QaM,Qs,QQ2])
  (List.replicate a.length 0) (by simp)
 rw[List.map_id']at e
 have hf:fits a.length 8=true:=QF (by omega)
 simp only[Qf5,QRb,hf]
 simp
 exact e
theorem QzS (a0:List Int) (a1:Int) (h:xl (a0,a1)<=4294967296):Qa6 w (a0,a1)=some (a0,a1):=by
 apply Qo2
 simp only[xl]at h
 simp only[Qgc,Qkr a0 (by omega),QQ0]
theorem QwZ (a:List Qn) (h:V4 a<=4294967296):ze w a=some a:=by
 apply Qlt
 simp only[V4]at h
 have e:=YV a (fun x=>x) (fun i out=>Y1 wl (a,(i:Int),out)) (fun out=>out)
  (fun i h1 out r ho hk=>by
    apply Qaf
    have hb:=Zs Xi a i h1
    simp only[zA,ilt h1,ho,Ql h1,Qi h1,inc h1 (show a.length<=maxLen by simp[maxLen];omega),QQ1,QRb,QlP (a[i]).1 (a[i]).2 (show Xi a[i]<=4294967296 by omega),QQ0]
    exact hk)
  (fun out ho=>by
    apply Qaf
    simp only[zA,Qs,QQ2])
  (List.replicate a.length ([],[])) (by simp)
 rw[List.map_id']at e
 have hf:fits a.length 48=true:=QF (by omega)
 simp only[Qc5,QRb,hf]
 simp
 exact e
theorem QA1 (a0:Int) (a1:Int) (a2:List Qn) (h:vK (a0,a1,a2)<=4294967296):Qdp w (a0,a1,a2)=some (a0,a1,a2):=by
 apply QqF
 simp only[vK]at h
 simp only[QhN,QwZ a2 (by omega),QQ0]
theorem QyD (a:List (List Int)) (h:qH a<=4294967296):vr w a=some a:=by
 apply Qm6
 simp only[qH]at h
 have e:=YV a (fun x=>x) (fun i out=>Kt wl (a,(i:Int),out)) (fun out=>out)
  (fun i h1 out r ho hk=>by
    apply Qb5
    have hb:=Zs Xs a i h1
    simp only[vk,ilt h1,ho,Ql h1,Qi h1,inc h1 (show a.length<=maxLen by simp[maxLen];omega),QQ1,QRb,Qkr a[i] (show Xs a[i]<=4294967296 by omega),QQ0]
    exact hk)
  (fun out ho=>by
    apply Qb5
    simp only[vk,Qs,QQ2])
  (List.replicate a.length []) (by simp)
 rw[List.map_id']at e
 have hf:fits a.length 24=true:=QF (by omega)
 simp only[Qec,QRb,hf]
 simp
 exact e
theorem QAd (a0:Int) (a1:Int) (a2:Bool) (a3:Int):QaR w (a0,a1,a2,a3)=some (a0,a1,a2,a3):=by
 apply QpG
 simp only[Qgy]
theorem Qx5 (a:List QY) (h:zI a<=4294967296):jH w a=some a:=by
 apply QnY
 simp only[zI]at h
 have e:=YV a (fun x=>x) (fun i out=>KX wl (a,(i:Int),out)) (fun out=>out)
  (fun i h1 out r ho hk=>by
    apply QcA
    simp only[jP,ilt h1,ho,Ql h1,Qi h1,inc h1 (show a.length<=maxLen by simp[maxLen];omega),QQ1,QRb,QAd (a[i]).1 (a[i]).2.1 (a[i]).2.2.1 (a[i]).2.2.2,QQ0]
    exact hk)
  (fun out ho=>by
    apply QcA
    simp only[jP,Qs,QQ2])
  (List.replicate a.length (0,0,false,0)) (by simp)
 rw[List.map_id']at e
 have hf:fits a.length 32=true:=QF (by omega)
 simp only[QeV,QRb,hf]
 simp
 exact e
theorem Qz9 (a0:Int) (a1:Int) (a2:Int):Qa3 w (a0,a1,a2)=some (a0,a1,a2):=by
 apply Qpk
 simp only[QgR]
theorem QyV (a:List Q2) (h:zL a<=4294967296):yB w a=some a:=by
 apply Qnn
 simp only[zL]at h
 have e:=YV a (fun x=>x) (fun i out=>KP wl (a,(i:Int),out)) (fun out=>out)
  (fun i h1 out r ho hk=>by
    apply QbI
    simp only[vR,ilt h1,ho,Ql h1,Qi h1,inc h1 (show a.length<=maxLen by simp[maxLen];omega),QQ1,QRb,Qz9 (a[i]).1 (a[i]).2.1 (a[i]).2.2,QQ0]
    exact hk)
  (fun out ho=>by
    apply QbI
    simp only[vR,Qs,QQ2])
  (List.replicate a.length (0,0,0)) (by simp)
 rw[List.map_id']at e
 have hf:fits a.length 24=true:=QF (by omega)
 simp only[Qem,QRb,hf]
 simp
 exact e
theorem QzY (a0:Int) (a1:Int) (a2:List Qg) (a3:List Qb) (a4:List Int) (a5:Int) (a6:Int) (a7:Int) (a8:List Qn) (a9:List Int) (a10:List Int) (a11:List (List Int)) (a12:Int) (a13:Int) (a14:List QY) (a15:Int) (a16:Int) (a17:Int) (a18:List Q2) (h:XT (a0,a1,a2,a3,a4,a5,a6,a7,a8,a9,a10,a11,a12,a13,a14,a15,a16,a17,a18)<=4294967296):QaZ w (a0,a1,a2,a3,a4,a5,a6,a7,a8,a9,a10,a11,a12,a13,a14,a15,a16,a17,a18)=some (a0,a1,a2,a3,a4,a5,a6,a7,a8,a9,a10,a11,a12,a13,a14,a15,a16,a17,a18):=by
 apply Qo7
 simp only[XT]at h
 simp only[QgZ,QlP a2 a3 (by omega),QzS a4 a5 (by omega),QA1 a6 a7 a8 (by omega),Qkr a9 (by omega),Qkr a10 (by omega),QyD a11 (by omega),Qx5 a14 (by omega),QyV a18 (by omega),QQ0]
theorem QxE (a0:Int) (a1:Int) (a2:Int) (a3:Int) (a4:ByteArray) (h:V9 (a0,a1,a2,a3,a4)<=4294967296):jo w (a0,a1,a2,a3,a4,a0,a1,a2,a3,a4)=some true:=by
 apply Qmj
 simp only[V9]at h
 simp only[QeB,decide_true,QQ3,QQ2,QZ,beq_self_eq_true,QQ0]
theorem QAc (a0:Int) (a1:Int) (a2:Int) (a3:Int) (a4:Int) (a5:ByteArray) (h:XS (a0,a1,a2,a3,a4,a5)<=4294967296):Qbk w (a0,a1,a2,a3,a4,a5,a0,a1,a2,a3,a4,a5)=some true:=by
 apply Qoz
 simp only[XS]at h
 simp only[QgA,QxE a1 a2 a3 a4 a5 (by omega),decide_true,QQ3,QQ2,QZ,beq_self_eq_true,QQ0]
theorem Qyx (a:List Qg) (h:qQ a<=4294967296):yM w (a,a)=some true:=by
 apply QmO
 simp only[qQ]at h
 have e:=Y5 a.length (fun i=>K5 wl (a,a,(i:Int))) (.inr ())
  (fun i h1 r hk=>by
    apply Qct
    have hb:=Zs XS a i h1
    simp only[vJ,ilt h1,Ql h1,Qi h1,inc h1 (show a.length<=maxLen by simp[maxLen];omega),QQ1,decide_true,QQ3,QQ2,QZ,beq_self_eq_true,QAc (a[i]).1 (a[i]).2.1 (a[i]).2.2.1 (a[i]).2.2.2.1 (a[i]).2.2.2.2.1 (a[i]).2.2.2.2.2 (show XS a[i]<=4294967296 by omega),QQ0]
    exact hk)
  (by
    apply Qct
    simp only[vJ,Qs,QQ2])
 simp only[QQ6]at e
 simp only[QeG,decide_true,QQ3,QQ2,e,QQ0,Qo,Sum.elim_inr]
theorem Qyz (a0:Int) (a1:Int):jQ w (a0,a1,a0,a1)=some true:=by
 apply Qmo
 simp only[Qfw,decide_true,QQ3,QQ2,QZ,beq_self_eq_true,QQ0]
theorem Qw6 (a:List Qb) (h:qR a<=4294967296):zc w (a,a)=some true:=by
 apply Ql0
 simp only[qR]at h
 have e:=Y5 a.length (fun i=>Y4 wl (a,a,(i:Int))) (.inr ())
  (fun i h1 r hk=>by
    apply Qak
    simp only[zN,ilt h1,Ql h1,Qi h1,inc h1 (show a.length<=maxLen by simp[maxLen];omega),QQ1,decide_true,QQ3,QQ2,QZ,beq_self_eq_true,Qyz (a[i]).1 (a[i]).2,QQ0]
    exact hk)
  (by
    apply Qak
    simp only[zN,Qs,QQ2])
 simp only[QQ6]at e
 simp only[QcY,decide_true,QQ3,QQ2,e,QQ0,Qo,Sum.elim_inr]
theorem Qlz (a0:List Qg) (a1:List Qb) (h:Xi (a0,a1)<=4294967296):VE w (a0,a1,a0,a1)=some true:=by
 apply QnT
 simp only[Xi]at h
 simp only[Qeg,Qyx a0 (by omega),Qw6 a1 (by omega),decide_true,QQ3,QQ2,QZ,beq_self_eq_true,QQ0]
theorem Qkq (a:List Int) (h:Xs a<=4294967296):K9 w (a,a)=some true:=by
 apply QoP
 simp only[Xs]at h
 have e:=Y5 a.length (fun i=>VU wl (a,a,(i:Int))) (.inr ())
  (fun i h1 r hk=>by
    apply Qdn
    simp only[QaE,ilt h1,Ql h1,Qi h1,inc h1 (show a.length<=maxLen by simp[maxLen];omega),QQ1,decide_true,QQ3,QQ2,QZ,beq_self_eq_true]
    exact hk)
  (by
    apply Qdn
    simp only[QaE,Qs,QQ2])
 simp only[QQ6]at e
 simp only[Qgq,decide_true,QQ3,QQ2,e,QQ0,Qo,Sum.elim_inr]
theorem QzK (a0:List Int) (a1:Int) (h:xl (a0,a1)<=4294967296):QaS w (a0,a1,a0,a1)=some true:=by
 apply QoC
 simp only[xl]at h
 simp only[QgN,Qkq a0 (by omega),decide_true,QQ3,QQ2,QZ,beq_self_eq_true,QQ0]
theorem QwT (a:List Qn) (h:V4 a<=4294967296):zg w (a,a)=some true:=by
 apply Qlx
 simp only[V4]at h
 have e:=Y5 a.length (fun i=>YX wl (a,a,(i:Int))) (.inr ())
  (fun i h1 r hk=>by
    apply Qai
    have hb:=Zs Xi a i h1
    simp only[zD,ilt h1,Ql h1,Qi h1,inc h1 (show a.length<=maxLen by simp[maxLen];omega),QQ1,decide_true,QQ3,QQ2,QZ,beq_self_eq_true,Qlz (a[i]).1 (a[i]).2 (show Xi a[i]<=4294967296 by omega),QQ0]
    exact hk)
  (by
    apply Qai
    simp only[zD,Qs,QQ2])
 simp only[QQ6]at e
 simp only[Qdm,decide_true,QQ3,QQ2,e,QQ0,Qo,Sum.elim_inr]
theorem QAG (a0:Int) (a1:Int) (a2:List Qn) (h:vK (a0,a1,a2)<=4294967296):Qdz w (a0,a1,a2,a0,a1,a2)=some true:=by
 apply QqY
 simp only[vK]at h
 simp only[Qhv,QwT a2 (by omega),decide_true,QQ3,QQ2,QZ,beq_self_eq_true,QQ0]
theorem Qyf (a:List (List Int)) (h:qH a<=4294967296):vC w (a,a)=some true:=by
 apply Qm0
 simp only[qH]at h
 have e:=Y5 a.length (fun i=>Kp wl (a,a,(i:Int))) (.inr ())
  (fun i h1 r hk=>by
    apply Qb4
    have hb:=Zs Xs a i h1
    simp only[yN,ilt h1,Ql h1,Qi h1,inc h1 (show a.length<=maxLen by simp[maxLen];omega),QQ1,decide_true,QQ3,QQ2,QZ,beq_self_eq_true,Qkq a[i] (show Xs a[i]<=4294967296 by omega),QQ0]
    exact hk)
  (by
    apply Qb4
    simp only[yN,Qs,QQ2])
 simp only[QQ6]at e
 simp only[QfB,decide_true,QQ3,QQ2,e,QQ0,Qo,Sum.elim_inr]
theorem QzX (a0:Int) (a1:Int) (a2:Bool) (a3:Int):Qa8 w (a0,a1,a2,a3,a0,a1,a2,a3)=some true:=by
 apply QpE
 simp only[QgW,decide_true,QQ3,QQ2,QZ,beq_self_eq_true,QQ0]
theorem QyR (a:List QY) (h:zI a<=4294967296):jb w (a,a)=some true:=by
 apply Qok
 simp only[zI]at h
 have e:=Y5 a.length (fun i=>K3 wl (a,a,(i:Int))) (.inr ())
  (fun i h1 r hk=>by
    apply QcD
    simp only[j6,ilt h1,Ql h1,Qi h1,inc h1 (show a.length<=maxLen by simp[maxLen];omega),QQ1,decide_true,QQ3,QQ2,QZ,beq_self_eq_true,QzX (a[i]).1 (a[i]).2.1 (a[i]).2.2.1 (a[i]).2.2.2,QQ0]
    exact hk)
  (by
    apply QcD
    simp only[j6,Qs,QQ2])
 simp only[QQ6]at e
 simp only[QdZ,decide_true,QQ3,QQ2,e,QQ0,Qo,Sum.elim_inr]
theorem QzQ (a0:Int) (a1:Int) (a2:Int):QaV w (a0,a1,a2,a0,a1,a2)=some true:=by
 apply Qpd
 simp only[Qge,decide_true,QQ3,QQ2,QZ,beq_self_eq_true,QQ0]
theorem QyM (a:List Q2) (h:zL a<=4294967296):vt w (a,a)=some true:=by
 apply QnW
 simp only[zL]at h
 have e:=Y5 a.length (fun i=>Ku wl (a,a,(i:Int))) (.inr ())
  (fun i h1 r hk=>by
    apply Qcs
    simp only[jc,ilt h1,Ql h1,Qi h1,inc h1 (show a.length<=maxLen by simp[maxLen];omega),QQ1,decide_true,QQ3,QQ2,QZ,beq_self_eq_true,QzQ (a[i]).1 (a[i]).2.1 (a[i]).2.2,QQ0]
    exact hk)
  (by
    apply Qcs
    simp only[jc,Qs,QQ2])
 simp only[QQ6]at e
 simp only[QfK,decide_true,QQ3,QQ2,e,QQ0,Qo,Sum.elim_inr]
theorem QzZ (a0:Int) (a1:Int) (a2:List Qg) (a3:List Qb) (a4:List Int) (a5:Int) (a6:Int) (a7:Int) (a8:List Qn) (a9:List Int) (a10:List Int) (a11:List (List Int)) (a12:Int) (a13:Int) (a14:List QY) (a15:Int) (a16:Int) (a17:Int) (a18:List Q2) (h:XT (a0,a1,a2,a3,a4,a5,a6,a7,a8,a9,a10,a11,a12,a13,a14,a15,a16,a17,a18)<=4294967296):Qa4 w (a0,a1,a2,a3,a4,a5,a6,a7,a8,a9,a10,a11,a12,a13,a14,a15,a16,a17,a18,a0,a1,a2,a3,a4,a5,a6,a7,a8,a9,a10,a11,a12,a13,a14,a15,a16,a17,a18)=some true:=by
 apply QoJ
 simp only[XT]at h
 simp only[QgC,Qlz a2 a3 (by omega),QzK a4 a5 (by omega),QAG a6 a7 a8 (by omega),Qkq a9 (by omega),Qkq a10 (by omega),Qyf a11 (by omega),QyR a14 (by omega),QyM a18 (by omega),decide_true,QQ3,QQ2,QZ,beq_self_eq_true,QQ0]
def Jd (a:List Qp):Nat:=a.length+Jf XT a
def QlR (a:List Qp):Prop:=a.length<=maxLen/\∀x∈a,QdP x
theorem QxH (a:List Qp) (l:Int) (h0:0<=l) (hB:l<=1048576) (hf:QlR a):yP w (a,l)=some (szI (Jd a) l):=by
 apply Ql4
 simp only[Qd2,Jd]
 refine Js h0 hB hf.1 fun h=> ?_
 have e:=QdL XT a (fun l i=>Kz wl (a,l,(i:Int))) 1048576
  (fun l i h1 r h0 hB h2 hk=>by
    apply qG
    have hs:=Qt8 (a[i]).1 (a[i]).2.1 (a[i]).2.2.1 (a[i]).2.2.2.1 (a[i]).2.2.2.2.1 (a[i]).2.2.2.2.2.1 (a[i]).2.2.2.2.2.2.1 (a[i]).2.2.2.2.2.2.2.1 (a[i]).2.2.2.2.2.2.2.2.1 (a[i]).2.2.2.2.2.2.2.2.2.1 (a[i]).2.2.2.2.2.2.2.2.2.2.1 (a[i]).2.2.2.2.2.2.2.2.2.2.2.1 (a[i]).2.2.2.2.2.2.2.2.2.2.2.2.1 (a[i]).2.2.2.2.2.2.2.2.2.2.2.2.2.1 (a[i]).2.2.2.2.2.2.2.2.2.2.2.2.2.2.1 (a[i]).2.2.2.2.2.2.2.2.2.2.2.2.2.2.2.1 (a[i]).2.2.2.2.2.2.2.2.2.2.2.2.2.2.2.2.1 (a[i]).2.2.2.2.2.2.2.2.2.2.2.2.2.2.2.2.2.1 (a[i]).2.2.2.2.2.2.2.2.2.2.2.2.2.2.2.2.2.2 l (by omega) (by omega) (hf.2 _ (QRf h1))
    have hs2:szI (XT a[i]) l=l - XT a[i]:=YR h2
    simp only[J2,ilt h1,Ql h1,Qi h1,inc h1 (show a.length<=maxLen from hf.1),QQ1,hs,QQ0]
    simp only[show szI (XT ((a[i]).1,(a[i]).2.1,(a[i]).2.2.1,(a[i]).2.2.2.1,(a[i]).2.2.2.2.1,(a[i]).2.2.2.2.2.1,(a[i]).2.2.2.2.2.2.1,(a[i]).2.2.2.2.2.2.2.1,(a[i]).2.2.2.2.2.2.2.2.1,(a[i]).2.2.2.2.2.2.2.2.2.1,(a[i]).2.2.2.2.2.2.2.2.2.2.1,(a[i]).2.2.2.2.2.2.2.2.2.2.2.1,(a[i]).2.2.2.2.2.2.2.2.2.2.2.2.1,(a[i]).2.2.2.2.2.2.2.2.2.2.2.2.2.1,(a[i]).2.2.2.2.2.2.2.2.2.2.2.2.2.2.1,(a[i]).2.2.2.2.2.2.2.2.2.2.2.2.2.2.2.1,(a[i]).2.2.2.2.2.2.2.2.2.2.2.2.2.2.2.2.1,(a[i]).2.2.2.2.2.2.2.2.2.2.2.2.2.2.2.2.2.1,(a[i]).2.2.2.2.2.2.2.2.2.2.2.2.2.2.2.2.2.2)) l=l - XT a[i]from hs2,df (show¬l - (XT a[i]:Int)<0 by omega),QQ2]
    exact hk)
  (fun l i h1 h0 hB h2=>by
    apply qG
    have hs:=Qt8 (a[i]).1 (a[i]).2.1 (a[i]).2.2.1 (a[i]).2.2.2.1 (a[i]).2.2.2.2.1 (a[i]).2.2.2.2.2.1 (a[i]).2.2.2.2.2.2.1 (a[i]).2.2.2.2.2.2.2.1 (a[i]).2.2.2.2.2.2.2.2.1 (a[i]).2.2.2.2.2.2.2.2.2.1 (a[i]).2.2.2.2.2.2.2.2.2.2.1 (a[i]).2.2.2.2.2.2.2.2.2.2.2.1 (a[i]).2.2.2.2.2.2.2.2.2.2.2.2.1 (a[i]).2.2.2.2.2.2.2.2.2.2.2.2.2.1 (a[i]).2.2.2.2.2.2.2.2.2.2.2.2.2.2.1 (a[i]).2.2.2.2.2.2.2.2.2.2.2.2.2.2.2.1 (a[i]).2.2.2.2.2.2.2.2.2.2.2.2.2.2.2.2.1 (a[i]).2.2.2.2.2.2.2.2.2.2.2.2.2.2.2.2.2.1 (a[i]).2.2.2.2.2.2.2.2.2.2.2.2.2.2.2.2.2.2 l (by omega) (by omega) (hf.2 _ (QRf h1))
    have hs2:szI (XT a[i]) l= -1:=Yf h2
    simp only[J2,ilt h1,Ql h1,Qi h1,QQ1,hs,QQ0]
    simp only[show szI (XT ((a[i]).1,(a[i]).2.1,(a[i]).2.2.1,(a[i]).2.2.2.1,(a[i]).2.2.2.2.1,(a[i]).2.2.2.2.2.1,(a[i]).2.2.2.2.2.2.1,(a[i]).2.2.2.2.2.2.2.1,(a[i]).2.2.2.2.2.2.2.2.1,(a[i]).2.2.2.2.2.2.2.2.2.1,(a[i]).2.2.2.2.2.2.2.2.2.2.1,(a[i]).2.2.2.2.2.2.2.2.2.2.2.1,(a[i]).2.2.2.2.2.2.2.2.2.2.2.2.1,(a[i]).2.2.2.2.2.2.2.2.2.2.2.2.2.1,(a[i]).2.2.2.2.2.2.2.2.2.2.2.2.2.2.1,(a[i]).2.2.2.2.2.2.2.2.2.2.2.2.2.2.2.1,(a[i]).2.2.2.2.2.2.2.2.2.2.2.2.2.2.2.2.1,(a[i]).2.2.2.2.2.2.2.2.2.2.2.2.2.2.2.2.2.1,(a[i]).2.2.2.2.2.2.2.2.2.2.2.2.2.2.2.2.2.2)) l= -1 from hs2,dt (show(-1:Int)<0 by omega),QQ1])
  (fun l=>by
    apply qG
    simp only[J2,Qs,QQ2])
  (l - a.length) (by omega) (by omega)
 have hl:=hf.1
 simp only[maxLen]at hl
 rw[w64 (by omega) (by omega)]
 simp only[QQ6]at e
 rw[e,QQ0,QaA]
def zT (a:List Int):Nat:=a.length
def QlT (a:List Int):Prop:=a.length<=maxLen
theorem QxZ (a:List Int) (l:Int) (h0:0<=l) (hB:l<=1048576) (hf:QlT a):j0 w (a,l)=some (szI (zT a) l):=by
 apply QnX
 simp only[QeT]
 exact Js (m:=0) h0 hB hf fun h=>by rw[w64 (by omega) (by omega)];exact Z7 (by omega)
def XA (x:QH):Nat:=zT x.2.1
def QhO (x:QH):Prop:=QlT x.2.1
theorem Qyj {x:QH}(h:Vn Jk x):QhO x:=h.2.1.1
theorem Qub (a0:Int) (a1:List Int) (a2:Bool) (l:Int) (h0:0<=l) (hB:l<=1048576) (hf:QhO (a0,a1,a2)):Qbd w (a0,a1,a2,l)=some (szI (XA (a0,a1,a2)) l):=by
 apply QpH
 simp only[QhO]at hf
 have e:XA (a0,a1,a2)=(zT a1+0):=by simp only[XA];omega
 rw[e]
 simp only[QfQ]
 refine X7 (by omega) (QxZ a1 _ (by omega) (by omega) (hf)) fun _=> ?_
 exact Z7 (by omega)
def qA (a:List QH):Nat:=a.length+Jf XA a
def Qlr (a:List QH):Prop:=a.length<=maxLen/\∀x∈a,QhO x
theorem QxD (a:List QH) (l:Int) (h0:0<=l) (hB:l<=1048576) (hf:Qlr a):yo w (a,l)=some (szI (qA a) l):=by
 apply QmN
 simp only[Qeo,qA]
 refine Js h0 hB hf.1 fun h=> ?_
 have e:=QdL XA a (fun l i=>KQ wl (a,l,(i:Int))) 1048576
  (fun l i h1 r h0 hB h2 hk=>by
    apply qs
    have hs:=Qub (a[i]).1 (a[i]).2.1 (a[i]).2.2 l (by omega) (by omega) (hf.2 _ (QRf h1))
    have hs2:szI (XA a[i]) l=l - XA a[i]:=YR h2
    simp only[JY,ilt h1,Ql h1,Qi h1,inc h1 (show a.length<=maxLen from hf.1),QQ1,hs,QQ0]
    simp only[show szI (XA ((a[i]).1,(a[i]).2.1,(a[i]).2.2)) l=l - XA a[i]from hs2,df (show¬l - (XA a[i]:Int)<0 by omega),QQ2]
    exact hk)
  (fun l i h1 h0 hB h2=>by
    apply qs
    have hs:=Qub (a[i]).1 (a[i]).2.1 (a[i]).2.2 l (by omega) (by omega) (hf.2 _ (QRf h1))
    have hs2:szI (XA a[i]) l= -1:=Yf h2
    simp only[JY,ilt h1,Ql h1,Qi h1,QQ1,hs,QQ0]
    simp only[show szI (XA ((a[i]).1,(a[i]).2.1,(a[i]).2.2)) l= -1 from hs2,dt (show(-1:Int)<0 by omega),QQ1])
  (fun l=>by
    apply qs
    simp only[JY,Qs,QQ2])
  (l - a.length) (by omega) (by omega)
 have hl:=hf.1
 simp only[maxLen]at hl
 rw[w64 (by omega) (by omega)]
 simp only[QQ6]at e
 rw[e,QQ0,QaA]
def XR (x:QI):Nat:=Xi (x.2.1,x.2.2)
def Qhl (x:QI):Prop:=qK (x.2.1,x.2.2)
theorem QyP {x:QI}(h:Vn Vp x):Qhl x:=QjM ⟨h.2.1,h.2.2.1,trivial⟩
theorem Qus (a0:Int) (a1:List Qg) (a2:List Qb) (l:Int) (h0:0<=l) (hB:l<=1048576) (hf:Qhl (a0,a1,a2)):Qa7 w (a0,a1,a2,l)=some (szI (XR (a0,a1,a2)) l):=by
 apply Qpc
 simp only[Qhl]at hf
 have e:XR (a0,a1,a2)=(Xi (a1,a2)+0):=by simp only[XR];omega
 rw[e]
 simp only[Qgn]
 refine X7 (by omega) (Qi4 a1 a2 _ (by omega) (by omega) (hf)) fun _=> ?_
 exact Z7 (by omega)
def Jm (a:List QI):Nat:=a.length+Jf XR a
def Qls (a:List QI):Prop:=a.length<=maxLen/\∀x∈a,Qhl x
theorem QxX (a:List QI) (l:Int) (h0:0<=l) (hB:l<=1048576) (hf:Qls a):vx w (a,l)=some (szI (Jm a) l):=by
 apply Qny
 simp only[Qfi,Jm]
 refine Js h0 hB hf.1 fun h=> ?_
 have e:=QdL XR a (fun l i=>KT wl (a,l,(i:Int))) 1048576
  (fun l i h1 r h0 hB h2 hk=>by
    apply qm
    have hs:=Qus (a[i]).1 (a[i]).2.1 (a[i]).2.2 l (by omega) (by omega) (hf.2 _ (QRf h1))
    have hs2:szI (XR a[i]) l=l - XR a[i]:=YR h2
    simp only[J7,ilt h1,Ql h1,Qi h1,inc h1 (show a.length<=maxLen from hf.1),QQ1,hs,QQ0]
    simp only[show szI (XR ((a[i]).1,(a[i]).2.1,(a[i]).2.2)) l=l - XR a[i]from hs2,df (show¬l - (XR a[i]:Int)<0 by omega),QQ2]
    exact hk)
  (fun l i h1 h0 hB h2=>by
    apply qm
    have hs:=Qus (a[i]).1 (a[i]).2.1 (a[i]).2.2 l (by omega) (by omega) (hf.2 _ (QRf h1))
    have hs2:szI (XR a[i]) l= -1:=Yf h2
    simp only[J7,ilt h1,Ql h1,Qi h1,QQ1,hs,QQ0]
    simp only[show szI (XR ((a[i]).1,(a[i]).2.1,(a[i]).2.2)) l= -1 from hs2,dt (show(-1:Int)<0 by omega),QQ1])
  (fun l=>by
    apply qm
    simp only[J7,Qs,QQ2])
  (l - a.length) (by omega) (by omega)
 have hl:=hf.1
 simp only[maxLen]at hl
 rw[w64 (by omega) (by omega)]
 simp only[QQ6]at e
 rw[e,QQ0,QaA]
def Va (x:Jq):Nat:=Jd x.1+qA x.2.1+Jm x.2.2
def Qas (x:Jq):Prop:=QlR x.1/\Qlr x.2.1/\Qls x.2.2
theorem Qv8 {x:Jq}(h:Vn Qe2 x):Qas x:=⟨⟨h.1.1,fun y hy=>QxC (h.1.2 y hy)⟩,⟨h.2.1.1,fun y hy=>Qyj (h.2.1.2 y hy)⟩,⟨h.2.2.1.1,fun y hy=>QyP (h.2.2.1.2 y hy)⟩⟩
theorem Qxx (a0:List Qp) (a1:List QH) (a2:List QI) (l:Int) (h0:0<=l) (hB:l<=1048576) (hf:Qas (a0,a1,a2)):jG w (a0,a1,a2,l)=some (szI (Va (a0,a1,a2)) l):=by
 apply Qon
 simp only[Qas]at hf
 have e:Va (a0,a1,a2)=(Jd a0+(qA a1+(Jm a2+0))):=by simp only[Va];omega
 rw[e]
 simp only[Qeu]
 refine X7 (by omega) (QxH a0 _ (by omega) (by omega) (hf.1)) fun _=> ?_
 refine X7 (by omega) (QxD a1 _ (by omega) (by omega) (hf.2.1)) fun _=> ?_
 refine X7 (by omega) (QxX a2 _ (by omega) (by omega) (hf.2.2)) fun _=> ?_
 exact Z7 (by omega)
theorem Qxm (a:List Qp) (h:Jd a<=4294967296):vg w a=some a:=by
 apply Qni
 simp only[Jd]at h
 have e:=YV a (fun x=>x) (fun i out=>Ks wl (a,(i:Int),out)) (fun out=>out)
  (fun i h1 out r ho hk=>by
    apply Qcy
    have hb:=Zs XT a i h1
    simp only[vH,ilt h1,ho,Ql h1,Qi h1,inc h1 (show a.length<=maxLen by simp[maxLen];omega),QQ1,QRb,QzY (a[i]).1 (a[i]).2.1 (a[i]).2.2.1 (a[i]).2.2.2.1 (a[i]).2.2.2.2.1 (a[i]).2.2.2.2.2.1 (a[i]).2.2.2.2.2.2.1 (a[i]).2.2.2.2.2.2.2.1 (a[i]).2.2.2.2.2.2.2.2.1 (a[i]).2.2.2.2.2.2.2.2.2.1 (a[i]).2.2.2.2.2.2.2.2.2.2.1 (a[i]).2.2.2.2.2.2.2.2.2.2.2.1 (a[i]).2.2.2.2.2.2.2.2.2.2.2.2.1 (a[i]).2.2.2.2.2.2.2.2.2.2.2.2.2.1 (a[i]).2.2.2.2.2.2.2.2.2.2.2.2.2.2.1 (a[i]).2.2.2.2.2.2.2.2.2.2.2.2.2.2.2.1 (a[i]).2.2.2.2.2.2.2.2.2.2.2.2.2.2.2.2.1 (a[i]).2.2.2.2.2.2.2.2.2.2.2.2.2.2.2.2.2.1 (a[i]).2.2.2.2.2.2.2.2.2.2.2.2.2.2.2.2.2.2 (show XT a[i]<=4294967296 by omega),QQ0]
    exact hk)
  (fun out ho=>by
    apply Qcy
    simp only[vH,Qs,QQ2])
  (List.replicate a.length (0,0,[],[],[],0,0,0,[],[],[],[],0,0,[],0,0,0,[])) (by simp)
 rw[List.map_id']at e
 have hf:fits a.length 296=true:=QF (by omega)
 simp only[Qfa,QRb,hf]
 simp
 exact e
theorem Qxy (a:List Int) (h:zT a<=4294967296):vc w a=some a:=by
 apply Qmd
 simp only[zT]at h
 have e:=YV a (fun x=>x) (fun i out=>KH wl (a,(i:Int),out)) (fun out=>out)
  (fun i h1 out r ho hk=>by
    apply QbF
    simp only[ym,ilt h1,ho,Ql h1,Qi h1,inc h1 (show a.length<=maxLen by simp[maxLen];omega),QQ1,QRb]
    exact hk)
  (fun out ho=>by
    apply QbF
    simp only[ym,Qs,QQ2])
  (List.replicate a.length 0) (by simp)
 rw[List.map_id']at e
 have hf:fits a.length 1=true:=QF (by omega)
 simp only[QfG,QRb,hf]
 simp
 exact e
theorem QzI (a0:Int) (a1:List Int) (a2:Bool) (h:XA (a0,a1,a2)<=4294967296):Qbs w (a0,a1,a2)=some (a0,a1,a2):=by
 apply Qpi
 simp only[XA]at h
 simp only[QgI,Qxy a1 (by omega),QQ0]
theorem Qx8 (a:List QH) (h:qA a<=4294967296):vI w a=some a:=by
 apply Qnm
 simp only[qA]at h
 have e:=YV a (fun x=>x) (fun i out=>KE wl (a,(i:Int),out)) (fun out=>out)
  (fun i h1 out r ho hk=>by
    apply QbW
    have hb:=Zs XA a i h1
    simp only[vf,ilt h1,ho,Ql h1,Qi h1,inc h1 (show a.length<=maxLen by simp[maxLen];omega),QQ1,QRb,QzI (a[i]).1 (a[i]).2.1 (a[i]).2.2 (show XA a[i]<=4294967296 by omega),QQ0]
    exact hk)
  (fun out ho=>by
    apply QbW
    simp only[vf,Qs,QQ2])
  (List.replicate a.length (0,[],false)) (by simp)
 rw[List.map_id']at e
 have hf:fits a.length 40=true:=QF (by omega)
 simp only[QeS,QRb,hf]
 simp
 exact e
theorem Qz0 (a0:Int) (a1:List Qg) (a2:List Qb) (h:XR (a0,a1,a2)<=4294967296):Qbr w (a0,a1,a2)=some (a0,a1,a2):=by
 apply QpR
 simp only[XR]at h
 simp only[Qgm,QlP a1 a2 (by omega),QQ0]
theorem QyI (a:List QI) (h:Jm a<=4294967296):yz w a=some a:=by
 apply Qmc
 simp only[Jm]at h
 have e:=YV a (fun x=>x) (fun i out=>KG wl (a,(i:Int),out)) (fun out=>out)
  (fun i h1 out r ho hk=>by
    apply Qcd
    have hb:=Zs XR a i h1
    simp only[j8,ilt h1,ho,Ql h1,Qi h1,inc h1 (show a.length<=maxLen by simp[maxLen];omega),QQ1,QRb,Qz0 (a[i]).1 (a[i]).2.1 (a[i]).2.2 (show XR a[i]<=4294967296 by omega),QQ0]
    exact hk)
  (fun out ho=>by
    apply Qcd
    simp only[j8,Qs,QQ2])
  (List.replicate a.length (0,[],[])) (by simp)
 rw[List.map_id']at e
 have hf:fits a.length 56=true:=QF (by omega)
 simp only[Qef,QRb,hf]
 simp
 exact e
theorem Qx4 (a0:List Qp) (a1:List QH) (a2:List QI) (h:Va (a0,a1,a2)<=4294967296):V3 w (a0,a1,a2)=some (a0,a1,a2):=by
 apply Ql8
 simp only[Va]at h
 simp only[Qd8,Qxm a0 (by omega),Qx8 a1 (by omega),QyI a2 (by omega),QQ0]
theorem QyA (a:List Qp) (h:Jd a<=4294967296):j7 w (a,a)=some true:=by
 apply QmJ
 simp only[Jd]at h
 have e:=Y5 a.length (fun i=>KC wl (a,a,(i:Int))) (.inr ())
  (fun i h1 r hk=>by
    apply Qca
    have hb:=Zs XT a i h1
    simp only[ju,ilt h1,Ql h1,Qi h1,inc h1 (show a.length<=maxLen by simp[maxLen];omega),QQ1,decide_true,QQ3,QQ2,QZ,beq_self_eq_true,QzZ (a[i]).1 (a[i]).2.1 (a[i]).2.2.1 (a[i]).2.2.2.1 (a[i]).2.2.2.2.1 (a[i]).2.2.2.2.2.1 (a[i]).2.2.2.2.2.2.1 (a[i]).2.2.2.2.2.2.2.1 (a[i]).2.2.2.2.2.2.2.2.1 (a[i]).2.2.2.2.2.2.2.2.2.1 (a[i]).2.2.2.2.2.2.2.2.2.2.1 (a[i]).2.2.2.2.2.2.2.2.2.2.2.1 (a[i]).2.2.2.2.2.2.2.2.2.2.2.2.1 (a[i]).2.2.2.2.2.2.2.2.2.2.2.2.2.1 (a[i]).2.2.2.2.2.2.2.2.2.2.2.2.2.2.1 (a[i]).2.2.2.2.2.2.2.2.2.2.2.2.2.2.2.1 (a[i]).2.2.2.2.2.2.2.2.2.2.2.2.2.2.2.2.1 (a[i]).2.2.2.2.2.2.2.2.2.2.2.2.2.2.2.2.2.1 (a[i]).2.2.2.2.2.2.2.2.2.2.2.2.2.2.2.2.2.2 (show XT a[i]<=4294967296 by omega),QQ0]
    exact hk)
  (by
    apply Qca
    simp only[ju,Qs,QQ2])
 simp only[QQ6]at e
 simp only[Qep,decide_true,QQ3,QQ2,e,QQ0,Qo,Sum.elim_inr]
theorem QxJ (a:List Int) (h:zT a<=4294967296):jZ w (a,a)=some true:=by
 apply QmI
 simp only[zT]at h
 have e:=Y5 a.length (fun i=>KF wl (a,a,(i:Int))) (.inr ())
  (fun i h1 r hk=>by
    apply Qce
    simp only[jO,ilt h1,Ql h1,Qi h1,inc h1 (show a.length<=maxLen by simp[maxLen];omega),QQ1,decide_true,QQ3,QQ2,QZ,beq_self_eq_true]
    exact hk)
  (by
    apply Qce
    simp only[jO,Qs,QQ2])
 simp only[QQ6]at e
 simp only[Qea,decide_true,QQ3,QQ2,e,QQ0,Qo,Sum.elim_inr]
theorem QzT (a0:Int) (a1:List Int) (a2:Bool) (h:XA (a0,a1,a2)<=4294967296):Qbl w (a0,a1,a2,a0,a1,a2)=some true:=by
 apply Qo0
 simp only[XA]at h
 simp only[QgT,QxJ a1 (by omega),decide_true,QQ3,QQ2,QZ,beq_self_eq_true,QQ0]
theorem QxA (a:List QH) (h:qA a<=4294967296):yS w (a,a)=some true:=by
 apply QnU
 simp only[qA]at h
 have e:=Y5 a.length (fun i=>K4 wl (a,a,(i:Int))) (.inr ())
  (fun i h1 r hk=>by
    apply QcB
    have hb:=Zs XA a i h1
    simp only[yQ,ilt h1,Ql h1,Qi h1,inc h1 (show a.length<=maxLen by simp[maxLen];omega),QQ1,decide_true,QQ3,QQ2,QZ,beq_self_eq_true,QzT (a[i]).1 (a[i]).2.1 (a[i]).2.2 (show XA a[i]<=4294967296 by omega),QQ0]
    exact hk)
  (by
    apply QcB
    simp only[yQ,Qs,QQ2])
 simp only[QQ6]at e
 simp only[QeJ,decide_true,QQ3,QQ2,e,QQ0,Qo,Sum.elim_inr]
theorem QAo (a0:Int) (a1:List Qg) (a2:List Qb) (h:XR (a0,a1,a2)<=4294967296):Qbi w (a0,a1,a2,a0,a1,a2)=some true:=by
 apply QpM
 simp only[XR]at h
 simp only[Qgx,Qlz a1 a2 (by omega),decide_true,QQ3,QQ2,QZ,beq_self_eq_true,QQ0]
theorem Qyi (a:List QI) (h:Jm a<=4294967296):vD w (a,a)=some true:=by
 apply Qnz
 simp only[Jm]at h
 have e:=Y5 a.length (fun i=>Kr wl (a,a,(i:Int))) (.inr ())
  (fun i h1 r hk=>by
    apply QbX
    have hb:=Zs XR a i h1
    simp only[jM,ilt h1,Ql h1,Qi h1,inc h1 (show a.length<=maxLen by simp[maxLen];omega),QQ1,decide_true,QQ3,QQ2,QZ,beq_self_eq_true,QAo (a[i]).1 (a[i]).2.1 (a[i]).2.2 (show XR a[i]<=4294967296 by omega),QQ0]
    exact hk)
  (by
    apply QbX
    simp only[jM,Qs,QQ2])
 simp only[QQ6]at e
 simp only[Qe1,decide_true,QQ3,QQ2,e,QQ0,Qo,Sum.elim_inr]
theorem QxG (a0:List Qp) (a1:List QH) (a2:List QI) (h:Va (a0,a1,a2)<=4294967296):va w (a0,a1,a2,a0,a1,a2)=some true:=by
 apply Qnq
 simp only[Va]at h
 simp only[Qd0,QyA a0 (by omega),QxA a1 (by omega),Qyi a2 (by omega),decide_true,QQ3,QQ2,QZ,beq_self_eq_true,QQ0]
end Go.Proofs.YtameehmkoglkeaaGreatDoor.M
namespace Go.Proofs.YtameehmkoglkeaaGreatDoor.M
open Go Go.Eng Go.Proofs
set_option linter.unusedVariables false
def QuQ (a b:Int):Int:=if a<b then -1 else if b<a then 1 else 0
def QEy (a b:ByteArray):Int:=Go.Lib.compareBytes a.data.toList b.data.toList
def or5 (a b c d e:Int):Int:=if a≠0 then a else if b≠0 then b else if c≠0 then c else if d≠0 then d else e
def QA6 (x y:XI):Int:=or5 (QuQ x.1 y.1) (QuQ x.2.1 y.2.1) (QuQ x.2.2.1 y.2.2.1) (QuQ x.2.2.2.1 y.2.2.2.1) (QEy x.2.2.2.2 y.2.2.2.2)
def Qv7 (x y:XI):XI:=if QA6 x y<0 then y else x
end Go.Proofs.YtameehmkoglkeaaGreatDoor.M
namespace Go.Proofs.YtameehmkoglkeaaGreatDoor.M
open Go Go.Eng Go.Proofs
set_option linter.unusedVariables false
def QaP (n:Int):Int:=IntKind.wrap .u8 (wR (Int.tmod n 128+128))
def Xu:Nat->Int->List Int->Int×List Int
 |0,n,o=>(n,o)
 |f+1,n,o=>if 128<=n then Xu f (Int.tdiv n 128) (o++[QaP n])else(n,o)
def Qd (n:Int):List Int:=bif inR n 0 2147483647 then(Xu 4 n []).2++[IntKind.wrap .u8 (Xu 4 n []).1]else []
theorem QiM:(f:Nat)->(n:Int)->(o:List Int)->(Xu f n o).2.length<=o.length+f
 |0,n,o=>by simp[Xu]
 |f+1,n,o=>by
  simp only[Xu]
  split
  ·have:=QiM f (Int.tdiv n 128) (o++[QaP n])
   simp only[QRj,List.length_singleton]at this;omega
  ·simp
theorem Qw (n:Int):(Qd n).length<=5:=by
 unfold Qd
 have:=QiM 4 n []
 cases inR n 0 2147483647
 ·simp
 ·simp only[QQ1,QRj,List.length_singleton];simp at this;omega
theorem Qty:(f:Nat)->(n:Int)->(o:List Int)->0<=n->n<128^(f+1)->n<=2147483647->o.length+f<=1000->Vx wl (n,o)=some (Xu f n o):=by
 intro f
 induction f with
 |zero=>
  intro n o h0 h1 h2 h3
  apply Qc7
  simp only[xr,df (show¬128<=n by omega),QQ2,Xu]
 |succ f ih=>
  intro n o h0 h1 h2 h3
  apply Qc7
  by_cases h:128<=n
  ·have hd:=Int.tdiv_eq_ediv_of_nonneg (b:=128) h0
   have:=ih (Int.tdiv n 128) (o++[QaP n]) (by omega) (by rw[Int.pow_succ]at h1;omega) (by omega) (by simp;omega)
   simp only[QaP]at this
   simp only[xr,dt h,QQ1,dt (show(128:Int)≠0 by omega),QF (show(o.length+List.length [IntKind.wrap .u8 (wR (Int.tmod n 128+128))])*1<=140737488351232 by simp;omega),Xu,h,if_true,QaP]
   rw[w64 (n:=Int.tdiv n 128) (by omega) (by omega)]
   exact this
  ·simp only[xr,df h,QQ2,Xu,h,decide_false,if_false]
theorem Qrt:(f:Nat)->(n:Int)->(o:List Int)->0<=n->n<128^(f+1)->n<=2147483647->o.length+f<=1000->V2 wl (n,o)=some (Xu f n o):=by
 intro f
 induction f with
 |zero=>
  intro n o h0 h1 h2 h3
  apply Qdi
  simp only[qX,df (show¬127<n by omega),QQ2,Xu]
 |succ f ih=>
  intro n o h0 h1 h2 h3
  apply Qdi
  by_cases h:128<=n
  ·have hd:=Int.tdiv_eq_ediv_of_nonneg (b:=128) h0
   have:=ih (Int.tdiv n 128) (o++[QaP n]) (by omega) (by rw[Int.pow_succ]at h1;omega) (by omega) (by simp;omega)
   simp only[QaP]at this
   simp only[qX,dt (show 127<n by omega),QQ1,dt (show(128:Int)≠0 by omega),QF (show(o.length+List.length [IntKind.wrap .u8 (wR (Int.tmod n 128+128))])*1<=140737488351232 by simp;omega),Xu,h,if_true,QaP]
   rw[w64 (n:=Int.tdiv n 128) (by omega) (by omega)]
   exact this
  ·simp only[qX,df (show¬127<n by omega),QQ2,Xu,h,decide_false,if_false]
theorem YK (n:Int):QN w n=some (Qd n):=by
 apply QoE
 simp only[QfT,Q8,QQ0,Qd]
 cases h:inR n 0 2147483647
 ·simp
 ·simp[inR]at h
  have hl:=QiM 4 n []
  simp only[List.length_nil]at hl
  simp only[QQ3,QQ2,Qty 4 n [] h.1 (by omega) h.2 (by simp),QQ0,QQ1,QF (show((Xu 4 n []).2.length+List.length [IntKind.wrap .u8 (Xu 4 n []).1])*1<=140737488351232 by simp;omega)]
theorem Zw (n:Int):Q7 w n=some (Qd n):=by
 apply QoV
 simp only[Qf8,XE,QQ0,Qd]
 cases h:inR n 0 2147483647
 ·simp
 ·simp[inR]at h
  have hl:=QiM 4 n []
  simp only[List.length_nil]at hl
  simp only[QQ3,QQ2,Qrt 4 n [] h.1 (by omega) h.2 (by simp),QQ0,QQ1,QF (show((Xu 4 n []).2.length+List.length [IntKind.wrap .u8 (Xu 4 n []).1])*1<=140737488351232 by simp;omega)]
theorem K1 (l:List (List Int)) (hl:l.length<=maxLen) (hf:l.flatten.length<=1099511627776):XX w l=some l.flatten:=by
 apply QpO
 have e:=Q3 l.length (fun i (o:List Int)=>VK wl (l,((l.length:Nat):Int),(i:Int),o)) (fun i o=>o++(l.drop i).flatten) (fun i o=>o.length+(l.drop i).flatten.length<=1099511627776)
  (fun i hi o ho ih=>by
    apply Qdl
    rw[QRa hi,QRr,QRj]at ho
    have:=ih (o++l[i]) (by rw[QRj];omega)
    simp only[Qao,ilt hi,Ql hi,Qi hi,inc hi hl,QQ1,QF (show(o.length+l[i].length)*1<=140737488351232 by omega),this]
    rw[QRa hi,QRr,QRc])
  (fun o _=>by
    apply Qdl
    simp[Qao,Qs])
  [] (by simpa using hf)
 simp only[QQ6,QRg,QRe]at e
 simp only[Qf7,e,QQ0]
theorem Qg0 (s:ByteArray):(ofBytes s).length=s.size:=by
 show(s.data.toList.map _).length=s.data.size
 rw[List.length_map,Array.length_toList]
def Yr (s:ByteArray):List Int:=Qd (s.size:Nat)++ofBytes s
theorem Qlm (s:ByteArray):(Yr s).length<=5+s.size:=by
 have:=Qw (s.size:Nat)
 simp only[Yr,QRj,Qg0];omega
theorem QuG (s:ByteArray) (h:s.size<=4294967296):vb w s=some (Yr s):=by
 apply Qmz
 have:=Qw (s.size:Nat)
 have e: [Qd (s.size:Nat),ofBytes s].flatten=Yr s:=by simp[Yr]
 simp only[Qfs,YK,QQ0,K1 [Qd ((s.size:Nat):Int),ofBytes s] (by simp[maxLen]) (by rw[e];have:=Qlm s;omega),e]
theorem Qtd (s:ByteArray) (h:s.size<=4294967296):vQ w s=some (Yr s):=by
 apply Qmg
 have:=Qw (s.size:Nat)
 simp only[QeX,Zw,QQ0,QF (show((Qd ((s.size:Nat):Int)).length+(ofBytes s).length)*1<=140737488351232 by rw[Qg0];omega),QQ1,Yr]
def yj (x:Int):Int:=if Int.tmod x 2=1 then bits .xor .i64 (wR (Int.tdiv x 2)) 3988292384 else wR (Int.tdiv x 2)
def J4:Nat->Int->Int
 |0,x=>x
 |n+1,x=>J4 n (yj x)
def Qim (s b:Int):Int:=J4 8 (bits .xor .i64 s (wR b))
theorem Qpq (s b:Int):Qim s b=J4 8 (bits .xor .i64 s (wR b)):=by unfold Qim;exact Eq.refl _
def crc (l:List Int):Int:=bits .xor .i64 (l.foldl Qim 4294967295) 4294967295
theorem QA5 {i:Nat}(h:i<8):decide ((i:Int)<8)=true:=by simp;omega
theorem QuK {i n:Nat}(h:i<n) (hn:n<=1000:=by omega):wR ((i:Int)+1)=((i+1:Nat):Int):=by
 rw[w64 (by omega) (by omega)];omega
theorem QwC (b:List Int) (n i:Int) (x:Int):K8 wl (x,b,n,i,0)=some (J4 8 x,b,n,i):=by
 have e:=Q3 8 (fun k (x:Int)=>K8 wl (x,b,n,i,(k:Int))) (fun k x=>(J4 (8 - k) x,b,n,i)) (fun _ _=>True)
  (fun k hk x _ ih=>by
    apply Qhi
    have:=ih (yj x) trivial
    rw[show 8 - k=(8 - (k+1))+1 by omega,J4,<-this]
    simp only[Qhf,QA5 hk,QQ1,dt (show(2:Int)≠0 by omega),QuK hk,yj]
    by_cases hx:Int.tmod x 2=1
    ·simp only[hx,decide_true,QQ1,if_true]
    ·simp only[hx,decide_false,QQ2,if_false])
  (fun x _=>by
    apply Qhi
    simp[Qhf,J4])
  x trivial
 simpa using e
theorem QvU (b:List Int) (i:Int) (x:Int):Vk wl (b,x,i,0)=some (b,J4 8 x,i):=by
 have e:=Q3 8 (fun k (x:Int)=>Vk wl (b,x,i,(k:Int))) (fun k x=>(b,J4 (8 - k) x,i)) (fun _ _=>True)
  (fun k hk x _ ih=>by
    apply QhV
    have:=ih (yj x) trivial
    rw[show 8 - k=(8 - (k+1))+1 by omega,J4,<-this]
    simp only[Qhg,QA5 hk,QQ1,dt (show(2:Int)≠0 by omega),QuK hk,yj]
    by_cases hx:Int.tmod x 2=1
    ·simp only[hx,decide_true,QQ1,if_true]
    ·simp only[hx,decide_false,QQ2,if_false])
  (fun x _=>by
    apply QhV
    simp[Qhg,J4])
  x trivial
 simpa using e
theorem Qnb (b:List Int) (h:b.length<=maxLen):zP w b=some (crc b):=by
 apply QtI
 have e:=Q3 b.length (fun i (x:Int)=>xW wl (x,b,((b.length:Nat):Int),(i:Int))) (fun i x=>(b.drop i).foldl Qim x) (fun _ _=>True)
  (fun i hi x _ ih=>by
    apply QhM
    simp only[Qhb,ilt hi,Ql hi,Qi hi,QQ1,QwC,QQ0,inc hi h,ih _ trivial]
    rw[QRa hi,List.foldl_cons,Qpq])
  (fun x _=>by
    apply QhM
    simp only[Qhb,Qs,QQ2,QRl,List.foldl_nil])
  4294967295 trivial
 simp only[QQ6,QRg]at e
 simp only[QjE,e,QQ0,crc]
theorem Qkk (b:List Int) (h:b.length<=maxLen):zG w b=some (crc b):=by
 apply QtH
 have e:=Q3 b.length (fun i (x:Int)=>xO wl (b,x,(i:Int))) (fun i x=>(b.drop i).foldl Qim x) (fun _ _=>True)
  (fun i hi x _ ih=>by
    apply Qh2
    simp only[Qhe,ilt hi,Ql hi,Qi hi,QQ1,QvU,QQ0,inc hi h,ih _ trivial]
    rw[QRa hi,List.foldl_cons,Qpq])
  (fun x _=>by
    apply Qh2
    simp only[Qhe,Qs,QQ2,QRl,List.foldl_nil])
  4294967295 trivial
 simp only[QQ6,QRg]at e
 simp only[Qj1,e,QQ0,crc]
end Go.Proofs.YtameehmkoglkeaaGreatDoor.M
