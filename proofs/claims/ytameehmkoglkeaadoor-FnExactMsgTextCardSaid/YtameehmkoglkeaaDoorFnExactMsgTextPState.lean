/- What the plain forms that FnExactMsgText reaches come to: PState. No conditions but those that each theorem states. -/
import Derived.Test.YtameehmkoglkeaaDoorFnExactMsgTextRaw0
import Derived.Test.YtameehmkoglkeaaDoorFnExactMsgTextRaw1
set_option linter.all false
namespace Go.Proofs.YtameehmkoglkeaaDoor.M
open Go Go.Eng Go.Proofs
set_option linter.unusedVariables false
def inR (n lo hi:Int):Bool:=decide (lo<=n)&&decide (n<=hi)
theorem Zc (n lo hi:Int):QG w (n,lo,hi)=some (inR n lo hi):=by
 apply Qb6
 simp only[xG,inR]
 cases decide (lo<=n)<;>rfl
theorem VH (n lo hi:Int):QS w (n,lo,hi)=some (inR n lo hi):=by
 apply Qd4
 simp only[yR,inR]
 cases decide (lo<=n)<;>rfl
theorem xJ (n:Int):XP w n=some (inR n 0 4):=by
 apply Qb3
 simp only[xY,Zc,QQ0]
theorem xN (n:Int):XS w n=some (inR n 0 4):=by
 apply QbY
 simp only[xz,VH,QQ0]
def Xw (e:Q4):Bool:=inR e.1 1 1000&&inR e.2.1 0 1&&inR e.2.2.1 0 100000&&inR e.2.2.2.1 0 1000&&decide (((ByteArray.size e.2.2.2.2:Nat):Int)<=8)
theorem QfV (a b c d:Int) (s:ByteArray):Yw w (a,b,c,d,s)=some (Xw (a,b,c,d,s)):=by
 apply QaR
 simp only[qU,Zc,QQ0,Xw]
 cases inR a 1 1000<;>cases inR b 0 1<;>cases inR c 0 100000<;>cases inR d 0 1000<;>simp
theorem Qex (a b c d:Int) (s:ByteArray):ZA w (a,b,c,d,s)=some (Xw (a,b,c,d,s)):=by
 apply Qa4
 simp only[qN,VH,QQ0,Xw]
 cases inR a 1 1000<;>cases inR b 0 1<;>cases inR c 0 100000<;>cases inR d 0 1000<;>simp
theorem QgO (e:Q4):Yw w e=some (Xw e):=QfV ..
theorem QfT (e:Q4):ZA w e=some (Xw e):=Qex ..
def QbV (id:Int):List Qn->Int×Int×Int×Int×ByteArray×Bool
 | []=>(0,0,0,0,ByteArray.empty,false)
 |x::l=>if x.1=id then(x.2.1,x.2.2.1,x.2.2.2.1,x.2.2.2.2.1,x.2.2.2.2.2,true)else QbV id l
def XT (id:Int):List Qg->Int
 | []=>0
 |x::l=>if x.1=id then x.2 else XT id l
def zc (id:Int):List Qg->Int⊕Unit
 | []=> .inr ()
 |x::l=>if x.1=id then .inl x.2 else zc id l
theorem qg (id:Int):(l:List Qg)->QK (zc id l) (fun u3=>some u3) (fun z4=>some 0)=some (XT id l)
 | []=>rfl
 |x::l=>by
  have ih:=qg id l
  by_cases h:x.1=id
  ·simp only[zc,XT,h,if_true,QK,Sum.elim_inl]
  ·simp only[zc,XT,h,if_false];exact ih
theorem Qfo (a:List Qn) (b:List Qg) (id:Int) (h:b.length<=maxLen):K8 w (a,b,id)=some (XT id b):=by
 apply QaK
 have e:=XU b.length (fun i=>Zd wl (id,b,((b.length:Nat):Int),(i:Int))) (fun i=>zc id (b.drop i))
  (fun i hi ih=>by
    apply JA
    simp only[Vq,ilt hi,QB hi,Qx hi,inc hi h,QQ1,ih]
    rw[QRa hi,zc]
    by_cases hx:b[i].1=id
    ·simp only[hx,decide_true,QQ1,if_true]
    ·simp only[hx,decide_false,QQ2,if_false])
  (by
    apply JA
    simp only[Vq,QI,QQ2,QRl,zc])
 simp only[QQ6,QRg]at e
 simp only[ql,e,QQ0,qg]
theorem QeK (a:List Qn) (b:List Qg) (id:Int) (h:b.length<=maxLen):Yq w (a,b,id)=some (XT id b):=by
 apply Qaf
 have e:=XU b.length (fun i=>Zl wl (id,(i:Int),a,b)) (fun i=>zc id (b.drop i))
  (fun i hi ih=>by
    apply Jw
    simp only[Vi,ilt hi,QB hi,Qx hi,inc hi h,QQ1,ih]
    rw[QRa hi,zc]
    by_cases hx:b[i].1=id
    ·simp only[hx,decide_true,QQ1,if_true]
    ·simp only[hx,decide_false,QQ2,if_false])
  (by
    apply Jw
    simp only[Vi,QI,QQ2,QRl,zc])
 simp only[QQ6,QRg]at e
 simp only[xm,e,QQ0,qg]
def Qy:Int->List Qg->Bool
 |_,[]=>true
 |p,x::l=>inR x.1 0 4&&inR x.2 1 1000&&decide (p<x.1)&&Qy x.1 l
def XG (fl:List Qg):Int->List Qn->Bool
 |_,[]=>true
 |p,x::l=>inR x.1 0 4&&Xw x.2&&decide (XT x.1 fl<x.2.1)&&decide (p<x.1)&&XG fl x.1 l
def Kr (s:QM):Bool:=Qy (-1) s.2&&XG s.2 (-1) s.1
def Zx (b:List Qg) (i:Nat):Int:=if i=0 then -1 else(b.getD (i - 1) (0,0)).1
def VS (b:List Qn) (i:Nat):Int:=if i=0 then -1 else(b.getD (i - 1) Yk).1
theorem JW (b:List Qg) {i:Nat}(h:i<b.length):Zx b (i+1)=b[i].1:=by simp[Zx,List.getD,h]
theorem QaV (b:List Qn) {i:Nat}(h:i<b.length):VS b (i+1)=b[i].1:=by simp[VS,List.getD,h]
theorem xA (b:List Qg) {i:Nat}(h0:0<i) (h:i - 1<b.length):Zx b i=b[i - 1].1:=by
 simp[Zx,List.getD,h,show¬i=0 by omega]
theorem Qck (b:List Qn) {i:Nat}(h0:0<i) (h:i - 1<b.length):VS b i=b[i - 1].1:=by
 simp[VS,List.getD,h,show¬i=0 by omega]
theorem VI {n:Int}(h:inR n 0 4=true): -1<n:=by
 simp[inR]at h;omega
theorem Yb (a b:Int):decide (a<=b)= !decide (b<a):=by
 by_cases h:a<=b
 ·rw[dt h,df (by omega)];rfl
 ·rw[df h,dt (by omega)];rfl
theorem QfH (a:List Qn) (b:List Qg) (ha:a.length<=maxLen) (hb:b.length<=maxLen):Va w (a,b)=some (Kr (a,b)):=by
 apply QaI
 have e0:=XU b.length (fun i=>Xz wl (b,((b.length:Nat):Int),(i:Int),a,b)) (fun i=>if Qy (Zx b i) (b.drop i)then .inr (a,b)else .inl false)
  (fun i hi ih=>by
    apply Jd
    simp only[Ve,ilt hi,QB hi,Qx hi,inc hi hb,QQ1,ih,xJ,Zc,QQ0]
    rw[QRa hi,Qy,JW b hi]
    rcases Nat.eq_zero_or_pos i with h0|h0
    ·subst h0
     cases h1:inR b[0].1 0 4
     ·simp
     ·have:=VI h1
      simp only[yF,QQ2,QQ3,Zx,if_true,dt this,QRd,QRn]
      cases inR b[0].2 1 1000<;>simp
    ·have hi':i - 1<b.length:=by omega
     simp only[ipos h0,QQ1,jN h0 (by omega),QB hi',Qx hi',xA b h0 hi',Yb]
     cases inR b[i].1 0 4<;>cases inR b[i].2 1 1000<;>cases decide (b[i - 1].1<b[i].1)<;>simp)
  (by
    apply Jd
    simp only[Ve,QI,QQ2,QRl,Qy,if_true])
 have e2:=XU a.length (fun i=>XB wl (a,((a.length:Nat):Int),(i:Int),a,b)) (fun i=>if XG b (VS a i) (a.drop i)then .inr ()else .inl false)
  (fun i hi ih=>by
    apply Jn
    simp only[KN,ilt hi,QB hi,Qx hi,inc hi ha,QQ1,ih,xJ,QgO,Qfo _ _ _ hb,QQ0]
    rw[QRa hi,XG,QaV a hi]
    rcases Nat.eq_zero_or_pos i with h0|h0
    ·subst h0
     cases h1:inR a[0].1 0 4
     ·simp
     ·have:=VI h1
      simp only[yF,QQ2,QQ3,VS,if_true,dt this,QRd,QRn,Yb]
      cases Xw a[0].2<;>cases decide (XT a[0].1 b<a[0].2.1)<;>simp
    ·have hi':i - 1<a.length:=by omega
     simp only[ipos h0,QQ1,jN h0 (by omega),QB hi',Qx hi',Qck a h0 hi',Yb]
     cases inR a[i].1 0 4<;>cases Xw a[i].2<;>cases decide (XT a[i].1 b<a[i].2.1)<;>cases decide (a[i - 1].1<a[i].1)<;>simp)
  (by
    apply Jn
    simp only[KN,QI,QQ2,QRl,XG,if_true])
 simp only[QQ6,QRg,Zx,VS,if_true]at e0 e2
 simp only[xj,e0,QQ0,Kr]
 cases Qy (-1) b
 ·simp[QK]
 ·simp only[if_true,QK,Sum.elim_inr,e2,QQ0,QRd]
  cases XG b (-1) a<;>simp
theorem Qeq (a:List Qn) (b:List Qg) (ha:a.length<=maxLen) (hb:b.length<=maxLen):K3 w (a,b)=some (Kr (a,b)):=by
 apply Qae
 have e2:=XU b.length (fun i=>XE wl ((i:Int),a,b)) (fun i=>if Qy (Zx b i) (b.drop i)then .inr ()else .inl false)
  (fun i hi ih=>by
    apply Jt
    simp only[KW,ilt hi,QB hi,Qx hi,inc hi hb,QQ1,ih,xN,VH,QQ0]
    rw[QRa hi,Qy,JW b hi]
    rcases Nat.eq_zero_or_pos i with h0|h0
    ·subst h0
     cases h1:inR b[0].1 0 4
     ·simp
     ·have:=VI h1
      simp only[yF,QQ2,QQ3,Zx,if_true,dt this,QRd,QRn]
      cases inR b[0].2 1 1000<;>simp
    ·have hi':i - 1<b.length:=by omega
     simp only[ipos h0,QQ1,jN h0 (by omega),QB hi',Qx hi',xA b h0 hi',Yb]
     cases inR b[i].1 0 4<;>cases inR b[i].2 1 1000<;>cases decide (b[i - 1].1<b[i].1)<;>simp)
  (by
    apply Jt
    simp only[KW,QI,QQ2,QRl,Qy,if_true])
 have e0:=XU a.length (fun i=>XC wl ((i:Int),a,b)) (fun i=>if XG b (VS a i) (a.drop i)then .inr (a,b)else .inl false)
  (fun i hi ih=>by
    apply Jx
    simp only[KL,ilt hi,QB hi,Qx hi,inc hi ha,QQ1,ih,xN,QfT,QeK _ _ _ hb,QQ0]
    rw[QRa hi,XG,QaV a hi]
    rcases Nat.eq_zero_or_pos i with h0|h0
    ·subst h0
     cases h1:inR a[0].1 0 4
     ·simp
     ·have:=VI h1
      simp only[yF,QQ2,QQ3,VS,if_true,dt this,QRd,QRn,Yb]
      cases Xw a[0].2<;>cases decide (XT a[0].1 b<a[0].2.1)<;>simp
    ·have hi':i - 1<a.length:=by omega
     simp only[ipos h0,QQ1,jN h0 (by omega),QB hi',Qx hi',Qck a h0 hi',Yb]
     cases inR a[i].1 0 4<;>cases Xw a[i].2<;>cases decide (XT a[i].1 b<a[i].2.1)<;>cases decide (a[i - 1].1<a[i].1)<;>simp)
  (by
    apply Jx
    simp only[KL,QI,QQ2,QRl,XG,if_true])
 simp only[QQ6,QRg,Zx,VS,if_true]at e0 e2
 simp only[qI,e0,QQ0,Kr]
 cases XG b (-1) a
 ·simp[QK]
 ·simp only[if_true,QK,Sum.elim_inr,e2,QQ0,QRn]
  cases Qy (-1) b<;>simp
end Go.Proofs.YtameehmkoglkeaaDoor.M
