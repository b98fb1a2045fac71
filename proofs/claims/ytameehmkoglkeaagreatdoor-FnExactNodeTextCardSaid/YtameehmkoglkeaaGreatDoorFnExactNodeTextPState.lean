/- What the plain forms that FnExactNodeText reaches come to: PState. No conditions but those that each theorem states. -/
import Derived.Test.YtameehmkoglkeaaGreatDoorFnExactNodeTextRaw0
import Derived.Test.YtameehmkoglkeaaGreatDoorFnExactNodeTextRaw1
import Derived.Test.YtameehmkoglkeaaGreatDoorFnExactNodeTextRaw2
import Derived.Test.YtameehmkoglkeaaGreatDoorFnExactNodeTextRaw3
import Derived.Lib.Bytealg
set_option linter.all false
namespace Go.Proofs.YtameehmkoglkeaaGreatDoor.M
open Go Go.Eng Go.Proofs
set_option linter.unusedVariables false
def inR (n lo hi:Int):Bool:=decide (lo<=n)&&decide (n<=hi)
theorem Xl (n lo hi:Int):Qw w (n,lo,hi)=some (inR n lo hi):=by
 apply Qin
 simp only[Qa3,inR]
 cases decide (lo<=n)<;>rfl
theorem XZ (n lo hi:Int):QC w (n,lo,hi)=some (inR n lo hi):=by
 apply Qky
 simp only[QdI,inR]
 cases decide (lo<=n)<;>rfl
theorem Qeo (n:Int):Kw w n=some (inR n 0 4):=by
 apply QhL
 simp only[QbG,Xl,QQ0]
theorem Qen (n:Int):Kv w n=some (inR n 0 4):=by
 apply Qh5
 simp only[Qa2,XZ,QQ0]
def X4 (e:Xm):Bool:=inR e.1 1 1000&&inR e.2.1 0 1&&inR e.2.2.1 0 100000&&inR e.2.2.2.1 0 1000&&decide (((ByteArray.size e.2.2.2.2:Nat):Int)<=8)
theorem Qnp (a b c d:Int) (s:ByteArray):Vq w (a,b,c,d,s)=some (X4 (a,b,c,d,s)):=by
 apply Qgl
 simp only[Qaq,Xl,QQ0,X4]
 cases inR a 1 1000<;>cases inR b 0 1<;>cases inR c 0 100000<;>cases inR d 0 1000<;>simp
theorem QlQ (a b c d:Int) (s:ByteArray):YJ w (a,b,c,d,s)=some (X4 (a,b,c,d,s)):=by
 apply Qgu
 simp only[vp,XZ,QQ0,X4]
 cases inR a 1 1000<;>cases inR b 0 1<;>cases inR c 0 100000<;>cases inR d 0 1000<;>simp
theorem QnV (e:Xm):Vq w e=some (X4 e):=Qnp ..
theorem QnJ (e:Xm):YJ w e=some (X4 e):=QlQ ..
def zk (id:Int):List Qj->Int×Int×Int×Int×ByteArray×Bool
 | []=>(0,0,0,0,ByteArray.empty,false)
 |x::l=>if x.1=id then(x.2.1,x.2.2.1,x.2.2.2.1,x.2.2.2.2.1,x.2.2.2.2.2,true)else zk id l
def Xn (id:Int):List Qd->Int
 | []=>0
 |x::l=>if x.1=id then x.2 else Xn id l
def QbQ (id:Int):List Qd->Int⊕Unit
 | []=> .inr ()
 |x::l=>if x.1=id then .inl x.2 else QbQ id l
theorem vH (id:Int):(l:List Qd)->Qr (QbQ id l) (fun u3=>some u3) (fun z4=>some 0)=some (Xn id l)
 | []=>rfl
 |x::l=>by
  have ih:=vH id l
  by_cases h:x.1=id
  ·simp only[QbQ,Xn,h,if_true,Qr,Sum.elim_inl]
  ·simp only[QbQ,Xn,h,if_false];exact ih
theorem QmX (a:List Qj) (b:List Qd) (id:Int) (h:b.length<=maxLen):qf w (a,b,id)=some (Xn id b):=by
 apply Qgv
 have e:=Q4 b.length (fun i=>Yq wl (id,b,((b.length:Nat):Int),(i:Int))) (fun i=>QbQ id (b.drop i))
  (fun i hi ih=>by
    apply yp
    simp only[qq,ilt hi,Qn hi,Qk hi,inc hi h,QQ1,ih]
    rw[QRa hi,QbQ]
    by_cases hx:b[i].1=id
    ·simp only[hx,decide_true,QQ1,if_true]
    ·simp only[hx,decide_false,QQ2,if_false])
  (by
    apply yp
    simp only[qq,Qy,QQ2,QRl,QbQ])
 simp only[QQ6,QRg]at e
 simp only[vT,e,QQ0,vH]
theorem Qln (a:List Qj) (b:List Qd) (id:Int) (h:b.length<=maxLen):Vf w (a,b,id)=some (Xn id b):=by
 apply Qgm
 have e:=Q4 b.length (fun i=>Ym wl (id,(i:Int),a,b)) (fun i=>QbQ id (b.drop i))
  (fun i hi ih=>by
    apply yl
    simp only[xx,ilt hi,Qn hi,Qk hi,inc hi h,QQ1,ih]
    rw[QRa hi,QbQ]
    by_cases hx:b[i].1=id
    ·simp only[hx,decide_true,QQ1,if_true]
    ·simp only[hx,decide_false,QQ2,if_false])
  (by
    apply yl
    simp only[xx,Qy,QQ2,QRl,QbQ])
 simp only[QQ6,QRg]at e
 simp only[Qax,e,QQ0,vH]
def QT:Int->List Qd->Bool
 |_,[]=>true
 |p,x::l=>inR x.1 0 4&&inR x.2 1 1000&&decide (p<x.1)&&QT x.1 l
def Q6 (fl:List Qd):Int->List Qj->Bool
 |_,[]=>true
 |p,x::l=>inR x.1 0 4&&X4 x.2&&decide (Xn x.1 fl<x.2.1)&&decide (p<x.1)&&Q6 fl x.1 l
def QX (s:Qi):Bool:=QT (-1) s.2&&Q6 s.2 (-1) s.1
def zP (b:List Qd) (i:Nat):Int:=if i=0 then -1 else(b.getD (i - 1) (0,0)).1
def zD (b:List Qj) (i:Nat):Int:=if i=0 then -1 else(b.getD (i - 1) Zi).1
theorem Qhx (b:List Qd) {i:Nat}(h:i<b.length):zP b (i+1)=b[i].1:=by simp[zP,List.getD,h]
theorem Qf9 (b:List Qj) {i:Nat}(h:i<b.length):zD b (i+1)=b[i].1:=by simp[zD,List.getD,h]
theorem Qjc (b:List Qd) {i:Nat}(h0:0<i) (h:i - 1<b.length):zP b i=b[i - 1].1:=by
 simp[zP,List.getD,h,show¬i=0 by omega]
theorem Qjb (b:List Qj) {i:Nat}(h0:0<i) (h:i - 1<b.length):zD b i=b[i - 1].1:=by
 simp[zD,List.getD,h,show¬i=0 by omega]
theorem QcX {n:Int}(h:inR n 0 4=true): -1<n:=by
 simp[inR]at h;omega
theorem vk (a b:Int):decide (a<=b)= !decide (b<a):=by
 by_cases h:a<=b
 ·rw[dt h,df (by omega)];rfl
 ·rw[df h,dt (by omega)];rfl
theorem Vz (a:List Qj) (b:List Qd) (ha:a.length<=maxLen) (hb:b.length<=maxLen):XM w (a,b)=some (QX (a,b)):=by
 apply QgP
 have e0:=Q4 b.length (fun i=>Zc wl (b,((b.length:Nat):Int),(i:Int),a,b)) (fun i=>if QT (zP b i) (b.drop i)then .inr (a,b)else .inl false)
  (fun i hi ih=>by
    apply yT
    simp only[qU,ilt hi,Qn hi,Qk hi,inc hi hb,QQ1,ih,Qeo,Xl,QQ0]
    rw[QRa hi,QT,Qhx b hi]
    rcases Nat.eq_zero_or_pos i with h0|h0
    ·subst h0
     cases h1:inR b[0].1 0 4
     ·simp
     ·have:=QcX h1
      simp only[QjK,QQ2,QQ3,zP,if_true,dt this,QRd,QRn]
      cases inR b[0].2 1 1000<;>simp
    ·have hi':i - 1<b.length:=by omega
     simp only[ipos h0,QQ1,Qnt h0 (by omega),Qn hi',Qk hi',Qjc b h0 hi',vk]
     cases inR b[i].1 0 4<;>cases inR b[i].2 1 1000<;>cases decide (b[i - 1].1<b[i].1)<;>simp)
  (by
    apply yT
    simp only[qU,Qy,QQ2,QRl,QT,if_true])
 have e2:=Q4 a.length (fun i=>X9 wl (a,((a.length:Nat):Int),(i:Int),a,b)) (fun i=>if Q6 b (zD a i) (a.drop i)then .inr ()else .inl false)
  (fun i hi ih=>by
    apply yH
    simp only[qK,ilt hi,Qn hi,Qk hi,inc hi ha,QQ1,ih,Qeo,QnV,QmX _ _ _ hb,QQ0]
    rw[QRa hi,Q6,Qf9 a hi]
    rcases Nat.eq_zero_or_pos i with h0|h0
    ·subst h0
     cases h1:inR a[0].1 0 4
     ·simp
     ·have:=QcX h1
      simp only[QjK,QQ2,QQ3,zD,if_true,dt this,QRd,QRn,vk]
      cases X4 a[0].2<;>cases decide (Xn a[0].1 b<a[0].2.1)<;>simp
    ·have hi':i - 1<a.length:=by omega
     simp only[ipos h0,QQ1,Qnt h0 (by omega),Qn hi',Qk hi',Qjb a h0 hi',vk]
     cases inR a[i].1 0 4<;>cases X4 a[i].2<;>cases decide (Xn a[i].1 b<a[i].2.1)<;>cases decide (a[i - 1].1<a[i].1)<;>simp)
  (by
    apply yH
    simp only[qK,Qy,QQ2,QRl,Q6,if_true])
 simp only[QQ6,QRg,zP,zD,if_true]at e0 e2
 simp only[vM,e0,QQ0,QX]
 cases QT (-1) b
 ·simp[Qr]
 ·simp only[if_true,Qr,QY9,e2,QQ0,QRd]
  cases Q6 b (-1) a<;>simp
theorem zz (a:List Qj) (b:List Qd) (ha:a.length<=maxLen) (hb:b.length<=maxLen):ZM w (a,b)=some (QX (a,b)):=by
 apply QgO
 have e2:=Q4 b.length (fun i=>Zn wl ((i:Int),a,b)) (fun i=>if QT (zP b i) (b.drop i)then .inr ()else .inl false)
  (fun i hi ih=>by
    apply yE
    simp only[xI,ilt hi,Qn hi,Qk hi,inc hi hb,QQ1,ih,Qen,XZ,QQ0]
    rw[QRa hi,QT,Qhx b hi]
    rcases Nat.eq_zero_or_pos i with h0|h0
    ·subst h0
     cases h1:inR b[0].1 0 4
     ·simp
     ·have:=QcX h1
      simp only[QjK,QQ2,QQ3,zP,if_true,dt this,QRd,QRn]
      cases inR b[0].2 1 1000<;>simp
    ·have hi':i - 1<b.length:=by omega
     simp only[ipos h0,QQ1,Qnt h0 (by omega),Qn hi',Qk hi',Qjc b h0 hi',vk]
     cases inR b[i].1 0 4<;>cases inR b[i].2 1 1000<;>cases decide (b[i - 1].1<b[i].1)<;>simp)
  (by
    apply yE
    simp only[xI,Qy,QQ2,QRl,QT,if_true])
 have e0:=Q4 a.length (fun i=>Zg wl ((i:Int),a,b)) (fun i=>if Q6 b (zD a i) (a.drop i)then .inr (a,b)else .inl false)
  (fun i hi ih=>by
    apply yX
    simp only[xa,ilt hi,Qn hi,Qk hi,inc hi ha,QQ1,ih,Qen,QnJ,Qln _ _ _ hb,QQ0]
    rw[QRa hi,Q6,Qf9 a hi]
    rcases Nat.eq_zero_or_pos i with h0|h0
    ·subst h0
     cases h1:inR a[0].1 0 4
     ·simp
     ·have:=QcX h1
      simp only[QjK,QQ2,QQ3,zD,if_true,dt this,QRd,QRn,vk]
      cases X4 a[0].2<;>cases decide (Xn a[0].1 b<a[0].2.1)<;>simp
    ·have hi':i - 1<a.length:=by omega
     simp only[ipos h0,QQ1,Qnt h0 (by omega),Qn hi',Qk hi',Qjb a h0 hi',vk]
     cases inR a[i].1 0 4<;>cases X4 a[i].2<;>cases decide (Xn a[i].1 b<a[i].2.1)<;>cases decide (a[i - 1].1<a[i].1)<;>simp)
  (by
    apply yX
    simp only[xa,Qy,QQ2,QRl,Q6,if_true])
 simp only[QQ6,QRg,zP,zD,if_true]at e0 e2
 simp only[vO,e0,QQ0,QX]
 cases Q6 b (-1) a
 ·simp[Qr]
 ·simp only[if_true,Qr,QY9,e2,QQ0,QRn]
  cases QT (-1) b<;>simp
def Y8 (x:Xm):Nat:=ByteArray.size x.2.2.2.2
def Qdp (x:Xm):Prop:=ByteArray.size x.2.2.2.2<=maxLen
theorem QoU {x:Xm}(h:VZ QgZ x):Qdp x:=h.2.2.2.2.1
theorem Qp5 (a0 a1 a2 a3:Int) (a4:ByteArray) (l:Int) (h0:0<=l) (hB:l<=1048576) (hf:Qdp (a0,a1,a2,a3,a4)):J0 w (a0,a1,a2,a3,a4,l)=some (szI (Y8 (a0,a1,a2,a3,a4)) l):=by
 apply Qho
 simp only[Qdp]at hf
 have e:Y8 (a0,a1,a2,a3,a4)=(ByteArray.size a4+0):=by simp only[Y8];omega
 rw[e]
 simp only[vJ]
 refine yM (by omega) (by omega) (hf) fun _=> ?_
 rw[w64 (by omega) (by omega)]
 exact Kx (by omega)
def Xi (x:Qj):Nat:=Y8 (x.2.1,x.2.2.1,x.2.2.2.1,x.2.2.2.2.1,x.2.2.2.2.2)
def QeN (x:Qj):Prop:=Qdp (x.2.1,x.2.2.1,x.2.2.2.1,x.2.2.2.2.1,x.2.2.2.2.2)
theorem Qpj {x:Qj}(h:VZ QK x):QeN x:=QoU ⟨h.2.1,h.2.2.1,h.2.2.2.1,h.2.2.2.2.1,h.2.2.2.2.2.1,trivial⟩
theorem Qmm (a0 a1 a2 a3 a4:Int) (a5:ByteArray) (l:Int) (h0:0<=l) (hB:l<=1048576) (hf:QeN (a0,a1,a2,a3,a4,a5)):zO w (a0,a1,a2,a3,a4,a5,l)=some (szI (Xi (a0,a1,a2,a3,a4,a5)) l):=by
 apply Qim
 simp only[QeN]at hf
 have e:Xi (a0,a1,a2,a3,a4,a5)=(Y8 (a1,a2,a3,a4,a5)+0):=by simp only[Xi];omega
 rw[e]
 simp only[Qbe]
 refine ZD (by omega) (Qp5 a1 a2 a3 a4 a5 _ (by omega) (by omega) (hf)) fun _=> ?_
 exact Kx (by omega)
def Vl (a:List Qj):Nat:=a.length+qs Xi a
def QfR (a:List Qj):Prop:=a.length<=maxLen/\∀x∈a,QeN x
theorem Qpy (a:List Qj) (l:Int) (h0:0<=l) (hB:l<=1048576) (hf:QfR a):J7 w (a,l)=some (szI (Vl a) l):=by
 apply Qhz
 simp only[vB,Vl]
 refine yM h0 hB hf.1 fun h=> ?_
 have e:=QiB Xi a (fun l i=>Z6 wl (a,l,(i:Int))) 1048576
  (fun l i h1 r h0 hB h2 hk=>by
    apply Vi
    have hs:=Qmm a[i].1 a[i].2.1 a[i].2.2.1 a[i].2.2.2.1 a[i].2.2.2.2.1 a[i].2.2.2.2.2 l (by omega) (by omega) (hf.2 _ (QRf h1))
    have hs2:szI (Xi a[i]) l=l - Xi a[i]:=Kt h2
    simp only[KZ,ilt h1,Qn h1,Qk h1,inc h1 (show a.length<=maxLen from hf.1),QQ1,hs,QQ0]
    simp only[show szI (Xi (a[i].1,a[i].2.1,a[i].2.2.1,a[i].2.2.2.1,a[i].2.2.2.2.1,a[i].2.2.2.2.2)) l=l - Xi a[i]from hs2,df (show¬l - (Xi a[i]:Int)<0 by omega),QQ2]
    exact hk)
  (fun l i h1 h0 hB h2=>by
    apply Vi
    have hs:=Qmm a[i].1 a[i].2.1 a[i].2.2.1 a[i].2.2.2.1 a[i].2.2.2.2.1 a[i].2.2.2.2.2 l (by omega) (by omega) (hf.2 _ (QRf h1))
    have hs2:szI (Xi a[i]) l= -1:=Y3 h2
    simp only[KZ,ilt h1,Qn h1,Qk h1,QQ1,hs,QQ0]
    simp only[show szI (Xi (a[i].1,a[i].2.1,a[i].2.2.1,a[i].2.2.2.1,a[i].2.2.2.2.1,a[i].2.2.2.2.2)) l= -1 from hs2,dt (show(-1:Int)<0 by omega),QQ1])
  (fun l=>by
    apply Vi
    simp only[KZ,Qy,QQ2])
  (l - a.length) (by omega) (by omega)
 have hl:=hf.1
 simp only[maxLen]at hl
 rw[w64 (by omega) (by omega)]
 simp only[QQ6]at e
 rw[e,QQ0,QfQ]
def K9 (a:List Qd):Nat:=a.length
def Qel (a:List Qd):Prop:=a.length<=maxLen
theorem QnY (a:List Qd) (l:Int) (h0:0<=l) (hB:l<=1048576) (hf:Qel a):Jo w (a,l)=some (szI (K9 a) l):=by
 apply Qfx
 simp only[jt]
 exact yM (m:=0) h0 hB hf fun h=>by rw[w64 (by omega) (by omega)];exact Kx (by omega)
def QY (x:Qi):Nat:=Vl x.1+K9 x.2
def zp (x:Qi):Prop:=QfR x.1/\Qel x.2
theorem QiT {x:Qi}(h:VZ XD x):zp x:=⟨⟨h.1.1,fun y hy=>Qpj (h.1.2 y hy)⟩,h.2.1.1⟩
theorem Qf1 (a0:List Qj) (a1:List Qd) (l:Int) (h0:0<=l) (hB:l<=1048576) (hf:zp (a0,a1)):K8 w (a0,a1,l)=some (szI (QY (a0,a1)) l):=by
 apply Qg9
 simp only[zp]at hf
 have e:QY (a0,a1)=(Vl a0+(K9 a1+0)):=by simp only[QY];omega
 rw[e]
 simp only[Qaz]
 refine ZD (by omega) (Qpy a0 _ (by omega) (by omega) (hf.1)) fun _=> ?_
 refine ZD (by omega) (QnY a1 _ (by omega) (by omega) (hf.2)) fun _=> ?_
 exact Kx (by omega)
def Q2 (a:List Int):Nat:=a.length
def vi (a:List Int):Prop:=a.length<=maxLen
theorem Qcq (a:List Int) (l:Int) (h0:0<=l) (hB:l<=1048576) (hf:vi a):Yw w (a,l)=some (szI (Q2 a) l):=by
 apply Qiv
 simp only[Qa5]
 exact yM (m:=0) h0 hB hf fun h=>by rw[w64 (by omega) (by omega)];exact Kx (by omega)
def VN (x:ZY):Nat:=Q2 x.1
def Qb5 (x:ZY):Prop:=vi x.1
theorem Qp3 {x:ZY}(h:VZ QjU x):Qb5 x:=h.1.1
theorem Qq9 (a0:List Int) (a1 l:Int) (h0:0<=l) (hB:l<=1048576) (hf:Qb5 (a0,a1)):zK w (a0,a1,l)=some (szI (VN (a0,a1)) l):=by
 apply Qh2
 simp only[Qb5]at hf
 have e:VN (a0,a1)=(Q2 a0+0):=by simp only[VN];omega
 rw[e]
 simp only[QbH]
 refine ZD (by omega) (Qcq a0 _ (by omega) (by omega) (hf)) fun _=> ?_
 exact Kx (by omega)
def Y5 (a:List Qi):Nat:=a.length+qs QY a
def Qed (a:List Qi):Prop:=a.length<=maxLen/\∀x∈a,zp x
theorem QnZ (a:List Qi) (l:Int) (h0:0<=l) (hB:l<=1048576) (hf:Qed a):Jl w (a,l)=some (szI (Y5 a) l):=by
 apply QfH
 simp only[jz,Y5]
 refine yM h0 hB hf.1 fun h=> ?_
 have e:=QiB QY a (fun l i=>ZS wl (a,l,(i:Int))) 1048576
  (fun l i h1 r h0 hB h2 hk=>by
    apply KO
    have hs:=Qf1 a[i].1 a[i].2 l (by omega) (by omega) (hf.2 _ (QRf h1))
    have hs2:szI (QY a[i]) l=l - QY a[i]:=Kt h2
    simp only[Kg,ilt h1,Qn h1,Qk h1,inc h1 (show a.length<=maxLen from hf.1),QQ1,hs,QQ0]
    simp only[show szI (QY (a[i].1,a[i].2)) l=l - QY a[i]from hs2,df (show¬l - (QY a[i]:Int)<0 by omega),QQ2]
    exact hk)
  (fun l i h1 h0 hB h2=>by
    apply KO
    have hs:=Qf1 a[i].1 a[i].2 l (by omega) (by omega) (hf.2 _ (QRf h1))
    have hs2:szI (QY a[i]) l= -1:=Y3 h2
    simp only[Kg,ilt h1,Qn h1,Qk h1,QQ1,hs,QQ0]
    simp only[show szI (QY (a[i].1,a[i].2)) l= -1 from hs2,dt (show(-1:Int)<0 by omega),QQ1])
  (fun l=>by
    apply KO
    simp only[Kg,Qy,QQ2])
  (l - a.length) (by omega) (by omega)
 have hl:=hf.1
 simp only[maxLen]at hl
 rw[w64 (by omega) (by omega)]
 simp only[QQ6]at e
 rw[e,QQ0,QfQ]
def xf (x:xT):Nat:=Y5 x.2.2
def Qea (x:xT):Prop:=Qed x.2.2
theorem QqU {x:xT}(h:VZ Qkq x):Qea x:=⟨h.2.2.1.1,fun y hy=>QiT (h.2.2.1.2 y hy)⟩
theorem QrU (a0 a1:Int) (a2:List Qi) (l:Int) (h0:0<=l) (hB:l<=1048576) (hf:Qea (a0,a1,a2)):j0 w (a0,a1,a2,l)=some (szI (xf (a0,a1,a2)) l):=by
 apply QjH
 simp only[Qea]at hf
 have e:xf (a0,a1,a2)=(Y5 a2+0):=by simp only[xf];omega
 rw[e]
 simp only[Qcg]
 refine ZD (by omega) (QnZ a2 _ (by omega) (by omega) (hf)) fun _=> ?_
 exact Kx (by omega)
def K7 (a:List (List Int)):Nat:=a.length+qs Q2 a
def Qfy (a:List (List Int)):Prop:=a.length<=maxLen/\∀x∈a,vi x
theorem Qo3 (a:List (List Int)) (l:Int) (h0:0<=l) (hB:l<=1048576) (hf:Qfy a):xe w (a,l)=some (szI (K7 a) l):=by
 apply QgM
 simp only[Qai,K7]
 refine yM h0 hB hf.1 fun h=> ?_
 have e:=QiB Q2 a (fun l i=>Yj wl (a,l,(i:Int))) 1048576
  (fun l i h1 r h0 hB h2 hk=>by
    apply Vs
    have hs:=Qcq a[i] l (by omega) (by omega) (hf.2 _ (QRf h1))
    have hs2:szI (Q2 a[i]) l=l - Q2 a[i]:=Kt h2
    simp only[KW,ilt h1,Qn h1,Qk h1,inc h1 (show a.length<=maxLen from hf.1),QQ1,hs,QQ0]
    simp only[show szI (Q2 a[i]) l=l - Q2 a[i]from hs2,df (show¬l - (Q2 a[i]:Int)<0 by omega),QQ2]
    exact hk)
  (fun l i h1 h0 hB h2=>by
    apply Vs
    have hs:=Qcq a[i] l (by omega) (by omega) (hf.2 _ (QRf h1))
    have hs2:szI (Q2 a[i]) l= -1:=Y3 h2
    simp only[KW,ilt h1,Qn h1,Qk h1,QQ1,hs,QQ0]
    simp only[show szI (Q2 a[i]) l= -1 from hs2,dt (show(-1:Int)<0 by omega),QQ1])
  (fun l=>by
    apply Vs
    simp only[KW,Qy,QQ2])
  (l - a.length) (by omega) (by omega)
 have hl:=hf.1
 simp only[maxLen]at hl
 rw[w64 (by omega) (by omega)]
 simp only[QQ6]at e
 rw[e,QQ0,QfQ]
def JA (a:List QH):Nat:=a.length
def QfW (a:List QH):Prop:=a.length<=maxLen
theorem QpN (a:List QH) (l:Int) (h0:0<=l) (hB:l<=1048576) (hf:QfW a):J8 w (a,l)=some (szI (JA a) l):=by
 apply Qg6
 simp only[QaB]
 exact yM (m:=0) h0 hB hf fun h=>by rw[w64 (by omega) (by omega)];exact Kx (by omega)
def Jv (a:List QL):Nat:=a.length
def QfG (a:List QL):Prop:=a.length<=maxLen
theorem QpT (a:List QL) (l:Int) (h0:0<=l) (hB:l<=1048576) (hf:QfG a):qv w (a,l)=some (szI (Jv a) l):=by
 apply Qhi
 simp only[vK]
 exact yM (m:=0) h0 hB hf fun h=>by rw[w64 (by omega) (by omega)];exact Kx (by omega)
def JX (x:QI):Nat:=QY (x.2.2.1,x.2.2.2.1)+VN (x.2.2.2.2.1,x.2.2.2.2.2.1)+xf (x.2.2.2.2.2.2.1,x.2.2.2.2.2.2.2.1,x.2.2.2.2.2.2.2.2.1)+Q2 x.2.2.2.2.2.2.2.2.2.1+Q2 x.2.2.2.2.2.2.2.2.2.2.1+K7 x.2.2.2.2.2.2.2.2.2.2.2.1+JA x.2.2.2.2.2.2.2.2.2.2.2.2.2.2.1+Jv x.2.2.2.2.2.2.2.2.2.2.2.2.2.2.2.2.2.2
def vc (x:QI):Prop:=zp (x.2.2.1,x.2.2.2.1)/\Qb5 (x.2.2.2.2.1,x.2.2.2.2.2.1)/\Qea (x.2.2.2.2.2.2.1,x.2.2.2.2.2.2.2.1,x.2.2.2.2.2.2.2.2.1)/\vi x.2.2.2.2.2.2.2.2.2.1/\vi x.2.2.2.2.2.2.2.2.2.2.1/\Qfy x.2.2.2.2.2.2.2.2.2.2.2.1/\QfW x.2.2.2.2.2.2.2.2.2.2.2.2.2.2.1/\QfG x.2.2.2.2.2.2.2.2.2.2.2.2.2.2.2.2.2.2
theorem Quw {x:QI}(h:VZ QbC x):vc x:=⟨QiT ⟨h.2.2.1,h.2.2.2.1,trivial⟩,Qp3 ⟨h.2.2.2.2.1,h.2.2.2.2.2.1,trivial⟩,QqU ⟨h.2.2.2.2.2.2.1,h.2.2.2.2.2.2.2.1,h.2.2.2.2.2.2.2.2.1,trivial⟩,h.2.2.2.2.2.2.2.2.2.1.1,h.2.2.2.2.2.2.2.2.2.2.1.1,⟨h.2.2.2.2.2.2.2.2.2.2.2.1.1,fun y hy=>((h.2.2.2.2.2.2.2.2.2.2.2.1.2 y hy).1).1⟩,h.2.2.2.2.2.2.2.2.2.2.2.2.2.2.1.1,h.2.2.2.2.2.2.2.2.2.2.2.2.2.2.2.2.2.2.1.1⟩
theorem QqN (a0 a1:Int) (a2:List Qj) (a3:List Qd) (a4:List Int) (a5 a6 a7:Int) (a8:List Qi) (a9 a10:List Int) (a11:List (List Int)) (a12 a13:Int) (a14:List QH) (a15 a16 a17:Int) (a18:List QL) (l:Int) (h0:0<=l) (hB:l<=1048576) (hf:vc (a0,a1,a2,a3,a4,a5,a6,a7,a8,a9,a10,a11,a12,a13,a14,a15,a16,a17,a18)):zI w (a0,a1,a2,a3,a4,a5,a6,a7,a8,a9,a10,a11,a12,a13,a14,a15,a16,a17,a18,l)=some (szI (JX (a0,a1,a2,a3,a4,a5,a6,a7,a8,a9,a10,a11,a12,a13,a14,a15,a16,a17,a18)) l):=by
 apply QiM
 simp only[vc]at hf
 have e:JX (a0,a1,a2,a3,a4,a5,a6,a7,a8,a9,a10,a11,a12,a13,a14,a15,a16,a17,a18)=(QY (a2,a3)+(VN (a4,a5)+(xf (a6,a7,a8)+(Q2 a9+(Q2 a10+(K7 a11+(JA a14+(Jv a18+0)))))))):=by simp only[JX];omega
 rw[e]
 simp only[Qa7]
 refine ZD (by omega) (Qf1 a2 a3 _ (by omega) (by omega) (hf.1)) fun _=> ?_
 refine ZD (by omega) (Qq9 a4 a5 _ (by omega) (by omega) (hf.2.1)) fun _=> ?_
 refine ZD (by omega) (QrU a6 a7 a8 _ (by omega) (by omega) (hf.2.2.1)) fun _=> ?_
 refine ZD (by omega) (Qcq a9 _ (by omega) (by omega) (hf.2.2.2.1)) fun _=> ?_
 refine ZD (by omega) (Qcq a10 _ (by omega) (by omega) (hf.2.2.2.2.1)) fun _=> ?_
 refine ZD (by omega) (Qo3 a11 _ (by omega) (by omega) (hf.2.2.2.2.2.1)) fun _=> ?_
 refine ZD (by omega) (QpN a14 _ (by omega) (by omega) (hf.2.2.2.2.2.2.1)) fun _=> ?_
 refine ZD (by omega) (QpT a18 _ (by omega) (by omega) (hf.2.2.2.2.2.2.2)) fun _=> ?_
 exact Kx (by omega)
theorem Qp8 (a0 a1 a2 a3:Int) (a4:ByteArray) (h:Y8 (a0,a1,a2,a3,a4)<=4294967296):qB w (a0,a1,a2,a3,a4)=some (a0,a1,a2,a3,a4):=by
 apply Qhu
 simp only[Y8]at h
 simp only[QaH]
theorem QqJ (a0 a1 a2 a3 a4:Int) (a5:ByteArray) (h:Xi (a0,a1,a2,a3,a4,a5)<=4294967296):zA w (a0,a1,a2,a3,a4,a5)=some (a0,a1,a2,a3,a4,a5):=by
 apply Qh6
 simp only[Xi]at h
 simp only[Qbf,Qp8 a1 a2 a3 a4 a5 (by omega),QQ0]
theorem Qpl (a:List Qj) (h:Vl a<=4294967296):qP w a=some a:=by
 apply Qhw
 simp only[Vl]at h
 have e:=Jw a (fun x=>x) (fun i out=>Yb wl (a,(i:Int),out)) (fun out=>out)
  (fun i h1 out r ho hk=>by
    apply yj
    have hb:=JB Xi a i h1
    simp only[qd,ilt h1,ho,Qn h1,Qk h1,inc h1 (show a.length<=maxLen by simp[maxLen];omega),QQ1,QRb,QqJ a[i].1 a[i].2.1 a[i].2.2.1 a[i].2.2.2.1 a[i].2.2.2.2.1 a[i].2.2.2.2.2 (show Xi a[i]<=4294967296 by omega),QQ0]
    exact hk)
  (fun out ho=>by
    apply yj
    simp only[qd,Qy,QQ2])
  (List.replicate a.length (0,0,0,0,0,ByteArray.empty)) (by simp)
 rw[List.map_id']at e
 have hf:fits a.length 56=true:=QN (by omega)
 simp only[Qan,QRb,hf]
 simp
 exact e
theorem QoZ (a0 a1:Int):qw w (a0,a1)=some (a0,a1):=by
 apply QgY
 simp only[Qat]
theorem Qoc (a:List Qd) (h:K9 a<=4294967296):Jm w a=some a:=by
 apply QfO
 simp only[K9]at h
 have e:=Jw a (fun x=>x) (fun i out=>ZL wl (a,(i:Int),out)) (fun out=>out)
  (fun i h1 out r ho hk=>by
    apply xN
    simp only[JI,ilt h1,ho,Qn h1,Qk h1,inc h1 (show a.length<=maxLen by simp[maxLen];omega),QQ1,QRb,QoZ a[i].1 a[i].2,QQ0]
    exact hk)
  (fun out ho=>by
    apply xN
    simp only[JI,Qy,QQ2])
  (List.replicate a.length (0,0)) (by simp)
 rw[List.map_id']at e
 have hf:fits a.length 16=true:=QN (by omega)
 simp only[jM,QRb,hf]
 simp
 exact e
theorem Qkb (a0:List Qj) (a1:List Qd) (h:QY (a0,a1)<=4294967296):Vp w (a0,a1)=some (a0,a1):=by
 apply QgD
 simp only[QY]at h
 simp only[vU,Qpl a0 (by omega),Qoc a1 (by omega),QQ0]
theorem QeT (a:List Int) (h:Q2 a<=4294967296):Yy w a=some a:=by
 apply Qh8
 simp only[Q2]at h
 have e:=Jw a (fun x=>x) (fun i out=>Y1 wl (a,(i:Int),out)) (fun out=>out)
  (fun i h1 out r ho hk=>by
    apply jE
    simp only[za,ilt h1,ho,Qn h1,Qk h1,inc h1 (show a.length<=maxLen by simp[maxLen];omega),QQ1,QRb]
    exact hk)
  (fun out ho=>by
    apply jE
    simp only[za,Qy,QQ2])
  (List.replicate a.length 0) (by simp)
 rw[List.map_id']at e
 have hf:fits a.length 8=true:=QN (by omega)
 simp only[Qbk,QRb,hf]
 simp
 exact e
theorem QqP (a0:List Int) (a1:Int) (h:VN (a0,a1)<=4294967296):zq w (a0,a1)=some (a0,a1):=by
 apply Qh1
 simp only[VN]at h
 simp only[Qa6,QeT a0 (by omega),QQ0]
theorem Qon (a:List Qi) (h:Y5 a<=4294967296):Jp w a=some a:=by
 apply QfI
 simp only[Y5]at h
 have e:=Jw a (fun x=>x) (fun i out=>ZH wl (a,(i:Int),out)) (fun out=>out)
  (fun i h1 out r ho hk=>by
    apply xP
    have hb:=JB QY a i h1
    simp only[JE,ilt h1,ho,Qn h1,Qk h1,inc h1 (show a.length<=maxLen by simp[maxLen];omega),QQ1,QRb,Qkb a[i].1 a[i].2 (show QY a[i]<=4294967296 by omega),QQ0]
    exact hk)
  (fun out ho=>by
    apply xP
    simp only[JE,Qy,QQ2])
  (List.replicate a.length ([],[])) (by simp)
 rw[List.map_id']at e
 have hf:fits a.length 48=true:=QN (by omega)
 simp only[jH,QRb,hf]
 simp
 exact e
theorem Qrn (a0 a1:Int) (a2:List Qi) (h:xf (a0,a1,a2)<=4294967296):jV w (a0,a1,a2)=some (a0,a1,a2):=by
 apply QjA
 simp only[xf]at h
 simp only[Qcn,Qon a2 (by omega),QQ0]
theorem QpR (a:List (List Int)) (h:K7 a<=4294967296):xi w a=some a:=by
 apply QgX
 simp only[K7]at h
 have e:=Jw a (fun x=>x) (fun i out=>Ya wl (a,(i:Int),out)) (fun out=>out)
  (fun i h1 out r ho hk=>by
    apply yB
    have hb:=JB Q2 a i h1
    simp only[xu,ilt h1,ho,Qn h1,Qk h1,inc h1 (show a.length<=maxLen by simp[maxLen];omega),QQ1,QRb,QeT a[i] (show Q2 a[i]<=4294967296 by omega),QQ0]
    exact hk)
  (fun out ho=>by
    apply yB
    simp only[xu,Qy,QQ2])
  (List.replicate a.length []) (by simp)
 rw[List.map_id']at e
 have hf:fits a.length 24=true:=QN (by omega)
 simp only[vQ,QRb,hf]
 simp
 exact e
theorem QqW (a0 a1:Int) (a2:Bool) (a3:Int):zy w (a0,a1,a2,a3)=some (a0,a1,a2,a3):=by
 apply QhY
 simp only[Qbl]
theorem Qpe (a:List QH) (h:JA a<=4294967296):xD w a=some a:=by
 apply QgT
 simp only[JA]at h
 have e:=Jw a (fun x=>x) (fun i out=>Z3 wl (a,(i:Int),out)) (fun out=>out)
  (fun i h1 out r ho hk=>by
    apply ye
    simp only[xj,ilt h1,ho,Qn h1,Qk h1,inc h1 (show a.length<=maxLen by simp[maxLen];omega),QQ1,QRb,QqW a[i].1 a[i].2.1 a[i].2.2.1 a[i].2.2.2,QQ0]
    exact hk)
  (fun out ho=>by
    apply ye
    simp only[xj,Qy,QQ2])
  (List.replicate a.length (0,0,false,0)) (by simp)
 rw[List.map_id']at e
 have hf:fits a.length 32=true:=QN (by omega)
 simp only[vu,QRb,hf]
 simp
 exact e
theorem QqG (a0 a1 a2:Int):zU w (a0,a1,a2)=some (a0,a1,a2):=by
 apply Qil
 simp only[Qa4]
theorem QpQ (a:List QL) (h:Jv a<=4294967296):xy w a=some a:=by
 apply Qge
 simp only[Jv]at h
 have e:=Jw a (fun x=>x) (fun i out=>Z8 wl (a,(i:Int),out)) (fun out=>out)
  (fun i h1 out r ho hk=>by
    apply yY
    simp only[qV,ilt h1,ho,Qn h1,Qk h1,inc h1 (show a.length<=maxLen by simp[maxLen];omega),QQ1,QRb,QqG a[i].1 a[i].2.1 a[i].2.2,QQ0]
    exact hk)
  (fun out ho=>by
    apply yY
    simp only[qV,Qy,QQ2])
  (List.replicate a.length (0,0,0)) (by simp)
 rw[List.map_id']at e
 have hf:fits a.length 24=true:=QN (by omega)
 simp only[QaI,QRb,hf]
 simp
 exact e
theorem Qq1 (a0 a1:Int) (a2:List Qj) (a3:List Qd) (a4:List Int) (a5 a6 a7:Int) (a8:List Qi) (a9 a10:List Int) (a11:List (List Int)) (a12 a13:Int) (a14:List QH) (a15 a16 a17:Int) (a18:List QL) (h:JX (a0,a1,a2,a3,a4,a5,a6,a7,a8,a9,a10,a11,a12,a13,a14,a15,a16,a17,a18)<=4294967296):KH w (a0,a1,a2,a3,a4,a5,a6,a7,a8,a9,a10,a11,a12,a13,a14,a15,a16,a17,a18)=some (a0,a1,a2,a3,a4,a5,a6,a7,a8,a9,a10,a11,a12,a13,a14,a15,a16,a17,a18):=by
 apply Qh0
 simp only[JX]at h
 simp only[Qbx,Qkb a2 a3 (by omega),QqP a4 a5 (by omega),Qrn a6 a7 a8 (by omega),QeT a9 (by omega),QeT a10 (by omega),QpR a11 (by omega),Qpe a14 (by omega),QpQ a18 (by omega),QQ0]
theorem Qpb (a0 a1 a2 a3:Int) (a4:ByteArray) (h:Y8 (a0,a1,a2,a3,a4)<=4294967296):xz w (a0,a1,a2,a3,a4,a0,a1,a2,a3,a4)=some true:=by
 apply Qhc
 simp only[Y8]at h
 simp only[vv,decide_true,QQ3,QQ2,Q8,beq_self_eq_true,QQ0]
theorem QqY (a0 a1 a2 a3 a4:Int) (a5:ByteArray) (h:Xi (a0,a1,a2,a3,a4,a5)<=4294967296):zF w (a0,a1,a2,a3,a4,a5,a0,a1,a2,a3,a4,a5)=some true:=by
 apply Qix
 simp only[Xi]at h
 simp only[Qbs,Qpb a1 a2 a3 a4 a5 (by omega),decide_true,QQ3,QQ2,Q8,beq_self_eq_true,QQ0]
theorem Qpm (a:List Qj) (h:Vl a<=4294967296):xl w (a,a)=some true:=by
 apply Qf7
 simp only[Vl]at h
 have e:=JH a.length (fun i=>Yg wl (a,a,(i:Int))) (.inr ())
  (fun i h1 r hk=>by
    apply yF
    have hb:=JB Xi a i h1
    simp only[qA,ilt h1,Qn h1,Qk h1,inc h1 (show a.length<=maxLen by simp[maxLen];omega),QQ1,decide_true,QQ3,QQ2,Q8,beq_self_eq_true,QqY a[i].1 a[i].2.1 a[i].2.2.1 a[i].2.2.2.1 a[i].2.2.2.2.1 a[i].2.2.2.2.2 (show Xi a[i]<=4294967296 by omega),QQ0]
    exact hk)
  (by
    apply yF
    simp only[qA,Qy,QQ2])
 simp only[QQ6]at e
 simp only[vo,decide_true,QQ3,QQ2,e,QQ0,Qr,QY9]
theorem QpK (a0 a1:Int):xC w (a0,a1,a0,a1)=some true:=by
 apply QhC
 simp only[Qay,decide_true,QQ3,QQ2,Q8,beq_self_eq_true,QQ0]
theorem Qor (a:List Qd) (h:K9 a<=4294967296):Jk w (a,a)=some true:=by
 apply QfN
 simp only[K9]at h
 have e:=JH a.length (fun i=>ZR wl (a,a,(i:Int))) (.inr ())
  (fun i h1 r hk=>by
    apply xQ
    simp only[Jy,ilt h1,Qn h1,Qk h1,inc h1 (show a.length<=maxLen by simp[maxLen];omega),QQ1,decide_true,QQ3,QQ2,Q8,beq_self_eq_true,QpK a[i].1 a[i].2,QQ0]
    exact hk)
  (by
    apply xQ
    simp only[Jy,Qy,QQ2])
 simp only[QQ6]at e
 simp only[jB,decide_true,QQ3,QQ2,e,QQ0,Qr,QY9]
theorem QkA (a0:List Qj) (a1:List Qd) (h:QY (a0,a1)<=4294967296):Vm w (a0,a1,a0,a1)=some true:=by
 apply QhB
 simp only[QY]at h
 simp only[Qaw,Qpm a0 (by omega),Qor a1 (by omega),decide_true,QQ3,QQ2,Q8,beq_self_eq_true,QQ0]
theorem QeQ (a:List Int) (h:Q2 a<=4294967296):YD w (a,a)=some true:=by
 apply QhS
 simp only[Q2]at h
 have e:=JH a.length (fun i=>YM wl (a,a,(i:Int))) (.inr ())
  (fun i h1 r hk=>by
    apply jG
    simp only[x6,ilt h1,Qn h1,Qk h1,inc h1 (show a.length<=maxLen by simp[maxLen];omega),QQ1,decide_true,QQ3,QQ2,Q8,beq_self_eq_true]
    exact hk)
  (by
    apply jG
    simp only[x6,Qy,QQ2])
 simp only[QQ6]at e
 simp only[QaX,decide_true,QQ3,QQ2,e,QQ0,Qr,QY9]
theorem QqF (a0:List Int) (a1:Int) (h:VN (a0,a1)<=4294967296):zH w (a0,a1,a0,a1)=some true:=by
 apply Qib
 simp only[VN]at h
 simp only[Qbq,QeQ a0 (by omega),decide_true,QQ3,QQ2,Q8,beq_self_eq_true,QQ0]
theorem Qop (a:List Qi) (h:Y5 a<=4294967296):Jn w (a,a)=some true:=by
 apply QfC
 simp only[Y5]at h
 have e:=JH a.length (fun i=>ZQ wl (a,a,(i:Int))) (.inr ())
  (fun i h1 r hk=>by
    apply xO
    have hb:=JB QY a i h1
    simp only[JC,ilt h1,Qn h1,Qk h1,inc h1 (show a.length<=maxLen by simp[maxLen];omega),QQ1,decide_true,QQ3,QQ2,Q8,beq_self_eq_true,QkA a[i].1 a[i].2 (show QY a[i]<=4294967296 by omega),QQ0]
    exact hk)
  (by
    apply xO
    simp only[JC,Qy,QQ2])
 simp only[QQ6]at e
 simp only[jI,decide_true,QQ3,QQ2,e,QQ0,Qr,QY9]
theorem QrP (a0 a1:Int) (a2:List Qi) (h:xf (a0,a1,a2)<=4294967296):jW w (a0,a1,a2,a0,a1,a2)=some true:=by
 apply QjG
 simp only[xf]at h
 simp only[Qcw,Qop a2 (by omega),decide_true,QQ3,QQ2,Q8,beq_self_eq_true,QQ0]
theorem Qp7 (a:List (List Int)) (h:K7 a<=4294967296):qI w (a,a)=some true:=by
 apply Qhk
 simp only[K7]at h
 have e:=JH a.length (fun i=>Ys wl (a,a,(i:Int))) (.inr ())
  (fun i h1 r hk=>by
    apply yN
    have hb:=JB Q2 a i h1
    simp only[xA,ilt h1,Qn h1,Qk h1,inc h1 (show a.length<=maxLen by simp[maxLen];omega),QQ1,decide_true,QQ3,QQ2,Q8,beq_self_eq_true,QeQ a[i] (show Q2 a[i]<=4294967296 by omega),QQ0]
    exact hk)
  (by
    apply yN
    simp only[xA,Qy,QQ2])
 simp only[QQ6]at e
 simp only[Qak,decide_true,QQ3,QQ2,e,QQ0,Qr,QY9]
theorem QqL (a0 a1:Int) (a2:Bool) (a3:Int):zN w (a0,a1,a2,a3,a0,a1,a2,a3)=some true:=by
 apply Qig
 simp only[Qba,decide_true,QQ3,QQ2,Q8,beq_self_eq_true,QQ0]
theorem QpF (a:List QH) (h:JA a<=4294967296):qx w (a,a)=some true:=by
 apply Qg7
 simp only[JA]at h
 have e:=JH a.length (fun i=>Yn wl (a,a,(i:Int))) (.inr ())
  (fun i h1 r hk=>by
    apply yu
    simp only[xK,ilt h1,Qn h1,Qk h1,inc h1 (show a.length<=maxLen by simp[maxLen];omega),QQ1,decide_true,QQ3,QQ2,Q8,beq_self_eq_true,QqL a[i].1 a[i].2.1 a[i].2.2.1 a[i].2.2.2,QQ0]
    exact hk)
  (by
    apply yu
    simp only[xK,Qy,QQ2])
 simp only[QQ6]at e
 simp only[vx,decide_true,QQ3,QQ2,e,QQ0,Qr,QY9]
theorem Qq4 (a0 a1 a2:Int):zW w (a0,a1,a2,a0,a1,a2)=some true:=by
 apply Qii
 simp only[QbJ,decide_true,QQ3,QQ2,Q8,beq_self_eq_true,QQ0]
theorem QoV (a:List QL) (h:Jv a<=4294967296):qo w (a,a)=some true:=by
 apply QgH
 simp only[Jv]at h
 have e:=JH a.length (fun i=>Z5 wl (a,a,(i:Int))) (.inr ())
  (fun i h1 r hk=>by
    apply yK
    simp only[qy,ilt h1,Qn h1,Qk h1,inc h1 (show a.length<=maxLen by simp[maxLen];omega),QQ1,decide_true,QQ3,QQ2,Q8,beq_self_eq_true,Qq4 a[i].1 a[i].2.1 a[i].2.2,QQ0]
    exact hk)
  (by
    apply yK
    simp only[qy,Qy,QQ2])
 simp only[QQ6]at e
 simp only[Qam,decide_true,QQ3,QQ2,e,QQ0,Qr,QY9]
theorem QqV (a0 a1:Int) (a2:List Qj) (a3:List Qd) (a4:List Int) (a5 a6 a7:Int) (a8:List Qi) (a9 a10:List Int) (a11:List (List Int)) (a12 a13:Int) (a14:List QH) (a15 a16 a17:Int) (a18:List QL) (h:JX (a0,a1,a2,a3,a4,a5,a6,a7,a8,a9,a10,a11,a12,a13,a14,a15,a16,a17,a18)<=4294967296):zw w (a0,a1,a2,a3,a4,a5,a6,a7,a8,a9,a10,a11,a12,a13,a14,a15,a16,a17,a18,a0,a1,a2,a3,a4,a5,a6,a7,a8,a9,a10,a11,a12,a13,a14,a15,a16,a17,a18)=some true:=by
 apply Qiy
 simp only[JX]at h
 simp only[Qa8,QkA a2 a3 (by omega),QqF a4 a5 (by omega),QrP a6 a7 a8 (by omega),QeQ a9 (by omega),QeQ a10 (by omega),Qp7 a11 (by omega),QpF a14 (by omega),QoV a18 (by omega),decide_true,QQ3,QQ2,Q8,beq_self_eq_true,QQ0]
def Qng (a b:Int):Int:=if a<b then -1 else if b<a then 1 else 0
def Qui (a b:ByteArray):Int:=Go.Lib.compareBytes a.data.toList b.data.toList
def or5 (a b c d e:Int):Int:=if a≠0 then a else if b≠0 then b else if c≠0 then c else if d≠0 then d else e
def QrI (x y:Xm):Int:=or5 (Qng x.1 y.1) (Qng x.2.1 y.2.1) (Qng x.2.2.1 y.2.2.1) (Qng x.2.2.2.1 y.2.2.2.1) (Qui x.2.2.2.2 y.2.2.2.2)
def QrB (x y:Xm):Xm:=if QrI x y<0 then y else x
def QdR (n:Int):Int:=IntKind.wrap .u8 (wR (Int.tmod n 128+128))
def KJ:Nat->Int->List Int->Int×List Int
 |0,n,o=>(n,o)
 |f+1,n,o=>if 128<=n then KJ f (Int.tdiv n 128) (o++[QdR n])else(n,o)
def Qo (n:Int):List Int:=bif inR n 0 2147483647 then(KJ 4 n []).2++[IntKind.wrap .u8 (KJ 4 n []).1]else []
theorem QcR:(f:Nat)->(n:Int)->(o:List Int)->(KJ f n o).2.length<=o.length+f
 |0,n,o=>by simp[KJ]
 |f+1,n,o=>by
  simp only[KJ]
  split
  ·have:=QcR f (Int.tdiv n 128) (o++[QdR n])
   simp only[QRj,QY30]at this;omega
  ·simp
theorem QJ (n:Int):(Qo n).length<=5:=by
 unfold Qo
 have:=QcR 4 n []
 cases inR n 0 2147483647
 ·simp
 ·simp only[QQ1,QRj,QY30];simp at this;omega
theorem Qls:(f:Nat)->(n:Int)->(o:List Int)->0<=n->n<128^(f+1)->n<=2147483647->o.length+f<=1000->YH wl (n,o)=some (KJ f n o):=by
 intro f
 induction f with
 |zero=>
  intro n o h0 h1 h2 h3
  apply jD
  simp only[VF,df (show¬128<=n by omega),QQ2,KJ]
 |succ f ih=>
  intro n o h0 h1 h2 h3
  apply jD
  by_cases h:128<=n
  ·have hd:=Int.tdiv_eq_ediv_of_nonneg (b:=128) h0
   have:=ih (Int.tdiv n 128) (o++[QdR n]) (by omega) (by rw[Int.pow_succ]at h1;omega) (by omega) (by simp;omega)
   simp only[QdR]at this
   simp only[VF,dt h,QQ1,dt (show(128:Int)≠0 by omega),QN (show(o.length+List.length [IntKind.wrap .u8 (wR (Int.tmod n 128+128))])*1<=140737488351232 by simp;omega),KJ,h,if_true,QdR]
   rw[w64 (n:=Int.tdiv n 128) (by omega) (by omega)]
   exact this
  ·simp only[VF,df h,QQ2,KJ,h,decide_false,if_false]
theorem QkZ:(f:Nat)->(n:Int)->(o:List Int)->0<=n->n<128^(f+1)->n<=2147483647->o.length+f<=1000->YZ wl (n,o)=some (KJ f n o):=by
 intro f
 induction f with
 |zero=>
  intro n o h0 h1 h2 h3
  apply jy
  simp only[Vx,df (show¬127<n by omega),QQ2,KJ]
 |succ f ih=>
  intro n o h0 h1 h2 h3
  apply jy
  by_cases h:128<=n
  ·have hd:=Int.tdiv_eq_ediv_of_nonneg (b:=128) h0
   have:=ih (Int.tdiv n 128) (o++[QdR n]) (by omega) (by rw[Int.pow_succ]at h1;omega) (by omega) (by simp;omega)
   simp only[QdR]at this
   simp only[Vx,dt (show 127<n by omega),QQ1,dt (show(128:Int)≠0 by omega),QN (show(o.length+List.length [IntKind.wrap .u8 (wR (Int.tmod n 128+128))])*1<=140737488351232 by simp;omega),KJ,h,if_true,QdR]
   rw[w64 (n:=Int.tdiv n 128) (by omega) (by omega)]
   exact this
  ·simp only[Vx,df (show¬127<n by omega),QQ2,KJ,h,decide_false,if_false]
theorem JO (n:Int):Q0 w n=some (Qo n):=by
 apply QiC
 simp only[Qbt,Xl,QQ0,Qo]
 cases h:inR n 0 2147483647
 ·simp
 ·simp[inR]at h
  have hl:=QcR 4 n []
  simp only[QY2]at hl
  simp only[QQ3,QQ2,Qls 4 n [] h.1 (by omega) h.2 (by simp),QQ0,QQ1,QN (show((KJ 4 n []).2.length+List.length [IntKind.wrap .u8 (KJ 4 n []).1])*1<=140737488351232 by simp;omega)]
theorem VH (n:Int):Xy w n=some (Qo n):=by
 apply QiE
 simp only[Qa0,XZ,QQ0,Qo]
 cases h:inR n 0 2147483647
 ·simp
 ·simp[inR]at h
  have hl:=QcR 4 n []
  simp only[QY2]at hl
  simp only[QQ3,QQ2,QkZ 4 n [] h.1 (by omega) h.2 (by simp),QQ0,QQ1,QN (show((KJ 4 n []).2.length+List.length [IntKind.wrap .u8 (KJ 4 n []).1])*1<=140737488351232 by simp;omega)]
theorem yk (l:List (List Int)) (hl:l.length<=maxLen) (hf:l.flatten.length<=1099511627776):ZA w l=some l.flatten:=by
 apply Qit
 have e:=Q1 l.length (fun i (o:List Int)=>YX wl (l,((l.length:Nat):Int),(i:Int),o)) (fun i o=>o++(l.drop i).flatten) (fun i o=>o.length+(l.drop i).flatten.length<=1099511627776)
  (fun i hi o ho ih=>by
    apply jJ
    rw[QRa hi,QRr,QRj]at ho
    have:=ih (o++l[i]) (by rw[QRj];omega)
    simp only[zg,ilt hi,Qn hi,Qk hi,inc hi hl,QQ1,QN (show(o.length+l[i].length)*1<=140737488351232 by omega),this]
    rw[QRa hi,QRr,QRc])
  (fun o _=>by
    apply jJ
    simp[zg,Qy])
  [] (by simpa using hf)
 simp only[QQ6,QRg,QRe]at e
 simp only[QaW,e,QQ0]
theorem Qfq (s:ByteArray):(ofBytes s).length=s.size:=by
 show(s.data.toList.map _).length=s.data.size
 rw[List.length_map,Array.length_toList]
def Z1 (s:ByteArray):List Int:=Qo (s.size:Nat)++ofBytes s
theorem Qfm (s:ByteArray):(Z1 s).length<=5+s.size:=by
 have:=QJ (s.size:Nat)
 simp only[Z1,QRj,Qfq];omega
theorem Qnl (s:ByteArray) (h:s.size<=4294967296):xn w s=some (Z1 s):=by
 apply Qhj
 have:=QJ (s.size:Nat)
 have e: [Qo (s.size:Nat),ofBytes s].flatten=Z1 s:=by simp[Z1]
 simp only[vA,JO,QQ0,yk [Qo ((s.size:Nat):Int),ofBytes s] (by simp[maxLen]) (by rw[e];have:=Qfm s;omega),e]
theorem Qlz (s:ByteArray) (h:s.size<=4294967296):qY w s=some (Z1 s):=by
 apply QhD
 have:=QJ (s.size:Nat)
 simp only[vC,VH,QQ0,QN (show((Qo ((s.size:Nat):Int)).length+(ofBytes s).length)*1<=140737488351232 by rw[Qfq];omega),QQ1,Z1]
def QcK (x:Int):Int:=if Int.tmod x 2=1 then bits .xor .i64 (wR (Int.tdiv x 2)) 3988292384 else wR (Int.tdiv x 2)
def qR:Nat->Int->Int
 |0,x=>x
 |n+1,x=>qR n (QcK x)
def QjZ (s b:Int):Int:=qR 8 (bits .xor .i64 s (wR b))
theorem Qmv (s b:Int):QjZ s b=qR 8 (bits .xor .i64 s (wR b)):=by unfold QjZ;exact Eq.refl _
def crc (l:List Int):Int:=bits .xor .i64 (l.foldl QjZ 4294967295) 4294967295
theorem Qrz {i:Nat}(h:i<8):decide ((i:Int)<8)=true:=by simp;omega
theorem QnL {i n:Nat}(h:i<n) (hn:n<=1000:=by omega):wR ((i:Int)+1)=((i+1:Nat):Int):=by
 rw[w64 (by omega) (by omega)];omega
theorem QoI (b:List Int) (n i x:Int):Yx wl (x,b,n,i,0)=some (qR 8 x,b,n,i):=by
 have e:=Q1 8 (fun k (x:Int)=>Yx wl (x,b,n,i,(k:Int))) (fun k x=>(qR (8 - k) x,b,n,i)) (fun _ _=>True)
  (fun k hk x _ ih=>by
    apply Qcc
    have:=ih (QcK x) trivial
    rw[show 8 - k=(8 - (k+1))+1 by omega,qR,<-this]
    simp only[QbT,Qrz hk,QQ1,dt (show(2:Int)≠0 by omega),QnL hk,QcK]
    by_cases hx:Int.tmod x 2=1
    ·simp only[hx,decide_true,QQ1,if_true]
    ·simp only[hx,decide_false,QQ2,if_false])
  (fun x _=>by
    apply Qcc
    simp[QbT,qR])
  x trivial
 simpa using e
theorem Qnm (b:List Int) (i x:Int):Yt wl (b,x,i,0)=some (b,qR 8 x,i):=by
 have e:=Q1 8 (fun k (x:Int)=>Yt wl (b,x,i,(k:Int))) (fun k x=>(b,qR (8 - k) x,i)) (fun _ _=>True)
  (fun k hk x _ ih=>by
    apply Qcp
    have:=ih (QcK x) trivial
    rw[show 8 - k=(8 - (k+1))+1 by omega,qR,<-this]
    simp only[QbP,Qrz hk,QQ1,dt (show(2:Int)≠0 by omega),QnL hk,QcK]
    by_cases hx:Int.tmod x 2=1
    ·simp only[hx,decide_true,QQ1,if_true]
    ·simp only[hx,decide_false,QQ2,if_false])
  (fun x _=>by
    apply Qcp
    simp[QbP,qR])
  x trivial
 simpa using e
theorem Qkz (b:List Int) (h:b.length<=maxLen):xY w b=some (crc b):=by
 apply QlF
 have e:=Q1 b.length (fun i (x:Int)=>Jf wl (x,b,((b.length:Nat):Int),(i:Int))) (fun i x=>(b.drop i).foldl QjZ x) (fun _ _=>True)
  (fun i hi x _ ih=>by
    apply QcP
    simp only[Qb2,ilt hi,Qn hi,Qk hi,QQ1,QoI,QQ0,inc hi h,ih _ trivial]
    rw[QRa hi,List.foldl_cons,Qmv])
  (fun x _=>by
    apply QcP
    simp only[Qb2,Qy,QQ2,QRl,List.foldl_nil])
  4294967295 trivial
 simp only[QQ6,QRg]at e
 simp only[Qd0,e,QQ0,crc]
theorem QiJ (b:List Int) (h:b.length<=maxLen):xX w b=some (crc b):=by
 apply QlB
 have e:=Q1 b.length (fun i (x:Int)=>V5 wl (b,x,(i:Int))) (fun i x=>(b.drop i).foldl QjZ x) (fun _ _=>True)
  (fun i hi x _ ih=>by
    apply Qcj
    simp only[QbS,ilt hi,Qn hi,Qk hi,QQ1,Qnm,QQ0,inc hi h,ih _ trivial]
    rw[QRa hi,List.foldl_cons,Qmv])
  (fun x _=>by
    apply Qcj
    simp only[QbS,Qy,QQ2,QRl,List.foldl_nil])
  4294967295 trivial
 simp only[QQ6,QRg]at e
 simp only[Qd3,e,QQ0,crc]
def QfM (x:Int):Nat->List Int->Int⊕Unit
 |_,[]=> .inr ()
 |i,y::l=>if x=y then .inl (i:Nat)else QfM x (i+1) l
theorem Qkx (x:Int):(i:Nat)->(l:List Int)->∃r:Int,Qr (QfM x i l) (fun u=>some u) (fun _=>some (-1))=some r/\decide (0<=r)=decide (x∈l)
 |i,[]=>⟨-1,rfl,by simp⟩
 |i,y::l=>by
  by_cases h:x=y
  ·refine⟨(i:Nat), ?_, ?_⟩
   ·simp only[QfM,h,if_true,Qr,Sum.elim_inl]
   ·simp[h]
  ·obtain⟨r,h1,h2⟩:=Qkx x (i+1) l
   refine⟨r, ?_, ?_⟩
   ·simp only[QfM,h,if_false];exact h1
   ·rw[h2];simp[h]
theorem Qft (a:List Int) (x:Int) (h:a.length<=maxLen):Xw w (a,x)=some (decide (x∈a)):=by
 apply j7
 have e:=Q4 a.length (fun i=>Xv wl (a,x,((a.length:Nat):Int),(i:Int))) (fun i=>QfM x i (a.drop i))
  (fun i hi ih=>by
    apply KU
    simp only[YE,ilt hi,Qn hi,Qk hi,inc hi h,QQ1,ih]
    rw[QRa hi,QfM]
    by_cases hx:x=a[i]
    ·simp only[hx,decide_true,QQ1,if_true]
    ·simp only[hx,decide_false,QQ2,if_false])
  (by
    apply KU
    simp only[YE,Qy,QQ2,QRl,QfM])
 simp only[QQ6,QRg]at e
 obtain⟨r,h1,h2⟩:=Qkx x 0 a
 have hi:ZX w (a,x)=some r:=by
  apply QbR
  simp only[VU,e,QQ0,h1]
 simp only[Kp,hi,QQ0,h2]
theorem QpC (a b:List Int) (h:a.length<=maxLen):ZV w (a,b)=some (decide (a=b)):=by
 apply QbW
 by_cases hl:a.length=b.length
 ·have e:=Qmz a b hl (fun i=>Xu wl (a,b,((a.length:Nat):Int),(i:Int)))
   (fun i h1 h2 hx=>by
     apply Zw
     simp only[X2,ilt h1,Qn h1,Qn h2,Qk h1,Qk h2,QQ1,hx,decide_false,QQ4])
   (fun i h1 h2 r hx hk=>by
     apply Zw
     simp only[X2,ilt h1,Qn h1,Qn h2,Qk h1,Qk h2,inc h1 h,QQ1,hx,decide_true,QQ3,QQ2]
     exact hk)
   (by
     apply Zw
     simp only[X2,Qy,QQ2])
  simp only[QQ6]at e
  simp only[ZZ,dt (show((a.length:Nat):Int)=((b.length:Nat):Int) by omega),QQ3,QQ2,e,QQ0]
  by_cases hab:a=b
  ·simp[hab,Qr]
  ·simp[hab,Qr]
 ·have hab:a≠b:=fun h=>hl (by rw[h])
  simp only[ZZ,df (show¬((a.length:Nat):Int)=((b.length:Nat):Int) by omega),QQ4,QQ1,hab,decide_false]
def Qem (x:Int):List Int->Bool⊕Unit
 | []=> .inr ()
 |y::l=>if y=x then .inl true else Qem x l
theorem QkP (x:Int):(l:List Int)->Qr (Qem x l) (fun u=>some u) (fun _=>some false)=some (decide (x∈l))
 | []=>by simp[Qem,Qr]
 |y::l=>by
  by_cases h:y=x
  ·simp[Qem,h,Qr]
  ·have:=QkP x l
   have h':¬x=y:=fun e=>h e.symm
   simp only[Qem,h,if_false,this];simp[h']
theorem Qkm (a:List Int) (x:Int) (h:a.length<=maxLen):xL w (a,x)=some (decide (x∈a)):=by
 apply QjB
 have e:=Q4 a.length (fun i=>Kn wl (a,x,(i:Int))) (fun i=>Qem x (a.drop i))
  (fun i hi ih=>by
    apply vD
    simp only[jn,ilt hi,Qn hi,Qk hi,inc hi h,QQ1,ih]
    rw[QRa hi,Qem]
    by_cases hx:a[i]=x
    ·simp only[hx,decide_true,QQ1,if_true]
    ·simp only[hx,decide_false,QQ2,if_false])
  (by
    apply vD
    simp only[jn,Qy,QQ2,QRl,Qem])
 simp only[QQ6,QRg]at e
 simp only[Qcx,e,QQ0,QkP]
theorem Qoj (a b:List Int) (h:a.length<=maxLen):zM w (a,b)=some (decide (a=b)):=by
 apply Qif
 by_cases hl:a.length=b.length
 ·have e:=Qmz a b hl (fun i=>YW wl (a,b,(i:Int)))
   (fun i h1 h2 hx=>by
     apply V1
     simp only[VB,ilt h1,Qn h1,Qn h2,Qk h1,Qk h2,QQ1,hx,decide_false,QQ4])
   (fun i h1 h2 r hx hk=>by
     apply V1
     simp only[VB,ilt h1,Qn h1,Qn h2,Qk h1,Qk h2,inc h1 h,QQ1,hx,decide_true,QQ3,QQ2]
     exact hk)
   (by
     apply V1
     simp only[VB,Qy,QQ2])
  simp only[QQ6]at e
  simp only[xb,dt (show((a.length:Nat):Int)=((b.length:Nat):Int) by omega),QQ3,QQ2,e,QQ0]
  by_cases hab:a=b
  ·simp[hab,Qr]
  ·simp[hab,Qr]
 ·have hab:a≠b:=fun h=>hl (by rw[h])
  simp only[xb,df (show¬((a.length:Nat):Int)=((b.length:Nat):Int) by omega),QQ4,QQ1,hab,decide_false]
def YI (n:Int):Int:=bif inR n 0 4 then Int.tmod (crc (Qo n)) 4 else -1
theorem QdC (n:Int):(Qo n).length<=maxLen:=by have:=QJ n;simp only[maxLen];omega
theorem Qje (n:Int):Je w n=some (YI n):=by
 apply Qiq
 simp only[QaR,Qeo,QQ0,YI,JO,Qkz _ (QdC n),dt (show(4:Int)≠0 by omega),QQ1]
 cases inR n 0 4<;>simp
theorem Qgg (n:Int):V8 w n=some (YI n):=by
 apply Qir
 simp only[QbB,Qen,QQ0,YI,VH,QiJ _ (QdC n),dt (show(4:Int)≠0 by omega),QQ1]
 cases inR n 0 4<;>simp
def QU (l:List Int) (n:Int):Bool:=decide (YI n∈l)
def XX (s:Qi) (l:List Int):Qi:=(s.1.filter fun x=>QU l x.1,s.2.filter fun x=>QU l x.1)
theorem Qep:(p:Int)->(l:List Qd)->QT p l=true-> -1<=p->(l.length:Int)<=4 - p\/l=[]
 |p,[],_,_=> .inr rfl
 |p,x::l,h,hp=>by
  simp only[QT,QQ5,inR,QRu]at h
  obtain⟨⟨⟨h1,h2⟩,h3⟩,h4⟩:=h
  left
  rcases Qep x.1 l h4 (by omega)with h5|h5
  ·simp only[QY0];omega
  ·subst h5;simp;omega
theorem Qfk (fl:List Qd):(p:Int)->(l:List Qj)->Q6 fl p l=true-> -1<=p->(l.length:Int)<=4 - p\/l=[]
 |p,[],_,_=> .inr rfl
 |p,x::l,h,hp=>by
  simp only[Q6,QQ5,inR,QRu]at h
  obtain⟨⟨⟨⟨h1,h2⟩,h2'⟩,h3⟩,h4⟩:=h
  left
  rcases Qfk fl x.1 l h4 (by omega)with h5|h5
  ·simp only[QY0];omega
  ·subst h5;simp;omega
theorem QaC {s:Qi}(h:QX s=true):s.1.length<=5/\s.2.length<=5:=by
 simp only[QX,QQ5]at h
 have h1:=Qep _ _ h.1 (by omega)
 have h2:=Qfk _ _ _ h.2 (by omega)
 constructor
 ·rcases h2 with h|h
  ·omega
  ·simp[h]
 ·rcases h1 with h|h
  ·omega
  ·simp[h]
theorem QlI (q:List Int) (a:List Qj) (b:List Qd) (hq:q.length<=maxLen) (ha:a.length<=4294967296) (c:List Qd):
 Zp wl (q,a,((a.length:Nat):Int),0,a,b,[],c)=some (q,a,b,a.filter (fun x=>QU q x.1),c):=by
 have e:=Q1 a.length (fun i (o:List Qj)=>Zp wl (q,a,((a.length:Nat):Int),(i:Int),a,b,o,c)) (fun i o=>(q,a,b,o++(a.drop i).filter (fun x=>QU q x.1),c)) (fun i o=>o.length<=i)
  (fun i hi o ho ih=>by
    apply vI
    have ih1:=ih o (by omega)
    have ih2:=ih (o++[a[i]]) (by simp;omega)
    simp only[jf,ilt hi,Qn hi,Qk hi,inc hi (show a.length<=maxLen by simp[maxLen];omega),QQ1,Qje,Qft q _ hq,QQ0,QY30,QN (show(o.length+1)*56<=140737488351232 by omega)]
    rw[QRa hi,QY29]
    cases h:QU q a[i].1
    ·have h':decide (YI a[i].1∈q)=false:=h
     simp only[h',QQ2,QRw,if_false];exact ih1
    ·have h':decide (YI a[i].1∈q)=true:=h
     simp only[h',QQ1,if_true]
     rw[show o++a[i]::List.filter (fun x=>QU q x.1) (List.drop (i+1) a)=(o++[a[i]])++List.filter (fun x=>QU q x.1) (List.drop (i+1) a) by simp]
     exact ih2)
  (fun o _=>by
    apply vI
    simp[jf])
  [] (by simp)
 simpa using e
theorem Qlw (q:List Int) (b:List Qd) (hq:q.length<=maxLen) (hb:b.length<=4294967296) (c:List Qj):
 Zo wl (q,b,((b.length:Nat):Int),0,c,[])=some (c,b.filter (fun x=>QU q x.1)):=by
 have e:=Q1 b.length (fun i (o:List Qd)=>Zo wl (q,b,((b.length:Nat):Int),(i:Int),c,o)) (fun i o=>(c,o++(b.drop i).filter (fun x=>QU q x.1))) (fun i o=>o.length<=i)
  (fun i hi o ho ih=>by
    apply Qaa
    have ih1:=ih o (by omega)
    have ih2:=ih (o++[b[i]]) (by simp;omega)
    simp only[ja,ilt hi,Qn hi,Qk hi,inc hi (show b.length<=maxLen by simp[maxLen];omega),QQ1,Qje,Qft q _ hq,QQ0,QY30,QN (show(o.length+1)*16<=140737488351232 by omega)]
    rw[QRa hi,QY29]
    cases h:QU q b[i].1
    ·have h':decide (YI b[i].1∈q)=false:=h
     simp only[h',QQ2,QRw,if_false];exact ih1
    ·have h':decide (YI b[i].1∈q)=true:=h
     simp only[h',QQ1,if_true]
     rw[show o++b[i]::List.filter (fun x=>QU q x.1) (List.drop (i+1) b)=(o++[b[i]])++List.filter (fun x=>QU q x.1) (List.drop (i+1) b) by simp]
     exact ih2)
  (fun o _=>by
    apply Qaa
    simp[ja])
  [] (by simp)
 simpa using e
theorem QoW (a:List Qj) (b:List Qd) (q:List Int) (hq:q.length<=maxLen) (ha:a.length<=maxLen) (hb:b.length<=maxLen):
 j6 w (a,b,q)=some (bif QX (a,b)then XX (a,b) q else([],[])):=by
 apply Qjy
 simp only[Qcr,Vz a b ha hb,QQ0]
 cases h:QX (a,b)
 ·simp
 ·have hl:=QaC h
  simp only at hl
  simp only[QQ3,QQ2,QQ1,QlI q a b hq (by omega),Qlw q b hq (by omega),QQ0,XX]
theorem Qke (q:List Int) (a:List Qj) (b:List Qd) (hq:q.length<=maxLen) (ha:a.length<=4294967296) (c:List Qd):
 XQ wl (q,0,a,b,[],c)=some (q,a,b,a.filter (fun x=>QU q x.1),c):=by
 have e:=Q1 a.length (fun i (o:List Qj)=>XQ wl (q,(i:Int),a,b,o,c)) (fun i o=>(q,a,b,o++(a.drop i).filter (fun x=>QU q x.1),c)) (fun i o=>o.length<=i)
  (fun i hi o ho ih=>by
    apply yi
    have ih1:=ih o (by omega)
    have ih2:=ih (o++[a[i]]) (by simp;omega)
    simp only[qD,ilt hi,Qn hi,Qk hi,inc hi (show a.length<=maxLen by simp[maxLen];omega),QQ1,Qgg,Qkm q _ hq,QQ0,QY30,QN (show(o.length+1)*56<=140737488351232 by omega)]
    rw[QRa hi,QY29]
    cases h:QU q a[i].1
    ·have h':decide (YI a[i].1∈q)=false:=h
     simp only[h',QQ2,QRw,if_false];exact ih1
    ·have h':decide (YI a[i].1∈q)=true:=h
     simp only[h',QQ1,if_true]
     rw[show o++a[i]::List.filter (fun x=>QU q x.1) (List.drop (i+1) a)=(o++[a[i]])++List.filter (fun x=>QU q x.1) (List.drop (i+1) a) by simp]
     exact ih2)
  (fun o _=>by
    apply yi
    simp[qD])
  [] (by simp)
 simpa using e
theorem QkC (q:List Int) (a:List Qj) (b:List Qd) (hq:q.length<=maxLen) (hb:b.length<=4294967296) (c:List Qj):
 XN wl (q,0,a,b,c,[])=some (c,b.filter (fun x=>QU q x.1)):=by
 have e:=Q1 b.length (fun i (o:List Qd)=>XN wl (q,(i:Int),a,b,c,o)) (fun i o=>(c,o++(b.drop i).filter (fun x=>QU q x.1))) (fun i o=>o.length<=i)
  (fun i hi o ho ih=>by
    apply yJ
    have ih1:=ih o (by omega)
    have ih2:=ih (o++[b[i]]) (by simp;omega)
    simp only[qN,ilt hi,Qn hi,Qk hi,inc hi (show b.length<=maxLen by simp[maxLen];omega),QQ1,Qgg,Qkm q _ hq,QQ0,QY30,QN (show(o.length+1)*16<=140737488351232 by omega)]
    rw[QRa hi,QY29]
    cases h:QU q b[i].1
    ·have h':decide (YI b[i].1∈q)=false:=h
     simp only[h',QQ2,QRw,if_false];exact ih1
    ·have h':decide (YI b[i].1∈q)=true:=h
     simp only[h',QQ1,if_true]
     rw[show o++b[i]::List.filter (fun x=>QU q x.1) (List.drop (i+1) b)=(o++[b[i]])++List.filter (fun x=>QU q x.1) (List.drop (i+1) b) by simp]
     exact ih2)
  (fun o _=>by
    apply yJ
    simp[qN])
  [] (by simp)
 simpa using e
theorem QoN (a:List Qj) (b:List Qd) (q:List Int) (hq:q.length<=maxLen) (ha:a.length<=4294967296) (hb:b.length<=4294967296):
 qp w (a,b,q)=some (XX (a,b) q):=by
 apply QgI
 simp only[vr,Qke q a b hq ha,QkC q a b hq hb,QQ0,XX]
theorem QgS:(p p':Int)->(l:List Qd)->p'<=p->QT p l=true->QT p' l=true
 |p,p',[],_,_=>rfl
 |p,p',x::l,hp,h=>by
  simp only[QT,QQ5,QRu]at h⊢
  exact⟨⟨h.1.1,by omega⟩,h.2⟩
theorem Qh3 (fl:List Qd):(p p':Int)->(l:List Qj)->p'<=p->Q6 fl p l=true->Q6 fl p' l=true
 |p,p',[],_,_=>rfl
 |p,p',x::l,hp,h=>by
  simp only[Q6,QQ5,QRu]at h⊢
  exact⟨⟨h.1.1,by omega⟩,h.2⟩
theorem QbD (f:Int->Bool):(p:Int)->(l:List Qd)->QT p l=true->QT p (l.filter fun x=>f x.1)=true
 |p,[],_=>rfl
 |p,x::l,h=>by
  have h':=h
  simp only[QT,QQ5,QRu]at h
  have ih:=QbD f x.1 l h.2
  rw[QY29]
  cases hf:f x.1
  ·simp only[QRw,if_false];exact QgS _ _ _ (by omega) ih
  ·simp only[if_true,QT,QQ5,QRu]
   exact⟨⟨h.1.1,h.1.2⟩,ih⟩
theorem QcC (f:Int->Bool) (id:Int) (hf:f id=true):(l:List Qd)->Xn id (l.filter fun x=>f x.1)=Xn id l
 | []=>rfl
 |x::l=>by
  have ih:=QcC f id hf l
  rw[QY29]
  by_cases hx:x.1=id
  ·rw[hx,hf];simp[Xn,hx]
  ·cases f x.1
   ·simp only[QRw,if_false,Xn,hx];exact ih
   ·simp only[if_true,Xn,hx,if_false];exact ih
theorem Qcf (f:Int->Bool) (fl:List Qd):(p:Int)->(l:List Qj)->Q6 fl p l=true->Q6 (fl.filter fun x=>f x.1) p (l.filter fun x=>f x.1)=true
 |p,[],_=>rfl
 |p,x::l,h=>by
  simp only[Q6,QQ5,QRu]at h
  have ih:=Qcf f fl x.1 l h.2
  rw[QY29]
  cases hf:f x.1
  ·simp only[QRw,if_false];exact Qh3 _ _ _ _ (by omega) ih
  ·simp only[if_true,Q6,QQ5,QRu,QcC f x.1 hf]
   exact⟨⟨h.1.1,h.1.2⟩,ih⟩
theorem Qgd {s:Qi}(q:List Int) (h:QX s=true):QX (XX s q)=true:=by
 simp only[QX,QQ5]at h⊢
 exact⟨QbD (QU q) _ _ h.1,Qcf (QU q) _ _ _ h.2⟩
end Go.Proofs.YtameehmkoglkeaaGreatDoor.M
