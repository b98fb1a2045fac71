/- What the plain forms that FnExactOnlyNews reaches come to: PState. No conditions but those that each theorem states. -/
import Derived.Test.YtiejfnbmficbmaaGreatFnExactOnlyNewsRaw0
import Derived.Test.YtiejfnbmficbmaaGreatFnExactOnlyNewsRaw1
import Derived.Test.YtiejfnbmficbmaaGreatFnExactOnlyNewsRaw2
import Derived.Test.YtiejfnbmficbmaaGreatFnExactOnlyNewsRaw3
import Derived.Test.YtiejfnbmficbmaaGreatFnExactOnlyNewsRaw4
import Derived.Lib.Bytealg
set_option linter.all false
namespace Go.Proofs.YtiejfnbmficbmaaGreat.M
open Go Go.Eng Go.Proofs
set_option linter.unusedVariables false
def inR (n lo hi:Int):Bool:=decide (lo<=n)&&decide (n<=hi)
theorem Q8 (n lo hi:Int):Qr w (n,lo,hi)=some (inR n lo hi):=by
 apply Qow
 simp only[Qfo,inR]
 cases decide (lo<=n)<;>rfl
theorem XD (n lo hi:Int):QA w (n,lo,hi)=some (inR n lo hi):=by
 apply Qrt
 simp only[Qit,inR]
 cases decide (lo<=n)<;>rfl
theorem Qbt (n:Int):ZK w n=some (inR n 0 4):=by
 apply Qok
 simp only[QfI,Q8,QQ0]
theorem Qa3 (n:Int):ZL w n=some (inR n 0 4):=by
 apply QoP
 simp only[Qfg,XD,QQ0]
def XP (e:X6):Bool:=inR e.1 1 1000&&inR e.2.1 0 1&&inR e.2.2.1 0 100000&&inR e.2.2.2.1 0 1000&&decide (((ByteArray.size e.2.2.2.2:Nat):Int)<=8)
theorem Qu0 (a b c d:Int) (s:ByteArray):J9 w (a,b,c,d,s)=some (XP (a,b,c,d,s)):=by
 apply Qnn
 simp only[Qeb,Q8,QQ0,XP]
 cases inR a 1 1000<;>cases inR b 0 1<;>cases inR c 0 100000<;>cases inR d 0 1000<;>simp
theorem QsZ (a b c d:Int) (s:ByteArray):Vz w (a,b,c,d,s)=some (XP (a,b,c,d,s)):=by
 apply QmF
 simp only[QdP,XD,QQ0,XP]
 cases inR a 1 1000<;>cases inR b 0 1<;>cases inR c 0 100000<;>cases inR d 0 1000<;>simp
theorem Qv5 (e:X6):J9 w e=some (XP e):=Qu0 ..
theorem Qvf (e:X6):Vz w e=some (XP e):=QsZ ..
def XE (id:Int):List Qf->Int×Int×Int×Int×ByteArray×Bool
 | []=>(0,0,0,0,ByteArray.empty,false)
 |x::l=>if x.1=id then(x.2.1,x.2.2.1,x.2.2.2.1,x.2.2.2.2.1,x.2.2.2.2.2,true)else XE id l
def QX (id:Int):List Qb->Int
 | []=>0
 |x::l=>if x.1=id then x.2 else QX id l
def Qgq (id:Int):List Qb->Int⊕Unit
 | []=> .inr ()
 |x::l=>if x.1=id then .inl x.2 else Qgq id l
theorem Qdt (id:Int):(l:List Qb)->Qp (Qgq id l) (fun u3=>some u3) (fun z4=>some 0)=some (QX id l)
 | []=>rfl
 |x::l=>by
  have ih:=Qdt id l
  by_cases h:x.1=id
  ·simp only[Qgq,QX,h,if_true,Qp,Sum.elim_inl]
  ·simp only[Qgq,QX,h,if_false];exact ih
theorem QtW (a:List Qf) (b:List Qb) (id:Int) (h:b.length<=maxLen):yL w (a,b,id)=some (QX id b):=by
 apply Qnj
 have e:=QW b.length (fun i=>Kq wl (id,b,((b.length:Nat):Int),(i:Int))) (fun i=>Qgq id (b.drop i))
  (fun i hi ih=>by
    apply Qbk
    simp only[j7,ilt hi,Qo hi,Qj hi,inc hi h,QQ1,ih]
    rw[QRa hi,Qgq]
    by_cases hx:b[i].1=id
    ·simp only[hx,decide_true,QQ1,if_true]
    ·simp only[hx,decide_false,QQ2,if_false])
  (by
    apply Qbk
    simp only[j7,Qw,QQ2,QRl,Qgq])
 simp only[QQ6,QRg]at e
 simp only[QdX,e,QQ0,Qdt]
theorem Qst (a:List Qf) (b:List Qb) (id:Int) (h:b.length<=maxLen):qe w (a,b,id)=some (QX id b):=by
 apply Qme
 have e:=QW b.length (fun i=>Kl wl (id,(i:Int),a,b)) (fun i=>Qgq id (b.drop i))
  (fun i hi ih=>by
    apply QaW
    simp only[zG,ilt hi,Qo hi,Qj hi,inc hi h,QQ1,ih]
    rw[QRa hi,Qgq]
    by_cases hx:b[i].1=id
    ·simp only[hx,decide_true,QQ1,if_true]
    ·simp only[hx,decide_false,QQ2,if_false])
  (by
    apply QaW
    simp only[zG,Qw,QQ2,QRl,Qgq])
 simp only[QQ6,QRg]at e
 simp only[QeI,e,QQ0,Qdt]
def QH:Int->List Qb->Bool
 |_,[]=>true
 |p,x::l=>inR x.1 0 4&&inR x.2 1 1000&&decide (p<x.1)&&QH x.1 l
def Xa (fl:List Qb):Int->List Qf->Bool
 |_,[]=>true
 |p,x::l=>inR x.1 0 4&&XP x.2&&decide (QX x.1 fl<x.2.1)&&decide (p<x.1)&&Xa fl x.1 l
def QF (s:Qk):Bool:=QH (-1) s.2&&Xa s.2 (-1) s.1
def Vd (b:List Qb) (i:Nat):Int:=if i=0 then -1 else(b.getD (i - 1) (0,0)).1
def Qab (b:List Qf) (i:Nat):Int:=if i=0 then -1 else(b.getD (i - 1) VY).1
theorem QcY (b:List Qb) {i:Nat}(h:i<b.length):Vd b (i+1)=b[i].1:=by simp[Vd,List.getD,h]
theorem Qlr (b:List Qf) {i:Nat}(h:i<b.length):Qab b (i+1)=b[i].1:=by simp[Qab,List.getD,h]
theorem QfK (b:List Qb) {i:Nat}(h0:0<i) (h:i - 1<b.length):Vd b i=b[i - 1].1:=by
 simp[Vd,List.getD,h,show¬i=0 by omega]
theorem Qpc (b:List Qf) {i:Nat}(h0:0<i) (h:i - 1<b.length):Qab b i=b[i - 1].1:=by
 simp[Qab,List.getD,h,show¬i=0 by omega]
theorem vX {n:Int}(h:inR n 0 4=true): -1<n:=by
 simp[inR]at h;omega
theorem Jp (a b:Int):decide (a<=b)= !decide (b<a):=by
 by_cases h:a<=b
 ·rw[dt h,df (by omega)];rfl
 ·rw[df h,dt (by omega)];rfl
theorem Ym (a:List Qf) (b:List Qb) (ha:a.length<=maxLen) (hb:b.length<=maxLen):XK w (a,b)=some (QF (a,b)):=by
 apply Qm4
 have e0:=QW b.length (fun i=>ZQ wl (b,((b.length:Nat):Int),(i:Int),a,b)) (fun i=>if QH (Vd b i) (b.drop i)then .inr (a,b)else .inl false)
  (fun i hi ih=>by
    apply QbK
    simp only[jt,ilt hi,Qo hi,Qj hi,inc hi hb,QQ1,ih,Qbt,Q8,QQ0]
    rw[QRa hi,QH,QcY b hi]
    rcases Nat.eq_zero_or_pos i with h0|h0
    ·subst h0
     cases h1:inR b[0].1 0 4
     ·simp
     ·have:=vX h1
      simp only[QhP,QQ2,QQ3,Vd,if_true,dt this,QRd,QRn]
      cases inR b[0].2 1 1000<;>simp
    ·have hi':i - 1<b.length:=by omega
     simp only[ipos h0,QQ1,Qjk h0 (by omega),Qo hi',Qj hi',QfK b h0 hi',Jp]
     cases inR b[i].1 0 4<;>cases inR b[i].2 1 1000<;>cases decide (b[i - 1].1<b[i].1)<;>simp)
  (by
    apply QbK
    simp only[jt,Qw,QQ2,QRl,QH,if_true])
 have e2:=QW a.length (fun i=>Yd wl (a,((a.length:Nat):Int),(i:Int),a,b)) (fun i=>if Xa b (Qab a i) (a.drop i)then .inr ()else .inl false)
  (fun i hi ih=>by
    apply Qbj
    simp only[vm,ilt hi,Qo hi,Qj hi,inc hi ha,QQ1,ih,Qbt,Qv5,QtW _ _ _ hb,QQ0]
    rw[QRa hi,Xa,Qlr a hi]
    rcases Nat.eq_zero_or_pos i with h0|h0
    ·subst h0
     cases h1:inR a[0].1 0 4
     ·simp
     ·have:=vX h1
      simp only[QhP,QQ2,QQ3,Qab,if_true,dt this,QRd,QRn,Jp]
      cases XP a[0].2<;>cases decide (QX a[0].1 b<a[0].2.1)<;>simp
    ·have hi':i - 1<a.length:=by omega
     simp only[ipos h0,QQ1,Qjk h0 (by omega),Qo hi',Qj hi',Qpc a h0 hi',Jp]
     cases inR a[i].1 0 4<;>cases XP a[i].2<;>cases decide (QX a[i].1 b<a[i].2.1)<;>cases decide (a[i - 1].1<a[i].1)<;>simp)
  (by
    apply Qbj
    simp only[vm,Qw,QQ2,QRl,Xa,if_true])
 simp only[QQ6,QRg,Vd,Qab,if_true]at e0 e2
 simp only[Qem,e0,QQ0,QF]
 cases QH (-1) b
 ·simp[Qp]
 ·simp only[if_true,Qp,QY3,e2,QQ0,QRd]
  cases Xa b (-1) a<;>simp
theorem KV (a:List Qf) (b:List Qb) (ha:a.length<=maxLen) (hb:b.length<=maxLen):X8 w (a,b)=some (QF (a,b)):=by
 apply Qmm
 have e2:=QW b.length (fun i=>Ye wl ((i:Int),a,b)) (fun i=>if QH (Vd b i) (b.drop i)then .inr ()else .inl false)
  (fun i hi ih=>by
    apply Qbn
    simp only[yl,ilt hi,Qo hi,Qj hi,inc hi hb,QQ1,ih,Qa3,XD,QQ0]
    rw[QRa hi,QH,QcY b hi]
    rcases Nat.eq_zero_or_pos i with h0|h0
    ·subst h0
     cases h1:inR b[0].1 0 4
     ·simp
     ·have:=vX h1
      simp only[QhP,QQ2,QQ3,Vd,if_true,dt this,QRd,QRn]
      cases inR b[0].2 1 1000<;>simp
    ·have hi':i - 1<b.length:=by omega
     simp only[ipos h0,QQ1,Qjk h0 (by omega),Qo hi',Qj hi',QfK b h0 hi',Jp]
     cases inR b[i].1 0 4<;>cases inR b[i].2 1 1000<;>cases decide (b[i - 1].1<b[i].1)<;>simp)
  (by
    apply Qbn
    simp only[yl,Qw,QQ2,QRl,QH,if_true])
 have e0:=QW a.length (fun i=>Z3 wl ((i:Int),a,b)) (fun i=>if Xa b (Qab a i) (a.drop i)then .inr (a,b)else .inl false)
  (fun i hi ih=>by
    apply Qa1
    simp only[yH,ilt hi,Qo hi,Qj hi,inc hi ha,QQ1,ih,Qa3,Qvf,Qst _ _ _ hb,QQ0]
    rw[QRa hi,Xa,Qlr a hi]
    rcases Nat.eq_zero_or_pos i with h0|h0
    ·subst h0
     cases h1:inR a[0].1 0 4
     ·simp
     ·have:=vX h1
      simp only[QhP,QQ2,QQ3,Qab,if_true,dt this,QRd,QRn,Jp]
      cases XP a[0].2<;>cases decide (QX a[0].1 b<a[0].2.1)<;>simp
    ·have hi':i - 1<a.length:=by omega
     simp only[ipos h0,QQ1,Qjk h0 (by omega),Qo hi',Qj hi',Qpc a h0 hi',Jp]
     cases inR a[i].1 0 4<;>cases XP a[i].2<;>cases decide (QX a[i].1 b<a[i].2.1)<;>cases decide (a[i - 1].1<a[i].1)<;>simp)
  (by
    apply Qa1
    simp only[yH,Qw,QQ2,QRl,Xa,if_true])
 simp only[QQ6,QRg,Vd,Qab,if_true]at e0 e2
 simp only[QeM,e0,QQ0,QF]
 cases Xa b (-1) a
 ·simp[Qp]
 ·simp only[if_true,Qp,QY3,e2,QQ0,QRn]
  cases QH (-1) b<;>simp
def KZ (x:X6):Nat:=ByteArray.size x.2.2.2.2
def Qh7 (x:X6):Prop:=ByteArray.size x.2.2.2.2<=maxLen
theorem Qv3 {x:X6}(h:K9 QlW x):Qh7 x:=h.2.2.2.2.1
theorem Qxz (a0 a1 a2 a3:Int) (a4:ByteArray) (l:Int) (h0:0<=l) (hB:l<=1048576) (hf:Qh7 (a0,a1,a2,a3,a4)):yj w (a0,a1,a2,a3,a4,l)=some (szI (KZ (a0,a1,a2,a3,a4)) l):=by
 apply Qlx
 simp only[Qh7]at hf
 have e:KZ (a0,a1,a2,a3,a4)=(ByteArray.size a4+0):=by simp only[KZ];omega
 rw[e]
 simp only[QeZ]
 refine Jc (by omega) (by omega) (hf) fun _=> ?_
 rw[w64 (by omega) (by omega)]
 exact ZR (by omega)
def XC (x:Qf):Nat:=KZ (x.2.1,x.2.2.1,x.2.2.2.1,x.2.2.2.2.1,x.2.2.2.2.2)
def QjE (x:Qf):Prop:=Qh7 (x.2.1,x.2.2.1,x.2.2.2.1,x.2.2.2.2.1,x.2.2.2.2.2)
theorem QyG {x:Qf}(h:K9 QR x):QjE x:=Qv3 ⟨h.2.1,h.2.2.1,h.2.2.2.1,h.2.2.2.2.1,h.2.2.2.2.2.1,trivial⟩
theorem Qtt (a0 a1 a2 a3 a4:Int) (a5:ByteArray) (l:Int) (h0:0<=l) (hB:l<=1048576) (hf:QjE (a0,a1,a2,a3,a4,a5)):Qan w (a0,a1,a2,a3,a4,a5,l)=some (szI (XC (a0,a1,a2,a3,a4,a5)) l):=by
 apply Qon
 simp only[QjE]at hf
 have e:XC (a0,a1,a2,a3,a4,a5)=(KZ (a1,a2,a3,a4,a5)+0):=by simp only[XC];omega
 rw[e]
 simp only[Qf1]
 refine X4 (by omega) (Qxz a1 a2 a3 a4 a5 _ (by omega) (by omega) (hf)) fun _=> ?_
 exact ZR (by omega)
def VU (a:List Qf):Nat:=a.length+Zc XC a
def Qh3 (a:List Qf):Prop:=a.length<=maxLen/\∀x∈a,QjE x
theorem Qxm (a:List Qf) (l:Int) (h0:0<=l) (hB:l<=1048576) (hf:Qh3 a):yw w (a,l)=some (szI (VU a) l):=by
 apply QmH
 simp only[QeH,VU]
 refine Jc h0 hB hf.1 fun h=> ?_
 have e:=Qc7 XC a (fun l i=>KQ wl (a,l,(i:Int))) 1048576
  (fun l i h1 r h0 hB h2 hk=>by
    apply qw
    have hs:=Qtt a[i].1 a[i].2.1 a[i].2.2.1 a[i].2.2.2.1 a[i].2.2.2.2.1 a[i].2.2.2.2.2 l (by omega) (by omega) (hf.2 _ (QRf h1))
    have hs2:szI (XC a[i]) l=l - XC a[i]:=Yz h2
    simp only[JG,ilt h1,Qo h1,Qj h1,inc h1 (show a.length<=maxLen from hf.1),QQ1,hs,QQ0]
    simp only[show szI (XC (a[i].1,a[i].2.1,a[i].2.2.1,a[i].2.2.2.1,a[i].2.2.2.2.1,a[i].2.2.2.2.2)) l=l - XC a[i]from hs2,df (show¬l - (XC a[i]:Int)<0 by omega),QQ2]
    exact hk)
  (fun l i h1 h0 hB h2=>by
    apply qw
    have hs:=Qtt a[i].1 a[i].2.1 a[i].2.2.1 a[i].2.2.2.1 a[i].2.2.2.2.1 a[i].2.2.2.2.2 l (by omega) (by omega) (hf.2 _ (QRf h1))
    have hs2:szI (XC a[i]) l= -1:=Z8 h2
    simp only[JG,ilt h1,Qo h1,Qj h1,QQ1,hs,QQ0]
    simp only[show szI (XC (a[i].1,a[i].2.1,a[i].2.2.1,a[i].2.2.2.1,a[i].2.2.2.2.1,a[i].2.2.2.2.2)) l= -1 from hs2,dt (show(-1:Int)<0 by omega),QQ1])
  (fun l=>by
    apply qw
    simp only[JG,Qw,QQ2])
  (l - a.length) (by omega) (by omega)
 have hl:=hf.1
 simp only[maxLen]at hl
 rw[w64 (by omega) (by omega)]
 simp only[QQ6]at e
 rw[e,QQ0,vZ]
def VO (a:List Qb):Nat:=a.length
def Qf7 (a:List Qb):Prop:=a.length<=maxLen
theorem Qwt (a:List Qb) (l:Int) (h0:0<=l) (hB:l<=1048576) (hf:Qf7 a):xy w (a,l)=some (szI (VO a) l):=by
 apply QkV
 simp only[Qcr]
 exact Jc (m:=0) h0 hB hf fun h=>by rw[w64 (by omega) (by omega)];exact ZR (by omega)
def Q5 (x:Qk):Nat:=VU x.1+VO x.2
def J3 (x:Qk):Prop:=Qh3 x.1/\Qf7 x.2
theorem Qi4 {x:Qk}(h:K9 Zi x):J3 x:=⟨⟨h.1.1,fun y hy=>QyG (h.1.2 y hy)⟩,h.2.1.1⟩
theorem Qij (a0:List Qf) (a1:List Qb) (l:Int) (h0:0<=l) (hB:l<=1048576) (hf:J3 (a0,a1)):Vq w (a0,a1,l)=some (szI (Q5 (a0,a1)) l):=by
 apply Qnf
 simp only[J3]at hf
 have e:Q5 (a0,a1)=(VU a0+(VO a1+0)):=by simp only[Q5];omega
 rw[e]
 simp only[Qdi]
 refine X4 (by omega) (Qxm a0 _ (by omega) (by omega) (hf.1)) fun _=> ?_
 refine X4 (by omega) (Qwt a1 _ (by omega) (by omega) (hf.2)) fun _=> ?_
 exact ZR (by omega)
def Xe (a:List Int):Nat:=a.length
def Qc5 (a:List Int):Prop:=a.length<=maxLen
theorem Qhi (a:List Int) (l:Int) (h0:0<=l) (hB:l<=1048576) (hf:Qc5 a):K7 w (a,l)=some (szI (Xe a) l):=by
 apply QoD
 simp only[QfZ]
 exact Jc (m:=0) h0 hB hf fun h=>by rw[w64 (by omega) (by omega)];exact ZR (by omega)
def Jt (x:ZB):Nat:=Xe x.1
def QgK (x:ZB):Prop:=Qc5 x.1
theorem Qw9 {x:ZB}(h:K9 Qqf x):QgK x:=h.1.1
theorem Qzw (a0:List Int) (a1 l:Int) (h0:0<=l) (hB:l<=1048576) (hf:QgK (a0,a1)):QaC w (a0,a1,l)=some (szI (Jt (a0,a1)) l):=by
 apply QnO
 simp only[QgK]at hf
 have e:Jt (a0,a1)=(Xe a0+0):=by simp only[Jt];omega
 rw[e]
 simp only[Qfj]
 refine X4 (by omega) (Qhi a0 _ (by omega) (by omega) (hf)) fun _=> ?_
 exact ZR (by omega)
def KC (a:List Qk):Nat:=a.length+Zc Q5 a
def Qjz (a:List Qk):Prop:=a.length<=maxLen/\∀x∈a,J3 x
theorem QvG (a:List Qk) (l:Int) (h0:0<=l) (hB:l<=1048576) (hf:Qjz a):xK w (a,l)=some (szI (KC a) l):=by
 apply Qk6
 simp only[Qb7,KC]
 refine Jc h0 hB hf.1 fun h=> ?_
 have e:=Qc7 Q5 a (fun l i=>YP wl (a,l,(i:Int))) 1048576
  (fun l i h1 r h0 hB h2 hk=>by
    apply JD
    have hs:=Qij a[i].1 a[i].2 l (by omega) (by omega) (hf.2 _ (QRf h1))
    have hs2:szI (Q5 a[i]) l=l - Q5 a[i]:=Yz h2
    simp only[VS,ilt h1,Qo h1,Qj h1,inc h1 (show a.length<=maxLen from hf.1),QQ1,hs,QQ0]
    simp only[show szI (Q5 (a[i].1,a[i].2)) l=l - Q5 a[i]from hs2,df (show¬l - (Q5 a[i]:Int)<0 by omega),QQ2]
    exact hk)
  (fun l i h1 h0 hB h2=>by
    apply JD
    have hs:=Qij a[i].1 a[i].2 l (by omega) (by omega) (hf.2 _ (QRf h1))
    have hs2:szI (Q5 a[i]) l= -1:=Z8 h2
    simp only[VS,ilt h1,Qo h1,Qj h1,QQ1,hs,QQ0]
    simp only[show szI (Q5 (a[i].1,a[i].2)) l= -1 from hs2,dt (show(-1:Int)<0 by omega),QQ1])
  (fun l=>by
    apply JD
    simp only[VS,Qw,QQ2])
  (l - a.length) (by omega) (by omega)
 have hl:=hf.1
 simp only[maxLen]at hl
 rw[w64 (by omega) (by omega)]
 simp only[QQ6]at e
 rw[e,QQ0,vZ]
def qZ (x:JC):Nat:=KC x.2.2
def Qjr (x:JC):Prop:=Qjz x.2.2
theorem Qz7 {x:JC}(h:K9 Qr6 x):Qjr x:=⟨h.2.2.1.1,fun y hy=>Qi4 (h.2.2.1.2 y hy)⟩
theorem Qz9 (a0 a1:Int) (a2:List Qk) (l:Int) (h0:0<=l) (hB:l<=1048576) (hf:Qjr (a0,a1,a2)):QcH w (a0,a1,a2,l)=some (szI (qZ (a0,a1,a2)) l):=by
 apply QpI
 simp only[Qjr]at hf
 have e:qZ (a0,a1,a2)=(KC a2+0):=by simp only[qZ];omega
 rw[e]
 simp only[Qhc]
 refine X4 (by omega) (QvG a2 _ (by omega) (by omega) (hf)) fun _=> ?_
 exact ZR (by omega)
def V6 (a:List (List Int)):Nat:=a.length+Zc Xe a
def QkE (a:List (List Int)):Prop:=a.length<=maxLen/\∀x∈a,Qc5 x
theorem Qyk (a:List (List Int)) (l:Int) (h0:0<=l) (hB:l<=1048576) (hf:QkE a):jE w (a,l)=some (szI (V6 a) l):=by
 apply Qm0
 simp only[Qdm,V6]
 refine Jc h0 hB hf.1 fun h=> ?_
 have e:=Qc7 Xe a (fun l i=>KN wl (a,l,(i:Int))) 1048576
  (fun l i h1 r h0 hB h2 hk=>by
    apply J7
    have hs:=Qhi a[i] l (by omega) (by omega) (hf.2 _ (QRf h1))
    have hs2:szI (Xe a[i]) l=l - Xe a[i]:=Yz h2
    simp only[JT,ilt h1,Qo h1,Qj h1,inc h1 (show a.length<=maxLen from hf.1),QQ1,hs,QQ0]
    simp only[show szI (Xe a[i]) l=l - Xe a[i]from hs2,df (show¬l - (Xe a[i]:Int)<0 by omega),QQ2]
    exact hk)
  (fun l i h1 h0 hB h2=>by
    apply J7
    have hs:=Qhi a[i] l (by omega) (by omega) (hf.2 _ (QRf h1))
    have hs2:szI (Xe a[i]) l= -1:=Z8 h2
    simp only[JT,ilt h1,Qo h1,Qj h1,QQ1,hs,QQ0]
    simp only[show szI (Xe a[i]) l= -1 from hs2,dt (show(-1:Int)<0 by omega),QQ1])
  (fun l=>by
    apply J7
    simp only[JT,Qw,QQ2])
  (l - a.length) (by omega) (by omega)
 have hl:=hf.1
 simp only[maxLen]at hl
 rw[w64 (by omega) (by omega)]
 simp only[QQ6]at e
 rw[e,QQ0,vZ]
def J6 (a:List QI):Nat:=a.length
def QkW (a:List QI):Prop:=a.length<=maxLen
theorem QyA (a:List QI) (l:Int) (h0:0<=l) (hB:l<=1048576) (hf:QkW a):yJ w (a,l)=some (szI (J6 a) l):=by
 apply Qmp
 simp only[Qd6]
 exact Jc (m:=0) h0 hB hf fun h=>by rw[w64 (by omega) (by omega)];exact ZR (by omega)
def qf (a:List QY):Nat:=a.length
def Qk1 (a:List QY):Prop:=a.length<=maxLen
theorem QwV (a:List QY) (l:Int) (h0:0<=l) (hB:l<=1048576) (hf:Qk1 a):js w (a,l)=some (szI (qf a) l):=by
 apply Qnl
 simp only[Qdc]
 exact Jc (m:=0) h0 hB hf fun h=>by rw[w64 (by omega) (by omega)];exact ZR (by omega)
def Xw (x:Qi):Nat:=Q5 (x.2.2.1,x.2.2.2.1)+Jt (x.2.2.2.2.1,x.2.2.2.2.2.1)+qZ (x.2.2.2.2.2.2.1,x.2.2.2.2.2.2.2.1,x.2.2.2.2.2.2.2.2.1)+Xe x.2.2.2.2.2.2.2.2.2.1+Xe x.2.2.2.2.2.2.2.2.2.2.1+V6 x.2.2.2.2.2.2.2.2.2.2.2.1+J6 x.2.2.2.2.2.2.2.2.2.2.2.2.2.2.1+qf x.2.2.2.2.2.2.2.2.2.2.2.2.2.2.2.2.2.2
def Qc8 (x:Qi):Prop:=J3 (x.2.2.1,x.2.2.2.1)/\QgK (x.2.2.2.2.1,x.2.2.2.2.2.1)/\Qjr (x.2.2.2.2.2.2.1,x.2.2.2.2.2.2.2.1,x.2.2.2.2.2.2.2.2.1)/\Qc5 x.2.2.2.2.2.2.2.2.2.1/\Qc5 x.2.2.2.2.2.2.2.2.2.2.1/\QkE x.2.2.2.2.2.2.2.2.2.2.2.1/\QkW x.2.2.2.2.2.2.2.2.2.2.2.2.2.2.1/\Qk1 x.2.2.2.2.2.2.2.2.2.2.2.2.2.2.2.2.2.2
theorem Qyz {x:Qi}(h:K9 Ve x):Qc8 x:=⟨Qi4 ⟨h.2.2.1,h.2.2.2.1,trivial⟩,Qw9 ⟨h.2.2.2.2.1,h.2.2.2.2.2.1,trivial⟩,Qz7 ⟨h.2.2.2.2.2.2.1,h.2.2.2.2.2.2.2.1,h.2.2.2.2.2.2.2.2.1,trivial⟩,h.2.2.2.2.2.2.2.2.2.1.1,h.2.2.2.2.2.2.2.2.2.2.1.1,⟨h.2.2.2.2.2.2.2.2.2.2.2.1.1,fun y hy=>((h.2.2.2.2.2.2.2.2.2.2.2.1.2 y hy).1).1⟩,h.2.2.2.2.2.2.2.2.2.2.2.2.2.2.1.1,h.2.2.2.2.2.2.2.2.2.2.2.2.2.2.2.2.2.2.1.1⟩
theorem Qtf (a0 a1:Int) (a2:List Qf) (a3:List Qb) (a4:List Int) (a5 a6 a7:Int) (a8:List Qk) (a9 a10:List Int) (a11:List (List Int)) (a12 a13:Int) (a14:List QI) (a15 a16 a17:Int) (a18:List QY) (l:Int) (h0:0<=l) (hB:l<=1048576) (hf:Qc8 (a0,a1,a2,a3,a4,a5,a6,a7,a8,a9,a10,a11,a12,a13,a14,a15,a16,a17,a18)):v8 w (a0,a1,a2,a3,a4,a5,a6,a7,a8,a9,a10,a11,a12,a13,a14,a15,a16,a17,a18,l)=some (szI (Xw (a0,a1,a2,a3,a4,a5,a6,a7,a8,a9,a10,a11,a12,a13,a14,a15,a16,a17,a18)) l):=by
 apply QoF
 simp only[Qc8]at hf
 have e:Xw (a0,a1,a2,a3,a4,a5,a6,a7,a8,a9,a10,a11,a12,a13,a14,a15,a16,a17,a18)=(Q5 (a2,a3)+(Jt (a4,a5)+(qZ (a6,a7,a8)+(Xe a9+(Xe a10+(V6 a11+(J6 a14+(qf a18+0)))))))):=by simp only[Xw];omega
 rw[e]
 simp only[Qff]
 refine X4 (by omega) (Qij a2 a3 _ (by omega) (by omega) (hf.1)) fun _=> ?_
 refine X4 (by omega) (Qzw a4 a5 _ (by omega) (by omega) (hf.2.1)) fun _=> ?_
 refine X4 (by omega) (Qz9 a6 a7 a8 _ (by omega) (by omega) (hf.2.2.1)) fun _=> ?_
 refine X4 (by omega) (Qhi a9 _ (by omega) (by omega) (hf.2.2.2.1)) fun _=> ?_
 refine X4 (by omega) (Qhi a10 _ (by omega) (by omega) (hf.2.2.2.2.1)) fun _=> ?_
 refine X4 (by omega) (Qyk a11 _ (by omega) (by omega) (hf.2.2.2.2.2.1)) fun _=> ?_
 refine X4 (by omega) (QyA a14 _ (by omega) (by omega) (hf.2.2.2.2.2.2.1)) fun _=> ?_
 refine X4 (by omega) (QwV a18 _ (by omega) (by omega) (hf.2.2.2.2.2.2.2)) fun _=> ?_
 exact ZR (by omega)
def YO (a:List Qi):Nat:=a.length+Zc Xw a
def QkF (a:List Qi):Prop:=a.length<=maxLen/\∀x∈a,Qc8 x
theorem QwX (a:List Qi) (l:Int) (h0:0<=l) (hB:l<=1048576) (hf:QkF a):yq w (a,l)=some (szI (YO a) l):=by
 apply QlN
 simp only[Qd8,YO]
 refine Jc h0 hB hf.1 fun h=> ?_
 have e:=Qc7 Xw a (fun l i=>KP wl (a,l,(i:Int))) 1048576
  (fun l i h1 r h0 hB h2 hk=>by
    apply qp
    have hs:=Qtf a[i].1 a[i].2.1 a[i].2.2.1 a[i].2.2.2.1 a[i].2.2.2.2.1 a[i].2.2.2.2.2.1 a[i].2.2.2.2.2.2.1 a[i].2.2.2.2.2.2.2.1 a[i].2.2.2.2.2.2.2.2.1 a[i].2.2.2.2.2.2.2.2.2.1 a[i].2.2.2.2.2.2.2.2.2.2.1 a[i].2.2.2.2.2.2.2.2.2.2.2.1 a[i].2.2.2.2.2.2.2.2.2.2.2.2.1 a[i].2.2.2.2.2.2.2.2.2.2.2.2.2.1 a[i].2.2.2.2.2.2.2.2.2.2.2.2.2.2.1 a[i].2.2.2.2.2.2.2.2.2.2.2.2.2.2.2.1 a[i].2.2.2.2.2.2.2.2.2.2.2.2.2.2.2.2.1 a[i].2.2.2.2.2.2.2.2.2.2.2.2.2.2.2.2.2.1 a[i].2.2.2.2.2.2.2.2.2.2.2.2.2.2.2.2.2.2 l (by omega) (by omega) (hf.2 _ (QRf h1))
    have hs2:szI (Xw a[i]) l=l - Xw a[i]:=Yz h2
    simp only[JV,ilt h1,Qo h1,Qj h1,inc h1 (show a.length<=maxLen from hf.1),QQ1,hs,QQ0]
    simp only[show szI (Xw (a[i].1,a[i].2.1,a[i].2.2.1,a[i].2.2.2.1,a[i].2.2.2.2.1,a[i].2.2.2.2.2.1,a[i].2.2.2.2.2.2.1,a[i].2.2.2.2.2.2.2.1,a[i].2.2.2.2.2.2.2.2.1,a[i].2.2.2.2.2.2.2.2.2.1,a[i].2.2.2.2.2.2.2.2.2.2.1,a[i].2.2.2.2.2.2.2.2.2.2.2.1,a[i].2.2.2.2.2.2.2.2.2.2.2.2.1,a[i].2.2.2.2.2.2.2.2.2.2.2.2.2.1,a[i].2.2.2.2.2.2.2.2.2.2.2.2.2.2.1,a[i].2.2.2.2.2.2.2.2.2.2.2.2.2.2.2.1,a[i].2.2.2.2.2.2.2.2.2.2.2.2.2.2.2.2.1,a[i].2.2.2.2.2.2.2.2.2.2.2.2.2.2.2.2.2.1,a[i].2.2.2.2.2.2.2.2.2.2.2.2.2.2.2.2.2.2)) l=l - Xw a[i]from hs2,df (show¬l - (Xw a[i]:Int)<0 by omega),QQ2]
    exact hk)
  (fun l i h1 h0 hB h2=>by
    apply qp
    have hs:=Qtf a[i].1 a[i].2.1 a[i].2.2.1 a[i].2.2.2.1 a[i].2.2.2.2.1 a[i].2.2.2.2.2.1 a[i].2.2.2.2.2.2.1 a[i].2.2.2.2.2.2.2.1 a[i].2.2.2.2.2.2.2.2.1 a[i].2.2.2.2.2.2.2.2.2.1 a[i].2.2.2.2.2.2.2.2.2.2.1 a[i].2.2.2.2.2.2.2.2.2.2.2.1 a[i].2.2.2.2.2.2.2.2.2.2.2.2.1 a[i].2.2.2.2.2.2.2.2.2.2.2.2.2.1 a[i].2.2.2.2.2.2.2.2.2.2.2.2.2.2.1 a[i].2.2.2.2.2.2.2.2.2.2.2.2.2.2.2.1 a[i].2.2.2.2.2.2.2.2.2.2.2.2.2.2.2.2.1 a[i].2.2.2.2.2.2.2.2.2.2.2.2.2.2.2.2.2.1 a[i].2.2.2.2.2.2.2.2.2.2.2.2.2.2.2.2.2.2 l (by omega) (by omega) (hf.2 _ (QRf h1))
    have hs2:szI (Xw a[i]) l= -1:=Z8 h2
    simp only[JV,ilt h1,Qo h1,Qj h1,QQ1,hs,QQ0]
    simp only[show szI (Xw (a[i].1,a[i].2.1,a[i].2.2.1,a[i].2.2.2.1,a[i].2.2.2.2.1,a[i].2.2.2.2.2.1,a[i].2.2.2.2.2.2.1,a[i].2.2.2.2.2.2.2.1,a[i].2.2.2.2.2.2.2.2.1,a[i].2.2.2.2.2.2.2.2.2.1,a[i].2.2.2.2.2.2.2.2.2.2.1,a[i].2.2.2.2.2.2.2.2.2.2.2.1,a[i].2.2.2.2.2.2.2.2.2.2.2.2.1,a[i].2.2.2.2.2.2.2.2.2.2.2.2.2.1,a[i].2.2.2.2.2.2.2.2.2.2.2.2.2.2.1,a[i].2.2.2.2.2.2.2.2.2.2.2.2.2.2.2.1,a[i].2.2.2.2.2.2.2.2.2.2.2.2.2.2.2.2.1,a[i].2.2.2.2.2.2.2.2.2.2.2.2.2.2.2.2.2.1,a[i].2.2.2.2.2.2.2.2.2.2.2.2.2.2.2.2.2.2)) l= -1 from hs2,dt (show(-1:Int)<0 by omega),QQ1])
  (fun l=>by
    apply qp
    simp only[JV,Qw,QQ2])
  (l - a.length) (by omega) (by omega)
 have hl:=hf.1
 simp only[maxLen]at hl
 rw[w64 (by omega) (by omega)]
 simp only[QQ6]at e
 rw[e,QQ0,vZ]
def qn (a:List Int):Nat:=a.length
def QkM (a:List Int):Prop:=a.length<=maxLen
theorem Qx9 (a:List Int) (l:Int) (h0:0<=l) (hB:l<=1048576) (hf:QkM a):zA w (a,l)=some (szI (qn a) l):=by
 apply Qmx
 simp only[QeU]
 exact Jc (m:=0) h0 hB hf fun h=>by rw[w64 (by omega) (by omega)];exact ZR (by omega)
def Xm (x:QD):Nat:=qn x.2.1
def Qhm (x:QD):Prop:=QkM x.2.1
theorem QxQ {x:QD}(h:K9 VX x):Qhm x:=h.2.1.1
theorem Qtw (a0:Int) (a1:List Int) (a2:Bool) (l:Int) (h0:0<=l) (hB:l<=1048576) (hf:Qhm (a0,a1,a2)):Qaw w (a0,a1,a2,l)=some (szI (Xm (a0,a1,a2)) l):=by
 apply QnG
 simp only[Qhm]at hf
 have e:Xm (a0,a1,a2)=(qn a1+0):=by simp only[Xm];omega
 rw[e]
 simp only[Qfq]
 refine X4 (by omega) (Qx9 a1 _ (by omega) (by omega) (hf)) fun _=> ?_
 exact ZR (by omega)
def ZG (a:List QD):Nat:=a.length+Zc Xm a
def Qk8 (a:List QD):Prop:=a.length<=maxLen/\∀x∈a,Qhm x
theorem QxP (a:List QD) (l:Int) (h0:0<=l) (hB:l<=1048576) (hf:Qk8 a):jl w (a,l)=some (szI (ZG a) l):=by
 apply Qlt
 simp only[QeC,ZG]
 refine Jc h0 hB hf.1 fun h=> ?_
 have e:=Qc7 Xm a (fun l i=>Kr wl (a,l,(i:Int))) 1048576
  (fun l i h1 r h0 hB h2 hk=>by
    apply J4
    have hs:=Qtw a[i].1 a[i].2.1 a[i].2.2 l (by omega) (by omega) (hf.2 _ (QRf h1))
    have hs2:szI (Xm a[i]) l=l - Xm a[i]:=Yz h2
    simp only[JK,ilt h1,Qo h1,Qj h1,inc h1 (show a.length<=maxLen from hf.1),QQ1,hs,QQ0]
    simp only[show szI (Xm (a[i].1,a[i].2.1,a[i].2.2)) l=l - Xm a[i]from hs2,df (show¬l - (Xm a[i]:Int)<0 by omega),QQ2]
    exact hk)
  (fun l i h1 h0 hB h2=>by
    apply J4
    have hs:=Qtw a[i].1 a[i].2.1 a[i].2.2 l (by omega) (by omega) (hf.2 _ (QRf h1))
    have hs2:szI (Xm a[i]) l= -1:=Z8 h2
    simp only[JK,ilt h1,Qo h1,Qj h1,QQ1,hs,QQ0]
    simp only[show szI (Xm (a[i].1,a[i].2.1,a[i].2.2)) l= -1 from hs2,dt (show(-1:Int)<0 by omega),QQ1])
  (fun l=>by
    apply J4
    simp only[JK,Qw,QQ2])
  (l - a.length) (by omega) (by omega)
 have hl:=hf.1
 simp only[maxLen]at hl
 rw[w64 (by omega) (by omega)]
 simp only[QQ6]at e
 rw[e,QQ0,vZ]
def XN (x:QE):Nat:=Q5 (x.2.1,x.2.2)
def QgO (x:QE):Prop:=J3 (x.2.1,x.2.2)
theorem Qyc {x:QE}(h:K9 Vg x):QgO x:=Qi4 ⟨h.2.1,h.2.2.1,trivial⟩
theorem Qtd (a0:Int) (a1:List Qf) (a2:List Qb) (l:Int) (h0:0<=l) (hB:l<=1048576) (hf:QgO (a0,a1,a2)):Qax w (a0,a1,a2,l)=some (szI (XN (a0,a1,a2)) l):=by
 apply QnI
 simp only[QgO]at hf
 have e:XN (a0,a1,a2)=(Q5 (a1,a2)+0):=by simp only[XN];omega
 rw[e]
 simp only[QfN]
 refine X4 (by omega) (Qij a1 a2 _ (by omega) (by omega) (hf)) fun _=> ?_
 exact ZR (by omega)
def YL (a:List QE):Nat:=a.length+Zc XN a
def QkS (a:List QE):Prop:=a.length<=maxLen/\∀x∈a,QgO x
theorem Qyj (a:List QE) (l:Int) (h0:0<=l) (hB:l<=1048576) (hf:QkS a):yz w (a,l)=some (szI (YL a) l):=by
 apply QmS
 simp only[QdU,YL]
 refine Jc h0 hB hf.1 fun h=> ?_
 have e:=Qc7 XN a (fun l i=>Kn wl (a,l,(i:Int))) 1048576
  (fun l i h1 r h0 hB h2 hk=>by
    apply JY
    have hs:=Qtd a[i].1 a[i].2.1 a[i].2.2 l (by omega) (by omega) (hf.2 _ (QRf h1))
    have hs2:szI (XN a[i]) l=l - XN a[i]:=Yz h2
    simp only[JS,ilt h1,Qo h1,Qj h1,inc h1 (show a.length<=maxLen from hf.1),QQ1,hs,QQ0]
    simp only[show szI (XN (a[i].1,a[i].2.1,a[i].2.2)) l=l - XN a[i]from hs2,df (show¬l - (XN a[i]:Int)<0 by omega),QQ2]
    exact hk)
  (fun l i h1 h0 hB h2=>by
    apply JY
    have hs:=Qtd a[i].1 a[i].2.1 a[i].2.2 l (by omega) (by omega) (hf.2 _ (QRf h1))
    have hs2:szI (XN a[i]) l= -1:=Z8 h2
    simp only[JS,ilt h1,Qo h1,Qj h1,QQ1,hs,QQ0]
    simp only[show szI (XN (a[i].1,a[i].2.1,a[i].2.2)) l= -1 from hs2,dt (show(-1:Int)<0 by omega),QQ1])
  (fun l=>by
    apply JY
    simp only[JS,Qw,QQ2])
  (l - a.length) (by omega) (by omega)
 have hl:=hf.1
 simp only[maxLen]at hl
 rw[w64 (by omega) (by omega)]
 simp only[QQ6]at e
 rw[e,QQ0,vZ]
def ZH (x:YF):Nat:=YO x.1+ZG x.2.1+YL x.2.2
def vR (x:YF):Prop:=QkF x.1/\Qk8 x.2.1/\QkS x.2.2
theorem Qv7 {x:YF}(h:K9 Qhg x):vR x:=⟨⟨h.1.1,fun y hy=>Qyz (h.1.2 y hy)⟩,⟨h.2.1.1,fun y hy=>QxQ (h.2.1.2 y hy)⟩,⟨h.2.2.1.1,fun y hy=>Qyc (h.2.2.1.2 y hy)⟩⟩
theorem Qys (a0:List Qi) (a1:List QD) (a2:List QE) (l:Int) (h0:0<=l) (hB:l<=1048576) (hf:vR (a0,a1,a2)):yk w (a0,a1,a2,l)=some (szI (ZH (a0,a1,a2)) l):=by
 apply Qng
 simp only[vR]at hf
 have e:ZH (a0,a1,a2)=(YO a0+(ZG a1+(YL a2+0))):=by simp only[ZH];omega
 rw[e]
 simp only[Qdn]
 refine X4 (by omega) (QwX a0 _ (by omega) (by omega) (hf.1)) fun _=> ?_
 refine X4 (by omega) (QxP a1 _ (by omega) (by omega) (hf.2.1)) fun _=> ?_
 refine X4 (by omega) (Qyj a2 _ (by omega) (by omega) (hf.2.2)) fun _=> ?_
 exact ZR (by omega)
theorem Qw2 (a0 a1 a2 a3:Int) (a4:ByteArray) (h:KZ (a0,a1,a2,a3,a4)<=4294967296):jg w (a0,a1,a2,a3,a4)=some (a0,a1,a2,a3,a4):=by
 apply QlI
 simp only[KZ]at h
 simp only[QeS]
theorem QzY (a0 a1 a2 a3 a4:Int) (a5:ByteArray) (h:XC (a0,a1,a2,a3,a4,a5)<=4294967296):QaH w (a0,a1,a2,a3,a4,a5)=some (a0,a1,a2,a3,a4,a5):=by
 apply Qn0
 simp only[XC]at h
 simp only[Qf0,Qw2 a1 a2 a3 a4 a5 (by omega),QQ0]
theorem Qxq (a:List Qf) (h:VU a<=4294967296):zP w a=some a:=by
 apply Ql9
 simp only[VU]at h
 have e:=YQ a (fun x=>x) (fun i out=>KA wl (a,(i:Int),out)) (fun out=>out)
  (fun i h1 out r ho hk=>by
    apply Qa8
    have hb:=Zq XC a i h1
    simp only[yi,ilt h1,ho,Qo h1,Qj h1,inc h1 (show a.length<=maxLen by simp[maxLen];omega),QQ1,QRb,QzY a[i].1 a[i].2.1 a[i].2.2.1 a[i].2.2.2.1 a[i].2.2.2.2.1 a[i].2.2.2.2.2 (show XC a[i]<=4294967296 by omega),QQ0]
    exact hk)
  (fun out ho=>by
    apply Qa8
    simp only[yi,Qw,QQ2])
  (List.replicate a.length (0,0,0,0,0,ByteArray.empty)) (by simp)
 rw[List.map_id']at e
 have hf:fits a.length 56=true:=QL (by omega)
 simp only[QdT,QRb,hf]
 simp
 exact e
theorem QxC (a0 a1:Int):va w (a0,a1)=some (a0,a1):=by
 apply QlK
 simp only[Qej]
theorem QwM (a:List Qb) (h:VO a<=4294967296):xp w a=some a:=by
 apply QkB
 simp only[VO]at h
 have e:=YQ a (fun x=>x) (fun i out=>YJ wl (a,(i:Int),out)) (fun out=>out)
  (fun i h1 out r ho hk=>by
    apply vq
    simp only[zd,ilt h1,ho,Qo h1,Qj h1,inc h1 (show a.length<=maxLen by simp[maxLen];omega),QQ1,QRb,QxC a[i].1 a[i].2,QQ0]
    exact hk)
  (fun out ho=>by
    apply vq
    simp only[zd,Qw,QQ2])
  (List.replicate a.length (0,0)) (by simp)
 rw[List.map_id']at e
 have hf:fits a.length 16=true:=QL (by omega)
 simp only[Qca,QRb,hf]
 simp
 exact e
theorem QkY (a0:List Qf) (a1:List Qb) (h:Q5 (a0,a1)<=4294967296):VG w (a0,a1)=some (a0,a1):=by
 apply QmQ
 simp only[Q5]at h
 simp only[Qe0,Qxq a0 (by omega),QwM a1 (by omega),QQ0]
theorem QjF (a:List Int) (h:Xe a<=4294967296):K1 w a=some a:=by
 apply Qn3
 simp only[Xe]at h
 have e:=YQ a (fun x=>x) (fun i out=>VM wl (a,(i:Int),out)) (fun out=>out)
  (fun i h1 out r ho hk=>by
    apply Qb9
    simp only[vF,ilt h1,ho,Qo h1,Qj h1,inc h1 (show a.length<=maxLen by simp[maxLen];omega),QQ1,QRb]
    exact hk)
  (fun out ho=>by
    apply Qb9
    simp only[vF,Qw,QQ2])
  (List.replicate a.length 0) (by simp)
 rw[List.map_id']at e
 have hf:fits a.length 8=true:=QL (by omega)
 simp only[Qfy,QRb,hf]
 simp
 exact e
theorem Qz3 (a0:List Int) (a1:Int) (h:Jt (a0,a1)<=4294967296):Qaz w (a0,a1)=some (a0,a1):=by
 apply Qoo
 simp only[Jt]at h
 simp only[QfM,QjF a0 (by omega),QQ0]
theorem QvN (a:List Qk) (h:KC a<=4294967296):xM w a=some a:=by
 apply QkT
 simp only[KC]at h
 have e:=YQ a (fun x=>x) (fun i out=>YN wl (a,(i:Int),out)) (fun out=>out)
  (fun i h1 out r ho hk=>by
    apply vt
    have hb:=Zq Q5 a i h1
    simp only[xW,ilt h1,ho,Qo h1,Qj h1,inc h1 (show a.length<=maxLen by simp[maxLen];omega),QQ1,QRb,QkY a[i].1 a[i].2 (show Q5 a[i]<=4294967296 by omega),QQ0]
    exact hk)
  (fun out ho=>by
    apply vt
    simp only[xW,Qw,QQ2])
  (List.replicate a.length ([],[])) (by simp)
 rw[List.map_id']at e
 have hf:fits a.length 48=true:=QL (by omega)
 simp only[Qcc,QRb,hf]
 simp
 exact e
theorem QAw (a0 a1:Int) (a2:List Qk) (h:qZ (a0,a1,a2)<=4294967296):QcS w (a0,a1,a2)=some (a0,a1,a2):=by
 apply Qp3
 simp only[qZ]at h
 simp only[QgH,QvN a2 (by omega),QQ0]
theorem QxB (a:List (List Int)) (h:V6 a<=4294967296):yM w a=some a:=by
 apply Qlm
 simp only[V6]at h
 have e:=YQ a (fun x=>x) (fun i out=>KB wl (a,(i:Int),out)) (fun out=>out)
  (fun i h1 out r ho hk=>by
    apply QaX
    have hb:=Zq Xe a i h1
    simp only[yB,ilt h1,ho,Qo h1,Qj h1,inc h1 (show a.length<=maxLen by simp[maxLen];omega),QQ1,QRb,QjF a[i] (show Xe a[i]<=4294967296 by omega),QQ0]
    exact hk)
  (fun out ho=>by
    apply QaX
    simp only[yB,Qw,QQ2])
  (List.replicate a.length []) (by simp)
 rw[List.map_id']at e
 have hf:fits a.length 24=true:=QL (by omega)
 simp only[Qdj,QRb,hf]
 simp
 exact e
theorem Qzx (a0 a1:Int) (a2:Bool) (a3:Int):QaI w (a0,a1,a2,a3)=some (a0,a1,a2,a3):=by
 apply Qn4
 simp only[Qfs]
theorem QxK (a:List QI) (h:J6 a<=4294967296):yC w a=some a:=by
 apply Qnm
 simp only[J6]at h
 have e:=YQ a (fun x=>x) (fun i out=>KJ wl (a,(i:Int),out)) (fun out=>out)
  (fun i h1 out r ho hk=>by
    apply QbF
    simp only[zW,ilt h1,ho,Qo h1,Qj h1,inc h1 (show a.length<=maxLen by simp[maxLen];omega),QQ1,QRb,Qzx a[i].1 a[i].2.1 a[i].2.2.1 a[i].2.2.2,QQ0]
    exact hk)
  (fun out ho=>by
    apply QbF
    simp only[zW,Qw,QQ2])
  (List.replicate a.length (0,0,false,0)) (by simp)
 rw[List.map_id']at e
 have hf:fits a.length 32=true:=QL (by omega)
 simp only[QeJ,QRb,hf]
 simp
 exact e
theorem Qz0 (a0 a1 a2:Int):v7 w (a0,a1,a2)=some (a0,a1,a2):=by
 apply QnY
 simp only[Qfb]
theorem Qxv (a:List QY) (h:qf a<=4294967296):jQ w a=some a:=by
 apply QmK
 simp only[qf]at h
 have e:=YQ a (fun x=>x) (fun i out=>Kf wl (a,(i:Int),out)) (fun out=>out)
  (fun i h1 out r ho hk=>by
    apply QbI
    simp only[jX,ilt h1,ho,Qo h1,Qj h1,inc h1 (show a.length<=maxLen by simp[maxLen];omega),QQ1,QRb,Qz0 a[i].1 a[i].2.1 a[i].2.2,QQ0]
    exact hk)
  (fun out ho=>by
    apply QbI
    simp only[jX,Qw,QQ2])
  (List.replicate a.length (0,0,0)) (by simp)
 rw[List.map_id']at e
 have hf:fits a.length 24=true:=QL (by omega)
 simp only[QeF,QRb,hf]
 simp
 exact e
theorem QzC (a0 a1:Int) (a2:List Qf) (a3:List Qb) (a4:List Int) (a5 a6 a7:Int) (a8:List Qk) (a9 a10:List Int) (a11:List (List Int)) (a12 a13:Int) (a14:List QI) (a15 a16 a17:Int) (a18:List QY) (h:Xw (a0,a1,a2,a3,a4,a5,a6,a7,a8,a9,a10,a11,a12,a13,a14,a15,a16,a17,a18)<=4294967296):Qaf w (a0,a1,a2,a3,a4,a5,a6,a7,a8,a9,a10,a11,a12,a13,a14,a15,a16,a17,a18)=some (a0,a1,a2,a3,a4,a5,a6,a7,a8,a9,a10,a11,a12,a13,a14,a15,a16,a17,a18):=by
 apply Qoc
 simp only[Xw]at h
 simp only[Qfl,QkY a2 a3 (by omega),Qz3 a4 a5 (by omega),QAw a6 a7 a8 (by omega),QjF a9 (by omega),QjF a10 (by omega),QxB a11 (by omega),QxK a14 (by omega),Qxv a18 (by omega),QQ0]
theorem Qxo (a:List Qi) (h:YO a<=4294967296):zT w a=some a:=by
 apply QlC
 simp only[YO]at h
 have e:=YQ a (fun x=>x) (fun i out=>KH wl (a,(i:Int),out)) (fun out=>out)
  (fun i h1 out r ho hk=>by
    apply Qbs
    have hb:=Zq Xw a i h1
    simp only[jc,ilt h1,ho,Qo h1,Qj h1,inc h1 (show a.length<=maxLen by simp[maxLen];omega),QQ1,QRb,QzC a[i].1 a[i].2.1 a[i].2.2.1 a[i].2.2.2.1 a[i].2.2.2.2.1 a[i].2.2.2.2.2.1 a[i].2.2.2.2.2.2.1 a[i].2.2.2.2.2.2.2.1 a[i].2.2.2.2.2.2.2.2.1 a[i].2.2.2.2.2.2.2.2.2.1 a[i].2.2.2.2.2.2.2.2.2.2.1 a[i].2.2.2.2.2.2.2.2.2.2.2.1 a[i].2.2.2.2.2.2.2.2.2.2.2.2.1 a[i].2.2.2.2.2.2.2.2.2.2.2.2.2.1 a[i].2.2.2.2.2.2.2.2.2.2.2.2.2.2.1 a[i].2.2.2.2.2.2.2.2.2.2.2.2.2.2.2.1 a[i].2.2.2.2.2.2.2.2.2.2.2.2.2.2.2.2.1 a[i].2.2.2.2.2.2.2.2.2.2.2.2.2.2.2.2.2.1 a[i].2.2.2.2.2.2.2.2.2.2.2.2.2.2.2.2.2.2 (show Xw a[i]<=4294967296 by omega),QQ0]
    exact hk)
  (fun out ho=>by
    apply Qbs
    simp only[jc,Qw,QQ2])
  (List.replicate a.length (0,0,[],[],[],0,0,0,[],[],[],[],0,0,[],0,0,0,[])) (by simp)
 rw[List.map_id']at e
 have hf:fits a.length 296=true:=QL (by omega)
 simp only[QeE,QRb,hf]
 simp
 exact e
theorem Qxx (a:List Int) (h:qn a<=4294967296):yg w a=some a:=by
 apply QlV
 simp only[qn]at h
 have e:=YQ a (fun x=>x) (fun i out=>KR wl (a,(i:Int),out)) (fun out=>out)
  (fun i h1 out r ho hk=>by
    apply Qbg
    simp only[zU,ilt h1,ho,Qo h1,Qj h1,inc h1 (show a.length<=maxLen by simp[maxLen];omega),QQ1,QRb]
    exact hk)
  (fun out ho=>by
    apply Qbg
    simp only[zU,Qw,QQ2])
  (List.replicate a.length 0) (by simp)
 rw[List.map_id']at e
 have hf:fits a.length 1=true:=QL (by omega)
 simp only[QeQ,QRb,hf]
 simp
 exact e
theorem QzU (a0:Int) (a1:List Int) (a2:Bool) (h:Xm (a0,a1,a2)<=4294967296):Qau w (a0,a1,a2)=some (a0,a1,a2):=by
 apply QnU
 simp only[Xm]at h
 simp only[Qfc,Qxx a1 (by omega),QQ0]
theorem Qym (a:List QD) (h:ZG a<=4294967296):jd w a=some a:=by
 apply QlL
 simp only[ZG]at h
 have e:=YQ a (fun x=>x) (fun i out=>Kb wl (a,(i:Int),out)) (fun out=>out)
  (fun i h1 out r ho hk=>by
    apply QbM
    have hb:=Zq Xm a i h1
    simp only[vg,ilt h1,ho,Qo h1,Qj h1,inc h1 (show a.length<=maxLen by simp[maxLen];omega),QQ1,QRb,QzU a[i].1 a[i].2.1 a[i].2.2 (show Xm a[i]<=4294967296 by omega),QQ0]
    exact hk)
  (fun out ho=>by
    apply QbM
    simp only[vg,Qw,QQ2])
  (List.replicate a.length (0,[],false)) (by simp)
 rw[List.map_id']at e
 have hf:fits a.length 40=true:=QL (by omega)
 simp only[QdJ,QRb,hf]
 simp
 exact e
theorem Qzr (a0:Int) (a1:List Qf) (a2:List Qb) (h:XN (a0,a1,a2)<=4294967296):QaA w (a0,a1,a2)=some (a0,a1,a2):=by
 apply QoC
 simp only[XN]at h
 simp only[QfH,QkY a1 a2 (by omega),QQ0]
theorem Qx5 (a:List QE) (h:YL a<=4294967296):yf w a=some a:=by
 apply QmV
 simp only[YL]at h
 have e:=YQ a (fun x=>x) (fun i out=>Kt wl (a,(i:Int),out)) (fun out=>out)
  (fun i h1 out r ho hk=>by
    apply Qa6
    have hb:=Zq XN a i h1
    simp only[je,ilt h1,ho,Qo h1,Qj h1,inc h1 (show a.length<=maxLen by simp[maxLen];omega),QQ1,QRb,Qzr a[i].1 a[i].2.1 a[i].2.2 (show XN a[i]<=4294967296 by omega),QQ0]
    exact hk)
  (fun out ho=>by
    apply Qa6
    simp only[je,Qw,QQ2])
  (List.replicate a.length (0,[],[])) (by simp)
 rw[List.map_id']at e
 have hf:fits a.length 56=true:=QL (by omega)
 simp only[Qe1,QRb,hf]
 simp
 exact e
theorem Qyu (a0:List Qi) (a1:List QD) (a2:List QE) (h:ZH (a0,a1,a2)<=4294967296):Vx w (a0,a1,a2)=some (a0,a1,a2):=by
 apply QlU
 simp only[ZH]at h
 simp only[Qd1,Qxo a0 (by omega),Qym a1 (by omega),Qx5 a2 (by omega),QQ0]
theorem QxV (a0 a1 a2 a3:Int) (a4:ByteArray) (h:KZ (a0,a1,a2,a3,a4)<=4294967296):zY w (a0,a1,a2,a3,a4,a0,a1,a2,a3,a4)=some true:=by
 apply Qnx
 simp only[KZ]at h
 simp only[Qek,decide_true,QQ3,QQ2,QZ,beq_self_eq_true,QQ0]
theorem QzG (a0 a1 a2 a3 a4:Int) (a5:ByteArray) (h:XC (a0,a1,a2,a3,a4,a5)<=4294967296):Qai w (a0,a1,a2,a3,a4,a5,a0,a1,a2,a3,a4,a5)=some true:=by
 apply QnB
 simp only[XC]at h
 simp only[QfB,QxV a1 a2 a3 a4 a5 (by omega),decide_true,QQ3,QQ2,QZ,beq_self_eq_true,QQ0]
theorem Qxw (a:List Qf) (h:VU a<=4294967296):jJ w (a,a)=some true:=by
 apply QlM
 simp only[VU]at h
 have e:=YE a.length (fun i=>KU wl (a,a,(i:Int))) (.inr ())
  (fun i h1 r hk=>by
    apply Qbq
    have hb:=Zq XC a i h1
    simp only[zH,ilt h1,Qo h1,Qj h1,inc h1 (show a.length<=maxLen by simp[maxLen];omega),QQ1,decide_true,QQ3,QQ2,QZ,beq_self_eq_true,QzG a[i].1 a[i].2.1 a[i].2.2.1 a[i].2.2.2.1 a[i].2.2.2.2.1 a[i].2.2.2.2.2 (show XC a[i]<=4294967296 by omega),QQ0]
    exact hk)
  (by
    apply Qbq
    simp only[zH,Qw,QQ2])
 simp only[QQ6]at e
 simp only[QeN,decide_true,QQ3,QQ2,e,QQ0,Qp,QY3]
theorem Qyl (a0 a1:Int):zC w (a0,a1,a0,a1)=some true:=by
 apply Qmr
 simp only[Qdf,decide_true,QQ3,QQ2,QZ,beq_self_eq_true,QQ0]
theorem Qwl (a:List Qb) (h:VO a<=4294967296):xE w (a,a)=some true:=by
 apply Qk2
 simp only[VO]at h
 have e:=YE a.length (fun i=>YD wl (a,a,(i:Int))) (.inr ())
  (fun i h1 r hk=>by
    apply vp
    simp only[xS,ilt h1,Qo h1,Qj h1,inc h1 (show a.length<=maxLen by simp[maxLen];omega),QQ1,decide_true,QQ3,QQ2,QZ,beq_self_eq_true,Qyl a[i].1 a[i].2,QQ0]
    exact hk)
  (by
    apply vp
    simp only[xS,Qw,QQ2])
 simp only[QQ6]at e
 simp only[Qcf,decide_true,QQ3,QQ2,e,QQ0,Qp,QY3]
theorem Qla (a0:List Qf) (a1:List Qb) (h:Q5 (a0,a1)<=4294967296):Vw w (a0,a1,a0,a1)=some true:=by
 apply QlB
 simp only[Q5]at h
 simp only[Qey,Qxw a0 (by omega),Qwl a1 (by omega),decide_true,QQ3,QQ2,QZ,beq_self_eq_true,QQ0]
theorem QjZ (a:List Int) (h:Xe a<=4294967296):K2 w (a,a)=some true:=by
 apply Qoa
 simp only[Xe]at h
 have e:=YE a.length (fun i=>Vk wl (a,a,(i:Int))) (.inr ())
  (fun i h1 r hk=>by
    apply Qb8
    simp only[vM,ilt h1,Qo h1,Qj h1,inc h1 (show a.length<=maxLen by simp[maxLen];omega),QQ1,decide_true,QQ3,QQ2,QZ,beq_self_eq_true]
    exact hk)
  (by
    apply Qb8
    simp only[vM,Qw,QQ2])
 simp only[QQ6]at e
 simp only[QfX,decide_true,QQ3,QQ2,e,QQ0,Qp,QY3]
theorem QzN (a0:List Int) (a1:Int) (h:Jt (a0,a1)<=4294967296):Qay w (a0,a1,a0,a1)=some true:=by
 apply Qn9
 simp only[Jt]at h
 simp only[Qfw,QjZ a0 (by omega),decide_true,QQ3,QQ2,QZ,beq_self_eq_true,QQ0]
theorem QwB (a:List Qk) (h:KC a<=4294967296):xG w (a,a)=some true:=by
 apply QkH
 simp only[KC]at h
 have e:=YE a.length (fun i=>YK wl (a,a,(i:Int))) (.inr ())
  (fun i h1 r hk=>by
    apply vr
    have hb:=Zq Q5 a i h1
    simp only[zb,ilt h1,Qo h1,Qj h1,inc h1 (show a.length<=maxLen by simp[maxLen];omega),QQ1,decide_true,QQ3,QQ2,QZ,beq_self_eq_true,Qla a[i].1 a[i].2 (show Q5 a[i]<=4294967296 by omega),QQ0]
    exact hk)
  (by
    apply vr
    simp only[zb,Qw,QQ2])
 simp only[QQ6]at e
 simp only[Qcn,decide_true,QQ3,QQ2,e,QQ0,Qp,QY3]
theorem QAe (a0 a1:Int) (a2:List Qk) (h:qZ (a0,a1,a2)<=4294967296):QcE w (a0,a1,a2,a0,a1,a2)=some true:=by
 apply QpQ
 simp only[qZ]at h
 simp only[QgZ,QwB a2 (by omega),decide_true,QQ3,QQ2,QZ,beq_self_eq_true,QQ0]
theorem QyE (a:List (List Int)) (h:V6 a<=4294967296):jC w (a,a)=some true:=by
 apply QlZ
 simp only[V6]at h
 have e:=YE a.length (fun i=>KM wl (a,a,(i:Int))) (.inr ())
  (fun i h1 r hk=>by
    apply QbJ
    have hb:=Zq Xe a i h1
    simp only[vb,ilt h1,Qo h1,Qj h1,inc h1 (show a.length<=maxLen by simp[maxLen];omega),QQ1,decide_true,QQ3,QQ2,QZ,beq_self_eq_true,QjZ a[i] (show Xe a[i]<=4294967296 by omega),QQ0]
    exact hk)
  (by
    apply QbJ
    simp only[vb,Qw,QQ2])
 simp only[QQ6]at e
 simp only[QeX,decide_true,QQ3,QQ2,e,QQ0,Qp,QY3]
theorem QzZ (a0 a1:Int) (a2:Bool) (a3:Int):QaJ w (a0,a1,a2,a3,a0,a1,a2,a3)=some true:=by
 apply QnT
 simp only[Qfi,decide_true,QQ3,QQ2,QZ,beq_self_eq_true,QQ0]
theorem Qyr (a:List QI) (h:J6 a<=4294967296):zR w (a,a)=some true:=by
 apply Qma
 simp only[J6]at h
 have e:=YE a.length (fun i=>Ke wl (a,a,(i:Int))) (.inr ())
  (fun i h1 r hk=>by
    apply QbP
    simp only[yu,ilt h1,Qo h1,Qj h1,inc h1 (show a.length<=maxLen by simp[maxLen];omega),QQ1,decide_true,QQ3,QQ2,QZ,beq_self_eq_true,QzZ a[i].1 a[i].2.1 a[i].2.2.1 a[i].2.2.2,QQ0]
    exact hk)
  (by
    apply QbP
    simp only[yu,Qw,QQ2])
 simp only[QQ6]at e
 simp only[QeP,decide_true,QQ3,QQ2,e,QQ0,Qp,QY3]
theorem Qzt (a0 a1 a2:Int):Qar w (a0,a1,a2,a0,a1,a2)=some true:=by
 apply Qn1
 simp only[QfY,decide_true,QQ3,QQ2,QZ,beq_self_eq_true,QQ0]
theorem Qxf (a:List QY) (h:qf a<=4294967296):jP w (a,a)=some true:=by
 apply QlF
 simp only[qf]at h
 have e:=YE a.length (fun i=>Kd wl (a,a,(i:Int))) (.inr ())
  (fun i h1 r hk=>by
    apply Qbx
    simp only[zL,ilt h1,Qo h1,Qj h1,inc h1 (show a.length<=maxLen by simp[maxLen];omega),QQ1,decide_true,QQ3,QQ2,QZ,beq_self_eq_true,Qzt a[i].1 a[i].2.1 a[i].2.2,QQ0]
    exact hk)
  (by
    apply Qbx
    simp only[zL,Qw,QQ2])
 simp only[QQ6]at e
 simp only[Qdp,decide_true,QQ3,QQ2,e,QQ0,Qp,QY3]
theorem QzW (a0 a1:Int) (a2:List Qf) (a3:List Qb) (a4:List Int) (a5 a6 a7:Int) (a8:List Qk) (a9 a10:List Int) (a11:List (List Int)) (a12 a13:Int) (a14:List QI) (a15 a16 a17:Int) (a18:List QY) (h:Xw (a0,a1,a2,a3,a4,a5,a6,a7,a8,a9,a10,a11,a12,a13,a14,a15,a16,a17,a18)<=4294967296):QaB w (a0,a1,a2,a3,a4,a5,a6,a7,a8,a9,a10,a11,a12,a13,a14,a15,a16,a17,a18,a0,a1,a2,a3,a4,a5,a6,a7,a8,a9,a10,a11,a12,a13,a14,a15,a16,a17,a18)=some true:=by
 apply QnP
 simp only[Xw]at h
 simp only[QfF,Qla a2 a3 (by omega),QzN a4 a5 (by omega),QAe a6 a7 a8 (by omega),QjZ a9 (by omega),QjZ a10 (by omega),QyE a11 (by omega),Qyr a14 (by omega),Qxf a18 (by omega),decide_true,QQ3,QQ2,QZ,beq_self_eq_true,QQ0]
theorem Qyp (a:List Qi) (h:YO a<=4294967296):jy w (a,a)=some true:=by
 apply Qlw
 simp only[YO]at h
 have e:=YE a.length (fun i=>KI wl (a,a,(i:Int))) (.inr ())
  (fun i h1 r hk=>by
    apply QbG
    have hb:=Zq Xw a i h1
    simp only[vk,ilt h1,Qo h1,Qj h1,inc h1 (show a.length<=maxLen by simp[maxLen];omega),QQ1,decide_true,QQ3,QQ2,QZ,beq_self_eq_true,QzW a[i].1 a[i].2.1 a[i].2.2.1 a[i].2.2.2.1 a[i].2.2.2.2.1 a[i].2.2.2.2.2.1 a[i].2.2.2.2.2.2.1 a[i].2.2.2.2.2.2.2.1 a[i].2.2.2.2.2.2.2.2.1 a[i].2.2.2.2.2.2.2.2.2.1 a[i].2.2.2.2.2.2.2.2.2.2.1 a[i].2.2.2.2.2.2.2.2.2.2.2.1 a[i].2.2.2.2.2.2.2.2.2.2.2.2.1 a[i].2.2.2.2.2.2.2.2.2.2.2.2.2.1 a[i].2.2.2.2.2.2.2.2.2.2.2.2.2.2.1 a[i].2.2.2.2.2.2.2.2.2.2.2.2.2.2.2.1 a[i].2.2.2.2.2.2.2.2.2.2.2.2.2.2.2.2.1 a[i].2.2.2.2.2.2.2.2.2.2.2.2.2.2.2.2.2.1 a[i].2.2.2.2.2.2.2.2.2.2.2.2.2.2.2.2.2.2 (show Xw a[i]<=4294967296 by omega),QQ0]
    exact hk)
  (by
    apply QbG
    simp only[vk,Qw,QQ2])
 simp only[QQ6]at e
 simp only[Qec,decide_true,QQ3,QQ2,e,QQ0,Qp,QY3]
theorem Qye (a:List Int) (h:qn a<=4294967296):yp w (a,a)=some true:=by
 apply Qln
 simp only[qn]at h
 have e:=YE a.length (fun i=>KO wl (a,a,(i:Int))) (.inr ())
  (fun i h1 r hk=>by
    apply Qa2
    simp only[zN,ilt h1,Qo h1,Qj h1,inc h1 (show a.length<=maxLen by simp[maxLen];omega),QQ1,decide_true,QQ3,QQ2,QZ,beq_self_eq_true]
    exact hk)
  (by
    apply Qa2
    simp only[zN,Qw,QQ2])
 simp only[QQ6]at e
 simp only[QdK,decide_true,QQ3,QQ2,e,QQ0,Qp,QY3]
theorem Qzn (a0:Int) (a1:List Int) (a2:Bool) (h:Xm (a0,a1,a2)<=4294967296):Qat w (a0,a1,a2,a0,a1,a2)=some true:=by
 apply QnX
 simp only[Xm]at h
 simp only[Qfr,Qye a1 (by omega),decide_true,QQ3,QQ2,QZ,beq_self_eq_true,QQ0]
theorem Qyd (a:List QD) (h:ZG a<=4294967296):zO w (a,a)=some true:=by
 apply Qms
 simp only[ZG]at h
 have e:=YE a.length (fun i=>KG wl (a,a,(i:Int))) (.inr ())
  (fun i h1 r hk=>by
    apply Qbe
    have hb:=Zq Xm a i h1
    simp only[vj,ilt h1,Qo h1,Qj h1,inc h1 (show a.length<=maxLen by simp[maxLen];omega),QQ1,decide_true,QQ3,QQ2,QZ,beq_self_eq_true,Qzn a[i].1 a[i].2.1 a[i].2.2 (show Xm a[i]<=4294967296 by omega),QQ0]
    exact hk)
  (by
    apply Qbe
    simp only[vj,Qw,QQ2])
 simp only[QQ6]at e
 simp only[Qez,decide_true,QQ3,QQ2,e,QQ0,Qp,QY3]
theorem QzF (a0:Int) (a1:List Qf) (a2:List Qb) (h:XN (a0,a1,a2)<=4294967296):QaE w (a0,a1,a2,a0,a1,a2)=some true:=by
 apply QoG
 simp only[XN]at h
 simp only[QfJ,Qla a1 a2 (by omega),decide_true,QQ3,QQ2,QZ,beq_self_eq_true,QQ0]
theorem Qxi (a:List QE) (h:YL a<=4294967296):yU w (a,a)=some true:=by
 apply Qmb
 simp only[YL]at h
 have e:=YE a.length (fun i=>Kv wl (a,a,(i:Int))) (.inr ())
  (fun i h1 r hk=>by
    apply Qbf
    have hb:=Zq XN a i h1
    simp only[jI,ilt h1,Qo h1,Qj h1,inc h1 (show a.length<=maxLen by simp[maxLen];omega),QQ1,decide_true,QQ3,QQ2,QZ,beq_self_eq_true,QzF a[i].1 a[i].2.1 a[i].2.2 (show XN a[i]<=4294967296 by omega),QQ0]
    exact hk)
  (by
    apply Qbf
    simp only[jI,Qw,QQ2])
 simp only[QQ6]at e
 simp only[QdG,decide_true,QQ3,QQ2,e,QQ0,Qp,QY3]
theorem Qx6 (a0:List Qi) (a1:List QD) (a2:List QE) (h:ZH (a0,a1,a2)<=4294967296):yP w (a0,a1,a2,a0,a1,a2)=some true:=by
 apply Qmu
 simp only[ZH]at h
 simp only[Qd7,Qyp a0 (by omega),Qyd a1 (by omega),Qxi a2 (by omega),decide_true,QQ3,QQ2,QZ,beq_self_eq_true,QQ0]
def Qua (a b:Int):Int:=if a<b then -1 else if b<a then 1 else 0
def QD1 (a b:ByteArray):Int:=Go.Lib.compareBytes a.data.toList b.data.toList
def or5 (a b c d e:Int):Int:=if a≠0 then a else if b≠0 then b else if c≠0 then c else if d≠0 then d else e
def QAA (x y:X6):Int:=or5 (Qua x.1 y.1) (Qua x.2.1 y.2.1) (Qua x.2.2.1 y.2.2.1) (Qua x.2.2.2.1 y.2.2.2.1) (QD1 x.2.2.2.2 y.2.2.2.2)
def QiP (x y:X6):X6:=if QAA x y<0 then y else x
def vL (n:Int):Int:=IntKind.wrap .u8 (wR (Int.tmod n 128+128))
def Xs:Nat->Int->List Int->Int×List Int
 |0,n,o=>(n,o)
 |f+1,n,o=>if 128<=n then Xs f (Int.tdiv n 128) (o++[vL n])else(n,o)
def Qd (n:Int):List Int:=bif inR n 0 2147483647 then(Xs 4 n []).2++[IntKind.wrap .u8 (Xs 4 n []).1]else []
theorem Qim:(f:Nat)->(n:Int)->(o:List Int)->(Xs f n o).2.length<=o.length+f
 |0,n,o=>by simp[Xs]
 |f+1,n,o=>by
  simp only[Xs]
  split
  ·have:=Qim f (Int.tdiv n 128) (o++[vL n])
   simp only[QRj,QY33]at this;omega
  ·simp
theorem Qu (n:Int):(Qd n).length<=5:=by
 unfold Qd
 have:=Qim 4 n []
 cases inR n 0 2147483647
 ·simp
 ·simp only[QQ1,QRj,QY33];simp at this;omega
theorem Qs6:(f:Nat)->(n:Int)->(o:List Int)->0<=n->n<128^(f+1)->n<=2147483647->o.length+f<=1000->Vs wl (n,o)=some (Xs f n o):=by
 intro f
 induction f with
 |zero=>
  intro n o h0 h1 h2 h3
  apply Qcp
  simp only[qC,df (show¬128<=n by omega),QQ2,Xs]
 |succ f ih=>
  intro n o h0 h1 h2 h3
  apply Qcp
  by_cases h:128<=n
  ·have hd:=QY34 (b:=128) h0
   have:=ih (Int.tdiv n 128) (o++[vL n]) (by omega) (by rw[Int.pow_succ]at h1;omega) (by omega) (by simp;omega)
   simp only[vL]at this
   simp only[qC,dt h,QQ1,dt (show(128:Int)≠0 by omega),QL (show(o.length+List.length [IntKind.wrap .u8 (wR (Int.tmod n 128+128))])*1<=140737488351232 by simp;omega),Xs,h,if_true,vL]
   rw[w64 (n:=Int.tdiv n 128) (by omega) (by omega)]
   exact this
  ·simp only[qC,df h,QQ2,Xs,h,decide_false,if_false]
theorem Qr4:(f:Nat)->(n:Int)->(o:List Int)->0<=n->n<128^(f+1)->n<=2147483647->o.length+f<=1000->Vl wl (n,o)=some (Xs f n o):=by
 intro f
 induction f with
 |zero=>
  intro n o h0 h1 h2 h3
  apply Qcd
  simp only[qF,df (show¬127<n by omega),QQ2,Xs]
 |succ f ih=>
  intro n o h0 h1 h2 h3
  apply Qcd
  by_cases h:128<=n
  ·have hd:=QY34 (b:=128) h0
   have:=ih (Int.tdiv n 128) (o++[vL n]) (by omega) (by rw[Int.pow_succ]at h1;omega) (by omega) (by simp;omega)
   simp only[vL]at this
   simp only[qF,dt (show 127<n by omega),QQ1,dt (show(128:Int)≠0 by omega),QL (show(o.length+List.length [IntKind.wrap .u8 (wR (Int.tmod n 128+128))])*1<=140737488351232 by simp;omega),Xs,h,if_true,vL]
   rw[w64 (n:=Int.tdiv n 128) (by omega) (by omega)]
   exact this
  ·simp only[qF,df (show¬127<n by omega),QQ2,Xs,h,decide_false,if_false]
theorem Ys (n:Int):QM w n=some (Qd n):=by
 apply Qox
 simp only[Qf5,Q8,QQ0,Qd]
 cases h:inR n 0 2147483647
 ·simp
 ·simp[inR]at h
  have hl:=Qim 4 n []
  simp only[QY18]at hl
  simp only[QQ3,QQ2,Qs6 4 n [] h.1 (by omega) h.2 (by simp),QQ0,QQ1,QL (show((Xs 4 n []).2.length+List.length [IntKind.wrap .u8 (Xs 4 n []).1])*1<=140737488351232 by simp;omega)]
theorem Zm (n:Int):Q6 w n=some (Qd n):=by
 apply QnA
 simp only[Qfe,XD,QQ0,Qd]
 cases h:inR n 0 2147483647
 ·simp
 ·simp[inR]at h
  have hl:=Qim 4 n []
  simp only[QY18]at hl
  simp only[QQ3,QQ2,Qr4 4 n [] h.1 (by omega) h.2 (by simp),QQ0,QQ1,QL (show((Xs 4 n []).2.length+List.length [IntKind.wrap .u8 (Xs 4 n []).1])*1<=140737488351232 by simp;omega)]
theorem Kj (l:List (List Int)) (hl:l.length<=maxLen) (hf:l.flatten.length<=1099511627776):XS w l=some l.flatten:=by
 apply QnH
 have e:=Xu l.length (fun i (o:List Int)=>VH wl (l,((l.length:Nat):Int),(i:Int),o)) (fun i o=>o++(l.drop i).flatten) (fun i o=>o.length+(l.drop i).flatten.length<=1099511627776)
  (fun i hi o ho ih=>by
    apply Qce
    rw[QRa hi,QRr,QRj]at ho
    have:=ih (o++l[i]) (by rw[QRj];omega)
    simp only[vC,ilt hi,Qo hi,Qj hi,inc hi hl,QQ1,QL (show(o.length+l[i].length)*1<=140737488351232 by omega),this]
    rw[QRa hi,QRr,QRc])
  (fun o _=>by
    apply Qce
    simp[vC,Qw])
  [] (by simpa using hf)
 simp only[QQ6,QRg,QRe]at e
 simp only[QfL,e,QQ0]
theorem Qgj (s:ByteArray):(ofBytes s).length=s.size:=by
 show(s.data.toList.map _).length=s.data.size
 rw[List.length_map,Array.length_toList]
def Z0 (s:ByteArray):List Int:=Qd (s.size:Nat)++ofBytes s
theorem Qkx (s:ByteArray):(Z0 s).length<=5+s.size:=by
 have:=Qu (s.size:Nat)
 simp only[Z0,QRj,Qgj];omega
theorem Qud (s:ByteArray) (h:s.size<=4294967296):j9 w s=some (Z0 s):=by
 apply Qlv
 have:=Qu (s.size:Nat)
 have e: [Qd (s.size:Nat),ofBytes s].flatten=Z0 s:=by simp[Z0]
 simp only[Qel,Ys,QQ0,Kj [Qd ((s.size:Nat):Int),ofBytes s] (by simp[maxLen]) (by rw[e];have:=Qkx s;omega),e]
theorem Qs1 (s:ByteArray) (h:s.size<=4294967296):jB w s=some (Z0 s):=by
 apply QmN
 have:=Qu (s.size:Nat)
 simp only[Qe2,Zm,QQ0,QL (show((Qd ((s.size:Nat):Int)).length+(ofBytes s).length)*1<=140737488351232 by rw[Qgj];omega),QQ1,Z0]
def zg (x:Int):Int:=if Int.tmod x 2=1 then bits .xor .i64 (wR (Int.tdiv x 2)) 3988292384 else wR (Int.tdiv x 2)
def JI:Nat->Int->Int
 |0,x=>x
 |n+1,x=>JI n (zg x)
def Qh4 (s b:Int):Int:=JI 8 (bits .xor .i64 s (wR b))
theorem Qot (s b:Int):Qh4 s b=JI 8 (bits .xor .i64 s (wR b)):=by unfold Qh4;exact Eq.refl _
def crc (l:List Int):Int:=bits .xor .i64 (l.foldl Qh4 4294967295) 4294967295
theorem QAL {i:Nat}(h:i<8):decide ((i:Int)<8)=true:=by simp;omega
theorem Qu2 {i n:Nat}(h:i<n) (hn:n<=1000:=by omega):wR ((i:Int)+1)=((i+1:Nat):Int):=by
 rw[w64 (by omega) (by omega)];omega
theorem QwI (b:List Int) (n i x:Int):K3 wl (x,b,n,i,0)=some (JI 8 x,b,n,i):=by
 have e:=Xu 8 (fun k (x:Int)=>K3 wl (x,b,n,i,(k:Int))) (fun k x=>(JI (8 - k) x,b,n,i)) (fun _ _=>True)
  (fun k hk x _ ih=>by
    apply Qhe
    have:=ih (zg x) trivial
    rw[show 8 - k=(8 - (k+1))+1 by omega,JI,<-this]
    simp only[Qga,QAL hk,QQ1,dt (show(2:Int)≠0 by omega),Qu2 hk,zg]
    by_cases hx:Int.tmod x 2=1
    ·simp only[hx,decide_true,QQ1,if_true]
    ·simp only[hx,decide_false,QQ2,if_false])
  (fun x _=>by
    apply Qhe
    simp[Qga,JI])
  x trivial
 simpa using e
theorem Qu5 (b:List Int) (i x:Int):KX wl (b,x,i,0)=some (b,JI 8 x,i):=by
 have e:=Xu 8 (fun k (x:Int)=>KX wl (b,x,i,(k:Int))) (fun k x=>(b,JI (8 - k) x,i)) (fun _ _=>True)
  (fun k hk x _ ih=>by
    apply Qgv
    have:=ih (zg x) trivial
    rw[show 8 - k=(8 - (k+1))+1 by omega,JI,<-this]
    simp only[Qgk,QAL hk,QQ1,dt (show(2:Int)≠0 by omega),Qu2 hk,zg]
    by_cases hx:Int.tmod x 2=1
    ·simp only[hx,decide_true,QQ1,if_true]
    ·simp only[hx,decide_false,QQ2,if_false])
  (fun x _=>by
    apply Qgv
    simp[Qgk,JI])
  x trivial
 simpa using e
theorem Qmi (b:List Int) (h:b.length<=maxLen):x7 w b=some (crc b):=by
 apply Qsi
 have e:=Xu b.length (fun i (x:Int)=>xf wl (x,b,((b.length:Nat):Int),(i:Int))) (fun i x=>(b.drop i).foldl Qh4 x) (fun _ _=>True)
  (fun i hi x _ ih=>by
    apply Qha
    simp only[Qgl,ilt hi,Qo hi,Qj hi,QQ1,QwI,QQ0,inc hi h,ih _ trivial]
    rw[QRa hi,List.foldl_cons,Qot])
  (fun x _=>by
    apply Qha
    simp only[Qgl,Qw,QQ2,QRl,List.foldl_nil])
  4294967295 trivial
 simp only[QQ6,QRg]at e
 simp only[Qjj,e,QQ0,crc]
theorem QjS (b:List Int) (h:b.length<=maxLen):xQ w b=some (crc b):=by
 apply Qsj
 have e:=Xu b.length (fun i (x:Int)=>qU wl (b,x,(i:Int))) (fun i x=>(b.drop i).foldl Qh4 x) (fun _ _=>True)
  (fun i hi x _ ih=>by
    apply Qg7
    simp only[Qf8,ilt hi,Qo hi,Qj hi,QQ1,Qu5,QQ0,inc hi h,ih _ trivial]
    rw[QRa hi,List.foldl_cons,Qot])
  (fun x _=>by
    apply Qg7
    simp only[Qf8,Qw,QQ2,QRl,List.foldl_nil])
  4294967295 trivial
 simp only[QQ6,QRg]at e
 simp only[QiF,e,QQ0,crc]
end Go.Proofs.YtiejfnbmficbmaaGreat.M
