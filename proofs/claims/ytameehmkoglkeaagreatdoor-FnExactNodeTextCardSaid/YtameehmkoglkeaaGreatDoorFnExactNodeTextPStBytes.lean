/- What the plain forms that FnExactNodeText reaches come to: PStBytes. No conditions but those that each theorem states. -/
import Derived.Test.YtameehmkoglkeaaGreatDoorFnExactNodeTextPState
set_option linter.all false
namespace Go.Proofs.YtameehmkoglkeaaGreatDoor.M
open Go Go.Eng Go.Proofs
set_option linter.unusedVariables false
def XV (x:Qj):List Int:=Qo x.1++(Qo x.2.1++(Qo x.2.2.1++(Qo x.2.2.2.1++(Qo x.2.2.2.2.1++Z1 x.2.2.2.2.2))))
def Yr (x:Qd):List Int:=Qo x.1++Qo x.2
def stB (s:Qi):List Int:=Qo (s.1.length:Nat)++(s.1.flatMap XV++(Qo (s.2.length:Nat)++s.2.flatMap Yr))
theorem yo (x:Qj):(XV x).length<=30+ByteArray.size x.2.2.2.2.2:=by
 have h0:=QJ x.1
 have h1:=QJ x.2.1
 have h2:=QJ x.2.2.1
 have h3:=QJ x.2.2.2.1
 have h4:=QJ x.2.2.2.2.1
 have h5:=Qfm x.2.2.2.2.2
 simp only[XV,QRj];omega
theorem Qdb (x:Qd):(Yr x).length<=10:=by
 have h0:=QJ x.1
 have h1:=QJ x.2
 simp only[Yr,QRj];omega
def smB (s:Qi):Prop:=s.1.length<=1000/\s.2.length<=1000/\∀x∈s.1,ByteArray.size x.2.2.2.2.2<=1000
theorem Qi1 (fl:List Qd):(p:Int)->(l:List Qj)->Q6 fl p l=true->∀x∈l,ByteArray.size x.2.2.2.2.2<=8
 |p,[],_=>by simp
 |p,x::l,h=>by
  simp only[Q6,QQ5]at h
  have h1:=h.1.1.1.2
  simp only[X4,QQ5,QRu]at h1
  intro y hy
  rcases QRk.1 hy with e|e
  ·rw[e];have:=h1.2;omega
  ·exact Qi1 fl x.1 l h.2 y e
theorem QcS {s:Qi}(h:QX s=true):smB s:=by
 have hl:=QaC h
 simp only[QX,QQ5]at h
 exact⟨by omega,by omega,fun x hx=>by have:=Qi1 _ _ _ h.2 x hx;omega⟩
theorem Jx {α:Type}(f:α->List Int) (n:Nat):(l:List α)->(∀x∈l,(f x).length<=n)->(l.flatMap f).length<=l.length*n
 | [],_=>by simp
 |x::l,h=>by
  have ih:=Jx f n l fun y hy=>h y (by simp[hy])
  have:=h x (by simp)
  simp only[QY28,QRj,QY0,QY17];omega
theorem Qme {s:Qi}(h:smB s):(stB s).length<=2000000:=by
 have h1:=Jx XV 1030 s.1 fun x hx=>by have:=yo x;have:=h.2.2 x hx;omega
 have h2:=Jx Yr 10 s.2 fun x _=>Qdb x
 have h3:=QJ (s.1.length:Nat)
 have h4:=QJ (s.2.length:Nat)
 have h5:s.1.length*1030<=1000*1030:=QY12 _ h.1
 have h6:s.2.length*10<=1000*10:=QY12 _ h.2.1
 simp only[stB,QRj];omega
theorem QjI (a:List Qj) (b:List Qd) (h:smB (a,b)) (o:List Int) (ho:o.length<=10):
 XC wl (a,((a.length:Nat):Int),0,a,b,o)=some (a,b,o++a.flatMap XV):=by
 have hl:a.length<=1000:=h.1
 have e:=Q1 a.length (fun i (o:List Int)=>XC wl (a,((a.length:Nat):Int),(i:Int),a,b,o)) (fun i o=>(a,b,o++(a.drop i).flatMap XV)) (fun i o=>o.length<=10+i*1030)
  (fun i hi o ho ih=>by
    apply JW
    have hb:=yo a[i]
    have hd:=h.2.2 a[i] (QRf hi)
    have ih1:=ih (o++XV a[i]) (by rw[QRj];omega)
    have ej: [o,Qo a[i].1,Qo a[i].2.1,Qo a[i].2.2.1,Qo a[i].2.2.2.1,Qo a[i].2.2.2.2.1,Z1 a[i].2.2.2.2.2].flatten=o++XV a[i]:=by simp[XV]
    have hj:=yk [o,Qo a[i].1,Qo a[i].2.1,Qo a[i].2.2.1,Qo a[i].2.2.2.1,Qo a[i].2.2.2.2.1,Z1 a[i].2.2.2.2.2] (by simp[maxLen]) (by rw[ej,QRj];omega)
    simp only[Va,ilt hi,Qn hi,Qk hi,inc hi (show a.length<=maxLen by simp[maxLen];omega),QQ1,JO,Qnl _ (show ByteArray.size a[i].2.2.2.2.2<=4294967296 by omega),QQ0,hj,ej,ih1]
    rw[QRa hi,QY28,QRc])
  (fun o _=>by
    apply JW
    simp[Va])
  o (by omega)
 simpa using e
theorem Qjp (b:List Qd) (hb:b.length<=1000) (o:List Int) (ho:o.length<=2000000):
 XE wl (b,((b.length:Nat):Int),0,o)=some (o++b.flatMap Yr):=by
 have e:=Q1 b.length (fun i (o:List Int)=>XE wl (b,((b.length:Nat):Int),(i:Int),o)) (fun i o=>o++(b.drop i).flatMap Yr) (fun i o=>o.length<=2000000+i*10)
  (fun i hi o ho ih=>by
    apply JV
    have hb:=Qdb b[i]
    have ih1:=ih (o++Yr b[i]) (by rw[QRj];omega)
    have ej: [o,Qo b[i].1,Qo b[i].2].flatten=o++Yr b[i]:=by simp[Yr]
    have hj:=yk [o,Qo b[i].1,Qo b[i].2] (by simp[maxLen]) (by rw[ej,QRj];omega)
    simp only[Vk,ilt hi,Qn hi,Qk hi,inc hi (show b.length<=maxLen by simp[maxLen];omega),QQ1,JO,QQ0,hj,ej,ih1]
    rw[QRa hi,QY28,QRc])
  (fun o _=>by
    apply JV
    simp[Vk])
  o (by omega)
 simpa using e
theorem Qjo (a:List Qj) (b:List Qd) (ha:a.length<=maxLen) (hb:b.length<=maxLen):K2 w (a,b)=some (bif QX (a,b)then stB (a,b)else []):=by
 apply QdV
 simp only[xM,Vz a b ha hb,QQ0]
 cases h:QX (a,b)
 ·simp
 ·have hs:=QcS h
  have hp:=QJ (a.length:Nat)
  have h1:=Jx XV 1030 a fun x hx=>by have:=yo x;have:=hs.2.2 x hx;omega
  have hal:a.length<=1000:=hs.1
  have hbl:b.length<=1000:=hs.2.1
  have h5:a.length*1030<=1000*1030:=QY12 _ hal
  have hp2:=QJ (b.length:Nat)
  have ej: [Qo ((a.length:Nat):Int)++a.flatMap XV,Qo ((b.length:Nat):Int)].flatten=Qo ((a.length:Nat):Int)++a.flatMap XV++Qo ((b.length:Nat):Int):=by simp
  have hj:=yk [Qo ((a.length:Nat):Int)++a.flatMap XV,Qo ((b.length:Nat):Int)] (by simp[maxLen]) (by rw[ej];simp only[QRj];omega)
  simp only[QQ3,QQ2,QQ1,JO,QQ0,QjI a b hs _ (show(Qo ((a.length:Nat):Int)).length<=10 by omega),hj,ej,Qjp b hbl _ (show(Qo ((a.length:Nat):Int)++a.flatMap XV++Qo ((b.length:Nat):Int)).length<=2000000 by simp only[QRj];omega)]
  simp only[stB,QRc]
theorem Qlv (i:Int) (a:List Qj) (b:List Qd) (o:List Int) (p q r s:Int) (t:ByteArray) (l:List Int) (hl:l.length<=5) (ho:o.length<=2000000):
 Za wl (i,0,a,b,o,p,q,r,s,t,l)=some (i,a,b,o++l.flatMap Qo,p,q,r,s,t):=by
 have e:=Q1 l.length (fun k (o:List Int)=>Za wl (i,(k:Int),a,b,o,p,q,r,s,t,l)) (fun k o=>(i,a,b,o++(l.drop k).flatMap Qo,p,q,r,s,t)) (fun k o=>o.length<=2000000+k*5)
  (fun k hk o ho ih=>by
    apply yz
    have hb:=QJ l[k]
    have ih1:=ih (o++Qo l[k]) (by rw[QRj];omega)
    simp only[qL,ilt hk,Qn hk,Qk hk,inc hk (show l.length<=maxLen by simp[maxLen];omega),QQ1,VH,QQ0,QN (show(o.length+(Qo l[k]).length)*1<=140737488351232 by omega),ih1]
    rw[QRa hk,QY28,QRc])
  (fun o _=>by
    apply yz
    simp[qL])
  o (by omega)
 simpa using e
theorem QkB (a:List Qj) (b:List Qd) (h:smB (a,b)) (o:List Int) (ho:o.length<=10):
 Ze wl (0,a,b,o)=some (a,b,o++a.flatMap XV):=by
 have hl:a.length<=1000:=h.1
 have e:=Q1 a.length (fun i (o:List Int)=>Ze wl ((i:Int),a,b,o)) (fun i o=>(a,b,o++(a.drop i).flatMap XV)) (fun i o=>o.length<=10+i*1030)
  (fun i hi o ho ih=>by
    apply yU
    have hb:=yo a[i]
    have hd:=h.2.2 a[i] (QRf hi)
    have ih1:=ih (o++XV a[i]) (by rw[QRj];omega)
    have ej:(o++[a[i].1,a[i].2.1,a[i].2.2.1,a[i].2.2.2.1,a[i].2.2.2.2.1].flatMap Qo)++Z1 a[i].2.2.2.2.2=o++XV a[i]:=by simp[XV]
    have hn:=Qlv (i:Int) a b o a[i].2.1 a[i].2.2.1 a[i].2.2.2.1 a[i].2.2.2.2.1 a[i].2.2.2.2.2 [a[i].1,a[i].2.1,a[i].2.2.1,a[i].2.2.2.1,a[i].2.2.2.2.1] (by simp) (by omega)
    have hlen:((o++[a[i].1,a[i].2.1,a[i].2.2.1,a[i].2.2.2.1,a[i].2.2.2.2.1].flatMap Qo).length+(Z1 a[i].2.2.2.2.2).length)*1<=140737488351232:=by
     have:=congrArg List.length ej
     simp only[QRj]at this⊢; omega
    simp only[qm,ilt hi,Qn hi,Qk hi,inc hi (show a.length<=maxLen by simp[maxLen];omega),QQ1,hn,Qlz _ (show ByteArray.size a[i].2.2.2.2.2<=4294967296 by omega),QQ0,QN hlen,ej,ih1]
    rw[QRa hi,QY28,QRc])
  (fun o _=>by
    apply yU
    simp[qm])
  o (by omega)
 simpa using e
theorem QkJ (a:List Qj) (b:List Qd) (hb:b.length<=1000) (o:List Int) (ho:o.length<=2000000):
 Zl wl (0,a,b,o)=some (o++b.flatMap Yr):=by
 have e:=Q1 b.length (fun i (o:List Int)=>Zl wl ((i:Int),a,b,o)) (fun i o=>o++(b.drop i).flatMap Yr) (fun i o=>o.length<=2000000+i*10)
  (fun i hi o ho ih=>by
    apply yV
    have hb:=Qdb b[i]
    have h1:=QJ b[i].1
    have h2:=QJ b[i].2
    have ih1:=ih (o++Yr b[i]) (by rw[QRj];omega)
    have ej:o++Qo b[i].1++Qo b[i].2=o++Yr b[i]:=by simp[Yr]
    simp only[xF,ilt hi,Qn hi,Qk hi,inc hi (show b.length<=maxLen by simp[maxLen];omega),QQ1,VH,QQ0,QN (show(o.length+(Qo b[i].1).length)*1<=140737488351232 by omega),QN (show((o++Qo b[i].1).length+(Qo b[i].2).length)*1<=140737488351232 by rw[QRj];omega),ej,ih1]
    rw[QRa hi,QY28,QRc])
  (fun o _=>by
    apply yV
    simp[xF])
  o (by omega)
 simpa using e
theorem Qog (a:List Qj) (b:List Qd) (hs:smB (a,b)):J5 w (a,b)=some (stB (a,b)):=by
 apply Qhv
 have hp:=QJ (a.length:Nat)
 have h1:=Jx XV 1030 a fun x hx=>by have:=yo x;have:=hs.2.2 x hx;omega
 have hal:a.length<=1000:=hs.1
 have hbl:b.length<=1000:=hs.2.1
 have h5:a.length*1030<=1000*1030:=QY12 _ hal
 have hp2:=QJ (b.length:Nat)
 have hlen:((Qo ((a.length:Nat):Int)++a.flatMap XV).length+(Qo ((b.length:Nat):Int)).length)*1<=140737488351232:=by simp only[QRj];omega
 simp only[QaE,VH,QQ0,QkB a b hs _ (show(Qo ((a.length:Nat):Int)).length<=10 by omega),QN hlen,QQ1,QkJ a b hbl _ (show(Qo ((a.length:Nat):Int)++a.flatMap XV++Qo ((b.length:Nat):Int)).length<=2000000 by simp only[QRj];omega)]
 simp only[stB,QRc]
def Z2 (s:Qi) (k:Int):Int:=bif QX s&&inR k 0 3 then Int.tmod (crc (stB (XX s [k]))) 1024 else 0
theorem Qm0 (a:List Qj) (b:List Qd) (k:Int) (ha:a.length<=maxLen) (hb:b.length<=maxLen):qu w (a,b,k)=some (Z2 (a,b) k):=by
 apply Qg5
 simp only[vP,Vz a b ha hb,Xl,QQ0,Z2]
 cases h:QX (a,b)
 ·simp
 ·cases h2:inR k 0 3
  ·simp
  ·have hs:=Qgd [k] h
   have hl:=QaC hs
   have hB:=Qme (QcS hs)
   simp only[QQ3,QQ2,QoW a b [k] (by simp[maxLen]) ha hb,h,QQ1,QQ0,Qjo (XX (a,b) [k]).1 (XX (a,b) [k]).2 (by simp only[maxLen];omega) (by simp only[maxLen];omega),Bool.and_self]
   simp only[show QX ((XX (a,b) [k]))=true from hs,QQ1,Qkz (stB ((XX (a,b) [k]))) (show(stB (XX (a,b) [k])).length<=maxLen by simp only[maxLen];omega),QQ0,dt (show(1024:Int)≠0 by omega)]
theorem QlJ (a:List Qj) (b:List Qd) (k:Int) (ha:a.length<=maxLen) (hb:b.length<=maxLen):xk w (a,b,k)=some (Z2 (a,b) k):=by
 apply QgE
 simp only[QaF,zz a b ha hb,XZ,QQ0,Z2]
 cases h:QX (a,b)
 ·simp
 ·cases h2:inR k 0 3
  ·simp
  ·have hs:=Qgd [k] h
   have hl:=QaC h
   simp only at hl
   have hB:=Qme (QcS hs)
   simp only[QQ3,QQ2,QoN a b [k] (by simp[maxLen]) (by omega) (by omega),QQ0,Qog (XX (a,b) [k]).1 (XX (a,b) [k]).2 (QcS hs),QQ1,Bool.and_self,QiJ (stB ((XX (a,b) [k]))) (show(stB (XX (a,b) [k])).length<=maxLen by simp only[maxLen];omega),dt (show(1024:Int)≠0 by omega)]
def rootOf (l:List Int):Int:=Int.tmod (crc (l.flatMap Qo)) 1024
theorem Qoe (l:List Int) (hl:l.length<=4294967296):zu w l=some (rootOf l):=by
 apply QiH
 have e:=Q1 l.length (fun i (o:List Int)=>YT wl (l,((l.length:Nat):Int),(i:Int),o)) (fun i o=>o++(l.drop i).flatMap Qo) (fun i o=>o.length<=i*5)
  (fun i hi o ho ih=>by
    apply jK
    have hb:=QJ l[i]
    have ih1:=ih (o++Qo l[i]) (by rw[QRj];omega)
    have ej: [o,Qo l[i]].flatten=o++Qo l[i]:=by simp
    have hj:=yk [o,Qo l[i]] (by simp[maxLen]) (by rw[ej,QRj];omega)
    simp only[xV,ilt hi,Qn hi,Qk hi,inc hi (show l.length<=maxLen by simp[maxLen];omega),QQ1,JO,QQ0,hj,ej,ih1]
    rw[QRa hi,QY28,QRc])
  (fun o _=>by
    apply jK
    simp[xV])
  [] (by simp)
 simp only[QQ6,QRg,QRe]at e
 have hb:=Jx Qo 5 l fun x _=>QJ x
 simp only[Qbc,e,QQ0,Qkz (l.flatMap Qo) (by simp only[maxLen];omega),dt (show(1024:Int)≠0 by omega),QQ1,rootOf]
theorem QoH (l:List Int) (hl:l.length<=4294967296):zT w l=some (rootOf l):=by
 apply QhI
 have e:=Q1 l.length (fun i (o:List Int)=>YV wl (l,(i:Int),o)) (fun i o=>o++(l.drop i).flatMap Qo) (fun i o=>o.length<=i*5)
  (fun i hi o ho ih=>by
    apply jx
    have hb:=QJ l[i]
    have ih1:=ih (o++Qo l[i]) (by rw[QRj];omega)
    simp only[zm,ilt hi,Qn hi,Qk hi,inc hi (show l.length<=maxLen by simp[maxLen];omega),QQ1,VH,QQ0,QN (show(o.length+(Qo l[i]).length)*1<=140737488351232 by omega),ih1]
    rw[QRa hi,QY28,QRc])
  (fun o _=>by
    apply jx
    simp[zm])
  [] (by simp)
 simp only[QQ6,QRg,QRe]at e
 have hb:=Jx Qo 5 l fun x _=>QJ x
 simp only[Qbp,e,QQ0,QiJ (l.flatMap Qo) (by simp only[maxLen];omega),dt (show(1024:Int)≠0 by omega),QQ1,rootOf]
def leaves (s:Qi):List Int:=[Z2 s 0,Z2 s 1,Z2 s 2,Z2 s 3]
def Z7 (s:Qi):ZY:=bif QX s then(leaves s,rootOf (leaves s))else([],0)
theorem Qri {i:Nat}(h:i<4):decide ((i:Int)<4)=true:=by simp;omega
theorem Qn8 (a:List Qj) (b:List Qd) (ha:a.length<=maxLen) (hb:b.length<=maxLen):zY w (a,b)=some (Z7 (a,b)):=by
 apply QiD
 have e:=Q1 4 (fun i (o:List Int)=>ZE wl ((i:Int),a,b,o,0)) (fun i o=>(o++(List.range' i (4 - i)).flatMap fun i=>[Z2 (a,b) (i:Nat)],(0:Int))) (fun i o=>o.length<=i)
  (fun i hi o ho ih=>by
    apply js
    have ih1:=ih (o++[Z2 (a,b) (i:Nat)]) (by simp;omega)
    rw[Qg4 hi,<-QRc,<-ih1]
    simp only[xW,Qri hi,QQ1,Qm0 a b _ ha hb,QQ0,QY30,QN (show(o.length+1)*8<=140737488351232 by omega),QnL hi])
  (fun o _=>by
    apply js
    simp[xW])
  [] (by simp)
 have e:ZE wl (0,a,b,[],0)=some (leaves (a,b),0):=e
 simp only[Qbb,Vz a b ha hb,QQ0,Z7]
 cases QX (a,b)
 ·simp
 ·simp only[QQ3,QQ2,QQ1,e,QQ0,Qoe (leaves (a,b)) (by simp[leaves])]
theorem Qnn (a:List Qj) (b:List Qd) (ha:a.length<=maxLen) (hb:b.length<=maxLen):zG w (a,b)=some (Z7 (a,b)):=by
 apply QiI
 have e:=Q1 4 (fun i (o:List Int)=>ZF wl ((i:Int),a,b,o,0)) (fun i o=>(o++(List.range' i (4 - i)).flatMap fun i=>[Z2 (a,b) (i:Nat)],(0:Int))) (fun i o=>o.length<=i)
  (fun i hi o ho ih=>by
    apply jv
    have ih1:=ih (o++[Z2 (a,b) (i:Nat)]) (by simp;omega)
    rw[Qg4 hi,<-QRc,<-ih1]
    simp only[x0,Qri hi,QQ1,QlJ a b _ ha hb,QQ0,QY30,QN (show(o.length+1)*8<=140737488351232 by omega),QnL hi])
  (fun o _=>by
    apply jv
    simp[x0])
  [] (by simp)
 have e:ZF wl (0,a,b,[],0)=some (leaves (a,b),0):=e
 simp only[QbI,zz a b ha hb,QQ0,Z7]
 cases QX (a,b)
 ·simp
 ·simp only[QQ3,QQ2,QQ1,e,QQ0,QoH (leaves (a,b)) (by simp[leaves])]
def VE (g:xT):Bool:=inR g.1 1 8&&decide (((g.2.2.length:Nat):Int)<=g.1)&&inR g.2.1 0 100000&&decide (g.2.1+((g.2.2.length:Nat):Int)<=100000)&&g.2.2.all QX
theorem YR {α:Type}{R:Type}(p:α->Bool) (l:List α) (x y:R) {i:Nat}(hi:i<l.length):(if(l.drop i).all p then x else y)=(bif p l[i]then(if(l.drop (i+1)).all p then x else y)else y):=by
 rw[QRa hi,List.all_cons]
 cases p l[i]<;>simp
theorem QiF {α:Type}{R:Type}(p:α->Bool) (l:List α) (x y:R):(if(l.drop l.length).all p then x else y)=x:=by simp
theorem QkM (a b:Int) (l:List Qi) (hl:l.length<=maxLen) (hs:∀s∈l,s.1.length<=maxLen/\s.2.length<=maxLen):qc w (a,b,l)=some (VE (a,b,l)):=by
 apply Qjn
 have e:=Q4 l.length (fun i=>Kj wl (l,((l.length:Nat):Int),(i:Int),a,b,l)) (fun i=>if(l.drop i).all QX then .inr (a,b,l)else .inl false)
  (fun i hi ih=>by
    apply v8
    have hx:=hs _ (QRf hi)
    rw[YR QX l _ _ hi]
    simp only[jk,ilt hi,Qn hi,Qk hi,inc hi hl,QQ1,Vz _ _ hx.1 hx.2,QQ0,ih]
    cases QX l[i]<;>simp)
  (by
    apply v8
    simp[jk])
 simp only[QQ6,QRg]at e
 simp only[Qcm,e,QQ0,Xl,VE]
 cases l.all QX
 ·simp[Qr]
 ·simp only[if_true,Qr,QY9,QRn]
  cases h1:inR a 1 8
  ·simp
  ·by_cases h2:((l.length:Nat):Int)<=a
   ·cases h3:inR b 0 100000
    ·simp
    ·simp[inR]at h1 h3
     rw[w64 (by omega) (by omega)]
     simp[h2]
   ·simp[h2]
theorem QiR (a b:Int) (l:List Qi) (hl:l.length<=maxLen) (hs:∀s∈l,s.1.length<=maxLen/\s.2.length<=maxLen):qE w (a,b,l)=some (VE (a,b,l)):=by
 apply QjF
 have e:=Q4 l.length (fun i=>Kr wl ((i:Int),a,b,l)) (fun i=>if(l.drop i).all QX then .inr ()else .inl false)
  (fun i hi ih=>by
    apply v7
    have hx:=hs _ (QRf hi)
    rw[YR QX l _ _ hi]
    simp only[jo,ilt hi,Qn hi,Qk hi,inc hi hl,QQ1,zz _ _ hx.1 hx.2,QQ0,ih]
    cases QX l[i]<;>simp)
  (by
    apply v7
    simp[jo])
 simp only[QQ6,QRg]at e
 simp only[Qcb,e,QQ0,XZ,VE]
 cases h1:inR a 1 8
 ·simp
 ·by_cases h2:((l.length:Nat):Int)<=a
  ·cases h3:inR b 0 100000
   ·simp[h2]
   ·simp[inR]at h1 h3
    rw[w64 (by omega) (by omega)]
    by_cases h4:b+((l.length:Nat):Int)<=100000
    ·simp only[QQ3,QQ2,df (show¬a<((l.length:Nat):Int) by omega),df (show¬100000<b+((l.length:Nat):Int) by omega),dt h2,dt h4,QRd,QRn]
     cases l.all QX<;>simp[Qr]
    ·simp only[QQ3,QQ2,df (show¬a<((l.length:Nat):Int) by omega),dt (show 100000<b+((l.length:Nat):Int) by omega),df h4,QQ1,QY16,QRm]
  ·simp only[QQ3,QQ2,dt (show a<((l.length:Nat):Int) by omega),QQ1,df h2,QY16,QRm]
def Xj (g:xT):Int:=bif VE g then g.2.1+((g.2.2.length:Nat):Int)else 0
theorem QgW {g:xT}(h:VE g=true):g.2.2.length<=8/\0<=g.2.1/\g.2.1<=100000/\g.2.1+((g.2.2.length:Nat):Int)<=100000:=by
 simp[VE,inR]at h;omega
theorem Qot (a b:Int) (l:List Qi) (hl:l.length<=maxLen) (hs:∀s∈l,s.1.length<=maxLen/\s.2.length<=maxLen):zV w (a,b,l)=some (Xj (a,b,l)):=by
 apply Qis
 simp only[Qbg,QkM a b l hl hs,QQ0,Xj]
 cases h:VE (a,b,l)
 ·simp
 ·have:=QgW h
  simp only at this
  rw[w64 (by omega) (by omega)];simp
theorem Qhf (a b:Int) (l:List Qi) (hl:l.length<=maxLen) (hs:∀s∈l,s.1.length<=maxLen/\s.2.length<=maxLen):Jg w (a,b,l)=some (Xj (a,b,l)):=by
 apply Qiz
 simp only[QaY,QiR a b l hl hs,QQ0,Xj]
 cases h:VE (a,b,l)
 ·simp
 ·have:=QgW h
  simp only at this
  rw[w64 (by omega) (by omega)];simp
def Zk (v:List Int) (n:Int):Bool:=inR n 1 5&&decide (((v.length:Nat):Int)=n)&&v.all fun x=>inR x 0 100000
theorem QkQ (v:List Int) (n:Int) (hv:v.length<=maxLen):xJ w (v,n)=some (Zk v n):=by
 apply Qjs
 have e:=Q4 v.length (fun i=>Kq wl (v,n,v,((v.length:Nat):Int),(i:Int))) (fun i=>if(v.drop i).all (fun x=>inR x 0 100000)then .inr (v,n)else .inl false)
  (fun i hi ih=>by
    apply vE
    rw[YR (fun x=>inR x 0 100000) v _ _ hi]
    simp only[jd,ilt hi,Qn hi,Qk hi,inc hi hv,QQ1,Xl,QQ0,ih]
    cases inR v[i] 0 100000<;>simp)
  (by
    apply vE
    simp[jd])
 simp only[QQ6,QRg]at e
 simp only[QcD,e,QQ0,Xl,Zk]
 cases v.all fun x=>inR x 0 100000
 ·simp[Qr]
 ·simp only[if_true,Qr,QY9,QRn]
  cases inR n 1 5<;>simp
theorem Qjj (v:List Int) (n:Int) (hv:v.length<=maxLen):qH w (v,n)=some (Zk v n):=by
 apply Qjx
 by_cases h2:((v.length:Nat):Int)=n
 ·subst h2
  have e:=Q4 v.length (fun i=>Kl wl (v,((v.length:Nat):Int),(i:Int))) (fun i=>if(v.drop i).all (fun x=>inR x 0 100000)then .inr ()else .inl false)
   (fun i hi ih=>by
     apply Qas
     rw[YR (fun x=>inR x 0 100000) v _ _ hi]
     simp only[jl,ilt hi,Qn hi,Qk hi,inc hi hv,QQ1,XZ,QQ0,ih]
     cases inR v[i] 0 100000<;>simp)
   (by
     apply Qas
     simp[jl])
  simp only[QQ6,QRg]at e
  simp only[zb,e,QQ0,XZ,Zk]
  cases inR ((v.length:Nat):Int) 1 5
  ·simp
  ·cases v.all fun x=>inR x 0 100000<;>simp[Qr]
 ·simp only[zb,XZ,QQ0,Zk,df h2]
  cases inR n 1 5<;>simp
def jY (r:List Int):Bool:=(r.all fun x=>inR x 0 1000)&&decide (((r.length:Nat):Int)=5)
def VD (t:List (List Int)) (n:Int):Bool:=inR n 1 5&&decide (((t.length:Nat):Int)=n)&&t.all jY
theorem QmT (t:List (List Int)) (n:Int) (ht:t.length<=maxLen) (hr:∀r∈t,r.length<=maxLen):J1 w (t,n)=some (VD t n):=by
 apply Qhl
 have inner:∀(i:Int) (r:List Int),r.length<=maxLen->Zm wl (t,n,r,t,((t.length:Nat):Int),i,r,((r.length:Nat):Int),0)=some (if r.all (fun x=>inR x 0 1000)then .inr (t,n,r,t,((t.length:Nat):Int),i)else .inl false):=by
  intro i r hr
  have e:=Q4 r.length (fun k=>Zm wl (t,n,r,t,((t.length:Nat):Int),i,r,((r.length:Nat):Int),(k:Int))) (fun k=>if(r.drop k).all (fun x=>inR x 0 1000)then .inr (t,n,r,t,((t.length:Nat):Int),i)else .inl false)
   (fun k hk ih=>by
     apply yn
     rw[YR (fun x=>inR x 0 1000) r _ _ hk]
     simp only[qF,ilt hk,Qn hk,Qk hk,inc hk hr,QQ1,Xl,QQ0,ih]
     cases inR r[k] 0 1000<;>simp)
   (by
     apply yn
     simp[qF])
  simpa using e
 have e:=Q4 t.length (fun i=>Yl wl (t,n,t,((t.length:Nat):Int),(i:Int))) (fun i=>if(t.drop i).all jY then .inr (t,n)else .inl false)
  (fun i hi ih=>by
    apply yx
    rw[YR jY t _ _ hi]
    have hx:=hr _ (QRf hi)
    simp only[xq,ilt hi,Qn hi,Qk hi,QQ1,inner _ _ hx,QQ0,jY]
    cases t[i].all fun x=>inR x 0 1000
    ·simp[Qr]
    ·simp only[if_true,Qr,QY9,QRd,inc hi ht,ih]
     cases decide (((t[i].length:Nat):Int)=5)<;>simp)
  (by
    apply yx
    simp[xq])
 simp only[QQ6,QRg]at e
 simp only[Qap,e,QQ0,Xl,VD]
 cases t.all jY
 ·simp[Qr]
 ·simp only[if_true,Qr,QY9,QRn]
  cases inR n 1 5<;>simp
theorem QlW (t:List (List Int)) (n:Int) (ht:t.length<=maxLen) (hr:∀r∈t,r.length<=maxLen):J2 w (t,n)=some (VD t n):=by
 apply Qhg
 by_cases h2:((t.length:Nat):Int)=n
 ·subst h2
  have inner:∀(i:Nat) (hi:i<t.length),X8 wl (t,((t.length:Nat):Int),(i:Int),0)=some (if t[i].all (fun x=>inR x 0 1000)then .inr (t,((t.length:Nat):Int),(i:Int))else .inl false):=by
   intro i hi
   have hx:=hr _ (QRf hi)
   have e:=Q4 t[i].length (fun k=>X8 wl (t,((t.length:Nat):Int),(i:Int),(k:Int))) (fun k=>if(t[i].drop k).all (fun x=>inR x 0 1000)then .inr (t,((t.length:Nat):Int),(i:Int))else .inl false)
    (fun k hk ih=>by
      apply yc
      rw[YR (fun x=>inR x 0 1000) t[i] _ _ hk]
      simp only[qi,Qn hi,Qk hi,ilt hk,Qn hk,Qk hk,inc hk hx,QQ1,XZ,QQ0,ih]
      cases inR t[i][k] 0 1000<;>simp)
    (by
      apply yc
      simp only[qi,Qn hi,Qk hi,Qy,QQ1,QQ2,QiF])
   simpa using e
  have e:=Q4 t.length (fun i=>Yp wl (t,((t.length:Nat):Int),(i:Int))) (fun i=>if(t.drop i).all jY then .inr ()else .inl false)
   (fun i hi ih=>by
     apply yW
     rw[YR jY t _ _ hi]
     simp only[qO,ilt hi,Qn hi,Qk hi,QQ1,inner i hi,QQ0,jY]
     cases h5:decide (((t[i].length:Nat):Int)=5)
     ·simp
     ·cases t[i].all fun x=>inR x 0 1000
      ·simp[Qr]
      ·simp only[if_true,Qr,QY9,QRd,QQ3,QQ2,QQ1,inc hi ht,ih])
   (by
     apply yW
     simp[qO])
  simp only[QQ6,QRg]at e
  simp only[JJ,e,QQ0,XZ,VD]
  cases inR ((t.length:Nat):Int) 1 5
  ·simp
  ·cases t.all jY<;>simp[Qr]
 ·simp only[JJ,XZ,QQ0,VD,df h2]
  cases inR n 1 5<;>simp
def Qao:Int->List Int->Int
 |m,[]=>m
 |m,x::l=>Qao (mxI m x) l
theorem Qmc (b:Int):(m:Int)->(l:List Int)->(decide (b<Qao m l)= !(decide (m<=b)&&l.all fun x=>decide (x<=b)))
 |m,[]=>by
  by_cases h:m<=b
  ·rw[Qao,dt h,df (show¬b<m by omega)];simp
  ·rw[Qao,df h,dt (show b<m by omega)];simp
 |m,x::l=>by
  rw[Qao,Qmc b (mxI m x) l,List.all_cons]
  have:decide (mxI m x<=b)=(decide (m<=b)&&decide (x<=b)):=by
   unfold mxI
   split
   ·by_cases h:x<=b
    ·simp[h];omega
    ·simp[h]
   ·by_cases h:m<=b
    ·simp[h];omega
    ·simp[h]
  rw[this,Bool.and_assoc]
theorem QrA (a:Int) (l:List Int) (h:(a::l).length<=maxLen):Zs w (a::l)=some (Qao a l):=by
 apply Qdq
 have main:∀n i (m:Int),1<=i->i+n=(a::l).length->Xp wl (a::l,m,(i:Int))=some (Qao m ((a::l).drop i)):=by
  intro n
  induction n with
  |zero=>
   intro i m h1 hi
   apply VT
   have:i=(a::l).length:=by omega
   rw[this]
   simp only[Kd,Qy,QQ2,QRl,Qao]
  |succ n ih=>
   intro i m h1 hi
   have hi':i<(a::l).length:=by omega
   apply VT
   simp only[Kd,ilt hi',Qn hi',Qk hi',inc hi' h,QQ1,ih (i+1) _ (by omega) (by omega)]
   rw[QRa hi',Qao]
 have e:=main l.length 1 a (by omega) (by simp;omega)
 simp only[List.drop_succ_cons,QRg]at e
 have h0:0<(a::l).length:=by simp
 have e0:inb 0 (a::l).length=true:=Qn h0
 have e1:rd1 (0:Int) (a::l) 0=a:=rfl
 have e:Xp wl (a::l,a,1)=some (Qao a l):=e
 simp only[JY,df (show¬(((a::l).length:Nat):Int)<1 by simp;omega),QQ2,e0,QQ1,e1,e,QQ0]
def Kk (clock:Int) (r:QL):Bool:=inR r.1 0 1000&&inR r.2.1 0 100000&&inR r.2.2 0 clock
theorem QmG (a0 a1:Int) (a2:List Qj) (a3:List Qd) (a4:List Int) (a5 a6 a7:Int) (a8:List Qi) (a9 a10:List Int) (a11:List (List Int)) (a12 a13:Int) (a14:List QH) (a15 a16 a17:Int) (a18:List QL) (h:a18.length<=maxLen):qe w (a0,a1,a2,a3,a4,a5,a6,a7,a8,a9,a10,a11,a12,a13,a14,a15,a16,a17,a18)=some ((a18.all (Kk a17))&&decide (((a18.length:Nat):Int)=5)):=by
 apply QgU
 have e:=Q4 a18.length (fun i=>Yf wl (a18,((a18.length:Nat):Int),(i:Int),a0,a1,a2,a3,a4,a5,a6,a7,a8,a9,a10,a11,a12,a13,a14,a15,a16,a17,a18)) (fun i=>if(a18.drop i).all (Kk a17)then .inr (a0,a1,a2,a3,a4,a5,a6,a7,a8,a9,a10,a11,a12,a13,a14,a15,a16,a17,a18)else .inl false)
  (fun i hi ih=>by
    apply yO
    rw[YR (Kk a17) a18 _ _ hi]
    simp only[J9,ilt hi,Qn hi,Qk hi,inc hi h,QQ1,Xl,QQ0,ih,Kk]
    cases inR a18[i].1 0 1000<;>cases inR a18[i].2.1 0 100000<;>cases inR a18[i].2.2 0 a17<;>simp)
  (by
    apply yO
    simp[J9])
 simp only[QQ6,QRg]at e
 simp only[vt,e,QQ0]
 cases a18.all (Kk a17)
 ·simp[Qr]
 ·simp only[if_true,Qr,QY9,QRd]
def VP (x y:QH):Bool:=decide (y.1=x.1)&&(y.2.2.1==x.2.2.1)
def qj (p:Int) (b:Bool):Nat->List QH->Int⊕Unit
 |_,[]=> .inr ()
 |i,y::l=>bif decide (y.1=p)&&(y.2.2.1==b)then .inl (i:Nat)else qj p b (i+1) l
def Qbo:Int⊕Unit->Int
 | .inl i=>i
 | .inr _=> -1
theorem QmH (z:Int⊕Unit):Qr z (fun u=>some u) (fun _=>some (-1))=some (Qbo z):=by cases z<;>rfl
theorem Qra (a0 a1:Int) (a2:List Qj) (a3:List Qd) (a4:List Int) (a5 a6 a7:Int) (a8:List Qi) (a9 a10:List Int) (a11:List (List Int)) (a12 a13:Int) (a14:List QH) (a15 a16 a17:Int) (a18:List QL) (p:Int) (b:Bool) (h:a14.length<=maxLen):Qa9 w (a0,a1,a2,a3,a4,a5,a6,a7,a8,a9,a10,a11,a12,a13,a14,a15,a16,a17,a18,p,b)=some (Qbo (qj p b 0 a14)):=by
 apply QkV
 have e:=Q4 a14.length (fun i=>Y0 wl (p,b,a14,((a14.length:Nat):Int),(i:Int))) (fun i=>qj p b i (a14.drop i))
  (fun i hi ih=>by
    apply QbL
    simp only[vR,ilt hi,Qn hi,Qk hi,inc hi h,QQ1,ih]
    rw[QRa hi,qj]
    cases decide (a14[i].1=p)<;>cases(a14[i].2.2.1==b)<;>simp)
  (by
    apply QbL
    simp[vR,qj])
 simp only[QQ6,QRg]at e
 simp only[QdG,e,QQ0,QmH]
theorem Ql7 (x:QH):(off:Nat)->(l:List QH)->(i:Nat)->(h:i<l.length)->l[i]=x->((off:Int)<=Qbo (qj x.1 x.2.2.1 off l)/\Qbo (qj x.1 x.2.2.1 off l)<=off+i/\(Qbo (qj x.1 x.2.2.1 off l)=off+i↔(l.take i).any (VP x)=false))
 |off,y::l,0,_,hx=>by
  have:y=x:=hx
  subst this
  simp[qj,Qbo]
 |off,y::l,i+1,h,hx=>by
  have ih:=Ql7 x (off+1) l i (by simpa using h) (by simpa using hx)
  rw[qj]
  have hk:(decide (y.1=x.1)&&(y.2.2.1==x.2.2.1))=VP x y:=rfl
  rw[hk,List.take_succ_cons,List.any_cons]
  cases VP x y
  ·simp only[QQ2,Bool.false_or]
   refine⟨by omega,by omega, ?_⟩
   rw[<-ih.2.2];omega
  ·simp only[QQ1,Bool.true_or,Qbo]
   refine⟨by omega,by omega, ?_⟩
   constructor
   ·intro h;omega
   ·intro h;cases h
def Qd5 (id n p:Int):Bool:=inR p 0 (n - 1)&& !decide (p=id)
theorem Qn6 (a0 a1:Int) (a2:List Qj) (a3:List Qd) (a4:List Int) (a5 a6 a7:Int) (a8:List Qi) (a9 a10:List Int) (a11:List (List Int)) (a12 a13:Int) (a14:List QH) (a15 a16 a17:Int) (a18:List QL) (p:Int) (hn:inR a1 1 5=true):zQ w (a0,a1,a2,a3,a4,a5,a6,a7,a8,a9,a10,a11,a12,a13,a14,a15,a16,a17,a18,p)=some (Qd5 a0 a1 p):=by
 apply QiN
 simp[inR]at hn
 simp only[Qbi,Qd5]
 rw[w64 (by omega) (by omega),Xl,QQ0]
 cases inR p 0 (a1 - 1)<;>simp
def QcI (id n wait:Int) (x:QH):Bool:=Qd5 id n x.1&&inR x.2.1 0 100000&&inR x.2.2.2 0 wait
def ZP (id n wait:Int):List QH->List QH->Bool
 |_,[]=>true
 |pre,x::l=>QcI id n wait x&& !pre.any (VP x)&&ZP id n wait (pre++[x]) l
theorem Qhn {R:Type}(id n wait:Int) (l:List QH) (x y:R) {i:Nat}(hi:i<l.length):
 (if ZP id n wait (l.take i) (l.drop i)then x else y)=(bif QcI id n wait l[i]&& !(l.take i).any (VP l[i])then(if ZP id n wait (l.take (i+1)) (l.drop (i+1))then x else y)else y):=by
 rw[QRa hi,ZP]
 have:l.take i++[l[i]]=l.take (i+1):=by rw[List.take_add_one];simp[hi]
 rw[this]
 cases QcI id n wait l[i]&& !(l.take i).any (VP l[i])<;>simp
theorem QnX (a0 a1:Int) (a2:List Qj) (a3:List Qd) (a4:List Int) (a5 a6 a7:Int) (a8:List Qi) (a9 a10:List Int) (a11:List (List Int)) (a12 a13:Int) (a14:List QH) (a15 a16 a17:Int) (a18:List QL) (hn:inR a1 1 5=true) (h:a14.length<=maxLen):zJ w (a0,a1,a2,a3,a4,a5,a6,a7,a8,a9,a10,a11,a12,a13,a14,a15,a16,a17,a18)=some (ZP a0 a1 a15 [] a14&&(inR a13 1 4&&decide (((a14.length:Nat):Int)<=a13))):=by
 apply QiK
 have e:=Q4 a14.length (fun i=>YU wl (a14,((a14.length:Nat):Int),(i:Int),a0,a1,a2,a3,a4,a5,a6,a7,a8,a9,a10,a11,a12,a13,a14,a15,a16,a17,a18)) (fun i=>if ZP a0 a1 a15 (a14.take i) (a14.drop i)then .inr (a0,a1,a2,a3,a4,a5,a6,a7,a8,a9,a10,a11,a12,a13,a14,a15,a16,a17,a18)else .inl false)
  (fun i hi ih=>by
    apply jr
    rw[Qhn a0 a1 a15 a14 _ _ hi]
    have hs:=Ql7 a14[i] 0 a14 i hi rfl
    have hs':decide (Qbo (qj a14[i].1 a14[i].2.2.1 0 a14)=(i:Int))= !(a14.take i).any (VP a14[i]):=by
     cases hb:(a14.take i).any (VP a14[i])
     ·rw[dt (by have:=hs.2.2.2 hb;omega)];rfl
     ·rw[df (fun h=>by have:=hs.2.2.1 (by omega);rw[hb]at this;cases this)];rfl
    simp only[x7,ilt hi,Qn hi,Qk hi,inc hi h,QQ1,Qn6 a0 a1 a2 a3 a4 a5 a6 a7 a8 a9 a10 a11 a12 a13 a14 a15 a16 a17 a18 _ hn,Qra a0 a1 a2 a3 a4 a5 a6 a7 a8 a9 a10 a11 a12 a13 a14 a15 a16 a17 a18 _ _ h,Xl,QQ0,ih,QcI,hs']
    cases Qd5 a0 a1 a14[i].1<;>cases inR a14[i].2.1 0 100000<;>cases inR a14[i].2.2.2 0 a15<;>cases(a14.take i).any (VP a14[i])<;>simp)
  (by
    apply jr
    simp[x7,ZP])
 simp only[QQ6,QRg,List.take_zero]at e
 simp only[Qbn,e,QQ0]
 cases ZP a0 a1 a15 [] a14
 ·simp[Qr]
 ·simp only[if_true,Qr,QY9,QRd,Xl,QQ0]
  cases inR a13 1 4<;>simp
theorem Qnw (a0 a1:Int) (a2:List Qj) (a3:List Qd) (a4:List Int) (a5 a6 a7:Int) (a8:List Qi) (a9 a10:List Int) (a11:List (List Int)) (a12 a13:Int) (a14:List QH) (a15 a16 a17:Int) (a18:List QL) (hn:inR a1 1 5=true) (h:a14.length<=maxLen):qC w (a0,a1,a2,a3,a4,a5,a6,a7,a8,a9,a10,a11,a12,a13,a14,a15,a16,a17,a18)=some (decide (((a14.length:Nat):Int)<=a13)&&ZP a0 a1 a15 [] a14):=by
 apply Qgt
 have hn':=hn
 simp[inR]at hn'
 have inner:∀(i:Nat) (hi:i<a14.length) (b4:Bool) (x5:Int) (b6 b7:Bool) (x8 x9:Int) (b10 b11:Bool) (q:QH) (x2 x3:Int),
  XJ wl ((i:Int),0,x2,x3,b4,x5,b6,b7,x8,x9,b10,b11,a0,a1,a2,a3,a4,a5,a6,a7,a8,a9,a10,a11,a12,a13,a14,a15,a16,a17,a18,q)=some (bif (a14.take i).any (VP q)then .inl false else .inr ((i:Int),x2,x3,b4,x5,b6,b7,x8,x9,b10,b11,a0,a1,a2,a3,a4,a5,a6,a7,a8,a9,a10,a11,a12,a13,a14,a15,a16,a17,a18,q)):=by
  intro i hi b4 x5 b6 b7 x8 x9 b10 b11 q x2 x3
  have e:=Q4 i (fun k=>XJ wl ((i:Int),(k:Int),x2,x3,b4,x5,b6,b7,x8,x9,b10,b11,a0,a1,a2,a3,a4,a5,a6,a7,a8,a9,a10,a11,a12,a13,a14,a15,a16,a17,a18,q)) (fun k=>bif ((a14.take i).drop k).any (VP q)then .inl false else .inr ((i:Int),x2,x3,b4,x5,b6,b7,x8,x9,b10,b11,a0,a1,a2,a3,a4,a5,a6,a7,a8,a9,a10,a11,a12,a13,a14,a15,a16,a17,a18,q))
   (fun k hk ih=>by
     apply yr
     have hk':k<a14.length:=by omega
     have hk2:k<(a14.take i).length:=by simp;omega
     rw[QRa hk2,List.any_cons,List.getElem_take]
     simp only[xG,ilt hk,Qn hk',Qk hk',inc hk (show i<=maxLen by omega),QQ1,ih,VP]
     cases decide (a14[k].1=q.1)<;>cases(a14[k].2.2.1==q.2.2.1)<;>simp)
   (by
     apply yr
     simp only[xG,Qy,QQ2]
     rw[List.drop_of_length_le (by simp;omega)];simp)
  simpa using e
 have e:=Q4 a14.length (fun i=>Yo wl ((i:Int),a0,a1,a2,a3,a4,a5,a6,a7,a8,a9,a10,a11,a12,a13,a14,a15,a16,a17,a18)) (fun i=>if ZP a0 a1 a15 (a14.take i) (a14.drop i)then .inr ()else .inl false)
  (fun i hi ih=>by
    apply yS
    rw[Qhn a0 a1 a15 a14 _ _ hi]
    simp only[xB,ilt hi,Qn hi,Qk hi,QQ1,XZ,QQ0,QcI,Qd5]
    rw[w64 (n:=a1 - 1) (by omega) (by omega)]
    cases h1:inR a14[i].1 0 (a1 - 1)
    ·simp
    ·cases h2:decide (a14[i].1=a0)
     ·cases h3:inR a14[i].2.1 0 100000
      ·simp
      ·cases h4:inR a14[i].2.2.2 0 a15
       ·simp
       ·simp only[QQ3,QQ2,QQ4,QRn,QRd,inner i hi,QQ0]
        cases(a14.take i).any (VP a14[i])
        ·simp only[QQ2,Qr,QY9,inc hi h,ih,QQ4,QQ1]
        ·simp[Qr]
     ·simp)
  (by
    apply yS
    simp[xB,ZP])
 simp only[QQ6,QRg,List.take_zero]at e
 simp only[QaA,e,QQ0]
 by_cases hl:((a14.length:Nat):Int)<=a13
 ·simp only[df (show¬a13<((a14.length:Nat):Int) by omega),QQ2,dt hl,QRd]
  cases ZP a0 a1 a15 [] a14<;>simp[Qr]
 ·simp only[dt (show a13<((a14.length:Nat):Int) by omega),QQ1,df hl,QRm]
def QcN (a0 a1:Int) (a2:List Qj) (a3:List Qd) (a4:List Int) (a5 a6 a7:Int) (a8:List Qi) (a9 a10:List Int) (a11:List (List Int)) (a12 a13:Int) (a14:List QH) (a15 a16 a17:Int) (a18:List QL):Bool:=
 inR a1 1 5&&inR a0 0 (a1 - 1)&&QX (a2,a3)&&decide ((a4,a5)=Z7 (a2,a3))&&VE (a6,a7,a8)&&Zk a9 a1&&Zk a10 a1&&decide (a9.getD a0.toNat 0=Xj (a6,a7,a8))&&(a10.all fun x=>decide (x<=Xj (a6,a7,a8)))&&
  VD a11 a1&&inR a12 0 100000&&inR a17 0 100000&&inR a15 1 20&&inR a16 1 50&&inR a13 1 4&&decide (((a14.length:Nat):Int)<=a13)&&ZP a0 a1 a15 [] a14&&decide (((a18.length:Nat):Int)=5)&&a18.all (Kk a17)
def smN (a2:List Qj) (a3:List Qd) (a4:List Int) (a8:List Qi) (a9 a10:List Int) (a11:List (List Int)) (a14:List QH) (a18:List QL):Prop:=
 a2.length<=maxLen/\a3.length<=maxLen/\a4.length<=maxLen/\a8.length<=maxLen/\(∀s∈a8,s.1.length<=maxLen/\s.2.length<=maxLen)/\a9.length<=maxLen/\a10.length<=maxLen/\a11.length<=maxLen/\(∀r∈a11,r.length<=maxLen)/\a14.length<=maxLen/\a18.length<=maxLen
theorem Ql3 (a:List Int) (b:Int) (c:List Int) (d:Int) (h:a.length<=maxLen):Jq w (a,b,c,d)=some (decide ((a,b)=(c,d))):=by
 apply QfF
 simp only[jF,QpC a c h,QQ0]
 by_cases h1:a=c
 ·by_cases h2:b=d
  ·simp[h1,h2]
  ·simp[h1,h2]
 ·simp[h1]
theorem Qm6 (a:List Int) (b:Int) (c:List Int) (d:Int) (h:a.length<=maxLen):qX w (a,b,c,d)=some (decide ((a,b)=(c,d))):=by
 apply Qhd
 simp only[QaJ,Qoj a c h,QQ0]
 by_cases h1:a=c
 ·by_cases h2:b=d
  ·simp[h1,h2]
  ·simp[h1,h2]
 ·simp[h1]
theorem Qn9 (a0 a1:Int) (a2:List Qj) (a3:List Qd) (a4:List Int) (a5 a6 a7:Int) (a8:List Qi) (a9 a10:List Int) (a11:List (List Int)) (a12 a13:Int) (a14:List QH) (a15 a16 a17:Int) (a18:List QL) (h:smN a2 a3 a4 a8 a9 a10 a11 a14 a18):V6 w (a0,a1,a2,a3,a4,a5,a6,a7,a8,a9,a10,a11,a12,a13,a14,a15,a16,a17,a18)=some (QcN a0 a1 a2 a3 a4 a5 a6 a7 a8 a9 a10 a11 a12 a13 a14 a15 a16 a17 a18):=by
 obtain⟨h2,h3,h4,h8,h8',h9,h10,h11,h11',h14,h18⟩:=h
 apply QhO
 simp only[Qbu,Xl,QQ0,QcN]
 cases q1:inR a1 1 5
 ·simp
 have q1':=q1
 simp[inR]at q1'
 rw[w64 (n:=a1 - 1) (by omega) (by omega)]
 simp only[QQ3,QQ2,QRd]
 cases q0:inR a0 0 (a1 - 1)
 ·simp
 simp[inR]at q0
 simp only[QQ3,QQ2,QRd,Vz a2 a3 h2 h3,QQ0]
 cases q2:QX (a2,a3)
 ·simp
 simp only[QQ3,QQ2,QRd,Qn8 a2 a3 h2 h3,QQ0,Ql3 a4 a5 _ _ h4]
 cases q4:decide ((a4,a5)=Z7 (a2,a3))
 ·have:decide ((a4,a5)=((Z7 (a2,a3))))=false:=q4
  simp[this]
 have q4':decide ((a4,a5)=((Z7 (a2,a3))))=true:=q4
 simp only[q4',QQ3,QQ2,QRd,Qot a6 a7 a8 h8 h8',QkM a6 a7 a8 h8 h8',QQ0]
 cases q6:VE (a6,a7,a8)
 ·simp
 simp only[QQ3,QQ2,QRd,QkQ a9 a1 h9,QkQ a10 a1 h10,QQ0]
 cases q9:Zk a9 a1
 ·simp
 cases q10:Zk a10 a1
 ·simp
 have l9:((a9.length:Nat):Int)=a1:=by simp[Zk]at q9;exact q9.1.2
 have l10:((a10.length:Nat):Int)=a1:=by simp[Zk]at q10;exact q10.1.2
 have i0:inb a0 a9.length=true:=by simp[inb];omega
 simp only[QQ3,QQ2,QRd,i0,QQ1,rd1]
 by_cases qg:a9.getD a0.toNat 0=Xj (a6,a7,a8)
 case neg=>simp only[qg,decide_false,QQ4,QQ1,QY16,QRm]
 simp only[qg,decide_true]
 cases hc:a10 with
 |nil=>rw[hc]at l10;simp at l10;omega
 |cons m l=>
  rw[<-hc]
  have hm:Zs w a10=some (Qao m l):=by rw[hc];exact QrA m l (by rw[<-hc];exact h10)
  have hall:(a10.all fun x=>decide (x<=Xj (a6,a7,a8)))=(decide (m<=Xj (a6,a7,a8))&&l.all fun x=>decide (x<=Xj (a6,a7,a8))):=by rw[hc];rfl
  simp only[QQ3,QQ2,QRd,hm,QQ0,Qmc,hall]
  cases decide (m<=Xj (a6,a7,a8))&&l.all fun x=>decide (x<=Xj (a6,a7,a8))
  ·simp
  simp only[QQ3,QQ2,QRd,QmT a11 a1 h11 h11',QQ0]
  cases VD a11 a1
  ·simp
  simp only[QQ3,QQ2,QRd,QnX a0 a1 a2 a3 a4 a5 a6 a7 a8 a9 a10 a11 a12 a13 a14 a15 a16 a17 a18 q1 h14,QmG a0 a1 a2 a3 a4 a5 a6 a7 a8 a9 a10 a11 a12 a13 a14 a15 a16 a17 a18 h18,QQ0]
  cases inR a12 0 100000<;>cases inR a17 0 100000<;>cases inR a15 1 20<;>cases inR a16 1 50<;>cases inR a13 1 4<;>cases decide (((a14.length:Nat):Int)<=a13)<;>cases ZP a0 a1 a15 [] a14<;>cases decide (((a18.length:Nat):Int)=5)<;>cases a18.all (Kk a17)<;>rfl
theorem QnN (a0 a1:Int) (a2:List Qj) (a3:List Qd) (a4:List Int) (a5 a6 a7:Int) (a8:List Qi) (a9 a10:List Int) (a11:List (List Int)) (a12 a13:Int) (a14:List QH) (a15 a16 a17:Int) (a18:List QL) (h:smN a2 a3 a4 a8 a9 a10 a11 a14 a18):V7 w (a0,a1,a2,a3,a4,a5,a6,a7,a8,a9,a10,a11,a12,a13,a14,a15,a16,a17,a18)=some (QcN a0 a1 a2 a3 a4 a5 a6 a7 a8 a9 a10 a11 a12 a13 a14 a15 a16 a17 a18):=by
 obtain⟨h2,h3,h4,h8,h8',h9,h10,h11,h11',h14,h18⟩:=h
 apply QiA
 simp only[QaU,XZ,QQ0,QcN]
 cases q1:inR a1 1 5
 ·simp
 have q1':=q1
 simp[inR]at q1'
 rw[w64 (n:=a1 - 1) (by omega) (by omega)]
 simp only[QQ3,QQ2,QRd]
 cases q0:inR a0 0 (a1 - 1)
 ·simp
 simp[inR]at q0
 simp only[QQ3,QQ2,QRd,zz a2 a3 h2 h3,QQ0]
 cases q2:QX (a2,a3)
 ·simp
 simp only[QQ3,QQ2,QRd,Qnn a2 a3 h2 h3,QQ0,Qm6 a4 a5 _ _ h4]
 cases q4:decide ((a4,a5)=Z7 (a2,a3))
 ·have:decide ((a4,a5)=((Z7 (a2,a3))))=false:=q4
  simp[this]
 have q4':decide ((a4,a5)=((Z7 (a2,a3))))=true:=q4
 simp only[q4',QQ3,QQ2,QRd,Qhf a6 a7 a8 h8 h8',QiR a6 a7 a8 h8 h8',QQ0]
 cases q6:VE (a6,a7,a8)
 ·simp
 simp only[QQ3,QQ2,QRd,Qjj a9 a1 h9,Qjj a10 a1 h10,QQ0]
 cases q9:Zk a9 a1
 ·simp
 cases q10:Zk a10 a1
 ·simp
 have l9:((a9.length:Nat):Int)=a1:=by simp[Zk]at q9;exact q9.1.2
 have l10:((a10.length:Nat):Int)=a1:=by simp[Zk]at q10;exact q10.1.2
 have i0:inb a0 a9.length=true:=by simp[inb];omega
 simp only[QQ3,QQ2,QRd,i0,QQ1,rd1]
 by_cases qg:a9.getD a0.toNat 0=Xj (a6,a7,a8)
 case neg=>simp only[qg,decide_false,QQ4,QQ1,QY16,QRm]
 simp only[qg,decide_true]
 simp only[QQ3,QQ2,QRd,QlW a11 a1 h11 h11',QQ0]
 cases qt:VD a11 a1
 ·simp
 have e0:=Q4 a10.length (fun i=>YN wl ((i:Int),a0,a1,a2,a3,a4,a5,a6,a7,a8,a9,a10,a11,a12,a13,a14,a15,a16,a17,a18)) (fun i=>if(a10.drop i).all (fun x=>decide (x<=Xj (a6,a7,a8)))then .inr (a0,a1,a2,a3,a4,a5,a6,a7,a8,a9,a10,a11,a12,a13,a14,a15,a16,a17,a18)else .inl false)
  (fun i hi ih=>by
    apply jA
    rw[YR (fun x=>decide (x<=Xj (a6,a7,a8))) a10 _ _ hi]
    have hi':(i:Int)<a1:=by omega
    simp only[zl,dt hi',Qn hi,Qk hi,inc hi h10,QQ1,Qhf a6 a7 a8 h8 h8',QQ0,ih]
    by_cases hx:a10[i]<=Xj (a6,a7,a8)
    ·simp only[df (show¬Xj (a6,a7,a8)<a10[i] by omega),QQ2,dt hx,QQ1]
    ·simp only[dt (show Xj (a6,a7,a8)<a10[i] by omega),QQ1,df hx,QQ2])
  (by
    apply jA
    have:¬((a10.length:Nat):Int)<a1:=by omega
    simp only[zl,df this,QQ2,QiF])
 simp only[QQ6,QRg]at e0
 simp only[QQ3,QQ2,QRd,e0,QQ0]
 cases qa:a10.all fun x=>decide (x<=Xj (a6,a7,a8))
 ·simp[Qr]
 simp only[if_true,Qr,QY9,QRn]
 cases inR a12 0 100000
 ·simp
 cases inR a17 0 100000
 ·simp
 cases inR a13 1 4
 ·simp
 cases inR a15 1 20
 ·simp
 cases inR a16 1 50
 ·simp
 simp only[QQ3,QQ2,QRd,QRn]
 cases q5:decide (((a18.length:Nat):Int)=5)
 ·simp
 have l5:a18.length=5:=by simp at q5;omega
 have e2:=Q4 a18.length (fun i=>Y2 wl ((i:Int),a0,a1,a2,a3,a4,a5,a6,a7,a8,a9,a10,a11,a12,a13,a14,a15,a16,a17,a18)) (fun i=>if(a18.drop i).all (Kk a17)then .inr (a0,a1,a2,a3,a4,a5,a6,a7,a8,a9,a10,a11,a12,a13,a14,a15,a16,a17,a18)else .inl false)
  (fun i hi ih=>by
    apply jL
    rw[YR (Kk a17) a18 _ _ hi]
    have hi':(i:Int)<5:=by omega
    simp only[zc,dt hi',Qn hi,Qk hi,inc hi h18,QQ1,XZ,QQ0,ih,Kk]
    cases inR a18[i].1 0 1000<;>cases inR a18[i].2.1 0 100000<;>cases inR a18[i].2.2 0 a17<;>simp)
  (by
    apply jL
    have:¬((a18.length:Nat):Int)<5:=by omega
    simp only[zc,df this,QQ2,QiF])
 simp only[QQ6,QRg]at e2
 simp only[QQ3,QQ2,e2,QQ0]
 cases a18.all (Kk a17)
 ·simp
 simp only[if_true,QY9,Qnw a0 a1 a2 a3 a4 a5 a6 a7 a8 a9 a10 a11 a12 a13 a14 a15 a16 a17 a18 q1 h14,QQ0,QRn]
def Ql8 (r:Int×Int×Int×Int×ByteArray×Bool):Xm:=(r.1,r.2.1,r.2.2.1,r.2.2.2.1,r.2.2.2.2.1)
def Ku (x:QI):Bool:=QcN x.1 x.2.1 x.2.2.1 x.2.2.2.1 x.2.2.2.2.1 x.2.2.2.2.2.1 x.2.2.2.2.2.2.1 x.2.2.2.2.2.2.2.1 x.2.2.2.2.2.2.2.2.1 x.2.2.2.2.2.2.2.2.2.1 x.2.2.2.2.2.2.2.2.2.2.1 x.2.2.2.2.2.2.2.2.2.2.2.1 x.2.2.2.2.2.2.2.2.2.2.2.2.1 x.2.2.2.2.2.2.2.2.2.2.2.2.2.1 x.2.2.2.2.2.2.2.2.2.2.2.2.2.2.1 x.2.2.2.2.2.2.2.2.2.2.2.2.2.2.2.1 x.2.2.2.2.2.2.2.2.2.2.2.2.2.2.2.2.1 x.2.2.2.2.2.2.2.2.2.2.2.2.2.2.2.2.2.1 x.2.2.2.2.2.2.2.2.2.2.2.2.2.2.2.2.2.2
def Qie (x:QI):Prop:=smN x.2.2.1 x.2.2.2.1 x.2.2.2.2.1 x.2.2.2.2.2.2.2.2.1 x.2.2.2.2.2.2.2.2.2.1 x.2.2.2.2.2.2.2.2.2.2.1 x.2.2.2.2.2.2.2.2.2.2.2.1 x.2.2.2.2.2.2.2.2.2.2.2.2.2.2.1 x.2.2.2.2.2.2.2.2.2.2.2.2.2.2.2.2.2.2
theorem QpO (x:QI) (h:Qie x):V6 w x=some (Ku x):=Qn9 _ _ _ _ _ _ _ _ _ _ _ _ _ _ _ _ _ _ _ h
theorem QnW (x:QI) (h:Qie x):V7 w x=some (Ku x):=QnN _ _ _ _ _ _ _ _ _ _ _ _ _ _ _ _ _ _ _ h
theorem Qp2 (x:QI) (h:vc x):Qie x:=by
 simp only[vc,zp,QfR,Qel,Qb5,vi,Qea,Qed,Qfy,QfW,QfG]at h
 obtain⟨⟨⟨h2,_⟩,h3⟩,h4,⟨h8,h8'⟩,h9,h10,⟨h11,h11'⟩,h14,h18⟩:=h
 exact⟨h2,h3,h4,h8,fun s hs=>⟨(h8' s hs).1.1,(h8' s hs).2⟩,h9,h10,h11,h11',h14,h18⟩
def vj (n:Int):Nat->List QI->Bool
 |_,[]=>true
 |i,x::l=>(Ku x&&(decide (x.2.1=n)&&decide (x.1=(i:Int))))&&vj n (i+1) l
def QsD (n:Int) (p:QbK):Bool:=inR p.1 0 (n - 1)
def Qrw (n:Int) (x:zS):Bool:=inR x.1 0 (n - 1)&&QX x.2
def Qmk (ns:List QI) (net:List QbK) (sd:List zS):Bool:=inR ((ns.length:Nat):Int) 1 5&&(!decide (12<((net.length:Nat):Int))&&(!decide (40<((sd.length:Nat):Int))&&(vj (ns.length:Nat) 0 ns&&(net.all (QsD (ns.length:Nat))&&sd.all (Qrw (ns.length:Nat))))))
theorem Qe5 (n:Int):(off:Nat)->(l:List QI)->vj n off l=true->(i:Nat)->(h:i<l.length)->Ku l[i]=true/\l[i].2.1=n/\l[i].1=((off+i:Nat):Int)
 |off,x::l,h,0,_=>by
  simp only[vj,QQ5,QRu]at h
  simpa using⟨h.1.1,h.1.2.1,h.1.2.2⟩
 |off,x::l,h,i+1,hi=>by
  simp only[vj,QQ5,QRu]at h
  have:=Qe5 n (off+1) l h.2 i (by simpa using hi)
  simp only[List.getElem_cons_succ]
  refine⟨this.1,this.2.1, ?_⟩
  rw[this.2.2];congr 1;omega
structure WOk (ns:List QI) (net:List QbK) (sd:List zS):Prop where
 n1:1<=ns.length
 n5:ns.length<=5
 net12:net.length<=12
 sd40:sd.length<=40
 nodes:vj (ns.length:Nat) 0 ns=true
 nets:∀p∈net,inR p.1 0 ((ns.length:Nat) - 1)=true
 sds:∀x∈sd,inR x.1 0 ((ns.length:Nat) - 1)=true/\QX x.2=true
theorem WOk.node {ns:List QI}{net:List QbK}{sd:List zS}(h:WOk ns net sd) {i:Nat}(hi:i<ns.length):Ku ns[i]=true/\ns[i].2.1=ns.length/\ns[i].1=(i:Int):=by
 have:=Qe5 _ 0 ns h.nodes i hi
 simpa using this
def Qr1 {α:Type}(c:α->Int):Int->List α->Int
 |k,[]=>k
 |k,x::l=>Qr1 c (wR (k+c x)) l
def kept (ns:List QI) (net:List QbK) (sd:List zS):Int:=bif Qmk ns net sd then Qr1 (fun x:QI=>((x.2.2.2.2.2.2.2.2.1.length:Nat):Int)) 0 ns else 0
def two (ns:List QI) (net:List QbK) (sd:List zS) (p q:Int):Bool:=Qmk ns net sd&&(inR p 0 ((ns.length:Nat) - 1)&&(inR q 0 ((ns.length:Nat) - 1)&& !decide (p=q)))
def nodeAt (ns:List QI) (p:Int):QI:=rd1 Qsy ns p
def lag (ns:List QI) (net:List QbK) (sd:List zS) (p q:Int):Int:=bif two ns net sd p q then wR (Xj ((nodeAt ns p).2.2.2.2.2.2.1,(nodeAt ns p).2.2.2.2.2.2.2.1,(nodeAt ns p).2.2.2.2.2.2.2.2.1) - rd1 0 (nodeAt ns p).2.2.2.2.2.2.2.2.2.2.1 q)else -1
def behind (ns:List QI) (net:List QbK) (sd:List zS) (p q:Int):Bool:=bif decide (0<=lag ns net sd p q)then decide ((((nodeAt ns p).2.2.2.2.2.2.2.2.1.length:Nat):Int)<lag ns net sd p q)else false
def live (x:Qj):Bool:=decide (x.2.2.1=0)
def view (s:Qi):List Qj:=bif QX s then s.1.filter live else []
end Go.Proofs.YtameehmkoglkeaaGreatDoor.M
