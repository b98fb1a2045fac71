/- What the plain forms that FnExactOnlyNews reaches come to: PTree. No conditions but those that each theorem states. -/
import Derived.Test.YtiejfnbmficbmaaGreatFnExactOnlyNewsPState
set_option linter.all false
namespace Go.Proofs.YtiejfnbmficbmaaGreat.M
open Go Go.Eng Go.Proofs
set_option linter.unusedVariables false
def Qk7 (x:Int):Nat->List Int->Int⊕Unit
 |_,[]=> .inr ()
 |i,y::l=>if x=y then .inl (i:Nat)else Qk7 x (i+1) l
theorem Qqp (x:Int):(i:Nat)->(l:List Int)->∃r:Int,Qp (Qk7 x i l) (fun u=>some u) (fun _=>some (-1))=some r/\decide (0<=r)=decide (x∈l)
 |i,[]=>⟨-1,rfl,by simp⟩
 |i,y::l=>by
  by_cases h:x=y
  ·refine⟨(i:Nat), ?_, ?_⟩
   ·simp only[Qk7,h,if_true,Qp,Sum.elim_inl]
   ·simp[h]
  ·obtain⟨r,h1,h2⟩:=Qqp x (i+1) l
   refine⟨r, ?_, ?_⟩
   ·simp only[Qk7,h,if_false];exact h1
   ·rw[h2];simp[h]
theorem Qko (a:List Int) (x:Int) (h:a.length<=maxLen):Zb w (a,x)=some (decide (x∈a)):=by
 apply QcT
 have e:=QW a.length (fun i=>Za wl (a,x,((a.length:Nat):Int),(i:Int))) (fun i=>Qk7 x i (a.drop i))
  (fun i hi ih=>by
    apply JN
    simp only[K5,ilt hi,Qo hi,Qj hi,inc hi h,QQ1,ih]
    rw[QRa hi,Qk7]
    by_cases hx:x=a[i]
    ·simp only[hx,decide_true,QQ1,if_true]
    ·simp only[hx,decide_false,QQ2,if_false])
  (by
    apply JN
    simp only[K5,Qw,QQ2,QRl,Qk7])
 simp only[QQ6,QRg]at e
 obtain⟨r,h1,h2⟩:=Qqp x 0 a
 have hi:YS w (a,x)=some r:=by
  apply Qgg
  simp only[qM,e,QQ0,h1]
 simp only[Jd,hi,QQ0,h2]
theorem QxT (a b:List Int) (h:a.length<=maxLen):YX w (a,b)=some (decide (a=b)):=by
 apply Qgi
 by_cases hl:a.length=b.length
 ·have e:=QtD a b hl (fun i=>X9 wl (a,b,((a.length:Nat):Int),(i:Int)))
   (fun i h1 h2 hx=>by
     apply Yn
     simp only[ZJ,ilt h1,Qo h1,Qo h2,Qj h1,Qj h2,QQ1,hx,decide_false,QQ4])
   (fun i h1 h2 r hx hk=>by
     apply Yn
     simp only[ZJ,ilt h1,Qo h1,Qo h2,Qj h1,Qj h2,inc h1 h,QQ1,hx,decide_true,QQ3,QQ2]
     exact hk)
   (by
     apply Yn
     simp only[ZJ,Qw,QQ2])
  simp only[QQ6]at e
  simp only[Y1,dt (show((a.length:Nat):Int)=((b.length:Nat):Int) by omega),QQ3,QQ2,e,QQ0]
  by_cases hab:a=b
  ·simp[hab,Qp]
  ·simp[hab,Qp]
 ·have hab:a≠b:=fun h=>hl (by rw[h])
  simp only[Y1,df (show¬((a.length:Nat):Int)=((b.length:Nat):Int) by omega),QQ4,QQ1,hab,decide_false]
def Qjl (x:Int):List Int->Bool⊕Unit
 | []=> .inr ()
 |y::l=>if y=x then .inl true else Qjl x l
theorem QqD (x:Int):(l:List Int)->Qp (Qjl x l) (fun u=>some u) (fun _=>some false)=some (decide (x∈l))
 | []=>by simp[Qjl,Qp]
 |y::l=>by
  by_cases h:y=x
  ·simp[Qjl,h,Qp]
  ·have:=QqD x l
   have h':¬x=y:=fun e=>h e.symm
   simp only[Qjl,h,if_false,this];simp[h']
theorem Qq9 (a:List Int) (x:Int) (h:a.length<=maxLen):jV w (a,x)=some (decide (x∈a)):=by
 apply QpK
 have e:=QW a.length (fun i=>V9 wl (a,x,(i:Int))) (fun i=>Qjl x (a.drop i))
  (fun i hi ih=>by
    apply Qeq
    simp only[Qb5,ilt hi,Qo hi,Qj hi,inc hi h,QQ1,ih]
    rw[QRa hi,Qjl]
    by_cases hx:a[i]=x
    ·simp only[hx,decide_true,QQ1,if_true]
    ·simp only[hx,decide_false,QQ2,if_false])
  (by
    apply Qeq
    simp only[Qb5,Qw,QQ2,QRl,Qjl])
 simp only[QQ6,QRg]at e
 simp only[QgY,e,QQ0,QqD]
theorem Qwg (a b:List Int) (h:a.length<=maxLen):Qae w (a,b)=some (decide (a=b)):=by
 apply QoS
 by_cases hl:a.length=b.length
 ·have e:=QtD a b hl (fun i=>Vn wl (a,b,(i:Int)))
   (fun i h1 h2 hx=>by
     apply qT
     simp only[qK,ilt h1,Qo h1,Qo h2,Qj h1,Qj h2,QQ1,hx,decide_false,QQ4])
   (fun i h1 h2 r hx hk=>by
     apply qT
     simp only[qK,ilt h1,Qo h1,Qo h2,Qj h1,Qj h2,inc h1 h,QQ1,hx,decide_true,QQ3,QQ2]
     exact hk)
   (by
     apply qT
     simp only[qK,Qw,QQ2])
  simp only[QQ6]at e
  simp only[yD,dt (show((a.length:Nat):Int)=((b.length:Nat):Int) by omega),QQ3,QQ2,e,QQ0]
  by_cases hab:a=b
  ·simp[hab,Qp]
  ·simp[hab,Qp]
 ·have hab:a≠b:=fun h=>hl (by rw[h])
  simp only[yD,df (show¬((a.length:Nat):Int)=((b.length:Nat):Int) by omega),QQ4,QQ1,hab,decide_false]
def Vi (n:Int):Int:=bif inR n 0 4 then Int.tmod (crc (Qd n)) 4 else -1
theorem Qiv (n:Int):(Qd n).length<=maxLen:=by have:=Qu n;simp only[maxLen];omega
theorem Qpr (n:Int):qX w n=some (Vi n):=by
 apply Qob
 simp only[Qfk,Qbt,QQ0,Vi,Ys,Qmi _ (Qiv n),dt (show(4:Int)≠0 by omega),QQ1]
 cases inR n 0 4<;>simp
theorem Qlq (n:Int):xb w n=some (Vi n):=by
 apply Qom
 simp only[QfP,Qa3,QQ0,Vi,Zm,QjS _ (Qiv n),dt (show(4:Int)≠0 by omega),QQ1]
 cases inR n 0 4<;>simp
def Xd (l:List Int) (n:Int):Bool:=decide (Vi n∈l)
def Zy (s:Qk) (l:List Int):Qk:=(s.1.filter fun x=>Xd l x.1,s.2.filter fun x=>Xd l x.1)
theorem yR:(p:Int)->(l:List Qb)->QH p l=true-> -1<=p->(l.length:Int)<=4 - p\/l=[]
 |p,[],_,_=> .inr rfl
 |p,x::l,h,hp=>by
  simp only[QH,QQ5,inR,QRu]at h
  obtain⟨⟨⟨h1,h2⟩,h3⟩,h4⟩:=h
  left
  rcases yR x.1 l h4 (by omega)with h5|h5
  ·simp only[QY0];omega
  ·subst h5;simp;omega
theorem Qj4 (fl:List Qb):(p:Int)->(l:List Qf)->Xa fl p l=true-> -1<=p->(l.length:Int)<=4 - p\/l=[]
 |p,[],_,_=> .inr rfl
 |p,x::l,h,hp=>by
  simp only[Xa,QQ5,inR,QRu]at h
  obtain⟨⟨⟨⟨h1,h2⟩,h2'⟩,h3⟩,h4⟩:=h
  left
  rcases Qj4 fl x.1 l h4 (by omega)with h5|h5
  ·simp only[QY0];omega
  ·subst h5;simp;omega
theorem VR {s:Qk}(h:QF s=true):s.1.length<=5/\s.2.length<=5:=by
 simp only[QF,QQ5]at h
 have h1:=yR _ _ h.1 (by omega)
 have h2:=Qj4 _ _ _ h.2 (by omega)
 constructor
 ·rcases h2 with h|h
  ·omega
  ·simp[h]
 ·rcases h1 with h|h
  ·omega
  ·simp[h]
theorem Qtb (q:List Int) (a:List Qf) (b:List Qb) (hq:q.length<=maxLen) (ha:a.length<=4294967296) (c:List Qb):
 Yg wl (q,a,((a.length:Nat):Int),0,a,b,[],c)=some (q,a,b,a.filter (fun x=>Xd q x.1),c):=by
 have e:=Xu a.length (fun i (o:List Qf)=>Yg wl (q,a,((a.length:Nat):Int),(i:Int),a,b,o,c)) (fun i o=>(q,a,b,o++(a.drop i).filter (fun x=>Xd q x.1),c)) (fun i o=>o.length<=i)
  (fun i hi o ho ih=>by
    apply QdQ
    have ih1:=ih o (by omega)
    have ih2:=ih (o++[a[i]]) (by simp;omega)
    simp only[QbW,ilt hi,Qo hi,Qj hi,inc hi (show a.length<=maxLen by simp[maxLen];omega),QQ1,Qpr,Qko q _ hq,QQ0,QY33,QL (show(o.length+1)*56<=140737488351232 by omega)]
    rw[QRa hi,QY32]
    cases h:Xd q a[i].1
    ·have h':decide (Vi a[i].1∈q)=false:=h
     simp only[h',QQ2,QRw,if_false];exact ih1
    ·have h':decide (Vi a[i].1∈q)=true:=h
     simp only[h',QQ1,if_true]
     rw[show o++a[i]::List.filter (fun x=>Xd q x.1) (List.drop (i+1) a)=(o++[a[i]])++List.filter (fun x=>Xd q x.1) (List.drop (i+1) a) by simp]
     exact ih2)
  (fun o _=>by
    apply QdQ
    simp[QbW])
  [] (by simp)
 simpa using e
theorem QsN (q:List Int) (b:List Qb) (hq:q.length<=maxLen) (hb:b.length<=4294967296) (c:List Qf):
 Yf wl (q,b,((b.length:Nat):Int),0,c,[])=some (c,b.filter (fun x=>Xd q x.1)):=by
 have e:=Xu b.length (fun i (o:List Qb)=>Yf wl (q,b,((b.length:Nat):Int),(i:Int),c,o)) (fun i o=>(c,o++(b.drop i).filter (fun x=>Xd q x.1))) (fun i o=>o.length<=i)
  (fun i hi o ho ih=>by
    apply Qd5
    have ih1:=ih o (by omega)
    have ih2:=ih (o++[b[i]]) (by simp;omega)
    simp only[Qb4,ilt hi,Qo hi,Qj hi,inc hi (show b.length<=maxLen by simp[maxLen];omega),QQ1,Qpr,Qko q _ hq,QQ0,QY33,QL (show(o.length+1)*16<=140737488351232 by omega)]
    rw[QRa hi,QY32]
    cases h:Xd q b[i].1
    ·have h':decide (Vi b[i].1∈q)=false:=h
     simp only[h',QQ2,QRw,if_false];exact ih1
    ·have h':decide (Vi b[i].1∈q)=true:=h
     simp only[h',QQ1,if_true]
     rw[show o++b[i]::List.filter (fun x=>Xd q x.1) (List.drop (i+1) b)=(o++[b[i]])++List.filter (fun x=>Xd q x.1) (List.drop (i+1) b) by simp]
     exact ih2)
  (fun o _=>by
    apply Qd5
    simp[Qb4])
  [] (by simp)
 simpa using e
theorem Qxy (a:List Qf) (b:List Qb) (q:List Int) (hq:q.length<=maxLen) (ha:a.length<=maxLen) (hb:b.length<=maxLen):
 QcF w (a,b,q)=some (bif QF (a,b)then Zy (a,b) q else([],[])):=by
 apply QpP
 simp only[Qg9,Ym a b ha hb,QQ0]
 cases h:QF (a,b)
 ·simp
 ·have hl:=VR h
  simp only at hl
  simp only[QQ3,QQ2,QQ1,Qtb q a b hq (by omega),QsN q b hq (by omega),QQ0,Zy]
theorem Qq3 (q:List Int) (a:List Qf) (b:List Qb) (hq:q.length<=maxLen) (ha:a.length<=4294967296) (c:List Qb):
 Zw wl (q,0,a,b,[],c)=some (q,a,b,a.filter (fun x=>Xd q x.1),c):=by
 have e:=Xu a.length (fun i (o:List Qf)=>Zw wl (q,(i:Int),a,b,o,c)) (fun i o=>(q,a,b,o++(a.drop i).filter (fun x=>Xd q x.1),c)) (fun i o=>o.length<=i)
  (fun i hi o ho ih=>by
    apply QaY
    have ih1:=ih o (by omega)
    have ih2:=ih (o++[a[i]]) (by simp;omega)
    simp only[vd,ilt hi,Qo hi,Qj hi,inc hi (show a.length<=maxLen by simp[maxLen];omega),QQ1,Qlq,Qq9 q _ hq,QQ0,QY33,QL (show(o.length+1)*56<=140737488351232 by omega)]
    rw[QRa hi,QY32]
    cases h:Xd q a[i].1
    ·have h':decide (Vi a[i].1∈q)=false:=h
     simp only[h',QQ2,QRw,if_false];exact ih1
    ·have h':decide (Vi a[i].1∈q)=true:=h
     simp only[h',QQ1,if_true]
     rw[show o++a[i]::List.filter (fun x=>Xd q x.1) (List.drop (i+1) a)=(o++[a[i]])++List.filter (fun x=>Xd q x.1) (List.drop (i+1) a) by simp]
     exact ih2)
  (fun o _=>by
    apply QaY
    simp[vd])
  [] (by simp)
 simpa using e
theorem Qr2 (q:List Int) (a:List Qf) (b:List Qb) (hq:q.length<=maxLen) (hb:b.length<=4294967296) (c:List Qf):
 Zr wl (q,0,a,b,c,[])=some (c,b.filter (fun x=>Xd q x.1)):=by
 have e:=Xu b.length (fun i (o:List Qb)=>Zr wl (q,(i:Int),a,b,c,o)) (fun i o=>(c,o++(b.drop i).filter (fun x=>Xd q x.1))) (fun i o=>o.length<=i)
  (fun i hi o ho ih=>by
    apply QaR
    have ih1:=ih o (by omega)
    have ih2:=ih (o++[b[i]]) (by simp;omega)
    simp only[yn,ilt hi,Qo hi,Qj hi,inc hi (show b.length<=maxLen by simp[maxLen];omega),QQ1,Qlq,Qq9 q _ hq,QQ0,QY33,QL (show(o.length+1)*16<=140737488351232 by omega)]
    rw[QRa hi,QY32]
    cases h:Xd q b[i].1
    ·have h':decide (Vi b[i].1∈q)=false:=h
     simp only[h',QQ2,QRw,if_false];exact ih1
    ·have h':decide (Vi b[i].1∈q)=true:=h
     simp only[h',QQ1,if_true]
     rw[show o++b[i]::List.filter (fun x=>Xd q x.1) (List.drop (i+1) b)=(o++[b[i]])++List.filter (fun x=>Xd q x.1) (List.drop (i+1) b) by simp]
     exact ih2)
  (fun o _=>by
    apply QaR
    simp[yn])
  [] (by simp)
 simpa using e
theorem Qwm (a:List Qf) (b:List Qb) (q:List Int) (hq:q.length<=maxLen) (ha:a.length<=4294967296) (hb:b.length<=4294967296):
 zD w (a,b,q)=some (Zy (a,b) q):=by
 apply Qm5
 simp only[QeR,Qq3 q a b hq ha,Qr2 q a b hq hb,QQ0,Zy]
theorem QlE:(p p':Int)->(l:List Qb)->p'<=p->QH p l=true->QH p' l=true
 |p,p',[],_,_=>rfl
 |p,p',x::l,hp,h=>by
  simp only[QH,QQ5,QRu]at h⊢
  exact⟨⟨h.1.1,by omega⟩,h.2⟩
theorem Qog (fl:List Qb):(p p':Int)->(l:List Qf)->p'<=p->Xa fl p l=true->Xa fl p' l=true
 |p,p',[],_,_=>rfl
 |p,p',x::l,hp,h=>by
  simp only[Xa,QQ5,QRu]at h⊢
  exact⟨⟨h.1.1,by omega⟩,h.2⟩
theorem QfQ (f:Int->Bool):(p:Int)->(l:List Qb)->QH p l=true->QH p (l.filter fun x=>f x.1)=true
 |p,[],_=>rfl
 |p,x::l,h=>by
  have h':=h
  simp only[QH,QQ5,QRu]at h
  have ih:=QfQ f x.1 l h.2
  rw[QY32]
  cases hf:f x.1
  ·simp only[QRw,if_false];exact QlE _ _ _ (by omega) ih
  ·simp only[if_true,QH,QQ5,QRu]
   exact⟨⟨h.1.1,h.1.2⟩,ih⟩
theorem Qhk (f:Int->Bool) (id:Int) (hf:f id=true):(l:List Qb)->QX id (l.filter fun x=>f x.1)=QX id l
 | []=>rfl
 |x::l=>by
  have ih:=Qhk f id hf l
  rw[QY32]
  by_cases hx:x.1=id
  ·rw[hx,hf];simp[QX,hx]
  ·cases f x.1
   ·simp only[QRw,if_false,QX,hx];exact ih
   ·simp only[if_true,QX,hx,if_false];exact ih
theorem Qgt (f:Int->Bool) (fl:List Qb):(p:Int)->(l:List Qf)->Xa fl p l=true->Xa (fl.filter fun x=>f x.1) p (l.filter fun x=>f x.1)=true
 |p,[],_=>rfl
 |p,x::l,h=>by
  simp only[Xa,QQ5,QRu]at h
  have ih:=Qgt f fl x.1 l h.2
  rw[QY32]
  cases hf:f x.1
  ·simp only[QRw,if_false];exact Qog _ _ _ _ (by omega) ih
  ·simp only[if_true,Xa,QQ5,QRu,Qhk f x.1 hf]
   exact⟨⟨h.1.1,h.1.2⟩,ih⟩
theorem QlJ {s:Qk}(q:List Int) (h:QF s=true):QF (Zy s q)=true:=by
 simp only[QF,QQ5]at h⊢
 exact⟨QfQ (Xd q) _ _ h.1,Qgt (Xd q) _ _ _ h.2⟩
def XU (x:Qf):List Int:=Qd x.1++(Qd x.2.1++(Qd x.2.2.1++(Qd x.2.2.2.1++(Qd x.2.2.2.2.1++Z0 x.2.2.2.2.2))))
def Q2 (x:Qb):List Int:=Qd x.1++Qd x.2
def stB (s:Qk):List Int:=Qd (s.1.length:Nat)++(s.1.flatMap XU++(Qd (s.2.length:Nat)++s.2.flatMap Q2))
theorem Qa4 (x:Qf):(XU x).length<=30+ByteArray.size x.2.2.2.2.2:=by
 have h0:=Qu x.1
 have h1:=Qu x.2.1
 have h2:=Qu x.2.2.1
 have h3:=Qu x.2.2.2.1
 have h4:=Qu x.2.2.2.2.1
 have h5:=Qkx x.2.2.2.2.2
 simp only[XU,QRj];omega
theorem VW (x:Qb):(Q2 x).length<=10:=by
 have h0:=Qu x.1
 have h1:=Qu x.2
 simp only[Q2,QRj];omega
def smB (s:Qk):Prop:=s.1.length<=1000/\s.2.length<=1000/\∀x∈s.1,ByteArray.size x.2.2.2.2.2<=1000
theorem QiX (fl:List Qb):(p:Int)->(l:List Qf)->Xa fl p l=true->∀x∈l,ByteArray.size x.2.2.2.2.2<=8
 |p,[],_=>by simp
 |p,x::l,h=>by
  simp only[Xa,QQ5]at h
  have h1:=h.1.1.1.2
  simp only[XP,QQ5,QRu]at h1
  intro y hy
  rcases QRk.1 hy with e|e
  ·rw[e];have:=h1.2;omega
  ·exact QiX fl x.1 l h.2 y e
theorem J0 {s:Qk}(h:QF s=true):smB s:=by
 have hl:=VR h
 simp only[QF,QQ5]at h
 exact⟨by omega,by omega,fun x hx=>by have:=QiX _ _ _ h.2 x hx;omega⟩
theorem Vb {α:Type}(f:α->List Int) (n:Nat):(l:List α)->(∀x∈l,(f x).length<=n)->(l.flatMap f).length<=l.length*n
 | [],_=>by simp
 |x::l,h=>by
  have ih:=Vb f n l fun y hy=>h y (by simp[hy])
  have:=h x (by simp)
  simp only[QY7,QRj,QY0,QY22];omega
theorem QjN {s:Qk}(h:smB s):(stB s).length<=2000000:=by
 have h1:=Vb XU 1030 s.1 fun x hx=>by have:=Qa4 x;have:=h.2.2 x hx;omega
 have h2:=Vb Q2 10 s.2 fun x _=>VW x
 have h3:=Qu (s.1.length:Nat)
 have h4:=Qu (s.2.length:Nat)
 have h5:s.1.length*1030<=1000*1030:=QY13 _ h.1
 have h6:s.2.length*10<=1000*10:=QY13 _ h.2.1
 simp only[stB,QRj];omega
theorem QpF (a:List Qf) (b:List Qb) (h:smB (a,b)) (o:List Int) (ho:o.length<=10):
 Zj wl (a,((a.length:Nat):Int),0,a,b,o)=some (a,b,o++a.flatMap XU):=by
 have hl:a.length<=1000:=h.1
 have e:=Xu a.length (fun i (o:List Int)=>Zj wl (a,((a.length:Nat):Int),(i:Int),a,b,o)) (fun i o=>(a,b,o++(a.drop i).flatMap XU)) (fun i o=>o.length<=10+i*1030)
  (fun i hi o ho ih=>by
    apply zo
    have hb:=Qa4 a[i]
    have hd:=h.2.2 a[i] (QRf hi)
    have ih1:=ih (o++XU a[i]) (by rw[QRj];omega)
    have ej: [o,Qd a[i].1,Qd a[i].2.1,Qd a[i].2.2.1,Qd a[i].2.2.2.1,Qd a[i].2.2.2.2.1,Z0 a[i].2.2.2.2.2].flatten=o++XU a[i]:=by simp[XU]
    have hj:=Kj [o,Qd a[i].1,Qd a[i].2.1,Qd a[i].2.2.1,Qd a[i].2.2.2.1,Qd a[i].2.2.2.2.1,Z0 a[i].2.2.2.2.2] (by simp[maxLen]) (by rw[ej,QRj];omega)
    simp only[qv,ilt hi,Qo hi,Qj hi,inc hi (show a.length<=maxLen by simp[maxLen];omega),QQ1,Ys,Qud _ (show ByteArray.size a[i].2.2.2.2.2<=4294967296 by omega),QQ0,hj,ej,ih1]
    rw[QRa hi,QY7,QRc])
  (fun o _=>by
    apply zo
    simp[qv])
  o (by omega)
 simpa using e
theorem QpU (b:List Qb) (hb:b.length<=1000) (o:List Int) (ho:o.length<=2000000):
 Zg wl (b,((b.length:Nat):Int),0,o)=some (o++b.flatMap Q2):=by
 have e:=Xu b.length (fun i (o:List Int)=>Zg wl (b,((b.length:Nat):Int),(i:Int),o)) (fun i o=>o++(b.drop i).flatMap Q2) (fun i o=>o.length<=2000000+i*10)
  (fun i hi o ho ih=>by
    apply zk
    have hb:=VW b[i]
    have ih1:=ih (o++Q2 b[i]) (by rw[QRj];omega)
    have ej: [o,Qd b[i].1,Qd b[i].2].flatten=o++Q2 b[i]:=by simp[Q2]
    have hj:=Kj [o,Qd b[i].1,Qd b[i].2] (by simp[maxLen]) (by rw[ej,QRj];omega)
    simp only[ql,ilt hi,Qo hi,Qj hi,inc hi (show b.length<=maxLen by simp[maxLen];omega),QQ1,Ys,QQ0,hj,ej,ih1]
    rw[QRa hi,QY7,QRc])
  (fun o _=>by
    apply zk
    simp[ql])
  o (by omega)
 simpa using e
theorem Qb1 (a:List Qf) (b:List Qb) (ha:a.length<=maxLen) (hb:b.length<=maxLen):ZY w (a,b)=some (bif QF (a,b)then stB (a,b)else []):=by
 apply Qjn
 simp only[vx,Ym a b ha hb,QQ0]
 cases h:QF (a,b)
 ·simp
 ·have hs:=J0 h
  have hp:=Qu (a.length:Nat)
  have h1:=Vb XU 1030 a fun x hx=>by have:=Qa4 x;have:=hs.2.2 x hx;omega
  have hal:a.length<=1000:=hs.1
  have hbl:b.length<=1000:=hs.2.1
  have h5:a.length*1030<=1000*1030:=QY13 _ hal
  have hp2:=Qu (b.length:Nat)
  have ej: [Qd ((a.length:Nat):Int)++a.flatMap XU,Qd ((b.length:Nat):Int)].flatten=Qd ((a.length:Nat):Int)++a.flatMap XU++Qd ((b.length:Nat):Int):=by simp
  have hj:=Kj [Qd ((a.length:Nat):Int)++a.flatMap XU,Qd ((b.length:Nat):Int)] (by simp[maxLen]) (by rw[ej];simp only[QRj];omega)
  simp only[QQ3,QQ2,QQ1,Ys,QQ0,QpF a b hs _ (show(Qd ((a.length:Nat):Int)).length<=10 by omega),hj,ej,QpU b hbl _ (show(Qd ((a.length:Nat):Int)++a.flatMap XU++Qd ((b.length:Nat):Int)).length<=2000000 by simp only[QRj];omega)]
  simp only[stB,QRc]
theorem Qsg (i:Int) (a:List Qf) (b:List Qb) (o:List Int) (p q r s:Int) (t:ByteArray) (l:List Int) (hl:l.length<=5) (ho:o.length<=2000000):
 ZV wl (i,0,a,b,o,p,q,r,s,t,l)=some (i,a,b,o++l.flatMap Qd,p,q,r,s,t):=by
 have e:=Xu l.length (fun k (o:List Int)=>ZV wl (i,(k:Int),a,b,o,p,q,r,s,t,l)) (fun k o=>(i,a,b,o++(l.drop k).flatMap Qd,p,q,r,s,t)) (fun k o=>o.length<=2000000+k*5)
  (fun k hk o ho ih=>by
    apply Qa9
    have hb:=Qu l[k]
    have ih1:=ih (o++Qd l[k]) (by rw[QRj];omega)
    simp only[jT,ilt hk,Qo hk,Qj hk,inc hk (show l.length<=maxLen by simp[maxLen];omega),QQ1,Zm,QQ0,QL (show(o.length+(Qd l[k]).length)*1<=140737488351232 by omega),ih1]
    rw[QRa hk,QY7,QRc])
  (fun o _=>by
    apply Qa9
    simp[jT])
  o (by omega)
 simpa using e
theorem Qq7 (a:List Qf) (b:List Qb) (h:smB (a,b)) (o:List Int) (ho:o.length<=10):
 ZW wl (0,a,b,o)=some (a,b,o++a.flatMap XU):=by
 have hl:a.length<=1000:=h.1
 have e:=Xu a.length (fun i (o:List Int)=>ZW wl ((i:Int),a,b,o)) (fun i o=>(a,b,o++(a.drop i).flatMap XU)) (fun i o=>o.length<=10+i*1030)
  (fun i hi o ho ih=>by
    apply Qba
    have hb:=Qa4 a[i]
    have hd:=h.2.2 a[i] (QRf hi)
    have ih1:=ih (o++XU a[i]) (by rw[QRj];omega)
    have ej:(o++[a[i].1,a[i].2.1,a[i].2.2.1,a[i].2.2.2.1,a[i].2.2.2.2.1].flatMap Qd)++Z0 a[i].2.2.2.2.2=o++XU a[i]:=by simp[XU]
    have hn:=Qsg (i:Int) a b o a[i].2.1 a[i].2.2.1 a[i].2.2.2.1 a[i].2.2.2.2.1 a[i].2.2.2.2.2 [a[i].1,a[i].2.1,a[i].2.2.1,a[i].2.2.2.1,a[i].2.2.2.2.1] (by simp) (by omega)
    have hlen:((o++[a[i].1,a[i].2.1,a[i].2.2.1,a[i].2.2.2.1,a[i].2.2.2.2.1].flatMap Qd).length+(Z0 a[i].2.2.2.2.2).length)*1<=140737488351232:=by
     have:=congrArg List.length ej
     simp only[QRj]at this⊢; omega
    simp only[jM,ilt hi,Qo hi,Qj hi,inc hi (show a.length<=maxLen by simp[maxLen];omega),QQ1,hn,Qs1 _ (show ByteArray.size a[i].2.2.2.2.2<=4294967296 by omega),QQ0,QL hlen,ej,ih1]
    rw[QRa hi,QY7,QRc])
  (fun o _=>by
    apply Qba
    simp[jM])
  o (by omega)
 simpa using e
theorem Qq1 (a:List Qf) (b:List Qb) (hb:b.length<=1000) (o:List Int) (ho:o.length<=2000000):
 Z2 wl (0,a,b,o)=some (o++b.flatMap Q2):=by
 have e:=Xu b.length (fun i (o:List Int)=>Z2 wl ((i:Int),a,b,o)) (fun i o=>o++(b.drop i).flatMap Q2) (fun i o=>o.length<=2000000+i*10)
  (fun i hi o ho ih=>by
    apply Qbl
    have hb:=VW b[i]
    have h1:=Qu b[i].1
    have h2:=Qu b[i].2
    have ih1:=ih (o++Q2 b[i]) (by rw[QRj];omega)
    have ej:o++Qd b[i].1++Qd b[i].2=o++Q2 b[i]:=by simp[Q2]
    simp only[yZ,ilt hi,Qo hi,Qj hi,inc hi (show b.length<=maxLen by simp[maxLen];omega),QQ1,Zm,QQ0,QL (show(o.length+(Qd b[i].1).length)*1<=140737488351232 by omega),QL (show((o++Qd b[i].1).length+(Qd b[i].2).length)*1<=140737488351232 by rw[QRj];omega),ej,ih1]
    rw[QRa hi,QY7,QRc])
  (fun o _=>by
    apply Qbl
    simp[yZ])
  o (by omega)
 simpa using e
theorem Qjw (a:List Qf) (b:List Qb) (hs:smB (a,b)):VF w (a,b)=some (stB (a,b)):=by
 apply Qm8
 have hp:=Qu (a.length:Nat)
 have h1:=Vb XU 1030 a fun x hx=>by have:=Qa4 x;have:=hs.2.2 x hx;omega
 have hal:a.length<=1000:=hs.1
 have hbl:b.length<=1000:=hs.2.1
 have h5:a.length*1030<=1000*1030:=QY13 _ hal
 have hp2:=Qu (b.length:Nat)
 have hlen:((Qd ((a.length:Nat):Int)++a.flatMap XU).length+(Qd ((b.length:Nat):Int)).length)*1<=140737488351232:=by simp only[QRj];omega
 simp only[QeD,Zm,QQ0,Qq7 a b hs _ (show(Qd ((a.length:Nat):Int)).length<=10 by omega),QL hlen,QQ1,Qq1 a b hbl _ (show(Qd ((a.length:Nat):Int)++a.flatMap XU++Qd ((b.length:Nat):Int)).length<=2000000 by simp only[QRj];omega)]
 simp only[stB,QRc]
def Y5 (s:Qk) (k:Int):Int:=bif QF s&&inR k 0 3 then Int.tmod (crc (stB (Zy s [k]))) 1024 else 0
theorem QuD (a:List Qf) (b:List Qb) (k:Int) (ha:a.length<=maxLen) (hb:b.length<=maxLen):yN w (a,b,k)=some (Y5 (a,b) k):=by
 apply Ql4
 simp only[Qev,Ym a b ha hb,Q8,QQ0,Y5]
 cases h:QF (a,b)
 ·simp
 ·cases h2:inR k 0 3
  ·simp
  ·have hs:=QlJ [k] h
   have hl:=VR hs
   have hB:=QjN (J0 hs)
   simp only[QQ3,QQ2,Qxy a b [k] (by simp[maxLen]) ha hb,h,QQ1,QQ0,Qb1 (Zy (a,b) [k]).1 (Zy (a,b) [k]).2 (by simp only[maxLen];omega) (by simp only[maxLen];omega),Bool.and_self]
   simp only[show QF ((Zy (a,b) [k]))=true from hs,QQ1,Qmi (stB ((Zy (a,b) [k]))) (show(stB (Zy (a,b) [k])).length<=maxLen by simp only[maxLen];omega),QQ0,dt (show(1024:Int)≠0 by omega)]
theorem QsB (a:List Qf) (b:List Qb) (k:Int) (ha:a.length<=maxLen) (hb:b.length<=maxLen):zX w (a,b,k)=some (Y5 (a,b) k):=by
 apply Qns
 simp only[Qeu,KV a b ha hb,XD,QQ0,Y5]
 cases h:QF (a,b)
 ·simp
 ·cases h2:inR k 0 3
  ·simp
  ·have hs:=QlJ [k] h
   have hl:=VR h
   simp only at hl
   have hB:=QjN (J0 hs)
   simp only[QQ3,QQ2,Qwm a b [k] (by simp[maxLen]) (by omega) (by omega),QQ0,Qjw (Zy (a,b) [k]).1 (Zy (a,b) [k]).2 (J0 hs),QQ1,Bool.and_self,QjS (stB ((Zy (a,b) [k]))) (show(stB (Zy (a,b) [k])).length<=maxLen by simp only[maxLen];omega),dt (show(1024:Int)≠0 by omega)]
def rootOf (l:List Int):Int:=Int.tmod (crc (l.flatMap Qd)) 1024
theorem QvE (l:List Int) (hl:l.length<=4294967296):Qad w l=some (rootOf l):=by
 apply QoH
 have e:=Xu l.length (fun i (o:List Int)=>VB wl (l,((l.length:Nat):Int),(i:Int),o)) (fun i o=>o++(l.drop i).flatMap Qd) (fun i o=>o.length<=i*5)
  (fun i hi o ho ih=>by
    apply Qck
    have hb:=Qu l[i]
    have ih1:=ih (o++Qd l[i]) (by rw[QRj];omega)
    have ej: [o,Qd l[i]].flatten=o++Qd l[i]:=by simp
    have hj:=Kj [o,Qd l[i]] (by simp[maxLen]) (by rw[ej,QRj];omega)
    simp only[vN,ilt hi,Qo hi,Qj hi,inc hi (show l.length<=maxLen by simp[maxLen];omega),QQ1,Ys,QQ0,hj,ej,ih1]
    rw[QRa hi,QY7,QRc])
  (fun o _=>by
    apply Qck
    simp[vN])
  [] (by simp)
 simp only[QQ6,QRg,QRe]at e
 have hb:=Vb Qd 5 l fun x _=>Qu x
 simp only[QfA,e,QQ0,Qmi (l.flatMap Qd) (by simp only[maxLen];omega),dt (show(1024:Int)≠0 by omega),QQ1,rootOf]
theorem QvW (l:List Int) (hl:l.length<=4294967296):Qak w l=some (rootOf l):=by
 apply QnL
 have e:=Xu l.length (fun i (o:List Int)=>Vr wl (l,(i:Int),o)) (fun i o=>o++(l.drop i).flatMap Qd) (fun i o=>o.length<=i*5)
  (fun i hi o ho ih=>by
    apply Qcl
    have hb:=Qu l[i]
    have ih1:=ih (o++Qd l[i]) (by rw[QRj];omega)
    simp only[vH,ilt hi,Qo hi,Qj hi,inc hi (show l.length<=maxLen by simp[maxLen];omega),QQ1,Zm,QQ0,QL (show(o.length+(Qd l[i]).length)*1<=140737488351232 by omega),ih1]
    rw[QRa hi,QY7,QRc])
  (fun o _=>by
    apply Qcl
    simp[vH])
  [] (by simp)
 simp only[QQ6,QRg,QRe]at e
 have hb:=Vb Qd 5 l fun x _=>Qu x
 simp only[Qfv,e,QQ0,QjS (l.flatMap Qd) (by simp only[maxLen];omega),dt (show(1024:Int)≠0 by omega),QQ1,rootOf]
def leaves (s:Qk):List Int:=[Y5 s 0,Y5 s 1,Y5 s 2,Y5 s 3]
def YA (s:Qk):ZB:=bif QF s then(leaves s,rootOf (leaves s))else([],0)
theorem QAz {i:Nat}(h:i<4):decide ((i:Int)<4)=true:=by simp;omega
theorem Qwd (a:List Qf) (b:List Qb) (ha:a.length<=maxLen) (hb:b.length<=maxLen):Qac w (a,b)=some (YA (a,b)):=by
 apply Qov
 have e:=Xu 4 (fun i (o:List Int)=>Yv wl ((i:Int),a,b,o,0)) (fun i o=>(o++(List.range' i (4 - i)).flatMap fun i=>[Y5 (a,b) (i:Nat)],(0:Int))) (fun i o=>o.length<=i)
  (fun i hi o ho ih=>by
    apply Qcg
    have ih1:=ih (o++[Y5 (a,b) (i:Nat)]) (by simp;omega)
    rw[Qlu hi,<-QRc,<-ih1]
    simp only[vS,QAz hi,QQ1,QuD a b _ ha hb,QQ0,QY33,QL (show(o.length+1)*8<=140737488351232 by omega),Qu2 hi])
  (fun o _=>by
    apply Qcg
    simp[vS])
  [] (by simp)
 have e:Yv wl (0,a,b,[],0)=some (leaves (a,b),0):=e
 simp only[Qf6,Ym a b ha hb,QQ0,YA]
 cases QF (a,b)
 ·simp
 ·simp only[QQ3,QQ2,QQ1,e,QQ0,QvE (leaves (a,b)) (by simp[leaves])]
theorem Qvg (a:List Qf) (b:List Qb) (ha:a.length<=maxLen) (hb:b.length<=maxLen):QaN w (a,b)=some (YA (a,b)):=by
 apply Qoe
 have e:=Xu 4 (fun i (o:List Int)=>Yy wl ((i:Int),a,b,o,0)) (fun i o=>(o++(List.range' i (4 - i)).flatMap fun i=>[Y5 (a,b) (i:Nat)],(0:Int))) (fun i o=>o.length<=i)
  (fun i hi o ho ih=>by
    apply Qcj
    have ih1:=ih (o++[Y5 (a,b) (i:Nat)]) (by simp;omega)
    rw[Qlu hi,<-QRc,<-ih1]
    simp only[vD,QAz hi,QQ1,QsB a b _ ha hb,QQ0,QY33,QL (show(o.length+1)*8<=140737488351232 by omega),Qu2 hi])
  (fun o _=>by
    apply Qcj
    simp[vD])
  [] (by simp)
 have e:Yy wl (0,a,b,[],0)=some (leaves (a,b),0):=e
 simp only[Qfa,KV a b ha hb,QQ0,YA]
 cases QF (a,b)
 ·simp
 ·simp only[QQ3,QQ2,QQ1,e,QQ0,QvW (leaves (a,b)) (by simp[leaves])]
def Vf (g:JC):Bool:=inR g.1 1 8&&decide (((g.2.2.length:Nat):Int)<=g.1)&&inR g.2.1 0 100000&&decide (g.2.1+((g.2.2.length:Nat):Int)<=100000)&&g.2.2.all QF
theorem X2 {α:Type}{R:Type}(p:α->Bool) (l:List α) (x y:R) {i:Nat}(hi:i<l.length):(if(l.drop i).all p then x else y)=(bif p l[i]then(if(l.drop (i+1)).all p then x else y)else y):=by
 rw[QRa hi,QY20]
 cases p l[i]<;>simp
theorem Qoj {α:Type}{R:Type}(p:α->Bool) (l:List α) (x y:R):(if(l.drop l.length).all p then x else y)=x:=by simp
theorem QrG (a b:Int) (l:List Qk) (hl:l.length<=maxLen) (hs:∀s∈l,s.1.length<=maxLen/\s.2.length<=maxLen):yT w (a,b,l)=some (Vf (a,b,l)):=by
 apply QpV
 have e:=QW l.length (fun i=>Ji wl (l,((l.length:Nat):Int),(i:Int),a,b,l)) (fun i=>if(l.drop i).all QF then .inr (a,b,l)else .inl false)
  (fun i hi ih=>by
    apply Qex
    have hx:=hs _ (QRf hi)
    rw[X2 QF l _ _ hi]
    simp only[QbR,ilt hi,Qo hi,Qj hi,inc hi hl,QQ1,Ym _ _ hx.1 hx.2,QQ0,ih]
    cases QF l[i]<;>simp)
  (by
    apply Qex
    simp[QbR])
 simp only[QQ6,QRg]at e
 simp only[QgM,e,QQ0,Q8,Vf]
 cases l.all QF
 ·simp[Qp]
 ·simp only[if_true,Qp,QY3,QRn]
  cases h1:inR a 1 8
  ·simp
  ·by_cases h2:((l.length:Nat):Int)<=a
   ·cases h3:inR b 0 100000
    ·simp
    ·simp[inR]at h1 h3
     rw[w64 (by omega) (by omega)]
     simp[h2]
   ·simp[h2]
theorem QpB (a b:Int) (l:List Qk) (hl:l.length<=maxLen) (hs:∀s∈l,s.1.length<=maxLen/\s.2.length<=maxLen):zZ w (a,b,l)=some (Vf (a,b,l)):=by
 apply QpL
 have e:=QW l.length (fun i=>V7 wl ((i:Int),a,b,l)) (fun i=>if(l.drop i).all QF then .inr ()else .inl false)
  (fun i hi ih=>by
    apply QdS
    have hx:=hs _ (QRf hi)
    rw[X2 QF l _ _ hi]
    simp only[QbU,ilt hi,Qo hi,Qj hi,inc hi hl,QQ1,KV _ _ hx.1 hx.2,QQ0,ih]
    cases QF l[i]<;>simp)
  (by
    apply QdS
    simp[QbU])
 simp only[QQ6,QRg]at e
 simp only[Qhr,e,QQ0,XD,Vf]
 cases h1:inR a 1 8
 ·simp
 ·by_cases h2:((l.length:Nat):Int)<=a
  ·cases h3:inR b 0 100000
   ·simp[h2]
   ·simp[inR]at h1 h3
    rw[w64 (by omega) (by omega)]
    by_cases h4:b+((l.length:Nat):Int)<=100000
    ·simp only[QQ3,QQ2,df (show¬a<((l.length:Nat):Int) by omega),df (show¬100000<b+((l.length:Nat):Int) by omega),dt h2,dt h4,QRd,QRn]
     cases l.all QF<;>simp[Qp]
    ·simp only[QQ3,QQ2,df (show¬a<((l.length:Nat):Int) by omega),dt (show 100000<b+((l.length:Nat):Int) by omega),df h4,QQ1,QY15,QRm]
  ·simp only[QQ3,QQ2,dt (show a<((l.length:Nat):Int) by omega),QQ1,df h2,QY15,QRm]
def Xg (g:JC):Int:=bif Vf g then g.2.1+((g.2.2.length:Nat):Int)else 0
theorem QcK {g:JC}(h:Vf g=true):g.2.2.length<=8/\0<=g.2.1/\g.2.1<=100000/\g.2.1+((g.2.2.length:Nat):Int)<=100000:=by
 simp[Vf,inR]at h;omega
theorem QwF (a b:Int) (l:List Qk) (hl:l.length<=maxLen) (hs:∀s∈l,s.1.length<=maxLen/\s.2.length<=maxLen):Qav w (a,b,l)=some (Xg (a,b,l)):=by
 apply Qn5
 simp only[Qfn,QrG a b l hl hs,QQ0,Xg]
 cases h:Vf (a,b,l)
 ·simp
 ·have:=QcK h
  simp only at this
  rw[w64 (by omega) (by omega)];simp
theorem Qmw (a b:Int) (l:List Qk) (hl:l.length<=maxLen) (hs:∀s∈l,s.1.length<=maxLen/\s.2.length<=maxLen):qV w (a,b,l)=some (Xg (a,b,l)):=by
 apply QnE
 simp only[QfS,QpB a b l hl hs,QQ0,Xg]
 cases h:Vf (a,b,l)
 ·simp
 ·have:=QcK h
  simp only at this
  rw[w64 (by omega) (by omega)];simp
def ZA (v:List Int) (n:Int):Bool:=inR n 1 5&&decide (((v.length:Nat):Int)=n)&&v.all fun x=>inR x 0 100000
theorem QqX (v:List Int) (n:Int) (hv:v.length<=maxLen):jx w (v,n)=some (ZA v n):=by
 apply Qp2
 have e:=QW v.length (fun i=>Jk wl (v,n,v,((v.length:Nat):Int),(i:Int))) (fun i=>if(v.drop i).all (fun x=>inR x 0 100000)then .inr (v,n)else .inl false)
  (fun i hi ih=>by
    apply Qdw
    rw[X2 (fun x=>inR x 0 100000) v _ _ hi]
    simp only[QbZ,ilt hi,Qo hi,Qj hi,inc hi hv,QQ1,Q8,QQ0,ih]
    cases inR v[i] 0 100000<;>simp)
  (by
    apply Qdw
    simp[QbZ])
 simp only[QQ6,QRg]at e
 simp only[QgW,e,QQ0,Q8,ZA]
 cases v.all fun x=>inR x 0 100000
 ·simp[Qp]
 ·simp only[if_true,Qp,QY3,QRn]
  cases inR n 1 5<;>simp
theorem QpC (v:List Int) (n:Int) (hv:v.length<=maxLen):yr w (v,n)=some (ZA v n):=by
 apply QpW
 by_cases h2:((v.length:Nat):Int)=n
 ·subst h2
  have e:=QW v.length (fun i=>Ja wl (v,((v.length:Nat):Int),(i:Int))) (fun i=>if(v.drop i).all (fun x=>inR x 0 100000)then .inr ()else .inl false)
   (fun i hi ih=>by
     apply Qd4
     rw[X2 (fun x=>inR x 0 100000) v _ _ hi]
     simp only[QbS,ilt hi,Qo hi,Qj hi,inc hi hv,QQ1,XD,QQ0,ih]
     cases inR v[i] 0 100000<;>simp)
   (by
     apply Qd4
     simp[QbS])
  simp only[QQ6,QRg]at e
  simp only[vW,e,QQ0,XD,ZA]
  cases inR ((v.length:Nat):Int) 1 5
  ·simp
  ·cases v.all fun x=>inR x 0 100000<;>simp[Qp]
 ·simp only[vW,XD,QQ0,ZA,df h2]
  cases inR n 1 5<;>simp
def V1 (r:List Int):Bool:=(r.all fun x=>inR x 0 1000)&&decide (((r.length:Nat):Int)=5)
def ZX (t:List (List Int)) (n:Int):Bool:=inR n 1 5&&decide (((t.length:Nat):Int)=n)&&t.all V1
theorem Qvi (t:List (List Int)) (n:Int) (ht:t.length<=maxLen) (hr:∀r∈t,r.length<=maxLen):jz w (t,n)=some (ZX t n):=by
 apply Qlk
 have inner:∀(i:Int) (r:List Int),r.length<=maxLen->Z1 wl (t,n,r,t,((t.length:Nat):Int),i,r,((r.length:Nat):Int),0)=some (if r.all (fun x=>inR x 0 1000)then .inr (t,n,r,t,((t.length:Nat):Int),i)else .inl false):=by
  intro i r hr
  have e:=QW r.length (fun k=>Z1 wl (t,n,r,t,((t.length:Nat):Int),i,r,((r.length:Nat):Int),(k:Int))) (fun k=>if(r.drop k).all (fun x=>inR x 0 1000)then .inr (t,n,r,t,((t.length:Nat):Int),i)else .inl false)
   (fun k hk ih=>by
     apply Qa5
     rw[X2 (fun x=>inR x 0 1000) r _ _ hk]
     simp only[zF,ilt hk,Qo hk,Qj hk,inc hk hr,QQ1,Q8,QQ0,ih]
     cases inR r[k] 0 1000<;>simp)
   (by
     apply Qa5
     simp[zF])
  simpa using e
 have e:=QW t.length (fun i=>Y7 wl (t,n,t,((t.length:Nat):Int),(i:Int))) (fun i=>if(t.drop i).all V1 then .inr (t,n)else .inl false)
  (fun i hi ih=>by
    apply QaT
    rw[X2 V1 t _ _ hi]
    have hx:=hr _ (QRf hi)
    simp only[yV,ilt hi,Qo hi,Qj hi,QQ1,inner _ _ hx,QQ0,V1]
    cases t[i].all fun x=>inR x 0 1000
    ·simp[Qp]
    ·simp only[if_true,Qp,QY3,QRd,inc hi ht,ih]
     cases decide (((t[i].length:Nat):Int)=5)<;>simp)
  (by
    apply QaT
    simp[yV])
 simp only[QQ6,QRg]at e
 simp only[QdH,e,QQ0,Q8,ZX]
 cases t.all V1
 ·simp[Qp]
 ·simp only[if_true,Qp,QY3,QRn]
  cases inR n 1 5<;>simp
theorem Qsf (t:List (List Int)) (n:Int) (ht:t.length<=maxLen) (hr:∀r∈t,r.length<=maxLen):jF w (t,n)=some (ZX t n):=by
 apply Qnr
 by_cases h2:((t.length:Nat):Int)=n
 ·subst h2
  have inner:∀(i:Nat) (hi:i<t.length),Ya wl (t,((t.length:Nat):Int),(i:Int),0)=some (if t[i].all (fun x=>inR x 0 1000)then .inr (t,((t.length:Nat):Int),(i:Int))else .inl false):=by
   intro i hi
   have hx:=hr _ (QRf hi)
   have e:=QW t[i].length (fun k=>Ya wl (t,((t.length:Nat):Int),(i:Int),(k:Int))) (fun k=>if(t[i].drop k).all (fun x=>inR x 0 1000)then .inr (t,((t.length:Nat):Int),(i:Int))else .inl false)
    (fun k hk ih=>by
      apply QbD
      rw[X2 (fun x=>inR x 0 1000) t[i] _ _ hk]
      simp only[ve,Qo hi,Qj hi,ilt hk,Qo hk,Qj hk,inc hk hx,QQ1,XD,QQ0,ih]
      cases inR t[i][k] 0 1000<;>simp)
    (by
      apply QbD
      simp only[ve,Qo hi,Qj hi,Qw,QQ1,QQ2,Qoj])
   simpa using e
  have e:=QW t.length (fun i=>Km wl (t,((t.length:Nat):Int),(i:Int))) (fun i=>if(t.drop i).all V1 then .inr ()else .inl false)
   (fun i hi ih=>by
     apply Qbp
     rw[X2 V1 t _ _ hi]
     simp only[yo,ilt hi,Qo hi,Qj hi,QQ1,inner i hi,QQ0,V1]
     cases h5:decide (((t[i].length:Nat):Int)=5)
     ·simp
     ·cases t[i].all fun x=>inR x 0 1000
      ·simp[Qp]
      ·simp only[if_true,Qp,QY3,QRd,QQ3,QQ2,QQ1,inc hi ht,ih])
   (by
     apply Qbp
     simp[yo])
  simp only[QQ6,QRg]at e
  simp only[zc,e,QQ0,XD,ZX]
  cases inR ((t.length:Nat):Int) 1 5
  ·simp
  ·cases t.all V1<;>simp[Qp]
 ·simp only[zc,XD,QQ0,ZX,df h2]
  cases inR n 1 5<;>simp
def Qdr:Int->List Int->Int
 |m,[]=>m
 |m,x::l=>Qdr (mxI m x) l
theorem Qtu (b:Int):(m:Int)->(l:List Int)->(decide (b<Qdr m l)= !(decide (m<=b)&&l.all fun x=>decide (x<=b)))
 |m,[]=>by
  by_cases h:m<=b
  ·rw[Qdr,dt h,df (show¬b<m by omega)];simp
  ·rw[Qdr,df h,dt (show b<m by omega)];simp
 |m,x::l=>by
  rw[Qdr,Qtu b (mxI m x) l,QY20]
  have:decide (mxI m x<=b)=(decide (m<=b)&&decide (x<=b)):=by
   unfold mxI
   split
   ·by_cases h:x<=b
    ·simp[h];omega
    ·simp[h]
   ·by_cases h:m<=b
    ·simp[h];omega
    ·simp[h]
  rw[this,Bool.and_assoc]
theorem QAm (a:Int) (l:List Int) (h:(a::l).length<=maxLen):Yi w (a::l)=some (Qdr a l):=by
 apply Qip
 have main:∀n i (m:Int),1<=i->i+n=(a::l).length->XT wl (a::l,m,(i:Int))=some (Qdr m ((a::l).drop i)):=by
  intro n
  induction n with
  |zero=>
   intro i m h1 hi
   apply qN
   have:i=(a::l).length:=by omega
   rw[this]
   simp only[VQ,Qw,QQ2,QRl,Qdr]
  |succ n ih=>
   intro i m h1 hi
   have hi':i<(a::l).length:=by omega
   apply qN
   simp only[VQ,ilt hi',Qo hi',Qj hi',inc hi' h,QQ1,ih (i+1) _ (by omega) (by omega)]
   rw[QRa hi',Qdr]
 have e:=main l.length 1 a (by omega) (by simp;omega)
 simp only[List.drop_succ_cons,QRg]at e
 have h0:0<(a::l).length:=by simp
 have e0:inb 0 (a::l).length=true:=Qo h0
 have e1:rd1 (0:Int) (a::l) 0=a:=rfl
 have e:XT wl (a::l,a,1)=some (Qdr a l):=e
 simp only[zx,df (show¬(((a::l).length:Nat):Int)<1 by simp;omega),QQ2,e0,QQ1,e1,e,QQ0]
def Zo (clock:Int) (r:QY):Bool:=inR r.1 0 1000&&inR r.2.1 0 100000&&inR r.2.2 0 clock
theorem Qub (a0 a1:Int) (a2:List Qf) (a3:List Qb) (a4:List Int) (a5 a6 a7:Int) (a8:List Qk) (a9 a10:List Int) (a11:List (List Int)) (a12 a13:Int) (a14:List QI) (a15 a16 a17:Int) (a18:List QY) (h:a18.length<=maxLen):yW w (a0,a1,a2,a3,a4,a5,a6,a7,a8,a9,a10,a11,a12,a13,a14,a15,a16,a17,a18)=some ((a18.all (Zo a17))&&decide (((a18.length:Nat):Int)=5)):=by
 apply Qmf
 have e:=QW a18.length (fun i=>Kc wl (a18,((a18.length:Nat):Int),(i:Int),a0,a1,a2,a3,a4,a5,a6,a7,a8,a9,a10,a11,a12,a13,a14,a15,a16,a17,a18)) (fun i=>if(a18.drop i).all (Zo a17)then .inr (a0,a1,a2,a3,a4,a5,a6,a7,a8,a9,a10,a11,a12,a13,a14,a15,a16,a17,a18)else .inl false)
  (fun i hi ih=>by
    apply Qbm
    rw[X2 (Zo a17) a18 _ _ hi]
    simp only[jk,ilt hi,Qo hi,Qj hi,inc hi h,QQ1,Q8,QQ0,ih,Zo]
    cases inR a18[i].1 0 1000<;>cases inR a18[i].2.1 0 100000<;>cases inR a18[i].2.2 0 a17<;>simp)
  (by
    apply Qbm
    simp[jk])
 simp only[QQ6,QRg]at e
 simp only[Qen,e,QQ0]
 cases a18.all (Zo a17)
 ·simp[Qp]
 ·simp only[if_true,Qp,QY3,QRd]
def XV (x y:QI):Bool:=decide (y.1=x.1)&&(y.2.2.1==x.2.2.1)
def ZN (p:Int) (b:Bool):Nat->List QI->Int⊕Unit
 |_,[]=> .inr ()
 |i,y::l=>bif decide (y.1=p)&&(y.2.2.1==b)then .inl (i:Nat)else ZN p b (i+1) l
def Ky:Int⊕Unit->Int
 | .inl i=>i
 | .inr _=> -1
theorem QtT (z:Int⊕Unit):Qp z (fun u=>some u) (fun _=>some (-1))=some (Ky z):=by cases z<;>rfl
theorem Qzo (a0 a1:Int) (a2:List Qf) (a3:List Qb) (a4:List Int) (a5 a6 a7:Int) (a8:List Qk) (a9 a10:List Int) (a11:List (List Int)) (a12 a13:Int) (a14:List QI) (a15 a16 a17:Int) (a18:List QY) (p:Int) (b:Bool) (h:a14.length<=maxLen):Qe9 w (a0,a1,a2,a3,a4,a5,a6,a7,a8,a9,a10,a11,a12,a13,a14,a15,a16,a17,a18,p,b)=some (Ky (ZN p b 0 a14)):=by
 apply QrY
 have e:=QW a14.length (fun i=>Vp wl (p,b,a14,((a14.length:Nat):Int),(i:Int))) (fun i=>ZN p b i (a14.drop i))
  (fun i hi ih=>by
    apply QfT
    simp only[Qed,ilt hi,Qo hi,Qj hi,inc hi h,QQ1,ih]
    rw[QRa hi,ZN]
    cases decide (a14[i].1=p)<;>cases(a14[i].2.2.1==b)<;>simp)
  (by
    apply QfT
    simp[Qed,ZN])
 simp only[QQ6,QRg]at e
 simp only[Qir,e,QQ0,QtT]
theorem Qtv (x:QI):(off:Nat)->(l:List QI)->(i:Nat)->(h:i<l.length)->l[i]=x->((off:Int)<=Ky (ZN x.1 x.2.2.1 off l)/\Ky (ZN x.1 x.2.2.1 off l)<=off+i/\(Ky (ZN x.1 x.2.2.1 off l)=off+i↔(l.take i).any (XV x)=false))
 |off,y::l,0,_,hx=>by
  have:y=x:=hx
  subst this
  simp[ZN,Ky]
 |off,y::l,i+1,h,hx=>by
  have ih:=Qtv x (off+1) l i (by simpa using h) (by simpa using hx)
  rw[ZN]
  have hk:(decide (y.1=x.1)&&(y.2.2.1==x.2.2.1))=XV x y:=rfl
  rw[hk,List.take_succ_cons,List.any_cons]
  cases XV x y
  ·simp only[QQ2,Bool.false_or]
   refine⟨by omega,by omega, ?_⟩
   rw[<-ih.2.2];omega
  ·simp only[QQ1,Bool.true_or,Ky]
   refine⟨by omega,by omega, ?_⟩
   constructor
   ·intro h;omega
   ·intro h;cases h
def Qdu (id n p:Int):Bool:=inR p 0 (n - 1)&& !decide (p=id)
theorem QvS (a0 a1:Int) (a2:List Qf) (a3:List Qb) (a4:List Int) (a5 a6 a7:Int) (a8:List Qk) (a9 a10:List Int) (a11:List (List Int)) (a12 a13:Int) (a14:List QI) (a15 a16 a17:Int) (a18:List QY) (p:Int) (hn:inR a1 1 5=true):Qag w (a0,a1,a2,a3,a4,a5,a6,a7,a8,a9,a10,a11,a12,a13,a14,a15,a16,a17,a18,p)=some (Qdu a0 a1 p):=by
 apply Qn7
 simp[inR]at hn
 simp only[QfD,Qdu]
 rw[w64 (by omega) (by omega),Q8,QQ0]
 cases inR p 0 (a1 - 1)<;>simp
def Y6 (id n wait:Int) (x:QI):Bool:=Qdu id n x.1&&inR x.2.1 0 100000&&inR x.2.2.2 0 wait
def XA (id n wait:Int):List QI->List QI->Bool
 |_,[]=>true
 |pre,x::l=>Y6 id n wait x&& !pre.any (XV x)&&XA id n wait (pre++[x]) l
theorem QlH {R:Type}(id n wait:Int) (l:List QI) (x y:R) {i:Nat}(hi:i<l.length):
 (if XA id n wait (l.take i) (l.drop i)then x else y)=(bif Y6 id n wait l[i]&& !(l.take i).any (XV l[i])then(if XA id n wait (l.take (i+1)) (l.drop (i+1))then x else y)else y):=by
 rw[QRa hi,XA]
 have:l.take i++[l[i]]=l.take (i+1):=by rw[List.take_add_one];simp[hi]
 rw[this]
 cases Y6 id n wait l[i]&& !(l.take i).any (XV l[i])<;>simp
theorem Qwx (a0 a1:Int) (a2:List Qf) (a3:List Qb) (a4:List Int) (a5 a6 a7:Int) (a8:List Qk) (a9 a10:List Int) (a11:List (List Int)) (a12 a13:Int) (a14:List QI) (a15 a16 a17:Int) (a18:List QY) (hn:inR a1 1 5=true) (h:a14.length<=maxLen):QaK w (a0,a1,a2,a3,a4,a5,a6,a7,a8,a9,a10,a11,a12,a13,a14,a15,a16,a17,a18)=some (XA a0 a1 a15 [] a14&&(inR a13 1 4&&decide (((a14.length:Nat):Int)<=a13))):=by
 apply Qop
 have e:=QW a14.length (fun i=>Vo wl (a14,((a14.length:Nat):Int),(i:Int),a0,a1,a2,a3,a4,a5,a6,a7,a8,a9,a10,a11,a12,a13,a14,a15,a16,a17,a18)) (fun i=>if XA a0 a1 a15 (a14.take i) (a14.drop i)then .inr (a0,a1,a2,a3,a4,a5,a6,a7,a8,a9,a10,a11,a12,a13,a14,a15,a16,a17,a18)else .inl false)
  (fun i hi ih=>by
    apply Qci
    rw[QlH a0 a1 a15 a14 _ _ hi]
    have hs:=Qtv a14[i] 0 a14 i hi rfl
    have hs':decide (Ky (ZN a14[i].1 a14[i].2.2.1 0 a14)=(i:Int))= !(a14.take i).any (XV a14[i]):=by
     cases hb:(a14.take i).any (XV a14[i])
     ·rw[dt (by have:=hs.2.2.2 hb;omega)];rfl
     ·rw[df (fun h=>by have:=hs.2.2.1 (by omega);rw[hb]at this;cases this)];rfl
    simp only[vT,ilt hi,Qo hi,Qj hi,inc hi h,QQ1,QvS a0 a1 a2 a3 a4 a5 a6 a7 a8 a9 a10 a11 a12 a13 a14 a15 a16 a17 a18 _ hn,Qzo a0 a1 a2 a3 a4 a5 a6 a7 a8 a9 a10 a11 a12 a13 a14 a15 a16 a17 a18 _ _ h,Q8,QQ0,ih,Y6,hs']
    cases Qdu a0 a1 a14[i].1<;>cases inR a14[i].2.1 0 100000<;>cases inR a14[i].2.2.2 0 a15<;>cases(a14.take i).any (XV a14[i])<;>simp)
  (by
    apply Qci
    simp[vT,XA])
 simp only[QQ6,QRg,List.take_zero]at e
 simp only[Qf3,e,QQ0]
 cases XA a0 a1 a15 [] a14
 ·simp[Qp]
 ·simp only[if_true,Qp,QY3,QRd,Q8,QQ0]
  cases inR a13 1 4<;>simp
theorem Qvr (a0 a1:Int) (a2:List Qf) (a3:List Qb) (a4:List Int) (a5 a6 a7:Int) (a8:List Qk) (a9 a10:List Int) (a11:List (List Int)) (a12 a13:Int) (a14:List QI) (a15 a16 a17:Int) (a18:List QY) (hn:inR a1 1 5=true) (h:a14.length<=maxLen):jv w (a0,a1,a2,a3,a4,a5,a6,a7,a8,a9,a10,a11,a12,a13,a14,a15,a16,a17,a18)=some (decide (((a14.length:Nat):Int)<=a13)&&XA a0 a1 a15 [] a14):=by
 apply QmE
 have hn':=hn
 simp[inR]at hn'
 have inner:∀(i:Nat) (hi:i<a14.length) (b4:Bool) (x5:Int) (b6 b7:Bool) (x8 x9:Int) (b10 b11:Bool) (q:QI) (x2 x3:Int),
  Zn wl ((i:Int),0,x2,x3,b4,x5,b6,b7,x8,x9,b10,b11,a0,a1,a2,a3,a4,a5,a6,a7,a8,a9,a10,a11,a12,a13,a14,a15,a16,a17,a18,q)=some (bif (a14.take i).any (XV q)then .inl false else .inr ((i:Int),x2,x3,b4,x5,b6,b7,x8,x9,b10,b11,a0,a1,a2,a3,a4,a5,a6,a7,a8,a9,a10,a11,a12,a13,a14,a15,a16,a17,a18,q)):=by
  intro i hi b4 x5 b6 b7 x8 x9 b10 b11 q x2 x3
  have e:=QW i (fun k=>Zn wl ((i:Int),(k:Int),x2,x3,b4,x5,b6,b7,x8,x9,b10,b11,a0,a1,a2,a3,a4,a5,a6,a7,a8,a9,a10,a11,a12,a13,a14,a15,a16,a17,a18,q)) (fun k=>bif ((a14.take i).drop k).any (XV q)then .inl false else .inr ((i:Int),x2,x3,b4,x5,b6,b7,x8,x9,b10,b11,a0,a1,a2,a3,a4,a5,a6,a7,a8,a9,a10,a11,a12,a13,a14,a15,a16,a17,a18,q))
   (fun k hk ih=>by
     apply QbA
     have hk':k<a14.length:=by omega
     have hk2:k<(a14.take i).length:=by simp;omega
     rw[QRa hk2,List.any_cons,List.getElem_take]
     simp only[jb,ilt hk,Qo hk',Qj hk',inc hk (show i<=maxLen by omega),QQ1,ih,XV]
     cases decide (a14[k].1=q.1)<;>cases(a14[k].2.2.1==q.2.2.1)<;>simp)
   (by
     apply QbA
     simp only[jb,Qw,QQ2]
     rw[List.drop_of_length_le (by simp;omega)];simp)
  simpa using e
 have e:=QW a14.length (fun i=>Ki wl ((i:Int),a0,a1,a2,a3,a4,a5,a6,a7,a8,a9,a10,a11,a12,a13,a14,a15,a16,a17,a18)) (fun i=>if XA a0 a1 a15 (a14.take i) (a14.drop i)then .inr ()else .inl false)
  (fun i hi ih=>by
    apply Qbz
    rw[QlH a0 a1 a15 a14 _ _ hi]
    simp only[yO,ilt hi,Qo hi,Qj hi,QQ1,XD,QQ0,Y6,Qdu]
    rw[w64 (n:=a1 - 1) (by omega) (by omega)]
    cases h1:inR a14[i].1 0 (a1 - 1)
    ·simp
    ·cases h2:decide (a14[i].1=a0)
     ·cases h3:inR a14[i].2.1 0 100000
      ·simp
      ·cases h4:inR a14[i].2.2.2 0 a15
       ·simp
       ·simp only[QQ3,QQ2,QQ4,QRn,QRd,inner i hi,QQ0]
        cases(a14.take i).any (XV a14[i])
        ·simp only[QQ2,Qp,QY3,inc hi h,ih,QQ4,QQ1]
        ·simp[Qp]
     ·simp)
  (by
    apply Qbz
    simp[yO,XA])
 simp only[QQ6,QRg,List.take_zero]at e
 simp only[QdV,e,QQ0]
 by_cases hl:((a14.length:Nat):Int)<=a13
 ·simp only[df (show¬a13<((a14.length:Nat):Int) by omega),QQ2,dt hl,QRd]
  cases XA a0 a1 a15 [] a14<;>simp[Qp]
 ·simp only[dt (show a13<((a14.length:Nat):Int) by omega),QQ1,df hl,QRm]
def QiT (a0 a1:Int) (a2:List Qf) (a3:List Qb) (a4:List Int) (a5 a6 a7:Int) (a8:List Qk) (a9 a10:List Int) (a11:List (List Int)) (a12 a13:Int) (a14:List QI) (a15 a16 a17:Int) (a18:List QY):Bool:=
 inR a1 1 5&&inR a0 0 (a1 - 1)&&QF (a2,a3)&&decide ((a4,a5)=YA (a2,a3))&&Vf (a6,a7,a8)&&ZA a9 a1&&ZA a10 a1&&decide (a9.getD a0.toNat 0=Xg (a6,a7,a8))&&(a10.all fun x=>decide (x<=Xg (a6,a7,a8)))&&
  ZX a11 a1&&inR a12 0 100000&&inR a17 0 100000&&inR a15 1 20&&inR a16 1 50&&inR a13 1 4&&decide (((a14.length:Nat):Int)<=a13)&&XA a0 a1 a15 [] a14&&decide (((a18.length:Nat):Int)=5)&&a18.all (Zo a17)
def smN (a2:List Qf) (a3:List Qb) (a4:List Int) (a8:List Qk) (a9 a10:List Int) (a11:List (List Int)) (a14:List QI) (a18:List QY):Prop:=
 a2.length<=maxLen/\a3.length<=maxLen/\a4.length<=maxLen/\a8.length<=maxLen/\(∀s∈a8,s.1.length<=maxLen/\s.2.length<=maxLen)/\a9.length<=maxLen/\a10.length<=maxLen/\a11.length<=maxLen/\(∀r∈a11,r.length<=maxLen)/\a14.length<=maxLen/\a18.length<=maxLen
theorem QsQ (a:List Int) (b:Int) (c:List Int) (d:Int) (h:a.length<=maxLen):xu w (a,b,c,d)=some (decide ((a,b)=(c,d))):=by
 apply QkZ
 simp only[Qcb,QxT a c h,QQ0]
 by_cases h1:a=c
 ·by_cases h2:b=d
  ·simp[h1,h2]
  ·simp[h1,h2]
 ·simp[h1]
theorem QuU (a:List Int) (b:Int) (c:List Int) (d:Int) (h:a.length<=maxLen):yI w (a,b,c,d)=some (decide ((a,b)=(c,d))):=by
 apply Qmk
 simp only[Qdg,Qwg a c h,QQ0]
 by_cases h1:a=c
 ·by_cases h2:b=d
  ·simp[h1,h2]
  ·simp[h1,h2]
 ·simp[h1]
theorem QwG (a0 a1:Int) (a2:List Qf) (a3:List Qb) (a4:List Int) (a5 a6 a7:Int) (a8:List Qk) (a9 a10:List Int) (a11:List (List Int)) (a12 a13:Int) (a14:List QI) (a15 a16 a17:Int) (a18:List QY) (h:smN a2 a3 a4 a8 a9 a10 a11 a14 a18):xd w (a0,a1,a2,a3,a4,a5,a6,a7,a8,a9,a10,a11,a12,a13,a14,a15,a16,a17,a18)=some (QiT a0 a1 a2 a3 a4 a5 a6 a7 a8 a9 a10 a11 a12 a13 a14 a15 a16 a17 a18):=by
 obtain⟨h2,h3,h4,h8,h8',h9,h10,h11,h11',h14,h18⟩:=h
 apply QnQ
 simp only[QfC,Q8,QQ0,QiT]
 cases q1:inR a1 1 5
 ·simp
 have q1':=q1
 simp[inR]at q1'
 rw[w64 (n:=a1 - 1) (by omega) (by omega)]
 simp only[QQ3,QQ2,QRd]
 cases q0:inR a0 0 (a1 - 1)
 ·simp
 simp[inR]at q0
 simp only[QQ3,QQ2,QRd,Ym a2 a3 h2 h3,QQ0]
 cases q2:QF (a2,a3)
 ·simp
 simp only[QQ3,QQ2,QRd,Qwd a2 a3 h2 h3,QQ0,QsQ a4 a5 _ _ h4]
 cases q4:decide ((a4,a5)=YA (a2,a3))
 ·have:decide ((a4,a5)=((YA (a2,a3))))=false:=q4
  simp[this]
 have q4':decide ((a4,a5)=((YA (a2,a3))))=true:=q4
 simp only[q4',QQ3,QQ2,QRd,QwF a6 a7 a8 h8 h8',QrG a6 a7 a8 h8 h8',QQ0]
 cases q6:Vf (a6,a7,a8)
 ·simp
 simp only[QQ3,QQ2,QRd,QqX a9 a1 h9,QqX a10 a1 h10,QQ0]
 cases q9:ZA a9 a1
 ·simp
 cases q10:ZA a10 a1
 ·simp
 have l9:((a9.length:Nat):Int)=a1:=by simp[ZA]at q9;exact q9.1.2
 have l10:((a10.length:Nat):Int)=a1:=by simp[ZA]at q10;exact q10.1.2
 have i0:inb a0 a9.length=true:=by simp[inb];omega
 simp only[QQ3,QQ2,QRd,i0,QQ1,rd1]
 by_cases qg:a9.getD a0.toNat 0=Xg (a6,a7,a8)
 case neg=>simp only[qg,decide_false,QQ4,QQ1,QY15,QRm]
 simp only[qg,decide_true]
 cases hc:a10 with
 |nil=>rw[hc]at l10;simp at l10;omega
 |cons m l=>
  rw[<-hc]
  have hm:Yi w a10=some (Qdr m l):=by rw[hc];exact QAm m l (by rw[<-hc];exact h10)
  have hall:(a10.all fun x=>decide (x<=Xg (a6,a7,a8)))=(decide (m<=Xg (a6,a7,a8))&&l.all fun x=>decide (x<=Xg (a6,a7,a8))):=by rw[hc];rfl
  simp only[QQ3,QQ2,QRd,hm,QQ0,Qtu,hall]
  cases decide (m<=Xg (a6,a7,a8))&&l.all fun x=>decide (x<=Xg (a6,a7,a8))
  ·simp
  simp only[QQ3,QQ2,QRd,Qvi a11 a1 h11 h11',QQ0]
  cases ZX a11 a1
  ·simp
  simp only[QQ3,QQ2,QRd,Qwx a0 a1 a2 a3 a4 a5 a6 a7 a8 a9 a10 a11 a12 a13 a14 a15 a16 a17 a18 q1 h14,Qub a0 a1 a2 a3 a4 a5 a6 a7 a8 a9 a10 a11 a12 a13 a14 a15 a16 a17 a18 h18,QQ0]
  cases inR a12 0 100000<;>cases inR a17 0 100000<;>cases inR a15 1 20<;>cases inR a16 1 50<;>cases inR a13 1 4<;>cases decide (((a14.length:Nat):Int)<=a13)<;>cases XA a0 a1 a15 [] a14<;>cases decide (((a18.length:Nat):Int)=5)<;>cases a18.all (Zo a17)<;>rfl
theorem Qvl (a0 a1:Int) (a2:List Qf) (a3:List Qb) (a4:List Int) (a5 a6 a7:Int) (a8:List Qk) (a9 a10:List Int) (a11:List (List Int)) (a12 a13:Int) (a14:List QI) (a15 a16 a17:Int) (a18:List QY) (h:smN a2 a3 a4 a8 a9 a10 a11 a14 a18):xl w (a0,a1,a2,a3,a4,a5,a6,a7,a8,a9,a10,a11,a12,a13,a14,a15,a16,a17,a18)=some (QiT a0 a1 a2 a3 a4 a5 a6 a7 a8 a9 a10 a11 a12 a13 a14 a15 a16 a17 a18):=by
 obtain⟨h2,h3,h4,h8,h8',h9,h10,h11,h11',h14,h18⟩:=h
 apply QoU
 simp only[Qfz,XD,QQ0,QiT]
 cases q1:inR a1 1 5
 ·simp
 have q1':=q1
 simp[inR]at q1'
 rw[w64 (n:=a1 - 1) (by omega) (by omega)]
 simp only[QQ3,QQ2,QRd]
 cases q0:inR a0 0 (a1 - 1)
 ·simp
 simp[inR]at q0
 simp only[QQ3,QQ2,QRd,KV a2 a3 h2 h3,QQ0]
 cases q2:QF (a2,a3)
 ·simp
 simp only[QQ3,QQ2,QRd,Qvg a2 a3 h2 h3,QQ0,QuU a4 a5 _ _ h4]
 cases q4:decide ((a4,a5)=YA (a2,a3))
 ·have:decide ((a4,a5)=((YA (a2,a3))))=false:=q4
  simp[this]
 have q4':decide ((a4,a5)=((YA (a2,a3))))=true:=q4
 simp only[q4',QQ3,QQ2,QRd,Qmw a6 a7 a8 h8 h8',QpB a6 a7 a8 h8 h8',QQ0]
 cases q6:Vf (a6,a7,a8)
 ·simp
 simp only[QQ3,QQ2,QRd,QpC a9 a1 h9,QpC a10 a1 h10,QQ0]
 cases q9:ZA a9 a1
 ·simp
 cases q10:ZA a10 a1
 ·simp
 have l9:((a9.length:Nat):Int)=a1:=by simp[ZA]at q9;exact q9.1.2
 have l10:((a10.length:Nat):Int)=a1:=by simp[ZA]at q10;exact q10.1.2
 have i0:inb a0 a9.length=true:=by simp[inb];omega
 simp only[QQ3,QQ2,QRd,i0,QQ1,rd1]
 by_cases qg:a9.getD a0.toNat 0=Xg (a6,a7,a8)
 case neg=>simp only[qg,decide_false,QQ4,QQ1,QY15,QRm]
 simp only[qg,decide_true]
 simp only[QQ3,QQ2,QRd,Qsf a11 a1 h11 h11',QQ0]
 cases qt:ZX a11 a1
 ·simp
 have e0:=QW a10.length (fun i=>Vm wl ((i:Int),a0,a1,a2,a3,a4,a5,a6,a7,a8,a9,a10,a11,a12,a13,a14,a15,a16,a17,a18)) (fun i=>if(a10.drop i).all (fun x=>decide (x<=Xg (a6,a7,a8)))then .inr (a0,a1,a2,a3,a4,a5,a6,a7,a8,a9,a10,a11,a12,a13,a14,a15,a16,a17,a18)else .inl false)
  (fun i hi ih=>by
    apply Qcv
    rw[X2 (fun x=>decide (x<=Xg (a6,a7,a8))) a10 _ _ hi]
    have hi':(i:Int)<a1:=by omega
    simp only[vO,dt hi',Qo hi,Qj hi,inc hi h10,QQ1,Qmw a6 a7 a8 h8 h8',QQ0,ih]
    by_cases hx:a10[i]<=Xg (a6,a7,a8)
    ·simp only[df (show¬Xg (a6,a7,a8)<a10[i] by omega),QQ2,dt hx,QQ1]
    ·simp only[dt (show Xg (a6,a7,a8)<a10[i] by omega),QQ1,df hx,QQ2])
  (by
    apply Qcv
    have:¬((a10.length:Nat):Int)<a1:=by omega
    simp only[vO,df this,QQ2,Qoj])
 simp only[QQ6,QRg]at e0
 simp only[QQ3,QQ2,QRd,e0,QQ0]
 cases qa:a10.all fun x=>decide (x<=Xg (a6,a7,a8))
 ·simp[Qp]
 simp only[if_true,Qp,QY3,QRn]
 cases inR a12 0 100000
 ·simp
 cases inR a17 0 100000
 ·simp
 cases inR a13 1 4
 ·simp
 cases inR a15 1 20
 ·simp
 cases inR a16 1 50
 ·simp
 simp only[QQ3,QQ2,QRd,QRn]
 cases q5:decide (((a18.length:Nat):Int)=5)
 ·simp
 have l5:a18.length=5:=by simp at q5;omega
 have e2:=QW a18.length (fun i=>Vj wl ((i:Int),a0,a1,a2,a3,a4,a5,a6,a7,a8,a9,a10,a11,a12,a13,a14,a15,a16,a17,a18)) (fun i=>if(a18.drop i).all (Zo a17)then .inr (a0,a1,a2,a3,a4,a5,a6,a7,a8,a9,a10,a11,a12,a13,a14,a15,a16,a17,a18)else .inl false)
  (fun i hi ih=>by
    apply Qcu
    rw[X2 (Zo a17) a18 _ _ hi]
    have hi':(i:Int)<5:=by omega
    simp only[vV,dt hi',Qo hi,Qj hi,inc hi h18,QQ1,XD,QQ0,ih,Zo]
    cases inR a18[i].1 0 1000<;>cases inR a18[i].2.1 0 100000<;>cases inR a18[i].2.2 0 a17<;>simp)
  (by
    apply Qcu
    have:¬((a18.length:Nat):Int)<5:=by omega
    simp only[vV,df this,QQ2,Qoj])
 simp only[QQ6,QRg]at e2
 simp only[QQ3,QQ2,e2,QQ0]
 cases a18.all (Zo a17)
 ·simp
 simp only[if_true,QY3,Qvr a0 a1 a2 a3 a4 a5 a6 a7 a8 a9 a10 a11 a12 a13 a14 a15 a16 a17 a18 q1 h14,QQ0,QRn]
def smS (s:Qk):Prop:=s.1.length<=maxLen/\s.2.length<=maxLen
def Jl (r:Int×Int×Int×Int×ByteArray×Bool):X6:=(r.1,r.2.1,r.2.2.1,r.2.2.2.1,r.2.2.2.2.1)
def most (id:Int):X6->List Qk->X6
 |m,[]=>m
 |m,s::l=>bif (XE id s.1).2.2.2.2.2&&QF s then most id (QiP m (Jl (XE id s.1))) l else most id m l
def qJ (x:Qi):Bool:=QiT x.1 x.2.1 x.2.2.1 x.2.2.2.1 x.2.2.2.2.1 x.2.2.2.2.2.1 x.2.2.2.2.2.2.1 x.2.2.2.2.2.2.2.1 x.2.2.2.2.2.2.2.2.1 x.2.2.2.2.2.2.2.2.2.1 x.2.2.2.2.2.2.2.2.2.2.1 x.2.2.2.2.2.2.2.2.2.2.2.1 x.2.2.2.2.2.2.2.2.2.2.2.2.1 x.2.2.2.2.2.2.2.2.2.2.2.2.2.1 x.2.2.2.2.2.2.2.2.2.2.2.2.2.2.1 x.2.2.2.2.2.2.2.2.2.2.2.2.2.2.2.1 x.2.2.2.2.2.2.2.2.2.2.2.2.2.2.2.2.1 x.2.2.2.2.2.2.2.2.2.2.2.2.2.2.2.2.2.1 x.2.2.2.2.2.2.2.2.2.2.2.2.2.2.2.2.2.2
def Qqy (x:Qi):Prop:=smN x.2.2.1 x.2.2.2.1 x.2.2.2.2.1 x.2.2.2.2.2.2.2.2.1 x.2.2.2.2.2.2.2.2.2.1 x.2.2.2.2.2.2.2.2.2.2.1 x.2.2.2.2.2.2.2.2.2.2.2.1 x.2.2.2.2.2.2.2.2.2.2.2.2.2.2.1 x.2.2.2.2.2.2.2.2.2.2.2.2.2.2.2.2.2.2
theorem Qw1 (x:Qi) (h:Qqy x):xd w x=some (qJ x):=QwG _ _ _ _ _ _ _ _ _ _ _ _ _ _ _ _ _ _ _ h
theorem Qwq (x:Qi) (h:Qqy x):xl w x=some (qJ x):=Qvl _ _ _ _ _ _ _ _ _ _ _ _ _ _ _ _ _ _ _ h
theorem QxY (x:Qi) (h:Qc8 x):Qqy x:=by
 simp only[Qc8,J3,Qh3,Qf7,QgK,Qc5,Qjr,Qjz,QkE,QkW,Qk1]at h
 obtain⟨⟨⟨h2,_⟩,h3⟩,h4,⟨h8,h8'⟩,h9,h10,⟨h11,h11'⟩,h14,h18⟩:=h
 exact⟨h2,h3,h4,h8,fun s hs=>⟨(h8' s hs).1.1,(h8' s hs).2⟩,h9,h10,h11,h11',h14,h18⟩
def ZD (n:Int):Nat->List Qi->Bool
 |_,[]=>true
 |i,x::l=>(qJ x&&(decide (x.2.1=n)&&decide (x.1=(i:Int))))&&ZD n (i+1) l
def Qh1 (n:Int) (p:QD):Bool:=inR p.1 0 (n - 1)
def Qe3 (n:Int) (x:QE):Bool:=inR x.1 0 (n - 1)&&QF x.2
def Jo (ns:List Qi) (net:List QD) (sd:List QE):Bool:=inR ((ns.length:Nat):Int) 1 5&&(!decide (12<((net.length:Nat):Int))&&(!decide (40<((sd.length:Nat):Int))&&(ZD (ns.length:Nat) 0 ns&&(net.all (Qh1 (ns.length:Nat))&&sd.all (Qe3 (ns.length:Nat))))))
def smW (ns:List Qi) (net:List QD) (sd:List QE):Prop:=ns.length<=maxLen/\(∀x∈ns,Qqy x)/\net.length<=maxLen/\(∀p∈net,p.2.1.length<=maxLen)/\sd.length<=maxLen/\∀x∈sd,x.2.1.length<=maxLen/\x.2.2.length<=maxLen
theorem QyH {ns:List Qi}{net:List QD}{sd:List QE}(h:vR (ns,net,sd)):smW ns net sd:=by
 simp only[vR,QkF,Qk8,QkS]at h
 refine⟨h.1.1,fun x hx=>QxY x (h.1.2 x hx),h.2.1.1,fun p hp=> ?_,h.2.2.1,fun x hx=> ?_⟩
 ·have:=h.2.1.2 p hp
  simpa only[Qhm,QkM]using this
 ·have:=h.2.2.2 x hx
  simp only[QgO,J3,Qh3,Qf7]at this
  exact⟨this.1.1,this.2⟩
theorem Qj5 {R:Type}(n:Int) (l:List Qi) (x y:R) {i:Nat}(hi:i<l.length):(if ZD n i (l.drop i)then x else y)=(bif qJ l[i]then(bif decide (l[i].2.1=n)then(bif decide (l[i].1=(i:Int))then(if ZD n (i+1) (l.drop (i+1))then x else y)else y)else y)else y):=by
 rw[QRa hi,ZD]
 cases qJ l[i]<;>cases decide (l[i].2.1=n)<;>cases decide (l[i].1=(i:Int))<;>simp
theorem QmO (ns:List Qi) (net:List QD) (sd:List QE) (i:Int) (h:ns.length<=maxLen):J2 w (ns,net,sd,i)=some (inR i 0 (((ns.length:Nat):Int) - 1)):=by
 apply Qm9
 simp only[maxLen]at h
 have:wR (((ns.length:Nat):Int) - 1)=((ns.length:Nat):Int) - 1:=w64 (by omega) (by omega)
 simp only[QdI,this,Q8,QQ0]
theorem QqM {A S R:Type}(c:Bool) (s:S) (r:A) (f:A->Option R) (g:S->Option R):Qp (if c=true then Sum.inr s else Sum.inl r) f g=bif c then g s else f r:=by cases c<;>rfl
theorem Qvn (ns:List Qi) (net:List QD) (sd:List QE) (h:smW ns net sd):j6 w (ns,net,sd)=some (Jo ns net sd):=by
 apply QmI
 obtain⟨h1,h2,h3,h4,h5,h6⟩:=h
 have e1:=QW ns.length (fun i=>KF wl (ns,((ns.length:Nat):Int),(i:Int),ns,net,sd)) (fun i=>if ZD (ns.length:Nat) i (ns.drop i)then .inr (ns,net,sd)else .inl false)
  (fun i hi ih=>by
    apply QaP
    simp only[yX,ilt hi,Qo hi,Qj hi,inc hi h1,QQ1,ih,Qw1 _ (h2 _ (QRf hi)),QQ0,Qj5 _ _ _ _ hi]
    cases qJ ns[i]<;>cases decide (ns[i].2.1=((ns.length:Nat):Int))<;>cases decide (ns[i].1=(i:Int))<;>simp)
  (by
    apply QaP
    simp[yX,ZD])
 have e2:=QW net.length (fun i=>Kz wl (net,((net.length:Nat):Int),(i:Int),ns,net,sd)) (fun i=>if(net.drop i).all (Qh1 (ns.length:Nat))then .inr (ns,net,sd)else .inl false)
  (fun i hi ih=>by
    apply Qbv
    simp only[jR,ilt hi,Qo hi,Qj hi,inc hi h3,QQ1,ih,QmO _ _ _ _ h1,QQ0,X2 _ _ _ _ hi,Qh1]
    cases inR net[i].1 0 (((ns.length:Nat):Int) - 1)<;>simp)
  (by
    apply Qbv
    simp[jR])
 have e3:=QW sd.length (fun i=>KL wl (sd,((sd.length:Nat):Int),(i:Int),ns,net,sd)) (fun i=>if(sd.drop i).all (Qe3 (ns.length:Nat))then .inr ()else .inl false)
  (fun i hi ih=>by
    apply Qbi
    have hs:=h6 _ (QRf hi)
    simp only[jn,ilt hi,Qo hi,Qj hi,inc hi h5,QQ1,ih,QmO _ _ _ _ h1,Ym _ _ hs.1 hs.2,QQ0,X2 _ _ _ _ hi,Qe3]
    cases inR sd[i].1 0 (((ns.length:Nat):Int) - 1)<;>cases QF sd[i].2<;>simp)
  (by
    apply Qbi
    simp[jn])
 simp only[QQ6,QRg]at e1 e2 e3
 simp only[Qd3,Q8,e1,e2,e3,QQ0,QqM,Jo]
 cases inR ((ns.length:Nat):Int) 1 5<;>cases decide (12<((net.length:Nat):Int))<;>cases decide (40<((sd.length:Nat):Int))<;>cases ZD (ns.length:Nat) 0 ns<;>cases net.all (Qh1 (ns.length:Nat))<;>cases sd.all (Qe3 (ns.length:Nat))<;>rfl
theorem Qtc (ns:List Qi) (net:List QD) (sd:List QE) (h:smW ns net sd):jA w (ns,net,sd)=some (Jo ns net sd):=by
 apply Qmc
 obtain⟨h1,h2,h3,h4,h5,h6⟩:=h
 have hw:wR (((ns.length:Nat):Int) - 1)=((ns.length:Nat):Int) - 1:=by simp only[maxLen]at h1;exact w64 (by omega) (by omega)
 have e1:=QW ns.length (fun i=>Ka wl (((ns.length:Nat):Int),(i:Int),ns,net,sd)) (fun i=>if ZD (ns.length:Nat) i (ns.drop i)then .inr (((ns.length:Nat):Int),ns,net,sd)else .inl false)
  (fun i hi ih=>by
    apply QbB
    simp only[jD,ilt hi,Qo hi,Qj hi,inc hi h1,QQ1,ih,Qwq _ (h2 _ (QRf hi)),QQ0,Qj5 _ _ _ _ hi]
    cases qJ ns[i]<;>cases decide (ns[i].2.1=((ns.length:Nat):Int))<;>cases decide (ns[i].1=(i:Int))<;>simp)
  (by
    apply QbB
    simp[jD,ZD])
 have e2:=QW net.length (fun i=>Ks wl (((ns.length:Nat):Int),(i:Int),ns,net,sd)) (fun i=>if(net.drop i).all (Qh1 (ns.length:Nat))then .inr (((ns.length:Nat):Int),ns,net,sd)else .inl false)
  (fun i hi ih=>by
    apply QaZ
    simp only[jG,ilt hi,Qo hi,Qj hi,inc hi h3,QQ1,ih,hw,XD,QQ0,X2 _ _ _ _ hi,Qh1]
    cases inR net[i].1 0 (((ns.length:Nat):Int) - 1)<;>simp)
  (by
    apply QaZ
    simp[jG])
 have e3:=QW sd.length (fun i=>Kg wl (((ns.length:Nat):Int),(i:Int),ns,net,sd)) (fun i=>if(sd.drop i).all (Qe3 (ns.length:Nat))then .inr ()else .inl false)
  (fun i hi ih=>by
    apply QbC
    have hs:=h6 _ (QRf hi)
    simp only[yG,ilt hi,Qo hi,Qj hi,inc hi h5,QQ1,ih,hw,XD,KV _ _ hs.1 hs.2,QQ0,X2 _ _ _ _ hi,Qe3]
    cases inR sd[i].1 0 (((ns.length:Nat):Int) - 1)<;>cases QF sd[i].2<;>simp)
  (by
    apply QbC
    simp[yG])
 simp only[QQ6,QRg]at e1 e2 e3
 simp only[Qd2,XD,e1,e2,e3,QQ0,QqM,Jo]
 cases inR ((ns.length:Nat):Int) 1 5<;>cases decide (12<((net.length:Nat):Int))<;>cases decide (40<((sd.length:Nat):Int))<;>cases ZD (ns.length:Nat) 0 ns<;>cases net.all (Qh1 (ns.length:Nat))<;>cases sd.all (Qe3 (ns.length:Nat))<;>rfl
end Go.Proofs.YtiejfnbmficbmaaGreat.M
