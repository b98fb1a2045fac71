/- What the plain forms that FnExactWorldText reaches come to: PTree. No conditions but those that each theorem states. -/
import Derived.Test.YtameehmkoglkeaaGreatDoorFnExactWorldTextPState
set_option linter.all false
namespace Go.Proofs.YtameehmkoglkeaaGreatDoor.M
open Go Go.Eng Go.Proofs
set_option linter.unusedVariables false
def QlM (x:Int):Nat->List Int->Int⊕Unit
 |_,[]=> .inr ()
 |i,y::l=>if x=y then .inl (i:Nat)else QlM x (i+1) l
theorem QrF (x:Int):(i:Nat)->(l:List Int)->∃r:Int,Qo (QlM x i l) (fun u=>some u) (fun _=>some (-1))=some r/\decide (0<=r)=decide (x∈l)
 |i,[]=>⟨-1,rfl,by simp⟩
 |i,y::l=>by
  by_cases h:x=y
  ·refine⟨(i:Nat), ?_, ?_⟩
   ·simp only[QlM,h,if_true,Qo,Sum.elim_inl]
   ·simp[h]
  ·obtain⟨r,h1,h2⟩:=QrF x (i+1) l
   refine⟨r, ?_, ?_⟩
   ·simp only[QlM,h,if_false];exact h1
   ·rw[h2];simp[h]
theorem QkV (a:List Int) (x:Int) (h:a.length<=maxLen):Za w (a,x)=some (decide (x∈a)):=by
 apply QdC
 have e:=QX a.length (fun i=>Zf wl (a,x,((a.length:Nat):Int),(i:Int))) (fun i=>QlM x i (a.drop i))
  (fun i hi ih=>by
    apply qd
    simp only[Vd,ilt hi,Ql hi,Qi hi,inc hi h,QQ1,ih]
    rw[QRa hi,QlM]
    by_cases hx:x=a[i]
    ·simp only[hx,decide_true,QQ1,if_true]
    ·simp only[hx,decide_false,QQ2,if_false])
  (by
    apply qd
    simp only[Vd,Qs,QQ2,QRl,QlM])
 simp only[QQ6,QRg]at e
 obtain⟨r,h1,h2⟩:=QrF x 0 a
 have hi:Ka w (a,x)=some r:=by
  apply Qg4
  simp only[xy,e,QQ0,h1]
 simp only[Jr,hi,QQ0,h2]
theorem Qxq (a b:List Int) (h:a.length<=maxLen):Y7 w (a,b)=some (decide (a=b)):=by
 apply Qhc
 by_cases hl:a.length=b.length
 ·have e:=Qt2 a b hl (fun i=>Ze wl (a,b,((a.length:Nat):Int),(i:Int)))
   (fun i h1 h2 hx=>by
     apply YE
     simp only[ZX,ilt h1,Ql h1,Ql h2,Qi h1,Qi h2,QQ1,hx,decide_false,QQ4])
   (fun i h1 h2 r hx hk=>by
     apply YE
     simp only[ZX,ilt h1,Ql h1,Ql h2,Qi h1,Qi h2,inc h1 h,QQ1,hx,decide_true,QQ3,QQ2]
     exact hk)
   (by
     apply YE
     simp only[ZX,Qs,QQ2])
  simp only[QQ6]at e
  simp only[Ke,dt (show((a.length:Nat):Int)=((b.length:Nat):Int) by omega),QQ3,QQ2,e,QQ0]
  by_cases hab:a=b
  ·simp[hab,Qo]
  ·simp[hab,Qo]
 ·have hab:a≠b:=fun h=>hl (by rw[h])
  simp only[Ke,df (show¬((a.length:Nat):Int)=((b.length:Nat):Int) by omega),QQ4,QQ1,hab,decide_false]
def Qkb (x:Int):List Int->Bool⊕Unit
 | []=> .inr ()
 |y::l=>if y=x then .inl true else Qkb x l
theorem Qsm (x:Int):(l:List Int)->Qo (Qkb x l) (fun u=>some u) (fun _=>some false)=some (decide (x∈l))
 | []=>by simp[Qkb,Qo]
 |y::l=>by
  by_cases h:y=x
  ·simp[Qkb,h,Qo]
  ·have:=Qsm x l
   have h':¬x=y:=fun e=>h e.symm
   simp only[Qkb,h,if_false,this];simp[h']
theorem Qsj (a:List Int) (x:Int) (h:a.length<=maxLen):vV w (a,x)=some (decide (x∈a)):=by
 apply QqL
 have e:=QX a.length (fun i=>Jz wl (a,x,(i:Int))) (fun i=>Qkb x (a.drop i))
  (fun i hi ih=>by
    apply QeI
    simp only[QcS,ilt hi,Ql hi,Qi hi,inc hi h,QQ1,ih]
    rw[QRa hi,Qkb]
    by_cases hx:a[i]=x
    ·simp only[hx,decide_true,QQ1,if_true]
    ·simp only[hx,decide_false,QQ2,if_false])
  (by
    apply QeI
    simp only[QcS,Qs,QQ2,QRl,Qkb])
 simp only[QQ6,QRg]at e
 simp only[Qhr,e,QQ0,Qsm]
theorem Qv5 (a b:List Int) (h:a.length<=maxLen):Qbn w (a,b)=some (decide (a=b)):=by
 apply QpA
 by_cases hl:a.length=b.length
 ·have e:=Qt2 a b hl (fun i=>V0 wl (a,b,(i:Int)))
   (fun i h1 h2 hx=>by
     apply xG
     simp only[xq,ilt h1,Ql h1,Ql h2,Qi h1,Qi h2,QQ1,hx,decide_false,QQ4])
   (fun i h1 h2 r hx hk=>by
     apply xG
     simp only[xq,ilt h1,Ql h1,Ql h2,Qi h1,Qi h2,inc h1 h,QQ1,hx,decide_true,QQ3,QQ2]
     exact hk)
   (by
     apply xG
     simp only[xq,Qs,QQ2])
  simp only[QQ6]at e
  simp only[vN,dt (show((a.length:Nat):Int)=((b.length:Nat):Int) by omega),QQ3,QQ2,e,QQ0]
  by_cases hab:a=b
  ·simp[hab,Qo]
  ·simp[hab,Qo]
 ·have hab:a≠b:=fun h=>hl (by rw[h])
  simp only[vN,df (show¬((a.length:Nat):Int)=((b.length:Nat):Int) by omega),QQ4,QQ1,hab,decide_false]
def VT (n:Int):Int:=bif inR n 0 4 then Int.tmod (crc (Qd n)) 4 else -1
theorem Qje (n:Int):(Qd n).length<=maxLen:=by have:=Qw n;simp only[maxLen];omega
theorem Qqj (n:Int):xT w n=some (VT n):=by
 apply Qo4
 simp only[Qgj,Qck,QQ0,VT,YK,Qnb _ (Qje n),dt (show(4:Int)≠0 by omega),QQ1]
 cases inR n 0 4<;>simp
theorem QnV (n:Int):xV w n=some (VT n):=by
 apply Qpv
 simp only[QgG,QbD,QQ0,VT,Zw,Qkk _ (Qje n),dt (show(4:Int)≠0 by omega),QQ1]
 cases inR n 0 4<;>simp
def Xg (l:List Int) (n:Int):Bool:=decide (VT n∈l)
def ZM (s:Qn) (l:List Int):Qn:=(s.1.filter fun x=>Xg l x.1,s.2.filter fun x=>Xg l x.1)
theorem jW:(p:Int)->(l:List Qb)->QJ p l=true-> -1<=p->(l.length:Int)<=4 - p\/l=[]
 |p,[],_,_=> .inr rfl
 |p,x::l,h,hp=>by
  simp only[QJ,QQ5,inR,QRu]at h
  obtain⟨⟨⟨h1,h2⟩,h3⟩,h4⟩:=h
  left
  rcases jW x.1 l h4 (by omega)with h5|h5
  ·simp only[List.length_cons];omega
  ·subst h5;simp;omega
theorem Qk4 (fl:List Qb):(p:Int)->(l:List Qg)->Xx fl p l=true-> -1<=p->(l.length:Int)<=4 - p\/l=[]
 |p,[],_,_=> .inr rfl
 |p,x::l,h,hp=>by
  simp only[Xx,QQ5,inR,QRu]at h
  obtain⟨⟨⟨⟨h1,h2⟩,h2'⟩,h3⟩,h4⟩:=h
  left
  rcases Qk4 fl x.1 l h4 (by omega)with h5|h5
  ·simp only[List.length_cons];omega
  ·subst h5;simp;omega
theorem Jn {s:Qn}(h:Q0 s=true):s.1.length<=5/\s.2.length<=5:=by
 simp only[Q0,QQ5]at h
 have h1:=jW _ _ h.1 (by omega)
 have h2:=Qk4 _ _ _ h.2 (by omega)
 constructor
 ·rcases h2 with h|h
  ·omega
  ·simp[h]
 ·rcases h1 with h|h
  ·omega
  ·simp[h]
theorem Qs7 (q:List Int) (a:List Qg) (b:List Qb) (hq:q.length<=maxLen) (ha:a.length<=4294967296) (c:List Qb):
 Yt wl (q,a,((a.length:Nat):Int),0,a,b,[],c)=some (q,a,b,a.filter (fun x=>Xg q x.1),c):=by
 have e:=Q3 a.length (fun i (o:List Qg)=>Yt wl (q,a,((a.length:Nat):Int),(i:Int),a,b,o,c)) (fun i o=>(q,a,b,o++(a.drop i).filter (fun x=>Xg q x.1),c)) (fun i o=>o.length<=i)
  (fun i hi o ho ih=>by
    apply Qe6
    have ih1:=ih o (by omega)
    have ih2:=ih (o++[a[i]]) (by simp;omega)
    simp only[QcJ,ilt hi,Ql hi,Qi hi,inc hi (show a.length<=maxLen by simp[maxLen];omega),QQ1,Qqj,QkV q _ hq,QQ0,List.length_singleton,QF (show(o.length+1)*56<=140737488351232 by omega)]
    rw[QRa hi,List.filter_cons]
    cases h:Xg q a[i].1
    ·have h':decide (VT a[i].1∈q)=false:=h
     simp only[h',QQ2,QRw,if_false];exact ih1
    ·have h':decide (VT a[i].1∈q)=true:=h
     simp only[h',QQ1,if_true]
     rw[show o++a[i]::List.filter (fun x=>Xg q x.1) (List.drop (i+1) a)=(o++[a[i]])++List.filter (fun x=>Xg q x.1) (List.drop (i+1) a) by simp]
     exact ih2)
  (fun o _=>by
    apply Qe6
    simp[QcJ])
  [] (by simp)
 simpa using e
theorem QtD (q:List Int) (b:List Qb) (hq:q.length<=maxLen) (hb:b.length<=4294967296) (c:List Qg):
 Yu wl (q,b,((b.length:Nat):Int),0,c,[])=some (c,b.filter (fun x=>Xg q x.1)):=by
 have e:=Q3 b.length (fun i (o:List Qb)=>Yu wl (q,b,((b.length:Nat):Int),(i:Int),c,o)) (fun i o=>(c,o++(b.drop i).filter (fun x=>Xg q x.1))) (fun i o=>o.length<=i)
  (fun i hi o ho ih=>by
    apply QeR
    have ih1:=ih o (by omega)
    have ih2:=ih (o++[b[i]]) (by simp;omega)
    simp only[QcN,ilt hi,Ql hi,Qi hi,inc hi (show b.length<=maxLen by simp[maxLen];omega),QQ1,Qqj,QkV q _ hq,QQ0,List.length_singleton,QF (show(o.length+1)*16<=140737488351232 by omega)]
    rw[QRa hi,List.filter_cons]
    cases h:Xg q b[i].1
    ·have h':decide (VT b[i].1∈q)=false:=h
     simp only[h',QQ2,QRw,if_false];exact ih1
    ·have h':decide (VT b[i].1∈q)=true:=h
     simp only[h',QQ1,if_true]
     rw[show o++b[i]::List.filter (fun x=>Xg q x.1) (List.drop (i+1) b)=(o++[b[i]])++List.filter (fun x=>Xg q x.1) (List.drop (i+1) b) by simp]
     exact ih2)
  (fun o _=>by
    apply QeR
    simp[QcN])
  [] (by simp)
 simpa using e
theorem QxW (a:List Qg) (b:List Qb) (q:List Int) (hq:q.length<=maxLen) (ha:a.length<=maxLen) (hb:b.length<=maxLen):
 Qdq w (a,b,q)=some (bif Q0 (a,b)then ZM (a,b) q else([],[])):=by
 apply QqX
 simp only[Qhs,YG a b ha hb,QQ0]
 cases h:Q0 (a,b)
 ·simp
 ·have hl:=Jn h
  simp only at hl
  simp only[QQ3,QQ2,QQ1,Qs7 q a b hq (by omega),QtD q b hq (by omega),QQ0,ZM]
theorem Qso (q:List Int) (a:List Qg) (b:List Qb) (hq:q.length<=maxLen) (ha:a.length<=4294967296) (c:List Qb):
 ZA wl (q,0,a,b,[],c)=some (q,a,b,a.filter (fun x=>Xg q x.1),c):=by
 have e:=Q3 a.length (fun i (o:List Qg)=>ZA wl (q,(i:Int),a,b,o,c)) (fun i o=>(q,a,b,o++(a.drop i).filter (fun x=>Xg q x.1),c)) (fun i o=>o.length<=i)
  (fun i hi o ho ih=>by
    apply QbK
    have ih1:=ih o (by omega)
    have ih2:=ih (o++[a[i]]) (by simp;omega)
    simp only[Qab,ilt hi,Ql hi,Qi hi,inc hi (show a.length<=maxLen by simp[maxLen];omega),QQ1,QnV,Qsj q _ hq,QQ0,List.length_singleton,QF (show(o.length+1)*56<=140737488351232 by omega)]
    rw[QRa hi,List.filter_cons]
    cases h:Xg q a[i].1
    ·have h':decide (VT a[i].1∈q)=false:=h
     simp only[h',QQ2,QRw,if_false];exact ih1
    ·have h':decide (VT a[i].1∈q)=true:=h
     simp only[h',QQ1,if_true]
     rw[show o++a[i]::List.filter (fun x=>Xg q x.1) (List.drop (i+1) a)=(o++[a[i]])++List.filter (fun x=>Xg q x.1) (List.drop (i+1) a) by simp]
     exact ih2)
  (fun o _=>by
    apply QbK
    simp[Qab])
  [] (by simp)
 simpa using e
theorem Qsy (q:List Int) (a:List Qg) (b:List Qb) (hq:q.length<=maxLen) (hb:b.length<=4294967296) (c:List Qg):
 Zx wl (q,0,a,b,c,[])=some (c,b.filter (fun x=>Xg q x.1)):=by
 have e:=Q3 b.length (fun i (o:List Qb)=>Zx wl (q,(i:Int),a,b,c,o)) (fun i o=>(c,o++(b.drop i).filter (fun x=>Xg q x.1))) (fun i o=>o.length<=i)
  (fun i hi o ho ih=>by
    apply Qb1
    have ih1:=ih o (by omega)
    have ih2:=ih (o++[b[i]]) (by simp;omega)
    simp only[yZ,ilt hi,Ql hi,Qi hi,inc hi (show b.length<=maxLen by simp[maxLen];omega),QQ1,QnV,Qsj q _ hq,QQ0,List.length_singleton,QF (show(o.length+1)*16<=140737488351232 by omega)]
    rw[QRa hi,List.filter_cons]
    cases h:Xg q b[i].1
    ·have h':decide (VT b[i].1∈q)=false:=h
     simp only[h',QQ2,QRw,if_false];exact ih1
    ·have h':decide (VT b[i].1∈q)=true:=h
     simp only[h',QQ1,if_true]
     rw[show o++b[i]::List.filter (fun x=>Xg q x.1) (List.drop (i+1) b)=(o++[b[i]])++List.filter (fun x=>Xg q x.1) (List.drop (i+1) b) by simp]
     exact ih2)
  (fun o _=>by
    apply Qb1
    simp[yZ])
  [] (by simp)
 simpa using e
theorem QwL (a:List Qg) (b:List Qb) (q:List Int) (hq:q.length<=maxLen) (ha:a.length<=4294967296) (hb:b.length<=4294967296):
 vj w (a,b,q)=some (ZM (a,b) q):=by
 apply Qmi
 simp only[QeZ,Qso q a b hq ha,Qsy q a b hq hb,QQ0,ZM]
theorem Qm5:(p p':Int)->(l:List Qb)->p'<=p->QJ p l=true->QJ p' l=true
 |p,p',[],_,_=>rfl
 |p,p',x::l,hp,h=>by
  simp only[QJ,QQ5,QRu]at h⊢
  exact⟨⟨h.1.1,by omega⟩,h.2⟩
theorem Qpb (fl:List Qb):(p p':Int)->(l:List Qg)->p'<=p->Xx fl p l=true->Xx fl p' l=true
 |p,p',[],_,_=>rfl
 |p,p',x::l,hp,h=>by
  simp only[Xx,QQ5,QRu]at h⊢
  exact⟨⟨h.1.1,by omega⟩,h.2⟩
theorem QgX (f:Int->Bool):(p:Int)->(l:List Qb)->QJ p l=true->QJ p (l.filter fun x=>f x.1)=true
 |p,[],_=>rfl
 |p,x::l,h=>by
  have h':=h
  simp only[QJ,QQ5,QRu]at h
  have ih:=QgX f x.1 l h.2
  rw[List.filter_cons]
  cases hf:f x.1
  ·simp only[QRw,if_false];exact Qm5 _ _ _ (by omega) ih
  ·simp only[if_true,QJ,QQ5,QRu]
   exact⟨⟨h.1.1,h.1.2⟩,ih⟩
theorem QhG (f:Int->Bool) (id:Int) (hf:f id=true):(l:List Qb)->X0 id (l.filter fun x=>f x.1)=X0 id l
 | []=>rfl
 |x::l=>by
  have ih:=QhG f id hf l
  rw[List.filter_cons]
  by_cases hx:x.1=id
  ·rw[hx,hf];simp[X0,hx]
  ·cases f x.1
   ·simp only[QRw,if_false,X0,hx];exact ih
   ·simp only[if_true,X0,hx,if_false];exact ih
theorem QhX (f:Int->Bool) (fl:List Qb):(p:Int)->(l:List Qg)->Xx fl p l=true->Xx (fl.filter fun x=>f x.1) p (l.filter fun x=>f x.1)=true
 |p,[],_=>rfl
 |p,x::l,h=>by
  simp only[Xx,QQ5,QRu]at h
  have ih:=QhX f fl x.1 l h.2
  rw[List.filter_cons]
  cases hf:f x.1
  ·simp only[QRw,if_false];exact Qpb _ _ _ _ (by omega) ih
  ·simp only[if_true,Xx,QQ5,QRu,QhG f x.1 hf]
   exact⟨⟨h.1.1,h.1.2⟩,ih⟩
theorem Qm4 {s:Qn}(q:List Int) (h:Q0 s=true):Q0 (ZM s q)=true:=by
 simp only[Q0,QQ5]at h⊢
 exact⟨QgX (Xg q) _ _ h.1,QhX (Xg q) _ _ _ h.2⟩
end Go.Proofs.YtameehmkoglkeaaGreatDoor.M
namespace Go.Proofs.YtameehmkoglkeaaGreatDoor.M
open Go Go.Eng Go.Proofs
set_option linter.unusedVariables false
def X1 (x:Qg):List Int:=Qd x.1++(Qd x.2.1++(Qd x.2.2.1++(Qd x.2.2.2.1++(Qd x.2.2.2.2.1++Yr x.2.2.2.2.2))))
def Q5 (x:Qb):List Int:=Qd x.1++Qd x.2
def stB (s:Qn):List Int:=Qd (s.1.length:Nat)++(s.1.flatMap X1++(Qd (s.2.length:Nat)++s.2.flatMap Q5))
theorem Qcr (x:Qg):(X1 x).length<=30+ByteArray.size x.2.2.2.2.2:=by
 have h0:=Qw x.1
 have h1:=Qw x.2.1
 have h2:=Qw x.2.2.1
 have h3:=Qw x.2.2.2.1
 have h4:=Qw x.2.2.2.2.1
 have h5:=Qlm x.2.2.2.2.2
 simp only[X1,QRj];omega
theorem V6 (x:Qb):(Q5 x).length<=10:=by
 have h0:=Qw x.1
 have h1:=Qw x.2
 simp only[Q5,QRj];omega
def smB (s:Qn):Prop:=s.1.length<=1000/\s.2.length<=1000/\∀x∈s.1,ByteArray.size x.2.2.2.2.2<=1000
theorem QpS (fl:List Qb):(p:Int)->(l:List Qg)->Xx fl p l=true->∀x∈l,ByteArray.size x.2.2.2.2.2<=8
 |p,[],_=>by simp
 |p,x::l,h=>by
  simp only[Xx,QQ5]at h
  have h1:=h.1.1.1.2
  simp only[Zm,QQ5,QRu]at h1
  intro y hy
  rcases QRk.1 hy with e|e
  ·rw[e];have:=h1.2;omega
  ·exact QpS fl x.1 l h.2 y e
theorem qy {s:Qn}(h:Q0 s=true):smB s:=by
 have hl:=Jn h
 simp only[Q0,QQ5]at h
 exact⟨by omega,by omega,fun x hx=>by have:=QpS _ _ _ h.2 x hx;omega⟩
theorem Vc {α:Type}(f:α->List Int) (n:Nat):(l:List α)->(∀x∈l,(f x).length<=n)->(l.flatMap f).length<=l.length*n
 | [],_=>by simp
 |x::l,h=>by
  have ih:=Vc f n l fun y hy=>h y (by simp[hy])
  have:=h x (by simp)
  simp only[List.flatMap_cons,QRj,List.length_cons,Nat.succ_mul];omega
theorem Qkx {s:Qn}(h:smB s):(stB s).length<=2000000:=by
 have h1:=Vc X1 1030 s.1 fun x hx=>by have:=Qcr x;have:=h.2.2 x hx;omega
 have h2:=Vc Q5 10 s.2 fun x _=>V6 x
 have h3:=Qw (s.1.length:Nat)
 have h4:=Qw (s.2.length:Nat)
 have h5:s.1.length*1030<=1000*1030:=Nat.mul_le_mul_right _ h.1
 have h6:s.2.length*10<=1000*10:=Nat.mul_le_mul_right _ h.2.1
 simp only[stB,QRj];omega
theorem QqK (a:List Qg) (b:List Qb) (h:smB (a,b)) (o:List Int) (ho:o.length<=10):
 Zk wl (a,((a.length:Nat):Int),0,a,b,o)=some (a,b,o++a.flatMap X1):=by
 have hl:a.length<=1000:=h.1
 have e:=Q3 a.length (fun i (o:List Int)=>Zk wl (a,((a.length:Nat):Int),(i:Int),a,b,o)) (fun i o=>(a,b,o++(a.drop i).flatMap X1)) (fun i o=>o.length<=10+i*1030)
  (fun i hi o ho ih=>by
    apply yk
    have hb:=Qcr a[i]
    have hd:=h.2.2 a[i] (QRf hi)
    have ih1:=ih (o++X1 a[i]) (by rw[QRj];omega)
    have ej: [o,Qd a[i].1,Qd a[i].2.1,Qd a[i].2.2.1,Qd a[i].2.2.2.1,Qd a[i].2.2.2.2.1,Yr a[i].2.2.2.2.2].flatten=o++X1 a[i]:=by simp[X1]
    have hj:=K1 [o,Qd a[i].1,Qd a[i].2.1,Qd a[i].2.2.1,Qd a[i].2.2.2.1,Qd a[i].2.2.2.2.1,Yr a[i].2.2.2.2.2] (by simp[maxLen]) (by rw[ej,QRj];omega)
    simp only[qw,ilt hi,Ql hi,Qi hi,inc hi (show a.length<=maxLen by simp[maxLen];omega),QQ1,YK,QuG _ (show ByteArray.size a[i].2.2.2.2.2<=4294967296 by omega),QQ0,hj,ej,ih1]
    rw[QRa hi,List.flatMap_cons,QRc])
  (fun o _=>by
    apply yk
    simp[qw])
  o (by omega)
 simpa using e
theorem QqG (b:List Qb) (hb:b.length<=1000) (o:List Int) (ho:o.length<=2000000):
 Zj wl (b,((b.length:Nat):Int),0,o)=some (o++b.flatMap Q5):=by
 have e:=Q3 b.length (fun i (o:List Int)=>Zj wl (b,((b.length:Nat):Int),(i:Int),o)) (fun i o=>o++(b.drop i).flatMap Q5) (fun i o=>o.length<=2000000+i*10)
  (fun i hi o ho ih=>by
    apply ye
    have hb:=V6 b[i]
    have ih1:=ih (o++Q5 b[i]) (by rw[QRj];omega)
    have ej: [o,Qd b[i].1,Qd b[i].2].flatten=o++Q5 b[i]:=by simp[Q5]
    have hj:=K1 [o,Qd b[i].1,Qd b[i].2] (by simp[maxLen]) (by rw[ej,QRj];omega)
    simp only[qq,ilt hi,Ql hi,Qi hi,inc hi (show b.length<=maxLen by simp[maxLen];omega),QQ1,YK,QQ0,hj,ej,ih1]
    rw[QRa hi,List.flatMap_cons,QRc])
  (fun o _=>by
    apply ye
    simp[qq])
  o (by omega)
 simpa using e
theorem QcO (a:List Qg) (b:List Qb) (ha:a.length<=maxLen) (hb:b.length<=maxLen):Yj w (a,b)=some (bif Q0 (a,b)then stB (a,b)else []):=by
 apply QjV
 simp only[Qam,YG a b ha hb,QQ0]
 cases h:Q0 (a,b)
 ·simp
 ·have hs:=qy h
  have hp:=Qw (a.length:Nat)
  have h1:=Vc X1 1030 a fun x hx=>by have:=Qcr x;have:=hs.2.2 x hx;omega
  have hal:a.length<=1000:=hs.1
  have hbl:b.length<=1000:=hs.2.1
  have h5:a.length*1030<=1000*1030:=Nat.mul_le_mul_right _ hal
  have hp2:=Qw (b.length:Nat)
  have ej: [Qd ((a.length:Nat):Int)++a.flatMap X1,Qd ((b.length:Nat):Int)].flatten=Qd ((a.length:Nat):Int)++a.flatMap X1++Qd ((b.length:Nat):Int):=by simp
  have hj:=K1 [Qd ((a.length:Nat):Int)++a.flatMap X1,Qd ((b.length:Nat):Int)] (by simp[maxLen]) (by rw[ej];simp only[QRj];omega)
  simp only[QQ3,QQ2,QQ1,YK,QQ0,QqK a b hs _ (show(Qd ((a.length:Nat):Int)).length<=10 by omega),hj,ej,QqG b hbl _ (show(Qd ((a.length:Nat):Int)++a.flatMap X1++Qd ((b.length:Nat):Int)).length<=2000000 by simp only[QRj];omega)]
  simp only[stB,QRc]
theorem Qtt (i:Int) (a:List Qg) (b:List Qb) (o:List Int) (p q r s:Int) (t:ByteArray) (l:List Int) (hl:l.length<=5) (ho:o.length<=2000000):
 Z1 wl (i,0,a,b,o,p,q,r,s,t,l)=some (i,a,b,o++l.flatMap Qd,p,q,r,s,t):=by
 have e:=Q3 l.length (fun k (o:List Int)=>Z1 wl (i,(k:Int),a,b,o,p,q,r,s,t,l)) (fun k o=>(i,a,b,o++(l.drop k).flatMap Qd,p,q,r,s,t)) (fun k o=>o.length<=2000000+k*5)
  (fun k hk o ho ih=>by
    apply QbY
    have hb:=Qw l[k]
    have ih1:=ih (o++Qd l[k]) (by rw[QRj];omega)
    simp only[jE,ilt hk,Ql hk,Qi hk,inc hk (show l.length<=maxLen by simp[maxLen];omega),QQ1,Zw,QQ0,QF (show(o.length+(Qd l[k]).length)*1<=140737488351232 by omega),ih1]
    rw[QRa hk,List.flatMap_cons,QRc])
  (fun o _=>by
    apply QbY
    simp[jE])
  o (by omega)
 simpa using e
theorem QrK (a:List Qg) (b:List Qb) (h:smB (a,b)) (o:List Int) (ho:o.length<=10):
 Yn wl (0,a,b,o)=some (a,b,o++a.flatMap X1):=by
 have hl:a.length<=1000:=h.1
 have e:=Q3 a.length (fun i (o:List Int)=>Yn wl ((i:Int),a,b,o)) (fun i o=>(a,b,o++(a.drop i).flatMap X1)) (fun i o=>o.length<=10+i*1030)
  (fun i hi o ho ih=>by
    apply Qb2
    have hb:=Qcr a[i]
    have hd:=h.2.2 a[i] (QRf hi)
    have ih1:=ih (o++X1 a[i]) (by rw[QRj];omega)
    have ej:(o++[a[i].1,a[i].2.1,a[i].2.2.1,a[i].2.2.2.1,a[i].2.2.2.2.1].flatMap Qd)++Yr a[i].2.2.2.2.2=o++X1 a[i]:=by simp[X1]
    have hn:=Qtt (i:Int) a b o a[i].2.1 a[i].2.2.1 a[i].2.2.2.1 a[i].2.2.2.2.1 a[i].2.2.2.2.2 [a[i].1,a[i].2.1,a[i].2.2.1,a[i].2.2.2.1,a[i].2.2.2.2.1] (by simp) (by omega)
    have hlen:((o++[a[i].1,a[i].2.1,a[i].2.2.1,a[i].2.2.2.1,a[i].2.2.2.2.1].flatMap Qd).length+(Yr a[i].2.2.2.2.2).length)*1<=140737488351232:=by
     have:=congrArg List.length ej
     simp only[QRj]at this⊢; omega
    simp only[vF,ilt hi,Ql hi,Qi hi,inc hi (show a.length<=maxLen by simp[maxLen];omega),QQ1,hn,Qtd _ (show ByteArray.size a[i].2.2.2.2.2<=4294967296 by omega),QQ0,QF hlen,ej,ih1]
    rw[QRa hi,List.flatMap_cons,QRc])
  (fun o _=>by
    apply Qb2
    simp[vF])
  o (by omega)
 simpa using e
theorem Qr8 (a:List Qg) (b:List Qb) (hb:b.length<=1000) (o:List Int) (ho:o.length<=2000000):
 Yo wl (0,a,b,o)=some (o++b.flatMap Q5):=by
 have e:=Q3 b.length (fun i (o:List Int)=>Yo wl ((i:Int),a,b,o)) (fun i o=>o++(b.drop i).flatMap Q5) (fun i o=>o.length<=2000000+i*10)
  (fun i hi o ho ih=>by
    apply Qcv
    have hb:=V6 b[i]
    have h1:=Qw b[i].1
    have h2:=Qw b[i].2
    have ih1:=ih (o++Q5 b[i]) (by rw[QRj];omega)
    have ej:o++Qd b[i].1++Qd b[i].2=o++Q5 b[i]:=by simp[Q5]
    simp only[v8,ilt hi,Ql hi,Qi hi,inc hi (show b.length<=maxLen by simp[maxLen];omega),QQ1,Zw,QQ0,QF (show(o.length+(Qd b[i].1).length)*1<=140737488351232 by omega),QF (show((o++Qd b[i].1).length+(Qd b[i].2).length)*1<=140737488351232 by rw[QRj];omega),ej,ih1]
    rw[QRa hi,List.flatMap_cons,QRc])
  (fun o _=>by
    apply Qcv
    simp[v8])
  o (by omega)
 simpa using e
theorem Qjt (a:List Qg) (b:List Qb) (hs:smB (a,b)):Vy w (a,b)=some (stB (a,b)):=by
 apply QmP
 have hp:=Qw (a.length:Nat)
 have h1:=Vc X1 1030 a fun x hx=>by have:=Qcr x;have:=hs.2.2 x hx;omega
 have hal:a.length<=1000:=hs.1
 have hbl:b.length<=1000:=hs.2.1
 have h5:a.length*1030<=1000*1030:=Nat.mul_le_mul_right _ hal
 have hp2:=Qw (b.length:Nat)
 have hlen:((Qd ((a.length:Nat):Int)++a.flatMap X1).length+(Qd ((b.length:Nat):Int)).length)*1<=140737488351232:=by simp only[QRj];omega
 simp only[Qey,Zw,QQ0,QrK a b hs _ (show(Qd ((a.length:Nat):Int)).length<=10 by omega),QF hlen,QQ1,Qr8 a b hbl _ (show(Qd ((a.length:Nat):Int)++a.flatMap X1++Qd ((b.length:Nat):Int)).length<=2000000 by simp only[QRj];omega)]
 simp only[stB,QRc]
def Kj (s:Qn) (k:Int):Int:=bif Q0 s&&inR k 0 3 then Int.tmod (crc (stB (ZM s [k]))) 1024 else 0
theorem QuR (a:List Qg) (b:List Qb) (k:Int) (ha:a.length<=maxLen) (hb:b.length<=maxLen):yJ w (a,b,k)=some (Kj (a,b) k):=by
 apply Qmb
 simp only[Qfq,YG a b ha hb,Q8,QQ0,Kj]
 cases h:Q0 (a,b)
 ·simp
 ·cases h2:inR k 0 3
  ·simp
  ·have hs:=Qm4 [k] h
   have hl:=Jn hs
   have hB:=Qkx (qy hs)
   simp only[QQ3,QQ2,QxW a b [k] (by simp[maxLen]) ha hb,h,QQ1,QQ0,QcO (ZM (a,b) [k]).1 (ZM (a,b) [k]).2 (by simp only[maxLen];omega) (by simp only[maxLen];omega),Bool.and_self]
   simp only[show Q0 ((ZM (a,b) [k]))=true from hs,QQ1,Qnb (stB ((ZM (a,b) [k]))) (show(stB (ZM (a,b) [k])).length<=maxLen by simp only[maxLen];omega),QQ0,dt (show(1024:Int)≠0 by omega)]
theorem QtA (a:List Qg) (b:List Qb) (k:Int) (ha:a.length<=maxLen) (hb:b.length<=maxLen):vU w (a,b,k)=some (Kj (a,b) k):=by
 apply QmA
 simp only[Qe4,Vf a b ha hb,XE,QQ0,Kj]
 cases h:Q0 (a,b)
 ·simp
 ·cases h2:inR k 0 3
  ·simp
  ·have hs:=Qm4 [k] h
   have hl:=Jn h
   simp only at hl
   have hB:=Qkx (qy hs)
   simp only[QQ3,QQ2,QwL a b [k] (by simp[maxLen]) (by omega) (by omega),QQ0,Qjt (ZM (a,b) [k]).1 (ZM (a,b) [k]).2 (qy hs),QQ1,Bool.and_self,Qkk (stB ((ZM (a,b) [k]))) (show(stB (ZM (a,b) [k])).length<=maxLen by simp only[maxLen];omega),dt (show(1024:Int)≠0 by omega)]
def rootOf (l:List Int):Int:=Int.tmod (crc (l.flatMap Qd)) 1024
theorem Qxf (l:List Int) (hl:l.length<=4294967296):Qbp w l=some (rootOf l):=by
 apply Qox
 have e:=Q3 l.length (fun i (o:List Int)=>VV wl (l,((l.length:Nat):Int),(i:Int),o)) (fun i o=>o++(l.drop i).flatMap Qd) (fun i o=>o.length<=i*5)
  (fun i hi o ho ih=>by
    apply Qc2
    have hb:=Qw l[i]
    have ih1:=ih (o++Qd l[i]) (by rw[QRj];omega)
    have ej: [o,Qd l[i]].flatten=o++Qd l[i]:=by simp
    have hj:=K1 [o,Qd l[i]] (by simp[maxLen]) (by rw[ej,QRj];omega)
    simp only[Qat,ilt hi,Ql hi,Qi hi,inc hi (show l.length<=maxLen by simp[maxLen];omega),QQ1,YK,QQ0,hj,ej,ih1]
    rw[QRa hi,List.flatMap_cons,QRc])
  (fun o _=>by
    apply Qc2
    simp[Qat])
  [] (by simp)
 simp only[QQ6,QRg,QRe]at e
 have hb:=Vc Qd 5 l fun x _=>Qw x
 simp only[Qf9,e,QQ0,Qnb (l.flatMap Qd) (by simp only[maxLen];omega),dt (show(1024:Int)≠0 by omega),QQ1,rootOf]
theorem Qv6 (l:List Int) (hl:l.length<=4294967296):Qa5 w l=some (rootOf l):=by
 apply QpF
 have e:=Q3 l.length (fun i (o:List Int)=>VL wl (l,(i:Int),o)) (fun i o=>o++(l.drop i).flatMap Qd) (fun i o=>o.length<=i*5)
  (fun i hi o ho ih=>by
    apply Qc3
    have hb:=Qw l[i]
    have ih1:=ih (o++Qd l[i]) (by rw[QRj];omega)
    simp only[QaD,ilt hi,Ql hi,Qi hi,inc hi (show l.length<=maxLen by simp[maxLen];omega),QQ1,Zw,QQ0,QF (show(o.length+(Qd l[i]).length)*1<=140737488351232 by omega),ih1]
    rw[QRa hi,List.flatMap_cons,QRc])
  (fun o _=>by
    apply Qc3
    simp[QaD])
  [] (by simp)
 simp only[QQ6,QRg,QRe]at e
 have hb:=Vc Qd 5 l fun x _=>Qw x
 simp only[QgU,e,QQ0,Qkk (l.flatMap Qd) (by simp only[maxLen];omega),dt (show(1024:Int)≠0 by omega),QQ1,rootOf]
def leaves (s:Qn):List Int:=[Kj s 0,Kj s 1,Kj s 2,Kj s 3]
def KV (s:Qn):ZU:=bif Q0 s then(leaves s,rootOf (leaves s))else([],0)
theorem QAD {i:Nat}(h:i<4):decide ((i:Int)<4)=true:=by simp;omega
theorem Qw4 (a:List Qg) (b:List Qb) (ha:a.length<=maxLen) (hb:b.length<=maxLen):Qa9 w (a,b)=some (KV (a,b)):=by
 apply QoM
 have e:=Q3 4 (fun i (o:List Int)=>YS wl ((i:Int),a,b,o,0)) (fun i o=>(o++(List.range' i (4 - i)).flatMap fun i=>[Kj (a,b) (i:Nat)],(0:Int))) (fun i o=>o.length<=i)
  (fun i hi o ho ih=>by
    apply Qc9
    have ih1:=ih (o++[Kj (a,b) (i:Nat)]) (by simp;omega)
    rw[Qm1 hi,<-QRc,<-ih1]
    simp only[Qaw,QAD hi,QQ1,QuR a b _ ha hb,QQ0,List.length_singleton,QF (show(o.length+1)*8<=140737488351232 by omega),QuK hi])
  (fun o _=>by
    apply Qc9
    simp[Qaw])
  [] (by simp)
 have e:YS wl (0,a,b,[],0)=some (leaves (a,b),0):=e
 simp only[QgH,YG a b ha hb,QQ0,KV]
 cases Q0 (a,b)
 ·simp
 ·simp only[QQ3,QQ2,QQ1,e,QQ0,Qxf (leaves (a,b)) (by simp[leaves])]
theorem Qvb (a:List Qg) (b:List Qb) (ha:a.length<=maxLen) (hb:b.length<=maxLen):Qbc w (a,b)=some (KV (a,b)):=by
 apply QoR
 have e:=Q3 4 (fun i (o:List Int)=>YP wl ((i:Int),a,b,o,0)) (fun i o=>(o++(List.range' i (4 - i)).flatMap fun i=>[Kj (a,b) (i:Nat)],(0:Int))) (fun i o=>o.length<=i)
  (fun i hi o ho ih=>by
    apply Qc6
    have ih1:=ih (o++[Kj (a,b) (i:Nat)]) (by simp;omega)
    rw[Qm1 hi,<-QRc,<-ih1]
    simp only[Qar,QAD hi,QQ1,QtA a b _ ha hb,QQ0,List.length_singleton,QF (show(o.length+1)*8<=140737488351232 by omega),QuK hi])
  (fun o _=>by
    apply Qc6
    simp[Qar])
  [] (by simp)
 have e:YP wl (0,a,b,[],0)=some (leaves (a,b),0):=e
 simp only[Qgg,Vf a b ha hb,QQ0,KV]
 cases Q0 (a,b)
 ·simp
 ·simp only[QQ3,QQ2,QQ1,e,QQ0,Qv6 (leaves (a,b)) (by simp[leaves])]
end Go.Proofs.YtameehmkoglkeaaGreatDoor.M
namespace Go.Proofs.YtameehmkoglkeaaGreatDoor.M
open Go Go.Eng Go.Proofs
set_option linter.unusedVariables false
def xp (g:Qap):Bool:=inR g.1 1 8&&decide (((g.2.2.length:Nat):Int)<=g.1)&&inR g.2.1 0 100000&&decide (g.2.1+((g.2.2.length:Nat):Int)<=100000)&&g.2.2.all Q0
theorem X8 {α:Type}{R:Type}(p:α->Bool) (l:List α) (x y:R) {i:Nat}(hi:i<l.length):(if(l.drop i).all p then x else y)=(bif p l[i]then(if(l.drop (i+1)).all p then x else y)else y):=by
 rw[QRa hi,List.all_cons]
 cases p l[i]<;>simp
theorem Qpm {α:Type}{R:Type}(p:α->Bool) (l:List α) (x y:R):(if(l.drop l.length).all p then x else y)=x:=by simp
theorem QrN (a b:Int) (l:List Qn) (hl:l.length<=maxLen) (hs:∀s∈l,s.1.length<=maxLen/\s.2.length<=maxLen):jr w (a,b,l)=some (xp (a,b,l)):=by
 apply QqD
 have e:=QX l.length (fun i=>Jy wl (l,((l.length:Nat):Int),(i:Int),a,b,l)) (fun i=>if(l.drop i).all Q0 then .inr (a,b,l)else .inl false)
  (fun i hi ih=>by
    apply Qff
    have hx:=hs _ (QRf hi)
    rw[X8 Q0 l _ _ hi]
    simp only[QcW,ilt hi,Ql hi,Qi hi,inc hi hl,QQ1,YG _ _ hx.1 hx.2,QQ0,ih]
    cases Q0 l[i]<;>simp)
  (by
    apply Qff
    simp[QcW])
 simp only[QQ6,QRg]at e
 simp only[Qh1,e,QQ0,Q8,xp]
 cases l.all Q0
 ·simp[Qo]
 ·simp only[if_true,Qo,Sum.elim_inr,QRn]
  cases h1:inR a 1 8
  ·simp
  ·by_cases h2:((l.length:Nat):Int)<=a
   ·cases h3:inR b 0 100000
    ·simp
    ·simp[inR]at h1 h3
     rw[w64 (by omega) (by omega)]
     simp[h2]
   ·simp[h2]
theorem QpX (a b:Int) (l:List Qn) (hl:l.length<=maxLen) (hs:∀s∈l,s.1.length<=maxLen/\s.2.length<=maxLen):j9 w (a,b,l)=some (xp (a,b,l)):=by
 apply QqJ
 have e:=QX l.length (fun i=>JC wl ((i:Int),a,b,l)) (fun i=>if(l.drop i).all Q0 then .inr ()else .inl false)
  (fun i hi ih=>by
    apply QeF
    have hx:=hs _ (QRf hi)
    rw[X8 Q0 l _ _ hi]
    simp only[QcV,ilt hi,Ql hi,Qi hi,inc hi hl,QQ1,Vf _ _ hx.1 hx.2,QQ0,ih]
    cases Q0 l[i]<;>simp)
  (by
    apply QeF
    simp[QcV])
 simp only[QQ6,QRg]at e
 simp only[Qh0,e,QQ0,XE,xp]
 cases h1:inR a 1 8
 ·simp
 ·by_cases h2:((l.length:Nat):Int)<=a
  ·cases h3:inR b 0 100000
   ·simp[h2]
   ·simp[inR]at h1 h3
    rw[w64 (by omega) (by omega)]
    by_cases h4:b+((l.length:Nat):Int)<=100000
    ·simp only[QQ3,QQ2,df (show¬a<((l.length:Nat):Int) by omega),df (show¬100000<b+((l.length:Nat):Int) by omega),dt h2,dt h4,QRd,QRn]
     cases l.all Q0<;>simp[Qo]
    ·simp only[QQ3,QQ2,df (show¬a<((l.length:Nat):Int) by omega),dt (show 100000<b+((l.length:Nat):Int) by omega),df h4,QQ1,Bool.and_false,QRm]
  ·simp only[QQ3,QQ2,dt (show a<((l.length:Nat):Int) by omega),QQ1,df h2,Bool.and_false,QRm]
def XV (g:Qap):Int:=bif xp g then g.2.1+((g.2.2.length:Nat):Int)else 0
theorem Qna {g:Qap}(h:xp g=true):g.2.2.length<=8/\0<=g.2.1/\g.2.1<=100000/\g.2.1+((g.2.2.length:Nat):Int)<=100000:=by
 simp[xp,inR]at h;omega
theorem Qxc (a b:Int) (l:List Qn) (hl:l.length<=maxLen) (hs:∀s∈l,s.1.length<=maxLen/\s.2.length<=maxLen):QaY w (a,b,l)=some (XV (a,b,l)):=by
 apply QoB
 simp only[Qgv,QrN a b l hl hs,QQ0,XV]
 cases h:xp (a,b,l)
 ·simp
 ·have:=Qna h
  simp only at this
  rw[w64 (by omega) (by omega)];simp
theorem Qoi (a b:Int) (l:List Qn) (hl:l.length<=maxLen) (hs:∀s∈l,s.1.length<=maxLen/\s.2.length<=maxLen):xS w (a,b,l)=some (XV (a,b,l)):=by
 apply Qpj
 simp only[Qgo,QpX a b l hl hs,QQ0,XV]
 cases h:xp (a,b,l)
 ·simp
 ·have:=Qna h
  simp only at this
  rw[w64 (by omega) (by omega)];simp
def Z2 (v:List Int) (n:Int):Bool:=inR n 1 5&&decide (((v.length:Nat):Int)=n)&&v.all fun x=>inR x 0 100000
theorem Qr5 (v:List Int) (n:Int) (hv:v.length<=maxLen):yA w (v,n)=some (Z2 v n):=by
 apply QqN
 have e:=QX v.length (fun i=>Jp wl (v,n,v,((v.length:Nat):Int),(i:Int))) (fun i=>if(v.drop i).all (fun x=>inR x 0 100000)then .inr (v,n)else .inl false)
  (fun i hi ih=>by
    apply Qd7
    rw[X8 (fun x=>inR x 0 100000) v _ _ hi]
    simp only[QcP,ilt hi,Ql hi,Qi hi,inc hi hv,QQ1,Q8,QQ0,ih]
    cases inR v[i] 0 100000<;>simp)
  (by
    apply Qd7
    simp[QcP])
 simp only[QQ6,QRg]at e
 simp only[Qib,e,QQ0,Q8,Z2]
 cases v.all fun x=>inR x 0 100000
 ·simp[Qo]
 ·simp only[if_true,Qo,Sum.elim_inr,QRn]
  cases inR n 1 5<;>simp
theorem Qqo (v:List Int) (n:Int) (hv:v.length<=maxLen):jy w (v,n)=some (Z2 v n):=by
 apply QqH
 by_cases h2:((v.length:Nat):Int)=n
 ·subst h2
  have e:=QX v.length (fun i=>JA wl (v,((v.length:Nat):Int),(i:Int))) (fun i=>if(v.drop i).all (fun x=>inR x 0 100000)then .inr ()else .inl false)
   (fun i hi ih=>by
     apply Qer
     rw[X8 (fun x=>inR x 0 100000) v _ _ hi]
     simp only[QcT,ilt hi,Ql hi,Qi hi,inc hi hv,QQ1,XE,QQ0,ih]
     cases inR v[i] 0 100000<;>simp)
   (by
     apply Qer
     simp[QcT])
  simp only[QQ6,QRg]at e
  simp only[Qay,e,QQ0,XE,Z2]
  cases inR ((v.length:Nat):Int) 1 5
  ·simp
  ·cases v.all fun x=>inR x 0 100000<;>simp[Qo]
 ·simp only[Qay,XE,QQ0,Z2,df h2]
  cases inR n 1 5<;>simp
def Qdo (r:List Int):Bool:=(r.all fun x=>inR x 0 1000)&&decide (((r.length:Nat):Int)=5)
def xf (t:List (List Int)) (n:Int):Bool:=inR n 1 5&&decide (((t.length:Nat):Int)=n)&&t.all Qdo
theorem Qu3 (t:List (List Int)) (n:Int) (ht:t.length<=maxLen) (hr:∀r∈t,r.length<=maxLen):jz w (t,n)=some (xf t n):=by
 apply Qnx
 have inner:∀(i:Int) (r:List Int),r.length<=maxLen->Yp wl (t,n,r,t,((t.length:Nat):Int),i,r,((r.length:Nat):Int),0)=some (if r.all (fun x=>inR x 0 1000)then .inr (t,n,r,t,((t.length:Nat):Int),i)else .inl false):=by
  intro i r hr
  have e:=QX r.length (fun k=>Yp wl (t,n,r,t,((t.length:Nat):Int),i,r,((r.length:Nat):Int),(k:Int))) (fun k=>if(r.drop k).all (fun x=>inR x 0 1000)then .inr (t,n,r,t,((t.length:Nat):Int),i)else .inl false)
   (fun k hk ih=>by
     apply QbL
     rw[X8 (fun x=>inR x 0 1000) r _ _ hk]
     simp only[jR,ilt hk,Ql hk,Qi hk,inc hk hr,QQ1,Q8,QQ0,ih]
     cases inR r[k] 0 1000<;>simp)
   (by
     apply QbL
     simp[jR])
  simpa using e
 have e:=QX t.length (fun i=>K6 wl (t,n,t,((t.length:Nat):Int),(i:Int))) (fun i=>if(t.drop i).all Qdo then .inr (t,n)else .inl false)
  (fun i hi ih=>by
    apply QbV
    rw[X8 Qdo t _ _ hi]
    have hx:=hr _ (QRf hi)
    simp only[vM,ilt hi,Ql hi,Qi hi,QQ1,inner _ _ hx,QQ0,Qdo]
    cases t[i].all fun x=>inR x 0 1000
    ·simp[Qo]
    ·simp only[if_true,Qo,Sum.elim_inr,QRd,inc hi ht,ih]
     cases decide (((t[i].length:Nat):Int)=5)<;>simp)
  (by
    apply QbV
    simp[vM])
 simp only[QQ6,QRg]at e
 simp only[Qen,e,QQ0,Q8,xf]
 cases t.all Qdo
 ·simp[Qo]
 ·simp only[if_true,Qo,Sum.elim_inr,QRn]
  cases inR n 1 5<;>simp
theorem Qs9 (t:List (List Int)) (n:Int) (ht:t.length<=maxLen) (hr:∀r∈t,r.length<=maxLen):js w (t,n)=some (xf t n):=by
 apply Qn3
 by_cases h2:((t.length:Nat):Int)=n
 ·subst h2
  have inner:∀(i:Nat) (hi:i<t.length),Yq wl (t,((t.length:Nat):Int),(i:Int),0)=some (if t[i].all (fun x=>inR x 0 1000)then .inr (t,((t.length:Nat):Int),(i:Int))else .inl false):=by
   intro i hi
   have hx:=hr _ (QRf hi)
   have e:=QX t[i].length (fun k=>Yq wl (t,((t.length:Nat):Int),(i:Int),(k:Int))) (fun k=>if(t[i].drop k).all (fun x=>inR x 0 1000)then .inr (t,((t.length:Nat):Int),(i:Int))else .inl false)
    (fun k hk ih=>by
      apply Qcz
      rw[X8 (fun x=>inR x 0 1000) t[i] _ _ hk]
      simp only[vp,Ql hi,Qi hi,ilt hk,Ql hk,Qi hk,inc hk hx,QQ1,XE,QQ0,ih]
      cases inR t[i][k] 0 1000<;>simp)
    (by
      apply Qcz
      simp only[vp,Ql hi,Qi hi,Qs,QQ1,QQ2,Qpm])
   simpa using e
  have e:=QX t.length (fun i=>KM wl (t,((t.length:Nat):Int),(i:Int))) (fun i=>if(t.drop i).all Qdo then .inr ()else .inl false)
   (fun i hi ih=>by
     apply Qcx
     rw[X8 Qdo t _ _ hi]
     simp only[vz,ilt hi,Ql hi,Qi hi,QQ1,inner i hi,QQ0,Qdo]
     cases h5:decide (((t[i].length:Nat):Int)=5)
     ·simp
     ·cases t[i].all fun x=>inR x 0 1000
      ·simp[Qo]
      ·simp only[if_true,Qo,Sum.elim_inr,QRd,QQ3,QQ2,QQ1,inc hi ht,ih])
   (by
     apply Qcx
     simp[vz])
  simp only[QQ6,QRg]at e
  simp only[zE,e,QQ0,XE,xf]
  cases inR ((t.length:Nat):Int) 1 5
  ·simp
  ·cases t.all Qdo<;>simp[Qo]
 ·simp only[zE,XE,QQ0,xf,df h2]
  cases inR n 1 5<;>simp
def Qe8:Int->List Int->Int
 |m,[]=>m
 |m,x::l=>Qe8 (mxI m x) l
theorem Quj (b:Int):(m:Int)->(l:List Int)->(decide (b<Qe8 m l)= !(decide (m<=b)&&l.all fun x=>decide (x<=b)))
 |m,[]=>by
  by_cases h:m<=b
  ·rw[Qe8,dt h,df (show¬b<m by omega)];simp
  ·rw[Qe8,df h,dt (show b<m by omega)];simp
 |m,x::l=>by
  rw[Qe8,Quj b (mxI m x) l,List.all_cons]
  have:decide (mxI m x<=b)=(decide (m<=b)&&decide (x<=b)):=by
   unfold mxI
   split
   ·by_cases h:x<=b
    ·simp[h];omega
    ·simp[h]
   ·by_cases h:m<=b
    ·simp[h];omega
    ·simp[h]
  rw[this,Bool.and_assoc]
theorem QAV (a:Int) (l:List Int) (h:(a::l).length<=maxLen):Yx w (a::l)=some (Qe8 a l):=by
 apply QiP
 have main:∀n i (m:Int),1<=i->i+n=(a::l).length->XY wl (a::l,m,(i:Int))=some (Qe8 m ((a::l).drop i)):=by
  intro n
  induction n with
  |zero=>
   intro i m h1 hi
   apply xz
   have:i=(a::l).length:=by omega
   rw[this]
   simp only[Je,Qs,QQ2,QRl,Qe8]
  |succ n ih=>
   intro i m h1 hi
   have hi':i<(a::l).length:=by omega
   apply xz
   simp only[Je,ilt hi',Ql hi',Qi hi',inc hi' h,QQ1,ih (i+1) _ (by omega) (by omega)]
   rw[QRa hi',Qe8]
 have e:=main l.length 1 a (by omega) (by simp;omega)
 simp only[List.drop_succ_cons,QRg]at e
 have h0:0<(a::l).length:=by simp
 have e0:inb 0 (a::l).length=true:=Ql h0
 have e1:rd1 (0:Int) (a::l) 0=a:=rfl
 have e:XY wl (a::l,a,1)=some (Qe8 a l):=e
 simp only[yi,df (show¬(((a::l).length:Nat):Int)<1 by simp;omega),QQ2,e0,QQ1,e1,e,QQ0]
end Go.Proofs.YtameehmkoglkeaaGreatDoor.M
namespace Go.Proofs.YtameehmkoglkeaaGreatDoor.M
open Go Go.Eng Go.Proofs
set_option linter.unusedVariables false
def JB (clock:Int) (r:Q2):Bool:=inR r.1 0 1000&&inR r.2.1 0 100000&&inR r.2.2 0 clock
theorem Qvg (a0:Int) (a1:Int) (a2:List Qg) (a3:List Qb) (a4:List Int) (a5:Int) (a6:Int) (a7:Int) (a8:List Qn) (a9:List Int) (a10:List Int) (a11:List (List Int)) (a12:Int) (a13:Int) (a14:List QY) (a15:Int) (a16:Int) (a17:Int) (a18:List Q2) (h:a18.length<=maxLen):yC w (a0,a1,a2,a3,a4,a5,a6,a7,a8,a9,a10,a11,a12,a13,a14,a15,a16,a17,a18)=some ((a18.all (JB a17))&&decide (((a18.length:Nat):Int)=5)):=by
 apply QnD
 have e:=QX a18.length (fun i=>Km wl (a18,((a18.length:Nat):Int),(i:Int),a0,a1,a2,a3,a4,a5,a6,a7,a8,a9,a10,a11,a12,a13,a14,a15,a16,a17,a18)) (fun i=>if(a18.drop i).all (JB a17)then .inr (a0,a1,a2,a3,a4,a5,a6,a7,a8,a9,a10,a11,a12,a13,a14,a15,a16,a17,a18)else .inl false)
  (fun i hi ih=>by
    apply Qcn
    rw[X8 (JB a17) a18 _ _ hi]
    simp only[vE,ilt hi,Ql hi,Qi hi,inc hi h,QQ1,Q8,QQ0,ih,JB]
    cases inR a18[i].1 0 1000<;>cases inR a18[i].2.1 0 100000<;>cases inR a18[i].2.2 0 a17<;>simp)
  (by
    apply Qcn
    simp[vE])
 simp only[QQ6,QRg]at e
 simp only[Qfv,e,QQ0]
 cases a18.all (JB a17)
 ·simp[Qo]
 ·simp only[if_true,Qo,Sum.elim_inr,QRd]
def qZ (x y:QY):Bool:=decide (y.1=x.1)&&(y.2.2.1==x.2.2.1)
def jT (p:Int) (b:Bool):Nat->List QY->Int⊕Unit
 |_,[]=> .inr ()
 |i,y::l=>bif decide (y.1=p)&&(y.2.2.1==b)then .inl (i:Nat)else jT p b (i+1) l
def Qf4:Int⊕Unit->Int
 | .inl i=>i
 | .inr _=> -1
theorem QvE (z:Int⊕Unit):Qo z (fun u=>some u) (fun _=>some (-1))=some (Qf4 z):=by cases z<;>rfl
theorem Qz6 (a0:Int) (a1:Int) (a2:List Qg) (a3:List Qb) (a4:List Int) (a5:Int) (a6:Int) (a7:Int) (a8:List Qn) (a9:List Int) (a10:List Int) (a11:List (List Int)) (a12:Int) (a13:Int) (a14:List QY) (a15:Int) (a16:Int) (a17:Int) (a18:List Q2) (p:Int) (b:Bool) (h:a14.length<=maxLen):QgL w (a0,a1,a2,a3,a4,a5,a6,a7,a8,a9,a10,a11,a12,a13,a14,a15,a16,a17,a18,p,b)=some (Qf4 (jT p b 0 a14)):=by
 apply QsJ
 have e:=QX a14.length (fun i=>VI wl (p,b,a14,((a14.length:Nat):Int),(i:Int))) (fun i=>jT p b i (a14.drop i))
  (fun i hi ih=>by
    apply Qgk
    simp only[Qfg,ilt hi,Ql hi,Qi hi,inc hi h,QQ1,ih]
    rw[QRa hi,jT]
    cases decide (a14[i].1=p)<;>cases(a14[i].2.2.1==b)<;>simp)
  (by
    apply Qgk
    simp[Qfg,jT])
 simp only[QQ6,QRg]at e
 simp only[Qi9,e,QQ0,QvE]
theorem Qt7 (x:QY):(off:Nat)->(l:List QY)->(i:Nat)->(h:i<l.length)->l[i]=x->((off:Int)<=Qf4 (jT x.1 x.2.2.1 off l)/\Qf4 (jT x.1 x.2.2.1 off l)<=off+i/\(Qf4 (jT x.1 x.2.2.1 off l)=off+i↔(l.take i).any (qZ x)=false))
 |off,y::l,0,_,hx=>by
  have:y=x:=hx
  subst this
  simp[jT,Qf4]
 |off,y::l,i+1,h,hx=>by
  have ih:=Qt7 x (off+1) l i (by simpa using h) (by simpa using hx)
  rw[jT]
  have hk:(decide (y.1=x.1)&&(y.2.2.1==x.2.2.1))=qZ x y:=rfl
  rw[hk,List.take_succ_cons,List.any_cons]
  cases qZ x y
  ·simp only[QQ2,Bool.false_or]
   refine⟨by omega,by omega, ?_⟩
   rw[<-ih.2.2];omega
  ·simp only[QQ1,Bool.true_or,Qf4]
   refine⟨by omega,by omega, ?_⟩
   constructor
   ·intro h;omega
   ·intro h;cases h
def QjG (id n p:Int):Bool:=inR p 0 (n - 1)&& !decide (p=id)
theorem Qwy (a0:Int) (a1:Int) (a2:List Qg) (a3:List Qb) (a4:List Int) (a5:Int) (a6:Int) (a7:Int) (a8:List Qn) (a9:List Int) (a10:List Int) (a11:List (List Int)) (a12:Int) (a13:Int) (a14:List QY) (a15:Int) (a16:Int) (a17:Int) (a18:List Q2) (p:Int) (hn:inR a1 1 5=true):QaX w (a0,a1,a2,a3,a4,a5,a6,a7,a8,a9,a10,a11,a12,a13,a14,a15,a16,a17,a18,p)=some (QjG a0 a1 p):=by
 apply Qpo
 simp[inR]at hn
 simp only[Qgl,QjG]
 rw[w64 (by omega) (by omega),Q8,QQ0]
 cases inR p 0 (a1 - 1)<;>simp
def QhQ (id n wait:Int) (x:QY):Bool:=QjG id n x.1&&inR x.2.1 0 100000&&inR x.2.2.2 0 wait
def YW (id n wait:Int):List QY->List QY->Bool
 |_,[]=>true
 |pre,x::l=>QhQ id n wait x&& !pre.any (qZ x)&&YW id n wait (pre++[x]) l
theorem QmQ {R:Type}(id n wait:Int) (l:List QY) (x y:R) {i:Nat}(hi:i<l.length):
 (if YW id n wait (l.take i) (l.drop i)then x else y)=(bif QhQ id n wait l[i]&& !(l.take i).any (qZ l[i])then(if YW id n wait (l.take (i+1)) (l.drop (i+1))then x else y)else y):=by
 rw[QRa hi,YW]
 have:l.take i++[l[i]]=l.take (i+1):=by rw[List.take_add_one];simp[hi]
 rw[this]
 cases QhQ id n wait l[i]&& !(l.take i).any (qZ l[i])<;>simp
theorem Qww (a0:Int) (a1:Int) (a2:List Qg) (a3:List Qb) (a4:List Int) (a5:Int) (a6:Int) (a7:Int) (a8:List Qn) (a9:List Int) (a10:List Int) (a11:List (List Int)) (a12:Int) (a13:Int) (a14:List QY) (a15:Int) (a16:Int) (a17:Int) (a18:List Q2) (hn:inR a1 1 5=true) (h:a14.length<=maxLen):Qbm w (a0,a1,a2,a3,a4,a5,a6,a7,a8,a9,a10,a11,a12,a13,a14,a15,a16,a17,a18)=some (YW a0 a1 a15 [] a14&&(inR a13 1 4&&decide (((a14.length:Nat):Int)<=a13))):=by
 apply Qo9
 have e:=QX a14.length (fun i=>VR wl (a14,((a14.length:Nat):Int),(i:Int),a0,a1,a2,a3,a4,a5,a6,a7,a8,a9,a10,a11,a12,a13,a14,a15,a16,a17,a18)) (fun i=>if YW a0 a1 a15 (a14.take i) (a14.drop i)then .inr (a0,a1,a2,a3,a4,a5,a6,a7,a8,a9,a10,a11,a12,a13,a14,a15,a16,a17,a18)else .inl false)
  (fun i hi ih=>by
    apply Qde
    rw[QmQ a0 a1 a15 a14 _ _ hi]
    have hs:=Qt7 a14[i] 0 a14 i hi rfl
    have hs':decide (Qf4 (jT a14[i].1 a14[i].2.2.1 0 a14)=(i:Int))= !(a14.take i).any (qZ a14[i]):=by
     cases hb:(a14.take i).any (qZ a14[i])
     ·rw[dt (by have:=hs.2.2.2 hb;omega)];rfl
     ·rw[df (fun h=>by have:=hs.2.2.1 (by omega);rw[hb]at this;cases this)];rfl
    simp only[Qaz,ilt hi,Ql hi,Qi hi,inc hi h,QQ1,Qwy a0 a1 a2 a3 a4 a5 a6 a7 a8 a9 a10 a11 a12 a13 a14 a15 a16 a17 a18 _ hn,Qz6 a0 a1 a2 a3 a4 a5 a6 a7 a8 a9 a10 a11 a12 a13 a14 a15 a16 a17 a18 _ _ h,Q8,QQ0,ih,QhQ,hs']
    cases QjG a0 a1 a14[i].1<;>cases inR a14[i].2.1 0 100000<;>cases inR a14[i].2.2.2 0 a15<;>cases(a14.take i).any (qZ a14[i])<;>simp)
  (by
    apply Qde
    simp[Qaz,YW])
 simp only[QQ6,QRg,List.take_zero]at e
 simp only[QfU,e,QQ0]
 cases YW a0 a1 a15 [] a14
 ·simp[Qo]
 ·simp only[if_true,Qo,Sum.elim_inr,QRd,Q8,QQ0]
  cases inR a13 1 4<;>simp
theorem Quw (a0:Int) (a1:Int) (a2:List Qg) (a3:List Qb) (a4:List Int) (a5:Int) (a6:Int) (a7:Int) (a8:List Qn) (a9:List Int) (a10:List Int) (a11:List (List Int)) (a12:Int) (a13:Int) (a14:List QY) (a15:Int) (a16:Int) (a17:Int) (a18:List Q2) (hn:inR a1 1 5=true) (h:a14.length<=maxLen):vX w (a0,a1,a2,a3,a4,a5,a6,a7,a8,a9,a10,a11,a12,a13,a14,a15,a16,a17,a18)=some (decide (((a14.length:Nat):Int)<=a13)&&YW a0 a1 a15 [] a14):=by
 apply Qmq
 have hn':=hn
 simp[inR]at hn'
 have inner:∀(i:Nat) (hi:i<a14.length) (b4:Bool) (x5:Int) (b6 b7:Bool) (x8 x9:Int) (b10 b11:Bool) (q:QY) (x2 x3:Int),
  Zr wl ((i:Int),0,x2,x3,b4,x5,b6,b7,x8,x9,b10,b11,a0,a1,a2,a3,a4,a5,a6,a7,a8,a9,a10,a11,a12,a13,a14,a15,a16,a17,a18,q)=some (bif (a14.take i).any (qZ q)then .inl false else .inr ((i:Int),x2,x3,b4,x5,b6,b7,x8,x9,b10,b11,a0,a1,a2,a3,a4,a5,a6,a7,a8,a9,a10,a11,a12,a13,a14,a15,a16,a17,a18,q)):=by
  intro i hi b4 x5 b6 b7 x8 x9 b10 b11 q x2 x3
  have e:=QX i (fun k=>Zr wl ((i:Int),(k:Int),x2,x3,b4,x5,b6,b7,x8,x9,b10,b11,a0,a1,a2,a3,a4,a5,a6,a7,a8,a9,a10,a11,a12,a13,a14,a15,a16,a17,a18,q)) (fun k=>bif ((a14.take i).drop k).any (qZ q)then .inl false else .inr ((i:Int),x2,x3,b4,x5,b6,b7,x8,x9,b10,b11,a0,a1,a2,a3,a4,a5,a6,a7,a8,a9,a10,a11,a12,a13,a14,a15,a16,a17,a18,q))
   (fun k hk ih=>by
     apply Qb7
     have hk':k<a14.length:=by omega
     have hk2:k<(a14.take i).length:=by simp;omega
     rw[QRa hk2,List.any_cons,List.getElem_take]
     simp only[yD,ilt hk,Ql hk',Qi hk',inc hk (show i<=maxLen by omega),QQ1,ih,qZ]
     cases decide (a14[k].1=q.1)<;>cases(a14[k].2.2.1==q.2.2.1)<;>simp)
   (by
     apply Qb7
     simp only[yD,Qs,QQ2]
     rw[List.drop_of_length_le (by simp;omega)];simp)
  simpa using e
 have e:=QX a14.length (fun i=>Kv wl ((i:Int),a0,a1,a2,a3,a4,a5,a6,a7,a8,a9,a10,a11,a12,a13,a14,a15,a16,a17,a18)) (fun i=>if YW a0 a1 a15 (a14.take i) (a14.drop i)then .inr ()else .inl false)
  (fun i hi ih=>by
    apply QbZ
    rw[QmQ a0 a1 a15 a14 _ _ hi]
    simp only[jX,ilt hi,Ql hi,Qi hi,QQ1,XE,QQ0,QhQ,QjG]
    rw[w64 (n:=a1 - 1) (by omega) (by omega)]
    cases h1:inR a14[i].1 0 (a1 - 1)
    ·simp
    ·cases h2:decide (a14[i].1=a0)
     ·cases h3:inR a14[i].2.1 0 100000
      ·simp
      ·cases h4:inR a14[i].2.2.2 0 a15
       ·simp
       ·simp only[QQ3,QQ2,QQ4,QRn,QRd,inner i hi,QQ0]
        cases(a14.take i).any (qZ a14[i])
        ·simp only[QQ2,Qo,Sum.elim_inr,inc hi h,ih,QQ4,QQ1]
        ·simp[Qo]
     ·simp)
  (by
    apply QbZ
    simp[jX,YW])
 simp only[QQ6,QRg,List.take_zero]at e
 simp only[QfH,e,QQ0]
 by_cases hl:((a14.length:Nat):Int)<=a13
 ·simp only[df (show¬a13<((a14.length:Nat):Int) by omega),QQ2,dt hl,QRd]
  cases YW a0 a1 a15 [] a14<;>simp[Qo]
 ·simp only[dt (show a13<((a14.length:Nat):Int) by omega),QQ1,df hl,QRm]
def Qh4 (a0:Int) (a1:Int) (a2:List Qg) (a3:List Qb) (a4:List Int) (a5:Int) (a6:Int) (a7:Int) (a8:List Qn) (a9:List Int) (a10:List Int) (a11:List (List Int)) (a12:Int) (a13:Int) (a14:List QY) (a15:Int) (a16:Int) (a17:Int) (a18:List Q2):Bool:=
 inR a1 1 5&&inR a0 0 (a1 - 1)&&Q0 (a2,a3)&&decide ((a4,a5)=KV (a2,a3))&&xp (a6,a7,a8)&&Z2 a9 a1&&Z2 a10 a1&&decide (a9.getD a0.toNat 0=XV (a6,a7,a8))&&(a10.all fun x=>decide (x<=XV (a6,a7,a8)))&&
  xf a11 a1&&inR a12 0 100000&&inR a17 0 100000&&inR a15 1 20&&inR a16 1 50&&inR a13 1 4&&decide (((a14.length:Nat):Int)<=a13)&&YW a0 a1 a15 [] a14&&decide (((a18.length:Nat):Int)=5)&&a18.all (JB a17)
def smN (a2:List Qg) (a3:List Qb) (a4:List Int) (a8:List Qn) (a9 a10:List Int) (a11:List (List Int)) (a14:List QY) (a18:List Q2):Prop:=
 a2.length<=maxLen/\a3.length<=maxLen/\a4.length<=maxLen/\a8.length<=maxLen/\(∀s∈a8,s.1.length<=maxLen/\s.2.length<=maxLen)/\a9.length<=maxLen/\a10.length<=maxLen/\a11.length<=maxLen/\(∀r∈a11,r.length<=maxLen)/\a14.length<=maxLen/\a18.length<=maxLen
theorem QtP (a:List Int) (b:Int) (c:List Int) (d:Int) (h:a.length<=maxLen):zj w (a,b,c,d)=some (decide ((a,b)=(c,d))):=by
 apply Qly
 simp only[Qc1,Qxq a c h,QQ0]
 by_cases h1:a=c
 ·by_cases h2:b=d
  ·simp[h1,h2]
  ·simp[h1,h2]
 ·simp[h1]
theorem QvD (a:List Int) (b:Int) (c:List Int) (d:Int) (h:a.length<=maxLen):jJ w (a,b,c,d)=some (decide ((a,b)=(c,d))):=by
 apply QmK
 simp only[Qfz,Qv5 a c h,QQ0]
 by_cases h1:a=c
 ·by_cases h2:b=d
  ·simp[h1,h2]
  ·simp[h1,h2]
 ·simp[h1]
theorem Qwr (a0:Int) (a1:Int) (a2:List Qg) (a3:List Qb) (a4:List Int) (a5:Int) (a6:Int) (a7:Int) (a8:List Qn) (a9:List Int) (a10:List Int) (a11:List (List Int)) (a12:Int) (a13:Int) (a14:List QY) (a15:Int) (a16:Int) (a17:Int) (a18:List Q2) (h:smN a2 a3 a4 a8 a9 a10 a11 a14 a18):JD w (a0,a1,a2,a3,a4,a5,a6,a7,a8,a9,a10,a11,a12,a13,a14,a15,a16,a17,a18)=some (Qh4 a0 a1 a2 a3 a4 a5 a6 a7 a8 a9 a10 a11 a12 a13 a14 a15 a16 a17 a18):=by
 obtain⟨h2,h3,h4,h8,h8',h9,h10,h11,h11',h14,h18⟩:=h
 apply Qou
 simp only[Qgd,Q8,QQ0,Qh4]
 cases q1:inR a1 1 5
 ·simp
 have q1':=q1
 simp[inR]at q1'
 rw[w64 (n:=a1 - 1) (by omega) (by omega)]
 simp only[QQ3,QQ2,QRd]
 cases q0:inR a0 0 (a1 - 1)
 ·simp
 simp[inR]at q0
 simp only[QQ3,QQ2,QRd,YG a2 a3 h2 h3,QQ0]
 cases q2:Q0 (a2,a3)
 ·simp
 simp only[QQ3,QQ2,QRd,Qw4 a2 a3 h2 h3,QQ0,QtP a4 a5 _ _ h4]
 cases q4:decide ((a4,a5)=KV (a2,a3))
 ·have:decide ((a4,a5)=((KV (a2,a3))))=false:=q4
  simp[this]
 have q4':decide ((a4,a5)=((KV (a2,a3))))=true:=q4
 simp only[q4',QQ3,QQ2,QRd,Qxc a6 a7 a8 h8 h8',QrN a6 a7 a8 h8 h8',QQ0]
 cases q6:xp (a6,a7,a8)
 ·simp
 simp only[QQ3,QQ2,QRd,Qr5 a9 a1 h9,Qr5 a10 a1 h10,QQ0]
 cases q9:Z2 a9 a1
 ·simp
 cases q10:Z2 a10 a1
 ·simp
 have l9:((a9.length:Nat):Int)=a1:=by simp[Z2]at q9;exact q9.1.2
 have l10:((a10.length:Nat):Int)=a1:=by simp[Z2]at q10;exact q10.1.2
 have i0:inb a0 a9.length=true:=by simp[inb];omega
 simp only[QQ3,QQ2,QRd,i0,QQ1,rd1]
 by_cases qg:a9.getD a0.toNat 0=XV (a6,a7,a8)
 case neg=>simp only[qg,decide_false,QQ4,QQ1,Bool.and_false,QRm]
 simp only[qg,decide_true]
 cases hc:a10 with
 |nil=>rw[hc]at l10;simp at l10;omega
 |cons m l=>
  rw[<-hc]
  have hm:Yx w a10=some (Qe8 m l):=by rw[hc];exact QAV m l (by rw[<-hc];exact h10)
  have hall:(a10.all fun x=>decide (x<=XV (a6,a7,a8)))=(decide (m<=XV (a6,a7,a8))&&l.all fun x=>decide (x<=XV (a6,a7,a8))):=by rw[hc];rfl
  simp only[QQ3,QQ2,QRd,hm,QQ0,Quj,hall]
  cases decide (m<=XV (a6,a7,a8))&&l.all fun x=>decide (x<=XV (a6,a7,a8))
  ·simp
  simp only[QQ3,QQ2,QRd,Qu3 a11 a1 h11 h11',QQ0]
  cases xf a11 a1
  ·simp
  simp only[QQ3,QQ2,QRd,Qww a0 a1 a2 a3 a4 a5 a6 a7 a8 a9 a10 a11 a12 a13 a14 a15 a16 a17 a18 q1 h14,Qvg a0 a1 a2 a3 a4 a5 a6 a7 a8 a9 a10 a11 a12 a13 a14 a15 a16 a17 a18 h18,QQ0]
  cases inR a12 0 100000<;>cases inR a17 0 100000<;>cases inR a15 1 20<;>cases inR a16 1 50<;>cases inR a13 1 4<;>cases decide (((a14.length:Nat):Int)<=a13)<;>cases YW a0 a1 a15 [] a14<;>cases decide (((a18.length:Nat):Int)=5)<;>cases a18.all (JB a17)<;>rfl
theorem QuX (a0:Int) (a1:Int) (a2:List Qg) (a3:List Qb) (a4:List Int) (a5:Int) (a6:Int) (a7:Int) (a8:List Qn) (a9:List Int) (a10:List Int) (a11:List (List Int)) (a12:Int) (a13:Int) (a14:List QY) (a15:Int) (a16:Int) (a17:Int) (a18:List Q2) (h:smN a2 a3 a4 a8 a9 a10 a11 a14 a18):JE w (a0,a1,a2,a3,a4,a5,a6,a7,a8,a9,a10,a11,a12,a13,a14,a15,a16,a17,a18)=some (Qh4 a0 a1 a2 a3 a4 a5 a6 a7 a8 a9 a10 a11 a12 a13 a14 a15 a16 a17 a18):=by
 obtain⟨h2,h3,h4,h8,h8',h9,h10,h11,h11',h14,h18⟩:=h
 apply Qov
 simp only[QfV,XE,QQ0,Qh4]
 cases q1:inR a1 1 5
 ·simp
 have q1':=q1
 simp[inR]at q1'
 rw[w64 (n:=a1 - 1) (by omega) (by omega)]
 simp only[QQ3,QQ2,QRd]
 cases q0:inR a0 0 (a1 - 1)
 ·simp
 simp[inR]at q0
 simp only[QQ3,QQ2,QRd,Vf a2 a3 h2 h3,QQ0]
 cases q2:Q0 (a2,a3)
 ·simp
 simp only[QQ3,QQ2,QRd,Qvb a2 a3 h2 h3,QQ0,QvD a4 a5 _ _ h4]
 cases q4:decide ((a4,a5)=KV (a2,a3))
 ·have:decide ((a4,a5)=((KV (a2,a3))))=false:=q4
  simp[this]
 have q4':decide ((a4,a5)=((KV (a2,a3))))=true:=q4
 simp only[q4',QQ3,QQ2,QRd,Qoi a6 a7 a8 h8 h8',QpX a6 a7 a8 h8 h8',QQ0]
 cases q6:xp (a6,a7,a8)
 ·simp
 simp only[QQ3,QQ2,QRd,Qqo a9 a1 h9,Qqo a10 a1 h10,QQ0]
 cases q9:Z2 a9 a1
 ·simp
 cases q10:Z2 a10 a1
 ·simp
 have l9:((a9.length:Nat):Int)=a1:=by simp[Z2]at q9;exact q9.1.2
 have l10:((a10.length:Nat):Int)=a1:=by simp[Z2]at q10;exact q10.1.2
 have i0:inb a0 a9.length=true:=by simp[inb];omega
 simp only[QQ3,QQ2,QRd,i0,QQ1,rd1]
 by_cases qg:a9.getD a0.toNat 0=XV (a6,a7,a8)
 case neg=>simp only[qg,decide_false,QQ4,QQ1,Bool.and_false,QRm]
 simp only[qg,decide_true]
 simp only[QQ3,QQ2,QRd,Qs9 a11 a1 h11 h11',QQ0]
 cases qt:xf a11 a1
 ·simp
 have e0:=QX a10.length (fun i=>VD wl ((i:Int),a0,a1,a2,a3,a4,a5,a6,a7,a8,a9,a10,a11,a12,a13,a14,a15,a16,a17,a18)) (fun i=>if(a10.drop i).all (fun x=>decide (x<=XV (a6,a7,a8)))then .inr (a0,a1,a2,a3,a4,a5,a6,a7,a8,a9,a10,a11,a12,a13,a14,a15,a16,a17,a18)else .inl false)
  (fun i hi ih=>by
    apply Qdk
    rw[X8 (fun x=>decide (x<=XV (a6,a7,a8))) a10 _ _ hi]
    have hi':(i:Int)<a1:=by omega
    simp only[Qau,dt hi',Ql hi,Qi hi,inc hi h10,QQ1,Qoi a6 a7 a8 h8 h8',QQ0,ih]
    by_cases hx:a10[i]<=XV (a6,a7,a8)
    ·simp only[df (show¬XV (a6,a7,a8)<a10[i] by omega),QQ2,dt hx,QQ1]
    ·simp only[dt (show XV (a6,a7,a8)<a10[i] by omega),QQ1,df hx,QQ2])
  (by
    apply Qdk
    have:¬((a10.length:Nat):Int)<a1:=by omega
    simp only[Qau,df this,QQ2,Qpm])
 simp only[QQ6,QRg]at e0
 simp only[QQ3,QQ2,QRd,e0,QQ0]
 cases qa:a10.all fun x=>decide (x<=XV (a6,a7,a8))
 ·simp[Qo]
 simp only[if_true,Qo,Sum.elim_inr,QRn]
 cases inR a12 0 100000
 ·simp
 cases inR a17 0 100000
 ·simp
 cases inR a13 1 4
 ·simp
 cases inR a15 1 20
 ·simp
 cases inR a16 1 50
 ·simp
 simp only[QQ3,QQ2,QRd,QRn]
 cases q5:decide (((a18.length:Nat):Int)=5)
 ·simp
 have l5:a18.length=5:=by simp at q5;omega
 have e2:=QX a18.length (fun i=>VO wl ((i:Int),a0,a1,a2,a3,a4,a5,a6,a7,a8,a9,a10,a11,a12,a13,a14,a15,a16,a17,a18)) (fun i=>if(a18.drop i).all (JB a17)then .inr (a0,a1,a2,a3,a4,a5,a6,a7,a8,a9,a10,a11,a12,a13,a14,a15,a16,a17,a18)else .inl false)
  (fun i hi ih=>by
    apply Qdj
    rw[X8 (JB a17) a18 _ _ hi]
    have hi':(i:Int)<5:=by omega
    simp only[QaN,dt hi',Ql hi,Qi hi,inc hi h18,QQ1,XE,QQ0,ih,JB]
    cases inR a18[i].1 0 1000<;>cases inR a18[i].2.1 0 100000<;>cases inR a18[i].2.2 0 a17<;>simp)
  (by
    apply Qdj
    have:¬((a18.length:Nat):Int)<5:=by omega
    simp only[QaN,df this,QQ2,Qpm])
 simp only[QQ6,QRg]at e2
 simp only[QQ3,QQ2,e2,QQ0]
 cases a18.all (JB a17)
 ·simp
 simp only[if_true,Sum.elim_inr,Quw a0 a1 a2 a3 a4 a5 a6 a7 a8 a9 a10 a11 a12 a13 a14 a15 a16 a17 a18 q1 h14,QQ0,QRn]
end Go.Proofs.YtameehmkoglkeaaGreatDoor.M
namespace Go.Proofs.YtameehmkoglkeaaGreatDoor.M
open Go Go.Eng Go.Proofs
set_option linter.unusedVariables false
end Go.Proofs.YtameehmkoglkeaaGreatDoor.M
namespace Go.Proofs.YtameehmkoglkeaaGreatDoor.M
open Go Go.Eng Go.Proofs
set_option linter.unusedVariables false
def QpI (r:Int×Int×Int×Int×ByteArray×Bool):XI:=(r.1,r.2.1,r.2.2.1,r.2.2.2.1,r.2.2.2.2.1)
def most (id:Int):XI->List Qn->XI
 |m,[]=>m
 |m,s::l=>bif (xi id s.1).2.2.2.2.2&&Q0 s then most id (Qv7 m (QpI (xi id s.1))) l else most id m l
end Go.Proofs.YtameehmkoglkeaaGreatDoor.M
namespace Go.Proofs.YtameehmkoglkeaaGreatDoor.M
open Go Go.Eng Go.Proofs
set_option linter.unusedVariables false
def ZP (x:Qp):Bool:=Qh4 x.1 x.2.1 x.2.2.1 x.2.2.2.1 x.2.2.2.2.1 x.2.2.2.2.2.1 x.2.2.2.2.2.2.1 x.2.2.2.2.2.2.2.1 x.2.2.2.2.2.2.2.2.1 x.2.2.2.2.2.2.2.2.2.1 x.2.2.2.2.2.2.2.2.2.2.1 x.2.2.2.2.2.2.2.2.2.2.2.1 x.2.2.2.2.2.2.2.2.2.2.2.2.1 x.2.2.2.2.2.2.2.2.2.2.2.2.2.1 x.2.2.2.2.2.2.2.2.2.2.2.2.2.2.1 x.2.2.2.2.2.2.2.2.2.2.2.2.2.2.2.1 x.2.2.2.2.2.2.2.2.2.2.2.2.2.2.2.2.1 x.2.2.2.2.2.2.2.2.2.2.2.2.2.2.2.2.2.1 x.2.2.2.2.2.2.2.2.2.2.2.2.2.2.2.2.2.2
def QpJ (x:Qp):Prop:=smN x.2.2.1 x.2.2.2.1 x.2.2.2.2.1 x.2.2.2.2.2.2.2.2.1 x.2.2.2.2.2.2.2.2.2.1 x.2.2.2.2.2.2.2.2.2.2.1 x.2.2.2.2.2.2.2.2.2.2.2.1 x.2.2.2.2.2.2.2.2.2.2.2.2.2.2.1 x.2.2.2.2.2.2.2.2.2.2.2.2.2.2.2.2.2.2
theorem Qr4 (x:Qp) (h:QpJ x):JD w x=some (ZP x):=Qwr _ _ _ _ _ _ _ _ _ _ _ _ _ _ _ _ _ _ _ h
theorem Qqr (x:Qp) (h:QpJ x):JE w x=some (ZP x):=QuX _ _ _ _ _ _ _ _ _ _ _ _ _ _ _ _ _ _ _ h
theorem Qxn (x:Qp) (h:QdP x):QpJ x:=by
 simp only[QdP,qK,Qiy,Qgr,Qh3,QdM,QjC,Qjo,QlZ,QlO,QlU]at h
 obtain⟨⟨⟨h2,_⟩,h3⟩,h4,⟨h8,h8'⟩,h9,h10,⟨h11,h11'⟩,h14,h18⟩:=h
 exact⟨h2,h3,h4,h8,fun s hs=>⟨(h8' s hs).1.1,(h8' s hs).2⟩,h9,h10,h11,h11',h14,h18⟩
def ZO (n:Int):Nat->List Qp->Bool
 |_,[]=>true
 |i,x::l=>(ZP x&&(decide (x.2.1=n)&&decide (x.1=(i:Int))))&&ZO n (i+1) l
def Qga (n:Int) (p:QH):Bool:=inR p.1 0 (n - 1)
def Qcb (n:Int) (x:QI):Bool:=inR x.1 0 (n - 1)&&Q0 x.2
def VS (ns:List Qp) (net:List QH) (sd:List QI):Bool:=inR ((ns.length:Nat):Int) 1 5&&(!decide (12<((net.length:Nat):Int))&&(!decide (40<((sd.length:Nat):Int))&&(ZO (ns.length:Nat) 0 ns&&(net.all (Qga (ns.length:Nat))&&sd.all (Qcb (ns.length:Nat))))))
def smW (ns:List Qp) (net:List QH) (sd:List QI):Prop:=ns.length<=maxLen/\(∀x∈ns,QpJ x)/\net.length<=maxLen/\(∀p∈net,p.2.1.length<=maxLen)/\sd.length<=maxLen/\∀x∈sd,x.2.1.length<=maxLen/\x.2.2.length<=maxLen
theorem QyW {ns:List Qp}{net:List QH}{sd:List QI}(h:Qas (ns,net,sd)):smW ns net sd:=by
 simp only[Qas,QlR,Qlr,Qls]at h
 refine⟨h.1.1,fun x hx=>Qxn x (h.1.2 x hx),h.2.1.1,fun p hp=> ?_,h.2.2.1,fun x hx=> ?_⟩
 ·have:=h.2.1.2 p hp
  simpa only[QhO,QlT]using this
 ·have:=h.2.2.2 x hx
  simp only[Qhl,qK,Qiy,Qgr]at this
  exact⟨this.1.1,this.2⟩
theorem QkW {R:Type}(n:Int) (l:List Qp) (x y:R) {i:Nat}(hi:i<l.length):(if ZO n i (l.drop i)then x else y)=(bif ZP l[i]then(bif decide (l[i].2.1=n)then(bif decide (l[i].1=(i:Int))then(if ZO n (i+1) (l.drop (i+1))then x else y)else y)else y)else y):=by
 rw[QRa hi,ZO]
 cases ZP l[i]<;>cases decide (l[i].2.1=n)<;>cases decide (l[i].1=(i:Int))<;>simp
theorem QmH (ns:List Qp) (net:List QH) (sd:List QI) (i:Int) (h:ns.length<=maxLen):qi w (ns,net,sd,i)=some (inR i 0 (((ns.length:Nat):Int) - 1)):=by
 apply Qne
 simp only[maxLen]at h
 have:wR (((ns.length:Nat):Int) - 1)=((ns.length:Nat):Int) - 1:=w64 (by omega) (by omega)
 simp only[Qel,this,Q8,QQ0]
theorem QrC {A S R:Type}(c:Bool) (s:S) (r:A) (f:A->Option R) (g:S->Option R):Qo (if c=true then Sum.inr s else Sum.inl r) f g=bif c then g s else f r:=by cases c<;>rfl
theorem QuH (ns:List Qp) (net:List QH) (sd:List QI) (h:smW ns net sd):vm w (ns,net,sd)=some (VS ns net sd):=by
 apply Qob
 obtain⟨h1,h2,h3,h4,h5,h6⟩:=h
 have e1:=QX ns.length (fun i=>KO wl (ns,((ns.length:Nat):Int),(i:Int),ns,net,sd)) (fun i=>if ZO (ns.length:Nat) i (ns.drop i)then .inr (ns,net,sd)else .inl false)
  (fun i hi ih=>by
    apply Qb6
    simp only[yx,ilt hi,Ql hi,Qi hi,inc hi h1,QQ1,ih,Qr4 _ (h2 _ (QRf hi)),QQ0,QkW _ _ _ _ hi]
    cases ZP ns[i]<;>cases decide (ns[i].2.1=((ns.length:Nat):Int))<;>cases decide (ns[i].1=(i:Int))<;>simp)
  (by
    apply Qb6
    simp[yx,ZO])
 have e2:=QX net.length (fun i=>KZ wl (net,((net.length:Nat):Int),(i:Int),ns,net,sd)) (fun i=>if(net.drop i).all (Qga (ns.length:Nat))then .inr (ns,net,sd)else .inl false)
  (fun i hi ih=>by
    apply QbU
    simp only[vZ,ilt hi,Ql hi,Qi hi,inc hi h3,QQ1,ih,QmH _ _ _ _ h1,QQ0,X8 _ _ _ _ hi,Qga]
    cases inR net[i].1 0 (((ns.length:Nat):Int) - 1)<;>simp)
  (by
    apply QbU
    simp[vZ])
 have e3:=QX sd.length (fun i=>KB wl (sd,((sd.length:Nat):Int),(i:Int),ns,net,sd)) (fun i=>if(sd.drop i).all (Qcb (ns.length:Nat))then .inr ()else .inl false)
  (fun i hi ih=>by
    apply Qb8
    have hs:=h6 _ (QRf hi)
    simp only[jS,ilt hi,Ql hi,Qi hi,inc hi h5,QQ1,ih,QmH _ _ _ _ h1,YG _ _ hs.1 hs.2,QQ0,X8 _ _ _ _ hi,Qcb]
    cases inR sd[i].1 0 (((ns.length:Nat):Int) - 1)<;>cases Q0 sd[i].2<;>simp)
  (by
    apply Qb8
    simp[jS])
 simp only[QQ6,QRg]at e1 e2 e3
 simp only[Qfn,Q8,e1,e2,e3,QQ0,QrC,VS]
 cases inR ((ns.length:Nat):Int) 1 5<;>cases decide (12<((net.length:Nat):Int))<;>cases decide (40<((sd.length:Nat):Int))<;>cases ZO (ns.length:Nat) 0 ns<;>cases net.all (Qga (ns.length:Nat))<;>cases sd.all (Qcb (ns.length:Nat))<;>rfl
theorem Qs5 (ns:List Qp) (net:List QH) (sd:List QI) (h:smW ns net sd):jL w (ns,net,sd)=some (VS ns net sd):=by
 apply Qnl
 obtain⟨h1,h2,h3,h4,h5,h6⟩:=h
 have hw:wR (((ns.length:Nat):Int) - 1)=((ns.length:Nat):Int) - 1:=by simp only[maxLen]at h1;exact w64 (by omega) (by omega)
 have e1:=QX ns.length (fun i=>KA wl (((ns.length:Nat):Int),(i:Int),ns,net,sd)) (fun i=>if ZO (ns.length:Nat) i (ns.drop i)then .inr (((ns.length:Nat):Int),ns,net,sd)else .inl false)
  (fun i hi ih=>by
    apply QcG
    simp only[yV,ilt hi,Ql hi,Qi hi,inc hi h1,QQ1,ih,Qqr _ (h2 _ (QRf hi)),QQ0,QkW _ _ _ _ hi]
    cases ZP ns[i]<;>cases decide (ns[i].2.1=((ns.length:Nat):Int))<;>cases decide (ns[i].1=(i:Int))<;>simp)
  (by
    apply QcG
    simp[yV,ZO])
 have e2:=QX net.length (fun i=>Kn wl (((ns.length:Nat):Int),(i:Int),ns,net,sd)) (fun i=>if(net.drop i).all (Qga (ns.length:Nat))then .inr (((ns.length:Nat):Int),ns,net,sd)else .inl false)
  (fun i hi ih=>by
    apply Qby
    simp only[yX,ilt hi,Ql hi,Qi hi,inc hi h3,QQ1,ih,hw,XE,QQ0,X8 _ _ _ _ hi,Qga]
    cases inR net[i].1 0 (((ns.length:Nat):Int) - 1)<;>simp)
  (by
    apply Qby
    simp[yX])
 have e3:=QX sd.length (fun i=>KI wl (((ns.length:Nat):Int),(i:Int),ns,net,sd)) (fun i=>if(sd.drop i).all (Qcb (ns.length:Nat))then .inr ()else .inl false)
  (fun i hi ih=>by
    apply Qbw
    have hs:=h6 _ (QRf hi)
    simp only[vS,ilt hi,Ql hi,Qi hi,inc hi h5,QQ1,ih,hw,XE,Vf _ _ hs.1 hs.2,QQ0,X8 _ _ _ _ hi,Qcb]
    cases inR sd[i].1 0 (((ns.length:Nat):Int) - 1)<;>cases Q0 sd[i].2<;>simp)
  (by
    apply Qbw
    simp[vS])
 simp only[QQ6,QRg]at e1 e2 e3
 simp only[Qei,XE,e1,e2,e3,QQ0,QrC,VS]
 cases inR ((ns.length:Nat):Int) 1 5<;>cases decide (12<((net.length:Nat):Int))<;>cases decide (40<((sd.length:Nat):Int))<;>cases ZO (ns.length:Nat) 0 ns<;>cases net.all (Qga (ns.length:Nat))<;>cases sd.all (Qcb (ns.length:Nat))<;>rfl
end Go.Proofs.YtameehmkoglkeaaGreatDoor.M
