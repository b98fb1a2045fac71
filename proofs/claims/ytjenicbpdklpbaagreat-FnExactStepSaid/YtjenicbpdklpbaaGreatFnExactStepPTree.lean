/- What the plain forms that FnExactStep reaches come to: PTree. No conditions but those that each theorem states. -/
import Derived.Test.YtjenicbpdklpbaaGreatFnExactStepPBytes
set_option linter.all false
namespace Go.Proofs.YtjenicbpdklpbaaGreat.M
open Go Go.Eng Go.Proofs
set_option linter.unusedVariables false
def QrG (x:Int):Nat->List Int->Int⊕Unit
 |_,[]=> .inr ()
 |i,y::l=>if x=y then .inl (i:Nat)else QrG x (i+1) l
theorem QAk (x:Int):(i:Nat)->(l:List Int)->∃r:Int,Qn (QrG x i l) (fun u=>some u) (fun _=>some (-1))=some r/\decide (0<=r)=decide (x∈l)
 |i,[]=>⟨-1,rfl,by simp⟩
 |i,y::l=>by
  by_cases h:x=y
  ·refine⟨(i:Nat), ?_, ?_⟩
   ·simp only[QrG,h,if_true,Qn,Sum.elim_inl]
   ·simp[h]
  ·obtain⟨r,h1,h2⟩:=QAk x (i+1) l
   refine⟨r, ?_, ?_⟩
   ·simp only[QrG,h,if_false];exact h1
   ·rw[h2];simp[h]
theorem Qrw (a:List Int) (x:Int) (h:a.length<=maxLen):Z0 w (a,x)=some (decide (x∈a)):=by
 apply QhD
 have e:=Q6 a.length (fun i=>Z2 wl (a,x,((a.length:Nat):Int),(i:Int))) (fun i=>QrG x i (a.drop i))
  (fun i hi ih=>by
    apply zG
    simp only[qE,ilt hi,Qk hi,Qg hi,inc hi h,QQ1,ih]
    rw[QRa hi,QrG]
    by_cases hx:x=a[i]
    ·simp only[hx,decide_true,QQ1,if_true]
    ·simp only[hx,decide_false,QQ2,if_false])
  (by
    apply zG
    simp only[qE,Qm,QQ2,QRl,QrG])
 simp only[QQ6,QRg]at e
 obtain⟨r,h1,h2⟩:=QAk x 0 a
 have hi:V8 w (a,x)=some r:=by
  apply Qmg
  simp only[jz,e,QQ0,h1]
 simp only[zi,hi,QQ0,h2]
theorem QGG (a b:List Int) (h:a.length<=maxLen):V7 w (a,b)=some (decide (a=b)):=by
 apply Qmx
 by_cases hl:a.length=b.length
 ·have e:=QB9 a b hl (fun i=>ZZ wl (a,b,((a.length:Nat):Int),(i:Int)))
   (fun i h1 h2 hx=>by
     apply Vj
     simp only[Kn,ilt h1,Qk h1,Qk h2,Qg h1,Qg h2,QQ1,hx,decide_false,QQ4])
   (fun i h1 h2 r hx hk=>by
     apply Vj
     simp only[Kn,ilt h1,Qk h1,Qk h2,Qg h1,Qg h2,inc h1 h,QQ1,hx,decide_true,QQ3,QQ2]
     exact hk)
   (by
     apply Vj
     simp only[Kn,Qm,QQ2])
  simp only[QQ6]at e
  simp only[Ja,dt (show((a.length:Nat):Int)=((b.length:Nat):Int) by omega),QQ3,QQ2,e,QQ0]
  by_cases hab:a=b
  ·simp[hab,Qn]
  ·simp[hab,Qn]
 ·have hab:a≠b:=fun h=>hl (by rw[h])
  simp only[Ja,df (show¬((a.length:Nat):Int)=((b.length:Nat):Int) by omega),QQ4,QQ1,hab,decide_false]
def Qp0 (x:Int):List Int->Bool⊕Unit
 | []=> .inr ()
 |y::l=>if y=x then .inl true else Qp0 x l
theorem QyO (x:Int):(l:List Int)->Qn (Qp0 x l) (fun u=>some u) (fun _=>some false)=some (decide (x∈l))
 | []=>by simp[Qp0,Qn]
 |y::l=>by
  by_cases h:y=x
  ·simp[Qp0,h,Qn]
  ·have:=QyO x l
   have h':¬x=y:=fun e=>h e.symm
   simp only[Qp0,h,if_false,this];simp[h']
theorem Qz8 (a:List Int) (x:Int) (h:a.length<=maxLen):QbO w (a,x)=some (decide (x∈a)):=by
 apply Qxs
 have e:=Q6 a.length (fun i=>zg wl (a,x,(i:Int))) (fun i=>Qp0 x (a.drop i))
  (fun i hi ih=>by
    apply QjX
    simp only[QgK,ilt hi,Qk hi,Qg hi,inc hi h,QQ1,ih]
    rw[QRa hi,Qp0]
    by_cases hx:a[i]=x
    ·simp only[hx,decide_true,QQ1,if_true]
    ·simp only[hx,decide_false,QQ2,if_false])
  (by
    apply QjX
    simp only[QgK,Qm,QQ2,QRl,Qp0])
 simp only[QQ6,QRg]at e
 simp only[Qm4,e,QQ0,QyO]
theorem QEM (a b:List Int) (h:a.length<=maxLen):Qel w (a,b)=some (decide (a=b)):=by
 apply Qu6
 by_cases hl:a.length=b.length
 ·have e:=QB9 a b hl (fun i=>qQ wl (a,b,(i:Int)))
   (fun i h1 h2 hx=>by
     apply j0
     simp only[jc,ilt h1,Qk h1,Qk h2,Qg h1,Qg h2,QQ1,hx,decide_false,QQ4])
   (fun i h1 h2 r hx hk=>by
     apply j0
     simp only[jc,ilt h1,Qk h1,Qk h2,Qg h1,Qg h2,inc h1 h,QQ1,hx,decide_true,QQ3,QQ2]
     exact hk)
   (by
     apply j0
     simp only[jc,Qm,QQ2])
  simp only[QQ6]at e
  simp only[Qdc,dt (show((a.length:Nat):Int)=((b.length:Nat):Int) by omega),QQ3,QQ2,e,QQ0]
  by_cases hab:a=b
  ·simp[hab,Qn]
  ·simp[hab,Qn]
 ·have hab:a≠b:=fun h=>hl (by rw[h])
  simp only[Qdc,df (show¬((a.length:Nat):Int)=((b.length:Nat):Int) by omega),QQ4,QQ1,hab,decide_false]
def qU (n:Int):Int:=bif inR n 0 4 then Int.tmod (crc (QF n)) 4 else -1
theorem QoN (n:Int):(QF n).length<=maxLen:=by have:=Xn n;simp only[maxLen];omega
theorem Qw9 (n:Int):va w n=some (qU n):=by
 apply Qu1
 simp only[QlX,Qat,QQ0,qU,Qad,Qzv _ (QoN n),dt (show(4:Int)≠0 by omega),QQ1]
 cases inR n 0 4<;>simp
theorem Qug (n:Int):vi w n=some (qU n):=by
 apply Qwr
 simp only[Qlu,Qam,QQ0,qU,yQ,Qvy _ (QoN n),dt (show(4:Int)≠0 by omega),QQ1]
 cases inR n 0 4<;>simp
def XJ (l:List Int) (n:Int):Bool:=decide (qU n∈l)
def Zb (s:Qj) (l:List Int):Qj:=(s.1.filter fun x=>XJ l x.1,s.2.filter fun x=>XJ l x.1)
theorem yn:(p:Int)->(l:List Qa)->QO p l=true-> -1<=p->(l.length:Int)<=4 - p\/l=[]
 |p,[],_,_=> .inr rfl
 |p,x::l,h,hp=>by
  simp only[QO,QQ5,inR,QRu]at h
  obtain⟨⟨⟨h1,h2⟩,h3⟩,h4⟩:=h
  left
  rcases yn x.1 l h4 (by omega)with h5|h5
  ·simp only[List.length_cons];omega
  ·subst h5;simp;omega
theorem Qrj (fl:List Qa):(p:Int)->(l:List Qd)->Xw fl p l=true-> -1<=p->(l.length:Int)<=4 - p\/l=[]
 |p,[],_,_=> .inr rfl
 |p,x::l,h,hp=>by
  simp only[Xw,QQ5,inR,QRu]at h
  obtain⟨⟨⟨⟨h1,h2⟩,h2'⟩,h3⟩,h4⟩:=h
  left
  rcases Qrj fl x.1 l h4 (by omega)with h5|h5
  ·simp only[List.length_cons];omega
  ·subst h5;simp;omega
theorem Kj {s:Qj}(h:QC s=true):s.1.length<=5/\s.2.length<=5:=by
 simp only[QC,QQ5]at h
 have h1:=yn _ _ h.1 (by omega)
 have h2:=Qrj _ _ _ h.2 (by omega)
 constructor
 ·rcases h2 with h|h
  ·omega
  ·simp[h]
 ·rcases h1 with h|h
  ·omega
  ·simp[h]
theorem QBc (q:List Int) (a:List Qd) (b:List Qa) (hq:q.length<=maxLen) (ha:a.length<=4294967296) (c:List Qa):
 K4 wl (q,a,((a.length:Nat):Int),0,a,b,[],c)=some (q,a,b,a.filter (fun x=>XJ q x.1),c):=by
 have e:=Xb a.length (fun i (o:List Qd)=>K4 wl (q,a,((a.length:Nat):Int),(i:Int),a,b,o,c)) (fun i o=>(q,a,b,o++(a.drop i).filter (fun x=>XJ q x.1),c)) (fun i o=>o.length<=i)
  (fun i hi o ho ih=>by
    apply QiM
    have ih1:=ih o (by omega)
    have ih2:=ih (o++[a[i]]) (by simp;omega)
    simp only[QgE,ilt hi,Qk hi,Qg hi,inc hi (show a.length<=maxLen by simp[maxLen];omega),QQ1,Qw9,Qrw q _ hq,QQ0,List.length_singleton,Qu (show(o.length+1)*56<=140737488351232 by omega)]
    rw[QRa hi,List.filter_cons]
    cases h:XJ q a[i].1
    ·have h':decide (qU a[i].1∈q)=false:=h
     simp only[h',QQ2,QRw,if_false];exact ih1
    ·have h':decide (qU a[i].1∈q)=true:=h
     simp only[h',QQ1,if_true]
     rw[show o++a[i]::List.filter (fun x=>XJ q x.1) (List.drop (i+1) a)=(o++[a[i]])++List.filter (fun x=>XJ q x.1) (List.drop (i+1) a) by simp]
     exact ih2)
  (fun o _=>by
    apply QiM
    simp[QgE])
  [] (by simp)
 simpa using e
theorem QBs (q:List Int) (b:List Qa) (hq:q.length<=maxLen) (hb:b.length<=4294967296) (c:List Qd):
 K1 wl (q,b,((b.length:Nat):Int),0,c,[])=some (c,b.filter (fun x=>XJ q x.1)):=by
 have e:=Xb b.length (fun i (o:List Qa)=>K1 wl (q,b,((b.length:Nat):Int),(i:Int),c,o)) (fun i o=>(c,o++(b.drop i).filter (fun x=>XJ q x.1))) (fun i o=>o.length<=i)
  (fun i hi o ho ih=>by
    apply QiG
    have ih1:=ih o (by omega)
    have ih2:=ih (o++[b[i]]) (by simp;omega)
    simp only[QgA,ilt hi,Qk hi,Qg hi,inc hi (show b.length<=maxLen by simp[maxLen];omega),QQ1,Qw9,Qrw q _ hq,QQ0,List.length_singleton,Qu (show(o.length+1)*16<=140737488351232 by omega)]
    rw[QRa hi,List.filter_cons]
    cases h:XJ q b[i].1
    ·have h':decide (qU b[i].1∈q)=false:=h
     simp only[h',QQ2,QRw,if_false];exact ih1
    ·have h':decide (qU b[i].1∈q)=true:=h
     simp only[h',QQ1,if_true]
     rw[show o++b[i]::List.filter (fun x=>XJ q x.1) (List.drop (i+1) b)=(o++[b[i]])++List.filter (fun x=>XJ q x.1) (List.drop (i+1) b) by simp]
     exact ih2)
  (fun o _=>by
    apply QiG
    simp[QgA])
  [] (by simp)
 simpa using e
theorem QzR (a:List Qd) (b:List Qa) (q:List Int) (hq:q.length<=maxLen) (ha:a.length<=maxLen) (hb:b.length<=maxLen):
 yP w (a,b,q)=some (bif QC (a,b)then Zb (a,b) q else([],[])):=by
 apply Qxt
 simp only[Qm2,Zx a b ha hb,QQ0]
 cases h:QC (a,b)
 ·simp
 ·have hl:=Kj h
  simp only at hl
  simp only[QQ3,QQ2,QQ1,QBc q a b hq (by omega),QBs q b hq (by omega),QQ0,Zb]
theorem Qyp (q:List Int) (a:List Qd) (b:List Qa) (hq:q.length<=maxLen) (ha:a.length<=4294967296) (c:List Qa):
 Yu wl (q,0,a,b,[],c)=some (q,a,b,a.filter (fun x=>XJ q x.1),c):=by
 have e:=Xb a.length (fun i (o:List Qd)=>Yu wl (q,(i:Int),a,b,o,c)) (fun i o=>(q,a,b,o++(a.drop i).filter (fun x=>XJ q x.1),c)) (fun i o=>o.length<=i)
  (fun i hi o ho ih=>by
    apply Qfa
    have ih1:=ih o (by omega)
    have ih2:=ih (o++[a[i]]) (by simp;omega)
    simp only[Qbr,ilt hi,Qk hi,Qg hi,inc hi (show a.length<=maxLen by simp[maxLen];omega),QQ1,Qug,Qz8 q _ hq,QQ0,List.length_singleton,Qu (show(o.length+1)*56<=140737488351232 by omega)]
    rw[QRa hi,List.filter_cons]
    cases h:XJ q a[i].1
    ·have h':decide (qU a[i].1∈q)=false:=h
     simp only[h',QQ2,QRw,if_false];exact ih1
    ·have h':decide (qU a[i].1∈q)=true:=h
     simp only[h',QQ1,if_true]
     rw[show o++a[i]::List.filter (fun x=>XJ q x.1) (List.drop (i+1) a)=(o++[a[i]])++List.filter (fun x=>XJ q x.1) (List.drop (i+1) a) by simp]
     exact ih2)
  (fun o _=>by
    apply Qfa
    simp[Qbr])
  [] (by simp)
 simpa using e
theorem Qzr (q:List Int) (a:List Qd) (b:List Qa) (hq:q.length<=maxLen) (hb:b.length<=4294967296) (c:List Qd):
 YA wl (q,0,a,b,c,[])=some (c,b.filter (fun x=>XJ q x.1)):=by
 have e:=Xb b.length (fun i (o:List Qa)=>YA wl (q,(i:Int),a,b,c,o)) (fun i o=>(c,o++(b.drop i).filter (fun x=>XJ q x.1))) (fun i o=>o.length<=i)
  (fun i hi o ho ih=>by
    apply Qf7
    have ih1:=ih o (by omega)
    have ih2:=ih (o++[b[i]]) (by simp;omega)
    simp only[QcJ,ilt hi,Qk hi,Qg hi,inc hi (show b.length<=maxLen by simp[maxLen];omega),QQ1,Qug,Qz8 q _ hq,QQ0,List.length_singleton,Qu (show(o.length+1)*16<=140737488351232 by omega)]
    rw[QRa hi,List.filter_cons]
    cases h:XJ q b[i].1
    ·have h':decide (qU b[i].1∈q)=false:=h
     simp only[h',QQ2,QRw,if_false];exact ih1
    ·have h':decide (qU b[i].1∈q)=true:=h
     simp only[h',QQ1,if_true]
     rw[show o++b[i]::List.filter (fun x=>XJ q x.1) (List.drop (i+1) b)=(o++[b[i]])++List.filter (fun x=>XJ q x.1) (List.drop (i+1) b) by simp]
     exact ih2)
  (fun o _=>by
    apply Qf7
    simp[QcJ])
  [] (by simp)
 simpa using e
theorem Qw3 (a:List Qd) (b:List Qa) (q:List Int) (hq:q.length<=maxLen) (ha:a.length<=4294967296) (hb:b.length<=4294967296):
 xp w (a,b,q)=some (Zb (a,b) q):=by
 apply QtX
 simp only[Qif,Qyp q a b hq ha,Qzr q a b hq hb,QQ0,Zb]
theorem Quo:(p p':Int)->(l:List Qa)->p'<=p->QO p l=true->QO p' l=true
 |p,p',[],_,_=>rfl
 |p,p',x::l,hp,h=>by
  simp only[QO,QQ5,QRu]at h⊢
  exact⟨⟨h.1.1,by omega⟩,h.2⟩
theorem QvY (fl:List Qa):(p p':Int)->(l:List Qd)->p'<=p->Xw fl p l=true->Xw fl p' l=true
 |p,p',[],_,_=>rfl
 |p,p',x::l,hp,h=>by
  simp only[Xw,QQ5,QRu]at h⊢
  exact⟨⟨h.1.1,by omega⟩,h.2⟩
theorem QlZ (f:Int->Bool):(p:Int)->(l:List Qa)->QO p l=true->QO p (l.filter fun x=>f x.1)=true
 |p,[],_=>rfl
 |p,x::l,h=>by
  have h':=h
  simp only[QO,QQ5,QRu]at h
  have ih:=QlZ f x.1 l h.2
  rw[List.filter_cons]
  cases hf:f x.1
  ·simp only[QRw,if_false];exact Quo _ _ _ (by omega) ih
  ·simp only[if_true,QO,QQ5,QRu]
   exact⟨⟨h.1.1,h.1.2⟩,ih⟩
theorem Qm8 (f:Int->Bool) (id:Int) (hf:f id=true):(l:List Qa)->Q3 id (l.filter fun x=>f x.1)=Q3 id l
 | []=>rfl
 |x::l=>by
  have ih:=Qm8 f id hf l
  rw[List.filter_cons]
  by_cases hx:x.1=id
  ·rw[hx,hf];simp[Q3,hx]
  ·cases f x.1
   ·simp only[QRw,if_false,Q3,hx];exact ih
   ·simp only[if_true,Q3,hx,if_false];exact ih
theorem Qnp (f:Int->Bool) (fl:List Qa):(p:Int)->(l:List Qd)->Xw fl p l=true->Xw (fl.filter fun x=>f x.1) p (l.filter fun x=>f x.1)=true
 |p,[],_=>rfl
 |p,x::l,h=>by
  simp only[Xw,QQ5,QRu]at h
  have ih:=Qnp f fl x.1 l h.2
  rw[List.filter_cons]
  cases hf:f x.1
  ·simp only[QRw,if_false];exact QvY _ _ _ _ (by omega) ih
  ·simp only[if_true,Xw,QQ5,QRu,Qm8 f x.1 hf]
   exact⟨⟨h.1.1,h.1.2⟩,ih⟩
theorem Qcf {s:Qj}(q:List Int) (h:QC s=true):QC (Zb s q)=true:=by
 simp only[QC,QQ5]at h⊢
 exact⟨QlZ (XJ q) _ _ h.1,Qnp (XJ q) _ _ _ h.2⟩
end Go.Proofs.YtjenicbpdklpbaaGreat.M
