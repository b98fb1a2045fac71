/- What the plain forms that FnExactPushAll reaches come to: PJoin. No conditions but those that each theorem states. -/
import Derived.Test.YtiejfnbmficbmaaGreatFnExactPushAllPNode2
set_option linter.all false
namespace Go.Proofs.YtiejfnbmficbmaaGreat.M
open Go Go.Eng Go.Proofs
set_option linter.unusedVariables false
theorem Qat {s:Qk}(h:QL s=true):smS s:=by
 have:=ze h
 constructor<;>simp only[maxLen]<;>omega
theorem QvC (a b:Qk) (ha:smS a) (hb:smS b):JQ w (a.1,a.2,b.1,b.2)=some (join a b):=by
 apply QnI
 have e:=Xb 5 (fun i (s:Qk)=>X1 wl ((i:Int),a.1,a.2,b.1,b.2,s.1,s.2)) (fun i s=>(s.1++(List.range' i (5 - i)).flatMap (Qky a b),s.2++(List.range' i (5 - i)).flatMap (zc a b))) (fun i s=>s.1.length<=i/\s.2.length<=i)
  (fun i hi s hs ih=>by
    apply vW
    simp only[yy,Qy6 hi,Qzk hi,QQ1,Qll a.1 a.2 _ ha.1,Qll b.1 b.2 _ hb.1,Qf7 a.1 a.2 _ ha.2,Qf7 b.1 b.2 _ hb.2,QxX,QQ0]
    rw[VY hi,VY hi]
    have hE:KZ ((QS (i:Int) a.1).1,(QS (i:Int) a.1).2.1,(QS (i:Int) a.1).2.2.1,(QS (i:Int) a.1).2.2.2.1,(QS (i:Int) a.1).2.2.2.2.1) ((QS (i:Int) b.1).1,(QS (i:Int) b.1).2.1,(QS (i:Int) b.1).2.2.1,(QS (i:Int) b.1).2.2.2.1,(QS (i:Int) b.1).2.2.2.2.1)=xO a b (i:Int):=rfl
    have hF:mxI (QZ (i:Int) a.2) (QZ (i:Int) b.2)=XV a b (i:Int):=rfl
    simp only[hE,hF,Qky,zc]
    have f1:fits (s.1.length+([((i:Int),xO a b (i:Int))]:List Qg).length) 56=true:=Qy (by simp;omega)
    have f2:fits (s.2.length+([((i:Int),XV a b (i:Int))]:List Qb).length) 16=true:=Qy (by simp;omega)
    simp only[f1,f2,QQ1]
    cases decide (XV a b (i:Int)<(xO a b (i:Int)).1)<;>cases decide (0<XV a b (i:Int))<;>simp only[QQ1,QQ2,QRe]
    ·exact ih s (by omega)
    ·rw[ih (s.1,s.2++[((i:Int),XV a b (i:Int))]) (by simp;omega)];simp
    ·rw[ih (s.1++[((i:Int),xO a b (i:Int))],s.2) (by simp;omega)];simp
    ·rw[ih (s.1++[((i:Int),xO a b (i:Int))],s.2++[((i:Int),XV a b (i:Int))]) (by simp;omega)];simp)
  (fun s _=>by
    apply vW
    simp[yy]) ([],[]) (by simp)
 simp only[QQ6,QRe,Nat.sub_zero]at e
 simp only[QdU,e,QQ0,join]
theorem QjM (a b:Int):Yp a b= - Yp b a:=by
 unfold Yp;split<;>split<;>(try split)<;>omega
theorem Qtm:(a b:List UInt8)->Go.Lib.compareBytes a b= - Go.Lib.compareBytes b a
 | [],[]=>by simp[Go.Lib.compareBytes]
 | [],_::_=>by simp[Go.Lib.compareBytes]
 |_::_,[]=>by simp[Go.Lib.compareBytes]
 |a::l,b::m=>by
  have ih:=Qtm l m
  by_cases h:a<b
  ·have h2:¬b<a:=fun e=>UInt8.lt_irrefl _ (UInt8.lt_trans h e)
   simp[Go.Lib.compareBytes,h,h2]
  ·by_cases h2:b<a
   ·simp[Go.Lib.compareBytes,h,h2]
   ·simp only[Go.Lib.compareBytes,h,h2,if_false];exact ih
theorem Qw5 (x y:XA):Kn x y= - Kn y x:=by
 unfold Kn QoY
 rw[QjM x.1 y.1,QjM x.2.1 y.2.1,QjM x.2.2.1 y.2.2.1,QjM x.2.2.2.1 y.2.2.2.1,Qtm x.2.2.2.2.data.toList y.2.2.2.2.data.toList]
 unfold or5
 repeat' split
 all_goals omega
theorem QBI {y:XA}(h:XW y=true):KZ (0,0,0,0,ByteArray.empty) y=y:=by
 have:=Qtp h
 have e:Kn (0,0,0,0,ByteArray.empty) y= -1:=by
  unfold Kn or5
  have:Yp (0:Int) y.1= -1:=by unfold Yp;rw[if_pos (by omega)]
  simp[this]
 unfold KZ;rw[e];rfl
theorem QBp {x:XA}(h:XW x=true):KZ x (0,0,0,0,ByteArray.empty)=x:=by
 have:=Qtp h
 have e:Kn x (0,0,0,0,ByteArray.empty)=1:=by
  unfold Kn or5
  have:Yp x.1 (0:Int)=1:=by unfold Yp;rw[if_neg (by omega),if_pos (by omega)]
  simp[this]
 unfold KZ;rw[e];rfl
theorem QAx (x y:XA):KZ x y=bif decide (0<Kn y x)then y else x:=by
 unfold KZ
 rw[Qw5 x y]
 by_cases h:0<Kn y x
 ·rw[if_pos (by omega),dt h];rfl
 ·rw[if_neg (by omega),df h];rfl
theorem QAX (a b:Qk) (ha:QL a=true) (hb:QL b=true):yG w (a.1,a.2,b.1,b.2)=some (join a b):=by
 apply Qs3
 have h1:=Qat ha
 have h2:=Qat hb
 have e:=Xb 5 (fun i (s:Qk)=>Qv wl ((i:Int),a.1,a.2,b.1,b.2,s.1,s.2)) (fun i s=>(s.1++(List.range' i (5 - i)).flatMap (Qky a b),s.2++(List.range' i (5 - i)).flatMap (zc a b))) (fun i s=>s.1.length<=i/\s.2.length<=i)
  (fun i hi s hs ih=>by
    apply QfE
    rw[VY hi,VY hi]
    have hF:mxI (QZ (i:Int) a.2) (QZ (i:Int) b.2)=XV a b (i:Int):=rfl
    have hr:=Qiu ha hb (i:Int)
    have f2:fits (s.2.length+([((i:Int),XV a b (i:Int))]:List Qb).length) 16=true:=Qy (by simp;omega)
    have fA:∀e:Qg,fits (s.1.length+([e]:List Qg).length) 56=true:=fun e=>Qy (by simp;omega)
    have i0:=ih s (by omega)
    have i1:=ih (s.1,s.2++[((i:Int),XV a b (i:Int))]) (by simp;omega)
    have i2:=fun e:XA=>ih (s.1++[((i:Int),e)],s.2) (by simp;omega)
    have i3:=fun e:XA=>ih (s.1++[((i:Int),e)],s.2++[((i:Int),XV a b (i:Int))]) (by simp;omega)
    simp only at i0 i1 i2 i3
    have hx:=QgO ha (i:Int)
    have hy:=QgO hb (i:Int)
    have hE:xO a b (i:Int)=KZ (ZB (QS (i:Int) a.1)) (ZB (QS (i:Int) b.1)):=rfl
    simp only[Qcp,Qy6 hi,Qzk hi,QQ1,Qj9 a.1 a.2 _ h1.1,Qj9 b.1 b.2 _ h2.1,Qdp a.1 a.2 _ h1.2,Qdp b.1 b.2 _ h2.2,QCE,QvA,QQ0,hF,f2,fA]
    simp only[Qky,zc]
    generalize xO a b (i:Int)=v at*
    generalize QS (i:Int) a.1=x at*
    generalize QS (i:Int) b.1=y at*
    obtain⟨x1,x2,x3,x4,x5,xb⟩:=x
    obtain⟨y1,y2,y3,y4,y5,yb⟩:=y
    simp only[ZB]at*
    rcases hx with⟨hx,rfl⟩|⟨hx,rfl⟩<;>rcases hy with⟨hy,rfl⟩|⟨hy,rfl⟩
    ·rw[QAx]at hE
     generalize Kn (y1,y2,y3,y4,y5) (x1,x2,x3,x4,x5)=c at*
     cases hc:decide (0<c)<;>rw[hc]at hE<;>simp only[QQ1,QQ2]at hE<;>subst hE<;>cases decide (0<XV a b (i:Int))<;>simp only[QQ3,QQ1,QQ2]
     all_goals(cases decide (XV a b (i:Int)<_)<;>simp only[i0,i1,i2,i3,QRc,QRe,QRv,QQ1,QQ2])
    ·rw[hy,QBp hx]at hE
     subst hE
     cases decide (0<XV a b (i:Int))<;>simp only[QQ3,QQ4,QQ1,QQ2]
     all_goals(cases decide (XV a b (i:Int)<_)<;>simp only[i0,i1,i2,i3,QRc,QRe,QRv,QQ1,QQ2])
    ·rw[hx,QBI hy]at hE
     subst hE
     cases decide (0<XV a b (i:Int))<;>simp only[QQ3,QQ4,QQ1,QQ2]
     all_goals(cases decide (XV a b (i:Int)<_)<;>simp only[i0,i1,i2,i3,QRc,QRe,QRv,QQ1,QQ2])
    ·rw[hx,hy]at hE
     have h0:v.1=0:=by
      rcases Qtj (0,0,0,0,ByteArray.empty) (0,0,0,0,ByteArray.empty)with h|h<;>rw[hE,h]
     have h0':decide (XV a b (i:Int)<v.1)=false:=df (by omega)
     rw[h0']
     cases decide (0<XV a b (i:Int))<;>simp only[i0,i1,QQ4,QRc,QRe,QRv,QQ1,QQ2])
  (fun s _=>by
    apply QfE
    simp[Qcp]) ([],[]) (by simp)
 simp only[QQ6,QRe,Nat.sub_zero]at e
 simp only[QiE,e,QQ0,join]
theorem Qla {x:XA}(h:XW x=true):1<=x.1/\x.1<=1000/\0<=x.2.1/\x.2.1<=1/\0<=x.2.2.1/\x.2.2.1<=100000/\0<=x.2.2.2.1/\x.2.2.2.1<=1000/\x.2.2.2.2.size<=8:=by
 simp only[XW,inR,QQ5,QRu]at h
 obtain⟨⟨⟨⟨⟨p1,p2⟩,p3,p4⟩,p5,p6⟩,p7,p8⟩,p9⟩:=h
 omega
theorem QAS (a:List Qg) (b:List Qb) (id:Int) (h1:a.length<=maxLen) (h2:b.length<=maxLen):QcQ w (a,b,id)=some (Zp (a,b) id):=by
 apply Qsz
 simp only[QiD,Ku a b h1 h2,Qll a b _ h1,Qf7 a b _ h2,QQ0,Zp]
 cases h:QL (a,b)
 ·rfl
 ·rcases QgO h id with⟨he,hb⟩|⟨he,hb⟩
  ·simp only at hb
   have hn:=Qla (x:=ZB (QS id a)) he
   simp only[ZB]at hn
   rw[hb,w64 (by omega) (by omega)]
   simp only[QQ3,QQ1,QQ2]
   cases decide ((QS id a).2.1=1)<;>rfl
  ·simp only at hb
   rw[hb];rfl
theorem QyQ (a:List Qg) (b:List Qb) (id:Int) (h1:a.length<=maxLen) (h2:b.length<=maxLen):QcJ w (a,b,id)=some (Zp (a,b) id):=by
 apply Qsk
 simp only[QiV,Jt a b h1 h2,Qj9 a b _ h1,Qdp a b _ h2,QQ0,Zp]
 cases h:QL (a,b)
 ·rfl
 ·rcases QgO h id with⟨he,hb⟩|⟨he,hb⟩
  ·simp only at hb
   have hn:=Qla (x:=ZB (QS id a)) he
   simp only[ZB]at hn
   rw[hb,w64 (by omega) (by omega)]
   simp only[QQ3,QQ1,QQ2]
   by_cases h1:(QS id a).2.1=1
   ·rw[dt h1,df (by omega)];rfl
   ·rw[df h1,dt (by omega)];rfl
  ·simp only at hb
   rw[hb];rfl
theorem Qy2 (a:List Qg) (b:List Qb) (h1:a.length<=maxLen) (h2:b.length<=maxLen):QaU w (a,b)=some (marksOf (a,b)):=by
 apply QpU
 have e:=Xb 5 (fun i (s:List Qb)=>Kc wl ((i:Int),a,b,s)) (fun i s=>s++(List.range' i (5 - i)).flatMap (Qkp (a,b))) (fun i s=>s.length<=i)
  (fun i hi s hs ih=>by
    apply QeZ
    simp only[v7,Qy6 hi,Qzk hi,QQ1,QAS a b _ h1 h2,QQ0]
    rw[VY hi]
    simp only[Qkp,Qy (show(s.length+([((i:Int),Zp (a,b) (i:Int))]:List Qb).length)*16<=140737488351232 by simp;omega),QQ1]
    cases decide (0<Zp (a,b) (i:Int))<;>simp only[QQ1,QQ2,QRe]
    ·exact ih s (by omega)
    ·rw[ih _ (by simp;omega)];simp)
  (fun s _=>by
    apply QeZ
    simp[v7]) [] (by simp)
 simp only[QQ6,QRe,Nat.sub_zero]at e
 simp only[Qil,e,QQ0,marksOf]
theorem Qxs (a:List Qg) (b:List Qb) (h1:a.length<=maxLen) (h2:b.length<=maxLen):Qak w (a,b)=some (marksOf (a,b)):=by
 apply QrD
 have e:=Xb 5 (fun i (s:List Qb)=>Y0 wl ((i:Int),a,b,s)) (fun i s=>s++(List.range' i (5 - i)).flatMap (Qkp (a,b))) (fun i s=>s.length<=i)
  (fun i hi s hs ih=>by
    apply QdJ
    simp only[vI,Qy6 hi,Qzk hi,QQ1,QyQ a b _ h1 h2,QQ0]
    rw[VY hi]
    simp only[Qkp,Qy (show(s.length+([((i:Int),Zp (a,b) (i:Int))]:List Qb).length)*16<=140737488351232 by simp;omega),QQ1]
    cases decide (0<Zp (a,b) (i:Int))<;>simp only[QQ1,QQ2,QRe]
    ·exact ih s (by omega)
    ·rw[ih _ (by simp;omega)];simp)
  (fun s _=>by
    apply QdJ
    simp[vI]) [] (by simp)
 simp only[QQ6,QRe,Nat.sub_zero]at e
 simp only[QgG,e,QQ0,marksOf]
end Go.Proofs.YtiejfnbmficbmaaGreat.M
namespace Go.Proofs.YtiejfnbmficbmaaGreat.M
open Go Go.Eng Go.Proofs
set_option linter.unusedVariables false
theorem QzM (b:List Qb) (hb:b.length<=maxLen):Qbc w b=some (QN (-1) b):=by
 apply Qp1
 have e:=Q1 b.length (fun i=>YS wl (b,b,((b.length:Nat):Int),(i:Int))) (fun i=>if QN (JM b i) (b.drop i)then .inr ()else .inl false)
  (fun i hi ih=>by
    apply QdX
    simp only[vc,ilt hi,Ql hi,Qi hi,inc hi hb,QQ1,ih,Qeg,Xd,QQ0]
    rw[QRa hi,QN,Qgc b hi]
    rcases Nat.eq_zero_or_pos i with h0|h0
    ·subst h0
     cases h1:inR b[0].1 0 4
     ·simp
     ·have:=Qcb h1
      simp only[QlS,QQ2,QQ3,JM,if_true,dt this,QRd,QRn]
      cases inR b[0].2 1 1000<;>simp
    ·have hi':i - 1<b.length:=by omega
     simp only[ipos h0,QQ1,Qm2 h0 (by omega),Ql hi',Qi hi',QiM b h0 hi',xk]
     cases inR b[i].1 0 4<;>cases inR b[i].2 1 1000<;>cases decide (b[i - 1].1<b[i].1)<;>simp)
  (by
    apply QdX
    simp only[vc,Qs,QQ2,QRl,QN,if_true])
 simp only[QQ6,QRg,JM,if_true]at e
 simp only[QgJ,e,QQ0]
 cases QN (-1) b<;>simp[Qq]
theorem QxY (b:List Qb) (hb:b.length<=maxLen):Qad w b=some (QN (-1) b):=by
 apply Qq4
 have e:=Q1 b.length (fun i=>Y2 wl (b,(i:Int))) (fun i=>if QN (JM b i) (b.drop i)then .inr ()else .inl false)
  (fun i hi ih=>by
    apply Qdu
    simp only[vM,ilt hi,Ql hi,Qi hi,inc hi hb,QQ1,ih,Qd4,XE,QQ0]
    rw[QRa hi,QN,Qgc b hi]
    rcases Nat.eq_zero_or_pos i with h0|h0
    ·subst h0
     cases h1:inR b[0].1 0 4
     ·simp
     ·have:=Qcb h1
      simp only[QlS,QQ2,QQ3,JM,if_true,dt this,QRd,QRn]
      cases inR b[0].2 1 1000<;>simp
    ·have hi':i - 1<b.length:=by omega
     simp only[ipos h0,QQ1,Qm2 h0 (by omega),Ql hi',Qi hi',QiM b h0 hi',xk]
     cases inR b[i].1 0 4<;>cases inR b[i].2 1 1000<;>cases decide (b[i - 1].1<b[i].1)<;>simp)
  (by
    apply Qdu
    simp only[vM,Qs,QQ2,QRl,QN,if_true])
 simp only[QQ6,QRg,JM,if_true]at e
 simp only[Qhb,e,QQ0]
 cases QN (-1) b<;>simp[Qq]
def QbD (t:XY):Bool:=bif decide (((t.1.length:Nat):Int)=0)then decide (t.2=0)else(t.1.all fun x=>inR x 0 1023)&&decide (((t.1.length:Nat):Int)=4)&&inR t.2 0 1023
theorem QAK (l:List Int) (r:Int) (h:l.length<=maxLen):Qdg w (l,r)=some (QbD (l,r)):=by
 apply Qsw
 have e:=Q1 l.length (fun i=>qn wl (l,((l.length:Nat):Int),(i:Int),l,r)) (fun i=>if(l.drop i).all (fun x=>inR x 0 1023)then .inr (l,r)else .inl false)
  (fun i hi ih=>by
    apply Qfv
    rw[Zj (fun x=>inR x 0 1023) l _ _ hi]
    simp only[Qcr,ilt hi,Ql hi,Qi hi,inc hi h,QQ1,Xd,QQ0,ih]
    cases inR l[i] 0 1023<;>simp)
  (by
    apply Qfv
    simp[Qcr])
 simp only[QQ6,QRg]at e
 simp only[QiQ,e,QQ0,Xd,QbD]
 cases decide (((l.length:Nat):Int)=0)
 ·cases l.all fun x=>inR x 0 1023
  ·simp[Qq]
  ·simp only[if_true,Qq,Sum.elim_inr,QQ2,QRd]
   cases decide (((l.length:Nat):Int)=4)<;>simp
 ·simp
theorem Qlr (l:List Int) (m hi:Int) (h:l.length<=maxLen):JS w (l,m,hi)=some (decide (((l.length:Nat):Int)<=m)&&l.all fun x=>inR x 0 hi):=by
 apply Qqv
 have e:=Q1 l.length (fun i=>V1 wl (l,hi,(i:Int))) (fun i=>if(l.drop i).all (fun x=>inR x 0 hi)then .inr ()else .inl false)
  (fun i hi' ih=>by
    apply Qel
    rw[Zj (fun x=>inR x 0 hi) l _ _ hi']
    simp only[Qbe,ilt hi',Ql hi',Qi hi',inc hi' h,QQ1,XE,QQ0,ih]
    cases inR l[i] 0 hi<;>simp)
  (by
    apply Qel
    simp[Qbe])
 simp only[QQ6,QRg]at e
 simp only[Qh8,e,QQ0]
 by_cases hl:((l.length:Nat):Int)<=m
 ·simp only[df (show¬m<((l.length:Nat):Int) by omega),QQ2,dt hl,QRd]
  cases l.all fun x=>inR x 0 hi<;>simp[Qq]
 ·simp only[dt (show m<((l.length:Nat):Int) by omega),QQ1,df hl,QRm]
theorem Qzl (l:List Int) (r:Int) (h:l.length<=maxLen):vi w (l,r)=some (QbD (l,r)):=by
 apply QpB
 simp only[QhD,Qlr l 4 1023 h,XE,QQ0,QbD]
 cases decide (((l.length:Nat):Int)=0)
 ·by_cases h4:((l.length:Nat):Int)=4
  ·simp only[QQ2,dt h4,QQ1,dt (show((l.length:Nat):Int)<=4 by omega),QRd,QRn]
   cases l.all fun x=>inR x 0 1023<;>simp
  ·simp only[QQ2,df h4,Bool.and_false,QRm]
 ·simp
def okL:Int->List Int->Bool
 |_,[]=>true
 |p,x::l=>inR x 0 3&&decide (p<x)&&okL x l
def vY:Int->List Int->Bool
 |_,[]=>true
 |p,x::l=>decide (p<x)&&vY x l
theorem Qwy:(p:Int)->(l:List Int)->okL p l=((l.all fun x=>inR x 0 3)&&vY p l)
 |p,[]=>rfl
 |p,x::l=>by
  rw[okL,Qwy x l,List.all_cons,vY]
  cases inR x 0 3<;>cases decide (p<x)<;>cases(l.all fun x=>inR x 0 3)<;>cases vY x l<;>rfl
theorem QrR:(p:Int)->(l:List Int)->okL p l=true-> -1<=p->(l.length:Int)<=3 - p\/l=[]
 |p,[],_,_=> .inr rfl
 |p,x::l,h,hp=>by
  simp only[okL,QQ5,inR,QRu]at h
  left
  rcases QrR x l h.2 (by omega)with h5|h5
  ·simp only[List.length_cons];omega
  ·subst h5;simp;omega
def Qk7 (b:List Int) (i:Nat):Int:=if i=0 then -1 else b.getD (i - 1) 0
theorem Qz9 (b:List Int) {i:Nat}(h:i<b.length):Qk7 b (i+1)=b[i]:=by simp[Qk7,List.getD,h]
theorem QBK (b:List Int) {i:Nat}(h0:0<i) (h:i - 1<b.length):Qk7 b i=b[i - 1]:=by
 simp[Qk7,List.getD,h,show¬i=0 by omega]
theorem QBe {n k:Int}(h:inR n 0 k=true): -1<n:=by
 simp[inR]at h;omega
def xz (a0:Int) (a1:Int) (a2:Int) (a3:Int) (a4:Int) (a5:List Int) (a6:Int) (a7:List Int) (a8:List Int) (a9:List Qg) (a10:List Qb) (a11:List Qb):Bool:=inR a0 0 5&&inR a1 0 4&&inR a2 0 4&& !decide (a1=a2)&&okL (-1) a8&&(a7.all fun x=>inR x 0 100000)&&inR a3 0 100000&&inR a4 0 100000&&QbD (a5,a6)&&decide (((a7.length:Nat):Int)<=5)&&QL (a9,a10)&&QN (-1) a11
def smM (a5 a7 a8:List Int) (a9:List Qg) (a10 a11:List Qb):Prop:=a5.length<=maxLen/\a7.length<=maxLen/\a8.length<=maxLen/\a9.length<=maxLen/\a10.length<=maxLen/\a11.length<=maxLen
theorem QCn (a0:Int) (a1:Int) (a2:Int) (a3:Int) (a4:Int) (a5:List Int) (a6:Int) (a7:List Int) (a8:List Int) (a9:List Qg) (a10:List Qb) (a11:List Qb) (h:smM a5 a7 a8 a9 a10 a11):QfX w (a0,a1,a2,a3,a4,a5,a6,a7,a8,a9,a10,a11)=some (xz a0 a1 a2 a3 a4 a5 a6 a7 a8 a9 a10 a11):=by
 obtain⟨h5,h7,h8,h9,h10,h11⟩:=h
 apply Qt1
 have e0:=Q1 a8.length (fun i=>Vs wl (a8,((a8.length:Nat):Int),(i:Int),a0,a1,a2,a3,a4,a5,a6,a7,a8,a9,a10,a11)) (fun i=>if okL (Qk7 a8 i) (a8.drop i)then .inr (a0,a1,a2,a3,a4,a5,a6,a7,a8,a9,a10,a11)else .inl false)
  (fun i hi ih=>by
    apply Qg8
    simp only[Qff,ilt hi,Ql hi,Qi hi,inc hi h8,QQ1,ih,Xd,QQ0]
    rw[QRa hi,okL,Qz9 a8 hi]
    rcases Nat.eq_zero_or_pos i with h0|h0
    ·subst h0
     cases h1:inR a8[0] 0 3
     ·simp
     ·have:=QBe h1
      simp only[QlS,QQ2,QQ3,Qk7,if_true,dt this,QRd,QRn]
    ·have hi':i - 1<a8.length:=by omega
     simp only[ipos h0,QQ1,Qm2 h0 (by omega),Ql hi',Qi hi',QBK a8 h0 hi',xk]
     cases inR a8[i] 0 3<;>cases decide (a8[i - 1]<a8[i])<;>simp)
  (by
    apply Qg8
    simp only[Qff,Qs,QQ2,QRl,okL,if_true])
 have e2:=Q1 a7.length (fun i=>qK wl (a7,((a7.length:Nat):Int),(i:Int),a0,a1,a2,a3,a4,a5,a6,a7,a8,a9,a10,a11)) (fun i=>if(a7.drop i).all (fun x=>inR x 0 100000)then .inr (a0,a1,a2,a3,a4,a5,a6,a7,a8,a9,a10,a11)else .inl false)
  (fun i hi ih=>by
    apply QhN
    rw[Zj (fun x=>inR x 0 100000) a7 _ _ hi]
    simp only[Qe6,ilt hi,Ql hi,Qi hi,inc hi h7,QQ1,Xd,QQ0,ih]
    cases inR a7[i] 0 100000<;>simp)
  (by
    apply QhN
    simp[Qe6])
 simp only[QQ6,QRg,Qk7,if_true]at e0 e2
 simp only[QkS,e0,Xd,Qeg,QQ0,xz]
 cases inR a0 0 5
 ·simp
 cases inR a1 0 4
 ·simp
 cases inR a2 0 4
 ·simp
 cases decide (a1=a2)
 case true=>simp
 simp only[QQ3,QQ4,QQ2,QRd]
 cases okL (-1) a8
 ·simp[Qq]
 simp only[if_true,Qq,Sum.elim_inr,e2,QQ0,QRd]
 cases a7.all fun x=>inR x 0 100000
 ·simp
 simp only[if_true,Sum.elim_inr,QRd,QAK a5 a6 h5,Ku a9 a10 h9 h10,QzM a11 h11,QQ0]
 cases inR a3 0 100000<;>cases inR a4 0 100000<;>cases QbD (a5,a6)<;>cases decide (((a7.length:Nat):Int)<=5)<;>cases QL (a9,a10)<;>cases QN (-1) a11<;>rfl
theorem QAq (a0:Int) (a1:Int) (a2:Int) (a3:Int) (a4:Int) (a5:List Int) (a6:Int) (a7:List Int) (a8:List Int) (a9:List Qg) (a10:List Qb) (a11:List Qb) (h8:a8.length<=maxLen):Vo wl (1,a0,a1,a2,a3,a4,a5,a6,a7,a8,a9,a10,a11)=some (bif vY (a8.getD 0 0) (a8.drop 1)then .inr ()else .inl false):=by
 cases hc:a8 with
 |nil=>
  apply jB
  simp[yX,vY]
 |cons x l=>
  rw[<-hc]
  have hlen:a8.length=l.length+1:=by rw[hc];rfl
  have e:=Q1 l.length (fun j=>Vo wl (((j+1:Nat):Int),a0,a1,a2,a3,a4,a5,a6,a7,a8,a9,a10,a11)) (fun j=>bif vY (a8.getD j 0) (a8.drop (j+1))then .inr ()else .inl false)
   (fun j hj ih=>by
     apply jB
     have hi:j+1<a8.length:=by omega
     have hi':j<a8.length:=by omega
     have hd:=Qm2 (i:=j+1) (by omega) (by omega)
     rw[show j+1 - 1=j by omega]at hd
     have hg:a8.getD (j+1) 0=a8[j+1]:=by simp[List.getD,hi]
     have hg':a8.getD j 0=a8[j]:=by simp[List.getD,hi']
     rw[hg]at ih
     simp only[yX,ilt hi,Ql hi,Qi hi,inc hi h8,hd,Ql hi',Qi hi',QQ1,ih,xk]
     rw[QRa hi,vY,hg']
     cases decide (a8[j]<a8[j+1])<;>simp)
   (by
     apply jB
     rw[<-hlen]
     simp only[yX,Qs,QQ2,QRl,vY,QQ1])
  exact e
theorem QA8 (a0:Int) (a1:Int) (a2:Int) (a3:Int) (a4:Int) (a5:List Int) (a6:Int) (a7:List Int) (a8:List Int) (a9:List Qg) (a10:List Qb) (a11:List Qb) (h:smM a5 a7 a8 a9 a10 a11):Qf0 w (a0,a1,a2,a3,a4,a5,a6,a7,a8,a9,a10,a11)=some (xz a0 a1 a2 a3 a4 a5 a6 a7 a8 a9 a10 a11):=by
 obtain⟨h5,h7,h8,h9,h10,h11⟩:=h
 apply Qui
 simp only[QkI,XE,Qd4,Qzl a5 a6 h5,Qlr a7 5 100000 h7,Qlr a8 4 3 h8,Jt a9 a10 h9 h10,QxY a11 h11,QAq a0 a1 a2 a3 a4 a5 a6 a7 a8 a9 a10 a11 h8,QQ0,xz]
 have key:okL (-1) a8=(decide (((a8.length:Nat):Int)<=4)&&(a8.all fun x=>inR x 0 3)&&vY (a8.getD 0 0) (a8.drop 1)):=by
  cases hk:okL (-1) a8
  ·rw[Qwy]at hk
   cases ha:a8.all fun x=>inR x 0 3
   ·simp
   ·rw[ha]at hk
    simp only[QRd]at hk
    cases hc:a8 with
    |nil=>rw[hc]at hk;simp[vY]at hk
    |cons x l=>
     rw[hc]at hk ha
     simp only[List.all_cons,QQ5]at ha
     have:=QBe ha.1
     simp only[vY,dt this,QRd]at hk
     simp[hk]
  ·have hl:=QrR _ _ hk (by omega)
   have hl4:((a8.length:Nat):Int)<=4:=by
    rcases hl with h|h
    ·omega
    ·rw[h];simp
   rw[Qwy]at hk
   simp only[QQ5]at hk
   rw[dt hl4,hk.1]
   cases hc:a8 with
   |nil=>rfl
   |cons x l=>
    have:=hk.2
    rw[hc]at this
    simp only[vY,QQ5]at this
    simp[this.2]
 rw[key]
 cases inR a0 0 5
 case false=>simp
 cases inR a1 0 4
 case false=>simp
 cases inR a2 0 4
 case false=>simp
 cases decide (a1=a2)
 case true=>simp
 cases inR a3 0 100000
 case false=>simp
 cases inR a4 0 100000
 case false=>simp
 cases QbD (a5,a6)
 case false=>simp
 cases decide (((a7.length:Nat):Int)<=5)
 case false=>simp
 cases a7.all fun x=>inR x 0 100000
 case false=>simp
 cases decide (((a8.length:Nat):Int)<=4)
 case false=>simp
 cases a8.all fun x=>inR x 0 3
 case false=>simp
 cases QL (a9,a10)
 case false=>simp
 cases QN (-1) a11
 case false=>simp
 cases vY (a8.getD 0 0) (a8.drop 1)<;>rfl
end Go.Proofs.YtiejfnbmficbmaaGreat.M
namespace Go.Proofs.YtiejfnbmficbmaaGreat.M
open Go Go.Eng Go.Proofs
set_option linter.unusedVariables false
theorem QpV:(p:Int)->(l:List Qb)->QN p l=true->∀x∈l,inR x.1 0 4=true/\inR x.2 1 1000=true
 |_,[],_=>by simp
 |p,x::l,h=>by
  simp only[QN,QQ5]at h
  intro y hy
  rcases QRk.1 hy with rfl|hy
  ·exact⟨h.1.1.1,h.1.1.2⟩
  ·exact QpV _ l h.2 y hy
def QvW (r:List Int):List Qb->List Int
 | []=>r
 |m::l=>QvW (r.set m.1.toNat (mxI (rd1 0 r m.1) m.2)) l
def Qlm (t:List (List Int)) (k:Int) (l:List Qb):List (List Int):=bif inR k 0 ((t.length:Nat) - 1)&&(QN (-1) l&& !decide (((List.length (rd1 ([]:List Int) t k):Nat):Int)<5))then t.set k.toNat (QvW (rd1 ([]:List Int) t k) l)else t
def QB4 (id:Int):Nat->Int->List (List Int)->Int⊕Int
 |_,m,[]=> .inr m
 |k,m,r::l=>bif inR id 0 ((r.length:Nat) - 1)then(bif decide (k=0)||decide (rd1 0 r id<m)then QB4 id (k+1) (rd1 0 r id) l else QB4 id (k+1) m l)else .inl 0
def common (t:List (List Int)) (id:Int):Int:=Sum.elim (fun u=>u) (fun z=>z) (QB4 id 0 0 t)
def Qyq (s:Qk) (t:List (List Int)) (i:Nat):List Qb:=bif decide (0<mnI (common t (i:Int)) (Zp s (i:Int)))then [((i:Int),mnI (common t (i:Int)) (Zp s (i:Int)))]else []
def QAA (s:Qk) (t:List (List Int)):Qk:=([],(List.range' 0 5).flatMap (Qyq s t))
def prune (s:Qk) (t:List (List Int)):Qk:=bif QL s then join s (QAA s t)else s
theorem Qw0 (s:Qk) (t:List (List Int)):QL (QAA s t)=true:=by
 simp only[QL,QQ5]
 refine⟨qT _ (fun i hi=> ?_) 5 0 (-1) (by omega) (by simp),rfl⟩
 have h:=Qrg s (i:Int)
 unfold Qyq
 by_cases h0:0<mnI (common t (i:Int)) (Zp s (i:Int))
 ·refine Or.inr ⟨mnI (common t (i:Int)) (Zp s (i:Int)),by simp[h0], ?_⟩
  have:mnI (common t (i:Int)) (Zp s (i:Int))<=Zp s (i:Int):=by unfold mnI;split<;>omega
  simp[inR];omega
 ·exact Or.inl (by simp[h0])
theorem Qzi {s:Qk}(h:QL s=true) (t:List (List Int)):QL (prune s t)=true:=by
 unfold prune;rw[h];exact QeN h (Qw0 s t)
def K6 (v:List Int) (k n:Int):List Int:=bif inR k 0 ((v.length:Nat) - 1)then v.set k.toNat (mxI (rd1 0 v k) n)else v
def QFI (a b:List Int) (i:Nat):List Int:=bif decide (((a.length:Nat):Int)=4)&&decide (((b.length:Nat):Int)=4)&&decide (rd1 0 a (i:Int)=rd1 0 b (i:Int))then []else [(i:Int)]
def differ (a:List Int) (ra:Int) (b:List Int) (rb:Int):List Int:=bif decide (ra=rb)then []else(List.range' 0 4).flatMap (QFI a b)
end Go.Proofs.YtiejfnbmficbmaaGreat.M
namespace Go.Proofs.YtiejfnbmficbmaaGreat.M
open Go Go.Eng Go.Proofs
set_option linter.unusedVariables false
theorem QlM {s:Qk}(h:QL s=true):QD s<=60:=by
 have hl:=ze h
 simp only[QL,QQ5]at h
 have:=QtE _ _ _ h.2
 simp only[QD,XC,Xv];omega
theorem Qco {α:Type}(c:α->Nat) (k:Nat):(l:List α)->(∀x∈l,c x<=k)->Qe c l<=k*l.length
 | [],_=>by simp[Qe]
 |x::l,h=>by
  have:=h x (by simp)
  have:=Qco c k l (fun y hy=>h y (by simp[hy]))
  simp only[Qe,List.length_cons,Nat.mul_add];omega
structure NOk (x:Qd):Prop where
 n:inR x.2.1 1 5=true
 id:inR x.1 0 (x.2.1 - 1)=true
 st:QL (x.2.2.1,x.2.2.2.1)=true
 tree:(x.2.2.2.2.1,x.2.2.2.2.2.1)=KW (x.2.2.1,x.2.2.2.1)
 log:ZL (x.2.2.2.2.2.2.1,x.2.2.2.2.2.2.2.1,x.2.2.2.2.2.2.2.2.1)=true
 got:Yj x.2.2.2.2.2.2.2.2.2.1 x.2.1=true
 ack:Yj x.2.2.2.2.2.2.2.2.2.2.1 x.2.1=true
 own:x.2.2.2.2.2.2.2.2.2.1.getD (x.1).toNat 0=Xs (x.2.2.2.2.2.2.1,x.2.2.2.2.2.2.2.1,x.2.2.2.2.2.2.2.2.1)
 heard:(x.2.2.2.2.2.2.2.2.2.2.1.all fun y=>decide (y<=Xs (x.2.2.2.2.2.2.1,x.2.2.2.2.2.2.2.1,x.2.2.2.2.2.2.2.2.1)))=true
 seen:YW x.2.2.2.2.2.2.2.2.2.2.2.1 x.2.1=true
 num:inR x.2.2.2.2.2.2.2.2.2.2.2.2.1 0 100000=true
 clock:inR x.2.2.2.2.2.2.2.2.2.2.2.2.2.2.2.2.2.1 0 100000=true
 wait:inR x.2.2.2.2.2.2.2.2.2.2.2.2.2.2.2.1 1 20=true
 limit:inR x.2.2.2.2.2.2.2.2.2.2.2.2.2.2.2.2.1 1 50=true
 slots:inR x.2.2.2.2.2.2.2.2.2.2.2.2.2.1 1 4=true
 room:((x.2.2.2.2.2.2.2.2.2.2.2.2.2.2.1.length:Nat):Int)<=x.2.2.2.2.2.2.2.2.2.2.2.2.2.1
 sess:XO x.1 x.2.1 x.2.2.2.2.2.2.2.2.2.2.2.2.2.2.2.1 [] x.2.2.2.2.2.2.2.2.2.2.2.2.2.2.1=true
 rlen:((x.2.2.2.2.2.2.2.2.2.2.2.2.2.2.2.2.2.2.length:Nat):Int)=5
 rises:x.2.2.2.2.2.2.2.2.2.2.2.2.2.2.2.2.2.2.all (ZO x.2.2.2.2.2.2.2.2.2.2.2.2.2.2.2.2.2.1)=true
theorem nok {x:Qd}(h:KO x=true):NOk x:=by
 simp only[KO,Qhj,QQ5,QRu]at h
 obtain⟨⟨⟨⟨⟨⟨⟨⟨⟨⟨⟨⟨⟨⟨⟨⟨⟨⟨h1,h2⟩,h3⟩,h4⟩,h5⟩,h6⟩,h7⟩,h8⟩,h9⟩,h10⟩,h11⟩,h12⟩,h13⟩,h14⟩,h15⟩,h16⟩,h17⟩,h18⟩,h19⟩:=h
 exact⟨h1,h2,h3,h4,h5,h6,h7,h8,h9,h10,h11,h12,h13,h14,h15,h16,h17,h18,h19⟩
theorem QA9 {x:Qd}(h:NOk x):KO x=true:=by
 simp only[KO,Qhj,QQ5,QRu]
 exact⟨⟨⟨⟨⟨⟨⟨⟨⟨⟨⟨⟨⟨⟨⟨⟨⟨⟨h.n,h.id⟩,h.st⟩,h.tree⟩,h.log⟩,h.got⟩,h.ack⟩,h.own⟩,h.heard⟩,h.seen⟩,h.num⟩,h.clock⟩,h.wait⟩,h.limit⟩,h.slots⟩,h.room⟩,h.sess⟩,h.rlen⟩,h.rises⟩
theorem Xw {n a b:Int}:inR n a b=true↔a<=n/\n<=b:=by simp[inR]
theorem jN {v:List Int}{n:Int}(h:Yj v n=true):((v.length:Nat):Int)=n/\∀y∈v,inR y 0 100000=true:=by
 simp only[Yj,QQ5,QRu,QRt]at h
 exact⟨h.1.2,h.2⟩
theorem QAN {g:Zm}(h:ZL g=true):∀s∈g.2.2,QL s=true:=by
 simp only[ZL,QQ5,QRt]at h
 exact h.2
theorem Qwp {t:List (List Int)}{n:Int}(h:YW t n=true):((t.length:Nat):Int)=n/\∀r∈t,qA r=true:=by
 simp only[YW,QQ5,QRu,QRt]at h
 exact⟨h.1.2,h.2⟩
theorem Qtk {r:List Int}(h:qA r=true):r.length=5:=by
 simp only[qA,QQ5,QRu]at h
 omega
theorem zu {x:Qd}(h:NOk x):Q2 x<=2000/\QvX x:=by
 have h1:=ze h.st
 have h2:=QlM h.st
 have h3:x.2.2.2.2.1.length=4:=by
  have:=h.tree
  rw[KW,h.st]at this
  have:=congrArg (fun z:XY=>z.1.length) this
  simpa[leaves]using this
 have h4:=Qgg h.log
 have h5:=QAN h.log
 have h6:=jN h.got
 have h7:=jN h.ack
 have h8:=Qwp h.seen
 have hn:=Xw.1 h.n
 have hs:=Xw.1 h.slots
 have hr:=h.room
 have hl:=h.rlen
 have k1:Qe QD x.2.2.2.2.2.2.2.2.1<=60*x.2.2.2.2.2.2.2.2.1.length:=Qco _ _ _ fun s hs=>QlM (h5 s hs)
 have k2:Qe QR x.2.2.2.2.2.2.2.2.2.2.2.1<=5*x.2.2.2.2.2.2.2.2.2.2.2.1.length:=Qco _ _ _ fun r hr=>by
  have:=Qtk (h8.2 r hr)
  simp only[QR];omega
 try simp only at h1 h4 h5
 constructor
 ·simp only[Q2,Zg,Zy,XF,QR,XL,Zt,Zv]
  omega
 ·refine⟨by simp only[maxLen];omega,by simp only[maxLen];omega,by simp only[maxLen];omega,by simp only[maxLen];omega,fun s hs=>Qat (h5 s hs),by simp only[maxLen];omega,by simp only[maxLen];omega,by simp only[maxLen];omega,fun r hr=> ?_,by simp only[maxLen];omega,by simp only[maxLen];omega⟩
  have:=Qtk (h8.2 r hr)
  simp only[maxLen];omega
theorem okN {x:Qd}(h:NOk x):Kz w (x.1,x.2.1,x.2.2.1,x.2.2.2.1,x.2.2.2.2.1,x.2.2.2.2.2.1,x.2.2.2.2.2.2.1,x.2.2.2.2.2.2.2.1,x.2.2.2.2.2.2.2.2.1,x.2.2.2.2.2.2.2.2.2.1,x.2.2.2.2.2.2.2.2.2.2.1,x.2.2.2.2.2.2.2.2.2.2.2.1,x.2.2.2.2.2.2.2.2.2.2.2.2.1,x.2.2.2.2.2.2.2.2.2.2.2.2.2.1,x.2.2.2.2.2.2.2.2.2.2.2.2.2.2.1,x.2.2.2.2.2.2.2.2.2.2.2.2.2.2.2.1,x.2.2.2.2.2.2.2.2.2.2.2.2.2.2.2.2.1,x.2.2.2.2.2.2.2.2.2.2.2.2.2.2.2.2.2.1,x.2.2.2.2.2.2.2.2.2.2.2.2.2.2.2.2.2.2)=some true:=by rw[<-QA9 h];exact QvV x (zu h).2
theorem QJf {x:Qd}(h:NOk x):Jv w (x.1,x.2.1,x.2.2.1,x.2.2.2.1,x.2.2.2.2.1,x.2.2.2.2.2.1,x.2.2.2.2.2.2.1,x.2.2.2.2.2.2.2.1,x.2.2.2.2.2.2.2.2.1,x.2.2.2.2.2.2.2.2.2.1,x.2.2.2.2.2.2.2.2.2.2.1,x.2.2.2.2.2.2.2.2.2.2.2.1,x.2.2.2.2.2.2.2.2.2.2.2.2.1,x.2.2.2.2.2.2.2.2.2.2.2.2.2.1,x.2.2.2.2.2.2.2.2.2.2.2.2.2.2.1,x.2.2.2.2.2.2.2.2.2.2.2.2.2.2.2.1,x.2.2.2.2.2.2.2.2.2.2.2.2.2.2.2.2.1,x.2.2.2.2.2.2.2.2.2.2.2.2.2.2.2.2.2.1,x.2.2.2.2.2.2.2.2.2.2.2.2.2.2.2.2.2.2)=some true:=by rw[<-QA9 h];exact Qtw x (zu h).2
def QgX (c:Int) (rs:List QM) (x:Qg):List QM:=bif decide ((rd1 Y9 rs x.1).1<x.2.1)then rs.set x.1.toNat (x.2.1,x.2.2.2.1,c)else(bif decide (x.2.1=(rd1 Y9 rs x.1).1)then(bif decide ((rd1 Y9 rs x.1).2.1<x.2.2.2.1)then rs.set x.1.toNat (x.2.1,x.2.2.2.1,c)else rs)else rs)
def QkE (c:Int):List QM->List Qg->List QM
 |rs,[]=>rs
 |rs,x::l=>QkE c (QgX c rs x) l
theorem Qwq (c:Int) (rs:List QM) (x:Qg):(QgX c rs x).length=rs.length:=by
 unfold QgX
 cases decide ((rd1 Y9 rs x.1).1<x.2.1)<;>cases decide (x.2.1=(rd1 Y9 rs x.1).1)<;>cases decide ((rd1 Y9 rs x.1).2.1<x.2.2.2.1)<;>simp
theorem Qn4 (c:Int):(rs:List QM)->(l:List Qg)->(QkE c rs l).length=rs.length
 |rs,[]=>rfl
 |rs,x::l=>by rw[QkE,Qn4 c _ l,Qwq]
theorem Qrb (fl:List Qb):(p:Int)->(l:List Qg)->Xi fl p l=true->∀x∈l,inR x.1 0 4=true/\XW x.2=true
 |_,[],_=>by simp
 |p,x::l,h=>by
  simp only[Xi,QQ5]at h
  intro y hy
  rcases QRk.1 hy with rfl|hy
  ·exact⟨h.1.1.1.1,h.1.1.1.2⟩
  ·exact Qrb fl _ l h.2 y hy
theorem QzV {s:Qk}(h:QL s=true):∀x∈s.1,inR x.1 0 4=true/\XW x.2=true:=by
 simp only[QL,QQ5]at h
 exact Qrb _ _ _ h.2
theorem Qzo {c:Int}(hc:0<=c) {rs:List QM}(h:∀r∈rs,ZO c r=true) {x:Qg}(hx:XW x.2=true):∀r∈rs.set x.1.toNat (x.2.1,x.2.2.2.1,c),ZO c r=true:=by
 intro r hr
 rcases List.mem_or_eq_of_mem_set hr with hr|rfl
 ·exact h r hr
 ·have:=Qla hx
  simp[ZO,inR];omega
theorem Qxf {c:Int}(hc:0<=c) {rs:List QM}(h:∀r∈rs,ZO c r=true) {x:Qg}(hx:XW x.2=true):∀r∈QgX c rs x,ZO c r=true:=by
 have hs:=Qzo hc h hx
 unfold QgX
 cases decide ((rd1 Y9 rs x.1).1<x.2.1)<;>cases decide (x.2.1=(rd1 Y9 rs x.1).1)<;>cases decide ((rd1 Y9 rs x.1).2.1<x.2.2.2.1)<;>simp only[QQ1,QQ2]<;>assumption
theorem Qp9 {c:Int}(hc:0<=c):(rs:List QM)->(l:List Qg)->(∀r∈rs,ZO c r=true)->(∀x∈l,XW x.2=true)->∀r∈QkE c rs l,ZO c r=true
 |rs,[],h,_=>h
 |rs,x::l,h,hl=>Qp9 hc _ l (Qxf hc h (hl x (by simp))) fun y hy=>hl y (by simp[hy])
theorem QtL:(l:List Qb)->(r:List Int)->qA r=true->(∀m∈l,inR m.2 1 1000=true)->qA (QvW r l)=true
 | [],r,h,_=>h
 |m::l,r,h,hl=>by
  refine QtL l _ ?_ fun y hy=>hl y (by simp[hy])
  have hm:=Xw.1 (hl m (by simp))
  simp only[qA,QQ5,QRt,QRu,List.length_set]at h⊢
  refine⟨fun y hy=> ?_,h.2⟩
  rcases List.mem_or_eq_of_mem_set hy with hy|rfl
  ·exact h.1 y hy
  ·have hq:0<=rd1 0 r m.1/\rd1 0 r m.1<=1000:=by
    unfold rd1
    by_cases hk:m.1.toNat<r.length
    ·have:=Xw.1 (h.1 _ (QRf hk))
     simpa[List.getD,QRp hk]using this
    ·simp[List.getD,List.getElem?_eq_none (Nat.le_of_not_lt hk)]
   rw[Xw]
   unfold mxI;split<;>omega
theorem Qom {t:List (List Int)}{n:Int}(h:YW t n=true) (k:Int) (l:List Qb):YW (Qlm t k l) n=true:=by
 unfold Qlm
 cases hk:inR k 0 ((t.length:Nat) - 1)
 ·exact h
 ·obtain⟨j,rfl,hj⟩:=Qgo hk
  cases ho:QN (-1) l
  ·exact h
  ·simp only[QRd]
   cases(!decide (((List.length (rd1 ([]:List Int) t (j:Int)):Nat):Int)<5))
   ·exact h
   ·have hl:=QpV _ _ ho
    simp only[YW,QQ5,QRt,QRu,QQ1,List.length_set]at h⊢
    refine⟨h.1,fun r hr=> ?_⟩
    rcases List.mem_or_eq_of_mem_set hr with hr|rfl
    ·exact h.2 r hr
    ·rw[Qi hj]
     exact QtL l _ (h.2 _ (QRf hj)) fun m hm=>(hl m hm).2
def QvP (x:Qd) (p:Qk):List (List Int):=Qlm x.2.2.2.2.2.2.2.2.2.2.2.1 x.1 (marksOf (join (x.2.2.1,x.2.2.2.1) p))
def Qkb (x:Qd) (p:Qk):Qk:=prune (join (x.2.2.1,x.2.2.2.1) p) (QvP x p)
def take (x:Qd) (p:Qk):Qd:=(x.1,x.2.1,(Qkb x p).1,(Qkb x p).2,(KW (Qkb x p)).1,(KW (Qkb x p)).2,x.2.2.2.2.2.2.1,x.2.2.2.2.2.2.2.1,x.2.2.2.2.2.2.2.2.1,x.2.2.2.2.2.2.2.2.2.1,x.2.2.2.2.2.2.2.2.2.2.1,QvP x p,x.2.2.2.2.2.2.2.2.2.2.2.2.1,x.2.2.2.2.2.2.2.2.2.2.2.2.2.1,x.2.2.2.2.2.2.2.2.2.2.2.2.2.2.1,x.2.2.2.2.2.2.2.2.2.2.2.2.2.2.2.1,x.2.2.2.2.2.2.2.2.2.2.2.2.2.2.2.2.1,x.2.2.2.2.2.2.2.2.2.2.2.2.2.2.2.2.2.1,QkE x.2.2.2.2.2.2.2.2.2.2.2.2.2.2.2.2.2.1 x.2.2.2.2.2.2.2.2.2.2.2.2.2.2.2.2.2.2 (Qkb x p).1)
theorem QtG {x:Qd}(h:NOk x) {p:Qk}(hp:QL p=true):QL (Qkb x p)=true:=Qzi (QeN h.st hp) _
theorem QwC {x:Qd}(h:NOk x) {p:Qk}(hp:QL p=true):NOk (take x p) where
 n:=h.n
 id:=h.id
 st:=QtG h hp
 tree:=rfl
 log:=h.log
 got:=h.got
 ack:=h.ack
 own:=h.own
 heard:=h.heard
 seen:=Qom h.seen _ _
 num:=h.num
 clock:=h.clock
 wait:=h.wait
 limit:=h.limit
 slots:=h.slots
 room:=h.room
 sess:=h.sess
 rlen:=by simp only[take,Qn4];exact h.rlen
 rises:=QRt.2 (Qp9 (Xw.1 h.clock).1 _ _ (QRt.1 h.rises) fun y hy=>(QzV (QtG h hp) y hy).2)
end Go.Proofs.YtiejfnbmficbmaaGreat.M
namespace Go.Proofs.YtiejfnbmficbmaaGreat.M
open Go Go.Eng Go.Proofs
set_option linter.unusedVariables false
def Qww (g:Zm) (d:Qk):Zm:=bif decide (g.1<(((g.2.2++[d]).length:Nat):Int))then(g.1,g.2.1+1,(g.2.2++[d]).drop 1)else(g.1,g.2.1,g.2.2++[d])
theorem Qi6 (g:Zm):ZL g=true↔(1<=g.1/\g.1<=8)/\((g.2.2.length:Nat):Int)<=g.1/\(0<=g.2.1/\g.2.1<=100000)/\g.2.1+((g.2.2.length:Nat):Int)<=100000/\∀s∈g.2.2,QL s=true:=by
 simp only[ZL,QQ5,QRt,QRu,inR]
 constructor
 ·rintro⟨⟨⟨⟨h1,h2⟩,h3⟩,h4⟩,h5⟩;exact⟨h1,h2,h3,h4,h5⟩
 ·rintro⟨h1,h2,h3,h4,h5⟩;exact⟨⟨⟨⟨h1,h2⟩,h3⟩,h4⟩,h5⟩
theorem Qjq {g:Zm}(hg:ZL g=true):Zy g<=1000/\g.2.2.length<=maxLen/\∀s∈g.2.2,s.1.length<=maxLen/\s.2.length<=maxLen:=by
 have h:=(Qi6 g).1 hg
 have k1:Qe QD g.2.2<=60*g.2.2.length:=Qco _ _ _ fun s hs=>QlM (h.2.2.2.2 s hs)
 refine⟨by simp only[Zy,XF];omega,by simp only[maxLen];omega,fun s hs=>Qat (h.2.2.2.2 s hs)⟩
def Qdm:Qk->List Qk->Qk
 |s,[]=>s
 |s,d::l=>Qdm (join s d) l
theorem QvN:(s:Qk)->(l:List Qk)->QL s=true->(∀d∈l,QL d=true)->QL (Qdm s l)=true
 |s,[],h,_=>h
 |s,d::l,h,hl=>QvN _ l (QeN h (hl d (by simp))) fun x hx=>hl x (by simp[hx])
def ZP (g:Zm) (seq:Int):List Qg×List Qb×Bool:=bif inR seq g.2.1 (g.2.1+((g.2.2.length:Nat):Int))then((Qdm ([],[]) (g.2.2.drop (seq - g.2.1).toNat)).1,(Qdm ([],[]) (g.2.2.drop (seq - g.2.1).toNat)).2,true)else([],[],false)
theorem QxW {g:Zm}(hg:ZL g=true) (seq:Int):QL ((ZP g seq).1,(ZP g seq).2.1)=true:=by
 have h:=(Qi6 g).1 hg
 unfold ZP
 cases inR seq g.2.1 (g.2.1+((g.2.2.length:Nat):Int))
 ·rfl
 ·exact QvN ([],[]) _ rfl fun d hd=>h.2.2.2.2 d (List.mem_of_mem_drop hd)
theorem QwO (g:Zm) (hg:ZL g=true) (seq:Int):qS w (g.1,g.2.1,g.2.2,seq)=some (ZP g seq):=by
 have h:=(Qi6 g).1 hg
 have hz:=Qjq hg
 have hlo:qv w (g.1,g.2.1,g.2.2)=some true:=by rw[<-hg];exact Qo0 g.1 g.2.1 g.2.2 hz.2.1 hz.2.2
 have hls:JJ w (g.1,g.2.1,g.2.2)=some (g.2.1+((g.2.2.length:Nat):Int)):=by
  rw[Qm3 g.1 g.2.1 g.2.2 hz.2.1 hz.2.2,Xs]
  rw[show ZL (g.1,g.2.1,g.2.2)=true from hg];rfl
 apply QoI
 simp only[QfA,hlo,hls,Xd,QQ0,QQ3,QQ2,ZP]
 cases hr:inR seq g.2.1 (g.2.1+((g.2.2.length:Nat):Int))
 ·rfl
 ·have hr':=Xw.1 hr
  have ht:=QCo g.2.2 (seq - g.2.1) (by omega) (by omega)
  simp only[QQ3,QQ2,QQ1,w64 (n:=seq - g.2.1) (by omega) (by omega),ht,dt (show(0:Int)<=seq - g.2.1/\seq - g.2.1<=((g.2.2.length:Nat):Int)/\((g.2.2.length:Nat):Int)<=((g.2.2.length:Nat):Int) by omega)]
  have hm:∀d∈g.2.2.drop (seq - g.2.1).toNat,QL d=true:=fun d hd=>h.2.2.2.2 d (List.mem_of_mem_drop hd)
  have hl:(g.2.2.drop (seq - g.2.1).toNat).length<=maxLen:=by rw[List.length_drop];omega
  generalize g.2.2.drop (seq - g.2.1).toNat=L at hm hl
  have e:=Xb L.length (fun i (s:Qk)=>K0 wl (L,((L.length:Nat):Int),(i:Int),s.1,s.2)) (fun i s=>Qdm s (L.drop i)) (fun _ s=>QL s=true)
   (fun i hi s hs ih=>by
     apply Qb3
     have hd:=hm _ (QRf hi)
     have hj:JQ w (s.1,s.2,L[i])=some (join s L[i]):=QvC s L[i] (Qat hs) (Qat hd)
     simp only[jy,ilt hi,Ql hi,Qi hi,inc hi hl,QQ1,hj,QQ0]
     rw[QRa hi,Qdm]
     exact ih _ (QeN hs hd))
   (fun s _=>by
     apply Qb3
     simp only[jy,Qs,QQ2,QRl,Qdm]) ([],[]) rfl
  simp only[QQ6,QRg]at e
  simp only[e,QQ0]
theorem QuZ (g:Zm) (hg:ZL g=true) (seq:Int):qL w (g.1,g.2.1,g.2.2,seq)=some (ZP g seq):=by
 have h:=(Qi6 g).1 hg
 have hz:=Qjq hg
 have hlo:qE w (g.1,g.2.1,g.2.2)=some true:=by rw[<-hg];exact QmU g.1 g.2.1 g.2.2 hz.2.1 hz.2.2
 apply Qpl
 simp only[QfP,hlo,XE,QQ0,QQ3,QQ2,ZP,w64 (n:=g.2.1+((g.2.2.length:Nat):Int)) (by omega) (by omega)]
 cases hr:inR seq g.2.1 (g.2.1+((g.2.2.length:Nat):Int))
 ·rfl
 ·have hr':=Xw.1 hr
  simp only[QQ3,QQ2,QQ1,w64 (n:=seq - g.2.1) (by omega) (by omega)]
  obtain⟨k,hk⟩:∃k:Nat,seq - g.2.1=(k:Int):=⟨(seq - g.2.1).toNat,by omega⟩
  rw[hk,QRb]
  have hkl:k<=g.2.2.length:=by omega
  have e:=Xb (g.2.2.length - k) (fun i (s:Qk)=>KV wl (((k+i:Nat):Int),g.1,g.2.1,g.2.2,s.1,s.2)) (fun i s=>Qdm s (g.2.2.drop (k+i))) (fun _ s=>QL s=true)
   (fun i hi s hs ih=>by
     apply QbX
     have hi':k+i<g.2.2.length:=by omega
     have hd:=h.2.2.2.2 _ (QRf hi')
     have hj:yG w (s.1,s.2,g.2.2[k+i])=some (join s g.2.2[k+i]):=QAX s _ hs hd
     simp only[jg,ilt hi',Ql hi',Qi hi',inc hi' hz.2.1,QQ1,hj,QQ0]
     rw[QRa hi',Qdm]
     exact ih _ (QeN hs hd))
   (fun s _=>by
     apply QbX
     rw[show k+(g.2.2.length - k)=g.2.2.length by omega]
     simp only[jg,Qs,QQ2,QRl,Qdm]) ([],[]) rfl
  simp only[Nat.add_zero]at e
  simp only[e,QQ0]
def present (s:Qk) (id:Int):Int×Int×Int×Int×ByteArray×Int:=bif QL s&&inR id 0 4 then(bif (lookup s id).2.2.2.2.2 then((lookup s id).1,(lookup s id).2.1,(lookup s id).2.2.1,(lookup s id).2.2.2.1,(lookup s id).2.2.2.2.1,0)else(0,0,0,0,ByteArray.empty,3))else(0,0,0,0,ByteArray.empty,1)
def one (id:Int) (e:XA):Qk:=([(id,e)],[])
def jH (s:Qk) (id:Int):List Qg×List Qb×Int:=bif !decide ((present s id).2.2.2.2.2=0)then([],[],(present s id).2.2.2.2.2)else(bif decide ((present s id).2.2.1=100000)then([],[],4)else([(id,(present s id).1,(present s id).2.1,(present s id).2.2.1+1,(present s id).2.2.2.1,(present s id).2.2.2.2.1)],[],0))
end Go.Proofs.YtiejfnbmficbmaaGreat.M
namespace Go.Proofs.YtiejfnbmficbmaaGreat.M
open Go Go.Eng Go.Proofs
set_option linter.unusedVariables false
theorem QqU (x y:QB):Za x y=Za y x:=by
 unfold Za
 by_cases h:y.1=x.1
 ·rw[dt h,dt h.symm];cases y.2.2.1<;>cases x.2.2.1<;>rfl
 ·rw[df h,df (fun e=>h e.symm)];rfl
theorem QpS (id n wt:Int):(l pre:List QB)->(XO id n wt pre l=true↔(∀x∈l,Vp id n wt x=true)/\(∀x∈l,∀y∈pre,Za x y=false)/\l.Pairwise fun y x=>Za x y=false)
 | [],pre=>by simp[XO]
 |x::l,pre=>by
  rw[XO,QQ5,QQ5,QpS id n wt l (pre++[x]),List.pairwise_cons]
  constructor
  ·rintro⟨⟨h1,h2⟩,h3,h4,h5⟩
   have h2':∀y∈pre,Za x y=false:=fun y hy=>by
    cases hk:Za x y
    ·rfl
    ·have:pre.any (Za x)=true:=List.any_eq_true.2 ⟨y,hy,hk⟩
     rw[this]at h2;cases h2
   refine⟨fun y hy=> ?_,fun y hy z hz=> ?_,fun y hy=>h4 y hy x (by simp),h5⟩
   ·rcases QRk.1 hy with rfl|hy
    ·exact h1
    ·exact h3 y hy
   ·rcases QRk.1 hy with rfl|hy
    ·exact h2' z hz
    ·exact h4 y hy z (by simp[hz])
  ·rintro⟨h1,h2,h3,h4⟩
   refine⟨⟨h1 x (by simp), ?_⟩,fun y hy=>h1 y (by simp[hy]),fun y hy z hz=> ?_,h4⟩
   ·have:pre.any (Za x)=false:=by
     cases hk:pre.any (Za x)
     ·rfl
     ·obtain⟨y,hy,hk⟩:=List.any_eq_true.1 hk
      rw[h2 x (by simp) y hy]at hk;cases hk
    rw[this];rfl
   ·rcases QRh.1 hz with hz|hz
    ·exact h2 y (by simp[hy]) z hz
    ·obtain rfl:z=x:=by simpa using hz
     exact h3 y hy
theorem Qdr (id n wt:Int) (l:List QB):XO id n wt [] l=true↔(∀x∈l,Vp id n wt x=true)/\l.Pairwise fun y x=>Za x y=false:=by
 rw[QpS];simp
theorem Qtg (p:Int) (b:Bool):(off:Nat)->(l:List QB)->VX (YC p b off l)<0->∀y∈l,(decide (y.1=p)&&(y.2.2.1==b))=false
 |_,[],_=>by simp
 |off,y::l,h=>by
  rw[YC]at h
  cases hk:decide (y.1=p)&&(y.2.2.1==b)
  ·rw[hk]at h
   intro z hz
   rcases QRk.1 hz with rfl|hz
   ·exact hk
   ·exact Qtg p b (off+1) l h z hz
  ·rw[hk]at h;simp[VX]at h;omega
theorem Qs5 (p:Int) (b:Bool):(off:Nat)->(l:List QB)->¬VX (YC p b off l)<0->∃i:Nat,VX (YC p b off l)=((off+i:Nat):Int)/\∃h:i<l.length,(decide (l[i].1=p)&&(l[i].2.2.1==b))=true
 |off,[],h=>by simp[YC,VX]at h
 |off,y::l,h=>by
  rw[YC]at h⊢
  cases hk:decide (y.1=p)&&(y.2.2.1==b)
  ·rw[hk]at h
   obtain⟨i,e,hi,h2⟩:=Qs5 p b (off+1) l h
   exact⟨i+1,by simp only[QQ2];rw[e];congr 1;omega,by simpa using hi,by simpa using h2⟩
  ·exact⟨0,rfl,by simp,by simpa using hk⟩
theorem Qu5 {id n wt:Int}{l:List QB}(h:XO id n wt [] l=true) {x:QB}(hx:Vp id n wt x=true) (hn:VX (YC x.1 x.2.2.1 0 l)<0):XO id n wt [] (l++[x])=true:=by
 rw[Qdr]at h⊢
 refine⟨fun y hy=> ?_,List.pairwise_append.2 ⟨h.2,by simp,fun y hy z hz=> ?_⟩⟩
 ·rcases QRh.1 hy with hy|hy
  ·exact h.1 y hy
  ·obtain rfl:y=x:=by simpa using hy
   exact hx
 ·obtain rfl:z=x:=by simpa using hz
  exact Qtg z.1 z.2.2.1 0 l hn y hy
theorem QyD {id n wt:Int}{l:List QB}(h:XO id n wt [] l=true) (i:Nat):XO id n wt [] (l.take i++l.drop (i+1))=true:=by
 rw[Qdr]at h⊢
 have hs:(l.take i++l.drop (i+1)).Sublist l:=by
  have:=List.Sublist.append (List.Sublist.refl (l.take i)) (List.drop_sublist 1 (l.drop i))
  rw[List.take_append_drop,List.drop_drop]at this
  exact this
 exact⟨fun y hy=>h.1 y (hs.subset hy),h.2.sublist hs⟩
theorem QDC {id n wt:Int}{l:List QB}(h:XO id n wt [] l=true) {i:Nat}(hi:i<l.length) {x:QB}(hx:Vp id n wt x=true) (h1:x.1=l[i].1) (h2:x.2.2.1=l[i].2.2.1):XO id n wt [] (l.set i x)=true:=by
 rw[Qdr]at h⊢
 have hk:∀y,Za x y=Za l[i] y:=fun y=>by unfold Za;rw[h1,h2]
 refine⟨fun y hy=> ?_, ?_⟩
 ·rcases List.mem_or_eq_of_mem_set hy with hy|rfl
  ·exact h.1 y hy
  ·exact hx
 ·rw[List.pairwise_iff_getElem]at h⊢
  intro a b ha hb hab
  rw[List.length_set]at ha hb
  rw[List.getElem_set,List.getElem_set]
  have:=h.2 a b ha hb hab
  split
  ·rename_i e;subst e
   rw[if_neg (by omega),hk];exact this
  ·split
   ·rename_i e;subst e
    rw[QqU,hk,QqU];exact this
   ·exact this
theorem QDj (x:Qd) (p:Int) (h:NOk x):xe w (x.1,x.2.1,x.2.2.1,x.2.2.2.1,x.2.2.2.2.1,x.2.2.2.2.2.1,x.2.2.2.2.2.2.1,x.2.2.2.2.2.2.2.1,x.2.2.2.2.2.2.2.2.1,x.2.2.2.2.2.2.2.2.2.1,x.2.2.2.2.2.2.2.2.2.2.1,x.2.2.2.2.2.2.2.2.2.2.2.1,x.2.2.2.2.2.2.2.2.2.2.2.2.1,x.2.2.2.2.2.2.2.2.2.2.2.2.2.1,x.2.2.2.2.2.2.2.2.2.2.2.2.2.2.1,x.2.2.2.2.2.2.2.2.2.2.2.2.2.2.2.1,x.2.2.2.2.2.2.2.2.2.2.2.2.2.2.2.2.1,x.2.2.2.2.2.2.2.2.2.2.2.2.2.2.2.2.2.1,x.2.2.2.2.2.2.2.2.2.2.2.2.2.2.2.2.2.2,p)=some (Zw x.1 x.2.1 p):=QtC x.1 x.2.1 x.2.2.1 x.2.2.2.1 x.2.2.2.2.1 x.2.2.2.2.2.1 x.2.2.2.2.2.2.1 x.2.2.2.2.2.2.2.1 x.2.2.2.2.2.2.2.2.1 x.2.2.2.2.2.2.2.2.2.1 x.2.2.2.2.2.2.2.2.2.2.1 x.2.2.2.2.2.2.2.2.2.2.2.1 x.2.2.2.2.2.2.2.2.2.2.2.2.1 x.2.2.2.2.2.2.2.2.2.2.2.2.2.1 x.2.2.2.2.2.2.2.2.2.2.2.2.2.2.1 x.2.2.2.2.2.2.2.2.2.2.2.2.2.2.2.1 x.2.2.2.2.2.2.2.2.2.2.2.2.2.2.2.2.1 x.2.2.2.2.2.2.2.2.2.2.2.2.2.2.2.2.2.1 x.2.2.2.2.2.2.2.2.2.2.2.2.2.2.2.2.2.2 p h.n
theorem Qzp (x:Qd) (p:Int) (h:NOk x):vj w (x.1,x.2.1,x.2.2.1,x.2.2.2.1,x.2.2.2.2.1,x.2.2.2.2.2.1,x.2.2.2.2.2.2.1,x.2.2.2.2.2.2.2.1,x.2.2.2.2.2.2.2.2.1,x.2.2.2.2.2.2.2.2.2.1,x.2.2.2.2.2.2.2.2.2.2.1,x.2.2.2.2.2.2.2.2.2.2.2.1,x.2.2.2.2.2.2.2.2.2.2.2.2.1,x.2.2.2.2.2.2.2.2.2.2.2.2.2.1,x.2.2.2.2.2.2.2.2.2.2.2.2.2.2.1,x.2.2.2.2.2.2.2.2.2.2.2.2.2.2.2.1,x.2.2.2.2.2.2.2.2.2.2.2.2.2.2.2.2.1,x.2.2.2.2.2.2.2.2.2.2.2.2.2.2.2.2.2.1,x.2.2.2.2.2.2.2.2.2.2.2.2.2.2.2.2.2.2,p)=some (Zw x.1 x.2.1 p):=by
 have hn:=Xw.1 h.n
 apply Qqe
 simp only[Qid,Zw]
 rw[w64 (by omega) (by omega),XE,QQ0]
 cases inR p 0 (x.2.1 - 1)<;>rfl
theorem QmS {x:Qd}(h:NOk x):x.2.2.2.2.2.2.2.2.2.2.2.2.2.2.1.length<=4/\x.2.2.2.2.2.2.2.2.2.1.length<=5/\x.2.2.2.2.2.2.2.2.2.2.1.length<=5:=by
 have h1:=Xw.1 h.slots
 have h2:=h.room
 have h3:=Xw.1 h.n
 have h4:=(jN h.got).1
 have h5:=(jN h.ack).1
 omega
def ship (x:Qd) (seq:Int):List Qg×List Qb×Bool:=bif (ZP (x.2.2.2.2.2.2.1,x.2.2.2.2.2.2.2.1,x.2.2.2.2.2.2.2.2.1) seq).2.2 then ZP (x.2.2.2.2.2.2.1,x.2.2.2.2.2.2.2.1,x.2.2.2.2.2.2.2.2.1) seq else(x.2.2.1,x.2.2.2.1,false)
theorem QEA {x:Qd}(h:NOk x) (seq:Int):QL ((ship x seq).1,(ship x seq).2.1)=true:=by
 unfold ship
 cases(ZP (x.2.2.2.2.2.2.1,x.2.2.2.2.2.2.2.1,x.2.2.2.2.2.2.2.2.1) seq).2.2
 ·exact h.st
 ·exact QxW h.log seq
theorem QEB (x:Qd) (h:NOk x) (seq:Int):QiH w (x.1,x.2.1,x.2.2.1,x.2.2.2.1,x.2.2.2.2.1,x.2.2.2.2.2.1,x.2.2.2.2.2.2.1,x.2.2.2.2.2.2.2.1,x.2.2.2.2.2.2.2.2.1,x.2.2.2.2.2.2.2.2.2.1,x.2.2.2.2.2.2.2.2.2.2.1,x.2.2.2.2.2.2.2.2.2.2.2.1,x.2.2.2.2.2.2.2.2.2.2.2.2.1,x.2.2.2.2.2.2.2.2.2.2.2.2.2.1,x.2.2.2.2.2.2.2.2.2.2.2.2.2.2.1,x.2.2.2.2.2.2.2.2.2.2.2.2.2.2.2.1,x.2.2.2.2.2.2.2.2.2.2.2.2.2.2.2.2.1,x.2.2.2.2.2.2.2.2.2.2.2.2.2.2.2.2.2.1,x.2.2.2.2.2.2.2.2.2.2.2.2.2.2.2.2.2.2,seq)=some (ship x seq):=by
 have hsm:=zu h
 have hn:=okN h
 have hl:qS w (x.2.2.2.2.2.2.1,x.2.2.2.2.2.2.2.1,x.2.2.2.2.2.2.2.2.1,seq)=some (ZP (x.2.2.2.2.2.2.1,x.2.2.2.2.2.2.2.1,x.2.2.2.2.2.2.2.2.1) seq):=QwO (x.2.2.2.2.2.2.1,x.2.2.2.2.2.2.2.1,x.2.2.2.2.2.2.2.2.1) h.log seq
 have hc:ZF w (x.2.2.1,x.2.2.2.1)=some (x.2.2.1,x.2.2.2.1):=QaO _ (Qgk (x:=x) (by omega)).1
 apply QvD
 simp only[Ql5,hn,hl,hc,QQ0,QQ3,QQ2,ship]
 cases hb:(ZP (x.2.2.2.2.2.2.1,x.2.2.2.2.2.2.2.1,x.2.2.2.2.2.2.2.2.1) seq).2.2
 ·rfl
 ·simp only[QQ3,QQ2,QQ1]
  rw[<-hb]
theorem Qzg (x:Qd) (h:NOk x) (seq:Int):Qbz w (x.1,x.2.1,x.2.2.1,x.2.2.2.1,x.2.2.2.2.1,x.2.2.2.2.2.1,x.2.2.2.2.2.2.1,x.2.2.2.2.2.2.2.1,x.2.2.2.2.2.2.2.2.1,x.2.2.2.2.2.2.2.2.2.1,x.2.2.2.2.2.2.2.2.2.2.1,x.2.2.2.2.2.2.2.2.2.2.2.1,x.2.2.2.2.2.2.2.2.2.2.2.2.1,x.2.2.2.2.2.2.2.2.2.2.2.2.2.1,x.2.2.2.2.2.2.2.2.2.2.2.2.2.2.1,x.2.2.2.2.2.2.2.2.2.2.2.2.2.2.2.1,x.2.2.2.2.2.2.2.2.2.2.2.2.2.2.2.2.1,x.2.2.2.2.2.2.2.2.2.2.2.2.2.2.2.2.2.1,x.2.2.2.2.2.2.2.2.2.2.2.2.2.2.2.2.2.2,seq)=some (ship x seq):=by
 have hsm:=zu h
 have hl:qL w (x.2.2.2.2.2.2.1,x.2.2.2.2.2.2.2.1,x.2.2.2.2.2.2.2.2.1,seq)=some (ZP (x.2.2.2.2.2.2.1,x.2.2.2.2.2.2.2.1,x.2.2.2.2.2.2.2.2.1) seq):=QuZ (x.2.2.2.2.2.2.1,x.2.2.2.2.2.2.2.1,x.2.2.2.2.2.2.2.2.1) h.log seq
 have hc:KE w (x.2.2.1,x.2.2.2.1)=some (x.2.2.1,x.2.2.2.1):=QjP _ (Qgk (x:=x) (by omega)).1
 apply QpX
 simp only[QgR,hl,hc,QQ0,ship]
 cases hb:(ZP (x.2.2.2.2.2.2.1,x.2.2.2.2.2.2.2.1,x.2.2.2.2.2.2.2.2.1) seq).2.2
 ·rfl
 ·simp only[QQ1]
  rw[<-hb]
def msg (x:Qd) (k to num:Int):Q9:=(k,x.1,to,num,Xs (x.2.2.2.2.2.2.1,x.2.2.2.2.2.2.2.1,x.2.2.2.2.2.2.2.2.1),[],0,x.2.2.2.2.2.2.2.2.2.1,[],[],[],marksOf (x.2.2.1,x.2.2.2.1))
theorem QyI (x:Qd) (h:NOk x) (k to num:Int):QaP w (x.1,x.2.1,x.2.2.1,x.2.2.2.1,x.2.2.2.2.1,x.2.2.2.2.2.1,x.2.2.2.2.2.2.1,x.2.2.2.2.2.2.2.1,x.2.2.2.2.2.2.2.2.1,x.2.2.2.2.2.2.2.2.2.1,x.2.2.2.2.2.2.2.2.2.2.1,x.2.2.2.2.2.2.2.2.2.2.2.1,x.2.2.2.2.2.2.2.2.2.2.2.2.1,x.2.2.2.2.2.2.2.2.2.2.2.2.2.1,x.2.2.2.2.2.2.2.2.2.2.2.2.2.2.1,x.2.2.2.2.2.2.2.2.2.2.2.2.2.2.2.1,x.2.2.2.2.2.2.2.2.2.2.2.2.2.2.2.2.1,x.2.2.2.2.2.2.2.2.2.2.2.2.2.2.2.2.2.1,x.2.2.2.2.2.2.2.2.2.2.2.2.2.2.2.2.2.2,k,to,num)=some (msg x k to num):=by
 have hl:=Qjq h.log
 have hs:=Qat h.st
 have hn:=QmS h
 apply QpR
 simp only[QhY,Qm3 _ _ _ hl.2.1 hl.2.2,Qhq x.2.2.2.2.2.2.2.2.2.1 (by omega),Qy2 _ _ hs.1 hs.2,QQ0,msg]
theorem QA0 (x:Qd) (h:NOk x) (k to num:Int):Qdn w (x.1,x.2.1,x.2.2.1,x.2.2.2.1,x.2.2.2.2.1,x.2.2.2.2.2.1,x.2.2.2.2.2.2.1,x.2.2.2.2.2.2.2.1,x.2.2.2.2.2.2.2.2.1,x.2.2.2.2.2.2.2.2.2.1,x.2.2.2.2.2.2.2.2.2.2.1,x.2.2.2.2.2.2.2.2.2.2.2.1,x.2.2.2.2.2.2.2.2.2.2.2.2.1,x.2.2.2.2.2.2.2.2.2.2.2.2.2.1,x.2.2.2.2.2.2.2.2.2.2.2.2.2.2.1,x.2.2.2.2.2.2.2.2.2.2.2.2.2.2.2.1,x.2.2.2.2.2.2.2.2.2.2.2.2.2.2.2.2.1,x.2.2.2.2.2.2.2.2.2.2.2.2.2.2.2.2.2.1,x.2.2.2.2.2.2.2.2.2.2.2.2.2.2.2.2.2.2,k,to,num)=some (msg x k to num):=by
 have hl:=Qjq h.log
 have hs:=Qat h.st
 have hn:=QmS h
 apply QsZ
 simp only[Qiy,Qls _ _ _ hl.2.1 hl.2.2,List.length_nil,QRe,QRo,Qy (show x.2.2.2.2.2.2.2.2.2.1.length*8<=140737488351232 by omega),Qxs _ _ hs.1 hs.2,QQ0,QQ1,msg]
def Qkl (x:Qd) (to:Int):Bool:=Zw x.1 x.2.1 to&&(decide (VX (YC to false 0 x.2.2.2.2.2.2.2.2.2.2.2.2.2.2.1)<0)&&(!decide (x.2.2.2.2.2.2.2.2.2.2.2.2.2.1<=((x.2.2.2.2.2.2.2.2.2.2.2.2.2.2.1.length:Nat):Int))&& !decide (x.2.2.2.2.2.2.2.2.2.2.2.2.1=100000)))
def Qvd (x:Qd) (to:Int):Qd:=(x.1,x.2.1,x.2.2.1,x.2.2.2.1,x.2.2.2.2.1,x.2.2.2.2.2.1,x.2.2.2.2.2.2.1,x.2.2.2.2.2.2.2.1,x.2.2.2.2.2.2.2.2.1,x.2.2.2.2.2.2.2.2.2.1,x.2.2.2.2.2.2.2.2.2.2.1,x.2.2.2.2.2.2.2.2.2.2.2.1,x.2.2.2.2.2.2.2.2.2.2.2.2.1+1,x.2.2.2.2.2.2.2.2.2.2.2.2.2.1,x.2.2.2.2.2.2.2.2.2.2.2.2.2.2.1++[(to,x.2.2.2.2.2.2.2.2.2.2.2.2.1+1,false,0)],x.2.2.2.2.2.2.2.2.2.2.2.2.2.2.2.1,x.2.2.2.2.2.2.2.2.2.2.2.2.2.2.2.2.1,x.2.2.2.2.2.2.2.2.2.2.2.2.2.2.2.2.2.1,x.2.2.2.2.2.2.2.2.2.2.2.2.2.2.2.2.2.2)
theorem QDD {x:Qd}(h:NOk x) {to:Int}(hc:Qkl x to=true):NOk (Qvd x to) where
 n:=h.n
 id:=h.id
 st:=h.st
 tree:=h.tree
 log:=h.log
 got:=h.got
 ack:=h.ack
 own:=h.own
 heard:=h.heard
 seen:=h.seen
 num:=by
  have:=Xw.1 h.num
  simp only[Qkl,QQ5,Bool.not_eq_true',decide_eq_false_iff_not]at hc
  simp only[Qvd,Xw];omega
 clock:=h.clock
 wait:=h.wait
 limit:=h.limit
 slots:=h.slots
 room:=by
  have:=h.room
  simp only[Qkl,QQ5,Bool.not_eq_true',decide_eq_false_iff_not]at hc
  simp only[Qvd,QRj,List.length_cons,List.length_nil];omega
 sess:=by
  have hn:=Xw.1 h.num
  have hw:=Xw.1 h.wait
  simp only[Qkl,QQ5,Bool.not_eq_true',decide_eq_false_iff_not,QRu]at hc
  refine Qu5 h.sess ?_ hc.2.1
  simp only[Vp,hc.1,QRd,QQ5,Xw];omega
 rlen:=h.rlen
 rises:=h.rises
def Qk3 (m:Q9):Bool:=xz m.1 m.2.1 m.2.2.1 m.2.2.2.1 m.2.2.2.2.1 m.2.2.2.2.2.1 m.2.2.2.2.2.2.1 m.2.2.2.2.2.2.2.1 m.2.2.2.2.2.2.2.2.1 m.2.2.2.2.2.2.2.2.2.1 m.2.2.2.2.2.2.2.2.2.2.1 m.2.2.2.2.2.2.2.2.2.2.2
def Qva (m:Q9):Prop:=smM m.2.2.2.2.2.1 m.2.2.2.2.2.2.2.1 m.2.2.2.2.2.2.2.2.1 m.2.2.2.2.2.2.2.2.2.1 m.2.2.2.2.2.2.2.2.2.2.1 m.2.2.2.2.2.2.2.2.2.2.2
structure MOk (m:Q9):Prop where
 kind:inR m.1 0 5=true
 src:inR m.2.1 0 4=true
 dst:inR m.2.2.1 0 4=true
 two:m.2.1≠m.2.2.1
 lv:okL (-1) m.2.2.2.2.2.2.2.2.1=true
 vec:∀y∈m.2.2.2.2.2.2.2.1,inR y 0 100000=true
 num:inR m.2.2.2.1 0 100000=true
 hi:inR m.2.2.2.2.1 0 100000=true
 tree:QbD (m.2.2.2.2.2.1,m.2.2.2.2.2.2.1)=true
 vl:((m.2.2.2.2.2.2.2.1.length:Nat):Int)<=5
 part:QL (m.2.2.2.2.2.2.2.2.2.1,m.2.2.2.2.2.2.2.2.2.2.1)=true
 marks:QN (-1) m.2.2.2.2.2.2.2.2.2.2.2=true
theorem mok {m:Q9}(h:Qk3 m=true):MOk m:=by
 simp only[Qk3,xz,QQ5,QRu,QRt,Bool.not_eq_true',decide_eq_false_iff_not]at h
 obtain⟨⟨⟨⟨⟨⟨⟨⟨⟨⟨⟨h1,h2⟩,h3⟩,h4⟩,h5⟩,h6⟩,h7⟩,h8⟩,h9⟩,h10⟩,h11⟩,h12⟩:=h
 exact⟨h1,h2,h3,h4,h5,h6,h7,h8,h9,h10,h11,h12⟩
theorem Qts {l:List Qb}(h:QN (-1) l=true):l.length<=5:=by
 have:=QbT _ _ h (by omega)
 rcases this with h|h
 ·omega
 ·rw[h];simp
structure Fit (x:Qd) (m:Q9):Prop where
 ok:MOk m
 to:m.2.2.1=x.1
 src:m.2.1<x.2.1
 len:((m.2.2.2.2.2.2.2.1.length:Nat):Int)=x.2.1
theorem QAl {g:Zm}(h:ZL g=true):0<=Xs g/\Xs g<=100000:=by
 have:=Qgg h
 unfold Xs;rw[h]
 simp only[QQ1];omega
theorem Qwe {v:List Int}{k n:Int}(h:∀y∈v,inR y 0 100000=true) (hn:n<=100000):∀y∈K6 v k n,inR y 0 100000=true:=by
 unfold K6
 cases hk:inR k 0 ((v.length:Nat) - 1)
 ·exact h
 ·obtain⟨j,rfl,hj⟩:=Qgo hk
  intro y hy
  rcases List.mem_or_eq_of_mem_set hy with hy|rfl
  ·exact h y hy
  ·have:=Xw.1 (h _ (QRf hj))
   rw[Qi hj,Xw]
   unfold mxI;split<;>omega
theorem QvB (v:List Int) (k n:Int):(K6 v k n).length=v.length:=by
 unfold K6;cases inR k 0 ((v.length:Nat) - 1)<;>simp
theorem Qoa {v:List Int}{c k n:Int}(h:Yj v c=true) (hn:n<=100000):Yj (K6 v k n) c=true:=by
 have:=jN h
 simp only[Yj,QQ5,QRu,QRt,QvB]at h⊢
 exact⟨h.1,Qwe this.2 hn⟩
theorem Qv1 {v:List Int}{k n:Int}{j:Nat}(hne:k≠(j:Int)):(K6 v k n).getD j 0=v.getD j 0:=by
 unfold K6
 cases hk:inR k 0 ((v.length:Nat) - 1)
 ·rfl
 ·obtain⟨i,rfl,hi⟩:=Qgo hk
  simp only[QQ1,QRb,List.getD]
  rw[List.getElem?_set_ne (by omega)]
def QBk (x:Qd) (m:Q9):Qd:=(x.1,x.2.1,x.2.2.1,x.2.2.2.1,x.2.2.2.2.1,x.2.2.2.2.2.1,x.2.2.2.2.2.2.1,x.2.2.2.2.2.2.2.1,x.2.2.2.2.2.2.2.2.1,x.2.2.2.2.2.2.2.2.2.1,K6 x.2.2.2.2.2.2.2.2.2.2.1 m.2.1 (mnI (rd1 0 m.2.2.2.2.2.2.2.1 x.1) (Xs (x.2.2.2.2.2.2.1,x.2.2.2.2.2.2.2.1,x.2.2.2.2.2.2.2.2.1))),Qlm x.2.2.2.2.2.2.2.2.2.2.2.1 m.2.1 m.2.2.2.2.2.2.2.2.2.2.2,x.2.2.2.2.2.2.2.2.2.2.2.2.1,x.2.2.2.2.2.2.2.2.2.2.2.2.2.1,x.2.2.2.2.2.2.2.2.2.2.2.2.2.2.1,x.2.2.2.2.2.2.2.2.2.2.2.2.2.2.2.1,x.2.2.2.2.2.2.2.2.2.2.2.2.2.2.2.2.1,x.2.2.2.2.2.2.2.2.2.2.2.2.2.2.2.2.2.1,x.2.2.2.2.2.2.2.2.2.2.2.2.2.2.2.2.2.2)
theorem QzY {x:Qd}(h:NOk x) {m:Q9}(hf:Fit x m):NOk (QBk x m) where
 n:=h.n
 id:=h.id
 st:=h.st
 tree:=h.tree
 log:=h.log
 got:=h.got
 ack:=Qoa h.ack (by
  have:=QAl h.log
  unfold mnI;split<;>omega)
 own:=h.own
 heard:=by
  refine QRt.2 fun y hy=>decide_eq_true ?_
  have ho:=QRt.1 h.heard
  have hy':y∈K6 x.2.2.2.2.2.2.2.2.2.2.1 m.2.1 (mnI (rd1 0 m.2.2.2.2.2.2.2.1 x.1) (Xs (x.2.2.2.2.2.2.1,x.2.2.2.2.2.2.2.1,x.2.2.2.2.2.2.2.2.1))):=hy
  show y<=Xs (x.2.2.2.2.2.2.1,x.2.2.2.2.2.2.2.1,x.2.2.2.2.2.2.2.2.1)
  unfold K6 at hy'
  cases hk:inR m.2.1 0 ((x.2.2.2.2.2.2.2.2.2.2.1.length:Nat) - 1)
  ·rw[hk]at hy';simpa using ho y hy'
  ·rw[hk]at hy'
   rcases List.mem_or_eq_of_mem_set hy' with hy'|rfl
   ·simpa using ho y hy'
   ·obtain⟨j,hj,hj2⟩:=Qgo hk
    have:=ho _ (QRf hj2)
    simp only[QRu]at this
    rw[hj,Qi hj2]
    unfold mxI mnI
    split<;>split<;>omega
 seen:=Qom h.seen _ _
 num:=h.num
 clock:=h.clock
 wait:=h.wait
 limit:=h.limit
 slots:=h.slots
 room:=h.room
 sess:=h.sess
 rlen:=h.rlen
 rises:=h.rises
theorem QDf:QL ([],[])=true:=rfl
def heard (x:Qd) (m:Q9):Qd:=take (QBk x m) ([],[])
theorem Qm0 {x:Qd}(h:NOk x) {m:Q9}(hf:Fit x m):NOk (heard x m):=QwC (QzY h hf) QDf
def brought (x:Qd) (m:Q9):Qd:=((take (heard x m) (m.2.2.2.2.2.2.2.2.2.1,m.2.2.2.2.2.2.2.2.2.2.1)).1,(take (heard x m) (m.2.2.2.2.2.2.2.2.2.1,m.2.2.2.2.2.2.2.2.2.2.1)).2.1,(take (heard x m) (m.2.2.2.2.2.2.2.2.2.1,m.2.2.2.2.2.2.2.2.2.2.1)).2.2.1,(take (heard x m) (m.2.2.2.2.2.2.2.2.2.1,m.2.2.2.2.2.2.2.2.2.2.1)).2.2.2.1,(take (heard x m) (m.2.2.2.2.2.2.2.2.2.1,m.2.2.2.2.2.2.2.2.2.2.1)).2.2.2.2.1,(take (heard x m) (m.2.2.2.2.2.2.2.2.2.1,m.2.2.2.2.2.2.2.2.2.2.1)).2.2.2.2.2.1,(take (heard x m) (m.2.2.2.2.2.2.2.2.2.1,m.2.2.2.2.2.2.2.2.2.2.1)).2.2.2.2.2.2.1,(take (heard x m) (m.2.2.2.2.2.2.2.2.2.1,m.2.2.2.2.2.2.2.2.2.2.1)).2.2.2.2.2.2.2.1,(take (heard x m) (m.2.2.2.2.2.2.2.2.2.1,m.2.2.2.2.2.2.2.2.2.2.1)).2.2.2.2.2.2.2.2.1,K6 (take (heard x m) (m.2.2.2.2.2.2.2.2.2.1,m.2.2.2.2.2.2.2.2.2.2.1)).2.2.2.2.2.2.2.2.2.1 m.2.1 m.2.2.2.2.1,(take (heard x m) (m.2.2.2.2.2.2.2.2.2.1,m.2.2.2.2.2.2.2.2.2.2.1)).2.2.2.2.2.2.2.2.2.2.1,(take (heard x m) (m.2.2.2.2.2.2.2.2.2.1,m.2.2.2.2.2.2.2.2.2.2.1)).2.2.2.2.2.2.2.2.2.2.2.1,(take (heard x m) (m.2.2.2.2.2.2.2.2.2.1,m.2.2.2.2.2.2.2.2.2.2.1)).2.2.2.2.2.2.2.2.2.2.2.2.1,(take (heard x m) (m.2.2.2.2.2.2.2.2.2.1,m.2.2.2.2.2.2.2.2.2.2.1)).2.2.2.2.2.2.2.2.2.2.2.2.2.1,(take (heard x m) (m.2.2.2.2.2.2.2.2.2.1,m.2.2.2.2.2.2.2.2.2.2.1)).2.2.2.2.2.2.2.2.2.2.2.2.2.2.1,(take (heard x m) (m.2.2.2.2.2.2.2.2.2.1,m.2.2.2.2.2.2.2.2.2.2.1)).2.2.2.2.2.2.2.2.2.2.2.2.2.2.2.1,(take (heard x m) (m.2.2.2.2.2.2.2.2.2.1,m.2.2.2.2.2.2.2.2.2.2.1)).2.2.2.2.2.2.2.2.2.2.2.2.2.2.2.2.1,(take (heard x m) (m.2.2.2.2.2.2.2.2.2.1,m.2.2.2.2.2.2.2.2.2.2.1)).2.2.2.2.2.2.2.2.2.2.2.2.2.2.2.2.2.1,(take (heard x m) (m.2.2.2.2.2.2.2.2.2.1,m.2.2.2.2.2.2.2.2.2.2.1)).2.2.2.2.2.2.2.2.2.2.2.2.2.2.2.2.2.2)
theorem QjQ {x:Qd}(h:NOk x) {m:Q9}(hf:Fit x m):NOk (brought x m):=by
 have hb:NOk (take (heard x m) (m.2.2.2.2.2.2.2.2.2.1,m.2.2.2.2.2.2.2.2.2.2.1)):=QwC (Qm0 h hf) hf.ok.part
 have h1:=Xw.1 h.id
 have hne:m.2.1≠(((x.1).toNat:Nat):Int):=by
  have:=hf.ok.two
  have:=hf.to
  omega
 exact {
  n:=hb.n
  id:=hb.id
  st:=hb.st
  tree:=hb.tree
  log:=hb.log
  got:=Qoa hb.got (Xw.1 hf.ok.hi).2
  ack:=hb.ack
  own:=(Qv1 hne).trans hb.own
  heard:=hb.heard
  seen:=hb.seen
  num:=hb.num
  clock:=hb.clock
  wait:=hb.wait
  limit:=hb.limit
  slots:=hb.slots
  room:=hb.room
  sess:=hb.sess
  rlen:=hb.rlen
  rises:=hb.rises}
end Go.Proofs.YtiejfnbmficbmaaGreat.M
