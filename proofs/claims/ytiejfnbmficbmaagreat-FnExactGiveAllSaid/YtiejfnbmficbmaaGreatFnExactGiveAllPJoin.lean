/- What the plain forms that FnExactGiveAll reaches come to: PJoin. No conditions but those that each theorem states. -/
import Derived.Test.YtiejfnbmficbmaaGreatFnExactGiveAllPNode2
set_option linter.all false
namespace Go.Proofs.YtiejfnbmficbmaaGreat.M
open Go Go.Eng Go.Proofs
set_option linter.unusedVariables false
theorem ZQ {s:Qk}(h:QF s=true):smS s:=by
 have:=Kl h
 constructor<;>simp only[maxLen]<;>omega
theorem Qcz (a b:Qk) (ha:smS a) (hb:smS b):Zs w (a.1,a.2,b.1,b.2)=some (join a b):=by
 apply QsW
 have e:=Q0 5 (fun i (s:Qk)=>Zw wl ((i:Int),a.1,a.2,b.1,b.2,s.1,s.2)) (fun i s=>(s.1++(List.range' i (5 - i)).flatMap (Qo8 a b),s.2++(List.range' i (5 - i)).flatMap (jG a b))) (fun i s=>s.1.length<=i/\s.2.length<=i)
  (fun i hi s hs ih=>by
    apply QcV
    simp only[Qab,Qx7 hi,Qx5 hi,QQ1,Qp1 a.1 a.2 _ ha.1,Qp1 b.1 b.2 _ hb.1,Qjv a.1 a.2 _ ha.2,Qjv b.1 b.2 _ hb.2,QDZ,QQ0]
    rw[Ya hi,Ya hi]
    have hE:Jd ((QZ (i:Int) a.1).1,(QZ (i:Int) a.1).2.1,(QZ (i:Int) a.1).2.2.1,(QZ (i:Int) a.1).2.2.2.1,(QZ (i:Int) a.1).2.2.2.2.1) ((QZ (i:Int) b.1).1,(QZ (i:Int) b.1).2.1,(QZ (i:Int) b.1).2.2.1,(QZ (i:Int) b.1).2.2.2.1,(QZ (i:Int) b.1).2.2.2.2.1)=yM a b (i:Int):=rfl
    have hF:mxI (Q7 (i:Int) a.2) (Q7 (i:Int) b.2)=Zp a b (i:Int):=rfl
    simp only[hE,hF,Qo8,jG]
    have f1:fits (s.1.length+([((i:Int),yM a b (i:Int))]:List Qf).length) 56=true:=Qu (by simp;omega)
    have f2:fits (s.2.length+([((i:Int),Zp a b (i:Int))]:List Qa).length) 16=true:=Qu (by simp;omega)
    simp only[f1,f2,QQ1]
    cases decide (Zp a b (i:Int)<(yM a b (i:Int)).1)<;>cases decide (0<Zp a b (i:Int))<;>simp only[QQ1,QQ2,QRe]
    ·exact ih s (by omega)
    ·rw[ih (s.1,s.2++[((i:Int),Zp a b (i:Int))]) (by simp;omega)];simp
    ·rw[ih (s.1++[((i:Int),yM a b (i:Int))],s.2) (by simp;omega)];simp
    ·rw[ih (s.1++[((i:Int),yM a b (i:Int))],s.2++[((i:Int),Zp a b (i:Int))]) (by simp;omega)];simp)
  (fun s _=>by
    apply QcV
    simp[Qab]) ([],[]) (by simp)
 simp only[QQ6,QRe,Nat.sub_zero]at e
 simp only[Qig,e,QQ0,join]
theorem QmK (a b:Int):Kd a b= - Kd b a:=by
 unfold Kd;split<;>split<;>(try split)<;>omega
theorem QzR:(a b:List UInt8)->Go.Lib.compareBytes a b= - Go.Lib.compareBytes b a
 | [],[]=>by simp[Go.Lib.compareBytes]
 | [],_::_=>by simp[Go.Lib.compareBytes]
 |_::_,[]=>by simp[Go.Lib.compareBytes]
 |a::l,b::m=>by
  have ih:=QzR l m
  by_cases h:a<b
  ·have h2:¬b<a:=fun e=>UInt8.lt_irrefl _ (UInt8.lt_trans h e)
   simp[Go.Lib.compareBytes,h,h2]
  ·by_cases h2:b<a
   ·simp[Go.Lib.compareBytes,h,h2]
   ·simp only[Go.Lib.compareBytes,h,h2,if_false];exact ih
theorem QDw (x y:XT):Vx x y= - Vx y x:=by
 unfold Vx Quc
 rw[QmK x.1 y.1,QmK x.2.1 y.2.1,QmK x.2.2.1 y.2.2.1,QmK x.2.2.2.1 y.2.2.2.1,QzR x.2.2.2.2.data.toList y.2.2.2.2.data.toList]
 unfold or5
 repeat' split
 all_goals omega
theorem QHW {y:XT}(h:X2 y=true):Jd (0,0,0,0,ByteArray.empty) y=y:=by
 have:=Qzg h
 have e:Vx (0,0,0,0,ByteArray.empty) y= -1:=by
  unfold Vx or5
  have:Kd (0:Int) y.1= -1:=by unfold Kd;rw[if_pos (by omega)]
  simp[this]
 unfold Jd;rw[e];rfl
theorem QHT {x:XT}(h:X2 x=true):Jd x (0,0,0,0,ByteArray.empty)=x:=by
 have:=Qzg h
 have e:Vx x (0,0,0,0,ByteArray.empty)=1:=by
  unfold Vx or5
  have:Kd x.1 (0:Int)=1:=by unfold Kd;rw[if_neg (by omega),if_pos (by omega)]
  simp[this]
 unfold Jd;rw[e];rfl
theorem QGj (x y:XT):Jd x y=bif decide (0<Vx y x)then y else x:=by
 unfold Jd
 rw[QDw x y]
 by_cases h:0<Vx y x
 ·rw[if_pos (by omega),dt h];rfl
 ·rw[if_neg (by omega),df h];rfl
theorem QnQ (a b:Qk) (ha:QF a=true) (hb:QF b=true):Yt w (a.1,a.2,b.1,b.2)=some (join a b):=by
 apply Qy5
 have h1:=ZQ ha
 have h2:=ZQ hb
 have e:=Q0 5 (fun i (s:Qk)=>Qx wl ((i:Int),a.1,a.2,b.1,b.2,s.1,s.2)) (fun i s=>(s.1++(List.range' i (5 - i)).flatMap (Qo8 a b),s.2++(List.range' i (5 - i)).flatMap (jG a b))) (fun i s=>s.1.length<=i/\s.2.length<=i)
  (fun i hi s hs ih=>by
    apply QiL
    rw[Ya hi,Ya hi]
    have hF:mxI (Q7 (i:Int) a.2) (Q7 (i:Int) b.2)=Zp a b (i:Int):=rfl
    have hr:=QmY ha hb (i:Int)
    have f2:fits (s.2.length+([((i:Int),Zp a b (i:Int))]:List Qa).length) 16=true:=Qu (by simp;omega)
    have fA:∀e:Qf,fits (s.1.length+([e]:List Qf).length) 56=true:=fun e=>Qu (by simp;omega)
    have i0:=ih s (by omega)
    have i1:=ih (s.1,s.2++[((i:Int),Zp a b (i:Int))]) (by simp;omega)
    have i2:=fun e:XT=>ih (s.1++[((i:Int),e)],s.2) (by simp;omega)
    have i3:=fun e:XT=>ih (s.1++[((i:Int),e)],s.2++[((i:Int),Zp a b (i:Int))]) (by simp;omega)
    simp only at i0 i1 i2 i3
    have hx:=Qlp ha (i:Int)
    have hy:=Qlp hb (i:Int)
    have hE:yM a b (i:Int)=Jd (Yo (QZ (i:Int) a.1)) (Yo (QZ (i:Int) b.1)):=rfl
    simp only[Qfm,Qx7 hi,Qx5 hi,QQ1,Qon a.1 a.2 _ h1.1,Qon b.1 b.2 _ h2.1,Qf3 a.1 a.2 _ h1.2,Qf3 b.1 b.2 _ h2.2,QCS,QCF,QQ0,hF,f2,fA]
    simp only[Qo8,jG]
    generalize yM a b (i:Int)=v at*
    generalize QZ (i:Int) a.1=x at*
    generalize QZ (i:Int) b.1=y at*
    obtain⟨x1,x2,x3,x4,x5,xb⟩:=x
    obtain⟨y1,y2,y3,y4,y5,yb⟩:=y
    simp only[Yo]at*
    rcases hx with⟨hx,rfl⟩|⟨hx,rfl⟩<;>rcases hy with⟨hy,rfl⟩|⟨hy,rfl⟩
    ·rw[QGj]at hE
     generalize Vx (y1,y2,y3,y4,y5) (x1,x2,x3,x4,x5)=c at*
     cases hc:decide (0<c)<;>rw[hc]at hE<;>simp only[QQ1,QQ2]at hE<;>subst hE<;>cases decide (0<Zp a b (i:Int))<;>simp only[QQ3,QQ1,QQ2]
     all_goals(cases decide (Zp a b (i:Int)<_)<;>simp only[i0,i1,i2,i3,QRc,QRe,QRv,QQ1,QQ2])
    ·rw[hy,QHT hx]at hE
     subst hE
     cases decide (0<Zp a b (i:Int))<;>simp only[QQ3,QQ4,QQ1,QQ2]
     all_goals(cases decide (Zp a b (i:Int)<_)<;>simp only[i0,i1,i2,i3,QRc,QRe,QRv,QQ1,QQ2])
    ·rw[hx,QHW hy]at hE
     subst hE
     cases decide (0<Zp a b (i:Int))<;>simp only[QQ3,QQ4,QQ1,QQ2]
     all_goals(cases decide (Zp a b (i:Int)<_)<;>simp only[i0,i1,i2,i3,QRc,QRe,QRv,QQ1,QQ2])
    ·rw[hx,hy]at hE
     have h0:v.1=0:=by
      rcases QzZ (0,0,0,0,ByteArray.empty) (0,0,0,0,ByteArray.empty)with h|h<;>rw[hE,h]
     have h0':decide (Zp a b (i:Int)<v.1)=false:=df (by omega)
     rw[h0']
     cases decide (0<Zp a b (i:Int))<;>simp only[i0,i1,QQ4,QRc,QRe,QRv,QQ1,QQ2])
  (fun s _=>by
    apply QiL
    simp[Qfm]) ([],[]) (by simp)
 simp only[QQ6,QRe,Nat.sub_zero]at e
 simp only[Qm0,e,QQ0,join]
theorem Qjx {x:XT}(h:X2 x=true):1<=x.1/\x.1<=1000/\0<=x.2.1/\x.2.1<=1/\0<=x.2.2.1/\x.2.2.1<=100000/\0<=x.2.2.2.1/\x.2.2.2.1<=1000/\x.2.2.2.2.size<=8:=by
 simp only[X2,inR,QQ5,QRu]at h
 obtain⟨⟨⟨⟨⟨p1,p2⟩,p3,p4⟩,p5,p6⟩,p7,p8⟩,p9⟩:=h
 omega
theorem Qzi (a:List Qf) (b:List Qa) (id:Int) (h1:a.length<=maxLen) (h2:b.length<=maxLen):Qay w (a,b,id)=some (Zl (a,b) id):=by
 apply Qza
 simp only[Qnm,Z9 a b h1 h2,Qp1 a b _ h1,Qjv a b _ h2,QQ0,Zl]
 cases h:QF (a,b)
 ·rfl
 ·rcases Qlp h id with⟨he,hb⟩|⟨he,hb⟩
  ·simp only at hb
   have hn:=Qjx (x:=Yo (QZ id a)) he
   simp only[Yo]at hn
   rw[hb,w64 (by omega) (by omega)]
   simp only[QQ3,QQ1,QQ2]
   cases decide ((QZ id a).2.1=1)<;>rfl
  ·simp only at hb
   rw[hb];rfl
theorem QuR (a:List Qf) (b:List Qa) (id:Int) (h1:a.length<=maxLen) (h2:b.length<=maxLen):QaC w (a,b,id)=some (Zl (a,b) id):=by
 apply QxB
 simp only[Qm5,Ky a b h1 h2,Qon a b _ h1,Qf3 a b _ h2,QQ0,Zl]
 cases h:QF (a,b)
 ·rfl
 ·rcases Qlp h id with⟨he,hb⟩|⟨he,hb⟩
  ·simp only at hb
   have hn:=Qjx (x:=Yo (QZ id a)) he
   simp only[Yo]at hn
   rw[hb,w64 (by omega) (by omega)]
   simp only[QQ3,QQ1,QQ2]
   by_cases h1:(QZ id a).2.1=1
   ·rw[dt h1,df (by omega)];rfl
   ·rw[df h1,dt (by omega)];rfl
  ·simp only at hb
   rw[hb];rfl
theorem Qvc (a:List Qf) (b:List Qa) (h1:a.length<=maxLen) (h2:b.length<=maxLen):xM w (a,b)=some (marksOf (a,b)):=by
 apply Qv8
 have e:=Q0 5 (fun i (s:List Qa)=>KY wl ((i:Int),a,b,s)) (fun i s=>s++(List.range' i (5 - i)).flatMap (QoZ (a,b))) (fun i s=>s.length<=i)
  (fun i hi s hs ih=>by
    apply QhA
    simp only[QbX,Qx7 hi,Qx5 hi,QQ1,Qzi a b _ h1 h2,QQ0]
    rw[Ya hi]
    simp only[QoZ,Qu (show(s.length+([((i:Int),Zl (a,b) (i:Int))]:List Qa).length)*16<=140737488351232 by simp;omega),QQ1]
    cases decide (0<Zl (a,b) (i:Int))<;>simp only[QQ1,QQ2,QRe]
    ·exact ih s (by omega)
    ·rw[ih _ (by simp;omega)];simp)
  (fun s _=>by
    apply QhA
    simp[QbX]) [] (by simp)
 simp only[QQ6,QRe,Nat.sub_zero]at e
 simp only[Qls,e,QQ0,marksOf]
theorem Qtn (a:List Qf) (b:List Qa) (h1:a.length<=maxLen) (h2:b.length<=maxLen):xH w (a,b)=some (marksOf (a,b)):=by
 apply Qww
 have e:=Q0 5 (fun i (s:List Qa)=>KZ wl ((i:Int),a,b,s)) (fun i s=>s++(List.range' i (5 - i)).flatMap (QoZ (a,b))) (fun i s=>s.length<=i)
  (fun i hi s hs ih=>by
    apply Qg9
    simp only[Qcn,Qx7 hi,Qx5 hi,QQ1,QuR a b _ h1 h2,QQ0]
    rw[Ya hi]
    simp only[QoZ,Qu (show(s.length+([((i:Int),Zl (a,b) (i:Int))]:List Qa).length)*16<=140737488351232 by simp;omega),QQ1]
    cases decide (0<Zl (a,b) (i:Int))<;>simp only[QQ1,QQ2,QRe]
    ·exact ih s (by omega)
    ·rw[ih _ (by simp;omega)];simp)
  (fun s _=>by
    apply Qg9
    simp[Qcn]) [] (by simp)
 simp only[QQ6,QRe,Nat.sub_zero]at e
 simp only[Qlo,e,QQ0,marksOf]
theorem QuL (b:List Qa) (hb:b.length<=maxLen):jg w b=some (QO (-1) b):=by
 apply Qvp
 have e:=Q3 b.length (fun i=>Vb wl (b,b,((b.length:Nat):Int),(i:Int))) (fun i=>if QO (xy b i) (b.drop i)then .inr ()else .inl false)
  (fun i hi ih=>by
    apply Qia
    simp only[QeA,ilt hi,Qj hi,Qg hi,inc hi hb,QQ1,ih,Qid,Xi,QQ0]
    rw[QRa hi,QO,QjD b hi]
    rcases Nat.eq_zero_or_pos i with h0|h0
    ·subst h0
     cases h1:inR b[0].1 0 4
     ·simp
     ·have:=Qfb h1
      simp only[Qp3,QQ2,QQ3,xy,if_true,dt this,QRd,QRn]
      cases inR b[0].2 1 1000<;>simp
    ·have hi':i - 1<b.length:=by omega
     simp only[ipos h0,QQ1,QqZ h0 (by omega),Qj hi',Qg hi',Qm2 b h0 hi',yk]
     cases inR b[i].1 0 4<;>cases inR b[i].2 1 1000<;>cases decide (b[i - 1].1<b[i].1)<;>simp)
  (by
    apply Qia
    simp only[QeA,Qo,QQ2,QRl,QO,if_true])
 simp only[QQ6,QRg,xy,if_true]at e
 simp only[Qlt,e,QQ0]
 cases QO (-1) b<;>simp[Qn]
theorem Qto (b:List Qa) (hb:b.length<=maxLen):jW w b=some (QO (-1) b):=by
 apply Qwl
 have e:=Q3 b.length (fun i=>K9 wl (b,(i:Int))) (fun i=>if QO (xy b i) (b.drop i)then .inr ()else .inl false)
  (fun i hi ih=>by
    apply Qh3
    simp only[QbW,ilt hi,Qj hi,Qg hi,inc hi hb,QQ1,ih,QgN,XN,QQ0]
    rw[QRa hi,QO,QjD b hi]
    rcases Nat.eq_zero_or_pos i with h0|h0
    ·subst h0
     cases h1:inR b[0].1 0 4
     ·simp
     ·have:=Qfb h1
      simp only[Qp3,QQ2,QQ3,xy,if_true,dt this,QRd,QRn]
      cases inR b[0].2 1 1000<;>simp
    ·have hi':i - 1<b.length:=by omega
     simp only[ipos h0,QQ1,QqZ h0 (by omega),Qj hi',Qg hi',Qm2 b h0 hi',yk]
     cases inR b[i].1 0 4<;>cases inR b[i].2 1 1000<;>cases decide (b[i - 1].1<b[i].1)<;>simp)
  (by
    apply Qh3
    simp only[QbW,Qo,QQ2,QRl,QO,if_true])
 simp only[QQ6,QRg,xy,if_true]at e
 simp only[Qk7,e,QQ0]
 cases QO (-1) b<;>simp[Qn]
def ji (t:X3):Bool:=bif decide (((t.1.length:Nat):Int)=0)then decide (t.2=0)else(t.1.all fun x=>inR x 0 1023)&&decide (((t.1.length:Nat):Int)=4)&&inR t.2 0 1023
theorem QHs (l:List Int) (r:Int) (h:l.length<=maxLen):Qf9 w (l,r)=some (ji (l,r)):=by
 apply Qzf
 have e:=Q3 l.length (fun i=>xT wl (l,((l.length:Nat):Int),(i:Int),l,r)) (fun i=>if(l.drop i).all (fun x=>inR x 0 1023)then .inr (l,r)else .inl false)
  (fun i hi ih=>by
    apply Qjf
    rw[ZY (fun x=>inR x 0 1023) l _ _ hi]
    simp only[Qfs,ilt hi,Qj hi,Qg hi,inc hi h,QQ1,Xi,QQ0,ih]
    cases inR l[i] 0 1023<;>simp)
  (by
    apply Qjf
    simp[Qfs])
 simp only[QQ6,QRg]at e
 simp only[QmN,e,QQ0,Xi,ji]
 cases decide (((l.length:Nat):Int)=0)
 ·cases l.all fun x=>inR x 0 1023
  ·simp[Qn]
  ·simp only[if_true,Qn,QY0,QQ2,QRd]
   cases decide (((l.length:Nat):Int)=4)<;>simp
 ·simp
theorem Qql (l:List Int) (m hi:Int) (h:l.length<=maxLen):zb w (l,m,hi)=some (decide (((l.length:Nat):Int)<=m)&&l.all fun x=>inR x 0 hi):=by
 apply QvY
 have e:=Q3 l.length (fun i=>J7 wl (l,hi,(i:Int))) (fun i=>if(l.drop i).all (fun x=>inR x 0 hi)then .inr ()else .inl false)
  (fun i hi' ih=>by
    apply Qh9
    rw[ZY (fun x=>inR x 0 hi) l _ _ hi']
    simp only[QeK,ilt hi',Qj hi',Qg hi',inc hi' h,QQ1,XN,QQ0,ih]
    cases inR l[i] 0 hi<;>simp)
  (by
    apply Qh9
    simp[QeK])
 simp only[QQ6,QRg]at e
 simp only[Qmq,e,QQ0]
 by_cases hl:((l.length:Nat):Int)<=m
 ·simp only[df (show¬m<((l.length:Nat):Int) by omega),QQ2,dt hl,QRd]
  cases l.all fun x=>inR x 0 hi<;>simp[Qn]
 ·simp only[dt (show m<((l.length:Nat):Int) by omega),QQ1,df hl,QRm]
theorem QFz (l:List Int) (r:Int) (h:l.length<=maxLen):Qek w (l,r)=some (ji (l,r)):=by
 apply QvH
 simp only[Qlg,Qql l 4 1023 h,XN,QQ0,ji]
 cases decide (((l.length:Nat):Int)=0)
 ·by_cases h4:((l.length:Nat):Int)=4
  ·simp only[QQ2,dt h4,QQ1,dt (show((l.length:Nat):Int)<=4 by omega),QRd,QRn]
   cases l.all fun x=>inR x 0 1023<;>simp
  ·simp only[QQ2,df h4,QY13,QRm]
 ·simp
def okL:Int->List Int->Bool
 |_,[]=>true
 |p,x::l=>inR x 0 3&&decide (p<x)&&okL x l
def QdQ:Int->List Int->Bool
 |_,[]=>true
 |p,x::l=>decide (p<x)&&QdQ x l
theorem Qv3:(p:Int)->(l:List Int)->okL p l=((l.all fun x=>inR x 0 3)&&QdQ p l)
 |p,[]=>rfl
 |p,x::l=>by
  rw[okL,Qv3 x l,QY29,QdQ]
  cases inR x 0 3<;>cases decide (p<x)<;>cases(l.all fun x=>inR x 0 3)<;>cases QdQ x l<;>rfl
theorem Qsi:(p:Int)->(l:List Int)->okL p l=true-> -1<=p->(l.length:Int)<=3 - p\/l=[]
 |p,[],_,_=> .inr rfl
 |p,x::l,h,hp=>by
  simp only[okL,QQ5,inR,QRu]at h
  left
  rcases Qsi x l h.2 (by omega)with h5|h5
  ·simp only[QY1];omega
  ·subst h5;simp;omega
def QpW (b:List Int) (i:Nat):Int:=if i=0 then -1 else b.getD (i - 1) 0
theorem QFE (b:List Int) {i:Nat}(h:i<b.length):QpW b (i+1)=b[i]:=by simp[QpW,List.getD,h]
theorem QHG (b:List Int) {i:Nat}(h0:0<i) (h:i - 1<b.length):QpW b i=b[i - 1]:=by
 simp[QpW,List.getD,h,show¬i=0 by omega]
theorem QHP {n k:Int}(h:inR n 0 k=true): -1<n:=by
 simp[inR]at h;omega
def yY (a0 a1 a2 a3 a4:Int) (a5:List Int) (a6:Int) (a7 a8:List Int) (a9:List Qf) (a10 a11:List Qa):Bool:=inR a0 0 5&&inR a1 0 4&&inR a2 0 4&& !decide (a1=a2)&&okL (-1) a8&&(a7.all fun x=>inR x 0 100000)&&inR a3 0 100000&&inR a4 0 100000&&ji (a5,a6)&&decide (((a7.length:Nat):Int)<=5)&&QF (a9,a10)&&QO (-1) a11
def smM (a5 a7 a8:List Int) (a9:List Qf) (a10 a11:List Qa):Prop:=a5.length<=maxLen/\a7.length<=maxLen/\a8.length<=maxLen/\a9.length<=maxLen/\a10.length<=maxLen/\a11.length<=maxLen
theorem Qur (a0 a1 a2 a3 a4:Int) (a5:List Int) (a6:Int) (a7 a8:List Int) (a9:List Qf) (a10 a11:List Qa) (h:smM a5 a7 a8 a9 a10 a11):zQ w (a0,a1,a2,a3,a4,a5,a6,a7,a8,a9,a10,a11)=some (yY a0 a1 a2 a3 a4 a5 a6 a7 a8 a9 a10 a11):=by
 obtain⟨h5,h7,h8,h9,h10,h11⟩:=h
 apply QAt
 have e0:=Q3 a8.length (fun i=>JN wl (a8,((a8.length:Nat):Int),(i:Int),a0,a1,a2,a3,a4,a5,a6,a7,a8,a9,a10,a11)) (fun i=>if okL (QpW a8 i) (a8.drop i)then .inr (a0,a1,a2,a3,a4,a5,a6,a7,a8,a9,a10,a11)else .inl false)
  (fun i hi ih=>by
    apply QkZ
    simp only[Qis,ilt hi,Qj hi,Qg hi,inc hi h8,QQ1,ih,Xi,QQ0]
    rw[QRa hi,okL,QFE a8 hi]
    rcases Nat.eq_zero_or_pos i with h0|h0
    ·subst h0
     cases h1:inR a8[0] 0 3
     ·simp
     ·have:=QHP h1
      simp only[Qp3,QQ2,QQ3,QpW,if_true,dt this,QRd,QRn]
    ·have hi':i - 1<a8.length:=by omega
     simp only[ipos h0,QQ1,QqZ h0 (by omega),Qj hi',Qg hi',QHG a8 h0 hi',yk]
     cases inR a8[i] 0 3<;>cases decide (a8[i - 1]<a8[i])<;>simp)
  (by
    apply QkZ
    simp only[Qis,Qo,QQ2,QRl,okL,if_true])
 have e2:=Q3 a7.length (fun i=>zS wl (a7,((a7.length:Nat):Int),(i:Int),a0,a1,a2,a3,a4,a5,a6,a7,a8,a9,a10,a11)) (fun i=>if(a7.drop i).all (fun x=>inR x 0 100000)then .inr (a0,a1,a2,a3,a4,a5,a6,a7,a8,a9,a10,a11)else .inl false)
  (fun i hi ih=>by
    apply Qk2
    rw[ZY (fun x=>inR x 0 100000) a7 _ _ hi]
    simp only[Qiq,ilt hi,Qj hi,Qg hi,inc hi h7,QQ1,Xi,QQ0,ih]
    cases inR a7[i] 0 100000<;>simp)
  (by
    apply Qk2
    simp[Qiq])
 simp only[QQ6,QRg,QpW,if_true]at e0 e2
 simp only[Qox,e0,Xi,Qid,QQ0,yY]
 cases inR a0 0 5
 ·simp
 cases inR a1 0 4
 ·simp
 cases inR a2 0 4
 ·simp
 cases decide (a1=a2)
 case true=>simp
 simp only[QQ3,QQ4,QQ2,QRd]
 cases okL (-1) a8
 ·simp[Qn]
 simp only[if_true,Qn,QY0,e2,QQ0,QRd]
 cases a7.all fun x=>inR x 0 100000
 ·simp
 simp only[if_true,QY0,QRd,QHs a5 a6 h5,Z9 a9 a10 h9 h10,QuL a11 h11,QQ0]
 cases inR a3 0 100000<;>cases inR a4 0 100000<;>cases ji (a5,a6)<;>cases decide (((a7.length:Nat):Int)<=5)<;>cases QF (a9,a10)<;>cases QO (-1) a11<;>rfl
theorem QG6 (a0 a1 a2 a3 a4:Int) (a5:List Int) (a6:Int) (a7 a8:List Int) (a9:List Qf) (a10 a11:List Qa) (h8:a8.length<=maxLen):JT wl (1,a0,a1,a2,a3,a4,a5,a6,a7,a8,a9,a10,a11)=some (bif QdQ (a8.getD 0 0) (a8.drop 1)then .inr ()else .inl false):=by
 cases hc:a8 with
 |nil=>
  apply Qa4
  simp[QaS,QdQ]
 |cons x l=>
  rw[<-hc]
  have hlen:a8.length=l.length+1:=by rw[hc];rfl
  have e:=Q3 l.length (fun j=>JT wl (((j+1:Nat):Int),a0,a1,a2,a3,a4,a5,a6,a7,a8,a9,a10,a11)) (fun j=>bif QdQ (a8.getD j 0) (a8.drop (j+1))then .inr ()else .inl false)
   (fun j hj ih=>by
     apply Qa4
     have hi:j+1<a8.length:=by omega
     have hi':j<a8.length:=by omega
     have hd:=QqZ (i:=j+1) (by omega) (by omega)
     rw[show j+1 - 1=j by omega]at hd
     have hg:a8.getD (j+1) 0=a8[j+1]:=by simp[List.getD,hi]
     have hg':a8.getD j 0=a8[j]:=by simp[List.getD,hi']
     rw[hg]at ih
     simp only[QaS,ilt hi,Qj hi,Qg hi,inc hi h8,hd,Qj hi',Qg hi',QQ1,ih,yk]
     rw[QRa hi,QdQ,hg']
     cases decide (a8[j]<a8[j+1])<;>simp)
   (by
     apply Qa4
     rw[<-hlen]
     simp only[QaS,Qo,QQ2,QRl,QdQ,QQ1])
  exact e
theorem QqW (a0 a1 a2 a3 a4:Int) (a5:List Int) (a6:Int) (a7 a8:List Int) (a9:List Qf) (a10 a11:List Qa) (h:smM a5 a7 a8 a9 a10 a11):zr w (a0,a1,a2,a3,a4,a5,a6,a7,a8,a9,a10,a11)=some (yY a0 a1 a2 a3 a4 a5 a6 a7 a8 a9 a10 a11):=by
 obtain⟨h5,h7,h8,h9,h10,h11⟩:=h
 apply QAD
 simp only[QoE,XN,QgN,QFz a5 a6 h5,Qql a7 5 100000 h7,Qql a8 4 3 h8,Ky a9 a10 h9 h10,Qto a11 h11,QG6 a0 a1 a2 a3 a4 a5 a6 a7 a8 a9 a10 a11 h8,QQ0,yY]
 have key:okL (-1) a8=(decide (((a8.length:Nat):Int)<=4)&&(a8.all fun x=>inR x 0 3)&&QdQ (a8.getD 0 0) (a8.drop 1)):=by
  cases hk:okL (-1) a8
  ·rw[Qv3]at hk
   cases ha:a8.all fun x=>inR x 0 3
   ·simp
   ·rw[ha]at hk
    simp only[QRd]at hk
    cases hc:a8 with
    |nil=>rw[hc]at hk;simp[QdQ]at hk
    |cons x l=>
     rw[hc]at hk ha
     simp only[QY29,QQ5]at ha
     have:=QHP ha.1
     simp only[QdQ,dt this,QRd]at hk
     simp[hk]
  ·have hl:=Qsi _ _ hk (by omega)
   have hl4:((a8.length:Nat):Int)<=4:=by
    rcases hl with h|h
    ·omega
    ·rw[h];simp
   rw[Qv3]at hk
   simp only[QQ5]at hk
   rw[dt hl4,hk.1]
   cases hc:a8 with
   |nil=>rfl
   |cons x l=>
    have:=hk.2
    rw[hc]at this
    simp only[QdQ,QQ5]at this
    simp[this.2]
 rw[key]
 cases inR a0 0 5
 case false=>simp
 cases inR a1 0 4
 case false=>simp
 cases inR a2 0 4
 case false=>simp
 cases decide (a1=a2)
 case true=>simp
 cases inR a3 0 100000
 case false=>simp
 cases inR a4 0 100000
 case false=>simp
 cases ji (a5,a6)
 case false=>simp
 cases decide (((a7.length:Nat):Int)<=5)
 case false=>simp
 cases a7.all fun x=>inR x 0 100000
 case false=>simp
 cases decide (((a8.length:Nat):Int)<=4)
 case false=>simp
 cases a8.all fun x=>inR x 0 3
 case false=>simp
 cases QF (a9,a10)
 case false=>simp
 cases QO (-1) a11
 case false=>simp
 cases QdQ (a8.getD 0 0) (a8.drop 1)<;>rfl
theorem Qdf:(p:Int)->(l:List Qa)->QO p l=true->∀x∈l,inR x.1 0 4=true/\inR x.2 1 1000=true
 |_,[],_=>by simp
 |p,x::l,h=>by
  simp only[QO,QQ5]at h
  intro y hy
  rcases QRk.1 hy with rfl|hy
  ·exact⟨h.1.1.1,h.1.1.2⟩
  ·exact Qdf _ l h.2 y hy
theorem lenW' {α:Type}{ns:List α}(h:ns.length<=maxLen):wR (((ns.length:Nat):Int) - 1)=((ns.length:Nat):Int) - 1:=by
 simp only[maxLen]at h
 exact w64 (by omega) (by omega)
def Qd0 (r:List Int):List Qa->List Int
 | []=>r
 |m::l=>Qd0 (r.set m.1.toNat (mxI (rd1 0 r m.1) m.2)) l
def Vp (t:List (List Int)) (k:Int) (l:List Qa):List (List Int):=bif inR k 0 ((t.length:Nat) - 1)&&(QO (-1) l&& !decide (((List.length (rd1 ([]:List Int) t k):Nat):Int)<5))then t.set k.toNat (Qd0 (rd1 ([]:List Int) t k) l)else t
theorem Qqx {x:Int}{n:Nat}(h:inR x 0 4=true) (hn:5<=n):∃i:Nat,x=(i:Int)/\i<n:=by
 simp only[inR,QQ5,QRu]at h
 exact⟨x.toNat,by omega,by omega⟩
theorem Qs7 (t:List (List Int)) (k:Int) (l:List Qa) (h:Xu t<=4294967296) (hl:l.length<=maxLen):Vm w (t,k,l)=some (Vp t k l):=by
 apply QtM
 have ht:t.length<=maxLen:=by simp only[Xu]at h;simp only[maxLen];omega
 simp only[QiS,QrB t h,lenW' ht,Xi,QuL l hl,QQ0,Vp]
 cases hk:inR k 0 ((t.length:Nat) - 1)
 ·rfl
 ·obtain⟨j,rfl,hj⟩:=V0 hk
  cases ho:QO (-1) l
  ·rfl
  ·simp only[Qj hj,QQ1,QQ3,QQ2,QRd]
   by_cases h5:((List.length (rd1 ([]:List Int) t (j:Int)):Nat):Int)<5
   ·rw[dt h5];rfl
   ·rw[df h5]
    have hm:=Qdf _ _ ho
    have e:=Q0 l.length (fun i (s:List (List Int))=>Js wl ((j:Int),l,((l.length:Nat):Int),(i:Int),s)) (fun i s=>s.set j (Qd0 (rd1 ([]:List Int) s (j:Int)) (l.drop i))) (fun i s=>s.length=t.length/\5<=(rd1 ([]:List Int) s (j:Int)).length)
     (fun i hi s hs ih=>by
       apply QeZ
       obtain⟨n,hn,hn5⟩:=Qqx (hm _ (QRf hi)).1 hs.2
       simp only[Qbp,ilt hi,Qj hi,Qg hi,inc hi hl,QQ1,Qj (show j<s.length by omega),hn,Qj hn5,QRb]
       have hr:=Kf (d:=([]:List Int)) (v:=(rd1 ([]:List Int) s (j:Int)).set n (mxI (rd1 0 (rd1 ([]:List Int) s (j:Int)) (n:Int)) l[i].2)) (show j<s.length by omega)
       rw[ih _ (by rw[hr];simp[hs])]
       rw[hr,QY20,QRa hi,Qd0,hn,QRb])
     (fun s hs=>by
       apply QeZ
       simp only[Qbp,Qo,QQ2,QRl,Qd0]
       rw[Qg (show j<s.length by omega),List.set_getElem_self])
     t (by omega)
    simp only[QQ6,QRg]at e
    simp only[e,QQ0,QQ2,QQ4,QQ1,QRb]
theorem Qre (t:List (List Int)) (k:Int) (l:List Qa) (h:Xu t<=4294967296) (hl:l.length<=maxLen):Vq w (t,k,l)=some (Vp t k l):=by
 apply Qt8
 have ht:t.length<=maxLen:=by simp only[Xu]at h;simp only[maxLen];omega
 simp only[Qjc,QzW t h,lenW' ht,XN,Qto l hl,QQ0,Vp]
 cases hk:inR k 0 ((t.length:Nat) - 1)
 ·rfl
 ·obtain⟨j,rfl,hj⟩:=V0 hk
  cases ho:QO (-1) l
  ·rfl
  ·simp only[Qj hj,QQ1,QQ3,QQ2,QRd]
   by_cases h5:((List.length (rd1 ([]:List Int) t (j:Int)):Nat):Int)<5
   ·rw[dt h5];rfl
   ·rw[df h5]
    have hm:=Qdf _ _ ho
    have e:=Q0 l.length (fun i (s:List (List Int))=>Jn wl ((j:Int),l,(i:Int),s)) (fun i s=>s.set j (Qd0 (rd1 ([]:List Int) s (j:Int)) (l.drop i))) (fun i s=>s.length=t.length/\5<=(rd1 ([]:List Int) s (j:Int)).length)
     (fun i hi s hs ih=>by
       apply QeW
       obtain⟨n,hn,hn5⟩:=Qqx (hm _ (QRf hi)).1 hs.2
       simp only[Qa2,ilt hi,Qj hi,Qg hi,inc hi hl,QQ1,Qj (show j<s.length by omega),hn,Qj hn5,QRb,QCS,QQ0]
       have hr:=Kf (d:=([]:List Int)) (v:=(rd1 ([]:List Int) s (j:Int)).set n (mxI (rd1 0 (rd1 ([]:List Int) s (j:Int)) (n:Int)) l[i].2)) (show j<s.length by omega)
       rw[ih _ (by rw[hr];simp[hs])]
       rw[hr,QY20,QRa hi,Qd0,hn,QRb])
     (fun s hs=>by
       apply QeW
       simp only[Qa2,Qo,QQ2,QRl,Qd0]
       rw[Qg (show j<s.length by omega),List.set_getElem_self])
     t (by omega)
    simp only[QQ6,QRg]at e
    simp only[e,QQ0,QQ2,QQ4,QQ1,QRb]
def Qkf (id:Int):Nat->Int->List (List Int)->Int⊕Int
 |_,m,[]=> .inr m
 |k,m,r::l=>bif inR id 0 ((r.length:Nat) - 1)then(bif decide (k=0)||decide (rd1 0 r id<m)then Qkf id (k+1) (rd1 0 r id) l else Qkf id (k+1) m l)else .inl 0
def common (t:List (List Int)) (id:Int):Int:=Sum.elim (fun u=>u) (fun z=>z) (Qkf id 0 0 t)
theorem QIc (t:List (List Int)) (id:Int) (ht:t.length<=maxLen) (hr:∀r∈t,r.length<=maxLen):Qf1 w (t,id)=some (common t id):=by
 apply Qy7
 have e:=Q0 t.length (fun i (m:Int)=>Ke wl (id,m,t,((t.length:Nat):Int),(i:Int))) (fun i m=>Qkf id i m (t.drop i)) (fun _ _=>True)
  (fun i hi m _ ih=>by
    apply Qji
    simp only[Qfj,ilt hi,Qj hi,Qg hi,inc hi ht,QQ1,lenW' (hr _ (QRf hi)),Xi,QQ0]
    rw[QRa hi,Qkf]
    cases hk:inR id 0 ((t[i].length:Nat) - 1)
    ·rfl
    ·obtain⟨j,rfl,hj⟩:=V0 hk
     simp only[QQ3,QQ1,QQ2,Qj hj]
     by_cases h0:i=0
     ·rw[dt (show(i:Int)=0 by omega),dt h0];simp only[QQ1,Bool.true_or];exact ih _ trivial
     ·rw[df (show¬(i:Int)=0 by omega),df h0]
      cases decide (rd1 0 t[i] (j:Int)<m)<;>exact ih _ trivial)
  (fun m _=>by
    apply Qji
    simp only[Qfj,Qo,QQ2,QRl,Qkf]) 0 trivial
 simp only[QQ6,QRg]at e
 simp only[QmR,e,QQ0,common]
 cases Qkf id 0 0 t<;>rfl
theorem QG4 (t:List (List Int)) (id:Int) (ht:t.length<=maxLen) (hr:∀r∈t,r.length<=maxLen):Qgp w (t,id)=some (common t id):=by
 apply QxZ
 have e:=Q0 t.length (fun i (m:Int)=>Kk wl (t,id,m,(i:Int))) (fun i m=>Qkf id i m (t.drop i)) (fun _ _=>True)
  (fun i hi m _ ih=>by
    apply Qja
    simp only[QfK,ilt hi,Qj hi,Qg hi,inc hi ht,QQ1,lenW' (hr _ (QRf hi)),XN,QQ0]
    rw[QRa hi,Qkf]
    cases hk:inR id 0 ((t[i].length:Nat) - 1)
    ·rfl
    ·obtain⟨j,rfl,hj⟩:=V0 hk
     simp only[QQ3,QQ1,QQ2,Qj hj]
     by_cases h0:i=0
     ·rw[dt (show(i:Int)=0 by omega),dt h0];simp only[QQ1,Bool.true_or];exact ih _ trivial
     ·rw[df (show¬(i:Int)=0 by omega),df h0]
      cases decide (rd1 0 t[i] (j:Int)<m)<;>exact ih _ trivial)
  (fun m _=>by
    apply Qja
    simp only[QfK,Qo,QQ2,QRl,Qkf]) 0 trivial
 simp only[QQ6,QRg]at e
 simp only[Qm8,e,QQ0,common]
 by_cases h0:((t.length:Nat):Int)=0
 ·rw[dt h0]
  obtain rfl:t=[]:=List.length_eq_zero_iff.1 (by omega)
  rfl
 ·rw[df h0]
  cases Qkf id 0 0 t<;>rfl
def Qj0 (s:Qk) (t:List (List Int)) (i:Nat):List Qa:=bif decide (0<mnI (common t (i:Int)) (Zl s (i:Int)))then [((i:Int),mnI (common t (i:Int)) (Zl s (i:Int)))]else []
def Qo1 (s:Qk) (t:List (List Int)):Qk:=([],(List.range' 0 5).flatMap (Qj0 s t))
def prune (s:Qk) (t:List (List Int)):Qk:=bif QF s then join s (Qo1 s t)else s
theorem Qol (s:Qk) (t:List (List Int)):QF (Qo1 s t)=true:=by
 simp only[QF,QQ5]
 refine⟨yf _ (fun i hi=> ?_) 5 0 (-1) (by omega) (by simp),rfl⟩
 have h:=Qxp s (i:Int)
 unfold Qj0
 by_cases h0:0<mnI (common t (i:Int)) (Zl s (i:Int))
 ·refine Or.inr ⟨mnI (common t (i:Int)) (Zl s (i:Int)),by simp[h0], ?_⟩
  have:mnI (common t (i:Int)) (Zl s (i:Int))<=Zl s (i:Int):=by unfold mnI;split<;>omega
  simp[inR];omega
 ·exact Or.inl (by simp[h0])
theorem QFp {s:Qk}(h:QF s=true) (t:List (List Int)):QF (prune s t)=true:=by
 unfold prune;rw[h];exact zm h (Qol s t)
theorem QI2 (s:Qk) (t:List (List Int)) (hs:smS s) (hz:QH s<=4294967296) (ht:t.length<=maxLen) (hr:∀r∈t,r.length<=maxLen):Qb0 w (s.1,s.2,t)=some (prune s t):=by
 apply QAb
 simp only[Qo3,Z9 s.1 s.2 hs.1 hs.2,jK s hz,QQ0,prune]
 cases h:QF s
 ·rfl
 ·have e:=Q0 5 (fun i (f:List Qa)=>JU wl (t,(i:Int),s.1,s.2,[],f)) (fun i f=>(s.1,s.2,([]:List Qf),f++(List.range' i (5 - i)).flatMap (Qj0 s t))) (fun i f=>f.length<=i)
   (fun i hi f hf ih=>by
     apply QlK
     simp only[Qiz,Qx7 hi,Qx5 hi,QQ1,QIc t _ ht hr,Qzi s.1 s.2 _ hs.1 hs.2,QQ0]
     rw[Ya hi]
     simp only[Qj0,Qu (show(f.length+([((i:Int),mnI (common t (i:Int)) (Zl s (i:Int)))]:List Qa).length)*16<=140737488351232 by simp;omega),QQ1]
     cases decide (0<mnI (common t (i:Int)) (Zl s (i:Int)))<;>simp only[QQ1,QQ2,QRe]
     ·exact ih f (by omega)
     ·rw[ih _ (by simp;omega)];simp)
   (fun f _=>by
     apply QlK
     simp[Qiz]) [] (by simp)
  simp only[QQ6,QRe,Nat.sub_zero]at e
  simp only[e,QQ0,QQ3,QQ2,QQ1]
  have:=Qcz s (Qo1 s t) hs (ZQ (Qol s t))
  simp only[Qo1]at this⊢
  simp only[this,QQ0]
theorem QH3 (s:Qk) (t:List (List Int)) (hs:smS s) (hz:QH s<=4294967296) (ht:t.length<=maxLen) (hr:∀r∈t,r.length<=maxLen):QcF w (s.1,s.2,t)=some (prune s t):=by
 apply QAC
 simp only[Qpk,Ky s.1 s.2 hs.1 hs.2,Qhz s hz,QQ0,prune]
 cases h:QF s
 ·rfl
 ·have e:=Q0 5 (fun i (f:List Qa)=>JO wl (t,(i:Int),s.1,s.2,[],f)) (fun i f=>(s.1,s.2,([]:List Qf),f++(List.range' i (5 - i)).flatMap (Qj0 s t))) (fun i f=>f.length<=i)
   (fun i hi f hf ih=>by
     apply QlD
     simp only[Qiy,Qx7 hi,Qx5 hi,QQ1,QG4 t _ ht hr,QuR s.1 s.2 _ hs.1 hs.2,QBC,QQ0]
     rw[Ya hi]
     simp only[Qj0,Qu (show(f.length+([((i:Int),mnI (common t (i:Int)) (Zl s (i:Int)))]:List Qa).length)*16<=140737488351232 by simp;omega),QQ1]
     cases decide (0<mnI (common t (i:Int)) (Zl s (i:Int)))<;>simp only[QQ1,QQ2,QRe]
     ·exact ih f (by omega)
     ·rw[ih _ (by simp;omega)];simp)
   (fun f _=>by
     apply QlD
     simp[Qiy]) [] (by simp)
  simp only[QQ6,QRe,Nat.sub_zero]at e
  simp only[e,QQ0,QQ3,QQ2,QQ1]
  have:=QnQ s (Qo1 s t) h (Qol s t)
  simp only[Qo1]at this⊢
  simp only[this,QQ0]
def ZG (v:List Int) (k n:Int):List Int:=bif inR k 0 ((v.length:Nat) - 1)then v.set k.toNat (mxI (rd1 0 v k) n)else v
theorem Qtv (v:List Int) (k n:Int) (h:v.length<=4294967296):JS w (v,k,n)=some (ZG v k n):=by
 apply QtQ
 have ht:v.length<=maxLen:=by simp only[maxLen];omega
 simp only[Qi1,Qa8 v h,lenW' ht,Xi,QQ0,ZG]
 cases hk:inR k 0 ((v.length:Nat) - 1)
 ·rfl
 ·obtain⟨j,rfl,hj⟩:=V0 hk
  simp only[Qj hj,QQ1]
theorem QrE (v:List Int) (k n:Int) (h:v.length<=4294967296):JM w (v,k,n)=some (ZG v k n):=by
 apply Quf
 have ht:v.length<=maxLen:=by simp only[maxLen];omega
 simp only[Qjo,QY6,QRe,QRo,Qu (show v.length*8<=140737488351232 by omega),lenW' ht,XN,QQ0,ZG,QQ1]
 cases hk:inR k 0 ((v.length:Nat) - 1)
 ·rfl
 ·obtain⟨j,rfl,hj⟩:=V0 hk
  simp only[Qj hj,QQ1,Qg hj,QRb]
  by_cases hn:v[j]<n
  ·rw[dt hn];simp only[QQ1];congr 2;unfold mxI;split<;>omega
  ·rw[df hn];simp only[QQ2]
   have:mxI v[j] n=v[j]:=by unfold mxI;split<;>omega
   rw[this,List.set_getElem_self]
def QkC (a b:List Int) (i:Nat):List Int:=bif decide (((a.length:Nat):Int)=4)&&decide (((b.length:Nat):Int)=4)&&decide (rd1 0 a (i:Int)=rd1 0 b (i:Int))then []else [(i:Int)]
def differ (a:List Int) (ra:Int) (b:List Int) (rb:Int):List Int:=bif decide (ra=rb)then []else(List.range' 0 4).flatMap (QkC a b)
theorem QMr {i:Nat}(h:i<4):wR ((i:Int)+1)=((i+1:Nat):Int):=by
 rw[w64 (by omega) (by omega)];omega
theorem QzX (a:List Int) (ra:Int) (b:List Int) (rb:Int):Qap w (a,ra,b,rb)=some (differ a ra b rb):=by
 apply QyM
 have e:=fun wh (hw:wh=(decide (((a.length:Nat):Int)=4)&&decide (((b.length:Nat):Int)=4)))=>Q0 4 (fun i (f:List Int)=>Yj wl (wh,(i:Int),a,ra,b,rb,f)) (fun i f=>f++(List.range' i (4 - i)).flatMap (QkC a b)) (fun i f=>f.length<=i)
  (fun i hi f hf ih=>by
    apply QiR
    have hf:fits (f.length+([(i:Int)]:List Int).length) 8=true:=Qu (by simp;omega)
    simp only[Qfv,QFr hi,QMr hi,QQ1,hf]
    rw[Ya hi]
    simp only[QkC,<-hw]
    cases wh
    ·simp only[QQ4,QQ1,QRm,QQ2]
     rw[ih _ (by simp;omega)];simp
    ·have hw':=hw.symm
     simp only[QQ5,QRu]at hw'
     simp only[QQ3,QQ2,Qj (show i<a.length by omega),Qj (show i<b.length by omega),QQ1,QRd]
     cases decide (rd1 0 a (i:Int)=rd1 0 b (i:Int))<;>simp only[QQ3,QQ4,QQ1,QQ2,QRe]
     ·rw[ih _ (by simp;omega)];simp
     ·exact ih f (by omega))
  (fun f _=>by
    apply QiR
    simp[Qfv]) [] (by simp)
 simp only[QQ6,QRe,Nat.sub_zero]at e
 simp only[QnM,differ]
 cases decide (ra=rb)
 ·by_cases h4:((a.length:Nat):Int)=4
  ·rw[dt h4];simp only[QQ1,QQ2]
   rw[e _ (by rw[dt h4,QRd])];rfl
  ·rw[df h4];simp only[QQ2]
   rw[e _ (by rw[df h4,QRm])];rfl
 ·rfl
theorem Qw2 (a:List Int) (ra:Int) (b:List Int) (rb:Int):Qaz w (a,ra,b,rb)=some (differ a ra b rb):=by
 apply Qyp
 have e:=Q0 4 (fun i (f:List Int)=>Yi wl ((i:Int),a,ra,b,rb,f)) (fun i f=>f++(List.range' i (4 - i)).flatMap (QkC a b)) (fun i f=>f.length<=i)
  (fun i hi f hf ih=>by
    apply Qjg
    have hf:fits (f.length+([(i:Int)]:List Int).length) 8=true:=Qu (by simp;omega)
    simp only[Qfg,QFr hi,QMr hi,QQ1,hf]
    rw[Ya hi]
    simp only[QkC]
    by_cases h4:((a.length:Nat):Int)=4
    ·by_cases h4':((b.length:Nat):Int)=4
     ·simp only[dt h4,dt h4',QQ3,QQ2,Qj (show i<a.length by omega),Qj (show i<b.length by omega),QQ1,QRd]
      cases decide (rd1 0 a (i:Int)=rd1 0 b (i:Int))<;>simp only[QQ3,QQ4,QQ1,QQ2,QRe]
      ·rw[ih _ (by simp;omega)];simp
      ·exact ih f (by omega)
     ·simp only[dt h4,df h4',QQ3,QQ4,QQ2,QQ1,QY13,QRm]
      rw[ih _ (by simp;omega)];simp
    ·simp only[df h4,QQ4,QQ1,QRm,QQ2]
     rw[ih _ (by simp;omega)];simp)
  (fun f _=>by
    apply Qjg
    simp[Qfg]) [] (by simp)
 simp only[QQ6,QRe,Nat.sub_zero]at e
 simp only[QmV,differ,e]
 cases decide (ra=rb)<;>rfl
theorem Qfz {s:Qk}(h:QF s=true):QH s<=60:=by
 have hl:=Kl h
 simp only[QF,QQ5]at h
 have:=Qz4 _ _ _ h.2
 simp only[QH,XY,XL];omega
theorem QjU {α:Type}(c:α->Nat) (k:Nat):(l:List α)->(∀x∈l,c x<=k)->Qi c l<=k*l.length
 | [],_=>by simp[Qi]
 |x::l,h=>by
  have:=h x (by simp)
  have:=QjU c k l (fun y hy=>h y (by simp[hy]))
  simp only[Qi,QY1,Nat.mul_add];omega
structure NOk (x:Qc):Prop where
 n:inR x.2.1 1 5=true
 id:inR x.1 0 (x.2.1 - 1)=true
 st:QF (x.2.2.1,x.2.2.2.1)=true
 tree:(x.2.2.2.2.1,x.2.2.2.2.2.1)=Ze (x.2.2.1,x.2.2.2.1)
 log:Yu (x.2.2.2.2.2.2.1,x.2.2.2.2.2.2.2.1,x.2.2.2.2.2.2.2.2.1)=true
 got:Y7 x.2.2.2.2.2.2.2.2.2.1 x.2.1=true
 ack:Y7 x.2.2.2.2.2.2.2.2.2.2.1 x.2.1=true
 own:x.2.2.2.2.2.2.2.2.2.1.getD (x.1).toNat 0=Xr (x.2.2.2.2.2.2.1,x.2.2.2.2.2.2.2.1,x.2.2.2.2.2.2.2.2.1)
 heard:(x.2.2.2.2.2.2.2.2.2.2.1.all fun y=>decide (y<=Xr (x.2.2.2.2.2.2.1,x.2.2.2.2.2.2.2.1,x.2.2.2.2.2.2.2.2.1)))=true
 seen:KP x.2.2.2.2.2.2.2.2.2.2.2.1 x.2.1=true
 num:inR x.2.2.2.2.2.2.2.2.2.2.2.2.1 0 100000=true
 clock:inR x.2.2.2.2.2.2.2.2.2.2.2.2.2.2.2.2.2.1 0 100000=true
 wait:inR x.2.2.2.2.2.2.2.2.2.2.2.2.2.2.2.1 1 20=true
 limit:inR x.2.2.2.2.2.2.2.2.2.2.2.2.2.2.2.2.1 1 50=true
 slots:inR x.2.2.2.2.2.2.2.2.2.2.2.2.2.1 1 4=true
 room:((x.2.2.2.2.2.2.2.2.2.2.2.2.2.2.1.length:Nat):Int)<=x.2.2.2.2.2.2.2.2.2.2.2.2.2.1
 sess:Zd x.1 x.2.1 x.2.2.2.2.2.2.2.2.2.2.2.2.2.2.2.1 [] x.2.2.2.2.2.2.2.2.2.2.2.2.2.2.1=true
 rlen:((x.2.2.2.2.2.2.2.2.2.2.2.2.2.2.2.2.2.2.length:Nat):Int)=5
 rises:x.2.2.2.2.2.2.2.2.2.2.2.2.2.2.2.2.2.2.all (YG x.2.2.2.2.2.2.2.2.2.2.2.2.2.2.2.2.2.1)=true
theorem nok {x:Qc}(h:V1 x=true):NOk x:=by
 simp only[V1,Qkq,QQ5,QRu]at h
 obtain⟨⟨⟨⟨⟨⟨⟨⟨⟨⟨⟨⟨⟨⟨⟨⟨⟨⟨h1,h2⟩,h3⟩,h4⟩,h5⟩,h6⟩,h7⟩,h8⟩,h9⟩,h10⟩,h11⟩,h12⟩,h13⟩,h14⟩,h15⟩,h16⟩,h17⟩,h18⟩,h19⟩:=h
 exact⟨h1,h2,h3,h4,h5,h6,h7,h8,h9,h10,h11,h12,h13,h14,h15,h16,h17,h18,h19⟩
theorem QHp {x:Qc}(h:NOk x):V1 x=true:=by
 simp only[V1,Qkq,QQ5,QRu]
 exact⟨⟨⟨⟨⟨⟨⟨⟨⟨⟨⟨⟨⟨⟨⟨⟨⟨⟨h.n,h.id⟩,h.st⟩,h.tree⟩,h.log⟩,h.got⟩,h.ack⟩,h.own⟩,h.heard⟩,h.seen⟩,h.num⟩,h.clock⟩,h.wait⟩,h.limit⟩,h.slots⟩,h.room⟩,h.sess⟩,h.rlen⟩,h.rises⟩
theorem Xg {n a b:Int}:inR n a b=true↔a<=n/\n<=b:=by simp[inR]
theorem QgZ {v:List Int}{n:Int}(h:Y7 v n=true):((v.length:Nat):Int)=n/\∀y∈v,inR y 0 100000=true:=by
 simp only[Y7,QQ5,QRu,QRt]at h
 exact⟨h.1.2,h.2⟩
theorem QHf {g:Z8}(h:Yu g=true):∀s∈g.2.2,QF s=true:=by
 simp only[Yu,QQ5,QRt]at h
 exact h.2
theorem Qmi {t:List (List Int)}{n:Int}(h:KP t n=true):((t.length:Nat):Int)=n/\∀r∈t,zw r=true:=by
 simp only[KP,QQ5,QRu,QRt]at h
 exact⟨h.1.2,h.2⟩
theorem Qm6 {r:List Int}(h:zw r=true):r.length=5:=by
 simp only[zw,QQ5,QRu]at h
 omega
theorem XS {x:Qc}(h:NOk x):Q9 x<=2000/\QBc x:=by
 have h1:=Kl h.st
 have h2:=Qfz h.st
 have h3:x.2.2.2.2.1.length=4:=by
  have:=h.tree
  rw[Ze,h.st]at this
  have:=congrArg (fun z:X3=>z.1.length) this
  simpa[leaves]using this
 have h4:=QjH h.log
 have h5:=QHf h.log
 have h6:=QgZ h.got
 have h7:=QgZ h.ack
 have h8:=Qmi h.seen
 have hn:=Xg.1 h.n
 have hs:=Xg.1 h.slots
 have hr:=h.room
 have hl:=h.rlen
 have k1:Qi QH x.2.2.2.2.2.2.2.2.1<=60*x.2.2.2.2.2.2.2.2.1.length:=QjU _ _ _ fun s hs=>Qfz (h5 s hs)
 have k2:Qi QW x.2.2.2.2.2.2.2.2.2.2.2.1<=5*x.2.2.2.2.2.2.2.2.2.2.2.1.length:=QjU _ _ _ fun r hr=>by
  have:=Qm6 (h8.2 r hr)
  simp only[QW];omega
 try simp only at h1 h4 h5
 constructor
 ·simp only[Q9,ZD,Yl,X1,QW,Xu,Yb,Yd]
  omega
 ·refine⟨by simp only[maxLen];omega,by simp only[maxLen];omega,by simp only[maxLen];omega,by simp only[maxLen];omega,fun s hs=>ZQ (h5 s hs),by simp only[maxLen];omega,by simp only[maxLen];omega,by simp only[maxLen];omega,fun r hr=> ?_,by simp only[maxLen];omega,by simp only[maxLen];omega⟩
  have:=Qm6 (h8.2 r hr)
  simp only[maxLen];omega
theorem QE8 {x:Qc}(h:NOk x):Y3 w (n11E x)=some x:=QsY x (by have:=(XS h).1;omega)
theorem Qpo {x:Qc}(h:NOk x):XA w (n11E x)=some x:=QwM x (by have:=(XS h).1;omega)
theorem okN {x:Qc}(h:NOk x):KA w (n11E x)=some true:=by rw[<-QHp h];exact QBf x (XS h).2
theorem QQJ {x:Qc}(h:NOk x):qV w (n11E x)=some true:=by rw[<-QHp h];exact Qz1 x (XS h).2
def zC (c:Int) (rs:List QR) (x:Qf):List QR:=bif decide ((rd1 Zq rs x.1).1<x.2.1)then rs.set x.1.toNat (x.2.1,x.2.2.2.1,c)else(bif decide (x.2.1=(rd1 Zq rs x.1).1)then(bif decide ((rd1 Zq rs x.1).2.1<x.2.2.2.1)then rs.set x.1.toNat (x.2.1,x.2.2.2.1,c)else rs)else rs)
def xZ (c:Int):List QR->List Qf->List QR
 |rs,[]=>rs
 |rs,x::l=>xZ c (zC c rs x) l
theorem QlU (c:Int) (rs:List QR) (x:Qf):(zC c rs x).length=rs.length:=by
 unfold zC
 cases decide ((rd1 Zq rs x.1).1<x.2.1)<;>cases decide (x.2.1=(rd1 Zq rs x.1).1)<;>cases decide ((rd1 Zq rs x.1).2.1<x.2.2.2.1)<;>simp
theorem Qtj (c:Int):(rs:List QR)->(l:List Qf)->(xZ c rs l).length=rs.length
 |rs,[]=>rfl
 |rs,x::l=>by rw[xZ,Qtj c _ l,QlU]
theorem Qxo (fl:List Qa):(p:Int)->(l:List Qf)->Xv fl p l=true->∀x∈l,inR x.1 0 4=true/\X2 x.2=true
 |_,[],_=>by simp
 |p,x::l,h=>by
  simp only[Xv,QQ5]at h
  intro y hy
  rcases QRk.1 hy with rfl|hy
  ·exact⟨h.1.1.1.1,h.1.1.1.2⟩
  ·exact Qxo fl _ l h.2 y hy
theorem QjA {s:Qk}(h:QF s=true):∀x∈s.1,inR x.1 0 4=true/\X2 x.2=true:=by
 simp only[QF,QQ5]at h
 exact Qxo _ _ _ h.2
theorem QGk {c:Int}(hc:0<=c) {rs:List QR}(h:∀r∈rs,YG c r=true) {x:Qf}(hx:X2 x.2=true):∀r∈rs.set x.1.toNat (x.2.1,x.2.2.2.1,c),YG c r=true:=by
 intro r hr
 rcases QY38 hr with hr|rfl
 ·exact h r hr
 ·have:=Qjx hx
  simp[YG,inR];omega
theorem QEn {c:Int}(hc:0<=c) {rs:List QR}(h:∀r∈rs,YG c r=true) {x:Qf}(hx:X2 x.2=true):∀r∈zC c rs x,YG c r=true:=by
 have hs:=QGk hc h hx
 unfold zC
 cases decide ((rd1 Zq rs x.1).1<x.2.1)<;>cases decide (x.2.1=(rd1 Zq rs x.1).1)<;>cases decide ((rd1 Zq rs x.1).2.1<x.2.2.2.1)<;>simp only[QQ1,QQ2]<;>assumption
theorem QwJ {c:Int}(hc:0<=c):(rs:List QR)->(l:List Qf)->(∀r∈rs,YG c r=true)->(∀x∈l,X2 x.2=true)->∀r∈xZ c rs l,YG c r=true
 |rs,[],h,_=>h
 |rs,x::l,h,hl=>QwJ hc _ l (QEn hc h (hl x (by simp))) fun y hy=>hl y (by simp[hy])
theorem QzM:(l:List Qa)->(r:List Int)->zw r=true->(∀m∈l,inR m.2 1 1000=true)->zw (Qd0 r l)=true
 | [],r,h,_=>h
 |m::l,r,h,hl=>by
  refine QzM l _ ?_ fun y hy=>hl y (by simp[hy])
  have hm:=Xg.1 (hl m (by simp))
  simp only[zw,QQ5,QRt,QRu,QY12]at h⊢
  refine⟨fun y hy=> ?_,h.2⟩
  rcases QY38 hy with hy|rfl
  ·exact h.1 y hy
  ·have hq:0<=rd1 0 r m.1/\rd1 0 r m.1<=1000:=by
    unfold rd1
    by_cases hk:m.1.toNat<r.length
    ·have:=Xg.1 (h.1 _ (QRf hk))
     simpa[List.getD,QRp hk]using this
    ·simp[List.getD,List.getElem?_eq_none (Nat.le_of_not_lt hk)]
   rw[Xg]
   unfold mxI;split<;>omega
theorem QfU {t:List (List Int)}{n:Int}(h:KP t n=true) (k:Int) (l:List Qa):KP (Vp t k l) n=true:=by
 unfold Vp
 cases hk:inR k 0 ((t.length:Nat) - 1)
 ·exact h
 ·obtain⟨j,rfl,hj⟩:=V0 hk
  cases ho:QO (-1) l
  ·exact h
  ·simp only[QRd]
   cases(!decide (((List.length (rd1 ([]:List Int) t (j:Int)):Nat):Int)<5))
   ·exact h
   ·have hl:=Qdf _ _ ho
    simp only[KP,QQ5,QRt,QRu,QQ1,QY12]at h⊢
    refine⟨h.1,fun r hr=> ?_⟩
    rcases QY38 hr with hr|rfl
    ·exact h.2 r hr
    ·rw[Qg hj]
     exact QzM l _ (h.2 _ (QRf hj)) fun m hm=>(hl m hm).2
theorem QrM (t:List (List Int)) (k:Int) (l:List Qa):(Vp t k l).length=t.length:=by
 unfold Vp;cases(inR k 0 ((t.length:Nat) - 1)&&(QO (-1) l&& !decide (((List.length (rd1 ([]:List Int) t k):Nat):Int)<5)))<;>simp
def ZS (x:Qc) (p:Qk):List (List Int):=Vp x.2.2.2.2.2.2.2.2.2.2.2.1 x.1 (marksOf (join (x.2.2.1,x.2.2.2.1) p))
def Xj (x:Qc) (p:Qk):Qk:=prune (join (x.2.2.1,x.2.2.2.1) p) (ZS x p)
def take (x:Qc) (p:Qk):Qc:=(x.1,x.2.1,(Xj x p).1,(Xj x p).2,(Ze (Xj x p)).1,(Ze (Xj x p)).2,x.2.2.2.2.2.2.1,x.2.2.2.2.2.2.2.1,x.2.2.2.2.2.2.2.2.1,x.2.2.2.2.2.2.2.2.2.1,x.2.2.2.2.2.2.2.2.2.2.1,ZS x p,x.2.2.2.2.2.2.2.2.2.2.2.2.1,x.2.2.2.2.2.2.2.2.2.2.2.2.2.1,x.2.2.2.2.2.2.2.2.2.2.2.2.2.2.1,x.2.2.2.2.2.2.2.2.2.2.2.2.2.2.2.1,x.2.2.2.2.2.2.2.2.2.2.2.2.2.2.2.2.1,x.2.2.2.2.2.2.2.2.2.2.2.2.2.2.2.2.2.1,xZ x.2.2.2.2.2.2.2.2.2.2.2.2.2.2.2.2.2.1 x.2.2.2.2.2.2.2.2.2.2.2.2.2.2.2.2.2.2 (Xj x p).1)
theorem QmC {x:Qc}(h:NOk x) {p:Qk}(hp:QF p=true):QF (Xj x p)=true:=QFp (zm h.st hp) _
theorem QpU {x:Qc}(h:NOk x) {p:Qk}(hp:QF p=true):NOk (take x p) where
 n:=h.n
 id:=h.id
 st:=QmC h hp
 tree:=rfl
 log:=h.log
 got:=h.got
 ack:=h.ack
 own:=h.own
 heard:=h.heard
 seen:=QfU h.seen _ _
 num:=h.num
 clock:=h.clock
 wait:=h.wait
 limit:=h.limit
 slots:=h.slots
 room:=h.room
 sess:=h.sess
 rlen:=by simp only[take,Qtj];exact h.rlen
 rises:=QRt.2 (QwJ (Xg.1 h.clock).1 _ _ (QRt.1 h.rises) fun y hy=>(QjA (QmC h hp) y hy).2)
set_option maxHeartbeats 1000000 in
theorem QE2 (x:Qc) (h:NOk x) (p:Qk) (hp:QF p=true):QhP w (n11T x (p.1,p.2))=some ((take x p).1,(take x p).2.1,(take x p).2.2.1,(take x p).2.2.2.1,(take x p).2.2.2.2.1,(take x p).2.2.2.2.2.1,(take x p).2.2.2.2.2.2.1,(take x p).2.2.2.2.2.2.2.1,(take x p).2.2.2.2.2.2.2.2.1,(take x p).2.2.2.2.2.2.2.2.2.1,(take x p).2.2.2.2.2.2.2.2.2.2.1,(take x p).2.2.2.2.2.2.2.2.2.2.2.1,(take x p).2.2.2.2.2.2.2.2.2.2.2.2.1,(take x p).2.2.2.2.2.2.2.2.2.2.2.2.2.1,(take x p).2.2.2.2.2.2.2.2.2.2.2.2.2.2.1,(take x p).2.2.2.2.2.2.2.2.2.2.2.2.2.2.2.1,(take x p).2.2.2.2.2.2.2.2.2.2.2.2.2.2.2.2.1,(take x p).2.2.2.2.2.2.2.2.2.2.2.2.2.2.2.2.2.1,(take x p).2.2.2.2.2.2.2.2.2.2.2.2.2.2.2.2.2.2,true):=by
 have hsm:=XS h
 have hst:=ZQ h.st
 have hjo:=zm h.st hp
 have hjs:=ZQ hjo
 have hto:=QmC h hp
 have hts:=ZQ hto
 have hmk:(marksOf (join (x.2.2.1,x.2.2.2.1) p)).length<=maxLen:=by
  have:=xU _ _ (Qci (join (x.2.2.1,x.2.2.2.1) p)) (by omega)
  simp only[maxLen]
  rcases this with h|h
  ·omega
  ·rw[h];simp
 have hz11:Xu x.2.2.2.2.2.2.2.2.2.2.2.1<=4294967296:=(qb (x:=x) (by omega)).2.2.2
 have hsl:(ZS x p).length<=maxLen:=by rw[ZS,QrM];exact hsm.2.2.2.2.2.2.2.2.1
 have hsr:∀r∈ZS x p,r.length<=maxLen:=fun r hr=>by
  have:=Qm6 ((Qmi (QfU h.seen _ _)).2 r hr)
  simp only[maxLen];omega
 have hc:=QE8 h
 have hn:=okN h
 have hpo:XB w (p.1,p.2)=some true:=by rw[<-hp];exact Z9 p.1 p.2 (ZQ hp).1 (ZQ hp).2
 have hj:Zs w (x.2.2.1,x.2.2.2.1,p.1,p.2)=some (join (x.2.2.1,x.2.2.2.1) p):=Qcz (x.2.2.1,x.2.2.2.1) p hst (ZQ hp)
 have hm:xM w (join (x.2.2.1,x.2.2.2.1) p)=some (marksOf (join (x.2.2.1,x.2.2.2.1) p)):=Qvc _ _ hjs.1 hjs.2
 have ht:Vm w (x.2.2.2.2.2.2.2.2.2.2.2.1,x.1,marksOf (join (x.2.2.1,x.2.2.2.1) p))=some (ZS x p):=Qs7 _ _ _ hz11 hmk
 have hpr:Qb0 w ((join (x.2.2.1,x.2.2.2.1) p).1,(join (x.2.2.1,x.2.2.2.1) p).2,ZS x p)=some (Xj x p):=QI2 _ _ hjs (QY17 (Qfz hjo) (by decide)) hsl hsr
 have htr:yw w (Xj x p)=some (Ze (Xj x p)):=QzU _ _ hts.1 hts.2
 have e:=Q0 (Xj x p).1.length (fun i (s:List QR)=>KC wl ((((Xj x p).1.length:Nat):Int),(i:Int),n11T x (x.1,x.2.1,(Xj x p).1,(Xj x p).2,(Ze (Xj x p)).1,(Ze (Xj x p)).2,x.2.2.2.2.2.2.1,x.2.2.2.2.2.2.2.1,x.2.2.2.2.2.2.2.2.1,x.2.2.2.2.2.2.2.2.2.1,x.2.2.2.2.2.2.2.2.2.2.1,ZS x p,x.2.2.2.2.2.2.2.2.2.2.2.2.1,x.2.2.2.2.2.2.2.2.2.2.2.2.2.1,x.2.2.2.2.2.2.2.2.2.2.2.2.2.2.1,x.2.2.2.2.2.2.2.2.2.2.2.2.2.2.2.1,x.2.2.2.2.2.2.2.2.2.2.2.2.2.2.2.2.1,x.2.2.2.2.2.2.2.2.2.2.2.2.2.2.2.2.2.1,s))) (fun i s=>(x.1,x.2.1,(Xj x p).1,(Xj x p).2,(Ze (Xj x p)).1,(Ze (Xj x p)).2,x.2.2.2.2.2.2.1,x.2.2.2.2.2.2.2.1,x.2.2.2.2.2.2.2.2.1,x.2.2.2.2.2.2.2.2.2.1,x.2.2.2.2.2.2.2.2.2.2.1,ZS x p,x.2.2.2.2.2.2.2.2.2.2.2.2.1,x.2.2.2.2.2.2.2.2.2.2.2.2.2.1,x.2.2.2.2.2.2.2.2.2.2.2.2.2.2.1,x.2.2.2.2.2.2.2.2.2.2.2.2.2.2.2.1,x.2.2.2.2.2.2.2.2.2.2.2.2.2.2.2.2.1,x.2.2.2.2.2.2.2.2.2.2.2.2.2.2.2.2.2.1,xZ x.2.2.2.2.2.2.2.2.2.2.2.2.2.2.2.2.2.1 s ((Xj x p).1.drop i))) (fun _ s=>s.length=5)
  (fun i hi s hs ih=>by
    apply QmD
    obtain⟨n,hn,hn5⟩:=Qqx (QjA hto _ (QRf hi)).1 (show 5<=s.length by omega)
    have hi':=ih (zC x.2.2.2.2.2.2.2.2.2.2.2.2.2.2.2.2.2.1 s (Xj x p).1[i]) (by rw[QlU];exact hs)
    rw[QRa hi,xZ]
    unfold zC at hi'⊢
    rw[hn]at hi'⊢
    simp only[Qj8,ilt hi,Qj hi,Qg hi,inc hi hts.1,QQ1,hn,Qj hn5]
    revert hi'
    cases decide ((rd1 Zq s (n:Int)).1<(Xj x p).1[i].2.1)<;>cases decide ((Xj x p).1[i].2.1=(rd1 Zq s (n:Int)).1)<;>cases decide ((rd1 Zq s (n:Int)).2.1<(Xj x p).1[i].2.2.2.1)<;>simp only[QQ1,QQ2]<;>exact fun h=>h)
  (fun s _=>by
    apply QmD
    simp only[Qj8,Qo,QQ2,QRl,xZ]) x.2.2.2.2.2.2.2.2.2.2.2.2.2.2.2.2.2.2 (by have:=h.rlen;omega)
 simp only[QQ6,QRg]at e
 apply QC0
 simp only[QqD,hc,hn,hpo,hj,hm,ht,hpr,htr,e,QQ0,QQ3,QQ2,take]
set_option maxHeartbeats 1000000 in
theorem Qvu (x:Qc) (h:NOk x) (p:Qk) (hp:QF p=true):jX w (n11T x (p.1,p.2))=some (take x p):=by
 have hsm:=XS h
 have hst:=ZQ h.st
 have hjo:=zm h.st hp
 have hjs:=ZQ hjo
 have hto:=QmC h hp
 have hts:=ZQ hto
 have hmk:(marksOf (join (x.2.2.1,x.2.2.2.1) p)).length<=maxLen:=by
  have:=xU _ _ (Qci (join (x.2.2.1,x.2.2.2.1) p)) (by omega)
  simp only[maxLen]
  rcases this with h|h
  ·omega
  ·rw[h];simp
 have hz11:Xu x.2.2.2.2.2.2.2.2.2.2.2.1<=4294967296:=(qb (x:=x) (by omega)).2.2.2
 have hsl:(ZS x p).length<=maxLen:=by rw[ZS,QrM];exact hsm.2.2.2.2.2.2.2.2.1
 have hsr:∀r∈ZS x p,r.length<=maxLen:=fun r hr=>by
  have:=Qm6 ((Qmi (QfU h.seen _ _)).2 r hr)
  simp only[maxLen];omega
 have hc:=Qpo h
 have hj:Yt w (x.2.2.1,x.2.2.2.1,p.1,p.2)=some (join (x.2.2.1,x.2.2.2.1) p):=QnQ (x.2.2.1,x.2.2.2.1) p h.st hp
 have hm:xH w (join (x.2.2.1,x.2.2.2.1) p)=some (marksOf (join (x.2.2.1,x.2.2.2.1) p)):=Qtn _ _ hjs.1 hjs.2
 have ht:Vq w (x.2.2.2.2.2.2.2.2.2.2.2.1,x.1,marksOf (join (x.2.2.1,x.2.2.2.1) p))=some (ZS x p):=Qre _ _ _ hz11 hmk
 have hpr:QcF w ((join (x.2.2.1,x.2.2.2.1) p).1,(join (x.2.2.1,x.2.2.2.1) p).2,ZS x p)=some (Xj x p):=QH3 _ _ hjs (QY17 (Qfz hjo) (by decide)) hsl hsr
 have htr:yu w (Xj x p)=some (Ze (Xj x p)):=Qve _ _ hts.1 hts.2
 have e:=Q0 (Xj x p).1.length (fun i (s:List QR)=>ZX wl ((i:Int),n11T x (x.1,x.2.1,(Xj x p).1,(Xj x p).2,(Ze (Xj x p)).1,(Ze (Xj x p)).2,x.2.2.2.2.2.2.1,x.2.2.2.2.2.2.2.1,x.2.2.2.2.2.2.2.2.1,x.2.2.2.2.2.2.2.2.2.1,x.2.2.2.2.2.2.2.2.2.2.1,ZS x p,x.2.2.2.2.2.2.2.2.2.2.2.2.1,x.2.2.2.2.2.2.2.2.2.2.2.2.2.1,x.2.2.2.2.2.2.2.2.2.2.2.2.2.2.1,x.2.2.2.2.2.2.2.2.2.2.2.2.2.2.2.1,x.2.2.2.2.2.2.2.2.2.2.2.2.2.2.2.2.1,x.2.2.2.2.2.2.2.2.2.2.2.2.2.2.2.2.2.1,s))) (fun i s=>(x.1,x.2.1,(Xj x p).1,(Xj x p).2,(Ze (Xj x p)).1,(Ze (Xj x p)).2,x.2.2.2.2.2.2.1,x.2.2.2.2.2.2.2.1,x.2.2.2.2.2.2.2.2.1,x.2.2.2.2.2.2.2.2.2.1,x.2.2.2.2.2.2.2.2.2.2.1,ZS x p,x.2.2.2.2.2.2.2.2.2.2.2.2.1,x.2.2.2.2.2.2.2.2.2.2.2.2.2.1,x.2.2.2.2.2.2.2.2.2.2.2.2.2.2.1,x.2.2.2.2.2.2.2.2.2.2.2.2.2.2.2.1,x.2.2.2.2.2.2.2.2.2.2.2.2.2.2.2.2.1,x.2.2.2.2.2.2.2.2.2.2.2.2.2.2.2.2.2.1,xZ x.2.2.2.2.2.2.2.2.2.2.2.2.2.2.2.2.2.1 s ((Xj x p).1.drop i))) (fun _ s=>s.length=5)
  (fun i hi s hs ih=>by
    apply Qg8
    obtain⟨n,hn,hn5⟩:=Qqx (QjA hto _ (QRf hi)).1 (show 5<=s.length by omega)
    have hi':=ih (zC x.2.2.2.2.2.2.2.2.2.2.2.2.2.2.2.2.2.1 s (Xj x p).1[i]) (by rw[QlU];exact hs)
    rw[QRa hi,xZ]
    unfold zC at hi'⊢
    rw[hn]at hi'⊢
    simp only[QeC,ilt hi,Qj hi,Qg hi,inc hi hts.1,QQ1,hn,Qj hn5]
    revert hi'
    cases decide ((rd1 Zq s (n:Int)).1<(Xj x p).1[i].2.1)<;>cases decide ((Xj x p).1[i].2.1=(rd1 Zq s (n:Int)).1)<;>cases decide ((rd1 Zq s (n:Int)).2.1<(Xj x p).1[i].2.2.2.1)<;>simp only[QQ1,QQ2]<;>exact fun h=>h)
  (fun s _=>by
    apply Qg8
    simp only[QeC,Qo,QQ2,QRl,xZ]) x.2.2.2.2.2.2.2.2.2.2.2.2.2.2.2.2.2.2 (by have:=h.rlen;omega)
 simp only[QQ6,QRg]at e
 apply QwG
 simp only[Qkl,hc,hj,hm,ht,hpr,htr,e,QQ0,take]
def QBa (g:Z8) (d:Qk):Z8:=bif decide (g.1<(((g.2.2++[d]).length:Nat):Int))then(g.1,g.2.1+1,(g.2.2++[d]).drop 1)else(g.1,g.2.1,g.2.2++[d])
theorem QmH (g:Z8):Yu g=true↔(1<=g.1/\g.1<=8)/\((g.2.2.length:Nat):Int)<=g.1/\(0<=g.2.1/\g.2.1<=100000)/\g.2.1+((g.2.2.length:Nat):Int)<=100000/\∀s∈g.2.2,QF s=true:=by
 simp only[Yu,QQ5,QRt,QRu,inR]
 constructor
 ·rintro⟨⟨⟨⟨h1,h2⟩,h3⟩,h4⟩,h5⟩;exact⟨h1,h2,h3,h4,h5⟩
 ·rintro⟨h1,h2,h3,h4,h5⟩;exact⟨⟨⟨⟨h1,h2⟩,h3⟩,h4⟩,h5⟩
theorem Qby {g:Z8}(hg:Yu g=true):Yl g<=1000/\g.2.2.length<=maxLen/\∀s∈g.2.2,s.1.length<=maxLen/\s.2.length<=maxLen:=by
 have h:=(QmH g).1 hg
 have k1:Qi QH g.2.2<=60*g.2.2.length:=QjU _ _ _ fun s hs=>Qfz (h.2.2.2.2 s hs)
 refine⟨by simp only[Yl,X1];omega,by simp only[maxLen];omega,fun s hs=>ZQ (h.2.2.2.2 s hs)⟩
def Qgl:Qk->List Qk->Qk
 |s,[]=>s
 |s,d::l=>Qgl (join s d) l
theorem QB8:(s:Qk)->(l:List Qk)->QF s=true->(∀d∈l,QF d=true)->QF (Qgl s l)=true
 |s,[],h,_=>h
 |s,d::l,h,hl=>QB8 _ l (zm h (hl d (by simp))) fun x hx=>hl x (by simp[hx])
def YK (g:Z8) (seq:Int):List Qf×List Qa×Bool:=bif inR seq g.2.1 (g.2.1+((g.2.2.length:Nat):Int))then((Qgl ([],[]) (g.2.2.drop (seq - g.2.1).toNat)).1,(Qgl ([],[]) (g.2.2.drop (seq - g.2.1).toNat)).2,true)else([],[],false)
theorem QDz {g:Z8}(hg:Yu g=true) (seq:Int):QF ((YK g seq).1,(YK g seq).2.1)=true:=by
 have h:=(QmH g).1 hg
 unfold YK
 cases inR seq g.2.1 (g.2.1+((g.2.2.length:Nat):Int))
 ·rfl
 ·exact QB8 ([],[]) _ rfl fun d hd=>h.2.2.2.2 d (List.mem_of_mem_drop hd)
theorem QD2 (g:Z8) (hg:Yu g=true) (seq:Int):zX w (g.1,g.2.1,g.2.2,seq)=some (YK g seq):=by
 have h:=(QmH g).1 hg
 have hz:=Qby hg
 have hlo:zG w (g.1,g.2.1,g.2.2)=some true:=by rw[<-hg];exact Que g.1 g.2.1 g.2.2 hz.2.1 hz.2.2
 have hls:VL w (g.1,g.2.1,g.2.2)=some (g.2.1+((g.2.2.length:Nat):Int)):=by
  rw[QmL g.1 g.2.1 g.2.2 hz.2.1 hz.2.2,Xr]
  rw[show Yu (g.1,g.2.1,g.2.2)=true from hg];rfl
 apply QtI
 simp only[Qi8,hlo,hls,Xi,QQ0,QQ3,QQ2,YK]
 cases hr:inR seq g.2.1 (g.2.1+((g.2.2.length:Nat):Int))
 ·rfl
 ·have hr':=Xg.1 hr
  have ht:=Qum g.2.2 (seq - g.2.1) (by omega) (by omega)
  simp only[QQ3,QQ2,QQ1,w64 (n:=seq - g.2.1) (by omega) (by omega),ht,dt (show(0:Int)<=seq - g.2.1/\seq - g.2.1<=((g.2.2.length:Nat):Int)/\((g.2.2.length:Nat):Int)<=((g.2.2.length:Nat):Int) by omega)]
  have hm:∀d∈g.2.2.drop (seq - g.2.1).toNat,QF d=true:=fun d hd=>h.2.2.2.2 d (List.mem_of_mem_drop hd)
  have hl:(g.2.2.drop (seq - g.2.1).toNat).length<=maxLen:=by rw[QY7];omega
  generalize g.2.2.drop (seq - g.2.1).toNat=L at hm hl
  have e:=Q0 L.length (fun i (s:Qk)=>V9 wl (L,((L.length:Nat):Int),(i:Int),s.1,s.2)) (fun i s=>Qgl s (L.drop i)) (fun _ s=>QF s=true)
   (fun i hi s hs ih=>by
     apply QeS
     have hd:=hm _ (QRf hi)
     have hj:Zs w (s.1,s.2,L[i])=some (join s L[i]):=Qcz s L[i] (ZQ hs) (ZQ hd)
     simp only[Qbm,ilt hi,Qj hi,Qg hi,inc hi hl,QQ1,hj,QQ0]
     rw[QRa hi,Qgl]
     exact ih _ (zm hs hd))
   (fun s _=>by
     apply QeS
     simp only[Qbm,Qo,QQ2,QRl,Qgl]) ([],[]) rfl
  simp only[QQ6,QRg]at e
  simp only[e,QQ0]
theorem QBm (g:Z8) (hg:Yu g=true) (seq:Int):ye w (g.1,g.2.1,g.2.2,seq)=some (YK g seq):=by
 have h:=(QmH g).1 hg
 have hz:=Qby hg
 have hlo:zK w (g.1,g.2.1,g.2.2)=some true:=by rw[<-hg];exact QrX g.1 g.2.1 g.2.2 hz.2.1 hz.2.2
 apply Qt9
 simp only[QiX,hlo,XN,QQ0,QQ3,QQ2,YK,w64 (n:=g.2.1+((g.2.2.length:Nat):Int)) (by omega) (by omega)]
 cases hr:inR seq g.2.1 (g.2.1+((g.2.2.length:Nat):Int))
 ·rfl
 ·have hr':=Xg.1 hr
  simp only[QQ3,QQ2,QQ1,w64 (n:=seq - g.2.1) (by omega) (by omega)]
  obtain⟨k,hk⟩:∃k:Nat,seq - g.2.1=(k:Int):=⟨(seq - g.2.1).toNat,by omega⟩
  rw[hk,QRb]
  have hkl:k<=g.2.2.length:=by omega
  have e:=Q0 (g.2.2.length - k) (fun i (s:Qk)=>V8 wl (((k+i:Nat):Int),g.1,g.2.1,g.2.2,s.1,s.2)) (fun i s=>Qgl s (g.2.2.drop (k+i))) (fun _ s=>QF s=true)
   (fun i hi s hs ih=>by
     apply QeX
     have hi':k+i<g.2.2.length:=by omega
     have hd:=h.2.2.2.2 _ (QRf hi')
     have hj:Yt w (s.1,s.2,g.2.2[k+i])=some (join s g.2.2[k+i]):=QnQ s _ hs hd
     simp only[Qba,ilt hi',Qj hi',Qg hi',inc hi' hz.2.1,QQ1,hj,QQ0]
     rw[QRa hi',Qgl]
     exact ih _ (zm hs hd))
   (fun s _=>by
     apply QeX
     rw[show k+(g.2.2.length - k)=g.2.2.length by omega]
     simp only[Qba,Qo,QQ2,QRl,Qgl]) ([],[]) rfl
  simp only[QY3]at e
  simp only[e,QQ0]
def present (s:Qk) (id:Int):Int×Int×Int×Int×ByteArray×Int:=bif QF s&&inR id 0 4 then(bif (lookup s id).2.2.2.2.2 then((lookup s id).1,(lookup s id).2.1,(lookup s id).2.2.1,(lookup s id).2.2.2.1,(lookup s id).2.2.2.2.1,0)else(0,0,0,0,ByteArray.empty,3))else(0,0,0,0,ByteArray.empty,1)
def one (id:Int) (e:XT):Qk:=([(id,e)],[])
def QbL (s:Qk) (id:Int):List Qf×List Qa×Int:=bif !decide ((present s id).2.2.2.2.2=0)then([],[],(present s id).2.2.2.2.2)else(bif decide ((present s id).2.2.1=100000)then([],[],4)else([(id,(present s id).1,(present s id).2.1,(present s id).2.2.1+1,(present s id).2.2.2.1,(present s id).2.2.2.2.1)],[],0))
end Go.Proofs.YtiejfnbmficbmaaGreat.M
