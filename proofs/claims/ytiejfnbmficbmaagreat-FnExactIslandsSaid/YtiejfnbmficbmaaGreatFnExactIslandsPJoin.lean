/- What the plain forms that FnExactIslands reaches come to: PJoin. No conditions but those that each theorem states. -/
import Derived.Test.YtiejfnbmficbmaaGreatFnExactIslandsPNode2
set_option linter.all false
namespace Go.Proofs.YtiejfnbmficbmaaGreat.M
open Go Go.Eng Go.Proofs
set_option linter.unusedVariables false
theorem ZB {s:Qk}(h:QK s=true):smS s:=by
 have:=qo h
 constructor<;>simp only[maxLen]<;>omega
theorem Qcc (a b:Qk) (ha:smS a) (hb:smS b):Zi w (a.1,a.2,b.1,b.2)=some (join a b):=by
 apply Qq8
 have e:=Xd 5 (fun i (s:Qk)=>Zj wl ((i:Int),a.1,a.2,b.1,b.2,s.1,s.2)) (fun i s=>(s.1++(List.range' i (5 - i)).flatMap (QnJ a b),s.2++(List.range' i (5 - i)).flatMap (yL a b))) (fun i s=>s.1.length<=i/\s.2.length<=i)
  (fun i hi s hs ih=>by
    apply QcM
    simp only[vd,Qv4 hi,QwK hi,QQ1,Qn7 a.1 a.2 _ ha.1,Qn7 b.1 b.2 _ hb.1,QhZ a.1 a.2 _ ha.2,QhZ b.1 b.2 _ hb.2,QA4,QQ0]
    rw[ZX hi,ZX hi]
    have hE:VR ((QW (i:Int) a.1).1,(QW (i:Int) a.1).2.1,(QW (i:Int) a.1).2.2.1,(QW (i:Int) a.1).2.2.2.1,(QW (i:Int) a.1).2.2.2.2.1) ((QW (i:Int) b.1).1,(QW (i:Int) b.1).2.1,(QW (i:Int) b.1).2.2.1,(QW (i:Int) b.1).2.2.2.1,(QW (i:Int) b.1).2.2.2.2.1)=zO a b (i:Int):=rfl
    have hF:mxI (Q4 (i:Int) a.2) (Q4 (i:Int) b.2)=Ze a b (i:Int):=rfl
    simp only[hE,hF,QnJ,yL]
    have f1:fits (s.1.length+([((i:Int),zO a b (i:Int))]:List Qg).length) 56=true:=Qw (by simp;omega)
    have f2:fits (s.2.length+([((i:Int),Ze a b (i:Int))]:List Qb).length) 16=true:=Qw (by simp;omega)
    simp only[f1,f2,QQ1]
    cases decide (Ze a b (i:Int)<(zO a b (i:Int)).1)<;>cases decide (0<Ze a b (i:Int))<;>simp only[QQ1,QQ2,QRe]
    ·exact ih s (by omega)
    ·rw[ih (s.1,s.2++[((i:Int),Ze a b (i:Int))]) (by simp;omega)];simp
    ·rw[ih (s.1++[((i:Int),zO a b (i:Int))],s.2) (by simp;omega)];simp
    ·rw[ih (s.1++[((i:Int),zO a b (i:Int))],s.2++[((i:Int),Ze a b (i:Int))]) (by simp;omega)];simp)
  (fun s _=>by
    apply QcM
    simp[vd]) ([],[]) (by simp)
 simp only[QQ6,QRe,Nat.sub_zero]at e
 simp only[Qgk,e,QQ0,join]
theorem QkX (a b:Int):Y2 a b= - Y2 b a:=by
 unfold Y2;split<;>split<;>(try split)<;>omega
theorem Qxp:(a b:List UInt8)->Go.Lib.compareBytes a b= - Go.Lib.compareBytes b a
 | [],[]=>by simp[Go.Lib.compareBytes]
 | [],_::_=>by simp[Go.Lib.compareBytes]
 |_::_,[]=>by simp[Go.Lib.compareBytes]
 |a::l,b::m=>by
  have ih:=Qxp l m
  by_cases h:a<b
  ·have h2:¬b<a:=fun e=>UInt8.lt_irrefl _ (UInt8.lt_trans h e)
   simp[Go.Lib.compareBytes,h,h2]
  ·by_cases h2:b<a
   ·simp[Go.Lib.compareBytes,h,h2]
   ·simp only[Go.Lib.compareBytes,h,h2,if_false];exact ih
theorem QBz (x y:XM):K8 x y= - K8 y x:=by
 unfold K8 Qr2
 rw[QkX x.1 y.1,QkX x.2.1 y.2.1,QkX x.2.2.1 y.2.2.1,QkX x.2.2.2.1 y.2.2.2.1,Qxp x.2.2.2.2.data.toList y.2.2.2.2.data.toList]
 unfold or5
 repeat' split
 all_goals omega
theorem QEN {y:XM}(h:Zd y=true):VR (0,0,0,0,ByteArray.empty) y=y:=by
 have:=QwZ h
 have e:K8 (0,0,0,0,ByteArray.empty) y= -1:=by
  unfold K8 or5
  have:Y2 (0:Int) y.1= -1:=by unfold Y2;rw[if_pos (by omega)]
  simp[this]
 unfold VR;rw[e];rfl
theorem QFq {x:XM}(h:Zd x=true):VR x (0,0,0,0,ByteArray.empty)=x:=by
 have:=QwZ h
 have e:K8 x (0,0,0,0,ByteArray.empty)=1:=by
  unfold K8 or5
  have:Y2 x.1 (0:Int)=1:=by unfold Y2;rw[if_neg (by omega),if_pos (by omega)]
  simp[this]
 unfold VR;rw[e];rfl
theorem QEa (x y:XM):VR x y=bif decide (0<K8 y x)then y else x:=by
 unfold VR
 rw[QBz x y]
 by_cases h:0<K8 y x
 ·rw[if_pos (by omega),dt h];rfl
 ·rw[if_neg (by omega),df h];rfl
theorem Qmk (a b:Qk) (ha:QK a=true) (hb:QK b=true):Yf w (a.1,a.2,b.1,b.2)=some (join a b):=by
 apply Qwd
 have h1:=ZB ha
 have h2:=ZB hb
 have e:=Xd 5 (fun i (s:Qk)=>Qx wl ((i:Int),a.1,a.2,b.1,b.2,s.1,s.2)) (fun i s=>(s.1++(List.range' i (5 - i)).flatMap (QnJ a b),s.2++(List.range' i (5 - i)).flatMap (yL a b))) (fun i s=>s.1.length<=i/\s.2.length<=i)
  (fun i hi s hs ih=>by
    apply QhP
    rw[ZX hi,ZX hi]
    have hF:mxI (Q4 (i:Int) a.2) (Q4 (i:Int) b.2)=Ze a b (i:Int):=rfl
    have hr:=QlJ ha hb (i:Int)
    have f2:fits (s.2.length+([((i:Int),Ze a b (i:Int))]:List Qb).length) 16=true:=Qw (by simp;omega)
    have fA:∀e:Qg,fits (s.1.length+([e]:List Qg).length) 56=true:=fun e=>Qw (by simp;omega)
    have i0:=ih s (by omega)
    have i1:=ih (s.1,s.2++[((i:Int),Ze a b (i:Int))]) (by simp;omega)
    have i2:=fun e:XM=>ih (s.1++[((i:Int),e)],s.2) (by simp;omega)
    have i3:=fun e:XM=>ih (s.1++[((i:Int),e)],s.2++[((i:Int),Ze a b (i:Int))]) (by simp;omega)
    simp only at i0 i1 i2 i3
    have hx:=Qjz ha (i:Int)
    have hy:=Qjz hb (i:Int)
    have hE:zO a b (i:Int)=VR (Z3 (QW (i:Int) a.1)) (Z3 (QW (i:Int) b.1)):=rfl
    simp only[Qec,Qv4 hi,QwK hi,QQ1,Qmt a.1 a.2 _ h1.1,Qmt b.1 b.2 _ h2.1,QeH a.1 a.2 _ h1.2,QeH b.1 b.2 _ h2.2,QyY,Qy5,QQ0,hF,f2,fA]
    simp only[QnJ,yL]
    generalize zO a b (i:Int)=v at*
    generalize QW (i:Int) a.1=x at*
    generalize QW (i:Int) b.1=y at*
    obtain⟨x1,x2,x3,x4,x5,xb⟩:=x
    obtain⟨y1,y2,y3,y4,y5,yb⟩:=y
    simp only[Z3]at*
    rcases hx with⟨hx,rfl⟩|⟨hx,rfl⟩<;>rcases hy with⟨hy,rfl⟩|⟨hy,rfl⟩
    ·rw[QEa]at hE
     generalize K8 (y1,y2,y3,y4,y5) (x1,x2,x3,x4,x5)=c at*
     cases hc:decide (0<c)<;>rw[hc]at hE<;>simp only[QQ1,QQ2]at hE<;>subst hE<;>cases decide (0<Ze a b (i:Int))<;>simp only[QQ3,QQ1,QQ2]
     all_goals(cases decide (Ze a b (i:Int)<_)<;>simp only[i0,i1,i2,i3,QRc,QRe,QRv,QQ1,QQ2])
    ·rw[hy,QFq hx]at hE
     subst hE
     cases decide (0<Ze a b (i:Int))<;>simp only[QQ3,QQ4,QQ1,QQ2]
     all_goals(cases decide (Ze a b (i:Int)<_)<;>simp only[i0,i1,i2,i3,QRc,QRe,QRv,QQ1,QQ2])
    ·rw[hx,QEN hy]at hE
     subst hE
     cases decide (0<Ze a b (i:Int))<;>simp only[QQ3,QQ4,QQ1,QQ2]
     all_goals(cases decide (Ze a b (i:Int)<_)<;>simp only[i0,i1,i2,i3,QRc,QRe,QRv,QQ1,QQ2])
    ·rw[hx,hy]at hE
     have h0:v.1=0:=by
      rcases Qw4 (0,0,0,0,ByteArray.empty) (0,0,0,0,ByteArray.empty)with h|h<;>rw[hE,h]
     have h0':decide (Ze a b (i:Int)<v.1)=false:=df (by omega)
     rw[h0']
     cases decide (0<Ze a b (i:Int))<;>simp only[i0,i1,QQ4,QRc,QRe,QRv,QQ1,QQ2])
  (fun s _=>by
    apply QhP
    simp[Qec]) ([],[]) (by simp)
 simp only[QQ6,QRe,Nat.sub_zero]at e
 simp only[Qlq,e,QQ0,join]
theorem Qou {x:XM}(h:Zd x=true):1<=x.1/\x.1<=1000/\0<=x.2.1/\x.2.1<=1/\0<=x.2.2.1/\x.2.2.1<=100000/\0<=x.2.2.2.1/\x.2.2.2.1<=1000/\x.2.2.2.2.size<=8:=by
 simp only[Zd,inR,QQ5,QRu]at h
 obtain⟨⟨⟨⟨⟨p1,p2⟩,p3,p4⟩,p5,p6⟩,p7,p8⟩,p9⟩:=h
 omega
theorem Qw6 (a:List Qg) (b:List Qb) (id:Int) (h1:a.length<=maxLen) (h2:b.length<=maxLen):vx w (a,b,id)=some (Zb (a,b) id):=by
 apply QvY
 simp only[Qlg,Yp a b h1 h2,Qn7 a b _ h1,QhZ a b _ h2,QQ0,Zb]
 cases h:QK (a,b)
 ·rfl
 ·rcases Qjz h id with⟨he,hb⟩|⟨he,hb⟩
  ·simp only at hb
   have hn:=Qou (x:=Z3 (QW id a)) he
   simp only[Z3]at hn
   rw[hb,w64 (by omega) (by omega)]
   simp only[QQ3,QQ1,QQ2]
   cases decide ((QW id a).2.1=1)<;>rfl
  ·simp only at hb
   rw[hb];rfl
theorem QtO (a:List Qg) (b:List Qb) (id:Int) (h1:a.length<=maxLen) (h2:b.length<=maxLen):vo w (a,b,id)=some (Zb (a,b) id):=by
 apply Qvi
 simp only[Qk1,Vo a b h1 h2,Qmt a b _ h1,QeH a b _ h2,QQ0,Zb]
 cases h:QK (a,b)
 ·rfl
 ·rcases Qjz h id with⟨he,hb⟩|⟨he,hb⟩
  ·simp only at hb
   have hn:=Qou (x:=Z3 (QW id a)) he
   simp only[Z3]at hn
   rw[hb,w64 (by omega) (by omega)]
   simp only[QQ3,QQ1,QQ2]
   by_cases h1:(QW id a).2.1=1
   ·rw[dt h1,df (by omega)];rfl
   ·rw[df h1,dt (by omega)];rfl
  ·simp only at hb
   rw[hb];rfl
theorem Qur (a:List Qg) (b:List Qb) (h1:a.length<=maxLen) (h2:b.length<=maxLen):qP w (a,b)=some (marksOf (a,b)):=by
 apply Qtn
 have e:=Xd 5 (fun i (s:List Qb)=>KJ wl ((i:Int),a,b,s)) (fun i s=>s++(List.range' i (5 - i)).flatMap (Qm0 (a,b))) (fun i s=>s.length<=i)
  (fun i hi s hs ih=>by
    apply Qgq
    simp only[QaT,Qv4 hi,QwK hi,QQ1,Qw6 a b _ h1 h2,QQ0]
    rw[ZX hi]
    simp only[Qm0,Qw (show(s.length+([((i:Int),Zb (a,b) (i:Int))]:List Qb).length)*16<=140737488351232 by simp;omega),QQ1]
    cases decide (0<Zb (a,b) (i:Int))<;>simp only[QQ1,QQ2,QRe]
    ·exact ih s (by omega)
    ·rw[ih _ (by simp;omega)];simp)
  (fun s _=>by
    apply Qgq
    simp[QaT]) [] (by simp)
 simp only[QQ6,QRe,Nat.sub_zero]at e
 simp only[Qkx,e,QQ0,marksOf]
theorem QrF (a:List Qg) (b:List Qb) (h1:a.length<=maxLen) (h2:b.length<=maxLen):xC w (a,b)=some (marksOf (a,b)):=by
 apply QsN
 have e:=Xd 5 (fun i (s:List Qb)=>KI wl ((i:Int),a,b,s)) (fun i s=>s++(List.range' i (5 - i)).flatMap (Qm0 (a,b))) (fun i s=>s.length<=i)
  (fun i hi s hs ih=>by
    apply Qgl
    simp only[QcZ,Qv4 hi,QwK hi,QQ1,QtO a b _ h1 h2,QQ0]
    rw[ZX hi]
    simp only[Qm0,Qw (show(s.length+([((i:Int),Zb (a,b) (i:Int))]:List Qb).length)*16<=140737488351232 by simp;omega),QQ1]
    cases decide (0<Zb (a,b) (i:Int))<;>simp only[QQ1,QQ2,QRe]
    ·exact ih s (by omega)
    ·rw[ih _ (by simp;omega)];simp)
  (fun s _=>by
    apply Qgl
    simp[QcZ]) [] (by simp)
 simp only[QQ6,QRe,Nat.sub_zero]at e
 simp only[Qjl,e,QQ0,marksOf]
theorem Qut (b:List Qb) (hb:b.length<=maxLen):yG w b=some (QR (-1) b):=by
 apply Qs3
 have e:=Q5 b.length (fun i=>KM wl (b,b,((b.length:Nat):Int),(i:Int))) (fun i=>if QR (qD b i) (b.drop i)then .inr ()else .inl false)
  (fun i hi ih=>by
    apply Qf5
    simp only[Qdj,ilt hi,Qj hi,Qf hi,inc hi hb,QQ1,ih,Qga,Xi,QQ0]
    rw[QRa hi,QR,Qh9 b hi]
    rcases Nat.eq_zero_or_pos i with h0|h0
    ·subst h0
     cases h1:inR b[0].1 0 4
     ·simp
     ·have:=Qem h1
      simp only[QoA,QQ2,QQ3,qD,if_true,dt this,QRd,QRn]
      cases inR b[0].2 1 1000<;>simp
    ·have hi':i - 1<b.length:=by omega
     simp only[ipos h0,QQ1,Qqp h0 (by omega),Qj hi',Qf hi',QlY b h0 hi',zz]
     cases inR b[i].1 0 4<;>cases inR b[i].2 1 1000<;>cases decide (b[i - 1].1<b[i].1)<;>simp)
  (by
    apply Qf5
    simp only[Qdj,Qo,QQ2,QRl,QR,if_true])
 simp only[QQ6,QRg,qD,if_true]at e
 simp only[Qks,e,QQ0]
 cases QR (-1) b<;>simp[Qp]
theorem Qrt (b:List Qb) (hb:b.length<=maxLen):yn w b=some (QR (-1) b):=by
 apply Qug
 have e:=Q5 b.length (fun i=>KU wl (b,(i:Int))) (fun i=>if QR (qD b i) (b.drop i)then .inr ()else .inl false)
  (fun i hi ih=>by
    apply QfR
    simp only[QcB,ilt hi,Qj hi,Qf hi,inc hi hb,QQ1,ih,QgE,Xx,QQ0]
    rw[QRa hi,QR,Qh9 b hi]
    rcases Nat.eq_zero_or_pos i with h0|h0
    ·subst h0
     cases h1:inR b[0].1 0 4
     ·simp
     ·have:=Qem h1
      simp only[QoA,QQ2,QQ3,qD,if_true,dt this,QRd,QRn]
      cases inR b[0].2 1 1000<;>simp
    ·have hi':i - 1<b.length:=by omega
     simp only[ipos h0,QQ1,Qqp h0 (by omega),Qj hi',Qf hi',QlY b h0 hi',zz]
     cases inR b[i].1 0 4<;>cases inR b[i].2 1 1000<;>cases decide (b[i - 1].1<b[i].1)<;>simp)
  (by
    apply QfR
    simp only[QcB,Qo,QQ2,QRl,QR,if_true])
 simp only[QQ6,QRg,qD,if_true]at e
 simp only[QjE,e,QQ0]
 cases QR (-1) b<;>simp[Qp]
def Qgv (t:X5):Bool:=bif decide (((t.1.length:Nat):Int)=0)then decide (t.2=0)else(t.1.all fun x=>inR x 0 1023)&&decide (((t.1.length:Nat):Int)=4)&&inR t.2 0 1023
theorem QEV (l:List Int) (r:Int) (h:l.length<=maxLen):Qeu w (l,r)=some (Qgv (l,r)):=by
 apply QwL
 have e:=Q5 l.length (fun i=>qH wl (l,((l.length:Nat):Int),(i:Int),l,r)) (fun i=>if(l.drop i).all (fun x=>inR x 0 1023)then .inr (l,r)else .inl false)
  (fun i hi ih=>by
    apply Qhf
    rw[ZG (fun x=>inR x 0 1023) l _ _ hi]
    simp only[Qd7,ilt hi,Qj hi,Qf hi,inc hi h,QQ1,Xi,QQ0,ih]
    cases inR l[i] 0 1023<;>simp)
  (by
    apply Qhf
    simp[Qd7])
 simp only[QQ6,QRg]at e
 simp only[Ql5,e,QQ0,Xi,Qgv]
 cases decide (((l.length:Nat):Int)=0)
 ·cases l.all fun x=>inR x 0 1023
  ·simp[Qp]
  ·simp only[if_true,Qp,QY0,QQ2,QRd]
   cases decide (((l.length:Nat):Int)=4)<;>simp
 ·simp
theorem Qn0 (l:List Int) (m hi:Int) (h:l.length<=maxLen):xm w (l,m,hi)=some (decide (((l.length:Nat):Int)<=m)&&l.all fun x=>inR x 0 hi):=by
 apply Quq
 have e:=Q5 l.length (fun i=>JJ wl (l,hi,(i:Int))) (fun i=>if(l.drop i).all (fun x=>inR x 0 hi)then .inr ()else .inl false)
  (fun i hi' ih=>by
    apply Qgz
    rw[ZG (fun x=>inR x 0 hi) l _ _ hi']
    simp only[Qcv,ilt hi',Qj hi',Qf hi',inc hi' h,QQ1,Xx,QQ0,ih]
    cases inR l[i] 0 hi<;>simp)
  (by
    apply Qgz
    simp[Qcv])
 simp only[QQ6,QRg]at e
 simp only[QjN,e,QQ0]
 by_cases hl:((l.length:Nat):Int)<=m
 ·simp only[df (show¬m<((l.length:Nat):Int) by omega),QQ2,dt hl,QRd]
  cases l.all fun x=>inR x 0 hi<;>simp[Qp]
 ·simp only[dt (show m<((l.length:Nat):Int) by omega),QQ1,df hl,QRm]
theorem QDp (l:List Int) (r:Int) (h:l.length<=maxLen):Qdo w (l,r)=some (Qgv (l,r)):=by
 apply Qua
 simp only[QiA,Qn0 l 4 1023 h,Xx,QQ0,Qgv]
 cases decide (((l.length:Nat):Int)=0)
 ·by_cases h4:((l.length:Nat):Int)=4
  ·simp only[QQ2,dt h4,QQ1,dt (show((l.length:Nat):Int)<=4 by omega),QRd,QRn]
   cases l.all fun x=>inR x 0 1023<;>simp
  ·simp only[QQ2,df h4,QY7,QRm]
 ·simp
def okL:Int->List Int->Bool
 |_,[]=>true
 |p,x::l=>inR x 0 3&&decide (p<x)&&okL x l
def Qda:Int->List Int->Bool
 |_,[]=>true
 |p,x::l=>decide (p<x)&&Qda x l
theorem Qz2:(p:Int)->(l:List Int)->okL p l=((l.all fun x=>inR x 0 3)&&Qda p l)
 |p,[]=>rfl
 |p,x::l=>by
  rw[okL,Qz2 x l,QY25,Qda]
  cases inR x 0 3<;>cases decide (p<x)<;>cases(l.all fun x=>inR x 0 3)<;>cases Qda x l<;>rfl
theorem QvU:(p:Int)->(l:List Int)->okL p l=true-> -1<=p->(l.length:Int)<=3 - p\/l=[]
 |p,[],_,_=> .inr rfl
 |p,x::l,h,hp=>by
  simp only[okL,QQ5,inR,QRu]at h
  left
  rcases QvU x l h.2 (by omega)with h5|h5
  ·simp only[QY8];omega
  ·subst h5;simp;omega
def QnV (b:List Int) (i:Nat):Int:=if i=0 then -1 else b.getD (i - 1) 0
theorem QDz (b:List Int) {i:Nat}(h:i<b.length):QnV b (i+1)=b[i]:=by simp[QnV,List.getD,h]
theorem QEy (b:List Int) {i:Nat}(h0:0<i) (h:i - 1<b.length):QnV b i=b[i - 1]:=by
 simp[QnV,List.getD,h,show¬i=0 by omega]
theorem QFf {n k:Int}(h:inR n 0 k=true): -1<n:=by
 simp[inR]at h;omega
def Qoa (a0 a1 a2 a3 a4:Int) (a5:List Int) (a6:Int) (a7 a8:List Int) (a9:List Qg) (a10 a11:List Qb):Bool:=inR a0 0 5&&inR a1 0 4&&inR a2 0 4&& !decide (a1=a2)&&okL (-1) a8&&(a7.all fun x=>inR x 0 100000)&&inR a3 0 100000&&inR a4 0 100000&&Qgv (a5,a6)&&decide (((a7.length:Nat):Int)<=5)&&QK (a9,a10)&&QR (-1) a11
def smM (a5 a7 a8:List Int) (a9:List Qg) (a10 a11:List Qb):Prop:=a5.length<=maxLen/\a7.length<=maxLen/\a8.length<=maxLen/\a9.length<=maxLen/\a10.length<=maxLen/\a11.length<=maxLen
theorem QGF (a0 a1 a2 a3 a4:Int) (a5:List Int) (a6:Int) (a7 a8:List Int) (a9:List Qg) (a10 a11:List Qb) (h:smM a5 a7 a8 a9 a10 a11):Qbp w (a0,a1,a2,a3,a4,a5,a6,a7,a8,a9,a10,a11)=some (Qoa a0 a1 a2 a3 a4 a5 a6 a7 a8 a9 a10 a11):=by
 obtain⟨h5,h7,h8,h9,h10,h11⟩:=h
 apply QxQ
 have e0:=Q5 a8.length (fun i=>Jg wl (a8,((a8.length:Nat):Int),(i:Int),a0,a1,a2,a3,a4,a5,a6,a7,a8,a9,a10,a11)) (fun i=>if okL (QnV a8 i) (a8.drop i)then .inr (a0,a1,a2,a3,a4,a5,a6,a7,a8,a9,a10,a11)else .inl false)
  (fun i hi ih=>by
    apply QjR
    simp only[Qg6,ilt hi,Qj hi,Qf hi,inc hi h8,QQ1,ih,Xi,QQ0]
    rw[QRa hi,okL,QDz a8 hi]
    rcases Nat.eq_zero_or_pos i with h0|h0
    ·subst h0
     cases h1:inR a8[0] 0 3
     ·simp
     ·have:=QFf h1
      simp only[QoA,QQ2,QQ3,QnV,if_true,dt this,QRd,QRn]
    ·have hi':i - 1<a8.length:=by omega
     simp only[ipos h0,QQ1,Qqp h0 (by omega),Qj hi',Qf hi',QEy a8 h0 hi',zz]
     cases inR a8[i] 0 3<;>cases decide (a8[i - 1]<a8[i])<;>simp)
  (by
    apply QjR
    simp only[Qg6,Qo,QQ2,QRl,okL,if_true])
 have e2:=Q5 a7.length (fun i=>xZ wl (a7,((a7.length:Nat):Int),(i:Int),a0,a1,a2,a3,a4,a5,a6,a7,a8,a9,a10,a11)) (fun i=>if(a7.drop i).all (fun x=>inR x 0 100000)then .inr (a0,a1,a2,a3,a4,a5,a6,a7,a8,a9,a10,a11)else .inl false)
  (fun i hi ih=>by
    apply Qi7
    rw[ZG (fun x=>inR x 0 100000) a7 _ _ hi]
    simp only[QgT,ilt hi,Qj hi,Qf hi,inc hi h7,QQ1,Xi,QQ0,ih]
    cases inR a7[i] 0 100000<;>simp)
  (by
    apply Qi7
    simp[QgT])
 simp only[QQ6,QRg,QnV,if_true]at e0 e2
 simp only[QnP,e0,Xi,Qga,QQ0,Qoa]
 cases inR a0 0 5
 ·simp
 cases inR a1 0 4
 ·simp
 cases inR a2 0 4
 ·simp
 cases decide (a1=a2)
 case true=>simp
 simp only[QQ3,QQ4,QQ2,QRd]
 cases okL (-1) a8
 ·simp[Qp]
 simp only[if_true,Qp,QY0,e2,QQ0,QRd]
 cases a7.all fun x=>inR x 0 100000
 ·simp
 simp only[if_true,QY0,QRd,QEV a5 a6 h5,Yp a9 a10 h9 h10,Qut a11 h11,QQ0]
 cases inR a3 0 100000<;>cases inR a4 0 100000<;>cases Qgv (a5,a6)<;>cases decide (((a7.length:Nat):Int)<=5)<;>cases QK (a9,a10)<;>cases QR (-1) a11<;>rfl
theorem QC8 (a0 a1 a2 a3 a4:Int) (a5:List Int) (a6:Int) (a7 a8:List Int) (a9:List Qg) (a10 a11:List Qb) (h8:a8.length<=maxLen):Jb wl (1,a0,a1,a2,a3,a4,a5,a6,a7,a8,a9,a10,a11)=some (bif Qda (a8.getD 0 0) (a8.drop 1)then .inr ()else .inl false):=by
 cases hc:a8 with
 |nil=>
  apply Qac
  simp[vM,Qda]
 |cons x l=>
  rw[<-hc]
  have hlen:a8.length=l.length+1:=by rw[hc];rfl
  have e:=Q5 l.length (fun j=>Jb wl (((j+1:Nat):Int),a0,a1,a2,a3,a4,a5,a6,a7,a8,a9,a10,a11)) (fun j=>bif Qda (a8.getD j 0) (a8.drop (j+1))then .inr ()else .inl false)
   (fun j hj ih=>by
     apply Qac
     have hi:j+1<a8.length:=by omega
     have hi':j<a8.length:=by omega
     have hd:=Qqp (i:=j+1) (by omega) (by omega)
     rw[show j+1 - 1=j by omega]at hd
     have hg:a8.getD (j+1) 0=a8[j+1]:=by simp[List.getD,hi]
     have hg':a8.getD j 0=a8[j]:=by simp[List.getD,hi']
     rw[hg]at ih
     simp only[vM,ilt hi,Qj hi,Qf hi,inc hi h8,hd,Qj hi',Qf hi',QQ1,ih,zz]
     rw[QRa hi,Qda,hg']
     cases decide (a8[j]<a8[j+1])<;>simp)
   (by
     apply Qac
     rw[<-hlen]
     simp only[vM,Qo,QQ2,QRl,Qda,QQ1])
  exact e
theorem QE6 (a0 a1 a2 a3 a4:Int) (a5:List Int) (a6:Int) (a7 a8:List Int) (a9:List Qg) (a10 a11:List Qb) (h:smM a5 a7 a8 a9 a10 a11):Qb9 w (a0,a1,a2,a3,a4,a5,a6,a7,a8,a9,a10,a11)=some (Qoa a0 a1 a2 a3 a4 a5 a6 a7 a8 a9 a10 a11):=by
 obtain⟨h5,h7,h8,h9,h10,h11⟩:=h
 apply QxD
 simp only[QnS,Xx,QgE,QDp a5 a6 h5,Qn0 a7 5 100000 h7,Qn0 a8 4 3 h8,Vo a9 a10 h9 h10,Qrt a11 h11,QC8 a0 a1 a2 a3 a4 a5 a6 a7 a8 a9 a10 a11 h8,QQ0,Qoa]
 have key:okL (-1) a8=(decide (((a8.length:Nat):Int)<=4)&&(a8.all fun x=>inR x 0 3)&&Qda (a8.getD 0 0) (a8.drop 1)):=by
  cases hk:okL (-1) a8
  ·rw[Qz2]at hk
   cases ha:a8.all fun x=>inR x 0 3
   ·simp
   ·rw[ha]at hk
    simp only[QRd]at hk
    cases hc:a8 with
    |nil=>rw[hc]at hk;simp[Qda]at hk
    |cons x l=>
     rw[hc]at hk ha
     simp only[QY25,QQ5]at ha
     have:=QFf ha.1
     simp only[Qda,dt this,QRd]at hk
     simp[hk]
  ·have hl:=QvU _ _ hk (by omega)
   have hl4:((a8.length:Nat):Int)<=4:=by
    rcases hl with h|h
    ·omega
    ·rw[h];simp
   rw[Qz2]at hk
   simp only[QQ5]at hk
   rw[dt hl4,hk.1]
   cases hc:a8 with
   |nil=>rfl
   |cons x l=>
    have:=hk.2
    rw[hc]at this
    simp only[Qda,QQ5]at this
    simp[this.2]
 rw[key]
 cases inR a0 0 5
 case false=>simp
 cases inR a1 0 4
 case false=>simp
 cases inR a2 0 4
 case false=>simp
 cases decide (a1=a2)
 case true=>simp
 cases inR a3 0 100000
 case false=>simp
 cases inR a4 0 100000
 case false=>simp
 cases Qgv (a5,a6)
 case false=>simp
 cases decide (((a7.length:Nat):Int)<=5)
 case false=>simp
 cases a7.all fun x=>inR x 0 100000
 case false=>simp
 cases decide (((a8.length:Nat):Int)<=4)
 case false=>simp
 cases a8.all fun x=>inR x 0 3
 case false=>simp
 cases QK (a9,a10)
 case false=>simp
 cases QR (-1) a11
 case false=>simp
 cases Qda (a8.getD 0 0) (a8.drop 1)<;>rfl
theorem QhX:(p:Int)->(l:List Qb)->QR p l=true->∀x∈l,inR x.1 0 4=true/\inR x.2 1 1000=true
 |_,[],_=>by simp
 |p,x::l,h=>by
  simp only[QR,QQ5]at h
  intro y hy
  rcases QRk.1 hy with rfl|hy
  ·exact⟨h.1.1.1,h.1.1.2⟩
  ·exact QhX _ l h.2 y hy
theorem lenW' {α:Type}{ns:List α}(h:ns.length<=maxLen):wR (((ns.length:Nat):Int) - 1)=((ns.length:Nat):Int) - 1:=by
 simp only[maxLen]at h
 exact w64 (by omega) (by omega)
def Qdm (r:List Int):List Qb->List Int
 | []=>r
 |m::l=>Qdm (r.set m.1.toNat (mxI (rd1 0 r m.1) m.2)) l
def KX (t:List (List Int)) (k:Int) (l:List Qb):List (List Int):=bif inR k 0 ((t.length:Nat) - 1)&&(QR (-1) l&& !decide (((List.length (rd1 ([]:List Int) t k):Nat):Int)<5))then t.set k.toNat (Qdm (rd1 ([]:List Int) t k) l)else t
theorem Qn3 {x:Int}{n:Nat}(h:inR x 0 4=true) (hn:5<=n):∃i:Nat,x=(i:Int)/\i<n:=by
 simp only[inR,QQ5,QRu]at h
 exact⟨x.toNat,by omega,by omega⟩
theorem Qro (t:List (List Int)) (k:Int) (l:List Qb) (h:Xr t<=4294967296) (hl:l.length<=maxLen):KZ w (t,k,l)=some (KX t k l):=by
 apply Qsl
 have ht:t.length<=maxLen:=by simp only[Xr]at h;simp only[maxLen];omega
 simp only[Qhl,Qpz t h,lenW' ht,Xi,Qut l hl,QQ0,KX]
 cases hk:inR k 0 ((t.length:Nat) - 1)
 ·rfl
 ·obtain⟨j,rfl,hj⟩:=YK hk
  cases ho:QR (-1) l
  ·rfl
  ·simp only[Qj hj,QQ1,QQ3,QQ2,QRd]
   by_cases h5:((List.length (rd1 ([]:List Int) t (j:Int)):Nat):Int)<5
   ·rw[dt h5];rfl
   ·rw[df h5]
    have hm:=QhX _ _ ho
    have e:=Xd l.length (fun i (s:List (List Int))=>VZ wl ((j:Int),l,((l.length:Nat):Int),(i:Int),s)) (fun i s=>s.set j (Qdm (rd1 ([]:List Int) s (j:Int)) (l.drop i))) (fun i s=>s.length=t.length/\5<=(rd1 ([]:List Int) s (j:Int)).length)
     (fun i hi s hs ih=>by
       apply QdE
       obtain⟨n,hn,hn5⟩:=Qn3 (hm _ (QRf hi)).1 hs.2
       simp only[vY,ilt hi,Qj hi,Qf hi,inc hi hl,QQ1,Qj (show j<s.length by omega),hn,Qj hn5,QRb]
       have hr:=Y6 (d:=([]:List Int)) (v:=(rd1 ([]:List Int) s (j:Int)).set n (mxI (rd1 0 (rd1 ([]:List Int) s (j:Int)) (n:Int)) l[i].2)) (show j<s.length by omega)
       rw[ih _ (by rw[hr];simp[hs])]
       rw[hr,QY11,QRa hi,Qdm,hn,QRb])
     (fun s hs=>by
       apply QdE
       simp only[vY,Qo,QQ2,QRl,Qdm]
       rw[Qf (show j<s.length by omega),List.set_getElem_self])
     t (by omega)
    simp only[QQ6,QRg]at e
    simp only[e,QQ0,QQ2,QQ4,QQ1,QRb]
theorem Qp8 (t:List (List Int)) (k:Int) (l:List Qb) (h:Xr t<=4294967296) (hl:l.length<=maxLen):K1 w (t,k,l)=some (KX t k l):=by
 apply Qr4
 have ht:t.length<=maxLen:=by simp only[Xr]at h;simp only[maxLen];omega
 simp only[Qho,Qxt t h,lenW' ht,Xx,Qrt l hl,QQ0,KX]
 cases hk:inR k 0 ((t.length:Nat) - 1)
 ·rfl
 ·obtain⟨j,rfl,hj⟩:=YK hk
  cases ho:QR (-1) l
  ·rfl
  ·simp only[Qj hj,QQ1,QQ3,QQ2,QRd]
   by_cases h5:((List.length (rd1 ([]:List Int) t (j:Int)):Nat):Int)<5
   ·rw[dt h5];rfl
   ·rw[df h5]
    have hm:=QhX _ _ ho
    have e:=Xd l.length (fun i (s:List (List Int))=>VT wl ((j:Int),l,(i:Int),s)) (fun i s=>s.set j (Qdm (rd1 ([]:List Int) s (j:Int)) (l.drop i))) (fun i s=>s.length=t.length/\5<=(rd1 ([]:List Int) s (j:Int)).length)
     (fun i hi s hs ih=>by
       apply QdA
       obtain⟨n,hn,hn5⟩:=Qn3 (hm _ (QRf hi)).1 hs.2
       simp only[vZ,ilt hi,Qj hi,Qf hi,inc hi hl,QQ1,Qj (show j<s.length by omega),hn,Qj hn5,QRb,QyY,QQ0]
       have hr:=Y6 (d:=([]:List Int)) (v:=(rd1 ([]:List Int) s (j:Int)).set n (mxI (rd1 0 (rd1 ([]:List Int) s (j:Int)) (n:Int)) l[i].2)) (show j<s.length by omega)
       rw[ih _ (by rw[hr];simp[hs])]
       rw[hr,QY11,QRa hi,Qdm,hn,QRb])
     (fun s hs=>by
       apply QdA
       simp only[vZ,Qo,QQ2,QRl,Qdm]
       rw[Qf (show j<s.length by omega),List.set_getElem_self])
     t (by omega)
    simp only[QQ6,QRg]at e
    simp only[e,QQ0,QQ2,QQ4,QQ1,QRb]
def Qj3 (id:Int):Nat->Int->List (List Int)->Int⊕Int
 |_,m,[]=> .inr m
 |k,m,r::l=>bif inR id 0 ((r.length:Nat) - 1)then(bif decide (k=0)||decide (rd1 0 r id<m)then Qj3 id (k+1) (rd1 0 r id) l else Qj3 id (k+1) m l)else .inl 0
def common (t:List (List Int)) (id:Int):Int:=Sum.elim (fun u=>u) (fun z=>z) (Qj3 id 0 0 t)
theorem QFd (t:List (List Int)) (id:Int) (ht:t.length<=maxLen) (hr:∀r∈t,r.length<=maxLen):Qez w (t,id)=some (common t id):=by
 apply QvD
 have e:=Xd t.length (fun i (m:Int)=>Y3 wl (id,m,t,((t.length:Nat):Int),(i:Int))) (fun i m=>Qj3 id i m (t.drop i)) (fun _ _=>True)
  (fun i hi m _ ih=>by
    apply Qhx
    simp only[Qeg,ilt hi,Qj hi,Qf hi,inc hi ht,QQ1,lenW' (hr _ (QRf hi)),Xi,QQ0]
    rw[QRa hi,Qj3]
    cases hk:inR id 0 ((t[i].length:Nat) - 1)
    ·rfl
    ·obtain⟨j,rfl,hj⟩:=YK hk
     simp only[QQ3,QQ1,QQ2,Qj hj]
     by_cases h0:i=0
     ·rw[dt (show(i:Int)=0 by omega),dt h0];simp only[QQ1,Bool.true_or];exact ih _ trivial
     ·rw[df (show¬(i:Int)=0 by omega),df h0]
      cases decide (rd1 0 t[i] (j:Int)<m)<;>exact ih _ trivial)
  (fun m _=>by
    apply Qhx
    simp only[Qeg,Qo,QQ2,QRl,Qj3]) 0 trivial
 simp only[QQ6,QRg]at e
 simp only[Ql4,e,QQ0,common]
 cases Qj3 id 0 0 t<;>rfl
theorem QDs (t:List (List Int)) (id:Int) (ht:t.length<=maxLen) (hr:∀r∈t,r.length<=maxLen):Qe5 w (t,id)=some (common t id):=by
 apply QwM
 have e:=Xd t.length (fun i (m:Int)=>YY wl (t,id,m,(i:Int))) (fun i m=>Qj3 id i m (t.drop i)) (fun _ _=>True)
  (fun i hi m _ ih=>by
    apply QhT
    simp only[Qd4,ilt hi,Qj hi,Qf hi,inc hi ht,QQ1,lenW' (hr _ (QRf hi)),Xx,QQ0]
    rw[QRa hi,Qj3]
    cases hk:inR id 0 ((t[i].length:Nat) - 1)
    ·rfl
    ·obtain⟨j,rfl,hj⟩:=YK hk
     simp only[QQ3,QQ1,QQ2,Qj hj]
     by_cases h0:i=0
     ·rw[dt (show(i:Int)=0 by omega),dt h0];simp only[QQ1,Bool.true_or];exact ih _ trivial
     ·rw[df (show¬(i:Int)=0 by omega),df h0]
      cases decide (rd1 0 t[i] (j:Int)<m)<;>exact ih _ trivial)
  (fun m _=>by
    apply QhT
    simp only[Qd4,Qo,QQ2,QRl,Qj3]) 0 trivial
 simp only[QQ6,QRg]at e
 simp only[Qk2,e,QQ0,common]
 by_cases h0:((t.length:Nat):Int)=0
 ·rw[dt h0]
  obtain rfl:t=[]:=List.length_eq_zero_iff.1 (by omega)
  rfl
 ·rw[df h0]
  cases Qj3 id 0 0 t<;>rfl
def Qig (s:Qk) (t:List (List Int)) (i:Nat):List Qb:=bif decide (0<mnI (common t (i:Int)) (Zb s (i:Int)))then [((i:Int),mnI (common t (i:Int)) (Zb s (i:Int)))]else []
def QnR (s:Qk) (t:List (List Int)):Qk:=([],(List.range' 0 5).flatMap (Qig s t))
def prune (s:Qk) (t:List (List Int)):Qk:=bif QK s then join s (QnR s t)else s
theorem QmM (s:Qk) (t:List (List Int)):QK (QnR s t)=true:=by
 simp only[QK,QQ5]
 refine⟨za _ (fun i hi=> ?_) 5 0 (-1) (by omega) (by simp),rfl⟩
 have h:=Qs2 s (i:Int)
 unfold Qig
 by_cases h0:0<mnI (common t (i:Int)) (Zb s (i:Int))
 ·refine Or.inr ⟨mnI (common t (i:Int)) (Zb s (i:Int)),by simp[h0], ?_⟩
  have:mnI (common t (i:Int)) (Zb s (i:Int))<=Zb s (i:Int):=by unfold mnI;split<;>omega
  simp[inR];omega
 ·exact Or.inl (by simp[h0])
theorem QDW {s:Qk}(h:QK s=true) (t:List (List Int)):QK (prune s t)=true:=by
 unfold prune;rw[h];exact xG h (QmM s t)
theorem QGn (s:Qk) (t:List (List Int)) (hs:smS s) (hz:QF s<=4294967296) (ht:t.length<=maxLen) (hr:∀r∈t,r.length<=maxLen):Qc0 w (s.1,s.2,t)=some (prune s t):=by
 apply QxP
 simp only[Qm4,Yp s.1 s.2 hs.1 hs.2,yp s hz,QQ0,prune]
 cases h:QK s
 ·rfl
 ·have e:=Xd 5 (fun i (f:List Qb)=>Ji wl (t,(i:Int),s.1,s.2,[],f)) (fun i f=>(s.1,s.2,([]:List Qg),f++(List.range' i (5 - i)).flatMap (Qig s t))) (fun i f=>f.length<=i)
   (fun i hi f hf ih=>by
     apply QiM
     simp only[Qg5,Qv4 hi,QwK hi,QQ1,QFd t _ ht hr,Qw6 s.1 s.2 _ hs.1 hs.2,QQ0]
     rw[ZX hi]
     simp only[Qig,Qw (show(f.length+([((i:Int),mnI (common t (i:Int)) (Zb s (i:Int)))]:List Qb).length)*16<=140737488351232 by simp;omega),QQ1]
     cases decide (0<mnI (common t (i:Int)) (Zb s (i:Int)))<;>simp only[QQ1,QQ2,QRe]
     ·exact ih f (by omega)
     ·rw[ih _ (by simp;omega)];simp)
   (fun f _=>by
     apply QiM
     simp[Qg5]) [] (by simp)
  simp only[QQ6,QRe,Nat.sub_zero]at e
  simp only[e,QQ0,QQ3,QQ2,QQ1]
  have:=Qcc s (QnR s t) hs (ZB (QmM s t))
  simp only[QnR]at this⊢
  simp only[this,QQ0]
theorem QEx (s:Qk) (t:List (List Int)) (hs:smS s) (hz:QF s<=4294967296) (ht:t.length<=maxLen) (hr:∀r∈t,r.length<=maxLen):Qa9 w (s.1,s.2,t)=some (prune s t):=by
 apply QxJ
 simp only[QmY,Vo s.1 s.2 hs.1 hs.2,Qf6 s hz,QQ0,prune]
 cases h:QK s
 ·rfl
 ·have e:=Xd 5 (fun i (f:List Qb)=>Je wl (t,(i:Int),s.1,s.2,[],f)) (fun i f=>(s.1,s.2,([]:List Qg),f++(List.range' i (5 - i)).flatMap (Qig s t))) (fun i f=>f.length<=i)
   (fun i hi f hf ih=>by
     apply QiG
     simp only[Qg7,Qv4 hi,QwK hi,QQ1,QDs t _ ht hr,QtO s.1 s.2 _ hs.1 hs.2,Qzb,QQ0]
     rw[ZX hi]
     simp only[Qig,Qw (show(f.length+([((i:Int),mnI (common t (i:Int)) (Zb s (i:Int)))]:List Qb).length)*16<=140737488351232 by simp;omega),QQ1]
     cases decide (0<mnI (common t (i:Int)) (Zb s (i:Int)))<;>simp only[QQ1,QQ2,QRe]
     ·exact ih f (by omega)
     ·rw[ih _ (by simp;omega)];simp)
   (fun f _=>by
     apply QiG
     simp[Qg7]) [] (by simp)
  simp only[QQ6,QRe,Nat.sub_zero]at e
  simp only[e,QQ0,QQ3,QQ2,QQ1]
  have:=Qmk s (QnR s t) h (QmM s t)
  simp only[QnR]at this⊢
  simp only[this,QQ0]
def Zu (v:List Int) (k n:Int):List Int:=bif inR k 0 ((v.length:Nat) - 1)then v.set k.toNat (mxI (rd1 0 v k) n)else v
theorem QrJ (v:List Int) (k n:Int) (h:v.length<=4294967296):Jc w (v,k,n)=some (Zu v k n):=by
 apply Qsg
 have ht:v.length<=maxLen:=by simp only[maxLen];omega
 simp only[Qhz,Qal v h,lenW' ht,Xi,QQ0,Zu]
 cases hk:inR k 0 ((v.length:Nat) - 1)
 ·rfl
 ·obtain⟨j,rfl,hj⟩:=YK hk
  simp only[Qj hj,QQ1]
theorem Qpu (v:List Int) (k n:Int) (h:v.length<=4294967296):Jj w (v,k,n)=some (Zu v k n):=by
 apply Qr5
 have ht:v.length<=maxLen:=by simp only[maxLen];omega
 simp only[QhQ,QY9,QRe,QRo,Qw (show v.length*8<=140737488351232 by omega),lenW' ht,Xx,QQ0,Zu,QQ1]
 cases hk:inR k 0 ((v.length:Nat) - 1)
 ·rfl
 ·obtain⟨j,rfl,hj⟩:=YK hk
  simp only[Qj hj,QQ1,Qf hj,QRb]
  by_cases hn:v[j]<n
  ·rw[dt hn];simp only[QQ1];congr 2;unfold mxI;split<;>omega
  ·rw[df hn];simp only[QQ2]
   have:mxI v[j] n=v[j]:=by unfold mxI;split<;>omega
   rw[this,List.set_getElem_self]
def Qjj (a b:List Int) (i:Nat):List Int:=bif decide (((a.length:Nat):Int)=4)&&decide (((b.length:Nat):Int)=4)&&decide (rd1 0 a (i:Int)=rd1 0 b (i:Int))then []else [(i:Int)]
def differ (a:List Int) (ra:Int) (b:List Int) (rb:Int):List Int:=bif decide (ra=rb)then []else(List.range' 0 4).flatMap (Qjj a b)
theorem QJi {i:Nat}(h:i<4):wR ((i:Int)+1)=((i+1:Nat):Int):=by
 rw[w64 (by omega) (by omega)];omega
theorem Qxm (a:List Int) (ra:Int) (b:List Int) (rb:Int):vj w (a,ra,b,rb)=some (differ a ra b rb):=by
 apply Qvr
 have e:=fun wh (hw:wh=(decide (((a.length:Nat):Int)=4)&&decide (((b.length:Nat):Int)=4)))=>Xd 4 (fun i (f:List Int)=>Ya wl (wh,(i:Int),a,ra,b,rb,f)) (fun i f=>f++(List.range' i (4 - i)).flatMap (Qjj a b)) (fun i f=>f.length<=i)
  (fun i hi f hf ih=>by
    apply QhR
    have hf:fits (f.length+([(i:Int)]:List Int).length) 8=true:=Qw (by simp;omega)
    simp only[QdY,QDv hi,QJi hi,QQ1,hf]
    rw[ZX hi]
    simp only[Qjj,<-hw]
    cases wh
    ·simp only[QQ4,QQ1,QRm,QQ2]
     rw[ih _ (by simp;omega)];simp
    ·have hw':=hw.symm
     simp only[QQ5,QRu]at hw'
     simp only[QQ3,QQ2,Qj (show i<a.length by omega),Qj (show i<b.length by omega),QQ1,QRd]
     cases decide (rd1 0 a (i:Int)=rd1 0 b (i:Int))<;>simp only[QQ3,QQ4,QQ1,QQ2,QRe]
     ·rw[ih _ (by simp;omega)];simp
     ·exact ih f (by omega))
  (fun f _=>by
    apply QhR
    simp[QdY]) [] (by simp)
 simp only[QQ6,QRe,Nat.sub_zero]at e
 simp only[Qk5,differ]
 cases decide (ra=rb)
 ·by_cases h4:((a.length:Nat):Int)=4
  ·rw[dt h4];simp only[QQ1,QQ2]
   rw[e _ (by rw[dt h4,QRd])];rfl
  ·rw[df h4];simp only[QQ2]
   rw[e _ (by rw[df h4,QRm])];rfl
 ·rfl
theorem QuY (a:List Int) (ra:Int) (b:List Int) (rb:Int):vk w (a,ra,b,rb)=some (differ a ra b rb):=by
 apply QvN
 have e:=Xd 4 (fun i (f:List Int)=>Z9 wl ((i:Int),a,ra,b,rb,f)) (fun i f=>f++(List.range' i (4 - i)).flatMap (Qjj a b)) (fun i f=>f.length<=i)
  (fun i hi f hf ih=>by
    apply Qhd
    have hf:fits (f.length+([(i:Int)]:List Int).length) 8=true:=Qw (by simp;omega)
    simp only[QdQ,QDv hi,QJi hi,QQ1,hf]
    rw[ZX hi]
    simp only[Qjj]
    by_cases h4:((a.length:Nat):Int)=4
    ·by_cases h4':((b.length:Nat):Int)=4
     ·simp only[dt h4,dt h4',QQ3,QQ2,Qj (show i<a.length by omega),Qj (show i<b.length by omega),QQ1,QRd]
      cases decide (rd1 0 a (i:Int)=rd1 0 b (i:Int))<;>simp only[QQ3,QQ4,QQ1,QQ2,QRe]
      ·rw[ih _ (by simp;omega)];simp
      ·exact ih f (by omega)
     ·simp only[dt h4,df h4',QQ3,QQ4,QQ2,QQ1,QY7,QRm]
      rw[ih _ (by simp;omega)];simp
    ·simp only[df h4,QQ4,QQ1,QRm,QQ2]
     rw[ih _ (by simp;omega)];simp)
  (fun f _=>by
    apply Qhd
    simp[QdQ]) [] (by simp)
 simp only[QQ6,QRe,Nat.sub_zero]at e
 simp only[QlB,differ,e]
 cases decide (ra=rb)<;>rfl
theorem Qea {s:Qk}(h:QK s=true):QF s<=60:=by
 have hl:=qo h
 simp only[QK,QQ5]at h
 have:=Qxw _ _ _ h.2
 simp only[QF,XO,XI];omega
theorem Qii {α:Type}(c:α->Nat) (k:Nat):(l:List α)->(∀x∈l,c x<=k)->Qi c l<=k*l.length
 | [],_=>by simp[Qi]
 |x::l,h=>by
  have:=h x (by simp)
  have:=Qii c k l (fun y hy=>h y (by simp[hy]))
  simp only[Qi,QY8,Nat.mul_add];omega
structure NOk (x:Qa):Prop where
 n:inR x.2.1 1 5=true
 id:inR x.1 0 (x.2.1 - 1)=true
 st:QK (x.2.2.1,x.2.2.2.1)=true
 tree:(x.2.2.2.2.1,x.2.2.2.2.2.1)=X1 (x.2.2.1,x.2.2.2.1)
 log:Yr (x.2.2.2.2.2.2.1,x.2.2.2.2.2.2.2.1,x.2.2.2.2.2.2.2.2.1)=true
 got:YR x.2.2.2.2.2.2.2.2.2.1 x.2.1=true
 ack:YR x.2.2.2.2.2.2.2.2.2.2.1 x.2.1=true
 own:x.2.2.2.2.2.2.2.2.2.1.getD (x.1).toNat 0=Xo (x.2.2.2.2.2.2.1,x.2.2.2.2.2.2.2.1,x.2.2.2.2.2.2.2.2.1)
 heard:(x.2.2.2.2.2.2.2.2.2.2.1.all fun y=>decide (y<=Xo (x.2.2.2.2.2.2.1,x.2.2.2.2.2.2.2.1,x.2.2.2.2.2.2.2.2.1)))=true
 seen:KO x.2.2.2.2.2.2.2.2.2.2.2.1 x.2.1=true
 num:inR x.2.2.2.2.2.2.2.2.2.2.2.2.1 0 100000=true
 clock:inR x.2.2.2.2.2.2.2.2.2.2.2.2.2.2.2.2.2.1 0 100000=true
 wait:inR x.2.2.2.2.2.2.2.2.2.2.2.2.2.2.2.1 1 20=true
 limit:inR x.2.2.2.2.2.2.2.2.2.2.2.2.2.2.2.2.1 1 50=true
 slots:inR x.2.2.2.2.2.2.2.2.2.2.2.2.2.1 1 4=true
 room:((x.2.2.2.2.2.2.2.2.2.2.2.2.2.2.1.length:Nat):Int)<=x.2.2.2.2.2.2.2.2.2.2.2.2.2.1
 sess:X0 x.1 x.2.1 x.2.2.2.2.2.2.2.2.2.2.2.2.2.2.2.1 [] x.2.2.2.2.2.2.2.2.2.2.2.2.2.2.1=true
 rlen:((x.2.2.2.2.2.2.2.2.2.2.2.2.2.2.2.2.2.2.length:Nat):Int)=5
 rises:x.2.2.2.2.2.2.2.2.2.2.2.2.2.2.2.2.2.2.all (ZN x.2.2.2.2.2.2.2.2.2.2.2.2.2.2.2.2.2.1)=true
theorem nok {x:Qa}(h:Vr x=true):NOk x:=by
 simp only[Vr,Qkd,QQ5,QRu]at h
 obtain⟨⟨⟨⟨⟨⟨⟨⟨⟨⟨⟨⟨⟨⟨⟨⟨⟨⟨h1,h2⟩,h3⟩,h4⟩,h5⟩,h6⟩,h7⟩,h8⟩,h9⟩,h10⟩,h11⟩,h12⟩,h13⟩,h14⟩,h15⟩,h16⟩,h17⟩,h18⟩,h19⟩:=h
 exact⟨h1,h2,h3,h4,h5,h6,h7,h8,h9,h10,h11,h12,h13,h14,h15,h16,h17,h18,h19⟩
theorem QEQ {x:Qa}(h:NOk x):Vr x=true:=by
 simp only[Vr,Qkd,QQ5,QRu]
 exact⟨⟨⟨⟨⟨⟨⟨⟨⟨⟨⟨⟨⟨⟨⟨⟨⟨⟨h.n,h.id⟩,h.st⟩,h.tree⟩,h.log⟩,h.got⟩,h.ack⟩,h.own⟩,h.heard⟩,h.seen⟩,h.num⟩,h.clock⟩,h.wait⟩,h.limit⟩,h.slots⟩,h.room⟩,h.sess⟩,h.rlen⟩,h.rises⟩
theorem Q0 {n a b:Int}:inR n a b=true↔a<=n/\n<=b:=by simp[inR]
theorem QgO {v:List Int}{n:Int}(h:YR v n=true):((v.length:Nat):Int)=n/\∀y∈v,inR y 0 100000=true:=by
 simp only[YR,QQ5,QRu,QRt]at h
 exact⟨h.1.2,h.2⟩
theorem QE9 {g:ZL}(h:Yr g=true):∀s∈g.2.2,QK s=true:=by
 simp only[Yr,QQ5,QRt]at h
 exact h.2
theorem QkJ {t:List (List Int)}{n:Int}(h:KO t n=true):((t.length:Nat):Int)=n/\∀r∈t,xS r=true:=by
 simp only[KO,QQ5,QRu,QRt]at h
 exact⟨h.1.2,h.2⟩
theorem Qlc {r:List Int}(h:xS r=true):r.length=5:=by
 simp only[xS,QQ5,QRu]at h
 omega
theorem Xp {x:Qa}(h:NOk x):Q7 x<=2000/\Qze x:=by
 have h1:=qo h.st
 have h2:=Qea h.st
 have h3:x.2.2.2.2.1.length=4:=by
  have:=h.tree
  rw[X1,h.st]at this
  have:=congrArg (fun z:X5=>z.1.length) this
  simpa[leaves]using this
 have h4:=Qh8 h.log
 have h5:=QE9 h.log
 have h6:=QgO h.got
 have h7:=QgO h.ack
 have h8:=QkJ h.seen
 have hn:=Q0.1 h.n
 have hs:=Q0.1 h.slots
 have hr:=h.room
 have hl:=h.rlen
 have k1:Qi QF x.2.2.2.2.2.2.2.2.1<=60*x.2.2.2.2.2.2.2.2.1.length:=Qii _ _ _ fun s hs=>Qea (h5 s hs)
 have k2:Qi QS x.2.2.2.2.2.2.2.2.2.2.2.1<=5*x.2.2.2.2.2.2.2.2.2.2.2.1.length:=Qii _ _ _ fun r hr=>by
  have:=Qlc (h8.2 r hr)
  simp only[QS];omega
 try simp only at h1 h4 h5
 constructor
 ·simp only[Q7,Zq,Z8,XQ,QS,Xr,ZZ,Z0]
  omega
 ·refine⟨by simp only[maxLen];omega,by simp only[maxLen];omega,by simp only[maxLen];omega,by simp only[maxLen];omega,fun s hs=>ZB (h5 s hs),by simp only[maxLen];omega,by simp only[maxLen];omega,by simp only[maxLen];omega,fun r hr=> ?_,by simp only[maxLen];omega,by simp only[maxLen];omega⟩
  have:=Qlc (h8.2 r hr)
  simp only[maxLen];omega
theorem Qyk {x:Qa}(h:NOk x):ZW w (x.1,x.2.1,x.2.2.1,x.2.2.2.1,x.2.2.2.2.1,x.2.2.2.2.2.1,x.2.2.2.2.2.2.1,x.2.2.2.2.2.2.2.1,x.2.2.2.2.2.2.2.2.1,x.2.2.2.2.2.2.2.2.2.1,x.2.2.2.2.2.2.2.2.2.2.1,x.2.2.2.2.2.2.2.2.2.2.2.1,x.2.2.2.2.2.2.2.2.2.2.2.2.1,x.2.2.2.2.2.2.2.2.2.2.2.2.2.1,x.2.2.2.2.2.2.2.2.2.2.2.2.2.2.1,x.2.2.2.2.2.2.2.2.2.2.2.2.2.2.2.1,x.2.2.2.2.2.2.2.2.2.2.2.2.2.2.2.2.1,x.2.2.2.2.2.2.2.2.2.2.2.2.2.2.2.2.2.1,x.2.2.2.2.2.2.2.2.2.2.2.2.2.2.2.2.2.2)=some x:=Qrg x (by have:=(Xp h).1;omega)
theorem Qky {x:Qa}(h:NOk x):Xt w (x.1,x.2.1,x.2.2.1,x.2.2.2.1,x.2.2.2.2.1,x.2.2.2.2.2.1,x.2.2.2.2.2.2.1,x.2.2.2.2.2.2.2.1,x.2.2.2.2.2.2.2.2.1,x.2.2.2.2.2.2.2.2.2.1,x.2.2.2.2.2.2.2.2.2.2.1,x.2.2.2.2.2.2.2.2.2.2.2.1,x.2.2.2.2.2.2.2.2.2.2.2.2.1,x.2.2.2.2.2.2.2.2.2.2.2.2.2.1,x.2.2.2.2.2.2.2.2.2.2.2.2.2.2.1,x.2.2.2.2.2.2.2.2.2.2.2.2.2.2.2.1,x.2.2.2.2.2.2.2.2.2.2.2.2.2.2.2.2.1,x.2.2.2.2.2.2.2.2.2.2.2.2.2.2.2.2.2.1,x.2.2.2.2.2.2.2.2.2.2.2.2.2.2.2.2.2.2)=some x:=Qt0 x (by have:=(Xp h).1;omega)
theorem okN {x:Qa}(h:NOk x):ZO w (x.1,x.2.1,x.2.2.1,x.2.2.2.1,x.2.2.2.2.1,x.2.2.2.2.2.1,x.2.2.2.2.2.2.1,x.2.2.2.2.2.2.2.1,x.2.2.2.2.2.2.2.2.1,x.2.2.2.2.2.2.2.2.2.1,x.2.2.2.2.2.2.2.2.2.2.1,x.2.2.2.2.2.2.2.2.2.2.2.1,x.2.2.2.2.2.2.2.2.2.2.2.2.1,x.2.2.2.2.2.2.2.2.2.2.2.2.2.1,x.2.2.2.2.2.2.2.2.2.2.2.2.2.2.1,x.2.2.2.2.2.2.2.2.2.2.2.2.2.2.2.1,x.2.2.2.2.2.2.2.2.2.2.2.2.2.2.2.2.1,x.2.2.2.2.2.2.2.2.2.2.2.2.2.2.2.2.2.1,x.2.2.2.2.2.2.2.2.2.2.2.2.2.2.2.2.2.2)=some true:=by rw[<-QEQ h];exact QyE x (Xp h).2
theorem QHb {x:Qa}(h:NOk x):Ka w (x.1,x.2.1,x.2.2.1,x.2.2.2.1,x.2.2.2.2.1,x.2.2.2.2.2.1,x.2.2.2.2.2.2.1,x.2.2.2.2.2.2.2.1,x.2.2.2.2.2.2.2.2.1,x.2.2.2.2.2.2.2.2.2.1,x.2.2.2.2.2.2.2.2.2.2.1,x.2.2.2.2.2.2.2.2.2.2.2.1,x.2.2.2.2.2.2.2.2.2.2.2.2.1,x.2.2.2.2.2.2.2.2.2.2.2.2.2.1,x.2.2.2.2.2.2.2.2.2.2.2.2.2.2.1,x.2.2.2.2.2.2.2.2.2.2.2.2.2.2.2.1,x.2.2.2.2.2.2.2.2.2.2.2.2.2.2.2.2.1,x.2.2.2.2.2.2.2.2.2.2.2.2.2.2.2.2.2.1,x.2.2.2.2.2.2.2.2.2.2.2.2.2.2.2.2.2.2)=some true:=by rw[<-QEQ h];exact Qxj x (Xp h).2
def xV (c:Int) (rs:List QM) (x:Qg):List QM:=bif decide ((rd1 Zc rs x.1).1<x.2.1)then rs.set x.1.toNat (x.2.1,x.2.2.2.1,c)else(bif decide (x.2.1=(rd1 Zc rs x.1).1)then(bif decide ((rd1 Zc rs x.1).2.1<x.2.2.2.1)then rs.set x.1.toNat (x.2.1,x.2.2.2.1,c)else rs)else rs)
def qN (c:Int):List QM->List Qg->List QM
 |rs,[]=>rs
 |rs,x::l=>qN c (xV c rs x) l
theorem Qkv (c:Int) (rs:List QM) (x:Qg):(xV c rs x).length=rs.length:=by
 unfold xV
 cases decide ((rd1 Zc rs x.1).1<x.2.1)<;>cases decide (x.2.1=(rd1 Zc rs x.1).1)<;>cases decide ((rd1 Zc rs x.1).2.1<x.2.2.2.1)<;>simp
theorem QrM (c:Int):(rs:List QM)->(l:List Qg)->(qN c rs l).length=rs.length
 |rs,[]=>rfl
 |rs,x::l=>by rw[qN,QrM c _ l,Qkv]
theorem Qux (fl:List Qb):(p:Int)->(l:List Qg)->Xu fl p l=true->∀x∈l,inR x.1 0 4=true/\Zd x.2=true
 |_,[],_=>by simp
 |p,x::l,h=>by
  simp only[Xu,QQ5]at h
  intro y hy
  rcases QRk.1 hy with rfl|hy
  ·exact⟨h.1.1.1.1,h.1.1.1.2⟩
  ·exact Qux fl _ l h.2 y hy
theorem Qn8 {s:Qk}(h:QK s=true):∀x∈s.1,inR x.1 0 4=true/\Zd x.2=true:=by
 simp only[QK,QQ5]at h
 exact Qux _ _ _ h.2
theorem QDS {c:Int}(hc:0<=c) {rs:List QM}(h:∀r∈rs,ZN c r=true) {x:Qg}(hx:Zd x.2=true):∀r∈rs.set x.1.toNat (x.2.1,x.2.2.2.1,c),ZN c r=true:=by
 intro r hr
 rcases QY35 hr with hr|rfl
 ·exact h r hr
 ·have:=Qou hx
  simp[ZN,inR];omega
theorem QBy {c:Int}(hc:0<=c) {rs:List QM}(h:∀r∈rs,ZN c r=true) {x:Qg}(hx:Zd x.2=true):∀r∈xV c rs x,ZN c r=true:=by
 have hs:=QDS hc h hx
 unfold xV
 cases decide ((rd1 Zc rs x.1).1<x.2.1)<;>cases decide (x.2.1=(rd1 Zc rs x.1).1)<;>cases decide ((rd1 Zc rs x.1).2.1<x.2.2.2.1)<;>simp only[QQ1,QQ2]<;>assumption
theorem Quc {c:Int}(hc:0<=c):(rs:List QM)->(l:List Qg)->(∀r∈rs,ZN c r=true)->(∀x∈l,Zd x.2=true)->∀r∈qN c rs l,ZN c r=true
 |rs,[],h,_=>h
 |rs,x::l,h,hl=>Quc hc _ l (QBy hc h (hl x (by simp))) fun y hy=>hl y (by simp[hy])
theorem Qxk:(l:List Qb)->(r:List Int)->xS r=true->(∀m∈l,inR m.2 1 1000=true)->xS (Qdm r l)=true
 | [],r,h,_=>h
 |m::l,r,h,hl=>by
  refine Qxk l _ ?_ fun y hy=>hl y (by simp[hy])
  have hm:=Q0.1 (hl m (by simp))
  simp only[xS,QQ5,QRt,QRu,QY6]at h⊢
  refine⟨fun y hy=> ?_,h.2⟩
  rcases QY35 hy with hy|rfl
  ·exact h.1 y hy
  ·have hq:0<=rd1 0 r m.1/\rd1 0 r m.1<=1000:=by
    unfold rd1
    by_cases hk:m.1.toNat<r.length
    ·have:=Q0.1 (h.1 _ (QRf hk))
     simpa[List.getD,QRp hk]using this
    ·simp[List.getD,List.getElem?_eq_none (Nat.le_of_not_lt hk)]
   rw[Q0]
   unfold mxI;split<;>omega
theorem QeK {t:List (List Int)}{n:Int}(h:KO t n=true) (k:Int) (l:List Qb):KO (KX t k l) n=true:=by
 unfold KX
 cases hk:inR k 0 ((t.length:Nat) - 1)
 ·exact h
 ·obtain⟨j,rfl,hj⟩:=YK hk
  cases ho:QR (-1) l
  ·exact h
  ·simp only[QRd]
   cases(!decide (((List.length (rd1 ([]:List Int) t (j:Int)):Nat):Int)<5))
   ·exact h
   ·have hl:=QhX _ _ ho
    simp only[KO,QQ5,QRt,QRu,QQ1,QY6]at h⊢
    refine⟨h.1,fun r hr=> ?_⟩
    rcases QY35 hr with hr|rfl
    ·exact h.2 r hr
    ·rw[Qf hj]
     exact Qxk l _ (h.2 _ (QRf hj)) fun m hm=>(hl m hm).2
theorem QpF (t:List (List Int)) (k:Int) (l:List Qb):(KX t k l).length=t.length:=by
 unfold KX;cases(inR k 0 ((t.length:Nat) - 1)&&(QR (-1) l&& !decide (((List.length (rd1 ([]:List Int) t k):Nat):Int)<5)))<;>simp
def ZC (x:Qa) (p:Qk):List (List Int):=KX x.2.2.2.2.2.2.2.2.2.2.2.1 x.1 (marksOf (join (x.2.2.1,x.2.2.2.1) p))
def Xg (x:Qa) (p:Qk):Qk:=prune (join (x.2.2.1,x.2.2.2.1) p) (ZC x p)
def take (x:Qa) (p:Qk):Qa:=(x.1,x.2.1,(Xg x p).1,(Xg x p).2,(X1 (Xg x p)).1,(X1 (Xg x p)).2,x.2.2.2.2.2.2.1,x.2.2.2.2.2.2.2.1,x.2.2.2.2.2.2.2.2.1,x.2.2.2.2.2.2.2.2.2.1,x.2.2.2.2.2.2.2.2.2.2.1,ZC x p,x.2.2.2.2.2.2.2.2.2.2.2.2.1,x.2.2.2.2.2.2.2.2.2.2.2.2.2.1,x.2.2.2.2.2.2.2.2.2.2.2.2.2.2.1,x.2.2.2.2.2.2.2.2.2.2.2.2.2.2.2.1,x.2.2.2.2.2.2.2.2.2.2.2.2.2.2.2.2.1,x.2.2.2.2.2.2.2.2.2.2.2.2.2.2.2.2.2.1,qN x.2.2.2.2.2.2.2.2.2.2.2.2.2.2.2.2.2.1 x.2.2.2.2.2.2.2.2.2.2.2.2.2.2.2.2.2.2 (Xg x p).1)
theorem QlF {x:Qa}(h:NOk x) {p:Qk}(hp:QK p=true):QK (Xg x p)=true:=QDW (xG h.st hp) _
theorem QoD {x:Qa}(h:NOk x) {p:Qk}(hp:QK p=true):NOk (take x p) where
 n:=h.n
 id:=h.id
 st:=QlF h hp
 tree:=rfl
 log:=h.log
 got:=h.got
 ack:=h.ack
 own:=h.own
 heard:=h.heard
 seen:=QeK h.seen _ _
 num:=h.num
 clock:=h.clock
 wait:=h.wait
 limit:=h.limit
 slots:=h.slots
 room:=h.room
 sess:=h.sess
 rlen:=by simp only[take,QrM];exact h.rlen
 rises:=QRt.2 (Quc (Q0.1 h.clock).1 _ _ (QRt.1 h.rises) fun y hy=>(Qn8 (QlF h hp) y hy).2)
set_option maxHeartbeats 1000000 in
theorem QBO (x:Qa) (h:NOk x) (p:Qk) (hp:QK p=true):QgK w (x.1,x.2.1,x.2.2.1,x.2.2.2.1,x.2.2.2.2.1,x.2.2.2.2.2.1,x.2.2.2.2.2.2.1,x.2.2.2.2.2.2.2.1,x.2.2.2.2.2.2.2.2.1,x.2.2.2.2.2.2.2.2.2.1,x.2.2.2.2.2.2.2.2.2.2.1,x.2.2.2.2.2.2.2.2.2.2.2.1,x.2.2.2.2.2.2.2.2.2.2.2.2.1,x.2.2.2.2.2.2.2.2.2.2.2.2.2.1,x.2.2.2.2.2.2.2.2.2.2.2.2.2.2.1,x.2.2.2.2.2.2.2.2.2.2.2.2.2.2.2.1,x.2.2.2.2.2.2.2.2.2.2.2.2.2.2.2.2.1,x.2.2.2.2.2.2.2.2.2.2.2.2.2.2.2.2.2.1,x.2.2.2.2.2.2.2.2.2.2.2.2.2.2.2.2.2.2,p.1,p.2)=some ((take x p).1,(take x p).2.1,(take x p).2.2.1,(take x p).2.2.2.1,(take x p).2.2.2.2.1,(take x p).2.2.2.2.2.1,(take x p).2.2.2.2.2.2.1,(take x p).2.2.2.2.2.2.2.1,(take x p).2.2.2.2.2.2.2.2.1,(take x p).2.2.2.2.2.2.2.2.2.1,(take x p).2.2.2.2.2.2.2.2.2.2.1,(take x p).2.2.2.2.2.2.2.2.2.2.2.1,(take x p).2.2.2.2.2.2.2.2.2.2.2.2.1,(take x p).2.2.2.2.2.2.2.2.2.2.2.2.2.1,(take x p).2.2.2.2.2.2.2.2.2.2.2.2.2.2.1,(take x p).2.2.2.2.2.2.2.2.2.2.2.2.2.2.2.1,(take x p).2.2.2.2.2.2.2.2.2.2.2.2.2.2.2.2.1,(take x p).2.2.2.2.2.2.2.2.2.2.2.2.2.2.2.2.2.1,(take x p).2.2.2.2.2.2.2.2.2.2.2.2.2.2.2.2.2.2,true):=by
 have hsm:=Xp h
 have hst:=ZB h.st
 have hjo:=xG h.st hp
 have hjs:=ZB hjo
 have hto:=QlF h hp
 have hts:=ZB hto
 have hmk:(marksOf (join (x.2.2.1,x.2.2.2.1) p)).length<=maxLen:=by
  have:=yk _ _ (jo (join (x.2.2.1,x.2.2.2.1) p)) (by omega)
  simp only[maxLen]
  rcases this with h|h
  ·omega
  ·rw[h];simp
 have hz11:Xr x.2.2.2.2.2.2.2.2.2.2.2.1<=4294967296:=(Kc (x:=x) (by omega)).2.2.2
 have hsl:(ZC x p).length<=maxLen:=by rw[ZC,QpF];exact hsm.2.2.2.2.2.2.2.2.1
 have hsr:∀r∈ZC x p,r.length<=maxLen:=fun r hr=>by
  have:=Qlc ((QkJ (QeK h.seen _ _)).2 r hr)
  simp only[maxLen];omega
 have hc:=Qyk h
 have hn:=okN h
 have hpo:XG w (p.1,p.2)=some true:=by rw[<-hp];exact Yp p.1 p.2 (ZB hp).1 (ZB hp).2
 have hj:Zi w (x.2.2.1,x.2.2.2.1,p.1,p.2)=some (join (x.2.2.1,x.2.2.2.1) p):=Qcc (x.2.2.1,x.2.2.2.1) p hst (ZB hp)
 have hm:qP w (join (x.2.2.1,x.2.2.2.1) p)=some (marksOf (join (x.2.2.1,x.2.2.2.1) p)):=Qur _ _ hjs.1 hjs.2
 have ht:KZ w (x.2.2.2.2.2.2.2.2.2.2.2.1,x.1,marksOf (join (x.2.2.1,x.2.2.2.1) p))=some (ZC x p):=Qro _ _ _ hz11 hmk
 have hpr:Qc0 w ((join (x.2.2.1,x.2.2.2.1) p).1,(join (x.2.2.1,x.2.2.2.1) p).2,ZC x p)=some (Xg x p):=QGn _ _ hjs (QY17 (Qea hjo) (by decide)) hsl hsr
 have htr:zm w (Xg x p)=some (X1 (Xg x p)):=Qxe _ _ hts.1 hts.2
 have e:=Xd (Xg x p).1.length (fun i (s:List QM)=>Kv wl ((((Xg x p).1.length:Nat):Int),(i:Int),x.1,x.2.1,x.2.2.1,x.2.2.2.1,x.2.2.2.2.1,x.2.2.2.2.2.1,x.2.2.2.2.2.2.1,x.2.2.2.2.2.2.2.1,x.2.2.2.2.2.2.2.2.1,x.2.2.2.2.2.2.2.2.2.1,x.2.2.2.2.2.2.2.2.2.2.1,x.2.2.2.2.2.2.2.2.2.2.2.1,x.2.2.2.2.2.2.2.2.2.2.2.2.1,x.2.2.2.2.2.2.2.2.2.2.2.2.2.1,x.2.2.2.2.2.2.2.2.2.2.2.2.2.2.1,x.2.2.2.2.2.2.2.2.2.2.2.2.2.2.2.1,x.2.2.2.2.2.2.2.2.2.2.2.2.2.2.2.2.1,x.2.2.2.2.2.2.2.2.2.2.2.2.2.2.2.2.2.1,x.2.2.2.2.2.2.2.2.2.2.2.2.2.2.2.2.2.2,x.1,x.2.1,(Xg x p).1,(Xg x p).2,(X1 (Xg x p)).1,(X1 (Xg x p)).2,x.2.2.2.2.2.2.1,x.2.2.2.2.2.2.2.1,x.2.2.2.2.2.2.2.2.1,x.2.2.2.2.2.2.2.2.2.1,x.2.2.2.2.2.2.2.2.2.2.1,ZC x p,x.2.2.2.2.2.2.2.2.2.2.2.2.1,x.2.2.2.2.2.2.2.2.2.2.2.2.2.1,x.2.2.2.2.2.2.2.2.2.2.2.2.2.2.1,x.2.2.2.2.2.2.2.2.2.2.2.2.2.2.2.1,x.2.2.2.2.2.2.2.2.2.2.2.2.2.2.2.2.1,x.2.2.2.2.2.2.2.2.2.2.2.2.2.2.2.2.2.1,s)) (fun i s=>(x.1,x.2.1,(Xg x p).1,(Xg x p).2,(X1 (Xg x p)).1,(X1 (Xg x p)).2,x.2.2.2.2.2.2.1,x.2.2.2.2.2.2.2.1,x.2.2.2.2.2.2.2.2.1,x.2.2.2.2.2.2.2.2.2.1,x.2.2.2.2.2.2.2.2.2.2.1,ZC x p,x.2.2.2.2.2.2.2.2.2.2.2.2.1,x.2.2.2.2.2.2.2.2.2.2.2.2.2.1,x.2.2.2.2.2.2.2.2.2.2.2.2.2.2.1,x.2.2.2.2.2.2.2.2.2.2.2.2.2.2.2.1,x.2.2.2.2.2.2.2.2.2.2.2.2.2.2.2.2.1,x.2.2.2.2.2.2.2.2.2.2.2.2.2.2.2.2.2.1,qN x.2.2.2.2.2.2.2.2.2.2.2.2.2.2.2.2.2.1 s ((Xg x p).1.drop i))) (fun _ s=>s.length=5)
  (fun i hi s hs ih=>by
    apply QkT
    obtain⟨n,hn,hn5⟩:=Qn3 (Qn8 hto _ (QRf hi)).1 (show 5<=s.length by omega)
    have hi':=ih (xV x.2.2.2.2.2.2.2.2.2.2.2.2.2.2.2.2.2.1 s (Xg x p).1[i]) (by rw[Qkv];exact hs)
    rw[QRa hi,qN]
    unfold xV at hi'⊢
    rw[hn]at hi'⊢
    simp only[QkA,ilt hi,Qj hi,Qf hi,inc hi hts.1,QQ1,hn,Qj hn5]
    revert hi'
    cases decide ((rd1 Zc s (n:Int)).1<(Xg x p).1[i].2.1)<;>cases decide ((Xg x p).1[i].2.1=(rd1 Zc s (n:Int)).1)<;>cases decide ((rd1 Zc s (n:Int)).2.1<(Xg x p).1[i].2.2.2.1)<;>simp only[QQ1,QQ2]<;>exact fun h=>h)
  (fun s _=>by
    apply QkT
    simp only[QkA,Qo,QQ2,QRl,qN]) x.2.2.2.2.2.2.2.2.2.2.2.2.2.2.2.2.2.2 (by have:=h.rlen;omega)
 simp only[QQ6,QRg]at e
 apply QzB
 simp only[Qo5,hc,hn,hpo,hj,hm,ht,hpr,htr,e,QQ0,QQ3,QQ2,take]
set_option maxHeartbeats 1000000 in
theorem QuS (x:Qa) (h:NOk x) (p:Qk) (hp:QK p=true):yy w (x.1,x.2.1,x.2.2.1,x.2.2.2.1,x.2.2.2.2.1,x.2.2.2.2.2.1,x.2.2.2.2.2.2.1,x.2.2.2.2.2.2.2.1,x.2.2.2.2.2.2.2.2.1,x.2.2.2.2.2.2.2.2.2.1,x.2.2.2.2.2.2.2.2.2.2.1,x.2.2.2.2.2.2.2.2.2.2.2.1,x.2.2.2.2.2.2.2.2.2.2.2.2.1,x.2.2.2.2.2.2.2.2.2.2.2.2.2.1,x.2.2.2.2.2.2.2.2.2.2.2.2.2.2.1,x.2.2.2.2.2.2.2.2.2.2.2.2.2.2.2.1,x.2.2.2.2.2.2.2.2.2.2.2.2.2.2.2.2.1,x.2.2.2.2.2.2.2.2.2.2.2.2.2.2.2.2.2.1,x.2.2.2.2.2.2.2.2.2.2.2.2.2.2.2.2.2.2,p.1,p.2)=some (take x p):=by
 have hsm:=Xp h
 have hst:=ZB h.st
 have hjo:=xG h.st hp
 have hjs:=ZB hjo
 have hto:=QlF h hp
 have hts:=ZB hto
 have hmk:(marksOf (join (x.2.2.1,x.2.2.2.1) p)).length<=maxLen:=by
  have:=yk _ _ (jo (join (x.2.2.1,x.2.2.2.1) p)) (by omega)
  simp only[maxLen]
  rcases this with h|h
  ·omega
  ·rw[h];simp
 have hz11:Xr x.2.2.2.2.2.2.2.2.2.2.2.1<=4294967296:=(Kc (x:=x) (by omega)).2.2.2
 have hsl:(ZC x p).length<=maxLen:=by rw[ZC,QpF];exact hsm.2.2.2.2.2.2.2.2.1
 have hsr:∀r∈ZC x p,r.length<=maxLen:=fun r hr=>by
  have:=Qlc ((QkJ (QeK h.seen _ _)).2 r hr)
  simp only[maxLen];omega
 have hc:=Qky h
 have hj:Yf w (x.2.2.1,x.2.2.2.1,p.1,p.2)=some (join (x.2.2.1,x.2.2.2.1) p):=Qmk (x.2.2.1,x.2.2.2.1) p h.st hp
 have hm:xC w (join (x.2.2.1,x.2.2.2.1) p)=some (marksOf (join (x.2.2.1,x.2.2.2.1) p)):=QrF _ _ hjs.1 hjs.2
 have ht:K1 w (x.2.2.2.2.2.2.2.2.2.2.2.1,x.1,marksOf (join (x.2.2.1,x.2.2.2.1) p))=some (ZC x p):=Qp8 _ _ _ hz11 hmk
 have hpr:Qa9 w ((join (x.2.2.1,x.2.2.2.1) p).1,(join (x.2.2.1,x.2.2.2.1) p).2,ZC x p)=some (Xg x p):=QEx _ _ hjs (QY17 (Qea hjo) (by decide)) hsl hsr
 have htr:zo w (Xg x p)=some (X1 (Xg x p)):=QuQ _ _ hts.1 hts.2
 have e:=Xd (Xg x p).1.length (fun i (s:List QM)=>ZF wl ((i:Int),x.1,x.2.1,x.2.2.1,x.2.2.2.1,x.2.2.2.2.1,x.2.2.2.2.2.1,x.2.2.2.2.2.2.1,x.2.2.2.2.2.2.2.1,x.2.2.2.2.2.2.2.2.1,x.2.2.2.2.2.2.2.2.2.1,x.2.2.2.2.2.2.2.2.2.2.1,x.2.2.2.2.2.2.2.2.2.2.2.1,x.2.2.2.2.2.2.2.2.2.2.2.2.1,x.2.2.2.2.2.2.2.2.2.2.2.2.2.1,x.2.2.2.2.2.2.2.2.2.2.2.2.2.2.1,x.2.2.2.2.2.2.2.2.2.2.2.2.2.2.2.1,x.2.2.2.2.2.2.2.2.2.2.2.2.2.2.2.2.1,x.2.2.2.2.2.2.2.2.2.2.2.2.2.2.2.2.2.1,x.2.2.2.2.2.2.2.2.2.2.2.2.2.2.2.2.2.2,x.1,x.2.1,(Xg x p).1,(Xg x p).2,(X1 (Xg x p)).1,(X1 (Xg x p)).2,x.2.2.2.2.2.2.1,x.2.2.2.2.2.2.2.1,x.2.2.2.2.2.2.2.2.1,x.2.2.2.2.2.2.2.2.2.1,x.2.2.2.2.2.2.2.2.2.2.1,ZC x p,x.2.2.2.2.2.2.2.2.2.2.2.2.1,x.2.2.2.2.2.2.2.2.2.2.2.2.2.1,x.2.2.2.2.2.2.2.2.2.2.2.2.2.2.1,x.2.2.2.2.2.2.2.2.2.2.2.2.2.2.2.1,x.2.2.2.2.2.2.2.2.2.2.2.2.2.2.2.2.1,x.2.2.2.2.2.2.2.2.2.2.2.2.2.2.2.2.2.1,s)) (fun i s=>(x.1,x.2.1,(Xg x p).1,(Xg x p).2,(X1 (Xg x p)).1,(X1 (Xg x p)).2,x.2.2.2.2.2.2.1,x.2.2.2.2.2.2.2.1,x.2.2.2.2.2.2.2.2.1,x.2.2.2.2.2.2.2.2.2.1,x.2.2.2.2.2.2.2.2.2.2.1,ZC x p,x.2.2.2.2.2.2.2.2.2.2.2.2.1,x.2.2.2.2.2.2.2.2.2.2.2.2.2.1,x.2.2.2.2.2.2.2.2.2.2.2.2.2.2.1,x.2.2.2.2.2.2.2.2.2.2.2.2.2.2.2.1,x.2.2.2.2.2.2.2.2.2.2.2.2.2.2.2.2.1,x.2.2.2.2.2.2.2.2.2.2.2.2.2.2.2.2.2.1,qN x.2.2.2.2.2.2.2.2.2.2.2.2.2.2.2.2.2.1 s ((Xg x p).1.drop i))) (fun _ s=>s.length=5)
  (fun i hi s hs ih=>by
    apply Qfo
    obtain⟨n,hn,hn5⟩:=Qn3 (Qn8 hto _ (QRf hi)).1 (show 5<=s.length by omega)
    have hi':=ih (xV x.2.2.2.2.2.2.2.2.2.2.2.2.2.2.2.2.2.1 s (Xg x p).1[i]) (by rw[Qkv];exact hs)
    rw[QRa hi,qN]
    unfold xV at hi'⊢
    rw[hn]at hi'⊢
    simp only[Qc5,ilt hi,Qj hi,Qf hi,inc hi hts.1,QQ1,hn,Qj hn5]
    revert hi'
    cases decide ((rd1 Zc s (n:Int)).1<(Xg x p).1[i].2.1)<;>cases decide ((Xg x p).1[i].2.1=(rd1 Zc s (n:Int)).1)<;>cases decide ((rd1 Zc s (n:Int)).2.1<(Xg x p).1[i].2.2.2.1)<;>simp only[QQ1,QQ2]<;>exact fun h=>h)
  (fun s _=>by
    apply Qfo
    simp only[Qc5,Qo,QQ2,QRl,qN]) x.2.2.2.2.2.2.2.2.2.2.2.2.2.2.2.2.2.2 (by have:=h.rlen;omega)
 simp only[QQ6,QRg]at e
 apply QtR
 simp only[Qkc,hc,hj,hm,ht,hpr,htr,e,QQ0,take]
def QAs (g:ZL) (d:Qk):ZL:=bif decide (g.1<(((g.2.2++[d]).length:Nat):Int))then(g.1,g.2.1+1,(g.2.2++[d]).drop 1)else(g.1,g.2.1,g.2.2++[d])
theorem QkN (g:ZL):Yr g=true↔(1<=g.1/\g.1<=8)/\((g.2.2.length:Nat):Int)<=g.1/\(0<=g.2.1/\g.2.1<=100000)/\g.2.1+((g.2.2.length:Nat):Int)<=100000/\∀s∈g.2.2,QK s=true:=by
 simp only[Yr,QQ5,QRt,QRu,inR]
 constructor
 ·rintro⟨⟨⟨⟨h1,h2⟩,h3⟩,h4⟩,h5⟩;exact⟨h1,h2,h3,h4,h5⟩
 ·rintro⟨h1,h2,h3,h4,h5⟩;exact⟨⟨⟨⟨h1,h2⟩,h3⟩,h4⟩,h5⟩
theorem QaB {g:ZL}(hg:Yr g=true):Z8 g<=1000/\g.2.2.length<=maxLen/\∀s∈g.2.2,s.1.length<=maxLen/\s.2.length<=maxLen:=by
 have h:=(QkN g).1 hg
 have k1:Qi QF g.2.2<=60*g.2.2.length:=Qii _ _ _ fun s hs=>Qea (h.2.2.2.2 s hs)
 refine⟨by simp only[Z8,XQ];omega,by simp only[maxLen];omega,fun s hs=>ZB (h.2.2.2.2 s hs)⟩
def Qe2:Qk->List Qk->Qk
 |s,[]=>s
 |s,d::l=>Qe2 (join s d) l
theorem QzV:(s:Qk)->(l:List Qk)->QK s=true->(∀d∈l,QK d=true)->QK (Qe2 s l)=true
 |s,[],h,_=>h
 |s,d::l,h,hl=>QzV _ l (xG h (hl d (by simp))) fun x hx=>hl x (by simp[hx])
def Yi (g:ZL) (seq:Int):List Qg×List Qb×Bool:=bif inR seq g.2.1 (g.2.1+((g.2.2.length:Nat):Int))then((Qe2 ([],[]) (g.2.2.drop (seq - g.2.1).toNat)).1,(Qe2 ([],[]) (g.2.2.drop (seq - g.2.1).toNat)).2,true)else([],[],false)
theorem QAS {g:ZL}(hg:Yr g=true) (seq:Int):QK ((Yi g seq).1,(Yi g seq).2.1)=true:=by
 have h:=(QkN g).1 hg
 unfold Yi
 cases inR seq g.2.1 (g.2.1+((g.2.2.length:Nat):Int))
 ·rfl
 ·exact QzV ([],[]) _ rfl fun d hd=>h.2.2.2.2 d (List.mem_of_mem_drop hd)
theorem QAG (g:ZL) (hg:Yr g=true) (seq:Int):x7 w (g.1,g.2.1,g.2.2,seq)=some (Yi g seq):=by
 have h:=(QkN g).1 hg
 have hz:=QaB hg
 have hlo:xJ w (g.1,g.2.1,g.2.2)=some true:=by rw[<-hg];exact Qr1 g.1 g.2.1 g.2.2 hz.2.1 hz.2.2
 have hls:Vf w (g.1,g.2.1,g.2.2)=some (g.2.1+((g.2.2.length:Nat):Int)):=by
  rw[Qlx g.1 g.2.1 g.2.2 hz.2.1 hz.2.2,Xo]
  rw[show Yr (g.1,g.2.1,g.2.2)=true from hg];rfl
 apply Qso
 simp only[QhS,hlo,hls,Xi,QQ0,QQ3,QQ2,Yi]
 cases hr:inR seq g.2.1 (g.2.1+((g.2.2.length:Nat):Int))
 ·rfl
 ·have hr':=Q0.1 hr
  have ht:=Qsn g.2.2 (seq - g.2.1) (by omega) (by omega)
  simp only[QQ3,QQ2,QQ1,w64 (n:=seq - g.2.1) (by omega) (by omega),ht,dt (show(0:Int)<=seq - g.2.1/\seq - g.2.1<=((g.2.2.length:Nat):Int)/\((g.2.2.length:Nat):Int)<=((g.2.2.length:Nat):Int) by omega)]
  have hm:∀d∈g.2.2.drop (seq - g.2.1).toNat,QK d=true:=fun d hd=>h.2.2.2.2 d (List.mem_of_mem_drop hd)
  have hl:(g.2.2.drop (seq - g.2.1).toNat).length<=maxLen:=by rw[QY28];omega
  generalize g.2.2.drop (seq - g.2.1).toNat=L at hm hl
  have e:=Xd L.length (fun i (s:Qk)=>VA wl (L,((L.length:Nat):Int),(i:Int),s.1,s.2)) (fun i s=>Qe2 s (L.drop i)) (fun _ s=>QK s=true)
   (fun i hi s hs ih=>by
     apply Qdq
     have hd:=hm _ (QRf hi)
     have hj:Zi w (s.1,s.2,L[i])=some (join s L[i]):=Qcc s L[i] (ZB hs) (ZB hd)
     simp only[Qak,ilt hi,Qj hi,Qf hi,inc hi hl,QQ1,hj,QQ0]
     rw[QRa hi,Qe2]
     exact ih _ (xG hs hd))
   (fun s _=>by
     apply Qdq
     simp only[Qak,Qo,QQ2,QRl,Qe2]) ([],[]) rfl
  simp only[QQ6,QRg]at e
  simp only[e,QQ0]
theorem Qzr (g:ZL) (hg:Yr g=true) (seq:Int):ze w (g.1,g.2.1,g.2.2,seq)=some (Yi g seq):=by
 have h:=(QkN g).1 hg
 have hz:=QaB hg
 have hlo:xR w (g.1,g.2.1,g.2.2)=some true:=by rw[<-hg];exact Qqo g.1 g.2.1 g.2.2 hz.2.1 hz.2.2
 apply QrV
 simp only[QhK,hlo,Xx,QQ0,QQ3,QQ2,Yi,w64 (n:=g.2.1+((g.2.2.length:Nat):Int)) (by omega) (by omega)]
 cases hr:inR seq g.2.1 (g.2.1+((g.2.2.length:Nat):Int))
 ·rfl
 ·have hr':=Q0.1 hr
  simp only[QQ3,QQ2,QQ1,w64 (n:=seq - g.2.1) (by omega) (by omega)]
  obtain⟨k,hk⟩:∃k:Nat,seq - g.2.1=(k:Int):=⟨(seq - g.2.1).toNat,by omega⟩
  rw[hk,QRb]
  have hkl:k<=g.2.2.length:=by omega
  have e:=Xd (g.2.2.length - k) (fun i (s:Qk)=>VF wl (((k+i:Nat):Int),g.1,g.2.1,g.2.2,s.1,s.2)) (fun i s=>Qe2 s (g.2.2.drop (k+i))) (fun _ s=>QK s=true)
   (fun i hi s hs ih=>by
     apply QdJ
     have hi':k+i<g.2.2.length:=by omega
     have hd:=h.2.2.2.2 _ (QRf hi')
     have hj:Yf w (s.1,s.2,g.2.2[k+i])=some (join s g.2.2[k+i]):=Qmk s _ hs hd
     simp only[Qag,ilt hi',Qj hi',Qf hi',inc hi' hz.2.1,QQ1,hj,QQ0]
     rw[QRa hi',Qe2]
     exact ih _ (xG hs hd))
   (fun s _=>by
     apply QdJ
     rw[show k+(g.2.2.length - k)=g.2.2.length by omega]
     simp only[Qag,Qo,QQ2,QRl,Qe2]) ([],[]) rfl
  simp only[QY2]at e
  simp only[e,QQ0]
def present (s:Qk) (id:Int):Int×Int×Int×Int×ByteArray×Int:=bif QK s&&inR id 0 4 then(bif (lookup s id).2.2.2.2.2 then((lookup s id).1,(lookup s id).2.1,(lookup s id).2.2.1,(lookup s id).2.2.2.1,(lookup s id).2.2.2.2.1,0)else(0,0,0,0,ByteArray.empty,3))else(0,0,0,0,ByteArray.empty,1)
def one (id:Int) (e:XM):Qk:=([(id,e)],[])
def QaD (s:Qk) (id:Int):List Qg×List Qb×Int:=bif !decide ((present s id).2.2.2.2.2=0)then([],[],(present s id).2.2.2.2.2)else(bif decide ((present s id).2.2.1=100000)then([],[],4)else([(id,(present s id).1,(present s id).2.1,(present s id).2.2.1+1,(present s id).2.2.2.1,(present s id).2.2.2.2.1)],[],0))
end Go.Proofs.YtiejfnbmficbmaaGreat.M
