/- What the plain forms that FnExactAuto reaches come to: PJoin. No conditions but those that each theorem states. -/
import Derived.Test.YtiejfnbmficbmaaGreatFnExactAutoPNode2
set_option linter.all false
namespace Go.Proofs.YtiejfnbmficbmaaGreat.M
open Go Go.Eng Go.Proofs
set_option linter.unusedVariables false
theorem X0 {s:Qi}(h:QD s=true):smS s:=by
 have:=Kj h
 constructor<;>simp only[maxLen]<;>omega
theorem Qa9 (a b:Qi) (ha:smS a) (hb:smS b):Zs w (a.1,a.2,b.1,b.2)=some (join a b):=by
 apply Qro
 have e:=Xe 5 (fun i (s:Qi)=>Zu wl ((i:Int),a.1,a.2,b.1,b.2,s.1,s.2)) (fun i s=>(s.1++(List.range' i (5 - i)).flatMap (Qnj a b),s.2++(List.range' i (5 - i)).flatMap (yQ a b))) (fun i s=>s.1.length<=i/\s.2.length<=i)
  (fun i hi s hs ih=>by
    apply Qbk
    simp only[jS,Qw0 hi,QwB hi,QQ1,Qin a.1 a.2 _ ha.1,Qin b.1 b.2 _ hb.1,Qh0 a.1 a.2 _ ha.2,Qh0 b.1 b.2 _ hb.2,QBG,QQ0]
    rw[Z8 hi,Z8 hi]
    have hE:VK ((QS (i:Int) a.1).1,(QS (i:Int) a.1).2.1,(QS (i:Int) a.1).2.2.1,(QS (i:Int) a.1).2.2.2.1,(QS (i:Int) a.1).2.2.2.2.1) ((QS (i:Int) b.1).1,(QS (i:Int) b.1).2.1,(QS (i:Int) b.1).2.2.1,(QS (i:Int) b.1).2.2.2.1,(QS (i:Int) b.1).2.2.2.2.1)=yg a b (i:Int):=rfl
    have hF:mxI (Q5 (i:Int) a.2) (Q5 (i:Int) b.2)=Zr a b (i:Int):=rfl
    simp only[hE,hF,Qnj,yQ]
    have f1:fits (s.1.length+([((i:Int),yg a b (i:Int))]:List Qd).length) 56=true:=Qu (by simp;omega)
    have f2:fits (s.2.length+([((i:Int),Zr a b (i:Int))]:List Qa).length) 16=true:=Qu (by simp;omega)
    simp only[f1,f2,QQ1]
    cases decide (Zr a b (i:Int)<(yg a b (i:Int)).1)<;>cases decide (0<Zr a b (i:Int))<;>simp only[QQ1,QQ2,QRe]
    ·exact ih s (by omega)
    ·rw[ih (s.1,s.2++[((i:Int),Zr a b (i:Int))]) (by simp;omega)];simp
    ·rw[ih (s.1++[((i:Int),yg a b (i:Int))],s.2) (by simp;omega)];simp
    ·rw[ih (s.1++[((i:Int),yg a b (i:Int))],s.2++[((i:Int),Zr a b (i:Int))]) (by simp;omega)];simp)
  (fun s _=>by
    apply Qbk
    simp[jS]) ([],[]) (by simp)
 simp only[QQ6,QRe,Nat.sub_zero]at e
 simp only[QgT,e,QQ0,join]
theorem Qmw (a b:Int):Ka a b= - Ka b a:=by
 unfold Ka;split<;>split<;>(try split)<;>omega
theorem Qxx:(a b:List UInt8)->Go.Lib.compareBytes a b= - Go.Lib.compareBytes b a
 | [],[]=>by simp[Go.Lib.compareBytes]
 | [],_::_=>by simp[Go.Lib.compareBytes]
 |_::_,[]=>by simp[Go.Lib.compareBytes]
 |a::l,b::m=>by
  have ih:=Qxx l m
  by_cases h:a<b
  ·have h2:¬b<a:=fun e=>UInt8.lt_irrefl _ (UInt8.lt_trans h e)
   simp[Go.Lib.compareBytes,h,h2]
  ·by_cases h2:b<a
   ·simp[Go.Lib.compareBytes,h,h2]
   ·simp only[Go.Lib.compareBytes,h,h2,if_false];exact ih
theorem QBO (x y:XO):Vf x y= - Vf y x:=by
 unfold Vf QsP
 rw[Qmw x.1 y.1,Qmw x.2.1 y.2.1,Qmw x.2.2.1 y.2.2.1,Qmw x.2.2.2.1 y.2.2.2.1,Qxx x.2.2.2.2.data.toList y.2.2.2.2.data.toList]
 unfold or5
 repeat' split
 all_goals omega
theorem QFs {y:XO}(h:XG y=true):VK (0,0,0,0,ByteArray.empty) y=y:=by
 have:=Qxq h
 have e:Vf (0,0,0,0,ByteArray.empty) y= -1:=by
  unfold Vf or5
  have:Ka (0:Int) y.1= -1:=by unfold Ka;rw[if_pos (by omega)]
  simp[this]
 unfold VK;rw[e];rfl
theorem QFA {x:XO}(h:XG x=true):VK x (0,0,0,0,ByteArray.empty)=x:=by
 have:=Qxq h
 have e:Vf x (0,0,0,0,ByteArray.empty)=1:=by
  unfold Vf or5
  have:Ka x.1 (0:Int)=1:=by unfold Ka;rw[if_neg (by omega),if_pos (by omega)]
  simp[this]
 unfold VK;rw[e];rfl
theorem QDF (x y:XO):VK x y=bif decide (0<Vf y x)then y else x:=by
 unfold VK
 rw[QBO x y]
 by_cases h:0<Vf y x
 ·rw[if_pos (by omega),dt h];rfl
 ·rw[if_neg (by omega),df h];rfl
theorem Qlw (a b:Qi) (ha:QD a=true) (hb:QD b=true):Yr w (a.1,a.2,b.1,b.2)=some (join a b):=by
 apply Qwz
 have h1:=X0 ha
 have h2:=X0 hb
 have e:=Xe 5 (fun i (s:Qi)=>Qx wl ((i:Int),a.1,a.2,b.1,b.2,s.1,s.2)) (fun i s=>(s.1++(List.range' i (5 - i)).flatMap (Qnj a b),s.2++(List.range' i (5 - i)).flatMap (yQ a b))) (fun i s=>s.1.length<=i/\s.2.length<=i)
  (fun i hi s hs ih=>by
    apply Qhl
    rw[Z8 hi,Z8 hi]
    have hF:mxI (Q5 (i:Int) a.2) (Q5 (i:Int) b.2)=Zr a b (i:Int):=rfl
    have hr:=Qk0 ha hb (i:Int)
    have f2:fits (s.2.length+([((i:Int),Zr a b (i:Int))]:List Qa).length) 16=true:=Qu (by simp;omega)
    have fA:∀e:Qd,fits (s.1.length+([e]:List Qd).length) 56=true:=fun e=>Qu (by simp;omega)
    have i0:=ih s (by omega)
    have i1:=ih (s.1,s.2++[((i:Int),Zr a b (i:Int))]) (by simp;omega)
    have i2:=fun e:XO=>ih (s.1++[((i:Int),e)],s.2) (by simp;omega)
    have i3:=fun e:XO=>ih (s.1++[((i:Int),e)],s.2++[((i:Int),Zr a b (i:Int))]) (by simp;omega)
    simp only at i0 i1 i2 i3
    have hx:=QiG ha (i:Int)
    have hy:=QiG hb (i:Int)
    have hE:yg a b (i:Int)=VK (ZM (QS (i:Int) a.1)) (ZM (QS (i:Int) b.1)):=rfl
    simp only[QdV,Qw0 hi,QwB hi,QQ1,Qfc a.1 a.2 _ h1.1,Qfc b.1 b.2 _ h2.1,QeB a.1 a.2 _ h1.2,QeB b.1 b.2 _ h2.2,Qzp,QAF,QQ0,hF,f2,fA]
    simp only[Qnj,yQ]
    generalize yg a b (i:Int)=v at*
    generalize QS (i:Int) a.1=x at*
    generalize QS (i:Int) b.1=y at*
    obtain⟨x1,x2,x3,x4,x5,xb⟩:=x
    obtain⟨y1,y2,y3,y4,y5,yb⟩:=y
    simp only[ZM]at*
    rcases hx with⟨hx,rfl⟩|⟨hx,rfl⟩<;>rcases hy with⟨hy,rfl⟩|⟨hy,rfl⟩
    ·rw[QDF]at hE
     generalize Vf (y1,y2,y3,y4,y5) (x1,x2,x3,x4,x5)=c at*
     cases hc:decide (0<c)<;>rw[hc]at hE<;>simp only[QQ1,QQ2]at hE<;>subst hE<;>cases decide (0<Zr a b (i:Int))<;>simp only[QQ3,QQ1,QQ2]
     all_goals(cases decide (Zr a b (i:Int)<_)<;>simp only[i0,i1,i2,i3,QRc,QRe,QRv,QQ1,QQ2])
    ·rw[hy,QFA hx]at hE
     subst hE
     cases decide (0<Zr a b (i:Int))<;>simp only[QQ3,QQ4,QQ1,QQ2]
     all_goals(cases decide (Zr a b (i:Int)<_)<;>simp only[i0,i1,i2,i3,QRc,QRe,QRv,QQ1,QQ2])
    ·rw[hx,QFs hy]at hE
     subst hE
     cases decide (0<Zr a b (i:Int))<;>simp only[QQ3,QQ4,QQ1,QQ2]
     all_goals(cases decide (Zr a b (i:Int)<_)<;>simp only[i0,i1,i2,i3,QRc,QRe,QRv,QQ1,QQ2])
    ·rw[hx,hy]at hE
     have h0:v.1=0:=by
      rcases Qye (0,0,0,0,ByteArray.empty) (0,0,0,0,ByteArray.empty)with h|h<;>rw[hE,h]
     have h0':decide (Zr a b (i:Int)<v.1)=false:=df (by omega)
     rw[h0']
     cases decide (0<Zr a b (i:Int))<;>simp only[i0,i1,QQ4,QRc,QRe,QRv,QQ1,QQ2])
  (fun s _=>by
    apply Qhl
    simp[QdV]) ([],[]) (by simp)
 simp only[QQ6,QRe,Nat.sub_zero]at e
 simp only[Qlc,e,QQ0,join]
theorem ze {x:XO}(h:XG x=true):1<=x.1/\x.1<=1000/\0<=x.2.1/\x.2.1<=1/\0<=x.2.2.1/\x.2.2.1<=100000/\0<=x.2.2.2.1/\x.2.2.2.1<=1000/\x.2.2.2.2.size<=8:=by
 simp only[XG,inR,QQ5,QRu]at h
 obtain⟨⟨⟨⟨⟨p1,p2⟩,p3,p4⟩,p5,p6⟩,p7,p8⟩,p9⟩:=h
 omega
theorem Qyb (a:List Qd) (b:List Qa) (id:Int) (h1:a.length<=maxLen) (h2:b.length<=maxLen):vv w (a,b,id)=some (Zo (a,b) id):=by
 apply QwZ
 simp only[Qlp,ZA a b h1 h2,Qin a b _ h1,Qh0 a b _ h2,QQ0,Zo]
 cases h:QD (a,b)
 ·rfl
 ·rcases QiG h id with⟨he,hb⟩|⟨he,hb⟩
  ·simp only at hb
   have hn:=ze (x:=ZM (QS id a)) he
   simp only[ZM]at hn
   rw[hb,w64 (by omega) (by omega)]
   simp only[QQ3,QQ1,QQ2]
   cases decide ((QS id a).2.1=1)<;>rfl
  ·simp only at hb
   rw[hb];rfl
theorem Qul (a:List Qd) (b:List Qa) (id:Int) (h1:a.length<=maxLen) (h2:b.length<=maxLen):vB w (a,b,id)=some (Zo (a,b) id):=by
 apply QwV
 simp only[QmJ,ZK a b h1 h2,Qfc a b _ h1,QeB a b _ h2,QQ0,Zo]
 cases h:QD (a,b)
 ·rfl
 ·rcases QiG h id with⟨he,hb⟩|⟨he,hb⟩
  ·simp only at hb
   have hn:=ze (x:=ZM (QS id a)) he
   simp only[ZM]at hn
   rw[hb,w64 (by omega) (by omega)]
   simp only[QQ3,QQ1,QQ2]
   by_cases h1:(QS id a).2.1=1
   ·rw[dt h1,df (by omega)];rfl
   ·rw[df h1,dt (by omega)];rfl
  ·simp only at hb
   rw[hb];rfl
theorem QuP (a:List Qd) (b:List Qa) (h1:a.length<=maxLen) (h2:b.length<=maxLen):qT w (a,b)=some (marksOf (a,b)):=by
 apply QvF
 have e:=Xe 5 (fun i (s:List Qa)=>KZ wl ((i:Int),a,b,s)) (fun i s=>s++(List.range' i (5 - i)).flatMap (QnU (a,b))) (fun i s=>s.length<=i)
  (fun i hi s hs ih=>by
    apply Qf1
    simp only[QbI,Qw0 hi,QwB hi,QQ1,Qyb a b _ h1 h2,QQ0]
    rw[Z8 hi]
    simp only[QnU,Qu (show(s.length+([((i:Int),Zo (a,b) (i:Int))]:List Qa).length)*16<=140737488351232 by simp;omega),QQ1]
    cases decide (0<Zo (a,b) (i:Int))<;>simp only[QQ1,QQ2,QRe]
    ·exact ih s (by omega)
    ·rw[ih _ (by simp;omega)];simp)
  (fun s _=>by
    apply Qf1
    simp[QbI]) [] (by simp)
 simp only[QQ6,QRe,Nat.sub_zero]at e
 simp only[QkL,e,QQ0,marksOf]
theorem QrS (a:List Qd) (b:List Qa) (h1:a.length<=maxLen) (h2:b.length<=maxLen):xy w (a,b)=some (marksOf (a,b)):=by
 apply Qvf
 have e:=Xe 5 (fun i (s:List Qa)=>K1 wl ((i:Int),a,b,s)) (fun i s=>s++(List.range' i (5 - i)).flatMap (QnU (a,b))) (fun i s=>s.length<=i)
  (fun i hi s hs ih=>by
    apply QfF
    simp only[Qcu,Qw0 hi,QwB hi,QQ1,Qul a b _ h1 h2,QQ0]
    rw[Z8 hi]
    simp only[QnU,Qu (show(s.length+([((i:Int),Zo (a,b) (i:Int))]:List Qa).length)*16<=140737488351232 by simp;omega),QQ1]
    cases decide (0<Zo (a,b) (i:Int))<;>simp only[QQ1,QQ2,QRe]
    ·exact ih s (by omega)
    ·rw[ih _ (by simp;omega)];simp)
  (fun s _=>by
    apply QfF
    simp[Qcu]) [] (by simp)
 simp only[QQ6,QRe,Nat.sub_zero]at e
 simp only[QjI,e,QQ0,marksOf]
theorem QuD (b:List Qa) (hb:b.length<=maxLen):yy w b=some (QR (-1) b):=by
 apply QuX
 have e:=Q7 b.length (fun i=>KS wl (b,b,((b.length:Nat):Int),(i:Int))) (fun i=>if QR (qQ b i) (b.drop i)then .inr ()else .inl false)
  (fun i hi ih=>by
    apply Qft
    simp only[Qa5,ilt hi,Qk hi,Qg hi,inc hi hb,QQ1,ih,Qat,Xi,QQ0]
    rw[QRa hi,QR,Qij b hi]
    rcases Nat.eq_zero_or_pos i with h0|h0
    ·subst h0
     cases h1:inR b[0].1 0 4
     ·simp
     ·have:=QdZ h1
      simp only[Qos,QQ2,QQ3,qQ,if_true,dt this,QRd,QRn]
      cases inR b[0].2 1 1000<;>simp
    ·have hi':i - 1<b.length:=by omega
     simp only[ipos h0,QQ1,Qp0 h0 (by omega),Qk hi',Qg hi',QlI b h0 hi',zE]
     cases inR b[i].1 0 4<;>cases inR b[i].2 1 1000<;>cases decide (b[i - 1].1<b[i].1)<;>simp)
  (by
    apply Qft
    simp only[Qa5,Qm,QQ2,QRl,QR,if_true])
 simp only[QQ6,QRg,qQ,if_true]at e
 simp only[Qi7,e,QQ0]
 cases QR (-1) b<;>simp[Qp]
theorem QrV (b:List Qa) (hb:b.length<=maxLen):yP w b=some (QR (-1) b):=by
 apply Qut
 have e:=Q7 b.length (fun i=>KV wl (b,(i:Int))) (fun i=>if QR (qQ b i) (b.drop i)then .inr ()else .inl false)
  (fun i hi ih=>by
    apply QfA
    simp only[Qb1,ilt hi,Qk hi,Qg hi,inc hi hb,QQ1,ih,Qas,XD,QQ0]
    rw[QRa hi,QR,Qij b hi]
    rcases Nat.eq_zero_or_pos i with h0|h0
    ·subst h0
     cases h1:inR b[0].1 0 4
     ·simp
     ·have:=QdZ h1
      simp only[Qos,QQ2,QQ3,qQ,if_true,dt this,QRd,QRn]
      cases inR b[0].2 1 1000<;>simp
    ·have hi':i - 1<b.length:=by omega
     simp only[ipos h0,QQ1,Qp0 h0 (by omega),Qk hi',Qg hi',QlI b h0 hi',zE]
     cases inR b[i].1 0 4<;>cases inR b[i].2 1 1000<;>cases decide (b[i - 1].1<b[i].1)<;>simp)
  (by
    apply QfA
    simp only[Qb1,Qm,QQ2,QRl,QR,if_true])
 simp only[QQ6,QRg,qQ,if_true]at e
 simp only[QkV,e,QQ0]
 cases QR (-1) b<;>simp[Qp]
def Qgb (t:Zi):Bool:=bif decide (((t.1.length:Nat):Int)=0)then decide (t.2=0)else(t.1.all fun x=>inR x 0 1023)&&decide (((t.1.length:Nat):Int)=4)&&inR t.2 0 1023
theorem QF5 (l:List Int) (r:Int) (h:l.length<=maxLen):Qe5 w (l,r)=some (Qgb (l,r)):=by
 apply Qv1
 have e:=Q7 l.length (fun i=>xE wl (l,((l.length:Nat):Int),(i:Int),l,r)) (fun i=>if(l.drop i).all (fun x=>inR x 0 1023)then .inr (l,r)else .inl false)
  (fun i hi ih=>by
    apply Qhg
    rw[ZV (fun x=>inR x 0 1023) l _ _ hi]
    simp only[Qd5,ilt hi,Qk hi,Qg hi,inc hi h,QQ1,Xi,QQ0,ih]
    cases inR l[i] 0 1023<;>simp)
  (by
    apply Qhg
    simp[Qd5])
 simp only[QQ6,QRg]at e
 simp only[QlZ,e,QQ0,Xi,Qgb]
 cases decide (((l.length:Nat):Int)=0)
 ·cases l.all fun x=>inR x 0 1023
  ·simp[Qp]
  ·simp only[if_true,Qp,QY0,QQ2,QRd]
   cases decide (((l.length:Nat):Int)=4)<;>simp
 ·simp
theorem QoT (l:List Int) (m hi:Int) (h:l.length<=maxLen):xi w (l,m,hi)=some (decide (((l.length:Nat):Int)<=m)&&l.all fun x=>inR x 0 hi):=by
 apply Quu
 have e:=Q7 l.length (fun i=>qj wl (l,hi,(i:Int))) (fun i=>if(l.drop i).all (fun x=>inR x 0 hi)then .inr ()else .inl false)
  (fun i hi' ih=>by
    apply QfK
    rw[ZV (fun x=>inR x 0 hi) l _ _ hi']
    simp only[QcJ,ilt hi',Qk hi',Qg hi',inc hi' h,QQ1,XD,QQ0,ih]
    cases inR l[i] 0 hi<;>simp)
  (by
    apply QfK
    simp[QcJ])
 simp only[QQ6,QRg]at e
 simp only[Qkx,e,QQ0]
 by_cases hl:((l.length:Nat):Int)<=m
 ·simp only[df (show¬m<((l.length:Nat):Int) by omega),QQ2,dt hl,QRd]
  cases l.all fun x=>inR x 0 hi<;>simp[Qp]
 ·simp only[dt (show m<((l.length:Nat):Int) by omega),QQ1,df hl,QRm]
theorem QDi (l:List Int) (r:Int) (h:l.length<=maxLen):Qdc w (l,r)=some (Qgb (l,r)):=by
 apply Qtl
 simp only[QiU,QoT l 4 1023 h,XD,QQ0,Qgb]
 cases decide (((l.length:Nat):Int)=0)
 ·by_cases h4:((l.length:Nat):Int)=4
  ·simp only[QQ2,dt h4,QQ1,dt (show((l.length:Nat):Int)<=4 by omega),QRd,QRn]
   cases l.all fun x=>inR x 0 1023<;>simp
  ·simp only[QQ2,df h4,QY9,QRm]
 ·simp
def okL:Int->List Int->Bool
 |_,[]=>true
 |p,x::l=>inR x 0 3&&decide (p<x)&&okL x l
def QbZ:Int->List Int->Bool
 |_,[]=>true
 |p,x::l=>decide (p<x)&&QbZ x l
theorem Qz8:(p:Int)->(l:List Int)->okL p l=((l.all fun x=>inR x 0 3)&&QbZ p l)
 |p,[]=>rfl
 |p,x::l=>by
  rw[okL,Qz8 x l,QY25,QbZ]
  cases inR x 0 3<;>cases decide (p<x)<;>cases(l.all fun x=>inR x 0 3)<;>cases QbZ x l<;>rfl
theorem Qwl:(p:Int)->(l:List Int)->okL p l=true-> -1<=p->(l.length:Int)<=3 - p\/l=[]
 |p,[],_,_=> .inr rfl
 |p,x::l,h,hp=>by
  simp only[okL,QQ5,inR,QRu]at h
  left
  rcases Qwl x l h.2 (by omega)with h5|h5
  ·simp only[QY8];omega
  ·subst h5;simp;omega
def Qo8 (b:List Int) (i:Nat):Int:=if i=0 then -1 else b.getD (i - 1) 0
theorem QE0 (b:List Int) {i:Nat}(h:i<b.length):Qo8 b (i+1)=b[i]:=by simp[Qo8,List.getD,h]
theorem QGi (b:List Int) {i:Nat}(h0:0<i) (h:i - 1<b.length):Qo8 b i=b[i - 1]:=by
 simp[Qo8,List.getD,h,show¬i=0 by omega]
theorem QFt {n k:Int}(h:inR n 0 k=true): -1<n:=by
 simp[inR]at h;omega
def QoH (a0 a1 a2 a3 a4:Int) (a5:List Int) (a6:Int) (a7 a8:List Int) (a9:List Qd) (a10 a11:List Qa):Bool:=inR a0 0 5&&inR a1 0 4&&inR a2 0 4&& !decide (a1=a2)&&okL (-1) a8&&(a7.all fun x=>inR x 0 100000)&&inR a3 0 100000&&inR a4 0 100000&&Qgb (a5,a6)&&decide (((a7.length:Nat):Int)<=5)&&QD (a9,a10)&&QR (-1) a11
def smM (a5 a7 a8:List Int) (a9:List Qd) (a10 a11:List Qa):Prop:=a5.length<=maxLen/\a7.length<=maxLen/\a8.length<=maxLen/\a9.length<=maxLen/\a10.length<=maxLen/\a11.length<=maxLen
theorem QGp (a0 a1 a2 a3 a4:Int) (a5:List Int) (a6:Int) (a7 a8:List Int) (a9:List Qd) (a10 a11:List Qa) (h:smM a5 a7 a8 a9 a10 a11):Qb2 w (a0,a1,a2,a3,a4,a5,a6,a7,a8,a9,a10,a11)=some (QoH a0 a1 a2 a3 a4 a5 a6 a7 a8 a9 a10 a11):=by
 obtain⟨h5,h7,h8,h9,h10,h11⟩:=h
 apply QyI
 have e0:=Q7 a8.length (fun i=>Jw wl (a8,((a8.length:Nat):Int),(i:Int),a0,a1,a2,a3,a4,a5,a6,a7,a8,a9,a10,a11)) (fun i=>if okL (Qo8 a8 i) (a8.drop i)then .inr (a0,a1,a2,a3,a4,a5,a6,a7,a8,a9,a10,a11)else .inl false)
  (fun i hi ih=>by
    apply Qjb
    simp only[Qg7,ilt hi,Qk hi,Qg hi,inc hi h8,QQ1,ih,Xi,QQ0]
    rw[QRa hi,okL,QE0 a8 hi]
    rcases Nat.eq_zero_or_pos i with h0|h0
    ·subst h0
     cases h1:inR a8[0] 0 3
     ·simp
     ·have:=QFt h1
      simp only[Qos,QQ2,QQ3,Qo8,if_true,dt this,QRd,QRn]
    ·have hi':i - 1<a8.length:=by omega
     simp only[ipos h0,QQ1,Qp0 h0 (by omega),Qk hi',Qg hi',QGi a8 h0 hi',zE]
     cases inR a8[i] 0 3<;>cases decide (a8[i - 1]<a8[i])<;>simp)
  (by
    apply Qjb
    simp only[Qg7,Qm,QQ2,QRl,okL,if_true])
 have e2:=Q7 a7.length (fun i=>zr wl (a7,((a7.length:Nat):Int),(i:Int),a0,a1,a2,a3,a4,a5,a6,a7,a8,a9,a10,a11)) (fun i=>if(a7.drop i).all (fun x=>inR x 0 100000)then .inr (a0,a1,a2,a3,a4,a5,a6,a7,a8,a9,a10,a11)else .inl false)
  (fun i hi ih=>by
    apply Qi3
    rw[ZV (fun x=>inR x 0 100000) a7 _ _ hi]
    simp only[QgV,ilt hi,Qk hi,Qg hi,inc hi h7,QQ1,Xi,QQ0,ih]
    cases inR a7[i] 0 100000<;>simp)
  (by
    apply Qi3
    simp[QgV])
 simp only[QQ6,QRg,Qo8,if_true]at e0 e2
 simp only[Qoa,e0,Xi,Qat,QQ0,QoH]
 cases inR a0 0 5
 ·simp
 cases inR a1 0 4
 ·simp
 cases inR a2 0 4
 ·simp
 cases decide (a1=a2)
 case true=>simp
 simp only[QQ3,QQ4,QQ2,QRd]
 cases okL (-1) a8
 ·simp[Qp]
 simp only[if_true,Qp,QY0,e2,QQ0,QRd]
 cases a7.all fun x=>inR x 0 100000
 ·simp
 simp only[if_true,QY0,QRd,QF5 a5 a6 h5,ZA a9 a10 h9 h10,QuD a11 h11,QQ0]
 cases inR a3 0 100000<;>cases inR a4 0 100000<;>cases Qgb (a5,a6)<;>cases decide (((a7.length:Nat):Int)<=5)<;>cases QD (a9,a10)<;>cases QR (-1) a11<;>rfl
theorem QE9 (a0 a1 a2 a3 a4:Int) (a5:List Int) (a6:Int) (a7 a8:List Int) (a9:List Qd) (a10 a11:List Qa) (h8:a8.length<=maxLen):Jr wl (1,a0,a1,a2,a3,a4,a5,a6,a7,a8,a9,a10,a11)=some (bif QbZ (a8.getD 0 0) (a8.drop 1)then .inr ()else .inl false):=by
 cases hc:a8 with
 |nil=>
  apply Qar
  simp[vQ,QbZ]
 |cons x l=>
  rw[<-hc]
  have hlen:a8.length=l.length+1:=by rw[hc];rfl
  have e:=Q7 l.length (fun j=>Jr wl (((j+1:Nat):Int),a0,a1,a2,a3,a4,a5,a6,a7,a8,a9,a10,a11)) (fun j=>bif QbZ (a8.getD j 0) (a8.drop (j+1))then .inr ()else .inl false)
   (fun j hj ih=>by
     apply Qar
     have hi:j+1<a8.length:=by omega
     have hi':j<a8.length:=by omega
     have hd:=Qp0 (i:=j+1) (by omega) (by omega)
     rw[show j+1 - 1=j by omega]at hd
     have hg:a8.getD (j+1) 0=a8[j+1]:=by simp[List.getD,hi]
     have hg':a8.getD j 0=a8[j]:=by simp[List.getD,hi']
     rw[hg]at ih
     simp only[vQ,ilt hi,Qk hi,Qg hi,inc hi h8,hd,Qk hi',Qg hi',QQ1,ih,zE]
     rw[QRa hi,QbZ,hg']
     cases decide (a8[j]<a8[j+1])<;>simp)
   (by
     apply Qar
     rw[<-hlen]
     simp only[vQ,Qm,QQ2,QRl,QbZ,QQ1])
  exact e
theorem QFJ (a0 a1 a2 a3 a4:Int) (a5:List Int) (a6:Int) (a7 a8:List Int) (a9:List Qd) (a10 a11:List Qa) (h:smM a5 a7 a8 a9 a10 a11):Qb9 w (a0,a1,a2,a3,a4,a5,a6,a7,a8,a9,a10,a11)=some (QoH a0 a1 a2 a3 a4 a5 a6 a7 a8 a9 a10 a11):=by
 obtain⟨h5,h7,h8,h9,h10,h11⟩:=h
 apply Qyt
 simp only[QnV,XD,Qas,QDi a5 a6 h5,QoT a7 5 100000 h7,QoT a8 4 3 h8,ZK a9 a10 h9 h10,QrV a11 h11,QE9 a0 a1 a2 a3 a4 a5 a6 a7 a8 a9 a10 a11 h8,QQ0,QoH]
 have key:okL (-1) a8=(decide (((a8.length:Nat):Int)<=4)&&(a8.all fun x=>inR x 0 3)&&QbZ (a8.getD 0 0) (a8.drop 1)):=by
  cases hk:okL (-1) a8
  ·rw[Qz8]at hk
   cases ha:a8.all fun x=>inR x 0 3
   ·simp
   ·rw[ha]at hk
    simp only[QRd]at hk
    cases hc:a8 with
    |nil=>rw[hc]at hk;simp[QbZ]at hk
    |cons x l=>
     rw[hc]at hk ha
     simp only[QY25,QQ5]at ha
     have:=QFt ha.1
     simp only[QbZ,dt this,QRd]at hk
     simp[hk]
  ·have hl:=Qwl _ _ hk (by omega)
   have hl4:((a8.length:Nat):Int)<=4:=by
    rcases hl with h|h
    ·omega
    ·rw[h];simp
   rw[Qz8]at hk
   simp only[QQ5]at hk
   rw[dt hl4,hk.1]
   cases hc:a8 with
   |nil=>rfl
   |cons x l=>
    have:=hk.2
    rw[hc]at this
    simp only[QbZ,QQ5]at this
    simp[this.2]
 rw[key]
 cases inR a0 0 5
 case false=>simp
 cases inR a1 0 4
 case false=>simp
 cases inR a2 0 4
 case false=>simp
 cases decide (a1=a2)
 case true=>simp
 cases inR a3 0 100000
 case false=>simp
 cases inR a4 0 100000
 case false=>simp
 cases Qgb (a5,a6)
 case false=>simp
 cases decide (((a7.length:Nat):Int)<=5)
 case false=>simp
 cases a7.all fun x=>inR x 0 100000
 case false=>simp
 cases decide (((a8.length:Nat):Int)<=4)
 case false=>simp
 cases a8.all fun x=>inR x 0 3
 case false=>simp
 cases QD (a9,a10)
 case false=>simp
 cases QR (-1) a11
 case false=>simp
 cases QbZ (a8.getD 0 0) (a8.drop 1)<;>rfl
theorem Qh6:(p:Int)->(l:List Qa)->QR p l=true->∀x∈l,inR x.1 0 4=true/\inR x.2 1 1000=true
 |_,[],_=>by simp
 |p,x::l,h=>by
  simp only[QR,QQ5]at h
  intro y hy
  rcases QRk.1 hy with rfl|hy
  ·exact⟨h.1.1.1,h.1.1.2⟩
  ·exact Qh6 _ l h.2 y hy
theorem lenW' {α:Type}{ns:List α}(h:ns.length<=maxLen):wR (((ns.length:Nat):Int) - 1)=((ns.length:Nat):Int) - 1:=by
 simp only[maxLen]at h
 exact w64 (by omega) (by omega)
def QbT (r:List Int):List Qa->List Int
 | []=>r
 |m::l=>QbT (r.set m.1.toNat (mxI (rd1 0 r m.1) m.2)) l
def K5 (t:List (List Int)) (k:Int) (l:List Qa):List (List Int):=bif inR k 0 ((t.length:Nat) - 1)&&(QR (-1) l&& !decide (((List.length (rd1 ([]:List Int) t k):Nat):Int)<5))then t.set k.toNat (QbT (rd1 ([]:List Int) t k) l)else t
theorem Qox {x:Int}{n:Nat}(h:inR x 0 4=true) (hn:5<=n):∃i:Nat,x=(i:Int)/\i<n:=by
 simp only[inR,QQ5,QRu]at h
 exact⟨x.toNat,by omega,by omega⟩
theorem QrL (t:List (List Int)) (k:Int) (l:List Qa) (h:Xy t<=4294967296) (hl:l.length<=maxLen):Vd w (t,k,l)=some (K5 t k l):=by
 apply QsA
 have ht:t.length<=maxLen:=by simp only[Xy]at h;simp only[maxLen];omega
 simp only[Qhy,QqA t h,lenW' ht,Xi,QuD l hl,QQ0,K5]
 cases hk:inR k 0 ((t.length:Nat) - 1)
 ·rfl
 ·obtain⟨j,rfl,hj⟩:=YU hk
  cases ho:QR (-1) l
  ·rfl
  ·simp only[Qk hj,QQ1,QQ3,QQ2,QRd]
   by_cases h5:((List.length (rd1 ([]:List Int) t (j:Int)):Nat):Int)<5
   ·rw[dt h5];rfl
   ·rw[df h5]
    have hm:=Qh6 _ _ ho
    have e:=Xe l.length (fun i (s:List (List Int))=>V9 wl ((j:Int),l,((l.length:Nat):Int),(i:Int),s)) (fun i s=>s.set j (QbT (rd1 ([]:List Int) s (j:Int)) (l.drop i))) (fun i s=>s.length=t.length/\5<=(rd1 ([]:List Int) s (j:Int)).length)
     (fun i hi s hs ih=>by
       apply QdQ
       obtain⟨n,hn,hn5⟩:=Qox (hm _ (QRf hi)).1 hs.2
       simp only[Qac,ilt hi,Qk hi,Qg hi,inc hi hl,QQ1,Qk (show j<s.length by omega),hn,Qk hn5,QRb]
       have hr:=Yg (d:=([]:List Int)) (v:=(rd1 ([]:List Int) s (j:Int)).set n (mxI (rd1 0 (rd1 ([]:List Int) s (j:Int)) (n:Int)) l[i].2)) (show j<s.length by omega)
       rw[ih _ (by rw[hr];simp[hs])]
       rw[hr,QY10,QRa hi,QbT,hn,QRb])
     (fun s hs=>by
       apply QdQ
       simp only[Qac,Qm,QQ2,QRl,QbT]
       rw[Qg (show j<s.length by omega),List.set_getElem_self])
     t (by omega)
    simp only[QQ6,QRg]at e
    simp only[e,QQ0,QQ2,QQ4,QQ1,QRb]
theorem Qqd (t:List (List Int)) (k:Int) (l:List Qa) (h:Xy t<=4294967296) (hl:l.length<=maxLen):K9 w (t,k,l)=some (K5 t k l):=by
 apply Qso
 have ht:t.length<=maxLen:=by simp only[Xy]at h;simp only[maxLen];omega
 simp only[Qho,QxP t h,lenW' ht,XD,QrV l hl,QQ0,K5]
 cases hk:inR k 0 ((t.length:Nat) - 1)
 ·rfl
 ·obtain⟨j,rfl,hj⟩:=YU hk
  cases ho:QR (-1) l
  ·rfl
  ·simp only[Qk hj,QQ1,QQ3,QQ2,QRd]
   by_cases h5:((List.length (rd1 ([]:List Int) t (j:Int)):Nat):Int)<5
   ·rw[dt h5];rfl
   ·rw[df h5]
    have hm:=Qh6 _ _ ho
    have e:=Xe l.length (fun i (s:List (List Int))=>V8 wl ((j:Int),l,(i:Int),s)) (fun i s=>s.set j (QbT (rd1 ([]:List Int) s (j:Int)) (l.drop i))) (fun i s=>s.length=t.length/\5<=(rd1 ([]:List Int) s (j:Int)).length)
     (fun i hi s hs ih=>by
       apply QdL
       obtain⟨n,hn,hn5⟩:=Qox (hm _ (QRf hi)).1 hs.2
       simp only[Qaf,ilt hi,Qk hi,Qg hi,inc hi hl,QQ1,Qk (show j<s.length by omega),hn,Qk hn5,QRb,Qzp,QQ0]
       have hr:=Yg (d:=([]:List Int)) (v:=(rd1 ([]:List Int) s (j:Int)).set n (mxI (rd1 0 (rd1 ([]:List Int) s (j:Int)) (n:Int)) l[i].2)) (show j<s.length by omega)
       rw[ih _ (by rw[hr];simp[hs])]
       rw[hr,QY10,QRa hi,QbT,hn,QRb])
     (fun s hs=>by
       apply QdL
       simp only[Qaf,Qm,QQ2,QRl,QbT]
       rw[Qg (show j<s.length by omega),List.set_getElem_self])
     t (by omega)
    simp only[QQ6,QRg]at e
    simp only[e,QQ0,QQ2,QQ4,QQ1,QRb]
def QkW (id:Int):Nat->Int->List (List Int)->Int⊕Int
 |_,m,[]=> .inr m
 |k,m,r::l=>bif inR id 0 ((r.length:Nat) - 1)then(bif decide (k=0)||decide (rd1 0 r id<m)then QkW id (k+1) (rd1 0 r id) l else QkW id (k+1) m l)else .inl 0
def common (t:List (List Int)) (id:Int):Int:=Sum.elim (fun u=>u) (fun z=>z) (QkW id 0 0 t)
theorem QFr (t:List (List Int)) (id:Int) (ht:t.length<=maxLen) (hr:∀r∈t,r.length<=maxLen):QeU w (t,id)=some (common t id):=by
 apply QwU
 have e:=Xe t.length (fun i (m:Int)=>Kk wl (id,m,t,((t.length:Nat):Int),(i:Int))) (fun i m=>QkW id i m (t.drop i)) (fun _ _=>True)
  (fun i hi m _ ih=>by
    apply Qhs
    simp only[Qen,ilt hi,Qk hi,Qg hi,inc hi ht,QQ1,lenW' (hr _ (QRf hi)),Xi,QQ0]
    rw[QRa hi,QkW]
    cases hk:inR id 0 ((t[i].length:Nat) - 1)
    ·rfl
    ·obtain⟨j,rfl,hj⟩:=YU hk
     simp only[QQ3,QQ1,QQ2,Qk hj]
     by_cases h0:i=0
     ·rw[dt (show(i:Int)=0 by omega),dt h0];simp only[QQ1,Bool.true_or];exact ih _ trivial
     ·rw[df (show¬(i:Int)=0 by omega),df h0]
      cases decide (rd1 0 t[i] (j:Int)<m)<;>exact ih _ trivial)
  (fun m _=>by
    apply Qhs
    simp only[Qen,Qm,QQ2,QRl,QkW]) 0 trivial
 simp only[QQ6,QRg]at e
 simp only[QlV,e,QQ0,common]
 cases QkW id 0 0 t<;>rfl
theorem QEQ (t:List (List Int)) (id:Int) (ht:t.length<=maxLen) (hr:∀r∈t,r.length<=maxLen):QeY w (t,id)=some (common t id):=by
 apply Qxb
 have e:=Xe t.length (fun i (m:Int)=>Kd wl (t,id,m,(i:Int))) (fun i m=>QkW id i m (t.drop i)) (fun _ _=>True)
  (fun i hi m _ ih=>by
    apply QhU
    simp only[Qeq,ilt hi,Qk hi,Qg hi,inc hi ht,QQ1,lenW' (hr _ (QRf hi)),XD,QQ0]
    rw[QRa hi,QkW]
    cases hk:inR id 0 ((t[i].length:Nat) - 1)
    ·rfl
    ·obtain⟨j,rfl,hj⟩:=YU hk
     simp only[QQ3,QQ1,QQ2,Qk hj]
     by_cases h0:i=0
     ·rw[dt (show(i:Int)=0 by omega),dt h0];simp only[QQ1,Bool.true_or];exact ih _ trivial
     ·rw[df (show¬(i:Int)=0 by omega),df h0]
      cases decide (rd1 0 t[i] (j:Int)<m)<;>exact ih _ trivial)
  (fun m _=>by
    apply QhU
    simp only[Qeq,Qm,QQ2,QRl,QkW]) 0 trivial
 simp only[QQ6,QRg]at e
 simp only[Qla,e,QQ0,common]
 by_cases h0:((t.length:Nat):Int)=0
 ·rw[dt h0]
  obtain rfl:t=[]:=List.length_eq_zero_iff.1 (by omega)
  rfl
 ·rw[df h0]
  cases QkW id 0 0 t<;>rfl
def Qip (s:Qi) (t:List (List Int)) (i:Nat):List Qa:=bif decide (0<mnI (common t (i:Int)) (Zo s (i:Int)))then [((i:Int),mnI (common t (i:Int)) (Zo s (i:Int)))]else []
def Qnu (s:Qi) (t:List (List Int)):Qi:=([],(List.range' 0 5).flatMap (Qip s t))
def prune (s:Qi) (t:List (List Int)):Qi:=bif QD s then join s (Qnu s t)else s
theorem QmW (s:Qi) (t:List (List Int)):QD (Qnu s t)=true:=by
 simp only[QD,QQ5]
 refine⟨zy _ (fun i hi=> ?_) 5 0 (-1) (by omega) (by simp),rfl⟩
 have h:=Que s (i:Int)
 unfold Qip
 by_cases h0:0<mnI (common t (i:Int)) (Zo s (i:Int))
 ·refine Or.inr ⟨mnI (common t (i:Int)) (Zo s (i:Int)),by simp[h0], ?_⟩
  have:mnI (common t (i:Int)) (Zo s (i:Int))<=Zo s (i:Int):=by unfold mnI;split<;>omega
  simp[inR];omega
 ·exact Or.inl (by simp[h0])
theorem QDr {s:Qi}(h:QD s=true) (t:List (List Int)):QD (prune s t)=true:=by
 unfold prune;rw[h];exact xP h (QmW s t)
theorem QGy (s:Qi) (t:List (List Int)) (hs:smS s) (hz:QG s<=4294967296) (ht:t.length<=maxLen) (hr:∀r∈t,r.length<=maxLen):Qcb w (s.1,s.2,t)=some (prune s t):=by
 apply Qyp
 simp only[QnF,ZA s.1 s.2 hs.1 hs.2,xC s hz,QQ0,prune]
 cases h:QD s
 ·rfl
 ·have e:=Xe 5 (fun i (f:List Qa)=>Jx wl (t,(i:Int),s.1,s.2,[],f)) (fun i f=>(s.1,s.2,([]:List Qd),f++(List.range' i (5 - i)).flatMap (Qip s t))) (fun i f=>f.length<=i)
   (fun i hi f hf ih=>by
     apply QkF
     simp only[Qhc,Qw0 hi,QwB hi,QQ1,QFr t _ ht hr,Qyb s.1 s.2 _ hs.1 hs.2,QQ0]
     rw[Z8 hi]
     simp only[Qip,Qu (show(f.length+([((i:Int),mnI (common t (i:Int)) (Zo s (i:Int)))]:List Qa).length)*16<=140737488351232 by simp;omega),QQ1]
     cases decide (0<mnI (common t (i:Int)) (Zo s (i:Int)))<;>simp only[QQ1,QQ2,QRe]
     ·exact ih f (by omega)
     ·rw[ih _ (by simp;omega)];simp)
   (fun f _=>by
     apply QkF
     simp[Qhc]) [] (by simp)
  simp only[QQ6,QRe,Nat.sub_zero]at e
  simp only[e,QQ0,QQ3,QQ2,QQ1]
  have:=Qa9 s (Qnu s t) hs (X0 (QmW s t))
  simp only[Qnu]at this⊢
  simp only[this,QQ0]
theorem QF3 (s:Qi) (t:List (List Int)) (hs:smS s) (hz:QG s<=4294967296) (ht:t.length<=maxLen) (hr:∀r∈t,r.length<=maxLen):Qct w (s.1,s.2,t)=some (prune s t):=by
 apply QyH
 simp only[Qno,ZK s.1 s.2 hs.1 hs.2,QaI s hz,QQ0,prune]
 cases h:QD s
 ·rfl
 ·have e:=Xe 5 (fun i (f:List Qa)=>Jv wl (t,(i:Int),s.1,s.2,[],f)) (fun i f=>(s.1,s.2,([]:List Qd),f++(List.range' i (5 - i)).flatMap (Qip s t))) (fun i f=>f.length<=i)
   (fun i hi f hf ih=>by
     apply QjF
     simp only[Qg2,Qw0 hi,QwB hi,QQ1,QEQ t _ ht hr,Qul s.1 s.2 _ hs.1 hs.2,QAB,QQ0]
     rw[Z8 hi]
     simp only[Qip,Qu (show(f.length+([((i:Int),mnI (common t (i:Int)) (Zo s (i:Int)))]:List Qa).length)*16<=140737488351232 by simp;omega),QQ1]
     cases decide (0<mnI (common t (i:Int)) (Zo s (i:Int)))<;>simp only[QQ1,QQ2,QRe]
     ·exact ih f (by omega)
     ·rw[ih _ (by simp;omega)];simp)
   (fun f _=>by
     apply QjF
     simp[Qg2]) [] (by simp)
  simp only[QQ6,QRe,Nat.sub_zero]at e
  simp only[e,QQ0,QQ3,QQ2,QQ1]
  have:=Qlw s (Qnu s t) h (QmW s t)
  simp only[Qnu]at this⊢
  simp only[this,QQ0]
def ZD (v:List Int) (k n:Int):List Int:=bif inR k 0 ((v.length:Nat) - 1)then v.set k.toNat (mxI (rd1 0 v k) n)else v
theorem Qsg (v:List Int) (k n:Int) (h:v.length<=4294967296):Ju w (v,k,n)=some (ZD v k n):=by
 apply Qs1
 have ht:v.length<=maxLen:=by simp only[maxLen];omega
 simp only[QhH,Qai v h,lenW' ht,Xi,QQ0,ZD]
 cases hk:inR k 0 ((v.length:Nat) - 1)
 ·rfl
 ·obtain⟨j,rfl,hj⟩:=YU hk
  simp only[Qk hj,QQ1]
theorem QqE (v:List Int) (k n:Int) (h:v.length<=4294967296):Jq w (v,k,n)=some (ZD v k n):=by
 apply Qst
 have ht:v.length<=maxLen:=by simp only[maxLen];omega
 simp only[QhB,QY7,QRe,QRo,Qu (show v.length*8<=140737488351232 by omega),lenW' ht,XD,QQ0,ZD,QQ1]
 cases hk:inR k 0 ((v.length:Nat) - 1)
 ·rfl
 ·obtain⟨j,rfl,hj⟩:=YU hk
  simp only[Qk hj,QQ1,Qg hj,QRb]
  by_cases hn:v[j]<n
  ·rw[dt hn];simp only[QQ1];congr 2;unfold mxI;split<;>omega
  ·rw[df hn];simp only[QQ2]
   have:mxI v[j] n=v[j]:=by unfold mxI;split<;>omega
   rw[this,List.set_getElem_self]
def Qi1 (a b:List Int) (i:Nat):List Int:=bif decide (((a.length:Nat):Int)=4)&&decide (((b.length:Nat):Int)=4)&&decide (rd1 0 a (i:Int)=rd1 0 b (i:Int))then []else [(i:Int)]
def differ (a:List Int) (ra:Int) (b:List Int) (rb:Int):List Int:=bif decide (ra=rb)then []else(List.range' 0 4).flatMap (Qi1 a b)
theorem QJ2 {i:Nat}(h:i<4):wR ((i:Int)+1)=((i+1:Nat):Int):=by
 rw[w64 (by omega) (by omega)];omega
theorem Qxw (a:List Int) (ra:Int) (b:List Int) (rb:Int):vq w (a,ra,b,rb)=some (differ a ra b rb):=by
 apply Qw7
 have e:=fun wh (hw:wh=(decide (((a.length:Nat):Int)=4)&&decide (((b.length:Nat):Int)=4)))=>Xe 4 (fun i (f:List Int)=>Ye wl (wh,(i:Int),a,ra,b,rb,f)) (fun i f=>f++(List.range' i (4 - i)).flatMap (Qi1 a b)) (fun i f=>f.length<=i)
  (fun i hi f hf ih=>by
    apply Qhw
    have hf:fits (f.length+([(i:Int)]:List Int).length) 8=true:=Qu (by simp;omega)
    simp only[QdX,QDn hi,QJ2 hi,QQ1,hf]
    rw[Z8 hi]
    simp only[Qi1,<-hw]
    cases wh
    ·simp only[QQ4,QQ1,QRm,QQ2]
     rw[ih _ (by simp;omega)];simp
    ·have hw':=hw.symm
     simp only[QQ5,QRu]at hw'
     simp only[QQ3,QQ2,Qk (show i<a.length by omega),Qk (show i<b.length by omega),QQ1,QRd]
     cases decide (rd1 0 a (i:Int)=rd1 0 b (i:Int))<;>simp only[QQ3,QQ4,QQ1,QQ2,QRe]
     ·rw[ih _ (by simp;omega)];simp
     ·exact ih f (by omega))
  (fun f _=>by
    apply Qhw
    simp[QdX]) [] (by simp)
 simp only[QQ6,QRe,Nat.sub_zero]at e
 simp only[QmK,differ]
 cases decide (ra=rb)
 ·by_cases h4:((a.length:Nat):Int)=4
  ·rw[dt h4];simp only[QQ1,QQ2]
   rw[e _ (by rw[dt h4,QRd])];rfl
  ·rw[df h4];simp only[QQ2]
   rw[e _ (by rw[df h4,QRm])];rfl
 ·rfl
theorem Qug (a:List Int) (ra:Int) (b:List Int) (rb:Int):vA w (a,ra,b,rb)=some (differ a ra b rb):=by
 apply QvN
 have e:=Xe 4 (fun i (f:List Int)=>Yc wl ((i:Int),a,ra,b,rb,f)) (fun i f=>f++(List.range' i (4 - i)).flatMap (Qi1 a b)) (fun i f=>f.length<=i)
  (fun i hi f hf ih=>by
    apply QhE
    have hf:fits (f.length+([(i:Int)]:List Int).length) 8=true:=Qu (by simp;omega)
    simp only[QdY,QDn hi,QJ2 hi,QQ1,hf]
    rw[Z8 hi]
    simp only[Qi1]
    by_cases h4:((a.length:Nat):Int)=4
    ·by_cases h4':((b.length:Nat):Int)=4
     ·simp only[dt h4,dt h4',QQ3,QQ2,Qk (show i<a.length by omega),Qk (show i<b.length by omega),QQ1,QRd]
      cases decide (rd1 0 a (i:Int)=rd1 0 b (i:Int))<;>simp only[QQ3,QQ4,QQ1,QQ2,QRe]
      ·rw[ih _ (by simp;omega)];simp
      ·exact ih f (by omega)
     ·simp only[dt h4,df h4',QQ3,QQ4,QQ2,QQ1,QY9,QRm]
      rw[ih _ (by simp;omega)];simp
    ·simp only[df h4,QQ4,QQ1,QRm,QQ2]
     rw[ih _ (by simp;omega)];simp)
  (fun f _=>by
    apply QhE
    simp[QdY]) [] (by simp)
 simp only[QQ6,QRe,Nat.sub_zero]at e
 simp only[Qml,differ,e]
 cases decide (ra=rb)<;>rfl
theorem yO {s:Qi}(h:QD s=true):QG s<=60:=by
 have hl:=Kj h
 simp only[QD,QQ5]at h
 have:=QxI _ _ _ h.2
 simp only[QG,XX,XS];omega
theorem Qiw {α:Type}(c:α->Nat) (k:Nat):(l:List α)->(∀x∈l,c x<=k)->Qj c l<=k*l.length
 | [],_=>by simp[Qj]
 |x::l,h=>by
  have:=h x (by simp)
  have:=Qiw c k l (fun y hy=>h y (by simp[hy]))
  simp only[Qj,QY8,Nat.mul_add];omega
structure NOk (x:Qb):Prop where
 n:inR x.2.1 1 5=true
 id:inR x.1 0 (x.2.1 - 1)=true
 st:QD (x.2.2.1,x.2.2.2.1)=true
 tree:(x.2.2.2.2.1,x.2.2.2.2.2.1)=Za (x.2.2.1,x.2.2.2.1)
 log:Zj (x.2.2.2.2.2.2.1,x.2.2.2.2.2.2.2.1,x.2.2.2.2.2.2.2.2.1)=true
 got:Ym x.2.2.2.2.2.2.2.2.2.1 x.2.1=true
 ack:Ym x.2.2.2.2.2.2.2.2.2.2.1 x.2.1=true
 own:x.2.2.2.2.2.2.2.2.2.1.getD (x.1).toNat 0=Xf (x.2.2.2.2.2.2.1,x.2.2.2.2.2.2.2.1,x.2.2.2.2.2.2.2.2.1)
 heard:(x.2.2.2.2.2.2.2.2.2.2.1.all fun y=>decide (y<=Xf (x.2.2.2.2.2.2.1,x.2.2.2.2.2.2.2.1,x.2.2.2.2.2.2.2.2.1)))=true
 seen:K2 x.2.2.2.2.2.2.2.2.2.2.2.1 x.2.1=true
 num:inR x.2.2.2.2.2.2.2.2.2.2.2.2.1 0 100000=true
 clock:inR x.2.2.2.2.2.2.2.2.2.2.2.2.2.2.2.2.2.1 0 100000=true
 wait:inR x.2.2.2.2.2.2.2.2.2.2.2.2.2.2.2.1 1 20=true
 limit:inR x.2.2.2.2.2.2.2.2.2.2.2.2.2.2.2.2.1 1 50=true
 slots:inR x.2.2.2.2.2.2.2.2.2.2.2.2.2.1 1 4=true
 room:((x.2.2.2.2.2.2.2.2.2.2.2.2.2.2.1.length:Nat):Int)<=x.2.2.2.2.2.2.2.2.2.2.2.2.2.1
 sess:Zb x.1 x.2.1 x.2.2.2.2.2.2.2.2.2.2.2.2.2.2.2.1 [] x.2.2.2.2.2.2.2.2.2.2.2.2.2.2.1=true
 rlen:((x.2.2.2.2.2.2.2.2.2.2.2.2.2.2.2.2.2.2.length:Nat):Int)=5
 rises:x.2.2.2.2.2.2.2.2.2.2.2.2.2.2.2.2.2.2.all (Z3 x.2.2.2.2.2.2.2.2.2.2.2.2.2.2.2.2.2.1)=true
theorem nok {x:Qb}(h:VB x=true):NOk x:=by
 simp only[VB,QkJ,QQ5,QRu]at h
 obtain⟨⟨⟨⟨⟨⟨⟨⟨⟨⟨⟨⟨⟨⟨⟨⟨⟨⟨h1,h2⟩,h3⟩,h4⟩,h5⟩,h6⟩,h7⟩,h8⟩,h9⟩,h10⟩,h11⟩,h12⟩,h13⟩,h14⟩,h15⟩,h16⟩,h17⟩,h18⟩,h19⟩:=h
 exact⟨h1,h2,h3,h4,h5,h6,h7,h8,h9,h10,h11,h12,h13,h14,h15,h16,h17,h18,h19⟩
theorem QFv {x:Qb}(h:NOk x):VB x=true:=by
 simp only[VB,QkJ,QQ5,QRu]
 exact⟨⟨⟨⟨⟨⟨⟨⟨⟨⟨⟨⟨⟨⟨⟨⟨⟨⟨h.n,h.id⟩,h.st⟩,h.tree⟩,h.log⟩,h.got⟩,h.ack⟩,h.own⟩,h.heard⟩,h.seen⟩,h.num⟩,h.clock⟩,h.wait⟩,h.limit⟩,h.slots⟩,h.room⟩,h.sess⟩,h.rlen⟩,h.rises⟩
theorem QX {n a b:Int}:inR n a b=true↔a<=n/\n<=b:=by simp[inR]
theorem yr {v:List Int}{n:Int}(h:Ym v n=true):((v.length:Nat):Int)=n/\∀y∈v,inR y 0 100000=true:=by
 simp only[Ym,QQ5,QRu,QRt]at h
 exact⟨h.1.2,h.2⟩
theorem QGe {g:Zv}(h:Zj g=true):∀s∈g.2.2,QD s=true:=by
 simp only[Zj,QQ5,QRt]at h
 exact h.2
theorem QjB {t:List (List Int)}{n:Int}(h:K2 t n=true):((t.length:Nat):Int)=n/\∀r∈t,x0 r=true:=by
 simp only[K2,QQ5,QRu,QRt]at h
 exact⟨h.1.2,h.2⟩
theorem Qk9 {r:List Int}(h:x0 r=true):r.length=5:=by
 simp only[x0,QQ5,QRu]at h
 omega
theorem Xq {x:Qb}(h:NOk x):Q9 x<=2000/\QzV x:=by
 have h1:=Kj h.st
 have h2:=yO h.st
 have h3:x.2.2.2.2.1.length=4:=by
  have:=h.tree
  rw[Za,h.st]at this
  have:=congrArg (fun z:Zi=>z.1.length) this
  simpa[leaves]using this
 have h4:=Qia h.log
 have h5:=QGe h.log
 have h6:=yr h.got
 have h7:=yr h.ack
 have h8:=QjB h.seen
 have hn:=QX.1 h.n
 have hs:=QX.1 h.slots
 have hr:=h.room
 have hl:=h.rlen
 have k1:Qj QG x.2.2.2.2.2.2.2.2.1<=60*x.2.2.2.2.2.2.2.2.1.length:=Qiw _ _ _ fun s hs=>yO (h5 s hs)
 have k2:Qj QW x.2.2.2.2.2.2.2.2.2.2.2.1<=5*x.2.2.2.2.2.2.2.2.2.2.2.1.length:=Qiw _ _ _ fun r hr=>by
  have:=Qk9 (h8.2 r hr)
  simp only[QW];omega
 try simp only at h1 h4 h5
 constructor
 ·simp only[Q9,ZC,Yf,X1,QW,Xy,Ya,Z9]
  omega
 ·refine⟨by simp only[maxLen];omega,by simp only[maxLen];omega,by simp only[maxLen];omega,by simp only[maxLen];omega,fun s hs=>X0 (h5 s hs),by simp only[maxLen];omega,by simp only[maxLen];omega,by simp only[maxLen];omega,fun r hr=> ?_,by simp only[maxLen];omega,by simp only[maxLen];omega⟩
  have:=Qk9 (h8.2 r hr)
  simp only[maxLen];omega
theorem QvG {x:Qb}(h:NOk x):ZJ w (x.1,x.2.1,x.2.2.1,x.2.2.2.1,x.2.2.2.2.1,x.2.2.2.2.2.1,x.2.2.2.2.2.2.1,x.2.2.2.2.2.2.2.1,x.2.2.2.2.2.2.2.2.1,x.2.2.2.2.2.2.2.2.2.1,x.2.2.2.2.2.2.2.2.2.2.1,x.2.2.2.2.2.2.2.2.2.2.2.1,x.2.2.2.2.2.2.2.2.2.2.2.2.1,x.2.2.2.2.2.2.2.2.2.2.2.2.2.1,x.2.2.2.2.2.2.2.2.2.2.2.2.2.2.1,x.2.2.2.2.2.2.2.2.2.2.2.2.2.2.2.1,x.2.2.2.2.2.2.2.2.2.2.2.2.2.2.2.2.1,x.2.2.2.2.2.2.2.2.2.2.2.2.2.2.2.2.2.1,x.2.2.2.2.2.2.2.2.2.2.2.2.2.2.2.2.2.2)=some x:=Qr2 x (by have:=(Xq h).1;omega)
theorem Qgy {x:Qb}(h:NOk x):Xr w (x.1,x.2.1,x.2.2.1,x.2.2.2.1,x.2.2.2.2.1,x.2.2.2.2.2.1,x.2.2.2.2.2.2.1,x.2.2.2.2.2.2.2.1,x.2.2.2.2.2.2.2.2.1,x.2.2.2.2.2.2.2.2.2.1,x.2.2.2.2.2.2.2.2.2.2.1,x.2.2.2.2.2.2.2.2.2.2.2.1,x.2.2.2.2.2.2.2.2.2.2.2.2.1,x.2.2.2.2.2.2.2.2.2.2.2.2.2.1,x.2.2.2.2.2.2.2.2.2.2.2.2.2.2.1,x.2.2.2.2.2.2.2.2.2.2.2.2.2.2.2.1,x.2.2.2.2.2.2.2.2.2.2.2.2.2.2.2.2.1,x.2.2.2.2.2.2.2.2.2.2.2.2.2.2.2.2.2.1,x.2.2.2.2.2.2.2.2.2.2.2.2.2.2.2.2.2.2)=some x:=QtY x (by have:=(Xq h).1;omega)
theorem okN {x:Qb}(h:NOk x):ZH w (x.1,x.2.1,x.2.2.1,x.2.2.2.1,x.2.2.2.2.1,x.2.2.2.2.2.1,x.2.2.2.2.2.2.1,x.2.2.2.2.2.2.2.1,x.2.2.2.2.2.2.2.2.1,x.2.2.2.2.2.2.2.2.2.1,x.2.2.2.2.2.2.2.2.2.2.1,x.2.2.2.2.2.2.2.2.2.2.2.1,x.2.2.2.2.2.2.2.2.2.2.2.2.1,x.2.2.2.2.2.2.2.2.2.2.2.2.2.1,x.2.2.2.2.2.2.2.2.2.2.2.2.2.2.1,x.2.2.2.2.2.2.2.2.2.2.2.2.2.2.2.1,x.2.2.2.2.2.2.2.2.2.2.2.2.2.2.2.2.1,x.2.2.2.2.2.2.2.2.2.2.2.2.2.2.2.2.2.1,x.2.2.2.2.2.2.2.2.2.2.2.2.2.2.2.2.2.2)=some true:=by rw[<-QFv h];exact Qzu x (Xq h).2
theorem QEk {x:Qb}(h:NOk x):Ys w (x.1,x.2.1,x.2.2.1,x.2.2.2.1,x.2.2.2.2.1,x.2.2.2.2.2.1,x.2.2.2.2.2.2.1,x.2.2.2.2.2.2.2.1,x.2.2.2.2.2.2.2.2.1,x.2.2.2.2.2.2.2.2.2.1,x.2.2.2.2.2.2.2.2.2.2.1,x.2.2.2.2.2.2.2.2.2.2.2.1,x.2.2.2.2.2.2.2.2.2.2.2.2.1,x.2.2.2.2.2.2.2.2.2.2.2.2.2.1,x.2.2.2.2.2.2.2.2.2.2.2.2.2.2.1,x.2.2.2.2.2.2.2.2.2.2.2.2.2.2.2.1,x.2.2.2.2.2.2.2.2.2.2.2.2.2.2.2.2.1,x.2.2.2.2.2.2.2.2.2.2.2.2.2.2.2.2.2.1,x.2.2.2.2.2.2.2.2.2.2.2.2.2.2.2.2.2.2)=some true:=by rw[<-QFv h];exact Qx0 x (Xq h).2
def xU (c:Int) (rs:List QO) (x:Qd):List QO:=bif decide ((rd1 Zq rs x.1).1<x.2.1)then rs.set x.1.toNat (x.2.1,x.2.2.2.1,c)else(bif decide (x.2.1=(rd1 Zq rs x.1).1)then(bif decide ((rd1 Zq rs x.1).2.1<x.2.2.2.1)then rs.set x.1.toNat (x.2.1,x.2.2.2.1,c)else rs)else rs)
def qV (c:Int):List QO->List Qd->List QO
 |rs,[]=>rs
 |rs,x::l=>qV c (xU c rs x) l
theorem QjA (c:Int) (rs:List QO) (x:Qd):(xU c rs x).length=rs.length:=by
 unfold xU
 cases decide ((rd1 Zq rs x.1).1<x.2.1)<;>cases decide (x.2.1=(rd1 Zq rs x.1).1)<;>cases decide ((rd1 Zq rs x.1).2.1<x.2.2.2.1)<;>simp
theorem Qsa (c:Int):(rs:List QO)->(l:List Qd)->(qV c rs l).length=rs.length
 |rs,[]=>rfl
 |rs,x::l=>by rw[qV,Qsa c _ l,QjA]
theorem Qtn (fl:List Qa):(p:Int)->(l:List Qd)->Xx fl p l=true->∀x∈l,inR x.1 0 4=true/\XG x.2=true
 |_,[],_=>by simp
 |p,x::l,h=>by
  simp only[Xx,QQ5]at h
  intro y hy
  rcases QRk.1 hy with rfl|hy
  ·exact⟨h.1.1.1.1,h.1.1.1.2⟩
  ·exact Qtn fl _ l h.2 y hy
theorem Qh7 {s:Qi}(h:QD s=true):∀x∈s.1,inR x.1 0 4=true/\XG x.2=true:=by
 simp only[QD,QQ5]at h
 exact Qtn _ _ _ h.2
theorem QEe {c:Int}(hc:0<=c) {rs:List QO}(h:∀r∈rs,Z3 c r=true) {x:Qd}(hx:XG x.2=true):∀r∈rs.set x.1.toNat (x.2.1,x.2.2.2.1,c),Z3 c r=true:=by
 intro r hr
 rcases QY34 hr with hr|rfl
 ·exact h r hr
 ·have:=ze hx
  simp[Z3,inR];omega
theorem QCE {c:Int}(hc:0<=c) {rs:List QO}(h:∀r∈rs,Z3 c r=true) {x:Qd}(hx:XG x.2=true):∀r∈xU c rs x,Z3 c r=true:=by
 have hs:=QEe hc h hx
 unfold xU
 cases decide ((rd1 Zq rs x.1).1<x.2.1)<;>cases decide (x.2.1=(rd1 Zq rs x.1).1)<;>cases decide ((rd1 Zq rs x.1).2.1<x.2.2.2.1)<;>simp only[QQ1,QQ2]<;>assumption
theorem QuL {c:Int}(hc:0<=c):(rs:List QO)->(l:List Qd)->(∀r∈rs,Z3 c r=true)->(∀x∈l,XG x.2=true)->∀r∈qV c rs l,Z3 c r=true
 |rs,[],h,_=>h
 |rs,x::l,h,hl=>QuL hc _ l (QCE hc h (hl x (by simp))) fun y hy=>hl y (by simp[hy])
theorem QxQ:(l:List Qa)->(r:List Int)->x0 r=true->(∀m∈l,inR m.2 1 1000=true)->x0 (QbT r l)=true
 | [],r,h,_=>h
 |m::l,r,h,hl=>by
  refine QxQ l _ ?_ fun y hy=>hl y (by simp[hy])
  have hm:=QX.1 (hl m (by simp))
  simp only[x0,QQ5,QRt,QRu,QY6]at h⊢
  refine⟨fun y hy=> ?_,h.2⟩
  rcases QY34 hy with hy|rfl
  ·exact h.1 y hy
  ·have hq:0<=rd1 0 r m.1/\rd1 0 r m.1<=1000:=by
    unfold rd1
    by_cases hk:m.1.toNat<r.length
    ·have:=QX.1 (h.1 _ (QRf hk))
     simpa[List.getD,QRp hk]using this
    ·simp[List.getD,List.getElem?_eq_none (Nat.le_of_not_lt hk)]
   rw[QX]
   unfold mxI;split<;>omega
theorem QeH {t:List (List Int)}{n:Int}(h:K2 t n=true) (k:Int) (l:List Qa):K2 (K5 t k l) n=true:=by
 unfold K5
 cases hk:inR k 0 ((t.length:Nat) - 1)
 ·exact h
 ·obtain⟨j,rfl,hj⟩:=YU hk
  cases ho:QR (-1) l
  ·exact h
  ·simp only[QRd]
   cases(!decide (((List.length (rd1 ([]:List Int) t (j:Int)):Nat):Int)<5))
   ·exact h
   ·have hl:=Qh6 _ _ ho
    simp only[K2,QQ5,QRt,QRu,QQ1,QY6]at h⊢
    refine⟨h.1,fun r hr=> ?_⟩
    rcases QY34 hr with hr|rfl
    ·exact h.2 r hr
    ·rw[Qg hj]
     exact QxQ l _ (h.2 _ (QRf hj)) fun m hm=>(hl m hm).2
theorem Qp6 (t:List (List Int)) (k:Int) (l:List Qa):(K5 t k l).length=t.length:=by
 unfold K5;cases(inR k 0 ((t.length:Nat) - 1)&&(QR (-1) l&& !decide (((List.length (rd1 ([]:List Int) t k):Nat):Int)<5)))<;>simp
def ZO (x:Qb) (p:Qi):List (List Int):=K5 x.2.2.2.2.2.2.2.2.2.2.2.1 x.1 (marksOf (join (x.2.2.1,x.2.2.2.1) p))
def Xm (x:Qb) (p:Qi):Qi:=prune (join (x.2.2.1,x.2.2.2.1) p) (ZO x p)
def take (x:Qb) (p:Qi):Qb:=(x.1,x.2.1,(Xm x p).1,(Xm x p).2,(Za (Xm x p)).1,(Za (Xm x p)).2,x.2.2.2.2.2.2.1,x.2.2.2.2.2.2.2.1,x.2.2.2.2.2.2.2.2.1,x.2.2.2.2.2.2.2.2.2.1,x.2.2.2.2.2.2.2.2.2.2.1,ZO x p,x.2.2.2.2.2.2.2.2.2.2.2.2.1,x.2.2.2.2.2.2.2.2.2.2.2.2.2.1,x.2.2.2.2.2.2.2.2.2.2.2.2.2.2.1,x.2.2.2.2.2.2.2.2.2.2.2.2.2.2.2.1,x.2.2.2.2.2.2.2.2.2.2.2.2.2.2.2.2.1,x.2.2.2.2.2.2.2.2.2.2.2.2.2.2.2.2.2.1,qV x.2.2.2.2.2.2.2.2.2.2.2.2.2.2.2.2.2.1 x.2.2.2.2.2.2.2.2.2.2.2.2.2.2.2.2.2.2 (Xm x p).1)
theorem QmE {x:Qb}(h:NOk x) {p:Qi}(hp:QD p=true):QD (Xm x p)=true:=QDr (xP h.st hp) _
theorem QkX {x:Qb}(h:NOk x) {p:Qi}(hp:QD p=true):NOk (take x p) where
 n:=h.n
 id:=h.id
 st:=QmE h hp
 tree:=rfl
 log:=h.log
 got:=h.got
 ack:=h.ack
 own:=h.own
 heard:=h.heard
 seen:=QeH h.seen _ _
 num:=h.num
 clock:=h.clock
 wait:=h.wait
 limit:=h.limit
 slots:=h.slots
 room:=h.room
 sess:=h.sess
 rlen:=by simp only[take,Qsa];exact h.rlen
 rises:=QRt.2 (QuL (QX.1 h.clock).1 _ _ (QRt.1 h.rises) fun y hy=>(Qh7 (QmE h hp) y hy).2)
set_option maxHeartbeats 1000000 in
theorem QwM (x:Qb) (h:NOk x) (p:Qi) (hp:QD p=true):Qaz w (x.1,x.2.1,x.2.2.1,x.2.2.2.1,x.2.2.2.2.1,x.2.2.2.2.2.1,x.2.2.2.2.2.2.1,x.2.2.2.2.2.2.2.1,x.2.2.2.2.2.2.2.2.1,x.2.2.2.2.2.2.2.2.2.1,x.2.2.2.2.2.2.2.2.2.2.1,x.2.2.2.2.2.2.2.2.2.2.2.1,x.2.2.2.2.2.2.2.2.2.2.2.2.1,x.2.2.2.2.2.2.2.2.2.2.2.2.2.1,x.2.2.2.2.2.2.2.2.2.2.2.2.2.2.1,x.2.2.2.2.2.2.2.2.2.2.2.2.2.2.2.1,x.2.2.2.2.2.2.2.2.2.2.2.2.2.2.2.2.1,x.2.2.2.2.2.2.2.2.2.2.2.2.2.2.2.2.2.1,x.2.2.2.2.2.2.2.2.2.2.2.2.2.2.2.2.2.2,p.1,p.2)=some ((take x p).1,(take x p).2.1,(take x p).2.2.1,(take x p).2.2.2.1,(take x p).2.2.2.2.1,(take x p).2.2.2.2.2.1,(take x p).2.2.2.2.2.2.1,(take x p).2.2.2.2.2.2.2.1,(take x p).2.2.2.2.2.2.2.2.1,(take x p).2.2.2.2.2.2.2.2.2.1,(take x p).2.2.2.2.2.2.2.2.2.2.1,(take x p).2.2.2.2.2.2.2.2.2.2.2.1,(take x p).2.2.2.2.2.2.2.2.2.2.2.2.1,(take x p).2.2.2.2.2.2.2.2.2.2.2.2.2.1,(take x p).2.2.2.2.2.2.2.2.2.2.2.2.2.2.1,(take x p).2.2.2.2.2.2.2.2.2.2.2.2.2.2.2.1,(take x p).2.2.2.2.2.2.2.2.2.2.2.2.2.2.2.2.1,(take x p).2.2.2.2.2.2.2.2.2.2.2.2.2.2.2.2.2.1,(take x p).2.2.2.2.2.2.2.2.2.2.2.2.2.2.2.2.2.2,true):=by
 have hsm:=Xq h
 have hst:=X0 h.st
 have hjo:=xP h.st hp
 have hjs:=X0 hjo
 have hto:=QmE h hp
 have hts:=X0 hto
 have hmk:(marksOf (join (x.2.2.1,x.2.2.2.1) p)).length<=maxLen:=by
  have:=ja _ _ (jo (join (x.2.2.1,x.2.2.2.1) p)) (by omega)
  simp only[maxLen]
  rcases this with h|h
  ·omega
  ·rw[h];simp
 have hz11:Xy x.2.2.2.2.2.2.2.2.2.2.2.1<=4294967296:=(Kt (x:=x) (by omega)).2.2.2
 have hsl:(ZO x p).length<=maxLen:=by rw[ZO,Qp6];exact hsm.2.2.2.2.2.2.2.2.1
 have hsr:∀r∈ZO x p,r.length<=maxLen:=fun r hr=>by
  have:=Qk9 ((QjB (QeH h.seen _ _)).2 r hr)
  simp only[maxLen];omega
 have hc:=QvG h
 have hn:=okN h
 have hpo:Xs w (p.1,p.2)=some true:=by rw[<-hp];exact ZA p.1 p.2 (X0 hp).1 (X0 hp).2
 have hj:Zs w (x.2.2.1,x.2.2.2.1,p.1,p.2)=some (join (x.2.2.1,x.2.2.2.1) p):=Qa9 (x.2.2.1,x.2.2.2.1) p hst (X0 hp)
 have hm:qT w (join (x.2.2.1,x.2.2.2.1) p)=some (marksOf (join (x.2.2.1,x.2.2.2.1) p)):=QuP _ _ hjs.1 hjs.2
 have ht:Vd w (x.2.2.2.2.2.2.2.2.2.2.2.1,x.1,marksOf (join (x.2.2.1,x.2.2.2.1) p))=some (ZO x p):=QrL _ _ _ hz11 hmk
 have hpr:Qcb w ((join (x.2.2.1,x.2.2.2.1) p).1,(join (x.2.2.1,x.2.2.2.1) p).2,ZO x p)=some (Xm x p):=QGy _ _ hjs (QY19 (yO hjo) (by decide)) hsl hsr
 have htr:zG w (Xm x p)=some (Za (Xm x p)):=Qxy _ _ hts.1 hts.2
 have e:=Xe (Xm x p).1.length (fun i (s:List QO)=>KB wl ((((Xm x p).1.length:Nat):Int),(i:Int),x.1,x.2.1,x.2.2.1,x.2.2.2.1,x.2.2.2.2.1,x.2.2.2.2.2.1,x.2.2.2.2.2.2.1,x.2.2.2.2.2.2.2.1,x.2.2.2.2.2.2.2.2.1,x.2.2.2.2.2.2.2.2.2.1,x.2.2.2.2.2.2.2.2.2.2.1,x.2.2.2.2.2.2.2.2.2.2.2.1,x.2.2.2.2.2.2.2.2.2.2.2.2.1,x.2.2.2.2.2.2.2.2.2.2.2.2.2.1,x.2.2.2.2.2.2.2.2.2.2.2.2.2.2.1,x.2.2.2.2.2.2.2.2.2.2.2.2.2.2.2.1,x.2.2.2.2.2.2.2.2.2.2.2.2.2.2.2.2.1,x.2.2.2.2.2.2.2.2.2.2.2.2.2.2.2.2.2.1,x.2.2.2.2.2.2.2.2.2.2.2.2.2.2.2.2.2.2,x.1,x.2.1,(Xm x p).1,(Xm x p).2,(Za (Xm x p)).1,(Za (Xm x p)).2,x.2.2.2.2.2.2.1,x.2.2.2.2.2.2.2.1,x.2.2.2.2.2.2.2.2.1,x.2.2.2.2.2.2.2.2.2.1,x.2.2.2.2.2.2.2.2.2.2.1,ZO x p,x.2.2.2.2.2.2.2.2.2.2.2.2.1,x.2.2.2.2.2.2.2.2.2.2.2.2.2.1,x.2.2.2.2.2.2.2.2.2.2.2.2.2.2.1,x.2.2.2.2.2.2.2.2.2.2.2.2.2.2.2.1,x.2.2.2.2.2.2.2.2.2.2.2.2.2.2.2.2.1,x.2.2.2.2.2.2.2.2.2.2.2.2.2.2.2.2.2.1,s)) (fun i s=>(x.1,x.2.1,(Xm x p).1,(Xm x p).2,(Za (Xm x p)).1,(Za (Xm x p)).2,x.2.2.2.2.2.2.1,x.2.2.2.2.2.2.2.1,x.2.2.2.2.2.2.2.2.1,x.2.2.2.2.2.2.2.2.2.1,x.2.2.2.2.2.2.2.2.2.2.1,ZO x p,x.2.2.2.2.2.2.2.2.2.2.2.2.1,x.2.2.2.2.2.2.2.2.2.2.2.2.2.1,x.2.2.2.2.2.2.2.2.2.2.2.2.2.2.1,x.2.2.2.2.2.2.2.2.2.2.2.2.2.2.2.1,x.2.2.2.2.2.2.2.2.2.2.2.2.2.2.2.2.1,x.2.2.2.2.2.2.2.2.2.2.2.2.2.2.2.2.2.1,qV x.2.2.2.2.2.2.2.2.2.2.2.2.2.2.2.2.2.1 s ((Xm x p).1.drop i))) (fun _ s=>s.length=5)
  (fun i hi s hs ih=>by
    apply QlE
    obtain⟨n,hn,hn5⟩:=Qox (Qh7 hto _ (QRf hi)).1 (show 5<=s.length by omega)
    have hi':=ih (xU x.2.2.2.2.2.2.2.2.2.2.2.2.2.2.2.2.2.1 s (Xm x p).1[i]) (by rw[QjA];exact hs)
    rw[QRa hi,qV]
    unfold xU at hi'⊢
    rw[hn]at hi'⊢
    simp only[QiJ,ilt hi,Qk hi,Qg hi,inc hi hts.1,QQ1,hn,Qk hn5]
    revert hi'
    cases decide ((rd1 Zq s (n:Int)).1<(Xm x p).1[i].2.1)<;>cases decide ((Xm x p).1[i].2.1=(rd1 Zq s (n:Int)).1)<;>cases decide ((rd1 Zq s (n:Int)).2.1<(Xm x p).1[i].2.2.2.1)<;>simp only[QQ1,QQ2]<;>exact fun h=>h)
  (fun s _=>by
    apply QlE
    simp only[QiJ,Qm,QQ2,QRl,qV]) x.2.2.2.2.2.2.2.2.2.2.2.2.2.2.2.2.2.2 (by have:=h.rlen;omega)
 simp only[QQ6,QRg]at e
 apply Qzq
 simp only[Qpg,hc,hn,hpo,hj,hm,ht,hpr,htr,e,QQ0,QQ3,QQ2,take]
set_option maxHeartbeats 1000000 in
theorem Qot (x:Qb) (h:NOk x) (p:Qi) (hp:QD p=true):xd w (x.1,x.2.1,x.2.2.1,x.2.2.2.1,x.2.2.2.2.1,x.2.2.2.2.2.1,x.2.2.2.2.2.2.1,x.2.2.2.2.2.2.2.1,x.2.2.2.2.2.2.2.2.1,x.2.2.2.2.2.2.2.2.2.1,x.2.2.2.2.2.2.2.2.2.2.1,x.2.2.2.2.2.2.2.2.2.2.2.1,x.2.2.2.2.2.2.2.2.2.2.2.2.1,x.2.2.2.2.2.2.2.2.2.2.2.2.2.1,x.2.2.2.2.2.2.2.2.2.2.2.2.2.2.1,x.2.2.2.2.2.2.2.2.2.2.2.2.2.2.2.1,x.2.2.2.2.2.2.2.2.2.2.2.2.2.2.2.2.1,x.2.2.2.2.2.2.2.2.2.2.2.2.2.2.2.2.2.1,x.2.2.2.2.2.2.2.2.2.2.2.2.2.2.2.2.2.2,p.1,p.2)=some (take x p):=by
 have hsm:=Xq h
 have hst:=X0 h.st
 have hjo:=xP h.st hp
 have hjs:=X0 hjo
 have hto:=QmE h hp
 have hts:=X0 hto
 have hmk:(marksOf (join (x.2.2.1,x.2.2.2.1) p)).length<=maxLen:=by
  have:=ja _ _ (jo (join (x.2.2.1,x.2.2.2.1) p)) (by omega)
  simp only[maxLen]
  rcases this with h|h
  ·omega
  ·rw[h];simp
 have hz11:Xy x.2.2.2.2.2.2.2.2.2.2.2.1<=4294967296:=(Kt (x:=x) (by omega)).2.2.2
 have hsl:(ZO x p).length<=maxLen:=by rw[ZO,Qp6];exact hsm.2.2.2.2.2.2.2.2.1
 have hsr:∀r∈ZO x p,r.length<=maxLen:=fun r hr=>by
  have:=Qk9 ((QjB (QeH h.seen _ _)).2 r hr)
  simp only[maxLen];omega
 have hc:=Qgy h
 have hj:Yr w (x.2.2.1,x.2.2.2.1,p.1,p.2)=some (join (x.2.2.1,x.2.2.2.1) p):=Qlw (x.2.2.1,x.2.2.2.1) p h.st hp
 have hm:xy w (join (x.2.2.1,x.2.2.2.1) p)=some (marksOf (join (x.2.2.1,x.2.2.2.1) p)):=QrS _ _ hjs.1 hjs.2
 have ht:K9 w (x.2.2.2.2.2.2.2.2.2.2.2.1,x.1,marksOf (join (x.2.2.1,x.2.2.2.1) p))=some (ZO x p):=Qqd _ _ _ hz11 hmk
 have hpr:Qct w ((join (x.2.2.1,x.2.2.2.1) p).1,(join (x.2.2.1,x.2.2.2.1) p).2,ZO x p)=some (Xm x p):=QF3 _ _ hjs (QY19 (yO hjo) (by decide)) hsl hsr
 have htr:zJ w (Xm x p)=some (Za (Xm x p)):=Quy _ _ hts.1 hts.2
 have e:=Xe (Xm x p).1.length (fun i (s:List QO)=>ZR wl ((i:Int),x.1,x.2.1,x.2.2.1,x.2.2.2.1,x.2.2.2.2.1,x.2.2.2.2.2.1,x.2.2.2.2.2.2.1,x.2.2.2.2.2.2.2.1,x.2.2.2.2.2.2.2.2.1,x.2.2.2.2.2.2.2.2.2.1,x.2.2.2.2.2.2.2.2.2.2.1,x.2.2.2.2.2.2.2.2.2.2.2.1,x.2.2.2.2.2.2.2.2.2.2.2.2.1,x.2.2.2.2.2.2.2.2.2.2.2.2.2.1,x.2.2.2.2.2.2.2.2.2.2.2.2.2.2.1,x.2.2.2.2.2.2.2.2.2.2.2.2.2.2.2.1,x.2.2.2.2.2.2.2.2.2.2.2.2.2.2.2.2.1,x.2.2.2.2.2.2.2.2.2.2.2.2.2.2.2.2.2.1,x.2.2.2.2.2.2.2.2.2.2.2.2.2.2.2.2.2.2,x.1,x.2.1,(Xm x p).1,(Xm x p).2,(Za (Xm x p)).1,(Za (Xm x p)).2,x.2.2.2.2.2.2.1,x.2.2.2.2.2.2.2.1,x.2.2.2.2.2.2.2.2.1,x.2.2.2.2.2.2.2.2.2.1,x.2.2.2.2.2.2.2.2.2.2.1,ZO x p,x.2.2.2.2.2.2.2.2.2.2.2.2.1,x.2.2.2.2.2.2.2.2.2.2.2.2.2.1,x.2.2.2.2.2.2.2.2.2.2.2.2.2.2.1,x.2.2.2.2.2.2.2.2.2.2.2.2.2.2.2.1,x.2.2.2.2.2.2.2.2.2.2.2.2.2.2.2.2.1,x.2.2.2.2.2.2.2.2.2.2.2.2.2.2.2.2.2.1,s)) (fun i s=>(x.1,x.2.1,(Xm x p).1,(Xm x p).2,(Za (Xm x p)).1,(Za (Xm x p)).2,x.2.2.2.2.2.2.1,x.2.2.2.2.2.2.2.1,x.2.2.2.2.2.2.2.2.1,x.2.2.2.2.2.2.2.2.2.1,x.2.2.2.2.2.2.2.2.2.2.1,ZO x p,x.2.2.2.2.2.2.2.2.2.2.2.2.1,x.2.2.2.2.2.2.2.2.2.2.2.2.2.1,x.2.2.2.2.2.2.2.2.2.2.2.2.2.2.1,x.2.2.2.2.2.2.2.2.2.2.2.2.2.2.2.1,x.2.2.2.2.2.2.2.2.2.2.2.2.2.2.2.2.1,x.2.2.2.2.2.2.2.2.2.2.2.2.2.2.2.2.2.1,qV x.2.2.2.2.2.2.2.2.2.2.2.2.2.2.2.2.2.1 s ((Xm x p).1.drop i))) (fun _ s=>s.length=5)
  (fun i hi s hs ih=>by
    apply Qgd
    obtain⟨n,hn,hn5⟩:=Qox (Qh7 hto _ (QRf hi)).1 (show 5<=s.length by omega)
    have hi':=ih (xU x.2.2.2.2.2.2.2.2.2.2.2.2.2.2.2.2.2.1 s (Xm x p).1[i]) (by rw[QjA];exact hs)
    rw[QRa hi,qV]
    unfold xU at hi'⊢
    rw[hn]at hi'⊢
    simp only[QcU,ilt hi,Qk hi,Qg hi,inc hi hts.1,QQ1,hn,Qk hn5]
    revert hi'
    cases decide ((rd1 Zq s (n:Int)).1<(Xm x p).1[i].2.1)<;>cases decide ((Xm x p).1[i].2.1=(rd1 Zq s (n:Int)).1)<;>cases decide ((rd1 Zq s (n:Int)).2.1<(Xm x p).1[i].2.2.2.1)<;>simp only[QQ1,QQ2]<;>exact fun h=>h)
  (fun s _=>by
    apply Qgd
    simp only[QcU,Qm,QQ2,QRl,qV]) x.2.2.2.2.2.2.2.2.2.2.2.2.2.2.2.2.2.2 (by have:=h.rlen;omega)
 simp only[QQ6,QRg]at e
 apply Qt2
 simp only[QjK,hc,hj,hm,ht,hpr,htr,e,QQ0,take]
def Xt (g:Zv) (d:Qi):Zv:=bif decide (g.1<(((g.2.2++[d]).length:Nat):Int))then(g.1,g.2.1+1,(g.2.2++[d]).drop 1)else(g.1,g.2.1,g.2.2++[d])
theorem JM (g:Zv):Zj g=true↔(1<=g.1/\g.1<=8)/\((g.2.2.length:Nat):Int)<=g.1/\(0<=g.2.1/\g.2.1<=100000)/\g.2.1+((g.2.2.length:Nat):Int)<=100000/\∀s∈g.2.2,QD s=true:=by
 simp only[Zj,QQ5,QRt,QRu,inR]
 constructor
 ·rintro⟨⟨⟨⟨h1,h2⟩,h3⟩,h4⟩,h5⟩;exact⟨h1,h2,h3,h4,h5⟩
 ·rintro⟨h1,h2,h3,h4,h5⟩;exact⟨⟨⟨⟨h1,h2⟩,h3⟩,h4⟩,h5⟩
theorem QD7 {g:Zv}{d:Qi}(h:∀s∈g.2.2,QD s=true) (hd:QD d=true):∀s∈(Xt g d).2.2,QD s=true:=by
 have:∀s∈g.2.2++[d],QD s=true:=fun s hs=>by
  rcases QRh.1 hs with hs|hs
  ·exact h s hs
  ·obtain rfl:s=d:=by simpa using hs
   exact hd
 unfold Xt
 cases decide (g.1<(((g.2.2++[d]).length:Nat):Int))
 ·exact this
 ·exact fun s hs=>this s (List.mem_of_mem_drop hs)
theorem QpH {g:Zv}{d:Qi}(hg:Zj g=true) (hd:QD d=true):Zj (Xt g d)= !decide (g.2.1+((g.2.2.length:Nat):Int)=100000):=by
 have h:=(JM g).1 hg
 have hm:=QD7 h.2.2.2.2 hd
 have hi:=JM (Xt g d)
 by_cases hc:g.1<(((g.2.2++[d]).length:Nat):Int)
 ·have e:Xt g d=(g.1,g.2.1+1,(g.2.2++[d]).drop 1):=by unfold Xt;rw[dt hc];rfl
  have hl:((Xt g d).2.2.length:Nat)=g.2.2.length:=by rw[e];simp
  have h1:(Xt g d).1=g.1:=by rw[e]
  have h2:(Xt g d).2.1=g.2.1+1:=by rw[e]
  rw[hl,h1,h2]at hi
  simp only[QRj,QY8,QY7]at hc
  by_cases h0:g.2.1+((g.2.2.length:Nat):Int)=100000
  ·rw[dt h0]
   cases hv:Zj (Xt g d)
   ·rfl
   ·have:=hi.1 hv;omega
  ·rw[df h0]
   exact hi.2 ⟨h.1,by omega,by omega,by omega,hm⟩
 ·have e:Xt g d=(g.1,g.2.1,g.2.2++[d]):=by unfold Xt;rw[df hc];rfl
  have hl:((Xt g d).2.2.length:Nat)=g.2.2.length+1:=by rw[e];simp
  have h1:(Xt g d).1=g.1:=by rw[e]
  have h2:(Xt g d).2.1=g.2.1:=by rw[e]
  rw[hl,h1,h2]at hi
  simp only[QRj,QY8,QY7]at hc
  by_cases h0:g.2.1+((g.2.2.length:Nat):Int)=100000
  ·rw[dt h0]
   cases hv:Zj (Xt g d)
   ·rfl
   ·have:=hi.1 hv;omega
  ·rw[df h0]
   exact hi.2 ⟨h.1,by omega,by omega,by omega,hm⟩
theorem QEy {g:Zv}{d:Qi}(hg:Zj g=true) (hd:QD d=true) (h0:¬g.2.1+((g.2.2.length:Nat):Int)=100000):Xf (Xt g d)=Xf g+1:=by
 have h:=(JM g).1 hg
 unfold Xf
 rw[hg,QpH hg hd,df h0]
 simp only[QQ4,QQ1]
 unfold Xt
 by_cases hc:g.1<(((g.2.2++[d]).length:Nat):Int)
 ·rw[dt hc];simp;omega
 ·rw[df hc];simp;omega
theorem xQ {g:Zv}(hg:Zj g=true):Yf g<=1000/\g.2.2.length<=maxLen/\∀s∈g.2.2,s.1.length<=maxLen/\s.2.length<=maxLen:=by
 have h:=(JM g).1 hg
 have k1:Qj QG g.2.2<=60*g.2.2.length:=Qiw _ _ _ fun s hs=>yO (h.2.2.2.2 s hs)
 refine⟨by simp only[Yf,X1];omega,by simp only[maxLen];omega,fun s hs=>X0 (h.2.2.2.2 s hs)⟩
theorem QF8 (g:Zv) (d:Qi) (hg:Zj g=true) (hd:QD d=true):Qfg w (g.1,g.2.1,g.2.2,d.1,d.2)=some (bif decide (g.2.1+((g.2.2.length:Nat):Int)=100000)then(g.1,g.2.1,g.2.2,false)else((Xt g d).1,(Xt g d).2.1,(Xt g d).2.2,true)):=by
 have h:=(JM g).1 hg
 have hz:=xQ hg
 have hds:=X0 hd
 have hdz:=yO hd
 have hc:KE w (g.1,g.2.1,g.2.2)=some g:=Qtq g (by omega)
 have hlo:YB w (g.1,g.2.1,g.2.2)=some true:=by rw[<-hg];exact Qei g.1 g.2.1 g.2.2 hz.2.1 hz.2.2
 have hso:Xs w (d.1,d.2)=some true:=by rw[<-hd];exact ZA d.1 d.2 hds.1 hds.2
 have hsc:X2 w (d.1,d.2)=some d:=xC d (by omega)
 have hlen:(g.2.2++[d]).length=g.2.2.length+1:=by simp
 have hms:∀s∈g.2.2++[d],s.1.length<=maxLen/\s.2.length<=maxLen:=fun s hs=>by
  rcases QRh.1 hs with hs|hs
  ·exact hz.2.2 s hs
  ·obtain rfl:s=d:=by simpa using hs
   exact hds
 have hok:=QpH hg hd
 apply Qxi
 simp only[QlJ,hc,hlo,hso,hsc,QQ0,QQ3,QQ2]
 rw[Qu (by simp;omega),QQ1]
 by_cases hb:g.1<(((g.2.2++[d]).length:Nat):Int)
 ·have e:Xt g d=(g.1,g.2.1+1,(g.2.2++[d]).drop 1):=by unfold Xt;rw[dt hb];rfl
  rw[e]at hok⊢
  rw[dt hb]
  have ht:=QjV (g.2.2++[d]) 1 (by omega) (by rw[hlen];omega)
  simp only[QQ1,ht,dt (show(0:Int)<=1/\1<=(((g.2.2++[d]).length:Nat):Int)/\(((g.2.2++[d]).length:Nat):Int)<=(((g.2.2++[d]).length:Nat):Int) by rw[hlen];omega),w64 (n:=g.2.1+1) (by omega) (by omega)]
  have hl2:=Qei g.1 (g.2.1+1) ((g.2.2++[d]).drop 1) (by rw[QY21,hlen];simp only[maxLen];omega) (fun s hs=>hms s (List.mem_of_mem_drop hs))
  rw[show Int.toNat 1=1 from rfl,hl2,hok]
  cases decide (g.2.1+((g.2.2.length:Nat):Int)=100000)<;>rfl
 ·have e:Xt g d=(g.1,g.2.1,g.2.2++[d]):=by unfold Xt;rw[df hb];rfl
  rw[e]at hok⊢
  rw[df hb]
  have hl2:=Qei g.1 g.2.1 (g.2.2++[d]) (by rw[hlen];simp only[maxLen];omega) hms
  simp only[QQ2,hl2,hok,QQ0]
  cases decide (g.2.1+((g.2.2.length:Nat):Int)=100000)<;>rfl
theorem QDp (g:Zv) (d:Qi) (hg:Zj g=true) (hd:QD d=true):QeJ w (g.1,g.2.1,g.2.2,d.1,d.2)=some (bif decide (g.2.1+((g.2.2.length:Nat):Int)=100000)then(g.1,g.2.1,g.2.2,false)else((Xt g d).1,(Xt g d).2.1,(Xt g d).2.2,true)):=by
 have h:=(JM g).1 hg
 have hz:=xQ hg
 have hds:=X0 hd
 have hdz:=yO hd
 have hc:zI w (g.1,g.2.1,g.2.2)=some g:=Qx2 g (by omega)
 have hlo:Vr w (g.1,g.2.1,g.2.2)=some true:=by rw[<-hg];exact Qmf g.1 g.2.1 g.2.2 hz.2.1 hz.2.2
 have hso:XA w (d.1,d.2)=some true:=by rw[<-hd];exact ZK d.1 d.2 hds.1 hds.2
 have hsc:Z2 w (d.1,d.2)=some d:=QaI d (by omega)
 have hlen:(g.2.2++[d]).length=g.2.2.length+1:=by simp
 apply Qv4
 simp only[QlB,hc,hlo,hso,hsc,QQ0,QQ3,QQ2,w64 (n:=g.2.1+((g.2.2.length:Nat):Int)) (by omega) (by omega)]
 cases decide (g.2.1+((g.2.2.length:Nat):Int)=100000)
 ·simp only[QQ2]
  rw[Qu (by simp;omega),QQ1]
  by_cases hb:g.1<(((g.2.2++[d]).length:Nat):Int)
  ·have e:Xt g d=(g.1,g.2.1+1,(g.2.2++[d]).drop 1):=by unfold Xt;rw[dt hb];rfl
   rw[e,dt hb]
   have ht:=QjV (g.2.2++[d]) 1 (by omega) (by rw[hlen];omega)
   simp only[QQ1,ht,dt (show(0:Int)<=1/\1<=(((g.2.2++[d]).length:Nat):Int)/\(((g.2.2++[d]).length:Nat):Int)<=(((g.2.2++[d]).length:Nat):Int) by rw[hlen];omega),w64 (n:=g.2.1+1) (by omega) (by omega),QY7,QRe,QRo]
   rw[Qu (by rw[QY21,hlen];omega)];rfl
  ·have e:Xt g d=(g.1,g.2.1,g.2.2++[d]):=by unfold Xt;rw[df hb];rfl
   rw[e,df hb];rfl
 ·rfl
def Qe7:Qi->List Qi->Qi
 |s,[]=>s
 |s,d::l=>Qe7 (join s d) l
theorem QzN:(s:Qi)->(l:List Qi)->QD s=true->(∀d∈l,QD d=true)->QD (Qe7 s l)=true
 |s,[],h,_=>h
 |s,d::l,h,hl=>QzN _ l (xP h (hl d (by simp))) fun x hx=>hl x (by simp[hx])
def YC (g:Zv) (seq:Int):List Qd×List Qa×Bool:=bif inR seq g.2.1 (g.2.1+((g.2.2.length:Nat):Int))then((Qe7 ([],[]) (g.2.2.drop (seq - g.2.1).toNat)).1,(Qe7 ([],[]) (g.2.2.drop (seq - g.2.1).toNat)).2,true)else([],[],false)
theorem QBS {g:Zv}(hg:Zj g=true) (seq:Int):QD ((YC g seq).1,(YC g seq).2.1)=true:=by
 have h:=(JM g).1 hg
 unfold YC
 cases inR seq g.2.1 (g.2.1+((g.2.2.length:Nat):Int))
 ·rfl
 ·exact QzN ([],[]) _ rfl fun d hd=>h.2.2.2.2 d (List.mem_of_mem_drop hd)
theorem QBV (g:Zv) (hg:Zj g=true) (seq:Int):zx w (g.1,g.2.1,g.2.2,seq)=some (YC g seq):=by
 have h:=(JM g).1 hg
 have hz:=xQ hg
 have hlo:YB w (g.1,g.2.1,g.2.2)=some true:=by rw[<-hg];exact Qei g.1 g.2.1 g.2.2 hz.2.1 hz.2.2
 have hls:Vx w (g.1,g.2.1,g.2.2)=some (g.2.1+((g.2.2.length:Nat):Int)):=by
  rw[Qmu g.1 g.2.1 g.2.2 hz.2.1 hz.2.2,Xf]
  rw[show Zj (g.1,g.2.1,g.2.2)=true from hg];rfl
 apply Qsq
 simp only[QhA,hlo,hls,Xi,QQ0,QQ3,QQ2,YC]
 cases hr:inR seq g.2.1 (g.2.1+((g.2.2.length:Nat):Int))
 ·rfl
 ·have hr':=QX.1 hr
  have ht:=QjV g.2.2 (seq - g.2.1) (by omega) (by omega)
  simp only[QQ3,QQ2,QQ1,w64 (n:=seq - g.2.1) (by omega) (by omega),ht,dt (show(0:Int)<=seq - g.2.1/\seq - g.2.1<=((g.2.2.length:Nat):Int)/\((g.2.2.length:Nat):Int)<=((g.2.2.length:Nat):Int) by omega)]
  have hm:∀d∈g.2.2.drop (seq - g.2.1).toNat,QD d=true:=fun d hd=>h.2.2.2.2 d (List.mem_of_mem_drop hd)
  have hl:(g.2.2.drop (seq - g.2.1).toNat).length<=maxLen:=by rw[QY21];omega
  generalize g.2.2.drop (seq - g.2.1).toNat=L at hm hl
  have e:=Xe L.length (fun i (s:Qi)=>VX wl (L,((L.length:Nat):Int),(i:Int),s.1,s.2)) (fun i s=>Qe7 s (L.drop i)) (fun _ s=>QD s=true)
   (fun i hi s hs ih=>by
     apply QdE
     have hd:=hm _ (QRf hi)
     have hj:Zs w (s.1,s.2,L[i])=some (join s L[i]):=Qa9 s L[i] (X0 hs) (X0 hd)
     simp only[Qal,ilt hi,Qk hi,Qg hi,inc hi hl,QQ1,hj,QQ0]
     rw[QRa hi,Qe7]
     exact ih _ (xP hs hd))
   (fun s _=>by
     apply QdE
     simp only[Qal,Qm,QQ2,QRl,Qe7]) ([],[]) rfl
  simp only[QQ6,QRg]at e
  simp only[e,QQ0]
theorem QA2 (g:Zv) (hg:Zj g=true) (seq:Int):zj w (g.1,g.2.1,g.2.2,seq)=some (YC g seq):=by
 have h:=(JM g).1 hg
 have hz:=xQ hg
 have hlo:Vr w (g.1,g.2.1,g.2.2)=some true:=by rw[<-hg];exact Qmf g.1 g.2.1 g.2.2 hz.2.1 hz.2.2
 apply Qss
 simp only[Qhx,hlo,XD,QQ0,QQ3,QQ2,YC,w64 (n:=g.2.1+((g.2.2.length:Nat):Int)) (by omega) (by omega)]
 cases hr:inR seq g.2.1 (g.2.1+((g.2.2.length:Nat):Int))
 ·rfl
 ·have hr':=QX.1 hr
  simp only[QQ3,QQ2,QQ1,w64 (n:=seq - g.2.1) (by omega) (by omega)]
  obtain⟨k,hk⟩:∃k:Nat,seq - g.2.1=(k:Int):=⟨(seq - g.2.1).toNat,by omega⟩
  rw[hk,QRb]
  have hkl:k<=g.2.2.length:=by omega
  have e:=Xe (g.2.2.length - k) (fun i (s:Qi)=>Jc wl (((k+i:Nat):Int),g.1,g.2.1,g.2.2,s.1,s.2)) (fun i s=>Qe7 s (g.2.2.drop (k+i))) (fun _ s=>QD s=true)
   (fun i hi s hs ih=>by
     apply QdJ
     have hi':k+i<g.2.2.length:=by omega
     have hd:=h.2.2.2.2 _ (QRf hi')
     have hj:Yr w (s.1,s.2,g.2.2[k+i])=some (join s g.2.2[k+i]):=Qlw s _ hs hd
     simp only[vZ,ilt hi',Qk hi',Qg hi',inc hi' hz.2.1,QQ1,hj,QQ0]
     rw[QRa hi',Qe7]
     exact ih _ (xP hs hd))
   (fun s _=>by
     apply QdJ
     rw[show k+(g.2.2.length - k)=g.2.2.length by omega]
     simp only[vZ,Qm,QQ2,QRl,Qe7]) ([],[]) rfl
  simp only[QY2]at e
  simp only[e,QQ0]
def present (s:Qi) (id:Int):Int×Int×Int×Int×ByteArray×Int:=bif QD s&&inR id 0 4 then(bif (lookup s id).2.2.2.2.2 then((lookup s id).1,(lookup s id).2.1,(lookup s id).2.2.1,(lookup s id).2.2.2.1,(lookup s id).2.2.2.2.1,0)else(0,0,0,0,ByteArray.empty,3))else(0,0,0,0,ByteArray.empty,1)
theorem QDS (a:List Qd) (b:List Qa) (id:Int) (h1:a.length<=maxLen) (h2:b.length<=maxLen):Qc8 w (a,b,id)=some (present (a,b) id):=by
 apply QuT
 simp only[QkH,ZA a b h1 h2,Qat,QxT a b id h1 h2,QQ0,present]
 cases QD (a,b)<;>cases inR id 0 4<;>cases(lookup (a,b) id).2.2.2.2.2<;>rfl
theorem QI3 (a:List Qd) (b:List Qa) (id:Int) (h1:a.length<=maxLen) (h2:b.length<=maxLen):Qle w (a,b,id)=some (present (a,b) id):=by
 apply QAy
 simp only[Qpi,ZK a b h1 h2,Qas,QuU a b id h1 h2,QQ0,present]
 cases QD (a,b)<;>cases inR id 0 4<;>cases(lookup (a,b) id).2.2.2.2.2<;>rfl
theorem Qr8 (id:Int):(l:List Qd)->(∀x∈l,XG x.2=true)->(QS id l).2.2.2.2.2=true->XG (ZM (QS id l))=true
 | [],_,h=>by simp[QS]at h
 |x::l,hl,h=>by
  simp only[QS]at h⊢
  split
  ·exact hl x (by simp)
  ·rename_i hx;rw[if_neg hx]at h
   exact Qr8 id l (fun y hy=>hl y (by simp[hy])) h
theorem QHL {s:Qi}(h:QD s=true):∀x∈view s,inR x.1 0 4=true/\XG x.2=true:=by
 unfold view;rw[h]
 intro x hx
 exact Qh7 h x (List.mem_filter.1 hx).1
theorem QEw {s:Qi}(h:QD s=true) {id:Int}(hb:(lookup s id).2.2.2.2.2=true):XG (ZM (lookup s id))=true:=Qr8 id _ (fun x hx=>(QHL h x hx).2) hb
theorem Qm8 {s:Qi}{id:Int}(h:(present s id).2.2.2.2.2=0):QD s=true/\inR id 0 4=true/\XG ((present s id).1,(present s id).2.1,(present s id).2.2.1,(present s id).2.2.2.1,(present s id).2.2.2.2.1)=true:=by
 unfold present at h⊢
 cases hs:QD s
 ·rw[hs]at h;simp at h
 ·cases hi:inR id 0 4
  ·rw[hs,hi]at h;simp at h
  ·rw[hs,hi]at h
   cases hb:(lookup s id).2.2.2.2.2
   ·rw[hb]at h;simp at h
   ·exact⟨rfl,rfl,QEw hs hb⟩
def one (id:Int) (e:XO):Qi:=([(id,e)],[])
theorem QFo {id:Int}{e:XO}(h:inR id 0 4=true) (he:XG e=true):QD (one id e)=true:=by
 have:=ze he
 have hi:=QX.1 h
 simp[QD,one,QR,Xx,h,he,Q5]
 exact⟨decide_eq_true (by omega),by omega⟩
def Xk (s:Qi) (id:Int):List Qd×List Qa×Int:=bif !decide ((present s id).2.2.2.2.2=0)then([],[],(present s id).2.2.2.2.2)else(bif decide ((present s id).2.2.1=100000)then([],[],4)else([(id,(present s id).1,(present s id).2.1,(present s id).2.2.1+1,(present s id).2.2.2.1,(present s id).2.2.2.2.1)],[],0))
theorem Qbc {s:Qi}{id:Int}(h:(Xk s id).2.2=0):QD ((Xk s id).1,(Xk s id).2.1)=true:=by
 unfold Xk at h⊢
 by_cases h0:(present s id).2.2.2.2.2=0
 ·rw[dt h0]at h⊢
  by_cases h1:(present s id).2.2.1=100000
  ·rw[dt h1]at h;simp at h
  ·rw[df h1]
   obtain⟨hs,hi,he⟩:=Qm8 h0
   refine QFo hi ?_
   have:=ze he
   simp only at this
   simp only[XG,inR,QQ5,QRu]
   omega
 ·rw[df h0]at h;simp at h;exact absurd h h0
theorem QDM (a:List Qd) (b:List Qa) (id:Int) (h1:a.length<=maxLen) (h2:b.length<=maxLen):Qcd w (a,b,id)=some (Xk (a,b) id):=by
 apply QtW
 have hs:∀x:Qd,Qfl w x=some ([x],[],0):=fun x=>by apply Qwn;rfl
 simp only[QjO,QDS a b id h1 h2,QQ0,Xk,hs]
 by_cases h0:(present (a,b) id).2.2.2.2.2=0
 ·rw[dt h0]
  obtain⟨_,_,he⟩:=Qm8 h0
  have:=ze he
  simp only at this
  rw[w64 (n:=(present (a,b) id).2.2.1+1) (by omega) (by omega)]
  cases decide ((present (a,b) id).2.2.1=100000)<;>rfl
 ·rw[df h0];rfl
theorem QG2 {id:Int}{e:XO}(h:inR id 0 4=true) (he:XG e=true):Qh4 w (id,e)=some ([(id,e)],[],0):=by
 have hs:QeG w (id,e)=some ([(id,e)],[],true):=by
  apply Qv8
  have hk:XA w ([(id,e)],[])=some true:=by rw[<-QFo h he];exact ZK _ _ (by simp[maxLen]) (by simp[maxLen])
  simp only[Qmm]
  rw[hk];rfl
 apply Qyj
 simp only[QnM]
 rw[hs];rfl
theorem QBF (a:List Qd) (b:List Qa) (id:Int) (h1:a.length<=maxLen) (h2:b.length<=maxLen):Qc0 w (a,b,id)=some (Xk (a,b) id):=by
 apply Qu3
 simp only[Qkw,QI3 a b id h1 h2,QQ0,Xk]
 by_cases h0:(present (a,b) id).2.2.2.2.2=0
 ·rw[dt h0]
  obtain⟨_,hi,he⟩:=Qm8 h0
  have:=ze he
  simp only at this
  rw[w64 (n:=(present (a,b) id).2.2.1+1) (by omega) (by omega)]
  by_cases hb:(present (a,b) id).2.2.1=100000
  ·rw[dt hb];rfl
  ·rw[df hb]
   have he':XG ((present (a,b) id).1,(present (a,b) id).2.1,(present (a,b) id).2.2.1+1,(present (a,b) id).2.2.2.1,(present (a,b) id).2.2.2.2.1)=true:=by
    simp only[XG,inR,QQ5,QRu]
    omega
   simp only[QG2 hi he',QQ0,QQ3,QQ2]
 ·rw[df h0];rfl
end Go.Proofs.YtiejfnbmficbmaaGreat.M
