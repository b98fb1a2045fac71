/- What the plain forms that FnExactGiveAll reaches come to: PNode2. No conditions but those that each theorem states. -/
import Derived.Test.YtiejfnbmficbmaaGreatFnExactGiveAllPEntry
set_option linter.all false
namespace Go.Proofs.YtiejfnbmficbmaaGreat.M
open Go Go.Eng Go.Proofs
set_option linter.unusedVariables false
def YG (clock:Int) (r:QR):Bool:=inR r.1 0 1000&&inR r.2.1 0 100000&&inR r.2.2 0 clock
theorem QFL (a0 a1:Int) (a2:List Qf) (a3:List Qa) (a4:List Int) (a5 a6 a7:Int) (a8:List Qk) (a9 a10:List Int) (a11:List (List Int)) (a12 a13:Int) (a14:List QB) (a15 a16 a17:Int) (a18:List QR) (h:a18.length<=maxLen):Qc3 w (a0,a1,a2,a3,a4,a5,a6,a7,a8,a9,a10,a11,a12,a13,a14,a15,a16,a17,a18)=some ((a18.all (YG a17))&&decide (((a18.length:Nat):Int)=5)):=by
 apply Qu6
 have e:=Q3 a18.length (fun i=>qD wl (a18,((a18.length:Nat):Int),(i:Int),a0,a1,a2,a3,a4,a5,a6,a7,a8,a9,a10,a11,a12,a13,a14,a15,a16,a17,a18)) (fun i=>if(a18.drop i).all (YG a17)then .inr (a0,a1,a2,a3,a4,a5,a6,a7,a8,a9,a10,a11,a12,a13,a14,a15,a16,a17,a18)else .inl false)
  (fun i hi ih=>by
    apply Qh7
    rw[ZY (YG a17) a18 _ _ hi]
    simp only[QcN,ilt hi,Qj hi,Qg hi,inc hi h,QQ1,Xi,QQ0,ih,YG]
    cases inR a18[i].1 0 1000<;>cases inR a18[i].2.1 0 100000<;>cases inR a18[i].2.2 0 a17<;>simp)
  (by
    apply Qh7
    simp[QcN])
 simp only[QQ6,QRg]at e
 simp only[Qj7,e,QQ0]
 cases a18.all (YG a17)
 ·simp[Qn]
 ·simp only[if_true,Qn,QY0,QRd]
def ZP (x y:QB):Bool:=decide (y.1=x.1)&&(y.2.2.1==x.2.2.1)
def Xo (p:Int) (b:Bool):Nat->List QB->Int⊕Unit
 |_,[]=> .inr ()
 |i,y::l=>bif decide (y.1=p)&&(y.2.2.1==b)then .inl (i:Nat)else Xo p b (i+1) l
def XK:Int⊕Unit->Int
 | .inl i=>i
 | .inr _=> -1
theorem QFl (z:Int⊕Unit):Qn z (fun u=>some u) (fun _=>some (-1))=some (XK z):=by cases z<;>rfl
theorem QE5 (a0 a1:Int) (a2:List Qf) (a3:List Qa) (a4:List Int) (a5 a6 a7:Int) (a8:List Qk) (a9 a10:List Int) (a11:List (List Int)) (a12 a13:Int) (a14:List QB) (a15 a16 a17:Int) (a18:List QR) (p:Int) (b:Bool) (h:a14.length<=maxLen):js w (a0,a1,a2,a3,a4,a5,a6,a7,a8,a9,a10,a11,a12,a13,a14,a15,a16,a17,a18,p,b)=some (XK (Xo p b 0 a14)):=by
 apply QCr
 have e:=Q3 a14.length (fun i=>xK wl (p,b,a14,((a14.length:Nat):Int),(i:Int))) (fun i=>Xo p b i (a14.drop i))
  (fun i hi ih=>by
    apply Qnf
    simp only[Qlk,ilt hi,Qj hi,Qg hi,inc hi h,QQ1,ih]
    rw[QRa hi,Xo]
    cases decide (a14[i].1=p)<;>cases(a14[i].2.2.1==b)<;>simp)
  (by
    apply Qnf
    simp[Qlk,Xo])
 simp only[QQ6,QRg]at e
 simp only[QqH,e,QQ0,QFl]
theorem QET (x:QB):(off:Nat)->(l:List QB)->(i:Nat)->(h:i<l.length)->l[i]=x->((off:Int)<=XK (Xo x.1 x.2.2.1 off l)/\XK (Xo x.1 x.2.2.1 off l)<=off+i/\(XK (Xo x.1 x.2.2.1 off l)=off+i↔(l.take i).any (ZP x)=false))
 |off,y::l,0,_,hx=>by
  have:y=x:=hx
  subst this
  simp[Xo,XK]
 |off,y::l,i+1,h,hx=>by
  have ih:=QET x (off+1) l i (by simpa using h) (by simpa using hx)
  rw[Xo]
  have hk:(decide (y.1=x.1)&&(y.2.2.1==x.2.2.1))=ZP x y:=rfl
  rw[hk,List.take_succ_cons,List.any_cons]
  cases ZP x y
  ·simp only[QQ2,Bool.false_or]
   refine⟨by omega,by omega, ?_⟩
   rw[<-ih.2.2];omega
  ·simp only[QQ1,Bool.true_or,XK]
   refine⟨by omega,by omega, ?_⟩
   constructor
   ·intro h;omega
   ·intro h;cases h
def QkR (id n p:Int):Bool:=inR p 0 (n - 1)&& !decide (p=id)
theorem QHF (a0 a1:Int) (a2:List Qf) (a3:List Qa) (a4:List Int) (a5 a6 a7:Int) (a8:List Qk) (a9 a10:List Int) (a11:List (List Int)) (a12 a13:Int) (a14:List QB) (a15 a16 a17:Int) (a18:List QR) (p:Int) (hn:inR a1 1 5=true):Qge w (a0,a1,a2,a3,a4,a5,a6,a7,a8,a9,a10,a11,a12,a13,a14,a15,a16,a17,a18,p)=some (QkR a0 a1 p):=by
 apply QxK
 simp[inR]at hn
 simp only[Qmz,QkR]
 rw[w64 (by omega) (by omega),Xi,QQ0]
 cases inR p 0 (a1 - 1)<;>simp
def JP (id n wait:Int) (x:QB):Bool:=QkR id n x.1&&inR x.2.1 0 100000&&inR x.2.2.2 0 wait
def Zd (id n wait:Int):List QB->List QB->Bool
 |_,[]=>true
 |pre,x::l=>JP id n wait x&& !pre.any (ZP x)&&Zd id n wait (pre++[x]) l
theorem QwN {R:Type}(id n wait:Int) (l:List QB) (x y:R) {i:Nat}(hi:i<l.length):
 (if Zd id n wait (l.take i) (l.drop i)then x else y)=(bif JP id n wait l[i]&& !(l.take i).any (ZP l[i])then(if Zd id n wait (l.take (i+1)) (l.drop (i+1))then x else y)else y):=by
 rw[QRa hi,Zd]
 have:l.take i++[l[i]]=l.take (i+1):=by rw[List.take_add_one];simp[hi]
 rw[this]
 cases JP id n wait l[i]&& !(l.take i).any (ZP l[i])<;>simp
theorem QHr (a0 a1:Int) (a2:List Qf) (a3:List Qa) (a4:List Int) (a5 a6 a7:Int) (a8:List Qk) (a9 a10:List Int) (a11:List (List Int)) (a12 a13:Int) (a14:List QB) (a15 a16 a17:Int) (a18:List QR) (hn:inR a1 1 5=true) (h:a14.length<=maxLen):Qgs w (a0,a1,a2,a3,a4,a5,a6,a7,a8,a9,a10,a11,a12,a13,a14,a15,a16,a17,a18)=some (Zd a0 a1 a15 [] a14&&(inR a13 1 4&&decide (((a14.length:Nat):Int)<=a13))):=by
 apply QxA
 have e:=Q3 a14.length (fun i=>zk wl (a14,((a14.length:Nat):Int),(i:Int),a0,a1,a2,a3,a4,a5,a6,a7,a8,a9,a10,a11,a12,a13,a14,a15,a16,a17,a18)) (fun i=>if Zd a0 a1 a15 (a14.take i) (a14.drop i)then .inr (a0,a1,a2,a3,a4,a5,a6,a7,a8,a9,a10,a11,a12,a13,a14,a15,a16,a17,a18)else .inl false)
  (fun i hi ih=>by
    apply QiJ
    rw[QwN a0 a1 a15 a14 _ _ hi]
    have hs:=QET a14[i] 0 a14 i hi rfl
    have hs':decide (XK (Xo a14[i].1 a14[i].2.2.1 0 a14)=(i:Int))= !(a14.take i).any (ZP a14[i]):=by
     cases hb:(a14.take i).any (ZP a14[i])
     ·rw[dt (by have:=hs.2.2.2 hb;omega)];rfl
     ·rw[df (fun h=>by have:=hs.2.2.1 (by omega);rw[hb]at this;cases this)];rfl
    simp only[Qft,ilt hi,Qj hi,Qg hi,inc hi h,QQ1,QHF a0 a1 a2 a3 a4 a5 a6 a7 a8 a9 a10 a11 a12 a13 a14 a15 a16 a17 a18 _ hn,QE5 a0 a1 a2 a3 a4 a5 a6 a7 a8 a9 a10 a11 a12 a13 a14 a15 a16 a17 a18 _ _ h,Xi,QQ0,ih,JP,hs']
    cases QkR a0 a1 a14[i].1<;>cases inR a14[i].2.1 0 100000<;>cases inR a14[i].2.2.2 0 a15<;>cases(a14.take i).any (ZP a14[i])<;>simp)
  (by
    apply QiJ
    simp[Qft,Zd])
 simp only[QQ6,QRg,List.take_zero]at e
 simp only[QnR,e,QQ0]
 cases Zd a0 a1 a15 [] a14
 ·simp[Qn]
 ·simp only[if_true,Qn,QY0,QRd,Xi,QQ0]
  cases inR a13 1 4<;>simp
theorem QG2 (a0 a1:Int) (a2:List Qf) (a3:List Qa) (a4:List Int) (a5 a6 a7:Int) (a8:List Qk) (a9 a10:List Int) (a11:List (List Int)) (a12 a13:Int) (a14:List QB) (a15 a16 a17:Int) (a18:List QR) (hn:inR a1 1 5=true) (h:a14.length<=maxLen):Qec w (a0,a1,a2,a3,a4,a5,a6,a7,a8,a9,a10,a11,a12,a13,a14,a15,a16,a17,a18)=some (decide (((a14.length:Nat):Int)<=a13)&&Zd a0 a1 a15 [] a14):=by
 apply Qw8
 have hn':=hn
 simp[inR]at hn'
 have inner:∀(i:Nat) (hi:i<a14.length) (b4:Bool) (x5:Int) (b6 b7:Bool) (x8 x9:Int) (b10 b11:Bool) (q:QB) (x2 x3:Int),
  YB wl ((i:Int),0,x2,x3,b4,x5,b6,b7,x8,x9,b10,b11,a0,a1,a2,a3,a4,a5,a6,a7,a8,a9,a10,a11,a12,a13,a14,a15,a16,a17,a18,q)=some (bif (a14.take i).any (ZP q)then .inl false else .inr ((i:Int),x2,x3,b4,x5,b6,b7,x8,x9,b10,b11,a0,a1,a2,a3,a4,a5,a6,a7,a8,a9,a10,a11,a12,a13,a14,a15,a16,a17,a18,q)):=by
  intro i hi b4 x5 b6 b7 x8 x9 b10 b11 q x2 x3
  have e:=Q3 i (fun k=>YB wl ((i:Int),(k:Int),x2,x3,b4,x5,b6,b7,x8,x9,b10,b11,a0,a1,a2,a3,a4,a5,a6,a7,a8,a9,a10,a11,a12,a13,a14,a15,a16,a17,a18,q)) (fun k=>bif ((a14.take i).drop k).any (ZP q)then .inl false else .inr ((i:Int),x2,x3,b4,x5,b6,b7,x8,x9,b10,b11,a0,a1,a2,a3,a4,a5,a6,a7,a8,a9,a10,a11,a12,a13,a14,a15,a16,a17,a18,q))
   (fun k hk ih=>by
     apply Qg7
     have hk':k<a14.length:=by omega
     have hk2:k<(a14.take i).length:=by simp;omega
     rw[QRa hk2,List.any_cons,List.getElem_take]
     simp only[Qdx,ilt hk,Qj hk',Qg hk',inc hk (show i<=maxLen by omega),QQ1,ih,ZP]
     cases decide (a14[k].1=q.1)<;>cases(a14[k].2.2.1==q.2.2.1)<;>simp)
   (by
     apply Qg7
     simp only[Qdx,Qo,QQ2]
     rw[List.drop_of_length_le (by simp;omega)];simp)
  simpa using e
 have e:=Q3 a14.length (fun i=>J2 wl ((i:Int),a0,a1,a2,a3,a4,a5,a6,a7,a8,a9,a10,a11,a12,a13,a14,a15,a16,a17,a18)) (fun i=>if Zd a0 a1 a15 (a14.take i) (a14.drop i)then .inr ()else .inl false)
  (fun i hi ih=>by
    apply QhN
    rw[QwN a0 a1 a15 a14 _ _ hi]
    simp only[QdP,ilt hi,Qj hi,Qg hi,QQ1,XN,QQ0,JP,QkR]
    rw[w64 (n:=a1 - 1) (by omega) (by omega)]
    cases h1:inR a14[i].1 0 (a1 - 1)
    ·simp
    ·cases h2:decide (a14[i].1=a0)
     ·cases h3:inR a14[i].2.1 0 100000
      ·simp
      ·cases h4:inR a14[i].2.2.2 0 a15
       ·simp
       ·simp only[QQ3,QQ2,QQ4,QRn,QRd,inner i hi,QQ0]
        cases(a14.take i).any (ZP a14[i])
        ·simp only[QQ2,Qn,QY0,inc hi h,ih,QQ4,QQ1]
        ·simp[Qn]
     ·simp)
  (by
    apply QhN
    simp[QdP,Zd])
 simp only[QQ6,QRg,List.take_zero]at e
 simp only[QlO,e,QQ0]
 by_cases hl:((a14.length:Nat):Int)<=a13
 ·simp only[df (show¬a13<((a14.length:Nat):Int) by omega),QQ2,dt hl,QRd]
  cases Zd a0 a1 a15 [] a14<;>simp[Qn]
 ·simp only[dt (show a13<((a14.length:Nat):Int) by omega),QQ1,df hl,QRm]
def Qkq (a0 a1:Int) (a2:List Qf) (a3:List Qa) (a4:List Int) (a5 a6 a7:Int) (a8:List Qk) (a9 a10:List Int) (a11:List (List Int)) (a12 a13:Int) (a14:List QB) (a15 a16 a17:Int) (a18:List QR):Bool:=
 inR a1 1 5&&inR a0 0 (a1 - 1)&&QF (a2,a3)&&decide ((a4,a5)=Ze (a2,a3))&&Yu (a6,a7,a8)&&Y7 a9 a1&&Y7 a10 a1&&decide (a9.getD a0.toNat 0=Xr (a6,a7,a8))&&(a10.all fun x=>decide (x<=Xr (a6,a7,a8)))&&
  KP a11 a1&&inR a12 0 100000&&inR a17 0 100000&&inR a15 1 20&&inR a16 1 50&&inR a13 1 4&&decide (((a14.length:Nat):Int)<=a13)&&Zd a0 a1 a15 [] a14&&decide (((a18.length:Nat):Int)=5)&&a18.all (YG a17)
def smN (a2:List Qf) (a3:List Qa) (a4:List Int) (a8:List Qk) (a9 a10:List Int) (a11:List (List Int)) (a14:List QB) (a18:List QR):Prop:=
 a2.length<=maxLen/\a3.length<=maxLen/\a4.length<=maxLen/\a8.length<=maxLen/\(∀s∈a8,s.1.length<=maxLen/\s.2.length<=maxLen)/\a9.length<=maxLen/\a10.length<=maxLen/\a11.length<=maxLen/\(∀r∈a11,r.length<=maxLen)/\a14.length<=maxLen/\a18.length<=maxLen
theorem QD9 (a:List Int) (b:Int) (c:List Int) (d:Int) (h:a.length<=maxLen):QaP w (a,b,c,d)=some (decide ((a,b)=(c,d))):=by
 apply Qud
 simp only[Qi2,QID a c h,QQ0]
 by_cases h1:a=c
 ·by_cases h2:b=d
  ·simp[h1,h2]
  ·simp[h1,h2]
 ·simp[h1]
theorem QGL (a:List Int) (b:Int) (c:List Int) (d:Int) (h:a.length<=maxLen):Qcq w (a,b,c,d)=some (decide ((a,b)=(c,d))):=by
 apply Qxr
 simp only[Qkn,QIu a c h,QQ0]
 by_cases h1:a=c
 ·by_cases h2:b=d
  ·simp[h1,h2]
  ·simp[h1,h2]
 ·simp[h1]
theorem QIr (a0 a1:Int) (a2:List Qf) (a3:List Qa) (a4:List Int) (a5 a6 a7:Int) (a8:List Qk) (a9 a10:List Int) (a11:List (List Int)) (a12 a13:Int) (a14:List QB) (a15 a16 a17:Int) (a18:List QR) (h:smN a2 a3 a4 a8 a9 a10 a11 a14 a18):KA w (a0,a1,a2,a3,a4,a5,a6,a7,a8,a9,a10,a11,a12,a13,a14,a15,a16,a17,a18)=some (Qkq a0 a1 a2 a3 a4 a5 a6 a7 a8 a9 a10 a11 a12 a13 a14 a15 a16 a17 a18):=by
 obtain⟨h2,h3,h4,h8,h8',h9,h10,h11,h11',h14,h18⟩:=h
 apply Qyu
 simp only[Qnj,Xi,QQ0,Qkq]
 cases q1:inR a1 1 5
 ·simp
 have q1':=q1
 simp[inR]at q1'
 rw[w64 (n:=a1 - 1) (by omega) (by omega)]
 simp only[QQ3,QQ2,QRd]
 cases q0:inR a0 0 (a1 - 1)
 ·simp
 simp[inR]at q0
 simp only[QQ3,QQ2,QRd,Z9 a2 a3 h2 h3,QQ0]
 cases q2:QF (a2,a3)
 ·simp
 simp only[QQ3,QQ2,QRd,QzU a2 a3 h2 h3,QQ0,QD9 a4 a5 _ _ h4]
 cases q4:decide ((a4,a5)=Ze (a2,a3))
 ·have:decide ((a4,a5)=((Ze (a2,a3))))=false:=q4
  simp[this]
 have q4':decide ((a4,a5)=((Ze (a2,a3))))=true:=q4
 simp only[q4',QQ3,QQ2,QRd,QmL a6 a7 a8 h8 h8',Que a6 a7 a8 h8 h8',QQ0]
 cases q6:Yu (a6,a7,a8)
 ·simp
 simp only[QQ3,QQ2,QRd,QB2 a9 a1 h9,QB2 a10 a1 h10,QQ0]
 cases q9:Y7 a9 a1
 ·simp
 cases q10:Y7 a10 a1
 ·simp
 have l9:((a9.length:Nat):Int)=a1:=by simp[Y7]at q9;exact q9.1.2
 have l10:((a10.length:Nat):Int)=a1:=by simp[Y7]at q10;exact q10.1.2
 have i0:inb a0 a9.length=true:=by simp[inb];omega
 simp only[QQ3,QQ2,QRd,i0,QQ1,rd1]
 by_cases qg:a9.getD a0.toNat 0=Xr (a6,a7,a8)
 case neg=>simp only[qg,decide_false,QQ4,QQ1,QY13,QRm]
 simp only[qg,decide_true]
 cases hc:a10 with
 |nil=>rw[hc]at l10;simp at l10;omega
 |cons m l=>
  rw[<-hc]
  have hm:Vw w a10=some (QlT m l):=by rw[hc];exact QMy m l (by rw[<-hc];exact h10)
  have hall:(a10.all fun x=>decide (x<=Xr (a6,a7,a8)))=(decide (m<=Xr (a6,a7,a8))&&l.all fun x=>decide (x<=Xr (a6,a7,a8))):=by rw[hc];rfl
  simp only[QQ3,QQ2,QRd,hm,QQ0,QEs,hall]
  cases decide (m<=Xr (a6,a7,a8))&&l.all fun x=>decide (x<=Xr (a6,a7,a8))
  ·simp
  simp only[QQ3,QQ2,QRd,QFV a11 a1 h11 h11',QQ0]
  cases KP a11 a1
  ·simp
  simp only[QQ3,QQ2,QRd,QHr a0 a1 a2 a3 a4 a5 a6 a7 a8 a9 a10 a11 a12 a13 a14 a15 a16 a17 a18 q1 h14,QFL a0 a1 a2 a3 a4 a5 a6 a7 a8 a9 a10 a11 a12 a13 a14 a15 a16 a17 a18 h18,QQ0]
  cases inR a12 0 100000<;>cases inR a17 0 100000<;>cases inR a15 1 20<;>cases inR a16 1 50<;>cases inR a13 1 4<;>cases decide (((a14.length:Nat):Int)<=a13)<;>cases Zd a0 a1 a15 [] a14<;>cases decide (((a18.length:Nat):Int)=5)<;>cases a18.all (YG a17)<;>rfl
theorem QGc (a0 a1:Int) (a2:List Qf) (a3:List Qa) (a4:List Int) (a5 a6 a7:Int) (a8:List Qk) (a9 a10:List Int) (a11:List (List Int)) (a12 a13:Int) (a14:List QB) (a15 a16 a17:Int) (a18:List QR) (h:smN a2 a3 a4 a8 a9 a10 a11 a14 a18):qV w (a0,a1,a2,a3,a4,a5,a6,a7,a8,a9,a10,a11,a12,a13,a14,a15,a16,a17,a18)=some (Qkq a0 a1 a2 a3 a4 a5 a6 a7 a8 a9 a10 a11 a12 a13 a14 a15 a16 a17 a18):=by
 obtain⟨h2,h3,h4,h8,h8',h9,h10,h11,h11',h14,h18⟩:=h
 apply QyD
 simp only[QmJ,XN,QQ0,Qkq]
 cases q1:inR a1 1 5
 ·simp
 have q1':=q1
 simp[inR]at q1'
 rw[w64 (n:=a1 - 1) (by omega) (by omega)]
 simp only[QQ3,QQ2,QRd]
 cases q0:inR a0 0 (a1 - 1)
 ·simp
 simp[inR]at q0
 simp only[QQ3,QQ2,QRd,Ky a2 a3 h2 h3,QQ0]
 cases q2:QF (a2,a3)
 ·simp
 simp only[QQ3,QQ2,QRd,Qve a2 a3 h2 h3,QQ0,QGL a4 a5 _ _ h4]
 cases q4:decide ((a4,a5)=Ze (a2,a3))
 ·have:decide ((a4,a5)=((Ze (a2,a3))))=false:=q4
  simp[this]
 have q4':decide ((a4,a5)=((Ze (a2,a3))))=true:=q4
 simp only[q4',QQ3,QQ2,QRd,Qjr a6 a7 a8 h8 h8',QrX a6 a7 a8 h8 h8',QQ0]
 cases q6:Yu (a6,a7,a8)
 ·simp
 simp only[QQ3,QQ2,QRd,Qz5 a9 a1 h9,Qz5 a10 a1 h10,QQ0]
 cases q9:Y7 a9 a1
 ·simp
 cases q10:Y7 a10 a1
 ·simp
 have l9:((a9.length:Nat):Int)=a1:=by simp[Y7]at q9;exact q9.1.2
 have l10:((a10.length:Nat):Int)=a1:=by simp[Y7]at q10;exact q10.1.2
 have i0:inb a0 a9.length=true:=by simp[inb];omega
 simp only[QQ3,QQ2,QRd,i0,QQ1,rd1]
 by_cases qg:a9.getD a0.toNat 0=Xr (a6,a7,a8)
 case neg=>simp only[qg,decide_false,QQ4,QQ1,QY13,QRm]
 simp only[qg,decide_true]
 simp only[QQ3,QQ2,QRd,QC9 a11 a1 h11 h11',QQ0]
 cases qt:KP a11 a1
 ·simp
 have e0:=Q3 a10.length (fun i=>xI wl ((i:Int),a0,a1,a2,a3,a4,a5,a6,a7,a8,a9,a10,a11,a12,a13,a14,a15,a16,a17,a18)) (fun i=>if(a10.drop i).all (fun x=>decide (x<=Xr (a6,a7,a8)))then .inr (a0,a1,a2,a3,a4,a5,a6,a7,a8,a9,a10,a11,a12,a13,a14,a15,a16,a17,a18)else .inl false)
  (fun i hi ih=>by
    apply Qjl
    rw[ZY (fun x=>decide (x<=Xr (a6,a7,a8))) a10 _ _ hi]
    have hi':(i:Int)<a1:=by omega
    simp only[Qfq,dt hi',Qj hi,Qg hi,inc hi h10,QQ1,Qjr a6 a7 a8 h8 h8',QQ0,ih]
    by_cases hx:a10[i]<=Xr (a6,a7,a8)
    ·simp only[df (show¬Xr (a6,a7,a8)<a10[i] by omega),QQ2,dt hx,QQ1]
    ·simp only[dt (show Xr (a6,a7,a8)<a10[i] by omega),QQ1,df hx,QQ2])
  (by
    apply Qjl
    have:¬((a10.length:Nat):Int)<a1:=by omega
    simp only[Qfq,df this,QQ2,Qya])
 simp only[QQ6,QRg]at e0
 simp only[QQ3,QQ2,QRd,e0,QQ0]
 cases qa:a10.all fun x=>decide (x<=Xr (a6,a7,a8))
 ·simp[Qn]
 simp only[if_true,Qn,QY0,QRn]
 cases inR a12 0 100000
 ·simp
 cases inR a17 0 100000
 ·simp
 cases inR a13 1 4
 ·simp
 cases inR a15 1 20
 ·simp
 cases inR a16 1 50
 ·simp
 simp only[QQ3,QQ2,QRd,QRn]
 cases q5:decide (((a18.length:Nat):Int)=5)
 ·simp
 have l5:a18.length=5:=by simp at q5;omega
 have e2:=Q3 a18.length (fun i=>zj wl ((i:Int),a0,a1,a2,a3,a4,a5,a6,a7,a8,a9,a10,a11,a12,a13,a14,a15,a16,a17,a18)) (fun i=>if(a18.drop i).all (YG a17)then .inr (a0,a1,a2,a3,a4,a5,a6,a7,a8,a9,a10,a11,a12,a13,a14,a15,a16,a17,a18)else .inl false)
  (fun i hi ih=>by
    apply Qjd
    rw[ZY (YG a17) a18 _ _ hi]
    have hi':(i:Int)<5:=by omega
    simp only[Qfd,dt hi',Qj hi,Qg hi,inc hi h18,QQ1,XN,QQ0,ih,YG]
    cases inR a18[i].1 0 1000<;>cases inR a18[i].2.1 0 100000<;>cases inR a18[i].2.2 0 a17<;>simp)
  (by
    apply Qjd
    have:¬((a18.length:Nat):Int)<5:=by omega
    simp only[Qfd,df this,QQ2,Qya])
 simp only[QQ6,QRg]at e2
 simp only[QQ3,QQ2,e2,QQ0]
 cases a18.all (YG a17)
 ·simp
 simp only[if_true,QY0,QG2 a0 a1 a2 a3 a4 a5 a6 a7 a8 a9 a10 a11 a12 a13 a14 a15 a16 a17 a18 q1 h14,QQ0,QRn]
theorem QCS (a b:Int):QeJ w (a,b)=some (mxI a b):=by
 apply QAs
 simp only[QoO,mxI]
 by_cases h:a<b
 ·rw[df (by omega),QQ2,if_pos h]
 ·by_cases h2:b<a
  ·rw[dt h2,QQ1,if_neg h]
  ·rw[df h2,QQ2,if_neg h];congr 1;omega
def smS (s:Qk):Prop:=s.1.length<=maxLen/\s.2.length<=maxLen
def Yo (r:Int×Int×Int×Int×ByteArray×Bool):XT:=(r.1,r.2.1,r.2.2.1,r.2.2.2.1,r.2.2.2.2.1)
def most (id:Int):XT->List Qk->XT
 |m,[]=>m
 |m,s::l=>bif (QZ id s.1).2.2.2.2.2&&QF s then most id (Jd m (Yo (QZ id s.1))) l else most id m l
theorem Qzg {e:XT}(h:X2 e=true):1<=e.1:=by
 simp[X2,inR]at h;omega
theorem Qx7 {i:Nat}(h:i<5):decide ((i:Int)<5)=true:=by simp;omega
theorem Qx5 {i:Nat}(h:i<5):wR ((i:Int)+1)=((i+1:Nat):Int):=by
 rw[w64 (by omega) (by omega)];omega
def V1 (x:Qc):Bool:=Qkq x.1 x.2.1 x.2.2.1 x.2.2.2.1 x.2.2.2.2.1 x.2.2.2.2.2.1 x.2.2.2.2.2.2.1 x.2.2.2.2.2.2.2.1 x.2.2.2.2.2.2.2.2.1 x.2.2.2.2.2.2.2.2.2.1 x.2.2.2.2.2.2.2.2.2.2.1 x.2.2.2.2.2.2.2.2.2.2.2.1 x.2.2.2.2.2.2.2.2.2.2.2.2.1 x.2.2.2.2.2.2.2.2.2.2.2.2.2.1 x.2.2.2.2.2.2.2.2.2.2.2.2.2.2.1 x.2.2.2.2.2.2.2.2.2.2.2.2.2.2.2.1 x.2.2.2.2.2.2.2.2.2.2.2.2.2.2.2.2.1 x.2.2.2.2.2.2.2.2.2.2.2.2.2.2.2.2.2.1 x.2.2.2.2.2.2.2.2.2.2.2.2.2.2.2.2.2.2
def QBc (x:Qc):Prop:=smN x.2.2.1 x.2.2.2.1 x.2.2.2.2.1 x.2.2.2.2.2.2.2.2.1 x.2.2.2.2.2.2.2.2.2.1 x.2.2.2.2.2.2.2.2.2.2.1 x.2.2.2.2.2.2.2.2.2.2.2.1 x.2.2.2.2.2.2.2.2.2.2.2.2.2.2.1 x.2.2.2.2.2.2.2.2.2.2.2.2.2.2.2.2.2.2
theorem QBf (x:Qc) (h:QBc x):KA w x=some (V1 x):=QIr _ _ _ _ _ _ _ _ _ _ _ _ _ _ _ _ _ _ _ h
theorem Qz1 (x:Qc) (h:QBc x):qV w x=some (V1 x):=QGc _ _ _ _ _ _ _ _ _ _ _ _ _ _ _ _ _ _ _ h
theorem QIU (x:Qc) (h:Qj2 x):QBc x:=by
 simp only[Qj2,jr,Qp5,QmW,Qpi,QfA,QrO,QrN,QtG,Quq,Quo]at h
 obtain⟨⟨⟨h2,_⟩,h3⟩,h4,⟨h8,h8'⟩,h9,h10,⟨h11,h11'⟩,h14,h18⟩:=h
 exact⟨h2,h3,h4,h8,fun s hs=>⟨(h8' s hs).1.1,(h8' s hs).2⟩,h9,h10,h11,h11',h14,h18⟩
def Kg (n:Int):Nat->List Qc->Bool
 |_,[]=>true
 |i,x::l=>(V1 x&&(decide (x.2.1=n)&&decide (x.1=(i:Int))))&&Kg n (i+1) l
def Qm3 (n:Int) (p:Qs):Bool:=inR p.1 0 (n - 1)
def QdA (n:Int) (x:Qt):Bool:=inR x.1 0 (n - 1)&&QF x.2
def YY (ns:List Qc) (net:List Qs) (sd:List Qt):Bool:=inR ((ns.length:Nat):Int) 1 5&&(!decide (12<((net.length:Nat):Int))&&(!decide (40<((sd.length:Nat):Int))&&(Kg (ns.length:Nat) 0 ns&&(net.all (Qm3 (ns.length:Nat))&&sd.all (QdA (ns.length:Nat))))))
def smW (ns:List Qc) (net:List Qs) (sd:List Qt):Prop:=ns.length<=maxLen/\(∀x∈ns,QBc x)/\net.length<=maxLen/\(∀p∈net,p.2.1.length<=maxLen)/\sd.length<=maxLen/\∀x∈sd,x.2.1.length<=maxLen/\x.2.2.length<=maxLen
theorem QJ5 {ns:List Qc}{net:List Qs}{sd:List Qt}(h:QfE (ns,net,sd)):smW ns net sd:=by
 simp only[QfE,Quu,Quk,QtO]at h
 refine⟨h.1.1,fun x hx=>QIU x (h.1.2 x hx),h.2.1.1,fun p hp=> ?_,h.2.2.1,fun x hx=> ?_⟩
 ·have:=h.2.1.2 p hp
  simpa only[Qou,QtE]using this
 ·have:=h.2.2.2 x hx
  simp only[Qpn,jr,Qp5,QmW]at this
  exact⟨this.1.1,this.2⟩
theorem QtB {R:Type}(n:Int) (l:List Qc) (x y:R) {i:Nat}(hi:i<l.length):(if Kg n i (l.drop i)then x else y)=(bif V1 l[i]then(bif decide (l[i].2.1=n)then(bif decide (l[i].1=(i:Int))then(if Kg n (i+1) (l.drop (i+1))then x else y)else y)else y)else y):=by
 rw[QRa hi,Kg]
 cases V1 l[i]<;>cases decide (l[i].2.1=n)<;>cases decide (l[i].1=(i:Int))<;>simp
theorem QwQ (ns:List Qc) (net:List Qs) (sd:List Qt) (i:Int) (h:ns.length<=maxLen):jo w (ns,net,sd,i)=some (inR i 0 (((ns.length:Nat):Int) - 1)):=by
 apply QwE
 simp only[maxLen]at h
 have:wR (((ns.length:Nat):Int) - 1)=((ns.length:Nat):Int) - 1:=w64 (by omega) (by omega)
 simp only[Ql9,this,Xi,QQ0]
theorem QBX {A S R:Type}(c:Bool) (s:S) (r:A) (f:A->Option R) (g:S->Option R):Qn (if c=true then Sum.inr s else Sum.inl r) f g=bif c then g s else f r:=by cases c<;>rfl
theorem QGi (ns:List Qc) (net:List Qs) (sd:List Qt) (h:smW ns net sd):QdG w (ns,net,sd)=some (YY ns net sd):=by
 apply QuI
 obtain⟨h1,h2,h3,h4,h5,h6⟩:=h
 have e1:=Q3 ns.length (fun i=>qj wl (ns,((ns.length:Nat):Int),(i:Int),ns,net,sd)) (fun i=>if Kg (ns.length:Nat) i (ns.drop i)then .inr (ns,net,sd)else .inl false)
  (fun i hi ih=>by
    apply QhD
    simp only[QcO,ilt hi,Qj hi,Qg hi,inc hi h1,QQ1,ih,QBf _ (h2 _ (QRf hi)),QQ0,QtB _ _ _ _ hi]
    cases V1 ns[i]<;>cases decide (ns[i].2.1=((ns.length:Nat):Int))<;>cases decide (ns[i].1=(i:Int))<;>simp)
  (by
    apply QhD
    simp[QcO,Kg])
 have e2:=Q3 net.length (fun i=>qJ wl (net,((net.length:Nat):Int),(i:Int),ns,net,sd)) (fun i=>if(net.drop i).all (Qm3 (ns.length:Nat))then .inr (ns,net,sd)else .inl false)
  (fun i hi ih=>by
    apply Qg1
    simp only[Qd2,ilt hi,Qj hi,Qg hi,inc hi h3,QQ1,ih,QwQ _ _ _ _ h1,QQ0,ZY _ _ _ _ hi,Qm3]
    cases inR net[i].1 0 (((ns.length:Nat):Int) - 1)<;>simp)
  (by
    apply Qg1
    simp[Qd2])
 have e3:=Q3 sd.length (fun i=>qN wl (sd,((sd.length:Nat):Int),(i:Int),ns,net,sd)) (fun i=>if(sd.drop i).all (QdA (ns.length:Nat))then .inr ()else .inl false)
  (fun i hi ih=>by
    apply Qhs
    have hs:=h6 _ (QRf hi)
    simp only[QdK,ilt hi,Qj hi,Qg hi,inc hi h5,QQ1,ih,QwQ _ _ _ _ h1,Z9 _ _ hs.1 hs.2,QQ0,ZY _ _ _ _ hi,QdA]
    cases inR sd[i].1 0 (((ns.length:Nat):Int) - 1)<;>cases QF sd[i].2<;>simp)
  (by
    apply Qhs
    simp[QdK])
 simp only[QQ6,QRg]at e1 e2 e3
 simp only[Qmc,Xi,e1,e2,e3,QQ0,QBX,YY]
 cases inR ((ns.length:Nat):Int) 1 5<;>cases decide (12<((net.length:Nat):Int))<;>cases decide (40<((sd.length:Nat):Int))<;>cases Kg (ns.length:Nat) 0 ns<;>cases net.all (Qm3 (ns.length:Nat))<;>cases sd.all (QdA (ns.length:Nat))<;>rfl
theorem QDY (ns:List Qc) (net:List Qs) (sd:List Qt) (h:smW ns net sd):QdE w (ns,net,sd)=some (YY ns net sd):=by
 apply QwC
 obtain⟨h1,h2,h3,h4,h5,h6⟩:=h
 have hw:wR (((ns.length:Nat):Int) - 1)=((ns.length:Nat):Int) - 1:=by simp only[maxLen]at h1;exact w64 (by omega) (by omega)
 have e1:=Q3 ns.length (fun i=>qO wl (((ns.length:Nat):Int),(i:Int),ns,net,sd)) (fun i=>if Kg (ns.length:Nat) i (ns.drop i)then .inr (((ns.length:Nat):Int),ns,net,sd)else .inl false)
  (fun i hi ih=>by
    apply Qhc
    simp only[QdL,ilt hi,Qj hi,Qg hi,inc hi h1,QQ1,ih,Qz1 _ (h2 _ (QRf hi)),QQ0,QtB _ _ _ _ hi]
    cases V1 ns[i]<;>cases decide (ns[i].2.1=((ns.length:Nat):Int))<;>cases decide (ns[i].1=(i:Int))<;>simp)
  (by
    apply Qhc
    simp[QdL,Kg])
 have e2:=Q3 net.length (fun i=>J4 wl (((ns.length:Nat):Int),(i:Int),ns,net,sd)) (fun i=>if(net.drop i).all (Qm3 (ns.length:Nat))then .inr (((ns.length:Nat):Int),ns,net,sd)else .inl false)
  (fun i hi ih=>by
    apply Qhd
    simp only[Qd1,ilt hi,Qj hi,Qg hi,inc hi h3,QQ1,ih,hw,XN,QQ0,ZY _ _ _ _ hi,Qm3]
    cases inR net[i].1 0 (((ns.length:Nat):Int) - 1)<;>simp)
  (by
    apply Qhd
    simp[Qd1])
 have e3:=Q3 sd.length (fun i=>qL wl (((ns.length:Nat):Int),(i:Int),ns,net,sd)) (fun i=>if(sd.drop i).all (QdA (ns.length:Nat))then .inr ()else .inl false)
  (fun i hi ih=>by
    apply Qhy
    have hs:=h6 _ (QRf hi)
    simp only[QcB,ilt hi,Qj hi,Qg hi,inc hi h5,QQ1,ih,hw,XN,Ky _ _ hs.1 hs.2,QQ0,ZY _ _ _ _ hi,QdA]
    cases inR sd[i].1 0 (((ns.length:Nat):Int) - 1)<;>cases QF sd[i].2<;>simp)
  (by
    apply Qhy
    simp[QcB])
 simp only[QQ6,QRg]at e1 e2 e3
 simp only[Qlu,XN,e1,e2,e3,QQ0,QBX,YY]
 cases inR ((ns.length:Nat):Int) 1 5<;>cases decide (12<((net.length:Nat):Int))<;>cases decide (40<((sd.length:Nat):Int))<;>cases Kg (ns.length:Nat) 0 ns<;>cases net.all (Qm3 (ns.length:Nat))<;>cases sd.all (QdA (ns.length:Nat))<;>rfl
theorem Qte (n:Int):(off:Nat)->(l:List Qc)->Kg n off l=true->(i:Nat)->(h:i<l.length)->V1 l[i]=true/\l[i].2.1=n/\l[i].1=((off+i:Nat):Int)
 |off,x::l,h,0,_=>by
  simp only[Kg,QQ5,QRu]at h
  simpa using⟨h.1.1,h.1.2.1,h.1.2.2⟩
 |off,x::l,h,i+1,hi=>by
  simp only[Kg,QQ5,QRu]at h
  have:=Qte n (off+1) l h.2 i (by simpa using hi)
  simp only[List.getElem_cons_succ]
  refine⟨this.1,this.2.1, ?_⟩
  rw[this.2.2];congr 1;omega
structure WOk (ns:List Qc) (net:List Qs) (sd:List Qt):Prop where
 n1:1<=ns.length
 n5:ns.length<=5
 net12:net.length<=12
 sd40:sd.length<=40
 nodes:Kg (ns.length:Nat) 0 ns=true
 nets:∀p∈net,inR p.1 0 ((ns.length:Nat) - 1)=true
 sds:∀x∈sd,inR x.1 0 ((ns.length:Nat) - 1)=true/\QF x.2=true
theorem QlP {ns:List Qc}{net:List Qs}{sd:List Qt}(h:YY ns net sd=true):WOk ns net sd:=by
 simp only[YY,QQ5,QRt,QdA,Qm3,QY14,decide_eq_false_iff_not,inR,QRu]at h
 obtain⟨h1,h2,h3,h4,h5,h6⟩:=h
 refine⟨by omega,by omega,by omega,by omega,h4,fun p hp=> ?_,fun x hx=> ?_⟩
 ·simp only[inR,QQ5,QRu];exact h5 p hp
 ·simp only[inR,QQ5,QRu];exact h6 x hx
theorem WOk.node {ns:List Qc}{net:List Qs}{sd:List Qt}(h:WOk ns net sd) {i:Nat}(hi:i<ns.length):V1 ns[i]=true/\ns[i].2.1=ns.length/\ns[i].1=(i:Int):=by
 have:=Qte _ 0 ns h.nodes i hi
 simpa using this
theorem V0 {p:Int}{n:Nat}(h:inR p 0 ((n:Int) - 1)=true):∃i:Nat,p=(i:Int)/\i<n:=by
 simp only[inR,QQ5,QRu]at h
 exact⟨p.toNat,by omega,by omega⟩
def QMF {α:Type}(c:α->Int):Int->List α->Int
 |k,[]=>k
 |k,x::l=>QMF c (wR (k+c x)) l
def kept (ns:List Qc) (net:List Qs) (sd:List Qt):Int:=bif YY ns net sd then QMF (fun x:Qc=>((x.2.2.2.2.2.2.2.2.1.length:Nat):Int)) 0 ns else 0
def two (ns:List Qc) (net:List Qs) (sd:List Qt) (p q:Int):Bool:=YY ns net sd&&(inR p 0 ((ns.length:Nat) - 1)&&(inR q 0 ((ns.length:Nat) - 1)&& !decide (p=q)))
def nodeAt (ns:List Qc) (p:Int):Qc:=rd1 QG ns p
theorem Qel {ns:List Qc}{i:Nat}(h:i<ns.length):nodeAt ns (i:Int)=ns[i]:=Qg h
def lag (ns:List Qc) (net:List Qs) (sd:List Qt) (p q:Int):Int:=bif two ns net sd p q then wR (Xr ((nodeAt ns p).2.2.2.2.2.2.1,(nodeAt ns p).2.2.2.2.2.2.2.1,(nodeAt ns p).2.2.2.2.2.2.2.2.1) - rd1 0 (nodeAt ns p).2.2.2.2.2.2.2.2.2.2.1 q)else -1
def behind (ns:List Qc) (net:List Qs) (sd:List Qt) (p q:Int):Bool:=bif decide (0<=lag ns net sd p q)then decide ((((nodeAt ns p).2.2.2.2.2.2.2.2.1.length:Nat):Int)<lag ns net sd p q)else false
def Qsx (ns:List Qc) (net:List Qs) (sd:List Qt) (t:Int):Qa:=bif YY ns net sd then(bif decide (((ns.length:Nat):Int)<2)then(-1, -1)else bif decide (t<0)then(-1, -1)else((Int.tmod t (((List.length ns):Nat):Int)),(Int.tmod (wR ((wR ((Int.tmod t (((List.length ns):Nat):Int))+1))+(Int.tmod (wR (Int.tdiv t (((List.length ns):Nat):Int))) (wR ((((List.length ns):Nat):Int) - 1))))) (((List.length ns):Nat):Int))))else(-1, -1)
def live (x:Qf):Bool:=decide (x.2.2.1=0)
def view (s:Qk):List Qf:=bif QF s then s.1.filter live else []
def lookup (s:Qk) (id:Int):Int×Int×Int×Int×ByteArray×Bool:=QZ id (view s)
theorem Qz4 (fl:List Qa):(p:Int)->(l:List Qf)->Xv fl p l=true->Qi XI l<=8*l.length
 |_,[],_=>by simp[Qi]
 |p,x::l,h=>by
  have hx:=QrC fl p (x::l) h x (by simp)
  simp only[Xv,QQ5]at h
  have:=Qz4 fl _ l h.2
  simp only[Qi,XI,Ji,QY1];omega
theorem Qa8 (a:List Int) (ha:a.length<=4294967296):ZI w a=some a:=by
 apply Quj
 have hf:fits a.length 8=true:=Qu (by omega)
 simp[Qi6,hf]
theorem QBC (a b:Int):Qcl w (a,b)=some (mnI a b):=by
 apply QAq
 simp only[Qo4,mnI]
 by_cases h:a<b
 ·rw[dt h,QQ1,if_neg (by omega)]
 ·rw[df h,QQ2]
  by_cases h2:b<a
  ·rw[if_pos h2]
  ·rw[if_neg h2];congr 1;omega
theorem jK (s:Qk) (h:QH s<=4294967296):ZO w s=some s:=by
 obtain⟨a,b⟩:=s
 apply QsA
 simp only[QH,XY,XL]at h
 simp only[Qhl,QY6,QRe,QRo,Qu (show a.length*56<=140737488351232 by omega),Qu (show b.length*16<=140737488351232 by omega),QQ1]
theorem Qhz (s:Qk) (h:QH s<=4294967296):Kx w s=some s:=by
 obtain⟨a,b⟩:=s
 apply QxQ
 simp only[QH,XY,XL]at h
 simp only[Qnk,QY6,QRe,QRo,Qu (show a.length*56<=140737488351232 by omega),Qu (show b.length*16<=140737488351232 by omega),QQ1]
theorem Qs2 (x:X3) (h:ZD x<=4294967296):Vs w x=some x:=by
 obtain⟨a,b⟩:=x
 apply Qt3
 simp only[ZD,QW]at h
 simp only[Qi5,Qa8 a (by omega),QQ0]
theorem QzT (x:X3) (h:ZD x<=4294967296):xf w x=some x:=by
 obtain⟨a,b⟩:=x
 apply Qx3
 simp only[ZD,QW]at h
 simp only[QmS,QY6,QRe,QRo,Qu (show a.length*8<=140737488351232 by omega),QQ1]
theorem QFY (x:Z8) (h:Yl x<=4294967296):Qds w x=some x:=by
 obtain⟨a,b,l⟩:=x
 apply QwB
 simp only[Yl,X1]at h
 have e:=VQ l (fun i out=>qy wl (l,((l.length:Nat):Int),(i:Int),a,b,out)) (fun out=>(a,b,out))
  (fun i hi out r ho hk=>by
    apply QhF
    have:=XG QH l i hi
    simp only[Qeb,ilt hi,Qj hi,Qg hi,inc hi (show l.length<=maxLen by simp only[maxLen];omega),QQ1,jK _ (show QH l[i]<=4294967296 by omega),QQ0]
    rw[Qu (by simp[ho];omega)];exact hk)
  (fun out ho=>by
    apply QhF
    simp only[Qeb,Qo,QQ2])
 simp only[QQ6]at e
 simp only[QkT,e,QQ0]
theorem QHM (x:Z8) (h:Yl x<=4294967296):Qgw w x=some x:=by
 obtain⟨a,b,l⟩:=x
 apply Qy6
 simp only[Yl,X1]at h
 have e:=VQ l (fun i out=>xF wl ((i:Int),a,b,l,a,b,out)) (fun out=>(a,b,out))
  (fun i hi out r ho hk=>by
    apply Qi3
    have:=XG QH l i hi
    simp only[QfN,ilt hi,Qj hi,Qg hi,inc hi (show l.length<=maxLen by simp only[maxLen];omega),QQ1,Qhz _ (show QH l[i]<=4294967296 by omega),QQ0]
    rw[Qu (by simp[ho];omega)];exact hk)
  (fun out ho=>by
    apply Qi3
    simp only[QfN,Qo,QQ2])
 simp only[QQ6]at e
 simp only[QmM,e,QQ0]
theorem QrB (l:List (List Int)) (h:Xu l<=4294967296):xB w l=some l:=by
 apply QsB
 simp only[Xu]at h
 have e:=VQ l (fun i out=>VA wl (l,((l.length:Nat):Int),(i:Int),out)) (fun out=>out)
  (fun i hi out r ho hk=>by
    apply QbS
    have:=XG QW l i hi
    simp only[QW]at this
    simp only[Qam,ilt hi,Qj hi,Qg hi,inc hi (show l.length<=maxLen by simp only[maxLen];omega),QQ1,Qa8 l[i] (by omega),QQ0]
    rw[Qu (by simp[ho];omega)];exact hk)
  (fun out ho=>by
    apply QbS
    simp only[Qam,Qo,QQ2])
 simp only[QQ6]at e
 simp only[QgG,e,QQ0]
theorem QzW (l:List (List Int)) (h:Xu l<=4294967296):Qav w l=some l:=by
 apply Qy2
 simp only[Xu]at h
 have e:=VQ l (fun i out=>x0 wl (l,(i:Int),out)) (fun out=>out)
  (fun i hi out r ho hk=>by
    apply QiW
    have:=XG QW l i hi
    simp only[QW]at this
    simp only[Qfx,ilt hi,Qj hi,Qg hi,inc hi (show l.length<=maxLen by simp only[maxLen];omega),QQ1,QY6,QRe,QRo,Qu (show l[i].length*8<=140737488351232 by omega)]
    rw[Qu (by simp[ho];omega)];exact hk)
  (fun out ho=>by
    apply QiW
    simp only[Qfx,Qo,QQ2])
 simp only[QQ6]at e
 simp only[Qnn,e,QQ0]
theorem QzL {x:Qc}(h:Q9 x<=4294967296):x.2.2.2.2.2.2.2.2.2.1.length<=4294967296/\x.2.2.2.2.2.2.2.2.2.2.1.length<=4294967296/\x.2.2.2.2.2.2.2.2.2.2.2.2.2.2.1.length<=4294967296/\x.2.2.2.2.2.2.2.2.2.2.2.2.2.2.2.2.2.2.length<=4294967296:=by
 simp only[Q9,QW,Yb,Yd]at h
 omega
theorem qb {x:Qc}(h:Q9 x<=4294967296):QH (x.2.2.1,x.2.2.2.1)<=4294967296/\ZD (x.2.2.2.2.1,x.2.2.2.2.2.1)<=4294967296/\Yl (x.2.2.2.2.2.2.1,x.2.2.2.2.2.2.2.1,x.2.2.2.2.2.2.2.2.1)<=4294967296/\Xu x.2.2.2.2.2.2.2.2.2.2.2.1<=4294967296:=by
 simp only[Q9]at h
 omega
theorem QsY (x:Qc) (h:Q9 x<=4294967296):Y3 w x=some x:=by
 have hl:=QzL h
 have hp:=qb h
 obtain⟨a0,a1,a2,a3,a4,a5,a6,a7,a8,a9,a10,a11,a12,a13,a14,a15,a16,a17,a18⟩:=x
 apply Quv
 obtain⟨h9,h10,h14,h18⟩:=hl
 obtain⟨h2,h4,h6,h11⟩:=hp
 simp only at h9 h10 h14 h18 h2 h4 h6 h11
 simp only[Qi9,jK (a2,a3) h2,Qs2 (a4,a5) h4,QFY (a6,a7,a8) h6,QrB a11 h11,Qa8 a9 h9,Qa8 a10 h10,Qu (show a14.length*32<=140737488351232 by omega),Qu (show a18.length*24<=140737488351232 by omega),QY6,QRe,QRo,QQ0,QQ1]
theorem QwM (x:Qc) (h:Q9 x<=4294967296):XA w x=some x:=by
 have hl:=QzL h
 have hp:=qb h
 obtain⟨a0,a1,a2,a3,a4,a5,a6,a7,a8,a9,a10,a11,a12,a13,a14,a15,a16,a17,a18⟩:=x
 apply QvD
 obtain⟨h9,h10,h14,h18⟩:=hl
 obtain⟨h2,h4,h6,h11⟩:=hp
 simp only at h9 h10 h14 h18 h2 h4 h6 h11
 simp only[Qmg,Qhz (a2,a3) h2,QzT (a4,a5) h4,QHM (a6,a7,a8) h6,QzW a11 h11,Qu (show a9.length*8<=140737488351232 by omega),Qu (show a10.length*8<=140737488351232 by omega),Qu (show a14.length*32<=140737488351232 by omega),Qu (show a18.length*24<=140737488351232 by omega),QY6,QRe,QRo,QQ0,QQ1]
theorem Qum {α:Type}(l:List α) (k:Int) (h0:0<=k) (h:k<=(l.length:Int)):List.take (Int.toNat ((l.length:Int) - k)) (List.drop (Int.toNat k) l)=l.drop k.toNat:=by
 rw[List.take_of_length_le]
 rw[QY7];omega
theorem QDc (p:Qs) (h:Xb p<=4294967296):QaL w p=some p:=by
 obtain⟨a,b,c⟩:=p
 apply Qt4
 simp only[Xb,Zy]at h
 have:=VO [b] (by simp[maxLen]) (by simp;omega)
 simp only[QiU,this,QQ0];simp
theorem QGZ (p:Qs) (h:Xb p<=4294967296):Qes w p=some p:=by
 obtain⟨a,b,c⟩:=p
 apply QvQ
 simp only[Xb,Zy]at h
 simp only[Qkx,QY6,QRe,QRo,Qu (show b.length*1<=140737488351232 by omega),QQ1]
theorem QCP (ns:List Qc) (net:List Qs) (sd:List Qt) (h:Xl (ns,net,sd)<=4294967296):vc w (ns,net,sd)=some (ns,net,sd):=by
 apply QsV
 simp only[Xl,XV,XH,XU]at h
 have e0:=VQ ns (fun i out=>Vz wl (ns,((ns.length:Nat):Int),(i:Int),ns,net,sd,out,[],[])) (fun out=>(ns,net,sd,out,[],[]))
  (fun i hi out r ho hk=>by
    apply Qdk
    have:=XG Q9 ns i hi
    simp only[vU,ilt hi,Qj hi,Qg hi,inc hi (show ns.length<=maxLen by simp only[maxLen];omega),QQ1,QsY _ (show Q9 ns[i]<=4294967296 by omega),QQ0]
    rw[Qu (by simp[ho];omega)];exact hk)
  (fun out ho=>by
    apply Qdk
    simp only[vU,Qo,QQ2])
 have e2:=VQ net (fun i out=>Vy wl (net,((net.length:Nat):Int),(i:Int),ns,net,sd,ns,out,[])) (fun out=>(ns,net,sd,ns,out,[]))
  (fun i hi out r ho hk=>by
    apply Qey
    have:=XG Xb net i hi
    simp only[vQ,ilt hi,Qj hi,Qg hi,inc hi (show net.length<=maxLen by simp only[maxLen];omega),QQ1,QDc _ (show Xb net[i]<=4294967296 by omega),QQ0]
    rw[Qu (by simp[ho];omega)];exact hk)
  (fun out ho=>by
    apply Qey
    simp only[vQ,Qo,QQ2])
 have e4:=VQ sd (fun i out=>Vu wl (sd,((sd.length:Nat):Int),(i:Int),ns,net,out)) (fun out=>(ns,net,out))
  (fun i hi out r ho hk=>by
    apply Qc7
    have:=XG Xn sd i hi
    have:QH sd[i].2<=4294967296:=by simp only[Xn]at this;exact QY17 this (by omega)
    simp only[Qac,ilt hi,Qj hi,Qg hi,inc hi (show sd.length<=maxLen by simp only[maxLen];omega),QQ1,jK _ this,QQ0]
    rw[Qu (by simp[ho];omega)];exact hk)
  (fun out ho=>by
    apply Qc7
    simp only[Qac,Qo,QQ2])
 simp only[QQ6]at e0 e2 e4
 simp only[Qh4,e0,e2,e4,QQ0]
theorem QGb (ns:List Qc) (net:List Qs) (sd:List Qt) (h:Xl (ns,net,sd)<=4294967296):Qer w (ns,net,sd)=some (ns,net,sd):=by
 apply Qwc
 simp only[Xl,XV,XH,XU]at h
 have e0:=VQ ns (fun i out=>JY wl ((i:Int),ns,net,sd,out,[],[])) (fun out=>(ns,net,sd,out,[],[]))
  (fun i hi out r ho hk=>by
    apply Qhx
    have:=XG Q9 ns i hi
    simp only[QdN,ilt hi,Qj hi,Qg hi,inc hi (show ns.length<=maxLen by simp only[maxLen];omega),QQ1,QwM _ (show Q9 ns[i]<=4294967296 by omega),QQ0]
    rw[Qu (by simp[ho];omega)];exact hk)
  (fun out ho=>by
    apply Qhx
    simp only[QdN,Qo,QQ2])
 have e2:=VQ net (fun i out=>qE wl ((i:Int),ns,net,sd,ns,out,[])) (fun out=>(ns,net,sd,ns,out,[]))
  (fun i hi out r ho hk=>by
    apply QhW
    have:=XG Xb net i hi
    simp only[QdY,ilt hi,Qj hi,Qg hi,inc hi (show net.length<=maxLen by simp only[maxLen];omega),QQ1,QGZ _ (show Xb net[i]<=4294967296 by omega),QQ0]
    rw[Qu (by simp[ho];omega)];exact hk)
  (fun out ho=>by
    apply QhW
    simp only[QdY,Qo,QQ2])
 have e4:=VQ sd (fun i out=>qP wl ((i:Int),ns,net,sd,ns,net,out)) (fun out=>(ns,net,out))
  (fun i hi out r ho hk=>by
    apply Qg6
    have:=XG Xn sd i hi
    have:QH sd[i].2<=4294967296:=by simp only[Xn]at this;exact QY17 this (by omega)
    simp only[QeB,ilt hi,Qj hi,Qg hi,inc hi (show sd.length<=maxLen by simp only[maxLen];omega),QQ1,Qhz _ this,QQ0]
    rw[Qu (by simp[ho];omega)];exact hk)
  (fun out ho=>by
    apply Qg6
    simp only[QeB,Qo,QQ2])
 simp only[QQ6]at e0 e2 e4
 simp only[Qk0,e0,e2,e4,QQ0]
def yM (a b:Qk) (id:Int):XT:=Jd (Yo (QZ id a.1)) (Yo (QZ id b.1))
def Zp (a b:Qk) (id:Int):Int:=mxI (Q7 id a.2) (Q7 id b.2)
def Qo8 (a b:Qk) (i:Nat):List Qf:=bif decide (Zp a b (i:Int)<(yM a b (i:Int)).1)then [((i:Int),yM a b (i:Int))]else []
def jG (a b:Qk) (i:Nat):List Qa:=bif decide (0<Zp a b (i:Int))then [((i:Int),Zp a b (i:Int))]else []
def join (a b:Qk):Qk:=((List.range' 0 5).flatMap (Qo8 a b),(List.range' 0 5).flatMap (jG a b))
theorem Qxd (id:Int):(p:Int)->(l:List Qa)->QO p l=true->0<=Q7 id l/\Q7 id l<=1000
 |_,[],_=>by simp[Q7]
 |p,x::l,h=>by
  simp only[QO,QQ5]at h
  have ih:=Qxd id _ l h.2
  have hx:=h.1.1.2
  simp only[inR,QQ5,QRu]at hx
  simp only[Q7]
  split
  ·omega
  ·exact ih
theorem Qzs (fl:List Qa) (id:Int):(p:Int)->(l:List Qf)->Xv fl p l=true->(X2 (Yo (QZ id l))=true/\(QZ id l).2.2.2.2.2=true)\/(Yo (QZ id l)=(0,0,0,0,ByteArray.empty)/\(QZ id l).2.2.2.2.2=false)
 |_,[],_=>Or.inr ⟨rfl,rfl⟩
 |p,x::l,h=>by
  simp only[Xv,QQ5]at h
  have ih:=Qzs fl id _ l h.2
  simp only[QZ]
  split
  ·exact Or.inl ⟨h.1.1.1.2,rfl⟩
  ·exact ih
theorem QC6 {s:Qk}(h:QF s=true) (id:Int):0<=Q7 id s.2/\Q7 id s.2<=1000:=by
 simp only[QF,QQ5]at h
 exact Qxd id _ _ h.1
theorem Qlp {s:Qk}(h:QF s=true) (id:Int):(X2 (Yo (QZ id s.1))=true/\(QZ id s.1).2.2.2.2.2=true)\/(Yo (QZ id s.1)=(0,0,0,0,ByteArray.empty)/\(QZ id s.1).2.2.2.2.2=false):=by
 simp only[QF,QQ5]at h
 exact Qzs _ id _ _ h.2
theorem QzZ (x y:XT):Jd x y=x\/Jd x y=y:=by
 unfold Jd;split
 ·exact Or.inr rfl
 ·exact Or.inl rfl
theorem QIw {a b:Qk}(ha:QF a=true) (hb:QF b=true) (id:Int):X2 (yM a b id)=true\/yM a b id=(0,0,0,0,ByteArray.empty):=by
 unfold yM
 rcases QzZ (Yo (QZ id a.1)) (Yo (QZ id b.1))with e|e
 ·rw[e];rcases Qlp ha id with h|h
  ·exact Or.inl h.1
  ·exact Or.inr h.1
 ·rw[e];rcases Qlp hb id with h|h
  ·exact Or.inl h.1
  ·exact Or.inr h.1
theorem QmY {a b:Qk}(ha:QF a=true) (hb:QF b=true) (id:Int):0<=Zp a b id/\Zp a b id<=1000:=by
 have h1:=QC6 ha id
 have h2:=QC6 hb id
 unfold Zp mxI;split<;>omega
theorem yf (f:Nat->List Qa) (hf:∀i,i<5->f i=[]\/∃v,f i=[((i:Int),v)]/\inR v 1 1000=true):(n i:Nat)->(p:Int)->i+n<=5->p<(i:Int)->QO p ((List.range' i n).flatMap f)=true
 |0,_,_,_,_=>rfl
 |n+1,i,p,hn,hp=>by
  rw[List.range'_succ,QY8]
  rcases hf i (by omega)with e|⟨v,e,hv⟩
  ·rw[e];exact yf f hf n (i+1) p (by omega) (by omega)
  ·rw[e,List.singleton_append]
   simp only[QO,QQ5,hv,dt hp,yf f hf n (i+1) (i:Int) (by omega) (by omega),and_true]
   simp[inR];omega
theorem QlJ (fl:List Qa) (f:Nat->List Qf) (hf:∀i,i<5->f i=[]\/∃e,f i=[((i:Int),e)]/\X2 e=true/\Q7 (i:Int) fl<e.1):(n i:Nat)->(p:Int)->i+n<=5->p<(i:Int)->Xv fl p ((List.range' i n).flatMap f)=true
 |0,_,_,_,_=>rfl
 |n+1,i,p,hn,hp=>by
  rw[List.range'_succ,QY8]
  rcases hf i (by omega)with e|⟨v,e,hv,hl⟩
  ·rw[e];exact QlJ fl f hf n (i+1) p (by omega) (by omega)
  ·rw[e,List.singleton_append]
   simp only[Xv,QQ5,hv,dt hp,dt hl,QlJ fl f hf n (i+1) (i:Int) (by omega) (by omega),and_true]
   simp[inR];omega
theorem QEj (id:Int) (l m:List Qa) (h:∀x∈l,x.1≠id):Q7 id (l++m)=Q7 id m:=by
 induction l with
 |nil=>rfl
 |cons x l ih=>rw[QRv,Q7,if_neg (h x (by simp)),ih fun y hy=>h y (by simp[hy])]
theorem Ql7 (f:Nat->List Qa) (hf:∀i,f i=[]\/∃v,f i=[((i:Int),v)]):(n i k:Nat)->Q7 (k:Int) ((List.range' i n).flatMap f)=if i<=k/\k<i+n then Q7 (k:Int) (f k)else 0
 |0,i,k=>by rw[if_neg (by omega)];rfl
 |n+1,i,k=>by
  rw[List.range'_succ,QY8]
  by_cases hk:i=k
  ·subst hk
   rw[if_pos (by omega)]
   rcases hf i with e|⟨v,e⟩
   ·rw[e,QRe,Ql7 f hf n (i+1) i,if_neg (by omega)];rfl
   ·rw[e,List.singleton_append,Q7,if_pos rfl,Q7,if_pos rfl]
  ·rw[QEj,Ql7 f hf n (i+1) k]
   ·by_cases h:i+1<=k/\k<i+1+n
    ·rw[if_pos h,if_pos (by omega)]
    ·rw[if_neg h,if_neg (by omega)]
   ·intro x hx
    rcases hf i with e|⟨v,e⟩
    ·rw[e]at hx;simp at hx
    ·rw[e]at hx
     obtain rfl:x=((i:Int),v):=by simpa using hx
     simp;omega
theorem QIt (a b:Qk) (i:Nat):jG a b i=[]\/∃v,jG a b i=[((i:Int),v)]:=by
 unfold jG;cases decide (0<Zp a b (i:Int))
 ·exact Or.inl rfl
 ·exact Or.inr ⟨_,rfl⟩
theorem QBr {a b:Qk}(ha:QF a=true) (hb:QF b=true) {k:Nat}(hk:k<5):Q7 (k:Int) (join a b).2=Zp a b (k:Int):=by
 have h:=QmY ha hb (k:Int)
 show Q7 (k:Int) ((List.range' 0 5).flatMap (jG a b))=_
 rw[Ql7 _ (QIt a b),if_pos (by omega)]
 unfold jG
 by_cases h0:0<Zp a b (k:Int)
 ·simp[h0,Q7]
 ·simp[h0,Q7];omega
theorem QH9 {e:XT}(h:X2 e=true\/e=(0,0,0,0,ByteArray.empty)) (h0:0<e.1):X2 e=true:=by
 rcases h with h|h
 ·exact h
 ·rw[h]at h0;exact absurd h0 (by decide)
theorem zm {a b:Qk}(ha:QF a=true) (hb:QF b=true):QF (join a b)=true:=by
 simp only[QF,QQ5]
 constructor
 ·refine yf _ (fun i hi=> ?_) 5 0 (-1) (by omega) (by simp)
  have h:=QmY ha hb (i:Int)
  unfold jG
  by_cases h0:0<Zp a b (i:Int)
  ·exact Or.inr ⟨Zp a b (i:Int),by simp[h0],by simp[inR];omega⟩
  ·exact Or.inl (by simp[h0])
 ·refine QlJ _ _ (fun i hi=> ?_) 5 0 (-1) (by omega) (by simp)
  have h:=QmY ha hb (i:Int)
  unfold Qo8
  by_cases h0:Zp a b (i:Int)<(yM a b (i:Int)).1
  ·refine Or.inr ⟨yM a b (i:Int),by simp[h0],QH9 (QIw ha hb _) (by omega), ?_⟩
   rw[QBr ha hb hi];exact h0
  ·exact Or.inl (by simp[h0])
def Zl (s:Qk) (id:Int):Int:=bif QF s then(bif (QZ id s.1).2.2.2.2.2 then(bif decide ((QZ id s.1).2.1=1)then(QZ id s.1).1 else(QZ id s.1).1 - 1)else Q7 id s.2)else 0
def QoZ (s:Qk) (i:Nat):List Qa:=bif decide (0<Zl s (i:Int))then [((i:Int),Zl s (i:Int))]else []
def marksOf (s:Qk):List Qa:=(List.range' 0 5).flatMap (QoZ s)
theorem Qxp (s:Qk) (id:Int):0<=Zl s id/\Zl s id<=1000:=by
 unfold Zl
 cases h:QF s
 ·simp
 ·have hf:=QC6 h id
  rcases Qlp h id with⟨he,hb⟩|⟨he,hb⟩
  ·rw[hb]
   simp only[X2,QQ5,inR,QRu]at he
   have:=he.1.1.1.1
   simp only[Yo]at this
   simp only[QQ1]
   cases decide ((QZ id s.1).2.1=1)
   ·simp only[QQ2];omega
   ·simp only[QQ1];omega
  ·rw[hb];simp only[QQ1,QQ2];omega
theorem Qci (s:Qk):QO (-1) (marksOf s)=true:=by
 refine yf _ (fun i hi=> ?_) 5 0 (-1) (by omega) (by simp)
 have h:=Qxp s (i:Int)
 unfold QoZ
 by_cases h0:0<Zl s (i:Int)
 ·exact Or.inr ⟨Zl s (i:Int),by simp[h0],by simp[inR];omega⟩
 ·exact Or.inl (by simp[h0])
end Go.Proofs.YtiejfnbmficbmaaGreat.M
