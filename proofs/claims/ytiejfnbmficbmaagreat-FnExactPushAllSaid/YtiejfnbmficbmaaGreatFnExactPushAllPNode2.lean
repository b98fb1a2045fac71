/- What the plain forms that FnExactPushAll reaches come to: PNode2. No conditions but those that each theorem states. -/
import Derived.Test.YtiejfnbmficbmaaGreatFnExactPushAllPEntry
set_option linter.all false
namespace Go.Proofs.YtiejfnbmficbmaaGreat.M
open Go Go.Eng Go.Proofs
set_option linter.unusedVariables false
def ZO (clock:Int) (r:QM):Bool:=inR r.1 0 1000&&inR r.2.1 0 100000&&inR r.2.2 0 clock
theorem QAj (a0:Int) (a1:Int) (a2:List Qg) (a3:List Qb) (a4:List Int) (a5:Int) (a6:Int) (a7:Int) (a8:List Qk) (a9:List Int) (a10:List Int) (a11:List (List Int)) (a12:Int) (a13:Int) (a14:List QB) (a15:Int) (a16:Int) (a17:Int) (a18:List QM) (h:a18.length<=maxLen):Qa8 w (a0,a1,a2,a3,a4,a5,a6,a7,a8,a9,a10,a11,a12,a13,a14,a15,a16,a17,a18)=some ((a18.all (ZO a17))&&decide (((a18.length:Nat):Int)=5)):=by
 apply Qrc
 have e:=Q1 a18.length (fun i=>VZ wl (a18,((a18.length:Nat):Int),(i:Int),a0,a1,a2,a3,a4,a5,a6,a7,a8,a9,a10,a11,a12,a13,a14,a15,a16,a17,a18)) (fun i=>if(a18.drop i).all (ZO a17)then .inr (a0,a1,a2,a3,a4,a5,a6,a7,a8,a9,a10,a11,a12,a13,a14,a15,a16,a17,a18)else .inl false)
  (fun i hi ih=>by
    apply Qe1
    rw[Zj (ZO a17) a18 _ _ hi]
    simp only[QaM,ilt hi,Ql hi,Qi hi,inc hi h,QQ1,Xd,QQ0,ih,ZO]
    cases inR a18[i].1 0 1000<;>cases inR a18[i].2.1 0 100000<;>cases inR a18[i].2.2 0 a17<;>simp)
  (by
    apply Qe1
    simp[QaM])
 simp only[QQ6,QRg]at e
 simp only[Qg2,e,QQ0]
 cases a18.all (ZO a17)
 ·simp[Qq]
 ·simp only[if_true,Qq,Sum.elim_inr,QRd]
def Za (x y:QB):Bool:=decide (y.1=x.1)&&(y.2.2.1==x.2.2.1)
def YC (p:Int) (b:Bool):Nat->List QB->Int⊕Unit
 |_,[]=> .inr ()
 |i,y::l=>bif decide (y.1=p)&&(y.2.2.1==b)then .inl (i:Nat)else YC p b (i+1) l
def VX:Int⊕Unit->Int
 | .inl i=>i
 | .inr _=> -1
theorem QAb (z:Int⊕Unit):Qq z (fun u=>some u) (fun _=>some (-1))=some (VX z):=by cases z<;>rfl
theorem QEY (a0:Int) (a1:Int) (a2:List Qg) (a3:List Qb) (a4:List Int) (a5:Int) (a6:Int) (a7:Int) (a8:List Qk) (a9:List Int) (a10:List Int) (a11:List (List Int)) (a12:Int) (a13:Int) (a14:List QB) (a15:Int) (a16:Int) (a17:Int) (a18:List QM) (p:Int) (b:Bool) (h:a14.length<=maxLen):Qi9 w (a0,a1,a2,a3,a4,a5,a6,a7,a8,a9,a10,a11,a12,a13,a14,a15,a16,a17,a18,p,b)=some (VX (YC p b 0 a14)):=by
 apply Qvv
 have e:=Q1 a14.length (fun i=>JZ wl (p,b,a14,((a14.length:Nat):Int),(i:Int))) (fun i=>YC p b i (a14.drop i))
  (fun i hi ih=>by
    apply QjI
    simp only[QhU,ilt hi,Ql hi,Qi hi,inc hi h,QQ1,ih]
    rw[QRa hi,YC]
    cases decide (a14[i].1=p)<;>cases(a14[i].2.2.1==b)<;>simp)
  (by
    apply QjI
    simp[QhU,YC])
 simp only[QQ6,QRg]at e
 simp only[Qmb,e,QQ0,QAb]
theorem Qyt (x:QB):(off:Nat)->(l:List QB)->(i:Nat)->(h:i<l.length)->l[i]=x->((off:Int)<=VX (YC x.1 x.2.2.1 off l)/\VX (YC x.1 x.2.2.1 off l)<=off+i/\(VX (YC x.1 x.2.2.1 off l)=off+i↔(l.take i).any (Za x)=false))
 |off,y::l,0,_,hx=>by
  have:y=x:=hx
  subst this
  simp[YC,VX]
 |off,y::l,i+1,h,hx=>by
  have ih:=Qyt x (off+1) l i (by simpa using h) (by simpa using hx)
  rw[YC]
  have hk:(decide (y.1=x.1)&&(y.2.2.1==x.2.2.1))=Za x y:=rfl
  rw[hk,List.take_succ_cons,List.any_cons]
  cases Za x y
  ·simp only[QQ2,Bool.false_or]
   refine⟨by omega,by omega, ?_⟩
   rw[<-ih.2.2];omega
  ·simp only[QQ1,Bool.true_or,VX]
   refine⟨by omega,by omega, ?_⟩
   constructor
   ·intro h;omega
   ·intro h;cases h
def Zw (id n p:Int):Bool:=inR p 0 (n - 1)&& !decide (p=id)
theorem QtC (a0:Int) (a1:Int) (a2:List Qg) (a3:List Qb) (a4:List Int) (a5:Int) (a6:Int) (a7:Int) (a8:List Qk) (a9:List Int) (a10:List Int) (a11:List (List Int)) (a12:Int) (a13:Int) (a14:List QB) (a15:Int) (a16:Int) (a17:Int) (a18:List QM) (p:Int) (hn:inR a1 1 5=true):xe w (a0,a1,a2,a3,a4,a5,a6,a7,a8,a9,a10,a11,a12,a13,a14,a15,a16,a17,a18,p)=some (Zw a0 a1 p):=by
 apply Qsv
 simp[inR]at hn
 simp only[Qjs,Zw]
 rw[w64 (by omega) (by omega),Xd,QQ0]
 cases inR p 0 (a1 - 1)<;>simp
def Vp (id n wait:Int) (x:QB):Bool:=Zw id n x.1&&inR x.2.1 0 100000&&inR x.2.2.2 0 wait
def XO (id n wait:Int):List QB->List QB->Bool
 |_,[]=>true
 |pre,x::l=>Vp id n wait x&& !pre.any (Za x)&&XO id n wait (pre++[x]) l
theorem QpT {R:Type}(id n wait:Int) (l:List QB) (x y:R) {i:Nat}(hi:i<l.length):
 (if XO id n wait (l.take i) (l.drop i)then x else y)=(bif Vp id n wait l[i]&& !(l.take i).any (Za l[i])then(if XO id n wait (l.take (i+1)) (l.drop (i+1))then x else y)else y):=by
 rw[QRa hi,XO]
 have:l.take i++[l[i]]=l.take (i+1):=by rw[List.take_add_one];simp[hi]
 rw[this]
 cases Vp id n wait l[i]&& !(l.take i).any (Za l[i])<;>simp
theorem QA6 (a0:Int) (a1:Int) (a2:List Qg) (a3:List Qb) (a4:List Int) (a5:Int) (a6:Int) (a7:Int) (a8:List Qk) (a9:List Int) (a10:List Int) (a11:List (List Int)) (a12:Int) (a13:Int) (a14:List QB) (a15:Int) (a16:Int) (a17:Int) (a18:List QM) (hn:inR a1 1 5=true) (h:a14.length<=maxLen):QcU w (a0,a1,a2,a3,a4,a5,a6,a7,a8,a9,a10,a11,a12,a13,a14,a15,a16,a17,a18)=some (XO a0 a1 a15 [] a14&&(inR a13 1 4&&decide (((a14.length:Nat):Int)<=a13))):=by
 apply Qsm
 have e:=Q1 a14.length (fun i=>J3 wl (a14,((a14.length:Nat):Int),(i:Int),a0,a1,a2,a3,a4,a5,a6,a7,a8,a9,a10,a11,a12,a13,a14,a15,a16,a17,a18)) (fun i=>if XO a0 a1 a15 (a14.take i) (a14.drop i)then .inr (a0,a1,a2,a3,a4,a5,a6,a7,a8,a9,a10,a11,a12,a13,a14,a15,a16,a17,a18)else .inl false)
  (fun i hi ih=>by
    apply Qfk
    rw[QpT a0 a1 a15 a14 _ _ hi]
    have hs:=Qyt a14[i] 0 a14 i hi rfl
    have hs':decide (VX (YC a14[i].1 a14[i].2.2.1 0 a14)=(i:Int))= !(a14.take i).any (Za a14[i]):=by
     cases hb:(a14.take i).any (Za a14[i])
     ·rw[dt (by have:=hs.2.2.2 hb;omega)];rfl
     ·rw[df (fun h=>by have:=hs.2.2.1 (by omega);rw[hb]at this;cases this)];rfl
    simp only[Qcc,ilt hi,Ql hi,Qi hi,inc hi h,QQ1,QtC a0 a1 a2 a3 a4 a5 a6 a7 a8 a9 a10 a11 a12 a13 a14 a15 a16 a17 a18 _ hn,QEY a0 a1 a2 a3 a4 a5 a6 a7 a8 a9 a10 a11 a12 a13 a14 a15 a16 a17 a18 _ _ h,Xd,QQ0,ih,Vp,hs']
    cases Zw a0 a1 a14[i].1<;>cases inR a14[i].2.1 0 100000<;>cases inR a14[i].2.2.2 0 a15<;>cases(a14.take i).any (Za a14[i])<;>simp)
  (by
    apply Qfk
    simp[Qcc,XO])
 simp only[QQ6,QRg,List.take_zero]at e
 simp only[Qi3,e,QQ0]
 cases XO a0 a1 a15 [] a14
 ·simp[Qq]
 ·simp only[if_true,Qq,Sum.elim_inr,QRd,Xd,QQ0]
  cases inR a13 1 4<;>simp
theorem QyO (a0:Int) (a1:Int) (a2:List Qg) (a3:List Qb) (a4:List Int) (a5:Int) (a6:Int) (a7:Int) (a8:List Qk) (a9:List Int) (a10:List Int) (a11:List (List Int)) (a12:Int) (a13:Int) (a14:List QB) (a15:Int) (a16:Int) (a17:Int) (a18:List QM) (hn:inR a1 1 5=true) (h:a14.length<=maxLen):Qax w (a0,a1,a2,a3,a4,a5,a6,a7,a8,a9,a10,a11,a12,a13,a14,a15,a16,a17,a18)=some (decide (((a14.length:Nat):Int)<=a13)&&XO a0 a1 a15 [] a14):=by
 apply QqX
 have hn':=hn
 simp[inR]at hn'
 have inner:∀(i:Nat) (hi:i<a14.length) (b4:Bool) (x5:Int) (b6 b7:Bool) (x8 x9:Int) (b10 b11:Bool) (q:QB) (x2 x3:Int),
  ZX wl ((i:Int),0,x2,x3,b4,x5,b6,b7,x8,x9,b10,b11,a0,a1,a2,a3,a4,a5,a6,a7,a8,a9,a10,a11,a12,a13,a14,a15,a16,a17,a18,q)=some (bif (a14.take i).any (Za q)then .inl false else .inr ((i:Int),x2,x3,b4,x5,b6,b7,x8,x9,b10,b11,a0,a1,a2,a3,a4,a5,a6,a7,a8,a9,a10,a11,a12,a13,a14,a15,a16,a17,a18,q)):=by
  intro i hi b4 x5 b6 b7 x8 x9 b10 b11 q x2 x3
  have e:=Q1 i (fun k=>ZX wl ((i:Int),(k:Int),x2,x3,b4,x5,b6,b7,x8,x9,b10,b11,a0,a1,a2,a3,a4,a5,a6,a7,a8,a9,a10,a11,a12,a13,a14,a15,a16,a17,a18,q)) (fun k=>bif ((a14.take i).drop k).any (Za q)then .inl false else .inr ((i:Int),x2,x3,b4,x5,b6,b7,x8,x9,b10,b11,a0,a1,a2,a3,a4,a5,a6,a7,a8,a9,a10,a11,a12,a13,a14,a15,a16,a17,a18,q))
   (fun k hk ih=>by
     apply QdT
     have hk':k<a14.length:=by omega
     have hk2:k<(a14.take i).length:=by simp;omega
     rw[QRa hk2,List.any_cons,List.getElem_take]
     simp only[Qbn,ilt hk,Ql hk',Qi hk',inc hk (show i<=maxLen by omega),QQ1,ih,Za]
     cases decide (a14[k].1=q.1)<;>cases(a14[k].2.2.1==q.2.2.1)<;>simp)
   (by
     apply QdT
     simp only[Qbn,Qs,QQ2]
     rw[List.drop_of_length_le (by simp;omega)];simp)
  simpa using e
 have e:=Q1 a14.length (fun i=>Jk wl ((i:Int),a0,a1,a2,a3,a4,a5,a6,a7,a8,a9,a10,a11,a12,a13,a14,a15,a16,a17,a18)) (fun i=>if XO a0 a1 a15 (a14.take i) (a14.drop i)then .inr ()else .inl false)
  (fun i hi ih=>by
    apply Qej
    rw[QpT a0 a1 a15 a14 _ _ hi]
    simp only[Qba,ilt hi,Ql hi,Qi hi,QQ1,XE,QQ0,Vp,Zw]
    rw[w64 (n:=a1 - 1) (by omega) (by omega)]
    cases h1:inR a14[i].1 0 (a1 - 1)
    ·simp
    ·cases h2:decide (a14[i].1=a0)
     ·cases h3:inR a14[i].2.1 0 100000
      ·simp
      ·cases h4:inR a14[i].2.2.2 0 a15
       ·simp
       ·simp only[QQ3,QQ2,QQ4,QRn,QRd,inner i hi,QQ0]
        cases(a14.take i).any (Za a14[i])
        ·simp only[QQ2,Qq,Sum.elim_inr,inc hi h,ih,QQ4,QQ1]
        ·simp[Qq]
     ·simp)
  (by
    apply Qej
    simp[Qba,XO])
 simp only[QQ6,QRg,List.take_zero]at e
 simp only[QgB,e,QQ0]
 by_cases hl:((a14.length:Nat):Int)<=a13
 ·simp only[df (show¬a13<((a14.length:Nat):Int) by omega),QQ2,dt hl,QRd]
  cases XO a0 a1 a15 [] a14<;>simp[Qq]
 ·simp only[dt (show a13<((a14.length:Nat):Int) by omega),QQ1,df hl,QRm]
def Qhj (a0:Int) (a1:Int) (a2:List Qg) (a3:List Qb) (a4:List Int) (a5:Int) (a6:Int) (a7:Int) (a8:List Qk) (a9:List Int) (a10:List Int) (a11:List (List Int)) (a12:Int) (a13:Int) (a14:List QB) (a15:Int) (a16:Int) (a17:Int) (a18:List QM):Bool:=
 inR a1 1 5&&inR a0 0 (a1 - 1)&&QL (a2,a3)&&decide ((a4,a5)=KW (a2,a3))&&ZL (a6,a7,a8)&&Yj a9 a1&&Yj a10 a1&&decide (a9.getD a0.toNat 0=Xs (a6,a7,a8))&&(a10.all fun x=>decide (x<=Xs (a6,a7,a8)))&&
  YW a11 a1&&inR a12 0 100000&&inR a17 0 100000&&inR a15 1 20&&inR a16 1 50&&inR a13 1 4&&decide (((a14.length:Nat):Int)<=a13)&&XO a0 a1 a15 [] a14&&decide (((a18.length:Nat):Int)=5)&&a18.all (ZO a17)
def smN (a2:List Qg) (a3:List Qb) (a4:List Int) (a8:List Qk) (a9 a10:List Int) (a11:List (List Int)) (a14:List QB) (a18:List QM):Prop:=
 a2.length<=maxLen/\a3.length<=maxLen/\a4.length<=maxLen/\a8.length<=maxLen/\(∀s∈a8,s.1.length<=maxLen/\s.2.length<=maxLen)/\a9.length<=maxLen/\a10.length<=maxLen/\a11.length<=maxLen/\(∀r∈a11,r.length<=maxLen)/\a14.length<=maxLen/\a18.length<=maxLen
theorem QxJ (a:List Int) (b:Int) (c:List Int) (d:Int) (h:a.length<=maxLen):je w (a,b,c,d)=some (decide ((a,b)=(c,d))):=by
 apply QoZ
 simp only[QfQ,QCK a c h,QQ0]
 by_cases h1:a=c
 ·by_cases h2:b=d
  ·simp[h1,h2]
  ·simp[h1,h2]
 ·simp[h1]
theorem QAc (a:List Int) (b:Int) (c:List Int) (d:Int) (h:a.length<=maxLen):vd w (a,b,c,d)=some (decide ((a,b)=(c,d))):=by
 apply Qq0
 simp only[Qhe,QBj a c h,QQ0]
 by_cases h1:a=c
 ·by_cases h2:b=d
  ·simp[h1,h2]
  ·simp[h1,h2]
 ·simp[h1]
theorem QA7 (a0:Int) (a1:Int) (a2:List Qg) (a3:List Qb) (a4:List Int) (a5:Int) (a6:Int) (a7:Int) (a8:List Qk) (a9:List Int) (a10:List Int) (a11:List (List Int)) (a12:Int) (a13:Int) (a14:List QB) (a15:Int) (a16:Int) (a17:Int) (a18:List QM) (h:smN a2 a3 a4 a8 a9 a10 a11 a14 a18):Kz w (a0,a1,a2,a3,a4,a5,a6,a7,a8,a9,a10,a11,a12,a13,a14,a15,a16,a17,a18)=some (Qhj a0 a1 a2 a3 a4 a5 a6 a7 a8 a9 a10 a11 a12 a13 a14 a15 a16 a17 a18):=by
 obtain⟨h2,h3,h4,h8,h8',h9,h10,h11,h11',h14,h18⟩:=h
 apply Qs2
 simp only[QiO,Xd,QQ0,Qhj]
 cases q1:inR a1 1 5
 ·simp
 have q1':=q1
 simp[inR]at q1'
 rw[w64 (n:=a1 - 1) (by omega) (by omega)]
 simp only[QQ3,QQ2,QRd]
 cases q0:inR a0 0 (a1 - 1)
 ·simp
 simp[inR]at q0
 simp only[QQ3,QQ2,QRd,Ku a2 a3 h2 h3,QQ0]
 cases q2:QL (a2,a3)
 ·simp
 simp only[QQ3,QQ2,QRd,QBc a2 a3 h2 h3,QQ0,QxJ a4 a5 _ _ h4]
 cases q4:decide ((a4,a5)=KW (a2,a3))
 ·have:decide ((a4,a5)=((KW (a2,a3))))=false:=q4
  simp[this]
 have q4':decide ((a4,a5)=((KW (a2,a3))))=true:=q4
 simp only[q4',QQ3,QQ2,QRd,Qm3 a6 a7 a8 h8 h8',Qo0 a6 a7 a8 h8 h8',QQ0]
 cases q6:ZL (a6,a7,a8)
 ·simp
 simp only[QQ3,QQ2,QRd,Qv8 a9 a1 h9,Qv8 a10 a1 h10,QQ0]
 cases q9:Yj a9 a1
 ·simp
 cases q10:Yj a10 a1
 ·simp
 have l9:((a9.length:Nat):Int)=a1:=by simp[Yj]at q9;exact q9.1.2
 have l10:((a10.length:Nat):Int)=a1:=by simp[Yj]at q10;exact q10.1.2
 have i0:inb a0 a9.length=true:=by simp[inb];omega
 simp only[QQ3,QQ2,QRd,i0,QQ1,rd1]
 by_cases qg:a9.getD a0.toNat 0=Xs (a6,a7,a8)
 case neg=>simp only[qg,decide_false,QQ4,QQ1,Bool.and_false,QRm]
 simp only[qg,decide_true]
 cases hc:a10 with
 |nil=>rw[hc]at l10;simp at l10;omega
 |cons m l=>
  rw[<-hc]
  have hm:Ko w a10=some (Qg7 m l):=by rw[hc];exact QFF m l (by rw[<-hc];exact h10)
  have hall:(a10.all fun x=>decide (x<=Xs (a6,a7,a8)))=(decide (m<=Xs (a6,a7,a8))&&l.all fun x=>decide (x<=Xs (a6,a7,a8))):=by rw[hc];rfl
  simp only[QQ3,QQ2,QRd,hm,QQ0,Qx6,hall]
  cases decide (m<=Xs (a6,a7,a8))&&l.all fun x=>decide (x<=Xs (a6,a7,a8))
  ·simp
  simp only[QQ3,QQ2,QRd,QyF a11 a1 h11 h11',QQ0]
  cases YW a11 a1
  ·simp
  simp only[QQ3,QQ2,QRd,QA6 a0 a1 a2 a3 a4 a5 a6 a7 a8 a9 a10 a11 a12 a13 a14 a15 a16 a17 a18 q1 h14,QAj a0 a1 a2 a3 a4 a5 a6 a7 a8 a9 a10 a11 a12 a13 a14 a15 a16 a17 a18 h18,QQ0]
  cases inR a12 0 100000<;>cases inR a17 0 100000<;>cases inR a15 1 20<;>cases inR a16 1 50<;>cases inR a13 1 4<;>cases decide (((a14.length:Nat):Int)<=a13)<;>cases XO a0 a1 a15 [] a14<;>cases decide (((a18.length:Nat):Int)=5)<;>cases a18.all (ZO a17)<;>rfl
theorem Qy4 (a0:Int) (a1:Int) (a2:List Qg) (a3:List Qb) (a4:List Int) (a5:Int) (a6:Int) (a7:Int) (a8:List Qk) (a9:List Int) (a10:List Int) (a11:List (List Int)) (a12:Int) (a13:Int) (a14:List QB) (a15:Int) (a16:Int) (a17:Int) (a18:List QM) (h:smN a2 a3 a4 a8 a9 a10 a11 a14 a18):Jv w (a0,a1,a2,a3,a4,a5,a6,a7,a8,a9,a10,a11,a12,a13,a14,a15,a16,a17,a18)=some (Qhj a0 a1 a2 a3 a4 a5 a6 a7 a8 a9 a10 a11 a12 a13 a14 a15 a16 a17 a18):=by
 obtain⟨h2,h3,h4,h8,h8',h9,h10,h11,h11',h14,h18⟩:=h
 apply QrJ
 simp only[Qiw,XE,QQ0,Qhj]
 cases q1:inR a1 1 5
 ·simp
 have q1':=q1
 simp[inR]at q1'
 rw[w64 (n:=a1 - 1) (by omega) (by omega)]
 simp only[QQ3,QQ2,QRd]
 cases q0:inR a0 0 (a1 - 1)
 ·simp
 simp[inR]at q0
 simp only[QQ3,QQ2,QRd,Jt a2 a3 h2 h3,QQ0]
 cases q2:QL (a2,a3)
 ·simp
 simp only[QQ3,QQ2,QRd,QyA a2 a3 h2 h3,QQ0,QAc a4 a5 _ _ h4]
 cases q4:decide ((a4,a5)=KW (a2,a3))
 ·have:decide ((a4,a5)=((KW (a2,a3))))=false:=q4
  simp[this]
 have q4':decide ((a4,a5)=((KW (a2,a3))))=true:=q4
 simp only[q4',QQ3,QQ2,QRd,Qls a6 a7 a8 h8 h8',QmU a6 a7 a8 h8 h8',QQ0]
 cases q6:ZL (a6,a7,a8)
 ·simp
 simp only[QQ3,QQ2,QRd,Qtb a9 a1 h9,Qtb a10 a1 h10,QQ0]
 cases q9:Yj a9 a1
 ·simp
 cases q10:Yj a10 a1
 ·simp
 have l9:((a9.length:Nat):Int)=a1:=by simp[Yj]at q9;exact q9.1.2
 have l10:((a10.length:Nat):Int)=a1:=by simp[Yj]at q10;exact q10.1.2
 have i0:inb a0 a9.length=true:=by simp[inb];omega
 simp only[QQ3,QQ2,QRd,i0,QQ1,rd1]
 by_cases qg:a9.getD a0.toNat 0=Xs (a6,a7,a8)
 case neg=>simp only[qg,decide_false,QQ4,QQ1,Bool.and_false,QRm]
 simp only[qg,decide_true]
 simp only[QQ3,QQ2,QRd,QxK a11 a1 h11 h11',QQ0]
 cases qt:YW a11 a1
 ·simp
 have e0:=Q1 a10.length (fun i=>JW wl ((i:Int),a0,a1,a2,a3,a4,a5,a6,a7,a8,a9,a10,a11,a12,a13,a14,a15,a16,a17,a18)) (fun i=>if(a10.drop i).all (fun x=>decide (x<=Xs (a6,a7,a8)))then .inr (a0,a1,a2,a3,a4,a5,a6,a7,a8,a9,a10,a11,a12,a13,a14,a15,a16,a17,a18)else .inl false)
  (fun i hi ih=>by
    apply Qfx
    rw[Zj (fun x=>decide (x<=Xs (a6,a7,a8))) a10 _ _ hi]
    have hi':(i:Int)<a1:=by omega
    simp only[Qcn,dt hi',Ql hi,Qi hi,inc hi h10,QQ1,Qls a6 a7 a8 h8 h8',QQ0,ih]
    by_cases hx:a10[i]<=Xs (a6,a7,a8)
    ·simp only[df (show¬Xs (a6,a7,a8)<a10[i] by omega),QQ2,dt hx,QQ1]
    ·simp only[dt (show Xs (a6,a7,a8)<a10[i] by omega),QQ1,df hx,QQ2])
  (by
    apply Qfx
    have:¬((a10.length:Nat):Int)<a1:=by omega
    simp only[Qcn,df this,QQ2,Qr4])
 simp only[QQ6,QRg]at e0
 simp only[QQ3,QQ2,QRd,e0,QQ0]
 cases qa:a10.all fun x=>decide (x<=Xs (a6,a7,a8))
 ·simp[Qq]
 simp only[if_true,Qq,Sum.elim_inr,QRn]
 cases inR a12 0 100000
 ·simp
 cases inR a17 0 100000
 ·simp
 cases inR a13 1 4
 ·simp
 cases inR a15 1 20
 ·simp
 cases inR a16 1 50
 ·simp
 simp only[QQ3,QQ2,QRd,QRn]
 cases q5:decide (((a18.length:Nat):Int)=5)
 ·simp
 have l5:a18.length=5:=by simp at q5;omega
 have e2:=Q1 a18.length (fun i=>qe wl ((i:Int),a0,a1,a2,a3,a4,a5,a6,a7,a8,a9,a10,a11,a12,a13,a14,a15,a16,a17,a18)) (fun i=>if(a18.drop i).all (ZO a17)then .inr (a0,a1,a2,a3,a4,a5,a6,a7,a8,a9,a10,a11,a12,a13,a14,a15,a16,a17,a18)else .inl false)
  (fun i hi ih=>by
    apply QfD
    rw[Zj (ZO a17) a18 _ _ hi]
    have hi':(i:Int)<5:=by omega
    simp only[Qcf,dt hi',Ql hi,Qi hi,inc hi h18,QQ1,XE,QQ0,ih,ZO]
    cases inR a18[i].1 0 1000<;>cases inR a18[i].2.1 0 100000<;>cases inR a18[i].2.2 0 a17<;>simp)
  (by
    apply QfD
    have:¬((a18.length:Nat):Int)<5:=by omega
    simp only[Qcf,df this,QQ2,Qr4])
 simp only[QQ6,QRg]at e2
 simp only[QQ3,QQ2,e2,QQ0]
 cases a18.all (ZO a17)
 ·simp
 simp only[if_true,Sum.elim_inr,QyO a0 a1 a2 a3 a4 a5 a6 a7 a8 a9 a10 a11 a12 a13 a14 a15 a16 a17 a18 q1 h14,QQ0,QRn]
end Go.Proofs.YtiejfnbmficbmaaGreat.M
namespace Go.Proofs.YtiejfnbmficbmaaGreat.M
open Go Go.Eng Go.Proofs
set_option linter.unusedVariables false
theorem QCE (a b:Int):Qf6 w (a,b)=some (mxI a b):=by
 apply QtX
 simp only[QkC,mxI]
 by_cases h:a<b
 ·rw[df (by omega),QQ2,if_pos h]
 ·by_cases h2:b<a
  ·rw[dt h2,QQ1,if_neg h]
  ·rw[df h2,QQ2,if_neg h];congr 1;omega
def smS (s:Qk):Prop:=s.1.length<=maxLen/\s.2.length<=maxLen
end Go.Proofs.YtiejfnbmficbmaaGreat.M
namespace Go.Proofs.YtiejfnbmficbmaaGreat.M
open Go Go.Eng Go.Proofs
set_option linter.unusedVariables false
def ZB (r:Int×Int×Int×Int×ByteArray×Bool):XA:=(r.1,r.2.1,r.2.2.1,r.2.2.2.1,r.2.2.2.2.1)
def most (id:Int):XA->List Qk->XA
 |m,[]=>m
 |m,s::l=>bif (QS id s.1).2.2.2.2.2&&QL s then most id (KZ m (ZB (QS id s.1))) l else most id m l
theorem Qtp {e:XA}(h:XW e=true):1<=e.1:=by
 simp[XW,inR]at h;omega
theorem Qy6 {i:Nat}(h:i<5):decide ((i:Int)<5)=true:=by simp;omega
theorem Qzk {i:Nat}(h:i<5):wR ((i:Int)+1)=((i+1:Nat):Int):=by
 rw[w64 (by omega) (by omega)];omega
end Go.Proofs.YtiejfnbmficbmaaGreat.M
namespace Go.Proofs.YtiejfnbmficbmaaGreat.M
open Go Go.Eng Go.Proofs
set_option linter.unusedVariables false
def KO (x:Qd):Bool:=Qhj x.1 x.2.1 x.2.2.1 x.2.2.2.1 x.2.2.2.2.1 x.2.2.2.2.2.1 x.2.2.2.2.2.2.1 x.2.2.2.2.2.2.2.1 x.2.2.2.2.2.2.2.2.1 x.2.2.2.2.2.2.2.2.2.1 x.2.2.2.2.2.2.2.2.2.2.1 x.2.2.2.2.2.2.2.2.2.2.2.1 x.2.2.2.2.2.2.2.2.2.2.2.2.1 x.2.2.2.2.2.2.2.2.2.2.2.2.2.1 x.2.2.2.2.2.2.2.2.2.2.2.2.2.2.1 x.2.2.2.2.2.2.2.2.2.2.2.2.2.2.2.1 x.2.2.2.2.2.2.2.2.2.2.2.2.2.2.2.2.1 x.2.2.2.2.2.2.2.2.2.2.2.2.2.2.2.2.2.1 x.2.2.2.2.2.2.2.2.2.2.2.2.2.2.2.2.2.2
def QvX (x:Qd):Prop:=smN x.2.2.1 x.2.2.2.1 x.2.2.2.2.1 x.2.2.2.2.2.2.2.2.1 x.2.2.2.2.2.2.2.2.2.1 x.2.2.2.2.2.2.2.2.2.2.1 x.2.2.2.2.2.2.2.2.2.2.2.1 x.2.2.2.2.2.2.2.2.2.2.2.2.2.2.1 x.2.2.2.2.2.2.2.2.2.2.2.2.2.2.2.2.2.2
theorem QvV (x:Qd) (h:QvX x):Kz w x=some (KO x):=QA7 _ _ _ _ _ _ _ _ _ _ _ _ _ _ _ _ _ _ _ h
theorem Qtw (x:Qd) (h:QvX x):Jv w x=some (KO x):=Qy4 _ _ _ _ _ _ _ _ _ _ _ _ _ _ _ _ _ _ _ h
theorem QDi (x:Qd) (h:Qgs x):QvX x:=by
 simp only[Qgs,za,Qlw,Qjc,QkZ,Qgp,Qmy,QmG,QoS,QoD,QoG]at h
 obtain⟨⟨⟨h2,_⟩,h3⟩,h4,⟨h8,h8'⟩,h9,h10,⟨h11,h11'⟩,h14,h18⟩:=h
 exact⟨h2,h3,h4,h8,fun s hs=>⟨(h8' s hs).1.1,(h8' s hs).2⟩,h9,h10,h11,h11',h14,h18⟩
def Yq (n:Int):Nat->List Qd->Bool
 |_,[]=>true
 |i,x::l=>(KO x&&(decide (x.2.1=n)&&decide (x.1=(i:Int))))&&Yq n (i+1) l
def Qjo (n:Int) (p:Qo):Bool:=inR p.1 0 (n - 1)
def Qe3 (n:Int) (x:Qt):Bool:=inR x.1 0 (n - 1)&&QL x.2
def YP (ns:List Qd) (net:List Qo) (sd:List Qt):Bool:=inR ((ns.length:Nat):Int) 1 5&&(!decide (12<((net.length:Nat):Int))&&(!decide (40<((sd.length:Nat):Int))&&(Yq (ns.length:Nat) 0 ns&&(net.all (Qjo (ns.length:Nat))&&sd.all (Qe3 (ns.length:Nat))))))
def smW (ns:List Qd) (net:List Qo) (sd:List Qt):Prop:=ns.length<=maxLen/\(∀x∈ns,QvX x)/\net.length<=maxLen/\(∀p∈net,p.2.1.length<=maxLen)/\sd.length<=maxLen/\∀x∈sd,x.2.1.length<=maxLen/\x.2.2.length<=maxLen
theorem QCm {ns:List Qd}{net:List Qo}{sd:List Qt}(h:Qci (ns,net,sd)):smW ns net sd:=by
 simp only[Qci,Qpg,Qpo,QoR]at h
 refine⟨h.1.1,fun x hx=>QDi x (h.1.2 x hx),h.2.1.1,fun p hp=> ?_,h.2.2.1,fun x hx=> ?_⟩
 ·have:=h.2.1.2 p hp
  simpa only[Qkm,Qo8]using this
 ·have:=h.2.2.2 x hx
  simp only[QkX,za,Qlw,Qjc]at this
  exact⟨this.1.1,this.2⟩
theorem Qn6 {R:Type}(n:Int) (l:List Qd) (x y:R) {i:Nat}(hi:i<l.length):(if Yq n i (l.drop i)then x else y)=(bif KO l[i]then(bif decide (l[i].2.1=n)then(bif decide (l[i].1=(i:Int))then(if Yq n (i+1) (l.drop (i+1))then x else y)else y)else y)else y):=by
 rw[QRa hi,Yq]
 cases KO l[i]<;>cases decide (l[i].2.1=n)<;>cases decide (l[i].1=(i:Int))<;>simp
theorem Qp5 (ns:List Qd) (net:List Qo) (sd:List Qt) (i:Int) (h:ns.length<=maxLen):zi w (ns,net,sd,i)=some (inR i 0 (((ns.length:Nat):Int) - 1)):=by
 apply Qqi
 simp only[maxLen]at h
 have:wR (((ns.length:Nat):Int) - 1)=((ns.length:Nat):Int) - 1:=w64 (by omega) (by omega)
 simp only[Qhn,this,Xd,QQ0]
theorem Qvm {A S R:Type}(c:Bool) (s:S) (r:A) (f:A->Option R) (g:S->Option R):Qq (if c=true then Sum.inr s else Sum.inl r) f g=bif c then g s else f r:=by cases c<;>rfl
theorem Qz0 (ns:List Qd) (net:List Qo) (sd:List Qt) (h:smW ns net sd):QaQ w (ns,net,sd)=some (YP ns net sd):=by
 apply Qpx
 obtain⟨h1,h2,h3,h4,h5,h6⟩:=h
 have e1:=Q1 ns.length (fun i=>Jl wl (ns,((ns.length:Nat):Int),(i:Int),ns,net,sd)) (fun i=>if Yq (ns.length:Nat) i (ns.drop i)then .inr (ns,net,sd)else .inl false)
  (fun i hi ih=>by
    apply QeJ
    simp only[Qa7,ilt hi,Ql hi,Qi hi,inc hi h1,QQ1,ih,QvV _ (h2 _ (QRf hi)),QQ0,Qn6 _ _ _ _ hi]
    cases KO ns[i]<;>cases decide (ns[i].2.1=((ns.length:Nat):Int))<;>cases decide (ns[i].1=(i:Int))<;>simp)
  (by
    apply QeJ
    simp[Qa7,Yq])
 have e2:=Q1 net.length (fun i=>VH wl (net,((net.length:Nat):Int),(i:Int),ns,net,sd)) (fun i=>if(net.drop i).all (Qjo (ns.length:Nat))then .inr (ns,net,sd)else .inl false)
  (fun i hi ih=>by
    apply Qe0
    simp only[j0,ilt hi,Ql hi,Qi hi,inc hi h3,QQ1,ih,Qp5 _ _ _ _ h1,QQ0,Zj _ _ _ _ hi,Qjo]
    cases inR net[i].1 0 (((ns.length:Nat):Int) - 1)<;>simp)
  (by
    apply Qe0
    simp[j0])
 have e3:=Q1 sd.length (fun i=>Je wl (sd,((sd.length:Nat):Int),(i:Int),ns,net,sd)) (fun i=>if(sd.drop i).all (Qe3 (ns.length:Nat))then .inr ()else .inl false)
  (fun i hi ih=>by
    apply Qeq
    have hs:=h6 _ (QRf hi)
    simp only[Qau,ilt hi,Ql hi,Qi hi,inc hi h5,QQ1,ih,Qp5 _ _ _ _ h1,Ku _ _ hs.1 hs.2,QQ0,Zj _ _ _ _ hi,Qe3]
    cases inR sd[i].1 0 (((ns.length:Nat):Int) - 1)<;>cases QL sd[i].2<;>simp)
  (by
    apply Qeq
    simp[Qau])
 simp only[QQ6,QRg]at e1 e2 e3
 simp only[QhF,Xd,e1,e2,e3,QQ0,Qvm,YP]
 cases inR ((ns.length:Nat):Int) 1 5<;>cases decide (12<((net.length:Nat):Int))<;>cases decide (40<((sd.length:Nat):Int))<;>cases Yq (ns.length:Nat) 0 ns<;>cases net.all (Qjo (ns.length:Nat))<;>cases sd.all (Qe3 (ns.length:Nat))<;>rfl
theorem Qxa (ns:List Qd) (net:List Qo) (sd:List Qt) (h:smW ns net sd):vq w (ns,net,sd)=some (YP ns net sd):=by
 apply Qqr
 obtain⟨h1,h2,h3,h4,h5,h6⟩:=h
 have hw:wR (((ns.length:Nat):Int) - 1)=((ns.length:Nat):Int) - 1:=by simp only[maxLen]at h1;exact w64 (by omega) (by omega)
 have e1:=Q1 ns.length (fun i=>Jq wl (((ns.length:Nat):Int),(i:Int),ns,net,sd)) (fun i=>if Yq (ns.length:Nat) i (ns.drop i)then .inr (((ns.length:Nat):Int),ns,net,sd)else .inl false)
  (fun i hi ih=>by
    apply QdO
    simp only[j6,ilt hi,Ql hi,Qi hi,inc hi h1,QQ1,ih,Qtw _ (h2 _ (QRf hi)),QQ0,Qn6 _ _ _ _ hi]
    cases KO ns[i]<;>cases decide (ns[i].2.1=((ns.length:Nat):Int))<;>cases decide (ns[i].1=(i:Int))<;>simp)
  (by
    apply QdO
    simp[j6,Yq])
 have e2:=Q1 net.length (fun i=>V5 wl (((ns.length:Nat):Int),(i:Int),ns,net,sd)) (fun i=>if(net.drop i).all (Qjo (ns.length:Nat))then .inr (((ns.length:Nat):Int),ns,net,sd)else .inl false)
  (fun i hi ih=>by
    apply Qem
    simp only[Qay,ilt hi,Ql hi,Qi hi,inc hi h3,QQ1,ih,hw,XE,QQ0,Zj _ _ _ _ hi,Qjo]
    cases inR net[i].1 0 (((ns.length:Nat):Int) - 1)<;>simp)
  (by
    apply Qem
    simp[Qay])
 have e3:=Q1 sd.length (fun i=>Vu wl (((ns.length:Nat):Int),(i:Int),ns,net,sd)) (fun i=>if(sd.drop i).all (Qe3 (ns.length:Nat))then .inr ()else .inl false)
  (fun i hi ih=>by
    apply QdL
    have hs:=h6 _ (QRf hi)
    simp only[Qbd,ilt hi,Ql hi,Qi hi,inc hi h5,QQ1,ih,hw,XE,Jt _ _ hs.1 hs.2,QQ0,Zj _ _ _ _ hi,Qe3]
    cases inR sd[i].1 0 (((ns.length:Nat):Int) - 1)<;>cases QL sd[i].2<;>simp)
  (by
    apply QdL
    simp[Qbd])
 simp only[QQ6,QRg]at e1 e2 e3
 simp only[Qg0,XE,e1,e2,e3,QQ0,Qvm,YP]
 cases inR ((ns.length:Nat):Int) 1 5<;>cases decide (12<((net.length:Nat):Int))<;>cases decide (40<((sd.length:Nat):Int))<;>cases Yq (ns.length:Nat) 0 ns<;>cases net.all (Qjo (ns.length:Nat))<;>cases sd.all (Qe3 (ns.length:Nat))<;>rfl
end Go.Proofs.YtiejfnbmficbmaaGreat.M
namespace Go.Proofs.YtiejfnbmficbmaaGreat.M
open Go Go.Eng Go.Proofs
set_option linter.unusedVariables false
theorem Qoy (n:Int):(off:Nat)->(l:List Qd)->Yq n off l=true->(i:Nat)->(h:i<l.length)->KO l[i]=true/\l[i].2.1=n/\l[i].1=((off+i:Nat):Int)
 |off,x::l,h,0,_=>by
  simp only[Yq,QQ5,QRu]at h
  simpa using⟨h.1.1,h.1.2.1,h.1.2.2⟩
 |off,x::l,h,i+1,hi=>by
  simp only[Yq,QQ5,QRu]at h
  have:=Qoy n (off+1) l h.2 i (by simpa using hi)
  simp only[List.getElem_cons_succ]
  refine⟨this.1,this.2.1, ?_⟩
  rw[this.2.2];congr 1;omega
structure WOk (ns:List Qd) (net:List Qo) (sd:List Qt):Prop where
 n1:1<=ns.length
 n5:ns.length<=5
 net12:net.length<=12
 sd40:sd.length<=40
 nodes:Yq (ns.length:Nat) 0 ns=true
 nets:∀p∈net,inR p.1 0 ((ns.length:Nat) - 1)=true
 sds:∀x∈sd,inR x.1 0 ((ns.length:Nat) - 1)=true/\QL x.2=true
theorem Qna {ns:List Qd}{net:List Qo}{sd:List Qt}(h:YP ns net sd=true):WOk ns net sd:=by
 simp only[YP,QQ5,QRt,Qe3,Qjo,Bool.not_eq_true',decide_eq_false_iff_not,inR,QRu]at h
 obtain⟨h1,h2,h3,h4,h5,h6⟩:=h
 refine⟨by omega,by omega,by omega,by omega,h4,fun p hp=> ?_,fun x hx=> ?_⟩
 ·simp only[inR,QQ5,QRu];exact h5 p hp
 ·simp only[inR,QQ5,QRu];exact h6 x hx
theorem WOk.node {ns:List Qd}{net:List Qo}{sd:List Qt}(h:WOk ns net sd) {i:Nat}(hi:i<ns.length):KO ns[i]=true/\ns[i].2.1=ns.length/\ns[i].1=(i:Int):=by
 have:=Qoy _ 0 ns h.nodes i hi
 simpa using this
theorem Qgo {p:Int}{n:Nat}(h:inR p 0 ((n:Int) - 1)=true):∃i:Nat,p=(i:Int)/\i<n:=by
 simp only[inR,QQ5,QRu]at h
 exact⟨p.toNat,by omega,by omega⟩
def QFQ {α:Type}(c:α->Int):Int->List α->Int
 |k,[]=>k
 |k,x::l=>QFQ c (wR (k+c x)) l
def kept (ns:List Qd) (net:List Qo) (sd:List Qt):Int:=bif YP ns net sd then QFQ (fun x:Qd=>((x.2.2.2.2.2.2.2.2.1.length:Nat):Int)) 0 ns else 0
def two (ns:List Qd) (net:List Qo) (sd:List Qt) (p q:Int):Bool:=YP ns net sd&&(inR p 0 ((ns.length:Nat) - 1)&&(inR q 0 ((ns.length:Nat) - 1)&& !decide (p=q)))
def nodeAt (ns:List Qd) (p:Int):Qd:=rd1 QO ns p
theorem Qq8 {ns:List Qd}{i:Nat}(h:i<ns.length):nodeAt ns (i:Int)=ns[i]:=Qi h
def lag (ns:List Qd) (net:List Qo) (sd:List Qt) (p q:Int):Int:=bif two ns net sd p q then wR (Xs ((nodeAt ns p).2.2.2.2.2.2.1,(nodeAt ns p).2.2.2.2.2.2.2.1,(nodeAt ns p).2.2.2.2.2.2.2.2.1) - rd1 0 (nodeAt ns p).2.2.2.2.2.2.2.2.2.2.1 q)else -1
def behind (ns:List Qd) (net:List Qo) (sd:List Qt) (p q:Int):Bool:=bif decide (0<=lag ns net sd p q)then decide ((((nodeAt ns p).2.2.2.2.2.2.2.2.1.length:Nat):Int)<lag ns net sd p q)else false
def QnD (ns:List Qd) (net:List Qo) (sd:List Qt) (t:Int):Qb:=bif YP ns net sd then(bif decide (((ns.length:Nat):Int)<2)then(-1, -1)else bif decide (t<0)then(-1, -1)else((Int.tmod t (((List.length ns):Nat):Int)),(Int.tmod (wR ((wR ((Int.tmod t (((List.length ns):Nat):Int))+1))+(Int.tmod (wR (Int.tdiv t (((List.length ns):Nat):Int))) (wR ((((List.length ns):Nat):Int) - 1))))) (((List.length ns):Nat):Int))))else(-1, -1)
end Go.Proofs.YtiejfnbmficbmaaGreat.M
namespace Go.Proofs.YtiejfnbmficbmaaGreat.M
open Go Go.Eng Go.Proofs
set_option linter.unusedVariables false
def live (x:Qg):Bool:=decide (x.2.2.1=0)
def view (s:Qk):List Qg:=bif QL s then s.1.filter live else []
def lookup (s:Qk) (id:Int):Int×Int×Int×Int×ByteArray×Bool:=QS id (view s)
theorem QtE (fl:List Qb):(p:Int)->(l:List Qg)->Xi fl p l=true->Qe Xt l<=8*l.length
 |_,[],_=>by simp[Qe]
 |p,x::l,h=>by
  have hx:=QmC fl p (x::l) h x (by simp)
  simp only[Xi,QQ5]at h
  have:=QtE fl _ l h.2
  simp only[Qe,Xt,Va,List.length_cons];omega
end Go.Proofs.YtiejfnbmficbmaaGreat.M
namespace Go.Proofs.YtiejfnbmficbmaaGreat.M
open Go Go.Eng Go.Proofs
set_option linter.unusedVariables false
theorem Qhq (a:List Int) (ha:a.length<=4294967296):Yg w a=some a:=by
 apply QoX
 have hf:fits a.length 8=true:=Qy (by omega)
 simp[QfN,hf]
end Go.Proofs.YtiejfnbmficbmaaGreat.M
namespace Go.Proofs.YtiejfnbmficbmaaGreat.M
open Go Go.Eng Go.Proofs
set_option linter.unusedVariables false
end Go.Proofs.YtiejfnbmficbmaaGreat.M
namespace Go.Proofs.YtiejfnbmficbmaaGreat.M
open Go Go.Eng Go.Proofs
set_option linter.unusedVariables false
theorem QaO (s:Qk) (h:QD s<=4294967296):ZF w s=some s:=by
 obtain⟨a,b⟩:=s
 apply QnP
 simp only[QD,XC,Xv]at h
 simp only[QdA,List.length_nil,QRe,QRo,Qy (show a.length*56<=140737488351232 by omega),Qy (show b.length*16<=140737488351232 by omega),QQ1]
theorem QjP (s:Qk) (h:QD s<=4294967296):KE w s=some s:=by
 obtain⟨a,b⟩:=s
 apply QrH
 simp only[QD,XC,Xv]at h
 simp only[QiJ,List.length_nil,QRe,QRo,Qy (show a.length*56<=140737488351232 by omega),Qy (show b.length*16<=140737488351232 by omega),QQ1]
theorem Qxe (x:XY) (h:Zg x<=4294967296):yN w x=some x:=by
 obtain⟨a,b⟩:=x
 apply QoH
 simp only[Zg,QR]at h
 simp only[QfI,Qhq a (by omega),QQ0]
theorem QAV (x:XY) (h:Zg x<=4294967296):Qdf w x=some x:=by
 obtain⟨a,b⟩:=x
 apply QrU
 simp only[Zg,QR]at h
 simp only[Qjn,List.length_nil,QRe,QRo,Qy (show a.length*8<=140737488351232 by omega),QQ1]
theorem Qz6 (x:Zm) (h:Zy x<=4294967296):Qab w x=some x:=by
 obtain⟨a,b,l⟩:=x
 apply Qry
 simp only[Zy,XF]at h
 have e:=KC l (fun i out=>Jj wl (l,((l.length:Nat):Int),(i:Int),a,b,out)) (fun out=>(a,b,out))
  (fun i hi out r ho hk=>by
    apply QdV
    have:=Xp QD l i hi
    simp only[Qal,ilt hi,Ql hi,Qi hi,inc hi (show l.length<=maxLen by simp only[maxLen];omega),QQ1,QaO _ (show QD l[i]<=4294967296 by omega),QQ0]
    rw[Qy (by simp[ho];omega)];exact hk)
  (fun out ho=>by
    apply QdV
    simp only[Qal,Qs,QQ2])
 simp only[QQ6]at e
 simp only[Qim,e,QQ0]
theorem QAP (x:Zm) (h:Zy x<=4294967296):QcN w x=some x:=by
 obtain⟨a,b,l⟩:=x
 apply QsC
 simp only[Zy,XF]at h
 have e:=KC l (fun i out=>ql wl ((i:Int),a,b,l,a,b,out)) (fun out=>(a,b,out))
  (fun i hi out r ho hk=>by
    apply Qfr
    have:=Xp QD l i hi
    simp only[Qck,ilt hi,Ql hi,Qi hi,inc hi (show l.length<=maxLen by simp only[maxLen];omega),QQ1,QjP _ (show QD l[i]<=4294967296 by omega),QQ0]
    rw[Qy (by simp[ho];omega)];exact hk)
  (fun out ho=>by
    apply Qfr
    simp only[Qck,Qs,QQ2])
 simp only[QQ6]at e
 simp only[Qjt,e,QQ0]
theorem Qvx (l:List (List Int)) (h:XL l<=4294967296):zB w l=some l:=by
 apply QnV
 simp only[XL]at h
 have e:=KC l (fun i out=>Kq wl (l,((l.length:Nat):Int),(i:Int),out)) (fun out=>out)
  (fun i hi out r ho hk=>by
    apply Qbr
    have:=Xp QR l i hi
    simp only[QR]at this
    simp only[yf,ilt hi,Ql hi,Qi hi,inc hi (show l.length<=maxLen by simp only[maxLen];omega),QQ1,Qhq l[i] (by omega),QQ0]
    rw[Qy (by simp[ho];omega)];exact hk)
  (fun out ho=>by
    apply Qbr
    simp only[yf,Qs,QQ2])
 simp only[QQ6]at e
 simp only[QeP,e,QQ0]
theorem QBM (l:List (List Int)) (h:XL l<=4294967296):QcR w l=some l:=by
 apply QrQ
 simp only[XL]at h
 have e:=KC l (fun i out=>JV wl (l,(i:Int),out)) (fun out=>out)
  (fun i hi out r ho hk=>by
    apply Qfo
    have:=Xp QR l i hi
    simp only[QR]at this
    simp only[Qcs,ilt hi,Ql hi,Qi hi,inc hi (show l.length<=maxLen by simp only[maxLen];omega),QQ1,List.length_nil,QRe,QRo,Qy (show l[i].length*8<=140737488351232 by omega)]
    rw[Qy (by simp[ho];omega)];exact hk)
  (fun out ho=>by
    apply Qfo
    simp only[Qcs,Qs,QQ2])
 simp only[QQ6]at e
 simp only[QiI,e,QQ0]
theorem Qtv {x:Qd}(h:Q2 x<=4294967296):x.2.2.2.2.2.2.2.2.2.1.length<=4294967296/\x.2.2.2.2.2.2.2.2.2.2.1.length<=4294967296/\x.2.2.2.2.2.2.2.2.2.2.2.2.2.2.1.length<=4294967296/\x.2.2.2.2.2.2.2.2.2.2.2.2.2.2.2.2.2.2.length<=4294967296:=by
 simp only[Q2,QR,Zt,Zv]at h
 omega
theorem Qgk {x:Qd}(h:Q2 x<=4294967296):QD (x.2.2.1,x.2.2.2.1)<=4294967296/\Zg (x.2.2.2.2.1,x.2.2.2.2.2.1)<=4294967296/\Zy (x.2.2.2.2.2.2.1,x.2.2.2.2.2.2.2.1,x.2.2.2.2.2.2.2.2.1)<=4294967296/\XL x.2.2.2.2.2.2.2.2.2.2.2.1<=4294967296:=by
 simp only[Q2]at h
 omega
theorem QwU (x:Qd) (h:Q2 x<=4294967296):yV w x=some x:=by
 have hl:=Qtv h
 have hp:=Qgk h
 obtain⟨a0,a1,a2,a3,a4,a5,a6,a7,a8,a9,a10,a11,a12,a13,a14,a15,a16,a17,a18⟩:=x
 apply QoL
 obtain⟨h9,h10,h14,h18⟩:=hl
 obtain⟨h2,h4,h6,h11⟩:=hp
 simp only at h9 h10 h14 h18 h2 h4 h6 h11
 simp only[QfF,QaO (a2,a3) h2,Qxe (a4,a5) h4,Qz6 (a6,a7,a8) h6,Qvx a11 h11,Qhq a9 h9,Qhq a10 h10,Qy (show a14.length*32<=140737488351232 by omega),Qy (show a18.length*24<=140737488351232 by omega),List.length_nil,QRe,QRo,QQ0,QQ1]
theorem Qy1 (x:Qd) (h:Q2 x<=4294967296):QaD w x=some x:=by
 have hl:=Qtv h
 have hp:=Qgk h
 obtain⟨a0,a1,a2,a3,a4,a5,a6,a7,a8,a9,a10,a11,a12,a13,a14,a15,a16,a17,a18⟩:=x
 apply Qqp
 obtain⟨h9,h10,h14,h18⟩:=hl
 obtain⟨h2,h4,h6,h11⟩:=hp
 simp only at h9 h10 h14 h18 h2 h4 h6 h11
 simp only[QhH,QjP (a2,a3) h2,QAV (a4,a5) h4,QAP (a6,a7,a8) h6,QBM a11 h11,Qy (show a9.length*8<=140737488351232 by omega),Qy (show a10.length*8<=140737488351232 by omega),Qy (show a14.length*32<=140737488351232 by omega),Qy (show a18.length*24<=140737488351232 by omega),List.length_nil,QRe,QRo,QQ0,QQ1]
theorem QCo {α:Type}(l:List α) (k:Int) (h0:0<=k) (h:k<=(l.length:Int)):List.take (Int.toNat ((l.length:Int) - k)) (List.drop (Int.toNat k) l)=l.drop k.toNat:=by
 rw[List.take_of_length_le]
 rw[List.length_drop];omega
theorem Qw1 (p:Qo) (h:Q6 p<=4294967296):yT w p=some p:=by
 obtain⟨a,b,c⟩:=p
 apply Qo7
 simp only[Q6,X2]at h
 have:=KG [b] (by simp[maxLen]) (by simp;omega)
 simp only[Qfn,this,QQ0];simp
theorem QzQ (p:Qo) (h:Q6 p<=4294967296):QaN w p=some p:=by
 obtain⟨a,b,c⟩:=p
 apply QpJ
 simp only[Q6,X2]at h
 simp only[Qhm,List.length_nil,QRe,QRo,Qy (show b.length*1<=140737488351232 by omega),QQ1]
theorem Qvn (ns:List Qd) (net:List Qo) (sd:List Qt) (h:Xa (ns,net,sd)<=4294967296):zD w (ns,net,sd)=some (ns,net,sd):=by
 apply QnK
 simp only[Xa,XJ,Xk,XK]at h
 have e0:=KC ns (fun i out=>Kl wl (ns,((ns.length:Nat):Int),(i:Int),ns,net,sd,out,[],[])) (fun out=>(ns,net,sd,out,[],[]))
  (fun i hi out r ho hk=>by
    apply QbK
    have:=Xp Q2 ns i hi
    simp only[yu,ilt hi,Ql hi,Qi hi,inc hi (show ns.length<=maxLen by simp only[maxLen];omega),QQ1,QwU _ (show Q2 ns[i]<=4294967296 by omega),QQ0]
    rw[Qy (by simp[ho];omega)];exact hk)
  (fun out ho=>by
    apply QbK
    simp only[yu,Qs,QQ2])
 have e2:=KC net (fun i out=>Km wl (net,((net.length:Nat):Int),(i:Int),ns,net,sd,ns,out,[])) (fun out=>(ns,net,sd,ns,out,[]))
  (fun i hi out r ho hk=>by
    apply vf
    have:=Xp Q6 net i hi
    simp only[yi,ilt hi,Ql hi,Qi hi,inc hi (show net.length<=maxLen by simp only[maxLen];omega),QQ1,Qw1 _ (show Q6 net[i]<=4294967296 by omega),QQ0]
    rw[Qy (by simp[ho];omega)];exact hk)
  (fun out ho=>by
    apply vf
    simp only[yi,Qs,QQ2])
 have e4:=KC sd (fun i out=>Kk wl (sd,((sd.length:Nat):Int),(i:Int),ns,net,out)) (fun out=>(ns,net,out))
  (fun i hi out r ho hk=>by
    apply Qa3
    have:=Xp Xc sd i hi
    have:QD sd[i].2<=4294967296:=by simp only[Xc]at this;exact Nat.le_trans this (by omega)
    simp only[zY,ilt hi,Ql hi,Qi hi,inc hi (show sd.length<=maxLen by simp only[maxLen];omega),QQ1,QaO _ this,QQ0]
    rw[Qy (by simp[ho];omega)];exact hk)
  (fun out ho=>by
    apply Qa3
    simp only[zY,Qs,QQ2])
 simp only[QQ6]at e0 e2 e4
 simp only[QeR,e0,e2,e4,QQ0]
theorem Qy8 (ns:List Qd) (net:List Qo) (sd:List Qt) (h:Xa (ns,net,sd)<=4294967296):vZ w (ns,net,sd)=some (ns,net,sd):=by
 apply Qrj
 simp only[Xa,XJ,Xk,XK]at h
 have e0:=KC ns (fun i out=>VI wl ((i:Int),ns,net,sd,out,[],[])) (fun out=>(ns,net,sd,out,[],[]))
  (fun i hi out r ho hk=>by
    apply QeT
    have:=Xp Q2 ns i hi
    simp only[QaY,ilt hi,Ql hi,Qi hi,inc hi (show ns.length<=maxLen by simp only[maxLen];omega),QQ1,Qy1 _ (show Q2 ns[i]<=4294967296 by omega),QQ0]
    rw[Qy (by simp[ho];omega)];exact hk)
  (fun out ho=>by
    apply QeT
    simp only[QaY,Qs,QQ2])
 have e2:=KC net (fun i out=>Ja wl ((i:Int),ns,net,sd,ns,out,[])) (fun out=>(ns,net,sd,ns,out,[]))
  (fun i hi out r ho hk=>by
    apply QdM
    have:=Xp Q6 net i hi
    simp only[vk,ilt hi,Ql hi,Qi hi,inc hi (show net.length<=maxLen by simp only[maxLen];omega),QQ1,QzQ _ (show Q6 net[i]<=4294967296 by omega),QQ0]
    rw[Qy (by simp[ho];omega)];exact hk)
  (fun out ho=>by
    apply QdM
    simp only[vk,Qs,QQ2])
 have e4:=KC sd (fun i out=>VM wl ((i:Int),ns,net,sd,ns,net,out)) (fun out=>(ns,net,out))
  (fun i hi out r ho hk=>by
    apply Qd9
    have:=Xp Xc sd i hi
    have:QD sd[i].2<=4294967296:=by simp only[Xc]at this;exact Nat.le_trans this (by omega)
    simp only[vC,ilt hi,Ql hi,Qi hi,inc hi (show sd.length<=maxLen by simp only[maxLen];omega),QQ1,QjP _ this,QQ0]
    rw[Qy (by simp[ho];omega)];exact hk)
  (fun out ho=>by
    apply Qd9
    simp only[vC,Qs,QQ2])
 simp only[QQ6]at e0 e2 e4
 simp only[Qik,e0,e2,e4,QQ0]
end Go.Proofs.YtiejfnbmficbmaaGreat.M
namespace Go.Proofs.YtiejfnbmficbmaaGreat.M
open Go Go.Eng Go.Proofs
set_option linter.unusedVariables false
def xO (a b:Qk) (id:Int):XA:=KZ (ZB (QS id a.1)) (ZB (QS id b.1))
def XV (a b:Qk) (id:Int):Int:=mxI (QZ id a.2) (QZ id b.2)
def Qky (a b:Qk) (i:Nat):List Qg:=bif decide (XV a b (i:Int)<(xO a b (i:Int)).1)then [((i:Int),xO a b (i:Int))]else []
def zc (a b:Qk) (i:Nat):List Qb:=bif decide (0<XV a b (i:Int))then [((i:Int),XV a b (i:Int))]else []
def join (a b:Qk):Qk:=((List.range' 0 5).flatMap (Qky a b),(List.range' 0 5).flatMap (zc a b))
theorem Qqc (id:Int):(p:Int)->(l:List Qb)->QN p l=true->0<=QZ id l/\QZ id l<=1000
 |_,[],_=>by simp[QZ]
 |p,x::l,h=>by
  simp only[QN,QQ5]at h
  have ih:=Qqc id _ l h.2
  have hx:=h.1.1.2
  simp only[inR,QQ5,QRu]at hx
  simp only[QZ]
  split
  ·omega
  ·exact ih
theorem Qs7 (fl:List Qb) (id:Int):(p:Int)->(l:List Qg)->Xi fl p l=true->(XW (ZB (QS id l))=true/\(QS id l).2.2.2.2.2=true)\/(ZB (QS id l)=(0,0,0,0,ByteArray.empty)/\(QS id l).2.2.2.2.2=false)
 |_,[],_=>Or.inr ⟨rfl,rfl⟩
 |p,x::l,h=>by
  simp only[Xi,QQ5]at h
  have ih:=Qs7 fl id _ l h.2
  simp only[QS]
  split
  ·exact Or.inl ⟨h.1.1.1.2,rfl⟩
  ·exact ih
theorem Qu4 {s:Qk}(h:QL s=true) (id:Int):0<=QZ id s.2/\QZ id s.2<=1000:=by
 simp only[QL,QQ5]at h
 exact Qqc id _ _ h.1
theorem QgO {s:Qk}(h:QL s=true) (id:Int):(XW (ZB (QS id s.1))=true/\(QS id s.1).2.2.2.2.2=true)\/(ZB (QS id s.1)=(0,0,0,0,ByteArray.empty)/\(QS id s.1).2.2.2.2.2=false):=by
 simp only[QL,QQ5]at h
 exact Qs7 _ id _ _ h.2
theorem Qtj (x y:XA):KZ x y=x\/KZ x y=y:=by
 unfold KZ;split
 ·exact Or.inr rfl
 ·exact Or.inl rfl
theorem QDE {a b:Qk}(ha:QL a=true) (hb:QL b=true) (id:Int):XW (xO a b id)=true\/xO a b id=(0,0,0,0,ByteArray.empty):=by
 unfold xO
 rcases Qtj (ZB (QS id a.1)) (ZB (QS id b.1))with e|e
 ·rw[e];rcases QgO ha id with h|h
  ·exact Or.inl h.1
  ·exact Or.inr h.1
 ·rw[e];rcases QgO hb id with h|h
  ·exact Or.inl h.1
  ·exact Or.inr h.1
theorem Qiu {a b:Qk}(ha:QL a=true) (hb:QL b=true) (id:Int):0<=XV a b id/\XV a b id<=1000:=by
 have h1:=Qu4 ha id
 have h2:=Qu4 hb id
 unfold XV mxI;split<;>omega
theorem qT (f:Nat->List Qb) (hf:∀i,i<5->f i=[]\/∃v,f i=[((i:Int),v)]/\inR v 1 1000=true):(n i:Nat)->(p:Int)->i+n<=5->p<(i:Int)->QN p ((List.range' i n).flatMap f)=true
 |0,_,_,_,_=>rfl
 |n+1,i,p,hn,hp=>by
  rw[List.range'_succ,List.flatMap_cons]
  rcases hf i (by omega)with e|⟨v,e,hv⟩
  ·rw[e];exact qT f hf n (i+1) p (by omega) (by omega)
  ·rw[e,List.singleton_append]
   simp only[QN,QQ5,hv,dt hp,qT f hf n (i+1) (i:Int) (by omega) (by omega),and_true]
   simp[inR];omega
theorem Qia (fl:List Qb) (f:Nat->List Qg) (hf:∀i,i<5->f i=[]\/∃e,f i=[((i:Int),e)]/\XW e=true/\QZ (i:Int) fl<e.1):(n i:Nat)->(p:Int)->i+n<=5->p<(i:Int)->Xi fl p ((List.range' i n).flatMap f)=true
 |0,_,_,_,_=>rfl
 |n+1,i,p,hn,hp=>by
  rw[List.range'_succ,List.flatMap_cons]
  rcases hf i (by omega)with e|⟨v,e,hv,hl⟩
  ·rw[e];exact Qia fl f hf n (i+1) p (by omega) (by omega)
  ·rw[e,List.singleton_append]
   simp only[Xi,QQ5,hv,dt hp,dt hl,Qia fl f hf n (i+1) (i:Int) (by omega) (by omega),and_true]
   simp[inR];omega
theorem QxP (id:Int) (l m:List Qb) (h:∀x∈l,x.1≠id):QZ id (l++m)=QZ id m:=by
 induction l with
 |nil=>rfl
 |cons x l ih=>rw[QRv,QZ,if_neg (h x (by simp)),ih fun y hy=>h y (by simp[hy])]
theorem QhG (f:Nat->List Qb) (hf:∀i,f i=[]\/∃v,f i=[((i:Int),v)]):(n i k:Nat)->QZ (k:Int) ((List.range' i n).flatMap f)=if i<=k/\k<i+n then QZ (k:Int) (f k)else 0
 |0,i,k=>by rw[if_neg (by omega)];rfl
 |n+1,i,k=>by
  rw[List.range'_succ,List.flatMap_cons]
  by_cases hk:i=k
  ·subst hk
   rw[if_pos (by omega)]
   rcases hf i with e|⟨v,e⟩
   ·rw[e,QRe,QhG f hf n (i+1) i,if_neg (by omega)];rfl
   ·rw[e,List.singleton_append,QZ,if_pos rfl,QZ,if_pos rfl]
  ·rw[QxP,QhG f hf n (i+1) k]
   ·by_cases h:i+1<=k/\k<i+1+n
    ·rw[if_pos h,if_pos (by omega)]
    ·rw[if_neg h,if_neg (by omega)]
   ·intro x hx
    rcases hf i with e|⟨v,e⟩
    ·rw[e]at hx;simp at hx
    ·rw[e]at hx
     obtain rfl:x=((i:Int),v):=by simpa using hx
     simp;omega
theorem QBB (a b:Qk) (i:Nat):zc a b i=[]\/∃v,zc a b i=[((i:Int),v)]:=by
 unfold zc;cases decide (0<XV a b (i:Int))
 ·exact Or.inl rfl
 ·exact Or.inr ⟨_,rfl⟩
theorem Qv0 {a b:Qk}(ha:QL a=true) (hb:QL b=true) {k:Nat}(hk:k<5):QZ (k:Int) (join a b).2=XV a b (k:Int):=by
 have h:=Qiu ha hb (k:Int)
 show QZ (k:Int) ((List.range' 0 5).flatMap (zc a b))=_
 rw[QhG _ (QBB a b),if_pos (by omega)]
 unfold zc
 by_cases h0:0<XV a b (k:Int)
 ·simp[h0,QZ]
 ·simp[h0,QZ];omega
theorem QBG {e:XA}(h:XW e=true\/e=(0,0,0,0,ByteArray.empty)) (h0:0<e.1):XW e=true:=by
 rcases h with h|h
 ·exact h
 ·rw[h]at h0;exact absurd h0 (by decide)
theorem QeN {a b:Qk}(ha:QL a=true) (hb:QL b=true):QL (join a b)=true:=by
 simp only[QL,QQ5]
 constructor
 ·refine qT _ (fun i hi=> ?_) 5 0 (-1) (by omega) (by simp)
  have h:=Qiu ha hb (i:Int)
  unfold zc
  by_cases h0:0<XV a b (i:Int)
  ·exact Or.inr ⟨XV a b (i:Int),by simp[h0],by simp[inR];omega⟩
  ·exact Or.inl (by simp[h0])
 ·refine Qia _ _ (fun i hi=> ?_) 5 0 (-1) (by omega) (by simp)
  have h:=Qiu ha hb (i:Int)
  unfold Qky
  by_cases h0:XV a b (i:Int)<(xO a b (i:Int)).1
  ·refine Or.inr ⟨xO a b (i:Int),by simp[h0],QBG (QDE ha hb _) (by omega), ?_⟩
   rw[Qv0 ha hb hi];exact h0
  ·exact Or.inl (by simp[h0])
def Zp (s:Qk) (id:Int):Int:=bif QL s then(bif (QS id s.1).2.2.2.2.2 then(bif decide ((QS id s.1).2.1=1)then(QS id s.1).1 else(QS id s.1).1 - 1)else QZ id s.2)else 0
def Qkp (s:Qk) (i:Nat):List Qb:=bif decide (0<Zp s (i:Int))then [((i:Int),Zp s (i:Int))]else []
def marksOf (s:Qk):List Qb:=(List.range' 0 5).flatMap (Qkp s)
theorem Qrg (s:Qk) (id:Int):0<=Zp s id/\Zp s id<=1000:=by
 unfold Zp
 cases h:QL s
 ·simp
 ·have hf:=Qu4 h id
  rcases QgO h id with⟨he,hb⟩|⟨he,hb⟩
  ·rw[hb]
   simp only[XW,QQ5,inR,QRu]at he
   have:=he.1.1.1.1
   simp only[ZB]at this
   simp only[QQ1]
   cases decide ((QS id s.1).2.1=1)
   ·simp only[QQ2];omega
   ·simp only[QQ1];omega
  ·rw[hb];simp only[QQ1,QQ2];omega
theorem QyL (s:Qk):QN (-1) (marksOf s)=true:=by
 refine qT _ (fun i hi=> ?_) 5 0 (-1) (by omega) (by simp)
 have h:=Qrg s (i:Int)
 unfold Qkp
 by_cases h0:0<Zp s (i:Int)
 ·exact Or.inr ⟨Zp s (i:Int),by simp[h0],by simp[inR];omega⟩
 ·exact Or.inl (by simp[h0])
end Go.Proofs.YtiejfnbmficbmaaGreat.M
