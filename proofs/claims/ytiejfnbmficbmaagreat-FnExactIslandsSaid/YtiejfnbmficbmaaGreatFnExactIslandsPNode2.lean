/- What the plain forms that FnExactIslands reaches come to: PNode2. No conditions but those that each theorem states. -/
import Derived.Test.YtiejfnbmficbmaaGreatFnExactIslandsPEntry
set_option linter.all false
namespace Go.Proofs.YtiejfnbmficbmaaGreat.M
open Go Go.Eng Go.Proofs
set_option linter.unusedVariables false
def ZN (clock:Int) (r:QM):Bool:=inR r.1 0 1000&&inR r.2.1 0 100000&&inR r.2.2 0 clock
theorem QDT (a0 a1:Int) (a2:List Qg) (a3:List Qb) (a4:List Int) (a5 a6 a7:Int) (a8:List Qk) (a9 a10:List Int) (a11:List (List Int)) (a12 a13:Int) (a14:List Qy) (a15 a16 a17:Int) (a18:List QM) (h:a18.length<=maxLen):Qcu w (a0,a1,a2,a3,a4,a5,a6,a7,a8,a9,a10,a11,a12,a13,a14,a15,a16,a17,a18)=some ((a18.all (ZN a17))&&decide (((a18.length:Nat):Int)=5)):=by
 apply QsL
 have e:=Q5 a18.length (fun i=>J2 wl (a18,((a18.length:Nat):Int),(i:Int),a0,a1,a2,a3,a4,a5,a6,a7,a8,a9,a10,a11,a12,a13,a14,a15,a16,a17,a18)) (fun i=>if(a18.drop i).all (ZN a17)then .inr (a0,a1,a2,a3,a4,a5,a6,a7,a8,a9,a10,a11,a12,a13,a14,a15,a16,a17,a18)else .inl false)
  (fun i hi ih=>by
    apply QfQ
    rw[ZG (ZN a17) a18 _ _ hi]
    simp only[QaR,ilt hi,Qj hi,Qf hi,inc hi h,QQ1,Xi,QQ0,ih,ZN]
    cases inR a18[i].1 0 1000<;>cases inR a18[i].2.1 0 100000<;>cases inR a18[i].2.2 0 a17<;>simp)
  (by
    apply QfQ
    simp[QaR])
 simp only[QQ6,QRg]at e
 simp only[QkC,e,QQ0]
 cases a18.all (ZN a17)
 ·simp[Qp]
 ·simp only[if_true,Qp,QY0,QRd]
def Zl (x y:Qy):Bool:=decide (y.1=x.1)&&(y.2.2.1==x.2.2.1)
def Xf (p:Int) (b:Bool):Nat->List Qy->Int⊕Unit
 |_,[]=> .inr ()
 |i,y::l=>bif decide (y.1=p)&&(y.2.2.1==b)then .inl (i:Nat)else Xf p b (i+1) l
def Xq:Int⊕Unit->Int
 | .inl i=>i
 | .inr _=> -1
theorem QCy (z:Int⊕Unit):Qp z (fun u=>some u) (fun _=>some (-1))=some (Xq z):=by cases z<;>rfl
theorem QBS (a0 a1:Int) (a2:List Qg) (a3:List Qb) (a4:List Int) (a5 a6 a7:Int) (a8:List Qk) (a9 a10:List Int) (a11:List (List Int)) (a12 a13:Int) (a14:List Qy) (a15 a16 a17:Int) (a18:List QM) (p:Int) (b:Bool) (h:a14.length<=maxLen):xF w (a0,a1,a2,a3,a4,a5,a6,a7,a8,a9,a10,a11,a12,a13,a14,a15,a16,a17,a18,p,b)=some (Xq (Xf p b 0 a14)):=by
 apply Qzc
 have e:=Q5 a14.length (fun i=>qF wl (p,b,a14,((a14.length:Nat):Int),(i:Int))) (fun i=>Xf p b i (a14.drop i))
  (fun i hi ih=>by
    apply Qlv
    simp only[QjQ,ilt hi,Qj hi,Qf hi,inc hi h,QQ1,ih]
    rw[QRa hi,Xf]
    cases decide (a14[i].1=p)<;>cases(a14[i].2.2.1==b)<;>simp)
  (by
    apply Qlv
    simp[QjQ,Xf])
 simp only[QQ6,QRg]at e
 simp only[Qo0,e,QQ0,QCy]
theorem QBW (x:Qy):(off:Nat)->(l:List Qy)->(i:Nat)->(h:i<l.length)->l[i]=x->((off:Int)<=Xq (Xf x.1 x.2.2.1 off l)/\Xq (Xf x.1 x.2.2.1 off l)<=off+i/\(Xq (Xf x.1 x.2.2.1 off l)=off+i↔(l.take i).any (Zl x)=false))
 |off,y::l,0,_,hx=>by
  have:y=x:=hx
  subst this
  simp[Xf,Xq]
 |off,y::l,i+1,h,hx=>by
  have ih:=QBW x (off+1) l i (by simpa using h) (by simpa using hx)
  rw[Xf]
  have hk:(decide (y.1=x.1)&&(y.2.2.1==x.2.2.1))=Zl x y:=rfl
  rw[hk,List.take_succ_cons,List.any_cons]
  cases Zl x y
  ·simp only[QQ2,Bool.false_or]
   refine⟨by omega,by omega, ?_⟩
   rw[<-ih.2.2];omega
  ·simp only[QQ1,Bool.true_or,Xq]
   refine⟨by omega,by omega, ?_⟩
   constructor
   ·intro h;omega
   ·intro h;cases h
def zj (id n p:Int):Bool:=inR p 0 (n - 1)&& !decide (p=id)
theorem Qw8 (a0 a1:Int) (a2:List Qg) (a3:List Qb) (a4:List Int) (a5 a6 a7:Int) (a8:List Qk) (a9 a10:List Int) (a11:List (List Int)) (a12 a13:Int) (a14:List Qy) (a15 a16 a17:Int) (a18:List QM) (p:Int) (hn:inR a1 1 5=true):zu w (a0,a1,a2,a3,a4,a5,a6,a7,a8,a9,a10,a11,a12,a13,a14,a15,a16,a17,a18,p)=some (zj a0 a1 p):=by
 apply Qwv
 simp[inR]at hn
 simp only[QkY,zj]
 rw[w64 (by omega) (by omega),Xi,QQ0]
 cases inR p 0 (a1 - 1)<;>simp
def Y1 (id n wait:Int) (x:Qy):Bool:=zj id n x.1&&inR x.2.1 0 100000&&inR x.2.2.2 0 wait
def X0 (id n wait:Int):List Qy->List Qy->Bool
 |_,[]=>true
 |pre,x::l=>Y1 id n wait x&& !pre.any (Zl x)&&X0 id n wait (pre++[x]) l
theorem Quk {R:Type}(id n wait:Int) (l:List Qy) (x y:R) {i:Nat}(hi:i<l.length):
 (if X0 id n wait (l.take i) (l.drop i)then x else y)=(bif Y1 id n wait l[i]&& !(l.take i).any (Zl l[i])then(if X0 id n wait (l.take (i+1)) (l.drop (i+1))then x else y)else y):=by
 rw[QRa hi,X0]
 have:l.take i++[l[i]]=l.take (i+1):=by rw[List.take_add_one];simp[hi]
 rw[this]
 cases Y1 id n wait l[i]&& !(l.take i).any (Zl l[i])<;>simp
theorem QFg (a0 a1:Int) (a2:List Qg) (a3:List Qb) (a4:List Int) (a5 a6 a7:Int) (a8:List Qk) (a9 a10:List Int) (a11:List (List Int)) (a12 a13:Int) (a14:List Qy) (a15 a16 a17:Int) (a18:List QM) (hn:inR a1 1 5=true) (h:a14.length<=maxLen):QeY w (a0,a1,a2,a3,a4,a5,a6,a7,a8,a9,a10,a11,a12,a13,a14,a15,a16,a17,a18)=some (X0 a0 a1 a15 [] a14&&(inR a13 1 4&&decide (((a14.length:Nat):Int)<=a13))):=by
 apply QvI
 have e:=Q5 a14.length (fun i=>qQ wl (a14,((a14.length:Nat):Int),(i:Int),a0,a1,a2,a3,a4,a5,a6,a7,a8,a9,a10,a11,a12,a13,a14,a15,a16,a17,a18)) (fun i=>if X0 a0 a1 a15 (a14.take i) (a14.drop i)then .inr (a0,a1,a2,a3,a4,a5,a6,a7,a8,a9,a10,a11,a12,a13,a14,a15,a16,a17,a18)else .inl false)
  (fun i hi ih=>by
    apply Qhk
    rw[Quk a0 a1 a15 a14 _ _ hi]
    have hs:=QBW a14[i] 0 a14 i hi rfl
    have hs':decide (Xq (Xf a14[i].1 a14[i].2.2.1 0 a14)=(i:Int))= !(a14.take i).any (Zl a14[i]):=by
     cases hb:(a14.take i).any (Zl a14[i])
     ·rw[dt (by have:=hs.2.2.2 hb;omega)];rfl
     ·rw[df (fun h=>by have:=hs.2.2.1 (by omega);rw[hb]at this;cases this)];rfl
    simp only[Qen,ilt hi,Qj hi,Qf hi,inc hi h,QQ1,Qw8 a0 a1 a2 a3 a4 a5 a6 a7 a8 a9 a10 a11 a12 a13 a14 a15 a16 a17 a18 _ hn,QBS a0 a1 a2 a3 a4 a5 a6 a7 a8 a9 a10 a11 a12 a13 a14 a15 a16 a17 a18 _ _ h,Xi,QQ0,ih,Y1,hs']
    cases zj a0 a1 a14[i].1<;>cases inR a14[i].2.1 0 100000<;>cases inR a14[i].2.2.2 0 a15<;>cases(a14.take i).any (Zl a14[i])<;>simp)
  (by
    apply Qhk
    simp[Qen,X0])
 simp only[QQ6,QRg,List.take_zero]at e
 simp only[Qmd,e,QQ0]
 cases X0 a0 a1 a15 [] a14
 ·simp[Qp]
 ·simp only[if_true,Qp,QY0,QRd,Xi,QQ0]
  cases inR a13 1 4<;>simp
theorem QCR (a0 a1:Int) (a2:List Qg) (a3:List Qb) (a4:List Int) (a5 a6 a7:Int) (a8:List Qk) (a9 a10:List Int) (a11:List (List Int)) (a12 a13:Int) (a14:List Qy) (a15 a16 a17:Int) (a18:List QM) (hn:inR a1 1 5=true) (h:a14.length<=maxLen):Qcy w (a0,a1,a2,a3,a4,a5,a6,a7,a8,a9,a10,a11,a12,a13,a14,a15,a16,a17,a18)=some (decide (((a14.length:Nat):Int)<=a13)&&X0 a0 a1 a15 [] a14):=by
 apply Qul
 have hn':=hn
 simp[inR]at hn'
 have inner:∀(i:Nat) (hi:i<a14.length) (b4:Bool) (x5:Int) (b6 b7:Bool) (x8 x9:Int) (b10 b11:Bool) (q:Qy) (x2 x3:Int),
  Ys wl ((i:Int),0,x2,x3,b4,x5,b6,b7,x8,x9,b10,b11,a0,a1,a2,a3,a4,a5,a6,a7,a8,a9,a10,a11,a12,a13,a14,a15,a16,a17,a18,q)=some (bif (a14.take i).any (Zl q)then .inl false else .inr ((i:Int),x2,x3,b4,x5,b6,b7,x8,x9,b10,b11,a0,a1,a2,a3,a4,a5,a6,a7,a8,a9,a10,a11,a12,a13,a14,a15,a16,a17,a18,q)):=by
  intro i hi b4 x5 b6 b7 x8 x9 b10 b11 q x2 x3
  have e:=Q5 i (fun k=>Ys wl ((i:Int),(k:Int),x2,x3,b4,x5,b6,b7,x8,x9,b10,b11,a0,a1,a2,a3,a4,a5,a6,a7,a8,a9,a10,a11,a12,a13,a14,a15,a16,a17,a18,q)) (fun k=>bif ((a14.take i).drop k).any (Zl q)then .inl false else .inr ((i:Int),x2,x3,b4,x5,b6,b7,x8,x9,b10,b11,a0,a1,a2,a3,a4,a5,a6,a7,a8,a9,a10,a11,a12,a13,a14,a15,a16,a17,a18,q))
   (fun k hk ih=>by
     apply QfA
     have hk':k<a14.length:=by omega
     have hk2:k<(a14.take i).length:=by simp;omega
     rw[QRa hk2,List.any_cons,List.getElem_take]
     simp only[QbG,ilt hk,Qj hk',Qf hk',inc hk (show i<=maxLen by omega),QQ1,ih,Zl]
     cases decide (a14[k].1=q.1)<;>cases(a14[k].2.2.1==q.2.2.1)<;>simp)
   (by
     apply QfA
     simp only[QbG,Qo,QQ2]
     rw[List.drop_of_length_le (by simp;omega)];simp)
  simpa using e
 have e:=Q5 a14.length (fun i=>JQ wl ((i:Int),a0,a1,a2,a3,a4,a5,a6,a7,a8,a9,a10,a11,a12,a13,a14,a15,a16,a17,a18)) (fun i=>if X0 a0 a1 a15 (a14.take i) (a14.drop i)then .inr ()else .inl false)
  (fun i hi ih=>by
    apply QfH
    rw[Quk a0 a1 a15 a14 _ _ hi]
    simp only[QaZ,ilt hi,Qj hi,Qf hi,QQ1,Xx,QQ0,Y1,zj]
    rw[w64 (n:=a1 - 1) (by omega) (by omega)]
    cases h1:inR a14[i].1 0 (a1 - 1)
    ·simp
    ·cases h2:decide (a14[i].1=a0)
     ·cases h3:inR a14[i].2.1 0 100000
      ·simp
      ·cases h4:inR a14[i].2.2.2 0 a15
       ·simp
       ·simp only[QQ3,QQ2,QQ4,QRn,QRd,inner i hi,QQ0]
        cases(a14.take i).any (Zl a14[i])
        ·simp only[QQ2,Qp,QY0,inc hi h,ih,QQ4,QQ1]
        ·simp[Qp]
     ·simp)
  (by
    apply QfH
    simp[QaZ,X0])
 simp only[QQ6,QRg,List.take_zero]at e
 simp only[Qkz,e,QQ0]
 by_cases hl:((a14.length:Nat):Int)<=a13
 ·simp only[df (show¬a13<((a14.length:Nat):Int) by omega),QQ2,dt hl,QRd]
  cases X0 a0 a1 a15 [] a14<;>simp[Qp]
 ·simp only[dt (show a13<((a14.length:Nat):Int) by omega),QQ1,df hl,QRm]
def Qkd (a0 a1:Int) (a2:List Qg) (a3:List Qb) (a4:List Int) (a5 a6 a7:Int) (a8:List Qk) (a9 a10:List Int) (a11:List (List Int)) (a12 a13:Int) (a14:List Qy) (a15 a16 a17:Int) (a18:List QM):Bool:=
 inR a1 1 5&&inR a0 0 (a1 - 1)&&QK (a2,a3)&&decide ((a4,a5)=X1 (a2,a3))&&Yr (a6,a7,a8)&&YR a9 a1&&YR a10 a1&&decide (a9.getD a0.toNat 0=Xo (a6,a7,a8))&&(a10.all fun x=>decide (x<=Xo (a6,a7,a8)))&&
  KO a11 a1&&inR a12 0 100000&&inR a17 0 100000&&inR a15 1 20&&inR a16 1 50&&inR a13 1 4&&decide (((a14.length:Nat):Int)<=a13)&&X0 a0 a1 a15 [] a14&&decide (((a18.length:Nat):Int)=5)&&a18.all (ZN a17)
def smN (a2:List Qg) (a3:List Qb) (a4:List Int) (a8:List Qk) (a9 a10:List Int) (a11:List (List Int)) (a14:List Qy) (a18:List QM):Prop:=
 a2.length<=maxLen/\a3.length<=maxLen/\a4.length<=maxLen/\a8.length<=maxLen/\(∀s∈a8,s.1.length<=maxLen/\s.2.length<=maxLen)/\a9.length<=maxLen/\a10.length<=maxLen/\a11.length<=maxLen/\(∀r∈a11,r.length<=maxLen)/\a14.length<=maxLen/\a18.length<=maxLen
theorem QAY (a:List Int) (b:Int) (c:List Int) (d:Int) (h:a.length<=maxLen):vP w (a,b,c,d)=some (decide ((a,b)=(c,d))):=by
 apply Qsk
 simp only[QhB,QGQ a c h,QQ0]
 by_cases h1:a=c
 ·by_cases h2:b=d
  ·simp[h1,h2]
  ·simp[h1,h2]
 ·simp[h1]
theorem QDZ (a:List Int) (b:Int) (c:List Int) (d:Int) (h:a.length<=maxLen):QbI w (a,b,c,d)=some (decide ((a,b)=(c,d))):=by
 apply Qta
 simp only[Qji,QEZ a c h,QQ0]
 by_cases h1:a=c
 ·by_cases h2:b=d
  ·simp[h1,h2]
  ·simp[h1,h2]
 ·simp[h1]
theorem QEX (a0 a1:Int) (a2:List Qg) (a3:List Qb) (a4:List Int) (a5 a6 a7:Int) (a8:List Qk) (a9 a10:List Int) (a11:List (List Int)) (a12 a13:Int) (a14:List Qy) (a15 a16 a17:Int) (a18:List QM) (h:smN a2 a3 a4 a8 a9 a10 a11 a14 a18):ZO w (a0,a1,a2,a3,a4,a5,a6,a7,a8,a9,a10,a11,a12,a13,a14,a15,a16,a17,a18)=some (Qkd a0 a1 a2 a3 a4 a5 a6 a7 a8 a9 a10 a11 a12 a13 a14 a15 a16 a17 a18):=by
 obtain⟨h2,h3,h4,h8,h8',h9,h10,h11,h11',h14,h18⟩:=h
 apply QvG
 simp only[Ql3,Xi,QQ0,Qkd]
 cases q1:inR a1 1 5
 ·simp
 have q1':=q1
 simp[inR]at q1'
 rw[w64 (n:=a1 - 1) (by omega) (by omega)]
 simp only[QQ3,QQ2,QRd]
 cases q0:inR a0 0 (a1 - 1)
 ·simp
 simp[inR]at q0
 simp only[QQ3,QQ2,QRd,Yp a2 a3 h2 h3,QQ0]
 cases q2:QK (a2,a3)
 ·simp
 simp only[QQ3,QQ2,QRd,Qxe a2 a3 h2 h3,QQ0,QAY a4 a5 _ _ h4]
 cases q4:decide ((a4,a5)=X1 (a2,a3))
 ·have:decide ((a4,a5)=((X1 (a2,a3))))=false:=q4
  simp[this]
 have q4':decide ((a4,a5)=((X1 (a2,a3))))=true:=q4
 simp only[q4',QQ3,QQ2,QRd,Qlx a6 a7 a8 h8 h8',Qr1 a6 a7 a8 h8 h8',QQ0]
 cases q6:Yr (a6,a7,a8)
 ·simp
 simp only[QQ3,QQ2,QRd,QzN a9 a1 h9,QzN a10 a1 h10,QQ0]
 cases q9:YR a9 a1
 ·simp
 cases q10:YR a10 a1
 ·simp
 have l9:((a9.length:Nat):Int)=a1:=by simp[YR]at q9;exact q9.1.2
 have l10:((a10.length:Nat):Int)=a1:=by simp[YR]at q10;exact q10.1.2
 have i0:inb a0 a9.length=true:=by simp[inb];omega
 simp only[QQ3,QQ2,QRd,i0,QQ1,rd1]
 by_cases qg:a9.getD a0.toNat 0=Xo (a6,a7,a8)
 case neg=>simp only[qg,decide_false,QQ4,QQ1,QY7,QRm]
 simp only[qg,decide_true]
 cases hc:a10 with
 |nil=>rw[hc]at l10;simp at l10;omega
 |cons m l=>
  rw[<-hc]
  have hm:K4 w a10=some (Qj2 m l):=by rw[hc];exact QJf m l (by rw[<-hc];exact h10)
  have hall:(a10.all fun x=>decide (x<=Xo (a6,a7,a8)))=(decide (m<=Xo (a6,a7,a8))&&l.all fun x=>decide (x<=Xo (a6,a7,a8))):=by rw[hc];rfl
  simp only[QQ3,QQ2,QRd,hm,QQ0,QB2,hall]
  cases decide (m<=Xo (a6,a7,a8))&&l.all fun x=>decide (x<=Xo (a6,a7,a8))
  ·simp
  simp only[QQ3,QQ2,QRd,QEe a11 a1 h11 h11',QQ0]
  cases KO a11 a1
  ·simp
  simp only[QQ3,QQ2,QRd,QFg a0 a1 a2 a3 a4 a5 a6 a7 a8 a9 a10 a11 a12 a13 a14 a15 a16 a17 a18 q1 h14,QDT a0 a1 a2 a3 a4 a5 a6 a7 a8 a9 a10 a11 a12 a13 a14 a15 a16 a17 a18 h18,QQ0]
  cases inR a12 0 100000<;>cases inR a17 0 100000<;>cases inR a15 1 20<;>cases inR a16 1 50<;>cases inR a13 1 4<;>cases decide (((a14.length:Nat):Int)<=a13)<;>cases X0 a0 a1 a15 [] a14<;>cases decide (((a18.length:Nat):Int)=5)<;>cases a18.all (ZN a17)<;>rfl
theorem QCG (a0 a1:Int) (a2:List Qg) (a3:List Qb) (a4:List Int) (a5 a6 a7:Int) (a8:List Qk) (a9 a10:List Int) (a11:List (List Int)) (a12 a13:Int) (a14:List Qy) (a15 a16 a17:Int) (a18:List QM) (h:smN a2 a3 a4 a8 a9 a10 a11 a14 a18):Ka w (a0,a1,a2,a3,a4,a5,a6,a7,a8,a9,a10,a11,a12,a13,a14,a15,a16,a17,a18)=some (Qkd a0 a1 a2 a3 a4 a5 a6 a7 a8 a9 a10 a11 a12 a13 a14 a15 a16 a17 a18):=by
 obtain⟨h2,h3,h4,h8,h8',h9,h10,h11,h11',h14,h18⟩:=h
 apply Qvn
 simp only[Qlu,Xx,QQ0,Qkd]
 cases q1:inR a1 1 5
 ·simp
 have q1':=q1
 simp[inR]at q1'
 rw[w64 (n:=a1 - 1) (by omega) (by omega)]
 simp only[QQ3,QQ2,QRd]
 cases q0:inR a0 0 (a1 - 1)
 ·simp
 simp[inR]at q0
 simp only[QQ3,QQ2,QRd,Vo a2 a3 h2 h3,QQ0]
 cases q2:QK (a2,a3)
 ·simp
 simp only[QQ3,QQ2,QRd,QuQ a2 a3 h2 h3,QQ0,QDZ a4 a5 _ _ h4]
 cases q4:decide ((a4,a5)=X1 (a2,a3))
 ·have:decide ((a4,a5)=((X1 (a2,a3))))=false:=q4
  simp[this]
 have q4':decide ((a4,a5)=((X1 (a2,a3))))=true:=q4
 simp only[q4',QQ3,QQ2,QRd,Qia a6 a7 a8 h8 h8',Qqo a6 a7 a8 h8 h8',QQ0]
 cases q6:Yr (a6,a7,a8)
 ·simp
 simp only[QQ3,QQ2,QRd,QwP a9 a1 h9,QwP a10 a1 h10,QQ0]
 cases q9:YR a9 a1
 ·simp
 cases q10:YR a10 a1
 ·simp
 have l9:((a9.length:Nat):Int)=a1:=by simp[YR]at q9;exact q9.1.2
 have l10:((a10.length:Nat):Int)=a1:=by simp[YR]at q10;exact q10.1.2
 have i0:inb a0 a9.length=true:=by simp[inb];omega
 simp only[QQ3,QQ2,QRd,i0,QQ1,rd1]
 by_cases qg:a9.getD a0.toNat 0=Xo (a6,a7,a8)
 case neg=>simp only[qg,decide_false,QQ4,QQ1,QY7,QRm]
 simp only[qg,decide_true]
 simp only[QQ3,QQ2,QRd,QBE a11 a1 h11 h11',QQ0]
 cases qt:KO a11 a1
 ·simp
 have e0:=Q5 a10.length (fun i=>qM wl ((i:Int),a0,a1,a2,a3,a4,a5,a6,a7,a8,a9,a10,a11,a12,a13,a14,a15,a16,a17,a18)) (fun i=>if(a10.drop i).all (fun x=>decide (x<=Xo (a6,a7,a8)))then .inr (a0,a1,a2,a3,a4,a5,a6,a7,a8,a9,a10,a11,a12,a13,a14,a15,a16,a17,a18)else .inl false)
  (fun i hi ih=>by
    apply Qhq
    rw[ZG (fun x=>decide (x<=Xo (a6,a7,a8))) a10 _ _ hi]
    have hi':(i:Int)<a1:=by omega
    simp only[Qd6,dt hi',Qj hi,Qf hi,inc hi h10,QQ1,Qia a6 a7 a8 h8 h8',QQ0,ih]
    by_cases hx:a10[i]<=Xo (a6,a7,a8)
    ·simp only[df (show¬Xo (a6,a7,a8)<a10[i] by omega),QQ2,dt hx,QQ1]
    ·simp only[dt (show Xo (a6,a7,a8)<a10[i] by omega),QQ1,df hx,QQ2])
  (by
    apply Qhq
    have:¬((a10.length:Nat):Int)<a1:=by omega
    simp only[Qd6,df this,QQ2,Qv7])
 simp only[QQ6,QRg]at e0
 simp only[QQ3,QQ2,QRd,e0,QQ0]
 cases qa:a10.all fun x=>decide (x<=Xo (a6,a7,a8))
 ·simp[Qp]
 simp only[if_true,Qp,QY0,QRn]
 cases inR a12 0 100000
 ·simp
 cases inR a17 0 100000
 ·simp
 cases inR a13 1 4
 ·simp
 cases inR a15 1 20
 ·simp
 cases inR a16 1 50
 ·simp
 simp only[QQ3,QQ2,QRd,QRn]
 cases q5:decide (((a18.length:Nat):Int)=5)
 ·simp
 have l5:a18.length=5:=by simp at q5;omega
 have e2:=Q5 a18.length (fun i=>qX wl ((i:Int),a0,a1,a2,a3,a4,a5,a6,a7,a8,a9,a10,a11,a12,a13,a14,a15,a16,a17,a18)) (fun i=>if(a18.drop i).all (ZN a17)then .inr (a0,a1,a2,a3,a4,a5,a6,a7,a8,a9,a10,a11,a12,a13,a14,a15,a16,a17,a18)else .inl false)
  (fun i hi ih=>by
    apply Qg9
    rw[ZG (ZN a17) a18 _ _ hi]
    have hi':(i:Int)<5:=by omega
    simp only[QdU,dt hi',Qj hi,Qf hi,inc hi h18,QQ1,Xx,QQ0,ih,ZN]
    cases inR a18[i].1 0 1000<;>cases inR a18[i].2.1 0 100000<;>cases inR a18[i].2.2 0 a17<;>simp)
  (by
    apply Qg9
    have:¬((a18.length:Nat):Int)<5:=by omega
    simp only[QdU,df this,QQ2,Qv7])
 simp only[QQ6,QRg]at e2
 simp only[QQ3,QQ2,e2,QQ0]
 cases a18.all (ZN a17)
 ·simp
 simp only[if_true,QY0,QCR a0 a1 a2 a3 a4 a5 a6 a7 a8 a9 a10 a11 a12 a13 a14 a15 a16 a17 a18 q1 h14,QQ0,QRn]
theorem QyY (a b:Int):Qa7 w (a,b)=some (mxI a b):=by
 apply QxA
 simp only[Qnr,mxI]
 by_cases h:a<b
 ·rw[df (by omega),QQ2,if_pos h]
 ·by_cases h2:b<a
  ·rw[dt h2,QQ1,if_neg h]
  ·rw[df h2,QQ2,if_neg h];congr 1;omega
def smS (s:Qk):Prop:=s.1.length<=maxLen/\s.2.length<=maxLen
def Z3 (r:Int×Int×Int×Int×ByteArray×Bool):XM:=(r.1,r.2.1,r.2.2.1,r.2.2.2.1,r.2.2.2.2.1)
def most (id:Int):XM->List Qk->XM
 |m,[]=>m
 |m,s::l=>bif (QW id s.1).2.2.2.2.2&&QK s then most id (VR m (Z3 (QW id s.1))) l else most id m l
theorem QwZ {e:XM}(h:Zd e=true):1<=e.1:=by
 simp[Zd,inR]at h;omega
theorem Qv4 {i:Nat}(h:i<5):decide ((i:Int)<5)=true:=by simp;omega
theorem QwK {i:Nat}(h:i<5):wR ((i:Int)+1)=((i+1:Nat):Int):=by
 rw[w64 (by omega) (by omega)];omega
def Vr (x:Qa):Bool:=Qkd x.1 x.2.1 x.2.2.1 x.2.2.2.1 x.2.2.2.2.1 x.2.2.2.2.2.1 x.2.2.2.2.2.2.1 x.2.2.2.2.2.2.2.1 x.2.2.2.2.2.2.2.2.1 x.2.2.2.2.2.2.2.2.2.1 x.2.2.2.2.2.2.2.2.2.2.1 x.2.2.2.2.2.2.2.2.2.2.2.1 x.2.2.2.2.2.2.2.2.2.2.2.2.1 x.2.2.2.2.2.2.2.2.2.2.2.2.2.1 x.2.2.2.2.2.2.2.2.2.2.2.2.2.2.1 x.2.2.2.2.2.2.2.2.2.2.2.2.2.2.2.1 x.2.2.2.2.2.2.2.2.2.2.2.2.2.2.2.2.1 x.2.2.2.2.2.2.2.2.2.2.2.2.2.2.2.2.2.1 x.2.2.2.2.2.2.2.2.2.2.2.2.2.2.2.2.2.2
def Qze (x:Qa):Prop:=smN x.2.2.1 x.2.2.2.1 x.2.2.2.2.1 x.2.2.2.2.2.2.2.2.1 x.2.2.2.2.2.2.2.2.2.1 x.2.2.2.2.2.2.2.2.2.2.1 x.2.2.2.2.2.2.2.2.2.2.2.1 x.2.2.2.2.2.2.2.2.2.2.2.2.2.2.1 x.2.2.2.2.2.2.2.2.2.2.2.2.2.2.2.2.2.2
theorem QyE (x:Qa) (h:Qze x):ZO w x=some (Vr x):=QEX _ _ _ _ _ _ _ _ _ _ _ _ _ _ _ _ _ _ _ h
theorem Qxj (x:Qa) (h:Qze x):Ka w x=some (Vr x):=QCG _ _ _ _ _ _ _ _ _ _ _ _ _ _ _ _ _ _ _ h
theorem QFD (x:Qa) (h:Qil x):Qze x:=by
 simp only[Qil,yH,Qoj,Qmc,Qno,QdZ,Qqd,Qpx,QsD,QrY,Qsc]at h
 obtain⟨⟨⟨h2,_⟩,h3⟩,h4,⟨h8,h8'⟩,h9,h10,⟨h11,h11'⟩,h14,h18⟩:=h
 exact⟨h2,h3,h4,h8,fun s hs=>⟨(h8' s hs).1.1,(h8' s hs).2⟩,h9,h10,h11,h11',h14,h18⟩
def Y5 (n:Int):Nat->List Qa->Bool
 |_,[]=>true
 |i,x::l=>(Vr x&&(decide (x.2.1=n)&&decide (x.1=(i:Int))))&&Y5 n (i+1) l
def QkP (n:Int) (p:Qm):Bool:=inR p.1 0 (n - 1)
def Qck (n:Int) (x:Qn):Bool:=inR x.1 0 (n - 1)&&QK x.2
def Zf (ns:List Qa) (net:List Qm) (sd:List Qn):Bool:=inR ((ns.length:Nat):Int) 1 5&&(!decide (12<((net.length:Nat):Int))&&(!decide (40<((sd.length:Nat):Int))&&(Y5 (ns.length:Nat) 0 ns&&(net.all (QkP (ns.length:Nat))&&sd.all (Qck (ns.length:Nat))))))
def smW (ns:List Qa) (net:List Qm) (sd:List Qn):Prop:=ns.length<=maxLen/\(∀x∈ns,Qze x)/\net.length<=maxLen/\(∀p∈net,p.2.1.length<=maxLen)/\sd.length<=maxLen/\∀x∈sd,x.2.1.length<=maxLen/\x.2.2.length<=maxLen
theorem QGA {ns:List Qa}{net:List Qm}{sd:List Qn}(h:QdP (ns,net,sd)):smW ns net sd:=by
 simp only[QdP,Qst,Qsi,Qsa]at h
 refine⟨h.1.1,fun x hx=>QFD x (h.1.2 x hx),h.2.1.1,fun p hp=> ?_,h.2.2.1,fun x hx=> ?_⟩
 ·have:=h.2.1.2 p hp
  simpa only[Qnz,Qsx]using this
 ·have:=h.2.2.2 x hx
  simp only[Qm3,yH,Qoj,Qmc]at this
  exact⟨this.1.1,this.2⟩
theorem Qrk {R:Type}(n:Int) (l:List Qa) (x y:R) {i:Nat}(hi:i<l.length):(if Y5 n i (l.drop i)then x else y)=(bif Vr l[i]then(bif decide (l[i].2.1=n)then(bif decide (l[i].1=(i:Int))then(if Y5 n (i+1) (l.drop (i+1))then x else y)else y)else y)else y):=by
 rw[QRa hi,Y5]
 cases Vr l[i]<;>cases decide (l[i].2.1=n)<;>cases decide (l[i].1=(i:Int))<;>simp
theorem Qn5 (ns:List Qa) (net:List Qm) (sd:List Qn) (i:Int) (h:ns.length<=maxLen):VE w (ns,net,sd,i)=some (inR i 0 (((ns.length:Nat):Int) - 1)):=by
 apply QsP
 simp only[maxLen]at h
 have:wR (((ns.length:Nat):Int) - 1)=((ns.length:Nat):Int) - 1:=w64 (by omega) (by omega)
 simp only[Qkf,this,Xi,QQ0]
theorem QzA {A S R:Type}(c:Bool) (s:S) (r:A) (f:A->Option R) (g:S->Option R):Qp (if c=true then Sum.inr s else Sum.inl r) f g=bif c then g s else f r:=by cases c<;>rfl
theorem Qn2 (ns:List Qa) (net:List Qm) (sd:List Qn) (h:smW ns net sd):xz w (ns,net,sd)=some (Zf ns net sd):=by
 apply QuI
 obtain⟨h1,h2,h3,h4,h5,h6⟩:=h
 have e1:=Q5 ns.length (fun i=>Ju wl (ns,((ns.length:Nat):Int),(i:Int),ns,net,sd)) (fun i=>if Y5 (ns.length:Nat) i (ns.drop i)then .inr (ns,net,sd)else .inl false)
  (fun i hi ih=>by
    apply Qgr
    simp only[Qa1,ilt hi,Qj hi,Qf hi,inc hi h1,QQ1,ih,QyE _ (h2 _ (QRf hi)),QQ0,Qrk _ _ _ _ hi]
    cases Vr ns[i]<;>cases decide (ns[i].2.1=((ns.length:Nat):Int))<;>cases decide (ns[i].1=(i:Int))<;>simp)
  (by
    apply Qgr
    simp[Qa1,Y5])
 have e2:=Q5 net.length (fun i=>Jl wl (net,((net.length:Nat):Int),(i:Int),ns,net,sd)) (fun i=>if(net.drop i).all (QkP (ns.length:Nat))then .inr (ns,net,sd)else .inl false)
  (fun i hi ih=>by
    apply Qgw
    simp only[Qcj,ilt hi,Qj hi,Qf hi,inc hi h3,QQ1,ih,Qn5 _ _ _ _ h1,QQ0,ZG _ _ _ _ hi,QkP]
    cases inR net[i].1 0 (((ns.length:Nat):Int) - 1)<;>simp)
  (by
    apply Qgw
    simp[Qcj])
 have e3:=Q5 sd.length (fun i=>JR wl (sd,((sd.length:Nat):Int),(i:Int),ns,net,sd)) (fun i=>if(sd.drop i).all (Qck (ns.length:Nat))then .inr ()else .inl false)
  (fun i hi ih=>by
    apply QfP
    have hs:=h6 _ (QRf hi)
    simp only[Qb0,ilt hi,Qj hi,Qf hi,inc hi h5,QQ1,ih,Qn5 _ _ _ _ h1,Yp _ _ hs.1 hs.2,QQ0,ZG _ _ _ _ hi,Qck]
    cases inR sd[i].1 0 (((ns.length:Nat):Int) - 1)<;>cases QK sd[i].2<;>simp)
  (by
    apply QfP
    simp[Qb0])
 simp only[QQ6,QRg]at e1 e2 e3
 simp only[Qkk,Xi,e1,e2,e3,QQ0,QzA,Zf]
 cases inR ((ns.length:Nat):Int) 1 5<;>cases decide (12<((net.length:Nat):Int))<;>cases decide (40<((sd.length:Nat):Int))<;>cases Y5 (ns.length:Nat) 0 ns<;>cases net.all (QkP (ns.length:Nat))<;>cases sd.all (Qck (ns.length:Nat))<;>rfl
theorem Qmq (ns:List Qa) (net:List Qm) (sd:List Qn) (h:smW ns net sd):qR w (ns,net,sd)=some (Zf ns net sd):=by
 apply QsM
 obtain⟨h1,h2,h3,h4,h5,h6⟩:=h
 have hw:wR (((ns.length:Nat):Int) - 1)=((ns.length:Nat):Int) - 1:=by simp only[maxLen]at h1;exact w64 (by omega) (by omega)
 have e1:=Q5 ns.length (fun i=>JK wl (((ns.length:Nat):Int),(i:Int),ns,net,sd)) (fun i=>if Y5 (ns.length:Nat) i (ns.drop i)then .inr (((ns.length:Nat):Int),ns,net,sd)else .inl false)
  (fun i hi ih=>by
    apply QfN
    simp only[QbN,ilt hi,Qj hi,Qf hi,inc hi h1,QQ1,ih,Qxj _ (h2 _ (QRf hi)),QQ0,Qrk _ _ _ _ hi]
    cases Vr ns[i]<;>cases decide (ns[i].2.1=((ns.length:Nat):Int))<;>cases decide (ns[i].1=(i:Int))<;>simp)
  (by
    apply QfN
    simp[QbN,Y5])
 have e2:=Q5 net.length (fun i=>Jk wl (((ns.length:Nat):Int),(i:Int),ns,net,sd)) (fun i=>if(net.drop i).all (QkP (ns.length:Nat))then .inr (((ns.length:Nat):Int),ns,net,sd)else .inl false)
  (fun i hi ih=>by
    apply Qfs
    simp only[Qco,ilt hi,Qj hi,Qf hi,inc hi h3,QQ1,ih,hw,Xx,QQ0,ZG _ _ _ _ hi,QkP]
    cases inR net[i].1 0 (((ns.length:Nat):Int) - 1)<;>simp)
  (by
    apply Qfs
    simp[Qco])
 have e3:=Q5 sd.length (fun i=>JD wl (((ns.length:Nat):Int),(i:Int),ns,net,sd)) (fun i=>if(sd.drop i).all (Qck (ns.length:Nat))then .inr ()else .inl false)
  (fun i hi ih=>by
    apply Qfy
    have hs:=h6 _ (QRf hi)
    simp only[Qbt,ilt hi,Qj hi,Qf hi,inc hi h5,QQ1,ih,hw,Xx,Vo _ _ hs.1 hs.2,QQ0,ZG _ _ _ _ hi,Qck]
    cases inR sd[i].1 0 (((ns.length:Nat):Int) - 1)<;>cases QK sd[i].2<;>simp)
  (by
    apply Qfy
    simp[Qbt])
 simp only[QQ6,QRg]at e1 e2 e3
 simp only[Qi4,Xx,e1,e2,e3,QQ0,QzA,Zf]
 cases inR ((ns.length:Nat):Int) 1 5<;>cases decide (12<((net.length:Nat):Int))<;>cases decide (40<((sd.length:Nat):Int))<;>cases Y5 (ns.length:Nat) 0 ns<;>cases net.all (QkP (ns.length:Nat))<;>cases sd.all (Qck (ns.length:Nat))<;>rfl
theorem Qri (n:Int):(off:Nat)->(l:List Qa)->Y5 n off l=true->(i:Nat)->(h:i<l.length)->Vr l[i]=true/\l[i].2.1=n/\l[i].1=((off+i:Nat):Int)
 |off,x::l,h,0,_=>by
  simp only[Y5,QQ5,QRu]at h
  simpa using⟨h.1.1,h.1.2.1,h.1.2.2⟩
 |off,x::l,h,i+1,hi=>by
  simp only[Y5,QQ5,QRu]at h
  have:=Qri n (off+1) l h.2 i (by simpa using hi)
  simp only[List.getElem_cons_succ]
  refine⟨this.1,this.2.1, ?_⟩
  rw[this.2.2];congr 1;omega
structure WOk (ns:List Qa) (net:List Qm) (sd:List Qn):Prop where
 n1:1<=ns.length
 n5:ns.length<=5
 net12:net.length<=12
 sd40:sd.length<=40
 nodes:Y5 (ns.length:Nat) 0 ns=true
 nets:∀p∈net,inR p.1 0 ((ns.length:Nat) - 1)=true
 sds:∀x∈sd,inR x.1 0 ((ns.length:Nat) - 1)=true/\QK x.2=true
theorem yx {ns:List Qa}{net:List Qm}{sd:List Qn}(h:Zf ns net sd=true):WOk ns net sd:=by
 simp only[Zf,QQ5,QRt,Qck,QkP,QY10,decide_eq_false_iff_not,inR,QRu]at h
 obtain⟨h1,h2,h3,h4,h5,h6⟩:=h
 refine⟨by omega,by omega,by omega,by omega,h4,fun p hp=> ?_,fun x hx=> ?_⟩
 ·simp only[inR,QQ5,QRu];exact h5 p hp
 ·simp only[inR,QQ5,QRu];exact h6 x hx
theorem WOk.node {ns:List Qa}{net:List Qm}{sd:List Qn}(h:WOk ns net sd) {i:Nat}(hi:i<ns.length):Vr ns[i]=true/\ns[i].2.1=ns.length/\ns[i].1=(i:Int):=by
 have:=Qri _ 0 ns h.nodes i hi
 simpa using this
theorem YK {p:Int}{n:Nat}(h:inR p 0 ((n:Int) - 1)=true):∃i:Nat,p=(i:Int)/\i<n:=by
 simp only[inR,QQ5,QRu]at h
 exact⟨p.toNat,by omega,by omega⟩
theorem QNd {ns:List Qa}(h:ns.length<=maxLen):wR (((ns.length:Nat):Int) - 1)=((ns.length:Nat):Int) - 1:=by
 simp only[maxLen]at h
 exact w64 (by omega) (by omega)
def QJb {α:Type}(c:α->Int):Int->List α->Int
 |k,[]=>k
 |k,x::l=>QJb c (wR (k+c x)) l
def kept (ns:List Qa) (net:List Qm) (sd:List Qn):Int:=bif Zf ns net sd then QJb (fun x:Qa=>((x.2.2.2.2.2.2.2.2.1.length:Nat):Int)) 0 ns else 0
def two (ns:List Qa) (net:List Qm) (sd:List Qn) (p q:Int):Bool:=Zf ns net sd&&(inR p 0 ((ns.length:Nat) - 1)&&(inR q 0 ((ns.length:Nat) - 1)&& !decide (p=q)))
theorem QEn (ns:List Qa) (net:List Qm) (sd:List Qn) (p q:Int) (h:smW ns net sd):Qe4 w (ns,net,sd,p,q)=some (two ns net sd p q):=by
 apply QwE
 simp only[QlD,Qmq ns net sd h,QNd h.1,Xx,QQ0,two]
 cases Zf ns net sd<;>cases inR p 0 ((ns.length:Nat) - 1)<;>cases inR q 0 ((ns.length:Nat) - 1)<;>rfl
def nodeAt (ns:List Qa) (p:Int):Qa:=rd1 Qv ns p
theorem jA {ns:List Qa}{i:Nat}(h:i<ns.length):nodeAt ns (i:Int)=ns[i]:=Qf h
def lag (ns:List Qa) (net:List Qm) (sd:List Qn) (p q:Int):Int:=bif two ns net sd p q then wR (Xo ((nodeAt ns p).2.2.2.2.2.2.1,(nodeAt ns p).2.2.2.2.2.2.2.1,(nodeAt ns p).2.2.2.2.2.2.2.2.1) - rd1 0 (nodeAt ns p).2.2.2.2.2.2.2.2.2.2.1 q)else -1
def behind (ns:List Qa) (net:List Qm) (sd:List Qn) (p q:Int):Bool:=bif decide (0<=lag ns net sd p q)then decide ((((nodeAt ns p).2.2.2.2.2.2.2.2.1.length:Nat):Int)<lag ns net sd p q)else false
def QqG (ns:List Qa) (net:List Qm) (sd:List Qn) (t:Int):Qb:=bif Zf ns net sd then(bif decide (((ns.length:Nat):Int)<2)then(-1, -1)else bif decide (t<0)then(-1, -1)else((Int.tmod t (((List.length ns):Nat):Int)),(Int.tmod (wR ((wR ((Int.tmod t (((List.length ns):Nat):Int))+1))+(Int.tmod (wR (Int.tdiv t (((List.length ns):Nat):Int))) (wR ((((List.length ns):Nat):Int) - 1))))) (((List.length ns):Nat):Int))))else(-1, -1)
def live (x:Qg):Bool:=decide (x.2.2.1=0)
def view (s:Qk):List Qg:=bif QK s then s.1.filter live else []
def lookup (s:Qk) (id:Int):Int×Int×Int×Int×ByteArray×Bool:=QW id (view s)
theorem Qxw (fl:List Qb):(p:Int)->(l:List Qg)->Xu fl p l=true->Qi XD l<=8*l.length
 |_,[],_=>by simp[Qi]
 |p,x::l,h=>by
  have hx:=Qqm fl p (x::l) h x (by simp)
  simp only[Xu,QQ5]at h
  have:=Qxw fl _ l h.2
  simp only[Qi,XD,VI,QY8];omega
theorem Qal (a:List Int) (ha:a.length<=4294967296):Zx w a=some a:=by
 apply Qsq
 have hf:fits a.length 8=true:=Qw (by omega)
 simp[QhI,hf]
theorem Qzb (a b:Int):QbM w (a,b)=some (mnI a b):=by
 apply QxS
 simp only[Qnt,mnI]
 by_cases h:a<b
 ·rw[dt h,QQ1,if_neg (by omega)]
 ·rw[df h,QQ2]
  by_cases h2:b<a
  ·rw[if_pos h2]
  ·rw[if_neg h2];congr 1;omega
theorem yp (s:Qk) (h:QF s<=4294967296):Zy w s=some s:=by
 obtain⟨a,b⟩:=s
 apply QqQ
 simp only[QF,XO,XI]at h
 simp only[Qgp,QY9,QRe,QRo,Qw (show a.length*56<=140737488351232 by omega),Qw (show b.length*16<=140737488351232 by omega),QQ1]
theorem Qf6 (s:Qk) (h:QF s<=4294967296):Kd w s=some s:=by
 obtain⟨a,b⟩:=s
 apply QvW
 simp only[QF,XO,XI]at h
 simp only[QkS,QY9,QRe,QRo,Qw (show a.length*56<=140737488351232 by omega),Qw (show b.length*16<=140737488351232 by omega),QQ1]
theorem Qmx (x:X5) (h:Zq x<=4294967296):ZY w x=some x:=by
 obtain⟨a,b⟩:=x
 apply Qsj
 simp only[Zq,QS]at h
 simp only[Qhc,Qal a (by omega),QQ0]
theorem Qpm (x:X5) (h:Zq x<=4294967296):Ki w x=some x:=by
 obtain⟨a,b⟩:=x
 apply QwA
 simp only[Zq,QS]at h
 simp only[Qli,QY9,QRe,QRo,Qw (show a.length*8<=140737488351232 by omega),QQ1]
theorem QCZ (x:ZL) (h:Z8 x<=4294967296):QbU w x=some x:=by
 obtain⟨a,b,l⟩:=x
 apply Qu3
 simp only[Z8,XQ]at h
 have e:=Vl l (fun i out=>JG wl (l,((l.length:Nat):Int),(i:Int),a,b,out)) (fun out=>(a,b,out))
  (fun i hi out r ho hk=>by
    apply Qe9
    have:=Xz QF l i hi
    simp only[Qdi,ilt hi,Qj hi,Qf hi,inc hi (show l.length<=maxLen by simp only[maxLen];omega),QQ1,yp _ (show QF l[i]<=4294967296 by omega),QQ0]
    rw[Qw (by simp[ho];omega)];exact hk)
  (fun out ho=>by
    apply Qe9
    simp only[Qdi,Qo,QQ2])
 simp only[QQ6]at e
 simp only[QjK,e,QQ0]
theorem QEM (x:ZL) (h:Z8 x<=4294967296):Qew w x=some x:=by
 obtain⟨a,b,l⟩:=x
 apply Qvv
 simp only[Z8,XQ]at h
 have e:=Vl l (fun i out=>qV wl ((i:Int),a,b,l,a,b,out)) (fun out=>(a,b,out))
  (fun i hi out r ho hk=>by
    apply QhD
    have:=Xz QF l i hi
    simp only[Qd0,ilt hi,Qj hi,Qf hi,inc hi (show l.length<=maxLen by simp only[maxLen];omega),QQ1,Qf6 _ (show QF l[i]<=4294967296 by omega),QQ0]
    rw[Qw (by simp[ho];omega)];exact hk)
  (fun out ho=>by
    apply QhD
    simp only[Qd0,Qo,QQ2])
 simp only[QQ6]at e
 simp only[Ql9,e,QQ0]
theorem Qpz (l:List (List Int)) (h:Xr l<=4294967296):qU w l=some l:=by
 apply QqW
 simp only[Xr]at h
 have e:=Vl l (fun i out=>K9 wl (l,((l.length:Nat):Int),(i:Int),out)) (fun out=>out)
  (fun i hi out r ho hk=>by
    apply QcI
    have:=Xz QS l i hi
    simp only[QS]at this
    simp only[vc,ilt hi,Qj hi,Qf hi,inc hi (show l.length<=maxLen by simp only[maxLen];omega),QQ1,Qal l[i] (by omega),QQ0]
    rw[Qw (by simp[ho];omega)];exact hk)
  (fun out ho=>by
    apply QcI
    simp only[vc,Qo,QQ2])
 simp only[QQ6]at e
 simp only[Qfn,e,QQ0]
theorem Qxt (l:List (List Int)) (h:Xr l<=4294967296):vp w l=some l:=by
 apply Qwg
 simp only[Xr]at h
 have e:=Vl l (fun i out=>xD wl (l,(i:Int),out)) (fun out=>out)
  (fun i hi out r ho hk=>by
    apply Qhr
    have:=Xz QS l i hi
    simp only[QS]at this
    simp only[QdS,ilt hi,Qj hi,Qf hi,inc hi (show l.length<=maxLen by simp only[maxLen];omega),QQ1,QY9,QRe,QRo,Qw (show l[i].length*8<=140737488351232 by omega)]
    rw[Qw (by simp[ho];omega)];exact hk)
  (fun out ho=>by
    apply Qhr
    simp only[QdS,Qo,QQ2])
 simp only[QQ6]at e
 simp only[QkR,e,QQ0]
theorem Qxz {x:Qa}(h:Q7 x<=4294967296):x.2.2.2.2.2.2.2.2.2.1.length<=4294967296/\x.2.2.2.2.2.2.2.2.2.2.1.length<=4294967296/\x.2.2.2.2.2.2.2.2.2.2.2.2.2.2.1.length<=4294967296/\x.2.2.2.2.2.2.2.2.2.2.2.2.2.2.2.2.2.2.length<=4294967296:=by
 simp only[Q7,QS,ZZ,Z0]at h
 omega
theorem Kc {x:Qa}(h:Q7 x<=4294967296):QF (x.2.2.1,x.2.2.2.1)<=4294967296/\Zq (x.2.2.2.2.1,x.2.2.2.2.2.1)<=4294967296/\Z8 (x.2.2.2.2.2.2.1,x.2.2.2.2.2.2.2.1,x.2.2.2.2.2.2.2.2.1)<=4294967296/\Xr x.2.2.2.2.2.2.2.2.2.2.2.1<=4294967296:=by
 simp only[Q7]at h
 omega
theorem Qrg (x:Qa) (h:Q7 x<=4294967296):ZW w x=some x:=by
 have hl:=Qxz h
 have hp:=Kc h
 obtain⟨a0,a1,a2,a3,a4,a5,a6,a7,a8,a9,a10,a11,a12,a13,a14,a15,a16,a17,a18⟩:=x
 apply Qsw
 obtain⟨h9,h10,h14,h18⟩:=hl
 obtain⟨h2,h4,h6,h11⟩:=hp
 simp only at h9 h10 h14 h18 h2 h4 h6 h11
 simp only[Qhu,yp (a2,a3) h2,Qmx (a4,a5) h4,QCZ (a6,a7,a8) h6,Qpz a11 h11,Qal a9 h9,Qal a10 h10,Qw (show a14.length*32<=140737488351232 by omega),Qw (show a18.length*24<=140737488351232 by omega),QY9,QRe,QRo,QQ0,QQ1]
theorem Qt0 (x:Qa) (h:Q7 x<=4294967296):Xt w x=some x:=by
 have hl:=Qxz h
 have hp:=Kc h
 obtain⟨a0,a1,a2,a3,a4,a5,a6,a7,a8,a9,a10,a11,a12,a13,a14,a15,a16,a17,a18⟩:=x
 apply Qti
 obtain⟨h9,h10,h14,h18⟩:=hl
 obtain⟨h2,h4,h6,h11⟩:=hp
 simp only at h9 h10 h14 h18 h2 h4 h6 h11
 simp only[Qkw,Qf6 (a2,a3) h2,Qpm (a4,a5) h4,QEM (a6,a7,a8) h6,Qxt a11 h11,Qw (show a9.length*8<=140737488351232 by omega),Qw (show a10.length*8<=140737488351232 by omega),Qw (show a14.length*32<=140737488351232 by omega),Qw (show a18.length*24<=140737488351232 by omega),QY9,QRe,QRo,QQ0,QQ1]
theorem Qsn {α:Type}(l:List α) (k:Int) (h0:0<=k) (h:k<=(l.length:Int)):List.take (Int.toNat ((l.length:Int) - k)) (List.drop (Int.toNat k) l)=l.drop k.toNat:=by
 rw[List.take_of_length_le]
 rw[QY28];omega
theorem QAN (p:Qm) (h:Xe p<=4294967296):vJ w p=some p:=by
 obtain⟨a,b,c⟩:=p
 apply Qsr
 simp only[Xe,Zk]at h
 have:=Qax [b] (by simp[maxLen]) (by simp;omega)
 simp only[QhC,this,QQ0];simp
theorem QDC (p:Qm) (h:Xe p<=4294967296):Qbi w p=some p:=by
 obtain⟨a,b,c⟩:=p
 apply QuB
 simp only[Xe,Zk]at h
 simp only[Qj6,QY9,QRe,QRo,Qw (show b.length*1<=140737488351232 by omega),QQ1]
theorem Qjo (ns:List Qa) (net:List Qm) (sd:List Qn) (h:Q6 (ns,net,sd)<=4294967296):Y7 w (ns,net,sd)=some (ns,net,sd):=by
 apply Qq0
 simp only[Q6,XR,Xn,XU]at h
 have e0:=Vl ns (fun i out=>K7 wl (ns,((ns.length:Nat):Int),(i:Int),ns,net,sd,out,[],[])) (fun out=>(ns,net,sd,out,[],[]))
  (fun i hi out r ho hk=>by
    apply QaQ
    have:=Xz Q7 ns i hi
    simp only[j9,ilt hi,Qj hi,Qf hi,inc hi (show ns.length<=maxLen by simp only[maxLen];omega),QQ1,Qrg _ (show Q7 ns[i]<=4294967296 by omega),QQ0]
    rw[Qw (by simp[ho];omega)];exact hk)
  (fun out ho=>by
    apply QaQ
    simp only[j9,Qo,QQ2])
 have e2:=Vl net (fun i out=>K6 wl (net,((net.length:Nat):Int),(i:Int),ns,net,sd,ns,out,[])) (fun out=>(ns,net,sd,ns,out,[]))
  (fun i hi out r ho hk=>by
    apply QaN
    have:=Xz Xe net i hi
    simp only[jM,ilt hi,Qj hi,Qf hi,inc hi (show net.length<=maxLen by simp only[maxLen];omega),QQ1,QAN _ (show Xe net[i]<=4294967296 by omega),QQ0]
    rw[Qw (by simp[ho];omega)];exact hk)
  (fun out ho=>by
    apply QaN
    simp only[jM,Qo,QQ2])
 have e4:=Vl sd (fun i out=>K5 wl (sd,((sd.length:Nat):Int),(i:Int),ns,net,out)) (fun out=>(ns,net,out))
  (fun i hi out r ho hk=>by
    apply QbC
    have:=Xz Xl sd i hi
    have:QF sd[i].2<=4294967296:=by simp only[Xl]at this;exact QY17 this (by omega)
    simp only[j6,ilt hi,Qj hi,Qf hi,inc hi (show sd.length<=maxLen by simp only[maxLen];omega),QQ1,yp _ this,QQ0]
    rw[Qw (by simp[ho];omega)];exact hk)
  (fun out ho=>by
    apply QbC
    simp only[j6,Qo,QQ2])
 simp only[QQ6]at e0 e2 e4
 simp only[QgC,e0,e2,e4,QQ0]
theorem QoV (ns:List Qa) (net:List Qm) (sd:List Qn) (h:Q6 (ns,net,sd)<=4294967296):Vy w (ns,net,sd)=some (ns,net,sd):=by
 apply QtU
 simp only[Q6,XR,Xn,XU]at h
 have e0:=Vl ns (fun i out=>JO wl ((i:Int),ns,net,sd,out,[],[])) (fun out=>(ns,net,sd,out,[],[]))
  (fun i hi out r ho hk=>by
    apply Qfm
    have:=Xz Q7 ns i hi
    simp only[Qb7,ilt hi,Qj hi,Qf hi,inc hi (show ns.length<=maxLen by simp only[maxLen];omega),QQ1,Qt0 _ (show Q7 ns[i]<=4294967296 by omega),QQ0]
    rw[Qw (by simp[ho];omega)];exact hk)
  (fun out ho=>by
    apply Qfm
    simp only[Qb7,Qo,QQ2])
 have e2:=Vl net (fun i out=>J7 wl ((i:Int),ns,net,sd,ns,out,[])) (fun out=>(ns,net,sd,ns,out,[]))
  (fun i hi out r ho hk=>by
    apply QfM
    have:=Xz Xe net i hi
    simp only[Qcn,ilt hi,Qj hi,Qf hi,inc hi (show net.length<=maxLen by simp only[maxLen];omega),QQ1,QDC _ (show Xe net[i]<=4294967296 by omega),QQ0]
    rw[Qw (by simp[ho];omega)];exact hk)
  (fun out ho=>by
    apply QfM
    simp only[Qcn,Qo,QQ2])
 have e4:=Vl sd (fun i out=>JS wl ((i:Int),ns,net,sd,ns,net,out)) (fun out=>(ns,net,out))
  (fun i hi out r ho hk=>by
    apply QgJ
    have:=Xz Xl sd i hi
    have:QF sd[i].2<=4294967296:=by simp only[Xl]at this;exact QY17 this (by omega)
    simp only[Qcf,ilt hi,Qj hi,Qf hi,inc hi (show sd.length<=maxLen by simp only[maxLen];omega),QQ1,Qf6 _ this,QQ0]
    rw[Qw (by simp[ho];omega)];exact hk)
  (fun out ho=>by
    apply QgJ
    simp only[Qcf,Qo,QQ2])
 simp only[QQ6]at e0 e2 e4
 simp only[QiS,e0,e2,e4,QQ0]
def zO (a b:Qk) (id:Int):XM:=VR (Z3 (QW id a.1)) (Z3 (QW id b.1))
def Ze (a b:Qk) (id:Int):Int:=mxI (Q4 id a.2) (Q4 id b.2)
def QnJ (a b:Qk) (i:Nat):List Qg:=bif decide (Ze a b (i:Int)<(zO a b (i:Int)).1)then [((i:Int),zO a b (i:Int))]else []
def yL (a b:Qk) (i:Nat):List Qb:=bif decide (0<Ze a b (i:Int))then [((i:Int),Ze a b (i:Int))]else []
def join (a b:Qk):Qk:=((List.range' 0 5).flatMap (QnJ a b),(List.range' 0 5).flatMap (yL a b))
theorem Qs9 (id:Int):(p:Int)->(l:List Qb)->QR p l=true->0<=Q4 id l/\Q4 id l<=1000
 |_,[],_=>by simp[Q4]
 |p,x::l,h=>by
  simp only[QR,QQ5]at h
  have ih:=Qs9 id _ l h.2
  have hx:=h.1.1.2
  simp only[inR,QQ5,QRu]at hx
  simp only[Q4]
  split
  ·omega
  ·exact ih
theorem Qxg (fl:List Qb) (id:Int):(p:Int)->(l:List Qg)->Xu fl p l=true->(Zd (Z3 (QW id l))=true/\(QW id l).2.2.2.2.2=true)\/(Z3 (QW id l)=(0,0,0,0,ByteArray.empty)/\(QW id l).2.2.2.2.2=false)
 |_,[],_=>Or.inr ⟨rfl,rfl⟩
 |p,x::l,h=>by
  simp only[Xu,QQ5]at h
  have ih:=Qxg fl id _ l h.2
  simp only[QW]
  split
  ·exact Or.inl ⟨h.1.1.1.2,rfl⟩
  ·exact ih
theorem Qza {s:Qk}(h:QK s=true) (id:Int):0<=Q4 id s.2/\Q4 id s.2<=1000:=by
 simp only[QK,QQ5]at h
 exact Qs9 id _ _ h.1
theorem Qjz {s:Qk}(h:QK s=true) (id:Int):(Zd (Z3 (QW id s.1))=true/\(QW id s.1).2.2.2.2.2=true)\/(Z3 (QW id s.1)=(0,0,0,0,ByteArray.empty)/\(QW id s.1).2.2.2.2.2=false):=by
 simp only[QK,QQ5]at h
 exact Qxg _ id _ _ h.2
theorem Qw4 (x y:XM):VR x y=x\/VR x y=y:=by
 unfold VR;split
 ·exact Or.inr rfl
 ·exact Or.inl rfl
theorem QGs {a b:Qk}(ha:QK a=true) (hb:QK b=true) (id:Int):Zd (zO a b id)=true\/zO a b id=(0,0,0,0,ByteArray.empty):=by
 unfold zO
 rcases Qw4 (Z3 (QW id a.1)) (Z3 (QW id b.1))with e|e
 ·rw[e];rcases Qjz ha id with h|h
  ·exact Or.inl h.1
  ·exact Or.inr h.1
 ·rw[e];rcases Qjz hb id with h|h
  ·exact Or.inl h.1
  ·exact Or.inr h.1
theorem QlJ {a b:Qk}(ha:QK a=true) (hb:QK b=true) (id:Int):0<=Ze a b id/\Ze a b id<=1000:=by
 have h1:=Qza ha id
 have h2:=Qza hb id
 unfold Ze mxI;split<;>omega
theorem za (f:Nat->List Qb) (hf:∀i,i<5->f i=[]\/∃v,f i=[((i:Int),v)]/\inR v 1 1000=true):(n i:Nat)->(p:Int)->i+n<=5->p<(i:Int)->QR p ((List.range' i n).flatMap f)=true
 |0,_,_,_,_=>rfl
 |n+1,i,p,hn,hp=>by
  rw[List.range'_succ,QY22]
  rcases hf i (by omega)with e|⟨v,e,hv⟩
  ·rw[e];exact za f hf n (i+1) p (by omega) (by omega)
  ·rw[e,List.singleton_append]
   simp only[QR,QQ5,hv,dt hp,za f hf n (i+1) (i:Int) (by omega) (by omega),and_true]
   simp[inR];omega
theorem Qjn (fl:List Qb) (f:Nat->List Qg) (hf:∀i,i<5->f i=[]\/∃e,f i=[((i:Int),e)]/\Zd e=true/\Q4 (i:Int) fl<e.1):(n i:Nat)->(p:Int)->i+n<=5->p<(i:Int)->Xu fl p ((List.range' i n).flatMap f)=true
 |0,_,_,_,_=>rfl
 |n+1,i,p,hn,hp=>by
  rw[List.range'_succ,QY22]
  rcases hf i (by omega)with e|⟨v,e,hv,hl⟩
  ·rw[e];exact Qjn fl f hf n (i+1) p (by omega) (by omega)
  ·rw[e,List.singleton_append]
   simp only[Xu,QQ5,hv,dt hp,dt hl,Qjn fl f hf n (i+1) (i:Int) (by omega) (by omega),and_true]
   simp[inR];omega
theorem QAH (id:Int) (l m:List Qb) (h:∀x∈l,x.1≠id):Q4 id (l++m)=Q4 id m:=by
 induction l with
 |nil=>rfl
 |cons x l ih=>rw[QRv,Q4,if_neg (h x (by simp)),ih fun y hy=>h y (by simp[hy])]
theorem Qjg (f:Nat->List Qb) (hf:∀i,f i=[]\/∃v,f i=[((i:Int),v)]):(n i k:Nat)->Q4 (k:Int) ((List.range' i n).flatMap f)=if i<=k/\k<i+n then Q4 (k:Int) (f k)else 0
 |0,i,k=>by rw[if_neg (by omega)];rfl
 |n+1,i,k=>by
  rw[List.range'_succ,QY22]
  by_cases hk:i=k
  ·subst hk
   rw[if_pos (by omega)]
   rcases hf i with e|⟨v,e⟩
   ·rw[e,QRe,Qjg f hf n (i+1) i,if_neg (by omega)];rfl
   ·rw[e,List.singleton_append,Q4,if_pos rfl,Q4,if_pos rfl]
  ·rw[QAH,Qjg f hf n (i+1) k]
   ·by_cases h:i+1<=k/\k<i+1+n
    ·rw[if_pos h,if_pos (by omega)]
    ·rw[if_neg h,if_neg (by omega)]
   ·intro x hx
    rcases hf i with e|⟨v,e⟩
    ·rw[e]at hx;simp at hx
    ·rw[e]at hx
     obtain rfl:x=((i:Int),v):=by simpa using hx
     simp;omega
theorem QEw (a b:Qk) (i:Nat):yL a b i=[]\/∃v,yL a b i=[((i:Int),v)]:=by
 unfold yL;cases decide (0<Ze a b (i:Int))
 ·exact Or.inl rfl
 ·exact Or.inr ⟨_,rfl⟩
theorem Qzz {a b:Qk}(ha:QK a=true) (hb:QK b=true) {k:Nat}(hk:k<5):Q4 (k:Int) (join a b).2=Ze a b (k:Int):=by
 have h:=QlJ ha hb (k:Int)
 show Q4 (k:Int) ((List.range' 0 5).flatMap (yL a b))=_
 rw[Qjg _ (QEw a b),if_pos (by omega)]
 unfold yL
 by_cases h0:0<Ze a b (k:Int)
 ·simp[h0,Q4]
 ·simp[h0,Q4];omega
theorem QE7 {e:XM}(h:Zd e=true\/e=(0,0,0,0,ByteArray.empty)) (h0:0<e.1):Zd e=true:=by
 rcases h with h|h
 ·exact h
 ·rw[h]at h0;exact absurd h0 (by decide)
theorem xG {a b:Qk}(ha:QK a=true) (hb:QK b=true):QK (join a b)=true:=by
 simp only[QK,QQ5]
 constructor
 ·refine za _ (fun i hi=> ?_) 5 0 (-1) (by omega) (by simp)
  have h:=QlJ ha hb (i:Int)
  unfold yL
  by_cases h0:0<Ze a b (i:Int)
  ·exact Or.inr ⟨Ze a b (i:Int),by simp[h0],by simp[inR];omega⟩
  ·exact Or.inl (by simp[h0])
 ·refine Qjn _ _ (fun i hi=> ?_) 5 0 (-1) (by omega) (by simp)
  have h:=QlJ ha hb (i:Int)
  unfold QnJ
  by_cases h0:Ze a b (i:Int)<(zO a b (i:Int)).1
  ·refine Or.inr ⟨zO a b (i:Int),by simp[h0],QE7 (QGs ha hb _) (by omega), ?_⟩
   rw[Qzz ha hb hi];exact h0
  ·exact Or.inl (by simp[h0])
def Zb (s:Qk) (id:Int):Int:=bif QK s then(bif (QW id s.1).2.2.2.2.2 then(bif decide ((QW id s.1).2.1=1)then(QW id s.1).1 else(QW id s.1).1 - 1)else Q4 id s.2)else 0
def Qm0 (s:Qk) (i:Nat):List Qb:=bif decide (0<Zb s (i:Int))then [((i:Int),Zb s (i:Int))]else []
def marksOf (s:Qk):List Qb:=(List.range' 0 5).flatMap (Qm0 s)
theorem Qs2 (s:Qk) (id:Int):0<=Zb s id/\Zb s id<=1000:=by
 unfold Zb
 cases h:QK s
 ·simp
 ·have hf:=Qza h id
  rcases Qjz h id with⟨he,hb⟩|⟨he,hb⟩
  ·rw[hb]
   simp only[Zd,QQ5,inR,QRu]at he
   have:=he.1.1.1.1
   simp only[Z3]at this
   simp only[QQ1]
   cases decide ((QW id s.1).2.1=1)
   ·simp only[QQ2];omega
   ·simp only[QQ1];omega
  ·rw[hb];simp only[QQ1,QQ2];omega
theorem jo (s:Qk):QR (-1) (marksOf s)=true:=by
 refine za _ (fun i hi=> ?_) 5 0 (-1) (by omega) (by simp)
 have h:=Qs2 s (i:Int)
 unfold Qm0
 by_cases h0:0<Zb s (i:Int)
 ·exact Or.inr ⟨Zb s (i:Int),by simp[h0],by simp[inR];omega⟩
 ·exact Or.inl (by simp[h0])
end Go.Proofs.YtiejfnbmficbmaaGreat.M
