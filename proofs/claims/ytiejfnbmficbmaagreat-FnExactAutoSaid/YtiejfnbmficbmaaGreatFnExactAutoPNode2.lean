/- What the plain forms that FnExactAuto reaches come to: PNode2. No conditions but those that each theorem states. -/
import Derived.Test.YtiejfnbmficbmaaGreatFnExactAutoPEntry
set_option linter.all false
namespace Go.Proofs.YtiejfnbmficbmaaGreat.M
open Go Go.Eng Go.Proofs
set_option linter.unusedVariables false
def Z3 (clock:Int) (r:QO):Bool:=inR r.1 0 1000&&inR r.2.1 0 100000&&inR r.2.2 0 clock
theorem QEH (a0 a1:Int) (a2:List Qd) (a3:List Qa) (a4:List Int) (a5 a6 a7:Int) (a8:List Qi) (a9 a10:List Int) (a11:List (List Int)) (a12 a13:Int) (a14:List Qz) (a15 a16 a17:Int) (a18:List QO) (h:a18.length<=maxLen):Qdd w (a0,a1,a2,a3,a4,a5,a6,a7,a8,a9,a10,a11,a12,a13,a14,a15,a16,a17,a18)=some ((a18.all (Z3 a17))&&decide (((a18.length:Nat):Int)=5)):=by
 apply QuM
 have e:=Q7 a18.length (fun i=>JT wl (a18,((a18.length:Nat):Int),(i:Int),a0,a1,a2,a3,a4,a5,a6,a7,a8,a9,a10,a11,a12,a13,a14,a15,a16,a17,a18)) (fun i=>if(a18.drop i).all (Z3 a17)then .inr (a0,a1,a2,a3,a4,a5,a6,a7,a8,a9,a10,a11,a12,a13,a14,a15,a16,a17,a18)else .inl false)
  (fun i hi ih=>by
    apply QgK
    rw[ZV (Z3 a17) a18 _ _ hi]
    simp only[QcB,ilt hi,Qk hi,Qg hi,inc hi h,QQ1,Xi,QQ0,ih,Z3]
    cases inR a18[i].1 0 1000<;>cases inR a18[i].2.1 0 100000<;>cases inR a18[i].2.2 0 a17<;>simp)
  (by
    apply QgK
    simp[QcB])
 simp only[QQ6,QRg]at e
 simp only[Qjc,e,QQ0]
 cases a18.all (Z3 a17)
 ·simp[Qp]
 ·simp only[if_true,Qp,QY0,QRd]
def Zx (x y:Qz):Bool:=decide (y.1=x.1)&&(y.2.2.1==x.2.2.1)
def Xj (p:Int) (b:Bool):Nat->List Qz->Int⊕Unit
 |_,[]=> .inr ()
 |i,y::l=>bif decide (y.1=p)&&(y.2.2.1==b)then .inl (i:Nat)else Xj p b (i+1) l
def Xw:Int⊕Unit->Int
 | .inl i=>i
 | .inr _=> -1
theorem QD4 (z:Int⊕Unit):Qp z (fun u=>some u) (fun _=>some (-1))=some (Xw z):=by cases z<;>rfl
theorem QCO (a0 a1:Int) (a2:List Qd) (a3:List Qa) (a4:List Int) (a5 a6 a7:Int) (a8:List Qi) (a9 a10:List Int) (a11:List (List Int)) (a12 a13:Int) (a14:List Qz) (a15 a16 a17:Int) (a18:List QO) (p:Int) (b:Bool) (h:a14.length<=maxLen):xR w (a0,a1,a2,a3,a4,a5,a6,a7,a8,a9,a10,a11,a12,a13,a14,a15,a16,a17,a18,p,b)=some (Xw (Xj p b 0 a14)):=by
 apply QBr
 have e:=Q7 a14.length (fun i=>qW wl (p,b,a14,((a14.length:Nat):Int),(i:Int))) (fun i=>Xj p b i (a14.drop i))
  (fun i hi ih=>by
    apply QlQ
    simp only[QiW,ilt hi,Qk hi,Qg hi,inc hi h,QQ1,ih]
    rw[QRa hi,Xj]
    cases decide (a14[i].1=p)<;>cases(a14[i].2.2.1==b)<;>simp)
  (by
    apply QlQ
    simp[QiW,Xj])
 simp only[QQ6,QRg]at e
 simp only[Qpt,e,QQ0,QD4]
theorem QC8 (x:Qz):(off:Nat)->(l:List Qz)->(i:Nat)->(h:i<l.length)->l[i]=x->((off:Int)<=Xw (Xj x.1 x.2.2.1 off l)/\Xw (Xj x.1 x.2.2.1 off l)<=off+i/\(Xw (Xj x.1 x.2.2.1 off l)=off+i↔(l.take i).any (Zx x)=false))
 |off,y::l,0,_,hx=>by
  have:y=x:=hx
  subst this
  simp[Xj,Xw]
 |off,y::l,i+1,h,hx=>by
  have ih:=QC8 x (off+1) l i (by simpa using h) (by simpa using hx)
  rw[Xj]
  have hk:(decide (y.1=x.1)&&(y.2.2.1==x.2.2.1))=Zx x y:=rfl
  rw[hk,List.take_succ_cons,List.any_cons]
  cases Zx x y
  ·simp only[QQ2,Bool.false_or]
   refine⟨by omega,by omega, ?_⟩
   rw[<-ih.2.2];omega
  ·simp only[QQ1,Bool.true_or,Xw]
   refine⟨by omega,by omega, ?_⟩
   constructor
   ·intro h;omega
   ·intro h;cases h
def zg (id n p:Int):Bool:=inR p 0 (n - 1)&& !decide (p=id)
theorem Qxv (a0 a1:Int) (a2:List Qd) (a3:List Qa) (a4:List Int) (a5 a6 a7:Int) (a8:List Qi) (a9 a10:List Int) (a11:List (List Int)) (a12 a13:Int) (a14:List Qz) (a15 a16 a17:Int) (a18:List QO) (p:Int) (hn:inR a1 1 5=true):zL w (a0,a1,a2,a3,a4,a5,a6,a7,a8,a9,a10,a11,a12,a13,a14,a15,a16,a17,a18,p)=some (zg a0 a1 p):=by
 apply QvR
 simp[inR]at hn
 simp only[QlO,zg]
 rw[w64 (by omega) (by omega),Xi,QQ0]
 cases inR p 0 (a1 - 1)<;>simp
def Kl (id n wait:Int) (x:Qz):Bool:=zg id n x.1&&inR x.2.1 0 100000&&inR x.2.2.2 0 wait
def Zb (id n wait:Int):List Qz->List Qz->Bool
 |_,[]=>true
 |pre,x::l=>Kl id n wait x&& !pre.any (Zx x)&&Zb id n wait (pre++[x]) l
theorem QuS {R:Type}(id n wait:Int) (l:List Qz) (x y:R) {i:Nat}(hi:i<l.length):
 (if Zb id n wait (l.take i) (l.drop i)then x else y)=(bif Kl id n wait l[i]&& !(l.take i).any (Zx l[i])then(if Zb id n wait (l.take (i+1)) (l.drop (i+1))then x else y)else y):=by
 rw[QRa hi,Zb]
 have:l.take i++[l[i]]=l.take (i+1):=by rw[List.take_add_one];simp[hi]
 rw[this]
 cases Kl id n wait l[i]&& !(l.take i).any (Zx l[i])<;>simp
theorem QFx (a0 a1:Int) (a2:List Qd) (a3:List Qa) (a4:List Int) (a5 a6 a7:Int) (a8:List Qi) (a9 a10:List Int) (a11:List (List Int)) (a12 a13:Int) (a14:List Qz) (a15 a16 a17:Int) (a18:List QO) (hn:inR a1 1 5=true) (h:a14.length<=maxLen):Qe3 w (a0,a1,a2,a3,a4,a5,a6,a7,a8,a9,a10,a11,a12,a13,a14,a15,a16,a17,a18)=some (Zb a0 a1 a15 [] a14&&(inR a13 1 4&&decide (((a14.length:Nat):Int)<=a13))):=by
 apply Qxe
 have e:=Q7 a14.length (fun i=>xz wl (a14,((a14.length:Nat):Int),(i:Int),a0,a1,a2,a3,a4,a5,a6,a7,a8,a9,a10,a11,a12,a13,a14,a15,a16,a17,a18)) (fun i=>if Zb a0 a1 a15 (a14.take i) (a14.drop i)then .inr (a0,a1,a2,a3,a4,a5,a6,a7,a8,a9,a10,a11,a12,a13,a14,a15,a16,a17,a18)else .inl false)
  (fun i hi ih=>by
    apply Qhk
    rw[QuS a0 a1 a15 a14 _ _ hi]
    have hs:=QC8 a14[i] 0 a14 i hi rfl
    have hs':decide (Xw (Xj a14[i].1 a14[i].2.2.1 0 a14)=(i:Int))= !(a14.take i).any (Zx a14[i]):=by
     cases hb:(a14.take i).any (Zx a14[i])
     ·rw[dt (by have:=hs.2.2.2 hb;omega)];rfl
     ·rw[df (fun h=>by have:=hs.2.2.1 (by omega);rw[hb]at this;cases this)];rfl
    simp only[Qew,ilt hi,Qk hi,Qg hi,inc hi h,QQ1,Qxv a0 a1 a2 a3 a4 a5 a6 a7 a8 a9 a10 a11 a12 a13 a14 a15 a16 a17 a18 _ hn,QCO a0 a1 a2 a3 a4 a5 a6 a7 a8 a9 a10 a11 a12 a13 a14 a15 a16 a17 a18 _ _ h,Xi,QQ0,ih,Kl,hs']
    cases zg a0 a1 a14[i].1<;>cases inR a14[i].2.1 0 100000<;>cases inR a14[i].2.2.2 0 a15<;>cases(a14.take i).any (Zx a14[i])<;>simp)
  (by
    apply Qhk
    simp[Qew,Zb])
 simp only[QQ6,QRg,List.take_zero]at e
 simp only[Qmp,e,QQ0]
 cases Zb a0 a1 a15 [] a14
 ·simp[Qp]
 ·simp only[if_true,Qp,QY0,QRd,Xi,QQ0]
  cases inR a13 1 4<;>simp
theorem QDI (a0 a1:Int) (a2:List Qd) (a3:List Qa) (a4:List Int) (a5 a6 a7:Int) (a8:List Qi) (a9 a10:List Int) (a11:List (List Int)) (a12 a13:Int) (a14:List Qz) (a15 a16 a17:Int) (a18:List QO) (hn:inR a1 1 5=true) (h:a14.length<=maxLen):QbB w (a0,a1,a2,a3,a4,a5,a6,a7,a8,a9,a10,a11,a12,a13,a14,a15,a16,a17,a18)=some (decide (((a14.length:Nat):Int)<=a13)&&Zb a0 a1 a15 [] a14):=by
 apply Qu2
 have hn':=hn
 simp[inR]at hn'
 have inner:∀(i:Nat) (hi:i<a14.length) (b4:Bool) (x5:Int) (b6 b7:Bool) (x8 x9:Int) (b10 b11:Bool) (q:Qz) (x2 x3:Int),
  YD wl ((i:Int),0,x2,x3,b4,x5,b6,b7,x8,x9,b10,b11,a0,a1,a2,a3,a4,a5,a6,a7,a8,a9,a10,a11,a12,a13,a14,a15,a16,a17,a18,q)=some (bif (a14.take i).any (Zx q)then .inl false else .inr ((i:Int),x2,x3,b4,x5,b6,b7,x8,x9,b10,b11,a0,a1,a2,a3,a4,a5,a6,a7,a8,a9,a10,a11,a12,a13,a14,a15,a16,a17,a18,q)):=by
  intro i hi b4 x5 b6 b7 x8 x9 b10 b11 q x2 x3
  have e:=Q7 i (fun k=>YD wl ((i:Int),(k:Int),x2,x3,b4,x5,b6,b7,x8,x9,b10,b11,a0,a1,a2,a3,a4,a5,a6,a7,a8,a9,a10,a11,a12,a13,a14,a15,a16,a17,a18,q)) (fun k=>bif ((a14.take i).drop k).any (Zx q)then .inl false else .inr ((i:Int),x2,x3,b4,x5,b6,b7,x8,x9,b10,b11,a0,a1,a2,a3,a4,a5,a6,a7,a8,a9,a10,a11,a12,a13,a14,a15,a16,a17,a18,q))
   (fun k hk ih=>by
     apply QgO
     have hk':k<a14.length:=by omega
     have hk2:k<(a14.take i).length:=by simp;omega
     rw[QRa hk2,List.any_cons,List.getElem_take]
     simp only[Qcp,ilt hk,Qk hk',Qg hk',inc hk (show i<=maxLen by omega),QQ1,ih,Zx]
     cases decide (a14[k].1=q.1)<;>cases(a14[k].2.2.1==q.2.2.1)<;>simp)
   (by
     apply QgO
     simp only[Qcp,Qm,QQ2]
     rw[List.drop_of_length_le (by simp;omega)];simp)
  simpa using e
 have e:=Q7 a14.length (fun i=>JX wl ((i:Int),a0,a1,a2,a3,a4,a5,a6,a7,a8,a9,a10,a11,a12,a13,a14,a15,a16,a17,a18)) (fun i=>if Zb a0 a1 a15 (a14.take i) (a14.drop i)then .inr ()else .inl false)
  (fun i hi ih=>by
    apply Qfx
    rw[QuS a0 a1 a15 a14 _ _ hi]
    simp only[QbJ,ilt hi,Qk hi,Qg hi,QQ1,XD,QQ0,Kl,zg]
    rw[w64 (n:=a1 - 1) (by omega) (by omega)]
    cases h1:inR a14[i].1 0 (a1 - 1)
    ·simp
    ·cases h2:decide (a14[i].1=a0)
     ·cases h3:inR a14[i].2.1 0 100000
      ·simp
      ·cases h4:inR a14[i].2.2.2 0 a15
       ·simp
       ·simp only[QQ3,QQ2,QQ4,QRn,QRd,inner i hi,QQ0]
        cases(a14.take i).any (Zx a14[i])
        ·simp only[QQ2,Qp,QY0,inc hi h,ih,QQ4,QQ1]
        ·simp[Qp]
     ·simp)
  (by
    apply Qfx
    simp[QbJ,Zb])
 simp only[QQ6,QRg,List.take_zero]at e
 simp only[QiH,e,QQ0]
 by_cases hl:((a14.length:Nat):Int)<=a13
 ·simp only[df (show¬a13<((a14.length:Nat):Int) by omega),QQ2,dt hl,QRd]
  cases Zb a0 a1 a15 [] a14<;>simp[Qp]
 ·simp only[dt (show a13<((a14.length:Nat):Int) by omega),QQ1,df hl,QRm]
def QkJ (a0 a1:Int) (a2:List Qd) (a3:List Qa) (a4:List Int) (a5 a6 a7:Int) (a8:List Qi) (a9 a10:List Int) (a11:List (List Int)) (a12 a13:Int) (a14:List Qz) (a15 a16 a17:Int) (a18:List QO):Bool:=
 inR a1 1 5&&inR a0 0 (a1 - 1)&&QD (a2,a3)&&decide ((a4,a5)=Za (a2,a3))&&Zj (a6,a7,a8)&&Ym a9 a1&&Ym a10 a1&&decide (a9.getD a0.toNat 0=Xf (a6,a7,a8))&&(a10.all fun x=>decide (x<=Xf (a6,a7,a8)))&&
  K2 a11 a1&&inR a12 0 100000&&inR a17 0 100000&&inR a15 1 20&&inR a16 1 50&&inR a13 1 4&&decide (((a14.length:Nat):Int)<=a13)&&Zb a0 a1 a15 [] a14&&decide (((a18.length:Nat):Int)=5)&&a18.all (Z3 a17)
def smN (a2:List Qd) (a3:List Qa) (a4:List Int) (a8:List Qi) (a9 a10:List Int) (a11:List (List Int)) (a14:List Qz) (a18:List QO):Prop:=
 a2.length<=maxLen/\a3.length<=maxLen/\a4.length<=maxLen/\a8.length<=maxLen/\(∀s∈a8,s.1.length<=maxLen/\s.2.length<=maxLen)/\a9.length<=maxLen/\a10.length<=maxLen/\a11.length<=maxLen/\(∀r∈a11,r.length<=maxLen)/\a14.length<=maxLen/\a18.length<=maxLen
theorem QBP (a:List Int) (b:Int) (c:List Int) (d:Int) (h:a.length<=maxLen):vL w (a,b,c,d)=some (decide ((a,b)=(c,d))):=by
 apply QsD
 simp only[QhQ,QG3 a c h,QQ0]
 by_cases h1:a=c
 ·by_cases h2:b=d
  ·simp[h1,h2]
  ·simp[h1,h2]
 ·simp[h1]
theorem QEs (a:List Int) (b:Int) (c:List Int) (d:Int) (h:a.length<=maxLen):QcP w (a,b,c,d)=some (decide ((a,b)=(c,d))):=by
 apply QtE
 simp only[Qjs,QFd a c h,QQ0]
 by_cases h1:a=c
 ·by_cases h2:b=d
  ·simp[h1,h2]
  ·simp[h1,h2]
 ·simp[h1]
theorem QFK (a0 a1:Int) (a2:List Qd) (a3:List Qa) (a4:List Int) (a5 a6 a7:Int) (a8:List Qi) (a9 a10:List Int) (a11:List (List Int)) (a12 a13:Int) (a14:List Qz) (a15 a16 a17:Int) (a18:List QO) (h:smN a2 a3 a4 a8 a9 a10 a11 a14 a18):ZH w (a0,a1,a2,a3,a4,a5,a6,a7,a8,a9,a10,a11,a12,a13,a14,a15,a16,a17,a18)=some (QkJ a0 a1 a2 a3 a4 a5 a6 a7 a8 a9 a10 a11 a12 a13 a14 a15 a16 a17 a18):=by
 obtain⟨h2,h3,h4,h8,h8',h9,h10,h11,h11',h14,h18⟩:=h
 apply Qw8
 simp only[QkZ,Xi,QQ0,QkJ]
 cases q1:inR a1 1 5
 ·simp
 have q1':=q1
 simp[inR]at q1'
 rw[w64 (n:=a1 - 1) (by omega) (by omega)]
 simp only[QQ3,QQ2,QRd]
 cases q0:inR a0 0 (a1 - 1)
 ·simp
 simp[inR]at q0
 simp only[QQ3,QQ2,QRd,ZA a2 a3 h2 h3,QQ0]
 cases q2:QD (a2,a3)
 ·simp
 simp only[QQ3,QQ2,QRd,Qxy a2 a3 h2 h3,QQ0,QBP a4 a5 _ _ h4]
 cases q4:decide ((a4,a5)=Za (a2,a3))
 ·have:decide ((a4,a5)=((Za (a2,a3))))=false:=q4
  simp[this]
 have q4':decide ((a4,a5)=((Za (a2,a3))))=true:=q4
 simp only[q4',QQ3,QQ2,QRd,Qmu a6 a7 a8 h8 h8',Qei a6 a7 a8 h8 h8',QQ0]
 cases q6:Zj (a6,a7,a8)
 ·simp
 simp only[QQ3,QQ2,QRd,Qz3 a9 a1 h9,Qz3 a10 a1 h10,QQ0]
 cases q9:Ym a9 a1
 ·simp
 cases q10:Ym a10 a1
 ·simp
 have l9:((a9.length:Nat):Int)=a1:=by simp[Ym]at q9;exact q9.1.2
 have l10:((a10.length:Nat):Int)=a1:=by simp[Ym]at q10;exact q10.1.2
 have i0:inb a0 a9.length=true:=by simp[inb];omega
 simp only[QQ3,QQ2,QRd,i0,QQ1,rd1]
 by_cases qg:a9.getD a0.toNat 0=Xf (a6,a7,a8)
 case neg=>simp only[qg,decide_false,QQ4,QQ1,QY9,QRm]
 simp only[qg,decide_true]
 cases hc:a10 with
 |nil=>rw[hc]at l10;simp at l10;omega
 |cons m l=>
  rw[<-hc]
  have hm:Vg w a10=some (QkC m l):=by rw[hc];exact QJR m l (by rw[<-hc];exact h10)
  have hall:(a10.all fun x=>decide (x<=Xf (a6,a7,a8)))=(decide (m<=Xf (a6,a7,a8))&&l.all fun x=>decide (x<=Xf (a6,a7,a8))):=by rw[hc];rfl
  simp only[QQ3,QQ2,QRd,hm,QQ0,QC5,hall]
  cases decide (m<=Xf (a6,a7,a8))&&l.all fun x=>decide (x<=Xf (a6,a7,a8))
  ·simp
  simp only[QQ3,QQ2,QRd,QEf a11 a1 h11 h11',QQ0]
  cases K2 a11 a1
  ·simp
  simp only[QQ3,QQ2,QRd,QFx a0 a1 a2 a3 a4 a5 a6 a7 a8 a9 a10 a11 a12 a13 a14 a15 a16 a17 a18 q1 h14,QEH a0 a1 a2 a3 a4 a5 a6 a7 a8 a9 a10 a11 a12 a13 a14 a15 a16 a17 a18 h18,QQ0]
  cases inR a12 0 100000<;>cases inR a17 0 100000<;>cases inR a15 1 20<;>cases inR a16 1 50<;>cases inR a13 1 4<;>cases decide (((a14.length:Nat):Int)<=a13)<;>cases Zb a0 a1 a15 [] a14<;>cases decide (((a18.length:Nat):Int)=5)<;>cases a18.all (Z3 a17)<;>rfl
theorem QEY (a0 a1:Int) (a2:List Qd) (a3:List Qa) (a4:List Int) (a5 a6 a7:Int) (a8:List Qi) (a9 a10:List Int) (a11:List (List Int)) (a12 a13:Int) (a14:List Qz) (a15 a16 a17:Int) (a18:List QO) (h:smN a2 a3 a4 a8 a9 a10 a11 a14 a18):Ys w (a0,a1,a2,a3,a4,a5,a6,a7,a8,a9,a10,a11,a12,a13,a14,a15,a16,a17,a18)=some (QkJ a0 a1 a2 a3 a4 a5 a6 a7 a8 a9 a10 a11 a12 a13 a14 a15 a16 a17 a18):=by
 obtain⟨h2,h3,h4,h8,h8',h9,h10,h11,h11',h14,h18⟩:=h
 apply Qw2
 simp only[Qlf,XD,QQ0,QkJ]
 cases q1:inR a1 1 5
 ·simp
 have q1':=q1
 simp[inR]at q1'
 rw[w64 (n:=a1 - 1) (by omega) (by omega)]
 simp only[QQ3,QQ2,QRd]
 cases q0:inR a0 0 (a1 - 1)
 ·simp
 simp[inR]at q0
 simp only[QQ3,QQ2,QRd,ZK a2 a3 h2 h3,QQ0]
 cases q2:QD (a2,a3)
 ·simp
 simp only[QQ3,QQ2,QRd,Quy a2 a3 h2 h3,QQ0,QEs a4 a5 _ _ h4]
 cases q4:decide ((a4,a5)=Za (a2,a3))
 ·have:decide ((a4,a5)=((Za (a2,a3))))=false:=q4
  simp[this]
 have q4':decide ((a4,a5)=((Za (a2,a3))))=true:=q4
 simp only[q4',QQ3,QQ2,QRd,Qii a6 a7 a8 h8 h8',Qmf a6 a7 a8 h8 h8',QQ0]
 cases q6:Zj (a6,a7,a8)
 ·simp
 simp only[QQ3,QQ2,QRd,Qyf a9 a1 h9,Qyf a10 a1 h10,QQ0]
 cases q9:Ym a9 a1
 ·simp
 cases q10:Ym a10 a1
 ·simp
 have l9:((a9.length:Nat):Int)=a1:=by simp[Ym]at q9;exact q9.1.2
 have l10:((a10.length:Nat):Int)=a1:=by simp[Ym]at q10;exact q10.1.2
 have i0:inb a0 a9.length=true:=by simp[inb];omega
 simp only[QQ3,QQ2,QRd,i0,QQ1,rd1]
 by_cases qg:a9.getD a0.toNat 0=Xf (a6,a7,a8)
 case neg=>simp only[qg,decide_false,QQ4,QQ1,QY9,QRm]
 simp only[qg,decide_true]
 simp only[QQ3,QQ2,QRd,QBT a11 a1 h11 h11',QQ0]
 cases qt:K2 a11 a1
 ·simp
 have e0:=Q7 a10.length (fun i=>xa wl ((i:Int),a0,a1,a2,a3,a4,a5,a6,a7,a8,a9,a10,a11,a12,a13,a14,a15,a16,a17,a18)) (fun i=>if(a10.drop i).all (fun x=>decide (x<=Xf (a6,a7,a8)))then .inr (a0,a1,a2,a3,a4,a5,a6,a7,a8,a9,a10,a11,a12,a13,a14,a15,a16,a17,a18)else .inl false)
  (fun i hi ih=>by
    apply Qhf
    rw[ZV (fun x=>decide (x<=Xf (a6,a7,a8))) a10 _ _ hi]
    have hi':(i:Int)<a1:=by omega
    simp only[QdW,dt hi',Qk hi,Qg hi,inc hi h10,QQ1,Qii a6 a7 a8 h8 h8',QQ0,ih]
    by_cases hx:a10[i]<=Xf (a6,a7,a8)
    ·simp only[df (show¬Xf (a6,a7,a8)<a10[i] by omega),QQ2,dt hx,QQ1]
    ·simp only[dt (show Xf (a6,a7,a8)<a10[i] by omega),QQ1,df hx,QQ2])
  (by
    apply Qhf
    have:¬((a10.length:Nat):Int)<a1:=by omega
    simp only[QdW,df this,QQ2,Qwr])
 simp only[QQ6,QRg]at e0
 simp only[QQ3,QQ2,QRd,e0,QQ0]
 cases qa:a10.all fun x=>decide (x<=Xf (a6,a7,a8))
 ·simp[Qp]
 simp only[if_true,Qp,QY0,QRn]
 cases inR a12 0 100000
 ·simp
 cases inR a17 0 100000
 ·simp
 cases inR a13 1 4
 ·simp
 cases inR a15 1 20
 ·simp
 cases inR a16 1 50
 ·simp
 simp only[QQ3,QQ2,QRd,QRn]
 cases q5:decide (((a18.length:Nat):Int)=5)
 ·simp
 have l5:a18.length=5:=by simp at q5;omega
 have e2:=Q7 a18.length (fun i=>xO wl ((i:Int),a0,a1,a2,a3,a4,a5,a6,a7,a8,a9,a10,a11,a12,a13,a14,a15,a16,a17,a18)) (fun i=>if(a18.drop i).all (Z3 a17)then .inr (a0,a1,a2,a3,a4,a5,a6,a7,a8,a9,a10,a11,a12,a13,a14,a15,a16,a17,a18)else .inl false)
  (fun i hi ih=>by
    apply QhI
    rw[ZV (Z3 a17) a18 _ _ hi]
    have hi':(i:Int)<5:=by omega
    simp only[Qeu,dt hi',Qk hi,Qg hi,inc hi h18,QQ1,XD,QQ0,ih,Z3]
    cases inR a18[i].1 0 1000<;>cases inR a18[i].2.1 0 100000<;>cases inR a18[i].2.2 0 a17<;>simp)
  (by
    apply QhI
    have:¬((a18.length:Nat):Int)<5:=by omega
    simp only[Qeu,df this,QQ2,Qwr])
 simp only[QQ6,QRg]at e2
 simp only[QQ3,QQ2,e2,QQ0]
 cases a18.all (Z3 a17)
 ·simp
 simp only[if_true,QY0,QDI a0 a1 a2 a3 a4 a5 a6 a7 a8 a9 a10 a11 a12 a13 a14 a15 a16 a17 a18 q1 h14,QQ0,QRn]
theorem Qzp (a b:Int):QcE w (a,b)=some (mxI a b):=by
 apply Qym
 simp only[Qn1,mxI]
 by_cases h:a<b
 ·rw[df (by omega),QQ2,if_pos h]
 ·by_cases h2:b<a
  ·rw[dt h2,QQ1,if_neg h]
  ·rw[df h2,QQ2,if_neg h];congr 1;omega
def smS (s:Qi):Prop:=s.1.length<=maxLen/\s.2.length<=maxLen
def ZM (r:Int×Int×Int×Int×ByteArray×Bool):XO:=(r.1,r.2.1,r.2.2.1,r.2.2.2.1,r.2.2.2.2.1)
def most (id:Int):XO->List Qi->XO
 |m,[]=>m
 |m,s::l=>bif (QS id s.1).2.2.2.2.2&&QD s then most id (VK m (ZM (QS id s.1))) l else most id m l
theorem Qxq {e:XO}(h:XG e=true):1<=e.1:=by
 simp[XG,inR]at h;omega
theorem Qw0 {i:Nat}(h:i<5):decide ((i:Int)<5)=true:=by simp;omega
theorem QwB {i:Nat}(h:i<5):wR ((i:Int)+1)=((i+1:Nat):Int):=by
 rw[w64 (by omega) (by omega)];omega
def VB (x:Qb):Bool:=QkJ x.1 x.2.1 x.2.2.1 x.2.2.2.1 x.2.2.2.2.1 x.2.2.2.2.2.1 x.2.2.2.2.2.2.1 x.2.2.2.2.2.2.2.1 x.2.2.2.2.2.2.2.2.1 x.2.2.2.2.2.2.2.2.2.1 x.2.2.2.2.2.2.2.2.2.2.1 x.2.2.2.2.2.2.2.2.2.2.2.1 x.2.2.2.2.2.2.2.2.2.2.2.2.1 x.2.2.2.2.2.2.2.2.2.2.2.2.2.1 x.2.2.2.2.2.2.2.2.2.2.2.2.2.2.1 x.2.2.2.2.2.2.2.2.2.2.2.2.2.2.2.1 x.2.2.2.2.2.2.2.2.2.2.2.2.2.2.2.2.1 x.2.2.2.2.2.2.2.2.2.2.2.2.2.2.2.2.2.1 x.2.2.2.2.2.2.2.2.2.2.2.2.2.2.2.2.2.2
def QzV (x:Qb):Prop:=smN x.2.2.1 x.2.2.2.1 x.2.2.2.2.1 x.2.2.2.2.2.2.2.2.1 x.2.2.2.2.2.2.2.2.2.1 x.2.2.2.2.2.2.2.2.2.2.1 x.2.2.2.2.2.2.2.2.2.2.2.1 x.2.2.2.2.2.2.2.2.2.2.2.2.2.2.1 x.2.2.2.2.2.2.2.2.2.2.2.2.2.2.2.2.2.2
theorem Qzu (x:Qb) (h:QzV x):ZH w x=some (VB x):=QFK _ _ _ _ _ _ _ _ _ _ _ _ _ _ _ _ _ _ _ h
theorem Qx0 (x:Qb) (h:QzV x):Ys w x=some (VB x):=QEY _ _ _ _ _ _ _ _ _ _ _ _ _ _ _ _ _ _ _ h
theorem QGq (x:Qb) (h:Qir x):QzV x:=by
 simp only[Qir,yZ,Qoz,Qk1,Qn7,Qiy,Qqy,Qqi,Qs6,Qsp,Qsk]at h
 obtain⟨⟨⟨h2,_⟩,h3⟩,h4,⟨h8,h8'⟩,h9,h10,⟨h11,h11'⟩,h14,h18⟩:=h
 exact⟨h2,h3,h4,h8,fun s hs=>⟨(h8' s hs).1.1,(h8' s hs).2⟩,h9,h10,h11,h11',h14,h18⟩
def Kc (n:Int):Nat->List Qb->Bool
 |_,[]=>true
 |i,x::l=>(VB x&&(decide (x.2.1=n)&&decide (x.1=(i:Int))))&&Kc n (i+1) l
def Qk3 (n:Int) (p:Qq):Bool:=inR p.1 0 (n - 1)
def QaR (n:Int) (x:Qr):Bool:=inR x.1 0 (n - 1)&&QD x.2
def ZW (ns:List Qb) (net:List Qq) (sd:List Qr):Bool:=inR ((ns.length:Nat):Int) 1 5&&(!decide (12<((net.length:Nat):Int))&&(!decide (40<((sd.length:Nat):Int))&&(Kc (ns.length:Nat) 0 ns&&(net.all (Qk3 (ns.length:Nat))&&sd.all (QaR (ns.length:Nat))))))
def smW (ns:List Qb) (net:List Qq) (sd:List Qr):Prop:=ns.length<=maxLen/\(∀x∈ns,QzV x)/\net.length<=maxLen/\(∀p∈net,p.2.1.length<=maxLen)/\sd.length<=maxLen/\∀x∈sd,x.2.1.length<=maxLen/\x.2.2.length<=maxLen
theorem QGU {ns:List Qb}{net:List Qq}{sd:List Qr}(h:Qd9 (ns,net,sd)):smW ns net sd:=by
 simp only[Qd9,QsE,QsN,QsQ]at h
 refine⟨h.1.1,fun x hx=>QGq x (h.1.2 x hx),h.2.1.1,fun p hp=> ?_,h.2.2.1,fun x hx=> ?_⟩
 ·have:=h.2.1.2 p hp
  simpa only[QnI,Qs8]using this
 ·have:=h.2.2.2 x hx
  simp only[Qnn,yZ,Qoz,Qk1]at this
  exact⟨this.1.1,this.2⟩
theorem QrO {R:Type}(n:Int) (l:List Qb) (x y:R) {i:Nat}(hi:i<l.length):(if Kc n i (l.drop i)then x else y)=(bif VB l[i]then(bif decide (l[i].2.1=n)then(bif decide (l[i].1=(i:Int))then(if Kc n (i+1) (l.drop (i+1))then x else y)else y)else y)else y):=by
 rw[QRa hi,Kc]
 cases VB l[i]<;>cases decide (l[i].2.1=n)<;>cases decide (l[i].1=(i:Int))<;>simp
theorem QoA (ns:List Qb) (net:List Qq) (sd:List Qr) (i:Int) (h:ns.length<=maxLen):VL w (ns,net,sd,i)=some (inR i 0 (((ns.length:Nat):Int) - 1)):=by
 apply QtA
 simp only[maxLen]at h
 have:wR (((ns.length:Nat):Int) - 1)=((ns.length:Nat):Int) - 1:=w64 (by omega) (by omega)
 simp only[Qjw,this,Xi,QQ0]
theorem QzA {A S R:Type}(c:Bool) (s:S) (r:A) (f:A->Option R) (g:S->Option R):Qp (if c=true then Sum.inr s else Sum.inl r) f g=bif c then g s else f r:=by cases c<;>rfl
theorem Qvy (ns:List Qb) (net:List Qq) (sd:List Qr) (h:smW ns net sd):yx w (ns,net,sd)=some (ZW ns net sd):=by
 apply Quk
 obtain⟨h1,h2,h3,h4,h5,h6⟩:=h
 have e1:=Q7 ns.length (fun i=>qb wl (ns,((ns.length:Nat):Int),(i:Int),ns,net,sd)) (fun i=>if Kc (ns.length:Nat) i (ns.drop i)then .inr (ns,net,sd)else .inl false)
  (fun i hi ih=>by
    apply QgM
    simp only[QcL,ilt hi,Qk hi,Qg hi,inc hi h1,QQ1,ih,Qzu _ (h2 _ (QRf hi)),QQ0,QrO _ _ _ _ hi]
    cases VB ns[i]<;>cases decide (ns[i].2.1=((ns.length:Nat):Int))<;>cases decide (ns[i].1=(i:Int))<;>simp)
  (by
    apply QgM
    simp[QcL,Kc])
 have e2:=Q7 net.length (fun i=>qq wl (net,((net.length:Nat):Int),(i:Int),ns,net,sd)) (fun i=>if(net.drop i).all (Qk3 (ns.length:Nat))then .inr (ns,net,sd)else .inl false)
  (fun i hi ih=>by
    apply QfX
    simp only[Qa0,ilt hi,Qk hi,Qg hi,inc hi h3,QQ1,ih,QoA _ _ _ _ h1,QQ0,ZV _ _ _ _ hi,Qk3]
    cases inR net[i].1 0 (((ns.length:Nat):Int) - 1)<;>simp)
  (by
    apply QfX
    simp[Qa0])
 have e3:=Q7 sd.length (fun i=>JP wl (sd,((sd.length:Nat):Int),(i:Int),ns,net,sd)) (fun i=>if(sd.drop i).all (QaR (ns.length:Nat))then .inr ()else .inl false)
  (fun i hi ih=>by
    apply QfR
    have hs:=h6 _ (QRf hi)
    simp only[Qcw,ilt hi,Qk hi,Qg hi,inc hi h5,QQ1,ih,QoA _ _ _ _ h1,ZA _ _ hs.1 hs.2,QQ0,ZV _ _ _ _ hi,QaR]
    cases inR sd[i].1 0 (((ns.length:Nat):Int) - 1)<;>cases QD sd[i].2<;>simp)
  (by
    apply QfR
    simp[Qcw])
 simp only[QQ6,QRg]at e1 e2 e3
 simp only[QiY,Xi,e1,e2,e3,QQ0,QzA,ZW]
 cases inR ((ns.length:Nat):Int) 1 5<;>cases decide (12<((net.length:Nat):Int))<;>cases decide (40<((sd.length:Nat):Int))<;>cases Kc (ns.length:Nat) 0 ns<;>cases net.all (Qk3 (ns.length:Nat))<;>cases sd.all (QaR (ns.length:Nat))<;>rfl
theorem Qr7 (ns:List Qb) (net:List Qq) (sd:List Qr) (h:smW ns net sd):yG w (ns,net,sd)=some (ZW ns net sd):=by
 apply Qvd
 obtain⟨h1,h2,h3,h4,h5,h6⟩:=h
 have hw:wR (((ns.length:Nat):Int) - 1)=((ns.length:Nat):Int) - 1:=by simp only[maxLen]at h1;exact w64 (by omega) (by omega)
 have e1:=Q7 ns.length (fun i=>qs wl (((ns.length:Nat):Int),(i:Int),ns,net,sd)) (fun i=>if Kc (ns.length:Nat) i (ns.drop i)then .inr (((ns.length:Nat):Int),ns,net,sd)else .inl false)
  (fun i hi ih=>by
    apply Qgm
    simp only[Qa1,ilt hi,Qk hi,Qg hi,inc hi h1,QQ1,ih,Qx0 _ (h2 _ (QRf hi)),QQ0,QrO _ _ _ _ hi]
    cases VB ns[i]<;>cases decide (ns[i].2.1=((ns.length:Nat):Int))<;>cases decide (ns[i].1=(i:Int))<;>simp)
  (by
    apply Qgm
    simp[Qa1,Kc])
 have e2:=Q7 net.length (fun i=>qp wl (((ns.length:Nat):Int),(i:Int),ns,net,sd)) (fun i=>if(net.drop i).all (Qk3 (ns.length:Nat))then .inr (((ns.length:Nat):Int),ns,net,sd)else .inl false)
  (fun i hi ih=>by
    apply QfQ
    simp only[Qc7,ilt hi,Qk hi,Qg hi,inc hi h3,QQ1,ih,hw,XD,QQ0,ZV _ _ _ _ hi,Qk3]
    cases inR net[i].1 0 (((ns.length:Nat):Int) - 1)<;>simp)
  (by
    apply QfQ
    simp[Qc7])
 have e3:=Q7 sd.length (fun i=>JH wl (((ns.length:Nat):Int),(i:Int),ns,net,sd)) (fun i=>if(sd.drop i).all (QaR (ns.length:Nat))then .inr ()else .inl false)
  (fun i hi ih=>by
    apply Qf2
    have hs:=h6 _ (QRf hi)
    simp only[QbW,ilt hi,Qk hi,Qg hi,inc hi h5,QQ1,ih,hw,XD,ZK _ _ hs.1 hs.2,QQ0,ZV _ _ _ _ hi,QaR]
    cases inR sd[i].1 0 (((ns.length:Nat):Int) - 1)<;>cases QD sd[i].2<;>simp)
  (by
    apply Qf2
    simp[QbW])
 simp only[QQ6,QRg]at e1 e2 e3
 simp only[Qkf,XD,e1,e2,e3,QQ0,QzA,ZW]
 cases inR ((ns.length:Nat):Int) 1 5<;>cases decide (12<((net.length:Nat):Int))<;>cases decide (40<((sd.length:Nat):Int))<;>cases Kc (ns.length:Nat) 0 ns<;>cases net.all (Qk3 (ns.length:Nat))<;>cases sd.all (QaR (ns.length:Nat))<;>rfl
theorem QrJ (n:Int):(off:Nat)->(l:List Qb)->Kc n off l=true->(i:Nat)->(h:i<l.length)->VB l[i]=true/\l[i].2.1=n/\l[i].1=((off+i:Nat):Int)
 |off,x::l,h,0,_=>by
  simp only[Kc,QQ5,QRu]at h
  simpa using⟨h.1.1,h.1.2.1,h.1.2.2⟩
 |off,x::l,h,i+1,hi=>by
  simp only[Kc,QQ5,QRu]at h
  have:=QrJ n (off+1) l h.2 i (by simpa using hi)
  simp only[List.getElem_cons_succ]
  refine⟨this.1,this.2.1, ?_⟩
  rw[this.2.2];congr 1;omega
structure WOk (ns:List Qb) (net:List Qq) (sd:List Qr):Prop where
 n1:1<=ns.length
 n5:ns.length<=5
 net12:net.length<=12
 sd40:sd.length<=40
 nodes:Kc (ns.length:Nat) 0 ns=true
 nets:∀p∈net,inR p.1 0 ((ns.length:Nat) - 1)=true
 sds:∀x∈sd,inR x.1 0 ((ns.length:Nat) - 1)=true/\QD x.2=true
theorem VU {ns:List Qb}{net:List Qq}{sd:List Qr}(h:ZW ns net sd=true):WOk ns net sd:=by
 simp only[ZW,QQ5,QRt,QaR,Qk3,QY11,decide_eq_false_iff_not,inR,QRu]at h
 obtain⟨h1,h2,h3,h4,h5,h6⟩:=h
 refine⟨by omega,by omega,by omega,by omega,h4,fun p hp=> ?_,fun x hx=> ?_⟩
 ·simp only[inR,QQ5,QRu];exact h5 p hp
 ·simp only[inR,QQ5,QRu];exact h6 x hx
theorem WOk.node {ns:List Qb}{net:List Qq}{sd:List Qr}(h:WOk ns net sd) {i:Nat}(hi:i<ns.length):VB ns[i]=true/\ns[i].2.1=ns.length/\ns[i].1=(i:Int):=by
 have:=QrJ _ 0 ns h.nodes i hi
 simpa using this
theorem YU {p:Int}{n:Nat}(h:inR p 0 ((n:Int) - 1)=true):∃i:Nat,p=(i:Int)/\i<n:=by
 simp only[inR,QQ5,QRu]at h
 exact⟨p.toNat,by omega,by omega⟩
theorem QHo {ns:List Qb}(h:ns.length<=maxLen):wR (((ns.length:Nat):Int) - 1)=((ns.length:Nat):Int) - 1:=by
 simp only[maxLen]at h
 exact w64 (by omega) (by omega)
def QJX {α:Type}(c:α->Int):Int->List α->Int
 |k,[]=>k
 |k,x::l=>QJX c (wR (k+c x)) l
def kept (ns:List Qb) (net:List Qq) (sd:List Qr):Int:=bif ZW ns net sd then QJX (fun x:Qb=>((x.2.2.2.2.2.2.2.2.1.length:Nat):Int)) 0 ns else 0
def two (ns:List Qb) (net:List Qq) (sd:List Qr) (p q:Int):Bool:=ZW ns net sd&&(inR p 0 ((ns.length:Nat) - 1)&&(inR q 0 ((ns.length:Nat) - 1)&& !decide (p=q)))
theorem QFL (ns:List Qb) (net:List Qq) (sd:List Qr) (p q:Int) (h:smW ns net sd):Qe1 w (ns,net,sd,p,q)=some (two ns net sd p q):=by
 apply Qv7
 simp only[Qmq,Qr7 ns net sd h,QHo h.1,XD,QQ0,two]
 cases ZW ns net sd<;>cases inR p 0 ((ns.length:Nat) - 1)<;>cases inR q 0 ((ns.length:Nat) - 1)<;>rfl
def nodeAt (ns:List Qb) (p:Int):Qb:=rd1 Qv ns p
theorem Vn {ns:List Qb}{i:Nat}(h:i<ns.length):nodeAt ns (i:Int)=ns[i]:=Qg h
def lag (ns:List Qb) (net:List Qq) (sd:List Qr) (p q:Int):Int:=bif two ns net sd p q then wR (Xf ((nodeAt ns p).2.2.2.2.2.2.1,(nodeAt ns p).2.2.2.2.2.2.2.1,(nodeAt ns p).2.2.2.2.2.2.2.2.1) - rd1 0 (nodeAt ns p).2.2.2.2.2.2.2.2.2.2.1 q)else -1
def behind (ns:List Qb) (net:List Qq) (sd:List Qr) (p q:Int):Bool:=bif decide (0<=lag ns net sd p q)then decide ((((nodeAt ns p).2.2.2.2.2.2.2.2.1.length:Nat):Int)<lag ns net sd p q)else false
def Zf (ns:List Qb) (net:List Qq) (sd:List Qr) (t:Int):Qa:=bif ZW ns net sd then(bif decide (((ns.length:Nat):Int)<2)then(-1, -1)else bif decide (t<0)then(-1, -1)else((Int.tmod t (((List.length ns):Nat):Int)),(Int.tmod (wR ((wR ((Int.tmod t (((List.length ns):Nat):Int))+1))+(Int.tmod (wR (Int.tdiv t (((List.length ns):Nat):Int))) (wR ((((List.length ns):Nat):Int) - 1))))) (((List.length ns):Nat):Int))))else(-1, -1)
theorem QJB (ns:List Qb) (net:List Qq) (sd:List Qr) (t:Int) (h:smW ns net sd):Qls w (ns,net,sd,t)=some (Zf ns net sd t):=by
 apply Qz6
 simp only[Qpn,Qvy ns net sd h,QQ0,Zf]
 cases hw:ZW ns net sd
 ·rfl
 ·have hn:=VU hw
  have h1:=hn.n1
  by_cases h2:((ns.length:Nat):Int)<2
  ·simp only[dt h2,dt (show((ns.length:Nat):Int)=1 by omega),QQ1,QQ3,QQ2]
  ·simp only[df h2,df (show¬((ns.length:Nat):Int)=1 by omega),QHo h.1,dt (show((ns.length:Nat):Int)≠0 by omega),dt (show((ns.length:Nat):Int) - 1≠0 by omega),QQ1,QQ3,QQ2]
   cases decide (t<0)<;>rfl
theorem QGA (ns:List Qb) (net:List Qq) (sd:List Qr) (t:Int) (h:smW ns net sd):QlF w (ns,net,sd,t)=some (Zf ns net sd t):=by
 apply QzW
 simp only[Qpf,Qr7 ns net sd h,QQ0,Zf]
 cases hw:ZW ns net sd
 ·rfl
 ·have hn:=VU hw
  have h1:=hn.n1
  by_cases h2:((ns.length:Nat):Int)<2
  ·simp only[dt h2,QQ1,QQ3,QQ2]
  ·simp only[df h2,QHo h.1,dt (show((ns.length:Nat):Int)≠0 by omega),dt (show((ns.length:Nat):Int) - 1≠0 by omega),QQ1,QQ3,QQ2]
   cases decide (t<0)<;>rfl
def live (x:Qd):Bool:=decide (x.2.2.1=0)
def view (s:Qi):List Qd:=bif QD s then s.1.filter live else []
theorem QGx (s:Qi):(view s).length<=5:=by
 unfold view
 cases h:QD s
 ·simp
 ·have:=(Kj h).1
  have:=List.length_filter_le live s.1
  simp only[QQ1];omega
theorem QI6 (s:Qi) (h1:s.1.length<=maxLen) (h2:s.2.length<=maxLen):Qmb w s=some (view s):=by
 obtain⟨a,b⟩:=s
 apply Qzm
 simp only[QpD,ZA a b h1 h2,QQ0,view]
 cases h:QD (a,b)
 ·rfl
 ·have hl:=(Kj h).1
  have e:=Qxs a (fun _ x=>bif live x then [x]else []) 1 (fun _ x=>QzZ _ x) (fun i out=>xr wl (a,((a.length:Nat):Int),(i:Int),out)) (fun out=>out)
   (fun i hi out r ho hk=>by
     apply Qlg
     simp only[QjW,ilt hi,Qk hi,Qg hi,inc hi h1,QQ1]
     simp only[live]at hk
     cases hx:decide (a[i].2.2.1=0)
     ·rw[hx]at hk;simpa using hk
     ·rw[hx]at hk
      simp only[QQ1]at hk⊢
      rw[Qu (by simp at hl⊢; omega)];exact hk)
   (fun out=>by
     apply Qlg
     simp only[QjW,Qm,QQ2])
  rw[Qg5]at e
  simp only[QQ6]at e
  simp only[e,QQ0,QQ3,QQ2,QQ1]
theorem QHb (s:Qi) (h1:s.1.length<=maxLen) (h2:s.2.length<=maxLen):QlW w s=some (view s):=by
 obtain⟨a,b⟩:=s
 apply QzG
 simp only[Qps,ZK a b h1 h2,QQ0,view]
 cases h:QD (a,b)
 ·rfl
 ·have hl:=(Kj h).1
  have e:=Qxs a (fun _ x=>bif live x then [x]else []) 1 (fun _ x=>QzZ _ x) (fun i out=>xD wl ((i:Int),a,b,out)) (fun out=>out)
   (fun i hi out r ho hk=>by
     apply QlP
     simp only[Qkd,ilt hi,Qk hi,Qg hi,inc hi h1,QQ1]
     simp only[live]at hk
     cases hx:decide (a[i].2.2.1=0)
     ·rw[hx]at hk;simpa using hk
     ·rw[hx]at hk
      simp only[QQ1]at hk⊢
      rw[Qu (by simp at hl⊢; omega)];exact hk)
   (fun out=>by
     apply QlP
     simp only[Qkd,Qm,QQ2])
  rw[Qg5]at e
  simp only[QQ6]at e
  simp only[e,QQ0,QQ3,QQ2,QQ1]
def lookup (s:Qi) (id:Int):Int×Int×Int×Int×ByteArray×Bool:=QS id (view s)
theorem QzC (s:Qi):(view s).length<=maxLen:=by have:=QGx s;simp only[maxLen];omega
theorem QxT (a:List Qd) (b:List Qa) (id:Int) (h1:a.length<=maxLen) (h2:b.length<=maxLen):vG w (a,b,id)=some (lookup (a,b) id):=by
 apply Qwi
 simp only[Qll,QI6 (a,b) h1 h2,Qin _ _ _ (QzC _),QQ0,lookup]
theorem QuU (a:List Qd) (b:List Qa) (id:Int) (h1:a.length<=maxLen) (h2:b.length<=maxLen):vF w (a,b,id)=some (lookup (a,b) id):=by
 apply Qwv
 simp only[QlN,QHb (a,b) h1 h2,Qfc _ _ _ (QzC _),QQ0,lookup]
theorem QxI (fl:List Qa):(p:Int)->(l:List Qd)->Xx fl p l=true->Qj XN l<=8*l.length
 |_,[],_=>by simp[Qj]
 |p,x::l,h=>by
  have hx:=QpK fl p (x::l) h x (by simp)
  simp only[Xx,QQ5]at h
  have:=QxI fl _ l h.2
  simp only[Qj,XN,VO,QY8];omega
theorem Qai (a:List Int) (ha:a.length<=4294967296):ZI w a=some a:=by
 apply Qsr
 have hf:fits a.length 8=true:=Qu (by omega)
 simp[Qhu,hf]
theorem QAB (a b:Int):Qbt w (a,b)=some (mnI a b):=by
 apply Qyg
 simp only[Qnl,mnI]
 by_cases h:a<b
 ·rw[dt h,QQ1,if_neg (by omega)]
 ·rw[df h,QQ2]
  by_cases h2:b<a
  ·rw[if_pos h2]
  ·rw[if_neg h2];congr 1;omega
theorem xC (s:Qi) (h:QG s<=4294967296):X2 w s=some s:=by
 obtain⟨a,b⟩:=s
 apply Qrz
 simp only[QG,XX,XS]at h
 simp only[Qgn,QY7,QRe,QRo,Qu (show a.length*56<=140737488351232 by omega),Qu (show b.length*16<=140737488351232 by omega),QQ1]
theorem QaI (s:Qi) (h:QG s<=4294967296):Z2 w s=some s:=by
 obtain⟨a,b⟩:=s
 apply Qxd
 simp only[QG,XX,XS]at h
 simp only[Qlv,QY7,QRe,QRo,Qu (show a.length*56<=140737488351232 by omega),Qu (show b.length*16<=140737488351232 by omega),QQ1]
theorem QmU (x:Zi) (h:ZC x<=4294967296):Z7 w x=some x:=by
 obtain⟨a,b⟩:=x
 apply QsV
 simp only[ZC,QW]at h
 simp only[QhK,Qai a (by omega),QQ0]
theorem QqL (x:Zi) (h:ZC x<=4294967296):Ks w x=some x:=by
 obtain⟨a,b⟩:=x
 apply Qv3
 simp only[ZC,QW]at h
 simp only[QlY,QY7,QRe,QRo,Qu (show a.length*8<=140737488351232 by omega),QQ1]
theorem Qtq (x:Zv) (h:Yf x<=4294967296):KE w x=some x:=by
 obtain⟨a,b,l⟩:=x
 apply Qtk
 simp only[Yf,X1]at h
 have e:=Vw l (fun i out=>JB wl (l,((l.length:Nat):Int),(i:Int),a,b,out)) (fun out=>(a,b,out))
  (fun i hi out r ho hk=>by
    apply QgG
    have:=XI QG l i hi
    simp only[Qc4,ilt hi,Qk hi,Qg hi,inc hi (show l.length<=maxLen by simp only[maxLen];omega),QQ1,xC _ (show QG l[i]<=4294967296 by omega),QQ0]
    rw[Qu (by simp[ho];omega)];exact hk)
  (fun out ho=>by
    apply QgG
    simp only[Qc4,Qm,QQ2])
 simp only[QQ6]at e
 simp only[QiV,e,QQ0]
theorem Qx2 (x:Zv) (h:Yf x<=4294967296):zI w x=some x:=by
 obtain⟨a,b,l⟩:=x
 apply Qwg
 simp only[Yf,X1]at h
 have e:=Vw l (fun i out=>xK wl ((i:Int),a,b,l,a,b,out)) (fun out=>(a,b,out))
  (fun i hi out r ho hk=>by
    apply QhL
    have:=XI QG l i hi
    simp only[Qd8,ilt hi,Qk hi,Qg hi,inc hi (show l.length<=maxLen by simp only[maxLen];omega),QQ1,QaI _ (show QG l[i]<=4294967296 by omega),QQ0]
    rw[Qu (by simp[ho];omega)];exact hk)
  (fun out ho=>by
    apply QhL
    simp only[Qd8,Qm,QQ2])
 simp only[QQ6]at e
 simp only[Qli,e,QQ0]
theorem QqA (l:List (List Int)) (h:Xy l<=4294967296):xG w l=some l:=by
 apply Qrq
 simp only[Xy]at h
 have e:=Vw l (fun i out=>Vk wl (l,((l.length:Nat):Int),(i:Int),out)) (fun out=>out)
  (fun i hi out r ho hk=>by
    apply QaU
    have:=XI QW l i hi
    simp only[QW]at this
    simp only[j7,ilt hi,Qk hi,Qg hi,inc hi (show l.length<=maxLen by simp only[maxLen];omega),QQ1,Qai l[i] (by omega),QQ0]
    rw[Qu (by simp[ho];omega)];exact hk)
  (fun out ho=>by
    apply QaU
    simp only[j7,Qm,QQ2])
 simp only[QQ6]at e
 simp only[QfJ,e,QQ0]
theorem QxP (l:List (List Int)) (h:Xy l<=4294967296):vr w l=some l:=by
 apply Qv2
 simp only[Xy]at h
 have e:=Vw l (fun i out=>xl wl (l,(i:Int),out)) (fun out=>out)
  (fun i hi out r ho hk=>by
    apply QhG
    have:=XI QW l i hi
    simp only[QW]at this
    simp only[Qd7,ilt hi,Qk hi,Qg hi,inc hi (show l.length<=maxLen by simp only[maxLen];omega),QQ1,QY7,QRe,QRo,Qu (show l[i].length*8<=140737488351232 by omega)]
    rw[Qu (by simp[ho];omega)];exact hk)
  (fun out ho=>by
    apply QhG
    simp only[Qd7,Qm,QQ2])
 simp only[QQ6]at e
 simp only[Qme,e,QQ0]
theorem Qx6 {x:Qb}(h:Q9 x<=4294967296):x.2.2.2.2.2.2.2.2.2.1.length<=4294967296/\x.2.2.2.2.2.2.2.2.2.2.1.length<=4294967296/\x.2.2.2.2.2.2.2.2.2.2.2.2.2.2.1.length<=4294967296/\x.2.2.2.2.2.2.2.2.2.2.2.2.2.2.2.2.2.2.length<=4294967296:=by
 simp only[Q9,QW,Ya,Z9]at h
 omega
theorem Kt {x:Qb}(h:Q9 x<=4294967296):QG (x.2.2.1,x.2.2.2.1)<=4294967296/\ZC (x.2.2.2.2.1,x.2.2.2.2.2.1)<=4294967296/\Yf (x.2.2.2.2.2.2.1,x.2.2.2.2.2.2.2.1,x.2.2.2.2.2.2.2.2.1)<=4294967296/\Xy x.2.2.2.2.2.2.2.2.2.2.2.1<=4294967296:=by
 simp only[Q9]at h
 omega
theorem Qr2 (x:Qb) (h:Q9 x<=4294967296):ZJ w x=some x:=by
 have hl:=Qx6 h
 have hp:=Kt h
 obtain⟨a0,a1,a2,a3,a4,a5,a6,a7,a8,a9,a10,a11,a12,a13,a14,a15,a16,a17,a18⟩:=x
 apply QsI
 obtain⟨h9,h10,h14,h18⟩:=hl
 obtain⟨h2,h4,h6,h11⟩:=hp
 simp only at h9 h10 h14 h18 h2 h4 h6 h11
 simp only[Qhz,xC (a2,a3) h2,QmU (a4,a5) h4,Qtq (a6,a7,a8) h6,QqA a11 h11,Qai a9 h9,Qai a10 h10,Qu (show a14.length*32<=140737488351232 by omega),Qu (show a18.length*24<=140737488351232 by omega),QY7,QRe,QRo,QQ0,QQ1]
theorem QtY (x:Qb) (h:Q9 x<=4294967296):Xr w x=some x:=by
 have hl:=Qx6 h
 have hp:=Kt h
 obtain⟨a0,a1,a2,a3,a4,a5,a6,a7,a8,a9,a10,a11,a12,a13,a14,a15,a16,a17,a18⟩:=x
 apply Qt9
 obtain⟨h9,h10,h14,h18⟩:=hl
 obtain⟨h2,h4,h6,h11⟩:=hp
 simp only at h9 h10 h14 h18 h2 h4 h6 h11
 simp only[Qi5,QaI (a2,a3) h2,QqL (a4,a5) h4,Qx2 (a6,a7,a8) h6,QxP a11 h11,Qu (show a9.length*8<=140737488351232 by omega),Qu (show a10.length*8<=140737488351232 by omega),Qu (show a14.length*32<=140737488351232 by omega),Qu (show a18.length*24<=140737488351232 by omega),QY7,QRe,QRo,QQ0,QQ1]
theorem QjV {α:Type}(l:List α) (k:Int) (h0:0<=k) (h:k<=(l.length:Int)):List.take (Int.toNat ((l.length:Int) - k)) (List.drop (Int.toNat k) l)=l.drop k.toNat:=by
 rw[List.take_of_length_le]
 rw[QY21];omega
theorem QB4 (p:Qq) (h:Xg p<=4294967296):vY w p=some p:=by
 obtain⟨a,b,c⟩:=p
 apply Qs0
 simp only[Xg,Zw]at h
 have:=QaC [b] (by simp[maxLen]) (by simp;omega)
 simp only[Qhj,this,QQ0];simp
theorem QD0 (p:Qq) (h:Xg p<=4294967296):Qbg w p=some p:=by
 obtain⟨a,b,c⟩:=p
 apply QvE
 simp only[Xg,Zw]at h
 simp only[Qj8,QY7,QRe,QRo,Qu (show b.length*1<=140737488351232 by omega),QQ1]
theorem QiF (ns:List Qb) (net:List Qq) (sd:List Qr) (h:Xp (ns,net,sd)<=4294967296):Kg w (ns,net,sd)=some (ns,net,sd):=by
 apply Qrj
 simp only[Xp,X7,XB,X5]at h
 have e0:=Vw ns (fun i out=>Vj wl (ns,((ns.length:Nat):Int),(i:Int),ns,net,sd,out,[],[])) (fun out=>(ns,net,sd,out,[],[]))
  (fun i hi out r ho hk=>by
    apply QbQ
    have:=XI Q9 ns i hi
    simp only[vg,ilt hi,Qk hi,Qg hi,inc hi (show ns.length<=maxLen by simp only[maxLen];omega),QQ1,Qr2 _ (show Q9 ns[i]<=4294967296 by omega),QQ0]
    rw[Qu (by simp[ho];omega)];exact hk)
  (fun out ho=>by
    apply QbQ
    simp only[vg,Qm,QQ2])
 have e2:=Vw net (fun i out=>Vi wl (net,((net.length:Nat):Int),(i:Int),ns,net,sd,ns,out,[])) (fun out=>(ns,net,sd,ns,out,[]))
  (fun i hi out r ho hk=>by
    apply QbC
    have:=XI Xg net i hi
    simp only[jZ,ilt hi,Qk hi,Qg hi,inc hi (show net.length<=maxLen by simp only[maxLen];omega),QQ1,QB4 _ (show Xg net[i]<=4294967296 by omega),QQ0]
    rw[Qu (by simp[ho];omega)];exact hk)
  (fun out ho=>by
    apply QbC
    simp only[jZ,Qm,QQ2])
 have e4:=Vw sd (fun i out=>Ve wl (sd,((sd.length:Nat):Int),(i:Int),ns,net,out)) (fun out=>(ns,net,out))
  (fun i hi out r ho hk=>by
    apply Qcl
    have:=XI Xu sd i hi
    have:QG sd[i].2<=4294967296:=by simp only[Xu]at this;exact QY19 this (by omega)
    simp only[vo,ilt hi,Qk hi,Qg hi,inc hi (show sd.length<=maxLen by simp only[maxLen];omega),QQ1,xC _ this,QQ0]
    rw[Qu (by simp[ho];omega)];exact hk)
  (fun out ho=>by
    apply Qcl
    simp only[vo,Qm,QQ2])
 simp only[QQ6]at e0 e2 e4
 simp only[QfM,e0,e2,e4,QQ0]
theorem QoG (ns:List Qb) (net:List Qq) (sd:List Qr) (h:Xp (ns,net,sd)<=4294967296):VQ w (ns,net,sd)=some (ns,net,sd):=by
 apply QuE
 simp only[Xp,X7,XB,X5]at h
 have e0:=Vw ns (fun i out=>JC wl ((i:Int),ns,net,sd,out,[],[])) (fun out=>(ns,net,sd,out,[],[]))
  (fun i hi out r ho hk=>by
    apply Qgq
    have:=XI Q9 ns i hi
    simp only[Qce,ilt hi,Qk hi,Qg hi,inc hi (show ns.length<=maxLen by simp only[maxLen];omega),QQ1,QtY _ (show Q9 ns[i]<=4294967296 by omega),QQ0]
    rw[Qu (by simp[ho];omega)];exact hk)
  (fun out ho=>by
    apply Qgq
    simp only[Qce,Qm,QQ2])
 have e2:=Vw net (fun i out=>J9 wl ((i:Int),ns,net,sd,ns,out,[])) (fun out=>(ns,net,sd,ns,out,[]))
  (fun i hi out r ho hk=>by
    apply Qgw
    have:=XI Xg net i hi
    simp only[Qde,ilt hi,Qk hi,Qg hi,inc hi (show net.length<=maxLen by simp only[maxLen];omega),QQ1,QD0 _ (show Xg net[i]<=4294967296 by omega),QQ0]
    rw[Qu (by simp[ho];omega)];exact hk)
  (fun out ho=>by
    apply Qgw
    simp only[Qde,Qm,QQ2])
 have e4:=Vw sd (fun i out=>JW wl ((i:Int),ns,net,sd,ns,net,out)) (fun out=>(ns,net,out))
  (fun i hi out r ho hk=>by
    apply QgL
    have:=XI Xu sd i hi
    have:QG sd[i].2<=4294967296:=by simp only[Xu]at this;exact QY19 this (by omega)
    simp only[QcX,ilt hi,Qk hi,Qg hi,inc hi (show sd.length<=maxLen by simp only[maxLen];omega),QQ1,QaI _ this,QQ0]
    rw[Qu (by simp[ho];omega)];exact hk)
  (fun out ho=>by
    apply QgL
    simp only[QcX,Qm,QQ2])
 simp only[QQ6]at e0 e2 e4
 simp only[QkU,e0,e2,e4,QQ0]
def yg (a b:Qi) (id:Int):XO:=VK (ZM (QS id a.1)) (ZM (QS id b.1))
def Zr (a b:Qi) (id:Int):Int:=mxI (Q5 id a.2) (Q5 id b.2)
def Qnj (a b:Qi) (i:Nat):List Qd:=bif decide (Zr a b (i:Int)<(yg a b (i:Int)).1)then [((i:Int),yg a b (i:Int))]else []
def yQ (a b:Qi) (i:Nat):List Qa:=bif decide (0<Zr a b (i:Int))then [((i:Int),Zr a b (i:Int))]else []
def join (a b:Qi):Qi:=((List.range' 0 5).flatMap (Qnj a b),(List.range' 0 5).flatMap (yQ a b))
theorem QuB (id:Int):(p:Int)->(l:List Qa)->QR p l=true->0<=Q5 id l/\Q5 id l<=1000
 |_,[],_=>by simp[Q5]
 |p,x::l,h=>by
  simp only[QR,QQ5]at h
  have ih:=QuB id _ l h.2
  have hx:=h.1.1.2
  simp only[inR,QQ5,QRu]at hx
  simp only[Q5]
  split
  ·omega
  ·exact ih
theorem QxX (fl:List Qa) (id:Int):(p:Int)->(l:List Qd)->Xx fl p l=true->(XG (ZM (QS id l))=true/\(QS id l).2.2.2.2.2=true)\/(ZM (QS id l)=(0,0,0,0,ByteArray.empty)/\(QS id l).2.2.2.2.2=false)
 |_,[],_=>Or.inr ⟨rfl,rfl⟩
 |p,x::l,h=>by
  simp only[Xx,QQ5]at h
  have ih:=QxX fl id _ l h.2
  simp only[QS]
  split
  ·exact Or.inl ⟨h.1.1.1.2,rfl⟩
  ·exact ih
theorem QBm {s:Qi}(h:QD s=true) (id:Int):0<=Q5 id s.2/\Q5 id s.2<=1000:=by
 simp only[QD,QQ5]at h
 exact QuB id _ _ h.1
theorem QiG {s:Qi}(h:QD s=true) (id:Int):(XG (ZM (QS id s.1))=true/\(QS id s.1).2.2.2.2.2=true)\/(ZM (QS id s.1)=(0,0,0,0,ByteArray.empty)/\(QS id s.1).2.2.2.2.2=false):=by
 simp only[QD,QQ5]at h
 exact QxX _ id _ _ h.2
theorem Qye (x y:XO):VK x y=x\/VK x y=y:=by
 unfold VK;split
 ·exact Or.inr rfl
 ·exact Or.inl rfl
theorem QGz {a b:Qi}(ha:QD a=true) (hb:QD b=true) (id:Int):XG (yg a b id)=true\/yg a b id=(0,0,0,0,ByteArray.empty):=by
 unfold yg
 rcases Qye (ZM (QS id a.1)) (ZM (QS id b.1))with e|e
 ·rw[e];rcases QiG ha id with h|h
  ·exact Or.inl h.1
  ·exact Or.inr h.1
 ·rw[e];rcases QiG hb id with h|h
  ·exact Or.inl h.1
  ·exact Or.inr h.1
theorem Qk0 {a b:Qi}(ha:QD a=true) (hb:QD b=true) (id:Int):0<=Zr a b id/\Zr a b id<=1000:=by
 have h1:=QBm ha id
 have h2:=QBm hb id
 unfold Zr mxI;split<;>omega
theorem zy (f:Nat->List Qa) (hf:∀i,i<5->f i=[]\/∃v,f i=[((i:Int),v)]/\inR v 1 1000=true):(n i:Nat)->(p:Int)->i+n<=5->p<(i:Int)->QR p ((List.range' i n).flatMap f)=true
 |0,_,_,_,_=>rfl
 |n+1,i,p,hn,hp=>by
  rw[List.range'_succ,QY22]
  rcases hf i (by omega)with e|⟨v,e,hv⟩
  ·rw[e];exact zy f hf n (i+1) p (by omega) (by omega)
  ·rw[e,List.singleton_append]
   simp only[QR,QQ5,hv,dt hp,zy f hf n (i+1) (i:Int) (by omega) (by omega),and_true]
   simp[inR];omega
theorem QjJ (fl:List Qa) (f:Nat->List Qd) (hf:∀i,i<5->f i=[]\/∃e,f i=[((i:Int),e)]/\XG e=true/\Q5 (i:Int) fl<e.1):(n i:Nat)->(p:Int)->i+n<=5->p<(i:Int)->Xx fl p ((List.range' i n).flatMap f)=true
 |0,_,_,_,_=>rfl
 |n+1,i,p,hn,hp=>by
  rw[List.range'_succ,QY22]
  rcases hf i (by omega)with e|⟨v,e,hv,hl⟩
  ·rw[e];exact QjJ fl f hf n (i+1) p (by omega) (by omega)
  ·rw[e,List.singleton_append]
   simp only[Xx,QQ5,hv,dt hp,dt hl,QjJ fl f hf n (i+1) (i:Int) (by omega) (by omega),and_true]
   simp[inR];omega
theorem QCx (id:Int) (l m:List Qa) (h:∀x∈l,x.1≠id):Q5 id (l++m)=Q5 id m:=by
 induction l with
 |nil=>rfl
 |cons x l ih=>rw[QRv,Q5,if_neg (h x (by simp)),ih fun y hy=>h y (by simp[hy])]
theorem QiS (f:Nat->List Qa) (hf:∀i,f i=[]\/∃v,f i=[((i:Int),v)]):(n i k:Nat)->Q5 (k:Int) ((List.range' i n).flatMap f)=if i<=k/\k<i+n then Q5 (k:Int) (f k)else 0
 |0,i,k=>by rw[if_neg (by omega)];rfl
 |n+1,i,k=>by
  rw[List.range'_succ,QY22]
  by_cases hk:i=k
  ·subst hk
   rw[if_pos (by omega)]
   rcases hf i with e|⟨v,e⟩
   ·rw[e,QRe,QiS f hf n (i+1) i,if_neg (by omega)];rfl
   ·rw[e,List.singleton_append,Q5,if_pos rfl,Q5,if_pos rfl]
  ·rw[QCx,QiS f hf n (i+1) k]
   ·by_cases h:i+1<=k/\k<i+1+n
    ·rw[if_pos h,if_pos (by omega)]
    ·rw[if_neg h,if_neg (by omega)]
   ·intro x hx
    rcases hf i with e|⟨v,e⟩
    ·rw[e]at hx;simp at hx
    ·rw[e]at hx
     obtain rfl:x=((i:Int),v):=by simpa using hx
     simp;omega
theorem QFW (a b:Qi) (i:Nat):yQ a b i=[]\/∃v,yQ a b i=[((i:Int),v)]:=by
 unfold yQ;cases decide (0<Zr a b (i:Int))
 ·exact Or.inl rfl
 ·exact Or.inr ⟨_,rfl⟩
theorem Qzt {a b:Qi}(ha:QD a=true) (hb:QD b=true) {k:Nat}(hk:k<5):Q5 (k:Int) (join a b).2=Zr a b (k:Int):=by
 have h:=Qk0 ha hb (k:Int)
 show Q5 (k:Int) ((List.range' 0 5).flatMap (yQ a b))=_
 rw[QiS _ (QFW a b),if_pos (by omega)]
 unfold yQ
 by_cases h0:0<Zr a b (k:Int)
 ·simp[h0,Q5]
 ·simp[h0,Q5];omega
theorem QFD {e:XO}(h:XG e=true\/e=(0,0,0,0,ByteArray.empty)) (h0:0<e.1):XG e=true:=by
 rcases h with h|h
 ·exact h
 ·rw[h]at h0;exact absurd h0 (by decide)
theorem xP {a b:Qi}(ha:QD a=true) (hb:QD b=true):QD (join a b)=true:=by
 simp only[QD,QQ5]
 constructor
 ·refine zy _ (fun i hi=> ?_) 5 0 (-1) (by omega) (by simp)
  have h:=Qk0 ha hb (i:Int)
  unfold yQ
  by_cases h0:0<Zr a b (i:Int)
  ·exact Or.inr ⟨Zr a b (i:Int),by simp[h0],by simp[inR];omega⟩
  ·exact Or.inl (by simp[h0])
 ·refine QjJ _ _ (fun i hi=> ?_) 5 0 (-1) (by omega) (by simp)
  have h:=Qk0 ha hb (i:Int)
  unfold Qnj
  by_cases h0:Zr a b (i:Int)<(yg a b (i:Int)).1
  ·refine Or.inr ⟨yg a b (i:Int),by simp[h0],QFD (QGz ha hb _) (by omega), ?_⟩
   rw[Qzt ha hb hi];exact h0
  ·exact Or.inl (by simp[h0])
def Zo (s:Qi) (id:Int):Int:=bif QD s then(bif (QS id s.1).2.2.2.2.2 then(bif decide ((QS id s.1).2.1=1)then(QS id s.1).1 else(QS id s.1).1 - 1)else Q5 id s.2)else 0
def QnU (s:Qi) (i:Nat):List Qa:=bif decide (0<Zo s (i:Int))then [((i:Int),Zo s (i:Int))]else []
def marksOf (s:Qi):List Qa:=(List.range' 0 5).flatMap (QnU s)
theorem Que (s:Qi) (id:Int):0<=Zo s id/\Zo s id<=1000:=by
 unfold Zo
 cases h:QD s
 ·simp
 ·have hf:=QBm h id
  rcases QiG h id with⟨he,hb⟩|⟨he,hb⟩
  ·rw[hb]
   simp only[XG,QQ5,inR,QRu]at he
   have:=he.1.1.1.1
   simp only[ZM]at this
   simp only[QQ1]
   cases decide ((QS id s.1).2.1=1)
   ·simp only[QQ2];omega
   ·simp only[QQ1];omega
  ·rw[hb];simp only[QQ1,QQ2];omega
theorem jo (s:Qi):QR (-1) (marksOf s)=true:=by
 refine zy _ (fun i hi=> ?_) 5 0 (-1) (by omega) (by simp)
 have h:=Que s (i:Int)
 unfold QnU
 by_cases h0:0<Zo s (i:Int)
 ·exact Or.inr ⟨Zo s (i:Int),by simp[h0],by simp[inR];omega⟩
 ·exact Or.inl (by simp[h0])
end Go.Proofs.YtiejfnbmficbmaaGreat.M
