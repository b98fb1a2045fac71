/- What the plain forms that FnExactStep reaches come to: PNode2. No conditions but those that each theorem states. -/
import Derived.Test.YtjenicbpdklpbaaGreatFnExactStepPNode
set_option linter.all false
namespace Go.Proofs.YtjenicbpdklpbaaGreat.M
open Go Go.Eng Go.Proofs
set_option linter.unusedVariables false
def ZV (clock:Int) (r:QN):Bool:=inR r.1 0 1000&&inR r.2.1 0 100000&&inR r.2.2 0 clock
theorem QCH (a0:Int) (a1:Int) (a2:List Qd) (a3:List Qa) (a4:List Int) (a5:Int) (a6:Int) (a7:Int) (a8:List Qj) (a9:List Int) (a10:List Int) (a11:List (List Int)) (a12:Int) (a13:Int) (a14:List Qz) (a15:Int) (a16:Int) (a17:Int) (a18:List QN) (h:a18.length<=maxLen):QaL w (a0,a1,a2,a3,a4,a5,a6,a7,a8,a9,a10,a11,a12,a13,a14,a15,a16,a17,a18)=some ((a18.all (ZV a17))&&decide (((a18.length:Nat):Int)=5)):=by
 apply Qsv
 have e:=Q6 a18.length (fun i=>Jt wl (a18,((a18.length:Nat):Int),(i:Int),a0,a1,a2,a3,a4,a5,a6,a7,a8,a9,a10,a11,a12,a13,a14,a15,a16,a17,a18)) (fun i=>if(a18.drop i).all (ZV a17)then .inr (a0,a1,a2,a3,a4,a5,a6,a7,a8,a9,a10,a11,a12,a13,a14,a15,a16,a17,a18)else .inl false)
  (fun i hi ih=>by
    apply Qgd
    rw[ZT (ZV a17) a18 _ _ hi]
    simp only[Qbx,ilt hi,Qk hi,Qg hi,inc hi h,QQ1,Xf,QQ0,ih,ZV]
    cases inR a18[i].1 0 1000<;>cases inR a18[i].2.1 0 100000<;>cases inR a18[i].2.2 0 a17<;>simp)
  (by
    apply Qgd
    simp[Qbx])
 simp only[QQ6,QRg]at e
 simp only[QjP,e,QQ0]
 cases a18.all (ZV a17)
 ·simp[Qn]
 ·simp only[if_true,Qn,Sum.elim_inr,QRd]
def Zy (x y:Qz):Bool:=decide (y.1=x.1)&&(y.2.2.1==x.2.2.1)
def Xg (p:Int) (b:Bool):Nat->List Qz->Int⊕Unit
 |_,[]=> .inr ()
 |i,y::l=>bif decide (y.1=p)&&(y.2.2.1==b)then .inl (i:Nat)else Xg p b (i+1) l
def Xv:Int⊕Unit->Int
 | .inl i=>i
 | .inr _=> -1
theorem QCE (z:Int⊕Unit):Qn z (fun u=>some u) (fun _=>some (-1))=some (Xv z):=by cases z<;>rfl
theorem QB0 (a0:Int) (a1:Int) (a2:List Qd) (a3:List Qa) (a4:List Int) (a5:Int) (a6:Int) (a7:Int) (a8:List Qj) (a9:List Int) (a10:List Int) (a11:List (List Int)) (a12:Int) (a13:Int) (a14:List Qz) (a15:Int) (a16:Int) (a17:Int) (a18:List QN) (p:Int) (b:Bool) (h:a14.length<=maxLen):xG w (a0,a1,a2,a3,a4,a5,a6,a7,a8,a9,a10,a11,a12,a13,a14,a15,a16,a17,a18,p,b)=some (Xv (Xg p b 0 a14)):=by
 apply QAi
 have e:=Q6 a14.length (fun i=>qP wl (p,b,a14,((a14.length:Nat):Int),(i:Int))) (fun i=>Xg p b i (a14.drop i))
  (fun i hi ih=>by
    apply Ql3
    simp only[QjS,ilt hi,Qk hi,Qg hi,inc hi h,QQ1,ih]
    rw[QRa hi,Xg]
    cases decide (a14[i].1=p)<;>cases(a14[i].2.2.1==b)<;>simp)
  (by
    apply Ql3
    simp[QjS,Xg])
 simp only[QQ6,QRg]at e
 simp only[QoI,e,QQ0,QCE]
theorem QBF (x:Qz):(off:Nat)->(l:List Qz)->(i:Nat)->(h:i<l.length)->l[i]=x->((off:Int)<=Xv (Xg x.1 x.2.2.1 off l)/\Xv (Xg x.1 x.2.2.1 off l)<=off+i/\(Xv (Xg x.1 x.2.2.1 off l)=off+i↔(l.take i).any (Zy x)=false))
 |off,y::l,0,_,hx=>by
  have:y=x:=hx
  subst this
  simp[Xg,Xv]
 |off,y::l,i+1,h,hx=>by
  have ih:=QBF x (off+1) l i (by simpa using h) (by simpa using hx)
  rw[Xg]
  have hk:(decide (y.1=x.1)&&(y.2.2.1==x.2.2.1))=Zy x y:=rfl
  rw[hk,List.take_succ_cons,List.any_cons]
  cases Zy x y
  ·simp only[QQ2,Bool.false_or]
   refine⟨by omega,by omega, ?_⟩
   rw[<-ih.2.2];omega
  ·simp only[QQ1,Bool.true_or,Xv]
   refine⟨by omega,by omega, ?_⟩
   constructor
   ·intro h;omega
   ·intro h;cases h
def xZ (id n p:Int):Bool:=inR p 0 (n - 1)&& !decide (p=id)
theorem Qxa (a0:Int) (a1:Int) (a2:List Qd) (a3:List Qa) (a4:List Int) (a5:Int) (a6:Int) (a7:Int) (a8:List Qj) (a9:List Int) (a10:List Int) (a11:List (List Int)) (a12:Int) (a13:Int) (a14:List Qz) (a15:Int) (a16:Int) (a17:Int) (a18:List QN) (p:Int) (hn:inR a1 1 5=true):zp w (a0,a1,a2,a3,a4,a5,a6,a7,a8,a9,a10,a11,a12,a13,a14,a15,a16,a17,a18,p)=some (xZ a0 a1 p):=by
 apply QvZ
 simp[inR]at hn
 simp only[QlH,xZ]
 rw[w64 (by omega) (by omega),Xf,QQ0]
 cases inR p 0 (a1 - 1)<;>simp
def Y9 (id n wait:Int) (x:Qz):Bool:=xZ id n x.1&&inR x.2.1 0 100000&&inR x.2.2.2 0 wait
def X9 (id n wait:Int):List Qz->List Qz->Bool
 |_,[]=>true
 |pre,x::l=>Y9 id n wait x&& !pre.any (Zy x)&&X9 id n wait (pre++[x]) l
theorem QtS {R:Type}(id n wait:Int) (l:List Qz) (x y:R) {i:Nat}(hi:i<l.length):
 (if X9 id n wait (l.take i) (l.drop i)then x else y)=(bif Y9 id n wait l[i]&& !(l.take i).any (Zy l[i])then(if X9 id n wait (l.take (i+1)) (l.drop (i+1))then x else y)else y):=by
 rw[QRa hi,X9]
 have:l.take i++[l[i]]=l.take (i+1):=by rw[List.take_add_one];simp[hi]
 rw[this]
 cases Y9 id n wait l[i]&& !(l.take i).any (Zy l[i])<;>simp
theorem QEY (a0:Int) (a1:Int) (a2:List Qd) (a3:List Qa) (a4:List Int) (a5:Int) (a6:Int) (a7:Int) (a8:List Qj) (a9:List Int) (a10:List Int) (a11:List (List Int)) (a12:Int) (a13:Int) (a14:List Qz) (a15:Int) (a16:Int) (a17:Int) (a18:List QN) (hn:inR a1 1 5=true) (h:a14.length<=maxLen):QeO w (a0,a1,a2,a3,a4,a5,a6,a7,a8,a9,a10,a11,a12,a13,a14,a15,a16,a17,a18)=some (X9 a0 a1 a15 [] a14&&(inR a13 1 4&&decide (((a14.length:Nat):Int)<=a13))):=by
 apply Qvj
 have e:=Q6 a14.length (fun i=>xl wl (a14,((a14.length:Nat):Int),(i:Int),a0,a1,a2,a3,a4,a5,a6,a7,a8,a9,a10,a11,a12,a13,a14,a15,a16,a17,a18)) (fun i=>if X9 a0 a1 a15 (a14.take i) (a14.drop i)then .inr (a0,a1,a2,a3,a4,a5,a6,a7,a8,a9,a10,a11,a12,a13,a14,a15,a16,a17,a18)else .inl false)
  (fun i hi ih=>by
    apply Qhc
    rw[QtS a0 a1 a15 a14 _ _ hi]
    have hs:=QBF a14[i] 0 a14 i hi rfl
    have hs':decide (Xv (Xg a14[i].1 a14[i].2.2.1 0 a14)=(i:Int))= !(a14.take i).any (Zy a14[i]):=by
     cases hb:(a14.take i).any (Zy a14[i])
     ·rw[dt (by have:=hs.2.2.2 hb;omega)];rfl
     ·rw[df (fun h=>by have:=hs.2.2.1 (by omega);rw[hb]at this;cases this)];rfl
    simp only[Qd9,ilt hi,Qk hi,Qg hi,inc hi h,QQ1,Qxa a0 a1 a2 a3 a4 a5 a6 a7 a8 a9 a10 a11 a12 a13 a14 a15 a16 a17 a18 _ hn,QB0 a0 a1 a2 a3 a4 a5 a6 a7 a8 a9 a10 a11 a12 a13 a14 a15 a16 a17 a18 _ _ h,Xf,QQ0,ih,Y9,hs']
    cases xZ a0 a1 a14[i].1<;>cases inR a14[i].2.1 0 100000<;>cases inR a14[i].2.2.2 0 a15<;>cases(a14.take i).any (Zy a14[i])<;>simp)
  (by
    apply Qhc
    simp[Qd9,X9])
 simp only[QQ6,QRg,List.take_zero]at e
 simp only[Qla,e,QQ0]
 cases X9 a0 a1 a15 [] a14
 ·simp[Qn]
 ·simp only[if_true,Qn,Sum.elim_inr,QRd,Xf,QQ0]
  cases inR a13 1 4<;>simp
theorem QDa (a0:Int) (a1:Int) (a2:List Qd) (a3:List Qa) (a4:List Int) (a5:Int) (a6:Int) (a7:Int) (a8:List Qj) (a9:List Int) (a10:List Int) (a11:List (List Int)) (a12:Int) (a13:Int) (a14:List Qz) (a15:Int) (a16:Int) (a17:Int) (a18:List QN) (hn:inR a1 1 5=true) (h:a14.length<=maxLen):Qbg w (a0,a1,a2,a3,a4,a5,a6,a7,a8,a9,a10,a11,a12,a13,a14,a15,a16,a17,a18)=some (decide (((a14.length:Nat):Int)<=a13)&&X9 a0 a1 a15 [] a14):=by
 apply Qtr
 have hn':=hn
 simp[inR]at hn'
 have inner:∀(i:Nat) (hi:i<a14.length) (b4:Bool) (x5:Int) (b6 b7:Bool) (x8 x9:Int) (b10 b11:Bool) (q:Qz) (x2 x3:Int),
  YC wl ((i:Int),0,x2,x3,b4,x5,b6,b7,x8,x9,b10,b11,a0,a1,a2,a3,a4,a5,a6,a7,a8,a9,a10,a11,a12,a13,a14,a15,a16,a17,a18,q)=some (bif (a14.take i).any (Zy q)then .inl false else .inr ((i:Int),x2,x3,b4,x5,b6,b7,x8,x9,b10,b11,a0,a1,a2,a3,a4,a5,a6,a7,a8,a9,a10,a11,a12,a13,a14,a15,a16,a17,a18,q)):=by
  intro i hi b4 x5 b6 b7 x8 x9 b10 b11 q x2 x3
  have e:=Q6 i (fun k=>YC wl ((i:Int),(k:Int),x2,x3,b4,x5,b6,b7,x8,x9,b10,b11,a0,a1,a2,a3,a4,a5,a6,a7,a8,a9,a10,a11,a12,a13,a14,a15,a16,a17,a18,q)) (fun k=>bif ((a14.take i).drop k).any (Zy q)then .inl false else .inr ((i:Int),x2,x3,b4,x5,b6,b7,x8,x9,b10,b11,a0,a1,a2,a3,a4,a5,a6,a7,a8,a9,a10,a11,a12,a13,a14,a15,a16,a17,a18,q))
   (fun k hk ih=>by
     apply QeY
     have hk':k<a14.length:=by omega
     have hk2:k<(a14.take i).length:=by simp;omega
     rw[QRa hk2,List.any_cons,List.getElem_take]
     simp only[QcE,ilt hk,Qk hk',Qg hk',inc hk (show i<=maxLen by omega),QQ1,ih,Zy]
     cases decide (a14[k].1=q.1)<;>cases(a14[k].2.2.1==q.2.2.1)<;>simp)
   (by
     apply QeY
     simp only[QcE,Qm,QQ2]
     rw[List.drop_of_length_le (by simp;omega)];simp)
  simpa using e
 have e:=Q6 a14.length (fun i=>ql wl ((i:Int),a0,a1,a2,a3,a4,a5,a6,a7,a8,a9,a10,a11,a12,a13,a14,a15,a16,a17,a18)) (fun i=>if X9 a0 a1 a15 (a14.take i) (a14.drop i)then .inr ()else .inl false)
  (fun i hi ih=>by
    apply QfO
    rw[QtS a0 a1 a15 a14 _ _ hi]
    simp only[QaY,ilt hi,Qk hi,Qg hi,QQ1,XB,QQ0,Y9,xZ]
    rw[w64 (n:=a1 - 1) (by omega) (by omega)]
    cases h1:inR a14[i].1 0 (a1 - 1)
    ·simp
    ·cases h2:decide (a14[i].1=a0)
     ·cases h3:inR a14[i].2.1 0 100000
      ·simp
      ·cases h4:inR a14[i].2.2.2 0 a15
       ·simp
       ·simp only[QQ3,QQ2,QQ4,QRn,QRd,inner i hi,QQ0]
        cases(a14.take i).any (Zy a14[i])
        ·simp only[QQ2,Qn,Sum.elim_inr,inc hi h,ih,QQ4,QQ1]
        ·simp[Qn]
     ·simp)
  (by
    apply QfO
    simp[QaY,X9])
 simp only[QQ6,QRg,List.take_zero]at e
 simp only[QjC,e,QQ0]
 by_cases hl:((a14.length:Nat):Int)<=a13
 ·simp only[df (show¬a13<((a14.length:Nat):Int) by omega),QQ2,dt hl,QRd]
  cases X9 a0 a1 a15 [] a14<;>simp[Qn]
 ·simp only[dt (show a13<((a14.length:Nat):Int) by omega),QQ1,df hl,QRm]
def Qju (a0:Int) (a1:Int) (a2:List Qd) (a3:List Qa) (a4:List Int) (a5:Int) (a6:Int) (a7:Int) (a8:List Qj) (a9:List Int) (a10:List Int) (a11:List (List Int)) (a12:Int) (a13:Int) (a14:List Qz) (a15:Int) (a16:Int) (a17:Int) (a18:List QN):Bool:=
 inR a1 1 5&&inR a0 0 (a1 - 1)&&QC (a2,a3)&&decide ((a4,a5)=X8 (a2,a3))&&Zf (a6,a7,a8)&&Yj a9 a1&&Yj a10 a1&&decide (a9.getD a0.toNat 0=Xd (a6,a7,a8))&&(a10.all fun x=>decide (x<=Xd (a6,a7,a8)))&&
  KI a11 a1&&inR a12 0 100000&&inR a17 0 100000&&inR a15 1 20&&inR a16 1 50&&inR a13 1 4&&decide (((a14.length:Nat):Int)<=a13)&&X9 a0 a1 a15 [] a14&&decide (((a18.length:Nat):Int)=5)&&a18.all (ZV a17)
def smN (a2:List Qd) (a3:List Qa) (a4:List Int) (a8:List Qj) (a9 a10:List Int) (a11:List (List Int)) (a14:List Qz) (a18:List QN):Prop:=
 a2.length<=maxLen/\a3.length<=maxLen/\a4.length<=maxLen/\a8.length<=maxLen/\(∀s∈a8,s.1.length<=maxLen/\s.2.length<=maxLen)/\a9.length<=maxLen/\a10.length<=maxLen/\a11.length<=maxLen/\(∀r∈a11,r.length<=maxLen)/\a14.length<=maxLen/\a18.length<=maxLen
theorem QAV (a:List Int) (b:Int) (c:List Int) (d:Int) (h:a.length<=maxLen):vE w (a,b,c,d)=some (decide ((a,b)=(c,d))):=by
 apply QrN
 simp only[Qg0,QGG a c h,QQ0]
 by_cases h1:a=c
 ·by_cases h2:b=d
  ·simp[h1,h2]
  ·simp[h1,h2]
 ·simp[h1]
theorem QDH (a:List Int) (b:Int) (c:List Int) (d:Int) (h:a.length<=maxLen):QbV w (a,b,c,d)=some (decide ((a,b)=(c,d))):=by
 apply Qto
 simp only[Qjc,QEM a c h,QQ0]
 by_cases h1:a=c
 ·by_cases h2:b=d
  ·simp[h1,h2]
  ·simp[h1,h2]
 ·simp[h1]
theorem QEw (a0:Int) (a1:Int) (a2:List Qd) (a3:List Qa) (a4:List Int) (a5:Int) (a6:Int) (a7:Int) (a8:List Qj) (a9:List Int) (a10:List Int) (a11:List (List Int)) (a12:Int) (a13:Int) (a14:List Qz) (a15:Int) (a16:Int) (a17:Int) (a18:List QN) (h:smN a2 a3 a4 a8 a9 a10 a11 a14 a18):ZE w (a0,a1,a2,a3,a4,a5,a6,a7,a8,a9,a10,a11,a12,a13,a14,a15,a16,a17,a18)=some (Qju a0 a1 a2 a3 a4 a5 a6 a7 a8 a9 a10 a11 a12 a13 a14 a15 a16 a17 a18):=by
 obtain⟨h2,h3,h4,h8,h8',h9,h10,h11,h11',h14,h18⟩:=h
 apply Qwu
 simp only[QkV,Xf,QQ0,Qju]
 cases q1:inR a1 1 5
 ·simp
 have q1':=q1
 simp[inR]at q1'
 rw[w64 (n:=a1 - 1) (by omega) (by omega)]
 simp only[QQ3,QQ2,QRd]
 cases q0:inR a0 0 (a1 - 1)
 ·simp
 simp[inR]at q0
 simp only[QQ3,QQ2,QRd,Zx a2 a3 h2 h3,QQ0]
 cases q2:QC (a2,a3)
 ·simp
 simp only[QQ3,QQ2,QRd,QwK a2 a3 h2 h3,QQ0,QAV a4 a5 _ _ h4]
 cases q4:decide ((a4,a5)=X8 (a2,a3))
 ·have:decide ((a4,a5)=((X8 (a2,a3))))=false:=q4
  simp[this]
 have q4':decide ((a4,a5)=((X8 (a2,a3))))=true:=q4
 simp only[q4',QQ3,QQ2,QRd,Qll a6 a7 a8 h8 h8',QdK a6 a7 a8 h8 h8',QQ0]
 cases q6:Zf (a6,a7,a8)
 ·simp
 simp only[QQ3,QQ2,QRd,Qy1 a9 a1 h9,Qy1 a10 a1 h10,QQ0]
 cases q9:Yj a9 a1
 ·simp
 cases q10:Yj a10 a1
 ·simp
 have l9:((a9.length:Nat):Int)=a1:=by simp[Yj]at q9;exact q9.1.2
 have l10:((a10.length:Nat):Int)=a1:=by simp[Yj]at q10;exact q10.1.2
 have i0:inb a0 a9.length=true:=by simp[inb];omega
 simp only[QQ3,QQ2,QRd,i0,QQ1,rd1]
 by_cases qg:a9.getD a0.toNat 0=Xd (a6,a7,a8)
 case neg=>simp only[qg,decide_false,QQ4,QQ1,Bool.and_false,QRm]
 simp only[qg,decide_true]
 cases hc:a10 with
 |nil=>rw[hc]at l10;simp at l10;omega
 |cons m l=>
  rw[<-hc]
  have hm:Ve w a10=some (Qj1 m l):=by rw[hc];exact QID m l (by rw[<-hc];exact h10)
  have hall:(a10.all fun x=>decide (x<=Xd (a6,a7,a8)))=(decide (m<=Xd (a6,a7,a8))&&l.all fun x=>decide (x<=Xd (a6,a7,a8))):=by rw[hc];rfl
  simp only[QQ3,QQ2,QRd,hm,QQ0,QBZ,hall]
  cases decide (m<=Xd (a6,a7,a8))&&l.all fun x=>decide (x<=Xd (a6,a7,a8))
  ·simp
  simp only[QQ3,QQ2,QRd,QDn a11 a1 h11 h11',QQ0]
  cases KI a11 a1
  ·simp
  simp only[QQ3,QQ2,QRd,QEY a0 a1 a2 a3 a4 a5 a6 a7 a8 a9 a10 a11 a12 a13 a14 a15 a16 a17 a18 q1 h14,QCH a0 a1 a2 a3 a4 a5 a6 a7 a8 a9 a10 a11 a12 a13 a14 a15 a16 a17 a18 h18,QQ0]
  cases inR a12 0 100000<;>cases inR a17 0 100000<;>cases inR a15 1 20<;>cases inR a16 1 50<;>cases inR a13 1 4<;>cases decide (((a14.length:Nat):Int)<=a13)<;>cases X9 a0 a1 a15 [] a14<;>cases decide (((a18.length:Nat):Int)=5)<;>cases a18.all (ZV a17)<;>rfl
theorem QDq (a0:Int) (a1:Int) (a2:List Qd) (a3:List Qa) (a4:List Int) (a5:Int) (a6:Int) (a7:Int) (a8:List Qj) (a9:List Int) (a10:List Int) (a11:List (List Int)) (a12:Int) (a13:Int) (a14:List Qz) (a15:Int) (a16:Int) (a17:Int) (a18:List QN) (h:smN a2 a3 a4 a8 a9 a10 a11 a14 a18):Yp w (a0,a1,a2,a3,a4,a5,a6,a7,a8,a9,a10,a11,a12,a13,a14,a15,a16,a17,a18)=some (Qju a0 a1 a2 a3 a4 a5 a6 a7 a8 a9 a10 a11 a12 a13 a14 a15 a16 a17 a18):=by
 obtain⟨h2,h3,h4,h8,h8',h9,h10,h11,h11',h14,h18⟩:=h
 apply Qvk
 simp only[Ql8,XB,QQ0,Qju]
 cases q1:inR a1 1 5
 ·simp
 have q1':=q1
 simp[inR]at q1'
 rw[w64 (n:=a1 - 1) (by omega) (by omega)]
 simp only[QQ3,QQ2,QRd]
 cases q0:inR a0 0 (a1 - 1)
 ·simp
 simp[inR]at q0
 simp only[QQ3,QQ2,QRd,ZG a2 a3 h2 h3,QQ0]
 cases q2:QC (a2,a3)
 ·simp
 simp only[QQ3,QQ2,QRd,QtM a2 a3 h2 h3,QQ0,QDH a4 a5 _ _ h4]
 cases q4:decide ((a4,a5)=X8 (a2,a3))
 ·have:decide ((a4,a5)=((X8 (a2,a3))))=false:=q4
  simp[this]
 have q4':decide ((a4,a5)=((X8 (a2,a3))))=true:=q4
 simp only[q4',QQ3,QQ2,QRd,QhO a6 a7 a8 h8 h8',QlI a6 a7 a8 h8 h8',QQ0]
 cases q6:Zf (a6,a7,a8)
 ·simp
 simp only[QQ3,QQ2,QRd,Qxk a9 a1 h9,Qxk a10 a1 h10,QQ0]
 cases q9:Yj a9 a1
 ·simp
 cases q10:Yj a10 a1
 ·simp
 have l9:((a9.length:Nat):Int)=a1:=by simp[Yj]at q9;exact q9.1.2
 have l10:((a10.length:Nat):Int)=a1:=by simp[Yj]at q10;exact q10.1.2
 have i0:inb a0 a9.length=true:=by simp[inb];omega
 simp only[QQ3,QQ2,QRd,i0,QQ1,rd1]
 by_cases qg:a9.getD a0.toNat 0=Xd (a6,a7,a8)
 case neg=>simp only[qg,decide_false,QQ4,QQ1,Bool.and_false,QRm]
 simp only[qg,decide_true]
 simp only[QQ3,QQ2,QRd,QAw a11 a1 h11 h11',QQ0]
 cases qt:KI a11 a1
 ·simp
 have e0:=Q6 a10.length (fun i=>xz wl ((i:Int),a0,a1,a2,a3,a4,a5,a6,a7,a8,a9,a10,a11,a12,a13,a14,a15,a16,a17,a18)) (fun i=>if(a10.drop i).all (fun x=>decide (x<=Xd (a6,a7,a8)))then .inr (a0,a1,a2,a3,a4,a5,a6,a7,a8,a9,a10,a11,a12,a13,a14,a15,a16,a17,a18)else .inl false)
  (fun i hi ih=>by
    apply QgW
    rw[ZT (fun x=>decide (x<=Xd (a6,a7,a8))) a10 _ _ hi]
    have hi':(i:Int)<a1:=by omega
    simp only[Qd4,dt hi',Qk hi,Qg hi,inc hi h10,QQ1,QhO a6 a7 a8 h8 h8',QQ0,ih]
    by_cases hx:a10[i]<=Xd (a6,a7,a8)
    ·simp only[df (show¬Xd (a6,a7,a8)<a10[i] by omega),QQ2,dt hx,QQ1]
    ·simp only[dt (show Xd (a6,a7,a8)<a10[i] by omega),QQ1,df hx,QQ2])
  (by
    apply QgW
    have:¬((a10.length:Nat):Int)<a1:=by omega
    simp only[Qd4,df this,QQ2,Qvz])
 simp only[QQ6,QRg]at e0
 simp only[QQ3,QQ2,QRd,e0,QQ0]
 cases qa:a10.all fun x=>decide (x<=Xd (a6,a7,a8))
 ·simp[Qn]
 simp only[if_true,Qn,Sum.elim_inr,QRn]
 cases inR a12 0 100000
 ·simp
 cases inR a17 0 100000
 ·simp
 cases inR a13 1 4
 ·simp
 cases inR a15 1 20
 ·simp
 cases inR a16 1 50
 ·simp
 simp only[QQ3,QQ2,QRd,QRn]
 cases q5:decide (((a18.length:Nat):Int)=5)
 ·simp
 have l5:a18.length=5:=by simp at q5;omega
 have e2:=Q6 a18.length (fun i=>qO wl ((i:Int),a0,a1,a2,a3,a4,a5,a6,a7,a8,a9,a10,a11,a12,a13,a14,a15,a16,a17,a18)) (fun i=>if(a18.drop i).all (ZV a17)then .inr (a0,a1,a2,a3,a4,a5,a6,a7,a8,a9,a10,a11,a12,a13,a14,a15,a16,a17,a18)else .inl false)
  (fun i hi ih=>by
    apply Qg7
    rw[ZT (ZV a17) a18 _ _ hi]
    have hi':(i:Int)<5:=by omega
    simp only[Qd3,dt hi',Qk hi,Qg hi,inc hi h18,QQ1,XB,QQ0,ih,ZV]
    cases inR a18[i].1 0 1000<;>cases inR a18[i].2.1 0 100000<;>cases inR a18[i].2.2 0 a17<;>simp)
  (by
    apply Qg7
    have:¬((a18.length:Nat):Int)<5:=by omega
    simp only[Qd3,df this,QQ2,Qvz])
 simp only[QQ6,QRg]at e2
 simp only[QQ3,QQ2,e2,QQ0]
 cases a18.all (ZV a17)
 ·simp
 simp only[if_true,Sum.elim_inr,QDa a0 a1 a2 a3 a4 a5 a6 a7 a8 a9 a10 a11 a12 a13 a14 a15 a16 a17 a18 q1 h14,QQ0,QRn]
end Go.Proofs.YtjenicbpdklpbaaGreat.M
