/- What the plain forms that FnExactStep reaches come to: PMsg. No conditions but those that each theorem states. -/
import Derived.Test.YtjenicbpdklpbaaGreatFnExactStepPJoin
set_option linter.all false
namespace Go.Proofs.YtjenicbpdklpbaaGreat.M
open Go Go.Eng Go.Proofs
set_option linter.unusedVariables false
theorem Qub (b:List Qa) (hb:b.length<=maxLen):yI w b=some (QO (-1) b):=by
 apply Quc
 have e:=Q6 b.length (fun i=>KU wl (b,b,((b.length:Nat):Int),(i:Int))) (fun i=>if QO (qF b i) (b.drop i)then .inr ()else .inl false)
  (fun i hi ih=>by
    apply QfB
    simp only[QbW,ilt hi,Qk hi,Qg hi,inc hi hb,QQ1,ih,Qat,Xf,QQ0]
    rw[QRa hi,QO,Qhx b hi]
    rcases Nat.eq_zero_or_pos i with h0|h0
    ·subst h0
     cases h1:inR b[0].1 0 4
     ·simp
     ·have:=Qd5 h1
      simp only[Qof,QQ2,QQ3,qF,if_true,dt this,QRd,QRn]
      cases inR b[0].2 1 1000<;>simp
    ·have hi':i - 1<b.length:=by omega
     simp only[ipos h0,QQ1,QpR h0 (by omega),Qk hi',Qg hi',QlG b h0 hi',zr]
     cases inR b[i].1 0 4<;>cases inR b[i].2 1 1000<;>cases decide (b[i - 1].1<b[i].1)<;>simp)
  (by
    apply QfB
    simp only[QbW,Qm,QQ2,QRl,QO,if_true])
 simp only[QQ6,QRg,qF,if_true]at e
 simp only[QjO,e,QQ0]
 cases QO (-1) b<;>simp[Qn]
theorem Qrd (b:List Qa) (hb:b.length<=maxLen):yH w b=some (QO (-1) b):=by
 apply QsR
 have e:=Q6 b.length (fun i=>KQ wl (b,(i:Int))) (fun i=>if QO (qF b i) (b.drop i)then .inr ()else .inl false)
  (fun i hi ih=>by
    apply QfS
    simp only[Qcd,ilt hi,Qk hi,Qg hi,inc hi hb,QQ1,ih,Qam,XB,QQ0]
    rw[QRa hi,QO,Qhx b hi]
    rcases Nat.eq_zero_or_pos i with h0|h0
    ·subst h0
     cases h1:inR b[0].1 0 4
     ·simp
     ·have:=Qd5 h1
      simp only[Qof,QQ2,QQ3,qF,if_true,dt this,QRd,QRn]
      cases inR b[0].2 1 1000<;>simp
    ·have hi':i - 1<b.length:=by omega
     simp only[ipos h0,QQ1,QpR h0 (by omega),Qk hi',Qg hi',QlG b h0 hi',zr]
     cases inR b[i].1 0 4<;>cases inR b[i].2 1 1000<;>cases decide (b[i - 1].1<b[i].1)<;>simp)
  (by
    apply QfS
    simp only[Qcd,Qm,QQ2,QRl,QO,if_true])
 simp only[QQ6,QRg,qF,if_true]at e
 simp only[Qig,e,QQ0]
 cases QO (-1) b<;>simp[Qn]
def QfG (t:Zi):Bool:=bif decide (((t.1.length:Nat):Int)=0)then decide (t.2=0)else(t.1.all fun x=>inR x 0 1023)&&decide (((t.1.length:Nat):Int)=4)&&inR t.2 0 1023
theorem QE8 (l:List Int) (r:Int) (h:l.length<=maxLen):Qet w (l,r)=some (QfG (l,r)):=by
 apply QvN
 have e:=Q6 l.length (fun i=>qR wl (l,((l.length:Nat):Int),(i:Int),l,r)) (fun i=>if(l.drop i).all (fun x=>inR x 0 1023)then .inr (l,r)else .inl false)
  (fun i hi ih=>by
    apply Qg3
    rw[ZT (fun x=>inR x 0 1023) l _ _ hi]
    simp only[Qd1,ilt hi,Qk hi,Qg hi,inc hi h,QQ1,Xf,QQ0,ih]
    cases inR l[i] 0 1023<;>simp)
  (by
    apply Qg3
    simp[Qd1])
 simp only[QQ6,QRg]at e
 simp only[QkJ,e,QQ0,Xf,QfG]
 cases decide (((l.length:Nat):Int)=0)
 ·cases l.all fun x=>inR x 0 1023
  ·simp[Qn]
  ·simp only[if_true,Qn,Sum.elim_inr,QQ2,QRd]
   cases decide (((l.length:Nat):Int)=4)<;>simp
 ·simp
theorem QnK (l:List Int) (m hi:Int) (h:l.length<=maxLen):qZ w (l,m,hi)=some (decide (((l.length:Nat):Int)<=m)&&l.all fun x=>inR x 0 hi):=by
 apply Qt3
 have e:=Q6 l.length (fun i=>Jy wl (l,hi,(i:Int))) (fun i=>if(l.drop i).all (fun x=>inR x 0 hi)then .inr ()else .inl false)
  (fun i hi' ih=>by
    apply Qf9
    rw[ZT (fun x=>inR x 0 hi) l _ _ hi']
    simp only[Qc5,ilt hi',Qk hi',Qg hi',inc hi' h,QQ1,XB,QQ0,ih]
    cases inR l[i] 0 hi<;>simp)
  (by
    apply Qf9
    simp[Qc5])
 simp only[QQ6,QRg]at e
 simp only[QiZ,e,QQ0]
 by_cases hl:((l.length:Nat):Int)<=m
 ·simp only[df (show¬m<((l.length:Nat):Int) by omega),QQ2,dt hl,QRd]
  cases l.all fun x=>inR x 0 hi<;>simp[Qn]
 ·simp only[dt (show m<((l.length:Nat):Int) by omega),QQ1,df hl,QRm]
theorem QDL (l:List Int) (r:Int) (h:l.length<=maxLen):QbE w (l,r)=some (QfG (l,r)):=by
 apply QsW
 simp only[QjZ,QnK l 4 1023 h,XB,QQ0,QfG]
 cases decide (((l.length:Nat):Int)=0)
 ·by_cases h4:((l.length:Nat):Int)=4
  ·simp only[QQ2,dt h4,QQ1,dt (show((l.length:Nat):Int)<=4 by omega),QRd,QRn]
   cases l.all fun x=>inR x 0 1023<;>simp
  ·simp only[QQ2,df h4,Bool.and_false,QRm]
 ·simp
def okL:Int->List Int->Bool
 |_,[]=>true
 |p,x::l=>inR x 0 3&&decide (p<x)&&okL x l
def QcC:Int->List Int->Bool
 |_,[]=>true
 |p,x::l=>decide (p<x)&&QcC x l
theorem QyU:(p:Int)->(l:List Int)->okL p l=((l.all fun x=>inR x 0 3)&&QcC p l)
 |p,[]=>rfl
 |p,x::l=>by
  rw[okL,QyU x l,List.all_cons,QcC]
  cases inR x 0 3<;>cases decide (p<x)<;>cases(l.all fun x=>inR x 0 3)<;>cases QcC x l<;>rfl
theorem Qwm:(p:Int)->(l:List Int)->okL p l=true-> -1<=p->(l.length:Int)<=3 - p\/l=[]
 |p,[],_,_=> .inr rfl
 |p,x::l,h,hp=>by
  simp only[okL,QQ5,inR,QRu]at h
  left
  rcases Qwm x l h.2 (by omega)with h5|h5
  ·simp only[List.length_cons];omega
  ·subst h5;simp;omega
def Qn8 (b:List Int) (i:Nat):Int:=if i=0 then -1 else b.getD (i - 1) 0
theorem QCI (b:List Int) {i:Nat}(h:i<b.length):Qn8 b (i+1)=b[i]:=by simp[Qn8,List.getD,h]
theorem QEV (b:List Int) {i:Nat}(h0:0<i) (h:i - 1<b.length):Qn8 b i=b[i - 1]:=by
 simp[Qn8,List.getD,h,show¬i=0 by omega]
theorem QEC {n k:Int}(h:inR n 0 k=true): -1<n:=by
 simp[inR]at h;omega
def Qqk (a0:Int) (a1:Int) (a2:Int) (a3:Int) (a4:Int) (a5:List Int) (a6:Int) (a7:List Int) (a8:List Int) (a9:List Qd) (a10:List Qa) (a11:List Qa):Bool:=inR a0 0 5&&inR a1 0 4&&inR a2 0 4&& !decide (a1=a2)&&okL (-1) a8&&(a7.all fun x=>inR x 0 100000)&&inR a3 0 100000&&inR a4 0 100000&&QfG (a5,a6)&&decide (((a7.length:Nat):Int)<=5)&&QC (a9,a10)&&QO (-1) a11
def smM (a5 a7 a8:List Int) (a9:List Qd) (a10 a11:List Qa):Prop:=a5.length<=maxLen/\a7.length<=maxLen/\a8.length<=maxLen/\a9.length<=maxLen/\a10.length<=maxLen/\a11.length<=maxLen
theorem QGn (a0:Int) (a1:Int) (a2:Int) (a3:Int) (a4:Int) (a5:List Int) (a6:Int) (a7:List Int) (a8:List Int) (a9:List Qd) (a10:List Qa) (a11:List Qa) (h:smM a5 a7 a8 a9 a10 a11):Qbk w (a0,a1,a2,a3,a4,a5,a6,a7,a8,a9,a10,a11)=some (Qqk a0 a1 a2 a3 a4 a5 a6 a7 a8 a9 a10 a11):=by
 obtain⟨h5,h7,h8,h9,h10,h11⟩:=h
 apply QxI
 have e0:=Q6 a8.length (fun i=>Jc wl (a8,((a8.length:Nat):Int),(i:Int),a0,a1,a2,a3,a4,a5,a6,a7,a8,a9,a10,a11)) (fun i=>if okL (Qn8 a8 i) (a8.drop i)then .inr (a0,a1,a2,a3,a4,a5,a6,a7,a8,a9,a10,a11)else .inl false)
  (fun i hi ih=>by
    apply Qj2
    simp only[QgI,ilt hi,Qk hi,Qg hi,inc hi h8,QQ1,ih,Xf,QQ0]
    rw[QRa hi,okL,QCI a8 hi]
    rcases Nat.eq_zero_or_pos i with h0|h0
    ·subst h0
     cases h1:inR a8[0] 0 3
     ·simp
     ·have:=QEC h1
      simp only[Qof,QQ2,QQ3,Qn8,if_true,dt this,QRd,QRn]
    ·have hi':i - 1<a8.length:=by omega
     simp only[ipos h0,QQ1,QpR h0 (by omega),Qk hi',Qg hi',QEV a8 h0 hi',zr]
     cases inR a8[i] 0 3<;>cases decide (a8[i - 1]<a8[i])<;>simp)
  (by
    apply Qj2
    simp only[QgI,Qm,QQ2,QRl,okL,if_true])
 have e2:=Q6 a7.length (fun i=>za wl (a7,((a7.length:Nat):Int),(i:Int),a0,a1,a2,a3,a4,a5,a6,a7,a8,a9,a10,a11)) (fun i=>if(a7.drop i).all (fun x=>inR x 0 100000)then .inr (a0,a1,a2,a3,a4,a5,a6,a7,a8,a9,a10,a11)else .inl false)
  (fun i hi ih=>by
    apply Qjg
    rw[ZT (fun x=>inR x 0 100000) a7 _ _ hi]
    simp only[QgB,ilt hi,Qk hi,Qg hi,inc hi h7,QQ1,Xf,QQ0,ih]
    cases inR a7[i] 0 100000<;>simp)
  (by
    apply Qjg
    simp[QgB])
 simp only[QQ6,QRg,Qn8,if_true]at e0 e2
 simp only[QmY,e0,Xf,Qat,QQ0,Qqk]
 cases inR a0 0 5
 ·simp
 cases inR a1 0 4
 ·simp
 cases inR a2 0 4
 ·simp
 cases decide (a1=a2)
 case true=>simp
 simp only[QQ3,QQ4,QQ2,QRd]
 cases okL (-1) a8
 ·simp[Qn]
 simp only[if_true,Qn,Sum.elim_inr,e2,QQ0,QRd]
 cases a7.all fun x=>inR x 0 100000
 ·simp
 simp only[if_true,Sum.elim_inr,QRd,QE8 a5 a6 h5,Zx a9 a10 h9 h10,Qub a11 h11,QQ0]
 cases inR a3 0 100000<;>cases inR a4 0 100000<;>cases QfG (a5,a6)<;>cases decide (((a7.length:Nat):Int)<=5)<;>cases QC (a9,a10)<;>cases QO (-1) a11<;>rfl
theorem QCg (a0:Int) (a1:Int) (a2:Int) (a3:Int) (a4:Int) (a5:List Int) (a6:Int) (a7:List Int) (a8:List Int) (a9:List Qd) (a10:List Qa) (a11:List Qa) (h8:a8.length<=maxLen):Je wl (1,a0,a1,a2,a3,a4,a5,a6,a7,a8,a9,a10,a11)=some (bif QcC (a8.getD 0 0) (a8.drop 1)then .inr ()else .inl false):=by
 cases hc:a8 with
 |nil=>
  apply vQ
  simp[vu,QcC]
 |cons x l=>
  rw[<-hc]
  have hlen:a8.length=l.length+1:=by rw[hc];rfl
  have e:=Q6 l.length (fun j=>Je wl (((j+1:Nat):Int),a0,a1,a2,a3,a4,a5,a6,a7,a8,a9,a10,a11)) (fun j=>bif QcC (a8.getD j 0) (a8.drop (j+1))then .inr ()else .inl false)
   (fun j hj ih=>by
     apply vQ
     have hi:j+1<a8.length:=by omega
     have hi':j<a8.length:=by omega
     have hd:=QpR (i:=j+1) (by omega) (by omega)
     rw[show j+1 - 1=j by omega]at hd
     have hg:a8.getD (j+1) 0=a8[j+1]:=by simp[List.getD,hi]
     have hg':a8.getD j 0=a8[j]:=by simp[List.getD,hi']
     rw[hg]at ih
     simp only[vu,ilt hi,Qk hi,Qg hi,inc hi h8,hd,Qk hi',Qg hi',QQ1,ih,zr]
     rw[QRa hi,QcC,hg']
     cases decide (a8[j]<a8[j+1])<;>simp)
   (by
     apply vQ
     rw[<-hlen]
     simp only[vu,Qm,QQ2,QRl,QcC,QQ1])
  exact e
theorem QEf (a0:Int) (a1:Int) (a2:Int) (a3:Int) (a4:Int) (a5:List Int) (a6:Int) (a7:List Int) (a8:List Int) (a9:List Qd) (a10:List Qa) (a11:List Qa) (h:smM a5 a7 a8 a9 a10 a11):QaI w (a0,a1,a2,a3,a4,a5,a6,a7,a8,a9,a10,a11)=some (Qqk a0 a1 a2 a3 a4 a5 a6 a7 a8 a9 a10 a11):=by
 obtain⟨h5,h7,h8,h9,h10,h11⟩:=h
 apply QxD
 simp only[QmX,XB,Qam,QDL a5 a6 h5,QnK a7 5 100000 h7,QnK a8 4 3 h8,ZG a9 a10 h9 h10,Qrd a11 h11,QCg a0 a1 a2 a3 a4 a5 a6 a7 a8 a9 a10 a11 h8,QQ0,Qqk]
 have key:okL (-1) a8=(decide (((a8.length:Nat):Int)<=4)&&(a8.all fun x=>inR x 0 3)&&QcC (a8.getD 0 0) (a8.drop 1)):=by
  cases hk:okL (-1) a8
  ·rw[QyU]at hk
   cases ha:a8.all fun x=>inR x 0 3
   ·simp
   ·rw[ha]at hk
    simp only[QRd]at hk
    cases hc:a8 with
    |nil=>rw[hc]at hk;simp[QcC]at hk
    |cons x l=>
     rw[hc]at hk ha
     simp only[List.all_cons,QQ5]at ha
     have:=QEC ha.1
     simp only[QcC,dt this,QRd]at hk
     simp[hk]
  ·have hl:=Qwm _ _ hk (by omega)
   have hl4:((a8.length:Nat):Int)<=4:=by
    rcases hl with h|h
    ·omega
    ·rw[h];simp
   rw[QyU]at hk
   simp only[QQ5]at hk
   rw[dt hl4,hk.1]
   cases hc:a8 with
   |nil=>rfl
   |cons x l=>
    have:=hk.2
    rw[hc]at this
    simp only[QcC,QQ5]at this
    simp[this.2]
 rw[key]
 cases inR a0 0 5
 case false=>simp
 cases inR a1 0 4
 case false=>simp
 cases inR a2 0 4
 case false=>simp
 cases decide (a1=a2)
 case true=>simp
 cases inR a3 0 100000
 case false=>simp
 cases inR a4 0 100000
 case false=>simp
 cases QfG (a5,a6)
 case false=>simp
 cases decide (((a7.length:Nat):Int)<=5)
 case false=>simp
 cases a7.all fun x=>inR x 0 100000
 case false=>simp
 cases decide (((a8.length:Nat):Int)<=4)
 case false=>simp
 cases a8.all fun x=>inR x 0 3
 case false=>simp
 cases QC (a9,a10)
 case false=>simp
 cases QO (-1) a11
 case false=>simp
 cases QcC (a8.getD 0 0) (a8.drop 1)<;>rfl
end Go.Proofs.YtjenicbpdklpbaaGreat.M
