/- What the plain forms that FnExactMsgText reaches come to: PMsg. No conditions but those that each theorem states. -/
import Derived.Test.YtameehmkoglkeaaDoorFnExactMsgTextPJoin
set_option linter.all false
namespace Go.Proofs.YtameehmkoglkeaaDoor.M
open Go Go.Eng Go.Proofs
set_option linter.unusedVariables false
theorem Qf4 (b:List Qg) (hb:b.length<=maxLen):KS w b=some (Qy (-1) b):=by
 apply QaA
 have e:=XU b.length (fun i=>XD wl (b,b,((b.length:Nat):Int),(i:Int))) (fun i=>if Qy (Zx b i) (b.drop i)then .inr ()else .inl false)
  (fun i hi ih=>by
    apply Jy
    simp only[K0,ilt hi,QB hi,Qx hi,inc hi hb,QQ1,ih,xJ,Zc,QQ0]
    rw[QRa hi,Qy,JW b hi]
    rcases Nat.eq_zero_or_pos i with h0|h0
    ·subst h0
     cases h1:inR b[0].1 0 4
     ·simp
     ·have:=VI h1
      simp only[yF,QQ2,QQ3,Zx,if_true,dt this,QRd,QRn]
      cases inR b[0].2 1 1000<;>simp
    ·have hi':i - 1<b.length:=by omega
     simp only[ipos h0,QQ1,jN h0 (by omega),QB hi',Qx hi',xA b h0 hi',Yb]
     cases inR b[i].1 0 4<;>cases inR b[i].2 1 1000<;>cases decide (b[i - 1].1<b[i].1)<;>simp)
  (by
    apply Jy
    simp only[K0,QI,QQ2,QRl,Qy,if_true])
 simp only[QQ6,QRg,Zx,if_true]at e
 simp only[qz,e,QQ0]
 cases Qy (-1) b<;>simp[QK]
theorem Qep (b:List Qg) (hb:b.length<=maxLen):KO w b=some (Qy (-1) b):=by
 apply Qav
 have e:=XU b.length (fun i=>Xy wl (b,(i:Int))) (fun i=>if Qy (Zx b i) (b.drop i)then .inr ()else .inl false)
  (fun i hi ih=>by
    apply Jk
    simp only[Vo,ilt hi,QB hi,Qx hi,inc hi hb,QQ1,ih,xN,VH,QQ0]
    rw[QRa hi,Qy,JW b hi]
    rcases Nat.eq_zero_or_pos i with h0|h0
    ·subst h0
     cases h1:inR b[0].1 0 4
     ·simp
     ·have:=VI h1
      simp only[yF,QQ2,QQ3,Zx,if_true,dt this,QRd,QRn]
      cases inR b[0].2 1 1000<;>simp
    ·have hi':i - 1<b.length:=by omega
     simp only[ipos h0,QQ1,jN h0 (by omega),QB hi',Qx hi',xA b h0 hi',Yb]
     cases inR b[i].1 0 4<;>cases inR b[i].2 1 1000<;>cases decide (b[i - 1].1<b[i].1)<;>simp)
  (by
    apply Jk
    simp only[Vo,QI,QQ2,QRl,Qy,if_true])
 simp only[QQ6,QRg,Zx,if_true]at e
 simp only[qE,e,QQ0]
 cases Qy (-1) b<;>simp[QK]
def Jb (t:V7):Bool:=bif decide (((t.1.length:Nat):Int)=0)then decide (t.2=0)else(t.1.all fun x=>inR x 0 1023)&&decide (((t.1.length:Nat):Int)=4)&&inR t.2 0 1023
theorem Qgt (l:List Int) (r:Int) (h:l.length<=maxLen):VZ w (l,r)=some (Jb (l,r)):=by
 apply Qb5
 have e:=XU l.length (fun i=>ZL wl (l,((l.length:Nat):Int),(i:Int),l,r)) (fun i=>if(l.drop i).all (fun x=>inR x 0 1023)then .inr (l,r)else .inl false)
  (fun i hi ih=>by
    apply JP
    rw[Qb1 (fun x=>inR x 0 1023) l _ _ hi]
    simp only[VN,ilt hi,QB hi,Qx hi,inc hi h,QQ1,Zc,QQ0,ih]
    cases inR l[i] 0 1023<;>simp)
  (by
    apply JP
    simp[VN])
 simp only[QQ6,QRg]at e
 simp only[xT,e,QQ0,Zc,Jb]
 cases decide (((l.length:Nat):Int)=0)
 ·cases l.all fun x=>inR x 0 1023
  ·simp[QK]
  ·simp only[if_true,QK,Sum.elim_inr,QQ2,QRd]
   cases decide (((l.length:Nat):Int)=4)<;>simp
 ·simp
theorem yc (l:List Int) (m hi:Int) (h:l.length<=maxLen):ZG w (l,m,hi)=some (decide (((l.length:Nat):Int)<=m)&&l.all fun x=>inR x 0 hi):=by
 apply Qau
 have e:=XU l.length (fun i=>Zj wl (l,hi,(i:Int))) (fun i=>if(l.drop i).all (fun x=>inR x 0 hi)then .inr ()else .inl false)
  (fun i hi' ih=>by
    apply Je
    rw[Qb1 (fun x=>inR x 0 hi) l _ _ hi']
    simp only[KI,ilt hi',QB hi',Qx hi',inc hi' h,QQ1,VH,QQ0,ih]
    cases inR l[i] 0 hi<;>simp)
  (by
    apply Je
    simp[KI])
 simp only[QQ6,QRg]at e
 simp only[xe,e,QQ0]
 by_cases hl:((l.length:Nat):Int)<=m
 ·simp only[df (show¬m<((l.length:Nat):Int) by omega),QQ2,dt hl,QRd]
  cases l.all fun x=>inR x 0 hi<;>simp[QK]
 ·simp only[dt (show m<((l.length:Nat):Int) by omega),QQ1,df hl,QRm]
theorem Qfs (l:List Int) (r:Int) (h:l.length<=maxLen):KH w (l,r)=some (Jb (l,r)):=by
 apply QaJ
 simp only[qx,yc l 4 1023 h,VH,QQ0,Jb]
 cases decide (((l.length:Nat):Int)=0)
 ·by_cases h4:((l.length:Nat):Int)=4
  ·simp only[QQ2,dt h4,QQ1,dt (show((l.length:Nat):Int)<=4 by omega),QRd,QRn]
   cases l.all fun x=>inR x 0 1023<;>simp
  ·simp only[QQ2,df h4,Bool.and_false,QRm]
 ·simp
def okL:Int->List Int->Bool
 |_,[]=>true
 |p,x::l=>inR x 0 3&&decide (p<x)&&okL x l
def Vr:Int->List Int->Bool
 |_,[]=>true
 |p,x::l=>decide (p<x)&&Vr x l
theorem QdZ:(p:Int)->(l:List Int)->okL p l=((l.all fun x=>inR x 0 3)&&Vr p l)
 |p,[]=>rfl
 |p,x::l=>by
  rw[okL,QdZ x l,List.all_cons,Vr]
  cases inR x 0 3<;>cases decide (p<x)<;>cases(l.all fun x=>inR x 0 3)<;>cases Vr x l<;>rfl
theorem Qfe:(p:Int)->(l:List Int)->okL p l=true-> -1<=p->(l.length:Int)<=3 - p\/l=[]
 |p,[],_,_=> .inr rfl
 |p,x::l,h,hp=>by
  simp only[okL,QQ5,inR,QRu]at h
  left
  rcases Qfe x l h.2 (by omega)with h5|h5
  ·simp only[List.length_cons];omega
  ·subst h5;simp;omega
def yg (b:List Int) (i:Nat):Int:=if i=0 then -1 else b.getD (i - 1) 0
theorem Qf8 (b:List Int) {i:Nat}(h:i<b.length):yg b (i+1)=b[i]:=by simp[yg,List.getD,h]
theorem QgN (b:List Int) {i:Nat}(h0:0<i) (h:i - 1<b.length):yg b i=b[i - 1]:=by
 simp[yg,List.getD,h,show¬i=0 by omega]
theorem QgP {n k:Int}(h:inR n 0 k=true): -1<n:=by
 simp[inR]at h;omega
def jT (a0:Int) (a1:Int) (a2:Int) (a3:Int) (a4:Int) (a5:List Int) (a6:Int) (a7:List Int) (a8:List Int) (a9:List Qn) (a10:List Qg) (a11:List Qg):Bool:=inR a0 0 5&&inR a1 0 4&&inR a2 0 4&& !decide (a1=a2)&&okL (-1) a8&&(a7.all fun x=>inR x 0 100000)&&inR a3 0 100000&&inR a4 0 100000&&Jb (a5,a6)&&decide (((a7.length:Nat):Int)<=5)&&Kr (a9,a10)&&Qy (-1) a11
def smM (a5 a7 a8:List Int) (a9:List Qn) (a10 a11:List Qg):Prop:=a5.length<=maxLen/\a7.length<=maxLen/\a8.length<=maxLen/\a9.length<=maxLen/\a10.length<=maxLen/\a11.length<=maxLen
theorem Qic (a0:Int) (a1:Int) (a2:Int) (a3:Int) (a4:Int) (a5:List Int) (a6:Int) (a7:List Int) (a8:List Int) (a9:List Qn) (a10:List Qg) (a11:List Qg) (h:smM a5 a7 a8 a9 a10 a11):ZU w (a0,a1,a2,a3,a4,a5,a6,a7,a8,a9,a10,a11)=some (jT a0 a1 a2 a3 a4 a5 a6 a7 a8 a9 a10 a11):=by
 obtain⟨h5,h7,h8,h9,h10,h11⟩:=h
 apply QcN
 have e0:=XU a8.length (fun i=>X8 wl (a8,((a8.length:Nat):Int),(i:Int),a0,a1,a2,a3,a4,a5,a6,a7,a8,a9,a10,a11)) (fun i=>if okL (yg a8 i) (a8.drop i)then .inr (a0,a1,a2,a3,a4,a5,a6,a7,a8,a9,a10,a11)else .inl false)
  (fun i hi ih=>by
    apply xl
    simp only[JL,ilt hi,QB hi,Qx hi,inc hi h8,QQ1,ih,Zc,QQ0]
    rw[QRa hi,okL,Qf8 a8 hi]
    rcases Nat.eq_zero_or_pos i with h0|h0
    ·subst h0
     cases h1:inR a8[0] 0 3
     ·simp
     ·have:=QgP h1
      simp only[yF,QQ2,QQ3,yg,if_true,dt this,QRd,QRn]
    ·have hi':i - 1<a8.length:=by omega
     simp only[ipos h0,QQ1,jN h0 (by omega),QB hi',Qx hi',QgN a8 h0 hi',Yb]
     cases inR a8[i] 0 3<;>cases decide (a8[i - 1]<a8[i])<;>simp)
  (by
    apply xl
    simp only[JL,QI,QQ2,QRl,okL,if_true])
 have e2:=XU a7.length (fun i=>ZY wl (a7,((a7.length:Nat):Int),(i:Int),a0,a1,a2,a3,a4,a5,a6,a7,a8,a9,a10,a11)) (fun i=>if(a7.drop i).all (fun x=>inR x 0 100000)then .inr (a0,a1,a2,a3,a4,a5,a6,a7,a8,a9,a10,a11)else .inl false)
  (fun i hi ih=>by
    apply qW
    rw[Qb1 (fun x=>inR x 0 100000) a7 _ _ hi]
    simp only[JI,ilt hi,QB hi,Qx hi,inc hi h7,QQ1,Zc,QQ0,ih]
    cases inR a7[i] 0 100000<;>simp)
  (by
    apply qW
    simp[JI])
 simp only[QQ6,QRg,yg,if_true]at e0 e2
 simp only[zl,e0,Zc,xJ,QQ0,jT]
 cases inR a0 0 5
 ·simp
 cases inR a1 0 4
 ·simp
 cases inR a2 0 4
 ·simp
 cases decide (a1=a2)
 case true=>simp
 simp only[QQ3,QQ4,QQ2,QRd]
 cases okL (-1) a8
 ·simp[QK]
 simp only[if_true,QK,Sum.elim_inr,e2,QQ0,QRd]
 cases a7.all fun x=>inR x 0 100000
 ·simp
 simp only[if_true,Sum.elim_inr,QRd,Qgt a5 a6 h5,QfH a9 a10 h9 h10,Qf4 a11 h11,QQ0]
 cases inR a3 0 100000<;>cases inR a4 0 100000<;>cases Jb (a5,a6)<;>cases decide (((a7.length:Nat):Int)<=5)<;>cases Kr (a9,a10)<;>cases Qy (-1) a11<;>rfl
theorem Qf2 (a0:Int) (a1:Int) (a2:Int) (a3:Int) (a4:Int) (a5:List Int) (a6:Int) (a7:List Int) (a8:List Int) (a9:List Qn) (a10:List Qg) (a11:List Qg) (h8:a8.length<=maxLen):X9 wl (1,a0,a1,a2,a3,a4,a5,a6,a7,a8,a9,a10,a11)=some (bif Vr (a8.getD 0 0) (a8.drop 1)then .inr ()else .inl false):=by
 cases hc:a8 with
 |nil=>
  apply Kq
  simp[Ke,Vr]
 |cons x l=>
  rw[<-hc]
  have hlen:a8.length=l.length+1:=by rw[hc];rfl
  have e:=XU l.length (fun j=>X9 wl (((j+1:Nat):Int),a0,a1,a2,a3,a4,a5,a6,a7,a8,a9,a10,a11)) (fun j=>bif Vr (a8.getD j 0) (a8.drop (j+1))then .inr ()else .inl false)
   (fun j hj ih=>by
     apply Kq
     have hi:j+1<a8.length:=by omega
     have hi':j<a8.length:=by omega
     have hd:=jN (i:=j+1) (by omega) (by omega)
     rw[show j+1 - 1=j by omega]at hd
     have hg:a8.getD (j+1) 0=a8[j+1]:=by simp[List.getD,hi]
     have hg':a8.getD j 0=a8[j]:=by simp[List.getD,hi']
     rw[hg]at ih
     simp only[Ke,ilt hi,QB hi,Qx hi,inc hi h8,hd,QB hi',Qx hi',QQ1,ih,Yb]
     rw[QRa hi,Vr,hg']
     cases decide (a8[j]<a8[j+1])<;>simp)
   (by
     apply Kq
     rw[<-hlen]
     simp only[Ke,QI,QQ2,QRl,Vr,QQ1])
  exact e
theorem QgH (a0:Int) (a1:Int) (a2:Int) (a3:Int) (a4:Int) (a5:List Int) (a6:Int) (a7:List Int) (a8:List Int) (a9:List Qn) (a10:List Qg) (a11:List Qg) (h:smM a5 a7 a8 a9 a10 a11):YD w (a0,a1,a2,a3,a4,a5,a6,a7,a8,a9,a10,a11)=some (jT a0 a1 a2 a3 a4 a5 a6 a7 a8 a9 a10 a11):=by
 obtain⟨h5,h7,h8,h9,h10,h11⟩:=h
 apply QcR
 simp only[zA,VH,xN,Qfs a5 a6 h5,yc a7 5 100000 h7,yc a8 4 3 h8,Qeq a9 a10 h9 h10,Qep a11 h11,Qf2 a0 a1 a2 a3 a4 a5 a6 a7 a8 a9 a10 a11 h8,QQ0,jT]
 have key:okL (-1) a8=(decide (((a8.length:Nat):Int)<=4)&&(a8.all fun x=>inR x 0 3)&&Vr (a8.getD 0 0) (a8.drop 1)):=by
  cases hk:okL (-1) a8
  ·rw[QdZ]at hk
   cases ha:a8.all fun x=>inR x 0 3
   ·simp
   ·rw[ha]at hk
    simp only[QRd]at hk
    cases hc:a8 with
    |nil=>rw[hc]at hk;simp[Vr]at hk
    |cons x l=>
     rw[hc]at hk ha
     simp only[List.all_cons,QQ5]at ha
     have:=QgP ha.1
     simp only[Vr,dt this,QRd]at hk
     simp[hk]
  ·have hl:=Qfe _ _ hk (by omega)
   have hl4:((a8.length:Nat):Int)<=4:=by
    rcases hl with h|h
    ·omega
    ·rw[h];simp
   rw[QdZ]at hk
   simp only[QQ5]at hk
   rw[dt hl4,hk.1]
   cases hc:a8 with
   |nil=>rfl
   |cons x l=>
    have:=hk.2
    rw[hc]at this
    simp only[Vr,QQ5]at this
    simp[this.2]
 rw[key]
 cases inR a0 0 5
 case false=>simp
 cases inR a1 0 4
 case false=>simp
 cases inR a2 0 4
 case false=>simp
 cases decide (a1=a2)
 case true=>simp
 cases inR a3 0 100000
 case false=>simp
 cases inR a4 0 100000
 case false=>simp
 cases Jb (a5,a6)
 case false=>simp
 cases decide (((a7.length:Nat):Int)<=5)
 case false=>simp
 cases a7.all fun x=>inR x 0 100000
 case false=>simp
 cases decide (((a8.length:Nat):Int)<=4)
 case false=>simp
 cases a8.all fun x=>inR x 0 3
 case false=>simp
 cases Kr (a9,a10)
 case false=>simp
 cases Qy (-1) a11
 case false=>simp
 cases Vr (a8.getD 0 0) (a8.drop 1)<;>rfl
end Go.Proofs.YtameehmkoglkeaaDoor.M
