/- What the plain forms that FnExactWorldText reaches come to: PWA. No conditions but those that each theorem states. -/
import Derived.Test.YtameehmkoglkeaaGreatDoorFnExactWorldTextPTree
set_option linter.all false
namespace Go.Proofs.YtameehmkoglkeaaGreatDoor.M
open Go Go.Eng Go.Proofs
set_option linter.unusedVariables false
theorem Qk5 (n:Int):(off:Nat)->(l:List Qp)->ZO n off l=true->(i:Nat)->(h:i<l.length)->ZP l[i]=true/\l[i].2.1=n/\l[i].1=((off+i:Nat):Int)
 |off,x::l,h,0,_=>by
  simp only[ZO,QQ5,QRu]at h
  simpa using⟨h.1.1,h.1.2.1,h.1.2.2⟩
 |off,x::l,h,i+1,hi=>by
  simp only[ZO,QQ5,QRu]at h
  have:=Qk5 n (off+1) l h.2 i (by simpa using hi)
  simp only[List.getElem_cons_succ]
  refine⟨this.1,this.2.1, ?_⟩
  rw[this.2.2];congr 1;omega
structure WOk (ns:List Qp) (net:List QH) (sd:List QI):Prop where
 n1:1<=ns.length
 n5:ns.length<=5
 net12:net.length<=12
 sd40:sd.length<=40
 nodes:ZO (ns.length:Nat) 0 ns=true
 nets:∀p∈net,inR p.1 0 ((ns.length:Nat) - 1)=true
 sds:∀x∈sd,inR x.1 0 ((ns.length:Nat) - 1)=true/\Q0 x.2=true
theorem Qka {ns:List Qp}{net:List QH}{sd:List QI}(h:VS ns net sd=true):WOk ns net sd:=by
 simp only[VS,QQ5,QRt,Qcb,Qga,Bool.not_eq_true',decide_eq_false_iff_not,inR,QRu]at h
 obtain⟨h1,h2,h3,h4,h5,h6⟩:=h
 refine⟨by omega,by omega,by omega,by omega,h4,fun p hp=> ?_,fun x hx=> ?_⟩
 ·simp only[inR,QQ5,QRu];exact h5 p hp
 ·simp only[inR,QQ5,QRu];exact h6 x hx
theorem WOk.node {ns:List Qp}{net:List QH}{sd:List QI}(h:WOk ns net sd) {i:Nat}(hi:i<ns.length):ZP ns[i]=true/\ns[i].2.1=ns.length/\ns[i].1=(i:Int):=by
 have:=Qk5 _ 0 ns h.nodes i hi
 simpa using this
def QAN {α:Type}(c:α->Int):Int->List α->Int
 |k,[]=>k
 |k,x::l=>QAN c (wR (k+c x)) l
def kept (ns:List Qp) (net:List QH) (sd:List QI):Int:=bif VS ns net sd then QAN (fun x:Qp=>((x.2.2.2.2.2.2.2.2.1.length:Nat):Int)) 0 ns else 0
def two (ns:List Qp) (net:List QH) (sd:List QI) (p q:Int):Bool:=VS ns net sd&&(inR p 0 ((ns.length:Nat) - 1)&&(inR q 0 ((ns.length:Nat) - 1)&& !decide (p=q)))
def nodeAt (ns:List Qp) (p:Int):Qp:=rd1 yq ns p
def lag (ns:List Qp) (net:List QH) (sd:List QI) (p q:Int):Int:=bif two ns net sd p q then wR (XV ((nodeAt ns p).2.2.2.2.2.2.1,(nodeAt ns p).2.2.2.2.2.2.2.1,(nodeAt ns p).2.2.2.2.2.2.2.2.1) - rd1 0 (nodeAt ns p).2.2.2.2.2.2.2.2.2.2.1 q)else -1
def behind (ns:List Qp) (net:List QH) (sd:List QI) (p q:Int):Bool:=bif decide (0<=lag ns net sd p q)then decide ((((nodeAt ns p).2.2.2.2.2.2.2.2.1.length:Nat):Int)<lag ns net sd p q)else false
end Go.Proofs.YtameehmkoglkeaaGreatDoor.M
namespace Go.Proofs.YtameehmkoglkeaaGreatDoor.M
open Go Go.Eng Go.Proofs
set_option linter.unusedVariables false
def live (x:Qg):Bool:=decide (x.2.2.1=0)
def view (s:Qn):List Qg:=bif Q0 s then s.1.filter live else []
end Go.Proofs.YtameehmkoglkeaaGreatDoor.M
namespace Go.Proofs.YtameehmkoglkeaaGreatDoor.M
open Go Go.Eng Go.Proofs
set_option linter.unusedVariables false
end Go.Proofs.YtameehmkoglkeaaGreatDoor.M
namespace Go.Proofs.YtameehmkoglkeaaGreatDoor.M
open Go Go.Eng Go.Proofs
set_option linter.unusedVariables false
end Go.Proofs.YtameehmkoglkeaaGreatDoor.M
namespace Go.Proofs.YtameehmkoglkeaaGreatDoor.M
open Go Go.Eng Go.Proofs
set_option linter.unusedVariables false
end Go.Proofs.YtameehmkoglkeaaGreatDoor.M
namespace Go.Proofs.YtameehmkoglkeaaGreatDoor.M
open Go Go.Eng Go.Proofs
set_option linter.unusedVariables false
def Qzn (a b:Qn) (id:Int):XI:=Qv7 (QpI (xi id a.1)) (QpI (xi id b.1))
def Qu6 (a b:Qn) (id:Int):Int:=mxI (X0 id a.2) (X0 id b.2)
def QA3 (a b:Qn) (i:Nat):List Qg:=bif decide (Qu6 a b (i:Int)<(Qzn a b (i:Int)).1)then [((i:Int),Qzn a b (i:Int))]else []
def QAC (a b:Qn) (i:Nat):List Qb:=bif decide (0<Qu6 a b (i:Int))then [((i:Int),Qu6 a b (i:Int))]else []
def join (a b:Qn):Qn:=((List.range' 0 5).flatMap (QA3 a b),(List.range' 0 5).flatMap (QAC a b))
def Qno (s:Qn) (id:Int):Int:=bif Q0 s then(bif (xi id s.1).2.2.2.2.2 then(bif decide ((xi id s.1).2.1=1)then(xi id s.1).1 else(xi id s.1).1 - 1)else X0 id s.2)else 0
def QAH (s:Qn) (i:Nat):List Qb:=bif decide (0<Qno s (i:Int))then [((i:Int),Qno s (i:Int))]else []
def marksOf (s:Qn):List Qb:=(List.range' 0 5).flatMap (QAH s)
end Go.Proofs.YtameehmkoglkeaaGreatDoor.M
namespace Go.Proofs.YtameehmkoglkeaaGreatDoor.M
open Go Go.Eng Go.Proofs
set_option linter.unusedVariables false
theorem QdD {x:XI}(h:Zm x=true):1<=x.1/\x.1<=1000/\0<=x.2.1/\x.2.1<=1/\0<=x.2.2.1/\x.2.2.1<=100000/\0<=x.2.2.2.1/\x.2.2.2.1<=1000/\x.2.2.2.2.size<=8:=by
 simp only[Zm,inR,QQ5,QRu]at h
 obtain⟨⟨⟨⟨⟨p1,p2⟩,p3,p4⟩,p5,p6⟩,p7,p8⟩,p9⟩:=h
 omega
end Go.Proofs.YtameehmkoglkeaaGreatDoor.M
namespace Go.Proofs.YtameehmkoglkeaaGreatDoor.M
open Go Go.Eng Go.Proofs
set_option linter.unusedVariables false
theorem Qvj (b:List Qb) (hb:b.length<=maxLen):jq w b=some (QJ (-1) b):=by
 apply Qnd
 have e:=QX b.length (fun i=>Z8 wl (b,b,((b.length:Nat):Int),(i:Int))) (fun i=>if QJ (Vq b i) (b.drop i)then .inr ()else .inl false)
  (fun i hi ih=>by
    apply QbT
    simp only[jl,ilt hi,Ql hi,Qi hi,inc hi hb,QQ1,ih,Qck,Q8,QQ0]
    rw[QRa hi,QJ,QdG b hi]
    rcases Nat.eq_zero_or_pos i with h0|h0
    ·subst h0
     cases h1:inR b[0].1 0 4
     ·simp
     ·have:=QaC h1
      simp only[QiD,QQ2,QQ3,Vq,if_true,dt this,QRd,QRn]
      cases inR b[0].2 1 1000<;>simp
    ·have hi':i - 1<b.length:=by omega
     simp only[ipos h0,QQ1,QjB h0 (by omega),Ql hi',Qi hi',Qgs b h0 hi',JK]
     cases inR b[i].1 0 4<;>cases inR b[i].2 1 1000<;>cases decide (b[i - 1].1<b[i].1)<;>simp)
  (by
    apply QbT
    simp only[jl,Qs,QQ2,QRl,QJ,if_true])
 simp only[QQ6,QRg,Vq,if_true]at e
 simp only[Qe3,e,QQ0]
 cases QJ (-1) b<;>simp[Qo]
theorem Qtb (b:List Qb) (hb:b.length<=maxLen):jB w b=some (QJ (-1) b):=by
 apply Qnc
 have e:=QX b.length (fun i=>Yi wl (b,(i:Int))) (fun i=>if QJ (Vq b i) (b.drop i)then .inr ()else .inl false)
  (fun i hi ih=>by
    apply QbR
    simp only[jg,ilt hi,Ql hi,Qi hi,inc hi hb,QQ1,ih,QbD,XE,QQ0]
    rw[QRa hi,QJ,QdG b hi]
    rcases Nat.eq_zero_or_pos i with h0|h0
    ·subst h0
     cases h1:inR b[0].1 0 4
     ·simp
     ·have:=QaC h1
      simp only[QiD,QQ2,QQ3,Vq,if_true,dt this,QRd,QRn]
      cases inR b[0].2 1 1000<;>simp
    ·have hi':i - 1<b.length:=by omega
     simp only[ipos h0,QQ1,QjB h0 (by omega),Ql hi',Qi hi',Qgs b h0 hi',JK]
     cases inR b[i].1 0 4<;>cases inR b[i].2 1 1000<;>cases decide (b[i - 1].1<b[i].1)<;>simp)
  (by
    apply QbR
    simp only[jg,Qs,QQ2,QRl,QJ,if_true])
 simp only[QQ6,QRg,Vq,if_true]at e
 simp only[Qfc,e,QQ0]
 cases QJ (-1) b<;>simp[Qo]
def qL (t:ZU):Bool:=bif decide (((t.1.length:Nat):Int)=0)then decide (t.2=0)else(t.1.all fun x=>inR x 0 1023)&&decide (((t.1.length:Nat):Int)=4)&&inR t.2 0 1023
theorem Qwu (l:List Int) (r:Int) (h:l.length<=maxLen):Qbg w (l,r)=some (qL (l,r)):=by
 apply QoL
 have e:=QX l.length (fun i=>Vt wl (l,((l.length:Nat):Int),(i:Int),l,r)) (fun i=>if(l.drop i).all (fun x=>inR x 0 1023)then .inr (l,r)else .inl false)
  (fun i hi ih=>by
    apply Qdc
    rw[X8 (fun x=>inR x 0 1023) l _ _ hi]
    simp only[QaH,ilt hi,Ql hi,Qi hi,inc hi h,QQ1,Q8,QQ0,ih]
    cases inR l[i] 0 1023<;>simp)
  (by
    apply Qdc
    simp[QaH])
 simp only[QQ6,QRg]at e
 simp only[QgB,e,QQ0,Q8,qL]
 cases decide (((l.length:Nat):Int)=0)
 ·cases l.all fun x=>inR x 0 1023
  ·simp[Qo]
  ·simp only[if_true,Qo,Sum.elim_inr,QQ2,QRd]
   cases decide (((l.length:Nat):Int)=4)<;>simp
 ·simp
theorem Qit (l:List Int) (m hi:Int) (h:l.length<=maxLen):VY w (l,m,hi)=some (decide (((l.length:Nat):Int)<=m)&&l.all fun x=>inR x 0 hi):=by
 apply QnI
 have e:=QX l.length (fun i=>Kx wl (l,hi,(i:Int))) (fun i=>if(l.drop i).all (fun x=>inR x 0 hi)then .inr ()else .inl false)
  (fun i hi' ih=>by
    apply Qcw
    rw[X8 (fun x=>inR x 0 hi) l _ _ hi']
    simp only[yO,ilt hi',Ql hi',Qi hi',inc hi' h,QQ1,XE,QQ0,ih]
    cases inR l[i] 0 hi<;>simp)
  (by
    apply Qcw
    simp[yO])
 simp only[QQ6,QRg]at e
 simp only[QfM,e,QQ0]
 by_cases hl:((l.length:Nat):Int)<=m
 ·simp only[df (show¬m<((l.length:Nat):Int) by omega),QQ2,dt hl,QRd]
  cases l.all fun x=>inR x 0 hi<;>simp[Qo]
 ·simp only[dt (show m<((l.length:Nat):Int) by omega),QQ1,df hl,QRm]
theorem QuF (l:List Int) (r:Int) (h:l.length<=maxLen):yr w (l,r)=some (qL (l,r)):=by
 apply Qmn
 simp only[Qe9,Qit l 4 1023 h,XE,QQ0,qL]
 cases decide (((l.length:Nat):Int)=0)
 ·by_cases h4:((l.length:Nat):Int)=4
  ·simp only[QQ2,dt h4,QQ1,dt (show((l.length:Nat):Int)<=4 by omega),QRd,QRn]
   cases l.all fun x=>inR x 0 1023<;>simp
  ·simp only[QQ2,df h4,Bool.and_false,QRm]
 ·simp
def okL:Int->List Int->Bool
 |_,[]=>true
 |p,x::l=>inR x 0 3&&decide (p<x)&&okL x l
def yu:Int->List Int->Bool
 |_,[]=>true
 |p,x::l=>decide (p<x)&&yu x l
theorem QnJ:(p:Int)->(l:List Int)->okL p l=((l.all fun x=>inR x 0 3)&&yu p l)
 |p,[]=>rfl
 |p,x::l=>by
  rw[okL,QnJ x l,List.all_cons,yu]
  cases inR x 0 3<;>cases decide (p<x)<;>cases(l.all fun x=>inR x 0 3)<;>cases yu x l<;>rfl
theorem QoH:(p:Int)->(l:List Int)->okL p l=true-> -1<=p->(l.length:Int)<=3 - p\/l=[]
 |p,[],_,_=> .inr rfl
 |p,x::l,h,hp=>by
  simp only[okL,QQ5,inR,QRu]at h
  left
  rcases QoH x l h.2 (by omega)with h5|h5
  ·simp only[List.length_cons];omega
  ·subst h5;simp;omega
def QiH (b:List Int) (i:Nat):Int:=if i=0 then -1 else b.getD (i - 1) 0
theorem Qvy (b:List Int) {i:Nat}(h:i<b.length):QiH b (i+1)=b[i]:=by simp[QiH,List.getD,h]
theorem Qw2 (b:List Int) {i:Nat}(h0:0<i) (h:i - 1<b.length):QiH b i=b[i - 1]:=by
 simp[QiH,List.getD,h,show¬i=0 by omega]
theorem Qwk {n k:Int}(h:inR n 0 k=true): -1<n:=by
 simp[inR]at h;omega
def J1 (a0:Int) (a1:Int) (a2:Int) (a3:Int) (a4:Int) (a5:List Int) (a6:Int) (a7:List Int) (a8:List Int) (a9:List Qg) (a10:List Qb) (a11:List Qb):Bool:=inR a0 0 5&&inR a1 0 4&&inR a2 0 4&& !decide (a1=a2)&&okL (-1) a8&&(a7.all fun x=>inR x 0 100000)&&inR a3 0 100000&&inR a4 0 100000&&qL (a5,a6)&&decide (((a7.length:Nat):Int)<=5)&&Q0 (a9,a10)&&QJ (-1) a11
def smM (a5 a7 a8:List Int) (a9:List Qg) (a10 a11:List Qb):Prop:=a5.length<=maxLen/\a7.length<=maxLen/\a8.length<=maxLen/\a9.length<=maxLen/\a10.length<=maxLen/\a11.length<=maxLen
theorem QlK (a0:Int) (a1:Int) (a2:Int) (a3:Int) (a4:Int) (a5:List Int) (a6:Int) (a7:List Int) (a8:List Int) (a9:List Qg) (a10:List Qb) (a11:List Qb) (h:smM a5 a7 a8 a9 a10 a11):YH w (a0,a1,a2,a3,a4,a5,a6,a7,a8,a9,a10,a11)=some (J1 a0 a1 a2 a3 a4 a5 a6 a7 a8 a9 a10 a11):=by
 obtain⟨h5,h7,h8,h9,h10,h11⟩:=h
 apply QqU
 have e0:=QX a8.length (fun i=>Ki wl (a8,((a8.length:Nat):Int),(i:Int),a0,a1,a2,a3,a4,a5,a6,a7,a8,a9,a10,a11)) (fun i=>if okL (QiH a8 i) (a8.drop i)then .inr (a0,a1,a2,a3,a4,a5,a6,a7,a8,a9,a10,a11)else .inl false)
  (fun i hi ih=>by
    apply QeY
    simp only[QcR,ilt hi,Ql hi,Qi hi,inc hi h8,QQ1,ih,Q8,QQ0]
    rw[QRa hi,okL,Qvy a8 hi]
    rcases Nat.eq_zero_or_pos i with h0|h0
    ·subst h0
     cases h1:inR a8[0] 0 3
     ·simp
     ·have:=Qwk h1
      simp only[QiD,QQ2,QQ3,QiH,if_true,dt this,QRd,QRn]
    ·have hi':i - 1<a8.length:=by omega
     simp only[ipos h0,QQ1,QjB h0 (by omega),Ql hi',Qi hi',Qw2 a8 h0 hi',JK]
     cases inR a8[i] 0 3<;>cases decide (a8[i - 1]<a8[i])<;>simp)
  (by
    apply QeY
    simp only[QcR,Qs,QQ2,QRl,okL,if_true])
 have e2:=QX a7.length (fun i=>Jt wl (a7,((a7.length:Nat):Int),(i:Int),a0,a1,a2,a3,a4,a5,a6,a7,a8,a9,a10,a11)) (fun i=>if(a7.drop i).all (fun x=>inR x 0 100000)then .inr (a0,a1,a2,a3,a4,a5,a6,a7,a8,a9,a10,a11)else .inl false)
  (fun i hi ih=>by
    apply Qed
    rw[X8 (fun x=>inR x 0 100000) a7 _ _ hi]
    simp only[QcL,ilt hi,Ql hi,Qi hi,inc hi h7,QQ1,Q8,QQ0,ih]
    cases inR a7[i] 0 100000<;>simp)
  (by
    apply Qed
    simp[QcL])
 simp only[QQ6,QRg,QiH,if_true]at e0 e2
 simp only[Qh7,e0,Q8,Qck,QQ0,J1]
 cases inR a0 0 5
 ·simp
 cases inR a1 0 4
 ·simp
 cases inR a2 0 4
 ·simp
 cases decide (a1=a2)
 case true=>simp
 simp only[QQ3,QQ4,QQ2,QRd]
 cases okL (-1) a8
 ·simp[Qo]
 simp only[if_true,Qo,Sum.elim_inr,e2,QQ0,QRd]
 cases a7.all fun x=>inR x 0 100000
 ·simp
 simp only[if_true,Sum.elim_inr,QRd,Qwu a5 a6 h5,YG a9 a10 h9 h10,Qvj a11 h11,QQ0]
 cases inR a3 0 100000<;>cases inR a4 0 100000<;>cases qL (a5,a6)<;>cases decide (((a7.length:Nat):Int)<=5)<;>cases Q0 (a9,a10)<;>cases QJ (-1) a11<;>rfl
theorem QvL (a0:Int) (a1:Int) (a2:Int) (a3:Int) (a4:Int) (a5:List Int) (a6:Int) (a7:List Int) (a8:List Int) (a9:List Qg) (a10:List Qb) (a11:List Qb) (h8:a8.length<=maxLen):Kg wl (1,a0,a1,a2,a3,a4,a5,a6,a7,a8,a9,a10,a11)=some (bif yu (a8.getD 0 0) (a8.drop 1)then .inr ()else .inl false):=by
 cases hc:a8 with
 |nil=>
  apply zM
  simp[zm,yu]
 |cons x l=>
  rw[<-hc]
  have hlen:a8.length=l.length+1:=by rw[hc];rfl
  have e:=QX l.length (fun j=>Kg wl (((j+1:Nat):Int),a0,a1,a2,a3,a4,a5,a6,a7,a8,a9,a10,a11)) (fun j=>bif yu (a8.getD j 0) (a8.drop (j+1))then .inr ()else .inl false)
   (fun j hj ih=>by
     apply zM
     have hi:j+1<a8.length:=by omega
     have hi':j<a8.length:=by omega
     have hd:=QjB (i:=j+1) (by omega) (by omega)
     rw[show j+1 - 1=j by omega]at hd
     have hg:a8.getD (j+1) 0=a8[j+1]:=by simp[List.getD,hi]
     have hg':a8.getD j 0=a8[j]:=by simp[List.getD,hi']
     rw[hg]at ih
     simp only[zm,ilt hi,Ql hi,Qi hi,inc hi h8,hd,Ql hi',Qi hi',QQ1,ih,JK]
     rw[QRa hi,yu,hg']
     cases decide (a8[j]<a8[j+1])<;>simp)
   (by
     apply zM
     rw[<-hlen]
     simp only[zm,Qs,QQ2,QRl,yu,QQ1])
  exact e
theorem Qj7 (a0:Int) (a1:Int) (a2:Int) (a3:Int) (a4:Int) (a5:List Int) (a6:Int) (a7:List Int) (a8:List Int) (a9:List Qg) (a10:List Qb) (a11:List Qb) (h:smM a5 a7 a8 a9 a10 a11):KL w (a0,a1,a2,a3,a4,a5,a6,a7,a8,a9,a10,a11)=some (J1 a0 a1 a2 a3 a4 a5 a6 a7 a8 a9 a10 a11):=by
 obtain⟨h5,h7,h8,h9,h10,h11⟩:=h
 apply QqI
 simp only[QhF,XE,QbD,QuF a5 a6 h5,Qit a7 5 100000 h7,Qit a8 4 3 h8,Vf a9 a10 h9 h10,Qtb a11 h11,QvL a0 a1 a2 a3 a4 a5 a6 a7 a8 a9 a10 a11 h8,QQ0,J1]
 have key:okL (-1) a8=(decide (((a8.length:Nat):Int)<=4)&&(a8.all fun x=>inR x 0 3)&&yu (a8.getD 0 0) (a8.drop 1)):=by
  cases hk:okL (-1) a8
  ·rw[QnJ]at hk
   cases ha:a8.all fun x=>inR x 0 3
   ·simp
   ·rw[ha]at hk
    simp only[QRd]at hk
    cases hc:a8 with
    |nil=>rw[hc]at hk;simp[yu]at hk
    |cons x l=>
     rw[hc]at hk ha
     simp only[List.all_cons,QQ5]at ha
     have:=Qwk ha.1
     simp only[yu,dt this,QRd]at hk
     simp[hk]
  ·have hl:=QoH _ _ hk (by omega)
   have hl4:((a8.length:Nat):Int)<=4:=by
    rcases hl with h|h
    ·omega
    ·rw[h];simp
   rw[QnJ]at hk
   simp only[QQ5]at hk
   rw[dt hl4,hk.1]
   cases hc:a8 with
   |nil=>rfl
   |cons x l=>
    have:=hk.2
    rw[hc]at this
    simp only[yu,QQ5]at this
    simp[this.2]
 rw[key]
 cases inR a0 0 5
 case false=>simp
 cases inR a1 0 4
 case false=>simp
 cases inR a2 0 4
 case false=>simp
 cases decide (a1=a2)
 case true=>simp
 cases inR a3 0 100000
 case false=>simp
 cases inR a4 0 100000
 case false=>simp
 cases qL (a5,a6)
 case false=>simp
 cases decide (((a7.length:Nat):Int)<=5)
 case false=>simp
 cases a7.all fun x=>inR x 0 100000
 case false=>simp
 cases decide (((a8.length:Nat):Int)<=4)
 case false=>simp
 cases a8.all fun x=>inR x 0 3
 case false=>simp
 cases Q0 (a9,a10)
 case false=>simp
 cases QJ (-1) a11
 case false=>simp
 cases yu (a8.getD 0 0) (a8.drop 1)<;>rfl
end Go.Proofs.YtameehmkoglkeaaGreatDoor.M
namespace Go.Proofs.YtameehmkoglkeaaGreatDoor.M
open Go Go.Eng Go.Proofs
set_option linter.unusedVariables false
theorem Qiq:(p:Int)->(l:List Qb)->QJ p l=true->∀x∈l,inR x.1 0 4=true/\inR x.2 1 1000=true
 |_,[],_=>by simp
 |p,x::l,h=>by
  simp only[QJ,QQ5]at h
  intro y hy
  rcases QRk.1 hy with rfl|hy
  ·exact⟨h.1.1.1,h.1.1.2⟩
  ·exact Qiq _ l h.2 y hy
def Qwb (r:List Int):List Qb->List Int
 | []=>r
 |m::l=>Qwb (r.set m.1.toNat (mxI (rd1 0 r m.1) m.2)) l
def Qr9 (t:List (List Int)) (k:Int) (l:List Qb):List (List Int):=bif inR k 0 ((t.length:Nat) - 1)&&(QJ (-1) l&& !decide (((List.length (rd1 ([]:List Int) t k):Nat):Int)<5))then t.set k.toNat (Qwb (rd1 ([]:List Int) t k) l)else t
def Qyg (id:Int):Nat->Int->List (List Int)->Int⊕Int
 |_,m,[]=> .inr m
 |k,m,r::l=>bif inR id 0 ((r.length:Nat) - 1)then(bif decide (k=0)||decide (rd1 0 r id<m)then Qyg id (k+1) (rd1 0 r id) l else Qyg id (k+1) m l)else .inl 0
def common (t:List (List Int)) (id:Int):Int:=Sum.elim (fun u=>u) (fun z=>z) (Qyg id 0 0 t)
def QzG (s:Qn) (t:List (List Int)) (i:Nat):List Qb:=bif decide (0<mnI (common t (i:Int)) (Qno s (i:Int)))then [((i:Int),mnI (common t (i:Int)) (Qno s (i:Int)))]else []
def QAP (s:Qn) (t:List (List Int)):Qn:=([],(List.range' 0 5).flatMap (QzG s t))
def prune (s:Qn) (t:List (List Int)):Qn:=bif Q0 s then join s (QAP s t)else s
def Qxi (v:List Int) (k n:Int):List Int:=bif inR k 0 ((v.length:Nat) - 1)then v.set k.toNat (mxI (rd1 0 v k) n)else v
end Go.Proofs.YtameehmkoglkeaaGreatDoor.M
namespace Go.Proofs.YtameehmkoglkeaaGreatDoor.M
open Go Go.Eng Go.Proofs
set_option linter.unusedVariables false
structure NOk (x:Qp):Prop where
 n:inR x.2.1 1 5=true
 id:inR x.1 0 (x.2.1 - 1)=true
 st:Q0 (x.2.2.1,x.2.2.2.1)=true
 tree:(x.2.2.2.2.1,x.2.2.2.2.2.1)=KV (x.2.2.1,x.2.2.2.1)
 log:xp (x.2.2.2.2.2.2.1,x.2.2.2.2.2.2.2.1,x.2.2.2.2.2.2.2.2.1)=true
 got:Z2 x.2.2.2.2.2.2.2.2.2.1 x.2.1=true
 ack:Z2 x.2.2.2.2.2.2.2.2.2.2.1 x.2.1=true
 own:x.2.2.2.2.2.2.2.2.2.1.getD (x.1).toNat 0=XV (x.2.2.2.2.2.2.1,x.2.2.2.2.2.2.2.1,x.2.2.2.2.2.2.2.2.1)
 heard:(x.2.2.2.2.2.2.2.2.2.2.1.all fun y=>decide (y<=XV (x.2.2.2.2.2.2.1,x.2.2.2.2.2.2.2.1,x.2.2.2.2.2.2.2.2.1)))=true
 seen:xf x.2.2.2.2.2.2.2.2.2.2.2.1 x.2.1=true
 num:inR x.2.2.2.2.2.2.2.2.2.2.2.2.1 0 100000=true
 clock:inR x.2.2.2.2.2.2.2.2.2.2.2.2.2.2.2.2.2.1 0 100000=true
 wait:inR x.2.2.2.2.2.2.2.2.2.2.2.2.2.2.2.1 1 20=true
 limit:inR x.2.2.2.2.2.2.2.2.2.2.2.2.2.2.2.2.1 1 50=true
 slots:inR x.2.2.2.2.2.2.2.2.2.2.2.2.2.1 1 4=true
 room:((x.2.2.2.2.2.2.2.2.2.2.2.2.2.2.1.length:Nat):Int)<=x.2.2.2.2.2.2.2.2.2.2.2.2.2.1
 sess:YW x.1 x.2.1 x.2.2.2.2.2.2.2.2.2.2.2.2.2.2.2.1 [] x.2.2.2.2.2.2.2.2.2.2.2.2.2.2.1=true
 rlen:((x.2.2.2.2.2.2.2.2.2.2.2.2.2.2.2.2.2.2.length:Nat):Int)=5
 rises:x.2.2.2.2.2.2.2.2.2.2.2.2.2.2.2.2.2.2.all (JB x.2.2.2.2.2.2.2.2.2.2.2.2.2.2.2.2.2.1)=true
theorem nok {x:Qp}(h:ZP x=true):NOk x:=by
 simp only[ZP,Qh4,QQ5,QRu]at h
 obtain⟨⟨⟨⟨⟨⟨⟨⟨⟨⟨⟨⟨⟨⟨⟨⟨⟨⟨h1,h2⟩,h3⟩,h4⟩,h5⟩,h6⟩,h7⟩,h8⟩,h9⟩,h10⟩,h11⟩,h12⟩,h13⟩,h14⟩,h15⟩,h16⟩,h17⟩,h18⟩,h19⟩:=h
 exact⟨h1,h2,h3,h4,h5,h6,h7,h8,h9,h10,h11,h12,h13,h14,h15,h16,h17,h18,h19⟩
theorem QW {n a b:Int}:inR n a b=true↔a<=n/\n<=b:=by simp[inR]
theorem Qwd {v:List Int}{n:Int}(h:Z2 v n=true):((v.length:Nat):Int)=n/\∀y∈v,inR y 0 100000=true:=by
 simp only[Z2,QQ5,QRu,QRt]at h
 exact⟨h.1.2,h.2⟩
def QxL (c:Int) (rs:List Q2) (x:Qg):List Q2:=bif decide ((rd1 Qf6 rs x.1).1<x.2.1)then rs.set x.1.toNat (x.2.1,x.2.2.2.1,c)else(bif decide (x.2.1=(rd1 Qf6 rs x.1).1)then(bif decide ((rd1 Qf6 rs x.1).2.1<x.2.2.2.1)then rs.set x.1.toNat (x.2.1,x.2.2.2.1,c)else rs)else rs)
def Qt5 (c:Int):List Q2->List Qg->List Q2
 |rs,[]=>rs
 |rs,x::l=>Qt5 c (QxL c rs x) l
theorem Qn1 (fl:List Qb):(p:Int)->(l:List Qg)->Xx fl p l=true->∀x∈l,inR x.1 0 4=true/\Zm x.2=true
 |_,[],_=>by simp
 |p,x::l,h=>by
  simp only[Xx,QQ5]at h
  intro y hy
  rcases QRk.1 hy with rfl|hy
  ·exact⟨h.1.1.1.1,h.1.1.1.2⟩
  ·exact Qn1 fl _ l h.2 y hy
theorem Qog {s:Qn}(h:Q0 s=true):∀x∈s.1,inR x.1 0 4=true/\Zm x.2=true:=by
 simp only[Q0,QQ5]at h
 exact Qn1 _ _ _ h.2
def Qsw (x:Qp) (p:Qn):List (List Int):=Qr9 x.2.2.2.2.2.2.2.2.2.2.2.1 x.1 (marksOf (join (x.2.2.1,x.2.2.2.1) p))
def QjX (x:Qp) (p:Qn):Qn:=prune (join (x.2.2.1,x.2.2.2.1) p) (Qsw x p)
def take (x:Qp) (p:Qn):Qp:=(x.1,x.2.1,(QjX x p).1,(QjX x p).2,(KV (QjX x p)).1,(KV (QjX x p)).2,x.2.2.2.2.2.2.1,x.2.2.2.2.2.2.2.1,x.2.2.2.2.2.2.2.2.1,x.2.2.2.2.2.2.2.2.2.1,x.2.2.2.2.2.2.2.2.2.2.1,Qsw x p,x.2.2.2.2.2.2.2.2.2.2.2.2.1,x.2.2.2.2.2.2.2.2.2.2.2.2.2.1,x.2.2.2.2.2.2.2.2.2.2.2.2.2.2.1,x.2.2.2.2.2.2.2.2.2.2.2.2.2.2.2.1,x.2.2.2.2.2.2.2.2.2.2.2.2.2.2.2.2.1,x.2.2.2.2.2.2.2.2.2.2.2.2.2.2.2.2.2.1,Qt5 x.2.2.2.2.2.2.2.2.2.2.2.2.2.2.2.2.2.1 x.2.2.2.2.2.2.2.2.2.2.2.2.2.2.2.2.2.2 (QjX x p).1)
end Go.Proofs.YtameehmkoglkeaaGreatDoor.M
namespace Go.Proofs.YtameehmkoglkeaaGreatDoor.M
open Go Go.Eng Go.Proofs
set_option linter.unusedVariables false
def one (id:Int) (e:XI):Qn:=([(id,e)],[])
end Go.Proofs.YtameehmkoglkeaaGreatDoor.M
namespace Go.Proofs.YtameehmkoglkeaaGreatDoor.M
open Go Go.Eng Go.Proofs
set_option linter.unusedVariables false
def Zb (m:XM):Bool:=J1 m.1 m.2.1 m.2.2.1 m.2.2.2.1 m.2.2.2.2.1 m.2.2.2.2.2.1 m.2.2.2.2.2.2.1 m.2.2.2.2.2.2.2.1 m.2.2.2.2.2.2.2.2.1 m.2.2.2.2.2.2.2.2.2.1 m.2.2.2.2.2.2.2.2.2.2.1 m.2.2.2.2.2.2.2.2.2.2.2
def Qil (m:XM):Prop:=smM m.2.2.2.2.2.1 m.2.2.2.2.2.2.2.1 m.2.2.2.2.2.2.2.2.1 m.2.2.2.2.2.2.2.2.2.1 m.2.2.2.2.2.2.2.2.2.2.1 m.2.2.2.2.2.2.2.2.2.2.2
structure MOk (m:XM):Prop where
 kind:inR m.1 0 5=true
 src:inR m.2.1 0 4=true
 dst:inR m.2.2.1 0 4=true
 two:m.2.1≠m.2.2.1
 lv:okL (-1) m.2.2.2.2.2.2.2.2.1=true
 vec:∀y∈m.2.2.2.2.2.2.2.1,inR y 0 100000=true
 num:inR m.2.2.2.1 0 100000=true
 hi:inR m.2.2.2.2.1 0 100000=true
 tree:qL (m.2.2.2.2.2.1,m.2.2.2.2.2.2.1)=true
 vl:((m.2.2.2.2.2.2.2.1.length:Nat):Int)<=5
 part:Q0 (m.2.2.2.2.2.2.2.2.2.1,m.2.2.2.2.2.2.2.2.2.2.1)=true
 marks:QJ (-1) m.2.2.2.2.2.2.2.2.2.2.2=true
theorem mok {m:XM}(h:Zb m=true):MOk m:=by
 simp only[Zb,J1,QQ5,QRu,QRt,Bool.not_eq_true',decide_eq_false_iff_not]at h
 obtain⟨⟨⟨⟨⟨⟨⟨⟨⟨⟨⟨h1,h2⟩,h3⟩,h4⟩,h5⟩,h6⟩,h7⟩,h8⟩,h9⟩,h10⟩,h11⟩,h12⟩:=h
 exact⟨h1,h2,h3,h4,h5,h6,h7,h8,h9,h10,h11,h12⟩
theorem Qwx {l:List Qb}(h:QJ (-1) l=true):l.length<=5:=by
 have:=jW _ _ h (by omega)
 rcases this with h|h
 ·omega
 ·rw[h];simp
structure Fit (x:Qp) (m:XM):Prop where
 ok:MOk m
 to:m.2.2.1=x.1
 src:m.2.1<x.2.1
 len:((m.2.2.2.2.2.2.2.1.length:Nat):Int)=x.2.1
def QAQ (x:Qp) (m:XM):Qp:=(x.1,x.2.1,x.2.2.1,x.2.2.2.1,x.2.2.2.2.1,x.2.2.2.2.2.1,x.2.2.2.2.2.2.1,x.2.2.2.2.2.2.2.1,x.2.2.2.2.2.2.2.2.1,x.2.2.2.2.2.2.2.2.2.1,Qxi x.2.2.2.2.2.2.2.2.2.2.1 m.2.1 (mnI (rd1 0 m.2.2.2.2.2.2.2.1 x.1) (XV (x.2.2.2.2.2.2.1,x.2.2.2.2.2.2.2.1,x.2.2.2.2.2.2.2.2.1))),Qr9 x.2.2.2.2.2.2.2.2.2.2.2.1 m.2.1 m.2.2.2.2.2.2.2.2.2.2.2,x.2.2.2.2.2.2.2.2.2.2.2.2.1,x.2.2.2.2.2.2.2.2.2.2.2.2.2.1,x.2.2.2.2.2.2.2.2.2.2.2.2.2.2.1,x.2.2.2.2.2.2.2.2.2.2.2.2.2.2.2.1,x.2.2.2.2.2.2.2.2.2.2.2.2.2.2.2.2.1,x.2.2.2.2.2.2.2.2.2.2.2.2.2.2.2.2.2.1,x.2.2.2.2.2.2.2.2.2.2.2.2.2.2.2.2.2.2)
def heard (x:Qp) (m:XM):Qp:=take (QAQ x m) ([],[])
end Go.Proofs.YtameehmkoglkeaaGreatDoor.M
