/- What the plain forms that FnExactNodeText reaches come to: PSem. No conditions but those that each theorem states. -/
import Derived.Test.YtameehmkoglkeaaGreatDoorFnExactNodeTextPStBytes
set_option linter.all false
namespace Go.Proofs.YtameehmkoglkeaaGreatDoor.M
open Go Go.Eng Go.Proofs
set_option linter.unusedVariables false
def QqB (a b:Qi) (id:Int):Xm:=QrB (Ql8 (zk id a.1)) (Ql8 (zk id b.1))
def QnM (a b:Qi) (id:Int):Int:=mxI (Xn id a.2) (Xn id b.2)
def Qrp (a b:Qi) (i:Nat):List Qj:=bif decide (QnM a b (i:Int)<(QqB a b (i:Int)).1)then [((i:Int),QqB a b (i:Int))]else []
def Qro (a b:Qi) (i:Nat):List Qd:=bif decide (0<QnM a b (i:Int))then [((i:Int),QnM a b (i:Int))]else []
def join (a b:Qi):Qi:=((List.range' 0 5).flatMap (Qrp a b),(List.range' 0 5).flatMap (Qro a b))
def Qg8 (s:Qi) (id:Int):Int:=bif QX s then(bif (zk id s.1).2.2.2.2.2 then(bif decide ((zk id s.1).2.1=1)then(zk id s.1).1 else(zk id s.1).1 - 1)else Xn id s.2)else 0
def Qrs (s:Qi) (i:Nat):List Qd:=bif decide (0<Qg8 s (i:Int))then [((i:Int),Qg8 s (i:Int))]else []
def marksOf (s:Qi):List Qd:=(List.range' 0 5).flatMap (Qrs s)
theorem Qdv {x:Xm}(h:X4 x=true):1<=x.1/\x.1<=1000/\0<=x.2.1/\x.2.1<=1/\0<=x.2.2.1/\x.2.2.1<=100000/\0<=x.2.2.2.1/\x.2.2.2.1<=1000/\x.2.2.2.2.size<=8:=by
 simp only[X4,inR,QQ5,QRu]at h
 obtain⟨⟨⟨⟨⟨p1,p2⟩,p3,p4⟩,p5,p6⟩,p7,p8⟩,p9⟩:=h
 omega
def Qrk (t:ZY):Bool:=bif decide (((t.1.length:Nat):Int)=0)then decide (t.2=0)else(t.1.all fun x=>inR x 0 1023)&&decide (((t.1.length:Nat):Int)=4)&&inR t.2 0 1023
def okL:Int->List Int->Bool
 |_,[]=>true
 |p,x::l=>inR x 0 3&&decide (p<x)&&okL x l
theorem QhA:(p:Int)->(l:List Qd)->QT p l=true->∀x∈l,inR x.1 0 4=true/\inR x.2 1 1000=true
 |_,[],_=>by simp
 |p,x::l,h=>by
  simp only[QT,QQ5]at h
  intro y hy
  rcases QRk.1 hy with rfl|hy
  ·exact⟨h.1.1.1,h.1.1.2⟩
  ·exact QhA _ l h.2 y hy
def Qox (r:List Int):List Qd->List Int
 | []=>r
 |m::l=>Qox (r.set m.1.toNat (mxI (rd1 0 r m.1) m.2)) l
def Qkk (t:List (List Int)) (k:Int) (l:List Qd):List (List Int):=bif inR k 0 ((t.length:Nat) - 1)&&(QT (-1) l&& !decide (((List.length (rd1 ([]:List Int) t k):Nat):Int)<5))then t.set k.toNat (Qox (rd1 ([]:List Int) t k) l)else t
def Qp4 (id:Int):Nat->Int->List (List Int)->Int⊕Int
 |_,m,[]=> .inr m
 |k,m,r::l=>bif inR id 0 ((r.length:Nat) - 1)then(bif decide (k=0)||decide (rd1 0 r id<m)then Qp4 id (k+1) (rd1 0 r id) l else Qp4 id (k+1) m l)else .inl 0
def common (t:List (List Int)) (id:Int):Int:=Sum.elim (fun u=>u) (fun z=>z) (Qp4 id 0 0 t)
def Qq5 (s:Qi) (t:List (List Int)) (i:Nat):List Qd:=bif decide (0<mnI (common t (i:Int)) (Qg8 s (i:Int)))then [((i:Int),mnI (common t (i:Int)) (Qg8 s (i:Int)))]else []
def QrF (s:Qi) (t:List (List Int)):Qi:=([],(List.range' 0 5).flatMap (Qq5 s t))
def prune (s:Qi) (t:List (List Int)):Qi:=bif QX s then join s (QrF s t)else s
def QoX (v:List Int) (k n:Int):List Int:=bif inR k 0 ((v.length:Nat) - 1)then v.set k.toNat (mxI (rd1 0 v k) n)else v
structure NOk (x:QI):Prop where
 n:inR x.2.1 1 5=true
 id:inR x.1 0 (x.2.1 - 1)=true
 st:QX (x.2.2.1,x.2.2.2.1)=true
 tree:(x.2.2.2.2.1,x.2.2.2.2.2.1)=Z7 (x.2.2.1,x.2.2.2.1)
 log:VE (x.2.2.2.2.2.2.1,x.2.2.2.2.2.2.2.1,x.2.2.2.2.2.2.2.2.1)=true
 got:Zk x.2.2.2.2.2.2.2.2.2.1 x.2.1=true
 ack:Zk x.2.2.2.2.2.2.2.2.2.2.1 x.2.1=true
 own:x.2.2.2.2.2.2.2.2.2.1.getD (x.1).toNat 0=Xj (x.2.2.2.2.2.2.1,x.2.2.2.2.2.2.2.1,x.2.2.2.2.2.2.2.2.1)
 heard:(x.2.2.2.2.2.2.2.2.2.2.1.all fun y=>decide (y<=Xj (x.2.2.2.2.2.2.1,x.2.2.2.2.2.2.2.1,x.2.2.2.2.2.2.2.2.1)))=true
 seen:VD x.2.2.2.2.2.2.2.2.2.2.2.1 x.2.1=true
 num:inR x.2.2.2.2.2.2.2.2.2.2.2.2.1 0 100000=true
 clock:inR x.2.2.2.2.2.2.2.2.2.2.2.2.2.2.2.2.2.1 0 100000=true
 wait:inR x.2.2.2.2.2.2.2.2.2.2.2.2.2.2.2.1 1 20=true
 limit:inR x.2.2.2.2.2.2.2.2.2.2.2.2.2.2.2.2.1 1 50=true
 slots:inR x.2.2.2.2.2.2.2.2.2.2.2.2.2.1 1 4=true
 room:((x.2.2.2.2.2.2.2.2.2.2.2.2.2.2.1.length:Nat):Int)<=x.2.2.2.2.2.2.2.2.2.2.2.2.2.1
 sess:ZP x.1 x.2.1 x.2.2.2.2.2.2.2.2.2.2.2.2.2.2.2.1 [] x.2.2.2.2.2.2.2.2.2.2.2.2.2.2.1=true
 rlen:((x.2.2.2.2.2.2.2.2.2.2.2.2.2.2.2.2.2.2.length:Nat):Int)=5
 rises:x.2.2.2.2.2.2.2.2.2.2.2.2.2.2.2.2.2.2.all (Kk x.2.2.2.2.2.2.2.2.2.2.2.2.2.2.2.2.2.1)=true
theorem nok {x:QI}(h:Ku x=true):NOk x:=by
 simp only[Ku,QcN,QQ5,QRu]at h
 obtain⟨⟨⟨⟨⟨⟨⟨⟨⟨⟨⟨⟨⟨⟨⟨⟨⟨⟨h1,h2⟩,h3⟩,h4⟩,h5⟩,h6⟩,h7⟩,h8⟩,h9⟩,h10⟩,h11⟩,h12⟩,h13⟩,h14⟩,h15⟩,h16⟩,h17⟩,h18⟩,h19⟩:=h
 exact⟨h1,h2,h3,h4,h5,h6,h7,h8,h9,h10,h11,h12,h13,h14,h15,h16,h17,h18,h19⟩
theorem Kz {n a b:Int}:inR n a b=true↔a<=n/\n<=b:=by simp[inR]
theorem Qn7 {v:List Int}{n:Int}(h:Zk v n=true):((v.length:Nat):Int)=n/\∀y∈v,inR y 0 100000=true:=by
 simp only[Zk,QQ5,QRu,QRt]at h
 exact⟨h.1.2,h.2⟩
def Qqa (c:Int) (rs:List QL) (x:Qj):List QL:=bif decide ((rd1 QbF rs x.1).1<x.2.1)then rs.set x.1.toNat (x.2.1,x.2.2.2.1,c)else(bif decide (x.2.1=(rd1 QbF rs x.1).1)then(bif decide ((rd1 QbF rs x.1).2.1<x.2.2.2.1)then rs.set x.1.toNat (x.2.1,x.2.2.2.1,c)else rs)else rs)
def Qmo (c:Int):List QL->List Qj->List QL
 |rs,[]=>rs
 |rs,x::l=>Qmo c (Qqa c rs x) l
theorem QgL (fl:List Qd):(p:Int)->(l:List Qj)->Q6 fl p l=true->∀x∈l,inR x.1 0 4=true/\X4 x.2=true
 |_,[],_=>by simp
 |p,x::l,h=>by
  simp only[Q6,QQ5]at h
  intro y hy
  rcases QRk.1 hy with rfl|hy
  ·exact⟨h.1.1.1.1,h.1.1.1.2⟩
  ·exact QgL fl _ l h.2 y hy
theorem QnP {s:Qi}(h:QX s=true):∀x∈s.1,inR x.1 0 4=true/\X4 x.2=true:=by
 simp only[QX,QQ5]at h
 exact QgL _ _ _ h.2
def Qkg (x:QI) (p:Qi):List (List Int):=Qkk x.2.2.2.2.2.2.2.2.2.2.2.1 x.1 (marksOf (join (x.2.2.1,x.2.2.2.1) p))
def QdP (x:QI) (p:Qi):Qi:=prune (join (x.2.2.1,x.2.2.2.1) p) (Qkg x p)
def take (x:QI) (p:Qi):QI:=(x.1,x.2.1,(QdP x p).1,(QdP x p).2,(Z7 (QdP x p)).1,(Z7 (QdP x p)).2,x.2.2.2.2.2.2.1,x.2.2.2.2.2.2.2.1,x.2.2.2.2.2.2.2.2.1,x.2.2.2.2.2.2.2.2.2.1,x.2.2.2.2.2.2.2.2.2.2.1,Qkg x p,x.2.2.2.2.2.2.2.2.2.2.2.2.1,x.2.2.2.2.2.2.2.2.2.2.2.2.2.1,x.2.2.2.2.2.2.2.2.2.2.2.2.2.2.1,x.2.2.2.2.2.2.2.2.2.2.2.2.2.2.2.1,x.2.2.2.2.2.2.2.2.2.2.2.2.2.2.2.2.1,x.2.2.2.2.2.2.2.2.2.2.2.2.2.2.2.2.2.1,Qmo x.2.2.2.2.2.2.2.2.2.2.2.2.2.2.2.2.2.1 x.2.2.2.2.2.2.2.2.2.2.2.2.2.2.2.2.2.2 (QdP x p).1)
def one (id:Int) (e:Xm):Qi:=([(id,e)],[])
structure MOk (m:QhP):Prop where
 kind:inR m.1 0 5=true
 src:inR m.2.1 0 4=true
 dst:inR m.2.2.1 0 4=true
 two:m.2.1≠m.2.2.1
 lv:okL (-1) m.2.2.2.2.2.2.2.2.1=true
 vec:∀y∈m.2.2.2.2.2.2.2.1,inR y 0 100000=true
 num:inR m.2.2.2.1 0 100000=true
 hi:inR m.2.2.2.2.1 0 100000=true
 tree:Qrk (m.2.2.2.2.2.1,m.2.2.2.2.2.2.1)=true
 vl:((m.2.2.2.2.2.2.2.1.length:Nat):Int)<=5
 part:QX (m.2.2.2.2.2.2.2.2.2.1,m.2.2.2.2.2.2.2.2.2.2.1)=true
 marks:QT (-1) m.2.2.2.2.2.2.2.2.2.2.2=true
structure Fit (x:QI) (m:QhP):Prop where
 ok:MOk m
 to:m.2.2.1=x.1
 src:m.2.1<x.2.1
 len:((m.2.2.2.2.2.2.2.1.length:Nat):Int)=x.2.1
def QrL (x:QI) (m:QhP):QI:=(x.1,x.2.1,x.2.2.1,x.2.2.2.1,x.2.2.2.2.1,x.2.2.2.2.2.1,x.2.2.2.2.2.2.1,x.2.2.2.2.2.2.2.1,x.2.2.2.2.2.2.2.2.1,x.2.2.2.2.2.2.2.2.2.1,QoX x.2.2.2.2.2.2.2.2.2.2.1 m.2.1 (mnI (rd1 0 m.2.2.2.2.2.2.2.1 x.1) (Xj (x.2.2.2.2.2.2.1,x.2.2.2.2.2.2.2.1,x.2.2.2.2.2.2.2.2.1))),Qkk x.2.2.2.2.2.2.2.2.2.2.2.1 m.2.1 m.2.2.2.2.2.2.2.2.2.2.2,x.2.2.2.2.2.2.2.2.2.2.2.2.1,x.2.2.2.2.2.2.2.2.2.2.2.2.2.1,x.2.2.2.2.2.2.2.2.2.2.2.2.2.2.1,x.2.2.2.2.2.2.2.2.2.2.2.2.2.2.2.1,x.2.2.2.2.2.2.2.2.2.2.2.2.2.2.2.2.1,x.2.2.2.2.2.2.2.2.2.2.2.2.2.2.2.2.2.1,x.2.2.2.2.2.2.2.2.2.2.2.2.2.2.2.2.2.2)
def heard (x:QI) (m:QhP):QI:=take (QrL x m) ([],[])
def flat (r:QI×List QhP×Int):Int×Int×(List Qj)×(List Qd)×(List Int)×Int×Int×Int×(List Qi)×(List Int)×(List Int)×(List (List Int))×Int×Int×(List QH)×Int×Int×Int×(List QL)×(List QhP)×Int:=(r.1.1,r.1.2.1,r.1.2.2.1,r.1.2.2.2.1,r.1.2.2.2.2.1,r.1.2.2.2.2.2.1,r.1.2.2.2.2.2.2.1,r.1.2.2.2.2.2.2.2.1,r.1.2.2.2.2.2.2.2.2.1,r.1.2.2.2.2.2.2.2.2.2.1,r.1.2.2.2.2.2.2.2.2.2.2.1,r.1.2.2.2.2.2.2.2.2.2.2.2.1,r.1.2.2.2.2.2.2.2.2.2.2.2.2.1,r.1.2.2.2.2.2.2.2.2.2.2.2.2.2.1,r.1.2.2.2.2.2.2.2.2.2.2.2.2.2.2.1,r.1.2.2.2.2.2.2.2.2.2.2.2.2.2.2.2.1,r.1.2.2.2.2.2.2.2.2.2.2.2.2.2.2.2.2.1,r.1.2.2.2.2.2.2.2.2.2.2.2.2.2.2.2.2.2.1,r.1.2.2.2.2.2.2.2.2.2.2.2.2.2.2.2.2.2.2,r.2.1,r.2.2)
def isB (l:List Int):Prop:=∀x∈l,0<=x/\x<256
def QrV:Nat->Nat->Int->List Int->Option (Int×Nat)
 |0,_,_,_=>none
 |_+1,_,_,[]=>none
 |f+1,i,acc,c::l=>if 128<=c then QrV f (i+1) (acc+(c % 128)*128^i) l
  else if(0<i/\c=0)\/2147483647<acc+(c % 128)*128^i then none else some (acc+(c % 128)*128^i,i+1)
def QtL (k:Int):Option (Int×Nat)->Int×Int×Bool
 |none=>(0,0,false)
 |some r=>(r.1,k+(r.2:Nat),true)
def Qb0 (b:List Int) (k:Int):Int×Int×Bool:=if 0<=k/\k<(b.length:Int)then QtL k (QrV 5 0 0 (b.drop k.toNat))else(0,0,false)
theorem i5 {i:Nat}(h:i<5):i=0\/i=1\/i=2\/i=3\/i=4:=by omega
end Go.Proofs.YtameehmkoglkeaaGreatDoor.M
