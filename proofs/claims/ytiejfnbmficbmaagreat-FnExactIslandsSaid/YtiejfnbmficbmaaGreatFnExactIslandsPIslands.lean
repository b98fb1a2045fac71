/- What the plain forms that FnExactIslands reaches come to: PIslands. No conditions but those that each theorem states. -/
import Derived.Test.YtiejfnbmficbmaaGreatFnExactIslandsPRcv2
set_option linter.all false
namespace Go.Proofs.YtiejfnbmficbmaaGreat.M
open Go Go.Eng Go.Proofs
set_option linter.unusedVariables false
structure Kp (n:Nat) (ns:List Qa) (net:List Qm) (sd:List Qn):Prop where
 nodes:∀x∈ns,NOk x
 len:ns.length=n
 n5:n<=5
 net:Xn net<=1048576
 sds:∀x∈sd,QK x.2=true
 sdl:sd.length<=41
theorem Kp.sm {n:Nat}{ns:List Qa}{net:List Qm}{sd:List Qn}(h:Kp n ns net sd):Q6 (ns,net,sd)<=1100000/\smW ns net sd:=QBB h.nodes (by have:=h.len;have:=h.n5;omega) h.net h.sds h.sdl
theorem Kp.exch {n:Nat}{ns:List Qa}{net:List Qm}{sd:List Qn}(h:Kp n ns net sd) (p q:Int):Kp n (exch ns net sd p q).1 net sd:=by
 have:=QF9 (net:=net) (sd:=sd) h.nodes p q
 exact⟨this.1,this.2.trans h.len,h.n5,h.net,h.sds,h.sdl⟩
def Qx9 (side:List Int) (p q:Nat):Bool:= !decide ((p:Int)=(q:Int))&&decide (rd1 (0:Int) side (p:Int)=rd1 (0:Int) side (q:Int))
def Qr7 (side:List Int) (net:List Qm) (sd:List Qn) (p q:Nat) (ns:List Qa):List Qa:=bif Qx9 side p q then(exch ns net sd (p:Int) ((q:Int))).1 else ns
def QoW (side:List Int) (net:List Qm) (sd:List Qn) (p:Nat):Nat->Nat->List Qa->List Qa
 |0,_,ns=>ns
 |m+1,q,ns=>QoW side net sd p m (q+1) (Qr7 side net sd p q ns)
def QmC (side:List Int) (net:List Qm) (sd:List Qn) (n:Nat):Nat->Nat->List Qa->List Qa
 |0,_,ns=>ns
 |m+1,p,ns=>QmC side net sd n m (p+1) (QoW side net sd p n 0 ns)
theorem Qwx {n:Nat}{net:List Qm}{sd:List Qn}(side:List Int) (p q:Nat) {ns:List Qa}(h:Kp n ns net sd):Kp n (Qr7 side net sd p q ns) net sd:=by
 unfold Qr7
 cases Qx9 side p q
 ·exact h
 ·exact h.exch _ _
theorem QqL {n:Nat}{net:List Qm}{sd:List Qn}(side:List Int) (p:Nat):(m q:Nat)->(ns:List Qa)->Kp n ns net sd->Kp n (QoW side net sd p m q ns) net sd
 |0,_,_,h=>h
 |m+1,q,ns,h=>QqL side p m (q+1) _ (Qwx side p q h)
theorem QB8 {n:Nat}{net:List Qm}{sd:List Qn}(side:List Int):(m p:Nat)->(ns:List Qa)->Kp n ns net sd->Kp n (QmC side net sd n m p ns) net sd
 |0,_,_,h=>h
 |m+1,p,ns,h=>QB8 side m (p+1) _ (QqL side p n 0 ns h)
theorem QIy (side:List Int) {p q:Nat}(hp:p<side.length) (hq:q<side.length):jF w ((p:Int),(q:Int),side)=some (decide (rd1 (0:Int) side (p:Int)=rd1 (0:Int) side (q:Int))):=by
 apply Qq7
 simp only[QfJ,Qj hp,Qj hq,QQ1]
theorem QCr (side:List Int) {n:Nat}{net:List Qm}{sd:List Qn}(hs:side.length=n) (p:Nat) (hp:p<n):(m q:Nat)->(ns:List Qa)->Kp n ns net sd->q+m=n->XS wl ((p:Int),(n:Int),(p:Int),(n:Int),(q:Int),ns,net,sd,side)=some ((n:Int),(p:Int),QoW side net sd p m q ns,net,sd,side)
 |0,q,ns,h,hm=>by
  apply yK
  simp only[xi,df (show¬(q:Int)<(n:Int) by omega),QQ2,QoW]
 |m+1,q,ns,h,hm=>by
  apply yK
  have h5:=h.n5
  have ih:=QCr side hs p hp m (q+1) (Qr7 side net sd p q ns) (Qwx side p q h) (by omega)
  have hsm:=h.sm
  simp only[xi,dt (show(q:Int)<(n:Int) by omega),QQ1,QIy side (show p<side.length by omega) (show q<side.length by omega),QQ0,QA2 ns net sd (p:Int) ((q:Int)) (by omega) hsm.2,w64 (n:=(q:Int)+1) (by omega) (by omega),QoW]
  rw[show(q:Int)+1=((q+1:Nat):Int) by omega]
  unfold Qr7 Qx9 at ih⊢
  cases h1:decide ((p:Int)=(q:Int))
  ·rw[h1]at ih
   cases h2:decide (rd1 (0:Int) side (p:Int)=rd1 (0:Int) side (q:Int))
   ·rw[h2]at ih;exact ih
   ·rw[h2]at ih;exact ih
  ·rw[h1]at ih;exact ih
theorem QBY (side:List Int) {n:Nat}{net:List Qm}{sd:List Qn}(hs:side.length=n):(m p:Nat)->(ns:List Qa)->Kp n ns net sd->p+m=n->Yb wl ((n:Int),(p:Int),ns,net,sd,side)=some (QmC side net sd n m p ns,net,sd,side)
 |0,p,ns,h,hm=>by
  apply yE
  simp only[xx,df (show¬(p:Int)<(n:Int) by omega),QQ2,QmC]
 |m+1,p,ns,h,hm=>by
  apply yE
  have h5:=h.n5
  have e:=QCr side hs p (by omega) n 0 ns h (by omega)
  have ih:=QBY side hs m (p+1) _ (QqL side p n 0 ns h) (by omega)
  simp only[QQ6]at e
  simp only[xx,dt (show(p:Int)<(n:Int) by omega),QQ1,h.len,e,QQ0,w64 (n:=(p:Int)+1) (by omega) (by omega),QmC]
  exact ih
theorem QAa (side:List Int) {n:Nat}{net:List Qm}{sd:List Qn}(src:List Qa) (net0:List Qm) (sd0:List Qn) (hn:src.length=n) (hs:side.length=n) (p:Nat) (hp:p<n):(m q:Nat)->(ns:List Qa)->Kp n ns net sd->q+m=n->Yv wl (side,(p:Int),(q:Int),src,net0,sd0,ns,net,sd)=some (side,(p:Int),src,net0,sd0,QoW side net sd p m q ns,net,sd)
 |0,q,ns,h,hm=>by
  apply QgA
  simp only[QbZ,hn,df (show¬(q:Int)<(n:Int) by omega),QQ2,QoW]
 |m+1,q,ns,h,hm=>by
  apply QgA
  have h5:=h.n5
  have ih:=QAa side src net0 sd0 hn hs p hp m (q+1) (Qr7 side net sd p q ns) (Qwx side p q h) (by omega)
  have hsm:=h.sm
  simp only[QbZ,hn,dt (show(q:Int)<(n:Int) by omega),QQ1,Qj (show p<side.length by omega),Qj (show q<side.length by omega),QQ0,QzU ns net sd (p:Int) ((q:Int)) (by omega) hsm.2,w64 (n:=(q:Int)+1) (by omega) (by omega),QoW]
  rw[show(q:Int)+1=((q+1:Nat):Int) by omega]
  unfold Qr7 Qx9 at ih⊢
  cases h1:decide ((p:Int)=(q:Int))
  ·rw[h1]at ih
   cases h2:decide (rd1 (0:Int) side (p:Int)=rd1 (0:Int) side (q:Int))
   ·rw[h2]at ih;exact ih
   ·rw[h2]at ih;exact ih
  ·rw[h1]at ih;exact ih
theorem QzX (side:List Int) {n:Nat}{net:List Qm}{sd:List Qn}(src:List Qa) (net0:List Qm) (sd0:List Qn) (hn:src.length=n) (hs:side.length=n):(m p:Nat)->(ns:List Qa)->Kp n ns net sd->p+m=n->Jv wl (side,(p:Int),src,net0,sd0,ns,net,sd)=some (QmC side net sd n m p ns,net,sd)
 |0,p,ns,h,hm=>by
  apply Qfx
  simp only[Qby,hn,df (show¬(p:Int)<(n:Int) by omega),QQ2,QmC]
 |m+1,p,ns,h,hm=>by
  apply Qfx
  have h5:=h.n5
  have e:=QAa side src net0 sd0 hn hs p (by omega) n 0 ns h (by omega)
  have ih:=QzX side src net0 sd0 hn hs m (p+1) _ (QqL side p n 0 ns h) (by omega)
  simp only[QQ6]at e
  simp only[Qby,hn,dt (show(p:Int)<(n:Int) by omega),QQ1,e,QQ0,w64 (n:=(p:Int)+1) (by omega) (by omega),QmC]
  exact ih
def yD (ns:List Qa) (net:List Qm) (sd:List Qn) (side:List Int):Bool:=Zf ns net sd&&decide ((side.length:Int)=(ns.length:Int))
theorem QE8 (ns:List Qa) (net:List Qm) (sd:List Qn) (side:List Int) (h:smW ns net sd):Qe3 w (ns,net,sd,side)=some (yD ns net sd side):=by
 apply Qwk
 simp only[Qlm,Qn2 ns net sd h,QQ0,yD]
 cases Zf ns net sd<;>rfl
theorem QCv (ns:List Qa) (net:List Qm) (sd:List Qn) (side:List Int) (h:smW ns net sd):QeC w (ns,net,sd,side)=some (yD ns net sd side):=by
 apply Qwo
 simp only[QkZ,Qmq ns net sd h,QQ0,yD]
 cases Zf ns net sd<;>rfl
def islands (ns:List Qa) (net:List Qm) (sd:List Qn) (side:List Int):XJ:=bif yD ns net sd side then(QmC side net sd ns.length ns.length 0 (ns.map QeM),net,sd)else(ns,net,sd)
theorem QvR {ns:List Qa}{net:List Qm}{sd:List Qn}(hw:Zf ns net sd=true) (hnet:Xn net<=1048576):Kp ns.length (ns.map QeM) net sd:=by
 have wk:=yx hw
 have h5:=wk.n5
 have h40:=wk.sd40
 refine⟨fun x hx=> ?_,by simp,by omega,hnet,QCT hw,by omega⟩
 obtain⟨y,hy,rfl⟩:=QY20.1 hx
 exact Qxi _ _ (Qvm wk y hy)
theorem QCB (ns:List Qa) (net:List Qm) (sd:List Qn) (side:List Int) (h:Q6 (ns,net,sd)<=4294967296) (hnet:Xn net<=1048576) (hs:smW ns net sd):yu w (ns,net,sd,side)=some (islands ns net sd side):=by
 apply QsT
 simp only[QkB,QE8 ns net sd side hs,Qjo ns net sd h,QIj ns net sd h hs,QQ0,islands]
 cases ho:yD ns net sd side
 ·rfl
 ·simp only[yD,QQ5,QRu]at ho
  have hk:=QvR ho.1 hnet
  have e:=QBY side (show side.length=ns.length by omega) ns.length 0 _ hk (by omega)
  simp only[QQ6]at e
  have e2:Jo w (ns.map QeM,net,sd,side)=some (QmC side net sd ns.length ns.length 0 (ns.map QeM),net,sd):=by
   apply Qni
   simp only[vi,List.length_map,e,QQ0]
  simp only[calm,ho.1,QQ1,QQ3,QQ2,e2,QQ0]
theorem QBd (ns:List Qa) (net:List Qm) (sd:List Qn) (side:List Int) (h:Q6 (ns,net,sd)<=4294967296) (hnet:Xn net<=1048576) (hs:smW ns net sd):Qb4 w (ns,net,sd,side)=some (islands ns net sd side):=by
 apply Quy
 simp only[Qjw,QCv ns net sd side hs,QoV ns net sd h,QGR ns net sd h hs,QQ0,islands]
 cases ho:yD ns net sd side
 ·rfl
 ·simp only[yD,QQ5,QRu]at ho
  have hk:=QvR ho.1 hnet
  have e:=QzX side ns net sd rfl (show side.length=ns.length by omega) ns.length 0 _ hk (by omega)
  simp only[QQ6]at e
  simp only[calm,ho.1,QQ1,QQ3,QQ2]
  rw[e];rfl
theorem Qzo {ns:List Qa}{net:List Qm}{sd:List Qn}(side:List Int) (h:Q6 (ns,net,sd)<=1048576):Q6 (islands ns net sd side)<=1100000:=by
 have hnet:=QCo h
 unfold islands
 cases ho:yD ns net sd side
 ·exact QY17 h (by omega)
 ·simp only[yD,QQ5,QRu]at ho
  exact(QB8 side ns.length 0 _ (QvR ho.1 hnet)).sm.1
theorem Qrv (r:XJ) (h:Q6 r<=4294967296):∃(k:Int) (m0:List Qa) (m1:List Qm) (m2:List Qn),0<k/\k<=1099511627776/\Vv w (r.1,r.2.1,r.2.2,1)=some (k,m0,m1,m2)/\Vw w (m0,m1,m2,1)=some k:=by
 have h':=h
 simp only[Q6]at h'
 have c1:=QDA r.1
 have c2:=QEb r.2.1
 have c3:=QDu r.2.2
 refine⟨_,_,_,_, ?_, ?_,QCN r.1 r.2.1 r.2.2 1 (by omega) (by omega) h,QDi r.1 r.2.1 r.2.2 1 (by omega) (by omega) h⟩
 all_goals omega
set_option maxHeartbeats 4000000 in
theorem QJp (a0:List Qa) (a1:List Qm) (a2:List Qn) (a3:List Int) (hf:QdP (a0,a1,a2)) (hf3:QdZ a3):zE w (a0,a1,a2,a3)=some true:=by
 apply QmI
 have hs:=QGA hf
 simp only[jH,QFy a0 a1 a2 1048576 (by omega) (by omega) hf,QQ0]
 by_cases h3:(1048576:Int)<(a3.length:Int)
 ·rw[dt h3,QQ1]
 rw[df h3,QQ2]
 by_cases h:(Q6 (a0,a1,a2):Int)<=1048576
 ·rw[Vp h,df (by omega),QQ2]
  have hnet:=QCo (show Q6 (a0,a1,a2)<=1048576 by omega)
  have hz:=Qzo a3 (show Q6 (a0,a1,a2)<=1048576 by omega)
  have hi:=QCB a0 a1 a2 a3 (by omega) hnet hs
  have hq:=QBd a0 a1 a2 a3 (by omega) hnet hs
  have ht:=QGg a0 a1 a2 (by omega)
  have he:=QzI a0 a1 a2 (by omega)
  have h3m:QS a3<=4294967296:=by simp only[QS];omega
  have ht3:=Qm7 a3 h3m
  have he3:=Qnn a3 h3m
  have hc3:=Qfq a3
  obtain⟨k,m0,m1,m2,hk,hkb,hm,hh⟩:=Qrv (a0,a1,a2) (by omega)
  have hm3:=QpB a3 k hk (by simp only[QS]at hc3;omega) h3m
  simp only at hm
  generalize islands a0 a1 a2 a3=r at hi hq hz
  obtain⟨k',n0,n1,n2,hk',_,hm',hh'⟩:=Qrv r (by omega)
  have he2:Ks w (r.1,r.2.1,r.2.2,r)=some true:=QzI r.1 r.2.1 r.2.2 (show Q6 r<=4294967296 by omega)
  simp only[ht,ht3,hi,hq,he,he3,hm,hm3,hm',hh',he2,QQ0,QQ3,QQ2,df (show¬k+((Qi (fun _=>1) a3:Nat):Int)<0 by omega),df (show¬k'<0 by omega),decide_true]
 ·rw[KQ h,dt (by omega),QQ1]
def nums (l:List Int):List Int:=QA (l.length:Nat)++l.flatMap QA
def isB (l:List Int):Prop:=∀x∈l,0<=x/\x<256
def QML (r:Int):List Int:=[IntKind.wrap .u8 (bits .and .i64 (Qvs .i64 r 24) 255),IntKind.wrap .u8 (bits .and .i64 (Qvs .i64 r 16) 255),IntKind.wrap .u8 (bits .and .i64 (Qvs .i64 r 8) 255),IntKind.wrap .u8 (bits .and .i64 r 255)]
def QIJ (a0 a1 a2 a3 a4:Int) (a5:List Int) (a6:Int) (a7 a8:List Int) (a9:List Qg) (a10 a11:List Qb):List Int:=[82,75]++(QA a0++(QA a1++(QA a2++(QA a3++(QA a4++(nums a5++(QA a6++(nums a7++(nums a8++(QA ((stB (a9,a10)).length:Nat)++(stB (a9,a10)++QA (a11.length:Nat))))))))))))
def QCq (a0 a1 a2 a3 a4:Int) (a5:List Int) (a6:Int) (a7 a8:List Int) (a9:List Qg) (a10 a11:List Qb):List Int:=QIJ a0 a1 a2 a3 a4 a5 a6 a7 a8 a9 a10 a11++a11.flatMap VV
def QGl (a0 a1 a2 a3 a4:Int) (a5:List Int) (a6:Int) (a7 a8:List Int) (a9:List Qg) (a10 a11:List Qb):List Int:=bif Qoa a0 a1 a2 a3 a4 a5 a6 a7 a8 a9 a10 a11 then QCq a0 a1 a2 a3 a4 a5 a6 a7 a8 a9 a10 a11++QML (crc (QCq a0 a1 a2 a3 a4 a5 a6 a7 a8 a9 a10 a11))else []
def QJd:Nat->Nat->Int->List Int->Option (Int×Nat)
 |0,_,_,_=>none
 |_+1,_,_,[]=>none
 |f+1,i,acc,c::l=>if 128<=c then QJd f (i+1) (acc+(c % 128)*128^i) l
  else if(0<i/\c=0)\/2147483647<acc+(c % 128)*128^i then none else some (acc+(c % 128)*128^i,i+1)
def QNm (k:Int):Option (Int×Nat)->Int×Int×Bool
 |none=>(0,0,false)
 |some r=>(r.1,k+(r.2:Nat),true)
def QmN (b:List Int) (k:Int):Int×Int×Bool:=if 0<=k/\k<(b.length:Int)then QNm k (QJd 5 0 0 (b.drop k.toNat))else(0,0,false)
structure Bs (b:List Int):Prop where
 isb:isB b
 len:b.length<=4294967296
def rnum (b:List Int) (p:Int) (bad:Bool):Int×Int×Bool:=bif bad then(0,p,true)else(bif (QmN b p).2.2 then((QmN b p).1,(QmN b p).2.1,false)else(0,p,true))
def qn (b:List Int) (p:Int):ByteArray×Int×Bool:=bif (QmN b p).2.2 then(bif decide ((b.length:Int) - (QmN b p).2.1<(QmN b p).1)then(⟨#[]⟩,0,false)else(Y8 (List.take (QmN b p).1.toNat (List.drop (QmN b p).2.1.toNat b)),(QmN b p).2.1+(QmN b p).1,true))else(⟨#[]⟩,0,false)
def rtext (b:List Int) (p:Int) (bad:Bool):ByteArray×Int×Bool:=bif bad then(⟨#[]⟩,p,true)else(bif (qn b p).2.2 then((qn b p).1,(qn b p).2.1,false)else(⟨#[]⟩,p,true))
def rcount (b:List Int) (p:Int) (bad:Bool) (most:Int):Int×Int×Bool:=bif decide (most<(rnum b p bad).1)then(0,(rnum b p bad).2.1,true)else rnum b p bad
def QyS (b:List Int):Nat->Int->Bool->List Int×Int×Bool
 |0,p,bad=>([],p,bad)
 |m+1,p,bad=>((rnum b p bad).1::(QyS b m (rnum b p bad).2.1 (rnum b p bad).2.2).1,(QyS b m (rnum b p bad).2.1 (rnum b p bad).2.2).2)
def rnums (b:List Int) (p:Int) (bad:Bool) (most:Int):List Int×Int×Bool:=QyS b (rcount b p bad most).1.toNat (rcount b p bad most).2.1 (rcount b p bad most).2.2
def Qzf (b:List Int):Nat->Int->Bool->List Int×Int×Bool
 |0,p,bad=>([],p,bad)
 |m+1,p,bad=>bif bad then([],p,bad)else((rnum b p bad).1::(Qzf b m (rnum b p bad).2.1 (rnum b p bad).2.2).1,(Qzf b m (rnum b p bad).2.1 (rnum b p bad).2.2).2)
def rmany (b:List Int) (p:Int) (bad:Bool) (t:Nat):List Int×Int×Bool:=bif decide (100<(rnum b p bad).1)then([],(rnum b p bad).2.1,true)else Qzf b ((rnum b p bad).1.toNat*t) (rnum b p bad).2.1 (rnum b p bad).2.2
def Enc (b:List Int) (p:Int) (l:List Int):Prop:=∃k:Nat,p=(k:Int)/\k<=b.length/\b.drop k=l
theorem Enc.start (b:List Int):Enc b 0 b:=⟨0,rfl,Nat.zero_le _,rfl⟩
theorem Enc.skip {b:List Int}{k:Nat}{a l:List Int}(h:b.drop k=a++l) (hk:k<=b.length):Enc b ((k+a.length:Nat):Int) l:=by
 have h2:(b.drop k).length=(a++l).length:=by rw[h]
 rw[QY28,QRj]at h2
 refine⟨k+a.length,rfl,by omega, ?_⟩
 rw[<-List.drop_drop,h,List.drop_left]
def ritem (b:List Int) (p:Int) (bad:Bool):Qg×Int×Bool:=
 let r2:=rnum b p bad
 let r3:=rnum b r2.2.1 r2.2.2
 let r4:=rnum b r3.2.1 r3.2.2
 let r5:=rnum b r4.2.1 r4.2.2
 let r6:=rnum b r5.2.1 r5.2.2
 let r7:=rtext b r6.2.1 r6.2.2
 ((r2.1,r3.1,r4.1,r5.1,r6.1,r7.1),r7.2)
def ritems (b:List Int):Nat->Int->Bool->List Qg×Int×Bool
 |0,p,bad=>([],p,bad)
 |m+1,p,bad=>((ritem b p bad).1::(ritems b m (ritem b p bad).2.1 (ritem b p bad).2.2).1,(ritems b m (ritem b p bad).2.1 (ritem b p bad).2.2).2)
def rfloor (b:List Int) (p:Int) (bad:Bool):Qb×Int×Bool:=(((rnum b p bad).1,(rnum b (rnum b p bad).2.1 (rnum b p bad).2.2).1),(rnum b (rnum b p bad).2.1 (rnum b p bad).2.2).2)
def rfloors (b:List Int):Nat->Int->Bool->List Qb×Int×Bool
 |0,p,bad=>([],p,bad)
 |m+1,p,bad=>((rfloor b p bad).1::(rfloors b m (rfloor b p bad).2.1 (rfloor b p bad).2.2).1,(rfloors b m (rfloor b p bad).2.1 (rfloor b p bad).2.2).2)
def QKn (b:List Int) (s:Qk) (bad:Bool):List Qg×List Qb×Bool:=bif !bad&&(QK s&&V1 (Y8 (stB s)) (Y8 b))then(s.1,s.2,true)else([],[],false)
def stI (b:List Int):List Qg×List Qb×Bool:=
 let c1:=rcount b 0 false 5
 let q:=ritems b c1.1.toNat c1.2.1 c1.2.2
 let c2:=rcount b q.2.1 q.2.2 5
 let f:=rfloors b c2.1.toNat c2.2.1 c2.2.2
 QKn b (q.1,f.1) f.2.2
def QCK (xs:List Qb):List Int:=xs.flatMap fun x=>[x.1,x.2]
abbrev QsJ:Type:=Int×Int×Int×Int×Int×(List Int)×Int×(List Int)×(List Int)×(List Qg)×(List Qb)×(List Qb)×Bool
def QDf:QsJ:=(0,0,0,0,0,[],0,[],[],[],[],[],false)
def QKu (m:QV):QsJ:=(m.1,m.2.1,m.2.2.1,m.2.2.2.1,m.2.2.2.2.1,m.2.2.2.2.2.1,m.2.2.2.2.2.2.1,m.2.2.2.2.2.2.2.1,m.2.2.2.2.2.2.2.2.1,m.2.2.2.2.2.2.2.2.2.1,m.2.2.2.2.2.2.2.2.2.2.1,m.2.2.2.2.2.2.2.2.2.2.2,true)
def bytesOf (m:QV):List Int:=QGl m.1 m.2.1 m.2.2.1 m.2.2.2.1 m.2.2.2.2.1 m.2.2.2.2.2.1 m.2.2.2.2.2.2.1 m.2.2.2.2.2.2.2.1 m.2.2.2.2.2.2.2.2.1 m.2.2.2.2.2.2.2.2.2.1 m.2.2.2.2.2.2.2.2.2.2.1 m.2.2.2.2.2.2.2.2.2.2.2
def QNA (b:List Int) (m:QV) (bad:Bool):QsJ:=bif !bad&&(QfI m&&V1 (Y8 (bytesOf m)) (Y8 b))then QKu m else QDf
def QNu (b:List Int):Option (QV×Bool)->QsJ
 |none=>QDf
 |some r=>QNA b r.1 r.2
structure Hd where
 a0:Int
 a1:Int
 a2:Int
 a3:Int
 a4:Int
 a5:List Int
 a6:Int
 a7:List Int
 a8:List Int
 n:Int
 p:Int
 bad:Bool
def hi1 (c:List Int):Int×Int×Bool:=rnum c 2 false
def hi2 (c:List Int):Int×Int×Bool:=rnum c (hi1 c).2.1 (hi1 c).2.2
def hi3 (c:List Int):Int×Int×Bool:=rnum c (hi2 c).2.1 (hi2 c).2.2
def hi4 (c:List Int):Int×Int×Bool:=rnum c (hi3 c).2.1 (hi3 c).2.2
def hi5 (c:List Int):Int×Int×Bool:=rnum c (hi4 c).2.1 (hi4 c).2.2
def hi6 (c:List Int):List Int×Int×Bool:=rnums c (hi5 c).2.1 (hi5 c).2.2 4
def hi7 (c:List Int):Int×Int×Bool:=rnum c (hi6 c).2.1 (hi6 c).2.2
def hi8 (c:List Int):List Int×Int×Bool:=rnums c (hi7 c).2.1 (hi7 c).2.2 5
def hi9 (c:List Int):List Int×Int×Bool:=rnums c (hi8 c).2.1 (hi8 c).2.2 4
def QF2 (c:List Int):Int×Int×Bool:=rnum c (hi9 c).2.1 (hi9 c).2.2
def hdI (c:List Int):Hd:=⟨(hi1 c).1,(hi2 c).1,(hi3 c).1,(hi4 c).1,(hi5 c).1,(hi6 c).1,(hi7 c).1,(hi8 c).1,(hi9 c).1,(QF2 c).1,(QF2 c).2.1,(QF2 c).2.2⟩
def hs1 (c:List Int):Int×Int×Bool:=rnum c 2 false
def hs2 (c:List Int):Int×Int×Bool:=rnum c (hs1 c).2.1 (hs1 c).2.2
def hs3 (c:List Int):Int×Int×Bool:=rnum c (hs2 c).2.1 (hs2 c).2.2
def hs4 (c:List Int):Int×Int×Bool:=rnum c (hs3 c).2.1 (hs3 c).2.2
def hs5 (c:List Int):Int×Int×Bool:=rnum c (hs4 c).2.1 (hs4 c).2.2
def hs6 (c:List Int):List Int×Int×Bool:=rmany c (hs5 c).2.1 (hs5 c).2.2 1
def body (b:List Int):List Int:=List.take ((b.length:Int) - 4).toNat b
def cut (b:List Int) (p n:Int):List Int:=List.take n.toNat (List.drop p.toNat b)
def QL8 (b:List Int) (h:Hd):Option (QV×Bool):=bif h.bad then none else(bif decide ((b.length:Int) - 4 - h.p<h.n)then none else(bif (stI (cut b h.p h.n)).2.2 then
 some ((h.a0,h.a1,h.a2,h.a3,h.a4,h.a5,h.a6,h.a7,h.a8,(stI (cut b h.p h.n)).1,(stI (cut b h.p h.n)).2.1,(rfloors (body b) (rcount (body b) (h.p+h.n) h.bad 5).1.toNat (rcount (body b) (h.p+h.n) h.bad 5).2.1 (rcount (body b) (h.p+h.n) h.bad 5).2.2).1),(rfloors (body b) (rcount (body b) (h.p+h.n) h.bad 5).1.toNat (rcount (body b) (h.p+h.n) h.bad 5).2.1 (rcount (body b) (h.p+h.n) h.bad 5).2.2).2.2)else none))
def QNK (b:List Int):QsJ:=bif decide ((b.length:Int) - 4<2)then QDf else(bif V1 (Y8 (List.take 2 b)) (⟨#[82,75]⟩:ByteArray)then QNu b (QL8 b (hdI (body b)))else QDf)
end Go.Proofs.YtiejfnbmficbmaaGreat.M
