/- What the plain forms that FnExactAuto reaches come to: PCalm. No conditions but those that each theorem states. -/
import Derived.Test.YtiejfnbmficbmaaGreatFnExactAutoPRcv2
set_option linter.all false
namespace Go.Proofs.YtiejfnbmficbmaaGreat.M
open Go Go.Eng Go.Proofs
set_option linter.unusedVariables false
structure Kp (n:Nat) (ns:List Qb) (net:List Qq) (sd:List Qr):Prop where
 nodes:∀x∈ns,NOk x
 len:ns.length=n
 n5:n<=5
 net:XB net<=1048576
 sds:∀x∈sd,QD x.2=true
 sdl:sd.length<=41
theorem Kp.sm {n:Nat}{ns:List Qb}{net:List Qq}{sd:List Qr}(h:Kp n ns net sd):Xp (ns,net,sd)<=1100000/\smW ns net sd:=QeV h.nodes (by have:=h.len;have:=h.n5;omega) h.net h.sds h.sdl
theorem Kp.exch {n:Nat}{ns:List Qb}{net:List Qq}{sd:List Qr}(h:Kp n ns net sd) (p q:Int):Kp n (exch ns net sd p q).1 net sd:=by
 have:=QBt (net:=net) (sd:=sd) h.nodes p q
 exact⟨this.1,this.2.trans h.len,h.n5,h.net,h.sds,h.sdl⟩
def nums (l:List Int):List Int:=QB (l.length:Nat)++l.flatMap QB
def isB (l:List Int):Prop:=∀x∈l,0<=x/\x<256
def QOd (r:Int):List Int:=[IntKind.wrap .u8 (bits .and .i64 (QvV .i64 r 24) 255),IntKind.wrap .u8 (bits .and .i64 (QvV .i64 r 16) 255),IntKind.wrap .u8 (bits .and .i64 (QvV .i64 r 8) 255),IntKind.wrap .u8 (bits .and .i64 r 255)]
def QI4 (a0 a1 a2 a3 a4:Int) (a5:List Int) (a6:Int) (a7 a8:List Int) (a9:List Qd) (a10 a11:List Qa):List Int:=[82,75]++(QB a0++(QB a1++(QB a2++(QB a3++(QB a4++(nums a5++(QB a6++(nums a7++(nums a8++(QB ((stB (a9,a10)).length:Nat)++(stB (a9,a10)++QB (a11.length:Nat))))))))))))
def QC7 (a0 a1 a2 a3 a4:Int) (a5:List Int) (a6:Int) (a7 a8:List Int) (a9:List Qd) (a10 a11:List Qa):List Int:=QI4 a0 a1 a2 a3 a4 a5 a6 a7 a8 a9 a10 a11++a11.flatMap VY
def QG1 (a0 a1 a2 a3 a4:Int) (a5:List Int) (a6:Int) (a7 a8:List Int) (a9:List Qd) (a10 a11:List Qa):List Int:=bif QoH a0 a1 a2 a3 a4 a5 a6 a7 a8 a9 a10 a11 then QC7 a0 a1 a2 a3 a4 a5 a6 a7 a8 a9 a10 a11++QOd (crc (QC7 a0 a1 a2 a3 a4 a5 a6 a7 a8 a9 a10 a11))else []
def QKf:Nat->Nat->Int->List Int->Option (Int×Nat)
 |0,_,_,_=>none
 |_+1,_,_,[]=>none
 |f+1,i,acc,c::l=>if 128<=c then QKf f (i+1) (acc+(c % 128)*128^i) l
  else if(0<i/\c=0)\/2147483647<acc+(c % 128)*128^i then none else some (acc+(c % 128)*128^i,i+1)
def QNB (k:Int):Option (Int×Nat)->Int×Int×Bool
 |none=>(0,0,false)
 |some r=>(r.1,k+(r.2:Nat),true)
def Qm5 (b:List Int) (k:Int):Int×Int×Bool:=if 0<=k/\k<(b.length:Int)then QNB k (QKf 5 0 0 (b.drop k.toNat))else(0,0,false)
structure Bs (b:List Int):Prop where
 isb:isB b
 len:b.length<=4294967296
def rnum (b:List Int) (p:Int) (bad:Bool):Int×Int×Bool:=bif bad then(0,p,true)else(bif (Qm5 b p).2.2 then((Qm5 b p).1,(Qm5 b p).2.1,false)else(0,p,true))
def qJ (b:List Int) (p:Int):ByteArray×Int×Bool:=bif (Qm5 b p).2.2 then(bif decide ((b.length:Int) - (Qm5 b p).2.1<(Qm5 b p).1)then(⟨#[]⟩,0,false)else(Km (List.take (Qm5 b p).1.toNat (List.drop (Qm5 b p).2.1.toNat b)),(Qm5 b p).2.1+(Qm5 b p).1,true))else(⟨#[]⟩,0,false)
def rtext (b:List Int) (p:Int) (bad:Bool):ByteArray×Int×Bool:=bif bad then(⟨#[]⟩,p,true)else(bif (qJ b p).2.2 then((qJ b p).1,(qJ b p).2.1,false)else(⟨#[]⟩,p,true))
def rcount (b:List Int) (p:Int) (bad:Bool) (most:Int):Int×Int×Bool:=bif decide (most<(rnum b p bad).1)then(0,(rnum b p bad).2.1,true)else rnum b p bad
def QBe (b:List Int):Nat->Int->Bool->List Int×Int×Bool
 |0,p,bad=>([],p,bad)
 |m+1,p,bad=>((rnum b p bad).1::(QBe b m (rnum b p bad).2.1 (rnum b p bad).2.2).1,(QBe b m (rnum b p bad).2.1 (rnum b p bad).2.2).2)
def rnums (b:List Int) (p:Int) (bad:Bool) (most:Int):List Int×Int×Bool:=QBe b (rcount b p bad most).1.toNat (rcount b p bad most).2.1 (rcount b p bad most).2.2
def QBq (b:List Int):Nat->Int->Bool->List Int×Int×Bool
 |0,p,bad=>([],p,bad)
 |m+1,p,bad=>bif bad then([],p,bad)else((rnum b p bad).1::(QBq b m (rnum b p bad).2.1 (rnum b p bad).2.2).1,(QBq b m (rnum b p bad).2.1 (rnum b p bad).2.2).2)
def rmany (b:List Int) (p:Int) (bad:Bool) (t:Nat):List Int×Int×Bool:=bif decide (100<(rnum b p bad).1)then([],(rnum b p bad).2.1,true)else QBq b ((rnum b p bad).1.toNat*t) (rnum b p bad).2.1 (rnum b p bad).2.2
def Enc (b:List Int) (p:Int) (l:List Int):Prop:=∃k:Nat,p=(k:Int)/\k<=b.length/\b.drop k=l
theorem Enc.start (b:List Int):Enc b 0 b:=⟨0,rfl,Nat.zero_le _,rfl⟩
theorem Enc.skip {b:List Int}{k:Nat}{a l:List Int}(h:b.drop k=a++l) (hk:k<=b.length):Enc b ((k+a.length:Nat):Int) l:=by
 have h2:(b.drop k).length=(a++l).length:=by rw[h]
 rw[QY21,QRj]at h2
 refine⟨k+a.length,rfl,by omega, ?_⟩
 rw[<-List.drop_drop,h,List.drop_left]
def ritem (b:List Int) (p:Int) (bad:Bool):Qd×Int×Bool:=
 let r2:=rnum b p bad
 let r3:=rnum b r2.2.1 r2.2.2
 let r4:=rnum b r3.2.1 r3.2.2
 let r5:=rnum b r4.2.1 r4.2.2
 let r6:=rnum b r5.2.1 r5.2.2
 let r7:=rtext b r6.2.1 r6.2.2
 ((r2.1,r3.1,r4.1,r5.1,r6.1,r7.1),r7.2)
def ritems (b:List Int):Nat->Int->Bool->List Qd×Int×Bool
 |0,p,bad=>([],p,bad)
 |m+1,p,bad=>((ritem b p bad).1::(ritems b m (ritem b p bad).2.1 (ritem b p bad).2.2).1,(ritems b m (ritem b p bad).2.1 (ritem b p bad).2.2).2)
def rfloor (b:List Int) (p:Int) (bad:Bool):Qa×Int×Bool:=(((rnum b p bad).1,(rnum b (rnum b p bad).2.1 (rnum b p bad).2.2).1),(rnum b (rnum b p bad).2.1 (rnum b p bad).2.2).2)
def rfloors (b:List Int):Nat->Int->Bool->List Qa×Int×Bool
 |0,p,bad=>([],p,bad)
 |m+1,p,bad=>((rfloor b p bad).1::(rfloors b m (rfloor b p bad).2.1 (rfloor b p bad).2.2).1,(rfloors b m (rfloor b p bad).2.1 (rfloor b p bad).2.2).2)
def QKw (b:List Int) (s:Qi) (bad:Bool):List Qd×List Qa×Bool:=bif !bad&&(QD s&&Jb (Km (stB s)) (Km b))then(s.1,s.2,true)else([],[],false)
def stI (b:List Int):List Qd×List Qa×Bool:=
 let c1:=rcount b 0 false 5
 let q:=ritems b c1.1.toNat c1.2.1 c1.2.2
 let c2:=rcount b q.2.1 q.2.2 5
 let f:=rfloors b c2.1.toNat c2.2.1 c2.2.2
 QKw b (q.1,f.1) f.2.2
def QDR (xs:List Qa):List Int:=xs.flatMap fun x=>[x.1,x.2]
abbrev Qtb:Type:=Int×Int×Int×Int×Int×(List Int)×Int×(List Int)×(List Int)×(List Qd)×(List Qa)×(List Qa)×Bool
def QEp:Qtb:=(0,0,0,0,0,[],0,[],[],[],[],[],false)
def QLm (m:QY):Qtb:=(m.1,m.2.1,m.2.2.1,m.2.2.2.1,m.2.2.2.2.1,m.2.2.2.2.2.1,m.2.2.2.2.2.2.1,m.2.2.2.2.2.2.2.1,m.2.2.2.2.2.2.2.2.1,m.2.2.2.2.2.2.2.2.2.1,m.2.2.2.2.2.2.2.2.2.2.1,m.2.2.2.2.2.2.2.2.2.2.2,true)
def bytesOf (m:QY):List Int:=QG1 m.1 m.2.1 m.2.2.1 m.2.2.2.1 m.2.2.2.2.1 m.2.2.2.2.2.1 m.2.2.2.2.2.2.1 m.2.2.2.2.2.2.2.1 m.2.2.2.2.2.2.2.2.1 m.2.2.2.2.2.2.2.2.2.1 m.2.2.2.2.2.2.2.2.2.2.1 m.2.2.2.2.2.2.2.2.2.2.2
def QOu (b:List Int) (m:QY) (bad:Bool):Qtb:=bif !bad&&(QfS m&&Jb (Km (bytesOf m)) (Km b))then QLm m else QEp
def QNx (b:List Int):Option (QY×Bool)->Qtb
 |none=>QEp
 |some r=>QOu b r.1 r.2
structure Hd where
 a0:Int
 a1:Int
 a2:Int
 a3:Int
 a4:Int
 a5:List Int
 a6:Int
 a7:List Int
 a8:List Int
 n:Int
 p:Int
 bad:Bool
def hi1 (c:List Int):Int×Int×Bool:=rnum c 2 false
def hi2 (c:List Int):Int×Int×Bool:=rnum c (hi1 c).2.1 (hi1 c).2.2
def hi3 (c:List Int):Int×Int×Bool:=rnum c (hi2 c).2.1 (hi2 c).2.2
def hi4 (c:List Int):Int×Int×Bool:=rnum c (hi3 c).2.1 (hi3 c).2.2
def hi5 (c:List Int):Int×Int×Bool:=rnum c (hi4 c).2.1 (hi4 c).2.2
def hi6 (c:List Int):List Int×Int×Bool:=rnums c (hi5 c).2.1 (hi5 c).2.2 4
def hi7 (c:List Int):Int×Int×Bool:=rnum c (hi6 c).2.1 (hi6 c).2.2
def hi8 (c:List Int):List Int×Int×Bool:=rnums c (hi7 c).2.1 (hi7 c).2.2 5
def hi9 (c:List Int):List Int×Int×Bool:=rnums c (hi8 c).2.1 (hi8 c).2.2 4
def QGn (c:List Int):Int×Int×Bool:=rnum c (hi9 c).2.1 (hi9 c).2.2
def hdI (c:List Int):Hd:=⟨(hi1 c).1,(hi2 c).1,(hi3 c).1,(hi4 c).1,(hi5 c).1,(hi6 c).1,(hi7 c).1,(hi8 c).1,(hi9 c).1,(QGn c).1,(QGn c).2.1,(QGn c).2.2⟩
def hs1 (c:List Int):Int×Int×Bool:=rnum c 2 false
def hs2 (c:List Int):Int×Int×Bool:=rnum c (hs1 c).2.1 (hs1 c).2.2
def hs3 (c:List Int):Int×Int×Bool:=rnum c (hs2 c).2.1 (hs2 c).2.2
def hs4 (c:List Int):Int×Int×Bool:=rnum c (hs3 c).2.1 (hs3 c).2.2
def hs5 (c:List Int):Int×Int×Bool:=rnum c (hs4 c).2.1 (hs4 c).2.2
def hs6 (c:List Int):List Int×Int×Bool:=rmany c (hs5 c).2.1 (hs5 c).2.2 1
def body (b:List Int):List Int:=List.take ((b.length:Int) - 4).toNat b
def cut (b:List Int) (p n:Int):List Int:=List.take n.toNat (List.drop p.toNat b)
def QMv (b:List Int) (h:Hd):Option (QY×Bool):=bif h.bad then none else(bif decide ((b.length:Int) - 4 - h.p<h.n)then none else(bif (stI (cut b h.p h.n)).2.2 then
 some ((h.a0,h.a1,h.a2,h.a3,h.a4,h.a5,h.a6,h.a7,h.a8,(stI (cut b h.p h.n)).1,(stI (cut b h.p h.n)).2.1,(rfloors (body b) (rcount (body b) (h.p+h.n) h.bad 5).1.toNat (rcount (body b) (h.p+h.n) h.bad 5).2.1 (rcount (body b) (h.p+h.n) h.bad 5).2.2).1),(rfloors (body b) (rcount (body b) (h.p+h.n) h.bad 5).1.toNat (rcount (body b) (h.p+h.n) h.bad 5).2.1 (rcount (body b) (h.p+h.n) h.bad 5).2.2).2.2)else none))
def QNy (b:List Int):Qtb:=bif decide ((b.length:Int) - 4<2)then QEp else(bif Jb (Km (List.take 2 b)) (⟨#[82,75]⟩:ByteArray)then QNx b (QMv b (hdI (body b)))else QEp)
def post (m:QY) (net:List Qq):List Qq:=bif decide ((net.length:Int)<12)then net++[(m.2.2.1,bytesOf m,false)]else net
structure Few (net:List Qq):Prop where
 len:net.length<=12
 packs:∀p∈net,p.2.1.length<=3000100
end Go.Proofs.YtiejfnbmficbmaaGreat.M
