/- What the plain forms that FnExactGiveAll reaches come to: PEnc. No conditions but those that each theorem states. -/
import Derived.Test.YtiejfnbmficbmaaGreatFnExactGiveAllPExch
set_option linter.all false
namespace Go.Proofs.YtiejfnbmficbmaaGreat.M
open Go Go.Eng Go.Proofs
set_option linter.unusedVariables false
theorem QuA:(f:Nat)->(n:Int)->(o:List Int)->X4 f n o=((X4 f n []).1,o++(X4 f n []).2)
 |0,n,o=>by simp[X4]
 |f+1,n,o=>by
  simp only[X4]
  split
  ·rw[QuA f _ (o++[QfD n]),QuA f _ ([]++[QfD n])];simp
  ·simp
theorem QLC {n:Int}(h:0<=n) (h2:n<=2147483647):QfD n=n % 128+128:=by
 unfold QfD
 rw[Int.tmod_eq_emod_of_nonneg h,w64 (by omega) (by omega),IntKind.wrap_u8]
 omega
theorem QBe (l:List Int):(f:Nat)->(n:Int)->(i:Nat)->(acc:Int)->0<=n->n<128^(f+1)->(0<i->0<n)->0<=acc->acc+n*128^i<=2147483647->i+f<=4->Qbg (f+1) i acc ((X4 f n []).2++([IntKind.wrap .u8 (X4 f n []).1]++l))=some (acc+n*128^i,i+(X4 f n []).2.length+1)
 |0,n,i,acc,h0,h1,hi,ha,hm,hf=>by
  have h1':n<128:=h1
  have e:IntKind.wrap .u8 n=n:=by rw[IntKind.wrap_u8];omega
  simp only[X4,QRe,List.singleton_append,e,QY6,QY3]
  rw[Qbg,if_neg (by omega),show n % 128=n by omega,if_neg]
  intro h
  rcases h with h|h
  ·have:=hi h.1;omega
  ·omega
 |f+1,n,i,acc,h0,h1,hi,ha,hm,hf=>by
  have hp:=QB1 i (by omega)
  have hpos:0<=n*128^i:=Int.mul_nonneg h0 (by omega)
  have hn:n<=2147483647:=by
   have:n*1<=n*128^i:=Int.mul_le_mul_of_nonneg_left (by omega) h0
   omega
  by_cases h128:128<=n
  ·have e1:X4 (f+1) n []=((X4 f (Int.tdiv n 128) []).1,QfD n::(X4 f (Int.tdiv n 128) []).2):=by
    simp only[X4,h128,if_true,QRe]
    rw[QuA];simp
   have hd:=QY36 (b:=128) h0
   have hb:=QLC h0 hn
   have hq:n=n / 128*128+n % 128:=by omega
   have key:acc+n % 128*128^i+n / 128*128^(i+1)=acc+n*128^i:=by
    have:n*128^i=n / 128*128^(i+1)+n % 128*128^i:=by
     rw[hp.2.2,<-Int.mul_assoc,Int.mul_right_comm (n / 128) (128^i) 128,<-Int.add_mul,<-hq]
    omega
   have hr0:0<=n % 128*128^i:=Int.mul_nonneg (by omega) (by omega)
   have ih:=QBe l f (n / 128) (i+1) (acc+n % 128*128^i) (by omega) (by rw[Int.pow_succ]at h1;omega) (fun _=>by omega) (by omega) (by omega) (by omega)
   rw[e1,hd]
   rw[QRv,Qbg,hb,if_pos (by omega),show(n % 128+128) % 128=n % 128 by omega,ih,key]
   simp only[QY1]
   congr 2;omega
  ·have e1:X4 (f+1) n []=(n,[]):=by simp only[X4,h128,if_false]
   have e:IntKind.wrap .u8 n=n:=by rw[IntKind.wrap_u8];omega
   rw[e1]
   simp only[QRe,List.singleton_append,e,QY6,QY3]
   rw[Qbg,if_neg h128,show n % 128=n by omega,if_neg]
   intro h
   rcases h with h|h
   ·have:=hi h.1;omega
   ·omega
def Enc (b:List Int) (p:Int) (l:List Int):Prop:=∃k:Nat,p=(k:Int)/\k<=b.length/\b.drop k=l
theorem Enc.start (b:List Int):Enc b 0 b:=⟨0,rfl,Nat.zero_le _,rfl⟩
theorem Enc.skip {b:List Int}{k:Nat}{a l:List Int}(h:b.drop k=a++l) (hk:k<=b.length):Enc b ((k+a.length:Nat):Int) l:=by
 have h2:(b.drop k).length=(a++l).length:=by rw[h]
 rw[QY7,QRj]at h2
 refine⟨k+a.length,rfl,by omega, ?_⟩
 rw[<-List.drop_drop,h,List.drop_left]
theorem QCG {b:List Int}{p n:Int}{l:List Int}(h:Enc b p (Ql n++l)) (h0:0<=n) (h1:n<=2147483647):∃p',XX b p=(n,p',true)/\Enc b p' l:=by
 obtain⟨k,rfl,hk,hd⟩:=h
 have hin:inR n 0 2147483647=true:=Xg.2 ⟨h0,h1⟩
 have e:Ql n=(X4 4 n []).2++[IntKind.wrap .u8 (X4 4 n []).1]:=by unfold Ql;rw[hin];rfl
 have hlen:(Ql n).length=(X4 4 n []).2.length+1:=by rw[e];simp
 have hr:=QBe l 4 n 0 0 h0 (by omega) (fun h=>absurd h (by omega)) (by omega) (by simp;omega) (by omega)
 refine⟨((k+(Ql n).length:Nat):Int), ?_,Enc.skip hd hk⟩
 have hlt:k<b.length:=by
  have h2:(b.drop k).length=(Ql n++l).length:=by rw[hd]
  rw[QY7,QRj,hlen]at h2
  omega
 unfold XX
 rw[if_pos (by omega),QRb,hd,e,QRc,hr]
 simp only[QCs,Int.zero_add,Int.pow_zero,Int.mul_one,QRo]
 rw[show(k:Int)+(((X4 4 n []).2.length+1:Nat):Int)=((k+((X4 4 n []).2++[IntKind.wrap .u8 (X4 4 n []).1]).length:Nat):Int) by rw[QRj];simp]
theorem XW {b:List Int}{p n:Int}{l:List Int}(h:Enc b p (Ql n++l)) (h0:0<=n) (h1:n<=2147483647):∃p',rnum b p false=(n,p',false)/\Enc b p' l:=by
 obtain⟨p',e,h2⟩:=QCG h h0 h1
 exact⟨p',by unfold rnum;rw[e];rfl,h2⟩
theorem QuH (s:ByteArray):QM (ofBytes s)=s:=by
 unfold QM ofBytes
 rw[List.map_map]
 have:((fun n:Int=>n.toNat.toUInt8)∘fun b:UInt8=>(b.toNat:Int))=id:=by
  funext x
  simp
 rw[this,List.map_id]
theorem QtA: {a b:List Int}->isB a->isB b->QM a=QM b->a=b:=by
 intro a b ha hb h
 have h1:a.map (fun n=>n.toNat.toUInt8)=b.map (fun n=>n.toNat.toUInt8):=by
  have:=congrArg (fun z:ByteArray=>z.data.toList) h
  simpa[QM]using this
 clear h
 induction a generalizing b with
 |nil=>cases b with
  |nil=>rfl
  |cons y l=>simp at h1
 |cons x l ih=>cases b with
  |nil=>simp at h1
  |cons y m=>
   simp only[QY24,List.cons.injEq]at h1
   have hx:=ha x (by simp)
   have hy:=hb y (by simp)
   have e:x=y:=by
    have h3:=congrArg UInt8.toNat h1.1
    simp only[Nat.toUInt8,UInt8.toNat_ofNat']at h3
    omega
   rw[e,ih (fun z hz=>ha z (by simp[hz])) (fun z hz=>hb z (by simp[hz])) h1.2]
theorem QKf {b:List Int}{p:Int}{s:ByteArray}{l:List Int}(h:Enc b p (KN s++l)) (hs:s.size<=8):∃p',ZT b p=(s,p',true)/\Enc b p' l:=by
 unfold KN at h
 rw[QRc]at h
 obtain⟨q,e,k,rfl,hk,hd⟩:=QCG h (by omega) (by omega)
 have hl:(ofBytes s).length=s.size:=Qof s
 have h2:(b.drop k).length=(ofBytes s++l).length:=by rw[hd]
 rw[QY7,QRj,hl]at h2
 refine⟨((k+(ofBytes s).length:Nat):Int), ?_,Enc.skip hd hk⟩
 unfold ZT
 rw[e]
 simp only[QQ1,df (show¬(b.length:Int) - (k:Int)<(s.size:Int) by omega),QQ2,QRb,hd]
 rw[<-hl,List.take_left,QuH,Int.natCast_add]
def inN (n:Int):Prop:=0<=n/\n<=2147483647
theorem Qwd {b:List Int}{l:List Int}:(xs:List Int)->(p:Int)->(∀x∈xs,inN x)->Enc b p (xs.flatMap Ql++l)->∃p',zi b xs.length p false=(xs,p',false)/\Enc b p' l
 | [],p,_,h=>⟨p,rfl,h⟩
 |x::xs,p,hx,h=>by
  rw[QY8,QRc]at h
  obtain⟨p1,e1,h1⟩:=XW h (hx x (by simp)).1 (hx x (by simp)).2
  obtain⟨p2,e2,h2⟩:=Qwd xs p1 (fun y hy=>hx y (by simp[hy])) h1
  exact⟨p2,by simp only[QY1,zi,e1,e2],h2⟩
theorem QuO {b:List Int}{l:List Int}:(xs:List Int)->(p:Int)->(∀x∈xs,inN x)->Enc b p (xs.flatMap Ql++l)->∃p',JX b xs.length p false=(xs,p',false)/\Enc b p' l
 | [],p,_,h=>⟨p,rfl,h⟩
 |x::xs,p,hx,h=>by
  rw[QY8,QRc]at h
  obtain⟨p1,e1,h1⟩:=XW h (hx x (by simp)).1 (hx x (by simp)).2
  obtain⟨p2,e2,h2⟩:=QuO xs p1 (fun y hy=>hx y (by simp[hy])) h1
  exact⟨p2,by simp only[QY1,JX,e1,e2,QQ2],h2⟩
theorem QjC {b:List Int}{p n most:Int}{l:List Int}(h:Enc b p (Ql n++l)) (h0:0<=n) (h1:n<=2147483647) (hm:n<=most):∃p',rcount b p false most=(n,p',false)/\Enc b p' l:=by
 obtain⟨p1,e1,h2⟩:=XW h h0 h1
 exact⟨p1,by unfold rcount;rw[e1];simp only[df (show¬most<n by omega),QQ2],h2⟩
theorem QrF {b:List Int}{p most:Int}{xs l:List Int}(hx:∀x∈xs,inN x) (hl:((xs.length:Nat):Int)<=most) (hm:most<=5) (h:Enc b p (nums xs++l)):∃p',rnums b p false most=(xs,p',false)/\Enc b p' l:=by
 unfold nums at h
 rw[QRc]at h
 obtain⟨p1,e1,h1⟩:=QjC (most:=most) h (by omega) (by omega) hl
 obtain⟨p2,e2,h2⟩:=Qwd xs p1 hx h1
 exact⟨p2,by unfold rnums;rw[e1];simp only[QRb,e2],h2⟩
theorem QgF {b:List Int}{p:Int}{xs l:List Int}(t n:Nat) (hx:∀x∈xs,inN x) (hn:xs.length=n*t) (hm:n<=5) (h:Enc b p (Ql (n:Nat)++(xs.flatMap Ql++l))):∃p',rmany b p false t=(xs,p',false)/\Enc b p' l:=by
 obtain⟨p1,e1,h1⟩:=XW h (by omega) (by omega)
 obtain⟨p2,e2,h2⟩:=QuO xs p1 hx h1
 exact⟨p2,by unfold rmany;rw[e1];simp only[df (show¬(100:Int)<(n:Int) by omega),QQ2,QRb,<-hn,e2],h2⟩
def ritem (b:List Int) (p:Int) (bad:Bool):Qf×Int×Bool:=
 let r2:=rnum b p bad
 let r3:=rnum b r2.2.1 r2.2.2
 let r4:=rnum b r3.2.1 r3.2.2
 let r5:=rnum b r4.2.1 r4.2.2
 let r6:=rnum b r5.2.1 r5.2.2
 let r7:=rtext b r6.2.1 r6.2.2
 ((r2.1,r3.1,r4.1,r5.1,r6.1,r7.1),r7.2)
def ritems (b:List Int):Nat->Int->Bool->List Qf×Int×Bool
 |0,p,bad=>([],p,bad)
 |m+1,p,bad=>((ritem b p bad).1::(ritems b m (ritem b p bad).2.1 (ritem b p bad).2.2).1,(ritems b m (ritem b p bad).2.1 (ritem b p bad).2.2).2)
def rfloor (b:List Int) (p:Int) (bad:Bool):Qa×Int×Bool:=(((rnum b p bad).1,(rnum b (rnum b p bad).2.1 (rnum b p bad).2.2).1),(rnum b (rnum b p bad).2.1 (rnum b p bad).2.2).2)
def rfloors (b:List Int):Nat->Int->Bool->List Qa×Int×Bool
 |0,p,bad=>([],p,bad)
 |m+1,p,bad=>((rfloor b p bad).1::(rfloors b m (rfloor b p bad).2.1 (rfloor b p bad).2.2).1,(rfloors b m (rfloor b p bad).2.1 (rfloor b p bad).2.2).2)
theorem Qzn {b:List Int}(h:Bs b) {p:Int}(hp:Pos b p) (bad:Bool):Pos b (ritem b p bad).2.1:=by
 have h2:=(QU h hp bad).1
 have h3:=(QU h h2 (rnum b p bad).2.2).1
 have h4:=(QU h h3 (rnum b (rnum b p bad).2.1 (rnum b p bad).2.2).2.2).1
 exact QIn h (QU h (QU h h4 _).1 _).1 _
theorem Qxf {b:List Int}(h:Bs b):(m:Nat)->(p:Int)->(bad:Bool)->Pos b p->Pos b (ritems b m p bad).2.1/\(ritems b m p bad).1.length=m
 |0,p,bad,hp=>⟨hp,rfl⟩
 |m+1,p,bad,hp=>by
  have:=Qxf h m _ (ritem b p bad).2.2 (Qzn h hp bad)
  exact⟨this.1,by simp only[ritems,QY1,this.2]⟩
theorem Qqt {b:List Int}(h:Bs b) {p:Int}(hp:Pos b p) (bad:Bool):Pos b (rfloor b p bad).2.1:=(QU h (QU h hp bad).1 _).1
theorem Qok {b:List Int}(h:Bs b):(m:Nat)->(p:Int)->(bad:Bool)->Pos b p->Pos b (rfloors b m p bad).2.1/\(rfloors b m p bad).1.length=m
 |0,p,bad,hp=>⟨hp,rfl⟩
 |m+1,p,bad,hp=>by
  have:=Qok h m _ (rfloor b p bad).2.2 (Qqt h hp bad)
  exact⟨this.1,by simp only[rfloors,QY1,this.2]⟩
theorem QaY {b:List Int}(h:Bs b) (r:Int×Bool) (hp:Pos b r.1):QE w (b,r)=some (rnum b r.1 r.2):=QkY h hp r.2
theorem QaD {b:List Int}(h:Bs b) (r:Int×Bool) (hp:Pos b r.1):Q6 w (b,r)=some (rnum b r.1 r.2):=QjS h hp r.2
theorem QMj {b:List Int}(h:Bs b) (r:Int×Bool) (hp:Pos b r.1):Jo w (b,r)=some (rtext b r.1 r.2):=QLQ h hp r.2
theorem QGI {b:List Int}(h:Bs b) (c:Nat) (hc:c<=5) (fl:List Qa):(m i:Nat)->(p:Int)->(bad:Bool)->(out:List Qf)->i+m=c->out.length=i->Pos b p->KR wl (b,(c:Int),(i:Int),out,fl,b,p,bad)=some (b,out++(ritems b m p bad).1,fl,b,(ritems b m p bad).2):=by
 intro m
 induction m with
 |zero=>
  intro i p bad out hi ho hp
  apply QhY
  simp only[Qef,df (show¬(i:Int)<(c:Int) by omega),QQ2,ritems,QY11]
 |succ m ih=>
  intro i p bad out hi ho hp
  apply QhY
  have h2:=(QU h hp bad).1
  have h3:=(QU h h2 (rnum b p bad).2.2).1
  have h4:=(QU h h3 (rnum b (rnum b p bad).2.1 (rnum b p bad).2.2).2.2).1
  have h5:=(QU h h4 (rnum b (rnum b (rnum b p bad).2.1 (rnum b p bad).2.2).2.1 (rnum b (rnum b p bad).2.1 (rnum b p bad).2.2).2.2).2.2).1
  have h6:=fun bad=>(QU h h5 bad).1
  simp only[Qef,dt (show(i:Int)<(c:Int) by omega),QkY h hp,QQ0,QaY h _ h2,QaY h _ h3,QaY h _ h4,QaY h _ h5,QMj h _ (h6 _),w64 (n:=(i:Int)+1) (by omega) (by omega),QQ1]
  rw[Qu (by simp;omega),QQ1]
  have:=ih (i+1) _ (ritem b p bad).2.2 (out++[(ritem b p bad).1]) (by omega) (by simp[ho]) (Qzn h hp bad)
  rw[show(i:Int)+1=((i+1:Nat):Int) by omega]
  refine this.trans ?_
  simp only[ritems,QRc,QRv,QRe]
theorem QDL {b:List Int}(h:Bs b) (c:Nat) (hc:c<=5) (its:List Qf):(m i:Nat)->(p:Int)->(bad:Bool)->(out:List Qa)->i+m=c->out.length=i->Pos b p->K0 wl (b,(c:Int),(i:Int),its,out,b,p,bad)=some (b,its,out++(rfloors b m p bad).1,b,(rfloors b m p bad).2):=by
 intro m
 induction m with
 |zero=>
  intro i p bad out hi ho hp
  apply QgU
  simp only[Qcy,df (show¬(i:Int)<(c:Int) by omega),QQ2,rfloors,QY11]
 |succ m ih=>
  intro i p bad out hi ho hp
  apply QgU
  have h2:=(QU h hp bad).1
  simp only[Qcy,dt (show(i:Int)<(c:Int) by omega),QkY h hp,QQ0,QaY h _ h2,w64 (n:=(i:Int)+1) (by omega) (by omega),QQ1]
  rw[Qu (by simp;omega),QQ1]
  have:=ih (i+1) _ (rfloor b p bad).2.2 (out++[(rfloor b p bad).1]) (by omega) (by simp[ho]) (Qqt h hp bad)
  rw[show(i:Int)+1=((i+1:Nat):Int) by omega]
  refine this.trans ?_
  simp only[rfloors,QRc,QRv,QRe]
def QjB (b:List Int) (s:Qk) (bad:Bool):List Qf×List Qa×Bool:=bif !bad&&(QF s&&X0 (QM (stB s)) (QM b))then(s.1,s.2,true)else([],[],false)
def stI (b:List Int):List Qf×List Qa×Bool:=
 let c1:=rcount b 0 false 5
 let q:=ritems b c1.1.toNat c1.2.1 c1.2.2
 let c2:=rcount b q.2.1 q.2.2 5
 let f:=rfloors b c2.1.toNat c2.2.1 c2.2.2
 QjB b (q.1,f.1) f.2.2
theorem QBS (a b:List Int):Qas w (a,b)=some (X0 (QM a) (QM b)):=by
 apply Qy9
 rfl
theorem QFH {b:List Int}(h:Bs b):QdU w b=some (stI b):=by
 apply Qwm
 have h0:=Pos.at0 b
 have k1:=Qca h h0 false (most:=5) (by omega)
 obtain⟨c,hc⟩:∃c:Nat,(rcount b 0 false 5).1=(c:Int):=⟨(rcount b 0 false 5).1.toNat,by omega⟩
 have e1:=QGI h c (by omega) [] c 0 (rcount b 0 false 5).2.1 (rcount b 0 false 5).2.2 [] (by omega) rfl k1.1
 have k2:=Qxf h c (rcount b 0 false 5).2.1 (rcount b 0 false 5).2.2 k1.1
 simp only[QQ6,QRe]at e1
 simp only[Ql3,stI,Qqf h h0,QQ0,hc,QRb]
 rw[show KR wl (b,(c:Int),0,[],[],b,(rcount b 0 false 5).2)=_ from e1]
 simp only[QQ0]
 generalize ritems b c (rcount b 0 false 5).2.1 (rcount b 0 false 5).2.2=q at k2
 have k3:=Qca h k2.1 q.2.2 (most:=5) (by omega)
 obtain⟨c',hc'⟩:∃c:Nat,(rcount b q.2.1 q.2.2 5).1=(c:Int):=⟨(rcount b q.2.1 q.2.2 5).1.toNat,by omega⟩
 have e2:=QDL h c' (by omega) q.1 c' 0 (rcount b q.2.1 q.2.2 5).2.1 (rcount b q.2.1 q.2.2 5).2.2 [] (by omega) rfl k3.1
 have k4:=Qok h c' (rcount b q.2.1 q.2.2 5).2.1 (rcount b q.2.1 q.2.2 5).2.2 k3.1
 simp only[QQ6,QRe]at e2
 simp only[Qqf h k2.1,QQ0,hc',QRb]
 rw[show K0 wl (b,(c':Int),0,q.1,[],b,(rcount b q.2.1 q.2.2 5).2)=_ from e2]
 simp only[QQ0]
 generalize rfloors b c' (rcount b q.2.1 q.2.2 5).2.1 (rcount b q.2.1 q.2.2 5).2.2=f at k4
 have hl1:q.1.length<=maxLen:=by simp only[maxLen];omega
 have hl2:f.1.length<=maxLen:=by simp only[maxLen];omega
 simp only[Z9 q.1 f.1 hl1 hl2,Qim q.1 f.1 hl1 hl2,QBS,QQ0,QjB]
 cases f.2.2
 ·cases QF (q.1,f.1)
  ·rfl
  ·simp only[QQ1]
   cases X0 (QM (stB (q.1,f.1))) (QM b)<;>rfl
 ·rfl
def pairs:List Int->List Qa
 |a::c::l=>(a,c)::pairs l
 |_=>[]
def sitem (b:List Int) (p:Int):Qf×Int×Bool×Bool:=
 let r2:=rnum b p false
 let r3:=rnum b r2.2.1 r2.2.2
 let r4:=rnum b r3.2.1 r3.2.2
 let r5:=rnum b r4.2.1 r4.2.2
 let r6:=rnum b r5.2.1 r5.2.2
 let r7:=ZT b r6.2.1
 ((r2.1,r3.1,r4.1,r5.1,r6.1,r7.1),r7.2.1,r6.2.2,r7.2.2)
def sitems (b:List Int):Nat->Int->Bool->Option (List Qf×Int×Bool)
 |0,p,bad=>some ([],p,bad)
 |m+1,p,bad=>bif bad then some ([],p,bad)else(bif (sitem b p).2.2.1 then none else(bif (sitem b p).2.2.2 then(sitems b m (sitem b p).2.1 false).map (fun q=>((sitem b p).1::q.1,q.2))else none))
def sres (b:List Int) (n:Nat) (out:List Qf) (fl:List Qa):Option (List Qf×Int×Bool)->(Bool×List Qf×List Qa)⊕(List Int×Int×List Qf×List Qa×List Int×Int×Bool)
 |none=> .inl (false,[],[])
 |some q=> .inr (b,(n:Int),out++q.1,fl,b,q.2)
theorem Qzy {b:List Int}(h:Bs b) {p:Int}(hp:Pos b p) (ho:(sitem b p).2.2.2=true):Pos b (sitem b p).2.1:=by
 have h2:=(QU h hp false).1
 have h3:=(QU h h2 (rnum b p false).2.2).1
 have h4:=(QU h h3 (rnum b (rnum b p false).2.1 (rnum b p false).2.2).2.2).1
 exact QCD h (QU h (QU h h4 _).1 _).1 ho
theorem QEd {b:List Int}(h:Bs b) (n:Nat) (hn:n<=100) (fl:List Qa):(m i:Nat)->(p:Int)->(bad:Bool)->(out:List Qf)->i+m=n->out.length=i->Pos b p->YH wl (b,(n:Int),(i:Int),out,fl,b,p,bad)=some (sres b n out fl (sitems b m p bad)):=by
 intro m
 induction m with
 |zero=>
  intro i p bad out hi ho hp
  apply jE
  simp only[yX,df (show¬(i:Int)<(n:Int) by omega),QQ2,sitems,sres,QY11]
 |succ m ih=>
  intro i p bad out hi ho hp
  apply jE
  cases bad
  ·have h2:=(QU h hp false).1
   have h3:=(QU h h2 (rnum b p false).2.2).1
   have h4:=(QU h h3 (rnum b (rnum b p false).2.1 (rnum b p false).2.2).2.2).1
   have h5:=(QU h h4 (rnum b (rnum b (rnum b p false).2.1 (rnum b p false).2.2).2.1 (rnum b (rnum b p false).2.1 (rnum b p false).2.2).2.2).2.2).1
   have h6:=fun bad=>(QU h h5 bad).1
   simp only[yX,dt (show(i:Int)<(n:Int) by omega),dt (show(n:Int)<=100 by omega),QQ4,QjS h hp,QQ0,QaD h _ h2,QaD h _ h3,QaD h _ h4,QaD h _ h5,QDB h (h6 _),w64 (n:=(i:Int)+1) (by omega) (by omega),QQ1]
   have ih':=fun ho=>ih (i+1) _ false (out++[(sitem b p).1]) (by omega) (by simp;omega) (Qzy h hp ho)
   rw[sitems]
   show(bif (sitem b p).2.2.1 then some (Sum.inl (false,[],[]))else bif !(sitem b p).2.2.2 then some (Sum.inl (false,[],[]))else bif fits (out.length+ [(sitem b p).1].length) 56 then YH wl (b,(n:Int),(i:Int)+1,out++[(sitem b p).1],fl,b,(sitem b p).2.1,(sitem b p).2.2.1)else none)=_
   cases hb:(sitem b p).2.2.1
   ·cases ho:(sitem b p).2.2.2
    ·rfl
    ·rw[Qu (by simp;omega)]
     simp only[QQ1,QQ2,QQ3]
     rw[show(i:Int)+1=((i+1:Nat):Int) by omega,ih' ho]
     cases sitems b m (sitem b p).2.1 false with
     |none=>rfl
     |some q=>simp only[sres,Option.map_some,QRc,QRv,QRe]
   ·rfl
  ·simp only[yX,dt (show(i:Int)<(n:Int) by omega),QQ3,QQ1,QQ2,sitems,sres,QY11]
theorem Qvy {b:List Int}(h:Bs b):(m:Nat)->(p:Int)->(bad:Bool)->Pos b p->∀q,sitems b m p bad=some q->Pos b q.2.1/\q.1.length<=m
 |0,p,bad,hp,q,e=>by obtain rfl:=QY10 e;exact⟨hp,QY2 _⟩
 |m+1,p,bad,hp,q,e=>by
  rw[sitems]at e
  cases bad
  ·cases hb:(sitem b p).2.2.1
   ·cases ho:(sitem b p).2.2.2
    ·rw[hb,ho]at e;cases e
    ·rw[hb,ho]at e
     simp only[QQ1,QQ2]at e
     cases hs:sitems b m (sitem b p).2.1 false with
     |none=>rw[hs]at e;cases e
     |some r=>
      rw[hs]at e
      obtain rfl:=QY10 e
      have:=Qvy h m _ false (Qzy h hp ho) r hs
      exact⟨this.1,by simp only[QY1];omega⟩
   ·rw[hb]at e;cases e
  ·obtain rfl:=QY10 e;exact⟨hp,by simp⟩
theorem Qro:(l:List Int)->(pairs l).length<=l.length
 | []=>QY2 _
 | [_]=>by simp[pairs]
 |a::c::l=>by
  have:=Qro l
  simp only[pairs,QY1];omega
theorem QuV (b full:List Int) (n:Int) (its:List Qf) (r:Int×Bool) (hf:full.length<=200):(l:List Int)->(i:Nat)->(out:List Qa)->full.drop i=l->i<=full.length->out.length<=i->qm wl (b,n,(i:Int),its,out,full,b,r)=some (b,n,its,out++pairs l,b,r)
 | [],i,out,hd,hi,ho=>by
   have:full.length - i=0:=by rw[<-QY7,hd];rfl
   apply jI
   simp only[yL,w64 (n:=(i:Int)+1) (by omega) (by omega),df (show¬(i:Int)+1<(full.length:Int) by omega),QQ2,pairs,QY11]
 | [x],i,out,hd,hi,ho=>by
   have:full.length - i=1:=by rw[<-QY7,hd];rfl
   apply jI
   simp only[yL,w64 (n:=(i:Int)+1) (by omega) (by omega),df (show¬(i:Int)+1<(full.length:Int) by omega),QQ2,pairs,QY11]
 |x::y::l,i,out,hd,hi,ho=>by
  have hlen:full.length - i=l.length+2:=by rw[<-QY7,hd];rfl
  have hx:rd1 (0:Int) full (i:Int)=x:=by
   rw[Qg (show i<full.length by omega)]
   have:=QRa (show i<full.length by omega)
   rw[hd]at this
   exact(List.cons.inj this).1.symm
  have hd1:full.drop (i+1)=y::l:=by
   have:=QRa (show i<full.length by omega)
   rw[hd]at this
   exact(List.cons.inj this).2.symm
  have hy:rd1 (0:Int) full ((i+1:Nat):Int)=y:=by
   rw[Qg (show i+1<full.length by omega)]
   have:=QRa (show i+1<full.length by omega)
   rw[hd1]at this
   exact(List.cons.inj this).1.symm
  have hd2:full.drop (i+2)=l:=by
   have:=QRa (show i+1<full.length by omega)
   rw[hd1]at this
   exact(List.cons.inj this).2.symm
  have ih:=QuV b full n its r hf l (i+2) (out++[(x,y)]) hd2 (by omega) (by simp;omega)
  apply jI
  simp only[yL,w64 (n:=((i+1:Nat):Int)) (by omega) (by omega),w64 (n:=(i:Int)+2) (by omega) (by omega),dt (show((i+1:Nat):Int)<(full.length:Int) by omega),QQ1,Qj (show i<full.length by omega),show(i:Int)+1=((i+1:Nat):Int) by omega,Qj (show i+1<full.length by omega),hx,hy]
  rw[Qu (by simp;omega),QQ1,show(i:Int)+2=((i+2:Nat):Int) by omega,ih]
  simp only[pairs,QRc,QRv,QRe]
def QbE (b:List Int):Option (List Qf×Int×Bool):=bif decide (100<(rnum b 0 false).1)then some ([],(rnum b 0 false).2)else sitems b (rnum b 0 false).1.toNat (rnum b 0 false).2.1 (rnum b 0 false).2.2
def QIP (b:List Int):Option (List Qf×Int×Bool)->List Qf×List Qa×Bool
 |none=>([],[],false)
 |some q=>QjB b (q.1,pairs (rmany b q.2.1 q.2.2 2).1) ((rmany b q.2.1 q.2.2 2).2.2||decide (100<(rnum b 0 false).1))
def stS (b:List Int):List Qf×List Qa×Bool:=QIP b (QbE b)
theorem QDC {b:List Int}(h:Bs b):Qb5 w b=some (stS b):=by
 apply Qu4
 have h0:=Pos.at0 b
 have k1:=QU h h0 false
 obtain⟨n,hn⟩:∃n:Nat,(rnum b 0 false).1=(n:Int):=⟨(rnum b 0 false).1.toNat,by omega⟩
 have e1:YH wl (b,(n:Int),0,[],[],b,(rnum b 0 false).2)=some (sres b n [] [] (QbE b))/\∀q,QbE b=some q->Pos b q.2.1/\q.1.length<=100:=by
  unfold QbE
  rw[hn]
  by_cases h100:(100:Int)<(n:Int)
  ·rw[dt h100]
   refine⟨?_,fun q e=>by obtain rfl:=QY10 e;exact⟨k1.1,by simp⟩⟩
   have hb:(rnum b 0 false).2.2=false:=by
    cases hb:(rnum b 0 false).2.2
    ·rfl
    ·have:=QCv hb;omega
   apply jE
   show(bif decide ((0:Int)<(n:Int))then(bif !(rnum b 0 false).2.2 then(bif decide ((n:Int)<=100)then _ else some (Sum.inr (b,(n:Int),[],[],b,(rnum b 0 false).2.1,(rnum b 0 false).2.2)))else _)else _)=_
   rw[dt (show(0:Int)<(n:Int) by omega),hb,df (show¬(n:Int)<=100 by omega)]
   have e2:(rnum b 0 false).2=((rnum b 0 false).2.1,false):=Prod.ext rfl hb
   simp only[QQ4,QQ1,QQ2,sres,QY11]
   rw[e2]
  ·rw[df h100]
   simp only[QQ2,QRb]
   exact⟨QEd h n (by omega) [] n 0 _ _ [] (by omega) rfl k1.1,fun q e=>by
    have:=Qvy h n _ _ k1.1 q e
    exact⟨this.1,by omega⟩⟩
 simp only[QkA,QjS h h0,QQ0,hn,stS]
 rw[e1.1]
 simp only[QQ0]
 cases hs:QbE b with
 |none=>rfl
 |some q=>
  obtain⟨hq,hql⟩:=e1.2 q hs
  have k2:=QgX h hq q.2.2 2 (by omega)
  have hm:Za w (b,q.2.1,q.2.2,2)=some (rmany b q.2.1 q.2.2 2):=Qpf h hq q.2.2 2 (by omega) (by omega)
  simp only[sres,Qn,QY0,QRe,hm,QQ0,QIP,hn]
  have e2:=QuV b (rmany b q.2.1 q.2.2 2).1 (n:Int) q.1 (rmany b q.2.1 q.2.2 2).2 k2.2 (rmany b q.2.1 q.2.2 2).1 0 [] rfl (by omega) (by simp)
  simp only[QQ6,QRe]at e2
  rw[e2]
  have hpl:=Qro (rmany b q.2.1 q.2.2 2).1
  generalize rmany b q.2.1 q.2.2 2=f at k2 hpl
  have hl1:q.1.length<=maxLen:=by simp only[maxLen];omega
  have hl2:(pairs f.1).length<=maxLen:=by simp only[maxLen];omega
  simp only[QQ0,Ky q.1 (pairs f.1) hl1 hl2,QjB]
  cases f.2.2
  ·cases decide ((100:Int)<(n:Int))
   ·cases hso:QF (q.1,pairs f.1)
    ·rfl
    ·simp only[QrS q.1 (pairs f.1) (jN hso),QQ0]
     cases X0 (QM (stB (q.1,pairs f.1))) (QM b)<;>rfl
   ·rfl
  ·rfl
theorem QLv {x:Qf}(h1:inR x.1 0 4=true) (h2:X2 x.2=true):inN x.1/\inN x.2.1/\inN x.2.2.1/\inN x.2.2.2.1/\inN x.2.2.2.2.1/\x.2.2.2.2.2.size<=8:=by
 have:=Xg.1 h1
 have:=Qjx h2
 unfold inN;omega
theorem QIf {b:List Int}{p:Int}{x:Qf}{l:List Int}(h1:inR x.1 0 4=true) (h2:X2 x.2=true) (h:Enc b p (ZN x++l)):∃p',ritem b p false=(x,p',false)/\sitem b p=(x,p',false,true)/\Enc b p' l:=by
 obtain⟨n1,n2,n3,n4,n5,n6⟩:=QLv h1 h2
 unfold ZN at h
 simp only[QRc]at h
 obtain⟨p1,e1,q1⟩:=XW h n1.1 n1.2
 obtain⟨p2,e2,q2⟩:=XW q1 n2.1 n2.2
 obtain⟨p3,e3,q3⟩:=XW q2 n3.1 n3.2
 obtain⟨p4,e4,q4⟩:=XW q3 n4.1 n4.2
 obtain⟨p5,e5,q5⟩:=XW q4 n5.1 n5.2
 obtain⟨p6,e6,q6⟩:=QKf q5 n6
 refine⟨p6, ?_, ?_,q6⟩
 ·simp only[ritem,e1,e2,e3,e4,e5,rtext,e6,QQ2,QQ1]
 ·simp only[sitem,e1,e2,e3,e4,e5,e6]
theorem QpR {b l:List Int}:(xs:List Qf)->(p:Int)->(∀x∈xs,inR x.1 0 4=true/\X2 x.2=true)->Enc b p (xs.flatMap ZN++l)->∃p',ritems b xs.length p false=(xs,p',false)/\sitems b xs.length p false=some (xs,p',false)/\Enc b p' l
 | [],p,_,h=>⟨p,rfl,rfl,h⟩
 |x::xs,p,hx,h=>by
  rw[QY8,QRc]at h
  obtain⟨p1,e1,s1,h1⟩:=QIf (hx x (by simp)).1 (hx x (by simp)).2 h
  obtain⟨p2,e2,s2,h2⟩:=QpR xs p1 (fun y hy=>hx y (by simp[hy])) h1
  refine⟨p2, ?_, ?_,h2⟩
  ·simp only[QY1,ritems,e1,e2]
  ·simp only[QY1,sitems,s1,QQ2,QQ1,s2,Option.map_some]
theorem Qn3 {b l:List Int}:(xs:List Qa)->(p:Int)->(∀x∈xs,inN x.1/\inN x.2)->Enc b p (xs.flatMap Xp++l)->∃p',rfloors b xs.length p false=(xs,p',false)/\Enc b p' l
 | [],p,_,h=>⟨p,rfl,h⟩
 |x::xs,p,hx,h=>by
  rw[QY8,QRc,Xp,QRc]at h
  obtain⟨p1,e1,h1⟩:=XW h (hx x (by simp)).1.1 (hx x (by simp)).1.2
  obtain⟨p2,e2,h2⟩:=XW h1 (hx x (by simp)).2.1 (hx x (by simp)).2.2
  obtain⟨p3,e3,h3⟩:=Qn3 xs p2 (fun y hy=>hx y (by simp[hy])) h2
  exact⟨p3,by simp only[QY1,rfloors,rfloor,e1,e2,e3],h3⟩
def QcP (xs:List Qa):List Int:=xs.flatMap fun x=>[x.1,x.2]
theorem Qn6:(xs:List Qa)->(QcP xs).flatMap Ql=xs.flatMap Xp
 | []=>rfl
 |x::xs=>by
  have:=Qn6 xs
  simp only[QcP,QY8,List.flatMap_append,QRv,QRe,List.flatMap_nil,Xp,QRc]at this⊢
  rw[this]
theorem Qq7:(xs:List Qa)->(QcP xs).length=xs.length*2
 | []=>rfl
 |x::xs=>by
  have:=Qq7 xs
  simp only[QcP,QY8,QRj,QY1,QY6]at this⊢
  omega
theorem Qoc:(xs:List Qa)->pairs (QcP xs)=xs
 | []=>rfl
 |x::xs=>by
  have:=Qoc xs
  simp only[QcP,QY8,QRv,QRe,pairs]at this⊢
  rw[this]
theorem QpI {p:Int}{l:List Qa}(h:QO p l=true):∀x∈l,inN x.1/\inN x.2:=fun x hx=>by
 have:=Qdf _ _ h x hx
 have h1:=Xg.1 this.1
 have h2:=Xg.1 this.2
 unfold inN;omega
theorem Qzw {l:List Qa}(h:∀x∈l,inN x.1/\inN x.2):∀n∈QcP l,inN n:=fun n hn=>by
 obtain⟨x,hx,hnx⟩:=List.mem_flatMap.1 hn
 rcases QRk.1 hnx with rfl|hnx
 ·exact(h x hx).1
 ·obtain rfl:=List.mem_singleton.1 hnx
  exact(h x hx).2
theorem Qy1 {s:Qk}(h:QF s=true):stI (stB s)=(s.1,s.2,true)/\stS (stB s)=(s.1,s.2,true):=by
 have hl:=Kl h
 have hit:=QjA h
 have hfl:QO (-1) s.2=true:=by simp only[QF,QQ5]at h;exact h.1
 have hE:Enc (stB s) 0 (Ql (s.1.length:Nat)++(s.1.flatMap ZN++(Ql (s.2.length:Nat)++(s.2.flatMap Xp++[])))):=by
  rw[QY11];exact Enc.start _
 have hEnd:QjB (stB s) (s.1,s.2) false=(s.1,s.2,true):=by
  unfold QjB
  rw[show QF (s.1,s.2)=true from h,show X0 (QM (stB (s.1,s.2))) (QM (stB s))=true from QY _];rfl
 constructor
 ·obtain⟨p1,e1,q1⟩:=QjC (most:=5) hE (by omega) (by omega) (by omega)
  obtain⟨p2,e2,_,q2⟩:=QpR s.1 p1 hit q1
  obtain⟨p3,e3,q3⟩:=QjC (most:=5) q2 (by omega) (by omega) (by omega)
  obtain⟨p4,e4,q4⟩:=Qn3 s.2 p3 (QpI hfl) q3
  simp only[stI,e1,QRb,e2,e3,e4]
  exact hEnd
 ·obtain⟨p1,e1,q1⟩:=XW hE (by omega) (by omega)
  obtain⟨p2,_,e2,q2⟩:=QpR s.1 p1 hit q1
  rw[<-Qn6]at q2
  obtain⟨p3,e3,q3⟩:=QgF 2 s.2.length (Qzw (QpI hfl)) (Qq7 s.2) hl.2 q2
  have e0:QbE (stB s)=some (s.1,p2,false):=by
   unfold QbE
   rw[e1]
   simp only[df (show¬(100:Int)<((s.1.length:Nat):Int) by omega),QQ2,QRb,e2]
  unfold stS
  rw[e0]
  simp only[QIP,e3,Qoc,e1,df (show¬(100:Int)<((s.1.length:Nat):Int) by omega),Bool.or_false]
  exact hEnd
theorem QC2 (b:List Int) (hb:isB b) (s:Qk) (bad:Bool):QjB b s bad=([],[],false)\/(QjB b s bad=(s.1,s.2,true)/\QF s=true/\stB s=b):=by
 unfold QjB
 cases bad
 ·cases h1:QF s
  ·exact .inl rfl
  ·cases h2:X0 (QM (stB s)) (QM b)
   ·exact .inl rfl
   ·refine .inr ⟨rfl,rfl,QtA (QEC s) hb ?_⟩
    rw[QoX]at h2
    exact of_decide_eq_true h2
 ·exact .inl rfl
theorem QHe {b:List Int}(hb:isB b):stI b=([],[],false)\/∃s:Qk,stI b=(s.1,s.2,true)/\QF s=true/\stB s=b:=by
 rcases QC2 b hb ((ritems b (rcount b 0 false 5).1.toNat (rcount b 0 false 5).2.1 (rcount b 0 false 5).2.2).1,(rfloors b (rcount b (ritems b (rcount b 0 false 5).1.toNat (rcount b 0 false 5).2.1 (rcount b 0 false 5).2.2).2.1 (ritems b (rcount b 0 false 5).1.toNat (rcount b 0 false 5).2.1 (rcount b 0 false 5).2.2).2.2 5).1.toNat (rcount b (ritems b (rcount b 0 false 5).1.toNat (rcount b 0 false 5).2.1 (rcount b 0 false 5).2.2).2.1 (ritems b (rcount b 0 false 5).1.toNat (rcount b 0 false 5).2.1 (rcount b 0 false 5).2.2).2.2 5).2.1 (rcount b (ritems b (rcount b 0 false 5).1.toNat (rcount b 0 false 5).2.1 (rcount b 0 false 5).2.2).2.1 (ritems b (rcount b 0 false 5).1.toNat (rcount b 0 false 5).2.1 (rcount b 0 false 5).2.2).2.2 5).2.2).1) (rfloors b (rcount b (ritems b (rcount b 0 false 5).1.toNat (rcount b 0 false 5).2.1 (rcount b 0 false 5).2.2).2.1 (ritems b (rcount b 0 false 5).1.toNat (rcount b 0 false 5).2.1 (rcount b 0 false 5).2.2).2.2 5).1.toNat (rcount b (ritems b (rcount b 0 false 5).1.toNat (rcount b 0 false 5).2.1 (rcount b 0 false 5).2.2).2.1 (ritems b (rcount b 0 false 5).1.toNat (rcount b 0 false 5).2.1 (rcount b 0 false 5).2.2).2.2 5).2.1 (rcount b (ritems b (rcount b 0 false 5).1.toNat (rcount b 0 false 5).2.1 (rcount b 0 false 5).2.2).2.1 (ritems b (rcount b 0 false 5).1.toNat (rcount b 0 false 5).2.1 (rcount b 0 false 5).2.2).2.2 5).2.2).2.2 with h|⟨h,h1,h2⟩
 ·exact .inl h
 ·exact .inr ⟨_,h,h1,h2⟩
theorem QMi {b:List Int}(hb:isB b):stS b=([],[],false)\/∃s:Qk,stS b=(s.1,s.2,true)/\QF s=true/\stB s=b:=by
 unfold stS
 cases QbE b with
 |none=>exact .inl rfl
 |some q=>
  rcases QC2 b hb (q.1,pairs (rmany b q.2.1 q.2.2 2).1) ((rmany b q.2.1 q.2.2 2).2.2||decide (100<(rnum b 0 false).1))with h|⟨h,h1,h2⟩
  ·exact .inl h
  ·exact .inr ⟨_,h,h1,h2⟩
theorem QLg {b:List Int}(hb:isB b):stS b=stI b:=by
 rcases QHe hb with h|⟨s,h,h1,h2⟩
 ·rcases QMi hb with h'|⟨s,h',h1,h2⟩
  ·rw[h,h']
  ·rw[<-h2,(Qy1 h1).1]at h
   exact absurd (congrArg (fun z:List Qf×List Qa×Bool=>z.2.2) h) (by simp)
 ·rw[h,<-h2,(Qy1 h1).2]
abbrev QlX:Type:=Int×Int×Int×Int×Int×(List Int)×Int×(List Int)×(List Int)×(List Qf)×(List Qa)×(List Qa)×Bool
def QfM:QlX:=(0,0,0,0,0,[],0,[],[],[],[],[],false)
def QcR (m:QS):QlX:=(n12T m (true))
def bytesOf (m:QS):List Int:=Qbk m.1 m.2.1 m.2.2.1 m.2.2.2.1 m.2.2.2.2.1 m.2.2.2.2.2.1 m.2.2.2.2.2.2.1 m.2.2.2.2.2.2.2.1 m.2.2.2.2.2.2.2.2.1 m.2.2.2.2.2.2.2.2.2.1 m.2.2.2.2.2.2.2.2.2.2.1 m.2.2.2.2.2.2.2.2.2.2.2
def Qrp (b:List Int) (m:QS) (bad:Bool):QlX:=bif !bad&&(Kc m&&X0 (QM (bytesOf m)) (QM b))then QcR m else QfM
def QGu (b:List Int):Option (QS×Bool)->QlX
 |none=>QfM
 |some r=>Qrp b r.1 r.2
structure Hd where
 a0:Int
 a1:Int
 a2:Int
 a3:Int
 a4:Int
 a5:List Int
 a6:Int
 a7:List Int
 a8:List Int
 n:Int
 p:Int
 bad:Bool
def hi1 (c:List Int):Int×Int×Bool:=rnum c 2 false
def hi2 (c:List Int):Int×Int×Bool:=rnum c (hi1 c).2.1 (hi1 c).2.2
def hi3 (c:List Int):Int×Int×Bool:=rnum c (hi2 c).2.1 (hi2 c).2.2
def hi4 (c:List Int):Int×Int×Bool:=rnum c (hi3 c).2.1 (hi3 c).2.2
def hi5 (c:List Int):Int×Int×Bool:=rnum c (hi4 c).2.1 (hi4 c).2.2
def hi6 (c:List Int):List Int×Int×Bool:=rnums c (hi5 c).2.1 (hi5 c).2.2 4
def hi7 (c:List Int):Int×Int×Bool:=rnum c (hi6 c).2.1 (hi6 c).2.2
def hi8 (c:List Int):List Int×Int×Bool:=rnums c (hi7 c).2.1 (hi7 c).2.2 5
def hi9 (c:List Int):List Int×Int×Bool:=rnums c (hi8 c).2.1 (hi8 c).2.2 4
def Xf (c:List Int):Int×Int×Bool:=rnum c (hi9 c).2.1 (hi9 c).2.2
def hdI (c:List Int):Hd:=⟨(hi1 c).1,(hi2 c).1,(hi3 c).1,(hi4 c).1,(hi5 c).1,(hi6 c).1,(hi7 c).1,(hi8 c).1,(hi9 c).1,(Xf c).1,(Xf c).2.1,(Xf c).2.2⟩
def hs1 (c:List Int):Int×Int×Bool:=rnum c 2 false
def hs2 (c:List Int):Int×Int×Bool:=rnum c (hs1 c).2.1 (hs1 c).2.2
def hs3 (c:List Int):Int×Int×Bool:=rnum c (hs2 c).2.1 (hs2 c).2.2
def hs4 (c:List Int):Int×Int×Bool:=rnum c (hs3 c).2.1 (hs3 c).2.2
def hs5 (c:List Int):Int×Int×Bool:=rnum c (hs4 c).2.1 (hs4 c).2.2
def hs6 (c:List Int):List Int×Int×Bool:=rmany c (hs5 c).2.1 (hs5 c).2.2 1
def hs7 (c:List Int):Int×Int×Bool:=rnum c (hs6 c).2.1 (hs6 c).2.2
def hs8 (c:List Int):List Int×Int×Bool:=rmany c (hs7 c).2.1 (hs7 c).2.2 1
def hs9 (c:List Int):List Int×Int×Bool:=rmany c (hs8 c).2.1 (hs8 c).2.2 1
def Xm (c:List Int):Int×Int×Bool:=rnum c (hs9 c).2.1 (hs9 c).2.2
def hdS (c:List Int):Hd:=⟨(hs1 c).1,(hs2 c).1,(hs3 c).1,(hs4 c).1,(hs5 c).1,(hs6 c).1,(hs7 c).1,(hs8 c).1,(hs9 c).1,(Xm c).1,(Xm c).2.1,(Xm c).2.2⟩
def body (b:List Int):List Int:=List.take ((b.length:Int) - 4).toNat b
def cut (b:List Int) (p n:Int):List Int:=List.take n.toNat (List.drop p.toNat b)
def QFt (b:List Int) (h:Hd):Option (QS×Bool):=bif h.bad then none else(bif decide ((b.length:Int) - 4 - h.p<h.n)then none else(bif (stI (cut b h.p h.n)).2.2 then
 some ((h.a0,h.a1,h.a2,h.a3,h.a4,h.a5,h.a6,h.a7,h.a8,(stI (cut b h.p h.n)).1,(stI (cut b h.p h.n)).2.1,(rfloors (body b) (rcount (body b) (h.p+h.n) h.bad 5).1.toNat (rcount (body b) (h.p+h.n) h.bad 5).2.1 (rcount (body b) (h.p+h.n) h.bad 5).2.2).1),(rfloors (body b) (rcount (body b) (h.p+h.n) h.bad 5).1.toNat (rcount (body b) (h.p+h.n) h.bad 5).2.1 (rcount (body b) (h.p+h.n) h.bad 5).2.2).2.2)else none))
def QGg (b:List Int) (h:Hd):Option (QS×Bool):=bif h.bad then none else(bif decide ((b.length:Int) - 4 - h.p<h.n)then none else
 some ((h.a0,h.a1,h.a2,h.a3,h.a4,h.a5,h.a6,h.a7,h.a8,(stS (cut (body b) h.p h.n)).1,(stS (cut (body b) h.p h.n)).2.1,pairs (rmany (body b) (h.p+h.n) h.bad 2).1),(rmany (body b) (h.p+h.n) h.bad 2).2.2|| !(stS (cut (body b) h.p h.n)).2.2))
def QnX (b:List Int):QlX:=bif decide ((b.length:Int) - 4<2)then QfM else(bif X0 (QM (List.take 2 b)) (⟨#[82,75]⟩:ByteArray)then QGu b (QFt b (hdI (body b)))else QfM)
def Qq0 (b:List Int):QlX:=bif decide ((b.length:Int)<6)then QfM else(bif X0 (QM (JK (crc (body b)))) (QM (List.drop ((b.length:Int) - 4).toNat b))then QGu b (QGg b (hdS (body b)))else QfM)
theorem QEt {b:List Int}(h:Bs b):Bs (body b):=⟨fun x hx=>h.isb x (List.mem_of_mem_take hx),by have:=h.len;unfold body;rw[QY26];omega⟩
theorem QCo {b:List Int}(h:6<=b.length):(body b).length=b.length - 4:=by unfold body;rw[QY26];omega
theorem Qvb {b:List Int}(h:Bs b) (p n:Int):Bs (cut b p n):=⟨fun x hx=>h.isb x (List.mem_of_mem_drop (List.mem_of_mem_take hx)),by have:=h.len;unfold cut;rw[QY26,QY7];omega⟩
theorem QEG {c:List Int}(h:Bs c) (h2:2<=c.length):Pos c (hi1 c).2.1/\Pos c (hi2 c).2.1/\Pos c (hi3 c).2.1/\Pos c (hi4 c).2.1/\Pos c (hi5 c).2.1/\Pos c (hi6 c).2.1/\Pos c (hi7 c).2.1/\Pos c (hi8 c).2.1/\Pos c (hi9 c).2.1/\Pos c (Xf c).2.1/\0<=(Xf c).1/\(Xf c).1<=2147483647/\(hi6 c).1.length<=4/\(hi8 c).1.length<=5/\(hi9 c).1.length<=4:=by
 have k0:Pos c 2:=⟨2,rfl,h2⟩
 have k1:Pos c (hi1 c).2.1/\0<=(hi1 c).1/\(hi1 c).1<=2147483647:=QU h k0 _
 have k2:Pos c (hi2 c).2.1/\0<=(hi2 c).1/\(hi2 c).1<=2147483647:=QU h k1.1 _
 have k3:Pos c (hi3 c).2.1/\0<=(hi3 c).1/\(hi3 c).1<=2147483647:=QU h k2.1 _
 have k4:Pos c (hi4 c).2.1/\0<=(hi4 c).1/\(hi4 c).1<=2147483647:=QU h k3.1 _
 have k5:Pos c (hi5 c).2.1/\0<=(hi5 c).1/\(hi5 c).1<=2147483647:=QU h k4.1 _
 have k6:Pos c (hi6 c).2.1/\(hi6 c).1.length<=4:=⟨(QbG h k5.1 _ (by omega)).1,Int.ofNat_le.1 (QbG h k5.1 _ (by omega)).2⟩
 have k7:Pos c (hi7 c).2.1/\0<=(hi7 c).1/\(hi7 c).1<=2147483647:=QU h k6.1 _
 have k8:Pos c (hi8 c).2.1/\(hi8 c).1.length<=5:=⟨(QbG h k7.1 _ (by omega)).1,Int.ofNat_le.1 (QbG h k7.1 _ (by omega)).2⟩
 have k9:Pos c (hi9 c).2.1/\(hi9 c).1.length<=4:=⟨(QbG h k8.1 _ (by omega)).1,Int.ofNat_le.1 (QbG h k8.1 _ (by omega)).2⟩
 have k10:Pos c (Xf c).2.1/\0<=(Xf c).1/\(Xf c).1<=2147483647:=QU h k9.1 _
 exact⟨k1.1,k2.1,k3.1,k4.1,k5.1,k6.1,k7.1,k8.1,k9.1,k10.1,k10.2.1,k10.2.2,k6.2,k8.2,k9.2⟩
theorem QMu {c:List Int}(h:Bs c) (h2:2<=c.length):QE w (c,2,false)=some (hi1 c)/\QE w (c,(hi1 c).2)=some (hi2 c)/\QE w (c,(hi2 c).2)=some (hi3 c)/\QE w (c,(hi3 c).2)=some (hi4 c)/\QE w (c,(hi4 c).2)=some (hi5 c)/\Zj w (c,(hi5 c).2.1,(hi5 c).2.2,4)=some (hi6 c)/\QE w (c,(hi6 c).2)=some (hi7 c)/\Zj w (c,(hi7 c).2.1,(hi7 c).2.2,5)=some (hi8 c)/\Zj w (c,(hi8 c).2.1,(hi8 c).2.2,4)=some (hi9 c)/\QE w (c,(hi9 c).2)=some (Xf c):=by
 obtain⟨k1,k2,k3,k4,k5,k6,k7,k8,k9,k10,_⟩:=QEG h h2
 have k0:Pos c 2:=⟨2,rfl,h2⟩
 exact⟨QkY h k0 false,QaY h _ k1,QaY h _ k2,QaY h _ k3,QaY h _ k4,QxU h k5 _ _ (by omega) (by omega),QaY h _ k6,QxU h k7 _ _ (by omega) (by omega),QxU h k8 _ _ (by omega) (by omega),QaY h _ k9⟩
theorem QE0 {c:List Int}(h:Bs c) (h2:2<=c.length):Pos c (hs1 c).2.1/\Pos c (hs2 c).2.1/\Pos c (hs3 c).2.1/\Pos c (hs4 c).2.1/\Pos c (hs5 c).2.1/\Pos c (hs6 c).2.1/\Pos c (hs7 c).2.1/\Pos c (hs8 c).2.1/\Pos c (hs9 c).2.1/\Pos c (Xm c).2.1/\0<=(Xm c).1/\(Xm c).1<=2147483647/\(hs6 c).1.length<=200/\(hs8 c).1.length<=200/\(hs9 c).1.length<=200:=by
 have k0:Pos c 2:=⟨2,rfl,h2⟩
 have k1:Pos c (hs1 c).2.1/\0<=(hs1 c).1/\(hs1 c).1<=2147483647:=QU h k0 _
 have k2:Pos c (hs2 c).2.1/\0<=(hs2 c).1/\(hs2 c).1<=2147483647:=QU h k1.1 _
 have k3:Pos c (hs3 c).2.1/\0<=(hs3 c).1/\(hs3 c).1<=2147483647:=QU h k2.1 _
 have k4:Pos c (hs4 c).2.1/\0<=(hs4 c).1/\(hs4 c).1<=2147483647:=QU h k3.1 _
 have k5:Pos c (hs5 c).2.1/\0<=(hs5 c).1/\(hs5 c).1<=2147483647:=QU h k4.1 _
 have k6:Pos c (hs6 c).2.1/\(hs6 c).1.length<=200:=QgX h k5.1 _ 1 (by omega)
 have k7:Pos c (hs7 c).2.1/\0<=(hs7 c).1/\(hs7 c).1<=2147483647:=QU h k6.1 _
 have k8:Pos c (hs8 c).2.1/\(hs8 c).1.length<=200:=QgX h k7.1 _ 1 (by omega)
 have k9:Pos c (hs9 c).2.1/\(hs9 c).1.length<=200:=QgX h k8.1 _ 1 (by omega)
 have k10:Pos c (Xm c).2.1/\0<=(Xm c).1/\(Xm c).1<=2147483647:=QU h k9.1 _
 exact⟨k1.1,k2.1,k3.1,k4.1,k5.1,k6.1,k7.1,k8.1,k9.1,k10.1,k10.2.1,k10.2.2,k6.2,k8.2,k9.2⟩
theorem QMe {c:List Int}(h:Bs c) (h2:2<=c.length):Q6 w (c,2,false)=some (hs1 c)/\Q6 w (c,(hs1 c).2)=some (hs2 c)/\Q6 w (c,(hs2 c).2)=some (hs3 c)/\Q6 w (c,(hs3 c).2)=some (hs4 c)/\Q6 w (c,(hs4 c).2)=some (hs5 c)/\Za w (c,(hs5 c).2.1,(hs5 c).2.2,1)=some (hs6 c)/\Q6 w (c,(hs6 c).2)=some (hs7 c)/\Za w (c,(hs7 c).2.1,(hs7 c).2.2,1)=some (hs8 c)/\Za w (c,(hs8 c).2.1,(hs8 c).2.2,1)=some (hs9 c)/\Q6 w (c,(hs9 c).2)=some (Xm c):=by
 obtain⟨k1,k2,k3,k4,k5,k6,k7,k8,k9,k10,_⟩:=QE0 h h2
 have k0:Pos c 2:=⟨2,rfl,h2⟩
 exact⟨QjS h k0 false,QaD h _ k1,QaD h _ k2,QaD h _ k3,QaD h _ k4,Qpf h k5 _ 1 (by omega) (by omega),QaD h _ k6,Qpf h k7 _ 1 (by omega) (by omega),Qpf h k8 _ 1 (by omega) (by omega),QaD h _ k9⟩
theorem QIF (r:Int):isB (JK r):=fun x hx=>by
 simp only[JK,QRk,List.not_mem_nil,or_false]at hx
 rcases hx with rfl|rfl|rfl|rfl<;>exact wrap_u8 _
theorem QQQ (bad ok eq:Bool) (r z:QlX):(bif bad then some z else(bif !ok then some z else(bif !eq then some z else some r)))=some (bif !bad&&(ok&&eq)then r else z):=by
 cases bad<;>cases ok<;>cases eq<;>rfl
theorem QRK (so bad ok eq:Bool) (r z:QlX):(bif !so then some z else(bif bad then some z else(bif !ok then some z else(bif !eq then some z else some r))))=some (bif !(bad|| !so)&&(ok&&eq)then r else z):=by
 cases so<;>cases bad<;>cases ok<;>cases eq<;>rfl
theorem QE3 {b:List Int}(hb:isB b):(stI b).1.length<=5/\(stI b).2.1.length<=5:=by
 rcases QHe hb with h|⟨s,h,h1,_⟩
 ·rw[h];simp
 ·rw[h];exact Kl h1
theorem QLF {b:List Int}(hb:isB b):(stS b).1.length<=5/\(stS b).2.1.length<=5:=by rw[QLg hb];exact QE3 hb
theorem QFT {c:List Int}(h:Bs c) (b:List Int) (n:Nat) (hn:n<=5) (a0 a1 a2 a3 a4:Int) (a5:List Int) (a6:Int) (a7 a8:List Int) (a9:List Qf) (a10:List Qa):(m i:Nat)->(p:Int)->(bad:Bool)->(out:List Qa)->i+m=n->out.length=i->Pos c p->JR wl (b,(n:Int),(i:Int),a0,a1,a2,a3,a4,a5,a6,a7,a8,a9,a10,out,c,p,bad)=some (b,a0,a1,a2,a3,a4,a5,a6,a7,a8,a9,a10,out++(rfloors c m p bad).1,c,(rfloors c m p bad).2):=by
 intro m
 induction m with
 |zero=>
  intro i p bad out hi ho hp
  apply Qlb
  simp only[Qil,df (show¬(i:Int)<(n:Int) by omega),QQ2,rfloors,QY11]
 |succ m ih=>
  intro i p bad out hi ho hp
  apply Qlb
  have h2:=(QU h hp bad).1
  simp only[Qil,dt (show(i:Int)<(n:Int) by omega),QkY h hp,QQ0,QaY h _ h2,w64 (n:=(i:Int)+1) (by omega) (by omega),QQ1]
  rw[Qu (by simp;omega),QQ1]
  have:=ih (i+1) _ (rfloor c p bad).2.2 (out++[(rfloor c p bad).1]) (by omega) (by simp[ho]) (Qqt h hp bad)
  rw[show(i:Int)+1=((i+1:Nat):Int) by omega]
  refine this.trans ?_
  simp only[rfloors,QRc,QRv,QRe]
theorem QEx (b:List Int) (a0 a1 a2 a3 a4:Int) (a5:List Int) (a6:Int) (a7 a8:List Int) (n p:Int) (bad:Bool):QFt b ⟨a0,a1,a2,a3,a4,a5,a6,a7,a8,n,p,bad⟩=bif bad then none else(bif decide ((b.length:Int) - 4 - p<n)then none else(bif (stI (cut b p n)).2.2 then
 some ((a0,a1,a2,a3,a4,a5,a6,a7,a8,(stI (cut b p n)).1,(stI (cut b p n)).2.1,(rfloors (body b) (rcount (body b) (p+n) bad 5).1.toNat (rcount (body b) (p+n) bad 5).2.1 (rcount (body b) (p+n) bad 5).2.2).1),(rfloors (body b) (rcount (body b) (p+n) bad 5).1.toNat (rcount (body b) (p+n) bad 5).2.1 (rcount (body b) (p+n) bad 5).2.2).2.2)else none)):=by unfold QFt;rfl
theorem QEN (b:List Int) (a0 a1 a2 a3 a4:Int) (a5:List Int) (a6:Int) (a7 a8:List Int) (n p:Int) (bad:Bool):QGg b ⟨a0,a1,a2,a3,a4,a5,a6,a7,a8,n,p,bad⟩=bif bad then none else(bif decide ((b.length:Int) - 4 - p<n)then none else
 some ((a0,a1,a2,a3,a4,a5,a6,a7,a8,(stS (cut (body b) p n)).1,(stS (cut (body b) p n)).2.1,pairs (rmany (body b) (p+n) bad 2).1),(rmany (body b) (p+n) bad 2).2.2|| !(stS (cut (body b) p n)).2.2)):=by unfold QGg;rfl
set_option maxHeartbeats 2000000 in
theorem QIB {b:List Int}(h:Bs b):QjI w b=some (QnX b):=by
 apply Qz8
 have hl:=h.len
 simp only[Qo6,w64 (n:=(b.length:Int) - 4) (by omega) (by omega),QnX]
 by_cases h6:(b.length:Int) - 4<2
 ·simp only[dt h6,QQ1];rfl
 have hb6:6<=b.length:=by omega
 have eb:List.take (Int.toNat ((b.length:Int) - 4 - 0)) (List.drop (Int.toNat 0) b)=body b:=by simp only[Int.sub_zero,Int.toNat_zero,QRg,body]
 have e2:List.take (Int.toNat (2 - 0)) (List.drop (Int.toNat 0) b)=List.take 2 b:=rfl
 simp only[df h6,QQ2,dt (show(0:Int)<=0/\0<=(2:Int)/\2<=(b.length:Int) by omega),QQ1,dt (show(0:Int)<=0/\0<=(b.length:Int) - 4/\(b.length:Int) - 4<=(b.length:Int) by omega),eb,e2]
 cases X0 (QM (List.take 2 b)) (⟨#[82,75]⟩:ByteArray)
 ·rfl
 have hc:=QEt h
 have hcl:=QCo hb6
 obtain⟨q1,q2,q3,q4,q5,q6,q7,q8,q9,q10⟩:=QMu hc (by omega)
 obtain⟨_,_,_,_,_,_,_,_,_,k10,hn0,hn1,l6,l8,l9⟩:=QEG hc (by omega)
 simp only[QQ3,QQ2,q1,q2,q3,q4,q5,q6,q7,q8,q9,q10,QQ0,QQ1]
 obtain⟨k,hk,hkl⟩:=k10
 simp only[hdI,QEx]
 cases hbad:(Xf (body b)).2.2
 ·simp only[QQ2,w64 (n:=(b.length:Int) - 4 - (Xf (body b)).2.1) (by omega) (by omega)]
  by_cases hlt:(b.length:Int) - 4 - (Xf (body b)).2.1<(Xf (body b)).1
  ·simp only[dt hlt,QQ1];rfl
  have hP:Pos (body b) ((Xf (body b)).2.1+(Xf (body b)).1):=⟨((Xf (body b)).2.1+(Xf (body b)).1).toNat,by omega,by omega⟩
  have ec:List.take (Int.toNat ((Xf (body b)).2.1+(Xf (body b)).1 - (Xf (body b)).2.1)) (List.drop (Int.toNat (Xf (body b)).2.1) b)=cut b (Xf (body b)).2.1 (Xf (body b)).1:=by
   unfold cut;congr 2;omega
  simp only[df hlt,QQ2,w64 (n:=(Xf (body b)).2.1+(Xf (body b)).1) (by omega) (by omega),dt (show(0:Int)<=(Xf (body b)).2.1/\(Xf (body b)).2.1<=(Xf (body b)).2.1+(Xf (body b)).1/\(Xf (body b)).2.1+(Xf (body b)).1<=(b.length:Int) by omega),QQ1,ec,QFH (Qvb h _ _),QQ0]
  cases(stI (cut b (Xf (body b)).2.1 (Xf (body b)).1)).2.2
  ·rfl
  have k1:=Qca hc hP false (most:=5) (by omega)
  simp only[QQ3,QQ2,QQ1,Qqf hc hP,QQ0]
  obtain⟨n,hn⟩:∃n:Nat,(rcount (body b) ((Xf (body b)).2.1+(Xf (body b)).1) false 5).1=(n:Int):=⟨(rcount (body b) ((Xf (body b)).2.1+(Xf (body b)).1) false 5).1.toNat,by omega⟩
  have e1:=QFT hc b n (by omega) (hi1 (body b)).1 (hi2 (body b)).1 (hi3 (body b)).1 (hi4 (body b)).1 (hi5 (body b)).1 (hi6 (body b)).1 (hi7 (body b)).1 (hi8 (body b)).1 (hi9 (body b)).1 (stI (cut b (Xf (body b)).2.1 (Xf (body b)).1)).1 (stI (cut b (Xf (body b)).2.1 (Xf (body b)).1)).2.1 n 0 (rcount (body b) ((Xf (body b)).2.1+(Xf (body b)).1) false 5).2.1 (rcount (body b) ((Xf (body b)).2.1+(Xf (body b)).1) false 5).2.2 [] (by omega) rfl k1.1
  have k4:=Qok hc n (rcount (body b) ((Xf (body b)).2.1+(Xf (body b)).1) false 5).2.1 (rcount (body b) ((Xf (body b)).2.1+(Xf (body b)).1) false 5).2.2 k1.1
  simp only[QQ6,QRe]at e1
  simp only[hn,QRb]
  rw[show JR wl (b,(n:Int),0,(hi1 (body b)).1,(hi2 (body b)).1,(hi3 (body b)).1,(hi4 (body b)).1,(hi5 (body b)).1,(hi6 (body b)).1,(hi7 (body b)).1,(hi8 (body b)).1,(hi9 (body b)).1,(stI (cut b (Xf (body b)).2.1 (Xf (body b)).1)).1,(stI (cut b (Xf (body b)).2.1 (Xf (body b)).1)).2.1,[],body b,(rcount (body b) ((Xf (body b)).2.1+(Xf (body b)).1) false 5).2)=_ from e1]
  generalize rfloors (body b) n (rcount (body b) ((Xf (body b)).2.1+(Xf (body b)).1) false 5).2.1 (rcount (body b) ((Xf (body b)).2.1+(Xf (body b)).1) false 5).2.2=f at k4
  have hst:=QE3 (Qvb h (Xf (body b)).2.1 (Xf (body b)).1).isb
  have hm:smM (hi6 (body b)).1 (hi8 (body b)).1 (hi9 (body b)).1 (stI (cut b (Xf (body b)).2.1 (Xf (body b)).1)).1 (stI (cut b (Xf (body b)).2.1 (Xf (body b)).1)).2.1 f.1:=by
   simp only[smM,maxLen];omega
  simp only[QQ0,Qur _ _ _ _ _ _ _ _ _ _ _ _ hm,Qtb _ _ _ _ _ _ _ _ _ _ _ _ hm,QBS]
  exact QQQ _ _ _ _ _
 ·rfl
theorem Qtp (b c full:List Int) (so:Bool) (a0 a1 a2 a3 a4:Int) (a5:List Int) (a6:Int) (a7 a8:List Int) (a9:List Qf) (a10:List Qa) (r:Int×Bool) (hf:full.length<=200):(l:List Int)->(i:Nat)->(out:List Qa)->full.drop i=l->i<=full.length->out.length<=i->zV wl (b,so,(i:Int),a0,a1,a2,a3,a4,a5,a6,a7,a8,a9,a10,out,full,c,r)=some (b,so,a0,a1,a2,a3,a4,a5,a6,a7,a8,a9,a10,out++pairs l,c,r)
 | [],i,out,hd,hi,ho=>by
   have:full.length - i=0:=by rw[<-QY7,hd];rfl
   apply Qbj
   simp only[QaX,w64 (n:=(i:Int)+1) (by omega) (by omega),df (show¬(i:Int)+1<(full.length:Int) by omega),QQ2,pairs,QY11]
 | [x],i,out,hd,hi,ho=>by
   have:full.length - i=1:=by rw[<-QY7,hd];rfl
   apply Qbj
   simp only[QaX,w64 (n:=(i:Int)+1) (by omega) (by omega),df (show¬(i:Int)+1<(full.length:Int) by omega),QQ2,pairs,QY11]
 |x::y::l,i,out,hd,hi,ho=>by
  have hlen:full.length - i=l.length+2:=by rw[<-QY7,hd];rfl
  have hx:rd1 (0:Int) full (i:Int)=x:=by
   rw[Qg (show i<full.length by omega)]
   have:=QRa (show i<full.length by omega)
   rw[hd]at this
   exact(List.cons.inj this).1.symm
  have hd1:full.drop (i+1)=y::l:=by
   have:=QRa (show i<full.length by omega)
   rw[hd]at this
   exact(List.cons.inj this).2.symm
  have hy:rd1 (0:Int) full ((i+1:Nat):Int)=y:=by
   rw[Qg (show i+1<full.length by omega)]
   have:=QRa (show i+1<full.length by omega)
   rw[hd1]at this
   exact(List.cons.inj this).1.symm
  have hd2:full.drop (i+2)=l:=by
   have:=QRa (show i+1<full.length by omega)
   rw[hd1]at this
   exact(List.cons.inj this).2.symm
  have ih:=Qtp b c full so a0 a1 a2 a3 a4 a5 a6 a7 a8 a9 a10 r hf l (i+2) (out++[(x,y)]) hd2 (by omega) (by simp;omega)
  apply Qbj
  simp only[QaX,w64 (n:=((i+1:Nat):Int)) (by omega) (by omega),w64 (n:=(i:Int)+2) (by omega) (by omega),dt (show((i+1:Nat):Int)<(full.length:Int) by omega),QQ1,Qj (show i<full.length by omega),show(i:Int)+1=((i+1:Nat):Int) by omega,Qj (show i+1<full.length by omega),hx,hy]
  rw[Qu (by simp;omega),QQ1,show(i:Int)+2=((i+2:Nat):Int) by omega,ih]
  simp only[pairs,QRc,QRv,QRe]
set_option maxHeartbeats 2000000 in
theorem QHU {b:List Int}(h:Bs b):QjE w b=some (Qq0 b):=by
 apply QAg
 have hl:=h.len
 simp only[QoF,w64 (n:=(b.length:Int) - 4) (by omega) (by omega),Qq0]
 by_cases h6:(b.length:Int)<6
 ·simp only[dt h6,QQ1];rfl
 have hb6:6<=b.length:=by omega
 have eb:List.take (Int.toNat ((b.length:Int) - 4 - 0)) (List.drop (Int.toNat 0) b)=body b:=by simp only[Int.sub_zero,Int.toNat_zero,QRg,body]
 have e2:List.take (Int.toNat ((b.length:Int) - ((b.length:Int) - 4))) (List.drop (Int.toNat ((b.length:Int) - 4)) b)=List.drop ((b.length:Int) - 4).toNat b:=List.take_of_length_le (by rw[QY7];omega)
 have hc:=QEt h
 have hcl:=QCo hb6
 have hcl2:((body b).length:Int)=(b.length:Int) - 4:=by omega
 simp only[df h6,QQ2,QQ1,dt (show(0:Int)<=0/\0<=(b.length:Int) - 4/\(b.length:Int) - 4<=(b.length:Int) by omega),dt (show(0:Int)<=(b.length:Int) - 4/\(b.length:Int) - 4<=(b.length:Int)/\(b.length:Int)<=(b.length:Int) by omega),eb,e2,QzH (body b) (by simp only[maxLen];omega) hc.isb,QQ0]
 cases X0 (QM (JK (crc (body b)))) (QM (List.drop ((b.length:Int) - 4).toNat b))
 ·rfl
 obtain⟨q1,q2,q3,q4,q5,q6,q7,q8,q9,q10⟩:=QMe hc (by omega)
 obtain⟨_,_,_,_,_,_,_,_,_,k10,hn0,hn1,l6,l8,l9⟩:=QE0 hc (by omega)
 simp only[QQ3,QQ2,q1,q2,q3,q4,q5,q6,q7,q8,q9,q10,QQ0,QQ1]
 obtain⟨k,hk,hkl⟩:=k10
 simp only[hdS,QEN]
 cases hbad:(Xm (body b)).2.2
 ·simp only[QQ2,hcl2,w64 (n:=(b.length:Int) - 4 - (Xm (body b)).2.1) (by omega) (by omega)]
  by_cases hlt:(b.length:Int) - 4 - (Xm (body b)).2.1<(Xm (body b)).1
  ·simp only[dt hlt,QQ1];rfl
  have hP:Pos (body b) ((Xm (body b)).2.1+(Xm (body b)).1):=⟨((Xm (body b)).2.1+(Xm (body b)).1).toNat,by omega,by omega⟩
  have ec:List.take (Int.toNat ((Xm (body b)).2.1+(Xm (body b)).1 - (Xm (body b)).2.1)) (List.drop (Int.toNat (Xm (body b)).2.1) (body b))=cut (body b) (Xm (body b)).2.1 (Xm (body b)).1:=by
   unfold cut;congr 2;omega
  have k2:=QgX hc hP false 2 (by omega)
  have hm2:Za w (body b,(Xm (body b)).2.1+(Xm (body b)).1,false,2)=some (rmany (body b) ((Xm (body b)).2.1+(Xm (body b)).1) false 2):=Qpf hc hP false 2 (by omega) (by omega)
  simp only[df hlt,QQ2,w64 (n:=(Xm (body b)).2.1+(Xm (body b)).1) (by omega) (by omega),dt (show(0:Int)<=(Xm (body b)).2.1/\(Xm (body b)).2.1<=(Xm (body b)).2.1+(Xm (body b)).1/\(Xm (body b)).2.1+(Xm (body b)).1<=(b.length:Int) - 4 by omega),QQ1,ec,QDC (Qvb hc _ _),hm2,QQ0]
  have e1:=Qtp b (body b) (rmany (body b) ((Xm (body b)).2.1+(Xm (body b)).1) false 2).1 (stS (cut (body b) (Xm (body b)).2.1 (Xm (body b)).1)).2.2 (hs1 (body b)).1 (hs2 (body b)).1 (hs3 (body b)).1 (hs4 (body b)).1 (hs5 (body b)).1 (hs6 (body b)).1 (hs7 (body b)).1 (hs8 (body b)).1 (hs9 (body b)).1 (stS (cut (body b) (Xm (body b)).2.1 (Xm (body b)).1)).1 (stS (cut (body b) (Xm (body b)).2.1 (Xm (body b)).1)).2.1 (rmany (body b) ((Xm (body b)).2.1+(Xm (body b)).1) false 2).2 k2.2 _ 0 [] rfl (by omega) (by simp)
  simp only[QQ6,QRe,QRg]at e1
  rw[e1]
  have hpl:=Qro (rmany (body b) ((Xm (body b)).2.1+(Xm (body b)).1) false 2).1
  generalize rmany (body b) ((Xm (body b)).2.1+(Xm (body b)).1) false 2=f at k2 hpl
  have hst:=QLF (Qvb hc (Xm (body b)).2.1 (Xm (body b)).1).isb
  have hm:smM (hs6 (body b)).1 (hs8 (body b)).1 (hs9 (body b)).1 (stS (cut (body b) (Xm (body b)).2.1 (Xm (body b)).1)).1 (stS (cut (body b) (Xm (body b)).2.1 (Xm (body b)).1)).2.1 (pairs f.1):=by
   simp only[smM,maxLen];omega
  simp only[QQ0,QqW _ _ _ _ _ _ _ _ _ _ _ _ hm,Qra _ _ _ _ _ _ _ _ _ _ _ _ hm]
  exact QRK _ _ _ _ _ _
 ·rfl
theorem QF7 {m:QS}(h:Kc m=true):bytesOf m=X5 m.1 m.2.1 m.2.2.1 m.2.2.2.1 m.2.2.2.2.1 m.2.2.2.2.2.1 m.2.2.2.2.2.2.1 m.2.2.2.2.2.2.2.1 m.2.2.2.2.2.2.2.2.1 m.2.2.2.2.2.2.2.2.2.1 m.2.2.2.2.2.2.2.2.2.2.1 m.2.2.2.2.2.2.2.2.2.2.2++JK (crc (X5 m.1 m.2.1 m.2.2.1 m.2.2.2.1 m.2.2.2.2.1 m.2.2.2.2.2.1 m.2.2.2.2.2.2.1 m.2.2.2.2.2.2.2.1 m.2.2.2.2.2.2.2.2.1 m.2.2.2.2.2.2.2.2.2.1 m.2.2.2.2.2.2.2.2.2.2.1 m.2.2.2.2.2.2.2.2.2.2.2)):=by
 unfold bytesOf Qbk
 rw[show yY m.1 m.2.1 m.2.2.1 m.2.2.2.1 m.2.2.2.2.1 m.2.2.2.2.2.1 m.2.2.2.2.2.2.1 m.2.2.2.2.2.2.2.1 m.2.2.2.2.2.2.2.2.1 m.2.2.2.2.2.2.2.2.2.1 m.2.2.2.2.2.2.2.2.2.2.1 m.2.2.2.2.2.2.2.2.2.2.2=true from h];rfl
theorem QDf (m:QS):isB (bytesOf m):=by
 unfold bytesOf Qbk
 cases yY m.1 m.2.1 m.2.2.1 m.2.2.2.1 m.2.2.2.2.1 m.2.2.2.2.2.1 m.2.2.2.2.2.2.1 m.2.2.2.2.2.2.2.1 m.2.2.2.2.2.2.2.2.1 m.2.2.2.2.2.2.2.2.2.1 m.2.2.2.2.2.2.2.2.2.2.1 m.2.2.2.2.2.2.2.2.2.2.2
 ·intro x hx;simp at hx
 ·exact Q8 (Q8 (Qtc _ _ _ _ _ _ _ _ _ _ _ _) (QkO _ Qpw _)) (QIF _)
theorem Qun {l:List Int}{hi:Int}(h:∀x∈l,inR x 0 hi=true) (hh:hi<=2147483647):∀x∈l,inN x:=fun x hx=>by
 have:=Xg.1 (h x hx)
 unfold inN;omega
theorem QLp {p:Int}{l:List Int}(h:okL p l=true):∀x∈l,inR x 0 3=true:=by
 rw[Qv3,QQ5,QRt]at h
 exact h.1
theorem QJ0 {l:List Int}{r:Int}(h:ji (l,r)=true):(∀x∈l,inN x)/\0<=r/\r<=1023:=by
 unfold ji at h
 by_cases h0:((l.length:Nat):Int)=0
 ·simp only[dt h0,QQ1,QRu]at h
  have:l=[]:=List.length_eq_zero_iff.1 (by omega)
  rw[this]
  exact⟨by simp,by omega⟩
 ·simp only[df h0,QQ2,QQ5,QRt]at h
  exact⟨Qun h.1.1 (by omega),Xg.1 h.2⟩
theorem QKe {m:QS}(h:Kc m=true) {c:List Int}(hc:c=X5 m.1 m.2.1 m.2.2.1 m.2.2.2.1 m.2.2.2.2.1 m.2.2.2.2.2.1 m.2.2.2.2.2.2.1 m.2.2.2.2.2.2.2.1 m.2.2.2.2.2.2.2.2.1 m.2.2.2.2.2.2.2.2.2.1 m.2.2.2.2.2.2.2.2.2.2.1 m.2.2.2.2.2.2.2.2.2.2.2):∃p,hdI c=⟨m.1,m.2.1,m.2.2.1,m.2.2.2.1,m.2.2.2.2.1,m.2.2.2.2.2.1,m.2.2.2.2.2.2.1,m.2.2.2.2.2.2.2.1,m.2.2.2.2.2.2.2.2.1,(((stB (m.2.2.2.2.2.2.2.2.2.1,m.2.2.2.2.2.2.2.2.2.2.1)).length:Nat):Int),p,false⟩/\hdS c=⟨m.1,m.2.1,m.2.2.1,m.2.2.2.1,m.2.2.2.2.1,m.2.2.2.2.2.1,m.2.2.2.2.2.2.1,m.2.2.2.2.2.2.2.1,m.2.2.2.2.2.2.2.2.1,(((stB (m.2.2.2.2.2.2.2.2.2.1,m.2.2.2.2.2.2.2.2.2.2.1)).length:Nat):Int),p,false⟩/\Enc c p (stB (m.2.2.2.2.2.2.2.2.2.1,m.2.2.2.2.2.2.2.2.2.2.1)++(Ql (m.2.2.2.2.2.2.2.2.2.2.2.length:Nat)++(m.2.2.2.2.2.2.2.2.2.2.2.flatMap Xp++[]))):=by
 have ok:=mok h
 have hsm:=QkQ m.1 m.2.1 m.2.2.1 m.2.2.2.1 m.2.2.2.2.1 m.2.2.2.2.2.1 m.2.2.2.2.2.2.1 m.2.2.2.2.2.2.2.1 m.2.2.2.2.2.2.2.2.1 m.2.2.2.2.2.2.2.2.2.1 m.2.2.2.2.2.2.2.2.2.2.1 m.2.2.2.2.2.2.2.2.2.2.2 h
 have r0:=Xg.1 ok.kind
 have r1:=Xg.1 ok.src
 have r2:=Xg.1 ok.dst
 have r3:=Xg.1 ok.num
 have r4:=Xg.1 ok.hi
 have r7:=Qun ok.vec (by omega)
 have r8:=Qun (QLp ok.lv) (show(3:Int)<=2147483647 by omega)
 obtain⟨r5,r6⟩:=QJ0 ok.tree
 have ln:=Qsp (jN ok.part)
 have hE:Enc c 2 (Ql m.1++(Ql m.2.1++(Ql m.2.2.1++(Ql m.2.2.2.1++(Ql m.2.2.2.2.1++(nums m.2.2.2.2.2.1++(Ql m.2.2.2.2.2.2.1++(nums m.2.2.2.2.2.2.2.1++(nums m.2.2.2.2.2.2.2.2.1++(Ql ((stB (m.2.2.2.2.2.2.2.2.2.1,m.2.2.2.2.2.2.2.2.2.2.1)).length:Nat)++(stB (m.2.2.2.2.2.2.2.2.2.1,m.2.2.2.2.2.2.2.2.2.2.1)++(Ql (m.2.2.2.2.2.2.2.2.2.2.2.length:Nat)++(m.2.2.2.2.2.2.2.2.2.2.2.flatMap Xp++[]))))))))))))):=by
  have:=Enc.skip (b:=c) (k:=0) (a:=[82,75]) (l:=Ql m.1++(Ql m.2.1++(Ql m.2.2.1++(Ql m.2.2.2.1++(Ql m.2.2.2.2.1++(nums m.2.2.2.2.2.1++(Ql m.2.2.2.2.2.2.1++(nums m.2.2.2.2.2.2.2.1++(nums m.2.2.2.2.2.2.2.2.1++(Ql ((stB (m.2.2.2.2.2.2.2.2.2.1,m.2.2.2.2.2.2.2.2.2.2.1)).length:Nat)++(stB (m.2.2.2.2.2.2.2.2.2.1,m.2.2.2.2.2.2.2.2.2.2.1)++(Ql (m.2.2.2.2.2.2.2.2.2.2.2.length:Nat)++(m.2.2.2.2.2.2.2.2.2.2.2.flatMap Xp++[]))))))))))))) (by
   rw[hc];simp only[X5,VW,QRc,QY11,QRg]) (by omega)
  exact this
 obtain⟨p1,e1,q1⟩:=XW hE (by omega) (by omega)
 obtain⟨p2,e2,q2⟩:=XW q1 (by omega) (by omega)
 obtain⟨p3,e3,q3⟩:=XW q2 (by omega) (by omega)
 obtain⟨p4,e4,q4⟩:=XW q3 (by omega) (by omega)
 obtain⟨p5,e5,q5⟩:=XW q4 (by omega) (by omega)
 obtain⟨p6,e6,q6⟩:=QrF (most:=4) r5 (by omega) (by omega) q5
 obtain⟨p7,e7,q7⟩:=XW q6 (by omega) (by omega)
 obtain⟨p8,e8,q8⟩:=QrF (most:=5) r7 (by omega) (by omega) q7
 obtain⟨p9,e9,q9⟩:=QrF (most:=4) r8 (by omega) (by omega) q8
 obtain⟨p10,e10,q10⟩:=XW q9 (by omega) (by omega)
 obtain⟨p6',f6,q6'⟩:=QgF 1 m.2.2.2.2.2.1.length r5 (by omega) (by omega) (show Enc c p5 (Ql (m.2.2.2.2.2.1.length:Nat)++(m.2.2.2.2.2.1.flatMap Ql++_)) by rw[<-QRc];exact q5)
 obtain⟨p7',f7,q7'⟩:=XW q6' (by omega) (by omega)
 obtain⟨p8',f8,q8'⟩:=QgF 1 m.2.2.2.2.2.2.2.1.length r7 (by omega) (by omega) (show Enc c p7' (Ql (m.2.2.2.2.2.2.2.1.length:Nat)++(m.2.2.2.2.2.2.2.1.flatMap Ql++_)) by rw[<-QRc];exact q7')
 obtain⟨p9',f9,q9'⟩:=QgF 1 m.2.2.2.2.2.2.2.2.1.length r8 (by omega) (by omega) (show Enc c p8' (Ql (m.2.2.2.2.2.2.2.2.1.length:Nat)++(m.2.2.2.2.2.2.2.2.1.flatMap Ql++_)) by rw[<-QRc];exact q8')
 obtain⟨p10',f10,q10'⟩:=XW q9' (by omega) (by omega)
 have g1:hi1 c=(m.1,p1,false):=e1
 have g2:hi2 c=(m.2.1,p2,false):=by unfold hi2;rw[g1];exact e2
 have g3:hi3 c=(m.2.2.1,p3,false):=by unfold hi3;rw[g2];exact e3
 have g4:hi4 c=(m.2.2.2.1,p4,false):=by unfold hi4;rw[g3];exact e4
 have g5:hi5 c=(m.2.2.2.2.1,p5,false):=by unfold hi5;rw[g4];exact e5
 have g6:hi6 c=(m.2.2.2.2.2.1,p6,false):=by unfold hi6;rw[g5];exact e6
 have g7:hi7 c=(m.2.2.2.2.2.2.1,p7,false):=by unfold hi7;rw[g6];exact e7
 have g8:hi8 c=(m.2.2.2.2.2.2.2.1,p8,false):=by unfold hi8;rw[g7];exact e8
 have g9:hi9 c=(m.2.2.2.2.2.2.2.2.1,p9,false):=by unfold hi9;rw[g8];exact e9
 have g10:Xf c=((((stB (m.2.2.2.2.2.2.2.2.2.1,m.2.2.2.2.2.2.2.2.2.2.1)).length:Nat):Int),p10,false):=by unfold Xf;rw[g9];exact e10
 have d1:hs1 c=(m.1,p1,false):=e1
 have d2:hs2 c=(m.2.1,p2,false):=by unfold hs2;rw[d1];exact e2
 have d3:hs3 c=(m.2.2.1,p3,false):=by unfold hs3;rw[d2];exact e3
 have d4:hs4 c=(m.2.2.2.1,p4,false):=by unfold hs4;rw[d3];exact e4
 have d5:hs5 c=(m.2.2.2.2.1,p5,false):=by unfold hs5;rw[d4];exact e5
 have d6:hs6 c=(m.2.2.2.2.2.1,p6',false):=by unfold hs6;rw[d5];exact f6
 have d7:hs7 c=(m.2.2.2.2.2.2.1,p7',false):=by unfold hs7;rw[d6];exact f7
 have d8:hs8 c=(m.2.2.2.2.2.2.2.1,p8',false):=by unfold hs8;rw[d7];exact f8
 have d9:hs9 c=(m.2.2.2.2.2.2.2.2.1,p9',false):=by unfold hs9;rw[d8];exact f9
 have d10:Xm c=((((stB (m.2.2.2.2.2.2.2.2.2.1,m.2.2.2.2.2.2.2.2.2.2.1)).length:Nat):Int),p10',false):=by unfold Xm;rw[d9];exact f10
 have hp:p10'=p10:=by
  obtain⟨k,rfl,hk,ek⟩:=q10
  obtain⟨k',rfl,hk',ek'⟩:=q10'
  have:=congrArg List.length (ek.trans ek'.symm)
  rw[QY7,QY7]at this
  omega
 refine⟨p10, ?_, ?_,q10⟩
 ·simp only[hdI,g1,g2,g3,g4,g5,g6,g7,g8,g9,g10]
 ·simp only[hdS,d1,d2,d3,d4,d5,d6,d7,d8,d9,d10,hp]
theorem QIR {m:QS}(h:Kc m=true) {c s:List Int}{p:Int}(q:Enc c p (stB (m.2.2.2.2.2.2.2.2.2.1,m.2.2.2.2.2.2.2.2.2.2.1)++(Ql (m.2.2.2.2.2.2.2.2.2.2.2.length:Nat)++(m.2.2.2.2.2.2.2.2.2.2.2.flatMap Xp++[])))):∃k:Nat,p=(k:Int)/\k+(stB (m.2.2.2.2.2.2.2.2.2.1,m.2.2.2.2.2.2.2.2.2.2.1)).length<=c.length/\cut (c++s) p ((stB (m.2.2.2.2.2.2.2.2.2.1,m.2.2.2.2.2.2.2.2.2.2.1)).length:Nat)=stB (m.2.2.2.2.2.2.2.2.2.1,m.2.2.2.2.2.2.2.2.2.2.1)/\cut c p ((stB (m.2.2.2.2.2.2.2.2.2.1,m.2.2.2.2.2.2.2.2.2.2.1)).length:Nat)=stB (m.2.2.2.2.2.2.2.2.2.1,m.2.2.2.2.2.2.2.2.2.2.1)/\
 (∃p1,rcount c (p+((stB (m.2.2.2.2.2.2.2.2.2.1,m.2.2.2.2.2.2.2.2.2.2.1)).length:Nat)) false 5=(((m.2.2.2.2.2.2.2.2.2.2.2.length:Nat):Int),p1,false)/\∃p2,rfloors c m.2.2.2.2.2.2.2.2.2.2.2.length p1 false=(m.2.2.2.2.2.2.2.2.2.2.2,p2,false))/\∃p3,rmany c (p+((stB (m.2.2.2.2.2.2.2.2.2.1,m.2.2.2.2.2.2.2.2.2.2.1)).length:Nat)) false 2=(QcP m.2.2.2.2.2.2.2.2.2.2.2,p3,false):=by
 obtain⟨k,rfl,hk,ek⟩:=q
 have hl:=congrArg List.length ek
 rw[QY7,QRj]at hl
 have hq:=Enc.skip ek hk
 have hm:=QbF (mok h).marks
 have hin:=QpI (mok h).marks
 have ei:((k:Int)+(((stB (m.2.2.2.2.2.2.2.2.2.1,m.2.2.2.2.2.2.2.2.2.2.1)).length:Nat):Int))=((k+(stB (m.2.2.2.2.2.2.2.2.2.1,m.2.2.2.2.2.2.2.2.2.2.1)).length:Nat):Int):=by omega
 refine⟨k,rfl,by omega, ?_, ?_, ?_, ?_⟩
 ·unfold cut
  rw[QRb,QRb,List.drop_append_of_le_length hk,ek,QRc,List.take_left]
 ·unfold cut
  rw[QRb,QRb,ek,List.take_left]
 ·rw[ei]
  obtain⟨p1,e1,q1⟩:=QjC (most:=5) hq (by omega) (by omega) (by omega)
  obtain⟨p2,e2,_⟩:=Qn3 m.2.2.2.2.2.2.2.2.2.2.2 p1 hin q1
  exact⟨p1,e1,p2,e2⟩
 ·rw[ei]
  rw[<-Qn6]at hq
  obtain⟨p3,e3,_⟩:=QgF 2 m.2.2.2.2.2.2.2.2.2.2.2.length (Qzw hin) (Qq7 m.2.2.2.2.2.2.2.2.2.2.2) hm hq
  exact⟨p3,e3⟩
theorem QIV (c s:List Int) (hs:s.length=4):body (c++s)=c:=by
 unfold body
 rw[QRj,hs,show(((c.length+4:Nat):Int) - 4).toNat=c.length by omega,List.take_left]
theorem QKa (c s:List Int) (hs:s.length=4):List.drop (((c++s).length:Int) - 4).toNat (c++s)=s:=by
 rw[QRj,hs,show(((c.length+4:Nat):Int) - 4).toNat=c.length by omega,List.drop_left]
theorem QEE {m:QS}(h:Kc m=true):QnX (bytesOf m)=QcR m/\Qq0 (bytesOf m)=QcR m:=by
 have hb:=QF7 h
 obtain⟨c,hc⟩:∃c,c=X5 m.1 m.2.1 m.2.2.1 m.2.2.2.1 m.2.2.2.2.1 m.2.2.2.2.2.1 m.2.2.2.2.2.2.1 m.2.2.2.2.2.2.2.1 m.2.2.2.2.2.2.2.2.1 m.2.2.2.2.2.2.2.2.2.1 m.2.2.2.2.2.2.2.2.2.2.1 m.2.2.2.2.2.2.2.2.2.2.2:=⟨_,rfl⟩
 rw[<-hc]at hb
 obtain⟨p,hI,hS,q⟩:=QKe h hc
 obtain⟨k,rfl,hk,c1,c2,⟨p1,e1,p2,e2⟩,p3,e3⟩:=QIR (s:=JK (crc c)) h q
 have hs4:(JK (crc c)).length=4:=rfl
 have hbl:(bytesOf m).length=c.length+4:=by rw[hb,QRj,hs4]
 have hc2:2<=c.length:=by
  rw[hc,X5,VW];simp only[QRj,QY1,QY6];omega
 have h2:List.take 2 (bytesOf m)=[82,75]:=by rw[hb,hc];rfl
 have hbody:body (bytesOf m)=c:=by rw[hb];exact QIV _ _ hs4
 have hfin:Qrp (bytesOf m) m false=QcR m:=by
  unfold Qrp
  rw[h,show X0 (QM (bytesOf m)) (QM (bytesOf m))=true from QY _];rfl
 have hst:=Qy1 (mok h).part
 constructor
 ·unfold QnX
  rw[df (show¬((bytesOf m).length:Int) - 4<2 by omega),h2,show X0 (QM [82,75]) (⟨#[82,75]⟩:ByteArray)=true by rw[QoX];exact decide_eq_true rfl,hbody,hI,QEx,df (show¬((bytesOf m).length:Int) - 4 - (k:Int)<(((stB (m.2.2.2.2.2.2.2.2.2.1,m.2.2.2.2.2.2.2.2.2.2.1)).length:Nat):Int) by omega),show cut (bytesOf m) (k:Int) (((stB (m.2.2.2.2.2.2.2.2.2.1,m.2.2.2.2.2.2.2.2.2.2.1)).length:Nat):Int)=stB (m.2.2.2.2.2.2.2.2.2.1,m.2.2.2.2.2.2.2.2.2.2.1) by rw[hb];exact c1,hst.1,hbody,e1,QRb,e2]
  exact hfin
 ·unfold Qq0
  rw[df (show¬((bytesOf m).length:Int)<6 by omega),hbody,show List.drop (((bytesOf m).length:Int) - 4).toNat (bytesOf m)=JK (crc c) by rw[hb];exact QKa _ _ hs4,show X0 (QM (JK (crc c))) (QM (JK (crc c)))=true from QY _,hS,QEN,df (show¬((bytesOf m).length:Int) - 4 - (k:Int)<(((stB (m.2.2.2.2.2.2.2.2.2.1,m.2.2.2.2.2.2.2.2.2.2.1)).length:Nat):Int) by omega),hbody,c2,hst.2,e3,Qoc]
  exact hfin
theorem QEQ {b:List Int}(hb:isB b) (r:Option (QS×Bool)):QGu b r=QfM\/∃m,QGu b r=QcR m/\Kc m=true/\bytesOf m=b:=by
 cases r with
 |none=>exact .inl rfl
 |some r=>
  obtain⟨m,bad⟩:=r
  show Qrp b m bad=QfM\/∃m',Qrp b m bad=QcR m'/\Kc m'=true/\bytesOf m'=b
  cases bad
  ·by_cases h1:Kc m=true
   ·by_cases h2:X0 (QM (bytesOf m)) (QM b)=true
    ·refine .inr ⟨m,by unfold Qrp;rw[h1,h2];rfl,h1,QtA (QDf m) hb ?_⟩
     rw[QoX]at h2
     exact of_decide_eq_true h2
    ·exact .inl (by unfold Qrp;rw[h1,Bool.eq_false_iff.2 h2];rfl)
   ·exact .inl (by unfold Qrp;rw[Bool.eq_false_iff.2 h1];rfl)
  ·exact .inl rfl
theorem Qx6 {b:List Int}(hb:isB b):QnX b=QfM\/∃m,QnX b=QcR m/\Kc m=true/\bytesOf m=b:=by
 unfold QnX
 cases decide ((b.length:Int) - 4<2)
 ·cases X0 (QM (List.take 2 b)) (⟨#[82,75]⟩:ByteArray)
  ·exact .inl rfl
  ·exact QEQ hb _
 ·exact .inl rfl
theorem QLj {b:List Int}(hb:isB b):Qq0 b=QfM\/∃m,Qq0 b=QcR m/\Kc m=true/\bytesOf m=b:=by
 unfold Qq0
 cases decide ((b.length:Int)<6)
 ·cases X0 (QM (JK (crc (body b)))) (QM (List.drop ((b.length:Int) - 4).toNat b))
  ·exact .inl rfl
  ·exact QEQ hb _
 ·exact .inl rfl
theorem QHX {b:List Int}(hb:isB b):Qq0 b=QnX b:=by
 rcases Qx6 hb with h|⟨m,h,h1,h2⟩
 ·rcases QLj hb with h'|⟨m,h',h1,h2⟩
  ·rw[h,h']
  ·rw[<-h2,(QEE h1).1]at h
   exact absurd (congrArg (fun z:QlX=>z.2.2.2.2.2.2.2.2.2.2.2.2) h) (by simp[QcR,QfM])
 ·rw[h,<-h2,(QEE h1).2]
theorem QFj (m:QS) (h:Qal m):Vt w (n12E m)=some (bytesOf m):=Qtb m.1 m.2.1 m.2.2.1 m.2.2.2.1 m.2.2.2.2.1 m.2.2.2.2.2.1 m.2.2.2.2.2.2.1 m.2.2.2.2.2.2.2.1 m.2.2.2.2.2.2.2.2.1 m.2.2.2.2.2.2.2.2.2.1 m.2.2.2.2.2.2.2.2.2.2.1 m.2.2.2.2.2.2.2.2.2.2.2 h
theorem QDv (m:QS) (h:Qal m):Vk w (n12E m)=some (bytesOf m):=Qra m.1 m.2.1 m.2.2.1 m.2.2.2.1 m.2.2.2.2.1 m.2.2.2.2.2.1 m.2.2.2.2.2.2.1 m.2.2.2.2.2.2.2.1 m.2.2.2.2.2.2.2.2.1 m.2.2.2.2.2.2.2.2.2.1 m.2.2.2.2.2.2.2.2.2.2.1 m.2.2.2.2.2.2.2.2.2.2.2 h
def post (m:QS) (net:List Qs):List Qs:=bif decide ((net.length:Int)<12)then net++[(m.2.2.1,bytesOf m,false)]else net
structure Few (net:List Qs):Prop where
 len:net.length<=12
 packs:∀p∈net,p.2.1.length<=3000100
end Go.Proofs.YtiejfnbmficbmaaGreat.M
