/- What the plain forms that FnExactOnlyNews reaches come to: PRd. No conditions but those that each theorem states. -/
import Derived.Test.YtiejfnbmficbmaaGreatFnExactOnlyNewsPRecv
set_option linter.all false
namespace Go.Proofs.YtiejfnbmficbmaaGreat.M
open Go Go.Eng Go.Proofs
set_option linter.unusedVariables false
structure Bs (b:List Int):Prop where
 isb:isB b
 len:b.length<=4294967296
def Pos (b:List Int) (p:Int):Prop:=∃k:Nat,p=(k:Int)/\k<=b.length
theorem Pos.at0 (b:List Int):Pos b 0:=⟨0,rfl,Nat.zero_le _⟩
def rnum (b:List Int) (p:Int) (bad:Bool):Int×Int×Bool:=bif bad then(0,p,true)else(bif (Xo b p).2.2 then((Xo b p).1,(Xo b p).2.1,false)else(0,p,true))
theorem QxN {b:List Int}(h:isB b) (k:Nat):isB (b.drop k):=fun x hx=>h x (List.mem_of_mem_drop hx)
theorem QhS {b:List Int}(h:Bs b) {p:Int}(hp:Pos b p) (ho:(Xo b p).2.2=true):Pos b (Xo b p).2.1/\0<=(Xo b p).1/\(Xo b p).1<=2147483647:=by
 obtain⟨k,rfl,hk⟩:=hp
 unfold Xo at ho⊢
 by_cases hc:0<=(k:Int)/\(k:Int)<(b.length:Int)
 ·rw[if_pos hc]at ho⊢
  cases hn:za 5 0 0 (b.drop (k:Int).toNat)with
  |none=>rw[hn]at ho;cases ho
  |some r=>
   have:=QrT 5 0 0 _ (by omega) (QxN h.isb _) (by omega) r hn
   rw[QY8,QRb]at this
   exact⟨⟨k+r.2,by simp[Qr0],by omega⟩,this.1,this.2.1⟩
 ·rw[if_neg hc]at ho;cases ho
theorem QC {b:List Int}(h:Bs b) {p:Int}(hp:Pos b p) (bad:Bool):Pos b (rnum b p bad).2.1/\0<=(rnum b p bad).1/\(rnum b p bad).1<=2147483647:=by
 unfold rnum
 cases bad
 ·cases ho:(Xo b p).2.2
  ·exact⟨hp,by simp⟩
  ·exact QhS h hp ho
 ·exact⟨hp,by simp⟩
theorem QdY {b:List Int}(h:Bs b) {p:Int}(hp:Pos b p) (bad:Bool):Qs w (b,p,bad)=some (rnum b p bad):=by
 obtain⟨k,rfl,hk⟩:=hp
 apply Qjf
 simp only[vz,QoW b h.isb h.len k hk,QQ0,rnum]
 cases bad<;>cases(Xo b (k:Int)).2.2<;>rfl
theorem Qc2 {b:List Int}(h:Bs b) {p:Int}(hp:Pos b p) (bad:Bool):QO w (b,p,bad)=some (rnum b p bad):=by
 obtain⟨k,rfl,hk⟩:=hp
 apply Qof
 simp only[Qfp,Qm3 b h.isb h.len k hk,QQ0,rnum]
 cases bad<;>cases(Xo b (k:Int)).2.2<;>rfl
def XX (b:List Int) (p:Int):ByteArray×Int×Bool:=bif (Xo b p).2.2 then(bif decide ((b.length:Int) - (Xo b p).2.1<(Xo b p).1)then(⟨#[]⟩,0,false)else(QG (List.take (Xo b p).1.toNat (List.drop (Xo b p).2.1.toNat b)),(Xo b p).2.1+(Xo b p).1,true))else(⟨#[]⟩,0,false)
theorem QqK {b:List Int}(h:Bs b) {p:Int}(hp:Pos b p) (ho:(XX b p).2.2=true):Pos b (XX b p).2.1:=by
 unfold XX at ho⊢
 cases hg:(Xo b p).2.2
 ·rw[hg]at ho;cases ho
 ·rw[hg]at ho
  obtain⟨⟨k,e,hk⟩,h0,h1⟩:=QhS h hp hg
  by_cases hl:(b.length:Int) - (Xo b p).2.1<(Xo b p).1
  ·rw[dt hl]at ho;cases ho
  ·rw[df hl]
   exact⟨k+(Xo b p).1.toNat,by simp only[QQ1,QQ2];omega,by omega⟩
theorem Qun {b:List Int}(h:Bs b) {p:Int}(hp:Pos b p):jr w (b,p)=some (XX b p):=by
 have hb:=h.len
 have hq:=fun ho=>QhS h hp ho
 obtain⟨k,rfl,hk⟩:=hp
 apply Qlp
 simp only[QdZ,QoW b h.isb h.len k hk,QQ0,XX]
 cases hg:(Xo b (k:Int)).2.2
 ·rfl
 ·obtain⟨⟨q,e,hq2⟩,h0,h1⟩:=hq hg
  rw[e,w64 (n:=(b.length:Int) - (q:Int)) (by omega) (by omega),w64 (n:=(q:Int)+(Xo b (k:Int)).1) (by omega) (by omega)]
  by_cases hl:(b.length:Int) - (q:Int)<(Xo b (k:Int)).1
  ·rw[dt hl];rfl
  ·rw[df hl]
   simp only[QQ3,QQ1,QQ2,dt (show(0:Int)<=(q:Int)/\(q:Int)<=(q:Int)+(Xo b (k:Int)).1/\(q:Int)+(Xo b (k:Int)).1<=(b.length:Int) by omega)]
   rw[show(q:Int)+(Xo b (k:Int)).1 - (q:Int)=(Xo b (k:Int)).1 by omega]
theorem Qse {b:List Int}(h:Bs b) {p:Int}(hp:Pos b p):jq w (b,p)=some (XX b p):=by
 have hb:=h.len
 have hq:=fun ho=>QhS h hp ho
 obtain⟨k,rfl,hk⟩:=hp
 apply QlO
 simp only[QeV,Qm3 b h.isb h.len k hk,QQ0,XX]
 cases hg:(Xo b (k:Int)).2.2
 ·rfl
 ·obtain⟨⟨q,e,hq2⟩,h0,h1⟩:=hq hg
  rw[e,w64 (n:=(b.length:Int) - (q:Int)) (by omega) (by omega),w64 (n:=(q:Int)+(Xo b (k:Int)).1) (by omega) (by omega)]
  by_cases hl:(b.length:Int) - (q:Int)<(Xo b (k:Int)).1
  ·rw[dt hl];rfl
  ·rw[df hl]
   simp only[QQ3,QQ1,QQ2,dt (show(0:Int)<=(q:Int)/\(q:Int)<=(q:Int)+(Xo b (k:Int)).1/\(q:Int)+(Xo b (k:Int)).1<=(b.length:Int) by omega)]
   rw[show(q:Int)+(Xo b (k:Int)).1 - (q:Int)=(Xo b (k:Int)).1 by omega]
def rtext (b:List Int) (p:Int) (bad:Bool):ByteArray×Int×Bool:=bif bad then(⟨#[]⟩,p,true)else(bif (XX b p).2.2 then((XX b p).1,(XX b p).2.1,false)else(⟨#[]⟩,p,true))
theorem QwP {b:List Int}(h:Bs b) {p:Int}(hp:Pos b p) (bad:Bool):Pos b (rtext b p bad).2.1:=by
 unfold rtext
 cases bad
 ·cases ho:(XX b p).2.2
  ·exact hp
  ·exact QqK h hp ho
 ·exact hp
theorem QzH {b:List Int}(h:Bs b) {p:Int}(hp:Pos b p) (bad:Bool):YH w (b,p,bad)=some (rtext b p bad):=by
 apply QiA
 simp only[vi,Qun h hp,QQ0,rtext]
 cases bad<;>cases(XX b p).2.2<;>rfl
def rcount (b:List Int) (p:Int) (bad:Bool) (most:Int):Int×Int×Bool:=bif decide (most<(rnum b p bad).1)then(0,(rnum b p bad).2.1,true)else rnum b p bad
theorem Qin {b:List Int}(h:Bs b) {p:Int}(hp:Pos b p) (bad:Bool) (most:Int):XY w (b,p,bad,most)=some (rcount b p bad most):=by
 apply QhK
 simp only[zn,QdY h hp,QQ0,rcount]
 cases decide (most<(rnum b p bad).1)<;>rfl
theorem zI {b:List Int}(h:Bs b) {p:Int}(hp:Pos b p) (bad:Bool) {most:Int}(hm:0<=most):Pos b (rcount b p bad most).2.1/\0<=(rcount b p bad most).1/\(rcount b p bad most).1<=most:=by
 have hr:=QC h hp bad
 unfold rcount
 by_cases hl:most<(rnum b p bad).1
 ·rw[dt hl];exact⟨hr.1,by simp only[QQ1];omega,hm⟩
 ·rw[df hl];exact⟨hr.1,hr.2.1,by simp only[QQ2];omega⟩
def VJ (b:List Int):Nat->Int->Bool->List Int×Int×Bool
 |0,p,bad=>([],p,bad)
 |m+1,p,bad=>((rnum b p bad).1::(VJ b m (rnum b p bad).2.1 (rnum b p bad).2.2).1,(VJ b m (rnum b p bad).2.1 (rnum b p bad).2.2).2)
theorem QmU {b:List Int}(h:Bs b):(m:Nat)->(p:Int)->(bad:Bool)->Pos b p->Pos b (VJ b m p bad).2.1/\(VJ b m p bad).1.length=m
 |0,p,bad,hp=>⟨hp,rfl⟩
 |m+1,p,bad,hp=>by
  have:=QmU h m _ (rnum b p bad).2.2 (QC h hp bad).1
  exact⟨this.1,by simp only[VJ,QY0,this.2]⟩
theorem QvH {b:List Int}(h:Bs b) (c:Nat) (hc:c<=5):(m i:Nat)->(p:Int)->(bad:Bool)->(out:List Int)->i+m=c->out.length=i->Pos b p->ZC wl ((c:Int),(i:Int),b,p,bad,out)=some (b,(VJ b m p bad).2.1,(VJ b m p bad).2.2,out++(VJ b m p bad).1):=by
 intro m
 induction m with
 |zero=>
  intro i p bad out hi ho hp
  apply xa
  simp only[Jz,df (show¬(i:Int)<(c:Int) by omega),QQ2,VJ,QY10]
 |succ m ih=>
  intro i p bad out hi ho hp
  apply xa
  simp only[Jz,dt (show(i:Int)<(c:Int) by omega),QdY h hp,QQ0,w64 (n:=(i:Int)+1) (by omega) (by omega),QQ1]
  rw[QL (by simp;omega),QQ1]
  have:=ih (i+1) _ (rnum b p bad).2.2 (out++[(rnum b p bad).1]) (by omega) (by simp[ho]) (QC h hp bad).1
  rw[show(i:Int)+1=((i+1:Nat):Int) by omega,this]
  simp only[VJ,QRc,QRv,QRe]
def rnums (b:List Int) (p:Int) (bad:Bool) (most:Int):List Int×Int×Bool:=VJ b (rcount b p bad most).1.toNat (rcount b p bad most).2.1 (rcount b p bad most).2.2
theorem QnS {b:List Int}(h:Bs b) {p:Int}(hp:Pos b p) (bad:Bool) (most:Int) (h0:0<=most) (h5:most<=5):XH w (b,p,bad,most)=some (rnums b p bad most):=by
 have hr:=zI h hp bad h0
 obtain⟨c,hc⟩:∃c:Nat,(rcount b p bad most).1=(c:Int):=⟨(rcount b p bad most).1.toNat,by omega⟩
 have e:=QvH h c (by omega) c 0 (rcount b p bad most).2.1 (rcount b p bad most).2.2 [] (by omega) rfl hr.1
 apply QiB
 simp only[jN,Qin h hp,QQ0,rnums,hc,QRb]
 simp only[QQ6,QRe]at e
 simp only[e,QQ0]
theorem zj {b:List Int}(h:Bs b) {p:Int}(hp:Pos b p) (bad:Bool) {most:Int}(h0:0<=most):Pos b (rnums b p bad most).2.1/\(((rnums b p bad most).1.length:Nat):Int)<=most:=by
 have hr:=zI h hp bad h0
 have:=QmU h (rcount b p bad most).1.toNat (rcount b p bad most).2.1 (rcount b p bad most).2.2 hr.1
 exact⟨this.1,by unfold rnums;omega⟩
def KS (b:List Int):Nat->Int->Bool->List Int×Int×Bool
 |0,p,bad=>([],p,bad)
 |m+1,p,bad=>bif bad then([],p,bad)else((rnum b p bad).1::(KS b m (rnum b p bad).2.1 (rnum b p bad).2.2).1,(KS b m (rnum b p bad).2.1 (rnum b p bad).2.2).2)
theorem QlA {b:List Int}(h:Bs b):(m:Nat)->(p:Int)->(bad:Bool)->Pos b p->Pos b (KS b m p bad).2.1/\(KS b m p bad).1.length<=m
 |0,p,bad,hp=>⟨hp,QY1 _⟩
 |m+1,p,bad,hp=>by
  have:=QlA h m _ (rnum b p bad).2.2 (QC h hp bad).1
  rw[KS]
  cases bad
  ·exact⟨this.1,by simp only[QQ2,QY0];omega⟩
  ·exact⟨hp,by simp⟩
theorem QvP {b:List Int}(h:Bs b) (t n:Nat) (ht:t<=2) (hn:n<=100):(m i:Nat)->(p:Int)->(bad:Bool)->(out:List Int)->i+m=n*t->out.length=i->Pos b p->ZZ wl ((t:Int),(n:Int),(i:Int),b,p,bad,out)=some ((n:Int),b,(KS b m p bad).2.1,(KS b m p bad).2.2,out++(KS b m p bad).1):=by
 intro m
 have hnt:n*t<=200:=Nat.le_trans (Nat.mul_le_mul hn ht) (by decide)
 have e0:(n:Int)*(t:Int)=((n*t:Nat):Int):=by rw[Int.natCast_mul]
 induction m with
 |zero=>
  intro i p bad out hi ho hp
  apply qq
  simp only[JP,e0,w64 (n:=((n*t:Nat):Int)) (by omega) (by omega),df (show¬(i:Int)<((n*t:Nat):Int) by omega),QQ2,KS,QY10]
 |succ m ih=>
  intro i p bad out hi ho hp
  apply qq
  simp only[JP,e0,w64 (n:=((n*t:Nat):Int)) (by omega) (by omega),dt (show(i:Int)<((n*t:Nat):Int) by omega),dt (show(n:Int)<=100 by omega),Qc2 h hp,QQ0,w64 (n:=(i:Int)+1) (by omega) (by omega),QQ1]
  rw[QL (by simp;omega),QQ1,KS]
  cases bad
  ·have:=ih (i+1) _ (rnum b p false).2.2 (out++[(rnum b p false).1]) (by omega) (by simp[ho]) (QC h hp false).1
   rw[show(i:Int)+1=((i+1:Nat):Int) by omega,this]
   simp only[QQ4,QQ1,QQ2,QRc,QRv,QRe]
  ·simp only[QQ3,QQ2,QQ1,QY10]
def rmany (b:List Int) (p:Int) (bad:Bool) (t:Nat):List Int×Int×Bool:=bif decide (100<(rnum b p bad).1)then([],(rnum b p bad).2.1,true)else KS b ((rnum b p bad).1.toNat*t) (rnum b p bad).2.1 (rnum b p bad).2.2
theorem Qra {b:List Int}{p:Int}{bad:Bool}(h:(rnum b p bad).2.2=true):(rnum b p bad).1=0:=by
 unfold rnum at h⊢
 cases bad
 ·cases hg:(Xo b p).2.2
  ·rfl
  ·rw[hg]at h;cases h
 ·rfl
theorem Qhn {b:List Int}(h:Bs b) {p:Int}(hp:Pos b p) (bad:Bool) (t:Nat) (ht:t<=2) (ht0:1<=t):Xx w (b,p,bad,(t:Int))=some (rmany b p bad t):=by
 have hr:=QC h hp bad
 obtain⟨n,hn⟩:∃n:Nat,(rnum b p bad).1=(n:Int):=⟨(rnum b p bad).1.toNat,by omega⟩
 apply Qmg
 simp only[QeA,Qc2 h hp,QQ0,rmany,hn,QRb]
 by_cases h100:(100:Int)<(n:Int)
 ·rw[dt h100]
  have hb:(rnum b p bad).2.2=false:=by
   cases hb:(rnum b p bad).2.2
   ·rfl
   ·have:=Qra hb;omega
  have e0:(n:Int)*(t:Int)=((n*t:Nat):Int):=by rw[Int.natCast_mul]
  have hnt:n*t<=2147483647*2:=Nat.mul_le_mul (by omega) ht
  have hnt2:0<n*t:=Nat.mul_pos (by omega) ht0
  have:ZZ wl ((t:Int),(n:Int),0,b,(rnum b p bad).2.1,(rnum b p bad).2.2,[])=some ((n:Int),b,(rnum b p bad).2.1,(rnum b p bad).2.2,[]):=by
   apply qq
   simp only[JP,e0,w64 (n:=((n*t:Nat):Int)) (by omega) (by omega),dt (show(0:Int)<((n*t:Nat):Int) by omega),df (show¬(n:Int)<=100 by omega),hb,QQ4,QQ1,QQ2]
  rw[this,hb]
  simp only[QQ0,QQ2,QQ1,dt h100]
 ·rw[df h100]
  have e:=QvP h t n ht (by omega) (n*t) 0 (rnum b p bad).2.1 (rnum b p bad).2.2 [] (by omega) rfl hr.1
  simp only[QQ6,QRe]at e
  simp only[e,QQ0,QQ2,df h100]
  cases hv:(KS b (n*t) (rnum b p bad).2.1 (rnum b p bad).2.2).2.2<;>simp only[QQ1,QQ2]<;>rw[<-hv]
theorem Qbo {b:List Int}(h:Bs b) {p:Int}(hp:Pos b p) (bad:Bool) (t:Nat) (ht:t<=2):Pos b (rmany b p bad t).2.1/\(rmany b p bad t).1.length<=200:=by
 have hr:=QC h hp bad
 unfold rmany
 by_cases h100:100<(rnum b p bad).1
 ·rw[dt h100];exact⟨hr.1,by simp⟩
 ·rw[df h100]
  have:=QlA h ((rnum b p bad).1.toNat*t) (rnum b p bad).2.1 (rnum b p bad).2.2 hr.1
  have hm:(rnum b p bad).1.toNat*t<=100*2:=Nat.mul_le_mul (by omega) ht
  exact⟨this.1,by simp only[QQ2];omega⟩
theorem QkQ:(f:Nat)->(n:Int)->(o:List Int)->Xs f n o=((Xs f n []).1,o++(Xs f n []).2)
 |0,n,o=>by simp[Xs]
 |f+1,n,o=>by
  simp only[Xs]
  split
  ·rw[QkQ f _ (o++[vL n]),QkQ f _ ([]++[vL n])];simp
  ·simp
theorem QzJ {n:Int}(h:0<=n) (h2:n<=2147483647):vL n=n % 128+128:=by
 unfold vL
 rw[Int.tmod_eq_emod_of_nonneg h,w64 (by omega) (by omega),IntKind.wrap_u8]
 omega
theorem Qry (l:List Int):(f:Nat)->(n:Int)->(i:Nat)->(acc:Int)->0<=n->n<128^(f+1)->(0<i->0<n)->0<=acc->acc+n*128^i<=2147483647->i+f<=4->za (f+1) i acc ((Xs f n []).2++([IntKind.wrap .u8 (Xs f n []).1]++l))=some (acc+n*128^i,i+(Xs f n []).2.length+1)
 |0,n,i,acc,h0,h1,hi,ha,hm,hf=>by
  have h1':n<128:=h1
  have e:IntKind.wrap .u8 n=n:=by rw[IntKind.wrap_u8];omega
  simp only[Xs,QRe,List.singleton_append,e,QY18,QY2]
  rw[za,if_neg (by omega),show n % 128=n by omega,if_neg]
  intro h
  rcases h with h|h
  ·have:=hi h.1;omega
  ·omega
 |f+1,n,i,acc,h0,h1,hi,ha,hm,hf=>by
  have hp:=QqE i (by omega)
  have hpos:0<=n*128^i:=Int.mul_nonneg h0 (by omega)
  have hn:n<=2147483647:=by
   have:n*1<=n*128^i:=Int.mul_le_mul_of_nonneg_left (by omega) h0
   omega
  by_cases h128:128<=n
  ·have e1:Xs (f+1) n []=((Xs f (Int.tdiv n 128) []).1,vL n::(Xs f (Int.tdiv n 128) []).2):=by
    simp only[Xs,h128,if_true,QRe]
    rw[QkQ];simp
   have hd:=QY34 (b:=128) h0
   have hb:=QzJ h0 hn
   have hq:n=n / 128*128+n % 128:=by omega
   have key:acc+n % 128*128^i+n / 128*128^(i+1)=acc+n*128^i:=by
    have:n*128^i=n / 128*128^(i+1)+n % 128*128^i:=by
     rw[hp.2.2,<-Int.mul_assoc,Int.mul_right_comm (n / 128) (128^i) 128,<-Int.add_mul,<-hq]
    omega
   have hr0:0<=n % 128*128^i:=Int.mul_nonneg (by omega) (by omega)
   have ih:=Qry l f (n / 128) (i+1) (acc+n % 128*128^i) (by omega) (by rw[Int.pow_succ]at h1;omega) (fun _=>by omega) (by omega) (by omega) (by omega)
   rw[e1,hd]
   rw[QRv,za,hb,if_pos (by omega),show(n % 128+128) % 128=n % 128 by omega,ih,key]
   simp only[QY0]
   congr 2;omega
  ·have e1:Xs (f+1) n []=(n,[]):=by simp only[Xs,h128,if_false]
   have e:IntKind.wrap .u8 n=n:=by rw[IntKind.wrap_u8];omega
   rw[e1]
   simp only[QRe,List.singleton_append,e,QY18,QY2]
   rw[za,if_neg h128,show n % 128=n by omega,if_neg]
   intro h
   rcases h with h|h
   ·have:=hi h.1;omega
   ·omega
def Enc (b:List Int) (p:Int) (l:List Int):Prop:=∃k:Nat,p=(k:Int)/\k<=b.length/\b.drop k=l
theorem Enc.start (b:List Int):Enc b 0 b:=⟨0,rfl,Nat.zero_le _,rfl⟩
theorem Enc.skip {b:List Int}{k:Nat}{a l:List Int}(h:b.drop k=a++l) (hk:k<=b.length):Enc b ((k+a.length:Nat):Int) l:=by
 have h2:(b.drop k).length=(a++l).length:=by rw[h]
 rw[QY8,QRj]at h2
 refine⟨k+a.length,rfl,by omega, ?_⟩
 rw[<-List.drop_drop,h,List.drop_left]
theorem Qqo {b:List Int}{p n:Int}{l:List Int}(h:Enc b p (Qd n++l)) (h0:0<=n) (h1:n<=2147483647):∃p',Xo b p=(n,p',true)/\Enc b p' l:=by
 obtain⟨k,rfl,hk,hd⟩:=h
 have hin:inR n 0 2147483647=true:=Q4.2 ⟨h0,h1⟩
 have e:Qd n=(Xs 4 n []).2++[IntKind.wrap .u8 (Xs 4 n []).1]:=by unfold Qd;rw[hin];rfl
 have hlen:(Qd n).length=(Xs 4 n []).2.length+1:=by rw[e];simp
 have hr:=Qry l 4 n 0 0 h0 (by omega) (fun h=>absurd h (by omega)) (by omega) (by simp;omega) (by omega)
 refine⟨((k+(Qd n).length:Nat):Int), ?_,Enc.skip hd hk⟩
 have hlt:k<b.length:=by
  have h2:(b.drop k).length=(Qd n++l).length:=by rw[hd]
  rw[QY8,QRj,hlen]at h2
  omega
 unfold Xo
 rw[if_pos (by omega),QRb,hd,e,QRc,hr]
 simp only[Qr0,Int.zero_add,Int.pow_zero,Int.mul_one,QRo]
 rw[show(k:Int)+(((Xs 4 n []).2.length+1:Nat):Int)=((k+((Xs 4 n []).2++[IntKind.wrap .u8 (Xs 4 n []).1]).length:Nat):Int) by rw[QRj];simp]
theorem Xp {b:List Int}{p n:Int}{l:List Int}(h:Enc b p (Qd n++l)) (h0:0<=n) (h1:n<=2147483647):∃p',rnum b p false=(n,p',false)/\Enc b p' l:=by
 obtain⟨p',e,h2⟩:=Qqo h h0 h1
 exact⟨p',by unfold rnum;rw[e];rfl,h2⟩
theorem QmL (s:ByteArray):QG (ofBytes s)=s:=by
 unfold QG ofBytes
 rw[List.map_map]
 have:((fun n:Int=>n.toNat.toUInt8)∘fun b:UInt8=>(b.toNat:Int))=id:=by
  funext x
  simp
 rw[this,List.map_id]
theorem Qj2: {a b:List Int}->isB a->isB b->QG a=QG b->a=b:=by
 intro a b ha hb h
 have h1:a.map (fun n=>n.toNat.toUInt8)=b.map (fun n=>n.toNat.toUInt8):=by
  have:=congrArg (fun z:ByteArray=>z.data.toList) h
  simpa[QG]using this
 clear h
 induction a generalizing b with
 |nil=>cases b with
  |nil=>rfl
  |cons y l=>simp at h1
 |cons x l ih=>cases b with
  |nil=>simp at h1
  |cons y m=>
   simp only[List.map_cons,List.cons.injEq]at h1
   have hx:=ha x (by simp)
   have hy:=hb y (by simp)
   have e:x=y:=by
    have h3:=congrArg UInt8.toNat h1.1
    simp only[Nat.toUInt8,UInt8.toNat_ofNat']at h3
    omega
   rw[e,ih (fun z hz=>ha z (by simp[hz])) (fun z hz=>hb z (by simp[hz])) h1.2]
theorem Qxg {b:List Int}{p:Int}{s:ByteArray}{l:List Int}(h:Enc b p (Z0 s++l)) (hs:s.size<=8):∃p',XX b p=(s,p',true)/\Enc b p' l:=by
 unfold Z0 at h
 rw[QRc]at h
 obtain⟨q,e,k,rfl,hk,hd⟩:=Qqo h (by omega) (by omega)
 have hl:(ofBytes s).length=s.size:=Qgj s
 have h2:(b.drop k).length=(ofBytes s++l).length:=by rw[hd]
 rw[QY8,QRj,hl]at h2
 refine⟨((k+(ofBytes s).length:Nat):Int), ?_,Enc.skip hd hk⟩
 unfold XX
 rw[e]
 simp only[QQ1,df (show¬(b.length:Int) - (k:Int)<(s.size:Int) by omega),QQ2,QRb,hd]
 rw[<-hl,List.take_left,QmL,Int.natCast_add]
def inN (n:Int):Prop:=0<=n/\n<=2147483647
theorem QmA {b:List Int}{l:List Int}:(xs:List Int)->(p:Int)->(∀x∈xs,inN x)->Enc b p (xs.flatMap Qd++l)->∃p',VJ b xs.length p false=(xs,p',false)/\Enc b p' l
 | [],p,_,h=>⟨p,rfl,h⟩
 |x::xs,p,hx,h=>by
  rw[QY7,QRc]at h
  obtain⟨p1,e1,h1⟩:=Xp h (hx x (by simp)).1 (hx x (by simp)).2
  obtain⟨p2,e2,h2⟩:=QmA xs p1 (fun y hy=>hx y (by simp[hy])) h1
  exact⟨p2,by simp only[QY0,VJ,e1,e2],h2⟩
theorem QmB {b:List Int}{l:List Int}:(xs:List Int)->(p:Int)->(∀x∈xs,inN x)->Enc b p (xs.flatMap Qd++l)->∃p',KS b xs.length p false=(xs,p',false)/\Enc b p' l
 | [],p,_,h=>⟨p,rfl,h⟩
 |x::xs,p,hx,h=>by
  rw[QY7,QRc]at h
  obtain⟨p1,e1,h1⟩:=Xp h (hx x (by simp)).1 (hx x (by simp)).2
  obtain⟨p2,e2,h2⟩:=QmB xs p1 (fun y hy=>hx y (by simp[hy])) h1
  exact⟨p2,by simp only[QY0,KS,e1,e2,QQ2],h2⟩
theorem QcQ {b:List Int}{p n most:Int}{l:List Int}(h:Enc b p (Qd n++l)) (h0:0<=n) (h1:n<=2147483647) (hm:n<=most):∃p',rcount b p false most=(n,p',false)/\Enc b p' l:=by
 obtain⟨p1,e1,h2⟩:=Xp h h0 h1
 exact⟨p1,by unfold rcount;rw[e1];simp only[df (show¬most<n by omega),QQ2],h2⟩
theorem QiD {b:List Int}{p most:Int}{xs l:List Int}(hx:∀x∈xs,inN x) (hl:((xs.length:Nat):Int)<=most) (hm:most<=5) (h:Enc b p (nums xs++l)):∃p',rnums b p false most=(xs,p',false)/\Enc b p' l:=by
 unfold nums at h
 rw[QRc]at h
 obtain⟨p1,e1,h1⟩:=QcQ (most:=most) h (by omega) (by omega) hl
 obtain⟨p2,e2,h2⟩:=QmA xs p1 hx h1
 exact⟨p2,by unfold rnums;rw[e1];simp only[QRb,e2],h2⟩
theorem QaQ {b:List Int}{p:Int}{xs l:List Int}(t n:Nat) (hx:∀x∈xs,inN x) (hn:xs.length=n*t) (hm:n<=5) (h:Enc b p (Qd (n:Nat)++(xs.flatMap Qd++l))):∃p',rmany b p false t=(xs,p',false)/\Enc b p' l:=by
 obtain⟨p1,e1,h1⟩:=Xp h (by omega) (by omega)
 obtain⟨p2,e2,h2⟩:=QmB xs p1 hx h1
 exact⟨p2,by unfold rmany;rw[e1];simp only[df (show¬(100:Int)<(n:Int) by omega),QQ2,QRb,<-hn,e2],h2⟩
def ritem (b:List Int) (p:Int) (bad:Bool):Qf×Int×Bool:=
 let r2:=rnum b p bad
 let r3:=rnum b r2.2.1 r2.2.2
 let r4:=rnum b r3.2.1 r3.2.2
 let r5:=rnum b r4.2.1 r4.2.2
 let r6:=rnum b r5.2.1 r5.2.2
 let r7:=rtext b r6.2.1 r6.2.2
 ((r2.1,r3.1,r4.1,r5.1,r6.1,r7.1),r7.2)
def ritems (b:List Int):Nat->Int->Bool->List Qf×Int×Bool
 |0,p,bad=>([],p,bad)
 |m+1,p,bad=>((ritem b p bad).1::(ritems b m (ritem b p bad).2.1 (ritem b p bad).2.2).1,(ritems b m (ritem b p bad).2.1 (ritem b p bad).2.2).2)
def rfloor (b:List Int) (p:Int) (bad:Bool):Qb×Int×Bool:=(((rnum b p bad).1,(rnum b (rnum b p bad).2.1 (rnum b p bad).2.2).1),(rnum b (rnum b p bad).2.1 (rnum b p bad).2.2).2)
def rfloors (b:List Int):Nat->Int->Bool->List Qb×Int×Bool
 |0,p,bad=>([],p,bad)
 |m+1,p,bad=>((rfloor b p bad).1::(rfloors b m (rfloor b p bad).2.1 (rfloor b p bad).2.2).1,(rfloors b m (rfloor b p bad).2.1 (rfloor b p bad).2.2).2)
theorem Qo6 {b:List Int}(h:Bs b) {p:Int}(hp:Pos b p) (bad:Bool):Pos b (ritem b p bad).2.1:=by
 have h2:=(QC h hp bad).1
 have h3:=(QC h h2 (rnum b p bad).2.2).1
 have h4:=(QC h h3 (rnum b (rnum b p bad).2.1 (rnum b p bad).2.2).2.2).1
 exact QwP h (QC h (QC h h4 _).1 _).1 _
theorem Qmt {b:List Int}(h:Bs b):(m:Nat)->(p:Int)->(bad:Bool)->Pos b p->Pos b (ritems b m p bad).2.1/\(ritems b m p bad).1.length=m
 |0,p,bad,hp=>⟨hp,rfl⟩
 |m+1,p,bad,hp=>by
  have:=Qmt h m _ (ritem b p bad).2.2 (Qo6 h hp bad)
  exact⟨this.1,by simp only[ritems,QY0,this.2]⟩
theorem Qh8 {b:List Int}(h:Bs b) {p:Int}(hp:Pos b p) (bad:Bool):Pos b (rfloor b p bad).2.1:=(QC h (QC h hp bad).1 _).1
theorem Qgm {b:List Int}(h:Bs b):(m:Nat)->(p:Int)->(bad:Bool)->Pos b p->Pos b (rfloors b m p bad).2.1/\(rfloors b m p bad).1.length=m
 |0,p,bad,hp=>⟨hp,rfl⟩
 |m+1,p,bad,hp=>by
  have:=Qgm h m _ (rfloor b p bad).2.2 (Qh8 h hp bad)
  exact⟨this.1,by simp only[rfloors,QY0,this.2]⟩
theorem xN {b:List Int}(h:Bs b) (r:Int×Bool) (hp:Pos b r.1):Qs w (b,r)=some (rnum b r.1 r.2):=QdY h hp r.2
theorem xn {b:List Int}(h:Bs b) (r:Int×Bool) (hp:Pos b r.1):QO w (b,r)=some (rnum b r.1 r.2):=Qc2 h hp r.2
theorem QAt {b:List Int}(h:Bs b) (r:Int×Bool) (hp:Pos b r.1):YH w (b,r)=some (rtext b r.1 r.2):=QzH h hp r.2
theorem Qvb {b:List Int}(h:Bs b) (c:Nat) (hc:c<=5) (fl:List Qb):(m i:Nat)->(p:Int)->(bad:Bool)->(out:List Qf)->i+m=c->out.length=i->Pos b p->Yc wl (b,(c:Int),(i:Int),out,fl,b,p,bad)=some (b,out++(ritems b m p bad).1,fl,b,(ritems b m p bad).2):=by
 intro m
 induction m with
 |zero=>
  intro i p bad out hi ho hp
  apply QbL
  simp only[zz,df (show¬(i:Int)<(c:Int) by omega),QQ2,ritems,QY10]
 |succ m ih=>
  intro i p bad out hi ho hp
  apply QbL
  have h2:=(QC h hp bad).1
  have h3:=(QC h h2 (rnum b p bad).2.2).1
  have h4:=(QC h h3 (rnum b (rnum b p bad).2.1 (rnum b p bad).2.2).2.2).1
  have h5:=(QC h h4 (rnum b (rnum b (rnum b p bad).2.1 (rnum b p bad).2.2).2.1 (rnum b (rnum b p bad).2.1 (rnum b p bad).2.2).2.2).2.2).1
  have h6:=fun bad=>(QC h h5 bad).1
  simp only[zz,dt (show(i:Int)<(c:Int) by omega),QdY h hp,QQ0,xN h _ h2,xN h _ h3,xN h _ h4,xN h _ h5,QAt h _ (h6 _),w64 (n:=(i:Int)+1) (by omega) (by omega),QQ1]
  rw[QL (by simp;omega),QQ1]
  have:=ih (i+1) _ (ritem b p bad).2.2 (out++[(ritem b p bad).1]) (by omega) (by simp[ho]) (Qo6 h hp bad)
  rw[show(i:Int)+1=((i+1:Nat):Int) by omega]
  refine this.trans ?_
  simp only[ritems,QRc,QRv,QRe]
theorem Qs7 {b:List Int}(h:Bs b) (c:Nat) (hc:c<=5) (its:List Qf):(m i:Nat)->(p:Int)->(bad:Bool)->(out:List Qb)->i+m=c->out.length=i->Pos b p->Z7 wl (b,(c:Int),(i:Int),its,out,b,p,bad)=some (b,its,out++(rfloors b m p bad).1,b,(rfloors b m p bad).2):=by
 intro m
 induction m with
 |zero=>
  intro i p bad out hi ho hp
  apply Qbd
  simp only[jf,df (show¬(i:Int)<(c:Int) by omega),QQ2,rfloors,QY10]
 |succ m ih=>
  intro i p bad out hi ho hp
  apply Qbd
  have h2:=(QC h hp bad).1
  simp only[jf,dt (show(i:Int)<(c:Int) by omega),QdY h hp,QQ0,xN h _ h2,w64 (n:=(i:Int)+1) (by omega) (by omega),QQ1]
  rw[QL (by simp;omega),QQ1]
  have:=ih (i+1) _ (rfloor b p bad).2.2 (out++[(rfloor b p bad).1]) (by omega) (by simp[ho]) (Qh8 h hp bad)
  rw[show(i:Int)+1=((i+1:Nat):Int) by omega]
  refine this.trans ?_
  simp only[rfloors,QRc,QRv,QRe]
def QcX (b:List Int) (s:Qk) (bad:Bool):List Qf×List Qb×Bool:=bif !bad&&(QF s&&XI (QG (stB s)) (QG b))then(s.1,s.2,true)else([],[],false)
def stI (b:List Int):List Qf×List Qb×Bool:=
 let c1:=rcount b 0 false 5
 let q:=ritems b c1.1.toNat c1.2.1 c1.2.2
 let c2:=rcount b q.2.1 q.2.2 5
 let f:=rfloors b c2.1.toNat c2.2.1 c2.2.2
 QcX b (q.1,f.1) f.2.2
theorem QqV (a b:List Int):xk w (a,b)=some (XI (QG a) (QG b)):=by
 apply Qos
 rfl
theorem Qus {b:List Int}(h:Bs b):yy w b=some (stI b):=by
 apply Qnc
 have h0:=Pos.at0 b
 have k1:=zI h h0 false (most:=5) (by omega)
 obtain⟨c,hc⟩:∃c:Nat,(rcount b 0 false 5).1=(c:Int):=⟨(rcount b 0 false 5).1.toNat,by omega⟩
 have e1:=Qvb h c (by omega) [] c 0 (rcount b 0 false 5).2.1 (rcount b 0 false 5).2.2 [] (by omega) rfl k1.1
 have k2:=Qmt h c (rcount b 0 false 5).2.1 (rcount b 0 false 5).2.2 k1.1
 simp only[QQ6,QRe]at e1
 simp only[Qdz,stI,Qin h h0,QQ0,hc,QRb]
 rw[show Yc wl (b,(c:Int),0,[],[],b,(rcount b 0 false 5).2)=_ from e1]
 simp only[QQ0]
 generalize ritems b c (rcount b 0 false 5).2.1 (rcount b 0 false 5).2.2=q at k2
 have k3:=zI h k2.1 q.2.2 (most:=5) (by omega)
 obtain⟨c',hc'⟩:∃c:Nat,(rcount b q.2.1 q.2.2 5).1=(c:Int):=⟨(rcount b q.2.1 q.2.2 5).1.toNat,by omega⟩
 have e2:=Qs7 h c' (by omega) q.1 c' 0 (rcount b q.2.1 q.2.2 5).2.1 (rcount b q.2.1 q.2.2 5).2.2 [] (by omega) rfl k3.1
 have k4:=Qgm h c' (rcount b q.2.1 q.2.2 5).2.1 (rcount b q.2.1 q.2.2 5).2.2 k3.1
 simp only[QQ6,QRe]at e2
 simp only[Qin h k2.1,QQ0,hc',QRb]
 rw[show Z7 wl (b,(c':Int),0,q.1,[],b,(rcount b q.2.1 q.2.2 5).2)=_ from e2]
 simp only[QQ0]
 generalize rfloors b c' (rcount b q.2.1 q.2.2 5).2.1 (rcount b q.2.1 q.2.2 5).2.2=f at k4
 have hl1:q.1.length<=maxLen:=by simp only[maxLen];omega
 have hl2:f.1.length<=maxLen:=by simp only[maxLen];omega
 simp only[Ym q.1 f.1 hl1 hl2,Qb1 q.1 f.1 hl1 hl2,QqV,QQ0,QcX]
 cases f.2.2
 ·cases QF (q.1,f.1)
  ·rfl
  ·simp only[QQ1]
   cases XI (QG (stB (q.1,f.1))) (QG b)<;>rfl
 ·rfl
def pairs:List Int->List Qb
 |a::c::l=>(a,c)::pairs l
 |_=>[]
def sitem (b:List Int) (p:Int):Qf×Int×Bool×Bool:=
 let r2:=rnum b p false
 let r3:=rnum b r2.2.1 r2.2.2
 let r4:=rnum b r3.2.1 r3.2.2
 let r5:=rnum b r4.2.1 r4.2.2
 let r6:=rnum b r5.2.1 r5.2.2
 let r7:=XX b r6.2.1
 ((r2.1,r3.1,r4.1,r5.1,r6.1,r7.1),r7.2.1,r6.2.2,r7.2.2)
def sitems (b:List Int):Nat->Int->Bool->Option (List Qf×Int×Bool)
 |0,p,bad=>some ([],p,bad)
 |m+1,p,bad=>bif bad then some ([],p,bad)else(bif (sitem b p).2.2.1 then none else(bif (sitem b p).2.2.2 then(sitems b m (sitem b p).2.1 false).map (fun q=>((sitem b p).1::q.1,q.2))else none))
def sres (b:List Int) (n:Nat) (out:List Qf) (fl:List Qb):Option (List Qf×Int×Bool)->(Bool×List Qf×List Qb)⊕(List Int×Int×List Qf×List Qb×List Int×Int×Bool)
 |none=> .inl (false,[],[])
 |some q=> .inr (b,(n:Int),out++q.1,fl,b,q.2)
theorem Qpb {b:List Int}(h:Bs b) {p:Int}(hp:Pos b p) (ho:(sitem b p).2.2.2=true):Pos b (sitem b p).2.1:=by
 have h2:=(QC h hp false).1
 have h3:=(QC h h2 (rnum b p false).2.2).1
 have h4:=(QC h h3 (rnum b (rnum b p false).2.1 (rnum b p false).2.2).2.2).1
 exact QqK h (QC h (QC h h4 _).1 _).1 ho
theorem Qs3 {b:List Int}(h:Bs b) (n:Nat) (hn:n<=100) (fl:List Qb):(m i:Nat)->(p:Int)->(bad:Bool)->(out:List Qf)->i+m=n->out.length=i->Pos b p->Zs wl (b,(n:Int),(i:Int),out,fl,b,p,bad)=some (sres b n out fl (sitems b m p bad)):=by
 intro m
 induction m with
 |zero=>
  intro i p bad out hi ho hp
  apply J8
  simp only[JX,df (show¬(i:Int)<(n:Int) by omega),QQ2,sitems,sres,QY10]
 |succ m ih=>
  intro i p bad out hi ho hp
  apply J8
  cases bad
  ·have h2:=(QC h hp false).1
   have h3:=(QC h h2 (rnum b p false).2.2).1
   have h4:=(QC h h3 (rnum b (rnum b p false).2.1 (rnum b p false).2.2).2.2).1
   have h5:=(QC h h4 (rnum b (rnum b (rnum b p false).2.1 (rnum b p false).2.2).2.1 (rnum b (rnum b p false).2.1 (rnum b p false).2.2).2.2).2.2).1
   have h6:=fun bad=>(QC h h5 bad).1
   simp only[JX,dt (show(i:Int)<(n:Int) by omega),dt (show(n:Int)<=100 by omega),QQ4,Qc2 h hp,QQ0,xn h _ h2,xn h _ h3,xn h _ h4,xn h _ h5,Qse h (h6 _),w64 (n:=(i:Int)+1) (by omega) (by omega),QQ1]
   have ih':=fun ho=>ih (i+1) _ false (out++[(sitem b p).1]) (by omega) (by simp;omega) (Qpb h hp ho)
   rw[sitems]
   show(bif (sitem b p).2.2.1 then some (Sum.inl (false,[],[]))else bif !(sitem b p).2.2.2 then some (Sum.inl (false,[],[]))else bif fits (out.length+ [(sitem b p).1].length) 56 then Zs wl (b,(n:Int),(i:Int)+1,out++[(sitem b p).1],fl,b,(sitem b p).2.1,(sitem b p).2.2.1)else none)=_
   cases hb:(sitem b p).2.2.1
   ·cases ho:(sitem b p).2.2.2
    ·rfl
    ·rw[QL (by simp;omega)]
     simp only[QQ1,QQ2,QQ3]
     rw[show(i:Int)+1=((i+1:Nat):Int) by omega,ih' ho]
     cases sitems b m (sitem b p).2.1 false with
     |none=>rfl
     |some q=>simp only[sres,Option.map_some,QRc,QRv,QRe]
   ·rfl
  ·simp only[JX,dt (show(i:Int)<(n:Int) by omega),QQ3,QQ1,QQ2,sitems,sres,QY10]
theorem QlR {b:List Int}(h:Bs b):(m:Nat)->(p:Int)->(bad:Bool)->Pos b p->∀q,sitems b m p bad=some q->Pos b q.2.1/\q.1.length<=m
 |0,p,bad,hp,q,e=>by obtain rfl:=QY9 e;exact⟨hp,QY1 _⟩
 |m+1,p,bad,hp,q,e=>by
  rw[sitems]at e
  cases bad
  ·cases hb:(sitem b p).2.2.1
   ·cases ho:(sitem b p).2.2.2
    ·rw[hb,ho]at e;cases e
    ·rw[hb,ho]at e
     simp only[QQ1,QQ2]at e
     cases hs:sitems b m (sitem b p).2.1 false with
     |none=>rw[hs]at e;cases e
     |some r=>
      rw[hs]at e
      obtain rfl:=QY9 e
      have:=QlR h m _ false (Qpb h hp ho) r hs
      exact⟨this.1,by simp only[QY0];omega⟩
   ·rw[hb]at e;cases e
  ·obtain rfl:=QY9 e;exact⟨hp,by simp⟩
theorem Qjs:(l:List Int)->(pairs l).length<=l.length
 | []=>QY1 _
 | [_]=>by simp[pairs]
 |a::c::l=>by
  have:=Qjs l
  simp only[pairs,QY0];omega
theorem QmP (b full:List Int) (n:Int) (its:List Qf) (r:Int×Bool) (hf:full.length<=200):(l:List Int)->(i:Nat)->(out:List Qb)->full.drop i=l->i<=full.length->out.length<=i->Ko wl (b,n,(i:Int),its,out,full,b,r)=some (b,n,its,out++pairs l,b,r)
 | [],i,out,hd,hi,ho=>by
   have:full.length - i=0:=by rw[<-QY8,hd];rfl
   apply qb
   simp only[JJ,w64 (n:=(i:Int)+1) (by omega) (by omega),df (show¬(i:Int)+1<(full.length:Int) by omega),QQ2,pairs,QY10]
 | [x],i,out,hd,hi,ho=>by
   have:full.length - i=1:=by rw[<-QY8,hd];rfl
   apply qb
   simp only[JJ,w64 (n:=(i:Int)+1) (by omega) (by omega),df (show¬(i:Int)+1<(full.length:Int) by omega),QQ2,pairs,QY10]
 |x::y::l,i,out,hd,hi,ho=>by
  have hlen:full.length - i=l.length+2:=by rw[<-QY8,hd];rfl
  have hx:rd1 (0:Int) full (i:Int)=x:=by
   rw[Qj (show i<full.length by omega)]
   have:=QRa (show i<full.length by omega)
   rw[hd]at this
   exact(List.cons.inj this).1.symm
  have hd1:full.drop (i+1)=y::l:=by
   have:=QRa (show i<full.length by omega)
   rw[hd]at this
   exact(List.cons.inj this).2.symm
  have hy:rd1 (0:Int) full ((i+1:Nat):Int)=y:=by
   rw[Qj (show i+1<full.length by omega)]
   have:=QRa (show i+1<full.length by omega)
   rw[hd1]at this
   exact(List.cons.inj this).1.symm
  have hd2:full.drop (i+2)=l:=by
   have:=QRa (show i+1<full.length by omega)
   rw[hd1]at this
   exact(List.cons.inj this).2.symm
  have ih:=QmP b full n its r hf l (i+2) (out++[(x,y)]) hd2 (by omega) (by simp;omega)
  apply qb
  simp only[JJ,w64 (n:=((i+1:Nat):Int)) (by omega) (by omega),w64 (n:=(i:Int)+2) (by omega) (by omega),dt (show((i+1:Nat):Int)<(full.length:Int) by omega),QQ1,Qo (show i<full.length by omega),show(i:Int)+1=((i+1:Nat):Int) by omega,Qo (show i+1<full.length by omega),hx,hy]
  rw[QL (by simp;omega),QQ1,show(i:Int)+2=((i+2:Nat):Int) by omega,ih]
  simp only[pairs,QRc,QRv,QRe]
def zu (b:List Int):Option (List Qf×Int×Bool):=bif decide (100<(rnum b 0 false).1)then some ([],(rnum b 0 false).2)else sitems b (rnum b 0 false).1.toNat (rnum b 0 false).2.1 (rnum b 0 false).2.2
def QyB (b:List Int):Option (List Qf×Int×Bool)->List Qf×List Qb×Bool
 |none=>([],[],false)
 |some q=>QcX b (q.1,pairs (rmany b q.2.1 q.2.2 2).1) ((rmany b q.2.1 q.2.2 2).2.2||decide (100<(rnum b 0 false).1))
def stS (b:List Int):List Qf×List Qb×Bool:=QyB b (zu b)
theorem QsD {b:List Int}(h:Bs b):zK w b=some (stS b):=by
 apply Qnd
 have h0:=Pos.at0 b
 have k1:=QC h h0 false
 obtain⟨n,hn⟩:∃n:Nat,(rnum b 0 false).1=(n:Int):=⟨(rnum b 0 false).1.toNat,by omega⟩
 have e1:Zs wl (b,(n:Int),0,[],[],b,(rnum b 0 false).2)=some (sres b n [] [] (zu b))/\∀q,zu b=some q->Pos b q.2.1/\q.1.length<=100:=by
  unfold zu
  rw[hn]
  by_cases h100:(100:Int)<(n:Int)
  ·rw[dt h100]
   refine⟨?_,fun q e=>by obtain rfl:=QY9 e;exact⟨k1.1,by simp⟩⟩
   have hb:(rnum b 0 false).2.2=false:=by
    cases hb:(rnum b 0 false).2.2
    ·rfl
    ·have:=Qra hb;omega
   apply J8
   show(bif decide ((0:Int)<(n:Int))then(bif !(rnum b 0 false).2.2 then(bif decide ((n:Int)<=100)then _ else some (Sum.inr (b,(n:Int),[],[],b,(rnum b 0 false).2.1,(rnum b 0 false).2.2)))else _)else _)=_
   rw[dt (show(0:Int)<(n:Int) by omega),hb,df (show¬(n:Int)<=100 by omega)]
   have e2:(rnum b 0 false).2=((rnum b 0 false).2.1,false):=Prod.ext rfl hb
   simp only[QQ4,QQ1,QQ2,sres,QY10]
   rw[e2]
  ·rw[df h100]
   simp only[QQ2,QRb]
   exact⟨Qs3 h n (by omega) [] n 0 _ _ [] (by omega) rfl k1.1,fun q e=>by
    have:=QlR h n _ _ k1.1 q e
    exact⟨this.1,by omega⟩⟩
 simp only[QeT,Qc2 h h0,QQ0,hn,stS]
 rw[e1.1]
 simp only[QQ0]
 cases hs:zu b with
 |none=>rfl
 |some q=>
  obtain⟨hq,hql⟩:=e1.2 q hs
  have k2:=Qbo h hq q.2.2 2 (by omega)
  have hm:Xx w (b,q.2.1,q.2.2,2)=some (rmany b q.2.1 q.2.2 2):=Qhn h hq q.2.2 2 (by omega) (by omega)
  simp only[sres,Qp,QY3,QRe,hm,QQ0,QyB,hn]
  have e2:=QmP b (rmany b q.2.1 q.2.2 2).1 (n:Int) q.1 (rmany b q.2.1 q.2.2 2).2 k2.2 (rmany b q.2.1 q.2.2 2).1 0 [] rfl (by omega) (by simp)
  simp only[QQ6,QRe]at e2
  rw[e2]
  have hpl:=Qjs (rmany b q.2.1 q.2.2 2).1
  generalize rmany b q.2.1 q.2.2 2=f at k2 hpl
  have hl1:q.1.length<=maxLen:=by simp only[maxLen];omega
  have hl2:(pairs f.1).length<=maxLen:=by simp only[maxLen];omega
  simp only[QQ0,KV q.1 (pairs f.1) hl1 hl2,QcX]
  cases f.2.2
  ·cases decide ((100:Int)<(n:Int))
   ·cases hso:QF (q.1,pairs f.1)
    ·rfl
    ·simp only[Qjw q.1 (pairs f.1) (J0 hso),QQ0]
     cases XI (QG (stB (q.1,pairs f.1))) (QG b)<;>rfl
   ·rfl
  ·rfl
theorem QzD {x:Qf}(h1:inR x.1 0 4=true) (h2:XP x.2=true):inN x.1/\inN x.2.1/\inN x.2.2.1/\inN x.2.2.2.1/\inN x.2.2.2.2.1/\x.2.2.2.2.2.size<=8:=by
 have:=Q4.1 h1
 have:=Qlg h2
 unfold inN;omega
theorem QvC {b:List Int}{p:Int}{x:Qf}{l:List Int}(h1:inR x.1 0 4=true) (h2:XP x.2=true) (h:Enc b p (XU x++l)):∃p',ritem b p false=(x,p',false)/\sitem b p=(x,p',false,true)/\Enc b p' l:=by
 obtain⟨n1,n2,n3,n4,n5,n6⟩:=QzD h1 h2
 unfold XU at h
 simp only[QRc]at h
 obtain⟨p1,e1,q1⟩:=Xp h n1.1 n1.2
 obtain⟨p2,e2,q2⟩:=Xp q1 n2.1 n2.2
 obtain⟨p3,e3,q3⟩:=Xp q2 n3.1 n3.2
 obtain⟨p4,e4,q4⟩:=Xp q3 n4.1 n4.2
 obtain⟨p5,e5,q5⟩:=Xp q4 n5.1 n5.2
 obtain⟨p6,e6,q6⟩:=Qxg q5 n6
 refine⟨p6, ?_, ?_,q6⟩
 ·simp only[ritem,e1,e2,e3,e4,e5,rtext,e6,QQ2,QQ1]
 ·simp only[sitem,e1,e2,e3,e4,e5,e6]
theorem Qhz {b l:List Int}:(xs:List Qf)->(p:Int)->(∀x∈xs,inR x.1 0 4=true/\XP x.2=true)->Enc b p (xs.flatMap XU++l)->∃p',ritems b xs.length p false=(xs,p',false)/\sitems b xs.length p false=some (xs,p',false)/\Enc b p' l
 | [],p,_,h=>⟨p,rfl,rfl,h⟩
 |x::xs,p,hx,h=>by
  rw[QY7,QRc]at h
  obtain⟨p1,e1,s1,h1⟩:=QvC (hx x (by simp)).1 (hx x (by simp)).2 h
  obtain⟨p2,e2,s2,h2⟩:=Qhz xs p1 (fun y hy=>hx y (by simp[hy])) h1
  refine⟨p2, ?_, ?_,h2⟩
  ·simp only[QY0,ritems,e1,e2]
  ·simp only[QY0,sitems,s1,QQ2,QQ1,s2,Option.map_some]
theorem Qf9 {b l:List Int}:(xs:List Qb)->(p:Int)->(∀x∈xs,inN x.1/\inN x.2)->Enc b p (xs.flatMap Q2++l)->∃p',rfloors b xs.length p false=(xs,p',false)/\Enc b p' l
 | [],p,_,h=>⟨p,rfl,h⟩
 |x::xs,p,hx,h=>by
  rw[QY7,QRc,Q2,QRc]at h
  obtain⟨p1,e1,h1⟩:=Xp h (hx x (by simp)).1.1 (hx x (by simp)).1.2
  obtain⟨p2,e2,h2⟩:=Xp h1 (hx x (by simp)).2.1 (hx x (by simp)).2.2
  obtain⟨p3,e3,h3⟩:=Qf9 xs p2 (fun y hy=>hx y (by simp[hy])) h2
  exact⟨p3,by simp only[QY0,rfloors,rfloor,e1,e2,e3],h3⟩
def jo (xs:List Qb):List Int:=xs.flatMap fun x=>[x.1,x.2]
theorem Qge:(xs:List Qb)->(jo xs).flatMap Qd=xs.flatMap Q2
 | []=>rfl
 |x::xs=>by
  have:=Qge xs
  simp only[jo,QY7,List.flatMap_append,QRv,QRe,List.flatMap_nil,Q2,QRc]at this⊢
  rw[this]
theorem Qi8:(xs:List Qb)->(jo xs).length=xs.length*2
 | []=>rfl
 |x::xs=>by
  have:=Qi8 xs
  simp only[jo,QY7,QRj,QY0,QY18]at this⊢
  omega
theorem Qgp:(xs:List Qb)->pairs (jo xs)=xs
 | []=>rfl
 |x::xs=>by
  have:=Qgp xs
  simp only[jo,QY7,QRv,QRe,pairs]at this⊢
  rw[this]
theorem Qil {p:Int}{l:List Qb}(h:QH p l=true):∀x∈l,inN x.1/\inN x.2:=fun x hx=>by
 have:=QhC _ _ h x hx
 have h1:=Q4.1 this.1
 have h2:=Q4.1 this.2
 unfold inN;omega
theorem Qpl {l:List Qb}(h:∀x∈l,inN x.1/\inN x.2):∀n∈jo l,inN n:=fun n hn=>by
 obtain⟨x,hx,hnx⟩:=List.mem_flatMap.1 hn
 rcases QRk.1 hnx with rfl|hnx
 ·exact(h x hx).1
 ·obtain rfl:=List.mem_singleton.1 hnx
  exact(h x hx).2
theorem QoL {s:Qk}(h:QF s=true):stI (stB s)=(s.1,s.2,true)/\stS (stB s)=(s.1,s.2,true):=by
 have hl:=VR h
 have hit:=Qm7 h
 have hfl:QH (-1) s.2=true:=by simp only[QF,QQ5]at h;exact h.1
 have hE:Enc (stB s) 0 (Qd (s.1.length:Nat)++(s.1.flatMap XU++(Qd (s.2.length:Nat)++(s.2.flatMap Q2++[])))):=by
  rw[QY10];exact Enc.start _
 have hEnd:QcX (stB s) (s.1,s.2) false=(s.1,s.2,true):=by
  unfold QcX
  rw[show QF (s.1,s.2)=true from h,show XI (QG (stB (s.1,s.2))) (QG (stB s))=true from QZ _];rfl
 constructor
 ·obtain⟨p1,e1,q1⟩:=QcQ (most:=5) hE (by omega) (by omega) (by omega)
  obtain⟨p2,e2,_,q2⟩:=Qhz s.1 p1 hit q1
  obtain⟨p3,e3,q3⟩:=QcQ (most:=5) q2 (by omega) (by omega) (by omega)
  obtain⟨p4,e4,q4⟩:=Qf9 s.2 p3 (Qil hfl) q3
  simp only[stI,e1,QRb,e2,e3,e4]
  exact hEnd
 ·obtain⟨p1,e1,q1⟩:=Xp hE (by omega) (by omega)
  obtain⟨p2,_,e2,q2⟩:=Qhz s.1 p1 hit q1
  rw[<-Qge]at q2
  obtain⟨p3,e3,q3⟩:=QaQ 2 s.2.length (Qpl (Qil hfl)) (Qi8 s.2) hl.2 q2
  have e0:zu (stB s)=some (s.1,p2,false):=by
   unfold zu
   rw[e1]
   simp only[df (show¬(100:Int)<((s.1.length:Nat):Int) by omega),QQ2,QRb,e2]
  unfold stS
  rw[e0]
  simp only[QyB,e3,Qgp,e1,df (show¬(100:Int)<((s.1.length:Nat):Int) by omega),Bool.or_false]
  exact hEnd
theorem Qrv (b:List Int) (hb:isB b) (s:Qk) (bad:Bool):QcX b s bad=([],[],false)\/(QcX b s bad=(s.1,s.2,true)/\QF s=true/\stB s=b):=by
 unfold QcX
 cases bad
 ·cases h1:QF s
  ·exact .inl rfl
  ·cases h2:XI (QG (stB s)) (QG b)
   ·exact .inl rfl
   ·refine .inr ⟨rfl,rfl,Qj2 (QtO s) hb ?_⟩
    rw[QjA]at h2
    exact of_decide_eq_true h2
 ·exact .inl rfl
theorem QwN {b:List Int}(hb:isB b):stI b=([],[],false)\/∃s:Qk,stI b=(s.1,s.2,true)/\QF s=true/\stB s=b:=by
 rcases Qrv b hb ((ritems b (rcount b 0 false 5).1.toNat (rcount b 0 false 5).2.1 (rcount b 0 false 5).2.2).1,(rfloors b (rcount b (ritems b (rcount b 0 false 5).1.toNat (rcount b 0 false 5).2.1 (rcount b 0 false 5).2.2).2.1 (ritems b (rcount b 0 false 5).1.toNat (rcount b 0 false 5).2.1 (rcount b 0 false 5).2.2).2.2 5).1.toNat (rcount b (ritems b (rcount b 0 false 5).1.toNat (rcount b 0 false 5).2.1 (rcount b 0 false 5).2.2).2.1 (ritems b (rcount b 0 false 5).1.toNat (rcount b 0 false 5).2.1 (rcount b 0 false 5).2.2).2.2 5).2.1 (rcount b (ritems b (rcount b 0 false 5).1.toNat (rcount b 0 false 5).2.1 (rcount b 0 false 5).2.2).2.1 (ritems b (rcount b 0 false 5).1.toNat (rcount b 0 false 5).2.1 (rcount b 0 false 5).2.2).2.2 5).2.2).1) (rfloors b (rcount b (ritems b (rcount b 0 false 5).1.toNat (rcount b 0 false 5).2.1 (rcount b 0 false 5).2.2).2.1 (ritems b (rcount b 0 false 5).1.toNat (rcount b 0 false 5).2.1 (rcount b 0 false 5).2.2).2.2 5).1.toNat (rcount b (ritems b (rcount b 0 false 5).1.toNat (rcount b 0 false 5).2.1 (rcount b 0 false 5).2.2).2.1 (ritems b (rcount b 0 false 5).1.toNat (rcount b 0 false 5).2.1 (rcount b 0 false 5).2.2).2.2 5).2.1 (rcount b (ritems b (rcount b 0 false 5).1.toNat (rcount b 0 false 5).2.1 (rcount b 0 false 5).2.2).2.1 (ritems b (rcount b 0 false 5).1.toNat (rcount b 0 false 5).2.1 (rcount b 0 false 5).2.2).2.2 5).2.2).2.2 with h|⟨h,h1,h2⟩
 ·exact .inl h
 ·exact .inr ⟨_,h,h1,h2⟩
theorem QAJ {b:List Int}(hb:isB b):stS b=([],[],false)\/∃s:Qk,stS b=(s.1,s.2,true)/\QF s=true/\stB s=b:=by
 unfold stS
 cases zu b with
 |none=>exact .inl rfl
 |some q=>
  rcases Qrv b hb (q.1,pairs (rmany b q.2.1 q.2.2 2).1) ((rmany b q.2.1 q.2.2 2).2.2||decide (100<(rnum b 0 false).1))with h|⟨h,h1,h2⟩
  ·exact .inl h
  ·exact .inr ⟨_,h,h1,h2⟩
theorem Qzm {b:List Int}(hb:isB b):stS b=stI b:=by
 rcases QwN hb with h|⟨s,h,h1,h2⟩
 ·rcases QAJ hb with h'|⟨s,h',h1,h2⟩
  ·rw[h,h']
  ·rw[<-h2,(QoL h1).1]at h
   exact absurd (congrArg (fun z:List Qf×List Qb×Bool=>z.2.2) h) (by simp)
 ·rw[h,<-h2,(QoL h1).2]
abbrev vA:Type:=Int×Int×Int×Int×Int×(List Int)×Int×(List Int)×(List Int)×(List Qf)×(List Qb)×(List Qb)×Bool
def Qdy:vA:=(0,0,0,0,0,[],0,[],[],[],[],[],false)
def QcP (m:Q1):vA:=(m.1,m.2.1,m.2.2.1,m.2.2.2.1,m.2.2.2.2.1,m.2.2.2.2.2.1,m.2.2.2.2.2.2.1,m.2.2.2.2.2.2.2.1,m.2.2.2.2.2.2.2.2.1,m.2.2.2.2.2.2.2.2.2.1,m.2.2.2.2.2.2.2.2.2.2.1,m.2.2.2.2.2.2.2.2.2.2.2,true)
def bytesOf (m:Q1):List Int:=xY m.1 m.2.1 m.2.2.1 m.2.2.2.1 m.2.2.2.2.1 m.2.2.2.2.2.1 m.2.2.2.2.2.2.1 m.2.2.2.2.2.2.2.1 m.2.2.2.2.2.2.2.2.1 m.2.2.2.2.2.2.2.2.2.1 m.2.2.2.2.2.2.2.2.2.2.1 m.2.2.2.2.2.2.2.2.2.2.2
def QiL (b:List Int) (m:Q1) (bad:Bool):vA:=bif !bad&&(Vt m&&XI (QG (bytesOf m)) (QG b))then QcP m else Qdy
def Quj (b:List Int):Option (Q1×Bool)->vA
 |none=>Qdy
 |some r=>QiL b r.1 r.2
structure Hd where
 a0:Int
 a1:Int
 a2:Int
 a3:Int
 a4:Int
 a5:List Int
 a6:Int
 a7:List Int
 a8:List Int
 n:Int
 p:Int
 bad:Bool
def hi1 (c:List Int):Int×Int×Bool:=rnum c 2 false
def hi2 (c:List Int):Int×Int×Bool:=rnum c (hi1 c).2.1 (hi1 c).2.2
def hi3 (c:List Int):Int×Int×Bool:=rnum c (hi2 c).2.1 (hi2 c).2.2
def hi4 (c:List Int):Int×Int×Bool:=rnum c (hi3 c).2.1 (hi3 c).2.2
def hi5 (c:List Int):Int×Int×Bool:=rnum c (hi4 c).2.1 (hi4 c).2.2
def hi6 (c:List Int):List Int×Int×Bool:=rnums c (hi5 c).2.1 (hi5 c).2.2 4
def hi7 (c:List Int):Int×Int×Bool:=rnum c (hi6 c).2.1 (hi6 c).2.2
def hi8 (c:List Int):List Int×Int×Bool:=rnums c (hi7 c).2.1 (hi7 c).2.2 5
def hi9 (c:List Int):List Int×Int×Bool:=rnums c (hi8 c).2.1 (hi8 c).2.2 4
def QU (c:List Int):Int×Int×Bool:=rnum c (hi9 c).2.1 (hi9 c).2.2
def hdI (c:List Int):Hd:=⟨(hi1 c).1,(hi2 c).1,(hi3 c).1,(hi4 c).1,(hi5 c).1,(hi6 c).1,(hi7 c).1,(hi8 c).1,(hi9 c).1,(QU c).1,(QU c).2.1,(QU c).2.2⟩
def hs1 (c:List Int):Int×Int×Bool:=rnum c 2 false
def hs2 (c:List Int):Int×Int×Bool:=rnum c (hs1 c).2.1 (hs1 c).2.2
def hs3 (c:List Int):Int×Int×Bool:=rnum c (hs2 c).2.1 (hs2 c).2.2
def hs4 (c:List Int):Int×Int×Bool:=rnum c (hs3 c).2.1 (hs3 c).2.2
def hs5 (c:List Int):Int×Int×Bool:=rnum c (hs4 c).2.1 (hs4 c).2.2
def hs6 (c:List Int):List Int×Int×Bool:=rmany c (hs5 c).2.1 (hs5 c).2.2 1
def hs7 (c:List Int):Int×Int×Bool:=rnum c (hs6 c).2.1 (hs6 c).2.2
def hs8 (c:List Int):List Int×Int×Bool:=rmany c (hs7 c).2.1 (hs7 c).2.2 1
def hs9 (c:List Int):List Int×Int×Bool:=rmany c (hs8 c).2.1 (hs8 c).2.2 1
def Q0 (c:List Int):Int×Int×Bool:=rnum c (hs9 c).2.1 (hs9 c).2.2
def hdS (c:List Int):Hd:=⟨(hs1 c).1,(hs2 c).1,(hs3 c).1,(hs4 c).1,(hs5 c).1,(hs6 c).1,(hs7 c).1,(hs8 c).1,(hs9 c).1,(Q0 c).1,(Q0 c).2.1,(Q0 c).2.2⟩
def body (b:List Int):List Int:=List.take ((b.length:Int) - 4).toNat b
def cut (b:List Int) (p n:Int):List Int:=List.take n.toNat (List.drop p.toNat b)
def Qt7 (b:List Int) (h:Hd):Option (Q1×Bool):=bif h.bad then none else(bif decide ((b.length:Int) - 4 - h.p<h.n)then none else(bif (stI (cut b h.p h.n)).2.2 then
 some ((h.a0,h.a1,h.a2,h.a3,h.a4,h.a5,h.a6,h.a7,h.a8,(stI (cut b h.p h.n)).1,(stI (cut b h.p h.n)).2.1,(rfloors (body b) (rcount (body b) (h.p+h.n) h.bad 5).1.toNat (rcount (body b) (h.p+h.n) h.bad 5).2.1 (rcount (body b) (h.p+h.n) h.bad 5).2.2).1),(rfloors (body b) (rcount (body b) (h.p+h.n) h.bad 5).1.toNat (rcount (body b) (h.p+h.n) h.bad 5).2.1 (rcount (body b) (h.p+h.n) h.bad 5).2.2).2.2)else none))
def Quz (b:List Int) (h:Hd):Option (Q1×Bool):=bif h.bad then none else(bif decide ((b.length:Int) - 4 - h.p<h.n)then none else
 some ((h.a0,h.a1,h.a2,h.a3,h.a4,h.a5,h.a6,h.a7,h.a8,(stS (cut (body b) h.p h.n)).1,(stS (cut (body b) h.p h.n)).2.1,pairs (rmany (body b) (h.p+h.n) h.bad 2).1),(rmany (body b) (h.p+h.n) h.bad 2).2.2|| !(stS (cut (body b) h.p h.n)).2.2))
def Qb2 (b:List Int):vA:=bif decide ((b.length:Int) - 4<2)then Qdy else(bif XI (QG (List.take 2 b)) (⟨#[82,75]⟩:ByteArray)then Quj b (Qt7 b (hdI (body b)))else Qdy)
def Qjx (b:List Int):vA:=bif decide ((b.length:Int)<6)then Qdy else(bif XI (QG (Y0 (crc (body b)))) (QG (List.drop ((b.length:Int) - 4).toNat b))then Quj b (Quz b (hdS (body b)))else Qdy)
theorem QtG {b:List Int}(h:Bs b):Bs (body b):=⟨fun x hx=>h.isb x (List.mem_of_mem_take hx),by have:=h.len;unfold body;rw[QY30];omega⟩
theorem Qrj {b:List Int}(h:6<=b.length):(body b).length=b.length - 4:=by unfold body;rw[QY30];omega
theorem Qnp {b:List Int}(h:Bs b) (p n:Int):Bs (cut b p n):=⟨fun x hx=>h.isb x (List.mem_of_mem_drop (List.mem_of_mem_take hx)),by have:=h.len;unfold cut;rw[QY30,QY8];omega⟩
theorem Qts {c:List Int}(h:Bs c) (h2:2<=c.length):Pos c (hi1 c).2.1/\Pos c (hi2 c).2.1/\Pos c (hi3 c).2.1/\Pos c (hi4 c).2.1/\Pos c (hi5 c).2.1/\Pos c (hi6 c).2.1/\Pos c (hi7 c).2.1/\Pos c (hi8 c).2.1/\Pos c (hi9 c).2.1/\Pos c (QU c).2.1/\0<=(QU c).1/\(QU c).1<=2147483647/\(hi6 c).1.length<=4/\(hi8 c).1.length<=5/\(hi9 c).1.length<=4:=by
 have k0:Pos c 2:=⟨2,rfl,h2⟩
 have k1:Pos c (hi1 c).2.1/\0<=(hi1 c).1/\(hi1 c).1<=2147483647:=QC h k0 _
 have k2:Pos c (hi2 c).2.1/\0<=(hi2 c).1/\(hi2 c).1<=2147483647:=QC h k1.1 _
 have k3:Pos c (hi3 c).2.1/\0<=(hi3 c).1/\(hi3 c).1<=2147483647:=QC h k2.1 _
 have k4:Pos c (hi4 c).2.1/\0<=(hi4 c).1/\(hi4 c).1<=2147483647:=QC h k3.1 _
 have k5:Pos c (hi5 c).2.1/\0<=(hi5 c).1/\(hi5 c).1<=2147483647:=QC h k4.1 _
 have k6:Pos c (hi6 c).2.1/\(hi6 c).1.length<=4:=⟨(zj h k5.1 _ (by omega)).1,Int.ofNat_le.1 (zj h k5.1 _ (by omega)).2⟩
 have k7:Pos c (hi7 c).2.1/\0<=(hi7 c).1/\(hi7 c).1<=2147483647:=QC h k6.1 _
 have k8:Pos c (hi8 c).2.1/\(hi8 c).1.length<=5:=⟨(zj h k7.1 _ (by omega)).1,Int.ofNat_le.1 (zj h k7.1 _ (by omega)).2⟩
 have k9:Pos c (hi9 c).2.1/\(hi9 c).1.length<=4:=⟨(zj h k8.1 _ (by omega)).1,Int.ofNat_le.1 (zj h k8.1 _ (by omega)).2⟩
 have k10:Pos c (QU c).2.1/\0<=(QU c).1/\(QU c).1<=2147483647:=QC h k9.1 _
 exact⟨k1.1,k2.1,k3.1,k4.1,k5.1,k6.1,k7.1,k8.1,k9.1,k10.1,k10.2.1,k10.2.2,k6.2,k8.2,k9.2⟩
theorem QAB {c:List Int}(h:Bs c) (h2:2<=c.length):Qs w (c,2,false)=some (hi1 c)/\Qs w (c,(hi1 c).2)=some (hi2 c)/\Qs w (c,(hi2 c).2)=some (hi3 c)/\Qs w (c,(hi3 c).2)=some (hi4 c)/\Qs w (c,(hi4 c).2)=some (hi5 c)/\XH w (c,(hi5 c).2.1,(hi5 c).2.2,4)=some (hi6 c)/\Qs w (c,(hi6 c).2)=some (hi7 c)/\XH w (c,(hi7 c).2.1,(hi7 c).2.2,5)=some (hi8 c)/\XH w (c,(hi8 c).2.1,(hi8 c).2.2,4)=some (hi9 c)/\Qs w (c,(hi9 c).2)=some (QU c):=by
 obtain⟨k1,k2,k3,k4,k5,k6,k7,k8,k9,k10,_⟩:=Qts h h2
 have k0:Pos c 2:=⟨2,rfl,h2⟩
 exact⟨QdY h k0 false,xN h _ k1,xN h _ k2,xN h _ k3,xN h _ k4,QnS h k5 _ _ (by omega) (by omega),xN h _ k6,QnS h k7 _ _ (by omega) (by omega),QnS h k8 _ _ (by omega) (by omega),xN h _ k9⟩
theorem QtI {c:List Int}(h:Bs c) (h2:2<=c.length):Pos c (hs1 c).2.1/\Pos c (hs2 c).2.1/\Pos c (hs3 c).2.1/\Pos c (hs4 c).2.1/\Pos c (hs5 c).2.1/\Pos c (hs6 c).2.1/\Pos c (hs7 c).2.1/\Pos c (hs8 c).2.1/\Pos c (hs9 c).2.1/\Pos c (Q0 c).2.1/\0<=(Q0 c).1/\(Q0 c).1<=2147483647/\(hs6 c).1.length<=200/\(hs8 c).1.length<=200/\(hs9 c).1.length<=200:=by
 have k0:Pos c 2:=⟨2,rfl,h2⟩
 have k1:Pos c (hs1 c).2.1/\0<=(hs1 c).1/\(hs1 c).1<=2147483647:=QC h k0 _
 have k2:Pos c (hs2 c).2.1/\0<=(hs2 c).1/\(hs2 c).1<=2147483647:=QC h k1.1 _
 have k3:Pos c (hs3 c).2.1/\0<=(hs3 c).1/\(hs3 c).1<=2147483647:=QC h k2.1 _
 have k4:Pos c (hs4 c).2.1/\0<=(hs4 c).1/\(hs4 c).1<=2147483647:=QC h k3.1 _
 have k5:Pos c (hs5 c).2.1/\0<=(hs5 c).1/\(hs5 c).1<=2147483647:=QC h k4.1 _
 have k6:Pos c (hs6 c).2.1/\(hs6 c).1.length<=200:=Qbo h k5.1 _ 1 (by omega)
 have k7:Pos c (hs7 c).2.1/\0<=(hs7 c).1/\(hs7 c).1<=2147483647:=QC h k6.1 _
 have k8:Pos c (hs8 c).2.1/\(hs8 c).1.length<=200:=Qbo h k7.1 _ 1 (by omega)
 have k9:Pos c (hs9 c).2.1/\(hs9 c).1.length<=200:=Qbo h k8.1 _ 1 (by omega)
 have k10:Pos c (Q0 c).2.1/\0<=(Q0 c).1/\(Q0 c).1<=2147483647:=QC h k9.1 _
 exact⟨k1.1,k2.1,k3.1,k4.1,k5.1,k6.1,k7.1,k8.1,k9.1,k10.1,k10.2.1,k10.2.2,k6.2,k8.2,k9.2⟩
theorem QAd {c:List Int}(h:Bs c) (h2:2<=c.length):QO w (c,2,false)=some (hs1 c)/\QO w (c,(hs1 c).2)=some (hs2 c)/\QO w (c,(hs2 c).2)=some (hs3 c)/\QO w (c,(hs3 c).2)=some (hs4 c)/\QO w (c,(hs4 c).2)=some (hs5 c)/\Xx w (c,(hs5 c).2.1,(hs5 c).2.2,1)=some (hs6 c)/\QO w (c,(hs6 c).2)=some (hs7 c)/\Xx w (c,(hs7 c).2.1,(hs7 c).2.2,1)=some (hs8 c)/\Xx w (c,(hs8 c).2.1,(hs8 c).2.2,1)=some (hs9 c)/\QO w (c,(hs9 c).2)=some (Q0 c):=by
 obtain⟨k1,k2,k3,k4,k5,k6,k7,k8,k9,k10,_⟩:=QtI h h2
 have k0:Pos c 2:=⟨2,rfl,h2⟩
 exact⟨Qc2 h k0 false,xn h _ k1,xn h _ k2,xn h _ k3,xn h _ k4,Qhn h k5 _ 1 (by omega) (by omega),xn h _ k6,Qhn h k7 _ 1 (by omega) (by omega),Qhn h k8 _ 1 (by omega) (by omega),xn h _ k9⟩
theorem Qx2 (r:Int):isB (Y0 r):=fun x hx=>by
 simp only[Y0,QRk,List.not_mem_nil,or_false]at hx
 rcases hx with rfl|rfl|rfl|rfl<;>exact wrap_u8 _
theorem QDY (bad ok eq:Bool) (r z:vA):(bif bad then some z else(bif !ok then some z else(bif !eq then some z else some r)))=some (bif !bad&&(ok&&eq)then r else z):=by
 cases bad<;>cases ok<;>cases eq<;>rfl
theorem QDs (so bad ok eq:Bool) (r z:vA):(bif !so then some z else(bif bad then some z else(bif !ok then some z else(bif !eq then some z else some r))))=some (bif !(bad|| !so)&&(ok&&eq)then r else z):=by
 cases so<;>cases bad<;>cases ok<;>cases eq<;>rfl
theorem Qtj {b:List Int}(hb:isB b):(stI b).1.length<=5/\(stI b).2.1.length<=5:=by
 rcases QwN hb with h|⟨s,h,h1,_⟩
 ·rw[h];simp
 ·rw[h];exact VR h1
theorem QzK {b:List Int}(hb:isB b):(stS b).1.length<=5/\(stS b).2.1.length<=5:=by rw[Qzm hb];exact Qtj hb
theorem QuL {c:List Int}(h:Bs c) (b:List Int) (n:Nat) (hn:n<=5) (a0 a1 a2 a3 a4:Int) (a5:List Int) (a6:Int) (a7 a8:List Int) (a9:List Qf) (a10:List Qb):(m i:Nat)->(p:Int)->(bad:Bool)->(out:List Qb)->i+m=n->out.length=i->Pos c p->Y3 wl (b,(n:Int),(i:Int),a0,a1,a2,a3,a4,a5,a6,a7,a8,a9,a10,out,c,p,bad)=some (b,a0,a1,a2,a3,a4,a5,a6,a7,a8,a9,a10,out++(rfloors c m p bad).1,c,(rfloors c m p bad).2):=by
 intro m
 induction m with
 |zero=>
  intro i p bad out hi ho hp
  apply Qd0
  simp only[QbY,df (show¬(i:Int)<(n:Int) by omega),QQ2,rfloors,QY10]
 |succ m ih=>
  intro i p bad out hi ho hp
  apply Qd0
  have h2:=(QC h hp bad).1
  simp only[QbY,dt (show(i:Int)<(n:Int) by omega),QdY h hp,QQ0,xN h _ h2,w64 (n:=(i:Int)+1) (by omega) (by omega),QQ1]
  rw[QL (by simp;omega),QQ1]
  have:=ih (i+1) _ (rfloor c p bad).2.2 (out++[(rfloor c p bad).1]) (by omega) (by simp[ho]) (Qh8 h hp bad)
  rw[show(i:Int)+1=((i+1:Nat):Int) by omega]
  refine this.trans ?_
  simp only[rfloors,QRc,QRv,QRe]
theorem Qto (b:List Int) (a0 a1 a2 a3 a4:Int) (a5:List Int) (a6:Int) (a7 a8:List Int) (n p:Int) (bad:Bool):Qt7 b ⟨a0,a1,a2,a3,a4,a5,a6,a7,a8,n,p,bad⟩=bif bad then none else(bif decide ((b.length:Int) - 4 - p<n)then none else(bif (stI (cut b p n)).2.2 then
 some ((a0,a1,a2,a3,a4,a5,a6,a7,a8,(stI (cut b p n)).1,(stI (cut b p n)).2.1,(rfloors (body b) (rcount (body b) (p+n) bad 5).1.toNat (rcount (body b) (p+n) bad 5).2.1 (rcount (body b) (p+n) bad 5).2.2).1),(rfloors (body b) (rcount (body b) (p+n) bad 5).1.toNat (rcount (body b) (p+n) bad 5).2.1 (rcount (body b) (p+n) bad 5).2.2).2.2)else none)):=by unfold Qt7;rfl
theorem Qti (b:List Int) (a0 a1 a2 a3 a4:Int) (a5:List Int) (a6:Int) (a7 a8:List Int) (n p:Int) (bad:Bool):Quz b ⟨a0,a1,a2,a3,a4,a5,a6,a7,a8,n,p,bad⟩=bif bad then none else(bif decide ((b.length:Int) - 4 - p<n)then none else
 some ((a0,a1,a2,a3,a4,a5,a6,a7,a8,(stS (cut (body b) p n)).1,(stS (cut (body b) p n)).2.1,pairs (rmany (body b) (p+n) bad 2).1),(rmany (body b) (p+n) bad 2).2.2|| !(stS (cut (body b) p n)).2.2)):=by unfold Quz;rfl
set_option maxHeartbeats 2000000 in
theorem Qxk {b:List Int}(h:Bs b):QcM w b=some (Qb2 b):=by
 apply QpJ
 have hl:=h.len
 simp only[Qhb,w64 (n:=(b.length:Int) - 4) (by omega) (by omega),Qb2]
 by_cases h6:(b.length:Int) - 4<2
 ·simp only[dt h6,QQ1];rfl
 have hb6:6<=b.length:=by omega
 have eb:List.take (Int.toNat ((b.length:Int) - 4 - 0)) (List.drop (Int.toNat 0) b)=body b:=by simp only[Int.sub_zero,Int.toNat_zero,QRg,body]
 have e2:List.take (Int.toNat (2 - 0)) (List.drop (Int.toNat 0) b)=List.take 2 b:=rfl
 simp only[df h6,QQ2,dt (show(0:Int)<=0/\0<=(2:Int)/\2<=(b.length:Int) by omega),QQ1,dt (show(0:Int)<=0/\0<=(b.length:Int) - 4/\(b.length:Int) - 4<=(b.length:Int) by omega),eb,e2]
 cases XI (QG (List.take 2 b)) (⟨#[82,75]⟩:ByteArray)
 ·rfl
 have hc:=QtG h
 have hcl:=Qrj hb6
 obtain⟨q1,q2,q3,q4,q5,q6,q7,q8,q9,q10⟩:=QAB hc (by omega)
 obtain⟨_,_,_,_,_,_,_,_,_,k10,hn0,hn1,l6,l8,l9⟩:=Qts hc (by omega)
 simp only[QQ3,QQ2,q1,q2,q3,q4,q5,q6,q7,q8,q9,q10,QQ0,QQ1]
 obtain⟨k,hk,hkl⟩:=k10
 simp only[hdI,Qto]
 cases hbad:(QU (body b)).2.2
 ·simp only[QQ2,w64 (n:=(b.length:Int) - 4 - (QU (body b)).2.1) (by omega) (by omega)]
  by_cases hlt:(b.length:Int) - 4 - (QU (body b)).2.1<(QU (body b)).1
  ·simp only[dt hlt,QQ1];rfl
  have hP:Pos (body b) ((QU (body b)).2.1+(QU (body b)).1):=⟨((QU (body b)).2.1+(QU (body b)).1).toNat,by omega,by omega⟩
  have ec:List.take (Int.toNat ((QU (body b)).2.1+(QU (body b)).1 - (QU (body b)).2.1)) (List.drop (Int.toNat (QU (body b)).2.1) b)=cut b (QU (body b)).2.1 (QU (body b)).1:=by
   unfold cut;congr 2;omega
  simp only[df hlt,QQ2,w64 (n:=(QU (body b)).2.1+(QU (body b)).1) (by omega) (by omega),dt (show(0:Int)<=(QU (body b)).2.1/\(QU (body b)).2.1<=(QU (body b)).2.1+(QU (body b)).1/\(QU (body b)).2.1+(QU (body b)).1<=(b.length:Int) by omega),QQ1,ec,Qus (Qnp h _ _),QQ0]
  cases(stI (cut b (QU (body b)).2.1 (QU (body b)).1)).2.2
  ·rfl
  have k1:=zI hc hP false (most:=5) (by omega)
  simp only[QQ3,QQ2,QQ1,Qin hc hP,QQ0]
  obtain⟨n,hn⟩:∃n:Nat,(rcount (body b) ((QU (body b)).2.1+(QU (body b)).1) false 5).1=(n:Int):=⟨(rcount (body b) ((QU (body b)).2.1+(QU (body b)).1) false 5).1.toNat,by omega⟩
  have e1:=QuL hc b n (by omega) (hi1 (body b)).1 (hi2 (body b)).1 (hi3 (body b)).1 (hi4 (body b)).1 (hi5 (body b)).1 (hi6 (body b)).1 (hi7 (body b)).1 (hi8 (body b)).1 (hi9 (body b)).1 (stI (cut b (QU (body b)).2.1 (QU (body b)).1)).1 (stI (cut b (QU (body b)).2.1 (QU (body b)).1)).2.1 n 0 (rcount (body b) ((QU (body b)).2.1+(QU (body b)).1) false 5).2.1 (rcount (body b) ((QU (body b)).2.1+(QU (body b)).1) false 5).2.2 [] (by omega) rfl k1.1
  have k4:=Qgm hc n (rcount (body b) ((QU (body b)).2.1+(QU (body b)).1) false 5).2.1 (rcount (body b) ((QU (body b)).2.1+(QU (body b)).1) false 5).2.2 k1.1
  simp only[QQ6,QRe]at e1
  simp only[hn,QRb]
  rw[show Y3 wl (b,(n:Int),0,(hi1 (body b)).1,(hi2 (body b)).1,(hi3 (body b)).1,(hi4 (body b)).1,(hi5 (body b)).1,(hi6 (body b)).1,(hi7 (body b)).1,(hi8 (body b)).1,(hi9 (body b)).1,(stI (cut b (QU (body b)).2.1 (QU (body b)).1)).1,(stI (cut b (QU (body b)).2.1 (QU (body b)).1)).2.1,[],body b,(rcount (body b) ((QU (body b)).2.1+(QU (body b)).1) false 5).2)=_ from e1]
  generalize rfloors (body b) n (rcount (body b) ((QU (body b)).2.1+(QU (body b)).1) false 5).2.1 (rcount (body b) ((QU (body b)).2.1+(QU (body b)).1) false 5).2.2=f at k4
  have hst:=Qtj (Qnp h (QU (body b)).2.1 (QU (body b)).1).isb
  have hm:smM (hi6 (body b)).1 (hi8 (body b)).1 (hi9 (body b)).1 (stI (cut b (QU (body b)).2.1 (QU (body b)).1)).1 (stI (cut b (QU (body b)).2.1 (QU (body b)).1)).2.1 f.1:=by
   simp only[smM,maxLen];omega
  simp only[QQ0,Qri _ _ _ _ _ _ _ _ _ _ _ _ hm,QsV _ _ _ _ _ _ _ _ _ _ _ _ hm,QqV]
  exact QDY _ _ _ _ _
 ·rfl
theorem Qkw (b c full:List Int) (so:Bool) (a0 a1 a2 a3 a4:Int) (a5:List Int) (a6:Int) (a7 a8:List Int) (a9:List Qf) (a10:List Qb) (r:Int×Bool) (hf:full.length<=200):(l:List Int)->(i:Nat)->(out:List Qb)->full.drop i=l->i<=full.length->out.length<=i->Jg wl (b,so,(i:Int),a0,a1,a2,a3,a4,a5,a6,a7,a8,a9,a10,out,full,c,r)=some (b,so,a0,a1,a2,a3,a4,a5,a6,a7,a8,a9,a10,out++pairs l,c,r)
 | [],i,out,hd,hi,ho=>by
   have:full.length - i=0:=by rw[<-QY8,hd];rfl
   apply xZ
   simp only[xC,w64 (n:=(i:Int)+1) (by omega) (by omega),df (show¬(i:Int)+1<(full.length:Int) by omega),QQ2,pairs,QY10]
 | [x],i,out,hd,hi,ho=>by
   have:full.length - i=1:=by rw[<-QY8,hd];rfl
   apply xZ
   simp only[xC,w64 (n:=(i:Int)+1) (by omega) (by omega),df (show¬(i:Int)+1<(full.length:Int) by omega),QQ2,pairs,QY10]
 |x::y::l,i,out,hd,hi,ho=>by
  have hlen:full.length - i=l.length+2:=by rw[<-QY8,hd];rfl
  have hx:rd1 (0:Int) full (i:Int)=x:=by
   rw[Qj (show i<full.length by omega)]
   have:=QRa (show i<full.length by omega)
   rw[hd]at this
   exact(List.cons.inj this).1.symm
  have hd1:full.drop (i+1)=y::l:=by
   have:=QRa (show i<full.length by omega)
   rw[hd]at this
   exact(List.cons.inj this).2.symm
  have hy:rd1 (0:Int) full ((i+1:Nat):Int)=y:=by
   rw[Qj (show i+1<full.length by omega)]
   have:=QRa (show i+1<full.length by omega)
   rw[hd1]at this
   exact(List.cons.inj this).1.symm
  have hd2:full.drop (i+2)=l:=by
   have:=QRa (show i+1<full.length by omega)
   rw[hd1]at this
   exact(List.cons.inj this).2.symm
  have ih:=Qkw b c full so a0 a1 a2 a3 a4 a5 a6 a7 a8 a9 a10 r hf l (i+2) (out++[(x,y)]) hd2 (by omega) (by simp;omega)
  apply xZ
  simp only[xC,w64 (n:=((i+1:Nat):Int)) (by omega) (by omega),w64 (n:=(i:Int)+2) (by omega) (by omega),dt (show((i+1:Nat):Int)<(full.length:Int) by omega),QQ1,Qo (show i<full.length by omega),show(i:Int)+1=((i+1:Nat):Int) by omega,Qo (show i+1<full.length by omega),hx,hy]
  rw[QL (by simp;omega),QQ1,show(i:Int)+2=((i+2:Nat):Int) by omega,ih]
  simp only[pairs,QRc,QRv,QRe]
set_option maxHeartbeats 2000000 in
theorem QvI {b:List Int}(h:Bs b):QcC w b=some (Qjx b):=by
 apply QpT
 have hl:=h.len
 simp only[Qgz,w64 (n:=(b.length:Int) - 4) (by omega) (by omega),Qjx]
 by_cases h6:(b.length:Int)<6
 ·simp only[dt h6,QQ1];rfl
 have hb6:6<=b.length:=by omega
 have eb:List.take (Int.toNat ((b.length:Int) - 4 - 0)) (List.drop (Int.toNat 0) b)=body b:=by simp only[Int.sub_zero,Int.toNat_zero,QRg,body]
 have e2:List.take (Int.toNat ((b.length:Int) - ((b.length:Int) - 4))) (List.drop (Int.toNat ((b.length:Int) - 4)) b)=List.drop ((b.length:Int) - 4).toNat b:=List.take_of_length_le (by rw[QY8];omega)
 have hc:=QtG h
 have hcl:=Qrj hb6
 have hcl2:((body b).length:Int)=(b.length:Int) - 4:=by omega
 simp only[df h6,QQ2,QQ1,dt (show(0:Int)<=0/\0<=(b.length:Int) - 4/\(b.length:Int) - 4<=(b.length:Int) by omega),dt (show(0:Int)<=(b.length:Int) - 4/\(b.length:Int) - 4<=(b.length:Int)/\(b.length:Int)<=(b.length:Int) by omega),eb,e2,Qpz (body b) (by simp only[maxLen];omega) hc.isb,QQ0]
 cases XI (QG (Y0 (crc (body b)))) (QG (List.drop ((b.length:Int) - 4).toNat b))
 ·rfl
 obtain⟨q1,q2,q3,q4,q5,q6,q7,q8,q9,q10⟩:=QAd hc (by omega)
 obtain⟨_,_,_,_,_,_,_,_,_,k10,hn0,hn1,l6,l8,l9⟩:=QtI hc (by omega)
 simp only[QQ3,QQ2,q1,q2,q3,q4,q5,q6,q7,q8,q9,q10,QQ0,QQ1]
 obtain⟨k,hk,hkl⟩:=k10
 simp only[hdS,Qti]
 cases hbad:(Q0 (body b)).2.2
 ·simp only[QQ2,hcl2,w64 (n:=(b.length:Int) - 4 - (Q0 (body b)).2.1) (by omega) (by omega)]
  by_cases hlt:(b.length:Int) - 4 - (Q0 (body b)).2.1<(Q0 (body b)).1
  ·simp only[dt hlt,QQ1];rfl
  have hP:Pos (body b) ((Q0 (body b)).2.1+(Q0 (body b)).1):=⟨((Q0 (body b)).2.1+(Q0 (body b)).1).toNat,by omega,by omega⟩
  have ec:List.take (Int.toNat ((Q0 (body b)).2.1+(Q0 (body b)).1 - (Q0 (body b)).2.1)) (List.drop (Int.toNat (Q0 (body b)).2.1) (body b))=cut (body b) (Q0 (body b)).2.1 (Q0 (body b)).1:=by
   unfold cut;congr 2;omega
  have k2:=Qbo hc hP false 2 (by omega)
  have hm2:Xx w (body b,(Q0 (body b)).2.1+(Q0 (body b)).1,false,2)=some (rmany (body b) ((Q0 (body b)).2.1+(Q0 (body b)).1) false 2):=Qhn hc hP false 2 (by omega) (by omega)
  simp only[df hlt,QQ2,w64 (n:=(Q0 (body b)).2.1+(Q0 (body b)).1) (by omega) (by omega),dt (show(0:Int)<=(Q0 (body b)).2.1/\(Q0 (body b)).2.1<=(Q0 (body b)).2.1+(Q0 (body b)).1/\(Q0 (body b)).2.1+(Q0 (body b)).1<=(b.length:Int) - 4 by omega),QQ1,ec,QsD (Qnp hc _ _),hm2,QQ0]
  have e1:=Qkw b (body b) (rmany (body b) ((Q0 (body b)).2.1+(Q0 (body b)).1) false 2).1 (stS (cut (body b) (Q0 (body b)).2.1 (Q0 (body b)).1)).2.2 (hs1 (body b)).1 (hs2 (body b)).1 (hs3 (body b)).1 (hs4 (body b)).1 (hs5 (body b)).1 (hs6 (body b)).1 (hs7 (body b)).1 (hs8 (body b)).1 (hs9 (body b)).1 (stS (cut (body b) (Q0 (body b)).2.1 (Q0 (body b)).1)).1 (stS (cut (body b) (Q0 (body b)).2.1 (Q0 (body b)).1)).2.1 (rmany (body b) ((Q0 (body b)).2.1+(Q0 (body b)).1) false 2).2 k2.2 _ 0 [] rfl (by omega) (by simp)
  simp only[QQ6,QRe,QRg]at e1
  rw[e1]
  have hpl:=Qjs (rmany (body b) ((Q0 (body b)).2.1+(Q0 (body b)).1) false 2).1
  generalize rmany (body b) ((Q0 (body b)).2.1+(Q0 (body b)).1) false 2=f at k2 hpl
  have hst:=QzK (Qnp hc (Q0 (body b)).2.1 (Q0 (body b)).1).isb
  have hm:smM (hs6 (body b)).1 (hs8 (body b)).1 (hs9 (body b)).1 (stS (cut (body b) (Q0 (body b)).2.1 (Q0 (body b)).1)).1 (stS (cut (body b) (Q0 (body b)).2.1 (Q0 (body b)).1)).2.1 (pairs f.1):=by
   simp only[smM,maxLen];omega
  simp only[QQ0,Qpm _ _ _ _ _ _ _ _ _ _ _ _ hm,QqF _ _ _ _ _ _ _ _ _ _ _ _ hm]
  exact QDs _ _ _ _ _ _
 ·rfl
end Go.Proofs.YtiejfnbmficbmaaGreat.M
