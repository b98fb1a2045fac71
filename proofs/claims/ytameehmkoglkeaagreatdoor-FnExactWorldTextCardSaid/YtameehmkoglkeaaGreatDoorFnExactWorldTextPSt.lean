/- What the plain forms that FnExactWorldText reaches come to: PSt. No conditions but those that each theorem states. -/
import Derived.Test.YtameehmkoglkeaaGreatDoorFnExactWorldTextPRecv
import Derived.Lib.ItoaLen
import Derived.Lib.Join
import Derived.Lib.IndexLaws
set_option linter.all false
namespace Go.Proofs.YtameehmkoglkeaaGreatDoor.M
open Go Go.Eng Go.Proofs
set_option linter.unusedVariables false
def ritem (b:List Int) (p:Int) (bad:Bool):Qg×Int×Bool:=
 let r2:=rnum b p bad
 let r3:=rnum b r2.2.1 r2.2.2
 let r4:=rnum b r3.2.1 r3.2.2
 let r5:=rnum b r4.2.1 r4.2.2
 let r6:=rnum b r5.2.1 r5.2.2
 let r7:=rtext b r6.2.1 r6.2.2
 ((r2.1,r3.1,r4.1,r5.1,r6.1,r7.1),r7.2)
def ritems (b:List Int):Nat->Int->Bool->List Qg×Int×Bool
 |0,p,bad=>([],p,bad)
 |m+1,p,bad=>((ritem b p bad).1::(ritems b m (ritem b p bad).2.1 (ritem b p bad).2.2).1,(ritems b m (ritem b p bad).2.1 (ritem b p bad).2.2).2)
def rfloor (b:List Int) (p:Int) (bad:Bool):Qb×Int×Bool:=(((rnum b p bad).1,(rnum b (rnum b p bad).2.1 (rnum b p bad).2.2).1),(rnum b (rnum b p bad).2.1 (rnum b p bad).2.2).2)
def rfloors (b:List Int):Nat->Int->Bool->List Qb×Int×Bool
 |0,p,bad=>([],p,bad)
 |m+1,p,bad=>((rfloor b p bad).1::(rfloors b m (rfloor b p bad).2.1 (rfloor b p bad).2.2).1,(rfloors b m (rfloor b p bad).2.1 (rfloor b p bad).2.2).2)
theorem Qqa {b:List Int}(h:Bs b) {p:Int}(hp:Pos b p) (bad:Bool):Pos b (ritem b p bad).2.1:=by
 have h2:=(QE h hp bad).1
 have h3:=(QE h h2 (rnum b p bad).2.2).1
 have h4:=(QE h h3 (rnum b (rnum b p bad).2.1 (rnum b p bad).2.2).2.2).1
 exact Qwp h (QE h (QE h h4 _).1 _).1 _
theorem QnB {b:List Int}(h:Bs b):(m:Nat)->(p:Int)->(bad:Bool)->Pos b p->Pos b (ritems b m p bad).2.1/\(ritems b m p bad).1.length=m
 |0,p,bad,hp=>⟨hp,rfl⟩
 |m+1,p,bad,hp=>by
  have:=QnB h m _ (ritem b p bad).2.2 (Qqa h hp bad)
  exact⟨this.1,by simp only[ritems,List.length_cons,this.2]⟩
theorem Qin {b:List Int}(h:Bs b) {p:Int}(hp:Pos b p) (bad:Bool):Pos b (rfloor b p bad).2.1:=(QE h (QE h hp bad).1 _).1
theorem Qg7 {b:List Int}(h:Bs b):(m:Nat)->(p:Int)->(bad:Bool)->Pos b p->Pos b (rfloors b m p bad).2.1/\(rfloors b m p bad).1.length=m
 |0,p,bad,hp=>⟨hp,rfl⟩
 |m+1,p,bad,hp=>by
  have:=Qg7 h m _ (rfloor b p bad).2.2 (Qin h hp bad)
  exact⟨this.1,by simp only[rfloors,List.length_cons,this.2]⟩
theorem zu {b:List Int}(h:Bs b) (r:Int×Bool) (hp:Pos b r.1):Qu w (b,r)=some (rnum b r.1 r.2):=Qew h hp r.2
theorem xZ {b:List Int}(h:Bs b) (r:Int×Bool) (hp:Pos b r.1):QP w (b,r)=some (rnum b r.1 r.2):=QdT h hp r.2
theorem QAW {b:List Int}(h:Bs b) (r:Int×Bool) (hp:Pos b r.1):YT w (b,r)=some (rtext b r.1 r.2):=QzU h hp r.2
theorem QuD {b:List Int}(h:Bs b) (c:Nat) (hc:c<=5) (fl:List Qb):(m i:Nat)->(p:Int)->(bad:Bool)->(out:List Qg)->i+m=c->out.length=i->Pos b p->Yc wl (b,(c:Int),(i:Int),out,fl,b,p,bad)=some (b,out++(ritems b m p bad).1,fl,b,(ritems b m p bad).2):=by
 intro m
 induction m with
 |zero=>
  intro i p bad out hi ho hp
  apply Qcg
  simp only[ji,df (show¬(i:Int)<(c:Int) by omega),QQ2,ritems,List.append_nil]
 |succ m ih=>
  intro i p bad out hi ho hp
  apply Qcg
  have h2:=(QE h hp bad).1
  have h3:=(QE h h2 (rnum b p bad).2.2).1
  have h4:=(QE h h3 (rnum b (rnum b p bad).2.1 (rnum b p bad).2.2).2.2).1
  have h5:=(QE h h4 (rnum b (rnum b (rnum b p bad).2.1 (rnum b p bad).2.2).2.1 (rnum b (rnum b p bad).2.1 (rnum b p bad).2.2).2.2).2.2).1
  have h6:=fun bad=>(QE h h5 bad).1
  simp only[ji,dt (show(i:Int)<(c:Int) by omega),Qew h hp,QQ0,zu h _ h2,zu h _ h3,zu h _ h4,zu h _ h5,QAW h _ (h6 _),w64 (n:=(i:Int)+1) (by omega) (by omega),QQ1]
  rw[QF (by simp;omega),QQ1]
  have:=ih (i+1) _ (ritem b p bad).2.2 (out++[(ritem b p bad).1]) (by omega) (by simp[ho]) (Qqa h hp bad)
  rw[show(i:Int)+1=((i+1:Nat):Int) by omega]
  refine this.trans ?_
  simp only[ritems,QRc,QRv,QRe]
theorem Qs0 {b:List Int}(h:Bs b) (c:Nat) (hc:c<=5) (its:List Qg):(m i:Nat)->(p:Int)->(bad:Bool)->(out:List Qb)->i+m=c->out.length=i->Pos b p->Z9 wl (b,(c:Int),(i:Int),its,out,b,p,bad)=some (b,its,out++(rfloors b m p bad).1,b,(rfloors b m p bad).2):=by
 intro m
 induction m with
 |zero=>
  intro i p bad out hi ho hp
  apply Qbx
  simp only[yL,df (show¬(i:Int)<(c:Int) by omega),QQ2,rfloors,List.append_nil]
 |succ m ih=>
  intro i p bad out hi ho hp
  apply Qbx
  have h2:=(QE h hp bad).1
  simp only[yL,dt (show(i:Int)<(c:Int) by omega),Qew h hp,QQ0,zu h _ h2,w64 (n:=(i:Int)+1) (by omega) (by omega),QQ1]
  rw[QF (by simp;omega),QQ1]
  have:=ih (i+1) _ (rfloor b p bad).2.2 (out++[(rfloor b p bad).1]) (by omega) (by simp[ho]) (Qin h hp bad)
  rw[show(i:Int)+1=((i+1:Nat):Int) by omega]
  refine this.trans ?_
  simp only[rfloors,QRc,QRv,QRe]
def QdA (b:List Int) (s:Qn) (bad:Bool):List Qg×List Qb×Bool:=bif !bad&&(Q0 s&&Xm (QA (stB s)) (QA b))then(s.1,s.2,true)else([],[],false)
def stI (b:List Int):List Qg×List Qb×Bool:=
 let c1:=rcount b 0 false 5
 let q:=ritems b c1.1.toNat c1.2.1 c1.2.2
 let c2:=rcount b q.2.1 q.2.2 5
 let f:=rfloors b c2.1.toNat c2.2.1 c2.2.2
 QdA b (q.1,f.1) f.2.2
theorem QrR (a b:List Int):xY w (a,b)=some (Xm (QA a) (QA b)):=by
 apply QpK
 rfl
theorem QuS {b:List Int}(h:Bs b):vB w b=some (stI b):=by
 apply QmV
 have h0:=Pos.at0 b
 have k1:=yp h h0 false (most:=5) (by omega)
 obtain⟨c,hc⟩:∃c:Nat,(rcount b 0 false 5).1=(c:Int):=⟨(rcount b 0 false 5).1.toNat,by omega⟩
 have e1:=QuD h c (by omega) [] c 0 (rcount b 0 false 5).2.1 (rcount b 0 false 5).2.2 [] (by omega) rfl k1.1
 have k2:=QnB h c (rcount b 0 false 5).2.1 (rcount b 0 false 5).2.2 k1.1
 simp only[QQ6,QRe]at e1
 simp only[Qfb,stI,QiF h h0,QQ0,hc,QRb]
 rw[show Yc wl (b,(c:Int),0,[],[],b,(rcount b 0 false 5).2)=_ from e1]
 simp only[QQ0]
 generalize ritems b c (rcount b 0 false 5).2.1 (rcount b 0 false 5).2.2=q at k2
 have k3:=yp h k2.1 q.2.2 (most:=5) (by omega)
 obtain⟨c',hc'⟩:∃c:Nat,(rcount b q.2.1 q.2.2 5).1=(c:Int):=⟨(rcount b q.2.1 q.2.2 5).1.toNat,by omega⟩
 have e2:=Qs0 h c' (by omega) q.1 c' 0 (rcount b q.2.1 q.2.2 5).2.1 (rcount b q.2.1 q.2.2 5).2.2 [] (by omega) rfl k3.1
 have k4:=Qg7 h c' (rcount b q.2.1 q.2.2 5).2.1 (rcount b q.2.1 q.2.2 5).2.2 k3.1
 simp only[QQ6,QRe]at e2
 simp only[QiF h k2.1,QQ0,hc',QRb]
 rw[show Z9 wl (b,(c':Int),0,q.1,[],b,(rcount b q.2.1 q.2.2 5).2)=_ from e2]
 simp only[QQ0]
 generalize rfloors b c' (rcount b q.2.1 q.2.2 5).2.1 (rcount b q.2.1 q.2.2 5).2.2=f at k4
 have hl1:q.1.length<=maxLen:=by simp only[maxLen];omega
 have hl2:f.1.length<=maxLen:=by simp only[maxLen];omega
 simp only[YG q.1 f.1 hl1 hl2,QcO q.1 f.1 hl1 hl2,QrR,QQ0,QdA]
 cases f.2.2
 ·cases Q0 (q.1,f.1)
  ·rfl
  ·simp only[QQ1]
   cases Xm (QA (stB (q.1,f.1))) (QA b)<;>rfl
 ·rfl
def pairs:List Int->List Qb
 |a::c::l=>(a,c)::pairs l
 |_=>[]
def sitem (b:List Int) (p:Int):Qg×Int×Bool×Bool:=
 let r2:=rnum b p false
 let r3:=rnum b r2.2.1 r2.2.2
 let r4:=rnum b r3.2.1 r3.2.2
 let r5:=rnum b r4.2.1 r4.2.2
 let r6:=rnum b r5.2.1 r5.2.2
 let r7:=X4 b r6.2.1
 ((r2.1,r3.1,r4.1,r5.1,r6.1,r7.1),r7.2.1,r6.2.2,r7.2.2)
def sitems (b:List Int):Nat->Int->Bool->Option (List Qg×Int×Bool)
 |0,p,bad=>some ([],p,bad)
 |m+1,p,bad=>bif bad then some ([],p,bad)else(bif (sitem b p).2.2.1 then none else(bif (sitem b p).2.2.2 then(sitems b m (sitem b p).2.1 false).map (fun q=>((sitem b p).1::q.1,q.2))else none))
def sres (b:List Int) (n:Nat) (out:List Qg) (fl:List Qb):Option (List Qg×Int×Bool)->(Bool×List Qg×List Qb)⊕(List Int×Int×List Qg×List Qb×List Int×Int×Bool)
 |none=> .inl (false,[],[])
 |some q=> .inr (b,(n:Int),out++q.1,fl,b,q.2)
theorem QpZ {b:List Int}(h:Bs b) {p:Int}(hp:Pos b p) (ho:(sitem b p).2.2.2=true):Pos b (sitem b p).2.1:=by
 have h2:=(QE h hp false).1
 have h3:=(QE h h2 (rnum b p false).2.2).1
 have h4:=(QE h h3 (rnum b (rnum b p false).2.1 (rnum b p false).2.2).2.2).1
 exact Qsu h (QE h (QE h h4 _).1 _).1 ho
theorem QsY {b:List Int}(h:Bs b) (n:Nat) (hn:n<=100) (fl:List Qb):(m i:Nat)->(p:Int)->(bad:Bool)->(out:List Qg)->i+m=n->out.length=i->Pos b p->Zu wl (b,(n:Int),(i:Int),out,fl,b,p,bad)=some (sres b n out fl (sitems b m p bad)):=by
 intro m
 induction m with
 |zero=>
  intro i p bad out hi ho hp
  apply qF
  simp only[qb,df (show¬(i:Int)<(n:Int) by omega),QQ2,sitems,sres,List.append_nil]
 |succ m ih=>
  intro i p bad out hi ho hp
  apply qF
  cases bad
  ·have h2:=(QE h hp false).1
   have h3:=(QE h h2 (rnum b p false).2.2).1
   have h4:=(QE h h3 (rnum b (rnum b p false).2.1 (rnum b p false).2.2).2.2).1
   have h5:=(QE h h4 (rnum b (rnum b (rnum b p false).2.1 (rnum b p false).2.2).2.1 (rnum b (rnum b p false).2.1 (rnum b p false).2.2).2.2).2.2).1
   have h6:=fun bad=>(QE h h5 bad).1
   simp only[qb,dt (show(i:Int)<(n:Int) by omega),dt (show(n:Int)<=100 by omega),QQ4,QdT h hp,QQ0,xZ h _ h2,xZ h _ h3,xZ h _ h4,xZ h _ h5,QtM h (h6 _),w64 (n:=(i:Int)+1) (by omega) (by omega),QQ1]
   have ih':=fun ho=>ih (i+1) _ false (out++[(sitem b p).1]) (by omega) (by simp;omega) (QpZ h hp ho)
   rw[sitems]
   show(bif (sitem b p).2.2.1 then some (Sum.inl (false,[],[]))else bif !(sitem b p).2.2.2 then some (Sum.inl (false,[],[]))else bif fits (out.length+ [(sitem b p).1].length) 56 then Zu wl (b,(n:Int),(i:Int)+1,out++[(sitem b p).1],fl,b,(sitem b p).2.1,(sitem b p).2.2.1)else none)=_
   cases hb:(sitem b p).2.2.1
   ·cases ho:(sitem b p).2.2.2
    ·rfl
    ·rw[QF (by simp;omega)]
     simp only[QQ1,QQ2,QQ3]
     rw[show(i:Int)+1=((i+1:Nat):Int) by omega,ih' ho]
     cases sitems b m (sitem b p).2.1 false with
     |none=>rfl
     |some q=>simp only[sres,Option.map_some,QRc,QRv,QRe]
   ·rfl
  ·simp only[qb,dt (show(i:Int)<(n:Int) by omega),QQ3,QQ1,QQ2,sitems,sres,List.append_nil]
theorem Qof {b:List Int}(h:Bs b):(m:Nat)->(p:Int)->(bad:Bool)->Pos b p->∀q,sitems b m p bad=some q->Pos b q.2.1/\q.1.length<=m
 |0,p,bad,hp,q,e=>by obtain rfl:=Option.some.inj e;exact⟨hp,Nat.le_refl _⟩
 |m+1,p,bad,hp,q,e=>by
  rw[sitems]at e
  cases bad
  ·cases hb:(sitem b p).2.2.1
   ·cases ho:(sitem b p).2.2.2
    ·rw[hb,ho]at e;cases e
    ·rw[hb,ho]at e
     simp only[QQ1,QQ2]at e
     cases hs:sitems b m (sitem b p).2.1 false with
     |none=>rw[hs]at e;cases e
     |some r=>
      rw[hs]at e
      obtain rfl:=Option.some.inj e
      have:=Qof h m _ false (QpZ h hp ho) r hs
      exact⟨this.1,by simp only[List.length_cons];omega⟩
   ·rw[hb]at e;cases e
  ·obtain rfl:=Option.some.inj e;exact⟨hp,by simp⟩
theorem QjP:(l:List Int)->(pairs l).length<=l.length
 | []=>Nat.le_refl _
 | [_]=>by simp[pairs]
 |a::c::l=>by
  have:=QjP l
  simp only[pairs,List.length_cons];omega
theorem QnZ (b full:List Int) (n:Int) (its:List Qg) (r:Int×Bool) (hf:full.length<=200):(l:List Int)->(i:Nat)->(out:List Qb)->full.drop i=l->i<=full.length->out.length<=i->Kl wl (b,n,(i:Int),its,out,full,b,r)=some (b,n,its,out++pairs l,b,r)
 | [],i,out,hd,hi,ho=>by
   have:full.length - i=0:=by rw[<-List.length_drop,hd];rfl
   apply ql
   simp only[qf,w64 (n:=(i:Int)+1) (by omega) (by omega),df (show¬(i:Int)+1<(full.length:Int) by omega),QQ2,pairs,List.append_nil]
 | [x],i,out,hd,hi,ho=>by
   have:full.length - i=1:=by rw[<-List.length_drop,hd];rfl
   apply ql
   simp only[qf,w64 (n:=(i:Int)+1) (by omega) (by omega),df (show¬(i:Int)+1<(full.length:Int) by omega),QQ2,pairs,List.append_nil]
 |x::y::l,i,out,hd,hi,ho=>by
  have hlen:full.length - i=l.length+2:=by rw[<-List.length_drop,hd];rfl
  have hx:rd1 (0:Int) full (i:Int)=x:=by
   rw[Qi (show i<full.length by omega)]
   have:=QRa (show i<full.length by omega)
   rw[hd]at this
   exact(List.cons.inj this).1.symm
  have hd1:full.drop (i+1)=y::l:=by
   have:=QRa (show i<full.length by omega)
   rw[hd]at this
   exact(List.cons.inj this).2.symm
  have hy:rd1 (0:Int) full ((i+1:Nat):Int)=y:=by
   rw[Qi (show i+1<full.length by omega)]
   have:=QRa (show i+1<full.length by omega)
   rw[hd1]at this
   exact(List.cons.inj this).1.symm
  have hd2:full.drop (i+2)=l:=by
   have:=QRa (show i+1<full.length by omega)
   rw[hd1]at this
   exact(List.cons.inj this).2.symm
  have ih:=QnZ b full n its r hf l (i+2) (out++[(x,y)]) hd2 (by omega) (by simp;omega)
  apply ql
  simp only[qf,w64 (n:=((i+1:Nat):Int)) (by omega) (by omega),w64 (n:=(i:Int)+2) (by omega) (by omega),dt (show((i+1:Nat):Int)<(full.length:Int) by omega),QQ1,Ql (show i<full.length by omega),show(i:Int)+1=((i+1:Nat):Int) by omega,Ql (show i+1<full.length by omega),hx,hy]
  rw[QF (by simp;omega),QQ1,show(i:Int)+2=((i+2:Nat):Int) by omega,ih]
  simp only[pairs,QRc,QRv,QRe]
def yb (b:List Int):Option (List Qg×Int×Bool):=bif decide (100<(rnum b 0 false).1)then some ([],(rnum b 0 false).2)else sitems b (rnum b 0 false).1.toNat (rnum b 0 false).2.1 (rnum b 0 false).2.2
def Qxz (b:List Int):Option (List Qg×Int×Bool)->List Qg×List Qb×Bool
 |none=>([],[],false)
 |some q=>QdA b (q.1,pairs (rmany b q.2.1 q.2.2 2).1) ((rmany b q.2.1 q.2.2 2).2.2||decide (100<(rnum b 0 false).1))
def stS (b:List Int):List Qg×List Qb×Bool:=Qxz b (yb b)
theorem QsX {b:List Int}(h:Bs b):ja w b=some (stS b):=by
 apply QnL
 have h0:=Pos.at0 b
 have k1:=QE h h0 false
 obtain⟨n,hn⟩:∃n:Nat,(rnum b 0 false).1=(n:Int):=⟨(rnum b 0 false).1.toNat,by omega⟩
 have e1:Zu wl (b,(n:Int),0,[],[],b,(rnum b 0 false).2)=some (sres b n [] [] (yb b))/\∀q,yb b=some q->Pos b q.2.1/\q.1.length<=100:=by
  unfold yb
  rw[hn]
  by_cases h100:(100:Int)<(n:Int)
  ·rw[dt h100]
   refine⟨?_,fun q e=>by obtain rfl:=Option.some.inj e;exact⟨k1.1,by simp⟩⟩
   have hb:(rnum b 0 false).2.2=false:=by
    cases hb:(rnum b 0 false).2.2
    ·rfl
    ·have:=Qr0 hb;omega
   apply qF
   show(bif decide ((0:Int)<(n:Int))then(bif !(rnum b 0 false).2.2 then(bif decide ((n:Int)<=100)then _ else some (Sum.inr (b,(n:Int),[],[],b,(rnum b 0 false).2.1,(rnum b 0 false).2.2)))else _)else _)=_
   rw[dt (show(0:Int)<(n:Int) by omega),hb,df (show¬(n:Int)<=100 by omega)]
   have e2:(rnum b 0 false).2=((rnum b 0 false).2.1,false):=Prod.ext rfl hb
   simp only[QQ4,QQ1,QQ2,sres,List.append_nil]
   rw[e2]
  ·rw[df h100]
   simp only[QQ2,QRb]
   exact⟨QsY h n (by omega) [] n 0 _ _ [] (by omega) rfl k1.1,fun q e=>by
    have:=Qof h n _ _ k1.1 q e
    exact⟨this.1,by omega⟩⟩
 simp only[QfE,QdT h h0,QQ0,hn,stS]
 rw[e1.1]
 simp only[QQ0]
 cases hs:yb b with
 |none=>rfl
 |some q=>
  obtain⟨hq,hql⟩:=e1.2 q hs
  have k2:=QbA h hq q.2.2 2 (by omega)
  have hm:Xv w (b,q.2.1,q.2.2,2)=some (rmany b q.2.1 q.2.2 2):=Qhx h hq q.2.2 2 (by omega) (by omega)
  simp only[sres,Qo,Sum.elim_inr,QRe,hm,QQ0,Qxz,hn]
  have e2:=QnZ b (rmany b q.2.1 q.2.2 2).1 (n:Int) q.1 (rmany b q.2.1 q.2.2 2).2 k2.2 (rmany b q.2.1 q.2.2 2).1 0 [] rfl (by omega) (by simp)
  simp only[QQ6,QRe]at e2
  rw[e2]
  have hpl:=QjP (rmany b q.2.1 q.2.2 2).1
  generalize rmany b q.2.1 q.2.2 2=f at k2 hpl
  have hl1:q.1.length<=maxLen:=by simp only[maxLen];omega
  have hl2:(pairs f.1).length<=maxLen:=by simp only[maxLen];omega
  simp only[QQ0,Vf q.1 (pairs f.1) hl1 hl2,QdA]
  cases f.2.2
  ·cases decide ((100:Int)<(n:Int))
   ·cases hso:Q0 (q.1,pairs f.1)
    ·rfl
    ·simp only[Qjt q.1 (pairs f.1) (qy hso),QQ0]
     cases Xm (QA (stB (q.1,pairs f.1))) (QA b)<;>rfl
   ·rfl
  ·rfl
end Go.Proofs.YtameehmkoglkeaaGreatDoor.M
namespace Go.Proofs.YtameehmkoglkeaaGreatDoor.M
open Go Go.Eng Go.Proofs
set_option linter.unusedVariables false
theorem QzO {x:Qg}(h1:inR x.1 0 4=true) (h2:Zm x.2=true):inN x.1/\inN x.2.1/\inN x.2.2.1/\inN x.2.2.2.1/\inN x.2.2.2.2.1/\x.2.2.2.2.2.size<=8:=by
 have:=QW.1 h1
 have:=QdD h2
 unfold inN;omega
theorem QwO {b:List Int}{p:Int}{x:Qg}{l:List Int}(h1:inR x.1 0 4=true) (h2:Zm x.2=true) (h:Enc b p (X1 x++l)):∃p',ritem b p false=(x,p',false)/\sitem b p=(x,p',false,true)/\Enc b p' l:=by
 obtain⟨n1,n2,n3,n4,n5,n6⟩:=QzO h1 h2
 unfold X1 at h
 simp only[QRc]at h
 obtain⟨p1,e1,q1⟩:=Xq h n1.1 n1.2
 obtain⟨p2,e2,q2⟩:=Xq q1 n2.1 n2.2
 obtain⟨p3,e3,q3⟩:=Xq q2 n3.1 n3.2
 obtain⟨p4,e4,q4⟩:=Xq q3 n4.1 n4.2
 obtain⟨p5,e5,q5⟩:=Xq q4 n5.1 n5.2
 obtain⟨p6,e6,q6⟩:=Qx1 q5 n6
 refine⟨p6, ?_, ?_,q6⟩
 ·simp only[ritem,e1,e2,e3,e4,e5,rtext,e6,QQ2,QQ1]
 ·simp only[sitem,e1,e2,e3,e4,e5,e6]
theorem QiV {b l:List Int}:(xs:List Qg)->(p:Int)->(∀x∈xs,inR x.1 0 4=true/\Zm x.2=true)->Enc b p (xs.flatMap X1++l)->∃p',ritems b xs.length p false=(xs,p',false)/\sitems b xs.length p false=some (xs,p',false)/\Enc b p' l
 | [],p,_,h=>⟨p,rfl,rfl,h⟩
 |x::xs,p,hx,h=>by
  rw[List.flatMap_cons,QRc]at h
  obtain⟨p1,e1,s1,h1⟩:=QwO (hx x (by simp)).1 (hx x (by simp)).2 h
  obtain⟨p2,e2,s2,h2⟩:=QiV xs p1 (fun y hy=>hx y (by simp[hy])) h1
  refine⟨p2, ?_, ?_,h2⟩
  ·simp only[List.length_cons,ritems,e1,e2]
  ·simp only[List.length_cons,sitems,s1,QQ2,QQ1,s2,Option.map_some]
theorem Qg8 {b l:List Int}:(xs:List Qb)->(p:Int)->(∀x∈xs,inN x.1/\inN x.2)->Enc b p (xs.flatMap Q5++l)->∃p',rfloors b xs.length p false=(xs,p',false)/\Enc b p' l
 | [],p,_,h=>⟨p,rfl,h⟩
 |x::xs,p,hx,h=>by
  rw[List.flatMap_cons,QRc,Q5,QRc]at h
  obtain⟨p1,e1,h1⟩:=Xq h (hx x (by simp)).1.1 (hx x (by simp)).1.2
  obtain⟨p2,e2,h2⟩:=Xq h1 (hx x (by simp)).2.1 (hx x (by simp)).2.2
  obtain⟨p3,e3,h3⟩:=Qg8 xs p2 (fun y hy=>hx y (by simp[hy])) h2
  exact⟨p3,by simp only[List.length_cons,rfloors,rfloor,e1,e2,e3],h3⟩
def vv (xs:List Qb):List Int:=xs.flatMap fun x=>[x.1,x.2]
theorem Qg6:(xs:List Qb)->(vv xs).flatMap Qd=xs.flatMap Q5
 | []=>rfl
 |x::xs=>by
  have:=Qg6 xs
  simp only[vv,List.flatMap_cons,List.flatMap_append,QRv,QRe,List.flatMap_nil,Q5,QRc]at this⊢
  rw[this]
theorem Qjp:(xs:List Qb)->(vv xs).length=xs.length*2
 | []=>rfl
 |x::xs=>by
  have:=Qjp xs
  simp only[vv,List.flatMap_cons,QRj,List.length_cons,List.length_nil]at this⊢
  omega
theorem Qg1:(xs:List Qb)->pairs (vv xs)=xs
 | []=>rfl
 |x::xs=>by
  have:=Qg1 xs
  simp only[vv,List.flatMap_cons,QRv,QRe,pairs]at this⊢
  rw[this]
theorem QiB {p:Int}{l:List Qb}(h:QJ p l=true):∀x∈l,inN x.1/\inN x.2:=fun x hx=>by
 have:=Qiq _ _ h x hx
 have h1:=QW.1 this.1
 have h2:=QW.1 this.2
 unfold inN;omega
theorem Qqk {l:List Qb}(h:∀x∈l,inN x.1/\inN x.2):∀n∈vv l,inN n:=fun n hn=>by
 obtain⟨x,hx,hnx⟩:=List.mem_flatMap.1 hn
 rcases QRk.1 hnx with rfl|hnx
 ·exact(h x hx).1
 ·obtain rfl:=List.mem_singleton.1 hnx
  exact(h x hx).2
theorem QpC {s:Qn}(h:Q0 s=true):stI (stB s)=(s.1,s.2,true)/\stS (stB s)=(s.1,s.2,true):=by
 have hl:=Jn h
 have hit:=Qog h
 have hfl:QJ (-1) s.2=true:=by simp only[Q0,QQ5]at h;exact h.1
 have hE:Enc (stB s) 0 (Qd (s.1.length:Nat)++(s.1.flatMap X1++(Qd (s.2.length:Nat)++(s.2.flatMap Q5++[])))):=by
  rw[List.append_nil];exact Enc.start _
 have hEnd:QdA (stB s) (s.1,s.2) false=(s.1,s.2,true):=by
  unfold QdA
  rw[show Q0 (s.1,s.2)=true from h,show Xm (QA (stB (s.1,s.2))) (QA (stB s))=true from QZ _];rfl
 constructor
 ·obtain⟨p1,e1,q1⟩:=QdJ (most:=5) hE (by omega) (by omega) (by omega)
  obtain⟨p2,e2,_,q2⟩:=QiV s.1 p1 hit q1
  obtain⟨p3,e3,q3⟩:=QdJ (most:=5) q2 (by omega) (by omega) (by omega)
  obtain⟨p4,e4,q4⟩:=Qg8 s.2 p3 (QiB hfl) q3
  simp only[stI,e1,QRb,e2,e3,e4]
  exact hEnd
 ·obtain⟨p1,e1,q1⟩:=Xq hE (by omega) (by omega)
  obtain⟨p2,_,e2,q2⟩:=QiV s.1 p1 hit q1
  rw[<-Qg6]at q2
  obtain⟨p3,e3,q3⟩:=QbS 2 s.2.length (Qqk (QiB hfl)) (Qjp s.2) hl.2 q2
  have e0:yb (stB s)=some (s.1,p2,false):=by
   unfold yb
   rw[e1]
   simp only[df (show¬(100:Int)<((s.1.length:Nat):Int) by omega),QQ2,QRb,e2]
  unfold stS
  rw[e0]
  simp only[Qxz,e3,Qg1,e1,df (show¬(100:Int)<((s.1.length:Nat):Int) by omega),Bool.or_false]
  exact hEnd
theorem QrI (b:List Int) (hb:isB b) (s:Qn) (bad:Bool):QdA b s bad=([],[],false)\/(QdA b s bad=(s.1,s.2,true)/\Q0 s=true/\stB s=b):=by
 unfold QdA
 cases bad
 ·cases h1:Q0 s
  ·exact .inl rfl
  ·cases h2:Xm (QA (stB s)) (QA b)
   ·exact .inl rfl
   ·refine .inr ⟨rfl,rfl,QkY (Quf s) hb ?_⟩
    rw[QhA]at h2
    exact of_decide_eq_true h2
 ·exact .inl rfl
theorem QwD {b:List Int}(hb:isB b):stI b=([],[],false)\/∃s:Qn,stI b=(s.1,s.2,true)/\Q0 s=true/\stB s=b:=by
 rcases QrI b hb ((ritems b (rcount b 0 false 5).1.toNat (rcount b 0 false 5).2.1 (rcount b 0 false 5).2.2).1,(rfloors b (rcount b (ritems b (rcount b 0 false 5).1.toNat (rcount b 0 false 5).2.1 (rcount b 0 false 5).2.2).2.1 (ritems b (rcount b 0 false 5).1.toNat (rcount b 0 false 5).2.1 (rcount b 0 false 5).2.2).2.2 5).1.toNat (rcount b (ritems b (rcount b 0 false 5).1.toNat (rcount b 0 false 5).2.1 (rcount b 0 false 5).2.2).2.1 (ritems b (rcount b 0 false 5).1.toNat (rcount b 0 false 5).2.1 (rcount b 0 false 5).2.2).2.2 5).2.1 (rcount b (ritems b (rcount b 0 false 5).1.toNat (rcount b 0 false 5).2.1 (rcount b 0 false 5).2.2).2.1 (ritems b (rcount b 0 false 5).1.toNat (rcount b 0 false 5).2.1 (rcount b 0 false 5).2.2).2.2 5).2.2).1) (rfloors b (rcount b (ritems b (rcount b 0 false 5).1.toNat (rcount b 0 false 5).2.1 (rcount b 0 false 5).2.2).2.1 (ritems b (rcount b 0 false 5).1.toNat (rcount b 0 false 5).2.1 (rcount b 0 false 5).2.2).2.2 5).1.toNat (rcount b (ritems b (rcount b 0 false 5).1.toNat (rcount b 0 false 5).2.1 (rcount b 0 false 5).2.2).2.1 (ritems b (rcount b 0 false 5).1.toNat (rcount b 0 false 5).2.1 (rcount b 0 false 5).2.2).2.2 5).2.1 (rcount b (ritems b (rcount b 0 false 5).1.toNat (rcount b 0 false 5).2.1 (rcount b 0 false 5).2.2).2.1 (ritems b (rcount b 0 false 5).1.toNat (rcount b 0 false 5).2.1 (rcount b 0 false 5).2.2).2.2 5).2.2).2.2 with h|⟨h,h1,h2⟩
 ·exact .inl h
 ·exact .inr ⟨_,h,h1,h2⟩
theorem QAE {b:List Int}(hb:isB b):stS b=([],[],false)\/∃s:Qn,stS b=(s.1,s.2,true)/\Q0 s=true/\stB s=b:=by
 unfold stS
 cases yb b with
 |none=>exact .inl rfl
 |some q=>
  rcases QrI b hb (q.1,pairs (rmany b q.2.1 q.2.2 2).1) ((rmany b q.2.1 q.2.2 2).2.2||decide (100<(rnum b 0 false).1))with h|⟨h,h1,h2⟩
  ·exact .inl h
  ·exact .inr ⟨_,h,h1,h2⟩
theorem QzH {b:List Int}(hb:isB b):stS b=stI b:=by
 rcases QwD hb with h|⟨s,h,h1,h2⟩
 ·rcases QAE hb with h'|⟨s,h',h1,h2⟩
  ·rw[h,h']
  ·rw[<-h2,(QpC h1).1]at h
   exact absurd (congrArg (fun z:List Qg×List Qb×Bool=>z.2.2) h) (by simp)
 ·rw[h,<-h2,(QpC h1).2]
end Go.Proofs.YtameehmkoglkeaaGreatDoor.M
namespace Go.Proofs.YtameehmkoglkeaaGreatDoor.M
open Go Go.Eng Go.Proofs
set_option linter.unusedVariables false
abbrev QcM:Type:=Int×Int×Int×Int×Int×(List Int)×Int×(List Int)×(List Int)×(List Qg)×(List Qb)×(List Qb)×Bool
def qP:QcM:=(0,0,0,0,0,[],0,[],[],[],[],[],false)
def xg (m:XM):QcM:=(m.1,m.2.1,m.2.2.1,m.2.2.2.1,m.2.2.2.2.1,m.2.2.2.2.2.1,m.2.2.2.2.2.2.1,m.2.2.2.2.2.2.2.1,m.2.2.2.2.2.2.2.2.1,m.2.2.2.2.2.2.2.2.2.1,m.2.2.2.2.2.2.2.2.2.2.1,m.2.2.2.2.2.2.2.2.2.2.2,true)
def bytesOf (m:XM):List Int:=zO m.1 m.2.1 m.2.2.1 m.2.2.2.1 m.2.2.2.2.1 m.2.2.2.2.2.1 m.2.2.2.2.2.2.1 m.2.2.2.2.2.2.2.1 m.2.2.2.2.2.2.2.2.1 m.2.2.2.2.2.2.2.2.2.1 m.2.2.2.2.2.2.2.2.2.2.1 m.2.2.2.2.2.2.2.2.2.2.2
def QjA (b:List Int) (m:XM) (bad:Bool):QcM:=bif !bad&&(Zb m&&Xm (QA (bytesOf m)) (QA b))then xg m else qP
def QvN (b:List Int):Option (XM×Bool)->QcM
 |none=>qP
 |some r=>QjA b r.1 r.2
structure Hd where
 a0:Int
 a1:Int
 a2:Int
 a3:Int
 a4:Int
 a5:List Int
 a6:Int
 a7:List Int
 a8:List Int
 n:Int
 p:Int
 bad:Bool
def hi1 (c:List Int):Int×Int×Bool:=rnum c 2 false
def hi2 (c:List Int):Int×Int×Bool:=rnum c (hi1 c).2.1 (hi1 c).2.2
def hi3 (c:List Int):Int×Int×Bool:=rnum c (hi2 c).2.1 (hi2 c).2.2
def hi4 (c:List Int):Int×Int×Bool:=rnum c (hi3 c).2.1 (hi3 c).2.2
def hi5 (c:List Int):Int×Int×Bool:=rnum c (hi4 c).2.1 (hi4 c).2.2
def hi6 (c:List Int):List Int×Int×Bool:=rnums c (hi5 c).2.1 (hi5 c).2.2 4
def hi7 (c:List Int):Int×Int×Bool:=rnum c (hi6 c).2.1 (hi6 c).2.2
def hi8 (c:List Int):List Int×Int×Bool:=rnums c (hi7 c).2.1 (hi7 c).2.2 5
def hi9 (c:List Int):List Int×Int×Bool:=rnums c (hi8 c).2.1 (hi8 c).2.2 4
def QU (c:List Int):Int×Int×Bool:=rnum c (hi9 c).2.1 (hi9 c).2.2
def hdI (c:List Int):Hd:=⟨(hi1 c).1,(hi2 c).1,(hi3 c).1,(hi4 c).1,(hi5 c).1,(hi6 c).1,(hi7 c).1,(hi8 c).1,(hi9 c).1,(QU c).1,(QU c).2.1,(QU c).2.2⟩
def hs1 (c:List Int):Int×Int×Bool:=rnum c 2 false
def hs2 (c:List Int):Int×Int×Bool:=rnum c (hs1 c).2.1 (hs1 c).2.2
def hs3 (c:List Int):Int×Int×Bool:=rnum c (hs2 c).2.1 (hs2 c).2.2
def hs4 (c:List Int):Int×Int×Bool:=rnum c (hs3 c).2.1 (hs3 c).2.2
def hs5 (c:List Int):Int×Int×Bool:=rnum c (hs4 c).2.1 (hs4 c).2.2
def hs6 (c:List Int):List Int×Int×Bool:=rmany c (hs5 c).2.1 (hs5 c).2.2 1
def hs7 (c:List Int):Int×Int×Bool:=rnum c (hs6 c).2.1 (hs6 c).2.2
def hs8 (c:List Int):List Int×Int×Bool:=rmany c (hs7 c).2.1 (hs7 c).2.2 1
def hs9 (c:List Int):List Int×Int×Bool:=rmany c (hs8 c).2.1 (hs8 c).2.2 1
def Q4 (c:List Int):Int×Int×Bool:=rnum c (hs9 c).2.1 (hs9 c).2.2
def hdS (c:List Int):Hd:=⟨(hs1 c).1,(hs2 c).1,(hs3 c).1,(hs4 c).1,(hs5 c).1,(hs6 c).1,(hs7 c).1,(hs8 c).1,(hs9 c).1,(Q4 c).1,(Q4 c).2.1,(Q4 c).2.2⟩
def body (b:List Int):List Int:=List.take ((b.length:Int) - 4).toNat b
def cut (b:List Int) (p n:Int):List Int:=List.take n.toNat (List.drop p.toNat b)
def Qvf (b:List Int) (h:Hd):Option (XM×Bool):=bif h.bad then none else(bif decide ((b.length:Int) - 4 - h.p<h.n)then none else(bif (stI (cut b h.p h.n)).2.2 then
 some ((h.a0,h.a1,h.a2,h.a3,h.a4,h.a5,h.a6,h.a7,h.a8,(stI (cut b h.p h.n)).1,(stI (cut b h.p h.n)).2.1,(rfloors (body b) (rcount (body b) (h.p+h.n) h.bad 5).1.toNat (rcount (body b) (h.p+h.n) h.bad 5).2.1 (rcount (body b) (h.p+h.n) h.bad 5).2.2).1),(rfloors (body b) (rcount (body b) (h.p+h.n) h.bad 5).1.toNat (rcount (body b) (h.p+h.n) h.bad 5).2.1 (rcount (body b) (h.p+h.n) h.bad 5).2.2).2.2)else none))
def Qu2 (b:List Int) (h:Hd):Option (XM×Bool):=bif h.bad then none else(bif decide ((b.length:Int) - 4 - h.p<h.n)then none else
 some ((h.a0,h.a1,h.a2,h.a3,h.a4,h.a5,h.a6,h.a7,h.a8,(stS (cut (body b) h.p h.n)).1,(stS (cut (body b) h.p h.n)).2.1,pairs (rmany (body b) (h.p+h.n) h.bad 2).1),(rmany (body b) (h.p+h.n) h.bad 2).2.2|| !(stS (cut (body b) h.p h.n)).2.2))
def Qe5 (b:List Int):QcM:=bif decide ((b.length:Int) - 4<2)then qP else(bif Xm (QA (List.take 2 b)) (⟨#[82,75]⟩:ByteArray)then QvN b (Qvf b (hdI (body b)))else qP)
def QjI (b:List Int):QcM:=bif decide ((b.length:Int)<6)then qP else(bif Xm (QA (Kd (crc (body b)))) (QA (List.drop ((b.length:Int) - 4).toNat b))then QvN b (Qu2 b (hdS (body b)))else qP)
theorem Qum {b:List Int}(h:Bs b):Bs (body b):=⟨fun x hx=>h.isb x (List.mem_of_mem_take hx),by have:=h.len;unfold body;rw[List.length_take];omega⟩
theorem QrB {b:List Int}(h:6<=b.length):(body b).length=b.length - 4:=by unfold body;rw[List.length_take];omega
theorem Qm8 {b:List Int}(h:Bs b) (p n:Int):Bs (cut b p n):=⟨fun x hx=>h.isb x (List.mem_of_mem_drop (List.mem_of_mem_take hx)),by have:=h.len;unfold cut;rw[List.length_take,List.length_drop];omega⟩
theorem QtT {c:List Int}(h:Bs c) (h2:2<=c.length):Pos c (hi1 c).2.1/\Pos c (hi2 c).2.1/\Pos c (hi3 c).2.1/\Pos c (hi4 c).2.1/\Pos c (hi5 c).2.1/\Pos c (hi6 c).2.1/\Pos c (hi7 c).2.1/\Pos c (hi8 c).2.1/\Pos c (hi9 c).2.1/\Pos c (QU c).2.1/\0<=(QU c).1/\(QU c).1<=2147483647/\(hi6 c).1.length<=4/\(hi8 c).1.length<=5/\(hi9 c).1.length<=4:=by
 have k0:Pos c 2:=⟨2,rfl,h2⟩
 have k1:Pos c (hi1 c).2.1/\0<=(hi1 c).1/\(hi1 c).1<=2147483647:=QE h k0 _
 have k2:Pos c (hi2 c).2.1/\0<=(hi2 c).1/\(hi2 c).1<=2147483647:=QE h k1.1 _
 have k3:Pos c (hi3 c).2.1/\0<=(hi3 c).1/\(hi3 c).1<=2147483647:=QE h k2.1 _
 have k4:Pos c (hi4 c).2.1/\0<=(hi4 c).1/\(hi4 c).1<=2147483647:=QE h k3.1 _
 have k5:Pos c (hi5 c).2.1/\0<=(hi5 c).1/\(hi5 c).1<=2147483647:=QE h k4.1 _
 have k6:Pos c (hi6 c).2.1/\(hi6 c).1.length<=4:=⟨(yl h k5.1 _ (by omega)).1,Int.ofNat_le.1 (yl h k5.1 _ (by omega)).2⟩
 have k7:Pos c (hi7 c).2.1/\0<=(hi7 c).1/\(hi7 c).1<=2147483647:=QE h k6.1 _
 have k8:Pos c (hi8 c).2.1/\(hi8 c).1.length<=5:=⟨(yl h k7.1 _ (by omega)).1,Int.ofNat_le.1 (yl h k7.1 _ (by omega)).2⟩
 have k9:Pos c (hi9 c).2.1/\(hi9 c).1.length<=4:=⟨(yl h k8.1 _ (by omega)).1,Int.ofNat_le.1 (yl h k8.1 _ (by omega)).2⟩
 have k10:Pos c (QU c).2.1/\0<=(QU c).1/\(QU c).1<=2147483647:=QE h k9.1 _
 exact⟨k1.1,k2.1,k3.1,k4.1,k5.1,k6.1,k7.1,k8.1,k9.1,k10.1,k10.2.1,k10.2.2,k6.2,k8.2,k9.2⟩
theorem QA8 {c:List Int}(h:Bs c) (h2:2<=c.length):Qu w (c,2,false)=some (hi1 c)/\Qu w (c,(hi1 c).2)=some (hi2 c)/\Qu w (c,(hi2 c).2)=some (hi3 c)/\Qu w (c,(hi3 c).2)=some (hi4 c)/\Qu w (c,(hi4 c).2)=some (hi5 c)/\XH w (c,(hi5 c).2.1,(hi5 c).2.2,4)=some (hi6 c)/\Qu w (c,(hi6 c).2)=some (hi7 c)/\XH w (c,(hi7 c).2.1,(hi7 c).2.2,5)=some (hi8 c)/\XH w (c,(hi8 c).2.1,(hi8 c).2.2,4)=some (hi9 c)/\Qu w (c,(hi9 c).2)=some (QU c):=by
 obtain⟨k1,k2,k3,k4,k5,k6,k7,k8,k9,k10,_⟩:=QtT h h2
 have k0:Pos c 2:=⟨2,rfl,h2⟩
 exact⟨Qew h k0 false,zu h _ k1,zu h _ k2,zu h _ k3,zu h _ k4,Qpx h k5 _ _ (by omega) (by omega),zu h _ k6,Qpx h k7 _ _ (by omega) (by omega),Qpx h k8 _ _ (by omega) (by omega),zu h _ k9⟩
theorem Qur {c:List Int}(h:Bs c) (h2:2<=c.length):Pos c (hs1 c).2.1/\Pos c (hs2 c).2.1/\Pos c (hs3 c).2.1/\Pos c (hs4 c).2.1/\Pos c (hs5 c).2.1/\Pos c (hs6 c).2.1/\Pos c (hs7 c).2.1/\Pos c (hs8 c).2.1/\Pos c (hs9 c).2.1/\Pos c (Q4 c).2.1/\0<=(Q4 c).1/\(Q4 c).1<=2147483647/\(hs6 c).1.length<=200/\(hs8 c).1.length<=200/\(hs9 c).1.length<=200:=by
 have k0:Pos c 2:=⟨2,rfl,h2⟩
 have k1:Pos c (hs1 c).2.1/\0<=(hs1 c).1/\(hs1 c).1<=2147483647:=QE h k0 _
 have k2:Pos c (hs2 c).2.1/\0<=(hs2 c).1/\(hs2 c).1<=2147483647:=QE h k1.1 _
 have k3:Pos c (hs3 c).2.1/\0<=(hs3 c).1/\(hs3 c).1<=2147483647:=QE h k2.1 _
 have k4:Pos c (hs4 c).2.1/\0<=(hs4 c).1/\(hs4 c).1<=2147483647:=QE h k3.1 _
 have k5:Pos c (hs5 c).2.1/\0<=(hs5 c).1/\(hs5 c).1<=2147483647:=QE h k4.1 _
 have k6:Pos c (hs6 c).2.1/\(hs6 c).1.length<=200:=QbA h k5.1 _ 1 (by omega)
 have k7:Pos c (hs7 c).2.1/\0<=(hs7 c).1/\(hs7 c).1<=2147483647:=QE h k6.1 _
 have k8:Pos c (hs8 c).2.1/\(hs8 c).1.length<=200:=QbA h k7.1 _ 1 (by omega)
 have k9:Pos c (hs9 c).2.1/\(hs9 c).1.length<=200:=QbA h k8.1 _ 1 (by omega)
 have k10:Pos c (Q4 c).2.1/\0<=(Q4 c).1/\(Q4 c).1<=2147483647:=QE h k9.1 _
 exact⟨k1.1,k2.1,k3.1,k4.1,k5.1,k6.1,k7.1,k8.1,k9.1,k10.1,k10.2.1,k10.2.2,k6.2,k8.2,k9.2⟩
theorem QA7 {c:List Int}(h:Bs c) (h2:2<=c.length):QP w (c,2,false)=some (hs1 c)/\QP w (c,(hs1 c).2)=some (hs2 c)/\QP w (c,(hs2 c).2)=some (hs3 c)/\QP w (c,(hs3 c).2)=some (hs4 c)/\QP w (c,(hs4 c).2)=some (hs5 c)/\Xv w (c,(hs5 c).2.1,(hs5 c).2.2,1)=some (hs6 c)/\QP w (c,(hs6 c).2)=some (hs7 c)/\Xv w (c,(hs7 c).2.1,(hs7 c).2.2,1)=some (hs8 c)/\Xv w (c,(hs8 c).2.1,(hs8 c).2.2,1)=some (hs9 c)/\QP w (c,(hs9 c).2)=some (Q4 c):=by
 obtain⟨k1,k2,k3,k4,k5,k6,k7,k8,k9,k10,_⟩:=Qur h h2
 have k0:Pos c 2:=⟨2,rfl,h2⟩
 exact⟨QdT h k0 false,xZ h _ k1,xZ h _ k2,xZ h _ k3,xZ h _ k4,Qhx h k5 _ 1 (by omega) (by omega),xZ h _ k6,Qhx h k7 _ 1 (by omega) (by omega),Qhx h k8 _ 1 (by omega) (by omega),xZ h _ k9⟩
end Go.Proofs.YtameehmkoglkeaaGreatDoor.M
namespace Go.Proofs.YtameehmkoglkeaaGreatDoor.M
open Go Go.Eng Go.Proofs
set_option linter.unusedVariables false
theorem Qya (r:Int):isB (Kd r):=fun x hx=>by
 simp only[Kd,QRk,List.not_mem_nil,or_false]at hx
 rcases hx with rfl|rfl|rfl|rfl<;>exact wrap_u8 _
theorem QEp (bad ok eq:Bool) (r z:QcM):(bif bad then some z else(bif !ok then some z else(bif !eq then some z else some r)))=some (bif !bad&&(ok&&eq)then r else z):=by
 cases bad<;>cases ok<;>cases eq<;>rfl
theorem QEN (so bad ok eq:Bool) (r z:QcM):(bif !so then some z else(bif bad then some z else(bif !ok then some z else(bif !eq then some z else some r))))=some (bif !(bad|| !so)&&(ok&&eq)then r else z):=by
 cases so<;>cases bad<;>cases ok<;>cases eq<;>rfl
theorem Quv {b:List Int}(hb:isB b):(stI b).1.length<=5/\(stI b).2.1.length<=5:=by
 rcases QwD hb with h|⟨s,h,h1,_⟩
 ·rw[h];simp
 ·rw[h];exact Jn h1
theorem QAe {b:List Int}(hb:isB b):(stS b).1.length<=5/\(stS b).2.1.length<=5:=by rw[QzH hb];exact Quv hb
theorem Qvo {c:List Int}(h:Bs c) (b:List Int) (n:Nat) (hn:n<=5) (a0 a1 a2 a3 a4:Int) (a5:List Int) (a6:Int) (a7 a8:List Int) (a9:List Qg) (a10:List Qb):(m i:Nat)->(p:Int)->(bad:Bool)->(out:List Qb)->i+m=n->out.length=i->Pos c p->Kk wl (b,(n:Int),(i:Int),a0,a1,a2,a3,a4,a5,a6,a7,a8,a9,a10,out,c,p,bad)=some (b,a0,a1,a2,a3,a4,a5,a6,a7,a8,a9,a10,out++(rfloors c m p bad).1,c,(rfloors c m p bad).2):=by
 intro m
 induction m with
 |zero=>
  intro i p bad out hi ho hp
  apply Qek
  simp only[QcK,df (show¬(i:Int)<(n:Int) by omega),QQ2,rfloors,List.append_nil]
 |succ m ih=>
  intro i p bad out hi ho hp
  apply Qek
  have h2:=(QE h hp bad).1
  simp only[QcK,dt (show(i:Int)<(n:Int) by omega),Qew h hp,QQ0,zu h _ h2,w64 (n:=(i:Int)+1) (by omega) (by omega),QQ1]
  rw[QF (by simp;omega),QQ1]
  have:=ih (i+1) _ (rfloor c p bad).2.2 (out++[(rfloor c p bad).1]) (by omega) (by simp[ho]) (Qin h hp bad)
  rw[show(i:Int)+1=((i+1:Nat):Int) by omega]
  refine this.trans ?_
  simp only[rfloors,QRc,QRv,QRe]
theorem Qui (b:List Int) (a0 a1 a2 a3 a4:Int) (a5:List Int) (a6:Int) (a7 a8:List Int) (n p:Int) (bad:Bool):Qvf b ⟨a0,a1,a2,a3,a4,a5,a6,a7,a8,n,p,bad⟩=bif bad then none else(bif decide ((b.length:Int) - 4 - p<n)then none else(bif (stI (cut b p n)).2.2 then
 some ((a0,a1,a2,a3,a4,a5,a6,a7,a8,(stI (cut b p n)).1,(stI (cut b p n)).2.1,(rfloors (body b) (rcount (body b) (p+n) bad 5).1.toNat (rcount (body b) (p+n) bad 5).2.1 (rcount (body b) (p+n) bad 5).2.2).1),(rfloors (body b) (rcount (body b) (p+n) bad 5).1.toNat (rcount (body b) (p+n) bad 5).2.1 (rcount (body b) (p+n) bad 5).2.2).2.2)else none)):=by unfold Qvf;rfl
theorem Qul (b:List Int) (a0 a1 a2 a3 a4:Int) (a5:List Int) (a6:Int) (a7 a8:List Int) (n p:Int) (bad:Bool):Qu2 b ⟨a0,a1,a2,a3,a4,a5,a6,a7,a8,n,p,bad⟩=bif bad then none else(bif decide ((b.length:Int) - 4 - p<n)then none else
 some ((a0,a1,a2,a3,a4,a5,a6,a7,a8,(stS (cut (body b) p n)).1,(stS (cut (body b) p n)).2.1,pairs (rmany (body b) (p+n) bad 2).1),(rmany (body b) (p+n) bad 2).2.2|| !(stS (cut (body b) p n)).2.2)):=by unfold Qu2;rfl
set_option maxHeartbeats 2000000 in
theorem QyU {b:List Int}(h:Bs b):jf w b=some (Qe5 b):=by
 apply QqC
 have hl:=h.len
 simp only[QhU,w64 (n:=(b.length:Int) - 4) (by omega) (by omega),Qe5]
 by_cases h6:(b.length:Int) - 4<2
 ·simp only[dt h6,QQ1];rfl
 have hb6:6<=b.length:=by omega
 have eb:List.take (Int.toNat ((b.length:Int) - 4 - 0)) (List.drop (Int.toNat 0) b)=body b:=by simp only[Int.sub_zero,Int.toNat_zero,QRg,body]
 have e2:List.take (Int.toNat (2 - 0)) (List.drop (Int.toNat 0) b)=List.take 2 b:=rfl
 simp only[df h6,QQ2,dt (show(0:Int)<=0/\0<=(2:Int)/\2<=(b.length:Int) by omega),QQ1,dt (show(0:Int)<=0/\0<=(b.length:Int) - 4/\(b.length:Int) - 4<=(b.length:Int) by omega),eb,e2]
 cases Xm (QA (List.take 2 b)) (⟨#[82,75]⟩:ByteArray)
 ·rfl
 have hc:=Qum h
 have hcl:=QrB hb6
 obtain⟨q1,q2,q3,q4,q5,q6,q7,q8,q9,q10⟩:=QA8 hc (by omega)
 obtain⟨_,_,_,_,_,_,_,_,_,k10,hn0,hn1,l6,l8,l9⟩:=QtT hc (by omega)
 simp only[QQ3,QQ2,q1,q2,q3,q4,q5,q6,q7,q8,q9,q10,QQ0,QQ1]
 obtain⟨k,hk,hkl⟩:=k10
 simp only[hdI,Qui]
 cases hbad:(QU (body b)).2.2
 ·simp only[QQ2,w64 (n:=(b.length:Int) - 4 - (QU (body b)).2.1) (by omega) (by omega)]
  by_cases hlt:(b.length:Int) - 4 - (QU (body b)).2.1<(QU (body b)).1
  ·simp only[dt hlt,QQ1];rfl
  have hP:Pos (body b) ((QU (body b)).2.1+(QU (body b)).1):=⟨((QU (body b)).2.1+(QU (body b)).1).toNat,by omega,by omega⟩
  have ec:List.take (Int.toNat ((QU (body b)).2.1+(QU (body b)).1 - (QU (body b)).2.1)) (List.drop (Int.toNat (QU (body b)).2.1) b)=cut b (QU (body b)).2.1 (QU (body b)).1:=by
   unfold cut;congr 2;omega
  simp only[df hlt,QQ2,w64 (n:=(QU (body b)).2.1+(QU (body b)).1) (by omega) (by omega),dt (show(0:Int)<=(QU (body b)).2.1/\(QU (body b)).2.1<=(QU (body b)).2.1+(QU (body b)).1/\(QU (body b)).2.1+(QU (body b)).1<=(b.length:Int) by omega),QQ1,ec,QuS (Qm8 h _ _),QQ0]
  cases(stI (cut b (QU (body b)).2.1 (QU (body b)).1)).2.2
  ·rfl
  have k1:=yp hc hP false (most:=5) (by omega)
  simp only[QQ3,QQ2,QQ1,QiF hc hP,QQ0]
  obtain⟨n,hn⟩:∃n:Nat,(rcount (body b) ((QU (body b)).2.1+(QU (body b)).1) false 5).1=(n:Int):=⟨(rcount (body b) ((QU (body b)).2.1+(QU (body b)).1) false 5).1.toNat,by omega⟩
  have e1:=Qvo hc b n (by omega) (hi1 (body b)).1 (hi2 (body b)).1 (hi3 (body b)).1 (hi4 (body b)).1 (hi5 (body b)).1 (hi6 (body b)).1 (hi7 (body b)).1 (hi8 (body b)).1 (hi9 (body b)).1 (stI (cut b (QU (body b)).2.1 (QU (body b)).1)).1 (stI (cut b (QU (body b)).2.1 (QU (body b)).1)).2.1 n 0 (rcount (body b) ((QU (body b)).2.1+(QU (body b)).1) false 5).2.1 (rcount (body b) ((QU (body b)).2.1+(QU (body b)).1) false 5).2.2 [] (by omega) rfl k1.1
  have k4:=Qg7 hc n (rcount (body b) ((QU (body b)).2.1+(QU (body b)).1) false 5).2.1 (rcount (body b) ((QU (body b)).2.1+(QU (body b)).1) false 5).2.2 k1.1
  simp only[QQ6,QRe]at e1
  simp only[hn,QRb]
  rw[show Kk wl (b,(n:Int),0,(hi1 (body b)).1,(hi2 (body b)).1,(hi3 (body b)).1,(hi4 (body b)).1,(hi5 (body b)).1,(hi6 (body b)).1,(hi7 (body b)).1,(hi8 (body b)).1,(hi9 (body b)).1,(stI (cut b (QU (body b)).2.1 (QU (body b)).1)).1,(stI (cut b (QU (body b)).2.1 (QU (body b)).1)).2.1,[],body b,(rcount (body b) ((QU (body b)).2.1+(QU (body b)).1) false 5).2)=_ from e1]
  generalize rfloors (body b) n (rcount (body b) ((QU (body b)).2.1+(QU (body b)).1) false 5).2.1 (rcount (body b) ((QU (body b)).2.1+(QU (body b)).1) false 5).2.2=f at k4
  have hst:=Quv (Qm8 h (QU (body b)).2.1 (QU (body b)).1).isb
  have hm:smM (hi6 (body b)).1 (hi8 (body b)).1 (hi9 (body b)).1 (stI (cut b (QU (body b)).2.1 (QU (body b)).1)).1 (stI (cut b (QU (body b)).2.1 (QU (body b)).1)).2.1 f.1:=by
   simp only[smM,maxLen];omega
  simp only[QQ0,QlK _ _ _ _ _ _ _ _ _ _ _ _ hm,Qto _ _ _ _ _ _ _ _ _ _ _ _ hm,QrR]
  exact QEp _ _ _ _ _
 ·rfl
theorem Qk3 (b c full:List Int) (so:Bool) (a0 a1 a2 a3 a4:Int) (a5:List Int) (a6:Int) (a7 a8:List Int) (a9:List Qg) (a10:List Qb) (r:Int×Bool) (hf:full.length<=200):(l:List Int)->(i:Nat)->(out:List Qb)->full.drop i=l->i<=full.length->out.length<=i->Ju wl (b,so,(i:Int),a0,a1,a2,a3,a4,a5,a6,a7,a8,a9,a10,out,full,c,r)=some (b,so,a0,a1,a2,a3,a4,a5,a6,a7,a8,a9,a10,out++pairs l,c,r)
 | [],i,out,hd,hi,ho=>by
   have:full.length - i=0:=by rw[<-List.length_drop,hd];rfl
   apply zB
   simp only[x7,w64 (n:=(i:Int)+1) (by omega) (by omega),df (show¬(i:Int)+1<(full.length:Int) by omega),QQ2,pairs,List.append_nil]
 | [x],i,out,hd,hi,ho=>by
   have:full.length - i=1:=by rw[<-List.length_drop,hd];rfl
   apply zB
   simp only[x7,w64 (n:=(i:Int)+1) (by omega) (by omega),df (show¬(i:Int)+1<(full.length:Int) by omega),QQ2,pairs,List.append_nil]
 |x::y::l,i,out,hd,hi,ho=>by
  have hlen:full.length - i=l.length+2:=by rw[<-List.length_drop,hd];rfl
  have hx:rd1 (0:Int) full (i:Int)=x:=by
   rw[Qi (show i<full.length by omega)]
   have:=QRa (show i<full.length by omega)
   rw[hd]at this
   exact(List.cons.inj this).1.symm
  have hd1:full.drop (i+1)=y::l:=by
   have:=QRa (show i<full.length by omega)
   rw[hd]at this
   exact(List.cons.inj this).2.symm
  have hy:rd1 (0:Int) full ((i+1:Nat):Int)=y:=by
   rw[Qi (show i+1<full.length by omega)]
   have:=QRa (show i+1<full.length by omega)
   rw[hd1]at this
   exact(List.cons.inj this).1.symm
  have hd2:full.drop (i+2)=l:=by
   have:=QRa (show i+1<full.length by omega)
   rw[hd1]at this
   exact(List.cons.inj this).2.symm
  have ih:=Qk3 b c full so a0 a1 a2 a3 a4 a5 a6 a7 a8 a9 a10 r hf l (i+2) (out++[(x,y)]) hd2 (by omega) (by simp;omega)
  apply zB
  simp only[x7,w64 (n:=((i+1:Nat):Int)) (by omega) (by omega),w64 (n:=(i:Int)+2) (by omega) (by omega),dt (show((i+1:Nat):Int)<(full.length:Int) by omega),QQ1,Ql (show i<full.length by omega),show(i:Int)+1=((i+1:Nat):Int) by omega,Ql (show i+1<full.length by omega),hx,hy]
  rw[QF (by simp;omega),QQ1,show(i:Int)+2=((i+2:Nat):Int) by omega,ih]
  simp only[pairs,QRc,QRv,QRe]
set_option maxHeartbeats 2000000 in
theorem QwU {b:List Int}(h:Bs b):jI w b=some (QjI b):=by
 apply QqP
 have hl:=h.len
 simp only[QhH,w64 (n:=(b.length:Int) - 4) (by omega) (by omega),QjI]
 by_cases h6:(b.length:Int)<6
 ·simp only[dt h6,QQ1];rfl
 have hb6:6<=b.length:=by omega
 have eb:List.take (Int.toNat ((b.length:Int) - 4 - 0)) (List.drop (Int.toNat 0) b)=body b:=by simp only[Int.sub_zero,Int.toNat_zero,QRg,body]
 have e2:List.take (Int.toNat ((b.length:Int) - ((b.length:Int) - 4))) (List.drop (Int.toNat ((b.length:Int) - 4)) b)=List.drop ((b.length:Int) - 4).toNat b:=List.take_of_length_le (by rw[List.length_drop];omega)
 have hc:=Qum h
 have hcl:=QrB hb6
 have hcl2:((body b).length:Int)=(b.length:Int) - 4:=by omega
 simp only[df h6,QQ2,QQ1,dt (show(0:Int)<=0/\0<=(b.length:Int) - 4/\(b.length:Int) - 4<=(b.length:Int) by omega),dt (show(0:Int)<=(b.length:Int) - 4/\(b.length:Int) - 4<=(b.length:Int)/\(b.length:Int)<=(b.length:Int) by omega),eb,e2,Qqq (body b) (by simp only[maxLen];omega) hc.isb,QQ0]
 cases Xm (QA (Kd (crc (body b)))) (QA (List.drop ((b.length:Int) - 4).toNat b))
 ·rfl
 obtain⟨q1,q2,q3,q4,q5,q6,q7,q8,q9,q10⟩:=QA7 hc (by omega)
 obtain⟨_,_,_,_,_,_,_,_,_,k10,hn0,hn1,l6,l8,l9⟩:=Qur hc (by omega)
 simp only[QQ3,QQ2,q1,q2,q3,q4,q5,q6,q7,q8,q9,q10,QQ0,QQ1]
 obtain⟨k,hk,hkl⟩:=k10
 simp only[hdS,Qul]
 cases hbad:(Q4 (body b)).2.2
 ·simp only[QQ2,hcl2,w64 (n:=(b.length:Int) - 4 - (Q4 (body b)).2.1) (by omega) (by omega)]
  by_cases hlt:(b.length:Int) - 4 - (Q4 (body b)).2.1<(Q4 (body b)).1
  ·simp only[dt hlt,QQ1];rfl
  have hP:Pos (body b) ((Q4 (body b)).2.1+(Q4 (body b)).1):=⟨((Q4 (body b)).2.1+(Q4 (body b)).1).toNat,by omega,by omega⟩
  have ec:List.take (Int.toNat ((Q4 (body b)).2.1+(Q4 (body b)).1 - (Q4 (body b)).2.1)) (List.drop (Int.toNat (Q4 (body b)).2.1) (body b))=cut (body b) (Q4 (body b)).2.1 (Q4 (body b)).1:=by
   unfold cut;congr 2;omega
  have k2:=QbA hc hP false 2 (by omega)
  have hm2:Xv w (body b,(Q4 (body b)).2.1+(Q4 (body b)).1,false,2)=some (rmany (body b) ((Q4 (body b)).2.1+(Q4 (body b)).1) false 2):=Qhx hc hP false 2 (by omega) (by omega)
  simp only[df hlt,QQ2,w64 (n:=(Q4 (body b)).2.1+(Q4 (body b)).1) (by omega) (by omega),dt (show(0:Int)<=(Q4 (body b)).2.1/\(Q4 (body b)).2.1<=(Q4 (body b)).2.1+(Q4 (body b)).1/\(Q4 (body b)).2.1+(Q4 (body b)).1<=(b.length:Int) - 4 by omega),QQ1,ec,QsX (Qm8 hc _ _),hm2,QQ0]
  have e1:=Qk3 b (body b) (rmany (body b) ((Q4 (body b)).2.1+(Q4 (body b)).1) false 2).1 (stS (cut (body b) (Q4 (body b)).2.1 (Q4 (body b)).1)).2.2 (hs1 (body b)).1 (hs2 (body b)).1 (hs3 (body b)).1 (hs4 (body b)).1 (hs5 (body b)).1 (hs6 (body b)).1 (hs7 (body b)).1 (hs8 (body b)).1 (hs9 (body b)).1 (stS (cut (body b) (Q4 (body b)).2.1 (Q4 (body b)).1)).1 (stS (cut (body b) (Q4 (body b)).2.1 (Q4 (body b)).1)).2.1 (rmany (body b) ((Q4 (body b)).2.1+(Q4 (body b)).1) false 2).2 k2.2 _ 0 [] rfl (by omega) (by simp)
  simp only[QQ6,QRe,QRg]at e1
  rw[e1]
  have hpl:=QjP (rmany (body b) ((Q4 (body b)).2.1+(Q4 (body b)).1) false 2).1
  generalize rmany (body b) ((Q4 (body b)).2.1+(Q4 (body b)).1) false 2=f at k2 hpl
  have hst:=QAe (Qm8 hc (Q4 (body b)).2.1 (Q4 (body b)).1).isb
  have hm:smM (hs6 (body b)).1 (hs8 (body b)).1 (hs9 (body b)).1 (stS (cut (body b) (Q4 (body b)).2.1 (Q4 (body b)).1)).1 (stS (cut (body b) (Q4 (body b)).2.1 (Q4 (body b)).1)).2.1 (pairs f.1):=by
   simp only[smM,maxLen];omega
  simp only[QQ0,Qj7 _ _ _ _ _ _ _ _ _ _ _ _ hm,Qrk _ _ _ _ _ _ _ _ _ _ _ _ hm]
  exact QEN _ _ _ _ _ _
 ·rfl
end Go.Proofs.YtameehmkoglkeaaGreatDoor.M
namespace Go.Proofs.YtameehmkoglkeaaGreatDoor.M
open Go Go.Eng Go.Proofs
set_option linter.unusedVariables false
theorem Qv0 {m:XM}(h:Zb m=true):bytesOf m=Xy m.1 m.2.1 m.2.2.1 m.2.2.2.1 m.2.2.2.2.1 m.2.2.2.2.2.1 m.2.2.2.2.2.2.1 m.2.2.2.2.2.2.2.1 m.2.2.2.2.2.2.2.2.1 m.2.2.2.2.2.2.2.2.2.1 m.2.2.2.2.2.2.2.2.2.2.1 m.2.2.2.2.2.2.2.2.2.2.2++Kd (crc (Xy m.1 m.2.1 m.2.2.1 m.2.2.2.1 m.2.2.2.2.1 m.2.2.2.2.2.1 m.2.2.2.2.2.2.1 m.2.2.2.2.2.2.2.1 m.2.2.2.2.2.2.2.2.1 m.2.2.2.2.2.2.2.2.2.1 m.2.2.2.2.2.2.2.2.2.2.1 m.2.2.2.2.2.2.2.2.2.2.2)):=by
 unfold bytesOf zO
 rw[show J1 m.1 m.2.1 m.2.2.1 m.2.2.2.1 m.2.2.2.2.1 m.2.2.2.2.2.1 m.2.2.2.2.2.2.1 m.2.2.2.2.2.2.2.1 m.2.2.2.2.2.2.2.2.1 m.2.2.2.2.2.2.2.2.2.1 m.2.2.2.2.2.2.2.2.2.2.1 m.2.2.2.2.2.2.2.2.2.2.2=true from h];rfl
theorem QsS (m:XM):isB (bytesOf m):=by
 unfold bytesOf zO
 cases J1 m.1 m.2.1 m.2.2.1 m.2.2.2.1 m.2.2.2.2.1 m.2.2.2.2.2.1 m.2.2.2.2.2.2.1 m.2.2.2.2.2.2.2.1 m.2.2.2.2.2.2.2.2.1 m.2.2.2.2.2.2.2.2.2.1 m.2.2.2.2.2.2.2.2.2.2.1 m.2.2.2.2.2.2.2.2.2.2.2
 ·intro x hx;simp at hx
 ·exact QR (QR (Qla _ _ _ _ _ _ _ _ _ _ _ _) (Qfr _ QiE _)) (Qya _)
theorem QlG {l:List Int}{hi:Int}(h:∀x∈l,inR x 0 hi=true) (hh:hi<=2147483647):∀x∈l,inN x:=fun x hx=>by
 have:=QW.1 (h x hx)
 unfold inN;omega
theorem QAs {p:Int}{l:List Int}(h:okL p l=true):∀x∈l,inR x 0 3=true:=by
 rw[QnJ,QQ5,QRt]at h
 exact h.1
theorem Qyl {l:List Int}{r:Int}(h:qL (l,r)=true):(∀x∈l,inN x)/\0<=r/\r<=1023:=by
 unfold qL at h
 by_cases h0:((l.length:Nat):Int)=0
 ·simp only[dt h0,QQ1,QRu]at h
  have:l=[]:=List.length_eq_zero_iff.1 (by omega)
  rw[this]
  exact⟨by simp,by omega⟩
 ·simp only[df h0,QQ2,QQ5,QRt]at h
  exact⟨QlG h.1.1 (by omega),QW.1 h.2⟩
theorem Qxr {m:XM}(h:Zb m=true) {c:List Int}(hc:c=Xy m.1 m.2.1 m.2.2.1 m.2.2.2.1 m.2.2.2.2.1 m.2.2.2.2.2.1 m.2.2.2.2.2.2.1 m.2.2.2.2.2.2.2.1 m.2.2.2.2.2.2.2.2.1 m.2.2.2.2.2.2.2.2.2.1 m.2.2.2.2.2.2.2.2.2.2.1 m.2.2.2.2.2.2.2.2.2.2.2):∃p,hdI c=⟨m.1,m.2.1,m.2.2.1,m.2.2.2.1,m.2.2.2.2.1,m.2.2.2.2.2.1,m.2.2.2.2.2.2.1,m.2.2.2.2.2.2.2.1,m.2.2.2.2.2.2.2.2.1,(((stB (m.2.2.2.2.2.2.2.2.2.1,m.2.2.2.2.2.2.2.2.2.2.1)).length:Nat):Int),p,false⟩/\hdS c=⟨m.1,m.2.1,m.2.2.1,m.2.2.2.1,m.2.2.2.2.1,m.2.2.2.2.2.1,m.2.2.2.2.2.2.1,m.2.2.2.2.2.2.2.1,m.2.2.2.2.2.2.2.2.1,(((stB (m.2.2.2.2.2.2.2.2.2.1,m.2.2.2.2.2.2.2.2.2.2.1)).length:Nat):Int),p,false⟩/\Enc c p (stB (m.2.2.2.2.2.2.2.2.2.1,m.2.2.2.2.2.2.2.2.2.2.1)++(Qd (m.2.2.2.2.2.2.2.2.2.2.2.length:Nat)++(m.2.2.2.2.2.2.2.2.2.2.2.flatMap Q5++[]))):=by
 have ok:=mok h
 have hsm:=QaI m.1 m.2.1 m.2.2.1 m.2.2.2.1 m.2.2.2.2.1 m.2.2.2.2.2.1 m.2.2.2.2.2.2.1 m.2.2.2.2.2.2.2.1 m.2.2.2.2.2.2.2.2.1 m.2.2.2.2.2.2.2.2.2.1 m.2.2.2.2.2.2.2.2.2.2.1 m.2.2.2.2.2.2.2.2.2.2.2 h
 have r0:=QW.1 ok.kind
 have r1:=QW.1 ok.src
 have r2:=QW.1 ok.dst
 have r3:=QW.1 ok.num
 have r4:=QW.1 ok.hi
 have r7:=QlG ok.vec (by omega)
 have r8:=QlG (QAs ok.lv) (show(3:Int)<=2147483647 by omega)
 obtain⟨r5,r6⟩:=Qyl ok.tree
 have ln:=Qkx (qy ok.part)
 have hE:Enc c 2 (Qd m.1++(Qd m.2.1++(Qd m.2.2.1++(Qd m.2.2.2.1++(Qd m.2.2.2.2.1++(nums m.2.2.2.2.2.1++(Qd m.2.2.2.2.2.2.1++(nums m.2.2.2.2.2.2.2.1++(nums m.2.2.2.2.2.2.2.2.1++(Qd ((stB (m.2.2.2.2.2.2.2.2.2.1,m.2.2.2.2.2.2.2.2.2.2.1)).length:Nat)++(stB (m.2.2.2.2.2.2.2.2.2.1,m.2.2.2.2.2.2.2.2.2.2.1)++(Qd (m.2.2.2.2.2.2.2.2.2.2.2.length:Nat)++(m.2.2.2.2.2.2.2.2.2.2.2.flatMap Q5++[]))))))))))))):=by
  have:=Enc.skip (b:=c) (k:=0) (a:=[82,75]) (l:=Qd m.1++(Qd m.2.1++(Qd m.2.2.1++(Qd m.2.2.2.1++(Qd m.2.2.2.2.1++(nums m.2.2.2.2.2.1++(Qd m.2.2.2.2.2.2.1++(nums m.2.2.2.2.2.2.2.1++(nums m.2.2.2.2.2.2.2.2.1++(Qd ((stB (m.2.2.2.2.2.2.2.2.2.1,m.2.2.2.2.2.2.2.2.2.2.1)).length:Nat)++(stB (m.2.2.2.2.2.2.2.2.2.1,m.2.2.2.2.2.2.2.2.2.2.1)++(Qd (m.2.2.2.2.2.2.2.2.2.2.2.length:Nat)++(m.2.2.2.2.2.2.2.2.2.2.2.flatMap Q5++[]))))))))))))) (by
   rw[hc];simp only[Xy,YM,QRc,List.append_nil,QRg]) (by omega)
  exact this
 obtain⟨p1,e1,q1⟩:=Xq hE (by omega) (by omega)
 obtain⟨p2,e2,q2⟩:=Xq q1 (by omega) (by omega)
 obtain⟨p3,e3,q3⟩:=Xq q2 (by omega) (by omega)
 obtain⟨p4,e4,q4⟩:=Xq q3 (by omega) (by omega)
 obtain⟨p5,e5,q5⟩:=Xq q4 (by omega) (by omega)
 obtain⟨p6,e6,q6⟩:=QjQ (most:=4) r5 (by omega) (by omega) q5
 obtain⟨p7,e7,q7⟩:=Xq q6 (by omega) (by omega)
 obtain⟨p8,e8,q8⟩:=QjQ (most:=5) r7 (by omega) (by omega) q7
 obtain⟨p9,e9,q9⟩:=QjQ (most:=4) r8 (by omega) (by omega) q8
 obtain⟨p10,e10,q10⟩:=Xq q9 (by omega) (by omega)
 obtain⟨p6',f6,q6'⟩:=QbS 1 m.2.2.2.2.2.1.length r5 (by omega) (by omega) (show Enc c p5 (Qd (m.2.2.2.2.2.1.length:Nat)++(m.2.2.2.2.2.1.flatMap Qd++_)) by rw[<-QRc];exact q5)
 obtain⟨p7',f7,q7'⟩:=Xq q6' (by omega) (by omega)
 obtain⟨p8',f8,q8'⟩:=QbS 1 m.2.2.2.2.2.2.2.1.length r7 (by omega) (by omega) (show Enc c p7' (Qd (m.2.2.2.2.2.2.2.1.length:Nat)++(m.2.2.2.2.2.2.2.1.flatMap Qd++_)) by rw[<-QRc];exact q7')
 obtain⟨p9',f9,q9'⟩:=QbS 1 m.2.2.2.2.2.2.2.2.1.length r8 (by omega) (by omega) (show Enc c p8' (Qd (m.2.2.2.2.2.2.2.2.1.length:Nat)++(m.2.2.2.2.2.2.2.2.1.flatMap Qd++_)) by rw[<-QRc];exact q8')
 obtain⟨p10',f10,q10'⟩:=Xq q9' (by omega) (by omega)
 have g1:hi1 c=(m.1,p1,false):=e1
 have g2:hi2 c=(m.2.1,p2,false):=by unfold hi2;rw[g1];exact e2
 have g3:hi3 c=(m.2.2.1,p3,false):=by unfold hi3;rw[g2];exact e3
 have g4:hi4 c=(m.2.2.2.1,p4,false):=by unfold hi4;rw[g3];exact e4
 have g5:hi5 c=(m.2.2.2.2.1,p5,false):=by unfold hi5;rw[g4];exact e5
 have g6:hi6 c=(m.2.2.2.2.2.1,p6,false):=by unfold hi6;rw[g5];exact e6
 have g7:hi7 c=(m.2.2.2.2.2.2.1,p7,false):=by unfold hi7;rw[g6];exact e7
 have g8:hi8 c=(m.2.2.2.2.2.2.2.1,p8,false):=by unfold hi8;rw[g7];exact e8
 have g9:hi9 c=(m.2.2.2.2.2.2.2.2.1,p9,false):=by unfold hi9;rw[g8];exact e9
 have g10:QU c=((((stB (m.2.2.2.2.2.2.2.2.2.1,m.2.2.2.2.2.2.2.2.2.2.1)).length:Nat):Int),p10,false):=by unfold QU;rw[g9];exact e10
 have d1:hs1 c=(m.1,p1,false):=e1
 have d2:hs2 c=(m.2.1,p2,false):=by unfold hs2;rw[d1];exact e2
 have d3:hs3 c=(m.2.2.1,p3,false):=by unfold hs3;rw[d2];exact e3
 have d4:hs4 c=(m.2.2.2.1,p4,false):=by unfold hs4;rw[d3];exact e4
 have d5:hs5 c=(m.2.2.2.2.1,p5,false):=by unfold hs5;rw[d4];exact e5
 have d6:hs6 c=(m.2.2.2.2.2.1,p6',false):=by unfold hs6;rw[d5];exact f6
 have d7:hs7 c=(m.2.2.2.2.2.2.1,p7',false):=by unfold hs7;rw[d6];exact f7
 have d8:hs8 c=(m.2.2.2.2.2.2.2.1,p8',false):=by unfold hs8;rw[d7];exact f8
 have d9:hs9 c=(m.2.2.2.2.2.2.2.2.1,p9',false):=by unfold hs9;rw[d8];exact f9
 have d10:Q4 c=((((stB (m.2.2.2.2.2.2.2.2.2.1,m.2.2.2.2.2.2.2.2.2.2.1)).length:Nat):Int),p10',false):=by unfold Q4;rw[d9];exact f10
 have hp:p10'=p10:=by
  obtain⟨k,rfl,hk,ek⟩:=q10
  obtain⟨k',rfl,hk',ek'⟩:=q10'
  have:=congrArg List.length (ek.trans ek'.symm)
  rw[List.length_drop,List.length_drop]at this
  omega
 refine⟨p10, ?_, ?_,q10⟩
 ·simp only[hdI,g1,g2,g3,g4,g5,g6,g7,g8,g9,g10]
 ·simp only[hdS,d1,d2,d3,d4,d5,d6,d7,d8,d9,d10,hp]
theorem QxT {m:XM}(h:Zb m=true) {c s:List Int}{p:Int}(q:Enc c p (stB (m.2.2.2.2.2.2.2.2.2.1,m.2.2.2.2.2.2.2.2.2.2.1)++(Qd (m.2.2.2.2.2.2.2.2.2.2.2.length:Nat)++(m.2.2.2.2.2.2.2.2.2.2.2.flatMap Q5++[])))):∃k:Nat,p=(k:Int)/\k+(stB (m.2.2.2.2.2.2.2.2.2.1,m.2.2.2.2.2.2.2.2.2.2.1)).length<=c.length/\cut (c++s) p ((stB (m.2.2.2.2.2.2.2.2.2.1,m.2.2.2.2.2.2.2.2.2.2.1)).length:Nat)=stB (m.2.2.2.2.2.2.2.2.2.1,m.2.2.2.2.2.2.2.2.2.2.1)/\cut c p ((stB (m.2.2.2.2.2.2.2.2.2.1,m.2.2.2.2.2.2.2.2.2.2.1)).length:Nat)=stB (m.2.2.2.2.2.2.2.2.2.1,m.2.2.2.2.2.2.2.2.2.2.1)/\
 (∃p1,rcount c (p+((stB (m.2.2.2.2.2.2.2.2.2.1,m.2.2.2.2.2.2.2.2.2.2.1)).length:Nat)) false 5=(((m.2.2.2.2.2.2.2.2.2.2.2.length:Nat):Int),p1,false)/\∃p2,rfloors c m.2.2.2.2.2.2.2.2.2.2.2.length p1 false=(m.2.2.2.2.2.2.2.2.2.2.2,p2,false))/\∃p3,rmany c (p+((stB (m.2.2.2.2.2.2.2.2.2.1,m.2.2.2.2.2.2.2.2.2.2.1)).length:Nat)) false 2=(vv m.2.2.2.2.2.2.2.2.2.2.2,p3,false):=by
 obtain⟨k,rfl,hk,ek⟩:=q
 have hl:=congrArg List.length ek
 rw[List.length_drop,QRj]at hl
 have hq:=Enc.skip ek hk
 have hm:=Qwx (mok h).marks
 have hin:=QiB (mok h).marks
 have ei:((k:Int)+(((stB (m.2.2.2.2.2.2.2.2.2.1,m.2.2.2.2.2.2.2.2.2.2.1)).length:Nat):Int))=((k+(stB (m.2.2.2.2.2.2.2.2.2.1,m.2.2.2.2.2.2.2.2.2.2.1)).length:Nat):Int):=by omega
 refine⟨k,rfl,by omega, ?_, ?_, ?_, ?_⟩
 ·unfold cut
  rw[QRb,QRb,List.drop_append_of_le_length hk,ek,QRc,List.take_left]
 ·unfold cut
  rw[QRb,QRb,ek,List.take_left]
 ·rw[ei]
  obtain⟨p1,e1,q1⟩:=QdJ (most:=5) hq (by omega) (by omega) (by omega)
  obtain⟨p2,e2,_⟩:=Qg8 m.2.2.2.2.2.2.2.2.2.2.2 p1 hin q1
  exact⟨p1,e1,p2,e2⟩
 ·rw[ei]
  rw[<-Qg6]at hq
  obtain⟨p3,e3,_⟩:=QbS 2 m.2.2.2.2.2.2.2.2.2.2.2.length (Qqk hin) (Qjp m.2.2.2.2.2.2.2.2.2.2.2) hm hq
  exact⟨p3,e3⟩
theorem QyS (c s:List Int) (hs:s.length=4):body (c++s)=c:=by
 unfold body
 rw[QRj,hs,show(((c.length+4:Nat):Int) - 4).toNat=c.length by omega,List.take_left]
theorem QxI (c s:List Int) (hs:s.length=4):List.drop (((c++s).length:Int) - 4).toNat (c++s)=s:=by
 rw[QRj,hs,show(((c.length+4:Nat):Int) - 4).toNat=c.length by omega,List.drop_left]
theorem Qud {m:XM}(h:Zb m=true):Qe5 (bytesOf m)=xg m/\QjI (bytesOf m)=xg m:=by
 have hb:=Qv0 h
 obtain⟨c,hc⟩:∃c,c=Xy m.1 m.2.1 m.2.2.1 m.2.2.2.1 m.2.2.2.2.1 m.2.2.2.2.2.1 m.2.2.2.2.2.2.1 m.2.2.2.2.2.2.2.1 m.2.2.2.2.2.2.2.2.1 m.2.2.2.2.2.2.2.2.2.1 m.2.2.2.2.2.2.2.2.2.2.1 m.2.2.2.2.2.2.2.2.2.2.2:=⟨_,rfl⟩
 rw[<-hc]at hb
 obtain⟨p,hI,hS,q⟩:=Qxr h hc
 obtain⟨k,rfl,hk,c1,c2,⟨p1,e1,p2,e2⟩,p3,e3⟩:=QxT (s:=Kd (crc c)) h q
 have hs4:(Kd (crc c)).length=4:=rfl
 have hbl:(bytesOf m).length=c.length+4:=by rw[hb,QRj,hs4]
 have hc2:2<=c.length:=by
  rw[hc,Xy,YM];simp only[QRj,List.length_cons,List.length_nil];omega
 have h2:List.take 2 (bytesOf m)=[82,75]:=by rw[hb,hc];rfl
 have hbody:body (bytesOf m)=c:=by rw[hb];exact QyS _ _ hs4
 have hfin:QjA (bytesOf m) m false=xg m:=by
  unfold QjA
  rw[h,show Xm (QA (bytesOf m)) (QA (bytesOf m))=true from QZ _];rfl
 have hst:=QpC (mok h).part
 constructor
 ·unfold Qe5
  rw[df (show¬((bytesOf m).length:Int) - 4<2 by omega),h2,show Xm (QA [82,75]) (⟨#[82,75]⟩:ByteArray)=true by rw[QhA];exact decide_eq_true rfl,hbody,hI,Qui,df (show¬((bytesOf m).length:Int) - 4 - (k:Int)<(((stB (m.2.2.2.2.2.2.2.2.2.1,m.2.2.2.2.2.2.2.2.2.2.1)).length:Nat):Int) by omega),show cut (bytesOf m) (k:Int) (((stB (m.2.2.2.2.2.2.2.2.2.1,m.2.2.2.2.2.2.2.2.2.2.1)).length:Nat):Int)=stB (m.2.2.2.2.2.2.2.2.2.1,m.2.2.2.2.2.2.2.2.2.2.1) by rw[hb];exact c1,hst.1,hbody,e1,QRb,e2]
  exact hfin
 ·unfold QjI
  rw[df (show¬((bytesOf m).length:Int)<6 by omega),hbody,show List.drop (((bytesOf m).length:Int) - 4).toNat (bytesOf m)=Kd (crc c) by rw[hb];exact QxI _ _ hs4,show Xm (QA (Kd (crc c))) (QA (Kd (crc c)))=true from QZ _,hS,Qul,df (show¬((bytesOf m).length:Int) - 4 - (k:Int)<(((stB (m.2.2.2.2.2.2.2.2.2.1,m.2.2.2.2.2.2.2.2.2.2.1)).length:Nat):Int) by omega),hbody,c2,hst.2,e3,Qg1]
  exact hfin
theorem QtS {b:List Int}(hb:isB b) (r:Option (XM×Bool)):QvN b r=qP\/∃m,QvN b r=xg m/\Zb m=true/\bytesOf m=b:=by
 cases r with
 |none=>exact .inl rfl
 |some r=>
  obtain⟨m,bad⟩:=r
  show QjA b m bad=qP\/∃m',QjA b m bad=xg m'/\Zb m'=true/\bytesOf m'=b
  cases bad
  ·by_cases h1:Zb m=true
   ·by_cases h2:Xm (QA (bytesOf m)) (QA b)=true
    ·refine .inr ⟨m,by unfold QjA;rw[h1,h2];rfl,h1,QkY (QsS m) hb ?_⟩
     rw[QhA]at h2
     exact of_decide_eq_true h2
    ·exact .inl (by unfold QjA;rw[h1,Bool.eq_false_iff.2 h2];rfl)
   ·exact .inl (by unfold QjA;rw[Bool.eq_false_iff.2 h1];rfl)
  ·exact .inl rfl
theorem QoW {b:List Int}(hb:isB b):Qe5 b=qP\/∃m,Qe5 b=xg m/\Zb m=true/\bytesOf m=b:=by
 unfold Qe5
 cases decide ((b.length:Int) - 4<2)
 ·cases Xm (QA (List.take 2 b)) (⟨#[82,75]⟩:ByteArray)
  ·exact .inl rfl
  ·exact QtS hb _
 ·exact .inl rfl
theorem QzJ {b:List Int}(hb:isB b):QjI b=qP\/∃m,QjI b=xg m/\Zb m=true/\bytesOf m=b:=by
 unfold QjI
 cases decide ((b.length:Int)<6)
 ·cases Xm (QA (Kd (crc (body b)))) (QA (List.drop ((b.length:Int) - 4).toNat b))
  ·exact .inl rfl
  ·exact QtS hb _
 ·exact .inl rfl
theorem Qxe {b:List Int}(hb:isB b):QjI b=Qe5 b:=by
 rcases QoW hb with h|⟨m,h,h1,h2⟩
 ·rcases QzJ hb with h'|⟨m,h',h1,h2⟩
  ·rw[h,h']
  ·rw[<-h2,(Qud h1).1]at h
   exact absurd (congrArg (fun z:QcM=>z.2.2.2.2.2.2.2.2.2.2.2.2) h) (by simp[xg,qP])
 ·rw[h,<-h2,(Qud h1).2]
end Go.Proofs.YtameehmkoglkeaaGreatDoor.M
namespace Go.Proofs.YtameehmkoglkeaaGreatDoor.M
open Go Go.Eng Go.Proofs
set_option linter.unusedVariables false
def bsl (l:List UInt8):ByteArray:=⟨l.toArray⟩
theorem Xz (l m:List UInt8):bsl l++bsl m=bsl (l++m):=by
 apply ByteArray.ext
 simp[bsl]
theorem qx (s:ByteArray):bsl s.data.toList=s:=by
 apply ByteArray.ext
 simp[bsl]
theorem Xe (l:List UInt8):(bsl l).size=l.length:=by simp[bsl,ByteArray.size]
def digits (n:Int):ByteArray:=bsl (Go.Lib.itoa n)
theorem ZJ (n:Int) (h0: -9223372036854775808<=n) (h1:n<=9223372036854775807):Q1 w n=some (digits n):=by
 apply Qpl
 have e:strconv_Itoa w n=some (digits n):=by
  apply Qmy
  simp only[Qfd,Qn8,dt (show(-9223372036854775808:Int)<=n/\n<=9223372036854775807 from⟨h0,h1⟩),QQ1];rfl
 simp only[QfS,e,QQ0]
def QiS (u:Nat):List UInt8:=if u=0 then []else Go.Lib.decDigits u
theorem QwE {u:Nat}(h:u≠0):QiS u=QiS (u / 10)++[UInt8.ofNat (48+u % 10)]:=by
 unfold QiS
 rw[if_neg h]
 by_cases h10:u<10
 ·rw[Go.Lib.decDigits,dif_pos h10,show u / 10=0 by omega,show u % 10=u by omega];rfl
 ·rw[Go.Lib.decDigits,dif_neg h10,if_neg (show u / 10≠0 by omega)]
theorem QvH (d:Nat) (h:d<10):QA [IntKind.wrap .u8 (wR (48+(d:Int)))]=bsl [UInt8.ofNat (48+d)]:=by
 have:d=0\/d=1\/d=2\/d=3\/d=4\/d=5\/d=6\/d=7\/d=8\/d=9:=by omega
 rcases this with rfl|rfl|rfl|rfl|rfl|rfl|rfl|rfl|rfl|rfl<;>decide
theorem Qfm (b:Bool):(k u:Nat)->(y:Int)->(acc:List UInt8)->(y=(u:Int)\/y= -(u:Int))->u<10^k->u<=9223372036854775808->(y=(u:Int)->u<=9223372036854775807)->acc.length+k<=1000->ZN wl (y,b,bsl acc)=some (b,bsl (QiS u++acc))
 |0,u,y,acc,hy,hu,_,_,_=>by
  apply Qc0
  have h0:u=0:=by simpa using hu
  subst h0
  simp only[qW,dt (show y=0 by omega),QQ3,QQ2,QiS,if_true,QRe]
 |k+1,u,y,acc,hy,hu,hmx,hmx2,ha=>by
  apply Qc0
  by_cases h0:u=0
  ·subst h0
   simp only[qW,dt (show y=0 by omega),QQ3,QQ2,QiS,if_true,QRe]
  ·have hlt:u / 10<10^k:=by rw[Nat.pow_succ]at hu;omega
   have hb:=QvH (u % 10) (by omega)
   have hf:fits (ByteArray.size (bsl [UInt8.ofNat (48+u % 10)])+ByteArray.size (bsl acc)) 1=true:=by
    rw[Xe,Xe];exact QF (by simp;omega)
   simp only[qW,df (show¬y=0 by omega),QQ4,QQ1,dt (show(10:Int)≠0 by omega)]
   rw[QwE h0,QRc]
   by_cases hy':y=(u:Int)
   ·have e1:Int.tmod y 10=((u % 10:Nat):Int):=by rw[hy'];rfl
    have e2:Int.tdiv y 10=((u / 10:Nat):Int):=by rw[hy'];rfl
    have ih:=Qfm b k (u / 10) ((u / 10:Nat):Int) ([UInt8.ofNat (48+u % 10)]++acc) (.inl rfl) hlt (by omega) (fun _=>by omega) (by simp;omega)
    rw[e1,e2,df (show¬(((u % 10:Nat):Int)<0) by omega),hb,hf,w64 (n:=((u / 10:Nat):Int)) (by omega) (by omega),Xz]
    exact ih
   ·have hy2:y= -(u:Int):=by omega
    have e1:Int.tmod y 10= -((u % 10:Nat):Int):=by rw[hy2,Int.neg_tmod];rfl
    have e2:Int.tdiv y 10= -((u / 10:Nat):Int):=by rw[hy2,Int.neg_tdiv];rfl
    have ih:=Qfm b k (u / 10) (-((u / 10:Nat):Int)) ([UInt8.ofNat (48+u % 10)]++acc) (.inr rfl) hlt (by omega) (fun _=>by omega) (by simp;omega)
    rw[e1,e2]
    by_cases hz:u % 10=0
    ·rw[hz]at hb hf ih⊢
     rw[show(-((0:Nat):Int))=((0:Nat):Int)from rfl,df (show¬(((0:Nat):Int)<0) by omega),hb,hf,w64 (n:= -((u / 10:Nat):Int)) (by omega) (by omega),Xz]
     exact ih
    ·rw[dt (show -((u % 10:Nat):Int)<0 by omega),w64 (n:=0 - -((u % 10:Nat):Int)) (by omega) (by omega),show(0:Int) - -((u % 10:Nat):Int)=((u % 10:Nat):Int) by omega,hb,hf,w64 (n:= -((u / 10:Nat):Int)) (by omega) (by omega),Xz]
     exact ih
theorem Zg (n:Int) (h0: -9223372036854775808<=n) (h1:n<=9223372036854775807):QK w n=some (digits n):=by
 apply QoT
 simp only[QfZ]
 by_cases hz:n=0
 ·subst hz;simp only[decide_true,QQ1,digits,Go.Lib.itoa,if_neg (show¬(0:Int)<0 by omega),Int.toNat_zero,Go.Lib.decDigits_one (show 0<10 by omega)];rfl
 ·have e:=Qfm (decide (n<0)) 20 n.natAbs n [] (by omega) (by omega) (by omega) (by omega) (by simp)
  have e':ZN wl (n,decide (n<0),(⟨#[]⟩:ByteArray))=some (decide (n<0),bsl (QiS n.natAbs)):=by rw[List.append_nil]at e;exact e
  simp only[df hz,QQ2,e',QQ0]
  have hd:QiS n.natAbs=Go.Lib.decDigits n.natAbs:=by unfold QiS;rw[if_neg (by omega)]
  have hlen:(Go.Lib.decDigits n.natAbs).length<=1000:=by
   rw[Go.Lib.decDigits_length]
   have:=Go.Lib.nDigits_le20 n.natAbs (by omega)
   omega
  by_cases hn:n<0
  ·rw[dt hn,hd]
   simp only[QQ1]
   rw[QF (by rw[Xe];show(1+_)*1<=_;omega)]
   simp only[QQ1,digits,Go.Lib.itoa,if_pos hn]
   exact congrArg some (Xz [45] _)
  ·rw[df hn,hd]
   simp only[QQ2,digits,Go.Lib.itoa,if_neg hn,show n.toNat=n.natAbs by omega]
end Go.Proofs.YtameehmkoglkeaaGreatDoor.M
namespace Go.Proofs.YtameehmkoglkeaaGreatDoor.M
open Go Go.Eng Go.Proofs
set_option linter.unusedVariables false
end Go.Proofs.YtameehmkoglkeaaGreatDoor.M
namespace Go.Proofs.YtameehmkoglkeaaGreatDoor.M
open Go Go.Eng Go.Proofs
set_option linter.unusedVariables false
theorem QzM (xs:List ByteArray) (sep:ByteArray) (h1:xs.length<=140737488355328) (h2:(Go.Lib.join (xs.map (·.data.toList)) sep.data.toList).length<=140737488355328):strings_Join w (xs,sep)=some (bsl (Go.Lib.join (xs.map (·.data.toList)) sep.data.toList)):=by
 apply Qos
 simp only[QfD,QmL,dt (show xs.length<=140737488355328/\(Go.Lib.join (xs.map (·.data.toList)) sep.data.toList).length<=140737488355328 from⟨h1,h2⟩),QQ1];rfl
theorem Qx2 (n:Int) (h0: -9223372036854775808<=n) (h1:n<=9223372036854775807):(Go.Lib.itoa n).length<=21:=Go.Lib.itoa_length_le n h0 h1
end Go.Proofs.YtameehmkoglkeaaGreatDoor.M
namespace Go.Proofs.YtameehmkoglkeaaGreatDoor.M
open Go Go.Eng Go.Proofs
set_option linter.unusedVariables false
theorem zK (l:List UInt8):(bsl l).data.toList=l:=by simp[bsl]
theorem Qq (n:Nat) (h:n<=1000000):fits n 1=true:=QF (by omega)
def Qms (r:Int):UInt8:=bif decide (r=0)then 117 else(bif decide (r=1)then 103 else 63)
def x6 (e:XI):List UInt8:=Go.Lib.itoa e.1++([Qms e.2.1]++(Go.Lib.itoa e.2.2.1++([46]++(Go.Lib.itoa e.2.2.2.1++([58]++e.2.2.2.2.data.toList)))))
theorem Xa {n:Int}(h0: -100000<=n) (h1:n<=1000000):(Go.Lib.itoa n).length<=21:=Qx2 n (by omega) (by omega)
theorem Qrn (e:XI) (h:Zm e=true):qT w e=some (bsl (x6 e)):=by
 have hn:=QdD h
 obtain⟨a0,a1,a2,a3,a4⟩:=e
 obtain⟨tl,rfl⟩:∃tl,a4=bsl tl:=⟨_,(qx a4).symm⟩
 simp only[Xe]at hn
 apply QkQ
 have l0:=Xa (n:=a0) (by omega) (by omega)
 have l2:=Xa (n:=a2) (by omega) (by omega)
 have l3:=Xa (n:=a3) (by omega) (by omega)
 have c1:(⟨#[117]⟩:ByteArray)=bsl [117]:=rfl
 have c2:(⟨#[103]⟩:ByteArray)=bsl [103]:=rfl
 have c4:(⟨#[46]⟩:ByteArray)=bsl [46]:=rfl
 have c5:(⟨#[58]⟩:ByteArray)=bsl [58]:=rfl
 simp only[Qcu,ZJ a0 (by omega) (by omega),ZJ a2 (by omega) (by omega),ZJ a3 (by omega) (by omega),QQ0,digits,c1,c2,c4,c5,Xz,Xe,x6,zK]
 by_cases h0:a1=0
 ·subst h0
  simp only[decide_true,QQ1,Qms]
  rw[Qq,Qq,Qq,Qq,Qq,Qq]
  ·simp only[QQ1,QRc]
  all_goals(simp only[QRj,List.length_cons,List.length_nil];omega)
 ·have h1:a1=1:=by omega
  subst h1
  simp only[df (show¬(1:Int)=0 by omega),QQ2,decide_true,QQ1,Qms]
  rw[Qq,Qq,Qq,Qq,Qq,Qq]
  ·simp only[QQ1,QRc]
  all_goals(simp only[QRj,List.length_cons,List.length_nil];omega)
theorem QqA (e:XI) (h:Zm e=true):VQ w e=some (bsl (x6 e)):=by
 have hn:=QdD h
 obtain⟨a0,a1,a2,a3,a4⟩:=e
 obtain⟨tl,rfl⟩:∃tl,a4=bsl tl:=⟨_,(qx a4).symm⟩
 simp only[Xe]at hn
 apply QkN
 have l0:=Xa (n:=a0) (by omega) (by omega)
 have l2:=Xa (n:=a2) (by omega) (by omega)
 have l3:=Xa (n:=a3) (by omega) (by omega)
 have c1:(⟨#[117]⟩:ByteArray)=bsl [117]:=rfl
 have c2:(⟨#[103]⟩:ByteArray)=bsl [103]:=rfl
 have c4:(⟨#[46]⟩:ByteArray)=bsl [46]:=rfl
 have c5:(⟨#[58]⟩:ByteArray)=bsl [58]:=rfl
 simp only[QbE,Zg a0 (by omega) (by omega),Zg a2 (by omega) (by omega),Zg a3 (by omega) (by omega),QQ0,digits,c1,c2,c4,c5,Xz,Xe,x6,zK]
 by_cases h0:a1=0
 ·subst h0
  simp only[decide_true,QQ1,df (show¬(0:Int)=1 by omega),QQ2,Qms]
  rw[Qq,Qq,Qq,Qq,Qq,Qq]
  ·simp only[QQ1,QRc]
  all_goals(simp only[QRj,List.length_cons,List.length_nil];omega)
 ·have h1:a1=1:=by omega
  subst h1
  simp only[df (show¬(1:Int)=0 by omega),QQ2,decide_true,QQ1,Qms]
  rw[Qq,Qq,Qq,Qq,Qq,Qq]
  ·simp only[QQ1,QRc]
  all_goals(simp only[QRj,List.length_cons,List.length_nil];omega)
theorem QjK (sep x:List UInt8):(ws:List (List UInt8))->Go.Lib.join (ws++[x]) sep=(if ws=[]then x else Go.Lib.join ws sep++(sep++x))
 | []=>by simp[Go.Lib.join_one]
 |a::r=>by
  rw[QRv,Go.Lib.join_cons,Go.Lib.join_cons]
  simp[Go.Lib.joinTail]
theorem Qax (sep:List UInt8) (hs:sep.length=1) (k:Nat):(ws:List (List UInt8))->(∀x∈ws,x.length<=k)->(Go.Lib.join ws sep).length<=(k+1)*ws.length
 | [],_=>by simp[Go.Lib.join_nil]
 |a::r,h=>by
  rw[Go.Lib.join_cons,QRj]
  have ha:=h a (by simp)
  have:(Go.Lib.joinTail sep r).length<=(k+1)*r.length:=by
   clear ha
   induction r with
   |nil=>simp[Go.Lib.joinTail]
   |cons y r ih=>
    have hy:=h y (by simp)
    have ih':=ih (fun x hx=>h x (by rcases QRk.1 hx with rfl|hx<;>simp_all))
    have e:Go.Lib.joinTail sep (y::r)=sep++y++Go.Lib.joinTail sep r:=by simp[Go.Lib.joinTail]
    rw[e,QRj,QRj,hs,List.length_cons,Nat.mul_add]
    omega
  rw[List.length_cons,Nat.mul_add]
  omega
theorem QmT (sep:List UInt8) (ws:List (List UInt8)) (h:∀x∈ws,x≠[]):Go.Lib.join ws sep=[]↔ws=[]:=by
 cases ws with
 |nil=>simp[Go.Lib.join_nil]
 |cons a r=>
  rw[Go.Lib.join_cons]
  have:=h a (by simp)
  simp[this]
theorem qC (l:List UInt8):Xm (bsl l) (⟨#[]⟩:ByteArray)=decide (l=[]):=by
 rw[QhA,decide_eq_decide]
 constructor
 ·intro h
  have:=congrArg (fun b:ByteArray=>b.data.toList) h
  simpa[bsl]using this
 ·intro h;rw[h];rfl
end Go.Proofs.YtameehmkoglkeaaGreatDoor.M
namespace Go.Proofs.YtameehmkoglkeaaGreatDoor.M
open Go Go.Eng Go.Proofs
set_option linter.unusedVariables false
def QcI (v:List Int):List UInt8:=Go.Lib.join (v.map Go.Lib.itoa) [44]
def inV (n:Int):Prop:= -100000<=n/\n<=1000000
theorem QpT (v:List Int) (h:∀n∈v,inV n):∀x∈v.map Go.Lib.itoa,x.length<=21:=fun x hx=>by
 obtain⟨n,hn,rfl⟩:=List.mem_map.1 hx
 exact Xa (h n hn).1 (h n hn).2
theorem Qaq (v:List Int) (h:∀n∈v,inV n) (hl:v.length<=5):(QcI v).length<=110:=by
 have:=Qax [44] rfl 21 _ (QpT v h)
 rw[List.length_map]at this
 unfold QcI;omega
theorem Quq (ws:List (List UInt8)):(ws.map bsl).map (fun x:ByteArray=>x.data.toList)=ws:=by
 rw[List.map_map]
 have:((fun x:ByteArray=>x.data.toList)∘bsl)=id:=by funext l;exact zK l
 rw[this,List.map_id]
theorem QsF (ws:List (List UInt8)) (c:UInt8) (k:Nat) (h:∀x∈ws,x.length<=k) (hk:k<=1000) (hl:ws.length<=1000):strings_Join w (ws.map bsl,bsl [c])=some (bsl (Go.Lib.join ws [c])):=by
 have hj:=Qax [c] rfl k ws h
 have hb:(k+1)*ws.length<=1001*1000:=Nat.mul_le_mul (by omega) hl
 have e:=QzM (ws.map bsl) (bsl [c]) (by rw[List.length_map];omega) (by rw[Quq,zK];omega)
 rw[Quq,zK]at e
 exact e
theorem QmD (v:List Int) (h:∀n∈v,inV n) (hl:v.length<=5):qo w v=some (bsl (QcI v)):=by
 apply Qng
 have e:=Q3 v.length (fun i (o:List ByteArray)=>ZK wl (v,(v.length:Int),(i:Int),o)) (fun i o=>o++((v.drop i).map Go.Lib.itoa).map bsl) (fun i o=>o.length=i)
  (fun i hi o ho ih=>by
    apply xX
    have hn:=h _ (QRf hi)
    have ih1:=ih (o++[digits v[i]]) (by simp[ho])
    have hd:=ZJ v[i] (by have:=hn.1;omega) (by have:=hn.2;omega)
    simp only[JS,ilt hi,Ql hi,Qi hi,QQ1,hd,QQ0,inc hi (show v.length<=maxLen by simp only[maxLen];omega)]
    rw[QF (by simp;omega),QQ1,ih1,QRa hi,List.map_cons,List.map_cons,QRc]
    rfl)
  (fun o ho=>by
    apply xX
    simp only[JS,Qs,QQ2,QRl,List.map_nil,List.append_nil])
  [] rfl
 simp only[QQ6,QRg,QRe]at e
 have ej:=QsF (v.map Go.Lib.itoa) 44 21 (QpT v h) (by omega) (by rw[List.length_map];omega)
 have en:Ji w v=some (bsl (QcI v)):=by
  apply Qjl
  simp only[Qad,e,QQ0]
  exact(congrArg (fun z=>Option.bind z _) ej).trans rfl
 simp only[Qej,en,QQ0]
theorem Qll (v:List Int) (h:∀n∈v,inV n) (hl:v.length<=5):qO w v=some (bsl (QcI v)):=by
 apply QnS
 have e:=Q3 v.length (fun i (ws:List (List UInt8))=>Zz wl (v,bsl (Go.Lib.join ws [44]),(i:Int))) (fun i ws=>bsl (Go.Lib.join (ws++(v.drop i).map Go.Lib.itoa) [44])) (fun i ws=>ws.length=i/\∀x∈ws,x.length<=21)
  (fun i hi ws hw ih=>by
    apply QcE
    have hn:=h _ (QRf hi)
    have h21:=Xa hn.1 hn.2
    have hd:=Zg v[i] (by have:=hn.1;omega) (by have:=hn.2;omega)
    have hj:=Qax [44] rfl 21 ws hw.2
    have ih1:=ih (ws++[Go.Lib.itoa v[i]]) ⟨by simp[hw.1],fun x hx=>by
     rcases QRh.1 hx with hx|hx
     ·exact hw.2 x hx
     ·obtain rfl:=List.mem_singleton.1 hx;exact h21⟩
    have c1:(⟨#[44]⟩:ByteArray)=bsl [44]:=rfl
    simp only[yT,ilt hi,Ql hi,Qi hi,QQ1,hd,QQ0,inc hi (show v.length<=maxLen by simp only[maxLen];omega),digits,c1,Xz,Xe]
    rw[QjK]at ih1
    rw[QRa hi,List.map_cons]
    have hfin:ws++Go.Lib.itoa v[i]::(v.drop (i+1)).map Go.Lib.itoa=ws++[Go.Lib.itoa v[i]]++(v.drop (i+1)).map Go.Lib.itoa:=by simp
    rw[hfin]
    by_cases h0:i=0
    ·have hws:ws=[]:=List.length_eq_zero_iff.1 (by rw[hw.1,h0])
     subst hws
     rw[if_pos rfl]at ih1
     rw[df (show¬(0:Int)<(i:Int) by omega),QQ2,Qq _ (by simp[Go.Lib.join_nil];omega),QQ1,Go.Lib.join_nil,QRe]
     exact ih1
    ·have hws:ws≠[]:=fun e=>h0 (by rw[<-hw.1,e];rfl)
     rw[if_neg hws]at ih1
     rw[dt (show(0:Int)<(i:Int) by omega),QQ1,Qq _ (by simp;omega),Qq _ (by simp;omega),QQ1,QQ1,QRc]
     exact ih1)
  (fun ws hw=>by
    apply QcE
    simp only[yT,Qs,QQ2,QRl,List.map_nil,List.append_nil])
  [] ⟨rfl,by simp⟩
 simp only[QQ6,QRg,QRe,Go.Lib.join_nil]at e
 have e':Zz wl (v,(⟨#[]⟩:ByteArray),0)=some (bsl (QcI v)):=e
 simp only[QfO,e',QQ0]
end Go.Proofs.YtameehmkoglkeaaGreatDoor.M
