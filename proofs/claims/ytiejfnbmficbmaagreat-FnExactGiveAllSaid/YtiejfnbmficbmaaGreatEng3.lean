/- A meaning of the translated functions in plain typed values, and its soundness, part 3. No conditions. -/
import Derived.Test.YtiejfnbmficbmaaGreatEng2
import Derived.LoopN
set_option linter.all false
namespace Go.Eng
open Go
set_option linter.unusedVariables false
theorem RelP.ext {F:Fix}{pd:Nat->Nat->Prop}{G:Gh}{s s':St}{a:Act}{w:World}(h:RelP F pd G s a w) (hn:s'.n=s.n) (ht:∀i,s'.gT i=s.gT i) (hc:∀r k,s'.gC r k=s.gC r k) (hb:∀r,s'.gB r=s.gB r):RelP F pd G s' a w:=
 h.upd (Gh.le.refl G) hn ht hb (fun _ _=>False) (fun r k _=>⟨hc r k,rfl,fun _=>rfl,fun _ _ _ _=>rfl⟩) (fun _ _ e=>e.elim) (fun _ _ _ e=>e.elim) (fun _ _ e=>e.elim) (fun _ _=>rfl) h.it h.lt h.own h.ro (fun _ _ e=>e)
structure FreshK (G:Gh) (s:St) (r k:Nat):Prop where
 c:s.gC r k=yE
 H:∀j,G.H r k j=none
 N:∀j v i m,G.HN r k j v i m=none
structure FreshS (F:Fix) (G:Gh) (s:St) (r:Nat):Prop where
 k:∀k,FreshK G s r k
 b:s.gB r=(0,0)
 GB:∀j,G.GB r j=none
 pb:∀b n,¬F.pb r b n
theorem RelP.QQB {F:Fix}{G:Gh}{s:St}{a:Act}{w:World}(h:Rel F G s a w) {it:Item}(hh:Held F G w it) {r k:Nat}(tag:Option (Nat×Nat))
 (hbx:(s.gB r).2=0) (hf:FreshK G s r k) (htag:∀p j,tag=some (p,j)->F.T p j=some it.u):
 Rel F (G.put r k 0 it) (s.sC r k (mkC 0 0 (.own it.x it.deep tag))) a w/\G.le (G.put r k 0 it)/\
  (G.put r k 0 it).H r k 0=some (it.x.t,it.u):=by
 have hle:G.le (G.put r k 0 it):=⟨fun r' k' j x hx=>by
  show(if r'=r/\k'=k/\j=_ then some (it.x.t,it.u)else G.H r' k' j)=some x
  split
  ·rename_i e;obtain⟨rfl,rfl,rfl⟩:=e;rw[hf.H]at hx;cases hx
  ·exact hx,fun _ _ _ _ _ _ _ h=>h,fun _ _ _ h=>h,fun b hb=>by
  show(if b∈it.bl then Ow.key (.con r k)else G.ow b)= .ro
  rw[if_neg (fun hm=>by rw[(hh.free b hm).1]at hb;cases hb)];exact hb⟩
 have hH:(G.put r k 0 it).H r k 0=some (it.x.t,it.u):=if_pos ⟨rfl,rfl,rfl⟩
 refine⟨?_,hle,hH⟩
 refine h.upd hle rfl (fun i=>rfl) (fun i=>rfl) (fun r' k'=>r'=r/\k'=k) ?_ ?_ ?_ ?_ (fun _ _=>rfl) ?_ ?_ ?_ ?_ ?_
 ·intro r' k' hn
  refine⟨by rw[QP,if_neg (fun e=>hn ⟨e.1.symm,e.2.symm⟩)], ?_,fun j=>if_neg (fun e=>hn ⟨e.1,e.2.1⟩),fun _ _ _ _=>rfl⟩
  exact if_neg (fun e=>by cases e;exact hn ⟨rfl,rfl⟩)
 ·rintro r' k' ⟨rfl,rfl⟩
  rw[QP,if_pos ⟨rfl,rfl⟩]
  refine⟨fun j hj=> ?_,fun j v i m hj=>hf.N _ _ _ _,fun x' deep' tag' hc'=> ?_,fun p hc'=> ?_⟩
  ·rw[Q1]at hj
   rw[show(G.put r' k' 0 it).H r' k' j=G.H r' k' j from if_neg (fun e=>by omega)]
   exact hf.H j
  ·rw[QD]at hc';cases hc'
   refine⟨it.u,it.bl,if_pos rfl,by rw[Q1];exact hH,fun i m t u' hn=> ?_,htag⟩
   rw[show(G.put r' k' 0 it).HN=G.HN from rfl,hf.N]at hn
   cases hn
  ·rw[QD]at hc';cases hc'
 ·rintro r' k' u ⟨rfl,rfl⟩ hk hp hb
  omega
 ·rintro r' k' ⟨rfl,rfl⟩ hk ⟨y,hy⟩
  omega
 ·intro κ y hy
  have hy:(if κ= .con r k then some it else G.it κ)=some y:=hy
  by_cases n2:κ= .con r k
  ·subst n2;rw[if_pos rfl]at hy;cases hy
   exact⟨Own.mono (fun b hb=>hle.ro b hb) _ _ _ _ hh.own,hh.sl,hh.nodup,fun b hb=>⟨if_pos hb,(hh.free b hb).2.1⟩,_,_,rfl⟩
  ·rw[if_neg n2]at hy
   refine(h.it κ y hy).give (fun b hb=>hle.ro b hb) (fun b hb=> ?_)
   have hk:=((h.it κ y hy).key b hb).1
   show(if b∈it.bl then Ow.key (.con r k)else G.ow b)=_
   rw[if_neg (fun hm=>by rw[(hh.free b hm).1]at hk;cases hk)]
   exact hk
 ·intro b hb
  by_cases hm:b∈it.bl
  ·exact(hh.free b hm).2.1
  ·exact h.lt b (fun e=>hb (by show(if b∈it.bl then Ow.key (.con r k)else G.ow b)=_;rw[if_neg hm];exact e))
 ·intro b κ hb hlt
  have hb:(if b∈it.bl then Ow.key (.con r k)else G.ow b)= .key κ:=hb
  split at hb
  ·rename_i hm;exact(hh.free b hm).2.2 hlt
  ·exact h.own b κ hb hlt
 ·intro b hb hlt
  have hb:(if b∈it.bl then Ow.key (.con r k)else G.ow b)= .ro:=hb
  split at hb
  ·cases hb
  ·exact h.ro b hb hlt
 ·intro b r' hb
  show(if b∈it.bl then Ow.key (.con r k)else G.ow b)=_
  rw[if_neg (fun hm=>by rw[(hh.free b hm).1]at hb;cases hb)]
  exact hb
theorem RelP.QJI {F:Fix}{G:Gh}{s:St}{a:Act}{w:World}(h:Rel F G s a w) {r k:Nat}(hbx:(s.gB r).2=0) (hf:FreshK G s r k) (c:Con) (h1:∀x d t,c.st≠ .own x d t) (h2:∀p,c.st≠ .vw p):Rel F G (s.sC r k c) a w:=by
 refine h.upd (Gh.le.refl G) rfl (fun i=>rfl) (fun i=>rfl) (fun r' k'=>r'=r/\k'=k) ?_ ?_ ?_ ?_ (fun _ _=>rfl) h.it h.lt h.own h.ro (fun _ _ e=>e)
 ·intro r' k' hn
  exact⟨by rw[QP,if_neg (fun e=>hn ⟨e.1.symm,e.2.symm⟩)],rfl,fun _=>rfl,fun _ _ _ _=>rfl⟩
 ·rintro r' k' ⟨rfl,rfl⟩
  rw[QP,if_pos ⟨rfl,rfl⟩]
  exact⟨fun j _=>hf.H j,fun j v i m _=>hf.N _ _ _ _,fun x' deep' tag' hc'=>(h1 _ _ _ hc').elim,fun p hc'=>(h2 _ hc').elim⟩
 ·rintro r' k' u ⟨rfl,rfl⟩ hk hp hb
  omega
 ·rintro r' k' ⟨rfl,rfl⟩ hk ⟨y,hy⟩
  omega
def yU (s:St) (r:Nat):Nat->List Con->St
 |_,[]=>s
 |k,c::cs=>yU (s.sC r k c) r (k+1) cs
theorem QnW (r:Nat):(cs:List Con)->(s:St)->(k:Nat)->(yU s r k cs).n=s.n/\(∀i,(yU s r k cs).gT i=s.gT i)/\∀i,(yU s r k cs).gB i=s.gB i
 | [],s,k=>⟨rfl,fun _=>rfl,fun _=>rfl⟩
 |c::cs,s,k=>QnW r cs (s.sC r k c) (k+1)
theorem Qfn (r:Nat):(cs:List Con)->(s:St)->(k r' k':Nat)->(yU s r k cs).gC r' k'=if r=r'/\k<=k'/\k'<k+cs.length then lget yE cs (k' - k)else s.gC r' k'
 | [],s,k,r',k'=>by rw[if_neg (by simp only[QY6];omega)];rfl
 |c::cs,s,k,r',k'=>by
  show(yU (s.sC r k c) r (k+1) cs).gC r' k'=_
  rw[Qfn r cs _ (k+1) r' k',QP]
  simp only[QY1]
  by_cases e:r=r'/\k=k'
  ·obtain⟨rfl,rfl⟩:=e
   rw[if_neg (by omega),if_pos ⟨rfl,rfl⟩,if_pos (by omega),Nat.sub_self];rfl
  ·rw[if_neg e]
   by_cases e2:r=r'/\k+1<=k'/\k'<k+1+cs.length
   ·rw[if_pos e2,if_pos (by omega)]
    obtain⟨m,hm⟩:∃m,k' - k=m+1:=⟨k' - k - 1,by omega⟩
    rw[hm,show k' - (k+1)=m by omega];rfl
   ·rw[if_neg e2,if_neg (by omega)]
theorem QIb {α:Type}(d:α):(l:List α)->(i:Nat)->l.length<=i->lget d l i=d
 | [],_,_=>rfl
 |_::_,0,h=>by simp at h
 |_::l,i+1,h=>QIb d l i (by simpa using h)
theorem QEv {F:Fix}{G:Gh}{s s':St}{r:Nat}{cs:List Con}(hf:∀k,s.gC r k=yE) (e:s'.cn=lset [] s.cn r cs):∀r' k',s'.gC r' k'=(yU s r 0 cs).gC r' k':=by
 intro r' k'
 rw[Qfn]
 unfold St.gC
 rw[e]
 by_cases h:r=r'
 ·subst h
  rw[XJ]
  by_cases h2:k'<cs.length
  ·rw[if_pos (by omega)];rfl
  ·rw[if_neg (by omega),QIb _ _ _ (by omega)]
   exact(hf k').symm
 ·rw[X8 _ _ _ _ h,if_neg (fun x=>h x.1)]
structure Beside (p:Nat) (G G':Gh):Prop where
 H:∀r,r≠p->∀k j,G'.H r k j=G.H r k j
 N:G'.HN=G.HN
 GB:G'.GB=G.GB
theorem Beside.refl (p:Nat) (G:Gh):Beside p G G:=⟨fun _ _ _ _=>rfl,rfl,rfl⟩
theorem Beside.trans {p:Nat}{A B C:Gh}(h:Beside p A B) (h':Beside p B C):Beside p A C:=⟨fun r hr k j=>(h'.H r hr k j).trans (h.H r hr k j),h'.N.trans h.N,h'.GB.trans h.GB⟩
theorem Beside.put (G:Gh) (p k id:Nat) (it:Item):Beside p G (G.put p k id it):=⟨fun r hr k j=>if_neg (fun e=>hr e.1),rfl,rfl⟩
theorem FreshK.put {G:Gh}{s:St}{p k j:Nat}{it:Item}{c:Con}(h:FreshK G s p j) (hj:j≠k):FreshK (G.put p k 0 it) (s.sC p k c) p j:=
 ⟨by rw[QP,if_neg (fun e=>hj e.2.symm)];exact h.c,fun i=>by show(if p=p/\j=k/\i=0 then _ else _)=_;rw[if_neg (fun e=>hj e.2.1)];exact h.H i,h.N⟩
theorem FreshK.set {G:Gh}{s:St}{p k j:Nat}{c:Con}(h:FreshK G s p j) (hj:j≠k):FreshK G (s.sC p k c) p j:=
 ⟨by rw[QP,if_neg (fun e=>hj e.2.symm)];exact h.c,h.H,h.N⟩
theorem QoH {F:Fix}{a:Act}{w:World}{p k:Nat}{MM:List Nat}{G:Gh}{s:St}{m:Mode}{t:Ty}{x:TV}{u:Value}{bl:List Nat}(h:Rel F G s a w) (hb:(s.gB p).2=0) (hf:FreshK G s p k) (hx:CIn w F.R m t x u bl) (hk:Stk F G w (bl++MM))
 (htk:takes m t=true) (tag:Option (Nat×Nat)) (htag:∀q j,tag=some (q,j)->F.T q j=some u):
 ∃G',G.le G'/\Rel F G' (s.sC p k (mkC 0 0 (.own x true tag))) a w/\G'.H p k 0=some (x.t,u)/\Stk F G' w MM/\G'=G.put p k 0 ⟨x,true,u,bl⟩:=by
 obtain⟨ht,hc⟩:=hx
 rw[htk]at hc
 have hc:Own w F.R true x.t x.v u bl:=hc
 have hsl:QN x.t=true:=by
  rw[ht];unfold takes at htk;cases hh:QN t with|true=>rfl|false=>rw[hh]at htk;cases htk
 have hheld:Held F G w ⟨x,true,u,bl⟩:=⟨Own.mono h.roR _ _ _ _ hc,hsl,(QRi.1 hk.1).1,fun b hb=>hk.2 b (by simp[hb])⟩
 obtain⟨r1,r2,r3⟩:=h.QQB hheld (r:=p) (k:=k) tag hb hf htag
 refine⟨_,r2,r1,r3, ?_,rfl⟩
 refine hk.next fun q hq hn=> ?_
 show(if q∈bl then Ow.key (.con p k)else G.ow q)= .free
 rw[if_neg hn];exact hq
theorem QxI {F:Fix}{w:World}{G:Gh}{m:Mode}{t:Ty}{x:TV}{u:Value}{bl:List Nat}(hR:∀b,F.R b->G.ow b= .ro) (hx:CIn w F.R m t x u bl) (htk:takes m t=false):bl=[]/\VCR G w (.ro x) u:=by
 obtain⟨ht,hc⟩:=hx
 rw[htk]at hc
 obtain⟨h1,b',h2,h3⟩:=hc
 exact⟨h1,b',h2,fun c hc=>hR c (h3 c hc)⟩
theorem QBv {F:Fix}{a:Act}{w:World}{p:Nat}{MM:List Nat}{rest:List TV}:(l:List (Mode×Ty))->(k:Nat)->(xs:List TV)->(us:List Value)->(bls:List (List Nat))->(G:Gh)->(s:St)->Rel F G s a w->QdV w F.R l xs us bls->Stk F G w (bls.flatten++MM)->(∀j,k<=j->FreshK G s p j)->(s.gB p).2=0->
 (∀j u,us[j]? =some u->F.T p (k+j)=some u)->∃vs cs,QCw p k l (xs++rest)=((vs,cs),rest)/\∃G',G.le G'/\Beside p G G'/\Rel F G' (yU s p k cs) a w/\VCs G' w vs us/\Stk F G' w MM
 | [],k,xs,us,bls,G,s,h,hc,hk,hf,hb,hT=>by
   obtain⟨rfl,rfl,rfl⟩:=hc
   exact⟨[],[],rfl,G,Gh.le.refl G,Beside.refl p G,h,rfl,by simpa using hk⟩
 |(m,t)::l,k,xs,us,bls,G,s,h,⟨x,xs',u,us',bl,bls',e1,e2,e3,hx,hc⟩,hk,hf,hb,hT=>by
  subst e1;subst e2;subst e3
  rw[QRr,QRc]at hk
  have hT':∀j u,us'[j]? =some u->F.T p (k+1+j)=some u:=fun j v hj=>by have:=hT (j+1) v (by simpa using hj);rw[show k+1+j=k+(j+1) by omega];exact this
  have go:∀(v:VC) (c:Con) (G1:Gh),inV m t p k x=(v,c)->G.le G1->Beside p G G1->Rel F G1 (s.sC p k c) a w->VCR G1 w v u->Stk F G1 w (bls'.flatten++MM)->(∀j,k+1<=j->FreshK G1 (s.sC p k c) p j)->
   ∃vs cs,QCw p k ((m,t)::l) (x::xs'++rest)=((vs,cs),rest)/\∃G',G.le G'/\Beside p G G'/\Rel F G' (yU s p k cs) a w/\VCs G' w vs (u::us')/\Stk F G' w MM:=by
   intro v c G1 e le1 be1 r1 v1 st1 f1
   obtain⟨vs,cs,q1,G',q2,q3,q4,q5,q6⟩:=QBv (rest:=rest) l (k+1) xs' us' bls' G1 (s.sC p k c) r1 hc st1 f1 (by rw[QK3];exact hb) hT'
   refine⟨v::vs,c::cs, ?_,G',le1.trans q2,be1.trans q3,q4,⟨u,us',rfl,VCR.mono q2 (fun _ _=>rfl) _ _ v1,q5⟩,q6⟩
   simp only[QRv,QCw,e,q1]
  cases hsl:QN t with
  |false=>
   have htk:takes m t=false:=by simp[takes,hsl]
   obtain⟨hbl,hv⟩:=QxI h.roR hx htk
   subst hbl
   exact go (.sc x) yE G (by simp[inV,hsl]) (Gh.le.refl G) (Beside.refl p G) (h.QJI hb (hf k (QY2 k)) yE (fun _ _ _ e=>by cases e) (fun _ e=>by cases e)) hv (by simpa using hk) (fun j hj=>(hf j (by omega)).set (by omega))
  |true=>
   cases m with
   |ro=>
    have htk:takes .ro t=false:=by simp[takes,Mode.QX]
    obtain⟨hbl,hv⟩:=QxI h.roR hx htk
    subst hbl
    exact go (.ro x) yE G (by simp[inV,hsl]) (Gh.le.refl G) (Beside.refl p G) (h.QJI hb (hf k (QY2 k)) yE (fun _ _ _ e=>by cases e) (fun _ e=>by cases e)) hv (by simpa using hk) (fun j hj=>(hf j (by omega)).set (by omega))
   | «mut» =>
     obtain⟨G1,g1,g2,g3,g4,g5⟩:=QoH h hb (hf k (QY2 k)) hx hk (by simp[takes,hsl,Mode.QX]) (some (p,k)) (fun q j e=>by cases e;exact hT 0 u rfl)
     subst g5
     refine go (.vw ⟨p,k,0,0,none,none⟩) _ _ (by simp[inV,hsl]) g1 (Beside.put _ _ _ _ _) g2 ⟨x.t,g3, ?_⟩ g4 (fun j hj=>(hf j (by omega)).put (by omega))
     have:=hx.2;rw[show takes .mut t=true by simp[takes,hsl,Mode.QX]]at this
     exact Rep.one _ _ _ _ (Own.rep _ _ _ _ this).choose_spec.1
   |own=>
    obtain⟨G1,g1,g2,g3,g4,g5⟩:=QoH h hb (hf k (QY2 k)) hx hk (by simp[takes,hsl,Mode.QX]) none (fun q j e=>by cases e)
    subst g5
    refine go (.vw ⟨p,k,0,0,none,none⟩) _ _ (by simp[inV,hsl]) g1 (Beside.put _ _ _ _ _) g2 ⟨x.t,g3, ?_⟩ g4 (fun j hj=>(hf j (by omega)).put (by omega))
    have:=hx.2;rw[show takes .own t=true by simp[takes,hsl,Mode.QX]]at this
    exact Rep.one _ _ _ _ (Own.rep _ _ _ _ this).choose_spec.1
   |top=>
    obtain⟨G1,g1,g2,g3,g4,g5⟩:=QoH h hb (hf k (QY2 k)) hx hk (by simp[takes,hsl,Mode.QX]) none (fun q j e=>by cases e)
    subst g5
    refine go (.vw ⟨p,k,0,0,none,none⟩) _ _ (by simp[inV,hsl]) g1 (Beside.put _ _ _ _ _) g2 ⟨x.t,g3, ?_⟩ g4 (fun j hj=>(hf j (by omega)).put (by omega))
    have:=hx.2;rw[show takes .top t=true by simp[takes,hsl,Mode.QX]]at this
    exact Rep.one _ _ _ _ (Own.rep _ _ _ _ this).choose_spec.1
   |junk=>
    obtain⟨G1,g1,g2,g3,g4,g5⟩:=QoH h hb (hf k (QY2 k)) hx hk (by simp[takes,hsl,Mode.QX]) none (fun q j e=>by cases e)
    subst g5
    refine go (.vw ⟨p,k,0,0,none,none⟩) _ _ (by simp[inV,hsl]) g1 (Beside.put _ _ _ _ _) g2 ⟨x.t,g3, ?_⟩ g4 (fun j hj=>(hf j (by omega)).put (by omega))
    have:=hx.2;rw[show takes .junk t=true by simp[takes,hsl,Mode.QX]]at this
    exact Rep.one _ _ _ _ (Own.rep _ _ _ _ this).choose_spec.1
structure InC (G:Gh) (w:World) (r k:Nat) (m:Mode) (c:Con) (u:Value):Prop where
 box:Xe G w r k c u
 one:u.oneCell'=true
 fix:m.QX=true->∃x,c.st= .fix x
theorem InC.mono {G G':Gh}{w:World}{r k:Nat}{m:Mode}{c:Con}{u:Value}(h:InC G w r k m c u) (le:G.le G'):InC G' w r k m c u:=⟨h.box.mono le,h.one,h.fix⟩
def QrK (G:Gh) (w:World) (r:Nat):Nat->List (Mode×Ty)->List Con->List Value->Prop
 |_,[],cs,us=>cs=[]/\us=[]
 |k,(m,t)::l,cs,us=>∃c cs' u us',cs=c::cs'/\us=u::us'/\InC G w r k m c u/\QrK G w r (k+1) l cs' us'
def QCU (m:Mode) (t:Ty) (x:TV):CSt:=match m with| .ro=> .fix x|_=>if QN t then .own x true none else .sc x
theorem QBB (m:Mode) (t:Ty) (l:List (Mode×Ty)) (x:TV) (xs:List TV):inP ((m,t)::l) (x::xs)=(mkC 0 0 (QCU m t x)::(inP l xs).1,(inP l xs).2):=rfl
theorem QE4 {F:Fix}{a:Act}{w:World}{p:Nat}{MM:List Nat}{rest:List TV}:(l:List (Mode×Ty))->(k:Nat)->(xs:List TV)->(us:List Value)->(bls:List (List Nat))->(G:Gh)->(s:St)->Rel F G s a w->QdV w F.R l xs us bls->Stk F G w (bls.flatten++MM)->(∀j,k<=j->FreshK G s p j)->(s.gB p).2=0->
 ∃cs,inP l (xs++rest)=(cs,rest)/\∃G',G.le G'/\Beside p G G'/\Rel F G' (yU s p k cs) a w/\QrK G' w p k l cs us/\Stk F G' w MM
 | [],k,xs,us,bls,G,s,h,hc,hk,hf,hb=>by
   obtain⟨rfl,rfl,rfl⟩:=hc
   exact⟨[],rfl,G,Gh.le.refl G,Beside.refl p G,h,⟨rfl,rfl⟩,by simpa using hk⟩
 |(m,t)::l,k,xs,us,bls,G,s,h,⟨x,xs',u,us',bl,bls',e1,e2,e3,hx,hc⟩,hk,hf,hb=>by
  subst e1;subst e2;subst e3
  rw[QRr,QRc]at hk
  have go:∀(c:CSt) (G1:Gh),QCU m t x=c->G.le G1->Beside p G G1->Rel F G1 (s.sC p k (mkC 0 0 c)) a w->(∀G',G1.le G'->InC G' w p k m (mkC 0 0 c) u)->Stk F G1 w (bls'.flatten++MM)->(∀j,k+1<=j->FreshK G1 (s.sC p k (mkC 0 0 c)) p j)->
   ∃cs,inP ((m,t)::l) (x::xs'++rest)=(cs,rest)/\∃G',G.le G'/\Beside p G G'/\Rel F G' (yU s p k cs) a w/\QrK G' w p k ((m,t)::l) cs (u::us')/\Stk F G' w MM:=by
   intro c G1 e le1 be1 r1 v1 st1 f1
   obtain⟨cs,q1,G',q2,q3,q4,q5,q6⟩:=QE4 (rest:=rest) l (k+1) xs' us' bls' G1 (s.sC p k (mkC 0 0 c)) r1 hc st1 f1 (by rw[QK3];exact hb)
   refine⟨mkC 0 0 c::cs, ?_,G',le1.trans q2,be1.trans q3,q4,⟨_,cs,u,us',rfl,rfl,v1 G' q2,q5⟩,q6⟩
   rw[QRv,QBB,q1,e]
  cases htk:takes m t with
  |false=>
   obtain⟨hbl,hv⟩:=QxI h.roR hx htk
   subst hbl
   have hone:u.oneCell'=true:=by obtain⟨b',h1,h2⟩:=hv;exact Rep.one _ _ _ _ h1
   have fin:∀(c:CSt),QCU m t x=c->(c= .fix x\/c= .sc x)->(m.QX=true->c= .fix x)->
    ∃cs,inP ((m,t)::l) (x::xs'++rest)=(cs,rest)/\∃G',G.le G'/\Beside p G G'/\Rel F G' (yU s p k cs) a w/\QrK G' w p k ((m,t)::l) cs (u::us')/\Stk F G' w MM:=by
    intro c e h1 h2
    refine go c G e (Gh.le.refl G) (Beside.refl p G) (h.QJI hb (hf k (QY2 k)) _ (fun _ _ _ e=>by rw[QD]at e;rcases h1 with h1|h1<;>rw[h1]at e<;>cases e) (fun _ e=>by rw[QD]at e;rcases h1 with h1|h1<;>rw[h1]at e<;>cases e)) (fun G' hle=>⟨?_,hone,fun hm=>⟨x,by rw[QD];exact h2 hm⟩⟩) (by simpa using hk) (fun j hj=>(hf j (by omega)).set (by omega))
    have hv':VCR G' w (.ro x) u:=VCR.mono hle (fun _ _=>rfl) _ _ hv
    unfold Xe
    rw[QD]
    rcases h1 with h1|h1<;>rw[h1]<;>exact hv'
   cases m with
   |ro=>exact fin (.fix x) rfl (.inl rfl) (fun _=>rfl)
   |_=>
    have hsl:QN t=false:=by simpa[takes,Mode.QX]using htk
    exact fin (.sc x) (by simp[QCU,hsl]) (.inr rfl) (fun hm=>by simp[Mode.QX]at hm)
  |true=>
   have hsl:QN t=true:=by unfold takes at htk;cases hh:QN t with|true=>rfl|false=>rw[hh]at htk;cases htk
   have hnr:m.QX=false:=by unfold takes at htk;rw[hsl]at htk;simpa using htk
   obtain⟨G1,g1,g2,g3,g4,g5⟩:=QoH h hb (hf k (QY2 k)) hx hk htk none (fun q j e=>by cases e)
   subst g5
   have hone:u.oneCell'=true:=by
    have:=hx.2;rw[htk]at this
    exact Rep.one _ _ _ _ (Own.rep _ _ _ _ this).choose_spec.1
   refine go (.own x true none) _ (by cases m<;>first|(simp [Mode.QX]at hnr;done)|simp[QCU,hsl]) g1 (Beside.put _ _ _ _ _) g2 (fun G' hle=>⟨?_,hone,fun hm=>by rw[hnr]at hm;cases hm⟩) g4 (fun j hj=>(hf j (by omega)).put (by omega))
   unfold Xe
   rw[QD]
   exact hle.H _ _ _ _ (by rw[Q1];exact g3)
def Fix.box (F:Fix) (d b n:Nat) (lk:Nat->Prop):Fix:= {F with lock:=fun b' k=>F.lock b' k\/(b'=b/\lk k),pb:=fun r b' n'=>F.pb r b' n'\/(r=d/\b'=b/\n'=n)}
theorem RelP.QNk {F:Fix}{G:Gh}{s:St}{a:Act}{w:World}(h:Rel F G s a w) (hw:F.w0=w) {d b:Nat}(hf:FreshS F G s d->True) (hpb:∀b n,¬F.pb d b n) (hB:s.gB d=(0,0)) (hG:∀j,G.GB d j=none) {us:List Value}(hrow:ZB w b us) (hne:us≠[])
 (hc:∀k u,us[k]? =some u->u.oneCell'=true/\Xe G w d k (s.gC d k) u) (hfree:G.ow b= .free) (hlt:b<w.heap.size) (hX:b<F.w0.heap.size->F.X b) {lk:Nat->Prop}(hlk:∀k,lk k->k<us.length/\∃x,(s.gC d k).st= .fix x):
 Rel (F.box d b us.length lk) (G.Yv d 0 b) (s.sB d (0,us.length)) a w/\G.le (G.Yv d 0 b):=by
 have hle:G.le (G.Yv d 0 b):=⟨fun _ _ _ _ h=>h,fun _ _ _ _ _ _ _ h=>h,fun r j c hb=>by
  show(if r=d/\j=0 then some b else G.GB r j)=some c
  rw[if_neg]
  ·exact hb
  ·rintro⟨rfl,rfl⟩
   (rw [hG]at hb;cases hb),fun c hb=>by
  show(if c=b then Ow.key (.box d)else G.ow c)= .ro
  rw[if_neg]
  ·exact hb
  ·rintro rfl;rw[hfree]at hb;cases hb⟩
 have how:∀c,c≠b->(G.Yv d 0 b).ow c=G.ow c:=fun c hb=>if_neg hb
 have hGB:∀r j,¬(r=d/\j=0)->(G.Yv d 0 b).GB r j=G.GB r j:=fun r j hn=>if_neg hn
 have nolock:∀k,¬F.lock b k:=fun k hl=>by
  obtain⟨r2,n2,g1,_⟩:=h.lockow _ _ hl
  have:=(h.pbox _ _ _ g1).2.2
  rw[hfree]at this;cases this
 refine⟨?_,hle⟩
 constructor
 ·exact h.size
 ·exact h.defers
 ·intro i;exact QK.mono hle (fun b hb=>rfl) (h.tm i)
 ·intro r k
  obtain⟨c1,c2,c3,c4⟩:=(h.con r k).mono hle rfl (fun _=>rfl) (fun _ _ _ _=>rfl)
  exact⟨c1,c2,c3,c4⟩
 ·intro r
  refine⟨fun j hj=> ?_,fun hl=> ?_⟩
  ·rw[Vg]at hj
   split at hj
   ·rename_i e2;subst e2
    rw[hGB _ _ (by omega)]
    exact hG j
   ·rename_i hne
    rw[hGB _ _ (fun e=>hne e.1.symm)]
    exact(h.box r).fresh _ hj
  ·rw[Vg]at hl⊢
   split
   ·rename_i e2;subst e2
    obtain⟨cur,e,k1,k2⟩:=hrow
    refine⟨b,cur,e,if_pos ⟨rfl,rfl⟩,if_pos rfl,k1,by rw[<-k2];simp,fun k hk=> ?_⟩
    have hu:us[k]? =some cur[k]:=by rw[<-k2];simp[hk]
    obtain⟨q1,q2⟩:=hc k _ hu
    refine⟨cur[k],by simp[hk],q1,fun _=>q2.mono hle,fun hlk'=> ?_⟩
    rcases hlk' with hlk'|hlk'
    ·exact(nolock _ hlk').elim
    ·exact(hlk k hlk'.2).2
   ·rename_i hne2
    rw[if_neg hne2]at hl
    obtain⟨c,cur,e',k1,k2,k3,k4,k5⟩:=(h.box r).live hl
    have hb:c≠b:=fun e=>by rw[e,hfree]at k2;cases k2
    refine⟨c,cur,e',by rw[hGB _ _ (fun e=>hne2 e.1.symm)];exact k1,by rw[how c hb];exact k2,k3,k4,fun k hk=> ?_⟩
    obtain⟨u,m1,m2,m3,m4⟩:=k5 k hk
    refine⟨u,m1,m2,fun hn=>(m3 hn).mono hle,fun hl=>m4 ?_⟩
    rcases hl with hl|hl
    ·exact hl
    ·exact(hb hl.1).elim
 ·intro κ x hx
  have hi:=h.it κ x hx
  refine hi.give (fun b hb=>hle.ro b hb) (fun c hb=> ?_)
  have hk:=(hi.key c hb).1
  rw[how c (fun e=>by rw[e,hfree]at hk;cases hk)]
  exact hk
 ·intro c hb
  by_cases e2:c=b
  ·rw[e2];exact hlt
  ·rw[how c e2]at hb;exact h.lt c hb
 ·intro c κ hb hl
  by_cases e2:c=b
  ·rw[e2]at hl⊢; exact hX hl
  ·rw[how c e2]at hb;exact h.own c κ hb hl
 ·intro c hb hl
  by_cases e2:c=b
  ·rw[e2]at hb
   have:(if b=b then Ow.key (.box d)else G.ow b)= .ro:=hb
   rw[if_pos rfl]at this;cases this
  ·rw[how c e2]at hb;exact h.ro c hb hl
 ·intro c hb;exact hle.ro c (h.roR c hb)
 ·exact h.grow
 ·intro c k hl hp
  show F.w0.cell? _=_
  rw[hw]
 ·intro c k hl
  rcases hl with hl|hl
  ·obtain⟨r,n,g1,g2⟩:=h.lockow c k hl
   exact⟨r,n, .inl g1,g2⟩
  ·exact⟨d,us.length, .inr ⟨rfl,hl.1,rfl⟩,(hlk k hl.2).1⟩
 ·intro r c n hp
  rcases hp with hp|⟨rfl,rfl,rfl⟩
  ·obtain⟨q1,q2,q3⟩:=h.pbox r c n hp
   have hr:r≠d:=fun e=>hpb c n (e▸hp)
   have hcb:c≠b:=fun e=>by rw[e,hfree]at q3;cases q3
   exact⟨by rw[Vg,if_neg (fun e=>hr e.symm)];exact q1,by rw[hGB _ _ (fun e=>hr e.1)];exact q2,by rw[how c hcb];exact q3⟩
  ·exact⟨by rw[Vg,if_pos rfl],if_pos ⟨rfl,rfl⟩,if_pos rfl⟩
theorem QrK.get {G:Gh}{w:World}{r:Nat}:(l:List (Mode×Ty))->(k:Nat)->(cs:List Con)->(us:List Value)->QrK G w r k l cs us->cs.length=l.length/\us.length=l.length/\(∀j u,us[j]? =some u->∃m t,l[j]? =some (m,t)/\InC G w r (k+j) m (lget yE cs j) u)
 | [],k,cs,us,h=>by obtain⟨rfl,rfl⟩:=h;exact⟨rfl,rfl,fun j u e=>by simp at e⟩
 |(m,t)::l,k,cs,us,⟨c,cs',u,us',e1,e2,h,hs⟩=>by
  subst e1;subst e2
  obtain⟨g1,g2,g3⟩:=QrK.get l (k+1) cs' us' hs
  refine⟨by simp[g1],by simp[g2],fun j v hj=> ?_⟩
  cases j with
  |zero=>simp at hj;subst hj;exact⟨m,t,rfl,h⟩
  |succ j=>
   obtain⟨m',t',q1,q2⟩:=g3 j v (by simpa using hj)
   exact⟨m',t',by simpa using q1,by rw[show k+(j+1)=k+1+j by omega];exact q2⟩
structure Fix.le (F F':Fix):Prop where
 w0:F'.w0=F.w0
 X:F'.X=F.X
 R:F'.R=F.R
 T:F'.T=F.T
 lock:∀b k,F.lock b k->F'.lock b k
 pb:∀r b n,F.pb r b n->F'.pb r b n
theorem Fix.le.refl (F:Fix):F.le F:=⟨rfl,rfl,rfl,rfl,fun _ _ h=>h,fun _ _ _ h=>h⟩
theorem Fix.le.trans {A B C:Fix}(h:A.le B) (h':B.le C):A.le C:=⟨h'.w0.trans h.w0,h'.X.trans h.X,h'.R.trans h.R,h'.T.trans h.T,fun b k e=>h'.lock b k (h.lock b k e),fun r b n e=>h'.pb r b n (h.pb r b n e)⟩
theorem Fix.QMf (F:Fix) (d b n:Nat) (lk:Nat->Prop):F.le (F.box d b n lk):=⟨rfl,rfl,rfl,rfl,fun _ _ h=> .inl h,fun _ _ _ h=> .inl h⟩
theorem QHz {F:Fix}{a:Act}{w:World}{G:Gh}{s:St}{d b:Nat}{MM:List Nat}{rest:List TV}{cs:List (Mode×Ty)}{xs:List TV}{us:List Value}{bls:List (List Nat)}(h:Rel F G s a w) (hw:F.w0=w) (hne:cs≠[]) (hrow:ZB w b us) (hc:QdV w F.R cs xs us bls)
 (hk:Stk F G w (b::(bls.flatten++MM))) (hf:FreshS F G s d):
 ∃con,inP cs (xs++rest)=(con,rest)/\∃F' G',F.le F'/\G.le G'/\Stk F' G' w MM/\(∀s',s'.n=s.n->s'.tm=s.tm->s'.cn=lset [] s.cn d con->s'.bx=lset (0,0) s.bx d (0,cs.length)->Rel F' G' s' a w/\∀r,r≠d->FreshS F G s r->FreshS F' G' s' r)/\G'.GB d 0=some b/\us.length=cs.length/\
  F'.pb d b cs.length/\(∀k x,cs[k]? =some x->x.1.QX=true->F'.lock b k)/\∀r b' n,F'.pb r b' n->F.pb r b' n\/r=d:=by
 have hk2:Stk F G w (bls.flatten++(b::MM)):=by
  refine⟨?_,fun q hq=>hk.2 q (by simp at hq⊢; rcases hq with h|h|h<;>simp[h])⟩
  exact(List.perm_middle (l₁:=bls.flatten) (l₂:=MM) (a:=b)).symm.nodup hk.1
 obtain⟨con,q1,G1,q2,q3,q4,q5,q6⟩:=QE4 (rest:=rest) cs 0 xs us bls G s h hc hk2 (fun j _=>hf.k j) (by rw[hf.b])
 obtain⟨g1,g2,g3⟩:=QrK.get cs 0 con us q5
 have hbf:=q6.2 b (by simp)
 have hfill:=QnW d con s 0
 obtain⟨r1,r2⟩:=q4.QNk hw (d:=d) (b:=b) (fun _=>trivial) hf.pb (by rw[hfill.2.2];exact hf.b) (fun j=>by rw[q3.GB];exact hf.GB j) hrow (fun e=>hne (QRx (by rw[<-g2,e];rfl)))
  (fun k u hu=>by
    obtain⟨m,t,e1,e2⟩:=g3 k u hu
    have hk:k<us.length:=(QRq.1 hu).1
    rw[Qfn,if_pos ⟨rfl,Nat.zero_le k,by omega⟩,Nat.sub_zero]
    rw[QRo]at e2
    exact⟨e2.one,e2.box⟩) hbf.1 hbf.2.1 hbf.2.2 (lk:=fun k=>∃x,cs[k]? =some x/\x.1.QX=true)
  (fun k ⟨x,hx,hm⟩=>by
    have hk:k<cs.length:=(QRq.1 hx).1
    refine⟨by omega, ?_⟩
    obtain⟨m,t,e1,e2⟩:=g3 k us[k] (by simp)
    rw[Qfn,if_pos ⟨rfl,Nat.zero_le k,by omega⟩,Nat.sub_zero]
    rw[e1]at hx;cases hx
    exact e2.fix hm)
 refine⟨con,q1,F.box d b us.length fun k=>∃x,cs[k]? =some x/\x.1.QX=true,G1.Yv d 0 b,F.QMf _ _ _ _,q2.trans r2, ?_, ?_,if_pos ⟨rfl,rfl⟩,g2, .inr ⟨rfl,rfl,g2.symm⟩,fun k x hx hm=> .inr ⟨rfl,x,hx,hm⟩,fun r b' n hp=> ?_⟩
 ·have:Stk F G1 w ([b]++MM):=q6
  refine⟨(QRi.1 this.1).2.1,fun q hq=> ?_⟩
  obtain⟨m1,m2,m3⟩:=this.2 q (by simp[hq])
  refine⟨?_,m2,m3⟩
  show(if q=b then Ow.key (.box d)else G1.ow q)= .free
  rw[if_neg (fun e=>(QRi.1 this.1).2.2 b (by simp) q hq e.symm)]
  exact m1
 ·intro s' e1 e2 e3 e4
  have hgc:=QEv (F:=F) (G:=G) (s:=s) (s':=s') (r:=d) (cs:=con) (fun k=>(hf.k k).c) e3
  have hgb:∀r,s'.gB r=if d=r then(0,cs.length)else s.gB r:=fun r=>by
   unfold St.gB;rw[e4]
   by_cases e:d=r
   ·subst e;rw[if_pos rfl,XJ]
   ·rw[if_neg e,X8 _ _ _ _ e]
  refine⟨r1.ext (by rw[e1];exact hfill.1.symm) (fun i=>by
   rw[show((yU s d 0 con).sB d (0,us.length)).gT i=(yU s d 0 con).gT i from rfl,hfill.2.1];unfold St.gT;rw[e2]) (fun r k=>by rw[hgc r k];rfl) (fun r=>by rw[hgb,Vg,g2,hfill.2.2]),fun r hr hfr=> ?_⟩
  refine⟨fun k=>⟨?_, ?_, ?_⟩, ?_, ?_, ?_⟩
  ·rw[hgc,Qfn,if_neg (fun e=>hr e.1.symm)];exact(hfr.k k).c
  ·intro j
   show G1.H r k j=none
   rw[q3.H r hr];exact(hfr.k k).H j
  ·intro j v i m
   show G1.HN r k j v i m=none
   rw[q3.N];exact(hfr.k k).N j v i m
  ·rw[hgb,if_neg (fun e=>hr e.symm)];exact hfr.b
  ·intro j
   show(if r=d/\j=0 then some b else G1.GB r j)=none
   rw[if_neg (fun e=>hr e.1),q3.GB];exact hfr.GB j
  ·rintro b' n (hp|hp)
   ·exact hfr.pb _ _ hp
   ·exact hr hp.1
 ·rcases hp with hp|hp
  ·exact .inl hp
  ·exact .inr hp.1
theorem Stk.perm {F:Fix}{G:Gh}{w:World}{N M:List Nat}(h:Stk F G w N) (hp:N.Perm M):Stk F G w M:=⟨hp.nodup h.1,fun b hb=>h.2 b (hp.symm.subset hb)⟩
theorem RelP.QAJ {F:Fix}{pd:Nat->Nat->Prop}{G:Gh}{s:St}{a:Act}{w:World}(h:RelP F pd G s a w) {i:Nat}{c:Cell}(hc:QK G w c (a.tmps.getD i undef)):RelP F pd G (s.sT i c) a w where
 size:=h.size
 defers:=h.defers
 tm j:=by
  rw[Qxl]
  split
  ·rename_i e;subst e;exact hc
  ·exact h.tm j
 con r k:=h.con r k
 box r:=⟨(h.box r).fresh,(h.box r).live⟩
 it:=h.it
 lt:=h.lt
 own:=h.own
 ro:=h.ro
 roR:=h.roR
 grow:=h.grow
 lock:=h.lock
 lockow:=h.lockow
 pbox:=h.pbox
theorem QE1 {w:World}{R:Nat->Prop}:(l:List (Mode×Ty))->(xs rest:List TV)->(con:List Con)->(us:List Value)->(bls:List (List Nat))->QdV w R l xs us bls->inP l (xs++rest)=(con,rest)->con.length=l.length
 | [],xs,rest,con,us,bls,h,e=>by obtain⟨rfl,_,_⟩:=h;cases e;rfl
 |(m,t)::l,xs,rest,con,us,bls,⟨x,xs',u,us',bl,bls',e1,e2,e3,hx,hc⟩,e=>by
  subst e1
  rw[QRv,QBB]at e
  injection e with e4 e5
  subst e4
  have:=QE1 l xs' rest (inP l (xs'++rest)).1 us' bls' hc (Prod.ext rfl e5)
  simp[this]
theorem Qv6 {a:Act}{w:World}{MM:List Nat}{rest:List TV}:(caps:List (List (Mode×Ty)))->(d:Nat)->(xs:List TV)->(bs:List Nat)->(bls:List (List Nat))->(F:Fix)->(G:Gh)->(s:St)->Rel F G s a w->F.w0=w->QuM w F.R caps xs bs bls->(caps.all fun cs=>cs.all fun x=>x.1.QX)=true->Stk F G w (bs++(bls.flatten++MM))->(∀j,j<caps.length->FreshS F G s (d+j))->
 ∃s',Qc6 d caps (xs++rest) s=(s',rest)/\∃F' G',F.le F'/\G.le G'/\Stk F' G' w MM/\Rel F' G' s' a w/\s'.n=s.n/\s'.tm=s.tm/\(∀r,(r<d\/d+caps.length<=r)->FreshS F G s r->FreshS F' G' s' r)/\ve G' ((List.range' d caps.length).map fun r=>(r,0,0)) (bs.map fun b=>JH b 0)/\
  (∀r b n,F'.pb r b n->F.pb r b n\/(d<=r/\r<d+caps.length))/\∀b∈bs,∃r us,us≠[]/\ZB w b us/\F'.pb r b us.length/\∀k,k<us.length->F'.lock b k
 | [],d,xs,bs,bls,F,G,s,h,hw,hc,hro,hk,hf=>by
   obtain⟨rfl,rfl,rfl⟩:=hc
   exact⟨s,rfl,F,G,Fix.le.refl F,Gh.le.refl G,by simpa using hk,h,rfl,rfl,fun r _ hr=>hr,rfl,fun r b n hp=> .inl hp,by simp⟩
 |cs::caps,d,xs,bs,bls,F,G,s,h,hw,⟨x1,x2,b,bs',l1,l2,us,e1,e2,e3,hne,hrow,hcs,hc⟩,hro,hk,hf=>by
  subst e1;subst e2;subst e3
  simp only[QY29,QQ5]at hro
  have hk':Stk F G w (b::(l1.flatten++(bs'++(l2.flatten++MM)))):=hk.perm (by
   rw[QRv,QY21,QRc]
   exact List.Perm.cons b (by
    simp only[<-QRc]
    exact List.Perm.append_right _ (List.Perm.append_right _ List.perm_append_comm)))
  have hf0:=hf 0 (by simp)
  rw[QY3]at hf0
  obtain⟨con,q1,F1,G1,q2,q3,q4,q5,q6,q7,q8,q9,q10⟩:=QHz (rest:=x2++rest) h hw hne hrow hcs hk' hf0
  obtain⟨r1,f1⟩:=q5 {s with cn:=lset [] s.cn d con,bx:=lset (0,0) s.bx d (0,cs.length)} rfl rfl rfl rfl
  have hlen:con.length=cs.length:=by
   obtain⟨q,_⟩:=q5 {s with cn:=lset [] s.cn d con,bx:=lset (0,0) s.bx d (0,cs.length)} rfl rfl rfl rfl
   exact QE1 cs x1 (x2++rest) con us l1 hcs q1
  obtain⟨s',m1,F',G',m2,m3,m4,m5,m6,m7,m8,m9,m10,m11⟩:=Qv6 (rest:=rest) caps (d+1) x2 bs' l2 F1 G1 _ r1 (by rw[q2.w0];exact hw) (by rw[q2.R];exact hc) hro.2 q4 (fun j hj=>f1 _ (by omega) (by have:=hf (j+1) (by simp;omega);rw[show d+1+j=d+(j+1) by omega];exact this))
  refine⟨s', ?_,F',G',q2.trans m2,q3.trans m3,m4,m5,m6,m7,fun r hr hfr=>m8 r (by simp at hr⊢; omega) (f1 r (by simp at hr;omega) hfr), ?_,fun r b' n hp=> ?_,fun b' hb'=> ?_⟩
  ·unfold Qc6
   rw[QRc,q1]
   simp only
   rw[<-hlen]at m1
   rw[<-hlen]
   exact m1
  ·rw[QY1,List.range'_succ,QY24,QY24]
   exact⟨b,_,m3.GB _ _ _ q6,rfl,m9⟩
  ·rcases m10 r b' n hp with hp|hp
   ·rcases q10 r b' n hp with hp|hp
    ·exact .inl hp
    ·exact .inr (by simp;omega)
   ·exact .inr (by simp;omega)
  ·rcases QRk.1 hb' with rfl|hb'
   ·refine⟨d,us,(fun e=>hne (QRx (by rw[<-q7,e];rfl))),hrow,by rw[q7];exact m2.pb _ _ _ q8,fun k hk=>m2.lock _ _ ?_⟩
    obtain⟨x,hx⟩:∃x,cs[k]? =some x:=⟨cs[k]'(by omega),by simp⟩
    exact q9 k x hx (QRt.1 hro.1 x (QY22 hx))
   ·exact m11 b' hb'
theorem Stk.move {F F':Fix}{G:Gh}{w:World}{N:List Nat}(h:Stk F G w N) (le:F.le F'):Stk F' G w N:=⟨h.1,fun b hb=>⟨(h.2 b hb).1,(h.2 b hb).2.1,by rw[le.w0,le.X];exact(h.2 b hb).2.2⟩⟩
def Qo9:Value->List Value
 | .agg us=>us.toList
 |v=>[v]
theorem QG8 {v:Value}(h:v.oneCell'=true):Qo9 v=[v]:=by
 cases v<;>first|rfl|(simp [Value.oneCell']at h;done)|cases h
theorem QdV.ones {w:World}{R:Nat->Prop}:(l:List (Mode×Ty))->(xs:List TV)->(us:List Value)->(bls:List (List Nat))->QdV w R l xs us bls->us.length=l.length/\∀u∈us,u.oneCell'=true
 | [],xs,us,bls,h=>by obtain⟨_,rfl,_⟩:=h;simp
 |(m,t)::l,xs,us,bls,⟨x,xs',u,us',bl,bls',e1,e2,e3,⟨hx,hc⟩,h⟩=>by
  subst e2
  obtain⟨g1,g2⟩:=QdV.ones l xs' us' bls' h
  refine⟨by simp[g1],fun v hv=> ?_⟩
  rcases QRk.1 hv with rfl|hv
  ·cases htk:takes m t with
   |true=>rw[htk]at hc;exact Rep.one _ _ _ _ (Own.rep _ _ _ _ hc).choose_spec.1
   |false=>rw[htk]at hc;obtain⟨_,b',h1,_⟩:=hc;exact Rep.one _ _ _ _ h1
  ·exact g2 v hv
def QA8 (F:Fix) (w:World) (p:Nat) (q:PSig) (v:Value):Prop:=match q with
 | .val a cs=>∃us,(if a then v= .agg us.toArray else us=[v])/\us.length=cs.length/\∀j u,us[j]? =some u->F.T p j=some u
 | .ptr cs=>cs≠[]/\∃b us,v=JH b 0/\ZB w b us/\us.length=cs.length/\F.pb p b cs.length/\∀k x,cs[k]? =some x->x.1.QX=true->F.lock b k
 | .fn g caps=>∃bs:List Nat,v= .func (.func g) #[] (bs.map fun b=>JH b 0).toArray/\∀b∈bs,∃r us,us≠[]/\ZB w b us/\F.pb r b us.length/\∀k,k<us.length->F.lock b k
theorem QA8.mono {F F':Fix}{w:World}{p:Nat}{q:PSig}{v:Value}(h:QA8 F w p q v) (le:F.le F'):QA8 F' w p q v:=by
 cases q with
 |val a cs=>obtain⟨us,h1,h2,h3⟩:=h;exact⟨us,h1,h2,by rw[le.T];exact h3⟩
 |ptr cs=>obtain⟨h0,b,us,h1,h2,h3,h4,h5⟩:=h;exact⟨h0,b,us,h1,h2,h3,le.pb _ _ _ h4,fun k x e e'=>le.lock _ _ (h5 k x e e')⟩
 |fn g caps=>
  obtain⟨bs,h1,h2⟩:=h
  exact⟨bs,h1,fun b hb=>let⟨r,us,g0,g1,g2,g3⟩:=h2 b hb;⟨r,us,g0,g1,le.pb _ _ _ g2,fun k hk=>le.lock _ _ (g3 k hk)⟩⟩
def InF (F:Fix) (w:World):Nat->List PSig->List Value->Prop
 |_,[],vs=>vs=[]
 |p,q::ps,vs=>∃v vs',vs=v::vs'/\QA8 F w p q v/\InF F w (p+1) ps vs'
def slotsOf (p:Nat):PSig->List Nat
 | .val _ _=>[]
 | .ptr _=>[p]
 | .fn _ caps=>List.range' (200+8*p) caps.length
def Jk:Nat->List PSig->List Nat
 |_,[]=>[]
 |p,q::l=>slotsOf p q++Jk (p+1) l
theorem Qtq:(ps:List PSig)->(p r:Nat)->r∈Jk p ps->(p<=r/\r<p+ps.length)\/(200<=r/\ps.any PSig.QKj=true)
 | [],p,r,h=>by simp[Jk]at h
 |q::ps,p,r,h=>by
  simp only[Jk,QRh]at h
  simp only[QY1,List.any_cons,QY32]
  rcases h with h|h
  ·cases q with
   |val _ _=>simp[slotsOf]at h
   |ptr _=>simp[slotsOf]at h;exact .inl (by omega)
   |fn _ caps=>simp only[slotsOf,List.mem_range'_1]at h;exact .inr ⟨by omega, .inl rfl⟩
  ·rcases Qtq ps (p+1) r h with h|h
   ·exact .inl (by omega)
   ·exact .inr ⟨h.1, .inr h.2⟩
def PSig.small (p:PSig):Bool:=match p with| .fn _ caps=>Nat.ble caps.length 8|_=>true
theorem QzC:(caps:List (List (Mode×Ty)))->(d:Nat)->(xs:List TV)->(s:St)->(tm:List Cell)->Qc6 d caps xs {s with tm:=tm}=({(Qc6 d caps xs s).1 with tm:=tm},(Qc6 d caps xs s).2)
 | [],d,xs,s,tm=>rfl
 |cs::caps,d,xs,s,tm=>by
  unfold Qc6
  generalize inP cs xs=y
  obtain⟨c,r⟩:=y
  exact QzC caps (d+1) r {s with cn:=lset [] s.cn d c,bx:=lset (0,0) s.bx d (0,cs.length)} tm
theorem QJu {F:Fix}{a:Act}{w:World}{MM:List Nat}{rest:List TV}{G:Gh}{s:St}{p:Nat}{q:PSig}{xs:List TV}{v:Value}{bs:List Nat}{bls:List (List Nat)}(ps:List PSig) (h:Rel F G s a w) (hw:F.w0=w) (hq:PIn w F.R q xs v bs bls) (ho:q.okP=true) (hsm:q.small=true) (hk:Stk F G w (bs++(bls.flatten++MM)))
 (hf:∀r,(p<=r/\r<200)\/200+8*p<=r->FreshS F G s r) (hp:p<200) (hv:a.tmps.getD p undef=v) (hT:∀i,F.T p i=(Qo9 v)[i]?):
 ∃s',Qgx p (q::ps) (xs++rest) s=Qgx (p+1) ps rest s'/\∃F' G',F.le F'/\G.le G'/\Stk F' G' w MM/\Rel F' G' s' a w/\s'.n=s.n/\(∀r,(p+1<=r/\r<200)\/200+8*(p+1)<=r->FreshS F' G' s' r)/\
  (∀r b n,F'.pb r b n->F.pb r b n\/r∈slotsOf p q)/\QA8 F' w p q v:=by
 have hfp:=hf p (.inl ⟨QY2 p,hp⟩)
 cases q with
 |val ag cs=>
  obtain⟨rfl,us,hsh,hc⟩:=hq
  obtain⟨hul,hones⟩:=QdV.ones cs xs us bls hc
  have hcells:Qo9 v=us:=by
   cases ag with
   |true=>simp only[if_true]at hsh;rw[hsh];simp[Qo9]
   |false=>simp only[QRw,if_false]at hsh;rw[hsh];exact QG8 (hones v (by rw[hsh];simp))
  have hT':∀j u,us[j]? =some u->F.T p j=some u:=fun j u hj=>by rw[hT,hcells];exact hj
  obtain⟨vs,con,q1,G',q2,q3,q4,q5,q6⟩:=QBv (rest:=rest) cs 0 xs us bls G s h hc (by simpa using hk) (fun j _=>hfp.k j) (by rw[hfp.b]) (fun j u hj=>by rw[QRo];exact hT' j u hj)
  have hfill:=QnW p con s 0
  have hgc:=QEv (F:=F) (G:=G) (s:=s) (s':= {s with tm:=lset .dead s.tm p (.val ag vs),cn:=lset [] s.cn p con}) (r:=p) (cs:=con) (fun k=>(hfp.k k).c) rfl
  refine⟨{s with tm:=lset .dead s.tm p (.val ag vs),cn:=lset [] s.cn p con}, ?_,F,G',Fix.le.refl F,q2,q6, ?_,rfl,fun r hr=> ?_,fun r b n hpb=> .inl hpb,us,hsh,hul,hT'⟩
  ·simp only[Qgx,q1]
  ·refine(RelP.QAJ (i:=p) (c:= .val ag vs) q4 ?_).ext (s':= {s with tm:=lset .dead s.tm p (.val ag vs),cn:=lset [] s.cn p con}) (by exact hfill.1.symm) (fun i=> ?_) (fun r k=>hgc r k) (fun r=>by exact(hfill.2.2 r).symm)
   ·rw[hv];exact Qzj hsh q5
   ·rw[Qxl,hfill.2.1]
    unfold St.gT
    by_cases e:p=i
    ·subst e;rw[if_pos rfl];exact XJ _ _ _
    ·rw[if_neg e];exact X8 _ _ _ _ e
  ·have hne:r≠p:=by omega
   have hfr:=hf r (by omega)
   refine⟨fun k=>⟨?_, ?_, ?_⟩,hfr.b, ?_,hfr.pb⟩
   ·rw[hgc,Qfn,if_neg (fun e=>hne e.1.symm)];exact(hfr.k k).c
   ·intro j;rw[q3.H r hne];exact(hfr.k k).H j
   ·intro j v i m;rw[q3.N];exact(hfr.k k).N j v i m
   ·intro j;rw[q3.GB];exact hfr.GB j
 |ptr cs=>
  obtain⟨hne,b,us,rfl,hvp,hrow,hc⟩:=hq
  obtain⟨con,q1,F',G',q2,q3,q4,q5,q6,q7,q8,q9,q10⟩:=QHz (rest:=rest) h hw hne hrow hc hk hfp
  obtain⟨r1,f1⟩:=q5 {s with cn:=lset [] s.cn p con,bx:=lset (0,0) s.bx p (0,cs.length)} rfl rfl rfl rfl
  refine⟨{s with tm:=lset .dead s.tm p (.ptr p 0 0),cn:=lset [] s.cn p con,bx:=lset (0,0) s.bx p (0,cs.length)}, ?_,F',G',q2,q3,q4, ?_,rfl,fun r hr=> ?_,fun r b' n hpb=> ?_,hne,b,us,hvp,hrow,q7,q8,q9⟩
  ·simp only[Qgx,q1]
  ·refine(RelP.QAJ (i:=p) (c:= .ptr p 0 0) r1 ?_).ext rfl (fun i=>rfl) (fun r k=>rfl) (fun r=>rfl)
   rw[hv];exact⟨b,q6,hvp⟩
  ·obtain⟨c1,c2,c3,c4⟩:=f1 r (by omega) (hf r (by omega))
   exact⟨fun k=>⟨(c1 k).c,(c1 k).H,(c1 k).N⟩,c2,c3,c4⟩
  ·rcases q10 r b' n hpb with h|h
   ·exact .inl h
   ·exact .inr (by simp[slotsOf,h])
 |fn g caps=>
  obtain⟨hvf,hc⟩:=hq
  have hro:(caps.all fun cs=>cs.all fun x=>x.1.QX)=true:=ho
  have hl:caps.length<=8:=Nat.le_of_ble_eq_true hsm
  have h0:Rel F G s a w:=h
  obtain⟨s',q1,F',G',q2,q3,q4,q5,q6,q7,q8,q9,q10,q11⟩:=Qv6 (rest:=rest) caps (200+8*p) xs bs bls F G s h hw hc hro hk (fun j hj=>hf _ (by omega))
  obtain⟨s2,q12,hs2⟩:∃s2,Qc6 (200+8*p) caps (xs++rest) {s with tm:=lset .dead s.tm p (.fn g ((List.range caps.length).map fun j=>(200+8*p+j,0,0)))}=(s2,rest)/\s2= {s' with tm:=lset .dead s.tm p (.fn g ((List.range caps.length).map fun j=>(200+8*p+j,0,0)))}:=by
   refine⟨_, ?_,rfl⟩
   rw[QzC,q1]
  subst hs2
  refine⟨{s' with tm:=lset .dead s.tm p (.fn g ((List.range caps.length).map fun j=>(200+8*p+j,0,0)))},by simp only[Qgx,q12],F',G',q2,q3,q4, ?_,q6,fun r hr=> ?_,fun r b' n hpb=> ?_,bs,hvf,q11⟩
  ·refine(RelP.QAJ (i:=p) (c:= .fn g ((List.range caps.length).map fun j=>(200+8*p+j,0,0))) q5 ?_).ext (s':= {s' with tm:=lset .dead s.tm p (.fn g ((List.range caps.length).map fun j=>(200+8*p+j,0,0)))}) rfl (fun i=>by unfold St.gT St.sT;simp only[q7]) (fun r k=>rfl) (fun r=>rfl)
   rw[hv]
   refine⟨_,hvf, ?_⟩
   have e:(List.range caps.length).map (fun j=>(200+8*p+j,0,0))=(List.range' (200+8*p) caps.length).map fun r=>(r,0,0):=by
    rw[List.range'_eq_map_range,List.map_map];rfl
   rw[e]
   exact q9
  ·obtain⟨c1,c2,c3,c4⟩:=q8 r (by omega) (hf r (by omega))
   exact⟨fun k=>⟨(c1 k).c,(c1 k).H,(c1 k).N⟩,c2,c3,c4⟩
  ·rcases q10 r b' n hpb with h|h
   ·exact .inl h
   ·exact .inr (by simp only[slotsOf,List.mem_range'_1];omega)
theorem QzP {a:Act}{w:World}:(ps:List PSig)->(p:Nat)->(xs:List TV)->(vs:List Value)->(bs:List Nat)->(bls:List (List Nat))->(F:Fix)->(G:Gh)->(s:St)->Rel F G s a w->F.w0=w->QcQ w F.R ps xs vs bs bls->ps.all PSig.okP=true->ps.all PSig.small=true->Stk F G w (bs++bls.flatten)->
 (∀r,(p<=r/\r<200)\/200+8*p<=r->FreshS F G s r)->p+ps.length<=200->(∀j v,vs[j]? =some v->a.tmps.getD (p+j) undef=v)->(∀j v,vs[j]? =some v->∀i,F.T (p+j) i=(Qo9 v)[i]?)->
 ∃F' G',F.le F'/\Rel F' G' (Qgx p ps xs s) a w/\(∀r b n,F'.pb r b n->F.pb r b n\/r∈Jk p ps)/\InF F' w p ps vs
 | [],p,xs,vs,bs,bls,F,G,s,h,hw,hin,ho,hsm,hk,hf,hp,hv,hT=>by
   obtain⟨rfl,rfl,rfl,rfl⟩:=hin
   exact⟨F,G,Fix.le.refl F,h,fun r b n hpb=> .inl hpb,rfl⟩
 |q::ps,p,xs,vs,bs,bls,F,G,s,h,hw,⟨x1,x2,v,vs',b1,b2,l1,l2,e1,e2,e3,e4,hq,hin⟩,ho,hsm,hk,hf,hp,hv,hT=>by
  subst e1;subst e2;subst e3;subst e4
  simp only[QY29,QQ5]at ho hsm
  simp only[QY1]at hp
  have hk':Stk F G w (b1++(l1.flatten++(b2++l2.flatten))):=hk.perm (by
   rw[QRc,QY21]
   refine List.Perm.append_left _ ?_
   rw[<-QRc,<-QRc]
   exact List.Perm.append_right _ List.perm_append_comm)
  obtain⟨s',q1,F1,G1,q2,q3,q4,q5,q6,q7,q8,q9⟩:=QJu (rest:=x2) ps h hw hq ho.1 hsm.1 hk' hf (by omega) (by have:=hv 0 v rfl;rwa[QY3]at this) (by have:=hT 0 v rfl;rwa[QY3]at this)
  obtain⟨F',G',m1,m2,m3,m4⟩:=QzP ps (p+1) x2 vs' b2 l2 F1 G1 s' q5 (by rw[q2.w0];exact hw) (by rw[q2.R];exact hin) ho.2 hsm.2 q4 q7 (by omega) (fun j u hj=>by rw[show p+1+j=p+(j+1) by omega];exact hv (j+1) u (by simpa using hj)) (fun j u hj i=>by rw[q2.T,show p+1+j=p+(j+1) by omega];exact hT (j+1) u (by simpa using hj) i)
  refine⟨F',G',q2.trans m1,by rw[q1];exact m2,fun r b n hpb=> ?_,v,vs',rfl,q9.mono m1,m4⟩
  simp only[Jk,QRh]
  rcases m3 r b n hpb with h|h
  ·rcases q8 r b n h with h|h
   ·exact .inl h
   ·exact .inr (.inl h)
  ·exact .inr (.inr h)
end Go.Eng
namespace Go.Eng
open Go
set_option linter.unusedVariables false
open Classical in
noncomputable def Gh.start (R:Nat->Prop):Gh:=⟨fun _ _ _=>none,fun _ _ _ _ _ _=>none,fun _ _=>none,fun b=>if R b then .ro else .free,fun _=>none⟩
theorem QBW {R:Nat->Prop}{b:Nat}(h:R b):(Gh.start R).ow b= .ro:=if_pos h
theorem QjP {R:Nat->Prop}{b:Nat}(h:¬R b):(Gh.start R).ow b= .free:=if_neg h
def Fix.start (w:World) (R:Nat->Prop) (O:List Nat) (vs:List Value):Fix:=⟨w,fun b=>b∈O,R,fun _ _=>False,fun p j=>(vs[p]?).bind fun v=>(Qo9 v)[j]?,fun _ _ _=>False⟩
def QhR (nt:Nat) (vs:List Value):Act:= {tmps:=vs.toArray++Array.replicate (nt - vs.toArray.size) undef,defers:=[]}
theorem QcQ.len {w:World}{R:Nat->Prop}:(ps:List PSig)->(xs:List TV)->(vs:List Value)->(bs:List Nat)->(bls:List (List Nat))->QcQ w R ps xs vs bs bls->vs.length=ps.length
 | [],xs,vs,bs,bls,h=>by obtain⟨_,rfl,_⟩:=h;rfl
 |p::ps,xs,vs,bs,bls,⟨x1,x2,v,vs',b1,b2,l1,l2,e1,e2,e3,e4,h,h'⟩=>by
  rw[e2];simp[QcQ.len ps x2 vs' b2 l2 h']
theorem QJq {w:World}{R:Nat->Prop}{O:List Nat}{vs:List Value}{nt:Nat}(hR:∀b,R b->b<w.heap.size) (hl:vs.length<=nt):Rel (Fix.start w R O vs) (Gh.start R) ⟨nt,[],[],[]⟩ (QhR nt vs) w where
 size:=by simp[QhR];omega
 defers:=rfl
 tm i:=by
  have:(⟨nt,[],[],[]⟩:St).gT i= .dead:=by cases i<;>rfl
  rw[this];trivial
 con r k:=by
  have:(⟨nt,[],[],[]⟩:St).gC r k=yE:=by cases r<;>cases k<;>rfl
  rw[this]
  exact⟨fun _ _=>rfl,fun _ _ _ _ _=>rfl,(fun _ _ _ e=>by cases e),(fun _ e=>by cases e)⟩
 box r:=by
  have:(⟨nt,[],[],[]⟩:St).gB r=(0,0):=by cases r<;>rfl
  exact⟨fun _ _=>rfl,fun h=>by rw[this]at h;exact(h rfl).elim⟩
 it κ x e:=by cases e
 lt b hb:=by
  exact hR b (QY34 fun hn=>hb (QjP hn))
 own b κ hb:=by
  by_cases h:R b
  ·rw[QBW h]at hb;cases hb
  ·rw[QjP h]at hb;cases hb
 ro b hb _:=by
  by_cases h:R b
  ·exact .inl h
  ·rw[QjP h]at hb;cases hb
 roR b hb:=QBW hb
 grow:=Grow.refl _ _
 lock b k h:=h.elim
 lockow b k h:=h.elim
 pbox r b n h:=h.elim
theorem QJ3 {w:World}{R:Nat->Prop}{sg:Sig}{nt:Nat}{ins:Qm sg.ins}{vs:List Value}{bs:List Nat}{bls:List (List Nat)}(ho:sg.ok=true) (hsm:sg.small=true) (hnt:sg.ps.length<=nt) (hin:QcQ w R sg.ps (unpack _ ins) vs bs bls) (hnd:(bs++bls.flatten).Nodup) (hlt:∀b∈bs++bls.flatten,b<w.heap.size)
 (hR:∀b,R b->b<w.heap.size/\b∉bs++bls.flatten):
 ∃F G,F.w0=w/\F.X=(fun b=>b∈bs++bls.flatten)/\F.R=R/\Rel F G (init nt sg ins) (QhR nt vs) w/\(∀r b n,F.pb r b n->r∈Jk 0 sg.ps)/\InF F w 0 sg.ps vs:=by
 have hl:=QcQ.len _ _ _ _ _ hin
 simp only[Sig.small,QQ5]at hsm
 simp only[Sig.ok,QQ5]at ho
 have h0:∀i,(⟨nt,[],[],[]⟩:St).gB i=(0,0):=fun i=>by cases i<;>rfl
 obtain⟨F,G,q1,q2,q3,q4⟩:=QzP (a:=QhR nt vs) (w:=w) sg.ps 0 (unpack _ ins) vs bs bls (Fix.start w R (bs++bls.flatten) vs) (Gh.start R) ⟨nt,[],[],[]⟩ (QJq (fun b hb=>(hR b hb).1) (by omega)) rfl hin ho.1 (by
  rw[QRt];intro p hp
  have:=QRt.1 hsm.2 p hp
  cases p<;>exact this)
  ⟨hnd,fun b hb=>⟨QjP (fun hr=>(hR b hr).2 hb),hlt b hb,fun _=>hb⟩⟩
  (fun r _=>⟨fun k=>⟨by cases r<;>cases k<;>rfl,fun _=>rfl,fun _ _ _ _=>rfl⟩,h0 r,fun _=>rfl,fun _ _ e=>e⟩) (by have:=Nat.le_of_ble_eq_true hsm.1;omega)
  (fun j v hj=>by
    rw[QRo]
    have hlt:=(QRq.1 hj).1
    simp only[QhR,Array.getD_eq_getD_getElem?]
    rw[Array.getElem?_append_left (by simpa using hlt)]
    simp[hj])
  (fun j v hj i=>by simp[Fix.start,hj])
 refine⟨F,G,q1.w0,q1.X,q1.R,q2,fun r b n hp=> ?_,q4⟩
 rcases q3 r b n hp with h|h
 ·exact h.elim
 ·exact h
theorem QJw {gg:Glob}{F:Fix}{fx:Fx}{ps:List PSig}(h:∀r b n,F.pb r b n->r∈Jk 0 ps) (hnp:fx.np=ps.length) (hfn:fx.fnp=ps.any PSig.QKj) (hgl:gg.gl F.w0) (hgb:∀b∈gg.gb,F.R b/\¬F.X b/\b<F.w0.heap.size):BoxIn gg F fx:=by
 refine⟨?_,hgl,hgb⟩
 intro r b n hp
 simp only[Fx.QpQ,QY32,Nat.blt_eq,QQ5,Nat.ble_eq,hnp,hfn]
 rcases Qtq ps 0 r (h r b n hp)with h|h
 ·omega
 ·exact .inr ⟨h.2,h.1⟩
end Go.Eng
namespace Go.Eng
open Go
set_option linter.unusedVariables false
theorem QT.chop {w:World}{R:Nat->Prop}:(ts:Tys)->(x:Qm ts)->(us:List Value)->(bl:List Nat)->QT w R true ts x us bl->∃bls:List (List Nat),bls.flatten=bl/\∀(j:Nat) (tv:TV) (u:Value),(unpack ts x)[j]? =some tv->us[j]? =some u->∃b,bls[j]? =some b/\Own w R true tv.t tv.v u b
 | .nil,x,us,bl,h=>⟨[],by rw[h.2];rfl,fun j tv u e=>by simp[unpack]at e⟩
 | .cons t ts,x,us,bl,⟨u,us',b1,b2,e1,e2,h1,h2⟩=>by
   obtain⟨bls,g1,g2⟩:=QT.chop ts (vtl x) us' b2 h2
   refine⟨b1::bls,by rw[e2,<-g1];rfl,fun j tv u' hj hu=> ?_⟩
   cases j with
   |zero=>
    rw[e1]at hu
    simp[unpack]at hj hu
    subst hj;subst hu
    exact⟨b1,rfl,h1⟩
   |succ j=>
    rw[e1]at hu
    exact g2 j tv u' (by simpa[unpack]using hj) (by simpa using hu)
def QaV (G:Gh) (w:World) (r k:Nat) (c:Con) (x:TV) (i:Int) (lo:Nat):Prop:=
 ∃(ts:Tys) (xs:List (Qm ts)) (g off n cap:Nat) (us:List Value) (bls:List (List Nat)),x=⟨.sl ts,xs⟩/\G.H r k c.id=some (.sl ts, .slice (some ⟨g,off,none⟩) n cap)/\
  (∀i' m' t u',G.HN r k c.id c.nv i' m'=some (t,u')->ZW w ⟨x,true, .slice (some ⟨g,off,none⟩) n cap,[]⟩ i' m' t u')/\Cells w ⟨g,off,none⟩ (i.toNat*ts.len) us/\us.length=ts.len/\
  (∀(j:Nat) (tv:TV) (u:Value),(unpack ts (rdx ts xs i))[j]? =some tv->us[j]? =some u->∃b,bls[j]? =some b/\Own w (fun _=>False) true tv.t tv.v u b)/\bls.flatten.Nodup/\
  ∀j b,lo<=j->bls[j]? =some b->∀q∈b,G.ow q= .key (.con r k)/\q<w.heap.size
def JF (ps:List (Nat×Nat)) (G:Gh) (w:World) (s:St):Prop:=∀r k x i m,(r,k)∈ps->(s.gC r k).st= .part x i m->QaV G w r k (s.gC r k) x i (m+1)
theorem QaV.drop {G:Gh}{w:World}{r k:Nat}{c c':Con}{x:TV}{i:Int}{lo lo':Nat}{q qk:Nat}{L:List Nat}(h:QaV G w r k c x i lo) (hid:c'.id=c.id) (hnv:c'.nv=c.nv) (hlo:lo<=lo')
 (hne:∀z∈L,G.ow z= .key (.con q qk)) (hrk:(r,k)≠(q,qk)):QaV (G.drop q qk L) w r k c' x i lo':=by
 obtain⟨ts,xs,g,off,n,cap,us,bls,e1,e2,e3,e4,e5,e6,e7,e8⟩:=h
 refine⟨ts,xs,g,off,n,cap,us,bls,e1,by rw[hid];exact e2,by rw[hid,hnv];exact e3,e4,e5,e6,e7,fun j b hj hb z hz=> ?_⟩
 obtain⟨g1,g2⟩:=e8 j b (by omega) hb z hz
 refine⟨?_,g2⟩
 show(if z∈L then Ow.free else G.ow z)=_
 rw[if_neg (fun hm=>by rw[hne z hm]at g1;cases g1;exact hrk rfl)]
 exact g1
theorem QaV.QMn {G:Gh}{w:World}{r k:Nat}{c:Con}{x:TV}{u:Value}{bl:List Nat}{i:Int}{R:Nat->Prop}(hH:G.H r k c.id=some (x.t,u)) (hN:∀i' m' t u',G.HN r k c.id c.nv i' m'=some (t,u')->ZW w ⟨x,true,u,bl⟩ i' m' t u') (hO:Own w R true x.t x.v u bl) (hnd:bl.Nodup)
 (hk:∀b∈bl,G.ow b= .key (.con r k)/\b<w.heap.size) {m:Nat}{t:Ty}{u':Value}(hn:ZW w ⟨x,true,u,bl⟩ i m t u'):QaV G w r k c x i 0:=by
 obtain⟨ts,g,off,n,cap,q1,q2,q3,q4,q5,q6,q7⟩:=hn
 obtain⟨xt,xv⟩:=x
 simp only at q1 q2 hH hO
 subst q1;subst q2
 rcases hO with⟨h1,h2,h3⟩|⟨g',off',cap',cur,e,bls',h1,h2,h3,h4,h5,h6,h7,h8⟩
 ·cases h2
 ·cases h1
  have hi:i.toNat<(vl xv).length:=by omega
  obtain⟨us,hc,hov⟩:=h8 i.toNat (rdx ts xv i) (bls'[i.toNat]'(by omega)) (Qea (vl xv) i hi) (by simp)
  obtain⟨bls,g1,g2⟩:=QT.chop ts _ us _ hov
  have hsub:(bls'[i.toNat]'(by omega)).Sublist bl:=by
   rw[h6]
   exact List.Sublist.cons _ (List.sublist_flatten_of_mem (QRf _))
  refine⟨ts,xv,g,off,_,cap,us,bls,rfl,hH,fun i' m' t u' h=> ?_,hc,(QT.len hov).1,fun j tv u hj hu=> ?_,by rw[g1];exact hnd.sublist hsub,fun j b _ hb z hz=>hk z (hsub.subset (by rw[<-g1];exact QY9.2 ⟨b,QY22 hb,hz⟩))⟩
  ·obtain⟨a1,a2,a3,a4,a5,b1,b2,b3⟩:=hN i' m' t u' h
   exact⟨a1,a2,a3,a4,a5,b1,b2,b3⟩
  ·obtain⟨b,k1,k2⟩:=g2 j tv u hj hu
   exact⟨b,k1,Own.yA _ _ _ _ k2⟩
theorem RelP.QPp {F:Fix}{pd:Nat->Nat->Prop}{G:Gh}{s:St}{a:Act}{w:World}(h:RelP F pd G s a w) {q qk:Nat}{c:CSt}{L:List Nat}(hnf:∀y,(s.gC q qk).st≠ .fix y) (hL:∀b∈L,G.ow b= .key (.con q qk)) (h1:∀x d t,c≠ .own x d t) (h2:∀p,c≠ .vw p)
 (h3:∀u,Xe G w q qk (mkC (s.gC q qk).id (s.gC q qk).nv c) u):
 RelP F pd (G.drop q qk L) (s.sC q qk (mkC (s.gC q qk).id (s.gC q qk).nv c)) a w/\G.le (G.drop q qk L):=by
 have hle:G.le (G.drop q qk L):=⟨fun _ _ _ _ h=>h,fun _ _ _ _ _ _ _ h=>h,fun _ _ _ h=>h,fun b hb=>by
  show(if b∈L then Ow.free else G.ow b)= .ro
  rw[if_neg (fun hm=>by rw[hL b hm]at hb;cases hb)];exact hb⟩
 refine⟨?_,hle⟩
 refine h.upd hle rfl (fun i=>rfl) (fun i=>rfl) (fun r' k'=>r'=q/\k'=qk) ?_ ?_ ?_ ?_ (fun _ _=>rfl) ?_ ?_ ?_ ?_ ?_
 ·intro r' k' hn
  refine⟨by rw[QP,if_neg (fun e=>hn ⟨e.1.symm,e.2.symm⟩)], ?_,fun _=>rfl,fun _ _ _ _=>rfl⟩
  exact if_neg (fun e=>by cases e;exact hn ⟨rfl,rfl⟩)
 ·rintro r' k' ⟨rfl,rfl⟩
  rw[QP,if_pos ⟨rfl,rfl⟩]
  refine⟨fun j hj=> ?_,fun j v i m hj=> ?_,fun x' deep' tag' hc'=> ?_,fun p hc'=> ?_⟩
  ·rw[Q1]at hj;exact(h.con _ _).freshH j hj
  ·rw[Q1,ZC]at hj;exact(h.con _ _).freshN j v i m hj
  ·rw[QD]at hc';exact(h1 _ _ _ hc').elim
  ·rw[QD]at hc';exact(h2 _ hc').elim
 ·rintro r' k' u ⟨rfl,rfl⟩ hk hp hb
  rw[QP,if_pos ⟨rfl,rfl⟩]
  exact(h3 u).mono hle
 ·rintro r' k' ⟨rfl,rfl⟩ hk ⟨y,hy⟩
  exact(hnf y hy).elim
 ·intro κ y hy
  have hy:(if κ= .con q qk then none else G.it κ)=some y:=hy
  by_cases n2:κ= .con q qk
  ·rw[if_pos n2]at hy;cases hy
  ·rw[if_neg n2]at hy
   refine(h.it κ y hy).give (fun b hb=>hle.ro b hb) (fun b hb=> ?_)
   have hk:=((h.it κ y hy).key b hb).1
   show(if b∈L then Ow.free else G.ow b)=_
   rw[if_neg (fun hm=>by rw[hL b hm]at hk;cases hk;exact n2 rfl)]
   exact hk
 ·intro b hb
  refine h.lt b (fun e=>hb (Qmw e))
 ·intro b κ hb hlt
  exact h.own b κ (QpL hb) hlt
 ·intro b hb hlt
  have hb:(if b∈L then Ow.free else G.ow b)= .ro:=hb
  split at hb
  ·cases hb
  ·exact h.ro b hb hlt
 ·intro b r' hb
  show(if b∈L then Ow.free else G.ow b)=_
  rw[if_neg (fun hm=>by rw[hL b hm]at hb;cases hb)]
  exact hb
theorem JF.drop {ps ps':List (Nat×Nat)}{G:Gh}{w:World}{s:St}{q qk:Nat}{c:Con}{L:List Nat}(h:JF ps G w s) (hps:∀z∈ps',z∈ps\/z=(q,qk)) (hL:∀b∈L,G.ow b= .key (.con q qk)) (hc:∀x i m,c.st= .part x i m->QaV (G.drop q qk L) w q qk c x i (m+1)):JF ps' (G.drop q qk L) w (s.sC q qk c):=by
 intro r k x i m hm hst
 rw[QP]at hst⊢
 split
 ·rename_i e
  obtain⟨rfl,rfl⟩:=e
  rw[if_pos ⟨rfl,rfl⟩]at hst
  exact hc x i m hst
 ·rename_i e
  rw[if_neg e]at hst
  refine(h r k x i m ?_ hst).drop rfl rfl (QY2 _) hL (fun e2=>by cases e2;exact e ⟨rfl,rfl⟩)
  rcases hps _ hm with h|h
  ·exact h
  ·cases h;exact(e ⟨rfl,rfl⟩).elim
theorem Stk.take {F:Fix}{pd:Nat->Nat->Prop}{G:Gh}{s:St}{a:Act}{w:World}(h:RelP F pd G s a w) {D L:List Nat}(hk:Stk F G w D) {q qk:Nat}(hL:∀b∈L,G.ow b= .key (.con q qk)) (hnd:L.Nodup):Stk F (G.drop q qk L) w (D++L):=by
 refine⟨?_,fun b hb=> ?_⟩
 ·rw[QRi]
  exact⟨hk.1,hnd,fun b hb c hc e=>by have:=hL c hc;rw[<-e,(hk.2 b hb).1]at this;cases this⟩
 ·rcases QRh.1 hb with hb|hb
  ·exact⟨Qmw (hk.2 b hb).1,(hk.2 b hb).2⟩
  ·exact⟨if_pos hb,h.lt b (by rw[hL b hb];simp),h.own b _ (hL b hb)⟩
theorem QIo {bls:List (List Nat)}(h:bls.flatten.Nodup) {i j:Nat}{a b:List Nat}(hi:bls[i]? =some a) (hj:bls[j]? =some b) (hne:i<j):∀z∈a,z∉b:=by
 have h2:=(List.pairwise_flatten.1 h).2
 obtain⟨h3,h4⟩:=QRq.1 hi
 obtain⟨h5,h6⟩:=QRq.1 hj
 have:=List.pairwise_iff_getElem.1 h2 i j h3 h5 hne
 rw[h4,h6]at this
 exact fun z hz hz'=>this z hz z hz' rfl
theorem QaV.pull {G:Gh}{w:World}{q qk:Nat}{c:Con}{x y:TV}{i:Int}{lo j:Nat}{t:Ty}{u:Value}(h:QaV G w q qk c x i lo) (hn:G.HN q qk c.id c.nv i j=some (t,u)) (hy:Zm x i j=some y) (hlo:lo<=j):
 y.t=t/\∃b,Own w (fun _=>False) true y.t y.v u b/\b.Nodup/\(∀z∈b,G.ow z= .key (.con q qk))/\∀c':Con,c'.id=c.id->c'.nv=c.nv->QaV (G.drop q qk b) w q qk c' x i (j+1):=by
 obtain⟨ts,xs,g,off,n,cap,us,bls,e1,e2,e3,e4,e5,e6,e7,e8⟩:=h
 subst e1
 obtain⟨ts',g',off',n',cap',k1,k2,k3,k4,k5,k6,k7⟩:=e3 i j t u hn
 cases k1;cases k2
 have hyy:(unpack ts (rdx ts xs i))[j]? =some y:=hy
 have ht:=VM _ _ _ _ hyy
 rw[k5]at ht;cases ht
 have hj:j<us.length:=by rw[e5];exact Tys.QoA _ _ _ k5
 have hu:us[j]=u:=by
  have:=e4 j us[j] (by simp[hj])
  rw[add_plain,k7]at this
  exact(QY10 this).symm
 obtain⟨b,hb,ho⟩:=e6 j y u hyy (by rw[<-hu];simp[hj])
 have hnb:b.Nodup:=(List.pairwise_flatten.1 e7).1 b (QY22 hb)
 refine⟨rfl,b,ho,hnb,fun z hz=>(e8 j b hlo hb z hz).1,fun c' h1 h2=> ?_⟩
 refine⟨ts,xs,g,off,n,cap,us,bls,rfl,by rw[h1];exact e2,by rw[h1,h2];exact e3,e4,e5,e6,e7,fun j' b' hj' hb' z hz=> ?_⟩
 obtain⟨g1,g2⟩:=e8 j' b' (by omega) hb' z hz
 refine⟨?_,g2⟩
 show(if z∈b then Ow.free else G.ow z)=_
 rw[if_neg (fun hm=>QIo e7 hb hb' (by omega) z hm hz)]
 exact g1
theorem QLJ {t t':Ty}{u u':Value}{l k:Int}(h:vI t u l k=some (t',u')):t=t':=by
 unfold vI at h
 split at h
 ·split at h
  ·cases h;rfl
  ·cases h
 ·cases h
theorem Rep.QHn {w:World}{t:Ty}(h:QN t=false) {v:Val t}{u:Value}{b:List Nat}(hr:Rep w t v u b):b=[]:=by
 cases t with
 |sl ts=>simp[QN]at h
 |_=>exact hr.2
section
variable {γ:Type}
theorem QJ7 {F:Fix}{G:Gh}{s:St}{a:Act}{w:World}(h:Rel F G s a w) {ps:List (Nat×Nat)}(hp:JF ps G w s) {m:Mode}{t:Ty}{v:VC}{u:Value}{D:List Nat}(hv:VCR G w v u) (hk:Stk F G w D):
 Sat (QGx ps m t v:M γ (Val t×List (Nat×Nat))) s fun x s'=>Qp s s'/\∃G' bl,G.le G'/\Rel F G' s' a w/\JF x.2 G' w s'/\V7 w (fun b=>G'.ow b= .ro) m t ⟨t,x.1⟩ u bl/\Stk F G' w (D++bl)/\(∀b,(∃r k,G'.ow b= .key (.con r k))->∃r k,G.ow b= .key (.con r k)):=by
 unfold QGx
 have plain:QN t=false->Sat (do let y<-QdR t v;pure (y,ps):M γ (Val t×List (Nat×Nat))) s fun x s'=>Qp s s'/\∃G' bl,G.le G'/\Rel F G' s' a w/\JF x.2 G' w s'/\V7 w (fun b=>G'.ow b= .ro) m t ⟨t,x.1⟩ u bl/\Stk F G' w (D++bl)/\(∀b,(∃r k,G'.ow b= .key (.con r k))->∃r k,G.ow b= .key (.con r k)):=by
  intro hns
  have htk:takes m t=false:=by simp[takes,hns]
  refine Sat.bind (Qlj h t v u hv) ?_
  rintro x s' ⟨rfl,b,h1⟩
  have:=Rep.QHn hns h1
  subst this
  exact Sat.pure ⟨Qp.refl _,G,[],Gh.le.refl G,h,hp,⟨rfl,by rw[htk];exact⟨rfl,[],h1,by simp⟩⟩,by simpa using hk,fun _ e=>e⟩
 by_cases hsl:QN t=true
 ·rw[if_pos hsl]
  by_cases hro:m.QX=true
  ·have htk:takes m t=false:=by simp[takes,hro]
   cases m<;>simp[Mode.QX]at hro
   cases v with
   |ro x=>
    refine Sat.bind (Sat.ofO (Φ:=fun y s2=>s2=s/\x.as t=some y) fun y hy=>⟨rfl,hy⟩) ?_
    rintro y s2 ⟨rfl,hy⟩
    have:=Zt hy
    obtain⟨b,h1,h2⟩:=hv
    subst this
    exact Sat.pure ⟨Qp.refl _,G,[],Gh.le.refl G,h,hp,⟨rfl,by rw[htk];exact⟨rfl,b,h1,h2⟩⟩,by simpa using hk,fun _ e=>e⟩
   |vw p=>
    show Sat (if ps.isEmpty=true then(do let x<-JD p;let y<-ofO (x.1.as t);pure (y,[]))else Qq:M γ (Val t×List (Nat×Nat))) s _
    split
    ·rename_i hps
     obtain⟨t',hph,_⟩:=hv
     refine Sat.bind (QjM h hph) ?_
     rintro⟨x,deep,tag⟩ s1 ⟨k,G1,bl,l,r,hh,ht,_,hk',hfr,hmk,hbx⟩
     obtain⟨f1,f2,f3⟩:=r.freeze hh
     refine Sat.bind (Sat.ofO (Φ:=fun y s2=>s2=s1/\x.as t=some y) fun y hy=>⟨rfl,hy⟩) ?_
     rintro y s2 ⟨rfl,hy⟩
     have:=Zt hy
     obtain⟨b,h1,h2⟩:=f3
     subst this
     refine Sat.pure ⟨k,G1.freeze bl,[],l.trans f2,f1,fun _ _ _ _ _ hm=>by simp at hm,⟨rfl,by rw[htk];exact⟨rfl,b,h1,h2⟩⟩,⟨by simpa using hk.1,fun c hc=> ?_⟩,fun c ⟨r',k',hc⟩=> ?_⟩
     ·have hc:c∈D:=by simpa using hc
      obtain⟨g1,g2⟩:=hk.2 c hc
      refine⟨xm (fun hm=> ?_) (hfr c g1),g2⟩
      obtain⟨r',k',e⟩:=hk' c hm
      rw[g1]at e;cases e
     ·have hc:(if c∈bl then Ow.ro else G1.ow c)= .key (.con r' k'):=hc
      split at hc
      ·cases hc
      ·exact⟨r',k',hmk c _ hc⟩
    ·exact Sat.fail
   |_=>exact Sat.fail
  ·have hro:m.QX=false:=by simpa using hro
   have htk:takes m t=true:=by simp[takes,hsl,hro]
   have main:m≠ .top->∀p,v= .vw p->Sat (do
    let(q,c)<-J3 p
    match c.st,q.nest with
    | .own x true _,none=>do
      wC q.r q.k (mkC c.id c.nv .dead)
      let z<-ofO (Yq x q.rng)
      let y<-ofO (z.as t)
      pure (y,ps)
    | .own x true _,some (i,j)=>do
      wC q.r q.k (mkC c.id c.nv (.part x i j))
      let y<-ofO (Zm x i j)
      let z<-ofO (Yq y q.rng)
      let y<-ofO (z.as t)
      pure (y,(q.r,q.k)::ps)
    | .part x i' j',some (i,j)=>
      if ps.any fun z=>z.1==q.r&&z.2==q.k then do
       chk (decide (i=i')&&Nat.blt j' j)
       wC q.r q.k (mkC c.id c.nv (.part x i j))
       let y<-ofO (Zm x i j)
       let z<-ofO (Yq y q.rng)
       let y<-ofO (z.as t)
       pure (y,ps)
      else Qq
    |_,_=>Qq:M γ (Val t×List (Nat×Nat))) s fun x s'=>Qp s s'/\∃G' bl,G.le G'/\Rel F G' s' a w/\JF x.2 G' w s'/\V7 w (fun b=>G'.ow b= .ro) m t ⟨t,x.1⟩ u bl/\Stk F G' w (D++bl)/\(∀b,(∃r k,G'.ow b= .key (.con r k))->∃r k,G.ow b= .key (.con r k)):=by
    rintro hmt p rfl
    obtain⟨t',hph,_⟩:=hv
    refine Sat.bind (Kr h hph) ?_
    rintro⟨q,c⟩ s' ⟨e1,e2,e3,e4,e5⟩
    subst e1
    simp only at e2 e3 e4 e5
    dsimp only
    have fin:∀(ps':List (Nat×Nat)) (y:TV) (ub:Value) (bl:List Nat) (st:CSt),(∀z∈ps',z∈ps\/z=(q.r,q.k))->G.base q=some (y.t,ub)->Own w (fun _=>False) true y.t y.v ub bl->bl.Nodup->(∀z∈bl,G.ow z= .key (.con q.r q.k))->(∀y,(s'.gC q.r q.k).st≠ .fix y)->(∀x d t,st≠ .own x d t)->(∀p,st≠ .vw p)->
     (∀u,Xe G w q.r q.k (mkC c.id c.nv st) u)->(∀x i m,st= .part x i m->QaV (G.drop q.r q.k bl) w q.r q.k (mkC c.id c.nv st) x i (m+1))->
     Sat (do let z<-ofO (Yq y q.rng);let y<-ofO (z.as t);pure (y,ps'):M γ (Val t×List (Nat×Nat))) (s'.sC q.r q.k (mkC c.id c.nv st)) fun x s2=>Qp s' s2/\∃G' bl,G.le G'/\Rel F G' s2 a w/\JF x.2 G' w s2/\V7 w (fun b=>G'.ow b= .ro) m t ⟨t,x.1⟩ u bl/\Stk F G' w (D++bl)/\(∀b,(∃r k,G'.ow b= .key (.con r k))->∃r k,G.ow b= .key (.con r k)):=by
     intro ps' y ub bl st hps hb ho hnd hkey hnf n1 n2 n3 n4
     refine Sat.bind (Sat.ofO (Φ:=fun z s2=>s2=s'.sC q.r q.k (mkC c.id c.nv st)/\Yq y q.rng=some z) (fun z hz=>⟨rfl,hz⟩)) ?_
     rintro z s2 ⟨rfl,hz⟩
     refine Sat.bind (Sat.ofO (Φ:=fun x s2=>s2=s'.sC q.r q.k (mkC c.id c.nv st)/\z.as t=some x) fun x hx=>⟨rfl,hx⟩) ?_
     rintro x s2 ⟨rfl,hx⟩
     have hzt:=Zt hx
     subst hzt
     have hyt:=QEH hz
     simp only at hyt
     have hrp:Jj y.t ub q.rng=some (y.t,u):=by
      unfold Gh.PH at e5
      cases hr:q.rng with
      |none=>rw[hr]at e5;simp only[Jj]at e5⊢; rw[hb]at e5;cases e5;rfl
      |some lk=>
       rw[hr]at e5;simp only[Jj]at e5⊢; rw[hb]at e5
       have e5:vI y.t ub lk.1 lk.2=some (t',u):=e5
       rw[e5,QLJ e5]
     obtain⟨bl',o1,o2⟩:=Yr.rng (deep:=true) (z:=y) (R:=fun _=>False) ho hz hrp
     have hkey':∀z∈bl',G.ow z= .key (.con q.r q.k):=fun z hz=>hkey z (o2.subset hz)
     rw[e2]at n3 n4⊢
     obtain⟨r1,r2⟩:=h.QPp (L:=bl) hnf hkey n1 n2 n3
     have hst:=Stk.take h hk hkey hnd
     refine Sat.pure ⟨Qp.sC _ _ _ _,G.drop q.r q.k bl,bl',r2,r1,hp.drop hps hkey (fun x i m e=>n4 x i m (by rw[QD]at e;exact e)),⟨rfl,by rw[htk];cases m<;>first|exact o1|exact(hmt rfl).elim⟩,hst.sub (List.Sublist.append_left o2 _),fun b ⟨r,k,hb⟩=>⟨r,k,QpL hb⟩⟩
    split
    ·rename_i x tag hst hn
     rw[e2]at hst
     obtain⟨uX,blX,k1,k2,k3,k4⟩:=(h.con q.r q.k).own x true tag hst
     have hi:=h.it _ _ k1
     refine Sat.bind (Sat.wC (Φ:=fun _ s2=>s2=s'.sC q.r q.k (mkC c.id c.nv .dead)) rfl) ?_
     rintro _ s2 rfl
     exact fin ps x uX blX .dead (fun z hz=> .inl hz) (by unfold Gh.base;rw[hn];simp only;rw[<-e3,e2];exact k2) (Own.yA _ _ _ _ hi.own) hi.nodup (fun z hz=>(hi.key z hz).1) (fun y hy=>by rw[hst]at hy;cases hy) (fun _ _ _ e=>by cases e) (fun _ e=>by cases e) (fun u=>by unfold Xe;rw[QD];trivial) (fun _ _ _ e=>by cases e)
    ·rename_i x tag i j hst hn
     rw[e2]at hst
     obtain⟨uX,blX,k1,k2,k3,k4⟩:=(h.con q.r q.k).own x true tag hst
     have hi:=h.it _ _ k1
     refine Sat.bind (Sat.wC (Φ:=fun _ s2=>s2=s'.sC q.r q.k (mkC c.id c.nv (.part x i j))) rfl) ?_
     rintro _ s2 rfl
     refine Sat.bind (Sat.ofO (Φ:=fun y s3=>s3=s'.sC q.r q.k (mkC c.id c.nv (.part x i j))/\Zm x i j=some y) (fun y hy=>⟨rfl,hy⟩)) ?_
     rintro y s3 ⟨rfl,hy⟩
     have hbase:∃tb ub,G.base q=some (tb,ub):=by
      unfold Gh.PH at e5
      cases hr:q.rng with
      |none=>rw[hr]at e5;exact⟨_,_,e5⟩
      |some lk=>
       rw[hr]at e5
       cases hb:G.base q with
       |none=>rw[hb]at e5;cases e5
       |some z=>exact⟨z.1,z.2,rfl⟩
     obtain⟨tb,ub,hb⟩:=hbase
     have hHN:G.HN q.r q.k (s'.gC q.r q.k).id (s'.gC q.r q.k).nv i j=some (tb,ub):=by
      have:=hb;unfold Gh.base at this;rw[hn]at this;simp only at this
      rw[<-e2,e3,e4 (by rw[hn];rfl)];exact this
     have hpr:=QaV.QMn k2 k3 hi.own hi.nodup hi.key (k3 _ _ _ _ hHN)
     obtain⟨rfl,b,p1,p2,p3,p4⟩:=hpr.pull hHN hy (Nat.zero_le _)
     exact fin _ y ub b (.part x i j) (fun z hz=>by rcases QRk.1 hz with h|h;exact .inr h;exact .inl h) hb p1 p2 p3 (fun y hy=>by rw[hst]at hy;cases hy) (fun _ _ _ e=>by cases e) (fun _ e=>by cases e) (fun u=>by unfold Xe;rw[QD];trivial) (fun x' i' m' e=>by cases e;exact p4 _ (by rw[Q1,e2]) (by rw[ZC,e2]))
    ·rename_i x i' j' i j hst hn
     rw[e2]at hst
     split
     rotate_left
     ·exact Sat.fail
     rename_i hmem
     have hmem:(q.r,q.k)∈ps:=by
      rw[QY27]at hmem
      obtain⟨z,hz,hq⟩:=hmem
      simp only[QQ5,beq_iff_eq]at hq
      rw[<-hq.1,<-hq.2];exact hz
     refine Sat.bind (Sat.chk (Φ:=fun _ s2=>s2=s'/\i=i'/\j'<j) (fun hc=>by simp only[QQ5,QRu,Nat.blt_eq]at hc;exact⟨rfl,hc⟩)) ?_
     rintro _ s2 ⟨rfl,rfl,hj⟩
     refine Sat.bind (Sat.wC (Φ:=fun _ s3=>s3=s2.sC q.r q.k (mkC c.id c.nv (.part x i j))) rfl) ?_
     rintro _ s3 rfl
     refine Sat.bind (Sat.ofO (Φ:=fun y s3=>s3=s2.sC q.r q.k (mkC c.id c.nv (.part x i j))/\Zm x i j=some y) (fun y hy=>⟨rfl,hy⟩)) ?_
     rintro y s3 ⟨rfl,hy⟩
     have hbase:∃tb ub,G.base q=some (tb,ub):=by
      unfold Gh.PH at e5
      cases hr:q.rng with
      |none=>rw[hr]at e5;exact⟨_,_,e5⟩
      |some lk=>
       rw[hr]at e5
       cases hb:G.base q with
       |none=>rw[hb]at e5;cases e5
       |some z=>exact⟨z.1,z.2,rfl⟩
     obtain⟨tb,ub,hb⟩:=hbase
     have hHN:G.HN q.r q.k (s2.gC q.r q.k).id (s2.gC q.r q.k).nv i j=some (tb,ub):=by
      have:=hb;unfold Gh.base at this;rw[hn]at this;simp only at this
      rw[<-e2,e3,e4 (by rw[hn];rfl)];exact this
     have hpr:=hp q.r q.k x i j' hmem hst
     obtain⟨rfl,b,p1,p2,p3,p4⟩:=hpr.pull hHN hy hj
     exact fin ps y ub b (.part x i j) (fun z hz=> .inl hz) hb p1 p2 p3 (fun y hy=>by rw[hst]at hy;cases hy) (fun _ _ _ e=>by cases e) (fun _ e=>by cases e) (fun u=>by unfold Xe;rw[QD];trivial) (fun x' i' m' e=>by cases e;exact p4 _ (by rw[Q1,e2]) (by rw[ZC,e2]))
    ·exact Sat.fail
   cases v with
   |vw p=>
    have top:m= .top->Sat (if ps.isEmpty then(do let x<-JD p;let y<-ofO (x.1.as t);pure (y,[]))else Qq:M γ (Val t×List (Nat×Nat))) s fun x s'=>Qp s s'/\∃G' bl,G.le G'/\Rel F G' s' a w/\JF x.2 G' w s'/\V7 w (fun b=>G'.ow b= .ro) m t ⟨t,x.1⟩ u bl/\Stk F G' w (D++bl)/\(∀b,(∃r k,G'.ow b= .key (.con r k))->∃r k,G.ow b= .key (.con r k)):=by
     rintro rfl
     split
     ·obtain⟨t',hph,_⟩:=hv
      refine Sat.bind (QjM h hph) ?_
      rintro⟨x,deep,tag⟩ s1 ⟨k,G1,bl,l,r,hh,ht,_,hk',hfr,hmk,hbx⟩
      refine Sat.bind (Sat.ofO (Φ:=fun y s2=>s2=s1/\x.as t=some y) fun y hy=>⟨rfl,hy⟩) ?_
      rintro y s2 ⟨rfl,hy⟩
      have:=Zt hy
      subst this
      have hs:∃G2 bl2,G1.le G2/\Rel F G2 s2 a w/\Held F G2 w ⟨⟨t,y⟩,false,u,bl2⟩/\(∀b∈bl2,b∈bl)/\(∀b,G1.ow b= .free->b∉bl->G2.ow b= .free)/\(∀b κ,G2.ow b= .key κ->G1.ow b= .key κ):=by
       cases deep with
       |false=>exact⟨G1,bl,Gh.le.refl _,r,hh,fun _ h=>h,fun _ h _=>h,fun _ _ h=>h⟩
       |true=>
        cases t with
        |sl ts=>
         obtain⟨L,bl',r2,l2,hh2,h3,h4⟩:=hh.shallow r
         refine⟨G1.freeze L,bl',l2,r2,hh2,h3,fun b hb hn=>xm (fun hm=>hn (h4 b hm)) hb,fun b κ hb=> ?_⟩
         have hb:(if b∈L then Ow.ro else G1.ow b)= .key κ:=hb
         split at hb
         ·cases hb
         ·exact hb
        |_=>simp[QN]at hsl
      obtain⟨G2,bl2,l2,r2,hh2,hsub,hfr2,hmk2⟩:=hs
      have hdis:∀c∈D,c∉bl:=fun c hc hm=>by
       obtain⟨r',k',e⟩:=hk' c hm
       rw[(hk.2 c hc).1]at e;cases e
      refine Sat.pure ⟨k,G2,bl2,l.trans l2,r2,fun _ _ _ _ _ hm=>by simp at hm,⟨rfl,by rw[htk];exact hh2.own⟩,⟨?_,fun c hc=> ?_⟩,fun c ⟨r',k',hc⟩=>⟨r',k',hmk c _ (hmk2 c _ hc)⟩⟩
      ·rw[QRi]
       exact⟨hk.1,hh2.nodup,fun c hc c' hc' e=>hdis c hc (by rw[e];exact hsub c' hc')⟩
      ·rcases QRh.1 hc with hc|hc
       ·obtain⟨g1,g2⟩:=hk.2 c hc
        exact⟨hfr2 c (hfr c g1) (hdis c hc),g2⟩
       ·exact hh2.free c hc
     ·exact Sat.fail
    cases m<;>first|(simp [Mode.QX]at hro;done)|exact top rfl|exact main (by simp) p rfl
   |nilS=>
    have nil_:Sat (do let y<-QdR t .nilS;pure (y,ps):M γ (Val t×List (Nat×Nat))) s fun x s'=>Qp s s'/\∃G' bl,G.le G'/\Rel F G' s' a w/\JF x.2 G' w s'/\V7 w (fun b=>G'.ow b= .ro) m t ⟨t,x.1⟩ u bl/\Stk F G' w (D++bl)/\(∀b,(∃r k,G'.ow b= .key (.con r k))->∃r k,G.ow b= .key (.con r k)):=by
     cases t with
     |sl ts=>exact Sat.pure ⟨Qp.refl _,G,[],Gh.le.refl G,h,hp,⟨rfl,by rw[htk];exact .inl ⟨rfl,hv,rfl⟩⟩,by simpa using hk,fun _ e=>e⟩
     |_=>exact Sat.fail
    cases m<;>first|(simp [Mode.QX]at hro;done)|exact nil_
   |_=>cases m<;>first|(simp [Mode.QX]at hro;done)|exact Sat.fail
 ·rw[if_neg hsl]
  exact plain (by simpa using hsl)
end
def Gh.Qgu (G:Gh) (b:Nat):Gh:= {G with ow:=fun c=>if c=b then .free else G.ow c}
theorem RelP.Qgu {F:Fix}{G:Gh}{s:St}{a:Act}{w:World}(h:Rel F G s a w) {r b:Nat}(hb:G.GB r (s.gB r).1=some b) (hk:G.ow b= .key (.box r)) (hpb:∀b n,¬F.pb r b n):
 Rel F (G.Qgu b) (s.sB r ((s.gB r).1+1,0)) a w/\G.le (G.Qgu b):=by
 have hle:G.le (G.Qgu b):=⟨fun _ _ _ _ h=>h,fun _ _ _ _ _ _ _ h=>h,fun _ _ _ h=>h,fun c hc=>by
  show(if c=b then Ow.free else G.ow c)= .ro
  rw[if_neg (fun e=>by rw[e,hk]at hc;cases hc)];exact hc⟩
 have how:∀c,c≠b->(G.Qgu b).ow c=G.ow c:=fun c hb=>if_neg hb
 have hkey:∀c κ,(G.Qgu b).ow c= .key κ->c≠b/\G.ow c= .key κ:=fun c κ hc=>by
  by_cases e:c=b
  ·rw[e]at hc;have:(if b=b then Ow.free else G.ow b)= .key κ:=hc;rw[if_pos rfl]at this;cases this
  ·rw[how c e]at hc;exact⟨e,hc⟩
 have hother:∀c r',r'≠r->G.ow c= .key (.box r')->(G.Qgu b).ow c= .key (.box r'):=fun c r' hr hc=>by
  rw[how c (fun e=>by rw[e,hk]at hc;cases hc;exact hr rfl)];exact hc
 refine⟨?_,hle⟩
 constructor
 ·exact h.size
 ·exact h.defers
 ·intro i;exact QK.mono hle (fun b hb=>rfl) (h.tm i)
 ·intro r k;exact(h.con r k).mono hle rfl (fun _=>rfl) (fun _ _ _ _=>rfl)
 ·intro r'
  refine⟨fun j hj=> ?_,fun hl=> ?_⟩
  ·rw[Vg]at hj
   split at hj
   ·rename_i e2;subst e2
    exact(h.box r).fresh _ (by simp only at hj;omega)
   ·exact(h.box r').fresh _ hj
  ·rw[Vg]at hl⊢
   split
   ·rename_i e2;rw[if_pos e2]at hl;exact(hl rfl).elim
   ·rename_i hne2
    rw[if_neg hne2]at hl
    obtain⟨c,cur,e',k1,k2,k3,k4,k5⟩:=(h.box r').live hl
    refine⟨c,cur,e',k1,hother c r' (fun e=>hne2 e.symm) k2,k3,k4,fun k hk=> ?_⟩
    obtain⟨u,m1,m2,m3,m4⟩:=k5 k hk
    exact⟨u,m1,m2,fun hn=>(m3 hn).mono hle,m4⟩
 ·intro κ x hx
  have hi:=h.it κ x hx
  refine hi.give (fun b hb=>hle.ro b hb) (fun c hb=> ?_)
  obtain⟨r2,k2,hc⟩:=hi.con
  have hk':=(hi.key c hb).1
  rw[how c (fun e=>by rw[e,hk,hc]at hk';cases hk')]
  exact hk'
 ·intro c hc
  exact h.lt c (fun e=>hc (by
   show(if c=b then Ow.free else G.ow c)=_
   split
   ·rfl
   ·exact e))
 ·intro c κ hc hl;exact h.own c κ (hkey c κ hc).2 hl
 ·intro c hc hl
  by_cases e2:c=b
  ·rw[e2]at hc
   have:(if b=b then Ow.free else G.ow b)= .ro:=hc
   rw[if_pos rfl]at this;cases this
  ·rw[how c e2]at hc;exact h.ro c hc hl
 ·intro c hc;exact hle.ro c (h.roR c hc)
 ·exact h.grow
 ·exact h.lock
 ·exact h.lockow
 ·intro r' c n hp
  have hne:r'≠r:=fun e=>hpb c n (e▸hp)
  obtain⟨q1,q2,q3⟩:=h.pbox r' c n hp
  exact⟨by rw[Vg,if_neg (fun e=>hne e.symm)];exact q1,q2,hother c r' hne q3⟩
section
variable {γ:Type}
theorem Qmx {F:Fix}{a:Act}{w:World}:(cs:List (Mode×Ty))->(vs:List VC)->(us:List Value)->(G:Gh)->(s:St)->(D:List Nat)->(ps:List (Nat×Nat))->Rel F G s a w->JF ps G w s->VCs G w vs us->Stk F G w D->
 Sat (Qsu ps cs vs:M γ (List TV×List (Nat×Nat))) s fun xs s'=>Qp s s'/\∃G' bls,G.le G'/\Rel F G' s' a w/\JF xs.2 G' w s'/\Xc w (fun b=>G'.ow b= .ro) cs xs.1 us bls/\Stk F G' w (D++bls.flatten)
 | [],[],us,G,s,D,ps,h,hp,hv,hk=>by
   cases hv
   exact Sat.pure ⟨Qp.refl s,G,[],Gh.le.refl G,h,hp,⟨rfl,rfl,rfl⟩,by simpa using hk⟩
 | [],_::_,us,G,s,D,ps,h,hp,hv,hk=>Sat.fail
 |(m,t)::cs,[],us,G,s,D,ps,h,hp,hv,hk=>by cases m<;>exact Sat.fail
 |(m,t)::cs,v::vs,us,G,s,D,ps,h,hp,⟨u,us',e,hv,hvs⟩,hk=>by
  subst e
  have one:m≠ .junk->Sat (do let a<-QGx ps m t v;let r<-Qsu a.2 cs vs;pure (⟨t,a.1⟩::r.1,r.2):M γ (List TV×List (Nat×Nat))) s fun xs s'=>Qp s s'/\∃G' bls,G.le G'/\Rel F G' s' a w/\JF xs.2 G' w s'/\Xc w (fun b=>G'.ow b= .ro) ((m,t)::cs) xs.1 (u::us') bls/\Stk F G' w (D++bls.flatten):=by
   intro hj
   refine Sat.bind (QJ7 h hp hv hk) ?_
   rintro⟨x,ps1⟩ s1 ⟨k1,G1,bl,l1,r1,p1,o1,st1,_⟩
   refine Sat.bind (Qmx cs vs us' G1 s1 (D++bl) ps1 r1 p1 (VCs.mono l1 (fun _ _=>rfl) _ _ hvs) st1) ?_
   rintro⟨xs,ps2⟩ s2 ⟨k2,G2,bls,l2,r2,p2,o2,st2⟩
   refine Sat.pure ⟨k1.trans k2,G2,bl::bls,l1.trans l2,r2,p2, ?_,by rw[QRr,<-QRc];exact st2⟩
   have hco:V7 w (fun b=>G2.ow b= .ro) m t ⟨t,x⟩ u bl:=by
    obtain⟨q1,q2⟩:=o1
    refine⟨q1, ?_⟩
    split at q2
    ·rename_i htk;rw[if_pos htk];exact Own.mono (fun b hb=>by cases m<;>first|exact hb|exact l2.ro b hb) _ _ _ _ q2
    ·rename_i htk;rw[if_neg htk];obtain⟨q3,b',q4,q5⟩:=q2;exact⟨q3,b',q4,fun c hc=>l2.ro c (q5 c hc)⟩
   cases m<;>first|(exact(hj rfl).elim)|exact⟨_,xs,u,us',bl,bls,rfl,rfl,rfl,hco,o2⟩
  cases m with
  |junk=>
   refine(Qmx cs vs us' G s D ps h hp hvs hk).mono ?_
   rintro⟨xs,ps2⟩ s' ⟨k2,G2,bls,l2,r2,p2,o2,st2⟩
   exact⟨k2,G2,bls,l2,r2,p2,⟨u,us',rfl,VCR.one hv,o2⟩,st2⟩
  |_=>exact one (by simp)
theorem JF.keep {ps:List (Nat×Nat)}{G G':Gh}{w:World}{s s':St}(h:JF ps G w s) (hc:∀r k,s'.gC r k=s.gC r k) (hH:G'.H=G.H) (hN:G'.HN=G.HN) (ho:∀b r k,G.ow b= .key (.con r k)->G'.ow b= .key (.con r k)):JF ps G' w s':=by
 intro r k x i m hm hst
 rw[hc]at hst⊢
 obtain⟨ts,xs,g,off,n,cap,us,bls,e1,e2,e3,e4,e5,e6,e7,e8⟩:=h r k x i m hm hst
 exact⟨ts,xs,g,off,n,cap,us,bls,e1,by rw[hH];exact e2,by rw[hN];exact e3,e4,e5,e6,e7,fun j b hj hb z hz=>⟨ho z r k (e8 j b hj hb z hz).1,(e8 j b hj hb z hz).2⟩⟩
def vC (G:Gh) (w:World):List Cell->List Value->Prop
 | [],vs=>vs=[]
 |c::cs,vs=>∃v vs',vs=v::vs'/\QK G w c v/\vC G w cs vs'
theorem vC.mono {G G':Gh}{w:World}(le:G.le G'):(cs:List Cell)->(vs:List Value)->vC G w cs vs->vC G' w cs vs
 | [],_,h=>h
 |c::cs,_,⟨v,vs',e,h1,h2⟩=>⟨v,vs',e,QK.mono le (fun _ _=>rfl) h1,vC.mono le cs vs' h2⟩
theorem QrW {F:Fix}{a:Act}{w:World}{gg:Glob}{fx:Fx}(hin:BoxIn gg F fx):(ps:List PSig)->(cs:List Cell)->(vs:List Value)->(G:Gh)->(s:St)->(D:List Nat)->(pl:List (Nat×Nat))->Rel F G s a w->JF pl G w s->vC G w cs vs->Stk F G w D->
 Sat (Qso fx pl ps cs:M γ (List TV)) s fun xs s'=>(s'.n=s.n/\s'.tm=s.tm/\∀r,fx.QpQ r=true->s'.gB r=s.gB r)/\∃G' bs bls,G.le G'/\Rel F G' s' a w/\Kt w (fun b=>G'.ow b= .ro) ps xs vs bs bls/\Stk F G' w (D++(bs++bls.flatten))
 | [],[],vs,G,s,D,pl,h,hp,hv,hk=>by
   cases hv
   exact Sat.pure ⟨⟨rfl,rfl,fun _ _=>rfl⟩,G,[],[],Gh.le.refl G,h,⟨rfl,rfl,rfl,rfl⟩,by simpa using hk⟩
 | [],_::_,vs,G,s,D,pl,h,hp,hv,hk=>Sat.fail
 | .val ag cs::ps,c::rs,vs,G,s,D,pl,h,hp,⟨v,vs',e,hv,hvs⟩,hk=>by
   subst e
   cases c with
   |val ag' ws=>
    unfold Qso
    split
    ·rename_i hag
     have hag:ag=ag':=by simpa using hag
     subst hag
     obtain⟨us,hsh,hw⟩:∃us,(if ag then v= .agg us.toArray else us=[v])/\VCs G w ws us:=by
      have hv:Qfi G w ag ws v:=hv
      unfold Qfi at hv
      cases ag with
      |true=>obtain⟨us,h1,h2⟩:=hv;exact⟨us.toList,by simp[h1],h2⟩
      |false=>exact⟨[v],rfl,hv.2⟩
     refine Sat.bind (Qmx cs ws us G s D pl h hp hw hk) ?_
     rintro⟨xs,pl1⟩ s1 ⟨k1,G1,bl1,l1,r1,p1,o1,st1⟩
     refine Sat.bind (QrW hin ps rs vs' G1 s1 (D++bl1.flatten) pl1 r1 p1 (vC.mono l1 _ _ hvs) st1) ?_
     rintro ys s2 ⟨k2,G2,bs,bls,l2,r2,o2,st2⟩
     refine Sat.pure ⟨⟨k2.1.trans k1.1,k2.2.1.trans k1.2.1,fun r hr=>(k2.2.2 r hr).trans (k1.gB r)⟩,G2,bs,bl1++bls,l1.trans l2,r2,⟨xs,ys,v,vs',[],bs,bl1,bls,rfl,rfl,rfl,rfl,⟨rfl,us,hsh,Xc.mono _ _ _ _ o1 (fun b hb=>l2.ro b hb)⟩,o2⟩, ?_⟩
     refine st2.perm ?_
     rw[QRc,QY21]
     refine List.Perm.append_left _ ?_
     rw[<-QRc,<-QRc]
     exact List.Perm.append_right _ List.perm_append_comm
    ·exact Sat.fail
   |_=>exact Sat.fail
 | .ptr cs::ps,c::rs,vs,G,s,D,pl,h,hp,⟨v,vs',e,hv,hvs⟩,hk=>by
   subst e
   cases c with
   |ptr r off g=>
    cases off with
    |succ _=>exact Sat.fail
    |zero=>
    unfold Qso
    refine Sat.bind (Sat.mB (Φ:=fun g' s'=>s'=s/\g'=s.gB r) ⟨rfl,rfl⟩) ?_
    rintro g' s' ⟨rfl,rfl⟩
    split
    ·rename_i hc
     simp only[QQ5,beq_iff_eq,QY15,Nat.blt_eq,QY14]at hc
     obtain⟨⟨⟨h1,h2⟩,h3⟩,h4⟩:=hc
     obtain⟨b,hb,hvb⟩:=hv
     rw[<-h1]at hb
     obtain⟨b',cur,e',q1,q2,q3,q4,q5⟩:=(h.box r).live (by omega)
     rw[hb]at q1;cases q1
     refine Sat.bind (Qf6 h hb q3 cs.length 0 (by omega)) ?_
     intro ws s1 hld
     rcases hld with⟨e1,hws,hsz⟩|⟨e0,_,_⟩
     ·subst e1
      have hcur:(cur.toList.drop 0).take cs.length=cur.toList:=by rw[QRg,List.take_of_length_le];simp;omega
      rw[hcur]at hws
      refine Sat.bind (Sat.wB (Φ:=fun _ s2=>s2=s1.sB r ((s1.gB r).1+1,0)) rfl) ?_
      rintro _ s2 rfl
      obtain⟨r0,l0⟩:=h.Qgu hb q2 (fun b n hpb=>by have:=hin.box _ _ _ hpb;rw[h4]at this;cases this)
      have hst0:Stk F (G.Qgu b) w (D++[b]):=by
       refine⟨?_,fun z hz=> ?_⟩
       ·rw[QRi]
        exact⟨hk.1,by simp,fun z hz c hc e=>by simp at hc;subst hc;subst e;rw[(hk.2 z hz).1]at q2;cases q2⟩
       ·rcases QRh.1 hz with hz|hz
        ·refine⟨?_,(hk.2 z hz).2⟩
         show(if z=b then Ow.free else G.ow z)=_
         split
         ·rfl
         ·exact(hk.2 z hz).1
        ·simp at hz;subst hz
         exact⟨if_pos rfl,h.lt z (by rw[q2];simp),h.own z _ q2⟩
      have hp0:JF pl (G.Qgu b) w (s1.sB r ((s1.gB r).1+1,0)):=hp.keep (fun _ _=>rfl) rfl rfl (fun c r' k' hc=>by
       show(if c=b then Ow.free else G.ow c)=_
       rw[if_neg (fun e=>by rw[e,q2]at hc;cases hc)];exact hc)
      refine Sat.bind (Qmx cs ws cur.toList _ _ _ pl r0 hp0 (VCs.mono l0 (fun _ _=>rfl) _ _ hws) hst0) ?_
      rintro⟨xs,pl1⟩ s2 ⟨k1,G1,bl1,l1,r1,p1,o1,st1⟩
      refine Sat.bind (QrW hin ps rs vs' G1 s2 _ pl1 r1 p1 (vC.mono (l0.trans l1) _ _ hvs) st1) ?_
      rintro ys s3 ⟨k2,G2,bs,bls,l2,r2,o2,st2⟩
      refine Sat.pure ⟨⟨k2.1.trans k1.1,k2.2.1.trans k1.2.1,fun r' hr=>(k2.2.2 r' hr).trans ((k1.gB r').trans (by rw[Vg,if_neg (fun e=>by rw[<-e,h4]at hr;cases hr)]))⟩,G2,b::bs,bl1++bls,(l0.trans l1).trans l2,r2,
       ⟨xs,ys,v,vs',[b],bs,bl1,bls,rfl,rfl,rfl,rfl,⟨fun e=>by rw[e]at h3;simp at h3,b,cur.toList,rfl,hvb,⟨cur,e',q3,rfl⟩,Xc.mono _ _ _ _ o1 (fun b hb=>l2.ro b hb)⟩,o2⟩, ?_⟩
      refine st2.perm ?_
      simp only[QRc,QY21,QRv,QRe]
      refine List.Perm.append_left _ (List.Perm.cons _ ?_)
      rw[<-QRc,<-QRc]
      exact List.Perm.append_right _ List.perm_append_comm
     ·omega
    ·exact Sat.fail
   |_=>exact Sat.fail
 | .fn _ _::ps,c::rs,vs,G,s,D,pl,h,hp,hv,hk=>Sat.fail
 | .val _ _::ps,[],vs,G,s,D,pl,h,hp,hv,hk=>Sat.fail
 | .ptr _::ps,[],vs,G,s,D,pl,h,hp,hv,hk=>Sat.fail
 | .fn _ _::ps,[],vs,G,s,D,pl,h,hp,hv,hk=>Sat.fail
end
section
variable {γ:Type}
theorem Qr0:(n:Nat)->(p:Pl)->(s:St)->Sat (final n p:M γ (Pl×Con)) s fun _ s'=>s'=s
 |0,p,s=>Sat.fail
 |n+1,p,s=>by
  unfold final
  refine Sat.bind (Sat.mI (Φ:=fun c s'=>s'=s/\c=s.gI p.r p.k) ⟨rfl,rfl⟩) ?_
  rintro c s' ⟨rfl,rfl⟩
  split
  ·split
   ·exact Qr0 n _ _
   ·split
    ·exact Qr0 n _ _
    ·exact Sat.fail
   ·exact Sat.fail
   ·exact Sat.pure rfl
   ·split
    ·exact Sat.pure rfl
    ·exact Sat.fail
  ·exact Sat.fail
theorem QF1 {p:Pl}{s:St}:Sat (J3 p:M γ (Pl×Con)) s fun x s'=>s'=s/\x.2=s.gC x.1.r x.1.k:=by
 unfold J3
 refine Sat.bind (Qr0 8 p s) ?_
 rintro⟨q,c⟩ s' rfl
 refine Sat.bind (Sat.mC (Φ:=fun c' s''=>s''=s'/\c'=s'.gC q.r q.k) ⟨rfl,rfl⟩) ?_
 rintro c' s'' ⟨rfl,rfl⟩
 exact Sat.pure ⟨rfl,rfl⟩
theorem QGf {t:Option (Nat×Nat)}{p k:Nat}(h:Qqr t (some (p,k))=true):t=some (p,k):=by
 cases t with
 |none=>simp[Qqr]at h
 |some x=>obtain⟨a,b⟩:=x;simp[Qqr]at h;rw[h.1,h.2]
theorem QBj {F:Fix}{G:Gh}{s:St}{a:Act}{w:World}(h:Rel F G s a w) {q qk:Nat}{x:TV}{tag:Option (Nat×Nat)}{D:List Nat}(hk:Stk F G w D) (hst:(s.gC q qk).st= .own x true tag):
 ∃G' u bl,G.le G'/\Rel F G' (s.sC q qk (mkC (s.gC q qk).id (s.gC q qk).nv .dead)) a w/\Own w (fun _=>False) true x.t x.v u bl/\Stk F G' w (D++bl)/\G.H q qk (s.gC q qk).id=some (x.t,u)/\∀i j,tag=some (i,j)->F.T i j=some u:=by
 obtain⟨u,bl,k1,k2,k3,k4⟩:=(h.con q qk).own x true tag hst
 have hi:=h.it _ _ k1
 obtain⟨r1,r2,r3⟩:=h.take hst k1
 exact⟨_,u,bl,r3,r1,Own.yA _ _ _ _ hi.own,Stk.take h hk (fun b hb=>(hi.key b hb).1) hi.nodup,k2,k4⟩
theorem QHl {F:Fix}{G:Gh}{s:St}{a:Act}{w:World}{D:List Nat}(h:Rel F G s a w) (hk:Stk F G w D) {p k:Nat}{t:Ty}{u:Value}(hT:F.T p k=some u):
 Sat (QGW p k t:M γ TV) s fun x s'=>Qp s s'/\∃G' bl,G.le G'/\Rel F G' s' a w/\Own w (fun _=>False) true x.t x.v u bl/\QN t=true/\x.t=t/\Stk F G' w (D++bl):=by
 unfold QGW
 split
 ·rename_i hsl
  refine Sat.bind QF1 ?_
  rintro⟨q,c⟩ s' ⟨rfl,e2⟩
  simp only at e2
  dsimp only
  split
  ·rename_i x tag hst
   split
   ·rename_i htag
    rw[e2]at hst
    obtain⟨G',u',bl,g1,g2,g3,g4,g5,g6⟩:=QBj h hk hst
    have hu:u'=u:=by
     have h1:=g6 p k (QGf htag)
     rw[h1]at hT;exact QY10 hT
    subst hu
    refine Sat.bind (QbC (s:=s') (a:=x.t) (b:=t)) ?_
    rintro _ s2 ⟨rfl,hxt⟩
    refine Sat.bind (Sat.wC (Φ:=fun _ s3=>s3=s2.sC q.r q.k (mkC c.id c.nv .dead)) rfl) ?_
    rintro _ s3 rfl
    rw[e2]
    exact Sat.pure ⟨Qp.sC _ _ _ _,G',bl,g1,g2,g3,hsl,hxt,g4⟩
   ·exact Sat.fail
  ·exact Sat.fail
 ·exact Sat.fail
theorem QIi {F:Fix}{G:Gh}{s:St}{a:Act}{w:World}{D:List Nat}(h:Rel F G s a w) (hk:Stk F G w D) {p k:Nat}{t:Ty}{v:Value}(hv:Xe G w p k (s.gC p k) v):
 Sat (QFQ p k t:M γ TV) s fun x s'=>Qp s s'/\∃G' bl,G.le G'/\Rel F G' s' a w/\(if QN t then Own w (fun _=>False) true x.t x.v v bl else bl=[]/\Rep w x.t x.v v [])/\x.t=t/\Stk F G' w (D++bl):=by
 unfold QFQ
 refine Sat.bind (Sat.mC (Φ:=fun c s'=>s'=s/\c=s.gC p k) ⟨rfl,rfl⟩) ?_
 rintro c s' ⟨rfl,rfl⟩
 split
 ·rename_i hsl
  split
  ·rename_i x tag hst
   obtain⟨G',u',bl,m1,m2,m3,m4,m5,m6⟩:=QBj h hk hst
   have hu:u'=v:=by
    unfold Xe at hv
    rw[hst]at hv
    simp only at hv
    rw[m5]at hv;cases hv;rfl
   subst hu
   refine Sat.bind (QbC (s:=s') (a:=x.t) (b:=t)) ?_
   rintro _ s2 ⟨rfl,hxt⟩
   refine Sat.bind (Sat.wC (Φ:=fun _ s3=>s3=s2.sC p k (mkC (s2.gC p k).id (s2.gC p k).nv .dead)) rfl) ?_
   rintro _ s3 rfl
   exact Sat.pure ⟨Qp.sC _ _ _ _,G',bl,m1,m2,m3,hxt,m4⟩
  ·rename_i q hst
   have hq:∃t',G.PH q=some (t',v):=by
    unfold Xe at hv
    rw[hst]at hv
    exact hv
   obtain⟨t',hq⟩:=hq
   refine Sat.bind (Qz6 h hq) ?_
   rintro⟨x,dp,tg⟩ s1 ⟨k1,G1,bl,l1,r1,hh,hxt,_,hkey,hfree⟩
   dsimp only at hh hxt⊢
   split
   ·rename_i hdp
    subst hdp
    refine Sat.bind (QbC (s:=s1) (a:=x.t) (b:=t)) ?_
    rintro _ s2 ⟨rfl,hxt2⟩
    refine Sat.pure ⟨k1,G1,bl,l1,r1,Own.yA _ _ _ _ hh.own,hxt2, ?_,fun z hz=> ?_⟩
    ·rw[QRi]
     exact⟨hk.1,hh.nodup,fun z hz y hy e=>by obtain⟨κ,hκ⟩:=hkey y hy;rw[<-e,(hk.2 z hz).1]at hκ;cases hκ⟩
    ·rcases QRh.1 hz with hz|hz
     ·exact⟨hfree z (hk.2 z hz).1,(hk.2 z hz).2⟩
     ·exact hh.free z hz
   ·exact Sat.fail
  ·exact Sat.fail
 ·rename_i hsl
  have hsl:QN t=false:=by simpa using hsl
  split
  ·rename_i x hst
   unfold Xe at hv
   rw[hst]at hv
   obtain⟨b',hr,hi⟩:=hv
   refine Sat.bind (QbC (s:=s') (a:=x.t) (b:=t)) ?_
   rintro _ s2 ⟨rfl,hxt⟩
   have:=Rep.QHn (by rw[hxt];exact hsl) hr
   subst this
   exact Sat.pure ⟨Qp.refl _,G,[],Gh.le.refl G,h,⟨rfl,hr⟩,hxt,by simpa using hk⟩
  ·exact Sat.fail
theorem Qp2 {F:Fix}{a:Act}{w:World}{p:Nat}:(l:List (Mode×Ty))->(k:Nat)->(us:List Value)->(G:Gh)->(s:St)->(D:List Nat)->Rel F G s a w->Stk F G w D->us.length=l.length->(∀j u,us[j]? =some u->F.T p (k+j)=some u)->
 Sat (QoC p k l:M γ (List TV)) s fun xs s'=>Qp s s'/\∃G' bls,G.le G'/\Rel F G' s' a w/\QkB w l us xs bls/\Stk F G' w (D++bls.flatten)
 | [],k,us,G,s,D,h,hk,hl,hT=>by
   have:us=[]:=QRx hl
   subst this
   exact Sat.pure ⟨Qp.refl s,G,[],Gh.le.refl G,h,⟨rfl,rfl,rfl⟩,by simpa using hk⟩
 |(m,t)::l,k,[],G,s,D,h,hk,hl,hT=>by simp at hl
 |(m,t)::l,k,u::us,G,s,D,h,hk,hl,hT=>by
  have hT':∀j v,us[j]? =some v->F.T p (k+1+j)=some v:=fun j v hj=>by rw[show k+1+j=k+(j+1) by omega];exact hT (j+1) v (by simpa using hj)
  have hl':us.length=l.length:=by simpa using hl
  have skip:m≠ .mut->Sat (QoC p (k+1) l:M γ (List TV)) s fun xs s'=>Qp s s'/\∃G' bls,G.le G'/\Rel F G' s' a w/\QkB w ((m,t)::l) (u::us) xs bls/\Stk F G' w (D++bls.flatten):=by
   intro hm
   refine(Qp2 l (k+1) us G s D h hk hl' hT').mono ?_
   rintro xs s' ⟨q1,G',bls,q2,q3,q4,q5⟩
   refine⟨q1,G',bls,q2,q3, ?_,q5⟩
   cases m<;>first|(exact(hm rfl).elim)|exact⟨u,us,rfl,q4⟩
  cases m with
  | «mut» =>
    unfold QoC
    refine Sat.bind (QHl h hk (u:=u) (by have:=hT 0 u rfl;rwa[QY3]at this)) ?_
    rintro x s1 ⟨k1,G1,bl,l1,r1,o1,hsl,t1,st1⟩
    refine Sat.bind (Qp2 l (k+1) us G1 s1 (D++bl) r1 st1 hl' hT') ?_
    rintro xs s2 ⟨k2,G2,bls,l2,r2,o2,st2⟩
    exact Sat.pure ⟨k1.trans k2,G2,bl::bls,l1.trans l2,r2,⟨u,us,x,xs,bl,bls,rfl,rfl,rfl,t1,hsl,o1,o2⟩,by rw[QRr,<-QRc];exact st2⟩
  |_=>exact skip (by simp)
theorem QwL {F:Fix}{a:Act}{w:World}{p b n:Nat}{cur:Array Value}{e:TypeId}(hheap:w.heap[b]? =some (.cells cur e (0,0))) (hn:cur.size=n) (hpos:n≠0):(l:List (Mode×Ty))->(k:Nat)->(us:List Value)->(G:Gh)->(s:St)->(D:List Nat)->Rel F G s a w->Stk F G w D->s.gB p=(0,n)->G.GB p 0=some b->us.length=l.length->k+l.length=n->
 (∀j x u,l[j]? =some x->x.1.QX=true->us[j]? =some u->cur[k+j]? =some u)->
 Sat (QkW p k l:M γ (List TV)) s fun xs s'=>Qp s s'/\∃G' bls,G.le G'/\Rel F G' s' a w/\xp w l us (cur.toList.drop k) xs bls/\Stk F G' w (D++bls.flatten)
 | [],k,us,G,s,D,h,hk,hB,hG,hl,hkl,hro=>by
   have:us=[]:=QRx hl
   subst this
   refine Sat.pure ⟨Qp.refl s,G,[],Gh.le.refl G,h,⟨rfl, ?_,rfl,rfl⟩,by simpa using hk⟩
   apply List.drop_eq_nil_of_le
   simp at hkl⊢; omega
 |(m,t)::l,k,[],G,s,D,h,hk,hB,hG,hl,hkl,hro=>by simp at hl
 |(m,t)::l,k,u::us,G,s,D,h,hk,hB,hG,hl,hkl,hro=>by
  have hl':us.length=l.length:=by simpa using hl
  have hkn:k<cur.size:=by simp at hkl;omega
  obtain⟨b',cur',e',h1,h2,h3,h4,h5⟩:=(h.box p).live (by rw[hB];exact hpos)
  rw[hB]at h1
  simp only at h1
  rw[hG]at h1;cases h1
  rw[hheap]at h3;cases h3
  obtain⟨v,g1,g2,g3,g4⟩:=h5 k hkn
  have hv:=g3 (fun e=>e)
  have hd:cur.toList.drop k=v::cur.toList.drop (k+1):=by
   rw[QRa (by simp;omega)]
   congr 1
   have:=(Array.getElem?_eq_some_iff.1 g1).2
   simpa using this
  have hro':∀j x u,l[j]? =some x->x.1.QX=true->us[j]? =some u->cur[k+1+j]? =some u:=fun j x v hx hm hj=>by
   rw[show k+1+j=k+(j+1) by omega]
   exact hro (j+1) x v (by simpa using hx) hm (by simpa using hj)
  have rest:∀(G1:Gh) (s1:St) (D1:List Nat),G.le G1->Qp s s1->Rel F G1 s1 a w->Stk F G1 w D1->Sat (QkW p (k+1) l:M γ (List TV)) s1 fun xs s'=>Qp s1 s'/\∃G' bls,G1.le G'/\Rel F G' s' a w/\xp w l us (cur.toList.drop (k+1)) xs bls/\Stk F G' w (D1++bls.flatten):=
   fun G1 s1 D1 l1 k1 r1 st1=>QwL hheap hn hpos l (k+1) us G1 s1 D1 r1 st1 (by rw[k1.gB];exact hB) (l1.GB _ _ _ hG) hl' (by simp at hkl;omega) hro'
  have skip:m≠ .mut->Sat (QkW p (k+1) l:M γ (List TV)) s fun xs s'=>Qp s s'/\∃G' bls,G.le G'/\Rel F G' s' a w/\xp w ((m,t)::l) (u::us) (cur.toList.drop k) xs bls/\Stk F G' w (D++bls.flatten):=by
   intro hm
   refine(rest G s D (Gh.le.refl G) (Qp.refl s) h hk).mono ?_
   rintro xs s' ⟨q1,G',bls,q2,q3,q4,q5⟩
   refine⟨q1,G',bls,q2,q3, ?_,q5⟩
   rw[hd]
   cases m with
   | «mut» =>exact(hm rfl).elim
   |ro=>
    have:=hro 0 (.ro,t) u rfl rfl rfl
    rw[QY3,g1]at this;cases this
    exact⟨u,us,_,rfl,rfl,q4⟩
   |own=>exact⟨u,us,v,_,rfl,rfl,g2,q4⟩
   |junk=>exact⟨u,us,v,_,rfl,rfl,g2,q4⟩
   |top=>exact⟨u,us,v,_,rfl,rfl,g2,q4⟩
  cases m with
  | «mut» =>
    unfold QkW
    refine Sat.bind (QIi (t:=t) h hk hv) ?_
    rintro x s1 ⟨k1,G1,bl,l1,r1,o1,t1,st1⟩
    refine Sat.bind (rest G1 s1 (D++bl) l1 k1 r1 st1) ?_
    rintro xs s2 ⟨k2,G2,bls,l2,r2,o2,st2⟩
    refine Sat.pure ⟨k1.trans k2,G2,bl::bls,l1.trans l2,r2, ?_,by rw[QRr,<-QRc];exact st2⟩
    rw[hd]
    exact⟨u,us,v,_,x,xs,bl,bls,rfl,rfl,rfl,rfl,t1,o1,o2⟩
  |_=>exact skip (by simp)
end
theorem ZB.fun {w:World}{b:Nat}{us vs:List Value}(h:ZB w b us) (h':ZB w b vs):us=vs:=by
 obtain⟨c,e,h1,h2⟩:=h
 obtain⟨c',e',h3,h4⟩:=h'
 rw[h1]at h3;cases h3
 rw[<-h2,h4]
theorem QA9:(as bs:List Nat)->(as.map fun b=>JH b 0)=(bs.map fun b=>JH b 0)->as=bs
 | [],[],_=>rfl
 | [],_::_,h=>by simp at h
 |_::_,[],h=>by simp at h
 |a::as,b::bs,h=>by
  simp only[QY24,List.cons.injEq]at h
  obtain⟨h1,_⟩:=Qqk h.1
  rw[h1,QA9 as bs h.2]
theorem QEA {g g':Nat}{as bs:List Nat}(h:Value.func (.func g) #[] (as.map fun b=>JH b 0).toArray= .func (.func g') #[] (bs.map fun b=>JH b 0).toArray):as=bs:=by
 injection h with _ _ h
 exact QA9 as bs (by simpa using congrArg Array.toList h)
theorem cell_of {w:World}{b k:Nat}{cur:Array Value}{e:TypeId}(h:w.heap[b]? =some (.cells cur e (0,0))):w.cell? ⟨b,k,none⟩=cur[k]? :=by simp[World.cell?,h]
section
variable {γ:Type}
theorem QrT {F:Fix}{a:Act}{w:World}:(ps:List PSig)->(p:Nat)->(vs:List Value)->(G:Gh)->(s:St)->(D:List Nat)->Rel F G s a w->Stk F G w D->InF F F.w0 p ps vs->
 Sat (QfR p ps:M γ (List TV)) s fun xs s'=>Qp s s'/\∃G' bls,G.le G'/\Rel F G' s' a w/\Qpd F.w0 w ps vs xs bls/\Stk F G' w (D++bls.flatten)
 | [],p,vs,G,s,D,h,hk,hin=>by
   cases hin
   exact Sat.pure ⟨Qp.refl s,G,[],Gh.le.refl G,h,⟨rfl,rfl,rfl⟩,by simpa using hk⟩
 |q::ps,p,vs,G,s,D,h,hk,⟨v,vs',e,hq,hin⟩=>by
  subst e
  have two:∀(m:M γ (List TV)),Sat m s (fun xs s'=>Qp s s'/\∃G' bls,G.le G'/\Rel F G' s' a w/\QKw F.w0 w q v xs bls/\Stk F G' w (D++bls.flatten))->
   Sat (do let x<-m;let y<-QfR (p+1) ps;pure (x++y):M γ (List TV)) s fun xs s'=>Qp s s'/\∃G' bls,G.le G'/\Rel F G' s' a w/\Qpd F.w0 w (q::ps) (v::vs') xs bls/\Stk F G' w (D++bls.flatten):=by
   intro m hm
   refine Sat.bind hm ?_
   rintro xs s1 ⟨k1,G1,b1,l1,r1,o1,st1⟩
   refine Sat.bind (QrT ps (p+1) vs' G1 s1 _ r1 st1 hin) ?_
   rintro ys s2 ⟨k2,G2,b2,l2,r2,o2,st2⟩
   exact Sat.pure ⟨k1.trans k2,G2,b1++b2,l1.trans l2,r2,⟨v,vs',xs,ys,b1,b2,rfl,rfl,rfl,o1,o2⟩,by rw[QY21,<-QRc];exact st2⟩
  cases q with
  |val ag cs=>
   unfold QfR
   obtain⟨us,h1,h2,h3⟩:=hq
   refine two _ ((Qp2 cs 0 us G s D h hk h2 (fun j u hj=>by rw[QRo];exact h3 j u hj)).mono ?_)
   rintro xs s' ⟨k1,G',bls,l1,r1,o1,st1⟩
   exact⟨k1,G',bls,l1,r1,⟨us,h1,o1⟩,st1⟩
  |ptr cs=>
   unfold QfR
   obtain⟨h0,b,us,h1,h2,h3,h4,h5⟩:=hq
   obtain⟨p1,p2,p3⟩:=h.pbox p b cs.length h4
   have hpos:cs.length≠0:=fun e=>h0 (QRx e)
   obtain⟨b',cur,e,g1,g2,g3,g4,g5⟩:=(h.box p).live (by rw[p1];exact hpos)
   rw[p1]at g1 g4
   rw[p2]at g1;cases g1
   have hro:∀j x u,cs[j]? =some x->x.1.QX=true->us[j]? =some u->cur[0+j]? =some u:=fun j x u hx hm hu=>by
    have:=h.lock b j (h5 j x hx hm) (fun _ _ _ e=>e)
    rw[cell_of g3]at this
    obtain⟨c0,e0,q1,q2⟩:=h2
    rw[cell_of q1]at this
    rw[QRo,<-this,<-hu,<-q2];simp
   refine two _ ((QwL g3 g4 hpos cs 0 us G s D h hk p1 p2 h3 (by omega) hro).mono ?_)
   rintro xs s' ⟨k1,G',bls,l1,r1,o1,st1⟩
   exact⟨k1,G',bls,l1,r1,⟨b,us,cur.toList,h1,h2,⟨cur,e,g3,rfl⟩,by simpa using o1⟩,st1⟩
  |fn g caps=>
   unfold QfR
   obtain⟨bs,h1,h2⟩:=hq
   refine(QrT ps (p+1) vs' G s D h hk hin).mono ?_
   rintro ys s2 ⟨k2,G2,b2,l2,r2,o2,st2⟩
   refine⟨k2,G2,b2,l2,r2,⟨v,vs',[],ys,[],b2,rfl,rfl,rfl,⟨rfl,rfl,fun bs' hv b hb us hus=> ?_⟩,o2⟩,st2⟩
   rw[h1]at hv
   have:=QEA hv
   subst this
   obtain⟨r,us2,g0,g1,g2,g3⟩:=h2 b hb
   have:=hus.fun g1
   subst this
   obtain⟨p1,p2,p3⟩:=h.pbox r b us.length g2
   have hz:us.length≠0:=fun e=>g0 (QRx e)
   obtain⟨b',cur,e,m1,m2,m3,m4,m5⟩:=(h.box r).live (by rw[p1];exact hz)
   rw[p1]at m1 m4
   rw[p2]at m1;cases m1
   refine⟨cur,e,m3, ?_⟩
   obtain⟨c0,e0,q1,q2⟩:=g1
   apply List.ext_getElem?
   intro k
   by_cases hk':k<us.length
   ·have:=h.lock b k (g3 k hk') (fun _ _ _ e=>e)
    rw[cell_of m3,cell_of q1]at this
    rw[<-q2];simpa using this.symm
   ·rw[List.getElem?_eq_none (by simp;omega),List.getElem?_eq_none (by omega)]
end
def Qo7 (tmps:Array Value):ResultVar->Sem Value
 | .tmp t=>pure (tmps.getD t undef)
 | .cell a t=>do loadVar t (<-asAddr (tmps.getD a undef))
def QoW (P:Program) (tmps:Array Value) (w:World):List ResultVar->List Value->Prop
 | [],vs=>vs=[]
 |r::rs,vs=>∃v vs',vs=v::vs'/\(Qo7 tmps r).run P w= .ok v w/\QoW P tmps w rs vs'
theorem QBw {P:Program}{tmps:Array Value}{w:World}:(rs:List ResultVar)->(vs:List Value)->QoW P tmps w rs vs->(rs.mapM (Qo7 tmps)).run P w= .ok vs w
 | [],vs,h=>by cases h;simp
 |r::rs,vs,⟨v,vs',e,h1,h2⟩=>by
  subst e
  rw[List.mapM_cons]
  simp only[Sem.run_bind,h1,Result.andThen_ok,QBw rs vs' h2,Sem.run_pure]
theorem QDb {P:Program}{fn:Func}{tmps:Array Value}{w:World}{vs:List Value}(h:QoW P tmps w fn.results.toList vs):(results fn tmps).run P w= .ok (Qyn vs) w:=by
 have e:results fn tmps=(do let vs<-fn.results.mapM (Qo7 tmps);pure (if h:vs.size=1 then vs[0]else .tuple vs)):=by
  unfold results
  congr 1
 rw[e,Array.mapM_eq_mapM_toList]
 simp only[Sem.run_bind,Sem.run_map,QBw _ _ h,Result.andThen_ok,Sem.run_pure]
 congr 1
 match vs with
 | []=>rfl
 | [v]=>rfl
 |a::b::l=>simp[Qyn]
section
variable {γ:Type}{P:Program}{E:Env}
theorem QDe (hT:XZ P E) {F:Fix}{G:Gh}{s:St}{a:Act}{w:World}(h:Rel F G s a w) (r:ResultVar):
 Sat (QyF E r:M γ Cell) s fun c s'=>s'=s/\∃G' u,G.le G'/\Rel F G' s a w/\(Qo7 a.tmps r).run P w= .ok u w/\QK G' w c u:=by
 cases r with
 |tmp t=>exact Sat.mT ⟨rfl,G,_,Gh.le.refl G,h,by simp[Qo7],h.tm t⟩
 |cell A T=>
  unfold QyF
  refine Sat.bind (Φ:=fun i s'=>s'=s/\i=E.ty T/\(E.ty T).ok=true) ?_ ?_
  ·unfold tyM
   split
   ·rename_i hok;exact Sat.pure ⟨rfl,rfl,hok⟩
   ·exact Sat.fail
  ·rintro i s' ⟨rfl,rfl,hok⟩
   refine Sat.bind (Sat.mT (Φ:=fun c s2=>s2=s'/\c=s'.gT A) ⟨rfl,rfl⟩) ?_
   rintro c s2 ⟨rfl,rfl⟩
   refine(QuZ (hT T hok) h (h.tm A)).mono ?_
   rintro c' s3 ⟨rfl,G',u,l1,r1,hrun,hc⟩
   refine⟨rfl,G',u,l1,r1, ?_,hc⟩
   simp only[Qo7]
   generalize a.tmps.getD A undef=v at hrun
   simp only[Instr.loadAt,Sem.run_bind]at hrun⊢
   cases v with
   |pointer q=>
    cases q with
    |some ad=>simpa[Instr.sureAddr,asAddr]using hrun
    |none=>simp[Instr.sureAddr]at hrun
   |_=>simp[Instr.sureAddr]at hrun
theorem QrR (hT:XZ P E) {F:Fix}{a:Act}{w:World}:(rs:List ResultVar)->(G:Gh)->(s:St)->Rel F G s a w->
 Sat (QpE E rs:M γ (List Cell)) s fun cs s'=>s'=s/\∃G' vs,G.le G'/\Rel F G' s a w/\QoW P a.tmps w rs vs/\vC G' w cs vs
 | [],G,s,h=>Sat.pure ⟨rfl,G,[],Gh.le.refl G,h,rfl,rfl⟩
 |r::rs,G,s,h=>by
  unfold QpE
  refine Sat.bind (QDe hT h r) ?_
  rintro c s1 ⟨rfl,G1,u,l1,r1,hrun,hc⟩
  refine Sat.bind (QrR hT rs G1 s1 r1) ?_
  rintro cs s2 ⟨rfl,G2,vs,l2,r2,hruns,hcs⟩
  exact Sat.pure ⟨rfl,G2,u::vs,l1.trans l2,r2,⟨u,vs,rfl,hrun,hruns⟩,⟨u,vs,rfl,QK.mono l2 (fun _ _=>rfl) hc,hcs⟩⟩
end
theorem QtS {F:Fix}{w:World}{R:Nat->Prop}:(ps:List PSig)->(p:Nat)->(xs:List TV)->(vs:List Value)->(bs:List Nat)->(bls:List (List Nat))->QcQ w R ps xs vs bs bls->InF F w p ps vs->∀b∈bs,∃r n,F.pb r b n
 | [],p,xs,vs,bs,bls,h,_=>by obtain⟨_,_,rfl,_⟩:=h;simp
 |q::ps,p,xs,vs,bs,bls,⟨x1,x2,v,vs',b1,b2,l1,l2,e1,e2,e3,e4,hq,h⟩,⟨v2,vs2,e5,hf,hfs⟩=>by
  subst e2;subst e3
  cases e5
  intro b hb
  rcases QRh.1 hb with hb|hb
  ·cases q with
   |val ag cs=>rw[hq.1]at hb;simp at hb
   |ptr cs=>
    obtain⟨_,b',us,rfl,hv,_⟩:=hq
    obtain⟨_,b'',us',hv',_,_,hpb,_⟩:=hf
    simp at hb;subst hb
    rw[hv]at hv'
    obtain⟨rfl,_⟩:=Qqk hv'
    exact⟨_,_,hpb⟩
   |fn g caps=>
    obtain⟨hv,_⟩:=hq
    obtain⟨bs',hv',h2⟩:=hf
    rw[hv]at hv'
    have:=QEA hv'
    subst this
    obtain⟨r,us,_,_,hpb,_⟩:=h2 b hb
    exact⟨_,_,hpb⟩
  ·exact QtS ps (p+1) x2 vs' b2 l2 h hfs b hb
theorem QFR {P:Program}{E:Env}(hT:XZ P E) {f:Nat}{fn:Func}(hres:E.res f=fn.results.toList) {F:Fix}{G:Gh}{s:St}{a:Act}{w w':World}{O bs:List Nat}{bls:List (List Nat)}{R:Nat->Prop}{ins:List TV}{vs:List Value}(h:Rel F G s a w') (hw:F.w0=w) (hX:F.X=fun b=>b∈O) (hR:F.R=R) (hin:BoxIn E.gg F (E.fx f)) (hI:InF F w 0 (E.sig f).ps vs)
 (hP:QcQ w R (E.sig f).ps ins vs bs bls) {outs:Qm (E.sig f).outs}{s':St}(hrun:(finish E f).run s=some (outs,s')):
 ∃v,(results fn a.tmps).run P w'= .ok v w'/\FnPost w w' R bs O (E.sig f) (unpack _ outs) vs v:=by
 unfold finish at hrun
 have main:Sat (do let a<-QE9 E (E.fx f) (E.sig f).rs (E.res f);let b<-QfR 0 (E.sig f).ps;ofO (pack (E.sig f).outs (a++b)):M (Qm (E.sig f).outs) (Qm (E.sig f).outs)) s fun out _=>∃v,(results fn a.tmps).run P w'= .ok v w'/\FnPost w w' R bs O (E.sig f) (unpack _ out) vs v:=by
  refine Sat.bind (Φ:=fun xs s2=>∃G' rvs rbs rbls,Rel F G' s2 a w'/\QoW P a.tmps w' (E.res f) rvs/\Kt w' (fun b=>G'.ow b= .ro) (E.sig f).rs xs rvs rbs rbls/\Stk F G' w' (rbs++rbls.flatten)) ?_ ?_
  ·unfold QE9
   refine Sat.bind (QrR hT (E.res f) G s h) ?_
   rintro cs s1 ⟨rfl,G1,rvs,l1,r1,hruns,hcs⟩
   refine(QrW hin (E.sig f).rs cs rvs G1 s1 [] [] r1 (fun r k x i m e=>by simp at e) hcs ⟨QY5,by simp⟩).mono ?_
   rintro xs s2 ⟨_,G2,rbs,rbls,l2,r2,o2,st2⟩
   exact⟨G2,rvs,rbs,rbls,r2,hruns,o2,by simpa using st2⟩
  ·rintro xs s2 ⟨G1,rvs,rbs,rbls,r1,hruns,o1,st1⟩
   refine Sat.bind (QrT (E.sig f).ps 0 vs G1 s2 _ r1 st1 (by rw[hw];exact hI)) ?_
   rintro ys s3 ⟨_,G2,pbls,l2,r2,o2,st2⟩
   refine Sat.ofO fun out hout=> ?_
   obtain⟨_,hun⟩:=Qnu _ _ _ hout
   rw[hres]at hruns
   refine⟨Qyn rvs,QDb hruns, ?_,xs,ys,rvs,rbs,rbls,pbls,fun b=>G2.ow b= .ro,hun,rfl,Kt.mono (fun b hb=>l2.ro b hb) _ _ _ _ _ o1,by rw[<-hw];exact o2,by simpa[QRc]using st2.1,fun b hb=> ?_,fun b hb=> ?_⟩
   ·have:=r2.grow
    rw[hw,hX]at this;exact this
   ·obtain⟨q1,q2,q3⟩:=st2.2 b (by simpa[QRc]using hb)
    refine⟨q2, ?_,fun hm=> ?_⟩
    ·rw[hw,hX]at q3
     by_cases hlt:b<w.heap.size
     ·exact .inl (q3 hlt)
     ·exact .inr (by omega)
    ·obtain⟨r,n,hpb⟩:=QtS _ _ _ _ _ _ hP hI b hm
     have:=(r2.pbox _ _ _ hpb).2.2
     rw[q1]at this;cases this
   ·have hb:G2.ow b= .ro:=hb
    refine⟨r2.lt b (by rw[hb];simp), ?_,fun hm=> ?_,fun hm=> ?_⟩
    ·by_cases hlt:b<w.heap.size
     ·have:=r2.ro b hb (by rw[hw];exact hlt)
      rw[hR,hX]at this
      rcases this with h|h
      ·exact .inl h
      ·exact .inr (.inl h)
     ·exact .inr (.inr (by omega))
    ·have:=(st2.2 b (by simpa[QRc]using hm)).1
     rw[hb]at this;cases this
    ·obtain⟨r,n,hpb⟩:=QtS _ _ _ _ _ _ hP hI b hm
     have:=(r2.pbox _ _ _ hpb).2.2
     rw[hb]at this;cases this
 obtain⟨x,s2,hx,he⟩:=main (fun v=> .ret v) (outs,s') hrun
 cases he
 exact hx
theorem RelP.QJZ {F:Fix}{G:Gh}{s:St}{a:Act}{w:World}(h:Rel F G s a w) {r k:Nat}{x:TV}{tag:Option (Nat×Nat)}(hst:(s.gC r k).st= .own x true tag):
 ∃G',G.le G'/\Rel F G' (s.sC r k (mkC (s.gC r k).id (s.gC r k).nv (.own x false tag))) a w:=by
 obtain⟨u,bl,k1,k2,k3,k4⟩:=(h.con r k).own x true tag hst
 have hcell:=h.Qy4 hst k2
 have hi:=h.it _ _ k1
 obtain⟨r1,r2,r3⟩:=h.take hst k1
 obtain⟨xt,xv⟩:=x
 cases xt with
 |sl ts=>
  obtain⟨L,bl',g1,g2,g3,_,_⟩:=Held.shallow r1 r2
  have hd:(s.sC r k (mkC (s.gC r k).id (s.gC r k).nv .dead)).gC r k=mkC (s.gC r k).id (s.gC r k).nv .dead:=by rw[QP,if_pos ⟨rfl,rfl⟩]
  obtain⟨p1,p2⟩:=g1.Qx4 g3 (r:=r) (k:=k) (id:=(s.gC r k).id) (nv:=(s.gC r k).nv) (tag:=tag) (by rw[hd,QD]) (by rw[hd,Q1]) (by rw[hd,ZC]) k2
   (fun i m t u' hn=>k3 i m t u' hn) (fun hk _ b hb=>hcell hk b hb) k4
  rw[QAO]at p1
  exact⟨_,(r3.trans g2).trans p2,p1⟩
 |_=>have:=hi.sl;simp[QN]at this
structure Sim (s s2:St):Prop where
 n:s2.n=s.n
 tm:∀i,s2.gT i=s.gT i
 bx:∀r,s2.gB r=s.gB r
 id:∀r k,(s2.gC r k).id=(s.gC r k).id
 nv:∀r k,(s2.gC r k).nv=(s.gC r k).nv
 st:∀r k,(s2.gC r k).st=(s.gC r k).st\/∃x tag,(s.gC r k).st= .own x true tag/\(s2.gC r k).st= .own x false tag
theorem Sim.refl (s:St):Sim s s:=⟨rfl,fun _=>rfl,fun _=>rfl,fun _ _=>rfl,fun _ _=>rfl,fun _ _=> .inl rfl⟩
def SkC.qf:SkC->Bool
 | .own _ false _=>true
 |_=>false
def qQ (l:List (Nat×Nat×SkC)):List (Nat×Nat):=l.map fun e=>(e.1,e.2.1)
theorem QpD {F:Fix}{a:Act}{w:World}{s:St}:(l:List (Nat×Nat×SkC))->(G:Gh)->(s1:St)->Sim s s1->Rel F G s1 a w->
 ∃G' s2,G.le G'/\Sim s s2/\Rel F G' s2 a w/\(∀r k,(r,k)∉qQ (l.filter fun e=>e.2.2.qf)->s2.gC r k=s1.gC r k)/\
  ∀r k,((r,k)∈qQ (l.filter fun e=>e.2.2.qf)\/(∃x tag,(s1.gC r k).st= .own x false tag))->∀x d tag,(s2.gC r k).st= .own x d tag->d=false
 | [],G,s1,hs,h=>⟨G,s1,Gh.le.refl G,hs,h,fun r k _=>rfl,fun r k hm x d tag hst=>by
   rcases hm with hm|⟨x',tag',hm⟩
   ·simp[qQ]at hm
   ·rw[hm]at hst;cases hst;rfl⟩
 |(r,k,c)::l,G,s1,hs,h=>by
  by_cases hc:c.qf=true
  ·have hf:((r,k,c)::l).filter (fun e=>e.2.2.qf)=(r,k,c)::l.filter fun e=>e.2.2.qf:=by rw[QY35,if_pos hc]
   rw[hf]
   have step:∃G1 s1',G.le G1/\Sim s s1'/\Rel F G1 s1' a w/\(∀r' k',(r',k')≠(r,k)->s1'.gC r' k'=s1.gC r' k')/\(∀x d tag,(s1'.gC r k).st= .own x d tag->d=false)/\(∀x tag,(s1.gC r k).st= .own x false tag->(s1'.gC r k).st= .own x false tag):=by
    cases hst:(s1.gC r k).st with
    |own x d tag=>
     cases d with
     |false=>exact⟨G,s1,Gh.le.refl G,hs,h,fun _ _ _=>rfl,fun x' d' tag' e=>by rw[hst]at e;cases e;rfl,fun x' tag' e=>by rw[hst];exact e⟩
     |true=>
      obtain⟨G1,l1,r1⟩:=h.QJZ hst
      have hg:(s1.sC r k (mkC (s1.gC r k).id (s1.gC r k).nv (.own x false tag))).gC r k=mkC (s1.gC r k).id (s1.gC r k).nv (.own x false tag):=by rw[QP,if_pos ⟨rfl,rfl⟩]
      have ho:∀r' k',(r',k')≠(r,k)->(s1.sC r k (mkC (s1.gC r k).id (s1.gC r k).nv (.own x false tag))).gC r' k'=s1.gC r' k':=fun r' k' hne=>by rw[QP,if_neg (fun e=>hne (by rw[e.1,e.2]))]
      refine⟨G1,s1.sC r k (mkC (s1.gC r k).id (s1.gC r k).nv (.own x false tag)),l1,⟨hs.n,hs.tm,hs.bx,fun r' k'=> ?_,fun r' k'=> ?_,fun r' k'=> ?_⟩,r1,ho,fun x' d' tag' e=>by rw[hg,QD]at e;cases e;rfl,fun x' tag' e=>by cases e⟩
      ·by_cases e:(r',k')=(r,k)
       ·cases e;rw[hg,Q1];exact hs.id r k
       ·rw[ho r' k' e];exact hs.id r' k'
      ·by_cases e:(r',k')=(r,k)
       ·cases e;rw[hg,ZC];exact hs.nv r k
       ·rw[ho r' k' e];exact hs.nv r' k'
      ·by_cases e:(r',k')=(r,k)
       ·cases e
        rw[hg,QD]
        rcases hs.st r k with h'|⟨x',tag',h1,h2⟩
        ·exact .inr ⟨x,tag,by rw[<-h',hst],rfl⟩
        ·rw[hst]at h2;cases h2
       ·rw[ho r' k' e];exact hs.st r' k'
    |_=>exact⟨G,s1,Gh.le.refl G,hs,h,fun _ _ _=>rfl,(fun x' d' tag' e=>by rw[hst]at e;cases e),(fun x' tag' e=>by cases e)⟩
   obtain⟨G1,s1',l1,hs1,r1,ho,hf1,hf2⟩:=step
   obtain⟨G2,s2,l2,hs2,r2,q1,q2⟩:=QpD l G1 s1' hs1 r1
   refine⟨G2,s2,l1.trans l2,hs2,r2,fun r' k' hn=> ?_,fun r' k' hm x d tag hst=> ?_⟩
   ·simp only[qQ,QY24,QRk,not_or]at hn
    rw[q1 r' k' hn.2,ho r' k' hn.1]
   ·by_cases e:(r',k')=(r,k)
    ·cases e
     by_cases hin:(r,k)∈qQ (l.filter fun e=>e.2.2.qf)
     ·exact q2 r k (.inl hin) x d tag hst
     ·rw[q1 r k hin]at hst;exact hf1 x d tag hst
    ·rcases hm with hm|⟨x',tag',hm⟩
     ·simp only[qQ,QY24,QRk]at hm
      rcases hm with hm|hm
      ·exact(e hm).elim
      ·exact q2 r' k' (.inl hm) x d tag hst
     ·exact q2 r' k' (.inr ⟨x',tag',by rw[ho r' k' e];exact hm⟩) x d tag hst
  ·have hf:((r,k,c)::l).filter (fun e=>e.2.2.qf)=l.filter fun e=>e.2.2.qf:=by rw[QY35,if_neg hc]
   rw[hf]
   exact QpD l G s1 hs h
theorem Sim.final {s s2:St}(h:Sim s s2):(n:Nat)->(p:Pl)->QgC n s2 p=QgC n s p
 |0,p=>rfl
 |n+1,p=>by
  simp only[QgC,h.id]
  split
  ·rcases h.st p.r p.k with e|⟨x,tag,e1,e2⟩
   ·rw[e]
    split
    ·exact h.final n _
    ·rfl
   ·rw[e1,e2]
  ·rfl
theorem Sim.at_ {s s2:St}(h:Sim s s2) (p:Pl) (r k:Nat):at? s2 p r k=at? s p r k:=by unfold at?; rw[h.final]
theorem Sim.Qry {s s2:St}(h:Sim s s2) (a:SkV) (v:VC):Qry s2 a v=Qry s a v:=by
 cases a<;>cases v<;>simp only[Eng.Qry,h.at_]
theorem Sim.Qgm {s s2:St}(h:Sim s s2):(l:List SkV)->(vs:List VC)->Qgm s2 l vs=Qgm s l vs
 | [],vs=>by cases vs<;>rfl
 |a::l,[]=>rfl
 |a::l,v::vs=>by simp only[Eng.Qgm,h.Qry,h.Qgm l vs]
theorem Sim.Qau {s s2:St}(h:Sim s s2):(l:List (Nat×Nat))->(m:List (Nat×Nat×Nat))->Qau s2 l m=Qau s l m
 | [],m=>by cases m<;>rfl
 |(r,o)::l,[]=>rfl
 |(r,o)::l,(r',o',g)::m=>by simp only[Eng.Qau,h.bx,h.Qau l m]
theorem Sim.QpG {s s2:St}(h:Sim s s2) (a:SkT) (c:Cell):QpG s2 a c=QpG s a c:=by
 cases a<;>cases c<;>simp only[Eng.QpG,h.Qgm,h.Qau,h.bx]
theorem Sim.Qcp {s s2:St}(h:Sim s s2):(l:List (Nat×SkT))->Qcp s2 l=Qcp s l
 | []=>rfl
 |(i,a)::l=>by simp only[Eng.Qcp,h.tm,h.QpG,h.Qcp l]
def Gh.renum (G:Gh) (s:St):Gh where
 H r k j:=if j=0 then G.H r k (s.gC r k).id else none
 HN r k j v i m:=if j=0/\v=0 then G.HN r k (s.gC r k).id (s.gC r k).nv i m else none
 GB r j:=if j=0 then G.GB r (s.gB r).1 else none
 ow:=G.ow
 it:=G.it
theorem Qq5 {F:Fix}{pd:Nat->Nat->Prop}{G:Gh}{s:St}{a:Act}{w:World}(h:RelP F pd G s a w):(n:Nat)->(p:Pl)->(r k:Nat)->(tu:Ty×Value)->QgC n s p=some (r,k)->G.PH p=some tu->G.H r k (s.gC r k).id=some tu
 |0,p,r,k,tu,e,_=>by cases e
 |n+1,p,r,k,tu,e,hp=>by
  simp only[QgC]at e
  split at e
  ·rename_i hc
   simp only[QQ5,beq_iff_eq,Option.isNone_iff_eq_none]at hc
   obtain⟨⟨h1,h2⟩,h3⟩:=hc
   have hb:G.H p.r p.k (s.gC p.r p.k).id=some tu:=by
    unfold Gh.PH Gh.base at hp
    rw[h3,h2]at hp
    simp only at hp
    rw[h1];exact hp
   split at e
   ·rename_i q hst
    obtain⟨t,u,g1,g2⟩:=(h.con p.r p.k).vw q hst
    rw[hb]at g1;cases g1
    exact Qq5 h n q r k _ e g2
   ·cases e;exact hb
  ·cases e
theorem QbM {t:Ty}{x:TV}{xs:List TV}(h:QrH t x=some xs):xs=[x]/\x.t=t:=by
 unfold QrH at h
 split at h
 ·rename_i v hv
  have:=Zt hv
  subst this
  cases h;exact⟨rfl,rfl⟩
 ·cases h
theorem QEw {s:St}{p:Pl}{r k:Nat}(h:at? s p r k=true):QgC 8 s p=some (r,k):=by
 unfold at? at h
 split at h
 ·rename_i a b hf
  simp only[QQ5,beq_iff_eq]at h
  rw[hf,h.1,h.2]
 ·cases h
section
variable {F:Fix}{G:Gh}{s:St}{a:Act}{w:World}
theorem QHo (h:Rel F G s a w) (c:SkV) (v:VC) (xs rest:List TV) (hd:Qry s c v=some xs):∃v',QMG c (xs++rest)=(v',rest)/\∀u,VCR G w v u->VCR (G.renum s) w v' u:=by
 cases c with
 |sc t=>
  cases v with
  |sc x=>obtain⟨rfl,_⟩:=QbM hd;exact⟨.sc x,rfl,fun u hu=>hu⟩
  |_=>cases hd
 |ro t=>
  cases v with
  |ro x=>obtain⟨rfl,_⟩:=QbM hd;exact⟨.ro x,rfl,fun u hu=>hu⟩
  |_=>cases hd
 |nilS=>
  cases v with
  |nilS=>cases hd;exact⟨.nilS,rfl,fun u hu=>hu⟩
  |_=>cases hd
 |vw r k=>
  cases v with
  |vw p=>
   simp only[Qry]at hd
   split at hd
   ·rename_i hat
    cases hd
    refine⟨.vw ⟨r,k,0,0,none,none⟩,rfl, ?_⟩
    rintro u ⟨t,hp,h1⟩
    refine⟨t, ?_,h1⟩
    show(if(0:Nat)=0 then G.H r k (s.gC r k).id else none)=_
    rw[if_pos rfl]
    exact Qq5 h 8 p r k _ (QEw hat) hp
   ·cases hd
  |_=>cases hd
theorem QuQ (h:Rel F G s a w):(cs:List SkV)->(vs:List VC)->(xs rest:List TV)->Qgm s cs vs=some xs->∃vs',QAS cs (xs++rest)=(vs',rest)/\∀us,VCs G w vs us->VCs (G.renum s) w vs' us
 | [],[],xs,rest,hd=>by cases hd;exact⟨[],rfl,fun us h=>h⟩
 | [],_::_,xs,rest,hd=>by cases hd
 |_::_,[],xs,rest,hd=>by cases hd
 |c::cs,v::vs,xs,rest,hd=>by
  simp only[Qgm]at hd
  split at hd
  ·rename_i x y h1 h2
   cases hd
   obtain⟨v',q1,q2⟩:=QHo h c v x (y++rest) h1
   obtain⟨vs',q3,q4⟩:=QuQ h cs vs y rest h2
   refine⟨v'::vs', ?_, ?_⟩
   ·simp only[QAS,QRc,q1,q3]
   ·rintro us ⟨u,us',e,h3,h4⟩
    exact⟨u,us',e,q2 u h3,q4 us' h4⟩
  ·cases hd
theorem Qs5:(l:List (Nat×Nat))->(m:List (Nat×Nat×Nat))->Qau s l m=true->∀us,ve G m us->ve (G.renum s) (l.map fun(r,o)=>(r,o,0)) us
 | [],[],_,us,h=>h
 | [],_::_,h,_,_=>by cases h
 |(r,o)::l,[],h,_,_=>by cases h
 |(r,o)::l,(r',o',g)::m,h,us,⟨b,us',h1,h2,h3⟩=>by
  simp only[Qau,QQ5,beq_iff_eq]at h
  obtain⟨⟨⟨rfl,rfl⟩,rfl⟩,h4⟩:=h
  refine⟨b,us', ?_,h2,Qs5 l m h4 us' h3⟩
  show(if(0:Nat)=0 then G.GB r (s.gB r).1 else none)=_
  rw[if_pos rfl];exact h1
theorem QjQ (h:Rel F G s a w):(l:List (Nat×SkT))->(xs rest:List TV)->(tm:List Cell)->Qcp s l=some xs->(∀i v,QK G w (s.gT i) v->QK (G.renum s) w (lget .dead tm i) v)->∃tm',Qjs l (xs++rest) tm=(tm',rest)/\∀i v,QK G w (s.gT i) v->QK (G.renum s) w (lget .dead tm' i) v
 | [],xs,rest,tm,hd,hg=>by cases hd;exact⟨tm,rfl,hg⟩
 |(i,c)::l,xs,rest,tm,hd,hg=>by
  simp only[Qcp]at hd
  split at hd
  ·rename_i x y h1 h2
   cases hd
   have put:∀c':Cell,(∀v,QK G w (s.gT i) v->QK (G.renum s) w c' v)->∀j v,QK G w (s.gT j) v->QK (G.renum s) w (lget .dead (lset .dead tm i c') j) v:=by
    intro c' hc j v hv
    by_cases e:i=j
    ·subst e;rw[XJ];exact hc v hv
    ·rw[X8 _ _ _ _ e];exact hg j v hv
   cases c with
   |val ag vs=>
    cases hT:s.gT i with
    |val ag' ws=>
     rw[hT]at h1
     simp only[QpG]at h1
     split at h1
     ·rename_i hag
      have hag:ag=ag':=by simpa using hag
      subst hag
      obtain⟨ws',q1,q2⟩:=QuQ h vs ws x (y++rest) h1
      obtain⟨tm',q3,q4⟩:=QjQ h l y rest (lset .dead tm i (.val ag ws')) h2 (put (.val ag ws') (fun v hv=>by
       rw[hT]at hv
       have hv:Qfi G w ag ws v:=hv
       show Qfi (G.renum s) w ag ws' v
       unfold Qfi at hv⊢
       split at hv
       ·rename_i hag;rw[if_pos hag];obtain⟨us,g1,g2⟩:=hv;exact⟨us,g1,q2 _ g2⟩
       ·rename_i hag;rw[if_neg hag];exact⟨hv.1,q2 _ hv.2⟩))
      exact⟨tm',by simp only[Qjs,QRc,q1,q3],q4⟩
     ·cases h1
    |_=>rw[hT]at h1;cases h1
   |ptr r o=>
    cases hT:s.gT i with
    |ptr r' o' g=>
     rw[hT]at h1
     simp only[QpG]at h1
     split at h1
     ·rename_i hc
      simp only[QQ5,beq_iff_eq]at hc
      obtain⟨⟨rfl,rfl⟩,rfl⟩:=hc
      cases h1
      obtain⟨tm',q3,q4⟩:=QjQ h l y rest (lset .dead tm i (.ptr r o 0)) h2 (put _ (fun v hv=>by
       rw[hT]at hv
       obtain⟨b,g1,g2⟩:=hv
       refine⟨b, ?_,g2⟩
       show(if(0:Nat)=0 then G.GB r (s.gB r).1 else none)=_
       rw[if_pos rfl];exact g1))
      exact⟨tm',by simp only[Qjs,QRe,q3],q4⟩
     ·cases h1
    |_=>rw[hT]at h1;cases h1
   |fn g cs=>
    cases hT:s.gT i with
    |fn g' cs'=>
     rw[hT]at h1
     simp only[QpG]at h1
     split at h1
     ·rename_i hc
      simp only[QQ5,beq_iff_eq]at hc
      obtain⟨rfl,hce⟩:=hc
      cases h1
      obtain⟨tm',q3,q4⟩:=QjQ h l y rest (lset .dead tm i (.fn g (cs.map fun(r,o)=>(r,o,0)))) h2 (put _ (fun v hv=>by
       rw[hT]at hv
       obtain⟨us,g1,g2⟩:=hv
       exact⟨us,g1,Qs5 cs cs' hce _ g2⟩))
      exact⟨tm',by simp only[Qjs,QRe,q3],q4⟩
     ·cases h1
    |_=>rw[hT]at h1;cases h1
  ·cases hd
structure ConG (F:Fix) (G:Gh) (s:St) (w:World) (r k:Nat) (c:Con):Prop where
 con:ConR F (G.renum s) w r k c
 box:∀u,Xe G w r k (s.gC r k) u->Xe (G.renum s) w r k c u
theorem yl {c:CSt}{r k:Nat}:(∀j,(mkC 0 0 c).id<j->(G.renum s).H r k j=none)/\∀j v i m,(mkC 0 0 c).id<j\/((mkC 0 0 c).id=j/\(mkC 0 0 c).nv<v)->(G.renum s).HN r k j v i m=none:=by
 refine⟨fun j hj=> ?_,fun j v i m hj=> ?_⟩
 ·rw[Q1]at hj;exact if_neg (by omega)
 ·rw[Q1,ZC]at hj;exact if_neg (by omega)
theorem ConG.dead {r k:Nat}:ConG F G s w r k yE:=⟨⟨fun j hj=>if_neg (by have:yE.id=0:=rfl;omega),fun j v i m hj=>if_neg (by have:yE.id=0:=rfl;have:yE.nv=0:=rfl;omega),(fun _ _ _ e=>by cases e),(fun _ e=>by cases e)⟩,fun u _=>by unfold Xe;trivial⟩
theorem QI7 {a b:Option (Nat×Nat)}(h:Qqr a b=true):a=b:=by
 cases a with
 |none=>cases b with|none=>rfl|some _=>cases h
 |some x=>
  cases b with
  |none=>cases h
  |some y=>obtain⟨p,q⟩:=x;obtain⟨p',q'⟩:=y;simp[Qqr]at h;rw[h.1,h.2]
theorem QHw (h:Rel F G s a w) (r k:Nat) (c:SkC) (xs rest:List TV) (hd:Qfo s c (s.gC r k).st=some xs) (hdeep:∀t d tag,c= .own t d tag->∀x d' tag',(s.gC r k).st= .own x d' tag'->d'=d):
 ∃c',QMq c (xs++rest)=(c',rest)/\ConG F G s w r k (mkC 0 0 c')/\((∃x,(s.gC r k).st= .fix x)->∃x,c'= .fix x):=by
 have plain:∀c':CSt,(∀x d t,c'≠ .own x d t)->(∀p,c'≠ .vw p)->ConR F (G.renum s) w r k (mkC 0 0 c'):=fun c' h1 h2=>
  ⟨yl.1,yl.2,fun x d t e=>by rw[QD]at e;exact(h1 _ _ _ e).elim,fun p e=>by rw[QD]at e;exact(h2 _ e).elim⟩
 cases hst:(s.gC r k).st with
 |dead=>rw[hst]at hd;cases c<;>cases hd
 |part x i m=>rw[hst]at hd;cases c<;>cases hd
 |sc x=>
  rw[hst]at hd
  cases c with
  |sc t=>
   obtain⟨rfl,_⟩:=QbM hd
   exact⟨.sc x,rfl,⟨plain _ (fun _ _ _ e=>by cases e) (fun _ e=>by cases e),fun u hu=>by unfold Xe at hu⊢; rw[hst]at hu;rw[QD];exact hu⟩,fun⟨y,e⟩=>by cases e⟩
  |_=>cases hd
 |ro x=>
  rw[hst]at hd
  cases c with
  |ro t=>
   obtain⟨rfl,_⟩:=QbM hd
   exact⟨.ro x,rfl,⟨plain _ (fun _ _ _ e=>by cases e) (fun _ e=>by cases e),fun u hu=>by unfold Xe at hu⊢; rw[hst]at hu;rw[QD];exact hu⟩,fun⟨y,e⟩=>by cases e⟩
  |_=>cases hd
 |fix x=>
  rw[hst]at hd
  cases c with
  |fix t=>
   obtain⟨rfl,_⟩:=QbM hd
   exact⟨.fix x,rfl,⟨plain _ (fun _ _ _ e=>by cases e) (fun _ e=>by cases e),fun u hu=>by unfold Xe at hu⊢; rw[hst]at hu;rw[QD];exact hu⟩,fun _=>⟨x,rfl⟩⟩
  |_=>cases hd
 |own x d' tag'=>
  rw[hst]at hd
  cases c with
  |own t d tag=>
   have:=hdeep t d tag rfl x d' tag' hst
   subst this
   simp only[Qfo]at hd
   split at hd
   ·rename_i hc
    simp only[QQ5]at hc
    have:=QI7 hc.2
    subst this
    obtain⟨rfl,_⟩:=QbM hd
    obtain⟨u,bl,k1,k2,k3,k4⟩:=(h.con r k).own x d' tag hst
    have hH:(G.renum s).H r k 0=some (x.t,u):=by
     show(if(0:Nat)=0 then G.H r k (s.gC r k).id else none)=_
     rw[if_pos rfl];exact k2
    refine⟨.own x d' tag,rfl,⟨⟨yl.1,yl.2,fun x2 d2 t2 e=> ?_,fun p e=>by rw[QD]at e;cases e⟩,fun u2 hu=> ?_⟩,fun⟨y,e⟩=>by cases e⟩
    ·rw[QD]at e;cases e
     refine⟨u,bl,k1,by rw[Q1];exact hH,fun i m t u' hn=>k3 i m t u' ?_,k4⟩
     rw[Q1,ZC]at hn
     have hn:(if(0:Nat)=0/\(0:Nat)=0 then G.HN r k (s.gC r k).id (s.gC r k).nv i m else none)=some (t,u'):=hn
     rw[if_pos ⟨rfl,rfl⟩]at hn;exact hn
    ·unfold Xe at hu⊢
     rw[hst]at hu
     rw[QD]
     simp only at hu⊢
     rw[Q1,hH]
     rw[k2]at hu;exact hu
   ·cases hd
  |_=>cases hd
 |vw p=>
  rw[hst]at hd
  obtain⟨t,u,g1,g2⟩:=(h.con r k).vw p hst
  have view:∀q:Pl,(∀tu,G.PH p=some tu->(G.renum s).PH q=some tu)->ConG F G s w r k (mkC 0 0 (.vw q)):=by
   intro q hq
   refine⟨⟨yl.1,yl.2,(fun x2 d2 t2 e=>by rw[QD]at e;cases e),fun p2 e=> ?_⟩,fun u2 hu=> ?_⟩
   ·rw[QD]at e;cases e
    refine⟨t,u, ?_,hq _ g2⟩
    rw[Q1]
    show(if(0:Nat)=0 then G.H r k (s.gC r k).id else none)=_
    rw[if_pos rfl];exact g1
   ·unfold Xe at hu⊢
    rw[hst]at hu
    rw[QD]
    obtain⟨t2,h2⟩:=hu
    exact⟨t2,hq _ h2⟩
  cases c with
  |vw r2 k2=>
   simp only[Qfo]at hd
   split at hd
   ·rename_i hat
    cases hd
    refine⟨.vw ⟨r2,k2,0,0,none,none⟩,rfl,view _ (fun tu htu=> ?_),fun⟨y,e⟩=>by cases e⟩
    show(if(0:Nat)=0 then G.H r2 k2 (s.gC r2 k2).id else none)=_
    rw[if_pos rfl]
    exact Qq5 h 8 p r2 k2 _ (QEw hat) htu
   ·cases hd
  |nest r2 k2 m=>
   simp only[Qfo]at hd
   split at hd
   ·rename_i i m' hn hr
    split at hd
    ·rename_i hc
     simp only[QQ5,beq_iff_eq]at hc
     obtain⟨⟨⟨⟨⟨c1,c2⟩,c3⟩,c4⟩,c5⟩,c6⟩:=hc
     cases hd
     refine⟨.vw ⟨r2,k2,0,0,some (i,m),none⟩,rfl,view _ (fun tu htu=> ?_),fun⟨y,e⟩=>by cases e⟩
     show(if(0:Nat)=0/\(0:Nat)=0 then G.HN r2 k2 (s.gC r2 k2).id (s.gC r2 k2).nv i m else none)=_
     rw[if_pos ⟨rfl,rfl⟩]
     unfold Gh.PH Gh.base at htu
     rw[hr,hn]at htu
     simp only at htu
     rw[<-c1,<-c2,c3,<-htu,<-c4,<-c5,c1,c2]
    ·cases hd
   ·cases hd
  |_=>cases hd
end
section
variable {F:Fix}{G:Gh}{s:St}{a:Act}{w:World}
theorem QDi {r k r' k':Nat}{c:SkC}{l:List (Nat×Nat×SkC)}(h:listed ((r,k,c)::l) r' k'=true):(r'=r/\k'=k)\/listed l r' k'=true:=by
 simp only[listed,List.any_cons,QY32,QQ5,QY15]at h
 rcases h with h|h
 ·exact .inl ⟨h.1.symm,h.2.symm⟩
 ·exact .inr h
theorem Qw3 (h:Rel F G s a w):(l:List (Nat×Nat×SkC))->(xs rest:List TV)->(t:St)->yQ s l=some xs->(∀r k,ConG F G s w r k (t.gC r k))->
 (∀r k c,(r,k,c)∈l->∀t d tag,c= .own t d tag->∀x d' tag',(s.gC r k).st= .own x d' tag'->d'=d)->
 (yN l (xs++rest) t).n=t.n/\(yN l (xs++rest) t).tm=t.tm/\(yN l (xs++rest) t).bx=t.bx/\(∀r k,ConG F G s w r k ((yN l (xs++rest) t).gC r k))/\
   ∀r k,(listed l r k=true\/∃x,(t.gC r k).st= .fix x)->(∃x,(s.gC r k).st= .fix x)->∃x,((yN l (xs++rest) t).gC r k).st= .fix x
 | [],xs,rest,t,hd,hg,_=>⟨rfl,rfl,rfl,hg,fun r k h _=>by
   rcases h with h|h
   ·cases h
   ·exact h⟩
 |(r,k,c)::l,xs,rest,t,hd,hg,hdeep=>by
  simp only[yQ]at hd
  split at hd
  ·rename_i x y h1 h2
   cases hd
   obtain⟨c',q1,q2,q3⟩:=QHw h r k c x (y++rest) h1 (hdeep r k c (by simp))
   have e:yN ((r,k,c)::l) (x++y++rest) t=yN l (y++rest) (t.sC r k (mkC 0 0 c')):=by
    rw[QRc]
    simp only[yN,q1]
   rw[e]
   obtain⟨g1,g2,g3,g4,g5⟩:=Qw3 h l y rest (t.sC r k (mkC 0 0 c')) h2 (fun r' k'=>by
    rw[QP]
    split
    ·rename_i e;obtain⟨rfl,rfl⟩:=e;exact q2
    ·exact hg r' k') (fun r' k' c2 hm=>hdeep r' k' c2 (by simp[hm]))
   refine⟨g1,g2,g3,g4,fun r' k' hl hf=>g5 r' k' ?_ hf⟩
   rw[QP]
   by_cases e:r=r'/\k=k'
   ·rw[if_pos e]
    obtain⟨rfl,rfl⟩:=e
    obtain⟨x2,hx⟩:=q3 hf
    exact .inr ⟨x2,by rw[QD];exact hx⟩
   ·rw[if_neg e]
    rcases hl with hl|hl
    ·rcases QDi hl with⟨rfl,rfl⟩|hl
     ·exact(e ⟨rfl,rfl⟩).elim
     ·exact .inl hl
    ·exact .inr hl
  ·cases hd
theorem QEY:(L:List (Nat×Nat))->(acc:List (Nat×Nat))->(L.all fun b=>Nat.beq (s.gB b.1).2 b.2)=true->(∀r,lget (0,0) acc r=(0,(s.gB r).2)\/lget (0,0) acc r=(0,0))->
 (∀r,lget (0,0) (L.foldl (fun l b=>lset (0,0) l b.1 (0,b.2)) acc) r=(0,(s.gB r).2)\/lget (0,0) (L.foldl (fun l b=>lset (0,0) l b.1 (0,b.2)) acc) r=(0,0)/\lget (0,0) acc r=(0,0))/\
   (∀r,((∃n,(r,n)∈L)\/lget (0,0) acc r=(0,(s.gB r).2))->lget (0,0) (L.foldl (fun l b=>lset (0,0) l b.1 (0,b.2)) acc) r=(0,(s.gB r).2))/\
   ∀r,lget (0,0) (L.foldl (fun l b=>lset (0,0) l b.1 (0,b.2)) acc) r≠(0,0)->(∃n,(r,n)∈L/\n=(s.gB r).2)\/lget (0,0) acc r≠(0,0)
 | [],acc,_,hg=>⟨fun r=>(hg r).imp id fun h=>⟨h,h⟩,fun r h=>by
   rcases h with⟨n,h⟩|h
   ·cases h
   ·exact h,fun r h=> .inr h⟩
 |(q,m)::L,acc,hb,hg=>by
  simp only[QY29,QQ5,QY15]at hb
  have hset:∀r,lget (0,0) (lset (0,0) acc q (0,m)) r=if q=r then(0,m)else lget (0,0) acc r:=fun r=>by
   by_cases e:q=r
   ·subst e;rw[if_pos rfl,XJ]
   ·rw[if_neg e,X8 _ _ _ _ e]
  obtain⟨g1,g2,g3⟩:=QEY L (lset (0,0) acc q (0,m)) hb.2 (fun r=>by
   rw[hset]
   split
   ·rename_i e;subst e;rw[hb.1];exact .inl rfl
   ·exact hg r)
  have hq:lget (0,0) (lset (0,0) acc q (0,m)) q=(0,(s.gB q).2):=by rw[hset,if_pos rfl,hb.1]
  refine⟨fun r=> ?_,fun r h=>g2 r ?_,fun r h=> ?_⟩
  ·rcases g1 r with h|⟨h1,h2⟩
   ·exact .inl h
   ·rw[hset]at h2
    split at h2
    ·rename_i e;subst e
     exact .inl (g2 q (.inr hq))
    ·exact .inr ⟨h1,h2⟩
  ·by_cases e:q=r
   ·subst e;exact .inr hq
   ·rw[hset,if_neg e]
    rcases h with⟨n,h⟩|h
    ·rcases QRk.1 h with h|h
     ·cases h;exact(e rfl).elim
     ·exact .inl ⟨n,h⟩
    ·exact .inr h
  ·rcases g3 r h with⟨n,h1,h2⟩|h1
   ·exact .inl ⟨n,by simp[h1],h2⟩
   ·rw[hset]at h1
    split at h1
    ·rename_i e;subst e;exact .inl ⟨m,by simp,hb.1.symm⟩
    ·exact .inr h1
theorem reenc (h:Rel F G s a w) {sk:Sk}{v:Qm sk.tys}{xs ys:List TV}(hT:Qcp s sk.tm=some xs) (hC:yQ s sk.cn=some ys) (hv:unpack sk.tys v=xs++ys) (hB:(sk.bx.all fun b=>Nat.beq (s.gB b.1).2 b.2)=true)
 (hfix:∀r k n,(r,n)∈sk.bx->k<n->(∃x,(s.gC r k).st= .fix x)->listed sk.cn r k=true) (hpb:∀r b n,F.pb r b n->∃m,(r,m)∈sk.bx)
 (hdeep:∀r k c,(r,k,c)∈sk.cn->∀t d tag,c= .own t d tag->∀x d' tag',(s.gC r k).st= .own x d' tag'->d'=d):Rel F (G.renum s) (enc s.n sk v) a w:=by
 obtain⟨tm',q1,q2⟩:=QjQ h sk.tm xs ys [] hT (fun i v hv=>by
  have:lget Cell.dead [] i= .dead:=by cases i<;>rfl
  rw[this];trivial)
 obtain⟨b1,b2,b3⟩:=QEY (s:=s) sk.bx [] hB (fun r=> .inr (by cases r<;>rfl))
 have hnil:∀r,lget (0,0) ([]:List (Nat×Nat)) r=(0,0):=fun r=>by cases r<;>rfl
 have henc:enc s.n sk v=yN sk.cn ys ⟨s.n,tm',[],sk.bx.foldl (fun l b=>lset (0,0) l b.1 (0,b.2)) []⟩:=by
  unfold enc
  rw[hv,q1]
 obtain⟨g1,g2,g3,g4,g5⟩:=Qw3 h sk.cn ys [] ⟨s.n,tm',[],sk.bx.foldl (fun l b=>lset (0,0) l b.1 (0,b.2)) []⟩ hC (fun r k=>by
  have:(⟨s.n,tm',[],sk.bx.foldl (fun l b=>lset (0,0) l b.1 (0,b.2)) []⟩:St).gC r k=yE:=by cases r<;>cases k<;>rfl
  rw[this];exact ConG.dead) hdeep
 rw[QY11]at g1 g2 g3 g4 g5
 rw[henc]
 generalize yN sk.cn ys ⟨s.n,tm',[],sk.bx.foldl (fun l b=>lset (0,0) l b.1 (0,b.2)) []⟩=s' at g1 g2 g3 g4 g5
 have hgB:∀r,s'.gB r=lget (0,0) (sk.bx.foldl (fun l b=>lset (0,0) l b.1 (0,b.2)) []) r:=fun r=>by unfold St.gB;rw[g3]
 constructor
 ·rw[g1];exact h.size
 ·exact h.defers
 ·intro i
  have:s'.gT i=lget .dead tm' i:=by unfold St.gT;rw[g2]
  rw[this];exact q2 i _ (h.tm i)
 ·intro r k;exact(g4 r k).con
 ·intro r
  refine⟨fun j hj=> ?_,fun hl=> ?_⟩
  ·have:(s'.gB r).1=0:=by
    rw[hgB]
    rcases b1 r with h|⟨h,_⟩<;>rw[h]
   exact if_neg (by omega)
  ·have hne:lget (0,0) (sk.bx.foldl (fun l b=>lset (0,0) l b.1 (0,b.2)) []) r≠(0,0):=fun e=>by rw[hgB,e]at hl;exact hl rfl
   have hr:s'.gB r=(0,(s.gB r).2):=by
    rw[hgB]
    rcases b1 r with h|⟨h,_⟩
    ·exact h
    ·exact(hne h).elim
   obtain⟨n,hm,hn⟩:∃n,(r,n)∈sk.bx/\n=(s.gB r).2:=by
    rcases b3 r hne with h|h
    ·exact h
    ·exact(h (hnil r)).elim
   rw[hr]at hl⊢
   simp only at hl⊢
   obtain⟨b,cur,e,k1,k2,k3,k4,k5⟩:=(h.box r).live hl
   refine⟨b,cur,e,(show(if(0:Nat)=0 then G.GB r (s.gB r).1 else none)=some b by rw[if_pos rfl];exact k1),k2,k3,k4,fun k hk=> ?_⟩
   obtain⟨u,m1,m2,m3,m4⟩:=k5 k hk
   refine⟨u,m1,m2,fun hn=>(g4 r k).box u (m3 hn),fun hlk=> ?_⟩
   have hf:=m4 hlk
   exact g5 r k (.inl (hfix r k n hm (by omega) hf)) hf
 ·intro κ x hx
  exact(h.it κ x hx).give (fun b hb=>hb) (fun b hb=>((h.it κ x hx).key b hb).1)
 ·exact h.lt
 ·exact h.own
 ·exact h.ro
 ·exact h.roR
 ·exact h.grow
 ·exact h.lock
 ·exact h.lockow
 ·intro r b n hp
  obtain⟨p1,p2,p3⟩:=h.pbox r b n hp
  refine⟨?_, ?_,p3⟩
  ·rw[hgB,b2 r (.inl (hpb r b n hp)),p1]
  ·show(if(0:Nat)=0 then G.GB r (s.gB r).1 else none)=_
   rw[if_pos rfl,p1];exact p2
end
theorem QHy {s:St}{r k:Nat}:(s.gI r k).sh.jd=true↔∃x,(s.gC r k).st= .fix x:=by
 constructor
 ·intro h
  have:(s.gC r k).sh.jd=true:=h
  unfold Con.st
  cases hs:(s.gC r k).sh<;>rw[hs]at this<;>first|exact⟨_,rfl⟩|cases this
 ·rintro⟨x,h⟩
  show(s.gC r k).sh.jd=true
  unfold Con.st at h
  cases hs:(s.gC r k).sh<;>rw[hs]at h<;>first|rfl|cases h
theorem QqB {f:Nat->Bool}:(n:Nat)->Qqc f n=true->∀k,k<n->f k=true
 |0,_,k,hk=>by omega
 |n+1,h,k,hk=>by
  simp only[Qqc,QQ5]at h
  by_cases e:k=n
  ·rw[e];exact h.1
  ·exact QqB n h.2 k (by omega)
theorem mem_keys {r k:Nat}{c:SkC}{l:List (Nat×Nat×SkC)}(h:(r,k,c)∈l):(r,k)∈qQ l:=QY18.2 ⟨_,h,rfl⟩
theorem QCO:(l:List (Nat×Nat×SkC))->(qQ l).Nodup->∀r k c c',(r,k,c)∈l->(r,k,c')∈l->c=c'
 | [],_,_,_,_,_,h,_=>by cases h
 |e::l,hn,r,k,c,c',h,h'=>by
  have hn:((e.1,e.2.1)::qQ l).Nodup:=hn
  rw[QY4]at hn
  rcases QRk.1 h with h1|h1
  ·rcases QRk.1 h' with h2|h2
   ·rw[<-h1]at h2;cases h2;rfl
   ·rw[<-h1]at hn;exact(hn.1 (mem_keys h2)).elim
  ·rcases QRk.1 h' with h2|h2
   ·rw[<-h2]at hn;exact(hn.1 (mem_keys h1)).elim
   ·exact QCO l hn.2 r k c c' h1 h2
theorem QzD {s:St}:(l:List (Nat×Nat×SkC))->(xs:List TV)->yQ s l=some xs->∀r k c,(r,k,c)∈l->∃ys,Qfo s c (s.gC r k).st=some ys
 | [],xs,h,r,k,c,hm=>by cases hm
 |(r',k',c')::l,xs,h,r,k,c,hm=>by
  simp only[yQ]at h
  split at h
  ·rename_i x y h1 h2
   rcases QRk.1 hm with hm|hm
   ·cases hm;exact⟨x,h1⟩
   ·exact QzD l y h2 r k c hm
  ·cases h
theorem Sim.Qfo {s s2:St}(h:Sim s s2) (c:SkC) (r k:Nat) (hd:∀t d tag,c= .own t d tag->∀x tag',(s.gC r k).st= .own x true tag'->(s2.gC r k).st= .own x false tag'->d=false):Qfo s2 c (s2.gC r k).st=Qfo s c (s.gC r k).st:=by
 have hown:∀r k,QFD (s2.gC r k).st=QFD (s.gC r k).st:=fun r k=>by
  rcases h.st r k with e|⟨x,tag,e1,e2⟩
  ·rw[e]
  ·rw[e1,e2];rfl
 rcases h.st r k with e|⟨x,tag,e1,e2⟩
 ·rw[e]
  cases c<;>cases(s.gC r k).st<;>simp only[Eng.Qfo,h.at_,h.id,h.nv,hown]
 ·rw[e1,e2]
  cases c with
  |own t d tag'=>
   have:=hd t d tag' rfl x tag e1 e2
   subst this
   simp[Eng.Qfo]
  |_=>rfl
theorem Sim.yQ {s s2:St}(h:Sim s s2):(l:List (Nat×Nat×SkC))->(∀r k c,(r,k,c)∈l->∀t d tag,c= .own t d tag->∀x tag',(s.gC r k).st= .own x true tag'->(s2.gC r k).st= .own x false tag'->d=false)->yQ s2 l=yQ s l
 | [],_=>rfl
 |(r,k,c)::l,hd=>by
  simp only[Eng.yQ,h.Qfo c r k (hd r k c (by simp)),h.yQ l (fun r' k' c' hm=>hd r' k' c' (by simp[hm]))]
theorem reencode {F:Fix}{G:Gh}{s:St}{a:Act}{w:World}(h:Rel F G s a w) {sk:Sk}{v:Qm sk.tys}(hd:dec sk s=some v) (hpb:∀r b n,F.pb r b n->∃m,(r,m)∈sk.bx) (hnd:(qQ sk.cn).Nodup):∃G',Rel F G' (enc s.n sk v) a w:=by
 unfold dec at hd
 split at hd
 ·rename_i xs ys hT hC hB
  simp only[QQ5]at hB
  obtain⟨hp1,hp2⟩:=Qnu _ _ _ hd
  obtain⟨G',s2,l1,hs,r2,p1,p2⟩:=QpD sk.cn G s (Sim.refl s) h
  have hkey:∀r k c,(r,k,c)∈sk.cn->∀t d tag,c= .own t d tag->∀x d' tag',(s2.gC r k).st= .own x d' tag'->d'=d:=by
   intro r k c hm t d tag e x d' tag' hst
   subst e
   cases d with
   |false=>
    refine p2 r k (.inl ?_) x d' tag' hst
    exact QY18.2 ⟨_,List.mem_filter.2 ⟨hm,rfl⟩,rfl⟩
   |true=>
    have hn:(r,k)∉qQ (sk.cn.filter fun e=>e.2.2.qf):=fun hin=>by
     obtain⟨⟨r',k',c'⟩,hm',e⟩:=QY18.1 hin
     cases e
     obtain⟨h1,h2⟩:=List.mem_filter.1 hm'
     have:=QCO _ hnd _ _ _ _ hm h1
     subst this
     cases h2
    rw[p1 r k hn]at hst
    obtain⟨zs,hz⟩:=QzD _ _ hC r k _ hm
    rw[hst]at hz
    simp only[Qfo]at hz
    split at hz
    ·rename_i hc
     simp only[QQ5,QY32,QQ3]at hc
     simpa using hc.1
    ·cases hz
  have hdC:yQ s2 sk.cn=some ys:=by
   rw[hs.yQ sk.cn (fun r k c hm t d tag e x tag' e1 e2=>(hkey r k c hm t d tag e x false tag' e2).symm)]
   exact hC
  rw[<-hs.n]
  refine⟨_,reenc r2 (by rw[hs.Qcp];exact hT) hdC hp2 (by
   have:=hB.1
   rw[QRt]at this⊢
   intro b hb
   rw[hs.bx];exact this b hb) (fun r k n hm hk hf=> ?_) hpb hkey⟩
  have hf2:∃x,(s.gC r k).st= .fix x:=by
   obtain⟨x,hx⟩:=hf
   rcases hs.st r k with e|⟨y,tag,e1,e2⟩
   ·exact⟨x,by rw[<-e];exact hx⟩
   ·rw[e2]at hx;cases hx
  have:=QqB _ (QRt.1 hB.2 _ hm) k hk
  simp only[QY32,QY14]at this
  rcases this with h0|h0
  ·rw[QHy.2 hf2]at h0;cases h0
  ·exact h0
 ·cases hd
theorem JC {γ:Type}:(p:RP γ)->(s:St)->(x:γ)->(s':St)->p.run s=some (x,s')->s'.n=s.n
 | .ret _,s,x,s',h=>by cases h;rfl
 | .fail,s,x,s',h=>by cases h
 | .ZT i f,s,x,s',h=>JC (f (s.gT i)) s x s' h
 | .xC i c p,s,x,s',h=>by
   simp only[RP.run]at h
   cases hb:Nat.blt i s.n with
   |true=>rw[hb]at h;exact JC p (s.sT i c) x s' h
   |false=>rw[hb]at h;cases h
 | .getC r k f,s,x,s',h=>JC (f (s.gC r k)) s x s' h
 | .setC r k c p,s,x,s',h=>JC p (s.sC r k c) x s' h
 | .getI r k f,s,x,s',h=>JC (f (s.gI r k)) s x s' h
 | .setV r k y p,s,x,s',h=>JC p (s.sV r k y) x s' h
 | .getB r f,s,x,s',h=>JC (f (s.gB r)) s x s' h
 | .setB r g p,s,x,s',h=>JC p (s.sB r g) x s' h
 | .br b p q,s,x,s',h=>by
   simp only[RP.run]at h
   cases b with
   |true=>exact JC p s x s' h
   |false=>exact JC q s x s' h
 | .brT i p q,s,x,s',h=>by
   simp only[RP.run]at h
   cases hb:Xt (s.gT i)with
   |none=>rw[hb]at h;cases h
   |some b=>
    rw[hb]at h
    cases b with
    |true=>exact JC p s x s' h
    |false=>exact JC q s x s' h
 | .brG i want p q,s,x,s',h=>by
   simp only[RP.run]at h
   cases hb:Xt (s.gT i)with
   |none=>
    rw[hb]at h
    simp only at h
    split at h
    ·exact JC q s x s' h
    ·cases h
   |some b=>
    rw[hb]at h
    cases b<;>cases want<;>first|exact JC p s x s' h|exact JC q s x s' h
 | .call ts o f,s,x,s',h=>by
   simp only[RP.run]at h
   cases o with
   |none=>cases h
   |some y=>exact JC (f y) s x s' h
section
variable {P:Program}{E:Env}{D:Xz E}{nk:Fx}{F:Fix}{G:Gh}{s s':St}{a:Act}{w:World}
theorem QAB {β:Type}(hT:XZ P E) (hE:EnvCode P E) (hD:jf P E D) (hnk:BoxIn E.gg F nk) (hmix:P.follows .mixedOrders=true) {id:Nat}{ops:Array Oper}{draw:Bool}{Q:Exit->Act->World->Prop}{K:St->Option β}{out:β}
 (h:(if draw then QgO E D nk ops.toList ops.toList [] s K else QpT E D nk ops.toList ops.toList s K)=some out) (hr:Rel F G s a w) (hQ:∀s' G' a' w',Rel F G' s' a' w'->s'.n=s.n->K s'=some out->Q .normal a' w'):(Code.region id ops draw).wp P Q a w:=by
 cases draw with
 |true=>
  rw[if_pos rfl]at h
  refine QLl (E:=E) (D:=D) (fx:=nk) hmix (fun s2 a w=>s2.n=s.n/\∃G,Rel F G s2 a w) (fun s2 a w ⟨hn,G,hg⟩=>⟨hn,G,hg.drawn _⟩) (fun i o hi s2 s3 a w ⟨hn,G,hg⟩ hrun K hK=> ?_) h ⟨rfl,G,hr⟩ (fun s' a' w' ⟨hn,G',hg'⟩ hk=>hQ s' G' a' w' hg' hn hk)
  exact Qrm hT hE hD hnk hi hg hrun K Q (fun G' a' w' hr'=>hK a' w' ⟨(JC _ _ _ _ hrun).trans hn,G',hr'⟩)
 |false=>
  rw[if_neg (by simp)]at h
  refine wp_region ?_
  have main:∀(k:Nat) (l:List Oper) (s2:St) (G:Gh) (a:Act) (w:World),(∀j,l[j]? =ops[k+j]?)->k+l.length=ops.size->QpT E D nk ops.toList l s2 K=some out->Rel F G s2 a w->s2.n=s.n->wpOps P ops Q (List.range' k l.length) a w:=by
   intro k l
   induction l generalizing k with
   |nil=>
    intro s2 G a w _ _ he hr' hn
    exact hQ s2 G a w hr' hn he
   |cons o l ih=>
    intro s2 G a w hget hlen he hr' hn
    simp only[QpT]at he
    rw[RP.QHk]at he
    cases hrun:(KG (xW E D nk ops.toList o)).run s2 with
    |none=>rw[hrun]at he;cases he
    |some x=>
     rw[hrun]at he
     obtain⟨u,s1⟩:=x
     simp only[QQ0]at he
     rw[QY1,List.range'_succ,wpOps_cons]
     refine Qrm hT hE hD hnk (by have:=hget 0;rw[QY3]at this;exact this.symm) hr' hrun _ Q (fun G' a' w' hr2=> ?_)
     exact ih (k+1) s1 G' a' w' (fun j=>by have:=hget (j+1);simp only[List.getElem?_cons_succ]at this;rw[this];congr 1;omega) (by simp at hlen;omega) he hr2 ((JC _ _ _ _ hrun).trans hn)
  have:=main 0 ops.toList s G a w (fun j=>by simp) (by simp) h hr rfl
  rw[<-List.range_eq_range']at this
  simpa using this
def Qxy:Ex->Exit
 | .normal=> .normal
 | .exit i=> .exit i
 | .ret=> .ret
def Qsy (n:Nat):(l:List (Ex×Sk))->qW (Vc l)->Option (Ex×St)
 | [],_=>none
 | [(e,sk)],v=>some (e,enc n sk v)
 |(e,sk)::a::l,z=>Sum.elim (fun v=>some (e,enc n sk v)) (fun z'=>Qsy n (a::l) z') z
theorem QxJ {β:Type}(n:Nat) (K:Ex->St->Option β):(l:List (Ex×Sk))->(z:qW (Vc l))->Qy0 n l z K=(Qsy n l z).bind fun x=>K x.1 x.2
 | [],_=>rfl
 | [(e,sk)],v=>rfl
 |(e,sk)::a::l,z=>by
  cases z with
  |inl v=>rfl
  |inr z'=>exact QxJ n K (a::l) z'
theorem Ex.QEz {e e':Ex}(h:e.eq e'=true):e=e':=by
 cases e<;>cases e'<;>simp[Ex.eq]at h<;>first|rfl|(rw [h])
theorem QuC {n:Nat}{e:Ex}{s:St}:(l:List (Ex×Sk))->(z:qW (Vc l))->inj l e s=some z->∃sk v,(e,sk)∈l/\dec sk s=some v/\Qsy n l z=some (e,enc n sk v)
 | [],z,h=>by cases h
 | [(e',sk)],z,h=>by
   have h:(if e.eq e'=true then dec sk s else none:Option (Qm sk.tys))=some z:=h
   by_cases he:e.eq e'=true
   ·rw[if_pos he]at h
    have:=Ex.QEz he
    subst this
    exact⟨sk,z,by simp,h,rfl⟩
   ·rw[if_neg he]at h;cases h
 |(e',sk)::b::l,z,h=>by
  simp only[inj]at h
  split at h
  ·rename_i v hv
   split at hv
   ·rename_i he
    have:=Ex.QEz he
    subst this
    cases h
    exact⟨sk,v,by simp,hv,rfl⟩
   ·cases hv
  ·split at h
   ·rename_i v hv
    cases h
    obtain⟨sk',v',h1,h2,h3⟩:=QuC (n:=n) (b::l) v hv
    exact⟨sk',v',by simp only[QRk]at h1⊢; exact .inr h1,h2,h3⟩
   ·cases h
def QBV (F:Fix) (sg:Sig):Prop:=∀r b n,F.pb r b n->r∈Jk 0 sg.ps
def QGz (sg:Sig) (sk:Sk):Prop:=(∀r∈Jk 0 sg.ps,∃m,(r,m)∈sk.bx)/\(qQ sk.cn).Nodup
def Xa:Code->List (Nat×Code)
 | .block b (.loop c)=>(b,c)::Xa c
 | .block _ c=>Xa c
 | .seq a b=>Xa a++Xa b
 | .cond _ a b=>Xa a++Xa b
 | .loop c=>Xa c
 | .scope c=>Xa c
 |_=>[]
structure EnvLoops (E:Env):Prop where
 body:∀f,E.fok f=true->∀b c,(b,c)∈Xa (E.code f)->(∀b'∈E.vars f b,E.body f b'=c/\E.vars f b'=E.vars f b)/\(∀x∈Xa c,x∈Xa (E.code f))
 loop:∀f,E.fok f=true->∀b,E.lok f b=true->∃b0,(b0,E.body f b)∈Xa (E.code f)/\b∈E.vars f b0
 sk:∀f,E.fok f=true->∀b,E.lok f b=true->QGz (E.sig f) (E.lsig f b).sk/\∀x∈(E.lsig f b).exits,QGz (E.sig f) x.2
def Qk1 (P:Program) (E:Env) (n:Nat) (L:zc E):Prop:=∀f b v z,E.fok f=true->E.lok f b=true->L f b v=some z->∀(F:Fix) (G:Gh) (a:Act) (w:World) (Q:Exit->Act->World->Prop),QBV F (E.sig f)->BoxIn E.gg F (E.fx f)->Rel F G (enc (E.nt f) (E.lsig f b).sk v) a w->
 (∀e s',Qsy (E.nt f) (E.lsig f b).exits z=some (e,s')->∀G' a' w',Rel F G' s' a' w'->Q (Qxy e) a' w')->Code.rounds P (E.body f b) Q n a w
theorem QEX:(l:List (Nat×Nat×SkC))->(xs:List TV)->(s:St)->(yN l xs s).n=s.n
 | [],_,_=>rfl
 |(r,k,c)::l,xs,s=>by simp only[yN];exact QEX l _ _
theorem QFB (n:Nat) (sk:Sk) (v:Qm sk.tys):(enc n sk v).n=n:=by
 unfold enc
 generalize Qjs sk.tm (unpack sk.tys v) []=y
 obtain⟨tm,rest⟩:=y
 exact QEX _ _ _
theorem Qho {f:Nat}(hF:QBV F (E.sig f)) (h:Rel F G s a w) {sk:Sk}(hsk:QGz (E.sig f) sk) {v:Qm sk.tys}(hd:dec sk s=some v) (hn:s.n=E.nt f):∃G',Rel F G' (enc (E.nt f) sk v) a w:=by
 rw[<-hn]
 exact reencode h hd (fun r b n hp=>hsk.1 r (hF r b n hp)) hsk.2
theorem Qrr (n:Nat) {e:Ex}{s:St}:(l:List (Ex×Sk))->(z:qW (Vc l))->Qsy n l z=some (e,s)->s.n=n
 | [],_,h=>by cases h
 | [(e,sk)],v,h=>by cases h;exact QFB _ _ _
 |(e,sk)::a::l,z,h=>by
  cases z with
  |inl v=>cases h;exact QFB _ _ _
  |inr z'=>exact Qrr n (a::l) z' h
theorem Qrf {β:Type}{L:zc E}{N:Nat}(hL:Qk1 P E N L) (hLo:EnvLoops E) {f:Nat}(hf:E.fok f=true) (hF:QBV F (E.sig f)) (hin:BoxIn E.gg F (E.fx f)) (hr:Rel F G s a w) (hn:s.n=E.nt f) {K:Ex->St->Option β}{out:β}{c:Code}{Q:Exit->Act->World->Prop}
 (hQ:∀e s' G' a' w',Rel F G' s' a' w'->s'.n=E.nt f->K e s'=some out->Q (Qxy e) a' w'):(bs:List Nat)->(∀b∈bs,E.body f b=c)->QhS E L f s K bs=some out->(Code.loop c).wp P Q a w
 | [],_,h=>by cases h
 |b::bs,hb,h=>by
  simp only[QhS]at h
  split at h
  ·rename_i hlok
   split at h
   ·rename_i v hv
    cases hz:L f b v with
    |none=>rw[hz]at h;cases h
    |some z=>
     rw[hz]at h
     simp only[QQ0]at h
     rw[QxJ]at h
     obtain⟨G1,r1⟩:=Qho hF hr (hLo.sk f hf b hlok).1 hv hn
     have:=hL f b v z hf hlok hz F G1 a w Q hF hin r1 (fun e s' he G' a' w' hr'=>by
      rw[he]at h
      exact hQ e s' G' a' w' hr' (Qrr _ _ _ he) h)
     rw[hb b (by simp)]at this
     exact wp_loop_rounds N this
   ·exact Qrf hL hLo hf hF hin hr hn hQ bs (fun b' hb'=>hb b' (by simp[hb'])) h
  ·cases h
theorem QDU {c:Cell}{b:Bool}(h:Xt c=some b):c=mkB b:=by
 unfold Xt at h
 split at h
 ·cases h;rfl
 ·cases h
end
section
variable {P:Program}{E:Env}{D:Xz E}{L:zc E}{F:Fix}
def zO {β:Type}(b:Nat) (K:Ex->St->Option β):Ex->St->Option β
 | .normal,s=>K .normal s
 | .ret,s=>K .ret s
 | .exit i,s=>if i==b then K .normal s else K (.exit i) s
def QoP:Code->Bool
 | .loop _=>true
 |_=>false
theorem Qs4 {β:Type}(b:Nat) (K:Ex->St->Option β):(fun(e:Ex) (s':St)=>match e with| .exit i=>if i==b then K .normal s' else K e s'|e=>K e s')=zO b K:=by
 funext e s';cases e<;>rfl
theorem QCt {β:Type}{f b:Nat}{x:Code}{s:St}{K:Ex->St->Option β}(hx:QoP x=false):ev E D L f (.block b x) s K=ev E D L f x s (zO b K):=by
 rw[<-Qs4]
 cases x<;>first|(simp [QoP]at hx;done)|rfl
theorem Qz2 {β:Type}{f b:Nat}{c:Code}{s:St}{K:Ex->St->Option β}:ev E D L f (.block b (.loop c)) s K=QhS E L f s (zO b K) (E.vars f b):=by
 rw[<-Qs4]
 rfl
theorem QBI {β:Type}(hT:XZ P E) (hE:EnvCode P E) (hLo:EnvLoops E) (hD:jf P E D) {N:Nat}(hL:Qk1 P E N L) (hmix:P.follows .mixedOrders=true) {f:Nat}(hf:E.fok f=true) (hF:QBV F (E.sig f)) (hin:BoxIn E.gg F (E.fx f)) {out:β}:
 (c:Code)->(∀x∈Xa c,x∈Xa (E.code f))->(s:St)->(K:Ex->St->Option β)->(G:Gh)->(a:Act)->(w:World)->(Q:Exit->Act->World->Prop)->ev E D L f c s K=some out->Rel F G s a w->s.n=E.nt f->
 (∀e s' G' a' w',Rel F G' s' a' w'->s'.n=E.nt f->K e s'=some out->Q (Qxy e) a' w')->c.wp P Q a w:=by
 intro c
 induction c with
 |skip=>intro hsub s K G a w Q h hr hn hQ;exact wp_skip (hQ .normal s G a w hr hn h)
 |region id ops draw=>
  intro hsub s K G a w Q h hr hn hQ
  exact QAB hT hE hD hin hmix (K:=fun s'=>K .normal s') h hr (fun s' G' a' w' hr' hn' hk=>hQ .normal s' G' a' w' hr' (hn'.trans hn) hk)
 |seq x y ihx ihy=>
  intro hsub s K G a w Q h hr hn hQ
  simp only[ev]at h
  refine wp_seq (ihx (fun z hz=>hsub z (by simp[Xa,hz])) s _ G a w _ h hr hn (fun e s' G' a' w' hr' hn' hk=> ?_))
  cases e with
  |normal=>exact ihy (fun z hz=>hsub z (by simp[Xa,hz])) s' K G' a' w' Q hk hr' hn' hQ
  |exit i=>exact hQ (.exit i) s' G' a' w' hr' hn' hk
  |ret=>exact hQ .ret s' G' a' w' hr' hn' hk
 |cond o x y ihx ihy=>
  intro hsub s K G a w Q h hr hn hQ
  have hx:=ihx (fun z hz=>hsub z (by simp[Xa,hz]))
  have hy:=ihy (fun z hz=>hsub z (by simp[Xa,hz]))
  cases o with
  |tmp t=>
   simp only[ev]at h
   cases hb:Xt (s.gT t)with
   |none=>rw[hb]at h;cases h
   |some v=>
    rw[hb]at h
    simp only at h
    have hc:=QDU hb
    have hcell:=hr.tm t
    rw[hc]at hcell
    obtain⟨h1,us,us',h2,⟨bl,h3,_⟩,_⟩:=hcell
    have hv:a.tmps.getD t undef= .bool v:=by
     cases h2
     exact h3.1
    have hev:a.eval (.tmp t)= .bool v:=hv
    have hset:Rel F G (s.sT t (mkB v)) a w:=hr.QAJ (by rw[<-hc];exact hr.tm t)
    refine wp_cond (t:=v) hev ?_
    cases v with
    |true=>exact hx _ K G a w Q h hset hn hQ
    |false=>exact hy _ K G a w Q h hset hn hQ
  |const v=>
   cases v with
   |bool v=>
    simp only[ev]at h
    refine wp_cond (t:=v) rfl ?_
    cases v with
    |true=>exact hx s K G a w Q h hr hn hQ
    |false=>exact hy s K G a w Q h hr hn hQ
   |_=>simp[ev]at h
  |_=>simp[ev]at h
 |block b x ih=>
  intro hsub s K G a w Q h hr hn hQ
  refine wp_block ?_
  have hK:∀e s' G' a' w',Rel F G' s' a' w'->s'.n=E.nt f->zO b K e s'=some out->Exit.inBlock b Q (Qxy e) a' w':=by
   intro e s' G' a' w' hr' hn' hk
   cases e with
   |normal=>exact hQ .normal s' G' a' w' hr' hn' hk
   |ret=>exact hQ .ret s' G' a' w' hr' hn' hk
   |exit i=>
    simp only[zO]at hk
    show(if i=b then Q .normal a' w' else Q (.exit i) a' w')
    by_cases e:i=b
    ·rw[if_pos e]
     rw[if_pos (by simpa using e)]at hk
     exact hQ .normal s' G' a' w' hr' hn' hk
    ·rw[if_neg e]
     rw[if_neg (by simpa using e)]at hk
     exact hQ (.exit i) s' G' a' w' hr' hn' hk
  cases hl:QoP x with
  |false=>
   rw[QCt hl]at h
   refine ih (fun z hz=>hsub z ?_) s (zO b K) G a w _ h hr hn hK
   cases x<;>first|(simp [QoP]at hl;done)|(simpa only[Xa]using hz)
  |true=>
   cases x with
   |loop c=>
    rw[Qz2]at h
    have hmem:(b,c)∈Xa (E.code f):=hsub _ (by simp[Xa])
    exact Qrf hL hLo hf hF hin hr hn (K:=zO b K) (Q:=Exit.inBlock b Q) hK (E.vars f b) (fun b' hb'=>((hLo.body f hf b c hmem).1 b' hb').1) h
   |_=>simp[QoP]at hl
 |exit id=>intro hsub s K G a w Q h hr hn hQ;exact wp_exit (hQ (.exit id) s G a w hr hn h)
 |ret=>intro hsub s K G a w Q h hr hn hQ;exact wp_ret (hQ .ret s G a w hr hn h)
 |_=>intros;rename_i h _ _ _;simp[ev]at h
end
section
variable {P:Program}{E:Env}{D:Xz E}{L:zc E}{F:Fix}
theorem Qpm {N:Nat}(hL:Qk1 P E N L) (hLo:EnvLoops E) {f b:Nat}(hf:E.fok f=true) (hlok:E.lok f b=true) {G:Gh}{s:St}{a:Act}{w:World}(hF:QBV F (E.sig f)) (hin:BoxIn E.gg F (E.fx f)) (hr:Rel F G s a w) (hn:s.n=E.nt f) {z:qW (Vc (E.lsig f b).exits)}{Q:Exit->Act->World->Prop}{c:Code}
 (hQ:∀e s',Qsy (E.nt f) (E.lsig f b).exits z=some (e,s')->∀G' a' w',Rel F G' s' a' w'->Q (Qxy e) a' w'):(bs:List Nat)->(∀b'∈bs,E.body f b'=c)->Qa6 E L f b s bs=some z->Code.rounds P c Q N a w
 | [],_,h=>by cases h
 |b'::bs,hb,h=>by
  simp only[Qa6]at h
  split at h
  ·rename_i hlok'
   split at h
   ·rename_i v hv
    cases hz:L f b' v with
    |none=>rw[hz]at h;cases h
    |some z'=>
     rw[hz]at h
     simp only[QQ0]at h
     rw[QxJ]at h
     obtain⟨G1,r1⟩:=Qho hF hr (hLo.sk f hf b' hlok').1 hv hn
     have:=hL f b' v z' hf hlok' hz F G1 a w Q hF hin r1 (fun e s' he G' a' w' hr'=>by
      rw[he]at h
      simp only[QQ0]at h
      obtain⟨sk,v2,h1,h2,h3⟩:=QuC (n:=E.nt f) _ _ h
      obtain⟨G2,r2⟩:=Qho hF hr' ((hLo.sk f hf b hlok).2 _ h1) h2 (Qrr _ _ _ he)
      exact hQ e _ h3 G2 a' w' r2)
     rw[hb b' (by simp)]at this
     exact this
   ·exact Qpm hL hLo hf hlok hF hin hr hn hQ bs (fun b2 hb2=>hb b2 (by simp[hb2])) h
  ·cases h
theorem QDA (hT:XZ P E) (hE:EnvCode P E) (hLo:EnvLoops E) (hmix:P.follows .mixedOrders=true) (hD:jf P E D) {N:Nat}(hL:Qk1 P E N L):Qk1 P E (N+1) (Qf2 E D L):=by
 intro f b v z hf hlok h F G a w Q hF hin hr hQ
 obtain⟨b0,hb0,hbv⟩:=hLo.loop f hf b hlok
 obtain⟨hbody,hsub⟩:=hLo.body f hf b0 _ hb0
 rw[rounds_succ]
 unfold Qf2 at h
 refine QBI hT hE hLo hD hL hmix hf hF hin (E.body f b) hsub _ _ G a w _ h hr (QFB _ _ _) (fun e s' G' a' w' hr' hn' hk=> ?_)
 have other:inj (E.lsig f b).exits e s'=some z->Q (Qxy e) a' w':=fun hk=>by
  obtain⟨sk,v2,h1,h2,h3⟩:=QuC (n:=E.nt f) _ _ hk
  obtain⟨G2,r2⟩:=Qho hF hr' ((hLo.sk f hf b hlok).2 _ h1) h2 hn'
  exact hQ e _ h3 G2 a' w' r2
 cases e with
 |normal=>
  show Code.rounds P (E.body f b) Q N a' w'
  simp only[QFX]at hk
  split at hk
  ·rename_i v' hv'
   obtain⟨G1,r1⟩:=Qho hF hr' (hLo.sk f hf b hlok).1 hv' hn'
   exact hL f b v' z hf hlok hk F G1 a' w' Q hF hin r1 hQ
  ·refine Qpm hL hLo hf hlok hF hin hr' hn' hQ (E.vars f b) (fun b' hb'=>(hbody b' ?_).1) hk
   rw[<-(hbody b hbv).2];exact hb'
 |exit i=>exact other hk
 |ret=>exact other hk
theorem QDs (hT:XZ P E) (hE:EnvCode P E) (hLo:EnvLoops E) (hmix:P.follows .mixedOrders=true) (hD:jf P E D) {N:Nat}(hL:Qk1 P E N L):jf P E (QfQ E D L):=by
 intro f ins outs hf h
 unfold QfQ at h
 split at h
 ·rename_i g hg
  exact hE.ext f g hf hg ins outs h
 intro w R vs bs bls hgl hgb hin hnd hlt hR
 obtain⟨fn,h1,h2,h3,h4,h5⟩:=hE.fn f hf
 obtain⟨hs1,hs2⟩:=hE.small f hf
 obtain⟨F,G,q1,q2,q3,q4,q5,q6⟩:=QJ3 (nt:=E.nt f) (hE.sig f hf) hs1 hs2 hin hnd hlt hR
 have hbox:BoxIn E.gg F (E.fx f):=QJw q5 rfl rfl (by rw[q1];exact hgl) (fun b hb=>by rw[q1,q2,q3];exact⟨hgb b hb,(hR b (hgb b hb)).2,(hR b (hgb b hb)).1⟩)
 have hlen:=QcQ.len _ _ _ _ _ hin
 have hsize:(QhR (E.nt f) vs).tmps.size=E.nt f:=by simp[QhR];omega
 refine calls_of_wp h1 h3 ?_
 rw[<-h5]
 unfold QMc at h
 refine QBI hT hE hLo hD hL hmix hf q5 hbox (E.code f) (fun z hz=>hz) _ _ G (QhR (E.nt f) vs) w _ h q4 (by rw[<-q4.size,hsize]) (fun e s' G' a' w' hr' hn' hk=> ?_)
 have fin:(finish E f).ev s' (fun v _=>some v)=some outs->∃v,(results fn a'.tmps).run P w'= .ok v w'/\FnPost w w' R bs (bs++bls.flatten) (E.sig f) (unpack _ outs) vs v:=fun hk=>by
  rw[RP.QHk]at hk
  cases hrun:(finish E f).run s' with
  |none=>rw[hrun]at hk;cases hk
  |some x=>
   rw[hrun]at hk
   obtain⟨o,s2⟩:=x
   simp only[QQ0,Option.some.injEq]at hk
   subst hk
   exact QFR hT h4 hr' q1 q2 q3 hbox q6 hin hrun
 cases e with
 |normal=>
  obtain⟨v,g1,g2⟩:=fin hk
  exact⟨hr'.defers,v,g1,v,rfl,g2⟩
 |ret=>
  obtain⟨v,g1,g2⟩:=fin hk
  exact⟨hr'.defers,v,g1,v,rfl,g2⟩
 |exit i=>cases hk
end
def mean (E:Env):Nat->Xz E×zc E
 |0=>(fun _ _=>none,fun _ _ _=>none)
 |n+1=>(QfQ E (mean E n).1 (mean E n).2,Qf2 E (mean E n).1 (mean E n).2)
theorem Qd8 {P:Program}{E:Env}(hT:XZ P E) (hE:EnvCode P E) (hLo:EnvLoops E) (hmix:P.follows .mixedOrders=true):(n:Nat)->jf P E (mean E n).1/\Qk1 P E n (mean E n).2
 |0=>⟨(fun f ins outs hf h=>by cases h),(fun f b v z hf hl h=>by cases h)⟩
 |n+1=>⟨QDs hT hE hLo hmix (Qd8 hT hE hLo hmix n).1 (Qd8 hT hE hLo hmix n).2,QDA hT hE hLo hmix (Qd8 hT hE hLo hmix n).1 (Qd8 hT hE hLo hmix n).2⟩
def BT.all {α:Type}(f:Nat->α->Bool):BT α->Bool
 | .leaf=>true
 | .node k v l r=>f k v&&l.all f&&r.all f
theorem BT.QjY {α:Type}{f:Nat->α->Bool}{d:α}:(t:BT α)->t.all f=true->∀n,f n (t.get d n)=true\/t.get d n=d
 | .leaf,_,n=> .inr rfl
 | .node k v l r,h,n=>by
   simp only[BT.all,QQ5]at h
   simp only[BT.get]
   cases h1:Nat.beq n k with
   |true=>have:=Nat.eq_of_beq_eq_true h1;subst this;exact .inl h.1.1
   |false=>
    cases h2:Nat.blt n k with
    |true=>exact BT.QjY l h.1.2 n
    |false=>exact BT.QjY r h.2 n
theorem BT.QoS {α:Type}{f:Nat->α->Bool}{d:α}:(t:BT α)->t.all f=true->∀n,t.has n=true->f n (t.get d n)=true
 | .leaf,_,n,h=>by cases h
 | .node k v l r,h,n,hh=>by
   simp only[BT.all,QQ5]at h
   simp only[BT.has]at hh
   simp only[BT.get]
   cases h1:Nat.beq n k with
   |true=>have:=Nat.eq_of_beq_eq_true h1;subst this;exact h.1.1
   |false=>
    rw[h1]at hh
    cases h2:Nat.blt n k with
    |true=>rw[h2]at hh;exact BT.QoS l h.1.2 n hh
    |false=>rw[h2]at hh;exact BT.QoS r h.2 n hh
def QBK:Value->Ty->Bool
 | .int k n, .int k'=>decide (k=k')&&decide (n=0)
 | .bool b, .bool=> !b
 | .string s, .str=>Nat.beq s.size 0
 | .slice none n c, .sl _=>Nat.beq n 0&&Nat.beq c 0
 |_,_=>false
theorem QDu {v:Value}{t:Ty}(h:QBK v t=true):v=zeroV t:=by
 unfold QBK at h
 split at h
 ·simp only[QQ5,QRu]at h;rw[h.1,h.2];rfl
 ·simp at h;rw[h];rfl
 ·rename_i s
  have h:s.size=0:=by simpa[QY15]using h
  have:s=ByteArray.empty:=by
   apply ByteArray.ext
   apply Array.eq_empty_of_size_eq_zero
   exact h
  rw[this];rfl
 ·simp only[QQ5,QY15]at h;rw[h.1,h.2];rfl
 ·cases h
def Qsd:List Value->Tys->Bool
 | [], .nil=>true
 |v::l, .cons t ts=>QBK v t&&Qsd l ts
 |_,_=>false
theorem Qrt:(l:List Value)->(ts:Tys)->Qsd l ts=true->l=xz ts
 | [], .nil,_=>rfl
 | [], .cons _ _,h=>by cases h
 |_::_, .nil,h=>by cases h
 |v::l, .cons t ts,h=>by
  simp only[Qsd,QQ5]at h
  rw[QDu h.1,Qrt l ts h.2];rfl
def QMa:TypeDesc->Bool
 | .struct _| .array _ _=>true
 |_=>false
def QKQ (P:Program) (T:Nat) (i:TI):Bool:=match P.info? T with
 |some ti=>Nat.beq ti.size i.ts.len&&Nat.beq ti.bytes i.bytes&&(match ti.zero with|some z=>Qsd z.cells.toList i.ts|none=>false)
 |none=>false
def QMv (P:Program) (T:Nat) (i:TI):Bool:=match P.underlying T with
 |some d=>(QMa d==i.agg)&&(i.agg||Nat.beq i.ts.len 1)&&(!i.QN||(match d with| .slice e=>Nat.beq e i.elem|_=>false))&&(!i.isStr||(match d with| .string=>true|_=>false))&&(!i.isBool||(match d with| .bool=>true|_=>false))&&
  (match i.Qlr with|some k=>(match d with| .int k'=>decide (k=k')|_=>false)|none=>true)
 |none=>false
def Qsz (i:TI) (places:List (Nat×Nat)):Nat->List Nat->Bool
 |_,[]=>true
 |k,off::l=>(match places[k]? with|some (o,n)=>Nat.beq o off&&Nat.beq n (i.fsz k)&&Nat.ble (off+i.fsz k) i.ts.len|none=>false)&&Qsz i places (k+1) l
theorem Qr2 {i:TI}{places:List (Nat×Nat)}:(l:List Nat)->(k:Nat)->Qsz i places k l=true->∀j off,l[j]? =some off->places[k+j]? =some (off,i.fsz (k+j))/\off+i.fsz (k+j)<=i.ts.len
 | [],k,_,j,off,e=>by simp at e
 |o::l,k,h,j,off,e=>by
  simp only[Qsz,QQ5]at h
  cases j with
  |zero=>
   simp at e;subst e
   obtain⟨h1,_⟩:=h
   split at h1
   ·rename_i o' n hp
    simp only[QQ5,QY15,Nat.ble_eq]at h1
    rw[QY3,hp,h1.1.1,h1.1.2]
    exact⟨rfl,h1.2⟩
   ·cases h1
  |succ j=>
   have:=Qr2 l (k+1) h.2 j off (by simpa using e)
   rw[show k+(j+1)=k+1+j by omega];exact this
def foB (P:Program) (T:Nat) (i:TI):Bool:= !i.agg||(match P.underlying T with
 |some (.struct fs)=>(match fs.toList.mapM (fun f=>(P.info? f.type).map fun i=>(f.offset,i.size))with|some places=>Qsz i places 0 i.fo|none=>false)
 |_=>false)
def tyB (P:Program) (T:Nat) (i:TI):Bool:= !i.ok||(QMv P T i&&QKQ P T i&&foB P T i)
def QIz (P:Program) (T:Nat) (i:TI):Prop:=i.eqOk=true->i.agg=true->P.eqGuardType P.depth T=false/\∀(w:World) (us vs:List Value) (xs ys:List TV),TVs w xs us->TVs w ys vs->za i.ts (xs.map .sc)=true->za i.ts (ys.map .sc)=true->
 ∃b,QCq (xs.map .sc) (ys.map .sc)=some b/\(Op.equalIn Op.maxDepth T (.agg us.toArray) (.agg vs.toArray)).run P w= .ok b w
theorem QMl {P:Program}{T:Nat}{i:TI}(h:tyB P T i=true) (hok:i.ok=true) (he:QIz P T i):TyOk P T i:=by
 simp only[tyB,hok,QQ3,Bool.false_or,QQ5]at h
 obtain⟨⟨hu,hi⟩,hf⟩:=h
 unfold QMv at hu
 split at hu
 ·rename_i d hd
  simp only[QQ5,QY32,QY14,beq_iff_eq,QY15]at hu
  obtain⟨⟨⟨⟨⟨u1,u2⟩,u3⟩,u4⟩,u5⟩,u6⟩:=hu
  refine⟨⟨d,hd,by rw[<-u1];rfl⟩, ?_,fun ha=> ?_,fun hs=> ?_,fun hs=> ?_,fun hs=> ?_,fun k hk=> ?_,fun ha=> ?_,he⟩
  ·unfold QKQ at hi
   split at hi
   ·rename_i ti hti
    simp only[QQ5,QY15]at hi
    obtain⟨⟨i1,i2⟩,i3⟩:=hi
    split at i3
    ·rename_i z hz
     exact⟨ti,z,hti,i1,i2,hz,Qrt _ _ i3⟩
    ·cases i3
   ·cases hi
  ·rcases u2 with h|h
   ·rw[ha]at h;cases h
   ·exact h
  ·rcases u3 with h|h
   ·rw[hs]at h;cases h
   ·split at h
    ·rename_i e;rw[hd,Nat.eq_of_beq_eq_true h]
    ·cases h
  ·rcases u4 with h|h
   ·rw[hs]at h;cases h
   ·split at h
    ·exact hd
    ·cases h
  ·rcases u5 with h|h
   ·rw[hs]at h;cases h
   ·split at h
    ·exact hd
    ·cases h
  ·rw[hk]at u6
   simp only at u6
   split at u6
   ·simp only[QRu]at u6;rw[hd,u6]
   ·cases u6
  ·simp only[foB,ha,QQ3,Bool.false_or]at hf
   split at hf
   ·rename_i fs hfs
    split at hf
    ·rename_i places hp
     refine⟨fs,places,hfs,hp,fun k off hk=> ?_⟩
     have:=Qr2 _ 0 hf k off hk
     rwa[QRo]at this
    ·cases hf
   ·cases hf
 ·cases hu
theorem QJi {P:Program}{ty:BT TI}{E:Env}(hE:E.ty=ty.get ⟨false,false, .nil,0,0,[],false⟩) (h:ty.all (tyB P)=true) (he:∀T,(E.ty T).ok=true->QIz P T (E.ty T)):XZ P E:=by
 intro T hok
 rcases BT.QjY (d:=⟨false,false, .nil,0,0,[],false⟩) ty h T with h1|h1
 ·rw[hE]at hok⊢
  exact QMl h1 hok (by have:=he T (by rw[hE];exact hok);rwa[hE]at this)
 ·rw[hE,h1]at hok;cases hok
def BT.Qrk {α:Type}(p:Nat->α->Prop):BT α->Prop
 | .leaf=>True
 | .node k v l r=>p k v/\l.Qrk p/\r.Qrk p
theorem BT.Qqz {α:Type}{p:Nat->α->Prop}{d:α}:(t:BT α)->t.Qrk p->∀n,t.has n=true->p n (t.get d n)
 | .leaf,_,n,h=>by cases h
 | .node k v l r,h,n,hh=>by
   obtain⟨h0,hl,hr⟩:=h
   simp only[BT.has]at hh
   simp only[BT.get]
   cases h1:Nat.beq n k with
   |true=>have:=Nat.eq_of_beq_eq_true h1;subst this;exact h0
   |false=>
    rw[h1]at hh
    cases h2:Nat.blt n k with
    |true=>rw[h2]at hh;exact BT.Qqz l hl n hh
    |false=>rw[h2]at hh;exact BT.Qqz r hr n hh
theorem QFf {P:Program}{gg:Glob}{ty:BT TI}{sig:BT Sig}{code:BT Func}{lsig:BT LSig}{vars:BT (List Nat)}{inst:BT Nat}{keep:BT (List Nat)}{real:BT Nat}{ext:(f:Nat)->Option (Qm (sig.get ⟨[],[]⟩ f).ins->Option (Qm (sig.get ⟨[],[]⟩ f).outs))}
 (hfn:code.Qrk fun n fn=>P.funcs[real.get n n]? =some fn) (hname:code.Qrk fun n fn=>(fn.name== "runtime.NumGoroutine")=false)
 (hB:code.all (fun n fn=>fn.body.isSome&&(sig.get ⟨[],[]⟩ n).ok&&(sig.get ⟨[],[]⟩ n).small&&Nat.ble (sig.get ⟨[],[]⟩ n).ps.length fn.ntmps)=true)
 (hext:∀f h,(QpZ ty sig code lsig vars inst keep real ext gg).ext f=some h->∀ins outs,h ins=some outs->Qhk P gg ((QpZ ty sig code lsig vars inst keep real ext gg).sig f) ((QpZ ty sig code lsig vars inst keep real ext gg).real f) (unpack _ ins) (unpack _ outs)):
 EnvCode P (QpZ ty sig code lsig vars inst keep real ext gg):=by
 have hb:=fun n hn=>BT.QoS (d:=default) code hB n hn
 refine⟨fun f hf=> ?_,fun f hf=> ?_,fun f hf=> ?_,fun f h _ he=>hext f h he⟩
 ·have h1:=hb f hf
  simp only[QQ5]at h1
  refine⟨code.get default f,BT.Qqz code hfn f hf,BT.Qqz code hname f hf, ?_,rfl,rfl⟩
  have h2:=h1.1.1.1
  show(code.get default f).body=some (jq (code.get default f))
  unfold jq
  cases hbd:(code.get default f).body with
  |none=>rw[hbd]at h2;cases h2
  |some c=>rfl
 ·have h1:=hb f hf
  simp only[QQ5]at h1
  exact h1.1.1.2
 ·have h1:=hb f hf
  simp only[QQ5]at h1
  exact⟨h1.1.2,Nat.le_of_ble_eq_true h1.2⟩
theorem QDJ:(C:Code)->∀b c,(b,c)∈Xa C->∀x∈Xa c,x∈Xa C:=by
 intro C
 induction C with
 |seq x y ihx ihy=>
  intro b c h z hz
  simp only[Xa,QRh]at h⊢
  rcases h with h|h
  ·exact .inl (ihx b c h z hz)
  ·exact .inr (ihy b c h z hz)
 |cond o x y ihx ihy=>
  intro b c h z hz
  simp only[Xa,QRh]at h⊢
  rcases h with h|h
  ·exact .inl (ihx b c h z hz)
  ·exact .inr (ihy b c h z hz)
 |loop x ih=>exact ih
 |scope x ih=>exact ih
 |block i x ih=>
  intro b c h z hz
  cases x with
  |loop y=>
   simp only[Xa,QRk]at h⊢
   rcases h with h|h
   ·cases h;exact .inr hz
   ·exact .inr (ih b c h z hz)
  |_=>exact ih b c h z hz
 |_=>intro b c h;cases h
theorem Qtd:(C:Code)->∀n c,ZF C n=some c->(n,c)∈Xa C:=by
 intro C
 induction C with
 |seq x y ihx ihy=>
  intro n c h
  simp only[ZF]at h
  simp only[Xa,QRh]
  split at h
  ·rename_i c' hc;cases h;exact .inl (ihx n _ hc)
  ·exact .inr (ihy n c h)
 |cond o x y ihx ihy=>
  intro n c h
  simp only[ZF]at h
  simp only[Xa,QRh]
  split at h
  ·rename_i c' hc;cases h;exact .inl (ihx n _ hc)
  ·exact .inr (ihy n c h)
 |loop x ih=>exact ih
 |scope x ih=>exact ih
 |block i x ih=>
  intro n c h
  cases x with
  |loop y=>
   simp only[ZF]at h
   simp only[Xa,QRk]
   cases e:Nat.beq i n with
   |true=>
    rw[e]at h
    have:=Nat.eq_of_beq_eq_true e
    subst this;cases h;exact .inl rfl
   |false=>rw[e]at h;exact .inr (ih n c h)
  |_=>exact ih n c h
 |_=>intro n c h;cases h
theorem QDK:(C:Code)->∀n,ZF C n=none->∀c,(n,c)∉Xa C:=by
 intro C
 induction C with
 |seq x y ihx ihy=>
  intro n h c hm
  simp only[ZF]at h
  simp only[Xa,QRh]at hm
  split at h
  ·cases h
  ·rename_i hx
   rcases hm with hm|hm
   ·exact ihx n hx c hm
   ·exact ihy n h c hm
 |cond o x y ihx ihy=>
  intro n h c hm
  simp only[ZF]at h
  simp only[Xa,QRh]at hm
  split at h
  ·cases h
  ·rename_i hx
   rcases hm with hm|hm
   ·exact ihx n hx c hm
   ·exact ihy n h c hm
 |loop x ih=>exact ih
 |scope x ih=>exact ih
 |block i x ih=>
  intro n h c hm
  cases x with
  |loop y=>
   simp only[ZF]at h
   simp only[Xa,QRk]at hm
   cases e:Nat.beq i n with
   |true=>rw[e]at h;cases h
   |false=>
    rw[e]at h
    rcases hm with hm|hm
    ·cases hm;simp at e
    ·exact ih n h c hm
  |_=>exact ih n h c hm
 |_=>intro n h c hm;cases hm
theorem QGH {C:Code}(hn:((Xa C).map (·.1)).Nodup) {b:Nat}{c:Code}(h:(b,c)∈Xa C):ZF C b=some c:=by
 cases hl:ZF C b with
 |none=>exact(QDK C b hl c h).elim
 |some c'=>
  have h':=Qtd C b c' hl
  have key:∀l:List (Nat×Code),(l.map (·.1)).Nodup->(b,c)∈l->(b,c')∈l->c'=c:=by
   intro l
   induction l with
   |nil=>intro _ h;cases h
   |cons x l ih=>
    intro hn h1 h2
    rw[QY24,QY4]at hn
    rcases QRk.1 h1 with e1|e1
    ·rcases QRk.1 h2 with e2|e2
     ·rw[<-e1]at e2;cases e2;rfl
     ·rw[<-e1]at hn;exact(hn.1 (QY18.2 ⟨_,e2,rfl⟩)).elim
    ·rcases QRk.1 h2 with e2|e2
     ·rw[<-e2]at hn;exact(hn.1 (QY18.2 ⟨_,e1,rfl⟩)).elim
     ·exact ih hn.2 e1 e2
  rw[key _ hn h h']
def QyH (n:Nat):List Nat->Bool
 | []=>false
 |m::l=>Nat.beq n m||QyH n l
def Qvt:List Nat->Bool
 | []=>true
 |n::l=> !QyH n l&&Qvt l
theorem Qq2 {n:Nat}:(l:List Nat)->(QyH n l=true↔n∈l)
 | []=>by simp[QyH]
 |m::l=>by simp only[QyH,QY32,QY15,Qq2 l,QRk]
theorem QtD:(l:List Nat)->Qvt l=true->l.Nodup
 | [],_=>QY5
 |n::l,h=>by
  simp only[Qvt,QQ5,QY14]at h
  rw[QY4]
  refine⟨fun hm=> ?_,QtD l h.2⟩
  rw[(Qq2 l).2 hm]at h;cases h.1
def QF4 (x:Nat×Nat) (l:List (Nat×Nat×SkC)):Bool:=l.any fun e=>Nat.beq e.1 x.1&&Nat.beq e.2.1 x.2
def Qwr:List (Nat×Nat×SkC)->Bool
 | []=>true
 |e::l=> !QF4 (e.1,e.2.1) l&&Qwr l
theorem Qti:(l:List (Nat×Nat×SkC))->Qwr l=true->(qQ l).Nodup
 | [],_=>QY5
 |e::l,h=>by
  simp only[Qwr,QQ5,QY14]at h
  show((e.1,e.2.1)::qQ l).Nodup
  rw[QY4]
  refine⟨fun hm=> ?_,Qti l h.2⟩
  obtain⟨x,hx,hxe⟩:=QY18.1 hm
  have:QF4 (e.1,e.2.1) l=true:=by
   rw[QF4,QY27]
   refine⟨x,hx, ?_⟩
   injection hxe with h1 h2
   simp[h1,h2]
  rw[this]at h;cases h.1
def skB (sg:Sig) (sk:Sk):Bool:=(Jk 0 sg.ps).all (fun r=>sk.bx.any fun b=>Nat.beq b.1 r)&&Qwr sk.cn
theorem QBt {sg:Sig}{sk:Sk}(h:skB sg sk=true):QGz sg sk:=by
 simp only[skB,QQ5,QRt,QY27,QY15]at h
 refine⟨fun r hr=> ?_,Qti _ h.2⟩
 obtain⟨x,hx,e⟩:=h.1 r hr
 exact⟨x.2,by rw[<-e];exact hx⟩
def QKH (fn:Func):Bool:=Qvt ((Xa (jq fn)).map (·.1))&&(Xa (jq fn)).all fun x=>Nat.blt x.1 1000
def QOp (key:Nat) (l:List Nat):Bool:=l.all fun b=>Nat.beq (b % 1000) (key % 10000)
def QAW (sig:BT Sig) (code:BT Func) (vars:BT (List Nat)) (key:Nat) (l:LSig):Bool:=
 (ZF (jq (code.get default (key / 10000))) (key % 10000 % 1000)).isSome&&QyH (key % 10000) (vars.get [key % 10000 % 1000] (key / 10000*10000+key % 10000 % 1000))&&
   skB (sig.get ⟨[],[]⟩ (key / 10000)) l.sk&&l.exits.all fun x=>skB (sig.get ⟨[],[]⟩ (key / 10000)) x.2
theorem QDI {gg:Glob}{ty:BT TI}{sig:BT Sig}{code:BT Func}{lsig:BT LSig}{vars:BT (List Nat)}{inst:BT Nat}{keep:BT (List Nat)}{real:BT Nat}{ext:(f:Nat)->Option (Qm (sig.get ⟨[],[]⟩ f).ins->Option (Qm (sig.get ⟨[],[]⟩ f).outs))}
 (hC:code.all (fun _ fn=>QKH fn)=true) (hV:vars.all QOp=true) (hL:lsig.all (QAW sig code vars)=true):
 EnvLoops (QpZ ty sig code lsig vars inst keep real ext gg):=by
 have hcode:=fun f hf=>BT.QoS (d:=default) code hC f hf
 have hlok:∀f b,(QpZ ty sig code lsig vars inst keep real ext gg).lok f b=true->b<10000/\(f*10000+b) / 10000=f/\(f*10000+b) % 10000=b/\QAW sig code vars (f*10000+b) (lsig.get ⟨⟨[],[],[]⟩,[]⟩ (f*10000+b))=true:=by
  intro f b h
  have h:(Nat.blt b 10000&&lsig.has (f*10000+b))=true:=h
  simp only[QQ5,Nat.blt_eq]at h
  exact⟨h.1,by omega,by omega,BT.QoS (d:=⟨⟨[],[],[]⟩,[]⟩) lsig hL _ h.2⟩
 refine⟨fun f hf b c hbc=>⟨fun b' hb'=> ?_,QDJ _ b c hbc⟩,fun f hf b hl=> ?_,fun f hf b hl=> ?_⟩
 ·have h1:=hcode f hf
  simp only[QKH,QQ5]at h1
  have hb:b<1000:=by
   have:=QRt.1 h1.2 (b,c) hbc
   simpa[Nat.blt_eq]using this
  have hb0:b % 1000=b:=Nat.mod_eq_of_lt hb
  have hmod:b' % 1000=b:=by
   have hb':b'∈vars.get [b % 1000] (f*10000+b % 1000):=hb'
   rw[hb0]at hb'
   rcases BT.QjY (d:=[b]) vars hV (f*10000+b)with h2|h2
   ·have:=QRt.1 h2 b' hb'
    simp only[QY15]at this
    omega
   ·rw[h2]at hb';simp at hb';rw[hb',hb0]
  refine⟨?_, ?_⟩
  ·show(ZF (jq (code.get default f)) (b' % 1000)).getD .skip=c
   rw[hmod,QGH (QtD _ h1.1) hbc];rfl
  ·show vars.get [b' % 1000] (f*10000+b' % 1000)=vars.get [b % 1000] (f*10000+b % 1000)
   rw[hmod,hb0]
 ·obtain⟨h0,h1,h2,h3⟩:=hlok f b hl
  simp only[QAW,h1,h2,QQ5]at h3
  obtain⟨⟨⟨h4,h5⟩,_⟩,_⟩:=h3
  refine⟨b % 1000, ?_, ?_⟩
  ·show(b % 1000,(ZF (jq (code.get default f)) (b % 1000)).getD .skip)∈Xa (jq (code.get default f))
   cases hlo:ZF (jq (code.get default f)) (b % 1000)with
   |none=>rw[hlo]at h4;cases h4
   |some c=>exact Qtd _ _ _ hlo
  ·show b∈vars.get [b % 1000 % 1000] (f*10000+b % 1000 % 1000)
   rw[Nat.mod_mod]
   exact(Qq2 _).1 h5
 ·obtain⟨h0,h1,h2,h3⟩:=hlok f b hl
  simp only[QAW,h1,h2,QQ5]at h3
  obtain⟨⟨_,h6⟩,h7⟩:=h3
  exact⟨QBt h6,fun x hx=>QBt (QRt.1 h7 x hx)⟩
end Go.Eng
