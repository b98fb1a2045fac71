/- A meaning of the translated functions in plain typed values, and its soundness, part 1. No conditions. -/
import Derived.Test.YtiejfnbmficbmaaGreatEng0
import Derived.Laws.StructEq
import Derived.Laws.IdiomStrings
import Derived.Laws.BytesString
import Derived.Laws.MakeOwn
set_option linter.all false
namespace Go.Eng
open Go
set_option linter.unusedVariables false
section
variable {γ:Type}
def Qp (s s':St):Prop:=s'.n=s.n/\s'.tm=s.tm/\s'.bx=s.bx
theorem Qp.refl (s:St):Qp s s:=⟨rfl,rfl,rfl⟩
theorem Qp.trans {a b c:St}(h:Qp a b) (h':Qp b c):Qp a c:=⟨h'.1.trans h.1,h'.2.1.trans h.2.1,h'.2.2.trans h.2.2⟩
theorem Qp.gB {s s':St}(h:Qp s s') (r:Nat):s'.gB r=s.gB r:=by unfold St.gB;rw[h.2.2]
theorem Qp.gT {s s':St}(h:Qp s s') (i:Nat):s'.gT i=s.gT i:=by unfold St.gT;rw[h.2.1]
theorem Qp.sC (s:St) (r k:Nat) (c:Con):Qp s (s.sC r k c):=⟨rfl,rfl,rfl⟩
theorem Held.sub {F:Fix}{G:Gh}{w:World}{x y:TV}{deep:Bool}{u:Value}{bl:List Nat}(h:Held F G w ⟨x,deep,u,bl⟩) {l k:Int}(hy:KX x l k=some y) {tu:Ty×Value}(hs:vI x.t u l k=some tu):
 ∃bl',Held F G w ⟨y,deep,tu.2,bl'⟩/\y.t=tu.1/\∀b∈bl',b∈bl:=by
 obtain⟨xt,xv⟩:=x
 cases xt with
 |sl ts=>
  simp only[KX]at hy
  cases hy
  have hown:Own w (fun b=>G.ow b= .ro) deep (.sl ts) xv u bl:=h.own
  have hu:∃ad cap,u= .slice ad (vl (ts:=ts) xv).length cap:=by
   obtain⟨b',hr,_⟩:=Own.rep _ _ _ _ hown
   obtain⟨ad,cap,e,_⟩:=hr
   exact⟨ad,cap,e⟩
  obtain⟨ad,cap,rfl⟩:=hu
  simp only[vI]at hs
  split at hs
  ·rename_i hc
   cases hs
   obtain⟨ad',cap',e,_,_,bl',h1,h2⟩:=Own.sub hown l.toNat k.toNat (by omega) (by omega)
   cases e
   refine⟨bl',⟨?_,rfl,h.nodup.sublist h2,fun b hb=>h.free b (h2.subset hb)⟩,rfl,fun b hb=>h2.subset hb⟩
   have:(k - l).toNat=k.toNat - l.toNat:=by omega
   show Own w _ deep (.sl ts) (List.take (k - l).toNat (List.drop l.toNat (vl xv))) _ bl'
   rw[this];exact h1
  ·cases hs
 |_=>simp[KX]at hy
theorem QjM {F:Fix}{pd:Nat->Nat->Prop}{G:Gh}{s:St}{a:Act}{w:World}(h:RelP F pd G s a w) {p:Pl}{tu:Ty×Value}(hp:G.PH p=some tu):
 Sat (JD p:M γ (TV×Bool×Option (Nat×Nat))) s fun x s'=>Qp s s'/\∃G' bl,G.le G'/\RelP F pd G' s' a w/\Held F G' w ⟨x.1,x.2.1,tu.2,bl⟩/\x.1.t=tu.1/\(∀i j,x.2.2=some (i,j)->F.T i j=some tu.2)/\
  (∀b∈bl,∃r k,G.ow b= .key (.con r k))/\(∀b,G.ow b= .free->G'.ow b= .free)/\(∀b κ,G'.ow b= .key κ->G.ow b= .key κ)/\∀b r,G.ow b= .key (.box r)->G'.ow b= .key (.box r):=by
 unfold JD
 refine Sat.bind (Kr h hp) ?_
 rintro⟨q,c⟩ s' ⟨e1,e2,e3,e4,e5⟩
 subst e1
 simp only at e2 e3 e4 e5
 dsimp only
 cases hc:c.st with
 |own x deep tag=>
  cases hn:q.nest with
  |some _=>exact Sat.fail
  |none=>
   have hc':=hc
   rw[e2]at hc'
   obtain⟨u,bl,k1,k2,k3,k4⟩:=(h.con q.r q.k).own x deep tag hc'
   have hki:=(h.it _ _ k1).key
   obtain⟨r1,r2,r3⟩:=h.take hc' k1
   have hmk:∀b κ,(G.drop q.r q.k bl).ow b= .key κ->G.ow b= .key κ:=fun b κ hb=>by
    have hb:(if b∈bl then Ow.free else G.ow b)= .key κ:=hb
    split at hb
    ·cases hb
    ·exact hb
   have hbx:∀b r,G.ow b= .key (.box r)->(G.drop q.r q.k bl).ow b= .key (.box r):=fun b r hb=>by
    show(if b∈bl then Ow.free else G.ow b)=_
    rw[if_neg (fun hm=>by rw[(hki b hm).1]at hb;cases hb)];exact hb
   have hfr:∀b,G.ow b= .free->(G.drop q.r q.k bl).ow b= .free:=fun b hb=>by
    show(if b∈bl then Ow.free else G.ow b)= .free
    split
    ·rfl
    ·exact hb
   have hb:G.base q=some (x.t,u):=by unfold Gh.base;rw[hn];simp only;rw[<-e3,e2];exact k2
   refine Sat.bind (Sat.wC (Φ:=fun _ s''=>s''=s'.sC q.r q.k (mkC c.id c.nv .dead)) rfl) ?_
   rintro _ s'' e
   rw[e,e2]
   unfold Gh.PH at e5
   cases hr:q.rng with
   |none=>
    rw[hr]at e5
    simp only at e5
    rw[hb]at e5
    cases e5
    exact Sat.pure ⟨Qp.sC _ _ _ _,_,bl,r3,r1,r2,rfl,fun i j ht=>k4 i j ht,fun b hb=>⟨_,_,(hki b hb).1⟩,hfr,hmk,hbx⟩
   |some lk=>
    rw[hr]at e5
    simp only at e5
    rw[hb]at e5
    refine Sat.bind (Sat.ofO (Φ:=fun y s3=>s3=s'.sC q.r q.k (mkC (s'.gC q.r q.k).id (s'.gC q.r q.k).nv .dead)/\KX x lk.1 lk.2=some y) (fun y hy=>⟨rfl,hy⟩)) ?_
    rintro y s3 ⟨e',hy⟩
    rw[e']
    obtain⟨bl',g1,g2,g3⟩:=r2.sub hy e5
    exact Sat.pure ⟨Qp.sC _ _ _ _,_,bl',r3,r1,g1,g2,(fun i j ht=>by cases ht),fun b hb=>⟨_,_,(hki b (g3 b hb)).1⟩,hfr,hmk,hbx⟩
 |_=>exact Sat.fail
theorem Qz6 {F:Fix}{pd:Nat->Nat->Prop}{G:Gh}{s:St}{a:Act}{w:World}(h:RelP F pd G s a w) {p:Pl}{tu:Ty×Value}(hp:G.PH p=some tu):
 Sat (JD p:M γ (TV×Bool×Option (Nat×Nat))) s fun x s'=>Qp s s'/\∃G' bl,G.le G'/\RelP F pd G' s' a w/\Held F G' w ⟨x.1,x.2.1,tu.2,bl⟩/\x.1.t=tu.1/\(∀i j,x.2.2=some (i,j)->F.T i j=some tu.2)/\
  (∀b∈bl,∃κ,G.ow b= .key κ)/\∀b,G.ow b= .free->G'.ow b= .free:=
 (QjM h hp).mono fun x s' ⟨k,G',bl,l,r,hh,ht,hf,hk,hfr,_⟩=>⟨k,G',bl,l,r,hh,ht,hf,fun b hb=>let⟨r,k,e⟩:=hk b hb;⟨_,e⟩,hfr⟩
theorem zp {F:Fix}{pd:Nat->Nat->Prop}{G:Gh}{s:St}{a:Act}{w:World}(h:RelP F pd G s a w) {d j:Nat}{x:TV}{deep:Bool}{u:Value}{bl:List Nat}(hh:Held F G w ⟨x,deep,u,bl⟩):
 Sat (Qdy d j x deep:M γ VC) s fun v s'=>Qp s s'/\∃G',G.le G'/\RelP F pd G' s' a w/\VCR G' w v u/\(∀b,G.ow b= .free->b∉bl->G'.ow b= .free):=by
 unfold Qdy
 refine Sat.bind (Sat.mB (Φ:=fun g s'=>s'=s/\g=s.gB d) ⟨rfl,rfl⟩) ?_
 intro g s' hg
 rw[hg.1,hg.2]
 by_cases hz:((s.gB d).2==0)=true
 ·rw[if_pos hz]
  have hz:(s.gB d).2=0:=by simpa using hz
  refine Sat.bind (Sat.mI (Φ:=fun c s'=>s'=s/\c=s.gI d j) ⟨rfl,rfl⟩) ?_
  intro c s' hc
  rw[hc.1,hc.2]
  obtain⟨r1,r2,r3⟩:=h.put hh (r:=d) (k:=j) none (fun e=>by omega) (fun e=>by omega) (fun p j e=>by cases e)
  refine Sat.bind (Sat.wC (Φ:=fun _ s''=>s''=s.sC d j (mkC ((s.gC d j).id+1) (s.gC d j).nv (.own x deep none))) rfl) ?_
  rintro _ s'' e
  rw[e]
  refine Sat.pure ⟨Qp.sC _ _ _ _,_,r2,r1,⟨_,r3,(let⟨_,hr,_⟩:=Own.rep _ _ _ _ hh.own;Rep.one _ _ _ _ hr)⟩,fun b hb hn=> ?_⟩
  show(if b∈bl then Ow.key (.con d j)else G.ow b)= .free
  rw[if_neg hn];exact hb
 ·rw[if_neg hz];exact Sat.fail
theorem RelP.plain {F:Fix}{pd:Nat->Nat->Prop}{G:Gh}{s:St}{a:Act}{w:World}(h:RelP F pd G s a w) {r k:Nat}{c:CSt}(hno:∀x d t,c≠ .own x d t) (hnv:∀p,c≠ .vw p)
 (hbx:k<(s.gB r).2->pd r k) (hfix:k<(s.gB r).2->∀x,(s.gC r k).st≠ .fix x):RelP F pd G (s.sC r k (mkC ((s.gC r k).id+1) (s.gC r k).nv c)) a w:=by
 refine h.upd (Gh.le.refl G) rfl (fun i=>rfl) (fun i=>rfl) (fun r' k'=>r'=r/\k'=k) ?_ ?_ ?_ ?_ (fun _ _=>rfl) h.it h.lt h.own h.ro (fun _ _ h=>h)
 ·intro r' k' hn
  exact⟨by rw[QP,if_neg (fun e=>hn ⟨e.1.symm,e.2.symm⟩)],rfl,fun j=>rfl,fun _ _ _ _=>rfl⟩
 ·rintro r' k' ⟨rfl,rfl⟩
  rw[QP,if_pos ⟨rfl,rfl⟩]
  refine⟨fun j hj=> ?_,fun j v i m hj=> ?_,fun x' deep' tag' hc'=> ?_,fun p hc'=> ?_⟩
  ·rw[Q1]at hj;exact(h.con _ _).freshH j (by omega)
  ·rw[Q1,ZC]at hj;exact(h.con _ _).freshN j v i m (by omega)
  ·rw[QD]at hc';exact(hno _ _ _ hc').elim
  ·rw[QD]at hc';exact(hnv _ hc').elim
 ·rintro r' k' u ⟨rfl,rfl⟩ hk hp hb
  exact(hp (hbx hk)).elim
 ·rintro r' k' ⟨rfl,rfl⟩ hk ⟨y,hy⟩
  exact(hfix hk y hy).elim
def Gh.QBH (G:Gh) (r k id:Nat) (x:Ty×Value):Gh:= {G with H:=fun r' k' j=>if r'=r/\k'=k/\j=id then some x else G.H r' k' j}
theorem RelP.view {F:Fix}{pd:Nat->Nat->Prop}{G:Gh}{s:St}{a:Act}{w:World}(h:RelP F pd G s a w) {r k:Nat}{p:Pl}{tu:Ty×Value}(hp:G.PH p=some tu)
 (hbx:k<(s.gB r).2->pd r k) (hfix:k<(s.gB r).2->∀x,(s.gC r k).st≠ .fix x):
 RelP F pd (G.QBH r k ((s.gC r k).id+1) tu) (s.sC r k (mkC ((s.gC r k).id+1) (s.gC r k).nv (.vw p))) a w/\G.le (G.QBH r k ((s.gC r k).id+1) tu):=by
 have hf:=(h.con r k).freshH _ (QY33 _)
 have hle:G.le (G.QBH r k ((s.gC r k).id+1) tu):=⟨fun r' k' j x hx=>by
  show(if r'=r/\k'=k/\j=_ then some tu else G.H r' k' j)=some x
  split
  ·rename_i e;obtain⟨rfl,rfl,rfl⟩:=e;rw[hf]at hx;cases hx
  ·exact hx,fun _ _ _ _ _ _ _ h=>h,fun _ _ _ h=>h,fun b hb=>hb⟩
 have hH:(G.QBH r k ((s.gC r k).id+1) tu).H r k ((s.gC r k).id+1)=some tu:=if_pos ⟨rfl,rfl,rfl⟩
 refine⟨?_,hle⟩
 refine h.upd hle rfl (fun i=>rfl) (fun i=>rfl) (fun r' k'=>r'=r/\k'=k) ?_ ?_ ?_ ?_ (fun _ _=>rfl) (fun κ x hx=>(h.it κ x hx).give (fun b hb=>hb) (fun b hb=>((h.it κ x hx).key b hb).1)) h.lt h.own h.ro (fun _ _ h=>h)
 ·intro r' k' hn
  exact⟨by rw[QP,if_neg (fun e=>hn ⟨e.1.symm,e.2.symm⟩)],rfl,fun j=>if_neg (fun e=>hn ⟨e.1,e.2.1⟩),fun _ _ _ _=>rfl⟩
 ·rintro r' k' ⟨rfl,rfl⟩
  rw[QP,if_pos ⟨rfl,rfl⟩]
  refine⟨fun j hj=> ?_,fun j v i m hj=> ?_,fun x' deep' tag' hc'=> ?_,fun q hc'=> ?_⟩
  ·rw[Q1]at hj
   rw[show(G.QBH r' k' ((s.gC r' k').id+1) tu).H r' k' j=G.H r' k' j from if_neg (fun e=>by omega)]
   exact(h.con _ _).freshH j (by omega)
  ·rw[Q1,ZC]at hj;exact(h.con _ _).freshN j v i m (by omega)
  ·rw[QD]at hc';cases hc'
  ·rw[QD]at hc';cases hc'
   exact⟨tu.1,tu.2,by rw[Q1];exact hH,hle.PH hp⟩
 ·rintro r' k' u ⟨rfl,rfl⟩ hk hp hb
  exact(hp (hbx hk)).elim
 ·rintro r' k' ⟨rfl,rfl⟩ hk ⟨y,hy⟩
  exact(hfix hk y hy).elim
theorem Qzt {F:Fix}{pd:Nat->Nat->Prop}{G:Gh}{s:St}{a:Act}{w:World}(h:RelP F pd G s a w) {p:Pl}{tu:Ty×Value}(hp:G.PH p=some tu) {r k:Nat}
 (hbx:k<(s.gB r).2->pd r k) (hfix:k<(s.gB r).2->∀x,(s.gC r k).st≠ .fix x):
 Sat (Qjt p ⟨r,k,(s.gC r k).id+1,(s.gC r k).nv,none,none⟩:M γ (TV×Bool×Option (Nat×Nat))) s fun x s1=>Qp s s1/\∃G',G.le G'/\
  RelP F pd G' (s1.sC r k (mkC ((s.gC r k).id+1) (s.gC r k).nv (.own x.1 x.2.1 x.2.2))) a w/\G'.PH ⟨r,k,(s.gC r k).id+1,(s.gC r k).nv,none,none⟩=some tu/\x.1.t=tu.1:=by
 unfold Qjt
 refine Sat.bind (Kr h hp) ?_
 rintro⟨q,c⟩ s' ⟨e1,e2,e3,e4,e5⟩
 subst e1
 simp only at e2 e3 e4 e5
 dsimp only
 cases hc:c.st with
 |own x deep tag=>
  cases hn:q.nest with
  |some _=>exact Sat.fail
  |none=>
   have hc':=hc
   rw[e2]at hc'
   obtain⟨u,bl,k1,k2,k3,k4⟩:=(h.con q.r q.k).own x deep tag hc'
   have hb:G.base q=some (x.t,u):=by unfold Gh.base;rw[hn];simp only;rw[<-e3,e2];exact k2
   unfold Gh.PH at e5
   dsimp only
   cases hr:q.rng with
   |none=>
    rw[hr]at e5
    simp only at e5
    rw[hb]at e5
    cases e5
    refine Sat.bind (Sat.wC (Φ:=fun _ s''=>s''=s'.sC q.r q.k (mkC c.id c.nv (.vw ⟨r,k,(s'.gC r k).id+1,(s'.gC r k).nv,none,none⟩))) rfl) ?_
    rintro _ s'' e
    rw[e,e2]
    have:=h.move hc' k1 hbx hfix
    refine Sat.pure ⟨Qp.sC _ _ _ _,_, ?_,this, ?_,rfl⟩
    ·exact Gh.QEr ((h.con r k).freshH _ (QY33 _)) (fun b hb e=>by rw[((h.it _ _ k1).key b hb).1]at e;cases e)
    ·exact if_pos ⟨rfl,rfl,rfl⟩
   |some lk=>
    rw[hr]at e5
    simp only at e5
    rw[hb]at e5
    obtain⟨r1,r2,r3⟩:=h.take hc' k1
    refine Sat.bind (Sat.wC (Φ:=fun _ s''=>s''=s'.sC q.r q.k (mkC c.id c.nv .dead)) rfl) ?_
    rintro _ s'' e
    rw[e,e2]
    refine Sat.bind (Sat.ofO (Φ:=fun y s3=>s3=s'.sC q.r q.k (mkC (s'.gC q.r q.k).id (s'.gC q.r q.k).nv .dead)/\KX x lk.1 lk.2=some y) (fun y hy=>⟨rfl,hy⟩)) ?_
    rintro y s3 ⟨e',hy⟩
    rw[e']
    obtain⟨bl',g1,g2,_⟩:=r2.sub hy e5
    have hid:((s'.sC q.r q.k (mkC (s'.gC q.r q.k).id (s'.gC q.r q.k).nv .dead)).gC r k).id=(s'.gC r k).id/\((s'.sC q.r q.k (mkC (s'.gC q.r q.k).id (s'.gC q.r q.k).nv .dead)).gC r k).nv=(s'.gC r k).nv:=by
     rw[QP];split
     ·rename_i e;obtain⟨rfl,rfl⟩:=e;exact⟨Q1 _ _ _,ZC _ _ _⟩
     ·exact⟨rfl,rfl⟩
    obtain⟨m1,m2,m3⟩:=r1.put g1 (r:=r) (k:=k) none hbx (fun hk y hy=>by
     rw[QP]at hy
     split at hy
     ·rw[QD]at hy;cases hy
     ·exact hfix hk y hy) (fun p j e=>by cases e)
    rw[hid.1,hid.2]at m1 m3
    rw[hid.1]at m2
    refine Sat.pure ⟨Qp.sC _ _ _ _,_,r3.trans m2,m1, ?_,g2⟩
    rw[m3];simp only[g2]
 |_=>exact Sat.fail
theorem QzF {F:Fix}{pd:Nat->Nat->Prop}{G:Gh}{s:St}{a:Act}{w:World}(h:RelP F pd G s a w) {p:Pl}{tu:Ty×Value}(hp:G.PH p=some tu):
 Sat (Qr9 p:M γ Bool) s fun _ s'=>s'=s:=by
 unfold Qr9
 refine Sat.bind (jS 8 p s h.con tu hp) ?_
 rintro⟨q,c⟩ s' ⟨e1,_⟩
 rw[e1]
 dsimp only
 split<;>exact Sat.pure rfl
theorem zB {s:St}{r k:Nat}(h:¬(s.gI r k).sh.jd=true):∀x,(s.gC r k).st≠ .fix x:=by
 intro x e
 apply h
 show(s.gC r k).sh.jd=true
 unfold Con.st at e
 cases hs:(s.gC r k).sh<;>rw[hs]at e<;>first|rfl|cases e
theorem QCL {F:Fix}{pd:Nat->Nat->Prop}{G:Gh}{s:St}{a:Act}{w:World}(h:RelP F pd G s a w) {tk:Bool}{r k:Nat}{t:Ty}{v:VC}{u:Value}(hv:VCR G w v u) (hbx:k<(s.gB r).2->pd r k):
 Sat (Qli tk r k t v:M γ Unit) s fun _ s'=>Qp s s'/\(∀x,(s'.gC r k).st≠ .fix x)/\∃G',G.le G'/\RelP F pd G' s' a w/\Xe G' w r k (s'.gC r k) u:=by
 unfold Qli
 refine Sat.bind (Sat.mI (Φ:=fun c s'=>s'=s/\c=s.gI r k) ⟨rfl,rfl⟩) ?_
 intro c s' hc
 rw[hc.1,hc.2]
 dsimp only
 by_cases hfx:(s.gI r k).sh.jd=true
 ·rw[if_pos hfx];exact Sat.fail
 ·rw[if_neg hfx]
  have hfix:=zB hfx
  have hplain:∀(c:CSt),(∀x d t,c≠ .own x d t)->(∀p,c≠ .vw p)->(∀x,c≠ .fix x)->(∀G':Gh,G'=G->Xe G' w r k (mkC ((s.gC r k).id+1) (s.gC r k).nv c) u)->
   Sat (wC r k (mkC ((s.gC r k).id+1) (s.gC r k).nv c):M γ Unit) s fun _ s'=>Qp s s'/\(∀x,(s'.gC r k).st≠ .fix x)/\∃G',G.le G'/\RelP F pd G' s' a w/\Xe G' w r k (s'.gC r k) u:=by
   intro c h1 h2 h4 h3
   refine Sat.wC ⟨Qp.sC _ _ _ _, ?_,G,Gh.le.refl G,h.plain h1 h2 hbx (fun _=>hfix), ?_⟩
   ·intro x;rw[QP,if_pos ⟨rfl,rfl⟩,QD];exact h4 x
   ·rw[QP,if_pos ⟨rfl,rfl⟩];exact h3 G rfl
  cases v with
  |sc x=>exact hplain (.sc x) (by intros;simp) (by intros;simp) (by intros;simp) (fun G' e=>by unfold Xe;rw[QD,e];exact hv)
  |ro x=>exact hplain (.ro x) (by intros;simp) (by intros;simp) (by intros;simp) (fun G' e=>by unfold Xe;rw[QD,e];exact hv)
  |bad=>exact hplain .dead (by intros;simp) (by intros;simp) (by intros;simp) (fun G' e=>by unfold Xe;rw[QD];trivial)
  |nilS=>
   cases t with
   |sl ts=>
    have hh:Held F G w ⟨⟨.sl ts,(show List (Qm ts)from [])⟩,true,u,[]⟩:=⟨.inl ⟨rfl,hv,rfl⟩,rfl,QY5,by simp⟩
    obtain⟨r1,r2,r3⟩:=h.put hh (r:=r) (k:=k) none hbx (fun _=>hfix) (fun p j e=>by cases e)
    refine Sat.wC ⟨Qp.sC _ _ _ _, ?_,_,r2,r1, ?_⟩
    ·intro x;rw[QP,if_pos ⟨rfl,rfl⟩,QD];intro e;cases e
    ·rw[QP,if_pos ⟨rfl,rfl⟩]
     unfold Xe
     rw[QD,Q1]
     exact r3
   |_=>exact Sat.fail
  |vw p=>
   obtain⟨t',hp,_⟩:=hv
   refine Sat.bind (QzF h hp) ?_
   rintro b s' rfl
   split
   ·refine Sat.bind (Qzt h hp hbx (fun _=>hfix)) ?_
    rintro⟨x,deep,tag⟩ s1 ⟨hk,G',h1,h2,h3,h4⟩
    refine Sat.wC ⟨hk.trans (Qp.sC _ _ _ _), ?_,G',h1,h2, ?_⟩
    ·intro x;show((s1.sC r k (mkC ((s'.gC r k).id+1) (s'.gC r k).nv _)).gC r k).st≠_
     rw[QP,if_pos ⟨rfl,rfl⟩,QD];intro e;cases e
    ·show Xe G' w r k ((s1.sC r k (mkC ((s'.gC r k).id+1) (s'.gC r k).nv _)).gC r k) u
     rw[QP,if_pos ⟨rfl,rfl⟩]
     unfold Xe
     rw[QD,Q1]
     simp only at h4⊢
     rw[show x.t=t' from h4]
     exact h3
   ·obtain⟨r1,r2⟩:=h.view hp (r:=r) (k:=k) hbx (fun _=>hfix)
    refine Sat.wC ⟨Qp.sC _ _ _ _, ?_,_,r2,r1, ?_⟩
    ·intro x;show((s'.sC r k (mkC ((s'.gC r k).id+1) (s'.gC r k).nv _)).gC r k).st≠_
     rw[QP,if_pos ⟨rfl,rfl⟩,QD];intro e;cases e
    ·show Xe _ w r k ((s'.sC r k (mkC ((s'.gC r k).id+1) (s'.gC r k).nv _)).gC r k) u
     rw[QP,if_pos ⟨rfl,rfl⟩]
     unfold Xe
     rw[QD]
     exact⟨t',r2.PH hp⟩
theorem RelP.pbk {F:Fix}{pd:Nat->Nat->Prop}{G:Gh}{s:St}{a:Act}{w:World}(h:RelP F pd G s a w) {r b n k:Nat}(hl:F.lock b k) (hp:F.pb r b n):k<n:=by
 obtain⟨r2,n2,h1,h2⟩:=h.lockow b k hl
 obtain⟨e1,e2,e3⟩:=h.pbox r b n hp
 obtain⟨f1,f2,f3⟩:=h.pbox r2 b n2 h1
 rw[e3]at f3;cases f3
 rw[e1]at f1;cases f1
 exact h2
theorem RelP.Qqp {F:Fix}{pd:Nat->Nat->Prop}{G:Gh}{s:St}{a:Act}{w:World}(h:RelP F pd G s a w) {r k b:Nat}{u:Value}(hb:G.GB r (s.gB r).1=some b) (hu:w.cell? ⟨b,k,none⟩=some u)
 (hc:Xe G w r k (s.gC r k) u) (hnf:∀x,(s.gC r k).st≠ .fix x):RelP F (fun r' k'=>pd r' k'/\¬(r'=r/\k'=k)) G s a w:=by
 refine⟨h.size,h.defers,h.tm,h.con,fun r'=>⟨(h.box r').fresh,fun hl=> ?_⟩,h.it,h.lt,h.own,h.ro,h.roR,h.grow,fun b' k' hl hp=> ?_,h.lockow,h.pbox⟩
 ·obtain⟨b',cur,e,h1,h2,h3,h4,h5⟩:=(h.box r').live hl
  refine⟨b',cur,e,h1,h2,h3,h4,fun k' hk=> ?_⟩
  obtain⟨u',g1,g2,g3,g4⟩:=h5 k' hk
  refine⟨u',g1,g2,fun hn=> ?_,g4⟩
  by_cases hp:pd r' k'
  ·have:r'=r/\k'=k:=QY34 fun hne=>hn ⟨hp,hne⟩
   obtain⟨rfl,rfl⟩:=this
   rw[hb]at h1;cases h1
   simp[World.cell?,h3]at hu
   rw[g1]at hu;cases hu
   exact hc
  ·exact g3 hp
 ·refine h.lock b' k' hl fun r' n hpb hpd=> ?_
  have:r'=r/\k'=k:=QY34 fun hne=>hp r' n hpb ⟨hpd,hne⟩
  obtain⟨rfl,rfl⟩:=this
  have hk:=h.pbk hl hpb
  obtain⟨e1,e2,e3⟩:=h.pbox r' b' n hpb
  obtain⟨b2,cur,e,h1,h2,h3,h4,h5⟩:=(h.box r').live (by rw[e1];simp only;omega)
  rw[e1]at h1 h4
  rw[e2]at h1;cases h1
  obtain⟨_,_,_,_,g4⟩:=h5 k' (by rw[h4];exact hk)
  obtain⟨x,hx⟩:=g4 hl
  exact hnf x hx
theorem RelP.pdmono {F:Fix}{pd pd':Nat->Nat->Prop}{G:Gh}{s:St}{a:Act}{w:World}(h:RelP F pd G s a w) (hp:∀r k,k<(s.gB r).2->pd r k->pd' r k):RelP F pd' G s a w:=by
 refine⟨h.size,h.defers,h.tm,h.con,fun r'=>⟨(h.box r').fresh,fun hl=> ?_⟩,h.it,h.lt,h.own,h.ro,h.roR,h.grow,fun b' k' hl hq=> ?_,h.lockow,h.pbox⟩
 ·obtain⟨b',cur,e,h1,h2,h3,h4,h5⟩:=(h.box r').live hl
  refine⟨b',cur,e,h1,h2,h3,h4,fun k' hk=> ?_⟩
  obtain⟨u',g1,g2,g3,g4⟩:=h5 k' hk
  exact⟨u',g1,g2,fun hn=>g3 (fun hpd=>hn (hp _ _ (by omega) hpd)),g4⟩
 ·exact h.lock b' k' hl fun r' n hpb hpd=>hq r' n hpb (hp r' k' (by rw[(h.pbox r' b' n hpb).1];exact h.pbk hl hpb) hpd)
theorem QcZ {F:Fix}{a:Act}{w:World}{tk:Bool}{r b:Nat}:(ts:Tys)->(k:Nat)->(vs:List VC)->(us:List Value)->(pd:Nat->Nat->Prop)->(G:Gh)->(s:St)->RelP F pd G s a w->VCs G w vs us->
 G.GB r (s.gB r).1=some b->(∀k',k<=k'->k'<k+ts.len->pd r k')->(∀j u,us[j]? =some u->w.cell? ⟨b,k+j,none⟩=some u)->
 Sat (zJ tk r k ts vs:M γ Unit) s fun _ s'=>Qp s s'/\vs.length=ts.len/\∃G',G.le G'/\RelP F (fun r' k'=>pd r' k'/\¬(r'=r/\k<=k'/\k'<k+ts.len)) G' s' a w
 | .nil,k,[],us,pd,G,s,h,hv,hb,hpd,hm=>by
   refine Sat.pure ⟨Qp.refl s,rfl,G,Gh.le.refl G,h.pdmono fun r' k' _ hp=>⟨hp, ?_⟩⟩
   simp[Tys.len]
 | .nil,k,_::_,us,pd,G,s,h,hv,hb,hpd,hm=>Sat.fail
 | .cons t ts,k,[],us,pd,G,s,h,hv,hb,hpd,hm=>Sat.fail
 | .cons t ts,k,v::vs,us,pd,G,s,h,hv,hb,hpd,hm=>by
   obtain⟨u,us',rfl,hv1,hv2⟩:=hv
   unfold zJ
   refine Sat.bind (QCL h hv1 (fun hk=>hpd k (QY2 _) (by simp[Tys.len]))) ?_
   rintro _ s1 ⟨hk,hnf,G1,hle,h1,hbc⟩
   have hb1:G1.GB r (s1.gB r).1=some b:=by rw[hk.gB];exact hle.GB _ _ _ hb
   have h2:=h1.Qqp hb1 (by have:=hm 0 u rfl;rwa[QY3]at this) hbc hnf
   refine(QcZ ts (k+1) vs us' _ G1 s1 h2 (VCs.mono hle (fun _ _=>rfl) _ _ hv2) hb1 ?_ ?_).mono ?_
   ·intro k' h1 h2
    exact⟨hpd k' (by omega) (by simp only[Tys.len];omega),fun e=>by omega⟩
   ·intro j u' hj
    have:=hm (j+1) u' (by simpa using hj)
    rwa[show k+1+j=k+(j+1) by omega]
   ·rintro _ s' ⟨hk',hl,G',hle',h'⟩
    refine⟨hk.trans hk',by simp[Tys.len,hl],G',hle.trans hle',h'.pdmono fun r' k' _ hp=>⟨hp.1.1,fun e=> ?_⟩⟩
    simp only[Tys.len]at e
    by_cases hkk:k'=k
    ·exact hp.1.2 ⟨e.1,hkk⟩
    ·exact hp.2 ⟨e.1,by omega,by omega⟩
theorem Qma {F:Fix}{pd:Nat->Nat->Prop}{a:Act}{w:World}{d:Nat}:(ts:Tys)->(j:Nat)->(vs:List VC)->(us:List Value)->(G:Gh)->(s:St)->RelP F pd G s a w->VCs G w vs us->(s.gB d).2=0->
 Sat (xj d j ts vs:M γ (List VC)) s fun ws s'=>Qp s s'/\∃G',G.le G'/\RelP F pd G' s' a w/\VCs G' w ws us
 | .nil,j,[],us,G,s,h,hv,hb=>Sat.pure ⟨Qp.refl s,G,Gh.le.refl G,h,hv⟩
 | .nil,j,_::_,us,G,s,h,hv,hb=>Sat.fail
 | .cons t ts,j,[],us,G,s,h,hv,hb=>Sat.fail
 | .cons t ts,j,v::vs,us,G,s,h,hv,hb=>by
   obtain⟨u,us',rfl,hv1,hv2⟩:=hv
   unfold xj
   have rest:∀(v':VC) (s1:St) (G1:Gh),Qp s s1->G.le G1->RelP F pd G1 s1 a w->VCR G1 w v' u->
    Sat (do let vs'<-xj d (j+1) ts vs;pure (v'::vs'):M γ (List VC)) s1 fun ws s'=>Qp s s'/\∃G',G.le G'/\RelP F pd G' s' a w/\VCs G' w ws (u::us'):=by
    intro v' s1 G1 hk hle h1 hv'
    refine Sat.bind (Qma ts (j+1) vs us' G1 s1 h1 (VCs.mono hle (fun _ _=>rfl) _ _ hv2) (by rw[hk.gB];exact hb)) ?_
    rintro ws s2 ⟨hk2,G2,hle2,h2,hw⟩
    exact Sat.pure ⟨hk.trans hk2,G2,hle.trans hle2,h2,u,us',rfl,VCR.mono hle2 (fun _ _=>rfl) _ _ hv',hw⟩
   cases v with
   |vw p=>
    obtain⟨t',hp,hone⟩:=hv1
    dsimp only
    refine Sat.bind (QzF h hp) ?_
    rintro b s' rfl
    split
    ·refine Sat.bind (Sat.mI (Φ:=fun c s''=>s''=s'/\c=s'.gI d j) ⟨rfl,rfl⟩) ?_
     intro c s'' hc
     rw[hc.1,hc.2]
     refine Sat.bind (Qzt h hp (r:=d) (k:=j) (fun e=>by omega) (fun e=>by omega)) ?_
     rintro⟨x,deep,tag⟩ s1 ⟨hk,G',h1,h2,h3,h4⟩
     refine Sat.bind (Sat.wC (Φ:=fun _ s3=>s3=s1.sC d j (mkC ((s'.gC d j).id+1) (s'.gC d j).nv (.own x deep tag))) rfl) ?_
     rintro _ s3 e
     rw[e]
     exact Sat.bind (Sat.pure (Φ:=fun v' s4=>v'= .vw ⟨d,j,(s'.gC d j).id+1,(s'.gC d j).nv,none,none⟩/\s4=s1.sC d j (mkC ((s'.gC d j).id+1) (s'.gC d j).nv (.own x deep tag))) ⟨rfl,rfl⟩)
      (by rintro v' s4 ⟨rfl,rfl⟩;exact rest _ _ G' (hk.trans (Qp.sC _ _ _ _)) h1 h2 ⟨_,h3,hone⟩)
    ·exact Sat.bind (Sat.pure (Φ:=fun v' s4=>v'= .vw p/\s4=s') ⟨rfl,rfl⟩) (by rintro v' s4 ⟨rfl,rfl⟩;exact rest _ _ G (Qp.refl _) (Gh.le.refl G) h ⟨_,hp,hone⟩)
   |nilS=>
    dsimp only
    cases t with
    |sl us=>
     have hh:Held F G w ⟨⟨.sl us,(show List (Qm us)from [])⟩,true,u,[]⟩:=⟨.inl ⟨rfl,hv1,rfl⟩,rfl,QY5,by simp⟩
     refine Sat.bind (zp h hh) ?_
     rintro v' s1 ⟨hk,G',h1,h2,h3,_⟩
     exact rest v' s1 G' hk h1 h2 h3
    |_=>exact Sat.bind (Φ:=fun _ _=>False) Sat.fail (fun _ _ e=>e.elim)
   |sc x=>exact Sat.bind (Sat.pure (Φ:=fun v' s1=>v'= .sc x/\s1=s) ⟨rfl,rfl⟩) (by rintro v' s1 ⟨rfl,rfl⟩;exact rest _ _ G (Qp.refl _) (Gh.le.refl G) h hv1)
   |ro x=>exact Sat.bind (Sat.pure (Φ:=fun v' s1=>v'= .ro x/\s1=s) ⟨rfl,rfl⟩) (by rintro v' s1 ⟨rfl,rfl⟩;exact rest _ _ G (Qp.refl _) (Gh.le.refl G) h hv1)
   |bad=>exact Sat.bind (Sat.pure (Φ:=fun v' s1=>v'= .bad/\s1=s) ⟨rfl,rfl⟩) (by rintro v' s1 ⟨rfl,rfl⟩;exact rest _ _ G (Qp.refl _) (Gh.le.refl G) h hv1)
theorem QBG {F:Fix}{pd:Nat->Nat->Prop}{G:Gh}{s:St}{a:Act}{w:World}(h:RelP F pd G s a w) {r k:Nat}{u:Value}(hu:Xe G w r k (s.gC r k) u) (h1:u.oneCell'=true):
 Sat (QkH r k:M γ VC) s fun v s'=>s'=s/\VCR G w v u:=by
 unfold QkH
 refine Sat.bind (Sat.mI (Φ:=fun c s'=>s'=s/\c=s.gI r k) ⟨rfl,rfl⟩) ?_
 intro c s' hc
 rw[hc.1,hc.2]
 unfold Xe Con.st at hu
 rw[show(s.gI r k).sh=(s.gC r k).sh from rfl]
 cases hs:(s.gC r k).sh with
 |sc=>
  rw[hs]at hu
  exact Sat.bind (Sat.mC (Φ:=fun c' s''=>s''=s/\c'=s.gC r k) ⟨rfl,rfl⟩) (by rintro c' s'' ⟨e,e'⟩;rw[e,e'];exact Sat.pure ⟨rfl,hu⟩)
 |ro=>
  rw[hs]at hu
  exact Sat.bind (Sat.mC (Φ:=fun c' s''=>s''=s/\c'=s.gC r k) ⟨rfl,rfl⟩) (by rintro c' s'' ⟨e,e'⟩;rw[e,e'];exact Sat.pure ⟨rfl,hu⟩)
 |fix=>
  rw[hs]at hu
  refine Sat.bind (Sat.mC (Φ:=fun c' s''=>s''=s/\c'=s.gC r k) ⟨rfl,rfl⟩) (by rintro c' s'' ⟨e,e'⟩;rw[e,e'];split<;>exact Sat.pure ⟨rfl,hu⟩)
 |own d t=>
  rw[hs]at hu
  exact Sat.pure ⟨rfl,_,hu,h1⟩
 |vw p=>rw[hs]at hu;obtain⟨t,hu⟩:=hu;exact Sat.pure ⟨rfl,t,hu,h1⟩
 |dead=>exact Sat.pure ⟨rfl,h1⟩
 |part i m=>exact Sat.pure ⟨rfl,h1⟩
theorem Qf6 {F:Fix}{G:Gh}{s:St}{a:Act}{w:World}(h:Rel F G s a w) {r b:Nat}{cur:Array Value}{e:TypeId}(hb:G.GB r (s.gB r).1=some b) (hc:w.heap[b]? =some (.cells cur e (0,0))):
 (n k:Nat)->k+n<=(s.gB r).2->Sat (ym r k n:M γ (List VC)) s fun vs s'=>s'=s/\VCs G w vs ((cur.toList.drop k).take n)/\cur.size=(s.gB r).2\/n=0/\s'=s/\vs=[]
 |0,k,_=>Sat.pure (.inr ⟨rfl,rfl,rfl⟩)
 |n+1,k,hk=>by
  obtain⟨b',cur',e',h1,h2,h3,h4,h5⟩:=(h.box r).live (by omega)
  rw[hb]at h1;cases h1
  rw[hc]at h3;cases h3
  obtain⟨u,g1,g2,g3,g4⟩:=h5 k (by omega)
  unfold ym
  refine Sat.bind (QBG h (g3 id) g2) ?_
  rintro v s' ⟨rfl,hv⟩
  refine Sat.bind (Qf6 h hb hc n (k+1) (by omega)) ?_
  intro vs s'' hh
  have hd:cur.toList.drop k=u::cur.toList.drop (k+1):=by
   rw[QRa (by simp;omega)]
   congr 1
   have:=(Array.getElem?_eq_some_iff.1 g1).2
   simpa using this
  rcases hh with⟨e,hh,_⟩|⟨rfl,e,rfl⟩
  ·rw[e]
   refine Sat.pure (.inl ⟨rfl, ?_,h4⟩)
   rw[hd,List.take_succ_cons]
   exact⟨u,_,rfl,hv,hh⟩
  ·rw[e]
   refine Sat.pure (.inl ⟨rfl, ?_,h4⟩)
   rw[hd,List.take_succ_cons]
   exact⟨u,_,rfl,hv,by simp[VCs]⟩
end
mutual
theorem Ty.QlL:(t:Ty)->Ty.eq? t t=some ⟨rfl⟩
 | .int k=>by simp[Ty.eq?]
 | .bool=>rfl
 | .str=>rfl
 | .sl ts=>by simp[Ty.eq?,Tys.QlL ts]
theorem Tys.QlL:(ts:Tys)->Tys.eq? ts ts=some ⟨rfl⟩
 | .nil=>rfl
 | .cons t ts=>by simp[Tys.eq?,Ty.QlL t,Tys.QlL ts]
end
theorem TV.QL6 (y:TV):y.as y.t=some y.v:=by unfold TV.as;rw[Ty.QlL]
theorem Qjw:(ts:Tys)->(x:Qm ts)->(m:Nat)->(y:TV)->ts.get? m=some y.t->∃x',YP ts x m y=some x'
 | .nil,_,_,_,h=>by simp[Tys.get?]at h
 | .cons t ts,x,0,y,h=>by
   simp[Tys.get?]at h;subst h
   exact⟨_,by simp only[YP];rw[TV.QL6]⟩
 | .cons t ts,x,m+1,y,h=>by
   obtain⟨x',hx⟩:=Qjw ts (vtl x) m y (by simpa[Tys.get?]using h)
   exact⟨_,by simp only[YP];rw[hx]⟩
theorem Qpy {t:Ty}{ts:Tys}(a:Val t) (b:Qm ts):unpack (.cons t ts) (vmk a b)=⟨t,a⟩::unpack ts b:=by
 simp only[unpack];rw[Qsk,Qsv]
theorem Qtr:(ts:Tys)->(x x':Qm ts)->(m:Nat)->(y:TV)->YP ts x m y=some x'->∀j,(unpack ts x')[j]? =if j=m then some y else(unpack ts x)[j]?
 | .nil,_,_,_,_,h,_=>by simp[YP]at h
 | .cons t ts,x,x',0,y,h,j=>by
   simp only[YP]at h
   cases hq:y.as t with
   |none=>rw[hq]at h;cases h
   |some a=>
    rw[hq]at h;cases h
    have:=Zt hq;subst this
    rw[Qpy]
    cases j with
    |zero=>simp
    |succ j=>simp[unpack]
 | .cons t ts,x,x',m+1,y,h,j=>by
   simp only[YP]at h
   cases hq:YP ts (vtl x) m y with
   |none=>rw[hq]at h;cases h
   |some b=>
    rw[hq]at h;cases h
    rw[Qpy]
    cases j with
    |zero=>simp[unpack]
    |succ j=>
     have:=Qtr ts (vtl x) b m y hq j
     simp[unpack,this]
theorem Tys.QyT:(ts:Tys)->(m n j:Nat)->j<(ts.sub m n).len->(ts.sub m n).get? j=ts.get? (m+j)
 | .nil,m,0,j,h=>by simp[Tys.sub,Tys.len]at h
 | .nil,m,n+1,j,h=>by simp[Tys.sub,Tys.len]at h
 | .cons t ts,m,0,j,h=>by simp[Tys.sub,Tys.len]at h
 | .cons t ts,0,n+1,j,h=>by
   cases j with
   |zero=>simp[Tys.sub,Tys.get?]
   |succ j=>
    simp only[Tys.sub,Tys.len]at h
    have:=Tys.QyT ts 0 n j (by omega)
    rw[QRo]at this⊢
    exact this
 | .cons t ts,m+1,n+1,j,h=>by
   simp only[Tys.sub]at h⊢
   rw[Tys.QyT ts m (n+1) j h,show m+1+j=(m+j)+1 by omega]
   rfl
theorem Tys.QoA:(ts:Tys)->(m:Nat)->(t:Ty)->ts.get? m=some t->m<ts.len
 | .nil,m,t,h=>by simp[Tys.get?]at h
 | .cons _ ts,0,t,h=>by simp[Tys.len]
 | .cons _ ts,m+1,t,h=>by
   have:=Tys.QoA ts m t (by simpa[Tys.get?]using h)
   simp only[Tys.len];omega
theorem QFM {ts:Tys}{x:Qm ts}{m:Nat}{t:Ty}(h:ts.get? m=some t):∃v:Val t,(unpack ts x)[m]? =some ⟨t,v⟩:=by
 have hm:=Tys.QoA ts m t h
 have:(unpack ts x)[m]? =some ((unpack ts x)[m]'(by rw[vo];exact hm)):=QRp _
 have ht:=VM ts x m _ this
 rw[h]at ht
 generalize (unpack ts x)[m]'(by rw[vo];exact hm)=y at this ht
 obtain⟨yt,yv⟩:=y
 cases ht
 exact⟨yv,this⟩
theorem Own.QQu {w:World}{R:Nat->Prop}{deep:Bool}{es:Tys}{ys:Val (.sl es)}{bl:List Nat}{g o n c:Nat}(h:Own w R deep (.sl es) ys (.slice (some ⟨g,o,none⟩) n c) bl) (hnd:bl.Nodup) (hRg:¬R g)
 {i m:Nat}{x:Qm es}{z:TV}(hx:(vl ys)[i]? =some x) (hz:(unpack es x)[m]? =some z):
 ∃cur e uy pre b post,w.heap[g]? =some (.cells cur e (0,0))/\o+(i*es.len+m)<cur.size/\cur[o+(i*es.len+m)]? =some uy/\bl=g::(pre++b++post)/\Yr w R deep z.t z.v uy b/\
  ∀(a:TV) (u':Value) (b':List Nat) (x':Qm es),YP es x m a=some x'->Yr w R deep a.t a.v u' b'->(∀c∈b',c≠g)->
   Own (w.setRow g (cur.setIfInBounds (o+(i*es.len+m)) u')) R deep (.sl es) (List.set (vl ys) i x') (.slice (some ⟨g,o,none⟩) n c) (g::(pre++b'++post)):=by
 obtain⟨g',off',cap,cur,e,pre,b,post,us,hu',hg,h1,h2,h3,hbl,hcs,hov,hput⟩:=Own.el h i x hx
 cases hu'
 obtain⟨uc,pre2,b2,post2,hum,hb,ho,hput2⟩:=QT.focus es x us b hov m z hz
 have hml:m<es.len:=by rw[<-vo es x];exact(QRq.1 hz).1
 have hil:i<(vl ys).length:=(QRq.1 hx).1
 have hA:o+(i*es.len+m)<cur.size:=by
  have:=QY16 es.len (show i+1<=c by omega)
  rw[QY25]at this
  omega
 have hcell:cur[o+(i*es.len+m)]? =some uc:=by
  have:=hcs m uc hum
  rw[VG hg]at this
  exact this
 rw[hbl]at hnd
 have hgn:=(QY4.1 hnd).1
 refine⟨cur,e,uc,pre++pre2,b2,post2++post,hg,hA,hcell,by rw[hbl,hb];simp,ho, ?_⟩
 intro a u' b' x' hp hoa hb'
 have hg':=setRow_heap w g cur (cur.setIfInBounds (o+(i*es.len+m)) u') e (0,0) hg
 have hfr:∀k,k≠g->Q5 w (w.setRow g (cur.setIfInBounds (o+(i*es.len+m)) u')) k:=fun k hk=>setRow_other w g k _ hk
 have hRs:∀k,R k->Q5 w (w.setRow g (cur.setIfInBounds (o+(i*es.len+m)) u')) k:=fun k hk=>hfr k (fun e=>hRg (e▸hk))
 have hmem:∀k∈pre++b++post,k≠g:=fun k hk e=>hgn (e▸hk)
 have hov':=hput2 (w.setRow g (cur.setIfInBounds (o+(i*es.len+m)) u')) a x' u' b' hp
  (fun k hk=>hfr k (hmem k (by rw[hb];rcases QRh.1 hk with hk|hk<;>simp[hk]))) hRs (hoa.frame (fun k hk=>hfr k (hb' k hk)) hRs)
 have:=hput (w.setRow g (cur.setIfInBounds (o+(i*es.len+m)) u')) (cur.setIfInBounds (o+(i*es.len+m)) u') x' (us.set m u') (pre2++b'++post2) hg' (by simp)
  (fun j hj=>by rw[QY40,if_neg (by omega)])
  (fun k hk=>hfr k (hmem k (by rcases QRh.1 hk with hk|hk<;>simp[hk]))) hRs ?_ hov'
 ·have e2:pre++(pre2++b'++post2)++post=pre++pre2++b'++(post2++post):=by simp
  rw[e2]at this;exact this
 ·intro j v hj
  rw[VG hg',QY40]
  rw[List.getElem?_set]at hj
  by_cases hjm:m=j
  ·subst hjm
   rw[if_pos rfl]at hj
   have:m<us.length:=by rw[(QT.len hov).1];exact hml
   rw[if_pos this]at hj
   rw[if_pos rfl,if_pos hA];exact hj
  ·rw[if_neg hjm]at hj
   rw[if_neg (by omega)]
   have:=hcs j v hj
   rwa[VG hg]at this
section
variable {γ:Type}{P:Program}
theorem QA3 (w:World) (g o:Nat) (cur:Array Value) (e:TypeId) (v:Value) (hg:w.heap[g]? =some (.cells cur e (0,0))) (ho:o<cur.size) (hv:v.oneCell'=true):
 (store ⟨g,o,none⟩ v).run P w= .ok () (w.setRow g (cur.setIfInBounds o v)):=by
 have hcell:w.cell? ⟨g,o,none⟩=some cur[o]:=by simp[World.cell?,hg,ho]
 have hfro:w.frozen? ⟨g,o,none⟩=false:=by simp[World.frozen?,hg]
 rw[run_store P w _ v _ hv,hcell]
 simp[hfro,setCell_eq_setRow w g o cur e (0,0) v hg]
structure TakenP (F:Fix) (pd:Nat->Nat->Prop) (G:Gh) (s:St) (a:Act) (w:World) (tu:Ty×Value) (d:Option Pl) (x:TV×Bool×Option (Nat×Nat)) (s1:St):Prop where
 kept:Qp s s1
 dead:∀r k,(s.gC r k).st= .dead->s1.gC r k=s.gC r k
 ty:x.1.t=tu.1
 rel:∃G' bl,G.le G'/\RelP F pd G' s1 a w/\Held F G' w ⟨x.1,x.2.1,tu.2,bl⟩/\(∀b∈bl,∃κ,G.ow b= .key κ)/\(∀b,G.ow b= .free->G'.ow b= .free)/\(∀b κ,G'.ow b= .key κ->G.ow b= .key κ)/\
  ∀r' k' j v i m y,G'.HN r' k' j v i m=some y->G.HN r' k' j v i m=some y\/(d=some ⟨r',k',j,v,some (i,m),none⟩/\y=tu)
theorem Qqi {F:Fix}{pd:Nat->Nat->Prop}{G:Gh}{s:St}{a:Act}{w:World}(h:RelP F pd G s a w) {p:Pl}{tu:Ty×Value}(hp:G.PH p=some tu):
 Sat (JD p:M γ (TV×Bool×Option (Nat×Nat))) s fun x s'=>TakenP F pd G s a w tu none x s':=by
 unfold JD
 refine Sat.bind (Kr h hp) ?_
 rintro⟨q,c⟩ s' ⟨e1,e2,e3,e4,e5⟩
 subst e1
 simp only at e2 e3 e4 e5
 dsimp only
 cases hc:c.st with
 |own x deep tag=>
  cases hn:q.nest with
  |some _=>exact Sat.fail
  |none=>
   have hc':=hc
   rw[e2]at hc'
   obtain⟨u,bl,k1,k2,k3,k4⟩:=(h.con q.r q.k).own x deep tag hc'
   have hki:=(h.it _ _ k1).key
   obtain⟨r1,r2,r3⟩:=h.take hc' k1
   have hmk:∀b κ,(G.drop q.r q.k bl).ow b= .key κ->G.ow b= .key κ:=fun b κ hb=>by
    have hb:(if b∈bl then Ow.free else G.ow b)= .key κ:=hb
    split at hb
    ·cases hb
    ·exact hb
   have hfr:∀b,G.ow b= .free->(G.drop q.r q.k bl).ow b= .free:=fun b hb=>by
    show(if b∈bl then Ow.free else G.ow b)= .free
    split
    ·rfl
    ·exact hb
   have hdead:∀r k,(s'.gC r k).st= .dead->(s'.sC q.r q.k (mkC c.id c.nv .dead)).gC r k=s'.gC r k:=fun r k hd=>by
    rw[QP,if_neg]
    rintro⟨rfl,rfl⟩
    rw[hc']at hd;cases hd
   have hb:G.base q=some (x.t,u):=by unfold Gh.base;rw[hn];simp only;rw[<-e3,e2];exact k2
   refine Sat.bind (Sat.wC (Φ:=fun _ s''=>s''=s'.sC q.r q.k (mkC c.id c.nv .dead)) rfl) ?_
   rintro _ s'' e
   rw[e]
   rw[<-e2]at r1
   unfold Gh.PH at e5
   cases hr:q.rng with
   |none=>
    rw[hr]at e5
    simp only at e5
    rw[hb]at e5
    cases e5
    exact Sat.pure ⟨Qp.sC _ _ _ _,hdead,rfl,_,bl,r3,r1,r2,fun b hb=>⟨_,(hki b hb).1⟩,hfr,hmk,fun _ _ _ _ _ _ _ hy=> .inl hy⟩
   |some lk=>
    rw[hr]at e5
    simp only at e5
    rw[hb]at e5
    refine Sat.bind (Sat.ofO (Φ:=fun y s3=>s3=s'.sC q.r q.k (mkC c.id c.nv .dead)/\KX x lk.1 lk.2=some y) (fun y hy=>⟨rfl,hy⟩)) ?_
    rintro y s3 ⟨e',hy⟩
    rw[e']
    obtain⟨bl',g1,g2,g3⟩:=r2.sub hy e5
    exact Sat.pure ⟨Qp.sC _ _ _ _,hdead,g2,_,bl',r3,r1,g1,fun b hb=>⟨_,(hki b (g3 b hb)).1⟩,hfr,hmk,fun _ _ _ _ _ _ _ hy=> .inl hy⟩
 |_=>exact Sat.fail
def Gh.QlG (G:Gh) (q qk:Nat) (bl:List Nat) (r k id nv:Nat) (i:Int) (m:Nat) (tu:Ty×Value):Gh:=
 {G.drop q qk bl with HN:=fun r' k' j v i' m'=>if r'=r/\k'=k/\j=id/\v=nv/\i'=i/\m'=m then some tu else G.HN r' k' j v i' m'}
theorem RelP.QlG {F:Fix}{pd:Nat->Nat->Prop}{G:Gh}{s:St}{a:Act}{w:World}(h:RelP F pd G s a w) {q qk:Nat}{x:TV}{deep:Bool}{tag:Option (Nat×Nat)}{u:Value}{bl:List Nat}
 (hq:(s.gC q qk).st= .own x deep tag) (hi:G.it (.con q qk)=some ⟨x,deep,u,bl⟩) (hHq:G.H q qk (s.gC q qk).id=some (x.t,u)) {r k m:Nat}{i:Int}(hd:(s.gC r k).st= .dead)
 (hN:G.HN r k (s.gC r k).id (s.gC r k).nv i m=none):
 RelP F pd (G.QlG q qk bl r k (s.gC r k).id (s.gC r k).nv i m (x.t,u)) (s.sC q qk (mkC (s.gC q qk).id (s.gC q qk).nv (.vw ⟨r,k,(s.gC r k).id,(s.gC r k).nv,some (i,m),none⟩))) a w/\
  Held F (G.QlG q qk bl r k (s.gC r k).id (s.gC r k).nv i m (x.t,u)) w ⟨x,deep,u,bl⟩/\G.le (G.QlG q qk bl r k (s.gC r k).id (s.gC r k).nv i m (x.t,u)):=by
 have hitr:=h.it _ _ hi
 have hkey:∀b∈bl,G.ow b= .key (.con q qk):=fun b hb=>(hitr.key b hb).1
 have hne:¬(q=r/\qk=k):=by
  rintro⟨rfl,rfl⟩
  rw[hq]at hd;cases hd
 have hNew:(G.QlG q qk bl r k (s.gC r k).id (s.gC r k).nv i m (x.t,u)).HN r k (s.gC r k).id (s.gC r k).nv i m=some (x.t,u):=if_pos ⟨rfl,rfl,rfl,rfl,rfl,rfl⟩
 have hle:G.le (G.QlG q qk bl r k (s.gC r k).id (s.gC r k).nv i m (x.t,u)):=⟨fun _ _ _ _ h=>h,fun r' k' j v i' m' y hy=>by
  show(if r'=r/\k'=k/\j=_/\v=_/\i'=i/\m'=m then some (x.t,u)else G.HN r' k' j v i' m')=some y
  split
  ·rename_i e
   obtain⟨rfl,rfl,rfl,rfl,rfl,rfl⟩:=e
   rw[hN]at hy;cases hy
  ·exact hy,fun _ _ _ h=>h,fun b hb=>by
  show(if b∈bl then Ow.free else G.ow b)= .ro
  rw[if_neg (fun hm=>by rw[hkey b hm]at hb;cases hb)];exact hb⟩
 refine⟨?_,⟨Own.mono (fun b hb=>hle.ro b hb) _ _ _ _ hitr.own,hitr.sl,hitr.nodup,fun b hb=>⟨if_pos hb,(hitr.key b hb).2,fun hlt=>h.own b _ (hkey b hb) hlt⟩⟩,hle⟩
 refine h.upd hle rfl (fun i=>rfl) (fun i=>rfl) (fun r' k'=>(r'=q/\k'=qk)\/(r'=r/\k'=k)) ?_ ?_ ?_ ?_ (fun _ _=>rfl) ?_ ?_ ?_ ?_ ?_
 ·intro r' k' hn2
  refine⟨by rw[QP,if_neg (fun e=>hn2 (.inl ⟨e.1.symm,e.2.symm⟩))], ?_,fun _=>rfl,fun j v i' m'=>if_neg (fun e=>hn2 (.inr ⟨e.1,e.2.1⟩))⟩
  exact if_neg (fun e=>by cases e;exact hn2 (.inl ⟨rfl,rfl⟩))
 ·intro r' k' hc2
  by_cases hqq:q=r'/\qk=k'
  ·obtain⟨rfl,rfl⟩:=hqq
   rw[QP,if_pos ⟨rfl,rfl⟩]
   refine⟨fun j hj=> ?_,fun j v i' m' hj=> ?_,fun x' deep' tag' hc'=> ?_,fun p' hc'=> ?_⟩
   ·rw[Q1]at hj;exact(h.con _ _).freshH j hj
   ·rw[Q1,ZC]at hj
    exact(if_neg (fun e=>hne ⟨e.1,e.2.1⟩)).trans ((h.con q qk).freshN j v i' m' hj)
   ·rw[QD]at hc';cases hc'
   ·rw[QD]at hc';cases hc'
    exact⟨x.t,u,by rw[Q1];exact hHq,hNew⟩
  ·have hrk:r'=r/\k'=k:=by rcases hc2 with e|e;exact(hqq ⟨e.1.symm,e.2.symm⟩).elim;exact e
   obtain⟨rfl,rfl⟩:=hrk
   rw[QP,if_neg hqq]
   refine⟨fun j hj=>(h.con _ _).freshH j hj,fun j v i' m' hj=> ?_,fun x' deep' tag' hc'=>(by rw[hd]at hc';cases hc'),fun p' hc'=>(by rw[hd]at hc';cases hc')⟩
   exact(if_neg (fun e=>by omega)).trans ((h.con r' k').freshN j v i' m' hj)
 ·intro r' k' u' hc2 hk hp' hbx
  by_cases hqq:q=r'/\qk=k'
  ·obtain⟨rfl,rfl⟩:=hqq
   rw[QP,if_pos ⟨rfl,rfl⟩]
   unfold Xe at hbx⊢
   rw[hq]at hbx
   rw[QD]
   simp only at hbx⊢
   rw[hHq]at hbx;cases hbx
   exact⟨x.t,hNew⟩
  ·have hrk:r'=r/\k'=k:=by rcases hc2 with e|e;exact(hqq ⟨e.1.symm,e.2.symm⟩).elim;exact e
   obtain⟨rfl,rfl⟩:=hrk
   rw[QP,if_neg hqq]
   unfold Xe;rw[hd];trivial
 ·intro r' k' hc2 hk ⟨y,hy⟩
  rcases hc2 with⟨rfl,rfl⟩|⟨rfl,rfl⟩
  ·rw[hq]at hy;cases hy
  ·rw[hd]at hy;cases hy
 ·intro κ y hy
  have hy:(if κ= .con q qk then none else G.it κ)=some y:=hy
  by_cases n2:κ= .con q qk
  ·rw[if_pos n2]at hy;cases hy
  ·rw[if_neg n2]at hy
   refine(h.it κ y hy).give (fun b hb=>hle.ro b hb) (fun b hb=> ?_)
   have hk:=((h.it κ y hy).key b hb).1
   show(if b∈bl then Ow.free else G.ow b)=_
   rw[if_neg (fun hm=>by rw[hkey b hm]at hk;cases hk;exact n2 rfl)]
   exact hk
 ·intro b hb
  refine h.lt b (fun e=>hb ?_)
  show(if b∈bl then Ow.free else G.ow b)=_
  split
  ·rfl
  ·exact e
 ·intro b κ hb hlt
  have hb:(if b∈bl then Ow.free else G.ow b)= .key κ:=hb
  split at hb
  ·cases hb
  ·exact h.own b κ hb hlt
 ·intro b hb hlt
  have hb:(if b∈bl then Ow.free else G.ow b)= .ro:=hb
  split at hb
  ·cases hb
  ·exact h.ro b hb hlt
 ·intro b r' hb
  show(if b∈bl then Ow.free else G.ow b)=_
  rw[if_neg (fun hm=>by rw[hkey b hm]at hb;cases hb)]
  exact hb
theorem QHA {F:Fix}{pd:Nat->Nat->Prop}{G:Gh}{s:St}{a:Act}{w:World}(h:RelP F pd G s a w) {p:Pl}{tu:Ty×Value}(hp:G.PH p=some tu) {r k m:Nat}{i:Int}(hd:(s.gC r k).st= .dead)
 (hN:G.HN r k (s.gC r k).id (s.gC r k).nv i m=none):
 Sat (Qjt p ⟨r,k,(s.gC r k).id,(s.gC r k).nv,some (i,m),none⟩:M γ (TV×Bool×Option (Nat×Nat))) s fun x s'=>TakenP F pd G s a w tu (some ⟨r,k,(s.gC r k).id,(s.gC r k).nv,some (i,m),none⟩) x s':=by
 unfold Qjt
 refine Sat.bind (Kr h hp) ?_
 rintro⟨q,c⟩ s' ⟨e1,e2,e3,e4,e5⟩
 subst e1
 simp only at e2 e3 e4 e5
 dsimp only
 cases hc:c.st with
 |own x deep tag=>
  cases hn:q.nest with
  |some _=>exact Sat.fail
  |none=>
   have hc':=hc
   rw[e2]at hc'
   obtain⟨u,bl,k1,k2,k3,k4⟩:=(h.con q.r q.k).own x deep tag hc'
   have hki:=(h.it _ _ k1).key
   have hmk:∀b κ,(G.drop q.r q.k bl).ow b= .key κ->G.ow b= .key κ:=fun b κ hb=>by
    have hb:(if b∈bl then Ow.free else G.ow b)= .key κ:=hb
    split at hb
    ·cases hb
    ·exact hb
   have hfr:∀b,G.ow b= .free->(G.drop q.r q.k bl).ow b= .free:=fun b hb=>by
    show(if b∈bl then Ow.free else G.ow b)= .free
    split
    ·rfl
    ·exact hb
   have hdead:∀(c':Con) r k,(s'.gC r k).st= .dead->(s'.sC q.r q.k c').gC r k=s'.gC r k:=fun c' r k hd=>by
    rw[QP,if_neg]
    rintro⟨rfl,rfl⟩
    rw[hc']at hd;cases hd
   have hb:G.base q=some (x.t,u):=by unfold Gh.base;rw[hn];simp only;rw[<-e3,e2];exact k2
   unfold Gh.PH at e5
   dsimp only
   cases hr:q.rng with
   |none=>
    rw[hr]at e5
    simp only at e5
    rw[hb]at e5
    cases e5
    refine Sat.bind (Sat.wC (Φ:=fun _ s''=>s''=s'.sC q.r q.k (mkC c.id c.nv (.vw ⟨r,k,(s'.gC r k).id,(s'.gC r k).nv,some (i,m),none⟩))) rfl) ?_
    rintro _ s'' e
    rw[e]
    obtain⟨r1,r2,r3⟩:=h.QlG hc' k1 k2 hd hN
    rw[<-e2]at r1
    refine Sat.pure ⟨Qp.sC _ _ _ _,hdead _,rfl,_,bl,r3,r1,r2,fun b hb=>⟨_,(hki b hb).1⟩,hfr,hmk, ?_⟩
    intro r' k' j v i' m' y hy
    have hy2:(if r'=r/\k'=k/\j=(s'.gC r k).id/\v=(s'.gC r k).nv/\i'=i/\m'=m then some (x.t,u)else G.HN r' k' j v i' m')=some y:=hy
    clear hy
    by_cases e:r'=r/\k'=k/\j=(s'.gC r k).id/\v=(s'.gC r k).nv/\i'=i/\m'=m
    ·rw[if_pos e]at hy2
     obtain⟨rfl,rfl,rfl,rfl,rfl,rfl⟩:=e
     exact .inr ⟨rfl,(QY10 hy2).symm⟩
    ·rw[if_neg e]at hy2;exact .inl hy2
   |some lk=>
    rw[hr]at e5
    simp only at e5
    rw[hb]at e5
    obtain⟨r1,r2,r3⟩:=h.take hc' k1
    rw[<-e2]at r1
    refine Sat.bind (Sat.wC (Φ:=fun _ s''=>s''=s'.sC q.r q.k (mkC c.id c.nv .dead)) rfl) ?_
    rintro _ s'' e
    rw[e]
    refine Sat.bind (Sat.ofO (Φ:=fun y s3=>s3=s'.sC q.r q.k (mkC c.id c.nv .dead)/\KX x lk.1 lk.2=some y) (fun y hy=>⟨rfl,hy⟩)) ?_
    rintro y s3 ⟨e',hy⟩
    rw[e']
    obtain⟨bl',g1,g2,g3⟩:=r2.sub hy e5
    exact Sat.pure ⟨Qp.sC _ _ _ _,hdead _,g2,_,bl',r3,r1,g1,fun b hb=>⟨_,(hki b (g3 b hb)).1⟩,hfr,hmk,fun _ _ _ _ _ _ _ hy=> .inl hy⟩
 |_=>exact Sat.fail
end
def QkV (w:World) (es:Tys) (x:Qm es) (ad:Addr) (m:Nat) (b:TV) (u:Value):Prop:=
 ∃z uc rng,(unpack es x)[m]? =some z/\w.cell? ad=some uc/\Yq z rng=some b/\Jj z.t uc rng=some (z.t,u)
def zq (w:World) (R:Nat->Prop) (deep:Bool) (es:Tys) (x:Qm es) (g O:Nat):Nat->Tys->List TV->List Value->List (List Nat)->Prop
 |_, .nil,l,us,bls=>l=[]/\us=[]/\bls=[]
 |m, .cons t ts,l,us,bls=>∃b l' u us' bl bls',l=b::l'/\us=u::us'/\bls=bl::bls'/\b.t=t/\((QkV w es x ⟨g,O+m,none⟩ m b u/\bl=[])\/Yr w R deep b.t b.v u bl)/\zq w R deep es x g O (m+1) ts l' us' bls'
theorem QEH {z b:TV}{rng:Option (Int×Int)}(h:Yq z rng=some b):b.t=z.t:=by
 cases rng with
 |none=>cases h;rfl
 |some lk=>
  obtain⟨zt,zv⟩:=z
  cases zt with
  |sl ts=>simp only[Yq,KX]at h;cases h;rfl
  |_=>simp[Yq,KX]at h
theorem Yr.rng {w:World}{R:Nat->Prop}{deep:Bool}{z b:TV}{u u':Value}{bl:List Nat}(h:Yr w R deep z.t z.v u bl) {rng:Option (Int×Int)}(hz:Yq z rng=some b) (hp:Jj z.t u rng=some (z.t,u')):
 ∃bl',Yr w R deep b.t b.v u' bl'/\bl'.Sublist bl:=by
 cases rng with
 |none=>cases hz;cases hp;exact⟨bl,h,QY23 _⟩
 |some lk=>
  cases deep with
  |false=>
   obtain⟨rfl,b',hr,hR⟩:=h
   obtain⟨h1,b'',h2,h3⟩:=QjT hr hz hp
   exact⟨[],⟨rfl,b'',h2,fun c hc=>hR c (h3 c hc)⟩,QY23 _⟩
  |true=>
   obtain⟨l,k⟩:=lk
   obtain⟨zt,zv⟩:=z
   cases zt with
   |sl ts=>
    simp only[Yq,KX]at hz
    cases hz
    have h:Own w R true (.sl ts) zv u bl:=h
    obtain⟨b',hr,_⟩:=Own.rep _ _ _ _ h
    obtain⟨ad,cap,e,_⟩:=hr
    subst e
    simp only[Jj,vI]at hp
    split at hp
    ·rename_i hc
     cases hp
     obtain⟨ad',cap',e,_,_,bl',h1,h2⟩:=Own.sub h l.toNat k.toNat (by omega) (by omega)
     cases e
     refine⟨bl', ?_,h2⟩
     have:(k - l).toNat=k.toNat - l.toNat:=by omega
     show Own w _ true (.sl ts) (List.take (k - l).toNat (List.drop l.toNat (vl zv))) _ bl'
     rw[this];exact h1
    ·cases hp
   |_=>simp[Yq,KX]at hz
theorem Yr.one {w:World}{R:Nat->Prop}{deep:Bool}{t:Ty}{v:Val t}{u:Value}{bl:List Nat}(h:Yr w R deep t v u bl):u.oneCell'=true:=by
 obtain⟨b',hr,_⟩:=h.rep
 exact Rep.one _ _ _ _ hr
theorem QkV.mono {w w':World}{es:Tys}{x x':Qm es}{ad:Addr}{m:Nat}{b:TV}{u:Value}(h:QkV w es x ad m b u) (hx:(unpack es x')[m]? =(unpack es x)[m]?) (hc:w'.cell? ad=w.cell? ad):QkV w' es x' ad m b u:=by
 obtain⟨z,uc,rng,h1,h2,h3,h4⟩:=h
 exact⟨z,uc,rng,by rw[hx];exact h1,by rw[hc];exact h2,h3,h4⟩
theorem zq.mono {w w':World}{R:Nat->Prop}{deep:Bool}{es:Tys}{x x':Qm es}{g O:Nat}:(ts:Tys)->(m:Nat)->(l:List TV)->(us:List Value)->(bls:List (List Nat))->zq w R deep es x g O m ts l us bls->
 (∀j,m<=j->(unpack es x')[j]? =(unpack es x)[j]? /\w'.cell? ⟨g,O+j,none⟩=w.cell? ⟨g,O+j,none⟩)->(∀c∈bls.flatten,Q5 w w' c)->(∀c,R c->Q5 w w' c)->zq w' R deep es x' g O m ts l us bls
 | .nil,_,_,_,_,h,_,_,_=>h
 | .cons t ts,m,l,us,bls,h,hx,hs,hR=>by
   obtain⟨b,l',u,us',bl,bls',rfl,rfl,rfl,ht,hb,hr⟩:=h
   refine⟨b,l',u,us',bl,bls',rfl,rfl,rfl,ht, ?_,zq.mono ts (m+1) l' us' bls' hr (fun j hj=>hx j (by omega)) (fun c hc=>hs c (by simp[hc])) hR⟩
   rcases hb with⟨h1,h2⟩|h1
   ·exact .inl ⟨h1.mono (hx m (QY2 _)).1 (hx m (QY2 _)).2,h2⟩
   ·exact .inr (h1.frame (fun c hc=>hs c (by simp[hc])) hR)
theorem zq.QpV {w:World}{R R':Nat->Prop}(hR:∀b,R b->R' b) {deep:Bool}{es:Tys}{x:Qm es}{g O:Nat}:(ts:Tys)->(m:Nat)->(l:List TV)->(us:List Value)->(bls:List (List Nat))->zq w R deep es x g O m ts l us bls->zq w R' deep es x g O m ts l us bls
 | .nil,_,_,_,_,h=>h
 | .cons t ts,m,l,us,bls,h=>by
   obtain⟨b,l',u,us',bl,bls',rfl,rfl,rfl,ht,hb,hr⟩:=h
   refine⟨b,l',u,us',bl,bls',rfl,rfl,rfl,ht, ?_,zq.QpV hR ts (m+1) l' us' bls' hr⟩
   rcases hb with h1|h1
   ·exact .inl h1
   ·right
    cases deep with
    |true=>exact Own.mono hR _ _ _ _ h1
    |false=>obtain⟨e,b',hr,hb'⟩:=h1;exact⟨e,b',hr,fun b hm=>hR b (hb' b hm)⟩
section
variable {P:Program}
theorem QB6 {R:Nat->Prop}{deep:Bool}{es:Tys}{g o n c I:Nat}{A:Nat}:(ts:Tys)->(off j:Nat)->(w:World)->(ys:List (Qm es))->(x:Qm es)->(bl:List Nat)->(l:List TV)->(us:List Value)->(bls:List (List Nat))->
 Own w R deep (.sl es) ys (.slice (some ⟨g,o,none⟩) n c) bl->bl.Nodup->¬R g->ys[I]? =some x->zq w R deep es x g (o+I*es.len) off ts l us bls->(∀j t,ts.get? j=some t->es.get? (off+j)=some t)->
 (∀b∈bls.flatten,b∉bl)->bls.flatten.Nodup->A+j=o+I*es.len+off->
 ∃z w' bl',putCells es x off l=some z/\(storeCells ⟨g,A,none⟩ us j).run P w= .ok () w'/\Own w' R deep (.sl es) (List.set ys I z) (.slice (some ⟨g,o,none⟩) n c) bl'/\bl'.Nodup/\
  (∀b∈bl',b∈bl\/b∈bls.flatten)/\Grow (· =g) w w'/\w'.heap.size=w.heap.size/\Cells w' ⟨g,o+I*es.len,none⟩ off us/\(∀k,(k<o+I*es.len+off\/o+I*es.len+off+ts.len<=k\/ts.len=0)->w'.cell? ⟨g,k,none⟩=w.cell? ⟨g,k,none⟩)
 | .nil,off,j,w,ys,x,bl,l,us,bls,h,hnd,hRg,hx,hp,hts,hd,hbn,hA=>by
   obtain⟨rfl,rfl,rfl⟩:=hp
   have hset:List.set ys I x=ys:=by
    apply List.ext_getElem?
    intro k
    rw[List.getElem?_set]
    split
    ·rename_i e;subst e
     rw[if_pos (QRq.1 hx).1,hx]
    ·rfl
   exact⟨x,w,bl,rfl,rfl,by rw[hset];exact h,hnd,fun b hb=> .inl hb,Grow.refl _ w,rfl,fun j u hj=>by simp at hj,fun _ _=>rfl⟩
 | .cons t ts,off,j,w,ys,x,bl,l,us,bls,h,hnd,hRg,hx,hp,hts,hd,hbn,hA=>by
   obtain⟨b,l',u,us',bb,bls',rfl,rfl,rfl,ht,hb,hr⟩:=hp
   have het:es.get? off=some t:=by have:=hts 0 t rfl;rwa[QY3]at this
   obtain⟨zv,hz⟩:=QFM (x:=x) het
   obtain⟨cur,e,uy,pre,b0,post,hg,hAl,hcell,hbl,hoz,hput⟩:=Own.QQu h hnd hRg hx hz
   obtain⟨x',hx'⟩:=Qjw es x off b (by rw[ht];exact het)
   have hmem:∀k∈pre++b0++post,k≠g:=by
    rw[hbl]at hnd
    exact fun k hk e=>(QY4.1 hnd).1 (e▸hk)
   have hnew:∃bn,Yr w R deep b.t b.v u bn/\(∀k∈bn,k∈b0\/k∈bb)/\bn.Nodup/\∀k∈bn,k∉pre/\k∉post:=by
    rw[hbl]at hnd
    have hn1:=(QY4.1 hnd).2
    rw[QRi,QRi]at hn1
    rcases hb with⟨⟨z',uc,rng,g1,g2,g3,g4⟩,rfl⟩|h1
    ·rw[hz]at g1;cases g1
     have:uc=uy:=by
      have:w.cell? ⟨g,o+I*es.len+off,none⟩=cur[o+(I*es.len+off)]? :=by simp[World.cell?,hg,QY19]
      rw[this,hcell]at g2;cases g2;rfl
     subst this
     obtain⟨bn,k1,k2⟩:=Yr.rng hoz g3 g4
     refine⟨bn,k1,fun k hk=> .inl (k2.subset hk),hn1.1.2.1.sublist k2,fun k hk=>⟨fun hm=> ?_,fun hm=> ?_⟩⟩
     ·exact hn1.1.2.2 k hm k (k2.subset hk) rfl
     ·exact hn1.2.2 k (by simp[k2.subset hk]) k hm rfl
    ·refine⟨bb,h1,fun k hk=> .inr hk, ?_,fun k hk=>⟨fun hm=> ?_,fun hm=> ?_⟩⟩
     ·rw[QRr,QRi]at hbn;exact hbn.1
     ·exact hd k (by simp[hk]) (by rw[hbl];simp[hm])
     ·exact hd k (by simp[hk]) (by rw[hbl];simp[hm])
   obtain⟨bn,hn1,hn2,hn3,hn4⟩:=hnew
   have hbng:∀k∈bn,k≠g:=by
    intro k hk
    rcases hn2 k hk with h|h
    ·exact hmem k (by simp[h])
    ·intro e;exact hd k (by simp[h]) (by rw[hbl,e];simp)
   have hput':=hput b u bn x' hx' hn1 hbng
   have hst:=QA3 (P:=P) w g (o+(I*es.len+off)) cur e u hg hAl hn1.one
   have hfr:∀k,k≠g->Q5 w (w.setRow g (cur.setIfInBounds (o+(I*es.len+off)) u)) k:=fun k hk=>setRow_other w g k _ hk
   have hg':=setRow_heap w g cur (cur.setIfInBounds (o+(I*es.len+off)) u) e (0,0) hg
   have hIl:I<ys.length:=(QRq.1 hx).1
   have hoff:∀k,k≠o+(I*es.len+off)->(w.setRow g (cur.setIfInBounds (o+(I*es.len+off)) u)).cell? ⟨g,k,none⟩=w.cell? ⟨g,k,none⟩:=by
    intro k hk
    have a1:(w.setRow g (cur.setIfInBounds (o+(I*es.len+off)) u)).cell? ⟨g,k,none⟩=(cur.setIfInBounds (o+(I*es.len+off)) u)[k]? :=by simp[World.cell?,hg']
    have a2:w.cell? ⟨g,k,none⟩=cur[k]? :=by simp[World.cell?,hg]
    rw[a1,a2,QY40,if_neg (fun e=>hk e.symm)]
   have hnd':(g::(pre++bn++post)).Nodup:=by
    rw[hbl]at hnd
    have hx2:=(QY4.1 hnd).2
    rw[QRi,QRi]at hx2
    rw[QY4,QRi,QRi]
    refine⟨fun hm=> ?_,⟨hx2.1.1,hn3,fun a ha b' hb' e=>(hn4 b' hb').1 (e▸ha)⟩,hx2.2.1,fun a ha b' hb' e=> ?_⟩
    ·rcases QRh.1 hm with hm|hm
     ·rcases QRh.1 hm with hm|hm
      ·exact hmem g (by simp[hm]) rfl
      ·exact hbng g hm rfl
     ·exact hmem g (by simp[hm]) rfl
    ·rcases QRh.1 ha with ha|ha
     ·exact hx2.2.2 a (by simp[ha]) b' hb' e
     ·exact(hn4 a ha).2 (e▸hb')
   have hbn':=hbn
   rw[QRr,QRi]at hbn
   obtain⟨z,w',bl',k1,k2,k3,k4,k5,k6,k7,k8,k9⟩:=QB6 (A:=A) ts (off+1) (j+1) (w.setRow g (cur.setIfInBounds (o+(I*es.len+off)) u)) (List.set ys I x') x' (g::(pre++bn++post)) l' us' bls' hput' hnd' hRg (List.getElem?_set_self hIl)
    (zq.mono ts (off+1) l' us' bls' hr (fun i hi=>⟨by rw[Qtr es x x' off b hx' i,if_neg (by omega)],hoff _ (by omega)⟩)
      (fun k hk=>hfr k (fun e=>hd k (by simp[hk]) (by rw[hbl,e];simp))) (fun k hk=>hfr k (fun e=>hRg (e▸hk))))
    (fun i ty hi=>by have:=hts (i+1) ty hi;rwa[show off+(i+1)=off+1+i by omega]at this)
    (fun k hk hm=>by
      rcases QRk.1 hm with rfl|hm
      ·exact hd k (by simp[hk]) (by rw[hbl];simp)
      ·rcases QRh.1 hm with hm|hm
       ·rcases QRh.1 hm with hm|hm
        ·exact hd k (by simp[hk]) (by rw[hbl];simp[hm])
        ·rcases hn2 k hm with h|h
         ·exact hd k (by simp[hk]) (by rw[hbl];simp[h])
         ·exact hbn.2.2 k h k hk rfl
       ·exact hd k (by simp[hk]) (by rw[hbl];simp[hm])) hbn.2.1 (by omega)
   refine⟨z,w',bl', ?_, ?_, ?_,k4, ?_,(Grow.setRow (X:=(· =g)) w g _ rfl).trans k6,by rw[k7,setRow_size], ?_, ?_⟩
   ·simp only[putCells];rw[hx'];exact k1
   ·simp only[storeCells,Sem.run_bind]
    rw[show((⟨g,A,none⟩:Addr).add j)=⟨g,o+(I*es.len+off),none⟩ by rw[add_plain];exact congrArg (fun q=>(⟨g,q,none⟩:Addr)) (by omega),hst]
    exact k2
   ·rw[QY20]at k3;exact k3
   ·intro k hk
    rcases k5 k hk with h|h
    ·rcases QRk.1 h with rfl|h
     ·left;rw[hbl];simp
     ·rcases QRh.1 h with h|h
      ·rcases QRh.1 h with h|h
       ·left;rw[hbl];simp[h]
       ·rcases hn2 k h with h|h
        ·left;rw[hbl];simp[h]
        ·right;simp[h]
      ·left;rw[hbl];simp[h]
    ·right;simp[h]
   ·intro i v hi
    cases i with
    |zero=>
     simp at hi;subst hi
     rw[QY3,add_plain]
     rw[k9 (o+I*es.len+off) (by omega)]
     have:(w.setRow g (cur.setIfInBounds (o+(I*es.len+off)) u)).cell? ⟨g,o+I*es.len+off,none⟩=(cur.setIfInBounds (o+(I*es.len+off)) u)[o+(I*es.len+off)]? :=by simp[World.cell?,hg',QY19]
     rw[this,QY40,if_pos rfl,if_pos hAl]
    |succ i=>
     have:=k8 i v (by simpa using hi)
     rwa[show off+1+i=off+(i+1) by omega]at this
   ·intro k hk
    simp only[Tys.len]at hk
    rw[k9 k (by omega),hoff k (by omega)]
end
section
variable {γ:Type}
structure PartP (F:Fix) (pd:Nat->Nat->Prop) (G:Gh) (s:St) (a:Act) (w:World) (deep:Bool) (d:Option Pl) (t:Ty) (x:Val t) (u:Value) (s1:St):Prop where
 kept:Qp s s1
 dead:∀r k,(s.gC r k).st= .dead->s1.gC r k=s.gC r k
 flat:QN t=false->s1=s
 rel:∃G' bl,G.le G'/\RelP F pd G' s1 a w/\Yr w (fun b=>G'.ow b= .ro) deep t x u bl/\bl.Nodup/\(∀b∈bl,G'.ow b= .free/\b<w.heap.size/\(b<F.w0.heap.size->F.X b))/\(∀b∈bl,∃κ,G.ow b= .key κ)/\
  (∀b,G.ow b= .free->G'.ow b= .free)/\(∀b κ,G'.ow b= .key κ->G.ow b= .key κ)/\(QN t=false->G'=G)/\
  ∀r' k' j v i m y,G'.HN r' k' j v i m=some y->G.HN r' k' j v i m=some y\/(d=some ⟨r',k',j,v,some (i,m),none⟩/\y=(t,u)/\QN t=true)
theorem QLZ {F:Fix}{pd:Nat->Nat->Prop}{G:Gh}{s:St}{a:Act}{w:World}(h:RelP F pd G s a w) (t:Ty) (c:VC) (u:Value) (hc:VCR G w c u) (ht:QN t=false) (deep:Bool):
 Sat (QdR t c:M γ (Val t)) s fun v s'=>s'=s/\∀R,Yr w R deep t v u []:=by
 refine(Qlj h t c u hc).mono ?_
 rintro v s' ⟨e,b,hr⟩
 refine⟨e,fun R=> ?_⟩
 cases t with
 |sl ts=>cases ht
 |int k=>cases deep with
  |true=>exact⟨hr.1,rfl⟩
  |false=>exact⟨rfl,[],⟨hr.1,rfl⟩,by simp⟩
 |bool=>cases deep with
  |true=>exact⟨hr.1,rfl⟩
  |false=>exact⟨rfl,[],⟨hr.1,rfl⟩,by simp⟩
 |str=>cases deep with
  |true=>exact⟨hr.1,rfl⟩
  |false=>exact⟨rfl,[],⟨hr.1,rfl⟩,by simp⟩
theorem Qv4 {F:Fix}{pd:Nat->Nat->Prop}{G:Gh}{s:St}{a:Act}{w:World}(h:RelP F pd G s a w) {deep:Bool}{d:Option Pl}{t:Ty}{v:VC}{u:Value}(hv:VCR G w v u)
 (hd:∀p,d=some p->QN t=true->∃r k i m,p=⟨r,k,(s.gC r k).id,(s.gC r k).nv,some (i,m),none⟩/\(s.gC r k).st= .dead/\G.HN r k (s.gC r k).id (s.gC r k).nv i m=none):
 Sat (Qow deep d t v:M γ (Val t)) s fun x s'=>PartP F pd G s a w deep d t x u s':=by
 unfold Qow
 by_cases hsl:QN t=true
 ·rw[if_pos hsl]
  have hpure:∀(x:Val t),Yr w (fun b=>G.ow b= .ro) deep t x u []->PartP F pd G s a w deep d t x u s:=fun x hx=>
   ⟨Qp.refl s,fun _ _ _=>rfl,fun _=>rfl,G,[],Gh.le.refl G,h,hx,QY5,by simp,by simp,fun _ hb=>hb,fun _ _ hb=>hb,fun _=>rfl,fun _ _ _ _ _ _ _ hy=> .inl hy⟩
  cases v with
  |sc x=>exact Sat.fail
  |bad=>exact Sat.fail
  |nilS=>
   dsimp only
   cases t with
   |sl ts=>
    refine Sat.pure (hpure _ ?_)
    cases deep with
    |true=>exact .inl ⟨rfl,hv,rfl⟩
    |false=>exact⟨rfl,[],⟨none,0,hv,⟨QY2 _,fun _=>rfl⟩, .inl ⟨rfl,rfl⟩⟩,by simp⟩
   |_=>cases hsl
  |ro x=>
   dsimp only
   cases deep with
   |true=>exact Sat.fail
   |false=>
    obtain⟨bl,h1,h2⟩:=hv
    refine Sat.ofO fun y hy=>hpure y ?_
    have:=Zt hy;subst this
    exact⟨rfl,bl,h1,h2⟩
  |vw p=>
   obtain⟨t',hp,_⟩:=hv
   dsimp only
   have fin:∀(x:TV×Bool×Option (Nat×Nat)) (s1:St),TakenP F pd G s a w (t',u) d x s1->Sat (if(deep&& !x.2.1)=true then Qq else ofO (x.1.as t):M γ (Val t)) s1 fun x s'=>PartP F pd G s a w deep d t x u s':=by
    rintro⟨x,dp,tag⟩ s1 ⟨k1,k2,k3,G',bl,g1,g2,g3,g4,g5,g6,g7⟩
    split
    ·exact Sat.fail
    ·rename_i hdp
     refine Sat.ofO fun y hy=> ?_
     have:=Zt hy;subst this
     simp only at k3
     subst k3
     refine⟨k1,k2,fun e=>(by rw[hsl]at e;cases e), ?_⟩
     cases deep with
     |true=>
      have:dp=true:=by cases dp with|true=>rfl|false=>exact(hdp rfl).elim
      subst this
      refine⟨G',bl,g1,g2,g3.own,g3.nodup,g3.free,g4,g5,g6,fun e=>(by rw[hsl]at e;cases e),fun r' k' j v i m y hy=> ?_⟩
      rcases g7 r' k' j v i m y hy with e|⟨e,e'⟩
      ·exact .inl e
      ·exact .inr ⟨e,e',hsl⟩
     |false=>
      obtain⟨f1,f2,f3⟩:=g2.freeze g3
      refine⟨G'.freeze bl,[],g1.trans f2,f1, ?_,QY5,by simp,by simp,fun b hb=> ?_,fun b κ hb=> ?_,fun e=>(by rw[hsl]at e;cases e),fun r' k' j v i m y hy=> ?_⟩
      ·obtain⟨b',h1,h2⟩:=f3
       exact⟨rfl,b',h1,h2⟩
      ·show(if b∈bl then Ow.ro else G'.ow b)= .free
       rw[if_neg]
       ·exact g5 b hb
       ·intro hm
        obtain⟨κ,hk⟩:=g4 b hm
        rw[hk]at hb;cases hb
      ·have hb:(if b∈bl then Ow.ro else G'.ow b)= .key κ:=hb
       split at hb
       ·cases hb
       ·exact g6 b κ hb
      ·rcases g7 r' k' j v i m y hy with e|⟨e,e'⟩
       ·exact .inl e
       ·exact .inr ⟨e,e',hsl⟩
   cases d with
   |none=>
    dsimp only
    exact Sat.bind (Qqi h hp) fin
   |some pl=>
    dsimp only
    obtain⟨r,k,i,m,rfl,h1,h2⟩:=hd pl rfl hsl
    exact Sat.bind (QHA h hp h1 h2) fin
 ·have hsl:QN t=false:=by cases hh:QN t with|true=>exact(hsl hh).elim|false=>rfl
  rw[hsl,if_neg (by simp)]
  refine(QLZ h t v u hv hsl deep).mono ?_
  rintro x s' ⟨rfl,hx⟩
  exact⟨Qp.refl _,fun _ _ _=>rfl,fun _=>rfl,G,[],Gh.le.refl G,h,hx _,QY5,by simp,by simp,fun _ hb=>hb,fun _ _ hb=>hb,fun _=>rfl,fun _ _ _ _ _ _ _ hy=> .inl hy⟩
theorem QLz {t t':Ty}{u u':Value}{rng:Option (Int×Int)}(h:Jj t u rng=some (t',u')):t'=t:=by
 cases rng with
 |none=>cases h;rfl
 |some lk=>
  cases t with
  |sl ts=>
   cases u with
   |slice ad n c=>
    simp only[Jj,vI]at h
    split at h
    ·cases h;rfl
    ·cases h
   |_=>simp[Jj,vI]at h
  |_=>simp[Jj,vI]at h
def QA1 (w:World) (es:Tys) (x:Qm es) (g O:Nat):Nat->List (Option TV)->List Value->Prop
 |_,[],_=>True
 |m,o::as,u::us=>(∀b,o=some b->QkV w es x ⟨g,O+m,none⟩ m b u)/\QA1 w es x g O (m+1) as us
 |_,_::_,[]=>False
theorem Qtk {F:Fix}{pd:Nat->Nat->Prop}{G:Gh}{s:St}{a:Act}{w:World}(h:RelP F pd G s a w) {es:Tys}{ys:List (Qm es)}{i:Int}{r k g o:Nat}{nested:Bool}
 (hrow:nested=false->∀i' m t u',G.HN r k (s.gC r k).id (s.gC r k).nv i' m=some (t,u')->es.get? m=some t/\w.cell? ⟨g,o+(i'.toNat*es.len+m),none⟩=some u'):
 (ts:Tys)->(off:Nat)->(vs:List VC)->(us:List Value)->VCs G w vs us->
 Sat (yr ⟨.sl es,(show List (Qm es)from ys)⟩ i r k nested off ts vs:M γ (List (Option TV))) s fun as s'=>s'=s/\QA1 w es (rdx es ys i) g (o+i.toNat*es.len) off as us
 | .nil,off,[],us,hv=>Sat.pure ⟨rfl,trivial⟩
 | .nil,off,_::_,us,hv=>Sat.fail
 | .cons t ts,off,[],us,hv=>Sat.fail
 | .cons t ts,off,v::vs,us,hv=>by
   obtain⟨u,us',rfl,hv1,hv2⟩:=hv
   unfold yr
   have fin:∀(o':Option TV) (s':St),(s'=s/\∀b,o'=some b->QkV w es (rdx es ys i) ⟨g,o+i.toNat*es.len+off,none⟩ off b u)->
    Sat (do let l<-yr ⟨.sl es,(show List (Qm es)from ys)⟩ i r k nested (off+1) ts vs;pure (o'::l):M γ (List (Option TV))) s' fun as s'=>s'=s/\QA1 w es (rdx es ys i) g (o+i.toNat*es.len) off as (u::us'):=by
    rintro o' s' ⟨rfl,ho⟩
    refine Sat.bind (Qtk h hrow ts (off+1) vs us' hv2) ?_
    rintro l s2 ⟨rfl,hl⟩
    exact Sat.pure ⟨rfl,ho,hl⟩
   by_cases hsl:QN t=true
   ·rw[if_pos hsl]
    refine Sat.bind ?_ fin
    unfold Qqm
    cases nested with
    |true=>dsimp only;exact Sat.pure ⟨rfl,fun b e=>by cases e⟩
    |false=>
     cases v with
     |vw p=>
      obtain⟨t',hp,_⟩:=hv1
      dsimp only
      refine Sat.bind (jS 8 p s h.con _ hp) ?_
      rintro⟨q,c'⟩ s' ⟨e1,e2,e3,e4,_,e5⟩
      rw[e1]
      simp only at e2 e3 e4 e5
      dsimp only
      cases hn:q.nest with
      |none=>exact Sat.pure ⟨rfl,fun b e=>by cases e⟩
      |some im=>
       obtain⟨i',m⟩:=im
       dsimp only
       split
       ·rename_i hc
        simp only[QQ5,beq_iff_eq]at hc
        obtain⟨⟨hr,hk⟩,hm⟩:=hc
        subst hr;subst hk;subst hm
        unfold Qqn
        refine Sat.bind (Sat.chk (Φ:=fun _ s'=>s'=s/\i'=i) (fun e=>⟨rfl,by simpa using e⟩)) ?_
        rintro _ s2 ⟨rfl,rfl⟩
        refine Sat.bind (Sat.ofO (Φ:=fun z s'=>s'=s2/\Zm ⟨.sl es,(show List (Qm es)from ys)⟩ i' m=some z) (fun z hz=>⟨rfl,hz⟩)) ?_
        rintro z s3 ⟨rfl,hz⟩
        refine Sat.bind (Sat.ofO (Φ:=fun b s'=>s'=s3/\Yq z q.rng=some b) (fun z hz=>⟨rfl,hz⟩)) ?_
        rintro b s4 ⟨rfl,hb⟩
        refine Sat.pure ⟨rfl,fun b' e=> ?_⟩
        cases e
        have hid:(s4.gC q.r q.k).id=q.id:=by rw[e2]at e3;exact e3
        have hnv:(s4.gC q.r q.k).nv=q.nv:=by have:=e4 (by rw[hn];rfl);rw[e2]at this;exact this
        have hbase:∃t1 u1,G.HN q.r q.k q.id q.nv i' m=some (t1,u1)/\Jj t1 u1 q.rng=some (t',u):=by
         unfold Gh.PH Gh.base at e5
         rw[hn]at e5
         cases hr:q.rng with
         |none=>rw[hr]at e5;exact⟨_,_,e5,rfl⟩
         |some lk=>
          rw[hr]at e5
          simp only[Option.bind_eq_some_iff]at e5
          obtain⟨⟨t1,u1⟩,e,e'⟩:=e5
          exact⟨t1,u1,e,e'⟩
        obtain⟨t1,u1,k1,k2⟩:=hbase
        rw[<-hid,<-hnv]at k1
        obtain⟨g1,g2⟩:=hrow rfl i' m t1 u1 k1
        have hzt:=VM _ _ _ _ (show(unpack es (rdx es ys i'))[m]? =some z from hz)
        rw[g1]at hzt
        cases hzt
        refine⟨z,u1,q.rng,hz, ?_,hb, ?_⟩
        ·rw[QY19];exact g2
        ·have:=QLz k2
         rw[this]at k2;exact k2
       ·exact Sat.pure ⟨rfl,fun b e=>by cases e⟩
     |sc x=>dsimp only;exact Sat.pure ⟨rfl,fun b e=>by cases e⟩
     |ro x=>dsimp only;exact Sat.pure ⟨rfl,fun b e=>by cases e⟩
     |nilS=>dsimp only;exact Sat.pure ⟨rfl,fun b e=>by cases e⟩
     |bad=>dsimp only;exact Sat.pure ⟨rfl,fun b e=>by cases e⟩
   ·rw[if_neg hsl]
    exact Sat.bind (Sat.pure ⟨rfl,fun b e=>by cases e⟩) fin
end
theorem Yr.QpV {w:World}{R R':Nat->Prop}(hR:∀b,R b->R' b) {deep:Bool}{t:Ty}{v:Val t}{u:Value}{bl:List Nat}(h:Yr w R deep t v u bl):Yr w R' deep t v u bl:=by
 cases deep with
 |true=>exact Own.mono hR _ _ _ _ h
 |false=>obtain⟨e,b',hr,hb'⟩:=h;exact⟨e,b',hr,fun b hm=>hR b (hb' b hm)⟩
section
variable {γ:Type}{P:Program}
structure ElP (F:Fix) (pd:Nat->Nat->Prop) (G:Gh) (s:St) (a:Act) (w:World) (es:Tys) (x:Qm es) (g O r k id nv:Nat) (i:Int) (nested deep:Bool) (off:Nat) (ts:Tys) (us:List Value) (l:List TV) (s':St):Prop where
 kept:Qp s s'
 dead:∀r k,(s.gC r k).st= .dead->s'.gC r k=s.gC r k
 flat:VJ ts=false->s'=s
 rel:∃G' bls,G.le G'/\RelP F pd G' s' a w/\zq w (fun b=>G'.ow b= .ro) deep es x g O off ts l us bls/\bls.flatten.Nodup/\(∀b∈bls.flatten,G'.ow b= .free/\b<w.heap.size/\(b<F.w0.heap.size->F.X b))/\
  (∀b∈bls.flatten,∃κ,G.ow b= .key κ)/\(∀b,G.ow b= .free->G'.ow b= .free)/\(∀b κ,G'.ow b= .key κ->G.ow b= .key κ)/\(VJ ts=false->G'=G)/\
  ∀r' k' j v i' m' y,G'.HN r' k' j v i' m'=some y->G.HN r' k' j v i' m'=some y\/(nested=false/\r'=r/\k'=k/\j=id/\v=nv/\i'=i/\∃jj,m'=off+jj/\ts.get? jj=some y.1/\QN y.1=true/\us[jj]? =some y.2)
theorem VCs.length {G:Gh}{w:World}:(vs:List VC)->(us:List Value)->VCs G w vs us->vs.length=us.length
 | [],us,h=>by rw[show us=[]from h];rfl
 |v::vs,us,⟨u,us',e,_,h⟩=>by rw[e];simp[VCs.length vs us' h]
theorem Qn0 {F:Fix}{pd:Nat->Nat->Prop}{a:Act}{w:World}{es:Tys}{x:Qm es}{g O r k id nv:Nat}{i:Int}{nested deep:Bool}:(ts:Tys)->(off:Nat)->(vs:List VC)->(as:List (Option TV))->(us:List Value)->(G:Gh)->(s:St)->
 RelP F pd G s a w->VCs G w vs us->QA1 w es x g O off as us->(∀j t,ts.get? j=some t->es.get? (off+j)=some t)->
 (nested=false->VJ ts=true->(s.gC r k).st= .dead/\(s.gC r k).id=id/\(s.gC r k).nv=nv/\∀m,off<=m->G.HN r k id nv i m=none)->
 Sat (QjZ i r k id nv nested deep off ts vs as:M γ (List TV)) s fun l s'=>us.length=ts.len/\ElP F pd G s a w es x g O r k id nv i nested deep off ts us l s'
 | .nil,off,[],[],us,G,s,h,hv,hs,hts,hd=>by
   have:us=[]:=hv
   subst this
   exact Sat.pure ⟨rfl,Qp.refl s,fun _ _ _=>rfl,fun _=>rfl,G,[],Gh.le.refl G,h,⟨rfl,rfl,rfl⟩,QY5,by simp,by simp,fun _ hb=>hb,fun _ _ hb=>hb,fun _=>rfl,fun _ _ _ _ _ _ _ hy=> .inl hy⟩
 | .nil,off,[],_::_,us,G,s,h,hv,hs,hts,hd=>Sat.fail
 | .nil,off,_::_,_,us,G,s,h,hv,hs,hts,hd=>Sat.fail
 | .cons t ts,off,[],_,us,G,s,h,hv,hs,hts,hd=>Sat.fail
 | .cons t ts,off,_::_,[],us,G,s,h,hv,hs,hts,hd=>Sat.fail
 | .cons t ts,off,v::vs,o::as,us,G,s,h,hv,hs,hts,hd=>by
   obtain⟨u,us',rfl,hv1,hv2⟩:=hv
   obtain⟨hs1,hs2⟩:=hs
   unfold QjZ
   have het:es.get? off=some t:=by have:=hts 0 t rfl;rwa[QY3]at this
   have first:Sat (QC4 i r k id nv nested deep off t v o:M γ TV) s fun b s1=>Qp s s1/\(∀r k,(s.gC r k).st= .dead->s1.gC r k=s.gC r k)/\(QN t=false->s1=s)/\b.t=t/\
    ∃G1 bl,G.le G1/\RelP F pd G1 s1 a w/\((QkV w es x ⟨g,O+off,none⟩ off b u/\bl=[])\/Yr w (fun b=>G1.ow b= .ro) deep b.t b.v u bl)/\bl.Nodup/\(∀b∈bl,G1.ow b= .free/\b<w.heap.size/\(b<F.w0.heap.size->F.X b))/\(∀b∈bl,∃κ,G.ow b= .key κ)/\
     (∀b,G.ow b= .free->G1.ow b= .free)/\(∀b κ,G1.ow b= .key κ->G.ow b= .key κ)/\(QN t=false->G1=G)/\
     ∀r' k' j v i' m y,G1.HN r' k' j v i' m=some y->G.HN r' k' j v i' m=some y\/(nested=false/\r'=r/\k'=k/\j=id/\v=nv/\i'=i/\m=off/\y=(t,u)/\QN t=true):=by
    unfold QC4
    cases o with
    |some b=>
     dsimp only
     have hso:=hs1 b rfl
     obtain⟨z,uc,rng,g1,g2,g3,g4⟩:=(show _ from hso)
     have hzt:=VM _ _ _ _ g1
     rw[het]at hzt
     refine Sat.pure ⟨Qp.refl s,fun _ _ _=>rfl,fun _=>rfl, ?_,G,[],Gh.le.refl G,h, .inl ⟨hso,rfl⟩,QY5,by simp,by simp,fun _ hb=>hb,fun _ _ hb=>hb,fun _=>rfl,fun _ _ _ _ _ _ _ hy=> .inl hy⟩
     rw[QEH g3];exact(QY10 hzt).symm
    |none=>
     dsimp only
     refine Sat.bind (Qv4 h hv1 (d:=if nested=true then none else some ⟨r,k,id,nv,some (i,off),none⟩) ?_) ?_
     ·intro p hp hsl
      cases nested with
      |true=>cases hp
      |false=>
       obtain⟨d1,d2,d3,d4⟩:=hd rfl (by simp[VJ,hsl])
       refine⟨r,k,i,off, ?_,d1, ?_⟩
       ·have hp:some (⟨r,k,id,nv,some (i,off),none⟩:Pl)=some p:=hp
        cases hp;rw[d2,d3]
       ·rw[d2,d3];exact d4 off (QY2 _)
     ·rintro xv s1 ⟨k1,k2,k3,G1,bl,p1,p2,p3,p4,p5,p6,p7,p8,p9,p10⟩
      refine Sat.pure ⟨k1,k2,k3,rfl,G1,bl,p1,p2, .inr p3,p4,p5,p6,p7,p8,p9,fun r' k' j v i' m y hy=> ?_⟩
      rcases p10 r' k' j v i' m y hy with e|⟨e,e',e''⟩
      ·exact .inl e
      ·right
       cases nested with
       |true=>cases e
       |false=>
        have e:some (⟨r,k,id,nv,some (i,off),none⟩:Pl)=some ⟨r',k',j,v,some (i',m),none⟩:=e
        cases e
        exact⟨rfl,rfl,rfl,rfl,rfl,rfl,rfl,e',e''⟩
   refine Sat.bind first ?_
   rintro b s1 ⟨k1,k2,k3,kt,G1,bl,p1,p2,p3,p4,p5,p6,p7,p8,p9,p10⟩
   refine Sat.bind (Qn0 ts (off+1) vs as us' G1 s1 p2 (VCs.mono p1 (fun _ _=>rfl) _ _ hv2) hs2 (fun j t' hj=>by have:=hts (j+1) t' hj;rwa[show off+(j+1)=off+1+j by omega]at this) ?_) ?_
   ·intro hn ha
    obtain⟨d1,d2,d3,d4⟩:=hd hn (by simp[VJ,ha])
    rw[k2 r k d1]
    refine⟨d1,d2,d3,fun m hm=> ?_⟩
    cases hy:G1.HN r k id nv i m with
    |none=>rfl
    |some y=>
     rcases p10 r k id nv i m y hy with e|⟨_,_,_,_,_,_,e,_⟩
     ·rw[d4 m (by omega)]at e;cases e
     ·omega
   ·rintro l s2 ⟨hl,q1,q2,q3,G2,bls,r1,r2,r3,r4,r5,r6,r7,r8,r9,r10⟩
    refine Sat.pure ⟨by simp[Tys.len,hl],k1.trans q1,fun r k hdd=>by rw[q2 r k (by rw[k2 r k hdd];exact hdd),k2 r k hdd],fun ha=> ?_,G2,bl::bls,p1.trans r1,r2, ?_, ?_, ?_, ?_,fun b hb=>r7 b (p7 b hb),fun b κ hb=>p8 b κ (r8 b κ hb),fun ha=> ?_, ?_⟩
    ·simp only[VJ,Bool.or_eq_false_iff]at ha
     rw[q3 ha.2,k3 ha.1]
    ·refine⟨b,l,u,us',bl,bls,rfl,rfl,rfl,kt, ?_,r3⟩
     rcases p3 with e|e
     ·exact .inl e
     ·exact .inr (e.QpV (fun b hb=>r1.ro b hb))
    ·rw[QRr,QRi]
     refine⟨p4,r4,fun c hc c' hc' e=> ?_⟩
     subst e
     obtain⟨κ,hκ⟩:=r6 c hc'
     rw[(p5 c hc).1]at hκ;cases hκ
    ·intro c hc
     rw[QRr]at hc
     rcases QRh.1 hc with hc|hc
     ·exact⟨r7 c (p5 c hc).1,(p5 c hc).2⟩
     ·exact r5 c hc
    ·intro c hc
     rw[QRr]at hc
     rcases QRh.1 hc with hc|hc
     ·exact p6 c hc
     ·obtain⟨κ,hκ⟩:=r6 c hc;exact⟨κ,p8 c κ hκ⟩
    ·simp only[VJ,Bool.or_eq_false_iff]at ha
     rw[r9 ha.2,p9 ha.1]
    ·intro r' k' j v' i' m' y hy
     rcases r10 r' k' j v' i' m' y hy with e|⟨e1,e2,e3,e4,e5,e6,jj,e7,e8,e9,e10⟩
     ·rcases p10 r' k' j v' i' m' y e with e|⟨e1,e2,e3,e4,e5,e6,e7,e8,e9⟩
      ·exact .inl e
      ·exact .inr ⟨e1,e2,e3,e4,e5,e6,0,by omega,by rw[e8];rfl,by rw[e8];exact e9,by rw[e8];rfl⟩
     ·exact .inr ⟨e1,e2,e3,e4,e5,e6,jj+1,by omega,e8,e9,by simpa using e10⟩
theorem RelP.bump {F:Fix}{pd:Nat->Nat->Prop}{G:Gh}{s:St}{a:Act}{w:World}(h:RelP F pd G s a w) {r k id nv nv':Nat}(hst:(s.gC r k).st= .dead) (hid:(s.gC r k).id=id) (hnv:(s.gC r k).nv=nv) (hv:nv<=nv'):RelP F pd G (s.sC r k (mkC id nv' .dead)) a w:=by
 refine h.upd (Gh.le.refl G) rfl (fun i=>rfl) (fun i=>rfl) (fun r' k'=>r'=r/\k'=k) ?_ ?_ ?_ ?_ (fun _ _=>rfl) h.it h.lt h.own h.ro (fun _ _ h=>h)
 ·intro r' k' hn
  exact⟨by rw[QP,if_neg (fun e=>hn ⟨e.1.symm,e.2.symm⟩)],rfl,fun j=>rfl,fun _ _ _ _=>rfl⟩
 ·rintro r' k' ⟨rfl,rfl⟩
  rw[QP,if_pos ⟨rfl,rfl⟩]
  have hf:=(h.con r' k').freshH
  have hfn:=(h.con r' k').freshN
  rw[hid]at hf
  rw[hid,hnv]at hfn
  refine⟨fun j hj=> ?_,fun j v i m hj=> ?_,fun x' deep' tag' hc'=> ?_,fun p hc'=> ?_⟩
  ·rw[Q1]at hj;exact hf j hj
  ·rw[Q1,ZC]at hj;exact hfn j v i m (by omega)
  ·rw[QD]at hc';cases hc'
  ·rw[QD]at hc';cases hc'
 ·rintro r' k' u ⟨rfl,rfl⟩ hk hp hb
  rw[QP,if_pos ⟨rfl,rfl⟩]
  unfold Xe;rw[QD];trivial
 ·rintro r' k' ⟨rfl,rfl⟩ hk ⟨y,hy⟩
  rw[hst]at hy;cases hy
def Gh.back (G:Gh) (r k:Nat) (it:Item):Gh:= {G with ow:=fun b=>if b∈it.bl then .key (.con r k)else G.ow b,it:=fun κ=>if κ= .con r k then some it else G.it κ}
theorem RelP.Qx4 {F:Fix}{pd:Nat->Nat->Prop}{G:Gh}{s:St}{a:Act}{w:World}(h:RelP F pd G s a w) {it:Item}(hh:Held F G w it) {r k id nv:Nat}{tag:Option (Nat×Nat)}(hst:(s.gC r k).st= .dead) (hid:(s.gC r k).id=id) (hnv:(s.gC r k).nv=nv)
 (hH:G.H r k id=some (it.x.t,it.u)) (hN:∀i m t u',G.HN r k id nv i m=some (t,u')->ZW w it i m t u') (hbox:k<(s.gB r).2->¬pd r k->∀b,G.GB r (s.gB r).1=some b->w.cell? ⟨b,k,none⟩=some it.u)
 (htag:∀p j,tag=some (p,j)->F.T p j=some it.u):RelP F pd (G.back r k it) (s.sC r k (mkC id nv (.own it.x it.deep tag))) a w/\G.le (G.back r k it):=by
 have hle:G.le (G.back r k it):=⟨fun _ _ _ _ h=>h,fun _ _ _ _ _ _ _ h=>h,fun _ _ _ h=>h,fun b hb=>by
  show(if b∈it.bl then Ow.key (.con r k)else G.ow b)= .ro
  rw[if_neg (fun hm=>by rw[(hh.free b hm).1]at hb;cases hb)];exact hb⟩
 refine⟨?_,hle⟩
 refine h.QMd hle rfl (fun i=>rfl) (fun i=>rfl) (fun r' k'=>r'=r/\k'=k) ?_ ?_ ?_ ?_ (fun _ _=>rfl) ?_ ?_ ?_ ?_ ?_
 ·intro r' k' hn
  refine⟨by rw[QP,if_neg (fun e=>hn ⟨e.1.symm,e.2.symm⟩)], ?_,fun j=>rfl,fun _ _ _ _=>rfl⟩
  exact if_neg (fun e=>by cases e;exact hn ⟨rfl,rfl⟩)
 ·rintro r' k' ⟨rfl,rfl⟩
  rw[QP,if_pos ⟨rfl,rfl⟩]
  have hf:=(h.con r' k').freshH
  have hfn:=(h.con r' k').freshN
  rw[hid]at hf
  rw[hid,hnv]at hfn
  refine⟨fun j hj=> ?_,fun j v i m hj=> ?_,fun x' deep' tag' hc'=> ?_,fun p hc'=> ?_⟩
  ·rw[Q1]at hj;exact hf j hj
  ·rw[Q1,ZC]at hj;exact hfn j v i m hj
  ·rw[QD]at hc';cases hc'
   exact⟨it.u,it.bl,if_pos rfl,by rw[Q1];exact hH,fun i m t u' hn=>by rw[Q1,ZC]at hn;exact hN i m t u' hn,htag⟩
  ·rw[QD]at hc';cases hc'
 ·rintro r' k' u ⟨rfl,rfl⟩ hk hp hm hb
  rw[QP,if_pos ⟨rfl,rfl⟩]
  unfold Xe;rw[QD,Q1]
  simp only
  obtain⟨b,cur,e,h1,h2,h3,h4,h5⟩:=(h.box r').live (fun e=>by omega)
  have e1:=hm b h1
  rw[hbox hk hp b h1]at e1
  cases e1
  exact hH
 ·rintro r' k' ⟨rfl,rfl⟩ hk ⟨y,hy⟩
  rw[hst]at hy;cases hy
 ·intro κ y hy
  have hy:(if κ= .con r k then some it else G.it κ)=some y:=hy
  by_cases n2:κ= .con r k
  ·subst n2;rw[if_pos rfl]at hy;cases hy
   exact⟨Own.mono (fun b hb=>hle.ro b hb) _ _ _ _ hh.own,hh.sl,hh.nodup,fun b hb=>⟨if_pos hb,(hh.free b hb).2.1⟩,_,_,rfl⟩
  ·rw[if_neg n2]at hy
   refine(h.it κ y hy).give (fun b hb=>hle.ro b hb) (fun b hb=> ?_)
   have hk:=((h.it κ y hy).key b hb).1
   show(if b∈it.bl then Ow.key (.con r k)else G.ow b)=_
   rw[if_neg (fun hm=>by rw[(hh.free b hm).1]at hk;cases hk)]
   exact hk
 ·intro b hb
  by_cases hm:b∈it.bl
  ·exact(hh.free b hm).2.1
  ·exact h.lt b (fun e=>hb (by show(if b∈it.bl then Ow.key (.con r k)else G.ow b)=_;rw[if_neg hm];exact e))
 ·intro b κ hb hlt
  have hb:(if b∈it.bl then Ow.key (.con r k)else G.ow b)= .key κ:=hb
  split at hb
  ·rename_i hm;exact(hh.free b hm).2.2 hlt
  ·exact h.own b κ hb hlt
 ·intro b hb hlt
  have hb:(if b∈it.bl then Ow.key (.con r k)else G.ow b)= .ro:=hb
  split at hb
  ·cases hb
  ·exact h.ro b hb hlt
 ·intro b r' hb
  show(if b∈it.bl then Ow.key (.con r k)else G.ow b)=_
  rw[if_neg (fun hm=>by rw[(hh.free b hm).1]at hb;cases hb)]
  exact hb
end
theorem Own.nest {w:World}{R:Nat->Prop}{deep:Bool}{ts:Tys}{xs:Val (.sl ts)}{bl:List Nat}{g o n c:Nat}(h:Own w R deep (.sl ts) xs (.slice (some ⟨g,o,none⟩) n c) bl) {i m:Nat}{x:Qm ts}{z:TV}(hx:(vl xs)[i]? =some x) (hz:(unpack ts x)[m]? =some z):
 ∃uy pre b post,w.cell? ⟨g,o+(i*ts.len+m),none⟩=some uy/\bl=g::(pre++b++post)/\Yr w R deep z.t z.v uy b/\
  ∀(w':World) (a:TV) (b':List Nat) (x':Qm ts),YP ts x m a=some x'->Yr w' R deep a.t a.v uy b'->Q5 w w' g->(∀k∈pre++post,Q5 w w' k)->(∀k,R k->Q5 w w' k)->
   Own w' R deep (.sl ts) (List.set (vl xs) i x') (.slice (some ⟨g,o,none⟩) n c) (g::(pre++b'++post)):=by
 obtain⟨g',off',cap,cur,e,pre,b,post,us,hu',hg,h1,h2,h3,hbl,hcs,hov,hput⟩:=Own.el h i x hx
 cases hu'
 obtain⟨uc,pre2,b2,post2,hum,hb,ho,hput2⟩:=QT.focus ts x us b hov m z hz
 have hcell:w.cell? ⟨g,o+(i*ts.len+m),none⟩=some uc:=by
  have:=hcs m uc hum
  rwa[add_plain]at this
 refine⟨uc,pre++pre2,b2,post2++post,hcell,by rw[hbl,hb];simp,ho, ?_⟩
 intro w' a b' x' hp hoa hs hpp hR
 have hov':=hput2 w' a x' uc b' hp (fun k hk=>hpp k (by rcases QRh.1 hk with hk|hk<;>simp[hk])) hR hoa
 have:=hput w' cur x' (us.set m uc) (pre2++b'++post2) (Eq.trans hs hg) rfl (fun _ _=>rfl) (fun k hk=>hpp k (by rcases QRh.1 hk with hk|hk<;>simp[hk])) hR ?_ hov'
 ·have e2:pre++(pre2++b'++post2)++post=pre++pre2++b'++(post2++post):=by simp
  rw[e2]at this;exact this
 ·refine Cells.frame (w:=w) ?_ hs
  intro j v hj
  rw[List.getElem?_set]at hj
  by_cases hjm:m=j
  ·subst hjm
   rw[if_pos rfl]at hj
   split at hj
   ·cases hj;exact hcs m uc hum
   ·cases hj
  ·rw[if_neg hjm]at hj;exact hcs j v hj
mutual
theorem Own.yA {w:World}{R R':Nat->Prop}:(t:Ty)->(v:Val t)->(u:Value)->(bl:List Nat)->Own w R true t v u bl->Own w R' true t v u bl
 | .int _,_,_,_,h=>h
 | .bool,_,_,_,h=>h
 | .str,_,_,_,h=>h
 | .sl ts,xs,u,bl,h=>by
   rcases h with h|⟨g,off,cap,cur,e,bls,hu,hg,h1,h2,h3,hb,hl,hc⟩
   ·exact .inl h
   ·refine .inr ⟨g,off,cap,cur,e,bls,hu,hg,h1,h2,h3,hb,hl,fun i x b hx hbb=> ?_⟩
    obtain⟨us,k1,k2⟩:=hc i x b hx hbb
    exact⟨us,k1,QT.yA ts x us b k2⟩
theorem QT.yA {w:World}{R R':Nat->Prop}:(ts:Tys)->(x:Qm ts)->(us:List Value)->(bl:List Nat)->QT w R true ts x us bl->QT w R' true ts x us bl
 | .nil,_,_,_,h=>h
 | .cons t ts,x,us,bl,h=>by
   obtain⟨u,us',b1,b2,hc,hb,h1,h2⟩:=h
   exact⟨u,us',b1,b2,hc,hb,Own.yA t _ u b1 h1,QT.yA ts _ us' b2 h2⟩
end
theorem QzQ:(ts:Tys)->(j:Nat)->(t:Ty)->VJ ts=false->ts.get? j=some t->QN t=false
 | .nil,j,t,_,h=>by simp[Tys.get?]at h
 | .cons u ts,0,t,ha,h=>by
   simp[Tys.get?]at h;subst h
   simp only[VJ,Bool.or_eq_false_iff]at ha;exact ha.1
 | .cons u ts,j+1,t,ha,h=>by
   simp only[VJ,Bool.or_eq_false_iff]at ha
   exact QzQ ts j t ha.2 (by simpa[Tys.get?]using h)
theorem Tys.get_some:(ts:Tys)->(m:Nat)->m<ts.len->∃t,ts.get? m=some t
 | .nil,m,h=>by simp[Tys.len]at h
 | .cons t ts,0,_=>⟨t,rfl⟩
 | .cons t ts,m+1,h=>Tys.get_some ts m (by simp only[Tys.len]at h;omega)
theorem QtK {ts:Tys}{xs:List (Qm ts)}{i:Int}{off:Nat}{ys:List TV}{z:Qm ts}(h:putCells ts (rdx ts xs i) off ys=some z):setAt ⟨.sl ts,(show List (Qm ts)from xs)⟩ i off ys=some ⟨.sl ts,(show List (Qm ts)from List.set xs i.toNat z)⟩:=by
 unfold setAt
 simp only
 rw[show putCells ts (rdx ts (show List (Qm ts)from xs) i) off ys=some z from h]
theorem QLx {c:Con}{x y:TV}{d:Bool}{t:Option (Nat×Nat)}(h:c.st= .own x d t):({c with v:=y}:Con)=mkC c.id c.nv (.own y d t):=by
 obtain⟨id,nv,sh,v⟩:=c
 unfold Con.st at h
 cases sh<;>simp at h
 obtain⟨rfl,rfl,rfl⟩:=h
 rfl
theorem QAO (s:St) (r k:Nat) (c c':Con):(s.sC r k c).sC r k c'=s.sC r k c':=by
 unfold St.sC
 simp only[XJ,QmU]
section
variable {γ:Type}{P:Program}
theorem Qu8 {b:Bool}{s:St}{r k:Nat}{c:Con}{Φ:Unit->St->Prop}(h1:b=true->Φ () (s.sC r k (mkC c.id (c.nv+1) .dead))) (h2:b=false->Φ () s):Sat (QqU b r k c:M γ Unit) s Φ:=by
 unfold QqU
 cases b with
 |true=>rw[if_pos rfl];exact Sat.wC (h1 rfl)
 |false=>rw[if_neg (by simp)];exact Sat.pure (h2 rfl)
theorem QF5 {b:Bool}{s:St}{r k:Nat}{c:Con}{x:TV}{deep:Bool}{tag:Option (Nat×Nat)}{Φ:Unit->St->Prop}(h1:b=true->Φ () (s.sC r k (mkC c.id (c.nv+1) (.own x deep tag)))) (h2:b=false->Φ () (s.sV r k x)):
 Sat (Qo0 b r k c x deep tag:M γ Unit) s Φ:=by
 unfold Qo0
 cases b with
 |true=>rw[if_pos rfl];exact Sat.wC (h1 rfl)
 |false=>rw[if_neg (by simp)];exact Sat.wV (h2 rfl)
theorem Qfe {w:World}{R:Nat->Prop}{deep:Bool}{ts:Tys}{xs:Val (.sl ts)}{ad:Addr}{n c:Nat}{bl:List Nat}(h:Own w R deep (.sl ts) xs (.slice (some ad) n c) bl):∃g o,ad=⟨g,o,none⟩/\(vl xs).length=n/\g∈bl:=by
 rcases h with⟨_,e,_⟩|⟨g,o,cap,cur,e',bls,e,_,_,_,_,hb,_⟩
 ·cases e
 ·cases e;exact⟨g,o,rfl,rfl,by rw[hb];simp⟩
theorem QAw {F:Fix}{G:Gh}{s:St}{a:Act}{w:World}(h:Rel F G s a w) {tk:Bool}{T:TI}{p:Pl}{i:Int}{off:Nat}{v:Value}(hc:QK G w (.eptr p i off) v) {vs:List VC}{us:List Value}(hv:VCs G w vs us)
 (hlen:T.ts.len=us.length):
 Sat (storeAt tk T (.eptr p i off) vs:M γ Unit) s fun _ s'=>Qp s s'/\∃ad G' w',v= .pointer (some ad)/\(storeCells ad us).run P w= .ok () w'/\Rel F G' s' a w':=by
 obtain⟨es,ad,n,c,hp,hi0,hin,rfl⟩:=hc
 unfold storeAt
 dsimp only
 refine Sat.bind (Kr h hp) ?_
 rintro⟨q,cc⟩ s' ⟨e1,e2,e3,e4,e5⟩
 subst e1
 simp only at e2 e3 e4 e5
 dsimp only
 cases hst:cc.st with
 |own x deep tag=>
  cases hrng:q.rng with
  |some _=>exact Sat.fail
  |none=>
   dsimp only
   split
   ·exact Sat.fail
   rename_i hnd
   have hst':=hst
   rw[e2]at hst'
   obtain⟨u,bl,k1,k2,k3,k4⟩:=(h.con q.r q.k).own x deep tag hst'
   have hitr:=h.it _ _ k1
   have hbase:G.base q=some (.sl es, .slice (some ad) n c):=by unfold Gh.PH at e5;rw[hrng]at e5;exact e5
   have hcell:q.k<(s'.gB q.r).2->∀b,G.GB q.r (s'.gB q.r).1=some b->w.cell? ⟨b,q.k,none⟩=some u:=by
    intro hk b hb
    obtain⟨b',cur,e,h1,h2,h3,h4,h5⟩:=(h.box q.r).live (by omega)
    rw[hb]at h1;cases h1
    obtain⟨u',g1,g2,g3,g4⟩:=h5 q.k (by omega)
    have:=g3 id
    unfold Xe at this
    rw[hst']at this
    simp only at this
    rw[k2]at this;cases this
    simp[World.cell?,h3,g1]
   have row:∀y,rowAt x q.nest=some y->∃(ys:List (Qm es)) (g o:Nat) (blr:List Nat),y=⟨.sl es,(show List (Qm es)from ys)⟩/\ad=⟨g,o,none⟩/\ys.length=n/\(∀b∈blr,b∈bl)/\g∈blr/\
    Own w (fun b=>G.ow b= .ro) deep (.sl es) ys (.slice (some ⟨g,o,none⟩) n c) blr/\blr.Nodup/\
    (q.nest=none->x=⟨.sl es,(show List (Qm es)from ys)⟩/\u= .slice (some ⟨g,o,none⟩) n c/\blr=bl)/\
    ∀(R':Nat->Prop) (w':World) (ys':List (Qm es)) (bl':List Nat),(∀b,G.ow b= .ro->R' b)->(∀b,R' b->Q5 w w' b)->Own w' R' deep (.sl es) ys' (.slice (some ⟨g,o,none⟩) n c) bl'->(∀b∈bl,b≠g->Q5 w w' b)->bl'.Nodup->(∀b∈bl',b∈blr\/b∉bl)->
     ∃xv',Qpc x ⟨.sl es,(show List (Qm es)from ys')⟩ q.nest=some ⟨x.t,xv'⟩/\∃bl2,Own w' R' deep x.t xv' u bl2/\bl2.Nodup/\(∀b∈bl2,b∈bl\/b∈bl')/\
      (q.nest.isSome=true->∀i' m' t u',ZW w ⟨x,deep,u,bl⟩ i' m' t u'->ZW w' ⟨⟨x.t,xv'⟩,deep,u,bl2⟩ i' m' t u'):=by
    intro y hy
    unfold Gh.base at hbase
    cases hn:q.nest with
    |none=>
     rw[hn]at hbase hy
     simp only at hbase
     have:G.H q.r q.k q.id=some (x.t,u):=by rw[<-e3,e2];exact k2
     rw[this]at hbase
     obtain⟨xt,xv⟩:=x
     simp only[Option.some.injEq,Prod.mk.injEq]at hbase
     obtain⟨hxt,hu⟩:=hbase
     subst hxt;subst hu
     have hown:Own w (fun b=>G.ow b= .ro) deep (.sl es) xv (.slice (some ad) n c) bl:=hitr.own
     obtain⟨g,o,rfl,hl,hgm⟩:=Qfe hown
     cases hy
     refine⟨xv,g,o,bl,rfl,rfl,hl,fun b hb=>hb,hgm,hown,hitr.nodup,fun _=>⟨rfl,rfl,rfl⟩, ?_⟩
     intro R' w' ys' bl' hR _ ho _ hnd' hsub
     exact⟨ys',rfl,bl',ho,hnd',fun b hb=> .inr hb,fun e=>by cases e⟩
    |some jm=>
     obtain⟨j,m⟩:=jm
     rw[hn]at hbase hy
     simp only at hbase
     have hdeep:deep=true:=by
      cases deep with
      |true=>rfl
      |false=>rw[hn]at hnd;exact(hnd rfl).elim
     subst hdeep
     have hnv:=e4 (by rw[hn];rfl)
     have hN:=k3 j m _ _ (by rw[<-e2,e3,hnv];exact hbase)
     obtain⟨xt,xv⟩:=x
     obtain⟨xs,g0,o0,n0,c0,a1,a2,a3,a4,a5,a6,a7⟩:=hN
     simp only at a1 a2
     subst a1;subst a2
     have hown:Own w (fun b=>G.ow b= .ro) true (.sl xs) xv (.slice (some ⟨g0,o0,none⟩) n0 c0) bl:=hitr.own
     obtain⟨_,_,e,hl0,_⟩:=Qfe hown
     cases e
     have hjl:j.toNat<(vl (ts:=xs) xv).length:=by omega
     have hyy:(unpack xs (rdx xs (vl xv) j))[m]? =some y:=hy
     obtain⟨uy,pre,b,post,b1,b2,b3,b4⟩:=Own.nest hown (Qea (vl xv) j hjl) hyy
     rw[a7]at b1
     cases b1
     have hyt:=VM _ _ _ _ hyy
     rw[a5]at hyt
     obtain⟨yt,yv⟩:=y
     simp only[Option.some.injEq]at hyt
     subst hyt
     have b3:Own w (fun b=>G.ow b= .ro) true (.sl es) yv (.slice (some ad) n c) b:=b3
     obtain⟨g,o,rfl,hl,hgm⟩:=Qfe b3
     have hbnd:bl.Nodup:=hitr.nodup
     rw[b2]at hbnd
     have hb1:=QY4.1 hbnd
     have hb2:=hb1.2
     rw[QRi,QRi]at hb2
     refine⟨yv,g,o,b,rfl,rfl,hl,fun k hk=>by rw[b2];simp[hk],hgm,b3,hb2.1.2.1,(fun e=>by cases e), ?_⟩
     intro R' w' ys' bl' hR hRs ho hs hnd' hsub
     obtain⟨x',hx'⟩:=Qjw xs (rdx xs (vl xv) j) m ⟨.sl es,(show List (Qm es)from ys')⟩ a5
     have hg0:g0≠g:=fun e=>hb1.1 (by rw[e];simp[hgm])
     have ho2:=b4 w' ⟨.sl es,(show List (Qm es)from ys')⟩ bl' x' hx' (Own.yA _ _ _ _ ho) (hs g0 (by rw[b2];simp) hg0) (fun k hk=>hs k (by rw[b2];rcases QRh.1 hk with hk|hk<;>simp[hk]) (fun e=>by
      subst e
      rcases QRh.1 hk with hk|hk
      ·exact hb2.1.2.2 k hk k hgm rfl
      ·exact hb2.2.2 k (by simp[hgm]) k hk rfl)) (fun k hk=>hRs k (hR k hk))
     refine⟨List.set (vl xv) j.toNat x', ?_,g0::(pre++bl'++post),Own.yA _ _ _ _ ho2, ?_, ?_, ?_⟩
     ·unfold Qpc
      have:=QtK (ts:=xs) (xs:=xv) (i:=j) (off:=m) (ys:=[⟨.sl es,(show List (Qm es)from ys')⟩]) (z:=x') (by simp only[putCells];rw[show rdx xs xv j=rdx xs (vl xv) j from rfl,hx'])
      exact this
     ·rw[QY4,QRi,QRi]
      refine⟨fun hm=> ?_,⟨hb2.1.1,hnd',fun k hk k' hk' e=> ?_⟩,hb2.2.1,fun k hk k' hk' e=> ?_⟩
      ·rcases QRh.1 hm with hm|hm
       ·rcases QRh.1 hm with hm|hm
        ·exact hb1.1 (by simp[hm])
        ·rcases hsub g0 hm with h|h
         ·exact hb1.1 (by simp[h])
         ·exact h (by rw[b2];simp)
       ·exact hb1.1 (by simp[hm])
      ·subst e
       rcases hsub k hk' with h|h
       ·exact hb2.1.2.2 k hk k h rfl
       ·exact h (by rw[b2];simp[hk])
      ·subst e
       rcases QRh.1 hk with hk|hk
       ·exact hb2.2.2 k (by simp[hk]) k hk' rfl
       ·rcases hsub k hk with h|h
        ·exact hb2.2.2 k (by simp[h]) k hk' rfl
        ·exact h (by rw[b2];simp[hk'])
     ·intro k hk
      rcases QRk.1 hk with rfl|hk
      ·left;rw[b2];simp
      ·rcases QRh.1 hk with hk|hk
       ·rcases QRh.1 hk with hk|hk
        ·left;rw[b2];simp[hk]
        ·exact .inr hk
       ·left;rw[b2];simp[hk]
     ·intro _ i' m' t u' ⟨ts',g',o',n',c',d1,d2,d3,d4,d5,d6,d7⟩
      simp only at d1 d2
      cases d2
      refine⟨ts',g0,o0,n0,c0,d1,rfl,d3,d4,d5,d6, ?_⟩
      rw[Q5.cell (a:=⟨g0,_,none⟩) (hs g0 (by rw[b2];simp) hg0)]
      exact d7
   refine Sat.bind (Sat.ofO (Φ:=fun y s2=>s2=s'/\rowAt x q.nest=some y) (fun y hy=>⟨rfl,hy⟩)) ?_
   rintro y s2 ⟨rfl,hy⟩
   obtain⟨ys,g,o,blr,rfl,rfl,hl,hsubl,hgm,hown,hrnd,hnn,hback⟩:=row y hy
   clear row
   have hw:=(hitr.key)
   have hIl:i.toNat<ys.length:=by omega
   have hx0:=Qea ys i hIl
   have htsx:∀j t,(es.sub off T.ts.len).get? j=some t->es.get? (off+j)=some t:=fun j t hj=>by
    rw[<-Tys.QyT es off T.ts.len j (Tys.QoA _ _ _ hj)];exact hj
   have hcore:∀(sd:St) (Gd:Gh) (nv':Nat) (l:List TV) (bls:List (List Nat)),RelP F (fun _ _=>False) Gd sd a w->sd.gC q.r q.k=mkC cc.id nv' .dead->(q.k<(sd.gB q.r).2->∀b,Gd.GB q.r (sd.gB q.r).1=some b->w.cell? ⟨b,q.k,none⟩=some u)->
    Held F Gd w ⟨x,deep,u,bl⟩->G.le Gd->zq w (fun b=>Gd.ow b= .ro) deep es (rdx es ys i) g (o+i.toNat*es.len) off (es.sub off T.ts.len) l us bls->bls.flatten.Nodup->
    (∀b∈bls.flatten,Gd.ow b= .free/\b<w.heap.size/\(b<F.w0.heap.size->F.X b))->(∀b∈bls.flatten,b∉bl)->us.length=(es.sub off T.ts.len).len->
    (∀i' m' t u',Gd.HN q.r q.k cc.id nv' i' m'=some (t,u')->(ZW w ⟨x,deep,u,bl⟩ i' m' t u'/\VJ (es.sub off T.ts.len)=false)\/(q.nest=none/\i'=i/\∃jj,m'=off+jj/\(es.sub off T.ts.len).get? jj=some t/\QN t=true/\us[jj]? =some u'))->
    ∃z w1 xw,putCells es (rdx es ys i) off l=some z/\Qpc x ⟨.sl es,(show List (Qm es)from List.set ys i.toNat z)⟩ q.nest=some ⟨x.t,xw⟩/\(storeCells ⟨g,o+i.toNat*es.len+off,none⟩ us).run P w= .ok () w1/\
     ∃G',Rel F G' (sd.sC q.r q.k (mkC cc.id nv' (.own ⟨x.t,xw⟩ deep tag))) a w1:=by
    intro sd Gd nv' l bls hR hgd hbx hh hle hpl hbn hbf hbd hul hHN
    have hgf:=hh.free g (hsubl g hgm)
    have hown2:=Own.mono (fun b hb=>hle.ro b hb) _ _ _ _ hown
    have hgR:¬(Gd.ow g= .ro):=by rw[hgf.1];simp
    obtain⟨z,w1,bl',r1,r2,r3,r4,r5,r6,r7,r8,r9⟩:=QB6 (P:=P) (A:=o+i.toNat*es.len+off) (es.sub off T.ts.len) off 0 w ys (rdx es ys i) blr l us bls hown2 hrnd hgR hx0 hpl htsx (fun b hb hm=>hbd b hb (hsubl b hm)) hbn rfl
    have hsm:∀b,b<w.heap.size->b≠g->Q5 w w1 b:=fun b hb hne=>r6.block b hb hne
    have hRs:∀b,Gd.ow b= .ro->Q5 w w1 b:=fun b hb=>hsm b (hR.lt b (by rw[hb];simp)) (fun e=>hgR (e▸hb))
    obtain⟨xw,m1,bl2,m2,m3,m4,m5⟩:=hback (fun b=>Gd.ow b= .ro) w1 (List.set ys i.toNat z) bl' (fun b hb=>hle.ro b hb) hRs r3 (fun b hb hne=>hsm b (hh.free b hb).2.1 hne) r4
     (fun b hb=>(r5 b hb).imp id (fun hm=>hbd b hm))
    have hR1:RelP F (fun _ _=>False) Gd sd a w1:=hR.frame (fun b hb=>hsm b (hR.lt b hb) (fun e=>hb (by rw[e];exact hgf.1))) (r6.mono (fun k hk e=>by
     subst e
     by_cases hlt:k<F.w0.heap.size
     ·exact .inr (hgf.2.2 hlt)
     ·exact .inl (by omega)))
    have hfree2:∀b∈bl2,Gd.ow b= .free/\b<w1.heap.size/\(b<F.w0.heap.size->F.X b):=by
     intro b hb
     rw[r7]
     rcases m4 b hb with h|h
     ·exact hh.free b h
     ·rcases r5 b h with h|h
      ·exact hh.free b (hsubl b h)
      ·exact hbf b h
    have hheld:Held F Gd w1 ⟨⟨x.t,xw⟩,deep,u,bl2⟩:=⟨m2,hh.sl,m3,hfree2⟩
    have hput:=hR1.Qx4 hheld (r:=q.r) (k:=q.k) (id:=cc.id) (nv:=nv') (tag:=tag) (by rw[hgd,QD]) (by rw[hgd,Q1]) (by rw[hgd,ZC]) (hle.H _ _ _ _ (by rw[e2];exact k2)) ?_ (fun hk _ b hb=> ?_) (fun p' j' ht=>k4 p' j' ht)
    ·exact⟨z,w1,xw,r1,m1,r2,_,hput.1⟩
    ·intro i' m' t u' hN
     rcases hHN i' m' t u' hN with⟨hN,hfl⟩|⟨hn,rfl,jj,rfl,hjt,hstt,hju⟩
     ·cases hn:q.nest with
      |some jm=>exact m5 (by rw[hn];rfl) i' m' t u' hN
      |none=>
       obtain⟨hx,hu,hb⟩:=hnn hn
       subst hx;subst hu
       obtain⟨ts',g',o',n',c',d1,d2,d3,d4,d5,d6,d7⟩:=hN
       simp only at d1 d2
       cases d1;cases d2
       refine⟨es,g,o,n,c,rfl,rfl,d3,d4,d5,d6, ?_⟩
       have hml:=Tys.QoA es m' t d5
       have hoff:off+(es.sub off T.ts.len).len<=es.len\/(es.sub off T.ts.len).len=0:=by
        by_cases h0:(es.sub off T.ts.len).len=0
        ·exact .inr h0
        ·left
         have:∃ty,(es.sub off T.ts.len).get? ((es.sub off T.ts.len).len - 1)=some ty:=Tys.get_some _ _ (by omega)
         obtain⟨ty,hty⟩:=this
         have:=Tys.QoA _ _ _ (htsx _ _ hty)
         omega
       rw[r9 _ ?_]
       ·exact d7
       ·by_cases hii:i'.toNat=i.toNat
        ·rw[hii]
         by_cases hlt:m'<off
         ·left;omega
         ·by_cases hge:off+(es.sub off T.ts.len).len<=m'
          ·right;omega
          ·exfalso
           have:∃ty,(es.sub off T.ts.len).get? (m' - off)=some ty:=Tys.get_some _ _ (by omega)
           obtain⟨ty,hty⟩:=this
           have h1:=htsx _ _ hty
           rw[show off+(m' - off)=m' by omega,d5]at h1
           cases h1
           rw[QzQ _ _ _ hfl hty]at d6
           cases d6
        ·rcases Nat.lt_or_gt_of_ne hii with hlt|hlt
         ·left
          have:=QY16 es.len (show i'.toNat+1<=i.toNat from hlt)
          rw[QY25]at this
          omega
         ·right
          have:=QY16 es.len (show i.toNat+1<=i'.toNat from hlt)
          rw[QY25]at this
          omega
     ·obtain⟨hx,hu,hb⟩:=hnn hn
      subst hx;subst hu
      refine⟨es,g,o,n,c,rfl,rfl,hi0,hin,htsx _ _ hjt,hstt, ?_⟩
      have:=r8 jj u' hju
      rw[add_plain]at this
      rwa[QY19]at this
    ·obtain⟨b',cur,e,h1,h2,_⟩:=(hR.box q.r).live (by omega)
     rw[hb]at h1;cases h1
     have hne:b≠g:=fun e=>by rw[e,hgf.1]at h2;cases h2
     rw[Q5.cell (a:=⟨b,q.k,none⟩) (hsm b (hR.lt b (by rw[h2];simp)) hne)]
     exact hbx hk b hb
   refine Sat.bind (Sat.ofO (Φ:=fun es' s3=>s3=s2/\es=es') (fun es' he=>⟨rfl,by cases he;rfl⟩)) ?_
   rintro _ s3 ⟨rfl,rfl⟩
   have hrow:q.nest.isSome=false->∀i' m t u',G.HN q.r q.k (s3.gC q.r q.k).id (s3.gC q.r q.k).nv i' m=some (t,u')->es.get? m=some t/\w.cell? ⟨g,o+(i'.toNat*es.len+m),none⟩=some u':=by
    intro hn i' m t u' hN
    have hn:q.nest=none:=by cases hq:q.nest with|none=>rfl|some _=>rw[hq]at hn;cases hn
    obtain⟨hx,hu,hb⟩:=hnn hn
    obtain⟨ts',g',o',n',c',d1,d2,d3,d4,d5,d6,d7⟩:=k3 i' m t u' hN
    simp only at d1 d2
    rw[hx]at d1;rw[hu]at d2
    simp only at d1
    cases d1;cases d2
    exact⟨d5,d7⟩
   refine Sat.bind (Qtk h hrow (es.sub off T.ts.len) off vs us hv) ?_
   rintro as s4 ⟨rfl,hself⟩
   have hlt:us.length=(es.sub off T.ts.len).len->True:=fun _=>trivial
   have fin:∀(sp sd:St) (Gd:Gh) (nv':Nat) (l:List TV),us.length=(es.sub off T.ts.len).len->Qp s4 sp->RelP F (fun _ _=>False) Gd sd a w->sd.gC q.r q.k=mkC cc.id nv' .dead->(q.k<(sd.gB q.r).2->∀b,Gd.GB q.r (sd.gB q.r).1=some b->w.cell? ⟨b,q.k,none⟩=some u)->
    Held F Gd w ⟨x,deep,u,bl⟩->G.le Gd->(∃bls,zq w (fun b=>Gd.ow b= .ro) deep es (rdx es ys i) g (o+i.toNat*es.len) off (es.sub off T.ts.len) l us bls/\bls.flatten.Nodup/\
    (∀b∈bls.flatten,Gd.ow b= .free/\b<w.heap.size/\(b<F.w0.heap.size->F.X b))/\(∀b∈bls.flatten,b∉bl))->
    (∀i' m' t u',Gd.HN q.r q.k cc.id nv' i' m'=some (t,u')->(ZW w ⟨x,deep,u,bl⟩ i' m' t u'/\VJ (es.sub off T.ts.len)=false)\/(q.nest=none/\i'=i/\∃jj,m'=off+jj/\(es.sub off T.ts.len).get? jj=some t/\QN t=true/\us[jj]? =some u'))->
    (VJ (es.sub off T.ts.len)=true->nv'=cc.nv+1/\sp=sd)->(VJ (es.sub off T.ts.len)=false->nv'=cc.nv/\sp=s4/\sd=s4.sC q.r q.k (mkC cc.id cc.nv .dead))->
    Sat (do
     let z<-ofO (setAt ⟨.sl es,(show List (Qm es)from ys)⟩ i off l)
     let w<-ofO (Qpc x z q.nest)
     Qo0 (VJ (es.sub off T.ts.len)) q.r q.k cc w deep tag:M γ Unit) sp fun _ s'=>Qp s4 s'/\∃ad' G' w',(Value.pointer (some ((⟨g,o,none⟩:Addr).add (i.toNat*es.len+off))))= .pointer (some ad')/\(storeCells ad' us).run P w= .ok () w'/\Rel F G' s' a w':=by
    intro sp sd Gd nv' l hul hks hR hgd hbx hh hle ⟨bls,hpl,hbn,hbf,hbd⟩ hHN hf1 hf2
    obtain⟨z,w1,xw,c1,c2,c3,G',c4⟩:=hcore sd Gd nv' l bls hR hgd hbx hh hle hpl hbn hbf hbd hul hHN
    refine Sat.bind (Sat.ofO (Φ:=fun z' s5=>s5=sp/\z'=⟨.sl es,(show List (Qm es)from List.set ys i.toNat z)⟩) (fun z' hz=>⟨rfl, ?_⟩)) ?_
    ·rw[QtK c1]at hz;exact(QY10 hz).symm
    rintro z' s5 ⟨rfl,rfl⟩
    refine Sat.bind (Sat.ofO (Φ:=fun w' s6=>s6=s5/\w'=⟨x.t,xw⟩) (fun w' hw=>⟨rfl, ?_⟩)) ?_
    ·rw[c2]at hw;exact(QY10 hw).symm
    rintro w' s6 ⟨rfl,rfl⟩
    refine QF5 (fun hb=> ?_) (fun hb=> ?_)
    ·obtain⟨f1,f2⟩:=hf1 hb
     subst f1;subst f2
     refine⟨hks.trans (Qp.sC _ _ _ _),_,G',w1,rfl, ?_,c4⟩
     rw[add_plain,<-QY19];exact c3
    ·obtain⟨f1,f2,f3⟩:=hf2 hb
     subst f1;subst f2;subst f3
     refine⟨⟨rfl,rfl,rfl⟩,_,G',w1,rfl, ?_, ?_⟩
     ·rw[add_plain,<-QY19];exact c3
     ·rw[QAO]at c4
      have:s6.sV q.r q.k ⟨x.t,xw⟩=s6.sC q.r q.k (mkC cc.id cc.nv (.own ⟨x.t,xw⟩ deep tag)):=by
       unfold St.sV
       rw[QLx hst',e2]
      rw[this];exact c4
   obtain⟨rt1,rt2,rt3⟩:=h.take hst' k1
   have hfree:∀b∈bl,(G.drop q.r q.k bl).ow b= .free:=fun b hb=>if_pos hb
   cases hfl:VJ (es.sub off T.ts.len)with
   |false=>
    rw[hfl]at fin
    refine Sat.bind (Qu8 (Φ:=fun _ s5=>s5=s4) (fun e=>by cases e) (fun _=>rfl)) ?_
    rintro _ s5 rfl
    refine Sat.bind (Qn0 (es.sub off T.ts.len) off vs as us G s5 h hv hself htsx (fun _ e=>by rw[hfl]at e;cases e)) ?_
    rintro l s6 ⟨hul,m1,m2,m3,G2,bls,n1,n2,n3,n4,n5,n6,n7,n8,n9,n10⟩
    have hs6:=m3 hfl
    have hG2:=n9 hfl
    subst hs6;subst hG2
    have hnil:∀b∈bls.flatten,False:=fun b hb=>by
     obtain⟨κ,hk⟩:=n6 b hb
     rw[(n5 b hb).1]at hk;cases hk
    refine fin s6 (s6.sC q.r q.k (mkC cc.id cc.nv .dead)) (G2.drop q.r q.k bl) cc.nv l hul (Qp.refl _) (by rw[e2];exact rt1) (by rw[QP,if_pos ⟨rfl,rfl⟩]) (fun hk b hb=>hcell hk b hb) rt2 rt3
     ⟨bls,zq.QpV (fun b hb=>rt3.ro b hb) _ _ _ _ _ n3,n4,fun b hb=>(hnil b hb).elim,fun b hb=>(hnil b hb).elim⟩ ?_ (fun e=>by cases e) (fun _=>⟨rfl,rfl,rfl⟩)
    intro i' m' t u' hN
    exact .inl ⟨k3 i' m' t u' (by rw[<-e2];exact hN),rfl⟩
   |true=>
    rw[hfl]at fin
    refine Sat.bind (Qu8 (Φ:=fun _ s5=>s5=s4.sC q.r q.k (mkC cc.id (cc.nv+1) .dead)) (fun _=>rfl) (fun e=>by cases e)) ?_
    rintro _ s5 rfl
    have hbump:=rt1.bump (r:=q.r) (k:=q.k) (id:=(s4.gC q.r q.k).id) (nv:=(s4.gC q.r q.k).nv) (nv':=(s4.gC q.r q.k).nv+1) (by rw[QP,if_pos ⟨rfl,rfl⟩,QD]) (by rw[QP,if_pos ⟨rfl,rfl⟩,Q1]) (by rw[QP,if_pos ⟨rfl,rfl⟩,ZC]) (Nat.le_succ _)
    rw[QAO,<-e2]at hbump
    have hgc:(s4.sC q.r q.k (mkC cc.id (cc.nv+1) .dead)).gC q.r q.k=mkC cc.id (cc.nv+1) .dead:=by rw[QP,if_pos ⟨rfl,rfl⟩]
    have hNn:∀i' m',G.HN q.r q.k cc.id (cc.nv+1) i' m'=none:=fun i' m'=>(h.con q.r q.k).freshN _ _ i' m' (.inr ⟨by rw[e2],by rw[e2];exact QY33 _⟩)
    refine Sat.bind (Qn0 (es.sub off T.ts.len) off vs as us (G.drop q.r q.k bl) _ hbump (VCs.mono rt3 (fun _ _=>rfl) _ _ hv) hself htsx (fun _ _=> ?_)) ?_
    ·rw[hgc]
     exact⟨QD _ _ _,Q1 _ _ _,ZC _ _ _,fun m _=>hNn i m⟩
    rintro l s6 ⟨hul,m1,m2,m3,G2,bls,n1,n2,n3,n4,n5,n6,n7,n8,n9,n10⟩
    have hdeadc:=m2 q.r q.k (by rw[hgc];exact QD _ _ _)
    rw[hgc]at hdeadc
    refine fin s6 s6 G2 (cc.nv+1) l hul ((Qp.sC _ _ _ _).trans m1) n2 hdeadc (fun hk b hb=> ?_) ?_ (rt3.trans n1) ⟨bls,n3,n4,n5,fun b hb hm=> ?_⟩ ?_ (fun _=>⟨rfl,rfl⟩) (fun e=>by cases e)
    ·rw[m1.gB]at hk hb
     have hk:q.k<(s4.gB q.r).2:=hk
     obtain⟨b',cur,e,h1,h2,_⟩:=(h.box q.r).live (by omega)
     have:b=b':=by
      have:=n1.GB _ _ _ (show(G.drop q.r q.k bl).GB q.r (s4.gB q.r).1=some b' from h1)
      have hb:G2.GB q.r (s4.gB q.r).1=some b:=hb
      rw[this]at hb;cases hb;rfl
     subst this
     exact hcell hk b h1
    ·exact⟨Own.mono (fun b hb=>n1.ro b hb) _ _ _ _ rt2.own,rt2.sl,rt2.nodup,fun b hb=>⟨n7 b (hfree b hb),(rt2.free b hb).2⟩⟩
    ·obtain⟨κ,hk⟩:=n6 b hb
     rw[hfree b hm]at hk;cases hk
    ·intro i' m' t u' hN
     rcases n10 _ _ _ _ _ _ _ hN with e|⟨f1,_,_,_,_,f6,jj,f7,f8,f9,f10⟩
     ·have e:G.HN q.r q.k cc.id (cc.nv+1) i' m'=some (t,u'):=e
      rw[hNn]at e;cases e
     ·right
      refine⟨?_,f6,jj,f7,f8,f9,f10⟩
      cases hq:q.nest with
      |none=>rfl
      |some _=>rw[hq]at f1;cases f1
 |_=>exact Sat.fail
end
def zeroV:Ty->Value
 | .int k=> .int k 0
 | .bool=> .bool false
 | .str=> .string ByteArray.empty
 | .sl _=> .slice none 0 0
def xz:Tys->List Value
 | .nil=>[]
 | .cons t ts=>zeroV t::xz ts
def TVs (w:World):List TV->List Value->Prop
 | [],us=>us=[]
 |x::xs,us=>∃u us',us=u::us'/\(∃bl,Rep w x.t x.v u bl)/\TVs w xs us'
structure TyOk (P:Program) (T:Nat) (i:TI):Prop where
 und:∃d,P.underlying T=some d/\(match d with| .struct _| .array _ _=>true|_=>false)=i.agg
 info:∃ti z,P.info? T=some ti/\ti.size=i.ts.len/\ti.bytes=i.bytes/\ti.zero=some z/\z.cells.toList=xz i.ts
 one:i.agg=false->i.ts.len=1
 sl:i.QN=true->P.underlying T=some (.slice i.elem)
 str:i.isStr=true->P.underlying T=some .string
 bool:i.isBool=true->P.underlying T=some .bool
 int:∀k,i.Qlr =some k->P.underlying T=some (.int k)
 fo:i.agg=true->∃(fs:Array Field) (places:List (Nat×Nat)),P.underlying T=some (.struct fs)/\fs.toList.mapM (fun f=>(P.info? f.type).map fun i=>(f.offset,i.size))=some places/\∀k off,i.fo[k]? =some off->places[k]? =some (off,i.fsz k)/\off+i.fsz k<=i.ts.len
 eq:i.eqOk=true->i.agg=true->P.eqGuardType P.depth T=false/\∀(w:World) (us vs:List Value) (xs ys:List TV),TVs w xs us->TVs w ys vs->za i.ts (xs.map .sc)=true->za i.ts (ys.map .sc)=true->
  ∃b,QCq (xs.map .sc) (ys.map .sc)=some b/\(Op.equalIn Op.maxDepth T (.agg us.toArray) (.agg vs.toArray)).run P w= .ok b w
def XZ (P:Program) (E:Env):Prop:=∀T,(E.ty T).ok=true->TyOk P T (E.ty T)
section
variable {γ:Type}{P:Program}{E:Env}
def QI (P:Program) (F:Fix) (o:Oper) (a:Act) (w:World) (s':St):Prop:=
 ∀(K:Act->World->Prop) (Q:Exit->Act->World->Prop),(∀G' a' w',Rel F G' s' a' w'->K a' w')->o.wp P a w K Q
theorem QI.value {F:Fix}{o:Oper}{a:Act}{w w':World}{s':St}{G':Gh}{v:Value}(h:(Go.execOp a.eval o).run P w= .ok (.value v) w') (hr:Rel F G' s' (a.put o.dst v) w'):QI P F o a w s':=by
 intro K Q hK
 unfold Oper.wp
 rw[h]
 exact hK _ _ _ hr
theorem QI.skip {F:Fix}{o:Oper}{a:Act}{w w':World}{s':St}{G':Gh}(h:(Go.execOp a.eval o).run P w= .ok .skip w') (hr:Rel F G' s' (a.put o.dst undef) w'):QI P F o a w s':=by
 intro K Q hK
 unfold Oper.wp
 rw[h]
 exact hK _ _ _ hr
theorem Km {T:Nat}{s:St}(he:XZ P E):Sat (tyM E T:M γ TI) s fun i s'=>s'=s/\i=E.ty T/\TyOk P T i:=by
 unfold tyM
 split
 ·rename_i h;exact Sat.pure ⟨rfl,rfl,he T h⟩
 ·exact Sat.fail
theorem j9 {T:Nat}{s:St}(he:XZ P E):Sat (slE E T:M γ TI) s fun i s'=>s'=s/\∃e,P.underlying T=some (.slice e)/\TyOk P e i:=by
 unfold slE
 refine Sat.bind (Km he) ?_
 rintro i s' ⟨rfl,rfl,h⟩
 split
 ·rename_i hs
  exact(Km he).mono fun j s' ⟨e1,e2,e3⟩=>⟨e1,_,h.sl hs,e3⟩
 ·exact Sat.fail
theorem Zi {F:Fix}{pd:Nat->Nat->Prop}{G:Gh}{s:St}{a:Act}{w:World}(h:RelP F pd G s a w) {d:Option Tmp}{c:Cell}{v:Value}(hc:QK G w c v):Sat (YD d c:M γ Unit) s fun _ s'=>RelP F pd G s' (a.put d v) w:=by
 cases d with
 |none=>exact Sat.pure h
 |some d=>exact Sat.wT fun hi=>h.xC hi hc
theorem Zk {F:Fix}{pd:Nat->Nat->Prop}{G:Gh}{s:St}{a:Act}{w:World}(h:RelP F pd G s a w) {d:Option Tmp}{c:Cell}{v:Value}(hd:d.isSome=true) (hc:QK G w c v):Sat (wT (d.getD 0) c:M γ Unit) s fun _ s'=>RelP F pd G s' (a.put d v) w:=by
 cases d with
 |none=>cases hd
 |some d=>exact Sat.wT fun hi=>h.xC hi hc
theorem Quw {G:Gh}{w:World}{x:TV}{u:Value}(h:Rep w x.t x.v u []):QK G w (one (.sc x)) u:=⟨Rep.one _ _ _ _ h,u,[],rfl,⟨[],h,by simp[QX]⟩,rfl⟩
theorem ZJ {G:Gh}{w:World}{k:IntKind}{n:Int}:QK G w (cI k n) (.int k n):=Quw (x:=⟨.int k,n⟩) ⟨rfl,rfl⟩
theorem Z0 {G:Gh}{w:World}{b:Bool}:QK G w (cB b) (.bool b):=Quw (x:=⟨.bool,b⟩) ⟨rfl,rfl⟩
theorem Qse {G:Gh}{w:World}{b:ByteArray}:QK G w (cS b) (.string b):=Quw (x:=⟨.str,b⟩) ⟨rfl,rfl⟩
theorem VCR.one {G:Gh}{w:World}{c:VC}{u:Value}(h:VCR G w c u):u.oneCell'=true:=by
 cases c with
 |sc x=>obtain⟨_,h,_⟩:=h;exact Rep.one _ _ _ _ h
 |ro x=>obtain⟨_,h,_⟩:=h;exact Rep.one _ _ _ _ h
 |nilS=>rw[show u= .slice none 0 0 from h];rfl
 |vw p=>obtain⟨_,_,h⟩:=h;exact h
 |bad=>exact h
theorem VCs.ones {G:Gh}{w:World}: {vs:List VC}-> {us:List Value}->VCs G w vs us->∀u∈us,u.oneCell'=true
 | [],us,h=>by rw[show us=[]from h];simp
 |v::vs,us,⟨u,us',e,hv,h⟩=>by
  rw[e]
  intro x hx
  rcases QRk.1 hx with rfl|hx
  ·exact hv.one
  ·exact VCs.ones h x hx
theorem Qp9 {G:Gh}{w:World}{x:TV}{u:Value}(h:QK G w (.val false [.sc x]) u):∃bl,Rep w x.t x.v u bl/\QX G bl:=by
 obtain⟨_,u',us,e,hv,_⟩:=h
 cases e
 exact hv
theorem QyX {G:Gh}{w:World}{c:VC}{u:Value}(h:QK G w (.val false [c]) u):VCR G w c u:=by
 obtain⟨_,u',us,e,hv,_⟩:=h
 cases e
 exact hv
theorem zL {G:Gh}{w:World}{k:IntKind}{n:Int}{u:Value}(h:QK G w (.val false [.sc ⟨.int k,n⟩]) u):u= .int k n:=by
 obtain⟨bl,h1,_⟩:=Qp9 h;exact h1.1
theorem QgE {G:Gh}{w:World}{n:Bool}{u:Value}(h:QK G w (.val false [.sc ⟨.bool,n⟩]) u):u= .bool n:=by
 obtain⟨bl,h1,_⟩:=Qp9 h;exact h1.1
theorem Qfk {G:Gh}{w:World}{n:ByteArray}{u:Value}(h:QK G w (.val false [.sc ⟨.str,n⟩]) u):u= .string n:=by
 obtain⟨bl,h1,_⟩:=Qp9 h;exact h1.1
theorem XM {F:Fix}{pd:Nat->Nat->Prop}{G:Gh}{s:St}{a:Act}{w:World}(h:RelP F pd G s a w) (x:Operand):Sat (opd x:M γ Cell) s fun c s'=>s'=s/\QK G w c (a.eval x):=by
 cases x with
 |tmp t=>exact Sat.mT ⟨rfl,h.tm t⟩
 |global g=>exact Sat.fail
 |func f=>exact Sat.pure ⟨rfl, #[],rfl,rfl⟩
 |const v=>
  refine Sat.ofO fun c hc=>⟨rfl, ?_⟩
  show QK G w c v
  cases v with
  |bool b=>cases hc;exact Z0
  |int k n=>cases hc;exact ZJ
  |string s=>cases hc;exact Qse
  |slice ad n m=>
   cases ad with
   |some _=>simp[yq]at hc
   |none=>
    cases n with
    |succ n=>simp[yq]at hc
    |zero=>cases m with
     |succ m=>simp[yq]at hc
     |zero=>cases hc;exact⟨rfl,_,[],rfl,rfl,rfl⟩
  |pointer p=>cases p with
   |some _=>simp[yq]at hc
   |none=>cases hc;trivial
  |_=>simp[yq]at hc
theorem QcX {G:Gh}{w:World}{c:Cell}{n:Int}{u:Value}(h:yj c=some n) (hc:QK G w c u):∃k,u= .int k n:=by
 unfold yj at h
 split at h
 ·cases h;exact⟨_,zL hc⟩
 ·cases h
theorem QGo {G:Gh}{w:World}{c:Cell}{n:ByteArray}{u:Value}(h:QwH c=some n) (hc:QK G w c u):u= .string n:=by
 unfold QwH at h
 split at h
 ·cases h;exact Qfk hc
 ·cases h
theorem QpC {G:Gh}{w:World}{c:Cell}{v:VC}{u:Value}(h:vc1 c=some v) (hc:QK G w c u):VCR G w v u:=by
 unfold vc1 at h
 split at h
 ·cases h;exact QyX hc
 ·cases h
theorem QH7 {u:Value}(h:u.oneCell'=true):u.cells= #[u]:=by
 cases u<;>first|rfl|cases h
theorem QjO {G:Gh}{w:World}{c:Cell}{vs:List VC}{u:Value}(h:QfP c=some vs) (hc:QK G w c u):VCs G w vs u.cells.toList:=by
 unfold QfP at h
 split at h
 ·rename_i a vs'
  cases h
  cases a with
  |true=>obtain⟨us,rfl,h1⟩:=hc;exact h1
  |false=>
   obtain⟨h0,h1⟩:=hc
   rw[QH7 h0];exact h1
 ·cases h
theorem Qrd {F:Fix}{pd:Nat->Nat->Prop}{G:Gh}{s:St}{a:Act}{w:World}(h:RelP F pd G s a w) {ts:Tys}{v:VC}{u:Value}(hv:VCR G w v u):
 Sat (QpM ts v:M γ Nat) s fun n s'=>s'=s/\∃(xs:List (Qm ts)) (bl:List Nat) (ad:Option Addr) (c:Nat),Rep w (.sl ts) xs u bl/\xs.length=n/\u= .slice ad n c/\n<=c/\(ad=none->c=0)/\
  (∀y,v= .ro y->y=⟨.sl ts,xs⟩/\QX G bl)/\(∀p,v= .vw p->G.PH p=some (.sl ts,u)):=by
 unfold QpM
 have fin:∀(xs:Val (.sl ts)) (s':St) (bl:List Nat),s'=s->Rep w (.sl ts) xs u bl->(∀y,v= .ro y->y=⟨.sl ts,xs⟩/\QX G bl)->(∀p,v= .vw p->G.PH p=some (.sl ts,u))->
  Sat (pure (List.length (show List (Qm ts)from xs)):M γ Nat) s' fun n s'=>s'=s/\∃(xs:List (Qm ts)) (bl:List Nat) (ad:Option Addr) (c:Nat),Rep w (.sl ts) xs u bl/\xs.length=n/\u= .slice ad n c/\n<=c/\(ad=none->c=0)/\
  (∀y,v= .ro y->y=⟨.sl ts,xs⟩/\QX G bl)/\(∀p,v= .vw p->G.PH p=some (.sl ts,u)):=by
  intro xs s' bl hs hr h1 h2
  have hr':=hr
  obtain⟨ad,c,e,⟨g1,g2⟩,_⟩:=hr'
  exact Sat.pure ⟨hs,xs,bl,ad,c,hr,rfl,e,g1,g2,h1,h2⟩
 cases v with
 |sc x=>
  obtain⟨b,h1,_⟩:=hv
  refine Sat.bind (Sat.ofO (Φ:=fun v s'=>s'=s/\x=⟨.sl ts,v⟩) (fun v hv=>⟨rfl,Zt hv⟩)) ?_
  rintro xs s' ⟨e,rfl⟩
  exact fin xs s' b e h1 (fun y e=>by cases e) (fun y e=>by cases e)
 |ro x=>
  obtain⟨b,h1,h2⟩:=hv
  refine Sat.bind (Sat.ofO (Φ:=fun v s'=>s'=s/\x=⟨.sl ts,v⟩) (fun v hv=>⟨rfl,Zt hv⟩)) ?_
  rintro xs s' ⟨e,rfl⟩
  exact fin xs s' b e h1 (fun y e=>by cases e;exact⟨rfl,h2⟩) (fun y e=>by cases e)
 |nilS=>
  refine Sat.bind (Qlj h (.sl ts) .nilS u hv) ?_
  rintro xs s' ⟨e,bl,hr⟩
  exact fin xs s' bl e hr (fun y e=>by cases e) (fun y e=>by cases e)
 |vw p=>
  obtain⟨t',e,_⟩:=hv
  refine Sat.bind (Φ:=fun xs s'=>s'=s/\t'= .sl ts/\∃b,Rep w (.sl ts) xs u b) ?_ ?_
  ·refine Sat.bind (QHt h e) ?_
   rintro⟨x,d⟩ s' ⟨e1,e2,b,hr⟩
   rw[e1]
   refine Sat.ofO fun v hv=> ?_
   have:=Zt hv
   subst this
   exact⟨rfl,e2.symm,b,hr⟩
  ·rintro xs s' ⟨e1,rfl,b,hr⟩
   exact fin xs s' b e1 hr (fun y e=>by cases e) (fun p' e'=>by cases e';exact e)
 |bad=>exact Sat.bind (Φ:=fun _ _=>False) Sat.fail (fun _ _ e=>e.elim)
end
section
variable {P:Program}{E:Env}{D:Xz E}{nk:Fx}{F:Fix}{G:Gh}{s:St}{a:Act}{w:World}{o:Oper}
theorem QLu {x:Operand}(ho:o.op= .move x) (h:Rel F G s a w):Sat (execOp E D nk o:M Unit Unit) s (fun(_:Unit) (s':St)=>QI P F o a w s'):=by
 simp only[execOp,ho,XQ,QQ3,QY13,QRw,if_false]
 refine Sat.bind (XM h x) ?_
 rintro c s' ⟨rfl,hc⟩
 exact(Zi h hc).mono fun _ s' hr=>QI.value (by simp[Go.execOp,ho]) hr
theorem QDW {x:Operand}(ho:o.op= .nilCheck x) (h:Rel F G s a w):Sat (execOp E D nk o:M Unit Unit) s (fun(_:Unit) (s':St)=>QI P F o a w s'):=by
 simp only[execOp,ho,XQ,QQ3,QY13,QRw,if_false]
 refine Sat.bind (XM h x) ?_
 rintro c s' ⟨rfl,hc⟩
 cases c with
 |ptr r off g=>
  have hc':=hc
  obtain⟨b,_,hv⟩:=hc
  exact(Zi h hc').mono fun _ s' hr=>QI.value (v:=a.eval x) (w':=w) (by simp[Go.execOp,ho,hv,JH]) hr
 |eptr p i off=>
  have hc':=hc
  obtain⟨ts,ad,n,c,_,_,_,hv⟩:=hc
  exact(Zi h hc').mono fun _ s' hr=>QI.value (v:=a.eval x) (w':=w) (by simp[Go.execOp,ho,hv]) hr
 |rptr p i off=>
  have hc':=hc
  obtain⟨ts,xs,ad,n,c,bl,_,_,_,_,_,hv⟩:=hc
  exact(Zi h hc').mono fun _ s' hr=>QI.value (v:=a.eval x) (w':=w) (by simp[Go.execOp,ho,hv]) hr
 |_=>exact Sat.fail
theorem QEK {G:Gh}{w:World}:(cs:List (Bool×List VC))->(us:List Value)->(i:Nat)->(x:Bool×List VC)->Qiv G w cs us->cs[i]? =some x->∃u,us[i]? =some u/\Qfi G w x.1 x.2 u
 | [],_,_,_,_,h=>by simp at h
 |(a,vs)::cs,us,0,x,⟨u,us',e,h1,h2⟩,h=>by
  simp at h;subst h;rw[e];exact⟨u,rfl,h1⟩
 |(a,vs)::cs,us,i+1,x,⟨u,us',e,h1,h2⟩,h=>by
  rw[e]
  obtain⟨v,g1,g2⟩:=QEK cs us' i x h2 (by simpa using h)
  exact⟨v,by simpa using g1,g2⟩
theorem QFG {t:Operand}{i:Nat}(ho:o.op= .extract t i) (h:Rel F G s a w):Sat (execOp E D nk o:M Unit Unit) s (fun(_:Unit) (s':St)=>QI P F o a w s'):=by
 simp only[execOp,ho,XQ,QQ3,QY13,QRw,if_false]
 refine Sat.bind (XM h t) ?_
 rintro c s' ⟨rfl,hc⟩
 cases c with
 |tup cs=>
  obtain⟨us,hv,ht⟩:=hc
  dsimp only
  split
  ·rename_i ag vs hi
   obtain⟨u,g1,g2⟩:=QEK _ _ _ _ ht hi
   have g1':us[i]? =some u:=by simpa using g1
   have hcr:QK G w (.val ag vs) u:=g2
   exact(Zi h hcr).mono fun _ s' hr=>QI.value (v:=u) (by simp[Go.execOp,ho,hv,Instr.extract,g1']) hr
  ·exact Sat.fail
 |_=>exact Sat.fail
theorem QLL {u:UnOp}{t:TypeId}{x:Operand}(ho:o.op= .unOp u t x) (h:Rel F G s a w):Sat (execOp E D nk o:M Unit Unit) s (fun(_:Unit) (s':St)=>QI P F o a w s'):=by
 simp only[execOp,ho,XQ,QQ3,QY13,QRw,if_false]
 refine Sat.bind (XM h x) ?_
 rintro c s' ⟨rfl,hc⟩
 split
 ·rename_i b
  have hv:=QgE hc
  exact(Zi h Z0).mono fun _ s' hr=>QI.value (v:= .bool !b) (by simp[Go.execOp,ho,hv,Op.unary]) hr
 ·rename_i k n
  have hv:=zL hc
  exact(Zi h ZJ).mono fun _ s' hr=>QI.value (v:= .int k (k.wrap (0 - (show Int from n)))) (w':=w) (by simp[Go.execOp,ho,hv,Op.unary,Op.intArith]) hr
 ·exact Sat.fail
def Qa3 (P:Program) (w:World) (op:BinOp) (T:TypeId) (x y u:Value):Prop:=
 (∀p q:Operand,(eqGuard op T p q x y).run P w= .ok () w)/\(Go.binOp op T x y).run P w= .ok u w
theorem QKg {k:IntKind}{op:BinOp}{T:TypeId}{m n:Int}(hs:QyQ op=false):Sat (ibin op k m n:M Unit Cell) s fun c s'=>s'=s/\∃u,Qa3 P w op T (.int k m) (.int k n) u/\QK G w c u:=by
 have mk:∀(c:Cell) (u:Value),(Go.binOp op T (.int k m) (.int k n)).run P w= .ok u w->QK G w c u->Sat (pure c:M Unit Cell) s fun c s'=>s'=s/\∃u,Qa3 P w op T (.int k m) (.int k n) u/\QK G w c u:=
  fun c u h1 h2=>Sat.pure ⟨rfl,u,⟨fun _ _=>by simp[eqGuard_at_int],h1⟩,h2⟩
 unfold ibin
 cases op with
 |shl|shr=>cases hs
 |add=>exact mk _ (.int k (k.wrap (m+n))) (by simp[Go.binOp,Op.intArith]) ZJ
 |sub=>exact mk _ (.int k (k.wrap (m - n))) (by simp[Go.binOp,Op.intArith]) ZJ
 |mul=>exact mk _ (.int k (k.wrap (m*n))) (by simp[Go.binOp,Op.intArith]) ZJ
 |quo=>
  refine Sat.bind (Sat.chk (Φ:=fun _ s'=>s'=s/\n≠0) (fun e=>⟨rfl,by simpa using e⟩)) ?_
  rintro _ s' ⟨rfl,hn⟩
  exact mk _ (.int k (k.wrap (m.tdiv n))) (by simp[Go.binOp,Op.intDiv,hn]) ZJ
 |rem=>
  refine Sat.bind (Sat.chk (Φ:=fun _ s'=>s'=s/\n≠0) (fun e=>⟨rfl,by simpa using e⟩)) ?_
  rintro _ s' ⟨rfl,hn⟩
  exact mk _ (.int k (m.tmod n)) (by simp[Go.binOp,Op.intDiv,hn]) ZJ
 |and=>exact mk _ (.int k (bits .and k m n)) (by simp[Go.binOp,Op.intBits,bits]) ZJ
 |or=>exact mk _ (.int k (bits .or k m n)) (by simp[Go.binOp,Op.intBits,bits]) ZJ
 |xor=>exact mk _ (.int k (bits .xor k m n)) (by simp[Go.binOp,Op.intBits,bits]) ZJ
 |andNot=>exact mk _ (.int k (bits .andNot k m n)) (by simp[Go.binOp,Op.intBits,bits]) ZJ
 |eql=>exact mk _ (.bool (decide (m=n))) (by simp[Go.binOp,Op.intCmp];rfl) Z0
 |neq=>exact mk _ (.bool (!decide (m=n))) (by simp[Go.binOp,Op.intCmp];rfl) Z0
 |lss=>exact mk _ (.bool (decide (m<n))) (by simp[Go.binOp,Op.intCmp]) Z0
 |leq=>exact mk _ (.bool (decide (m<=n))) (by simp[Go.binOp,Op.intCmp]) Z0
 |gtr=>exact mk _ (.bool (decide (n<m))) (by simp[Go.binOp,Op.intCmp]) Z0
 |geq=>exact mk _ (.bool (decide (n<=m))) (by simp[Go.binOp,Op.intCmp]) Z0
theorem QFb {k k':IntKind}{op:BinOp}{T:TypeId}{m n:Int}(hs:QyQ op=true):Sat (ishift op k m n:M Unit Cell) s fun c s'=>s'=s/\∃u,Qa3 P w op T (.int k m) (.int k' n) u/\QK G w c u:=by
 unfold ishift
 cases op with
 |shl=>
  refine Sat.bind (Sat.chk (Φ:=fun _ s'=>s'=s/\0<=n) (fun e=>⟨rfl,by simpa using e⟩)) ?_
  rintro _ s' ⟨rfl,hn⟩
  refine Sat.pure ⟨rfl, .int k (Qbf k m n),⟨fun _ _=>by simp[eqGuard_at_int], ?_⟩,ZJ⟩
  simp[Go.binOp,Op.shift,Qbf,Int.not_lt.2 hn]
 |shr=>
  refine Sat.bind (Sat.chk (Φ:=fun _ s'=>s'=s/\0<=n) (fun e=>⟨rfl,by simpa using e⟩)) ?_
  rintro _ s' ⟨rfl,hn⟩
  refine Sat.pure ⟨rfl, .int k (Qd7 k m n),⟨fun _ _=>by simp[eqGuard_at_int], ?_⟩,ZJ⟩
  simp[Go.binOp,Op.shift,Qd7,Int.not_lt.2 hn]
 |_=>exact Sat.fail
theorem QI3 {op:BinOp}{T:TypeId}{m n:Bool}(hT:P.underlying T=some .bool):Sat (bbin op m n:M Unit Cell) s fun c s'=>s'=s/\∃u,Qa3 P w op T (.bool m) (.bool n) u/\QK G w c u:=by
 have he:(Op.equal T (.bool m) (.bool n)).run P w= .ok (m==n) w:=run_equalIn_bool' w 9999 T m n hT
 unfold bbin
 cases op with
 |eql=>exact Sat.pure ⟨rfl, .bool (m==n),⟨fun _ _=>by simp[eqGuard_at_bool],by simp[Go.binOp,he]⟩,Z0⟩
 |neq=>exact Sat.pure ⟨rfl, .bool (!(m==n)),⟨fun _ _=>by simp[eqGuard_at_bool],by simp[Go.binOp,he]⟩,Z0⟩
 |_=>exact Sat.fail
theorem QJa {op:BinOp}{T:TypeId}{m n:ByteArray}:Sat (sbin op m n:M Unit Cell) s fun c s'=>s'=s/\∃u,Qa3 P w op T (.string m) (.string n) u/\QK G w c u:=by
 have mk:∀(c:Cell) (u:Value),(Go.binOp op T (.string m) (.string n)).run P w= .ok u w->QK G w c u->Sat (pure c:M Unit Cell) s fun c s'=>s'=s/\∃u,Qa3 P w op T (.string m) (.string n) u/\QK G w c u:=
  fun c u h1 h2=>Sat.pure ⟨rfl,u,⟨fun _ _=>by simp[eqGuard_at_string],h1⟩,h2⟩
 unfold sbin
 cases op with
 |add=>
  refine Sat.bind (Sat.chk (Φ:=fun _ s'=>s'=s/\m.size+n.size<=140737488351232) (fun e=>⟨rfl,by simpa[fits]using e⟩)) ?_
  rintro _ s' ⟨rfl,hn⟩
  have:¬(((m.size+n.size:Nat):Int)>IntKind.i64.max):=by rw[IntKind.max_i64];omega
  exact mk _ (.string (m++n)) (by simp only[Go.binOp,Op.stringOp];rw[if_neg this];rfl) Qse
 |eql=>exact mk _ (.bool (X0 m n)) (by simp[Go.binOp,Op.stringOp,X0]) Z0
 |neq=>exact mk _ (.bool (!X0 m n)) (by simp[Go.binOp,Op.stringOp,X0]) Z0
 |lss=>exact mk _ (.bool (Op.bytesLess m.toList n.toList)) (by simp[Go.binOp,Op.stringOp]) Z0
 |leq=>exact mk _ (.bool (Op.bytesLess m.toList n.toList||X0 m n)) (by simp[Go.binOp,Op.stringOp,X0]) Z0
 |gtr=>exact mk _ (.bool (!(Op.bytesLess m.toList n.toList||X0 m n))) (by simp[Go.binOp,Op.stringOp,X0]) Z0
 |geq=>exact mk _ (.bool (!Op.bytesLess m.toList n.toList)) (by simp[Go.binOp,Op.stringOp]) Z0
 |_=>exact Sat.fail
theorem Qyb {w:World}:(l:List VC)->(us:List Value)->(ts:Tys)->VCs G w l us->za ts l=true->∃xs:List TV,l=xs.map .sc/\TVs w xs us
 | [],us,ts,h,_=>⟨[],rfl,h⟩
 |v::l,us, .nil,h,hc=>by simp[za]at hc
 |v::l,us, .cons t ts,⟨u,us',e,hv,h⟩,hc=>by
  cases v with
  |sc x=>
   simp only[za,QQ5]at hc
   obtain⟨xs,h1,h2⟩:=Qyb l us' ts h hc.2
   obtain⟨bl,hr,_⟩:=hv
   exact⟨x::xs,by rw[h1];rfl,u,us',e,⟨bl,hr⟩,h2⟩
  |_=>simp[za]at hc
theorem QCy {T:TypeId}{i:TI}(hT:TyOk P T i) {op:BinOp}{x y:Cell}{u v:Value}(hx:QK G w x u) (hy:QK G w y v):Sat (Qmm i op x y:M Unit Cell) s fun c s'=>s'=s/\∃z,Qa3 P w op T u v z/\QK G w c z:=by
 unfold Qmm
 split
 ·rename_i p q
  unfold bin
  split
  ·rename_i k m k' n
   have h1:=zL hx;have h2:=zL hy
   subst h1;subst h2
   split
   ·rename_i hs;exact QFb hs
   ·rename_i hs
    split
    ·rename_i hk;subst hk;exact QKg (by simpa using hs)
    ·exact Sat.fail
  ·have h1:=QgE hx;have h2:=QgE hy
   subst h1;subst h2
   split
   ·rename_i hb;exact QI3 (hT.bool hb)
   ·exact Sat.fail
  ·have h1:=Qfk hx;have h2:=Qfk hy
   subst h1;subst h2
   exact QJa
  ·exact Sat.fail
 ·rename_i l m
  split
  ·rename_i hc
   simp only[QQ5]at hc
   obtain⟨⟨⟨hag,heq⟩,hl⟩,hm⟩:=hc
   obtain⟨us,rfl,h1⟩:=hx
   obtain⟨vs,rfl,h2⟩:=hy
   obtain⟨xs,rfl,k1⟩:=Qyb l _ _ h1 hl
   obtain⟨ys,rfl,k2⟩:=Qyb m _ _ h2 hm
   obtain⟨g1,g2⟩:=hT.eq heq hag
   obtain⟨b,e1,e2⟩:=g2 w us.toList vs.toList xs ys k1 k2 hl hm
   have e2:(Op.equal T (.agg us) (.agg vs)).run P w= .ok b w:=e2
   have hgd:∀p q:Operand,(eqGuard op T p q (.agg us) (.agg vs)).run P w= .ok () w:=fun p q=>run_eqGuard_agg w op T p q us vs g1
   split
   ·refine Sat.bind (Sat.ofO (Φ:=fun b' s'=>s'=s/\b=b') (fun b' hb=>⟨rfl,by rw[e1]at hb;exact QY10 hb⟩)) ?_
    rintro _ s' ⟨rfl,rfl⟩
    refine Sat.pure ⟨rfl, .bool b,⟨hgd, ?_⟩,Z0⟩
    simp[Go.binOp,e2]
   ·refine Sat.bind (Sat.ofO (Φ:=fun b' s'=>s'=s/\b=b') (fun b' hb=>⟨rfl,by rw[e1]at hb;exact QY10 hb⟩)) ?_
    rintro _ s' ⟨rfl,rfl⟩
    refine Sat.pure ⟨rfl, .bool (!b),⟨hgd, ?_⟩,Z0⟩
    simp[Go.binOp,e2]
   ·exact Sat.fail
  ·exact Sat.fail
 ·exact Sat.fail
theorem QIZ (he:XZ P E) {op:BinOp}{T:TypeId}{x y:Operand}{T':TypeId}(ho:o.op= .binOp op T x y T') (h:Rel F G s a w):Sat (execOp E D nk o:M Unit Unit) s (fun(_:Unit) (s':St)=>QI P F o a w s'):=by
 simp only[execOp,ho,XQ,QQ3,QY13,QRw,if_false]
 refine Sat.bind (Km he) ?_
 rintro i s' ⟨rfl,rfl,hT⟩
 refine Sat.bind (XM h x) ?_
 rintro c s' ⟨rfl,hc⟩
 refine Sat.bind (XM h y) ?_
 rintro d s' ⟨rfl,hd⟩
 refine Sat.bind (QCy hT hc hd) ?_
 rintro r s' ⟨rfl,z,⟨g1,g2⟩,hr⟩
 exact(Zi h hr).mono fun _ s' hr=>QI.value (v:=z) (w':=w) (by simp[Go.execOp,ho,g1,g2]) hr
end
def RoV (w:World) (R:Nat->Prop) (t:Ty) (v:Val t) (u:Value):Prop:=(∃bl,Own w R false t v u bl)\/∃bl,Rep w t v u bl/\∀c∈bl,R c
theorem XF.QBx {w:World}{R:Nat->Prop}:(ts:Tys)->(x:Qm ts)->(us:List Value)->(bl:List Nat)->XF w ts x us bl->(∀c∈bl,R c)->QT w R false ts x us []
 | .nil,_,_,_,h,_=>⟨h.1,rfl⟩
 | .cons t ts,x,us,bl,h,hR=>by
   obtain⟨u,us',b1,b2,rfl,rfl,h1,h2⟩:=h
   exact⟨u,us',[],[],rfl,rfl,⟨rfl,b1,h1,fun c hc=>hR c (by simp[hc])⟩,XF.QBx ts _ us' b2 h2 (fun c hc=>hR c (by simp[hc]))⟩
theorem QT.QcP {w:World}{R:Nat->Prop}:(ts:Tys)->(x:Qm ts)->(us:List Value)->(bl:List Nat)->QT w R false ts x us bl->bl=[]
 | .nil,_,_,_,h=>h.2
 | .cons t ts,x,us,bl,h=>by
   obtain⟨u,us',b1,b2,rfl,rfl,⟨h1,_⟩,h2⟩:=h
   rw[h1,QT.QcP ts _ us' b2 h2];rfl
theorem RoV.at_ {w:World}{R:Nat->Prop}{ts:Tys}{xs:Val (.sl ts)}{u:Value}(h:RoV w R (.sl ts) xs u) {i:Nat}{x:Qm ts}(hx:(vl xs)[i]? =some x):∃a n c us,u= .slice (some a) n c/\Cells w a (i*ts.len) us/\QT w R false ts x us []:=by
 rcases h with⟨bl,h⟩|⟨bl,h,hR⟩
 ·rcases h with⟨h1,_⟩|⟨g,off,cap,cur,e,bls,hu,hg,_,_,_,hb,hl,hc⟩
  ·rw[h1]at hx;simp at hx
  ·have hi:i<(vl xs).length:=(QRq.1 hx).1
   obtain⟨us,k1,k2⟩:=hc i x (bls[i]'(by omega)) hx (QRp _)
   have:=QT.QcP _ _ _ _ k2
   rw[this]at k2
   exact⟨_,_,_,us,hu,k1,k2⟩
 ·obtain⟨ad,cap,hu,_,h⟩:=h
  rcases h with⟨h1,_⟩|⟨a,bls,ha,hb,hl,hc⟩
  ·rw[h1]at hx;simp at hx
  ·have hi:i<(vl xs).length:=(QRq.1 hx).1
   obtain⟨us,k1,k2⟩:=hc i x (bls[i]'(by omega)) hx (QRp _)
   subst ha
   exact⟨a,_,_,us,hu,k1,XF.QBx _ _ _ _ k2 (fun c hc=>hR c (by rw[hb];exact List.mem_cons_of_mem _ (QY9.2 ⟨_,QRf _,hc⟩)))⟩
theorem RoV.rng {w:World}{R:Nat->Prop}{z b:TV}{u u':Value}(h:RoV w R z.t z.v u) {rng:Option (Int×Int)}(hz:Yq z rng=some b) {t:Ty}(hp:Jj z.t u rng=some (t,u')):RoV w R b.t b.v u':=by
 rcases h with⟨bl,h⟩|⟨bl,h,hR⟩
 ·cases rng with
  |none=>cases hz;cases hp;exact .inl ⟨bl,h⟩
  |some lk=>
   obtain⟨l,k⟩:=lk
   obtain⟨zt,zv⟩:=z
   cases zt with
   |sl ts=>
    simp only[Yq,KX]at hz
    cases hz
    have h:Own w R false (.sl ts) zv u bl:=h
    obtain⟨b',hr,_⟩:=Own.rep _ _ _ _ h
    obtain⟨ad,cap,e,_⟩:=hr
    subst e
    simp only[Jj,vI]at hp
    split at hp
    ·rename_i hc
     cases hp
     obtain⟨ad',cap',e,_,_,bl',h1,h2⟩:=Own.sub h l.toNat k.toNat (by omega) (by omega)
     cases e
     left
     refine⟨bl', ?_⟩
     have:(k - l).toNat=k.toNat - l.toNat:=by omega
     show Own w _ false (.sl ts) (List.take (k - l).toNat (List.drop l.toNat (vl zv))) _ bl'
     rw[this];exact h1
    ·cases hp
   |_=>simp[Yq,KX]at hz
 ·obtain⟨_,b',h1,h2⟩:=QjT h hz hp
  exact .inr ⟨b',h1,fun c hc=>hR c (h2 c hc)⟩
theorem QLr {w:World}{R:Nat->Prop}{it:Item}(h:Own w R false it.x.t it.x.v it.u it.bl) {i:Int}{m:Nat}{t:Ty}{u:Value}(hn:ZW w it i m t u) {y:TV}(hy:Zm it.x i m=some y):RoV w R y.t y.v u:=by
 obtain⟨⟨xt,xv⟩,deep,iu,bl⟩:=it
 obtain⟨ts,g,off,n,c,e1,e2,h0,h1,hget,hsl,hcell⟩:=hn
 simp only at e1 e2 h
 subst e1;subst e2
 obtain⟨_,_,_,hlen,_⟩:=Qfe h
 have hi:i.toNat<(vl (ts:=ts) xv).length:=by omega
 have hyy:(unpack ts (rdx ts (vl xv) i))[m]? =some y:=hy
 obtain⟨uy,pre,b,post,k1,k2,k3,_⟩:=Own.nest h (Qea (vl xv) i hi) hyy
 rw[hcell]at k1;cases k1
 obtain⟨_,b',hr,hR⟩:=k3
 exact .inr ⟨b',hr,hR⟩
section
variable {γ:Type}
theorem QLk {F:Fix}{pd:Nat->Nat->Prop}{G:Gh}{s:St}{a:Act}{w:World}(h:RelP F pd G s a w) {p:Pl}{tu:Ty×Value}(hp:G.PH p=some tu):
 Sat (rd p:M γ (TV×Bool)) s fun x s'=>s'=s/\x.1.t=tu.1/\(∃b,Rep w x.1.t x.1.v tu.2 b)/\(x.2=false->RoV w (fun b=>G.ow b= .ro) x.1.t x.1.v tu.2):=by
 unfold rd
 refine Sat.bind (Kr h hp) ?_
 rintro⟨q,c⟩ s' ⟨e1,e2,e3,e4,e5⟩
 subst e1
 simp only at e2 e3 e4 e5
 obtain⟨t,u'⟩:=tu
 dsimp only
 cases hc:c.st with
 |own x deep tag=>
  rw[e2]at hc
  obtain⟨u,bl,k1,k2,k3,_⟩:=(h.con q.r q.k).own x deep tag hc
  have hi:=h.it _ _ k1
  have key:∀y,(match q.nest with|none=>some x|some (i,m)=>Zm x i m)=some y->∃ub b,G.base q=some (y.t,ub)/\Rep w y.t y.v ub b/\(deep=false->RoV w (fun b=>G.ow b= .ro) y.t y.v ub):=by
   intro y hy
   unfold Gh.base
   cases hn:q.nest with
   |none=>
    rw[hn]at hy;cases hy
    obtain⟨b',h1,_⟩:=Own.rep _ _ _ _ hi.own
    refine⟨u,b',by simp only;rw[<-e3,e2];exact k2,h1,fun hd=> .inl ⟨bl, ?_⟩⟩
    have:=hi.own
    simp only[hd]at this
    exact this
   |some im=>
    obtain⟨i,m⟩:=im
    rw[hn]at hy
    simp only at hy⊢
    have hb:∃tu',G.base q=some tu':=by
     unfold Gh.PH at e5
     cases hr:q.rng with
     |none=>rw[hr]at e5;exact⟨_,e5⟩
     |some lk=>rw[hr]at e5;simp only[Option.bind_eq_some_iff]at e5;obtain⟨y,e,_⟩:=e5;exact⟨y,e⟩
    obtain⟨⟨t1,u1⟩,hb⟩:=hb
    unfold Gh.base at hb
    rw[hn]at hb
    simp only at hb
    have e4':=e4 (by rw[hn];rfl)
    have hN:=k3 i m t1 u1 (by rw[<-e2,e3,e4'];exact hb)
    obtain⟨ht,b',hr⟩:=QCM hi.own hN hy
    refine⟨u1,b',by rw[ht];exact hb,hr,fun hd=> ?_⟩
    subst hd
    exact QLr hi.own hN hy
  have jp:∀y,(match q.nest with|none=>some x|some (i,m)=>Zm x i m)=some y->Sat (do let z<-ofO (Yq y q.rng);pure (z,deep):M γ (TV×Bool)) s' fun x s''=>s''=s'/\x.1.t=t/\(∃b,Rep w x.1.t x.1.v u' b)/\(x.2=false->RoV w (fun b=>G.ow b= .ro) x.1.t x.1.v u'):=by
   intro y hy
   obtain⟨ub,b,hb,hr,hro⟩:=key y hy
   refine Sat.bind (Sat.ofO (Φ:=fun z s''=>s''=s'/\Yq y q.rng=some z) (fun z hz=>⟨rfl,hz⟩)) ?_
   rintro z s'' ⟨e,hz⟩
   have hrp:Jj y.t ub q.rng=some (t,u'):=by
    unfold Gh.PH at e5
    cases hr':q.rng with
    |none=>rw[hr']at e5;simp only[Jj]at e5⊢; rw[<-hb];exact e5
    |some lk=>rw[hr']at e5;simp only[Jj]at e5⊢; rw[hb]at e5;exact e5
   have:=QjT hr hz hrp
   exact Sat.pure ⟨e,this.1,(let⟨b',h1,_⟩:=this.2;⟨b',h1⟩),fun hd=>(hro hd).rng hz hrp⟩
  dsimp only
  cases hn:q.nest with
  |none=>
   rw[hn]at jp
   exact Sat.bind (Sat.pure (Φ:=fun y s''=>s''=s'/\y=x) ⟨rfl,rfl⟩) (by rintro y s'' ⟨e,e'⟩;rw[e,e'];exact jp x rfl)
  |some im=>
   rw[hn]at jp
   exact Sat.bind (Sat.ofO (Φ:=fun y s''=>s''=s'/\Zm x im.1 im.2=some y) (fun y hy=>⟨rfl,hy⟩)) (by rintro y s'' ⟨e,e'⟩;rw[e];exact jp y e')
 |_=>exact Sat.fail
open Classical in
noncomputable def Gh.satur (G:Gh) (w:World) (r k id nv:Nat) (it:Item):Gh:=
 {G with HN:=fun r' k' j v i m=>if r'=r/\k'=k/\j=id/\v=nv then(if h:∃tu:Ty×Value,ZW w it i m tu.1 tu.2 then some h.choose else none)else G.HN r' k' j v i m}
theorem ZW.fun {w:World}{it:Item}{i:Int}{m:Nat}{t t':Ty}{u u':Value}(h:ZW w it i m t u) (h':ZW w it i m t' u'):t=t'/\u=u':=by
 obtain⟨ts,g,off,n,c,a1,a2,a3,a4,a5,a6,a7⟩:=h
 obtain⟨ts',g',off',n',c',b1,b2,b3,b4,b5,b6,b7⟩:=h'
 rw[a1]at b1;cases b1
 rw[a2]at b2;cases b2
 rw[a5]at b5;cases b5
 rw[a7]at b7;cases b7
 exact⟨rfl,rfl⟩
theorem RelP.satur {F:Fix}{pd:Nat->Nat->Prop}{G:Gh}{s:St}{a:Act}{w:World}(h:RelP F pd G s a w) {r k:Nat}{x:TV}{deep:Bool}{tag:Option (Nat×Nat)}{u:Value}{bl:List Nat}(hst:(s.gC r k).st= .own x deep tag)
 (hi:G.it (.con r k)=some ⟨x,deep,u,bl⟩):
 RelP F pd (G.satur w r k (s.gC r k).id (s.gC r k).nv ⟨x,deep,u,bl⟩) s a w/\G.le (G.satur w r k (s.gC r k).id (s.gC r k).nv ⟨x,deep,u,bl⟩)/\
  ∀i m t u',ZW w ⟨x,deep,u,bl⟩ i m t u'->(G.satur w r k (s.gC r k).id (s.gC r k).nv ⟨x,deep,u,bl⟩).HN r k (s.gC r k).id (s.gC r k).nv i m=some (t,u'):=by
 obtain⟨u2,bl2,k1,k2,k3,k4⟩:=(h.con r k).own x deep tag hst
 rw[hi]at k1;cases k1
 have hnew:∀i m t u',ZW w ⟨x,deep,u,bl⟩ i m t u'->(G.satur w r k (s.gC r k).id (s.gC r k).nv ⟨x,deep,u,bl⟩).HN r k (s.gC r k).id (s.gC r k).nv i m=some (t,u'):=by
  intro i m t u' hN
  unfold Gh.satur
  simp only[and_self,if_true]
  have hex:∃tu:Ty×Value,ZW w ⟨x,deep,u,bl⟩ i m tu.1 tu.2:=⟨(t,u'),hN⟩
  rw[dif_pos hex]
  have:=ZW.fun hex.choose_spec hN
  congr 1
  exact Prod.ext this.1 this.2
 have hold:∀i m t u',(G.satur w r k (s.gC r k).id (s.gC r k).nv ⟨x,deep,u,bl⟩).HN r k (s.gC r k).id (s.gC r k).nv i m=some (t,u')->ZW w ⟨x,deep,u,bl⟩ i m t u':=by
  intro i m t u' hN
  unfold Gh.satur at hN
  simp only[and_self,if_true]at hN
  split at hN
  ·rename_i hex
   have:=hex.choose_spec
   rw[QY10 hN]at this
   exact this
  ·cases hN
 have hle:G.le (G.satur w r k (s.gC r k).id (s.gC r k).nv ⟨x,deep,u,bl⟩):=⟨fun _ _ _ _ h=>h,fun r' k' j v i m y hy=>by
  by_cases e:r'=r/\k'=k/\j=(s.gC r k).id/\v=(s.gC r k).nv
  ·obtain⟨rfl,rfl,rfl,rfl⟩:=e
   exact hnew i m y.1 y.2 (k3 i m y.1 y.2 hy)
  ·unfold Gh.satur;simp only;rw[if_neg e];exact hy,fun _ _ _ h=>h,fun _ h=>h⟩
 refine⟨?_,hle,hnew⟩
 refine h.upd hle rfl (fun i=>rfl) (fun i=>rfl) (fun r' k'=>r'=r/\k'=k) ?_ ?_ ?_ ?_ (fun _ _=>rfl) (fun κ x hx=>(h.it κ x hx).give (fun b hb=>hb) (fun b hb=>((h.it κ x hx).key b hb).1)) h.lt h.own h.ro (fun _ _ h=>h)
 ·intro r' k' hn
  refine⟨rfl,rfl,fun j=>rfl,fun j v i m=> ?_⟩
  unfold Gh.satur;simp only;rw[if_neg (fun e=>hn ⟨e.1,e.2.1⟩)]
 ·rintro r' k' ⟨rfl,rfl⟩
  refine⟨(h.con r' k').freshH,fun j v i m hj=> ?_,fun x' deep' tag' hc'=> ?_,fun p hc'=> ?_⟩
  ·unfold Gh.satur;simp only;rw[if_neg (by omega)];exact(h.con r' k').freshN j v i m hj
  ·rw[hst]at hc';cases hc'
   exact⟨u,bl,hi,k2,hold,k4⟩
  ·rw[hst]at hc';cases hc'
 ·rintro r' k' u' ⟨rfl,rfl⟩ hk hp hb
  exact hb.mono hle
 ·rintro r' k' ⟨rfl,rfl⟩ hk hx;exact hx
theorem VCs.drop {G:Gh}{w:World}:(n:Nat)->(vs:List VC)->(us:List Value)->VCs G w vs us->VCs G w (vs.drop n) (us.drop n)
 |0,_,_,h=>h
 |n+1,[],us,h=>by rw[show us=[]from h];simp[VCs]
 |n+1,v::vs,us,⟨u,us',e,_,h⟩=>by rw[e];exact VCs.drop n vs us' h
theorem VCs.take {G:Gh}{w:World}:(n:Nat)->(vs:List VC)->(us:List Value)->VCs G w vs us->VCs G w (vs.take n) (us.take n)
 |0,_,_,h=>by simp[VCs]
 |n+1,[],us,h=>by rw[show us=[]from h];simp[VCs]
 |n+1,v::vs,us,⟨u,us',e,hv,h⟩=>by rw[e];exact⟨u,_,rfl,hv,VCs.take n vs us' h⟩
theorem QqJ {G:Gh}{w:World}{p:Pl}{deep:Bool}{i:Int}:(m:Nat)->(l:List TV)->(us:List Value)->us.length=l.length->
 (∀j x u,l[j]? =some x->us[j]? =some u->u.oneCell'=true/\(QN x.t=false->∃bl,Rep w x.t x.v u bl/\QX G bl)/\(QN x.t=true->deep=false->∃bl,Rep w x.t x.v u bl/\QX G bl)/\
   (QN x.t=true->deep=true->p.nest=none->p.rng=none->G.PH {p with nest:=some (i,m+j)}=some (x.t,u)))->VCs G w (Qnv p deep i m l) us
 |m,[],us,hl,_=>by
  have:us=[]:=QRx hl
  rw[this];rfl
 |m,x::l,[],hl,_=>by simp at hl
 |m,x::l,u::us,hl,h=>by
  obtain⟨h0,h1,h2,h3⟩:=h 0 x u rfl rfl
  refine⟨u,us,rfl, ?_,QqJ (m+1) l us (by simpa using hl) (fun j y v hy hv=>by
   have:=h (j+1) y v (by simpa using hy) (by simpa using hv)
   rwa[show m+(j+1)=m+1+j by omega]at this)⟩
  cases hs:QN x.t with
  |false=>simp only[hs,QRw,if_false];exact h1 hs
  |true=>
   simp only[if_true]
   cases deep with
   |false=>simp only[QRw,if_false];exact h2 hs rfl
   |true=>
    simp only[if_true]
    cases hn:p.nest with
    |some _=>exact h0
    |none=>
     cases hr:p.rng with
     |some _=>exact h0
     |none=>
      refine⟨x.t, ?_,h0⟩
      have:=h3 hs rfl hn hr
      rw[QY3,hr]at this
      exact this
theorem Qtg {G:Gh}{w:World}:(l:List TV)->(us:List Value)->us.length=l.length->(∀(j:Nat) (x:TV) (u:Value),l[j]? =some x->us[j]? =some u->∃bl,Rep w x.t x.v u bl/\QX G bl)->VCs G w (QxP l) us
 | [],us,hl,_=>by
   have:us=[]:=QRx hl
   rw[this];rfl
 |x::l,[],hl,_=>by simp at hl
 |x::l,u::us,hl,h=>by
  refine⟨u,us,rfl, ?_,Qtg l us (by simpa using hl) (fun j y v hy hv=>h (j+1) y v (by simpa using hy) (by simpa using hv))⟩
  have:=h 0 x u rfl rfl
  show VCR G w (if QN x.t=true then VC.ro x else VC.sc x) u
  split
  ·exact this
  ·exact this
end
section
variable {P:Program}
theorem QsK {w:World}{T:TypeId}{i:TI}(hT:TyOk P T i) {a:Addr}{us:List Value}(hl:us.length=i.ts.len) (hc:∀j u,us[j]? =some u->w.cell? (a.add j)=some u):
 (loadVar T a).run P w= .ok (if i.agg then .agg us.toArray else us.getD 0 undef) w:=by
 obtain⟨d,hd,hag⟩:=hT.und
 obtain⟨ti,z,hi,hsz,_⟩:=hT.info
 have hlc:=run_loadCells_list (P:=P) w a us hc
 rw[hl]at hlc
 cases hA:i.agg with
 |true=>
  rw[hA]at hag
  have:(isAgg T).run P w= .ok true w:=by
   unfold isAgg
   simp only[Sem.run_bind,run_underlying hd,Result.andThen_ok]
   split<;>simp_all
  simp[loadVar,this,sizeOf,typeInfo,hi,hsz,hlc]
 |false=>
  rw[hA]at hag
  have hagf:(isAgg T).run P w= .ok false w:=by
   unfold isAgg
   simp only[Sem.run_bind,run_underlying hd,Result.andThen_ok]
   split<;>simp_all
  have h1:=hT.one hA
  rw[h1]at hl
  obtain⟨u,rfl⟩:∃u,us=[u]:=by
   cases us with
   |nil=>simp at hl
   |cons u l=>cases l with|nil=>exact⟨u,rfl⟩|cons=>simp at hl
  have:=hc 0 u rfl
  rw[add_zero]at this
  simp[loadVar,this,hagf]
end
theorem QIv {G:Gh}{w:World}{ag:Bool}{vs:List VC}{us:List Value}(h:VCs G w vs us) (h1:ag=false->us.length=1) (h2:∀u∈us,u.oneCell'=true):QK G w (.val ag vs) (if ag then .agg us.toArray else us.getD 0 undef):=by
 cases ag with
 |true=>exact⟨us.toArray,rfl,by simpa using h⟩
 |false=>
  have:=h1 rfl
  obtain⟨u,rfl⟩:∃u,us=[u]:=by
   cases us with
   |nil=>simp at this
   |cons u l=>cases l with|nil=>exact⟨u,rfl⟩|cons=>simp at this
  exact⟨h2 u (by simp),h⟩
theorem XF.ones {w:World}{ts:Tys}{x:Qm ts}{us:List Value}{bl:List Nat}(h:XF w ts x us bl) {j:Nat}{u:Value}(hj:us[j]? =some u):u.oneCell'=true:=(XF.len ts x us bl h).2 u (QY22 hj)
theorem zD {w:World}{x:TV}{u:Value}{bl:List Nat}(h:Rep w x.t x.v u bl) (hs:QN x.t=false):Rep w x.t x.v u []:=by
 obtain⟨t,v⟩:=x
 cases t with
 |sl ts=>cases hs
 |int k=>exact⟨h.1,rfl⟩
 |bool=>exact⟨h.1,rfl⟩
 |str=>exact⟨h.1,rfl⟩
section
variable {P:Program}{E:Env}{D:Xz E}{nk:Fx}{F:Fix}{G:Gh}{s:St}{a:Act}{w:World}{o:Oper}
theorem Qv2 {γ:Type}{i:TI}{l:List VC}{Φ:Cell->St->Prop}(h:l.length=i.ts.len->Φ (.val i.agg l) s):Sat (Qo2 i l:M γ Cell) s Φ:=by
 unfold Qo2
 split
 ·rename_i hb;exact Sat.pure (h (by simpa using hb))
 ·exact Sat.fail
theorem QT.QK6 {w:World}{R:Nat->Prop}:(ts:Tys)->(x:Qm ts)->(us:List Value)->QT w R false ts x us []->(m:Nat)->(y:TV)->(unpack ts x)[m]? =some y->∃u b,us[m]? =some u/\Rep w y.t y.v u b/\∀c∈b,R c
 | .nil,_,_,_,m,y,hy=>by simp[unpack]at hy
 | .cons t ts,x,us,h,m,y,hy=>by
   obtain⟨u,us',b1,b2,rfl,hb,⟨h1,b',hr,hR⟩,h2⟩:=h
   have hb2:b2=[]:=by have:=hb;simp at this;exact this.2
   subst hb2
   cases m with
   |zero=>simp[unpack]at hy;subst hy;exact⟨u,b',rfl,hr,hR⟩
   |succ m=>
    simp[unpack]at hy
    obtain⟨v,b,hv,hr',hm⟩:=QT.QK6 ts _ us' h2 m y hy
    exact⟨v,b,by simpa using hv,hr',hm⟩
theorem QuZ {γ:Type}{T:TypeId}{i:TI}(hT:TyOk P T i) (h:Rel F G s a w) {c:Cell}{v:Value}(hc:QK G w c v):
 Sat (loadAt i c:M γ Cell) s fun c' s'=>s'=s/\∃G' u,G.le G'/\Rel F G' s a w/\(Instr.loadAt T v).run P w= .ok u w/\QK G' w c' u:=by
 have fin:∀(G':Gh) (vs:List VC) (us:List Value) (ad:Addr),G.le G'->Rel F G' s a w->v= .pointer (some ad)->VCs G' w vs us->us.length=i.ts.len->(∀j u,us[j]? =some u->w.cell? (ad.add j)=some u)->(∀u∈us,u.oneCell'=true)->
  ∃G' u,G.le G'/\Rel F G' s a w/\(Instr.loadAt T v).run P w= .ok u w/\QK G' w (.val i.agg vs) u:=by
  intro G' vs us ad hle hr hv hvs hl hcl hon
  refine⟨G',_,hle,hr, ?_,QIv hvs (fun hag=>by rw[hl];exact hT.one hag) hon⟩
  rw[hv]
  simp only[Instr.loadAt,Instr.sureAddr,Sem.run_bind,Sem.run_pure,Result.andThen_ok]
  exact QsK hT hl hcl
 cases c with
 |ptr r off g=>
  obtain⟨b,hgb,hv⟩:=hc
  unfold loadAt
  refine Sat.bind (Sat.mB (Φ:=fun g s'=>s'=s/\g=s.gB r) ⟨rfl,rfl⟩) ?_
  rintro g' s' ⟨rfl,rfl⟩
  split
  ·rename_i hcond
   simp only[QQ5,beq_iff_eq,Nat.ble_eq]at hcond
   obtain⟨hg,hle⟩:=hcond
   subst hg
   by_cases h0:i.ts.len=0
   ·rw[h0]
    refine Sat.bind (Sat.pure (Φ:=fun vs s2=>s2=s'/\vs=[]) ⟨rfl,rfl⟩) ?_
    rintro vs s2 ⟨rfl,rfl⟩
    exact Sat.pure ⟨rfl,fin G [] [] ⟨b,off,none⟩ (Gh.le.refl G) h hv rfl (by rw[h0];rfl) (fun j u hj=>by simp at hj) (by simp)⟩
   ·obtain⟨b',cur,e,h1,h2,h3,h4,h5⟩:=(h.box r).live (by omega)
    rw[hgb]at h1;cases h1
    refine Sat.bind (Qf6 h hgb h3 i.ts.len off hle) ?_
    rintro vs s2 (⟨rfl,hvs,hsz⟩|⟨e0,_,_⟩)
    ·refine Sat.pure ⟨rfl,fin G vs _ ⟨b,off,none⟩ (Gh.le.refl G) h hv hvs (by rw[QY26,QY7,Array.length_toList];omega) (fun j u hj=> ?_) (fun u hu=> ?_)⟩
     rotate_left
     ·have hu:=List.mem_of_mem_drop (List.mem_of_mem_take hu)
      obtain⟨k,hk⟩:=List.mem_iff_getElem?.1 hu
      have hk2:cur[k]? =some u:=by simpa using hk
      obtain⟨u',g1,g2,_⟩:=h5 k (Array.getElem?_eq_some_iff.1 hk2).1
      rw[hk2]at g1;cases g1;exact g2
     rw[add_plain]
     simp only[World.cell?,h3]
     rw[List.getElem?_take]at hj
     split at hj
     ·rw[List.getElem?_drop]at hj;simpa using hj
     ·cases hj
    ·exact(h0 e0).elim
  ·exact Sat.fail
 |eptr p ix off=>
  obtain⟨ts,ad,n,cc,hp,hi0,hin,hv⟩:=hc
  unfold loadAt
  refine Sat.bind (QLk h hp) ?_
  rintro⟨x,deep⟩ s' ⟨rfl,hxt,⟨bx,hrep⟩,hro⟩
  refine Sat.bind (jS 8 p s' h.con _ hp) ?_
  rintro⟨q,c⟩ s2 ⟨rfl,e2,e3,e4,_,e5⟩
  simp only at e2 e3 e4 e5 hxt hrep hro
  dsimp only
  split
  ·rename_i shx ts' xs d tag hsh
   simp only at hxt
   cases hxt
   split
   ·rename_i hdd
    have hdd:d=deep:=by simpa using hdd
    subst hdd
    have hst:∃xc,(s2.gC q.r q.k).st= .own xc d tag:=by
     rw[e2]at hsh
     have hsh:(s2.gC q.r q.k).sh= .own d tag:=hsh
     exact⟨(s2.gC q.r q.k).v,by unfold Con.st;rw[hsh]⟩
    obtain⟨xc,hst⟩:=hst
    obtain⟨u,bl,k1,k2,k3,k4⟩:=(h.con q.r q.k).own xc d tag hst
    obtain⟨r1,r2,r3⟩:=h.satur hst k1
    have hrep':Rep w (.sl ts) xs (.slice (some ad) n cc) bx:=hrep
    obtain⟨ad',cap',eu,⟨_,_⟩,hel⟩:=id hrep'
    cases eu
    have hil:ix.toNat<(vl (ts:=ts) xs).length:=by omega
    have hx0:=Qea (vl xs) ix hil
    rcases hel with⟨hnil,_⟩|⟨ad2,bls,ea,hb,hbl,hcs⟩
    ·rw[hnil]at hil;simp at hil
    cases ea
    obtain⟨us,c1,c2⟩:=hcs ix.toNat _ (bls[ix.toNat]'(by omega)) hx0 (QRp _)
    have hul:=(XF.len _ _ _ _ c2).1
    have hcell:∀j v,us[j]? =some v->w.cell? (ad.add (ix.toNat*ts.len+j))=some v:=c1
    have hvs:VCs (G.satur w q.r q.k (s2.gC q.r q.k).id (s2.gC q.r q.k).nv ⟨xc,d,u,bl⟩) w (Qnv {q with nv:=c.nv} d ix 0 (unpack ts (rdx ts xs ix))) us:=by
     refine QqJ 0 _ us (by rw[hul,vo]) (fun j y uj hy huj=> ?_)
     obtain⟨u',b',g1,g2,g3⟩:=XF.at_ _ _ _ _ c2 j y hy
     rw[huj]at g1;cases g1
     refine⟨XF.ones c2 huj,fun hs=>⟨[],zD g2 hs,by simp[QX]⟩,fun hs hd=> ?_,fun hs hd hqn hqr=> ?_⟩
     ·have hR:=hro hd
      obtain⟨a2,n2,cc2,us2,f1,f2,f3⟩:=hR.at_ hx0
      cases f1
      obtain⟨u2,b2,m1,m2,m3⟩:=QT.QK6 _ _ _ f3 j y hy
      have:=f2 j u2 m1
      rw[hcell j uj huj]at this
      cases this
      exact⟨b2,m2,fun c hc=>r2.ro c (m3 c hc)⟩
     ·simp only at hqn hqr
      have hb0:G.base q=some (.sl ts, .slice (some ad) (vl (ts:=ts) xs).length cc):=by unfold Gh.PH at e5;rw[hqr]at e5;exact e5
      unfold Gh.base at hb0
      rw[hqn]at hb0
      simp only at hb0
      have hid:(s2.gC q.r q.k).id=q.id:=by rw[<-e3,e2];rfl
      rw[<-hid,k2]at hb0
      obtain⟨xct,xcv⟩:=xc
      simp only[Option.some.injEq,Prod.mk.injEq]at hb0
      obtain⟨z1,z2⟩:=hb0
      subst z1;subst z2
      have hown:Own w (fun b=>G.ow b= .ro) d (.sl ts) xcv (.slice (some ad) (vl (ts:=ts) xs).length cc) bl:=(h.it _ _ k1).own
      obtain⟨g,o',hga,hgl,_⟩:=Qfe hown
      subst hga
      have hN:ZW w ⟨⟨.sl ts,xcv⟩,d, .slice (some ⟨g,o',none⟩) (vl (ts:=ts) xs).length cc,bl⟩ ix (0+j) y.t uj:=by
       refine⟨ts,g,o',_,cc,rfl,rfl,hi0,hin, ?_,hs, ?_⟩
       ·rw[QRo];exact VM _ _ _ _ hy
       ·rw[QRo]
        have:=hcell j uj huj
        rwa[add_plain]at this
      have:=r3 ix (0+j) y.t uj hN
      rw[hid]at this
      have hcn:c.nv=(s2.gC q.r q.k).nv:=by rw[e2];rfl
      rw[<-hcn]at this
      unfold Gh.PH Gh.base
      rw[hqr]
      simp only
      rw[hid,<-hcn]
      exact this
    refine Qv2 fun hlen=>⟨rfl, ?_⟩
    have hw:=VCs.take i.ts.len _ _ (VCs.drop off _ _ hvs)
    refine fin _ _ _ _ r2 r1 hv hw ?_ ?_ (fun u hu=>by
     obtain⟨k,hk⟩:=List.mem_iff_getElem?.1 (List.mem_of_mem_drop (List.mem_of_mem_take hu))
     exact XF.ones c2 hk)
    ·rw[<-VCs.length _ _ hw];exact hlen
    ·intro j u hj
     rw[List.getElem?_take]at hj
     split at hj
     ·rw[List.getElem?_drop]at hj
      have:=hcell (off+j) u hj
      by_cases h0:ix.toNat*ts.len+off=0
      ·rw[h0,add_zero];rwa[<-QY19,h0,QRo]at this
      ·rw[add_add _ _ _ h0,QY19];exact this
     ·cases hj
   ·exact Sat.fail
  ·exact Sat.fail
 |rptr x ix off=>
  obtain⟨ts,xs,ad,n,cc,bl,rfl,hrep,hro,hi0,hin,hv⟩:=hc
  unfold loadAt
  dsimp only
  obtain⟨ad',cap',eu,⟨_,_⟩,hel⟩:=id hrep
  cases eu
  have hil:ix.toNat<(vl (ts:=ts) xs).length:=by omega
  have hx0:=Qea (vl xs) ix hil
  rcases hel with⟨hnil,_⟩|⟨ad2,bls,ea,hb,hbl,hcs⟩
  ·rw[hnil]at hil;simp at hil
  cases ea
  obtain⟨us,c1,c2⟩:=hcs ix.toNat _ (bls[ix.toNat]'(by omega)) hx0 (QRp _)
  have hul:=(XF.len _ _ _ _ c2).1
  have hvs:VCs G w (QxP (unpack ts (rdx ts xs ix))) us:=by
   refine Qtg _ us (by rw[hul,vo]) (fun j y uj hy huj=> ?_)
   obtain⟨u',b',g1,g2,g3⟩:=XF.at_ _ _ _ _ c2 j y hy
   rw[huj]at g1;cases g1
   exact⟨b',g2,fun c hc=>hro c (by rw[hb];exact List.mem_cons_of_mem _ (QY9.2 ⟨_,QRf _,g3 c hc⟩))⟩
  refine Qv2 fun hlen=>⟨rfl, ?_⟩
  have hw:=VCs.take i.ts.len _ _ (VCs.drop off _ _ hvs)
  refine fin G _ _ _ (Gh.le.refl G) h hv hw ?_ ?_ (fun u hu=>by
   obtain⟨k,hk⟩:=List.mem_iff_getElem?.1 (List.mem_of_mem_drop (List.mem_of_mem_take hu))
   exact XF.ones c2 hk)
  ·rw[<-VCs.length _ _ hw];exact hlen
  ·intro j u hj
   rw[List.getElem?_take]at hj
   split at hj
   ·rw[List.getElem?_drop]at hj
    have:=c1 (off+j) u hj
    by_cases h0:ix.toNat*ts.len+off=0
    ·rw[h0,add_zero];rwa[<-QY19,h0,QRo]at this
    ·rw[add_add _ _ _ h0,QY19];exact this
   ·cases hj
 |_=>exact Sat.fail
theorem QLw (he:XZ P E) {T:TypeId}{x:Operand}(ho:o.op= .load T x) (h:Rel F G s a w):Sat (execOp E D nk o:M Unit Unit) s (fun(_:Unit) (s':St)=>QI P F o a w s'):=by
 simp only[execOp,ho,XQ,QQ3,QY13,QRw,if_false]
 refine Sat.bind (Km he) ?_
 rintro i s' ⟨rfl,rfl,hT⟩
 refine Sat.bind (XM h x) ?_
 rintro c s' ⟨rfl,hc⟩
 refine Sat.bind (QuZ hT h hc) ?_
 rintro d s' ⟨rfl,G',u,hle,hr,hrun,hd⟩
 exact(Zi hr hd).mono fun _ s' hr=>QI.value (v:=u) (w':=w) (by simp[Go.execOp,ho,hrun]) hr
end
theorem add_add' (a:Addr) (i j:Nat):(a.add i).add j=a.add (i+j):=by
 by_cases h:i=0
 ·subst h;rw[add_zero,QRo]
 ·exact add_add a i j h
theorem QCR {α β:Type}{f:α->Option β}:(l:List α)->(m:List β)->l.mapM f=some m->∀(i:Nat) (y:β),m[i]? =some y->∃x,l[i]? =some x/\f x=some y
 | [],m,h,i,y,hy=>by simp at h;subst h;simp at hy
 |x::l,m,h,i,y,hy=>by
  simp only[List.mapM_cons,Option.bind_eq_bind,Option.pure_def]at h
  cases hx:f x with
  |none=>simp[hx]at h
  |some b=>
   cases hl:l.mapM f with
   |none=>simp[hx,hl]at h
   |some bs=>
    simp[hx,hl]at h
    subst h
    cases i with
    |zero=>simp at hy;subst hy;exact⟨x,rfl,hx⟩
    |succ i=>
     obtain⟨x',h1,h2⟩:=QCR l bs hl i y (by simpa using hy)
     exact⟨x',by simpa using h1,h2⟩
section
variable {P:Program}{E:Env}{D:Xz E}{nk:Fx}{F:Fix}{G:Gh}{s:St}{a:Act}{w:World}{o:Oper}
theorem QAp {off:Nat}{c r:Cell}{v:Value}(hf:Qqs off c=some r) (hc:QK G w c v):∃ad,v= .pointer (some ad)/\QK G w r (.pointer (some (ad.add off))):=by
 cases c with
 |ptr rr oo g=>
  obtain⟨b,h1,h2⟩:=hc
  cases hf
  exact⟨⟨b,oo,none⟩,h2,b,h1,by rw[add_plain];rfl⟩
 |eptr p i oo=>
  obtain⟨ts,ad,n,c,h1,h2,h3,h4⟩:=hc
  cases hf
  exact⟨_,h4,ts,ad,n,c,h1,h2,h3,by rw[add_add',QY19]⟩
 |rptr x i oo=>
  obtain⟨ts,xs,ad,n,c,bl,h0,h1,h2,h3,h4,h5⟩:=hc
  cases hf
  exact⟨_,h5,ts,xs,ad,n,c,bl,h0,h1,h2,h3,h4,by rw[add_add',QY19]⟩
 |_=>simp[Qqs]at hf
theorem QCi (he:XZ P E) {T:TypeId}{x:Operand}{f:Nat}(ho:o.op= .fieldAddr T x f) (h:Rel F G s a w):Sat (execOp E D nk o:M Unit Unit) s (fun(_:Unit) (s':St)=>QI P F o a w s'):=by
 simp only[execOp,ho,XQ,QQ3,QY13,QRw,if_false]
 refine Sat.bind (XM h x) ?_
 rintro c s' ⟨rfl,hc⟩
 refine Sat.bind (Km he) ?_
 rintro i s' ⟨rfl,rfl,hT⟩
 refine Sat.bind (Sat.ofO (Φ:=fun off s2=>s2=s'/\(E.ty T).fo[f]? =some off) (fun off e=>⟨rfl,e⟩)) ?_
 rintro off s2 ⟨rfl,hoff⟩
 split
 ·rename_i hcond
  simp only[QQ5,Nat.blt_eq]at hcond
  refine Sat.bind (Sat.ofO (Φ:=fun r s3=>s3=s2/\Qqs off c=some r) (fun r e=>⟨rfl,e⟩)) ?_
  rintro r s3 ⟨rfl,hr⟩
  obtain⟨ad,hv,hcr⟩:=QAp hr hc
  obtain⟨fs,places,g1,g2,g3⟩:=hT.fo hcond.1
  have hp:=(g3 f off hoff).1
  obtain⟨fd,k1,k2⟩:=QCR _ _ g2 f _ hp
  cases hi:P.info? fd.type with
  |none=>simp[hi]at k2
  |some fi=>
   simp[hi]at k2
   have k1:fs[f]? =some fd:=by simpa using k1
   refine(Zi h hcr).mono fun _ s' hr=>QI.value (v:= .pointer (some (ad.add off))) (w':=w) ?_ hr
   have hsz:fi.size≠0:=by omega
   simp[Go.execOp,ho,hv,Instr.fieldAt,run_underlying g1,k1,Instr.sureAddr,fieldPlace,sizeOf,typeInfo,hi,hsz,k2.1]
 ·exact Sat.fail
theorem QIN {ts:Tys}{xs:List (Qm ts)}{n c:Nat}{ad:Option Addr}{bl:List Nat}(h:Rep w (.sl ts) xs (.slice ad n c) bl) (hn:0<n):∃a,ad=some a:=by
 obtain⟨ad',cap,e,⟨h1,h2⟩,_⟩:=h
 cases e
 cases ad with
 |none=>have:=h2 rfl;omega
 |some a=>exact⟨a,rfl⟩
theorem QCc (he:XZ P E) {T:TypeId}{x ix:Operand}(ho:o.op= .indexAddr T x ix) (h:Rel F G s a w):Sat (execOp E D nk o:M Unit Unit) s (fun(_:Unit) (s':St)=>QI P F o a w s'):=by
 simp only[execOp,ho,XQ,QQ3,QY13,QRw,if_false]
 refine Sat.bind (XM h x) ?_
 rintro c s' ⟨rfl,hc⟩
 refine Sat.bind (Sat.ofO (Φ:=fun v s2=>s2=s'/\vc1 c=some v) (fun v e=>⟨rfl,e⟩)) ?_
 rintro v s2 ⟨rfl,hv⟩
 have hvr:=QpC hv hc
 refine Sat.bind (XM h ix) ?_
 rintro ci s3 ⟨rfl,hci⟩
 refine Sat.bind (Sat.ofO (Φ:=fun i s2=>s2=s3/\yj ci=some i) (fun v e=>⟨rfl,e⟩)) ?_
 rintro i s4 ⟨rfl,hi⟩
 obtain⟨k,hiv⟩:=QcX hi hci
 refine Sat.bind (j9 he) ?_
 rintro TE s5 ⟨rfl,e,hund,hTE⟩
 refine Sat.bind (Qrd h hvr (ts:=TE.ts)) ?_
 rintro n s6 ⟨rfl,xs,bl,ad,cc,hrep,hlen,hu,hnc,hnone,hro,hvw⟩
 refine Sat.bind (Sat.chk (Φ:=fun _ s'=>s'=s6/\0<=i/\i<(n:Int)) (fun e=>⟨rfl,by simpa[inb]using e⟩)) ?_
 rintro _ s7 ⟨rfl,hi0,hin⟩
 rw[hu]at hrep
 obtain⟨adr,rfl⟩:=QIN hrep (by omega)
 obtain⟨ti,z,g1,g2,_⟩:=hTE.info
 have hrun:(Go.execOp a.eval o).run P w= .ok (.value (.pointer (some (adr.add (i.toNat*TE.ts.len))))) w:=by
  simp[Go.execOp,ho,hu,hiv,Instr.indexAt,asIntOf,run_underlying hund,hi0,hin,sizeOf,typeInfo,g1,g2]
 cases v with
 |ro y=>
  obtain⟨rfl,hroy⟩:=hro y rfl
  have hcr:QK G w (.rptr ⟨.sl TE.ts,xs⟩ i 0) (.pointer (some (adr.add (i.toNat*TE.ts.len)))):=⟨TE.ts,xs,adr,n,cc,bl,rfl,hrep,hroy,hi0,hin,rfl⟩
  exact(Zi h hcr).mono fun _ s' hr=>QI.value hrun hr
 |vw p=>
  have hp:=hvw p rfl
  rw[hu]at hp
  have hcr:QK G w (.eptr p i 0) (.pointer (some (adr.add (i.toNat*TE.ts.len)))):=⟨TE.ts,adr,n,cc,hp,hi0,hin,rfl⟩
  exact(Zi h hcr).mono fun _ s' hr=>QI.value hrun hr
 |_=>exact Sat.fail
theorem QJM (he:XZ P E) {T:TypeId}{x ix:Operand}(ho:o.op= .index T x ix) (h:Rel F G s a w):Sat (execOp E D nk o:M Unit Unit) s (fun(_:Unit) (s':St)=>QI P F o a w s'):=by
 simp only[execOp,ho,XQ,QQ3,QY13,QRw,if_false]
 refine Sat.bind (Km he) ?_
 rintro TT s' ⟨rfl,rfl,hT⟩
 split
 ·rename_i hstr
  refine Sat.bind (XM h x) ?_
  rintro c s2 ⟨rfl,hc⟩
  refine Sat.bind (Sat.ofO (Φ:=fun v s3=>s3=s2/\QwH c=some v) (fun v e=>⟨rfl,e⟩)) ?_
  rintro b s3 ⟨rfl,hb⟩
  have hbv:=QGo hb hc
  refine Sat.bind (XM h ix) ?_
  rintro ci s4 ⟨rfl,hci⟩
  refine Sat.bind (Sat.ofO (Φ:=fun i s2=>s2=s4/\yj ci=some i) (fun v e=>⟨rfl,e⟩)) ?_
  rintro i s5 ⟨rfl,hi⟩
  obtain⟨k,hiv⟩:=QcX hi hci
  refine Sat.bind (Sat.chk (Φ:=fun _ s'=>s'=s5/\0<=i/\i<(b.size:Int)) (fun e=>⟨rfl,by simpa[inb]using e⟩)) ?_
  rintro _ s6 ⟨rfl,hi0,hin⟩
  have hlt:i.toNat<b.size:=by omega
  have hget:(ofBytes b).getD i.toNat 0=(b[i.toNat].toNat:Int):=by
   unfold ofBytes
   have:i.toNat<b.data.toList.length:=by simpa using hlt
   rw[List.getD_eq_getElem?_getD,List.getElem?_map,QRp this]
   simp
   rfl
  rw[hget]
  refine(Zi h ZJ).mono fun _ s' hr=>QI.value (v:= .int .u8 (b[i.toNat].toNat:Int)) (w':=w) ?_ hr
  have hb? :b[i.toNat]? =some b[i.toNat]:=by simp[hlt]
  simp[Go.execOp,ho,hbv,hiv,Instr.index,asIntOf,run_underlying (hT.str hstr),hi0,hlt]
 ·exact Sat.fail
theorem QLA {c x y:Operand}(ho:o.op= .pick c x y) (h:Rel F G s a w):Sat (execOp E D nk o:M Unit Unit) s (fun(_:Unit) (s':St)=>QI P F o a w s'):=by
 simp only[execOp,ho,XQ,QQ4,QRn]
 split
 ·exact Sat.fail
 ·rename_i hd
  have hd:o.dst.isSome=true:=by cases hh:o.dst with|none=>rw[hh]at hd;exact(hd rfl).elim|some _=>rfl
  cases c with
  |tmp t=>
   dsimp only
   intro k out e
   simp only[RP.run]at e
   cases hb:Xt (s.gT t)with
   |none=>rw[hb]at e;cases e
   |some b=>
    rw[hb]at e
    have hcell:=h.tm t
    rw[QqY hb]at hcell
    have hbv:=QgE (n:=b) hcell
    have go:∀z:Operand,(if b then x else y)=z->Sat ((opd z:M Unit Cell)>>=fun c=>wT (o.dst.getD 0) c) s (fun(_:Unit) (s':St)=>QI P F o a w s'):=by
     intro z hz
     refine Sat.bind (XM h z) ?_
     rintro c s' ⟨rfl,hc⟩
     refine(Zk h hd hc).mono fun _ s' hr=>QI.value (v:=a.eval z) (w':=w) ?_ hr
     have:a.eval (.tmp t)= .bool b:=hbv
     simp only[Go.execOp,ho,Sem.run_bind,this,asBool,Sem.run_pure,Result.andThen_ok]
     cases b<;>simp at hz<;>simp[hz]
    cases b with
    |true=>exact go x rfl k out e
    |false=>exact go y rfl k out e
  |_=>exact Sat.fail
theorem jD {F:Fix}{pd:Nat->Nat->Prop}{G:Gh}{a:Act}{w:World}:(l:List Operand)->(s:St)->RelP F pd G s a w->Sat (qU l:M Unit (List Cell)) s fun cs s'=>s'=s/\cs.length=l.length/\∀(i:Nat) (c:Cell),cs[i]? =some c->∃x,l[i]? =some x/\QK G w c (a.eval x)
 | [],s,_=>Sat.pure ⟨rfl,rfl,fun i c hi=>by simp at hi⟩
 |x::l,s,h=>by
  unfold qU
  refine Sat.bind (XM h x) ?_
  rintro c s' ⟨rfl,hc⟩
  refine Sat.bind (jD l _ h) ?_
  rintro cs s2 ⟨rfl,hl,hcs⟩
  refine Sat.pure ⟨rfl,by simp[hl],fun i c' hi=> ?_⟩
  cases i with
  |zero=>simp at hi;subst hi;exact⟨x,rfl,hc⟩
  |succ i=>
   obtain⟨x',h1,h2⟩:=hcs i c' (by simpa using hi)
   exact⟨x',by simpa using h1,h2⟩
theorem QzI:(cs:List Cell)->(l:List (Nat×Nat×Nat))->(vs:List Value)->ptrs? cs=some l->vs.length=cs.length->(∀(i:Nat) (c:Cell),cs[i]? =some c->∃v,vs[i]? =some v/\QK G w c v)->ve G l vs
 | [],l,vs,h,hl,_=>by
   simp[ptrs?]at h;subst h
   exact QRx hl
 |c::cs,l,[],h,hl,_=>by simp at hl
 |c::cs,l,v::vs,h,hl,hv=>by
  cases c with
  |ptr r o g=>
   simp only[ptrs?]at h
   cases hp:ptrs? cs with
   |none=>rw[hp]at h;cases h
   |some m=>
    rw[hp]at h;cases h
    obtain⟨v',e,b,h1,h2⟩:=hv 0 _ rfl
    simp at e;subst e
    exact⟨b,vs,h1,by rw[h2],QzI cs m vs hp (by simpa using hl) (fun i c hi=>by
     obtain⟨x,h1,h2⟩:=hv (i+1) c (by simpa using hi)
     exact⟨x,by simpa using h1,h2⟩)⟩
  |_=>simp[ptrs?]at h
theorem QEe {g:FuncId}{first caps:Array Operand}(ho:o.op= .makeFunc (.func g) first caps) (h:Rel F G s a w):Sat (execOp E D nk o:M Unit Unit) s (fun(_:Unit) (s':St)=>QI P F o a w s'):=by
 simp only[execOp,ho,XQ,QQ4,QRn]
 split
 ·exact Sat.fail
 ·rename_i hd
  have hd:o.dst.isSome=true:=by cases hh:o.dst with|none=>rw[hh]at hd;exact(hd rfl).elim|some _=>rfl
  split
  ·rename_i hf
   have hf:first= #[]:=by
    have:first.size=0:=by simpa using hf
    exact Array.eq_empty_of_size_eq_zero this
   refine Sat.bind (jD caps.toList _ h) ?_
   rintro cs s' ⟨rfl,hl,hcs⟩
   refine Sat.bind (Sat.ofO (Φ:=fun l s2=>s2=s'/\ptrs? cs=some l) (fun l e=>⟨rfl,e⟩)) ?_
   rintro l s2 ⟨rfl,hp⟩
   have hcr:QK G w (.fn g l) (.func (.func g) #[] (caps.map a.eval)):=by
    refine⟨caps.map a.eval,rfl, ?_⟩
    rw[Array.toList_map]
    refine QzI (w:=w) cs l _ hp (by simpa using hl.symm) (fun i c hi=> ?_)
    obtain⟨x,h1,h2⟩:=hcs i c hi
    exact⟨a.eval x,by simp[h1],h2⟩
   refine(Zk h hd hcr).mono fun _ s' hr=>QI.value (v:= .func (.func g) #[] (caps.map a.eval)) (w':=w) ?_ hr
   simp[Go.execOp,ho,Instr.makeFunc,hf]
  ·exact Sat.fail
end
def Gh.Yv (G:Gh) (d g b:Nat):Gh:= {G with GB:=fun r j=>if r=d/\j=g then some b else G.GB r j,ow:=fun k=>if k=b then .key (.box d)else G.ow k}
theorem RelP.alloc {F:Fix}{G:Gh}{s:St}{a:Act}{w:World}(h:Rel F G s a w) {d:Nat}(hd:∀b n,¬F.pb d b n) (arr:Array Value) (e:TypeId) (h1:∀u∈arr.toList,u.oneCell'=true):
 RelP F (fun r _=>r=d) (G.Yv d ((s.gB d).1+1) w.heap.size) (s.sB d ((s.gB d).1+1,arr.size)) a (w.alloc (.cells arr e))/\G.le (G.Yv d ((s.gB d).1+1) w.heap.size):=by
 have hold:∀b,b<w.heap.size->Q5 w (w.alloc (.cells arr e)) b:=fun b hb=>heap_alloc_old w _ b hb
 have h':RelP F (fun _ _=>False) G s a (w.alloc (.cells arr e)):=h.frame (fun b hb=>hold b (h.lt b hb)) (Grow.alloc _ w _)
 have hnew:(w.alloc (.cells arr e)).heap[w.heap.size]? =some (.cells arr e (0,0)):=heap_alloc_new w _
 have hfree:G.ow w.heap.size= .free:=QY34 fun hn=>Nat.lt_irrefl _ (h.lt _ hn)
 have hle:G.le (G.Yv d ((s.gB d).1+1) w.heap.size):=⟨fun _ _ _ _ h=>h,fun _ _ _ _ _ _ _ h=>h,fun r j b hb=>by
  show(if r=d/\j=(s.gB d).1+1 then some w.heap.size else G.GB r j)=some b
  rw[if_neg]
  ·exact hb
  ·rintro⟨rfl,rfl⟩
   (rw [(h.box r).fresh _ (QY33 _)]at hb;cases hb),fun b hb=>by
  show(if b=w.heap.size then Ow.key (.box d)else G.ow b)= .ro
  rw[if_neg]
  ·exact hb
  ·rintro rfl;rw[hfree]at hb;cases hb⟩
 have how:∀b,b≠w.heap.size->(G.Yv d ((s.gB d).1+1) w.heap.size).ow b=G.ow b:=fun b hb=>if_neg hb
 have hGB:∀r j,¬(r=d/\j=(s.gB d).1+1)->(G.Yv d ((s.gB d).1+1) w.heap.size).GB r j=G.GB r j:=fun r j hn=>if_neg hn
 refine⟨?_,hle⟩
 constructor
 ·exact h'.size
 ·exact h'.defers
 ·intro i;exact QK.mono hle (fun b hb=>rfl) (h'.tm i)
 ·intro r k;exact(h'.con r k).mono hle rfl (fun _=>rfl) (fun _ _ _ _=>rfl)
 ·intro r
  refine⟨fun j hj=> ?_,fun hl=> ?_⟩
  ·rw[Vg]at hj
   split at hj
   ·rename_i e2;subst e2
    simp only at hj
    rw[hGB _ _ (by omega)]
    exact(h.box d).fresh _ (by omega)
   ·rename_i hne
    rw[hGB _ _ (fun e=>hne e.1.symm)]
    exact(h.box r).fresh _ hj
  ·rw[Vg]at hl⊢
   split
   ·rename_i e2;subst e2
    refine⟨w.heap.size,arr,e,if_pos ⟨rfl,rfl⟩,if_pos rfl,hnew,rfl,fun k hk=> ?_⟩
    refine⟨arr[k],by simp[hk],h1 _ (by simp),fun hn=>(hn rfl).elim,fun hlk=> ?_⟩
    obtain⟨r2,n2,g1,_⟩:=h.lockow _ _ hlk
    have:=(h.pbox _ _ _ g1).2.2
    rw[hfree]at this;cases this
   ·rename_i hne
    rw[if_neg hne]at hl
    obtain⟨b,cur,e',k1,k2,k3,k4,k5⟩:=(h'.box r).live hl
    have hb:b≠w.heap.size:=fun e=>by rw[e,hfree]at k2;cases k2
    refine⟨b,cur,e',by rw[hGB _ _ (fun e=>hne e.1.symm)];exact k1,by rw[how b hb];exact k2,k3,k4,fun k hk=> ?_⟩
    obtain⟨u,m1,m2,m3,m4⟩:=k5 k hk
    exact⟨u,m1,m2,fun _=>(m3 id).mono hle,m4⟩
 ·intro κ x hx
  have hi:=h'.it κ x hx
  refine hi.give (fun b hb=>hle.ro b hb) (fun b hb=> ?_)
  have hk:=(hi.key b hb).1
  rw[how b (fun e=>by rw[e,hfree]at hk;cases hk)]
  exact hk
 ·intro b hb
  by_cases e2:b=w.heap.size
  ·subst e2;simp
  ·rw[how b e2]at hb;exact h'.lt b hb
 ·intro b κ hb hlt
  have e2:b≠w.heap.size:=fun e=>by have:=h.grow.size;omega
  rw[how b e2]at hb;exact h.own b κ hb hlt
 ·intro b hb hlt
  have e2:b≠w.heap.size:=fun e=>by have:=h.grow.size;omega
  rw[how b e2]at hb;exact h.ro b hb hlt
 ·intro b hb;exact hle.ro b (h.roR b hb)
 ·exact h'.grow
 ·intro b k hb _
  exact h'.lock b k hb (fun _ _ _ e=>e)
 ·exact h.lockow
 ·intro r b n hp
  have hne:¬d=r:=fun e=>hd b n (e▸hp)
  obtain⟨g1,g2,g3⟩:=h.pbox r b n hp
  refine⟨by rw[Vg,if_neg hne];exact g1,by rw[hGB _ _ (fun e=>hne e.1.symm)];exact g2, ?_⟩
  rw[how b (fun e=>by rw[e,hfree]at g3;cases g3)];exact g3
theorem Qn9 {G:Gh}{w:World}:(ts:Tys)->VCs G w (QbH ts) (xz ts)
 | .nil=>rfl
 | .cons t ts=>by
   refine⟨zeroV t,xz ts,rfl, ?_,Qn9 ts⟩
   cases t with
   |sl us=>rfl
   |int k=>exact⟨[],⟨rfl,rfl⟩,by simp[QX]⟩
   |bool=>exact⟨[],⟨rfl,rfl⟩,by simp[QX]⟩
   |str=>exact⟨[],⟨rfl,rfl⟩,by simp[QX]⟩
theorem QwV:(ts:Tys)->∀u∈xz ts,u.oneCell'=true
 | .nil=>by simp[xz]
 | .cons t ts=>by
   intro u hu
   rcases QRk.1 hu with rfl|hu
   ·cases t<;>rfl
   ·exact QwV ts u hu
theorem Qei:(ts:Tys)->(xz ts).length=ts.len
 | .nil=>rfl
 | .cons t ts=>by simp[xz,Tys.len,Qei ts]
theorem Qtf:(ts:Tys)->(QbH ts).length=ts.len
 | .nil=>rfl
 | .cons t ts=>by simp[QbH,Tys.len,Qtf ts]
section
variable {P:Program}{E:Env}{D:Xz E}{nk:Fx}{F:Fix}{G:Gh}{s:St}{a:Act}{w:World}{o:Oper}
structure BoxIn (gg:Glob) (F:Fix) (nk:Fx):Prop where
 box:∀r b n,F.pb r b n->nk.QpQ r=true
 gl:gg.gl F.w0
 gb:∀b∈gg.gb,F.R b/\¬F.X b/\b<F.w0.heap.size
theorem Qwx (h:Rel F G s a w) {d:Nat}(hpb:∀b n,¬F.pb d b n) {T:TypeId}{ts:Tys}{vs:List VC}{arr:Array Value}(hv:VCs G w vs arr.toList) (hl:vs.length=ts.len) (h1:∀u∈arr.toList,u.oneCell'=true) (hd:o.dst.isSome=true) (hdd:o.dst.getD 0=d)
 (hrun:(Go.execOp a.eval o).run P w= .ok (.value (.pointer (some ⟨w.heap.size,0,none⟩))) (w.alloc (.cells arr T))):
 Sat (do let g<-mB d;wB d (g.1+1,ts.len);zJ true d 0 ts vs;wT d (.ptr d 0 (g.1+1)):M Unit Unit) s (fun(_:Unit) (s':St)=>QI P F o a w s'):=by
 refine Sat.bind (Sat.mB (Φ:=fun g s'=>s'=s/\g=s.gB d) ⟨rfl,rfl⟩) ?_
 rintro g s' ⟨rfl,rfl⟩
 have hsz:arr.size=ts.len:=by rw[<-hl,VCs.length _ _ hv];simp
 refine Sat.bind (Sat.wB (Φ:=fun _ s2=>s2=s'.sB d ((s'.gB d).1+1,ts.len)) rfl) ?_
 rintro _ s2 rfl
 obtain⟨r1,r2⟩:=h.alloc hpb arr T h1
 rw[hsz]at r1
 have hold:∀b,b<w.heap.size->Q5 w (w.alloc (.cells arr T)) b:=fun b hb=>heap_alloc_old w _ b hb
 have hv2:VCs (G.Yv d ((s'.gB d).1+1) w.heap.size) (w.alloc (.cells arr T)) vs arr.toList:=VCs.mono r2 (fun b hb=>hold b (h.lt b (by rw[hb];simp))) _ _ hv
 have hgb:(s'.sB d ((s'.gB d).1+1,ts.len)).gB d=((s'.gB d).1+1,ts.len):=by rw[Vg,if_pos rfl]
 refine Sat.bind (QcZ (r:=d) (b:=w.heap.size) ts 0 vs arr.toList _ _ _ r1 hv2 ?_ (fun _ _ _=>rfl) (fun j u hj=> ?_)) ?_
 ·rw[hgb];exact if_pos ⟨rfl,rfl⟩
 ·rw[QRo];simp only[World.cell?,heap_alloc_new w (.cells arr T)];simpa using hj
 rintro _ s3 ⟨hk,_,G',hle,hr⟩
 have hr':Rel F G' s3 a (w.alloc (.cells arr T)):=hr.pdmono fun r k hlt ⟨e,hn⟩=>by
  subst e
  rw[hk.gB,hgb]at hlt
  exact hn ⟨rfl,Nat.zero_le _,by simpa using hlt⟩
 have hcr:QK G' (w.alloc (.cells arr T)) (.ptr d 0 ((s'.gB d).1+1)) (.pointer (some ⟨w.heap.size,0,none⟩)):=⟨w.heap.size,hle.GB _ _ _ (if_pos ⟨rfl,rfl⟩),rfl⟩
 have:=(Zk (γ:=Unit) hr' hd hcr)
 rw[hdd]at this
 exact this.mono fun _ s' hr=>QI.value hrun hr
theorem Jg {o:Oper}(h:¬o.dst.isNone=true):o.dst.isSome=true:=by cases hh:o.dst with|none=>rw[hh]at h;exact(h rfl).elim|some _=>rfl
theorem QI8 (he:XZ P E) (hnk:BoxIn E.gg F nk) {T:TypeId}(ho:o.op= .alloc T) (h:Rel F G s a w):Sat (execOp E D nk o:M Unit Unit) s (fun(_:Unit) (s':St)=>QI P F o a w s'):=by
 simp only[execOp,ho,XQ,QQ4,QRn]
 split
 ·exact Sat.fail
 rename_i hd
 have hd:=Jg hd
 split
 ·exact Sat.fail
 rename_i hin
 refine Sat.bind (Km he) ?_
 rintro i s' ⟨rfl,rfl,hT⟩
 obtain⟨ti,z,g1,g2,g3,g4,g5⟩:=hT.info
 refine Qwx (T:=T) (arr:=z.cells) h (fun b n hb=>hin (hnk.box _ _ _ hb)) (vs:=QbH (E.ty T).ts) (by rw[g5];exact Qn9 _) (Qtf _) (by rw[g5];exact QwV _) hd rfl ?_
 simp[Go.execOp,ho,Instr.alloc,zeroValue,typeInfo,g1,g4,newVar,newRow]
theorem QMp (he:XZ P E) (hnk:BoxIn E.gg F nk) {T:TypeId}{x:Operand}(ho:o.op= .box T x) (h:Rel F G s a w):Sat (execOp E D nk o:M Unit Unit) s (fun(_:Unit) (s':St)=>QI P F o a w s'):=by
 simp only[execOp,ho,XQ,QQ4,QRn]
 split
 ·exact Sat.fail
 rename_i hd
 have hd:=Jg hd
 split
 ·exact Sat.fail
 rename_i hin
 refine Sat.bind (XM h x) ?_
 rintro c s' ⟨rfl,hc⟩
 refine Sat.bind (Sat.ofO (Φ:=fun vs s2=>s2=s'/\QfP c=some vs) (fun off e=>⟨rfl,e⟩)) ?_
 rintro vs s2 ⟨rfl,hvs⟩
 refine Sat.bind (Km he) ?_
 rintro i s' ⟨rfl,rfl,hT⟩
 split
 ·rename_i hlen
  have hv:=QjO hvs hc
  refine Qwx (T:=T) (arr:=(a.eval x).cells) h (fun b n hb=>hin (hnk.box _ _ _ hb)) hv (by simpa using hlen) (VCs.ones hv) hd rfl ?_
  simp[Go.execOp,ho,Instr.box,newVar,newRow]
 ·exact Sat.fail
end
theorem Xe.frame' {G:Gh}{w w':World}{r k:Nat}{c:Con}{u:Value}(hro:jB G w w') (h:Xe G w r k c u):Xe G w' r k c u:=by
 unfold Xe at h⊢
 cases hc:c.st with
 |sc x=>rw[hc]at h;exact VCR.mono (Gh.le.refl G) hro _ _ h
 |ro x=>rw[hc]at h;exact VCR.mono (Gh.le.refl G) hro _ _ h
 |fix x=>rw[hc]at h;exact VCR.mono (Gh.le.refl G) hro _ _ h
 |own x d t=>rw[hc]at h;exact h
 |vw p=>rw[hc]at h;exact h
 |part x i m=>trivial
 |dead=>trivial
section
variable {P:Program}{E:Env}{D:Xz E}{nk:Fx}{F:Fix}{G:Gh}{s:St}{a:Act}{w:World}{o:Oper}
theorem RelP.QMx (h:Rel F G s a w) {r b off:Nat}{cur:Array Value}{e:TypeId}{us:List Value}(hb:G.GB r (s.gB r).1=some b) (hl:(s.gB r).2≠0) (hc:w.heap[b]? =some (.cells cur e (0,0))) (hfit:off+us.length<=cur.size) (h1:∀u∈us,u.oneCell'=true):
 RelP F (fun r' k'=>r'=r/\off<=k'/\k'<off+us.length) G s a (w.setRow b (cur.toList.take off++us++cur.toList.drop (off+us.length)).toArray):=by
 obtain⟨b',cur',e',k1,k2,k3,k4,k5⟩:=(h.box r).live hl
 rw[hb]at k1;cases k1
 rw[hc]at k3;cases k3
 have hother:∀k,k≠b->Q5 w (w.setRow b (cur.toList.take off++us++cur.toList.drop (off+us.length)).toArray) k:=fun k hk=>setRow_other w b k _ hk
 have hro:jB G w (w.setRow b (cur.toList.take off++us++cur.toList.drop (off+us.length)).toArray):=fun k hk=>hother k (fun e=>by rw[e,k2]at hk;cases hk)
 have hrow:=setRow_heap w b cur (cur.toList.take off++us++cur.toList.drop (off+us.length)).toArray e (0,0) hc
 have hlen:(cur.toList.take off++us++cur.toList.drop (off+us.length)).length=cur.size:=by rw[QE7 _ _ _ (by simpa using hfit)];simp
 have hget:∀k,(cur.toList.take off++us++cur.toList.drop (off+us.length)).toArray[k]? =if k<off then cur[k]? else if k<off+us.length then us[k - off]? else cur[k]? :=by
  intro k
  rw[List.getElem?_toArray,Qyt _ _ _ (by simpa using hfit)];simp
 have hX:b<F.w0.heap.size->F.X b:=fun hlt=>h.own b _ k2 hlt
 constructor
 ·exact h.size
 ·exact h.defers
 ·intro i;exact QK.mono (Gh.le.refl G) hro (h.tm i)
 ·intro r' k
  refine⟨(h.con r' k).freshH,(h.con r' k).freshN,fun x deep tag hc'=> ?_,(h.con r' k).vw⟩
  obtain⟨u,bl,g1,g2,g3,g4⟩:=(h.con r' k).own x deep tag hc'
  have hi:=h.it _ _ g1
  have hne:∀k'∈bl,k'≠b:=fun k' hk' e=>by have:=(hi.key k' hk').1;rw[e,k2]at this;cases this
  exact⟨u,bl,g1,g2,fun i m t u' hn=>(g3 i m t u' hn).frame (fun k' hk'=>hother k' (hne k' hk')) (fun g off n c e _=>Own.head _ _ _ _ hi.own g off n c e),g4⟩
 ·intro r'
  refine⟨(h.box r').fresh,fun hz=> ?_⟩
  obtain⟨b2,cur2,e2,j1,j2,j3,j4,j5⟩:=(h.box r').live hz
  by_cases hbb:b2=b
  ·subst hbb
   have hrr:r'=r:=by rw[k2]at j2;cases j2;rfl
   subst hrr
   rw[hc]at j3;cases j3
   refine⟨b2,_,e,j1,j2,hrow,by simp only[List.size_toArray];rw[hlen];exact j4,fun k hk=> ?_⟩
   have hk:k<cur.size:=by simp only[List.size_toArray]at hk;rw[hlen]at hk;exact hk
   obtain⟨u,m1,m2,m3,m4⟩:=j5 k hk
   rw[hget]
   by_cases h01:k<off
   ·rw[if_pos h01];exact⟨u,m1,m2,fun _=>(by have:=m3 id;exact Xe.frame' hro this),m4⟩
   ·by_cases h02:k<off+us.length
    ·rw[if_neg h01,if_pos h02]
     exact⟨us[k - off]'(by omega),QRp _,h1 _ (QRf _),fun hn=>(hn ⟨rfl,by omega,h02⟩).elim,m4⟩
    ·rw[if_neg h01,if_neg h02];exact⟨u,m1,m2,fun _=>(by have:=m3 id;exact Xe.frame' hro this),m4⟩
  ·refine⟨b2,cur2,e2,j1,j2,Eq.trans (hother b2 hbb) j3,j4,fun k hk=> ?_⟩
   obtain⟨u,m1,m2,m3,m4⟩:=j5 k hk
   exact⟨u,m1,m2,fun _=>(by have:=m3 id;exact Xe.frame' hro this),m4⟩
 ·intro κ x hx
  have hi:=h.it κ x hx
  have hbx:b∉x.bl:=fun hm=>by
   obtain⟨_,_,rfl⟩:=hi.con
   have:=(hi.key b hm).1
   rw[k2]at this;cases this
  exact⟨Own.frame _ _ _ _ hi.own (fun k hk=>hother k (fun e=>hbx (e▸hk))) (fun k hk=>hro k hk),hi.sl,hi.nodup,fun k hk=>⟨(hi.key k hk).1,by rw[setRow_size];exact(hi.key k hk).2⟩,hi.con⟩
 ·intro k hk;rw[setRow_size];exact h.lt k hk
 ·exact h.own
 ·exact h.ro
 ·exact h.roR
 ·refine⟨h.grow.os,h.grow.tape,h.grow.output,by rw[setRow_size];exact h.grow.size,fun k hk hx=> ?_⟩
  by_cases hkb:k=b
  ·subst hkb;exact(hx (hX hk)).elim
  ·exact(h.grow.block k hk hx).trans (hother k hkb)
 ·intro k i hl' hp
  rw[h.lock k i hl' (fun _ _ _ e=>e)]
  by_cases hkb:k=b
  ·subst hkb
   obtain⟨r2,n2,g1,g2⟩:=h.lockow _ _ hl'
   have hr2:r2=r:=by have:=(h.pbox _ _ _ g1).2.2;rw[k2]at this;cases this;rfl
   subst hr2
   have hnp:=hp _ _ g1
   simp only[World.cell?,hc,hrow,Option.isSome_none,QRw,if_false]
   rw[hget]
   split
   ·rfl
   ·rename_i h1
    rw[if_neg (fun h2=>hnp ⟨rfl,by omega,h2⟩)]
  ·rw[Q5.cell (a:=⟨k,i,none⟩) (hother k hkb)]
 ·exact h.lockow
 ·exact h.pbox
theorem QCQ (h:Rel F G s a w) {tk:Bool}{T:TI}{r off g:Nat}{v:Value}(hc:QK G w (.ptr r off g) v) {vs:List VC}{us:List Value}(hv:VCs G w vs us) (hlen:T.ts.len=us.length):
 Sat (storeAt tk T (.ptr r off g) vs:M Unit Unit) s fun _ s'=>Qp s s'/\∃ad G' w',v= .pointer (some ad)/\(storeCells ad us).run P w= .ok () w'/\Rel F G' s' a w':=by
 obtain⟨b,hgb,hv'⟩:=hc
 unfold storeAt
 refine Sat.bind (Sat.mB (Φ:=fun g s'=>s'=s/\g=s.gB r) ⟨rfl,rfl⟩) ?_
 rintro g' s' ⟨rfl,rfl⟩
 split
 ·rename_i hcond
  simp only[QQ5,beq_iff_eq,Nat.ble_eq]at hcond
  obtain⟨⟨hg,hle⟩,_⟩:=hcond
  subst hg
  by_cases h0:(s'.gB r).2=0
  ·have hts:T.ts.len=0:=by omega
   have hus:us=[]:=QRx (by omega)
   subst hus
   refine(QcZ (r:=r) (b:=b) T.ts off vs [] _ G s' h hv hgb (fun k' h1 h2=>by omega) (fun j u hj=>by simp at hj)).mono ?_
   rintro _ s2 ⟨hk,_,G',hle',hr⟩
   exact⟨hk,⟨b,off,none⟩,G',w,hv',rfl,hr.pdmono fun _ _ _ e=>e.1⟩
  ·obtain⟨b',cur,e,k1,k2,k3,k4,k5⟩:=(h.box r).live h0
   rw[hgb]at k1;cases k1
   have hfit:off+us.length<=cur.size:=by omega
   have hr1:=h.QMx hgb h0 k3 hfit (VCs.ones hv)
   have hro:jB G w (w.setRow b (cur.toList.take off++us++cur.toList.drop (off+us.length)).toArray):=fun k hk=>setRow_other w b k _ (fun e=>by rw[e,k2]at hk;cases hk)
   have hrow:=setRow_heap w b cur (cur.toList.take off++us++cur.toList.drop (off+us.length)).toArray e (0,0) k3
   refine(QcZ (r:=r) (b:=b) T.ts off vs us _ G s' hr1 (VCs.mono (Gh.le.refl G) hro _ _ hv) hgb (fun k' h1 h2=>⟨rfl,h1,by omega⟩) (fun j u hj=> ?_)).mono ?_
   ·have hjl:=(QRq.1 hj).1
    simp only[World.cell?,hrow,Option.isSome_none,QRw,if_false]
    rw[List.getElem?_toArray,Qyt _ _ _ (by simpa using hfit),if_neg (by omega),if_pos (by omega),show off+j - off=j by omega]
    exact hj
   ·rintro _ s2 ⟨hk,_,G',hle',hr⟩
    refine⟨hk,⟨b,off,none⟩,G',_,hv', ?_,hr.pdmono fun r' k' _ e=>e.2 ⟨e.1.1,e.1.2.1,by omega⟩⟩
    have:=run_storeCells_at P b off e us 0 cur w k3 (by simpa using hfit) (VCs.ones hv)
    simpa using this
 ·exact Sat.fail
theorem QIQ (he:XZ P E) {T:TypeId}{x y:Operand}(ho:o.op= .store T x y) (h:Rel F G s a w):Sat (execOp E D nk o:M Unit Unit) s (fun(_:Unit) (s':St)=>QI P F o a w s'):=by
 simp only[execOp,ho,XQ,QQ3,QY13,QRw,if_false]
 refine Sat.bind (XM h x) ?_
 rintro c s' ⟨rfl,hc⟩
 refine Sat.bind (XM h y) ?_
 rintro v s' ⟨rfl,hv⟩
 refine Sat.bind (Sat.ofO (Φ:=fun vs s2=>s2=s'/\QfP v=some vs) (fun off e=>⟨rfl,e⟩)) ?_
 rintro vs s2 ⟨rfl,hvs⟩
 have hvc:=QjO hvs hv
 refine Sat.bind (Km he) ?_
 rintro i s' ⟨rfl,rfl,hT⟩
 split
 ·rename_i hlen
  have hlen:vs.length=(E.ty T).ts.len:=by simpa using hlen
  rw[VCs.length _ _ hvc]at hlen
  obtain⟨ti,z,g1,g2,_⟩:=hT.info
  have key:∀tk,Sat (storeAt tk (E.ty T) c vs:M Unit Unit) s' fun _ s2=>Qp s' s2/\∃ad G' w',a.eval x= .pointer (some ad)/\(storeCells ad (a.eval y).cells.toList).run P w= .ok () w'/\Rel F G' s2 a w':=by
   intro tk
   cases c with
   |ptr r off g=>exact QCQ h hc hvc hlen.symm
   |eptr p i off=>exact QAw h hc hvc hlen.symm
   |_=>exact Sat.fail
  refine Sat.bind (key _) ?_
  rintro _ s3 ⟨hk,ad,G',w',hv',hrun,hr⟩
  have hcd:QK G' w' .dead undef:=trivial
  refine(Zi hr hcd).mono fun _ s' hr=>QI.skip (w':=w') ?_ hr
  have hsz:(a.eval y).cells.size=ti.size:=by rw[g2,<-hlen];simp
  simp[Go.execOp,ho,hv',Instr.storeAt,Instr.sureAddr,storeVar,sizeOf,typeInfo,g1,hsz,hrun]
 ·exact Sat.fail
def Qmb (us:List Value) (off:Nat):List Value->List Value
 | []=>us
 |v::vs=>Qmb (us.set off v) (off+1) vs
theorem VCs.set:(i:Nat)->(cs:List VC)->(us:List Value)->VCs G w cs us->(v:VC)->(u:Value)->VCR G w v u->VCs G w (cs.set i v) (us.set i u)
 |i,[],us,h,v,u,_=>by rw[show us=[]from h];rfl
 |0,c::cs,us,⟨u',us',e,h1,h2⟩,v,u,hv=>by rw[e];exact⟨u,us',rfl,hv,h2⟩
 |i+1,c::cs,us,⟨u',us',e,h1,h2⟩,v,u,hv=>by rw[e];exact⟨u',_,rfl,h1,VCs.set i cs us' h2 v u hv⟩
theorem Qty:(vs:List VC)->(vs':List Value)->(cs:List VC)->(us:List Value)->(off:Nat)->VCs G w cs us->VCs G w vs vs'->VCs G w (Qr8 cs off vs) (Qmb us off vs')
 | [],vs',cs,us,off,h,hv=>by rw[show vs'=[]from hv];exact h
 |v::vs,vs',cs,us,off,h,⟨u,us',e,h1,h2⟩=>by
  rw[e]
  exact Qty vs us' (cs.set off v) (us.set off u) (off+1) (VCs.set off cs us h v u h1) h2
theorem Qt5:(vs:List Value)->(us:List Value)->(off:Nat)->(Qmb us off vs).length=us.length
 | [],_,_=>rfl
 |v::vs,us,off=>by simp[Qmb,Qt5 vs]
theorem Qv7:(vs:List Value)->(k off:Nat)->(cells:Array Value)->((vs.zipIdx k).foldl (fun(cs:Array Value) (x:Value×Nat)=>cs.setIfInBounds (off+x.2) x.1) cells).toList=Qmb cells.toList (off+k) vs
 | [],k,off,cells=>rfl
 |v::vs,k,off,cells=>by
  simp only[List.zipIdx_cons,List.foldl_cons,Qmb]
  rw[Qv7 vs (k+1) off,Array.toList_setIfInBounds,QY19]
theorem QzN {place:Nat->Option (Nat×Nat)}{cells:Array Value}{i off size:Nat}{v:Value}{rest:List (Nat×Value)}(hp:place i=some (off,size)) (hs:v.cells.size=size) (hb:off+size<=cells.size):
 ∃cells',cells'.toList=Qmb cells.toList off v.cells.toList/\Instr.fill place cells ((i,v)::rest)=Instr.fill place cells' rest:=by
 refine⟨v.cells.zipIdx.foldl (fun(cs:Array Value) (x:Value×Nat)=>cs.setIfInBounds (off+x.2) x.1) cells, ?_, ?_⟩
 ·rw[<-Array.foldl_toList,Array.toList_zipIdx]
  have:=Qv7 v.cells.toList 0 off cells
  rwa[QY3]at this
 ·rw[Instr.fill,hp]
  simp only
  rw[if_neg (by simp[hs];omega)]
theorem QoJ (h:Rel F G s a w) {i:TI}{places:List (Nat×Nat)}(hpl:∀k off,i.fo[k]? =some off->places[k]? =some (off,i.fsz k)/\off+i.fsz k<=i.ts.len):
 (l:List (Nat×Operand))->(cs:List VC)->(cells:Array Value)->VCs G w cs cells.toList->cells.size=i.ts.len->
 Sat (vb i cs l:M Unit (List VC)) s fun cs' s'=>s'=s/\∃cells',Instr.fill (fun x=>places[x]?) cells (l.map fun x=>(x.1,a.eval x.2))=some cells'/\VCs G w cs' cells'.toList
 | [],cs,cells,hv,hl=>Sat.pure ⟨rfl,cells,rfl,hv⟩
 |(k,x)::l,cs,cells,hv,hl=>by
  unfold vb
  refine Sat.bind (XM h x) ?_
  rintro c s' ⟨e,hc⟩
  rw[e]
  refine Sat.bind (Sat.ofO (Φ:=fun vs s2=>s2=s/\QfP c=some vs) (fun off e=>⟨rfl,e⟩)) ?_
  rintro vs s2 ⟨e2,hvs⟩
  rw[e2]
  have hvc:=QjO hvs hc
  refine Sat.bind (Sat.ofO (Φ:=fun off s2=>s2=s/\i.fo[k]? =some off) (fun off e=>⟨rfl,e⟩)) ?_
  rintro off s3 ⟨e3,hoff⟩
  rw[e3]
  split
  ·rename_i hlen
   have hlen:vs.length=i.fsz k:=by simpa using hlen
   rw[VCs.length _ _ hvc]at hlen
   obtain⟨h1,h2⟩:=hpl k off hoff
   obtain⟨cells',k1,k2⟩:=QzN (place:=fun x=>places[x]?) (cells:=cells) (i:=k) (v:=a.eval x) (rest:=l.map fun x=>(x.1,a.eval x.2)) h1 (by simpa using hlen) (by omega)
   have hcs:VCs G w (Qr8 cs off vs) cells'.toList:=by rw[k1];exact Qty vs _ cs _ off hv hvc
   have hsz:cells'.size=i.ts.len:=by
    have:=congrArg List.length k1
    rw[Qt5]at this
    simpa[hl]using this
   refine(QoJ h hpl l _ cells' hcs hsz).mono ?_
   rintro cs' s' ⟨e,cells2,m1,m2⟩
   exact⟨e,cells2,by rw[QY24,k2];exact m1,m2⟩
  ·exact Sat.fail
theorem QJF (he:XZ P E) {T:TypeId}{parts:Array (Nat×Operand)}(ho:o.op= .build T parts) (h:Rel F G s a w):Sat (execOp E D nk o:M Unit Unit) s (fun(_:Unit) (s':St)=>QI P F o a w s'):=by
 simp only[execOp,ho,XQ,QQ4,QRn]
 split
 ·exact Sat.fail
 rename_i hd
 have hd:=Jg hd
 refine Sat.bind (Km he) ?_
 rintro i s' ⟨rfl,rfl,hT⟩
 split
 ·rename_i hag
  obtain⟨fs,places,g1,g2,g3⟩:=hT.fo hag
  obtain⟨ti,z,k1,k2,k3,k4,k5⟩:=hT.info
  refine Sat.bind (QoJ h g3 parts.toList (QbH (E.ty T).ts) z.cells (by rw[k5];exact Qn9 _) (by have:=congrArg List.length k5;rw[Qei]at this;simpa using this)) ?_
  rintro cs s2 ⟨rfl,cells,m1,m2⟩
  have hcr:QK G w (.val true cs) (.agg cells):=⟨cells,rfl,m2⟩
  refine(Zk h hd hcr).mono fun _ s' hr=>QI.value (v:= .agg cells) (w':=w) ?_ hr
  have hb:P.built T (parts.map fun(i,x)=>(i,a.eval x)).toList=some cells:=by
   unfold Program.built
   simp only[k1,g1,k4,g2]
   rw[<-m1]
   simp
  simp only[Go.execOp,ho,Sem.run_bind,run_build w T _ cells hb,Result.andThen_ok]
  rfl
 ·exact Sat.fail
theorem QHC (he:XZ P E) {x:Operand}(ho:o.op= .assign x) (h:Rel F G s a w):Sat (execOp E D nk o:M Unit Unit) s (fun(_:Unit) (s':St)=>QI P F o a w s'):=by
 simp only[execOp,ho,XQ,QQ4,QRn]
 split
 ·exact Sat.fail
 rename_i hd
 have hd:=Jg hd
 refine Sat.bind (XM h x) ?_
 rintro c s' ⟨rfl,hc⟩
 have hrun:(Go.execOp a.eval o).run P w= .ok (.value (a.eval x)) w:=by simp[Go.execOp,ho]
 split
 ·rename_i ag vs
  refine Sat.bind (Km he) ?_
  rintro i s' ⟨rfl,rfl,hT⟩
  refine Sat.bind (Sat.mB (Φ:=fun g s2=>s2=s'/\g=s'.gB (o.dst.getD 0)) ⟨rfl,rfl⟩) ?_
  rintro g s2 ⟨rfl,rfl⟩
  split
  ·rename_i hz
   have hz:(s2.gB (o.dst.getD 0)).2=0:=by simpa using hz
   cases ag with
   |true=>
    obtain⟨us,hu,h1⟩:=hc
    refine Sat.bind (Qma (E.ty o.type).ts 0 vs us.toList G s2 h h1 hz) ?_
    rintro ws s3 ⟨hk,G',hle,hr,hw⟩
    have hcr:QK G' w (.val true ws) (a.eval x):=⟨us,hu,hw⟩
    exact(Zk hr hd hcr).mono fun _ s' hr=>QI.value hrun hr
   |false=>
    obtain⟨h0,h1⟩:=hc
    refine Sat.bind (Qma (E.ty o.type).ts 0 vs _ G s2 h h1 hz) ?_
    rintro ws s3 ⟨hk,G',hle,hr,hw⟩
    have hcr:QK G' w (.val false ws) (a.eval x):=⟨h0,hw⟩
    exact(Zk hr hd hcr).mono fun _ s' hr=>QI.value hrun hr
  ·exact Sat.fail
 ·exact(Zk h hd hc).mono fun _ s' hr=>QI.value hrun hr
end
theorem QT.shallow {w:World}{R R':Nat->Prop}(hR:∀b,R b->R' b):(ts:Tys)->(x:Qm ts)->(us:List Value)->(bl:List Nat)->QT w R true ts x us bl->(∀b∈bl,R' b)->QT w R' false ts x us []
 | .nil,_,_,_,h,_=>⟨h.1,rfl⟩
 | .cons t ts,x,us,bl,h,hb=>by
   obtain⟨u,us',b1,b2,rfl,rfl,h1,h2⟩:=h
   simp only[if_true]at h1
   obtain⟨b',hr,hm⟩:=Own.rep _ _ _ _ h1
   exact⟨u,us',[],[],rfl,rfl,⟨rfl,b',hr,fun c hc=>(hm c hc).elim (fun h=>hb c (by simp[h])) (fun h=>hR c h)⟩,QT.shallow hR ts _ us' b2 h2 (fun c hc=>hb c (by simp[hc]))⟩
theorem RelP.QjV {F:Fix}{pd:Nat->Nat->Prop}{G:Gh}{s:St}{a:Act}{w:World}(h:RelP F pd G s a w) {L:List Nat}(hL:∀b∈L,G.ow b= .free/\b<w.heap.size/\(b<F.w0.heap.size->F.X b)):
 RelP F pd (G.freeze L) s a w/\G.le (G.freeze L):=by
 have hle:G.le (G.freeze L):=⟨fun _ _ _ _ h=>h,fun _ _ _ _ _ _ _ h=>h,fun _ _ _ h=>h,fun b hb=>by
  show(if b∈L then Ow.ro else G.ow b)= .ro
  split
  ·rfl
  ·exact hb⟩
 refine⟨?_,hle⟩
 refine h.upd hle rfl (fun i=>rfl) (fun i=>rfl) (fun _ _=>False) (fun r k _=>⟨rfl,rfl,fun _=>rfl,fun _ _ _ _=>rfl⟩) (fun _ _ e=>e.elim) (fun _ _ _ e=>e.elim) (fun _ _ e=>e.elim) (fun _ _=>rfl) ?_ ?_ ?_ ?_ ?_
 ·intro κ y hy
  refine(h.it κ y hy).give (fun b hb=>hle.ro b hb) (fun b hb=> ?_)
  have hk:=((h.it κ y hy).key b hb).1
  show(if b∈L then Ow.ro else G.ow b)=_
  rw[if_neg (fun hm=>by rw[(hL b hm).1]at hk;cases hk)]
  exact hk
 ·intro b hb
  by_cases hm:b∈L
  ·exact(hL b hm).2.1
  ·exact h.lt b (fun e=>hb (by show(if b∈L then Ow.ro else G.ow b)=_;rw[if_neg hm];exact e))
 ·intro b κ hb hlt
  have hb:(if b∈L then Ow.ro else G.ow b)= .key κ:=hb
  split at hb
  ·cases hb
  ·exact h.own b κ hb hlt
 ·intro b hb hlt
  have hb:(if b∈L then Ow.ro else G.ow b)= .ro:=hb
  split at hb
  ·rename_i hm;exact .inr ((hL b hm).2.2 hlt)
  ·exact h.ro b hb hlt
 ·intro b r' hb
  show(if b∈L then Ow.ro else G.ow b)=_
  rw[if_neg (fun hm=>by rw[(hL b hm).1]at hb;cases hb)]
  exact hb
theorem Qhg {G:Gh}{L:List Nat}{b:Nat}(h:b∈L):(G.freeze L).ow b= .ro:=if_pos h
theorem xm {G:Gh}{L:List Nat}{b:Nat}(h:b∉L) (hf:G.ow b= .free):(G.freeze L).ow b= .free:=(if_neg h).trans hf
theorem Held.shallow {F:Fix}{pd:Nat->Nat->Prop}{G:Gh}{s:St}{a:Act}{w:World}(h:RelP F pd G s a w) {ts:Tys}{xs:List (Qm ts)}{u:Value}{bl:List Nat}(hh:Held F G w ⟨⟨.sl ts,xs⟩,true,u,bl⟩):
 ∃L bl',RelP F pd (G.freeze L) s a w/\G.le (G.freeze L)/\Held F (G.freeze L) w ⟨⟨.sl ts,xs⟩,false,u,bl'⟩/\(∀b∈bl',b∈bl)/\(∀b∈L,b∈bl):=by
 have hown:Own w (fun b=>G.ow b= .ro) true (.sl ts) xs u bl:=hh.own
 rcases hown with⟨h1,h2,h3⟩|⟨g,off,cap,cur,e,bls,hu,hg,h1,h2,h3,hb,hl,hc⟩
 ·obtain⟨r1,r2⟩:=h.QjV (L:=[]) (by simp)
  exact⟨[],[],r1,r2,⟨.inl ⟨h1,h2,rfl⟩,rfl,QY5,by simp⟩,by simp,by simp⟩
 ·have hb:bl=g::bls.flatten:=hb
  have hnd:bl.Nodup:=hh.nodup
  have hfr:∀b∈bl,G.ow b= .free/\b<w.heap.size/\(b<F.w0.heap.size->F.X b):=hh.free
  rw[hb]at hnd
  have hgn:=(QY4.1 hnd).1
  obtain⟨r1,r2⟩:=h.QjV (L:=bls.flatten) (fun b hb'=>hfr b (by rw[hb];simp[hb']))
  refine⟨bls.flatten,[g],r1,r2,⟨?_,rfl,by simp,fun b hb'=> ?_⟩,fun b hb'=>by simp at hb';rw[hb,hb'];simp,fun b hb'=>by rw[hb];simp[hb']⟩
  ·refine .inr ⟨g,off,cap,cur,e,List.replicate (vl (ts:=ts) xs).length [],hu,hg,h1,h2,h3, ?_,by simp,fun i x b hx hbb=> ?_⟩
   ·have:(List.replicate (vl (ts:=ts) xs).length ([]:List Nat)).flatten=[]:=by
     rw[List.flatten_eq_nil_iff];intro l hl';exact(List.mem_replicate.1 hl').2
    rw[this]
   ·have hb0:b=[]:=(List.mem_replicate.1 (QY22 hbb)).2
    have hi:i<(vl (ts:=ts) xs).length:=(QRq.1 hx).1
    obtain⟨us,k1,k2⟩:=hc i x (bls[i]'(by omega)) hx (QRp _)
    refine⟨us,k1, ?_⟩
    rw[hb0]
    exact QT.shallow (fun b hb=>r2.ro b hb) ts x us _ k2 (fun b hb'=>Qhg (QY9.2 ⟨_,QRf _,hb'⟩))
  ·simp at hb'
   subst hb'
   obtain⟨f1,f2,f3⟩:=hfr b (by rw[hb];simp)
   exact⟨xm hgn f1,f2,f3⟩
def Qfl (w:World) (R:Nat->Prop) (deep:Bool) (ts:Tys) (row:List (Qm ts)) (cells:List Value) (bls:List (List Nat)):Prop:=
 cells.length=row.length*ts.len/\bls.length=row.length/\∀(i:Nat) (x:Qm ts) (b:List Nat),row[i]? =some x->bls[i]? =some b->∃us,(∀j u,us[j]? =some u->cells[i*ts.len+j]? =some u)/\QT w R deep ts x us b
theorem Qfl.QpV {w:World}{R R':Nat->Prop}(hR:∀b,R b->R' b) {deep:Bool}{ts:Tys}{row:List (Qm ts)}{cells:List Value}{bls:List (List Nat)}(h:Qfl w R deep ts row cells bls):Qfl w R' deep ts row cells bls:=
 ⟨h.1,h.2.1,fun i x b hx hb=>let⟨us,k1,k2⟩:=h.2.2 i x b hx hb;⟨us,k1,QT.mono hR _ _ _ _ k2⟩⟩
theorem QCY {w:World}{R:Nat->Prop}{deep:Bool}:(ts:Tys)->QT w R deep ts (Tys.zero ts) (xz ts) []
 | .nil=>⟨rfl,rfl⟩
 | .cons t ts=>by
   have hd:vhd (Tys.zero (.cons t ts))=Ty.zero t:=by cases ts<;>rfl
   have ht:vtl (Tys.zero (.cons t ts))=Tys.zero ts:=by cases ts<;>rfl
   refine⟨zeroV t,xz ts,[],[],rfl,rfl, ?_,by rw[ht];exact QCY ts⟩
   rw[hd]
   cases t with
   |int k=>cases deep<;>simp[Own,Rep,Ty.zero,zeroV]
   |bool=>cases deep<;>simp[Own,Rep,Ty.zero,zeroV]
   |str=>cases deep<;>simp[Own,Rep,Ty.zero,zeroV]
   |sl us=>cases deep with
    |true=>exact .inl ⟨rfl,rfl,rfl⟩
    |false=>exact⟨rfl,[],⟨none,0,rfl,⟨QY2 _,fun _=>rfl⟩, .inl ⟨rfl,rfl⟩⟩,by simp⟩
theorem QBY {z:Array Value}{len n i j:Nat}(hz:z.size=n) (hi:i<len) (hj:j<n):((Array.range (len*n)).map (fun k=>z[k % z.size]!))[i*n+j]? =z[j]? :=by
 have hlt:i*n+j<len*n:=by
  have:=QY16 n (show i+1<=len from hi)
  rw[QY25]at this;omega
 have hmod:(i*n+j) % n=j:=by rw[Nat.mul_comm,Nat.mul_add_mod];exact Nat.mod_eq_of_lt hj
 rw[Array.getElem?_map]
 rw[Array.getElem?_eq_getElem (by simpa using hlt)]
 simp[hz,hmod,hj]
theorem QB0 {w:World}{R:Nat->Prop}{deep:Bool}{ts:Tys}{z:Value}(hz:z.cells.toList=xz ts) (len:Nat):Qfl w R deep ts (List.replicate len (Tys.zero ts)) ((Array.range (len*ts.len)).map (fun k=>z.cells[k % z.cells.size]!)).toList (List.replicate len []):=by
 have hzs:z.cells.size=ts.len:=by have:=congrArg List.length hz;rw[Qei]at this;simpa using this
 refine⟨by simp,by simp,fun i x b hx hb=> ?_⟩
 have hi:i<len:=by have:=(QRq.1 hx).1;simpa using this
 have hx0:x=Tys.zero ts:=(List.mem_replicate.1 (QY22 hx)).2
 have hb0:b=[]:=(List.mem_replicate.1 (QY22 hb)).2
 subst hx0;subst hb0
 refine⟨xz ts,fun j u hj=> ?_,QCY ts⟩
 have hjl:j<ts.len:=by rw[<-Qei ts];exact(QRq.1 hj).1
 have:=QBY (z:=z.cells) (len:=len) hzs hi hjl
 rw[Array.getElem?_toList,this,<-hj,<-hz]
 simp
theorem Qfl.held {F:Fix}{G:Gh}{s:St}{a:Act}{w:World}(h:Rel F G s a w) {deep:Bool}{ts:Tys}{row:List (Qm ts)}{cells:Array Value}{bls:List (List Nat)}(hr:Qfl w (fun b=>G.ow b= .ro) deep ts row cells.toList bls) (hm:row.length<=maxLen)
 (hnd:bls.flatten.Nodup) (hf:∀b∈bls.flatten,G.ow b= .free/\b<w.heap.size/\(b<F.w0.heap.size->F.X b)) (e:TypeId):
 Rel F G s a (w.alloc (.cells cells e))/\Held F G (w.alloc (.cells cells e)) ⟨⟨.sl ts,row⟩,deep, .slice (some ⟨w.heap.size,0,none⟩) row.length row.length,w.heap.size::bls.flatten⟩:=by
 have hold:∀b,b<w.heap.size->Q5 w (w.alloc (.cells cells e)) b:=fun b hb=>heap_alloc_old w _ b hb
 have hnew:(w.alloc (.cells cells e)).heap[w.heap.size]? =some (.cells cells e (0,0)):=heap_alloc_new w _
 have hfree:G.ow w.heap.size= .free:=QY34 fun hn=>Nat.lt_irrefl _ (h.lt _ hn)
 refine⟨h.frame (fun b hb=>hold b (h.lt b hb)) (Grow.alloc _ w _),⟨?_,rfl, ?_,fun b hb=> ?_⟩⟩
 ·refine .inr ⟨w.heap.size,0,row.length,cells,e,bls,rfl,hnew,QY2 _,hm, ?_,rfl,hr.2.1,fun i x b hx hb=> ?_⟩
  ·have:=hr.1;simp only[Array.length_toList]at this;omega
  ·obtain⟨us,k1,k2⟩:=hr.2.2 i x b hx hb
   refine⟨us,fun j u hj=> ?_,QT.frame ts x us b k2 (fun c hc=>hold c (hf c (QY9.2 ⟨b,QY22 hb,hc⟩)).2.1) (fun c hc=>hold c (h.lt c (by rw[hc];simp)))⟩
   rw[VG hnew,QRo]
   simpa using k1 j u hj
 ·rw[QY4]
  exact⟨fun hm=>Nat.lt_irrefl _ (hf _ hm).2.1,hnd⟩
 ·rcases QRk.1 hb with rfl|hb
  ·refine⟨hfree,by simp,fun hlt=> ?_⟩
   have:=h.grow.size;omega
  ·obtain⟨f1,f2,f3⟩:=hf b hb
   exact⟨f1,by simp;omega,f3⟩
section
variable {P:Program}{E:Env}{D:Xz E}{nk:Fx}{F:Fix}{G:Gh}{s:St}{a:Act}{w:World}{o:Oper}
theorem zl {G:Gh}{w:World}{v:VC}{u:Value}(h:VCR G w v u):QK G w (one v) u:=⟨h.one,u,[],rfl,h,rfl⟩
theorem QCj (he:XZ P E) {T:TypeId}{l c:Operand}(ho:o.op= .makeSlice T l c) (h:Rel F G s a w):Sat (execOp E D nk o:M Unit Unit) s (fun(_:Unit) (s':St)=>QI P F o a w s'):=by
 simp only[execOp,ho,XQ,QQ4,QRn]
 split
 ·exact Sat.fail
 rename_i hd
 have hd:=Jg hd
 refine Sat.bind (XM h l) ?_
 rintro cl s' ⟨rfl,hcl⟩
 refine Sat.bind (XM h c) ?_
 rintro cc s' ⟨rfl,hcc⟩
 refine Sat.bind (Sat.ofO (Φ:=fun i s2=>s2=s'/\yj cl=some i) (fun v e=>⟨rfl,e⟩)) ?_
 rintro n s2 ⟨rfl,hn⟩
 obtain⟨k1,hlv⟩:=QcX hn hcl
 refine Sat.bind (Sat.ofO (Φ:=fun i s3=>s3=s2/\yj cc=some i) (fun v e=>⟨rfl,e⟩)) ?_
 rintro m s3 ⟨rfl,hm⟩
 obtain⟨k2,hcv⟩:=QcX hm hcc
 refine Sat.bind (j9 he) ?_
 rintro TE s4 ⟨rfl,e,hund,hTE⟩
 refine Sat.bind (Sat.chk (Φ:=fun _ s'=>s'=s4/\0<=n/\m=n/\0<TE.bytes/\n.toNat*TE.bytes<=140737488351232) (fun e=> ?_)) ?_
 ·simp only[QQ5,QRu,fits,Nat.blt_eq]at e
  exact⟨rfl,e.2.1.1,e.2.1.2.symm,e.1,e.2.2⟩
 rintro _ s5 ⟨rfl,h0,rfl,hpos,hfit⟩
 have hmx:m.toNat<=140737488351232:=QY17 (Nat.le_mul_of_pos_right _ hpos) hfit
 obtain⟨ti,z,g1,g2,g3,g4,g5⟩:=hTE.info
 have hnil:(List.replicate m.toNat ([]:List Nat)).flatten=[]:=by rw[List.flatten_eq_nil_iff];intro l hl';exact(List.mem_replicate.1 hl').2
 have hrow:=QB0 (w:=w) (R:=fun b=>G.ow b= .ro) (deep:=true) g5 m.toNat
 obtain⟨r1,r2⟩:=Qfl.held h hrow (by rw[List.length_replicate];exact QY17 hmx (by decide)) (by rw[hnil];exact QY5) (fun b hb=>by rw[hnil]at hb;simp at hb) e
 rw[List.length_replicate]at r2
 refine Sat.bind (zp r1 r2) ?_
 rintro v s6 ⟨hk,G',hle,hr,hv,_⟩
 refine(Zk hr hd (zl hv)).mono fun _ s' hr=>QI.value ?_ hr
 have hb:(TE.bytes:Int)*m<=281474976710656:=by
  have h1:((m.toNat*TE.bytes:Nat):Int)<=140737488351232:=by omega
  have hmm:(m.toNat:Int)=m:=by omega
  rw[Int.natCast_mul,hmm,Int.mul_comm]at h1
  omega
 have hrun:=run_make (P:=P) w T e ti z hund g1 g4 k1 k2 m m h0 (Int.le_refl _) (by rw[g3];exact hb) (by omega)
 rw[g2]at hrun
 simp only[Go.execOp,ho,hlv,hcv,Sem.run_bind,hrun,Result.andThen_ok]
 rfl
end
end Go.Eng
