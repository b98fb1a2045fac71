/- What the plain forms that FnExactStep reaches come to: PStep2. No conditions but those that each theorem states. -/
import Derived.Test.YtjenicbpdklpbaaGreatFnExactStepPStep
set_option linter.all false
namespace Go.Proofs.YtjenicbpdklpbaaGreat.M
open Go Go.Eng Go.Proofs
set_option linter.unusedVariables false
theorem QrU {ns:List Qb}{net:List Qs}{sd:List Qq}{t:Int}(h:¬(Zg ns net sd t).1<0):ZU ns net sd=true/\∃i:Nat,(Zg ns net sd t).1=(i:Int)/\i<ns.length:=by
 unfold Zg at h⊢
 cases hw:ZU ns net sd
 ·rw[hw]at h;simp at h
 ·rw[hw]at h
  by_cases h2:((ns.length:Nat):Int)<2
  ·rw[dt h2]at h;simp at h
  ·rw[df h2]at h⊢
   by_cases h3:t<0
   ·rw[dt h3]at h;simp at h
   ·rw[df h3]
    simp only[QQ1,QQ2]
    have k1:=Int.tmod_nonneg (((ns.length:Nat):Int)) (show 0<=t by omega)
    have k2:=Int.tmod_lt_of_pos t (show(0:Int)<((ns.length:Nat):Int) by omega)
    exact⟨trivial,(Int.tmod t ((ns.length:Nat):Int)).toNat,by omega,by omega⟩
theorem QDB {sd:List Qq}(h:∀x∈sd,QC x.2=true):X5 sd<=61*sd.length:=by
 have:Qi Xt sd<=60*sd.length:=QhX _ _ _ fun x hx=>ye (h x hx)
 simp only[X5];omega
theorem QA2 {ns:List Qb}(h:∀x∈ns,NOk x):X0 ns<=2001*ns.length:=by
 have:Qi Q8 ns<=2000*ns.length:=QhX _ _ _ fun x hx=>(Xr (h x hx)).1
 simp only[X0];omega
theorem Qmy {ns:List Qb}{net:List Qs}{sd:List Qq}(h:∀x∈ns,NOk x) (hl:ns.length<=5) (hn:XC net<=1048576) (hd:∀x∈sd,QC x.2=true) (hdl:sd.length<=41):Xj (ns,net,sd)<=1100000/\smW ns net sd:=by
 have h1:=QA2 h
 have h2:=QDB hd
 refine⟨by simp only[Xj];omega,by simp only[maxLen];omega,fun x hx=>(Xr (h x hx)).2, ?_, ?_,by simp only[maxLen];omega,fun x hx=>XX (hd x hx)⟩
 ·simp only[XC]at hn;simp only[maxLen];omega
 ·intro p hp
  have:=Kc Xe hp
  simp only[XC]at hn
  simp only[Xe,Zt]at this
  simp only[maxLen];omega
theorem Qn0 {ns:List Qb}{net:List Qs}{sd:List Qq}(h:ZU ns net sd=true):∀x∈sd,QC x.2=true:=by
 simp only[ZU,QQ5,QRt,QbM]at h
 intro x hx
 exact(h.2.2.2.2.2 x hx).2
theorem Qqf {ns:List Qb}(h:∀x∈ns,NOk x) {i:Nat}{n:Qb}(hn:NOk n):∀x∈ns.set i n,NOk x:=fun x hx=>by
 rcases List.mem_or_eq_of_mem_set hx with hx|rfl
 ·exact h x hx
 ·exact hn
theorem QvT {ns:List Qb}{net:List Qs}{sd:List Qq}(h:WOk ns net sd):∀x∈ns,NOk x:=fun x hx=>by
 obtain⟨i,hi,rfl⟩:=List.mem_iff_getElem.1 hx
 exact QmN h hi
theorem QF8 {ns:List Qb}{net:List Qs}{sd:List Qq}(h:∀x∈ns,NOk x) (p q:Int):(∀x∈(exch ns net sd p q).1,NOk x)/\(exch ns net sd p q).1.length=ns.length:=by
 unfold exch
 cases h2:two ns net sd p q
 ·exact⟨h,rfl⟩
 ·obtain⟨_,hp,hq,_⟩:=QB6 h2
  obtain⟨i,rfl,hi⟩:=YI hp
  obtain⟨j,rfl,hj⟩:=YI hq
  simp only[QQ1,Vl hi,Vl hj]
  cases ht:talk ns[i] ns[j] (j:Int)with
  |none=>exact⟨h,rfl⟩
  |some r=>
   have hr:=QFH (h _ (QRf hi)) (h _ (QRf hj)) ht
   exact⟨Qqf (Qqf h hr.1) hr.2,by simp[QHs]⟩
def QS (ns:List Qb) (i:Nat):Qb:=tick (nodeAt ns (i:Int))
def QdP (ns:List Qb) (sd:List Qq) (i:Nat):Bool:=(lookup ((QS ns i).2.2.1,(QS ns i).2.2.2.1) (i:Int)).2.2.2.2.2&&(decide (((sd.length:Nat):Int)<40)&&decide (Xk (QS ns i) (i:Int)=0))
def qb (ns:List Qb) (sd:List Qq) (i:Nat):List Qb:=bif QdP ns sd i then ns.set i (QY (QS ns i) (i:Int))else ns.set i (QS ns i)
def Y7 (ns:List Qb) (sd:List Qq) (i:Nat):List Qq:=bif QdP ns sd i then sd++[((i:Int),jr (QS ns i) (i:Int))]else sd
def step (ns:List Qb) (net:List Qs) (sd:List Qq) (t:Int):YF:=bif decide ((Zg ns net sd t).1<0)then(ns,net,sd)else((exch (qb ns sd (Zg ns net sd t).1.toNat) net (Y7 ns sd (Zg ns net sd t).1.toNat) (Zg ns net sd t).1 (Zg ns net sd t).2).1,net,Y7 ns sd (Zg ns net sd t).1.toNat)
theorem QpE {ns:List Qb}(h:∀x∈ns,NOk x) {i:Nat}(hi:i<ns.length):NOk (QS ns i):=by
 unfold QS
 rw[Vl hi]
 exact QFB (h _ (QRf hi))
theorem Qn6 {ns:List Qb}(h:∀x∈ns,NOk x) (sd:List Qq) {i:Nat}(hi:i<ns.length):(∀x∈qb ns sd i,NOk x)/\(qb ns sd i).length=ns.length:=by
 have hn:=QpE h hi
 unfold qb
 cases QdP ns sd i
 ·exact⟨Qqf h hn,by simp⟩
 ·exact⟨Qqf h (QAF hn _),by simp⟩
theorem Qpk {ns:List Qb}{sd:List Qq}(h:∀x∈sd,QC x.2=true) (hl:sd.length<=40) (i:Nat):(∀x∈Y7 ns sd i,QC x.2=true)/\(Y7 ns sd i).length<=41:=by
 unfold Y7
 cases QdP ns sd i
 ·exact⟨h,by simp only[QQ2];omega⟩
 ·refine⟨fun x hx=> ?_,by simp;omega⟩
  rcases QRh.1 hx with hx|hx
  ·exact h x hx
  ·obtain rfl:=List.mem_singleton.1 hx
   exact QC0 _ _
theorem QIe {ns:List Qb}{net:List Qs}{sd:List Qq}(h:Xj (ns,net,sd)<=1048576):XC net<=1048576:=by
 simp only[Xj]at h;omega
theorem QIo {ns:List Qb}{net:List Qs}{sd:List Qq}(h:Xj (ns,net,sd)<=1100000) (hnet:XC net<=1048576) (t:Int):Xj (step ns net sd t)<=1100000:=by
 unfold step
 by_cases hp:(Zg ns net sd t).1<0
 ·rw[dt hp];exact h
 ·rw[df hp]
  obtain⟨hw,i,e,hi⟩:=QrU hp
  have wk:=VJ hw
  rw[e,QRb]
  have h1:=Qn6 (QvT wk) sd hi
  have h2:=Qpk (ns:=ns) (Qn0 hw) (by have:=wk.sd40;omega) i
  have h3:=QF8 (net:=net) (sd:=Y7 ns sd i) h1.1 (i:Int) (Zg ns net sd t).2
  have h5:=wk.n5
  exact(Qmy h3.1 (by rw[h3.2,h1.2];omega) hnet h2.1 h2.2).1
set_option maxHeartbeats 4000000 in
theorem QIb (ns:List Qb) (net:List Qs) (sd:List Qq) (t:Int) (h:Xj (ns,net,sd)<=4294967296) (hnet:XC net<=1048576) (hs:smW ns net sd):QfZ w (ns,net,sd,t)=some (step ns net sd t):=by
 apply Qzi
 simp only[Qoz,QpJ ns net sd (by omega),QHY ns net sd t hs,QQ0,step]
 by_cases hp:(Zg ns net sd t).1<0
 ·rw[dt hp];rfl
 ·obtain⟨hw,i,e,hi⟩:=QrU hp
  have wk:=VJ hw
  have hall:=QvT wk
  have hn:=QpE hall hi
  have h1:=Qn6 hall sd hi
  have h2:=Qpk (ns:=ns) (Qn0 hw) (by have:=wk.sd40;omega) i
  have h5:=wk.n5
  have h40:=wk.sd40
  have hsw:=Qmy (net:=net) h1.1 (by rw[h1.2];omega) hnet h2.1 h2.2
  have hE:YZ w (qb ns sd i,net,Y7 ns sd i,Zg ns net sd t)=some ((exch (qb ns sd i) net (Y7 ns sd i) (Zg ns net sd t).1 (Zg ns net sd t).2).1,net,Y7 ns sd i,(exch (qb ns sd i) net (Y7 ns sd i) (Zg ns net sd t).1 (Zg ns net sd t).2).2):=QA5 (qb ns sd i) net (Y7 ns sd i) (Zg ns net sd t).1 (Zg ns net sd t).2 (by omega) hsw.2
  have hT:QfQ w ns[i]=some (QS ns i):=by
   unfold QS;rw[Vl hi]
   exact QHT ns[i] (hall _ (QRf hi))
  have hst:=XX hn.st
  have hL:=QwX (QS ns i).2.2.1 (QS ns i).2.2.2.1 (i:Int) hst.1 hst.2
  have hS:=fun s=>QIy (QS ns i) hn (i:Int) s
  have hls:(ns.set i (QS ns i)).length=ns.length:=by simp
  have hr:=Yf (d:=Qv) (v:=QS ns i) hi
  rw[df hp]
  simp only[e,QRb]at hE⊢
  have hset:ns.set i ((QS ns i).1,(QS ns i).2.1,(QS ns i).2.2.1,(QS ns i).2.2.2.1,(QS ns i).2.2.2.2.1,(QS ns i).2.2.2.2.2.1,(QS ns i).2.2.2.2.2.2.1,(QS ns i).2.2.2.2.2.2.2.1,(QS ns i).2.2.2.2.2.2.2.2.1,(QS ns i).2.2.2.2.2.2.2.2.2.1,(QS ns i).2.2.2.2.2.2.2.2.2.2.1,(QS ns i).2.2.2.2.2.2.2.2.2.2.2.1,(QS ns i).2.2.2.2.2.2.2.2.2.2.2.2.1,(QS ns i).2.2.2.2.2.2.2.2.2.2.2.2.2.1,(QS ns i).2.2.2.2.2.2.2.2.2.2.2.2.2.2.1,(QS ns i).2.2.2.2.2.2.2.2.2.2.2.2.2.2.2.1,(QS ns i).2.2.2.2.2.2.2.2.2.2.2.2.2.2.2.2.1,(QS ns i).2.2.2.2.2.2.2.2.2.2.2.2.2.2.2.2.2.1,(QS ns i).2.2.2.2.2.2.2.2.2.2.2.2.2.2.2.2.2.2)=ns.set i (QS ns i):=rfl
  simp only[Qk hi,Qg hi,QQ1,QQ2,hT,QQ0,hr,hls,hL,hS,List.set_set]
  unfold qb Y7 at hE⊢
  unfold QdP at hE⊢
  cases hb:(lookup ((QS ns i).2.2.1,(QS ns i).2.2.2.1) (i:Int)).2.2.2.2.2
  ·rw[hb]at hE
   simp only[QRm,QQ2]at hE⊢
   simp only[hE,QQ0]
  ·rw[hb]at hE
   by_cases hl:((sd.length:Nat):Int)<40
   ·rw[dt hl]at hE⊢
    by_cases hc:Xk (QS ns i) (i:Int)=0
    ·rw[dt hc]at hE⊢
     simp only[QRd,QQ1]at hE⊢
     rw[Qu (by simp;omega),QQ1]
     exact(congrArg (fun z=>Option.bind z _) hE).trans rfl
    ·rw[df hc]at hE⊢
     simp only[QRd,QQ1,QQ2]at hE⊢
     simp only[hE,QQ0]
   ·rw[df hl]at hE⊢
    simp only[QRd,QRm,QQ1,QQ2]at hE⊢
    simp only[hE,QQ0]
set_option maxHeartbeats 4000000 in
theorem QFd (ns:List Qb) (net:List Qs) (sd:List Qq) (t:Int) (h:Xj (ns,net,sd)<=4294967296) (hnet:XC net<=1048576) (hs:smW ns net sd):QlP w (ns,net,sd,t)=some (step ns net sd t):=by
 apply Qz7
 simp only[QoF,QsE ns net sd (by omega),QFQ ns net sd t hs,QQ0,step]
 by_cases hp:(Zg ns net sd t).1<0
 ·rw[dt hp];rfl
 ·obtain⟨hw,i,e,hi⟩:=QrU hp
  have wk:=VJ hw
  have hall:=QvT wk
  have hn:=QpE hall hi
  have h1:=Qn6 hall sd hi
  have h2:=Qpk (ns:=ns) (Qn0 hw) (by have:=wk.sd40;omega) i
  have h5:=wk.n5
  have h40:=wk.sd40
  have hsw:=Qmy (net:=net) h1.1 (by rw[h1.2];omega) hnet h2.1 h2.2
  have hE:Y0 w (qb ns sd i,net,Y7 ns sd i,Zg ns net sd t)=some ((exch (qb ns sd i) net (Y7 ns sd i) (Zg ns net sd t).1 (Zg ns net sd t).2).1,net,Y7 ns sd i,(exch (qb ns sd i) net (Y7 ns sd i) (Zg ns net sd t).1 (Zg ns net sd t).2).2):=Qyn (qb ns sd i) net (Y7 ns sd i) (Zg ns net sd t).1 (Zg ns net sd t).2 (by omega) hsw.2
  have hT:QfD w (ns[i].1,ns[i].2.1,ns[i].2.2.1,ns[i].2.2.2.1,ns[i].2.2.2.2.1,ns[i].2.2.2.2.2.1,ns[i].2.2.2.2.2.2.1,ns[i].2.2.2.2.2.2.2.1,ns[i].2.2.2.2.2.2.2.2.1,ns[i].2.2.2.2.2.2.2.2.2.1,ns[i].2.2.2.2.2.2.2.2.2.2.1,ns[i].2.2.2.2.2.2.2.2.2.2.2.1,ns[i].2.2.2.2.2.2.2.2.2.2.2.2.1,ns[i].2.2.2.2.2.2.2.2.2.2.2.2.2.1,ns[i].2.2.2.2.2.2.2.2.2.2.2.2.2.2.1,ns[i].2.2.2.2.2.2.2.2.2.2.2.2.2.2.2.1,ns[i].2.2.2.2.2.2.2.2.2.2.2.2.2.2.2.2.1,ns[i].2.2.2.2.2.2.2.2.2.2.2.2.2.2.2.2.2.1,ns[i].2.2.2.2.2.2.2.2.2.2.2.2.2.2.2.2.2.2)=some (QS ns i):=by
   unfold QS;rw[Vl hi]
   exact QFU ns[i] (hall _ (QRf hi))
  have hst:=XX hn.st
  have hL:=QsS (QS ns i).2.2.1 (QS ns i).2.2.2.1 (i:Int) hst.1 hst.2
  have hS:=fun s=>QIr (QS ns i) hn (i:Int) s
  have hls:(ns.set i (QS ns i)).length=ns.length:=by simp
  have hr:=Yf (d:=Qv) (v:=QS ns i) hi
  rw[df hp]
  simp only[e,QRb]at hE⊢
  have hset:ns.set i ((QS ns i).1,(QS ns i).2.1,(QS ns i).2.2.1,(QS ns i).2.2.2.1,(QS ns i).2.2.2.2.1,(QS ns i).2.2.2.2.2.1,(QS ns i).2.2.2.2.2.2.1,(QS ns i).2.2.2.2.2.2.2.1,(QS ns i).2.2.2.2.2.2.2.2.1,(QS ns i).2.2.2.2.2.2.2.2.2.1,(QS ns i).2.2.2.2.2.2.2.2.2.2.1,(QS ns i).2.2.2.2.2.2.2.2.2.2.2.1,(QS ns i).2.2.2.2.2.2.2.2.2.2.2.2.1,(QS ns i).2.2.2.2.2.2.2.2.2.2.2.2.2.1,(QS ns i).2.2.2.2.2.2.2.2.2.2.2.2.2.2.1,(QS ns i).2.2.2.2.2.2.2.2.2.2.2.2.2.2.2.1,(QS ns i).2.2.2.2.2.2.2.2.2.2.2.2.2.2.2.2.1,(QS ns i).2.2.2.2.2.2.2.2.2.2.2.2.2.2.2.2.2.1,(QS ns i).2.2.2.2.2.2.2.2.2.2.2.2.2.2.2.2.2.2)=ns.set i (QS ns i):=rfl
  simp only[Qk hi,Qg hi,QQ1,QQ2,hT,QQ0,hr,hls,hL,hS,List.set_set]
  unfold qb Y7 at hE⊢
  unfold QdP at hE⊢
  cases hb:(lookup ((QS ns i).2.2.1,(QS ns i).2.2.2.1) (i:Int)).2.2.2.2.2
  ·rw[hb]at hE
   simp only[QRm,QQ2]at hE⊢
   simp only[hE,QQ0]
  ·rw[hb]at hE
   by_cases hl:((sd.length:Nat):Int)<40
   ·rw[dt hl]at hE⊢
    by_cases hc:Xk (QS ns i) (i:Int)=0
    ·rw[dt hc]at hE⊢
     simp only[QRd,QQ1]at hE⊢
     rw[Qu (by simp;omega),QQ1]
     exact(congrArg (fun z=>Option.bind z _) hE).trans rfl
    ·rw[df hc]at hE⊢
     simp only[QRd,QQ1,QQ2]at hE⊢
     simp only[hE,QQ0]
   ·rw[df hl]at hE⊢
    simp only[QRd,QRm,QQ1,QQ2]at hE⊢
    simp only[hE,QQ0]
theorem Qrm (r:YF) (h:Xj r<=4294967296):∃(k:Int) (m0:List Qb) (m1:List Qs) (m2:List Qq),0<k/\Vs w (r.1,r.2.1,r.2.2,1)=some (k,m0,m1,m2)/\Vu w (m0,m1,m2,1)=some k:=by
 have h':=h
 simp only[Xj]at h'
 have c1:=QDx r.1
 have c2:=QCM r.2.1
 have c3:=QDI r.2.2
 refine⟨_,_,_,_, ?_,QCF r.1 r.2.1 r.2.2 1 (by omega) (by omega) h,QDN r.1 r.2.1 r.2.2 1 (by omega) (by omega) h⟩
 omega
set_option maxHeartbeats 4000000 in
theorem QMo (a0:List Qb) (a1:List Qs) (a2:List Qq) (a3:Int) (hf:QdA (a0,a1,a2)):vY w (a0,a1,a2,a3)=some true:=by
 apply QoU
 have hs:=QE9 hf
 simp only[Qcb,QFA a0 a1 a2 1048576 (by omega) (by omega) hf,QQ0]
 by_cases h:(Xj (a0,a1,a2):Int)<=1048576
 ·rw[Vx h,df (by omega),QQ2]
  have hnet:=QIe (show Xj (a0,a1,a2)<=1048576 by omega)
  have hz:=QIo (show Xj (a0,a1,a2)<=1100000 by omega) hnet a3
  have hi:=QIb a0 a1 a2 a3 (by omega) hnet hs
  have hq:=QFd a0 a1 a2 a3 (by omega) hnet hs
  have ht:=QGT a0 a1 a2 (by omega)
  have he:=QzB a0 a1 a2 (by omega)
  obtain⟨k,m0,m1,m2,hk,hm,hh⟩:=Qrm (a0,a1,a2) (by omega)
  simp only at hm
  generalize step a0 a1 a2 a3=r at hi hq hz
  obtain⟨k',n0,n1,n2,hk',hm',hh'⟩:=Qrm r (by omega)
  have he2:Kv w (r.1,r.2.1,r.2.2,r)=some true:=QzB r.1 r.2.1 r.2.2 (show Xj r<=4294967296 by omega)
  simp only[ht,hi,hq,he,hm,hm',hh',he2,QQ0,QQ3,QQ2,df (show¬k<0 by omega),df (show¬k'<0 by omega),decide_true]
 ·rw[KN h,dt (by omega),QQ1]
end Go.Proofs.YtjenicbpdklpbaaGreat.M
