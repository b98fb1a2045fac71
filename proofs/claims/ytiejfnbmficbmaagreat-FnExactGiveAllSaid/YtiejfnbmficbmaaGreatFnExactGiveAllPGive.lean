/- What the plain forms that FnExactGiveAll reaches come to: PGive. No conditions but those that each theorem states. -/
import Derived.Test.YtiejfnbmficbmaaGreatFnExactGiveAllPEnc
set_option linter.all false
namespace Go.Proofs.YtiejfnbmficbmaaGreat.M
open Go Go.Eng Go.Proofs
set_option linter.unusedVariables false
def QFO (r:QlX):QS:=(r.1,r.2.1,r.2.2.1,r.2.2.2.1,r.2.2.2.2.1,r.2.2.2.2.2.1,r.2.2.2.2.2.2.1,r.2.2.2.2.2.2.2.1,r.2.2.2.2.2.2.2.2.1,r.2.2.2.2.2.2.2.2.2.1,r.2.2.2.2.2.2.2.2.2.2.1,r.2.2.2.2.2.2.2.2.2.2.2.1)
def Qzc (x:Qc) (r:QlX):Qc×List (List Int)×Int:=bif r.2.2.2.2.2.2.2.2.2.2.2.2 then((rcv x (QFO r)).1,(rcv x (QFO r)).2.1.map bytesOf,(rcv x (QFO r)).2.2)else(x,[],1)
def QtT (x:Qc) (b:List Int):Qc×List (List Int)×Int:=Qzc x (QnX b)
def QAU (r:Qc×List (List Int)×Int):Int×Int×(List Qf)×(List Qa)×(List Int)×Int×Int×Int×(List Qk)×(List Int)×(List Int)×(List (List Int))×Int×Int×(List QB)×Int×Int×Int×(List QR)×(List (List Int))×Int:=(r.1.1,r.1.2.1,r.1.2.2.1,r.1.2.2.2.1,r.1.2.2.2.2.1,r.1.2.2.2.2.2.1,r.1.2.2.2.2.2.2.1,r.1.2.2.2.2.2.2.2.1,r.1.2.2.2.2.2.2.2.2.1,r.1.2.2.2.2.2.2.2.2.2.1,r.1.2.2.2.2.2.2.2.2.2.2.1,r.1.2.2.2.2.2.2.2.2.2.2.2.1,r.1.2.2.2.2.2.2.2.2.2.2.2.2.1,r.1.2.2.2.2.2.2.2.2.2.2.2.2.2.1,r.1.2.2.2.2.2.2.2.2.2.2.2.2.2.2.1,r.1.2.2.2.2.2.2.2.2.2.2.2.2.2.2.2.1,r.1.2.2.2.2.2.2.2.2.2.2.2.2.2.2.2.2.1,r.1.2.2.2.2.2.2.2.2.2.2.2.2.2.2.2.2.2.1,r.1.2.2.2.2.2.2.2.2.2.2.2.2.2.2.2.2.2.2,r.2.1,r.2.2)
theorem QJz {x:Qc}(h:NOk x) (b:List Int):NOk (QtT x b).1:=by
 unfold QtT Qzc
 cases(QnX b).2.2.2.2.2.2.2.2.2.2.2.2
 ·exact h
 ·exact Qsf h _
theorem QEy (x:Qc) (m:QS):(rcv x m).2.1.length<=1:=by
 unfold rcv
 cases yy x m
 ·simp
 ·cases decide (m.1=0)
  ·cases decide (m.1=1)
   ·cases decide (m.1=2)
    ·cases decide (m.1=3)
     ·cases decide (m.1=4)
      ·cases decide (find x m false<0)<;>simp
      ·cases decide (find x m true<0)<;>simp
     ·cases decide (find x m false<0)<;>simp
    ·cases X7 x m<;>simp
   ·simp
  ·simp
theorem QFI (m:QS) (h:Qal m):Vt w (m.1,m.2.1,m.2.2.1,m.2.2.2.1,m.2.2.2.2.1,m.2.2.2.2.2.1,m.2.2.2.2.2.2.1,m.2.2.2.2.2.2.2)=some (bytesOf m):=QFj m h
theorem QDN (m:QS) (h:Qal m):Vk w (m.1,m.2.1,m.2.2.1,m.2.2.2.1,m.2.2.2.2.1,m.2.2.2.2.2.1,m.2.2.2.2.2.2.1,m.2.2.2.2.2.2.2)=some (bytesOf m):=QDv m h
theorem QCE {m:QS}(h:Kc m=true):Qal m:=by
 have hs:=QkQ m.1 m.2.1 m.2.2.1 m.2.2.2.1 m.2.2.2.2.1 m.2.2.2.2.2.1 m.2.2.2.2.2.2.1 m.2.2.2.2.2.2.2.1 m.2.2.2.2.2.2.2.2.1 m.2.2.2.2.2.2.2.2.2.1 m.2.2.2.2.2.2.2.2.2.2.1 m.2.2.2.2.2.2.2.2.2.2.2 h
 have h4:=Kl hs.2.2.2.1
 simp only[Qal,smM,maxLen]at*
 omega
theorem QGJ (c:Int) (x:Qc) (l:List QS) (hl:l.length<=1) (hsm:∀a∈l,Qal a):ZK wl (c,(l.length:Int),0,n11T x (l,[]))=some (c,n11T x (l.map bytesOf)):=by
 have e:=Q0 l.length (fun i (o:List (List Int))=>ZK wl (c,(l.length:Int),(i:Int),n11T x (l,o))) (fun i o=>(c,n11T x (o++(l.drop i).map bytesOf))) (fun i o=>o.length=i)
  (fun i hi o ho ih=>by
    apply vE
    have ih1:=ih (o++[bytesOf l[i]]) (by simp[ho])
    have hb:=QFI l[i] (hsm _ (QRf hi))
    simp only[zu,ilt hi,Qj hi,Qg hi,QQ1,hb,QQ0,inc hi (show l.length<=maxLen by simp only[maxLen];omega)]
    rw[Qu (by simp;omega),QQ1,ih1,QRa hi,QY24,QRc]
    rfl)
  (fun o ho=>by
    apply vE
    simp only[zu,Qo,QQ2,QRl,List.map_nil,QY11])
  [] rfl
 simpa using e
theorem QDt (c:Int) (x:Qc) (l:List QS) (hl:l.length<=1) (hsm:∀a∈l,Qal a):ZM wl (c,0,[],n11T x (l))=some (c,l.map bytesOf,n11E x):=by
 have e:=Q0 l.length (fun i (o:List (List Int))=>ZM wl (c,(i:Int),o,n11T x (l))) (fun i o=>(c,o++(l.drop i).map bytesOf,n11E x)) (fun i o=>o.length=i)
  (fun i hi o ho ih=>by
    apply vH
    have ih1:=ih (o++[bytesOf l[i]]) (by simp[ho])
    have hb:=QDN l[i] (hsm _ (QRf hi))
    simp only[zI,ilt hi,Qj hi,Qg hi,QQ1,hb,QQ0,inc hi (show l.length<=maxLen by simp only[maxLen];omega)]
    rw[Qu (by simp;omega),QQ1,ih1,QRa hi,QY24,QRc]
    rfl)
  (fun o ho=>by
    apply vH
    simp only[zI,Qo,QQ2,QRl,List.map_nil,QY11])
  [] rfl
 simpa using e
theorem Qvx (x:Qc) (h:NOk x) {b:List Int}(hb:Bs b):xx w (n11T x (b))=some (QAU (QtT x b)):=by
 apply QpY
 simp only[QbQ,QIB hb,QQ0,QtT]
 rcases Qx6 hb.isb with e|⟨m,e,hm,_⟩
 ·rw[e]
  simp only[QfM,QQ4,QQ1,QE8 h,QQ0,Qzc,QQ2];rfl
 ·rw[e]
  have hr:=QF3 x h m (QCE hm)
  have ha:=QGJ (rcv x m).2.2 (rcv x m).1 (rcv x m).2.1 (QEy x m) (fun a ha=>(QES h m a ha).1)
  simp only[QcR,QQ3,QQ2,hr,QQ0,Qzc,QQ1,flat,ha]
  rfl
theorem QtH (x:Qc) (h:NOk x) {b:List Int}(hb:Bs b):xr w (n11T x (b))=some (QAU (QtT x b)):=by
 apply QpB
 simp only[QbK,QHU hb,QHX hb.isb,QQ0,QtT]
 rcases Qx6 hb.isb with e|⟨m,e,hm,_⟩
 ·rw[e]
  simp only[QfM,QQ4,QQ1,Qpo h,QQ0,Qzc,QQ2];rfl
 ·rw[e]
  have hr:=QDm x h m (QCE hm)
  have ha:=QDt (rcv x m).2.2 (rcv x m).1 (rcv x m).2.1 (QEy x m) (fun a ha=>(QES h m a ha).1)
  simp only[QcR,QQ3,QQ2,hr,QQ0,Qzc,QQ1,flat,ha]
  rfl
def yc (a:List Int) (n:Int):Bool:=decide (((a.length:Nat):Int)=n)&&(List.range' 0 a.length).all fun k=>decide (((k:Nat):Int)∈a)
theorem QzY {i n:Nat}(h:i<n) (f:Nat->Bool):(List.range' i (n - i)).all f=(f i&&(List.range' (i+1) (n - (i+1))).all f):=by
 rw[show n - i=(n - (i+1))+1 by omega,List.range'_succ];simp
theorem Qyg (a:List Int) (n:Int) (h:a.length<=maxLen):zH w (a,n)=some (yc a n):=by
 apply QqO
 by_cases hn:((a.length:Nat):Int)=n
 ·subst hn
  have e:=Q3 a.length (fun i=>Ka wl (a,((a.length:Nat):Int),(i:Int))) (fun i=>bif (List.range' i (a.length - i)).all (fun k=>decide (((k:Nat):Int)∈a))then .inr ()else .inl false)
   (fun i hi ih=>by
     apply Qaw
     rw[QzY hi]
     simp only[yH,ilt hi,QQ1,Qn5 a _ h,QQ0,inc hi h,ih]
     cases decide ((i:Int)∈a)<;>simp)
   (by
     apply Qaw
     simp[yH])
  simp only[QQ6,Nat.sub_zero]at e
  simp only[zo,e,QQ0,yc,decide_true,QQ3,QQ2,QRd]
  cases(List.range' 0 a.length).all (fun k=>decide (((k:Nat):Int)∈a))<;>rfl
 ·simp only[zo,yc,df hn,QQ4,QQ1,QRm]
theorem QvI (a:List Int) (n:Int) (h:a.length<=maxLen):zM w (a,n)=some (yc a n):=by
 apply QqP
 by_cases hn:((a.length:Nat):Int)=n
 ·subst hn
  have e:=Q3 a.length (fun i=>Y8 wl (a,((a.length:Nat):Int),(i:Int))) (fun i=>bif (List.range' i (a.length - i)).all (fun k=>decide (((k:Nat):Int)∈a))then .inr ()else .inl false)
   (fun i hi ih=>by
     apply Qan
     rw[QzY hi]
     simp only[yI,ilt hi,QQ1,QuE a _ h,QQ0,inc hi h,ih]
     cases decide ((i:Int)∈a)<;>simp)
   (by
     apply Qan
     simp[yI])
  simp only[QQ6,Nat.sub_zero]at e
  simp only[zx,e,QQ0,yc,decide_true,QQ3,QQ2,QRd]
  cases(List.range' 0 a.length).all (fun k=>decide (((k:Nat):Int)∈a))<;>rfl
 ·simp only[zx,yc,df hn,QQ4,QQ1,QRm]
theorem Qvl:(r a:List Int)->r.Nodup->(∀x∈r,x∈a)->a.length=r.length->∀x∈a,x∈r
 | [],a,_,_,hl,x,hx=>by
   have:a=[]:=List.length_eq_zero_iff.1 hl
   rw[this]at hx;exact hx
 |k::r,a,hn,hs,hl,x,hx=>by
  have hk:=hs k (by simp)
  have hn':=QY4.1 hn
  have ih:=Qvl r (a.erase k) hn'.2 (fun y hy=>(List.mem_erase_of_ne (fun e=>hn'.1 (by rw[<-e];exact hy))).2 (hs y (by simp[hy]))) (by rw[List.length_erase_of_mem hk,hl];simp)
  by_cases e:x=k
  ·rw[e];simp
  ·exact QRk.2 (.inr (ih x ((List.mem_erase_of_ne e).2 hx)))
theorem Qzz:(l:List Nat)->l.Nodup->(l.map fun k:Nat=>(k:Int)).Nodup
 | [],_=>QY5
 |k::l,h=>by
  have h':=QY4.1 h
  rw[QY24,QY4]
  refine⟨fun hm=> ?_,Qzz l h'.2⟩
  obtain⟨j,hj,e⟩:=QY18.1 hm
  have:j=k:=by omega
  rw[this]at hj
  exact h'.1 hj
theorem QtY {a:List Int}{n:Nat}(h:yc a (n:Int)=true):a.length=n/\∀x∈a,∃j:Nat,x=(j:Int)/\j<n:=by
 simp only[yc,QQ5,QRu,QRt]at h
 have hl:a.length=n:=by omega
 refine⟨hl,fun x hx=> ?_⟩
 have hmem:=Qvl ((List.range' 0 a.length).map fun k:Nat=>(k:Int)) a (Qzz _ (List.nodup_range' ..)) (fun y hy=>by
  obtain⟨k,hk,rfl⟩:=QY18.1 hy
  exact h.2 k hk) (by simp) x hx
 obtain⟨k,hk,rfl⟩:=QY18.1 hmem
 rw[List.mem_range']at hk
 obtain⟨j,hj,rfl⟩:=hk
 exact⟨_,rfl,by omega⟩
def QuP (p:Qs) (ns:List Qc):List Qc:=ns.set p.1.toNat (QtT (nodeAt ns p.1) p.2.1).1
def give (net:List Qs):List Int->List Qc->List Qc
 | [],ns=>ns
 |i::l,ns=>give net l (QuP (rd1 VH net i) ns)
structure All (n:Nat) (ns:List Qc):Prop where
 nodes:∀x∈ns,NOk x
 len:ns.length=n
theorem Qrg {n:Nat}{ns:List Qc}(h:All n ns) {p:Qs}{t:Nat}(e:p.1=(t:Int)) (ht:t<n):All n (QuP p ns):=by
 have hl:=h.len
 unfold QuP
 rw[e,Qel (show t<ns.length by omega)]
 exact⟨Qyo h.nodes (QJz (h.nodes _ (QRf _)) _),by simp[hl]⟩
theorem Qyk (order:List Int) (src:List Qc) (net:List Qs) (sd:List Qt) (net':List Qs) (sd':List Qt) (n:Nat) (ho:∀x∈order,∃j:Nat,x=(j:Int)/\j<net.length) (hol:order.length<=maxLen) (hp:∀p∈net,∃t:Nat,p.1=(t:Int)/\t<n) (hb:∀p∈net,Bs p.2.1) (ns:List Qc) (h:All n ns):
 K1 wl (order,(order.length:Int),0,src,net,sd,ns,net',sd')=some (give net order ns,net',sd')/\K8 wl (order,0,src,net,sd,ns,net',sd')=some (give net order ns,net',sd')/\All n (give net order ns):=by
 have e1:=Q0 order.length (fun i (o:List Qc)=>K1 wl (order,(order.length:Int),(i:Int),src,net,sd,o,net',sd')) (fun i o=>(give net (order.drop i) o,net',sd')) (fun i o=>All n o)
  (fun i hi o hA ih=>by
    apply Qh2
    obtain⟨j,ej,hj⟩:=ho _ (QRf hi)
    obtain⟨t,et,ht⟩:=hp _ (QRf hj)
    have hto:t<o.length:=by rw[hA.len];exact ht
    have hA':=Qrg hA et ht
    have ih1:=ih _ hA'
    have hR:=Qvx o[t] (hA.nodes _ (QRf hto)) (hb _ (QRf hj))
    rw[QRa hi,give,ej,Qg hj]
    unfold QuP at ih1⊢
    rw[et,Qel hto]at ih1⊢
    simp only[Qeg,ilt hi,Qj hi,Qg hi,QQ1,ej,Qj hj,Qg hj,et,Qj hto,Qg hto,hR,QQ0,inc hi hol,QAU]
    exact ih1)
  (fun o _=>by
    apply Qh2
    simp only[Qeg,Qo,QQ2,QRl,give])
  ns h
 have e2:=Q0 order.length (fun i (o:List Qc)=>K8 wl (order,(i:Int),src,net,sd,o,net',sd')) (fun i o=>(give net (order.drop i) o,net',sd')) (fun i o=>All n o)
  (fun i hi o hA ih=>by
    apply QhO
    obtain⟨j,ej,hj⟩:=ho _ (QRf hi)
    obtain⟨t,et,ht⟩:=hp _ (QRf hj)
    have hto:t<o.length:=by rw[hA.len];exact ht
    have hA':=Qrg hA et ht
    have ih1:=ih _ hA'
    have hR:=QtH o[t] (hA.nodes _ (QRf hto)) (hb _ (QRf hj))
    rw[QRa hi,give,ej,Qg hj]
    unfold QuP at ih1⊢
    rw[et,Qel hto]at ih1⊢
    simp only[Qcd,ilt hi,Qj hi,Qg hi,QQ1,ej,Qj hj,Qg hj,et,Qj hto,Qg hto,hR,QQ0,inc hi hol,QAU]
    exact ih1)
  (fun o _=>by
    apply QhO
    simp only[Qcd,Qo,QQ2,QRl,give])
  ns h
 simp only[QQ6,QRg]at e1 e2
 refine⟨e1,e2, ?_⟩
 clear e1 e2
 induction order generalizing ns with
 |nil=>exact h
 |cons i l ihl=>
  obtain⟨j,ej,hj⟩:=ho i (by simp)
  obtain⟨t,et,ht⟩:=hp _ (QRf hj)
  rw[give,ej,Qg hj]
  exact ihl (fun x hx=>ho x (by simp[hx])) (by simp only[QY1]at hol;omega) _ (Qrg h et ht)
def QfJ (ns:List Qc) (net:List Qs) (sd:List Qt) (order:List Int):ZH:=bif YY ns net sd then(bif yc order (net.length:Int)then(give net order ns,[],sd)else(ns,net,sd))else(ns,net,sd)
theorem QBn {ns:List Qc}{net:List Qs}{sd:List Qt}(wk:WOk ns net sd):∀p∈net,∃t:Nat,p.1=(t:Int)/\t<ns.length:=fun p hp=>V0 (wk.nets p hp)
theorem QFP (ns:List Qc) (net:List Qs) (sd:List Qt) (order:List Int) (h:Xl (ns,net,sd)<=4294967296) (hs:smW ns net sd) (hol:order.length<=maxLen) (hb:∀p∈net,Bs p.2.1):jO w (ns,net,sd,order)=some (QfJ ns net sd order):=by
 apply QvL
 simp only[QlM,QCP ns net sd h,QGi ns net sd hs,Qyg order _ hol,QQ0,QfJ]
 cases hw:YY ns net sd
 ·rfl
 ·cases hp:yc order (net.length:Int)
  ·rfl
  ·have wk:=QlP hw
   have e:=Qyk order ns net sd net sd ns.length (QtY hp).2 hol (QBn wk) hb ns ⟨Qym wk,rfl⟩
   simp only[QQ3,QQ2,QQ1,e.1,QQ0]
theorem QEo (ns:List Qc) (net:List Qs) (sd:List Qt) (order:List Int) (h:Xl (ns,net,sd)<=4294967296) (hs:smW ns net sd) (hol:order.length<=maxLen) (hb:∀p∈net,Bs p.2.1):Qcx w (ns,net,sd,order)=some (QfJ ns net sd order):=by
 apply Qva
 simp only[Qj9,QGb ns net sd h,QDY ns net sd hs,QvI order _ hol,QQ0,QfJ]
 cases hw:YY ns net sd
 ·rfl
 ·cases hp:yc order (net.length:Int)
  ·rfl
  ·have wk:=QlP hw
   have e:=Qyk order ns net sd net sd ns.length (QtY hp).2 hol (QBn wk) hb ns ⟨Qym wk,rfl⟩
   simp only[QQ3,QQ2,QQ1,e.2.1,QQ0]
theorem QGX {ns:List Qc}{net:List Qs}{sd:List Qt}(order:List Int) (h:Xl (ns,net,sd)<=1048576) (hol:order.length<=maxLen) (hb:∀p∈net,Bs p.2.1):Xl (QfJ ns net sd order)<=1100000:=by
 unfold QfJ
 cases hw:YY ns net sd
 ·exact QY17 h (by omega)
 ·cases hp:yc order (net.length:Int)
  ·exact QY17 h (by omega)
  ·have wk:=QlP hw
   have h5:=wk.n5
   have h40:=wk.sd40
   have e:=(Qyk order ns net sd net sd ns.length (QtY hp).2 hol (QBn wk) hb ns ⟨Qym wk,rfl⟩).2.2
   exact(Qs1 (net:=[]) e.nodes (by rw[e.len];omega) (by simp[XH,Qi]) (QGs hw) (by omega)).1
theorem QJG {a0:List Qc}{a1:List Qs}{a2:List Qt}(ha:JI QlZ (a0,a1,a2)) (h:Xl (a0,a1,a2)<=1048576):∀p∈a1,Bs p.2.1:=fun p hp=>by
 refine⟨fun x hx=> ?_, ?_⟩
 ·have h1:(Lit.int .u8 x).wf=true:=((ha.2.1.2 p hp).2.1.2 x hx).1
  have h2:IntKind.u8.min<=x/\x<=IntKind.u8.max:=by simpa[Lit.wf]using h1
  have e0:IntKind.u8.min=0:=rfl
  have e1:IntKind.u8.max=255:=rfl
  omega
 ·have h1:=YI Xb hp
  have h2:Xl (a0,a1,a2)=XV a0+(a1.length+Qi Xb a1)+XU a2:=rfl
  have h3:Xb p=p.2.1.length:=rfl
  omega
set_option maxHeartbeats 4000000 in
theorem QMH (a0:List Qc) (a1:List Qs) (a2:List Qt) (a3:List Int) (ha:JI QlZ (a0,a1,a2)) (hf3:QfA a3):yD w (a0,a1,a2,a3)=some true:=by
 apply Qn7
 have hf:QfE (a0,a1,a2):=QIl ha
 have hs:=QJ5 hf
 simp only[vG,QJJ a0 a1 a2 1048576 (by omega) (by omega) hf,QQ0]
 by_cases h3:(1048576:Int)<(a3.length:Int)
 ·rw[dt h3,QQ1]
 rw[df h3,QQ2]
 by_cases h:(Xl (a0,a1,a2):Int)<=1048576
 ·rw[V2 h,df (by omega),QQ2]
  have hb:=QJG ha (by omega)
  have hol:a3.length<=maxLen:=hf3
  have hz:=QGX a3 (show Xl (a0,a1,a2)<=1048576 by omega) hol hb
  have hi:=QFP a0 a1 a2 a3 (by omega) hs hol hb
  have hq:=QEo a0 a1 a2 a3 (by omega) hs hol hb
  have ht:=QJf a0 a1 a2 (by omega)
  have he:=QCH a0 a1 a2 (by omega)
  have h3m:QW a3<=4294967296:=by simp only[QW];omega
  have ht3:=Qpq a3 h3m
  have he3:=QoD a3 h3m
  have hc3:=QgL a3
  obtain⟨k,m0,m1,m2,hk,hkb,hm,hh⟩:=Qs3 (a0,a1,a2) (by omega)
  have hm3:=Qr1 a3 k hk (by simp only[QW]at hc3;omega) h3m
  simp only at hm
  generalize QfJ a0 a1 a2 a3=r at hi hq hz
  obtain⟨k',n0,n1,n2,hk',_,hm',hh'⟩:=Qs3 r (by omega)
  have he2:KF w (r.1,r.2.1,r.2.2,r)=some true:=QCH r.1 r.2.1 r.2.2 (show Xl r<=4294967296 by omega)
  simp only[ht,ht3,hi,hq,he,he3,hm,hm3,hm',hh',he2,QQ0,QQ3,QQ2,df (show¬k+((Qi (fun _=>1) a3:Nat):Int)<0 by omega),df (show¬k'<0 by omega),decide_true]
 ·rw[K3 h,dt (by omega),QQ1]
end Go.Proofs.YtiejfnbmficbmaaGreat.M
