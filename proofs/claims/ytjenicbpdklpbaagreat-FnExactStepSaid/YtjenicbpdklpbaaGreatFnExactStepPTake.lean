/- What the plain forms that FnExactStep reaches come to: PTake. No conditions but those that each theorem states. -/
import Derived.Test.YtjenicbpdklpbaaGreatFnExactStepPTab
set_option linter.all false
namespace Go.Proofs.YtjenicbpdklpbaaGreat.M
open Go Go.Eng Go.Proofs
set_option linter.unusedVariables false
theorem ye {s:Qj}(h:QC s=true):QG s<=60:=by
 have hl:=Kj h
 simp only[QC,QQ5]at h
 have:=QwZ _ _ _ h.2
 simp only[QG,XV,XP];omega
theorem QhX {α:Type}(c:α->Nat) (k:Nat):(l:List α)->(∀x∈l,c x<=k)->Qi c l<=k*l.length
 | [],_=>by simp[Qi]
 |x::l,h=>by
  have:=h x (by simp)
  have:=QhX c k l (fun y hy=>h y (by simp[hy]))
  simp only[Qi,List.length_cons,Nat.mul_add];omega
structure NOk (x:Qb):Prop where
 n:inR x.2.1 1 5=true
 id:inR x.1 0 (x.2.1 - 1)=true
 st:QC (x.2.2.1,x.2.2.2.1)=true
 tree:(x.2.2.2.2.1,x.2.2.2.2.2.1)=X8 (x.2.2.1,x.2.2.2.1)
 log:Zf (x.2.2.2.2.2.2.1,x.2.2.2.2.2.2.2.1,x.2.2.2.2.2.2.2.2.1)=true
 got:Yj x.2.2.2.2.2.2.2.2.2.1 x.2.1=true
 ack:Yj x.2.2.2.2.2.2.2.2.2.2.1 x.2.1=true
 own:x.2.2.2.2.2.2.2.2.2.1.getD (x.1).toNat 0=Xd (x.2.2.2.2.2.2.1,x.2.2.2.2.2.2.2.1,x.2.2.2.2.2.2.2.2.1)
 heard:(x.2.2.2.2.2.2.2.2.2.2.1.all fun y=>decide (y<=Xd (x.2.2.2.2.2.2.1,x.2.2.2.2.2.2.2.1,x.2.2.2.2.2.2.2.2.1)))=true
 seen:KI x.2.2.2.2.2.2.2.2.2.2.2.1 x.2.1=true
 num:inR x.2.2.2.2.2.2.2.2.2.2.2.2.1 0 100000=true
 clock:inR x.2.2.2.2.2.2.2.2.2.2.2.2.2.2.2.2.2.1 0 100000=true
 wait:inR x.2.2.2.2.2.2.2.2.2.2.2.2.2.2.2.1 1 20=true
 limit:inR x.2.2.2.2.2.2.2.2.2.2.2.2.2.2.2.2.1 1 50=true
 slots:inR x.2.2.2.2.2.2.2.2.2.2.2.2.2.1 1 4=true
 room:((x.2.2.2.2.2.2.2.2.2.2.2.2.2.2.1.length:Nat):Int)<=x.2.2.2.2.2.2.2.2.2.2.2.2.2.1
 sess:X9 x.1 x.2.1 x.2.2.2.2.2.2.2.2.2.2.2.2.2.2.2.1 [] x.2.2.2.2.2.2.2.2.2.2.2.2.2.2.1=true
 rlen:((x.2.2.2.2.2.2.2.2.2.2.2.2.2.2.2.2.2.2.length:Nat):Int)=5
 rises:x.2.2.2.2.2.2.2.2.2.2.2.2.2.2.2.2.2.2.all (ZV x.2.2.2.2.2.2.2.2.2.2.2.2.2.2.2.2.2.1)=true
theorem nok {x:Qb}(h:VA x=true):NOk x:=by
 simp only[VA,Qju,QQ5,QRu]at h
 obtain⟨⟨⟨⟨⟨⟨⟨⟨⟨⟨⟨⟨⟨⟨⟨⟨⟨⟨h1,h2⟩,h3⟩,h4⟩,h5⟩,h6⟩,h7⟩,h8⟩,h9⟩,h10⟩,h11⟩,h12⟩,h13⟩,h14⟩,h15⟩,h16⟩,h17⟩,h18⟩,h19⟩:=h
 exact⟨h1,h2,h3,h4,h5,h6,h7,h8,h9,h10,h11,h12,h13,h14,h15,h16,h17,h18,h19⟩
theorem QEi {x:Qb}(h:NOk x):VA x=true:=by
 simp only[VA,Qju,QQ5,QRu]
 exact⟨⟨⟨⟨⟨⟨⟨⟨⟨⟨⟨⟨⟨⟨⟨⟨⟨⟨h.n,h.id⟩,h.st⟩,h.tree⟩,h.log⟩,h.got⟩,h.ack⟩,h.own⟩,h.heard⟩,h.seen⟩,h.num⟩,h.clock⟩,h.wait⟩,h.limit⟩,h.slots⟩,h.room⟩,h.sess⟩,h.rlen⟩,h.rises⟩
theorem QW {n a b:Int}:inR n a b=true↔a<=n/\n<=b:=by simp[inR]
theorem yF {v:List Int}{n:Int}(h:Yj v n=true):((v.length:Nat):Int)=n/\∀y∈v,inR y 0 100000=true:=by
 simp only[Yj,QQ5,QRu,QRt]at h
 exact⟨h.1.2,h.2⟩
theorem QEG {g:Zs}(h:Zf g=true):∀s∈g.2.2,QC s=true:=by
 simp only[Zf,QQ5,QRt]at h
 exact h.2
theorem Qj8 {t:List (List Int)}{n:Int}(h:KI t n=true):((t.length:Nat):Int)=n/\∀r∈t,xR r=true:=by
 simp only[KI,QQ5,QRu,QRt]at h
 exact⟨h.1.2,h.2⟩
theorem Qlo {r:List Int}(h:xR r=true):r.length=5:=by
 simp only[xR,QQ5,QRu]at h
 omega
theorem Xr {x:Qb}(h:NOk x):Q8 x<=2000/\Qzo x:=by
 have h1:=Kj h.st
 have h2:=ye h.st
 have h3:x.2.2.2.2.1.length=4:=by
  have:=h.tree
  rw[X8,h.st]at this
  have:=congrArg (fun z:Zi=>z.1.length) this
  simpa[leaves]using this
 have h4:=Qhw h.log
 have h5:=QEG h.log
 have h6:=yF h.got
 have h7:=yF h.ack
 have h8:=Qj8 h.seen
 have hn:=QW.1 h.n
 have hs:=QW.1 h.slots
 have hr:=h.room
 have hl:=h.rlen
 have k1:Qi QG x.2.2.2.2.2.2.2.2.1<=60*x.2.2.2.2.2.2.2.2.1.length:=QhX _ _ _ fun s hs=>ye (h5 s hs)
 have k2:Qi QU x.2.2.2.2.2.2.2.2.2.2.2.1<=5*x.2.2.2.2.2.2.2.2.2.2.2.1.length:=QhX _ _ _ fun r hr=>by
  have:=Qlo (h8.2 r hr)
  simp only[QU];omega
 try simp only at h1 h4 h5
 constructor
 ·simp only[Q8,Zz,Z7,XY,QU,Xx,Z5,Z6]
  omega
 ·refine⟨by simp only[maxLen];omega,by simp only[maxLen];omega,by simp only[maxLen];omega,by simp only[maxLen];omega,fun s hs=>XX (h5 s hs),by simp only[maxLen];omega,by simp only[maxLen];omega,by simp only[maxLen];omega,fun r hr=> ?_,by simp only[maxLen];omega,by simp only[maxLen];omega⟩
  have:=Qlo (h8.2 r hr)
  simp only[maxLen];omega
theorem Qtf {x:Qb}(h:NOk x):ZH w (x.1,x.2.1,x.2.2.1,x.2.2.2.1,x.2.2.2.2.1,x.2.2.2.2.2.1,x.2.2.2.2.2.2.1,x.2.2.2.2.2.2.2.1,x.2.2.2.2.2.2.2.2.1,x.2.2.2.2.2.2.2.2.2.1,x.2.2.2.2.2.2.2.2.2.2.1,x.2.2.2.2.2.2.2.2.2.2.2.1,x.2.2.2.2.2.2.2.2.2.2.2.2.1,x.2.2.2.2.2.2.2.2.2.2.2.2.2.1,x.2.2.2.2.2.2.2.2.2.2.2.2.2.2.1,x.2.2.2.2.2.2.2.2.2.2.2.2.2.2.2.1,x.2.2.2.2.2.2.2.2.2.2.2.2.2.2.2.2.1,x.2.2.2.2.2.2.2.2.2.2.2.2.2.2.2.2.2.1,x.2.2.2.2.2.2.2.2.2.2.2.2.2.2.2.2.2.2)=some x:=QqY x (by have:=(Xr h).1;omega)
theorem QfK {x:Qb}(h:NOk x):Xq w (x.1,x.2.1,x.2.2.1,x.2.2.2.1,x.2.2.2.2.1,x.2.2.2.2.2.1,x.2.2.2.2.2.2.1,x.2.2.2.2.2.2.2.1,x.2.2.2.2.2.2.2.2.1,x.2.2.2.2.2.2.2.2.2.1,x.2.2.2.2.2.2.2.2.2.2.1,x.2.2.2.2.2.2.2.2.2.2.2.1,x.2.2.2.2.2.2.2.2.2.2.2.2.1,x.2.2.2.2.2.2.2.2.2.2.2.2.2.1,x.2.2.2.2.2.2.2.2.2.2.2.2.2.2.1,x.2.2.2.2.2.2.2.2.2.2.2.2.2.2.2.1,x.2.2.2.2.2.2.2.2.2.2.2.2.2.2.2.2.1,x.2.2.2.2.2.2.2.2.2.2.2.2.2.2.2.2.2.1,x.2.2.2.2.2.2.2.2.2.2.2.2.2.2.2.2.2.2)=some x:=QsL x (by have:=(Xr h).1;omega)
theorem okN {x:Qb}(h:NOk x):ZE w (x.1,x.2.1,x.2.2.1,x.2.2.2.1,x.2.2.2.2.1,x.2.2.2.2.2.1,x.2.2.2.2.2.2.1,x.2.2.2.2.2.2.2.1,x.2.2.2.2.2.2.2.2.1,x.2.2.2.2.2.2.2.2.2.1,x.2.2.2.2.2.2.2.2.2.2.1,x.2.2.2.2.2.2.2.2.2.2.2.1,x.2.2.2.2.2.2.2.2.2.2.2.2.1,x.2.2.2.2.2.2.2.2.2.2.2.2.2.1,x.2.2.2.2.2.2.2.2.2.2.2.2.2.2.1,x.2.2.2.2.2.2.2.2.2.2.2.2.2.2.2.1,x.2.2.2.2.2.2.2.2.2.2.2.2.2.2.2.2.1,x.2.2.2.2.2.2.2.2.2.2.2.2.2.2.2.2.2.1,x.2.2.2.2.2.2.2.2.2.2.2.2.2.2.2.2.2.2)=some true:=by rw[<-QEi h];exact Qze x (Xr h).2
theorem QDY {x:Qb}(h:NOk x):Yp w (x.1,x.2.1,x.2.2.1,x.2.2.2.1,x.2.2.2.2.1,x.2.2.2.2.2.1,x.2.2.2.2.2.2.1,x.2.2.2.2.2.2.2.1,x.2.2.2.2.2.2.2.2.1,x.2.2.2.2.2.2.2.2.2.1,x.2.2.2.2.2.2.2.2.2.2.1,x.2.2.2.2.2.2.2.2.2.2.2.1,x.2.2.2.2.2.2.2.2.2.2.2.2.1,x.2.2.2.2.2.2.2.2.2.2.2.2.2.1,x.2.2.2.2.2.2.2.2.2.2.2.2.2.2.1,x.2.2.2.2.2.2.2.2.2.2.2.2.2.2.2.1,x.2.2.2.2.2.2.2.2.2.2.2.2.2.2.2.2.1,x.2.2.2.2.2.2.2.2.2.2.2.2.2.2.2.2.2.1,x.2.2.2.2.2.2.2.2.2.2.2.2.2.2.2.2.2.2)=some true:=by rw[<-QEi h];exact Qxe x (Xr h).2
def xK (c:Int) (rs:List QN) (x:Qd):List QN:=bif decide ((rd1 Zo rs x.1).1<x.2.1)then rs.set x.1.toNat (x.2.1,x.2.2.2.1,c)else(bif decide (x.2.1=(rd1 Zo rs x.1).1)then(bif decide ((rd1 Zo rs x.1).2.1<x.2.2.2.1)then rs.set x.1.toNat (x.2.1,x.2.2.2.1,c)else rs)else rs)
def qT (c:Int):List QN->List Qd->List QN
 |rs,[]=>rs
 |rs,x::l=>qT c (xK c rs x) l
theorem QiU (c:Int) (rs:List QN) (x:Qd):(xK c rs x).length=rs.length:=by
 unfold xK
 cases decide ((rd1 Zo rs x.1).1<x.2.1)<;>cases decide (x.2.1=(rd1 Zo rs x.1).1)<;>cases decide ((rd1 Zo rs x.1).2.1<x.2.2.2.1)<;>simp
theorem Qq4 (c:Int):(rs:List QN)->(l:List Qd)->(qT c rs l).length=rs.length
 |rs,[]=>rfl
 |rs,x::l=>by rw[qT,Qq4 c _ l,QiU]
theorem Qty (fl:List Qa):(p:Int)->(l:List Qd)->Xw fl p l=true->∀x∈l,inR x.1 0 4=true/\XF x.2=true
 |_,[],_=>by simp
 |p,x::l,h=>by
  simp only[Xw,QQ5]at h
  intro y hy
  rcases QRk.1 hy with rfl|hy
  ·exact⟨h.1.1.1.1,h.1.1.1.2⟩
  ·exact Qty fl _ l h.2 y hy
theorem QhF {s:Qj}(h:QC s=true):∀x∈s.1,inR x.1 0 4=true/\XF x.2=true:=by
 simp only[QC,QQ5]at h
 exact Qty _ _ _ h.2
theorem QCJ {c:Int}(hc:0<=c) {rs:List QN}(h:∀r∈rs,ZV c r=true) {x:Qd}(hx:XF x.2=true):∀r∈rs.set x.1.toNat (x.2.1,x.2.2.2.1,c),ZV c r=true:=by
 intro r hr
 rcases List.mem_or_eq_of_mem_set hr with hr|rfl
 ·exact h r hr
 ·have:=xU hx
  simp[ZV,inR];omega
theorem QA1 {c:Int}(hc:0<=c) {rs:List QN}(h:∀r∈rs,ZV c r=true) {x:Qd}(hx:XF x.2=true):∀r∈xK c rs x,ZV c r=true:=by
 have hs:=QCJ hc h hx
 unfold xK
 cases decide ((rd1 Zo rs x.1).1<x.2.1)<;>cases decide (x.2.1=(rd1 Zo rs x.1).1)<;>cases decide ((rd1 Zo rs x.1).2.1<x.2.2.2.1)<;>simp only[QQ1,QQ2]<;>assumption
theorem QtO {c:Int}(hc:0<=c):(rs:List QN)->(l:List Qd)->(∀r∈rs,ZV c r=true)->(∀x∈l,XF x.2=true)->∀r∈qT c rs l,ZV c r=true
 |rs,[],h,_=>h
 |rs,x::l,h,hl=>QtO hc _ l (QA1 hc h (hl x (by simp))) fun y hy=>hl y (by simp[hy])
theorem Qxl:(l:List Qa)->(r:List Int)->xR r=true->(∀m∈l,inR m.2 1 1000=true)->xR (Qcr r l)=true
 | [],r,h,_=>h
 |m::l,r,h,hl=>by
  refine Qxl l _ ?_ fun y hy=>hl y (by simp[hy])
  have hm:=QW.1 (hl m (by simp))
  simp only[xR,QQ5,QRt,QRu,List.length_set]at h⊢
  refine⟨fun y hy=> ?_,h.2⟩
  rcases List.mem_or_eq_of_mem_set hy with hy|rfl
  ·exact h.1 y hy
  ·have hq:0<=rd1 0 r m.1/\rd1 0 r m.1<=1000:=by
    unfold rd1
    by_cases hk:m.1.toNat<r.length
    ·have:=QW.1 (h.1 _ (QRf hk))
     simpa[List.getD,QRp hk]using this
    ·simp[List.getD,List.getElem?_eq_none (Nat.le_of_not_lt hk)]
   rw[QW]
   unfold mxI;split<;>omega
theorem Qex {t:List (List Int)}{n:Int}(h:KI t n=true) (k:Int) (l:List Qa):KI (K6 t k l) n=true:=by
 unfold K6
 cases hk:inR k 0 ((t.length:Nat) - 1)
 ·exact h
 ·obtain⟨j,rfl,hj⟩:=YI hk
  cases ho:QO (-1) l
  ·exact h
  ·simp only[QRd]
   cases(!decide (((List.length (rd1 ([]:List Int) t (j:Int)):Nat):Int)<5))
   ·exact h
   ·have hl:=QhL _ _ ho
    simp only[KI,QQ5,QRt,QRu,QQ1,List.length_set]at h⊢
    refine⟨h.1,fun r hr=> ?_⟩
    rcases List.mem_or_eq_of_mem_set hr with hr|rfl
    ·exact h.2 r hr
    ·rw[Qg hj]
     exact Qxl l _ (h.2 _ (QRf hj)) fun m hm=>(hl m hm).2
theorem QpD (t:List (List Int)) (k:Int) (l:List Qa):(K6 t k l).length=t.length:=by
 unfold K6;cases(inR k 0 ((t.length:Nat) - 1)&&(QO (-1) l&& !decide (((List.length (rd1 ([]:List Int) t k):Nat):Int)<5)))<;>simp
def ZL (x:Qb) (p:Qj):List (List Int):=K6 x.2.2.2.2.2.2.2.2.2.2.2.1 x.1 (marksOf (join (x.2.2.1,x.2.2.2.1) p))
def Xl (x:Qb) (p:Qj):Qj:=prune (join (x.2.2.1,x.2.2.2.1) p) (ZL x p)
def take (x:Qb) (p:Qj):Qb:=(x.1,x.2.1,(Xl x p).1,(Xl x p).2,(X8 (Xl x p)).1,(X8 (Xl x p)).2,x.2.2.2.2.2.2.1,x.2.2.2.2.2.2.2.1,x.2.2.2.2.2.2.2.2.1,x.2.2.2.2.2.2.2.2.2.1,x.2.2.2.2.2.2.2.2.2.2.1,ZL x p,x.2.2.2.2.2.2.2.2.2.2.2.2.1,x.2.2.2.2.2.2.2.2.2.2.2.2.2.1,x.2.2.2.2.2.2.2.2.2.2.2.2.2.2.1,x.2.2.2.2.2.2.2.2.2.2.2.2.2.2.2.1,x.2.2.2.2.2.2.2.2.2.2.2.2.2.2.2.2.1,x.2.2.2.2.2.2.2.2.2.2.2.2.2.2.2.2.2.1,qT x.2.2.2.2.2.2.2.2.2.2.2.2.2.2.2.2.2.1 x.2.2.2.2.2.2.2.2.2.2.2.2.2.2.2.2.2.2 (Xl x p).1)
theorem Qk3 {x:Qb}(h:NOk x) {p:Qj}(hp:QC p=true):QC (Xl x p)=true:=QCm (xF h.st hp) _
theorem QjR {x:Qb}(h:NOk x) {p:Qj}(hp:QC p=true):NOk (take x p) where
 n:=h.n
 id:=h.id
 st:=Qk3 h hp
 tree:=rfl
 log:=h.log
 got:=h.got
 ack:=h.ack
 own:=h.own
 heard:=h.heard
 seen:=Qex h.seen _ _
 num:=h.num
 clock:=h.clock
 wait:=h.wait
 limit:=h.limit
 slots:=h.slots
 room:=h.room
 sess:=h.sess
 rlen:=by simp only[take,Qq4];exact h.rlen
 rises:=QRt.2 (QtO (QW.1 h.clock).1 _ _ (QRt.1 h.rises) fun y hy=>(QhF (Qk3 h hp) y hy).2)
set_option maxHeartbeats 1000000 in
theorem QvC (x:Qb) (h:NOk x) (p:Qj) (hp:QC p=true):Qae w (x.1,x.2.1,x.2.2.1,x.2.2.2.1,x.2.2.2.2.1,x.2.2.2.2.2.1,x.2.2.2.2.2.2.1,x.2.2.2.2.2.2.2.1,x.2.2.2.2.2.2.2.2.1,x.2.2.2.2.2.2.2.2.2.1,x.2.2.2.2.2.2.2.2.2.2.1,x.2.2.2.2.2.2.2.2.2.2.2.1,x.2.2.2.2.2.2.2.2.2.2.2.2.1,x.2.2.2.2.2.2.2.2.2.2.2.2.2.1,x.2.2.2.2.2.2.2.2.2.2.2.2.2.2.1,x.2.2.2.2.2.2.2.2.2.2.2.2.2.2.2.1,x.2.2.2.2.2.2.2.2.2.2.2.2.2.2.2.2.1,x.2.2.2.2.2.2.2.2.2.2.2.2.2.2.2.2.2.1,x.2.2.2.2.2.2.2.2.2.2.2.2.2.2.2.2.2.2,p.1,p.2)=some ((take x p).1,(take x p).2.1,(take x p).2.2.1,(take x p).2.2.2.1,(take x p).2.2.2.2.1,(take x p).2.2.2.2.2.1,(take x p).2.2.2.2.2.2.1,(take x p).2.2.2.2.2.2.2.1,(take x p).2.2.2.2.2.2.2.2.1,(take x p).2.2.2.2.2.2.2.2.2.1,(take x p).2.2.2.2.2.2.2.2.2.2.1,(take x p).2.2.2.2.2.2.2.2.2.2.2.1,(take x p).2.2.2.2.2.2.2.2.2.2.2.2.1,(take x p).2.2.2.2.2.2.2.2.2.2.2.2.2.1,(take x p).2.2.2.2.2.2.2.2.2.2.2.2.2.2.1,(take x p).2.2.2.2.2.2.2.2.2.2.2.2.2.2.2.1,(take x p).2.2.2.2.2.2.2.2.2.2.2.2.2.2.2.2.1,(take x p).2.2.2.2.2.2.2.2.2.2.2.2.2.2.2.2.2.1,(take x p).2.2.2.2.2.2.2.2.2.2.2.2.2.2.2.2.2.2,true):=by
 have hsm:=Xr h
 have hst:=XX h.st
 have hjo:=xF h.st hp
 have hjs:=XX hjo
 have hto:=Qk3 h hp
 have hts:=XX hto
 have hmk:(marksOf (join (x.2.2.1,x.2.2.2.1) p)).length<=maxLen:=by
  have:=yn _ _ (yS (join (x.2.2.1,x.2.2.2.1) p)) (by omega)
  simp only[maxLen]
  rcases this with h|h
  ·omega
  ·rw[h];simp
 have hz11:Xx x.2.2.2.2.2.2.2.2.2.2.2.1<=4294967296:=(Km (x:=x) (by omega)).2.2.2
 have hsl:(ZL x p).length<=maxLen:=by rw[ZL,QpD];exact hsm.2.2.2.2.2.2.2.2.1
 have hsr:∀r∈ZL x p,r.length<=maxLen:=fun r hr=>by
  have:=Qlo ((Qj8 (Qex h.seen _ _)).2 r hr)
  simp only[maxLen];omega
 have hc:=Qtf h
 have hn:=okN h
 have hpo:Xp w (p.1,p.2)=some true:=by rw[<-hp];exact Zx p.1 p.2 (XX hp).1 (XX hp).2
 have hj:Zq w (x.2.2.1,x.2.2.2.1,p.1,p.2)=some (join (x.2.2.1,x.2.2.2.1) p):=QcG (x.2.2.1,x.2.2.2.1) p hst (XX hp)
 have hm:xC w (join (x.2.2.1,x.2.2.2.1) p)=some (marksOf (join (x.2.2.1,x.2.2.2.1) p)):=QsI _ _ hjs.1 hjs.2
 have ht:K9 w (x.2.2.2.2.2.2.2.2.2.2.2.1,x.1,marksOf (join (x.2.2.1,x.2.2.2.1) p))=some (ZL x p):=Qrz _ _ _ hz11 hmk
 have hpr:Qc3 w ((join (x.2.2.1,x.2.2.2.1) p).1,(join (x.2.2.1,x.2.2.2.1) p).2,ZL x p)=some (Xl x p):=QFp _ _ hjs (Nat.le_trans (ye hjo) (by decide)) hsl hsr
 have htr:zw w (Xl x p)=some (X8 (Xl x p)):=QwK _ _ hts.1 hts.2
 have e:=Xb (Xl x p).1.length (fun i (s:List QN)=>Ku wl ((((Xl x p).1.length:Nat):Int),(i:Int),x.1,x.2.1,x.2.2.1,x.2.2.2.1,x.2.2.2.2.1,x.2.2.2.2.2.1,x.2.2.2.2.2.2.1,x.2.2.2.2.2.2.2.1,x.2.2.2.2.2.2.2.2.1,x.2.2.2.2.2.2.2.2.2.1,x.2.2.2.2.2.2.2.2.2.2.1,x.2.2.2.2.2.2.2.2.2.2.2.1,x.2.2.2.2.2.2.2.2.2.2.2.2.1,x.2.2.2.2.2.2.2.2.2.2.2.2.2.1,x.2.2.2.2.2.2.2.2.2.2.2.2.2.2.1,x.2.2.2.2.2.2.2.2.2.2.2.2.2.2.2.1,x.2.2.2.2.2.2.2.2.2.2.2.2.2.2.2.2.1,x.2.2.2.2.2.2.2.2.2.2.2.2.2.2.2.2.2.1,x.2.2.2.2.2.2.2.2.2.2.2.2.2.2.2.2.2.2,x.1,x.2.1,(Xl x p).1,(Xl x p).2,(X8 (Xl x p)).1,(X8 (Xl x p)).2,x.2.2.2.2.2.2.1,x.2.2.2.2.2.2.2.1,x.2.2.2.2.2.2.2.2.1,x.2.2.2.2.2.2.2.2.2.1,x.2.2.2.2.2.2.2.2.2.2.1,ZL x p,x.2.2.2.2.2.2.2.2.2.2.2.2.1,x.2.2.2.2.2.2.2.2.2.2.2.2.2.1,x.2.2.2.2.2.2.2.2.2.2.2.2.2.2.1,x.2.2.2.2.2.2.2.2.2.2.2.2.2.2.2.1,x.2.2.2.2.2.2.2.2.2.2.2.2.2.2.2.2.1,x.2.2.2.2.2.2.2.2.2.2.2.2.2.2.2.2.2.1,s)) (fun i s=>(x.1,x.2.1,(Xl x p).1,(Xl x p).2,(X8 (Xl x p)).1,(X8 (Xl x p)).2,x.2.2.2.2.2.2.1,x.2.2.2.2.2.2.2.1,x.2.2.2.2.2.2.2.2.1,x.2.2.2.2.2.2.2.2.2.1,x.2.2.2.2.2.2.2.2.2.2.1,ZL x p,x.2.2.2.2.2.2.2.2.2.2.2.2.1,x.2.2.2.2.2.2.2.2.2.2.2.2.2.1,x.2.2.2.2.2.2.2.2.2.2.2.2.2.2.1,x.2.2.2.2.2.2.2.2.2.2.2.2.2.2.2.1,x.2.2.2.2.2.2.2.2.2.2.2.2.2.2.2.2.1,x.2.2.2.2.2.2.2.2.2.2.2.2.2.2.2.2.2.1,qT x.2.2.2.2.2.2.2.2.2.2.2.2.2.2.2.2.2.1 s ((Xl x p).1.drop i))) (fun _ s=>s.length=5)
  (fun i hi s hs ih=>by
    apply Ql2
    obtain⟨n,hn,hn5⟩:=QnO (QhF hto _ (QRf hi)).1 (show 5<=s.length by omega)
    have hi':=ih (xK x.2.2.2.2.2.2.2.2.2.2.2.2.2.2.2.2.2.1 s (Xl x p).1[i]) (by rw[QiU];exact hs)
    rw[QRa hi,qT]
    unfold xK at hi'⊢
    rw[hn]at hi'⊢
    simp only[Qkb,ilt hi,Qk hi,Qg hi,inc hi hts.1,QQ1,hn,Qk hn5]
    revert hi'
    cases decide ((rd1 Zo s (n:Int)).1<(Xl x p).1[i].2.1)<;>cases decide ((Xl x p).1[i].2.1=(rd1 Zo s (n:Int)).1)<;>cases decide ((rd1 Zo s (n:Int)).2.1<(Xl x p).1[i].2.2.2.1)<;>simp only[QQ1,QQ2]<;>exact fun h=>h)
  (fun s _=>by
    apply Ql2
    simp only[Qkb,Qm,QQ2,QRl,qT]) x.2.2.2.2.2.2.2.2.2.2.2.2.2.2.2.2.2.2 (by have:=h.rlen;omega)
 simp only[QQ6,QRg]at e
 apply QzF
 simp only[Qoy,hc,hn,hpo,hj,hm,ht,hpr,htr,e,QQ0,QQ3,QQ2,take]
set_option maxHeartbeats 1000000 in
theorem QnS (x:Qb) (h:NOk x) (p:Qj) (hp:QC p=true):xB w (x.1,x.2.1,x.2.2.1,x.2.2.2.1,x.2.2.2.2.1,x.2.2.2.2.2.1,x.2.2.2.2.2.2.1,x.2.2.2.2.2.2.2.1,x.2.2.2.2.2.2.2.2.1,x.2.2.2.2.2.2.2.2.2.1,x.2.2.2.2.2.2.2.2.2.2.1,x.2.2.2.2.2.2.2.2.2.2.2.1,x.2.2.2.2.2.2.2.2.2.2.2.2.1,x.2.2.2.2.2.2.2.2.2.2.2.2.2.1,x.2.2.2.2.2.2.2.2.2.2.2.2.2.2.1,x.2.2.2.2.2.2.2.2.2.2.2.2.2.2.2.1,x.2.2.2.2.2.2.2.2.2.2.2.2.2.2.2.2.1,x.2.2.2.2.2.2.2.2.2.2.2.2.2.2.2.2.2.1,x.2.2.2.2.2.2.2.2.2.2.2.2.2.2.2.2.2.2,p.1,p.2)=some (take x p):=by
 have hsm:=Xr h
 have hst:=XX h.st
 have hjo:=xF h.st hp
 have hjs:=XX hjo
 have hto:=Qk3 h hp
 have hts:=XX hto
 have hmk:(marksOf (join (x.2.2.1,x.2.2.2.1) p)).length<=maxLen:=by
  have:=yn _ _ (yS (join (x.2.2.1,x.2.2.2.1) p)) (by omega)
  simp only[maxLen]
  rcases this with h|h
  ·omega
  ·rw[h];simp
 have hz11:Xx x.2.2.2.2.2.2.2.2.2.2.2.1<=4294967296:=(Km (x:=x) (by omega)).2.2.2
 have hsl:(ZL x p).length<=maxLen:=by rw[ZL,QpD];exact hsm.2.2.2.2.2.2.2.2.1
 have hsr:∀r∈ZL x p,r.length<=maxLen:=fun r hr=>by
  have:=Qlo ((Qj8 (Qex h.seen _ _)).2 r hr)
  simp only[maxLen];omega
 have hc:=QfK h
 have hj:Yn w (x.2.2.1,x.2.2.2.1,p.1,p.2)=some (join (x.2.2.1,x.2.2.2.1) p):=Qlb (x.2.2.1,x.2.2.2.1) p h.st hp
 have hm:xn w (join (x.2.2.1,x.2.2.2.1) p)=some (marksOf (join (x.2.2.1,x.2.2.2.1) p)):=Qrt _ _ hjs.1 hjs.2
 have ht:K3 w (x.2.2.2.2.2.2.2.2.2.2.2.1,x.1,marksOf (join (x.2.2.1,x.2.2.2.1) p))=some (ZL x p):=QoW _ _ _ hz11 hmk
 have hpr:Qa6 w ((join (x.2.2.1,x.2.2.2.1) p).1,(join (x.2.2.1,x.2.2.2.1) p).2,ZL x p)=some (Xl x p):=QD7 _ _ hjs (Nat.le_trans (ye hjo) (by decide)) hsl hsr
 have htr:zo w (Xl x p)=some (X8 (Xl x p)):=QtM _ _ hts.1 hts.2
 have e:=Xb (Xl x p).1.length (fun i (s:List QN)=>ZO wl ((i:Int),x.1,x.2.1,x.2.2.1,x.2.2.2.1,x.2.2.2.2.1,x.2.2.2.2.2.1,x.2.2.2.2.2.2.1,x.2.2.2.2.2.2.2.1,x.2.2.2.2.2.2.2.2.1,x.2.2.2.2.2.2.2.2.2.1,x.2.2.2.2.2.2.2.2.2.2.1,x.2.2.2.2.2.2.2.2.2.2.2.1,x.2.2.2.2.2.2.2.2.2.2.2.2.1,x.2.2.2.2.2.2.2.2.2.2.2.2.2.1,x.2.2.2.2.2.2.2.2.2.2.2.2.2.2.1,x.2.2.2.2.2.2.2.2.2.2.2.2.2.2.2.1,x.2.2.2.2.2.2.2.2.2.2.2.2.2.2.2.2.1,x.2.2.2.2.2.2.2.2.2.2.2.2.2.2.2.2.2.1,x.2.2.2.2.2.2.2.2.2.2.2.2.2.2.2.2.2.2,x.1,x.2.1,(Xl x p).1,(Xl x p).2,(X8 (Xl x p)).1,(X8 (Xl x p)).2,x.2.2.2.2.2.2.1,x.2.2.2.2.2.2.2.1,x.2.2.2.2.2.2.2.2.1,x.2.2.2.2.2.2.2.2.2.1,x.2.2.2.2.2.2.2.2.2.2.1,ZL x p,x.2.2.2.2.2.2.2.2.2.2.2.2.1,x.2.2.2.2.2.2.2.2.2.2.2.2.2.1,x.2.2.2.2.2.2.2.2.2.2.2.2.2.2.1,x.2.2.2.2.2.2.2.2.2.2.2.2.2.2.2.1,x.2.2.2.2.2.2.2.2.2.2.2.2.2.2.2.2.1,x.2.2.2.2.2.2.2.2.2.2.2.2.2.2.2.2.2.1,s)) (fun i s=>(x.1,x.2.1,(Xl x p).1,(Xl x p).2,(X8 (Xl x p)).1,(X8 (Xl x p)).2,x.2.2.2.2.2.2.1,x.2.2.2.2.2.2.2.1,x.2.2.2.2.2.2.2.2.1,x.2.2.2.2.2.2.2.2.2.1,x.2.2.2.2.2.2.2.2.2.2.1,ZL x p,x.2.2.2.2.2.2.2.2.2.2.2.2.1,x.2.2.2.2.2.2.2.2.2.2.2.2.2.1,x.2.2.2.2.2.2.2.2.2.2.2.2.2.2.1,x.2.2.2.2.2.2.2.2.2.2.2.2.2.2.2.1,x.2.2.2.2.2.2.2.2.2.2.2.2.2.2.2.2.1,x.2.2.2.2.2.2.2.2.2.2.2.2.2.2.2.2.2.1,qT x.2.2.2.2.2.2.2.2.2.2.2.2.2.2.2.2.2.1 s ((Xl x p).1.drop i))) (fun _ s=>s.length=5)
  (fun i hi s hs ih=>by
    apply Qfr
    obtain⟨n,hn,hn5⟩:=QnO (QhF hto _ (QRf hi)).1 (show 5<=s.length by omega)
    have hi':=ih (xK x.2.2.2.2.2.2.2.2.2.2.2.2.2.2.2.2.2.1 s (Xl x p).1[i]) (by rw[QiU];exact hs)
    rw[QRa hi,qT]
    unfold xK at hi'⊢
    rw[hn]at hi'⊢
    simp only[Qbp,ilt hi,Qk hi,Qg hi,inc hi hts.1,QQ1,hn,Qk hn5]
    revert hi'
    cases decide ((rd1 Zo s (n:Int)).1<(Xl x p).1[i].2.1)<;>cases decide ((Xl x p).1[i].2.1=(rd1 Zo s (n:Int)).1)<;>cases decide ((rd1 Zo s (n:Int)).2.1<(Xl x p).1[i].2.2.2.1)<;>simp only[QQ1,QQ2]<;>exact fun h=>h)
  (fun s _=>by
    apply Qfr
    simp only[Qbp,Qm,QQ2,QRl,qT]) x.2.2.2.2.2.2.2.2.2.2.2.2.2.2.2.2.2.2 (by have:=h.rlen;omega)
 simp only[QQ6,QRg]at e
 apply Qsu
 simp only[Qic,hc,hj,hm,ht,hpr,htr,e,QQ0,take]
end Go.Proofs.YtjenicbpdklpbaaGreat.M
