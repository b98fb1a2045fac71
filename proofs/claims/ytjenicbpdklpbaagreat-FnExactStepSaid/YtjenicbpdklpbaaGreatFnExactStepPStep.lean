/- What the plain forms that FnExactStep reaches come to: PStep. No conditions but those that each theorem states. -/
import Derived.Test.YtjenicbpdklpbaaGreatFnExactStepPExch
set_option linter.all false
namespace Go.Proofs.YtjenicbpdklpbaaGreat.M
open Go Go.Eng Go.Proofs
set_option linter.unusedVariables false
theorem Qy4 (l:List Q4):rd1 QL l 0=l.headD QL:=by cases l<;>rfl
theorem QyY (l:List Q4):inb 0 l.length= !l.isEmpty:=by cases l<;>simp[inb]
theorem QzK (l:List Q4):decide (((l.length:Nat):Int)=0)=l.isEmpty:=by
 cases l
 ·rfl
 ·simp;omega
def Qkr (ns:List Qb) (k:Nat) (r:Qb×List Q4×Int):Int×Int×Int×Int×Int×(List Int)×Int×(List Int)×(List Int)×(List Qd)×(List Qa)×(List Qa)×Bool×Bool×(List Qb):=((r.2.1.headD QL).1,(r.2.1.headD QL).2.1,(r.2.1.headD QL).2.2.1,(r.2.1.headD QL).2.2.2.1,(r.2.1.headD QL).2.2.2.2.1,(r.2.1.headD QL).2.2.2.2.2.1,(r.2.1.headD QL).2.2.2.2.2.2.1,(r.2.1.headD QL).2.2.2.2.2.2.2.1,(r.2.1.headD QL).2.2.2.2.2.2.2.2.1,(r.2.1.headD QL).2.2.2.2.2.2.2.2.2.1,(r.2.1.headD QL).2.2.2.2.2.2.2.2.2.2.1,(r.2.1.headD QL).2.2.2.2.2.2.2.2.2.2.2,decide (r.2.2=0), !r.2.1.isEmpty,ns.set k r.1)
theorem Qwz (ns:List Qb) (net:List Qs) (sd:List Qq) (m:Q4) (k:Nat) (hk:k<ns.length) (hm2:m.2.2.1=(k:Int)) (x:Qb) (hx:ns[k]=x) (h:NOk x) (hm:Qmi m):
 JS w (ns,net,sd,m.1,m.2.1,m.2.2.1,m.2.2.2.1,m.2.2.2.2.1,m.2.2.2.2.2.1,m.2.2.2.2.2.2.1,m.2.2.2.2.2.2.2.1,m.2.2.2.2.2.2.2.2.1,m.2.2.2.2.2.2.2.2.2.1,m.2.2.2.2.2.2.2.2.2.2.1,m.2.2.2.2.2.2.2.2.2.2.2)=some (Qkr ns k (rcv x m)):=by
 have hr:=QC7 x h m hm
 apply QyC
 simp only[QoR,hm2,Qk hk,Qg hk,hx,QQ1,QRb]
 rw[hm2]at hr
 rw[hr]
 simp only[QQ0,flat,QzK,QyY,Qy4,show(decide ((0:Int)=0)&&Nat.blt 5 7)=true from rfl,show(decide ((0:Int)=0)&&Nat.blt 7 8)=true from rfl,show(decide ((0:Int)=0)&&Nat.blt 8 9)=true from rfl,show(decide ((0:Int)=0)&&Nat.blt 9 10)=true from rfl,show(decide ((0:Int)=0)&&Nat.blt 10 11)=true from rfl,QQ1,Qkr]
 cases(rcv x m).2.1<;>rfl
def Xa (x:Qb) (to:Int):Q4:=((msg x 2 to (x.2.2.2.2.2.2.2.2.2.2.2.2.1+1)).1,(msg x 2 to (x.2.2.2.2.2.2.2.2.2.2.2.2.1+1)).2.1,(msg x 2 to (x.2.2.2.2.2.2.2.2.2.2.2.2.1+1)).2.2.1,(msg x 2 to (x.2.2.2.2.2.2.2.2.2.2.2.2.1+1)).2.2.2.1,(msg x 2 to (x.2.2.2.2.2.2.2.2.2.2.2.2.1+1)).2.2.2.2.1,x.2.2.2.2.1,x.2.2.2.2.2.1,(msg x 2 to (x.2.2.2.2.2.2.2.2.2.2.2.2.1+1)).2.2.2.2.2.2.2.1,(msg x 2 to (x.2.2.2.2.2.2.2.2.2.2.2.2.1+1)).2.2.2.2.2.2.2.2.1,(msg x 2 to (x.2.2.2.2.2.2.2.2.2.2.2.2.1+1)).2.2.2.2.2.2.2.2.2.1,(msg x 2 to (x.2.2.2.2.2.2.2.2.2.2.2.2.1+1)).2.2.2.2.2.2.2.2.2.2.1,(msg x 2 to (x.2.2.2.2.2.2.2.2.2.2.2.2.1+1)).2.2.2.2.2.2.2.2.2.2.2)
theorem QBT {x:Qb}(h:NOk x) (to:Int):Qmi (Xa x to):=by
 have h1:=Xz h
 have h2:=Qab (yS (x.2.2.1,x.2.2.2.1))
 have h3:=Qyb h
 exact Qx1 ⟨by simp only[Xa];omega,by simp only[Xa,msg];omega,by simp[Xa,msg],by simp[Xa,msg],by simp[Xa,msg],by simp only[Xa,msg];omega⟩
theorem QLm (x:Qb) (h:NOk x) (to:Int):Qj7 w (x.1,x.2.1,x.2.2.1,x.2.2.2.1,x.2.2.2.2.1,x.2.2.2.2.2.1,x.2.2.2.2.2.2.1,x.2.2.2.2.2.2.2.1,x.2.2.2.2.2.2.2.2.1,x.2.2.2.2.2.2.2.2.2.1,x.2.2.2.2.2.2.2.2.2.2.1,x.2.2.2.2.2.2.2.2.2.2.2.1,x.2.2.2.2.2.2.2.2.2.2.2.2.1,x.2.2.2.2.2.2.2.2.2.2.2.2.2.1,x.2.2.2.2.2.2.2.2.2.2.2.2.2.2.1,x.2.2.2.2.2.2.2.2.2.2.2.2.2.2.2.1,x.2.2.2.2.2.2.2.2.2.2.2.2.2.2.2.2.1,x.2.2.2.2.2.2.2.2.2.2.2.2.2.2.2.2.2.1,x.2.2.2.2.2.2.2.2.2.2.2.2.2.2.2.2.2.2,to)=some (bif Y5 x to then((QJ x to).1,(QJ x to).2.1,(QJ x to).2.2.1,(QJ x to).2.2.2.1,(QJ x to).2.2.2.2.1,(QJ x to).2.2.2.2.2.1,(QJ x to).2.2.2.2.2.2.1,(QJ x to).2.2.2.2.2.2.2.1,(QJ x to).2.2.2.2.2.2.2.2.1,(QJ x to).2.2.2.2.2.2.2.2.2.1,(QJ x to).2.2.2.2.2.2.2.2.2.2.1,(QJ x to).2.2.2.2.2.2.2.2.2.2.2.1,(QJ x to).2.2.2.2.2.2.2.2.2.2.2.2.1,(QJ x to).2.2.2.2.2.2.2.2.2.2.2.2.2.1,(QJ x to).2.2.2.2.2.2.2.2.2.2.2.2.2.2.1,(QJ x to).2.2.2.2.2.2.2.2.2.2.2.2.2.2.2.1,(QJ x to).2.2.2.2.2.2.2.2.2.2.2.2.2.2.2.2.1,(QJ x to).2.2.2.2.2.2.2.2.2.2.2.2.2.2.2.2.2.1,(QJ x to).2.2.2.2.2.2.2.2.2.2.2.2.2.2.2.2.2.2,(Xa x to).1,(Xa x to).2.1,(Xa x to).2.2.1,(Xa x to).2.2.2.1,(Xa x to).2.2.2.2.1,(Xa x to).2.2.2.2.2.1,(Xa x to).2.2.2.2.2.2.1,(Xa x to).2.2.2.2.2.2.2.1,(Xa x to).2.2.2.2.2.2.2.2.1,(Xa x to).2.2.2.2.2.2.2.2.2.1,(Xa x to).2.2.2.2.2.2.2.2.2.2.1,(Xa x to).2.2.2.2.2.2.2.2.2.2.2,true)else(x.1,x.2.1,x.2.2.1,x.2.2.2.1,x.2.2.2.2.1,x.2.2.2.2.2.1,x.2.2.2.2.2.2.1,x.2.2.2.2.2.2.2.1,x.2.2.2.2.2.2.2.2.1,x.2.2.2.2.2.2.2.2.2.1,x.2.2.2.2.2.2.2.2.2.2.1,x.2.2.2.2.2.2.2.2.2.2.2.1,x.2.2.2.2.2.2.2.2.2.2.2.2.1,x.2.2.2.2.2.2.2.2.2.2.2.2.2.1,x.2.2.2.2.2.2.2.2.2.2.2.2.2.2.1,x.2.2.2.2.2.2.2.2.2.2.2.2.2.2.2.1,x.2.2.2.2.2.2.2.2.2.2.2.2.2.2.2.2.1,x.2.2.2.2.2.2.2.2.2.2.2.2.2.2.2.2.2.1,x.2.2.2.2.2.2.2.2.2.2.2.2.2.2.2.2.2.2,0,0,0,0,0,[],0,[],[],[],[],[],false)):=QIw x h to
theorem QII (x:Qb) (h:NOk x) (to:Int):QiT w (x.1,x.2.1,x.2.2.1,x.2.2.2.1,x.2.2.2.2.1,x.2.2.2.2.2.1,x.2.2.2.2.2.2.1,x.2.2.2.2.2.2.2.1,x.2.2.2.2.2.2.2.2.1,x.2.2.2.2.2.2.2.2.2.1,x.2.2.2.2.2.2.2.2.2.2.1,x.2.2.2.2.2.2.2.2.2.2.2.1,x.2.2.2.2.2.2.2.2.2.2.2.2.1,x.2.2.2.2.2.2.2.2.2.2.2.2.2.1,x.2.2.2.2.2.2.2.2.2.2.2.2.2.2.1,x.2.2.2.2.2.2.2.2.2.2.2.2.2.2.2.1,x.2.2.2.2.2.2.2.2.2.2.2.2.2.2.2.2.1,x.2.2.2.2.2.2.2.2.2.2.2.2.2.2.2.2.2.1,x.2.2.2.2.2.2.2.2.2.2.2.2.2.2.2.2.2.2,to)=some (bif Y5 x to then((QJ x to).1,(QJ x to).2.1,(QJ x to).2.2.1,(QJ x to).2.2.2.1,(QJ x to).2.2.2.2.1,(QJ x to).2.2.2.2.2.1,(QJ x to).2.2.2.2.2.2.1,(QJ x to).2.2.2.2.2.2.2.1,(QJ x to).2.2.2.2.2.2.2.2.1,(QJ x to).2.2.2.2.2.2.2.2.2.1,(QJ x to).2.2.2.2.2.2.2.2.2.2.1,(QJ x to).2.2.2.2.2.2.2.2.2.2.2.1,(QJ x to).2.2.2.2.2.2.2.2.2.2.2.2.1,(QJ x to).2.2.2.2.2.2.2.2.2.2.2.2.2.1,(QJ x to).2.2.2.2.2.2.2.2.2.2.2.2.2.2.1,(QJ x to).2.2.2.2.2.2.2.2.2.2.2.2.2.2.2.1,(QJ x to).2.2.2.2.2.2.2.2.2.2.2.2.2.2.2.2.1,(QJ x to).2.2.2.2.2.2.2.2.2.2.2.2.2.2.2.2.2.1,(QJ x to).2.2.2.2.2.2.2.2.2.2.2.2.2.2.2.2.2.2,(Xa x to).1,(Xa x to).2.1,(Xa x to).2.2.1,(Xa x to).2.2.2.1,(Xa x to).2.2.2.2.1,(Xa x to).2.2.2.2.2.1,(Xa x to).2.2.2.2.2.2.1,(Xa x to).2.2.2.2.2.2.2.1,(Xa x to).2.2.2.2.2.2.2.2.1,(Xa x to).2.2.2.2.2.2.2.2.2.1,(Xa x to).2.2.2.2.2.2.2.2.2.2.1,(Xa x to).2.2.2.2.2.2.2.2.2.2.2,true)else(x.1,x.2.1,x.2.2.1,x.2.2.2.1,x.2.2.2.2.1,x.2.2.2.2.2.1,x.2.2.2.2.2.2.1,x.2.2.2.2.2.2.2.1,x.2.2.2.2.2.2.2.2.1,x.2.2.2.2.2.2.2.2.2.1,x.2.2.2.2.2.2.2.2.2.2.1,x.2.2.2.2.2.2.2.2.2.2.2.1,x.2.2.2.2.2.2.2.2.2.2.2.2.1,x.2.2.2.2.2.2.2.2.2.2.2.2.2.1,x.2.2.2.2.2.2.2.2.2.2.2.2.2.2.1,x.2.2.2.2.2.2.2.2.2.2.2.2.2.2.2.1,x.2.2.2.2.2.2.2.2.2.2.2.2.2.2.2.2.1,x.2.2.2.2.2.2.2.2.2.2.2.2.2.2.2.2.2.1,x.2.2.2.2.2.2.2.2.2.2.2.2.2.2.2.2.2.2,0,0,0,0,0,[],0,[],[],[],[],[],false)):=QIp x h to
def Qx2 (n:Qb) (r1:Qb×List Q4×Int) (r2:Qb×List Q4×Int):Option (Qb×Qb):=bif decide (r2.2.2=0)then(bif r2.2.1.isEmpty then none else(bif decide ((rcv r1.1 (r2.2.1.headD QL)).2.2=0)then some (r2.1,(rcv r1.1 (r2.2.1.headD QL)).1)else none))else none
def Qyi (n:Qb) (r1:Qb×List Q4×Int):Option (Qb×Qb):=bif decide (r1.2.2=0)then(bif r1.2.1.isEmpty then none else Qx2 n r1 (rcv n (r1.2.1.headD QL)))else none
def talk (x y:Qb) (q:Int):Option (Qb×Qb):=bif Y5 x q then Qyi (QJ x q) (rcv y (Xa x q))else none
def QHs (ns:List Qb) (p q:Nat):Option (Qb×Qb)->List Qb×Bool
 |none=>(ns,false)
 |some r=>((ns.set p r.1).set q r.2,true)
def exch (ns:List Qb) (net:List Qs) (sd:List Qq) (p q:Int):List Qb×Bool:=bif two ns net sd p q then QHs ns p.toNat q.toNat (talk (nodeAt ns p) (nodeAt ns q) q)else(ns,false)
theorem head_mem {l:List Q4}(h:l.isEmpty=false):l.headD QL∈l:=by
 cases l with
 |nil=>cases h
 |cons a l=>simp
theorem QFH {x y:Qb}(hx:NOk x) (hy:NOk y) {q:Int}{r:Qb×Qb}(h:talk x y q=some r):NOk r.1/\NOk r.2:=by
 unfold talk Qyi Qx2 at h
 cases hc:Y5 x q
 ·rw[hc]at h;cases h
 ·rw[hc]at h
  have k1:=Qd0 hy (Xa x q)
  generalize rcv y (Xa x q)=r1 at h k1
  have k2:=Qd0 (Qjo hx hc) (r1.2.1.headD QL)
  generalize rcv (QJ x q) (r1.2.1.headD QL)=r2 at h k2
  have k3:=Qd0 k1 (r2.2.1.headD QL)
  generalize rcv r1.1 (r2.2.1.headD QL)=r3 at h k3
  simp only[QQ1]at h
  cases h1:decide (r1.2.2=0)<;>rw[h1]at h<;>simp only[QQ1,QQ2]at h
  ·cases h
  ·cases h2:r1.2.1.isEmpty<;>rw[h2]at h<;>simp only[QQ1,QQ2]at h
   ·cases h3:decide (r2.2.2=0)<;>rw[h3]at h<;>simp only[QQ1,QQ2]at h
    ·cases h
    ·cases h4:r2.2.1.isEmpty<;>rw[h4]at h<;>simp only[QQ1,QQ2]at h
     ·cases h5:decide (r3.2.2=0)<;>rw[h5]at h<;>simp only[QQ1,QQ2]at h
      ·cases h
      ·obtain rfl:=Option.some.inj h
       exact⟨k2,k3⟩
     ·cases h
   ·cases h
theorem QmN {ns:List Qb}{net:List Qs}{sd:List Qq}(h:WOk ns net sd) {i:Nat}(hi:i<ns.length):NOk ns[i]:=nok (h.node hi).1
theorem QL8 {α:Type}{l:List α}{i j:Nat}(hij:i≠j) (a b c e:α):(((l.set i a).set j b).set i c).set j e=(l.set i c).set j e:=by
 rw[List.set_comm _ _ (show j≠i from fun h=>hij h.symm),List.set_set,List.set_set]
theorem QB6 {ns:List Qb}{net:List Qs}{sd:List Qq}{p q:Int}(h:two ns net sd p q=true):ZU ns net sd=true/\inR p 0 ((ns.length:Nat) - 1)=true/\inR q 0 ((ns.length:Nat) - 1)=true/\p≠q:=by
 simp only[two,QQ5,Bool.not_eq_true',decide_eq_false_iff_not]at h
 exact⟨h.1,h.2.1,h.2.2.1,h.2.2.2⟩
set_option maxHeartbeats 4000000 in
theorem QA5 (ns:List Qb) (net:List Qs) (sd:List Qq) (p q:Int) (h:Xj (ns,net,sd)<=4294967296) (hs:smW ns net sd):YZ w (ns,net,sd,p,q)=some ((exch ns net sd p q).1,net,sd,(exch ns net sd p q).2):=by
 apply Qr4
 have hcw:=QpJ ns net sd h
 simp only[Qhs,hcw,QuF ns net sd hs,Qn4 _ _ _ _ hs.1,QQ0]
 cases hw:ZU ns net sd
 ·simp only[exch,two,hw,QRm,QQ2];rfl
 ·cases hp:inR p 0 ((ns.length:Nat) - 1)
  ·simp only[exch,two,hw,hp,QRm,QRd,QQ2];rfl
  ·cases hq:inR q 0 ((ns.length:Nat) - 1)
   ·simp only[exch,two,hw,hp,hq,QRm,QRd,QQ2];rfl
   ·by_cases hpq:p=q
    ·simp only[exch,two,hw,hp,hq,dt hpq,QQ3,QRm,QRd,QQ2,QQ1]
    ·have h2:two ns net sd p q=true:=by simp only[two,hw,hp,hq,df hpq];rfl
     have wk:=VJ hw
     obtain⟨i,rfl,hi⟩:=YI hp
     obtain⟨j,rfl,hj⟩:=YI hq
     have hij:i≠j:=fun e=>hpq (by rw[e])
     have hx:=QmN wk hi
     have hy:=QmN wk hj
     have hxi:=(wk.node hi).2.2
     have hyj:=(wk.node hj).2.2
     simp only[exch,h2,Vl hi,Vl hj,df hpq,QQ3,QQ1,QQ2,QRb,Qk hi,Qg hi]
     have hS:=QLm ns[i] hx (j:Int)
     obtain⟨x,hgx⟩:∃x,ns[i]=x:=⟨_,rfl⟩
     obtain⟨y,hgy⟩:∃y,ns[j]=y:=⟨_,rfl⟩
     rw[hgx]at hS hx hxi⊢
     rw[hgy]at hy hyj⊢
     rw[hS]
     unfold talk
     cases hc:Y5 x (j:Int)
     ·rfl
     ·simp only[QQ1,QQ0,QQ3,QQ2]
      have hm:=QBT hx (j:Int)
      have hsn:=Qjo hx hc
      have g1:j<(ns.set i (QJ x (j:Int))).length:=by simpa using hj
      have g1':(ns.set i (QJ x (j:Int)))[j]=y:=by rw[List.getElem_set_ne hij];exact hgy
      have H1:JS w (ns.set i ((QJ x (j:Int)).1,(QJ x (j:Int)).2.1,(QJ x (j:Int)).2.2.1,(QJ x (j:Int)).2.2.2.1,(QJ x (j:Int)).2.2.2.2.1,(QJ x (j:Int)).2.2.2.2.2.1,(QJ x (j:Int)).2.2.2.2.2.2.1,(QJ x (j:Int)).2.2.2.2.2.2.2.1,(QJ x (j:Int)).2.2.2.2.2.2.2.2.1,(QJ x (j:Int)).2.2.2.2.2.2.2.2.2.1,(QJ x (j:Int)).2.2.2.2.2.2.2.2.2.2.1,(QJ x (j:Int)).2.2.2.2.2.2.2.2.2.2.2.1,(QJ x (j:Int)).2.2.2.2.2.2.2.2.2.2.2.2.1,(QJ x (j:Int)).2.2.2.2.2.2.2.2.2.2.2.2.2.1,(QJ x (j:Int)).2.2.2.2.2.2.2.2.2.2.2.2.2.2.1,(QJ x (j:Int)).2.2.2.2.2.2.2.2.2.2.2.2.2.2.2.1,(QJ x (j:Int)).2.2.2.2.2.2.2.2.2.2.2.2.2.2.2.2.1,(QJ x (j:Int)).2.2.2.2.2.2.2.2.2.2.2.2.2.2.2.2.2.1,(QJ x (j:Int)).2.2.2.2.2.2.2.2.2.2.2.2.2.2.2.2.2.2),net,sd,(Xa x (j:Int)).1,(Xa x (j:Int)).2.1,(Xa x (j:Int)).2.2.1,(Xa x (j:Int)).2.2.2.1,(Xa x (j:Int)).2.2.2.2.1,(Xa x (j:Int)).2.2.2.2.2.1,(Xa x (j:Int)).2.2.2.2.2.2.1,(Xa x (j:Int)).2.2.2.2.2.2.2.1,(Xa x (j:Int)).2.2.2.2.2.2.2.2.1,(Xa x (j:Int)).2.2.2.2.2.2.2.2.2.1,(Xa x (j:Int)).2.2.2.2.2.2.2.2.2.2.1,(Xa x (j:Int)).2.2.2.2.2.2.2.2.2.2.2)=some (Qkr (ns.set i (QJ x (j:Int))) j (rcv y (Xa x (j:Int)))):=Qwz (ns.set i (QJ x (j:Int))) net sd (Xa x (j:Int)) j g1 rfl y g1' hy hm
      have R1:=Qd0 hy (Xa x (j:Int))
      have Q1:=Qqe hy (Xa x (j:Int))
      rw[H1]
      obtain⟨r1,hr1⟩:∃r,rcv y (Xa x (j:Int))=r:=⟨_,rfl⟩
      rw[hr1]at R1 Q1⊢
      unfold Qyi
      simp only[QQ0,Qkr]
      cases decide (r1.2.2=0)
      ·rfl
      ·simp only[QQ3,QQ2,QQ1]
       cases he1:r1.2.1.isEmpty
       ·simp only[QQ4,QQ3,QQ2,QQ1]
        obtain⟨ha1,ha2,ha3⟩:=Q1 _ (head_mem he1)
        have g2:i<((ns.set i (QJ x (j:Int))).set j r1.1).length:=by simpa using hi
        have g2':((ns.set i (QJ x (j:Int))).set j r1.1)[i]=(QJ x (j:Int)):=by rw[List.getElem_set_ne (fun e=>hij e.symm),List.getElem_set_self]
        have H2:JS w ((ns.set i (QJ x (j:Int))).set j r1.1,net,sd,(r1.2.1.headD QL).1,(r1.2.1.headD QL).2.1,(r1.2.1.headD QL).2.2.1,(r1.2.1.headD QL).2.2.2.1,(r1.2.1.headD QL).2.2.2.2.1,(r1.2.1.headD QL).2.2.2.2.2.1,(r1.2.1.headD QL).2.2.2.2.2.2.1,(r1.2.1.headD QL).2.2.2.2.2.2.2.1,(r1.2.1.headD QL).2.2.2.2.2.2.2.2.1,(r1.2.1.headD QL).2.2.2.2.2.2.2.2.2.1,(r1.2.1.headD QL).2.2.2.2.2.2.2.2.2.2.1,(r1.2.1.headD QL).2.2.2.2.2.2.2.2.2.2.2)=some (Qkr ((ns.set i (QJ x (j:Int))).set j r1.1) i (rcv (QJ x (j:Int)) (r1.2.1.headD QL))):=Qwz ((ns.set i (QJ x (j:Int))).set j r1.1) net sd (r1.2.1.headD QL) i g2 (ha2.trans hxi) (QJ x (j:Int)) g2' hsn ha1
        have R2:=Qd0 hsn (r1.2.1.headD QL)
        have Q2:=Qqe hsn (r1.2.1.headD QL)
        rw[H2]
        obtain⟨r2,hr2⟩:∃r,rcv (QJ x (j:Int)) (r1.2.1.headD QL)=r:=⟨_,rfl⟩
        rw[hr2]at R2 Q2⊢
        unfold Qx2
        simp only[QQ0,Qkr]
        cases decide (r2.2.2=0)
        ·rfl
        ·simp only[QQ3,QQ2,QQ1]
         cases he2:r2.2.1.isEmpty
         ·simp only[QQ4,QQ3,QQ2,QQ1]
          obtain⟨hb1,hb2,hb3⟩:=Q2 _ (head_mem he2)
          have g3:j<(((ns.set i (QJ x (j:Int))).set j r1.1).set i r2.1).length:=by simpa using hj
          have g3':(((ns.set i (QJ x (j:Int))).set j r1.1).set i r2.1)[j]=r1.1:=by rw[List.getElem_set_ne hij,List.getElem_set_self]
          have H3:JS w (((ns.set i (QJ x (j:Int))).set j r1.1).set i r2.1,net,sd,(r2.2.1.headD QL).1,(r2.2.1.headD QL).2.1,(r2.2.1.headD QL).2.2.1,(r2.2.1.headD QL).2.2.2.1,(r2.2.1.headD QL).2.2.2.2.1,(r2.2.1.headD QL).2.2.2.2.2.1,(r2.2.1.headD QL).2.2.2.2.2.2.1,(r2.2.1.headD QL).2.2.2.2.2.2.2.1,(r2.2.1.headD QL).2.2.2.2.2.2.2.2.1,(r2.2.1.headD QL).2.2.2.2.2.2.2.2.2.1,(r2.2.1.headD QL).2.2.2.2.2.2.2.2.2.2.1,(r2.2.1.headD QL).2.2.2.2.2.2.2.2.2.2.2)=some (Qkr (((ns.set i (QJ x (j:Int))).set j r1.1).set i r2.1) j (rcv r1.1 (r2.2.1.headD QL))):=Qwz (((ns.set i (QJ x (j:Int))).set j r1.1).set i r2.1) net sd (r2.2.1.headD QL) j g3 (hb2.trans (ha3.trans hyj)) r1.1 g3' R1 hb1
          rw[H3]
          have hset:=QL8 (l:=ns) hij (QJ x (j:Int)) r1.1 r2.1 (rcv r1.1 (r2.2.1.headD QL)).1
          simp only[QQ0,Qkr]
          rw[hset]
          cases decide ((rcv r1.1 (r2.2.1.headD QL)).2.2=0)<;>rfl
         ·rfl
       ·rfl
set_option maxHeartbeats 4000000 in
theorem Qyn (ns:List Qb) (net:List Qs) (sd:List Qq) (p q:Int) (h:Xj (ns,net,sd)<=4294967296) (hs:smW ns net sd):Y0 w (ns,net,sd,p,q)=some ((exch ns net sd p q).1,net,sd,(exch ns net sd p q).2):=by
 apply Qso
 have hcw:=QsE ns net sd h
 simp only[QgT,hcw,QE5 ns net sd p q hs,QQ0]
 cases h2:two ns net sd p q
 ·simp only[exch,h2,QQ2];rfl
 ·obtain⟨hw,hp,hq,hpq⟩:=QB6 h2
  have wk:=VJ hw
  obtain⟨i,rfl,hi⟩:=YI hp
  obtain⟨j,rfl,hj⟩:=YI hq
  have hx:=QmN wk hi
  have hy:=QmN wk hj
  simp only[exch,h2,Vl hi,Vl hj,QQ3,QQ1,QQ2,QRb,Qk hi,Qg hi,Qk hj,Qg hj,List.length_set,QzK,QyY,Qy4]
  have hS:=QII ns[i] hx (j:Int)
  obtain⟨x,hgx⟩:∃x,ns[i]=x:=⟨_,rfl⟩
  obtain⟨y,hgy⟩:∃y,ns[j]=y:=⟨_,rfl⟩
  rw[hgx]at hS hx⊢
  rw[hgy]at hy⊢
  rw[hS]
  unfold talk
  cases hc:Y5 x (j:Int)
  ·rfl
  ·simp only[QQ1,QQ0,QQ3,QQ2]
   have hm:=QBT hx (j:Int)
   have hsn:=Qjo hx hc
   have H1:Ys w (y.1,y.2.1,y.2.2.1,y.2.2.2.1,y.2.2.2.2.1,y.2.2.2.2.2.1,y.2.2.2.2.2.2.1,y.2.2.2.2.2.2.2.1,y.2.2.2.2.2.2.2.2.1,y.2.2.2.2.2.2.2.2.2.1,y.2.2.2.2.2.2.2.2.2.2.1,y.2.2.2.2.2.2.2.2.2.2.2.1,y.2.2.2.2.2.2.2.2.2.2.2.2.1,y.2.2.2.2.2.2.2.2.2.2.2.2.2.1,y.2.2.2.2.2.2.2.2.2.2.2.2.2.2.1,y.2.2.2.2.2.2.2.2.2.2.2.2.2.2.2.1,y.2.2.2.2.2.2.2.2.2.2.2.2.2.2.2.2.1,y.2.2.2.2.2.2.2.2.2.2.2.2.2.2.2.2.2.1,y.2.2.2.2.2.2.2.2.2.2.2.2.2.2.2.2.2.2,(Xa x (j:Int)).1,(Xa x (j:Int)).2.1,(Xa x (j:Int)).2.2.1,(Xa x (j:Int)).2.2.2.1,(Xa x (j:Int)).2.2.2.2.1,(Xa x (j:Int)).2.2.2.2.2.1,(Xa x (j:Int)).2.2.2.2.2.2.1,(Xa x (j:Int)).2.2.2.2.2.2.2.1,(Xa x (j:Int)).2.2.2.2.2.2.2.2.1,(Xa x (j:Int)).2.2.2.2.2.2.2.2.2.1,(Xa x (j:Int)).2.2.2.2.2.2.2.2.2.2.1,(Xa x (j:Int)).2.2.2.2.2.2.2.2.2.2.2)=some (flat (rcv y (Xa x (j:Int)))):=Qms y hy (Xa x (j:Int)) hm
   have R1:=Qd0 hy (Xa x (j:Int))
   have Q1:=Qqe hy (Xa x (j:Int))
   rw[H1]
   obtain⟨r1,hr1⟩:∃r,rcv y (Xa x (j:Int))=r:=⟨_,rfl⟩
   rw[hr1]at R1 Q1⊢
   unfold Qyi
   simp only[QQ0,flat]
   cases decide (r1.2.2=0)
   ·rfl
   ·simp only[QQ3,QQ2,QQ1]
    cases he1:r1.2.1.isEmpty
    ·simp only[QQ4,QQ3,QQ2,QQ1]
     obtain⟨ha1,ha2,ha3⟩:=Q1 _ (head_mem he1)
     have H2:Ys w ((QJ x (j:Int)).1,(QJ x (j:Int)).2.1,(QJ x (j:Int)).2.2.1,(QJ x (j:Int)).2.2.2.1,(QJ x (j:Int)).2.2.2.2.1,(QJ x (j:Int)).2.2.2.2.2.1,(QJ x (j:Int)).2.2.2.2.2.2.1,(QJ x (j:Int)).2.2.2.2.2.2.2.1,(QJ x (j:Int)).2.2.2.2.2.2.2.2.1,(QJ x (j:Int)).2.2.2.2.2.2.2.2.2.1,(QJ x (j:Int)).2.2.2.2.2.2.2.2.2.2.1,(QJ x (j:Int)).2.2.2.2.2.2.2.2.2.2.2.1,(QJ x (j:Int)).2.2.2.2.2.2.2.2.2.2.2.2.1,(QJ x (j:Int)).2.2.2.2.2.2.2.2.2.2.2.2.2.1,(QJ x (j:Int)).2.2.2.2.2.2.2.2.2.2.2.2.2.2.1,(QJ x (j:Int)).2.2.2.2.2.2.2.2.2.2.2.2.2.2.2.1,(QJ x (j:Int)).2.2.2.2.2.2.2.2.2.2.2.2.2.2.2.2.1,(QJ x (j:Int)).2.2.2.2.2.2.2.2.2.2.2.2.2.2.2.2.2.1,(QJ x (j:Int)).2.2.2.2.2.2.2.2.2.2.2.2.2.2.2.2.2.2,(r1.2.1.headD QL).1,(r1.2.1.headD QL).2.1,(r1.2.1.headD QL).2.2.1,(r1.2.1.headD QL).2.2.2.1,(r1.2.1.headD QL).2.2.2.2.1,(r1.2.1.headD QL).2.2.2.2.2.1,(r1.2.1.headD QL).2.2.2.2.2.2.1,(r1.2.1.headD QL).2.2.2.2.2.2.2.1,(r1.2.1.headD QL).2.2.2.2.2.2.2.2.1,(r1.2.1.headD QL).2.2.2.2.2.2.2.2.2.1,(r1.2.1.headD QL).2.2.2.2.2.2.2.2.2.2.1,(r1.2.1.headD QL).2.2.2.2.2.2.2.2.2.2.2)=some (flat (rcv (QJ x (j:Int)) (r1.2.1.headD QL))):=Qms (QJ x (j:Int)) hsn (r1.2.1.headD QL) ha1
     have R2:=Qd0 hsn (r1.2.1.headD QL)
     have Q2:=Qqe hsn (r1.2.1.headD QL)
     rw[H2]
     obtain⟨r2,hr2⟩:∃r,rcv (QJ x (j:Int)) (r1.2.1.headD QL)=r:=⟨_,rfl⟩
     rw[hr2]at R2 Q2⊢
     unfold Qx2
     simp only[QQ0,flat]
     cases decide (r2.2.2=0)
     ·rfl
     ·simp only[QQ3,QQ2,QQ1]
      cases he2:r2.2.1.isEmpty
      ·simp only[QQ4,QQ3,QQ2,QQ1]
       obtain⟨hb1,hb2,hb3⟩:=Q2 _ (head_mem he2)
       have H3:Ys w (r1.1.1,r1.1.2.1,r1.1.2.2.1,r1.1.2.2.2.1,r1.1.2.2.2.2.1,r1.1.2.2.2.2.2.1,r1.1.2.2.2.2.2.2.1,r1.1.2.2.2.2.2.2.2.1,r1.1.2.2.2.2.2.2.2.2.1,r1.1.2.2.2.2.2.2.2.2.2.1,r1.1.2.2.2.2.2.2.2.2.2.2.1,r1.1.2.2.2.2.2.2.2.2.2.2.2.1,r1.1.2.2.2.2.2.2.2.2.2.2.2.2.1,r1.1.2.2.2.2.2.2.2.2.2.2.2.2.2.1,r1.1.2.2.2.2.2.2.2.2.2.2.2.2.2.2.1,r1.1.2.2.2.2.2.2.2.2.2.2.2.2.2.2.2.1,r1.1.2.2.2.2.2.2.2.2.2.2.2.2.2.2.2.2.1,r1.1.2.2.2.2.2.2.2.2.2.2.2.2.2.2.2.2.2.1,r1.1.2.2.2.2.2.2.2.2.2.2.2.2.2.2.2.2.2.2,(r2.2.1.headD QL).1,(r2.2.1.headD QL).2.1,(r2.2.1.headD QL).2.2.1,(r2.2.1.headD QL).2.2.2.1,(r2.2.1.headD QL).2.2.2.2.1,(r2.2.1.headD QL).2.2.2.2.2.1,(r2.2.1.headD QL).2.2.2.2.2.2.1,(r2.2.1.headD QL).2.2.2.2.2.2.2.1,(r2.2.1.headD QL).2.2.2.2.2.2.2.2.1,(r2.2.1.headD QL).2.2.2.2.2.2.2.2.2.1,(r2.2.1.headD QL).2.2.2.2.2.2.2.2.2.2.1,(r2.2.1.headD QL).2.2.2.2.2.2.2.2.2.2.2)=some (flat (rcv r1.1 (r2.2.1.headD QL))):=Qms r1.1 R1 (r2.2.1.headD QL) hb1
       rw[H3]
       simp only[QQ0,flat]
       cases decide ((rcv r1.1 (r2.2.1.headD QL)).2.2=0)<;>rfl
      ·rfl
    ·rfl
end Go.Proofs.YtjenicbpdklpbaaGreat.M
