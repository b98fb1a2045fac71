/- What the plain forms that FnExactOnlyNews reaches come to: PRecv. No conditions but those that each theorem states. -/
import Derived.Test.YtiejfnbmficbmaaGreatFnExactOnlyNewsPWA
set_option linter.all false
namespace Go.Proofs.YtiejfnbmficbmaaGreat.M
open Go Go.Eng Go.Proofs
set_option linter.unusedVariables false
def Jf (x:Qi) (m:Q1) (b:Bool):Int:=Ky (ZN m.2.1 b 0 x.2.2.2.2.2.2.2.2.2.2.2.2.2.2.1)
def find (x:Qi) (m:Q1) (b:Bool):Int:=bif decide (Jf x m b<0)then -1 else(bif decide ((rd1 yx x.2.2.2.2.2.2.2.2.2.2.2.2.2.2.1 (Jf x m b)).2.1=m.2.2.2.1)then Jf x m b else -1)
def Qew (x:Qi) (l:List QI):Qi:=(x.1,x.2.1,x.2.2.1,x.2.2.2.1,x.2.2.2.2.1,x.2.2.2.2.2.1,x.2.2.2.2.2.2.1,x.2.2.2.2.2.2.2.1,x.2.2.2.2.2.2.2.2.1,x.2.2.2.2.2.2.2.2.2.1,x.2.2.2.2.2.2.2.2.2.2.1,x.2.2.2.2.2.2.2.2.2.2.2.1,x.2.2.2.2.2.2.2.2.2.2.2.2.1,x.2.2.2.2.2.2.2.2.2.2.2.2.2.1,l,x.2.2.2.2.2.2.2.2.2.2.2.2.2.2.2.1,x.2.2.2.2.2.2.2.2.2.2.2.2.2.2.2.2.1,x.2.2.2.2.2.2.2.2.2.2.2.2.2.2.2.2.2.1,x.2.2.2.2.2.2.2.2.2.2.2.2.2.2.2.2.2.2)
def Qu7 (l:List QI) (k:Int):List QI:=l.take k.toNat++l.drop (k.toNat+1)
def gone (x:Qi) (k:Int):Qi:=Qew x (Qu7 x.2.2.2.2.2.2.2.2.2.2.2.2.2.2.1 k)
theorem QdR {x:Qi}(h:NOk x) {l:List QI}(h1:((l.length:Nat):Int)<=x.2.2.2.2.2.2.2.2.2.2.2.2.2.1) (h2:XA x.1 x.2.1 x.2.2.2.2.2.2.2.2.2.2.2.2.2.2.2.1 [] l=true):NOk (Qew x l) where
 n:=h.n
 id:=h.id
 st:=h.st
 tree:=h.tree
 log:=h.log
 got:=h.got
 ack:=h.ack
 own:=h.own
 heard:=h.heard
 seen:=h.seen
 num:=h.num
 clock:=h.clock
 wait:=h.wait
 limit:=h.limit
 slots:=h.slots
 rlen:=h.rlen
 rises:=h.rises
 room:=h1
 sess:=h2
theorem QvB (l:List QI) (k:Int):(Qu7 l k).length<=l.length:=by
 simp only[Qu7,QRj,QY30,QY8];omega
theorem QkJ {x:Qi}(h:NOk x) (k:Int):NOk (gone x k):=QdR h (by have:=QvB x.2.2.2.2.2.2.2.2.2.2.2.2.2.2.1 k;have:=h.room;omega) (Qum h.sess _)
def Qqa (y:Qi) (lv:List Int) (seq:Int):Qk:=join (Zy (y.2.2.1,y.2.2.2.1) lv) ((ship y seq).1,(ship y seq).2.1)
def Qyt (y:Qi) (m:Q1):Q1:=(3,y.1,m.2.1,m.2.2.2.1,Xg (y.2.2.2.2.2.2.1,y.2.2.2.2.2.2.2.1,y.2.2.2.2.2.2.2.2.1),y.2.2.2.2.1,y.2.2.2.2.2.1,y.2.2.2.2.2.2.2.2.2.1,differ y.2.2.2.2.1 y.2.2.2.2.2.1 m.2.2.2.2.2.1 m.2.2.2.2.2.2.1,(Qqa y (differ y.2.2.2.2.1 y.2.2.2.2.2.1 m.2.2.2.2.2.1 m.2.2.2.2.2.2.1) (rd1 0 m.2.2.2.2.2.2.2.1 y.1)).1,(Qqa y (differ y.2.2.2.2.1 y.2.2.2.2.2.1 m.2.2.2.2.2.1 m.2.2.2.2.2.2.1) (rd1 0 m.2.2.2.2.2.2.2.1 y.1)).2,marksOf (y.2.2.1,y.2.2.2.1))
def QzE (y:Qi) (m:Q1):Q1:=(4,y.1,m.2.1,m.2.2.2.1,Xg (y.2.2.2.2.2.2.1,y.2.2.2.2.2.2.2.1,y.2.2.2.2.2.2.2.2.1),[],0,y.2.2.2.2.2.2.2.2.2.1,m.2.2.2.2.2.2.2.2.1,(Qqa y m.2.2.2.2.2.2.2.2.1 (rd1 0 m.2.2.2.2.2.2.2.1 y.1)).1,(Qqa y m.2.2.2.2.2.2.2.2.1 (rd1 0 m.2.2.2.2.2.2.2.1 y.1)).2,marksOf (y.2.2.1,y.2.2.2.1))
def QnV (x:Qi) (m:Q1):List QI:=bif decide (0<=Jf x m true)then x.2.2.2.2.2.2.2.2.2.2.2.2.2.2.1.set (Jf x m true).toNat ((rd1 yx x.2.2.2.2.2.2.2.2.2.2.2.2.2.2.1 (Jf x m true)).1,m.2.2.2.1,(rd1 yx x.2.2.2.2.2.2.2.2.2.2.2.2.2.2.1 (Jf x m true)).2.2.1,0)else x.2.2.2.2.2.2.2.2.2.2.2.2.2.2.1++[(m.2.1,m.2.2.2.1,true,0)]
def QgP (x:Qi) (m:Q1):Bool:= !decide (0<=Jf x m true)&&decide (x.2.2.2.2.2.2.2.2.2.2.2.2.2.1<=((x.2.2.2.2.2.2.2.2.2.2.2.2.2.2.1.length:Nat):Int))
def QwU (x:Qi) (m:Q1):Qi:=heard (Qew x (QnV x m)) m
theorem Qs2 {x:Qi}(h:NOk x) {m:Q1}(hf:Fit x m) (hc:QgP x m=false):NOk (Qew x (QnV x m)):=by
 have hw:=Q4.1 h.wait
 have hr:=h.room
 unfold QgP at hc
 unfold QnV
 by_cases hs:0<=Jf x m true
 ·rw[dt hs]
  obtain⟨i,e,hi,hki⟩:=Qo1 _ _ _ _ (show¬Ky (ZN m.2.1 true 0 x.2.2.2.2.2.2.2.2.2.2.2.2.2.2.1)<0 by unfold Jf at hs;omega)
  rw[QRo]at e
  have e':Jf x m true=(i:Int):=e
  rw[e',Qj hi,QRb]
  refine QdR h (by simp only[QQ1,QY26];exact hr) (Qw5 h.sess hi ?_ rfl rfl)
  have ho:=((Qaa _ _ _ _).1 h.sess).1 _ (QRf hi)
  simp only[Y6,QQ5]at ho⊢
  exact⟨⟨ho.1.1,hf.ok.num⟩,by rw[Q4];omega⟩
 ·rw[df hs]at hc⊢
  simp only[QQ4,QRd,decide_eq_false_iff_not]at hc
  refine QdR h (by simp only[QQ2,QRj,QY0,QY18];omega) (QqQ h.sess ?_ (by unfold Jf at hs;simp only;omega))
  have h1:=Q4.1 hf.ok.src
  have h2:=hf.src
  have h3:=hf.ok.two
  have h4:=hf.to
  simp only[Y6,Qdu,QQ5,Q4,QY11,decide_eq_false_iff_not]
  have h5:=Q4.1 hf.ok.num
  refine⟨⟨⟨⟨h1.1,by omega⟩, ?_⟩,h5⟩,by omega⟩
  omega
theorem Qz8 {x:Qi}{m:Q1}(hf:Fit x m) (l:List QI):Fit (Qew x l) m:=⟨hf.ok,hf.to,hf.src,hf.len⟩
theorem Qx7 {x:Qi}(h:NOk x) {m:Q1}(hf:Fit x m) (hc:QgP x m=false):NOk (QwU x m):=Qi3 (Qs2 h hf hc) (Qz8 hf _)
def Qur (x:Qi) (m:Q1):Bool:=Vt m&&(decide (m.2.2.1=x.1)&&(!decide (x.2.1<=m.2.1)&&decide (((m.2.2.2.2.2.2.2.1.length:Nat):Int)=x.2.1)))
theorem QAx {x:Qi}{m:Q1}(h:Qur x m=true):Fit x m:=by
 simp only[Qur,QQ5,QY11,QRu,decide_eq_false_iff_not]at h
 exact⟨mok h.1,h.2.1,by omega,h.2.2.2⟩
def rcv (x:Qi) (m:Q1):Qi×List Q1×Int:=bif Qur x m then
 (bif decide (m.1=0)then(brought x m,[msg (brought x m) 1 m.2.1 m.2.2.2.1],0)
 else bif decide (m.1=1)then(heard x m,[],0)
 else bif decide (m.1=2)then(bif QgP x m then(x,[msg x 5 m.2.1 m.2.2.2.1],3)else(QwU x m,[Qyt (QwU x m) m],0))
 else bif decide (m.1=3)then(bif decide (find x m false<0)then(x,[],2)else(brought (gone x (find x m false)) m,[QzE (brought (gone x (find x m false)) m) m],0))
 else bif decide (m.1=4)then(bif decide (find x m true<0)then(x,[],2)else(brought (gone x (find x m true)) m,[],0))
 else(bif decide (find x m false<0)then(x,[],2)else(gone x (find x m false),[],0)))
 else(x,[],1)
def flat (r:Qi×List Q1×Int):Int×Int×(List Qf)×(List Qb)×(List Int)×Int×Int×Int×(List Qk)×(List Int)×(List Int)×(List (List Int))×Int×Int×(List QI)×Int×Int×Int×(List QY)×(List Q1)×Int:=(r.1.1,r.1.2.1,r.1.2.2.1,r.1.2.2.2.1,r.1.2.2.2.2.1,r.1.2.2.2.2.2.1,r.1.2.2.2.2.2.2.1,r.1.2.2.2.2.2.2.2.1,r.1.2.2.2.2.2.2.2.2.1,r.1.2.2.2.2.2.2.2.2.2.1,r.1.2.2.2.2.2.2.2.2.2.2.1,r.1.2.2.2.2.2.2.2.2.2.2.2.1,r.1.2.2.2.2.2.2.2.2.2.2.2.2.1,r.1.2.2.2.2.2.2.2.2.2.2.2.2.2.1,r.1.2.2.2.2.2.2.2.2.2.2.2.2.2.2.1,r.1.2.2.2.2.2.2.2.2.2.2.2.2.2.2.2.1,r.1.2.2.2.2.2.2.2.2.2.2.2.2.2.2.2.2.1,r.1.2.2.2.2.2.2.2.2.2.2.2.2.2.2.2.2.2.1,r.1.2.2.2.2.2.2.2.2.2.2.2.2.2.2.2.2.2.2,r.2.1,r.2.2)
theorem QtJ {x:Qi}{m:Q1}(hf:Fit x m) (k:Int):Fit (gone x k) m:=⟨hf.ok,hf.to,hf.src,hf.len⟩
theorem QnR {x:Qi}(h:NOk x) (m:Q1):NOk (rcv x m).1:=by
 unfold rcv
 cases hb:Qur x m
 ·exact h
 ·have hf:=QAx hb
  simp only[QQ1]
  cases decide (m.1=0)<;>simp only[QQ1,QQ2]
  ·cases decide (m.1=1)<;>simp only[QQ1,QQ2]
   ·cases decide (m.1=2)<;>simp only[QQ1,QQ2]
    ·cases decide (m.1=3)<;>simp only[QQ1,QQ2]
     ·cases decide (m.1=4)<;>simp only[QQ1,QQ2]
      ·cases decide (find x m false<0)
       ·exact QkJ h _
       ·exact h
      ·cases decide (find x m true<0)
       ·exact Qgn (QkJ h _) (QtJ hf _)
       ·exact h
     ·cases decide (find x m false<0)
      ·exact Qgn (QkJ h _) (QtJ hf _)
      ·exact h
    ·cases hc:QgP x m
     ·exact Qx7 h hf hc
     ·exact h
   ·exact Qi3 h hf
  ·exact Qgn h hf
def QuT (wt:Int):List QI->List QI
 | []=>[]
 |x::l=>bif decide (x.2.2.2+1<=wt)then(x.1,x.2.1,x.2.2.1,x.2.2.2+1)::QuT wt l else QuT wt l
def QCa (x:Qi):Qi:=(x.1,x.2.1,x.2.2.1,x.2.2.2.1,x.2.2.2.2.1,x.2.2.2.2.2.1,x.2.2.2.2.2.2.1,x.2.2.2.2.2.2.2.1,x.2.2.2.2.2.2.2.2.1,x.2.2.2.2.2.2.2.2.2.1,x.2.2.2.2.2.2.2.2.2.2.1,x.2.2.2.2.2.2.2.2.2.2.2.1,x.2.2.2.2.2.2.2.2.2.2.2.2.1,x.2.2.2.2.2.2.2.2.2.2.2.2.2.1,QuT x.2.2.2.2.2.2.2.2.2.2.2.2.2.2.2.1 x.2.2.2.2.2.2.2.2.2.2.2.2.2.2.1,x.2.2.2.2.2.2.2.2.2.2.2.2.2.2.2.1,x.2.2.2.2.2.2.2.2.2.2.2.2.2.2.2.2.1,x.2.2.2.2.2.2.2.2.2.2.2.2.2.2.2.2.2.1+1,x.2.2.2.2.2.2.2.2.2.2.2.2.2.2.2.2.2.2)
def tick (x:Qi):Qi:=bif decide (x.2.2.2.2.2.2.2.2.2.2.2.2.2.2.2.2.2.1=100000)then x else QCa x
def QDb (x:Qi) (s:Qk):Qi:=(x.1,x.2.1,x.2.2.1,x.2.2.2.1,x.2.2.2.2.1,x.2.2.2.2.2.1,(Qrf (x.2.2.2.2.2.2.1,x.2.2.2.2.2.2.2.1,x.2.2.2.2.2.2.2.2.1) s).1,(Qrf (x.2.2.2.2.2.2.1,x.2.2.2.2.2.2.2.1,x.2.2.2.2.2.2.2.2.1) s).2.1,(Qrf (x.2.2.2.2.2.2.1,x.2.2.2.2.2.2.2.1,x.2.2.2.2.2.2.2.2.1) s).2.2,x.2.2.2.2.2.2.2.2.2.1.set (x.1).toNat (rd1 0 x.2.2.2.2.2.2.2.2.2.1 x.1+1),x.2.2.2.2.2.2.2.2.2.2.1,x.2.2.2.2.2.2.2.2.2.2.2.1,x.2.2.2.2.2.2.2.2.2.2.2.2.1,x.2.2.2.2.2.2.2.2.2.2.2.2.2.1,x.2.2.2.2.2.2.2.2.2.2.2.2.2.2.1,x.2.2.2.2.2.2.2.2.2.2.2.2.2.2.2.1,x.2.2.2.2.2.2.2.2.2.2.2.2.2.2.2.2.1,x.2.2.2.2.2.2.2.2.2.2.2.2.2.2.2.2.2.1,x.2.2.2.2.2.2.2.2.2.2.2.2.2.2.2.2.2.2)
def QnW (x:Qi) (id:Int):Int:=bif inR id 0 (x.2.1 - 1)&&decide (id=x.1)then(bif decide ((zp (x.2.2.1,x.2.2.2.1) id).2.2=0)then(bif decide (x.2.2.2.2.2.2.2.1+((x.2.2.2.2.2.2.2.2.1.length:Nat):Int)=100000)then 4 else 0)else(zp (x.2.2.1,x.2.2.2.1) id).2.2)else 1
def Qzj (x:Qi) (id:Int):Qi:=bif decide (QnW x id=0)then(take (QDb x ((zp (x.2.2.1,x.2.2.2.1) id).1,(zp (x.2.2.1,x.2.2.2.1) id).2.1)) ((zp (x.2.2.1,x.2.2.2.1) id).1,(zp (x.2.2.1,x.2.2.2.1) id).2.1))else x
def QzL (x:Qi) (id:Int):Qk:=bif decide (QnW x id=0)then((zp (x.2.2.1,x.2.2.2.1) id).1,(zp (x.2.2.1,x.2.2.2.1) id).2.1)else([],[])
def Qyb (x:Qi) (to:Int):Q1:=((msg x 2 to (x.2.2.2.2.2.2.2.2.2.2.2.2.1+1)).1,(msg x 2 to (x.2.2.2.2.2.2.2.2.2.2.2.2.1+1)).2.1,(msg x 2 to (x.2.2.2.2.2.2.2.2.2.2.2.2.1+1)).2.2.1,(msg x 2 to (x.2.2.2.2.2.2.2.2.2.2.2.2.1+1)).2.2.2.1,(msg x 2 to (x.2.2.2.2.2.2.2.2.2.2.2.2.1+1)).2.2.2.2.1,x.2.2.2.2.1,x.2.2.2.2.2.1,(msg x 2 to (x.2.2.2.2.2.2.2.2.2.2.2.2.1+1)).2.2.2.2.2.2.2.1,(msg x 2 to (x.2.2.2.2.2.2.2.2.2.2.2.2.1+1)).2.2.2.2.2.2.2.2.1,(msg x 2 to (x.2.2.2.2.2.2.2.2.2.2.2.2.1+1)).2.2.2.2.2.2.2.2.2.1,(msg x 2 to (x.2.2.2.2.2.2.2.2.2.2.2.2.1+1)).2.2.2.2.2.2.2.2.2.2.1,(msg x 2 to (x.2.2.2.2.2.2.2.2.2.2.2.2.1+1)).2.2.2.2.2.2.2.2.2.2.2)
def QyV (n:Qi) (r1 r2:Qi×List Q1×Int):Option (Qi×Qi):=bif decide (r2.2.2=0)then(bif r2.2.1.isEmpty then none else(bif decide ((rcv r1.1 (r2.2.1.headD Qk9)).2.2=0)then some (r2.1,(rcv r1.1 (r2.2.1.headD Qk9)).1)else none))else none
def Qy2 (n:Qi) (r1:Qi×List Q1×Int):Option (Qi×Qi):=bif decide (r1.2.2=0)then(bif r1.2.1.isEmpty then none else QyV n r1 (rcv n (r1.2.1.headD Qk9)))else none
def talk (x y:Qi) (q:Int):Option (Qi×Qi):=bif QgI x q then Qy2 (QrL x q) (rcv y (Qyb x q))else none
def QyI (ns:List Qi) (p q:Nat):Option (Qi×Qi)->List Qi×Bool
 |none=>(ns,false)
 |some r=>((ns.set p r.1).set q r.2,true)
def exch (ns:List Qi) (net:List QD) (sd:List QE) (p q:Int):List Qi×Bool:=bif two ns net sd p q then QyI ns p.toNat q.toNat (talk (nodeAt ns p) (nodeAt ns q) q)else(ns,false)
theorem Qyg {x y:Qi}(hx:NOk x) (hy:NOk y) {q:Int}{r:Qi×Qi}(h:talk x y q=some r):NOk r.1/\NOk r.2:=by
 unfold talk Qy2 QyV at h
 cases hc:QgI x q
 ·rw[hc]at h;cases h
 ·rw[hc]at h
  have k1:=QnR hy (Qyb x q)
  generalize rcv y (Qyb x q)=r1 at h k1
  have k2:=QnR (Qyn hx hc) (r1.2.1.headD Qk9)
  generalize rcv (QrL x q) (r1.2.1.headD Qk9)=r2 at h k2
  have k3:=QnR k1 (r2.2.1.headD Qk9)
  generalize rcv r1.1 (r2.2.1.headD Qk9)=r3 at h k3
  simp only[QQ1]at h
  cases h1:decide (r1.2.2=0)<;>rw[h1]at h<;>simp only[QQ1,QQ2]at h
  ·cases h
  ·cases h2:r1.2.1.isEmpty<;>rw[h2]at h<;>simp only[QQ1,QQ2]at h
   ·cases h3:decide (r2.2.2=0)<;>rw[h3]at h<;>simp only[QQ1,QQ2]at h
    ·cases h
    ·cases h4:r2.2.1.isEmpty<;>rw[h4]at h<;>simp only[QQ1,QQ2]at h
     ·cases h5:decide (r3.2.2=0)<;>rw[h5]at h<;>simp only[QQ1,QQ2]at h
      ·cases h
      ·obtain rfl:=QY9 h
       exact⟨k2,k3⟩
     ·cases h
   ·cases h
theorem QzO {ns:List Qi}{net:List QD}{sd:List QE}{p q:Int}(h:two ns net sd p q=true):Jo ns net sd=true/\inR p 0 ((ns.length:Nat) - 1)=true/\inR q 0 ((ns.length:Nat) - 1)=true/\p≠q:=by
 simp only[two,QQ5,QY11,decide_eq_false_iff_not]at h
 exact⟨h.1,h.2.1,h.2.2.1,h.2.2.2⟩
theorem Qvv {sd:List QE}(h:∀x∈sd,QF x.2=true):YL sd<=61*sd.length:=by
 have:Zc XN sd<=60*sd.length:=QgE _ _ _ fun x hx=>QkX (h x hx)
 simp only[YL];omega
theorem QsK {ns:List Qi}(h:∀x∈ns,NOk x):YO ns<=2001*ns.length:=by
 have:Zc Xw ns<=2000*ns.length:=QgE _ _ _ fun x hx=>(Qmn (h x hx)).1
 simp only[YO];omega
theorem QsP {ns:List Qi}{net:List QD}{sd:List QE}(h:∀x∈ns,NOk x) (hl:ns.length<=5) (hn:ZG net<=1048576) (hd:∀x∈sd,QF x.2=true) (hdl:sd.length<=41):ZH (ns,net,sd)<=1100000/\smW ns net sd:=by
 have h1:=QsK h
 have h2:=Qvv hd
 refine⟨by simp only[ZH];omega,by simp only[maxLen];omega,fun x hx=>(Qmn (h x hx)).2, ?_, ?_,by simp only[maxLen];omega,fun x hx=>Qwv (hd x hx)⟩
 ·simp only[ZG]at hn;simp only[maxLen];omega
 ·intro p hp
  have:=Qxu Xm hp
  simp only[ZG]at hn
  simp only[Xm,qn]at this
  simp only[maxLen];omega
theorem QtB {ns:List Qi}(h:∀x∈ns,NOk x) {i:Nat}{n:Qi}(hn:NOk n):∀x∈ns.set i n,NOk x:=fun x hx=>by
 rcases QY35 hx with hx|rfl
 ·exact h x hx
 ·exact hn
theorem Qw0 {ns:List Qi}{net:List QD}{sd:List QE}(h:∀x∈ns,NOk x) (p q:Int):(∀x∈(exch ns net sd p q).1,NOk x)/\(exch ns net sd p q).1.length=ns.length:=by
 unfold exch
 cases h2:two ns net sd p q
 ·exact⟨h,rfl⟩
 ·obtain⟨_,hp,hq,_⟩:=QzO h2
  obtain⟨i,rfl,hi⟩:=Qc1 hp
  obtain⟨j,rfl,hj⟩:=Qc1 hq
  simp only[QQ1,Qmo hi,Qmo hj]
  cases ht:talk ns[i] ns[j] (j:Int)with
  |none=>exact⟨h,rfl⟩
  |some r=>
   have hr:=Qyg (h _ (QRf hi)) (h _ (QRf hj)) ht
   exact⟨QtB (QtB h hr.1) hr.2,by simp[QyI]⟩
def QjR (ns:List Qi) (i:Nat):Qi:=tick (nodeAt ns (i:Int))
def QrX (ns:List Qi) (sd:List QE) (i:Nat):Bool:=(lookup ((QjR ns i).2.2.1,(QjR ns i).2.2.2.1) (i:Int)).2.2.2.2.2&&(decide (((sd.length:Nat):Int)<40)&&decide (QnW (QjR ns i) (i:Int)=0))
def QAv (ns:List Qi) (sd:List QE) (i:Nat):List Qi:=bif QrX ns sd i then ns.set i (Qzj (QjR ns i) (i:Int))else ns.set i (QjR ns i)
def QvD (ns:List Qi) (sd:List QE) (i:Nat):List QE:=bif QrX ns sd i then sd++[((i:Int),QzL (QjR ns i) (i:Int))]else sd
def step (ns:List Qi) (net:List QD) (sd:List QE) (t:Int):YF:=bif decide ((QjI ns net sd t).1<0)then(ns,net,sd)else((exch (QAv ns sd (QjI ns net sd t).1.toNat) net (QvD ns sd (QjI ns net sd t).1.toNat) (QjI ns net sd t).1 (QjI ns net sd t).2).1,net,QvD ns sd (QjI ns net sd t).1.toNat)
structure Fine (x:YF):Prop where
 mz:ZH x<=1100000
 net:ZG x.2.1<=1048576
 sm:smW x.1 x.2.1 x.2.2
structure Kp (n:Nat) (ns:List Qi) (net:List QD) (sd:List QE):Prop where
 nodes:∀x∈ns,NOk x
 len:ns.length=n
 n5:n<=5
 net:ZG net<=1048576
 sds:∀x∈sd,QF x.2=true
 sdl:sd.length<=41
theorem Kp.sm {n:Nat}{ns:List Qi}{net:List QD}{sd:List QE}(h:Kp n ns net sd):ZH (ns,net,sd)<=1100000/\smW ns net sd:=QsP h.nodes (by have:=h.len;have:=h.n5;omega) h.net h.sds h.sdl
theorem Kp.exch {n:Nat}{ns:List Qi}{net:List QD}{sd:List QE}(h:Kp n ns net sd) (p q:Int):Kp n (exch ns net sd p q).1 net sd:=by
 have:=Qw0 (net:=net) (sd:=sd) h.nodes p q
 exact⟨this.1,this.2.trans h.len,h.n5,h.net,h.sds,h.sdl⟩
def nums (l:List Int):List Int:=Qd (l.length:Nat)++l.flatMap Qd
theorem QkD (l:List Int):(nums l).length<=5+l.length*5:=by
 have h:=Vb Qd 5 l fun x _=>Qu x
 have:=Qu (l.length:Nat)
 simp only[nums,QRj];omega
theorem QhY (l:List Int) (hl:l.length<=4294967296):Vu w l=some (nums l):=by
 apply Qly
 have hp:=Qu (l.length:Nat)
 have e:=Xu l.length (fun i (o:List Int)=>KD wl (l,((l.length:Nat):Int),(i:Int),o)) (fun i o=>o++(l.drop i).flatMap Qd) (fun i o=>o.length<=5+i*5)
  (fun i hi o ho ih=>by
    apply QbE
    have hb:=Qu l[i]
    have ih1:=ih (o++Qd l[i]) (by rw[QRj];omega)
    have ej: [o,Qd l[i]].flatten=o++Qd l[i]:=by simp
    have hj:=Kj [o,Qd l[i]] (by simp[maxLen]) (by rw[ej,QRj];omega)
    simp only[ji,ilt hi,Qo hi,Qj hi,inc hi (show l.length<=maxLen by simp[maxLen];omega),QQ1,Ys,QQ0,hj,ej,ih1]
    rw[QRa hi,QY7,QRc])
  (fun o _=>by
    apply QbE
    simp[ji])
  (Qd (l.length:Nat)) (by omega)
 simp only[QQ6,QRg]at e
 simp only[Qee,Ys,QQ0,e,nums]
theorem QhB (l:List Int) (hl:l.length<=4294967296):VI w l=some (nums l):=by
 apply Qne
 have hp:=Qu (l.length:Nat)
 have e:=Xu l.length (fun i (o:List Int)=>Ku wl (l,(i:Int),o)) (fun i o=>o++(l.drop i).flatMap Qd) (fun i o=>o.length<=5+i*5)
  (fun i hi o ho ih=>by
    apply Qa7
    have hb:=Qu l[i]
    have ih1:=ih (o++Qd l[i]) (by rw[QRj];omega)
    simp only[zM,ilt hi,Qo hi,Qj hi,inc hi (show l.length<=maxLen by simp[maxLen];omega),QQ1,Zm,QQ0,QL (show(o.length+(Qd l[i]).length)*1<=140737488351232 by omega),ih1]
    rw[QRa hi,QY7,QRc])
  (fun o _=>by
    apply Qa7
    simp[zM])
  (Qd (l.length:Nat)) (by omega)
 simp only[QQ6,QRg]at e
 simp only[Qe4,Zm,QQ0,e,nums]
def isB (l:List Int):Prop:=∀x∈l,0<=x/\x<256
theorem QP {a b:List Int}(h:isB a) (h':isB b):isB (a++b):=fun x hx=>by
 rcases QRh.1 hx with h1|h1
 ·exact h x h1
 ·exact h' x h1
theorem wrap_u8 (n:Int):0<=IntKind.wrap .u8 n/\IntKind.wrap .u8 n<256:=by
 rw[IntKind.wrap_u8];omega
theorem QrV:(f:Nat)->(n:Int)->(o:List Int)->isB o->isB (Xs f n o).2
 |0,n,o,h=>h
 |f+1,n,o,h=>by
  simp only[Xs]
  split
  ·refine QrV f _ _ (QP h fun x hx=> ?_)
   rw[List.mem_singleton.1 hx];exact wrap_u8 _
  ·exact h
theorem Q9 (n:Int):isB (Qd n):=by
 unfold Qd
 cases inR n 0 2147483647
 ·intro x hx;simp at hx
 ·refine QP (QrV 4 n [] (fun x hx=>by simp at hx)) fun x hx=> ?_
  rw[List.mem_singleton.1 hx];exact wrap_u8 _
theorem Qd9 {α:Type}(f:α->List Int) (h:∀x,isB (f x)) (l:List α):isB (l.flatMap f):=fun x hx=>by
 obtain⟨y,_,hy⟩:=List.mem_flatMap.1 hx
 exact h y x hy
theorem Qle (l:List Int):isB (nums l):=QP (Q9 _) (Qd9 _ Q9 _)
theorem QsU (s:ByteArray):isB (ofBytes s):=fun x hx=>by
 simp only[ofBytes,QY21]at hx
 obtain⟨b,_,rfl⟩:=hx
 have:=b.toNat_lt
 omega
theorem Qwe (x:Qf):isB (XU x):=QP (Q9 _) (QP (Q9 _) (QP (Q9 _) (QP (Q9 _) (QP (Q9 _) (QP (Q9 _) (QsU _))))))
theorem Qh2 (x:Qb):isB (Q2 x):=QP (Q9 _) (Q9 _)
theorem QtO (s:Qk):isB (stB s):=QP (Q9 _) (QP (Qd9 _ Qwe _) (QP (Q9 _) (Qd9 _ Qh2 _)))
theorem Qnk (x:Int) (h0:0<=x) (h1:x<4294967296):(BitVec.ofInt 64 x).toNat=x.toNat:=by
 rw[BitVec.toNat_ofInt]
 have:x % ((2^64:Nat):Int)=x:=Int.emod_eq_of_lt h0 (by omega)
 rw[this]
theorem QoE (x y:Int) (hx:0<=x) (hx':x<4294967296) (hy:0<=y) (hy':y<4294967296):0<=bits .xor .i64 x y/\bits .xor .i64 x y<4294967296:=by
 have e:bits .xor .i64 x y=wR ((BitVec.ofInt 64 x^^^BitVec.ofInt 64 y).toNat:Nat):=rfl
 rw[e,BitVec.toNat_xor,Qnk x hx hx',Qnk y hy hy']
 have:=Nat.xor_lt_two_pow (n:=32) (x:=x.toNat) (y:=y.toNat) (by omega) (by omega)
 rw[w64 (by omega) (by omega)];omega
theorem QsJ (x:Int) (h:0<=x) (h':x<4294967296):0<=zg x/\zg x<4294967296:=by
 have hd:=QY34 (b:=2) h
 unfold zg
 rw[w64 (by omega) (by omega)]
 split
 ·exact QoE _ _ (by omega) (by omega) (by omega) (by omega)
 ·omega
theorem Qpp:(n:Nat)->(x:Int)->0<=x->x<4294967296->0<=JI n x/\JI n x<4294967296
 |0,x,h,h'=>⟨h,h'⟩
 |n+1,x,h,h'=>by
  have:=QsJ x h h'
  rw[JI];exact Qpp n _ this.1 this.2
theorem Qyy (s b:Int) (h:0<=s) (h':s<4294967296) (hb:0<=b) (hb':b<256):0<=Qh4 s b/\Qh4 s b<4294967296:=by
 rw[Qot,w64 (by omega) (by omega)]
 have:=QoE s b h h' hb (by omega)
 exact Qpp 8 _ this.1 this.2
theorem QrR:(l:List Int)->(s:Int)->isB l->0<=s->s<4294967296->0<=l.foldl Qh4 s/\l.foldl Qh4 s<4294967296
 | [],s,_,h,h'=>⟨h,h'⟩
 |b::l,s,hl,h,h'=>by
  have hb:=hl b (by simp)
  have:=Qyy s b h h' hb.1 hb.2
  rw[List.foldl_cons]
  exact QrR l _ (fun x hx=>hl x (by simp[hx])) this.1 this.2
theorem Qzk (l:List Int) (h:isB l):0<=crc l/\crc l<4294967296:=by
 have:=QrR l 4294967295 h (by omega) (by omega)
 exact QoE _ _ this.1 this.2 (by omega) (by omega)
def Y0 (r:Int):List Int:=[IntKind.wrap .u8 (bits .and .i64 (jW .i64 r 24) 255),IntKind.wrap .u8 (bits .and .i64 (jW .i64 r 16) 255),IntKind.wrap .u8 (bits .and .i64 (jW .i64 r 8) 255),IntKind.wrap .u8 (bits .and .i64 r 255)]
theorem Qmq (x:Int) (h:0<=x) (h':x<4294967296):bits .and .i64 x 255=x % 256:=by
 have e:bits .and .i64 x 255=wR ((BitVec.ofInt 64 x&&&BitVec.ofInt 64 255).toNat:Nat):=rfl
 rw[e,BitVec.toNat_and,Qnk x h h',Qnk 255 (by omega) (by omega)]
 have:x.toNat&&&(255:Int).toNat=x.toNat % 256:=Nat.and_two_pow_sub_one_eq_mod x.toNat 8
 rw[this,w64 (by omega) (by omega)];omega
theorem QrH (x:Int) (n:Nat) (m:Int) (hm:(2:Int)^n=m) (hn:n<=64):jW .i64 x (n:Int)=Int.fdiv x m:=by
 unfold jW
 rw[QRb,Nat.min_eq_left (show n<=IntKind.bits .i64 from hn),hm]
theorem QzM (r:Int) (h:0<=r) (h':r<4294967296):Y0 r=[IntKind.wrap .u8 (wR (Int.tdiv r 16777216)),IntKind.wrap .u8 (Int.tmod (wR (Int.tdiv r 65536)) 256),IntKind.wrap .u8 (Int.tmod (wR (Int.tdiv r 256)) 256),IntKind.wrap .u8 (Int.tmod r 256)]:=by
 unfold Y0
 have s1:jW .i64 r 24=r / 16777216:=by rw[show(24:Int)=((24:Nat):Int)from rfl,QrH r 24 16777216 (by decide) (by omega),Int.fdiv_eq_ediv_of_nonneg _ (by omega)]
 have s2:jW .i64 r 16=r / 65536:=by rw[show(16:Int)=((16:Nat):Int)from rfl,QrH r 16 65536 (by decide) (by omega),Int.fdiv_eq_ediv_of_nonneg _ (by omega)]
 have s3:jW .i64 r 8=r / 256:=by rw[show(8:Int)=((8:Nat):Int)from rfl,QrH r 8 256 (by decide) (by omega),Int.fdiv_eq_ediv_of_nonneg _ (by omega)]
 have d1:=QY34 (b:=16777216) h
 have d2:=QY34 (b:=65536) h
 have d3:=QY34 (b:=256) h
 rw[s1,s2,s3,d1,d2,d3,Qmq _ (by omega) (by omega),Qmq _ (by omega) (by omega),Qmq _ (by omega) (by omega),Qmq _ (by omega) (by omega)]
 rw[w64 (n:=r / 16777216) (by omega) (by omega),w64 (n:=r / 65536) (by omega) (by omega),w64 (n:=r / 256) (by omega) (by omega)]
 rw[Int.tmod_eq_emod_of_nonneg (a:=r / 65536) (by omega),Int.tmod_eq_emod_of_nonneg (a:=r / 256) (by omega),Int.tmod_eq_emod_of_nonneg (a:=r) (by omega)]
 have:r / 16777216 % 256=r / 16777216:=Int.emod_eq_of_lt (by omega) (by omega)
 rw[this]
theorem Qsu (l:List Int) (h:l.length<=maxLen):xz w l=some (Y0 (crc l)):=by
 apply QkO
 simp only[Qcm,Qmi l h,QQ0,dt (show(0:Int)<=24 by omega),dt (show(0:Int)<=16 by omega),dt (show(0:Int)<=8 by omega),QQ1,Y0]
theorem Qpz (l:List Int) (h:l.length<=maxLen) (hb:isB l):qY w l=some (Y0 (crc l)):=by
 apply Qn6
 have:=Qzk l hb
 simp only[Qfx,QjS l h,QQ0,dt (show(16777216:Int)≠0 by omega),dt (show(65536:Int)≠0 by omega),dt (show(256:Int)≠0 by omega),QQ1,QzM _ this.1 this.2]
def Yx (a0 a1 a2 a3 a4:Int) (a5:List Int) (a6:Int) (a7 a8:List Int) (a9:List Qf) (a10 a11:List Qb):List Int:=[82,75]++(Qd a0++(Qd a1++(Qd a2++(Qd a3++(Qd a4++(nums a5++(Qd a6++(nums a7++(nums a8++(Qd ((stB (a9,a10)).length:Nat)++(stB (a9,a10)++Qd (a11.length:Nat))))))))))))
def Xt (a0 a1 a2 a3 a4:Int) (a5:List Int) (a6:Int) (a7 a8:List Int) (a9:List Qf) (a10 a11:List Qb):List Int:=Yx a0 a1 a2 a3 a4 a5 a6 a7 a8 a9 a10 a11++a11.flatMap Q2
def xY (a0 a1 a2 a3 a4:Int) (a5:List Int) (a6:Int) (a7 a8:List Int) (a9:List Qf) (a10 a11:List Qb):List Int:=bif JU a0 a1 a2 a3 a4 a5 a6 a7 a8 a9 a10 a11 then Xt a0 a1 a2 a3 a4 a5 a6 a7 a8 a9 a10 a11++Y0 (crc (Xt a0 a1 a2 a3 a4 a5 a6 a7 a8 a9 a10 a11))else []
theorem QhG (a0 a1 a2 a3 a4:Int) (a5:List Int) (a6:Int) (a7 a8:List Int) (a9:List Qf) (a10 a11:List Qb) (h:JU a0 a1 a2 a3 a4 a5 a6 a7 a8 a9 a10 a11=true):a5.length<=4/\a7.length<=5/\a8.length<=4/\QF (a9,a10)=true/\a11.length<=5:=by
 simp only[JU,QQ5]at h
 obtain⟨⟨⟨⟨⟨⟨⟨⟨⟨⟨⟨_,_⟩,_⟩,_⟩,hl⟩,_⟩,_⟩,_⟩,ht⟩,h7⟩,hs⟩,hm⟩:=h
 have h8:=QnM _ _ hl (by omega)
 have h11:=yR _ _ hm (by omega)
 refine⟨?_,by simp at h7;omega, ?_,hs, ?_⟩
 ·unfold qo at ht
  cases h0:decide (((a5.length:Nat):Int)=0)
  ·rw[h0]at ht
   simp at ht;omega
  ·simp at h0;rw[h0];simp
 ·rcases h8 with h|h
  ·omega
  ·rw[h];simp
 ·rcases h11 with h|h
  ·omega
  ·rw[h];simp
theorem Qkv (a0 a1 a2 a3 a4:Int) (a5:List Int) (a6:Int) (a7 a8:List Int) (a9:List Qf) (a10 a11:List Qb) (h:JU a0 a1 a2 a3 a4 a5 a6 a7 a8 a9 a10 a11=true):(Yx a0 a1 a2 a3 a4 a5 a6 a7 a8 a9 a10 a11).length<=3000000:=by
 obtain⟨h5,h7,h8,hs,h11⟩:=QhG a0 a1 a2 a3 a4 a5 a6 a7 a8 a9 a10 a11 h
 have l0:=Qu a0
 have l1:=Qu a1
 have l2:=Qu a2
 have l3:=Qu a3
 have l4:=Qu a4
 have l5:=QkD a5
 have l6:=Qu a6
 have l7:=QkD a7
 have l8:=QkD a8
 have l9:=Qu ((stB (a9,a10)).length:Nat)
 have l10:=QjN (J0 hs)
 have l11:=Qu (a11.length:Nat)
 simp only[Yx,QRj,QY0,QY18];omega
theorem Qj6 (a0 a1 a2 a3 a4:Int) (a5:List Int) (a6:Int) (a7 a8:List Int) (a9:List Qf) (a10 a11:List Qb):isB (Yx a0 a1 a2 a3 a4 a5 a6 a7 a8 a9 a10 a11):=by
 unfold Yx
 refine QP (fun x hx=> ?_) (QP (Q9 _) (QP (Q9 _) (QP (Q9 _) (QP (Q9 _) (QP (Q9 _) (QP (Qle _) (QP (Q9 _) (QP (Qle _) (QP (Qle _) (QP (Q9 _) (QP (QtO _) (Q9 _))))))))))))
 simp at hx;omega
theorem QpX (b:List Qb) (hb:b.length<=1000) (o:List Int) (ho:o.length<=3000000):
 Zf wl (b,((b.length:Nat):Int),0,o)=some (o++b.flatMap Q2):=by
 have e:=Xu b.length (fun i (o:List Int)=>Zf wl (b,((b.length:Nat):Int),(i:Int),o)) (fun i o=>o++(b.drop i).flatMap Q2) (fun i o=>o.length<=3000000+i*10)
  (fun i hi o ho ih=>by
    apply vn
    have hb:=VW b[i]
    have ih1:=ih (o++Q2 b[i]) (by rw[QRj];omega)
    have ej: [o,Qd b[i].1,Qd b[i].2].flatten=o++Q2 b[i]:=by simp[Q2]
    have hj:=Kj [o,Qd b[i].1,Qd b[i].2] (by simp[maxLen]) (by rw[ej,QRj];omega)
    simp only[xT,ilt hi,Qo hi,Qj hi,inc hi (show b.length<=maxLen by simp[maxLen];omega),QQ1,Ys,QQ0,hj,ej,ih1]
    rw[QRa hi,QY7,QRc])
  (fun o _=>by
    apply vn
    simp[xT])
  o (by omega)
 simpa using e
theorem QsV (a0 a1 a2 a3 a4:Int) (a5:List Int) (a6:Int) (a7 a8:List Int) (a9:List Qf) (a10 a11:List Qb) (h:smM a5 a7 a8 a9 a10 a11):xL w (a0,a1,a2,a3,a4,a5,a6,a7,a8,a9,a10,a11)=some (xY a0 a1 a2 a3 a4 a5 a6 a7 a8 a9 a10 a11):=by
 apply QkP
 simp only[Qcs,Qri a0 a1 a2 a3 a4 a5 a6 a7 a8 a9 a10 a11 h,QQ0,xY]
 obtain⟨h5,h7,h8,h9,h10,h11⟩:=h
 cases hm:JU a0 a1 a2 a3 a4 a5 a6 a7 a8 a9 a10 a11
 ·simp
 obtain⟨m5,m7,m8,hs,m11⟩:=QhG a0 a1 a2 a3 a4 a5 a6 a7 a8 a9 a10 a11 hm
 have hl:=Qkv a0 a1 a2 a3 a4 a5 a6 a7 a8 a9 a10 a11 hm
 have ej: [[82,75],Qd a0,Qd a1,Qd a2,Qd a3,Qd a4,nums a5,Qd a6,nums a7,nums a8,Qd ((stB (a9,a10)).length:Nat),stB (a9,a10),Qd (a11.length:Nat)].flatten=Yx a0 a1 a2 a3 a4 a5 a6 a7 a8 a9 a10 a11:=by
  simp only[QRr,List.flatten_nil,QY10,Yx]
 have hj:=Kj [[82,75],Qd a0,Qd a1,Qd a2,Qd a3,Qd a4,nums a5,Qd a6,nums a7,nums a8,Qd ((stB (a9,a10)).length:Nat),stB (a9,a10),Qd (a11.length:Nat)] (by simp[maxLen]) (by rw[ej];omega)
 have hfl:=Vb Q2 10 a11 fun x _=>VW x
 have hbl:(Xt a0 a1 a2 a3 a4 a5 a6 a7 a8 a9 a10 a11).length<=3000050:=by simp only[Xt,QRj];omega
 have hc:=Qsu (Xt a0 a1 a2 a3 a4 a5 a6 a7 a8 a9 a10 a11) (by simp only[maxLen];omega)
 have ek: [Xt a0 a1 a2 a3 a4 a5 a6 a7 a8 a9 a10 a11,Y0 (crc (Xt a0 a1 a2 a3 a4 a5 a6 a7 a8 a9 a10 a11))].flatten=Xt a0 a1 a2 a3 a4 a5 a6 a7 a8 a9 a10 a11++Y0 (crc (Xt a0 a1 a2 a3 a4 a5 a6 a7 a8 a9 a10 a11)):=by simp
 have hk:=Kj [Xt a0 a1 a2 a3 a4 a5 a6 a7 a8 a9 a10 a11,Y0 (crc (Xt a0 a1 a2 a3 a4 a5 a6 a7 a8 a9 a10 a11))] (by simp[maxLen]) (by rw[ek,QRj];simp only[Y0,QY0,QY18];omega)
 have hloop:Zf wl (a11,((a11.length:Nat):Int),0,Yx a0 a1 a2 a3 a4 a5 a6 a7 a8 a9 a10 a11)=some (Xt a0 a1 a2 a3 a4 a5 a6 a7 a8 a9 a10 a11):=QpX a11 (by omega) _ hl
 simp only[QQ3,QQ2,QQ1,Qb1 a9 a10 h9 h10,hs,Ys,QhY a5 (by omega),QhY a7 (by omega),QhY a8 (by omega),QQ0,hj,ej,hloop,hc,hk,ek]
theorem QqI (a0 a1 a2 a3 a4:Int) (a5:List Int) (a6:Int) (a7 a8:List Int) (a9:List Qf) (a10 a11:List Qb) (o l:List Int) (hl:l.length<=5) (ho:o.length<=10):
 Z9 wl (0,a0,a1,a2,a3,a4,a5,a6,a7,a8,a9,a10,a11,o,l)=some (a0,a1,a2,a3,a4,a5,a6,a7,a8,a9,a10,a11,o++l.flatMap Qd):=by
 have e:=Xu l.length (fun k (o:List Int)=>Z9 wl ((k:Int),a0,a1,a2,a3,a4,a5,a6,a7,a8,a9,a10,a11,o,l)) (fun k o=>(a0,a1,a2,a3,a4,a5,a6,a7,a8,a9,a10,a11,o++(l.drop k).flatMap Qd)) (fun k o=>o.length<=10+k*5)
  (fun k hk o ho ih=>by
    apply QbH
    have hb:=Qu l[k]
    have ih1:=ih (o++Qd l[k]) (by rw[QRj];omega)
    simp only[ja,ilt hk,Qo hk,Qj hk,inc hk (show l.length<=maxLen by simp[maxLen];omega),QQ1,Zm,QQ0,QL (show(o.length+(Qd l[k]).length)*1<=140737488351232 by omega),ih1]
    rw[QRa hk,QY7,QRc])
  (fun o _=>by
    apply QbH
    simp[ja])
  o (by omega)
 simpa using e
theorem QpY (a0 a1 a2 a3 a4:Int) (a5:List Int) (a6:Int) (a7 a8:List Int) (a9:List Qf) (a10 a11:List Qb) (hb:a11.length<=1000) (o:List Int) (ho:o.length<=3000000):
 ZU wl (0,a0,a1,a2,a3,a4,a5,a6,a7,a8,a9,a10,a11,o)=some (o++a11.flatMap Q2):=by
 have e:=Xu a11.length (fun i (o:List Int)=>ZU wl ((i:Int),a0,a1,a2,a3,a4,a5,a6,a7,a8,a9,a10,a11,o)) (fun i o=>o++(a11.drop i).flatMap Q2) (fun i o=>o.length<=3000000+i*10)
  (fun i hi o ho ih=>by
    apply Qbr
    have hb:=VW a11[i]
    have h1:=Qu a11[i].1
    have h2:=Qu a11[i].2
    have ih1:=ih (o++Q2 a11[i]) (by rw[QRj];omega)
    have ej:o++Qd a11[i].1++Qd a11[i].2=o++Q2 a11[i]:=by simp[Q2]
    simp only[vc,ilt hi,Qo hi,Qj hi,inc hi (show a11.length<=maxLen by simp[maxLen];omega),QQ1,Zm,QQ0,QL (show(o.length+(Qd a11[i].1).length)*1<=140737488351232 by omega),QL (show((o++Qd a11[i].1).length+(Qd a11[i].2).length)*1<=140737488351232 by rw[QRj];omega),ej,ih1]
    rw[QRa hi,QY7,QRc])
  (fun o _=>by
    apply Qbr
    simp[vc])
  o (by omega)
 simpa using e
theorem QqF (a0 a1 a2 a3 a4:Int) (a5:List Int) (a6:Int) (a7 a8:List Int) (a9:List Qf) (a10 a11:List Qb) (h:smM a5 a7 a8 a9 a10 a11):xF w (a0,a1,a2,a3,a4,a5,a6,a7,a8,a9,a10,a11)=some (xY a0 a1 a2 a3 a4 a5 a6 a7 a8 a9 a10 a11):=by
 apply QkI
 simp only[Qcw,Qpm a0 a1 a2 a3 a4 a5 a6 a7 a8 a9 a10 a11 h,QQ0,xY]
 obtain⟨h5,h7,h8,h9,h10,h11⟩:=h
 cases hm:JU a0 a1 a2 a3 a4 a5 a6 a7 a8 a9 a10 a11
 ·simp
 obtain⟨m5,m7,m8,hs,m11⟩:=QhG a0 a1 a2 a3 a4 a5 a6 a7 a8 a9 a10 a11 hm
 have hl:=Qkv a0 a1 a2 a3 a4 a5 a6 a7 a8 a9 a10 a11 hm
 have hfl:=Vb Q2 10 a11 fun x _=>VW x
 have hbl:(Xt a0 a1 a2 a3 a4 a5 a6 a7 a8 a9 a10 a11).length<=3000050:=by simp only[Xt,QRj];omega
 have hbody:zS w (a0,a1,a2,a3,a4,a5,a6,a7,a8,a9,a10,a11)=some (Xt a0 a1 a2 a3 a4 a5 a6 a7 a8 a9 a10 a11):=by
  apply QlX
  have e0: [82,75]++[a0,a1,a2,a3,a4].flatMap Qd=[82,75]++(Qd a0++(Qd a1++(Qd a2++(Qd a3++Qd a4)))):=by simp
  have hn:=QqI a0 a1 a2 a3 a4 a5 a6 a7 a8 a9 a10 a11 [82,75] [a0,a1,a2,a3,a4] (by simp) (by simp)
  rw[e0]at hn
  have hh:=hl
  simp only[Yx,QRj]at hh
  have hend:((((((([82,75]++(Qd a0++(Qd a1++(Qd a2++(Qd a3++Qd a4))))++nums a5)++Qd a6)++nums a7)++nums a8)++Qd ((stB (a9,a10)).length:Nat))++stB (a9,a10))++Qd (a11.length:Nat))=Yx a0 a1 a2 a3 a4 a5 a6 a7 a8 a9 a10 a11:=by simp only[Yx,QRc]
  simp only[QeB,hn,QhB a5 (by omega),QhB a7 (by omega),QhB a8 (by omega),Zm,Qjw a9 a10 (J0 hs),QQ0]
  iterate 7 refine(QvX (QL (by simp only[QRj];omega))).trans ?_
  rw[hend,QpY a0 a1 a2 a3 a4 a5 a6 a7 a8 a9 a10 a11 (by omega) _ hl]
  rfl
 have hB:isB (Xt a0 a1 a2 a3 a4 a5 a6 a7 a8 a9 a10 a11):=QP (Qj6 a0 a1 a2 a3 a4 a5 a6 a7 a8 a9 a10 a11) (Qd9 _ Qh2 _)
 have hc:=Qpz (Xt a0 a1 a2 a3 a4 a5 a6 a7 a8 a9 a10 a11) (by simp only[maxLen];omega) hB
 simp only[QQ3,QQ2,hbody,QQ0,hc,QQ1]
 exact QvX (QL (by simp only[Y0,QY0,QY18];omega))
def za:Nat->Nat->Int->List Int->Option (Int×Nat)
 |0,_,_,_=>none
 |_+1,_,_,[]=>none
 |f+1,i,acc,c::l=>if 128<=c then za f (i+1) (acc+(c % 128)*128^i) l
  else if(0<i/\c=0)\/2147483647<acc+(c % 128)*128^i then none else some (acc+(c % 128)*128^i,i+1)
def Qr0 (k:Int):Option (Int×Nat)->Int×Int×Bool
 |none=>(0,0,false)
 |some r=>(r.1,k+(r.2:Nat),true)
def Xo (b:List Int) (k:Int):Int×Int×Bool:=if 0<=k/\k<(b.length:Int)then Qr0 k (za 5 0 0 (b.drop k.toNat))else(0,0,false)
def elN (z:(Int×Int×Bool)⊕Unit):Option (Int×Int×Bool):=Qp z (fun u=>some u) (fun _=>some (0,0,false))
theorem i5 {i:Nat}(h:i<5):i=0\/i=1\/i=2\/i=3\/i=4:=by omega
theorem Qg1 (c:Int) (h0:0<=c) (h1:c<256) (i:Nat) (hi:i<5):x6 .i64 (Int.tmod c 128) (7*(i:Int))=(c % 128)*128^i:=by
 have e:Int.tmod c 128=c % 128:=Int.tmod_eq_emod_of_nonneg h0
 rw[x6,e]
 rcases i5 hi with rfl|rfl|rfl|rfl|rfl
 ·rw[show(2:Int)^min (7*((0:Nat):Int)).toNat (IntKind.bits .i64)=1 from rfl];exact(w64 (by omega) (by omega)).trans (by omega)
 ·rw[show(2:Int)^min (7*((1:Nat):Int)).toNat (IntKind.bits .i64)=128 from rfl];exact(w64 (by omega) (by omega)).trans (by omega)
 ·rw[show(2:Int)^min (7*((2:Nat):Int)).toNat (IntKind.bits .i64)=16384 from rfl];exact(w64 (by omega) (by omega)).trans (by omega)
 ·rw[show(2:Int)^min (7*((3:Nat):Int)).toNat (IntKind.bits .i64)=2097152 from rfl];exact(w64 (by omega) (by omega)).trans (by omega)
 ·rw[show(2:Int)^min (7*((4:Nat):Int)).toNat (IntKind.bits .i64)=268435456 from rfl];exact(w64 (by omega) (by omega)).trans (by omega)
theorem QqE (i:Nat) (hi:i<5):(0:Int)<128^i/\(128:Int)^i<=268435456/\(128:Int)^(i+1)=128^i*128:=by
 refine⟨?_, ?_,Int.pow_succ 128 i⟩
 ·rcases i5 hi with rfl|rfl|rfl|rfl|rfl<;>decide
 ·rcases i5 hi with rfl|rfl|rfl|rfl|rfl<;>decide
theorem dmul {c p:Int}(h0:0<=c) (h1:c<256) (hp:0<p):0<=(c % 128)*p/\(c % 128)*p<=127*p:=by
 have h2:0<=c % 128:=by omega
 have h3:c % 128<=127:=by omega
 exact⟨Int.mul_nonneg h2 (by omega),Int.mul_le_mul_of_nonneg_right h3 (by omega)⟩
theorem QtF (x:Int) (h0:0<=x) (h1:x<9223372036854775808):(BitVec.ofInt 64 x).toNat=x.toNat:=by
 rw[BitVec.toNat_ofInt]
 omega
theorem or_eq (acc c:Int) (i:Nat) (hi:i<5) (h0:0<=acc) (h1:acc<128^i) (hc0:0<=c) (hc1:c<256):bits .or .i64 acc ((c % 128)*128^i)=acc+(c % 128)*128^i:=by
 have hp:=QqE i hi
 have hd:=dmul hc0 hc1 hp.1
 unfold bits
 simp only
 show wR (((BitVec.ofInt 64 acc|||BitVec.ofInt 64 ((c % 128)*128^i)).toNat:Nat):Int)=_
 rw[BitVec.toNat_or,QtF _ h0 (by omega),QtF _ hd.1 (by omega)]
 obtain⟨d,hdd⟩:∃d:Nat,c % 128=(d:Int):=⟨(c % 128).toNat,by omega⟩
 obtain⟨a,ha⟩:∃a:Nat,acc=(a:Int):=⟨acc.toNat,by omega⟩
 rw[hdd]at hd⊢
 rw[ha]at h1⊢
 have e128:((128:Int)^i)=(((2:Nat)^(7*i):Nat):Int):=by
  rw[Nat.pow_mul];simp
 rw[e128]at h1 hd⊢
 have h1':a<2^(7*i):=by exact_mod_cast h1
 have e3:((d:Int)*((2^(7*i):Nat):Int)).toNat=d<<<(7*i):=by
  rw[Nat.shiftLeft_eq,<-Int.natCast_mul,QRb]
 rw[e3,QRb,Nat.or_comm,<-Nat.shiftLeft_add_eq_or_of_lt h1' d,Nat.shiftLeft_eq]
 have e4:(((d*2^(7*i)+a:Nat)):Int)=(a:Int)+(d:Int)*((2^(7*i):Nat):Int):=by
  rw[Int.natCast_add,Int.natCast_mul];omega
 rw[e4]
 have hp':((2^(7*i):Nat):Int)<=268435456:=by rw[<-e128];exact hp.2.1
 have h1'':(a:Int)<((2^(7*i):Nat):Int):=by exact_mod_cast h1'
 exact w64 (by omega) (by omega)
theorem Qs8 (b:List Int) (hb:isB b) (hl:b.length<=4294967296) (k:Nat) (hkb:k<=b.length):(f i:Nat)->(acc:Int)->f+i=5->0<=acc->acc<128^i->(Xk wl (b,(k:Int),acc,(i:Int))).bind elN=some (Qr0 (k:Int) (za f i acc (b.drop (k+i)))):=by
 intro f
 induction f with
 |zero=>
  intro i acc hi h0 h1
  have:Xk wl (b,(k:Int),acc,(i:Int))=some (.inr ()):=by
   apply Yj
   simp only[Yw,df (show¬(i:Int)<5 by omega),QQ2]
  rw[this];rfl
 |succ f ih=>
  intro i acc hi h0 h1
  have hi5:i<5:=by omega
  have hp:=QqE i hi5
  by_cases hk:k+i<b.length
  ·have hc:=hb _ (QRf hk)
   have hd:=dmul hc.1 hc.2 hp.1
   rw[QRa hk]
   have hr:rd1 (0:Int) b ((k:Int)+(i:Int))=b[k+i]:=by rw[show(k:Int)+(i:Int)=((k+i:Nat):Int) by omega];exact Qj hk
   have hin:inb ((k:Int)+(i:Int)) b.length=true:=by rw[show(k:Int)+(i:Int)=((k+i:Nat):Int) by omega];exact Qo hk
   by_cases h128:128<=b[k+i]
   ·have ih2:=ih (i+1) (acc+(b[k+i] % 128)*128^i) (by omega) (by omega) (by rw[hp.2.2];omega)
    have:Xk wl (b,(k:Int),acc,(i:Int))=Xk wl (b,(k:Int),acc+(b[k+i] % 128)*128^i,((i+1:Nat):Int)):=by
     cases hv:Xk wl (b,(k:Int),acc+(b[k+i] % 128)*128^i,((i+1:Nat):Int))with
     |none=>rw[hv]at ih2;cases ih2
     |some v=>
      apply Yj
      simp only[Yw,dt (show(i:Int)<5 by omega),w64 (n:=(k:Int)+(i:Int)) (by omega) (by omega),dt (show(k:Int)+(i:Int)<(b.length:Int) by omega),hin,hr,w64 (n:=b[k+i]) (by omega) (by omega),w64 (n:=7*(i:Int)) (by omega) (by omega),dt (show(128:Int)≠0 by omega),dt (show(0:Int)<=7*(i:Int) by omega),dt h128,Qg1 _ hc.1 hc.2 i hi5,w64 (n:=acc+(b[k+i] % 128)*128^i) (by omega) (by omega),w64 (n:=(i:Int)+1) (by omega) (by omega),QQ1]
      exact hv
    rw[this,za,if_pos h128]
    exact ih2
   ·rw[za,if_neg h128]
    by_cases hz:(0<i/\b[k+i]=0)\/2147483647<acc+(b[k+i] % 128)*128^i
    ·rw[if_pos hz]
     have:Xk wl (b,(k:Int),acc,(i:Int))=some (.inl (0,0,false)):=by
      apply Yj
      simp only[Yw,dt (show(i:Int)<5 by omega),w64 (n:=(k:Int)+(i:Int)) (by omega) (by omega),dt (show(k:Int)+(i:Int)<(b.length:Int) by omega),hin,hr,w64 (n:=b[k+i]) (by omega) (by omega),w64 (n:=7*(i:Int)) (by omega) (by omega),dt (show(128:Int)≠0 by omega),dt (show(0:Int)<=7*(i:Int) by omega),df h128,Qg1 _ hc.1 hc.2 i hi5,w64 (n:=acc+(b[k+i] % 128)*128^i) (by omega) (by omega),QQ1,QQ2]
      by_cases hi0:0<i
      ·rw[dt (show(0:Int)<(i:Int) by omega)]
       by_cases hc0:b[k+i]=0
       ·rw[dt hc0];rfl
       ·rw[df hc0,dt (show 2147483647<acc+(b[k+i] % 128)*128^i by rcases hz with h|h;exact absurd h.2 hc0;exact h)];rfl
      ·rw[df (show¬(0:Int)<(i:Int) by omega),dt (show 2147483647<acc+(b[k+i] % 128)*128^i by rcases hz with h|h;exact absurd h.1 hi0;exact h)];rfl
     rw[this];rfl
    ·rw[if_neg hz]
     have hn:¬2147483647<acc+(b[k+i] % 128)*128^i:=fun h=>hz (.inr h)
     have:Xk wl (b,(k:Int),acc,(i:Int))=some (.inl (acc+(b[k+i] % 128)*128^i,(k:Int)+(i:Int)+1,true)):=by
      apply Yj
      simp only[Yw,dt (show(i:Int)<5 by omega),w64 (n:=(k:Int)+(i:Int)) (by omega) (by omega),dt (show(k:Int)+(i:Int)<(b.length:Int) by omega),hin,hr,w64 (n:=b[k+i]) (by omega) (by omega),w64 (n:=7*(i:Int)) (by omega) (by omega),dt (show(128:Int)≠0 by omega),dt (show(0:Int)<=7*(i:Int) by omega),df h128,Qg1 _ hc.1 hc.2 i hi5,w64 (n:=acc+(b[k+i] % 128)*128^i) (by omega) (by omega),w64 (n:=(k:Int)+(i:Int)+1) (by omega) (by omega),df hn,QQ1,QQ2]
      by_cases hi0:0<i
      ·rw[dt (show(0:Int)<(i:Int) by omega),df (show¬b[k+i]=0 from fun h=>hz (.inl ⟨hi0,h⟩))];rfl
      ·rw[df (show¬(0:Int)<(i:Int) by omega)];rfl
     rw[this]
     show some (acc+(b[k+i] % 128)*128^i,(k:Int)+(i:Int)+1,true)=some (acc+(b[k+i] % 128)*128^i,(k:Int)+((i+1:Nat):Int),true)
     rw[show(k:Int)+(i:Int)+1=(k:Int)+((i+1:Nat):Int) by omega]
  ·have:Xk wl (b,(k:Int),acc,(i:Int))=some (.inr ()):=by
    apply Yj
    simp only[Yw,dt (show(i:Int)<5 by omega),w64 (n:=(k:Int)+(i:Int)) (by omega) (by omega),df (show¬(k:Int)+(i:Int)<(b.length:Int) by omega),QQ1,QQ2]
   rw[this,List.drop_of_length_le (by omega)];rfl
theorem Qre (b:List Int) (hb:isB b) (hl:b.length<=4294967296) (k:Nat) (hkb:k<=b.length):(f i:Nat)->(acc:Int)->f+i=5->0<=acc->acc<128^i->(Xn wl (b,(k:Int),acc,(i:Int))).bind elN=some (Qr0 (k:Int) (za f i acc (b.drop (k+i)))):=by
 intro f
 induction f with
 |zero=>
  intro i acc hi h0 h1
  have:Xn wl (b,(k:Int),acc,(i:Int))=some (.inr ()):=by
   apply Yk
   simp only[Yu,df (show¬(i:Int)<5 by omega),QQ2]
  rw[this];rfl
 |succ f ih=>
  intro i acc hi h0 h1
  have hi5:i<5:=by omega
  have hp:=QqE i hi5
  by_cases hk:k+i<b.length
  ·have hc:=hb _ (QRf hk)
   have hd:=dmul hc.1 hc.2 hp.1
   rw[QRa hk]
   have hr:rd1 (0:Int) b ((k:Int)+(i:Int))=b[k+i]:=by rw[show(k:Int)+(i:Int)=((k+i:Nat):Int) by omega];exact Qj hk
   have hin:inb ((k:Int)+(i:Int)) b.length=true:=by rw[show(k:Int)+(i:Int)=((k+i:Nat):Int) by omega];exact Qo hk
   by_cases h128:128<=b[k+i]
   ·have ih2:=ih (i+1) (acc+(b[k+i] % 128)*128^i) (by omega) (by omega) (by rw[hp.2.2];omega)
    have:Xn wl (b,(k:Int),acc,(i:Int))=Xn wl (b,(k:Int),acc+(b[k+i] % 128)*128^i,((i+1:Nat):Int)):=by
     cases hv:Xn wl (b,(k:Int),acc+(b[k+i] % 128)*128^i,((i+1:Nat):Int))with
     |none=>rw[hv]at ih2;cases ih2
     |some v=>
      apply Yk
      simp only[Yu,dt (show(i:Int)<5 by omega),df (show¬(k:Int)<0 by omega),w64 (n:=(b.length:Int) - (i:Int)) (by omega) (by omega),df (show¬(b.length:Int) - (i:Int)<=(k:Int) by omega),w64 (n:=(k:Int)+(i:Int)) (by omega) (by omega),hin,hr,w64 (n:=b[k+i]) (by omega) (by omega),w64 (n:=7*(i:Int)) (by omega) (by omega),dt (show(128:Int)≠0 by omega),dt (show(0:Int)<=7*(i:Int) by omega),df (show¬b[k+i]<128 by omega),Qg1 _ hc.1 hc.2 i hi5,or_eq acc _ i hi5 h0 h1 hc.1 hc.2,w64 (n:=(i:Int)+1) (by omega) (by omega),QQ1,QQ2]
      exact hv
    rw[this,za,if_pos h128]
    exact ih2
   ·rw[za,if_neg h128]
    by_cases hz:(0<i/\b[k+i]=0)\/2147483647<acc+(b[k+i] % 128)*128^i
    ·rw[if_pos hz]
     have:Xn wl (b,(k:Int),acc,(i:Int))=some (.inl (0,0,false)):=by
      apply Yk
      simp only[Yu,dt (show(i:Int)<5 by omega),df (show¬(k:Int)<0 by omega),w64 (n:=(b.length:Int) - (i:Int)) (by omega) (by omega),df (show¬(b.length:Int) - (i:Int)<=(k:Int) by omega),w64 (n:=(k:Int)+(i:Int)) (by omega) (by omega),hin,hr,w64 (n:=b[k+i]) (by omega) (by omega),w64 (n:=7*(i:Int)) (by omega) (by omega),dt (show(128:Int)≠0 by omega),dt (show(0:Int)<=7*(i:Int) by omega),dt (show b[k+i]<128 by omega),Qg1 _ hc.1 hc.2 i hi5,or_eq acc _ i hi5 h0 h1 hc.1 hc.2,QQ1,QQ2]
      by_cases hi0:0<i
      ·rw[dt (show(0:Int)<(i:Int) by omega)]
       by_cases hc0:b[k+i]=0
       ·rw[dt hc0];rfl
       ·rw[df hc0,dt (show 2147483647<acc+(b[k+i] % 128)*128^i by rcases hz with h|h;exact absurd h.2 hc0;exact h)];rfl
      ·rw[df (show¬(0:Int)<(i:Int) by omega),dt (show 2147483647<acc+(b[k+i] % 128)*128^i by rcases hz with h|h;exact absurd h.1 hi0;exact h)];rfl
     rw[this];rfl
    ·rw[if_neg hz]
     have hn:¬2147483647<acc+(b[k+i] % 128)*128^i:=fun h=>hz (.inr h)
     have:Xn wl (b,(k:Int),acc,(i:Int))=some (.inl (acc+(b[k+i] % 128)*128^i,(k:Int)+(i:Int)+1,true)):=by
      apply Yk
      simp only[Yu,dt (show(i:Int)<5 by omega),df (show¬(k:Int)<0 by omega),w64 (n:=(b.length:Int) - (i:Int)) (by omega) (by omega),df (show¬(b.length:Int) - (i:Int)<=(k:Int) by omega),w64 (n:=(k:Int)+(i:Int)) (by omega) (by omega),hin,hr,w64 (n:=b[k+i]) (by omega) (by omega),w64 (n:=7*(i:Int)) (by omega) (by omega),dt (show(128:Int)≠0 by omega),dt (show(0:Int)<=7*(i:Int) by omega),dt (show b[k+i]<128 by omega),Qg1 _ hc.1 hc.2 i hi5,or_eq acc _ i hi5 h0 h1 hc.1 hc.2,w64 (n:=(k:Int)+(i:Int)+1) (by omega) (by omega),df hn,QQ1,QQ2]
      by_cases hi0:0<i
      ·rw[dt (show(0:Int)<(i:Int) by omega),df (show¬b[k+i]=0 from fun h=>hz (.inl ⟨hi0,h⟩))];rfl
      ·rw[df (show¬(0:Int)<(i:Int) by omega)];rfl
     rw[this]
     show some (acc+(b[k+i] % 128)*128^i,(k:Int)+(i:Int)+1,true)=some (acc+(b[k+i] % 128)*128^i,(k:Int)+((i+1:Nat):Int),true)
     rw[show(k:Int)+(i:Int)+1=(k:Int)+((i+1:Nat):Int) by omega]
  ·have:Xn wl (b,(k:Int),acc,(i:Int))=some (.inl (0,0,false)):=by
    apply Yk
    simp only[Yu,dt (show(i:Int)<5 by omega),df (show¬(k:Int)<0 by omega),w64 (n:=(b.length:Int) - (i:Int)) (by omega) (by omega),dt (show(b.length:Int) - (i:Int)<=(k:Int) by omega),QQ1,QQ2]
   rw[this,List.drop_of_length_le (by omega)];rfl
theorem QoW (b:List Int) (hb:isB b) (hl:b.length<=4294967296) (k:Nat) (hk:k<=b.length):xe w (b,(k:Int))=some (Xo b (k:Int)):=by
 apply Qod
 simp only[Qft,Xo,df (show¬(k:Int)<0 by omega),QQ2]
 by_cases h:k<b.length
 ·have e:=Qs8 b hb hl k hk 5 0 0 rfl (by omega) (by decide)
  rw[df (show¬(b.length:Int)<=(k:Int) by omega),if_pos (by omega)]
  exact e
 ·rw[dt (show(b.length:Int)<=(k:Int) by omega),if_neg (by omega)];rfl
theorem Qm3 (b:List Int) (hb:isB b) (hl:b.length<=4294967296) (k:Nat) (hk:k<=b.length):xi w (b,(k:Int))=some (Xo b (k:Int)):=by
 apply QoT
 have e:=Qre b hb hl k hk 5 0 0 rfl (by omega) (by decide)
 simp only[QfR,Xo]
 by_cases h:k<b.length
 ·rw[if_pos (by omega)];exact e
 ·rw[if_neg (by omega)]
  rw[List.drop_of_length_le (by omega)]at e
  exact e
theorem QrT:(f i:Nat)->(acc:Int)->(l:List Int)->0<=acc->isB l->i+f<=5->∀r,za f i acc l=some r->0<=r.1/\r.1<=2147483647/\r.2<=i+l.length
 |0,_,_,_,_,_,_,r,h=>by cases h
 |f+1,i,acc,[],_,_,_,r,h=>by cases h
 |f+1,i,acc,c::l,h0,hb,hi,r,h=>by
  have hc:=hb c (by simp)
  have hp:=QqE i (by omega)
  have hd:=dmul hc.1 hc.2 hp.1
  rw[za]at h
  split at h
  ·have:=QrT f (i+1) _ l (by omega) (fun x hx=>hb x (by simp[hx])) (by omega) r h
   simp only[QY0];omega
  ·split at h
   ·cases h
   ·rename_i hz
    obtain rfl:=QY9 h
    simp only[QY0]
    refine⟨by omega, ?_,by omega⟩
    have:¬2147483647<acc+(c % 128)*128^i:=fun h=>hz (.inr h)
    omega
end Go.Proofs.YtiejfnbmficbmaaGreat.M
