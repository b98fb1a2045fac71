/- What the plain forms that FnExactPushAll reaches come to: PRecv. No conditions but those that each theorem states. -/
import Derived.Test.YtiejfnbmficbmaaGreatFnExactPushAllPJoin
set_option linter.all false
namespace Go.Proofs.YtiejfnbmficbmaaGreat.M
open Go Go.Eng Go.Proofs
set_option linter.unusedVariables false
def qO (x:Qd) (m:Q9) (b:Bool):Int:=VX (YC m.2.1 b 0 x.2.2.2.2.2.2.2.2.2.2.2.2.2.2.1)
def find (x:Qd) (m:Q9) (b:Bool):Int:=bif decide (qO x m b<0)then -1 else(bif decide ((rd1 Kr x.2.2.2.2.2.2.2.2.2.2.2.2.2.2.1 (qO x m b)).2.1=m.2.2.2.1)then qO x m b else -1)
def Qig (x:Qd) (l:List QB):Qd:=(x.1,x.2.1,x.2.2.1,x.2.2.2.1,x.2.2.2.2.1,x.2.2.2.2.2.1,x.2.2.2.2.2.2.1,x.2.2.2.2.2.2.2.1,x.2.2.2.2.2.2.2.2.1,x.2.2.2.2.2.2.2.2.2.1,x.2.2.2.2.2.2.2.2.2.2.1,x.2.2.2.2.2.2.2.2.2.2.2.1,x.2.2.2.2.2.2.2.2.2.2.2.2.1,x.2.2.2.2.2.2.2.2.2.2.2.2.2.1,l,x.2.2.2.2.2.2.2.2.2.2.2.2.2.2.2.1,x.2.2.2.2.2.2.2.2.2.2.2.2.2.2.2.2.1,x.2.2.2.2.2.2.2.2.2.2.2.2.2.2.2.2.2.1,x.2.2.2.2.2.2.2.2.2.2.2.2.2.2.2.2.2.2)
def QAk (l:List QB) (k:Int):List QB:=l.take k.toNat++l.drop (k.toNat+1)
def gone (x:Qd) (k:Int):Qd:=Qig x (QAk x.2.2.2.2.2.2.2.2.2.2.2.2.2.2.1 k)
theorem Qii {x:Qd}(h:NOk x) {l:List QB}(h1:((l.length:Nat):Int)<=x.2.2.2.2.2.2.2.2.2.2.2.2.2.1) (h2:XO x.1 x.2.1 x.2.2.2.2.2.2.2.2.2.2.2.2.2.2.2.1 [] l=true):NOk (Qig x l) where
 n:=h.n
 id:=h.id
 st:=h.st
 tree:=h.tree
 log:=h.log
 got:=h.got
 ack:=h.ack
 own:=h.own
 heard:=h.heard
 seen:=h.seen
 num:=h.num
 clock:=h.clock
 wait:=h.wait
 limit:=h.limit
 slots:=h.slots
 rlen:=h.rlen
 rises:=h.rises
 room:=h1
 sess:=h2
theorem QAQ (l:List QB) (k:Int):(QAk l k).length<=l.length:=by
 simp only[QAk,QRj,List.length_take,List.length_drop];omega
theorem Qpn {x:Qd}(h:NOk x) (k:Int):NOk (gone x k):=Qii h (by have:=QAQ x.2.2.2.2.2.2.2.2.2.2.2.2.2.2.1 k;have:=h.room;omega) (QyD h.sess _)
def Qus (y:Qd) (lv:List Int) (seq:Int):Qk:=join (ZZ (y.2.2.1,y.2.2.2.1) lv) ((ship y seq).1,(ship y seq).2.1)
def QCM (y:Qd) (m:Q9):Q9:=(3,y.1,m.2.1,m.2.2.2.1,Xs (y.2.2.2.2.2.2.1,y.2.2.2.2.2.2.2.1,y.2.2.2.2.2.2.2.2.1),y.2.2.2.2.1,y.2.2.2.2.2.1,y.2.2.2.2.2.2.2.2.2.1,differ y.2.2.2.2.1 y.2.2.2.2.2.1 m.2.2.2.2.2.1 m.2.2.2.2.2.2.1,(Qus y (differ y.2.2.2.2.1 y.2.2.2.2.2.1 m.2.2.2.2.2.1 m.2.2.2.2.2.2.1) (rd1 0 m.2.2.2.2.2.2.2.1 y.1)).1,(Qus y (differ y.2.2.2.2.1 y.2.2.2.2.2.1 m.2.2.2.2.2.1 m.2.2.2.2.2.2.1) (rd1 0 m.2.2.2.2.2.2.2.1 y.1)).2,marksOf (y.2.2.1,y.2.2.2.1))
def QE1 (y:Qd) (m:Q9):Q9:=(4,y.1,m.2.1,m.2.2.2.1,Xs (y.2.2.2.2.2.2.1,y.2.2.2.2.2.2.2.1,y.2.2.2.2.2.2.2.2.1),[],0,y.2.2.2.2.2.2.2.2.2.1,m.2.2.2.2.2.2.2.2.1,(Qus y m.2.2.2.2.2.2.2.2.1 (rd1 0 m.2.2.2.2.2.2.2.1 y.1)).1,(Qus y m.2.2.2.2.2.2.2.2.1 (rd1 0 m.2.2.2.2.2.2.2.1 y.1)).2,marksOf (y.2.2.1,y.2.2.2.1))
theorem QG7 {a b c d e f:Nat}(h:a<=5/\b<=5/\c<=5/\d<=5/\e<=5/\f<=5):a<=maxLen/\b<=maxLen/\c<=maxLen/\d<=maxLen/\e<=maxLen/\f<=maxLen:=by
 simp only[maxLen];omega
theorem QFw {y:Qd}(h:NOk y) (k to num:Int):Qva (msg y k to num):=by
 have h1:=QmS h
 have h2:=Qts (QyL (y.2.2.1,y.2.2.2.1))
 exact QG7 ⟨by simp[msg],by simp only[msg];omega,by simp[msg],by simp[msg],by simp[msg],by simp only[msg];omega⟩
def QrV (x:Qd) (m:Q9):List QB:=bif decide (0<=qO x m true)then x.2.2.2.2.2.2.2.2.2.2.2.2.2.2.1.set (qO x m true).toNat ((rd1 Kr x.2.2.2.2.2.2.2.2.2.2.2.2.2.2.1 (qO x m true)).1,m.2.2.2.1,(rd1 Kr x.2.2.2.2.2.2.2.2.2.2.2.2.2.2.1 (qO x m true)).2.2.1,0)else x.2.2.2.2.2.2.2.2.2.2.2.2.2.2.1++[(m.2.1,m.2.2.2.1,true,0)]
def QkL (x:Qd) (m:Q9):Bool:= !decide (0<=qO x m true)&&decide (x.2.2.2.2.2.2.2.2.2.2.2.2.2.1<=((x.2.2.2.2.2.2.2.2.2.2.2.2.2.2.1.length:Nat):Int))
def QDl (x:Qd) (m:Q9):Qd:=heard (Qig x (QrV x m)) m
theorem Qxc {x:Qd}(h:NOk x) {m:Q9}(hf:Fit x m) (hc:QkL x m=false):NOk (Qig x (QrV x m)):=by
 have hw:=Xw.1 h.wait
 have hr:=h.room
 unfold QkL at hc
 unfold QrV
 by_cases hs:0<=qO x m true
 ·rw[dt hs]
  obtain⟨i,e,hi,hki⟩:=Qs5 _ _ _ _ (show¬VX (YC m.2.1 true 0 x.2.2.2.2.2.2.2.2.2.2.2.2.2.2.1)<0 by unfold qO at hs;omega)
  rw[QRo]at e
  have e':qO x m true=(i:Int):=e
  rw[e',Qi hi,QRb]
  refine Qii h (by simp only[QQ1,List.length_set];exact hr) (QDC h.sess hi ?_ rfl rfl)
  have ho:=((Qdr _ _ _ _).1 h.sess).1 _ (QRf hi)
  simp only[Vp,QQ5]at ho⊢
  exact⟨⟨ho.1.1,hf.ok.num⟩,by rw[Xw];omega⟩
 ·rw[df hs]at hc⊢
  simp only[QQ4,QRd,decide_eq_false_iff_not]at hc
  refine Qii h (by simp only[QQ2,QRj,List.length_cons,List.length_nil];omega) (Qu5 h.sess ?_ (by unfold qO at hs;simp only;omega))
  have h1:=Xw.1 hf.ok.src
  have h2:=hf.src
  have h3:=hf.ok.two
  have h4:=hf.to
  simp only[Vp,Zw,QQ5,Xw,Bool.not_eq_true',decide_eq_false_iff_not]
  have h5:=Xw.1 hf.ok.num
  refine⟨⟨⟨⟨h1.1,by omega⟩, ?_⟩,h5⟩,by omega⟩
  omega
theorem QFJ {x:Qd}{m:Q9}(hf:Fit x m) (l:List QB):Fit (Qig x l) m:=⟨hf.ok,hf.to,hf.src,hf.len⟩
theorem QC1 {x:Qd}(h:NOk x) {m:Q9}(hf:Fit x m) (hc:QkL x m=false):NOk (QDl x m):=Qm0 (Qxc h hf hc) (QFJ hf _)
end Go.Proofs.YtiejfnbmficbmaaGreat.M
namespace Go.Proofs.YtiejfnbmficbmaaGreat.M
open Go Go.Eng Go.Proofs
set_option linter.unusedVariables false
def QyN (x:Qd) (m:Q9):Bool:=Qk3 m&&(decide (m.2.2.1=x.1)&&(!decide (x.2.1<=m.2.1)&&decide (((m.2.2.2.2.2.2.2.1.length:Nat):Int)=x.2.1)))
theorem QFx {x:Qd}{m:Q9}(h:QyN x m=true):Fit x m:=by
 simp only[QyN,QQ5,Bool.not_eq_true',QRu,decide_eq_false_iff_not]at h
 exact⟨mok h.1,h.2.1,by omega,h.2.2.2⟩
def rcv (x:Qd) (m:Q9):Qd×List Q9×Int:=bif QyN x m then
 (bif decide (m.1=0)then(brought x m,[msg (brought x m) 1 m.2.1 m.2.2.2.1],0)
 else bif decide (m.1=1)then(heard x m,[],0)
 else bif decide (m.1=2)then(bif QkL x m then(x,[msg x 5 m.2.1 m.2.2.2.1],3)else(QDl x m,[QCM (QDl x m) m],0))
 else bif decide (m.1=3)then(bif decide (find x m false<0)then(x,[],2)else(brought (gone x (find x m false)) m,[QE1 (brought (gone x (find x m false)) m) m],0))
 else bif decide (m.1=4)then(bif decide (find x m true<0)then(x,[],2)else(brought (gone x (find x m true)) m,[],0))
 else(bif decide (find x m false<0)then(x,[],2)else(gone x (find x m false),[],0)))
 else(x,[],1)
def flat (r:Qd×List Q9×Int):Int×Int×(List Qg)×(List Qb)×(List Int)×Int×Int×Int×(List Qk)×(List Int)×(List Int)×(List (List Int))×Int×Int×(List QB)×Int×Int×Int×(List QM)×(List Q9)×Int:=(r.1.1,r.1.2.1,r.1.2.2.1,r.1.2.2.2.1,r.1.2.2.2.2.1,r.1.2.2.2.2.2.1,r.1.2.2.2.2.2.2.1,r.1.2.2.2.2.2.2.2.1,r.1.2.2.2.2.2.2.2.2.1,r.1.2.2.2.2.2.2.2.2.2.1,r.1.2.2.2.2.2.2.2.2.2.2.1,r.1.2.2.2.2.2.2.2.2.2.2.2.1,r.1.2.2.2.2.2.2.2.2.2.2.2.2.1,r.1.2.2.2.2.2.2.2.2.2.2.2.2.2.1,r.1.2.2.2.2.2.2.2.2.2.2.2.2.2.2.1,r.1.2.2.2.2.2.2.2.2.2.2.2.2.2.2.2.1,r.1.2.2.2.2.2.2.2.2.2.2.2.2.2.2.2.2.1,r.1.2.2.2.2.2.2.2.2.2.2.2.2.2.2.2.2.2.1,r.1.2.2.2.2.2.2.2.2.2.2.2.2.2.2.2.2.2.2,r.2.1,r.2.2)
theorem Qyb {x:Qd}{m:Q9}(hf:Fit x m) (k:Int):Fit (gone x k) m:=⟨hf.ok,hf.to,hf.src,hf.len⟩
theorem QrI {x:Qd}(h:NOk x) (m:Q9):NOk (rcv x m).1:=by
 unfold rcv
 cases hb:QyN x m
 ·exact h
 ·have hf:=QFx hb
  simp only[QQ1]
  cases decide (m.1=0)<;>simp only[QQ1,QQ2]
  ·cases decide (m.1=1)<;>simp only[QQ1,QQ2]
   ·cases decide (m.1=2)<;>simp only[QQ1,QQ2]
    ·cases decide (m.1=3)<;>simp only[QQ1,QQ2]
     ·cases decide (m.1=4)<;>simp only[QQ1,QQ2]
      ·cases decide (find x m false<0)
       ·exact Qpn h _
       ·exact h
      ·cases decide (find x m true<0)
       ·exact QjQ (Qpn h _) (Qyb hf _)
       ·exact h
     ·cases decide (find x m false<0)
      ·exact QjQ (Qpn h _) (Qyb hf _)
      ·exact h
    ·cases hc:QkL x m
     ·exact QC1 h hf hc
     ·exact h
   ·exact Qm0 h hf
  ·exact QjQ h hf
end Go.Proofs.YtiejfnbmficbmaaGreat.M
namespace Go.Proofs.YtiejfnbmficbmaaGreat.M
open Go Go.Eng Go.Proofs
set_option linter.unusedVariables false
def QAg (wt:Int):List QB->List QB
 | []=>[]
 |x::l=>bif decide (x.2.2.2+1<=wt)then(x.1,x.2.1,x.2.2.1,x.2.2.2+1)::QAg wt l else QAg wt l
def QGx (x:Qd):Qd:=(x.1,x.2.1,x.2.2.1,x.2.2.2.1,x.2.2.2.2.1,x.2.2.2.2.2.1,x.2.2.2.2.2.2.1,x.2.2.2.2.2.2.2.1,x.2.2.2.2.2.2.2.2.1,x.2.2.2.2.2.2.2.2.2.1,x.2.2.2.2.2.2.2.2.2.2.1,x.2.2.2.2.2.2.2.2.2.2.2.1,x.2.2.2.2.2.2.2.2.2.2.2.2.1,x.2.2.2.2.2.2.2.2.2.2.2.2.2.1,QAg x.2.2.2.2.2.2.2.2.2.2.2.2.2.2.2.1 x.2.2.2.2.2.2.2.2.2.2.2.2.2.2.1,x.2.2.2.2.2.2.2.2.2.2.2.2.2.2.2.1,x.2.2.2.2.2.2.2.2.2.2.2.2.2.2.2.2.1,x.2.2.2.2.2.2.2.2.2.2.2.2.2.2.2.2.2.1+1,x.2.2.2.2.2.2.2.2.2.2.2.2.2.2.2.2.2.2)
def tick (x:Qd):Qd:=bif decide (x.2.2.2.2.2.2.2.2.2.2.2.2.2.2.2.2.2.1=100000)then x else QGx x
def QJI (x:Qd) (s:Qk):Qd:=(x.1,x.2.1,x.2.2.1,x.2.2.2.1,x.2.2.2.2.1,x.2.2.2.2.2.1,(Qww (x.2.2.2.2.2.2.1,x.2.2.2.2.2.2.2.1,x.2.2.2.2.2.2.2.2.1) s).1,(Qww (x.2.2.2.2.2.2.1,x.2.2.2.2.2.2.2.1,x.2.2.2.2.2.2.2.2.1) s).2.1,(Qww (x.2.2.2.2.2.2.1,x.2.2.2.2.2.2.2.1,x.2.2.2.2.2.2.2.2.1) s).2.2,x.2.2.2.2.2.2.2.2.2.1.set (x.1).toNat (rd1 0 x.2.2.2.2.2.2.2.2.2.1 x.1+1),x.2.2.2.2.2.2.2.2.2.2.1,x.2.2.2.2.2.2.2.2.2.2.2.1,x.2.2.2.2.2.2.2.2.2.2.2.2.1,x.2.2.2.2.2.2.2.2.2.2.2.2.2.1,x.2.2.2.2.2.2.2.2.2.2.2.2.2.2.1,x.2.2.2.2.2.2.2.2.2.2.2.2.2.2.2.1,x.2.2.2.2.2.2.2.2.2.2.2.2.2.2.2.2.1,x.2.2.2.2.2.2.2.2.2.2.2.2.2.2.2.2.2.1,x.2.2.2.2.2.2.2.2.2.2.2.2.2.2.2.2.2.2)
def QrM (x:Qd) (id:Int):Int:=bif inR id 0 (x.2.1 - 1)&&decide (id=x.1)then(bif decide ((jH (x.2.2.1,x.2.2.2.1) id).2.2=0)then(bif decide (x.2.2.2.2.2.2.2.1+((x.2.2.2.2.2.2.2.2.1.length:Nat):Int)=100000)then 4 else 0)else(jH (x.2.2.1,x.2.2.2.1) id).2.2)else 1
def QEC (x:Qd) (id:Int):Qd:=bif decide (QrM x id=0)then(take (QJI x ((jH (x.2.2.1,x.2.2.2.1) id).1,(jH (x.2.2.1,x.2.2.2.1) id).2.1)) ((jH (x.2.2.1,x.2.2.2.1) id).1,(jH (x.2.2.1,x.2.2.2.1) id).2.1))else x
def QFb (x:Qd) (id:Int):Qk:=bif decide (QrM x id=0)then((jH (x.2.2.1,x.2.2.2.1) id).1,(jH (x.2.2.1,x.2.2.2.1) id).2.1)else([],[])
end Go.Proofs.YtiejfnbmficbmaaGreat.M
namespace Go.Proofs.YtiejfnbmficbmaaGreat.M
open Go Go.Eng Go.Proofs
set_option linter.unusedVariables false
def QB2 (x:Qd) (to:Int):Q9:=((msg x 2 to (x.2.2.2.2.2.2.2.2.2.2.2.2.1+1)).1,(msg x 2 to (x.2.2.2.2.2.2.2.2.2.2.2.2.1+1)).2.1,(msg x 2 to (x.2.2.2.2.2.2.2.2.2.2.2.2.1+1)).2.2.1,(msg x 2 to (x.2.2.2.2.2.2.2.2.2.2.2.2.1+1)).2.2.2.1,(msg x 2 to (x.2.2.2.2.2.2.2.2.2.2.2.2.1+1)).2.2.2.2.1,x.2.2.2.2.1,x.2.2.2.2.2.1,(msg x 2 to (x.2.2.2.2.2.2.2.2.2.2.2.2.1+1)).2.2.2.2.2.2.2.1,(msg x 2 to (x.2.2.2.2.2.2.2.2.2.2.2.2.1+1)).2.2.2.2.2.2.2.2.1,(msg x 2 to (x.2.2.2.2.2.2.2.2.2.2.2.2.1+1)).2.2.2.2.2.2.2.2.2.1,(msg x 2 to (x.2.2.2.2.2.2.2.2.2.2.2.2.1+1)).2.2.2.2.2.2.2.2.2.2.1,(msg x 2 to (x.2.2.2.2.2.2.2.2.2.2.2.2.1+1)).2.2.2.2.2.2.2.2.2.2.2)
def QD8 (n:Qd) (r1:Qd×List Q9×Int) (r2:Qd×List Q9×Int):Option (Qd×Qd):=bif decide (r2.2.2=0)then(bif r2.2.1.isEmpty then none else(bif decide ((rcv r1.1 (r2.2.1.headD Qo3)).2.2=0)then some (r2.1,(rcv r1.1 (r2.2.1.headD Qo3)).1)else none))else none
def QEn (n:Qd) (r1:Qd×List Q9×Int):Option (Qd×Qd):=bif decide (r1.2.2=0)then(bif r1.2.1.isEmpty then none else QD8 n r1 (rcv n (r1.2.1.headD Qo3)))else none
def talk (x y:Qd) (q:Int):Option (Qd×Qd):=bif Qkl x q then QEn (Qvd x q) (rcv y (QB2 x q))else none
def QEb (ns:List Qd) (p q:Nat):Option (Qd×Qd)->List Qd×Bool
 |none=>(ns,false)
 |some r=>((ns.set p r.1).set q r.2,true)
def exch (ns:List Qd) (net:List Qo) (sd:List Qt) (p q:Int):List Qd×Bool:=bif two ns net sd p q then QEb ns p.toNat q.toNat (talk (nodeAt ns p) (nodeAt ns q) q)else(ns,false)
theorem QDb {x y:Qd}(hx:NOk x) (hy:NOk y) {q:Int}{r:Qd×Qd}(h:talk x y q=some r):NOk r.1/\NOk r.2:=by
 unfold talk QEn QD8 at h
 cases hc:Qkl x q
 ·rw[hc]at h;cases h
 ·rw[hc]at h
  have k1:=QrI hy (QB2 x q)
  generalize rcv y (QB2 x q)=r1 at h k1
  have k2:=QrI (QDD hx hc) (r1.2.1.headD Qo3)
  generalize rcv (Qvd x q) (r1.2.1.headD Qo3)=r2 at h k2
  have k3:=QrI k1 (r2.2.1.headD Qo3)
  generalize rcv r1.1 (r2.2.1.headD Qo3)=r3 at h k3
  simp only[QQ1]at h
  cases h1:decide (r1.2.2=0)<;>rw[h1]at h<;>simp only[QQ1,QQ2]at h
  ·cases h
  ·cases h2:r1.2.1.isEmpty<;>rw[h2]at h<;>simp only[QQ1,QQ2]at h
   ·cases h3:decide (r2.2.2=0)<;>rw[h3]at h<;>simp only[QQ1,QQ2]at h
    ·cases h
    ·cases h4:r2.2.1.isEmpty<;>rw[h4]at h<;>simp only[QQ1,QQ2]at h
     ·cases h5:decide (r3.2.2=0)<;>rw[h5]at h<;>simp only[QQ1,QQ2]at h
      ·cases h
      ·obtain rfl:=Option.some.inj h
       exact⟨k2,k3⟩
     ·cases h
   ·cases h
theorem QEW {ns:List Qd}{net:List Qo}{sd:List Qt}(h:WOk ns net sd) {i:Nat}(hi:i<ns.length):NOk ns[i]:=nok (h.node hi).1
theorem QEI {ns:List Qd}{net:List Qo}{sd:List Qt}{p q:Int}(h:two ns net sd p q=true):YP ns net sd=true/\inR p 0 ((ns.length:Nat) - 1)=true/\inR q 0 ((ns.length:Nat) - 1)=true/\p≠q:=by
 simp only[two,QQ5,Bool.not_eq_true',decide_eq_false_iff_not]at h
 exact⟨h.1,h.2.1,h.2.2.1,h.2.2.2⟩
end Go.Proofs.YtiejfnbmficbmaaGreat.M
namespace Go.Proofs.YtiejfnbmficbmaaGreat.M
open Go Go.Eng Go.Proofs
set_option linter.unusedVariables false
theorem Qzb {sd:List Qt}(h:∀x∈sd,QL x.2=true):XK sd<=61*sd.length:=by
 have:Qe Xc sd<=60*sd.length:=Qco _ _ _ fun x hx=>QlM (h x hx)
 simp only[XK];omega
theorem QxU {ns:List Qd}(h:∀x∈ns,NOk x):XJ ns<=2001*ns.length:=by
 have:Qe Q2 ns<=2000*ns.length:=Qco _ _ _ fun x hx=>(zu (h x hx)).1
 simp only[XJ];omega
theorem QxF {ns:List Qd}{net:List Qo}{sd:List Qt}(h:∀x∈ns,NOk x) (hl:ns.length<=5) (hn:Xk net<=1048576) (hd:∀x∈sd,QL x.2=true) (hdl:sd.length<=41):Xa (ns,net,sd)<=1100000/\smW ns net sd:=by
 have h1:=QxU h
 have h2:=Qzb hd
 refine⟨by simp only[Xa];omega,by simp only[maxLen];omega,fun x hx=>(zu (h x hx)).2, ?_, ?_,by simp only[maxLen];omega,fun x hx=>Qat (hd x hx)⟩
 ·simp only[Xk]at hn;simp only[maxLen];omega
 ·intro p hp
  have:=Yt Q6 hp
  simp only[Xk]at hn
  simp only[Q6,X2]at this
  simp only[maxLen];omega
theorem Qx3 {ns:List Qd}(h:∀x∈ns,NOk x) {i:Nat}{n:Qd}(hn:NOk n):∀x∈ns.set i n,NOk x:=fun x hx=>by
 rcases List.mem_or_eq_of_mem_set hx with hx|rfl
 ·exact h x hx
 ·exact hn
theorem Qyu {ns:List Qd}{net:List Qo}{sd:List Qt}(h:WOk ns net sd):∀x∈ns,NOk x:=fun x hx=>by
 obtain⟨i,hi,rfl⟩:=List.mem_iff_getElem.1 hx
 exact QEW h hi
theorem QDw {ns:List Qd}{net:List Qo}{sd:List Qt}(h:∀x∈ns,NOk x) (p q:Int):(∀x∈(exch ns net sd p q).1,NOk x)/\(exch ns net sd p q).1.length=ns.length:=by
 unfold exch
 cases h2:two ns net sd p q
 ·exact⟨h,rfl⟩
 ·obtain⟨_,hp,hq,_⟩:=QEI h2
  obtain⟨i,rfl,hi⟩:=Qgo hp
  obtain⟨j,rfl,hj⟩:=Qgo hq
  simp only[QQ1,Qq8 hi,Qq8 hj]
  cases ht:talk ns[i] ns[j] (j:Int)with
  |none=>exact⟨h,rfl⟩
  |some r=>
   have hr:=QDb (h _ (QRf hi)) (h _ (QRf hj)) ht
   exact⟨Qx3 (Qx3 h hr.1) hr.2,by simp[QEb]⟩
def Qny (ns:List Qd) (i:Nat):Qd:=tick (nodeAt ns (i:Int))
def QuH (ns:List Qd) (sd:List Qt) (i:Nat):Bool:=(lookup ((Qny ns i).2.2.1,(Qny ns i).2.2.2.1) (i:Int)).2.2.2.2.2&&(decide (((sd.length:Nat):Int)<40)&&decide (QrM (Qny ns i) (i:Int)=0))
def QFz (ns:List Qd) (sd:List Qt) (i:Nat):List Qd:=bif QuH ns sd i then ns.set i (QEC (Qny ns i) (i:Int))else ns.set i (Qny ns i)
def QBl (ns:List Qd) (sd:List Qt) (i:Nat):List Qt:=bif QuH ns sd i then sd++[((i:Int),QFb (Qny ns i) (i:Int))]else sd
def step (ns:List Qd) (net:List Qo) (sd:List Qt) (t:Int):XH:=bif decide ((QnD ns net sd t).1<0)then(ns,net,sd)else((exch (QFz ns sd (QnD ns net sd t).1.toNat) net (QBl ns sd (QnD ns net sd t).1.toNat) (QnD ns net sd t).1 (QnD ns net sd t).2).1,net,QBl ns sd (QnD ns net sd t).1.toNat)
theorem Qov (r:XH) (h:Xa r<=4294967296):∃(k:Int) (m0:List Qd) (m1:List Qo) (m2:List Qt),0<k/\KI w (r.1,r.2.1,r.2.2,1)=some (k,m0,m1,m2)/\KH w (m0,m1,m2,1)=some k:=by
 have h':=h
 simp only[Xa]at h'
 have c1:=QzH r.1
 have c2:=Qz8 r.2.1
 have c3:=Qzv r.2.2
 refine⟨_,_,_,_, ?_,Qy5 r.1 r.2.1 r.2.2 1 (by omega) (by omega) h,Qzd r.1 r.2.1 r.2.2 1 (by omega) (by omega) h⟩
 omega
end Go.Proofs.YtiejfnbmficbmaaGreat.M
namespace Go.Proofs.YtiejfnbmficbmaaGreat.M
open Go Go.Eng Go.Proofs
set_option linter.unusedVariables false
structure Fine (x:XH):Prop where
 mz:Xa x<=1100000
 net:Xk x.2.1<=1048576
 sm:smW x.1 x.2.1 x.2.2
end Go.Proofs.YtiejfnbmficbmaaGreat.M
namespace Go.Proofs.YtiejfnbmficbmaaGreat.M
open Go Go.Eng Go.Proofs
set_option linter.unusedVariables false
end Go.Proofs.YtiejfnbmficbmaaGreat.M
namespace Go.Proofs.YtiejfnbmficbmaaGreat.M
open Go Go.Eng Go.Proofs
set_option linter.unusedVariables false
structure Kp (n:Nat) (ns:List Qd) (net:List Qo) (sd:List Qt):Prop where
 nodes:∀x∈ns,NOk x
 len:ns.length=n
 n5:n<=5
 net:Xk net<=1048576
 sds:∀x∈sd,QL x.2=true
 sdl:sd.length<=41
theorem Kp.sm {n:Nat}{ns:List Qd}{net:List Qo}{sd:List Qt}(h:Kp n ns net sd):Xa (ns,net,sd)<=1100000/\smW ns net sd:=QxF h.nodes (by have:=h.len;have:=h.n5;omega) h.net h.sds h.sdl
theorem Kp.exch {n:Nat}{ns:List Qd}{net:List Qo}{sd:List Qt}(h:Kp n ns net sd) (p q:Int):Kp n (exch ns net sd p q).1 net sd:=by
 have:=QDw (net:=net) (sd:=sd) h.nodes p q
 exact⟨this.1,this.2.trans h.len,h.n5,h.net,h.sds,h.sdl⟩
end Go.Proofs.YtiejfnbmficbmaaGreat.M
namespace Go.Proofs.YtiejfnbmficbmaaGreat.M
open Go Go.Eng Go.Proofs
set_option linter.unusedVariables false
def nums (l:List Int):List Int:=Qm (l.length:Nat)++l.flatMap Qm
theorem Qpj (l:List Int):(nums l).length<=5+l.length*5:=by
 have h:=K4 Qm 5 l fun x _=>QE x
 have:=QE (l.length:Nat)
 simp only[nums,QRj];omega
theorem Qk6 (l:List Int) (hl:l.length<=4294967296):J5 w l=some (nums l):=by
 apply QqY
 have hp:=QE (l.length:Nat)
 have e:=Xb l.length (fun i (o:List Int)=>VP wl (l,((l.length:Nat):Int),(i:Int),o)) (fun i o=>o++(l.drop i).flatMap Qm) (fun i o=>o.length<=5+i*5)
  (fun i hi o ho ih=>by
    apply Qd1
    have hb:=QE l[i]
    have ih1:=ih (o++Qm l[i]) (by rw[QRj];omega)
    have ej: [o,Qm l[i]].flatten=o++Qm l[i]:=by simp
    have hj:=KG [o,Qm l[i]] (by simp[maxLen]) (by rw[ej,QRj];omega)
    simp only[vS,ilt hi,Ql hi,Qi hi,inc hi (show l.length<=maxLen by simp[maxLen];omega),QQ1,KB,QQ0,hj,ej,ih1]
    rw[QRa hi,List.flatMap_cons,QRc])
  (fun o _=>by
    apply Qd1
    simp[vS])
  (Qm (l.length:Nat)) (by omega)
 simp only[QQ6,QRg]at e
 simp only[QhV,KB,QQ0,e,nums]
theorem QlO (l:List Int) (hl:l.length<=4294967296):JX w l=some (nums l):=by
 apply QpO
 have hp:=QE (l.length:Nat)
 have e:=Xb l.length (fun i (o:List Int)=>Jb wl (l,(i:Int),o)) (fun i o=>o++(l.drop i).flatMap Qm) (fun i o=>o.length<=5+i*5)
  (fun i hi o ho ih=>by
    apply Qei
    have hb:=QE l[i]
    have ih1:=ih (o++Qm l[i]) (by rw[QRj];omega)
    simp only[vb,ilt hi,Ql hi,Qi hi,inc hi (show l.length<=maxLen by simp[maxLen];omega),QQ1,ZQ,QQ0,Qy (show(o.length+(Qm l[i]).length)*1<=140737488351232 by omega),ih1]
    rw[QRa hi,List.flatMap_cons,QRc])
  (fun o _=>by
    apply Qei
    simp[vb])
  (Qm (l.length:Nat)) (by omega)
 simp only[QQ6,QRg]at e
 simp only[Qh0,ZQ,QQ0,e,nums]
def isB (l:List Int):Prop:=∀x∈l,0<=x/\x<256
theorem Q7 {a b:List Int}(h:isB a) (h':isB b):isB (a++b):=fun x hx=>by
 rcases QRh.1 hx with h1|h1
 ·exact h x h1
 ·exact h' x h1
theorem wrap_u8 (n:Int):0<=IntKind.wrap .u8 n/\IntKind.wrap .u8 n<256:=by
 rw[IntKind.wrap_u8];omega
theorem Qvs:(f:Nat)->(n:Int)->(o:List Int)->isB o->isB (J9 f n o).2
 |0,n,o,h=>h
 |f+1,n,o,h=>by
  simp only[J9]
  split
  ·refine Qvs f _ _ (Q7 h fun x hx=> ?_)
   rw[List.mem_singleton.1 hx];exact wrap_u8 _
  ·exact h
theorem Xj (n:Int):isB (Qm n):=by
 unfold Qm
 cases inR n 0 2147483647
 ·intro x hx;simp at hx
 ·refine Q7 (Qvs 4 n [] (fun x hx=>by simp at hx)) fun x hx=> ?_
  rw[List.mem_singleton.1 hx];exact wrap_u8 _
theorem QlR {α:Type}(f:α->List Int) (h:∀x,isB (f x)) (l:List α):isB (l.flatMap f):=fun x hx=>by
 obtain⟨y,_,hy⟩:=List.mem_flatMap.1 hx
 exact h y x hy
theorem Qo2 (l:List Int):isB (nums l):=Q7 (Xj _) (QlR _ Xj _)
theorem Qxg (s:ByteArray):isB (ofBytes s):=fun x hx=>by
 simp only[ofBytes,List.mem_map]at hx
 obtain⟨b,_,rfl⟩:=hx
 have:=b.toNat_lt
 omega
theorem QBr (x:Qg):isB (ZU x):=Q7 (Xj _) (Q7 (Xj _) (Q7 (Xj _) (Q7 (Xj _) (Q7 (Xj _) (Q7 (Xj _) (Qxg _))))))
theorem Qrz (x:Qb):isB (XB x):=Q7 (Xj _) (Xj _)
theorem QEU (s:Qk):isB (stB s):=Q7 (Xj _) (Q7 (QlR _ QBr _) (Q7 (Xj _) (QlR _ Qrz _)))
theorem QrB (x:Int) (h0:0<=x) (h1:x<4294967296):(BitVec.ofInt 64 x).toNat=x.toNat:=by
 rw[BitVec.toNat_ofInt]
 have:x % ((2^64:Nat):Int)=x:=Int.emod_eq_of_lt h0 (by omega)
 rw[this]
theorem Qss (x y:Int) (hx:0<=x) (hx':x<4294967296) (hy:0<=y) (hy':y<4294967296):0<=bits .xor .i64 x y/\bits .xor .i64 x y<4294967296:=by
 have e:bits .xor .i64 x y=wR ((BitVec.ofInt 64 x^^^BitVec.ofInt 64 y).toNat:Nat):=rfl
 rw[e,BitVec.toNat_xor,QrB x hx hx',QrB y hy hy']
 have:=Nat.xor_lt_two_pow (n:=32) (x:=x.toNat) (y:=y.toNat) (by omega) (by omega)
 rw[w64 (by omega) (by omega)];omega
theorem Qw9 (x:Int) (h:0<=x) (h':x<4294967296):0<=jM x/\jM x<4294967296:=by
 have hd:=Int.tdiv_eq_ediv_of_nonneg (b:=2) h
 unfold jM
 rw[w64 (by omega) (by omega)]
 split
 ·exact Qss _ _ (by omega) (by omega) (by omega) (by omega)
 ·omega
theorem Qs6:(n:Nat)->(x:Int)->0<=x->x<4294967296->0<=xH n x/\xH n x<4294967296
 |0,x,h,h'=>⟨h,h'⟩
 |n+1,x,h,h'=>by
  have:=Qw9 x h h'
  rw[xH];exact Qs6 n _ this.1 this.2
theorem QCR (s b:Int) (h:0<=s) (h':s<4294967296) (hb:0<=b) (hb':b<256):0<=Qlz s b/\Qlz s b<4294967296:=by
 rw[QsH,w64 (by omega) (by omega)]
 have:=Qss s b h h' hb (by omega)
 exact Qs6 8 _ this.1 this.2
theorem Qvu:(l:List Int)->(s:Int)->isB l->0<=s->s<4294967296->0<=l.foldl Qlz s/\l.foldl Qlz s<4294967296
 | [],s,_,h,h'=>⟨h,h'⟩
 |b::l,s,hl,h,h'=>by
  have hb:=hl b (by simp)
  have:=QCR s b h h' hb.1 hb.2
  rw[List.foldl_cons]
  exact Qvu l _ (fun x hx=>hl x (by simp[hx])) this.1 this.2
theorem QEK (l:List Int) (h:isB l):0<=crc l/\crc l<4294967296:=by
 have:=Qvu l 4294967295 h (by omega) (by omega)
 exact Qss _ _ this.1 this.2 (by omega) (by omega)
def QcB (r:Int):List Int:=[IntKind.wrap .u8 (bits .and .i64 (QaV .i64 r 24) 255),IntKind.wrap .u8 (bits .and .i64 (QaV .i64 r 16) 255),IntKind.wrap .u8 (bits .and .i64 (QaV .i64 r 8) 255),IntKind.wrap .u8 (bits .and .i64 r 255)]
theorem QqC (x:Int) (h:0<=x) (h':x<4294967296):bits .and .i64 x 255=x % 256:=by
 have e:bits .and .i64 x 255=wR ((BitVec.ofInt 64 x&&&BitVec.ofInt 64 255).toNat:Nat):=rfl
 rw[e,BitVec.toNat_and,QrB x h h',QrB 255 (by omega) (by omega)]
 have:x.toNat&&&(255:Int).toNat=x.toNat % 256:=Nat.and_two_pow_sub_one_eq_mod x.toNat 8
 rw[this,w64 (by omega) (by omega)];omega
theorem Qwx (x:Int) (n:Nat) (m:Int) (hm:(2:Int)^n=m) (hn:n<=64):QaV .i64 x (n:Int)=Int.fdiv x m:=by
 unfold QaV
 rw[QRb,Nat.min_eq_left (show n<=IntKind.bits .i64 from hn),hm]
theorem QEt (r:Int) (h:0<=r) (h':r<4294967296):QcB r=[IntKind.wrap .u8 (wR (Int.tdiv r 16777216)),IntKind.wrap .u8 (Int.tmod (wR (Int.tdiv r 65536)) 256),IntKind.wrap .u8 (Int.tmod (wR (Int.tdiv r 256)) 256),IntKind.wrap .u8 (Int.tmod r 256)]:=by
 unfold QcB
 have s1:QaV .i64 r 24=r / 16777216:=by rw[show(24:Int)=((24:Nat):Int)from rfl,Qwx r 24 16777216 (by decide) (by omega),Int.fdiv_eq_ediv_of_nonneg _ (by omega)]
 have s2:QaV .i64 r 16=r / 65536:=by rw[show(16:Int)=((16:Nat):Int)from rfl,Qwx r 16 65536 (by decide) (by omega),Int.fdiv_eq_ediv_of_nonneg _ (by omega)]
 have s3:QaV .i64 r 8=r / 256:=by rw[show(8:Int)=((8:Nat):Int)from rfl,Qwx r 8 256 (by decide) (by omega),Int.fdiv_eq_ediv_of_nonneg _ (by omega)]
 have d1:=Int.tdiv_eq_ediv_of_nonneg (b:=16777216) h
 have d2:=Int.tdiv_eq_ediv_of_nonneg (b:=65536) h
 have d3:=Int.tdiv_eq_ediv_of_nonneg (b:=256) h
 rw[s1,s2,s3,d1,d2,d3,QqC _ (by omega) (by omega),QqC _ (by omega) (by omega),QqC _ (by omega) (by omega),QqC _ (by omega) (by omega)]
 rw[w64 (n:=r / 16777216) (by omega) (by omega),w64 (n:=r / 65536) (by omega) (by omega),w64 (n:=r / 256) (by omega) (by omega)]
 rw[Int.tmod_eq_emod_of_nonneg (a:=r / 65536) (by omega),Int.tmod_eq_emod_of_nonneg (a:=r / 256) (by omega),Int.tmod_eq_emod_of_nonneg (a:=r) (by omega)]
 have:r / 16777216 % 256=r / 16777216:=Int.emod_eq_of_lt (by omega) (by omega)
 rw[this]
theorem QxB (l:List Int) (h:l.length<=maxLen):yS w l=some (QcB (crc l)):=by
 apply Qpa
 simp only[Qfl,Qpu l h,QQ0,dt (show(0:Int)<=24 by omega),dt (show(0:Int)<=16 by omega),dt (show(0:Int)<=8 by omega),QQ1,QcB]
theorem QBP (l:List Int) (h:l.length<=maxLen) (hb:isB l):QcG w l=some (QcB (crc l)):=by
 apply Qsx
 have:=QEK l hb
 simp only[Qjz,Qnk l h,QQ0,dt (show(16777216:Int)≠0 by omega),dt (show(65536:Int)≠0 by omega),dt (show(256:Int)≠0 by omega),QQ1,QEt _ this.1 this.2]
def J7 (a0:Int) (a1:Int) (a2:Int) (a3:Int) (a4:Int) (a5:List Int) (a6:Int) (a7:List Int) (a8:List Int) (a9:List Qg) (a10:List Qb) (a11:List Qb):List Int:=[82,75]++(Qm a0++(Qm a1++(Qm a2++(Qm a3++(Qm a4++(nums a5++(Qm a6++(nums a7++(nums a8++(Qm ((stB (a9,a10)).length:Nat)++(stB (a9,a10)++Qm (a11.length:Nat))))))))))))
def X7 (a0:Int) (a1:Int) (a2:Int) (a3:Int) (a4:Int) (a5:List Int) (a6:Int) (a7:List Int) (a8:List Int) (a9:List Qg) (a10:List Qb) (a11:List Qb):List Int:=J7 a0 a1 a2 a3 a4 a5 a6 a7 a8 a9 a10 a11++a11.flatMap XB
def jo (a0:Int) (a1:Int) (a2:Int) (a3:Int) (a4:Int) (a5:List Int) (a6:Int) (a7:List Int) (a8:List Int) (a9:List Qg) (a10:List Qb) (a11:List Qb):List Int:=bif xz a0 a1 a2 a3 a4 a5 a6 a7 a8 a9 a10 a11 then X7 a0 a1 a2 a3 a4 a5 a6 a7 a8 a9 a10 a11++QcB (crc (X7 a0 a1 a2 a3 a4 a5 a6 a7 a8 a9 a10 a11))else []
theorem Qpb (a0:Int) (a1:Int) (a2:Int) (a3:Int) (a4:Int) (a5:List Int) (a6:Int) (a7:List Int) (a8:List Int) (a9:List Qg) (a10:List Qb) (a11:List Qb) (h:xz a0 a1 a2 a3 a4 a5 a6 a7 a8 a9 a10 a11=true):a5.length<=4/\a7.length<=5/\a8.length<=4/\QL (a9,a10)=true/\a11.length<=5:=by
 simp only[xz,QQ5]at h
 obtain⟨⟨⟨⟨⟨⟨⟨⟨⟨⟨⟨_,_⟩,_⟩,_⟩,hl⟩,_⟩,_⟩,_⟩,ht⟩,h7⟩,hs⟩,hm⟩:=h
 have h8:=QrR _ _ hl (by omega)
 have h11:=QbT _ _ hm (by omega)
 refine⟨?_,by simp at h7;omega, ?_,hs, ?_⟩
 ·unfold QbD at ht
  cases h0:decide (((a5.length:Nat):Int)=0)
  ·rw[h0]at ht
   simp at ht;omega
  ·simp at h0;rw[h0];simp
 ·rcases h8 with h|h
  ·omega
  ·rw[h];simp
 ·rcases h11 with h|h
  ·omega
  ·rw[h];simp
theorem Qj6 (a0:Int) (a1:Int) (a2:Int) (a3:Int) (a4:Int) (a5:List Int) (a6:Int) (a7:List Int) (a8:List Int) (a9:List Qg) (a10:List Qb) (a11:List Qb) (h:xz a0 a1 a2 a3 a4 a5 a6 a7 a8 a9 a10 a11=true):(J7 a0 a1 a2 a3 a4 a5 a6 a7 a8 a9 a10 a11).length<=3000000:=by
 obtain⟨h5,h7,h8,hs,h11⟩:=Qpb a0 a1 a2 a3 a4 a5 a6 a7 a8 a9 a10 a11 h
 have l0:=QE a0
 have l1:=QE a1
 have l2:=QE a2
 have l3:=QE a3
 have l4:=QE a4
 have l5:=Qpj a5
 have l6:=QE a6
 have l7:=Qpj a7
 have l8:=Qpj a8
 have l9:=QE ((stB (a9,a10)).length:Nat)
 have l10:=QsA (Qcx hs)
 have l11:=QE (a11.length:Nat)
 simp only[J7,QRj,List.length_cons,List.length_nil];omega
theorem QwK (a0:Int) (a1:Int) (a2:Int) (a3:Int) (a4:Int) (a5:List Int) (a6:Int) (a7:List Int) (a8:List Int) (a9:List Qg) (a10:List Qb) (a11:List Qb):isB (J7 a0 a1 a2 a3 a4 a5 a6 a7 a8 a9 a10 a11):=by
 unfold J7
 refine Q7 (fun x hx=> ?_) (Q7 (Xj _) (Q7 (Xj _) (Q7 (Xj _) (Q7 (Xj _) (Q7 (Xj _) (Q7 (Qo2 _) (Q7 (Xj _) (Q7 (Qo2 _) (Q7 (Qo2 _) (Q7 (Xj _) (Q7 (QEU _) (Xj _))))))))))))
 simp at hx;omega
theorem Qt2 (b:List Qb) (hb:b.length<=1000) (o:List Int) (ho:o.length<=3000000):
 Zu wl (b,((b.length:Nat):Int),0,o)=some (o++b.flatMap XB):=by
 have e:=Xb b.length (fun i (o:List Int)=>Zu wl (b,((b.length:Nat):Int),(i:Int),o)) (fun i o=>o++(b.drop i).flatMap XB) (fun i o=>o.length<=3000000+i*10)
  (fun i hi o ho ih=>by
    apply QbY
    have hb:=Vx b[i]
    have ih1:=ih (o++XB b[i]) (by rw[QRj];omega)
    have ej: [o,Qm b[i].1,Qm b[i].2].flatten=o++XB b[i]:=by simp[XB]
    have hj:=KG [o,Qm b[i].1,Qm b[i].2] (by simp[maxLen]) (by rw[ej,QRj];omega)
    simp only[jq,ilt hi,Ql hi,Qi hi,inc hi (show b.length<=maxLen by simp[maxLen];omega),QQ1,KB,QQ0,hj,ej,ih1]
    rw[QRa hi,List.flatMap_cons,QRc])
  (fun o _=>by
    apply QbY
    simp[jq])
  o (by omega)
 simpa using e
theorem Qxb (a0:Int) (a1:Int) (a2:Int) (a3:Int) (a4:Int) (a5:List Int) (a6:Int) (a7:List Int) (a8:List Int) (a9:List Qg) (a10:List Qb) (a11:List Qb) (h:smM a5 a7 a8 a9 a10 a11):qX w (a0,a1,a2,a3,a4,a5,a6,a7,a8,a9,a10,a11)=some (jo a0 a1 a2 a3 a4 a5 a6 a7 a8 a9 a10 a11):=by
 apply QoA
 simp only[Qfu,QCn a0 a1 a2 a3 a4 a5 a6 a7 a8 a9 a10 a11 h,QQ0,jo]
 obtain⟨h5,h7,h8,h9,h10,h11⟩:=h
 cases hm:xz a0 a1 a2 a3 a4 a5 a6 a7 a8 a9 a10 a11
 ·simp
 obtain⟨m5,m7,m8,hs,m11⟩:=Qpb a0 a1 a2 a3 a4 a5 a6 a7 a8 a9 a10 a11 hm
 have hl:=Qj6 a0 a1 a2 a3 a4 a5 a6 a7 a8 a9 a10 a11 hm
 have ej: [[82,75],Qm a0,Qm a1,Qm a2,Qm a3,Qm a4,nums a5,Qm a6,nums a7,nums a8,Qm ((stB (a9,a10)).length:Nat),stB (a9,a10),Qm (a11.length:Nat)].flatten=J7 a0 a1 a2 a3 a4 a5 a6 a7 a8 a9 a10 a11:=by
  simp only[QRr,List.flatten_nil,List.append_nil,J7]
 have hj:=KG [[82,75],Qm a0,Qm a1,Qm a2,Qm a3,Qm a4,nums a5,Qm a6,nums a7,nums a8,Qm ((stB (a9,a10)).length:Nat),stB (a9,a10),Qm (a11.length:Nat)] (by simp[maxLen]) (by rw[ej];omega)
 have hfl:=K4 XB 10 a11 fun x _=>Vx x
 have hbl:(X7 a0 a1 a2 a3 a4 a5 a6 a7 a8 a9 a10 a11).length<=3000050:=by simp only[X7,QRj];omega
 have hc:=QxB (X7 a0 a1 a2 a3 a4 a5 a6 a7 a8 a9 a10 a11) (by simp only[maxLen];omega)
 have ek: [X7 a0 a1 a2 a3 a4 a5 a6 a7 a8 a9 a10 a11,QcB (crc (X7 a0 a1 a2 a3 a4 a5 a6 a7 a8 a9 a10 a11))].flatten=X7 a0 a1 a2 a3 a4 a5 a6 a7 a8 a9 a10 a11++QcB (crc (X7 a0 a1 a2 a3 a4 a5 a6 a7 a8 a9 a10 a11)):=by simp
 have hk:=KG [X7 a0 a1 a2 a3 a4 a5 a6 a7 a8 a9 a10 a11,QcB (crc (X7 a0 a1 a2 a3 a4 a5 a6 a7 a8 a9 a10 a11))] (by simp[maxLen]) (by rw[ek,QRj];simp only[QcB,List.length_cons,List.length_nil];omega)
 have hloop:Zu wl (a11,((a11.length:Nat):Int),0,J7 a0 a1 a2 a3 a4 a5 a6 a7 a8 a9 a10 a11)=some (X7 a0 a1 a2 a3 a4 a5 a6 a7 a8 a9 a10 a11):=Qt2 a11 (by omega) _ hl
 simp only[QQ3,QQ2,QQ1,Ql2 a9 a10 h9 h10,hs,KB,Qk6 a5 (by omega),Qk6 a7 (by omega),Qk6 a8 (by omega),QQ0,hj,ej,hloop,hc,hk,ek]
theorem Qvj (a0:Int) (a1:Int) (a2:Int) (a3:Int) (a4:Int) (a5:List Int) (a6:Int) (a7:List Int) (a8:List Int) (a9:List Qg) (a10:List Qb) (a11:List Qb) (o l:List Int) (hl:l.length<=5) (ho:o.length<=10):
 YZ wl (0,a0,a1,a2,a3,a4,a5,a6,a7,a8,a9,a10,a11,o,l)=some (a0,a1,a2,a3,a4,a5,a6,a7,a8,a9,a10,a11,o++l.flatMap Qm):=by
 have e:=Xb l.length (fun k (o:List Int)=>YZ wl ((k:Int),a0,a1,a2,a3,a4,a5,a6,a7,a8,a9,a10,a11,o,l)) (fun k o=>(a0,a1,a2,a3,a4,a5,a6,a7,a8,a9,a10,a11,o++(l.drop k).flatMap Qm)) (fun k o=>o.length<=10+k*5)
  (fun k hk o ho ih=>by
    apply QeS
    have hb:=QE l[k]
    have ih1:=ih (o++Qm l[k]) (by rw[QRj];omega)
    simp only[QbA,ilt hk,Ql hk,Qi hk,inc hk (show l.length<=maxLen by simp[maxLen];omega),QQ1,ZQ,QQ0,Qy (show(o.length+(Qm l[k]).length)*1<=140737488351232 by omega),ih1]
    rw[QRa hk,List.flatMap_cons,QRc])
  (fun o _=>by
    apply QeS
    simp[QbA])
  o (by omega)
 simpa using e
theorem Qt5 (a0:Int) (a1:Int) (a2:Int) (a3:Int) (a4:Int) (a5:List Int) (a6:Int) (a7:List Int) (a8:List Int) (a9:List Qg) (a10:List Qb) (a11:List Qb) (hb:a11.length<=1000) (o:List Int) (ho:o.length<=3000000):
 Y4 wl (0,a0,a1,a2,a3,a4,a5,a6,a7,a8,a9,a10,a11,o)=some (o++a11.flatMap XB):=by
 have e:=Xb a11.length (fun i (o:List Int)=>Y4 wl ((i:Int),a0,a1,a2,a3,a4,a5,a6,a7,a8,a9,a10,a11,o)) (fun i o=>o++(a11.drop i).flatMap XB) (fun i o=>o.length<=3000000+i*10)
  (fun i hi o ho ih=>by
    apply Qeu
    have hb:=Vx a11[i]
    have h1:=QE a11[i].1
    have h2:=QE a11[i].2
    have ih1:=ih (o++XB a11[i]) (by rw[QRj];omega)
    have ej:o++Qm a11[i].1++Qm a11[i].2=o++XB a11[i]:=by simp[XB]
    simp only[vg,ilt hi,Ql hi,Qi hi,inc hi (show a11.length<=maxLen by simp[maxLen];omega),QQ1,ZQ,QQ0,Qy (show(o.length+(Qm a11[i].1).length)*1<=140737488351232 by omega),Qy (show((o++Qm a11[i].1).length+(Qm a11[i].2).length)*1<=140737488351232 by rw[QRj];omega),ej,ih1]
    rw[QRa hi,List.flatMap_cons,QRc])
  (fun o _=>by
    apply Qeu
    simp[vg])
  o (by omega)
 simpa using e
theorem QwD (a0:Int) (a1:Int) (a2:Int) (a3:Int) (a4:Int) (a5:List Int) (a6:Int) (a7:List Int) (a8:List Int) (a9:List Qg) (a10:List Qb) (a11:List Qb) (h:smM a5 a7 a8 a9 a10 a11):qV w (a0,a1,a2,a3,a4,a5,a6,a7,a8,a9,a10,a11)=some (jo a0 a1 a2 a3 a4 a5 a6 a7 a8 a9 a10 a11):=by
 apply QoV
 simp only[QfH,QA8 a0 a1 a2 a3 a4 a5 a6 a7 a8 a9 a10 a11 h,QQ0,jo]
 obtain⟨h5,h7,h8,h9,h10,h11⟩:=h
 cases hm:xz a0 a1 a2 a3 a4 a5 a6 a7 a8 a9 a10 a11
 ·simp
 obtain⟨m5,m7,m8,hs,m11⟩:=Qpb a0 a1 a2 a3 a4 a5 a6 a7 a8 a9 a10 a11 hm
 have hl:=Qj6 a0 a1 a2 a3 a4 a5 a6 a7 a8 a9 a10 a11 hm
 have hfl:=K4 XB 10 a11 fun x _=>Vx x
 have hbl:(X7 a0 a1 a2 a3 a4 a5 a6 a7 a8 a9 a10 a11).length<=3000050:=by simp only[X7,QRj];omega
 have hbody:QaZ w (a0,a1,a2,a3,a4,a5,a6,a7,a8,a9,a10,a11)=some (X7 a0 a1 a2 a3 a4 a5 a6 a7 a8 a9 a10 a11):=by
  apply Qpq
  have e0: [82,75]++[a0,a1,a2,a3,a4].flatMap Qm=[82,75]++(Qm a0++(Qm a1++(Qm a2++(Qm a3++Qm a4)))):=by simp
  have hn:=Qvj a0 a1 a2 a3 a4 a5 a6 a7 a8 a9 a10 a11 [82,75] [a0,a1,a2,a3,a4] (by simp) (by simp)
  rw[e0]at hn
  have hh:=hl
  simp only[J7,QRj]at hh
  have hend:((((((([82,75]++(Qm a0++(Qm a1++(Qm a2++(Qm a3++Qm a4))))++nums a5)++Qm a6)++nums a7)++nums a8)++Qm ((stB (a9,a10)).length:Nat))++stB (a9,a10))++Qm (a11.length:Nat))=J7 a0 a1 a2 a3 a4 a5 a6 a7 a8 a9 a10 a11:=by simp only[J7,QRc]
  simp only[QhR,hn,QlO a5 (by omega),QlO a7 (by omega),QlO a8 (by omega),ZQ,Qte a9 a10 (Qcx hs),QQ0]
  iterate 7 refine(QA5 (Qy (by simp only[QRj];omega))).trans ?_
  rw[hend,Qt5 a0 a1 a2 a3 a4 a5 a6 a7 a8 a9 a10 a11 (by omega) _ hl]
  rfl
 have hB:isB (X7 a0 a1 a2 a3 a4 a5 a6 a7 a8 a9 a10 a11):=Q7 (QwK a0 a1 a2 a3 a4 a5 a6 a7 a8 a9 a10 a11) (QlR _ Qrz _)
 have hc:=QBP (X7 a0 a1 a2 a3 a4 a5 a6 a7 a8 a9 a10 a11) (by simp only[maxLen];omega) hB
 simp only[QQ3,QQ2,hbody,QQ0,hc,QQ1]
 exact QA5 (Qy (by simp only[QcB,List.length_cons,List.length_nil];omega))
end Go.Proofs.YtiejfnbmficbmaaGreat.M
namespace Go.Proofs.YtiejfnbmficbmaaGreat.M
open Go Go.Eng Go.Proofs
set_option linter.unusedVariables false
def QFt:Nat->Nat->Int->List Int->Option (Int×Nat)
 |0,_,_,_=>none
 |_+1,_,_,[]=>none
 |f+1,i,acc,c::l=>if 128<=c then QFt f (i+1) (acc+(c % 128)*128^i) l
  else if(0<i/\c=0)\/2147483647<acc+(c % 128)*128^i then none else some (acc+(c % 128)*128^i,i+1)
def QJ1 (k:Int):Option (Int×Nat)->Int×Int×Bool
 |none=>(0,0,false)
 |some r=>(r.1,k+(r.2:Nat),true)
def Qj5 (b:List Int) (k:Int):Int×Int×Bool:=if 0<=k/\k<(b.length:Int)then QJ1 k (QFt 5 0 0 (b.drop k.toNat))else(0,0,false)
end Go.Proofs.YtiejfnbmficbmaaGreat.M
namespace Go.Proofs.YtiejfnbmficbmaaGreat.M
open Go Go.Eng Go.Proofs
set_option linter.unusedVariables false
structure Bs (b:List Int):Prop where
 isb:isB b
 len:b.length<=4294967296
def rnum (b:List Int) (p:Int) (bad:Bool):Int×Int×Bool:=bif bad then(0,p,true)else(bif (Qj5 b p).2.2 then((Qj5 b p).1,(Qj5 b p).2.1,false)else(0,p,true))
def Ju (b:List Int) (p:Int):ByteArray×Int×Bool:=bif (Qj5 b p).2.2 then(bif decide ((b.length:Int) - (Qj5 b p).2.1<(Qj5 b p).1)then(⟨#[]⟩,0,false)else(Ym (List.take (Qj5 b p).1.toNat (List.drop (Qj5 b p).2.1.toNat b)),(Qj5 b p).2.1+(Qj5 b p).1,true))else(⟨#[]⟩,0,false)
def rtext (b:List Int) (p:Int) (bad:Bool):ByteArray×Int×Bool:=bif bad then(⟨#[]⟩,p,true)else(bif (Ju b p).2.2 then((Ju b p).1,(Ju b p).2.1,false)else(⟨#[]⟩,p,true))
def rcount (b:List Int) (p:Int) (bad:Bool) (most:Int):Int×Int×Bool:=bif decide (most<(rnum b p bad).1)then(0,(rnum b p bad).2.1,true)else rnum b p bad
def Qu3 (b:List Int):Nat->Int->Bool->List Int×Int×Bool
 |0,p,bad=>([],p,bad)
 |m+1,p,bad=>((rnum b p bad).1::(Qu3 b m (rnum b p bad).2.1 (rnum b p bad).2.2).1,(Qu3 b m (rnum b p bad).2.1 (rnum b p bad).2.2).2)
def rnums (b:List Int) (p:Int) (bad:Bool) (most:Int):List Int×Int×Bool:=Qu3 b (rcount b p bad most).1.toNat (rcount b p bad most).2.1 (rcount b p bad most).2.2
def Qvg (b:List Int):Nat->Int->Bool->List Int×Int×Bool
 |0,p,bad=>([],p,bad)
 |m+1,p,bad=>bif bad then([],p,bad)else((rnum b p bad).1::(Qvg b m (rnum b p bad).2.1 (rnum b p bad).2.2).1,(Qvg b m (rnum b p bad).2.1 (rnum b p bad).2.2).2)
def rmany (b:List Int) (p:Int) (bad:Bool) (t:Nat):List Int×Int×Bool:=bif decide (100<(rnum b p bad).1)then([],(rnum b p bad).2.1,true)else Qvg b ((rnum b p bad).1.toNat*t) (rnum b p bad).2.1 (rnum b p bad).2.2
end Go.Proofs.YtiejfnbmficbmaaGreat.M
namespace Go.Proofs.YtiejfnbmficbmaaGreat.M
open Go Go.Eng Go.Proofs
set_option linter.unusedVariables false
def Enc (b:List Int) (p:Int) (l:List Int):Prop:=∃k:Nat,p=(k:Int)/\k<=b.length/\b.drop k=l
theorem Enc.start (b:List Int):Enc b 0 b:=⟨0,rfl,Nat.zero_le _,rfl⟩
theorem Enc.skip {b:List Int}{k:Nat}{a l:List Int}(h:b.drop k=a++l) (hk:k<=b.length):Enc b ((k+a.length:Nat):Int) l:=by
 have h2:(b.drop k).length=(a++l).length:=by rw[h]
 rw[List.length_drop,QRj]at h2
 refine⟨k+a.length,rfl,by omega, ?_⟩
 rw[<-List.drop_drop,h,List.drop_left]
end Go.Proofs.YtiejfnbmficbmaaGreat.M
