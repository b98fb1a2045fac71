/- What the plain forms that FnExactIslands reaches come to: PRcv2. No conditions but those that each theorem states. -/
import Derived.Test.YtiejfnbmficbmaaGreatFnExactIslandsPSend
set_option linter.all false
namespace Go.Proofs.YtiejfnbmficbmaaGreat.M
open Go Go.Eng Go.Proofs
set_option linter.unusedVariables false
def yJ (x:Qa) (m:QV):Bool:=QfI m&&(decide (m.2.2.1=x.1)&&(!decide (x.2.1<=m.2.1)&&decide (((m.2.2.2.2.2.2.2.1.length:Nat):Int)=x.2.1)))
theorem Qs8 {x:Qa}{m:QV}(h:yJ x m=true):Fit x m:=by
 simp only[yJ,QQ5,QY10,QRu,decide_eq_false_iff_not]at h
 exact⟨mok h.1,h.2.1,by omega,h.2.2.2⟩
def rcv (x:Qa) (m:QV):Qa×List QV×Int:=bif yJ x m then
 (bif decide (m.1=0)then(brought x m,[msg (brought x m) 1 m.2.1 m.2.2.2.1],0)
 else bif decide (m.1=1)then(heard x m,[],0)
 else bif decide (m.1=2)then(bif X4 x m then(x,[msg x 5 m.2.1 m.2.2.2.1],3)else(Qt x m,[qs (Qt x m) m],0))
 else bif decide (m.1=3)then(bif decide (find x m false<0)then(x,[],2)else(brought (gone x (find x m false)) m,[Qap (brought (gone x (find x m false)) m) m],0))
 else bif decide (m.1=4)then(bif decide (find x m true<0)then(x,[],2)else(brought (gone x (find x m true)) m,[],0))
 else(bif decide (find x m false<0)then(x,[],2)else(gone x (find x m false),[],0)))
 else(x,[],1)
def flat (r:Qa×List QV×Int):Int×Int×(List Qg)×(List Qb)×(List Int)×Int×Int×Int×(List Qk)×(List Int)×(List Int)×(List (List Int))×Int×Int×(List Qy)×Int×Int×Int×(List QM)×(List QV)×Int:=(r.1.1,r.1.2.1,r.1.2.2.1,r.1.2.2.2.1,r.1.2.2.2.2.1,r.1.2.2.2.2.2.1,r.1.2.2.2.2.2.2.1,r.1.2.2.2.2.2.2.2.1,r.1.2.2.2.2.2.2.2.2.1,r.1.2.2.2.2.2.2.2.2.2.1,r.1.2.2.2.2.2.2.2.2.2.2.1,r.1.2.2.2.2.2.2.2.2.2.2.2.1,r.1.2.2.2.2.2.2.2.2.2.2.2.2.1,r.1.2.2.2.2.2.2.2.2.2.2.2.2.2.1,r.1.2.2.2.2.2.2.2.2.2.2.2.2.2.2.1,r.1.2.2.2.2.2.2.2.2.2.2.2.2.2.2.2.1,r.1.2.2.2.2.2.2.2.2.2.2.2.2.2.2.2.2.1,r.1.2.2.2.2.2.2.2.2.2.2.2.2.2.2.2.2.2.1,r.1.2.2.2.2.2.2.2.2.2.2.2.2.2.2.2.2.2.2,r.2.1,r.2.2)
theorem jx {x:Qa}{m:QV}(hf:Fit x m) (k:Int):Fit (gone x k) m:=⟨hf.ok,hf.to,hf.src,hf.len⟩
theorem Qd2 {x:Qa}(h:NOk x) (m:QV):NOk (rcv x m).1:=by
 unfold rcv
 cases hb:yJ x m
 ·exact h
 ·have hf:=Qs8 hb
  simp only[QQ1]
  cases decide (m.1=0)<;>simp only[QQ1,QQ2]
  ·cases decide (m.1=1)<;>simp only[QQ1,QQ2]
   ·cases decide (m.1=2)<;>simp only[QQ1,QQ2]
    ·cases decide (m.1=3)<;>simp only[QQ1,QQ2]
     ·cases decide (m.1=4)<;>simp only[QQ1,QQ2]
      ·cases decide (find x m false<0)
       ·exact qm h _
       ·exact h
      ·cases decide (find x m true<0)
       ·exact ZR (qm h _) (jx hf _)
       ·exact h
     ·cases decide (find x m false<0)
      ·exact ZR (qm h _) (jx hf _)
      ·exact h
    ·cases hc:X4 x m
     ·exact ym h hf hc
     ·exact h
   ·exact yB h hf
  ·exact ZR h hf
theorem Qqt {x:Qa}(h:NOk x) (m:QV):∀a∈(rcv x m).2.1,Qmr a/\a.2.2.1=m.2.1/\a.2.1=x.1:=by
 unfold rcv
 cases hb:yJ x m
 ·simp
 ·have hf:=Qs8 hb
  simp only[QQ1]
  cases decide (m.1=0)<;>simp only[QQ1,QQ2]
  ·cases decide (m.1=1)<;>simp only[QQ1,QQ2]
   ·cases decide (m.1=2)<;>simp only[QQ1,QQ2]
    ·cases decide (m.1=3)<;>simp only[QQ1,QQ2]
     ·cases decide (m.1=4)<;>simp only[QQ1,QQ2]
      ·cases decide (find x m false<0)<;>simp
      ·cases decide (find x m true<0)<;>simp
     ·cases decide (find x m false<0)
      ·intro a ha
       obtain rfl:=List.mem_singleton.1 ha
       exact⟨QD0 (ZR (qm h _) (jx hf _)) hf.ok,rfl,rfl⟩
      ·simp
    ·cases hc:X4 x m
     ·intro a ha
      obtain rfl:=List.mem_singleton.1 ha
      exact⟨QBl (ym h hf hc) m,rfl,rfl⟩
     ·intro a ha
      obtain rfl:=List.mem_singleton.1 ha
      exact⟨QEF h _ _ _,rfl,rfl⟩
   ·simp
  ·intro a ha
   obtain rfl:=List.mem_singleton.1 ha
   exact⟨QEF (ZR h hf) _ _ _,rfl,rfl⟩
theorem QIC (m:QV) (h:Qmr m):Qbp w (m.1,m.2.1,m.2.2.1,m.2.2.2.1,m.2.2.2.2.1,m.2.2.2.2.2.1,m.2.2.2.2.2.2.1,m.2.2.2.2.2.2.2.1,m.2.2.2.2.2.2.2.2.1,m.2.2.2.2.2.2.2.2.2.1,m.2.2.2.2.2.2.2.2.2.2.1,m.2.2.2.2.2.2.2.2.2.2.2)=some (QfI m):=QGF m.1 m.2.1 m.2.2.1 m.2.2.2.1 m.2.2.2.2.1 m.2.2.2.2.2.1 m.2.2.2.2.2.2.1 m.2.2.2.2.2.2.2.1 m.2.2.2.2.2.2.2.2.1 m.2.2.2.2.2.2.2.2.2.1 m.2.2.2.2.2.2.2.2.2.2.1 m.2.2.2.2.2.2.2.2.2.2.2 h
theorem QGj (m:QV) (h:Qmr m):Qb9 w (m.1,m.2.1,m.2.2.1,m.2.2.2.1,m.2.2.2.2.1,m.2.2.2.2.2.1,m.2.2.2.2.2.2.1,m.2.2.2.2.2.2.2.1,m.2.2.2.2.2.2.2.2.1,m.2.2.2.2.2.2.2.2.2.1,m.2.2.2.2.2.2.2.2.2.2.1,m.2.2.2.2.2.2.2.2.2.2.2)=some (QfI m):=QE6 m.1 m.2.1 m.2.2.1 m.2.2.2.1 m.2.2.2.2.1 m.2.2.2.2.2.1 m.2.2.2.2.2.2.1 m.2.2.2.2.2.2.2.1 m.2.2.2.2.2.2.2.2.1 m.2.2.2.2.2.2.2.2.2.1 m.2.2.2.2.2.2.2.2.2.2.1 m.2.2.2.2.2.2.2.2.2.2.2 h
set_option maxHeartbeats 2000000 in
theorem QC6 (x:Qa) (h:NOk x) (m:QV) (hm:Qmr m):Qdb w (x.1,x.2.1,x.2.2.1,x.2.2.2.1,x.2.2.2.2.1,x.2.2.2.2.2.1,x.2.2.2.2.2.2.1,x.2.2.2.2.2.2.2.1,x.2.2.2.2.2.2.2.2.1,x.2.2.2.2.2.2.2.2.2.1,x.2.2.2.2.2.2.2.2.2.2.1,x.2.2.2.2.2.2.2.2.2.2.2.1,x.2.2.2.2.2.2.2.2.2.2.2.2.1,x.2.2.2.2.2.2.2.2.2.2.2.2.2.1,x.2.2.2.2.2.2.2.2.2.2.2.2.2.2.1,x.2.2.2.2.2.2.2.2.2.2.2.2.2.2.2.1,x.2.2.2.2.2.2.2.2.2.2.2.2.2.2.2.2.1,x.2.2.2.2.2.2.2.2.2.2.2.2.2.2.2.2.2.1,x.2.2.2.2.2.2.2.2.2.2.2.2.2.2.2.2.2.2,m.1,m.2.1,m.2.2.1,m.2.2.2.1,m.2.2.2.2.1,m.2.2.2.2.2.1,m.2.2.2.2.2.2.1,m.2.2.2.2.2.2.2.1,m.2.2.2.2.2.2.2.2.1,m.2.2.2.2.2.2.2.2.2.1,m.2.2.2.2.2.2.2.2.2.2.1,m.2.2.2.2.2.2.2.2.2.2.2)=some (flat (rcv x m)):=by
 have hsm:=Xp h
 have hk:=XC h
 have hc:=Qyk h
 have hn:=okN h
 apply Qs5
 simp only[QiD,hc,hn,QIC m hm,QQ0,QQ3,QQ2]
 unfold rcv
 cases hmk:QfI m
 ·simp only[yJ,hmk,QRm,QQ2];rfl
 ·by_cases h2:m.2.2.1=x.1
  ·by_cases h1:x.2.1<=m.2.1
   ·simp only[yJ,hmk,dt h2,dt h1,QQ3,QRm,QY7,QRd,QQ2,QQ1];rfl
   ·by_cases h7:((m.2.2.2.2.2.2.2.1.length:Nat):Int)=x.2.1
    ·have hb:yJ x m=true:=by simp only[yJ,hmk,dt h2,df h1,dt h7];rfl
     have hf:=Qs8 hb
     rw[hb,dt h2,df h1,dt h7]
     simp only[QQ3,QQ2,QQ1]
     obtain⟨j,hj,hj2⟩:=Qm5 h hf
     have hi0:inb x.1 m.2.2.2.2.2.2.2.1.length=true:=by rw[hj];exact Qj hj2
     have hkd:=Q0.1 hf.ok.kind
     have hlv:=Qz3 hf.ok
     have hmx:m.2.2.2.2.2.2.2.2.1.length<=maxLen:=by simp only[maxLen];omega
     rcases(show m.1=0\/m.1=1\/m.1=2\/m.1=3\/m.1=4\/m.1=5 by omega)with hz|hz|hz|hz|hz|hz
     ·simp only[df (show¬m.1=1 by omega),df (show¬m.1=2 by omega),df (show¬m.1=3 by omega),df (show¬m.1=4 by omega),df (show¬m.1=5 by omega),dt hz,QQ1,Qpk x h m hf,QbB _ (ZR h hf),QQ0];rfl
     ·simp only[df (show¬m.1=0 by omega),df (show¬m.1=2 by omega),df (show¬m.1=3 by omega),df (show¬m.1=4 by omega),df (show¬m.1=5 by omega),dt hz,QQ1,QQ2,QdM x h m hf,QQ0];rfl
     ·simp only[df (show¬m.1=0 by omega),df (show¬m.1=1 by omega),df (show¬m.1=3 by omega),df (show¬m.1=4 by omega),df (show¬m.1=5 by omega),dt hz,QQ1,QQ2,QxV x h m hf,QQ0]
      cases X4 x m<;>rfl
     ·simp only[df (show¬m.1=0 by omega),df (show¬m.1=1 by omega),df (show¬m.1=2 by omega),df (show¬m.1=4 by omega),df (show¬m.1=5 by omega),dt hz,QQ1,QQ2,Qoy x h m false,QQ0]
      by_cases hg:find x m false<0
      ·rw[dt hg];rfl
      ·rw[df hg]
       have hgn:=qm h (find x m false)
       have hgf:=jx hf (find x m false)
       have ha:Vk w (x.1,x.2.1,x.2.2.1,x.2.2.2.1,x.2.2.2.2.1,x.2.2.2.2.2.1,x.2.2.2.2.2.2.1,x.2.2.2.2.2.2.2.1,x.2.2.2.2.2.2.2.2.1,x.2.2.2.2.2.2.2.2.2.1,x.2.2.2.2.2.2.2.2.2.2.1,x.2.2.2.2.2.2.2.2.2.2.2.1,x.2.2.2.2.2.2.2.2.2.2.2.2.1,x.2.2.2.2.2.2.2.2.2.2.2.2.2.1,Ql8 x.2.2.2.2.2.2.2.2.2.2.2.2.2.2.1 (find x m false),x.2.2.2.2.2.2.2.2.2.2.2.2.2.2.2.1,x.2.2.2.2.2.2.2.2.2.2.2.2.2.2.2.2.1,x.2.2.2.2.2.2.2.2.2.2.2.2.2.2.2.2.2.1,x.2.2.2.2.2.2.2.2.2.2.2.2.2.2.2.2.2.2,m.1,m.2.1,m.2.2.1,m.2.2.2.1,m.2.2.2.2.1,m.2.2.2.2.2.1,m.2.2.2.2.2.2.1,m.2.2.2.2.2.2.2.1,m.2.2.2.2.2.2.2.2.1,m.2.2.2.2.2.2.2.2.2.1,m.2.2.2.2.2.2.2.2.2.2.1,m.2.2.2.2.2.2.2.2.2.2.2)=some (brought (gone x (find x m false)) m):=Qpk (gone x (find x m false)) hgn m hgf
       have hbn:=ZR hgn hgf
       have hp:Kr w ((brought (gone x (find x m false)) m).1,(brought (gone x (find x m false)) m).2.1,(brought (gone x (find x m false)) m).2.2.1,(brought (gone x (find x m false)) m).2.2.2.1,(brought (gone x (find x m false)) m).2.2.2.2.1,(brought (gone x (find x m false)) m).2.2.2.2.2.1,(brought (gone x (find x m false)) m).2.2.2.2.2.2.1,(brought (gone x (find x m false)) m).2.2.2.2.2.2.2.1,(brought (gone x (find x m false)) m).2.2.2.2.2.2.2.2.1,(brought (gone x (find x m false)) m).2.2.2.2.2.2.2.2.2.1,(brought (gone x (find x m false)) m).2.2.2.2.2.2.2.2.2.2.1,(brought (gone x (find x m false)) m).2.2.2.2.2.2.2.2.2.2.2.1,(brought (gone x (find x m false)) m).2.2.2.2.2.2.2.2.2.2.2.2.1,(brought (gone x (find x m false)) m).2.2.2.2.2.2.2.2.2.2.2.2.2.1,(brought (gone x (find x m false)) m).2.2.2.2.2.2.2.2.2.2.2.2.2.2.1,(brought (gone x (find x m false)) m).2.2.2.2.2.2.2.2.2.2.2.2.2.2.2.1,(brought (gone x (find x m false)) m).2.2.2.2.2.2.2.2.2.2.2.2.2.2.2.2.1,(brought (gone x (find x m false)) m).2.2.2.2.2.2.2.2.2.2.2.2.2.2.2.2.2.1,(brought (gone x (find x m false)) m).2.2.2.2.2.2.2.2.2.2.2.2.2.2.2.2.2.2,m.2.2.2.2.2.2.2.2.1,m.1,m.2.1,m.2.2.1,m.2.2.2.1,m.2.2.2.2.1,m.2.2.2.2.2.1,m.2.2.2.2.2.2.1,m.2.2.2.2.2.2.2.1,m.2.2.2.2.2.2.2.2.1,m.2.2.2.2.2.2.2.2.2.1,m.2.2.2.2.2.2.2.2.2.2.1,m.2.2.2.2.2.2.2.2.2.2.2)=some (vC (brought (gone x (find x m false)) m) m.2.2.2.2.2.2.2.2.1 (rd1 0 m.2.2.2.2.2.2.2.1 x.1)):=Quj (brought (gone x (find x m false)) m) hbn _ hmx m hi0
       simp only[QQ3,QQ2,ha,QbB (brought (gone x (find x m false)) m) hbn,Qal m.2.2.2.2.2.2.2.2.1 (by omega),hp,QQ0];rfl
     ·simp only[df (show¬m.1=0 by omega),df (show¬m.1=1 by omega),df (show¬m.1=2 by omega),df (show¬m.1=3 by omega),df (show¬m.1=5 by omega),dt hz,QQ1,QQ2,Qoy x h m true,QQ0]
      by_cases hg:find x m true<0
      ·rw[dt hg];rfl
      ·rw[df hg]
       have hgn:=qm h (find x m true)
       have hgf:=jx hf (find x m true)
       have ha:Vk w (x.1,x.2.1,x.2.2.1,x.2.2.2.1,x.2.2.2.2.1,x.2.2.2.2.2.1,x.2.2.2.2.2.2.1,x.2.2.2.2.2.2.2.1,x.2.2.2.2.2.2.2.2.1,x.2.2.2.2.2.2.2.2.2.1,x.2.2.2.2.2.2.2.2.2.2.1,x.2.2.2.2.2.2.2.2.2.2.2.1,x.2.2.2.2.2.2.2.2.2.2.2.2.1,x.2.2.2.2.2.2.2.2.2.2.2.2.2.1,Ql8 x.2.2.2.2.2.2.2.2.2.2.2.2.2.2.1 (find x m true),x.2.2.2.2.2.2.2.2.2.2.2.2.2.2.2.1,x.2.2.2.2.2.2.2.2.2.2.2.2.2.2.2.2.1,x.2.2.2.2.2.2.2.2.2.2.2.2.2.2.2.2.2.1,x.2.2.2.2.2.2.2.2.2.2.2.2.2.2.2.2.2.2,m.1,m.2.1,m.2.2.1,m.2.2.2.1,m.2.2.2.2.1,m.2.2.2.2.2.1,m.2.2.2.2.2.2.1,m.2.2.2.2.2.2.2.1,m.2.2.2.2.2.2.2.2.1,m.2.2.2.2.2.2.2.2.2.1,m.2.2.2.2.2.2.2.2.2.2.1,m.2.2.2.2.2.2.2.2.2.2.2)=some (brought (gone x (find x m true)) m):=Qpk (gone x (find x m true)) hgn m hgf
       have hbn:=ZR hgn hgf
       simp only[QQ3,QQ2,ha,QQ0];rfl
     ·simp only[df (show¬m.1=0 by omega),df (show¬m.1=1 by omega),df (show¬m.1=2 by omega),df (show¬m.1=3 by omega),df (show¬m.1=4 by omega),dt hz,QQ1,QQ2,Qoy x h m false,QQ0]
      by_cases hg:find x m false<0
      ·rw[dt hg];rfl
      ·rw[df hg]
       have hgn:=qm h (find x m false)
       have hgf:=jx hf (find x m false)
       rfl
    ·simp only[yJ,hmk,dt h2,df h1,df h7,QQ4,QQ3,QY7,QRd,QQ2,QQ1];rfl
  ·simp only[yJ,hmk,df h2,QQ4,QRm,QY7,QQ2,QQ1];rfl
set_option maxHeartbeats 2000000 in
theorem QmS (x:Qa) (h:NOk x) (m:QV) (hm:Qmr m):Yl w (x.1,x.2.1,x.2.2.1,x.2.2.2.1,x.2.2.2.2.1,x.2.2.2.2.2.1,x.2.2.2.2.2.2.1,x.2.2.2.2.2.2.2.1,x.2.2.2.2.2.2.2.2.1,x.2.2.2.2.2.2.2.2.2.1,x.2.2.2.2.2.2.2.2.2.2.1,x.2.2.2.2.2.2.2.2.2.2.2.1,x.2.2.2.2.2.2.2.2.2.2.2.2.1,x.2.2.2.2.2.2.2.2.2.2.2.2.2.1,x.2.2.2.2.2.2.2.2.2.2.2.2.2.2.1,x.2.2.2.2.2.2.2.2.2.2.2.2.2.2.2.1,x.2.2.2.2.2.2.2.2.2.2.2.2.2.2.2.2.1,x.2.2.2.2.2.2.2.2.2.2.2.2.2.2.2.2.2.1,x.2.2.2.2.2.2.2.2.2.2.2.2.2.2.2.2.2.2,m.1,m.2.1,m.2.2.1,m.2.2.2.1,m.2.2.2.2.1,m.2.2.2.2.2.1,m.2.2.2.2.2.2.1,m.2.2.2.2.2.2.2.1,m.2.2.2.2.2.2.2.2.1,m.2.2.2.2.2.2.2.2.2.1,m.2.2.2.2.2.2.2.2.2.2.1,m.2.2.2.2.2.2.2.2.2.2.2)=some (flat (rcv x m)):=by
 have hsm:=Xp h
 have hk:=XC h
 have hc:=Qky h
 have hn:=QHb h
 apply QsY
 simp only[Qje,hc,hn,QGj m hm,QQ0,QQ3,QQ2]
 unfold rcv
 cases hmk:QfI m
 ·simp only[yJ,hmk,QRm,QQ2];rfl
 ·by_cases h2:m.2.2.1=x.1
  ·by_cases h1:x.2.1<=m.2.1
   ·simp only[yJ,hmk,dt h2,dt h1,QQ3,QRm,QY7,QRd,QQ2,QQ1];rfl
   ·by_cases h7:((m.2.2.2.2.2.2.2.1.length:Nat):Int)=x.2.1
    ·have hb:yJ x m=true:=by simp only[yJ,hmk,dt h2,df h1,dt h7];rfl
     have hf:=Qs8 hb
     rw[hb,dt h2,df h1,dt h7]
     simp only[QQ3,QQ2,QQ1]
     obtain⟨j,hj,hj2⟩:=Qm5 h hf
     have hi0:inb x.1 m.2.2.2.2.2.2.2.1.length=true:=by rw[hj];exact Qj hj2
     have hkd:=Q0.1 hf.ok.kind
     have hlv:=Qz3 hf.ok
     have hmx:m.2.2.2.2.2.2.2.2.1.length<=maxLen:=by simp only[maxLen];omega
     rcases(show m.1=0\/m.1=1\/m.1=2\/m.1=3\/m.1=4\/m.1=5 by omega)with hz|hz|hz|hz|hz|hz
     ·simp only[df (show¬m.1=1 by omega),df (show¬m.1=2 by omega),df (show¬m.1=3 by omega),df (show¬m.1=4 by omega),df (show¬m.1=5 by omega),dt hz,QQ1,Qg1 x h m hf,QgH _ (ZR h hf),QQ0];rfl
     ·simp only[df (show¬m.1=0 by omega),df (show¬m.1=2 by omega),df (show¬m.1=3 by omega),df (show¬m.1=4 by omega),df (show¬m.1=5 by omega),dt hz,QQ1,QQ2,QmO x h m hf,QQ0];rfl
     ·simp only[df (show¬m.1=0 by omega),df (show¬m.1=1 by omega),df (show¬m.1=3 by omega),df (show¬m.1=4 by omega),df (show¬m.1=5 by omega),dt hz,QQ1,QQ2,QEz x h m hf,QQ0]
      cases X4 x m<;>rfl
     ·simp only[df (show¬m.1=0 by omega),df (show¬m.1=1 by omega),df (show¬m.1=2 by omega),df (show¬m.1=4 by omega),df (show¬m.1=5 by omega),dt hz,QQ1,QQ2,QnX x h m,QQ0]
      by_cases hg:find x m false<0
      ·rw[dt hg];rfl
      ·rw[df hg]
       have hgn:=qm h (find x m false)
       have hgf:=jx hf (find x m false)
       obtain⟨i,hi,hil⟩:=QrU hg
       have hgo:VX w (x.1,x.2.1,x.2.2.1,x.2.2.2.1,x.2.2.2.2.1,x.2.2.2.2.2.1,x.2.2.2.2.2.2.1,x.2.2.2.2.2.2.2.1,x.2.2.2.2.2.2.2.2.1,x.2.2.2.2.2.2.2.2.2.1,x.2.2.2.2.2.2.2.2.2.2.1,x.2.2.2.2.2.2.2.2.2.2.2.1,x.2.2.2.2.2.2.2.2.2.2.2.2.1,x.2.2.2.2.2.2.2.2.2.2.2.2.2.1,x.2.2.2.2.2.2.2.2.2.2.2.2.2.2.1,x.2.2.2.2.2.2.2.2.2.2.2.2.2.2.2.1,x.2.2.2.2.2.2.2.2.2.2.2.2.2.2.2.2.1,x.2.2.2.2.2.2.2.2.2.2.2.2.2.2.2.2.2.1,x.2.2.2.2.2.2.2.2.2.2.2.2.2.2.2.2.2.2,find x m false)=some (gone x (find x m false)):=by rw[hi];exact QoU x h i hil
       simp only[hgo,QQ2,QQ0]
       have hbn:=ZR hgn hgf
       have ha:=Qg1 (gone x (find x m false)) hgn m hgf
       have hp:=QtZ (brought (gone x (find x m false)) m) hbn m.2.2.2.2.2.2.2.2.1 hmx (rd1 0 m.2.2.2.2.2.2.2.1 x.1)
       simp only[ha,QgH (brought (gone x (find x m false)) m) hbn,QY9,QRe,QRo,Qw (show m.2.2.2.2.2.2.2.2.1.length*8<=140737488351232 by omega),hi0,QQ1,hp,QQ0];rfl
     ·simp only[df (show¬m.1=0 by omega),df (show¬m.1=1 by omega),df (show¬m.1=2 by omega),df (show¬m.1=3 by omega),df (show¬m.1=5 by omega),dt hz,QQ1,QQ2,QnX x h m,QQ0]
      by_cases hg:find x m true<0
      ·rw[dt hg];rfl
      ·rw[df hg]
       have hgn:=qm h (find x m true)
       have hgf:=jx hf (find x m true)
       obtain⟨i,hi,hil⟩:=QrU hg
       have hgo:VX w (x.1,x.2.1,x.2.2.1,x.2.2.2.1,x.2.2.2.2.1,x.2.2.2.2.2.1,x.2.2.2.2.2.2.1,x.2.2.2.2.2.2.2.1,x.2.2.2.2.2.2.2.2.1,x.2.2.2.2.2.2.2.2.2.1,x.2.2.2.2.2.2.2.2.2.2.1,x.2.2.2.2.2.2.2.2.2.2.2.1,x.2.2.2.2.2.2.2.2.2.2.2.2.1,x.2.2.2.2.2.2.2.2.2.2.2.2.2.1,x.2.2.2.2.2.2.2.2.2.2.2.2.2.2.1,x.2.2.2.2.2.2.2.2.2.2.2.2.2.2.2.1,x.2.2.2.2.2.2.2.2.2.2.2.2.2.2.2.2.1,x.2.2.2.2.2.2.2.2.2.2.2.2.2.2.2.2.2.1,x.2.2.2.2.2.2.2.2.2.2.2.2.2.2.2.2.2.2,find x m true)=some (gone x (find x m true)):=by rw[hi];exact QoU x h i hil
       simp only[hgo,QQ2,QQ0]
       have hbn:=ZR hgn hgf
       have ha:=Qg1 (gone x (find x m true)) hgn m hgf
       simp only[ha,QQ0];rfl
     ·simp only[df (show¬m.1=0 by omega),df (show¬m.1=1 by omega),df (show¬m.1=2 by omega),df (show¬m.1=3 by omega),df (show¬m.1=4 by omega),dt hz,QQ1,QQ2,QnX x h m,QQ0]
      by_cases hg:find x m false<0
      ·rw[dt hg];rfl
      ·rw[df hg]
       have hgn:=qm h (find x m false)
       have hgf:=jx hf (find x m false)
       obtain⟨i,hi,hil⟩:=QrU hg
       have hgo:VX w (x.1,x.2.1,x.2.2.1,x.2.2.2.1,x.2.2.2.2.1,x.2.2.2.2.2.1,x.2.2.2.2.2.2.1,x.2.2.2.2.2.2.2.1,x.2.2.2.2.2.2.2.2.1,x.2.2.2.2.2.2.2.2.2.1,x.2.2.2.2.2.2.2.2.2.2.1,x.2.2.2.2.2.2.2.2.2.2.2.1,x.2.2.2.2.2.2.2.2.2.2.2.2.1,x.2.2.2.2.2.2.2.2.2.2.2.2.2.1,x.2.2.2.2.2.2.2.2.2.2.2.2.2.2.1,x.2.2.2.2.2.2.2.2.2.2.2.2.2.2.2.1,x.2.2.2.2.2.2.2.2.2.2.2.2.2.2.2.2.1,x.2.2.2.2.2.2.2.2.2.2.2.2.2.2.2.2.2.1,x.2.2.2.2.2.2.2.2.2.2.2.2.2.2.2.2.2.2,find x m false)=some (gone x (find x m false)):=by rw[hi];exact QoU x h i hil
       simp only[hgo,QQ2,QQ0]
       rfl
    ·simp only[yJ,hmk,dt h2,df h1,df h7,QQ4,QQ3,QY7,QRd,QQ2,QQ1];rfl
  ·simp only[yJ,hmk,df h2,QQ4,QRm,QY7,QQ2,QQ1];rfl
def Jt (wt:Int):List Qy->List Qy
 | []=>[]
 |x::l=>bif decide (x.2.2.2+1<=wt)then(x.1,x.2.1,x.2.2.1,x.2.2.2+1)::Jt wt l else Jt wt l
theorem Qmj (wt:Int):(l:List Qy)->∀y∈Jt wt l,∃z∈l,y=(z.1,z.2.1,z.2.2.1,z.2.2.2+1)/\z.2.2.2+1<=wt
 | [],y,h=>by simp[Jt]at h
 |x::l,y,h=>by
  rw[Jt]at h
  by_cases hx:x.2.2.2+1<=wt
  ·rw[dt hx]at h
   rcases QRk.1 h with rfl|h
   ·exact⟨x,by simp,rfl,hx⟩
   ·obtain⟨z,hz,e⟩:=Qmj wt l y h
    exact⟨z,by simp[hz],e⟩
  ·rw[df hx]at h
   obtain⟨z,hz,e⟩:=Qmj wt l y h
   exact⟨z,by simp[hz],e⟩
theorem QzM (wt:Int):(l:List Qy)->l.Pairwise (fun y x=>Zl x y=false)->(Jt wt l).Pairwise fun y x=>Zl x y=false
 | [],_=>by simp[Jt]
 |x::l,h=>by
  rw[List.pairwise_cons]at h
  have ih:=QzM wt l h.2
  rw[Jt]
  cases decide (x.2.2.2+1<=wt)
  ·exact ih
  ·refine List.pairwise_cons.2 ⟨fun y hy=> ?_,ih⟩
   obtain⟨z,hz,rfl,_⟩:=Qmj wt l y hy
   exact h.1 z hz
theorem QwS (wt:Int):(l:List Qy)->(Jt wt l).length<=l.length
 | []=>QY1 _
 |x::l=>by
  have:=QwS wt l
  rw[Jt]
  cases decide (x.2.2.2+1<=wt)
  ·simp only[QQ2,QY8];omega
  ·simp only[QQ1,QY8];omega
def QqF (x:Qa):Qa:=(x.1,x.2.1,x.2.2.1,x.2.2.2.1,x.2.2.2.2.1,x.2.2.2.2.2.1,x.2.2.2.2.2.2.1,x.2.2.2.2.2.2.2.1,x.2.2.2.2.2.2.2.2.1,x.2.2.2.2.2.2.2.2.2.1,x.2.2.2.2.2.2.2.2.2.2.1,x.2.2.2.2.2.2.2.2.2.2.2.1,x.2.2.2.2.2.2.2.2.2.2.2.2.1,x.2.2.2.2.2.2.2.2.2.2.2.2.2.1,Jt x.2.2.2.2.2.2.2.2.2.2.2.2.2.2.2.1 x.2.2.2.2.2.2.2.2.2.2.2.2.2.2.1,x.2.2.2.2.2.2.2.2.2.2.2.2.2.2.2.1,x.2.2.2.2.2.2.2.2.2.2.2.2.2.2.2.2.1,x.2.2.2.2.2.2.2.2.2.2.2.2.2.2.2.2.2.1+1,x.2.2.2.2.2.2.2.2.2.2.2.2.2.2.2.2.2.2)
def tick (x:Qa):Qa:=bif decide (x.2.2.2.2.2.2.2.2.2.2.2.2.2.2.2.2.2.1=100000)then x else QqF x
theorem Qoo {x:Qa}(h:NOk x):NOk (tick x):=by
 unfold tick
 by_cases hc:x.2.2.2.2.2.2.2.2.2.2.2.2.2.2.2.2.2.1=100000
 ·rw[dt hc];exact h
 ·rw[df hc]
  have hck:=Q0.1 h.clock
  exact {
   n:=h.n
   id:=h.id
   st:=h.st
   tree:=h.tree
   log:=h.log
   got:=h.got
   ack:=h.ack
   own:=h.own
   heard:=h.heard
   seen:=h.seen
   num:=h.num
   clock:=by simp only[QQ2,QqF,Q0];omega
   wait:=h.wait
   limit:=h.limit
   slots:=h.slots
   room:=by
    have:=h.room
    have:=QwS x.2.2.2.2.2.2.2.2.2.2.2.2.2.2.2.1 x.2.2.2.2.2.2.2.2.2.2.2.2.2.2.1
    simp only[QQ2,QqF];omega
   sess:=by
    have hs:=(Vj _ _ _ _).1 h.sess
    refine(Vj _ _ _ _).2 ⟨fun y hy=> ?_,QzM _ _ hs.2⟩
    obtain⟨z,hz,rfl,hw⟩:=Qmj _ _ y hy
    have:=hs.1 z hz
    simp only[Y1,QQ5,Q0]at this⊢
    exact⟨this.1,by omega,hw⟩
   rlen:=h.rlen
   rises:=QRt.2 fun r hr=>by
    have:=QRt.1 h.rises r hr
    simp only[ZN,QQ5,Q0]at this
    simp only[QQ2,QqF,ZN,QQ5,Q0]
    omega}
set_option maxHeartbeats 1000000 in
theorem QIc (x:Qa) (h:NOk x):Qlk w (x.1,x.2.1,x.2.2.1,x.2.2.2.1,x.2.2.2.2.1,x.2.2.2.2.2.1,x.2.2.2.2.2.2.1,x.2.2.2.2.2.2.2.1,x.2.2.2.2.2.2.2.2.1,x.2.2.2.2.2.2.2.2.2.1,x.2.2.2.2.2.2.2.2.2.2.1,x.2.2.2.2.2.2.2.2.2.2.2.1,x.2.2.2.2.2.2.2.2.2.2.2.2.1,x.2.2.2.2.2.2.2.2.2.2.2.2.2.1,x.2.2.2.2.2.2.2.2.2.2.2.2.2.2.1,x.2.2.2.2.2.2.2.2.2.2.2.2.2.2.2.1,x.2.2.2.2.2.2.2.2.2.2.2.2.2.2.2.2.1,x.2.2.2.2.2.2.2.2.2.2.2.2.2.2.2.2.2.1,x.2.2.2.2.2.2.2.2.2.2.2.2.2.2.2.2.2.2)=some (tick x):=by
 have hsm:=Xp h
 have hk:=XC h
 have hck:=Q0.1 h.clock
 have hw:=Q0.1 h.wait
 have hs:=(Vj _ _ _ _).1 h.sess
 have hc:=Qyk h
 have hn:=okN h
 have e:=Xd x.2.2.2.2.2.2.2.2.2.2.2.2.2.2.1.length (fun i (s:List Qy)=>xn wl (x.2.2.2.2.2.2.2.2.2.2.2.2.2.2.1,((x.2.2.2.2.2.2.2.2.2.2.2.2.2.2.1.length:Nat):Int),(i:Int),x.1,x.2.1,x.2.2.1,x.2.2.2.1,x.2.2.2.2.1,x.2.2.2.2.2.1,x.2.2.2.2.2.2.1,x.2.2.2.2.2.2.2.1,x.2.2.2.2.2.2.2.2.1,x.2.2.2.2.2.2.2.2.2.1,x.2.2.2.2.2.2.2.2.2.2.1,x.2.2.2.2.2.2.2.2.2.2.2.1,x.2.2.2.2.2.2.2.2.2.2.2.2.1,x.2.2.2.2.2.2.2.2.2.2.2.2.2.1,x.2.2.2.2.2.2.2.2.2.2.2.2.2.2.1,x.2.2.2.2.2.2.2.2.2.2.2.2.2.2.2.1,x.2.2.2.2.2.2.2.2.2.2.2.2.2.2.2.2.1,x.2.2.2.2.2.2.2.2.2.2.2.2.2.2.2.2.2.1,x.2.2.2.2.2.2.2.2.2.2.2.2.2.2.2.2.2.2,x.1,x.2.1,x.2.2.1,x.2.2.2.1,x.2.2.2.2.1,x.2.2.2.2.2.1,x.2.2.2.2.2.2.1,x.2.2.2.2.2.2.2.1,x.2.2.2.2.2.2.2.2.1,x.2.2.2.2.2.2.2.2.2.1,x.2.2.2.2.2.2.2.2.2.2.1,x.2.2.2.2.2.2.2.2.2.2.2.1,x.2.2.2.2.2.2.2.2.2.2.2.2.1,x.2.2.2.2.2.2.2.2.2.2.2.2.2.1,s,x.2.2.2.2.2.2.2.2.2.2.2.2.2.2.2.1,x.2.2.2.2.2.2.2.2.2.2.2.2.2.2.2.2.1,x.2.2.2.2.2.2.2.2.2.2.2.2.2.2.2.2.2.1+1,x.2.2.2.2.2.2.2.2.2.2.2.2.2.2.2.2.2.2)) (fun i s=>(x.1,x.2.1,x.2.2.1,x.2.2.2.1,x.2.2.2.2.1,x.2.2.2.2.2.1,x.2.2.2.2.2.2.1,x.2.2.2.2.2.2.2.1,x.2.2.2.2.2.2.2.2.1,x.2.2.2.2.2.2.2.2.2.1,x.2.2.2.2.2.2.2.2.2.2.1,x.2.2.2.2.2.2.2.2.2.2.2.1,x.2.2.2.2.2.2.2.2.2.2.2.2.1,x.2.2.2.2.2.2.2.2.2.2.2.2.2.1,s++Jt x.2.2.2.2.2.2.2.2.2.2.2.2.2.2.2.1 (x.2.2.2.2.2.2.2.2.2.2.2.2.2.2.1.drop i),x.2.2.2.2.2.2.2.2.2.2.2.2.2.2.2.1,x.2.2.2.2.2.2.2.2.2.2.2.2.2.2.2.2.1,x.2.2.2.2.2.2.2.2.2.2.2.2.2.2.2.2.2.1+1,x.2.2.2.2.2.2.2.2.2.2.2.2.2.2.2.2.2.2)) (fun i s=>s.length<=i)
  (fun i hi s hs1 ih=>by
    apply QlT
    have ho:=hs.1 _ (QRf hi)
    simp only[Y1,QQ5,Q0]at ho
    simp only[QiJ,ilt hi,Qj hi,Qf hi,inc hi (show x.2.2.2.2.2.2.2.2.2.2.2.2.2.2.1.length<=maxLen by simp only[maxLen];omega),QQ1,w64 (n:=(x.2.2.2.2.2.2.2.2.2.2.2.2.2.2.1)[i].2.2.2+1) (by omega) (by omega)]
    rw[QRa hi,Jt]
    by_cases hd:(x.2.2.2.2.2.2.2.2.2.2.2.2.2.2.1)[i].2.2.2+1<=x.2.2.2.2.2.2.2.2.2.2.2.2.2.2.2.1
    ·simp only[dt hd,QQ1]
     rw[Qw (by simp;omega),QQ1,ih _ (by simp;omega)]
     simp only[QRc,QRv,QRe]
    ·simp only[df hd,QQ2]
     exact ih s (by omega))
  (fun s _=>by
    apply QlT
    simp only[QiJ,Qo,QQ2,QRl,Jt,List.append_nil]) [] (by simp)
 simp only[QQ6,QRg,QRe]at e
 apply Qy1
 simp only[Qpb,hc,hn,QQ0,QQ3,QQ2,tick,QqF]
 by_cases hm:x.2.2.2.2.2.2.2.2.2.2.2.2.2.2.2.2.2.1=100000
 ·rw[dt hm];rfl
 ·rw[df hm,w64 (n:=x.2.2.2.2.2.2.2.2.2.2.2.2.2.2.2.2.2.1+1) (by omega) (by omega)]
  simp only[QQ2,e,QQ0]
set_option maxHeartbeats 1000000 in
theorem Qy7 (x:Qa) (h:NOk x):Qf3 w (x.1,x.2.1,x.2.2.1,x.2.2.2.1,x.2.2.2.2.1,x.2.2.2.2.2.1,x.2.2.2.2.2.2.1,x.2.2.2.2.2.2.2.1,x.2.2.2.2.2.2.2.2.1,x.2.2.2.2.2.2.2.2.2.1,x.2.2.2.2.2.2.2.2.2.2.1,x.2.2.2.2.2.2.2.2.2.2.2.1,x.2.2.2.2.2.2.2.2.2.2.2.2.1,x.2.2.2.2.2.2.2.2.2.2.2.2.2.1,x.2.2.2.2.2.2.2.2.2.2.2.2.2.2.1,x.2.2.2.2.2.2.2.2.2.2.2.2.2.2.2.1,x.2.2.2.2.2.2.2.2.2.2.2.2.2.2.2.2.1,x.2.2.2.2.2.2.2.2.2.2.2.2.2.2.2.2.2.1,x.2.2.2.2.2.2.2.2.2.2.2.2.2.2.2.2.2.2)=some (tick x):=by
 have hsm:=Xp h
 have hk:=XC h
 have hck:=Q0.1 h.clock
 have hw:=Q0.1 h.wait
 have hs:=(Vj _ _ _ _).1 h.sess
 have hc:=Qky h
 have hn:=QHb h
 have e:=Xd x.2.2.2.2.2.2.2.2.2.2.2.2.2.2.1.length (fun i (s:List Qy)=>qY wl ((i:Int),x.1,x.2.1,x.2.2.1,x.2.2.2.1,x.2.2.2.2.1,x.2.2.2.2.2.1,x.2.2.2.2.2.2.1,x.2.2.2.2.2.2.2.1,x.2.2.2.2.2.2.2.2.1,x.2.2.2.2.2.2.2.2.2.1,x.2.2.2.2.2.2.2.2.2.2.1,x.2.2.2.2.2.2.2.2.2.2.2.1,x.2.2.2.2.2.2.2.2.2.2.2.2.1,x.2.2.2.2.2.2.2.2.2.2.2.2.2.1,x.2.2.2.2.2.2.2.2.2.2.2.2.2.2.1,x.2.2.2.2.2.2.2.2.2.2.2.2.2.2.2.1,x.2.2.2.2.2.2.2.2.2.2.2.2.2.2.2.2.1,x.2.2.2.2.2.2.2.2.2.2.2.2.2.2.2.2.2.1,x.2.2.2.2.2.2.2.2.2.2.2.2.2.2.2.2.2.2,x.1,x.2.1,x.2.2.1,x.2.2.2.1,x.2.2.2.2.1,x.2.2.2.2.2.1,x.2.2.2.2.2.2.1,x.2.2.2.2.2.2.2.1,x.2.2.2.2.2.2.2.2.1,x.2.2.2.2.2.2.2.2.2.1,x.2.2.2.2.2.2.2.2.2.2.1,x.2.2.2.2.2.2.2.2.2.2.2.1,x.2.2.2.2.2.2.2.2.2.2.2.2.1,x.2.2.2.2.2.2.2.2.2.2.2.2.2.1,s,x.2.2.2.2.2.2.2.2.2.2.2.2.2.2.2.1,x.2.2.2.2.2.2.2.2.2.2.2.2.2.2.2.2.1,x.2.2.2.2.2.2.2.2.2.2.2.2.2.2.2.2.2.1+1,x.2.2.2.2.2.2.2.2.2.2.2.2.2.2.2.2.2.2)) (fun i s=>(x.1,x.2.1,x.2.2.1,x.2.2.2.1,x.2.2.2.2.1,x.2.2.2.2.2.1,x.2.2.2.2.2.2.1,x.2.2.2.2.2.2.2.1,x.2.2.2.2.2.2.2.2.1,x.2.2.2.2.2.2.2.2.2.1,x.2.2.2.2.2.2.2.2.2.2.1,x.2.2.2.2.2.2.2.2.2.2.2.1,x.2.2.2.2.2.2.2.2.2.2.2.2.1,x.2.2.2.2.2.2.2.2.2.2.2.2.2.1,s++Jt x.2.2.2.2.2.2.2.2.2.2.2.2.2.2.2.1 (x.2.2.2.2.2.2.2.2.2.2.2.2.2.2.1.drop i),x.2.2.2.2.2.2.2.2.2.2.2.2.2.2.2.1,x.2.2.2.2.2.2.2.2.2.2.2.2.2.2.2.2.1,x.2.2.2.2.2.2.2.2.2.2.2.2.2.2.2.2.2.1+1,x.2.2.2.2.2.2.2.2.2.2.2.2.2.2.2.2.2.2)) (fun i s=>s.length<=i)
  (fun i hi s hs1 ih=>by
    apply Qmp
    have ho:=hs.1 _ (QRf hi)
    simp only[Y1,QQ5,Q0]at ho
    simp only[Qkg,ilt hi,Qj hi,Qf hi,inc hi (show x.2.2.2.2.2.2.2.2.2.2.2.2.2.2.1.length<=maxLen by simp only[maxLen];omega),QQ1,w64 (n:=(x.2.2.2.2.2.2.2.2.2.2.2.2.2.2.1)[i].2.2.2+1) (by omega) (by omega)]
    rw[QRa hi,Jt]
    by_cases hd:(x.2.2.2.2.2.2.2.2.2.2.2.2.2.2.1)[i].2.2.2+1<=x.2.2.2.2.2.2.2.2.2.2.2.2.2.2.2.1
    ·simp only[dt hd,QQ1]
     rw[Qw (by simp;omega),QQ1,ih _ (by simp;omega)]
     simp only[QRc,QRv,QRe]
    ·simp only[df hd,QQ2]
     exact ih s (by omega))
  (fun s _=>by
    apply Qmp
    simp only[Qkg,Qo,QQ2,QRl,Jt,List.append_nil]) [] (by simp)
 simp only[QQ6,QRg,QRe]at e
 apply QAA
 simp only[Qo6,hc,hn,QQ0,QQ3,QQ2,tick,QqF]
 by_cases hm:x.2.2.2.2.2.2.2.2.2.2.2.2.2.2.2.2.2.1=100000
 ·rw[dt hm];rfl
 ·rw[df hm,w64 (n:=x.2.2.2.2.2.2.2.2.2.2.2.2.2.2.2.2.2.1+1) (by omega) (by omega)]
  simp only[QQ2,e,QQ0]
def QNI (x:Qa) (s:Qk):Qa:=(x.1,x.2.1,x.2.2.1,x.2.2.2.1,x.2.2.2.2.1,x.2.2.2.2.2.1,(QAs (x.2.2.2.2.2.2.1,x.2.2.2.2.2.2.2.1,x.2.2.2.2.2.2.2.2.1) s).1,(QAs (x.2.2.2.2.2.2.1,x.2.2.2.2.2.2.2.1,x.2.2.2.2.2.2.2.2.1) s).2.1,(QAs (x.2.2.2.2.2.2.1,x.2.2.2.2.2.2.2.1,x.2.2.2.2.2.2.2.2.1) s).2.2,x.2.2.2.2.2.2.2.2.2.1.set (x.1).toNat (rd1 0 x.2.2.2.2.2.2.2.2.2.1 x.1+1),x.2.2.2.2.2.2.2.2.2.2.1,x.2.2.2.2.2.2.2.2.2.2.2.1,x.2.2.2.2.2.2.2.2.2.2.2.2.1,x.2.2.2.2.2.2.2.2.2.2.2.2.2.1,x.2.2.2.2.2.2.2.2.2.2.2.2.2.2.1,x.2.2.2.2.2.2.2.2.2.2.2.2.2.2.2.1,x.2.2.2.2.2.2.2.2.2.2.2.2.2.2.2.2.1,x.2.2.2.2.2.2.2.2.2.2.2.2.2.2.2.2.2.1,x.2.2.2.2.2.2.2.2.2.2.2.2.2.2.2.2.2.2)
def Qva (x:Qa) (id:Int):Int:=bif inR id 0 (x.2.1 - 1)&&decide (id=x.1)then(bif decide ((QaD (x.2.2.1,x.2.2.2.1) id).2.2=0)then(bif decide (x.2.2.2.2.2.2.2.1+((x.2.2.2.2.2.2.2.2.1.length:Nat):Int)=100000)then 4 else 0)else(QaD (x.2.2.1,x.2.2.2.1) id).2.2)else 1
def QIx (x:Qa) (id:Int):Qa:=bif decide (Qva x id=0)then(take (QNI x ((QaD (x.2.2.1,x.2.2.2.1) id).1,(QaD (x.2.2.1,x.2.2.2.1) id).2.1)) ((QaD (x.2.2.1,x.2.2.2.1) id).1,(QaD (x.2.2.1,x.2.2.2.1) id).2.1))else x
def QIk (x:Qa) (id:Int):Qk:=bif decide (Qva x id=0)then((QaD (x.2.2.1,x.2.2.2.1) id).1,(QaD (x.2.2.1,x.2.2.2.1) id).2.1)else([],[])
theorem Qz8 (l:List QV):rd1 QL l 0=l.headD QL:=by cases l<;>rfl
theorem Qzd (l:List QV):inb 0 l.length= !l.isEmpty:=by cases l<;>simp[inb]
theorem QAp (l:List QV):decide (((l.length:Nat):Int)=0)=l.isEmpty:=by
 cases l
 ·rfl
 ·simp;omega
def Qme (ns:List Qa) (k:Nat) (r:Qa×List QV×Int):Int×Int×Int×Int×Int×(List Int)×Int×(List Int)×(List Int)×(List Qg)×(List Qb)×(List Qb)×Bool×Bool×(List Qa):=((r.2.1.headD QL).1,(r.2.1.headD QL).2.1,(r.2.1.headD QL).2.2.1,(r.2.1.headD QL).2.2.2.1,(r.2.1.headD QL).2.2.2.2.1,(r.2.1.headD QL).2.2.2.2.2.1,(r.2.1.headD QL).2.2.2.2.2.2.1,(r.2.1.headD QL).2.2.2.2.2.2.2.1,(r.2.1.headD QL).2.2.2.2.2.2.2.2.1,(r.2.1.headD QL).2.2.2.2.2.2.2.2.2.1,(r.2.1.headD QL).2.2.2.2.2.2.2.2.2.2.1,(r.2.1.headD QL).2.2.2.2.2.2.2.2.2.2.2,decide (r.2.2=0), !r.2.1.isEmpty,ns.set k r.1)
theorem Qvp (ns:List Qa) (net:List Qm) (sd:List Qn) (m:QV) (k:Nat) (hk:k<ns.length) (hm2:m.2.2.1=(k:Int)) (x:Qa) (hx:ns[k]=x) (h:NOk x) (hm:Qmr m):
 JF w (ns,net,sd,m.1,m.2.1,m.2.2.1,m.2.2.2.1,m.2.2.2.2.1,m.2.2.2.2.2.1,m.2.2.2.2.2.2.1,m.2.2.2.2.2.2.2.1,m.2.2.2.2.2.2.2.2.1,m.2.2.2.2.2.2.2.2.2.1,m.2.2.2.2.2.2.2.2.2.2.1,m.2.2.2.2.2.2.2.2.2.2.2)=some (Qme ns k (rcv x m)):=by
 have hr:=QC6 x h m hm
 apply Qzv
 simp only[Qo7,hm2,Qj hk,Qf hk,hx,QQ1,QRb]
 rw[hm2]at hr
 rw[hr]
 simp only[QQ0,flat,QAp,Qzd,Qz8,show(decide ((0:Int)=0)&&Nat.blt 5 7)=true from rfl,show(decide ((0:Int)=0)&&Nat.blt 7 8)=true from rfl,show(decide ((0:Int)=0)&&Nat.blt 8 9)=true from rfl,show(decide ((0:Int)=0)&&Nat.blt 9 10)=true from rfl,show(decide ((0:Int)=0)&&Nat.blt 10 11)=true from rfl,QQ1,Qme]
 cases(rcv x m).2.1<;>rfl
def Xb (x:Qa) (to:Int):QV:=((msg x 2 to (x.2.2.2.2.2.2.2.2.2.2.2.2.1+1)).1,(msg x 2 to (x.2.2.2.2.2.2.2.2.2.2.2.2.1+1)).2.1,(msg x 2 to (x.2.2.2.2.2.2.2.2.2.2.2.2.1+1)).2.2.1,(msg x 2 to (x.2.2.2.2.2.2.2.2.2.2.2.2.1+1)).2.2.2.1,(msg x 2 to (x.2.2.2.2.2.2.2.2.2.2.2.2.1+1)).2.2.2.2.1,x.2.2.2.2.1,x.2.2.2.2.2.1,(msg x 2 to (x.2.2.2.2.2.2.2.2.2.2.2.2.1+1)).2.2.2.2.2.2.2.1,(msg x 2 to (x.2.2.2.2.2.2.2.2.2.2.2.2.1+1)).2.2.2.2.2.2.2.2.1,(msg x 2 to (x.2.2.2.2.2.2.2.2.2.2.2.2.1+1)).2.2.2.2.2.2.2.2.2.1,(msg x 2 to (x.2.2.2.2.2.2.2.2.2.2.2.2.1+1)).2.2.2.2.2.2.2.2.2.2.1,(msg x 2 to (x.2.2.2.2.2.2.2.2.2.2.2.2.1+1)).2.2.2.2.2.2.2.2.2.2.2)
theorem QBU {x:Qa}(h:NOk x) (to:Int):Qmr (Xb x to):=by
 have h1:=XC h
 have h2:=QaE (jo (x.2.2.1,x.2.2.2.1))
 have h3:=Qye h
 exact Qyn ⟨by simp only[Xb];omega,by simp only[Xb,msg];omega,by simp[Xb,msg],by simp[Xb,msg],by simp[Xb,msg],by simp only[Xb,msg];omega⟩
theorem QKF (x:Qa) (h:NOk x) (to:Int):QkG w (x.1,x.2.1,x.2.2.1,x.2.2.2.1,x.2.2.2.2.1,x.2.2.2.2.2.1,x.2.2.2.2.2.2.1,x.2.2.2.2.2.2.2.1,x.2.2.2.2.2.2.2.2.1,x.2.2.2.2.2.2.2.2.2.1,x.2.2.2.2.2.2.2.2.2.2.1,x.2.2.2.2.2.2.2.2.2.2.2.1,x.2.2.2.2.2.2.2.2.2.2.2.2.1,x.2.2.2.2.2.2.2.2.2.2.2.2.2.1,x.2.2.2.2.2.2.2.2.2.2.2.2.2.2.1,x.2.2.2.2.2.2.2.2.2.2.2.2.2.2.2.1,x.2.2.2.2.2.2.2.2.2.2.2.2.2.2.2.2.1,x.2.2.2.2.2.2.2.2.2.2.2.2.2.2.2.2.2.1,x.2.2.2.2.2.2.2.2.2.2.2.2.2.2.2.2.2.2,to)=some (bif YV x to then((QI x to).1,(QI x to).2.1,(QI x to).2.2.1,(QI x to).2.2.2.1,(QI x to).2.2.2.2.1,(QI x to).2.2.2.2.2.1,(QI x to).2.2.2.2.2.2.1,(QI x to).2.2.2.2.2.2.2.1,(QI x to).2.2.2.2.2.2.2.2.1,(QI x to).2.2.2.2.2.2.2.2.2.1,(QI x to).2.2.2.2.2.2.2.2.2.2.1,(QI x to).2.2.2.2.2.2.2.2.2.2.2.1,(QI x to).2.2.2.2.2.2.2.2.2.2.2.2.1,(QI x to).2.2.2.2.2.2.2.2.2.2.2.2.2.1,(QI x to).2.2.2.2.2.2.2.2.2.2.2.2.2.2.1,(QI x to).2.2.2.2.2.2.2.2.2.2.2.2.2.2.2.1,(QI x to).2.2.2.2.2.2.2.2.2.2.2.2.2.2.2.2.1,(QI x to).2.2.2.2.2.2.2.2.2.2.2.2.2.2.2.2.2.1,(QI x to).2.2.2.2.2.2.2.2.2.2.2.2.2.2.2.2.2.2,(Xb x to).1,(Xb x to).2.1,(Xb x to).2.2.1,(Xb x to).2.2.2.1,(Xb x to).2.2.2.2.1,(Xb x to).2.2.2.2.2.1,(Xb x to).2.2.2.2.2.2.1,(Xb x to).2.2.2.2.2.2.2.1,(Xb x to).2.2.2.2.2.2.2.2.1,(Xb x to).2.2.2.2.2.2.2.2.2.1,(Xb x to).2.2.2.2.2.2.2.2.2.2.1,(Xb x to).2.2.2.2.2.2.2.2.2.2.2,true)else(x.1,x.2.1,x.2.2.1,x.2.2.2.1,x.2.2.2.2.1,x.2.2.2.2.2.1,x.2.2.2.2.2.2.1,x.2.2.2.2.2.2.2.1,x.2.2.2.2.2.2.2.2.1,x.2.2.2.2.2.2.2.2.2.1,x.2.2.2.2.2.2.2.2.2.2.1,x.2.2.2.2.2.2.2.2.2.2.2.1,x.2.2.2.2.2.2.2.2.2.2.2.2.1,x.2.2.2.2.2.2.2.2.2.2.2.2.2.1,x.2.2.2.2.2.2.2.2.2.2.2.2.2.2.1,x.2.2.2.2.2.2.2.2.2.2.2.2.2.2.2.1,x.2.2.2.2.2.2.2.2.2.2.2.2.2.2.2.2.1,x.2.2.2.2.2.2.2.2.2.2.2.2.2.2.2.2.2.1,x.2.2.2.2.2.2.2.2.2.2.2.2.2.2.2.2.2.2,0,0,0,0,0,[],0,[],[],[],[],[],false)):=QJe x h to
theorem QJc (x:Qa) (h:NOk x) (to:Int):QkF w (x.1,x.2.1,x.2.2.1,x.2.2.2.1,x.2.2.2.2.1,x.2.2.2.2.2.1,x.2.2.2.2.2.2.1,x.2.2.2.2.2.2.2.1,x.2.2.2.2.2.2.2.2.1,x.2.2.2.2.2.2.2.2.2.1,x.2.2.2.2.2.2.2.2.2.2.1,x.2.2.2.2.2.2.2.2.2.2.2.1,x.2.2.2.2.2.2.2.2.2.2.2.2.1,x.2.2.2.2.2.2.2.2.2.2.2.2.2.1,x.2.2.2.2.2.2.2.2.2.2.2.2.2.2.1,x.2.2.2.2.2.2.2.2.2.2.2.2.2.2.2.1,x.2.2.2.2.2.2.2.2.2.2.2.2.2.2.2.2.1,x.2.2.2.2.2.2.2.2.2.2.2.2.2.2.2.2.2.1,x.2.2.2.2.2.2.2.2.2.2.2.2.2.2.2.2.2.2,to)=some (bif YV x to then((QI x to).1,(QI x to).2.1,(QI x to).2.2.1,(QI x to).2.2.2.1,(QI x to).2.2.2.2.1,(QI x to).2.2.2.2.2.1,(QI x to).2.2.2.2.2.2.1,(QI x to).2.2.2.2.2.2.2.1,(QI x to).2.2.2.2.2.2.2.2.1,(QI x to).2.2.2.2.2.2.2.2.2.1,(QI x to).2.2.2.2.2.2.2.2.2.2.1,(QI x to).2.2.2.2.2.2.2.2.2.2.2.1,(QI x to).2.2.2.2.2.2.2.2.2.2.2.2.1,(QI x to).2.2.2.2.2.2.2.2.2.2.2.2.2.1,(QI x to).2.2.2.2.2.2.2.2.2.2.2.2.2.2.1,(QI x to).2.2.2.2.2.2.2.2.2.2.2.2.2.2.2.1,(QI x to).2.2.2.2.2.2.2.2.2.2.2.2.2.2.2.2.1,(QI x to).2.2.2.2.2.2.2.2.2.2.2.2.2.2.2.2.2.1,(QI x to).2.2.2.2.2.2.2.2.2.2.2.2.2.2.2.2.2.2,(Xb x to).1,(Xb x to).2.1,(Xb x to).2.2.1,(Xb x to).2.2.2.1,(Xb x to).2.2.2.2.1,(Xb x to).2.2.2.2.2.1,(Xb x to).2.2.2.2.2.2.1,(Xb x to).2.2.2.2.2.2.2.1,(Xb x to).2.2.2.2.2.2.2.2.1,(Xb x to).2.2.2.2.2.2.2.2.2.1,(Xb x to).2.2.2.2.2.2.2.2.2.2.1,(Xb x to).2.2.2.2.2.2.2.2.2.2.2,true)else(x.1,x.2.1,x.2.2.1,x.2.2.2.1,x.2.2.2.2.1,x.2.2.2.2.2.1,x.2.2.2.2.2.2.1,x.2.2.2.2.2.2.2.1,x.2.2.2.2.2.2.2.2.1,x.2.2.2.2.2.2.2.2.2.1,x.2.2.2.2.2.2.2.2.2.2.1,x.2.2.2.2.2.2.2.2.2.2.2.1,x.2.2.2.2.2.2.2.2.2.2.2.2.1,x.2.2.2.2.2.2.2.2.2.2.2.2.2.1,x.2.2.2.2.2.2.2.2.2.2.2.2.2.2.1,x.2.2.2.2.2.2.2.2.2.2.2.2.2.2.2.1,x.2.2.2.2.2.2.2.2.2.2.2.2.2.2.2.2.1,x.2.2.2.2.2.2.2.2.2.2.2.2.2.2.2.2.2.1,x.2.2.2.2.2.2.2.2.2.2.2.2.2.2.2.2.2.2,0,0,0,0,0,[],0,[],[],[],[],[],false)):=QIr x h to
def Qyr (n:Qa) (r1 r2:Qa×List QV×Int):Option (Qa×Qa):=bif decide (r2.2.2=0)then(bif r2.2.1.isEmpty then none else(bif decide ((rcv r1.1 (r2.2.1.headD QL)).2.2=0)then some (r2.1,(rcv r1.1 (r2.2.1.headD QL)).1)else none))else none
def Qx8 (n:Qa) (r1:Qa×List QV×Int):Option (Qa×Qa):=bif decide (r1.2.2=0)then(bif r1.2.1.isEmpty then none else Qyr n r1 (rcv n (r1.2.1.headD QL)))else none
def talk (x y:Qa) (q:Int):Option (Qa×Qa):=bif YV x q then Qx8 (QI x q) (rcv y (Xb x q))else none
def QHm (ns:List Qa) (p q:Nat):Option (Qa×Qa)->List Qa×Bool
 |none=>(ns,false)
 |some r=>((ns.set p r.1).set q r.2,true)
def exch (ns:List Qa) (net:List Qm) (sd:List Qn) (p q:Int):List Qa×Bool:=bif two ns net sd p q then QHm ns p.toNat q.toNat (talk (nodeAt ns p) (nodeAt ns q) q)else(ns,false)
theorem head_mem {l:List QV}(h:l.isEmpty=false):l.headD QL∈l:=by
 cases l with
 |nil=>cases h
 |cons a l=>simp
theorem QGm {x y:Qa}(hx:NOk x) (hy:NOk y) {q:Int}{r:Qa×Qa}(h:talk x y q=some r):NOk r.1/\NOk r.2:=by
 unfold talk Qx8 Qyr at h
 cases hc:YV x q
 ·rw[hc]at h;cases h
 ·rw[hc]at h
  have k1:=Qd2 hy (Xb x q)
  generalize rcv y (Xb x q)=r1 at h k1
  have k2:=Qd2 (Qiv hx hc) (r1.2.1.headD QL)
  generalize rcv (QI x q) (r1.2.1.headD QL)=r2 at h k2
  have k3:=Qd2 k1 (r2.2.1.headD QL)
  generalize rcv r1.1 (r2.2.1.headD QL)=r3 at h k3
  simp only[QQ1]at h
  cases h1:decide (r1.2.2=0)<;>rw[h1]at h<;>simp only[QQ1,QQ2]at h
  ·cases h
  ·cases h2:r1.2.1.isEmpty<;>rw[h2]at h<;>simp only[QQ1,QQ2]at h
   ·cases h3:decide (r2.2.2=0)<;>rw[h3]at h<;>simp only[QQ1,QQ2]at h
    ·cases h
    ·cases h4:r2.2.1.isEmpty<;>rw[h4]at h<;>simp only[QQ1,QQ2]at h
     ·cases h5:decide (r3.2.2=0)<;>rw[h5]at h<;>simp only[QQ1,QQ2]at h
      ·cases h
      ·obtain rfl:=QY12 h
       exact⟨k2,k3⟩
     ·cases h
   ·cases h
theorem QmW {ns:List Qa}{net:List Qm}{sd:List Qn}(h:WOk ns net sd) {i:Nat}(hi:i<ns.length):NOk ns[i]:=nok (h.node hi).1
theorem QM1 {α:Type}{l:List α}{i j:Nat}(hij:i≠j) (a b c e:α):(((l.set i a).set j b).set i c).set j e=(l.set i c).set j e:=by
 rw[List.set_comm _ _ (show j≠i from fun h=>hij h.symm),QY11,QY11]
theorem QB6 {ns:List Qa}{net:List Qm}{sd:List Qn}{p q:Int}(h:two ns net sd p q=true):Zf ns net sd=true/\inR p 0 ((ns.length:Nat) - 1)=true/\inR q 0 ((ns.length:Nat) - 1)=true/\p≠q:=by
 simp only[two,QQ5,QY10,decide_eq_false_iff_not]at h
 exact⟨h.1,h.2.1,h.2.2.1,h.2.2.2⟩
set_option maxHeartbeats 4000000 in
theorem QA2 (ns:List Qa) (net:List Qm) (sd:List Qn) (p q:Int) (h:Q6 (ns,net,sd)<=4294967296) (hs:smW ns net sd):vS w (ns,net,sd,p,q)=some ((exch ns net sd p q).1,net,sd,(exch ns net sd p q).2):=by
 apply QrQ
 have hcw:=Qjo ns net sd h
 simp only[QhA,hcw,Qn2 ns net sd hs,Qn5 _ _ _ _ hs.1,QQ0]
 cases hw:Zf ns net sd
 ·simp only[exch,two,hw,QRm,QQ2];rfl
 ·cases hp:inR p 0 ((ns.length:Nat) - 1)
  ·simp only[exch,two,hw,hp,QRm,QRd,QQ2];rfl
  ·cases hq:inR q 0 ((ns.length:Nat) - 1)
   ·simp only[exch,two,hw,hp,hq,QRm,QRd,QQ2];rfl
   ·by_cases hpq:p=q
    ·simp only[exch,two,hw,hp,hq,dt hpq,QQ3,QRm,QRd,QQ2,QQ1]
    ·have h2:two ns net sd p q=true:=by simp only[two,hw,hp,hq,df hpq];rfl
     have wk:=yx hw
     obtain⟨i,rfl,hi⟩:=YK hp
     obtain⟨j,rfl,hj⟩:=YK hq
     have hij:i≠j:=fun e=>hpq (by rw[e])
     have hx:=QmW wk hi
     have hy:=QmW wk hj
     have hxi:=(wk.node hi).2.2
     have hyj:=(wk.node hj).2.2
     simp only[exch,h2,jA hi,jA hj,df hpq,QQ3,QQ1,QQ2,QRb,Qj hi,Qf hi]
     have hS:=QKF ns[i] hx (j:Int)
     obtain⟨x,hgx⟩:∃x,ns[i]=x:=⟨_,rfl⟩
     obtain⟨y,hgy⟩:∃y,ns[j]=y:=⟨_,rfl⟩
     rw[hgx]at hS hx hxi⊢
     rw[hgy]at hy hyj⊢
     rw[hS]
     unfold talk
     cases hc:YV x (j:Int)
     ·rfl
     ·simp only[QQ1,QQ0,QQ3,QQ2]
      have hm:=QBU hx (j:Int)
      have hsn:=Qiv hx hc
      have g1:j<(ns.set i (QI x (j:Int))).length:=by simpa using hj
      have g1':(ns.set i (QI x (j:Int)))[j]=y:=by rw[List.getElem_set_ne hij];exact hgy
      have H1:JF w (ns.set i ((QI x (j:Int)).1,(QI x (j:Int)).2.1,(QI x (j:Int)).2.2.1,(QI x (j:Int)).2.2.2.1,(QI x (j:Int)).2.2.2.2.1,(QI x (j:Int)).2.2.2.2.2.1,(QI x (j:Int)).2.2.2.2.2.2.1,(QI x (j:Int)).2.2.2.2.2.2.2.1,(QI x (j:Int)).2.2.2.2.2.2.2.2.1,(QI x (j:Int)).2.2.2.2.2.2.2.2.2.1,(QI x (j:Int)).2.2.2.2.2.2.2.2.2.2.1,(QI x (j:Int)).2.2.2.2.2.2.2.2.2.2.2.1,(QI x (j:Int)).2.2.2.2.2.2.2.2.2.2.2.2.1,(QI x (j:Int)).2.2.2.2.2.2.2.2.2.2.2.2.2.1,(QI x (j:Int)).2.2.2.2.2.2.2.2.2.2.2.2.2.2.1,(QI x (j:Int)).2.2.2.2.2.2.2.2.2.2.2.2.2.2.2.1,(QI x (j:Int)).2.2.2.2.2.2.2.2.2.2.2.2.2.2.2.2.1,(QI x (j:Int)).2.2.2.2.2.2.2.2.2.2.2.2.2.2.2.2.2.1,(QI x (j:Int)).2.2.2.2.2.2.2.2.2.2.2.2.2.2.2.2.2.2),net,sd,(Xb x (j:Int)).1,(Xb x (j:Int)).2.1,(Xb x (j:Int)).2.2.1,(Xb x (j:Int)).2.2.2.1,(Xb x (j:Int)).2.2.2.2.1,(Xb x (j:Int)).2.2.2.2.2.1,(Xb x (j:Int)).2.2.2.2.2.2.1,(Xb x (j:Int)).2.2.2.2.2.2.2.1,(Xb x (j:Int)).2.2.2.2.2.2.2.2.1,(Xb x (j:Int)).2.2.2.2.2.2.2.2.2.1,(Xb x (j:Int)).2.2.2.2.2.2.2.2.2.2.1,(Xb x (j:Int)).2.2.2.2.2.2.2.2.2.2.2)=some (Qme (ns.set i (QI x (j:Int))) j (rcv y (Xb x (j:Int)))):=Qvp (ns.set i (QI x (j:Int))) net sd (Xb x (j:Int)) j g1 rfl y g1' hy hm
      have R1:=Qd2 hy (Xb x (j:Int))
      have Q1:=Qqt hy (Xb x (j:Int))
      rw[H1]
      obtain⟨r1,hr1⟩:∃r,rcv y (Xb x (j:Int))=r:=⟨_,rfl⟩
      rw[hr1]at R1 Q1⊢
      unfold Qx8
      simp only[QQ0,Qme]
      cases decide (r1.2.2=0)
      ·rfl
      ·simp only[QQ3,QQ2,QQ1]
       cases he1:r1.2.1.isEmpty
       ·simp only[QQ4,QQ3,QQ2,QQ1]
        obtain⟨ha1,ha2,ha3⟩:=Q1 _ (head_mem he1)
        have g2:i<((ns.set i (QI x (j:Int))).set j r1.1).length:=by simpa using hi
        have g2':((ns.set i (QI x (j:Int))).set j r1.1)[i]=(QI x (j:Int)):=by rw[List.getElem_set_ne (fun e=>hij e.symm),List.getElem_set_self]
        have H2:JF w ((ns.set i (QI x (j:Int))).set j r1.1,net,sd,(r1.2.1.headD QL).1,(r1.2.1.headD QL).2.1,(r1.2.1.headD QL).2.2.1,(r1.2.1.headD QL).2.2.2.1,(r1.2.1.headD QL).2.2.2.2.1,(r1.2.1.headD QL).2.2.2.2.2.1,(r1.2.1.headD QL).2.2.2.2.2.2.1,(r1.2.1.headD QL).2.2.2.2.2.2.2.1,(r1.2.1.headD QL).2.2.2.2.2.2.2.2.1,(r1.2.1.headD QL).2.2.2.2.2.2.2.2.2.1,(r1.2.1.headD QL).2.2.2.2.2.2.2.2.2.2.1,(r1.2.1.headD QL).2.2.2.2.2.2.2.2.2.2.2)=some (Qme ((ns.set i (QI x (j:Int))).set j r1.1) i (rcv (QI x (j:Int)) (r1.2.1.headD QL))):=Qvp ((ns.set i (QI x (j:Int))).set j r1.1) net sd (r1.2.1.headD QL) i g2 (ha2.trans hxi) (QI x (j:Int)) g2' hsn ha1
        have R2:=Qd2 hsn (r1.2.1.headD QL)
        have Q2:=Qqt hsn (r1.2.1.headD QL)
        rw[H2]
        obtain⟨r2,hr2⟩:∃r,rcv (QI x (j:Int)) (r1.2.1.headD QL)=r:=⟨_,rfl⟩
        rw[hr2]at R2 Q2⊢
        unfold Qyr
        simp only[QQ0,Qme]
        cases decide (r2.2.2=0)
        ·rfl
        ·simp only[QQ3,QQ2,QQ1]
         cases he2:r2.2.1.isEmpty
         ·simp only[QQ4,QQ3,QQ2,QQ1]
          obtain⟨hb1,hb2,hb3⟩:=Q2 _ (head_mem he2)
          have g3:j<(((ns.set i (QI x (j:Int))).set j r1.1).set i r2.1).length:=by simpa using hj
          have g3':(((ns.set i (QI x (j:Int))).set j r1.1).set i r2.1)[j]=r1.1:=by rw[List.getElem_set_ne hij,List.getElem_set_self]
          have H3:JF w (((ns.set i (QI x (j:Int))).set j r1.1).set i r2.1,net,sd,(r2.2.1.headD QL).1,(r2.2.1.headD QL).2.1,(r2.2.1.headD QL).2.2.1,(r2.2.1.headD QL).2.2.2.1,(r2.2.1.headD QL).2.2.2.2.1,(r2.2.1.headD QL).2.2.2.2.2.1,(r2.2.1.headD QL).2.2.2.2.2.2.1,(r2.2.1.headD QL).2.2.2.2.2.2.2.1,(r2.2.1.headD QL).2.2.2.2.2.2.2.2.1,(r2.2.1.headD QL).2.2.2.2.2.2.2.2.2.1,(r2.2.1.headD QL).2.2.2.2.2.2.2.2.2.2.1,(r2.2.1.headD QL).2.2.2.2.2.2.2.2.2.2.2)=some (Qme (((ns.set i (QI x (j:Int))).set j r1.1).set i r2.1) j (rcv r1.1 (r2.2.1.headD QL))):=Qvp (((ns.set i (QI x (j:Int))).set j r1.1).set i r2.1) net sd (r2.2.1.headD QL) j g3 (hb2.trans (ha3.trans hyj)) r1.1 g3' R1 hb1
          rw[H3]
          have hset:=QM1 (l:=ns) hij (QI x (j:Int)) r1.1 r2.1 (rcv r1.1 (r2.2.1.headD QL)).1
          simp only[QQ0,Qme]
          rw[hset]
          cases decide ((rcv r1.1 (r2.2.1.headD QL)).2.2=0)<;>rfl
         ·rfl
       ·rfl
set_option maxHeartbeats 4000000 in
theorem QzU (ns:List Qa) (net:List Qm) (sd:List Qn) (p q:Int) (h:Q6 (ns,net,sd)<=4294967296) (hs:smW ns net sd):vE w (ns,net,sd,p,q)=some ((exch ns net sd p q).1,net,sd,(exch ns net sd p q).2):=by
 apply Qsf
 have hcw:=QoV ns net sd h
 simp only[Qhv,hcw,QEn ns net sd p q hs,QQ0]
 cases h2:two ns net sd p q
 ·simp only[exch,h2,QQ2];rfl
 ·obtain⟨hw,hp,hq,hpq⟩:=QB6 h2
  have wk:=yx hw
  obtain⟨i,rfl,hi⟩:=YK hp
  obtain⟨j,rfl,hj⟩:=YK hq
  have hx:=QmW wk hi
  have hy:=QmW wk hj
  simp only[exch,h2,jA hi,jA hj,QQ3,QQ1,QQ2,QRb,Qj hi,Qf hi,Qj hj,Qf hj,QY6,QAp,Qzd,Qz8]
  have hS:=QJc ns[i] hx (j:Int)
  obtain⟨x,hgx⟩:∃x,ns[i]=x:=⟨_,rfl⟩
  obtain⟨y,hgy⟩:∃y,ns[j]=y:=⟨_,rfl⟩
  rw[hgx]at hS hx⊢
  rw[hgy]at hy⊢
  rw[hS]
  unfold talk
  cases hc:YV x (j:Int)
  ·rfl
  ·simp only[QQ1,QQ0,QQ3,QQ2]
   have hm:=QBU hx (j:Int)
   have hsn:=Qiv hx hc
   have H1:Yl w (y.1,y.2.1,y.2.2.1,y.2.2.2.1,y.2.2.2.2.1,y.2.2.2.2.2.1,y.2.2.2.2.2.2.1,y.2.2.2.2.2.2.2.1,y.2.2.2.2.2.2.2.2.1,y.2.2.2.2.2.2.2.2.2.1,y.2.2.2.2.2.2.2.2.2.2.1,y.2.2.2.2.2.2.2.2.2.2.2.1,y.2.2.2.2.2.2.2.2.2.2.2.2.1,y.2.2.2.2.2.2.2.2.2.2.2.2.2.1,y.2.2.2.2.2.2.2.2.2.2.2.2.2.2.1,y.2.2.2.2.2.2.2.2.2.2.2.2.2.2.2.1,y.2.2.2.2.2.2.2.2.2.2.2.2.2.2.2.2.1,y.2.2.2.2.2.2.2.2.2.2.2.2.2.2.2.2.2.1,y.2.2.2.2.2.2.2.2.2.2.2.2.2.2.2.2.2.2,(Xb x (j:Int)).1,(Xb x (j:Int)).2.1,(Xb x (j:Int)).2.2.1,(Xb x (j:Int)).2.2.2.1,(Xb x (j:Int)).2.2.2.2.1,(Xb x (j:Int)).2.2.2.2.2.1,(Xb x (j:Int)).2.2.2.2.2.2.1,(Xb x (j:Int)).2.2.2.2.2.2.2.1,(Xb x (j:Int)).2.2.2.2.2.2.2.2.1,(Xb x (j:Int)).2.2.2.2.2.2.2.2.2.1,(Xb x (j:Int)).2.2.2.2.2.2.2.2.2.2.1,(Xb x (j:Int)).2.2.2.2.2.2.2.2.2.2.2)=some (flat (rcv y (Xb x (j:Int)))):=QmS y hy (Xb x (j:Int)) hm
   have R1:=Qd2 hy (Xb x (j:Int))
   have Q1:=Qqt hy (Xb x (j:Int))
   rw[H1]
   obtain⟨r1,hr1⟩:∃r,rcv y (Xb x (j:Int))=r:=⟨_,rfl⟩
   rw[hr1]at R1 Q1⊢
   unfold Qx8
   simp only[QQ0,flat]
   cases decide (r1.2.2=0)
   ·rfl
   ·simp only[QQ3,QQ2,QQ1]
    cases he1:r1.2.1.isEmpty
    ·simp only[QQ4,QQ3,QQ2,QQ1]
     obtain⟨ha1,ha2,ha3⟩:=Q1 _ (head_mem he1)
     have H2:Yl w ((QI x (j:Int)).1,(QI x (j:Int)).2.1,(QI x (j:Int)).2.2.1,(QI x (j:Int)).2.2.2.1,(QI x (j:Int)).2.2.2.2.1,(QI x (j:Int)).2.2.2.2.2.1,(QI x (j:Int)).2.2.2.2.2.2.1,(QI x (j:Int)).2.2.2.2.2.2.2.1,(QI x (j:Int)).2.2.2.2.2.2.2.2.1,(QI x (j:Int)).2.2.2.2.2.2.2.2.2.1,(QI x (j:Int)).2.2.2.2.2.2.2.2.2.2.1,(QI x (j:Int)).2.2.2.2.2.2.2.2.2.2.2.1,(QI x (j:Int)).2.2.2.2.2.2.2.2.2.2.2.2.1,(QI x (j:Int)).2.2.2.2.2.2.2.2.2.2.2.2.2.1,(QI x (j:Int)).2.2.2.2.2.2.2.2.2.2.2.2.2.2.1,(QI x (j:Int)).2.2.2.2.2.2.2.2.2.2.2.2.2.2.2.1,(QI x (j:Int)).2.2.2.2.2.2.2.2.2.2.2.2.2.2.2.2.1,(QI x (j:Int)).2.2.2.2.2.2.2.2.2.2.2.2.2.2.2.2.2.1,(QI x (j:Int)).2.2.2.2.2.2.2.2.2.2.2.2.2.2.2.2.2.2,(r1.2.1.headD QL).1,(r1.2.1.headD QL).2.1,(r1.2.1.headD QL).2.2.1,(r1.2.1.headD QL).2.2.2.1,(r1.2.1.headD QL).2.2.2.2.1,(r1.2.1.headD QL).2.2.2.2.2.1,(r1.2.1.headD QL).2.2.2.2.2.2.1,(r1.2.1.headD QL).2.2.2.2.2.2.2.1,(r1.2.1.headD QL).2.2.2.2.2.2.2.2.1,(r1.2.1.headD QL).2.2.2.2.2.2.2.2.2.1,(r1.2.1.headD QL).2.2.2.2.2.2.2.2.2.2.1,(r1.2.1.headD QL).2.2.2.2.2.2.2.2.2.2.2)=some (flat (rcv (QI x (j:Int)) (r1.2.1.headD QL))):=QmS (QI x (j:Int)) hsn (r1.2.1.headD QL) ha1
     have R2:=Qd2 hsn (r1.2.1.headD QL)
     have Q2:=Qqt hsn (r1.2.1.headD QL)
     rw[H2]
     obtain⟨r2,hr2⟩:∃r,rcv (QI x (j:Int)) (r1.2.1.headD QL)=r:=⟨_,rfl⟩
     rw[hr2]at R2 Q2⊢
     unfold Qyr
     simp only[QQ0,flat]
     cases decide (r2.2.2=0)
     ·rfl
     ·simp only[QQ3,QQ2,QQ1]
      cases he2:r2.2.1.isEmpty
      ·simp only[QQ4,QQ3,QQ2,QQ1]
       obtain⟨hb1,hb2,hb3⟩:=Q2 _ (head_mem he2)
       have H3:Yl w (r1.1.1,r1.1.2.1,r1.1.2.2.1,r1.1.2.2.2.1,r1.1.2.2.2.2.1,r1.1.2.2.2.2.2.1,r1.1.2.2.2.2.2.2.1,r1.1.2.2.2.2.2.2.2.1,r1.1.2.2.2.2.2.2.2.2.1,r1.1.2.2.2.2.2.2.2.2.2.1,r1.1.2.2.2.2.2.2.2.2.2.2.1,r1.1.2.2.2.2.2.2.2.2.2.2.2.1,r1.1.2.2.2.2.2.2.2.2.2.2.2.2.1,r1.1.2.2.2.2.2.2.2.2.2.2.2.2.2.1,r1.1.2.2.2.2.2.2.2.2.2.2.2.2.2.2.1,r1.1.2.2.2.2.2.2.2.2.2.2.2.2.2.2.2.1,r1.1.2.2.2.2.2.2.2.2.2.2.2.2.2.2.2.2.1,r1.1.2.2.2.2.2.2.2.2.2.2.2.2.2.2.2.2.2.1,r1.1.2.2.2.2.2.2.2.2.2.2.2.2.2.2.2.2.2.2,(r2.2.1.headD QL).1,(r2.2.1.headD QL).2.1,(r2.2.1.headD QL).2.2.1,(r2.2.1.headD QL).2.2.2.1,(r2.2.1.headD QL).2.2.2.2.1,(r2.2.1.headD QL).2.2.2.2.2.1,(r2.2.1.headD QL).2.2.2.2.2.2.1,(r2.2.1.headD QL).2.2.2.2.2.2.2.1,(r2.2.1.headD QL).2.2.2.2.2.2.2.2.1,(r2.2.1.headD QL).2.2.2.2.2.2.2.2.2.1,(r2.2.1.headD QL).2.2.2.2.2.2.2.2.2.2.1,(r2.2.1.headD QL).2.2.2.2.2.2.2.2.2.2.2)=some (flat (rcv r1.1 (r2.2.1.headD QL))):=QmS r1.1 R1 (r2.2.1.headD QL) hb1
       rw[H3]
       simp only[QQ0,flat]
       cases decide ((rcv r1.1 (r2.2.1.headD QL)).2.2=0)<;>rfl
      ·rfl
    ·rfl
theorem QDt {sd:List Qn}(h:∀x∈sd,QK x.2=true):XU sd<=61*sd.length:=by
 have:Qi Xl sd<=60*sd.length:=Qii _ _ _ fun x hx=>Qea (h x hx)
 simp only[XU];omega
theorem QBJ {ns:List Qa}(h:∀x∈ns,NOk x):XR ns<=2001*ns.length:=by
 have:Qi Q7 ns<=2000*ns.length:=Qii _ _ _ fun x hx=>(Xp (h x hx)).1
 simp only[XR];omega
theorem QBB {ns:List Qa}{net:List Qm}{sd:List Qn}(h:∀x∈ns,NOk x) (hl:ns.length<=5) (hn:Xn net<=1048576) (hd:∀x∈sd,QK x.2=true) (hdl:sd.length<=41):Q6 (ns,net,sd)<=1100000/\smW ns net sd:=by
 have h1:=QBJ h
 have h2:=QDt hd
 refine⟨by simp only[Q6];omega,by simp only[maxLen];omega,fun x hx=>(Xp (h x hx)).2, ?_, ?_,by simp only[maxLen];omega,fun x hx=>ZB (hd x hx)⟩
 ·simp only[Xn]at hn;simp only[maxLen];omega
 ·intro p hp
  have:=Y0 Xe hp
  simp only[Xn]at hn
  simp only[Xe,Zk]at this
  simp only[maxLen];omega
theorem QCT {ns:List Qa}{net:List Qm}{sd:List Qn}(h:Zf ns net sd=true):∀x∈sd,QK x.2=true:=by
 simp only[Zf,QQ5,QRt,Qck]at h
 intro x hx
 exact(h.2.2.2.2.2 x hx).2
theorem QCj {ns:List Qa}(h:∀x∈ns,NOk x) {i:Nat}{n:Qa}(hn:NOk n):∀x∈ns.set i n,NOk x:=fun x hx=>by
 rcases QY35 hx with hx|rfl
 ·exact h x hx
 ·exact hn
theorem Qvm {ns:List Qa}{net:List Qm}{sd:List Qn}(h:WOk ns net sd):∀x∈ns,NOk x:=fun x hx=>by
 obtain⟨i,hi,rfl⟩:=List.mem_iff_getElem.1 hx
 exact QmW h hi
theorem QF9 {ns:List Qa}{net:List Qm}{sd:List Qn}(h:∀x∈ns,NOk x) (p q:Int):(∀x∈(exch ns net sd p q).1,NOk x)/\(exch ns net sd p q).1.length=ns.length:=by
 unfold exch
 cases h2:two ns net sd p q
 ·exact⟨h,rfl⟩
 ·obtain⟨_,hp,hq,_⟩:=QB6 h2
  obtain⟨i,rfl,hi⟩:=YK hp
  obtain⟨j,rfl,hj⟩:=YK hq
  simp only[QQ1,jA hi,jA hj]
  cases ht:talk ns[i] ns[j] (j:Int)with
  |none=>exact⟨h,rfl⟩
  |some r=>
   have hr:=QGm (h _ (QRf hi)) (h _ (QRf hj)) ht
   exact⟨QCj (QCj h hr.1) hr.2,by simp[QHm]⟩
def QqC (ns:List Qa) (i:Nat):Qa:=tick (nodeAt ns (i:Int))
def QyU (ns:List Qa) (sd:List Qn) (i:Nat):Bool:=(lookup ((QqC ns i).2.2.1,(QqC ns i).2.2.2.1) (i:Int)).2.2.2.2.2&&(decide (((sd.length:Nat):Int)<40)&&decide (Qva (QqC ns i) (i:Int)=0))
def QI2 (ns:List Qa) (sd:List Qn) (i:Nat):List Qa:=bif QyU ns sd i then ns.set i (QIx (QqC ns i) (i:Int))else ns.set i (QqC ns i)
def QEH (ns:List Qa) (sd:List Qn) (i:Nat):List Qn:=bif QyU ns sd i then sd++[((i:Int),QIk (QqC ns i) (i:Int))]else sd
def step (ns:List Qa) (net:List Qm) (sd:List Qn) (t:Int):XJ:=bif decide ((QqG ns net sd t).1<0)then(ns,net,sd)else((exch (QI2 ns sd (QqG ns net sd t).1.toNat) net (QEH ns sd (QqG ns net sd t).1.toNat) (QqG ns net sd t).1 (QqG ns net sd t).2).1,net,QEH ns sd (QqG ns net sd t).1.toNat)
theorem QCo {ns:List Qa}{net:List Qm}{sd:List Qn}(h:Q6 (ns,net,sd)<=1048576):Xn net<=1048576:=by
 simp only[Q6]at h;omega
structure Fine (x:XJ):Prop where
 mz:Q6 x<=1100000
 net:Xn x.2.1<=1048576
 sm:smW x.1 x.2.1 x.2.2
theorem Qxa {α R:Type}(xs:List α) (f:α->α) (K:Nat->List α->Option R) (fin:List α->R)
 (hstep:∀i (h:i<xs.length) (out:List α) r (hl:i<out.length),out.length=xs.length->out[i]=xs[i]->K (i+1) (out.set i (f xs[i]))=some r->K i out=some r)
 (hend:∀out:List α,out.length=xs.length->K xs.length out=some (fin out)):K 0 xs=some (fin (xs.map f)):=by
 have e:=Xd xs.length K (fun i s=>fin (s.take i++(xs.drop i).map f)) (fun i s=>s.length=xs.length/\s.drop i=xs.drop i)
  (fun i hi s hs ih=>by
    have hd:=hs.2
    have hi':i<s.length:=by omega
    rw[QRa hi,QRa hi']at hd
    have hx:=(List.cons.inj hd).1
    refine hstep i hi s _ hi' hs.1 hx ?_
    rw[ih (s.set i (f xs[i])) ⟨by simp[hs.1],by rw[List.drop_set_of_lt (by omega)];exact(List.cons.inj hd).2⟩]
    rw[QRa hi,List.map_cons,List.take_succ_eq_append_getElem (by simp;omega),List.take_set_of_le (QY1 i)]
    simp)
  (fun s hs=>by rw[hend s hs.1,List.take_of_length_le (by omega),QRl,List.map_nil,List.append_nil])
  xs ⟨rfl,rfl⟩
 simpa using e
def QeZ:Nat->Qa->Qa
 |0,x=>x
 |m+1,x=>QeZ m (tick x)
theorem Qxi:(m:Nat)->(x:Qa)->NOk x->NOk (QeZ m x)
 |0,_,h=>h
 |m+1,x,h=>Qxi m (tick x) (Qoo h)
def QeM (x:Qa):Qa:=QeZ (x.2.2.2.2.2.2.2.2.2.2.2.2.2.2.2.1+1).toNat x
def calm (ns:List Qa) (net:List Qm) (sd:List Qn):XJ:=bif Zf ns net sd then(ns.map QeM,net,sd)else(ns,net,sd)
theorem Qt1 (src:List Qa) (n:Int) (net:List Qm) (sd:List Qn) (c:Nat) (hc:c<=1000) (i:Nat):(m j:Nat)->(out:List Qa)->(hi:i<out.length)->NOk out[i]->j+m=c->yT wl ((i:Int),src,n,(i:Int),(c:Int),(j:Int),out,net,sd)=some (src,n,(i:Int),out.set i (QeZ m out[i]),net,sd)
 |0,j,out,hi,hn,hm=>by
  apply Qle
  simp only[Qis,df (show¬(j:Int)<(c:Int) by omega),QQ2,QeZ,List.set_getElem_self]
 |m+1,j,out,hi,hn,hm=>by
  apply Qle
  have ih:=Qt1 src n net sd c hc i m (j+1) (out.set i (tick out[i])) (by simpa using hi) (by rw[List.getElem_set_self];exact Qoo hn) (by omega)
  simp only[List.getElem_set_self,QY11]at ih
  simp only[Qis,dt (show(j:Int)<(c:Int) by omega),QQ1,Qj hi,Qf hi,QIc out[i] hn,QQ0,QRb,w64 (n:=(j:Int)+1) (by omega) (by omega),QeZ]
  exact ih
theorem QzQ {x:Qa}(h:NOk x):1<=x.2.2.2.2.2.2.2.2.2.2.2.2.2.2.2.1/\x.2.2.2.2.2.2.2.2.2.2.2.2.2.2.2.1<=20:=Q0.1 h.wait
theorem QIj (ns:List Qa) (net:List Qm) (sd:List Qn) (h:Q6 (ns,net,sd)<=4294967296) (hs:smW ns net sd):QlQ w (ns,net,sd)=some (calm ns net sd):=by
 apply QzW
 simp only[Qo9,Qjo ns net sd h,Qn2 ns net sd hs,QQ0,calm]
 cases hw:Zf ns net sd
 ·rfl
 ·have hall:=Qvm (yx hw)
  have e:=Qxa ns QeM (fun i out=>yz wl (ns,(ns.length:Int),(i:Int),out,net,sd)) (fun out=>(out,net,sd))
   (fun i hi out r hl ho hx ih=>by
     apply QlO
     have hn:NOk ns[i]:=hall _ (QRf hi)
     have hwt:=QzQ hn
     have ein:=Qt1 ns (ns.length:Int) net sd (ns[i].2.2.2.2.2.2.2.2.2.2.2.2.2.2.2.1+1).toNat (by omega) i (ns[i].2.2.2.2.2.2.2.2.2.2.2.2.2.2.2.1+1).toNat 0 out hl (by rw[hx];exact hn) (by omega)
     rw[show(((ns[i].2.2.2.2.2.2.2.2.2.2.2.2.2.2.2.1+1).toNat:Nat):Int)=ns[i].2.2.2.2.2.2.2.2.2.2.2.2.2.2.2.1+1 by omega,hx]at ein
     simp only[QQ6]at ein
     simp only[Qjf,ilt hi,Qj hi,Qf hi,QQ1,w64 (n:=ns[i].2.2.2.2.2.2.2.2.2.2.2.2.2.2.2.1+1) (by omega) (by omega),ein,QQ0,inc hi hs.1]
     exact ih)
   (fun out ho=>by
     apply QlO
     simp only[Qjf,Qo,QQ2])
  simp only[QQ6]at e
  simp only[QQ3,QQ2,e,QQ0,QQ1]
theorem Qrp (src:List Qa) (net:List Qm) (sd:List Qn) (out:List Qa) (net':List Qm) (sd':List Qn) (i:Nat) (hi:i<src.length) (c:Nat) (hc:c<=1000) (hw:src[i].2.2.2.2.2.2.2.2.2.2.2.2.2.2.2.1+1=(c:Int)):(m j:Nat)->(x:Qa)->NOk x->j+m=c->Jx wl ((i:Int),(j:Int),src,net,sd,out,net',sd',x.1,x.2.1,x.2.2.1,x.2.2.2.1,x.2.2.2.2.1,x.2.2.2.2.2.1,x.2.2.2.2.2.2.1,x.2.2.2.2.2.2.2.1,x.2.2.2.2.2.2.2.2.1,x.2.2.2.2.2.2.2.2.2.1,x.2.2.2.2.2.2.2.2.2.2.1,x.2.2.2.2.2.2.2.2.2.2.2.1,x.2.2.2.2.2.2.2.2.2.2.2.2.1,x.2.2.2.2.2.2.2.2.2.2.2.2.2.1,x.2.2.2.2.2.2.2.2.2.2.2.2.2.2.1,x.2.2.2.2.2.2.2.2.2.2.2.2.2.2.2.1,x.2.2.2.2.2.2.2.2.2.2.2.2.2.2.2.2.1,x.2.2.2.2.2.2.2.2.2.2.2.2.2.2.2.2.2.1,x.2.2.2.2.2.2.2.2.2.2.2.2.2.2.2.2.2.2)=some ((i:Int),src,net,sd,out,net',sd',QeZ m x)
 |0,j,x,hn,hm=>by
  apply QgI
  simp only[Qa4,Qj hi,Qf hi,QQ1,df (show¬(j:Int)<=src[i].2.2.2.2.2.2.2.2.2.2.2.2.2.2.2.1 by omega),QQ2,QeZ]
 |m+1,j,x,hn,hm=>by
  apply QgI
  have ih:=Qrp src net sd out net' sd' i hi c hc hw m (j+1) (tick x) (Qoo hn) (by omega)
  simp only[Qa4,Qj hi,Qf hi,QQ1,dt (show(j:Int)<=src[i].2.2.2.2.2.2.2.2.2.2.2.2.2.2.2.1 by omega),Qy7 x hn,QQ0,w64 (n:=(j:Int)+1) (by omega) (by omega),QeZ]
  exact ih
theorem QGR (ns:List Qa) (net:List Qm) (sd:List Qn) (h:Q6 (ns,net,sd)<=4294967296) (hs:smW ns net sd):Qlo w (ns,net,sd)=some (calm ns net sd):=by
 apply QyF
 simp only[Qo2,QoV ns net sd h,Qmq ns net sd hs,QQ0,calm]
 cases hw:Zf ns net sd
 ·rfl
 ·have hall:=Qvm (yx hw)
  have e:=Qxa ns QeM (fun i out=>qG wl ((i:Int),ns,net,sd,out,net,sd)) (fun out=>(out,net,sd))
   (fun i hi out r hl ho hx ih=>by
     apply QkV
     have hn:NOk ns[i]:=hall _ (QRf hi)
     have hwt:=QzQ hn
     have ein:=Qrp ns net sd out net sd i hi (ns[i].2.2.2.2.2.2.2.2.2.2.2.2.2.2.2.1+1).toNat (by omega) (by omega) ns[i].2.2.2.2.2.2.2.2.2.2.2.2.2.2.2.1.toNat 1 (tick ns[i]) (Qoo hn) (by omega)
     have e2:QcC wl ((i:Int),0,ns,net,sd,out,net,sd,ns[i].1,ns[i].2.1,(i:Int),(i:Int),(i:Int),ns[i].2.2.2.2.2.1,ns[i].2.2.2.2.2.2.1,ns[i].2.2.2.2.2.2.2.1,(i:Int),(i:Int),(i:Int),(i:Int),ns[i].2.2.2.2.2.2.2.2.2.2.2.2.1,ns[i].2.2.2.2.2.2.2.2.2.2.2.2.2.1,(i:Int),ns[i].2.2.2.2.2.2.2.2.2.2.2.2.2.2.2.1,ns[i].2.2.2.2.2.2.2.2.2.2.2.2.2.2.2.2.1,ns[i].2.2.2.2.2.2.2.2.2.2.2.2.2.2.2.2.2.1,(i:Int))=some (Sum.inl ((i:Int),ns,net,sd,out,net,sd,QeM ns[i])):=by
      apply Qt9
      simp only[QpW,Qj hi,Qf hi,Qf hl,hx,QQ1,dt (show(0:Int)<=ns[i].2.2.2.2.2.2.2.2.2.2.2.2.2.2.2.1 by omega),Qy7 ns[i] hn,QQ0,w64 (n:=(0:Int)+1) (by omega) (by omega)]
      have e3:QeM ns[i]=QeZ ns[i].2.2.2.2.2.2.2.2.2.2.2.2.2.2.2.1.toNat (tick ns[i]):=by
       unfold QeM
       rw[show(ns[i].2.2.2.2.2.2.2.2.2.2.2.2.2.2.2.1+1).toNat=ns[i].2.2.2.2.2.2.2.2.2.2.2.2.2.2.2.1.toNat+1 by omega];rfl
      rw[e3]
      exact(congrArg (fun z=>Option.bind z _) ein).trans rfl
     simp only[Qi6,ho,ilt hi,Qj hi,Qj hl,Qf hl,hx,QQ1]
     rw[e2]
     simp only[QQ0,Qp,Sum.elim_inl,ho,Qj hi,QQ1,QRb,inc hi hs.1]
     exact ih)
   (fun out ho=>by
     apply QkV
     simp only[Qi6,ho,Qo,QQ2])
  simp only[QQ6]at e
  simp only[QQ3,QQ2,e,QQ0,QQ1]
end Go.Proofs.YtiejfnbmficbmaaGreat.M
