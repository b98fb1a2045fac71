/- What the plain forms that FnExactAuto reaches come to: PRcv2. No conditions but those that each theorem states. -/
import Derived.Test.YtiejfnbmficbmaaGreatFnExactAutoPSend
set_option linter.all false
namespace Go.Proofs.YtiejfnbmficbmaaGreat.M
open Go Go.Eng Go.Proofs
set_option linter.unusedVariables false
def jb (x:Qb) (m:QY):Bool:=QfS m&&(decide (m.2.2.1=x.1)&&(!decide (x.2.1<=m.2.1)&&decide (((m.2.2.2.2.2.2.2.1.length:Nat):Int)=x.2.1)))
theorem Qtt {x:Qb}{m:QY}(h:jb x m=true):Fit x m:=by
 simp only[jb,QQ5,QY11,QRu,decide_eq_false_iff_not]at h
 exact⟨mok h.1,h.2.1,by omega,h.2.2.2⟩
def rcv (x:Qb) (m:QY):Qb×List QY×Int:=bif jb x m then
 (bif decide (m.1=0)then(brought x m,[msg (brought x m) 1 m.2.1 m.2.2.2.1],0)
 else bif decide (m.1=1)then(heard x m,[],0)
 else bif decide (m.1=2)then(bif Zd x m then(x,[msg x 5 m.2.1 m.2.2.2.1],3)else(Qt x m,[qD (Qt x m) m],0))
 else bif decide (m.1=3)then(bif decide (find x m false<0)then(x,[],2)else(brought (gone x (find x m false)) m,[QaO (brought (gone x (find x m false)) m) m],0))
 else bif decide (m.1=4)then(bif decide (find x m true<0)then(x,[],2)else(brought (gone x (find x m true)) m,[],0))
 else(bif decide (find x m false<0)then(x,[],2)else(gone x (find x m false),[],0)))
 else(x,[],1)
def flat (r:Qb×List QY×Int):Int×Int×(List Qd)×(List Qa)×(List Int)×Int×Int×Int×(List Qi)×(List Int)×(List Int)×(List (List Int))×Int×Int×(List Qz)×Int×Int×Int×(List QO)×(List QY)×Int:=(r.1.1,r.1.2.1,r.1.2.2.1,r.1.2.2.2.1,r.1.2.2.2.2.1,r.1.2.2.2.2.2.1,r.1.2.2.2.2.2.2.1,r.1.2.2.2.2.2.2.2.1,r.1.2.2.2.2.2.2.2.2.1,r.1.2.2.2.2.2.2.2.2.2.1,r.1.2.2.2.2.2.2.2.2.2.2.1,r.1.2.2.2.2.2.2.2.2.2.2.2.1,r.1.2.2.2.2.2.2.2.2.2.2.2.2.1,r.1.2.2.2.2.2.2.2.2.2.2.2.2.2.1,r.1.2.2.2.2.2.2.2.2.2.2.2.2.2.2.1,r.1.2.2.2.2.2.2.2.2.2.2.2.2.2.2.2.1,r.1.2.2.2.2.2.2.2.2.2.2.2.2.2.2.2.2.1,r.1.2.2.2.2.2.2.2.2.2.2.2.2.2.2.2.2.2.1,r.1.2.2.2.2.2.2.2.2.2.2.2.2.2.2.2.2.2.2,r.2.1,r.2.2)
theorem jK {x:Qb}{m:QY}(hf:Fit x m) (k:Int):Fit (gone x k) m:=⟨hf.ok,hf.to,hf.src,hf.len⟩
theorem Qd6 {x:Qb}(h:NOk x) (m:QY):NOk (rcv x m).1:=by
 unfold rcv
 cases hb:jb x m
 ·exact h
 ·have hf:=Qtt hb
  simp only[QQ1]
  cases decide (m.1=0)<;>simp only[QQ1,QQ2]
  ·cases decide (m.1=1)<;>simp only[QQ1,QQ2]
   ·cases decide (m.1=2)<;>simp only[QQ1,QQ2]
    ·cases decide (m.1=3)<;>simp only[QQ1,QQ2]
     ·cases decide (m.1=4)<;>simp only[QQ1,QQ2]
      ·cases decide (find x m false<0)
       ·exact qK h _
       ·exact h
      ·cases decide (find x m true<0)
       ·exact ZY (qK h _) (jK hf _)
       ·exact h
     ·cases decide (find x m false<0)
      ·exact ZY (qK h _) (jK hf _)
      ·exact h
    ·cases hc:Zd x m
     ·exact yV h hf hc
     ·exact h
   ·exact yN h hf
  ·exact ZY h hf
theorem QqX {x:Qb}(h:NOk x) (m:QY):∀a∈(rcv x m).2.1,Qm7 a/\a.2.2.1=m.2.1/\a.2.1=x.1:=by
 unfold rcv
 cases hb:jb x m
 ·simp
 ·have hf:=Qtt hb
  simp only[QQ1]
  cases decide (m.1=0)<;>simp only[QQ1,QQ2]
  ·cases decide (m.1=1)<;>simp only[QQ1,QQ2]
   ·cases decide (m.1=2)<;>simp only[QQ1,QQ2]
    ·cases decide (m.1=3)<;>simp only[QQ1,QQ2]
     ·cases decide (m.1=4)<;>simp only[QQ1,QQ2]
      ·cases decide (find x m false<0)<;>simp
      ·cases decide (find x m true<0)<;>simp
     ·cases decide (find x m false<0)
      ·intro a ha
       obtain rfl:=List.mem_singleton.1 ha
       exact⟨QEa (ZY (qK h _) (jK hf _)) hf.ok,rfl,rfl⟩
      ·simp
    ·cases hc:Zd x m
     ·intro a ha
      obtain rfl:=List.mem_singleton.1 ha
      exact⟨QCs (yV h hf hc) m,rfl,rfl⟩
     ·intro a ha
      obtain rfl:=List.mem_singleton.1 ha
      exact⟨QFu h _ _ _,rfl,rfl⟩
   ·simp
  ·intro a ha
   obtain rfl:=List.mem_singleton.1 ha
   exact⟨QFu (ZY h hf) _ _ _,rfl,rfl⟩
theorem QJM (m:QY) (h:Qm7 m):Qb2 w (m.1,m.2.1,m.2.2.1,m.2.2.2.1,m.2.2.2.2.1,m.2.2.2.2.2.1,m.2.2.2.2.2.2.1,m.2.2.2.2.2.2.2.1,m.2.2.2.2.2.2.2.2.1,m.2.2.2.2.2.2.2.2.2.1,m.2.2.2.2.2.2.2.2.2.2.1,m.2.2.2.2.2.2.2.2.2.2.2)=some (QfS m):=QGp m.1 m.2.1 m.2.2.1 m.2.2.2.1 m.2.2.2.2.1 m.2.2.2.2.2.1 m.2.2.2.2.2.2.1 m.2.2.2.2.2.2.2.1 m.2.2.2.2.2.2.2.2.1 m.2.2.2.2.2.2.2.2.2.1 m.2.2.2.2.2.2.2.2.2.2.1 m.2.2.2.2.2.2.2.2.2.2.2 h
theorem QGT (m:QY) (h:Qm7 m):Qb9 w (m.1,m.2.1,m.2.2.1,m.2.2.2.1,m.2.2.2.2.1,m.2.2.2.2.2.1,m.2.2.2.2.2.2.1,m.2.2.2.2.2.2.2.1,m.2.2.2.2.2.2.2.2.1,m.2.2.2.2.2.2.2.2.2.1,m.2.2.2.2.2.2.2.2.2.2.1,m.2.2.2.2.2.2.2.2.2.2.2)=some (QfS m):=QFJ m.1 m.2.1 m.2.2.1 m.2.2.2.1 m.2.2.2.2.1 m.2.2.2.2.2.1 m.2.2.2.2.2.2.1 m.2.2.2.2.2.2.2.1 m.2.2.2.2.2.2.2.2.1 m.2.2.2.2.2.2.2.2.2.1 m.2.2.2.2.2.2.2.2.2.2.1 m.2.2.2.2.2.2.2.2.2.2.2 h
set_option maxHeartbeats 2000000 in
theorem QE1 (x:Qb) (h:NOk x) (m:QY) (hm:Qm7 m):Qbw w (x.1,x.2.1,x.2.2.1,x.2.2.2.1,x.2.2.2.2.1,x.2.2.2.2.2.1,x.2.2.2.2.2.2.1,x.2.2.2.2.2.2.2.1,x.2.2.2.2.2.2.2.2.1,x.2.2.2.2.2.2.2.2.2.1,x.2.2.2.2.2.2.2.2.2.2.1,x.2.2.2.2.2.2.2.2.2.2.2.1,x.2.2.2.2.2.2.2.2.2.2.2.2.1,x.2.2.2.2.2.2.2.2.2.2.2.2.2.1,x.2.2.2.2.2.2.2.2.2.2.2.2.2.2.1,x.2.2.2.2.2.2.2.2.2.2.2.2.2.2.2.1,x.2.2.2.2.2.2.2.2.2.2.2.2.2.2.2.2.1,x.2.2.2.2.2.2.2.2.2.2.2.2.2.2.2.2.2.1,x.2.2.2.2.2.2.2.2.2.2.2.2.2.2.2.2.2.2,m.1,m.2.1,m.2.2.1,m.2.2.2.1,m.2.2.2.2.1,m.2.2.2.2.2.1,m.2.2.2.2.2.2.1,m.2.2.2.2.2.2.2.1,m.2.2.2.2.2.2.2.2.1,m.2.2.2.2.2.2.2.2.2.1,m.2.2.2.2.2.2.2.2.2.2.1,m.2.2.2.2.2.2.2.2.2.2.2)=some (flat (rcv x m)):=by
 have hsm:=Xq h
 have hk:=Xz h
 have hc:=QvG h
 have hn:=okN h
 apply QtG
 simp only[QkS,hc,hn,QJM m hm,QQ0,QQ3,QQ2]
 unfold rcv
 cases hmk:QfS m
 ·simp only[jb,hmk,QRm,QQ2];rfl
 ·by_cases h2:m.2.2.1=x.1
  ·by_cases h1:x.2.1<=m.2.1
   ·simp only[jb,hmk,dt h2,dt h1,QQ3,QRm,QY9,QRd,QQ2,QQ1];rfl
   ·by_cases h7:((m.2.2.2.2.2.2.2.1.length:Nat):Int)=x.2.1
    ·have hb:jb x m=true:=by simp only[jb,hmk,dt h2,df h1,dt h7];rfl
     have hf:=Qtt hb
     rw[hb,dt h2,df h1,dt h7]
     simp only[QQ3,QQ2,QQ1]
     obtain⟨j,hj,hj2⟩:=Qn9 h hf
     have hi0:inb x.1 m.2.2.2.2.2.2.2.1.length=true:=by rw[hj];exact Qk hj2
     have hkd:=QX.1 hf.ok.kind
     have hlv:=Qze hf.ok
     have hmx:m.2.2.2.2.2.2.2.2.1.length<=maxLen:=by simp only[maxLen];omega
     rcases(show m.1=0\/m.1=1\/m.1=2\/m.1=3\/m.1=4\/m.1=5 by omega)with hz|hz|hz|hz|hz|hz
     ·simp only[df (show¬m.1=1 by omega),df (show¬m.1=2 by omega),df (show¬m.1=3 by omega),df (show¬m.1=4 by omega),df (show¬m.1=5 by omega),dt hz,QQ1,QqJ x h m hf,QcD _ (ZY h hf),QQ0];rfl
     ·simp only[df (show¬m.1=0 by omega),df (show¬m.1=2 by omega),df (show¬m.1=3 by omega),df (show¬m.1=4 by omega),df (show¬m.1=5 by omega),dt hz,QQ1,QQ2,Qec x h m hf,QQ0];rfl
     ·simp only[df (show¬m.1=0 by omega),df (show¬m.1=1 by omega),df (show¬m.1=3 by omega),df (show¬m.1=4 by omega),df (show¬m.1=5 by omega),dt hz,QQ1,QQ2,QyO x h m hf,QQ0]
      cases Zd x m<;>rfl
     ·simp only[df (show¬m.1=0 by omega),df (show¬m.1=1 by omega),df (show¬m.1=2 by omega),df (show¬m.1=4 by omega),df (show¬m.1=5 by omega),dt hz,QQ1,QQ2,QoU x h m false,QQ0]
      by_cases hg:find x m false<0
      ·rw[dt hg];rfl
      ·rw[df hg]
       have hgn:=qK h (find x m false)
       have hgf:=jK hf (find x m false)
       have ha:Vy w (x.1,x.2.1,x.2.2.1,x.2.2.2.1,x.2.2.2.2.1,x.2.2.2.2.2.1,x.2.2.2.2.2.2.1,x.2.2.2.2.2.2.2.1,x.2.2.2.2.2.2.2.2.1,x.2.2.2.2.2.2.2.2.2.1,x.2.2.2.2.2.2.2.2.2.2.1,x.2.2.2.2.2.2.2.2.2.2.2.1,x.2.2.2.2.2.2.2.2.2.2.2.2.1,x.2.2.2.2.2.2.2.2.2.2.2.2.2.1,Ql2 x.2.2.2.2.2.2.2.2.2.2.2.2.2.2.1 (find x m false),x.2.2.2.2.2.2.2.2.2.2.2.2.2.2.2.1,x.2.2.2.2.2.2.2.2.2.2.2.2.2.2.2.2.1,x.2.2.2.2.2.2.2.2.2.2.2.2.2.2.2.2.2.1,x.2.2.2.2.2.2.2.2.2.2.2.2.2.2.2.2.2.2,m.1,m.2.1,m.2.2.1,m.2.2.2.1,m.2.2.2.2.1,m.2.2.2.2.2.1,m.2.2.2.2.2.2.1,m.2.2.2.2.2.2.2.1,m.2.2.2.2.2.2.2.2.1,m.2.2.2.2.2.2.2.2.2.1,m.2.2.2.2.2.2.2.2.2.2.1,m.2.2.2.2.2.2.2.2.2.2.2)=some (brought (gone x (find x m false)) m):=QqJ (gone x (find x m false)) hgn m hgf
       have hbn:=ZY hgn hgf
       have hp:Kx w ((brought (gone x (find x m false)) m).1,(brought (gone x (find x m false)) m).2.1,(brought (gone x (find x m false)) m).2.2.1,(brought (gone x (find x m false)) m).2.2.2.1,(brought (gone x (find x m false)) m).2.2.2.2.1,(brought (gone x (find x m false)) m).2.2.2.2.2.1,(brought (gone x (find x m false)) m).2.2.2.2.2.2.1,(brought (gone x (find x m false)) m).2.2.2.2.2.2.2.1,(brought (gone x (find x m false)) m).2.2.2.2.2.2.2.2.1,(brought (gone x (find x m false)) m).2.2.2.2.2.2.2.2.2.1,(brought (gone x (find x m false)) m).2.2.2.2.2.2.2.2.2.2.1,(brought (gone x (find x m false)) m).2.2.2.2.2.2.2.2.2.2.2.1,(brought (gone x (find x m false)) m).2.2.2.2.2.2.2.2.2.2.2.2.1,(brought (gone x (find x m false)) m).2.2.2.2.2.2.2.2.2.2.2.2.2.1,(brought (gone x (find x m false)) m).2.2.2.2.2.2.2.2.2.2.2.2.2.2.1,(brought (gone x (find x m false)) m).2.2.2.2.2.2.2.2.2.2.2.2.2.2.2.1,(brought (gone x (find x m false)) m).2.2.2.2.2.2.2.2.2.2.2.2.2.2.2.2.1,(brought (gone x (find x m false)) m).2.2.2.2.2.2.2.2.2.2.2.2.2.2.2.2.2.1,(brought (gone x (find x m false)) m).2.2.2.2.2.2.2.2.2.2.2.2.2.2.2.2.2.2,m.2.2.2.2.2.2.2.2.1,m.1,m.2.1,m.2.2.1,m.2.2.2.1,m.2.2.2.2.1,m.2.2.2.2.2.1,m.2.2.2.2.2.2.1,m.2.2.2.2.2.2.2.1,m.2.2.2.2.2.2.2.2.1,m.2.2.2.2.2.2.2.2.2.1,m.2.2.2.2.2.2.2.2.2.2.1,m.2.2.2.2.2.2.2.2.2.2.2)=some (vU (brought (gone x (find x m false)) m) m.2.2.2.2.2.2.2.2.1 (rd1 0 m.2.2.2.2.2.2.2.1 x.1)):=QuG (brought (gone x (find x m false)) m) hbn _ hmx m hi0
       simp only[QQ3,QQ2,ha,QcD (brought (gone x (find x m false)) m) hbn,Qai m.2.2.2.2.2.2.2.2.1 (by omega),hp,QQ0];rfl
     ·simp only[df (show¬m.1=0 by omega),df (show¬m.1=1 by omega),df (show¬m.1=2 by omega),df (show¬m.1=3 by omega),df (show¬m.1=5 by omega),dt hz,QQ1,QQ2,QoU x h m true,QQ0]
      by_cases hg:find x m true<0
      ·rw[dt hg];rfl
      ·rw[df hg]
       have hgn:=qK h (find x m true)
       have hgf:=jK hf (find x m true)
       have ha:Vy w (x.1,x.2.1,x.2.2.1,x.2.2.2.1,x.2.2.2.2.1,x.2.2.2.2.2.1,x.2.2.2.2.2.2.1,x.2.2.2.2.2.2.2.1,x.2.2.2.2.2.2.2.2.1,x.2.2.2.2.2.2.2.2.2.1,x.2.2.2.2.2.2.2.2.2.2.1,x.2.2.2.2.2.2.2.2.2.2.2.1,x.2.2.2.2.2.2.2.2.2.2.2.2.1,x.2.2.2.2.2.2.2.2.2.2.2.2.2.1,Ql2 x.2.2.2.2.2.2.2.2.2.2.2.2.2.2.1 (find x m true),x.2.2.2.2.2.2.2.2.2.2.2.2.2.2.2.1,x.2.2.2.2.2.2.2.2.2.2.2.2.2.2.2.2.1,x.2.2.2.2.2.2.2.2.2.2.2.2.2.2.2.2.2.1,x.2.2.2.2.2.2.2.2.2.2.2.2.2.2.2.2.2.2,m.1,m.2.1,m.2.2.1,m.2.2.2.1,m.2.2.2.2.1,m.2.2.2.2.2.1,m.2.2.2.2.2.2.1,m.2.2.2.2.2.2.2.1,m.2.2.2.2.2.2.2.2.1,m.2.2.2.2.2.2.2.2.2.1,m.2.2.2.2.2.2.2.2.2.2.1,m.2.2.2.2.2.2.2.2.2.2.2)=some (brought (gone x (find x m true)) m):=QqJ (gone x (find x m true)) hgn m hgf
       have hbn:=ZY hgn hgf
       simp only[QQ3,QQ2,ha,QQ0];rfl
     ·simp only[df (show¬m.1=0 by omega),df (show¬m.1=1 by omega),df (show¬m.1=2 by omega),df (show¬m.1=3 by omega),df (show¬m.1=4 by omega),dt hz,QQ1,QQ2,QoU x h m false,QQ0]
      by_cases hg:find x m false<0
      ·rw[dt hg];rfl
      ·rw[df hg]
       have hgn:=qK h (find x m false)
       have hgf:=jK hf (find x m false)
       rfl
    ·simp only[jb,hmk,dt h2,df h1,df h7,QQ4,QQ3,QY9,QRd,QQ2,QQ1];rfl
  ·simp only[jb,hmk,df h2,QQ4,QRm,QY9,QQ2,QQ1];rfl
set_option maxHeartbeats 2000000 in
theorem Qnb (x:Qb) (h:NOk x) (m:QY) (hm:Qm7 m):Yw w (x.1,x.2.1,x.2.2.1,x.2.2.2.1,x.2.2.2.2.1,x.2.2.2.2.2.1,x.2.2.2.2.2.2.1,x.2.2.2.2.2.2.2.1,x.2.2.2.2.2.2.2.2.1,x.2.2.2.2.2.2.2.2.2.1,x.2.2.2.2.2.2.2.2.2.2.1,x.2.2.2.2.2.2.2.2.2.2.2.1,x.2.2.2.2.2.2.2.2.2.2.2.2.1,x.2.2.2.2.2.2.2.2.2.2.2.2.2.1,x.2.2.2.2.2.2.2.2.2.2.2.2.2.2.1,x.2.2.2.2.2.2.2.2.2.2.2.2.2.2.2.1,x.2.2.2.2.2.2.2.2.2.2.2.2.2.2.2.2.1,x.2.2.2.2.2.2.2.2.2.2.2.2.2.2.2.2.2.1,x.2.2.2.2.2.2.2.2.2.2.2.2.2.2.2.2.2.2,m.1,m.2.1,m.2.2.1,m.2.2.2.1,m.2.2.2.2.1,m.2.2.2.2.2.1,m.2.2.2.2.2.2.1,m.2.2.2.2.2.2.2.1,m.2.2.2.2.2.2.2.2.1,m.2.2.2.2.2.2.2.2.2.1,m.2.2.2.2.2.2.2.2.2.2.1,m.2.2.2.2.2.2.2.2.2.2.2)=some (flat (rcv x m)):=by
 have hsm:=Xq h
 have hk:=Xz h
 have hc:=Qgy h
 have hn:=QEk h
 apply Qt1
 simp only[QkQ,hc,hn,QGT m hm,QQ0,QQ3,QQ2]
 unfold rcv
 cases hmk:QfS m
 ·simp only[jb,hmk,QRm,QQ2];rfl
 ·by_cases h2:m.2.2.1=x.1
  ·by_cases h1:x.2.1<=m.2.1
   ·simp only[jb,hmk,dt h2,dt h1,QQ3,QRm,QY9,QRd,QQ2,QQ1];rfl
   ·by_cases h7:((m.2.2.2.2.2.2.2.1.length:Nat):Int)=x.2.1
    ·have hb:jb x m=true:=by simp only[jb,hmk,dt h2,df h1,dt h7];rfl
     have hf:=Qtt hb
     rw[hb,dt h2,df h1,dt h7]
     simp only[QQ3,QQ2,QQ1]
     obtain⟨j,hj,hj2⟩:=Qn9 h hf
     have hi0:inb x.1 m.2.2.2.2.2.2.2.1.length=true:=by rw[hj];exact Qk hj2
     have hkd:=QX.1 hf.ok.kind
     have hlv:=Qze hf.ok
     have hmx:m.2.2.2.2.2.2.2.2.1.length<=maxLen:=by simp only[maxLen];omega
     rcases(show m.1=0\/m.1=1\/m.1=2\/m.1=3\/m.1=4\/m.1=5 by omega)with hz|hz|hz|hz|hz|hz
     ·simp only[df (show¬m.1=1 by omega),df (show¬m.1=2 by omega),df (show¬m.1=3 by omega),df (show¬m.1=4 by omega),df (show¬m.1=5 by omega),dt hz,QQ1,Qhb x h m hf,Qgf _ (ZY h hf),QQ0];rfl
     ·simp only[df (show¬m.1=0 by omega),df (show¬m.1=2 by omega),df (show¬m.1=3 by omega),df (show¬m.1=4 by omega),df (show¬m.1=5 by omega),dt hz,QQ1,QQ2,QmQ x h m hf,QQ0];rfl
     ·simp only[df (show¬m.1=0 by omega),df (show¬m.1=1 by omega),df (show¬m.1=3 by omega),df (show¬m.1=4 by omega),df (show¬m.1=5 by omega),dt hz,QQ1,QQ2,QFk x h m hf,QQ0]
      cases Zd x m<;>rfl
     ·simp only[df (show¬m.1=0 by omega),df (show¬m.1=1 by omega),df (show¬m.1=2 by omega),df (show¬m.1=4 by omega),df (show¬m.1=5 by omega),dt hz,QQ1,QQ2,QoE x h m,QQ0]
      by_cases hg:find x m false<0
      ·rw[dt hg];rfl
      ·rw[df hg]
       have hgn:=qK h (find x m false)
       have hgf:=jK hf (find x m false)
       obtain⟨i,hi,hil⟩:=Qsu hg
       have hgo:VZ w (x.1,x.2.1,x.2.2.1,x.2.2.2.1,x.2.2.2.2.1,x.2.2.2.2.2.1,x.2.2.2.2.2.2.1,x.2.2.2.2.2.2.2.1,x.2.2.2.2.2.2.2.2.1,x.2.2.2.2.2.2.2.2.2.1,x.2.2.2.2.2.2.2.2.2.2.1,x.2.2.2.2.2.2.2.2.2.2.2.1,x.2.2.2.2.2.2.2.2.2.2.2.2.1,x.2.2.2.2.2.2.2.2.2.2.2.2.2.1,x.2.2.2.2.2.2.2.2.2.2.2.2.2.2.1,x.2.2.2.2.2.2.2.2.2.2.2.2.2.2.2.1,x.2.2.2.2.2.2.2.2.2.2.2.2.2.2.2.2.1,x.2.2.2.2.2.2.2.2.2.2.2.2.2.2.2.2.2.1,x.2.2.2.2.2.2.2.2.2.2.2.2.2.2.2.2.2.2,find x m false)=some (gone x (find x m false)):=by rw[hi];exact QoI x h i hil
       simp only[hgo,QQ2,QQ0]
       have hbn:=ZY hgn hgf
       have ha:=Qhb (gone x (find x m false)) hgn m hgf
       have hp:=Qtx (brought (gone x (find x m false)) m) hbn m.2.2.2.2.2.2.2.2.1 hmx (rd1 0 m.2.2.2.2.2.2.2.1 x.1)
       simp only[ha,Qgf (brought (gone x (find x m false)) m) hbn,QY7,QRe,QRo,Qu (show m.2.2.2.2.2.2.2.2.1.length*8<=140737488351232 by omega),hi0,QQ1,hp,QQ0];rfl
     ·simp only[df (show¬m.1=0 by omega),df (show¬m.1=1 by omega),df (show¬m.1=2 by omega),df (show¬m.1=3 by omega),df (show¬m.1=5 by omega),dt hz,QQ1,QQ2,QoE x h m,QQ0]
      by_cases hg:find x m true<0
      ·rw[dt hg];rfl
      ·rw[df hg]
       have hgn:=qK h (find x m true)
       have hgf:=jK hf (find x m true)
       obtain⟨i,hi,hil⟩:=Qsu hg
       have hgo:VZ w (x.1,x.2.1,x.2.2.1,x.2.2.2.1,x.2.2.2.2.1,x.2.2.2.2.2.1,x.2.2.2.2.2.2.1,x.2.2.2.2.2.2.2.1,x.2.2.2.2.2.2.2.2.1,x.2.2.2.2.2.2.2.2.2.1,x.2.2.2.2.2.2.2.2.2.2.1,x.2.2.2.2.2.2.2.2.2.2.2.1,x.2.2.2.2.2.2.2.2.2.2.2.2.1,x.2.2.2.2.2.2.2.2.2.2.2.2.2.1,x.2.2.2.2.2.2.2.2.2.2.2.2.2.2.1,x.2.2.2.2.2.2.2.2.2.2.2.2.2.2.2.1,x.2.2.2.2.2.2.2.2.2.2.2.2.2.2.2.2.1,x.2.2.2.2.2.2.2.2.2.2.2.2.2.2.2.2.2.1,x.2.2.2.2.2.2.2.2.2.2.2.2.2.2.2.2.2.2,find x m true)=some (gone x (find x m true)):=by rw[hi];exact QoI x h i hil
       simp only[hgo,QQ2,QQ0]
       have hbn:=ZY hgn hgf
       have ha:=Qhb (gone x (find x m true)) hgn m hgf
       simp only[ha,QQ0];rfl
     ·simp only[df (show¬m.1=0 by omega),df (show¬m.1=1 by omega),df (show¬m.1=2 by omega),df (show¬m.1=3 by omega),df (show¬m.1=4 by omega),dt hz,QQ1,QQ2,QoE x h m,QQ0]
      by_cases hg:find x m false<0
      ·rw[dt hg];rfl
      ·rw[df hg]
       have hgn:=qK h (find x m false)
       have hgf:=jK hf (find x m false)
       obtain⟨i,hi,hil⟩:=Qsu hg
       have hgo:VZ w (x.1,x.2.1,x.2.2.1,x.2.2.2.1,x.2.2.2.2.1,x.2.2.2.2.2.1,x.2.2.2.2.2.2.1,x.2.2.2.2.2.2.2.1,x.2.2.2.2.2.2.2.2.1,x.2.2.2.2.2.2.2.2.2.1,x.2.2.2.2.2.2.2.2.2.2.1,x.2.2.2.2.2.2.2.2.2.2.2.1,x.2.2.2.2.2.2.2.2.2.2.2.2.1,x.2.2.2.2.2.2.2.2.2.2.2.2.2.1,x.2.2.2.2.2.2.2.2.2.2.2.2.2.2.1,x.2.2.2.2.2.2.2.2.2.2.2.2.2.2.2.1,x.2.2.2.2.2.2.2.2.2.2.2.2.2.2.2.2.1,x.2.2.2.2.2.2.2.2.2.2.2.2.2.2.2.2.2.1,x.2.2.2.2.2.2.2.2.2.2.2.2.2.2.2.2.2.2,find x m false)=some (gone x (find x m false)):=by rw[hi];exact QoI x h i hil
       simp only[hgo,QQ2,QQ0]
       rfl
    ·simp only[jb,hmk,dt h2,df h1,df h7,QQ4,QQ3,QY9,QRd,QQ2,QQ1];rfl
  ·simp only[jb,hmk,df h2,QQ4,QRm,QY9,QQ2,QQ1];rfl
def JL (wt:Int):List Qz->List Qz
 | []=>[]
 |x::l=>bif decide (x.2.2.2+1<=wt)then(x.1,x.2.1,x.2.2.1,x.2.2.2+1)::JL wt l else JL wt l
theorem Ql6 (wt:Int):(l:List Qz)->∀y∈JL wt l,∃z∈l,y=(z.1,z.2.1,z.2.2.1,z.2.2.2+1)/\z.2.2.2+1<=wt
 | [],y,h=>by simp[JL]at h
 |x::l,y,h=>by
  rw[JL]at h
  by_cases hx:x.2.2.2+1<=wt
  ·rw[dt hx]at h
   rcases QRk.1 h with rfl|h
   ·exact⟨x,by simp,rfl,hx⟩
   ·obtain⟨z,hz,e⟩:=Ql6 wt l y h
    exact⟨z,by simp[hz],e⟩
  ·rw[df hx]at h
   obtain⟨z,hz,e⟩:=Ql6 wt l y h
   exact⟨z,by simp[hz],e⟩
theorem QBs (wt:Int):(l:List Qz)->l.Pairwise (fun y x=>Zx x y=false)->(JL wt l).Pairwise fun y x=>Zx x y=false
 | [],_=>by simp[JL]
 |x::l,h=>by
  rw[List.pairwise_cons]at h
  have ih:=QBs wt l h.2
  rw[JL]
  cases decide (x.2.2.2+1<=wt)
  ·exact ih
  ·refine List.pairwise_cons.2 ⟨fun y hy=> ?_,ih⟩
   obtain⟨z,hz,rfl,_⟩:=Ql6 wt l y hy
   exact h.1 z hz
theorem QxN (wt:Int):(l:List Qz)->(JL wt l).length<=l.length
 | []=>QY1 _
 |x::l=>by
  have:=QxN wt l
  rw[JL]
  cases decide (x.2.2.2+1<=wt)
  ·simp only[QQ2,QY8];omega
  ·simp only[QQ1,QY8];omega
def Qq6 (x:Qb):Qb:=(x.1,x.2.1,x.2.2.1,x.2.2.2.1,x.2.2.2.2.1,x.2.2.2.2.2.1,x.2.2.2.2.2.2.1,x.2.2.2.2.2.2.2.1,x.2.2.2.2.2.2.2.2.1,x.2.2.2.2.2.2.2.2.2.1,x.2.2.2.2.2.2.2.2.2.2.1,x.2.2.2.2.2.2.2.2.2.2.2.1,x.2.2.2.2.2.2.2.2.2.2.2.2.1,x.2.2.2.2.2.2.2.2.2.2.2.2.2.1,JL x.2.2.2.2.2.2.2.2.2.2.2.2.2.2.2.1 x.2.2.2.2.2.2.2.2.2.2.2.2.2.2.1,x.2.2.2.2.2.2.2.2.2.2.2.2.2.2.2.1,x.2.2.2.2.2.2.2.2.2.2.2.2.2.2.2.2.1,x.2.2.2.2.2.2.2.2.2.2.2.2.2.2.2.2.2.1+1,x.2.2.2.2.2.2.2.2.2.2.2.2.2.2.2.2.2.2)
def tick (x:Qb):Qb:=bif decide (x.2.2.2.2.2.2.2.2.2.2.2.2.2.2.2.2.2.1=100000)then x else Qq6 x
theorem QHp {x:Qb}(h:NOk x):NOk (tick x):=by
 unfold tick
 by_cases hc:x.2.2.2.2.2.2.2.2.2.2.2.2.2.2.2.2.2.1=100000
 ·rw[dt hc];exact h
 ·rw[df hc]
  have hck:=QX.1 h.clock
  exact {
   n:=h.n
   id:=h.id
   st:=h.st
   tree:=h.tree
   log:=h.log
   got:=h.got
   ack:=h.ack
   own:=h.own
   heard:=h.heard
   seen:=h.seen
   num:=h.num
   clock:=by simp only[QQ2,Qq6,QX];omega
   wait:=h.wait
   limit:=h.limit
   slots:=h.slots
   room:=by
    have:=h.room
    have:=QxN x.2.2.2.2.2.2.2.2.2.2.2.2.2.2.2.1 x.2.2.2.2.2.2.2.2.2.2.2.2.2.2.1
    simp only[QQ2,Qq6];omega
   sess:=by
    have hs:=(Vs _ _ _ _).1 h.sess
    refine(Vs _ _ _ _).2 ⟨fun y hy=> ?_,QBs _ _ hs.2⟩
    obtain⟨z,hz,rfl,hw⟩:=Ql6 _ _ y hy
    have:=hs.1 z hz
    simp only[Kl,QQ5,QX]at this⊢
    exact⟨this.1,by omega,hw⟩
   rlen:=h.rlen
   rises:=QRt.2 fun r hr=>by
    have:=QRt.1 h.rises r hr
    simp only[Z3,QQ5,QX]at this
    simp only[QQ2,Qq6,Z3,QQ5,QX]
    omega}
set_option maxHeartbeats 1000000 in
theorem QJt (x:Qb) (h:NOk x):Qfw w (x.1,x.2.1,x.2.2.1,x.2.2.2.1,x.2.2.2.2.1,x.2.2.2.2.2.1,x.2.2.2.2.2.2.1,x.2.2.2.2.2.2.2.1,x.2.2.2.2.2.2.2.2.1,x.2.2.2.2.2.2.2.2.2.1,x.2.2.2.2.2.2.2.2.2.2.1,x.2.2.2.2.2.2.2.2.2.2.2.1,x.2.2.2.2.2.2.2.2.2.2.2.2.1,x.2.2.2.2.2.2.2.2.2.2.2.2.2.1,x.2.2.2.2.2.2.2.2.2.2.2.2.2.2.1,x.2.2.2.2.2.2.2.2.2.2.2.2.2.2.2.1,x.2.2.2.2.2.2.2.2.2.2.2.2.2.2.2.2.1,x.2.2.2.2.2.2.2.2.2.2.2.2.2.2.2.2.2.1,x.2.2.2.2.2.2.2.2.2.2.2.2.2.2.2.2.2.2)=some (tick x):=by
 have hsm:=Xq h
 have hk:=Xz h
 have hck:=QX.1 h.clock
 have hw:=QX.1 h.wait
 have hs:=(Vs _ _ _ _).1 h.sess
 have hc:=QvG h
 have hn:=okN h
 have e:=Xe x.2.2.2.2.2.2.2.2.2.2.2.2.2.2.1.length (fun i (s:List Qz)=>xF wl (x.2.2.2.2.2.2.2.2.2.2.2.2.2.2.1,((x.2.2.2.2.2.2.2.2.2.2.2.2.2.2.1.length:Nat):Int),(i:Int),x.1,x.2.1,x.2.2.1,x.2.2.2.1,x.2.2.2.2.1,x.2.2.2.2.2.1,x.2.2.2.2.2.2.1,x.2.2.2.2.2.2.2.1,x.2.2.2.2.2.2.2.2.1,x.2.2.2.2.2.2.2.2.2.1,x.2.2.2.2.2.2.2.2.2.2.1,x.2.2.2.2.2.2.2.2.2.2.2.1,x.2.2.2.2.2.2.2.2.2.2.2.2.1,x.2.2.2.2.2.2.2.2.2.2.2.2.2.1,x.2.2.2.2.2.2.2.2.2.2.2.2.2.2.1,x.2.2.2.2.2.2.2.2.2.2.2.2.2.2.2.1,x.2.2.2.2.2.2.2.2.2.2.2.2.2.2.2.2.1,x.2.2.2.2.2.2.2.2.2.2.2.2.2.2.2.2.2.1,x.2.2.2.2.2.2.2.2.2.2.2.2.2.2.2.2.2.2,x.1,x.2.1,x.2.2.1,x.2.2.2.1,x.2.2.2.2.1,x.2.2.2.2.2.1,x.2.2.2.2.2.2.1,x.2.2.2.2.2.2.2.1,x.2.2.2.2.2.2.2.2.1,x.2.2.2.2.2.2.2.2.2.1,x.2.2.2.2.2.2.2.2.2.2.1,x.2.2.2.2.2.2.2.2.2.2.2.1,x.2.2.2.2.2.2.2.2.2.2.2.2.1,x.2.2.2.2.2.2.2.2.2.2.2.2.2.1,s,x.2.2.2.2.2.2.2.2.2.2.2.2.2.2.2.1,x.2.2.2.2.2.2.2.2.2.2.2.2.2.2.2.2.1,x.2.2.2.2.2.2.2.2.2.2.2.2.2.2.2.2.2.1+1,x.2.2.2.2.2.2.2.2.2.2.2.2.2.2.2.2.2.2)) (fun i s=>(x.1,x.2.1,x.2.2.1,x.2.2.2.1,x.2.2.2.2.1,x.2.2.2.2.2.1,x.2.2.2.2.2.2.1,x.2.2.2.2.2.2.2.1,x.2.2.2.2.2.2.2.2.1,x.2.2.2.2.2.2.2.2.2.1,x.2.2.2.2.2.2.2.2.2.2.1,x.2.2.2.2.2.2.2.2.2.2.2.1,x.2.2.2.2.2.2.2.2.2.2.2.2.1,x.2.2.2.2.2.2.2.2.2.2.2.2.2.1,s++JL x.2.2.2.2.2.2.2.2.2.2.2.2.2.2.2.1 (x.2.2.2.2.2.2.2.2.2.2.2.2.2.2.1.drop i),x.2.2.2.2.2.2.2.2.2.2.2.2.2.2.2.1,x.2.2.2.2.2.2.2.2.2.2.2.2.2.2.2.2.1,x.2.2.2.2.2.2.2.2.2.2.2.2.2.2.2.2.2.1+1,x.2.2.2.2.2.2.2.2.2.2.2.2.2.2.2.2.2.2)) (fun i s=>s.length<=i)
  (fun i hi s hs1 ih=>by
    apply Qmv
    have ho:=hs.1 _ (QRf hi)
    simp only[Kl,QQ5,QX]at ho
    simp only[QjZ,ilt hi,Qk hi,Qg hi,inc hi (show x.2.2.2.2.2.2.2.2.2.2.2.2.2.2.1.length<=maxLen by simp only[maxLen];omega),QQ1,w64 (n:=(x.2.2.2.2.2.2.2.2.2.2.2.2.2.2.1)[i].2.2.2+1) (by omega) (by omega)]
    rw[QRa hi,JL]
    by_cases hd:(x.2.2.2.2.2.2.2.2.2.2.2.2.2.2.1)[i].2.2.2+1<=x.2.2.2.2.2.2.2.2.2.2.2.2.2.2.2.1
    ·simp only[dt hd,QQ1]
     rw[Qu (by simp;omega),QQ1,ih _ (by simp;omega)]
     simp only[QRc,QRv,QRe]
    ·simp only[df hd,QQ2]
     exact ih s (by omega))
  (fun s _=>by
    apply Qmv
    simp only[QjZ,Qm,QQ2,QRl,JL,List.append_nil]) [] (by simp)
 simp only[QQ6,QRg,QRe]at e
 apply QAD
 simp only[Qpp,hc,hn,QQ0,QQ3,QQ2,tick,Qq6]
 by_cases hm:x.2.2.2.2.2.2.2.2.2.2.2.2.2.2.2.2.2.1=100000
 ·rw[dt hm];rfl
 ·rw[df hm,w64 (n:=x.2.2.2.2.2.2.2.2.2.2.2.2.2.2.2.2.2.1+1) (by omega) (by omega)]
  simp only[QQ2,e,QQ0]
set_option maxHeartbeats 1000000 in
theorem QHF (x:Qb) (h:NOk x):Qgt w (x.1,x.2.1,x.2.2.1,x.2.2.2.1,x.2.2.2.2.1,x.2.2.2.2.2.1,x.2.2.2.2.2.2.1,x.2.2.2.2.2.2.2.1,x.2.2.2.2.2.2.2.2.1,x.2.2.2.2.2.2.2.2.2.1,x.2.2.2.2.2.2.2.2.2.2.1,x.2.2.2.2.2.2.2.2.2.2.2.1,x.2.2.2.2.2.2.2.2.2.2.2.2.1,x.2.2.2.2.2.2.2.2.2.2.2.2.2.1,x.2.2.2.2.2.2.2.2.2.2.2.2.2.2.1,x.2.2.2.2.2.2.2.2.2.2.2.2.2.2.2.1,x.2.2.2.2.2.2.2.2.2.2.2.2.2.2.2.2.1,x.2.2.2.2.2.2.2.2.2.2.2.2.2.2.2.2.2.1,x.2.2.2.2.2.2.2.2.2.2.2.2.2.2.2.2.2.2)=some (tick x):=by
 have hsm:=Xq h
 have hk:=Xz h
 have hck:=QX.1 h.clock
 have hw:=QX.1 h.wait
 have hs:=(Vs _ _ _ _).1 h.sess
 have hc:=Qgy h
 have hn:=QEk h
 have e:=Xe x.2.2.2.2.2.2.2.2.2.2.2.2.2.2.1.length (fun i (s:List Qz)=>qS wl ((i:Int),x.1,x.2.1,x.2.2.1,x.2.2.2.1,x.2.2.2.2.1,x.2.2.2.2.2.1,x.2.2.2.2.2.2.1,x.2.2.2.2.2.2.2.1,x.2.2.2.2.2.2.2.2.1,x.2.2.2.2.2.2.2.2.2.1,x.2.2.2.2.2.2.2.2.2.2.1,x.2.2.2.2.2.2.2.2.2.2.2.1,x.2.2.2.2.2.2.2.2.2.2.2.2.1,x.2.2.2.2.2.2.2.2.2.2.2.2.2.1,x.2.2.2.2.2.2.2.2.2.2.2.2.2.2.1,x.2.2.2.2.2.2.2.2.2.2.2.2.2.2.2.1,x.2.2.2.2.2.2.2.2.2.2.2.2.2.2.2.2.1,x.2.2.2.2.2.2.2.2.2.2.2.2.2.2.2.2.2.1,x.2.2.2.2.2.2.2.2.2.2.2.2.2.2.2.2.2.2,x.1,x.2.1,x.2.2.1,x.2.2.2.1,x.2.2.2.2.1,x.2.2.2.2.2.1,x.2.2.2.2.2.2.1,x.2.2.2.2.2.2.2.1,x.2.2.2.2.2.2.2.2.1,x.2.2.2.2.2.2.2.2.2.1,x.2.2.2.2.2.2.2.2.2.2.1,x.2.2.2.2.2.2.2.2.2.2.2.1,x.2.2.2.2.2.2.2.2.2.2.2.2.1,x.2.2.2.2.2.2.2.2.2.2.2.2.2.1,s,x.2.2.2.2.2.2.2.2.2.2.2.2.2.2.2.1,x.2.2.2.2.2.2.2.2.2.2.2.2.2.2.2.2.1,x.2.2.2.2.2.2.2.2.2.2.2.2.2.2.2.2.2.1+1,x.2.2.2.2.2.2.2.2.2.2.2.2.2.2.2.2.2.2)) (fun i s=>(x.1,x.2.1,x.2.2.1,x.2.2.2.1,x.2.2.2.2.1,x.2.2.2.2.2.1,x.2.2.2.2.2.2.1,x.2.2.2.2.2.2.2.1,x.2.2.2.2.2.2.2.2.1,x.2.2.2.2.2.2.2.2.2.1,x.2.2.2.2.2.2.2.2.2.2.1,x.2.2.2.2.2.2.2.2.2.2.2.1,x.2.2.2.2.2.2.2.2.2.2.2.2.1,x.2.2.2.2.2.2.2.2.2.2.2.2.2.1,s++JL x.2.2.2.2.2.2.2.2.2.2.2.2.2.2.2.1 (x.2.2.2.2.2.2.2.2.2.2.2.2.2.2.1.drop i),x.2.2.2.2.2.2.2.2.2.2.2.2.2.2.2.1,x.2.2.2.2.2.2.2.2.2.2.2.2.2.2.2.2.1,x.2.2.2.2.2.2.2.2.2.2.2.2.2.2.2.2.2.1+1,x.2.2.2.2.2.2.2.2.2.2.2.2.2.2.2.2.2.2)) (fun i s=>s.length<=i)
  (fun i hi s hs1 ih=>by
    apply Qk5
    have ho:=hs.1 _ (QRf hi)
    simp only[Kl,QQ5,QX]at ho
    simp only[QiE,ilt hi,Qk hi,Qg hi,inc hi (show x.2.2.2.2.2.2.2.2.2.2.2.2.2.2.1.length<=maxLen by simp only[maxLen];omega),QQ1,w64 (n:=(x.2.2.2.2.2.2.2.2.2.2.2.2.2.2.1)[i].2.2.2+1) (by omega) (by omega)]
    rw[QRa hi,JL]
    by_cases hd:(x.2.2.2.2.2.2.2.2.2.2.2.2.2.2.1)[i].2.2.2+1<=x.2.2.2.2.2.2.2.2.2.2.2.2.2.2.2.1
    ·simp only[dt hd,QQ1]
     rw[Qu (by simp;omega),QQ1,ih _ (by simp;omega)]
     simp only[QRc,QRv,QRe]
    ·simp only[df hd,QQ2]
     exact ih s (by omega))
  (fun s _=>by
    apply Qk5
    simp only[QiE,Qm,QQ2,QRl,JL,List.append_nil]) [] (by simp)
 simp only[QQ6,QRg,QRe]at e
 apply QzS
 simp only[Qpm,hc,hn,QQ0,QQ3,QQ2,tick,Qq6]
 by_cases hm:x.2.2.2.2.2.2.2.2.2.2.2.2.2.2.2.2.2.1=100000
 ·rw[dt hm];rfl
 ·rw[df hm,w64 (n:=x.2.2.2.2.2.2.2.2.2.2.2.2.2.2.2.2.2.1+1) (by omega) (by omega)]
  simp only[QQ2,e,QQ0]
def Qs9 (x:Qb) (s:Qi):Qb:=(x.1,x.2.1,x.2.2.1,x.2.2.2.1,x.2.2.2.2.1,x.2.2.2.2.2.1,(Xt (x.2.2.2.2.2.2.1,x.2.2.2.2.2.2.2.1,x.2.2.2.2.2.2.2.2.1) s).1,(Xt (x.2.2.2.2.2.2.1,x.2.2.2.2.2.2.2.1,x.2.2.2.2.2.2.2.2.1) s).2.1,(Xt (x.2.2.2.2.2.2.1,x.2.2.2.2.2.2.2.1,x.2.2.2.2.2.2.2.2.1) s).2.2,x.2.2.2.2.2.2.2.2.2.1.set (x.1).toNat (rd1 0 x.2.2.2.2.2.2.2.2.2.1 x.1+1),x.2.2.2.2.2.2.2.2.2.2.1,x.2.2.2.2.2.2.2.2.2.2.2.1,x.2.2.2.2.2.2.2.2.2.2.2.2.1,x.2.2.2.2.2.2.2.2.2.2.2.2.2.1,x.2.2.2.2.2.2.2.2.2.2.2.2.2.2.1,x.2.2.2.2.2.2.2.2.2.2.2.2.2.2.2.1,x.2.2.2.2.2.2.2.2.2.2.2.2.2.2.2.2.1,x.2.2.2.2.2.2.2.2.2.2.2.2.2.2.2.2.2.1,x.2.2.2.2.2.2.2.2.2.2.2.2.2.2.2.2.2.2)
theorem Qxm {x:Qb}(h:NOk x):∃j:Nat,x.1=(j:Int)/\∃hj:j<x.2.2.2.2.2.2.2.2.2.1.length,(x.2.2.2.2.2.2.2.2.2.1)[j]=Xf (x.2.2.2.2.2.2.1,x.2.2.2.2.2.2.2.1,x.2.2.2.2.2.2.2.2.1):=by
 have h1:=QX.1 h.id
 have h2:=(yr h.got).1
 obtain⟨j,hj⟩:∃j:Nat,x.1=(j:Int):=⟨(x.1).toNat,by omega⟩
 have hj2:j<x.2.2.2.2.2.2.2.2.2.1.length:=by omega
 have:=h.own
 rw[hj,QRb]at this
 refine⟨j,hj,hj2, ?_⟩
 simpa[List.getD,QRp hj2]using this
theorem QsK {x:Qb}(h:NOk x) {s:Qi}(hs:QD s=true) (h0:¬x.2.2.2.2.2.2.2.1+((x.2.2.2.2.2.2.2.2.1.length:Nat):Int)=100000):NOk (Qs9 x s):=by
 obtain⟨j,hj,hj2,hg⟩:=Qxm h
 have hq:=QEy (g:=(x.2.2.2.2.2.2.1,x.2.2.2.2.2.2.2.1,x.2.2.2.2.2.2.2.2.1)) h.log hs h0
 have hlo:Zj (Xt (x.2.2.2.2.2.2.1,x.2.2.2.2.2.2.2.1,x.2.2.2.2.2.2.2.2.1) s)=true:=by rw[QpH h.log hs,df h0];rfl
 have hr:=Qh1 hlo
 have hv:=yr h.got
 exact {
  n:=h.n
  id:=h.id
  st:=h.st
  tree:=h.tree
  log:=hlo
  got:=by
   have hvo:=h.got
   simp only[Ym,QQ5,QRu,QRt]at hvo
   simp only[Qs9,Ym,QQ5,QRu,QRt,QY6]
   refine⟨hvo.1,fun y hy=> ?_⟩
   rcases QY34 hy with hy|rfl
   ·exact hvo.2 y hy
   ·rw[hj,Qg hj2,hg,QX];omega
  ack:=h.ack
  own:=by
   show(x.2.2.2.2.2.2.2.2.2.1.set (x.1).toNat (rd1 0 x.2.2.2.2.2.2.2.2.2.1 x.1+1)).getD (x.1).toNat 0=Xf (Xt (x.2.2.2.2.2.2.1,x.2.2.2.2.2.2.2.1,x.2.2.2.2.2.2.2.2.1) s)
   rw[hj,QRb,Qg hj2,hg,hq]
   simp[List.getD,hj2]
  heard:=QRt.2 fun y hy=>decide_eq_true (by
   have:=QRt.1 h.heard y hy
   simp only[QRu]at this
   show y<=Xf (Xt (x.2.2.2.2.2.2.1,x.2.2.2.2.2.2.2.1,x.2.2.2.2.2.2.2.2.1) s)
   omega)
  seen:=h.seen
  num:=h.num
  clock:=h.clock
  wait:=h.wait
  limit:=h.limit
  slots:=h.slots
  room:=h.room
  sess:=h.sess
  rlen:=h.rlen
  rises:=h.rises}
def Xl (x:Qb) (id:Int):Int:=bif inR id 0 (x.2.1 - 1)&&decide (id=x.1)then(bif decide ((Xk (x.2.2.1,x.2.2.2.1) id).2.2=0)then(bif decide (x.2.2.2.2.2.2.2.1+((x.2.2.2.2.2.2.2.2.1.length:Nat):Int)=100000)then 4 else 0)else(Xk (x.2.2.1,x.2.2.2.1) id).2.2)else 1
def Q0 (x:Qb) (id:Int):Qb:=bif decide (Xl x id=0)then(take (Qs9 x ((Xk (x.2.2.1,x.2.2.2.1) id).1,(Xk (x.2.2.1,x.2.2.2.1) id).2.1)) ((Xk (x.2.2.1,x.2.2.2.1) id).1,(Xk (x.2.2.1,x.2.2.2.1) id).2.1))else x
def jL (x:Qb) (id:Int):Qi:=bif decide (Xl x id=0)then((Xk (x.2.2.1,x.2.2.2.1) id).1,(Xk (x.2.2.1,x.2.2.2.1) id).2.1)else([],[])
theorem QxY {x:Qb}{id:Int}(h:Xl x id=0):inR id 0 (x.2.1 - 1)=true/\id=x.1/\(Xk (x.2.2.1,x.2.2.2.1) id).2.2=0/\¬x.2.2.2.2.2.2.2.1+((x.2.2.2.2.2.2.2.2.1.length:Nat):Int)=100000:=by
 unfold Xl at h
 cases h1:inR id 0 (x.2.1 - 1)
 ·rw[h1]at h;simp at h
 ·rw[h1]at h
  by_cases h2:id=x.1
  ·rw[dt h2]at h
   by_cases h3:(Xk (x.2.2.1,x.2.2.2.1) id).2.2=0
   ·rw[dt h3]at h
    by_cases h4:x.2.2.2.2.2.2.2.1+((x.2.2.2.2.2.2.2.2.1.length:Nat):Int)=100000
    ·rw[dt h4]at h;simp at h
    ·exact⟨rfl,h2,h3,h4⟩
   ·rw[df h3]at h;simp at h;exact absurd h h3
  ·rw[df h2]at h;simp at h
theorem QE6 (x:Qb) (id:Int):QD (jL x id)=true:=by
 unfold jL
 by_cases h:Xl x id=0
 ·rw[dt h];exact Qbc (QxY h).2.2.1
 ·rw[df h];rfl
theorem QBQ {x:Qb}(h:NOk x) (id:Int):NOk (Q0 x id):=by
 unfold Q0
 by_cases hc:Xl x id=0
 ·rw[dt hc]
  obtain⟨_,_,h3,h4⟩:=QxY hc
  exact QkX (QsK h (Qbc h3) h4) (Qbc h3)
 ·rw[df hc];exact h
theorem QG6 (a:List Qd) (b:List Qa) (id:Int) (s:ByteArray) (h1:a.length<=maxLen) (h2:b.length<=maxLen):Qh5 w (a,b,1,id,s)=some (Xk (a,b) id):=by
 apply QyK
 simp only[Qn0,QDM a b id h1 h2,QQ0,df (show¬(1:Int)=0 by omega),decide_true,QQ1,QQ2]
set_option maxHeartbeats 2000000 in
theorem QJQ (x:Qb) (h:NOk x) (id:Int) (s:ByteArray):Qo2 w (x.1,x.2.1,x.2.2.1,x.2.2.2.1,x.2.2.2.2.1,x.2.2.2.2.2.1,x.2.2.2.2.2.2.1,x.2.2.2.2.2.2.2.1,x.2.2.2.2.2.2.2.2.1,x.2.2.2.2.2.2.2.2.2.1,x.2.2.2.2.2.2.2.2.2.2.1,x.2.2.2.2.2.2.2.2.2.2.2.1,x.2.2.2.2.2.2.2.2.2.2.2.2.1,x.2.2.2.2.2.2.2.2.2.2.2.2.2.1,x.2.2.2.2.2.2.2.2.2.2.2.2.2.2.1,x.2.2.2.2.2.2.2.2.2.2.2.2.2.2.2.1,x.2.2.2.2.2.2.2.2.2.2.2.2.2.2.2.2.1,x.2.2.2.2.2.2.2.2.2.2.2.2.2.2.2.2.2.1,x.2.2.2.2.2.2.2.2.2.2.2.2.2.2.2.2.2.2,1,id,s)=some ((Q0 x id).1,(Q0 x id).2.1,(Q0 x id).2.2.1,(Q0 x id).2.2.2.1,(Q0 x id).2.2.2.2.1,(Q0 x id).2.2.2.2.2.1,(Q0 x id).2.2.2.2.2.2.1,(Q0 x id).2.2.2.2.2.2.2.1,(Q0 x id).2.2.2.2.2.2.2.2.1,(Q0 x id).2.2.2.2.2.2.2.2.2.1,(Q0 x id).2.2.2.2.2.2.2.2.2.2.1,(Q0 x id).2.2.2.2.2.2.2.2.2.2.2.1,(Q0 x id).2.2.2.2.2.2.2.2.2.2.2.2.1,(Q0 x id).2.2.2.2.2.2.2.2.2.2.2.2.2.1,(Q0 x id).2.2.2.2.2.2.2.2.2.2.2.2.2.2.1,(Q0 x id).2.2.2.2.2.2.2.2.2.2.2.2.2.2.2.1,(Q0 x id).2.2.2.2.2.2.2.2.2.2.2.2.2.2.2.2.1,(Q0 x id).2.2.2.2.2.2.2.2.2.2.2.2.2.2.2.2.2.1,(Q0 x id).2.2.2.2.2.2.2.2.2.2.2.2.2.2.2.2.2.2,(jL x id).1,(jL x id).2,Xl x id):=by
 have hsm:=Xq h
 have hk:=Xz h
 have hst:=X0 h.st
 have hn1:=QX.1 h.n
 have hc:=QvG h
 have hn:=okN h
 have hso:=QG6 x.2.2.1 x.2.2.2.1 id s hst.1 hst.2
 apply QBZ
 simp only[QqF,hc,hn,hso,Xi,w64 (n:=x.2.1 - 1) (by omega) (by omega),QQ0,QQ3,QQ2,show inR 1 0 4=true from rfl,df (show¬(1:Int)=4 by omega)]
 have hcode:Xl x id=Xl x id:=rfl
 unfold Q0 jL
 cases h1:inR id 0 (x.2.1 - 1)
 ·have hv:Xl x id=1:=by unfold Xl;rw[h1];rfl
  rw[hv,df (show¬(1:Int)=0 by omega)];rfl
 ·by_cases h2:id=x.1
  ·by_cases h3:(Xk (x.2.2.1,x.2.2.2.1) id).2.2=0
   ·have hsb:=Qbc h3
    have hla:=QF8 (x.2.2.2.2.2.2.1,x.2.2.2.2.2.2.2.1,x.2.2.2.2.2.2.2.2.1) ((Xk (x.2.2.1,x.2.2.2.1) id).1,(Xk (x.2.2.1,x.2.2.2.1) id).2.1) h.log hsb
    simp only at hla
    by_cases h4:x.2.2.2.2.2.2.2.1+((x.2.2.2.2.2.2.2.2.1.length:Nat):Int)=100000
    ·have hv:Xl x id=4:=by unfold Xl;rw[h1,dt h2,dt h3,dt h4];rfl
     rw[dt h4]at hla
     rw[hv,df (show¬(4:Int)=0 by omega),dt h2,dt h3]
     simp only[hla,QQ0,QQ1,QQ2,QQ3,QQ4];rfl
    ·have hv:Xl x id=0:=by unfold Xl;rw[h1,dt h2,dt h3,df h4];rfl
     rw[df h4]at hla
     rw[hv,dt (show(0:Int)=0 by omega),dt h2,dt h3]
     obtain⟨j,hj,hj2,hg⟩:=Qxm h
     have hi0:inb x.1 x.2.2.2.2.2.2.2.2.2.1.length=true:=by rw[hj];exact Qk hj2
     have hr:=Qh1 h.log
     have hT:=QwM (Qs9 x ((Xk (x.2.2.1,x.2.2.2.1) id).1,(Xk (x.2.2.1,x.2.2.2.1) id).2.1)) (QsK h hsb h4) ((Xk (x.2.2.1,x.2.2.2.1) id).1,(Xk (x.2.2.1,x.2.2.2.1) id).2.1) hsb
     simp only[Qs9]at hT
     have hg':rd1 0 x.2.2.2.2.2.2.2.2.2.1 x.1=Xf (x.2.2.2.2.2.2.1,x.2.2.2.2.2.2.2.1,x.2.2.2.2.2.2.2.2.1):=by rw[hj,Qg hj2,hg]
     simp only[hla,QQ0,QQ1,QQ2,QQ3,QQ4,hi0,w64 (n:=rd1 0 x.2.2.2.2.2.2.2.2.2.1 x.1+1) (by rw[hg'];omega) (by rw[hg'];omega),show(true==false)=false from rfl,show(false==true)=false from rfl]
     rw[hT];rfl
   ·have hv:Xl x id=(Xk (x.2.2.1,x.2.2.2.1) id).2.2:=by unfold Xl;rw[h1,dt h2,df h3];rfl
    rw[hv,df h3,dt h2];rfl
  ·have hv:Xl x id=1:=by unfold Xl;rw[h1,df h2];rfl
   rw[hv,df (show¬(1:Int)=0 by omega),df h2];rfl
theorem QES (a:List Qd) (b:List Qa) (id:Int) (s:ByteArray) (h1:a.length<=maxLen) (h2:b.length<=maxLen):Qbs w (a,b,1,id,s)=some (Xk (a,b) id):=by
 apply Qtz
 simp only[Qkb,QBF a b id h1 h2,QQ0,df (show¬(1:Int)=0 by omega),decide_true,QQ1,QQ2]
set_option maxHeartbeats 2000000 in
theorem QJq (x:Qb) (h:NOk x) (id:Int) (s:ByteArray):Qpc w (x.1,x.2.1,x.2.2.1,x.2.2.2.1,x.2.2.2.2.1,x.2.2.2.2.2.1,x.2.2.2.2.2.2.1,x.2.2.2.2.2.2.2.1,x.2.2.2.2.2.2.2.2.1,x.2.2.2.2.2.2.2.2.2.1,x.2.2.2.2.2.2.2.2.2.2.1,x.2.2.2.2.2.2.2.2.2.2.2.1,x.2.2.2.2.2.2.2.2.2.2.2.2.1,x.2.2.2.2.2.2.2.2.2.2.2.2.2.1,x.2.2.2.2.2.2.2.2.2.2.2.2.2.2.1,x.2.2.2.2.2.2.2.2.2.2.2.2.2.2.2.1,x.2.2.2.2.2.2.2.2.2.2.2.2.2.2.2.2.1,x.2.2.2.2.2.2.2.2.2.2.2.2.2.2.2.2.2.1,x.2.2.2.2.2.2.2.2.2.2.2.2.2.2.2.2.2.2,1,id,s)=some ((Q0 x id).1,(Q0 x id).2.1,(Q0 x id).2.2.1,(Q0 x id).2.2.2.1,(Q0 x id).2.2.2.2.1,(Q0 x id).2.2.2.2.2.1,(Q0 x id).2.2.2.2.2.2.1,(Q0 x id).2.2.2.2.2.2.2.1,(Q0 x id).2.2.2.2.2.2.2.2.1,(Q0 x id).2.2.2.2.2.2.2.2.2.1,(Q0 x id).2.2.2.2.2.2.2.2.2.2.1,(Q0 x id).2.2.2.2.2.2.2.2.2.2.2.1,(Q0 x id).2.2.2.2.2.2.2.2.2.2.2.2.1,(Q0 x id).2.2.2.2.2.2.2.2.2.2.2.2.2.1,(Q0 x id).2.2.2.2.2.2.2.2.2.2.2.2.2.2.1,(Q0 x id).2.2.2.2.2.2.2.2.2.2.2.2.2.2.2.1,(Q0 x id).2.2.2.2.2.2.2.2.2.2.2.2.2.2.2.2.1,(Q0 x id).2.2.2.2.2.2.2.2.2.2.2.2.2.2.2.2.2.1,(Q0 x id).2.2.2.2.2.2.2.2.2.2.2.2.2.2.2.2.2.2,(jL x id).1,(jL x id).2,Xl x id):=by
 have hsm:=Xq h
 have hk:=Xz h
 have hst:=X0 h.st
 have hn1:=QX.1 h.n
 have hc:=Qgy h
 have hn:=QEk h
 have hso:=QES x.2.2.1 x.2.2.2.1 id s hst.1 hst.2
 apply QCk
 simp only[QqB,hc,hn,hso,XD,w64 (n:=x.2.1 - 1) (by omega) (by omega),QQ0,QQ3,QQ2,show inR 1 0 4=true from rfl,df (show¬(1:Int)=4 by omega)]
 have hcode:Xl x id=Xl x id:=rfl
 unfold Q0 jL
 cases h1:inR id 0 (x.2.1 - 1)
 ·have hv:Xl x id=1:=by unfold Xl;rw[h1];rfl
  rw[hv,df (show¬(1:Int)=0 by omega)];rfl
 ·by_cases h2:id=x.1
  ·by_cases h3:(Xk (x.2.2.1,x.2.2.2.1) id).2.2=0
   ·have hsb:=Qbc h3
    have hla:=QDp (x.2.2.2.2.2.2.1,x.2.2.2.2.2.2.2.1,x.2.2.2.2.2.2.2.2.1) ((Xk (x.2.2.1,x.2.2.2.1) id).1,(Xk (x.2.2.1,x.2.2.2.1) id).2.1) h.log hsb
    simp only at hla
    by_cases h4:x.2.2.2.2.2.2.2.1+((x.2.2.2.2.2.2.2.2.1.length:Nat):Int)=100000
    ·have hv:Xl x id=4:=by unfold Xl;rw[h1,dt h2,dt h3,dt h4];rfl
     rw[dt h4]at hla
     rw[hv,df (show¬(4:Int)=0 by omega),dt h2,dt h3]
     simp only[hla,QQ0,QQ1,QQ2,QQ3,QQ4];rfl
    ·have hv:Xl x id=0:=by unfold Xl;rw[h1,dt h2,dt h3,df h4];rfl
     rw[df h4]at hla
     rw[hv,dt (show(0:Int)=0 by omega),dt h2,dt h3]
     obtain⟨j,hj,hj2,hg⟩:=Qxm h
     have hi0:inb x.1 x.2.2.2.2.2.2.2.2.2.1.length=true:=by rw[hj];exact Qk hj2
     have hr:=Qh1 h.log
     have hT:=Qot (Qs9 x ((Xk (x.2.2.1,x.2.2.2.1) id).1,(Xk (x.2.2.1,x.2.2.2.1) id).2.1)) (QsK h hsb h4) ((Xk (x.2.2.1,x.2.2.2.1) id).1,(Xk (x.2.2.1,x.2.2.2.1) id).2.1) hsb
     simp only[Qs9]at hT
     have hg':rd1 0 x.2.2.2.2.2.2.2.2.2.1 x.1=Xf (x.2.2.2.2.2.2.1,x.2.2.2.2.2.2.2.1,x.2.2.2.2.2.2.2.2.1):=by rw[hj,Qg hj2,hg]
     simp only[hla,QQ0,QQ1,QQ2,QQ3,QQ4,hi0,w64 (n:=rd1 0 x.2.2.2.2.2.2.2.2.2.1 x.1+1) (by rw[hg'];omega) (by rw[hg'];omega),show(true==false)=false from rfl,show(false==true)=false from rfl]
     rw[hT];rfl
   ·have hv:Xl x id=(Xk (x.2.2.1,x.2.2.2.1) id).2.2:=by unfold Xl;rw[h1,dt h2,df h3];rfl
    rw[hv,df h3,dt h2];rfl
  ·have hv:Xl x id=1:=by unfold Xl;rw[h1,df h2];rfl
   rw[hv,df (show¬(1:Int)=0 by omega),df h2];rfl
theorem QzH (l:List QY):rd1 QL l 0=l.headD QL:=by cases l<;>rfl
theorem QA3 (l:List QY):inb 0 l.length= !l.isEmpty:=by cases l<;>simp[inb]
theorem QBc (l:List QY):decide (((l.length:Nat):Int)=0)=l.isEmpty:=by
 cases l
 ·rfl
 ·simp;omega
def Qly (ns:List Qb) (k:Nat) (r:Qb×List QY×Int):Int×Int×Int×Int×Int×(List Int)×Int×(List Int)×(List Int)×(List Qd)×(List Qa)×(List Qa)×Bool×Bool×(List Qb):=((r.2.1.headD QL).1,(r.2.1.headD QL).2.1,(r.2.1.headD QL).2.2.1,(r.2.1.headD QL).2.2.2.1,(r.2.1.headD QL).2.2.2.2.1,(r.2.1.headD QL).2.2.2.2.2.1,(r.2.1.headD QL).2.2.2.2.2.2.1,(r.2.1.headD QL).2.2.2.2.2.2.2.1,(r.2.1.headD QL).2.2.2.2.2.2.2.2.1,(r.2.1.headD QL).2.2.2.2.2.2.2.2.2.1,(r.2.1.headD QL).2.2.2.2.2.2.2.2.2.2.1,(r.2.1.headD QL).2.2.2.2.2.2.2.2.2.2.2,decide (r.2.2=0), !r.2.1.isEmpty,ns.set k r.1)
theorem Qv5 (ns:List Qb) (net:List Qq) (sd:List Qr) (m:QY) (k:Nat) (hk:k<ns.length) (hm2:m.2.2.1=(k:Int)) (x:Qb) (hx:ns[k]=x) (h:NOk x) (hm:Qm7 m):
 J2 w (ns,net,sd,m.1,m.2.1,m.2.2.1,m.2.2.2.1,m.2.2.2.2.1,m.2.2.2.2.2.1,m.2.2.2.2.2.2.1,m.2.2.2.2.2.2.2.1,m.2.2.2.2.2.2.2.2.1,m.2.2.2.2.2.2.2.2.2.1,m.2.2.2.2.2.2.2.2.2.2.1,m.2.2.2.2.2.2.2.2.2.2.2)=some (Qly ns k (rcv x m)):=by
 have hr:=QE1 x h m hm
 apply QAS
 simp only[Qpz,hm2,Qk hk,Qg hk,hx,QQ1,QRb]
 rw[hm2]at hr
 rw[hr]
 simp only[QQ0,flat,QBc,QA3,QzH,show(decide ((0:Int)=0)&&Nat.blt 5 7)=true from rfl,show(decide ((0:Int)=0)&&Nat.blt 7 8)=true from rfl,show(decide ((0:Int)=0)&&Nat.blt 8 9)=true from rfl,show(decide ((0:Int)=0)&&Nat.blt 9 10)=true from rfl,show(decide ((0:Int)=0)&&Nat.blt 10 11)=true from rfl,QQ1,Qly]
 cases(rcv x m).2.1<;>rfl
def Xd (x:Qb) (to:Int):QY:=((msg x 2 to (x.2.2.2.2.2.2.2.2.2.2.2.2.1+1)).1,(msg x 2 to (x.2.2.2.2.2.2.2.2.2.2.2.2.1+1)).2.1,(msg x 2 to (x.2.2.2.2.2.2.2.2.2.2.2.2.1+1)).2.2.1,(msg x 2 to (x.2.2.2.2.2.2.2.2.2.2.2.2.1+1)).2.2.2.1,(msg x 2 to (x.2.2.2.2.2.2.2.2.2.2.2.2.1+1)).2.2.2.2.1,x.2.2.2.2.1,x.2.2.2.2.2.1,(msg x 2 to (x.2.2.2.2.2.2.2.2.2.2.2.2.1+1)).2.2.2.2.2.2.2.1,(msg x 2 to (x.2.2.2.2.2.2.2.2.2.2.2.2.1+1)).2.2.2.2.2.2.2.2.1,(msg x 2 to (x.2.2.2.2.2.2.2.2.2.2.2.2.1+1)).2.2.2.2.2.2.2.2.2.1,(msg x 2 to (x.2.2.2.2.2.2.2.2.2.2.2.2.1+1)).2.2.2.2.2.2.2.2.2.2.1,(msg x 2 to (x.2.2.2.2.2.2.2.2.2.2.2.2.1+1)).2.2.2.2.2.2.2.2.2.2.2)
theorem QDd {x:Qb}(h:NOk x) (to:Int):Qm7 (Xd x to):=by
 have h1:=Xz h
 have h2:=QaG (jo (x.2.2.1,x.2.2.2.1))
 have h3:=QyR h
 exact Qy6 ⟨by simp only[Xd];omega,by simp only[Xd,msg];omega,by simp[Xd,msg],by simp[Xd,msg],by simp[Xd,msg],by simp only[Xd,msg];omega⟩
theorem QLW (x:Qb) (h:NOk x) (to:Int):Qjq w (x.1,x.2.1,x.2.2.1,x.2.2.2.1,x.2.2.2.2.1,x.2.2.2.2.2.1,x.2.2.2.2.2.2.1,x.2.2.2.2.2.2.2.1,x.2.2.2.2.2.2.2.2.1,x.2.2.2.2.2.2.2.2.2.1,x.2.2.2.2.2.2.2.2.2.2.1,x.2.2.2.2.2.2.2.2.2.2.2.1,x.2.2.2.2.2.2.2.2.2.2.2.2.1,x.2.2.2.2.2.2.2.2.2.2.2.2.2.1,x.2.2.2.2.2.2.2.2.2.2.2.2.2.2.1,x.2.2.2.2.2.2.2.2.2.2.2.2.2.2.2.1,x.2.2.2.2.2.2.2.2.2.2.2.2.2.2.2.2.1,x.2.2.2.2.2.2.2.2.2.2.2.2.2.2.2.2.2.1,x.2.2.2.2.2.2.2.2.2.2.2.2.2.2.2.2.2.2,to)=some (bif Y8 x to then((QJ x to).1,(QJ x to).2.1,(QJ x to).2.2.1,(QJ x to).2.2.2.1,(QJ x to).2.2.2.2.1,(QJ x to).2.2.2.2.2.1,(QJ x to).2.2.2.2.2.2.1,(QJ x to).2.2.2.2.2.2.2.1,(QJ x to).2.2.2.2.2.2.2.2.1,(QJ x to).2.2.2.2.2.2.2.2.2.1,(QJ x to).2.2.2.2.2.2.2.2.2.2.1,(QJ x to).2.2.2.2.2.2.2.2.2.2.2.1,(QJ x to).2.2.2.2.2.2.2.2.2.2.2.2.1,(QJ x to).2.2.2.2.2.2.2.2.2.2.2.2.2.1,(QJ x to).2.2.2.2.2.2.2.2.2.2.2.2.2.2.1,(QJ x to).2.2.2.2.2.2.2.2.2.2.2.2.2.2.2.1,(QJ x to).2.2.2.2.2.2.2.2.2.2.2.2.2.2.2.2.1,(QJ x to).2.2.2.2.2.2.2.2.2.2.2.2.2.2.2.2.2.1,(QJ x to).2.2.2.2.2.2.2.2.2.2.2.2.2.2.2.2.2.2,(Xd x to).1,(Xd x to).2.1,(Xd x to).2.2.1,(Xd x to).2.2.2.1,(Xd x to).2.2.2.2.1,(Xd x to).2.2.2.2.2.1,(Xd x to).2.2.2.2.2.2.1,(Xd x to).2.2.2.2.2.2.2.1,(Xd x to).2.2.2.2.2.2.2.2.1,(Xd x to).2.2.2.2.2.2.2.2.2.1,(Xd x to).2.2.2.2.2.2.2.2.2.2.1,(Xd x to).2.2.2.2.2.2.2.2.2.2.2,true)else(x.1,x.2.1,x.2.2.1,x.2.2.2.1,x.2.2.2.2.1,x.2.2.2.2.2.1,x.2.2.2.2.2.2.1,x.2.2.2.2.2.2.2.1,x.2.2.2.2.2.2.2.2.1,x.2.2.2.2.2.2.2.2.2.1,x.2.2.2.2.2.2.2.2.2.2.1,x.2.2.2.2.2.2.2.2.2.2.2.1,x.2.2.2.2.2.2.2.2.2.2.2.2.1,x.2.2.2.2.2.2.2.2.2.2.2.2.2.1,x.2.2.2.2.2.2.2.2.2.2.2.2.2.2.1,x.2.2.2.2.2.2.2.2.2.2.2.2.2.2.2.1,x.2.2.2.2.2.2.2.2.2.2.2.2.2.2.2.2.1,x.2.2.2.2.2.2.2.2.2.2.2.2.2.2.2.2.2.1,x.2.2.2.2.2.2.2.2.2.2.2.2.2.2.2.2.2.2,0,0,0,0,0,[],0,[],[],[],[],[],false)):=QKk x h to
theorem QJ1 (x:Qb) (h:NOk x) (to:Int):QiX w (x.1,x.2.1,x.2.2.1,x.2.2.2.1,x.2.2.2.2.1,x.2.2.2.2.2.1,x.2.2.2.2.2.2.1,x.2.2.2.2.2.2.2.1,x.2.2.2.2.2.2.2.2.1,x.2.2.2.2.2.2.2.2.2.1,x.2.2.2.2.2.2.2.2.2.2.1,x.2.2.2.2.2.2.2.2.2.2.2.1,x.2.2.2.2.2.2.2.2.2.2.2.2.1,x.2.2.2.2.2.2.2.2.2.2.2.2.2.1,x.2.2.2.2.2.2.2.2.2.2.2.2.2.2.1,x.2.2.2.2.2.2.2.2.2.2.2.2.2.2.2.1,x.2.2.2.2.2.2.2.2.2.2.2.2.2.2.2.2.1,x.2.2.2.2.2.2.2.2.2.2.2.2.2.2.2.2.2.1,x.2.2.2.2.2.2.2.2.2.2.2.2.2.2.2.2.2.2,to)=some (bif Y8 x to then((QJ x to).1,(QJ x to).2.1,(QJ x to).2.2.1,(QJ x to).2.2.2.1,(QJ x to).2.2.2.2.1,(QJ x to).2.2.2.2.2.1,(QJ x to).2.2.2.2.2.2.1,(QJ x to).2.2.2.2.2.2.2.1,(QJ x to).2.2.2.2.2.2.2.2.1,(QJ x to).2.2.2.2.2.2.2.2.2.1,(QJ x to).2.2.2.2.2.2.2.2.2.2.1,(QJ x to).2.2.2.2.2.2.2.2.2.2.2.1,(QJ x to).2.2.2.2.2.2.2.2.2.2.2.2.1,(QJ x to).2.2.2.2.2.2.2.2.2.2.2.2.2.1,(QJ x to).2.2.2.2.2.2.2.2.2.2.2.2.2.2.1,(QJ x to).2.2.2.2.2.2.2.2.2.2.2.2.2.2.2.1,(QJ x to).2.2.2.2.2.2.2.2.2.2.2.2.2.2.2.2.1,(QJ x to).2.2.2.2.2.2.2.2.2.2.2.2.2.2.2.2.2.1,(QJ x to).2.2.2.2.2.2.2.2.2.2.2.2.2.2.2.2.2.2,(Xd x to).1,(Xd x to).2.1,(Xd x to).2.2.1,(Xd x to).2.2.2.1,(Xd x to).2.2.2.2.1,(Xd x to).2.2.2.2.2.1,(Xd x to).2.2.2.2.2.2.1,(Xd x to).2.2.2.2.2.2.2.1,(Xd x to).2.2.2.2.2.2.2.2.1,(Xd x to).2.2.2.2.2.2.2.2.2.1,(Xd x to).2.2.2.2.2.2.2.2.2.2.1,(Xd x to).2.2.2.2.2.2.2.2.2.2.2,true)else(x.1,x.2.1,x.2.2.1,x.2.2.2.1,x.2.2.2.2.1,x.2.2.2.2.2.1,x.2.2.2.2.2.2.1,x.2.2.2.2.2.2.2.1,x.2.2.2.2.2.2.2.2.1,x.2.2.2.2.2.2.2.2.2.1,x.2.2.2.2.2.2.2.2.2.2.1,x.2.2.2.2.2.2.2.2.2.2.2.1,x.2.2.2.2.2.2.2.2.2.2.2.2.1,x.2.2.2.2.2.2.2.2.2.2.2.2.2.1,x.2.2.2.2.2.2.2.2.2.2.2.2.2.2.1,x.2.2.2.2.2.2.2.2.2.2.2.2.2.2.2.1,x.2.2.2.2.2.2.2.2.2.2.2.2.2.2.2.2.1,x.2.2.2.2.2.2.2.2.2.2.2.2.2.2.2.2.2.1,x.2.2.2.2.2.2.2.2.2.2.2.2.2.2.2.2.2.2,0,0,0,0,0,[],0,[],[],[],[],[],false)):=QI7 x h to
def QyW (n:Qb) (r1 r2:Qb×List QY×Int):Option (Qb×Qb):=bif decide (r2.2.2=0)then(bif r2.2.1.isEmpty then none else(bif decide ((rcv r1.1 (r2.2.1.headD QL)).2.2=0)then some (r2.1,(rcv r1.1 (r2.2.1.headD QL)).1)else none))else none
def Qy3 (n:Qb) (r1:Qb×List QY×Int):Option (Qb×Qb):=bif decide (r1.2.2=0)then(bif r1.2.1.isEmpty then none else QyW n r1 (rcv n (r1.2.1.headD QL)))else none
def talk (x y:Qb) (q:Int):Option (Qb×Qb):=bif Y8 x q then Qy3 (QJ x q) (rcv y (Xd x q))else none
def QIu (ns:List Qb) (p q:Nat):Option (Qb×Qb)->List Qb×Bool
 |none=>(ns,false)
 |some r=>((ns.set p r.1).set q r.2,true)
def exch (ns:List Qb) (net:List Qq) (sd:List Qr) (p q:Int):List Qb×Bool:=bif two ns net sd p q then QIu ns p.toNat q.toNat (talk (nodeAt ns p) (nodeAt ns q) q)else(ns,false)
theorem head_mem {l:List QY}(h:l.isEmpty=false):l.headD QL∈l:=by
 cases l with
 |nil=>cases h
 |cons a l=>simp
theorem QHl {x y:Qb}(hx:NOk x) (hy:NOk y) {q:Int}{r:Qb×Qb}(h:talk x y q=some r):NOk r.1/\NOk r.2:=by
 unfold talk Qy3 QyW at h
 cases hc:Y8 x q
 ·rw[hc]at h;cases h
 ·rw[hc]at h
  have k1:=Qd6 hy (Xd x q)
  generalize rcv y (Xd x q)=r1 at h k1
  have k2:=Qd6 (Qj1 hx hc) (r1.2.1.headD QL)
  generalize rcv (QJ x q) (r1.2.1.headD QL)=r2 at h k2
  have k3:=Qd6 k1 (r2.2.1.headD QL)
  generalize rcv r1.1 (r2.2.1.headD QL)=r3 at h k3
  simp only[QQ1]at h
  cases h1:decide (r1.2.2=0)<;>rw[h1]at h<;>simp only[QQ1,QQ2]at h
  ·cases h
  ·cases h2:r1.2.1.isEmpty<;>rw[h2]at h<;>simp only[QQ1,QQ2]at h
   ·cases h3:decide (r2.2.2=0)<;>rw[h3]at h<;>simp only[QQ1,QQ2]at h
    ·cases h
    ·cases h4:r2.2.1.isEmpty<;>rw[h4]at h<;>simp only[QQ1,QQ2]at h
     ·cases h5:decide (r3.2.2=0)<;>rw[h5]at h<;>simp only[QQ1,QQ2]at h
      ·cases h
      ·obtain rfl:=QY12 h
       exact⟨k2,k3⟩
     ·cases h
   ·cases h
theorem QnJ {ns:List Qb}{net:List Qq}{sd:List Qr}(h:WOk ns net sd) {i:Nat}(hi:i<ns.length):NOk ns[i]:=nok (h.node hi).1
theorem QN7 {α:Type}{l:List α}{i j:Nat}(hij:i≠j) (a b c e:α):(((l.set i a).set j b).set i c).set j e=(l.set i c).set j e:=by
 rw[List.set_comm _ _ (show j≠i from fun h=>hij h.symm),QY10,QY10]
theorem QDf {ns:List Qb}{net:List Qq}{sd:List Qr}{p q:Int}(h:two ns net sd p q=true):ZW ns net sd=true/\inR p 0 ((ns.length:Nat) - 1)=true/\inR q 0 ((ns.length:Nat) - 1)=true/\p≠q:=by
 simp only[two,QQ5,QY11,decide_eq_false_iff_not]at h
 exact⟨h.1,h.2.1,h.2.2.1,h.2.2.2⟩
set_option maxHeartbeats 4000000 in
theorem QCv (ns:List Qb) (net:List Qq) (sd:List Qr) (p q:Int) (h:Xp (ns,net,sd)<=4294967296) (hs:smW ns net sd):Y3 w (ns,net,sd,p,q)=some ((exch ns net sd p q).1,net,sd,(exch ns net sd p q).2):=by
 apply QsG
 have hcw:=QiF ns net sd h
 simp only[QhF,hcw,Qvy ns net sd hs,QoA _ _ _ _ hs.1,QQ0]
 cases hw:ZW ns net sd
 ·simp only[exch,two,hw,QRm,QQ2];rfl
 ·cases hp:inR p 0 ((ns.length:Nat) - 1)
  ·simp only[exch,two,hw,hp,QRm,QRd,QQ2];rfl
  ·cases hq:inR q 0 ((ns.length:Nat) - 1)
   ·simp only[exch,two,hw,hp,hq,QRm,QRd,QQ2];rfl
   ·by_cases hpq:p=q
    ·simp only[exch,two,hw,hp,hq,dt hpq,QQ3,QRm,QRd,QQ2,QQ1]
    ·have h2:two ns net sd p q=true:=by simp only[two,hw,hp,hq,df hpq];rfl
     have wk:=VU hw
     obtain⟨i,rfl,hi⟩:=YU hp
     obtain⟨j,rfl,hj⟩:=YU hq
     have hij:i≠j:=fun e=>hpq (by rw[e])
     have hx:=QnJ wk hi
     have hy:=QnJ wk hj
     have hxi:=(wk.node hi).2.2
     have hyj:=(wk.node hj).2.2
     simp only[exch,h2,Vn hi,Vn hj,df hpq,QQ3,QQ1,QQ2,QRb,Qk hi,Qg hi]
     have hS:=QLW ns[i] hx (j:Int)
     obtain⟨x,hgx⟩:∃x,ns[i]=x:=⟨_,rfl⟩
     obtain⟨y,hgy⟩:∃y,ns[j]=y:=⟨_,rfl⟩
     rw[hgx]at hS hx hxi⊢
     rw[hgy]at hy hyj⊢
     rw[hS]
     unfold talk
     cases hc:Y8 x (j:Int)
     ·rfl
     ·simp only[QQ1,QQ0,QQ3,QQ2]
      have hm:=QDd hx (j:Int)
      have hsn:=Qj1 hx hc
      have g1:j<(ns.set i (QJ x (j:Int))).length:=by simpa using hj
      have g1':(ns.set i (QJ x (j:Int)))[j]=y:=by rw[List.getElem_set_ne hij];exact hgy
      have H1:J2 w (ns.set i ((QJ x (j:Int)).1,(QJ x (j:Int)).2.1,(QJ x (j:Int)).2.2.1,(QJ x (j:Int)).2.2.2.1,(QJ x (j:Int)).2.2.2.2.1,(QJ x (j:Int)).2.2.2.2.2.1,(QJ x (j:Int)).2.2.2.2.2.2.1,(QJ x (j:Int)).2.2.2.2.2.2.2.1,(QJ x (j:Int)).2.2.2.2.2.2.2.2.1,(QJ x (j:Int)).2.2.2.2.2.2.2.2.2.1,(QJ x (j:Int)).2.2.2.2.2.2.2.2.2.2.1,(QJ x (j:Int)).2.2.2.2.2.2.2.2.2.2.2.1,(QJ x (j:Int)).2.2.2.2.2.2.2.2.2.2.2.2.1,(QJ x (j:Int)).2.2.2.2.2.2.2.2.2.2.2.2.2.1,(QJ x (j:Int)).2.2.2.2.2.2.2.2.2.2.2.2.2.2.1,(QJ x (j:Int)).2.2.2.2.2.2.2.2.2.2.2.2.2.2.2.1,(QJ x (j:Int)).2.2.2.2.2.2.2.2.2.2.2.2.2.2.2.2.1,(QJ x (j:Int)).2.2.2.2.2.2.2.2.2.2.2.2.2.2.2.2.2.1,(QJ x (j:Int)).2.2.2.2.2.2.2.2.2.2.2.2.2.2.2.2.2.2),net,sd,(Xd x (j:Int)).1,(Xd x (j:Int)).2.1,(Xd x (j:Int)).2.2.1,(Xd x (j:Int)).2.2.2.1,(Xd x (j:Int)).2.2.2.2.1,(Xd x (j:Int)).2.2.2.2.2.1,(Xd x (j:Int)).2.2.2.2.2.2.1,(Xd x (j:Int)).2.2.2.2.2.2.2.1,(Xd x (j:Int)).2.2.2.2.2.2.2.2.1,(Xd x (j:Int)).2.2.2.2.2.2.2.2.2.1,(Xd x (j:Int)).2.2.2.2.2.2.2.2.2.2.1,(Xd x (j:Int)).2.2.2.2.2.2.2.2.2.2.2)=some (Qly (ns.set i (QJ x (j:Int))) j (rcv y (Xd x (j:Int)))):=Qv5 (ns.set i (QJ x (j:Int))) net sd (Xd x (j:Int)) j g1 rfl y g1' hy hm
      have R1:=Qd6 hy (Xd x (j:Int))
      have Q1:=QqX hy (Xd x (j:Int))
      rw[H1]
      obtain⟨r1,hr1⟩:∃r,rcv y (Xd x (j:Int))=r:=⟨_,rfl⟩
      rw[hr1]at R1 Q1⊢
      unfold Qy3
      simp only[QQ0,Qly]
      cases decide (r1.2.2=0)
      ·rfl
      ·simp only[QQ3,QQ2,QQ1]
       cases he1:r1.2.1.isEmpty
       ·simp only[QQ4,QQ3,QQ2,QQ1]
        obtain⟨ha1,ha2,ha3⟩:=Q1 _ (head_mem he1)
        have g2:i<((ns.set i (QJ x (j:Int))).set j r1.1).length:=by simpa using hi
        have g2':((ns.set i (QJ x (j:Int))).set j r1.1)[i]=(QJ x (j:Int)):=by rw[List.getElem_set_ne (fun e=>hij e.symm),List.getElem_set_self]
        have H2:J2 w ((ns.set i (QJ x (j:Int))).set j r1.1,net,sd,(r1.2.1.headD QL).1,(r1.2.1.headD QL).2.1,(r1.2.1.headD QL).2.2.1,(r1.2.1.headD QL).2.2.2.1,(r1.2.1.headD QL).2.2.2.2.1,(r1.2.1.headD QL).2.2.2.2.2.1,(r1.2.1.headD QL).2.2.2.2.2.2.1,(r1.2.1.headD QL).2.2.2.2.2.2.2.1,(r1.2.1.headD QL).2.2.2.2.2.2.2.2.1,(r1.2.1.headD QL).2.2.2.2.2.2.2.2.2.1,(r1.2.1.headD QL).2.2.2.2.2.2.2.2.2.2.1,(r1.2.1.headD QL).2.2.2.2.2.2.2.2.2.2.2)=some (Qly ((ns.set i (QJ x (j:Int))).set j r1.1) i (rcv (QJ x (j:Int)) (r1.2.1.headD QL))):=Qv5 ((ns.set i (QJ x (j:Int))).set j r1.1) net sd (r1.2.1.headD QL) i g2 (ha2.trans hxi) (QJ x (j:Int)) g2' hsn ha1
        have R2:=Qd6 hsn (r1.2.1.headD QL)
        have Q2:=QqX hsn (r1.2.1.headD QL)
        rw[H2]
        obtain⟨r2,hr2⟩:∃r,rcv (QJ x (j:Int)) (r1.2.1.headD QL)=r:=⟨_,rfl⟩
        rw[hr2]at R2 Q2⊢
        unfold QyW
        simp only[QQ0,Qly]
        cases decide (r2.2.2=0)
        ·rfl
        ·simp only[QQ3,QQ2,QQ1]
         cases he2:r2.2.1.isEmpty
         ·simp only[QQ4,QQ3,QQ2,QQ1]
          obtain⟨hb1,hb2,hb3⟩:=Q2 _ (head_mem he2)
          have g3:j<(((ns.set i (QJ x (j:Int))).set j r1.1).set i r2.1).length:=by simpa using hj
          have g3':(((ns.set i (QJ x (j:Int))).set j r1.1).set i r2.1)[j]=r1.1:=by rw[List.getElem_set_ne hij,List.getElem_set_self]
          have H3:J2 w (((ns.set i (QJ x (j:Int))).set j r1.1).set i r2.1,net,sd,(r2.2.1.headD QL).1,(r2.2.1.headD QL).2.1,(r2.2.1.headD QL).2.2.1,(r2.2.1.headD QL).2.2.2.1,(r2.2.1.headD QL).2.2.2.2.1,(r2.2.1.headD QL).2.2.2.2.2.1,(r2.2.1.headD QL).2.2.2.2.2.2.1,(r2.2.1.headD QL).2.2.2.2.2.2.2.1,(r2.2.1.headD QL).2.2.2.2.2.2.2.2.1,(r2.2.1.headD QL).2.2.2.2.2.2.2.2.2.1,(r2.2.1.headD QL).2.2.2.2.2.2.2.2.2.2.1,(r2.2.1.headD QL).2.2.2.2.2.2.2.2.2.2.2)=some (Qly (((ns.set i (QJ x (j:Int))).set j r1.1).set i r2.1) j (rcv r1.1 (r2.2.1.headD QL))):=Qv5 (((ns.set i (QJ x (j:Int))).set j r1.1).set i r2.1) net sd (r2.2.1.headD QL) j g3 (hb2.trans (ha3.trans hyj)) r1.1 g3' R1 hb1
          rw[H3]
          have hset:=QN7 (l:=ns) hij (QJ x (j:Int)) r1.1 r2.1 (rcv r1.1 (r2.2.1.headD QL)).1
          simp only[QQ0,Qly]
          rw[hset]
          cases decide ((rcv r1.1 (r2.2.1.headD QL)).2.2=0)<;>rfl
         ·rfl
       ·rfl
set_option maxHeartbeats 4000000 in
theorem Qzg (ns:List Qb) (net:List Qq) (sd:List Qr) (p q:Int) (h:Xp (ns,net,sd)<=4294967296) (hs:smW ns net sd):Y2 w (ns,net,sd,p,q)=some ((exch ns net sd p q).1,net,sd,(exch ns net sd p q).2):=by
 apply Qs4
 have hcw:=QoG ns net sd h
 simp only[QhN,hcw,QFL ns net sd p q hs,QQ0]
 cases h2:two ns net sd p q
 ·simp only[exch,h2,QQ2];rfl
 ·obtain⟨hw,hp,hq,hpq⟩:=QDf h2
  have wk:=VU hw
  obtain⟨i,rfl,hi⟩:=YU hp
  obtain⟨j,rfl,hj⟩:=YU hq
  have hx:=QnJ wk hi
  have hy:=QnJ wk hj
  simp only[exch,h2,Vn hi,Vn hj,QQ3,QQ1,QQ2,QRb,Qk hi,Qg hi,Qk hj,Qg hj,QY6,QBc,QA3,QzH]
  have hS:=QJ1 ns[i] hx (j:Int)
  obtain⟨x,hgx⟩:∃x,ns[i]=x:=⟨_,rfl⟩
  obtain⟨y,hgy⟩:∃y,ns[j]=y:=⟨_,rfl⟩
  rw[hgx]at hS hx⊢
  rw[hgy]at hy⊢
  rw[hS]
  unfold talk
  cases hc:Y8 x (j:Int)
  ·rfl
  ·simp only[QQ1,QQ0,QQ3,QQ2]
   have hm:=QDd hx (j:Int)
   have hsn:=Qj1 hx hc
   have H1:Yw w (y.1,y.2.1,y.2.2.1,y.2.2.2.1,y.2.2.2.2.1,y.2.2.2.2.2.1,y.2.2.2.2.2.2.1,y.2.2.2.2.2.2.2.1,y.2.2.2.2.2.2.2.2.1,y.2.2.2.2.2.2.2.2.2.1,y.2.2.2.2.2.2.2.2.2.2.1,y.2.2.2.2.2.2.2.2.2.2.2.1,y.2.2.2.2.2.2.2.2.2.2.2.2.1,y.2.2.2.2.2.2.2.2.2.2.2.2.2.1,y.2.2.2.2.2.2.2.2.2.2.2.2.2.2.1,y.2.2.2.2.2.2.2.2.2.2.2.2.2.2.2.1,y.2.2.2.2.2.2.2.2.2.2.2.2.2.2.2.2.1,y.2.2.2.2.2.2.2.2.2.2.2.2.2.2.2.2.2.1,y.2.2.2.2.2.2.2.2.2.2.2.2.2.2.2.2.2.2,(Xd x (j:Int)).1,(Xd x (j:Int)).2.1,(Xd x (j:Int)).2.2.1,(Xd x (j:Int)).2.2.2.1,(Xd x (j:Int)).2.2.2.2.1,(Xd x (j:Int)).2.2.2.2.2.1,(Xd x (j:Int)).2.2.2.2.2.2.1,(Xd x (j:Int)).2.2.2.2.2.2.2.1,(Xd x (j:Int)).2.2.2.2.2.2.2.2.1,(Xd x (j:Int)).2.2.2.2.2.2.2.2.2.1,(Xd x (j:Int)).2.2.2.2.2.2.2.2.2.2.1,(Xd x (j:Int)).2.2.2.2.2.2.2.2.2.2.2)=some (flat (rcv y (Xd x (j:Int)))):=Qnb y hy (Xd x (j:Int)) hm
   have R1:=Qd6 hy (Xd x (j:Int))
   have Q1:=QqX hy (Xd x (j:Int))
   rw[H1]
   obtain⟨r1,hr1⟩:∃r,rcv y (Xd x (j:Int))=r:=⟨_,rfl⟩
   rw[hr1]at R1 Q1⊢
   unfold Qy3
   simp only[QQ0,flat]
   cases decide (r1.2.2=0)
   ·rfl
   ·simp only[QQ3,QQ2,QQ1]
    cases he1:r1.2.1.isEmpty
    ·simp only[QQ4,QQ3,QQ2,QQ1]
     obtain⟨ha1,ha2,ha3⟩:=Q1 _ (head_mem he1)
     have H2:Yw w ((QJ x (j:Int)).1,(QJ x (j:Int)).2.1,(QJ x (j:Int)).2.2.1,(QJ x (j:Int)).2.2.2.1,(QJ x (j:Int)).2.2.2.2.1,(QJ x (j:Int)).2.2.2.2.2.1,(QJ x (j:Int)).2.2.2.2.2.2.1,(QJ x (j:Int)).2.2.2.2.2.2.2.1,(QJ x (j:Int)).2.2.2.2.2.2.2.2.1,(QJ x (j:Int)).2.2.2.2.2.2.2.2.2.1,(QJ x (j:Int)).2.2.2.2.2.2.2.2.2.2.1,(QJ x (j:Int)).2.2.2.2.2.2.2.2.2.2.2.1,(QJ x (j:Int)).2.2.2.2.2.2.2.2.2.2.2.2.1,(QJ x (j:Int)).2.2.2.2.2.2.2.2.2.2.2.2.2.1,(QJ x (j:Int)).2.2.2.2.2.2.2.2.2.2.2.2.2.2.1,(QJ x (j:Int)).2.2.2.2.2.2.2.2.2.2.2.2.2.2.2.1,(QJ x (j:Int)).2.2.2.2.2.2.2.2.2.2.2.2.2.2.2.2.1,(QJ x (j:Int)).2.2.2.2.2.2.2.2.2.2.2.2.2.2.2.2.2.1,(QJ x (j:Int)).2.2.2.2.2.2.2.2.2.2.2.2.2.2.2.2.2.2,(r1.2.1.headD QL).1,(r1.2.1.headD QL).2.1,(r1.2.1.headD QL).2.2.1,(r1.2.1.headD QL).2.2.2.1,(r1.2.1.headD QL).2.2.2.2.1,(r1.2.1.headD QL).2.2.2.2.2.1,(r1.2.1.headD QL).2.2.2.2.2.2.1,(r1.2.1.headD QL).2.2.2.2.2.2.2.1,(r1.2.1.headD QL).2.2.2.2.2.2.2.2.1,(r1.2.1.headD QL).2.2.2.2.2.2.2.2.2.1,(r1.2.1.headD QL).2.2.2.2.2.2.2.2.2.2.1,(r1.2.1.headD QL).2.2.2.2.2.2.2.2.2.2.2)=some (flat (rcv (QJ x (j:Int)) (r1.2.1.headD QL))):=Qnb (QJ x (j:Int)) hsn (r1.2.1.headD QL) ha1
     have R2:=Qd6 hsn (r1.2.1.headD QL)
     have Q2:=QqX hsn (r1.2.1.headD QL)
     rw[H2]
     obtain⟨r2,hr2⟩:∃r,rcv (QJ x (j:Int)) (r1.2.1.headD QL)=r:=⟨_,rfl⟩
     rw[hr2]at R2 Q2⊢
     unfold QyW
     simp only[QQ0,flat]
     cases decide (r2.2.2=0)
     ·rfl
     ·simp only[QQ3,QQ2,QQ1]
      cases he2:r2.2.1.isEmpty
      ·simp only[QQ4,QQ3,QQ2,QQ1]
       obtain⟨hb1,hb2,hb3⟩:=Q2 _ (head_mem he2)
       have H3:Yw w (r1.1.1,r1.1.2.1,r1.1.2.2.1,r1.1.2.2.2.1,r1.1.2.2.2.2.1,r1.1.2.2.2.2.2.1,r1.1.2.2.2.2.2.2.1,r1.1.2.2.2.2.2.2.2.1,r1.1.2.2.2.2.2.2.2.2.1,r1.1.2.2.2.2.2.2.2.2.2.1,r1.1.2.2.2.2.2.2.2.2.2.2.1,r1.1.2.2.2.2.2.2.2.2.2.2.2.1,r1.1.2.2.2.2.2.2.2.2.2.2.2.2.1,r1.1.2.2.2.2.2.2.2.2.2.2.2.2.2.1,r1.1.2.2.2.2.2.2.2.2.2.2.2.2.2.2.1,r1.1.2.2.2.2.2.2.2.2.2.2.2.2.2.2.2.1,r1.1.2.2.2.2.2.2.2.2.2.2.2.2.2.2.2.2.1,r1.1.2.2.2.2.2.2.2.2.2.2.2.2.2.2.2.2.2.1,r1.1.2.2.2.2.2.2.2.2.2.2.2.2.2.2.2.2.2.2,(r2.2.1.headD QL).1,(r2.2.1.headD QL).2.1,(r2.2.1.headD QL).2.2.1,(r2.2.1.headD QL).2.2.2.1,(r2.2.1.headD QL).2.2.2.2.1,(r2.2.1.headD QL).2.2.2.2.2.1,(r2.2.1.headD QL).2.2.2.2.2.2.1,(r2.2.1.headD QL).2.2.2.2.2.2.2.1,(r2.2.1.headD QL).2.2.2.2.2.2.2.2.1,(r2.2.1.headD QL).2.2.2.2.2.2.2.2.2.1,(r2.2.1.headD QL).2.2.2.2.2.2.2.2.2.2.1,(r2.2.1.headD QL).2.2.2.2.2.2.2.2.2.2.2)=some (flat (rcv r1.1 (r2.2.1.headD QL))):=Qnb r1.1 R1 (r2.2.1.headD QL) hb1
       rw[H3]
       simp only[QQ0,flat]
       cases decide ((rcv r1.1 (r2.2.1.headD QL)).2.2=0)<;>rfl
      ·rfl
    ·rfl
theorem Qsn {ns:List Qb}{net:List Qq}{sd:List Qr}{t:Int}(h:¬(Zf ns net sd t).1<0):ZW ns net sd=true/\∃i:Nat,(Zf ns net sd t).1=(i:Int)/\i<ns.length:=by
 unfold Zf at h⊢
 cases hw:ZW ns net sd
 ·rw[hw]at h;simp at h
 ·rw[hw]at h
  by_cases h2:((ns.length:Nat):Int)<2
  ·rw[dt h2]at h;simp at h
  ·rw[df h2]at h⊢
   by_cases h3:t<0
   ·rw[dt h3]at h;simp at h
   ·rw[df h3]
    simp only[QQ1,QQ2]
    have k1:=Int.tmod_nonneg (((ns.length:Nat):Int)) (show 0<=t by omega)
    have k2:=Int.tmod_lt_of_pos t (show(0:Int)<((ns.length:Nat):Int) by omega)
    exact⟨trivial,(Int.tmod t ((ns.length:Nat):Int)).toNat,by omega,by omega⟩
theorem QEI {sd:List Qr}(h:∀x∈sd,QD x.2=true):X5 sd<=61*sd.length:=by
 have:Qj Xu sd<=60*sd.length:=Qiw _ _ _ fun x hx=>yO (h x hx)
 simp only[X5];omega
theorem QCb {ns:List Qb}(h:∀x∈ns,NOk x):X7 ns<=2001*ns.length:=by
 have:Qj Q9 ns<=2000*ns.length:=Qiw _ _ _ fun x hx=>(Xq (h x hx)).1
 simp only[X7];omega
theorem QeV {ns:List Qb}{net:List Qq}{sd:List Qr}(h:∀x∈ns,NOk x) (hl:ns.length<=5) (hn:XB net<=1048576) (hd:∀x∈sd,QD x.2=true) (hdl:sd.length<=41):Xp (ns,net,sd)<=1100000/\smW ns net sd:=by
 have h1:=QCb h
 have h2:=QEI hd
 refine⟨by simp only[Xp];omega,by simp only[maxLen];omega,fun x hx=>(Xq (h x hx)).2, ?_, ?_,by simp only[maxLen];omega,fun x hx=>X0 (hd x hx)⟩
 ·simp only[XB]at hn;simp only[maxLen];omega
 ·intro p hp
  have:=Kn Xg hp
  simp only[XB]at hn
  simp only[Xg,Zw]at this
  simp only[maxLen];omega
theorem Qof {ns:List Qb}{net:List Qq}{sd:List Qr}(h:ZW ns net sd=true):∀x∈sd,QD x.2=true:=by
 simp only[ZW,QQ5,QRt,QaR]at h
 intro x hx
 exact(h.2.2.2.2.2 x hx).2
theorem Qrd {ns:List Qb}(h:∀x∈ns,NOk x) {i:Nat}{n:Qb}(hn:NOk n):∀x∈ns.set i n,NOk x:=fun x hx=>by
 rcases QY34 hx with hx|rfl
 ·exact h x hx
 ·exact hn
theorem Qv0 {ns:List Qb}{net:List Qq}{sd:List Qr}(h:WOk ns net sd):∀x∈ns,NOk x:=fun x hx=>by
 obtain⟨i,hi,rfl⟩:=List.mem_iff_getElem.1 hx
 exact QnJ h hi
theorem QBt {ns:List Qb}{net:List Qq}{sd:List Qr}(h:∀x∈ns,NOk x) (p q:Int):(∀x∈(exch ns net sd p q).1,NOk x)/\(exch ns net sd p q).1.length=ns.length:=by
 unfold exch
 cases h2:two ns net sd p q
 ·exact⟨h,rfl⟩
 ·obtain⟨_,hp,hq,_⟩:=QDf h2
  obtain⟨i,rfl,hi⟩:=YU hp
  obtain⟨j,rfl,hj⟩:=YU hq
  simp only[QQ1,Vn hi,Vn hj]
  cases ht:talk ns[i] ns[j] (j:Int)with
  |none=>exact⟨h,rfl⟩
  |some r=>
   have hr:=QHl (h _ (QRf hi)) (h _ (QRf hj)) ht
   exact⟨Qrd (Qrd h hr.1) hr.2,by simp[QIu]⟩
def QU (ns:List Qb) (i:Nat):Qb:=tick (nodeAt ns (i:Int))
def Qeo (ns:List Qb) (sd:List Qr) (i:Nat):Bool:=(lookup ((QU ns i).2.2.1,(QU ns i).2.2.2.1) (i:Int)).2.2.2.2.2&&(decide (((sd.length:Nat):Int)<40)&&decide (Xl (QU ns i) (i:Int)=0))
def qf (ns:List Qb) (sd:List Qr) (i:Nat):List Qb:=bif Qeo ns sd i then ns.set i (Q0 (QU ns i) (i:Int))else ns.set i (QU ns i)
def Y7 (ns:List Qb) (sd:List Qr) (i:Nat):List Qr:=bif Qeo ns sd i then sd++[((i:Int),jL (QU ns i) (i:Int))]else sd
def step (ns:List Qb) (net:List Qq) (sd:List Qr) (t:Int):XZ:=bif decide ((Zf ns net sd t).1<0)then(ns,net,sd)else((exch (qf ns sd (Zf ns net sd t).1.toNat) net (Y7 ns sd (Zf ns net sd t).1.toNat) (Zf ns net sd t).1 (Zf ns net sd t).2).1,net,Y7 ns sd (Zf ns net sd t).1.toNat)
theorem QpQ {ns:List Qb}(h:∀x∈ns,NOk x) {i:Nat}(hi:i<ns.length):NOk (QU ns i):=by
 unfold QU
 rw[Vn hi]
 exact QHp (h _ (QRf hi))
theorem Qou {ns:List Qb}(h:∀x∈ns,NOk x) (sd:List Qr) {i:Nat}(hi:i<ns.length):(∀x∈qf ns sd i,NOk x)/\(qf ns sd i).length=ns.length:=by
 have hn:=QpQ h hi
 unfold qf
 cases Qeo ns sd i
 ·exact⟨Qrd h hn,by simp⟩
 ·exact⟨Qrd h (QBQ hn _),by simp⟩
theorem QqD {ns:List Qb}{sd:List Qr}(h:∀x∈sd,QD x.2=true) (hl:sd.length<=40) (i:Nat):(∀x∈Y7 ns sd i,QD x.2=true)/\(Y7 ns sd i).length<=41:=by
 unfold Y7
 cases Qeo ns sd i
 ·exact⟨h,by simp only[QQ2];omega⟩
 ·refine⟨fun x hx=> ?_,by simp;omega⟩
  rcases QRh.1 hx with hx|hx
  ·exact h x hx
  ·obtain rfl:=List.mem_singleton.1 hx
   exact QE6 _ _
theorem QJK {ns:List Qb}{net:List Qq}{sd:List Qr}(h:Xp (ns,net,sd)<=1048576):XB net<=1048576:=by
 simp only[Xp]at h;omega
set_option maxHeartbeats 4000000 in
theorem QJa (ns:List Qb) (net:List Qq) (sd:List Qr) (t:Int) (h:Xp (ns,net,sd)<=4294967296) (hnet:XB net<=1048576) (hs:smW ns net sd):Qmy w (ns,net,sd,t)=some (step ns net sd t):=by
 apply QzX
 simp only[Qpx,QiF ns net sd (by omega),QJB ns net sd t hs,QQ0,step]
 by_cases hp:(Zf ns net sd t).1<0
 ·rw[dt hp];rfl
 ·obtain⟨hw,i,e,hi⟩:=Qsn hp
  have wk:=VU hw
  have hall:=Qv0 wk
  have hn:=QpQ hall hi
  have h1:=Qou hall sd hi
  have h2:=QqD (ns:=ns) (Qof hw) (by have:=wk.sd40;omega) i
  have h5:=wk.n5
  have h40:=wk.sd40
  have hsw:=QeV (net:=net) h1.1 (by rw[h1.2];omega) hnet h2.1 h2.2
  have hE:Y3 w (qf ns sd i,net,Y7 ns sd i,Zf ns net sd t)=some ((exch (qf ns sd i) net (Y7 ns sd i) (Zf ns net sd t).1 (Zf ns net sd t).2).1,net,Y7 ns sd i,(exch (qf ns sd i) net (Y7 ns sd i) (Zf ns net sd t).1 (Zf ns net sd t).2).2):=QCv (qf ns sd i) net (Y7 ns sd i) (Zf ns net sd t).1 (Zf ns net sd t).2 (by omega) hsw.2
  have hT:Qfw w ns[i]=some (QU ns i):=by
   unfold QU;rw[Vn hi]
   exact QJt ns[i] (hall _ (QRf hi))
  have hst:=X0 hn.st
  have hL:=QxT (QU ns i).2.2.1 (QU ns i).2.2.2.1 (i:Int) hst.1 hst.2
  have hS:=fun s=>QJQ (QU ns i) hn (i:Int) s
  have hls:(ns.set i (QU ns i)).length=ns.length:=by simp
  have hr:=Yg (d:=Qv) (v:=QU ns i) hi
  rw[df hp]
  simp only[e,QRb]at hE⊢
  have hset:ns.set i ((QU ns i).1,(QU ns i).2.1,(QU ns i).2.2.1,(QU ns i).2.2.2.1,(QU ns i).2.2.2.2.1,(QU ns i).2.2.2.2.2.1,(QU ns i).2.2.2.2.2.2.1,(QU ns i).2.2.2.2.2.2.2.1,(QU ns i).2.2.2.2.2.2.2.2.1,(QU ns i).2.2.2.2.2.2.2.2.2.1,(QU ns i).2.2.2.2.2.2.2.2.2.2.1,(QU ns i).2.2.2.2.2.2.2.2.2.2.2.1,(QU ns i).2.2.2.2.2.2.2.2.2.2.2.2.1,(QU ns i).2.2.2.2.2.2.2.2.2.2.2.2.2.1,(QU ns i).2.2.2.2.2.2.2.2.2.2.2.2.2.2.1,(QU ns i).2.2.2.2.2.2.2.2.2.2.2.2.2.2.2.1,(QU ns i).2.2.2.2.2.2.2.2.2.2.2.2.2.2.2.2.1,(QU ns i).2.2.2.2.2.2.2.2.2.2.2.2.2.2.2.2.2.1,(QU ns i).2.2.2.2.2.2.2.2.2.2.2.2.2.2.2.2.2.2)=ns.set i (QU ns i):=rfl
  simp only[Qk hi,Qg hi,QQ1,QQ2,hT,QQ0,hr,hls,hL,hS,QY10]
  unfold qf Y7 at hE⊢
  unfold Qeo at hE⊢
  cases hb:(lookup ((QU ns i).2.2.1,(QU ns i).2.2.2.1) (i:Int)).2.2.2.2.2
  ·rw[hb]at hE
   simp only[QRm,QQ2]at hE⊢
   simp only[hE,QQ0]
  ·rw[hb]at hE
   by_cases hl:((sd.length:Nat):Int)<40
   ·rw[dt hl]at hE⊢
    by_cases hc:Xl (QU ns i) (i:Int)=0
    ·rw[dt hc]at hE⊢
     simp only[QRd,QQ1]at hE⊢
     rw[Qu (by simp;omega),QQ1]
     exact(congrArg (fun z=>Option.bind z _) hE).trans rfl
    ·rw[df hc]at hE⊢
     simp only[QRd,QQ1,QQ2]at hE⊢
     simp only[hE,QQ0]
   ·rw[df hl]at hE⊢
    simp only[QRd,QRm,QQ1,QQ2]at hE⊢
    simp only[hE,QQ0]
set_option maxHeartbeats 4000000 in
theorem QH2 (ns:List Qb) (net:List Qq) (sd:List Qr) (t:Int) (h:Xp (ns,net,sd)<=4294967296) (hnet:XB net<=1048576) (hs:smW ns net sd):Qmi w (ns,net,sd,t)=some (step ns net sd t):=by
 apply Qz2
 simp only[Qpj,QoG ns net sd (by omega),QGA ns net sd t hs,QQ0,step]
 by_cases hp:(Zf ns net sd t).1<0
 ·rw[dt hp];rfl
 ·obtain⟨hw,i,e,hi⟩:=Qsn hp
  have wk:=VU hw
  have hall:=Qv0 wk
  have hn:=QpQ hall hi
  have h1:=Qou hall sd hi
  have h2:=QqD (ns:=ns) (Qof hw) (by have:=wk.sd40;omega) i
  have h5:=wk.n5
  have h40:=wk.sd40
  have hsw:=QeV (net:=net) h1.1 (by rw[h1.2];omega) hnet h2.1 h2.2
  have hE:Y2 w (qf ns sd i,net,Y7 ns sd i,Zf ns net sd t)=some ((exch (qf ns sd i) net (Y7 ns sd i) (Zf ns net sd t).1 (Zf ns net sd t).2).1,net,Y7 ns sd i,(exch (qf ns sd i) net (Y7 ns sd i) (Zf ns net sd t).1 (Zf ns net sd t).2).2):=Qzg (qf ns sd i) net (Y7 ns sd i) (Zf ns net sd t).1 (Zf ns net sd t).2 (by omega) hsw.2
  have hT:Qgt w (ns[i].1,ns[i].2.1,ns[i].2.2.1,ns[i].2.2.2.1,ns[i].2.2.2.2.1,ns[i].2.2.2.2.2.1,ns[i].2.2.2.2.2.2.1,ns[i].2.2.2.2.2.2.2.1,ns[i].2.2.2.2.2.2.2.2.1,ns[i].2.2.2.2.2.2.2.2.2.1,ns[i].2.2.2.2.2.2.2.2.2.2.1,ns[i].2.2.2.2.2.2.2.2.2.2.2.1,ns[i].2.2.2.2.2.2.2.2.2.2.2.2.1,ns[i].2.2.2.2.2.2.2.2.2.2.2.2.2.1,ns[i].2.2.2.2.2.2.2.2.2.2.2.2.2.2.1,ns[i].2.2.2.2.2.2.2.2.2.2.2.2.2.2.2.1,ns[i].2.2.2.2.2.2.2.2.2.2.2.2.2.2.2.2.1,ns[i].2.2.2.2.2.2.2.2.2.2.2.2.2.2.2.2.2.1,ns[i].2.2.2.2.2.2.2.2.2.2.2.2.2.2.2.2.2.2)=some (QU ns i):=by
   unfold QU;rw[Vn hi]
   exact QHF ns[i] (hall _ (QRf hi))
  have hst:=X0 hn.st
  have hL:=QuU (QU ns i).2.2.1 (QU ns i).2.2.2.1 (i:Int) hst.1 hst.2
  have hS:=fun s=>QJq (QU ns i) hn (i:Int) s
  have hls:(ns.set i (QU ns i)).length=ns.length:=by simp
  have hr:=Yg (d:=Qv) (v:=QU ns i) hi
  rw[df hp]
  simp only[e,QRb]at hE⊢
  have hset:ns.set i ((QU ns i).1,(QU ns i).2.1,(QU ns i).2.2.1,(QU ns i).2.2.2.1,(QU ns i).2.2.2.2.1,(QU ns i).2.2.2.2.2.1,(QU ns i).2.2.2.2.2.2.1,(QU ns i).2.2.2.2.2.2.2.1,(QU ns i).2.2.2.2.2.2.2.2.1,(QU ns i).2.2.2.2.2.2.2.2.2.1,(QU ns i).2.2.2.2.2.2.2.2.2.2.1,(QU ns i).2.2.2.2.2.2.2.2.2.2.2.1,(QU ns i).2.2.2.2.2.2.2.2.2.2.2.2.1,(QU ns i).2.2.2.2.2.2.2.2.2.2.2.2.2.1,(QU ns i).2.2.2.2.2.2.2.2.2.2.2.2.2.2.1,(QU ns i).2.2.2.2.2.2.2.2.2.2.2.2.2.2.2.1,(QU ns i).2.2.2.2.2.2.2.2.2.2.2.2.2.2.2.2.1,(QU ns i).2.2.2.2.2.2.2.2.2.2.2.2.2.2.2.2.2.1,(QU ns i).2.2.2.2.2.2.2.2.2.2.2.2.2.2.2.2.2.2)=ns.set i (QU ns i):=rfl
  simp only[Qk hi,Qg hi,QQ1,QQ2,hT,QQ0,hr,hls,hL,hS,QY10]
  unfold qf Y7 at hE⊢
  unfold Qeo at hE⊢
  cases hb:(lookup ((QU ns i).2.2.1,(QU ns i).2.2.2.1) (i:Int)).2.2.2.2.2
  ·rw[hb]at hE
   simp only[QRm,QQ2]at hE⊢
   simp only[hE,QQ0]
  ·rw[hb]at hE
   by_cases hl:((sd.length:Nat):Int)<40
   ·rw[dt hl]at hE⊢
    by_cases hc:Xl (QU ns i) (i:Int)=0
    ·rw[dt hc]at hE⊢
     simp only[QRd,QQ1]at hE⊢
     rw[Qu (by simp;omega),QQ1]
     exact(congrArg (fun z=>Option.bind z _) hE).trans rfl
    ·rw[df hc]at hE⊢
     simp only[QRd,QQ1,QQ2]at hE⊢
     simp only[hE,QQ0]
   ·rw[df hl]at hE⊢
    simp only[QRd,QRm,QQ1,QQ2]at hE⊢
    simp only[hE,QQ0]
theorem QrZ (r:XZ) (h:Xp r<=4294967296):∃(k:Int) (m0:List Qb) (m1:List Qq) (m2:List Qr),0<k/\VE w (r.1,r.2.1,r.2.2,1)=some (k,m0,m1,m2)/\VG w (m0,m1,m2,1)=some k:=by
 have h':=h
 simp only[Xp]at h'
 have c1:=QEj r.1
 have c2:=QEr r.2.1
 have c3:=QDX r.2.2
 refine⟨_,_,_,_, ?_,QDy r.1 r.2.1 r.2.2 1 (by omega) (by omega) h,QEU r.1 r.2.1 r.2.2 1 (by omega) (by omega) h⟩
 omega
structure Fine (x:XZ):Prop where
 mz:Xp x<=1100000
 net:XB x.2.1<=1048576
 sm:smW x.1 x.2.1 x.2.2
theorem QpN (ns:List Qb) (net:List Qq) (sd:List Qr) (h:Fine (ns,net,sd)) (t:Int):Fine (step ns net sd t):=by
 unfold step
 by_cases hp:(Zf ns net sd t).1<0
 ·rw[dt hp];exact h
 ·rw[df hp]
  obtain⟨hw,i,e,hi⟩:=Qsn hp
  have wk:=VU hw
  rw[e,QRb]
  have h1:=Qou (Qv0 wk) sd hi
  have h2:=QqD (ns:=ns) (Qof hw) (by have:=wk.sd40;omega) i
  have h3:=QBt (net:=net) (sd:=Y7 ns sd i) h1.1 (i:Int) (Zf ns net sd t).2
  have h5:=wk.n5
  have h6:=QeV (net:=net) h3.1 (by rw[h3.2,h1.2];omega) h.net h2.1 h2.2
  exact⟨h6.1,h.net,h6.2⟩
def Qez:Nat->Int->XZ->XZ
 |0,_,x=>x
 |m+1,t,x=>Qez m (t+1) (step x.1 x.2.1 x.2.2 t)
theorem QtS:(m:Nat)->(t:Int)->(x:XZ)->Fine x->Fine (Qez m t x)
 |0,_,_,h=>h
 |m+1,t,x,h=>QtS m (t+1) _ (QpN x.1 x.2.1 x.2.2 h t)
def auto (ns:List Qb) (net:List Qq) (sd:List Qr) (t:Int):XZ:=Qez (min t.toNat 60) 0 (ns,net,sd)
theorem QxO (t:Int):(m i:Nat)->(ns:List Qb)->(net:List Qq)->(sd:List Qr)->Fine (ns,net,sd)->i+m=min t.toNat 60->yD wl (t,(i:Int),ns,net,sd)=some (Qez m (i:Int) (ns,net,sd))
 |0,i,ns,net,sd,h,hm=>by
  apply Ql8
  simp only[Qjo,Qez]
  by_cases h1:(i:Int)<t
  ·rw[dt h1,df (show¬(i:Int)<60 by omega)];rfl
  ·rw[df h1];rfl
 |m+1,i,ns,net,sd,h,hm=>by
  apply Ql8
  have hz:=h.mz
  have ih:=QxO t m (i+1) (step ns net sd (i:Int)).1 (step ns net sd (i:Int)).2.1 (step ns net sd (i:Int)).2.2 (QpN ns net sd h i) (by omega)
  simp only[Qjo,Qez,dt (show(i:Int)<t by omega),dt (show(i:Int)<60 by omega),QQ1,QJa ns net sd (i:Int) (by omega) h.net h.sm,QQ0,w64 (n:=(i:Int)+1) (by omega) (by omega)]
  exact ih
theorem Qtr (t:Int):(m i:Nat)->(ns:List Qb)->(net:List Qq)->(sd:List Qr)->Fine (ns,net,sd)->i+m=min t.toNat 60->yU wl (t,(i:Int),ns,net,sd)=some (Qez m (i:Int) (ns,net,sd))
 |0,i,ns,net,sd,h,hm=>by
  apply QmG
  simp only[QjD,Qez]
  by_cases h1:(i:Int)<t
  ·rw[dt h1,df (show¬(i:Int)<60 by omega)];rfl
  ·rw[df h1];rfl
 |m+1,i,ns,net,sd,h,hm=>by
  apply QmG
  have hz:=h.mz
  have ih:=Qtr t m (i+1) (step ns net sd (i:Int)).1 (step ns net sd (i:Int)).2.1 (step ns net sd (i:Int)).2.2 (QpN ns net sd h i) (by omega)
  simp only[QjD,Qez,dt (show(i:Int)<t by omega),dt (show(i:Int)<60 by omega),QQ1,QH2 ns net sd (i:Int) (by omega) h.net h.sm,QQ0,w64 (n:=(i:Int)+1) (by omega) (by omega)]
  exact ih
theorem QJo (ns:List Qb) (net:List Qq) (sd:List Qr) (t:Int) (h:Fine (ns,net,sd)):QfW w (ns,net,sd,t)=some (auto ns net sd t):=by
 apply QAP
 have hz:=h.mz
 have e:=QxO t (min t.toNat 60) 0 ns net sd h (by omega)
 simp only[QQ6]at e
 simp only[Qpu,QiF ns net sd (by omega),QQ0,e,auto]
theorem QHT (ns:List Qb) (net:List Qq) (sd:List Qr) (t:Int) (h:Fine (ns,net,sd)):Qlz w (ns,net,sd,t)=some (auto ns net sd t):=by
 apply QAn
 have hz:=h.mz
 have e:=Qtr t (min t.toNat 60) 0 ns net sd h (by omega)
 simp only[QQ6]at e
 simp only[Qpq,QoG ns net sd (by omega),QQ0,e,auto]
set_option maxHeartbeats 4000000 in
theorem QOi (a0:List Qb) (a1:List Qq) (a2:List Qr) (a3:Int) (hf:Qd9 (a0,a1,a2)):v8 w (a0,a1,a2,a3)=some true:=by
 apply QpG
 have hs:=QGU hf
 simp only[QcC,QHE a0 a1 a2 1048576 (by omega) (by omega) hf,QQ0]
 by_cases h:(Xp (a0,a1,a2):Int)<=1048576
 ·rw[VH h,df (by omega),QQ2]
  have hnet:=QJK (show Xp (a0,a1,a2)<=1048576 by omega)
  have hF:Fine (a0,a1,a2):=⟨by omega,hnet,hs⟩
  have hz:=(QtS (min a3.toNat 60) 0 _ hF).mz
  have hi:=QJo a0 a1 a2 a3 hF
  have hq:=QHT a0 a1 a2 a3 hF
  have ht:=QHR a0 a1 a2 (by omega)
  have he:=Qzy a0 a1 a2 (by omega)
  obtain⟨k,m0,m1,m2,hk,hm,hh⟩:=QrZ (a0,a1,a2) (by omega)
  simp only at hm
  unfold auto at hi hq
  generalize Qez (min a3.toNat 60) 0 (a0,a1,a2)=r at hi hq hz
  obtain⟨k',n0,n1,n2,hk',hm',hh'⟩:=QrZ r (by omega)
  have he2:KF w (r.1,r.2.1,r.2.2,r)=some true:=Qzy r.1 r.2.1 r.2.2 (show Xp r<=4294967296 by omega)
  simp only[ht,hi,hq,he,hm,hm',hh',he2,QQ0,QQ3,QQ2,df (show¬k<0 by omega),df (show¬k'<0 by omega),decide_true]
 ·rw[KU h,dt (by omega),QQ1]
end Go.Proofs.YtiejfnbmficbmaaGreat.M
