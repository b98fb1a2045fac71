/- What the plain forms that FnExactStep reaches come to: PRcv2. No conditions but those that each theorem states. -/
import Derived.Test.YtjenicbpdklpbaaGreatFnExactStepPRecv
set_option linter.all false
namespace Go.Proofs.YtjenicbpdklpbaaGreat.M
open Go Go.Eng Go.Proofs
set_option linter.unusedVariables false
def yz (x:Qb) (m:Q4):Bool:=Qj0 m&&(decide (m.2.2.1=x.1)&&(!decide (x.2.1<=m.2.1)&&decide (((m.2.2.2.2.2.2.2.1.length:Nat):Int)=x.2.1)))
theorem Qtg {x:Qb}{m:Q4}(h:yz x m=true):Fit x m:=by
 simp only[yz,QQ5,Bool.not_eq_true',QRu,decide_eq_false_iff_not]at h
 exact⟨mok h.1,h.2.1,by omega,h.2.2.2⟩
def rcv (x:Qb) (m:Q4):Qb×List Q4×Int:=bif yz x m then
 (bif decide (m.1=0)then(brought x m,[msg (brought x m) 1 m.2.1 m.2.2.2.1],0)
 else bif decide (m.1=1)then(heard x m,[],0)
 else bif decide (m.1=2)then(bif Za x m then(x,[msg x 5 m.2.1 m.2.2.2.1],3)else(Qt x m,[qs (Qt x m) m],0))
 else bif decide (m.1=3)then(bif decide (find x m false<0)then(x,[],2)else(brought (gone x (find x m false)) m,[Qag (brought (gone x (find x m false)) m) m],0))
 else bif decide (m.1=4)then(bif decide (find x m true<0)then(x,[],2)else(brought (gone x (find x m true)) m,[],0))
 else(bif decide (find x m false<0)then(x,[],2)else(gone x (find x m false),[],0)))
 else(x,[],1)
def flat (r:Qb×List Q4×Int):Int×Int×(List Qd)×(List Qa)×(List Int)×Int×Int×Int×(List Qj)×(List Int)×(List Int)×(List (List Int))×Int×Int×(List Qz)×Int×Int×Int×(List QN)×(List Q4)×Int:=(r.1.1,r.1.2.1,r.1.2.2.1,r.1.2.2.2.1,r.1.2.2.2.2.1,r.1.2.2.2.2.2.1,r.1.2.2.2.2.2.2.1,r.1.2.2.2.2.2.2.2.1,r.1.2.2.2.2.2.2.2.2.1,r.1.2.2.2.2.2.2.2.2.2.1,r.1.2.2.2.2.2.2.2.2.2.2.1,r.1.2.2.2.2.2.2.2.2.2.2.2.1,r.1.2.2.2.2.2.2.2.2.2.2.2.2.1,r.1.2.2.2.2.2.2.2.2.2.2.2.2.2.1,r.1.2.2.2.2.2.2.2.2.2.2.2.2.2.2.1,r.1.2.2.2.2.2.2.2.2.2.2.2.2.2.2.2.1,r.1.2.2.2.2.2.2.2.2.2.2.2.2.2.2.2.2.1,r.1.2.2.2.2.2.2.2.2.2.2.2.2.2.2.2.2.2.1,r.1.2.2.2.2.2.2.2.2.2.2.2.2.2.2.2.2.2.2,r.2.1,r.2.2)
theorem jb {x:Qb}{m:Q4}(hf:Fit x m) (k:Int):Fit (gone x k) m:=⟨hf.ok,hf.to,hf.src,hf.len⟩
theorem Qd0 {x:Qb}(h:NOk x) (m:Q4):NOk (rcv x m).1:=by
 unfold rcv
 cases hb:yz x m
 ·exact h
 ·have hf:=Qtg hb
  simp only[QQ1]
  cases decide (m.1=0)<;>simp only[QQ1,QQ2]
  ·cases decide (m.1=1)<;>simp only[QQ1,QQ2]
   ·cases decide (m.1=2)<;>simp only[QQ1,QQ2]
    ·cases decide (m.1=3)<;>simp only[QQ1,QQ2]
     ·cases decide (m.1=4)<;>simp only[QQ1,QQ2]
      ·cases decide (find x m false<0)
       ·exact qw h _
       ·exact h
      ·cases decide (find x m true<0)
       ·exact ZW (qw h _) (jb hf _)
       ·exact h
     ·cases decide (find x m false<0)
      ·exact ZW (qw h _) (jb hf _)
      ·exact h
    ·cases hc:Za x m
     ·exact yE h hf hc
     ·exact h
   ·exact yc h hf
  ·exact ZW h hf
theorem Qqe {x:Qb}(h:NOk x) (m:Q4):∀a∈(rcv x m).2.1,Qmi a/\a.2.2.1=m.2.1/\a.2.1=x.1:=by
 unfold rcv
 cases hb:yz x m
 ·simp
 ·have hf:=Qtg hb
  simp only[QQ1]
  cases decide (m.1=0)<;>simp only[QQ1,QQ2]
  ·cases decide (m.1=1)<;>simp only[QQ1,QQ2]
   ·cases decide (m.1=2)<;>simp only[QQ1,QQ2]
    ·cases decide (m.1=3)<;>simp only[QQ1,QQ2]
     ·cases decide (m.1=4)<;>simp only[QQ1,QQ2]
      ·cases decide (find x m false<0)<;>simp
      ·cases decide (find x m true<0)<;>simp
     ·cases decide (find x m false<0)
      ·intro a ha
       obtain rfl:=List.mem_singleton.1 ha
       exact⟨QCi (ZW (qw h _) (jb hf _)) hf.ok,rfl,rfl⟩
      ·simp
    ·cases hc:Za x m
     ·intro a ha
      obtain rfl:=List.mem_singleton.1 ha
      exact⟨QBn (yE h hf hc) m,rfl,rfl⟩
     ·intro a ha
      obtain rfl:=List.mem_singleton.1 ha
      exact⟨QEb h _ _ _,rfl,rfl⟩
   ·simp
  ·intro a ha
   obtain rfl:=List.mem_singleton.1 ha
   exact⟨QEb (ZW h hf) _ _ _,rfl,rfl⟩
theorem QIk (m:Q4) (h:Qmi m):Qbk w (m.1,m.2.1,m.2.2.1,m.2.2.2.1,m.2.2.2.2.1,m.2.2.2.2.2.1,m.2.2.2.2.2.2.1,m.2.2.2.2.2.2.2.1,m.2.2.2.2.2.2.2.2.1,m.2.2.2.2.2.2.2.2.2.1,m.2.2.2.2.2.2.2.2.2.2.1,m.2.2.2.2.2.2.2.2.2.2.2)=some (Qj0 m):=QGn m.1 m.2.1 m.2.2.1 m.2.2.2.1 m.2.2.2.2.1 m.2.2.2.2.2.1 m.2.2.2.2.2.2.1 m.2.2.2.2.2.2.2.1 m.2.2.2.2.2.2.2.2.1 m.2.2.2.2.2.2.2.2.2.1 m.2.2.2.2.2.2.2.2.2.2.1 m.2.2.2.2.2.2.2.2.2.2.2 h
theorem QFM (m:Q4) (h:Qmi m):QaI w (m.1,m.2.1,m.2.2.1,m.2.2.2.1,m.2.2.2.2.1,m.2.2.2.2.2.1,m.2.2.2.2.2.2.1,m.2.2.2.2.2.2.2.1,m.2.2.2.2.2.2.2.2.1,m.2.2.2.2.2.2.2.2.2.1,m.2.2.2.2.2.2.2.2.2.2.1,m.2.2.2.2.2.2.2.2.2.2.2)=some (Qj0 m):=QEf m.1 m.2.1 m.2.2.1 m.2.2.2.1 m.2.2.2.2.1 m.2.2.2.2.2.1 m.2.2.2.2.2.2.1 m.2.2.2.2.2.2.2.1 m.2.2.2.2.2.2.2.2.1 m.2.2.2.2.2.2.2.2.2.1 m.2.2.2.2.2.2.2.2.2.2.1 m.2.2.2.2.2.2.2.2.2.2.2 h
set_option maxHeartbeats 2000000 in
theorem QC7 (x:Qb) (h:NOk x) (m:Q4) (hm:Qmi m):Qa9 w (x.1,x.2.1,x.2.2.1,x.2.2.2.1,x.2.2.2.2.1,x.2.2.2.2.2.1,x.2.2.2.2.2.2.1,x.2.2.2.2.2.2.2.1,x.2.2.2.2.2.2.2.2.1,x.2.2.2.2.2.2.2.2.2.1,x.2.2.2.2.2.2.2.2.2.2.1,x.2.2.2.2.2.2.2.2.2.2.2.1,x.2.2.2.2.2.2.2.2.2.2.2.2.1,x.2.2.2.2.2.2.2.2.2.2.2.2.2.1,x.2.2.2.2.2.2.2.2.2.2.2.2.2.2.1,x.2.2.2.2.2.2.2.2.2.2.2.2.2.2.2.1,x.2.2.2.2.2.2.2.2.2.2.2.2.2.2.2.2.1,x.2.2.2.2.2.2.2.2.2.2.2.2.2.2.2.2.2.1,x.2.2.2.2.2.2.2.2.2.2.2.2.2.2.2.2.2.2,m.1,m.2.1,m.2.2.1,m.2.2.2.1,m.2.2.2.2.1,m.2.2.2.2.2.1,m.2.2.2.2.2.2.1,m.2.2.2.2.2.2.2.1,m.2.2.2.2.2.2.2.2.1,m.2.2.2.2.2.2.2.2.2.1,m.2.2.2.2.2.2.2.2.2.2.1,m.2.2.2.2.2.2.2.2.2.2.2)=some (flat (rcv x m)):=by
 have hsm:=Xr h
 have hk:=Xz h
 have hc:=Qtf h
 have hn:=okN h
 apply Qt8
 simp only[Qi9,hc,hn,QIk m hm,QQ0,QQ3,QQ2]
 unfold rcv
 cases hmk:Qj0 m
 ·simp only[yz,hmk,QRm,QQ2];rfl
 ·by_cases h2:m.2.2.1=x.1
  ·by_cases h1:x.2.1<=m.2.1
   ·simp only[yz,hmk,dt h2,dt h1,QQ3,QRm,Bool.and_false,QRd,QQ2,QQ1];rfl
   ·by_cases h7:((m.2.2.2.2.2.2.2.1.length:Nat):Int)=x.2.1
    ·have hb:yz x m=true:=by simp only[yz,hmk,dt h2,df h1,dt h7];rfl
     have hf:=Qtg hb
     rw[hb,dt h2,df h1,dt h7]
     simp only[QQ3,QQ2,QQ1]
     obtain⟨j,hj,hj2⟩:=QmR h hf
     have hi0:inb x.1 m.2.2.2.2.2.2.2.1.length=true:=by rw[hj];exact Qk hj2
     have hkd:=QW.1 hf.ok.kind
     have hlv:=QzD hf.ok
     have hmx:m.2.2.2.2.2.2.2.2.1.length<=maxLen:=by simp only[maxLen];omega
     rcases(show m.1=0\/m.1=1\/m.1=2\/m.1=3\/m.1=4\/m.1=5 by omega)with hz|hz|hz|hz|hz|hz
     ·simp only[df (show¬m.1=1 by omega),df (show¬m.1=2 by omega),df (show¬m.1=3 by omega),df (show¬m.1=4 by omega),df (show¬m.1=5 by omega),dt hz,QQ1,Qpy x h m hf,Qc9 _ (ZW h hf),QQ0];rfl
     ·simp only[df (show¬m.1=0 by omega),df (show¬m.1=2 by omega),df (show¬m.1=3 by omega),df (show¬m.1=4 by omega),df (show¬m.1=5 by omega),dt hz,QQ1,QQ2,Qd6 x h m hf,QQ0];rfl
     ·simp only[df (show¬m.1=0 by omega),df (show¬m.1=1 by omega),df (show¬m.1=3 by omega),df (show¬m.1=4 by omega),df (show¬m.1=5 by omega),dt hz,QQ1,QQ2,QxN x h m hf,QQ0]
      cases Za x m<;>rfl
     ·simp only[df (show¬m.1=0 by omega),df (show¬m.1=1 by omega),df (show¬m.1=2 by omega),df (show¬m.1=4 by omega),df (show¬m.1=5 by omega),dt hz,QQ1,QQ2,Qoi x h m false,QQ0]
      by_cases hg:find x m false<0
      ·rw[dt hg];rfl
      ·rw[df hg]
       have hgn:=qw h (find x m false)
       have hgf:=jb hf (find x m false)
       have ha:Vr w (x.1,x.2.1,x.2.2.1,x.2.2.2.1,x.2.2.2.2.1,x.2.2.2.2.2.1,x.2.2.2.2.2.2.1,x.2.2.2.2.2.2.2.1,x.2.2.2.2.2.2.2.2.1,x.2.2.2.2.2.2.2.2.2.1,x.2.2.2.2.2.2.2.2.2.2.1,x.2.2.2.2.2.2.2.2.2.2.2.1,x.2.2.2.2.2.2.2.2.2.2.2.2.1,x.2.2.2.2.2.2.2.2.2.2.2.2.2.1,Qk7 x.2.2.2.2.2.2.2.2.2.2.2.2.2.2.1 (find x m false),x.2.2.2.2.2.2.2.2.2.2.2.2.2.2.2.1,x.2.2.2.2.2.2.2.2.2.2.2.2.2.2.2.2.1,x.2.2.2.2.2.2.2.2.2.2.2.2.2.2.2.2.2.1,x.2.2.2.2.2.2.2.2.2.2.2.2.2.2.2.2.2.2,m.1,m.2.1,m.2.2.1,m.2.2.2.1,m.2.2.2.2.1,m.2.2.2.2.2.1,m.2.2.2.2.2.2.1,m.2.2.2.2.2.2.2.1,m.2.2.2.2.2.2.2.2.1,m.2.2.2.2.2.2.2.2.2.1,m.2.2.2.2.2.2.2.2.2.2.1,m.2.2.2.2.2.2.2.2.2.2.2)=some (brought (gone x (find x m false)) m):=Qpy (gone x (find x m false)) hgn m hgf
       have hbn:=ZW hgn hgf
       have hp:Ky w ((brought (gone x (find x m false)) m).1,(brought (gone x (find x m false)) m).2.1,(brought (gone x (find x m false)) m).2.2.1,(brought (gone x (find x m false)) m).2.2.2.1,(brought (gone x (find x m false)) m).2.2.2.2.1,(brought (gone x (find x m false)) m).2.2.2.2.2.1,(brought (gone x (find x m false)) m).2.2.2.2.2.2.1,(brought (gone x (find x m false)) m).2.2.2.2.2.2.2.1,(brought (gone x (find x m false)) m).2.2.2.2.2.2.2.2.1,(brought (gone x (find x m false)) m).2.2.2.2.2.2.2.2.2.1,(brought (gone x (find x m false)) m).2.2.2.2.2.2.2.2.2.2.1,(brought (gone x (find x m false)) m).2.2.2.2.2.2.2.2.2.2.2.1,(brought (gone x (find x m false)) m).2.2.2.2.2.2.2.2.2.2.2.2.1,(brought (gone x (find x m false)) m).2.2.2.2.2.2.2.2.2.2.2.2.2.1,(brought (gone x (find x m false)) m).2.2.2.2.2.2.2.2.2.2.2.2.2.2.1,(brought (gone x (find x m false)) m).2.2.2.2.2.2.2.2.2.2.2.2.2.2.2.1,(brought (gone x (find x m false)) m).2.2.2.2.2.2.2.2.2.2.2.2.2.2.2.2.1,(brought (gone x (find x m false)) m).2.2.2.2.2.2.2.2.2.2.2.2.2.2.2.2.2.1,(brought (gone x (find x m false)) m).2.2.2.2.2.2.2.2.2.2.2.2.2.2.2.2.2.2,m.2.2.2.2.2.2.2.2.1,m.1,m.2.1,m.2.2.1,m.2.2.2.1,m.2.2.2.2.1,m.2.2.2.2.2.1,m.2.2.2.2.2.2.1,m.2.2.2.2.2.2.2.1,m.2.2.2.2.2.2.2.2.1,m.2.2.2.2.2.2.2.2.2.1,m.2.2.2.2.2.2.2.2.2.2.1,m.2.2.2.2.2.2.2.2.2.2.2)=some (vt (brought (gone x (find x m false)) m) m.2.2.2.2.2.2.2.2.1 (rd1 0 m.2.2.2.2.2.2.2.1 x.1)):=QsY (brought (gone x (find x m false)) m) hbn _ hmx m hi0
       simp only[QQ3,QQ2,ha,Qc9 (brought (gone x (find x m false)) m) hbn,vS m.2.2.2.2.2.2.2.2.1 (by omega),hp,QQ0];rfl
     ·simp only[df (show¬m.1=0 by omega),df (show¬m.1=1 by omega),df (show¬m.1=2 by omega),df (show¬m.1=3 by omega),df (show¬m.1=5 by omega),dt hz,QQ1,QQ2,Qoi x h m true,QQ0]
      by_cases hg:find x m true<0
      ·rw[dt hg];rfl
      ·rw[df hg]
       have hgn:=qw h (find x m true)
       have hgf:=jb hf (find x m true)
       have ha:Vr w (x.1,x.2.1,x.2.2.1,x.2.2.2.1,x.2.2.2.2.1,x.2.2.2.2.2.1,x.2.2.2.2.2.2.1,x.2.2.2.2.2.2.2.1,x.2.2.2.2.2.2.2.2.1,x.2.2.2.2.2.2.2.2.2.1,x.2.2.2.2.2.2.2.2.2.2.1,x.2.2.2.2.2.2.2.2.2.2.2.1,x.2.2.2.2.2.2.2.2.2.2.2.2.1,x.2.2.2.2.2.2.2.2.2.2.2.2.2.1,Qk7 x.2.2.2.2.2.2.2.2.2.2.2.2.2.2.1 (find x m true),x.2.2.2.2.2.2.2.2.2.2.2.2.2.2.2.1,x.2.2.2.2.2.2.2.2.2.2.2.2.2.2.2.2.1,x.2.2.2.2.2.2.2.2.2.2.2.2.2.2.2.2.2.1,x.2.2.2.2.2.2.2.2.2.2.2.2.2.2.2.2.2.2,m.1,m.2.1,m.2.2.1,m.2.2.2.1,m.2.2.2.2.1,m.2.2.2.2.2.1,m.2.2.2.2.2.2.1,m.2.2.2.2.2.2.2.1,m.2.2.2.2.2.2.2.2.1,m.2.2.2.2.2.2.2.2.2.1,m.2.2.2.2.2.2.2.2.2.2.1,m.2.2.2.2.2.2.2.2.2.2.2)=some (brought (gone x (find x m true)) m):=Qpy (gone x (find x m true)) hgn m hgf
       have hbn:=ZW hgn hgf
       simp only[QQ3,QQ2,ha,QQ0];rfl
     ·simp only[df (show¬m.1=0 by omega),df (show¬m.1=1 by omega),df (show¬m.1=2 by omega),df (show¬m.1=3 by omega),df (show¬m.1=4 by omega),dt hz,QQ1,QQ2,Qoi x h m false,QQ0]
      by_cases hg:find x m false<0
      ·rw[dt hg];rfl
      ·rw[df hg]
       have hgn:=qw h (find x m false)
       have hgf:=jb hf (find x m false)
       rfl
    ·simp only[yz,hmk,dt h2,df h1,df h7,QQ4,QQ3,Bool.and_false,QRd,QQ2,QQ1];rfl
  ·simp only[yz,hmk,df h2,QQ4,QRm,Bool.and_false,QQ2,QQ1];rfl
set_option maxHeartbeats 2000000 in
theorem Qms (x:Qb) (h:NOk x) (m:Q4) (hm:Qmi m):Ys w (x.1,x.2.1,x.2.2.1,x.2.2.2.1,x.2.2.2.2.1,x.2.2.2.2.2.1,x.2.2.2.2.2.2.1,x.2.2.2.2.2.2.2.1,x.2.2.2.2.2.2.2.2.1,x.2.2.2.2.2.2.2.2.2.1,x.2.2.2.2.2.2.2.2.2.2.1,x.2.2.2.2.2.2.2.2.2.2.2.1,x.2.2.2.2.2.2.2.2.2.2.2.2.1,x.2.2.2.2.2.2.2.2.2.2.2.2.2.1,x.2.2.2.2.2.2.2.2.2.2.2.2.2.2.1,x.2.2.2.2.2.2.2.2.2.2.2.2.2.2.2.1,x.2.2.2.2.2.2.2.2.2.2.2.2.2.2.2.2.1,x.2.2.2.2.2.2.2.2.2.2.2.2.2.2.2.2.2.1,x.2.2.2.2.2.2.2.2.2.2.2.2.2.2.2.2.2.2,m.1,m.2.1,m.2.2.1,m.2.2.2.1,m.2.2.2.2.1,m.2.2.2.2.2.1,m.2.2.2.2.2.2.1,m.2.2.2.2.2.2.2.1,m.2.2.2.2.2.2.2.2.1,m.2.2.2.2.2.2.2.2.2.1,m.2.2.2.2.2.2.2.2.2.2.1,m.2.2.2.2.2.2.2.2.2.2.2)=some (flat (rcv x m)):=by
 have hsm:=Xr h
 have hk:=Xz h
 have hc:=QfK h
 have hn:=QDY h
 apply QuP
 simp only[Qjn,hc,hn,QFM m hm,QQ0,QQ3,QQ2]
 unfold rcv
 cases hmk:Qj0 m
 ·simp only[yz,hmk,QRm,QQ2];rfl
 ·by_cases h2:m.2.2.1=x.1
  ·by_cases h1:x.2.1<=m.2.1
   ·simp only[yz,hmk,dt h2,dt h1,QQ3,QRm,Bool.and_false,QRd,QQ2,QQ1];rfl
   ·by_cases h7:((m.2.2.2.2.2.2.2.1.length:Nat):Int)=x.2.1
    ·have hb:yz x m=true:=by simp only[yz,hmk,dt h2,df h1,dt h7];rfl
     have hf:=Qtg hb
     rw[hb,dt h2,df h1,dt h7]
     simp only[QQ3,QQ2,QQ1]
     obtain⟨j,hj,hj2⟩:=QmR h hf
     have hi0:inb x.1 m.2.2.2.2.2.2.2.1.length=true:=by rw[hj];exact Qk hj2
     have hkd:=QW.1 hf.ok.kind
     have hlv:=QzD hf.ok
     have hmx:m.2.2.2.2.2.2.2.2.1.length<=maxLen:=by simp only[maxLen];omega
     rcases(show m.1=0\/m.1=1\/m.1=2\/m.1=3\/m.1=4\/m.1=5 by omega)with hz|hz|hz|hz|hz|hz
     ·simp only[df (show¬m.1=1 by omega),df (show¬m.1=2 by omega),df (show¬m.1=3 by omega),df (show¬m.1=4 by omega),df (show¬m.1=5 by omega),dt hz,QQ1,QgC x h m hf,Qe1 _ (ZW h hf),QQ0];rfl
     ·simp only[df (show¬m.1=0 by omega),df (show¬m.1=2 by omega),df (show¬m.1=3 by omega),df (show¬m.1=4 by omega),df (show¬m.1=5 by omega),dt hz,QQ1,QQ2,Qml x h m hf,QQ0];rfl
     ·simp only[df (show¬m.1=0 by omega),df (show¬m.1=1 by omega),df (show¬m.1=3 by omega),df (show¬m.1=4 by omega),df (show¬m.1=5 by omega),dt hz,QQ1,QQ2,QEq x h m hf,QQ0]
      cases Za x m<;>rfl
     ·simp only[df (show¬m.1=0 by omega),df (show¬m.1=1 by omega),df (show¬m.1=2 by omega),df (show¬m.1=4 by omega),df (show¬m.1=5 by omega),dt hz,QQ1,QQ2,QnP x h m,QQ0]
      by_cases hg:find x m false<0
      ·rw[dt hg];rfl
      ·rw[df hg]
       have hgn:=qw h (find x m false)
       have hgf:=jb hf (find x m false)
       obtain⟨i,hi,hil⟩:=QrH hg
       have hgo:VU w (x.1,x.2.1,x.2.2.1,x.2.2.2.1,x.2.2.2.2.1,x.2.2.2.2.2.1,x.2.2.2.2.2.2.1,x.2.2.2.2.2.2.2.1,x.2.2.2.2.2.2.2.2.1,x.2.2.2.2.2.2.2.2.2.1,x.2.2.2.2.2.2.2.2.2.2.1,x.2.2.2.2.2.2.2.2.2.2.2.1,x.2.2.2.2.2.2.2.2.2.2.2.2.1,x.2.2.2.2.2.2.2.2.2.2.2.2.2.1,x.2.2.2.2.2.2.2.2.2.2.2.2.2.2.1,x.2.2.2.2.2.2.2.2.2.2.2.2.2.2.2.1,x.2.2.2.2.2.2.2.2.2.2.2.2.2.2.2.2.1,x.2.2.2.2.2.2.2.2.2.2.2.2.2.2.2.2.2.1,x.2.2.2.2.2.2.2.2.2.2.2.2.2.2.2.2.2.2,find x m false)=some (gone x (find x m false)):=by rw[hi];exact QnW x h i hil
       simp only[hgo,QQ2,QQ0]
       have hbn:=ZW hgn hgf
       have ha:=QgC (gone x (find x m false)) hgn m hgf
       have hp:=Quw (brought (gone x (find x m false)) m) hbn m.2.2.2.2.2.2.2.2.1 hmx (rd1 0 m.2.2.2.2.2.2.2.1 x.1)
       simp only[ha,Qe1 (brought (gone x (find x m false)) m) hbn,List.length_nil,QRe,QRo,Qu (show m.2.2.2.2.2.2.2.2.1.length*8<=140737488351232 by omega),hi0,QQ1,hp,QQ0];rfl
     ·simp only[df (show¬m.1=0 by omega),df (show¬m.1=1 by omega),df (show¬m.1=2 by omega),df (show¬m.1=3 by omega),df (show¬m.1=5 by omega),dt hz,QQ1,QQ2,QnP x h m,QQ0]
      by_cases hg:find x m true<0
      ·rw[dt hg];rfl
      ·rw[df hg]
       have hgn:=qw h (find x m true)
       have hgf:=jb hf (find x m true)
       obtain⟨i,hi,hil⟩:=QrH hg
       have hgo:VU w (x.1,x.2.1,x.2.2.1,x.2.2.2.1,x.2.2.2.2.1,x.2.2.2.2.2.1,x.2.2.2.2.2.2.1,x.2.2.2.2.2.2.2.1,x.2.2.2.2.2.2.2.2.1,x.2.2.2.2.2.2.2.2.2.1,x.2.2.2.2.2.2.2.2.2.2.1,x.2.2.2.2.2.2.2.2.2.2.2.1,x.2.2.2.2.2.2.2.2.2.2.2.2.1,x.2.2.2.2.2.2.2.2.2.2.2.2.2.1,x.2.2.2.2.2.2.2.2.2.2.2.2.2.2.1,x.2.2.2.2.2.2.2.2.2.2.2.2.2.2.2.1,x.2.2.2.2.2.2.2.2.2.2.2.2.2.2.2.2.1,x.2.2.2.2.2.2.2.2.2.2.2.2.2.2.2.2.2.1,x.2.2.2.2.2.2.2.2.2.2.2.2.2.2.2.2.2.2,find x m true)=some (gone x (find x m true)):=by rw[hi];exact QnW x h i hil
       simp only[hgo,QQ2,QQ0]
       have hbn:=ZW hgn hgf
       have ha:=QgC (gone x (find x m true)) hgn m hgf
       simp only[ha,QQ0];rfl
     ·simp only[df (show¬m.1=0 by omega),df (show¬m.1=1 by omega),df (show¬m.1=2 by omega),df (show¬m.1=3 by omega),df (show¬m.1=4 by omega),dt hz,QQ1,QQ2,QnP x h m,QQ0]
      by_cases hg:find x m false<0
      ·rw[dt hg];rfl
      ·rw[df hg]
       have hgn:=qw h (find x m false)
       have hgf:=jb hf (find x m false)
       obtain⟨i,hi,hil⟩:=QrH hg
       have hgo:VU w (x.1,x.2.1,x.2.2.1,x.2.2.2.1,x.2.2.2.2.1,x.2.2.2.2.2.1,x.2.2.2.2.2.2.1,x.2.2.2.2.2.2.2.1,x.2.2.2.2.2.2.2.2.1,x.2.2.2.2.2.2.2.2.2.1,x.2.2.2.2.2.2.2.2.2.2.1,x.2.2.2.2.2.2.2.2.2.2.2.1,x.2.2.2.2.2.2.2.2.2.2.2.2.1,x.2.2.2.2.2.2.2.2.2.2.2.2.2.1,x.2.2.2.2.2.2.2.2.2.2.2.2.2.2.1,x.2.2.2.2.2.2.2.2.2.2.2.2.2.2.2.1,x.2.2.2.2.2.2.2.2.2.2.2.2.2.2.2.2.1,x.2.2.2.2.2.2.2.2.2.2.2.2.2.2.2.2.2.1,x.2.2.2.2.2.2.2.2.2.2.2.2.2.2.2.2.2.2,find x m false)=some (gone x (find x m false)):=by rw[hi];exact QnW x h i hil
       simp only[hgo,QQ2,QQ0]
       rfl
    ·simp only[yz,hmk,dt h2,df h1,df h7,QQ4,QQ3,Bool.and_false,QRd,QQ2,QQ1];rfl
  ·simp only[yz,hmk,df h2,QQ4,QRm,Bool.and_false,QQ2,QQ1];rfl
end Go.Proofs.YtjenicbpdklpbaaGreat.M
