/- What the plain forms that FnExactStep reaches come to: PRecv. No conditions but those that each theorem states. -/
import Derived.Test.YtjenicbpdklpbaaGreatFnExactStepPSend
set_option linter.all false
namespace Go.Proofs.YtjenicbpdklpbaaGreat.M
open Go Go.Eng Go.Proofs
set_option linter.unusedVariables false
def KA (x:Qb) (m:Q4) (b:Bool):Int:=Xv (Xg m.2.1 b 0 x.2.2.2.2.2.2.2.2.2.2.2.2.2.2.1)
def find (x:Qb) (m:Q4) (b:Bool):Int:=bif decide (KA x m b<0)then -1 else(bif decide ((rd1 X7 x.2.2.2.2.2.2.2.2.2.2.2.2.2.2.1 (KA x m b)).2.1=m.2.2.2.1)then KA x m b else -1)
def yr (x:Qb) (l:List Qz):Qb:=(x.1,x.2.1,x.2.2.1,x.2.2.2.1,x.2.2.2.2.1,x.2.2.2.2.2.1,x.2.2.2.2.2.2.1,x.2.2.2.2.2.2.2.1,x.2.2.2.2.2.2.2.2.1,x.2.2.2.2.2.2.2.2.2.1,x.2.2.2.2.2.2.2.2.2.2.1,x.2.2.2.2.2.2.2.2.2.2.2.1,x.2.2.2.2.2.2.2.2.2.2.2.2.1,x.2.2.2.2.2.2.2.2.2.2.2.2.2.1,l,x.2.2.2.2.2.2.2.2.2.2.2.2.2.2.2.1,x.2.2.2.2.2.2.2.2.2.2.2.2.2.2.2.2.1,x.2.2.2.2.2.2.2.2.2.2.2.2.2.2.2.2.2.1,x.2.2.2.2.2.2.2.2.2.2.2.2.2.2.2.2.2.2)
def Qk7 (l:List Qz) (k:Int):List Qz:=l.take k.toNat++l.drop (k.toNat+1)
def gone (x:Qb) (k:Int):Qb:=yr x (Qk7 x.2.2.2.2.2.2.2.2.2.2.2.2.2.2.1 k)
theorem QiH {x:Qb}(h:NOk x) {l:List Qz}(h1:((l.length:Nat):Int)<=x.2.2.2.2.2.2.2.2.2.2.2.2.2.1) (h2:X9 x.1 x.2.1 x.2.2.2.2.2.2.2.2.2.2.2.2.2.2.2.1 [] l=true):NOk (yr x l) where
 n:=h.n
 id:=h.id
 st:=h.st
 tree:=h.tree
 log:=h.log
 got:=h.got
 ack:=h.ack
 own:=h.own
 heard:=h.heard
 seen:=h.seen
 num:=h.num
 clock:=h.clock
 wait:=h.wait
 limit:=h.limit
 slots:=h.slots
 rlen:=h.rlen
 rises:=h.rises
 room:=h1
 sess:=h2
theorem QE2 (l:List Qz) (k:Int):(Qk7 l k).length<=l.length:=by
 simp only[Qk7,QRj,List.length_take,List.length_drop];omega
theorem qw {x:Qb}(h:NOk x) (k:Int):NOk (gone x k):=QiH h (by have:=QE2 x.2.2.2.2.2.2.2.2.2.2.2.2.2.2.1 k;have:=h.room;omega) (QDu h.sess _)
theorem QBY (p:Int) (b:Bool):(off:Nat)->(l:List Qz)->Xv (Xg p b off l)<0->Xv (Xg p b off l)= -1
 |_,[],_=>rfl
 |off,y::l,h=>by
  rw[Xg]at h⊢
  cases hk:decide (y.1=p)&&(y.2.2.1==b)
  ·rw[hk]at h;exact QBY p b (off+1) l h
  ·rw[hk]at h;simp[Xv]at h;omega
theorem QsC (x:Qb) (m:Q4) (b:Bool):(Xv (Xg m.2.1 b 0 x.2.2.2.2.2.2.2.2.2.2.2.2.2.2.1)<0/\Xv (Xg m.2.1 b 0 x.2.2.2.2.2.2.2.2.2.2.2.2.2.2.1)= -1/\find x m b= -1)\/∃i:Nat,∃hi:i<x.2.2.2.2.2.2.2.2.2.2.2.2.2.2.1.length,Xv (Xg m.2.1 b 0 x.2.2.2.2.2.2.2.2.2.2.2.2.2.2.1)=(i:Int)/\((((x.2.2.2.2.2.2.2.2.2.2.2.2.2.2.1)[i].2.1=m.2.2.2.1)/\find x m b=(i:Int))\/((¬(x.2.2.2.2.2.2.2.2.2.2.2.2.2.2.1)[i].2.1=m.2.2.2.1)/\find x m b= -1)):=by
 unfold find KA
 by_cases hs:Xv (Xg m.2.1 b 0 x.2.2.2.2.2.2.2.2.2.2.2.2.2.2.1)<0
 ·exact .inl ⟨hs,QBY _ _ _ _ hs,by rw[dt hs];rfl⟩
 ·obtain⟨i,e,hi,_⟩:=Qe6 _ _ _ _ hs
  rw[QRo]at e
  refine .inr ⟨i,hi,e, ?_⟩
  rw[df hs,e,Qg hi]
  by_cases hd:(x.2.2.2.2.2.2.2.2.2.2.2.2.2.2.1)[i].2.1=m.2.2.2.1
  ·exact .inl ⟨hd,by rw[dt hd];rfl⟩
  ·exact .inr ⟨hd,by rw[df hd];rfl⟩
theorem QrH {x:Qb}{m:Q4}{b:Bool}(h:¬find x m b<0):∃i:Nat,find x m b=(i:Int)/\i<x.2.2.2.2.2.2.2.2.2.2.2.2.2.2.1.length:=by
 unfold find at h⊢
 by_cases hs:KA x m b<0
 ·rw[dt hs]at h;simp at h
 ·rw[df hs]at h⊢
  obtain⟨i,e,hi,_⟩:=Qe6 _ _ _ _ hs
  cases hd:decide ((rd1 X7 x.2.2.2.2.2.2.2.2.2.2.2.2.2.2.1 (KA x m b)).2.1=m.2.2.2.1)
  ·rw[hd]at h;simp at h
  ·exact⟨i,by simpa[KA]using e,hi⟩
set_option maxHeartbeats 1000000 in
theorem Qoi (x:Qb) (h:NOk x) (m:Q4) (b:Bool):xu w (x.1,x.2.1,x.2.2.1,x.2.2.2.1,x.2.2.2.2.1,x.2.2.2.2.2.1,x.2.2.2.2.2.2.1,x.2.2.2.2.2.2.2.1,x.2.2.2.2.2.2.2.2.1,x.2.2.2.2.2.2.2.2.2.1,x.2.2.2.2.2.2.2.2.2.2.1,x.2.2.2.2.2.2.2.2.2.2.2.1,x.2.2.2.2.2.2.2.2.2.2.2.2.1,x.2.2.2.2.2.2.2.2.2.2.2.2.2.1,x.2.2.2.2.2.2.2.2.2.2.2.2.2.2.1,x.2.2.2.2.2.2.2.2.2.2.2.2.2.2.2.1,x.2.2.2.2.2.2.2.2.2.2.2.2.2.2.2.2.1,x.2.2.2.2.2.2.2.2.2.2.2.2.2.2.2.2.2.1,x.2.2.2.2.2.2.2.2.2.2.2.2.2.2.2.2.2.2,m.1,m.2.1,m.2.2.1,m.2.2.2.1,m.2.2.2.2.1,m.2.2.2.2.2.1,m.2.2.2.2.2.2.1,m.2.2.2.2.2.2.2.1,m.2.2.2.2.2.2.2.2.1,m.2.2.2.2.2.2.2.2.2.1,m.2.2.2.2.2.2.2.2.2.2.1,m.2.2.2.2.2.2.2.2.2.2.2,b)=some (bif decide (find x m b<0)then(x.1,x.2.1,x.2.2.1,x.2.2.2.1,x.2.2.2.2.1,x.2.2.2.2.2.1,x.2.2.2.2.2.2.1,x.2.2.2.2.2.2.2.1,x.2.2.2.2.2.2.2.2.1,x.2.2.2.2.2.2.2.2.2.1,x.2.2.2.2.2.2.2.2.2.2.1,x.2.2.2.2.2.2.2.2.2.2.2.1,x.2.2.2.2.2.2.2.2.2.2.2.2.1,x.2.2.2.2.2.2.2.2.2.2.2.2.2.1,x.2.2.2.2.2.2.2.2.2.2.2.2.2.2.1,x.2.2.2.2.2.2.2.2.2.2.2.2.2.2.2.1,x.2.2.2.2.2.2.2.2.2.2.2.2.2.2.2.2.1,x.2.2.2.2.2.2.2.2.2.2.2.2.2.2.2.2.2.1,x.2.2.2.2.2.2.2.2.2.2.2.2.2.2.2.2.2.2,false)else(x.1,x.2.1,x.2.2.1,x.2.2.2.1,x.2.2.2.2.1,x.2.2.2.2.2.1,x.2.2.2.2.2.2.1,x.2.2.2.2.2.2.2.1,x.2.2.2.2.2.2.2.2.1,x.2.2.2.2.2.2.2.2.2.1,x.2.2.2.2.2.2.2.2.2.2.1,x.2.2.2.2.2.2.2.2.2.2.2.1,x.2.2.2.2.2.2.2.2.2.2.2.2.1,x.2.2.2.2.2.2.2.2.2.2.2.2.2.1,Qk7 x.2.2.2.2.2.2.2.2.2.2.2.2.2.2.1 (find x m b),x.2.2.2.2.2.2.2.2.2.2.2.2.2.2.2.1,x.2.2.2.2.2.2.2.2.2.2.2.2.2.2.2.2.1,x.2.2.2.2.2.2.2.2.2.2.2.2.2.2.2.2.2.1,x.2.2.2.2.2.2.2.2.2.2.2.2.2.2.2.2.2.2,true)):=by
 have hk:=Xz h
 apply Qsw
 simp only[QiY,QAg x m.2.1 b (by simp only[maxLen];omega),QQ0]
 rcases QsC x m b with⟨hs,he,hf⟩|⟨i,hi,e,⟨hd,hf⟩|⟨hd,hf⟩⟩
 ·rw[hf,he];rfl
 ·rw[hf,e,df (show¬(i:Int)<0 by omega)]
  simp only[QQ2,Qk hi,QQ1,Qg hi,dt hd,QQ3]
  rw[w64 (n:=(i:Int)+1) (by omega) (by omega),Qj6 x.2.2.2.2.2.2.2.2.2.2.2.2.2.2.1 ((i:Int)+1) (by omega) (by omega)]
  simp only[dt (show(0:Int)<=0/\0<=(i:Int)/\(i:Int)<=((x.2.2.2.2.2.2.2.2.2.2.2.2.2.2.1.length:Nat):Int) by omega),dt (show(0:Int)<=(i:Int)+1/\(i:Int)+1<=((x.2.2.2.2.2.2.2.2.2.2.2.2.2.2.1.length:Nat):Int)/\((x.2.2.2.2.2.2.2.2.2.2.2.2.2.2.1.length:Nat):Int)<=((x.2.2.2.2.2.2.2.2.2.2.2.2.2.2.1.length:Nat):Int) by omega),Int.sub_zero,QRb,Int.toNat_zero,QRg,List.length_nil,QRe,QRo,QQ1]
  rw[Qu (by rw[List.length_take];omega),Qu (by rw[List.length_take,List.length_drop];omega)]
  simp only[QQ1,Qk7,QRb]
  rw[show((i:Int)+1).toNat=i+1 by omega]
 ·rw[hf,e,df (show¬(i:Int)<0 by omega)]
  simp only[QQ2,Qk hi,QQ1,Qg hi,df hd,QQ4,dt (show(-1:Int)<0 by omega)]
set_option maxHeartbeats 1000000 in
theorem QnP (x:Qb) (h:NOk x) (m:Q4) (b:Bool):QbC w (x.1,x.2.1,x.2.2.1,x.2.2.2.1,x.2.2.2.2.1,x.2.2.2.2.2.1,x.2.2.2.2.2.2.1,x.2.2.2.2.2.2.2.1,x.2.2.2.2.2.2.2.2.1,x.2.2.2.2.2.2.2.2.2.1,x.2.2.2.2.2.2.2.2.2.2.1,x.2.2.2.2.2.2.2.2.2.2.2.1,x.2.2.2.2.2.2.2.2.2.2.2.2.1,x.2.2.2.2.2.2.2.2.2.2.2.2.2.1,x.2.2.2.2.2.2.2.2.2.2.2.2.2.2.1,x.2.2.2.2.2.2.2.2.2.2.2.2.2.2.2.1,x.2.2.2.2.2.2.2.2.2.2.2.2.2.2.2.2.1,x.2.2.2.2.2.2.2.2.2.2.2.2.2.2.2.2.2.1,x.2.2.2.2.2.2.2.2.2.2.2.2.2.2.2.2.2.2,m.1,m.2.1,m.2.2.1,m.2.2.2.1,m.2.2.2.2.1,m.2.2.2.2.2.1,m.2.2.2.2.2.2.1,m.2.2.2.2.2.2.2.1,m.2.2.2.2.2.2.2.2.1,m.2.2.2.2.2.2.2.2.2.1,m.2.2.2.2.2.2.2.2.2.2.1,m.2.2.2.2.2.2.2.2.2.2.2,b)=some (find x m b):=by
 have hk:=Xz h
 apply QuN
 simp only[QiD,QrC x m.2.1 b (by simp only[maxLen];omega),QQ0]
 rcases QsC x m b with⟨hs,he,hf⟩|⟨i,hi,e,⟨hd,hf⟩|⟨hd,hf⟩⟩
 ·rw[hf,he];rfl
 ·rw[hf,e,dt (show(0:Int)<=(i:Int) by omega)]
  simp only[Qk hi,QQ1,Qg hi,dt hd,QQ3,QQ2]
 ·rw[hf,e,dt (show(0:Int)<=(i:Int) by omega)]
  simp only[Qk hi,QQ1,Qg hi,df hd,QQ4]
theorem QnW (x:Qb) (h:NOk x) (i:Nat) (hi:i<x.2.2.2.2.2.2.2.2.2.2.2.2.2.2.1.length):VU w (x.1,x.2.1,x.2.2.1,x.2.2.2.1,x.2.2.2.2.1,x.2.2.2.2.2.1,x.2.2.2.2.2.2.1,x.2.2.2.2.2.2.2.1,x.2.2.2.2.2.2.2.2.1,x.2.2.2.2.2.2.2.2.2.1,x.2.2.2.2.2.2.2.2.2.2.1,x.2.2.2.2.2.2.2.2.2.2.2.1,x.2.2.2.2.2.2.2.2.2.2.2.2.1,x.2.2.2.2.2.2.2.2.2.2.2.2.2.1,x.2.2.2.2.2.2.2.2.2.2.2.2.2.2.1,x.2.2.2.2.2.2.2.2.2.2.2.2.2.2.2.1,x.2.2.2.2.2.2.2.2.2.2.2.2.2.2.2.2.1,x.2.2.2.2.2.2.2.2.2.2.2.2.2.2.2.2.2.1,x.2.2.2.2.2.2.2.2.2.2.2.2.2.2.2.2.2.2,(i:Int))=some (gone x (i:Int)):=by
 have hk:=Xz h
 have hsm:=Xr h
 have hc:=QfK h
 apply Que
 simp only[QjW,hc,QQ0,gone,yr]
 rw[w64 (n:=(i:Int)+1) (by omega) (by omega),Qj6 x.2.2.2.2.2.2.2.2.2.2.2.2.2.2.1 ((i:Int)+1) (by omega) (by omega)]
 simp only[dt (show(0:Int)<=0/\0<=(i:Int)/\(i:Int)<=((x.2.2.2.2.2.2.2.2.2.2.2.2.2.2.1.length:Nat):Int) by omega),dt (show(0:Int)<=(i:Int)+1/\(i:Int)+1<=((x.2.2.2.2.2.2.2.2.2.2.2.2.2.2.1.length:Nat):Int)/\((x.2.2.2.2.2.2.2.2.2.2.2.2.2.2.1.length:Nat):Int)<=((x.2.2.2.2.2.2.2.2.2.2.2.2.2.2.1.length:Nat):Int) by omega),Int.sub_zero,QRb,Int.toNat_zero,QRg,List.length_nil,QRe,QRo,QQ1]
 rw[Qu (by rw[List.length_take];omega),Qu (by rw[List.length_take,List.length_drop];omega)]
 simp only[QQ1,Qk7,QRb]
 rw[show((i:Int)+1).toNat=i+1 by omega]
def vt (y:Qb) (lv:List Int) (seq:Int):Qj:=join (Zb (y.2.2.1,y.2.2.2.1) lv) ((ship y seq).1,(ship y seq).2.1)
theorem Qyt {y:Qb}(h:NOk y) (lv:List Int) (seq:Int):QC (vt y lv seq)=true:=xF (Qcf lv h.st) (Qwl h seq)
theorem QsY (y:Qb) (h:NOk y) (lv:List Int) (hlv:lv.length<=maxLen) (m:Q4) (hi:inb y.1 m.2.2.2.2.2.2.2.1.length=true):Ky w (y.1,y.2.1,y.2.2.1,y.2.2.2.1,y.2.2.2.2.1,y.2.2.2.2.2.1,y.2.2.2.2.2.2.1,y.2.2.2.2.2.2.2.1,y.2.2.2.2.2.2.2.2.1,y.2.2.2.2.2.2.2.2.2.1,y.2.2.2.2.2.2.2.2.2.2.1,y.2.2.2.2.2.2.2.2.2.2.2.1,y.2.2.2.2.2.2.2.2.2.2.2.2.1,y.2.2.2.2.2.2.2.2.2.2.2.2.2.1,y.2.2.2.2.2.2.2.2.2.2.2.2.2.2.1,y.2.2.2.2.2.2.2.2.2.2.2.2.2.2.2.1,y.2.2.2.2.2.2.2.2.2.2.2.2.2.2.2.2.1,y.2.2.2.2.2.2.2.2.2.2.2.2.2.2.2.2.2.1,y.2.2.2.2.2.2.2.2.2.2.2.2.2.2.2.2.2.2,lv,m.1,m.2.1,m.2.2.1,m.2.2.2.1,m.2.2.2.2.1,m.2.2.2.2.2.1,m.2.2.2.2.2.2.1,m.2.2.2.2.2.2.2.1,m.2.2.2.2.2.2.2.2.1,m.2.2.2.2.2.2.2.2.2.1,m.2.2.2.2.2.2.2.2.2.2.1,m.2.2.2.2.2.2.2.2.2.2.2)=some (vt y lv (rd1 0 m.2.2.2.2.2.2.2.1 y.1)):=by
 have hs:=XX h.st
 have hsl:=Qcf lv h.st
 have h1:yP w (y.2.2.1,y.2.2.2.1,lv)=some (Zb (y.2.2.1,y.2.2.2.1) lv):=by
  rw[QzR _ _ lv hlv hs.1 hs.2,h.st];rfl
 have hj:Zq w ((Zb (y.2.2.1,y.2.2.2.1) lv).1,(Zb (y.2.2.1,y.2.2.2.1) lv).2,(ship y (rd1 0 m.2.2.2.2.2.2.2.1 y.1)).1,(ship y (rd1 0 m.2.2.2.2.2.2.2.1 y.1)).2.1)=some (vt y lv (rd1 0 m.2.2.2.2.2.2.2.1 y.1)):=QcG _ ((ship y (rd1 0 m.2.2.2.2.2.2.2.1 y.1)).1,(ship y (rd1 0 m.2.2.2.2.2.2.2.1 y.1)).2.1) (XX hsl) (XX (Qwl h _))
 apply Qts
 simp only[Qip,hi,QQ1,QHJ y h,h1,hj,QQ0]
theorem Quw (y:Qb) (h:NOk y) (lv:List Int) (hlv:lv.length<=maxLen) (seq:Int):V0 w (y.1,y.2.1,y.2.2.1,y.2.2.2.1,y.2.2.2.2.1,y.2.2.2.2.2.1,y.2.2.2.2.2.2.1,y.2.2.2.2.2.2.2.1,y.2.2.2.2.2.2.2.2.1,y.2.2.2.2.2.2.2.2.2.1,y.2.2.2.2.2.2.2.2.2.2.1,y.2.2.2.2.2.2.2.2.2.2.2.1,y.2.2.2.2.2.2.2.2.2.2.2.2.1,y.2.2.2.2.2.2.2.2.2.2.2.2.2.1,y.2.2.2.2.2.2.2.2.2.2.2.2.2.2.1,y.2.2.2.2.2.2.2.2.2.2.2.2.2.2.2.1,y.2.2.2.2.2.2.2.2.2.2.2.2.2.2.2.2.1,y.2.2.2.2.2.2.2.2.2.2.2.2.2.2.2.2.2.1,y.2.2.2.2.2.2.2.2.2.2.2.2.2.2.2.2.2.2,lv,seq)=some (vt y lv seq):=by
 have hs:=Kj h.st
 have hsl:=Qcf lv h.st
 have h1:xp w (y.2.2.1,y.2.2.2.1,lv)=some (Zb (y.2.2.1,y.2.2.2.1) lv):=Qw3 _ _ lv hlv (by simp only at hs;omega) (by simp only at hs;omega)
 have hj:Yn w ((Zb (y.2.2.1,y.2.2.2.1) lv).1,(Zb (y.2.2.1,y.2.2.2.1) lv).2,(ship y seq).1,(ship y seq).2.1)=some (vt y lv seq):=Qlb _ ((ship y seq).1,(ship y seq).2.1) hsl (Qwl h _)
 apply Qsy
 simp only[Qi4,QCX y h,h1,hj,QQ0]
def qs (y:Qb) (m:Q4):Q4:=(3,y.1,m.2.1,m.2.2.2.1,Xd (y.2.2.2.2.2.2.1,y.2.2.2.2.2.2.2.1,y.2.2.2.2.2.2.2.2.1),y.2.2.2.2.1,y.2.2.2.2.2.1,y.2.2.2.2.2.2.2.2.2.1,differ y.2.2.2.2.1 y.2.2.2.2.2.1 m.2.2.2.2.2.1 m.2.2.2.2.2.2.1,(vt y (differ y.2.2.2.2.1 y.2.2.2.2.2.1 m.2.2.2.2.2.1 m.2.2.2.2.2.2.1) (rd1 0 m.2.2.2.2.2.2.2.1 y.1)).1,(vt y (differ y.2.2.2.2.1 y.2.2.2.2.2.1 m.2.2.2.2.2.1 m.2.2.2.2.2.2.1) (rd1 0 m.2.2.2.2.2.2.2.1 y.1)).2,marksOf (y.2.2.1,y.2.2.2.1))
def Qag (y:Qb) (m:Q4):Q4:=(4,y.1,m.2.1,m.2.2.2.1,Xd (y.2.2.2.2.2.2.1,y.2.2.2.2.2.2.2.1,y.2.2.2.2.2.2.2.2.1),[],0,y.2.2.2.2.2.2.2.2.2.1,m.2.2.2.2.2.2.2.2.1,(vt y m.2.2.2.2.2.2.2.2.1 (rd1 0 m.2.2.2.2.2.2.2.1 y.1)).1,(vt y m.2.2.2.2.2.2.2.2.1 (rd1 0 m.2.2.2.2.2.2.2.1 y.1)).2,marksOf (y.2.2.1,y.2.2.2.1))
theorem QnF (a:List Int) (ra:Int) (b:List Int) (rb:Int):(differ a ra b rb).length<=4:=by
 have h:∀i,(QjU a b i).length<=1:=fun i=>by unfold QjU;cases(decide (((a.length:Nat):Int)=4)&&decide (((b.length:Nat):Int)=4)&&decide (rd1 0 a (i:Int)=rd1 0 b (i:Int)))<;>simp
 unfold differ
 cases decide (ra=rb)
 ·have h0:=h 0
  have h1:=h 1
  have h2:=h 2
  have h3:=h 3
  simp only[QQ2,List.range',List.flatMap_cons,List.flatMap_nil,QRj,List.length_nil,QRo,Nat.reduceAdd];omega
 ·simp
theorem Qyb {y:Qb}(h:NOk y):y.2.2.2.2.1.length=4:=by
 have:=h.tree
 rw[X8,h.st]at this
 have:=congrArg (fun z:Zi=>z.1.length) this
 simpa[leaves]using this
theorem QzD {m:Q4}(h:MOk m):m.2.2.2.2.2.2.2.2.1.length<=4:=by
 rcases Qwm _ _ h.lv (by omega)with h|h
 ·omega
 ·rw[h];simp
theorem Qx1 {a b c d e f:Nat}(h:a<=5/\b<=5/\c<=5/\d<=5/\e<=5/\f<=5):a<=maxLen/\b<=maxLen/\c<=maxLen/\d<=maxLen/\e<=maxLen/\f<=maxLen:=by
 simp only[maxLen];omega
theorem QEb {y:Qb}(h:NOk y) (k to num:Int):Qmi (msg y k to num):=by
 have h1:=Xz h
 have h2:=Qab (yS (y.2.2.1,y.2.2.2.1))
 exact Qx1 ⟨by simp[msg],by simp only[msg];omega,by simp[msg],by simp[msg],by simp[msg],by simp only[msg];omega⟩
theorem QBn {y:Qb}(h:NOk y) (m:Q4):Qmi (qs y m):=by
 have h1:=Xz h
 have h2:=Qab (yS (y.2.2.1,y.2.2.2.1))
 have h3:=Qyb h
 have h4:=QnF y.2.2.2.2.1 y.2.2.2.2.2.1 m.2.2.2.2.2.1 m.2.2.2.2.2.2.1
 have h5:=Kj (Qyt h (differ y.2.2.2.2.1 y.2.2.2.2.2.1 m.2.2.2.2.2.1 m.2.2.2.2.2.2.1) (rd1 0 m.2.2.2.2.2.2.2.1 y.1))
 exact Qx1 ⟨by simp only[qs];omega,by simp only[qs];omega,by simp only[qs];omega,by simp only[qs];omega,by simp only[qs];omega,by simp only[qs];omega⟩
theorem QCi {y:Qb}(h:NOk y) {m:Q4}(hm:MOk m):Qmi (Qag y m):=by
 have h1:=Xz h
 have h2:=Qab (yS (y.2.2.1,y.2.2.2.1))
 have h4:=QzD hm
 have h5:=Kj (Qyt h m.2.2.2.2.2.2.2.2.1 (rd1 0 m.2.2.2.2.2.2.2.1 y.1))
 exact Qx1 ⟨by simp[Qag],by simp only[Qag];omega,by simp only[Qag];omega,by simp only[Qag];omega,by simp only[Qag];omega,by simp only[Qag];omega⟩
def zn (x:Qb) (m:Q4):List Qz:=bif decide (0<=KA x m true)then x.2.2.2.2.2.2.2.2.2.2.2.2.2.2.1.set (KA x m true).toNat ((rd1 X7 x.2.2.2.2.2.2.2.2.2.2.2.2.2.2.1 (KA x m true)).1,m.2.2.2.1,(rd1 X7 x.2.2.2.2.2.2.2.2.2.2.2.2.2.2.1 (KA x m true)).2.2.1,0)else x.2.2.2.2.2.2.2.2.2.2.2.2.2.2.1++[(m.2.1,m.2.2.2.1,true,0)]
def Za (x:Qb) (m:Q4):Bool:= !decide (0<=KA x m true)&&decide (x.2.2.2.2.2.2.2.2.2.2.2.2.2.1<=((x.2.2.2.2.2.2.2.2.2.2.2.2.2.2.1.length:Nat):Int))
theorem Qxn (x:Qb) (m:Q4):(∃i:Nat,∃hi:i<x.2.2.2.2.2.2.2.2.2.2.2.2.2.2.1.length,Xv (Xg m.2.1 true 0 x.2.2.2.2.2.2.2.2.2.2.2.2.2.2.1)=(i:Int)/\Za x m=false/\zn x m=x.2.2.2.2.2.2.2.2.2.2.2.2.2.2.1.set i ((x.2.2.2.2.2.2.2.2.2.2.2.2.2.2.1)[i].1,m.2.2.2.1,(x.2.2.2.2.2.2.2.2.2.2.2.2.2.2.1)[i].2.2.1,0))\/(Xv (Xg m.2.1 true 0 x.2.2.2.2.2.2.2.2.2.2.2.2.2.2.1)<0/\x.2.2.2.2.2.2.2.2.2.2.2.2.2.1<=((x.2.2.2.2.2.2.2.2.2.2.2.2.2.2.1.length:Nat):Int)/\Za x m=true)\/(Xv (Xg m.2.1 true 0 x.2.2.2.2.2.2.2.2.2.2.2.2.2.2.1)<0/\¬x.2.2.2.2.2.2.2.2.2.2.2.2.2.1<=((x.2.2.2.2.2.2.2.2.2.2.2.2.2.2.1.length:Nat):Int)/\Za x m=false/\zn x m=x.2.2.2.2.2.2.2.2.2.2.2.2.2.2.1++[(m.2.1,m.2.2.2.1,true,0)]):=by
 unfold Za zn KA
 by_cases hs:Xv (Xg m.2.1 true 0 x.2.2.2.2.2.2.2.2.2.2.2.2.2.2.1)<0
 ·rw[df (show¬0<=Xv (Xg m.2.1 true 0 x.2.2.2.2.2.2.2.2.2.2.2.2.2.2.1) by omega)]
  by_cases hf:x.2.2.2.2.2.2.2.2.2.2.2.2.2.1<=((x.2.2.2.2.2.2.2.2.2.2.2.2.2.2.1.length:Nat):Int)
  ·exact .inr (.inl ⟨hs,hf,by rw[dt hf];rfl⟩)
  ·exact .inr (.inr ⟨hs,hf,by rw[df hf];rfl,rfl⟩)
 ·obtain⟨i,e,hi,_⟩:=Qe6 _ _ _ _ hs
  rw[QRo]at e
  refine .inl ⟨i,hi,e, ?_, ?_⟩
  ·rw[dt (show 0<=Xv (Xg m.2.1 true 0 x.2.2.2.2.2.2.2.2.2.2.2.2.2.2.1) by omega)];rfl
  ·rw[dt (show 0<=Xv (Xg m.2.1 true 0 x.2.2.2.2.2.2.2.2.2.2.2.2.2.2.1) by omega),e,Qg hi,QRb];rfl
def Qt (x:Qb) (m:Q4):Qb:=heard (yr x (zn x m)) m
theorem Qmj {x:Qb}(h:NOk x) {m:Q4}(hf:Fit x m) (hc:Za x m=false):NOk (yr x (zn x m)):=by
 have hw:=QW.1 h.wait
 have hr:=h.room
 unfold Za at hc
 unfold zn
 by_cases hs:0<=KA x m true
 ·rw[dt hs]
  obtain⟨i,e,hi,hki⟩:=Qe6 _ _ _ _ (show¬Xv (Xg m.2.1 true 0 x.2.2.2.2.2.2.2.2.2.2.2.2.2.2.1)<0 by unfold KA at hs;omega)
  rw[QRo]at e
  have e':KA x m true=(i:Int):=e
  rw[e',Qg hi,QRb]
  refine QiH h (by simp only[QQ1,List.length_set];exact hr) (QGQ h.sess hi ?_ rfl rfl)
  have ho:=((Vp _ _ _ _).1 h.sess).1 _ (QRf hi)
  simp only[Y9,QQ5]at ho⊢
  exact⟨⟨ho.1.1,hf.ok.num⟩,by rw[QW];omega⟩
 ·rw[df hs]at hc⊢
  simp only[QQ4,QRd,decide_eq_false_iff_not]at hc
  refine QiH h (by simp only[QQ2,QRj,List.length_cons,List.length_nil];omega) (QzV h.sess ?_ (by unfold KA at hs;simp only;omega))
  have h1:=QW.1 hf.ok.src
  have h2:=hf.src
  have h3:=hf.ok.two
  have h4:=hf.to
  simp only[Y9,xZ,QQ5,QW,Bool.not_eq_true',decide_eq_false_iff_not]
  have h5:=QW.1 hf.ok.num
  refine⟨⟨⟨⟨h1.1,by omega⟩, ?_⟩,h5⟩,by omega⟩
  omega
theorem QzP {x:Qb}{m:Q4}(hf:Fit x m) (l:List Qz):Fit (yr x l) m:=⟨hf.ok,hf.to,hf.src,hf.len⟩
theorem yE {x:Qb}(h:NOk x) {m:Q4}(hf:Fit x m) (hc:Za x m=false):NOk (Qt x m):=yc (Qmj h hf hc) (QzP hf _)
set_option maxHeartbeats 2000000 in
theorem QxN (x:Qb) (h:NOk x) (m:Q4) (hf:Fit x m):zI w (x.1,x.2.1,x.2.2.1,x.2.2.2.1,x.2.2.2.2.1,x.2.2.2.2.2.1,x.2.2.2.2.2.2.1,x.2.2.2.2.2.2.2.1,x.2.2.2.2.2.2.2.2.1,x.2.2.2.2.2.2.2.2.2.1,x.2.2.2.2.2.2.2.2.2.2.1,x.2.2.2.2.2.2.2.2.2.2.2.1,x.2.2.2.2.2.2.2.2.2.2.2.2.1,x.2.2.2.2.2.2.2.2.2.2.2.2.2.1,x.2.2.2.2.2.2.2.2.2.2.2.2.2.2.1,x.2.2.2.2.2.2.2.2.2.2.2.2.2.2.2.1,x.2.2.2.2.2.2.2.2.2.2.2.2.2.2.2.2.1,x.2.2.2.2.2.2.2.2.2.2.2.2.2.2.2.2.2.1,x.2.2.2.2.2.2.2.2.2.2.2.2.2.2.2.2.2.2,m.1,m.2.1,m.2.2.1,m.2.2.2.1,m.2.2.2.2.1,m.2.2.2.2.2.1,m.2.2.2.2.2.2.1,m.2.2.2.2.2.2.2.1,m.2.2.2.2.2.2.2.2.1,m.2.2.2.2.2.2.2.2.2.1,m.2.2.2.2.2.2.2.2.2.2.1,m.2.2.2.2.2.2.2.2.2.2.2)=some (bif Za x m then(x.1,x.2.1,x.2.2.1,x.2.2.2.1,x.2.2.2.2.1,x.2.2.2.2.2.1,x.2.2.2.2.2.2.1,x.2.2.2.2.2.2.2.1,x.2.2.2.2.2.2.2.2.1,x.2.2.2.2.2.2.2.2.2.1,x.2.2.2.2.2.2.2.2.2.2.1,x.2.2.2.2.2.2.2.2.2.2.2.1,x.2.2.2.2.2.2.2.2.2.2.2.2.1,x.2.2.2.2.2.2.2.2.2.2.2.2.2.1,x.2.2.2.2.2.2.2.2.2.2.2.2.2.2.1,x.2.2.2.2.2.2.2.2.2.2.2.2.2.2.2.1,x.2.2.2.2.2.2.2.2.2.2.2.2.2.2.2.2.1,x.2.2.2.2.2.2.2.2.2.2.2.2.2.2.2.2.2.1,x.2.2.2.2.2.2.2.2.2.2.2.2.2.2.2.2.2.2,[msg x 5 m.2.1 m.2.2.2.1],3)else((Qt x m).1,(Qt x m).2.1,(Qt x m).2.2.1,(Qt x m).2.2.2.1,(Qt x m).2.2.2.2.1,(Qt x m).2.2.2.2.2.1,(Qt x m).2.2.2.2.2.2.1,(Qt x m).2.2.2.2.2.2.2.1,(Qt x m).2.2.2.2.2.2.2.2.1,(Qt x m).2.2.2.2.2.2.2.2.2.1,(Qt x m).2.2.2.2.2.2.2.2.2.2.1,(Qt x m).2.2.2.2.2.2.2.2.2.2.2.1,(Qt x m).2.2.2.2.2.2.2.2.2.2.2.2.1,(Qt x m).2.2.2.2.2.2.2.2.2.2.2.2.2.1,(Qt x m).2.2.2.2.2.2.2.2.2.2.2.2.2.2.1,(Qt x m).2.2.2.2.2.2.2.2.2.2.2.2.2.2.2.1,(Qt x m).2.2.2.2.2.2.2.2.2.2.2.2.2.2.2.2.1,(Qt x m).2.2.2.2.2.2.2.2.2.2.2.2.2.2.2.2.2.1,(Qt x m).2.2.2.2.2.2.2.2.2.2.2.2.2.2.2.2.2.2,[qs (Qt x m) m],0)):=by
 have hk:=Xz h
 have hsm:=Xr h
 have hr:=h.room
 obtain⟨j,hj,hj2⟩:=QmR h hf
 have hi0:inb x.1 m.2.2.2.2.2.2.2.1.length=true:=by rw[hj];exact Qk hj2
 have hY:Za x m=false->ZB w (x.1,x.2.1,x.2.2.1,x.2.2.2.1,x.2.2.2.2.1,x.2.2.2.2.2.1,x.2.2.2.2.2.2.1,x.2.2.2.2.2.2.2.1,x.2.2.2.2.2.2.2.2.1,x.2.2.2.2.2.2.2.2.2.1,x.2.2.2.2.2.2.2.2.2.2.1,x.2.2.2.2.2.2.2.2.2.2.2.1,x.2.2.2.2.2.2.2.2.2.2.2.2.1,x.2.2.2.2.2.2.2.2.2.2.2.2.2.1,zn x m,x.2.2.2.2.2.2.2.2.2.2.2.2.2.2.2.1,x.2.2.2.2.2.2.2.2.2.2.2.2.2.2.2.2.1,x.2.2.2.2.2.2.2.2.2.2.2.2.2.2.2.2.2.1,x.2.2.2.2.2.2.2.2.2.2.2.2.2.2.2.2.2.2,m.1,m.2.1,m.2.2.1,m.2.2.2.1,m.2.2.2.2.1,m.2.2.2.2.2.1,m.2.2.2.2.2.2.1,m.2.2.2.2.2.2.2.1,m.2.2.2.2.2.2.2.2.1,m.2.2.2.2.2.2.2.2.2.1,m.2.2.2.2.2.2.2.2.2.2.1,m.2.2.2.2.2.2.2.2.2.2.2)=some (Qt x m):=fun hc=>Qd6 (yr x (zn x m)) (Qmj h hf hc) m (QzP hf _)
 have hm3:Za x m=false->ZC w ((Qt x m).1,(Qt x m).2.1,(Qt x m).2.2.1,(Qt x m).2.2.2.1,(Qt x m).2.2.2.2.1,(Qt x m).2.2.2.2.2.1,(Qt x m).2.2.2.2.2.2.1,(Qt x m).2.2.2.2.2.2.2.1,(Qt x m).2.2.2.2.2.2.2.2.1,(Qt x m).2.2.2.2.2.2.2.2.2.1,(Qt x m).2.2.2.2.2.2.2.2.2.2.1,(Qt x m).2.2.2.2.2.2.2.2.2.2.2.1,(Qt x m).2.2.2.2.2.2.2.2.2.2.2.2.1,(Qt x m).2.2.2.2.2.2.2.2.2.2.2.2.2.1,(Qt x m).2.2.2.2.2.2.2.2.2.2.2.2.2.2.1,(Qt x m).2.2.2.2.2.2.2.2.2.2.2.2.2.2.2.1,(Qt x m).2.2.2.2.2.2.2.2.2.2.2.2.2.2.2.2.1,(Qt x m).2.2.2.2.2.2.2.2.2.2.2.2.2.2.2.2.2.1,(Qt x m).2.2.2.2.2.2.2.2.2.2.2.2.2.2.2.2.2.2,3,m.2.1,m.2.2.2.1)=some (msg (Qt x m) 3 m.2.1 m.2.2.2.1):=fun hc=>Qc9 (Qt x m) (yE h hf hc) 3 m.2.1 m.2.2.2.1
 have hct:Za x m=false->Z4 w ((Qt x m).2.2.2.2.1,(Qt x m).2.2.2.2.2.1)=some ((Qt x m).2.2.2.2.1,(Qt x m).2.2.2.2.2.1):=fun hc=>Qmn ((Qt x m).2.2.2.2.1,(Qt x m).2.2.2.2.2.1) (by have:=Qyb (yE h hf hc);simp only[Zz,QU];omega)
 have hdl:=QnF (Qt x m).2.2.2.2.1 (Qt x m).2.2.2.2.2.1 m.2.2.2.2.2.1 m.2.2.2.2.2.2.1
 have hpf:Za x m=false->Ky w ((Qt x m).1,(Qt x m).2.1,(Qt x m).2.2.1,(Qt x m).2.2.2.1,(Qt x m).2.2.2.2.1,(Qt x m).2.2.2.2.2.1,(Qt x m).2.2.2.2.2.2.1,(Qt x m).2.2.2.2.2.2.2.1,(Qt x m).2.2.2.2.2.2.2.2.1,(Qt x m).2.2.2.2.2.2.2.2.2.1,(Qt x m).2.2.2.2.2.2.2.2.2.2.1,(Qt x m).2.2.2.2.2.2.2.2.2.2.2.1,(Qt x m).2.2.2.2.2.2.2.2.2.2.2.2.1,(Qt x m).2.2.2.2.2.2.2.2.2.2.2.2.2.1,(Qt x m).2.2.2.2.2.2.2.2.2.2.2.2.2.2.1,(Qt x m).2.2.2.2.2.2.2.2.2.2.2.2.2.2.2.1,(Qt x m).2.2.2.2.2.2.2.2.2.2.2.2.2.2.2.2.1,(Qt x m).2.2.2.2.2.2.2.2.2.2.2.2.2.2.2.2.2.1,(Qt x m).2.2.2.2.2.2.2.2.2.2.2.2.2.2.2.2.2.2,differ (Qt x m).2.2.2.2.1 (Qt x m).2.2.2.2.2.1 m.2.2.2.2.2.1 m.2.2.2.2.2.2.1,m.1,m.2.1,m.2.2.1,m.2.2.2.1,m.2.2.2.2.1,m.2.2.2.2.2.1,m.2.2.2.2.2.2.1,m.2.2.2.2.2.2.2.1,m.2.2.2.2.2.2.2.2.1,m.2.2.2.2.2.2.2.2.2.1,m.2.2.2.2.2.2.2.2.2.2.1,m.2.2.2.2.2.2.2.2.2.2.2)=some (vt (Qt x m) (differ (Qt x m).2.2.2.2.1 (Qt x m).2.2.2.2.2.1 m.2.2.2.2.2.1 m.2.2.2.2.2.2.1) (rd1 0 m.2.2.2.2.2.2.2.1 x.1)):=fun hc=>QsY (Qt x m) (yE h hf hc) _ (by simp only[maxLen];omega) m hi0
 apply QpW
 simp only[Qdp,QAg x m.2.1 true (by simp only[maxLen];omega),QQ0]
 rcases Qxn x m with⟨i,hi,e,hc,hss⟩|⟨hs,hfl,hc⟩|⟨hs,hfl,hc,hss⟩
 ·have hY:=hY hc
  have hm3:=hm3 hc
  have hct:=hct hc
  have hpf:=hpf hc
  rw[hss]at hY
  have hs1:i<(x.2.2.2.2.2.2.2.2.2.2.2.2.2.2.1.set i ((x.2.2.2.2.2.2.2.2.2.2.2.2.2.2.1)[i].1,m.2.2.2.1,(x.2.2.2.2.2.2.2.2.2.2.2.2.2.2.1)[i].2.2)).length:=by simpa using hi
  have hr1:=Yf (d:=X7) (v:=((x.2.2.2.2.2.2.2.2.2.2.2.2.2.2.1)[i].1,m.2.2.2.1,(x.2.2.2.2.2.2.2.2.2.2.2.2.2.2.1)[i].2.2)) hi
  rw[hc,e,dt (show(0:Int)<=(i:Int) by omega)]
  simp only[Qk hi,Qg hi,QRb,Qk hs1,QQ1,hr1,List.set_set,QQ2]
  rw[hY]
  simp only[QQ0,hm3,hct,QwP,hpf,hi0,QQ1]
  rfl
 ·rw[hc,df (show¬(0:Int)<=Xv (Xg m.2.1 true 0 x.2.2.2.2.2.2.2.2.2.2.2.2.2.2.1) by omega)]
  rw[dt hfl]
  simp only[QQ1,QQ2,Qc9 x h,QQ0]
 ·have hY:=hY hc
  have hm3:=hm3 hc
  have hct:=hct hc
  have hpf:=hpf hc
  rw[hss]at hY
  rw[hc,df (show¬(0:Int)<=Xv (Xg m.2.1 true 0 x.2.2.2.2.2.2.2.2.2.2.2.2.2.2.1) by omega)]
  rw[df hfl]
  simp only[QQ1,QQ2]
  rw[Qu (by simp;omega),QQ1,hY]
  simp only[QQ0,hm3,hct,QwP,hpf,hi0,QQ1]
  rfl
set_option maxHeartbeats 2000000 in
theorem QEq (x:Qb) (h:NOk x) (m:Q4) (hf:Fit x m):QeA w (x.1,x.2.1,x.2.2.1,x.2.2.2.1,x.2.2.2.2.1,x.2.2.2.2.2.1,x.2.2.2.2.2.2.1,x.2.2.2.2.2.2.2.1,x.2.2.2.2.2.2.2.2.1,x.2.2.2.2.2.2.2.2.2.1,x.2.2.2.2.2.2.2.2.2.2.1,x.2.2.2.2.2.2.2.2.2.2.2.1,x.2.2.2.2.2.2.2.2.2.2.2.2.1,x.2.2.2.2.2.2.2.2.2.2.2.2.2.1,x.2.2.2.2.2.2.2.2.2.2.2.2.2.2.1,x.2.2.2.2.2.2.2.2.2.2.2.2.2.2.2.1,x.2.2.2.2.2.2.2.2.2.2.2.2.2.2.2.2.1,x.2.2.2.2.2.2.2.2.2.2.2.2.2.2.2.2.2.1,x.2.2.2.2.2.2.2.2.2.2.2.2.2.2.2.2.2.2,m.1,m.2.1,m.2.2.1,m.2.2.2.1,m.2.2.2.2.1,m.2.2.2.2.2.1,m.2.2.2.2.2.2.1,m.2.2.2.2.2.2.2.1,m.2.2.2.2.2.2.2.2.1,m.2.2.2.2.2.2.2.2.2.1,m.2.2.2.2.2.2.2.2.2.2.1,m.2.2.2.2.2.2.2.2.2.2.2)=some (bif Za x m then(x.1,x.2.1,x.2.2.1,x.2.2.2.1,x.2.2.2.2.1,x.2.2.2.2.2.1,x.2.2.2.2.2.2.1,x.2.2.2.2.2.2.2.1,x.2.2.2.2.2.2.2.2.1,x.2.2.2.2.2.2.2.2.2.1,x.2.2.2.2.2.2.2.2.2.2.1,x.2.2.2.2.2.2.2.2.2.2.2.1,x.2.2.2.2.2.2.2.2.2.2.2.2.1,x.2.2.2.2.2.2.2.2.2.2.2.2.2.1,x.2.2.2.2.2.2.2.2.2.2.2.2.2.2.1,x.2.2.2.2.2.2.2.2.2.2.2.2.2.2.2.1,x.2.2.2.2.2.2.2.2.2.2.2.2.2.2.2.2.1,x.2.2.2.2.2.2.2.2.2.2.2.2.2.2.2.2.2.1,x.2.2.2.2.2.2.2.2.2.2.2.2.2.2.2.2.2.2,[msg x 5 m.2.1 m.2.2.2.1],3)else((Qt x m).1,(Qt x m).2.1,(Qt x m).2.2.1,(Qt x m).2.2.2.1,(Qt x m).2.2.2.2.1,(Qt x m).2.2.2.2.2.1,(Qt x m).2.2.2.2.2.2.1,(Qt x m).2.2.2.2.2.2.2.1,(Qt x m).2.2.2.2.2.2.2.2.1,(Qt x m).2.2.2.2.2.2.2.2.2.1,(Qt x m).2.2.2.2.2.2.2.2.2.2.1,(Qt x m).2.2.2.2.2.2.2.2.2.2.2.1,(Qt x m).2.2.2.2.2.2.2.2.2.2.2.2.1,(Qt x m).2.2.2.2.2.2.2.2.2.2.2.2.2.1,(Qt x m).2.2.2.2.2.2.2.2.2.2.2.2.2.2.1,(Qt x m).2.2.2.2.2.2.2.2.2.2.2.2.2.2.2.1,(Qt x m).2.2.2.2.2.2.2.2.2.2.2.2.2.2.2.2.1,(Qt x m).2.2.2.2.2.2.2.2.2.2.2.2.2.2.2.2.2.1,(Qt x m).2.2.2.2.2.2.2.2.2.2.2.2.2.2.2.2.2.2,[qs (Qt x m) m],0)):=by
 have hk:=Xz h
 have hsm:=Xr h
 have hr:=h.room
 have hcx:=QfK h
 obtain⟨j,hj,hj2⟩:=QmR h hf
 have hi0:inb x.1 m.2.2.2.2.2.2.2.1.length=true:=by rw[hj];exact Qk hj2
 have hY:Za x m=false->Y1 w (x.1,x.2.1,x.2.2.1,x.2.2.2.1,x.2.2.2.2.1,x.2.2.2.2.2.1,x.2.2.2.2.2.2.1,x.2.2.2.2.2.2.2.1,x.2.2.2.2.2.2.2.2.1,x.2.2.2.2.2.2.2.2.2.1,x.2.2.2.2.2.2.2.2.2.2.1,x.2.2.2.2.2.2.2.2.2.2.2.1,x.2.2.2.2.2.2.2.2.2.2.2.2.1,x.2.2.2.2.2.2.2.2.2.2.2.2.2.1,zn x m,x.2.2.2.2.2.2.2.2.2.2.2.2.2.2.2.1,x.2.2.2.2.2.2.2.2.2.2.2.2.2.2.2.2.1,x.2.2.2.2.2.2.2.2.2.2.2.2.2.2.2.2.2.1,x.2.2.2.2.2.2.2.2.2.2.2.2.2.2.2.2.2.2,m.1,m.2.1,m.2.2.1,m.2.2.2.1,m.2.2.2.2.1,m.2.2.2.2.2.1,m.2.2.2.2.2.2.1,m.2.2.2.2.2.2.2.1,m.2.2.2.2.2.2.2.2.1,m.2.2.2.2.2.2.2.2.2.1,m.2.2.2.2.2.2.2.2.2.2.1,m.2.2.2.2.2.2.2.2.2.2.2)=some (Qt x m):=fun hc=>Qml (yr x (zn x m)) (Qmj h hf hc) m (QzP hf _)
 have hm3:Za x m=false->Z1 w ((Qt x m).1,(Qt x m).2.1,(Qt x m).2.2.1,(Qt x m).2.2.2.1,(Qt x m).2.2.2.2.1,(Qt x m).2.2.2.2.2.1,(Qt x m).2.2.2.2.2.2.1,(Qt x m).2.2.2.2.2.2.2.1,(Qt x m).2.2.2.2.2.2.2.2.1,(Qt x m).2.2.2.2.2.2.2.2.2.1,(Qt x m).2.2.2.2.2.2.2.2.2.2.1,(Qt x m).2.2.2.2.2.2.2.2.2.2.2.1,(Qt x m).2.2.2.2.2.2.2.2.2.2.2.2.1,(Qt x m).2.2.2.2.2.2.2.2.2.2.2.2.2.1,(Qt x m).2.2.2.2.2.2.2.2.2.2.2.2.2.2.1,(Qt x m).2.2.2.2.2.2.2.2.2.2.2.2.2.2.2.1,(Qt x m).2.2.2.2.2.2.2.2.2.2.2.2.2.2.2.2.1,(Qt x m).2.2.2.2.2.2.2.2.2.2.2.2.2.2.2.2.2.1,(Qt x m).2.2.2.2.2.2.2.2.2.2.2.2.2.2.2.2.2.2,3,m.2.1,m.2.2.2.1)=some (msg (Qt x m) 3 m.2.1 m.2.2.2.1):=fun hc=>Qe1 (Qt x m) (yE h hf hc) 3 m.2.1 m.2.2.2.1
 have hct:Za x m=false->Kr w ((Qt x m).2.2.2.2.1,(Qt x m).2.2.2.2.2.1)=some ((Qt x m).2.2.2.2.1,(Qt x m).2.2.2.2.2.1):=fun hc=>Qp1 ((Qt x m).2.2.2.2.1,(Qt x m).2.2.2.2.2.1) (by have:=Qyb (yE h hf hc);simp only[Zz,QU];omega)
 have hdl:=QnF (Qt x m).2.2.2.2.1 (Qt x m).2.2.2.2.2.1 m.2.2.2.2.2.1 m.2.2.2.2.2.2.1
 have hpf:Za x m=false->V0 w ((Qt x m).1,(Qt x m).2.1,(Qt x m).2.2.1,(Qt x m).2.2.2.1,(Qt x m).2.2.2.2.1,(Qt x m).2.2.2.2.2.1,(Qt x m).2.2.2.2.2.2.1,(Qt x m).2.2.2.2.2.2.2.1,(Qt x m).2.2.2.2.2.2.2.2.1,(Qt x m).2.2.2.2.2.2.2.2.2.1,(Qt x m).2.2.2.2.2.2.2.2.2.2.1,(Qt x m).2.2.2.2.2.2.2.2.2.2.2.1,(Qt x m).2.2.2.2.2.2.2.2.2.2.2.2.1,(Qt x m).2.2.2.2.2.2.2.2.2.2.2.2.2.1,(Qt x m).2.2.2.2.2.2.2.2.2.2.2.2.2.2.1,(Qt x m).2.2.2.2.2.2.2.2.2.2.2.2.2.2.2.1,(Qt x m).2.2.2.2.2.2.2.2.2.2.2.2.2.2.2.2.1,(Qt x m).2.2.2.2.2.2.2.2.2.2.2.2.2.2.2.2.2.1,(Qt x m).2.2.2.2.2.2.2.2.2.2.2.2.2.2.2.2.2.2,differ (Qt x m).2.2.2.2.1 (Qt x m).2.2.2.2.2.1 m.2.2.2.2.2.1 m.2.2.2.2.2.2.1,rd1 0 m.2.2.2.2.2.2.2.1 x.1)=some (vt (Qt x m) (differ (Qt x m).2.2.2.2.1 (Qt x m).2.2.2.2.2.1 m.2.2.2.2.2.1 m.2.2.2.2.2.2.1) (rd1 0 m.2.2.2.2.2.2.2.1 x.1)):=fun hc=>Quw (Qt x m) (yE h hf hc) _ (by simp only[maxLen];omega) _
 apply Qv9
 simp only[Qlj,QrC x m.2.1 true (by simp only[maxLen];omega),hcx,QQ0]
 rcases Qxn x m with⟨i,hi,e,hc,hss⟩|⟨hs,hfl,hc⟩|⟨hs,hfl,hc,hss⟩
 ·have hY:=hY hc
  have hm3:=hm3 hc
  have hct:=hct hc
  have hpf:=hpf hc
  rw[hss]at hY
  have hs1:i<(x.2.2.2.2.2.2.2.2.2.2.2.2.2.2.1.set i ((x.2.2.2.2.2.2.2.2.2.2.2.2.2.2.1)[i].1,m.2.2.2.1,(x.2.2.2.2.2.2.2.2.2.2.2.2.2.2.1)[i].2.2)).length:=by simpa using hi
  have hr1:=Yf (d:=X7) (v:=((x.2.2.2.2.2.2.2.2.2.2.2.2.2.2.1)[i].1,m.2.2.2.1,(x.2.2.2.2.2.2.2.2.2.2.2.2.2.2.1)[i].2.2)) hi
  rw[hc,e,dt (show(0:Int)<=(i:Int) by omega)]
  simp only[Qk hi,Qg hi,QRb,Qk hs1,QQ1,hr1,List.set_set,QQ2]
  rw[hY]
  simp only[QQ0,hm3,hct,Qtc,hpf,hi0,QQ1]
  rfl
 ·rw[hc,df (show¬(0:Int)<=Xv (Xg m.2.1 true 0 x.2.2.2.2.2.2.2.2.2.2.2.2.2.2.1) by omega)]
  rw[dt (show((x.2.2.2.2.2.2.2.2.2.2.2.2.2.2.1.length:Nat):Int)=x.2.2.2.2.2.2.2.2.2.2.2.2.2.1 by omega)]
  simp only[QQ1,QQ2,Qe1 x h,QQ0]
 ·have hY:=hY hc
  have hm3:=hm3 hc
  have hct:=hct hc
  have hpf:=hpf hc
  rw[hss]at hY
  rw[hc,df (show¬(0:Int)<=Xv (Xg m.2.1 true 0 x.2.2.2.2.2.2.2.2.2.2.2.2.2.2.1) by omega)]
  rw[df (show¬((x.2.2.2.2.2.2.2.2.2.2.2.2.2.2.1.length:Nat):Int)=x.2.2.2.2.2.2.2.2.2.2.2.2.2.1 by omega)]
  simp only[QQ1,QQ2]
  rw[Qu (by simp;omega),QQ1,hY]
  simp only[QQ0,hm3,hct,Qtc,hpf,hi0,QQ1]
  rfl
end Go.Proofs.YtjenicbpdklpbaaGreat.M
