/- What the plain forms that FnExactAuto reaches come to: PSend. No conditions but those that each theorem states. -/
import Derived.Test.YtiejfnbmficbmaaGreatFnExactAutoPJoin
set_option linter.all false
namespace Go.Proofs.YtiejfnbmficbmaaGreat.M
open Go Go.Eng Go.Proofs
set_option linter.unusedVariables false
theorem Qtm (x y:Qz):Zx x y=Zx y x:=by
 unfold Zx
 by_cases h:y.1=x.1
 ·rw[dt h,dt h.symm];cases y.2.2.1<;>cases x.2.2.1<;>rfl
 ·rw[df h,df (fun e=>h e.symm)];rfl
theorem Quf (id n wt:Int):(l pre:List Qz)->(Zb id n wt pre l=true↔(∀x∈l,Kl id n wt x=true)/\(∀x∈l,∀y∈pre,Zx x y=false)/\l.Pairwise fun y x=>Zx x y=false)
 | [],pre=>by simp[Zb]
 |x::l,pre=>by
  rw[Zb,QQ5,QQ5,Quf id n wt l (pre++[x]),List.pairwise_cons]
  constructor
  ·rintro⟨⟨h1,h2⟩,h3,h4,h5⟩
   have h2':∀y∈pre,Zx x y=false:=fun y hy=>by
    cases hk:Zx x y
    ·rfl
    ·have:pre.any (Zx x)=true:=QY23.2 ⟨y,hy,hk⟩
     rw[this]at h2;cases h2
   refine⟨fun y hy=> ?_,fun y hy z hz=> ?_,fun y hy=>h4 y hy x (by simp),h5⟩
   ·rcases QRk.1 hy with rfl|hy
    ·exact h1
    ·exact h3 y hy
   ·rcases QRk.1 hy with rfl|hy
    ·exact h2' z hz
    ·exact h4 y hy z (by simp[hz])
  ·rintro⟨h1,h2,h3,h4⟩
   refine⟨⟨h1 x (by simp), ?_⟩,fun y hy=>h1 y (by simp[hy]),fun y hy z hz=> ?_,h4⟩
   ·have:pre.any (Zx x)=false:=by
     cases hk:pre.any (Zx x)
     ·rfl
     ·obtain⟨y,hy,hk⟩:=QY23.1 hk
      rw[h2 x (by simp) y hy]at hk;cases hk
    rw[this];rfl
   ·rcases QRh.1 hz with hz|hz
    ·exact h2 y (by simp[hy]) z hz
    ·obtain rfl:z=x:=by simpa using hz
     exact h3 y hy
theorem Vs (id n wt:Int) (l:List Qz):Zb id n wt [] l=true↔(∀x∈l,Kl id n wt x=true)/\l.Pairwise fun y x=>Zx x y=false:=by
 rw[Quf];simp
theorem QxW (p:Int) (b:Bool):(off:Nat)->(l:List Qz)->Xw (Xj p b off l)<0->∀y∈l,(decide (y.1=p)&&(y.2.2.1==b))=false
 |_,[],_=>by simp
 |off,y::l,h=>by
  rw[Xj]at h
  cases hk:decide (y.1=p)&&(y.2.2.1==b)
  ·rw[hk]at h
   intro z hz
   rcases QRk.1 hz with rfl|hz
   ·exact hk
   ·exact QxW p b (off+1) l h z hz
  ·rw[hk]at h;simp[Xw]at h;omega
theorem Qga (p:Int) (b:Bool):(off:Nat)->(l:List Qz)->¬Xw (Xj p b off l)<0->∃i:Nat,Xw (Xj p b off l)=((off+i:Nat):Int)/\∃h:i<l.length,(decide (l[i].1=p)&&(l[i].2.2.1==b))=true
 |off,[],h=>by simp[Xj,Xw]at h
 |off,y::l,h=>by
  rw[Xj]at h⊢
  cases hk:decide (y.1=p)&&(y.2.2.1==b)
  ·rw[hk]at h
   obtain⟨i,e,hi,h2⟩:=Qga p b (off+1) l h
   exact⟨i+1,by simp only[QQ2];rw[e];congr 1;omega,by simpa using hi,by simpa using h2⟩
  ·exact⟨0,rfl,by simp,by simpa using hk⟩
theorem QAY {id n wt:Int}{l:List Qz}(h:Zb id n wt [] l=true) {x:Qz}(hx:Kl id n wt x=true) (hn:Xw (Xj x.1 x.2.2.1 0 l)<0):Zb id n wt [] (l++[x])=true:=by
 rw[Vs]at h⊢
 refine⟨fun y hy=> ?_,List.pairwise_append.2 ⟨h.2,by simp,fun y hy z hz=> ?_⟩⟩
 ·rcases QRh.1 hy with hy|hy
  ·exact h.1 y hy
  ·obtain rfl:y=x:=by simpa using hy
   exact hx
 ·obtain rfl:z=x:=by simpa using hz
  exact QxW z.1 z.2.2.1 0 l hn y hy
theorem QDW {id n wt:Int}{l:List Qz}(h:Zb id n wt [] l=true) (i:Nat):Zb id n wt [] (l.take i++l.drop (i+1))=true:=by
 rw[Vs]at h⊢
 have hs:(l.take i++l.drop (i+1)).Sublist l:=by
  have:=QY24 (QY18 (l.take i)) (List.drop_sublist 1 (l.drop i))
  rw[List.take_append_drop,List.drop_drop]at this
  exact this
 exact⟨fun y hy=>h.1 y (hs.subset hy),h.2.sublist hs⟩
theorem QGw {id n wt:Int}{l:List Qz}(h:Zb id n wt [] l=true) {i:Nat}(hi:i<l.length) {x:Qz}(hx:Kl id n wt x=true) (h1:x.1=l[i].1) (h2:x.2.2.1=l[i].2.2.1):Zb id n wt [] (l.set i x)=true:=by
 rw[Vs]at h⊢
 have hk:∀y,Zx x y=Zx l[i] y:=fun y=>by unfold Zx;rw[h1,h2]
 refine⟨fun y hy=> ?_, ?_⟩
 ·rcases QY34 hy with hy|rfl
  ·exact h.1 y hy
  ·exact hx
 ·rw[List.pairwise_iff_getElem]at h⊢
  intro a b ha hb hab
  rw[QY6]at ha hb
  rw[List.getElem_set,List.getElem_set]
  have:=h.2 a b ha hb hab
  split
  ·rename_i e;subst e
   rw[if_neg (by omega),hk];exact this
  ·split
   ·rename_i e;subst e
    rw[Qtm,hk,Qtm];exact this
   ·exact this
theorem QsB (x:Qb) (p:Int) (b:Bool) (h:x.2.2.2.2.2.2.2.2.2.2.2.2.2.2.1.length<=maxLen):Qay w (x.1,x.2.1,x.2.2.1,x.2.2.2.1,x.2.2.2.2.1,x.2.2.2.2.2.1,x.2.2.2.2.2.2.1,x.2.2.2.2.2.2.2.1,x.2.2.2.2.2.2.2.2.1,x.2.2.2.2.2.2.2.2.2.1,x.2.2.2.2.2.2.2.2.2.2.1,x.2.2.2.2.2.2.2.2.2.2.2.1,x.2.2.2.2.2.2.2.2.2.2.2.2.1,x.2.2.2.2.2.2.2.2.2.2.2.2.2.1,x.2.2.2.2.2.2.2.2.2.2.2.2.2.2.1,x.2.2.2.2.2.2.2.2.2.2.2.2.2.2.2.1,x.2.2.2.2.2.2.2.2.2.2.2.2.2.2.2.2.1,x.2.2.2.2.2.2.2.2.2.2.2.2.2.2.2.2.2.1,x.2.2.2.2.2.2.2.2.2.2.2.2.2.2.2.2.2.2,p,b)=some (Xw (Xj p b 0 x.2.2.2.2.2.2.2.2.2.2.2.2.2.2.1)):=by
 apply QAj
 have e:=Q7 x.2.2.2.2.2.2.2.2.2.2.2.2.2.2.1.length (fun i=>xH wl (p,b,(i:Int),x.1,x.2.1,x.2.2.1,x.2.2.2.1,x.2.2.2.2.1,x.2.2.2.2.2.1,x.2.2.2.2.2.2.1,x.2.2.2.2.2.2.2.1,x.2.2.2.2.2.2.2.2.1,x.2.2.2.2.2.2.2.2.2.1,x.2.2.2.2.2.2.2.2.2.2.1,x.2.2.2.2.2.2.2.2.2.2.2.1,x.2.2.2.2.2.2.2.2.2.2.2.2.1,x.2.2.2.2.2.2.2.2.2.2.2.2.2.1,x.2.2.2.2.2.2.2.2.2.2.2.2.2.2.1,x.2.2.2.2.2.2.2.2.2.2.2.2.2.2.2.1,x.2.2.2.2.2.2.2.2.2.2.2.2.2.2.2.2.1,x.2.2.2.2.2.2.2.2.2.2.2.2.2.2.2.2.2.1,x.2.2.2.2.2.2.2.2.2.2.2.2.2.2.2.2.2.2)) (fun i=>Xj p b i (x.2.2.2.2.2.2.2.2.2.2.2.2.2.2.1.drop i))
  (fun i hi ih=>by
    apply QlT
    simp only[QjQ,ilt hi,Qk hi,Qg hi,inc hi h,QQ1,ih]
    rw[QRa hi,Xj]
    cases decide ((x.2.2.2.2.2.2.2.2.2.2.2.2.2.2.1)[i].1=p)<;>cases((x.2.2.2.2.2.2.2.2.2.2.2.2.2.2.1)[i].2.2.1==b)<;>rfl)
  (by
    apply QlT
    simp[QjQ,Xj])
 simp only[QQ6,QRg]at e
 simp only[Qpo,e,QQ0]
 cases Xj p b 0 x.2.2.2.2.2.2.2.2.2.2.2.2.2.2.1<;>rfl
theorem QAu (x:Qb) (p:Int) (b:Bool) (h:x.2.2.2.2.2.2.2.2.2.2.2.2.2.2.1.length<=maxLen):xR w (x.1,x.2.1,x.2.2.1,x.2.2.2.1,x.2.2.2.2.1,x.2.2.2.2.2.1,x.2.2.2.2.2.2.1,x.2.2.2.2.2.2.2.1,x.2.2.2.2.2.2.2.2.1,x.2.2.2.2.2.2.2.2.2.1,x.2.2.2.2.2.2.2.2.2.2.1,x.2.2.2.2.2.2.2.2.2.2.2.1,x.2.2.2.2.2.2.2.2.2.2.2.2.1,x.2.2.2.2.2.2.2.2.2.2.2.2.2.1,x.2.2.2.2.2.2.2.2.2.2.2.2.2.2.1,x.2.2.2.2.2.2.2.2.2.2.2.2.2.2.2.1,x.2.2.2.2.2.2.2.2.2.2.2.2.2.2.2.2.1,x.2.2.2.2.2.2.2.2.2.2.2.2.2.2.2.2.2.1,x.2.2.2.2.2.2.2.2.2.2.2.2.2.2.2.2.2.2,p,b)=some (Xw (Xj p b 0 x.2.2.2.2.2.2.2.2.2.2.2.2.2.2.1)):=QCO x.1 x.2.1 x.2.2.1 x.2.2.2.1 x.2.2.2.2.1 x.2.2.2.2.2.1 x.2.2.2.2.2.2.1 x.2.2.2.2.2.2.2.1 x.2.2.2.2.2.2.2.2.1 x.2.2.2.2.2.2.2.2.2.1 x.2.2.2.2.2.2.2.2.2.2.1 x.2.2.2.2.2.2.2.2.2.2.2.1 x.2.2.2.2.2.2.2.2.2.2.2.2.1 x.2.2.2.2.2.2.2.2.2.2.2.2.2.1 x.2.2.2.2.2.2.2.2.2.2.2.2.2.2.1 x.2.2.2.2.2.2.2.2.2.2.2.2.2.2.2.1 x.2.2.2.2.2.2.2.2.2.2.2.2.2.2.2.2.1 x.2.2.2.2.2.2.2.2.2.2.2.2.2.2.2.2.2.1 x.2.2.2.2.2.2.2.2.2.2.2.2.2.2.2.2.2.2 p b h
theorem QHK (x:Qb) (p:Int) (h:NOk x):zL w (x.1,x.2.1,x.2.2.1,x.2.2.2.1,x.2.2.2.2.1,x.2.2.2.2.2.1,x.2.2.2.2.2.2.1,x.2.2.2.2.2.2.2.1,x.2.2.2.2.2.2.2.2.1,x.2.2.2.2.2.2.2.2.2.1,x.2.2.2.2.2.2.2.2.2.2.1,x.2.2.2.2.2.2.2.2.2.2.2.1,x.2.2.2.2.2.2.2.2.2.2.2.2.1,x.2.2.2.2.2.2.2.2.2.2.2.2.2.1,x.2.2.2.2.2.2.2.2.2.2.2.2.2.2.1,x.2.2.2.2.2.2.2.2.2.2.2.2.2.2.2.1,x.2.2.2.2.2.2.2.2.2.2.2.2.2.2.2.2.1,x.2.2.2.2.2.2.2.2.2.2.2.2.2.2.2.2.2.1,x.2.2.2.2.2.2.2.2.2.2.2.2.2.2.2.2.2.2,p)=some (zg x.1 x.2.1 p):=Qxv x.1 x.2.1 x.2.2.1 x.2.2.2.1 x.2.2.2.2.1 x.2.2.2.2.2.1 x.2.2.2.2.2.2.1 x.2.2.2.2.2.2.2.1 x.2.2.2.2.2.2.2.2.1 x.2.2.2.2.2.2.2.2.2.1 x.2.2.2.2.2.2.2.2.2.2.1 x.2.2.2.2.2.2.2.2.2.2.2.1 x.2.2.2.2.2.2.2.2.2.2.2.2.1 x.2.2.2.2.2.2.2.2.2.2.2.2.2.1 x.2.2.2.2.2.2.2.2.2.2.2.2.2.2.1 x.2.2.2.2.2.2.2.2.2.2.2.2.2.2.2.1 x.2.2.2.2.2.2.2.2.2.2.2.2.2.2.2.2.1 x.2.2.2.2.2.2.2.2.2.2.2.2.2.2.2.2.2.1 x.2.2.2.2.2.2.2.2.2.2.2.2.2.2.2.2.2.2 p h.n
theorem QER (x:Qb) (p:Int) (h:NOk x):QbN w (x.1,x.2.1,x.2.2.1,x.2.2.2.1,x.2.2.2.2.1,x.2.2.2.2.2.1,x.2.2.2.2.2.2.1,x.2.2.2.2.2.2.2.1,x.2.2.2.2.2.2.2.2.1,x.2.2.2.2.2.2.2.2.2.1,x.2.2.2.2.2.2.2.2.2.2.1,x.2.2.2.2.2.2.2.2.2.2.2.1,x.2.2.2.2.2.2.2.2.2.2.2.2.1,x.2.2.2.2.2.2.2.2.2.2.2.2.2.1,x.2.2.2.2.2.2.2.2.2.2.2.2.2.2.1,x.2.2.2.2.2.2.2.2.2.2.2.2.2.2.2.1,x.2.2.2.2.2.2.2.2.2.2.2.2.2.2.2.2.1,x.2.2.2.2.2.2.2.2.2.2.2.2.2.2.2.2.2.1,x.2.2.2.2.2.2.2.2.2.2.2.2.2.2.2.2.2.2,p)=some (zg x.1 x.2.1 p):=by
 have hn:=QX.1 h.n
 apply QuO
 simp only[QiD,zg]
 rw[w64 (by omega) (by omega),XD,QQ0]
 cases inR p 0 (x.2.1 - 1)<;>rfl
theorem Xz {x:Qb}(h:NOk x):x.2.2.2.2.2.2.2.2.2.2.2.2.2.2.1.length<=4/\x.2.2.2.2.2.2.2.2.2.1.length<=5/\x.2.2.2.2.2.2.2.2.2.2.1.length<=5:=by
 have h1:=QX.1 h.slots
 have h2:=h.room
 have h3:=QX.1 h.n
 have h4:=(yr h.got).1
 have h5:=(yr h.ack).1
 omega
def ship (x:Qb) (seq:Int):List Qd×List Qa×Bool:=bif (YC (x.2.2.2.2.2.2.1,x.2.2.2.2.2.2.2.1,x.2.2.2.2.2.2.2.2.1) seq).2.2 then YC (x.2.2.2.2.2.2.1,x.2.2.2.2.2.2.2.1,x.2.2.2.2.2.2.2.2.1) seq else(x.2.2.1,x.2.2.2.1,false)
theorem Qxj {x:Qb}(h:NOk x) (seq:Int):QD ((ship x seq).1,(ship x seq).2.1)=true:=by
 unfold ship
 cases(YC (x.2.2.2.2.2.2.1,x.2.2.2.2.2.2.2.1,x.2.2.2.2.2.2.2.2.1) seq).2.2
 ·exact h.st
 ·exact QBS h.log seq
theorem QJy (x:Qb) (h:NOk x) (seq:Int):QlD w (x.1,x.2.1,x.2.2.1,x.2.2.2.1,x.2.2.2.2.1,x.2.2.2.2.2.1,x.2.2.2.2.2.2.1,x.2.2.2.2.2.2.2.1,x.2.2.2.2.2.2.2.2.1,x.2.2.2.2.2.2.2.2.2.1,x.2.2.2.2.2.2.2.2.2.2.1,x.2.2.2.2.2.2.2.2.2.2.2.1,x.2.2.2.2.2.2.2.2.2.2.2.2.1,x.2.2.2.2.2.2.2.2.2.2.2.2.2.1,x.2.2.2.2.2.2.2.2.2.2.2.2.2.2.1,x.2.2.2.2.2.2.2.2.2.2.2.2.2.2.2.1,x.2.2.2.2.2.2.2.2.2.2.2.2.2.2.2.2.1,x.2.2.2.2.2.2.2.2.2.2.2.2.2.2.2.2.2.1,x.2.2.2.2.2.2.2.2.2.2.2.2.2.2.2.2.2.2,seq)=some (ship x seq):=by
 have hsm:=Xq h
 have hn:=okN h
 have hl:zx w (x.2.2.2.2.2.2.1,x.2.2.2.2.2.2.2.1,x.2.2.2.2.2.2.2.2.1,seq)=some (YC (x.2.2.2.2.2.2.1,x.2.2.2.2.2.2.2.1,x.2.2.2.2.2.2.2.2.1) seq):=QBV (x.2.2.2.2.2.2.1,x.2.2.2.2.2.2.2.1,x.2.2.2.2.2.2.2.2.1) h.log seq
 have hc:X2 w (x.2.2.1,x.2.2.2.1)=some (x.2.2.1,x.2.2.2.1):=xC _ (Kt (x:=x) (by omega)).1
 apply QBb
 simp only[Qpe,hn,hl,hc,QQ0,QQ3,QQ2,ship]
 cases hb:(YC (x.2.2.2.2.2.2.1,x.2.2.2.2.2.2.2.1,x.2.2.2.2.2.2.2.2.1) seq).2.2
 ·rfl
 ·simp only[QQ3,QQ2,QQ1]
  rw[<-hb]
theorem QEt (x:Qb) (h:NOk x) (seq:Int):QaT w (x.1,x.2.1,x.2.2.1,x.2.2.2.1,x.2.2.2.2.1,x.2.2.2.2.2.1,x.2.2.2.2.2.2.1,x.2.2.2.2.2.2.2.1,x.2.2.2.2.2.2.2.2.1,x.2.2.2.2.2.2.2.2.2.1,x.2.2.2.2.2.2.2.2.2.2.1,x.2.2.2.2.2.2.2.2.2.2.2.1,x.2.2.2.2.2.2.2.2.2.2.2.2.1,x.2.2.2.2.2.2.2.2.2.2.2.2.2.1,x.2.2.2.2.2.2.2.2.2.2.2.2.2.2.1,x.2.2.2.2.2.2.2.2.2.2.2.2.2.2.2.1,x.2.2.2.2.2.2.2.2.2.2.2.2.2.2.2.2.1,x.2.2.2.2.2.2.2.2.2.2.2.2.2.2.2.2.2.1,x.2.2.2.2.2.2.2.2.2.2.2.2.2.2.2.2.2.2,seq)=some (ship x seq):=by
 have hsm:=Xq h
 have hl:zj w (x.2.2.2.2.2.2.1,x.2.2.2.2.2.2.2.1,x.2.2.2.2.2.2.2.2.1,seq)=some (YC (x.2.2.2.2.2.2.1,x.2.2.2.2.2.2.2.1,x.2.2.2.2.2.2.2.2.1) seq):=QA2 (x.2.2.2.2.2.2.1,x.2.2.2.2.2.2.2.1,x.2.2.2.2.2.2.2.2.1) h.log seq
 have hc:Z2 w (x.2.2.1,x.2.2.2.1)=some (x.2.2.1,x.2.2.2.1):=QaI _ (Kt (x:=x) (by omega)).1
 apply Quq
 simp only[Qkm,hl,hc,QQ0,ship]
 cases hb:(YC (x.2.2.2.2.2.2.1,x.2.2.2.2.2.2.2.1,x.2.2.2.2.2.2.2.2.1) seq).2.2
 ·rfl
 ·simp only[QQ1]
  rw[<-hb]
def msg (x:Qb) (k to num:Int):QY:=(k,x.1,to,num,Xf (x.2.2.2.2.2.2.1,x.2.2.2.2.2.2.2.1,x.2.2.2.2.2.2.2.2.1),[],0,x.2.2.2.2.2.2.2.2.2.1,[],[],[],marksOf (x.2.2.1,x.2.2.2.1))
theorem QcD (x:Qb) (h:NOk x) (k to num:Int):ZE w (x.1,x.2.1,x.2.2.1,x.2.2.2.1,x.2.2.2.2.1,x.2.2.2.2.2.1,x.2.2.2.2.2.2.1,x.2.2.2.2.2.2.2.1,x.2.2.2.2.2.2.2.2.1,x.2.2.2.2.2.2.2.2.2.1,x.2.2.2.2.2.2.2.2.2.2.1,x.2.2.2.2.2.2.2.2.2.2.2.1,x.2.2.2.2.2.2.2.2.2.2.2.2.1,x.2.2.2.2.2.2.2.2.2.2.2.2.2.1,x.2.2.2.2.2.2.2.2.2.2.2.2.2.2.1,x.2.2.2.2.2.2.2.2.2.2.2.2.2.2.2.1,x.2.2.2.2.2.2.2.2.2.2.2.2.2.2.2.2.1,x.2.2.2.2.2.2.2.2.2.2.2.2.2.2.2.2.2.1,x.2.2.2.2.2.2.2.2.2.2.2.2.2.2.2.2.2.2,k,to,num)=some (msg x k to num):=by
 have hl:=xQ h.log
 have hs:=X0 h.st
 have hn:=Xz h
 apply Qvk
 simp only[QiK,Qmu _ _ _ hl.2.1 hl.2.2,Qai x.2.2.2.2.2.2.2.2.2.1 (by omega),QuP _ _ hs.1 hs.2,QQ0,msg]
theorem Qgf (x:Qb) (h:NOk x) (k to num:Int):Z5 w (x.1,x.2.1,x.2.2.1,x.2.2.2.1,x.2.2.2.2.1,x.2.2.2.2.2.1,x.2.2.2.2.2.2.1,x.2.2.2.2.2.2.2.1,x.2.2.2.2.2.2.2.2.1,x.2.2.2.2.2.2.2.2.2.1,x.2.2.2.2.2.2.2.2.2.2.1,x.2.2.2.2.2.2.2.2.2.2.2.1,x.2.2.2.2.2.2.2.2.2.2.2.2.1,x.2.2.2.2.2.2.2.2.2.2.2.2.2.1,x.2.2.2.2.2.2.2.2.2.2.2.2.2.2.1,x.2.2.2.2.2.2.2.2.2.2.2.2.2.2.2.1,x.2.2.2.2.2.2.2.2.2.2.2.2.2.2.2.2.1,x.2.2.2.2.2.2.2.2.2.2.2.2.2.2.2.2.2.1,x.2.2.2.2.2.2.2.2.2.2.2.2.2.2.2.2.2.2,k,to,num)=some (msg x k to num):=by
 have hl:=xQ h.log
 have hs:=X0 h.st
 have hn:=Xz h
 apply Qxk
 simp only[Ql0,Qii _ _ _ hl.2.1 hl.2.2,QY7,QRe,QRo,Qu (show x.2.2.2.2.2.2.2.2.2.1.length*8<=140737488351232 by omega),QrS _ _ hs.1 hs.2,QQ0,QQ1,msg]
def Y8 (x:Qb) (to:Int):Bool:=zg x.1 x.2.1 to&&(decide (Xw (Xj to false 0 x.2.2.2.2.2.2.2.2.2.2.2.2.2.2.1)<0)&&(!decide (x.2.2.2.2.2.2.2.2.2.2.2.2.2.1<=((x.2.2.2.2.2.2.2.2.2.2.2.2.2.2.1.length:Nat):Int))&& !decide (x.2.2.2.2.2.2.2.2.2.2.2.2.1=100000)))
def QJ (x:Qb) (to:Int):Qb:=(x.1,x.2.1,x.2.2.1,x.2.2.2.1,x.2.2.2.2.1,x.2.2.2.2.2.1,x.2.2.2.2.2.2.1,x.2.2.2.2.2.2.2.1,x.2.2.2.2.2.2.2.2.1,x.2.2.2.2.2.2.2.2.2.1,x.2.2.2.2.2.2.2.2.2.2.1,x.2.2.2.2.2.2.2.2.2.2.2.1,x.2.2.2.2.2.2.2.2.2.2.2.2.1+1,x.2.2.2.2.2.2.2.2.2.2.2.2.2.1,x.2.2.2.2.2.2.2.2.2.2.2.2.2.2.1++[(to,x.2.2.2.2.2.2.2.2.2.2.2.2.1+1,false,0)],x.2.2.2.2.2.2.2.2.2.2.2.2.2.2.2.1,x.2.2.2.2.2.2.2.2.2.2.2.2.2.2.2.2.1,x.2.2.2.2.2.2.2.2.2.2.2.2.2.2.2.2.2.1,x.2.2.2.2.2.2.2.2.2.2.2.2.2.2.2.2.2.2)
theorem Qj1 {x:Qb}(h:NOk x) {to:Int}(hc:Y8 x to=true):NOk (QJ x to) where
 n:=h.n
 id:=h.id
 st:=h.st
 tree:=h.tree
 log:=h.log
 got:=h.got
 ack:=h.ack
 own:=h.own
 heard:=h.heard
 seen:=h.seen
 num:=by
  have:=QX.1 h.num
  simp only[Y8,QQ5,QY11,decide_eq_false_iff_not]at hc
  simp only[QJ,QX];omega
 clock:=h.clock
 wait:=h.wait
 limit:=h.limit
 slots:=h.slots
 room:=by
  have:=h.room
  simp only[Y8,QQ5,QY11,decide_eq_false_iff_not]at hc
  simp only[QJ,QRj,QY8,QY7];omega
 sess:=by
  have hn:=QX.1 h.num
  have hw:=QX.1 h.wait
  simp only[Y8,QQ5,QY11,decide_eq_false_iff_not,QRu]at hc
  refine QAY h.sess ?_ hc.2.1
  simp only[Kl,hc.1,QRd,QQ5,QX];omega
 rlen:=h.rlen
 rises:=h.rises
set_option maxHeartbeats 1000000 in
theorem QKk (x:Qb) (h:NOk x) (to:Int):Qjq w (x.1,x.2.1,x.2.2.1,x.2.2.2.1,x.2.2.2.2.1,x.2.2.2.2.2.1,x.2.2.2.2.2.2.1,x.2.2.2.2.2.2.2.1,x.2.2.2.2.2.2.2.2.1,x.2.2.2.2.2.2.2.2.2.1,x.2.2.2.2.2.2.2.2.2.2.1,x.2.2.2.2.2.2.2.2.2.2.2.1,x.2.2.2.2.2.2.2.2.2.2.2.2.1,x.2.2.2.2.2.2.2.2.2.2.2.2.2.1,x.2.2.2.2.2.2.2.2.2.2.2.2.2.2.1,x.2.2.2.2.2.2.2.2.2.2.2.2.2.2.2.1,x.2.2.2.2.2.2.2.2.2.2.2.2.2.2.2.2.1,x.2.2.2.2.2.2.2.2.2.2.2.2.2.2.2.2.2.1,x.2.2.2.2.2.2.2.2.2.2.2.2.2.2.2.2.2.2,to)=some (bif Y8 x to then(x.1,x.2.1,x.2.2.1,x.2.2.2.1,x.2.2.2.2.1,x.2.2.2.2.2.1,x.2.2.2.2.2.2.1,x.2.2.2.2.2.2.2.1,x.2.2.2.2.2.2.2.2.1,x.2.2.2.2.2.2.2.2.2.1,x.2.2.2.2.2.2.2.2.2.2.1,x.2.2.2.2.2.2.2.2.2.2.2.1,x.2.2.2.2.2.2.2.2.2.2.2.2.1+1,x.2.2.2.2.2.2.2.2.2.2.2.2.2.1,x.2.2.2.2.2.2.2.2.2.2.2.2.2.2.1++[(to,x.2.2.2.2.2.2.2.2.2.2.2.2.1+1,false,0)],x.2.2.2.2.2.2.2.2.2.2.2.2.2.2.2.1,x.2.2.2.2.2.2.2.2.2.2.2.2.2.2.2.2.1,x.2.2.2.2.2.2.2.2.2.2.2.2.2.2.2.2.2.1,x.2.2.2.2.2.2.2.2.2.2.2.2.2.2.2.2.2.2,(msg x 2 to (x.2.2.2.2.2.2.2.2.2.2.2.2.1+1)).1,(msg x 2 to (x.2.2.2.2.2.2.2.2.2.2.2.2.1+1)).2.1,(msg x 2 to (x.2.2.2.2.2.2.2.2.2.2.2.2.1+1)).2.2.1,(msg x 2 to (x.2.2.2.2.2.2.2.2.2.2.2.2.1+1)).2.2.2.1,(msg x 2 to (x.2.2.2.2.2.2.2.2.2.2.2.2.1+1)).2.2.2.2.1,x.2.2.2.2.1,x.2.2.2.2.2.1,(msg x 2 to (x.2.2.2.2.2.2.2.2.2.2.2.2.1+1)).2.2.2.2.2.2.2.1,(msg x 2 to (x.2.2.2.2.2.2.2.2.2.2.2.2.1+1)).2.2.2.2.2.2.2.2.1,(msg x 2 to (x.2.2.2.2.2.2.2.2.2.2.2.2.1+1)).2.2.2.2.2.2.2.2.2.1,(msg x 2 to (x.2.2.2.2.2.2.2.2.2.2.2.2.1+1)).2.2.2.2.2.2.2.2.2.2.1,(msg x 2 to (x.2.2.2.2.2.2.2.2.2.2.2.2.1+1)).2.2.2.2.2.2.2.2.2.2.2,true)else(x.1,x.2.1,x.2.2.1,x.2.2.2.1,x.2.2.2.2.1,x.2.2.2.2.2.1,x.2.2.2.2.2.2.1,x.2.2.2.2.2.2.2.1,x.2.2.2.2.2.2.2.2.1,x.2.2.2.2.2.2.2.2.2.1,x.2.2.2.2.2.2.2.2.2.2.1,x.2.2.2.2.2.2.2.2.2.2.2.1,x.2.2.2.2.2.2.2.2.2.2.2.2.1,x.2.2.2.2.2.2.2.2.2.2.2.2.2.1,x.2.2.2.2.2.2.2.2.2.2.2.2.2.2.1,x.2.2.2.2.2.2.2.2.2.2.2.2.2.2.2.1,x.2.2.2.2.2.2.2.2.2.2.2.2.2.2.2.2.1,x.2.2.2.2.2.2.2.2.2.2.2.2.2.2.2.2.2.1,x.2.2.2.2.2.2.2.2.2.2.2.2.2.2.2.2.2.2,0,0,0,0,0,[],0,[],[],[],[],[],false)):=by
 have hsm:=Xq h
 have hk:=Xz h
 have hnm:=QX.1 h.num
 have hc:=QvG h
 have hn:=okN h
 have ht:Z7 w (x.2.2.2.2.1,x.2.2.2.2.2.1)=some (x.2.2.2.2.1,x.2.2.2.2.2.1):=QmU _ (Kt (x:=x) (by omega)).2.1
 apply QBK
 simp only[QpW,hc,hn,ht,QHK x to h,QAu x to false (by simp only[maxLen];omega),QQ0,QQ3,QQ2,Y8]
 cases hp:zg x.1 x.2.1 to
 ·rfl
 ·by_cases hs:Xw (Xj to false 0 x.2.2.2.2.2.2.2.2.2.2.2.2.2.2.1)<0
  ·rw[df (show¬(0:Int)<=Xw (Xj to false 0 x.2.2.2.2.2.2.2.2.2.2.2.2.2.2.1) by omega),dt hs]
   by_cases hr:x.2.2.2.2.2.2.2.2.2.2.2.2.2.1<=((x.2.2.2.2.2.2.2.2.2.2.2.2.2.2.1.length:Nat):Int)
   ·rw[dt hr];rfl
   ·rw[df hr]
    by_cases hm:x.2.2.2.2.2.2.2.2.2.2.2.2.1=100000
    ·rw[dt hm];rfl
    ·rw[df hm]
     have hcan:Y8 x to=true:=by simp only[Y8,hp,dt hs,df hr,df hm];rfl
     have hmsg:ZE w (x.1,x.2.1,x.2.2.1,x.2.2.2.1,x.2.2.2.2.1,x.2.2.2.2.2.1,x.2.2.2.2.2.2.1,x.2.2.2.2.2.2.2.1,x.2.2.2.2.2.2.2.2.1,x.2.2.2.2.2.2.2.2.2.1,x.2.2.2.2.2.2.2.2.2.2.1,x.2.2.2.2.2.2.2.2.2.2.2.1,x.2.2.2.2.2.2.2.2.2.2.2.2.1+1,x.2.2.2.2.2.2.2.2.2.2.2.2.2.1,x.2.2.2.2.2.2.2.2.2.2.2.2.2.2.1++[(to,x.2.2.2.2.2.2.2.2.2.2.2.2.1+1,false,0)],x.2.2.2.2.2.2.2.2.2.2.2.2.2.2.2.1,x.2.2.2.2.2.2.2.2.2.2.2.2.2.2.2.2.1,x.2.2.2.2.2.2.2.2.2.2.2.2.2.2.2.2.2.1,x.2.2.2.2.2.2.2.2.2.2.2.2.2.2.2.2.2.2,2,to,x.2.2.2.2.2.2.2.2.2.2.2.2.1+1)=some (msg x 2 to (x.2.2.2.2.2.2.2.2.2.2.2.2.1+1)):=QcD (QJ x to) (Qj1 h hcan) 2 to (x.2.2.2.2.2.2.2.2.2.2.2.2.1+1)
     simp only[QQ3,QQ4,QQ1,QQ2,QRn,w64 (n:=x.2.2.2.2.2.2.2.2.2.2.2.2.1+1) (by omega) (by omega),hmsg,QQ0]
     rw[Qu (by simp;omega)];rfl
  ·rw[dt (show(0:Int)<=Xw (Xj to false 0 x.2.2.2.2.2.2.2.2.2.2.2.2.2.2.1) by omega),df hs];rfl
set_option maxHeartbeats 1000000 in
theorem QI7 (x:Qb) (h:NOk x) (to:Int):QiX w (x.1,x.2.1,x.2.2.1,x.2.2.2.1,x.2.2.2.2.1,x.2.2.2.2.2.1,x.2.2.2.2.2.2.1,x.2.2.2.2.2.2.2.1,x.2.2.2.2.2.2.2.2.1,x.2.2.2.2.2.2.2.2.2.1,x.2.2.2.2.2.2.2.2.2.2.1,x.2.2.2.2.2.2.2.2.2.2.2.1,x.2.2.2.2.2.2.2.2.2.2.2.2.1,x.2.2.2.2.2.2.2.2.2.2.2.2.2.1,x.2.2.2.2.2.2.2.2.2.2.2.2.2.2.1,x.2.2.2.2.2.2.2.2.2.2.2.2.2.2.2.1,x.2.2.2.2.2.2.2.2.2.2.2.2.2.2.2.2.1,x.2.2.2.2.2.2.2.2.2.2.2.2.2.2.2.2.2.1,x.2.2.2.2.2.2.2.2.2.2.2.2.2.2.2.2.2.2,to)=some (bif Y8 x to then(x.1,x.2.1,x.2.2.1,x.2.2.2.1,x.2.2.2.2.1,x.2.2.2.2.2.1,x.2.2.2.2.2.2.1,x.2.2.2.2.2.2.2.1,x.2.2.2.2.2.2.2.2.1,x.2.2.2.2.2.2.2.2.2.1,x.2.2.2.2.2.2.2.2.2.2.1,x.2.2.2.2.2.2.2.2.2.2.2.1,x.2.2.2.2.2.2.2.2.2.2.2.2.1+1,x.2.2.2.2.2.2.2.2.2.2.2.2.2.1,x.2.2.2.2.2.2.2.2.2.2.2.2.2.2.1++[(to,x.2.2.2.2.2.2.2.2.2.2.2.2.1+1,false,0)],x.2.2.2.2.2.2.2.2.2.2.2.2.2.2.2.1,x.2.2.2.2.2.2.2.2.2.2.2.2.2.2.2.2.1,x.2.2.2.2.2.2.2.2.2.2.2.2.2.2.2.2.2.1,x.2.2.2.2.2.2.2.2.2.2.2.2.2.2.2.2.2.2,(msg x 2 to (x.2.2.2.2.2.2.2.2.2.2.2.2.1+1)).1,(msg x 2 to (x.2.2.2.2.2.2.2.2.2.2.2.2.1+1)).2.1,(msg x 2 to (x.2.2.2.2.2.2.2.2.2.2.2.2.1+1)).2.2.1,(msg x 2 to (x.2.2.2.2.2.2.2.2.2.2.2.2.1+1)).2.2.2.1,(msg x 2 to (x.2.2.2.2.2.2.2.2.2.2.2.2.1+1)).2.2.2.2.1,x.2.2.2.2.1,x.2.2.2.2.2.1,(msg x 2 to (x.2.2.2.2.2.2.2.2.2.2.2.2.1+1)).2.2.2.2.2.2.2.1,(msg x 2 to (x.2.2.2.2.2.2.2.2.2.2.2.2.1+1)).2.2.2.2.2.2.2.2.1,(msg x 2 to (x.2.2.2.2.2.2.2.2.2.2.2.2.1+1)).2.2.2.2.2.2.2.2.2.1,(msg x 2 to (x.2.2.2.2.2.2.2.2.2.2.2.2.1+1)).2.2.2.2.2.2.2.2.2.2.1,(msg x 2 to (x.2.2.2.2.2.2.2.2.2.2.2.2.1+1)).2.2.2.2.2.2.2.2.2.2.2,true)else(x.1,x.2.1,x.2.2.1,x.2.2.2.1,x.2.2.2.2.1,x.2.2.2.2.2.1,x.2.2.2.2.2.2.1,x.2.2.2.2.2.2.2.1,x.2.2.2.2.2.2.2.2.1,x.2.2.2.2.2.2.2.2.2.1,x.2.2.2.2.2.2.2.2.2.2.1,x.2.2.2.2.2.2.2.2.2.2.2.1,x.2.2.2.2.2.2.2.2.2.2.2.2.1,x.2.2.2.2.2.2.2.2.2.2.2.2.2.1,x.2.2.2.2.2.2.2.2.2.2.2.2.2.2.1,x.2.2.2.2.2.2.2.2.2.2.2.2.2.2.2.1,x.2.2.2.2.2.2.2.2.2.2.2.2.2.2.2.2.1,x.2.2.2.2.2.2.2.2.2.2.2.2.2.2.2.2.2.1,x.2.2.2.2.2.2.2.2.2.2.2.2.2.2.2.2.2.2,0,0,0,0,0,[],0,[],[],[],[],[],false)):=by
 have hsm:=Xq h
 have hk:=Xz h
 have hnm:=QX.1 h.num
 have hro:=h.room
 have hc:=Qgy h
 have hn:=QEk h
 have ht:Ks w (x.2.2.2.2.1,x.2.2.2.2.2.1)=some (x.2.2.2.2.1,x.2.2.2.2.2.1):=QqL _ (Kt (x:=x) (by omega)).2.1
 apply QCw
 simp only[Qp5,hc,hn,ht,QER x to h,QsB x to false (by simp only[maxLen];omega),QQ0,QQ3,QQ2,Y8]
 cases hp:zg x.1 x.2.1 to
 ·rfl
 ·by_cases hs:Xw (Xj to false 0 x.2.2.2.2.2.2.2.2.2.2.2.2.2.2.1)<0
  ·rw[df (show¬(0:Int)<=Xw (Xj to false 0 x.2.2.2.2.2.2.2.2.2.2.2.2.2.2.1) by omega),dt hs]
   by_cases hr:x.2.2.2.2.2.2.2.2.2.2.2.2.2.1<=((x.2.2.2.2.2.2.2.2.2.2.2.2.2.2.1.length:Nat):Int)
   ·rw[dt hr,dt (show((x.2.2.2.2.2.2.2.2.2.2.2.2.2.2.1.length:Nat):Int)=x.2.2.2.2.2.2.2.2.2.2.2.2.2.1 by omega)];rfl
   ·rw[df hr,df (show¬((x.2.2.2.2.2.2.2.2.2.2.2.2.2.2.1.length:Nat):Int)=x.2.2.2.2.2.2.2.2.2.2.2.2.2.1 by omega)]
    by_cases hm:x.2.2.2.2.2.2.2.2.2.2.2.2.1=100000
    ·rw[dt hm];rfl
    ·rw[df hm]
     have hcan:Y8 x to=true:=by simp only[Y8,hp,dt hs,df hr,df hm];rfl
     have hmsg:Z5 w (x.1,x.2.1,x.2.2.1,x.2.2.2.1,x.2.2.2.2.1,x.2.2.2.2.2.1,x.2.2.2.2.2.2.1,x.2.2.2.2.2.2.2.1,x.2.2.2.2.2.2.2.2.1,x.2.2.2.2.2.2.2.2.2.1,x.2.2.2.2.2.2.2.2.2.2.1,x.2.2.2.2.2.2.2.2.2.2.2.1,x.2.2.2.2.2.2.2.2.2.2.2.2.1+1,x.2.2.2.2.2.2.2.2.2.2.2.2.2.1,x.2.2.2.2.2.2.2.2.2.2.2.2.2.2.1++[(to,x.2.2.2.2.2.2.2.2.2.2.2.2.1+1,false,0)],x.2.2.2.2.2.2.2.2.2.2.2.2.2.2.2.1,x.2.2.2.2.2.2.2.2.2.2.2.2.2.2.2.2.1,x.2.2.2.2.2.2.2.2.2.2.2.2.2.2.2.2.2.1,x.2.2.2.2.2.2.2.2.2.2.2.2.2.2.2.2.2.2,2,to,x.2.2.2.2.2.2.2.2.2.2.2.2.1+1)=some (msg x 2 to (x.2.2.2.2.2.2.2.2.2.2.2.2.1+1)):=Qgf (QJ x to) (Qj1 h hcan) 2 to (x.2.2.2.2.2.2.2.2.2.2.2.2.1+1)
     simp only[QQ3,QQ4,QQ1,QQ2,QRn,w64 (n:=x.2.2.2.2.2.2.2.2.2.2.2.2.1+1) (by omega) (by omega),hmsg,QQ0]
     rw[Qu (by simp;omega)];rfl
  ·rw[dt (show(0:Int)<=Xw (Xj to false 0 x.2.2.2.2.2.2.2.2.2.2.2.2.2.2.1) by omega),df hs];rfl
def QfS (m:QY):Bool:=QoH m.1 m.2.1 m.2.2.1 m.2.2.2.1 m.2.2.2.2.1 m.2.2.2.2.2.1 m.2.2.2.2.2.2.1 m.2.2.2.2.2.2.2.1 m.2.2.2.2.2.2.2.2.1 m.2.2.2.2.2.2.2.2.2.1 m.2.2.2.2.2.2.2.2.2.2.1 m.2.2.2.2.2.2.2.2.2.2.2
def Qm7 (m:QY):Prop:=smM m.2.2.2.2.2.1 m.2.2.2.2.2.2.2.1 m.2.2.2.2.2.2.2.2.1 m.2.2.2.2.2.2.2.2.2.1 m.2.2.2.2.2.2.2.2.2.2.1 m.2.2.2.2.2.2.2.2.2.2.2
structure MOk (m:QY):Prop where
 kind:inR m.1 0 5=true
 src:inR m.2.1 0 4=true
 dst:inR m.2.2.1 0 4=true
 two:m.2.1≠m.2.2.1
 lv:okL (-1) m.2.2.2.2.2.2.2.2.1=true
 vec:∀y∈m.2.2.2.2.2.2.2.1,inR y 0 100000=true
 num:inR m.2.2.2.1 0 100000=true
 hi:inR m.2.2.2.2.1 0 100000=true
 tree:Qgb (m.2.2.2.2.2.1,m.2.2.2.2.2.2.1)=true
 vl:((m.2.2.2.2.2.2.2.1.length:Nat):Int)<=5
 part:QD (m.2.2.2.2.2.2.2.2.2.1,m.2.2.2.2.2.2.2.2.2.2.1)=true
 marks:QR (-1) m.2.2.2.2.2.2.2.2.2.2.2=true
theorem mok {m:QY}(h:QfS m=true):MOk m:=by
 simp only[QfS,QoH,QQ5,QRu,QRt,QY11,decide_eq_false_iff_not]at h
 obtain⟨⟨⟨⟨⟨⟨⟨⟨⟨⟨⟨h1,h2⟩,h3⟩,h4⟩,h5⟩,h6⟩,h7⟩,h8⟩,h9⟩,h10⟩,h11⟩,h12⟩:=h
 exact⟨h1,h2,h3,h4,h5,h6,h7,h8,h9,h10,h11,h12⟩
theorem QaG {l:List Qa}(h:QR (-1) l=true):l.length<=5:=by
 have:=ja _ _ h (by omega)
 rcases this with h|h
 ·omega
 ·rw[h];simp
structure Fit (x:Qb) (m:QY):Prop where
 ok:MOk m
 to:m.2.2.1=x.1
 src:m.2.1<x.2.1
 len:((m.2.2.2.2.2.2.2.1.length:Nat):Int)=x.2.1
theorem Qh1 {g:Zv}(h:Zj g=true):0<=Xf g/\Xf g<=100000:=by
 have:=Qia h
 unfold Xf;rw[h]
 simp only[QQ1];omega
theorem QAK {v:List Int}{k n:Int}(h:∀y∈v,inR y 0 100000=true) (hn:n<=100000):∀y∈ZD v k n,inR y 0 100000=true:=by
 unfold ZD
 cases hk:inR k 0 ((v.length:Nat) - 1)
 ·exact h
 ·obtain⟨j,rfl,hj⟩:=YU hk
  intro y hy
  rcases QY34 hy with hy|rfl
  ·exact h y hy
  ·have:=QX.1 (h _ (QRf hj))
   rw[Qg hj,QX]
   unfold mxI;split<;>omega
theorem QA0 (v:List Int) (k n:Int):(ZD v k n).length=v.length:=by
 unfold ZD;cases inR k 0 ((v.length:Nat) - 1)<;>simp
theorem QrM {v:List Int}{c k n:Int}(h:Ym v c=true) (hn:n<=100000):Ym (ZD v k n) c=true:=by
 have:=yr h
 simp only[Ym,QQ5,QRu,QRt,QA0]at h⊢
 exact⟨h.1,QAK this.2 hn⟩
theorem QzY {v:List Int}{k n:Int}{j:Nat}(hne:k≠(j:Int)):(ZD v k n).getD j 0=v.getD j 0:=by
 unfold ZD
 cases hk:inR k 0 ((v.length:Nat) - 1)
 ·rfl
 ·obtain⟨i,rfl,hi⟩:=YU hk
  simp only[QQ1,QRb,List.getD]
  rw[List.getElem?_set_ne (by omega)]
def Qni (x:Qb) (m:QY):Qb:=(x.1,x.2.1,x.2.2.1,x.2.2.2.1,x.2.2.2.2.1,x.2.2.2.2.2.1,x.2.2.2.2.2.2.1,x.2.2.2.2.2.2.2.1,x.2.2.2.2.2.2.2.2.1,x.2.2.2.2.2.2.2.2.2.1,ZD x.2.2.2.2.2.2.2.2.2.2.1 m.2.1 (mnI (rd1 0 m.2.2.2.2.2.2.2.1 x.1) (Xf (x.2.2.2.2.2.2.1,x.2.2.2.2.2.2.2.1,x.2.2.2.2.2.2.2.2.1))),K5 x.2.2.2.2.2.2.2.2.2.2.2.1 m.2.1 m.2.2.2.2.2.2.2.2.2.2.2,x.2.2.2.2.2.2.2.2.2.2.2.2.1,x.2.2.2.2.2.2.2.2.2.2.2.2.2.1,x.2.2.2.2.2.2.2.2.2.2.2.2.2.2.1,x.2.2.2.2.2.2.2.2.2.2.2.2.2.2.2.1,x.2.2.2.2.2.2.2.2.2.2.2.2.2.2.2.2.1,x.2.2.2.2.2.2.2.2.2.2.2.2.2.2.2.2.2.1,x.2.2.2.2.2.2.2.2.2.2.2.2.2.2.2.2.2.2)
theorem QoZ {x:Qb}(h:NOk x) {m:QY}(hf:Fit x m):NOk (Qni x m) where
 n:=h.n
 id:=h.id
 st:=h.st
 tree:=h.tree
 log:=h.log
 got:=h.got
 ack:=QrM h.ack (by
  have:=Qh1 h.log
  unfold mnI;split<;>omega)
 own:=h.own
 heard:=by
  refine QRt.2 fun y hy=>decide_eq_true ?_
  have ho:=QRt.1 h.heard
  have hy':y∈ZD x.2.2.2.2.2.2.2.2.2.2.1 m.2.1 (mnI (rd1 0 m.2.2.2.2.2.2.2.1 x.1) (Xf (x.2.2.2.2.2.2.1,x.2.2.2.2.2.2.2.1,x.2.2.2.2.2.2.2.2.1))):=hy
  show y<=Xf (x.2.2.2.2.2.2.1,x.2.2.2.2.2.2.2.1,x.2.2.2.2.2.2.2.2.1)
  unfold ZD at hy'
  cases hk:inR m.2.1 0 ((x.2.2.2.2.2.2.2.2.2.2.1.length:Nat) - 1)
  ·rw[hk]at hy';simpa using ho y hy'
  ·rw[hk]at hy'
   rcases QY34 hy' with hy'|rfl
   ·simpa using ho y hy'
   ·obtain⟨j,hj,hj2⟩:=YU hk
    have:=ho _ (QRf hj2)
    simp only[QRu]at this
    rw[hj,Qg hj2]
    unfold mxI mnI
    split<;>split<;>omega
 seen:=QeH h.seen _ _
 num:=h.num
 clock:=h.clock
 wait:=h.wait
 limit:=h.limit
 slots:=h.slots
 room:=h.room
 sess:=h.sess
 rlen:=h.rlen
 rises:=h.rises
theorem QsL:QD ([],[])=true:=rfl
def heard (x:Qb) (m:QY):Qb:=take (Qni x m) ([],[])
theorem yN {x:Qb}(h:NOk x) {m:QY}(hf:Fit x m):NOk (heard x m):=QkX (QoZ h hf) QsL
theorem Qn9 {x:Qb}(h:NOk x) {m:QY}(hf:Fit x m):∃j:Nat,x.1=(j:Int)/\j<m.2.2.2.2.2.2.2.1.length:=by
 have h1:=QX.1 h.id
 have h2:=hf.len
 exact⟨(x.1).toNat,by omega,by omega⟩
set_option maxHeartbeats 1000000 in
theorem Qec (x:Qb) (h:NOk x) (m:QY) (hf:Fit x m):ZG w (x.1,x.2.1,x.2.2.1,x.2.2.2.1,x.2.2.2.2.1,x.2.2.2.2.2.1,x.2.2.2.2.2.2.1,x.2.2.2.2.2.2.2.1,x.2.2.2.2.2.2.2.2.1,x.2.2.2.2.2.2.2.2.2.1,x.2.2.2.2.2.2.2.2.2.2.1,x.2.2.2.2.2.2.2.2.2.2.2.1,x.2.2.2.2.2.2.2.2.2.2.2.2.1,x.2.2.2.2.2.2.2.2.2.2.2.2.2.1,x.2.2.2.2.2.2.2.2.2.2.2.2.2.2.1,x.2.2.2.2.2.2.2.2.2.2.2.2.2.2.2.1,x.2.2.2.2.2.2.2.2.2.2.2.2.2.2.2.2.1,x.2.2.2.2.2.2.2.2.2.2.2.2.2.2.2.2.2.1,x.2.2.2.2.2.2.2.2.2.2.2.2.2.2.2.2.2.2,m.1,m.2.1,m.2.2.1,m.2.2.2.1,m.2.2.2.2.1,m.2.2.2.2.2.1,m.2.2.2.2.2.2.1,m.2.2.2.2.2.2.2.1,m.2.2.2.2.2.2.2.2.1,m.2.2.2.2.2.2.2.2.2.1,m.2.2.2.2.2.2.2.2.2.2.1,m.2.2.2.2.2.2.2.2.2.2.2)=some (heard x m):=by
 have hk:=Xz h
 have hl:=xQ h.log
 have hsm:=Xq h
 have hmk:=QaG hf.ok.marks
 obtain⟨j,hj,hj2⟩:=Qn9 h hf
 have hi:inb x.1 m.2.2.2.2.2.2.2.1.length=true:=by rw[hj];exact Qk hj2
 have hv:Ju w (x.2.2.2.2.2.2.2.2.2.2.1,m.2.1,mnI (rd1 0 m.2.2.2.2.2.2.2.1 x.1) (Xf (x.2.2.2.2.2.2.1,x.2.2.2.2.2.2.2.1,x.2.2.2.2.2.2.2.2.1)))=some (ZD x.2.2.2.2.2.2.2.2.2.2.1 m.2.1 (mnI (rd1 0 m.2.2.2.2.2.2.2.1 x.1) (Xf (x.2.2.2.2.2.2.1,x.2.2.2.2.2.2.2.1,x.2.2.2.2.2.2.2.2.1)))):=Qsg _ _ _ (by omega)
 have ht:Vd w (x.2.2.2.2.2.2.2.2.2.2.2.1,m.2.1,m.2.2.2.2.2.2.2.2.2.2.2)=some (K5 x.2.2.2.2.2.2.2.2.2.2.2.1 m.2.1 m.2.2.2.2.2.2.2.2.2.2.2):=QrL _ _ _ (Kt (x:=x) (by omega)).2.2.2 (by simp only[maxLen];omega)
 have hT:=QwM (Qni x m) (QoZ h hf) ([],[]) QsL
 simp only[Qni]at hT
 apply QpF
 simp only[QbU,hi,QQ1,Qmu _ _ _ hl.2.1 hl.2.2,hv,ht,QQ0]
 rw[hT];rfl
set_option maxHeartbeats 1000000 in
theorem QmQ (x:Qb) (h:NOk x) (m:QY) (hf:Fit x m):Y1 w (x.1,x.2.1,x.2.2.1,x.2.2.2.1,x.2.2.2.2.1,x.2.2.2.2.2.1,x.2.2.2.2.2.2.1,x.2.2.2.2.2.2.2.1,x.2.2.2.2.2.2.2.2.1,x.2.2.2.2.2.2.2.2.2.1,x.2.2.2.2.2.2.2.2.2.2.1,x.2.2.2.2.2.2.2.2.2.2.2.1,x.2.2.2.2.2.2.2.2.2.2.2.2.1,x.2.2.2.2.2.2.2.2.2.2.2.2.2.1,x.2.2.2.2.2.2.2.2.2.2.2.2.2.2.1,x.2.2.2.2.2.2.2.2.2.2.2.2.2.2.2.1,x.2.2.2.2.2.2.2.2.2.2.2.2.2.2.2.2.1,x.2.2.2.2.2.2.2.2.2.2.2.2.2.2.2.2.2.1,x.2.2.2.2.2.2.2.2.2.2.2.2.2.2.2.2.2.2,m.1,m.2.1,m.2.2.1,m.2.2.2.1,m.2.2.2.2.1,m.2.2.2.2.2.1,m.2.2.2.2.2.2.1,m.2.2.2.2.2.2.2.1,m.2.2.2.2.2.2.2.2.1,m.2.2.2.2.2.2.2.2.2.1,m.2.2.2.2.2.2.2.2.2.2.1,m.2.2.2.2.2.2.2.2.2.2.2)=some (heard x m):=by
 have hk:=Xz h
 have hl:=xQ h.log
 have hsm:=Xq h
 have hmk:=QaG hf.ok.marks
 obtain⟨j,hj,hj2⟩:=Qn9 h hf
 have hc:=Qgy h
 have hi:inb x.1 m.2.2.2.2.2.2.2.1.length=true:=by rw[hj];exact Qk hj2
 have hv:Jq w (x.2.2.2.2.2.2.2.2.2.2.1,m.2.1,mnI (rd1 0 m.2.2.2.2.2.2.2.1 x.1) (Xf (x.2.2.2.2.2.2.1,x.2.2.2.2.2.2.2.1,x.2.2.2.2.2.2.2.2.1)))=some (ZD x.2.2.2.2.2.2.2.2.2.2.1 m.2.1 (mnI (rd1 0 m.2.2.2.2.2.2.2.1 x.1) (Xf (x.2.2.2.2.2.2.1,x.2.2.2.2.2.2.2.1,x.2.2.2.2.2.2.2.2.1)))):=QqE _ _ _ (by omega)
 have ht:K9 w (x.2.2.2.2.2.2.2.2.2.2.2.1,m.2.1,m.2.2.2.2.2.2.2.2.2.2.2)=some (K5 x.2.2.2.2.2.2.2.2.2.2.2.1 m.2.1 m.2.2.2.2.2.2.2.2.2.2.2):=Qqd _ _ _ (Kt (x:=x) (by omega)).2.2.2 (by simp only[maxLen];omega)
 have hT:=Qot (Qni x m) (QoZ h hf) ([],[]) QsL
 simp only[Qni]at hT
 apply Qsz
 simp only[Qhn,hc,hi,QQ1,Qii _ _ _ hl.2.1 hl.2.2,QAB,hv,ht,QQ0]
 rw[hT];rfl
def brought (x:Qb) (m:QY):Qb:=((take (heard x m) (m.2.2.2.2.2.2.2.2.2.1,m.2.2.2.2.2.2.2.2.2.2.1)).1,(take (heard x m) (m.2.2.2.2.2.2.2.2.2.1,m.2.2.2.2.2.2.2.2.2.2.1)).2.1,(take (heard x m) (m.2.2.2.2.2.2.2.2.2.1,m.2.2.2.2.2.2.2.2.2.2.1)).2.2.1,(take (heard x m) (m.2.2.2.2.2.2.2.2.2.1,m.2.2.2.2.2.2.2.2.2.2.1)).2.2.2.1,(take (heard x m) (m.2.2.2.2.2.2.2.2.2.1,m.2.2.2.2.2.2.2.2.2.2.1)).2.2.2.2.1,(take (heard x m) (m.2.2.2.2.2.2.2.2.2.1,m.2.2.2.2.2.2.2.2.2.2.1)).2.2.2.2.2.1,(take (heard x m) (m.2.2.2.2.2.2.2.2.2.1,m.2.2.2.2.2.2.2.2.2.2.1)).2.2.2.2.2.2.1,(take (heard x m) (m.2.2.2.2.2.2.2.2.2.1,m.2.2.2.2.2.2.2.2.2.2.1)).2.2.2.2.2.2.2.1,(take (heard x m) (m.2.2.2.2.2.2.2.2.2.1,m.2.2.2.2.2.2.2.2.2.2.1)).2.2.2.2.2.2.2.2.1,ZD (take (heard x m) (m.2.2.2.2.2.2.2.2.2.1,m.2.2.2.2.2.2.2.2.2.2.1)).2.2.2.2.2.2.2.2.2.1 m.2.1 m.2.2.2.2.1,(take (heard x m) (m.2.2.2.2.2.2.2.2.2.1,m.2.2.2.2.2.2.2.2.2.2.1)).2.2.2.2.2.2.2.2.2.2.1,(take (heard x m) (m.2.2.2.2.2.2.2.2.2.1,m.2.2.2.2.2.2.2.2.2.2.1)).2.2.2.2.2.2.2.2.2.2.2.1,(take (heard x m) (m.2.2.2.2.2.2.2.2.2.1,m.2.2.2.2.2.2.2.2.2.2.1)).2.2.2.2.2.2.2.2.2.2.2.2.1,(take (heard x m) (m.2.2.2.2.2.2.2.2.2.1,m.2.2.2.2.2.2.2.2.2.2.1)).2.2.2.2.2.2.2.2.2.2.2.2.2.1,(take (heard x m) (m.2.2.2.2.2.2.2.2.2.1,m.2.2.2.2.2.2.2.2.2.2.1)).2.2.2.2.2.2.2.2.2.2.2.2.2.2.1,(take (heard x m) (m.2.2.2.2.2.2.2.2.2.1,m.2.2.2.2.2.2.2.2.2.2.1)).2.2.2.2.2.2.2.2.2.2.2.2.2.2.2.1,(take (heard x m) (m.2.2.2.2.2.2.2.2.2.1,m.2.2.2.2.2.2.2.2.2.2.1)).2.2.2.2.2.2.2.2.2.2.2.2.2.2.2.2.1,(take (heard x m) (m.2.2.2.2.2.2.2.2.2.1,m.2.2.2.2.2.2.2.2.2.2.1)).2.2.2.2.2.2.2.2.2.2.2.2.2.2.2.2.2.1,(take (heard x m) (m.2.2.2.2.2.2.2.2.2.1,m.2.2.2.2.2.2.2.2.2.2.1)).2.2.2.2.2.2.2.2.2.2.2.2.2.2.2.2.2.2)
theorem ZY {x:Qb}(h:NOk x) {m:QY}(hf:Fit x m):NOk (brought x m):=by
 have hb:NOk (take (heard x m) (m.2.2.2.2.2.2.2.2.2.1,m.2.2.2.2.2.2.2.2.2.2.1)):=QkX (yN h hf) hf.ok.part
 have h1:=QX.1 h.id
 have hne:m.2.1≠(((x.1).toNat:Nat):Int):=by
  have:=hf.ok.two
  have:=hf.to
  omega
 exact {
  n:=hb.n
  id:=hb.id
  st:=hb.st
  tree:=hb.tree
  log:=hb.log
  got:=QrM hb.got (QX.1 hf.ok.hi).2
  ack:=hb.ack
  own:=(QzY hne).trans hb.own
  heard:=hb.heard
  seen:=hb.seen
  num:=hb.num
  clock:=hb.clock
  wait:=hb.wait
  limit:=hb.limit
  slots:=hb.slots
  room:=hb.room
  sess:=hb.sess
  rlen:=hb.rlen
  rises:=hb.rises}
set_option maxHeartbeats 1000000 in
theorem QqJ (x:Qb) (h:NOk x) (m:QY) (hf:Fit x m):Vy w (x.1,x.2.1,x.2.2.1,x.2.2.2.1,x.2.2.2.2.1,x.2.2.2.2.2.1,x.2.2.2.2.2.2.1,x.2.2.2.2.2.2.2.1,x.2.2.2.2.2.2.2.2.1,x.2.2.2.2.2.2.2.2.2.1,x.2.2.2.2.2.2.2.2.2.2.1,x.2.2.2.2.2.2.2.2.2.2.2.1,x.2.2.2.2.2.2.2.2.2.2.2.2.1,x.2.2.2.2.2.2.2.2.2.2.2.2.2.1,x.2.2.2.2.2.2.2.2.2.2.2.2.2.2.1,x.2.2.2.2.2.2.2.2.2.2.2.2.2.2.2.1,x.2.2.2.2.2.2.2.2.2.2.2.2.2.2.2.2.1,x.2.2.2.2.2.2.2.2.2.2.2.2.2.2.2.2.2.1,x.2.2.2.2.2.2.2.2.2.2.2.2.2.2.2.2.2.2,m.1,m.2.1,m.2.2.1,m.2.2.2.1,m.2.2.2.2.1,m.2.2.2.2.2.1,m.2.2.2.2.2.2.1,m.2.2.2.2.2.2.2.1,m.2.2.2.2.2.2.2.2.1,m.2.2.2.2.2.2.2.2.2.1,m.2.2.2.2.2.2.2.2.2.2.1,m.2.2.2.2.2.2.2.2.2.2.2)=some (brought x m):=by
 have hT:=QwM (heard x m) (yN h hf) (m.2.2.2.2.2.2.2.2.2.1,m.2.2.2.2.2.2.2.2.2.2.1) hf.ok.part
 have hk:=Xz (QkX (yN h hf) hf.ok.part)
 apply Qw3
 simp only[Ql9,Qec x h m hf,hT,Qsg (take (heard x m) (m.2.2.2.2.2.2.2.2.2.1,m.2.2.2.2.2.2.2.2.2.2.1)).2.2.2.2.2.2.2.2.2.1 _ _ (by omega),QQ0,brought]
set_option maxHeartbeats 1000000 in
theorem Qhb (x:Qb) (h:NOk x) (m:QY) (hf:Fit x m):JI w (x.1,x.2.1,x.2.2.1,x.2.2.2.1,x.2.2.2.2.1,x.2.2.2.2.2.1,x.2.2.2.2.2.2.1,x.2.2.2.2.2.2.2.1,x.2.2.2.2.2.2.2.2.1,x.2.2.2.2.2.2.2.2.2.1,x.2.2.2.2.2.2.2.2.2.2.1,x.2.2.2.2.2.2.2.2.2.2.2.1,x.2.2.2.2.2.2.2.2.2.2.2.2.1,x.2.2.2.2.2.2.2.2.2.2.2.2.2.1,x.2.2.2.2.2.2.2.2.2.2.2.2.2.2.1,x.2.2.2.2.2.2.2.2.2.2.2.2.2.2.2.1,x.2.2.2.2.2.2.2.2.2.2.2.2.2.2.2.2.1,x.2.2.2.2.2.2.2.2.2.2.2.2.2.2.2.2.2.1,x.2.2.2.2.2.2.2.2.2.2.2.2.2.2.2.2.2.2,m.1,m.2.1,m.2.2.1,m.2.2.2.1,m.2.2.2.2.1,m.2.2.2.2.2.1,m.2.2.2.2.2.2.1,m.2.2.2.2.2.2.2.1,m.2.2.2.2.2.2.2.2.1,m.2.2.2.2.2.2.2.2.2.1,m.2.2.2.2.2.2.2.2.2.2.1,m.2.2.2.2.2.2.2.2.2.2.2)=some (brought x m):=by
 have hT:=Qot (heard x m) (yN h hf) (m.2.2.2.2.2.2.2.2.2.1,m.2.2.2.2.2.2.2.2.2.2.1) hf.ok.part
 have hk:=Xz (QkX (yN h hf) hf.ok.part)
 apply Qqb
 simp only[QdF,QmQ x h m hf,hT,QqE (take (heard x m) (m.2.2.2.2.2.2.2.2.2.1,m.2.2.2.2.2.2.2.2.2.2.1)).2.2.2.2.2.2.2.2.2.1 _ _ (by omega),QQ0,brought]
def KG (x:Qb) (m:QY) (b:Bool):Int:=Xw (Xj m.2.1 b 0 x.2.2.2.2.2.2.2.2.2.2.2.2.2.2.1)
def find (x:Qb) (m:QY) (b:Bool):Int:=bif decide (KG x m b<0)then -1 else(bif decide ((rd1 X9 x.2.2.2.2.2.2.2.2.2.2.2.2.2.2.1 (KG x m b)).2.1=m.2.2.2.1)then KG x m b else -1)
def yL (x:Qb) (l:List Qz):Qb:=(x.1,x.2.1,x.2.2.1,x.2.2.2.1,x.2.2.2.2.1,x.2.2.2.2.2.1,x.2.2.2.2.2.2.1,x.2.2.2.2.2.2.2.1,x.2.2.2.2.2.2.2.2.1,x.2.2.2.2.2.2.2.2.2.1,x.2.2.2.2.2.2.2.2.2.2.1,x.2.2.2.2.2.2.2.2.2.2.2.1,x.2.2.2.2.2.2.2.2.2.2.2.2.1,x.2.2.2.2.2.2.2.2.2.2.2.2.2.1,l,x.2.2.2.2.2.2.2.2.2.2.2.2.2.2.2.1,x.2.2.2.2.2.2.2.2.2.2.2.2.2.2.2.2.1,x.2.2.2.2.2.2.2.2.2.2.2.2.2.2.2.2.2.1,x.2.2.2.2.2.2.2.2.2.2.2.2.2.2.2.2.2.2)
def Ql2 (l:List Qz) (k:Int):List Qz:=l.take k.toNat++l.drop (k.toNat+1)
def gone (x:Qb) (k:Int):Qb:=yL x (Ql2 x.2.2.2.2.2.2.2.2.2.2.2.2.2.2.1 k)
theorem QiM {x:Qb}(h:NOk x) {l:List Qz}(h1:((l.length:Nat):Int)<=x.2.2.2.2.2.2.2.2.2.2.2.2.2.1) (h2:Zb x.1 x.2.1 x.2.2.2.2.2.2.2.2.2.2.2.2.2.2.2.1 [] l=true):NOk (yL x l) where
 n:=h.n
 id:=h.id
 st:=h.st
 tree:=h.tree
 log:=h.log
 got:=h.got
 ack:=h.ack
 own:=h.own
 heard:=h.heard
 seen:=h.seen
 num:=h.num
 clock:=h.clock
 wait:=h.wait
 limit:=h.limit
 slots:=h.slots
 rlen:=h.rlen
 rises:=h.rises
 room:=h1
 sess:=h2
theorem QF2 (l:List Qz) (k:Int):(Ql2 l k).length<=l.length:=by
 simp only[Ql2,QRj,QY29,QY21];omega
theorem qK {x:Qb}(h:NOk x) (k:Int):NOk (gone x k):=QiM h (by have:=QF2 x.2.2.2.2.2.2.2.2.2.2.2.2.2.2.1 k;have:=h.room;omega) (QDW h.sess _)
theorem QCW (p:Int) (b:Bool):(off:Nat)->(l:List Qz)->Xw (Xj p b off l)<0->Xw (Xj p b off l)= -1
 |_,[],_=>rfl
 |off,y::l,h=>by
  rw[Xj]at h⊢
  cases hk:decide (y.1=p)&&(y.2.2.1==b)
  ·rw[hk]at h;exact QCW p b (off+1) l h
  ·rw[hk]at h;simp[Xw]at h;omega
theorem QvB (x:Qb) (m:QY) (b:Bool):(Xw (Xj m.2.1 b 0 x.2.2.2.2.2.2.2.2.2.2.2.2.2.2.1)<0/\Xw (Xj m.2.1 b 0 x.2.2.2.2.2.2.2.2.2.2.2.2.2.2.1)= -1/\find x m b= -1)\/∃i:Nat,∃hi:i<x.2.2.2.2.2.2.2.2.2.2.2.2.2.2.1.length,Xw (Xj m.2.1 b 0 x.2.2.2.2.2.2.2.2.2.2.2.2.2.2.1)=(i:Int)/\((((x.2.2.2.2.2.2.2.2.2.2.2.2.2.2.1)[i].2.1=m.2.2.2.1)/\find x m b=(i:Int))\/((¬(x.2.2.2.2.2.2.2.2.2.2.2.2.2.2.1)[i].2.1=m.2.2.2.1)/\find x m b= -1)):=by
 unfold find KG
 by_cases hs:Xw (Xj m.2.1 b 0 x.2.2.2.2.2.2.2.2.2.2.2.2.2.2.1)<0
 ·exact .inl ⟨hs,QCW _ _ _ _ hs,by rw[dt hs];rfl⟩
 ·obtain⟨i,e,hi,_⟩:=Qga _ _ _ _ hs
  rw[QRo]at e
  refine .inr ⟨i,hi,e, ?_⟩
  rw[df hs,e,Qg hi]
  by_cases hd:(x.2.2.2.2.2.2.2.2.2.2.2.2.2.2.1)[i].2.1=m.2.2.2.1
  ·exact .inl ⟨hd,by rw[dt hd];rfl⟩
  ·exact .inr ⟨hd,by rw[df hd];rfl⟩
theorem Qsu {x:Qb}{m:QY}{b:Bool}(h:¬find x m b<0):∃i:Nat,find x m b=(i:Int)/\i<x.2.2.2.2.2.2.2.2.2.2.2.2.2.2.1.length:=by
 unfold find at h⊢
 by_cases hs:KG x m b<0
 ·rw[dt hs]at h;simp at h
 ·rw[df hs]at h⊢
  obtain⟨i,e,hi,_⟩:=Qga _ _ _ _ hs
  cases hd:decide ((rd1 X9 x.2.2.2.2.2.2.2.2.2.2.2.2.2.2.1 (KG x m b)).2.1=m.2.2.2.1)
  ·rw[hd]at h;simp at h
  ·exact⟨i,by simpa[KG]using e,hi⟩
set_option maxHeartbeats 1000000 in
theorem QoU (x:Qb) (h:NOk x) (m:QY) (b:Bool):xI w (x.1,x.2.1,x.2.2.1,x.2.2.2.1,x.2.2.2.2.1,x.2.2.2.2.2.1,x.2.2.2.2.2.2.1,x.2.2.2.2.2.2.2.1,x.2.2.2.2.2.2.2.2.1,x.2.2.2.2.2.2.2.2.2.1,x.2.2.2.2.2.2.2.2.2.2.1,x.2.2.2.2.2.2.2.2.2.2.2.1,x.2.2.2.2.2.2.2.2.2.2.2.2.1,x.2.2.2.2.2.2.2.2.2.2.2.2.2.1,x.2.2.2.2.2.2.2.2.2.2.2.2.2.2.1,x.2.2.2.2.2.2.2.2.2.2.2.2.2.2.2.1,x.2.2.2.2.2.2.2.2.2.2.2.2.2.2.2.2.1,x.2.2.2.2.2.2.2.2.2.2.2.2.2.2.2.2.2.1,x.2.2.2.2.2.2.2.2.2.2.2.2.2.2.2.2.2.2,m.1,m.2.1,m.2.2.1,m.2.2.2.1,m.2.2.2.2.1,m.2.2.2.2.2.1,m.2.2.2.2.2.2.1,m.2.2.2.2.2.2.2.1,m.2.2.2.2.2.2.2.2.1,m.2.2.2.2.2.2.2.2.2.1,m.2.2.2.2.2.2.2.2.2.2.1,m.2.2.2.2.2.2.2.2.2.2.2,b)=some (bif decide (find x m b<0)then(x.1,x.2.1,x.2.2.1,x.2.2.2.1,x.2.2.2.2.1,x.2.2.2.2.2.1,x.2.2.2.2.2.2.1,x.2.2.2.2.2.2.2.1,x.2.2.2.2.2.2.2.2.1,x.2.2.2.2.2.2.2.2.2.1,x.2.2.2.2.2.2.2.2.2.2.1,x.2.2.2.2.2.2.2.2.2.2.2.1,x.2.2.2.2.2.2.2.2.2.2.2.2.1,x.2.2.2.2.2.2.2.2.2.2.2.2.2.1,x.2.2.2.2.2.2.2.2.2.2.2.2.2.2.1,x.2.2.2.2.2.2.2.2.2.2.2.2.2.2.2.1,x.2.2.2.2.2.2.2.2.2.2.2.2.2.2.2.2.1,x.2.2.2.2.2.2.2.2.2.2.2.2.2.2.2.2.2.1,x.2.2.2.2.2.2.2.2.2.2.2.2.2.2.2.2.2.2,false)else(x.1,x.2.1,x.2.2.1,x.2.2.2.1,x.2.2.2.2.1,x.2.2.2.2.2.1,x.2.2.2.2.2.2.1,x.2.2.2.2.2.2.2.1,x.2.2.2.2.2.2.2.2.1,x.2.2.2.2.2.2.2.2.2.1,x.2.2.2.2.2.2.2.2.2.2.1,x.2.2.2.2.2.2.2.2.2.2.2.1,x.2.2.2.2.2.2.2.2.2.2.2.2.1,x.2.2.2.2.2.2.2.2.2.2.2.2.2.1,Ql2 x.2.2.2.2.2.2.2.2.2.2.2.2.2.2.1 (find x m b),x.2.2.2.2.2.2.2.2.2.2.2.2.2.2.2.1,x.2.2.2.2.2.2.2.2.2.2.2.2.2.2.2.2.1,x.2.2.2.2.2.2.2.2.2.2.2.2.2.2.2.2.2.1,x.2.2.2.2.2.2.2.2.2.2.2.2.2.2.2.2.2.2,true)):=by
 have hk:=Xz h
 apply Qvi
 simp only[QjU,QAu x m.2.1 b (by simp only[maxLen];omega),QQ0]
 rcases QvB x m b with⟨hs,he,hf⟩|⟨i,hi,e,⟨hd,hf⟩|⟨hd,hf⟩⟩
 ·rw[hf,he];rfl
 ·rw[hf,e,df (show¬(i:Int)<0 by omega)]
  simp only[QQ2,Qk hi,QQ1,Qg hi,dt hd,QQ3]
  rw[w64 (n:=(i:Int)+1) (by omega) (by omega),QjV x.2.2.2.2.2.2.2.2.2.2.2.2.2.2.1 ((i:Int)+1) (by omega) (by omega)]
  simp only[dt (show(0:Int)<=0/\0<=(i:Int)/\(i:Int)<=((x.2.2.2.2.2.2.2.2.2.2.2.2.2.2.1.length:Nat):Int) by omega),dt (show(0:Int)<=(i:Int)+1/\(i:Int)+1<=((x.2.2.2.2.2.2.2.2.2.2.2.2.2.2.1.length:Nat):Int)/\((x.2.2.2.2.2.2.2.2.2.2.2.2.2.2.1.length:Nat):Int)<=((x.2.2.2.2.2.2.2.2.2.2.2.2.2.2.1.length:Nat):Int) by omega),Int.sub_zero,QRb,Int.toNat_zero,QRg,QY7,QRe,QRo,QQ1]
  rw[Qu (by rw[QY29];omega),Qu (by rw[QY29,QY21];omega)]
  simp only[QQ1,Ql2,QRb]
  rw[show((i:Int)+1).toNat=i+1 by omega]
 ·rw[hf,e,df (show¬(i:Int)<0 by omega)]
  simp only[QQ2,Qk hi,QQ1,Qg hi,df hd,QQ4,dt (show(-1:Int)<0 by omega)]
set_option maxHeartbeats 1000000 in
theorem QoE (x:Qb) (h:NOk x) (m:QY) (b:Bool):Qdp w (x.1,x.2.1,x.2.2.1,x.2.2.2.1,x.2.2.2.2.1,x.2.2.2.2.2.1,x.2.2.2.2.2.2.1,x.2.2.2.2.2.2.2.1,x.2.2.2.2.2.2.2.2.1,x.2.2.2.2.2.2.2.2.2.1,x.2.2.2.2.2.2.2.2.2.2.1,x.2.2.2.2.2.2.2.2.2.2.2.1,x.2.2.2.2.2.2.2.2.2.2.2.2.1,x.2.2.2.2.2.2.2.2.2.2.2.2.2.1,x.2.2.2.2.2.2.2.2.2.2.2.2.2.2.1,x.2.2.2.2.2.2.2.2.2.2.2.2.2.2.2.1,x.2.2.2.2.2.2.2.2.2.2.2.2.2.2.2.2.1,x.2.2.2.2.2.2.2.2.2.2.2.2.2.2.2.2.2.1,x.2.2.2.2.2.2.2.2.2.2.2.2.2.2.2.2.2.2,m.1,m.2.1,m.2.2.1,m.2.2.2.1,m.2.2.2.2.1,m.2.2.2.2.2.1,m.2.2.2.2.2.2.1,m.2.2.2.2.2.2.2.1,m.2.2.2.2.2.2.2.2.1,m.2.2.2.2.2.2.2.2.2.1,m.2.2.2.2.2.2.2.2.2.2.1,m.2.2.2.2.2.2.2.2.2.2.2,b)=some (find x m b):=by
 have hk:=Xz h
 apply Qt0
 simp only[Qkk,QsB x m.2.1 b (by simp only[maxLen];omega),QQ0]
 rcases QvB x m b with⟨hs,he,hf⟩|⟨i,hi,e,⟨hd,hf⟩|⟨hd,hf⟩⟩
 ·rw[hf,he];rfl
 ·rw[hf,e,dt (show(0:Int)<=(i:Int) by omega)]
  simp only[Qk hi,QQ1,Qg hi,dt hd,QQ3,QQ2]
 ·rw[hf,e,dt (show(0:Int)<=(i:Int) by omega)]
  simp only[Qk hi,QQ1,Qg hi,df hd,QQ4]
theorem QoI (x:Qb) (h:NOk x) (i:Nat) (hi:i<x.2.2.2.2.2.2.2.2.2.2.2.2.2.2.1.length):VZ w (x.1,x.2.1,x.2.2.1,x.2.2.2.1,x.2.2.2.2.1,x.2.2.2.2.2.1,x.2.2.2.2.2.2.1,x.2.2.2.2.2.2.2.1,x.2.2.2.2.2.2.2.2.1,x.2.2.2.2.2.2.2.2.2.1,x.2.2.2.2.2.2.2.2.2.2.1,x.2.2.2.2.2.2.2.2.2.2.2.1,x.2.2.2.2.2.2.2.2.2.2.2.2.1,x.2.2.2.2.2.2.2.2.2.2.2.2.2.1,x.2.2.2.2.2.2.2.2.2.2.2.2.2.2.1,x.2.2.2.2.2.2.2.2.2.2.2.2.2.2.2.1,x.2.2.2.2.2.2.2.2.2.2.2.2.2.2.2.2.1,x.2.2.2.2.2.2.2.2.2.2.2.2.2.2.2.2.2.1,x.2.2.2.2.2.2.2.2.2.2.2.2.2.2.2.2.2.2,(i:Int))=some (gone x (i:Int)):=by
 have hk:=Xz h
 have hsm:=Xq h
 have hc:=Qgy h
 apply QvJ
 simp only[QkD,hc,QQ0,gone,yL]
 rw[w64 (n:=(i:Int)+1) (by omega) (by omega),QjV x.2.2.2.2.2.2.2.2.2.2.2.2.2.2.1 ((i:Int)+1) (by omega) (by omega)]
 simp only[dt (show(0:Int)<=0/\0<=(i:Int)/\(i:Int)<=((x.2.2.2.2.2.2.2.2.2.2.2.2.2.2.1.length:Nat):Int) by omega),dt (show(0:Int)<=(i:Int)+1/\(i:Int)+1<=((x.2.2.2.2.2.2.2.2.2.2.2.2.2.2.1.length:Nat):Int)/\((x.2.2.2.2.2.2.2.2.2.2.2.2.2.2.1.length:Nat):Int)<=((x.2.2.2.2.2.2.2.2.2.2.2.2.2.2.1.length:Nat):Int) by omega),Int.sub_zero,QRb,Int.toNat_zero,QRg,QY7,QRe,QRo,QQ1]
 rw[Qu (by rw[QY29];omega),Qu (by rw[QY29,QY21];omega)]
 simp only[QQ1,Ql2,QRb]
 rw[show((i:Int)+1).toNat=i+1 by omega]
def vU (y:Qb) (lv:List Int) (seq:Int):Qi:=join (Zc (y.2.2.1,y.2.2.2.1) lv) ((ship y seq).1,(ship y seq).2.1)
theorem QAH {y:Qb}(h:NOk y) (lv:List Int) (seq:Int):QD (vU y lv seq)=true:=xP (Qcm lv h.st) (Qxj h seq)
theorem QuG (y:Qb) (h:NOk y) (lv:List Int) (hlv:lv.length<=maxLen) (m:QY) (hi:inb y.1 m.2.2.2.2.2.2.2.1.length=true):Kx w (y.1,y.2.1,y.2.2.1,y.2.2.2.1,y.2.2.2.2.1,y.2.2.2.2.2.1,y.2.2.2.2.2.2.1,y.2.2.2.2.2.2.2.1,y.2.2.2.2.2.2.2.2.1,y.2.2.2.2.2.2.2.2.2.1,y.2.2.2.2.2.2.2.2.2.2.1,y.2.2.2.2.2.2.2.2.2.2.2.1,y.2.2.2.2.2.2.2.2.2.2.2.2.1,y.2.2.2.2.2.2.2.2.2.2.2.2.2.1,y.2.2.2.2.2.2.2.2.2.2.2.2.2.2.1,y.2.2.2.2.2.2.2.2.2.2.2.2.2.2.2.1,y.2.2.2.2.2.2.2.2.2.2.2.2.2.2.2.2.1,y.2.2.2.2.2.2.2.2.2.2.2.2.2.2.2.2.2.1,y.2.2.2.2.2.2.2.2.2.2.2.2.2.2.2.2.2.2,lv,m.1,m.2.1,m.2.2.1,m.2.2.2.1,m.2.2.2.2.1,m.2.2.2.2.2.1,m.2.2.2.2.2.2.1,m.2.2.2.2.2.2.2.1,m.2.2.2.2.2.2.2.2.1,m.2.2.2.2.2.2.2.2.2.1,m.2.2.2.2.2.2.2.2.2.2.1,m.2.2.2.2.2.2.2.2.2.2.2)=some (vU y lv (rd1 0 m.2.2.2.2.2.2.2.1 y.1)):=by
 have hs:=X0 h.st
 have hsl:=Qcm lv h.st
 have h1:js w (y.2.2.1,y.2.2.2.1,lv)=some (Zc (y.2.2.1,y.2.2.2.1) lv):=by
  rw[QAc _ _ lv hlv hs.1 hs.2,h.st];rfl
 have hj:Zs w ((Zc (y.2.2.1,y.2.2.2.1) lv).1,(Zc (y.2.2.1,y.2.2.2.1) lv).2,(ship y (rd1 0 m.2.2.2.2.2.2.2.1 y.1)).1,(ship y (rd1 0 m.2.2.2.2.2.2.2.1 y.1)).2.1)=some (vU y lv (rd1 0 m.2.2.2.2.2.2.2.1 y.1)):=Qa9 _ ((ship y (rd1 0 m.2.2.2.2.2.2.2.1 y.1)).1,(ship y (rd1 0 m.2.2.2.2.2.2.2.1 y.1)).2.1) (X0 hsl) (X0 (Qxj h _))
 apply QuN
 simp only[Qj6,hi,QQ1,QJy y h,h1,hj,QQ0]
theorem Qtx (y:Qb) (h:NOk y) (lv:List Int) (hlv:lv.length<=maxLen) (seq:Int):VV w (y.1,y.2.1,y.2.2.1,y.2.2.2.1,y.2.2.2.2.1,y.2.2.2.2.2.1,y.2.2.2.2.2.2.1,y.2.2.2.2.2.2.2.1,y.2.2.2.2.2.2.2.2.1,y.2.2.2.2.2.2.2.2.2.1,y.2.2.2.2.2.2.2.2.2.2.1,y.2.2.2.2.2.2.2.2.2.2.2.1,y.2.2.2.2.2.2.2.2.2.2.2.2.1,y.2.2.2.2.2.2.2.2.2.2.2.2.2.1,y.2.2.2.2.2.2.2.2.2.2.2.2.2.2.1,y.2.2.2.2.2.2.2.2.2.2.2.2.2.2.2.1,y.2.2.2.2.2.2.2.2.2.2.2.2.2.2.2.2.1,y.2.2.2.2.2.2.2.2.2.2.2.2.2.2.2.2.2.1,y.2.2.2.2.2.2.2.2.2.2.2.2.2.2.2.2.2.2,lv,seq)=some (vU y lv seq):=by
 have hs:=Kj h.st
 have hsl:=Qcm lv h.st
 have h1:xq w (y.2.2.1,y.2.2.2.1,lv)=some (Zc (y.2.2.1,y.2.2.2.1) lv):=QxR _ _ lv hlv (by simp only at hs;omega) (by simp only at hs;omega)
 have hj:Yr w ((Zc (y.2.2.1,y.2.2.2.1) lv).1,(Zc (y.2.2.1,y.2.2.2.1) lv).2,(ship y seq).1,(ship y seq).2.1)=some (vU y lv seq):=Qlw _ ((ship y seq).1,(ship y seq).2.1) hsl (Qxj h _)
 apply Qvl
 simp only[Qi4,QEt y h,h1,hj,QQ0]
def qD (y:Qb) (m:QY):QY:=(3,y.1,m.2.1,m.2.2.2.1,Xf (y.2.2.2.2.2.2.1,y.2.2.2.2.2.2.2.1,y.2.2.2.2.2.2.2.2.1),y.2.2.2.2.1,y.2.2.2.2.2.1,y.2.2.2.2.2.2.2.2.2.1,differ y.2.2.2.2.1 y.2.2.2.2.2.1 m.2.2.2.2.2.1 m.2.2.2.2.2.2.1,(vU y (differ y.2.2.2.2.1 y.2.2.2.2.2.1 m.2.2.2.2.2.1 m.2.2.2.2.2.2.1) (rd1 0 m.2.2.2.2.2.2.2.1 y.1)).1,(vU y (differ y.2.2.2.2.1 y.2.2.2.2.2.1 m.2.2.2.2.2.1 m.2.2.2.2.2.2.1) (rd1 0 m.2.2.2.2.2.2.2.1 y.1)).2,marksOf (y.2.2.1,y.2.2.2.1))
def QaO (y:Qb) (m:QY):QY:=(4,y.1,m.2.1,m.2.2.2.1,Xf (y.2.2.2.2.2.2.1,y.2.2.2.2.2.2.2.1,y.2.2.2.2.2.2.2.2.1),[],0,y.2.2.2.2.2.2.2.2.2.1,m.2.2.2.2.2.2.2.2.1,(vU y m.2.2.2.2.2.2.2.2.1 (rd1 0 m.2.2.2.2.2.2.2.1 y.1)).1,(vU y m.2.2.2.2.2.2.2.2.1 (rd1 0 m.2.2.2.2.2.2.2.1 y.1)).2,marksOf (y.2.2.1,y.2.2.2.1))
theorem Qok (a:List Int) (ra:Int) (b:List Int) (rb:Int):(differ a ra b rb).length<=4:=by
 have h:∀i,(Qi1 a b i).length<=1:=fun i=>by unfold Qi1;cases(decide (((a.length:Nat):Int)=4)&&decide (((b.length:Nat):Int)=4)&&decide (rd1 0 a (i:Int)=rd1 0 b (i:Int)))<;>simp
 unfold differ
 cases decide (ra=rb)
 ·have h0:=h 0
  have h1:=h 1
  have h2:=h 2
  have h3:=h 3
  simp only[QQ2,List.range',QY22,List.flatMap_nil,QRj,QY7,QRo,Nat.reduceAdd];omega
 ·simp
theorem QyR {y:Qb}(h:NOk y):y.2.2.2.2.1.length=4:=by
 have:=h.tree
 rw[Za,h.st]at this
 have:=congrArg (fun z:Zi=>z.1.length) this
 simpa[leaves]using this
theorem Qze {m:QY}(h:MOk m):m.2.2.2.2.2.2.2.2.1.length<=4:=by
 rcases Qwl _ _ h.lv (by omega)with h|h
 ·omega
 ·rw[h];simp
theorem Qy6 {a b c d e f:Nat}(h:a<=5/\b<=5/\c<=5/\d<=5/\e<=5/\f<=5):a<=maxLen/\b<=maxLen/\c<=maxLen/\d<=maxLen/\e<=maxLen/\f<=maxLen:=by
 simp only[maxLen];omega
theorem QFu {y:Qb}(h:NOk y) (k to num:Int):Qm7 (msg y k to num):=by
 have h1:=Xz h
 have h2:=QaG (jo (y.2.2.1,y.2.2.2.1))
 exact Qy6 ⟨by simp[msg],by simp only[msg];omega,by simp[msg],by simp[msg],by simp[msg],by simp only[msg];omega⟩
theorem QCs {y:Qb}(h:NOk y) (m:QY):Qm7 (qD y m):=by
 have h1:=Xz h
 have h2:=QaG (jo (y.2.2.1,y.2.2.2.1))
 have h3:=QyR h
 have h4:=Qok y.2.2.2.2.1 y.2.2.2.2.2.1 m.2.2.2.2.2.1 m.2.2.2.2.2.2.1
 have h5:=Kj (QAH h (differ y.2.2.2.2.1 y.2.2.2.2.2.1 m.2.2.2.2.2.1 m.2.2.2.2.2.2.1) (rd1 0 m.2.2.2.2.2.2.2.1 y.1))
 exact Qy6 ⟨by simp only[qD];omega,by simp only[qD];omega,by simp only[qD];omega,by simp only[qD];omega,by simp only[qD];omega,by simp only[qD];omega⟩
theorem QEa {y:Qb}(h:NOk y) {m:QY}(hm:MOk m):Qm7 (QaO y m):=by
 have h1:=Xz h
 have h2:=QaG (jo (y.2.2.1,y.2.2.2.1))
 have h4:=Qze hm
 have h5:=Kj (QAH h m.2.2.2.2.2.2.2.2.1 (rd1 0 m.2.2.2.2.2.2.2.1 y.1))
 exact Qy6 ⟨by simp[QaO],by simp only[QaO];omega,by simp only[QaO];omega,by simp only[QaO];omega,by simp only[QaO];omega,by simp only[QaO];omega⟩
def zz (x:Qb) (m:QY):List Qz:=bif decide (0<=KG x m true)then x.2.2.2.2.2.2.2.2.2.2.2.2.2.2.1.set (KG x m true).toNat ((rd1 X9 x.2.2.2.2.2.2.2.2.2.2.2.2.2.2.1 (KG x m true)).1,m.2.2.2.1,(rd1 X9 x.2.2.2.2.2.2.2.2.2.2.2.2.2.2.1 (KG x m true)).2.2.1,0)else x.2.2.2.2.2.2.2.2.2.2.2.2.2.2.1++[(m.2.1,m.2.2.2.1,true,0)]
def Zd (x:Qb) (m:QY):Bool:= !decide (0<=KG x m true)&&decide (x.2.2.2.2.2.2.2.2.2.2.2.2.2.1<=((x.2.2.2.2.2.2.2.2.2.2.2.2.2.2.1.length:Nat):Int))
theorem QxJ (x:Qb) (m:QY):(∃i:Nat,∃hi:i<x.2.2.2.2.2.2.2.2.2.2.2.2.2.2.1.length,Xw (Xj m.2.1 true 0 x.2.2.2.2.2.2.2.2.2.2.2.2.2.2.1)=(i:Int)/\Zd x m=false/\zz x m=x.2.2.2.2.2.2.2.2.2.2.2.2.2.2.1.set i ((x.2.2.2.2.2.2.2.2.2.2.2.2.2.2.1)[i].1,m.2.2.2.1,(x.2.2.2.2.2.2.2.2.2.2.2.2.2.2.1)[i].2.2.1,0))\/(Xw (Xj m.2.1 true 0 x.2.2.2.2.2.2.2.2.2.2.2.2.2.2.1)<0/\x.2.2.2.2.2.2.2.2.2.2.2.2.2.1<=((x.2.2.2.2.2.2.2.2.2.2.2.2.2.2.1.length:Nat):Int)/\Zd x m=true)\/(Xw (Xj m.2.1 true 0 x.2.2.2.2.2.2.2.2.2.2.2.2.2.2.1)<0/\¬x.2.2.2.2.2.2.2.2.2.2.2.2.2.1<=((x.2.2.2.2.2.2.2.2.2.2.2.2.2.2.1.length:Nat):Int)/\Zd x m=false/\zz x m=x.2.2.2.2.2.2.2.2.2.2.2.2.2.2.1++[(m.2.1,m.2.2.2.1,true,0)]):=by
 unfold Zd zz KG
 by_cases hs:Xw (Xj m.2.1 true 0 x.2.2.2.2.2.2.2.2.2.2.2.2.2.2.1)<0
 ·rw[df (show¬0<=Xw (Xj m.2.1 true 0 x.2.2.2.2.2.2.2.2.2.2.2.2.2.2.1) by omega)]
  by_cases hf:x.2.2.2.2.2.2.2.2.2.2.2.2.2.1<=((x.2.2.2.2.2.2.2.2.2.2.2.2.2.2.1.length:Nat):Int)
  ·exact .inr (.inl ⟨hs,hf,by rw[dt hf];rfl⟩)
  ·exact .inr (.inr ⟨hs,hf,by rw[df hf];rfl,rfl⟩)
 ·obtain⟨i,e,hi,_⟩:=Qga _ _ _ _ hs
  rw[QRo]at e
  refine .inl ⟨i,hi,e, ?_, ?_⟩
  ·rw[dt (show 0<=Xw (Xj m.2.1 true 0 x.2.2.2.2.2.2.2.2.2.2.2.2.2.2.1) by omega)];rfl
  ·rw[dt (show 0<=Xw (Xj m.2.1 true 0 x.2.2.2.2.2.2.2.2.2.2.2.2.2.2.1) by omega),e,Qg hi,QRb];rfl
def Qt (x:Qb) (m:QY):Qb:=heard (yL x (zz x m)) m
theorem Qm1 {x:Qb}(h:NOk x) {m:QY}(hf:Fit x m) (hc:Zd x m=false):NOk (yL x (zz x m)):=by
 have hw:=QX.1 h.wait
 have hr:=h.room
 unfold Zd at hc
 unfold zz
 by_cases hs:0<=KG x m true
 ·rw[dt hs]
  obtain⟨i,e,hi,hki⟩:=Qga _ _ _ _ (show¬Xw (Xj m.2.1 true 0 x.2.2.2.2.2.2.2.2.2.2.2.2.2.2.1)<0 by unfold KG at hs;omega)
  rw[QRo]at e
  have e':KG x m true=(i:Int):=e
  rw[e',Qg hi,QRb]
  refine QiM h (by simp only[QQ1,QY6];exact hr) (QGw h.sess hi ?_ rfl rfl)
  have ho:=((Vs _ _ _ _).1 h.sess).1 _ (QRf hi)
  simp only[Kl,QQ5]at ho⊢
  exact⟨⟨ho.1.1,hf.ok.num⟩,by rw[QX];omega⟩
 ·rw[df hs]at hc⊢
  simp only[QQ4,QRd,decide_eq_false_iff_not]at hc
  refine QiM h (by simp only[QQ2,QRj,QY8,QY7];omega) (QAY h.sess ?_ (by unfold KG at hs;simp only;omega))
  have h1:=QX.1 hf.ok.src
  have h2:=hf.src
  have h3:=hf.ok.two
  have h4:=hf.to
  simp only[Kl,zg,QQ5,QX,QY11,decide_eq_false_iff_not]
  have h5:=QX.1 hf.ok.num
  refine⟨⟨⟨⟨h1.1,by omega⟩, ?_⟩,h5⟩,by omega⟩
  omega
theorem QAr {x:Qb}{m:QY}(hf:Fit x m) (l:List Qz):Fit (yL x l) m:=⟨hf.ok,hf.to,hf.src,hf.len⟩
theorem yV {x:Qb}(h:NOk x) {m:QY}(hf:Fit x m) (hc:Zd x m=false):NOk (Qt x m):=yN (Qm1 h hf hc) (QAr hf _)
set_option maxHeartbeats 2000000 in
theorem QyO (x:Qb) (h:NOk x) (m:QY) (hf:Fit x m):yi w (x.1,x.2.1,x.2.2.1,x.2.2.2.1,x.2.2.2.2.1,x.2.2.2.2.2.1,x.2.2.2.2.2.2.1,x.2.2.2.2.2.2.2.1,x.2.2.2.2.2.2.2.2.1,x.2.2.2.2.2.2.2.2.2.1,x.2.2.2.2.2.2.2.2.2.2.1,x.2.2.2.2.2.2.2.2.2.2.2.1,x.2.2.2.2.2.2.2.2.2.2.2.2.1,x.2.2.2.2.2.2.2.2.2.2.2.2.2.1,x.2.2.2.2.2.2.2.2.2.2.2.2.2.2.1,x.2.2.2.2.2.2.2.2.2.2.2.2.2.2.2.1,x.2.2.2.2.2.2.2.2.2.2.2.2.2.2.2.2.1,x.2.2.2.2.2.2.2.2.2.2.2.2.2.2.2.2.2.1,x.2.2.2.2.2.2.2.2.2.2.2.2.2.2.2.2.2.2,m.1,m.2.1,m.2.2.1,m.2.2.2.1,m.2.2.2.2.1,m.2.2.2.2.2.1,m.2.2.2.2.2.2.1,m.2.2.2.2.2.2.2.1,m.2.2.2.2.2.2.2.2.1,m.2.2.2.2.2.2.2.2.2.1,m.2.2.2.2.2.2.2.2.2.2.1,m.2.2.2.2.2.2.2.2.2.2.2)=some (bif Zd x m then(x.1,x.2.1,x.2.2.1,x.2.2.2.1,x.2.2.2.2.1,x.2.2.2.2.2.1,x.2.2.2.2.2.2.1,x.2.2.2.2.2.2.2.1,x.2.2.2.2.2.2.2.2.1,x.2.2.2.2.2.2.2.2.2.1,x.2.2.2.2.2.2.2.2.2.2.1,x.2.2.2.2.2.2.2.2.2.2.2.1,x.2.2.2.2.2.2.2.2.2.2.2.2.1,x.2.2.2.2.2.2.2.2.2.2.2.2.2.1,x.2.2.2.2.2.2.2.2.2.2.2.2.2.2.1,x.2.2.2.2.2.2.2.2.2.2.2.2.2.2.2.1,x.2.2.2.2.2.2.2.2.2.2.2.2.2.2.2.2.1,x.2.2.2.2.2.2.2.2.2.2.2.2.2.2.2.2.2.1,x.2.2.2.2.2.2.2.2.2.2.2.2.2.2.2.2.2.2,[msg x 5 m.2.1 m.2.2.2.1],3)else((Qt x m).1,(Qt x m).2.1,(Qt x m).2.2.1,(Qt x m).2.2.2.1,(Qt x m).2.2.2.2.1,(Qt x m).2.2.2.2.2.1,(Qt x m).2.2.2.2.2.2.1,(Qt x m).2.2.2.2.2.2.2.1,(Qt x m).2.2.2.2.2.2.2.2.1,(Qt x m).2.2.2.2.2.2.2.2.2.1,(Qt x m).2.2.2.2.2.2.2.2.2.2.1,(Qt x m).2.2.2.2.2.2.2.2.2.2.2.1,(Qt x m).2.2.2.2.2.2.2.2.2.2.2.2.1,(Qt x m).2.2.2.2.2.2.2.2.2.2.2.2.2.1,(Qt x m).2.2.2.2.2.2.2.2.2.2.2.2.2.2.1,(Qt x m).2.2.2.2.2.2.2.2.2.2.2.2.2.2.2.1,(Qt x m).2.2.2.2.2.2.2.2.2.2.2.2.2.2.2.2.1,(Qt x m).2.2.2.2.2.2.2.2.2.2.2.2.2.2.2.2.2.1,(Qt x m).2.2.2.2.2.2.2.2.2.2.2.2.2.2.2.2.2.2,[qD (Qt x m) m],0)):=by
 have hk:=Xz h
 have hsm:=Xq h
 have hr:=h.room
 obtain⟨j,hj,hj2⟩:=Qn9 h hf
 have hi0:inb x.1 m.2.2.2.2.2.2.2.1.length=true:=by rw[hj];exact Qk hj2
 have hY:Zd x m=false->ZG w (x.1,x.2.1,x.2.2.1,x.2.2.2.1,x.2.2.2.2.1,x.2.2.2.2.2.1,x.2.2.2.2.2.2.1,x.2.2.2.2.2.2.2.1,x.2.2.2.2.2.2.2.2.1,x.2.2.2.2.2.2.2.2.2.1,x.2.2.2.2.2.2.2.2.2.2.1,x.2.2.2.2.2.2.2.2.2.2.2.1,x.2.2.2.2.2.2.2.2.2.2.2.2.1,x.2.2.2.2.2.2.2.2.2.2.2.2.2.1,zz x m,x.2.2.2.2.2.2.2.2.2.2.2.2.2.2.2.1,x.2.2.2.2.2.2.2.2.2.2.2.2.2.2.2.2.1,x.2.2.2.2.2.2.2.2.2.2.2.2.2.2.2.2.2.1,x.2.2.2.2.2.2.2.2.2.2.2.2.2.2.2.2.2.2,m.1,m.2.1,m.2.2.1,m.2.2.2.1,m.2.2.2.2.1,m.2.2.2.2.2.1,m.2.2.2.2.2.2.1,m.2.2.2.2.2.2.2.1,m.2.2.2.2.2.2.2.2.1,m.2.2.2.2.2.2.2.2.2.1,m.2.2.2.2.2.2.2.2.2.2.1,m.2.2.2.2.2.2.2.2.2.2.2)=some (Qt x m):=fun hc=>Qec (yL x (zz x m)) (Qm1 h hf hc) m (QAr hf _)
 have hm3:Zd x m=false->ZE w ((Qt x m).1,(Qt x m).2.1,(Qt x m).2.2.1,(Qt x m).2.2.2.1,(Qt x m).2.2.2.2.1,(Qt x m).2.2.2.2.2.1,(Qt x m).2.2.2.2.2.2.1,(Qt x m).2.2.2.2.2.2.2.1,(Qt x m).2.2.2.2.2.2.2.2.1,(Qt x m).2.2.2.2.2.2.2.2.2.1,(Qt x m).2.2.2.2.2.2.2.2.2.2.1,(Qt x m).2.2.2.2.2.2.2.2.2.2.2.1,(Qt x m).2.2.2.2.2.2.2.2.2.2.2.2.1,(Qt x m).2.2.2.2.2.2.2.2.2.2.2.2.2.1,(Qt x m).2.2.2.2.2.2.2.2.2.2.2.2.2.2.1,(Qt x m).2.2.2.2.2.2.2.2.2.2.2.2.2.2.2.1,(Qt x m).2.2.2.2.2.2.2.2.2.2.2.2.2.2.2.2.1,(Qt x m).2.2.2.2.2.2.2.2.2.2.2.2.2.2.2.2.2.1,(Qt x m).2.2.2.2.2.2.2.2.2.2.2.2.2.2.2.2.2.2,3,m.2.1,m.2.2.2.1)=some (msg (Qt x m) 3 m.2.1 m.2.2.2.1):=fun hc=>QcD (Qt x m) (yV h hf hc) 3 m.2.1 m.2.2.2.1
 have hct:Zd x m=false->Z7 w ((Qt x m).2.2.2.2.1,(Qt x m).2.2.2.2.2.1)=some ((Qt x m).2.2.2.2.1,(Qt x m).2.2.2.2.2.1):=fun hc=>QmU ((Qt x m).2.2.2.2.1,(Qt x m).2.2.2.2.2.1) (by have:=QyR (yV h hf hc);simp only[ZC,QW];omega)
 have hdl:=Qok (Qt x m).2.2.2.2.1 (Qt x m).2.2.2.2.2.1 m.2.2.2.2.2.1 m.2.2.2.2.2.2.1
 have hpf:Zd x m=false->Kx w ((Qt x m).1,(Qt x m).2.1,(Qt x m).2.2.1,(Qt x m).2.2.2.1,(Qt x m).2.2.2.2.1,(Qt x m).2.2.2.2.2.1,(Qt x m).2.2.2.2.2.2.1,(Qt x m).2.2.2.2.2.2.2.1,(Qt x m).2.2.2.2.2.2.2.2.1,(Qt x m).2.2.2.2.2.2.2.2.2.1,(Qt x m).2.2.2.2.2.2.2.2.2.2.1,(Qt x m).2.2.2.2.2.2.2.2.2.2.2.1,(Qt x m).2.2.2.2.2.2.2.2.2.2.2.2.1,(Qt x m).2.2.2.2.2.2.2.2.2.2.2.2.2.1,(Qt x m).2.2.2.2.2.2.2.2.2.2.2.2.2.2.1,(Qt x m).2.2.2.2.2.2.2.2.2.2.2.2.2.2.2.1,(Qt x m).2.2.2.2.2.2.2.2.2.2.2.2.2.2.2.2.1,(Qt x m).2.2.2.2.2.2.2.2.2.2.2.2.2.2.2.2.2.1,(Qt x m).2.2.2.2.2.2.2.2.2.2.2.2.2.2.2.2.2.2,differ (Qt x m).2.2.2.2.1 (Qt x m).2.2.2.2.2.1 m.2.2.2.2.2.1 m.2.2.2.2.2.2.1,m.1,m.2.1,m.2.2.1,m.2.2.2.1,m.2.2.2.2.1,m.2.2.2.2.2.1,m.2.2.2.2.2.2.1,m.2.2.2.2.2.2.2.1,m.2.2.2.2.2.2.2.2.1,m.2.2.2.2.2.2.2.2.2.1,m.2.2.2.2.2.2.2.2.2.2.1,m.2.2.2.2.2.2.2.2.2.2.2)=some (vU (Qt x m) (differ (Qt x m).2.2.2.2.1 (Qt x m).2.2.2.2.2.1 m.2.2.2.2.2.1 m.2.2.2.2.2.2.1) (rd1 0 m.2.2.2.2.2.2.2.1 x.1)):=fun hc=>QuG (Qt x m) (yV h hf hc) _ (by simp only[maxLen];omega) m hi0
 apply QpI
 simp only[QdI,QAu x m.2.1 true (by simp only[maxLen];omega),QQ0]
 rcases QxJ x m with⟨i,hi,e,hc,hss⟩|⟨hs,hfl,hc⟩|⟨hs,hfl,hc,hss⟩
 ·have hY:=hY hc
  have hm3:=hm3 hc
  have hct:=hct hc
  have hpf:=hpf hc
  rw[hss]at hY
  have hs1:i<(x.2.2.2.2.2.2.2.2.2.2.2.2.2.2.1.set i ((x.2.2.2.2.2.2.2.2.2.2.2.2.2.2.1)[i].1,m.2.2.2.1,(x.2.2.2.2.2.2.2.2.2.2.2.2.2.2.1)[i].2.2)).length:=by simpa using hi
  have hr1:=Yg (d:=X9) (v:=((x.2.2.2.2.2.2.2.2.2.2.2.2.2.2.1)[i].1,m.2.2.2.1,(x.2.2.2.2.2.2.2.2.2.2.2.2.2.2.1)[i].2.2)) hi
  rw[hc,e,dt (show(0:Int)<=(i:Int) by omega)]
  simp only[Qk hi,Qg hi,QRb,Qk hs1,QQ1,hr1,QY10,QQ2]
  rw[hY]
  simp only[QQ0,hm3,hct,Qxw,hpf,hi0,QQ1]
  rfl
 ·rw[hc,df (show¬(0:Int)<=Xw (Xj m.2.1 true 0 x.2.2.2.2.2.2.2.2.2.2.2.2.2.2.1) by omega)]
  rw[dt hfl]
  simp only[QQ1,QQ2,QcD x h,QQ0]
 ·have hY:=hY hc
  have hm3:=hm3 hc
  have hct:=hct hc
  have hpf:=hpf hc
  rw[hss]at hY
  rw[hc,df (show¬(0:Int)<=Xw (Xj m.2.1 true 0 x.2.2.2.2.2.2.2.2.2.2.2.2.2.2.1) by omega)]
  rw[df hfl]
  simp only[QQ1,QQ2]
  rw[Qu (by simp;omega),QQ1,hY]
  simp only[QQ0,hm3,hct,Qxw,hpf,hi0,QQ1]
  rfl
set_option maxHeartbeats 2000000 in
theorem QFk (x:Qb) (h:NOk x) (m:QY) (hf:Fit x m):Qe0 w (x.1,x.2.1,x.2.2.1,x.2.2.2.1,x.2.2.2.2.1,x.2.2.2.2.2.1,x.2.2.2.2.2.2.1,x.2.2.2.2.2.2.2.1,x.2.2.2.2.2.2.2.2.1,x.2.2.2.2.2.2.2.2.2.1,x.2.2.2.2.2.2.2.2.2.2.1,x.2.2.2.2.2.2.2.2.2.2.2.1,x.2.2.2.2.2.2.2.2.2.2.2.2.1,x.2.2.2.2.2.2.2.2.2.2.2.2.2.1,x.2.2.2.2.2.2.2.2.2.2.2.2.2.2.1,x.2.2.2.2.2.2.2.2.2.2.2.2.2.2.2.1,x.2.2.2.2.2.2.2.2.2.2.2.2.2.2.2.2.1,x.2.2.2.2.2.2.2.2.2.2.2.2.2.2.2.2.2.1,x.2.2.2.2.2.2.2.2.2.2.2.2.2.2.2.2.2.2,m.1,m.2.1,m.2.2.1,m.2.2.2.1,m.2.2.2.2.1,m.2.2.2.2.2.1,m.2.2.2.2.2.2.1,m.2.2.2.2.2.2.2.1,m.2.2.2.2.2.2.2.2.1,m.2.2.2.2.2.2.2.2.2.1,m.2.2.2.2.2.2.2.2.2.2.1,m.2.2.2.2.2.2.2.2.2.2.2)=some (bif Zd x m then(x.1,x.2.1,x.2.2.1,x.2.2.2.1,x.2.2.2.2.1,x.2.2.2.2.2.1,x.2.2.2.2.2.2.1,x.2.2.2.2.2.2.2.1,x.2.2.2.2.2.2.2.2.1,x.2.2.2.2.2.2.2.2.2.1,x.2.2.2.2.2.2.2.2.2.2.1,x.2.2.2.2.2.2.2.2.2.2.2.1,x.2.2.2.2.2.2.2.2.2.2.2.2.1,x.2.2.2.2.2.2.2.2.2.2.2.2.2.1,x.2.2.2.2.2.2.2.2.2.2.2.2.2.2.1,x.2.2.2.2.2.2.2.2.2.2.2.2.2.2.2.1,x.2.2.2.2.2.2.2.2.2.2.2.2.2.2.2.2.1,x.2.2.2.2.2.2.2.2.2.2.2.2.2.2.2.2.2.1,x.2.2.2.2.2.2.2.2.2.2.2.2.2.2.2.2.2.2,[msg x 5 m.2.1 m.2.2.2.1],3)else((Qt x m).1,(Qt x m).2.1,(Qt x m).2.2.1,(Qt x m).2.2.2.1,(Qt x m).2.2.2.2.1,(Qt x m).2.2.2.2.2.1,(Qt x m).2.2.2.2.2.2.1,(Qt x m).2.2.2.2.2.2.2.1,(Qt x m).2.2.2.2.2.2.2.2.1,(Qt x m).2.2.2.2.2.2.2.2.2.1,(Qt x m).2.2.2.2.2.2.2.2.2.2.1,(Qt x m).2.2.2.2.2.2.2.2.2.2.2.1,(Qt x m).2.2.2.2.2.2.2.2.2.2.2.2.1,(Qt x m).2.2.2.2.2.2.2.2.2.2.2.2.2.1,(Qt x m).2.2.2.2.2.2.2.2.2.2.2.2.2.2.1,(Qt x m).2.2.2.2.2.2.2.2.2.2.2.2.2.2.2.1,(Qt x m).2.2.2.2.2.2.2.2.2.2.2.2.2.2.2.2.1,(Qt x m).2.2.2.2.2.2.2.2.2.2.2.2.2.2.2.2.2.1,(Qt x m).2.2.2.2.2.2.2.2.2.2.2.2.2.2.2.2.2.2,[qD (Qt x m) m],0)):=by
 have hk:=Xz h
 have hsm:=Xq h
 have hr:=h.room
 have hcx:=Qgy h
 obtain⟨j,hj,hj2⟩:=Qn9 h hf
 have hi0:inb x.1 m.2.2.2.2.2.2.2.1.length=true:=by rw[hj];exact Qk hj2
 have hY:Zd x m=false->Y1 w (x.1,x.2.1,x.2.2.1,x.2.2.2.1,x.2.2.2.2.1,x.2.2.2.2.2.1,x.2.2.2.2.2.2.1,x.2.2.2.2.2.2.2.1,x.2.2.2.2.2.2.2.2.1,x.2.2.2.2.2.2.2.2.2.1,x.2.2.2.2.2.2.2.2.2.2.1,x.2.2.2.2.2.2.2.2.2.2.2.1,x.2.2.2.2.2.2.2.2.2.2.2.2.1,x.2.2.2.2.2.2.2.2.2.2.2.2.2.1,zz x m,x.2.2.2.2.2.2.2.2.2.2.2.2.2.2.2.1,x.2.2.2.2.2.2.2.2.2.2.2.2.2.2.2.2.1,x.2.2.2.2.2.2.2.2.2.2.2.2.2.2.2.2.2.1,x.2.2.2.2.2.2.2.2.2.2.2.2.2.2.2.2.2.2,m.1,m.2.1,m.2.2.1,m.2.2.2.1,m.2.2.2.2.1,m.2.2.2.2.2.1,m.2.2.2.2.2.2.1,m.2.2.2.2.2.2.2.1,m.2.2.2.2.2.2.2.2.1,m.2.2.2.2.2.2.2.2.2.1,m.2.2.2.2.2.2.2.2.2.2.1,m.2.2.2.2.2.2.2.2.2.2.2)=some (Qt x m):=fun hc=>QmQ (yL x (zz x m)) (Qm1 h hf hc) m (QAr hf _)
 have hm3:Zd x m=false->Z5 w ((Qt x m).1,(Qt x m).2.1,(Qt x m).2.2.1,(Qt x m).2.2.2.1,(Qt x m).2.2.2.2.1,(Qt x m).2.2.2.2.2.1,(Qt x m).2.2.2.2.2.2.1,(Qt x m).2.2.2.2.2.2.2.1,(Qt x m).2.2.2.2.2.2.2.2.1,(Qt x m).2.2.2.2.2.2.2.2.2.1,(Qt x m).2.2.2.2.2.2.2.2.2.2.1,(Qt x m).2.2.2.2.2.2.2.2.2.2.2.1,(Qt x m).2.2.2.2.2.2.2.2.2.2.2.2.1,(Qt x m).2.2.2.2.2.2.2.2.2.2.2.2.2.1,(Qt x m).2.2.2.2.2.2.2.2.2.2.2.2.2.2.1,(Qt x m).2.2.2.2.2.2.2.2.2.2.2.2.2.2.2.1,(Qt x m).2.2.2.2.2.2.2.2.2.2.2.2.2.2.2.2.1,(Qt x m).2.2.2.2.2.2.2.2.2.2.2.2.2.2.2.2.2.1,(Qt x m).2.2.2.2.2.2.2.2.2.2.2.2.2.2.2.2.2.2,3,m.2.1,m.2.2.2.1)=some (msg (Qt x m) 3 m.2.1 m.2.2.2.1):=fun hc=>Qgf (Qt x m) (yV h hf hc) 3 m.2.1 m.2.2.2.1
 have hct:Zd x m=false->Ks w ((Qt x m).2.2.2.2.1,(Qt x m).2.2.2.2.2.1)=some ((Qt x m).2.2.2.2.1,(Qt x m).2.2.2.2.2.1):=fun hc=>QqL ((Qt x m).2.2.2.2.1,(Qt x m).2.2.2.2.2.1) (by have:=QyR (yV h hf hc);simp only[ZC,QW];omega)
 have hdl:=Qok (Qt x m).2.2.2.2.1 (Qt x m).2.2.2.2.2.1 m.2.2.2.2.2.1 m.2.2.2.2.2.2.1
 have hpf:Zd x m=false->VV w ((Qt x m).1,(Qt x m).2.1,(Qt x m).2.2.1,(Qt x m).2.2.2.1,(Qt x m).2.2.2.2.1,(Qt x m).2.2.2.2.2.1,(Qt x m).2.2.2.2.2.2.1,(Qt x m).2.2.2.2.2.2.2.1,(Qt x m).2.2.2.2.2.2.2.2.1,(Qt x m).2.2.2.2.2.2.2.2.2.1,(Qt x m).2.2.2.2.2.2.2.2.2.2.1,(Qt x m).2.2.2.2.2.2.2.2.2.2.2.1,(Qt x m).2.2.2.2.2.2.2.2.2.2.2.2.1,(Qt x m).2.2.2.2.2.2.2.2.2.2.2.2.2.1,(Qt x m).2.2.2.2.2.2.2.2.2.2.2.2.2.2.1,(Qt x m).2.2.2.2.2.2.2.2.2.2.2.2.2.2.2.1,(Qt x m).2.2.2.2.2.2.2.2.2.2.2.2.2.2.2.2.1,(Qt x m).2.2.2.2.2.2.2.2.2.2.2.2.2.2.2.2.2.1,(Qt x m).2.2.2.2.2.2.2.2.2.2.2.2.2.2.2.2.2.2,differ (Qt x m).2.2.2.2.1 (Qt x m).2.2.2.2.2.1 m.2.2.2.2.2.1 m.2.2.2.2.2.2.1,rd1 0 m.2.2.2.2.2.2.2.1 x.1)=some (vU (Qt x m) (differ (Qt x m).2.2.2.2.1 (Qt x m).2.2.2.2.2.1 m.2.2.2.2.2.1 m.2.2.2.2.2.2.1) (rd1 0 m.2.2.2.2.2.2.2.1 x.1)):=fun hc=>Qtx (Qt x m) (yV h hf hc) _ (by simp only[maxLen];omega) _
 apply Qwd
 simp only[Qlt,QsB x m.2.1 true (by simp only[maxLen];omega),hcx,QQ0]
 rcases QxJ x m with⟨i,hi,e,hc,hss⟩|⟨hs,hfl,hc⟩|⟨hs,hfl,hc,hss⟩
 ·have hY:=hY hc
  have hm3:=hm3 hc
  have hct:=hct hc
  have hpf:=hpf hc
  rw[hss]at hY
  have hs1:i<(x.2.2.2.2.2.2.2.2.2.2.2.2.2.2.1.set i ((x.2.2.2.2.2.2.2.2.2.2.2.2.2.2.1)[i].1,m.2.2.2.1,(x.2.2.2.2.2.2.2.2.2.2.2.2.2.2.1)[i].2.2)).length:=by simpa using hi
  have hr1:=Yg (d:=X9) (v:=((x.2.2.2.2.2.2.2.2.2.2.2.2.2.2.1)[i].1,m.2.2.2.1,(x.2.2.2.2.2.2.2.2.2.2.2.2.2.2.1)[i].2.2)) hi
  rw[hc,e,dt (show(0:Int)<=(i:Int) by omega)]
  simp only[Qk hi,Qg hi,QRb,Qk hs1,QQ1,hr1,QY10,QQ2]
  rw[hY]
  simp only[QQ0,hm3,hct,Qug,hpf,hi0,QQ1]
  rfl
 ·rw[hc,df (show¬(0:Int)<=Xw (Xj m.2.1 true 0 x.2.2.2.2.2.2.2.2.2.2.2.2.2.2.1) by omega)]
  rw[dt (show((x.2.2.2.2.2.2.2.2.2.2.2.2.2.2.1.length:Nat):Int)=x.2.2.2.2.2.2.2.2.2.2.2.2.2.1 by omega)]
  simp only[QQ1,QQ2,Qgf x h,QQ0]
 ·have hY:=hY hc
  have hm3:=hm3 hc
  have hct:=hct hc
  have hpf:=hpf hc
  rw[hss]at hY
  rw[hc,df (show¬(0:Int)<=Xw (Xj m.2.1 true 0 x.2.2.2.2.2.2.2.2.2.2.2.2.2.2.1) by omega)]
  rw[df (show¬((x.2.2.2.2.2.2.2.2.2.2.2.2.2.2.1.length:Nat):Int)=x.2.2.2.2.2.2.2.2.2.2.2.2.2.1 by omega)]
  simp only[QQ1,QQ2]
  rw[Qu (by simp;omega),QQ1,hY]
  simp only[QQ0,hm3,hct,Qug,hpf,hi0,QQ1]
  rfl
end Go.Proofs.YtiejfnbmficbmaaGreat.M
