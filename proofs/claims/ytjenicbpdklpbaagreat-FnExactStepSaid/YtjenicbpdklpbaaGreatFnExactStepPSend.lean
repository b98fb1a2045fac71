/- What the plain forms that FnExactStep reaches come to: PSend. No conditions but those that each theorem states. -/
import Derived.Test.YtjenicbpdklpbaaGreatFnExactStepPLog
set_option linter.all false
namespace Go.Proofs.YtjenicbpdklpbaaGreat.M
open Go Go.Eng Go.Proofs
set_option linter.unusedVariables false
theorem QsH (x y:Qz):Zy x y=Zy y x:=by
 unfold Zy
 by_cases h:y.1=x.1
 ·rw[dt h,dt h.symm];cases y.2.2.1<;>cases x.2.2.1<;>rfl
 ·rw[df h,df (fun e=>h e.symm)];rfl
theorem Qt4 (id n wt:Int):(l pre:List Qz)->(X9 id n wt pre l=true↔(∀x∈l,Y9 id n wt x=true)/\(∀x∈l,∀y∈pre,Zy x y=false)/\l.Pairwise fun y x=>Zy x y=false)
 | [],pre=>by simp[X9]
 |x::l,pre=>by
  rw[X9,QQ5,QQ5,Qt4 id n wt l (pre++[x]),List.pairwise_cons]
  constructor
  ·rintro⟨⟨h1,h2⟩,h3,h4,h5⟩
   have h2':∀y∈pre,Zy x y=false:=fun y hy=>by
    cases hk:Zy x y
    ·rfl
    ·have:pre.any (Zy x)=true:=List.any_eq_true.2 ⟨y,hy,hk⟩
     rw[this]at h2;cases h2
   refine⟨fun y hy=> ?_,fun y hy z hz=> ?_,fun y hy=>h4 y hy x (by simp),h5⟩
   ·rcases QRk.1 hy with rfl|hy
    ·exact h1
    ·exact h3 y hy
   ·rcases QRk.1 hy with rfl|hy
    ·exact h2' z hz
    ·exact h4 y hy z (by simp[hz])
  ·rintro⟨h1,h2,h3,h4⟩
   refine⟨⟨h1 x (by simp), ?_⟩,fun y hy=>h1 y (by simp[hy]),fun y hy z hz=> ?_,h4⟩
   ·have:pre.any (Zy x)=false:=by
     cases hk:pre.any (Zy x)
     ·rfl
     ·obtain⟨y,hy,hk⟩:=List.any_eq_true.1 hk
      rw[h2 x (by simp) y hy]at hk;cases hk
    rw[this];rfl
   ·rcases QRh.1 hz with hz|hz
    ·exact h2 y (by simp[hy]) z hz
    ·obtain rfl:z=x:=by simpa using hz
     exact h3 y hy
theorem Vp (id n wt:Int) (l:List Qz):X9 id n wt [] l=true↔(∀x∈l,Y9 id n wt x=true)/\l.Pairwise fun y x=>Zy x y=false:=by
 rw[Qt4];simp
theorem Qw4 (p:Int) (b:Bool):(off:Nat)->(l:List Qz)->Xv (Xg p b off l)<0->∀y∈l,(decide (y.1=p)&&(y.2.2.1==b))=false
 |_,[],_=>by simp
 |off,y::l,h=>by
  rw[Xg]at h
  cases hk:decide (y.1=p)&&(y.2.2.1==b)
  ·rw[hk]at h
   intro z hz
   rcases QRk.1 hz with rfl|hz
   ·exact hk
   ·exact Qw4 p b (off+1) l h z hz
  ·rw[hk]at h;simp[Xv]at h;omega
theorem Qe6 (p:Int) (b:Bool):(off:Nat)->(l:List Qz)->¬Xv (Xg p b off l)<0->∃i:Nat,Xv (Xg p b off l)=((off+i:Nat):Int)/\∃h:i<l.length,(decide (l[i].1=p)&&(l[i].2.2.1==b))=true
 |off,[],h=>by simp[Xg,Xv]at h
 |off,y::l,h=>by
  rw[Xg]at h⊢
  cases hk:decide (y.1=p)&&(y.2.2.1==b)
  ·rw[hk]at h
   obtain⟨i,e,hi,h2⟩:=Qe6 p b (off+1) l h
   exact⟨i+1,by simp only[QQ2];rw[e];congr 1;omega,by simpa using hi,by simpa using h2⟩
  ·exact⟨0,rfl,by simp,by simpa using hk⟩
theorem QzV {id n wt:Int}{l:List Qz}(h:X9 id n wt [] l=true) {x:Qz}(hx:Y9 id n wt x=true) (hn:Xv (Xg x.1 x.2.2.1 0 l)<0):X9 id n wt [] (l++[x])=true:=by
 rw[Vp]at h⊢
 refine⟨fun y hy=> ?_,List.pairwise_append.2 ⟨h.2,by simp,fun y hy z hz=> ?_⟩⟩
 ·rcases QRh.1 hy with hy|hy
  ·exact h.1 y hy
  ·obtain rfl:y=x:=by simpa using hy
   exact hx
 ·obtain rfl:z=x:=by simpa using hz
  exact Qw4 z.1 z.2.2.1 0 l hn y hy
theorem QDu {id n wt:Int}{l:List Qz}(h:X9 id n wt [] l=true) (i:Nat):X9 id n wt [] (l.take i++l.drop (i+1))=true:=by
 rw[Vp]at h⊢
 have hs:(l.take i++l.drop (i+1)).Sublist l:=by
  have:=List.Sublist.append (List.Sublist.refl (l.take i)) (List.drop_sublist 1 (l.drop i))
  rw[List.take_append_drop,List.drop_drop]at this
  exact this
 exact⟨fun y hy=>h.1 y (hs.subset hy),h.2.sublist hs⟩
theorem QGQ {id n wt:Int}{l:List Qz}(h:X9 id n wt [] l=true) {i:Nat}(hi:i<l.length) {x:Qz}(hx:Y9 id n wt x=true) (h1:x.1=l[i].1) (h2:x.2.2.1=l[i].2.2.1):X9 id n wt [] (l.set i x)=true:=by
 rw[Vp]at h⊢
 have hk:∀y,Zy x y=Zy l[i] y:=fun y=>by unfold Zy;rw[h1,h2]
 refine⟨fun y hy=> ?_, ?_⟩
 ·rcases List.mem_or_eq_of_mem_set hy with hy|rfl
  ·exact h.1 y hy
  ·exact hx
 ·rw[List.pairwise_iff_getElem]at h⊢
  intro a b ha hb hab
  rw[List.length_set]at ha hb
  rw[List.getElem_set,List.getElem_set]
  have:=h.2 a b ha hb hab
  split
  ·rename_i e;subst e
   rw[if_neg (by omega),hk];exact this
  ·split
   ·rename_i e;subst e
    rw[QsH,hk,QsH];exact this
   ·exact this
theorem QrC (x:Qb) (p:Int) (b:Bool) (h:x.2.2.2.2.2.2.2.2.2.2.2.2.2.2.1.length<=maxLen):Qas w (x.1,x.2.1,x.2.2.1,x.2.2.2.1,x.2.2.2.2.1,x.2.2.2.2.2.1,x.2.2.2.2.2.2.1,x.2.2.2.2.2.2.2.1,x.2.2.2.2.2.2.2.2.1,x.2.2.2.2.2.2.2.2.2.1,x.2.2.2.2.2.2.2.2.2.2.1,x.2.2.2.2.2.2.2.2.2.2.2.1,x.2.2.2.2.2.2.2.2.2.2.2.2.1,x.2.2.2.2.2.2.2.2.2.2.2.2.2.1,x.2.2.2.2.2.2.2.2.2.2.2.2.2.2.1,x.2.2.2.2.2.2.2.2.2.2.2.2.2.2.2.1,x.2.2.2.2.2.2.2.2.2.2.2.2.2.2.2.2.1,x.2.2.2.2.2.2.2.2.2.2.2.2.2.2.2.2.2.1,x.2.2.2.2.2.2.2.2.2.2.2.2.2.2.2.2.2.2,p,b)=some (Xv (Xg p b 0 x.2.2.2.2.2.2.2.2.2.2.2.2.2.2.1)):=by
 apply Qzw
 have e:=Q6 x.2.2.2.2.2.2.2.2.2.2.2.2.2.2.1.length (fun i=>qY wl (p,b,(i:Int),x.1,x.2.1,x.2.2.1,x.2.2.2.1,x.2.2.2.2.1,x.2.2.2.2.2.1,x.2.2.2.2.2.2.1,x.2.2.2.2.2.2.2.1,x.2.2.2.2.2.2.2.2.1,x.2.2.2.2.2.2.2.2.2.1,x.2.2.2.2.2.2.2.2.2.2.1,x.2.2.2.2.2.2.2.2.2.2.2.1,x.2.2.2.2.2.2.2.2.2.2.2.2.1,x.2.2.2.2.2.2.2.2.2.2.2.2.2.1,x.2.2.2.2.2.2.2.2.2.2.2.2.2.2.1,x.2.2.2.2.2.2.2.2.2.2.2.2.2.2.2.1,x.2.2.2.2.2.2.2.2.2.2.2.2.2.2.2.2.1,x.2.2.2.2.2.2.2.2.2.2.2.2.2.2.2.2.2.1,x.2.2.2.2.2.2.2.2.2.2.2.2.2.2.2.2.2.2)) (fun i=>Xg p b i (x.2.2.2.2.2.2.2.2.2.2.2.2.2.2.1.drop i))
  (fun i hi ih=>by
    apply QlC
    simp only[QjE,ilt hi,Qk hi,Qg hi,inc hi h,QQ1,ih]
    rw[QRa hi,Xg]
    cases decide ((x.2.2.2.2.2.2.2.2.2.2.2.2.2.2.1)[i].1=p)<;>cases((x.2.2.2.2.2.2.2.2.2.2.2.2.2.2.1)[i].2.2.1==b)<;>rfl)
  (by
    apply QlC
    simp[QjE,Xg])
 simp only[QQ6,QRg]at e
 simp only[Qow,e,QQ0]
 cases Xg p b 0 x.2.2.2.2.2.2.2.2.2.2.2.2.2.2.1<;>rfl
theorem QAg (x:Qb) (p:Int) (b:Bool) (h:x.2.2.2.2.2.2.2.2.2.2.2.2.2.2.1.length<=maxLen):xG w (x.1,x.2.1,x.2.2.1,x.2.2.2.1,x.2.2.2.2.1,x.2.2.2.2.2.1,x.2.2.2.2.2.2.1,x.2.2.2.2.2.2.2.1,x.2.2.2.2.2.2.2.2.1,x.2.2.2.2.2.2.2.2.2.1,x.2.2.2.2.2.2.2.2.2.2.1,x.2.2.2.2.2.2.2.2.2.2.2.1,x.2.2.2.2.2.2.2.2.2.2.2.2.1,x.2.2.2.2.2.2.2.2.2.2.2.2.2.1,x.2.2.2.2.2.2.2.2.2.2.2.2.2.2.1,x.2.2.2.2.2.2.2.2.2.2.2.2.2.2.2.1,x.2.2.2.2.2.2.2.2.2.2.2.2.2.2.2.2.1,x.2.2.2.2.2.2.2.2.2.2.2.2.2.2.2.2.2.1,x.2.2.2.2.2.2.2.2.2.2.2.2.2.2.2.2.2.2,p,b)=some (Xv (Xg p b 0 x.2.2.2.2.2.2.2.2.2.2.2.2.2.2.1)):=QB0 x.1 x.2.1 x.2.2.1 x.2.2.2.1 x.2.2.2.2.1 x.2.2.2.2.2.1 x.2.2.2.2.2.2.1 x.2.2.2.2.2.2.2.1 x.2.2.2.2.2.2.2.2.1 x.2.2.2.2.2.2.2.2.2.1 x.2.2.2.2.2.2.2.2.2.2.1 x.2.2.2.2.2.2.2.2.2.2.2.1 x.2.2.2.2.2.2.2.2.2.2.2.2.1 x.2.2.2.2.2.2.2.2.2.2.2.2.2.1 x.2.2.2.2.2.2.2.2.2.2.2.2.2.2.1 x.2.2.2.2.2.2.2.2.2.2.2.2.2.2.2.1 x.2.2.2.2.2.2.2.2.2.2.2.2.2.2.2.2.1 x.2.2.2.2.2.2.2.2.2.2.2.2.2.2.2.2.2.1 x.2.2.2.2.2.2.2.2.2.2.2.2.2.2.2.2.2.2 p b h
theorem QFk (x:Qb) (p:Int) (h:NOk x):zp w (x.1,x.2.1,x.2.2.1,x.2.2.2.1,x.2.2.2.2.1,x.2.2.2.2.2.1,x.2.2.2.2.2.2.1,x.2.2.2.2.2.2.2.1,x.2.2.2.2.2.2.2.2.1,x.2.2.2.2.2.2.2.2.2.1,x.2.2.2.2.2.2.2.2.2.2.1,x.2.2.2.2.2.2.2.2.2.2.2.1,x.2.2.2.2.2.2.2.2.2.2.2.2.1,x.2.2.2.2.2.2.2.2.2.2.2.2.2.1,x.2.2.2.2.2.2.2.2.2.2.2.2.2.2.1,x.2.2.2.2.2.2.2.2.2.2.2.2.2.2.2.1,x.2.2.2.2.2.2.2.2.2.2.2.2.2.2.2.2.1,x.2.2.2.2.2.2.2.2.2.2.2.2.2.2.2.2.2.1,x.2.2.2.2.2.2.2.2.2.2.2.2.2.2.2.2.2.2,p)=some (xZ x.1 x.2.1 p):=Qxa x.1 x.2.1 x.2.2.1 x.2.2.2.1 x.2.2.2.2.1 x.2.2.2.2.2.1 x.2.2.2.2.2.2.1 x.2.2.2.2.2.2.2.1 x.2.2.2.2.2.2.2.2.1 x.2.2.2.2.2.2.2.2.2.1 x.2.2.2.2.2.2.2.2.2.2.1 x.2.2.2.2.2.2.2.2.2.2.2.1 x.2.2.2.2.2.2.2.2.2.2.2.2.1 x.2.2.2.2.2.2.2.2.2.2.2.2.2.1 x.2.2.2.2.2.2.2.2.2.2.2.2.2.2.1 x.2.2.2.2.2.2.2.2.2.2.2.2.2.2.2.1 x.2.2.2.2.2.2.2.2.2.2.2.2.2.2.2.2.1 x.2.2.2.2.2.2.2.2.2.2.2.2.2.2.2.2.2.1 x.2.2.2.2.2.2.2.2.2.2.2.2.2.2.2.2.2.2 p h.n
theorem QCY (x:Qb) (p:Int) (h:NOk x):Qay w (x.1,x.2.1,x.2.2.1,x.2.2.2.1,x.2.2.2.2.1,x.2.2.2.2.2.1,x.2.2.2.2.2.2.1,x.2.2.2.2.2.2.2.1,x.2.2.2.2.2.2.2.2.1,x.2.2.2.2.2.2.2.2.2.1,x.2.2.2.2.2.2.2.2.2.2.1,x.2.2.2.2.2.2.2.2.2.2.2.1,x.2.2.2.2.2.2.2.2.2.2.2.2.1,x.2.2.2.2.2.2.2.2.2.2.2.2.2.1,x.2.2.2.2.2.2.2.2.2.2.2.2.2.2.1,x.2.2.2.2.2.2.2.2.2.2.2.2.2.2.2.1,x.2.2.2.2.2.2.2.2.2.2.2.2.2.2.2.2.1,x.2.2.2.2.2.2.2.2.2.2.2.2.2.2.2.2.2.1,x.2.2.2.2.2.2.2.2.2.2.2.2.2.2.2.2.2.2,p)=some (xZ x.1 x.2.1 p):=by
 have hn:=QW.1 h.n
 apply QtW
 simp only[QiF,xZ]
 rw[w64 (by omega) (by omega),XB,QQ0]
 cases inR p 0 (x.2.1 - 1)<;>rfl
theorem Xz {x:Qb}(h:NOk x):x.2.2.2.2.2.2.2.2.2.2.2.2.2.2.1.length<=4/\x.2.2.2.2.2.2.2.2.2.1.length<=5/\x.2.2.2.2.2.2.2.2.2.2.1.length<=5:=by
 have h1:=QW.1 h.slots
 have h2:=h.room
 have h3:=QW.1 h.n
 have h4:=(yF h.got).1
 have h5:=(yF h.ack).1
 omega
def ship (x:Qb) (seq:Int):List Qd×List Qa×Bool:=bif (YD (x.2.2.2.2.2.2.1,x.2.2.2.2.2.2.2.1,x.2.2.2.2.2.2.2.2.1) seq).2.2 then YD (x.2.2.2.2.2.2.1,x.2.2.2.2.2.2.2.1,x.2.2.2.2.2.2.2.2.1) seq else(x.2.2.1,x.2.2.2.1,false)
theorem Qwl {x:Qb}(h:NOk x) (seq:Int):QC ((ship x seq).1,(ship x seq).2.1)=true:=by
 unfold ship
 cases(YD (x.2.2.2.2.2.2.1,x.2.2.2.2.2.2.2.1,x.2.2.2.2.2.2.2.2.1) seq).2.2
 ·exact h.st
 ·exact QA4 h.log seq
theorem QHJ (x:Qb) (h:NOk x) (seq:Int):Qlm w (x.1,x.2.1,x.2.2.1,x.2.2.2.1,x.2.2.2.2.1,x.2.2.2.2.2.1,x.2.2.2.2.2.2.1,x.2.2.2.2.2.2.2.1,x.2.2.2.2.2.2.2.2.1,x.2.2.2.2.2.2.2.2.2.1,x.2.2.2.2.2.2.2.2.2.2.1,x.2.2.2.2.2.2.2.2.2.2.2.1,x.2.2.2.2.2.2.2.2.2.2.2.2.1,x.2.2.2.2.2.2.2.2.2.2.2.2.2.1,x.2.2.2.2.2.2.2.2.2.2.2.2.2.2.1,x.2.2.2.2.2.2.2.2.2.2.2.2.2.2.2.1,x.2.2.2.2.2.2.2.2.2.2.2.2.2.2.2.2.1,x.2.2.2.2.2.2.2.2.2.2.2.2.2.2.2.2.2.1,x.2.2.2.2.2.2.2.2.2.2.2.2.2.2.2.2.2.2,seq)=some (ship x seq):=by
 have hsm:=Xr h
 have hn:=okN h
 have hl:x0 w (x.2.2.2.2.2.2.1,x.2.2.2.2.2.2.2.1,x.2.2.2.2.2.2.2.2.1,seq)=some (YD (x.2.2.2.2.2.2.1,x.2.2.2.2.2.2.2.1,x.2.2.2.2.2.2.2.2.1) seq):=QAQ (x.2.2.2.2.2.2.1,x.2.2.2.2.2.2.2.1,x.2.2.2.2.2.2.2.2.1) h.log seq
 have hc:X4 w (x.2.2.1,x.2.2.2.1)=some (x.2.2.1,x.2.2.2.1):=xi _ (Km (x:=x) (by omega)).1
 apply QyJ
 simp only[QoG,hn,hl,hc,QQ0,QQ3,QQ2,ship]
 cases hb:(YD (x.2.2.2.2.2.2.1,x.2.2.2.2.2.2.2.1,x.2.2.2.2.2.2.2.2.1) seq).2.2
 ·rfl
 ·simp only[QQ3,QQ2,QQ1]
  rw[<-hb]
theorem QCX (x:Qb) (h:NOk x) (seq:Int):Qcu w (x.1,x.2.1,x.2.2.1,x.2.2.2.1,x.2.2.2.2.1,x.2.2.2.2.2.1,x.2.2.2.2.2.2.1,x.2.2.2.2.2.2.2.1,x.2.2.2.2.2.2.2.2.1,x.2.2.2.2.2.2.2.2.2.1,x.2.2.2.2.2.2.2.2.2.2.1,x.2.2.2.2.2.2.2.2.2.2.2.1,x.2.2.2.2.2.2.2.2.2.2.2.2.1,x.2.2.2.2.2.2.2.2.2.2.2.2.2.1,x.2.2.2.2.2.2.2.2.2.2.2.2.2.2.1,x.2.2.2.2.2.2.2.2.2.2.2.2.2.2.2.1,x.2.2.2.2.2.2.2.2.2.2.2.2.2.2.2.2.1,x.2.2.2.2.2.2.2.2.2.2.2.2.2.2.2.2.2.1,x.2.2.2.2.2.2.2.2.2.2.2.2.2.2.2.2.2.2,seq)=some (ship x seq):=by
 have hsm:=Xr h
 have hl:x6 w (x.2.2.2.2.2.2.1,x.2.2.2.2.2.2.2.1,x.2.2.2.2.2.2.2.2.1,seq)=some (YD (x.2.2.2.2.2.2.1,x.2.2.2.2.2.2.2.1,x.2.2.2.2.2.2.2.2.1) seq):=QzO (x.2.2.2.2.2.2.1,x.2.2.2.2.2.2.2.1,x.2.2.2.2.2.2.2.2.1) h.log seq
 have hc:ZY w (x.2.2.1,x.2.2.2.1)=some (x.2.2.1,x.2.2.2.1):=Qaw _ (Km (x:=x) (by omega)).1
 apply Qul
 simp only[Qkn,hl,hc,QQ0,ship]
 cases hb:(YD (x.2.2.2.2.2.2.1,x.2.2.2.2.2.2.2.1,x.2.2.2.2.2.2.2.2.1) seq).2.2
 ·rfl
 ·simp only[QQ1]
  rw[<-hb]
def msg (x:Qb) (k to num:Int):Q4:=(k,x.1,to,num,Xd (x.2.2.2.2.2.2.1,x.2.2.2.2.2.2.2.1,x.2.2.2.2.2.2.2.2.1),[],0,x.2.2.2.2.2.2.2.2.2.1,[],[],[],marksOf (x.2.2.1,x.2.2.2.1))
theorem Qc9 (x:Qb) (h:NOk x) (k to num:Int):ZC w (x.1,x.2.1,x.2.2.1,x.2.2.2.1,x.2.2.2.2.1,x.2.2.2.2.2.1,x.2.2.2.2.2.2.1,x.2.2.2.2.2.2.2.1,x.2.2.2.2.2.2.2.2.1,x.2.2.2.2.2.2.2.2.2.1,x.2.2.2.2.2.2.2.2.2.2.1,x.2.2.2.2.2.2.2.2.2.2.2.1,x.2.2.2.2.2.2.2.2.2.2.2.2.1,x.2.2.2.2.2.2.2.2.2.2.2.2.2.1,x.2.2.2.2.2.2.2.2.2.2.2.2.2.2.1,x.2.2.2.2.2.2.2.2.2.2.2.2.2.2.2.1,x.2.2.2.2.2.2.2.2.2.2.2.2.2.2.2.2.1,x.2.2.2.2.2.2.2.2.2.2.2.2.2.2.2.2.2.1,x.2.2.2.2.2.2.2.2.2.2.2.2.2.2.2.2.2.2,k,to,num)=some (msg x k to num):=by
 have hl:=xH h.log
 have hs:=XX h.st
 have hn:=Xz h
 apply Qtv
 simp only[Qjr,Qll _ _ _ hl.2.1 hl.2.2,vS x.2.2.2.2.2.2.2.2.2.1 (by omega),QsI _ _ hs.1 hs.2,QQ0,msg]
theorem Qe1 (x:Qb) (h:NOk x) (k to num:Int):Z1 w (x.1,x.2.1,x.2.2.1,x.2.2.2.1,x.2.2.2.2.1,x.2.2.2.2.2.1,x.2.2.2.2.2.2.1,x.2.2.2.2.2.2.2.1,x.2.2.2.2.2.2.2.2.1,x.2.2.2.2.2.2.2.2.2.1,x.2.2.2.2.2.2.2.2.2.2.1,x.2.2.2.2.2.2.2.2.2.2.2.1,x.2.2.2.2.2.2.2.2.2.2.2.2.1,x.2.2.2.2.2.2.2.2.2.2.2.2.2.1,x.2.2.2.2.2.2.2.2.2.2.2.2.2.2.1,x.2.2.2.2.2.2.2.2.2.2.2.2.2.2.2.1,x.2.2.2.2.2.2.2.2.2.2.2.2.2.2.2.2.1,x.2.2.2.2.2.2.2.2.2.2.2.2.2.2.2.2.2.1,x.2.2.2.2.2.2.2.2.2.2.2.2.2.2.2.2.2.2,k,to,num)=some (msg x k to num):=by
 have hl:=xH h.log
 have hs:=XX h.st
 have hn:=Xz h
 apply QvG
 simp only[Qlx,QhO _ _ _ hl.2.1 hl.2.2,List.length_nil,QRe,QRo,Qu (show x.2.2.2.2.2.2.2.2.2.1.length*8<=140737488351232 by omega),Qrt _ _ hs.1 hs.2,QQ0,QQ1,msg]
def Y5 (x:Qb) (to:Int):Bool:=xZ x.1 x.2.1 to&&(decide (Xv (Xg to false 0 x.2.2.2.2.2.2.2.2.2.2.2.2.2.2.1)<0)&&(!decide (x.2.2.2.2.2.2.2.2.2.2.2.2.2.1<=((x.2.2.2.2.2.2.2.2.2.2.2.2.2.2.1.length:Nat):Int))&& !decide (x.2.2.2.2.2.2.2.2.2.2.2.2.1=100000)))
def QJ (x:Qb) (to:Int):Qb:=(x.1,x.2.1,x.2.2.1,x.2.2.2.1,x.2.2.2.2.1,x.2.2.2.2.2.1,x.2.2.2.2.2.2.1,x.2.2.2.2.2.2.2.1,x.2.2.2.2.2.2.2.2.1,x.2.2.2.2.2.2.2.2.2.1,x.2.2.2.2.2.2.2.2.2.2.1,x.2.2.2.2.2.2.2.2.2.2.2.1,x.2.2.2.2.2.2.2.2.2.2.2.2.1+1,x.2.2.2.2.2.2.2.2.2.2.2.2.2.1,x.2.2.2.2.2.2.2.2.2.2.2.2.2.2.1++[(to,x.2.2.2.2.2.2.2.2.2.2.2.2.1+1,false,0)],x.2.2.2.2.2.2.2.2.2.2.2.2.2.2.2.1,x.2.2.2.2.2.2.2.2.2.2.2.2.2.2.2.2.1,x.2.2.2.2.2.2.2.2.2.2.2.2.2.2.2.2.2.1,x.2.2.2.2.2.2.2.2.2.2.2.2.2.2.2.2.2.2)
theorem Qjo {x:Qb}(h:NOk x) {to:Int}(hc:Y5 x to=true):NOk (QJ x to) where
 n:=h.n
 id:=h.id
 st:=h.st
 tree:=h.tree
 log:=h.log
 got:=h.got
 ack:=h.ack
 own:=h.own
 heard:=h.heard
 seen:=h.seen
 num:=by
  have:=QW.1 h.num
  simp only[Y5,QQ5,Bool.not_eq_true',decide_eq_false_iff_not]at hc
  simp only[QJ,QW];omega
 clock:=h.clock
 wait:=h.wait
 limit:=h.limit
 slots:=h.slots
 room:=by
  have:=h.room
  simp only[Y5,QQ5,Bool.not_eq_true',decide_eq_false_iff_not]at hc
  simp only[QJ,QRj,List.length_cons,List.length_nil];omega
 sess:=by
  have hn:=QW.1 h.num
  have hw:=QW.1 h.wait
  simp only[Y5,QQ5,Bool.not_eq_true',decide_eq_false_iff_not,QRu]at hc
  refine QzV h.sess ?_ hc.2.1
  simp only[Y9,hc.1,QRd,QQ5,QW];omega
 rlen:=h.rlen
 rises:=h.rises
set_option maxHeartbeats 1000000 in
theorem QIw (x:Qb) (h:NOk x) (to:Int):Qj7 w (x.1,x.2.1,x.2.2.1,x.2.2.2.1,x.2.2.2.2.1,x.2.2.2.2.2.1,x.2.2.2.2.2.2.1,x.2.2.2.2.2.2.2.1,x.2.2.2.2.2.2.2.2.1,x.2.2.2.2.2.2.2.2.2.1,x.2.2.2.2.2.2.2.2.2.2.1,x.2.2.2.2.2.2.2.2.2.2.2.1,x.2.2.2.2.2.2.2.2.2.2.2.2.1,x.2.2.2.2.2.2.2.2.2.2.2.2.2.1,x.2.2.2.2.2.2.2.2.2.2.2.2.2.2.1,x.2.2.2.2.2.2.2.2.2.2.2.2.2.2.2.1,x.2.2.2.2.2.2.2.2.2.2.2.2.2.2.2.2.1,x.2.2.2.2.2.2.2.2.2.2.2.2.2.2.2.2.2.1,x.2.2.2.2.2.2.2.2.2.2.2.2.2.2.2.2.2.2,to)=some (bif Y5 x to then(x.1,x.2.1,x.2.2.1,x.2.2.2.1,x.2.2.2.2.1,x.2.2.2.2.2.1,x.2.2.2.2.2.2.1,x.2.2.2.2.2.2.2.1,x.2.2.2.2.2.2.2.2.1,x.2.2.2.2.2.2.2.2.2.1,x.2.2.2.2.2.2.2.2.2.2.1,x.2.2.2.2.2.2.2.2.2.2.2.1,x.2.2.2.2.2.2.2.2.2.2.2.2.1+1,x.2.2.2.2.2.2.2.2.2.2.2.2.2.1,x.2.2.2.2.2.2.2.2.2.2.2.2.2.2.1++[(to,x.2.2.2.2.2.2.2.2.2.2.2.2.1+1,false,0)],x.2.2.2.2.2.2.2.2.2.2.2.2.2.2.2.1,x.2.2.2.2.2.2.2.2.2.2.2.2.2.2.2.2.1,x.2.2.2.2.2.2.2.2.2.2.2.2.2.2.2.2.2.1,x.2.2.2.2.2.2.2.2.2.2.2.2.2.2.2.2.2.2,(msg x 2 to (x.2.2.2.2.2.2.2.2.2.2.2.2.1+1)).1,(msg x 2 to (x.2.2.2.2.2.2.2.2.2.2.2.2.1+1)).2.1,(msg x 2 to (x.2.2.2.2.2.2.2.2.2.2.2.2.1+1)).2.2.1,(msg x 2 to (x.2.2.2.2.2.2.2.2.2.2.2.2.1+1)).2.2.2.1,(msg x 2 to (x.2.2.2.2.2.2.2.2.2.2.2.2.1+1)).2.2.2.2.1,x.2.2.2.2.1,x.2.2.2.2.2.1,(msg x 2 to (x.2.2.2.2.2.2.2.2.2.2.2.2.1+1)).2.2.2.2.2.2.2.1,(msg x 2 to (x.2.2.2.2.2.2.2.2.2.2.2.2.1+1)).2.2.2.2.2.2.2.2.1,(msg x 2 to (x.2.2.2.2.2.2.2.2.2.2.2.2.1+1)).2.2.2.2.2.2.2.2.2.1,(msg x 2 to (x.2.2.2.2.2.2.2.2.2.2.2.2.1+1)).2.2.2.2.2.2.2.2.2.2.1,(msg x 2 to (x.2.2.2.2.2.2.2.2.2.2.2.2.1+1)).2.2.2.2.2.2.2.2.2.2.2,true)else(x.1,x.2.1,x.2.2.1,x.2.2.2.1,x.2.2.2.2.1,x.2.2.2.2.2.1,x.2.2.2.2.2.2.1,x.2.2.2.2.2.2.2.1,x.2.2.2.2.2.2.2.2.1,x.2.2.2.2.2.2.2.2.2.1,x.2.2.2.2.2.2.2.2.2.2.1,x.2.2.2.2.2.2.2.2.2.2.2.1,x.2.2.2.2.2.2.2.2.2.2.2.2.1,x.2.2.2.2.2.2.2.2.2.2.2.2.2.1,x.2.2.2.2.2.2.2.2.2.2.2.2.2.2.1,x.2.2.2.2.2.2.2.2.2.2.2.2.2.2.2.1,x.2.2.2.2.2.2.2.2.2.2.2.2.2.2.2.2.1,x.2.2.2.2.2.2.2.2.2.2.2.2.2.2.2.2.2.1,x.2.2.2.2.2.2.2.2.2.2.2.2.2.2.2.2.2.2,0,0,0,0,0,[],0,[],[],[],[],[],false)):=by
 have hsm:=Xr h
 have hk:=Xz h
 have hnm:=QW.1 h.num
 have hc:=Qtf h
 have hn:=okN h
 have ht:Z4 w (x.2.2.2.2.1,x.2.2.2.2.2.1)=some (x.2.2.2.2.1,x.2.2.2.2.2.1):=Qmn _ (Km (x:=x) (by omega)).2.1
 apply QAX
 simp only[Qpw,hc,hn,ht,QFk x to h,QAg x to false (by simp only[maxLen];omega),QQ0,QQ3,QQ2,Y5]
 cases hp:xZ x.1 x.2.1 to
 ·rfl
 ·by_cases hs:Xv (Xg to false 0 x.2.2.2.2.2.2.2.2.2.2.2.2.2.2.1)<0
  ·rw[df (show¬(0:Int)<=Xv (Xg to false 0 x.2.2.2.2.2.2.2.2.2.2.2.2.2.2.1) by omega),dt hs]
   by_cases hr:x.2.2.2.2.2.2.2.2.2.2.2.2.2.1<=((x.2.2.2.2.2.2.2.2.2.2.2.2.2.2.1.length:Nat):Int)
   ·rw[dt hr];rfl
   ·rw[df hr]
    by_cases hm:x.2.2.2.2.2.2.2.2.2.2.2.2.1=100000
    ·rw[dt hm];rfl
    ·rw[df hm]
     have hcan:Y5 x to=true:=by simp only[Y5,hp,dt hs,df hr,df hm];rfl
     have hmsg:ZC w (x.1,x.2.1,x.2.2.1,x.2.2.2.1,x.2.2.2.2.1,x.2.2.2.2.2.1,x.2.2.2.2.2.2.1,x.2.2.2.2.2.2.2.1,x.2.2.2.2.2.2.2.2.1,x.2.2.2.2.2.2.2.2.2.1,x.2.2.2.2.2.2.2.2.2.2.1,x.2.2.2.2.2.2.2.2.2.2.2.1,x.2.2.2.2.2.2.2.2.2.2.2.2.1+1,x.2.2.2.2.2.2.2.2.2.2.2.2.2.1,x.2.2.2.2.2.2.2.2.2.2.2.2.2.2.1++[(to,x.2.2.2.2.2.2.2.2.2.2.2.2.1+1,false,0)],x.2.2.2.2.2.2.2.2.2.2.2.2.2.2.2.1,x.2.2.2.2.2.2.2.2.2.2.2.2.2.2.2.2.1,x.2.2.2.2.2.2.2.2.2.2.2.2.2.2.2.2.2.1,x.2.2.2.2.2.2.2.2.2.2.2.2.2.2.2.2.2.2,2,to,x.2.2.2.2.2.2.2.2.2.2.2.2.1+1)=some (msg x 2 to (x.2.2.2.2.2.2.2.2.2.2.2.2.1+1)):=Qc9 (QJ x to) (Qjo h hcan) 2 to (x.2.2.2.2.2.2.2.2.2.2.2.2.1+1)
     simp only[QQ3,QQ4,QQ1,QQ2,QRn,w64 (n:=x.2.2.2.2.2.2.2.2.2.2.2.2.1+1) (by omega) (by omega),hmsg,QQ0]
     rw[Qu (by simp;omega)];rfl
  ·rw[dt (show(0:Int)<=Xv (Xg to false 0 x.2.2.2.2.2.2.2.2.2.2.2.2.2.2.1) by omega),df hs];rfl
set_option maxHeartbeats 1000000 in
theorem QIp (x:Qb) (h:NOk x) (to:Int):QiT w (x.1,x.2.1,x.2.2.1,x.2.2.2.1,x.2.2.2.2.1,x.2.2.2.2.2.1,x.2.2.2.2.2.2.1,x.2.2.2.2.2.2.2.1,x.2.2.2.2.2.2.2.2.1,x.2.2.2.2.2.2.2.2.2.1,x.2.2.2.2.2.2.2.2.2.2.1,x.2.2.2.2.2.2.2.2.2.2.2.1,x.2.2.2.2.2.2.2.2.2.2.2.2.1,x.2.2.2.2.2.2.2.2.2.2.2.2.2.1,x.2.2.2.2.2.2.2.2.2.2.2.2.2.2.1,x.2.2.2.2.2.2.2.2.2.2.2.2.2.2.2.1,x.2.2.2.2.2.2.2.2.2.2.2.2.2.2.2.2.1,x.2.2.2.2.2.2.2.2.2.2.2.2.2.2.2.2.2.1,x.2.2.2.2.2.2.2.2.2.2.2.2.2.2.2.2.2.2,to)=some (bif Y5 x to then(x.1,x.2.1,x.2.2.1,x.2.2.2.1,x.2.2.2.2.1,x.2.2.2.2.2.1,x.2.2.2.2.2.2.1,x.2.2.2.2.2.2.2.1,x.2.2.2.2.2.2.2.2.1,x.2.2.2.2.2.2.2.2.2.1,x.2.2.2.2.2.2.2.2.2.2.1,x.2.2.2.2.2.2.2.2.2.2.2.1,x.2.2.2.2.2.2.2.2.2.2.2.2.1+1,x.2.2.2.2.2.2.2.2.2.2.2.2.2.1,x.2.2.2.2.2.2.2.2.2.2.2.2.2.2.1++[(to,x.2.2.2.2.2.2.2.2.2.2.2.2.1+1,false,0)],x.2.2.2.2.2.2.2.2.2.2.2.2.2.2.2.1,x.2.2.2.2.2.2.2.2.2.2.2.2.2.2.2.2.1,x.2.2.2.2.2.2.2.2.2.2.2.2.2.2.2.2.2.1,x.2.2.2.2.2.2.2.2.2.2.2.2.2.2.2.2.2.2,(msg x 2 to (x.2.2.2.2.2.2.2.2.2.2.2.2.1+1)).1,(msg x 2 to (x.2.2.2.2.2.2.2.2.2.2.2.2.1+1)).2.1,(msg x 2 to (x.2.2.2.2.2.2.2.2.2.2.2.2.1+1)).2.2.1,(msg x 2 to (x.2.2.2.2.2.2.2.2.2.2.2.2.1+1)).2.2.2.1,(msg x 2 to (x.2.2.2.2.2.2.2.2.2.2.2.2.1+1)).2.2.2.2.1,x.2.2.2.2.1,x.2.2.2.2.2.1,(msg x 2 to (x.2.2.2.2.2.2.2.2.2.2.2.2.1+1)).2.2.2.2.2.2.2.1,(msg x 2 to (x.2.2.2.2.2.2.2.2.2.2.2.2.1+1)).2.2.2.2.2.2.2.2.1,(msg x 2 to (x.2.2.2.2.2.2.2.2.2.2.2.2.1+1)).2.2.2.2.2.2.2.2.2.1,(msg x 2 to (x.2.2.2.2.2.2.2.2.2.2.2.2.1+1)).2.2.2.2.2.2.2.2.2.2.1,(msg x 2 to (x.2.2.2.2.2.2.2.2.2.2.2.2.1+1)).2.2.2.2.2.2.2.2.2.2.2,true)else(x.1,x.2.1,x.2.2.1,x.2.2.2.1,x.2.2.2.2.1,x.2.2.2.2.2.1,x.2.2.2.2.2.2.1,x.2.2.2.2.2.2.2.1,x.2.2.2.2.2.2.2.2.1,x.2.2.2.2.2.2.2.2.2.1,x.2.2.2.2.2.2.2.2.2.2.1,x.2.2.2.2.2.2.2.2.2.2.2.1,x.2.2.2.2.2.2.2.2.2.2.2.2.1,x.2.2.2.2.2.2.2.2.2.2.2.2.2.1,x.2.2.2.2.2.2.2.2.2.2.2.2.2.2.1,x.2.2.2.2.2.2.2.2.2.2.2.2.2.2.2.1,x.2.2.2.2.2.2.2.2.2.2.2.2.2.2.2.2.1,x.2.2.2.2.2.2.2.2.2.2.2.2.2.2.2.2.2.1,x.2.2.2.2.2.2.2.2.2.2.2.2.2.2.2.2.2.2,0,0,0,0,0,[],0,[],[],[],[],[],false)):=by
 have hsm:=Xr h
 have hk:=Xz h
 have hnm:=QW.1 h.num
 have hro:=h.room
 have hc:=QfK h
 have hn:=QDY h
 have ht:Kr w (x.2.2.2.2.1,x.2.2.2.2.2.1)=some (x.2.2.2.2.1,x.2.2.2.2.2.1):=Qp1 _ (Km (x:=x) (by omega)).2.1
 apply QAH
 simp only[Qpr,hc,hn,ht,QCY x to h,QrC x to false (by simp only[maxLen];omega),QQ0,QQ3,QQ2,Y5]
 cases hp:xZ x.1 x.2.1 to
 ·rfl
 ·by_cases hs:Xv (Xg to false 0 x.2.2.2.2.2.2.2.2.2.2.2.2.2.2.1)<0
  ·rw[df (show¬(0:Int)<=Xv (Xg to false 0 x.2.2.2.2.2.2.2.2.2.2.2.2.2.2.1) by omega),dt hs]
   by_cases hr:x.2.2.2.2.2.2.2.2.2.2.2.2.2.1<=((x.2.2.2.2.2.2.2.2.2.2.2.2.2.2.1.length:Nat):Int)
   ·rw[dt hr,dt (show((x.2.2.2.2.2.2.2.2.2.2.2.2.2.2.1.length:Nat):Int)=x.2.2.2.2.2.2.2.2.2.2.2.2.2.1 by omega)];rfl
   ·rw[df hr,df (show¬((x.2.2.2.2.2.2.2.2.2.2.2.2.2.2.1.length:Nat):Int)=x.2.2.2.2.2.2.2.2.2.2.2.2.2.1 by omega)]
    by_cases hm:x.2.2.2.2.2.2.2.2.2.2.2.2.1=100000
    ·rw[dt hm];rfl
    ·rw[df hm]
     have hcan:Y5 x to=true:=by simp only[Y5,hp,dt hs,df hr,df hm];rfl
     have hmsg:Z1 w (x.1,x.2.1,x.2.2.1,x.2.2.2.1,x.2.2.2.2.1,x.2.2.2.2.2.1,x.2.2.2.2.2.2.1,x.2.2.2.2.2.2.2.1,x.2.2.2.2.2.2.2.2.1,x.2.2.2.2.2.2.2.2.2.1,x.2.2.2.2.2.2.2.2.2.2.1,x.2.2.2.2.2.2.2.2.2.2.2.1,x.2.2.2.2.2.2.2.2.2.2.2.2.1+1,x.2.2.2.2.2.2.2.2.2.2.2.2.2.1,x.2.2.2.2.2.2.2.2.2.2.2.2.2.2.1++[(to,x.2.2.2.2.2.2.2.2.2.2.2.2.1+1,false,0)],x.2.2.2.2.2.2.2.2.2.2.2.2.2.2.2.1,x.2.2.2.2.2.2.2.2.2.2.2.2.2.2.2.2.1,x.2.2.2.2.2.2.2.2.2.2.2.2.2.2.2.2.2.1,x.2.2.2.2.2.2.2.2.2.2.2.2.2.2.2.2.2.2,2,to,x.2.2.2.2.2.2.2.2.2.2.2.2.1+1)=some (msg x 2 to (x.2.2.2.2.2.2.2.2.2.2.2.2.1+1)):=Qe1 (QJ x to) (Qjo h hcan) 2 to (x.2.2.2.2.2.2.2.2.2.2.2.2.1+1)
     simp only[QQ3,QQ4,QQ1,QQ2,QRn,w64 (n:=x.2.2.2.2.2.2.2.2.2.2.2.2.1+1) (by omega) (by omega),hmsg,QQ0]
     rw[Qu (by simp;omega)];rfl
  ·rw[dt (show(0:Int)<=Xv (Xg to false 0 x.2.2.2.2.2.2.2.2.2.2.2.2.2.2.1) by omega),df hs];rfl
def Qj0 (m:Q4):Bool:=Qqk m.1 m.2.1 m.2.2.1 m.2.2.2.1 m.2.2.2.2.1 m.2.2.2.2.2.1 m.2.2.2.2.2.2.1 m.2.2.2.2.2.2.2.1 m.2.2.2.2.2.2.2.2.1 m.2.2.2.2.2.2.2.2.2.1 m.2.2.2.2.2.2.2.2.2.2.1 m.2.2.2.2.2.2.2.2.2.2.2
def Qmi (m:Q4):Prop:=smM m.2.2.2.2.2.1 m.2.2.2.2.2.2.2.1 m.2.2.2.2.2.2.2.2.1 m.2.2.2.2.2.2.2.2.2.1 m.2.2.2.2.2.2.2.2.2.2.1 m.2.2.2.2.2.2.2.2.2.2.2
structure MOk (m:Q4):Prop where
 kind:inR m.1 0 5=true
 src:inR m.2.1 0 4=true
 dst:inR m.2.2.1 0 4=true
 two:m.2.1≠m.2.2.1
 lv:okL (-1) m.2.2.2.2.2.2.2.2.1=true
 vec:∀y∈m.2.2.2.2.2.2.2.1,inR y 0 100000=true
 num:inR m.2.2.2.1 0 100000=true
 hi:inR m.2.2.2.2.1 0 100000=true
 tree:QfG (m.2.2.2.2.2.1,m.2.2.2.2.2.2.1)=true
 vl:((m.2.2.2.2.2.2.2.1.length:Nat):Int)<=5
 part:QC (m.2.2.2.2.2.2.2.2.2.1,m.2.2.2.2.2.2.2.2.2.2.1)=true
 marks:QO (-1) m.2.2.2.2.2.2.2.2.2.2.2=true
theorem mok {m:Q4}(h:Qj0 m=true):MOk m:=by
 simp only[Qj0,Qqk,QQ5,QRu,QRt,Bool.not_eq_true',decide_eq_false_iff_not]at h
 obtain⟨⟨⟨⟨⟨⟨⟨⟨⟨⟨⟨h1,h2⟩,h3⟩,h4⟩,h5⟩,h6⟩,h7⟩,h8⟩,h9⟩,h10⟩,h11⟩,h12⟩:=h
 exact⟨h1,h2,h3,h4,h5,h6,h7,h8,h9,h10,h11,h12⟩
theorem Qab {l:List Qa}(h:QO (-1) l=true):l.length<=5:=by
 have:=yn _ _ h (by omega)
 rcases this with h|h
 ·omega
 ·rw[h];simp
structure Fit (x:Qb) (m:Q4):Prop where
 ok:MOk m
 to:m.2.2.1=x.1
 src:m.2.1<x.2.1
 len:((m.2.2.2.2.2.2.2.1.length:Nat):Int)=x.2.1
theorem QhE {g:Zs}(h:Zf g=true):0<=Xd g/\Xd g<=100000:=by
 have:=Qhw h
 unfold Xd;rw[h]
 simp only[QQ1];omega
theorem Qzx {v:List Int}{k n:Int}(h:∀y∈v,inR y 0 100000=true) (hn:n<=100000):∀y∈ZD v k n,inR y 0 100000=true:=by
 unfold ZD
 cases hk:inR k 0 ((v.length:Nat) - 1)
 ·exact h
 ·obtain⟨j,rfl,hj⟩:=YI hk
  intro y hy
  rcases List.mem_or_eq_of_mem_set hy with hy|rfl
  ·exact h y hy
  ·have:=QW.1 (h _ (QRf hj))
   rw[Qg hj,QW]
   unfold mxI;split<;>omega
theorem QzS (v:List Int) (k n:Int):(ZD v k n).length=v.length:=by
 unfold ZD;cases inR k 0 ((v.length:Nat) - 1)<;>simp
theorem Qrg {v:List Int}{c k n:Int}(h:Yj v c=true) (hn:n<=100000):Yj (ZD v k n) c=true:=by
 have:=yF h
 simp only[Yj,QQ5,QRu,QRt,QzS]at h⊢
 exact⟨h.1,Qzx this.2 hn⟩
theorem Qyq {v:List Int}{k n:Int}{j:Nat}(hne:k≠(j:Int)):(ZD v k n).getD j 0=v.getD j 0:=by
 unfold ZD
 cases hk:inR k 0 ((v.length:Nat) - 1)
 ·rfl
 ·obtain⟨i,rfl,hi⟩:=YI hk
  simp only[QQ1,QRb,List.getD]
  rw[List.getElem?_set_ne (by omega)]
def QmB (x:Qb) (m:Q4):Qb:=(x.1,x.2.1,x.2.2.1,x.2.2.2.1,x.2.2.2.2.1,x.2.2.2.2.2.1,x.2.2.2.2.2.2.1,x.2.2.2.2.2.2.2.1,x.2.2.2.2.2.2.2.2.1,x.2.2.2.2.2.2.2.2.2.1,ZD x.2.2.2.2.2.2.2.2.2.2.1 m.2.1 (mnI (rd1 0 m.2.2.2.2.2.2.2.1 x.1) (Xd (x.2.2.2.2.2.2.1,x.2.2.2.2.2.2.2.1,x.2.2.2.2.2.2.2.2.1))),K6 x.2.2.2.2.2.2.2.2.2.2.2.1 m.2.1 m.2.2.2.2.2.2.2.2.2.2.2,x.2.2.2.2.2.2.2.2.2.2.2.2.1,x.2.2.2.2.2.2.2.2.2.2.2.2.2.1,x.2.2.2.2.2.2.2.2.2.2.2.2.2.2.1,x.2.2.2.2.2.2.2.2.2.2.2.2.2.2.2.1,x.2.2.2.2.2.2.2.2.2.2.2.2.2.2.2.2.1,x.2.2.2.2.2.2.2.2.2.2.2.2.2.2.2.2.2.1,x.2.2.2.2.2.2.2.2.2.2.2.2.2.2.2.2.2.2)
theorem Qom {x:Qb}(h:NOk x) {m:Q4}(hf:Fit x m):NOk (QmB x m) where
 n:=h.n
 id:=h.id
 st:=h.st
 tree:=h.tree
 log:=h.log
 got:=h.got
 ack:=Qrg h.ack (by
  have:=QhE h.log
  unfold mnI;split<;>omega)
 own:=h.own
 heard:=by
  refine QRt.2 fun y hy=>decide_eq_true ?_
  have ho:=QRt.1 h.heard
  have hy':y∈ZD x.2.2.2.2.2.2.2.2.2.2.1 m.2.1 (mnI (rd1 0 m.2.2.2.2.2.2.2.1 x.1) (Xd (x.2.2.2.2.2.2.1,x.2.2.2.2.2.2.2.1,x.2.2.2.2.2.2.2.2.1))):=hy
  show y<=Xd (x.2.2.2.2.2.2.1,x.2.2.2.2.2.2.2.1,x.2.2.2.2.2.2.2.2.1)
  unfold ZD at hy'
  cases hk:inR m.2.1 0 ((x.2.2.2.2.2.2.2.2.2.2.1.length:Nat) - 1)
  ·rw[hk]at hy';simpa using ho y hy'
  ·rw[hk]at hy'
   rcases List.mem_or_eq_of_mem_set hy' with hy'|rfl
   ·simpa using ho y hy'
   ·obtain⟨j,hj,hj2⟩:=YI hk
    have:=ho _ (QRf hj2)
    simp only[QRu]at this
    rw[hj,Qg hj2]
    unfold mxI mnI
    split<;>split<;>omega
 seen:=Qex h.seen _ _
 num:=h.num
 clock:=h.clock
 wait:=h.wait
 limit:=h.limit
 slots:=h.slots
 room:=h.room
 sess:=h.sess
 rlen:=h.rlen
 rises:=h.rises
theorem QrJ:QC ([],[])=true:=rfl
def heard (x:Qb) (m:Q4):Qb:=take (QmB x m) ([],[])
theorem yc {x:Qb}(h:NOk x) {m:Q4}(hf:Fit x m):NOk (heard x m):=QjR (Qom h hf) QrJ
theorem QmR {x:Qb}(h:NOk x) {m:Q4}(hf:Fit x m):∃j:Nat,x.1=(j:Int)/\j<m.2.2.2.2.2.2.2.1.length:=by
 have h1:=QW.1 h.id
 have h2:=hf.len
 exact⟨(x.1).toNat,by omega,by omega⟩
set_option maxHeartbeats 1000000 in
theorem Qd6 (x:Qb) (h:NOk x) (m:Q4) (hf:Fit x m):ZB w (x.1,x.2.1,x.2.2.1,x.2.2.2.1,x.2.2.2.2.1,x.2.2.2.2.2.1,x.2.2.2.2.2.2.1,x.2.2.2.2.2.2.2.1,x.2.2.2.2.2.2.2.2.1,x.2.2.2.2.2.2.2.2.2.1,x.2.2.2.2.2.2.2.2.2.2.1,x.2.2.2.2.2.2.2.2.2.2.2.1,x.2.2.2.2.2.2.2.2.2.2.2.2.1,x.2.2.2.2.2.2.2.2.2.2.2.2.2.1,x.2.2.2.2.2.2.2.2.2.2.2.2.2.2.1,x.2.2.2.2.2.2.2.2.2.2.2.2.2.2.2.1,x.2.2.2.2.2.2.2.2.2.2.2.2.2.2.2.2.1,x.2.2.2.2.2.2.2.2.2.2.2.2.2.2.2.2.2.1,x.2.2.2.2.2.2.2.2.2.2.2.2.2.2.2.2.2.2,m.1,m.2.1,m.2.2.1,m.2.2.2.1,m.2.2.2.2.1,m.2.2.2.2.2.1,m.2.2.2.2.2.2.1,m.2.2.2.2.2.2.2.1,m.2.2.2.2.2.2.2.2.1,m.2.2.2.2.2.2.2.2.2.1,m.2.2.2.2.2.2.2.2.2.2.1,m.2.2.2.2.2.2.2.2.2.2.2)=some (heard x m):=by
 have hk:=Xz h
 have hl:=xH h.log
 have hsm:=Xr h
 have hmk:=Qab hf.ok.marks
 obtain⟨j,hj,hj2⟩:=QmR h hf
 have hi:inb x.1 m.2.2.2.2.2.2.2.1.length=true:=by rw[hj];exact Qk hj2
 have hv:Jd w (x.2.2.2.2.2.2.2.2.2.2.1,m.2.1,mnI (rd1 0 m.2.2.2.2.2.2.2.1 x.1) (Xd (x.2.2.2.2.2.2.1,x.2.2.2.2.2.2.2.1,x.2.2.2.2.2.2.2.2.1)))=some (ZD x.2.2.2.2.2.2.2.2.2.2.1 m.2.1 (mnI (rd1 0 m.2.2.2.2.2.2.2.1 x.1) (Xd (x.2.2.2.2.2.2.1,x.2.2.2.2.2.2.2.1,x.2.2.2.2.2.2.2.2.1)))):=Qq7 _ _ _ (by omega)
 have ht:K9 w (x.2.2.2.2.2.2.2.2.2.2.2.1,m.2.1,m.2.2.2.2.2.2.2.2.2.2.2)=some (K6 x.2.2.2.2.2.2.2.2.2.2.2.1 m.2.1 m.2.2.2.2.2.2.2.2.2.2.2):=Qrz _ _ _ (Km (x:=x) (by omega)).2.2.2 (by simp only[maxLen];omega)
 have hT:=QvC (QmB x m) (Qom h hf) ([],[]) QrJ
 simp only[QmB]at hT
 apply QoT
 simp only[Qba,hi,QQ1,Qll _ _ _ hl.2.1 hl.2.2,hv,ht,QQ0]
 rw[hT];rfl
set_option maxHeartbeats 1000000 in
theorem Qml (x:Qb) (h:NOk x) (m:Q4) (hf:Fit x m):Y1 w (x.1,x.2.1,x.2.2.1,x.2.2.2.1,x.2.2.2.2.1,x.2.2.2.2.2.1,x.2.2.2.2.2.2.1,x.2.2.2.2.2.2.2.1,x.2.2.2.2.2.2.2.2.1,x.2.2.2.2.2.2.2.2.2.1,x.2.2.2.2.2.2.2.2.2.2.1,x.2.2.2.2.2.2.2.2.2.2.2.1,x.2.2.2.2.2.2.2.2.2.2.2.2.1,x.2.2.2.2.2.2.2.2.2.2.2.2.2.1,x.2.2.2.2.2.2.2.2.2.2.2.2.2.2.1,x.2.2.2.2.2.2.2.2.2.2.2.2.2.2.2.1,x.2.2.2.2.2.2.2.2.2.2.2.2.2.2.2.2.1,x.2.2.2.2.2.2.2.2.2.2.2.2.2.2.2.2.2.1,x.2.2.2.2.2.2.2.2.2.2.2.2.2.2.2.2.2.2,m.1,m.2.1,m.2.2.1,m.2.2.2.1,m.2.2.2.2.1,m.2.2.2.2.2.1,m.2.2.2.2.2.2.1,m.2.2.2.2.2.2.2.1,m.2.2.2.2.2.2.2.2.1,m.2.2.2.2.2.2.2.2.2.1,m.2.2.2.2.2.2.2.2.2.2.1,m.2.2.2.2.2.2.2.2.2.2.2)=some (heard x m):=by
 have hk:=Xz h
 have hl:=xH h.log
 have hsm:=Xr h
 have hmk:=Qab hf.ok.marks
 obtain⟨j,hj,hj2⟩:=QmR h hf
 have hc:=QfK h
 have hi:inb x.1 m.2.2.2.2.2.2.2.1.length=true:=by rw[hj];exact Qk hj2
 have hv:Jf w (x.2.2.2.2.2.2.2.2.2.2.1,m.2.1,mnI (rd1 0 m.2.2.2.2.2.2.2.1 x.1) (Xd (x.2.2.2.2.2.2.1,x.2.2.2.2.2.2.2.1,x.2.2.2.2.2.2.2.2.1)))=some (ZD x.2.2.2.2.2.2.2.2.2.2.1 m.2.1 (mnI (rd1 0 m.2.2.2.2.2.2.2.1 x.1) (Xd (x.2.2.2.2.2.2.1,x.2.2.2.2.2.2.2.1,x.2.2.2.2.2.2.2.2.1)))):=Qpp _ _ _ (by omega)
 have ht:K3 w (x.2.2.2.2.2.2.2.2.2.2.2.1,m.2.1,m.2.2.2.2.2.2.2.2.2.2.2)=some (K6 x.2.2.2.2.2.2.2.2.2.2.2.1 m.2.1 m.2.2.2.2.2.2.2.2.2.2.2):=QoW _ _ _ (Km (x:=x) (by omega)).2.2.2 (by simp only[maxLen];omega)
 have hT:=QnS (QmB x m) (Qom h hf) ([],[]) QrJ
 simp only[QmB]at hT
 apply QrE
 simp only[Qhr,hc,hi,QQ1,QhO _ _ _ hl.2.1 hl.2.2,QyX,hv,ht,QQ0]
 rw[hT];rfl
def brought (x:Qb) (m:Q4):Qb:=((take (heard x m) (m.2.2.2.2.2.2.2.2.2.1,m.2.2.2.2.2.2.2.2.2.2.1)).1,(take (heard x m) (m.2.2.2.2.2.2.2.2.2.1,m.2.2.2.2.2.2.2.2.2.2.1)).2.1,(take (heard x m) (m.2.2.2.2.2.2.2.2.2.1,m.2.2.2.2.2.2.2.2.2.2.1)).2.2.1,(take (heard x m) (m.2.2.2.2.2.2.2.2.2.1,m.2.2.2.2.2.2.2.2.2.2.1)).2.2.2.1,(take (heard x m) (m.2.2.2.2.2.2.2.2.2.1,m.2.2.2.2.2.2.2.2.2.2.1)).2.2.2.2.1,(take (heard x m) (m.2.2.2.2.2.2.2.2.2.1,m.2.2.2.2.2.2.2.2.2.2.1)).2.2.2.2.2.1,(take (heard x m) (m.2.2.2.2.2.2.2.2.2.1,m.2.2.2.2.2.2.2.2.2.2.1)).2.2.2.2.2.2.1,(take (heard x m) (m.2.2.2.2.2.2.2.2.2.1,m.2.2.2.2.2.2.2.2.2.2.1)).2.2.2.2.2.2.2.1,(take (heard x m) (m.2.2.2.2.2.2.2.2.2.1,m.2.2.2.2.2.2.2.2.2.2.1)).2.2.2.2.2.2.2.2.1,ZD (take (heard x m) (m.2.2.2.2.2.2.2.2.2.1,m.2.2.2.2.2.2.2.2.2.2.1)).2.2.2.2.2.2.2.2.2.1 m.2.1 m.2.2.2.2.1,(take (heard x m) (m.2.2.2.2.2.2.2.2.2.1,m.2.2.2.2.2.2.2.2.2.2.1)).2.2.2.2.2.2.2.2.2.2.1,(take (heard x m) (m.2.2.2.2.2.2.2.2.2.1,m.2.2.2.2.2.2.2.2.2.2.1)).2.2.2.2.2.2.2.2.2.2.2.1,(take (heard x m) (m.2.2.2.2.2.2.2.2.2.1,m.2.2.2.2.2.2.2.2.2.2.1)).2.2.2.2.2.2.2.2.2.2.2.2.1,(take (heard x m) (m.2.2.2.2.2.2.2.2.2.1,m.2.2.2.2.2.2.2.2.2.2.1)).2.2.2.2.2.2.2.2.2.2.2.2.2.1,(take (heard x m) (m.2.2.2.2.2.2.2.2.2.1,m.2.2.2.2.2.2.2.2.2.2.1)).2.2.2.2.2.2.2.2.2.2.2.2.2.2.1,(take (heard x m) (m.2.2.2.2.2.2.2.2.2.1,m.2.2.2.2.2.2.2.2.2.2.1)).2.2.2.2.2.2.2.2.2.2.2.2.2.2.2.1,(take (heard x m) (m.2.2.2.2.2.2.2.2.2.1,m.2.2.2.2.2.2.2.2.2.2.1)).2.2.2.2.2.2.2.2.2.2.2.2.2.2.2.2.1,(take (heard x m) (m.2.2.2.2.2.2.2.2.2.1,m.2.2.2.2.2.2.2.2.2.2.1)).2.2.2.2.2.2.2.2.2.2.2.2.2.2.2.2.2.1,(take (heard x m) (m.2.2.2.2.2.2.2.2.2.1,m.2.2.2.2.2.2.2.2.2.2.1)).2.2.2.2.2.2.2.2.2.2.2.2.2.2.2.2.2.2)
theorem ZW {x:Qb}(h:NOk x) {m:Q4}(hf:Fit x m):NOk (brought x m):=by
 have hb:NOk (take (heard x m) (m.2.2.2.2.2.2.2.2.2.1,m.2.2.2.2.2.2.2.2.2.2.1)):=QjR (yc h hf) hf.ok.part
 have h1:=QW.1 h.id
 have hne:m.2.1≠(((x.1).toNat:Nat):Int):=by
  have:=hf.ok.two
  have:=hf.to
  omega
 exact {
  n:=hb.n
  id:=hb.id
  st:=hb.st
  tree:=hb.tree
  log:=hb.log
  got:=Qrg hb.got (QW.1 hf.ok.hi).2
  ack:=hb.ack
  own:=(Qyq hne).trans hb.own
  heard:=hb.heard
  seen:=hb.seen
  num:=hb.num
  clock:=hb.clock
  wait:=hb.wait
  limit:=hb.limit
  slots:=hb.slots
  room:=hb.room
  sess:=hb.sess
  rlen:=hb.rlen
  rises:=hb.rises}
set_option maxHeartbeats 1000000 in
theorem Qpy (x:Qb) (h:NOk x) (m:Q4) (hf:Fit x m):Vr w (x.1,x.2.1,x.2.2.1,x.2.2.2.1,x.2.2.2.2.1,x.2.2.2.2.2.1,x.2.2.2.2.2.2.1,x.2.2.2.2.2.2.2.1,x.2.2.2.2.2.2.2.2.1,x.2.2.2.2.2.2.2.2.2.1,x.2.2.2.2.2.2.2.2.2.2.1,x.2.2.2.2.2.2.2.2.2.2.2.1,x.2.2.2.2.2.2.2.2.2.2.2.2.1,x.2.2.2.2.2.2.2.2.2.2.2.2.2.1,x.2.2.2.2.2.2.2.2.2.2.2.2.2.2.1,x.2.2.2.2.2.2.2.2.2.2.2.2.2.2.2.1,x.2.2.2.2.2.2.2.2.2.2.2.2.2.2.2.2.1,x.2.2.2.2.2.2.2.2.2.2.2.2.2.2.2.2.2.1,x.2.2.2.2.2.2.2.2.2.2.2.2.2.2.2.2.2.2,m.1,m.2.1,m.2.2.1,m.2.2.2.1,m.2.2.2.2.1,m.2.2.2.2.2.1,m.2.2.2.2.2.2.1,m.2.2.2.2.2.2.2.1,m.2.2.2.2.2.2.2.2.1,m.2.2.2.2.2.2.2.2.2.1,m.2.2.2.2.2.2.2.2.2.2.1,m.2.2.2.2.2.2.2.2.2.2.2)=some (brought x m):=by
 have hT:=QvC (heard x m) (yc h hf) (m.2.2.2.2.2.2.2.2.2.1,m.2.2.2.2.2.2.2.2.2.2.1) hf.ok.part
 have hk:=Xz (QjR (yc h hf) hf.ok.part)
 apply Qvf
 simp only[Qlq,Qd6 x h m hf,hT,Qq7 (take (heard x m) (m.2.2.2.2.2.2.2.2.2.1,m.2.2.2.2.2.2.2.2.2.2.1)).2.2.2.2.2.2.2.2.2.1 _ _ (by omega),QQ0,brought]
set_option maxHeartbeats 1000000 in
theorem QgC (x:Qb) (h:NOk x) (m:Q4) (hf:Fit x m):Jm w (x.1,x.2.1,x.2.2.1,x.2.2.2.1,x.2.2.2.2.1,x.2.2.2.2.2.1,x.2.2.2.2.2.2.1,x.2.2.2.2.2.2.2.1,x.2.2.2.2.2.2.2.2.1,x.2.2.2.2.2.2.2.2.2.1,x.2.2.2.2.2.2.2.2.2.2.1,x.2.2.2.2.2.2.2.2.2.2.2.1,x.2.2.2.2.2.2.2.2.2.2.2.2.1,x.2.2.2.2.2.2.2.2.2.2.2.2.2.1,x.2.2.2.2.2.2.2.2.2.2.2.2.2.2.1,x.2.2.2.2.2.2.2.2.2.2.2.2.2.2.2.1,x.2.2.2.2.2.2.2.2.2.2.2.2.2.2.2.2.1,x.2.2.2.2.2.2.2.2.2.2.2.2.2.2.2.2.2.1,x.2.2.2.2.2.2.2.2.2.2.2.2.2.2.2.2.2.2,m.1,m.2.1,m.2.2.1,m.2.2.2.1,m.2.2.2.2.1,m.2.2.2.2.2.1,m.2.2.2.2.2.2.1,m.2.2.2.2.2.2.2.1,m.2.2.2.2.2.2.2.2.1,m.2.2.2.2.2.2.2.2.2.1,m.2.2.2.2.2.2.2.2.2.2.1,m.2.2.2.2.2.2.2.2.2.2.2)=some (brought x m):=by
 have hT:=QnS (heard x m) (yc h hf) (m.2.2.2.2.2.2.2.2.2.1,m.2.2.2.2.2.2.2.2.2.2.1) hf.ok.part
 have hk:=Xz (QjR (yc h hf) hf.ok.part)
 apply QpU
 simp only[Qdy,Qml x h m hf,hT,Qpp (take (heard x m) (m.2.2.2.2.2.2.2.2.2.1,m.2.2.2.2.2.2.2.2.2.2.1)).2.2.2.2.2.2.2.2.2.1 _ _ (by omega),QQ0,brought]
end Go.Proofs.YtjenicbpdklpbaaGreat.M
