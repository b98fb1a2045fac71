/- What the plain forms that FnExactIslands reaches come to: PSend. No conditions but those that each theorem states. -/
import Derived.Test.YtiejfnbmficbmaaGreatFnExactIslandsPJoin
set_option linter.all false
namespace Go.Proofs.YtiejfnbmficbmaaGreat.M
open Go Go.Eng Go.Proofs
set_option linter.unusedVariables false
theorem Qtr (x y:Qy):Zl x y=Zl y x:=by
 unfold Zl
 by_cases h:y.1=x.1
 ·rw[dt h,dt h.symm];cases y.2.2.1<;>cases x.2.2.1<;>rfl
 ·rw[df h,df (fun e=>h e.symm)];rfl
theorem Qud (id n wt:Int):(l pre:List Qy)->(X0 id n wt pre l=true↔(∀x∈l,Y1 id n wt x=true)/\(∀x∈l,∀y∈pre,Zl x y=false)/\l.Pairwise fun y x=>Zl x y=false)
 | [],pre=>by simp[X0]
 |x::l,pre=>by
  rw[X0,QQ5,QQ5,Qud id n wt l (pre++[x]),List.pairwise_cons]
  constructor
  ·rintro⟨⟨h1,h2⟩,h3,h4,h5⟩
   have h2':∀y∈pre,Zl x y=false:=fun y hy=>by
    cases hk:Zl x y
    ·rfl
    ·have:pre.any (Zl x)=true:=QY23.2 ⟨y,hy,hk⟩
     rw[this]at h2;cases h2
   refine⟨fun y hy=> ?_,fun y hy z hz=> ?_,fun y hy=>h4 y hy x (by simp),h5⟩
   ·rcases QRk.1 hy with rfl|hy
    ·exact h1
    ·exact h3 y hy
   ·rcases QRk.1 hy with rfl|hy
    ·exact h2' z hz
    ·exact h4 y hy z (by simp[hz])
  ·rintro⟨h1,h2,h3,h4⟩
   refine⟨⟨h1 x (by simp), ?_⟩,fun y hy=>h1 y (by simp[hy]),fun y hy z hz=> ?_,h4⟩
   ·have:pre.any (Zl x)=false:=by
     cases hk:pre.any (Zl x)
     ·rfl
     ·obtain⟨y,hy,hk⟩:=QY23.1 hk
      rw[h2 x (by simp) y hy]at hk;cases hk
    rw[this];rfl
   ·rcases QRh.1 hz with hz|hz
    ·exact h2 y (by simp[hy]) z hz
    ·obtain rfl:z=x:=by simpa using hz
     exact h3 y hy
theorem Vj (id n wt:Int) (l:List Qy):X0 id n wt [] l=true↔(∀x∈l,Y1 id n wt x=true)/\l.Pairwise fun y x=>Zl x y=false:=by
 rw[Qud];simp
theorem Qxu (p:Int) (b:Bool):(off:Nat)->(l:List Qy)->Xq (Xf p b off l)<0->∀y∈l,(decide (y.1=p)&&(y.2.2.1==b))=false
 |_,[],_=>by simp
 |off,y::l,h=>by
  rw[Xf]at h
  cases hk:decide (y.1=p)&&(y.2.2.1==b)
  ·rw[hk]at h
   intro z hz
   rcases QRk.1 hz with rfl|hz
   ·exact hk
   ·exact Qxu p b (off+1) l h z hz
  ·rw[hk]at h;simp[Xq]at h;omega
theorem Qgo (p:Int) (b:Bool):(off:Nat)->(l:List Qy)->¬Xq (Xf p b off l)<0->∃i:Nat,Xq (Xf p b off l)=((off+i:Nat):Int)/\∃h:i<l.length,(decide (l[i].1=p)&&(l[i].2.2.1==b))=true
 |off,[],h=>by simp[Xf,Xq]at h
 |off,y::l,h=>by
  rw[Xf]at h⊢
  cases hk:decide (y.1=p)&&(y.2.2.1==b)
  ·rw[hk]at h
   obtain⟨i,e,hi,h2⟩:=Qgo p b (off+1) l h
   exact⟨i+1,by simp only[QQ2];rw[e];congr 1;omega,by simpa using hi,by simpa using h2⟩
  ·exact⟨0,rfl,by simp,by simpa using hk⟩
theorem Qzm {id n wt:Int}{l:List Qy}(h:X0 id n wt [] l=true) {x:Qy}(hx:Y1 id n wt x=true) (hn:Xq (Xf x.1 x.2.2.1 0 l)<0):X0 id n wt [] (l++[x])=true:=by
 rw[Vj]at h⊢
 refine⟨fun y hy=> ?_,List.pairwise_append.2 ⟨h.2,by simp,fun y hy z hz=> ?_⟩⟩
 ·rcases QRh.1 hy with hy|hy
  ·exact h.1 y hy
  ·obtain rfl:y=x:=by simpa using hy
   exact hx
 ·obtain rfl:z=x:=by simpa using hz
  exact Qxu z.1 z.2.2.1 0 l hn y hy
theorem QCw {id n wt:Int}{l:List Qy}(h:X0 id n wt [] l=true) (i:Nat):X0 id n wt [] (l.take i++l.drop (i+1))=true:=by
 rw[Vj]at h⊢
 have hs:(l.take i++l.drop (i+1)).Sublist l:=by
  have:=QY24 (QY19 (l.take i)) (List.drop_sublist 1 (l.drop i))
  rw[List.take_append_drop,List.drop_drop]at this
  exact this
 exact⟨fun y hy=>h.1 y (hs.subset hy),h.2.sublist hs⟩
theorem QFS {id n wt:Int}{l:List Qy}(h:X0 id n wt [] l=true) {i:Nat}(hi:i<l.length) {x:Qy}(hx:Y1 id n wt x=true) (h1:x.1=l[i].1) (h2:x.2.2.1=l[i].2.2.1):X0 id n wt [] (l.set i x)=true:=by
 rw[Vj]at h⊢
 have hk:∀y,Zl x y=Zl l[i] y:=fun y=>by unfold Zl;rw[h1,h2]
 refine⟨fun y hy=> ?_, ?_⟩
 ·rcases QY35 hy with hy|rfl
  ·exact h.1 y hy
  ·exact hx
 ·rw[List.pairwise_iff_getElem]at h⊢
  intro a b ha hb hab
  rw[QY6]at ha hb
  rw[List.getElem_set,List.getElem_set]
  have:=h.2 a b ha hb hab
  split
  ·rename_i e;subst e
   rw[if_neg (by omega),hk];exact this
  ·split
   ·rename_i e;subst e
    rw[Qtr,hk,Qtr];exact this
   ·exact this
theorem QsH (x:Qa) (p:Int) (b:Bool) (h:x.2.2.2.2.2.2.2.2.2.2.2.2.2.2.1.length<=maxLen):QaC w (x.1,x.2.1,x.2.2.1,x.2.2.2.1,x.2.2.2.2.1,x.2.2.2.2.2.1,x.2.2.2.2.2.2.1,x.2.2.2.2.2.2.2.1,x.2.2.2.2.2.2.2.2.1,x.2.2.2.2.2.2.2.2.2.1,x.2.2.2.2.2.2.2.2.2.2.1,x.2.2.2.2.2.2.2.2.2.2.2.1,x.2.2.2.2.2.2.2.2.2.2.2.2.1,x.2.2.2.2.2.2.2.2.2.2.2.2.2.1,x.2.2.2.2.2.2.2.2.2.2.2.2.2.2.1,x.2.2.2.2.2.2.2.2.2.2.2.2.2.2.2.1,x.2.2.2.2.2.2.2.2.2.2.2.2.2.2.2.2.1,x.2.2.2.2.2.2.2.2.2.2.2.2.2.2.2.2.2.1,x.2.2.2.2.2.2.2.2.2.2.2.2.2.2.2.2.2.2,p,b)=some (Xq (Xf p b 0 x.2.2.2.2.2.2.2.2.2.2.2.2.2.2.1)):=by
 apply QAc
 have e:=Q5 x.2.2.2.2.2.2.2.2.2.2.2.2.2.2.1.length (fun i=>qS wl (p,b,(i:Int),x.1,x.2.1,x.2.2.1,x.2.2.2.1,x.2.2.2.2.1,x.2.2.2.2.2.1,x.2.2.2.2.2.2.1,x.2.2.2.2.2.2.2.1,x.2.2.2.2.2.2.2.2.1,x.2.2.2.2.2.2.2.2.2.1,x.2.2.2.2.2.2.2.2.2.2.1,x.2.2.2.2.2.2.2.2.2.2.2.1,x.2.2.2.2.2.2.2.2.2.2.2.2.1,x.2.2.2.2.2.2.2.2.2.2.2.2.2.1,x.2.2.2.2.2.2.2.2.2.2.2.2.2.2.1,x.2.2.2.2.2.2.2.2.2.2.2.2.2.2.2.1,x.2.2.2.2.2.2.2.2.2.2.2.2.2.2.2.2.1,x.2.2.2.2.2.2.2.2.2.2.2.2.2.2.2.2.2.1,x.2.2.2.2.2.2.2.2.2.2.2.2.2.2.2.2.2.2)) (fun i=>Xf p b i (x.2.2.2.2.2.2.2.2.2.2.2.2.2.2.1.drop i))
  (fun i hi ih=>by
    apply QkW
    simp only[Qjr,ilt hi,Qj hi,Qf hi,inc hi h,QQ1,ih]
    rw[QRa hi,Xf]
    cases decide ((x.2.2.2.2.2.2.2.2.2.2.2.2.2.2.1)[i].1=p)<;>cases((x.2.2.2.2.2.2.2.2.2.2.2.2.2.2.1)[i].2.2.1==b)<;>rfl)
  (by
    apply QkW
    simp[Qjr,Xf])
 simp only[QQ6,QRg]at e
 simp only[Qpc,e,QQ0]
 cases Xf p b 0 x.2.2.2.2.2.2.2.2.2.2.2.2.2.2.1<;>rfl
theorem Qyz (x:Qa) (p:Int) (b:Bool) (h:x.2.2.2.2.2.2.2.2.2.2.2.2.2.2.1.length<=maxLen):xF w (x.1,x.2.1,x.2.2.1,x.2.2.2.1,x.2.2.2.2.1,x.2.2.2.2.2.1,x.2.2.2.2.2.2.1,x.2.2.2.2.2.2.2.1,x.2.2.2.2.2.2.2.2.1,x.2.2.2.2.2.2.2.2.2.1,x.2.2.2.2.2.2.2.2.2.2.1,x.2.2.2.2.2.2.2.2.2.2.2.1,x.2.2.2.2.2.2.2.2.2.2.2.2.1,x.2.2.2.2.2.2.2.2.2.2.2.2.2.1,x.2.2.2.2.2.2.2.2.2.2.2.2.2.2.1,x.2.2.2.2.2.2.2.2.2.2.2.2.2.2.2.1,x.2.2.2.2.2.2.2.2.2.2.2.2.2.2.2.2.1,x.2.2.2.2.2.2.2.2.2.2.2.2.2.2.2.2.2.1,x.2.2.2.2.2.2.2.2.2.2.2.2.2.2.2.2.2.2,p,b)=some (Xq (Xf p b 0 x.2.2.2.2.2.2.2.2.2.2.2.2.2.2.1)):=QBS x.1 x.2.1 x.2.2.1 x.2.2.2.1 x.2.2.2.2.1 x.2.2.2.2.2.1 x.2.2.2.2.2.2.1 x.2.2.2.2.2.2.2.1 x.2.2.2.2.2.2.2.2.1 x.2.2.2.2.2.2.2.2.2.1 x.2.2.2.2.2.2.2.2.2.2.1 x.2.2.2.2.2.2.2.2.2.2.2.1 x.2.2.2.2.2.2.2.2.2.2.2.2.1 x.2.2.2.2.2.2.2.2.2.2.2.2.2.1 x.2.2.2.2.2.2.2.2.2.2.2.2.2.2.1 x.2.2.2.2.2.2.2.2.2.2.2.2.2.2.2.1 x.2.2.2.2.2.2.2.2.2.2.2.2.2.2.2.2.1 x.2.2.2.2.2.2.2.2.2.2.2.2.2.2.2.2.2.1 x.2.2.2.2.2.2.2.2.2.2.2.2.2.2.2.2.2.2 p b h
theorem QGB (x:Qa) (p:Int) (h:NOk x):zu w (x.1,x.2.1,x.2.2.1,x.2.2.2.1,x.2.2.2.2.1,x.2.2.2.2.2.1,x.2.2.2.2.2.2.1,x.2.2.2.2.2.2.2.1,x.2.2.2.2.2.2.2.2.1,x.2.2.2.2.2.2.2.2.2.1,x.2.2.2.2.2.2.2.2.2.2.1,x.2.2.2.2.2.2.2.2.2.2.2.1,x.2.2.2.2.2.2.2.2.2.2.2.2.1,x.2.2.2.2.2.2.2.2.2.2.2.2.2.1,x.2.2.2.2.2.2.2.2.2.2.2.2.2.2.1,x.2.2.2.2.2.2.2.2.2.2.2.2.2.2.2.1,x.2.2.2.2.2.2.2.2.2.2.2.2.2.2.2.2.1,x.2.2.2.2.2.2.2.2.2.2.2.2.2.2.2.2.2.1,x.2.2.2.2.2.2.2.2.2.2.2.2.2.2.2.2.2.2,p)=some (zj x.1 x.2.1 p):=Qw8 x.1 x.2.1 x.2.2.1 x.2.2.2.1 x.2.2.2.2.1 x.2.2.2.2.2.1 x.2.2.2.2.2.2.1 x.2.2.2.2.2.2.2.1 x.2.2.2.2.2.2.2.2.1 x.2.2.2.2.2.2.2.2.2.1 x.2.2.2.2.2.2.2.2.2.2.1 x.2.2.2.2.2.2.2.2.2.2.2.1 x.2.2.2.2.2.2.2.2.2.2.2.2.1 x.2.2.2.2.2.2.2.2.2.2.2.2.2.1 x.2.2.2.2.2.2.2.2.2.2.2.2.2.2.1 x.2.2.2.2.2.2.2.2.2.2.2.2.2.2.2.1 x.2.2.2.2.2.2.2.2.2.2.2.2.2.2.2.2.1 x.2.2.2.2.2.2.2.2.2.2.2.2.2.2.2.2.2.1 x.2.2.2.2.2.2.2.2.2.2.2.2.2.2.2.2.2.2 p h.n
theorem QEc (x:Qa) (p:Int) (h:NOk x):Qc2 w (x.1,x.2.1,x.2.2.1,x.2.2.2.1,x.2.2.2.2.1,x.2.2.2.2.2.1,x.2.2.2.2.2.2.1,x.2.2.2.2.2.2.2.1,x.2.2.2.2.2.2.2.2.1,x.2.2.2.2.2.2.2.2.2.1,x.2.2.2.2.2.2.2.2.2.2.1,x.2.2.2.2.2.2.2.2.2.2.2.1,x.2.2.2.2.2.2.2.2.2.2.2.2.1,x.2.2.2.2.2.2.2.2.2.2.2.2.2.1,x.2.2.2.2.2.2.2.2.2.2.2.2.2.2.1,x.2.2.2.2.2.2.2.2.2.2.2.2.2.2.2.1,x.2.2.2.2.2.2.2.2.2.2.2.2.2.2.2.2.1,x.2.2.2.2.2.2.2.2.2.2.2.2.2.2.2.2.2.1,x.2.2.2.2.2.2.2.2.2.2.2.2.2.2.2.2.2.2,p)=some (zj x.1 x.2.1 p):=by
 have hn:=Q0.1 h.n
 apply QuE
 simp only[QjW,zj]
 rw[w64 (by omega) (by omega),Xx,QQ0]
 cases inR p 0 (x.2.1 - 1)<;>rfl
theorem XC {x:Qa}(h:NOk x):x.2.2.2.2.2.2.2.2.2.2.2.2.2.2.1.length<=4/\x.2.2.2.2.2.2.2.2.2.1.length<=5/\x.2.2.2.2.2.2.2.2.2.2.1.length<=5:=by
 have h1:=Q0.1 h.slots
 have h2:=h.room
 have h3:=Q0.1 h.n
 have h4:=(QgO h.got).1
 have h5:=(QgO h.ack).1
 omega
def ship (x:Qa) (seq:Int):List Qg×List Qb×Bool:=bif (Yi (x.2.2.2.2.2.2.1,x.2.2.2.2.2.2.2.1,x.2.2.2.2.2.2.2.2.1) seq).2.2 then Yi (x.2.2.2.2.2.2.1,x.2.2.2.2.2.2.2.1,x.2.2.2.2.2.2.2.2.1) seq else(x.2.2.1,x.2.2.2.1,false)
theorem QvP {x:Qa}(h:NOk x) (seq:Int):QK ((ship x seq).1,(ship x seq).2.1)=true:=by
 unfold ship
 cases(Yi (x.2.2.2.2.2.2.1,x.2.2.2.2.2.2.2.1,x.2.2.2.2.2.2.2.2.1) seq).2.2
 ·exact h.st
 ·exact QAS h.log seq
theorem QIq (x:Qa) (h:NOk x) (seq:Int):QlH w (x.1,x.2.1,x.2.2.1,x.2.2.2.1,x.2.2.2.2.1,x.2.2.2.2.2.1,x.2.2.2.2.2.2.1,x.2.2.2.2.2.2.2.1,x.2.2.2.2.2.2.2.2.1,x.2.2.2.2.2.2.2.2.2.1,x.2.2.2.2.2.2.2.2.2.2.1,x.2.2.2.2.2.2.2.2.2.2.2.1,x.2.2.2.2.2.2.2.2.2.2.2.2.1,x.2.2.2.2.2.2.2.2.2.2.2.2.2.1,x.2.2.2.2.2.2.2.2.2.2.2.2.2.2.1,x.2.2.2.2.2.2.2.2.2.2.2.2.2.2.2.1,x.2.2.2.2.2.2.2.2.2.2.2.2.2.2.2.2.1,x.2.2.2.2.2.2.2.2.2.2.2.2.2.2.2.2.2.1,x.2.2.2.2.2.2.2.2.2.2.2.2.2.2.2.2.2.2,seq)=some (ship x seq):=by
 have hsm:=Xp h
 have hn:=okN h
 have hl:x7 w (x.2.2.2.2.2.2.1,x.2.2.2.2.2.2.2.1,x.2.2.2.2.2.2.2.2.1,seq)=some (Yi (x.2.2.2.2.2.2.1,x.2.2.2.2.2.2.2.1,x.2.2.2.2.2.2.2.2.1) seq):=QAG (x.2.2.2.2.2.2.1,x.2.2.2.2.2.2.2.1,x.2.2.2.2.2.2.2.2.1) h.log seq
 have hc:Zy w (x.2.2.1,x.2.2.2.1)=some (x.2.2.1,x.2.2.2.1):=yp _ (Kc (x:=x) (by omega)).1
 apply Qzk
 simp only[QoZ,hn,hl,hc,QQ0,QQ3,QQ2,ship]
 cases hb:(Yi (x.2.2.2.2.2.2.1,x.2.2.2.2.2.2.2.1,x.2.2.2.2.2.2.2.2.1) seq).2.2
 ·rfl
 ·simp only[QQ3,QQ2,QQ1]
  rw[<-hb]
theorem QDU (x:Qa) (h:NOk x) (seq:Int):QcT w (x.1,x.2.1,x.2.2.1,x.2.2.2.1,x.2.2.2.2.1,x.2.2.2.2.2.1,x.2.2.2.2.2.2.1,x.2.2.2.2.2.2.2.1,x.2.2.2.2.2.2.2.2.1,x.2.2.2.2.2.2.2.2.2.1,x.2.2.2.2.2.2.2.2.2.2.1,x.2.2.2.2.2.2.2.2.2.2.2.1,x.2.2.2.2.2.2.2.2.2.2.2.2.1,x.2.2.2.2.2.2.2.2.2.2.2.2.2.1,x.2.2.2.2.2.2.2.2.2.2.2.2.2.2.1,x.2.2.2.2.2.2.2.2.2.2.2.2.2.2.2.1,x.2.2.2.2.2.2.2.2.2.2.2.2.2.2.2.2.1,x.2.2.2.2.2.2.2.2.2.2.2.2.2.2.2.2.2.1,x.2.2.2.2.2.2.2.2.2.2.2.2.2.2.2.2.2.2,seq)=some (ship x seq):=by
 have hsm:=Xp h
 have hl:ze w (x.2.2.2.2.2.2.1,x.2.2.2.2.2.2.2.1,x.2.2.2.2.2.2.2.2.1,seq)=some (Yi (x.2.2.2.2.2.2.1,x.2.2.2.2.2.2.2.1,x.2.2.2.2.2.2.2.2.1) seq):=Qzr (x.2.2.2.2.2.2.1,x.2.2.2.2.2.2.2.1,x.2.2.2.2.2.2.2.2.1) h.log seq
 have hc:Kd w (x.2.2.1,x.2.2.2.1)=some (x.2.2.1,x.2.2.2.1):=Qf6 _ (Kc (x:=x) (by omega)).1
 apply QuO
 simp only[QjM,hl,hc,QQ0,ship]
 cases hb:(Yi (x.2.2.2.2.2.2.1,x.2.2.2.2.2.2.2.1,x.2.2.2.2.2.2.2.2.1) seq).2.2
 ·rfl
 ·simp only[QQ1]
  rw[<-hb]
def msg (x:Qa) (k to num:Int):QV:=(k,x.1,to,num,Xo (x.2.2.2.2.2.2.1,x.2.2.2.2.2.2.2.1,x.2.2.2.2.2.2.2.2.1),[],0,x.2.2.2.2.2.2.2.2.2.1,[],[],[],marksOf (x.2.2.1,x.2.2.2.1))
theorem QbB (x:Qa) (h:NOk x) (k to num:Int):Zv w (x.1,x.2.1,x.2.2.1,x.2.2.2.1,x.2.2.2.2.1,x.2.2.2.2.2.1,x.2.2.2.2.2.2.1,x.2.2.2.2.2.2.2.1,x.2.2.2.2.2.2.2.2.1,x.2.2.2.2.2.2.2.2.2.1,x.2.2.2.2.2.2.2.2.2.2.1,x.2.2.2.2.2.2.2.2.2.2.2.1,x.2.2.2.2.2.2.2.2.2.2.2.2.1,x.2.2.2.2.2.2.2.2.2.2.2.2.2.1,x.2.2.2.2.2.2.2.2.2.2.2.2.2.2.1,x.2.2.2.2.2.2.2.2.2.2.2.2.2.2.2.1,x.2.2.2.2.2.2.2.2.2.2.2.2.2.2.2.2.1,x.2.2.2.2.2.2.2.2.2.2.2.2.2.2.2.2.2.1,x.2.2.2.2.2.2.2.2.2.2.2.2.2.2.2.2.2.2,k,to,num)=some (msg x k to num):=by
 have hl:=QaB h.log
 have hs:=ZB h.st
 have hn:=XC h
 apply Qtl
 simp only[QjS,Qlx _ _ _ hl.2.1 hl.2.2,Qal x.2.2.2.2.2.2.2.2.2.1 (by omega),Qur _ _ hs.1 hs.2,QQ0,msg]
theorem QgH (x:Qa) (h:NOk x) (k to num:Int):ZT w (x.1,x.2.1,x.2.2.1,x.2.2.2.1,x.2.2.2.2.1,x.2.2.2.2.2.1,x.2.2.2.2.2.2.1,x.2.2.2.2.2.2.2.1,x.2.2.2.2.2.2.2.2.1,x.2.2.2.2.2.2.2.2.2.1,x.2.2.2.2.2.2.2.2.2.2.1,x.2.2.2.2.2.2.2.2.2.2.2.1,x.2.2.2.2.2.2.2.2.2.2.2.2.1,x.2.2.2.2.2.2.2.2.2.2.2.2.2.1,x.2.2.2.2.2.2.2.2.2.2.2.2.2.2.1,x.2.2.2.2.2.2.2.2.2.2.2.2.2.2.2.1,x.2.2.2.2.2.2.2.2.2.2.2.2.2.2.2.2.1,x.2.2.2.2.2.2.2.2.2.2.2.2.2.2.2.2.2.1,x.2.2.2.2.2.2.2.2.2.2.2.2.2.2.2.2.2.2,k,to,num)=some (msg x k to num):=by
 have hl:=QaB h.log
 have hs:=ZB h.st
 have hn:=XC h
 apply QvK
 simp only[QlS,Qia _ _ _ hl.2.1 hl.2.2,QY9,QRe,QRo,Qw (show x.2.2.2.2.2.2.2.2.2.1.length*8<=140737488351232 by omega),QrF _ _ hs.1 hs.2,QQ0,QQ1,msg]
def YV (x:Qa) (to:Int):Bool:=zj x.1 x.2.1 to&&(decide (Xq (Xf to false 0 x.2.2.2.2.2.2.2.2.2.2.2.2.2.2.1)<0)&&(!decide (x.2.2.2.2.2.2.2.2.2.2.2.2.2.1<=((x.2.2.2.2.2.2.2.2.2.2.2.2.2.2.1.length:Nat):Int))&& !decide (x.2.2.2.2.2.2.2.2.2.2.2.2.1=100000)))
def QI (x:Qa) (to:Int):Qa:=(x.1,x.2.1,x.2.2.1,x.2.2.2.1,x.2.2.2.2.1,x.2.2.2.2.2.1,x.2.2.2.2.2.2.1,x.2.2.2.2.2.2.2.1,x.2.2.2.2.2.2.2.2.1,x.2.2.2.2.2.2.2.2.2.1,x.2.2.2.2.2.2.2.2.2.2.1,x.2.2.2.2.2.2.2.2.2.2.2.1,x.2.2.2.2.2.2.2.2.2.2.2.2.1+1,x.2.2.2.2.2.2.2.2.2.2.2.2.2.1,x.2.2.2.2.2.2.2.2.2.2.2.2.2.2.1++[(to,x.2.2.2.2.2.2.2.2.2.2.2.2.1+1,false,0)],x.2.2.2.2.2.2.2.2.2.2.2.2.2.2.2.1,x.2.2.2.2.2.2.2.2.2.2.2.2.2.2.2.2.1,x.2.2.2.2.2.2.2.2.2.2.2.2.2.2.2.2.2.1,x.2.2.2.2.2.2.2.2.2.2.2.2.2.2.2.2.2.2)
theorem Qiv {x:Qa}(h:NOk x) {to:Int}(hc:YV x to=true):NOk (QI x to) where
 n:=h.n
 id:=h.id
 st:=h.st
 tree:=h.tree
 log:=h.log
 got:=h.got
 ack:=h.ack
 own:=h.own
 heard:=h.heard
 seen:=h.seen
 num:=by
  have:=Q0.1 h.num
  simp only[YV,QQ5,QY10,decide_eq_false_iff_not]at hc
  simp only[QI,Q0];omega
 clock:=h.clock
 wait:=h.wait
 limit:=h.limit
 slots:=h.slots
 room:=by
  have:=h.room
  simp only[YV,QQ5,QY10,decide_eq_false_iff_not]at hc
  simp only[QI,QRj,QY8,QY9];omega
 sess:=by
  have hn:=Q0.1 h.num
  have hw:=Q0.1 h.wait
  simp only[YV,QQ5,QY10,decide_eq_false_iff_not,QRu]at hc
  refine Qzm h.sess ?_ hc.2.1
  simp only[Y1,hc.1,QRd,QQ5,Q0];omega
 rlen:=h.rlen
 rises:=h.rises
set_option maxHeartbeats 1000000 in
theorem QJe (x:Qa) (h:NOk x) (to:Int):QkG w (x.1,x.2.1,x.2.2.1,x.2.2.2.1,x.2.2.2.2.1,x.2.2.2.2.2.1,x.2.2.2.2.2.2.1,x.2.2.2.2.2.2.2.1,x.2.2.2.2.2.2.2.2.1,x.2.2.2.2.2.2.2.2.2.1,x.2.2.2.2.2.2.2.2.2.2.1,x.2.2.2.2.2.2.2.2.2.2.2.1,x.2.2.2.2.2.2.2.2.2.2.2.2.1,x.2.2.2.2.2.2.2.2.2.2.2.2.2.1,x.2.2.2.2.2.2.2.2.2.2.2.2.2.2.1,x.2.2.2.2.2.2.2.2.2.2.2.2.2.2.2.1,x.2.2.2.2.2.2.2.2.2.2.2.2.2.2.2.2.1,x.2.2.2.2.2.2.2.2.2.2.2.2.2.2.2.2.2.1,x.2.2.2.2.2.2.2.2.2.2.2.2.2.2.2.2.2.2,to)=some (bif YV x to then(x.1,x.2.1,x.2.2.1,x.2.2.2.1,x.2.2.2.2.1,x.2.2.2.2.2.1,x.2.2.2.2.2.2.1,x.2.2.2.2.2.2.2.1,x.2.2.2.2.2.2.2.2.1,x.2.2.2.2.2.2.2.2.2.1,x.2.2.2.2.2.2.2.2.2.2.1,x.2.2.2.2.2.2.2.2.2.2.2.1,x.2.2.2.2.2.2.2.2.2.2.2.2.1+1,x.2.2.2.2.2.2.2.2.2.2.2.2.2.1,x.2.2.2.2.2.2.2.2.2.2.2.2.2.2.1++[(to,x.2.2.2.2.2.2.2.2.2.2.2.2.1+1,false,0)],x.2.2.2.2.2.2.2.2.2.2.2.2.2.2.2.1,x.2.2.2.2.2.2.2.2.2.2.2.2.2.2.2.2.1,x.2.2.2.2.2.2.2.2.2.2.2.2.2.2.2.2.2.1,x.2.2.2.2.2.2.2.2.2.2.2.2.2.2.2.2.2.2,(msg x 2 to (x.2.2.2.2.2.2.2.2.2.2.2.2.1+1)).1,(msg x 2 to (x.2.2.2.2.2.2.2.2.2.2.2.2.1+1)).2.1,(msg x 2 to (x.2.2.2.2.2.2.2.2.2.2.2.2.1+1)).2.2.1,(msg x 2 to (x.2.2.2.2.2.2.2.2.2.2.2.2.1+1)).2.2.2.1,(msg x 2 to (x.2.2.2.2.2.2.2.2.2.2.2.2.1+1)).2.2.2.2.1,x.2.2.2.2.1,x.2.2.2.2.2.1,(msg x 2 to (x.2.2.2.2.2.2.2.2.2.2.2.2.1+1)).2.2.2.2.2.2.2.1,(msg x 2 to (x.2.2.2.2.2.2.2.2.2.2.2.2.1+1)).2.2.2.2.2.2.2.2.1,(msg x 2 to (x.2.2.2.2.2.2.2.2.2.2.2.2.1+1)).2.2.2.2.2.2.2.2.2.1,(msg x 2 to (x.2.2.2.2.2.2.2.2.2.2.2.2.1+1)).2.2.2.2.2.2.2.2.2.2.1,(msg x 2 to (x.2.2.2.2.2.2.2.2.2.2.2.2.1+1)).2.2.2.2.2.2.2.2.2.2.2,true)else(x.1,x.2.1,x.2.2.1,x.2.2.2.1,x.2.2.2.2.1,x.2.2.2.2.2.1,x.2.2.2.2.2.2.1,x.2.2.2.2.2.2.2.1,x.2.2.2.2.2.2.2.2.1,x.2.2.2.2.2.2.2.2.2.1,x.2.2.2.2.2.2.2.2.2.2.1,x.2.2.2.2.2.2.2.2.2.2.2.1,x.2.2.2.2.2.2.2.2.2.2.2.2.1,x.2.2.2.2.2.2.2.2.2.2.2.2.2.1,x.2.2.2.2.2.2.2.2.2.2.2.2.2.2.1,x.2.2.2.2.2.2.2.2.2.2.2.2.2.2.2.1,x.2.2.2.2.2.2.2.2.2.2.2.2.2.2.2.2.1,x.2.2.2.2.2.2.2.2.2.2.2.2.2.2.2.2.2.1,x.2.2.2.2.2.2.2.2.2.2.2.2.2.2.2.2.2.2,0,0,0,0,0,[],0,[],[],[],[],[],false)):=by
 have hsm:=Xp h
 have hk:=XC h
 have hnm:=Q0.1 h.num
 have hc:=Qyk h
 have hn:=okN h
 have ht:ZY w (x.2.2.2.2.1,x.2.2.2.2.2.1)=some (x.2.2.2.2.1,x.2.2.2.2.2.1):=Qmx _ (Kc (x:=x) (by omega)).2.1
 apply QBj
 simp only[Qpt,hc,hn,ht,QGB x to h,Qyz x to false (by simp only[maxLen];omega),QQ0,QQ3,QQ2,YV]
 cases hp:zj x.1 x.2.1 to
 ·rfl
 ·by_cases hs:Xq (Xf to false 0 x.2.2.2.2.2.2.2.2.2.2.2.2.2.2.1)<0
  ·rw[df (show¬(0:Int)<=Xq (Xf to false 0 x.2.2.2.2.2.2.2.2.2.2.2.2.2.2.1) by omega),dt hs]
   by_cases hr:x.2.2.2.2.2.2.2.2.2.2.2.2.2.1<=((x.2.2.2.2.2.2.2.2.2.2.2.2.2.2.1.length:Nat):Int)
   ·rw[dt hr];rfl
   ·rw[df hr]
    by_cases hm:x.2.2.2.2.2.2.2.2.2.2.2.2.1=100000
    ·rw[dt hm];rfl
    ·rw[df hm]
     have hcan:YV x to=true:=by simp only[YV,hp,dt hs,df hr,df hm];rfl
     have hmsg:Zv w (x.1,x.2.1,x.2.2.1,x.2.2.2.1,x.2.2.2.2.1,x.2.2.2.2.2.1,x.2.2.2.2.2.2.1,x.2.2.2.2.2.2.2.1,x.2.2.2.2.2.2.2.2.1,x.2.2.2.2.2.2.2.2.2.1,x.2.2.2.2.2.2.2.2.2.2.1,x.2.2.2.2.2.2.2.2.2.2.2.1,x.2.2.2.2.2.2.2.2.2.2.2.2.1+1,x.2.2.2.2.2.2.2.2.2.2.2.2.2.1,x.2.2.2.2.2.2.2.2.2.2.2.2.2.2.1++[(to,x.2.2.2.2.2.2.2.2.2.2.2.2.1+1,false,0)],x.2.2.2.2.2.2.2.2.2.2.2.2.2.2.2.1,x.2.2.2.2.2.2.2.2.2.2.2.2.2.2.2.2.1,x.2.2.2.2.2.2.2.2.2.2.2.2.2.2.2.2.2.1,x.2.2.2.2.2.2.2.2.2.2.2.2.2.2.2.2.2.2,2,to,x.2.2.2.2.2.2.2.2.2.2.2.2.1+1)=some (msg x 2 to (x.2.2.2.2.2.2.2.2.2.2.2.2.1+1)):=QbB (QI x to) (Qiv h hcan) 2 to (x.2.2.2.2.2.2.2.2.2.2.2.2.1+1)
     simp only[QQ3,QQ4,QQ1,QQ2,QRn,w64 (n:=x.2.2.2.2.2.2.2.2.2.2.2.2.1+1) (by omega) (by omega),hmsg,QQ0]
     rw[Qw (by simp;omega)];rfl
  ·rw[dt (show(0:Int)<=Xq (Xf to false 0 x.2.2.2.2.2.2.2.2.2.2.2.2.2.2.1) by omega),df hs];rfl
set_option maxHeartbeats 1000000 in
theorem QIr (x:Qa) (h:NOk x) (to:Int):QkF w (x.1,x.2.1,x.2.2.1,x.2.2.2.1,x.2.2.2.2.1,x.2.2.2.2.2.1,x.2.2.2.2.2.2.1,x.2.2.2.2.2.2.2.1,x.2.2.2.2.2.2.2.2.1,x.2.2.2.2.2.2.2.2.2.1,x.2.2.2.2.2.2.2.2.2.2.1,x.2.2.2.2.2.2.2.2.2.2.2.1,x.2.2.2.2.2.2.2.2.2.2.2.2.1,x.2.2.2.2.2.2.2.2.2.2.2.2.2.1,x.2.2.2.2.2.2.2.2.2.2.2.2.2.2.1,x.2.2.2.2.2.2.2.2.2.2.2.2.2.2.2.1,x.2.2.2.2.2.2.2.2.2.2.2.2.2.2.2.2.1,x.2.2.2.2.2.2.2.2.2.2.2.2.2.2.2.2.2.1,x.2.2.2.2.2.2.2.2.2.2.2.2.2.2.2.2.2.2,to)=some (bif YV x to then(x.1,x.2.1,x.2.2.1,x.2.2.2.1,x.2.2.2.2.1,x.2.2.2.2.2.1,x.2.2.2.2.2.2.1,x.2.2.2.2.2.2.2.1,x.2.2.2.2.2.2.2.2.1,x.2.2.2.2.2.2.2.2.2.1,x.2.2.2.2.2.2.2.2.2.2.1,x.2.2.2.2.2.2.2.2.2.2.2.1,x.2.2.2.2.2.2.2.2.2.2.2.2.1+1,x.2.2.2.2.2.2.2.2.2.2.2.2.2.1,x.2.2.2.2.2.2.2.2.2.2.2.2.2.2.1++[(to,x.2.2.2.2.2.2.2.2.2.2.2.2.1+1,false,0)],x.2.2.2.2.2.2.2.2.2.2.2.2.2.2.2.1,x.2.2.2.2.2.2.2.2.2.2.2.2.2.2.2.2.1,x.2.2.2.2.2.2.2.2.2.2.2.2.2.2.2.2.2.1,x.2.2.2.2.2.2.2.2.2.2.2.2.2.2.2.2.2.2,(msg x 2 to (x.2.2.2.2.2.2.2.2.2.2.2.2.1+1)).1,(msg x 2 to (x.2.2.2.2.2.2.2.2.2.2.2.2.1+1)).2.1,(msg x 2 to (x.2.2.2.2.2.2.2.2.2.2.2.2.1+1)).2.2.1,(msg x 2 to (x.2.2.2.2.2.2.2.2.2.2.2.2.1+1)).2.2.2.1,(msg x 2 to (x.2.2.2.2.2.2.2.2.2.2.2.2.1+1)).2.2.2.2.1,x.2.2.2.2.1,x.2.2.2.2.2.1,(msg x 2 to (x.2.2.2.2.2.2.2.2.2.2.2.2.1+1)).2.2.2.2.2.2.2.1,(msg x 2 to (x.2.2.2.2.2.2.2.2.2.2.2.2.1+1)).2.2.2.2.2.2.2.2.1,(msg x 2 to (x.2.2.2.2.2.2.2.2.2.2.2.2.1+1)).2.2.2.2.2.2.2.2.2.1,(msg x 2 to (x.2.2.2.2.2.2.2.2.2.2.2.2.1+1)).2.2.2.2.2.2.2.2.2.2.1,(msg x 2 to (x.2.2.2.2.2.2.2.2.2.2.2.2.1+1)).2.2.2.2.2.2.2.2.2.2.2,true)else(x.1,x.2.1,x.2.2.1,x.2.2.2.1,x.2.2.2.2.1,x.2.2.2.2.2.1,x.2.2.2.2.2.2.1,x.2.2.2.2.2.2.2.1,x.2.2.2.2.2.2.2.2.1,x.2.2.2.2.2.2.2.2.2.1,x.2.2.2.2.2.2.2.2.2.2.1,x.2.2.2.2.2.2.2.2.2.2.2.1,x.2.2.2.2.2.2.2.2.2.2.2.2.1,x.2.2.2.2.2.2.2.2.2.2.2.2.2.1,x.2.2.2.2.2.2.2.2.2.2.2.2.2.2.1,x.2.2.2.2.2.2.2.2.2.2.2.2.2.2.2.1,x.2.2.2.2.2.2.2.2.2.2.2.2.2.2.2.2.1,x.2.2.2.2.2.2.2.2.2.2.2.2.2.2.2.2.2.1,x.2.2.2.2.2.2.2.2.2.2.2.2.2.2.2.2.2.2,0,0,0,0,0,[],0,[],[],[],[],[],false)):=by
 have hsm:=Xp h
 have hk:=XC h
 have hnm:=Q0.1 h.num
 have hro:=h.room
 have hc:=Qky h
 have hn:=QHb h
 have ht:Ki w (x.2.2.2.2.1,x.2.2.2.2.2.1)=some (x.2.2.2.2.1,x.2.2.2.2.2.1):=Qpm _ (Kc (x:=x) (by omega)).2.1
 apply QBK
 simp only[QpS,hc,hn,ht,QEc x to h,QsH x to false (by simp only[maxLen];omega),QQ0,QQ3,QQ2,YV]
 cases hp:zj x.1 x.2.1 to
 ·rfl
 ·by_cases hs:Xq (Xf to false 0 x.2.2.2.2.2.2.2.2.2.2.2.2.2.2.1)<0
  ·rw[df (show¬(0:Int)<=Xq (Xf to false 0 x.2.2.2.2.2.2.2.2.2.2.2.2.2.2.1) by omega),dt hs]
   by_cases hr:x.2.2.2.2.2.2.2.2.2.2.2.2.2.1<=((x.2.2.2.2.2.2.2.2.2.2.2.2.2.2.1.length:Nat):Int)
   ·rw[dt hr,dt (show((x.2.2.2.2.2.2.2.2.2.2.2.2.2.2.1.length:Nat):Int)=x.2.2.2.2.2.2.2.2.2.2.2.2.2.1 by omega)];rfl
   ·rw[df hr,df (show¬((x.2.2.2.2.2.2.2.2.2.2.2.2.2.2.1.length:Nat):Int)=x.2.2.2.2.2.2.2.2.2.2.2.2.2.1 by omega)]
    by_cases hm:x.2.2.2.2.2.2.2.2.2.2.2.2.1=100000
    ·rw[dt hm];rfl
    ·rw[df hm]
     have hcan:YV x to=true:=by simp only[YV,hp,dt hs,df hr,df hm];rfl
     have hmsg:ZT w (x.1,x.2.1,x.2.2.1,x.2.2.2.1,x.2.2.2.2.1,x.2.2.2.2.2.1,x.2.2.2.2.2.2.1,x.2.2.2.2.2.2.2.1,x.2.2.2.2.2.2.2.2.1,x.2.2.2.2.2.2.2.2.2.1,x.2.2.2.2.2.2.2.2.2.2.1,x.2.2.2.2.2.2.2.2.2.2.2.1,x.2.2.2.2.2.2.2.2.2.2.2.2.1+1,x.2.2.2.2.2.2.2.2.2.2.2.2.2.1,x.2.2.2.2.2.2.2.2.2.2.2.2.2.2.1++[(to,x.2.2.2.2.2.2.2.2.2.2.2.2.1+1,false,0)],x.2.2.2.2.2.2.2.2.2.2.2.2.2.2.2.1,x.2.2.2.2.2.2.2.2.2.2.2.2.2.2.2.2.1,x.2.2.2.2.2.2.2.2.2.2.2.2.2.2.2.2.2.1,x.2.2.2.2.2.2.2.2.2.2.2.2.2.2.2.2.2.2,2,to,x.2.2.2.2.2.2.2.2.2.2.2.2.1+1)=some (msg x 2 to (x.2.2.2.2.2.2.2.2.2.2.2.2.1+1)):=QgH (QI x to) (Qiv h hcan) 2 to (x.2.2.2.2.2.2.2.2.2.2.2.2.1+1)
     simp only[QQ3,QQ4,QQ1,QQ2,QRn,w64 (n:=x.2.2.2.2.2.2.2.2.2.2.2.2.1+1) (by omega) (by omega),hmsg,QQ0]
     rw[Qw (by simp;omega)];rfl
  ·rw[dt (show(0:Int)<=Xq (Xf to false 0 x.2.2.2.2.2.2.2.2.2.2.2.2.2.2.1) by omega),df hs];rfl
def QfI (m:QV):Bool:=Qoa m.1 m.2.1 m.2.2.1 m.2.2.2.1 m.2.2.2.2.1 m.2.2.2.2.2.1 m.2.2.2.2.2.2.1 m.2.2.2.2.2.2.2.1 m.2.2.2.2.2.2.2.2.1 m.2.2.2.2.2.2.2.2.2.1 m.2.2.2.2.2.2.2.2.2.2.1 m.2.2.2.2.2.2.2.2.2.2.2
def Qmr (m:QV):Prop:=smM m.2.2.2.2.2.1 m.2.2.2.2.2.2.2.1 m.2.2.2.2.2.2.2.2.1 m.2.2.2.2.2.2.2.2.2.1 m.2.2.2.2.2.2.2.2.2.2.1 m.2.2.2.2.2.2.2.2.2.2.2
structure MOk (m:QV):Prop where
 kind:inR m.1 0 5=true
 src:inR m.2.1 0 4=true
 dst:inR m.2.2.1 0 4=true
 two:m.2.1≠m.2.2.1
 lv:okL (-1) m.2.2.2.2.2.2.2.2.1=true
 vec:∀y∈m.2.2.2.2.2.2.2.1,inR y 0 100000=true
 num:inR m.2.2.2.1 0 100000=true
 hi:inR m.2.2.2.2.1 0 100000=true
 tree:Qgv (m.2.2.2.2.2.1,m.2.2.2.2.2.2.1)=true
 vl:((m.2.2.2.2.2.2.2.1.length:Nat):Int)<=5
 part:QK (m.2.2.2.2.2.2.2.2.2.1,m.2.2.2.2.2.2.2.2.2.2.1)=true
 marks:QR (-1) m.2.2.2.2.2.2.2.2.2.2.2=true
theorem mok {m:QV}(h:QfI m=true):MOk m:=by
 simp only[QfI,Qoa,QQ5,QRu,QRt,QY10,decide_eq_false_iff_not]at h
 obtain⟨⟨⟨⟨⟨⟨⟨⟨⟨⟨⟨h1,h2⟩,h3⟩,h4⟩,h5⟩,h6⟩,h7⟩,h8⟩,h9⟩,h10⟩,h11⟩,h12⟩:=h
 exact⟨h1,h2,h3,h4,h5,h6,h7,h8,h9,h10,h11,h12⟩
theorem QaE {l:List Qb}(h:QR (-1) l=true):l.length<=5:=by
 have:=yk _ _ h (by omega)
 rcases this with h|h
 ·omega
 ·rw[h];simp
structure Fit (x:Qa) (m:QV):Prop where
 ok:MOk m
 to:m.2.2.1=x.1
 src:m.2.1<x.2.1
 len:((m.2.2.2.2.2.2.2.1.length:Nat):Int)=x.2.1
theorem QC9 {g:ZL}(h:Yr g=true):0<=Xo g/\Xo g<=100000:=by
 have:=Qh8 h
 unfold Xo;rw[h]
 simp only[QQ1];omega
theorem QyA {v:List Int}{k n:Int}(h:∀y∈v,inR y 0 100000=true) (hn:n<=100000):∀y∈Zu v k n,inR y 0 100000=true:=by
 unfold Zu
 cases hk:inR k 0 ((v.length:Nat) - 1)
 ·exact h
 ·obtain⟨j,rfl,hj⟩:=YK hk
  intro y hy
  rcases QY35 hy with hy|rfl
  ·exact h y hy
  ·have:=Q0.1 (h _ (QRf hj))
   rw[Qf hj,Q0]
   unfold mxI;split<;>omega
theorem Qz5 (v:List Int) (k n:Int):(Zu v k n).length=v.length:=by
 unfold Zu;cases inR k 0 ((v.length:Nat) - 1)<;>simp
theorem QrO {v:List Int}{c k n:Int}(h:YR v c=true) (hn:n<=100000):YR (Zu v k n) c=true:=by
 have:=QgO h
 simp only[YR,QQ5,QRu,QRt,Qz5]at h⊢
 exact⟨h.1,QyA this.2 hn⟩
theorem QAr {v:List Int}{k n:Int}{j:Nat}(hne:k≠(j:Int)):(Zu v k n).getD j 0=v.getD j 0:=by
 unfold Zu
 cases hk:inR k 0 ((v.length:Nat) - 1)
 ·rfl
 ·obtain⟨i,rfl,hi⟩:=YK hk
  simp only[QQ1,QRb,List.getD]
  rw[List.getElem?_set_ne (by omega)]
def Qnu (x:Qa) (m:QV):Qa:=(x.1,x.2.1,x.2.2.1,x.2.2.2.1,x.2.2.2.2.1,x.2.2.2.2.2.1,x.2.2.2.2.2.2.1,x.2.2.2.2.2.2.2.1,x.2.2.2.2.2.2.2.2.1,x.2.2.2.2.2.2.2.2.2.1,Zu x.2.2.2.2.2.2.2.2.2.2.1 m.2.1 (mnI (rd1 0 m.2.2.2.2.2.2.2.1 x.1) (Xo (x.2.2.2.2.2.2.1,x.2.2.2.2.2.2.2.1,x.2.2.2.2.2.2.2.2.1))),KX x.2.2.2.2.2.2.2.2.2.2.2.1 m.2.1 m.2.2.2.2.2.2.2.2.2.2.2,x.2.2.2.2.2.2.2.2.2.2.2.2.1,x.2.2.2.2.2.2.2.2.2.2.2.2.2.1,x.2.2.2.2.2.2.2.2.2.2.2.2.2.2.1,x.2.2.2.2.2.2.2.2.2.2.2.2.2.2.2.1,x.2.2.2.2.2.2.2.2.2.2.2.2.2.2.2.2.1,x.2.2.2.2.2.2.2.2.2.2.2.2.2.2.2.2.2.1,x.2.2.2.2.2.2.2.2.2.2.2.2.2.2.2.2.2.2)
theorem Qn6 {x:Qa}(h:NOk x) {m:QV}(hf:Fit x m):NOk (Qnu x m) where
 n:=h.n
 id:=h.id
 st:=h.st
 tree:=h.tree
 log:=h.log
 got:=h.got
 ack:=QrO h.ack (by
  have:=QC9 h.log
  unfold mnI;split<;>omega)
 own:=h.own
 heard:=by
  refine QRt.2 fun y hy=>decide_eq_true ?_
  have ho:=QRt.1 h.heard
  have hy':y∈Zu x.2.2.2.2.2.2.2.2.2.2.1 m.2.1 (mnI (rd1 0 m.2.2.2.2.2.2.2.1 x.1) (Xo (x.2.2.2.2.2.2.1,x.2.2.2.2.2.2.2.1,x.2.2.2.2.2.2.2.2.1))):=hy
  show y<=Xo (x.2.2.2.2.2.2.1,x.2.2.2.2.2.2.2.1,x.2.2.2.2.2.2.2.2.1)
  unfold Zu at hy'
  cases hk:inR m.2.1 0 ((x.2.2.2.2.2.2.2.2.2.2.1.length:Nat) - 1)
  ·rw[hk]at hy';simpa using ho y hy'
  ·rw[hk]at hy'
   rcases QY35 hy' with hy'|rfl
   ·simpa using ho y hy'
   ·obtain⟨j,hj,hj2⟩:=YK hk
    have:=ho _ (QRf hj2)
    simp only[QRu]at this
    rw[hj,Qf hj2]
    unfold mxI mnI
    split<;>split<;>omega
 seen:=QeK h.seen _ _
 num:=h.num
 clock:=h.clock
 wait:=h.wait
 limit:=h.limit
 slots:=h.slots
 room:=h.room
 sess:=h.sess
 rlen:=h.rlen
 rises:=h.rises
theorem Qr3:QK ([],[])=true:=rfl
def heard (x:Qa) (m:QV):Qa:=take (Qnu x m) ([],[])
theorem yB {x:Qa}(h:NOk x) {m:QV}(hf:Fit x m):NOk (heard x m):=QoD (Qn6 h hf) Qr3
theorem Qm5 {x:Qa}(h:NOk x) {m:QV}(hf:Fit x m):∃j:Nat,x.1=(j:Int)/\j<m.2.2.2.2.2.2.2.1.length:=by
 have h1:=Q0.1 h.id
 have h2:=hf.len
 exact⟨(x.1).toNat,by omega,by omega⟩
set_option maxHeartbeats 1000000 in
theorem QdM (x:Qa) (h:NOk x) (m:QV) (hf:Fit x m):Zt w (x.1,x.2.1,x.2.2.1,x.2.2.2.1,x.2.2.2.2.1,x.2.2.2.2.2.1,x.2.2.2.2.2.2.1,x.2.2.2.2.2.2.2.1,x.2.2.2.2.2.2.2.2.1,x.2.2.2.2.2.2.2.2.2.1,x.2.2.2.2.2.2.2.2.2.2.1,x.2.2.2.2.2.2.2.2.2.2.2.1,x.2.2.2.2.2.2.2.2.2.2.2.2.1,x.2.2.2.2.2.2.2.2.2.2.2.2.2.1,x.2.2.2.2.2.2.2.2.2.2.2.2.2.2.1,x.2.2.2.2.2.2.2.2.2.2.2.2.2.2.2.1,x.2.2.2.2.2.2.2.2.2.2.2.2.2.2.2.2.1,x.2.2.2.2.2.2.2.2.2.2.2.2.2.2.2.2.2.1,x.2.2.2.2.2.2.2.2.2.2.2.2.2.2.2.2.2.2,m.1,m.2.1,m.2.2.1,m.2.2.2.1,m.2.2.2.2.1,m.2.2.2.2.2.1,m.2.2.2.2.2.2.1,m.2.2.2.2.2.2.2.1,m.2.2.2.2.2.2.2.2.1,m.2.2.2.2.2.2.2.2.2.1,m.2.2.2.2.2.2.2.2.2.2.1,m.2.2.2.2.2.2.2.2.2.2.2)=some (heard x m):=by
 have hk:=XC h
 have hl:=QaB h.log
 have hsm:=Xp h
 have hmk:=QaE hf.ok.marks
 obtain⟨j,hj,hj2⟩:=Qm5 h hf
 have hi:inb x.1 m.2.2.2.2.2.2.2.1.length=true:=by rw[hj];exact Qj hj2
 have hv:Jc w (x.2.2.2.2.2.2.2.2.2.2.1,m.2.1,mnI (rd1 0 m.2.2.2.2.2.2.2.1 x.1) (Xo (x.2.2.2.2.2.2.1,x.2.2.2.2.2.2.2.1,x.2.2.2.2.2.2.2.2.1)))=some (Zu x.2.2.2.2.2.2.2.2.2.2.1 m.2.1 (mnI (rd1 0 m.2.2.2.2.2.2.2.1 x.1) (Xo (x.2.2.2.2.2.2.1,x.2.2.2.2.2.2.2.1,x.2.2.2.2.2.2.2.2.1)))):=QrJ _ _ _ (by omega)
 have ht:KZ w (x.2.2.2.2.2.2.2.2.2.2.2.1,m.2.1,m.2.2.2.2.2.2.2.2.2.2.2)=some (KX x.2.2.2.2.2.2.2.2.2.2.2.1 m.2.1 m.2.2.2.2.2.2.2.2.2.2.2):=Qro _ _ _ (Kc (x:=x) (by omega)).2.2.2 (by simp only[maxLen];omega)
 have hT:=QBO (Qnu x m) (Qn6 h hf) ([],[]) Qr3
 simp only[Qnu]at hT
 apply Qpi
 simp only[Qb2,hi,QQ1,Qlx _ _ _ hl.2.1 hl.2.2,hv,ht,QQ0]
 rw[hT];rfl
set_option maxHeartbeats 1000000 in
theorem QmO (x:Qa) (h:NOk x) (m:QV) (hf:Fit x m):YP w (x.1,x.2.1,x.2.2.1,x.2.2.2.1,x.2.2.2.2.1,x.2.2.2.2.2.1,x.2.2.2.2.2.2.1,x.2.2.2.2.2.2.2.1,x.2.2.2.2.2.2.2.2.1,x.2.2.2.2.2.2.2.2.2.1,x.2.2.2.2.2.2.2.2.2.2.1,x.2.2.2.2.2.2.2.2.2.2.2.1,x.2.2.2.2.2.2.2.2.2.2.2.2.1,x.2.2.2.2.2.2.2.2.2.2.2.2.2.1,x.2.2.2.2.2.2.2.2.2.2.2.2.2.2.1,x.2.2.2.2.2.2.2.2.2.2.2.2.2.2.2.1,x.2.2.2.2.2.2.2.2.2.2.2.2.2.2.2.2.1,x.2.2.2.2.2.2.2.2.2.2.2.2.2.2.2.2.2.1,x.2.2.2.2.2.2.2.2.2.2.2.2.2.2.2.2.2.2,m.1,m.2.1,m.2.2.1,m.2.2.2.1,m.2.2.2.2.1,m.2.2.2.2.2.1,m.2.2.2.2.2.2.1,m.2.2.2.2.2.2.2.1,m.2.2.2.2.2.2.2.2.1,m.2.2.2.2.2.2.2.2.2.1,m.2.2.2.2.2.2.2.2.2.2.1,m.2.2.2.2.2.2.2.2.2.2.2)=some (heard x m):=by
 have hk:=XC h
 have hl:=QaB h.log
 have hsm:=Xp h
 have hmk:=QaE hf.ok.marks
 obtain⟨j,hj,hj2⟩:=Qm5 h hf
 have hc:=Qky h
 have hi:inb x.1 m.2.2.2.2.2.2.2.1.length=true:=by rw[hj];exact Qj hj2
 have hv:Jj w (x.2.2.2.2.2.2.2.2.2.2.1,m.2.1,mnI (rd1 0 m.2.2.2.2.2.2.2.1 x.1) (Xo (x.2.2.2.2.2.2.1,x.2.2.2.2.2.2.2.1,x.2.2.2.2.2.2.2.2.1)))=some (Zu x.2.2.2.2.2.2.2.2.2.2.1 m.2.1 (mnI (rd1 0 m.2.2.2.2.2.2.2.1 x.1) (Xo (x.2.2.2.2.2.2.1,x.2.2.2.2.2.2.2.1,x.2.2.2.2.2.2.2.2.1)))):=Qpu _ _ _ (by omega)
 have ht:K1 w (x.2.2.2.2.2.2.2.2.2.2.2.1,m.2.1,m.2.2.2.2.2.2.2.2.2.2.2)=some (KX x.2.2.2.2.2.2.2.2.2.2.2.1 m.2.1 m.2.2.2.2.2.2.2.2.2.2.2):=Qp8 _ _ _ (Kc (x:=x) (by omega)).2.2.2 (by simp only[maxLen];omega)
 have hT:=QuS (Qnu x m) (Qn6 h hf) ([],[]) Qr3
 simp only[Qnu]at hT
 apply Qsb
 simp only[Qhb,hc,hi,QQ1,Qia _ _ _ hl.2.1 hl.2.2,Qzb,hv,ht,QQ0]
 rw[hT];rfl
def brought (x:Qa) (m:QV):Qa:=((take (heard x m) (m.2.2.2.2.2.2.2.2.2.1,m.2.2.2.2.2.2.2.2.2.2.1)).1,(take (heard x m) (m.2.2.2.2.2.2.2.2.2.1,m.2.2.2.2.2.2.2.2.2.2.1)).2.1,(take (heard x m) (m.2.2.2.2.2.2.2.2.2.1,m.2.2.2.2.2.2.2.2.2.2.1)).2.2.1,(take (heard x m) (m.2.2.2.2.2.2.2.2.2.1,m.2.2.2.2.2.2.2.2.2.2.1)).2.2.2.1,(take (heard x m) (m.2.2.2.2.2.2.2.2.2.1,m.2.2.2.2.2.2.2.2.2.2.1)).2.2.2.2.1,(take (heard x m) (m.2.2.2.2.2.2.2.2.2.1,m.2.2.2.2.2.2.2.2.2.2.1)).2.2.2.2.2.1,(take (heard x m) (m.2.2.2.2.2.2.2.2.2.1,m.2.2.2.2.2.2.2.2.2.2.1)).2.2.2.2.2.2.1,(take (heard x m) (m.2.2.2.2.2.2.2.2.2.1,m.2.2.2.2.2.2.2.2.2.2.1)).2.2.2.2.2.2.2.1,(take (heard x m) (m.2.2.2.2.2.2.2.2.2.1,m.2.2.2.2.2.2.2.2.2.2.1)).2.2.2.2.2.2.2.2.1,Zu (take (heard x m) (m.2.2.2.2.2.2.2.2.2.1,m.2.2.2.2.2.2.2.2.2.2.1)).2.2.2.2.2.2.2.2.2.1 m.2.1 m.2.2.2.2.1,(take (heard x m) (m.2.2.2.2.2.2.2.2.2.1,m.2.2.2.2.2.2.2.2.2.2.1)).2.2.2.2.2.2.2.2.2.2.1,(take (heard x m) (m.2.2.2.2.2.2.2.2.2.1,m.2.2.2.2.2.2.2.2.2.2.1)).2.2.2.2.2.2.2.2.2.2.2.1,(take (heard x m) (m.2.2.2.2.2.2.2.2.2.1,m.2.2.2.2.2.2.2.2.2.2.1)).2.2.2.2.2.2.2.2.2.2.2.2.1,(take (heard x m) (m.2.2.2.2.2.2.2.2.2.1,m.2.2.2.2.2.2.2.2.2.2.1)).2.2.2.2.2.2.2.2.2.2.2.2.2.1,(take (heard x m) (m.2.2.2.2.2.2.2.2.2.1,m.2.2.2.2.2.2.2.2.2.2.1)).2.2.2.2.2.2.2.2.2.2.2.2.2.2.1,(take (heard x m) (m.2.2.2.2.2.2.2.2.2.1,m.2.2.2.2.2.2.2.2.2.2.1)).2.2.2.2.2.2.2.2.2.2.2.2.2.2.2.1,(take (heard x m) (m.2.2.2.2.2.2.2.2.2.1,m.2.2.2.2.2.2.2.2.2.2.1)).2.2.2.2.2.2.2.2.2.2.2.2.2.2.2.2.1,(take (heard x m) (m.2.2.2.2.2.2.2.2.2.1,m.2.2.2.2.2.2.2.2.2.2.1)).2.2.2.2.2.2.2.2.2.2.2.2.2.2.2.2.2.1,(take (heard x m) (m.2.2.2.2.2.2.2.2.2.1,m.2.2.2.2.2.2.2.2.2.2.1)).2.2.2.2.2.2.2.2.2.2.2.2.2.2.2.2.2.2)
theorem ZR {x:Qa}(h:NOk x) {m:QV}(hf:Fit x m):NOk (brought x m):=by
 have hb:NOk (take (heard x m) (m.2.2.2.2.2.2.2.2.2.1,m.2.2.2.2.2.2.2.2.2.2.1)):=QoD (yB h hf) hf.ok.part
 have h1:=Q0.1 h.id
 have hne:m.2.1≠(((x.1).toNat:Nat):Int):=by
  have:=hf.ok.two
  have:=hf.to
  omega
 exact {
  n:=hb.n
  id:=hb.id
  st:=hb.st
  tree:=hb.tree
  log:=hb.log
  got:=QrO hb.got (Q0.1 hf.ok.hi).2
  ack:=hb.ack
  own:=(QAr hne).trans hb.own
  heard:=hb.heard
  seen:=hb.seen
  num:=hb.num
  clock:=hb.clock
  wait:=hb.wait
  limit:=hb.limit
  slots:=hb.slots
  room:=hb.room
  sess:=hb.sess
  rlen:=hb.rlen
  rises:=hb.rises}
set_option maxHeartbeats 1000000 in
theorem Qpk (x:Qa) (h:NOk x) (m:QV) (hf:Fit x m):Vk w (x.1,x.2.1,x.2.2.1,x.2.2.2.1,x.2.2.2.2.1,x.2.2.2.2.2.1,x.2.2.2.2.2.2.1,x.2.2.2.2.2.2.2.1,x.2.2.2.2.2.2.2.2.1,x.2.2.2.2.2.2.2.2.2.1,x.2.2.2.2.2.2.2.2.2.2.1,x.2.2.2.2.2.2.2.2.2.2.2.1,x.2.2.2.2.2.2.2.2.2.2.2.2.1,x.2.2.2.2.2.2.2.2.2.2.2.2.2.1,x.2.2.2.2.2.2.2.2.2.2.2.2.2.2.1,x.2.2.2.2.2.2.2.2.2.2.2.2.2.2.2.1,x.2.2.2.2.2.2.2.2.2.2.2.2.2.2.2.2.1,x.2.2.2.2.2.2.2.2.2.2.2.2.2.2.2.2.2.1,x.2.2.2.2.2.2.2.2.2.2.2.2.2.2.2.2.2.2,m.1,m.2.1,m.2.2.1,m.2.2.2.1,m.2.2.2.2.1,m.2.2.2.2.2.1,m.2.2.2.2.2.2.1,m.2.2.2.2.2.2.2.1,m.2.2.2.2.2.2.2.2.1,m.2.2.2.2.2.2.2.2.2.1,m.2.2.2.2.2.2.2.2.2.2.1,m.2.2.2.2.2.2.2.2.2.2.2)=some (brought x m):=by
 have hT:=QBO (heard x m) (yB h hf) (m.2.2.2.2.2.2.2.2.2.1,m.2.2.2.2.2.2.2.2.2.2.1) hf.ok.part
 have hk:=XC (QoD (yB h hf) hf.ok.part)
 apply QwC
 simp only[Qmb,QdM x h m hf,hT,QrJ (take (heard x m) (m.2.2.2.2.2.2.2.2.2.1,m.2.2.2.2.2.2.2.2.2.2.1)).2.2.2.2.2.2.2.2.2.1 _ _ (by omega),QQ0,brought]
set_option maxHeartbeats 1000000 in
theorem Qg1 (x:Qa) (h:NOk x) (m:QV) (hf:Fit x m):J6 w (x.1,x.2.1,x.2.2.1,x.2.2.2.1,x.2.2.2.2.1,x.2.2.2.2.2.1,x.2.2.2.2.2.2.1,x.2.2.2.2.2.2.2.1,x.2.2.2.2.2.2.2.2.1,x.2.2.2.2.2.2.2.2.2.1,x.2.2.2.2.2.2.2.2.2.2.1,x.2.2.2.2.2.2.2.2.2.2.2.1,x.2.2.2.2.2.2.2.2.2.2.2.2.1,x.2.2.2.2.2.2.2.2.2.2.2.2.2.1,x.2.2.2.2.2.2.2.2.2.2.2.2.2.2.1,x.2.2.2.2.2.2.2.2.2.2.2.2.2.2.2.1,x.2.2.2.2.2.2.2.2.2.2.2.2.2.2.2.2.1,x.2.2.2.2.2.2.2.2.2.2.2.2.2.2.2.2.2.1,x.2.2.2.2.2.2.2.2.2.2.2.2.2.2.2.2.2.2,m.1,m.2.1,m.2.2.1,m.2.2.2.1,m.2.2.2.2.1,m.2.2.2.2.2.1,m.2.2.2.2.2.2.1,m.2.2.2.2.2.2.2.1,m.2.2.2.2.2.2.2.2.1,m.2.2.2.2.2.2.2.2.2.1,m.2.2.2.2.2.2.2.2.2.2.1,m.2.2.2.2.2.2.2.2.2.2.2)=some (brought x m):=by
 have hT:=QuS (heard x m) (yB h hf) (m.2.2.2.2.2.2.2.2.2.1,m.2.2.2.2.2.2.2.2.2.2.1) hf.ok.part
 have hk:=XC (QoD (yB h hf) hf.ok.part)
 apply Qpn
 simp only[Qds,QmO x h m hf,hT,Qpu (take (heard x m) (m.2.2.2.2.2.2.2.2.2.1,m.2.2.2.2.2.2.2.2.2.2.1)).2.2.2.2.2.2.2.2.2.1 _ _ (by omega),QQ0,brought]
def Km (x:Qa) (m:QV) (b:Bool):Int:=Xq (Xf m.2.1 b 0 x.2.2.2.2.2.2.2.2.2.2.2.2.2.2.1)
def find (x:Qa) (m:QV) (b:Bool):Int:=bif decide (Km x m b<0)then -1 else(bif decide ((rd1 XX x.2.2.2.2.2.2.2.2.2.2.2.2.2.2.1 (Km x m b)).2.1=m.2.2.2.1)then Km x m b else -1)
def yj (x:Qa) (l:List Qy):Qa:=(x.1,x.2.1,x.2.2.1,x.2.2.2.1,x.2.2.2.2.1,x.2.2.2.2.2.1,x.2.2.2.2.2.2.1,x.2.2.2.2.2.2.2.1,x.2.2.2.2.2.2.2.2.1,x.2.2.2.2.2.2.2.2.2.1,x.2.2.2.2.2.2.2.2.2.2.1,x.2.2.2.2.2.2.2.2.2.2.2.1,x.2.2.2.2.2.2.2.2.2.2.2.2.1,x.2.2.2.2.2.2.2.2.2.2.2.2.2.1,l,x.2.2.2.2.2.2.2.2.2.2.2.2.2.2.2.1,x.2.2.2.2.2.2.2.2.2.2.2.2.2.2.2.2.1,x.2.2.2.2.2.2.2.2.2.2.2.2.2.2.2.2.2.1,x.2.2.2.2.2.2.2.2.2.2.2.2.2.2.2.2.2.2)
def Ql8 (l:List Qy) (k:Int):List Qy:=l.take k.toNat++l.drop (k.toNat+1)
def gone (x:Qa) (k:Int):Qa:=yj x (Ql8 x.2.2.2.2.2.2.2.2.2.2.2.2.2.2.1 k)
theorem QjT {x:Qa}(h:NOk x) {l:List Qy}(h1:((l.length:Nat):Int)<=x.2.2.2.2.2.2.2.2.2.2.2.2.2.1) (h2:X0 x.1 x.2.1 x.2.2.2.2.2.2.2.2.2.2.2.2.2.2.2.1 [] l=true):NOk (yj x l) where
 n:=h.n
 id:=h.id
 st:=h.st
 tree:=h.tree
 log:=h.log
 got:=h.got
 ack:=h.ack
 own:=h.own
 heard:=h.heard
 seen:=h.seen
 num:=h.num
 clock:=h.clock
 wait:=h.wait
 limit:=h.limit
 slots:=h.slots
 rlen:=h.rlen
 rises:=h.rises
 room:=h1
 sess:=h2
theorem QEA (l:List Qy) (k:Int):(Ql8 l k).length<=l.length:=by
 simp only[Ql8,QRj,QY30,QY28];omega
theorem qm {x:Qa}(h:NOk x) (k:Int):NOk (gone x k):=QjT h (by have:=QEA x.2.2.2.2.2.2.2.2.2.2.2.2.2.2.1 k;have:=h.room;omega) (QCw h.sess _)
theorem QCk (p:Int) (b:Bool):(off:Nat)->(l:List Qy)->Xq (Xf p b off l)<0->Xq (Xf p b off l)= -1
 |_,[],_=>rfl
 |off,y::l,h=>by
  rw[Xf]at h⊢
  cases hk:decide (y.1=p)&&(y.2.2.1==b)
  ·rw[hk]at h;exact QCk p b (off+1) l h
  ·rw[hk]at h;simp[Xq]at h;omega
theorem QtX (x:Qa) (m:QV) (b:Bool):(Xq (Xf m.2.1 b 0 x.2.2.2.2.2.2.2.2.2.2.2.2.2.2.1)<0/\Xq (Xf m.2.1 b 0 x.2.2.2.2.2.2.2.2.2.2.2.2.2.2.1)= -1/\find x m b= -1)\/∃i:Nat,∃hi:i<x.2.2.2.2.2.2.2.2.2.2.2.2.2.2.1.length,Xq (Xf m.2.1 b 0 x.2.2.2.2.2.2.2.2.2.2.2.2.2.2.1)=(i:Int)/\((((x.2.2.2.2.2.2.2.2.2.2.2.2.2.2.1)[i].2.1=m.2.2.2.1)/\find x m b=(i:Int))\/((¬(x.2.2.2.2.2.2.2.2.2.2.2.2.2.2.1)[i].2.1=m.2.2.2.1)/\find x m b= -1)):=by
 unfold find Km
 by_cases hs:Xq (Xf m.2.1 b 0 x.2.2.2.2.2.2.2.2.2.2.2.2.2.2.1)<0
 ·exact .inl ⟨hs,QCk _ _ _ _ hs,by rw[dt hs];rfl⟩
 ·obtain⟨i,e,hi,_⟩:=Qgo _ _ _ _ hs
  rw[QRo]at e
  refine .inr ⟨i,hi,e, ?_⟩
  rw[df hs,e,Qf hi]
  by_cases hd:(x.2.2.2.2.2.2.2.2.2.2.2.2.2.2.1)[i].2.1=m.2.2.2.1
  ·exact .inl ⟨hd,by rw[dt hd];rfl⟩
  ·exact .inr ⟨hd,by rw[df hd];rfl⟩
theorem QrU {x:Qa}{m:QV}{b:Bool}(h:¬find x m b<0):∃i:Nat,find x m b=(i:Int)/\i<x.2.2.2.2.2.2.2.2.2.2.2.2.2.2.1.length:=by
 unfold find at h⊢
 by_cases hs:Km x m b<0
 ·rw[dt hs]at h;simp at h
 ·rw[df hs]at h⊢
  obtain⟨i,e,hi,_⟩:=Qgo _ _ _ _ hs
  cases hd:decide ((rd1 XX x.2.2.2.2.2.2.2.2.2.2.2.2.2.2.1 (Km x m b)).2.1=m.2.2.2.1)
  ·rw[hd]at h;simp at h
  ·exact⟨i,by simpa[Km]using e,hi⟩
set_option maxHeartbeats 1000000 in
theorem Qoy (x:Qa) (h:NOk x) (m:QV) (b:Bool):xf w (x.1,x.2.1,x.2.2.1,x.2.2.2.1,x.2.2.2.2.1,x.2.2.2.2.2.1,x.2.2.2.2.2.2.1,x.2.2.2.2.2.2.2.1,x.2.2.2.2.2.2.2.2.1,x.2.2.2.2.2.2.2.2.2.1,x.2.2.2.2.2.2.2.2.2.2.1,x.2.2.2.2.2.2.2.2.2.2.2.1,x.2.2.2.2.2.2.2.2.2.2.2.2.1,x.2.2.2.2.2.2.2.2.2.2.2.2.2.1,x.2.2.2.2.2.2.2.2.2.2.2.2.2.2.1,x.2.2.2.2.2.2.2.2.2.2.2.2.2.2.2.1,x.2.2.2.2.2.2.2.2.2.2.2.2.2.2.2.2.1,x.2.2.2.2.2.2.2.2.2.2.2.2.2.2.2.2.2.1,x.2.2.2.2.2.2.2.2.2.2.2.2.2.2.2.2.2.2,m.1,m.2.1,m.2.2.1,m.2.2.2.1,m.2.2.2.2.1,m.2.2.2.2.2.1,m.2.2.2.2.2.2.1,m.2.2.2.2.2.2.2.1,m.2.2.2.2.2.2.2.2.1,m.2.2.2.2.2.2.2.2.2.1,m.2.2.2.2.2.2.2.2.2.2.1,m.2.2.2.2.2.2.2.2.2.2.2,b)=some (bif decide (find x m b<0)then(x.1,x.2.1,x.2.2.1,x.2.2.2.1,x.2.2.2.2.1,x.2.2.2.2.2.1,x.2.2.2.2.2.2.1,x.2.2.2.2.2.2.2.1,x.2.2.2.2.2.2.2.2.1,x.2.2.2.2.2.2.2.2.2.1,x.2.2.2.2.2.2.2.2.2.2.1,x.2.2.2.2.2.2.2.2.2.2.2.1,x.2.2.2.2.2.2.2.2.2.2.2.2.1,x.2.2.2.2.2.2.2.2.2.2.2.2.2.1,x.2.2.2.2.2.2.2.2.2.2.2.2.2.2.1,x.2.2.2.2.2.2.2.2.2.2.2.2.2.2.2.1,x.2.2.2.2.2.2.2.2.2.2.2.2.2.2.2.2.1,x.2.2.2.2.2.2.2.2.2.2.2.2.2.2.2.2.2.1,x.2.2.2.2.2.2.2.2.2.2.2.2.2.2.2.2.2.2,false)else(x.1,x.2.1,x.2.2.1,x.2.2.2.1,x.2.2.2.2.1,x.2.2.2.2.2.1,x.2.2.2.2.2.2.1,x.2.2.2.2.2.2.2.1,x.2.2.2.2.2.2.2.2.1,x.2.2.2.2.2.2.2.2.2.1,x.2.2.2.2.2.2.2.2.2.2.1,x.2.2.2.2.2.2.2.2.2.2.2.1,x.2.2.2.2.2.2.2.2.2.2.2.2.1,x.2.2.2.2.2.2.2.2.2.2.2.2.2.1,Ql8 x.2.2.2.2.2.2.2.2.2.2.2.2.2.2.1 (find x m b),x.2.2.2.2.2.2.2.2.2.2.2.2.2.2.2.1,x.2.2.2.2.2.2.2.2.2.2.2.2.2.2.2.2.1,x.2.2.2.2.2.2.2.2.2.2.2.2.2.2.2.2.2.1,x.2.2.2.2.2.2.2.2.2.2.2.2.2.2.2.2.2.2,true)):=by
 have hk:=XC h
 apply Qum
 simp only[Qka,Qyz x m.2.1 b (by simp only[maxLen];omega),QQ0]
 rcases QtX x m b with⟨hs,he,hf⟩|⟨i,hi,e,⟨hd,hf⟩|⟨hd,hf⟩⟩
 ·rw[hf,he];rfl
 ·rw[hf,e,df (show¬(i:Int)<0 by omega)]
  simp only[QQ2,Qj hi,QQ1,Qf hi,dt hd,QQ3]
  rw[w64 (n:=(i:Int)+1) (by omega) (by omega),Qsn x.2.2.2.2.2.2.2.2.2.2.2.2.2.2.1 ((i:Int)+1) (by omega) (by omega)]
  simp only[dt (show(0:Int)<=0/\0<=(i:Int)/\(i:Int)<=((x.2.2.2.2.2.2.2.2.2.2.2.2.2.2.1.length:Nat):Int) by omega),dt (show(0:Int)<=(i:Int)+1/\(i:Int)+1<=((x.2.2.2.2.2.2.2.2.2.2.2.2.2.2.1.length:Nat):Int)/\((x.2.2.2.2.2.2.2.2.2.2.2.2.2.2.1.length:Nat):Int)<=((x.2.2.2.2.2.2.2.2.2.2.2.2.2.2.1.length:Nat):Int) by omega),Int.sub_zero,QRb,Int.toNat_zero,QRg,QY9,QRe,QRo,QQ1]
  rw[Qw (by rw[QY30];omega),Qw (by rw[QY30,QY28];omega)]
  simp only[QQ1,Ql8,QRb]
  rw[show((i:Int)+1).toNat=i+1 by omega]
 ·rw[hf,e,df (show¬(i:Int)<0 by omega)]
  simp only[QQ2,Qj hi,QQ1,Qf hi,df hd,QQ4,dt (show(-1:Int)<0 by omega)]
set_option maxHeartbeats 1000000 in
theorem QnX (x:Qa) (h:NOk x) (m:QV) (b:Bool):Qbj w (x.1,x.2.1,x.2.2.1,x.2.2.2.1,x.2.2.2.2.1,x.2.2.2.2.2.1,x.2.2.2.2.2.2.1,x.2.2.2.2.2.2.2.1,x.2.2.2.2.2.2.2.2.1,x.2.2.2.2.2.2.2.2.2.1,x.2.2.2.2.2.2.2.2.2.2.1,x.2.2.2.2.2.2.2.2.2.2.2.1,x.2.2.2.2.2.2.2.2.2.2.2.2.1,x.2.2.2.2.2.2.2.2.2.2.2.2.2.1,x.2.2.2.2.2.2.2.2.2.2.2.2.2.2.1,x.2.2.2.2.2.2.2.2.2.2.2.2.2.2.2.1,x.2.2.2.2.2.2.2.2.2.2.2.2.2.2.2.2.1,x.2.2.2.2.2.2.2.2.2.2.2.2.2.2.2.2.2.1,x.2.2.2.2.2.2.2.2.2.2.2.2.2.2.2.2.2.2,m.1,m.2.1,m.2.2.1,m.2.2.2.1,m.2.2.2.2.1,m.2.2.2.2.2.1,m.2.2.2.2.2.2.1,m.2.2.2.2.2.2.2.1,m.2.2.2.2.2.2.2.2.1,m.2.2.2.2.2.2.2.2.2.1,m.2.2.2.2.2.2.2.2.2.2.1,m.2.2.2.2.2.2.2.2.2.2.2,b)=some (find x m b):=by
 have hk:=XC h
 apply QtI
 simp only[Qkm,QsH x m.2.1 b (by simp only[maxLen];omega),QQ0]
 rcases QtX x m b with⟨hs,he,hf⟩|⟨i,hi,e,⟨hd,hf⟩|⟨hd,hf⟩⟩
 ·rw[hf,he];rfl
 ·rw[hf,e,dt (show(0:Int)<=(i:Int) by omega)]
  simp only[Qj hi,QQ1,Qf hi,dt hd,QQ3,QQ2]
 ·rw[hf,e,dt (show(0:Int)<=(i:Int) by omega)]
  simp only[Qj hi,QQ1,Qf hi,df hd,QQ4]
theorem QoU (x:Qa) (h:NOk x) (i:Nat) (hi:i<x.2.2.2.2.2.2.2.2.2.2.2.2.2.2.1.length):VX w (x.1,x.2.1,x.2.2.1,x.2.2.2.1,x.2.2.2.2.1,x.2.2.2.2.2.1,x.2.2.2.2.2.2.1,x.2.2.2.2.2.2.2.1,x.2.2.2.2.2.2.2.2.1,x.2.2.2.2.2.2.2.2.2.1,x.2.2.2.2.2.2.2.2.2.2.1,x.2.2.2.2.2.2.2.2.2.2.2.1,x.2.2.2.2.2.2.2.2.2.2.2.2.1,x.2.2.2.2.2.2.2.2.2.2.2.2.2.1,x.2.2.2.2.2.2.2.2.2.2.2.2.2.2.1,x.2.2.2.2.2.2.2.2.2.2.2.2.2.2.2.1,x.2.2.2.2.2.2.2.2.2.2.2.2.2.2.2.2.1,x.2.2.2.2.2.2.2.2.2.2.2.2.2.2.2.2.2.1,x.2.2.2.2.2.2.2.2.2.2.2.2.2.2.2.2.2.2,(i:Int))=some (gone x (i:Int)):=by
 have hk:=XC h
 have hsm:=Xp h
 have hc:=Qky h
 apply Qt2
 simp only[Qju,hc,QQ0,gone,yj]
 rw[w64 (n:=(i:Int)+1) (by omega) (by omega),Qsn x.2.2.2.2.2.2.2.2.2.2.2.2.2.2.1 ((i:Int)+1) (by omega) (by omega)]
 simp only[dt (show(0:Int)<=0/\0<=(i:Int)/\(i:Int)<=((x.2.2.2.2.2.2.2.2.2.2.2.2.2.2.1.length:Nat):Int) by omega),dt (show(0:Int)<=(i:Int)+1/\(i:Int)+1<=((x.2.2.2.2.2.2.2.2.2.2.2.2.2.2.1.length:Nat):Int)/\((x.2.2.2.2.2.2.2.2.2.2.2.2.2.2.1.length:Nat):Int)<=((x.2.2.2.2.2.2.2.2.2.2.2.2.2.2.1.length:Nat):Int) by omega),Int.sub_zero,QRb,Int.toNat_zero,QRg,QY9,QRe,QRo,QQ1]
 rw[Qw (by rw[QY30];omega),Qw (by rw[QY30,QY28];omega)]
 simp only[QQ1,Ql8,QRb]
 rw[show((i:Int)+1).toNat=i+1 by omega]
def vC (y:Qa) (lv:List Int) (seq:Int):Qk:=join (X3 (y.2.2.1,y.2.2.2.1) lv) ((ship y seq).1,(ship y seq).2.1)
theorem QAb {y:Qa}(h:NOk y) (lv:List Int) (seq:Int):QK (vC y lv seq)=true:=xG (QcR lv h.st) (QvP h seq)
theorem Quj (y:Qa) (h:NOk y) (lv:List Int) (hlv:lv.length<=maxLen) (m:QV) (hi:inb y.1 m.2.2.2.2.2.2.2.1.length=true):Kr w (y.1,y.2.1,y.2.2.1,y.2.2.2.1,y.2.2.2.2.1,y.2.2.2.2.2.1,y.2.2.2.2.2.2.1,y.2.2.2.2.2.2.2.1,y.2.2.2.2.2.2.2.2.1,y.2.2.2.2.2.2.2.2.2.1,y.2.2.2.2.2.2.2.2.2.2.1,y.2.2.2.2.2.2.2.2.2.2.2.1,y.2.2.2.2.2.2.2.2.2.2.2.2.1,y.2.2.2.2.2.2.2.2.2.2.2.2.2.1,y.2.2.2.2.2.2.2.2.2.2.2.2.2.2.1,y.2.2.2.2.2.2.2.2.2.2.2.2.2.2.2.1,y.2.2.2.2.2.2.2.2.2.2.2.2.2.2.2.2.1,y.2.2.2.2.2.2.2.2.2.2.2.2.2.2.2.2.2.1,y.2.2.2.2.2.2.2.2.2.2.2.2.2.2.2.2.2.2,lv,m.1,m.2.1,m.2.2.1,m.2.2.2.1,m.2.2.2.2.1,m.2.2.2.2.2.1,m.2.2.2.2.2.2.1,m.2.2.2.2.2.2.2.1,m.2.2.2.2.2.2.2.2.1,m.2.2.2.2.2.2.2.2.2.1,m.2.2.2.2.2.2.2.2.2.2.1,m.2.2.2.2.2.2.2.2.2.2.2)=some (vC y lv (rd1 0 m.2.2.2.2.2.2.2.1 y.1)):=by
 have hs:=ZB h.st
 have hsl:=QcR lv h.st
 have h1:yU w (y.2.2.1,y.2.2.2.1,lv)=some (X3 (y.2.2.1,y.2.2.2.1) lv):=by
  rw[Qz0 _ _ lv hlv hs.1 hs.2,h.st];rfl
 have hj:Zi w ((X3 (y.2.2.1,y.2.2.2.1) lv).1,(X3 (y.2.2.1,y.2.2.2.1) lv).2,(ship y (rd1 0 m.2.2.2.2.2.2.2.1 y.1)).1,(ship y (rd1 0 m.2.2.2.2.2.2.2.1 y.1)).2.1)=some (vC y lv (rd1 0 m.2.2.2.2.2.2.2.1 y.1)):=Qcc _ ((ship y (rd1 0 m.2.2.2.2.2.2.2.1 y.1)).1,(ship y (rd1 0 m.2.2.2.2.2.2.2.1 y.1)).2.1) (ZB hsl) (ZB (QvP h _))
 apply QtQ
 simp only[Qjy,hi,QQ1,QIq y h,h1,hj,QQ0]
theorem QtZ (y:Qa) (h:NOk y) (lv:List Int) (hlv:lv.length<=maxLen) (seq:Int):VS w (y.1,y.2.1,y.2.2.1,y.2.2.2.1,y.2.2.2.2.1,y.2.2.2.2.2.1,y.2.2.2.2.2.2.1,y.2.2.2.2.2.2.2.1,y.2.2.2.2.2.2.2.2.1,y.2.2.2.2.2.2.2.2.2.1,y.2.2.2.2.2.2.2.2.2.2.1,y.2.2.2.2.2.2.2.2.2.2.2.1,y.2.2.2.2.2.2.2.2.2.2.2.2.1,y.2.2.2.2.2.2.2.2.2.2.2.2.2.1,y.2.2.2.2.2.2.2.2.2.2.2.2.2.2.1,y.2.2.2.2.2.2.2.2.2.2.2.2.2.2.2.1,y.2.2.2.2.2.2.2.2.2.2.2.2.2.2.2.2.1,y.2.2.2.2.2.2.2.2.2.2.2.2.2.2.2.2.2.1,y.2.2.2.2.2.2.2.2.2.2.2.2.2.2.2.2.2.2,lv,seq)=some (vC y lv seq):=by
 have hs:=qo h.st
 have hsl:=QcR lv h.st
 have h1:qZ w (y.2.2.1,y.2.2.2.1,lv)=some (X3 (y.2.2.1,y.2.2.2.1) lv):=Qw9 _ _ lv hlv (by simp only at hs;omega) (by simp only at hs;omega)
 have hj:Yf w ((X3 (y.2.2.1,y.2.2.2.1) lv).1,(X3 (y.2.2.1,y.2.2.2.1) lv).2,(ship y seq).1,(ship y seq).2.1)=some (vC y lv seq):=Qmk _ ((ship y seq).1,(ship y seq).2.1) hsl (QvP h _)
 apply QuM
 simp only[QjZ,QDU y h,h1,hj,QQ0]
def qs (y:Qa) (m:QV):QV:=(3,y.1,m.2.1,m.2.2.2.1,Xo (y.2.2.2.2.2.2.1,y.2.2.2.2.2.2.2.1,y.2.2.2.2.2.2.2.2.1),y.2.2.2.2.1,y.2.2.2.2.2.1,y.2.2.2.2.2.2.2.2.2.1,differ y.2.2.2.2.1 y.2.2.2.2.2.1 m.2.2.2.2.2.1 m.2.2.2.2.2.2.1,(vC y (differ y.2.2.2.2.1 y.2.2.2.2.2.1 m.2.2.2.2.2.1 m.2.2.2.2.2.2.1) (rd1 0 m.2.2.2.2.2.2.2.1 y.1)).1,(vC y (differ y.2.2.2.2.1 y.2.2.2.2.2.1 m.2.2.2.2.2.1 m.2.2.2.2.2.2.1) (rd1 0 m.2.2.2.2.2.2.2.1 y.1)).2,marksOf (y.2.2.1,y.2.2.2.1))
def Qap (y:Qa) (m:QV):QV:=(4,y.1,m.2.1,m.2.2.2.1,Xo (y.2.2.2.2.2.2.1,y.2.2.2.2.2.2.2.1,y.2.2.2.2.2.2.2.2.1),[],0,y.2.2.2.2.2.2.2.2.2.1,m.2.2.2.2.2.2.2.2.1,(vC y m.2.2.2.2.2.2.2.2.1 (rd1 0 m.2.2.2.2.2.2.2.1 y.1)).1,(vC y m.2.2.2.2.2.2.2.2.1 (rd1 0 m.2.2.2.2.2.2.2.1 y.1)).2,marksOf (y.2.2.1,y.2.2.2.1))
theorem Qoi (a:List Int) (ra:Int) (b:List Int) (rb:Int):(differ a ra b rb).length<=4:=by
 have h:∀i,(Qjj a b i).length<=1:=fun i=>by unfold Qjj;cases(decide (((a.length:Nat):Int)=4)&&decide (((b.length:Nat):Int)=4)&&decide (rd1 0 a (i:Int)=rd1 0 b (i:Int)))<;>simp
 unfold differ
 cases decide (ra=rb)
 ·have h0:=h 0
  have h1:=h 1
  have h2:=h 2
  have h3:=h 3
  simp only[QQ2,List.range',QY22,List.flatMap_nil,QRj,QY9,QRo,Nat.reduceAdd];omega
 ·simp
theorem Qye {y:Qa}(h:NOk y):y.2.2.2.2.1.length=4:=by
 have:=h.tree
 rw[X1,h.st]at this
 have:=congrArg (fun z:X5=>z.1.length) this
 simpa[leaves]using this
theorem Qz3 {m:QV}(h:MOk m):m.2.2.2.2.2.2.2.2.1.length<=4:=by
 rcases QvU _ _ h.lv (by omega)with h|h
 ·omega
 ·rw[h];simp
theorem Qyn {a b c d e f:Nat}(h:a<=5/\b<=5/\c<=5/\d<=5/\e<=5/\f<=5):a<=maxLen/\b<=maxLen/\c<=maxLen/\d<=maxLen/\e<=maxLen/\f<=maxLen:=by
 simp only[maxLen];omega
theorem QEF {y:Qa}(h:NOk y) (k to num:Int):Qmr (msg y k to num):=by
 have h1:=XC h
 have h2:=QaE (jo (y.2.2.1,y.2.2.2.1))
 exact Qyn ⟨by simp[msg],by simp only[msg];omega,by simp[msg],by simp[msg],by simp[msg],by simp only[msg];omega⟩
theorem QBl {y:Qa}(h:NOk y) (m:QV):Qmr (qs y m):=by
 have h1:=XC h
 have h2:=QaE (jo (y.2.2.1,y.2.2.2.1))
 have h3:=Qye h
 have h4:=Qoi y.2.2.2.2.1 y.2.2.2.2.2.1 m.2.2.2.2.2.1 m.2.2.2.2.2.2.1
 have h5:=qo (QAb h (differ y.2.2.2.2.1 y.2.2.2.2.2.1 m.2.2.2.2.2.1 m.2.2.2.2.2.2.1) (rd1 0 m.2.2.2.2.2.2.2.1 y.1))
 exact Qyn ⟨by simp only[qs];omega,by simp only[qs];omega,by simp only[qs];omega,by simp only[qs];omega,by simp only[qs];omega,by simp only[qs];omega⟩
theorem QD0 {y:Qa}(h:NOk y) {m:QV}(hm:MOk m):Qmr (Qap y m):=by
 have h1:=XC h
 have h2:=QaE (jo (y.2.2.1,y.2.2.2.1))
 have h4:=Qz3 hm
 have h5:=qo (QAb h m.2.2.2.2.2.2.2.2.1 (rd1 0 m.2.2.2.2.2.2.2.1 y.1))
 exact Qyn ⟨by simp[Qap],by simp only[Qap];omega,by simp only[Qap];omega,by simp only[Qap];omega,by simp only[Qap];omega,by simp only[Qap];omega⟩
def zn (x:Qa) (m:QV):List Qy:=bif decide (0<=Km x m true)then x.2.2.2.2.2.2.2.2.2.2.2.2.2.2.1.set (Km x m true).toNat ((rd1 XX x.2.2.2.2.2.2.2.2.2.2.2.2.2.2.1 (Km x m true)).1,m.2.2.2.1,(rd1 XX x.2.2.2.2.2.2.2.2.2.2.2.2.2.2.1 (Km x m true)).2.2.1,0)else x.2.2.2.2.2.2.2.2.2.2.2.2.2.2.1++[(m.2.1,m.2.2.2.1,true,0)]
def X4 (x:Qa) (m:QV):Bool:= !decide (0<=Km x m true)&&decide (x.2.2.2.2.2.2.2.2.2.2.2.2.2.1<=((x.2.2.2.2.2.2.2.2.2.2.2.2.2.2.1.length:Nat):Int))
theorem Qxx (x:Qa) (m:QV):(∃i:Nat,∃hi:i<x.2.2.2.2.2.2.2.2.2.2.2.2.2.2.1.length,Xq (Xf m.2.1 true 0 x.2.2.2.2.2.2.2.2.2.2.2.2.2.2.1)=(i:Int)/\X4 x m=false/\zn x m=x.2.2.2.2.2.2.2.2.2.2.2.2.2.2.1.set i ((x.2.2.2.2.2.2.2.2.2.2.2.2.2.2.1)[i].1,m.2.2.2.1,(x.2.2.2.2.2.2.2.2.2.2.2.2.2.2.1)[i].2.2.1,0))\/(Xq (Xf m.2.1 true 0 x.2.2.2.2.2.2.2.2.2.2.2.2.2.2.1)<0/\x.2.2.2.2.2.2.2.2.2.2.2.2.2.1<=((x.2.2.2.2.2.2.2.2.2.2.2.2.2.2.1.length:Nat):Int)/\X4 x m=true)\/(Xq (Xf m.2.1 true 0 x.2.2.2.2.2.2.2.2.2.2.2.2.2.2.1)<0/\¬x.2.2.2.2.2.2.2.2.2.2.2.2.2.1<=((x.2.2.2.2.2.2.2.2.2.2.2.2.2.2.1.length:Nat):Int)/\X4 x m=false/\zn x m=x.2.2.2.2.2.2.2.2.2.2.2.2.2.2.1++[(m.2.1,m.2.2.2.1,true,0)]):=by
 unfold X4 zn Km
 by_cases hs:Xq (Xf m.2.1 true 0 x.2.2.2.2.2.2.2.2.2.2.2.2.2.2.1)<0
 ·rw[df (show¬0<=Xq (Xf m.2.1 true 0 x.2.2.2.2.2.2.2.2.2.2.2.2.2.2.1) by omega)]
  by_cases hf:x.2.2.2.2.2.2.2.2.2.2.2.2.2.1<=((x.2.2.2.2.2.2.2.2.2.2.2.2.2.2.1.length:Nat):Int)
  ·exact .inr (.inl ⟨hs,hf,by rw[dt hf];rfl⟩)
  ·exact .inr (.inr ⟨hs,hf,by rw[df hf];rfl,rfl⟩)
 ·obtain⟨i,e,hi,_⟩:=Qgo _ _ _ _ hs
  rw[QRo]at e
  refine .inl ⟨i,hi,e, ?_, ?_⟩
  ·rw[dt (show 0<=Xq (Xf m.2.1 true 0 x.2.2.2.2.2.2.2.2.2.2.2.2.2.2.1) by omega)];rfl
  ·rw[dt (show 0<=Xq (Xf m.2.1 true 0 x.2.2.2.2.2.2.2.2.2.2.2.2.2.2.1) by omega),e,Qf hi,QRb];rfl
def Qt (x:Qa) (m:QV):Qa:=heard (yj x (zn x m)) m
theorem QmK {x:Qa}(h:NOk x) {m:QV}(hf:Fit x m) (hc:X4 x m=false):NOk (yj x (zn x m)):=by
 have hw:=Q0.1 h.wait
 have hr:=h.room
 unfold X4 at hc
 unfold zn
 by_cases hs:0<=Km x m true
 ·rw[dt hs]
  obtain⟨i,e,hi,hki⟩:=Qgo _ _ _ _ (show¬Xq (Xf m.2.1 true 0 x.2.2.2.2.2.2.2.2.2.2.2.2.2.2.1)<0 by unfold Km at hs;omega)
  rw[QRo]at e
  have e':Km x m true=(i:Int):=e
  rw[e',Qf hi,QRb]
  refine QjT h (by simp only[QQ1,QY6];exact hr) (QFS h.sess hi ?_ rfl rfl)
  have ho:=((Vj _ _ _ _).1 h.sess).1 _ (QRf hi)
  simp only[Y1,QQ5]at ho⊢
  exact⟨⟨ho.1.1,hf.ok.num⟩,by rw[Q0];omega⟩
 ·rw[df hs]at hc⊢
  simp only[QQ4,QRd,decide_eq_false_iff_not]at hc
  refine QjT h (by simp only[QQ2,QRj,QY8,QY9];omega) (Qzm h.sess ?_ (by unfold Km at hs;simp only;omega))
  have h1:=Q0.1 hf.ok.src
  have h2:=hf.src
  have h3:=hf.ok.two
  have h4:=hf.to
  simp only[Y1,zj,QQ5,Q0,QY10,decide_eq_false_iff_not]
  have h5:=Q0.1 hf.ok.num
  refine⟨⟨⟨⟨h1.1,by omega⟩, ?_⟩,h5⟩,by omega⟩
  omega
theorem QyG {x:Qa}{m:QV}(hf:Fit x m) (l:List Qy):Fit (yj x l) m:=⟨hf.ok,hf.to,hf.src,hf.len⟩
theorem ym {x:Qa}(h:NOk x) {m:QV}(hf:Fit x m) (hc:X4 x m=false):NOk (Qt x m):=yB (QmK h hf hc) (QyG hf _)
set_option maxHeartbeats 2000000 in
theorem QxV (x:Qa) (h:NOk x) (m:QV) (hf:Fit x m):zS w (x.1,x.2.1,x.2.2.1,x.2.2.2.1,x.2.2.2.2.1,x.2.2.2.2.2.1,x.2.2.2.2.2.2.1,x.2.2.2.2.2.2.2.1,x.2.2.2.2.2.2.2.2.1,x.2.2.2.2.2.2.2.2.2.1,x.2.2.2.2.2.2.2.2.2.2.1,x.2.2.2.2.2.2.2.2.2.2.2.1,x.2.2.2.2.2.2.2.2.2.2.2.2.1,x.2.2.2.2.2.2.2.2.2.2.2.2.2.1,x.2.2.2.2.2.2.2.2.2.2.2.2.2.2.1,x.2.2.2.2.2.2.2.2.2.2.2.2.2.2.2.1,x.2.2.2.2.2.2.2.2.2.2.2.2.2.2.2.2.1,x.2.2.2.2.2.2.2.2.2.2.2.2.2.2.2.2.2.1,x.2.2.2.2.2.2.2.2.2.2.2.2.2.2.2.2.2.2,m.1,m.2.1,m.2.2.1,m.2.2.2.1,m.2.2.2.2.1,m.2.2.2.2.2.1,m.2.2.2.2.2.2.1,m.2.2.2.2.2.2.2.1,m.2.2.2.2.2.2.2.2.1,m.2.2.2.2.2.2.2.2.2.1,m.2.2.2.2.2.2.2.2.2.2.1,m.2.2.2.2.2.2.2.2.2.2.2)=some (bif X4 x m then(x.1,x.2.1,x.2.2.1,x.2.2.2.1,x.2.2.2.2.1,x.2.2.2.2.2.1,x.2.2.2.2.2.2.1,x.2.2.2.2.2.2.2.1,x.2.2.2.2.2.2.2.2.1,x.2.2.2.2.2.2.2.2.2.1,x.2.2.2.2.2.2.2.2.2.2.1,x.2.2.2.2.2.2.2.2.2.2.2.1,x.2.2.2.2.2.2.2.2.2.2.2.2.1,x.2.2.2.2.2.2.2.2.2.2.2.2.2.1,x.2.2.2.2.2.2.2.2.2.2.2.2.2.2.1,x.2.2.2.2.2.2.2.2.2.2.2.2.2.2.2.1,x.2.2.2.2.2.2.2.2.2.2.2.2.2.2.2.2.1,x.2.2.2.2.2.2.2.2.2.2.2.2.2.2.2.2.2.1,x.2.2.2.2.2.2.2.2.2.2.2.2.2.2.2.2.2.2,[msg x 5 m.2.1 m.2.2.2.1],3)else((Qt x m).1,(Qt x m).2.1,(Qt x m).2.2.1,(Qt x m).2.2.2.1,(Qt x m).2.2.2.2.1,(Qt x m).2.2.2.2.2.1,(Qt x m).2.2.2.2.2.2.1,(Qt x m).2.2.2.2.2.2.2.1,(Qt x m).2.2.2.2.2.2.2.2.1,(Qt x m).2.2.2.2.2.2.2.2.2.1,(Qt x m).2.2.2.2.2.2.2.2.2.2.1,(Qt x m).2.2.2.2.2.2.2.2.2.2.2.1,(Qt x m).2.2.2.2.2.2.2.2.2.2.2.2.1,(Qt x m).2.2.2.2.2.2.2.2.2.2.2.2.2.1,(Qt x m).2.2.2.2.2.2.2.2.2.2.2.2.2.2.1,(Qt x m).2.2.2.2.2.2.2.2.2.2.2.2.2.2.2.1,(Qt x m).2.2.2.2.2.2.2.2.2.2.2.2.2.2.2.2.1,(Qt x m).2.2.2.2.2.2.2.2.2.2.2.2.2.2.2.2.2.1,(Qt x m).2.2.2.2.2.2.2.2.2.2.2.2.2.2.2.2.2.2,[qs (Qt x m) m],0)):=by
 have hk:=XC h
 have hsm:=Xp h
 have hr:=h.room
 obtain⟨j,hj,hj2⟩:=Qm5 h hf
 have hi0:inb x.1 m.2.2.2.2.2.2.2.1.length=true:=by rw[hj];exact Qj hj2
 have hY:X4 x m=false->Zt w (x.1,x.2.1,x.2.2.1,x.2.2.2.1,x.2.2.2.2.1,x.2.2.2.2.2.1,x.2.2.2.2.2.2.1,x.2.2.2.2.2.2.2.1,x.2.2.2.2.2.2.2.2.1,x.2.2.2.2.2.2.2.2.2.1,x.2.2.2.2.2.2.2.2.2.2.1,x.2.2.2.2.2.2.2.2.2.2.2.1,x.2.2.2.2.2.2.2.2.2.2.2.2.1,x.2.2.2.2.2.2.2.2.2.2.2.2.2.1,zn x m,x.2.2.2.2.2.2.2.2.2.2.2.2.2.2.2.1,x.2.2.2.2.2.2.2.2.2.2.2.2.2.2.2.2.1,x.2.2.2.2.2.2.2.2.2.2.2.2.2.2.2.2.2.1,x.2.2.2.2.2.2.2.2.2.2.2.2.2.2.2.2.2.2,m.1,m.2.1,m.2.2.1,m.2.2.2.1,m.2.2.2.2.1,m.2.2.2.2.2.1,m.2.2.2.2.2.2.1,m.2.2.2.2.2.2.2.1,m.2.2.2.2.2.2.2.2.1,m.2.2.2.2.2.2.2.2.2.1,m.2.2.2.2.2.2.2.2.2.2.1,m.2.2.2.2.2.2.2.2.2.2.2)=some (Qt x m):=fun hc=>QdM (yj x (zn x m)) (QmK h hf hc) m (QyG hf _)
 have hm3:X4 x m=false->Zv w ((Qt x m).1,(Qt x m).2.1,(Qt x m).2.2.1,(Qt x m).2.2.2.1,(Qt x m).2.2.2.2.1,(Qt x m).2.2.2.2.2.1,(Qt x m).2.2.2.2.2.2.1,(Qt x m).2.2.2.2.2.2.2.1,(Qt x m).2.2.2.2.2.2.2.2.1,(Qt x m).2.2.2.2.2.2.2.2.2.1,(Qt x m).2.2.2.2.2.2.2.2.2.2.1,(Qt x m).2.2.2.2.2.2.2.2.2.2.2.1,(Qt x m).2.2.2.2.2.2.2.2.2.2.2.2.1,(Qt x m).2.2.2.2.2.2.2.2.2.2.2.2.2.1,(Qt x m).2.2.2.2.2.2.2.2.2.2.2.2.2.2.1,(Qt x m).2.2.2.2.2.2.2.2.2.2.2.2.2.2.2.1,(Qt x m).2.2.2.2.2.2.2.2.2.2.2.2.2.2.2.2.1,(Qt x m).2.2.2.2.2.2.2.2.2.2.2.2.2.2.2.2.2.1,(Qt x m).2.2.2.2.2.2.2.2.2.2.2.2.2.2.2.2.2.2,3,m.2.1,m.2.2.2.1)=some (msg (Qt x m) 3 m.2.1 m.2.2.2.1):=fun hc=>QbB (Qt x m) (ym h hf hc) 3 m.2.1 m.2.2.2.1
 have hct:X4 x m=false->ZY w ((Qt x m).2.2.2.2.1,(Qt x m).2.2.2.2.2.1)=some ((Qt x m).2.2.2.2.1,(Qt x m).2.2.2.2.2.1):=fun hc=>Qmx ((Qt x m).2.2.2.2.1,(Qt x m).2.2.2.2.2.1) (by have:=Qye (ym h hf hc);simp only[Zq,QS];omega)
 have hdl:=Qoi (Qt x m).2.2.2.2.1 (Qt x m).2.2.2.2.2.1 m.2.2.2.2.2.1 m.2.2.2.2.2.2.1
 have hpf:X4 x m=false->Kr w ((Qt x m).1,(Qt x m).2.1,(Qt x m).2.2.1,(Qt x m).2.2.2.1,(Qt x m).2.2.2.2.1,(Qt x m).2.2.2.2.2.1,(Qt x m).2.2.2.2.2.2.1,(Qt x m).2.2.2.2.2.2.2.1,(Qt x m).2.2.2.2.2.2.2.2.1,(Qt x m).2.2.2.2.2.2.2.2.2.1,(Qt x m).2.2.2.2.2.2.2.2.2.2.1,(Qt x m).2.2.2.2.2.2.2.2.2.2.2.1,(Qt x m).2.2.2.2.2.2.2.2.2.2.2.2.1,(Qt x m).2.2.2.2.2.2.2.2.2.2.2.2.2.1,(Qt x m).2.2.2.2.2.2.2.2.2.2.2.2.2.2.1,(Qt x m).2.2.2.2.2.2.2.2.2.2.2.2.2.2.2.1,(Qt x m).2.2.2.2.2.2.2.2.2.2.2.2.2.2.2.2.1,(Qt x m).2.2.2.2.2.2.2.2.2.2.2.2.2.2.2.2.2.1,(Qt x m).2.2.2.2.2.2.2.2.2.2.2.2.2.2.2.2.2.2,differ (Qt x m).2.2.2.2.1 (Qt x m).2.2.2.2.2.1 m.2.2.2.2.2.1 m.2.2.2.2.2.2.1,m.1,m.2.1,m.2.2.1,m.2.2.2.1,m.2.2.2.2.1,m.2.2.2.2.2.1,m.2.2.2.2.2.2.1,m.2.2.2.2.2.2.2.1,m.2.2.2.2.2.2.2.2.1,m.2.2.2.2.2.2.2.2.2.1,m.2.2.2.2.2.2.2.2.2.2.1,m.2.2.2.2.2.2.2.2.2.2.2)=some (vC (Qt x m) (differ (Qt x m).2.2.2.2.1 (Qt x m).2.2.2.2.2.1 m.2.2.2.2.2.1 m.2.2.2.2.2.2.1) (rd1 0 m.2.2.2.2.2.2.2.1 x.1)):=fun hc=>Quj (Qt x m) (ym h hf hc) _ (by simp only[maxLen];omega) m hi0
 apply Qp4
 simp only[QdB,Qyz x m.2.1 true (by simp only[maxLen];omega),QQ0]
 rcases Qxx x m with⟨i,hi,e,hc,hss⟩|⟨hs,hfl,hc⟩|⟨hs,hfl,hc,hss⟩
 ·have hY:=hY hc
  have hm3:=hm3 hc
  have hct:=hct hc
  have hpf:=hpf hc
  rw[hss]at hY
  have hs1:i<(x.2.2.2.2.2.2.2.2.2.2.2.2.2.2.1.set i ((x.2.2.2.2.2.2.2.2.2.2.2.2.2.2.1)[i].1,m.2.2.2.1,(x.2.2.2.2.2.2.2.2.2.2.2.2.2.2.1)[i].2.2)).length:=by simpa using hi
  have hr1:=Y6 (d:=XX) (v:=((x.2.2.2.2.2.2.2.2.2.2.2.2.2.2.1)[i].1,m.2.2.2.1,(x.2.2.2.2.2.2.2.2.2.2.2.2.2.2.1)[i].2.2)) hi
  rw[hc,e,dt (show(0:Int)<=(i:Int) by omega)]
  simp only[Qj hi,Qf hi,QRb,Qj hs1,QQ1,hr1,QY11,QQ2]
  rw[hY]
  simp only[QQ0,hm3,hct,Qxm,hpf,hi0,QQ1]
  rfl
 ·rw[hc,df (show¬(0:Int)<=Xq (Xf m.2.1 true 0 x.2.2.2.2.2.2.2.2.2.2.2.2.2.2.1) by omega)]
  rw[dt hfl]
  simp only[QQ1,QQ2,QbB x h,QQ0]
 ·have hY:=hY hc
  have hm3:=hm3 hc
  have hct:=hct hc
  have hpf:=hpf hc
  rw[hss]at hY
  rw[hc,df (show¬(0:Int)<=Xq (Xf m.2.1 true 0 x.2.2.2.2.2.2.2.2.2.2.2.2.2.2.1) by omega)]
  rw[df hfl]
  simp only[QQ1,QQ2]
  rw[Qw (by simp;omega),QQ1,hY]
  simp only[QQ0,hm3,hct,Qxm,hpf,hi0,QQ1]
  rfl
set_option maxHeartbeats 2000000 in
theorem QEz (x:Qa) (h:NOk x) (m:QV) (hf:Fit x m):QeO w (x.1,x.2.1,x.2.2.1,x.2.2.2.1,x.2.2.2.2.1,x.2.2.2.2.2.1,x.2.2.2.2.2.2.1,x.2.2.2.2.2.2.2.1,x.2.2.2.2.2.2.2.2.1,x.2.2.2.2.2.2.2.2.2.1,x.2.2.2.2.2.2.2.2.2.2.1,x.2.2.2.2.2.2.2.2.2.2.2.1,x.2.2.2.2.2.2.2.2.2.2.2.2.1,x.2.2.2.2.2.2.2.2.2.2.2.2.2.1,x.2.2.2.2.2.2.2.2.2.2.2.2.2.2.1,x.2.2.2.2.2.2.2.2.2.2.2.2.2.2.2.1,x.2.2.2.2.2.2.2.2.2.2.2.2.2.2.2.2.1,x.2.2.2.2.2.2.2.2.2.2.2.2.2.2.2.2.2.1,x.2.2.2.2.2.2.2.2.2.2.2.2.2.2.2.2.2.2,m.1,m.2.1,m.2.2.1,m.2.2.2.1,m.2.2.2.2.1,m.2.2.2.2.2.1,m.2.2.2.2.2.2.1,m.2.2.2.2.2.2.2.1,m.2.2.2.2.2.2.2.2.1,m.2.2.2.2.2.2.2.2.2.1,m.2.2.2.2.2.2.2.2.2.2.1,m.2.2.2.2.2.2.2.2.2.2.2)=some (bif X4 x m then(x.1,x.2.1,x.2.2.1,x.2.2.2.1,x.2.2.2.2.1,x.2.2.2.2.2.1,x.2.2.2.2.2.2.1,x.2.2.2.2.2.2.2.1,x.2.2.2.2.2.2.2.2.1,x.2.2.2.2.2.2.2.2.2.1,x.2.2.2.2.2.2.2.2.2.2.1,x.2.2.2.2.2.2.2.2.2.2.2.1,x.2.2.2.2.2.2.2.2.2.2.2.2.1,x.2.2.2.2.2.2.2.2.2.2.2.2.2.1,x.2.2.2.2.2.2.2.2.2.2.2.2.2.2.1,x.2.2.2.2.2.2.2.2.2.2.2.2.2.2.2.1,x.2.2.2.2.2.2.2.2.2.2.2.2.2.2.2.2.1,x.2.2.2.2.2.2.2.2.2.2.2.2.2.2.2.2.2.1,x.2.2.2.2.2.2.2.2.2.2.2.2.2.2.2.2.2.2,[msg x 5 m.2.1 m.2.2.2.1],3)else((Qt x m).1,(Qt x m).2.1,(Qt x m).2.2.1,(Qt x m).2.2.2.1,(Qt x m).2.2.2.2.1,(Qt x m).2.2.2.2.2.1,(Qt x m).2.2.2.2.2.2.1,(Qt x m).2.2.2.2.2.2.2.1,(Qt x m).2.2.2.2.2.2.2.2.1,(Qt x m).2.2.2.2.2.2.2.2.2.1,(Qt x m).2.2.2.2.2.2.2.2.2.2.1,(Qt x m).2.2.2.2.2.2.2.2.2.2.2.1,(Qt x m).2.2.2.2.2.2.2.2.2.2.2.2.1,(Qt x m).2.2.2.2.2.2.2.2.2.2.2.2.2.1,(Qt x m).2.2.2.2.2.2.2.2.2.2.2.2.2.2.1,(Qt x m).2.2.2.2.2.2.2.2.2.2.2.2.2.2.2.1,(Qt x m).2.2.2.2.2.2.2.2.2.2.2.2.2.2.2.2.1,(Qt x m).2.2.2.2.2.2.2.2.2.2.2.2.2.2.2.2.2.1,(Qt x m).2.2.2.2.2.2.2.2.2.2.2.2.2.2.2.2.2.2,[qs (Qt x m) m],0)):=by
 have hk:=XC h
 have hsm:=Xp h
 have hr:=h.room
 have hcx:=Qky h
 obtain⟨j,hj,hj2⟩:=Qm5 h hf
 have hi0:inb x.1 m.2.2.2.2.2.2.2.1.length=true:=by rw[hj];exact Qj hj2
 have hY:X4 x m=false->YP w (x.1,x.2.1,x.2.2.1,x.2.2.2.1,x.2.2.2.2.1,x.2.2.2.2.2.1,x.2.2.2.2.2.2.1,x.2.2.2.2.2.2.2.1,x.2.2.2.2.2.2.2.2.1,x.2.2.2.2.2.2.2.2.2.1,x.2.2.2.2.2.2.2.2.2.2.1,x.2.2.2.2.2.2.2.2.2.2.2.1,x.2.2.2.2.2.2.2.2.2.2.2.2.1,x.2.2.2.2.2.2.2.2.2.2.2.2.2.1,zn x m,x.2.2.2.2.2.2.2.2.2.2.2.2.2.2.2.1,x.2.2.2.2.2.2.2.2.2.2.2.2.2.2.2.2.1,x.2.2.2.2.2.2.2.2.2.2.2.2.2.2.2.2.2.1,x.2.2.2.2.2.2.2.2.2.2.2.2.2.2.2.2.2.2,m.1,m.2.1,m.2.2.1,m.2.2.2.1,m.2.2.2.2.1,m.2.2.2.2.2.1,m.2.2.2.2.2.2.1,m.2.2.2.2.2.2.2.1,m.2.2.2.2.2.2.2.2.1,m.2.2.2.2.2.2.2.2.2.1,m.2.2.2.2.2.2.2.2.2.2.1,m.2.2.2.2.2.2.2.2.2.2.2)=some (Qt x m):=fun hc=>QmO (yj x (zn x m)) (QmK h hf hc) m (QyG hf _)
 have hm3:X4 x m=false->ZT w ((Qt x m).1,(Qt x m).2.1,(Qt x m).2.2.1,(Qt x m).2.2.2.1,(Qt x m).2.2.2.2.1,(Qt x m).2.2.2.2.2.1,(Qt x m).2.2.2.2.2.2.1,(Qt x m).2.2.2.2.2.2.2.1,(Qt x m).2.2.2.2.2.2.2.2.1,(Qt x m).2.2.2.2.2.2.2.2.2.1,(Qt x m).2.2.2.2.2.2.2.2.2.2.1,(Qt x m).2.2.2.2.2.2.2.2.2.2.2.1,(Qt x m).2.2.2.2.2.2.2.2.2.2.2.2.1,(Qt x m).2.2.2.2.2.2.2.2.2.2.2.2.2.1,(Qt x m).2.2.2.2.2.2.2.2.2.2.2.2.2.2.1,(Qt x m).2.2.2.2.2.2.2.2.2.2.2.2.2.2.2.1,(Qt x m).2.2.2.2.2.2.2.2.2.2.2.2.2.2.2.2.1,(Qt x m).2.2.2.2.2.2.2.2.2.2.2.2.2.2.2.2.2.1,(Qt x m).2.2.2.2.2.2.2.2.2.2.2.2.2.2.2.2.2.2,3,m.2.1,m.2.2.2.1)=some (msg (Qt x m) 3 m.2.1 m.2.2.2.1):=fun hc=>QgH (Qt x m) (ym h hf hc) 3 m.2.1 m.2.2.2.1
 have hct:X4 x m=false->Ki w ((Qt x m).2.2.2.2.1,(Qt x m).2.2.2.2.2.1)=some ((Qt x m).2.2.2.2.1,(Qt x m).2.2.2.2.2.1):=fun hc=>Qpm ((Qt x m).2.2.2.2.1,(Qt x m).2.2.2.2.2.1) (by have:=Qye (ym h hf hc);simp only[Zq,QS];omega)
 have hdl:=Qoi (Qt x m).2.2.2.2.1 (Qt x m).2.2.2.2.2.1 m.2.2.2.2.2.1 m.2.2.2.2.2.2.1
 have hpf:X4 x m=false->VS w ((Qt x m).1,(Qt x m).2.1,(Qt x m).2.2.1,(Qt x m).2.2.2.1,(Qt x m).2.2.2.2.1,(Qt x m).2.2.2.2.2.1,(Qt x m).2.2.2.2.2.2.1,(Qt x m).2.2.2.2.2.2.2.1,(Qt x m).2.2.2.2.2.2.2.2.1,(Qt x m).2.2.2.2.2.2.2.2.2.1,(Qt x m).2.2.2.2.2.2.2.2.2.2.1,(Qt x m).2.2.2.2.2.2.2.2.2.2.2.1,(Qt x m).2.2.2.2.2.2.2.2.2.2.2.2.1,(Qt x m).2.2.2.2.2.2.2.2.2.2.2.2.2.1,(Qt x m).2.2.2.2.2.2.2.2.2.2.2.2.2.2.1,(Qt x m).2.2.2.2.2.2.2.2.2.2.2.2.2.2.2.1,(Qt x m).2.2.2.2.2.2.2.2.2.2.2.2.2.2.2.2.1,(Qt x m).2.2.2.2.2.2.2.2.2.2.2.2.2.2.2.2.2.1,(Qt x m).2.2.2.2.2.2.2.2.2.2.2.2.2.2.2.2.2.2,differ (Qt x m).2.2.2.2.1 (Qt x m).2.2.2.2.2.1 m.2.2.2.2.2.1 m.2.2.2.2.2.2.1,rd1 0 m.2.2.2.2.2.2.2.1 x.1)=some (vC (Qt x m) (differ (Qt x m).2.2.2.2.1 (Qt x m).2.2.2.2.2.1 m.2.2.2.2.2.1 m.2.2.2.2.2.2.1) (rd1 0 m.2.2.2.2.2.2.2.1 x.1)):=fun hc=>QtZ (Qt x m) (ym h hf hc) _ (by simp only[maxLen];omega) _
 apply Qwq
 simp only[QlK,QsH x m.2.1 true (by simp only[maxLen];omega),hcx,QQ0]
 rcases Qxx x m with⟨i,hi,e,hc,hss⟩|⟨hs,hfl,hc⟩|⟨hs,hfl,hc,hss⟩
 ·have hY:=hY hc
  have hm3:=hm3 hc
  have hct:=hct hc
  have hpf:=hpf hc
  rw[hss]at hY
  have hs1:i<(x.2.2.2.2.2.2.2.2.2.2.2.2.2.2.1.set i ((x.2.2.2.2.2.2.2.2.2.2.2.2.2.2.1)[i].1,m.2.2.2.1,(x.2.2.2.2.2.2.2.2.2.2.2.2.2.2.1)[i].2.2)).length:=by simpa using hi
  have hr1:=Y6 (d:=XX) (v:=((x.2.2.2.2.2.2.2.2.2.2.2.2.2.2.1)[i].1,m.2.2.2.1,(x.2.2.2.2.2.2.2.2.2.2.2.2.2.2.1)[i].2.2)) hi
  rw[hc,e,dt (show(0:Int)<=(i:Int) by omega)]
  simp only[Qj hi,Qf hi,QRb,Qj hs1,QQ1,hr1,QY11,QQ2]
  rw[hY]
  simp only[QQ0,hm3,hct,QuY,hpf,hi0,QQ1]
  rfl
 ·rw[hc,df (show¬(0:Int)<=Xq (Xf m.2.1 true 0 x.2.2.2.2.2.2.2.2.2.2.2.2.2.2.1) by omega)]
  rw[dt (show((x.2.2.2.2.2.2.2.2.2.2.2.2.2.2.1.length:Nat):Int)=x.2.2.2.2.2.2.2.2.2.2.2.2.2.1 by omega)]
  simp only[QQ1,QQ2,QgH x h,QQ0]
 ·have hY:=hY hc
  have hm3:=hm3 hc
  have hct:=hct hc
  have hpf:=hpf hc
  rw[hss]at hY
  rw[hc,df (show¬(0:Int)<=Xq (Xf m.2.1 true 0 x.2.2.2.2.2.2.2.2.2.2.2.2.2.2.1) by omega)]
  rw[df (show¬((x.2.2.2.2.2.2.2.2.2.2.2.2.2.2.1.length:Nat):Int)=x.2.2.2.2.2.2.2.2.2.2.2.2.2.1 by omega)]
  simp only[QQ1,QQ2]
  rw[Qw (by simp;omega),QQ1,hY]
  simp only[QQ0,hm3,hct,QuY,hpf,hi0,QQ1]
  rfl
end Go.Proofs.YtiejfnbmficbmaaGreat.M
