/- What the plain forms that FnExactGiveAll reaches come to: PSend. No conditions but those that each theorem states. -/
import Derived.Test.YtiejfnbmficbmaaGreatFnExactGiveAllPJoin
set_option linter.all false
namespace Go.Proofs.YtiejfnbmficbmaaGreat.M
open Go Go.Eng Go.Proofs
set_option linter.unusedVariables false
theorem QvW (x y:QB):ZP x y=ZP y x:=by
 unfold ZP
 by_cases h:y.1=x.1
 ·rw[dt h,dt h.symm];cases y.2.2.1<;>cases x.2.2.1<;>rfl
 ·rw[df h,df (fun e=>h e.symm)];rfl
theorem Qvo (id n wt:Int):(l pre:List QB)->(Zd id n wt pre l=true↔(∀x∈l,JP id n wt x=true)/\(∀x∈l,∀y∈pre,ZP x y=false)/\l.Pairwise fun y x=>ZP x y=false)
 | [],pre=>by simp[Zd]
 |x::l,pre=>by
  rw[Zd,QQ5,QQ5,Qvo id n wt l (pre++[x]),List.pairwise_cons]
  constructor
  ·rintro⟨⟨h1,h2⟩,h3,h4,h5⟩
   have h2':∀y∈pre,ZP x y=false:=fun y hy=>by
    cases hk:ZP x y
    ·rfl
    ·have:pre.any (ZP x)=true:=QY27.2 ⟨y,hy,hk⟩
     rw[this]at h2;cases h2
   refine⟨fun y hy=> ?_,fun y hy z hz=> ?_,fun y hy=>h4 y hy x (by simp),h5⟩
   ·rcases QRk.1 hy with rfl|hy
    ·exact h1
    ·exact h3 y hy
   ·rcases QRk.1 hy with rfl|hy
    ·exact h2' z hz
    ·exact h4 y hy z (by simp[hz])
  ·rintro⟨h1,h2,h3,h4⟩
   refine⟨⟨h1 x (by simp), ?_⟩,fun y hy=>h1 y (by simp[hy]),fun y hy z hz=> ?_,h4⟩
   ·have:pre.any (ZP x)=false:=by
     cases hk:pre.any (ZP x)
     ·rfl
     ·obtain⟨y,hy,hk⟩:=QY27.1 hk
      rw[h2 x (by simp) y hy]at hk;cases hk
    rw[this];rfl
   ·rcases QRh.1 hz with hz|hz
    ·exact h2 y (by simp[hy]) z hz
    ·obtain rfl:z=x:=by simpa using hz
     exact h3 y hy
theorem Qgi (id n wt:Int) (l:List QB):Zd id n wt [] l=true↔(∀x∈l,JP id n wt x=true)/\l.Pairwise fun y x=>ZP x y=false:=by
 rw[Qvo];simp
theorem Qzo (p:Int) (b:Bool):(off:Nat)->(l:List QB)->XK (Xo p b off l)<0->∀y∈l,(decide (y.1=p)&&(y.2.2.1==b))=false
 |_,[],_=>by simp
 |off,y::l,h=>by
  rw[Xo]at h
  cases hk:decide (y.1=p)&&(y.2.2.1==b)
  ·rw[hk]at h
   intro z hz
   rcases QRk.1 hz with rfl|hz
   ·exact hk
   ·exact Qzo p b (off+1) l h z hz
  ·rw[hk]at h;simp[XK]at h;omega
theorem QhB (p:Int) (b:Bool):(off:Nat)->(l:List QB)->¬XK (Xo p b off l)<0->∃i:Nat,XK (Xo p b off l)=((off+i:Nat):Int)/\∃h:i<l.length,(decide (l[i].1=p)&&(l[i].2.2.1==b))=true
 |off,[],h=>by simp[Xo,XK]at h
 |off,y::l,h=>by
  rw[Xo]at h⊢
  cases hk:decide (y.1=p)&&(y.2.2.1==b)
  ·rw[hk]at h
   obtain⟨i,e,hi,h2⟩:=QhB p b (off+1) l h
   exact⟨i+1,by simp only[QQ2];rw[e];congr 1;omega,by simpa using hi,by simpa using h2⟩
  ·exact⟨0,rfl,by simp,by simpa using hk⟩
theorem QBD {id n wt:Int}{l:List QB}(h:Zd id n wt [] l=true) {x:QB}(hx:JP id n wt x=true) (hn:XK (Xo x.1 x.2.2.1 0 l)<0):Zd id n wt [] (l++[x])=true:=by
 rw[Qgi]at h⊢
 refine⟨fun y hy=> ?_,List.pairwise_append.2 ⟨h.2,by simp,fun y hy z hz=> ?_⟩⟩
 ·rcases QRh.1 hy with hy|hy
  ·exact h.1 y hy
  ·obtain rfl:y=x:=by simpa using hy
   exact hx
 ·obtain rfl:z=x:=by simpa using hz
  exact Qzo z.1 z.2.2.1 0 l hn y hy
theorem QG1 {id n wt:Int}{l:List QB}(h:Zd id n wt [] l=true) (i:Nat):Zd id n wt [] (l.take i++l.drop (i+1))=true:=by
 rw[Qgi]at h⊢
 have hs:(l.take i++l.drop (i+1)).Sublist l:=by
  have:=QY28 (QY23 (l.take i)) (List.drop_sublist 1 (l.drop i))
  rw[List.take_append_drop,List.drop_drop]at this
  exact this
 exact⟨fun y hy=>h.1 y (hs.subset hy),h.2.sublist hs⟩
theorem QJ6 {id n wt:Int}{l:List QB}(h:Zd id n wt [] l=true) {i:Nat}(hi:i<l.length) {x:QB}(hx:JP id n wt x=true) (h1:x.1=l[i].1) (h2:x.2.2.1=l[i].2.2.1):Zd id n wt [] (l.set i x)=true:=by
 rw[Qgi]at h⊢
 have hk:∀y,ZP x y=ZP l[i] y:=fun y=>by unfold ZP;rw[h1,h2]
 refine⟨fun y hy=> ?_, ?_⟩
 ·rcases QY38 hy with hy|rfl
  ·exact h.1 y hy
  ·exact hx
 ·rw[List.pairwise_iff_getElem]at h⊢
  intro a b ha hb hab
  rw[QY12]at ha hb
  rw[List.getElem_set,List.getElem_set]
  have:=h.2 a b ha hb hab
  split
  ·rename_i e;subst e
   rw[if_neg (by omega),hk];exact this
  ·split
   ·rename_i e;subst e
    rw[QvW,hk,QvW];exact this
   ·exact this
theorem QCe (x:Qc) (p:Int) (b:Bool) (h:x.2.2.2.2.2.2.2.2.2.2.2.2.2.2.1.length<=maxLen):QhH w (n11T x (p,b))=some (XK (Xo p b 0 x.2.2.2.2.2.2.2.2.2.2.2.2.2.2.1)):=by
 apply QCd
 have e:=Q3 x.2.2.2.2.2.2.2.2.2.2.2.2.2.2.1.length (fun i=>xA wl (p,b,(i:Int),n11E x)) (fun i=>Xo p b i (x.2.2.2.2.2.2.2.2.2.2.2.2.2.2.1.drop i))
  (fun i hi ih=>by
    apply QnV
    simp only[QkK,ilt hi,Qj hi,Qg hi,inc hi h,QQ1,ih]
    rw[QRa hi,Xo]
    cases decide ((x.2.2.2.2.2.2.2.2.2.2.2.2.2.2.1)[i].1=p)<;>cases((x.2.2.2.2.2.2.2.2.2.2.2.2.2.2.1)[i].2.2.1==b)<;>rfl)
  (by
    apply QnV
    simp[QkK,Xo])
 simp only[QQ6,QRg]at e
 simp only[QqN,e,QQ0]
 cases Xo p b 0 x.2.2.2.2.2.2.2.2.2.2.2.2.2.2.1<;>rfl
theorem QHx (x:Qc) (p:Int) (b:Bool) (h:x.2.2.2.2.2.2.2.2.2.2.2.2.2.2.1.length<=maxLen):js w (n11T x (p,b))=some (XK (Xo p b 0 x.2.2.2.2.2.2.2.2.2.2.2.2.2.2.1)):=QE5 x.1 x.2.1 x.2.2.1 x.2.2.2.1 x.2.2.2.2.1 x.2.2.2.2.2.1 x.2.2.2.2.2.2.1 x.2.2.2.2.2.2.2.1 x.2.2.2.2.2.2.2.2.1 x.2.2.2.2.2.2.2.2.2.1 x.2.2.2.2.2.2.2.2.2.2.1 x.2.2.2.2.2.2.2.2.2.2.2.1 x.2.2.2.2.2.2.2.2.2.2.2.2.1 x.2.2.2.2.2.2.2.2.2.2.2.2.2.1 x.2.2.2.2.2.2.2.2.2.2.2.2.2.2.1 x.2.2.2.2.2.2.2.2.2.2.2.2.2.2.2.1 x.2.2.2.2.2.2.2.2.2.2.2.2.2.2.2.2.1 x.2.2.2.2.2.2.2.2.2.2.2.2.2.2.2.2.2.1 x.2.2.2.2.2.2.2.2.2.2.2.2.2.2.2.2.2.2 p b h
theorem Zx {x:Qc}(h:NOk x):x.2.2.2.2.2.2.2.2.2.2.2.2.2.2.1.length<=4/\x.2.2.2.2.2.2.2.2.2.1.length<=5/\x.2.2.2.2.2.2.2.2.2.2.1.length<=5:=by
 have h1:=Xg.1 h.slots
 have h2:=h.room
 have h3:=Xg.1 h.n
 have h4:=(QgZ h.got).1
 have h5:=(QgZ h.ack).1
 omega
def ship (x:Qc) (seq:Int):List Qf×List Qa×Bool:=bif (YK (x.2.2.2.2.2.2.1,x.2.2.2.2.2.2.2.1,x.2.2.2.2.2.2.2.2.1) seq).2.2 then YK (x.2.2.2.2.2.2.1,x.2.2.2.2.2.2.2.1,x.2.2.2.2.2.2.2.2.1) seq else(x.2.2.1,x.2.2.2.1,false)
theorem QyZ {x:Qc}(h:NOk x) (seq:Int):QF ((ship x seq).1,(ship x seq).2.1)=true:=by
 unfold ship
 cases(YK (x.2.2.2.2.2.2.1,x.2.2.2.2.2.2.2.1,x.2.2.2.2.2.2.2.2.1) seq).2.2
 ·exact h.st
 ·exact QDz h.log seq
theorem QLo (x:Qc) (h:NOk x) (seq:Int):QnO w (n11T x (seq))=some (ship x seq):=by
 have hsm:=XS h
 have hn:=okN h
 have hl:zX w (x.2.2.2.2.2.2.1,x.2.2.2.2.2.2.2.1,x.2.2.2.2.2.2.2.2.1,seq)=some (YK (x.2.2.2.2.2.2.1,x.2.2.2.2.2.2.2.1,x.2.2.2.2.2.2.2.2.1) seq):=QD2 (x.2.2.2.2.2.2.1,x.2.2.2.2.2.2.2.1,x.2.2.2.2.2.2.2.2.1) h.log seq
 have hc:ZO w (x.2.2.1,x.2.2.2.1)=some (x.2.2.1,x.2.2.2.1):=jK _ (qb (x:=x) (by omega)).1
 apply QB3
 simp only[QqE,hn,hl,hc,QQ0,QQ3,QQ2,ship]
 cases hb:(YK (x.2.2.2.2.2.2.1,x.2.2.2.2.2.2.2.1,x.2.2.2.2.2.2.2.2.1) seq).2.2
 ·rfl
 ·simp only[QQ3,QQ2,QQ1]
  rw[<-hb]
theorem QGd (x:Qc) (h:NOk x) (seq:Int):QeE w (n11T x (seq))=some (ship x seq):=by
 have hsm:=XS h
 have hl:ye w (x.2.2.2.2.2.2.1,x.2.2.2.2.2.2.2.1,x.2.2.2.2.2.2.2.2.1,seq)=some (YK (x.2.2.2.2.2.2.1,x.2.2.2.2.2.2.2.1,x.2.2.2.2.2.2.2.2.1) seq):=QBm (x.2.2.2.2.2.2.1,x.2.2.2.2.2.2.2.1,x.2.2.2.2.2.2.2.2.1) h.log seq
 have hc:Kx w (x.2.2.1,x.2.2.2.1)=some (x.2.2.1,x.2.2.2.1):=Qhz _ (qb (x:=x) (by omega)).1
 apply Qu3
 simp only[Qks,hl,hc,QQ0,ship]
 cases hb:(YK (x.2.2.2.2.2.2.1,x.2.2.2.2.2.2.2.1,x.2.2.2.2.2.2.2.2.1) seq).2.2
 ·rfl
 ·simp only[QQ1]
  rw[<-hb]
def msg (x:Qc) (k to num:Int):QS:=(k,x.1,to,num,Xr (x.2.2.2.2.2.2.1,x.2.2.2.2.2.2.2.1,x.2.2.2.2.2.2.2.2.1),[],0,x.2.2.2.2.2.2.2.2.2.1,[],[],[],marksOf (x.2.2.1,x.2.2.2.1))
theorem Qju (x:Qc) (h:NOk x) (k to num:Int):YF w (n11T x (k,to,num))=some (msg x k to num):=by
 have hl:=Qby h.log
 have hs:=ZQ h.st
 have hn:=Zx h
 apply Qvw
 simp only[Qku,QmL _ _ _ hl.2.1 hl.2.2,Qa8 x.2.2.2.2.2.2.2.2.2.1 (by omega),Qvc _ _ hs.1 hs.2,QQ0,msg]
theorem Qng (x:Qc) (h:NOk x) (k to num:Int):Ks w (n11T x (k,to,num))=some (msg x k to num):=by
 have hl:=Qby h.log
 have hs:=ZQ h.st
 have hn:=Zx h
 apply Qyf
 simp only[Qns,Qjr _ _ _ hl.2.1 hl.2.2,QY6,QRe,QRo,Qu (show x.2.2.2.2.2.2.2.2.2.1.length*8<=140737488351232 by omega),Qtn _ _ hs.1 hs.2,QQ0,QQ1,msg]
def QoM (x:Qc) (to:Int):Bool:=QkR x.1 x.2.1 to&&(decide (XK (Xo to false 0 x.2.2.2.2.2.2.2.2.2.2.2.2.2.2.1)<0)&&(!decide (x.2.2.2.2.2.2.2.2.2.2.2.2.2.1<=((x.2.2.2.2.2.2.2.2.2.2.2.2.2.2.1.length:Nat):Int))&& !decide (x.2.2.2.2.2.2.2.2.2.2.2.2.1=100000)))
def QCp (x:Qc) (to:Int):Qc:=(x.1,x.2.1,x.2.2.1,x.2.2.2.1,x.2.2.2.2.1,x.2.2.2.2.2.1,x.2.2.2.2.2.2.1,x.2.2.2.2.2.2.2.1,x.2.2.2.2.2.2.2.2.1,x.2.2.2.2.2.2.2.2.2.1,x.2.2.2.2.2.2.2.2.2.2.1,x.2.2.2.2.2.2.2.2.2.2.2.1,x.2.2.2.2.2.2.2.2.2.2.2.2.1+1,x.2.2.2.2.2.2.2.2.2.2.2.2.2.1,x.2.2.2.2.2.2.2.2.2.2.2.2.2.2.1++[(to,x.2.2.2.2.2.2.2.2.2.2.2.2.1+1,false,0)],x.2.2.2.2.2.2.2.2.2.2.2.2.2.2.2.1,x.2.2.2.2.2.2.2.2.2.2.2.2.2.2.2.2.1,x.2.2.2.2.2.2.2.2.2.2.2.2.2.2.2.2.2.1,x.2.2.2.2.2.2.2.2.2.2.2.2.2.2.2.2.2.2)
theorem QJO {x:Qc}(h:NOk x) {to:Int}(hc:QoM x to=true):NOk (QCp x to) where
 n:=h.n
 id:=h.id
 st:=h.st
 tree:=h.tree
 log:=h.log
 got:=h.got
 ack:=h.ack
 own:=h.own
 heard:=h.heard
 seen:=h.seen
 num:=by
  have:=Xg.1 h.num
  simp only[QoM,QQ5,QY14,decide_eq_false_iff_not]at hc
  simp only[QCp,Xg];omega
 clock:=h.clock
 wait:=h.wait
 limit:=h.limit
 slots:=h.slots
 room:=by
  have:=h.room
  simp only[QoM,QQ5,QY14,decide_eq_false_iff_not]at hc
  simp only[QCp,QRj,QY1,QY6];omega
 sess:=by
  have hn:=Xg.1 h.num
  have hw:=Xg.1 h.wait
  simp only[QoM,QQ5,QY14,decide_eq_false_iff_not,QRu]at hc
  refine QBD h.sess ?_ hc.2.1
  simp only[JP,hc.1,QRd,QQ5,Xg];omega
 rlen:=h.rlen
 rises:=h.rises
def Kc (m:QS):Bool:=yY m.1 m.2.1 m.2.2.1 m.2.2.2.1 m.2.2.2.2.1 m.2.2.2.2.2.1 m.2.2.2.2.2.2.1 m.2.2.2.2.2.2.2.1 m.2.2.2.2.2.2.2.2.1 m.2.2.2.2.2.2.2.2.2.1 m.2.2.2.2.2.2.2.2.2.2.1 m.2.2.2.2.2.2.2.2.2.2.2
def Qal (m:QS):Prop:=smM m.2.2.2.2.2.1 m.2.2.2.2.2.2.2.1 m.2.2.2.2.2.2.2.2.1 m.2.2.2.2.2.2.2.2.2.1 m.2.2.2.2.2.2.2.2.2.2.1 m.2.2.2.2.2.2.2.2.2.2.2
structure MOk (m:QS):Prop where
 kind:inR m.1 0 5=true
 src:inR m.2.1 0 4=true
 dst:inR m.2.2.1 0 4=true
 two:m.2.1≠m.2.2.1
 lv:okL (-1) m.2.2.2.2.2.2.2.2.1=true
 vec:∀y∈m.2.2.2.2.2.2.2.1,inR y 0 100000=true
 num:inR m.2.2.2.1 0 100000=true
 hi:inR m.2.2.2.2.1 0 100000=true
 tree:ji (m.2.2.2.2.2.1,m.2.2.2.2.2.2.1)=true
 vl:((m.2.2.2.2.2.2.2.1.length:Nat):Int)<=5
 part:QF (m.2.2.2.2.2.2.2.2.2.1,m.2.2.2.2.2.2.2.2.2.2.1)=true
 marks:QO (-1) m.2.2.2.2.2.2.2.2.2.2.2=true
theorem mok {m:QS}(h:Kc m=true):MOk m:=by
 simp only[Kc,yY,QQ5,QRu,QRt,QY14,decide_eq_false_iff_not]at h
 obtain⟨⟨⟨⟨⟨⟨⟨⟨⟨⟨⟨h1,h2⟩,h3⟩,h4⟩,h5⟩,h6⟩,h7⟩,h8⟩,h9⟩,h10⟩,h11⟩,h12⟩:=h
 exact⟨h1,h2,h3,h4,h5,h6,h7,h8,h9,h10,h11,h12⟩
theorem QbF {l:List Qa}(h:QO (-1) l=true):l.length<=5:=by
 have:=xU _ _ h (by omega)
 rcases this with h|h
 ·omega
 ·rw[h];simp
structure Fit (x:Qc) (m:QS):Prop where
 ok:MOk m
 to:m.2.2.1=x.1
 src:m.2.1<x.2.1
 len:((m.2.2.2.2.2.2.2.1.length:Nat):Int)=x.2.1
theorem QGG {g:Z8}(h:Yu g=true):0<=Xr g/\Xr g<=100000:=by
 have:=QjH h
 unfold Xr;rw[h]
 simp only[QQ1];omega
theorem QCl {v:List Int}{k n:Int}(h:∀y∈v,inR y 0 100000=true) (hn:n<=100000):∀y∈ZG v k n,inR y 0 100000=true:=by
 unfold ZG
 cases hk:inR k 0 ((v.length:Nat) - 1)
 ·exact h
 ·obtain⟨j,rfl,hj⟩:=V0 hk
  intro y hy
  rcases QY38 hy with hy|rfl
  ·exact h y hy
  ·have:=Xg.1 (h _ (QRf hj))
   rw[Qg hj,Xg]
   unfold mxI;split<;>omega
theorem QBu (v:List Int) (k n:Int):(ZG v k n).length=v.length:=by
 unfold ZG;cases inR k 0 ((v.length:Nat) - 1)<;>simp
theorem Qts {v:List Int}{c k n:Int}(h:Y7 v c=true) (hn:n<=100000):Y7 (ZG v k n) c=true:=by
 have:=QgZ h
 simp only[Y7,QQ5,QRu,QRt,QBu]at h⊢
 exact⟨h.1,QCl this.2 hn⟩
theorem QBd {v:List Int}{k n:Int}{j:Nat}(hne:k≠(j:Int)):(ZG v k n).getD j 0=v.getD j 0:=by
 unfold ZG
 cases hk:inR k 0 ((v.length:Nat) - 1)
 ·rfl
 ·obtain⟨i,rfl,hi⟩:=V0 hk
  simp only[QQ1,QRb,List.getD]
  rw[List.getElem?_set_ne (by omega)]
def QoK (x:Qc) (m:QS):Qc:=(x.1,x.2.1,x.2.2.1,x.2.2.2.1,x.2.2.2.2.1,x.2.2.2.2.2.1,x.2.2.2.2.2.2.1,x.2.2.2.2.2.2.2.1,x.2.2.2.2.2.2.2.2.1,x.2.2.2.2.2.2.2.2.2.1,ZG x.2.2.2.2.2.2.2.2.2.2.1 m.2.1 (mnI (rd1 0 m.2.2.2.2.2.2.2.1 x.1) (Xr (x.2.2.2.2.2.2.1,x.2.2.2.2.2.2.2.1,x.2.2.2.2.2.2.2.2.1))),Vp x.2.2.2.2.2.2.2.2.2.2.2.1 m.2.1 m.2.2.2.2.2.2.2.2.2.2.2,x.2.2.2.2.2.2.2.2.2.2.2.2.1,x.2.2.2.2.2.2.2.2.2.2.2.2.2.1,x.2.2.2.2.2.2.2.2.2.2.2.2.2.2.1,x.2.2.2.2.2.2.2.2.2.2.2.2.2.2.2.1,x.2.2.2.2.2.2.2.2.2.2.2.2.2.2.2.2.1,x.2.2.2.2.2.2.2.2.2.2.2.2.2.2.2.2.2.1,x.2.2.2.2.2.2.2.2.2.2.2.2.2.2.2.2.2.2)
theorem Qp6 {x:Qc}(h:NOk x) {m:QS}(hf:Fit x m):NOk (QoK x m) where
 n:=h.n
 id:=h.id
 st:=h.st
 tree:=h.tree
 log:=h.log
 got:=h.got
 ack:=Qts h.ack (by
  have:=QGG h.log
  unfold mnI;split<;>omega)
 own:=h.own
 heard:=by
  refine QRt.2 fun y hy=>decide_eq_true ?_
  have ho:=QRt.1 h.heard
  have hy':y∈ZG x.2.2.2.2.2.2.2.2.2.2.1 m.2.1 (mnI (rd1 0 m.2.2.2.2.2.2.2.1 x.1) (Xr (x.2.2.2.2.2.2.1,x.2.2.2.2.2.2.2.1,x.2.2.2.2.2.2.2.2.1))):=hy
  show y<=Xr (x.2.2.2.2.2.2.1,x.2.2.2.2.2.2.2.1,x.2.2.2.2.2.2.2.2.1)
  unfold ZG at hy'
  cases hk:inR m.2.1 0 ((x.2.2.2.2.2.2.2.2.2.2.1.length:Nat) - 1)
  ·rw[hk]at hy';simpa using ho y hy'
  ·rw[hk]at hy'
   rcases QY38 hy' with hy'|rfl
   ·simpa using ho y hy'
   ·obtain⟨j,hj,hj2⟩:=V0 hk
    have:=ho _ (QRf hj2)
    simp only[QRu]at this
    rw[hj,Qg hj2]
    unfold mxI mnI
    split<;>split<;>omega
 seen:=QfU h.seen _ _
 num:=h.num
 clock:=h.clock
 wait:=h.wait
 limit:=h.limit
 slots:=h.slots
 room:=h.room
 sess:=h.sess
 rlen:=h.rlen
 rises:=h.rises
theorem QtU:QF ([],[])=true:=rfl
def heard (x:Qc) (m:QS):Qc:=take (QoK x m) ([],[])
theorem ju {x:Qc}(h:NOk x) {m:QS}(hf:Fit x m):NOk (heard x m):=QpU (Qp6 h hf) QtU
theorem QoL {x:Qc}(h:NOk x) {m:QS}(hf:Fit x m):∃j:Nat,x.1=(j:Int)/\j<m.2.2.2.2.2.2.2.1.length:=by
 have h1:=Xg.1 h.id
 have h2:=hf.len
 exact⟨(x.1).toNat,by omega,by omega⟩
set_option maxHeartbeats 1000000 in
theorem QfB (x:Qc) (h:NOk x) (m:QS) (hf:Fit x m):ZE w (n11T x (n12E m))=some (heard x m):=by
 have hk:=Zx h
 have hl:=Qby h.log
 have hsm:=XS h
 have hmk:=QbF hf.ok.marks
 obtain⟨j,hj,hj2⟩:=QoL h hf
 have hi:inb x.1 m.2.2.2.2.2.2.2.1.length=true:=by rw[hj];exact Qj hj2
 have hv:JS w (x.2.2.2.2.2.2.2.2.2.2.1,m.2.1,mnI (rd1 0 m.2.2.2.2.2.2.2.1 x.1) (Xr (x.2.2.2.2.2.2.1,x.2.2.2.2.2.2.2.1,x.2.2.2.2.2.2.2.2.1)))=some (ZG x.2.2.2.2.2.2.2.2.2.2.1 m.2.1 (mnI (rd1 0 m.2.2.2.2.2.2.2.1 x.1) (Xr (x.2.2.2.2.2.2.1,x.2.2.2.2.2.2.2.1,x.2.2.2.2.2.2.2.2.1)))):=Qtv _ _ _ (by omega)
 have ht:Vm w (x.2.2.2.2.2.2.2.2.2.2.2.1,m.2.1,m.2.2.2.2.2.2.2.2.2.2.2)=some (Vp x.2.2.2.2.2.2.2.2.2.2.2.1 m.2.1 m.2.2.2.2.2.2.2.2.2.2.2):=Qs7 _ _ _ (qb (x:=x) (by omega)).2.2.2 (by simp only[maxLen];omega)
 have hT:=QE2 (QoK x m) (Qp6 h hf) ([],[]) QtU
 simp only[QoK]at hT
 apply QqS
 simp only[Qet,hi,QQ1,QmL _ _ _ hl.2.1 hl.2.2,hv,ht,QQ0]
 rw[hT];rfl
set_option maxHeartbeats 1000000 in
theorem Qoo (x:Qc) (h:NOk x) (m:QS) (hf:Fit x m):Y5 w (n11T x (n12E m))=some (heard x m):=by
 have hk:=Zx h
 have hl:=Qby h.log
 have hsm:=XS h
 have hmk:=QbF hf.ok.marks
 obtain⟨j,hj,hj2⟩:=QoL h hf
 have hc:=Qpo h
 have hi:inb x.1 m.2.2.2.2.2.2.2.1.length=true:=by rw[hj];exact Qj hj2
 have hv:JM w (x.2.2.2.2.2.2.2.2.2.2.1,m.2.1,mnI (rd1 0 m.2.2.2.2.2.2.2.1 x.1) (Xr (x.2.2.2.2.2.2.1,x.2.2.2.2.2.2.2.1,x.2.2.2.2.2.2.2.2.1)))=some (ZG x.2.2.2.2.2.2.2.2.2.2.1 m.2.1 (mnI (rd1 0 m.2.2.2.2.2.2.2.1 x.1) (Xr (x.2.2.2.2.2.2.1,x.2.2.2.2.2.2.2.1,x.2.2.2.2.2.2.2.2.1)))):=QrE _ _ _ (by omega)
 have ht:Vq w (x.2.2.2.2.2.2.2.2.2.2.2.1,m.2.1,m.2.2.2.2.2.2.2.2.2.2.2)=some (Vp x.2.2.2.2.2.2.2.2.2.2.2.1 m.2.1 m.2.2.2.2.2.2.2.2.2.2.2):=Qre _ _ _ (qb (x:=x) (by omega)).2.2.2 (by simp only[maxLen];omega)
 have hT:=Qvu (QoK x m) (Qp6 h hf) ([],[]) QtU
 simp only[QoK]at hT
 apply QtW
 simp only[Qjj,hc,hi,QQ1,Qjr _ _ _ hl.2.1 hl.2.2,QBC,hv,ht,QQ0]
 rw[hT];rfl
def brought (x:Qc) (m:QS):Qc:=((take (heard x m) (m.2.2.2.2.2.2.2.2.2.1,m.2.2.2.2.2.2.2.2.2.2.1)).1,(take (heard x m) (m.2.2.2.2.2.2.2.2.2.1,m.2.2.2.2.2.2.2.2.2.2.1)).2.1,(take (heard x m) (m.2.2.2.2.2.2.2.2.2.1,m.2.2.2.2.2.2.2.2.2.2.1)).2.2.1,(take (heard x m) (m.2.2.2.2.2.2.2.2.2.1,m.2.2.2.2.2.2.2.2.2.2.1)).2.2.2.1,(take (heard x m) (m.2.2.2.2.2.2.2.2.2.1,m.2.2.2.2.2.2.2.2.2.2.1)).2.2.2.2.1,(take (heard x m) (m.2.2.2.2.2.2.2.2.2.1,m.2.2.2.2.2.2.2.2.2.2.1)).2.2.2.2.2.1,(take (heard x m) (m.2.2.2.2.2.2.2.2.2.1,m.2.2.2.2.2.2.2.2.2.2.1)).2.2.2.2.2.2.1,(take (heard x m) (m.2.2.2.2.2.2.2.2.2.1,m.2.2.2.2.2.2.2.2.2.2.1)).2.2.2.2.2.2.2.1,(take (heard x m) (m.2.2.2.2.2.2.2.2.2.1,m.2.2.2.2.2.2.2.2.2.2.1)).2.2.2.2.2.2.2.2.1,ZG (take (heard x m) (m.2.2.2.2.2.2.2.2.2.1,m.2.2.2.2.2.2.2.2.2.2.1)).2.2.2.2.2.2.2.2.2.1 m.2.1 m.2.2.2.2.1,(take (heard x m) (m.2.2.2.2.2.2.2.2.2.1,m.2.2.2.2.2.2.2.2.2.2.1)).2.2.2.2.2.2.2.2.2.2.1,(take (heard x m) (m.2.2.2.2.2.2.2.2.2.1,m.2.2.2.2.2.2.2.2.2.2.1)).2.2.2.2.2.2.2.2.2.2.2.1,(take (heard x m) (m.2.2.2.2.2.2.2.2.2.1,m.2.2.2.2.2.2.2.2.2.2.1)).2.2.2.2.2.2.2.2.2.2.2.2.1,(take (heard x m) (m.2.2.2.2.2.2.2.2.2.1,m.2.2.2.2.2.2.2.2.2.2.1)).2.2.2.2.2.2.2.2.2.2.2.2.2.1,(take (heard x m) (m.2.2.2.2.2.2.2.2.2.1,m.2.2.2.2.2.2.2.2.2.2.1)).2.2.2.2.2.2.2.2.2.2.2.2.2.2.1,(take (heard x m) (m.2.2.2.2.2.2.2.2.2.1,m.2.2.2.2.2.2.2.2.2.2.1)).2.2.2.2.2.2.2.2.2.2.2.2.2.2.2.1,(take (heard x m) (m.2.2.2.2.2.2.2.2.2.1,m.2.2.2.2.2.2.2.2.2.2.1)).2.2.2.2.2.2.2.2.2.2.2.2.2.2.2.2.1,(take (heard x m) (m.2.2.2.2.2.2.2.2.2.1,m.2.2.2.2.2.2.2.2.2.2.1)).2.2.2.2.2.2.2.2.2.2.2.2.2.2.2.2.2.1,(take (heard x m) (m.2.2.2.2.2.2.2.2.2.1,m.2.2.2.2.2.2.2.2.2.2.1)).2.2.2.2.2.2.2.2.2.2.2.2.2.2.2.2.2.2)
theorem Z7 {x:Qc}(h:NOk x) {m:QS}(hf:Fit x m):NOk (brought x m):=by
 have hb:NOk (take (heard x m) (m.2.2.2.2.2.2.2.2.2.1,m.2.2.2.2.2.2.2.2.2.2.1)):=QpU (ju h hf) hf.ok.part
 have h1:=Xg.1 h.id
 have hne:m.2.1≠(((x.1).toNat:Nat):Int):=by
  have:=hf.ok.two
  have:=hf.to
  omega
 exact {
  n:=hb.n
  id:=hb.id
  st:=hb.st
  tree:=hb.tree
  log:=hb.log
  got:=Qts hb.got (Xg.1 hf.ok.hi).2
  ack:=hb.ack
  own:=(QBd hne).trans hb.own
  heard:=hb.heard
  seen:=hb.seen
  num:=hb.num
  clock:=hb.clock
  wait:=hb.wait
  limit:=hb.limit
  slots:=hb.slots
  room:=hb.room
  sess:=hb.sess
  rlen:=hb.rlen
  rises:=hb.rises}
set_option maxHeartbeats 1000000 in
theorem Qrc (x:Qc) (h:NOk x) (m:QS) (hf:Fit x m):VR w (n11T x (n12E m))=some (brought x m):=by
 have hT:=QE2 (heard x m) (ju h hf) (m.2.2.2.2.2.2.2.2.2.1,m.2.2.2.2.2.2.2.2.2.2.1) hf.ok.part
 have hk:=Zx (QpU (ju h hf) hf.ok.part)
 apply Qx8
 simp only[Qnz,QfB x h m hf,hT,Qtv (take (heard x m) (m.2.2.2.2.2.2.2.2.2.1,m.2.2.2.2.2.2.2.2.2.2.1)).2.2.2.2.2.2.2.2.2.1 _ _ (by omega),QQ0,brought]
set_option maxHeartbeats 1000000 in
theorem Qiw (x:Qc) (h:NOk x) (m:QS) (hf:Fit x m):qq w (n11T x (n12E m))=some (brought x m):=by
 have hT:=Qvu (heard x m) (ju h hf) (m.2.2.2.2.2.2.2.2.2.1,m.2.2.2.2.2.2.2.2.2.2.1) hf.ok.part
 have hk:=Zx (QpU (ju h hf) hf.ok.part)
 apply QrA
 simp only[Qe1,Qoo x h m hf,hT,QrE (take (heard x m) (m.2.2.2.2.2.2.2.2.2.1,m.2.2.2.2.2.2.2.2.2.2.1)).2.2.2.2.2.2.2.2.2.1 _ _ (by omega),QQ0,brought]
def KJ (x:Qc) (m:QS) (b:Bool):Int:=XK (Xo m.2.1 b 0 x.2.2.2.2.2.2.2.2.2.2.2.2.2.2.1)
def find (x:Qc) (m:QS) (b:Bool):Int:=bif decide (KJ x m b<0)then -1 else(bif decide ((rd1 Zr x.2.2.2.2.2.2.2.2.2.2.2.2.2.2.1 (KJ x m b)).2.1=m.2.2.2.1)then KJ x m b else -1)
def jV (x:Qc) (l:List QB):Qc:=(x.1,x.2.1,x.2.2.1,x.2.2.2.1,x.2.2.2.2.1,x.2.2.2.2.2.1,x.2.2.2.2.2.2.1,x.2.2.2.2.2.2.2.1,x.2.2.2.2.2.2.2.2.1,x.2.2.2.2.2.2.2.2.2.1,x.2.2.2.2.2.2.2.2.2.2.1,x.2.2.2.2.2.2.2.2.2.2.2.1,x.2.2.2.2.2.2.2.2.2.2.2.2.1,x.2.2.2.2.2.2.2.2.2.2.2.2.2.1,l,x.2.2.2.2.2.2.2.2.2.2.2.2.2.2.2.1,x.2.2.2.2.2.2.2.2.2.2.2.2.2.2.2.2.1,x.2.2.2.2.2.2.2.2.2.2.2.2.2.2.2.2.2.1,x.2.2.2.2.2.2.2.2.2.2.2.2.2.2.2.2.2.2)
def QnD (l:List QB) (k:Int):List QB:=l.take k.toNat++l.drop (k.toNat+1)
def gone (x:Qc) (k:Int):Qc:=jV x (QnD x.2.2.2.2.2.2.2.2.2.2.2.2.2.2.1 k)
theorem Qlf {x:Qc}(h:NOk x) {l:List QB}(h1:((l.length:Nat):Int)<=x.2.2.2.2.2.2.2.2.2.2.2.2.2.1) (h2:Zd x.1 x.2.1 x.2.2.2.2.2.2.2.2.2.2.2.2.2.2.2.1 [] l=true):NOk (jV x l) where
 n:=h.n
 id:=h.id
 st:=h.st
 tree:=h.tree
 log:=h.log
 got:=h.got
 ack:=h.ack
 own:=h.own
 heard:=h.heard
 seen:=h.seen
 num:=h.num
 clock:=h.clock
 wait:=h.wait
 limit:=h.limit
 slots:=h.slots
 rlen:=h.rlen
 rises:=h.rises
 room:=h1
 sess:=h2
theorem QHE (l:List QB) (k:Int):(QnD l k).length<=l.length:=by
 simp only[QnD,QRj,QY26,QY7];omega
theorem qZ {x:Qc}(h:NOk x) (k:Int):NOk (gone x k):=Qlf h (by have:=QHE x.2.2.2.2.2.2.2.2.2.2.2.2.2.2.1 k;have:=h.room;omega) (QG1 h.sess _)
theorem QE6 (p:Int) (b:Bool):(off:Nat)->(l:List QB)->XK (Xo p b off l)<0->XK (Xo p b off l)= -1
 |_,[],_=>rfl
 |off,y::l,h=>by
  rw[Xo]at h⊢
  cases hk:decide (y.1=p)&&(y.2.2.1==b)
  ·rw[hk]at h;exact QE6 p b (off+1) l h
  ·rw[hk]at h;simp[XK]at h;omega
theorem Qw9 (x:Qc) (m:QS) (b:Bool):(XK (Xo m.2.1 b 0 x.2.2.2.2.2.2.2.2.2.2.2.2.2.2.1)<0/\XK (Xo m.2.1 b 0 x.2.2.2.2.2.2.2.2.2.2.2.2.2.2.1)= -1/\find x m b= -1)\/∃i:Nat,∃hi:i<x.2.2.2.2.2.2.2.2.2.2.2.2.2.2.1.length,XK (Xo m.2.1 b 0 x.2.2.2.2.2.2.2.2.2.2.2.2.2.2.1)=(i:Int)/\((((x.2.2.2.2.2.2.2.2.2.2.2.2.2.2.1)[i].2.1=m.2.2.2.1)/\find x m b=(i:Int))\/((¬(x.2.2.2.2.2.2.2.2.2.2.2.2.2.2.1)[i].2.1=m.2.2.2.1)/\find x m b= -1)):=by
 unfold find KJ
 by_cases hs:XK (Xo m.2.1 b 0 x.2.2.2.2.2.2.2.2.2.2.2.2.2.2.1)<0
 ·exact .inl ⟨hs,QE6 _ _ _ _ hs,by rw[dt hs];rfl⟩
 ·obtain⟨i,e,hi,_⟩:=QhB _ _ _ _ hs
  rw[QRo]at e
  refine .inr ⟨i,hi,e, ?_⟩
  rw[df hs,e,Qg hi]
  by_cases hd:(x.2.2.2.2.2.2.2.2.2.2.2.2.2.2.1)[i].2.1=m.2.2.2.1
  ·exact .inl ⟨hd,by rw[dt hd];rfl⟩
  ·exact .inr ⟨hd,by rw[df hd];rfl⟩
theorem QuB {x:Qc}{m:QS}{b:Bool}(h:¬find x m b<0):∃i:Nat,find x m b=(i:Int)/\i<x.2.2.2.2.2.2.2.2.2.2.2.2.2.2.1.length:=by
 unfold find at h⊢
 by_cases hs:KJ x m b<0
 ·rw[dt hs]at h;simp at h
 ·rw[df hs]at h⊢
  obtain⟨i,e,hi,_⟩:=QhB _ _ _ _ hs
  cases hd:decide ((rd1 Zr x.2.2.2.2.2.2.2.2.2.2.2.2.2.2.1 (KJ x m b)).2.1=m.2.2.2.1)
  ·rw[hd]at h;simp at h
  ·exact⟨i,by simpa[KJ]using e,hi⟩
set_option maxHeartbeats 1000000 in
theorem Qqe (x:Qc) (h:NOk x) (m:QS) (b:Bool):xL w (n11T x (n12T m (b)))=some (bif decide (find x m b<0)then(n11T x (false))else(x.1,x.2.1,x.2.2.1,x.2.2.2.1,x.2.2.2.2.1,x.2.2.2.2.2.1,x.2.2.2.2.2.2.1,x.2.2.2.2.2.2.2.1,x.2.2.2.2.2.2.2.2.1,x.2.2.2.2.2.2.2.2.2.1,x.2.2.2.2.2.2.2.2.2.2.1,x.2.2.2.2.2.2.2.2.2.2.2.1,x.2.2.2.2.2.2.2.2.2.2.2.2.1,x.2.2.2.2.2.2.2.2.2.2.2.2.2.1,QnD x.2.2.2.2.2.2.2.2.2.2.2.2.2.2.1 (find x m b),x.2.2.2.2.2.2.2.2.2.2.2.2.2.2.2.1,x.2.2.2.2.2.2.2.2.2.2.2.2.2.2.2.2.1,x.2.2.2.2.2.2.2.2.2.2.2.2.2.2.2.2.2.1,x.2.2.2.2.2.2.2.2.2.2.2.2.2.2.2.2.2.2,true)):=by
 have hk:=Zx h
 apply Qxk
 simp only[Qkw,QHx x m.2.1 b (by simp only[maxLen];omega),QQ0]
 rcases Qw9 x m b with⟨hs,he,hf⟩|⟨i,hi,e,⟨hd,hf⟩|⟨hd,hf⟩⟩
 ·rw[hf,he];rfl
 ·rw[hf,e,df (show¬(i:Int)<0 by omega)]
  simp only[QQ2,Qj hi,QQ1,Qg hi,dt hd,QQ3]
  rw[w64 (n:=(i:Int)+1) (by omega) (by omega),Qum x.2.2.2.2.2.2.2.2.2.2.2.2.2.2.1 ((i:Int)+1) (by omega) (by omega)]
  simp only[dt (show(0:Int)<=0/\0<=(i:Int)/\(i:Int)<=((x.2.2.2.2.2.2.2.2.2.2.2.2.2.2.1.length:Nat):Int) by omega),dt (show(0:Int)<=(i:Int)+1/\(i:Int)+1<=((x.2.2.2.2.2.2.2.2.2.2.2.2.2.2.1.length:Nat):Int)/\((x.2.2.2.2.2.2.2.2.2.2.2.2.2.2.1.length:Nat):Int)<=((x.2.2.2.2.2.2.2.2.2.2.2.2.2.2.1.length:Nat):Int) by omega),Int.sub_zero,QRb,Int.toNat_zero,QRg,QY6,QRe,QRo,QQ1]
  rw[Qu (by rw[QY26];omega),Qu (by rw[QY26,QY7];omega)]
  simp only[QQ1,QnD,QRb]
  rw[show((i:Int)+1).toNat=i+1 by omega]
 ·rw[hf,e,df (show¬(i:Int)<0 by omega)]
  simp only[QQ2,Qj hi,QQ1,Qg hi,df hd,QQ4,dt (show(-1:Int)<0 by omega)]
set_option maxHeartbeats 1000000 in
theorem Qqw (x:Qc) (h:NOk x) (m:QS) (b:Bool):Qdt w (n11T x (n12T m (b)))=some (find x m b):=by
 have hk:=Zx h
 apply Qxt
 simp only[Qld,QCe x m.2.1 b (by simp only[maxLen];omega),QQ0]
 rcases Qw9 x m b with⟨hs,he,hf⟩|⟨i,hi,e,⟨hd,hf⟩|⟨hd,hf⟩⟩
 ·rw[hf,he];rfl
 ·rw[hf,e,dt (show(0:Int)<=(i:Int) by omega)]
  simp only[Qj hi,QQ1,Qg hi,dt hd,QQ3,QQ2]
 ·rw[hf,e,dt (show(0:Int)<=(i:Int) by omega)]
  simp only[Qj hi,QQ1,Qg hi,df hd,QQ4]
theorem QpA (x:Qc) (h:NOk x) (i:Nat) (hi:i<x.2.2.2.2.2.2.2.2.2.2.2.2.2.2.1.length):Jv w (n11T x ((i:Int)))=some (gone x (i:Int)):=by
 have hk:=Zx h
 have hsm:=XS h
 have hc:=Qpo h
 apply QwD
 simp only[QkU,hc,QQ0,gone,jV]
 rw[w64 (n:=(i:Int)+1) (by omega) (by omega),Qum x.2.2.2.2.2.2.2.2.2.2.2.2.2.2.1 ((i:Int)+1) (by omega) (by omega)]
 simp only[dt (show(0:Int)<=0/\0<=(i:Int)/\(i:Int)<=((x.2.2.2.2.2.2.2.2.2.2.2.2.2.2.1.length:Nat):Int) by omega),dt (show(0:Int)<=(i:Int)+1/\(i:Int)+1<=((x.2.2.2.2.2.2.2.2.2.2.2.2.2.2.1.length:Nat):Int)/\((x.2.2.2.2.2.2.2.2.2.2.2.2.2.2.1.length:Nat):Int)<=((x.2.2.2.2.2.2.2.2.2.2.2.2.2.2.1.length:Nat):Int) by omega),Int.sub_zero,QRb,Int.toNat_zero,QRg,QY6,QRe,QRo,QQ1]
 rw[Qu (by rw[QY26];omega),Qu (by rw[QY26,QY7];omega)]
 simp only[QQ1,QnD,QRb]
 rw[show((i:Int)+1).toNat=i+1 by omega]
def QaJ (y:Qc) (lv:List Int) (seq:Int):Qk:=join (Zg (y.2.2.1,y.2.2.2.1) lv) ((ship y seq).1,(ship y seq).2.1)
theorem QCI {y:Qc}(h:NOk y) (lv:List Int) (seq:Int):QF (QaJ y lv seq)=true:=zm (Qd6 lv h.st) (QyZ h seq)
theorem Qxe (y:Qc) (h:NOk y) (lv:List Int) (hlv:lv.length<=maxLen) (m:QS) (hi:inb y.1 m.2.2.2.2.2.2.2.1.length=true):KD w (n11T y (lv,n12E m))=some (QaJ y lv (rd1 0 m.2.2.2.2.2.2.2.1 y.1)):=by
 have hs:=ZQ h.st
 have hsl:=Qd6 lv h.st
 have h1:vx w (y.2.2.1,y.2.2.2.1,lv)=some (Zg (y.2.2.1,y.2.2.2.1) lv):=by
  rw[QCX _ _ lv hlv hs.1 hs.2,h.st];rfl
 have hj:Zs w ((Zg (y.2.2.1,y.2.2.2.1) lv).1,(Zg (y.2.2.1,y.2.2.2.1) lv).2,(ship y (rd1 0 m.2.2.2.2.2.2.2.1 y.1)).1,(ship y (rd1 0 m.2.2.2.2.2.2.2.1 y.1)).2.1)=some (QaJ y lv (rd1 0 m.2.2.2.2.2.2.2.1 y.1)):=Qcz _ ((ship y (rd1 0 m.2.2.2.2.2.2.2.1 y.1)).1,(ship y (rd1 0 m.2.2.2.2.2.2.2.1 y.1)).2.1) (ZQ hsl) (ZQ (QyZ h _))
 apply Qwq
 simp only[QlF,hi,QQ1,QLo y h,h1,hj,QQ0]
theorem Qxi (y:Qc) (h:NOk y) (lv:List Int) (hlv:lv.length<=maxLen) (seq:Int):Jf w (n11T y (lv,seq))=some (QaJ y lv seq):=by
 have hs:=Kl h.st
 have hsl:=Qd6 lv h.st
 have h1:xG w (y.2.2.1,y.2.2.2.1,lv)=some (Zg (y.2.2.1,y.2.2.2.1) lv):=Qzr _ _ lv hlv (by simp only at hs;omega) (by simp only at hs;omega)
 have hj:Yt w ((Zg (y.2.2.1,y.2.2.2.1) lv).1,(Zg (y.2.2.1,y.2.2.2.1) lv).2,(ship y seq).1,(ship y seq).2.1)=some (QaJ y lv seq):=QnQ _ ((ship y seq).1,(ship y seq).2.1) hsl (QyZ h _)
 apply Qwb
 simp only[Ql5,QGd y h,h1,hj,QQ0]
def xd (y:Qc) (m:QS):QS:=(3,y.1,m.2.1,m.2.2.2.1,Xr (y.2.2.2.2.2.2.1,y.2.2.2.2.2.2.2.1,y.2.2.2.2.2.2.2.2.1),y.2.2.2.2.1,y.2.2.2.2.2.1,y.2.2.2.2.2.2.2.2.2.1,differ y.2.2.2.2.1 y.2.2.2.2.2.1 m.2.2.2.2.2.1 m.2.2.2.2.2.2.1,(QaJ y (differ y.2.2.2.2.1 y.2.2.2.2.2.1 m.2.2.2.2.2.1 m.2.2.2.2.2.2.1) (rd1 0 m.2.2.2.2.2.2.2.1 y.1)).1,(QaJ y (differ y.2.2.2.2.1 y.2.2.2.2.2.1 m.2.2.2.2.2.1 m.2.2.2.2.2.2.1) (rd1 0 m.2.2.2.2.2.2.2.1 y.1)).2,marksOf (y.2.2.1,y.2.2.2.1))
def QbB (y:Qc) (m:QS):QS:=(4,y.1,m.2.1,m.2.2.2.1,Xr (y.2.2.2.2.2.2.1,y.2.2.2.2.2.2.2.1,y.2.2.2.2.2.2.2.2.1),[],0,y.2.2.2.2.2.2.2.2.2.1,m.2.2.2.2.2.2.2.2.1,(QaJ y m.2.2.2.2.2.2.2.2.1 (rd1 0 m.2.2.2.2.2.2.2.1 y.1)).1,(QaJ y m.2.2.2.2.2.2.2.2.1 (rd1 0 m.2.2.2.2.2.2.2.1 y.1)).2,marksOf (y.2.2.1,y.2.2.2.1))
theorem Qqv (a:List Int) (ra:Int) (b:List Int) (rb:Int):(differ a ra b rb).length<=4:=by
 have h:∀i,(QkC a b i).length<=1:=fun i=>by unfold QkC;cases(decide (((a.length:Nat):Int)=4)&&decide (((b.length:Nat):Int)=4)&&decide (rd1 0 a (i:Int)=rd1 0 b (i:Int)))<;>simp
 unfold differ
 cases decide (ra=rb)
 ·have h0:=h 0
  have h1:=h 1
  have h2:=h 2
  have h3:=h 3
  simp only[QQ2,List.range',QY8,List.flatMap_nil,QRj,QY6,QRo,Nat.reduceAdd];omega
 ·simp
theorem QGN {y:Qc}(h:NOk y):y.2.2.2.2.1.length=4:=by
 have:=h.tree
 rw[Ze,h.st]at this
 have:=congrArg (fun z:X3=>z.1.length) this
 simpa[leaves]using this
theorem QBl {m:QS}(h:MOk m):m.2.2.2.2.2.2.2.2.1.length<=4:=by
 rcases Qsi _ _ h.lv (by omega)with h|h
 ·omega
 ·rw[h];simp
theorem QFZ {a b c d e f:Nat}(h:a<=5/\b<=5/\c<=5/\d<=5/\e<=5/\f<=5):a<=maxLen/\b<=maxLen/\c<=maxLen/\d<=maxLen/\e<=maxLen/\f<=maxLen:=by
 simp only[maxLen];omega
theorem QH2 {y:Qc}(h:NOk y) (k to num:Int):Qal (msg y k to num):=by
 have h1:=Zx h
 have h2:=QbF (Qci (y.2.2.1,y.2.2.2.1))
 exact QFZ ⟨by simp[msg],by simp only[msg];omega,by simp[msg],by simp[msg],by simp[msg],by simp only[msg];omega⟩
theorem QDx {y:Qc}(h:NOk y) (m:QS):Qal (xd y m):=by
 have h1:=Zx h
 have h2:=QbF (Qci (y.2.2.1,y.2.2.2.1))
 have h3:=QGN h
 have h4:=Qqv y.2.2.2.2.1 y.2.2.2.2.2.1 m.2.2.2.2.2.1 m.2.2.2.2.2.2.1
 have h5:=Kl (QCI h (differ y.2.2.2.2.1 y.2.2.2.2.2.1 m.2.2.2.2.2.1 m.2.2.2.2.2.2.1) (rd1 0 m.2.2.2.2.2.2.2.1 y.1))
 exact QFZ ⟨by simp only[xd];omega,by simp only[xd];omega,by simp only[xd];omega,by simp only[xd];omega,by simp only[xd];omega,by simp only[xd];omega⟩
theorem QG3 {y:Qc}(h:NOk y) {m:QS}(hm:MOk m):Qal (QbB y m):=by
 have h1:=Zx h
 have h2:=QbF (Qci (y.2.2.1,y.2.2.2.1))
 have h4:=QBl hm
 have h5:=Kl (QCI h m.2.2.2.2.2.2.2.2.1 (rd1 0 m.2.2.2.2.2.2.2.1 y.1))
 exact QFZ ⟨by simp[QbB],by simp only[QbB];omega,by simp only[QbB];omega,by simp only[QbB];omega,by simp only[QbB];omega,by simp only[QbB];omega⟩
def yo (x:Qc) (m:QS):List QB:=bif decide (0<=KJ x m true)then x.2.2.2.2.2.2.2.2.2.2.2.2.2.2.1.set (KJ x m true).toNat ((rd1 Zr x.2.2.2.2.2.2.2.2.2.2.2.2.2.2.1 (KJ x m true)).1,m.2.2.2.1,(rd1 Zr x.2.2.2.2.2.2.2.2.2.2.2.2.2.2.1 (KJ x m true)).2.2.1,0)else x.2.2.2.2.2.2.2.2.2.2.2.2.2.2.1++[(m.2.1,m.2.2.2.1,true,0)]
def X7 (x:Qc) (m:QS):Bool:= !decide (0<=KJ x m true)&&decide (x.2.2.2.2.2.2.2.2.2.2.2.2.2.1<=((x.2.2.2.2.2.2.2.2.2.2.2.2.2.2.1.length:Nat):Int))
theorem QzK (x:Qc) (m:QS):(∃i:Nat,∃hi:i<x.2.2.2.2.2.2.2.2.2.2.2.2.2.2.1.length,XK (Xo m.2.1 true 0 x.2.2.2.2.2.2.2.2.2.2.2.2.2.2.1)=(i:Int)/\X7 x m=false/\yo x m=x.2.2.2.2.2.2.2.2.2.2.2.2.2.2.1.set i ((x.2.2.2.2.2.2.2.2.2.2.2.2.2.2.1)[i].1,m.2.2.2.1,(x.2.2.2.2.2.2.2.2.2.2.2.2.2.2.1)[i].2.2.1,0))\/(XK (Xo m.2.1 true 0 x.2.2.2.2.2.2.2.2.2.2.2.2.2.2.1)<0/\x.2.2.2.2.2.2.2.2.2.2.2.2.2.1<=((x.2.2.2.2.2.2.2.2.2.2.2.2.2.2.1.length:Nat):Int)/\X7 x m=true)\/(XK (Xo m.2.1 true 0 x.2.2.2.2.2.2.2.2.2.2.2.2.2.2.1)<0/\¬x.2.2.2.2.2.2.2.2.2.2.2.2.2.1<=((x.2.2.2.2.2.2.2.2.2.2.2.2.2.2.1.length:Nat):Int)/\X7 x m=false/\yo x m=x.2.2.2.2.2.2.2.2.2.2.2.2.2.2.1++[(m.2.1,m.2.2.2.1,true,0)]):=by
 unfold X7 yo KJ
 by_cases hs:XK (Xo m.2.1 true 0 x.2.2.2.2.2.2.2.2.2.2.2.2.2.2.1)<0
 ·rw[df (show¬0<=XK (Xo m.2.1 true 0 x.2.2.2.2.2.2.2.2.2.2.2.2.2.2.1) by omega)]
  by_cases hf:x.2.2.2.2.2.2.2.2.2.2.2.2.2.1<=((x.2.2.2.2.2.2.2.2.2.2.2.2.2.2.1.length:Nat):Int)
  ·exact .inr (.inl ⟨hs,hf,by rw[dt hf];rfl⟩)
  ·exact .inr (.inr ⟨hs,hf,by rw[df hf];rfl,rfl⟩)
 ·obtain⟨i,e,hi,_⟩:=QhB _ _ _ _ hs
  rw[QRo]at e
  refine .inl ⟨i,hi,e, ?_, ?_⟩
  ·rw[dt (show 0<=XK (Xo m.2.1 true 0 x.2.2.2.2.2.2.2.2.2.2.2.2.2.2.1) by omega)];rfl
  ·rw[dt (show 0<=XK (Xo m.2.1 true 0 x.2.2.2.2.2.2.2.2.2.2.2.2.2.2.1) by omega),e,Qg hi,QRb];rfl
def Qv (x:Qc) (m:QS):Qc:=heard (jV x (yo x m)) m
theorem Qoa {x:Qc}(h:NOk x) {m:QS}(hf:Fit x m) (hc:X7 x m=false):NOk (jV x (yo x m)):=by
 have hw:=Xg.1 h.wait
 have hr:=h.room
 unfold X7 at hc
 unfold yo
 by_cases hs:0<=KJ x m true
 ·rw[dt hs]
  obtain⟨i,e,hi,hki⟩:=QhB _ _ _ _ (show¬XK (Xo m.2.1 true 0 x.2.2.2.2.2.2.2.2.2.2.2.2.2.2.1)<0 by unfold KJ at hs;omega)
  rw[QRo]at e
  have e':KJ x m true=(i:Int):=e
  rw[e',Qg hi,QRb]
  refine Qlf h (by simp only[QQ1,QY12];exact hr) (QJ6 h.sess hi ?_ rfl rfl)
  have ho:=((Qgi _ _ _ _).1 h.sess).1 _ (QRf hi)
  simp only[JP,QQ5]at ho⊢
  exact⟨⟨ho.1.1,hf.ok.num⟩,by rw[Xg];omega⟩
 ·rw[df hs]at hc⊢
  simp only[QQ4,QRd,decide_eq_false_iff_not]at hc
  refine Qlf h (by simp only[QQ2,QRj,QY1,QY6];omega) (QBD h.sess ?_ (by unfold KJ at hs;simp only;omega))
  have h1:=Xg.1 hf.ok.src
  have h2:=hf.src
  have h3:=hf.ok.two
  have h4:=hf.to
  simp only[JP,QkR,QQ5,Xg,QY14,decide_eq_false_iff_not]
  have h5:=Xg.1 hf.ok.num
  refine⟨⟨⟨⟨h1.1,by omega⟩, ?_⟩,h5⟩,by omega⟩
  omega
theorem QBi {x:Qc}{m:QS}(hf:Fit x m) (l:List QB):Fit (jV x l) m:=⟨hf.ok,hf.to,hf.src,hf.len⟩
theorem jR {x:Qc}(h:NOk x) {m:QS}(hf:Fit x m) (hc:X7 x m=false):NOk (Qv x m):=ju (Qoa h hf hc) (QBi hf _)
set_option maxHeartbeats 2000000 in
theorem QAo (x:Qc) (h:NOk x) (m:QS) (hf:Fit x m):yS w (n11T x (n12E m))=some (bif X7 x m then(n11T x ([msg x 5 m.2.1 m.2.2.2.1],3))else((Qv x m).1,(Qv x m).2.1,(Qv x m).2.2.1,(Qv x m).2.2.2.1,(Qv x m).2.2.2.2.1,(Qv x m).2.2.2.2.2.1,(Qv x m).2.2.2.2.2.2.1,(Qv x m).2.2.2.2.2.2.2.1,(Qv x m).2.2.2.2.2.2.2.2.1,(Qv x m).2.2.2.2.2.2.2.2.2.1,(Qv x m).2.2.2.2.2.2.2.2.2.2.1,(Qv x m).2.2.2.2.2.2.2.2.2.2.2.1,(Qv x m).2.2.2.2.2.2.2.2.2.2.2.2.1,(Qv x m).2.2.2.2.2.2.2.2.2.2.2.2.2.1,(Qv x m).2.2.2.2.2.2.2.2.2.2.2.2.2.2.1,(Qv x m).2.2.2.2.2.2.2.2.2.2.2.2.2.2.2.1,(Qv x m).2.2.2.2.2.2.2.2.2.2.2.2.2.2.2.2.1,(Qv x m).2.2.2.2.2.2.2.2.2.2.2.2.2.2.2.2.2.1,(Qv x m).2.2.2.2.2.2.2.2.2.2.2.2.2.2.2.2.2.2,[xd (Qv x m) m],0)):=by
 have hk:=Zx h
 have hsm:=XS h
 have hr:=h.room
 obtain⟨j,hj,hj2⟩:=QoL h hf
 have hi0:inb x.1 m.2.2.2.2.2.2.2.1.length=true:=by rw[hj];exact Qj hj2
 have hY:X7 x m=false->ZE w (x.1,x.2.1,x.2.2.1,x.2.2.2.1,x.2.2.2.2.1,x.2.2.2.2.2.1,x.2.2.2.2.2.2.1,x.2.2.2.2.2.2.2.1,x.2.2.2.2.2.2.2.2.1,x.2.2.2.2.2.2.2.2.2.1,x.2.2.2.2.2.2.2.2.2.2.1,x.2.2.2.2.2.2.2.2.2.2.2.1,x.2.2.2.2.2.2.2.2.2.2.2.2.1,x.2.2.2.2.2.2.2.2.2.2.2.2.2.1,yo x m,x.2.2.2.2.2.2.2.2.2.2.2.2.2.2.2.1,x.2.2.2.2.2.2.2.2.2.2.2.2.2.2.2.2.1,x.2.2.2.2.2.2.2.2.2.2.2.2.2.2.2.2.2.1,x.2.2.2.2.2.2.2.2.2.2.2.2.2.2.2.2.2.2,n12E m)=some (Qv x m):=fun hc=>QfB (jV x (yo x m)) (Qoa h hf hc) m (QBi hf _)
 have hm3:X7 x m=false->YF w ((Qv x m).1,(Qv x m).2.1,(Qv x m).2.2.1,(Qv x m).2.2.2.1,(Qv x m).2.2.2.2.1,(Qv x m).2.2.2.2.2.1,(Qv x m).2.2.2.2.2.2.1,(Qv x m).2.2.2.2.2.2.2.1,(Qv x m).2.2.2.2.2.2.2.2.1,(Qv x m).2.2.2.2.2.2.2.2.2.1,(Qv x m).2.2.2.2.2.2.2.2.2.2.1,(Qv x m).2.2.2.2.2.2.2.2.2.2.2.1,(Qv x m).2.2.2.2.2.2.2.2.2.2.2.2.1,(Qv x m).2.2.2.2.2.2.2.2.2.2.2.2.2.1,(Qv x m).2.2.2.2.2.2.2.2.2.2.2.2.2.2.1,(Qv x m).2.2.2.2.2.2.2.2.2.2.2.2.2.2.2.1,(Qv x m).2.2.2.2.2.2.2.2.2.2.2.2.2.2.2.2.1,(Qv x m).2.2.2.2.2.2.2.2.2.2.2.2.2.2.2.2.2.1,(Qv x m).2.2.2.2.2.2.2.2.2.2.2.2.2.2.2.2.2.2,3,m.2.1,m.2.2.2.1)=some (msg (Qv x m) 3 m.2.1 m.2.2.2.1):=fun hc=>Qju (Qv x m) (jR h hf hc) 3 m.2.1 m.2.2.2.1
 have hct:X7 x m=false->Vs w ((Qv x m).2.2.2.2.1,(Qv x m).2.2.2.2.2.1)=some ((Qv x m).2.2.2.2.1,(Qv x m).2.2.2.2.2.1):=fun hc=>Qs2 ((Qv x m).2.2.2.2.1,(Qv x m).2.2.2.2.2.1) (by have:=QGN (jR h hf hc);simp only[ZD,QW];omega)
 have hdl:=Qqv (Qv x m).2.2.2.2.1 (Qv x m).2.2.2.2.2.1 m.2.2.2.2.2.1 m.2.2.2.2.2.2.1
 have hpf:X7 x m=false->KD w ((Qv x m).1,(Qv x m).2.1,(Qv x m).2.2.1,(Qv x m).2.2.2.1,(Qv x m).2.2.2.2.1,(Qv x m).2.2.2.2.2.1,(Qv x m).2.2.2.2.2.2.1,(Qv x m).2.2.2.2.2.2.2.1,(Qv x m).2.2.2.2.2.2.2.2.1,(Qv x m).2.2.2.2.2.2.2.2.2.1,(Qv x m).2.2.2.2.2.2.2.2.2.2.1,(Qv x m).2.2.2.2.2.2.2.2.2.2.2.1,(Qv x m).2.2.2.2.2.2.2.2.2.2.2.2.1,(Qv x m).2.2.2.2.2.2.2.2.2.2.2.2.2.1,(Qv x m).2.2.2.2.2.2.2.2.2.2.2.2.2.2.1,(Qv x m).2.2.2.2.2.2.2.2.2.2.2.2.2.2.2.1,(Qv x m).2.2.2.2.2.2.2.2.2.2.2.2.2.2.2.2.1,(Qv x m).2.2.2.2.2.2.2.2.2.2.2.2.2.2.2.2.2.1,(Qv x m).2.2.2.2.2.2.2.2.2.2.2.2.2.2.2.2.2.2,differ (Qv x m).2.2.2.2.1 (Qv x m).2.2.2.2.2.1 m.2.2.2.2.2.1 m.2.2.2.2.2.2.1,n12E m)=some (QaJ (Qv x m) (differ (Qv x m).2.2.2.2.1 (Qv x m).2.2.2.2.2.1 m.2.2.2.2.2.1 m.2.2.2.2.2.2.1) (rd1 0 m.2.2.2.2.2.2.2.1 x.1)):=fun hc=>Qxe (Qv x m) (jR h hf hc) _ (by simp only[maxLen];omega) m hi0
 apply QqT
 simp only[QeQ,QHx x m.2.1 true (by simp only[maxLen];omega),QQ0]
 rcases QzK x m with⟨i,hi,e,hc,hss⟩|⟨hs,hfl,hc⟩|⟨hs,hfl,hc,hss⟩
 ·have hY:=hY hc
  have hm3:=hm3 hc
  have hct:=hct hc
  have hpf:=hpf hc
  rw[hss]at hY
  have hs1:i<(x.2.2.2.2.2.2.2.2.2.2.2.2.2.2.1.set i ((x.2.2.2.2.2.2.2.2.2.2.2.2.2.2.1)[i].1,m.2.2.2.1,(x.2.2.2.2.2.2.2.2.2.2.2.2.2.2.1)[i].2.2)).length:=by simpa using hi
  have hr1:=Kf (d:=Zr) (v:=((x.2.2.2.2.2.2.2.2.2.2.2.2.2.2.1)[i].1,m.2.2.2.1,(x.2.2.2.2.2.2.2.2.2.2.2.2.2.2.1)[i].2.2)) hi
  rw[hc,e,dt (show(0:Int)<=(i:Int) by omega)]
  simp only[Qj hi,Qg hi,QRb,Qj hs1,QQ1,hr1,QY20,QQ2]
  rw[hY]
  simp only[QQ0,hm3,hct,QzX,hpf,hi0,QQ1]
  rfl
 ·rw[hc,df (show¬(0:Int)<=XK (Xo m.2.1 true 0 x.2.2.2.2.2.2.2.2.2.2.2.2.2.2.1) by omega)]
  rw[dt hfl]
  simp only[QQ1,QQ2,Qju x h,QQ0]
 ·have hY:=hY hc
  have hm3:=hm3 hc
  have hct:=hct hc
  have hpf:=hpf hc
  rw[hss]at hY
  rw[hc,df (show¬(0:Int)<=XK (Xo m.2.1 true 0 x.2.2.2.2.2.2.2.2.2.2.2.2.2.2.1) by omega)]
  rw[df hfl]
  simp only[QQ1,QQ2]
  rw[Qu (by simp;omega),QQ1,hY]
  simp only[QQ0,hm3,hct,QzX,hpf,hi0,QQ1]
  rfl
set_option maxHeartbeats 2000000 in
theorem QH8 (x:Qc) (h:NOk x) (m:QS) (hf:Fit x m):Qga w (n11T x (n12E m))=some (bif X7 x m then(n11T x ([msg x 5 m.2.1 m.2.2.2.1],3))else((Qv x m).1,(Qv x m).2.1,(Qv x m).2.2.1,(Qv x m).2.2.2.1,(Qv x m).2.2.2.2.1,(Qv x m).2.2.2.2.2.1,(Qv x m).2.2.2.2.2.2.1,(Qv x m).2.2.2.2.2.2.2.1,(Qv x m).2.2.2.2.2.2.2.2.1,(Qv x m).2.2.2.2.2.2.2.2.2.1,(Qv x m).2.2.2.2.2.2.2.2.2.2.1,(Qv x m).2.2.2.2.2.2.2.2.2.2.2.1,(Qv x m).2.2.2.2.2.2.2.2.2.2.2.2.1,(Qv x m).2.2.2.2.2.2.2.2.2.2.2.2.2.1,(Qv x m).2.2.2.2.2.2.2.2.2.2.2.2.2.2.1,(Qv x m).2.2.2.2.2.2.2.2.2.2.2.2.2.2.2.1,(Qv x m).2.2.2.2.2.2.2.2.2.2.2.2.2.2.2.2.1,(Qv x m).2.2.2.2.2.2.2.2.2.2.2.2.2.2.2.2.2.1,(Qv x m).2.2.2.2.2.2.2.2.2.2.2.2.2.2.2.2.2.2,[xd (Qv x m) m],0)):=by
 have hk:=Zx h
 have hsm:=XS h
 have hr:=h.room
 have hcx:=Qpo h
 obtain⟨j,hj,hj2⟩:=QoL h hf
 have hi0:inb x.1 m.2.2.2.2.2.2.2.1.length=true:=by rw[hj];exact Qj hj2
 have hY:X7 x m=false->Y5 w (x.1,x.2.1,x.2.2.1,x.2.2.2.1,x.2.2.2.2.1,x.2.2.2.2.2.1,x.2.2.2.2.2.2.1,x.2.2.2.2.2.2.2.1,x.2.2.2.2.2.2.2.2.1,x.2.2.2.2.2.2.2.2.2.1,x.2.2.2.2.2.2.2.2.2.2.1,x.2.2.2.2.2.2.2.2.2.2.2.1,x.2.2.2.2.2.2.2.2.2.2.2.2.1,x.2.2.2.2.2.2.2.2.2.2.2.2.2.1,yo x m,x.2.2.2.2.2.2.2.2.2.2.2.2.2.2.2.1,x.2.2.2.2.2.2.2.2.2.2.2.2.2.2.2.2.1,x.2.2.2.2.2.2.2.2.2.2.2.2.2.2.2.2.2.1,x.2.2.2.2.2.2.2.2.2.2.2.2.2.2.2.2.2.2,n12E m)=some (Qv x m):=fun hc=>Qoo (jV x (yo x m)) (Qoa h hf hc) m (QBi hf _)
 have hm3:X7 x m=false->Ks w ((Qv x m).1,(Qv x m).2.1,(Qv x m).2.2.1,(Qv x m).2.2.2.1,(Qv x m).2.2.2.2.1,(Qv x m).2.2.2.2.2.1,(Qv x m).2.2.2.2.2.2.1,(Qv x m).2.2.2.2.2.2.2.1,(Qv x m).2.2.2.2.2.2.2.2.1,(Qv x m).2.2.2.2.2.2.2.2.2.1,(Qv x m).2.2.2.2.2.2.2.2.2.2.1,(Qv x m).2.2.2.2.2.2.2.2.2.2.2.1,(Qv x m).2.2.2.2.2.2.2.2.2.2.2.2.1,(Qv x m).2.2.2.2.2.2.2.2.2.2.2.2.2.1,(Qv x m).2.2.2.2.2.2.2.2.2.2.2.2.2.2.1,(Qv x m).2.2.2.2.2.2.2.2.2.2.2.2.2.2.2.1,(Qv x m).2.2.2.2.2.2.2.2.2.2.2.2.2.2.2.2.1,(Qv x m).2.2.2.2.2.2.2.2.2.2.2.2.2.2.2.2.2.1,(Qv x m).2.2.2.2.2.2.2.2.2.2.2.2.2.2.2.2.2.2,3,m.2.1,m.2.2.2.1)=some (msg (Qv x m) 3 m.2.1 m.2.2.2.1):=fun hc=>Qng (Qv x m) (jR h hf hc) 3 m.2.1 m.2.2.2.1
 have hct:X7 x m=false->xf w ((Qv x m).2.2.2.2.1,(Qv x m).2.2.2.2.2.1)=some ((Qv x m).2.2.2.2.1,(Qv x m).2.2.2.2.2.1):=fun hc=>QzT ((Qv x m).2.2.2.2.1,(Qv x m).2.2.2.2.2.1) (by have:=QGN (jR h hf hc);simp only[ZD,QW];omega)
 have hdl:=Qqv (Qv x m).2.2.2.2.1 (Qv x m).2.2.2.2.2.1 m.2.2.2.2.2.1 m.2.2.2.2.2.2.1
 have hpf:X7 x m=false->Jf w ((Qv x m).1,(Qv x m).2.1,(Qv x m).2.2.1,(Qv x m).2.2.2.1,(Qv x m).2.2.2.2.1,(Qv x m).2.2.2.2.2.1,(Qv x m).2.2.2.2.2.2.1,(Qv x m).2.2.2.2.2.2.2.1,(Qv x m).2.2.2.2.2.2.2.2.1,(Qv x m).2.2.2.2.2.2.2.2.2.1,(Qv x m).2.2.2.2.2.2.2.2.2.2.1,(Qv x m).2.2.2.2.2.2.2.2.2.2.2.1,(Qv x m).2.2.2.2.2.2.2.2.2.2.2.2.1,(Qv x m).2.2.2.2.2.2.2.2.2.2.2.2.2.1,(Qv x m).2.2.2.2.2.2.2.2.2.2.2.2.2.2.1,(Qv x m).2.2.2.2.2.2.2.2.2.2.2.2.2.2.2.1,(Qv x m).2.2.2.2.2.2.2.2.2.2.2.2.2.2.2.2.1,(Qv x m).2.2.2.2.2.2.2.2.2.2.2.2.2.2.2.2.2.1,(Qv x m).2.2.2.2.2.2.2.2.2.2.2.2.2.2.2.2.2.2,differ (Qv x m).2.2.2.2.1 (Qv x m).2.2.2.2.2.1 m.2.2.2.2.2.1 m.2.2.2.2.2.2.1,rd1 0 m.2.2.2.2.2.2.2.1 x.1)=some (QaJ (Qv x m) (differ (Qv x m).2.2.2.2.1 (Qv x m).2.2.2.2.2.1 m.2.2.2.2.2.1 m.2.2.2.2.2.2.1) (rd1 0 m.2.2.2.2.2.2.2.1 x.1)):=fun hc=>Qxi (Qv x m) (jR h hf hc) _ (by simp only[maxLen];omega) _
 apply Qx2
 simp only[QnC,QCe x m.2.1 true (by simp only[maxLen];omega),hcx,QQ0]
 rcases QzK x m with⟨i,hi,e,hc,hss⟩|⟨hs,hfl,hc⟩|⟨hs,hfl,hc,hss⟩
 ·have hY:=hY hc
  have hm3:=hm3 hc
  have hct:=hct hc
  have hpf:=hpf hc
  rw[hss]at hY
  have hs1:i<(x.2.2.2.2.2.2.2.2.2.2.2.2.2.2.1.set i ((x.2.2.2.2.2.2.2.2.2.2.2.2.2.2.1)[i].1,m.2.2.2.1,(x.2.2.2.2.2.2.2.2.2.2.2.2.2.2.1)[i].2.2)).length:=by simpa using hi
  have hr1:=Kf (d:=Zr) (v:=((x.2.2.2.2.2.2.2.2.2.2.2.2.2.2.1)[i].1,m.2.2.2.1,(x.2.2.2.2.2.2.2.2.2.2.2.2.2.2.1)[i].2.2)) hi
  rw[hc,e,dt (show(0:Int)<=(i:Int) by omega)]
  simp only[Qj hi,Qg hi,QRb,Qj hs1,QQ1,hr1,QY20,QQ2]
  rw[hY]
  simp only[QQ0,hm3,hct,Qw2,hpf,hi0,QQ1]
  rfl
 ·rw[hc,df (show¬(0:Int)<=XK (Xo m.2.1 true 0 x.2.2.2.2.2.2.2.2.2.2.2.2.2.2.1) by omega)]
  rw[dt (show((x.2.2.2.2.2.2.2.2.2.2.2.2.2.2.1.length:Nat):Int)=x.2.2.2.2.2.2.2.2.2.2.2.2.2.1 by omega)]
  simp only[QQ1,QQ2,Qng x h,QQ0]
 ·have hY:=hY hc
  have hm3:=hm3 hc
  have hct:=hct hc
  have hpf:=hpf hc
  rw[hss]at hY
  rw[hc,df (show¬(0:Int)<=XK (Xo m.2.1 true 0 x.2.2.2.2.2.2.2.2.2.2.2.2.2.2.1) by omega)]
  rw[df (show¬((x.2.2.2.2.2.2.2.2.2.2.2.2.2.2.1.length:Nat):Int)=x.2.2.2.2.2.2.2.2.2.2.2.2.2.1 by omega)]
  simp only[QQ1,QQ2]
  rw[Qu (by simp;omega),QQ1,hY]
  simp only[QQ0,hm3,hct,Qw2,hpf,hi0,QQ1]
  rfl
def yy (x:Qc) (m:QS):Bool:=Kc m&&(decide (m.2.2.1=x.1)&&(!decide (x.2.1<=m.2.1)&&decide (((m.2.2.2.2.2.2.2.1.length:Nat):Int)=x.2.1)))
theorem Qv9 {x:Qc}{m:QS}(h:yy x m=true):Fit x m:=by
 simp only[yy,QQ5,QY14,QRu,decide_eq_false_iff_not]at h
 exact⟨mok h.1,h.2.1,by omega,h.2.2.2⟩
def rcv (x:Qc) (m:QS):Qc×List QS×Int:=bif yy x m then
 (bif decide (m.1=0)then(brought x m,[msg (brought x m) 1 m.2.1 m.2.2.2.1],0)
 else bif decide (m.1=1)then(heard x m,[],0)
 else bif decide (m.1=2)then(bif X7 x m then(x,[msg x 5 m.2.1 m.2.2.2.1],3)else(Qv x m,[xd (Qv x m) m],0))
 else bif decide (m.1=3)then(bif decide (find x m false<0)then(x,[],2)else(brought (gone x (find x m false)) m,[QbB (brought (gone x (find x m false)) m) m],0))
 else bif decide (m.1=4)then(bif decide (find x m true<0)then(x,[],2)else(brought (gone x (find x m true)) m,[],0))
 else(bif decide (find x m false<0)then(x,[],2)else(gone x (find x m false),[],0)))
 else(x,[],1)
def flat (r:Qc×List QS×Int):Int×Int×(List Qf)×(List Qa)×(List Int)×Int×Int×Int×(List Qk)×(List Int)×(List Int)×(List (List Int))×Int×Int×(List QB)×Int×Int×Int×(List QR)×(List QS)×Int:=(r.1.1,r.1.2.1,r.1.2.2.1,r.1.2.2.2.1,r.1.2.2.2.2.1,r.1.2.2.2.2.2.1,r.1.2.2.2.2.2.2.1,r.1.2.2.2.2.2.2.2.1,r.1.2.2.2.2.2.2.2.2.1,r.1.2.2.2.2.2.2.2.2.2.1,r.1.2.2.2.2.2.2.2.2.2.2.1,r.1.2.2.2.2.2.2.2.2.2.2.2.1,r.1.2.2.2.2.2.2.2.2.2.2.2.2.1,r.1.2.2.2.2.2.2.2.2.2.2.2.2.2.1,r.1.2.2.2.2.2.2.2.2.2.2.2.2.2.2.1,r.1.2.2.2.2.2.2.2.2.2.2.2.2.2.2.2.1,r.1.2.2.2.2.2.2.2.2.2.2.2.2.2.2.2.2.1,r.1.2.2.2.2.2.2.2.2.2.2.2.2.2.2.2.2.2.1,r.1.2.2.2.2.2.2.2.2.2.2.2.2.2.2.2.2.2.2,r.2.1,r.2.2)
theorem vp {x:Qc}{m:QS}(hf:Fit x m) (k:Int):Fit (gone x k) m:=⟨hf.ok,hf.to,hf.src,hf.len⟩
theorem Qsf {x:Qc}(h:NOk x) (m:QS):NOk (rcv x m).1:=by
 unfold rcv
 cases hb:yy x m
 ·exact h
 ·have hf:=Qv9 hb
  simp only[QQ1]
  cases decide (m.1=0)<;>simp only[QQ1,QQ2]
  ·cases decide (m.1=1)<;>simp only[QQ1,QQ2]
   ·cases decide (m.1=2)<;>simp only[QQ1,QQ2]
    ·cases decide (m.1=3)<;>simp only[QQ1,QQ2]
     ·cases decide (m.1=4)<;>simp only[QQ1,QQ2]
      ·cases decide (find x m false<0)
       ·exact qZ h _
       ·exact h
      ·cases decide (find x m true<0)
       ·exact Z7 (qZ h _) (vp hf _)
       ·exact h
     ·cases decide (find x m false<0)
      ·exact Z7 (qZ h _) (vp hf _)
      ·exact h
    ·cases hc:X7 x m
     ·exact jR h hf hc
     ·exact h
   ·exact ju h hf
  ·exact Z7 h hf
theorem QES {x:Qc}(h:NOk x) (m:QS):∀a∈(rcv x m).2.1,Qal a/\a.2.2.1=m.2.1/\a.2.1=x.1:=by
 unfold rcv
 cases hb:yy x m
 ·simp
 ·have hf:=Qv9 hb
  simp only[QQ1]
  cases decide (m.1=0)<;>simp only[QQ1,QQ2]
  ·cases decide (m.1=1)<;>simp only[QQ1,QQ2]
   ·cases decide (m.1=2)<;>simp only[QQ1,QQ2]
    ·cases decide (m.1=3)<;>simp only[QQ1,QQ2]
     ·cases decide (m.1=4)<;>simp only[QQ1,QQ2]
      ·cases decide (find x m false<0)<;>simp
      ·cases decide (find x m true<0)<;>simp
     ·cases decide (find x m false<0)
      ·intro a ha
       obtain rfl:=List.mem_singleton.1 ha
       exact⟨QG3 (Z7 (qZ h _) (vp hf _)) hf.ok,rfl,rfl⟩
      ·simp
    ·cases hc:X7 x m
     ·intro a ha
      obtain rfl:=List.mem_singleton.1 ha
      exact⟨QDx (jR h hf hc) m,rfl,rfl⟩
     ·intro a ha
      obtain rfl:=List.mem_singleton.1 ha
      exact⟨QH2 h _ _ _,rfl,rfl⟩
   ·simp
  ·intro a ha
   obtain rfl:=List.mem_singleton.1 ha
   exact⟨QH2 (Z7 h hf) _ _ _,rfl,rfl⟩
theorem QLf (m:QS) (h:Qal m):zQ w (n12E m)=some (Kc m):=Qur m.1 m.2.1 m.2.2.1 m.2.2.2.1 m.2.2.2.2.1 m.2.2.2.2.2.1 m.2.2.2.2.2.2.1 m.2.2.2.2.2.2.2.1 m.2.2.2.2.2.2.2.2.1 m.2.2.2.2.2.2.2.2.2.1 m.2.2.2.2.2.2.2.2.2.2.1 m.2.2.2.2.2.2.2.2.2.2.2 h
theorem QI5 (m:QS) (h:Qal m):zr w (n12E m)=some (Kc m):=QqW m.1 m.2.1 m.2.2.1 m.2.2.2.1 m.2.2.2.2.1 m.2.2.2.2.2.1 m.2.2.2.2.2.2.1 m.2.2.2.2.2.2.2.1 m.2.2.2.2.2.2.2.2.1 m.2.2.2.2.2.2.2.2.2.1 m.2.2.2.2.2.2.2.2.2.2.1 m.2.2.2.2.2.2.2.2.2.2.2 h
set_option maxHeartbeats 2000000 in
theorem QF3 (x:Qc) (h:NOk x) (m:QS) (hm:Qal m):Qdm w (n11T x (n12E m))=some (flat (rcv x m)):=by
 have hsm:=XS h
 have hk:=Zx h
 have hc:=QE8 h
 have hn:=okN h
 apply Qwu
 simp only[Qmk,hc,hn,QLf m hm,QQ0,QQ3,QQ2]
 unfold rcv
 cases hmk:Kc m
 ·simp only[yy,hmk,QRm,QQ2];rfl
 ·by_cases h2:m.2.2.1=x.1
  ·by_cases h1:x.2.1<=m.2.1
   ·simp only[yy,hmk,dt h2,dt h1,QQ3,QRm,QY13,QRd,QQ2,QQ1];rfl
   ·by_cases h7:((m.2.2.2.2.2.2.2.1.length:Nat):Int)=x.2.1
    ·have hb:yy x m=true:=by simp only[yy,hmk,dt h2,df h1,dt h7];rfl
     have hf:=Qv9 hb
     rw[hb,dt h2,df h1,dt h7]
     simp only[QQ3,QQ2,QQ1]
     obtain⟨j,hj,hj2⟩:=QoL h hf
     have hi0:inb x.1 m.2.2.2.2.2.2.2.1.length=true:=by rw[hj];exact Qj hj2
     have hkd:=Xg.1 hf.ok.kind
     have hlv:=QBl hf.ok
     have hmx:m.2.2.2.2.2.2.2.2.1.length<=maxLen:=by simp only[maxLen];omega
     rcases(show m.1=0\/m.1=1\/m.1=2\/m.1=3\/m.1=4\/m.1=5 by omega)with hz|hz|hz|hz|hz|hz
     ·simp only[df (show¬m.1=1 by omega),df (show¬m.1=2 by omega),df (show¬m.1=3 by omega),df (show¬m.1=4 by omega),df (show¬m.1=5 by omega),dt hz,QQ1,Qrc x h m hf,Qju _ (Z7 h hf),QQ0];rfl
     ·simp only[df (show¬m.1=0 by omega),df (show¬m.1=2 by omega),df (show¬m.1=3 by omega),df (show¬m.1=4 by omega),df (show¬m.1=5 by omega),dt hz,QQ1,QQ2,QfB x h m hf,QQ0];rfl
     ·simp only[df (show¬m.1=0 by omega),df (show¬m.1=1 by omega),df (show¬m.1=3 by omega),df (show¬m.1=4 by omega),df (show¬m.1=5 by omega),dt hz,QQ1,QQ2,QAo x h m hf,QQ0]
      cases X7 x m<;>rfl
     ·simp only[df (show¬m.1=0 by omega),df (show¬m.1=1 by omega),df (show¬m.1=2 by omega),df (show¬m.1=4 by omega),df (show¬m.1=5 by omega),dt hz,QQ1,QQ2,Qqe x h m false,QQ0]
      by_cases hg:find x m false<0
      ·rw[dt hg];rfl
      ·rw[df hg]
       have hgn:=qZ h (find x m false)
       have hgf:=vp hf (find x m false)
       have ha:VR w (x.1,x.2.1,x.2.2.1,x.2.2.2.1,x.2.2.2.2.1,x.2.2.2.2.2.1,x.2.2.2.2.2.2.1,x.2.2.2.2.2.2.2.1,x.2.2.2.2.2.2.2.2.1,x.2.2.2.2.2.2.2.2.2.1,x.2.2.2.2.2.2.2.2.2.2.1,x.2.2.2.2.2.2.2.2.2.2.2.1,x.2.2.2.2.2.2.2.2.2.2.2.2.1,x.2.2.2.2.2.2.2.2.2.2.2.2.2.1,QnD x.2.2.2.2.2.2.2.2.2.2.2.2.2.2.1 (find x m false),x.2.2.2.2.2.2.2.2.2.2.2.2.2.2.2.1,x.2.2.2.2.2.2.2.2.2.2.2.2.2.2.2.2.1,x.2.2.2.2.2.2.2.2.2.2.2.2.2.2.2.2.2.1,x.2.2.2.2.2.2.2.2.2.2.2.2.2.2.2.2.2.2,n12E m)=some (brought (gone x (find x m false)) m):=Qrc (gone x (find x m false)) hgn m hgf
       have hbn:=Z7 hgn hgf
       have hp:KD w ((brought (gone x (find x m false)) m).1,(brought (gone x (find x m false)) m).2.1,(brought (gone x (find x m false)) m).2.2.1,(brought (gone x (find x m false)) m).2.2.2.1,(brought (gone x (find x m false)) m).2.2.2.2.1,(brought (gone x (find x m false)) m).2.2.2.2.2.1,(brought (gone x (find x m false)) m).2.2.2.2.2.2.1,(brought (gone x (find x m false)) m).2.2.2.2.2.2.2.1,(brought (gone x (find x m false)) m).2.2.2.2.2.2.2.2.1,(brought (gone x (find x m false)) m).2.2.2.2.2.2.2.2.2.1,(brought (gone x (find x m false)) m).2.2.2.2.2.2.2.2.2.2.1,(brought (gone x (find x m false)) m).2.2.2.2.2.2.2.2.2.2.2.1,(brought (gone x (find x m false)) m).2.2.2.2.2.2.2.2.2.2.2.2.1,(brought (gone x (find x m false)) m).2.2.2.2.2.2.2.2.2.2.2.2.2.1,(brought (gone x (find x m false)) m).2.2.2.2.2.2.2.2.2.2.2.2.2.2.1,(brought (gone x (find x m false)) m).2.2.2.2.2.2.2.2.2.2.2.2.2.2.2.1,(brought (gone x (find x m false)) m).2.2.2.2.2.2.2.2.2.2.2.2.2.2.2.2.1,(brought (gone x (find x m false)) m).2.2.2.2.2.2.2.2.2.2.2.2.2.2.2.2.2.1,(brought (gone x (find x m false)) m).2.2.2.2.2.2.2.2.2.2.2.2.2.2.2.2.2.2,m.2.2.2.2.2.2.2.2.1,n12E m)=some (QaJ (brought (gone x (find x m false)) m) m.2.2.2.2.2.2.2.2.1 (rd1 0 m.2.2.2.2.2.2.2.1 x.1)):=Qxe (brought (gone x (find x m false)) m) hbn _ hmx m hi0
       simp only[QQ3,QQ2,ha,Qju (brought (gone x (find x m false)) m) hbn,Qa8 m.2.2.2.2.2.2.2.2.1 (by omega),hp,QQ0];rfl
     ·simp only[df (show¬m.1=0 by omega),df (show¬m.1=1 by omega),df (show¬m.1=2 by omega),df (show¬m.1=3 by omega),df (show¬m.1=5 by omega),dt hz,QQ1,QQ2,Qqe x h m true,QQ0]
      by_cases hg:find x m true<0
      ·rw[dt hg];rfl
      ·rw[df hg]
       have hgn:=qZ h (find x m true)
       have hgf:=vp hf (find x m true)
       have ha:VR w (x.1,x.2.1,x.2.2.1,x.2.2.2.1,x.2.2.2.2.1,x.2.2.2.2.2.1,x.2.2.2.2.2.2.1,x.2.2.2.2.2.2.2.1,x.2.2.2.2.2.2.2.2.1,x.2.2.2.2.2.2.2.2.2.1,x.2.2.2.2.2.2.2.2.2.2.1,x.2.2.2.2.2.2.2.2.2.2.2.1,x.2.2.2.2.2.2.2.2.2.2.2.2.1,x.2.2.2.2.2.2.2.2.2.2.2.2.2.1,QnD x.2.2.2.2.2.2.2.2.2.2.2.2.2.2.1 (find x m true),x.2.2.2.2.2.2.2.2.2.2.2.2.2.2.2.1,x.2.2.2.2.2.2.2.2.2.2.2.2.2.2.2.2.1,x.2.2.2.2.2.2.2.2.2.2.2.2.2.2.2.2.2.1,x.2.2.2.2.2.2.2.2.2.2.2.2.2.2.2.2.2.2,n12E m)=some (brought (gone x (find x m true)) m):=Qrc (gone x (find x m true)) hgn m hgf
       have hbn:=Z7 hgn hgf
       simp only[QQ3,QQ2,ha,QQ0];rfl
     ·simp only[df (show¬m.1=0 by omega),df (show¬m.1=1 by omega),df (show¬m.1=2 by omega),df (show¬m.1=3 by omega),df (show¬m.1=4 by omega),dt hz,QQ1,QQ2,Qqe x h m false,QQ0]
      by_cases hg:find x m false<0
      ·rw[dt hg];rfl
      ·rw[df hg]
       have hgn:=qZ h (find x m false)
       have hgf:=vp hf (find x m false)
       rfl
    ·simp only[yy,hmk,dt h2,df h1,df h7,QQ4,QQ3,QY13,QRd,QQ2,QQ1];rfl
  ·simp only[yy,hmk,df h2,QQ4,QRm,QY13,QQ2,QQ1];rfl
set_option maxHeartbeats 2000000 in
theorem QDm (x:Qc) (h:NOk x) (m:QS) (hm:Qal m):QbT w (n11T x (n12E m))=some (flat (rcv x m)):=by
 have hsm:=XS h
 have hk:=Zx h
 have hc:=Qpo h
 have hn:=QQJ h
 apply Qwk
 simp only[Qkk,hc,hn,QI5 m hm,QQ0,QQ3,QQ2]
 unfold rcv
 cases hmk:Kc m
 ·simp only[yy,hmk,QRm,QQ2];rfl
 ·by_cases h2:m.2.2.1=x.1
  ·by_cases h1:x.2.1<=m.2.1
   ·simp only[yy,hmk,dt h2,dt h1,QQ3,QRm,QY13,QRd,QQ2,QQ1];rfl
   ·by_cases h7:((m.2.2.2.2.2.2.2.1.length:Nat):Int)=x.2.1
    ·have hb:yy x m=true:=by simp only[yy,hmk,dt h2,df h1,dt h7];rfl
     have hf:=Qv9 hb
     rw[hb,dt h2,df h1,dt h7]
     simp only[QQ3,QQ2,QQ1]
     obtain⟨j,hj,hj2⟩:=QoL h hf
     have hi0:inb x.1 m.2.2.2.2.2.2.2.1.length=true:=by rw[hj];exact Qj hj2
     have hkd:=Xg.1 hf.ok.kind
     have hlv:=QBl hf.ok
     have hmx:m.2.2.2.2.2.2.2.2.1.length<=maxLen:=by simp only[maxLen];omega
     rcases(show m.1=0\/m.1=1\/m.1=2\/m.1=3\/m.1=4\/m.1=5 by omega)with hz|hz|hz|hz|hz|hz
     ·simp only[df (show¬m.1=1 by omega),df (show¬m.1=2 by omega),df (show¬m.1=3 by omega),df (show¬m.1=4 by omega),df (show¬m.1=5 by omega),dt hz,QQ1,Qiw x h m hf,Qng _ (Z7 h hf),QQ0];rfl
     ·simp only[df (show¬m.1=0 by omega),df (show¬m.1=2 by omega),df (show¬m.1=3 by omega),df (show¬m.1=4 by omega),df (show¬m.1=5 by omega),dt hz,QQ1,QQ2,Qoo x h m hf,QQ0];rfl
     ·simp only[df (show¬m.1=0 by omega),df (show¬m.1=1 by omega),df (show¬m.1=3 by omega),df (show¬m.1=4 by omega),df (show¬m.1=5 by omega),dt hz,QQ1,QQ2,QH8 x h m hf,QQ0]
      cases X7 x m<;>rfl
     ·simp only[df (show¬m.1=0 by omega),df (show¬m.1=1 by omega),df (show¬m.1=2 by omega),df (show¬m.1=4 by omega),df (show¬m.1=5 by omega),dt hz,QQ1,QQ2,Qqw x h m,QQ0]
      by_cases hg:find x m false<0
      ·rw[dt hg];rfl
      ·rw[df hg]
       have hgn:=qZ h (find x m false)
       have hgf:=vp hf (find x m false)
       obtain⟨i,hi,hil⟩:=QuB hg
       have hgo:Jv w (n11T x (find x m false))=some (gone x (find x m false)):=by rw[hi];exact QpA x h i hil
       simp only[hgo,QQ2,QQ0]
       have hbn:=Z7 hgn hgf
       have ha:=Qiw (gone x (find x m false)) hgn m hgf
       have hp:=Qxi (brought (gone x (find x m false)) m) hbn m.2.2.2.2.2.2.2.2.1 hmx (rd1 0 m.2.2.2.2.2.2.2.1 x.1)
       simp only[ha,Qng (brought (gone x (find x m false)) m) hbn,QY6,QRe,QRo,Qu (show m.2.2.2.2.2.2.2.2.1.length*8<=140737488351232 by omega),hi0,QQ1,hp,QQ0];rfl
     ·simp only[df (show¬m.1=0 by omega),df (show¬m.1=1 by omega),df (show¬m.1=2 by omega),df (show¬m.1=3 by omega),df (show¬m.1=5 by omega),dt hz,QQ1,QQ2,Qqw x h m,QQ0]
      by_cases hg:find x m true<0
      ·rw[dt hg];rfl
      ·rw[df hg]
       have hgn:=qZ h (find x m true)
       have hgf:=vp hf (find x m true)
       obtain⟨i,hi,hil⟩:=QuB hg
       have hgo:Jv w (n11T x (find x m true))=some (gone x (find x m true)):=by rw[hi];exact QpA x h i hil
       simp only[hgo,QQ2,QQ0]
       have hbn:=Z7 hgn hgf
       have ha:=Qiw (gone x (find x m true)) hgn m hgf
       simp only[ha,QQ0];rfl
     ·simp only[df (show¬m.1=0 by omega),df (show¬m.1=1 by omega),df (show¬m.1=2 by omega),df (show¬m.1=3 by omega),df (show¬m.1=4 by omega),dt hz,QQ1,QQ2,Qqw x h m,QQ0]
      by_cases hg:find x m false<0
      ·rw[dt hg];rfl
      ·rw[df hg]
       have hgn:=qZ h (find x m false)
       have hgf:=vp hf (find x m false)
       obtain⟨i,hi,hil⟩:=QuB hg
       have hgo:Jv w (n11T x (find x m false))=some (gone x (find x m false)):=by rw[hi];exact QpA x h i hil
       simp only[hgo,QQ2,QQ0]
       rfl
    ·simp only[yy,hmk,dt h2,df h1,df h7,QQ4,QQ3,QY13,QRd,QQ2,QQ1];rfl
  ·simp only[yy,hmk,df h2,QQ4,QRm,QY13,QQ2,QQ1];rfl
end Go.Proofs.YtiejfnbmficbmaaGreat.M
