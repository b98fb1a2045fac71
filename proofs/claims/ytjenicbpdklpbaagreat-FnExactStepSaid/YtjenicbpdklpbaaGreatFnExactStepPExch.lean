/- What the plain forms that FnExactStep reaches come to: PExch. No conditions but those that each theorem states. -/
import Derived.Test.YtjenicbpdklpbaaGreatFnExactStepPRcv2
set_option linter.all false
namespace Go.Proofs.YtjenicbpdklpbaaGreat.M
open Go Go.Eng Go.Proofs
set_option linter.unusedVariables false
def JE (wt:Int):List Qz->List Qz
 | []=>[]
 |x::l=>bif decide (x.2.2.2+1<=wt)then(x.1,x.2.1,x.2.2.1,x.2.2.2+1)::JE wt l else JE wt l
theorem QkZ (wt:Int):(l:List Qz)->∀y∈JE wt l,∃z∈l,y=(z.1,z.2.1,z.2.2.1,z.2.2.2+1)/\z.2.2.2+1<=wt
 | [],y,h=>by simp[JE]at h
 |x::l,y,h=>by
  rw[JE]at h
  by_cases hx:x.2.2.2+1<=wt
  ·rw[dt hx]at h
   rcases QRk.1 h with rfl|h
   ·exact⟨x,by simp,rfl,hx⟩
   ·obtain⟨z,hz,e⟩:=QkZ wt l y h
    exact⟨z,by simp[hz],e⟩
  ·rw[df hx]at h
   obtain⟨z,hz,e⟩:=QkZ wt l y h
   exact⟨z,by simp[hz],e⟩
theorem Qy3 (wt:Int):(l:List Qz)->l.Pairwise (fun y x=>Zy x y=false)->(JE wt l).Pairwise fun y x=>Zy x y=false
 | [],_=>by simp[JE]
 |x::l,h=>by
  rw[List.pairwise_cons]at h
  have ih:=Qy3 wt l h.2
  rw[JE]
  cases decide (x.2.2.2+1<=wt)
  ·exact ih
  ·refine List.pairwise_cons.2 ⟨fun y hy=> ?_,ih⟩
   obtain⟨z,hz,rfl,_⟩:=QkZ wt l y hy
   exact h.1 z hz
theorem QwM (wt:Int):(l:List Qz)->(JE wt l).length<=l.length
 | []=>Nat.le_refl _
 |x::l=>by
  have:=QwM wt l
  rw[JE]
  cases decide (x.2.2.2+1<=wt)
  ·simp only[QQ2,List.length_cons];omega
  ·simp only[QQ1,List.length_cons];omega
def Qqn (x:Qb):Qb:=(x.1,x.2.1,x.2.2.1,x.2.2.2.1,x.2.2.2.2.1,x.2.2.2.2.2.1,x.2.2.2.2.2.2.1,x.2.2.2.2.2.2.2.1,x.2.2.2.2.2.2.2.2.1,x.2.2.2.2.2.2.2.2.2.1,x.2.2.2.2.2.2.2.2.2.2.1,x.2.2.2.2.2.2.2.2.2.2.2.1,x.2.2.2.2.2.2.2.2.2.2.2.2.1,x.2.2.2.2.2.2.2.2.2.2.2.2.2.1,JE x.2.2.2.2.2.2.2.2.2.2.2.2.2.2.2.1 x.2.2.2.2.2.2.2.2.2.2.2.2.2.2.1,x.2.2.2.2.2.2.2.2.2.2.2.2.2.2.2.1,x.2.2.2.2.2.2.2.2.2.2.2.2.2.2.2.2.1,x.2.2.2.2.2.2.2.2.2.2.2.2.2.2.2.2.2.1+1,x.2.2.2.2.2.2.2.2.2.2.2.2.2.2.2.2.2.2)
def tick (x:Qb):Qb:=bif decide (x.2.2.2.2.2.2.2.2.2.2.2.2.2.2.2.2.2.1=100000)then x else Qqn x
theorem QFB {x:Qb}(h:NOk x):NOk (tick x):=by
 unfold tick
 by_cases hc:x.2.2.2.2.2.2.2.2.2.2.2.2.2.2.2.2.2.1=100000
 ·rw[dt hc];exact h
 ·rw[df hc]
  have hck:=QW.1 h.clock
  exact {
   n:=h.n
   id:=h.id
   st:=h.st
   tree:=h.tree
   log:=h.log
   got:=h.got
   ack:=h.ack
   own:=h.own
   heard:=h.heard
   seen:=h.seen
   num:=h.num
   clock:=by simp only[QQ2,Qqn,QW];omega
   wait:=h.wait
   limit:=h.limit
   slots:=h.slots
   room:=by
    have:=h.room
    have:=QwM x.2.2.2.2.2.2.2.2.2.2.2.2.2.2.2.1 x.2.2.2.2.2.2.2.2.2.2.2.2.2.2.1
    simp only[QQ2,Qqn];omega
   sess:=by
    have hs:=(Vp _ _ _ _).1 h.sess
    refine(Vp _ _ _ _).2 ⟨fun y hy=> ?_,Qy3 _ _ hs.2⟩
    obtain⟨z,hz,rfl,hw⟩:=QkZ _ _ y hy
    have:=hs.1 z hz
    simp only[Y9,QQ5,QW]at this⊢
    exact⟨this.1,by omega,hw⟩
   rlen:=h.rlen
   rises:=QRt.2 fun r hr=>by
    have:=QRt.1 h.rises r hr
    simp only[ZV,QQ5,QW]at this
    simp only[QQ2,Qqn,ZV,QQ5,QW]
    omega}
set_option maxHeartbeats 1000000 in
theorem QHT (x:Qb) (h:NOk x):QfQ w (x.1,x.2.1,x.2.2.1,x.2.2.2.1,x.2.2.2.2.1,x.2.2.2.2.2.1,x.2.2.2.2.2.2.1,x.2.2.2.2.2.2.2.1,x.2.2.2.2.2.2.2.2.1,x.2.2.2.2.2.2.2.2.2.1,x.2.2.2.2.2.2.2.2.2.2.1,x.2.2.2.2.2.2.2.2.2.2.2.1,x.2.2.2.2.2.2.2.2.2.2.2.2.1,x.2.2.2.2.2.2.2.2.2.2.2.2.2.1,x.2.2.2.2.2.2.2.2.2.2.2.2.2.2.1,x.2.2.2.2.2.2.2.2.2.2.2.2.2.2.2.1,x.2.2.2.2.2.2.2.2.2.2.2.2.2.2.2.2.1,x.2.2.2.2.2.2.2.2.2.2.2.2.2.2.2.2.2.1,x.2.2.2.2.2.2.2.2.2.2.2.2.2.2.2.2.2.2)=some (tick x):=by
 have hsm:=Xr h
 have hk:=Xz h
 have hck:=QW.1 h.clock
 have hw:=QW.1 h.wait
 have hs:=(Vp _ _ _ _).1 h.sess
 have hc:=Qtf h
 have hn:=okN h
 have e:=Xb x.2.2.2.2.2.2.2.2.2.2.2.2.2.2.1.length (fun i (s:List Qz)=>xE wl (x.2.2.2.2.2.2.2.2.2.2.2.2.2.2.1,((x.2.2.2.2.2.2.2.2.2.2.2.2.2.2.1.length:Nat):Int),(i:Int),x.1,x.2.1,x.2.2.1,x.2.2.2.1,x.2.2.2.2.1,x.2.2.2.2.2.1,x.2.2.2.2.2.2.1,x.2.2.2.2.2.2.2.1,x.2.2.2.2.2.2.2.2.1,x.2.2.2.2.2.2.2.2.2.1,x.2.2.2.2.2.2.2.2.2.2.1,x.2.2.2.2.2.2.2.2.2.2.2.1,x.2.2.2.2.2.2.2.2.2.2.2.2.1,x.2.2.2.2.2.2.2.2.2.2.2.2.2.1,x.2.2.2.2.2.2.2.2.2.2.2.2.2.2.1,x.2.2.2.2.2.2.2.2.2.2.2.2.2.2.2.1,x.2.2.2.2.2.2.2.2.2.2.2.2.2.2.2.2.1,x.2.2.2.2.2.2.2.2.2.2.2.2.2.2.2.2.2.1,x.2.2.2.2.2.2.2.2.2.2.2.2.2.2.2.2.2.2,x.1,x.2.1,x.2.2.1,x.2.2.2.1,x.2.2.2.2.1,x.2.2.2.2.2.1,x.2.2.2.2.2.2.1,x.2.2.2.2.2.2.2.1,x.2.2.2.2.2.2.2.2.1,x.2.2.2.2.2.2.2.2.2.1,x.2.2.2.2.2.2.2.2.2.2.1,x.2.2.2.2.2.2.2.2.2.2.2.1,x.2.2.2.2.2.2.2.2.2.2.2.2.1,x.2.2.2.2.2.2.2.2.2.2.2.2.2.1,s,x.2.2.2.2.2.2.2.2.2.2.2.2.2.2.2.1,x.2.2.2.2.2.2.2.2.2.2.2.2.2.2.2.2.1,x.2.2.2.2.2.2.2.2.2.2.2.2.2.2.2.2.2.1+1,x.2.2.2.2.2.2.2.2.2.2.2.2.2.2.2.2.2.2)) (fun i s=>(x.1,x.2.1,x.2.2.1,x.2.2.2.1,x.2.2.2.2.1,x.2.2.2.2.2.1,x.2.2.2.2.2.2.1,x.2.2.2.2.2.2.2.1,x.2.2.2.2.2.2.2.2.1,x.2.2.2.2.2.2.2.2.2.1,x.2.2.2.2.2.2.2.2.2.2.1,x.2.2.2.2.2.2.2.2.2.2.2.1,x.2.2.2.2.2.2.2.2.2.2.2.2.1,x.2.2.2.2.2.2.2.2.2.2.2.2.2.1,s++JE x.2.2.2.2.2.2.2.2.2.2.2.2.2.2.2.1 (x.2.2.2.2.2.2.2.2.2.2.2.2.2.2.1.drop i),x.2.2.2.2.2.2.2.2.2.2.2.2.2.2.2.1,x.2.2.2.2.2.2.2.2.2.2.2.2.2.2.2.2.1,x.2.2.2.2.2.2.2.2.2.2.2.2.2.2.2.2.2.1+1,x.2.2.2.2.2.2.2.2.2.2.2.2.2.2.2.2.2.2)) (fun i s=>s.length<=i)
  (fun i hi s hs1 ih=>by
    apply QlY
    have ho:=hs.1 _ (QRf hi)
    simp only[Y9,QQ5,QW]at ho
    simp only[Qim,ilt hi,Qk hi,Qg hi,inc hi (show x.2.2.2.2.2.2.2.2.2.2.2.2.2.2.1.length<=maxLen by simp only[maxLen];omega),QQ1,w64 (n:=(x.2.2.2.2.2.2.2.2.2.2.2.2.2.2.1)[i].2.2.2+1) (by omega) (by omega)]
    rw[QRa hi,JE]
    by_cases hd:(x.2.2.2.2.2.2.2.2.2.2.2.2.2.2.1)[i].2.2.2+1<=x.2.2.2.2.2.2.2.2.2.2.2.2.2.2.2.1
    ·simp only[dt hd,QQ1]
     rw[Qu (by simp;omega),QQ1,ih _ (by simp;omega)]
     simp only[QRc,QRv,QRe]
    ·simp only[df hd,QQ2]
     exact ih s (by omega))
  (fun s _=>by
    apply QlY
    simp only[Qim,Qm,QQ2,QRl,JE,List.append_nil]) [] (by simp)
 simp only[QQ6,QRg,QRe]at e
 apply Qzk
 simp only[Qov,hc,hn,QQ0,QQ3,QQ2,tick,Qqn]
 by_cases hm:x.2.2.2.2.2.2.2.2.2.2.2.2.2.2.2.2.2.1=100000
 ·rw[dt hm];rfl
 ·rw[df hm,w64 (n:=x.2.2.2.2.2.2.2.2.2.2.2.2.2.2.2.2.2.1+1) (by omega) (by omega)]
  simp only[QQ2,e,QQ0]
set_option maxHeartbeats 1000000 in
theorem QFU (x:Qb) (h:NOk x):QfD w (x.1,x.2.1,x.2.2.1,x.2.2.2.1,x.2.2.2.2.1,x.2.2.2.2.2.1,x.2.2.2.2.2.2.1,x.2.2.2.2.2.2.2.1,x.2.2.2.2.2.2.2.2.1,x.2.2.2.2.2.2.2.2.2.1,x.2.2.2.2.2.2.2.2.2.2.1,x.2.2.2.2.2.2.2.2.2.2.2.1,x.2.2.2.2.2.2.2.2.2.2.2.2.1,x.2.2.2.2.2.2.2.2.2.2.2.2.2.1,x.2.2.2.2.2.2.2.2.2.2.2.2.2.2.1,x.2.2.2.2.2.2.2.2.2.2.2.2.2.2.2.1,x.2.2.2.2.2.2.2.2.2.2.2.2.2.2.2.2.1,x.2.2.2.2.2.2.2.2.2.2.2.2.2.2.2.2.2.1,x.2.2.2.2.2.2.2.2.2.2.2.2.2.2.2.2.2.2)=some (tick x):=by
 have hsm:=Xr h
 have hk:=Xz h
 have hck:=QW.1 h.clock
 have hw:=QW.1 h.wait
 have hs:=(Vp _ _ _ _).1 h.sess
 have hc:=QfK h
 have hn:=QDY h
 have e:=Xb x.2.2.2.2.2.2.2.2.2.2.2.2.2.2.1.length (fun i (s:List Qz)=>qW wl ((i:Int),x.1,x.2.1,x.2.2.1,x.2.2.2.1,x.2.2.2.2.1,x.2.2.2.2.2.1,x.2.2.2.2.2.2.1,x.2.2.2.2.2.2.2.1,x.2.2.2.2.2.2.2.2.1,x.2.2.2.2.2.2.2.2.2.1,x.2.2.2.2.2.2.2.2.2.2.1,x.2.2.2.2.2.2.2.2.2.2.2.1,x.2.2.2.2.2.2.2.2.2.2.2.2.1,x.2.2.2.2.2.2.2.2.2.2.2.2.2.1,x.2.2.2.2.2.2.2.2.2.2.2.2.2.2.1,x.2.2.2.2.2.2.2.2.2.2.2.2.2.2.2.1,x.2.2.2.2.2.2.2.2.2.2.2.2.2.2.2.2.1,x.2.2.2.2.2.2.2.2.2.2.2.2.2.2.2.2.2.1,x.2.2.2.2.2.2.2.2.2.2.2.2.2.2.2.2.2.2,x.1,x.2.1,x.2.2.1,x.2.2.2.1,x.2.2.2.2.1,x.2.2.2.2.2.1,x.2.2.2.2.2.2.1,x.2.2.2.2.2.2.2.1,x.2.2.2.2.2.2.2.2.1,x.2.2.2.2.2.2.2.2.2.1,x.2.2.2.2.2.2.2.2.2.2.1,x.2.2.2.2.2.2.2.2.2.2.2.1,x.2.2.2.2.2.2.2.2.2.2.2.2.1,x.2.2.2.2.2.2.2.2.2.2.2.2.2.1,s,x.2.2.2.2.2.2.2.2.2.2.2.2.2.2.2.1,x.2.2.2.2.2.2.2.2.2.2.2.2.2.2.2.2.1,x.2.2.2.2.2.2.2.2.2.2.2.2.2.2.2.2.2.1+1,x.2.2.2.2.2.2.2.2.2.2.2.2.2.2.2.2.2.2)) (fun i s=>(x.1,x.2.1,x.2.2.1,x.2.2.2.1,x.2.2.2.2.1,x.2.2.2.2.2.1,x.2.2.2.2.2.2.1,x.2.2.2.2.2.2.2.1,x.2.2.2.2.2.2.2.2.1,x.2.2.2.2.2.2.2.2.2.1,x.2.2.2.2.2.2.2.2.2.2.1,x.2.2.2.2.2.2.2.2.2.2.2.1,x.2.2.2.2.2.2.2.2.2.2.2.2.1,x.2.2.2.2.2.2.2.2.2.2.2.2.2.1,s++JE x.2.2.2.2.2.2.2.2.2.2.2.2.2.2.2.1 (x.2.2.2.2.2.2.2.2.2.2.2.2.2.2.1.drop i),x.2.2.2.2.2.2.2.2.2.2.2.2.2.2.2.1,x.2.2.2.2.2.2.2.2.2.2.2.2.2.2.2.2.1,x.2.2.2.2.2.2.2.2.2.2.2.2.2.2.2.2.2.1+1,x.2.2.2.2.2.2.2.2.2.2.2.2.2.2.2.2.2.2)) (fun i s=>s.length<=i)
  (fun i hi s hs1 ih=>by
    apply Qlk
    have ho:=hs.1 _ (QRf hi)
    simp only[Y9,QQ5,QW]at ho
    simp only[Qi5,ilt hi,Qk hi,Qg hi,inc hi (show x.2.2.2.2.2.2.2.2.2.2.2.2.2.2.1.length<=maxLen by simp only[maxLen];omega),QQ1,w64 (n:=(x.2.2.2.2.2.2.2.2.2.2.2.2.2.2.1)[i].2.2.2+1) (by omega) (by omega)]
    rw[QRa hi,JE]
    by_cases hd:(x.2.2.2.2.2.2.2.2.2.2.2.2.2.2.1)[i].2.2.2+1<=x.2.2.2.2.2.2.2.2.2.2.2.2.2.2.2.1
    ·simp only[dt hd,QQ1]
     rw[Qu (by simp;omega),QQ1,ih _ (by simp;omega)]
     simp only[QRc,QRv,QRe]
    ·simp only[df hd,QQ2]
     exact ih s (by omega))
  (fun s _=>by
    apply Qlk
    simp only[Qi5,Qm,QQ2,QRl,JE,List.append_nil]) [] (by simp)
 simp only[QQ6,QRg,QRe]at e
 apply Qz9
 simp only[QoB,hc,hn,QQ0,QQ3,QQ2,tick,Qqn]
 by_cases hm:x.2.2.2.2.2.2.2.2.2.2.2.2.2.2.2.2.2.1=100000
 ·rw[dt hm];rfl
 ·rw[df hm,w64 (n:=x.2.2.2.2.2.2.2.2.2.2.2.2.2.2.2.2.2.1+1) (by omega) (by omega)]
  simp only[QQ2,e,QQ0]
def Qsm (x:Qb) (s:Qj):Qb:=(x.1,x.2.1,x.2.2.1,x.2.2.2.1,x.2.2.2.2.1,x.2.2.2.2.2.1,(Xs (x.2.2.2.2.2.2.1,x.2.2.2.2.2.2.2.1,x.2.2.2.2.2.2.2.2.1) s).1,(Xs (x.2.2.2.2.2.2.1,x.2.2.2.2.2.2.2.1,x.2.2.2.2.2.2.2.2.1) s).2.1,(Xs (x.2.2.2.2.2.2.1,x.2.2.2.2.2.2.2.1,x.2.2.2.2.2.2.2.2.1) s).2.2,x.2.2.2.2.2.2.2.2.2.1.set (x.1).toNat (rd1 0 x.2.2.2.2.2.2.2.2.2.1 x.1+1),x.2.2.2.2.2.2.2.2.2.2.1,x.2.2.2.2.2.2.2.2.2.2.2.1,x.2.2.2.2.2.2.2.2.2.2.2.2.1,x.2.2.2.2.2.2.2.2.2.2.2.2.2.1,x.2.2.2.2.2.2.2.2.2.2.2.2.2.2.1,x.2.2.2.2.2.2.2.2.2.2.2.2.2.2.2.1,x.2.2.2.2.2.2.2.2.2.2.2.2.2.2.2.2.1,x.2.2.2.2.2.2.2.2.2.2.2.2.2.2.2.2.2.1,x.2.2.2.2.2.2.2.2.2.2.2.2.2.2.2.2.2.2)
theorem QuY {x:Qb}(h:NOk x):∃j:Nat,x.1=(j:Int)/\∃hj:j<x.2.2.2.2.2.2.2.2.2.1.length,(x.2.2.2.2.2.2.2.2.2.1)[j]=Xd (x.2.2.2.2.2.2.1,x.2.2.2.2.2.2.2.1,x.2.2.2.2.2.2.2.2.1):=by
 have h1:=QW.1 h.id
 have h2:=(yF h.got).1
 obtain⟨j,hj⟩:∃j:Nat,x.1=(j:Int):=⟨(x.1).toNat,by omega⟩
 have hj2:j<x.2.2.2.2.2.2.2.2.2.1.length:=by omega
 have:=h.own
 rw[hj,QRb]at this
 refine⟨j,hj,hj2, ?_⟩
 simpa[List.getD,QRp hj2]using this
theorem Qsr {x:Qb}(h:NOk x) {s:Qj}(hs:QC s=true) (h0:¬x.2.2.2.2.2.2.2.1+((x.2.2.2.2.2.2.2.2.1.length:Nat):Int)=100000):NOk (Qsm x s):=by
 obtain⟨j,hj,hj2,hg⟩:=QuY h
 have hq:=QCb (g:=(x.2.2.2.2.2.2.1,x.2.2.2.2.2.2.2.1,x.2.2.2.2.2.2.2.2.1)) h.log hs h0
 have hlo:Zf (Xs (x.2.2.2.2.2.2.1,x.2.2.2.2.2.2.2.1,x.2.2.2.2.2.2.2.2.1) s)=true:=by rw[QoV h.log hs,df h0];rfl
 have hr:=QhE hlo
 have hv:=yF h.got
 exact {
  n:=h.n
  id:=h.id
  st:=h.st
  tree:=h.tree
  log:=hlo
  got:=by
   have hvo:=h.got
   simp only[Yj,QQ5,QRu,QRt]at hvo
   simp only[Qsm,Yj,QQ5,QRu,QRt,List.length_set]
   refine⟨hvo.1,fun y hy=> ?_⟩
   rcases List.mem_or_eq_of_mem_set hy with hy|rfl
   ·exact hvo.2 y hy
   ·rw[hj,Qg hj2,hg,QW];omega
  ack:=h.ack
  own:=by
   show(x.2.2.2.2.2.2.2.2.2.1.set (x.1).toNat (rd1 0 x.2.2.2.2.2.2.2.2.2.1 x.1+1)).getD (x.1).toNat 0=Xd (Xs (x.2.2.2.2.2.2.1,x.2.2.2.2.2.2.2.1,x.2.2.2.2.2.2.2.2.1) s)
   rw[hj,QRb,Qg hj2,hg,hq]
   simp[List.getD,hj2]
  heard:=QRt.2 fun y hy=>decide_eq_true (by
   have:=QRt.1 h.heard y hy
   simp only[QRu]at this
   show y<=Xd (Xs (x.2.2.2.2.2.2.1,x.2.2.2.2.2.2.2.1,x.2.2.2.2.2.2.2.2.1) s)
   omega)
  seen:=h.seen
  num:=h.num
  clock:=h.clock
  wait:=h.wait
  limit:=h.limit
  slots:=h.slots
  room:=h.room
  sess:=h.sess
  rlen:=h.rlen
  rises:=h.rises}
def Xk (x:Qb) (id:Int):Int:=bif inR id 0 (x.2.1 - 1)&&decide (id=x.1)then(bif decide ((Xi (x.2.2.1,x.2.2.2.1) id).2.2=0)then(bif decide (x.2.2.2.2.2.2.2.1+((x.2.2.2.2.2.2.2.2.1.length:Nat):Int)=100000)then 4 else 0)else(Xi (x.2.2.1,x.2.2.2.1) id).2.2)else 1
def QY (x:Qb) (id:Int):Qb:=bif decide (Xk x id=0)then(take (Qsm x ((Xi (x.2.2.1,x.2.2.2.1) id).1,(Xi (x.2.2.1,x.2.2.2.1) id).2.1)) ((Xi (x.2.2.1,x.2.2.2.1) id).1,(Xi (x.2.2.1,x.2.2.2.1) id).2.1))else x
def jr (x:Qb) (id:Int):Qj:=bif decide (Xk x id=0)then((Xi (x.2.2.1,x.2.2.2.1) id).1,(Xi (x.2.2.1,x.2.2.2.1) id).2.1)else([],[])
theorem QwB {x:Qb}{id:Int}(h:Xk x id=0):inR id 0 (x.2.1 - 1)=true/\id=x.1/\(Xi (x.2.2.1,x.2.2.2.1) id).2.2=0/\¬x.2.2.2.2.2.2.2.1+((x.2.2.2.2.2.2.2.2.1.length:Nat):Int)=100000:=by
 unfold Xk at h
 cases h1:inR id 0 (x.2.1 - 1)
 ·rw[h1]at h;simp at h
 ·rw[h1]at h
  by_cases h2:id=x.1
  ·rw[dt h2]at h
   by_cases h3:(Xi (x.2.2.1,x.2.2.2.1) id).2.2=0
   ·rw[dt h3]at h
    by_cases h4:x.2.2.2.2.2.2.2.1+((x.2.2.2.2.2.2.2.2.1.length:Nat):Int)=100000
    ·rw[dt h4]at h;simp at h
    ·exact⟨rfl,h2,h3,h4⟩
   ·rw[df h3]at h;simp at h;exact absurd h h3
  ·rw[df h2]at h;simp at h
theorem QC0 (x:Qb) (id:Int):QC (jr x id)=true:=by
 unfold jr
 by_cases h:Xk x id=0
 ·rw[dt h];exact QbZ (QwB h).2.2.1
 ·rw[df h];rfl
theorem QAF {x:Qb}(h:NOk x) (id:Int):NOk (QY x id):=by
 unfold QY
 by_cases hc:Xk x id=0
 ·rw[dt hc]
  obtain⟨_,_,h3,h4⟩:=QwB hc
  exact QjR (Qsr h (QbZ h3) h4) (QbZ h3)
 ·rw[df hc];exact h
theorem QFI (a:List Qd) (b:List Qa) (id:Int) (s:ByteArray) (h1:a.length<=maxLen) (h2:b.length<=maxLen):QhK w (a,b,1,id,s)=some (Xi (a,b) id):=by
 apply Qxu
 simp only[Qm5,QDd a b id h1 h2,QQ0,df (show¬(1:Int)=0 by omega),decide_true,QQ1,QQ2]
set_option maxHeartbeats 2000000 in
theorem QIy (x:Qb) (h:NOk x) (id:Int) (s:ByteArray):Qn9 w (x.1,x.2.1,x.2.2.1,x.2.2.2.1,x.2.2.2.2.1,x.2.2.2.2.2.1,x.2.2.2.2.2.2.1,x.2.2.2.2.2.2.2.1,x.2.2.2.2.2.2.2.2.1,x.2.2.2.2.2.2.2.2.2.1,x.2.2.2.2.2.2.2.2.2.2.1,x.2.2.2.2.2.2.2.2.2.2.2.1,x.2.2.2.2.2.2.2.2.2.2.2.2.1,x.2.2.2.2.2.2.2.2.2.2.2.2.2.1,x.2.2.2.2.2.2.2.2.2.2.2.2.2.2.1,x.2.2.2.2.2.2.2.2.2.2.2.2.2.2.2.1,x.2.2.2.2.2.2.2.2.2.2.2.2.2.2.2.2.1,x.2.2.2.2.2.2.2.2.2.2.2.2.2.2.2.2.2.1,x.2.2.2.2.2.2.2.2.2.2.2.2.2.2.2.2.2.2,1,id,s)=some ((QY x id).1,(QY x id).2.1,(QY x id).2.2.1,(QY x id).2.2.2.1,(QY x id).2.2.2.2.1,(QY x id).2.2.2.2.2.1,(QY x id).2.2.2.2.2.2.1,(QY x id).2.2.2.2.2.2.2.1,(QY x id).2.2.2.2.2.2.2.2.1,(QY x id).2.2.2.2.2.2.2.2.2.1,(QY x id).2.2.2.2.2.2.2.2.2.2.1,(QY x id).2.2.2.2.2.2.2.2.2.2.2.1,(QY x id).2.2.2.2.2.2.2.2.2.2.2.2.1,(QY x id).2.2.2.2.2.2.2.2.2.2.2.2.2.1,(QY x id).2.2.2.2.2.2.2.2.2.2.2.2.2.2.1,(QY x id).2.2.2.2.2.2.2.2.2.2.2.2.2.2.2.1,(QY x id).2.2.2.2.2.2.2.2.2.2.2.2.2.2.2.2.1,(QY x id).2.2.2.2.2.2.2.2.2.2.2.2.2.2.2.2.2.1,(QY x id).2.2.2.2.2.2.2.2.2.2.2.2.2.2.2.2.2.2,(jr x id).1,(jr x id).2,Xk x id):=by
 have hsm:=Xr h
 have hk:=Xz h
 have hst:=XX h.st
 have hn1:=QW.1 h.n
 have hc:=Qtf h
 have hn:=okN h
 have hso:=QFI x.2.2.1 x.2.2.2.1 id s hst.1 hst.2
 apply QBm
 simp only[Qpb,hc,hn,hso,Xf,w64 (n:=x.2.1 - 1) (by omega) (by omega),QQ0,QQ3,QQ2,show inR 1 0 4=true from rfl,df (show¬(1:Int)=4 by omega)]
 have hcode:Xk x id=Xk x id:=rfl
 unfold QY jr
 cases h1:inR id 0 (x.2.1 - 1)
 ·have hv:Xk x id=1:=by unfold Xk;rw[h1];rfl
  rw[hv,df (show¬(1:Int)=0 by omega)];rfl
 ·by_cases h2:id=x.1
  ·by_cases h3:(Xi (x.2.2.1,x.2.2.2.1) id).2.2=0
   ·have hsb:=QbZ h3
    have hla:=QEK (x.2.2.2.2.2.2.1,x.2.2.2.2.2.2.2.1,x.2.2.2.2.2.2.2.2.1) ((Xi (x.2.2.1,x.2.2.2.1) id).1,(Xi (x.2.2.1,x.2.2.2.1) id).2.1) h.log hsb
    simp only at hla
    by_cases h4:x.2.2.2.2.2.2.2.1+((x.2.2.2.2.2.2.2.2.1.length:Nat):Int)=100000
    ·have hv:Xk x id=4:=by unfold Xk;rw[h1,dt h2,dt h3,dt h4];rfl
     rw[dt h4]at hla
     rw[hv,df (show¬(4:Int)=0 by omega),dt h2,dt h3]
     simp only[hla,QQ0,QQ1,QQ2,QQ3,QQ4];rfl
    ·have hv:Xk x id=0:=by unfold Xk;rw[h1,dt h2,dt h3,df h4];rfl
     rw[df h4]at hla
     rw[hv,dt (show(0:Int)=0 by omega),dt h2,dt h3]
     obtain⟨j,hj,hj2,hg⟩:=QuY h
     have hi0:inb x.1 x.2.2.2.2.2.2.2.2.2.1.length=true:=by rw[hj];exact Qk hj2
     have hr:=QhE h.log
     have hT:=QvC (Qsm x ((Xi (x.2.2.1,x.2.2.2.1) id).1,(Xi (x.2.2.1,x.2.2.2.1) id).2.1)) (Qsr h hsb h4) ((Xi (x.2.2.1,x.2.2.2.1) id).1,(Xi (x.2.2.1,x.2.2.2.1) id).2.1) hsb
     simp only[Qsm]at hT
     have hg':rd1 0 x.2.2.2.2.2.2.2.2.2.1 x.1=Xd (x.2.2.2.2.2.2.1,x.2.2.2.2.2.2.2.1,x.2.2.2.2.2.2.2.2.1):=by rw[hj,Qg hj2,hg]
     simp only[hla,QQ0,QQ1,QQ2,QQ3,QQ4,hi0,w64 (n:=rd1 0 x.2.2.2.2.2.2.2.2.2.1 x.1+1) (by rw[hg'];omega) (by rw[hg'];omega),show(true==false)=false from rfl,show(false==true)=false from rfl]
     rw[hT];rfl
   ·have hv:Xk x id=(Xi (x.2.2.1,x.2.2.2.1) id).2.2:=by unfold Xk;rw[h1,dt h2,df h3];rfl
    rw[hv,df h3,dt h2];rfl
  ·have hv:Xk x id=1:=by unfold Xk;rw[h1,df h2];rfl
   rw[hv,df (show¬(1:Int)=0 by omega),df h2];rfl
theorem QCV (a:List Qd) (b:List Qa) (id:Int) (s:ByteArray) (h1:a.length<=maxLen) (h2:b.length<=maxLen):QbJ w (a,b,1,id,s)=some (Xi (a,b) id):=by
 apply Qtp
 simp only[Qja,QBb a b id h1 h2,QQ0,df (show¬(1:Int)=0 by omega),decide_true,QQ1,QQ2]
set_option maxHeartbeats 2000000 in
theorem QIr (x:Qb) (h:NOk x) (id:Int) (s:ByteArray):QnV w (x.1,x.2.1,x.2.2.1,x.2.2.2.1,x.2.2.2.2.1,x.2.2.2.2.2.1,x.2.2.2.2.2.2.1,x.2.2.2.2.2.2.2.1,x.2.2.2.2.2.2.2.2.1,x.2.2.2.2.2.2.2.2.2.1,x.2.2.2.2.2.2.2.2.2.2.1,x.2.2.2.2.2.2.2.2.2.2.2.1,x.2.2.2.2.2.2.2.2.2.2.2.2.1,x.2.2.2.2.2.2.2.2.2.2.2.2.2.1,x.2.2.2.2.2.2.2.2.2.2.2.2.2.2.1,x.2.2.2.2.2.2.2.2.2.2.2.2.2.2.2.1,x.2.2.2.2.2.2.2.2.2.2.2.2.2.2.2.2.1,x.2.2.2.2.2.2.2.2.2.2.2.2.2.2.2.2.2.1,x.2.2.2.2.2.2.2.2.2.2.2.2.2.2.2.2.2.2,1,id,s)=some ((QY x id).1,(QY x id).2.1,(QY x id).2.2.1,(QY x id).2.2.2.1,(QY x id).2.2.2.2.1,(QY x id).2.2.2.2.2.1,(QY x id).2.2.2.2.2.2.1,(QY x id).2.2.2.2.2.2.2.1,(QY x id).2.2.2.2.2.2.2.2.1,(QY x id).2.2.2.2.2.2.2.2.2.1,(QY x id).2.2.2.2.2.2.2.2.2.2.1,(QY x id).2.2.2.2.2.2.2.2.2.2.2.1,(QY x id).2.2.2.2.2.2.2.2.2.2.2.2.1,(QY x id).2.2.2.2.2.2.2.2.2.2.2.2.2.1,(QY x id).2.2.2.2.2.2.2.2.2.2.2.2.2.2.1,(QY x id).2.2.2.2.2.2.2.2.2.2.2.2.2.2.2.1,(QY x id).2.2.2.2.2.2.2.2.2.2.2.2.2.2.2.2.1,(QY x id).2.2.2.2.2.2.2.2.2.2.2.2.2.2.2.2.2.1,(QY x id).2.2.2.2.2.2.2.2.2.2.2.2.2.2.2.2.2.2,(jr x id).1,(jr x id).2,Xk x id):=by
 have hsm:=Xr h
 have hk:=Xz h
 have hst:=XX h.st
 have hn1:=QW.1 h.n
 have hc:=QfK h
 have hn:=QDY h
 have hso:=QCV x.2.2.1 x.2.2.2.1 id s hst.1 hst.2
 apply QAP
 simp only[QpX,hc,hn,hso,XB,w64 (n:=x.2.1 - 1) (by omega) (by omega),QQ0,QQ3,QQ2,show inR 1 0 4=true from rfl,df (show¬(1:Int)=4 by omega)]
 have hcode:Xk x id=Xk x id:=rfl
 unfold QY jr
 cases h1:inR id 0 (x.2.1 - 1)
 ·have hv:Xk x id=1:=by unfold Xk;rw[h1];rfl
  rw[hv,df (show¬(1:Int)=0 by omega)];rfl
 ·by_cases h2:id=x.1
  ·by_cases h3:(Xi (x.2.2.1,x.2.2.2.1) id).2.2=0
   ·have hsb:=QbZ h3
    have hla:=QDD (x.2.2.2.2.2.2.1,x.2.2.2.2.2.2.2.1,x.2.2.2.2.2.2.2.2.1) ((Xi (x.2.2.1,x.2.2.2.1) id).1,(Xi (x.2.2.1,x.2.2.2.1) id).2.1) h.log hsb
    simp only at hla
    by_cases h4:x.2.2.2.2.2.2.2.1+((x.2.2.2.2.2.2.2.2.1.length:Nat):Int)=100000
    ·have hv:Xk x id=4:=by unfold Xk;rw[h1,dt h2,dt h3,dt h4];rfl
     rw[dt h4]at hla
     rw[hv,df (show¬(4:Int)=0 by omega),dt h2,dt h3]
     simp only[hla,QQ0,QQ1,QQ2,QQ3,QQ4];rfl
    ·have hv:Xk x id=0:=by unfold Xk;rw[h1,dt h2,dt h3,df h4];rfl
     rw[df h4]at hla
     rw[hv,dt (show(0:Int)=0 by omega),dt h2,dt h3]
     obtain⟨j,hj,hj2,hg⟩:=QuY h
     have hi0:inb x.1 x.2.2.2.2.2.2.2.2.2.1.length=true:=by rw[hj];exact Qk hj2
     have hr:=QhE h.log
     have hT:=QnS (Qsm x ((Xi (x.2.2.1,x.2.2.2.1) id).1,(Xi (x.2.2.1,x.2.2.2.1) id).2.1)) (Qsr h hsb h4) ((Xi (x.2.2.1,x.2.2.2.1) id).1,(Xi (x.2.2.1,x.2.2.2.1) id).2.1) hsb
     simp only[Qsm]at hT
     have hg':rd1 0 x.2.2.2.2.2.2.2.2.2.1 x.1=Xd (x.2.2.2.2.2.2.1,x.2.2.2.2.2.2.2.1,x.2.2.2.2.2.2.2.2.1):=by rw[hj,Qg hj2,hg]
     simp only[hla,QQ0,QQ1,QQ2,QQ3,QQ4,hi0,w64 (n:=rd1 0 x.2.2.2.2.2.2.2.2.2.1 x.1+1) (by rw[hg'];omega) (by rw[hg'];omega),show(true==false)=false from rfl,show(false==true)=false from rfl]
     rw[hT];rfl
   ·have hv:Xk x id=(Xi (x.2.2.1,x.2.2.2.1) id).2.2:=by unfold Xk;rw[h1,dt h2,df h3];rfl
    rw[hv,df h3,dt h2];rfl
  ·have hv:Xk x id=1:=by unfold Xk;rw[h1,df h2];rfl
   rw[hv,df (show¬(1:Int)=0 by omega),df h2];rfl
end Go.Proofs.YtjenicbpdklpbaaGreat.M
