/- What the plain forms that FnExactStep reaches come to: PLog. No conditions but those that each theorem states. -/
import Derived.Test.YtjenicbpdklpbaaGreatFnExactStepPTake
set_option linter.all false
namespace Go.Proofs.YtjenicbpdklpbaaGreat.M
open Go Go.Eng Go.Proofs
set_option linter.unusedVariables false
def Xs (g:Zs) (d:Qj):Zs:=bif decide (g.1<(((g.2.2++[d]).length:Nat):Int))then(g.1,g.2.1+1,(g.2.2++[d]).drop 1)else(g.1,g.2.1,g.2.2++[d])
theorem Jk (g:Zs):Zf g=true↔(1<=g.1/\g.1<=8)/\((g.2.2.length:Nat):Int)<=g.1/\(0<=g.2.1/\g.2.1<=100000)/\g.2.1+((g.2.2.length:Nat):Int)<=100000/\∀s∈g.2.2,QC s=true:=by
 simp only[Zf,QQ5,QRt,QRu,inR]
 constructor
 ·rintro⟨⟨⟨⟨h1,h2⟩,h3⟩,h4⟩,h5⟩;exact⟨h1,h2,h3,h4,h5⟩
 ·rintro⟨h1,h2,h3,h4,h5⟩;exact⟨⟨⟨⟨h1,h2⟩,h3⟩,h4⟩,h5⟩
theorem QDZ {g:Zs}{d:Qj}(h:∀s∈g.2.2,QC s=true) (hd:QC d=true):∀s∈(Xs g d).2.2,QC s=true:=by
 have:∀s∈g.2.2++[d],QC s=true:=fun s hs=>by
  rcases QRh.1 hs with hs|hs
  ·exact h s hs
  ·obtain rfl:s=d:=by simpa using hs
   exact hd
 unfold Xs
 cases decide (g.1<(((g.2.2++[d]).length:Nat):Int))
 ·exact this
 ·exact fun s hs=>this s (List.mem_of_mem_drop hs)
theorem QoV {g:Zs}{d:Qj}(hg:Zf g=true) (hd:QC d=true):Zf (Xs g d)= !decide (g.2.1+((g.2.2.length:Nat):Int)=100000):=by
 have h:=(Jk g).1 hg
 have hm:=QDZ h.2.2.2.2 hd
 have hi:=Jk (Xs g d)
 by_cases hc:g.1<(((g.2.2++[d]).length:Nat):Int)
 ·have e:Xs g d=(g.1,g.2.1+1,(g.2.2++[d]).drop 1):=by unfold Xs;rw[dt hc];rfl
  have hl:((Xs g d).2.2.length:Nat)=g.2.2.length:=by rw[e];simp
  have h1:(Xs g d).1=g.1:=by rw[e]
  have h2:(Xs g d).2.1=g.2.1+1:=by rw[e]
  rw[hl,h1,h2]at hi
  simp only[QRj,List.length_cons,List.length_nil]at hc
  by_cases h0:g.2.1+((g.2.2.length:Nat):Int)=100000
  ·rw[dt h0]
   cases hv:Zf (Xs g d)
   ·rfl
   ·have:=hi.1 hv;omega
  ·rw[df h0]
   exact hi.2 ⟨h.1,by omega,by omega,by omega,hm⟩
 ·have e:Xs g d=(g.1,g.2.1,g.2.2++[d]):=by unfold Xs;rw[df hc];rfl
  have hl:((Xs g d).2.2.length:Nat)=g.2.2.length+1:=by rw[e];simp
  have h1:(Xs g d).1=g.1:=by rw[e]
  have h2:(Xs g d).2.1=g.2.1:=by rw[e]
  rw[hl,h1,h2]at hi
  simp only[QRj,List.length_cons,List.length_nil]at hc
  by_cases h0:g.2.1+((g.2.2.length:Nat):Int)=100000
  ·rw[dt h0]
   cases hv:Zf (Xs g d)
   ·rfl
   ·have:=hi.1 hv;omega
  ·rw[df h0]
   exact hi.2 ⟨h.1,by omega,by omega,by omega,hm⟩
theorem QCb {g:Zs}{d:Qj}(hg:Zf g=true) (hd:QC d=true) (h0:¬g.2.1+((g.2.2.length:Nat):Int)=100000):Xd (Xs g d)=Xd g+1:=by
 have h:=(Jk g).1 hg
 unfold Xd
 rw[hg,QoV hg hd,df h0]
 simp only[QQ4,QQ1]
 unfold Xs
 by_cases hc:g.1<(((g.2.2++[d]).length:Nat):Int)
 ·rw[dt hc];simp;omega
 ·rw[df hc];simp;omega
theorem xH {g:Zs}(hg:Zf g=true):Z7 g<=1000/\g.2.2.length<=maxLen/\∀s∈g.2.2,s.1.length<=maxLen/\s.2.length<=maxLen:=by
 have h:=(Jk g).1 hg
 have k1:Qi QG g.2.2<=60*g.2.2.length:=QhX _ _ _ fun s hs=>ye (h.2.2.2.2 s hs)
 refine⟨by simp only[Z7,XY];omega,by simp only[maxLen];omega,fun s hs=>XX (h.2.2.2.2 s hs)⟩
theorem QEK (g:Zs) (d:Qj) (hg:Zf g=true) (hd:QC d=true):Qes w (g.1,g.2.1,g.2.2,d.1,d.2)=some (bif decide (g.2.1+((g.2.2.length:Nat):Int)=100000)then(g.1,g.2.1,g.2.2,false)else((Xs g d).1,(Xs g d).2.1,(Xs g d).2.2,true)):=by
 have h:=(Jk g).1 hg
 have hz:=xH hg
 have hds:=XX hd
 have hdz:=ye hd
 have hc:Kt w (g.1,g.2.1,g.2.2)=some g:=QtI g (by omega)
 have hlo:Yt w (g.1,g.2.1,g.2.2)=some true:=by rw[<-hg];exact QdK g.1 g.2.1 g.2.2 hz.2.1 hz.2.2
 have hso:Xp w (d.1,d.2)=some true:=by rw[<-hd];exact Zx d.1 d.2 hds.1 hds.2
 have hsc:X4 w (d.1,d.2)=some d:=xi d (by omega)
 have hlen:(g.2.2++[d]).length=g.2.2.length+1:=by simp
 have hms:∀s∈g.2.2++[d],s.1.length<=maxLen/\s.2.length<=maxLen:=fun s hs=>by
  rcases QRh.1 hs with hs|hs
  ·exact hz.2.2 s hs
  ·obtain rfl:s=d:=by simpa using hs
   exact hds
 have hok:=QoV hg hd
 apply QvS
 simp only[QlV,hc,hlo,hso,hsc,QQ0,QQ3,QQ2]
 rw[Qu (by simp;omega),QQ1]
 by_cases hb:g.1<(((g.2.2++[d]).length:Nat):Int)
 ·have e:Xs g d=(g.1,g.2.1+1,(g.2.2++[d]).drop 1):=by unfold Xs;rw[dt hb];rfl
  rw[e]at hok⊢
  rw[dt hb]
  have ht:=Qj6 (g.2.2++[d]) 1 (by omega) (by rw[hlen];omega)
  simp only[QQ1,ht,dt (show(0:Int)<=1/\1<=(((g.2.2++[d]).length:Nat):Int)/\(((g.2.2++[d]).length:Nat):Int)<=(((g.2.2++[d]).length:Nat):Int) by rw[hlen];omega),w64 (n:=g.2.1+1) (by omega) (by omega)]
  have hl2:=QdK g.1 (g.2.1+1) ((g.2.2++[d]).drop 1) (by rw[List.length_drop,hlen];simp only[maxLen];omega) (fun s hs=>hms s (List.mem_of_mem_drop hs))
  rw[show Int.toNat 1=1 from rfl,hl2,hok]
  cases decide (g.2.1+((g.2.2.length:Nat):Int)=100000)<;>rfl
 ·have e:Xs g d=(g.1,g.2.1,g.2.2++[d]):=by unfold Xs;rw[df hb];rfl
  rw[e]at hok⊢
  rw[df hb]
  have hl2:=QdK g.1 g.2.1 (g.2.2++[d]) (by rw[hlen];simp only[maxLen];omega) hms
  simp only[QQ2,hl2,hok,QQ0]
  cases decide (g.2.1+((g.2.2.length:Nat):Int)=100000)<;>rfl
theorem QDD (g:Zs) (d:Qj) (hg:Zf g=true) (hd:QC d=true):Qen w (g.1,g.2.1,g.2.2,d.1,d.2)=some (bif decide (g.2.1+((g.2.2.length:Nat):Int)=100000)then(g.1,g.2.1,g.2.2,false)else((Xs g d).1,(Xs g d).2.1,(Xs g d).2.2,true)):=by
 have h:=(Jk g).1 hg
 have hz:=xH hg
 have hds:=XX hd
 have hdz:=ye hd
 have hc:zy w (g.1,g.2.1,g.2.2)=some g:=Qxi g (by omega)
 have hlo:Vg w (g.1,g.2.1,g.2.2)=some true:=by rw[<-hg];exact QlI g.1 g.2.1 g.2.2 hz.2.1 hz.2.2
 have hso:XA w (d.1,d.2)=some true:=by rw[<-hd];exact ZG d.1 d.2 hds.1 hds.2
 have hsc:ZY w (d.1,d.2)=some d:=Qaw d (by omega)
 have hlen:(g.2.2++[d]).length=g.2.2.length+1:=by simp
 apply QvK
 simp only[QlO,hc,hlo,hso,hsc,QQ0,QQ3,QQ2,w64 (n:=g.2.1+((g.2.2.length:Nat):Int)) (by omega) (by omega)]
 cases decide (g.2.1+((g.2.2.length:Nat):Int)=100000)
 ·simp only[QQ2]
  rw[Qu (by simp;omega),QQ1]
  by_cases hb:g.1<(((g.2.2++[d]).length:Nat):Int)
  ·have e:Xs g d=(g.1,g.2.1+1,(g.2.2++[d]).drop 1):=by unfold Xs;rw[dt hb];rfl
   rw[e,dt hb]
   have ht:=Qj6 (g.2.2++[d]) 1 (by omega) (by rw[hlen];omega)
   simp only[QQ1,ht,dt (show(0:Int)<=1/\1<=(((g.2.2++[d]).length:Nat):Int)/\(((g.2.2++[d]).length:Nat):Int)<=(((g.2.2++[d]).length:Nat):Int) by rw[hlen];omega),w64 (n:=g.2.1+1) (by omega) (by omega),List.length_nil,QRe,QRo]
   rw[Qu (by rw[List.length_drop,hlen];omega)];rfl
  ·have e:Xs g d=(g.1,g.2.1,g.2.2++[d]):=by unfold Xs;rw[df hb];rfl
   rw[e,df hb];rfl
 ·rfl
def QeR:Qj->List Qj->Qj
 |s,[]=>s
 |s,d::l=>QeR (join s d) l
theorem Qy7:(s:Qj)->(l:List Qj)->QC s=true->(∀d∈l,QC d=true)->QC (QeR s l)=true
 |s,[],h,_=>h
 |s,d::l,h,hl=>Qy7 _ l (xF h (hl d (by simp))) fun x hx=>hl x (by simp[hx])
def YD (g:Zs) (seq:Int):List Qd×List Qa×Bool:=bif inR seq g.2.1 (g.2.1+((g.2.2.length:Nat):Int))then((QeR ([],[]) (g.2.2.drop (seq - g.2.1).toNat)).1,(QeR ([],[]) (g.2.2.drop (seq - g.2.1).toNat)).2,true)else([],[],false)
theorem QA4 {g:Zs}(hg:Zf g=true) (seq:Int):QC ((YD g seq).1,(YD g seq).2.1)=true:=by
 have h:=(Jk g).1 hg
 unfold YD
 cases inR seq g.2.1 (g.2.1+((g.2.2.length:Nat):Int))
 ·rfl
 ·exact Qy7 ([],[]) _ rfl fun d hd=>h.2.2.2.2 d (List.mem_of_mem_drop hd)
theorem QAQ (g:Zs) (hg:Zf g=true) (seq:Int):x0 w (g.1,g.2.1,g.2.2,seq)=some (YD g seq):=by
 have h:=(Jk g).1 hg
 have hz:=xH hg
 have hlo:Yt w (g.1,g.2.1,g.2.2)=some true:=by rw[<-hg];exact QdK g.1 g.2.1 g.2.2 hz.2.1 hz.2.2
 have hls:Vq w (g.1,g.2.1,g.2.2)=some (g.2.1+((g.2.2.length:Nat):Int)):=by
  rw[Qll g.1 g.2.1 g.2.2 hz.2.1 hz.2.2,Xd]
  rw[show Zf (g.1,g.2.1,g.2.2)=true from hg];rfl
 apply QrR
 simp only[Qhg,hlo,hls,Xf,QQ0,QQ3,QQ2,YD]
 cases hr:inR seq g.2.1 (g.2.1+((g.2.2.length:Nat):Int))
 ·rfl
 ·have hr':=QW.1 hr
  have ht:=Qj6 g.2.2 (seq - g.2.1) (by omega) (by omega)
  simp only[QQ3,QQ2,QQ1,w64 (n:=seq - g.2.1) (by omega) (by omega),ht,dt (show(0:Int)<=seq - g.2.1/\seq - g.2.1<=((g.2.2.length:Nat):Int)/\((g.2.2.length:Nat):Int)<=((g.2.2.length:Nat):Int) by omega)]
  have hm:∀d∈g.2.2.drop (seq - g.2.1).toNat,QC d=true:=fun d hd=>h.2.2.2.2 d (List.mem_of_mem_drop hd)
  have hl:(g.2.2.drop (seq - g.2.1).toNat).length<=maxLen:=by rw[List.length_drop];omega
  generalize g.2.2.drop (seq - g.2.1).toNat=L at hm hl
  have e:=Xb L.length (fun i (s:Qj)=>VI wl (L,((L.length:Nat):Int),(i:Int),s.1,s.2)) (fun i s=>QeR s (L.drop i)) (fun _ s=>QC s=true)
   (fun i hi s hs ih=>by
     apply Qdi
     have hd:=hm _ (QRf hi)
     have hj:Zq w (s.1,s.2,L[i])=some (join s L[i]):=QcG s L[i] (XX hs) (XX hd)
     simp only[v3,ilt hi,Qk hi,Qg hi,inc hi hl,QQ1,hj,QQ0]
     rw[QRa hi,QeR]
     exact ih _ (xF hs hd))
   (fun s _=>by
     apply Qdi
     simp only[v3,Qm,QQ2,QRl,QeR]) ([],[]) rfl
  simp only[QQ6,QRg]at e
  simp only[e,QQ0]
theorem QzO (g:Zs) (hg:Zf g=true) (seq:Int):x6 w (g.1,g.2.1,g.2.2,seq)=some (YD g seq):=by
 have h:=(Jk g).1 hg
 have hz:=xH hg
 have hlo:Vg w (g.1,g.2.1,g.2.2)=some true:=by rw[<-hg];exact QlI g.1 g.2.1 g.2.2 hz.2.1 hz.2.2
 apply Qsi
 simp only[Qg4,hlo,XB,QQ0,QQ3,QQ2,YD,w64 (n:=g.2.1+((g.2.2.length:Nat):Int)) (by omega) (by omega)]
 cases hr:inR seq g.2.1 (g.2.1+((g.2.2.length:Nat):Int))
 ·rfl
 ·have hr':=QW.1 hr
  simp only[QQ3,QQ2,QQ1,w64 (n:=seq - g.2.1) (by omega) (by omega)]
  obtain⟨k,hk⟩:∃k:Nat,seq - g.2.1=(k:Int):=⟨(seq - g.2.1).toNat,by omega⟩
  rw[hk,QRb]
  have hkl:k<=g.2.2.length:=by omega
  have e:=Xb (g.2.2.length - k) (fun i (s:Qj)=>VS wl (((k+i:Nat):Int),g.1,g.2.1,g.2.2,s.1,s.2)) (fun i s=>QeR s (g.2.2.drop (k+i))) (fun _ s=>QC s=true)
   (fun i hi s hs ih=>by
     apply Qdt
     have hi':k+i<g.2.2.length:=by omega
     have hd:=h.2.2.2.2 _ (QRf hi')
     have hj:Yn w (s.1,s.2,g.2.2[k+i])=some (join s g.2.2[k+i]):=Qlb s _ hs hd
     simp only[vW,ilt hi',Qk hi',Qg hi',inc hi' hz.2.1,QQ1,hj,QQ0]
     rw[QRa hi',QeR]
     exact ih _ (xF hs hd))
   (fun s _=>by
     apply Qdt
     rw[show k+(g.2.2.length - k)=g.2.2.length by omega]
     simp only[vW,Qm,QQ2,QRl,QeR]) ([],[]) rfl
  simp only[Nat.add_zero]at e
  simp only[e,QQ0]
def present (s:Qj) (id:Int):Int×Int×Int×Int×ByteArray×Int:=bif QC s&&inR id 0 4 then(bif (lookup s id).2.2.2.2.2 then((lookup s id).1,(lookup s id).2.1,(lookup s id).2.2.1,(lookup s id).2.2.2.1,(lookup s id).2.2.2.2.1,0)else(0,0,0,0,ByteArray.empty,3))else(0,0,0,0,ByteArray.empty,1)
theorem QDG (a:List Qd) (b:List Qa) (id:Int) (h1:a.length<=maxLen) (h2:b.length<=maxLen):Qbq w (a,b,id)=some (present (a,b) id):=by
 apply QsM
 simp only[QiA,Zx a b h1 h2,Qat,QwX a b id h1 h2,QQ0,present]
 cases QC (a,b)<;>cases inR id 0 4<;>cases(lookup (a,b) id).2.2.2.2.2<;>rfl
theorem QH1 (a:List Qd) (b:List Qa) (id:Int) (h1:a.length<=maxLen) (h2:b.length<=maxLen):QkU w (a,b,id)=some (present (a,b) id):=by
 apply QyH
 simp only[QoD,ZG a b h1 h2,Qam,QsS a b id h1 h2,QQ0,present]
 cases QC (a,b)<;>cases inR id 0 4<;>cases(lookup (a,b) id).2.2.2.2.2<;>rfl
theorem Qrp (id:Int):(l:List Qd)->(∀x∈l,XF x.2=true)->(QV id l).2.2.2.2.2=true->XF (ZQ (QV id l))=true
 | [],_,h=>by simp[QV]at h
 |x::l,hl,h=>by
  simp only[QV]at h⊢
  split
  ·exact hl x (by simp)
  ·rename_i hx;rw[if_neg hx]at h
   exact Qrp id l (fun y hy=>hl y (by simp[hy])) h
theorem QFj {s:Qj}(h:QC s=true):∀x∈view s,inR x.1 0 4=true/\XF x.2=true:=by
 unfold view;rw[h]
 intro x hx
 exact QhF h x (List.mem_filter.1 hx).1
theorem QDl {s:Qj}(h:QC s=true) {id:Int}(hb:(lookup s id).2.2.2.2.2=true):XF (ZQ (lookup s id))=true:=Qrp id _ (fun x hx=>(QFj h x hx).2) hb
theorem Qmp {s:Qj}{id:Int}(h:(present s id).2.2.2.2.2=0):QC s=true/\inR id 0 4=true/\XF ((present s id).1,(present s id).2.1,(present s id).2.2.1,(present s id).2.2.2.1,(present s id).2.2.2.2.1)=true:=by
 unfold present at h⊢
 cases hs:QC s
 ·rw[hs]at h;simp at h
 ·cases hi:inR id 0 4
  ·rw[hs,hi]at h;simp at h
  ·rw[hs,hi]at h
   cases hb:(lookup s id).2.2.2.2.2
   ·rw[hb]at h;simp at h
   ·exact⟨rfl,rfl,QDl hs hb⟩
def one (id:Int) (e:XT):Qj:=([(id,e)],[])
theorem QEr {id:Int}{e:XT}(h:inR id 0 4=true) (he:XF e=true):QC (one id e)=true:=by
 have:=xU he
 have hi:=QW.1 h
 simp[QC,one,QO,Xw,h,he,Q3]
 exact⟨decide_eq_true (by omega),by omega⟩
def Xi (s:Qj) (id:Int):List Qd×List Qa×Int:=bif !decide ((present s id).2.2.2.2.2=0)then([],[],(present s id).2.2.2.2.2)else(bif decide ((present s id).2.2.1=100000)then([],[],4)else([(id,(present s id).1,(present s id).2.1,(present s id).2.2.1+1,(present s id).2.2.2.1,(present s id).2.2.2.2.1)],[],0))
theorem QbZ {s:Qj}{id:Int}(h:(Xi s id).2.2=0):QC ((Xi s id).1,(Xi s id).2.1)=true:=by
 unfold Xi at h⊢
 by_cases h0:(present s id).2.2.2.2.2=0
 ·rw[dt h0]at h⊢
  by_cases h1:(present s id).2.2.1=100000
  ·rw[dt h1]at h;simp at h
  ·rw[df h1]
   obtain⟨hs,hi,he⟩:=Qmp h0
   refine QEr hi ?_
   have:=xU he
   simp only at this
   simp only[XF,inR,QQ5,QRu]
   omega
 ·rw[df h0]at h;simp at h;exact absurd h h0
theorem QDd (a:List Qd) (b:List Qa) (id:Int) (h1:a.length<=maxLen) (h2:b.length<=maxLen):QbY w (a,b,id)=some (Xi (a,b) id):=by
 apply Qte
 have hs:∀x:Qd,QeN w x=some ([x],[],0):=fun x=>by apply Qu2;rfl
 simp only[Qh8,QDG a b id h1 h2,QQ0,Xi,hs]
 by_cases h0:(present (a,b) id).2.2.2.2.2=0
 ·rw[dt h0]
  obtain⟨_,_,he⟩:=Qmp h0
  have:=xU he
  simp only at this
  rw[w64 (n:=(present (a,b) id).2.2.1+1) (by omega) (by omega)]
  cases decide ((present (a,b) id).2.2.1=100000)<;>rfl
 ·rw[df h0];rfl
theorem QGJ {id:Int}{e:XT}(h:inR id 0 4=true) (he:XF e=true):QhP w (id,e)=some ([(id,e)],[],0):=by
 have hs:Qeo w (id,e)=some ([(id,e)],[],true):=by
  apply Qvm
  have hk:XA w ([(id,e)],[])=some true:=by rw[<-QEr h he];exact ZG _ _ (by simp[maxLen]) (by simp[maxLen])
  simp only[Qle]
  rw[hk];rfl
 apply QxP
 simp only[Qnj]
 rw[hs];rfl
theorem QBb (a:List Qd) (b:List Qa) (id:Int) (h1:a.length<=maxLen) (h2:b.length<=maxLen):Qa7 w (a,b,id)=some (Xi (a,b) id):=by
 apply Qs7
 simp only[QiR,QH1 a b id h1 h2,QQ0,Xi]
 by_cases h0:(present (a,b) id).2.2.2.2.2=0
 ·rw[dt h0]
  obtain⟨_,hi,he⟩:=Qmp h0
  have:=xU he
  simp only at this
  rw[w64 (n:=(present (a,b) id).2.2.1+1) (by omega) (by omega)]
  by_cases hb:(present (a,b) id).2.2.1=100000
  ·rw[dt hb];rfl
  ·rw[df hb]
   have he':XF ((present (a,b) id).1,(present (a,b) id).2.1,(present (a,b) id).2.2.1+1,(present (a,b) id).2.2.2.1,(present (a,b) id).2.2.2.2.1)=true:=by
    simp only[XF,inR,QQ5,QRu]
    omega
   simp only[QGJ hi he',QQ0,QQ3,QQ2]
 ·rw[df h0];rfl
end Go.Proofs.YtjenicbpdklpbaaGreat.M
