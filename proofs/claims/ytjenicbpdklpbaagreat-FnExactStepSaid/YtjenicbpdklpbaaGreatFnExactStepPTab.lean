/- What the plain forms that FnExactStep reaches come to: PTab. No conditions but those that each theorem states. -/
import Derived.Test.YtjenicbpdklpbaaGreatFnExactStepPMsg
set_option linter.all false
namespace Go.Proofs.YtjenicbpdklpbaaGreat.M
open Go Go.Eng Go.Proofs
set_option linter.unusedVariables false
theorem QhL:(p:Int)->(l:List Qa)->QO p l=true->∀x∈l,inR x.1 0 4=true/\inR x.2 1 1000=true
 |_,[],_=>by simp
 |p,x::l,h=>by
  simp only[QO,QQ5]at h
  intro y hy
  rcases QRk.1 hy with rfl|hy
  ·exact⟨h.1.1.1,h.1.1.2⟩
  ·exact QhL _ l h.2 y hy
theorem lenW' {α:Type}{ns:List α}(h:ns.length<=maxLen):wR (((ns.length:Nat):Int) - 1)=((ns.length:Nat):Int) - 1:=by
 simp only[maxLen]at h
 exact w64 (by omega) (by omega)
def Qcr (r:List Int):List Qa->List Int
 | []=>r
 |m::l=>Qcr (r.set m.1.toNat (mxI (rd1 0 r m.1) m.2)) l
def K6 (t:List (List Int)) (k:Int) (l:List Qa):List (List Int):=bif inR k 0 ((t.length:Nat) - 1)&&(QO (-1) l&& !decide (((List.length (rd1 ([]:List Int) t k):Nat):Int)<5))then t.set k.toNat (Qcr (rd1 ([]:List Int) t k) l)else t
theorem QnO {x:Int}{n:Nat}(h:inR x 0 4=true) (hn:5<=n):∃i:Nat,x=(i:Int)/\i<n:=by
 simp only[inR,QQ5,QRu]at h
 exact⟨x.toNat,by omega,by omega⟩
theorem Qrz (t:List (List Int)) (k:Int) (l:List Qa) (h:Xx t<=4294967296) (hl:l.length<=maxLen):K9 w (t,k,l)=some (K6 t k l):=by
 apply Qsg
 have ht:t.length<=maxLen:=by simp only[Xx]at h;simp only[maxLen];omega
 simp only[Qhv,QoX t h,lenW' ht,Xf,Qub l hl,QQ0,K6]
 cases hk:inR k 0 ((t.length:Nat) - 1)
 ·rfl
 ·obtain⟨j,rfl,hj⟩:=YI hk
  cases ho:QO (-1) l
  ·rfl
  ·simp only[Qk hj,QQ1,QQ3,QQ2,QRd]
   by_cases h5:((List.length (rd1 ([]:List Int) t (j:Int)):Nat):Int)<5
   ·rw[dt h5];rfl
   ·rw[df h5]
    have hm:=QhL _ _ ho
    have e:=Xb l.length (fun i (s:List (List Int))=>VB wl ((j:Int),l,((l.length:Nat):Int),(i:Int),s)) (fun i s=>s.set j (Qcr (rd1 ([]:List Int) s (j:Int)) (l.drop i))) (fun i s=>s.length=t.length/\5<=(rd1 ([]:List Int) s (j:Int)).length)
     (fun i hi s hs ih=>by
       apply Qdl
       obtain⟨n,hn,hn5⟩:=QnO (hm _ (QRf hi)).1 hs.2
       simp only[vM,ilt hi,Qk hi,Qg hi,inc hi hl,QQ1,Qk (show j<s.length by omega),hn,Qk hn5,QRb]
       have hr:=Yf (d:=([]:List Int)) (v:=(rd1 ([]:List Int) s (j:Int)).set n (mxI (rd1 0 (rd1 ([]:List Int) s (j:Int)) (n:Int)) l[i].2)) (show j<s.length by omega)
       rw[ih _ (by rw[hr];simp[hs])]
       rw[hr,List.set_set,QRa hi,Qcr,hn,QRb])
     (fun s hs=>by
       apply Qdl
       simp only[vM,Qm,QQ2,QRl,Qcr]
       rw[Qg (show j<s.length by omega),List.set_getElem_self])
     t (by omega)
    simp only[QQ6,QRg]at e
    simp only[e,QQ0,QQ2,QQ4,QQ1,QRb]
theorem QoW (t:List (List Int)) (k:Int) (l:List Qa) (h:Xx t<=4294967296) (hl:l.length<=maxLen):K3 w (t,k,l)=some (K6 t k l):=by
 apply Qsd
 have ht:t.length<=maxLen:=by simp only[Xx]at h;simp only[maxLen];omega
 simp only[Qg6,Qxc t h,lenW' ht,XB,Qrd l hl,QQ0,K6]
 cases hk:inR k 0 ((t.length:Nat) - 1)
 ·rfl
 ·obtain⟨j,rfl,hj⟩:=YI hk
  cases ho:QO (-1) l
  ·rfl
  ·simp only[Qk hj,QQ1,QQ3,QQ2,QRd]
   by_cases h5:((List.length (rd1 ([]:List Int) t (j:Int)):Nat):Int)<5
   ·rw[dt h5];rfl
   ·rw[df h5]
    have hm:=QhL _ _ ho
    have e:=Xb l.length (fun i (s:List (List Int))=>VT wl ((j:Int),l,(i:Int),s)) (fun i s=>s.set j (Qcr (rd1 ([]:List Int) s (j:Int)) (l.drop i))) (fun i s=>s.length=t.length/\5<=(rd1 ([]:List Int) s (j:Int)).length)
     (fun i hi s hs ih=>by
       apply Qdu
       obtain⟨n,hn,hn5⟩:=QnO (hm _ (QRf hi)).1 hs.2
       simp only[vL,ilt hi,Qk hi,Qg hi,inc hi hl,QQ1,Qk (show j<s.length by omega),hn,Qk hn5,QRb,QyI,QQ0]
       have hr:=Yf (d:=([]:List Int)) (v:=(rd1 ([]:List Int) s (j:Int)).set n (mxI (rd1 0 (rd1 ([]:List Int) s (j:Int)) (n:Int)) l[i].2)) (show j<s.length by omega)
       rw[ih _ (by rw[hr];simp[hs])]
       rw[hr,List.set_set,QRa hi,Qcr,hn,QRb])
     (fun s hs=>by
       apply Qdu
       simp only[vL,Qm,QQ2,QRl,Qcr]
       rw[Qg (show j<s.length by omega),List.set_getElem_self])
     t (by omega)
    simp only[QQ6,QRg]at e
    simp only[e,QQ0,QQ2,QQ4,QQ1,QRb]
def QiN (id:Int):Nat->Int->List (List Int)->Int⊕Int
 |_,m,[]=> .inr m
 |k,m,r::l=>bif inR id 0 ((r.length:Nat) - 1)then(bif decide (k=0)||decide (rd1 0 r id<m)then QiN id (k+1) (rd1 0 r id) l else QiN id (k+1) m l)else .inl 0
def common (t:List (List Int)) (id:Int):Int:=Sum.elim (fun u=>u) (fun z=>z) (QiN id 0 0 t)
theorem QD9 (t:List (List Int)) (id:Int) (ht:t.length<=maxLen) (hr:∀r∈t,r.length<=maxLen):Qez w (t,id)=some (common t id):=by
 apply QvH
 have e:=Xb t.length (fun i (m:Int)=>Ki wl (id,m,t,((t.length:Nat):Int),(i:Int))) (fun i m=>QiN id i m (t.drop i)) (fun _ _=>True)
  (fun i hi m _ ih=>by
    apply Qhl
    simp only[QdG,ilt hi,Qk hi,Qg hi,inc hi ht,QQ1,lenW' (hr _ (QRf hi)),Xf,QQ0]
    rw[QRa hi,QiN]
    cases hk:inR id 0 ((t[i].length:Nat) - 1)
    ·rfl
    ·obtain⟨j,rfl,hj⟩:=YI hk
     simp only[QQ3,QQ1,QQ2,Qk hj]
     by_cases h0:i=0
     ·rw[dt (show(i:Int)=0 by omega),dt h0];simp only[QQ1,Bool.true_or];exact ih _ trivial
     ·rw[df (show¬(i:Int)=0 by omega),df h0]
      cases decide (rd1 0 t[i] (j:Int)<m)<;>exact ih _ trivial)
  (fun m _=>by
    apply Qhl
    simp only[QdG,Qm,QQ2,QRl,QiN]) 0 trivial
 simp only[QQ6,QRg]at e
 simp only[QlS,e,QQ0,common]
 cases QiN id 0 0 t<;>rfl
theorem QCS (t:List (List Int)) (id:Int) (ht:t.length<=maxLen) (hr:∀r∈t,r.length<=maxLen):QeW w (t,id)=some (common t id):=by
 apply Qwb
 have e:=Xb t.length (fun i (m:Int)=>Ke wl (t,id,m,(i:Int))) (fun i m=>QiN id i m (t.drop i)) (fun _ _=>True)
  (fun i hi m _ ih=>by
    apply Qhe
    simp only[QdE,ilt hi,Qk hi,Qg hi,inc hi ht,QQ1,lenW' (hr _ (QRf hi)),XB,QQ0]
    rw[QRa hi,QiN]
    cases hk:inR id 0 ((t[i].length:Nat) - 1)
    ·rfl
    ·obtain⟨j,rfl,hj⟩:=YI hk
     simp only[QQ3,QQ1,QQ2,Qk hj]
     by_cases h0:i=0
     ·rw[dt (show(i:Int)=0 by omega),dt h0];simp only[QQ1,Bool.true_or];exact ih _ trivial
     ·rw[df (show¬(i:Int)=0 by omega),df h0]
      cases decide (rd1 0 t[i] (j:Int)<m)<;>exact ih _ trivial)
  (fun m _=>by
    apply Qhe
    simp only[QdE,Qm,QQ2,QRl,QiN]) 0 trivial
 simp only[QQ6,QRg]at e
 simp only[Qkv,e,QQ0,common]
 by_cases h0:((t.length:Nat):Int)=0
 ·rw[dt h0]
  obtain rfl:t=[]:=List.length_eq_zero_iff.1 (by omega)
  rfl
 ·rw[df h0]
  cases QiN id 0 0 t<;>rfl
def Qh3 (s:Qj) (t:List (List Int)) (i:Nat):List Qa:=bif decide (0<mnI (common t (i:Int)) (Zn s (i:Int)))then [((i:Int),mnI (common t (i:Int)) (Zn s (i:Int)))]else []
def QmW (s:Qj) (t:List (List Int)):Qj:=([],(List.range' 0 5).flatMap (Qh3 s t))
def prune (s:Qj) (t:List (List Int)):Qj:=bif QC s then join s (QmW s t)else s
theorem Qme (s:Qj) (t:List (List Int)):QC (QmW s t)=true:=by
 simp only[QC,QQ5]
 refine⟨zk _ (fun i hi=> ?_) 5 0 (-1) (by omega) (by simp),rfl⟩
 have h:=QuW s (i:Int)
 unfold Qh3
 by_cases h0:0<mnI (common t (i:Int)) (Zn s (i:Int))
 ·refine Or.inr ⟨mnI (common t (i:Int)) (Zn s (i:Int)),by simp[h0], ?_⟩
  have:mnI (common t (i:Int)) (Zn s (i:Int))<=Zn s (i:Int):=by unfold mnI;split<;>omega
  simp[inR];omega
 ·exact Or.inl (by simp[h0])
theorem QCm {s:Qj}(h:QC s=true) (t:List (List Int)):QC (prune s t)=true:=by
 unfold prune;rw[h];exact xF h (Qme s t)
theorem QFp (s:Qj) (t:List (List Int)) (hs:smS s) (hz:QG s<=4294967296) (ht:t.length<=maxLen) (hr:∀r∈t,r.length<=maxLen):Qc3 w (s.1,s.2,t)=some (prune s t):=by
 apply Qxr
 simp only[Qm3,Zx s.1 s.2 hs.1 hs.2,xi s hz,QQ0,prune]
 cases h:QC s
 ·rfl
 ·have e:=Xb 5 (fun i (f:List Qa)=>Jb wl (t,(i:Int),s.1,s.2,[],f)) (fun i f=>(s.1,s.2,([]:List Qd),f++(List.range' i (5 - i)).flatMap (Qh3 s t))) (fun i f=>f.length<=i)
   (fun i hi f hf ih=>by
     apply Qiz
     simp only[QgG,QuZ hi,Qwt hi,QQ1,QD9 t _ ht hr,Qxd s.1 s.2 _ hs.1 hs.2,QQ0]
     rw[Z3 hi]
     simp only[Qh3,Qu (show(f.length+([((i:Int),mnI (common t (i:Int)) (Zn s (i:Int)))]:List Qa).length)*16<=140737488351232 by simp;omega),QQ1]
     cases decide (0<mnI (common t (i:Int)) (Zn s (i:Int)))<;>simp only[QQ1,QQ2,QRe]
     ·exact ih f (by omega)
     ·rw[ih _ (by simp;omega)];simp)
   (fun f _=>by
     apply Qiz
     simp[QgG]) [] (by simp)
  simp only[QQ6,QRe,Nat.sub_zero]at e
  simp only[e,QQ0,QQ3,QQ2,QQ1]
  have:=QcG s (QmW s t) hs (XX (Qme s t))
  simp only[QmW]at this⊢
  simp only[this,QQ0]
theorem QD7 (s:Qj) (t:List (List Int)) (hs:smS s) (hz:QG s<=4294967296) (ht:t.length<=maxLen) (hr:∀r∈t,r.length<=maxLen):Qa6 w (s.1,s.2,t)=some (prune s t):=by
 apply QxA
 simp only[QmK,ZG s.1 s.2 hs.1 hs.2,Qaw s hz,QQ0,prune]
 cases h:QC s
 ·rfl
 ·have e:=Xb 5 (fun i (f:List Qa)=>Jj wl (t,(i:Int),s.1,s.2,[],f)) (fun i f=>(s.1,s.2,([]:List Qd),f++(List.range' i (5 - i)).flatMap (Qh3 s t))) (fun i f=>f.length<=i)
   (fun i hi f hf ih=>by
     apply Qi0
     simp only[QgH,QuZ hi,Qwt hi,QQ1,QCS t _ ht hr,QtN s.1 s.2 _ hs.1 hs.2,QyX,QQ0]
     rw[Z3 hi]
     simp only[Qh3,Qu (show(f.length+([((i:Int),mnI (common t (i:Int)) (Zn s (i:Int)))]:List Qa).length)*16<=140737488351232 by simp;omega),QQ1]
     cases decide (0<mnI (common t (i:Int)) (Zn s (i:Int)))<;>simp only[QQ1,QQ2,QRe]
     ·exact ih f (by omega)
     ·rw[ih _ (by simp;omega)];simp)
   (fun f _=>by
     apply Qi0
     simp[QgH]) [] (by simp)
  simp only[QQ6,QRe,Nat.sub_zero]at e
  simp only[e,QQ0,QQ3,QQ2,QQ1]
  have:=Qlb s (QmW s t) h (Qme s t)
  simp only[QmW]at this⊢
  simp only[this,QQ0]
def ZD (v:List Int) (k n:Int):List Int:=bif inR k 0 ((v.length:Nat) - 1)then v.set k.toNat (mxI (rd1 0 v k) n)else v
theorem Qq7 (v:List Int) (k n:Int) (h:v.length<=4294967296):Jd w (v,k,n)=some (ZD v k n):=by
 apply Qsc
 have ht:v.length<=maxLen:=by simp only[maxLen];omega
 simp only[Qhp,vS v h,lenW' ht,Xf,QQ0,ZD]
 cases hk:inR k 0 ((v.length:Nat) - 1)
 ·rfl
 ·obtain⟨j,rfl,hj⟩:=YI hk
  simp only[Qk hj,QQ1]
theorem Qpp (v:List Int) (k n:Int) (h:v.length<=4294967296):Jf w (v,k,n)=some (ZD v k n):=by
 apply QrS
 have ht:v.length<=maxLen:=by simp only[maxLen];omega
 simp only[QgM,List.length_nil,QRe,QRo,Qu (show v.length*8<=140737488351232 by omega),lenW' ht,XB,QQ0,ZD,QQ1]
 cases hk:inR k 0 ((v.length:Nat) - 1)
 ·rfl
 ·obtain⟨j,rfl,hj⟩:=YI hk
  simp only[Qk hj,QQ1,Qg hj,QRb]
  by_cases hn:v[j]<n
  ·rw[dt hn];simp only[QQ1];congr 2;unfold mxI;split<;>omega
  ·rw[df hn];simp only[QQ2]
   have:mxI v[j] n=v[j]:=by unfold mxI;split<;>omega
   rw[this,List.set_getElem_self]
def QjU (a b:List Int) (i:Nat):List Int:=bif decide (((a.length:Nat):Int)=4)&&decide (((b.length:Nat):Int)=4)&&decide (rd1 0 a (i:Int)=rd1 0 b (i:Int))then []else [(i:Int)]
def differ (a:List Int) (ra:Int) (b:List Int) (rb:Int):List Int:=bif decide (ra=rb)then []else(List.range' 0 4).flatMap (QjU a b)
theorem QIA {i:Nat}(h:i<4):wR ((i:Int)+1)=((i+1:Nat):Int):=by
 rw[w64 (by omega) (by omega)];omega
theorem QwP (a:List Int) (ra:Int) (b:List Int) (rb:Int):vp w (a,ra,b,rb)=some (differ a ra b rb):=by
 apply Qwv
 have e:=fun wh (hw:wh=(decide (((a.length:Nat):Int)=4)&&decide (((b.length:Nat):Int)=4)))=>Xb 4 (fun i (f:List Int)=>Yg wl (wh,(i:Int),a,ra,b,rb,f)) (fun i f=>f++(List.range' i (4 - i)).flatMap (QjU a b)) (fun i f=>f.length<=i)
  (fun i hi f hf ih=>by
    apply QgS
    have hf:fits (f.length+([(i:Int)]:List Int).length) 8=true:=Qu (by simp;omega)
    simp only[Qd7,QCZ hi,QIA hi,QQ1,hf]
    rw[Z3 hi]
    simp only[QjU,<-hw]
    cases wh
    ·simp only[QQ4,QQ1,QRm,QQ2]
     rw[ih _ (by simp;omega)];simp
    ·have hw':=hw.symm
     simp only[QQ5,QRu]at hw'
     simp only[QQ3,QQ2,Qk (show i<a.length by omega),Qk (show i<b.length by omega),QQ1,QRd]
     cases decide (rd1 0 a (i:Int)=rd1 0 b (i:Int))<;>simp only[QQ3,QQ4,QQ1,QQ2,QRe]
     ·rw[ih _ (by simp;omega)];simp
     ·exact ih f (by omega))
  (fun f _=>by
    apply QgS
    simp[Qd7]) [] (by simp)
 simp only[QQ6,QRe,Nat.sub_zero]at e
 simp only[Qlt,differ]
 cases decide (ra=rb)
 ·by_cases h4:((a.length:Nat):Int)=4
  ·rw[dt h4];simp only[QQ1,QQ2]
   rw[e _ (by rw[dt h4,QRd])];rfl
  ·rw[df h4];simp only[QQ2]
   rw[e _ (by rw[df h4,QRm])];rfl
 ·rfl
theorem Qtc (a:List Int) (ra:Int) (b:List Int) (rb:Int):vk w (a,ra,b,rb)=some (differ a ra b rb):=by
 apply Qu3
 have e:=Xb 4 (fun i (f:List Int)=>Yc wl ((i:Int),a,ra,b,rb,f)) (fun i f=>f++(List.range' i (4 - i)).flatMap (QjU a b)) (fun i f=>f.length<=i)
  (fun i hi f hf ih=>by
    apply QgQ
    have hf:fits (f.length+([(i:Int)]:List Int).length) 8=true:=Qu (by simp;omega)
    simp only[QdR,QCZ hi,QIA hi,QQ1,hf]
    rw[Z3 hi]
    simp only[QjU]
    by_cases h4:((a.length:Nat):Int)=4
    ·by_cases h4':((b.length:Nat):Int)=4
     ·simp only[dt h4,dt h4',QQ3,QQ2,Qk (show i<a.length by omega),Qk (show i<b.length by omega),QQ1,QRd]
      cases decide (rd1 0 a (i:Int)=rd1 0 b (i:Int))<;>simp only[QQ3,QQ4,QQ1,QQ2,QRe]
      ·rw[ih _ (by simp;omega)];simp
      ·exact ih f (by omega)
     ·simp only[dt h4,df h4',QQ3,QQ4,QQ2,QQ1,Bool.and_false,QRm]
      rw[ih _ (by simp;omega)];simp
    ·simp only[df h4,QQ4,QQ1,QRm,QQ2]
     rw[ih _ (by simp;omega)];simp)
  (fun f _=>by
    apply QgQ
    simp[QdR]) [] (by simp)
 simp only[QQ6,QRe,Nat.sub_zero]at e
 simp only[QkD,differ,e]
 cases decide (ra=rb)<;>rfl
end Go.Proofs.YtjenicbpdklpbaaGreat.M
