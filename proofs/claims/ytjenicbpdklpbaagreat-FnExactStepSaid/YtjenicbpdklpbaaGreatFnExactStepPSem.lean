/- What the plain forms that FnExactStep reaches come to: PSem. No conditions but those that each theorem states. -/
import Derived.Test.YtjenicbpdklpbaaGreatFnExactStepPCopy
set_option linter.all false
namespace Go.Proofs.YtjenicbpdklpbaaGreat.M
open Go Go.Eng Go.Proofs
set_option linter.unusedVariables false
def zL (a b:Qj) (id:Int):XT:=JJ (ZQ (QV id a.1)) (ZQ (QV id b.1))
def Zp (a b:Qj) (id:Int):Int:=mxI (Q3 id a.2) (Q3 id b.2)
def Qnb (a b:Qj) (i:Nat):List Qd:=bif decide (Zp a b (i:Int)<(zL a b (i:Int)).1)then [((i:Int),zL a b (i:Int))]else []
def ya (a b:Qj) (i:Nat):List Qa:=bif decide (0<Zp a b (i:Int))then [((i:Int),Zp a b (i:Int))]else []
def join (a b:Qj):Qj:=((List.range' 0 5).flatMap (Qnb a b),(List.range' 0 5).flatMap (ya a b))
theorem QsQ (id:Int):(p:Int)->(l:List Qa)->QO p l=true->0<=Q3 id l/\Q3 id l<=1000
 |_,[],_=>by simp[Q3]
 |p,x::l,h=>by
  simp only[QO,QQ5]at h
  have ih:=QsQ id _ l h.2
  have hx:=h.1.1.2
  simp only[inR,QQ5,QRu]at hx
  simp only[Q3]
  split
  ·omega
  ·exact ih
theorem Qw7 (fl:List Qa) (id:Int):(p:Int)->(l:List Qd)->Xw fl p l=true->(XF (ZQ (QV id l))=true/\(QV id l).2.2.2.2.2=true)\/(ZQ (QV id l)=(0,0,0,0,ByteArray.empty)/\(QV id l).2.2.2.2.2=false)
 |_,[],_=>Or.inr ⟨rfl,rfl⟩
 |p,x::l,h=>by
  simp only[Xw,QQ5]at h
  have ih:=Qw7 fl id _ l h.2
  simp only[QV]
  split
  ·exact Or.inl ⟨h.1.1.1.2,rfl⟩
  ·exact ih
theorem QyS {s:Qj}(h:QC s=true) (id:Int):0<=Q3 id s.2/\Q3 id s.2<=1000:=by
 simp only[QC,QQ5]at h
 exact QsQ id _ _ h.1
theorem QjF {s:Qj}(h:QC s=true) (id:Int):(XF (ZQ (QV id s.1))=true/\(QV id s.1).2.2.2.2.2=true)\/(ZQ (QV id s.1)=(0,0,0,0,ByteArray.empty)/\(QV id s.1).2.2.2.2.2=false):=by
 simp only[QC,QQ5]at h
 exact Qw7 _ id _ _ h.2
theorem QwJ (x y:XT):JJ x y=x\/JJ x y=y:=by
 unfold JJ;split
 ·exact Or.inr rfl
 ·exact Or.inl rfl
theorem QFg {a b:Qj}(ha:QC a=true) (hb:QC b=true) (id:Int):XF (zL a b id)=true\/zL a b id=(0,0,0,0,ByteArray.empty):=by
 unfold zL
 rcases QwJ (ZQ (QV id a.1)) (ZQ (QV id b.1))with e|e
 ·rw[e];rcases QjF ha id with h|h
  ·exact Or.inl h.1
  ·exact Or.inr h.1
 ·rw[e];rcases QjF hb id with h|h
  ·exact Or.inl h.1
  ·exact Or.inr h.1
theorem QkH {a b:Qj}(ha:QC a=true) (hb:QC b=true) (id:Int):0<=Zp a b id/\Zp a b id<=1000:=by
 have h1:=QyS ha id
 have h2:=QyS hb id
 unfold Zp mxI;split<;>omega
theorem zk (f:Nat->List Qa) (hf:∀i,i<5->f i=[]\/∃v,f i=[((i:Int),v)]/\inR v 1 1000=true):(n i:Nat)->(p:Int)->i+n<=5->p<(i:Int)->QO p ((List.range' i n).flatMap f)=true
 |0,_,_,_,_=>rfl
 |n+1,i,p,hn,hp=>by
  rw[List.range'_succ,List.flatMap_cons]
  rcases hf i (by omega)with e|⟨v,e,hv⟩
  ·rw[e];exact zk f hf n (i+1) p (by omega) (by omega)
  ·rw[e,List.singleton_append]
   simp only[QO,QQ5,hv,dt hp,zk f hf n (i+1) (i:Int) (by omega) (by omega),and_true]
   simp[inR];omega
theorem QiI (fl:List Qa) (f:Nat->List Qd) (hf:∀i,i<5->f i=[]\/∃e,f i=[((i:Int),e)]/\XF e=true/\Q3 (i:Int) fl<e.1):(n i:Nat)->(p:Int)->i+n<=5->p<(i:Int)->Xw fl p ((List.range' i n).flatMap f)=true
 |0,_,_,_,_=>rfl
 |n+1,i,p,hn,hp=>by
  rw[List.range'_succ,List.flatMap_cons]
  rcases hf i (by omega)with e|⟨v,e,hv,hl⟩
  ·rw[e];exact QiI fl f hf n (i+1) p (by omega) (by omega)
  ·rw[e,List.singleton_append]
   simp only[Xw,QQ5,hv,dt hp,dt hl,QiI fl f hf n (i+1) (i:Int) (by omega) (by omega),and_true]
   simp[inR];omega
theorem QBd (id:Int) (l m:List Qa) (h:∀x∈l,x.1≠id):Q3 id (l++m)=Q3 id m:=by
 induction l with
 |nil=>rfl
 |cons x l ih=>rw[QRv,Q3,if_neg (h x (by simp)),ih fun y hy=>h y (by simp[hy])]
theorem Qjj (f:Nat->List Qa) (hf:∀i,f i=[]\/∃v,f i=[((i:Int),v)]):(n i k:Nat)->Q3 (k:Int) ((List.range' i n).flatMap f)=if i<=k/\k<i+n then Q3 (k:Int) (f k)else 0
 |0,i,k=>by rw[if_neg (by omega)];rfl
 |n+1,i,k=>by
  rw[List.range'_succ,List.flatMap_cons]
  by_cases hk:i=k
  ·subst hk
   rw[if_pos (by omega)]
   rcases hf i with e|⟨v,e⟩
   ·rw[e,QRe,Qjj f hf n (i+1) i,if_neg (by omega)];rfl
   ·rw[e,List.singleton_append,Q3,if_pos rfl,Q3,if_pos rfl]
  ·rw[QBd,Qjj f hf n (i+1) k]
   ·by_cases h:i+1<=k/\k<i+1+n
    ·rw[if_pos h,if_pos (by omega)]
    ·rw[if_neg h,if_neg (by omega)]
   ·intro x hx
    rcases hf i with e|⟨v,e⟩
    ·rw[e]at hx;simp at hx
    ·rw[e]at hx
     obtain rfl:x=((i:Int),v):=by simpa using hx
     simp;omega
theorem QEg (a b:Qj) (i:Nat):ya a b i=[]\/∃v,ya a b i=[((i:Int),v)]:=by
 unfold ya;cases decide (0<Zp a b (i:Int))
 ·exact Or.inl rfl
 ·exact Or.inr ⟨_,rfl⟩
theorem QyK {a b:Qj}(ha:QC a=true) (hb:QC b=true) {k:Nat}(hk:k<5):Q3 (k:Int) (join a b).2=Zp a b (k:Int):=by
 have h:=QkH ha hb (k:Int)
 show Q3 (k:Int) ((List.range' 0 5).flatMap (ya a b))=_
 rw[Qjj _ (QEg a b),if_pos (by omega)]
 unfold ya
 by_cases h0:0<Zp a b (k:Int)
 ·simp[h0,Q3]
 ·simp[h0,Q3];omega
theorem QD3 {e:XT}(h:XF e=true\/e=(0,0,0,0,ByteArray.empty)) (h0:0<e.1):XF e=true:=by
 rcases h with h|h
 ·exact h
 ·rw[h]at h0;exact absurd h0 (by decide)
theorem xF {a b:Qj}(ha:QC a=true) (hb:QC b=true):QC (join a b)=true:=by
 simp only[QC,QQ5]
 constructor
 ·refine zk _ (fun i hi=> ?_) 5 0 (-1) (by omega) (by simp)
  have h:=QkH ha hb (i:Int)
  unfold ya
  by_cases h0:0<Zp a b (i:Int)
  ·exact Or.inr ⟨Zp a b (i:Int),by simp[h0],by simp[inR];omega⟩
  ·exact Or.inl (by simp[h0])
 ·refine QiI _ _ (fun i hi=> ?_) 5 0 (-1) (by omega) (by simp)
  have h:=QkH ha hb (i:Int)
  unfold Qnb
  by_cases h0:Zp a b (i:Int)<(zL a b (i:Int)).1
  ·refine Or.inr ⟨zL a b (i:Int),by simp[h0],QD3 (QFg ha hb _) (by omega), ?_⟩
   rw[QyK ha hb hi];exact h0
  ·exact Or.inl (by simp[h0])
def Zn (s:Qj) (id:Int):Int:=bif QC s then(bif (QV id s.1).2.2.2.2.2 then(bif decide ((QV id s.1).2.1=1)then(QV id s.1).1 else(QV id s.1).1 - 1)else Q3 id s.2)else 0
def Qm7 (s:Qj) (i:Nat):List Qa:=bif decide (0<Zn s (i:Int))then [((i:Int),Zn s (i:Int))]else []
def marksOf (s:Qj):List Qa:=(List.range' 0 5).flatMap (Qm7 s)
theorem QuW (s:Qj) (id:Int):0<=Zn s id/\Zn s id<=1000:=by
 unfold Zn
 cases h:QC s
 ·simp
 ·have hf:=QyS h id
  rcases QjF h id with⟨he,hb⟩|⟨he,hb⟩
  ·rw[hb]
   simp only[XF,QQ5,inR,QRu]at he
   have:=he.1.1.1.1
   simp only[ZQ]at this
   simp only[QQ1]
   cases decide ((QV id s.1).2.1=1)
   ·simp only[QQ2];omega
   ·simp only[QQ1];omega
  ·rw[hb];simp only[QQ1,QQ2];omega
theorem yS (s:Qj):QO (-1) (marksOf s)=true:=by
 refine zk _ (fun i hi=> ?_) 5 0 (-1) (by omega) (by simp)
 have h:=QuW s (i:Int)
 unfold Qm7
 by_cases h0:0<Zn s (i:Int)
 ·exact Or.inr ⟨Zn s (i:Int),by simp[h0],by simp[inR];omega⟩
 ·exact Or.inl (by simp[h0])
end Go.Proofs.YtjenicbpdklpbaaGreat.M
