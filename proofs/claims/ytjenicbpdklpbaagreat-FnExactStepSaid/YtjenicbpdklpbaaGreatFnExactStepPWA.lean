/- What the plain forms that FnExactStep reaches come to: PWA. No conditions but those that each theorem states. -/
import Derived.Test.YtjenicbpdklpbaaGreatFnExactStepPWorld
set_option linter.all false
namespace Go.Proofs.YtjenicbpdklpbaaGreat.M
open Go Go.Eng Go.Proofs
set_option linter.unusedVariables false
theorem Qrl (n:Int):(off:Nat)->(l:List Qb)->Kk n off l=true->(i:Nat)->(h:i<l.length)->VA l[i]=true/\l[i].2.1=n/\l[i].1=((off+i:Nat):Int)
 |off,x::l,h,0,_=>by
  simp only[Kk,QQ5,QRu]at h
  simpa using⟨h.1.1,h.1.2.1,h.1.2.2⟩
 |off,x::l,h,i+1,hi=>by
  simp only[Kk,QQ5,QRu]at h
  have:=Qrl n (off+1) l h.2 i (by simpa using hi)
  simp only[List.getElem_cons_succ]
  refine⟨this.1,this.2.1, ?_⟩
  rw[this.2.2];congr 1;omega
structure WOk (ns:List Qb) (net:List Qs) (sd:List Qq):Prop where
 n1:1<=ns.length
 n5:ns.length<=5
 net12:net.length<=12
 sd40:sd.length<=40
 nodes:Kk (ns.length:Nat) 0 ns=true
 nets:∀p∈net,inR p.1 0 ((ns.length:Nat) - 1)=true
 sds:∀x∈sd,inR x.1 0 ((ns.length:Nat) - 1)=true/\QC x.2=true
theorem VJ {ns:List Qb}{net:List Qs}{sd:List Qq}(h:ZU ns net sd=true):WOk ns net sd:=by
 simp only[ZU,QQ5,QRt,QbM,Qkz,Bool.not_eq_true',decide_eq_false_iff_not,inR,QRu]at h
 obtain⟨h1,h2,h3,h4,h5,h6⟩:=h
 refine⟨by omega,by omega,by omega,by omega,h4,fun p hp=> ?_,fun x hx=> ?_⟩
 ·simp only[inR,QQ5,QRu];exact h5 p hp
 ·simp only[inR,QQ5,QRu];exact h6 x hx
theorem WOk.node {ns:List Qb}{net:List Qs}{sd:List Qq}(h:WOk ns net sd) {i:Nat}(hi:i<ns.length):VA ns[i]=true/\ns[i].2.1=ns.length/\ns[i].1=(i:Int):=by
 have:=Qrl _ 0 ns h.nodes i hi
 simpa using this
theorem YI {p:Int}{n:Nat}(h:inR p 0 ((n:Int) - 1)=true):∃i:Nat,p=(i:Int)/\i<n:=by
 simp only[inR,QQ5,QRu]at h
 exact⟨p.toNat,by omega,by omega⟩
theorem QFq {ns:List Qb}(h:ns.length<=maxLen):wR (((ns.length:Nat):Int) - 1)=((ns.length:Nat):Int) - 1:=by
 simp only[maxLen]at h
 exact w64 (by omega) (by omega)
def QIz {α:Type}(c:α->Int):Int->List α->Int
 |k,[]=>k
 |k,x::l=>QIz c (wR (k+c x)) l
def kept (ns:List Qb) (net:List Qs) (sd:List Qq):Int:=bif ZU ns net sd then QIz (fun x:Qb=>((x.2.2.2.2.2.2.2.2.1.length:Nat):Int)) 0 ns else 0
def two (ns:List Qb) (net:List Qs) (sd:List Qq) (p q:Int):Bool:=ZU ns net sd&&(inR p 0 ((ns.length:Nat) - 1)&&(inR q 0 ((ns.length:Nat) - 1)&& !decide (p=q)))
theorem QE5 (ns:List Qb) (net:List Qs) (sd:List Qq) (p q:Int) (h:smW ns net sd):Qeu w (ns,net,sd,p,q)=some (two ns net sd p q):=by
 apply Qv8
 simp only[Qk0,Qq6 ns net sd h,QFq h.1,XB,QQ0,two]
 cases ZU ns net sd<;>cases inR p 0 ((ns.length:Nat) - 1)<;>cases inR q 0 ((ns.length:Nat) - 1)<;>rfl
def nodeAt (ns:List Qb) (p:Int):Qb:=rd1 Qv ns p
theorem Vl {ns:List Qb}{i:Nat}(h:i<ns.length):nodeAt ns (i:Int)=ns[i]:=Qg h
def lag (ns:List Qb) (net:List Qs) (sd:List Qq) (p q:Int):Int:=bif two ns net sd p q then wR (Xd ((nodeAt ns p).2.2.2.2.2.2.1,(nodeAt ns p).2.2.2.2.2.2.2.1,(nodeAt ns p).2.2.2.2.2.2.2.2.1) - rd1 0 (nodeAt ns p).2.2.2.2.2.2.2.2.2.2.1 q)else -1
def behind (ns:List Qb) (net:List Qs) (sd:List Qq) (p q:Int):Bool:=bif decide (0<=lag ns net sd p q)then decide ((((nodeAt ns p).2.2.2.2.2.2.2.2.1.length:Nat):Int)<lag ns net sd p q)else false
def Zg (ns:List Qb) (net:List Qs) (sd:List Qq) (t:Int):Qa:=bif ZU ns net sd then(bif decide (((ns.length:Nat):Int)<2)then(-1, -1)else bif decide (t<0)then(-1, -1)else((Int.tmod t (((List.length ns):Nat):Int)),(Int.tmod (wR ((wR ((Int.tmod t (((List.length ns):Nat):Int))+1))+(Int.tmod (wR (Int.tdiv t (((List.length ns):Nat):Int))) (wR ((((List.length ns):Nat):Int) - 1))))) (((List.length ns):Nat):Int))))else(-1, -1)
theorem QHY (ns:List Qb) (net:List Qs) (sd:List Qq) (t:Int) (h:smW ns net sd):QkR w (ns,net,sd,t)=some (Zg ns net sd t):=by
 apply Qyw
 simp only[QoL,QuF ns net sd h,QQ0,Zg]
 cases hw:ZU ns net sd
 ·rfl
 ·have hn:=VJ hw
  have h1:=hn.n1
  by_cases h2:((ns.length:Nat):Int)<2
  ·simp only[dt h2,dt (show((ns.length:Nat):Int)=1 by omega),QQ1,QQ3,QQ2]
  ·simp only[df h2,df (show¬((ns.length:Nat):Int)=1 by omega),QFq h.1,dt (show((ns.length:Nat):Int)≠0 by omega),dt (show((ns.length:Nat):Int) - 1≠0 by omega),QQ1,QQ3,QQ2]
   cases decide (t<0)<;>rfl
theorem QFQ (ns:List Qb) (net:List Qs) (sd:List Qq) (t:Int) (h:smW ns net sd):QlJ w (ns,net,sd,t)=some (Zg ns net sd t):=by
 apply Qzf
 simp only[QoK,Qq6 ns net sd h,QQ0,Zg]
 cases hw:ZU ns net sd
 ·rfl
 ·have hn:=VJ hw
  have h1:=hn.n1
  by_cases h2:((ns.length:Nat):Int)<2
  ·simp only[dt h2,QQ1,QQ3,QQ2]
  ·simp only[df h2,QFq h.1,dt (show((ns.length:Nat):Int)≠0 by omega),dt (show((ns.length:Nat):Int) - 1≠0 by omega),QQ1,QQ3,QQ2]
   cases decide (t<0)<;>rfl
end Go.Proofs.YtjenicbpdklpbaaGreat.M
