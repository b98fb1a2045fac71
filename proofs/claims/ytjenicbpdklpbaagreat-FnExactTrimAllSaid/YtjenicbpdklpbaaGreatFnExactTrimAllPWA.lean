/- What the plain forms that FnExactTrimAll reaches come to: PWA. No conditions but those that each theorem states. -/
import Derived.Test.YtjenicbpdklpbaaGreatFnExactTrimAllPWorld
set_option linter.all false
namespace Go.Proofs.YtjenicbpdklpbaaGreat.M
open Go Go.Eng Go.Proofs
set_option linter.unusedVariables false
theorem nodesOk_get (n:Int):(off:Nat)→(l:List XNode)→nodesOk n off l=true→(i:Nat)→(h:i<l.length)→nodeOkT l[i]=true∧l[i].2.1=n∧l[i].1=((off+i:Nat):Int)
 |off,x::l,h,0,_=>by
  simp only[nodesOk,Bool.and_eq_true,decide_eq_true_eq]at h
  simpa using⟨h.1.1,h.1.2.1,h.1.2.2⟩
 |off,x::l,h,i+1,hi=>by
  simp only[nodesOk,Bool.and_eq_true,decide_eq_true_eq]at h
  have:=nodesOk_get n (off+1) l h.2 i (by simpa using hi)
  simp only[List.getElem_cons_succ]
  refine⟨this.1,this.2.1, ?_⟩
  rw[this.2.2];congr 1;omega
structure WOk (ns:List XNode) (net:List XPack) (sd:List XSaid):Prop where
 n1:1≤ns.length
 n5:ns.length≤5
 net12:net.length≤12
 sd40:sd.length≤40
 nodes:nodesOk (ns.length:Nat) 0 ns=true
 nets:∀p∈net,inR p.1 0 ((ns.length:Nat) - 1)=true
 sds:∀x∈sd,inR x.1 0 ((ns.length:Nat) - 1)=true∧stOk x.2=true
theorem worldOk_nums {ns:List XNode}{net:List XPack}{sd:List XSaid}(h:worldOk ns net sd=true):WOk ns net sd:=by
 simp only[worldOk,Bool.and_eq_true,List.all_eq_true,saidOk,netOk,Bool.not_eq_true',decide_eq_false_iff_not,inR,decide_eq_true_eq]at h
 obtain⟨h1,h2,h3,h4,h5,h6⟩:=h
 refine⟨by omega,by omega,by omega,by omega,h4,fun p hp=> ?_,fun x hx=> ?_⟩
 ·simp only[inR,Bool.and_eq_true,decide_eq_true_eq];exact h5 p hp
 ·simp only[inR,Bool.and_eq_true,decide_eq_true_eq];exact h6 x hx
theorem WOk.node {ns:List XNode}{net:List XPack}{sd:List XSaid}(h:WOk ns net sd) {i:Nat}(hi:i<ns.length):nodeOkT ns[i]=true∧ns[i].2.1=ns.length∧ns[i].1=(i:Int):=by
 have:=nodesOk_get _ 0 ns h.nodes i hi
 simpa using this
theorem inR_nat {p:Int}{n:Nat}(h:inR p 0 ((n:Int) - 1)=true):∃i:Nat,p=(i:Int)∧i<n:=by
 simp only[inR,Bool.and_eq_true,decide_eq_true_eq]at h
 exact⟨p.toNat,by omega,by omega⟩
theorem lenW {ns:List XNode}(h:ns.length≤maxLen):IntKind.wrap .i64 (((ns.length:Nat):Int) - 1)=((ns.length:Nat):Int) - 1:=by
 simp only[maxLen]at h
 exact w64 (by omega) (by omega)
theorem nodeT_acked {x:XNode}(h:nodeOkT x=true):((x.2.2.2.2.2.2.2.2.2.2.1.length:Nat):Int)=x.2.1∧logOk (x.2.2.2.2.2.2.1,x.2.2.2.2.2.2.2.1,x.2.2.2.2.2.2.2.2.1)=true∧inR x.2.1 1 5=true:=by
 simp only[nodeOkT,nodeOk,Bool.and_eq_true]at h
 obtain⟨⟨⟨⟨⟨⟨⟨⟨⟨⟨⟨⟨⟨⟨⟨⟨⟨⟨h1,_⟩,_⟩,_⟩,h2⟩,_⟩,h3⟩,_⟩,_⟩,_⟩,_⟩,_⟩,_⟩,_⟩,_⟩,_⟩,_⟩,_⟩,_⟩:=h
 simp[vecOk]at h3
 exact⟨h3.1.2,h2,h1⟩
def sumW {α:Type}(c:α→Int):Int→List α→Int
 |k,[]=>k
 |k,x::l=>sumW c (IntKind.wrap .i64 (k+c x)) l
def kept (ns:List XNode) (net:List XPack) (sd:List XSaid):Int:=bif worldOk ns net sd then sumW (fun x:XNode=>((x.2.2.2.2.2.2.2.2.1.length:Nat):Int)) 0 ns else 0
def netSize (ns:List XNode) (net:List XPack) (sd:List XSaid):Int:=bif worldOk ns net sd then sumW (fun x:XPack=>((x.2.1.length:Nat):Int)) 0 net else 0
def two (ns:List XNode) (net:List XPack) (sd:List XSaid) (p q:Int):Bool:=worldOk ns net sd&&(inR p 0 ((ns.length:Nat) - 1)&&(inR q 0 ((ns.length:Nat) - 1)&& !decide (p=q)))
theorem two_cases {ns:List XNode}{net:List XPack}{sd:List XSaid}{p q:Int}(h:two ns net sd p q=true):WOk ns net sd∧(∃i:Nat,p=(i:Int)∧i<ns.length)∧(∃i:Nat,q=(i:Int)∧i<ns.length)∧p≠q:=by
 simp only[two,Bool.and_eq_true,Bool.not_eq_true',decide_eq_false_iff_not]at h
 exact⟨worldOk_nums h.1,inR_nat h.2.1,inR_nat h.2.2.1,h.2.2.2⟩
def nodeAt (ns:List XNode) (p:Int):XNode:=rd1 zNode ns p
theorem nodeAt_get {ns:List XNode}{i:Nat}(h:i<ns.length):nodeAt ns (i:Int)=ns[i]:=rd1_get h
def lag (ns:List XNode) (net:List XPack) (sd:List XSaid) (p q:Int):Int:=bif two ns net sd p q then IntKind.wrap .i64 (logSeq ((nodeAt ns p).2.2.2.2.2.2.1,(nodeAt ns p).2.2.2.2.2.2.2.1,(nodeAt ns p).2.2.2.2.2.2.2.2.1) - rd1 0 (nodeAt ns p).2.2.2.2.2.2.2.2.2.2.1 q)else -1
theorem smNT_log {x:XNode}(h:smNT x):x.2.2.2.2.2.2.2.2.1.length≤maxLen∧∀s∈x.2.2.2.2.2.2.2.2.1,s.1.length≤maxLen∧s.2.length≤maxLen:=⟨h.2.2.2.1,h.2.2.2.2.1⟩
theorem lag_head (ns:List XNode) (net:List XPack) (sd:List XSaid) (p q:Int) (x:Option Int) (y:Option Int):
 (bif (!worldOk ns net sd)then y else bif (!inR p 0 ((ns.length:Nat) - 1))then y else bif (!inR q 0 ((ns.length:Nat) - 1))then y else bif decide (p=q)then y else x)=bif two ns net sd p q then x else y:=by
 simp only[two]
 cases worldOk ns net sd<;>cases inR p 0 ((ns.length:Nat) - 1)<;>cases inR q 0 ((ns.length:Nat) - 1)<;>cases decide (p=q)<;>rfl
def behind (ns:List XNode) (net:List XPack) (sd:List XSaid) (p q:Int):Bool:=bif decide (0≤lag ns net sd p q)then decide ((((nodeAt ns p).2.2.2.2.2.2.2.2.1.length:Nat):Int)<lag ns net sd p q)else false
theorem lag_inb {ns:List XNode}{net:List XPack}{sd:List XSaid}{p q:Int}(h:decide (0≤lag ns net sd p q)=true):inb p ns.length=true:=by
 cases ht:two ns net sd p q
 ·rw[lag,ht]at h;simp at h
 ·obtain⟨hw,⟨i,rfl,hi⟩,_⟩:=two_cases ht
  exact inb_of hi
def nextP (ns:List XNode) (net:List XPack) (sd:List XSaid) (t:Int):XFloor:=bif worldOk ns net sd then(bif decide (((ns.length:Nat):Int)<2)then(-1, -1)else bif decide (t<0)then(-1, -1)else((Int.tmod t (((List.length ns):Nat):Int)),(Int.tmod (IntKind.wrap .i64 ((IntKind.wrap .i64 ((Int.tmod t (((List.length ns):Nat):Int))+1))+(Int.tmod (IntKind.wrap .i64 (Int.tdiv t (((List.length ns):Nat):Int))) (IntKind.wrap .i64 ((((List.length ns):Nat):Int) - 1))))) (((List.length ns):Nat):Int))))else(-1, -1)
end Go.Proofs.YtjenicbpdklpbaaGreat.M
