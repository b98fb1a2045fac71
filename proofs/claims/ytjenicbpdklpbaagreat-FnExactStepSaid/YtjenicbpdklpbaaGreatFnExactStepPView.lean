/- What the plain forms that FnExactStep reaches come to: PView. No conditions but those that each theorem states. -/
import Derived.Test.YtjenicbpdklpbaaGreatFnExactStepPWA
set_option linter.all false
namespace Go.Proofs.YtjenicbpdklpbaaGreat.M
open Go Go.Eng Go.Proofs
set_option linter.unusedVariables false
def live (x:Qd):Bool:=decide (x.2.2.1=0)
def view (s:Qj):List Qd:=bif QC s then s.1.filter live else []
theorem QGy (s:Qj):(view s).length<=5:=by
 unfold view
 cases h:QC s
 ·simp
 ·have:=(Kj h).1
  have:=List.length_filter_le live s.1
  simp only[QQ1];omega
theorem QIg (s:Qj) (h1:s.1.length<=maxLen) (h2:s.2.length<=maxLen):Qk6 w s=some (view s):=by
 obtain⟨a,b⟩:=s
 apply QzJ
 simp only[QoQ,Zx a b h1 h2,QQ0,view]
 cases h:QC (a,b)
 ·rfl
 ·have hl:=(Kj h).1
  have e:=QwF a (fun _ x=>bif live x then [x]else []) 1 (fun _ x=>QyM _ x) (fun i out=>xm wl (a,((a.length:Nat):Int),(i:Int),out)) (fun out=>out)
   (fun i hi out r ho hk=>by
     apply QkL
     simp only[QiW,ilt hi,Qk hi,Qg hi,inc hi h1,QQ1]
     simp only[live]at hk
     cases hx:decide (a[i].2.2.1=0)
     ·rw[hx]at hk;simpa using hk
     ·rw[hx]at hk
      simp only[QQ1]at hk⊢
      rw[Qu (by simp at hl⊢; omega)];exact hk)
   (fun out=>by
     apply QkL
     simp only[QiW,Qm,QQ2])
  rw[Qgy]at e
  simp only[QQ6]at e
  simp only[e,QQ0,QQ3,QQ2,QQ1]
theorem QGx (s:Qj) (h1:s.1.length<=maxLen) (h2:s.2.length<=maxLen):QlB w s=some (view s):=by
 obtain⟨a,b⟩:=s
 apply Qyk
 simp only[QoM,ZG a b h1 h2,QQ0,view]
 cases h:QC (a,b)
 ·rfl
 ·have hl:=(Kj h).1
  have e:=QwF a (fun _ x=>bif live x then [x]else []) 1 (fun _ x=>QyM _ x) (fun i out=>xg wl ((i:Int),a,b,out)) (fun out=>out)
   (fun i hi out r ho hk=>by
     apply Qky
     simp only[QjD,ilt hi,Qk hi,Qg hi,inc hi h1,QQ1]
     simp only[live]at hk
     cases hx:decide (a[i].2.2.1=0)
     ·rw[hx]at hk;simpa using hk
     ·rw[hx]at hk
      simp only[QQ1]at hk⊢
      rw[Qu (by simp at hl⊢; omega)];exact hk)
   (fun out=>by
     apply Qky
     simp only[QjD,Qm,QQ2])
  rw[Qgy]at e
  simp only[QQ6]at e
  simp only[e,QQ0,QQ3,QQ2,QQ1]
def lookup (s:Qj) (id:Int):Int×Int×Int×Int×ByteArray×Bool:=QV id (view s)
theorem QAd (s:Qj):(view s).length<=maxLen:=by have:=QGy s;simp only[maxLen];omega
theorem QwX (a:List Qd) (b:List Qa) (id:Int) (h1:a.length<=maxLen) (h2:b.length<=maxLen):j6 w (a,b,id)=some (lookup (a,b) id):=by
 apply Qvr
 simp only[Ql0,QIg (a,b) h1 h2,QhA _ _ _ (QAd _),QQ0,lookup]
theorem QsS (a:List Qd) (b:List Qa) (id:Int) (h1:a.length<=maxLen) (h2:b.length<=maxLen):j9 w (a,b,id)=some (lookup (a,b) id):=by
 apply QvL
 simp only[QlF,QGx (a,b) h1 h2,Qec _ _ _ (QAd _),QQ0,lookup]
theorem QwZ (fl:List Qa):(p:Int)->(l:List Qd)->Xw fl p l=true->Qi XM l<=8*l.length
 |_,[],_=>by simp[Qi]
 |p,x::l,h=>by
  have hx:=QpI fl p (x::l) h x (by simp)
  simp only[Xw,QQ5]at h
  have:=QwZ fl _ l h.2
  simp only[Qi,XM,V1,List.length_cons];omega
end Go.Proofs.YtjenicbpdklpbaaGreat.M
