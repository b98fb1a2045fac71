/- What the plain forms that FnExactMsgText reaches come to: PMText. No conditions but those that each theorem states. -/
import Derived.Test.YtameehmkoglkeaaDoorFnExactMsgTextPDeed
set_option linter.all false
namespace Go.Proofs.YtameehmkoglkeaaDoor.M
open Go Go.Eng Go.Proofs
set_option linter.unusedVariables false
theorem qp (l:List UInt8):(bsl l).data.toList=l:=by simp[bsl]
theorem Qr (n:Nat) (h:n<=1000000):fits n 1=true:=YI (by omega)
def Qa7 (r:Int):UInt8:=bif decide (r=0)then 117 else(bif decide (r=1)then 103 else 63)
def Y6 (e:Q4):List UInt8:=Go.Lib.itoa e.1++([Qa7 e.2.1]++(Go.Lib.itoa e.2.2.1++([46]++(Go.Lib.itoa e.2.2.2.1++([58]++e.2.2.2.2.data.toList)))))
theorem Q1 {n:Int}(h0: -100000<=n) (h1:n<=1000000):(Go.Lib.itoa n).length<=21:=Qib n (by omega) (by omega)
theorem Qc7 (e:Q4) (h:Xw e=true):YR w e=some (bsl (Y6 e)):=by
 have hn:=yN h
 obtain⟨a0,a1,a2,a3,a4⟩:=e
 obtain⟨tl,rfl⟩:∃tl,a4=bsl tl:=⟨_,(yi a4).symm⟩
 simp only[Xf]at hn
 apply vk
 have l0:=Q1 (n:=a0) (by omega) (by omega)
 have l2:=Q1 (n:=a2) (by omega) (by omega)
 have l3:=Q1 (n:=a3) (by omega) (by omega)
 have c1:(⟨#[117]⟩:ByteArray)=bsl [117]:=rfl
 have c2:(⟨#[103]⟩:ByteArray)=bsl [103]:=rfl
 have c4:(⟨#[46]⟩:ByteArray)=bsl [46]:=rfl
 have c5:(⟨#[58]⟩:ByteArray)=bsl [58]:=rfl
 simp only[Jv,Zk a0 (by omega) (by omega),Zk a2 (by omega) (by omega),Zk a3 (by omega) (by omega),QQ0,digits,c1,c2,c4,c5,XV,Xf,Y6,qp]
 by_cases h0:a1=0
 ·subst h0
  simp only[decide_true,QQ1,Qa7]
  rw[Qr,Qr,Qr,Qr,Qr,Qr]
  ·simp only[QQ1,QRc]
  all_goals(simp only[QRj,List.length_cons,List.length_nil];omega)
 ·have h1:a1=1:=by omega
  subst h1
  simp only[df (show¬(1:Int)=0 by omega),QQ2,decide_true,QQ1,Qa7]
  rw[Qr,Qr,Qr,Qr,Qr,Qr]
  ·simp only[QQ1,QRc]
  all_goals(simp only[QRj,List.length_cons,List.length_nil];omega)
theorem QcS (e:Q4) (h:Xw e=true):ZF w e=some (bsl (Y6 e)):=by
 have hn:=yN h
 obtain⟨a0,a1,a2,a3,a4⟩:=e
 obtain⟨tl,rfl⟩:∃tl,a4=bsl tl:=⟨_,(yi a4).symm⟩
 simp only[Xf]at hn
 apply vf
 have l0:=Q1 (n:=a0) (by omega) (by omega)
 have l2:=Q1 (n:=a2) (by omega) (by omega)
 have l3:=Q1 (n:=a3) (by omega) (by omega)
 have c1:(⟨#[117]⟩:ByteArray)=bsl [117]:=rfl
 have c2:(⟨#[103]⟩:ByteArray)=bsl [103]:=rfl
 have c4:(⟨#[46]⟩:ByteArray)=bsl [46]:=rfl
 have c5:(⟨#[58]⟩:ByteArray)=bsl [58]:=rfl
 simp only[Jg,XM a0 (by omega) (by omega),XM a2 (by omega) (by omega),XM a3 (by omega) (by omega),QQ0,digits,c1,c2,c4,c5,XV,Xf,Y6,qp]
 by_cases h0:a1=0
 ·subst h0
  simp only[decide_true,QQ1,df (show¬(0:Int)=1 by omega),QQ2,Qa7]
  rw[Qr,Qr,Qr,Qr,Qr,Qr]
  ·simp only[QQ1,QRc]
  all_goals(simp only[QRj,List.length_cons,List.length_nil];omega)
 ·have h1:a1=1:=by omega
  subst h1
  simp only[df (show¬(1:Int)=0 by omega),QQ2,decide_true,QQ1,Qa7]
  rw[Qr,Qr,Qr,Qr,Qr,Qr]
  ·simp only[QQ1,QRc]
  all_goals(simp only[QRj,List.length_cons,List.length_nil];omega)
theorem QcB (sep x:List UInt8):(ws:List (List UInt8))->Go.Lib.join (ws++[x]) sep=(if ws=[]then x else Go.Lib.join ws sep++(sep++x))
 | []=>by simp[Go.Lib.join_one]
 |a::r=>by
  rw[QRv,Go.Lib.join_cons,Go.Lib.join_cons]
  simp[Go.Lib.joinTail]
theorem yu (sep:List UInt8) (hs:sep.length=1) (k:Nat):(ws:List (List UInt8))->(∀x∈ws,x.length<=k)->(Go.Lib.join ws sep).length<=(k+1)*ws.length
 | [],_=>by simp[Go.Lib.join_nil]
 |a::r,h=>by
  rw[Go.Lib.join_cons,QRj]
  have ha:=h a (by simp)
  have:(Go.Lib.joinTail sep r).length<=(k+1)*r.length:=by
   clear ha
   induction r with
   |nil=>simp[Go.Lib.joinTail]
   |cons y r ih=>
    have hy:=h y (by simp)
    have ih':=ih (fun x hx=>h x (by rcases QRk.1 hx with rfl|hx<;>simp_all))
    have e:Go.Lib.joinTail sep (y::r)=sep++y++Go.Lib.joinTail sep r:=by simp[Go.Lib.joinTail]
    rw[e,QRj,QRj,hs,List.length_cons,Nat.mul_add]
    omega
  rw[List.length_cons,Nat.mul_add]
  omega
theorem QaZ (sep:List UInt8) (ws:List (List UInt8)) (h:∀x∈ws,x≠[]):Go.Lib.join ws sep=[]↔ws=[]:=by
 cases ws with
 |nil=>simp[Go.Lib.join_nil]
 |cons a r=>
  rw[Go.Lib.join_cons]
  have:=h a (by simp)
  simp[this]
theorem Jo (l:List UInt8):X1 (bsl l) (⟨#[]⟩:ByteArray)=decide (l=[]):=by
 rw[Qff,decide_eq_decide]
 constructor
 ·intro h
  have:=congrArg (fun b:ByteArray=>b.data.toList) h
  simpa[bsl]using this
 ·intro h;rw[h];rfl
end Go.Proofs.YtameehmkoglkeaaDoor.M
