/- What the plain forms that FnExactStep reaches come to: PEntry. No conditions but those that each theorem states. -/
import Derived.Test.YtjenicbpdklpbaaGreatFnExactStepPFam
set_option linter.all false
namespace Go.Proofs.YtjenicbpdklpbaaGreat.M
open Go Go.Eng Go.Proofs
set_option linter.unusedVariables false
def Kf (a b:Int):Int:=if a<b then -1 else if b<a then 1 else 0
def QrA (a b:ByteArray):Int:=Go.Lib.compareBytes a.data.toList b.data.toList
def or5 (a b c d e:Int):Int:=if a≠0 then a else if b≠0 then b else if c≠0 then c else if d≠0 then d else e
def Vb (x y:XT):Int:=or5 (Kf x.1 y.1) (Kf x.2.1 y.2.1) (Kf x.2.2.1 y.2.2.1) (Kf x.2.2.2.1 y.2.2.2.1) (QrA x.2.2.2.2 y.2.2.2.2)
def JJ (x y:XT):XT:=if Vb x y<0 then y else x
theorem QoE:(a b:List UInt8)->Op.bytesLess a b=decide (Go.Lib.compareBytes a b= -1)/\(Go.Lib.compareBytes a b=0↔a=b)/\(Go.Lib.compareBytes a b= -1\/Go.Lib.compareBytes a b=0\/Go.Lib.compareBytes a b=1)
 | [],[]=>by simp[Op.bytesLess,Go.Lib.compareBytes]
 | [],_::_=>by simp[Op.bytesLess,Go.Lib.compareBytes]
 |_::_,[]=>by simp[Op.bytesLess,Go.Lib.compareBytes]
 |a::l,b::m=>by
  have ih:=QoE l m
  by_cases h:a<b
  ·have hne:a≠b:=fun e=>by subst e;exact UInt8.lt_irrefl _ h
   simp[Op.bytesLess,Go.Lib.compareBytes,h,hne]
  ·by_cases h2:b<a
   ·have hne:a≠b:=fun e=>by subst e;exact UInt8.lt_irrefl _ h2
    simp[Op.bytesLess,Go.Lib.compareBytes,h,h2,hne]
   ·have he:a=b:=UInt8.le_antisymm (UInt8.not_lt.1 h2) (UInt8.not_lt.1 h)
    subst he
    simp only[Op.bytesLess,Go.Lib.compareBytes,h,if_false]
    simpa using ih
theorem QFG (a:Int):Qfv w a=some false:=by
 apply Qzq
 simp[QoA]
theorem QDm (a b:Int):qp w (a,b)=some (Kf a b):=by
 apply QvX
 simp only[Qlz,QFG,QQ0,QQ2,Kf]
 by_cases h:a<b
 ·simp[h]
 ·by_cases h2:b<a
  ·simp[h,h2]
  ·simp[h,h2]
theorem QrZ (a b:ByteArray):Zv w (a,b)=some (QrA a b):=by
 apply j7
 rfl
theorem QxM (a b:ByteArray):zK w (a,b)=some (QrA a b):=by
 apply Qp3
 simp only[Qdg,QrZ,QQ0]
def orL:List Int->Int
 | []=>0
 |x::l=>if x=0 then orL l else x
def orR:List Int->Int⊕Int
 | []=> .inr 0
 |x::l=>if x=0 then orR l else .inl x
theorem QB7:(l:List Int)->Qn (orR l) (fun u=>some u) (fun z=>some z)=some (orL l)
 | []=>rfl
 |x::l=>by
  have ih:=QB7 l
  by_cases h:x=0
  ·simp only[orR,orL,h,if_true];exact ih
  ·simp only[orR,orL,h,if_false,Qn,Sum.elim_inl]
theorem QLY (a:List Int) (h:a.length<=maxLen):Qti w a=some (orL a):=by
 apply QEu
 have e:=Q6 a.length (fun i=>QfV wl (0,a,((a.length:Nat):Int),(i:Int))) (fun i=>orR (a.drop i))
  (fun i hi ih=>by
    apply Qpt
    simp only[QpY,ilt hi,Qk hi,Qg hi,inc hi h,QQ1,ih]
    rw[QRa hi,orR]
    by_cases hx:a[i]=0
    ·simp only[hx,decide_true,QQ3,QQ2,if_true]
    ·simp only[hx,decide_false,QQ4,QQ1,if_false])
  (by
    apply Qpt
    simp only[QpY,Qm,QQ2,QRl,orR])
 simp only[QQ6,QRg]at e
 simp only[QuM,e,QQ0,QB7]
theorem QHW (a b c d e:Int):orL [a,b,c,d,e]=or5 a b c d e:=by
 simp only[orL,or5]
 by_cases h1:a=0<;>by_cases h2:b=0<;>by_cases h3:c=0<;>by_cases h4:d=0<;>by_cases h5:e=0<;>simp[h1,h2,h3,h4,h5]
theorem QAT (a b c d:Int) (s:ByteArray) (a' b' c' d':Int) (s':ByteArray):vv w (a,b,c,d,s,a',b',c',d',s')=some (Vb (a,b,c,d,s) (a',b',c',d',s')):=by
 apply Qsb
 simp only[Qhm,QDm,QxM,QQ0,QLY _ (show List.length [Kf a a',Kf b b',Kf c c',Kf d d',QrA s s']<=maxLen by simp[maxLen]),QHW,Vb]
theorem QBo (a b c d:Int) (s:ByteArray) (a' b' c' d':Int) (s':ByteArray):vr w (a,b,c,d,s,a',b',c',d',s')=some (JJ (a,b,c,d,s) (a',b',c',d',s')):=by
 apply QrD
 simp only[Qha,QAT,QQ0,JJ]
 by_cases h:Vb (a,b,c,d,s) (a',b',c',d',s')<0
 ·rw[dt h,QQ1,if_pos h]
 ·rw[df h,QQ2,if_neg h]
theorem Qzc (b:Bool):QaK w b=some (if b then 1 else 0):=by
 apply Qxx
 cases b<;>rfl
theorem QGw (a b:Int):xV w (a,b)=some (Kf a b):=by
 apply Qxq
 simp only[QmH,Qzc,QQ0,Kf]
 by_cases h:a<b
 ·simp[h]
 ·by_cases h2:b<a
  ·simp[h,h2]
  ·simp[h,h2]
theorem QKi (a b:ByteArray):(bif Op.bytesLess a.toList b.toList then some (-1)else some (if(!(Op.bytesLess a.toList b.toList||qI a b))=true then(1:Int)else 0))=some (QrA a b):=by
 rw[QeC,QeC,QB2]
 obtain⟨h1,h2,h3⟩:=QoE a.data.toList b.data.toList
 have h4:a=b↔a.data.toList=b.data.toList:=by
  constructor
  ·intro h;rw[h]
  ·intro h
   cases a;cases b
   exact congrArg ByteArray.mk (Array.toList_inj.1 h)
 rw[h1]
 unfold QrA
 by_cases hl:Go.Lib.compareBytes a.data.toList b.data.toList= -1
 ·simp[hl]
 ·by_cases hz:Go.Lib.compareBytes a.data.toList b.data.toList=0
  ·have:a=b:=h4.2 (h2.1 hz)
   subst this
   simp[hz]
  ·have:a≠b:=fun h=>hz (h2.2 (h4.1 h))
   have h1':Go.Lib.compareBytes a.data.toList b.data.toList=1:=by omega
   simp[h1',this]
theorem QzZ (a b c d:Int) (s:ByteArray) (a' b' c' d':Int) (s':ByteArray):K2 w (a,b,c,d,s,a',b',c',d',s')=some (Vb (a,b,c,d,s) (a',b',c',d',s')):=by
 apply QrB
 have hlen:∀l:List Int,l.length=4->Ka wl (0,a,b,c,d,s,a',b',c',d',s',l)=some (match orR l with| .inl x=> .inl x| .inr _=> .inr (a,b,c,d,s,a',b',c',d',s')):=by
  intro l hl
  have e:=Q6 l.length (fun i=>Ka wl ((i:Int),a,b,c,d,s,a',b',c',d',s',l)) (fun i=>match orR (l.drop i)with| .inl x=> .inl x| .inr _=> .inr (a,b,c,d,s,a',b',c',d',s'))
   (fun i hi ih=>by
     apply Qdr
     simp only[vN,ilt hi,Qk hi,Qg hi,inc hi (show l.length<=maxLen by simp[maxLen];omega),QQ1,ih]
     rw[QRa hi,orR]
     by_cases hx:l[i]=0
     ·simp only[hx,decide_true,QQ3,QQ2,if_true]
     ·simp only[hx,decide_false,QQ4,QQ1,if_false])
   (by
     apply Qdr
     simp only[vN,Qm,QQ2,QRl,orR])
  simpa using e
 simp only[QgP,QGw,Qzc,QQ0,hlen _ (show List.length [Kf a a',Kf b b',Kf c c',Kf d d']=4 from rfl),Vb,or5,orR]
 by_cases h1:Kf a a'=0
 ·by_cases h2:Kf b b'=0
  ·by_cases h3:Kf c c'=0
   ·by_cases h4:Kf d d'=0
    ·simp only[h1,h2,h3,h4,if_true,Qn,Sum.elim_inr,ne_eq,not_true_eq_false,if_false]
     exact QKi s s'
    ·simp[h1,h2,h3,h4,Qn]
   ·simp[h1,h2,h3,Qn]
  ·simp[h1,h2,Qn]
 ·simp[h1,Qn]
end Go.Proofs.YtjenicbpdklpbaaGreat.M
