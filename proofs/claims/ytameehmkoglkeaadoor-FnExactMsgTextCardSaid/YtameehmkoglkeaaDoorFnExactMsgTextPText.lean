/- What the plain forms that FnExactMsgText reaches come to: PText. No conditions but those that each theorem states. -/
import Derived.Test.YtameehmkoglkeaaDoorFnExactMsgTextPMo3
import Derived.Lib.ItoaLen
set_option linter.all false
namespace Go.Proofs.YtameehmkoglkeaaDoor.M
open Go Go.Eng Go.Proofs
set_option linter.unusedVariables false
def bsl (l:List UInt8):ByteArray:=⟨l.toArray⟩
theorem XV (l m:List UInt8):bsl l++bsl m=bsl (l++m):=by
 apply ByteArray.ext
 simp[bsl]
theorem yi (s:ByteArray):bsl s.data.toList=s:=by
 apply ByteArray.ext
 simp[bsl]
theorem Xf (l:List UInt8):(bsl l).size=l.length:=by simp[bsl,ByteArray.size]
def digits (n:Int):ByteArray:=bsl (Go.Lib.itoa n)
theorem Zk (n:Int) (h0: -9223372036854775808<=n) (h1:n<=9223372036854775807):QD w n=some (digits n):=by
 apply QbT
 have e:strconv_Itoa w n=some (digits n):=by
  apply Qbm
  simp only[qt,QaM,dt (show(-9223372036854775808:Int)<=n/\n<=9223372036854775807 from⟨h0,h1⟩),QQ1];rfl
 simp only[xp,e,QQ0]
def yy (u:Nat):List UInt8:=if u=0 then []else Go.Lib.decDigits u
theorem QgI {u:Nat}(h:u≠0):yy u=yy (u / 10)++[UInt8.ofNat (48+u % 10)]:=by
 unfold yy
 rw[if_neg h]
 by_cases h10:u<10
 ·rw[Go.Lib.decDigits,dif_pos h10,show u / 10=0 by omega,show u % 10=u by omega];rfl
 ·rw[Go.Lib.decDigits,dif_neg h10,if_neg (show u / 10≠0 by omega)]
theorem Qga (d:Nat) (h:d<10):YM [IntKind.wrap .u8 (wR (48+(d:Int)))]=bsl [UInt8.ofNat (48+d)]:=by
 have:d=0\/d=1\/d=2\/d=3\/d=4\/d=5\/d=6\/d=7\/d=8\/d=9:=by omega
 rcases this with rfl|rfl|rfl|rfl|rfl|rfl|rfl|rfl|rfl|rfl<;>decide
theorem qi (b:Bool):(k u:Nat)->(y:Int)->(acc:List UInt8)->(y=(u:Int)\/y= -(u:Int))->u<10^k->u<=9223372036854775808->(y=(u:Int)->u<=9223372036854775807)->acc.length+k<=1000->Xr wl (y,b,bsl acc)=some (b,bsl (yy u++acc))
 |0,u,y,acc,hy,hu,_,_,_=>by
  apply JO
  have h0:u=0:=by simpa using hu
  subst h0
  simp only[YP,dt (show y=0 by omega),QQ3,QQ2,yy,if_true,QRe]
 |k+1,u,y,acc,hy,hu,hmx,hmx2,ha=>by
  apply JO
  by_cases h0:u=0
  ·subst h0
   simp only[YP,dt (show y=0 by omega),QQ3,QQ2,yy,if_true,QRe]
  ·have hlt:u / 10<10^k:=by rw[Nat.pow_succ]at hu;omega
   have hb:=Qga (u % 10) (by omega)
   have hf:fits (ByteArray.size (bsl [UInt8.ofNat (48+u % 10)])+ByteArray.size (bsl acc)) 1=true:=by
    rw[Xf,Xf];exact YI (by simp;omega)
   simp only[YP,df (show¬y=0 by omega),QQ4,QQ1,dt (show(10:Int)≠0 by omega)]
   rw[QgI h0,QRc]
   by_cases hy':y=(u:Int)
   ·have e1:Int.tmod y 10=((u % 10:Nat):Int):=by rw[hy'];rfl
    have e2:Int.tdiv y 10=((u / 10:Nat):Int):=by rw[hy'];rfl
    have ih:=qi b k (u / 10) ((u / 10:Nat):Int) ([UInt8.ofNat (48+u % 10)]++acc) (.inl rfl) hlt (by omega) (fun _=>by omega) (by simp;omega)
    rw[e1,e2,df (show¬(((u % 10:Nat):Int)<0) by omega),hb,hf,w64 (n:=((u / 10:Nat):Int)) (by omega) (by omega),XV]
    exact ih
   ·have hy2:y= -(u:Int):=by omega
    have e1:Int.tmod y 10= -((u % 10:Nat):Int):=by rw[hy2,Int.neg_tmod];rfl
    have e2:Int.tdiv y 10= -((u / 10:Nat):Int):=by rw[hy2,Int.neg_tdiv];rfl
    have ih:=qi b k (u / 10) (-((u / 10:Nat):Int)) ([UInt8.ofNat (48+u % 10)]++acc) (.inr rfl) hlt (by omega) (fun _=>by omega) (by simp;omega)
    rw[e1,e2]
    by_cases hz:u % 10=0
    ·rw[hz]at hb hf ih⊢
     rw[show(-((0:Nat):Int))=((0:Nat):Int)from rfl,df (show¬(((0:Nat):Int)<0) by omega),hb,hf,w64 (n:= -((u / 10:Nat):Int)) (by omega) (by omega),XV]
     exact ih
    ·rw[dt (show -((u % 10:Nat):Int)<0 by omega),w64 (n:=0 - -((u % 10:Nat):Int)) (by omega) (by omega),show(0:Int) - -((u % 10:Nat):Int)=((u % 10:Nat):Int) by omega,hb,hf,w64 (n:= -((u / 10:Nat):Int)) (by omega) (by omega),XV]
     exact ih
theorem XM (n:Int) (h0: -9223372036854775808<=n) (h1:n<=9223372036854775807):Qv w n=some (digits n):=by
 apply Qca
 simp only[xR]
 by_cases hz:n=0
 ·subst hz;simp only[decide_true,QQ1,digits,Go.Lib.itoa,if_neg (show¬(0:Int)<0 by omega),Int.toNat_zero,Go.Lib.decDigits_one (show 0<10 by omega)];rfl
 ·have e:=qi (decide (n<0)) 20 n.natAbs n [] (by omega) (by omega) (by omega) (by omega) (by simp)
  have e':Xr wl (n,decide (n<0),(⟨#[]⟩:ByteArray))=some (decide (n<0),bsl (yy n.natAbs)):=by rw[List.append_nil]at e;exact e
  simp only[df hz,QQ2,e',QQ0]
  have hd:yy n.natAbs=Go.Lib.decDigits n.natAbs:=by unfold yy;rw[if_neg (by omega)]
  have hlen:(Go.Lib.decDigits n.natAbs).length<=1000:=by
   rw[Go.Lib.decDigits_length]
   have:=Go.Lib.nDigits_le20 n.natAbs (by omega)
   omega
  by_cases hn:n<0
  ·rw[dt hn,hd]
   simp only[QQ1]
   rw[YI (by rw[Xf];show(1+_)*1<=_;omega)]
   simp only[QQ1,digits,Go.Lib.itoa,if_pos hn]
   exact congrArg some (XV [45] _)
  ·rw[df hn,hd]
   simp only[QQ2,digits,Go.Lib.itoa,if_neg hn,show n.toNat=n.natAbs by omega]
end Go.Proofs.YtameehmkoglkeaaDoor.M
