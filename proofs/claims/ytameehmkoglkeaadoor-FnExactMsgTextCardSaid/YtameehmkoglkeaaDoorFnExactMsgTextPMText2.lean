/- What the plain forms that FnExactMsgText reaches come to: PMText2. No conditions but those that each theorem states. -/
import Derived.Test.YtameehmkoglkeaaDoorFnExactMsgTextPMText
set_option linter.all false
namespace Go.Proofs.YtameehmkoglkeaaDoor.M
open Go Go.Eng Go.Proofs
set_option linter.unusedVariables false
def inV (n:Int):Prop:= -100000<=n/\n<=1000000
theorem Qfb (ws:List (List UInt8)):(ws.map bsl).map (fun x:ByteArray=>x.data.toList)=ws:=by
 rw[List.map_map]
 have:((fun x:ByteArray=>x.data.toList)∘bsl)=id:=by funext l;exact qp l
 rw[this,List.map_id]
theorem Qh4 (ws:List (List UInt8)) (c:UInt8) (k:Nat) (h:∀x∈ws,x.length<=k) (hk:k<=1000) (hl:ws.length<=1000):strings_Join w (ws.map bsl,bsl [c])=some (bsl (Go.Lib.join ws [c])):=by
 have hj:=yu [c] rfl k ws h
 have hb:(k+1)*ws.length<=1001*1000:=Nat.mul_le_mul (by omega) hl
 have e:=QiJ (ws.map bsl) (bsl [c]) (by rw[List.length_map];omega) (by rw[Qfb,qp];omega)
 rw[Qfb,qp]at e
 exact e
end Go.Proofs.YtameehmkoglkeaaDoor.M
