/- What the plain forms that FnExactMsgText reaches come to: PDeed. No conditions but those that each theorem states. -/
import Derived.Test.YtameehmkoglkeaaDoorFnExactMsgTextPText2
import Derived.Lib.IndexLaws
set_option linter.all false
namespace Go.Proofs.YtameehmkoglkeaaDoor.M
open Go Go.Eng Go.Proofs
set_option linter.unusedVariables false
theorem QiJ (xs:List ByteArray) (sep:ByteArray) (h1:xs.length<=140737488355328) (h2:(Go.Lib.join (xs.map (·.data.toList)) sep.data.toList).length<=140737488355328):strings_Join w (xs,sep)=some (bsl (Go.Lib.join (xs.map (·.data.toList)) sep.data.toList)):=by
 apply QaH
 simp only[qQ,QaN,dt (show xs.length<=140737488355328/\(Go.Lib.join (xs.map (·.data.toList)) sep.data.toList).length<=140737488355328 from⟨h1,h2⟩),QQ1];rfl
theorem Qib (n:Int) (h0: -9223372036854775808<=n) (h1:n<=9223372036854775807):(Go.Lib.itoa n).length<=21:=Go.Lib.itoa_length_le n h0 h1
end Go.Proofs.YtameehmkoglkeaaDoor.M
