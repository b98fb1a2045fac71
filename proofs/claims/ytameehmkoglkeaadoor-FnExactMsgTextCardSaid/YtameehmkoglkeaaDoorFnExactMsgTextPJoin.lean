/- What the plain forms that FnExactMsgText reaches come to: PJoin. No conditions but those that each theorem states. -/
import Derived.Test.YtameehmkoglkeaaDoorFnExactMsgTextPSem
set_option linter.all false
namespace Go.Proofs.YtameehmkoglkeaaDoor.M
open Go Go.Eng Go.Proofs
set_option linter.unusedVariables false
theorem yN {x:Q4}(h:Xw x=true):1<=x.1/\x.1<=1000/\0<=x.2.1/\x.2.1<=1/\0<=x.2.2.1/\x.2.2.1<=100000/\0<=x.2.2.2.1/\x.2.2.2.1<=1000/\x.2.2.2.2.size<=8:=by
 simp only[Xw,inR,QQ5,QRu]at h
 obtain⟨⟨⟨⟨⟨p1,p2⟩,p3,p4⟩,p5,p6⟩,p7,p8⟩,p9⟩:=h
 omega
end Go.Proofs.YtameehmkoglkeaaDoor.M
