/- What the plain forms that FnExactMsgText reaches come to: PTake. No conditions but those that each theorem states. -/
import Derived.Test.YtameehmkoglkeaaDoorFnExactMsgTextPTab
set_option linter.all false
namespace Go.Proofs.YtameehmkoglkeaaDoor.M
open Go Go.Eng Go.Proofs
set_option linter.unusedVariables false
theorem ZB {n a b:Int}:inR n a b=true↔a<=n/\n<=b:=by simp[inR]
theorem Qar (fl:List Qg):(p:Int)->(l:List Qn)->XG fl p l=true->∀x∈l,inR x.1 0 4=true/\Xw x.2=true
 |_,[],_=>by simp
 |p,x::l,h=>by
  simp only[XG,QQ5]at h
  intro y hy
  rcases QRk.1 hy with rfl|hy
  ·exact⟨h.1.1.1.1,h.1.1.1.2⟩
  ·exact Qar fl _ l h.2 y hy
theorem QfE {s:QM}(h:Kr s=true):∀x∈s.1,inR x.1 0 4=true/\Xw x.2=true:=by
 simp only[Kr,QQ5]at h
 exact Qar _ _ _ h.2
end Go.Proofs.YtameehmkoglkeaaDoor.M
