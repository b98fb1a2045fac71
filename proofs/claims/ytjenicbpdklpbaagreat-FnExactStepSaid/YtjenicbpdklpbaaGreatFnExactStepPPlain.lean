/- What the plain forms that FnExactStep reaches come to: PPlain. No conditions but those that each theorem states. -/
import Derived.Test.YtjenicbpdklpbaaGreatFnExactStepPPlainGone
set_option linter.all false
namespace Go.Proofs.YtjenicbpdklpbaaGreat.M
open Go Go.Eng Go.Proofs
set_option linter.unusedVariables false
def ZQ (r:Int×Int×Int×Int×ByteArray×Bool):XT:=(r.1,r.2.1,r.2.2.1,r.2.2.2.1,r.2.2.2.2.1)
theorem Qw6 {e:XT}(h:XF e=true):1<=e.1:=by
 simp[XF,inR]at h;omega
theorem QuZ {i:Nat}(h:i<5):decide ((i:Int)<5)=true:=by simp;omega
theorem Qwt {i:Nat}(h:i<5):wR ((i:Int)+1)=((i+1:Nat):Int):=by
 rw[w64 (by omega) (by omega)];omega
end Go.Proofs.YtjenicbpdklpbaaGreat.M
