/- What the plain forms that FnExactMsgText reaches come to: PTree. No conditions but those that each theorem states. -/
import Derived.Test.YtameehmkoglkeaaDoorFnExactMsgTextPBytes
set_option linter.all false
namespace Go.Proofs.YtameehmkoglkeaaDoor.M
open Go Go.Eng Go.Proofs
set_option linter.unusedVariables false
theorem jL:(p:Int)->(l:List Qg)->Qy p l=true-> -1<=p->(l.length:Int)<=4 - p\/l=[]
 |p,[],_,_=> .inr rfl
 |p,x::l,h,hp=>by
  simp only[Qy,QQ5,inR,QRu]at h
  obtain⟨⟨⟨h1,h2⟩,h3⟩,h4⟩:=h
  left
  rcases jL x.1 l h4 (by omega)with h5|h5
  ·simp only[List.length_cons];omega
  ·subst h5;simp;omega
theorem vF (fl:List Qg):(p:Int)->(l:List Qn)->XG fl p l=true-> -1<=p->(l.length:Int)<=4 - p\/l=[]
 |p,[],_,_=> .inr rfl
 |p,x::l,h,hp=>by
  simp only[XG,QQ5,inR,QRu]at h
  obtain⟨⟨⟨⟨h1,h2⟩,h2'⟩,h3⟩,h4⟩:=h
  left
  rcases vF fl x.1 l h4 (by omega)with h5|h5
  ·simp only[List.length_cons];omega
  ·subst h5;simp;omega
theorem QhI {s:QM}(h:Kr s=true):s.1.length<=5/\s.2.length<=5:=by
 simp only[Kr,QQ5]at h
 have h1:=jL _ _ h.1 (by omega)
 have h2:=vF _ _ _ h.2 (by omega)
 constructor
 ·rcases h2 with h|h
  ·omega
  ·simp[h]
 ·rcases h1 with h|h
  ·omega
  ·simp[h]
end Go.Proofs.YtameehmkoglkeaaDoor.M
