/- What the plain forms that FnExactMsgText reaches come to: PMText5. No conditions but those that each theorem states. -/
import Derived.Test.YtameehmkoglkeaaDoorFnExactMsgTextPMText4
set_option linter.all false
namespace Go.Proofs.YtameehmkoglkeaaDoor.M
open Go Go.Eng Go.Proofs
set_option linter.unusedVariables false
theorem Qjv (a0:Int) (a1:Int) (a2:Int) (a3:Int) (a4:Int) (a5:List Int) (a6:Int) (a7:List Int) (a8:List Int) (a9:List Qn) (a10:List Qg) (a11:List Qg) (h:zg (a0,a1,a2,a3,a4,a5,a6,a7,a8,a9,a10,a11)):smM a5 a7 a8 a9 a10 a11:=by
 simp only[zg,xg,vZ,ja,zF,zi,vS]at h
 obtain⟨h5,h7,h8,⟨⟨h9,_⟩,h10⟩,h11⟩:=h
 exact⟨h5,h7,h8,h9,h10,h11⟩
theorem QjI (a0:Int) (a1:Int) (a2:Int) (a3:Int) (a4:Int) (a5:List Int) (a6:Int) (a7:List Int) (a8:List Int) (a9:List Qn) (a10:List Qg) (a11:List Qg) (hf:zg (a0,a1,a2,a3,a4,a5,a6,a7,a8,a9,a10,a11)):Yd w (a0,a1,a2,a3,a4,a5,a6,a7,a8,a9,a10,a11)=some true:=by
 apply zb
 have hs:Qc3 (a0,a1,a2,a3,a4,a5,a6,a7,a8,a9,a10,a11):=Qjv a0 a1 a2 a3 a4 a5 a6 a7 a8 a9 a10 a11 hf
 simp only[YY,Qje a0 a1 a2 a3 a4 a5 a6 a7 a8 a9 a10 a11 1048576 (by omega) (by omega) hf,QQ0]
 by_cases h:(Jl (a0,a1,a2,a3,a4,a5,a6,a7,a8,a9,a10,a11):Int)<=1048576
 ·rw[Ku h,df (by omega),QQ2]
  simp only[Qjf a0 a1 a2 a3 a4 a5 a6 a7 a8 a9 a10 a11 (by omega),Qeo (a0,a1,a2,a3,a4,a5,a6,a7,a8,a9,a10,a11) hs,Qfm (a0,a1,a2,a3,a4,a5,a6,a7,a8,a9,a10,a11) hs,Qjy a0 a1 a2 a3 a4 a5 a6 a7 a8 a9 a10 a11 (by omega),QQ0,Xp,QQ3,QQ2]
 ·rw[YE h,dt (by omega),QQ1]
end Go.Proofs.YtameehmkoglkeaaDoor.M
