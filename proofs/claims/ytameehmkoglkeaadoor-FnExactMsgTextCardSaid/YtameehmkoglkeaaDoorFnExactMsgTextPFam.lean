/- What the plain forms that FnExactMsgText reaches come to: PFam. No conditions but those that each theorem states. -/
import Derived.Test.YtameehmkoglkeaaDoorFnExactMsgTextPState
set_option linter.all false
namespace Go.Proofs.YtameehmkoglkeaaDoor.M
open Go Go.Eng Go.Proofs
set_option linter.unusedVariables false
def ZJ (a:List Int):Nat:=a.length
def zi (a:List Int):Prop:=a.length<=maxLen
theorem QbE (a:List Int) (l:Int) (h0:0<=l) (hB:l<=1048576) (hf:zi a):Z4 w (a,l)=some (szI (ZJ a) l):=by
 apply Qbt
 simp only[xM]
 exact jg (m:=0) h0 hB hf fun h=>by rw[w64 (by omega) (by omega)];exact Kt (by omega)
def YC (x:V7):Nat:=ZJ x.1
def zF (x:V7):Prop:=zi x.1
theorem Qik {x:V7}(h:Kk QcV x):zF x:=h.1.1
theorem QiS (a0:List Int) (a1:Int) (l:Int) (h0:0<=l) (hB:l<=1048576) (hf:zF (a0,a1)):V5 w (a0,a1,l)=some (szI (YC (a0,a1)) l):=by
 apply Qbv
 simp only[zF]at hf
 have e:YC (a0,a1)=(ZJ a0+0):=by simp only[YC];omega
 rw[e]
 simp only[xu]
 refine YU (by omega) (QbE a0 _ (by omega) (by omega) (hf)) fun _=> ?_
 exact Kt (by omega)
def ZP (x:Q4):Nat:=ByteArray.size x.2.2.2.2
def yL (x:Q4):Prop:=ByteArray.size x.2.2.2.2<=maxLen
theorem Qgk {x:Q4}(h:Kk K7 x):yL x:=h.2.2.2.2.1
theorem Qif (a0:Int) (a1:Int) (a2:Int) (a3:Int) (a4:ByteArray) (l:Int) (h0:0<=l) (hB:l<=1048576) (hf:yL (a0,a1,a2,a3,a4)):Vl w (a0,a1,a2,a3,a4,l)=some (szI (ZP (a0,a1,a2,a3,a4)) l):=by
 apply Qaz
 simp only[yL]at hf
 have e:ZP (a0,a1,a2,a3,a4)=(ByteArray.size a4+0):=by simp only[ZP];omega
 rw[e]
 simp only[qq]
 refine jg (by omega) (by omega) (hf) fun _=> ?_
 rw[w64 (by omega) (by omega)]
 exact Kt (by omega)
def Q3 (x:Qn):Nat:=ZP (x.2.1,x.2.2.1,x.2.2.2.1,x.2.2.2.2.1,x.2.2.2.2.2)
def jX (x:Qn):Prop:=yL (x.2.1,x.2.2.1,x.2.2.2.1,x.2.2.2.2.1,x.2.2.2.2.2)
theorem Qhz {x:Qn}(h:Kk QY x):jX x:=Qgk ⟨h.2.1,h.2.2.1,h.2.2.2.1,h.2.2.2.2.1,h.2.2.2.2.2.1,trivial⟩
theorem QeR (a0:Int) (a1:Int) (a2:Int) (a3:Int) (a4:Int) (a5:ByteArray) (l:Int) (h0:0<=l) (hB:l<=1048576) (hf:jX (a0,a1,a2,a3,a4,a5)):VQ w (a0,a1,a2,a3,a4,a5,l)=some (szI (Q3 (a0,a1,a2,a3,a4,a5)) l):=by
 apply QbU
 simp only[jX]at hf
 have e:Q3 (a0,a1,a2,a3,a4,a5)=(ZP (a1,a2,a3,a4,a5)+0):=by simp only[Q3];omega
 rw[e]
 simp only[xF]
 refine YU (by omega) (Qif a1 a2 a3 a4 a5 _ (by omega) (by omega) (hf)) fun _=> ?_
 exact Kt (by omega)
def Yv (a:List Qn):Nat:=a.length+JK Q3 a
def vZ (a:List Qn):Prop:=a.length<=maxLen/\∀x∈a,jX x
theorem Qhn (a:List Qn) (l:Int) (h0:0<=l) (hB:l<=1048576) (hf:vZ a):K2 w (a,l)=some (szI (Yv a) l):=by
 apply QaB
 simp only[xf,Yv]
 refine jg h0 hB hf.1 fun h=> ?_
 have e:=QiC Q3 a (fun l i=>Zo wl (a,l,(i:Int))) 1048576
  (fun l i h1 r h0 hB h2 hk=>by
    apply Yt
    have hs:=QeR (a[i]).1 (a[i]).2.1 (a[i]).2.2.1 (a[i]).2.2.2.1 (a[i]).2.2.2.2.1 (a[i]).2.2.2.2.2 l (by omega) (by omega) (hf.2 _ (QRf h1))
    have hs2:szI (Q3 a[i]) l=l - Q3 a[i]:=Ku h2
    simp only[Yi,ilt h1,QB h1,Qx h1,inc h1 (show a.length<=maxLen from hf.1),QQ1,hs,QQ0]
    simp only[show szI (Q3 ((a[i]).1,(a[i]).2.1,(a[i]).2.2.1,(a[i]).2.2.2.1,(a[i]).2.2.2.2.1,(a[i]).2.2.2.2.2)) l=l - Q3 a[i]from hs2,df (show¬l - (Q3 a[i]:Int)<0 by omega),QQ2]
    exact hk)
  (fun l i h1 h0 hB h2=>by
    apply Yt
    have hs:=QeR (a[i]).1 (a[i]).2.1 (a[i]).2.2.1 (a[i]).2.2.2.1 (a[i]).2.2.2.2.1 (a[i]).2.2.2.2.2 l (by omega) (by omega) (hf.2 _ (QRf h1))
    have hs2:szI (Q3 a[i]) l= -1:=YE h2
    simp only[Yi,ilt h1,QB h1,Qx h1,QQ1,hs,QQ0]
    simp only[show szI (Q3 ((a[i]).1,(a[i]).2.1,(a[i]).2.2.1,(a[i]).2.2.2.1,(a[i]).2.2.2.2.1,(a[i]).2.2.2.2.2)) l= -1 from hs2,dt (show(-1:Int)<0 by omega),QQ1])
  (fun l=>by
    apply Yt
    simp only[Yi,QI,QQ2])
  (l - a.length) (by omega) (by omega)
 have hl:=hf.1
 simp only[maxLen]at hl
 rw[w64 (by omega) (by omega)]
 simp only[QQ6]at e
 rw[e,QQ0,Qhp]
def YB (a:List Qg):Nat:=a.length
def ja (a:List Qg):Prop:=a.length<=maxLen
theorem QgK (a:List Qg) (l:Int) (h0:0<=l) (hB:l<=1048576) (hf:ja a):Kf w (a,l)=some (szI (YB a) l):=by
 apply vV
 simp only[JR]
 exact jg (m:=0) h0 hB hf fun h=>by rw[w64 (by omega) (by omega)];exact Kt (by omega)
def ZN (x:QM):Nat:=Yv x.1+YB x.2
def xg (x:QM):Prop:=vZ x.1/\ja x.2
theorem Qgj {x:QM}(h:Kk jP x):xg x:=⟨⟨h.1.1,fun y hy=>Qhz (h.1.2 y hy)⟩,h.2.1.1⟩
theorem Qg8 (a0:List Qn) (a1:List Qg) (l:Int) (h0:0<=l) (hB:l<=1048576) (hf:xg (a0,a1)):KZ w (a0,a1,l)=some (szI (ZN (a0,a1)) l):=by
 apply Qa9
 simp only[xg]at hf
 have e:ZN (a0,a1)=(Yv a0+(YB a1+0)):=by simp only[ZN];omega
 rw[e]
 simp only[xk]
 refine YU (by omega) (Qhn a0 _ (by omega) (by omega) (hf.1)) fun _=> ?_
 refine YU (by omega) (QgK a1 _ (by omega) (by omega) (hf.2)) fun _=> ?_
 exact Kt (by omega)
def Ko (a:List Qg):Nat:=a.length
def vS (a:List Qg):Prop:=a.length<=maxLen
theorem QhW (a:List Qg) (l:Int) (h0:0<=l) (hB:l<=1048576) (hf:vS a):KR w (a,l)=some (szI (Ko a) l):=by
 apply QaS
 simp only[qH]
 exact jg (m:=0) h0 hB hf fun h=>by rw[w64 (by omega) (by omega)];exact Kt (by omega)
def Jl (x:X7):Nat:=YC (x.2.2.2.2.2.1,x.2.2.2.2.2.2.1)+ZJ x.2.2.2.2.2.2.2.1+ZJ x.2.2.2.2.2.2.2.2.1+ZN (x.2.2.2.2.2.2.2.2.2.1,x.2.2.2.2.2.2.2.2.2.2.1)+Ko x.2.2.2.2.2.2.2.2.2.2.2
def zg (x:X7):Prop:=zF (x.2.2.2.2.2.1,x.2.2.2.2.2.2.1)/\zi x.2.2.2.2.2.2.2.1/\zi x.2.2.2.2.2.2.2.2.1/\xg (x.2.2.2.2.2.2.2.2.2.1,x.2.2.2.2.2.2.2.2.2.2.1)/\vS x.2.2.2.2.2.2.2.2.2.2.2
theorem Qk8 {x:X7}(h:Kk QdJ x):zg x:=⟨Qik ⟨h.2.2.2.2.2.1,h.2.2.2.2.2.2.1,trivial⟩,h.2.2.2.2.2.2.2.1.1,h.2.2.2.2.2.2.2.2.1.1,Qgj ⟨h.2.2.2.2.2.2.2.2.2.1,h.2.2.2.2.2.2.2.2.2.2.1,trivial⟩,h.2.2.2.2.2.2.2.2.2.2.2.1.1⟩
theorem Qje (a0:Int) (a1:Int) (a2:Int) (a3:Int) (a4:Int) (a5:List Int) (a6:Int) (a7:List Int) (a8:List Int) (a9:List Qn) (a10:List Qg) (a11:List Qg) (l:Int) (h0:0<=l) (hB:l<=1048576) (hf:zg (a0,a1,a2,a3,a4,a5,a6,a7,a8,a9,a10,a11)):JX w (a0,a1,a2,a3,a4,a5,a6,a7,a8,a9,a10,a11,l)=some (szI (Jl (a0,a1,a2,a3,a4,a5,a6,a7,a8,a9,a10,a11)) l):=by
 apply QcQ
 simp only[zg]at hf
 have e:Jl (a0,a1,a2,a3,a4,a5,a6,a7,a8,a9,a10,a11)=(YC (a5,a6)+(ZJ a7+(ZJ a8+(ZN (a9,a10)+(Ko a11+0))))):=by simp only[Jl];omega
 rw[e]
 simp only[zC]
 refine YU (by omega) (QiS a5 a6 _ (by omega) (by omega) (hf.1)) fun _=> ?_
 refine YU (by omega) (QbE a7 _ (by omega) (by omega) (hf.2.1)) fun _=> ?_
 refine YU (by omega) (QbE a8 _ (by omega) (by omega) (hf.2.2.1)) fun _=> ?_
 refine YU (by omega) (Qg8 a9 a10 _ (by omega) (by omega) (hf.2.2.2.1)) fun _=> ?_
 refine YU (by omega) (QhW a11 _ (by omega) (by omega) (hf.2.2.2.2)) fun _=> ?_
 exact Kt (by omega)
theorem Qb4 (a:List Int) (h:ZJ a<=4294967296):Z6 w a=some a:=by
 apply Qbs
 simp only[ZJ]at h
 have e:=ya a (fun x=>x) (fun i out=>Zy wl (a,(i:Int),out)) (fun out=>out)
  (fun i h1 out r ho hk=>by
    apply JS
    simp only[VG,ilt h1,ho,QB h1,Qx h1,inc h1 (show a.length<=maxLen by simp[maxLen];omega),QQ1,QRb]
    exact hk)
  (fun out ho=>by
    apply JS
    simp only[VG,QI,QQ2])
  (List.replicate a.length 0) (by simp)
 rw[List.map_id']at e
 have hf:fits a.length 8=true:=YI (by omega)
 simp only[xx,QRb,hf]
 simp
 exact e
theorem QiK (a0:List Int) (a1:Int) (h:YC (a0,a1)<=4294967296):VX w (a0,a1)=some (a0,a1):=by
 apply QbJ
 simp only[YC]at h
 simp only[xr,Qb4 a0 (by omega),QQ0]
theorem QhX (a0:Int) (a1:Int) (a2:Int) (a3:Int) (a4:ByteArray) (h:ZP (a0,a1,a2,a3,a4)<=4294967296):KM w (a0,a1,a2,a3,a4)=some (a0,a1,a2,a3,a4):=by
 apply Qak
 simp only[ZP]at h
 simp only[qS]
theorem QiW (a0:Int) (a1:Int) (a2:Int) (a3:Int) (a4:Int) (a5:ByteArray) (h:Q3 (a0,a1,a2,a3,a4,a5)<=4294967296):VU w (a0,a1,a2,a3,a4,a5)=some (a0,a1,a2,a3,a4,a5):=by
 apply QbQ
 simp only[Q3]at h
 simp only[xq,QhX a1 a2 a3 a4 a5 (by omega),QQ0]
theorem QhE (a:List Qn) (h:Yv a<=4294967296):KE w a=some a:=by
 apply QaC
 simp only[Yv]at h
 have e:=ya a (fun x=>x) (fun i out=>Ze wl (a,(i:Int),out)) (fun out=>out)
  (fun i h1 out r ho hk=>by
    apply Jc
    have hb:=v8 Q3 a i h1
    simp only[Vf,ilt h1,ho,QB h1,Qx h1,inc h1 (show a.length<=maxLen by simp[maxLen];omega),QQ1,QRb,QiW (a[i]).1 (a[i]).2.1 (a[i]).2.2.1 (a[i]).2.2.2.1 (a[i]).2.2.2.2.1 (a[i]).2.2.2.2.2 (show Q3 a[i]<=4294967296 by omega),QQ0]
    exact hk)
  (fun out ho=>by
    apply Jc
    simp only[Vf,QI,QQ2])
  (List.replicate a.length (0,0,0,0,0,ByteArray.empty)) (by simp)
 rw[List.map_id']at e
 have hf:fits a.length 56=true:=YI (by omega)
 simp only[qn,QRb,hf]
 simp
 exact e
theorem Qhd (a0:Int) (a1:Int):KP w (a0,a1)=some (a0,a1):=by
 apply Qaw
 simp only[qF]
theorem QgW (a:List Qg) (h:YB a<=4294967296):Kg w a=some a:=by
 apply vO
 simp only[YB]at h
 have e:=ya a (fun x=>x) (fun i out=>XX wl (a,(i:Int),out)) (fun out=>out)
  (fun i h1 out r ho hk=>by
    apply VB
    simp only[Kn,ilt h1,ho,QB h1,Qx h1,inc h1 (show a.length<=maxLen by simp[maxLen];omega),QQ1,QRb,Qhd (a[i]).1 (a[i]).2,QQ0]
    exact hk)
  (fun out ho=>by
    apply VB
    simp only[Kn,QI,QQ2])
  (List.replicate a.length (0,0)) (by simp)
 rw[List.map_id']at e
 have hf:fits a.length 16=true:=YI (by omega)
 simp only[JM,QRb,hf]
 simp
 exact e
theorem Qhl (a0:List Qn) (a1:List Qg) (h:ZN (a0,a1)<=4294967296):Vb w (a0,a1)=some (a0,a1):=by
 apply Qbj
 simp only[ZN]at h
 simp only[xb,QhE a0 (by omega),QgW a1 (by omega),QQ0]
theorem Qi2 (a0:Int) (a1:Int):VW w (a0,a1)=some (a0,a1):=by
 apply QbD
 simp only[xU]
theorem Qh0 (a:List Qg) (h:Ko a<=4294967296):Vk w a=some a:=by
 apply QaF
 simp only[Ko]at h
 have e:=ya a (fun x=>x) (fun i out=>Zm wl (a,(i:Int),out)) (fun out=>out)
  (fun i h1 out r ho hk=>by
    apply Ju
    simp only[Vd,ilt h1,ho,QB h1,Qx h1,inc h1 (show a.length<=maxLen by simp[maxLen];omega),QQ1,QRb,Qi2 (a[i]).1 (a[i]).2,QQ0]
    exact hk)
  (fun out ho=>by
    apply Ju
    simp only[Vd,QI,QQ2])
  (List.replicate a.length (0,0)) (by simp)
 rw[List.map_id']at e
 have hf:fits a.length 16=true:=YI (by omega)
 simp only[qZ,QRb,hf]
 simp
 exact e
theorem Qjf (a0:Int) (a1:Int) (a2:Int) (a3:Int) (a4:Int) (a5:List Int) (a6:Int) (a7:List Int) (a8:List Int) (a9:List Qn) (a10:List Qg) (a11:List Qg) (h:Jl (a0,a1,a2,a3,a4,a5,a6,a7,a8,a9,a10,a11)<=4294967296):YK w (a0,a1,a2,a3,a4,a5,a6,a7,a8,a9,a10,a11)=some (a0,a1,a2,a3,a4,a5,a6,a7,a8,a9,a10,a11):=by
 apply QcT
 simp only[Jl]at h
 simp only[zf,QiK a5 a6 (by omega),Qb4 a7 (by omega),Qb4 a8 (by omega),Qhl a9 a10 (by omega),Qh0 a11 (by omega),QQ0]
theorem QbP (a:List Int) (h:ZJ a<=4294967296):Ya w (a,a)=some true:=by
 apply QbG
 simp only[ZJ]at h
 have e:=yz a.length (fun i=>ZE wl (a,a,(i:Int))) (.inr ())
  (fun i h1 r hk=>by
    apply JQ
    simp only[VD,ilt h1,QB h1,Qx h1,inc h1 (show a.length<=maxLen by simp[maxLen];omega),QQ1,decide_true,QQ3,QQ2,Xp,beq_self_eq_true]
    exact hk)
  (by
    apply JQ
    simp only[VD,QI,QQ2])
 simp only[QQ6]at e
 simp only[xV,decide_true,QQ3,QQ2,e,QQ0,QK,Sum.elim_inr]
theorem Qiz (a0:List Int) (a1:Int) (h:YC (a0,a1)<=4294967296):V1 w (a0,a1,a0,a1)=some true:=by
 apply Qb9
 simp only[YC]at h
 simp only[xC,QbP a0 (by omega),decide_true,QQ3,QQ2,Xp,beq_self_eq_true,QQ0]
theorem Qhx (a0:Int) (a1:Int) (a2:Int) (a3:Int) (a4:ByteArray) (h:ZP (a0,a1,a2,a3,a4)<=4294967296):Vu w (a0,a1,a2,a3,a4,a0,a1,a2,a3,a4)=some true:=by
 apply Qa5
 simp only[ZP]at h
 simp only[qC,decide_true,QQ3,QQ2,Xp,beq_self_eq_true,QQ0]
theorem QiB (a0:Int) (a1:Int) (a2:Int) (a3:Int) (a4:Int) (a5:ByteArray) (h:Q3 (a0,a1,a2,a3,a4,a5)<=4294967296):V9 w (a0,a1,a2,a3,a4,a5,a0,a1,a2,a3,a4,a5)=some true:=by
 apply QbF
 simp only[Q3]at h
 simp only[xP,Qhx a1 a2 a3 a4 a5 (by omega),decide_true,QQ3,QQ2,Xp,beq_self_eq_true,QQ0]
theorem Qhk (a:List Qn) (h:Yv a<=4294967296):KX w (a,a)=some true:=by
 apply Qbn
 simp only[Yv]at h
 have e:=yz a.length (fun i=>Zf wl (a,a,(i:Int))) (.inr ())
  (fun i h1 r hk=>by
    apply JD
    have hb:=v8 Q3 a i h1
    simp only[Vw,ilt h1,QB h1,Qx h1,inc h1 (show a.length<=maxLen by simp[maxLen];omega),QQ1,decide_true,QQ3,QQ2,Xp,beq_self_eq_true,QiB (a[i]).1 (a[i]).2.1 (a[i]).2.2.1 (a[i]).2.2.2.1 (a[i]).2.2.2.2.1 (a[i]).2.2.2.2.2 (show Q3 a[i]<=4294967296 by omega),QQ0]
    exact hk)
  (by
    apply JD
    simp only[Vw,QI,QQ2])
 simp only[QQ6]at e
 simp only[qj,decide_true,QQ3,QQ2,e,QQ0,QK,Sum.elim_inr]
theorem Qhr (a0:Int) (a1:Int):Vm w (a0,a1,a0,a1)=some true:=by
 apply Qbk
 simp only[qY,decide_true,QQ3,QQ2,Xp,beq_self_eq_true,QQ0]
theorem Qgv (a:List Qg) (h:YB a<=4294967296):Ki w (a,a)=some true:=by
 apply vX
 simp only[YB]at h
 have e:=yz a.length (fun i=>XY wl (a,a,(i:Int))) (.inr ())
  (fun i h1 r hk=>by
    apply Vz
    simp only[Kp,ilt h1,QB h1,Qx h1,inc h1 (show a.length<=maxLen by simp[maxLen];omega),QQ1,decide_true,QQ3,QQ2,Xp,beq_self_eq_true,Qhr (a[i]).1 (a[i]).2,QQ0]
    exact hk)
  (by
    apply Vz
    simp only[Kp,QI,QQ2])
 simp only[QQ6]at e
 simp only[JN,decide_true,QQ3,QQ2,e,QQ0,QK,Sum.elim_inr]
theorem Qh9 (a0:List Qn) (a1:List Qg) (h:ZN (a0,a1)<=4294967296):Vs w (a0,a1,a0,a1)=some true:=by
 apply QaQ
 simp only[ZN]at h
 simp only[qm,Qhk a0 (by omega),Qgv a1 (by omega),decide_true,QQ3,QQ2,Xp,beq_self_eq_true,QQ0]
theorem Qi3 (a0:Int) (a1:Int):V4 w (a0,a1,a0,a1)=some true:=by
 apply Qb2
 simp only[xL,decide_true,QQ3,QQ2,Xp,beq_self_eq_true,QQ0]
theorem QhG (a:List Qg) (h:Ko a<=4294967296):KV w (a,a)=some true:=by
 apply Qa8
 simp only[Ko]at h
 have e:=yz a.length (fun i=>Zi wl (a,a,(i:Int))) (.inr ())
  (fun i h1 r hk=>by
    apply JE
    simp only[K9,ilt h1,QB h1,Qx h1,inc h1 (show a.length<=maxLen by simp[maxLen];omega),QQ1,decide_true,QQ3,QQ2,Xp,beq_self_eq_true,Qi3 (a[i]).1 (a[i]).2,QQ0]
    exact hk)
  (by
    apply JE
    simp only[K9,QI,QQ2])
 simp only[QQ6]at e
 simp only[qv,decide_true,QQ3,QQ2,e,QQ0,QK,Sum.elim_inr]
theorem Qjy (a0:Int) (a1:Int) (a2:Int) (a3:Int) (a4:Int) (a5:List Int) (a6:Int) (a7:List Int) (a8:List Int) (a9:List Qn) (a10:List Qg) (a11:List Qg) (h:Jl (a0,a1,a2,a3,a4,a5,a6,a7,a8,a9,a10,a11)<=4294967296):JT w (a0,a1,a2,a3,a4,a5,a6,a7,a8,a9,a10,a11,a0,a1,a2,a3,a4,a5,a6,a7,a8,a9,a10,a11)=some true:=by
 apply QcL
 simp only[Jl]at h
 simp only[zD,Qiz a5 a6 (by omega),QbP a7 (by omega),QbP a8 (by omega),Qh9 a9 a10 (by omega),QhG a11 (by omega),decide_true,QQ3,QQ2,Xp,beq_self_eq_true,QQ0]
end Go.Proofs.YtameehmkoglkeaaDoor.M
