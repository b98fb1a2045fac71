/- What the plain forms that FnExactAuto reaches come to: PFam. No conditions but those that each theorem states. -/
import Derived.Test.YtiejfnbmficbmaaGreatFnExactAutoPState
set_option linter.all false
namespace Go.Proofs.YtiejfnbmficbmaaGreat.M
open Go Go.Eng Go.Proofs
set_option linter.unusedVariables false
def VO (x:XO):Nat:=ByteArray.size x.2.2.2.2
def QoQ (x:XO):Prop:=ByteArray.size x.2.2.2.2<=maxLen
theorem QFg {x:XO}(h:xJ QvA x):QoQ x:=h.2.2.2.2.1
theorem QHB (a0 a1 a2 a3:Int) (a4:ByteArray) (l:Int) (h0:0<=l) (hB:l<=1048576) (hf:QoQ (a0,a1,a2,a3,a4)):Qdk w (a0,a1,a2,a3,a4,l)=some (szI (VO (a0,a1,a2,a3,a4)) l):=by
 apply Qtu
 simp only[QoQ]at hf
 have e:VO (a0,a1,a2,a3,a4)=(ByteArray.size a4+0):=by simp only[VO];omega
 rw[e]
 simp only[Qka]
 refine zm (by omega) (by omega) (hf) fun _=> ?_
 rw[w64 (by omega) (by omega)]
 exact KR (by omega)
def XN (x:Qd):Nat:=VO (x.2.1,x.2.2.1,x.2.2.2.1,x.2.2.2.2.1,x.2.2.2.2.2)
def Qre (x:Qd):Prop:=QoQ (x.2.1,x.2.2.1,x.2.2.2.1,x.2.2.2.2.1,x.2.2.2.2.2)
theorem QGM {x:Qd}(h:xJ QT x):Qre x:=QFg ⟨h.2.1,h.2.2.1,h.2.2.2.1,h.2.2.2.2.1,h.2.2.2.2.2.1,trivial⟩
theorem QCT (a0 a1 a2 a3 a4:Int) (a5:ByteArray) (l:Int) (h0:0<=l) (hB:l<=1048576) (hf:Qre (a0,a1,a2,a3,a4,a5)):Qfe w (a0,a1,a2,a3,a4,a5,l)=some (szI (XN (a0,a1,a2,a3,a4,a5)) l):=by
 apply QwI
 simp only[Qre]at hf
 have e:XN (a0,a1,a2,a3,a4,a5)=(VO (a1,a2,a3,a4,a5)+0):=by simp only[XN];omega
 rw[e]
 simp only[Qmz]
 refine ZX (by omega) (QHB a1 a2 a3 a4 a5 _ (by omega) (by omega) (hf)) fun _=> ?_
 exact KR (by omega)
def XX (a:List Qd):Nat:=a.length+Qj XN a
def Qoz (a:List Qd):Prop:=a.length<=maxLen/\∀x∈a,Qre x
theorem QHg (a:List Qd) (l:Int) (h0:0<=l) (hB:l<=1048576) (hf:Qoz a):Qcy w (a,l)=some (szI (XX a) l):=by
 apply Qt5
 simp only[Qj7,XX]
 refine zm h0 hB hf.1 fun h=> ?_
 have e:=Qiu XN a (fun l i=>JJ wl (a,l,(i:Int))) 1048576
  (fun l i h1 r h0 hB h2 hk=>by
    apply yW
    have hs:=QCT a[i].1 a[i].2.1 a[i].2.2.1 a[i].2.2.2.1 a[i].2.2.2.2.1 a[i].2.2.2.2.2 l (by omega) (by omega) (hf.2 _ (QRf h1))
    have hs2:szI (XN a[i]) l=l - XN a[i]:=VH h2
    simp only[zY,ilt h1,Qk h1,Qg h1,inc h1 (show a.length<=maxLen from hf.1),QQ1,hs,QQ0]
    simp only[show szI (XN (a[i].1,a[i].2.1,a[i].2.2.1,a[i].2.2.2.1,a[i].2.2.2.2.1,a[i].2.2.2.2.2)) l=l - XN a[i]from hs2,df (show¬l - (XN a[i]:Int)<0 by omega),QQ2]
    exact hk)
  (fun l i h1 h0 hB h2=>by
    apply yW
    have hs:=QCT a[i].1 a[i].2.1 a[i].2.2.1 a[i].2.2.2.1 a[i].2.2.2.2.1 a[i].2.2.2.2.2 l (by omega) (by omega) (hf.2 _ (QRf h1))
    have hs2:szI (XN a[i]) l= -1:=KU h2
    simp only[zY,ilt h1,Qk h1,Qg h1,QQ1,hs,QQ0]
    simp only[show szI (XN (a[i].1,a[i].2.1,a[i].2.2.1,a[i].2.2.2.1,a[i].2.2.2.2.1,a[i].2.2.2.2.2)) l= -1 from hs2,dt (show(-1:Int)<0 by omega),QQ1])
  (fun l=>by
    apply yW
    simp only[zY,Qm,QQ2])
  (l - a.length) (by omega) (by omega)
 have hl:=hf.1
 simp only[maxLen]at hl
 rw[w64 (by omega) (by omega)]
 simp only[QQ6]at e
 rw[e,QQ0,Qev]
def XS (a:List Qa):Nat:=a.length
def Qk1 (a:List Qa):Prop:=a.length<=maxLen
theorem QFa (a:List Qa) (l:Int) (h0:0<=l) (hB:l<=1048576) (hf:Qk1 a):vN w (a,l)=some (szI (XS a) l):=by
 apply QsC
 simp only[Qhv]
 exact zm (m:=0) h0 hB hf fun h=>by rw[w64 (by omega) (by omega)];exact KR (by omega)
def QG (x:Qi):Nat:=XX x.1+XS x.2
def yZ (x:Qi):Prop:=Qoz x.1/\Qk1 x.2
theorem Qqm {x:Qi}(h:xJ Zl x):yZ x:=⟨⟨h.1.1,fun y hy=>QGM (h.1.2 y hy)⟩,h.2.1.1⟩
theorem Qo6 (a0:List Qd) (a1:List Qa) (l:Int) (h0:0<=l) (hB:l<=1048576) (hf:yZ (a0,a1)):xB w (a0,a1,l)=some (szI (QG (a0,a1)) l):=by
 apply QtP
 simp only[yZ]at hf
 have e:QG (a0,a1)=(XX a0+(XS a1+0)):=by simp only[QG];omega
 rw[e]
 simp only[QjE]
 refine ZX (by omega) (QHg a0 _ (by omega) (by omega) (hf.1)) fun _=> ?_
 refine ZX (by omega) (QFa a1 _ (by omega) (by omega) (hf.2)) fun _=> ?_
 exact KR (by omega)
def QW (a:List Int):Nat:=a.length
def Qiy (a:List Int):Prop:=a.length<=maxLen
theorem Qnm (a:List Int) (l:Int) (h0:0<=l) (hB:l<=1048576) (hf:Qiy a):qC w (a,l)=some (szI (QW a) l):=by
 apply Qwx
 simp only[QlM]
 exact zm (m:=0) h0 hB hf fun h=>by rw[w64 (by omega) (by omega)];exact KR (by omega)
def ZC (x:Zi):Nat:=QW x.1
def Qn7 (x:Zi):Prop:=Qiy x.1
theorem QHx {x:Zi}(h:xJ QyX x):Qn7 x:=h.1.1
theorem QJc (a0:List Int) (a1 l:Int) (h0:0<=l) (hB:l<=1048576) (hf:Qn7 (a0,a1)):QeM w (a0,a1,l)=some (szI (ZC (a0,a1)) l):=by
 apply Qwu
 simp only[Qn7]at hf
 have e:ZC (a0,a1)=(QW a0+0):=by simp only[ZC];omega
 rw[e]
 simp only[Qld]
 refine ZX (by omega) (Qnm a0 _ (by omega) (by omega) (hf)) fun _=> ?_
 exact KR (by omega)
def X1 (a:List Qi):Nat:=a.length+Qj QG a
def Qqi (a:List Qi):Prop:=a.length<=maxLen/\∀x∈a,yZ x
theorem QFE (a:List Qi) (l:Int) (h0:0<=l) (hB:l<=1048576) (hf:Qqi a):vX w (a,l)=some (szI (X1 a) l):=by
 apply Qs2
 simp only[Qht,X1]
 refine zm h0 hB hf.1 fun h=> ?_
 have e:=Qiu QG a (fun l i=>VJ wl (a,l,(i:Int))) 1048576
  (fun l i h1 r h0 hB h2 hk=>by
    apply zQ
    have hs:=Qo6 a[i].1 a[i].2 l (by omega) (by omega) (hf.2 _ (QRf h1))
    have hs2:szI (QG a[i]) l=l - QG a[i]:=VH h2
    simp only[xV,ilt h1,Qk h1,Qg h1,inc h1 (show a.length<=maxLen from hf.1),QQ1,hs,QQ0]
    simp only[show szI (QG (a[i].1,a[i].2)) l=l - QG a[i]from hs2,df (show¬l - (QG a[i]:Int)<0 by omega),QQ2]
    exact hk)
  (fun l i h1 h0 hB h2=>by
    apply zQ
    have hs:=Qo6 a[i].1 a[i].2 l (by omega) (by omega) (hf.2 _ (QRf h1))
    have hs2:szI (QG a[i]) l= -1:=KU h2
    simp only[xV,ilt h1,Qk h1,Qg h1,QQ1,hs,QQ0]
    simp only[show szI (QG (a[i].1,a[i].2)) l= -1 from hs2,dt (show(-1:Int)<0 by omega),QQ1])
  (fun l=>by
    apply zQ
    simp only[xV,Qm,QQ2])
  (l - a.length) (by omega) (by omega)
 have hl:=hf.1
 simp only[maxLen]at hl
 rw[w64 (by omega) (by omega)]
 simp only[QQ6]at e
 rw[e,QQ0,Qev]
def Yf (x:Zv):Nat:=X1 x.2.2
def Qqy (x:Zv):Prop:=Qqi x.2.2
theorem QJk {x:Zv}(h:xJ QAq x):Qqy x:=⟨h.2.2.1.1,fun y hy=>Qqm (h.2.2.1.2 y hy)⟩
theorem QJ7 (a0 a1:Int) (a2:List Qi) (l:Int) (h0:0<=l) (hB:l<=1048576) (hf:Qqy (a0,a1,a2)):Qil w (a0,a1,a2,l)=some (szI (Yf (a0,a1,a2)) l):=by
 apply QyA
 simp only[Qqy]at hf
 have e:Yf (a0,a1,a2)=(X1 a2+0):=by simp only[Yf];omega
 rw[e]
 simp only[Qn3]
 refine ZX (by omega) (QFE a2 _ (by omega) (by omega) (hf)) fun _=> ?_
 exact KR (by omega)
def Xy (a:List (List Int)):Nat:=a.length+Qj QW a
def Qs6 (a:List (List Int)):Prop:=a.length<=maxLen/\∀x∈a,Qiy x
theorem QHJ (a:List (List Int)) (l:Int) (h0:0<=l) (hB:l<=1048576) (hf:Qs6 a):QbA w (a,l)=some (szI (Xy a) l):=by
 apply QtT
 simp only[QjN,Xy]
 refine zm h0 hB hf.1 fun h=> ?_
 have e:=Qiu QW a (fun l i=>JE wl (a,l,(i:Int))) 1048576
  (fun l i h1 r h0 hB h2 hk=>by
    apply yH
    have hs:=Qnm a[i] l (by omega) (by omega) (hf.2 _ (QRf h1))
    have hs2:szI (QW a[i]) l=l - QW a[i]:=VH h2
    simp only[zZ,ilt h1,Qk h1,Qg h1,inc h1 (show a.length<=maxLen from hf.1),QQ1,hs,QQ0]
    simp only[show szI (QW a[i]) l=l - QW a[i]from hs2,df (show¬l - (QW a[i]:Int)<0 by omega),QQ2]
    exact hk)
  (fun l i h1 h0 hB h2=>by
    apply yH
    have hs:=Qnm a[i] l (by omega) (by omega) (hf.2 _ (QRf h1))
    have hs2:szI (QW a[i]) l= -1:=KU h2
    simp only[zZ,ilt h1,Qk h1,Qg h1,QQ1,hs,QQ0]
    simp only[show szI (QW a[i]) l= -1 from hs2,dt (show(-1:Int)<0 by omega),QQ1])
  (fun l=>by
    apply yH
    simp only[zZ,Qm,QQ2])
  (l - a.length) (by omega) (by omega)
 have hl:=hf.1
 simp only[maxLen]at hl
 rw[w64 (by omega) (by omega)]
 simp only[QQ6]at e
 rw[e,QQ0,Qev]
def Ya (a:List Qz):Nat:=a.length
def Qsp (a:List Qz):Prop:=a.length<=maxLen
theorem QH4 (a:List Qz) (l:Int) (h0:0<=l) (hB:l<=1048576) (hf:Qsp a):Qc2 w (a,l)=some (szI (Ya a) l):=by
 apply Qu5
 simp only[Qkz]
 exact zm (m:=0) h0 hB hf fun h=>by rw[w64 (by omega) (by omega)];exact KR (by omega)
def Z9 (a:List QO):Nat:=a.length
def Qsk (a:List QO):Prop:=a.length<=maxLen
theorem QHj (a:List QO) (l:Int) (h0:0<=l) (hB:l<=1048576) (hf:Qsk a):Qca w (a,l)=some (szI (Z9 a) l):=by
 apply QuV
 simp only[Qj3]
 exact zm (m:=0) h0 hB hf fun h=>by rw[w64 (by omega) (by omega)];exact KR (by omega)
def Q9 (x:Qb):Nat:=QG (x.2.2.1,x.2.2.2.1)+ZC (x.2.2.2.2.1,x.2.2.2.2.2.1)+Yf (x.2.2.2.2.2.2.1,x.2.2.2.2.2.2.2.1,x.2.2.2.2.2.2.2.2.1)+QW x.2.2.2.2.2.2.2.2.2.1+QW x.2.2.2.2.2.2.2.2.2.2.1+Xy x.2.2.2.2.2.2.2.2.2.2.2.1+Ya x.2.2.2.2.2.2.2.2.2.2.2.2.2.2.1+Z9 x.2.2.2.2.2.2.2.2.2.2.2.2.2.2.2.2.2.2
def Qir (x:Qb):Prop:=yZ (x.2.2.1,x.2.2.2.1)/\Qn7 (x.2.2.2.2.1,x.2.2.2.2.2.1)/\Qqy (x.2.2.2.2.2.2.1,x.2.2.2.2.2.2.2.1,x.2.2.2.2.2.2.2.2.1)/\Qiy x.2.2.2.2.2.2.2.2.2.1/\Qiy x.2.2.2.2.2.2.2.2.2.2.1/\Qs6 x.2.2.2.2.2.2.2.2.2.2.2.1/\Qsp x.2.2.2.2.2.2.2.2.2.2.2.2.2.2.1/\Qsk x.2.2.2.2.2.2.2.2.2.2.2.2.2.2.2.2.2.2
theorem QG0 {x:Qb}(h:xJ Y5 x):Qir x:=⟨Qqm ⟨h.2.2.1,h.2.2.2.1,trivial⟩,QHx ⟨h.2.2.2.2.1,h.2.2.2.2.2.1,trivial⟩,QJk ⟨h.2.2.2.2.2.2.1,h.2.2.2.2.2.2.2.1,h.2.2.2.2.2.2.2.2.1,trivial⟩,h.2.2.2.2.2.2.2.2.2.1.1,h.2.2.2.2.2.2.2.2.2.2.1.1,⟨h.2.2.2.2.2.2.2.2.2.2.2.1.1,fun y hy=>((h.2.2.2.2.2.2.2.2.2.2.2.1.2 y hy).1).1⟩,h.2.2.2.2.2.2.2.2.2.2.2.2.2.2.1.1,h.2.2.2.2.2.2.2.2.2.2.2.2.2.2.2.2.2.2.1.1⟩
theorem QCR (a0 a1:Int) (a2:List Qd) (a3:List Qa) (a4:List Int) (a5 a6 a7:Int) (a8:List Qi) (a9 a10:List Int) (a11:List (List Int)) (a12 a13:Int) (a14:List Qz) (a15 a16 a17:Int) (a18:List QO) (l:Int) (h0:0<=l) (hB:l<=1048576) (hf:Qir (a0,a1,a2,a3,a4,a5,a6,a7,a8,a9,a10,a11,a12,a13,a14,a15,a16,a17,a18)):QeW w (a0,a1,a2,a3,a4,a5,a6,a7,a8,a9,a10,a11,a12,a13,a14,a15,a16,a17,a18,l)=some (szI (Q9 (a0,a1,a2,a3,a4,a5,a6,a7,a8,a9,a10,a11,a12,a13,a14,a15,a16,a17,a18)) l):=by
 apply Qwb
 simp only[Qir]at hf
 have e:Q9 (a0,a1,a2,a3,a4,a5,a6,a7,a8,a9,a10,a11,a12,a13,a14,a15,a16,a17,a18)=(QG (a2,a3)+(ZC (a4,a5)+(Yf (a6,a7,a8)+(QW a9+(QW a10+(Xy a11+(Ya a14+(Z9 a18+0)))))))):=by simp only[Q9];omega
 rw[e]
 simp only[Qmn]
 refine ZX (by omega) (Qo6 a2 a3 _ (by omega) (by omega) (hf.1)) fun _=> ?_
 refine ZX (by omega) (QJc a4 a5 _ (by omega) (by omega) (hf.2.1)) fun _=> ?_
 refine ZX (by omega) (QJ7 a6 a7 a8 _ (by omega) (by omega) (hf.2.2.1)) fun _=> ?_
 refine ZX (by omega) (Qnm a9 _ (by omega) (by omega) (hf.2.2.2.1)) fun _=> ?_
 refine ZX (by omega) (Qnm a10 _ (by omega) (by omega) (hf.2.2.2.2.1)) fun _=> ?_
 refine ZX (by omega) (QHJ a11 _ (by omega) (by omega) (hf.2.2.2.2.2.1)) fun _=> ?_
 refine ZX (by omega) (QH4 a14 _ (by omega) (by omega) (hf.2.2.2.2.2.2.1)) fun _=> ?_
 refine ZX (by omega) (QHj a18 _ (by omega) (by omega) (hf.2.2.2.2.2.2.2)) fun _=> ?_
 exact KR (by omega)
def X7 (a:List Qb):Nat:=a.length+Qj Q9 a
def QsE (a:List Qb):Prop:=a.length<=maxLen/\∀x∈a,Qir x
theorem QHt (a:List Qb) (l:Int) (h0:0<=l) (hB:l<=1048576) (hf:QsE a):QcV w (a,l)=some (szI (X7 a) l):=by
 apply QtF
 simp only[Qi6,X7]
 refine zm h0 hB hf.1 fun h=> ?_
 have e:=Qiu Q9 a (fun l i=>qo wl (a,l,(i:Int))) 1048576
  (fun l i h1 r h0 hB h2 hk=>by
    apply yB
    have hs:=QCR a[i].1 a[i].2.1 a[i].2.2.1 a[i].2.2.2.1 a[i].2.2.2.2.1 a[i].2.2.2.2.2.1 a[i].2.2.2.2.2.2.1 a[i].2.2.2.2.2.2.2.1 a[i].2.2.2.2.2.2.2.2.1 a[i].2.2.2.2.2.2.2.2.2.1 a[i].2.2.2.2.2.2.2.2.2.2.1 a[i].2.2.2.2.2.2.2.2.2.2.2.1 a[i].2.2.2.2.2.2.2.2.2.2.2.2.1 a[i].2.2.2.2.2.2.2.2.2.2.2.2.2.1 a[i].2.2.2.2.2.2.2.2.2.2.2.2.2.2.1 a[i].2.2.2.2.2.2.2.2.2.2.2.2.2.2.2.1 a[i].2.2.2.2.2.2.2.2.2.2.2.2.2.2.2.2.1 a[i].2.2.2.2.2.2.2.2.2.2.2.2.2.2.2.2.2.1 a[i].2.2.2.2.2.2.2.2.2.2.2.2.2.2.2.2.2.2 l (by omega) (by omega) (hf.2 _ (QRf h1))
    have hs2:szI (Q9 a[i]) l=l - Q9 a[i]:=VH h2
    simp only[zV,ilt h1,Qk h1,Qg h1,inc h1 (show a.length<=maxLen from hf.1),QQ1,hs,QQ0]
    simp only[show szI (Q9 (a[i].1,a[i].2.1,a[i].2.2.1,a[i].2.2.2.1,a[i].2.2.2.2.1,a[i].2.2.2.2.2.1,a[i].2.2.2.2.2.2.1,a[i].2.2.2.2.2.2.2.1,a[i].2.2.2.2.2.2.2.2.1,a[i].2.2.2.2.2.2.2.2.2.1,a[i].2.2.2.2.2.2.2.2.2.2.1,a[i].2.2.2.2.2.2.2.2.2.2.2.1,a[i].2.2.2.2.2.2.2.2.2.2.2.2.1,a[i].2.2.2.2.2.2.2.2.2.2.2.2.2.1,a[i].2.2.2.2.2.2.2.2.2.2.2.2.2.2.1,a[i].2.2.2.2.2.2.2.2.2.2.2.2.2.2.2.1,a[i].2.2.2.2.2.2.2.2.2.2.2.2.2.2.2.2.1,a[i].2.2.2.2.2.2.2.2.2.2.2.2.2.2.2.2.2.1,a[i].2.2.2.2.2.2.2.2.2.2.2.2.2.2.2.2.2.2)) l=l - Q9 a[i]from hs2,df (show¬l - (Q9 a[i]:Int)<0 by omega),QQ2]
    exact hk)
  (fun l i h1 h0 hB h2=>by
    apply yB
    have hs:=QCR a[i].1 a[i].2.1 a[i].2.2.1 a[i].2.2.2.1 a[i].2.2.2.2.1 a[i].2.2.2.2.2.1 a[i].2.2.2.2.2.2.1 a[i].2.2.2.2.2.2.2.1 a[i].2.2.2.2.2.2.2.2.1 a[i].2.2.2.2.2.2.2.2.2.1 a[i].2.2.2.2.2.2.2.2.2.2.1 a[i].2.2.2.2.2.2.2.2.2.2.2.1 a[i].2.2.2.2.2.2.2.2.2.2.2.2.1 a[i].2.2.2.2.2.2.2.2.2.2.2.2.2.1 a[i].2.2.2.2.2.2.2.2.2.2.2.2.2.2.1 a[i].2.2.2.2.2.2.2.2.2.2.2.2.2.2.2.1 a[i].2.2.2.2.2.2.2.2.2.2.2.2.2.2.2.2.1 a[i].2.2.2.2.2.2.2.2.2.2.2.2.2.2.2.2.2.1 a[i].2.2.2.2.2.2.2.2.2.2.2.2.2.2.2.2.2.2 l (by omega) (by omega) (hf.2 _ (QRf h1))
    have hs2:szI (Q9 a[i]) l= -1:=KU h2
    simp only[zV,ilt h1,Qk h1,Qg h1,QQ1,hs,QQ0]
    simp only[show szI (Q9 (a[i].1,a[i].2.1,a[i].2.2.1,a[i].2.2.2.1,a[i].2.2.2.2.1,a[i].2.2.2.2.2.1,a[i].2.2.2.2.2.2.1,a[i].2.2.2.2.2.2.2.1,a[i].2.2.2.2.2.2.2.2.1,a[i].2.2.2.2.2.2.2.2.2.1,a[i].2.2.2.2.2.2.2.2.2.2.1,a[i].2.2.2.2.2.2.2.2.2.2.2.1,a[i].2.2.2.2.2.2.2.2.2.2.2.2.1,a[i].2.2.2.2.2.2.2.2.2.2.2.2.2.1,a[i].2.2.2.2.2.2.2.2.2.2.2.2.2.2.1,a[i].2.2.2.2.2.2.2.2.2.2.2.2.2.2.2.1,a[i].2.2.2.2.2.2.2.2.2.2.2.2.2.2.2.2.1,a[i].2.2.2.2.2.2.2.2.2.2.2.2.2.2.2.2.2.1,a[i].2.2.2.2.2.2.2.2.2.2.2.2.2.2.2.2.2.2)) l= -1 from hs2,dt (show(-1:Int)<0 by omega),QQ1])
  (fun l=>by
    apply yB
    simp only[zV,Qm,QQ2])
  (l - a.length) (by omega) (by omega)
 have hl:=hf.1
 simp only[maxLen]at hl
 rw[w64 (by omega) (by omega)]
 simp only[QQ6]at e
 rw[e,QQ0,Qev]
def Zw (a:List Int):Nat:=a.length
def Qs8 (a:List Int):Prop:=a.length<=maxLen
theorem QHN (a:List Int) (l:Int) (h0:0<=l) (hB:l<=1048576) (hf:Qs8 a):Qdf w (a,l)=some (szI (Zw a) l):=by
 apply Qu7
 simp only[Qko]
 exact zm (m:=0) h0 hB hf fun h=>by rw[w64 (by omega) (by omega)];exact KR (by omega)
def Xg (x:Qq):Nat:=Zw x.2.1
def QnI (x:Qq):Prop:=Qs8 x.2.1
theorem QHr {x:Qq}(h:xJ Kv x):QnI x:=h.2.1.1
theorem QDc (a0:Int) (a1:List Int) (a2:Bool) (l:Int) (h0:0<=l) (hB:l<=1048576) (hf:QnI (a0,a1,a2)):QeD w (a0,a1,a2,l)=some (szI (Xg (a0,a1,a2)) l):=by
 apply QvQ
 simp only[QnI]at hf
 have e:Xg (a0,a1,a2)=(Zw a1+0):=by simp only[Xg];omega
 rw[e]
 simp only[Qmr]
 refine ZX (by omega) (QHN a1 _ (by omega) (by omega) (hf)) fun _=> ?_
 exact KR (by omega)
def XB (a:List Qq):Nat:=a.length+Qj Xg a
def QsN (a:List Qq):Prop:=a.length<=maxLen/\∀x∈a,QnI x
theorem QGG (a:List Qq) (l:Int) (h0:0<=l) (hB:l<=1048576) (hf:QsN a):Qco w (a,l)=some (szI (XB a) l):=by
 apply Qto
 simp only[QkM,XB]
 refine zm h0 hB hf.1 fun h=> ?_
 have e:=Qiu Xg a (fun l i=>JF wl (a,l,(i:Int))) 1048576
  (fun l i h1 r h0 hB h2 hk=>by
    apply yR
    have hs:=QDc a[i].1 a[i].2.1 a[i].2.2 l (by omega) (by omega) (hf.2 _ (QRf h1))
    have hs2:szI (Xg a[i]) l=l - Xg a[i]:=VH h2
    simp only[yp,ilt h1,Qk h1,Qg h1,inc h1 (show a.length<=maxLen from hf.1),QQ1,hs,QQ0]
    simp only[show szI (Xg (a[i].1,a[i].2.1,a[i].2.2)) l=l - Xg a[i]from hs2,df (show¬l - (Xg a[i]:Int)<0 by omega),QQ2]
    exact hk)
  (fun l i h1 h0 hB h2=>by
    apply yR
    have hs:=QDc a[i].1 a[i].2.1 a[i].2.2 l (by omega) (by omega) (hf.2 _ (QRf h1))
    have hs2:szI (Xg a[i]) l= -1:=KU h2
    simp only[yp,ilt h1,Qk h1,Qg h1,QQ1,hs,QQ0]
    simp only[show szI (Xg (a[i].1,a[i].2.1,a[i].2.2)) l= -1 from hs2,dt (show(-1:Int)<0 by omega),QQ1])
  (fun l=>by
    apply yR
    simp only[yp,Qm,QQ2])
  (l - a.length) (by omega) (by omega)
 have hl:=hf.1
 simp only[maxLen]at hl
 rw[w64 (by omega) (by omega)]
 simp only[QQ6]at e
 rw[e,QQ0,Qev]
def Xu (x:Qr):Nat:=QG (x.2.1,x.2.2)
def Qnn (x:Qr):Prop:=yZ (x.2.1,x.2.2)
theorem QHk {x:Qr}(h:xJ Y6 x):Qnn x:=Qqm ⟨h.2.1,h.2.2.1,trivial⟩
theorem QCQ (a0:Int) (a1:List Qd) (a2:List Qa) (l:Int) (h0:0<=l) (hB:l<=1048576) (hf:Qnn (a0,a1,a2)):Qex w (a0,a1,a2,l)=some (szI (Xu (a0,a1,a2)) l):=by
 apply Qv6
 simp only[Qnn]at hf
 have e:Xu (a0,a1,a2)=(QG (a1,a2)+0):=by simp only[Xu];omega
 rw[e]
 simp only[QlC]
 refine ZX (by omega) (Qo6 a1 a2 _ (by omega) (by omega) (hf)) fun _=> ?_
 exact KR (by omega)
def X5 (a:List Qr):Nat:=a.length+Qj Xu a
def QsQ (a:List Qr):Prop:=a.length<=maxLen/\∀x∈a,Qnn x
theorem QGC (a:List Qr) (l:Int) (h0:0<=l) (hB:l<=1048576) (hf:QsQ a):QaW w (a,l)=some (szI (X5 a) l):=by
 apply Qvq
 simp only[QkI,X5]
 refine zm h0 hB hf.1 fun h=> ?_
 have e:=Qiu Xu a (fun l i=>qv wl (a,l,(i:Int))) 1048576
  (fun l i h1 r h0 hB h2 hk=>by
    apply yq
    have hs:=QCQ a[i].1 a[i].2.1 a[i].2.2 l (by omega) (by omega) (hf.2 _ (QRf h1))
    have hs2:szI (Xu a[i]) l=l - Xu a[i]:=VH h2
    simp only[yj,ilt h1,Qk h1,Qg h1,inc h1 (show a.length<=maxLen from hf.1),QQ1,hs,QQ0]
    simp only[show szI (Xu (a[i].1,a[i].2.1,a[i].2.2)) l=l - Xu a[i]from hs2,df (show¬l - (Xu a[i]:Int)<0 by omega),QQ2]
    exact hk)
  (fun l i h1 h0 hB h2=>by
    apply yq
    have hs:=QCQ a[i].1 a[i].2.1 a[i].2.2 l (by omega) (by omega) (hf.2 _ (QRf h1))
    have hs2:szI (Xu a[i]) l= -1:=KU h2
    simp only[yj,ilt h1,Qk h1,Qg h1,QQ1,hs,QQ0]
    simp only[show szI (Xu (a[i].1,a[i].2.1,a[i].2.2)) l= -1 from hs2,dt (show(-1:Int)<0 by omega),QQ1])
  (fun l=>by
    apply yq
    simp only[yj,Qm,QQ2])
  (l - a.length) (by omega) (by omega)
 have hl:=hf.1
 simp only[maxLen]at hl
 rw[w64 (by omega) (by omega)]
 simp only[QQ6]at e
 rw[e,QQ0,Qev]
def Xp (x:XZ):Nat:=X7 x.1+XB x.2.1+X5 x.2.2
def Qd9 (x:XZ):Prop:=QsE x.1/\QsN x.2.1/\QsQ x.2.2
theorem QNp {x:XZ}(h:xJ Qqn x):Qd9 x:=⟨⟨h.1.1,fun y hy=>QG0 (h.1.2 y hy)⟩,⟨h.2.1.1,fun y hy=>QHr (h.2.1.2 y hy)⟩,⟨h.2.2.1.1,fun y hy=>QHk (h.2.2.1.2 y hy)⟩⟩
theorem QHE (a0:List Qb) (a1:List Qq) (a2:List Qr) (l:Int) (h0:0<=l) (hB:l<=1048576) (hf:Qd9 (a0,a1,a2)):Qbx w (a0,a1,a2,l)=some (szI (Xp (a0,a1,a2)) l):=by
 apply Qu1
 simp only[Qd9]at hf
 have e:Xp (a0,a1,a2)=(X7 a0+(XB a1+(X5 a2+0))):=by simp only[Xp];omega
 rw[e]
 simp only[Qjj]
 refine ZX (by omega) (QHt a0 _ (by omega) (by omega) (hf.1)) fun _=> ?_
 refine ZX (by omega) (QGG a1 _ (by omega) (by omega) (hf.2.1)) fun _=> ?_
 refine ZX (by omega) (QGC a2 _ (by omega) (by omega) (hf.2.2)) fun _=> ?_
 exact KR (by omega)
theorem QGS (a0 a1 a2 a3:Int) (a4:ByteArray) (h:VO (a0,a1,a2,a3,a4)<=4294967296):Qbr w (a0,a1,a2,a3,a4)=some (a0,a1,a2,a3,a4):=by
 apply Qu0
 simp only[VO]at h
 simp only[Qi2]
theorem QJL (a0 a1 a2 a3 a4:Int) (a5:ByteArray) (h:XN (a0,a1,a2,a3,a4,a5)<=4294967296):Qe2 w (a0,a1,a2,a3,a4,a5)=some (a0,a1,a2,a3,a4,a5):=by
 apply Qw1
 simp only[XN]at h
 simp only[QmA,QGS a1 a2 a3 a4 a5 (by omega),QQ0]
theorem QHY (a:List Qd) (h:XX a<=4294967296):QbM w a=some a:=by
 apply Qu6
 simp only[XX]at h
 have e:=V0 a (fun x=>x) (fun i out=>qd wl (a,(i:Int),out)) (fun out=>out)
  (fun i h1 out r ho hk=>by
    apply Qf8
    have hb:=XI XN a i h1
    simp only[QcZ,ilt h1,ho,Qk h1,Qg h1,inc h1 (show a.length<=maxLen by simp[maxLen];omega),QQ1,QRb,QJL a[i].1 a[i].2.1 a[i].2.2.1 a[i].2.2.2.1 a[i].2.2.2.2.1 a[i].2.2.2.2.2 (show XN a[i]<=4294967296 by omega),QQ0]
    exact hk)
  (fun out ho=>by
    apply Qf8
    simp only[QcZ,Qm,QQ2])
  (List.replicate a.length (0,0,0,0,0,ByteArray.empty)) (by simp)
 rw[List.map_id']at e
 have hf:fits a.length 56=true:=Qu (by omega)
 simp only[Qjy,QRb,hf]
 simp
 exact e
theorem QG9 (a0 a1:Int):QcK w (a0,a1)=some (a0,a1):=by
 apply QuR
 simp only[QjG]
theorem QGa (a:List Qa) (h:XS a<=4294967296):vS w a=some a:=by
 apply Qsm
 simp only[XS]at h
 have e:=V0 a (fun x=>x) (fun i out=>Je wl (a,(i:Int),out)) (fun out=>out)
  (fun i h1 out r ho hk=>by
    apply QdM
    simp only[Qaq,ilt h1,ho,Qk h1,Qg h1,inc h1 (show a.length<=maxLen by simp[maxLen];omega),QQ1,QRb,QG9 a[i].1 a[i].2,QQ0]
    exact hk)
  (fun out ho=>by
    apply QdM
    simp only[Qaq,Qm,QQ2])
  (List.replicate a.length (0,0)) (by simp)
 rw[List.map_id']at e
 have hf:fits a.length 16=true:=Qu (by omega)
 simp only[QhS,QRb,hf]
 simp
 exact e
theorem Qs5 (a0:List Qd) (a1:List Qa) (h:QG (a0,a1)<=4294967296):xL w (a0,a1)=some (a0,a1):=by
 apply Qup
 simp only[QG]at h
 simp only[Qja,QHY a0 (by omega),QGa a1 (by omega),QQ0]
theorem QqY (a:List Int) (h:QW a<=4294967296):qO w a=some a:=by
 apply QwE
 simp only[QW]at h
 have e:=V0 a (fun x=>x) (fun i out=>xm wl (a,(i:Int),out)) (fun out=>out)
  (fun i h1 out r ho hk=>by
    apply QhR
    simp only[Qek,ilt h1,ho,Qk h1,Qg h1,inc h1 (show a.length<=maxLen by simp[maxLen];omega),QQ1,QRb]
    exact hk)
  (fun out ho=>by
    apply QhR
    simp only[Qek,Qm,QQ2])
  (List.replicate a.length 0) (by simp)
 rw[List.map_id']at e
 have hf:fits a.length 8=true:=Qu (by omega)
 simp only[QmH,QRb,hf]
 simp
 exact e
theorem QJb (a0:List Int) (a1:Int) (h:ZC (a0,a1)<=4294967296):QeA w (a0,a1)=some (a0,a1):=by
 apply QvO
 simp only[ZC]at h
 simp only[Qlo,QqY a0 (by omega),QQ0]
theorem QFP (a:List Qi) (h:X1 a<=4294967296):vO w a=some a:=by
 apply Qsy
 simp only[X1]at h
 have e:=V0 a (fun x=>x) (fun i out=>VS wl (a,(i:Int),out)) (fun out=>out)
  (fun i h1 out r ho hk=>by
    apply QdB
    have hb:=XI QG a i h1
    simp only[v7,ilt h1,ho,Qk h1,Qg h1,inc h1 (show a.length<=maxLen by simp[maxLen];omega),QQ1,QRb,Qs5 a[i].1 a[i].2 (show QG a[i]<=4294967296 by omega),QQ0]
    exact hk)
  (fun out ho=>by
    apply QdB
    simp only[v7,Qm,QQ2])
  (List.replicate a.length ([],[])) (by simp)
 rw[List.map_id']at e
 have hf:fits a.length 48=true:=Qu (by omega)
 simp only[QhV,QRb,hf]
 simp
 exact e
theorem QJY (a0 a1:Int) (a2:List Qi) (h:Yf (a0,a1,a2)<=4294967296):Qh3 w (a0,a1,a2)=some (a0,a1,a2):=by
 apply Qyo
 simp only[Yf]at h
 simp only[Qnx,QFP a2 (by omega),QQ0]
theorem QHq (a:List (List Int)) (h:Xy a<=4294967296):Qbd w a=some a:=by
 apply Qvn
 simp only[Xy]at h
 have e:=V0 a (fun x=>x) (fun i out=>J3 wl (a,(i:Int),out)) (fun out=>out)
  (fun i h1 out r ho hk=>by
    apply Qfn
    have hb:=XI QW a i h1
    simp only[Qby,ilt h1,ho,Qk h1,Qg h1,inc h1 (show a.length<=maxLen by simp[maxLen];omega),QQ1,QRb,QqY a[i] (show QW a[i]<=4294967296 by omega),QQ0]
    exact hk)
  (fun out ho=>by
    apply Qfn
    simp only[Qby,Qm,QQ2])
  (List.replicate a.length []) (by simp)
 rw[List.map_id']at e
 have hf:fits a.length 24=true:=Qu (by omega)
 simp only[Qkr,QRb,hf]
 simp
 exact e
theorem QJz (a0 a1:Int) (a2:Bool) (a3:Int):QeL w (a0,a1,a2,a3)=some (a0,a1,a2,a3):=by
 apply Qwq
 simp only[Qmj]
theorem QHW (a:List Qz) (h:Ya a<=4294967296):Qbj w a=some a:=by
 apply Qva
 simp only[Ya]at h
 have e:=V0 a (fun x=>x) (fun i out=>qm wl (a,(i:Int),out)) (fun out=>out)
  (fun i h1 out r ho hk=>by
    apply Qf4
    simp only[Qa3,ilt h1,ho,Qk h1,Qg h1,inc h1 (show a.length<=maxLen by simp[maxLen];omega),QQ1,QRb,QJz a[i].1 a[i].2.1 a[i].2.2.1 a[i].2.2.2,QQ0]
    exact hk)
  (fun out ho=>by
    apply Qf4
    simp only[Qa3,Qm,QQ2])
  (List.replicate a.length (0,0,false,0)) (by simp)
 rw[List.map_id']at e
 have hf:fits a.length 32=true:=Qu (by omega)
 simp only[Qkp,QRb,hf]
 simp
 exact e
theorem QJr (a0 a1 a2:Int):QeO w (a0,a1,a2)=some (a0,a1,a2):=by
 apply QwN
 simp only[Qlr]
theorem QH6 (a:List QO) (h:Z9 a<=4294967296):QaV w a=some a:=by
 apply QtC
 simp only[Z9]at h
 have e:=V0 a (fun x=>x) (fun i out=>JK wl (a,(i:Int),out)) (fun out=>out)
  (fun i h1 out r ho hk=>by
    apply QgB
    simp only[QbR,ilt h1,ho,Qk h1,Qg h1,inc h1 (show a.length<=maxLen by simp[maxLen];omega),QQ1,QRb,QJr a[i].1 a[i].2.1 a[i].2.2,QQ0]
    exact hk)
  (fun out ho=>by
    apply QgB
    simp only[QbR,Qm,QQ2])
  (List.replicate a.length (0,0,0)) (by simp)
 rw[List.map_id']at e
 have hf:fits a.length 24=true:=Qu (by omega)
 simp only[QkB,QRb,hf]
 simp
 exact e
theorem QJe (a0 a1:Int) (a2:List Qd) (a3:List Qa) (a4:List Int) (a5 a6 a7:Int) (a8:List Qi) (a9 a10:List Int) (a11:List (List Int)) (a12 a13:Int) (a14:List Qz) (a15 a16 a17:Int) (a18:List QO) (h:Q9 (a0,a1,a2,a3,a4,a5,a6,a7,a8,a9,a10,a11,a12,a13,a14,a15,a16,a17,a18)<=4294967296):QeI w (a0,a1,a2,a3,a4,a5,a6,a7,a8,a9,a10,a11,a12,a13,a14,a15,a16,a17,a18)=some (a0,a1,a2,a3,a4,a5,a6,a7,a8,a9,a10,a11,a12,a13,a14,a15,a16,a17,a18):=by
 apply QwH
 simp only[Q9]at h
 simp only[Ql5,Qs5 a2 a3 (by omega),QJb a4 a5 (by omega),QJY a6 a7 a8 (by omega),QqY a9 (by omega),QqY a10 (by omega),QHq a11 (by omega),QHW a14 (by omega),QH6 a18 (by omega),QQ0]
theorem QG5 (a:List Qb) (h:X7 a<=4294967296):Qdu w a=some a:=by
 apply QuA
 simp only[X7]at h
 have e:=V0 a (fun x=>x) (fun i out=>J4 wl (a,(i:Int),out)) (fun out=>out)
  (fun i h1 out r ho hk=>by
    apply Qfo
    have hb:=XI Q9 a i h1
    simp only[Qcz,ilt h1,ho,Qk h1,Qg h1,inc h1 (show a.length<=maxLen by simp[maxLen];omega),QQ1,QRb,QJe a[i].1 a[i].2.1 a[i].2.2.1 a[i].2.2.2.1 a[i].2.2.2.2.1 a[i].2.2.2.2.2.1 a[i].2.2.2.2.2.2.1 a[i].2.2.2.2.2.2.2.1 a[i].2.2.2.2.2.2.2.2.1 a[i].2.2.2.2.2.2.2.2.2.1 a[i].2.2.2.2.2.2.2.2.2.2.1 a[i].2.2.2.2.2.2.2.2.2.2.2.1 a[i].2.2.2.2.2.2.2.2.2.2.2.2.1 a[i].2.2.2.2.2.2.2.2.2.2.2.2.2.1 a[i].2.2.2.2.2.2.2.2.2.2.2.2.2.2.1 a[i].2.2.2.2.2.2.2.2.2.2.2.2.2.2.2.1 a[i].2.2.2.2.2.2.2.2.2.2.2.2.2.2.2.2.1 a[i].2.2.2.2.2.2.2.2.2.2.2.2.2.2.2.2.2.1 a[i].2.2.2.2.2.2.2.2.2.2.2.2.2.2.2.2.2.2 (show Q9 a[i]<=4294967296 by omega),QQ0]
    exact hk)
  (fun out ho=>by
    apply Qfo
    simp only[Qcz,Qm,QQ2])
  (List.replicate a.length (0,0,[],[],[],0,0,0,[],[],[],[],0,0,[],0,0,0,[])) (by simp)
 rw[List.map_id']at e
 have hf:fits a.length 296=true:=Qu (by omega)
 simp only[Qi0,QRb,hf]
 simp
 exact e
theorem QGO (a:List Int) (h:Zw a<=4294967296):QbD w a=some a:=by
 apply Qtf
 simp only[Zw]at h
 have e:=V0 a (fun x=>x) (fun i out=>qn wl (a,(i:Int),out)) (fun out=>out)
  (fun i h1 out r ho hk=>by
    apply Qgo
    simp only[Qc9,ilt h1,ho,Qk h1,Qg h1,inc h1 (show a.length<=maxLen by simp[maxLen];omega),QQ1,QRb]
    exact hk)
  (fun out ho=>by
    apply Qgo
    simp only[Qc9,Qm,QQ2])
  (List.replicate a.length 0) (by simp)
 rw[List.map_id']at e
 have hf:fits a.length 1=true:=Qu (by omega)
 simp only[QjC,QRb,hf]
 simp
 exact e
theorem QJf (a0:Int) (a1:List Int) (a2:Bool) (h:Xg (a0,a1,a2)<=4294967296):Qey w (a0,a1,a2)=some (a0,a1,a2):=by
 apply QwY
 simp only[Xg]at h
 simp only[Qmc,QGO a1 (by omega),QQ0]
theorem QHf (a:List Qq) (h:XB a<=4294967296):Qb4 w a=some a:=by
 apply Qvm
 simp only[XB]at h
 have e:=V0 a (fun x=>x) (fun i out=>JR wl (a,(i:Int),out)) (fun out=>out)
  (fun i h1 out r ho hk=>by
    apply Qfq
    have hb:=XI Xg a i h1
    simp only[QcF,ilt h1,ho,Qk h1,Qg h1,inc h1 (show a.length<=maxLen by simp[maxLen];omega),QQ1,QRb,QJf a[i].1 a[i].2.1 a[i].2.2 (show Xg a[i]<=4294967296 by omega),QQ0]
    exact hk)
  (fun out ho=>by
    apply Qfq
    simp only[QcF,Qm,QQ2])
  (List.replicate a.length (0,[],false)) (by simp)
 rw[List.map_id']at e
 have hf:fits a.length 40=true:=Qu (by omega)
 simp only[Qjl,QRb,hf]
 simp
 exact e
theorem QJJ (a0:Int) (a1:List Qd) (a2:List Qa) (h:Xu (a0,a1,a2)<=4294967296):Qff w (a0,a1,a2)=some (a0,a1,a2):=by
 apply Qw5
 simp only[Xu]at h
 simp only[QlH,Qs5 a1 a2 (by omega),QQ0]
theorem QGs (a:List Qr) (h:X5 a<=4294967296):QcR w a=some a:=by
 apply QtZ
 simp only[X5]at h
 have e:=V0 a (fun x=>x) (fun i out=>JV wl (a,(i:Int),out)) (fun out=>out)
  (fun i h1 out r ho hk=>by
    apply QgQ
    have hb:=XI Xu a i h1
    simp only[QcG,ilt h1,ho,Qk h1,Qg h1,inc h1 (show a.length<=maxLen by simp[maxLen];omega),QQ1,QRb,QJJ a[i].1 a[i].2.1 a[i].2.2 (show Xu a[i]<=4294967296 by omega),QQ0]
    exact hk)
  (fun out ho=>by
    apply QgQ
    simp only[QcG,Qm,QQ2])
  (List.replicate a.length (0,[],[])) (by simp)
 rw[List.map_id']at e
 have hf:fits a.length 56=true:=Qu (by omega)
 simp only[QiO,QRb,hf]
 simp
 exact e
theorem QHR (a0:List Qb) (a1:List Qq) (a2:List Qr) (h:Xp (a0,a1,a2)<=4294967296):V3 w (a0,a1,a2)=some (a0,a1,a2):=by
 apply QuZ
 simp only[Xp]at h
 simp only[Qjm,QG5 a0 (by omega),QHf a1 (by omega),QGs a2 (by omega),QQ0]
theorem QGY (a0 a1 a2 a3:Int) (a4:ByteArray) (h:VO (a0,a1,a2,a3,a4)<=4294967296):QcI w (a0,a1,a2,a3,a4,a0,a1,a2,a3,a4)=some true:=by
 apply Qvx
 simp only[VO]at h
 simp only[QiQ,decide_true,QQ3,QQ2,Q3,beq_self_eq_true,QQ0]
theorem QJx (a0 a1 a2 a3 a4:Int) (a5:ByteArray) (h:XN (a0,a1,a2,a3,a4,a5)<=4294967296):QeF w (a0,a1,a2,a3,a4,a5,a0,a1,a2,a3,a4,a5)=some true:=by
 apply QwG
 simp only[XN]at h
 simp only[QlX,QGY a1 a2 a3 a4 a5 (by omega),decide_true,QQ3,QQ2,Q3,beq_self_eq_true,QQ0]
theorem QGJ (a:List Qd) (h:XX a<=4294967296):Qdo w (a,a)=some true:=by
 apply QtK
 simp only[XX]at h
 have e:=V6 a.length (fun i=>JO wl (a,a,(i:Int))) (.inr ())
  (fun i h1 r hk=>by
    apply QfG
    have hb:=XI XN a i h1
    simp only[QcN,ilt h1,Qk h1,Qg h1,inc h1 (show a.length<=maxLen by simp[maxLen];omega),QQ1,decide_true,QQ3,QQ2,Q3,beq_self_eq_true,QJx a[i].1 a[i].2.1 a[i].2.2.1 a[i].2.2.2.1 a[i].2.2.2.2.1 a[i].2.2.2.2.2 (show XN a[i]<=4294967296 by omega),QQ0]
    exact hk)
  (by
    apply QfG
    simp only[QcN,Qm,QQ2])
 simp only[QQ6]at e
 simp only[Qj9,decide_true,QQ3,QQ2,e,QQ0,Qp,QY0]
theorem QGB (a0 a1:Int):QcS w (a0,a1,a0,a1)=some true:=by
 apply QtV
 simp only[Qjz,decide_true,QQ3,QQ2,Q3,beq_self_eq_true,QQ0]
theorem QFU (a:List Qa) (h:XS a<=4294967296):vM w (a,a)=some true:=by
 apply QsS
 simp only[XS]at h
 have e:=V6 a.length (fun i=>Ja wl (a,a,(i:Int))) (.inr ())
  (fun i h1 r hk=>by
    apply QdK
    simp only[Qam,ilt h1,Qk h1,Qg h1,inc h1 (show a.length<=maxLen by simp[maxLen];omega),QQ1,decide_true,QQ3,QQ2,Q3,beq_self_eq_true,QGB a[i].1 a[i].2,QQ0]
    exact hk)
  (by
    apply QdK
    simp only[Qam,Qm,QQ2])
 simp only[QQ6]at e
 simp only[QhY,decide_true,QQ3,QQ2,e,QQ0,Qp,QY0]
theorem Qs7 (a0:List Qd) (a1:List Qa) (h:QG (a0,a1)<=4294967296):xN w (a0,a1,a0,a1)=some true:=by
 apply Qud
 simp only[QG]at h
 simp only[Qji,QGJ a0 (by omega),QFU a1 (by omega),decide_true,QQ3,QQ2,Q3,beq_self_eq_true,QQ0]
theorem QqW (a:List Int) (h:QW a<=4294967296):qy w (a,a)=some true:=by
 apply QwC
 simp only[QW]at h
 have e:=V6 a.length (fun i=>xe wl (a,a,(i:Int))) (.inr ())
  (fun i h1 r hk=>by
    apply QhT
    simp only[Qeg,ilt h1,Qk h1,Qg h1,inc h1 (show a.length<=maxLen by simp[maxLen];omega),QQ1,decide_true,QQ3,QQ2,Q3,beq_self_eq_true]
    exact hk)
  (by
    apply QhT
    simp only[Qeg,Qm,QQ2])
 simp only[QQ6]at e
 simp only[Qk4,decide_true,QQ3,QQ2,e,QQ0,Qp,QY0]
theorem QJF (a0:List Int) (a1:Int) (h:ZC (a0,a1)<=4294967296):QeE w (a0,a1,a0,a1)=some true:=by
 apply Qwy
 simp only[ZC]at h
 simp only[Ql1,QqW a0 (by omega),decide_true,QQ3,QQ2,Q3,beq_self_eq_true,QQ0]
theorem QFT (a:List Qi) (h:X1 a<=4294967296):vT w (a,a)=some true:=by
 apply QsH
 simp only[X1]at h
 have e:=V6 a.length (fun i=>VM wl (a,a,(i:Int))) (.inr ())
  (fun i h1 r hk=>by
    apply QdP
    have hb:=XI QG a i h1
    simp only[Qap,ilt h1,Qk h1,Qg h1,inc h1 (show a.length<=maxLen by simp[maxLen];omega),QQ1,decide_true,QQ3,QQ2,Q3,beq_self_eq_true,Qs7 a[i].1 a[i].2 (show QG a[i]<=4294967296 by omega),QQ0]
    exact hk)
  (by
    apply QdP
    simp only[Qap,Qm,QQ2])
 simp only[QQ6]at e
 simp only[QhD,decide_true,QQ3,QQ2,e,QQ0,Qp,QY0]
theorem QJ4 (a0 a1:Int) (a2:List Qi) (h:Yf (a0,a1,a2)<=4294967296):Qic w (a0,a1,a2,a0,a1,a2)=some true:=by
 apply Qyx
 simp only[Yf]at h
 simp only[Qnw,QFT a2 (by omega),decide_true,QQ3,QQ2,Q3,beq_self_eq_true,QQ0]
theorem QGR (a:List (List Int)) (h:Xy a<=4294967296):Qdx w (a,a)=some true:=by
 apply Qvt
 simp only[Xy]at h
 have e:=V6 a.length (fun i=>qc wl (a,a,(i:Int))) (.inr ())
  (fun i h1 r hk=>by
    apply Qfs
    have hb:=XI QW a i h1
    simp only[QaZ,ilt h1,Qk h1,Qg h1,inc h1 (show a.length<=maxLen by simp[maxLen];omega),QQ1,decide_true,QQ3,QQ2,Q3,beq_self_eq_true,QqW a[i] (show QW a[i]<=4294967296 by omega),QQ0]
    exact hk)
  (by
    apply Qfs
    simp only[QaZ,Qm,QQ2])
 simp only[QQ6]at e
 simp only[Qkj,decide_true,QQ3,QQ2,e,QQ0,Qp,QY0]
theorem QI0 (a0 a1:Int) (a2:Bool) (a3:Int):QeC w (a0,a1,a2,a3,a0,a1,a2,a3)=some true:=by
 apply QwD
 simp only[Ql7,decide_true,QQ3,QQ2,Q3,beq_self_eq_true,QQ0]
theorem QGH (a:List Qz) (h:Ya a<=4294967296):Qck w (a,a)=some true:=by
 apply Quj
 simp only[Ya]at h
 have e:=V6 a.length (fun i=>ql wl (a,a,(i:Int))) (.inr ())
  (fun i h1 r hk=>by
    apply Qf0
    simp only[Qbz,ilt h1,Qk h1,Qg h1,inc h1 (show a.length<=maxLen by simp[maxLen];omega),QQ1,decide_true,QQ3,QQ2,Q3,beq_self_eq_true,QI0 a[i].1 a[i].2.1 a[i].2.2.1 a[i].2.2.2,QQ0]
    exact hk)
  (by
    apply Qf0
    simp only[Qbz,Qm,QQ2])
 simp only[QQ6]at e
 simp only[QiI,decide_true,QQ3,QQ2,e,QQ0,Qp,QY0]
theorem QJd (a0 a1 a2:Int):Qe8 w (a0,a1,a2,a0,a1,a2)=some true:=by
 apply QwK
 simp only[Qk7,decide_true,QQ3,QQ2,Q3,beq_self_eq_true,QQ0]
theorem QHC (a:List QO) (h:Z9 a<=4294967296):Qda w (a,a)=some true:=by
 apply QuC
 simp only[Z9]at h
 have e:=V6 a.length (fun i=>J6 wl (a,a,(i:Int))) (.inr ())
  (fun i h1 r hk=>by
    apply Qf5
    simp only[QcM,ilt h1,Qk h1,Qg h1,inc h1 (show a.length<=maxLen by simp[maxLen];omega),QQ1,decide_true,QQ3,QQ2,Q3,beq_self_eq_true,QJd a[i].1 a[i].2.1 a[i].2.2,QQ0]
    exact hk)
  (by
    apply Qf5
    simp only[QcM,Qm,QQ2])
 simp only[QQ6]at e
 simp only[Qjr,decide_true,QQ3,QQ2,e,QQ0,Qp,QY0]
theorem QJP (a0 a1:Int) (a2:List Qd) (a3:List Qa) (a4:List Int) (a5 a6 a7:Int) (a8:List Qi) (a9 a10:List Int) (a11:List (List Int)) (a12 a13:Int) (a14:List Qz) (a15 a16 a17:Int) (a18:List QO) (h:Q9 (a0,a1,a2,a3,a4,a5,a6,a7,a8,a9,a10,a11,a12,a13,a14,a15,a16,a17,a18)<=4294967296):Qfb w (a0,a1,a2,a3,a4,a5,a6,a7,a8,a9,a10,a11,a12,a13,a14,a15,a16,a17,a18,a0,a1,a2,a3,a4,a5,a6,a7,a8,a9,a10,a11,a12,a13,a14,a15,a16,a17,a18)=some true:=by
 apply QvX
 simp only[Q9]at h
 simp only[Qms,Qs7 a2 a3 (by omega),QJF a4 a5 (by omega),QJ4 a6 a7 a8 (by omega),QqW a9 (by omega),QqW a10 (by omega),QGR a11 (by omega),QGH a14 (by omega),QHC a18 (by omega),decide_true,QQ3,QQ2,Q3,beq_self_eq_true,QQ0]
theorem QHU (a:List Qb) (h:X7 a<=4294967296):Qbn w (a,a)=some true:=by
 apply QtO
 simp only[X7]at h
 have e:=V6 a.length (fun i=>J8 wl (a,a,(i:Int))) (.inr ())
  (fun i h1 r hk=>by
    apply QfD
    have hb:=XI Q9 a i h1
    simp only[Qa4,ilt h1,Qk h1,Qg h1,inc h1 (show a.length<=maxLen by simp[maxLen];omega),QQ1,decide_true,QQ3,QQ2,Q3,beq_self_eq_true,QJP a[i].1 a[i].2.1 a[i].2.2.1 a[i].2.2.2.1 a[i].2.2.2.2.1 a[i].2.2.2.2.2.1 a[i].2.2.2.2.2.2.1 a[i].2.2.2.2.2.2.2.1 a[i].2.2.2.2.2.2.2.2.1 a[i].2.2.2.2.2.2.2.2.2.1 a[i].2.2.2.2.2.2.2.2.2.2.1 a[i].2.2.2.2.2.2.2.2.2.2.2.1 a[i].2.2.2.2.2.2.2.2.2.2.2.2.1 a[i].2.2.2.2.2.2.2.2.2.2.2.2.2.1 a[i].2.2.2.2.2.2.2.2.2.2.2.2.2.2.1 a[i].2.2.2.2.2.2.2.2.2.2.2.2.2.2.2.1 a[i].2.2.2.2.2.2.2.2.2.2.2.2.2.2.2.2.1 a[i].2.2.2.2.2.2.2.2.2.2.2.2.2.2.2.2.2.1 a[i].2.2.2.2.2.2.2.2.2.2.2.2.2.2.2.2.2.2 (show Q9 a[i]<=4294967296 by omega),QQ0]
    exact hk)
  (by
    apply QfD
    simp only[Qa4,Qm,QQ2])
 simp only[QQ6]at e
 simp only[Qks,decide_true,QQ3,QQ2,e,QQ0,Qp,QY0]
theorem QHQ (a:List Int) (h:Zw a<=4294967296):QcA w (a,a)=some true:=by
 apply Qve
 simp only[Zw]at h
 have e:=V6 a.length (fun i=>qu wl (a,a,(i:Int))) (.inr ())
  (fun i h1 r hk=>by
    apply Qgl
    simp only[Qdm,ilt h1,Qk h1,Qg h1,inc h1 (show a.length<=maxLen by simp[maxLen];omega),QQ1,decide_true,QQ3,QQ2,Q3,beq_self_eq_true]
    exact hk)
  (by
    apply Qgl
    simp only[Qdm,Qm,QQ2])
 simp only[QQ6]at e
 simp only[Qkg,decide_true,QQ3,QQ2,e,QQ0,Qp,QY0]
theorem QJD (a0:Int) (a1:List Int) (a2:Bool) (h:Xg (a0,a1,a2)<=4294967296):Qe4 w (a0,a1,a2,a0,a1,a2)=some true:=by
 apply QwJ
 simp only[Xg]at h
 simp only[QmI,QHQ a1 (by omega),decide_true,QQ3,QQ2,Q3,beq_self_eq_true,QQ0]
theorem QGK (a:List Qq) (h:XB a<=4294967296):QbY w (a,a)=some true:=by
 apply Qts
 simp only[XB]at h
 have e:=V6 a.length (fun i=>Jy wl (a,a,(i:Int))) (.inr ())
  (fun i h1 r hk=>by
    apply Qgc
    have hb:=XI Xg a i h1
    simp only[Qdb,ilt h1,Qk h1,Qg h1,inc h1 (show a.length<=maxLen by simp[maxLen];omega),QQ1,decide_true,QQ3,QQ2,Q3,beq_self_eq_true,QJD a[i].1 a[i].2.1 a[i].2.2 (show Xg a[i]<=4294967296 by omega),QQ0]
    exact hk)
  (by
    apply Qgc
    simp only[Qdb,Qm,QQ2])
 simp only[QQ6]at e
 simp only[QkA,decide_true,QQ3,QQ2,e,QQ0,Qp,QY0]
theorem QJj (a0:Int) (a1:List Qd) (a2:List Qa) (h:Xu (a0,a1,a2)<=4294967296):QeN w (a0,a1,a2,a0,a1,a2)=some true:=by
 apply QwA
 simp only[Xu]at h
 simp only[QlL,Qs7 a1 a2 (by omega),decide_true,QQ3,QQ2,Q3,beq_self_eq_true,QQ0]
theorem QGF (a:List Qr) (h:X5 a<=4294967296):QcW w (a,a)=some true:=by
 apply Qvb
 simp only[X5]at h
 have e:=V6 a.length (fun i=>JZ wl (a,a,(i:Int))) (.inr ())
  (fun i h1 r hk=>by
    apply Qfm
    have hb:=XI Xu a i h1
    simp only[QbE,ilt h1,Qk h1,Qg h1,inc h1 (show a.length<=maxLen by simp[maxLen];omega),QQ1,decide_true,QQ3,QQ2,Q3,beq_self_eq_true,QJj a[i].1 a[i].2.1 a[i].2.2 (show Xu a[i]<=4294967296 by omega),QQ0]
    exact hk)
  (by
    apply Qfm
    simp only[QbE,Qm,QQ2])
 simp only[QQ6]at e
 simp only[Qj5,decide_true,QQ3,QQ2,e,QQ0,Qp,QY0]
theorem Qzy (a0:List Qb) (a1:List Qq) (a2:List Qr) (h:Xp (a0,a1,a2)<=4294967296):KF w (a0,a1,a2,a0,a1,a2)=some true:=by
 apply Qt6
 simp only[Xp]at h
 simp only[QkR,QHU a0 (by omega),QGK a1 (by omega),QGF a2 (by omega),decide_true,QQ3,QQ2,Q3,beq_self_eq_true,QQ0]
theorem Qyk:∀(n:Nat) (k:Int) (out:ByteArray),0<=k->k<=9223372036854775807->k<10^n->ByteArray.size out+n<=100000->∃r,VT wl (k,out)=some r/\ByteArray.size r<=100000:=by
 intro n
 induction n with
 |zero=>
  intro k out h0 hm h1 h2
  have:k=0:=by omega
  subst this
  refine⟨out, ?_,by omega⟩
  apply zU
  simp only[za,df (show¬(0:Int)<0 by omega),QQ2]
 |succ n ih=>
  intro k out h0 hm h1 h2
  by_cases hk:0<k
  ·have hd:=Int.tdiv_eq_ediv_of_nonneg (b:=10) h0
   obtain⟨r,hr,hs⟩:=ih (Int.tdiv k 10) (Km [IntKind.wrap .u8 (wR (48+Int.tmod k 10))]++out) (by omega) (by omega) (by rw[Int.pow_succ]at h1;omega) (by rw[ByteArray.size_append,Qqk];simp;omega)
   refine⟨r, ?_,hs⟩
   apply zU
   simp only[za,dt hk,QQ1,dt (show(10:Int)≠0 by omega),Qqk,Qu (show(List.length [IntKind.wrap .u8 (wR (48+Int.tmod k 10))]+ByteArray.size out)*1<=140737488351232 by simp;omega)]
   rw[w64 (n:=Int.tdiv k 10) (by omega) (by omega)]
   exact hr
  ·have:k=0:=by omega
   subst this
   refine⟨out, ?_,by omega⟩
   apply zU
   simp only[za,df (show¬(0:Int)<0 by omega),QQ2]
noncomputable def Qy0 (k:Int):ByteArray:=(K7 w k).getD ByteArray.empty
theorem Qse (k:Int) (h0:0<k) (hm:k<=9223372036854775807):K7 w k=some (Qy0 k):=by
 obtain⟨r,hr,hs⟩:=Qyk 30 k (⟨#[]⟩:ByteArray) (by omega) hm (by omega) (by show 0+30<=100000;omega)
 have:K7 w k=some ((⟨#[109]⟩:ByteArray)++r):=by
  apply Qtc
  have h1:ByteArray.size (⟨#[109]⟩:ByteArray)=1:=rfl
  simp only[Qhe,df (show¬k<=0 by omega),QQ2,hr,QQ0,Qu (show(ByteArray.size (⟨#[109]⟩:ByteArray)+ByteArray.size r)*1<=140737488351232 by omega),QQ1]
 rw[Qy0,this];rfl
noncomputable def YG (x:Qd) (n:Int):Qd:=(n,(n+1),((n+1)+1),(((n+1)+1)+1),((((n+1)+1)+1)+1),Qy0 (((((n+1)+1)+1)+1)+1))
def Qy (x:Qd):Nat:=6
theorem QCe (x:Qd):Qy x<=64*(XN x+1):=by
 simp only[Qy,VO,XN];omega
theorem QoX (a:List Qd):Qj Qy a<=64*XX a:=by
 have h:=QdT Qy XN (fun x=>QCe x) a
 simp only[XX];omega
theorem QoN (a:List Qd) (k:Int) (hk:0<k) (hs:k+((Qj Qy a:Nat):Int)<=1152921504606846976) (h:XX a<=4294967296):VA w (a,k)=some (k+((Qj Qy a:Nat):Int),Qw YG Qy a k):=by
 apply QrG
 simp only[XX]at h
 have e:=Ky YG Qy a (fun k i ys=>YP wl (k,(i:Int),ys)) (fun k ys=>(k,ys)) 1152921504606846976
  (fun k i ys h1 r hy hm h0 hB hk=>by
    apply Qa8
    have hb:=Kn XN hm
    simp only[Qy]at hB
    have hw0:wR (k+1)=k+1:=w64 (by omega) (by omega)
    have hw1:wR ((k+1)+1)=(k+1)+1:=w64 (by omega) (by omega)
    have hw2:wR (((k+1)+1)+1)=((k+1)+1)+1:=w64 (by omega) (by omega)
    have hw3:wR ((((k+1)+1)+1)+1)=(((k+1)+1)+1)+1:=w64 (by omega) (by omega)
    have hw4:wR (((((k+1)+1)+1)+1)+1)=((((k+1)+1)+1)+1)+1:=w64 (by omega) (by omega)
    have hw5:wR ((((((k+1)+1)+1)+1)+1)+1)=(((((k+1)+1)+1)+1)+1)+1:=w64 (by omega) (by omega)
    have ht5:=Qse (((((k+1)+1)+1)+1)+1) (by omega) (by omega)
    simp only[jU,ilt h1,Qk h1,Qg h1,Yg h1,QY6,QY10,inc h1 (show ys.length<=maxLen by simp[maxLen];omega),QQ1,QRb,QQ0,dt (show(3:Int)≠0 by omega),hw0,hw1,hw2,hw3,hw4,hw5,ht5]
    have hk:YP wl (k+((6:Nat):Int),((i+1:Nat):Int),ys.set i (k,(k+1),((k+1)+1),(((k+1)+1)+1),((((k+1)+1)+1)+1),Qy0 (((((k+1)+1)+1)+1)+1)))=some r:=hk
    rw[show k+((6:Nat):Int)=((((((k+1)+1)+1)+1)+1)+1) by omega]at hk
    exact hk)
  (fun k ys hy=>by
    apply Qa8
    simp only[jU,<-hy,Qm,QQ2])
  k hk hs
 simp only[QQ6]at e
 simp only[Qf6,e,QQ0]
theorem Qo9 (a:List Qd) (k:Int) (hk:0<k) (hs:k+((Qj Qy a:Nat):Int)<=1152921504606846976) (h:XX a<=4294967296):VF w (Qw YG Qy a k,k)=some (k+((Qj Qy a:Nat):Int)):=by
 apply Qrm
 simp only[XX]at h
 have hl:(Qw YG Qy a k).length=a.length:=X3 _ _ a k
 have e:=Kw YG Qy a k (fun l i=>YW wl ((Qw YG Qy a k),l,(i:Int))) 1152921504606846976
  (fun k1 i h1 x r hx hm h0 hB hk=>by
    apply Qds
    have hb:=Kn XN hx
    simp only[Qy]at hB
    simp only[YG]at hm
    have hw0:wR (k1+1)=k1+1:=w64 (by omega) (by omega)
    have hw1:wR ((k1+1)+1)=(k1+1)+1:=w64 (by omega) (by omega)
    have hw2:wR (((k1+1)+1)+1)=((k1+1)+1)+1:=w64 (by omega) (by omega)
    have hw3:wR ((((k1+1)+1)+1)+1)=(((k1+1)+1)+1)+1:=w64 (by omega) (by omega)
    have hw4:wR (((((k1+1)+1)+1)+1)+1)=((((k1+1)+1)+1)+1)+1:=w64 (by omega) (by omega)
    have hw5:wR ((((((k1+1)+1)+1)+1)+1)+1)=(((((k1+1)+1)+1)+1)+1)+1:=w64 (by omega) (by omega)
    have ht5:=Qse (((((k1+1)+1)+1)+1)+1) (by omega) (by omega)
    simp only[jX,ilt h1,Qk h1,Qg h1,hm,inc h1 (show(Qw YG Qy a k).length<=maxLen by rw[hl];simp[maxLen];omega),QQ1,QQ2,decide_true,QQ3,Q3,beq_self_eq_true,QQ0,dt (show(3:Int)≠0 by omega),hw0,hw1,hw2,hw3,hw4,hw5,ht5]
    have hk:YW wl ((Qw YG Qy a k),k1+((6:Nat):Int),((i+1:Nat):Int))=some r:=hk
    rw[show k1+((6:Nat):Int)=((((((k1+1)+1)+1)+1)+1)+1) by omega]at hk
    exact hk)
  (fun l=>by
    apply Qds
    simp only[jX,hl,Qm,QQ2])
  hk hs
 simp only[QQ6]at e
 simp only[QgR,e,QQ0,Qp,QY0]
noncomputable def ZP (x:Qa) (n:Int):Qa:=(n,(n+1))
def QC (x:Qa):Nat:=2
theorem QAX (x:Qa):QC x<=64:=by
 simp only[QC];omega
theorem Qna (a:List Qa):Qj QC a<=64*XS a:=by
 have h:=Qfu QC (fun x=>QAX x) a
 simp only[XS];omega
theorem QmO (a:List Qa) (k:Int) (hk:0<k) (hs:k+((Qj QC a:Nat):Int)<=1152921504606846976) (h:XS a<=4294967296):KJ w (a,k)=some (k+((Qj QC a:Nat):Int),Qw ZP QC a k):=by
 apply Qql
 simp only[XS]at h
 have e:=Ky ZP QC a (fun k i ys=>Yl wl (k,(i:Int),ys)) (fun k ys=>(k,ys)) 1152921504606846976
  (fun k i ys h1 r hy hm h0 hB hk=>by
    apply Qau
    simp only[QC]at hB
    have hw0:wR (k+1)=k+1:=w64 (by omega) (by omega)
    have hw1:wR ((k+1)+1)=(k+1)+1:=w64 (by omega) (by omega)
    simp only[yT,ilt h1,Qk h1,Qg h1,Yg h1,QY6,QY10,inc h1 (show ys.length<=maxLen by simp[maxLen];omega),QQ1,QRb,QQ0,dt (show(3:Int)≠0 by omega),hw0,hw1]
    have hk:Yl wl (k+((2:Nat):Int),((i+1:Nat):Int),ys.set i (k,(k+1)))=some r:=hk
    rw[show k+((2:Nat):Int)=((k+1)+1) by omega]at hk
    exact hk)
  (fun k ys hy=>by
    apply Qau
    simp only[yT,<-hy,Qm,QQ2])
  k hk hs
 simp only[QQ6]at e
 simp only[QdA,e,QQ0]
theorem QmX (a:List Qa) (k:Int) (hk:0<k) (hs:k+((Qj QC a:Nat):Int)<=1152921504606846976) (h:XS a<=4294967296):KM w (Qw ZP QC a k,k)=some (k+((Qj QC a:Nat):Int)):=by
 apply Qqc
 simp only[XS]at h
 have hl:(Qw ZP QC a k).length=a.length:=X3 _ _ a k
 have e:=Kw ZP QC a k (fun l i=>Yk wl ((Qw ZP QC a k),l,(i:Int))) 1152921504606846976
  (fun k1 i h1 x r hx hm h0 hB hk=>by
    apply QaA
    simp only[QC]at hB
    simp only[ZP]at hm
    have hw0:wR (k1+1)=k1+1:=w64 (by omega) (by omega)
    have hw1:wR ((k1+1)+1)=(k1+1)+1:=w64 (by omega) (by omega)
    simp only[yI,ilt h1,Qk h1,Qg h1,hm,inc h1 (show(Qw ZP QC a k).length<=maxLen by rw[hl];simp[maxLen];omega),QQ1,QQ2,decide_true,QQ3,Q3,beq_self_eq_true,QQ0,dt (show(3:Int)≠0 by omega),hw0,hw1]
    have hk:Yk wl ((Qw ZP QC a k),k1+((2:Nat):Int),((i+1:Nat):Int))=some r:=hk
    rw[show k1+((2:Nat):Int)=((k1+1)+1) by omega]at hk
    exact hk)
  (fun l=>by
    apply QaA
    simp only[yI,hl,Qm,QQ2])
  hk hs
 simp only[QQ6]at e
 simp only[QdN,e,QQ0,Qp,QY0]
theorem QlG (a:List Int):Qj (fun _=>1) a<=64*QW a:=by
 have h:=Qfu (fun _=>1) (fun _=>by omega) a
 simp only[QW];omega
theorem QxB (a:List Int) (k:Int) (hk:0<k) (hs:k+((Qj (fun _=>1) a:Nat):Int)<=1152921504606846976) (h:QW a<=4294967296):K6 w (a,k)=some (k+((Qj (fun _=>1) a:Nat):Int),Qw (fun _ n=>n) (fun _=>1) a k):=by
 apply QsF
 simp only[QW]at h
 have e:=Ky (fun _ n=>n) (fun _=>1) a (fun k i ys=>Ke wl (k,(i:Int),ys)) (fun k ys=>(k,ys)) 1152921504606846976
  (fun k i ys h1 r hy hm h0 hB hk=>by
    apply QdD
    have hw0:wR (k+1)=k+1:=w64 (by omega) (by omega)
    simp only[Qao,ilt h1,Qk h1,Qg h1,Yg h1,QY6,QY10,inc h1 (show ys.length<=maxLen by simp[maxLen];omega),QQ1,QRb,QQ0,dt (show(3:Int)≠0 by omega),hw0]
    have hk:Ke wl (k+((1:Nat):Int),((i+1:Nat):Int),ys.set i k)=some r:=hk
    rw[show k+((1:Nat):Int)=(k+1) by omega]at hk
    exact hk)
  (fun k ys hy=>by
    apply QdD
    simp only[Qao,<-hy,Qm,QQ2])
  k hk hs
 simp only[QQ6]at e
 simp only[QhO,e,QQ0]
theorem QxK (a:List Int) (k:Int) (hk:0<k) (hs:k+((Qj (fun _=>1) a:Nat):Int)<=1152921504606846976) (h:QW a<=4294967296):Va w (Qw (fun _ n=>n) (fun _=>1) a k,k)=some (k+((Qj (fun _=>1) a:Nat):Int)):=by
 apply QsM
 simp only[QW]at h
 have hl:(Qw (fun _ n=>n) (fun _=>1) a k).length=a.length:=X3 _ _ a k
 have e:=Kw (fun _ n=>n) (fun _=>1) a k (fun l i=>Kf wl ((Qw (fun _ n=>n) (fun _=>1) a k),l,(i:Int))) 1152921504606846976
  (fun k1 i h1 x r hx hm h0 hB hk=>by
    apply QdO
    have hw0:wR (k1+1)=k1+1:=w64 (by omega) (by omega)
    simp only[Qan,ilt h1,Qk h1,Qg h1,hm,inc h1 (show(Qw (fun _ n=>n) (fun _=>1) a k).length<=maxLen by rw[hl];simp[maxLen];omega),QQ1,QQ2,decide_true,QQ3,Q3,beq_self_eq_true,QQ0,dt (show(3:Int)≠0 by omega),hw0]
    have hk:Kf wl ((Qw (fun _ n=>n) (fun _=>1) a k),k1+((1:Nat):Int),((i+1:Nat):Int))=some r:=hk
    rw[show k1+((1:Nat):Int)=(k1+1) by omega]at hk
    exact hk)
  (fun l=>by
    apply QdO
    simp only[Qan,hl,Qm,QQ2])
  hk hs
 simp only[QQ6]at e
 simp only[Qhm,e,QQ0,Qp,QY0]
noncomputable def Vt (x:Qi) (n:Int):Qi:=(Qw YG Qy x.1 n,Qw ZP QC x.2 (n+((Qj Qy x.1:Nat):Int)))
def Xb (x:Qi):Nat:=Qj Qy x.1+Qj QC x.2
theorem QzI (x:Qi):Xb x<=64*(QG x+1):=by
 have h0:=QoX x.1
 have h1:=Qna x.2
 simp only[Xb,QG];omega
theorem QBC (a:List Qi):Qj Xb a<=64*X1 a:=by
 have h:=QdT Xb QG (fun x=>QzI x) a
 simp only[X1];omega
theorem QBD (a:List Qi) (k:Int) (hk:0<k) (hs:k+((Qj Xb a:Nat):Int)<=1152921504606846976) (h:X1 a<=4294967296):yf w (a,k)=some (k+((Qj Xb a:Nat):Int),Qw Vt Xb a k):=by
 apply QpM
 simp only[X1]at h
 have e:=Ky Vt Xb a (fun k i ys=>Yb wl (k,(i:Int),ys)) (fun k ys=>(k,ys)) 1152921504606846976
  (fun k i ys h1 r hy hm h0 hB hk=>by
    apply QaB
    have hb:=Kn QG hm
    simp only[Xb]at hB
    simp only[QG]at hb
    simp only[yS,ilt h1,Qk h1,Qg h1,Yg h1,QY6,QY10,inc h1 (show ys.length<=maxLen by simp[maxLen];omega),QQ1,QRb,QQ0,dt (show(3:Int)≠0 by omega),QoN (ys[i].1) k (by omega) (by omega) (by first|omega|(simp only[XX];omega)),QmO (ys[i].2) (k+((Qj Qy (ys[i].1):Nat):Int)) (by omega) (by omega) (by first|omega|(simp only[XS];omega))]
    have hk:Yb wl (k+((Qj Qy (ys[i].1)+Qj QC (ys[i].2):Nat):Int),((i+1:Nat):Int),ys.set i (Qw YG Qy (ys[i].1) k,Qw ZP QC (ys[i].2) (k+((Qj Qy (ys[i].1):Nat):Int))))=some r:=hk
    rw[show k+((Qj Qy (ys[i].1)+Qj QC (ys[i].2):Nat):Int)=((k+((Qj Qy (ys[i].1):Nat):Int))+((Qj QC (ys[i].2):Nat):Int)) by omega]at hk
    exact hk)
  (fun k ys hy=>by
    apply QaB
    simp only[yS,<-hy,Qm,QQ2])
  k hk hs
 simp only[QQ6]at e
 simp only[QdH,e,QQ0]
theorem QBz (a:List Qi) (k:Int) (hk:0<k) (hs:k+((Qj Xb a:Nat):Int)<=1152921504606846976) (h:X1 a<=4294967296):ya w (Qw Vt Xb a k,k)=some (k+((Qj Xb a:Nat):Int)):=by
 apply Qqs
 simp only[X1]at h
 have hl:(Qw Vt Xb a k).length=a.length:=X3 _ _ a k
 have e:=Kw Vt Xb a k (fun l i=>Yj wl ((Qw Vt Xb a k),l,(i:Int))) 1152921504606846976
  (fun k1 i h1 x r hx hm h0 hB hk=>by
    apply QaK
    have hb:=Kn QG hx
    simp only[Xb]at hB
    simp only[Vt]at hm
    simp only[QG]at hb
    simp only[yY,ilt h1,Qk h1,Qg h1,hm,inc h1 (show(Qw Vt Xb a k).length<=maxLen by rw[hl];simp[maxLen];omega),QQ1,QQ2,decide_true,QQ3,Q3,beq_self_eq_true,QQ0,dt (show(3:Int)≠0 by omega),Qo9 x.1 k1 (by omega) (by omega) (by first|omega|(simp only[XX];omega)),df (show¬((k1+((Qj Qy x.1:Nat):Int)):Int)<0 by omega),QmX x.2 (k1+((Qj Qy x.1:Nat):Int)) (by omega) (by omega) (by first|omega|(simp only[XS];omega)),df (show¬(((k1+((Qj Qy x.1:Nat):Int))+((Qj QC x.2:Nat):Int)):Int)<0 by omega)]
    have hk:Yj wl ((Qw Vt Xb a k),k1+((Qj Qy x.1+Qj QC x.2:Nat):Int),((i+1:Nat):Int))=some r:=hk
    rw[show k1+((Qj Qy x.1+Qj QC x.2:Nat):Int)=((k1+((Qj Qy x.1:Nat):Int))+((Qj QC x.2:Nat):Int)) by omega]at hk
    exact hk)
  (fun l=>by
    apply QaK
    simp only[yY,hl,Qm,QQ2])
  hk hs
 simp only[QQ6]at e
 simp only[QdR,e,QQ0,Qp,QY0]
theorem QEB (a:List (List Int)):Qj (Qj (fun _=>1)) a<=64*Xy a:=by
 have h:=QdT (Qj (fun _=>1)) QW (fun x=>by have:=QlG x;omega) a
 simp only[Xy];omega
theorem QEo (a:List (List Int)) (k:Int) (hk:0<k) (hs:k+((Qj (Qj (fun _=>1)) a:Nat):Int)<=1152921504606846976) (h:Xy a<=4294967296):je w (a,k)=some (k+((Qj (Qj (fun _=>1)) a:Nat):Int),Qw (Qw (fun _ n=>n) (fun _=>1)) (Qj (fun _=>1)) a k):=by
 apply QrA
 simp only[Xy]at h
 have e:=Ky (Qw (fun _ n=>n) (fun _=>1)) (Qj (fun _=>1)) a (fun k i ys=>YK wl (k,(i:Int),ys)) (fun k ys=>(k,ys)) 1152921504606846976
  (fun k i ys h1 r hy hm h0 hB hk=>by
    apply Qdj
    have hb:=Kn QW hm
    simp only[vj,ilt h1,Qk h1,Qg h1,Yg h1,QY6,QY10,inc h1 (show ys.length<=maxLen by simp[maxLen];omega),QQ1,QRb,QQ0,dt (show(3:Int)≠0 by omega),QxB ys[i] k (by omega) (by omega) (by first|omega|(simp only[QW];omega))]
    have hk:YK wl (k+((Qj (fun _=>1) ys[i]:Nat):Int),((i+1:Nat):Int),ys.set i (Qw (fun _ n=>n) (fun _=>1) ys[i] k))=some r:=hk
    exact hk)
  (fun k ys hy=>by
    apply Qdj
    simp only[vj,<-hy,Qm,QQ2])
  k hk hs
 simp only[QQ6]at e
 simp only[QgU,e,QQ0]
theorem QEc (a:List (List Int)) (k:Int) (hk:0<k) (hs:k+((Qj (Qj (fun _=>1)) a:Nat):Int)<=1152921504606846976) (h:Xy a<=4294967296):jO w (Qw (Qw (fun _ n=>n) (fun _=>1)) (Qj (fun _=>1)) a k,k)=some (k+((Qj (Qj (fun _=>1)) a:Nat):Int)):=by
 apply QrE
 simp only[Xy]at h
 have hl:(Qw (Qw (fun _ n=>n) (fun _=>1)) (Qj (fun _=>1)) a k).length=a.length:=X3 _ _ a k
 have e:=Kw (Qw (fun _ n=>n) (fun _=>1)) (Qj (fun _=>1)) a k (fun l i=>YM wl ((Qw (Qw (fun _ n=>n) (fun _=>1)) (Qj (fun _=>1)) a k),l,(i:Int))) 1152921504606846976
  (fun k1 i h1 x r hx hm h0 hB hk=>by
    apply QaX
    have hb:=Kn QW hx
    simp only[vk,ilt h1,Qk h1,Qg h1,hm,inc h1 (show(Qw (Qw (fun _ n=>n) (fun _=>1)) (Qj (fun _=>1)) a k).length<=maxLen by rw[hl];simp[maxLen];omega),QQ1,QQ2,decide_true,QQ3,Q3,beq_self_eq_true,QQ0,dt (show(3:Int)≠0 by omega),QxK x k1 (by omega) (by omega) (by first|omega|(simp only[QW];omega)),df (show¬((k1+((Qj (fun _=>1) x:Nat):Int)):Int)<0 by omega)]
    have hk:YM wl ((Qw (Qw (fun _ n=>n) (fun _=>1)) (Qj (fun _=>1)) a k),k1+((Qj (fun _=>1) x:Nat):Int),((i+1:Nat):Int))=some r:=hk
    exact hk)
  (fun l=>by
    apply QaX
    simp only[vk,hl,Qm,QQ2])
  hk hs
 simp only[QQ6]at e
 simp only[QgN,e,QQ0,Qp,QY0]
noncomputable def qN (x:Qz) (n:Int):Qz:=(n,(n+1),decide (Int.tmod ((n+1)+1) 3=0),(((n+1)+1)+1))
def XL (x:Qz):Nat:=4
theorem QBA (x:Qz):XL x<=64:=by
 simp only[XL];omega
theorem QEm (a:List Qz):Qj XL a<=64*Ya a:=by
 have h:=Qfu XL (fun x=>QBA x) a
 simp only[Ya];omega
theorem QEM (a:List Qz) (k:Int) (hk:0<k) (hs:k+((Qj XL a:Nat):Int)<=1152921504606846976) (h:Ya a<=4294967296):jN w (a,k)=some (k+((Qj XL a:Nat):Int),Qw qN XL a k):=by
 apply Qrn
 simp only[Ya]at h
 have e:=Ky qN XL a (fun k i ys=>YJ wl (k,(i:Int),ys)) (fun k ys=>(k,ys)) 1152921504606846976
  (fun k i ys h1 r hy hm h0 hB hk=>by
    apply Qa6
    simp only[XL]at hB
    have hw0:wR (k+1)=k+1:=w64 (by omega) (by omega)
    have hw1:wR ((k+1)+1)=(k+1)+1:=w64 (by omega) (by omega)
    have hw2:wR (((k+1)+1)+1)=((k+1)+1)+1:=w64 (by omega) (by omega)
    have hw3:wR ((((k+1)+1)+1)+1)=(((k+1)+1)+1)+1:=w64 (by omega) (by omega)
    simp only[j6,ilt h1,Qk h1,Qg h1,Yg h1,QY6,QY10,inc h1 (show ys.length<=maxLen by simp[maxLen];omega),QQ1,QRb,QQ0,dt (show(3:Int)≠0 by omega),hw0,hw1,hw2,hw3]
    have hk:YJ wl (k+((4:Nat):Int),((i+1:Nat):Int),ys.set i (k,(k+1),decide (Int.tmod ((k+1)+1) 3=0),(((k+1)+1)+1)))=some r:=hk
    rw[show k+((4:Nat):Int)=((((k+1)+1)+1)+1) by omega]at hk
    exact hk)
  (fun k ys hy=>by
    apply Qa6
    simp only[j6,<-hy,Qm,QQ2])
  k hk hs
 simp only[QQ6]at e
 simp only[QfY,e,QQ0]
theorem QEg (a:List Qz) (k:Int) (hk:0<k) (hs:k+((Qj XL a:Nat):Int)<=1152921504606846976) (h:Ya a<=4294967296):jI w (Qw qN XL a k,k)=some (k+((Qj XL a:Nat):Int)):=by
 apply QrD
 simp only[Ya]at h
 have hl:(Qw qN XL a k).length=a.length:=X3 _ _ a k
 have e:=Kw qN XL a k (fun l i=>YZ wl ((Qw qN XL a k),l,(i:Int))) 1152921504606846976
  (fun k1 i h1 x r hx hm h0 hB hk=>by
    apply QcO
    simp only[XL]at hB
    simp only[qN]at hm
    have hw0:wR (k1+1)=k1+1:=w64 (by omega) (by omega)
    have hw1:wR ((k1+1)+1)=(k1+1)+1:=w64 (by omega) (by omega)
    have hw2:wR (((k1+1)+1)+1)=((k1+1)+1)+1:=w64 (by omega) (by omega)
    have hw3:wR ((((k1+1)+1)+1)+1)=(((k1+1)+1)+1)+1:=w64 (by omega) (by omega)
    simp only[vb,ilt h1,Qk h1,Qg h1,hm,inc h1 (show(Qw qN XL a k).length<=maxLen by rw[hl];simp[maxLen];omega),QQ1,QQ2,decide_true,QQ3,Q3,beq_self_eq_true,QQ0,dt (show(3:Int)≠0 by omega),hw0,hw1,hw2,hw3]
    have hk:YZ wl ((Qw qN XL a k),k1+((4:Nat):Int),((i+1:Nat):Int))=some r:=hk
    rw[show k1+((4:Nat):Int)=((((k1+1)+1)+1)+1) by omega]at hk
    exact hk)
  (fun l=>by
    apply QcO
    simp only[vb,hl,Qm,QQ2])
  hk hs
 simp only[QQ6]at e
 simp only[Qgi,e,QQ0,Qp,QY0]
noncomputable def qI (x:QO) (n:Int):QO:=(n,(n+1),((n+1)+1))
def X4 (x:QO):Nat:=3
theorem QBJ (x:QO):X4 x<=64:=by
 simp only[X4];omega
theorem QEF (a:List QO):Qj X4 a<=64*Z9 a:=by
 have h:=Qfu X4 (fun x=>QBJ x) a
 simp only[Z9];omega
theorem QEZ (a:List QO) (k:Int) (hk:0<k) (hs:k+((Qj X4 a:Nat):Int)<=1152921504606846976) (h:Z9 a<=4294967296):jM w (a,k)=some (k+((Qj X4 a:Nat):Int),Qw qI X4 a k):=by
 apply QrC
 simp only[Z9]at h
 have e:=Ky qI X4 a (fun k i ys=>YQ wl (k,(i:Int),ys)) (fun k ys=>(k,ys)) 1152921504606846976
  (fun k i ys h1 r hy hm h0 hB hk=>by
    apply Qa7
    simp only[X4]at hB
    have hw0:wR (k+1)=k+1:=w64 (by omega) (by omega)
    have hw1:wR ((k+1)+1)=(k+1)+1:=w64 (by omega) (by omega)
    have hw2:wR (((k+1)+1)+1)=((k+1)+1)+1:=w64 (by omega) (by omega)
    simp only[jY,ilt h1,Qk h1,Qg h1,Yg h1,QY6,QY10,inc h1 (show ys.length<=maxLen by simp[maxLen];omega),QQ1,QRb,QQ0,dt (show(3:Int)≠0 by omega),hw0,hw1,hw2]
    have hk:YQ wl (k+((3:Nat):Int),((i+1:Nat):Int),ys.set i (k,(k+1),((k+1)+1)))=some r:=hk
    rw[show k+((3:Nat):Int)=(((k+1)+1)+1) by omega]at hk
    exact hk)
  (fun k ys hy=>by
    apply Qa7
    simp only[jY,<-hy,Qm,QQ2])
  k hk hs
 simp only[QQ6]at e
 simp only[Qfv,e,QQ0]
theorem QDg (a:List QO) (k:Int) (hk:0<k) (hs:k+((Qj X4 a:Nat):Int)<=1152921504606846976) (h:Z9 a<=4294967296):jH w (Qw qI X4 a k,k)=some (k+((Qj X4 a:Nat):Int)):=by
 apply QrF
 simp only[Z9]at h
 have hl:(Qw qI X4 a k).length=a.length:=X3 _ _ a k
 have e:=Kw qI X4 a k (fun l i=>YO wl ((Qw qI X4 a k),l,(i:Int))) 1152921504606846976
  (fun k1 i h1 x r hx hm h0 hB hk=>by
    apply Qdl
    simp only[X4]at hB
    simp only[qI]at hm
    have hw0:wR (k1+1)=k1+1:=w64 (by omega) (by omega)
    have hw1:wR ((k1+1)+1)=(k1+1)+1:=w64 (by omega) (by omega)
    have hw2:wR (((k1+1)+1)+1)=((k1+1)+1)+1:=w64 (by omega) (by omega)
    simp only[jT,ilt h1,Qk h1,Qg h1,hm,inc h1 (show(Qw qI X4 a k).length<=maxLen by rw[hl];simp[maxLen];omega),QQ1,QQ2,decide_true,QQ3,Q3,beq_self_eq_true,QQ0,dt (show(3:Int)≠0 by omega),hw0,hw1,hw2]
    have hk:YO wl ((Qw qI X4 a k),k1+((3:Nat):Int),((i+1:Nat):Int))=some r:=hk
    rw[show k1+((3:Nat):Int)=(((k1+1)+1)+1) by omega]at hk
    exact hk)
  (fun l=>by
    apply Qdl
    simp only[jT,hl,Qm,QQ2])
  hk hs
 simp only[QQ6]at e
 simp only[Qf9,e,QQ0,Qp,QY0]
noncomputable def VR (x:Qb) (n:Int):Qb:=(n,(n+1),Qw YG Qy x.2.2.1 ((n+1)+1),Qw ZP QC x.2.2.2.1 (((n+1)+1)+((Qj Qy x.2.2.1:Nat):Int)),Qw (fun _ n=>n) (fun _=>1) x.2.2.2.2.1 ((((n+1)+1)+((Qj Qy x.2.2.1:Nat):Int))+((Qj QC x.2.2.2.1:Nat):Int)),(((((n+1)+1)+((Qj Qy x.2.2.1:Nat):Int))+((Qj QC x.2.2.2.1:Nat):Int))+((Qj (fun _=>1) x.2.2.2.2.1:Nat):Int)),((((((n+1)+1)+((Qj Qy x.2.2.1:Nat):Int))+((Qj QC x.2.2.2.1:Nat):Int))+((Qj (fun _=>1) x.2.2.2.2.1:Nat):Int))+1),(((((((n+1)+1)+((Qj Qy x.2.2.1:Nat):Int))+((Qj QC x.2.2.2.1:Nat):Int))+((Qj (fun _=>1) x.2.2.2.2.1:Nat):Int))+1)+1),Qw Vt Xb x.2.2.2.2.2.2.2.2.1 ((((((((n+1)+1)+((Qj Qy x.2.2.1:Nat):Int))+((Qj QC x.2.2.2.1:Nat):Int))+((Qj (fun _=>1) x.2.2.2.2.1:Nat):Int))+1)+1)+1),Qw (fun _ n=>n) (fun _=>1) x.2.2.2.2.2.2.2.2.2.1 (((((((((n+1)+1)+((Qj Qy x.2.2.1:Nat):Int))+((Qj QC x.2.2.2.1:Nat):Int))+((Qj (fun _=>1) x.2.2.2.2.1:Nat):Int))+1)+1)+1)+((Qj Xb x.2.2.2.2.2.2.2.2.1:Nat):Int)),Qw (fun _ n=>n) (fun _=>1) x.2.2.2.2.2.2.2.2.2.2.1 ((((((((((n+1)+1)+((Qj Qy x.2.2.1:Nat):Int))+((Qj QC x.2.2.2.1:Nat):Int))+((Qj (fun _=>1) x.2.2.2.2.1:Nat):Int))+1)+1)+1)+((Qj Xb x.2.2.2.2.2.2.2.2.1:Nat):Int))+((Qj (fun _=>1) x.2.2.2.2.2.2.2.2.2.1:Nat):Int)),Qw (Qw (fun _ n=>n) (fun _=>1)) (Qj (fun _=>1)) x.2.2.2.2.2.2.2.2.2.2.2.1 (((((((((((n+1)+1)+((Qj Qy x.2.2.1:Nat):Int))+((Qj QC x.2.2.2.1:Nat):Int))+((Qj (fun _=>1) x.2.2.2.2.1:Nat):Int))+1)+1)+1)+((Qj Xb x.2.2.2.2.2.2.2.2.1:Nat):Int))+((Qj (fun _=>1) x.2.2.2.2.2.2.2.2.2.1:Nat):Int))+((Qj (fun _=>1) x.2.2.2.2.2.2.2.2.2.2.1:Nat):Int)),((((((((((((n+1)+1)+((Qj Qy x.2.2.1:Nat):Int))+((Qj QC x.2.2.2.1:Nat):Int))+((Qj (fun _=>1) x.2.2.2.2.1:Nat):Int))+1)+1)+1)+((Qj Xb x.2.2.2.2.2.2.2.2.1:Nat):Int))+((Qj (fun _=>1) x.2.2.2.2.2.2.2.2.2.1:Nat):Int))+((Qj (fun _=>1) x.2.2.2.2.2.2.2.2.2.2.1:Nat):Int))+((Qj (Qj (fun _=>1)) x.2.2.2.2.2.2.2.2.2.2.2.1:Nat):Int)),(((((((((((((n+1)+1)+((Qj Qy x.2.2.1:Nat):Int))+((Qj QC x.2.2.2.1:Nat):Int))+((Qj (fun _=>1) x.2.2.2.2.1:Nat):Int))+1)+1)+1)+((Qj Xb x.2.2.2.2.2.2.2.2.1:Nat):Int))+((Qj (fun _=>1) x.2.2.2.2.2.2.2.2.2.1:Nat):Int))+((Qj (fun _=>1) x.2.2.2.2.2.2.2.2.2.2.1:Nat):Int))+((Qj (Qj (fun _=>1)) x.2.2.2.2.2.2.2.2.2.2.2.1:Nat):Int))+1),Qw qN XL x.2.2.2.2.2.2.2.2.2.2.2.2.2.2.1 ((((((((((((((n+1)+1)+((Qj Qy x.2.2.1:Nat):Int))+((Qj QC x.2.2.2.1:Nat):Int))+((Qj (fun _=>1) x.2.2.2.2.1:Nat):Int))+1)+1)+1)+((Qj Xb x.2.2.2.2.2.2.2.2.1:Nat):Int))+((Qj (fun _=>1) x.2.2.2.2.2.2.2.2.2.1:Nat):Int))+((Qj (fun _=>1) x.2.2.2.2.2.2.2.2.2.2.1:Nat):Int))+((Qj (Qj (fun _=>1)) x.2.2.2.2.2.2.2.2.2.2.2.1:Nat):Int))+1)+1),(((((((((((((((n+1)+1)+((Qj Qy x.2.2.1:Nat):Int))+((Qj QC x.2.2.2.1:Nat):Int))+((Qj (fun _=>1) x.2.2.2.2.1:Nat):Int))+1)+1)+1)+((Qj Xb x.2.2.2.2.2.2.2.2.1:Nat):Int))+((Qj (fun _=>1) x.2.2.2.2.2.2.2.2.2.1:Nat):Int))+((Qj (fun _=>1) x.2.2.2.2.2.2.2.2.2.2.1:Nat):Int))+((Qj (Qj (fun _=>1)) x.2.2.2.2.2.2.2.2.2.2.2.1:Nat):Int))+1)+1)+((Qj XL x.2.2.2.2.2.2.2.2.2.2.2.2.2.2.1:Nat):Int)),((((((((((((((((n+1)+1)+((Qj Qy x.2.2.1:Nat):Int))+((Qj QC x.2.2.2.1:Nat):Int))+((Qj (fun _=>1) x.2.2.2.2.1:Nat):Int))+1)+1)+1)+((Qj Xb x.2.2.2.2.2.2.2.2.1:Nat):Int))+((Qj (fun _=>1) x.2.2.2.2.2.2.2.2.2.1:Nat):Int))+((Qj (fun _=>1) x.2.2.2.2.2.2.2.2.2.2.1:Nat):Int))+((Qj (Qj (fun _=>1)) x.2.2.2.2.2.2.2.2.2.2.2.1:Nat):Int))+1)+1)+((Qj XL x.2.2.2.2.2.2.2.2.2.2.2.2.2.2.1:Nat):Int))+1),(((((((((((((((((n+1)+1)+((Qj Qy x.2.2.1:Nat):Int))+((Qj QC x.2.2.2.1:Nat):Int))+((Qj (fun _=>1) x.2.2.2.2.1:Nat):Int))+1)+1)+1)+((Qj Xb x.2.2.2.2.2.2.2.2.1:Nat):Int))+((Qj (fun _=>1) x.2.2.2.2.2.2.2.2.2.1:Nat):Int))+((Qj (fun _=>1) x.2.2.2.2.2.2.2.2.2.2.1:Nat):Int))+((Qj (Qj (fun _=>1)) x.2.2.2.2.2.2.2.2.2.2.2.1:Nat):Int))+1)+1)+((Qj XL x.2.2.2.2.2.2.2.2.2.2.2.2.2.2.1:Nat):Int))+1)+1),Qw qI X4 x.2.2.2.2.2.2.2.2.2.2.2.2.2.2.2.2.2.2 ((((((((((((((((((n+1)+1)+((Qj Qy x.2.2.1:Nat):Int))+((Qj QC x.2.2.2.1:Nat):Int))+((Qj (fun _=>1) x.2.2.2.2.1:Nat):Int))+1)+1)+1)+((Qj Xb x.2.2.2.2.2.2.2.2.1:Nat):Int))+((Qj (fun _=>1) x.2.2.2.2.2.2.2.2.2.1:Nat):Int))+((Qj (fun _=>1) x.2.2.2.2.2.2.2.2.2.2.1:Nat):Int))+((Qj (Qj (fun _=>1)) x.2.2.2.2.2.2.2.2.2.2.2.1:Nat):Int))+1)+1)+((Qj XL x.2.2.2.2.2.2.2.2.2.2.2.2.2.2.1:Nat):Int))+1)+1)+1))
def Q4 (x:Qb):Nat:=10+Qj Qy x.2.2.1+Qj QC x.2.2.2.1+Qj (fun _=>1) x.2.2.2.2.1+Qj Xb x.2.2.2.2.2.2.2.2.1+Qj (fun _=>1) x.2.2.2.2.2.2.2.2.2.1+Qj (fun _=>1) x.2.2.2.2.2.2.2.2.2.2.1+Qj (Qj (fun _=>1)) x.2.2.2.2.2.2.2.2.2.2.2.1+Qj XL x.2.2.2.2.2.2.2.2.2.2.2.2.2.2.1+Qj X4 x.2.2.2.2.2.2.2.2.2.2.2.2.2.2.2.2.2.2
theorem QCd (x:Qb):Q4 x<=64*(Q9 x+1):=by
 have h0:=QoX x.2.2.1
 have h1:=Qna x.2.2.2.1
 have h2:=QlG x.2.2.2.2.1
 have h3:=QBC x.2.2.2.2.2.2.2.2.1
 have h4:=QlG x.2.2.2.2.2.2.2.2.2.1
 have h5:=QlG x.2.2.2.2.2.2.2.2.2.2.1
 have h6:=QEB x.2.2.2.2.2.2.2.2.2.2.2.1
 have h7:=QEm x.2.2.2.2.2.2.2.2.2.2.2.2.2.2.1
 have h8:=QEF x.2.2.2.2.2.2.2.2.2.2.2.2.2.2.2.2.2.2
 simp only[Q4,Yf,Q9,QG,ZC];omega
theorem QEj (a:List Qb):Qj Q4 a<=64*X7 a:=by
 have h:=QdT Q4 Q9 (fun x=>QCd x) a
 simp only[X7];omega
set_option maxHeartbeats 4000000 in
theorem QEz (a:List Qb) (k:Int) (hk:0<k) (hs:k+((Qj Q4 a:Nat):Int)<=1152921504606846976) (h:X7 a<=4294967296):jE w (a,k)=some (k+((Qj Q4 a:Nat):Int),Qw VR Q4 a k):=by
 apply Qrr
 simp only[X7]at h
 have e:=Ky VR Q4 a (fun k i ys=>YY wl (k,(i:Int),ys)) (fun k ys=>(k,ys)) 1152921504606846976
  (fun k i ys h1 r hy hm h0 hB hk=>by
    apply Qb3
    have hb:=Kn Q9 hm
    simp only[Q4]at hB
    simp only[Q9,QG,ZC,Yf]at hb
    have hw:∀n:Int,0<n->n<=2305843009213693952->wR (n+1)=n+1:=fun n h1 h2=>w64 (by omega) (by omega)
    simp (disch:=omega) only[j9,ilt h1,Qk h1,Qg h1,Yg h1,QY6,QY10,inc h1 (show ys.length<=maxLen by simp[maxLen];omega),QQ1,QRb,QQ0,hw,QmO,QxB,QEo,QoN,QEZ,QEM,QBD]
    refine Eq.trans (congrArg (fun z=>YY wl (z,((i+1:Nat):Int),_)) ?_) hk
    simp only[Q4];omega)
  (fun k ys hy=>by
    apply Qb3
    simp only[j9,<-hy,Qm,QQ2])
  k hk hs
 simp only[QQ6]at e
 simp only[QfN,e,QQ0]
set_option maxHeartbeats 4000000 in
theorem QEl (a:List Qb) (k:Int) (hk:0<k) (hs:k+((Qj Q4 a:Nat):Int)<=1152921504606846976) (h:X7 a<=4294967296):jD w (Qw VR Q4 a k,k)=some (k+((Qj Q4 a:Nat):Int)):=by
 apply Qrs
 simp only[X7]at h
 have hl:(Qw VR Q4 a k).length=a.length:=X3 _ _ a k
 have e:=Kw VR Q4 a k (fun l i=>YL wl ((Qw VR Q4 a k),l,(i:Int))) 1152921504606846976
  (fun k1 i h1 x r hx hm h0 hB hk=>by
    apply Qci
    have hb:=Kn Q9 hx
    simp only[Q4]at hB
    simp only[VR]at hm
    simp only[Q9,QG,ZC,Yf]at hb
    have hw:∀n:Int,0<n->n<=2305843009213693952->wR (n+1)=n+1:=fun n h1 h2=>w64 (by omega) (by omega)
    have hd:∀n:Int,0<n->decide (n<0)=false:=fun n h=>df (by omega)
    simp (disch:=omega) only[vc,ilt h1,Qk h1,Qg h1,hm,inc h1 (show(Qw VR Q4 a k).length<=maxLen by rw[hl];simp[maxLen];omega),QQ1,QQ2,decide_true,QQ3,QQ0,hw,hd,QmX,QxK,QEc,Qo9,QDg,QEg,QBz]
    refine Eq.trans (congrArg (fun z=>YL wl ((Qw VR Q4 a k),z,((i+1:Nat):Int))) ?_) hk
    simp only[Q4];omega)
  (fun l=>by
    apply Qci
    simp only[vc,hl,Qm,QQ2])
  hk hs
 simp only[QQ6]at e
 simp only[QgS,e,QQ0,Qp,QY0]
theorem QDN (a:List Int):Qj (fun _=>1) a<=64*Zw a:=by
 have h:=Qfu (fun _=>1) (fun _=>by omega) a
 simp only[Zw];omega
theorem QDw (a:List Int) (k:Int) (hk:0<k) (hs:k+((Qj (fun _=>1) a:Nat):Int)<=1152921504606846976) (h:Zw a<=4294967296):jx w (a,k)=some (k+((Qj (fun _=>1) a:Nat):Int),Qw (fun _ n=>IntKind.wrap .u8 n) (fun _=>1) a k):=by
 apply Qrl
 simp only[Zw]at h
 have e:=Ky (fun _ n=>IntKind.wrap .u8 n) (fun _=>1) a (fun k i ys=>YX wl (k,(i:Int),ys)) (fun k ys=>(k,ys)) 1152921504606846976
  (fun k i ys h1 r hy hm h0 hB hk=>by
    apply QbG
    have hw0:wR (k+1)=k+1:=w64 (by omega) (by omega)
    simp only[vn,ilt h1,Qk h1,Qg h1,Yg h1,QY6,QY10,inc h1 (show ys.length<=maxLen by simp[maxLen];omega),QQ1,QRb,QQ0,dt (show(3:Int)≠0 by omega),hw0]
    have hk:YX wl (k+((1:Nat):Int),((i+1:Nat):Int),ys.set i (IntKind.wrap .u8 k))=some r:=hk
    rw[show k+((1:Nat):Int)=(k+1) by omega]at hk
    exact hk)
  (fun k ys hy=>by
    apply QbG
    simp only[vn,<-hy,Qm,QQ2])
  k hk hs
 simp only[QQ6]at e
 simp only[Qgj,e,QQ0]
theorem QEb (a:List Int) (k:Int) (hk:0<k) (hs:k+((Qj (fun _=>1) a:Nat):Int)<=1152921504606846976) (h:Zw a<=4294967296):jA w (Qw (fun _ n=>IntKind.wrap .u8 n) (fun _=>1) a k,k)=some (k+((Qj (fun _=>1) a:Nat):Int)):=by
 apply Qru
 simp only[Zw]at h
 have hl:(Qw (fun _ n=>IntKind.wrap .u8 n) (fun _=>1) a k).length=a.length:=X3 _ _ a k
 have e:=Kw (fun _ n=>IntKind.wrap .u8 n) (fun _=>1) a k (fun l i=>Y0 wl ((Qw (fun _ n=>IntKind.wrap .u8 n) (fun _=>1) a k),l,(i:Int))) 1152921504606846976
  (fun k1 i h1 x r hx hm h0 hB hk=>by
    apply Qb6
    have hw0:wR (k1+1)=k1+1:=w64 (by omega) (by omega)
    simp only[jW,ilt h1,Qk h1,Qg h1,hm,inc h1 (show(Qw (fun _ n=>IntKind.wrap .u8 n) (fun _=>1) a k).length<=maxLen by rw[hl];simp[maxLen];omega),QQ1,QQ2,decide_true,QQ3,Q3,beq_self_eq_true,QQ0,dt (show(3:Int)≠0 by omega),hw0]
    have hk:Y0 wl ((Qw (fun _ n=>IntKind.wrap .u8 n) (fun _=>1) a k),k1+((1:Nat):Int),((i+1:Nat):Int))=some r:=hk
    rw[show k1+((1:Nat):Int)=(k1+1) by omega]at hk
    exact hk)
  (fun l=>by
    apply Qb6
    simp only[jW,hl,Qm,QQ2])
  hk hs
 simp only[QQ6]at e
 simp only[Qfp,e,QQ0,Qp,QY0]
noncomputable def Jd (x:Qq) (n:Int):Qq:=(n,Qw (fun _ n=>IntKind.wrap .u8 n) (fun _=>1) x.2.1 (n+1),decide (Int.tmod ((n+1)+((Qj (fun _=>1) x.2.1:Nat):Int)) 3=0))
def Xo (x:Qq):Nat:=2+Qj (fun _=>1) x.2.1
theorem QBR (x:Qq):Xo x<=64*(Xg x+1):=by
 have h0:=QDN x.2.1
 simp only[Xo,Xg];omega
theorem QEr (a:List Qq):Qj Xo a<=64*XB a:=by
 have h:=QdT Xo Xg (fun x=>QBR x) a
 simp only[XB];omega
theorem QDT (a:List Qq) (k:Int) (hk:0<k) (hs:k+((Qj Xo a:Nat):Int)<=1152921504606846976) (h:XB a<=4294967296):jn w (a,k)=some (k+((Qj Xo a:Nat):Int),Qw Jd Xo a k):=by
 apply Qrv
 simp only[XB]at h
 have e:=Ky Jd Xo a (fun k i ys=>YR wl (k,(i:Int),ys)) (fun k ys=>(k,ys)) 1152921504606846976
  (fun k i ys h1 r hy hm h0 hB hk=>by
    apply Qdt
    have hb:=Kn Xg hm
    simp only[Xo]at hB
    simp only[Xg]at hb
    have hw0:wR (k+1)=k+1:=w64 (by omega) (by omega)
    have hw1:wR (((k+1)+((Qj (fun _=>1) (ys[i].2.1):Nat):Int))+1)=((k+1)+((Qj (fun _=>1) (ys[i].2.1):Nat):Int))+1:=w64 (by omega) (by omega)
    simp only[vd,ilt h1,Qk h1,Qg h1,Yg h1,QY6,QY10,inc h1 (show ys.length<=maxLen by simp[maxLen];omega),QQ1,QRb,QQ0,dt (show(3:Int)≠0 by omega),hw0,hw1,QDw (ys[i].2.1) (k+1) (by omega) (by omega) (by first|omega|(simp only[Zw];omega))]
    have hk:YR wl (k+((2+Qj (fun _=>1) (ys[i].2.1):Nat):Int),((i+1:Nat):Int),ys.set i (k,Qw (fun _ n=>IntKind.wrap .u8 n) (fun _=>1) (ys[i].2.1) (k+1),decide (Int.tmod ((k+1)+((Qj (fun _=>1) (ys[i].2.1):Nat):Int)) 3=0)))=some r:=hk
    rw[show k+((2+Qj (fun _=>1) (ys[i].2.1):Nat):Int)=(((k+1)+((Qj (fun _=>1) (ys[i].2.1):Nat):Int))+1) by omega]at hk
    exact hk)
  (fun k ys hy=>by
    apply Qdt
    simp only[vd,<-hy,Qm,QQ2])
  k hk hs
 simp only[QQ6]at e
 simp only[Qf3,e,QQ0]
theorem QEd (a:List Qq) (k:Int) (hk:0<k) (hs:k+((Qj Xo a:Nat):Int)<=1152921504606846976) (h:XB a<=4294967296):jv w (Qw Jd Xo a k,k)=some (k+((Qj Xo a:Nat):Int)):=by
 apply Qry
 simp only[XB]at h
 have hl:(Qw Jd Xo a k).length=a.length:=X3 _ _ a k
 have e:=Kw Jd Xo a k (fun l i=>YN wl ((Qw Jd Xo a k),l,(i:Int))) 1152921504606846976
  (fun k1 i h1 x r hx hm h0 hB hk=>by
    apply QbK
    have hb:=Kn Xg hx
    simp only[Xo]at hB
    simp only[Jd]at hm
    simp only[Xg]at hb
    have hw0:wR (k1+1)=k1+1:=w64 (by omega) (by omega)
    have hw1:wR (((k1+1)+((Qj (fun _=>1) x.2.1:Nat):Int))+1)=((k1+1)+((Qj (fun _=>1) x.2.1:Nat):Int))+1:=w64 (by omega) (by omega)
    simp only[ve,ilt h1,Qk h1,Qg h1,hm,inc h1 (show(Qw Jd Xo a k).length<=maxLen by rw[hl];simp[maxLen];omega),QQ1,QQ2,decide_true,QQ3,Q3,beq_self_eq_true,QQ0,dt (show(3:Int)≠0 by omega),hw0,hw1,QEb x.2.1 (k1+1) (by omega) (by omega) (by first|omega|(simp only[Zw];omega)),df (show¬(((k1+1)+((Qj (fun _=>1) x.2.1:Nat):Int)):Int)<0 by omega)]
    have hk:YN wl ((Qw Jd Xo a k),k1+((2+Qj (fun _=>1) x.2.1:Nat):Int),((i+1:Nat):Int))=some r:=hk
    rw[show k1+((2+Qj (fun _=>1) x.2.1:Nat):Int)=(((k1+1)+((Qj (fun _=>1) x.2.1:Nat):Int))+1) by omega]at hk
    exact hk)
  (fun l=>by
    apply QbK
    simp only[ve,hl,Qm,QQ2])
  hk hs
 simp only[QQ6]at e
 simp only[Qge,e,QQ0,Qp,QY0]
noncomputable def VN (x:Qr) (n:Int):Qr:=(n,Qw YG Qy x.2.1 (n+1),Qw ZP QC x.2.2 ((n+1)+((Qj Qy x.2.1:Nat):Int)))
def XF (x:Qr):Nat:=1+Qj Qy x.2.1+Qj QC x.2.2
theorem QCt (x:Qr):XF x<=64*(Xu x+1):=by
 have h0:=QoX x.2.1
 have h1:=Qna x.2.2
 simp only[XF,Xu,QG];omega
theorem QDX (a:List Qr):Qj XF a<=64*X5 a:=by
 have h:=QdT XF Xu (fun x=>QCt x) a
 simp only[X5];omega
theorem QEJ (a:List Qr) (k:Int) (hk:0<k) (hs:k+((Qj XF a:Nat):Int)<=1152921504606846976) (h:X5 a<=4294967296):jz w (a,k)=some (k+((Qj XF a:Nat):Int),Qw VN XF a k):=by
 apply Qrp
 simp only[X5]at h
 have e:=Ky VN XF a (fun k i ys=>YS wl (k,(i:Int),ys)) (fun k ys=>(k,ys)) 1152921504606846976
  (fun k i ys h1 r hy hm h0 hB hk=>by
    apply Qbo
    have hb:=Kn Xu hm
    simp only[XF]at hB
    simp only[Xu,QG]at hb
    have hw0:wR (k+1)=k+1:=w64 (by omega) (by omega)
    simp only[j8,ilt h1,Qk h1,Qg h1,Yg h1,QY6,QY10,inc h1 (show ys.length<=maxLen by simp[maxLen];omega),QQ1,QRb,QQ0,dt (show(3:Int)≠0 by omega),hw0,QoN (ys[i].2.1) (k+1) (by omega) (by omega) (by first|omega|(simp only[XX];omega)),QmO (ys[i].2.2) ((k+1)+((Qj Qy (ys[i].2.1):Nat):Int)) (by omega) (by omega) (by first|omega|(simp only[XS];omega))]
    have hk:YS wl (k+((1+Qj Qy (ys[i].2.1)+Qj QC (ys[i].2.2):Nat):Int),((i+1:Nat):Int),ys.set i (k,Qw YG Qy (ys[i].2.1) (k+1),Qw ZP QC (ys[i].2.2) ((k+1)+((Qj Qy (ys[i].2.1):Nat):Int))))=some r:=hk
    rw[show k+((1+Qj Qy (ys[i].2.1)+Qj QC (ys[i].2.2):Nat):Int)=(((k+1)+((Qj Qy (ys[i].2.1):Nat):Int))+((Qj QC (ys[i].2.2):Nat):Int)) by omega]at hk
    exact hk)
  (fun k ys hy=>by
    apply Qbo
    simp only[j8,<-hy,Qm,QQ2])
  k hk hs
 simp only[QQ6]at e
 simp only[Qfy,e,QQ0]
theorem QEC (a:List Qr) (k:Int) (hk:0<k) (hs:k+((Qj XF a:Nat):Int)<=1152921504606846976) (h:X5 a<=4294967296):jF w (Qw VN XF a k,k)=some (k+((Qj XF a:Nat):Int)):=by
 apply Qrk
 simp only[X5]at h
 have hl:(Qw VN XF a k).length=a.length:=X3 _ _ a k
 have e:=Kw VN XF a k (fun l i=>YV wl ((Qw VN XF a k),l,(i:Int))) 1152921504606846976
  (fun k1 i h1 x r hx hm h0 hB hk=>by
    apply Qbp
    have hb:=Kn Xu hx
    simp only[XF]at hB
    simp only[VN]at hm
    simp only[Xu,QG]at hb
    have hw0:wR (k1+1)=k1+1:=w64 (by omega) (by omega)
    simp only[vp,ilt h1,Qk h1,Qg h1,hm,inc h1 (show(Qw VN XF a k).length<=maxLen by rw[hl];simp[maxLen];omega),QQ1,QQ2,decide_true,QQ3,Q3,beq_self_eq_true,QQ0,dt (show(3:Int)≠0 by omega),hw0,Qo9 x.2.1 (k1+1) (by omega) (by omega) (by first|omega|(simp only[XX];omega)),df (show¬(((k1+1)+((Qj Qy x.2.1:Nat):Int)):Int)<0 by omega),QmX x.2.2 ((k1+1)+((Qj Qy x.2.1:Nat):Int)) (by omega) (by omega) (by first|omega|(simp only[XS];omega)),df (show¬((((k1+1)+((Qj Qy x.2.1:Nat):Int))+((Qj QC x.2.2:Nat):Int)):Int)<0 by omega)]
    have hk:YV wl ((Qw VN XF a k),k1+((1+Qj Qy x.2.1+Qj QC x.2.2:Nat):Int),((i+1:Nat):Int))=some r:=hk
    rw[show k1+((1+Qj Qy x.2.1+Qj QC x.2.2:Nat):Int)=(((k1+1)+((Qj Qy x.2.1:Nat):Int))+((Qj QC x.2.2:Nat):Int)) by omega]at hk
    exact hk)
  (fun l=>by
    apply Qbp
    simp only[vp,hl,Qm,QQ2])
  hk hs
 simp only[QQ6]at e
 simp only[QgC,e,QQ0,Qp,QY0]
theorem QDy (a0:List Qb) (a1:List Qq) (a2:List Qr) (k:Int) (hk:0<k) (hs:k+((Qj Q4 a0+Qj Xo a1+Qj XF a2:Nat):Int)<=1152921504606846976) (h:Xp (a0,a1,a2)<=4294967296):VE w (a0,a1,a2,k)=some ((((k+((Qj Q4 a0:Nat):Int))+((Qj Xo a1:Nat):Int))+((Qj XF a2:Nat):Int)),Qw VR Q4 a0 k,Qw Jd Xo a1 (k+((Qj Q4 a0:Nat):Int)),Qw VN XF a2 ((k+((Qj Q4 a0:Nat):Int))+((Qj Xo a1:Nat):Int))):=by
 apply Qrw
 simp only[Xp]at h
 simp only[Qgu,QQ0,QEz a0 k (by omega) (by omega) (by first|omega|(simp only[X7];omega)),QDT a1 (k+((Qj Q4 a0:Nat):Int)) (by omega) (by omega) (by first|omega|(simp only[XB];omega)),QEJ a2 ((k+((Qj Q4 a0:Nat):Int))+((Qj Xo a1:Nat):Int)) (by omega) (by omega) (by first|omega|(simp only[X5];omega))]
theorem QEU (a0:List Qb) (a1:List Qq) (a2:List Qr) (k:Int) (hk:0<k) (hs:k+((Qj Q4 a0+Qj Xo a1+Qj XF a2:Nat):Int)<=1152921504606846976) (h:Xp (a0,a1,a2)<=4294967296):VG w (Qw VR Q4 a0 k,Qw Jd Xo a1 (k+((Qj Q4 a0:Nat):Int)),Qw VN XF a2 ((k+((Qj Q4 a0:Nat):Int))+((Qj Xo a1:Nat):Int)),k)=some (((k+((Qj Q4 a0:Nat):Int))+((Qj Xo a1:Nat):Int))+((Qj XF a2:Nat):Int)):=by
 apply QrB
 simp only[Xp]at h
 simp only[Qgp,QQ0,QQ2,QEl a0 k (by omega) (by omega) (by first|omega|(simp only[X7];omega)),df (show¬((k+((Qj Q4 a0:Nat):Int)):Int)<0 by omega),QEd a1 (k+((Qj Q4 a0:Nat):Int)) (by omega) (by omega) (by first|omega|(simp only[XB];omega)),df (show¬(((k+((Qj Q4 a0:Nat):Int))+((Qj Xo a1:Nat):Int)):Int)<0 by omega),QEC a2 ((k+((Qj Q4 a0:Nat):Int))+((Qj Xo a1:Nat):Int)) (by omega) (by omega) (by first|omega|(simp only[X5];omega)),df (show¬((((k+((Qj Q4 a0:Nat):Int))+((Qj Xo a1:Nat):Int))+((Qj XF a2:Nat):Int)):Int)<0 by omega)]
end Go.Proofs.YtiejfnbmficbmaaGreat.M
