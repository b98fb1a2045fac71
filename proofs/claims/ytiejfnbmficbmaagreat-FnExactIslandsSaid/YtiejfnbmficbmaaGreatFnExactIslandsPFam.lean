/- What the plain forms that FnExactIslands reaches come to: PFam. No conditions but those that each theorem states. -/
import Derived.Test.YtiejfnbmficbmaaGreatFnExactIslandsPState
set_option linter.all false
namespace Go.Proofs.YtiejfnbmficbmaaGreat.M
open Go Go.Eng Go.Proofs
set_option linter.unusedVariables false
def VI (x:XM):Nat:=ByteArray.size x.2.2.2.2
def Qom (x:XM):Prop:=ByteArray.size x.2.2.2.2<=maxLen
theorem QEE {x:XM}(h:qK Qtx x):Qom x:=h.2.2.2.2.1
theorem QGO (a0 a1 a2 a3:Int) (a4:ByteArray) (l:Int) (h0:0<=l) (hB:l<=1048576) (hf:Qom (a0,a1,a2,a3,a4)):QaU w (a0,a1,a2,a3,a4,l)=some (szI (VI (a0,a1,a2,a3,a4)) l):=by
 apply QtY
 simp only[Qom]at hf
 have e:VI (a0,a1,a2,a3,a4)=(ByteArray.size a4+0):=by simp only[VI];omega
 rw[e]
 simp only[Qi5]
 refine zd (by omega) (by omega) (hf) fun _=> ?_
 rw[w64 (by omega) (by omega)]
 exact Ky (by omega)
def XD (x:Qg):Nat:=VI (x.2.1,x.2.2.1,x.2.2.2.1,x.2.2.2.2.1,x.2.2.2.2.2)
def Qqr (x:Qg):Prop:=Qom (x.2.1,x.2.2.1,x.2.2.2.1,x.2.2.2.2.1,x.2.2.2.2.2)
theorem QGa {x:Qg}(h:qK QU x):Qqr x:=QEE ⟨h.2.1,h.2.2.1,h.2.2.2.1,h.2.2.2.2.1,h.2.2.2.2.2.1,trivial⟩
theorem QCn (a0 a1 a2 a3 a4:Int) (a5:ByteArray) (l:Int) (h0:0<=l) (hB:l<=1048576) (hf:Qqr (a0,a1,a2,a3,a4,a5)):Qes w (a0,a1,a2,a3,a4,a5,l)=some (szI (XD (a0,a1,a2,a3,a4,a5)) l):=by
 apply Qv8
 simp only[Qqr]at hf
 have e:XD (a0,a1,a2,a3,a4,a5)=(VI (a1,a2,a3,a4,a5)+0):=by simp only[XD];omega
 rw[e]
 simp only[QlX]
 refine ZJ (by omega) (QGO a1 a2 a3 a4 a5 _ (by omega) (by omega) (hf)) fun _=> ?_
 exact Ky (by omega)
def XO (a:List Qg):Nat:=a.length+Qi XD a
def Qoj (a:List Qg):Prop:=a.length<=maxLen/\∀x∈a,Qqr x
theorem QFB (a:List Qg) (l:Int) (h0:0<=l) (hB:l<=1048576) (hf:Qoj a):Qbk w (a,l)=some (szI (XO a) l):=by
 apply QtT
 simp only[QjU,XO]
 refine zd h0 hB hf.1 fun h=> ?_
 have e:=Qif XD a (fun l i=>JA wl (a,l,(i:Int))) 1048576
  (fun l i h1 r h0 hB h2 hk=>by
    apply yc
    have hs:=QCn a[i].1 a[i].2.1 a[i].2.2.1 a[i].2.2.2.1 a[i].2.2.2.2.1 a[i].2.2.2.2.2 l (by omega) (by omega) (hf.2 _ (QRf h1))
    have hs2:szI (XD a[i]) l=l - XD a[i]:=Vp h2
    simp only[zP,ilt h1,Qj h1,Qf h1,inc h1 (show a.length<=maxLen from hf.1),QQ1,hs,QQ0]
    simp only[show szI (XD (a[i].1,a[i].2.1,a[i].2.2.1,a[i].2.2.2.1,a[i].2.2.2.2.1,a[i].2.2.2.2.2)) l=l - XD a[i]from hs2,df (show¬l - (XD a[i]:Int)<0 by omega),QQ2]
    exact hk)
  (fun l i h1 h0 hB h2=>by
    apply yc
    have hs:=QCn a[i].1 a[i].2.1 a[i].2.2.1 a[i].2.2.2.1 a[i].2.2.2.2.1 a[i].2.2.2.2.2 l (by omega) (by omega) (hf.2 _ (QRf h1))
    have hs2:szI (XD a[i]) l= -1:=KQ h2
    simp only[zP,ilt h1,Qj h1,Qf h1,QQ1,hs,QQ0]
    simp only[show szI (XD (a[i].1,a[i].2.1,a[i].2.2.1,a[i].2.2.2.1,a[i].2.2.2.2.1,a[i].2.2.2.2.2)) l= -1 from hs2,dt (show(-1:Int)<0 by omega),QQ1])
  (fun l=>by
    apply yc
    simp only[zP,Qo,QQ2])
  (l - a.length) (by omega) (by omega)
 have hl:=hf.1
 simp only[maxLen]at hl
 rw[w64 (by omega) (by omega)]
 simp only[QQ6]at e
 rw[e,QQ0,Qd3]
def XI (a:List Qb):Nat:=a.length
def Qmc (a:List Qb):Prop:=a.length<=maxLen
theorem QFc (a:List Qb) (l:Int) (h0:0<=l) (hB:l<=1048576) (hf:Qmc a):vR w (a,l)=some (szI (XI a) l):=by
 apply QrW
 simp only[QhG]
 exact zd (m:=0) h0 hB hf fun h=>by rw[w64 (by omega) (by omega)];exact Ky (by omega)
def QF (x:Qk):Nat:=XO x.1+XI x.2
def yH (x:Qk):Prop:=Qoj x.1/\Qmc x.2
theorem Qpp {x:Qk}(h:qK X8 x):yH x:=⟨⟨h.1.1,fun y hy=>QGa (h.1.2 y hy)⟩,h.2.1.1⟩
theorem QoC (a0:List Qg) (a1:List Qb) (l:Int) (h0:0<=l) (hB:l<=1048576) (hf:yH (a0,a1)):qJ w (a0,a1,l)=some (szI (QF (a0,a1)) l):=by
 apply QsU
 simp only[yH]at hf
 have e:QF (a0,a1)=(XO a0+(XI a1+0)):=by simp only[QF];omega
 rw[e]
 simp only[Qi2]
 refine ZJ (by omega) (QFB a0 _ (by omega) (by omega) (hf.1)) fun _=> ?_
 refine ZJ (by omega) (QFc a1 _ (by omega) (by omega) (hf.2)) fun _=> ?_
 exact Ky (by omega)
def QS (a:List Int):Nat:=a.length
def QdZ (a:List Int):Prop:=a.length<=maxLen
theorem Qm8 (a:List Int) (l:Int) (h0:0<=l) (hB:l<=1048576) (hf:QdZ a):qz w (a,l)=some (szI (QS a) l):=by
 apply Qwu
 simp only[Qls]
 exact zd (m:=0) h0 hB hf fun h=>by rw[w64 (by omega) (by omega)];exact Ky (by omega)
def Zq (x:X5):Nat:=QS x.1
def Qno (x:X5):Prop:=QdZ x.1
theorem QG5 {x:X5}(h:qK Qyo x):Qno x:=h.1.1
theorem QH6 (a0:List Int) (a1 l:Int) (h0:0<=l) (hB:l<=1048576) (hf:Qno (a0,a1)):Qe1 w (a0,a1,l)=some (szI (Zq (a0,a1)) l):=by
 apply Qv2
 simp only[Qno]at hf
 have e:Zq (a0,a1)=(QS a0+0):=by simp only[Zq];omega
 rw[e]
 simp only[Qmf]
 refine ZJ (by omega) (Qm8 a0 _ (by omega) (by omega) (hf)) fun _=> ?_
 exact Ky (by omega)
def XQ (a:List Qk):Nat:=a.length+Qi QF a
def Qpx (a:List Qk):Prop:=a.length<=maxLen/\∀x∈a,yH x
theorem QEJ (a:List Qk) (l:Int) (h0:0<=l) (hB:l<=1048576) (hf:Qpx a):vF w (a,l)=some (szI (XQ a) l):=by
 apply Qsp
 simp only[QhM,XQ]
 refine zd h0 hB hf.1 fun h=> ?_
 have e:=Qif QF a (fun l i=>Vz wl (a,l,(i:Int))) 1048576
  (fun l i h1 r h0 hB h2 hk=>by
    apply zH
    have hs:=QoC a[i].1 a[i].2 l (by omega) (by omega) (hf.2 _ (QRf h1))
    have hs2:szI (QF a[i]) l=l - QF a[i]:=Vp h2
    simp only[xY,ilt h1,Qj h1,Qf h1,inc h1 (show a.length<=maxLen from hf.1),QQ1,hs,QQ0]
    simp only[show szI (QF (a[i].1,a[i].2)) l=l - QF a[i]from hs2,df (show¬l - (QF a[i]:Int)<0 by omega),QQ2]
    exact hk)
  (fun l i h1 h0 hB h2=>by
    apply zH
    have hs:=QoC a[i].1 a[i].2 l (by omega) (by omega) (hf.2 _ (QRf h1))
    have hs2:szI (QF a[i]) l= -1:=KQ h2
    simp only[xY,ilt h1,Qj h1,Qf h1,QQ1,hs,QQ0]
    simp only[show szI (QF (a[i].1,a[i].2)) l= -1 from hs2,dt (show(-1:Int)<0 by omega),QQ1])
  (fun l=>by
    apply zH
    simp only[xY,Qo,QQ2])
  (l - a.length) (by omega) (by omega)
 have hl:=hf.1
 simp only[maxLen]at hl
 rw[w64 (by omega) (by omega)]
 simp only[QQ6]at e
 rw[e,QQ0,Qd3]
def Z8 (x:ZL):Nat:=XQ x.2.2
def Qqd (x:ZL):Prop:=Qpx x.2.2
theorem QIM {x:ZL}(h:qK QyR x):Qqd x:=⟨h.2.2.1.1,fun y hy=>Qpp (h.2.2.1.2 y hy)⟩
theorem QIX (a0 a1:Int) (a2:List Qk) (l:Int) (h0:0<=l) (hB:l<=1048576) (hf:Qqd (a0,a1,a2)):Qh5 w (a0,a1,a2,l)=some (szI (Z8 (a0,a1,a2)) l):=by
 apply QxE
 simp only[Qqd]at hf
 have e:Z8 (a0,a1,a2)=(XQ a2+0):=by simp only[Z8];omega
 rw[e]
 simp only[QnL]
 refine ZJ (by omega) (QEJ a2 _ (by omega) (by omega) (hf)) fun _=> ?_
 exact Ky (by omega)
def Xr (a:List (List Int)):Nat:=a.length+Qi QS a
def QsD (a:List (List Int)):Prop:=a.length<=maxLen/\∀x∈a,QdZ x
theorem QF6 (a:List (List Int)) (l:Int) (h0:0<=l) (hB:l<=1048576) (hf:QsD a):Qba w (a,l)=some (szI (Xr a) l):=by
 apply Qtf
 simp only[QiP,Xr]
 refine zd h0 hB hf.1 fun h=> ?_
 have e:=Qif QS a (fun l i=>Jn wl (a,l,(i:Int))) 1048576
  (fun l i h1 r h0 hB h2 hk=>by
    apply yr
    have hs:=Qm8 a[i] l (by omega) (by omega) (hf.2 _ (QRf h1))
    have hs2:szI (QS a[i]) l=l - QS a[i]:=Vp h2
    simp only[zU,ilt h1,Qj h1,Qf h1,inc h1 (show a.length<=maxLen from hf.1),QQ1,hs,QQ0]
    simp only[show szI (QS a[i]) l=l - QS a[i]from hs2,df (show¬l - (QS a[i]:Int)<0 by omega),QQ2]
    exact hk)
  (fun l i h1 h0 hB h2=>by
    apply yr
    have hs:=Qm8 a[i] l (by omega) (by omega) (hf.2 _ (QRf h1))
    have hs2:szI (QS a[i]) l= -1:=KQ h2
    simp only[zU,ilt h1,Qj h1,Qf h1,QQ1,hs,QQ0]
    simp only[show szI (QS a[i]) l= -1 from hs2,dt (show(-1:Int)<0 by omega),QQ1])
  (fun l=>by
    apply yr
    simp only[zU,Qo,QQ2])
  (l - a.length) (by omega) (by omega)
 have hl:=hf.1
 simp only[maxLen]at hl
 rw[w64 (by omega) (by omega)]
 simp only[QQ6]at e
 rw[e,QQ0,Qd3]
def ZZ (a:List Qy):Nat:=a.length
def QrY (a:List Qy):Prop:=a.length<=maxLen
theorem QF8 (a:List Qy) (l:Int) (h0:0<=l) (hB:l<=1048576) (hf:QrY a):Qa0 w (a,l)=some (szI (ZZ a) l):=by
 apply Qs4
 simp only[Qjc]
 exact zd (m:=0) h0 hB hf fun h=>by rw[w64 (by omega) (by omega)];exact Ky (by omega)
def Z0 (a:List QM):Nat:=a.length
def Qsc (a:List QM):Prop:=a.length<=maxLen
theorem QHc (a:List QM) (l:Int) (h0:0<=l) (hB:l<=1048576) (hf:Qsc a):Qb6 w (a,l)=some (szI (Z0 a) l):=by
 apply QuZ
 simp only[QjY]
 exact zd (m:=0) h0 hB hf fun h=>by rw[w64 (by omega) (by omega)];exact Ky (by omega)
def Q7 (x:Qa):Nat:=QF (x.2.2.1,x.2.2.2.1)+Zq (x.2.2.2.2.1,x.2.2.2.2.2.1)+Z8 (x.2.2.2.2.2.2.1,x.2.2.2.2.2.2.2.1,x.2.2.2.2.2.2.2.2.1)+QS x.2.2.2.2.2.2.2.2.2.1+QS x.2.2.2.2.2.2.2.2.2.2.1+Xr x.2.2.2.2.2.2.2.2.2.2.2.1+ZZ x.2.2.2.2.2.2.2.2.2.2.2.2.2.2.1+Z0 x.2.2.2.2.2.2.2.2.2.2.2.2.2.2.2.2.2.2
def Qil (x:Qa):Prop:=yH (x.2.2.1,x.2.2.2.1)/\Qno (x.2.2.2.2.1,x.2.2.2.2.2.1)/\Qqd (x.2.2.2.2.2.2.1,x.2.2.2.2.2.2.2.1,x.2.2.2.2.2.2.2.2.1)/\QdZ x.2.2.2.2.2.2.2.2.2.1/\QdZ x.2.2.2.2.2.2.2.2.2.2.1/\QsD x.2.2.2.2.2.2.2.2.2.2.2.1/\QrY x.2.2.2.2.2.2.2.2.2.2.2.2.2.2.1/\Qsc x.2.2.2.2.2.2.2.2.2.2.2.2.2.2.2.2.2.2
theorem QFx {x:Qa}(h:qK YT x):Qil x:=⟨Qpp ⟨h.2.2.1,h.2.2.2.1,trivial⟩,QG5 ⟨h.2.2.2.2.1,h.2.2.2.2.2.1,trivial⟩,QIM ⟨h.2.2.2.2.2.2.1,h.2.2.2.2.2.2.2.1,h.2.2.2.2.2.2.2.2.1,trivial⟩,h.2.2.2.2.2.2.2.2.2.1.1,h.2.2.2.2.2.2.2.2.2.2.1.1,⟨h.2.2.2.2.2.2.2.2.2.2.2.1.1,fun y hy=>((h.2.2.2.2.2.2.2.2.2.2.2.1.2 y hy).1).1⟩,h.2.2.2.2.2.2.2.2.2.2.2.2.2.2.1.1,h.2.2.2.2.2.2.2.2.2.2.2.2.2.2.2.2.2.2.1.1⟩
theorem QBZ (a0 a1:Int) (a2:List Qg) (a3:List Qb) (a4:List Int) (a5 a6 a7:Int) (a8:List Qk) (a9 a10:List Int) (a11:List (List Int)) (a12 a13:Int) (a14:List Qy) (a15 a16 a17:Int) (a18:List QM) (l:Int) (h0:0<=l) (hB:l<=1048576) (hf:Qil (a0,a1,a2,a3,a4,a5,a6,a7,a8,a9,a10,a11,a12,a13,a14,a15,a16,a17,a18)):QeP w (a0,a1,a2,a3,a4,a5,a6,a7,a8,a9,a10,a11,a12,a13,a14,a15,a16,a17,a18,l)=some (szI (Q7 (a0,a1,a2,a3,a4,a5,a6,a7,a8,a9,a10,a11,a12,a13,a14,a15,a16,a17,a18)) l):=by
 apply Qwc
 simp only[Qil]at hf
 have e:Q7 (a0,a1,a2,a3,a4,a5,a6,a7,a8,a9,a10,a11,a12,a13,a14,a15,a16,a17,a18)=(QF (a2,a3)+(Zq (a4,a5)+(Z8 (a6,a7,a8)+(QS a9+(QS a10+(Xr a11+(ZZ a14+(Z0 a18+0)))))))):=by simp only[Q7];omega
 rw[e]
 simp only[QlG]
 refine ZJ (by omega) (QoC a2 a3 _ (by omega) (by omega) (hf.1)) fun _=> ?_
 refine ZJ (by omega) (QH6 a4 a5 _ (by omega) (by omega) (hf.2.1)) fun _=> ?_
 refine ZJ (by omega) (QIX a6 a7 a8 _ (by omega) (by omega) (hf.2.2.1)) fun _=> ?_
 refine ZJ (by omega) (Qm8 a9 _ (by omega) (by omega) (hf.2.2.2.1)) fun _=> ?_
 refine ZJ (by omega) (Qm8 a10 _ (by omega) (by omega) (hf.2.2.2.2.1)) fun _=> ?_
 refine ZJ (by omega) (QF6 a11 _ (by omega) (by omega) (hf.2.2.2.2.2.1)) fun _=> ?_
 refine ZJ (by omega) (QF8 a14 _ (by omega) (by omega) (hf.2.2.2.2.2.2.1)) fun _=> ?_
 refine ZJ (by omega) (QHc a18 _ (by omega) (by omega) (hf.2.2.2.2.2.2.2)) fun _=> ?_
 exact Ky (by omega)
def XR (a:List Qa):Nat:=a.length+Qi Q7 a
def Qst (a:List Qa):Prop:=a.length<=maxLen/\∀x∈a,Qil x
theorem QFV (a:List Qa) (l:Int) (h0:0<=l) (hB:l<=1048576) (hf:Qst a):Qa8 w (a,l)=some (szI (XR a) l):=by
 apply Qtp
 simp only[QiK,XR]
 refine zd h0 hB hf.1 fun h=> ?_
 have e:=Qif Q7 a (fun l i=>J5 wl (a,l,(i:Int))) 1048576
  (fun l i h1 r h0 hB h2 hk=>by
    apply yf
    have hs:=QBZ a[i].1 a[i].2.1 a[i].2.2.1 a[i].2.2.2.1 a[i].2.2.2.2.1 a[i].2.2.2.2.2.1 a[i].2.2.2.2.2.2.1 a[i].2.2.2.2.2.2.2.1 a[i].2.2.2.2.2.2.2.2.1 a[i].2.2.2.2.2.2.2.2.2.1 a[i].2.2.2.2.2.2.2.2.2.2.1 a[i].2.2.2.2.2.2.2.2.2.2.2.1 a[i].2.2.2.2.2.2.2.2.2.2.2.2.1 a[i].2.2.2.2.2.2.2.2.2.2.2.2.2.1 a[i].2.2.2.2.2.2.2.2.2.2.2.2.2.2.1 a[i].2.2.2.2.2.2.2.2.2.2.2.2.2.2.2.1 a[i].2.2.2.2.2.2.2.2.2.2.2.2.2.2.2.2.1 a[i].2.2.2.2.2.2.2.2.2.2.2.2.2.2.2.2.2.1 a[i].2.2.2.2.2.2.2.2.2.2.2.2.2.2.2.2.2.2 l (by omega) (by omega) (hf.2 _ (QRf h1))
    have hs2:szI (Q7 a[i]) l=l - Q7 a[i]:=Vp h2
    simp only[zT,ilt h1,Qj h1,Qf h1,inc h1 (show a.length<=maxLen from hf.1),QQ1,hs,QQ0]
    simp only[show szI (Q7 (a[i].1,a[i].2.1,a[i].2.2.1,a[i].2.2.2.1,a[i].2.2.2.2.1,a[i].2.2.2.2.2.1,a[i].2.2.2.2.2.2.1,a[i].2.2.2.2.2.2.2.1,a[i].2.2.2.2.2.2.2.2.1,a[i].2.2.2.2.2.2.2.2.2.1,a[i].2.2.2.2.2.2.2.2.2.2.1,a[i].2.2.2.2.2.2.2.2.2.2.2.1,a[i].2.2.2.2.2.2.2.2.2.2.2.2.1,a[i].2.2.2.2.2.2.2.2.2.2.2.2.2.1,a[i].2.2.2.2.2.2.2.2.2.2.2.2.2.2.1,a[i].2.2.2.2.2.2.2.2.2.2.2.2.2.2.2.1,a[i].2.2.2.2.2.2.2.2.2.2.2.2.2.2.2.2.1,a[i].2.2.2.2.2.2.2.2.2.2.2.2.2.2.2.2.2.1,a[i].2.2.2.2.2.2.2.2.2.2.2.2.2.2.2.2.2.2)) l=l - Q7 a[i]from hs2,df (show¬l - (Q7 a[i]:Int)<0 by omega),QQ2]
    exact hk)
  (fun l i h1 h0 hB h2=>by
    apply yf
    have hs:=QBZ a[i].1 a[i].2.1 a[i].2.2.1 a[i].2.2.2.1 a[i].2.2.2.2.1 a[i].2.2.2.2.2.1 a[i].2.2.2.2.2.2.1 a[i].2.2.2.2.2.2.2.1 a[i].2.2.2.2.2.2.2.2.1 a[i].2.2.2.2.2.2.2.2.2.1 a[i].2.2.2.2.2.2.2.2.2.2.1 a[i].2.2.2.2.2.2.2.2.2.2.2.1 a[i].2.2.2.2.2.2.2.2.2.2.2.2.1 a[i].2.2.2.2.2.2.2.2.2.2.2.2.2.1 a[i].2.2.2.2.2.2.2.2.2.2.2.2.2.2.1 a[i].2.2.2.2.2.2.2.2.2.2.2.2.2.2.2.1 a[i].2.2.2.2.2.2.2.2.2.2.2.2.2.2.2.2.1 a[i].2.2.2.2.2.2.2.2.2.2.2.2.2.2.2.2.2.1 a[i].2.2.2.2.2.2.2.2.2.2.2.2.2.2.2.2.2.2 l (by omega) (by omega) (hf.2 _ (QRf h1))
    have hs2:szI (Q7 a[i]) l= -1:=KQ h2
    simp only[zT,ilt h1,Qj h1,Qf h1,QQ1,hs,QQ0]
    simp only[show szI (Q7 (a[i].1,a[i].2.1,a[i].2.2.1,a[i].2.2.2.1,a[i].2.2.2.2.1,a[i].2.2.2.2.2.1,a[i].2.2.2.2.2.2.1,a[i].2.2.2.2.2.2.2.1,a[i].2.2.2.2.2.2.2.2.1,a[i].2.2.2.2.2.2.2.2.2.1,a[i].2.2.2.2.2.2.2.2.2.2.1,a[i].2.2.2.2.2.2.2.2.2.2.2.1,a[i].2.2.2.2.2.2.2.2.2.2.2.2.1,a[i].2.2.2.2.2.2.2.2.2.2.2.2.2.1,a[i].2.2.2.2.2.2.2.2.2.2.2.2.2.2.1,a[i].2.2.2.2.2.2.2.2.2.2.2.2.2.2.2.1,a[i].2.2.2.2.2.2.2.2.2.2.2.2.2.2.2.2.1,a[i].2.2.2.2.2.2.2.2.2.2.2.2.2.2.2.2.2.1,a[i].2.2.2.2.2.2.2.2.2.2.2.2.2.2.2.2.2.2)) l= -1 from hs2,dt (show(-1:Int)<0 by omega),QQ1])
  (fun l=>by
    apply yf
    simp only[zT,Qo,QQ2])
  (l - a.length) (by omega) (by omega)
 have hl:=hf.1
 simp only[maxLen]at hl
 rw[w64 (by omega) (by omega)]
 simp only[QQ6]at e
 rw[e,QQ0,Qd3]
def Zk (a:List Int):Nat:=a.length
def Qsx (a:List Int):Prop:=a.length<=maxLen
theorem QGe (a:List Int) (l:Int) (h0:0<=l) (hB:l<=1048576) (hf:Qsx a):QaK w (a,l)=some (szI (Zk a) l):=by
 apply Qt6
 simp only[Qjx]
 exact zd (m:=0) h0 hB hf fun h=>by rw[w64 (by omega) (by omega)];exact Ky (by omega)
def Xe (x:Qm):Nat:=Zk x.2.1
def Qnz (x:Qm):Prop:=Qsx x.2.1
theorem QFN {x:Qm}(h:qK Kk x):Qnz x:=h.2.1.1
theorem QCf (a0:Int) (a1:List Int) (a2:Bool) (l:Int) (h0:0<=l) (hB:l<=1048576) (hf:Qnz (a0,a1,a2)):QeA w (a0,a1,a2,l)=some (szI (Xe (a0,a1,a2)) l):=by
 apply QvQ
 simp only[Qnz]at hf
 have e:Xe (a0,a1,a2)=(Zk a1+0):=by simp only[Xe];omega
 rw[e]
 simp only[Qma]
 refine ZJ (by omega) (QGe a1 _ (by omega) (by omega) (hf)) fun _=> ?_
 exact Ky (by omega)
def Xn (a:List Qm):Nat:=a.length+Qi Xe a
def Qsi (a:List Qm):Prop:=a.length<=maxLen/\∀x∈a,Qnz x
theorem QFJ (a:List Qm) (l:Int) (h0:0<=l) (hB:l<=1048576) (hf:Qsi a):Qcg w (a,l)=some (szI (Xn a) l):=by
 apply Que
 simp only[QjL,Xn]
 refine zd h0 hB hf.1 fun h=> ?_
 have e:=Qif Xe a (fun l i=>JH wl (a,l,(i:Int))) 1048576
  (fun l i h1 r h0 hB h2 hk=>by
    apply yo
    have hs:=QCf a[i].1 a[i].2.1 a[i].2.2 l (by omega) (by omega) (hf.2 _ (QRf h1))
    have hs2:szI (Xe a[i]) l=l - Xe a[i]:=Vp h2
    simp only[zZ,ilt h1,Qj h1,Qf h1,inc h1 (show a.length<=maxLen from hf.1),QQ1,hs,QQ0]
    simp only[show szI (Xe (a[i].1,a[i].2.1,a[i].2.2)) l=l - Xe a[i]from hs2,df (show¬l - (Xe a[i]:Int)<0 by omega),QQ2]
    exact hk)
  (fun l i h1 h0 hB h2=>by
    apply yo
    have hs:=QCf a[i].1 a[i].2.1 a[i].2.2 l (by omega) (by omega) (hf.2 _ (QRf h1))
    have hs2:szI (Xe a[i]) l= -1:=KQ h2
    simp only[zZ,ilt h1,Qj h1,Qf h1,QQ1,hs,QQ0]
    simp only[show szI (Xe (a[i].1,a[i].2.1,a[i].2.2)) l= -1 from hs2,dt (show(-1:Int)<0 by omega),QQ1])
  (fun l=>by
    apply yo
    simp only[zZ,Qo,QQ2])
  (l - a.length) (by omega) (by omega)
 have hl:=hf.1
 simp only[maxLen]at hl
 rw[w64 (by omega) (by omega)]
 simp only[QQ6]at e
 rw[e,QQ0,Qd3]
def Xl (x:Qn):Nat:=QF (x.2.1,x.2.2)
def Qm3 (x:Qn):Prop:=yH (x.2.1,x.2.2)
theorem QFR {x:Qn}(h:qK YQ x):Qm3 x:=Qpp ⟨h.2.1,h.2.2.1,trivial⟩
theorem QBP (a0:Int) (a1:List Qg) (a2:List Qb) (l:Int) (h0:0<=l) (hB:l<=1048576) (hf:Qm3 (a0,a1,a2)):QeG w (a0,a1,a2,l)=some (szI (Xl (a0,a1,a2)) l):=by
 apply Qwm
 simp only[Qm3]at hf
 have e:Xl (a0,a1,a2)=(QF (a1,a2)+0):=by simp only[Xl];omega
 rw[e]
 simp only[Qlp]
 refine ZJ (by omega) (QoC a1 a2 _ (by omega) (by omega) (hf)) fun _=> ?_
 exact Ky (by omega)
def XU (a:List Qn):Nat:=a.length+Qi Xl a
def Qsa (a:List Qn):Prop:=a.length<=maxLen/\∀x∈a,Qm3 x
theorem QF3 (a:List Qn) (l:Int) (h0:0<=l) (hB:l<=1048576) (hf:Qsa a):Qa2 w (a,l)=some (szI (XU a) l):=by
 apply QuV
 simp only[Qkt,XU]
 refine zd h0 hB hf.1 fun h=> ?_
 have e:=Qif Xl a (fun l i=>Jz wl (a,l,(i:Int))) 1048576
  (fun l i h1 r h0 hB h2 hk=>by
    apply yg
    have hs:=QBP a[i].1 a[i].2.1 a[i].2.2 l (by omega) (by omega) (hf.2 _ (QRf h1))
    have hs2:szI (Xl a[i]) l=l - Xl a[i]:=Vp h2
    simp only[zX,ilt h1,Qj h1,Qf h1,inc h1 (show a.length<=maxLen from hf.1),QQ1,hs,QQ0]
    simp only[show szI (Xl (a[i].1,a[i].2.1,a[i].2.2)) l=l - Xl a[i]from hs2,df (show¬l - (Xl a[i]:Int)<0 by omega),QQ2]
    exact hk)
  (fun l i h1 h0 hB h2=>by
    apply yg
    have hs:=QBP a[i].1 a[i].2.1 a[i].2.2 l (by omega) (by omega) (hf.2 _ (QRf h1))
    have hs2:szI (Xl a[i]) l= -1:=KQ h2
    simp only[zX,ilt h1,Qj h1,Qf h1,QQ1,hs,QQ0]
    simp only[show szI (Xl (a[i].1,a[i].2.1,a[i].2.2)) l= -1 from hs2,dt (show(-1:Int)<0 by omega),QQ1])
  (fun l=>by
    apply yg
    simp only[zX,Qo,QQ2])
  (l - a.length) (by omega) (by omega)
 have hl:=hf.1
 simp only[maxLen]at hl
 rw[w64 (by omega) (by omega)]
 simp only[QQ6]at e
 rw[e,QQ0,Qd3]
def Q6 (x:XJ):Nat:=XR x.1+Xn x.2.1+XU x.2.2
def QdP (x:XJ):Prop:=Qst x.1/\Qsi x.2.1/\Qsa x.2.2
theorem QMD {x:XJ}(h:qK Qpy x):QdP x:=⟨⟨h.1.1,fun y hy=>QFx (h.1.2 y hy)⟩,⟨h.2.1.1,fun y hy=>QFN (h.2.1.2 y hy)⟩,⟨h.2.2.1.1,fun y hy=>QFR (h.2.2.1.2 y hy)⟩⟩
theorem QFy (a0:List Qa) (a1:List Qm) (a2:List Qn) (l:Int) (h0:0<=l) (hB:l<=1048576) (hf:QdP (a0,a1,a2)):QcA w (a0,a1,a2,l)=some (szI (Q6 (a0,a1,a2)) l):=by
 apply QtK
 simp only[QdP]at hf
 have e:Q6 (a0,a1,a2)=(XR a0+(Xn a1+(XU a2+0))):=by simp only[Q6];omega
 rw[e]
 simp only[Qj8]
 refine ZJ (by omega) (QFV a0 _ (by omega) (by omega) (hf.1)) fun _=> ?_
 refine ZJ (by omega) (QFJ a1 _ (by omega) (by omega) (hf.2.1)) fun _=> ?_
 refine ZJ (by omega) (QF3 a2 _ (by omega) (by omega) (hf.2.2)) fun _=> ?_
 exact Ky (by omega)
theorem QF0 (a0 a1 a2 a3:Int) (a4:ByteArray) (h:VI (a0,a1,a2,a3,a4)<=4294967296):QaW w (a0,a1,a2,a3,a4)=some (a0,a1,a2,a3,a4):=by
 apply Qtq
 simp only[VI]at h
 simp only[QkD]
theorem QIK (a0 a1 a2 a3 a4:Int) (a5:ByteArray) (h:XD (a0,a1,a2,a3,a4,a5)<=4294967296):QeJ w (a0,a1,a2,a3,a4,a5)=some (a0,a1,a2,a3,a4,a5):=by
 apply QvJ
 simp only[XD]at h
 simp only[Qk9,QF0 a1 a2 a3 a4 a5 (by omega),QQ0]
theorem QGY (a:List Qg) (h:XO a<=4294967296):Qdc w a=some a:=by
 apply Qts
 simp only[XO]at h
 have e:=VY a (fun x=>x) (fun i out=>qd wl (a,(i:Int),out)) (fun out=>out)
  (fun i h1 out r ho hk=>by
    apply QfS
    have hb:=Xz XD a i h1
    simp only[Qbs,ilt h1,ho,Qj h1,Qf h1,inc h1 (show a.length<=maxLen by simp[maxLen];omega),QQ1,QRb,QIK a[i].1 a[i].2.1 a[i].2.2.1 a[i].2.2.2.1 a[i].2.2.2.2.1 a[i].2.2.2.2.2 (show XD a[i]<=4294967296 by omega),QQ0]
    exact hk)
  (fun out ho=>by
    apply QfS
    simp only[Qbs,Qo,QQ2])
  (List.replicate a.length (0,0,0,0,0,ByteArray.empty)) (by simp)
 rw[List.map_id']at e
 have hf:fits a.length 56=true:=Qw (by omega)
 simp only[QiI,QRb,hf]
 simp
 exact e
theorem QGu (a0 a1:Int):QbA w (a0,a1)=some (a0,a1):=by
 apply Qto
 simp only[QiX]
theorem QE4 (a:List Qb) (h:XI a<=4294967296):vK w a=some a:=by
 apply QsF
 simp only[XI]at h
 have e:=VY a (fun x=>x) (fun i out=>VD wl (a,(i:Int),out)) (fun out=>out)
  (fun i h1 out r ho hk=>by
    apply QdD
    simp only[Qaf,ilt h1,ho,Qj h1,Qf h1,inc h1 (show a.length<=maxLen by simp[maxLen];omega),QQ1,QRb,QGu a[i].1 a[i].2,QQ0]
    exact hk)
  (fun out ho=>by
    apply QdD
    simp only[Qaf,Qo,QQ2])
  (List.replicate a.length (0,0)) (by simp)
 rw[List.map_id']at e
 have hf:fits a.length 16=true:=Qw (by omega)
 simp only[Qhe,QRb,hf]
 simp
 exact e
theorem QrT (a0:List Qg) (a1:List Qb) (h:QF (a0,a1)<=4294967296):xl w (a0,a1)=some (a0,a1):=by
 apply Qun
 simp only[QF]at h
 simp only[Qit,QGY a0 (by omega),QE4 a1 (by omega),QQ0]
theorem Qm7 (a:List Int) (h:QS a<=4294967296):ZM w a=some a:=by
 apply Qvt
 simp only[QS]at h
 have e:=VY a (fun x=>x) (fun i out=>xa wl (a,(i:Int),out)) (fun out=>out)
  (fun i h1 out r ho hk=>by
    apply QhL
    simp only[Qef,ilt h1,ho,Qj h1,Qf h1,inc h1 (show a.length<=maxLen by simp[maxLen];omega),QQ1,QRb]
    exact hk)
  (fun out ho=>by
    apply QhL
    simp only[Qef,Qo,QQ2])
  (List.replicate a.length 0) (by simp)
 rw[List.map_id']at e
 have hf:fits a.length 8=true:=Qw (by omega)
 simp only[Qk8,QRb,hf]
 simp
 exact e
theorem QIi (a0:List Int) (a1:Int) (h:Zq (a0,a1)<=4294967296):Qe8 w (a0,a1)=some (a0,a1):=by
 apply Qvk
 simp only[Zq]at h
 simp only[Qml,Qm7 a0 (by omega),QQ0]
theorem QEL (a:List Qk) (h:XQ a<=4294967296):vO w a=some a:=by
 apply Qsv
 simp only[XQ]at h
 have e:=VY a (fun x=>x) (fun i out=>VO wl (a,(i:Int),out)) (fun out=>out)
  (fun i h1 out r ho hk=>by
    apply Qdz
    have hb:=Xz QF a i h1
    simp only[Qad,ilt h1,ho,Qj h1,Qf h1,inc h1 (show a.length<=maxLen by simp[maxLen];omega),QQ1,QRb,QrT a[i].1 a[i].2 (show QF a[i]<=4294967296 by omega),QQ0]
    exact hk)
  (fun out ho=>by
    apply Qdz
    simp only[Qad,Qo,QQ2])
  (List.replicate a.length ([],[])) (by simp)
 rw[List.map_id']at e
 have hf:fits a.length 48=true:=Qw (by omega)
 simp only[Qhm,QRb,hf]
 simp
 exact e
theorem QJj (a0 a1:Int) (a2:List Qk) (h:Z8 (a0,a1,a2)<=4294967296):Qid w (a0,a1,a2)=some (a0,a1,a2):=by
 apply QxX
 simp only[Z8]at h
 simp only[Qna,QEL a2 (by omega),QQ0]
theorem QGZ (a:List (List Int)) (h:Xr a<=4294967296):Qcw w a=some a:=by
 apply QtN
 simp only[Xr]at h
 have e:=VY a (fun x=>x) (fun i out=>JM wl (a,(i:Int),out)) (fun out=>out)
  (fun i h1 out r ho hk=>by
    apply Qgg
    have hb:=Xz QS a i h1
    simp only[QcF,ilt h1,ho,Qj h1,Qf h1,inc h1 (show a.length<=maxLen by simp[maxLen];omega),QQ1,QRb,Qm7 a[i] (show QS a[i]<=4294967296 by omega),QQ0]
    exact hk)
  (fun out ho=>by
    apply Qgg
    simp only[QcF,Qo,QQ2])
  (List.replicate a.length []) (by simp)
 rw[List.map_id']at e
 have hf:fits a.length 24=true:=Qw (by omega)
 simp only[Qiy,QRb,hf]
 simp
 exact e
theorem QIm (a0 a1:Int) (a2:Bool) (a3:Int):Qeo w (a0,a1,a2,a3)=some (a0,a1,a2,a3):=by
 apply Qwb
 simp only[QkO]
theorem QFG (a:List Qy) (h:ZZ a<=4294967296):QcV w a=some a:=by
 apply Qtw
 simp only[ZZ]at h
 have e:=VY a (fun x=>x) (fun i out=>JB wl (a,(i:Int),out)) (fun out=>out)
  (fun i h1 out r ho hk=>by
    apply QfU
    simp only[QbX,ilt h1,ho,Qj h1,Qf h1,inc h1 (show a.length<=maxLen by simp[maxLen];omega),QQ1,QRb,QIm a[i].1 a[i].2.1 a[i].2.2.1 a[i].2.2.2,QQ0]
    exact hk)
  (fun out ho=>by
    apply QfU
    simp only[QbX,Qo,QQ2])
  (List.replicate a.length (0,0,false,0)) (by simp)
 rw[List.map_id']at e
 have hf:fits a.length 32=true:=Qw (by omega)
 simp only[QjI,QRb,hf]
 simp
 exact e
theorem QIP (a0 a1 a2:Int):QeF w (a0,a1,a2)=some (a0,a1,a2):=by
 apply QwF
 simp only[QlZ]
theorem QGJ (a:List QM) (h:Z0 a<=4294967296):Qc4 w a=some a:=by
 apply Quz
 simp only[Z0]at h
 have e:=VY a (fun x=>x) (fun i out=>Jm wl (a,(i:Int),out)) (fun out=>out)
  (fun i h1 out r ho hk=>by
    apply Qgf
    simp only[Qdk,ilt h1,ho,Qj h1,Qf h1,inc h1 (show a.length<=maxLen by simp[maxLen];omega),QQ1,QRb,QIP a[i].1 a[i].2.1 a[i].2.2,QQ0]
    exact hk)
  (fun out ho=>by
    apply Qgf
    simp only[Qdk,Qo,QQ2])
  (List.replicate a.length (0,0,0)) (by simp)
 rw[List.map_id']at e
 have hf:fits a.length 24=true:=Qw (by omega)
 simp only[QkI,QRb,hf]
 simp
 exact e
theorem QIl (a0 a1:Int) (a2:List Qg) (a3:List Qb) (a4:List Int) (a5 a6 a7:Int) (a8:List Qk) (a9 a10:List Int) (a11:List (List Int)) (a12 a13:Int) (a14:List Qy) (a15 a16 a17:Int) (a18:List QM) (h:Q7 (a0,a1,a2,a3,a4,a5,a6,a7,a8,a9,a10,a11,a12,a13,a14,a15,a16,a17,a18)<=4294967296):QeL w (a0,a1,a2,a3,a4,a5,a6,a7,a8,a9,a10,a11,a12,a13,a14,a15,a16,a17,a18)=some (a0,a1,a2,a3,a4,a5,a6,a7,a8,a9,a10,a11,a12,a13,a14,a15,a16,a17,a18):=by
 apply QvE
 simp only[Q7]at h
 simp only[Ql2,QrT a2 a3 (by omega),QIi a4 a5 (by omega),QJj a6 a7 a8 (by omega),Qm7 a9 (by omega),Qm7 a10 (by omega),QGZ a11 (by omega),QFG a14 (by omega),QGJ a18 (by omega),QQ0]
theorem QGL (a:List Qa) (h:XR a<=4294967296):QbH w a=some a:=by
 apply QuT
 simp only[XR]at h
 have e:=VY a (fun x=>x) (fun i out=>J9 wl (a,(i:Int),out)) (fun out=>out)
  (fun i h1 out r ho hk=>by
    apply Qgm
    have hb:=Xz Q7 a i h1
    simp only[QbO,ilt h1,ho,Qj h1,Qf h1,inc h1 (show a.length<=maxLen by simp[maxLen];omega),QQ1,QRb,QIl a[i].1 a[i].2.1 a[i].2.2.1 a[i].2.2.2.1 a[i].2.2.2.2.1 a[i].2.2.2.2.2.1 a[i].2.2.2.2.2.2.1 a[i].2.2.2.2.2.2.2.1 a[i].2.2.2.2.2.2.2.2.1 a[i].2.2.2.2.2.2.2.2.2.1 a[i].2.2.2.2.2.2.2.2.2.2.1 a[i].2.2.2.2.2.2.2.2.2.2.2.1 a[i].2.2.2.2.2.2.2.2.2.2.2.2.1 a[i].2.2.2.2.2.2.2.2.2.2.2.2.2.1 a[i].2.2.2.2.2.2.2.2.2.2.2.2.2.2.1 a[i].2.2.2.2.2.2.2.2.2.2.2.2.2.2.2.1 a[i].2.2.2.2.2.2.2.2.2.2.2.2.2.2.2.2.1 a[i].2.2.2.2.2.2.2.2.2.2.2.2.2.2.2.2.2.1 a[i].2.2.2.2.2.2.2.2.2.2.2.2.2.2.2.2.2.2 (show Q7 a[i]<=4294967296 by omega),QQ0]
    exact hk)
  (fun out ho=>by
    apply Qgm
    simp only[QbO,Qo,QQ2])
  (List.replicate a.length (0,0,[],[],[],0,0,0,[],[],[],[],0,0,[],0,0,0,[])) (by simp)
 rw[List.map_id']at e
 have hf:fits a.length 296=true:=Qw (by omega)
 simp only[QiL,QRb,hf]
 simp
 exact e
theorem QFX (a:List Int) (h:Zk a<=4294967296):QcX w a=some a:=by
 apply Qu8
 simp only[Zk]at h
 have e:=VY a (fun x=>x) (fun i out=>JX wl (a,(i:Int),out)) (fun out=>out)
  (fun i h1 out r ho hk=>by
    apply QfG
    simp only[QbS,ilt h1,ho,Qj h1,Qf h1,inc h1 (show a.length<=maxLen by simp[maxLen];omega),QQ1,QRb]
    exact hk)
  (fun out ho=>by
    apply QfG
    simp only[QbS,Qo,QQ2])
  (List.replicate a.length 0) (by simp)
 rw[List.map_id']at e
 have hf:fits a.length 1=true:=Qw (by omega)
 simp only[Qkp,QRb,hf]
 simp
 exact e
theorem QIN (a0:Int) (a1:List Int) (a2:Bool) (h:Xe (a0,a1,a2)<=4294967296):QeN w (a0,a1,a2)=some (a0,a1,a2):=by
 apply QwI
 simp only[Xe]at h
 simp only[Ql0,QFX a1 (by omega),QQ0]
theorem QFw (a:List Qm) (h:Xn a<=4294967296):QcS w a=some a:=by
 apply QuF
 simp only[Xn]at h
 have e:=VY a (fun x=>x) (fun i out=>qb wl (a,(i:Int),out)) (fun out=>out)
  (fun i h1 out r ho hk=>by
    apply Qgi
    have hb:=Xz Xe a i h1
    simp only[Qb8,ilt h1,ho,Qj h1,Qf h1,inc h1 (show a.length<=maxLen by simp[maxLen];omega),QQ1,QRb,QIN a[i].1 a[i].2.1 a[i].2.2 (show Xe a[i]<=4294967296 by omega),QQ0]
    exact hk)
  (fun out ho=>by
    apply Qgi
    simp only[Qb8,Qo,QQ2])
  (List.replicate a.length (0,[],false)) (by simp)
 rw[List.map_id']at e
 have hf:fits a.length 40=true:=Qw (by omega)
 simp only[QjV,QRb,hf]
 simp
 exact e
theorem QIB (a0:Int) (a1:List Qg) (a2:List Qb) (h:Xl (a0,a1,a2)<=4294967296):QeS w (a0,a1,a2)=some (a0,a1,a2):=by
 apply Qwe
 simp only[Xl]at h
 simp only[Qmn,QrT a1 a2 (by omega),QQ0]
theorem QFv (a:List Qn) (h:XU a<=4294967296):QaS w a=some a:=by
 apply Quf
 simp only[XU]at h
 have e:=VY a (fun x=>x) (fun i out=>JL wl (a,(i:Int),out)) (fun out=>out)
  (fun i h1 out r ho hk=>by
    apply Qfp
    have hb:=Xz Xl a i h1
    simp only[QbR,ilt h1,ho,Qj h1,Qf h1,inc h1 (show a.length<=maxLen by simp[maxLen];omega),QQ1,QRb,QIB a[i].1 a[i].2.1 a[i].2.2 (show Xl a[i]<=4294967296 by omega),QQ0]
    exact hk)
  (fun out ho=>by
    apply Qfp
    simp only[QbR,Qo,QQ2])
  (List.replicate a.length (0,[],[])) (by simp)
 rw[List.map_id']at e
 have hf:fits a.length 56=true:=Qw (by omega)
 simp only[QjB,QRb,hf]
 simp
 exact e
theorem QGg (a0:List Qa) (a1:List Qm) (a2:List Qn) (h:Q6 (a0,a1,a2)<=4294967296):VB w (a0,a1,a2)=some (a0,a1,a2):=by
 apply Qtg
 simp only[Q6]at h
 simp only[Qkq,QGL a0 (by omega),QFw a1 (by omega),QFv a2 (by omega),QQ0]
theorem QG9 (a0 a1 a2 a3:Int) (a4:ByteArray) (h:VI (a0,a1,a2,a3,a4)<=4294967296):QcP w (a0,a1,a2,a3,a4,a0,a1,a2,a3,a4)=some true:=by
 apply Qu7
 simp only[VI]at h
 simp only[Qir,decide_true,QQ3,QQ2,QY,beq_self_eq_true,QQ0]
theorem QIe (a0 a1 a2 a3 a4:Int) (a5:ByteArray) (h:XD (a0,a1,a2,a3,a4,a5)<=4294967296):QeE w (a0,a1,a2,a3,a4,a5,a0,a1,a2,a3,a4,a5)=some true:=by
 apply Qws
 simp only[XD]at h
 simp only[Qly,QG9 a1 a2 a3 a4 a5 (by omega),decide_true,QQ3,QQ2,QY,beq_self_eq_true,QQ0]
theorem QF1 (a:List Qg) (h:XO a<=4294967296):Qdd w (a,a)=some true:=by
 apply QuW
 simp only[XO]at h
 have e:=VL a.length (fun i=>JV wl (a,a,(i:Int))) (.inr ())
  (fun i h1 r hk=>by
    apply Qff
    have hb:=Xz XD a i h1
    simp only[Qcq,ilt h1,Qj h1,Qf h1,inc h1 (show a.length<=maxLen by simp[maxLen];omega),QQ1,decide_true,QQ3,QQ2,QY,beq_self_eq_true,QIe a[i].1 a[i].2.1 a[i].2.2.1 a[i].2.2.2.1 a[i].2.2.2.2.1 a[i].2.2.2.2.2 (show XD a[i]<=4294967296 by omega),QQ0]
    exact hk)
  (by
    apply Qff
    simp only[Qcq,Qo,QQ2])
 simp only[QQ6]at e
 simp only[Qiz,decide_true,QQ3,QQ2,e,QQ0,Qp,QY0]
theorem QFL (a0 a1:Int):QaP w (a0,a1,a0,a1)=some true:=by
 apply Qu9
 simp only[Qkn,decide_true,QQ3,QQ2,QY,beq_self_eq_true,QQ0]
theorem QEU (a:List Qb) (h:XI a<=4294967296):vN w (a,a)=some true:=by
 apply QsE
 simp only[XI]at h
 have e:=VL a.length (fun i=>Vx wl (a,a,(i:Int))) (.inr ())
  (fun i h1 r hk=>by
    apply Qdu
    simp only[Qai,ilt h1,Qj h1,Qf h1,inc h1 (show a.length<=maxLen by simp[maxLen];omega),QQ1,decide_true,QQ3,QQ2,QY,beq_self_eq_true,QFL a[i].1 a[i].2,QQ0]
    exact hk)
  (by
    apply Qdu
    simp only[Qai,Qo,QQ2])
 simp only[QQ6]at e
 simp only[QhE,decide_true,QQ3,QQ2,e,QQ0,Qp,QY0]
theorem QrR (a0:List Qg) (a1:List Qb) (h:QF (a0,a1)<=4294967296):xp w (a0,a1,a0,a1)=some true:=by
 apply Qs6
 simp only[QF]at h
 simp only[Qj7,QF1 a0 (by omega),QEU a1 (by omega),decide_true,QQ3,QQ2,QY,beq_self_eq_true,QQ0]
theorem Qnn (a:List Int) (h:QS a<=4294967296):Vn w (a,a)=some true:=by
 apply Qwj
 simp only[QS]at h
 have e:=VL a.length (fun i=>xk wl (a,a,(i:Int))) (.inr ())
  (fun i h1 r hk=>by
    apply Qhs
    simp only[Qeb,ilt h1,Qj h1,Qf h1,inc h1 (show a.length<=maxLen by simp[maxLen];omega),QQ1,decide_true,QQ3,QQ2,QY,beq_self_eq_true]
    exact hk)
  (by
    apply Qhs
    simp only[Qeb,Qo,QQ2])
 simp only[QQ6]at e
 simp only[Qlt,decide_true,QQ3,QQ2,e,QQ0,Qp,QY0]
theorem QIO (a0:List Int) (a1:Int) (h:Zq (a0,a1)<=4294967296):Qep w (a0,a1,a0,a1)=some true:=by
 apply QvX
 simp only[Zq]at h
 simp only[QlV,Qnn a0 (by omega),decide_true,QQ3,QQ2,QY,beq_self_eq_true,QQ0]
theorem QED (a:List Qk) (h:XQ a<=4294967296):vB w (a,a)=some true:=by
 apply Qr0
 simp only[XQ]at h
 have e:=VL a.length (fun i=>VK wl (a,a,(i:Int))) (.inr ())
  (fun i h1 r hk=>by
    apply Qdx
    have hb:=Xz QF a i h1
    simp only[vT,ilt h1,Qj h1,Qf h1,inc h1 (show a.length<=maxLen by simp[maxLen];omega),QQ1,decide_true,QQ3,QQ2,QY,beq_self_eq_true,QrR a[i].1 a[i].2 (show QF a[i]<=4294967296 by omega),QQ0]
    exact hk)
  (by
    apply Qdx
    simp only[vT,Qo,QQ2])
 simp only[QQ6]at e
 simp only[Qht,decide_true,QQ3,QQ2,e,QQ0,Qp,QY0]
theorem QI9 (a0 a1:Int) (a2:List Qk) (h:Z8 (a0,a1,a2)<=4294967296):QhV w (a0,a1,a2,a0,a1,a2)=some true:=by
 apply QxU
 simp only[Z8]at h
 simp only[Qng,QED a2 (by omega),decide_true,QQ3,QQ2,QY,beq_self_eq_true,QQ0]
theorem QGd (a:List (List Int)) (h:Xr a<=4294967296):QcH w (a,a)=some true:=by
 apply Qtc
 simp only[Xr]at h
 have e:=VL a.length (fun i=>JP wl (a,a,(i:Int))) (.inr ())
  (fun i h1 r hk=>by
    apply Qfv
    have hb:=Xz QS a i h1
    simp only[Qct,ilt h1,Qj h1,Qf h1,inc h1 (show a.length<=maxLen by simp[maxLen];omega),QQ1,decide_true,QQ3,QQ2,QY,beq_self_eq_true,Qnn a[i] (show QS a[i]<=4294967296 by omega),QQ0]
    exact hk)
  (by
    apply Qfv
    simp only[Qct,Qo,QQ2])
 simp only[QQ6]at e
 simp only[QiF,decide_true,QQ3,QQ2,e,QQ0,Qp,QY0]
theorem QIA (a0 a1:Int) (a2:Bool) (a3:Int):Qet w (a0,a1,a2,a3,a0,a1,a2,a3)=some true:=by
 apply QvM
 simp only[Qll,decide_true,QQ3,QQ2,QY,beq_self_eq_true,QQ0]
theorem QGW (a:List Qy) (h:ZZ a<=4294967296):Qbn w (a,a)=some true:=by
 apply QuA
 simp only[ZZ]at h
 have e:=VL a.length (fun i=>JZ wl (a,a,(i:Int))) (.inr ())
  (fun i h1 r hk=>by
    apply Qf0
    simp only[QbQ,ilt h1,Qj h1,Qf h1,inc h1 (show a.length<=maxLen by simp[maxLen];omega),QQ1,decide_true,QQ3,QQ2,QY,beq_self_eq_true,QIA a[i].1 a[i].2.1 a[i].2.2.1 a[i].2.2.2,QQ0]
    exact hk)
  (by
    apply Qf0
    simp only[QbQ,Qo,QQ2])
 simp only[QQ6]at e
 simp only[QjP,decide_true,QQ3,QQ2,e,QQ0,Qp,QY0]
theorem QIa (a0 a1 a2:Int):Qer w (a0,a1,a2,a0,a1,a2)=some true:=by
 apply QvT
 simp only[Qla,decide_true,QQ3,QQ2,QY,beq_self_eq_true,QQ0]
theorem QFT (a:List QM) (h:Z0 a<=4294967296):QbY w (a,a)=some true:=by
 apply Qt8
 simp only[Z0]at h
 have e:=VL a.length (fun i=>JC wl (a,a,(i:Int))) (.inr ())
  (fun i h1 r hk=>by
    apply QfO
    simp only[Qbc,ilt h1,Qj h1,Qf h1,inc h1 (show a.length<=maxLen by simp[maxLen];omega),QQ1,decide_true,QQ3,QQ2,QY,beq_self_eq_true,QIa a[i].1 a[i].2.1 a[i].2.2,QQ0]
    exact hk)
  (by
    apply QfO
    simp only[Qbc,Qo,QQ2])
 simp only[QQ6]at e
 simp only[Qki,decide_true,QQ3,QQ2,e,QQ0,Qp,QY0]
theorem QIt (a0 a1:Int) (a2:List Qg) (a3:List Qb) (a4:List Int) (a5 a6 a7:Int) (a8:List Qk) (a9 a10:List Int) (a11:List (List Int)) (a12 a13:Int) (a14:List Qy) (a15 a16 a17:Int) (a18:List QM) (h:Q7 (a0,a1,a2,a3,a4,a5,a6,a7,a8,a9,a10,a11,a12,a13,a14,a15,a16,a17,a18)<=4294967296):Qeq w (a0,a1,a2,a3,a4,a5,a6,a7,a8,a9,a10,a11,a12,a13,a14,a15,a16,a17,a18,a0,a1,a2,a3,a4,a5,a6,a7,a8,a9,a10,a11,a12,a13,a14,a15,a16,a17,a18)=some true:=by
 apply Qvx
 simp only[Q7]at h
 simp only[QkM,QrR a2 a3 (by omega),QIO a4 a5 (by omega),QI9 a6 a7 a8 (by omega),Qnn a9 (by omega),Qnn a10 (by omega),QGd a11 (by omega),QGW a14 (by omega),QFT a18 (by omega),decide_true,QQ3,QQ2,QY,beq_self_eq_true,QQ0]
theorem QFI (a:List Qa) (h:XR a<=4294967296):Qbd w (a,a)=some true:=by
 apply QtA
 simp only[XR]at h
 have e:=VL a.length (fun i=>Jw wl (a,a,(i:Int))) (.inr ())
  (fun i h1 r hk=>by
    apply QfF
    have hb:=Xz Q7 a i h1
    simp only[Qc8,ilt h1,Qj h1,Qf h1,inc h1 (show a.length<=maxLen by simp[maxLen];omega),QQ1,decide_true,QQ3,QQ2,QY,beq_self_eq_true,QIt a[i].1 a[i].2.1 a[i].2.2.1 a[i].2.2.2.1 a[i].2.2.2.2.1 a[i].2.2.2.2.2.1 a[i].2.2.2.2.2.2.1 a[i].2.2.2.2.2.2.2.1 a[i].2.2.2.2.2.2.2.2.1 a[i].2.2.2.2.2.2.2.2.2.1 a[i].2.2.2.2.2.2.2.2.2.2.1 a[i].2.2.2.2.2.2.2.2.2.2.2.1 a[i].2.2.2.2.2.2.2.2.2.2.2.2.1 a[i].2.2.2.2.2.2.2.2.2.2.2.2.2.1 a[i].2.2.2.2.2.2.2.2.2.2.2.2.2.2.1 a[i].2.2.2.2.2.2.2.2.2.2.2.2.2.2.2.1 a[i].2.2.2.2.2.2.2.2.2.2.2.2.2.2.2.2.1 a[i].2.2.2.2.2.2.2.2.2.2.2.2.2.2.2.2.2.1 a[i].2.2.2.2.2.2.2.2.2.2.2.2.2.2.2.2.2.2 (show Q7 a[i]<=4294967296 by omega),QQ0]
    exact hk)
  (by
    apply QfF
    simp only[Qc8,Qo,QQ2])
 simp only[QQ6]at e
 simp only[QiZ,decide_true,QQ3,QQ2,e,QQ0,Qp,QY0]
theorem QHa (a:List Int) (h:Zk a<=4294967296):QbJ w (a,a)=some true:=by
 apply QtD
 simp only[Zk]at h
 have e:=VL a.length (fun i=>JW wl (a,a,(i:Int))) (.inr ())
  (fun i h1 r hk=>by
    apply Qfr
    simp only[Qdp,ilt h1,Qj h1,Qf h1,inc h1 (show a.length<=maxLen by simp[maxLen];omega),QQ1,decide_true,QQ3,QQ2,QY,beq_self_eq_true]
    exact hk)
  (by
    apply Qfr
    simp only[Qdp,Qo,QQ2])
 simp only[QQ6]at e
 simp only[Qj4,decide_true,QQ3,QQ2,e,QQ0,Qp,QY0]
theorem QIL (a0:Int) (a1:List Int) (a2:Bool) (h:Xe (a0,a1,a2)<=4294967296):QeD w (a0,a1,a2,a0,a1,a2)=some true:=by
 apply Qvo
 simp only[Xe]at h
 simp only[QkQ,QHa a1 (by omega),decide_true,QQ3,QQ2,QY,beq_self_eq_true,QQ0]
theorem QFF (a:List Qm) (h:Xn a<=4294967296):Qcl w (a,a)=some true:=by
 apply Quu
 simp only[Xn]at h
 have e:=VL a.length (fun i=>Jr wl (a,a,(i:Int))) (.inr ())
  (fun i h1 r hk=>by
    apply Qgu
    have hb:=Xz Xe a i h1
    simp only[Qcz,ilt h1,Qj h1,Qf h1,inc h1 (show a.length<=maxLen by simp[maxLen];omega),QQ1,decide_true,QQ3,QQ2,QY,beq_self_eq_true,QIL a[i].1 a[i].2.1 a[i].2.2 (show Xe a[i]<=4294967296 by omega),QQ0]
    exact hk)
  (by
    apply Qgu
    simp only[Qcz,Qo,QQ2])
 simp only[QQ6]at e
 simp only[QjO,decide_true,QQ3,QQ2,e,QQ0,Qp,QY0]
theorem QIS (a0:Int) (a1:List Qg) (a2:List Qb) (h:Xl (a0,a1,a2)<=4294967296):Qev w (a0,a1,a2,a0,a1,a2)=some true:=by
 apply QvV
 simp only[Xl]at h
 simp only[Qk3,QrR a1 a2 (by omega),decide_true,QQ3,QQ2,QY,beq_self_eq_true,QQ0]
theorem QFK (a:List Qn) (h:XU a<=4294967296):Qbg w (a,a)=some true:=by
 apply Qs0
 simp only[XU]at h
 have e:=VL a.length (fun i=>Jy wl (a,a,(i:Int))) (.inr ())
  (fun i h1 r hk=>by
    apply Qfe
    have hb:=Xz Xl a i h1
    simp only[QbE,ilt h1,Qj h1,Qf h1,inc h1 (show a.length<=maxLen by simp[maxLen];omega),QQ1,decide_true,QQ3,QQ2,QY,beq_self_eq_true,QIS a[i].1 a[i].2.1 a[i].2.2 (show Xl a[i]<=4294967296 by omega),QQ0]
    exact hk)
  (by
    apply Qfe
    simp only[QbE,Qo,QQ2])
 simp only[QQ6]at e
 simp only[QiY,decide_true,QQ3,QQ2,e,QQ0,Qp,QY0]
theorem QzI (a0:List Qa) (a1:List Qm) (a2:List Qn) (h:Q6 (a0,a1,a2)<=4294967296):Ks w (a0,a1,a2,a0,a1,a2)=some true:=by
 apply Qtd
 simp only[Q6]at h
 simp only[Qkb,QFI a0 (by omega),QFF a1 (by omega),QFK a2 (by omega),decide_true,QQ3,QQ2,QY,beq_self_eq_true,QQ0]
theorem Qx2:∀(n:Nat) (k:Int) (out:ByteArray),0<=k->k<=9223372036854775807->k<10^n->ByteArray.size out+n<=100000->∃r,VG wl (k,out)=some r/\ByteArray.size r<=100000:=by
 intro n
 induction n with
 |zero=>
  intro k out h0 hm h1 h2
  have:k=0:=by omega
  subst this
  refine⟨out, ?_,by omega⟩
  apply zD
  simp only[xW,df (show¬(0:Int)<0 by omega),QQ2]
 |succ n ih=>
  intro k out h0 hm h1 h2
  by_cases hk:0<k
  ·have hd:=Int.tdiv_eq_ediv_of_nonneg (b:=10) h0
   obtain⟨r,hr,hs⟩:=ih (Int.tdiv k 10) (Y8 [IntKind.wrap .u8 (wR (48+Int.tmod k 10))]++out) (by omega) (by omega) (by rw[Int.pow_succ]at h1;omega) (by rw[ByteArray.size_append,QpT];simp;omega)
   refine⟨r, ?_,hs⟩
   apply zD
   simp only[xW,dt hk,QQ1,dt (show(10:Int)≠0 by omega),QpT,Qw (show(List.length [IntKind.wrap .u8 (wR (48+Int.tmod k 10))]+ByteArray.size out)*1<=140737488351232 by simp;omega)]
   rw[w64 (n:=Int.tdiv k 10) (by omega) (by omega)]
   exact hr
  ·have:k=0:=by omega
   subst this
   refine⟨out, ?_,by omega⟩
   apply zD
   simp only[xW,df (show¬(0:Int)<0 by omega),QQ2]
noncomputable def Qya (k:Int):ByteArray:=(K3 w k).getD ByteArray.empty
theorem QrC (k:Int) (h0:0<k) (hm:k<=9223372036854775807):K3 w k=some (Qya k):=by
 obtain⟨r,hr,hs⟩:=Qx2 30 k (⟨#[]⟩:ByteArray) (by omega) hm (by omega) (by show 0+30<=100000;omega)
 have:K3 w k=some ((⟨#[109]⟩:ByteArray)++r):=by
  apply Qsd
  have h1:ByteArray.size (⟨#[109]⟩:ByteArray)=1:=rfl
  simp only[QhO,df (show¬k<=0 by omega),QQ2,hr,QQ0,Qw (show(ByteArray.size (⟨#[109]⟩:ByteArray)+ByteArray.size r)*1<=140737488351232 by omega),QQ1]
 rw[Qya,this];rfl
noncomputable def Yn (x:Qg) (n:Int):Qg:=(n,(n+1),((n+1)+1),(((n+1)+1)+1),((((n+1)+1)+1)+1),Qya (((((n+1)+1)+1)+1)+1))
def Qz (x:Qg):Nat:=6
theorem QBu (x:Qg):Qz x<=64*(XD x+1):=by
 simp only[Qz,VI,XD];omega
theorem Qoc (a:List Qg):Qi Qz a<=64*XO a:=by
 have h:=Qel Qz XD (fun x=>QBu x) a
 simp only[XO];omega
theorem Qop (a:List Qg) (k:Int) (hk:0<k) (hs:k+((Qi Qz a:Nat):Int)<=1152921504606846976) (h:XO a<=4294967296):Vu w (a,k)=some (k+((Qi Qz a:Nat):Int),Qu Yn Qz a k):=by
 apply Qq2
 simp only[XO]at h
 have e:=Kl Yn Qz a (fun k i ys=>YC wl (k,(i:Int),ys)) (fun k ys=>(k,ys)) 1152921504606846976
  (fun k i ys h1 r hy hm h0 hB hk=>by
    apply Qca
    have hb:=Y0 XD hm
    simp only[Qz]at hB
    have hw0:wR (k+1)=k+1:=w64 (by omega) (by omega)
    have hw1:wR ((k+1)+1)=(k+1)+1:=w64 (by omega) (by omega)
    have hw2:wR (((k+1)+1)+1)=((k+1)+1)+1:=w64 (by omega) (by omega)
    have hw3:wR ((((k+1)+1)+1)+1)=(((k+1)+1)+1)+1:=w64 (by omega) (by omega)
    have hw4:wR (((((k+1)+1)+1)+1)+1)=((((k+1)+1)+1)+1)+1:=w64 (by omega) (by omega)
    have hw5:wR ((((((k+1)+1)+1)+1)+1)+1)=(((((k+1)+1)+1)+1)+1)+1:=w64 (by omega) (by omega)
    have ht5:=QrC (((((k+1)+1)+1)+1)+1) (by omega) (by omega)
    simp only[vb,ilt h1,Qj h1,Qf h1,Y6 h1,QY6,QY11,inc h1 (show ys.length<=maxLen by simp[maxLen];omega),QQ1,QRb,QQ0,dt (show(3:Int)≠0 by omega),hw0,hw1,hw2,hw3,hw4,hw5,ht5]
    have hk:YC wl (k+((6:Nat):Int),((i+1:Nat):Int),ys.set i (k,(k+1),((k+1)+1),(((k+1)+1)+1),((((k+1)+1)+1)+1),Qya (((((k+1)+1)+1)+1)+1)))=some r:=hk
    rw[show k+((6:Nat):Int)=((((((k+1)+1)+1)+1)+1)+1) by omega]at hk
    exact hk)
  (fun k ys hy=>by
    apply Qca
    simp only[vb,<-hy,Qo,QQ2])
  k hk hs
 simp only[QQ6]at e
 simp only[Qgs,e,QQ0]
theorem QnW (a:List Qg) (k:Int) (hk:0<k) (hs:k+((Qi Qz a:Nat):Int)<=1152921504606846976) (h:XO a<=4294967296):Vq w (Qu Yn Qz a k,k)=some (k+((Qi Qz a:Nat):Int)):=by
 apply QqP
 simp only[XO]at h
 have hl:(Qu Yn Qz a k).length=a.length:=XV _ _ a k
 have e:=Kq Yn Qz a k (fun l i=>YL wl ((Qu Yn Qz a k),l,(i:Int))) 1152921504606846976
  (fun k1 i h1 x r hx hm h0 hB hk=>by
    apply Qa5
    have hb:=Y0 XD hx
    simp only[Qz]at hB
    simp only[Yn]at hm
    have hw0:wR (k1+1)=k1+1:=w64 (by omega) (by omega)
    have hw1:wR ((k1+1)+1)=(k1+1)+1:=w64 (by omega) (by omega)
    have hw2:wR (((k1+1)+1)+1)=((k1+1)+1)+1:=w64 (by omega) (by omega)
    have hw3:wR ((((k1+1)+1)+1)+1)=(((k1+1)+1)+1)+1:=w64 (by omega) (by omega)
    have hw4:wR (((((k1+1)+1)+1)+1)+1)=((((k1+1)+1)+1)+1)+1:=w64 (by omega) (by omega)
    have hw5:wR ((((((k1+1)+1)+1)+1)+1)+1)=(((((k1+1)+1)+1)+1)+1)+1:=w64 (by omega) (by omega)
    have ht5:=QrC (((((k1+1)+1)+1)+1)+1) (by omega) (by omega)
    simp only[vg,ilt h1,Qj h1,Qf h1,hm,inc h1 (show(Qu Yn Qz a k).length<=maxLen by rw[hl];simp[maxLen];omega),QQ1,QQ2,decide_true,QQ3,QY,beq_self_eq_true,QQ0,dt (show(3:Int)≠0 by omega),hw0,hw1,hw2,hw3,hw4,hw5,ht5]
    have hk:YL wl ((Qu Yn Qz a k),k1+((6:Nat):Int),((i+1:Nat):Int))=some r:=hk
    rw[show k1+((6:Nat):Int)=((((((k1+1)+1)+1)+1)+1)+1) by omega]at hk
    exact hk)
  (fun l=>by
    apply Qa5
    simp only[vg,hl,Qo,QQ2])
  hk hs
 simp only[QQ6]at e
 simp only[Qgy,e,QQ0,Qp,QY0]
noncomputable def ZD (x:Qb) (n:Int):Qb:=(n,(n+1))
def QB (x:Qb):Nat:=2
theorem Qzp (x:Qb):QB x<=64:=by
 simp only[QB];omega
theorem Qmy (a:List Qb):Qi QB a<=64*XI a:=by
 have h:=Qge QB (fun x=>Qzp x) a
 simp only[XI];omega
theorem QmA (a:List Qb) (k:Int) (hk:0<k) (hs:k+((Qi QB a:Nat):Int)<=1152921504606846976) (h:XI a<=4294967296):KH w (a,k)=some (k+((Qi QB a:Nat):Int),Qu ZD QB a k):=by
 apply Qp1
 simp only[XI]at h
 have e:=Kl ZD QB a (fun k i ys=>Z1 wl (k,(i:Int),ys)) (fun k ys=>(k,ys)) 1152921504606846976
  (fun k i ys h1 r hy hm h0 hB hk=>by
    apply Qat
    simp only[QB]at hB
    have hw0:wR (k+1)=k+1:=w64 (by omega) (by omega)
    have hw1:wR ((k+1)+1)=(k+1)+1:=w64 (by omega) (by omega)
    simp only[yw,ilt h1,Qj h1,Qf h1,Y6 h1,QY6,QY11,inc h1 (show ys.length<=maxLen by simp[maxLen];omega),QQ1,QRb,QQ0,dt (show(3:Int)≠0 by omega),hw0,hw1]
    have hk:Z1 wl (k+((2:Nat):Int),((i+1:Nat):Int),ys.set i (k,(k+1)))=some r:=hk
    rw[show k+((2:Nat):Int)=((k+1)+1) by omega]at hk
    exact hk)
  (fun k ys hy=>by
    apply Qat
    simp only[yw,<-hy,Qo,QQ2])
  k hk hs
 simp only[QQ6]at e
 simp only[QdI,e,QQ0]
theorem Qmz (a:List Qb) (k:Int) (hk:0<k) (hs:k+((Qi QB a:Nat):Int)<=1152921504606846976) (h:XI a<=4294967296):KT w (Qu ZD QB a k,k)=some (k+((Qi QB a:Nat):Int)):=by
 apply Qpv
 simp only[XI]at h
 have hl:(Qu ZD QB a k).length=a.length:=XV _ _ a k
 have e:=Kq ZD QB a k (fun l i=>Z2 wl ((Qu ZD QB a k),l,(i:Int))) 1152921504606846976
  (fun k1 i h1 x r hx hm h0 hB hk=>by
    apply Qaz
    simp only[QB]at hB
    simp only[ZD]at hm
    have hw0:wR (k1+1)=k1+1:=w64 (by omega) (by omega)
    have hw1:wR ((k1+1)+1)=(k1+1)+1:=w64 (by omega) (by omega)
    simp only[yO,ilt h1,Qj h1,Qf h1,hm,inc h1 (show(Qu ZD QB a k).length<=maxLen by rw[hl];simp[maxLen];omega),QQ1,QQ2,decide_true,QQ3,QY,beq_self_eq_true,QQ0,dt (show(3:Int)≠0 by omega),hw0,hw1]
    have hk:Z2 wl ((Qu ZD QB a k),k1+((2:Nat):Int),((i+1:Nat):Int))=some r:=hk
    rw[show k1+((2:Nat):Int)=((k1+1)+1) by omega]at hk
    exact hk)
  (fun l=>by
    apply Qaz
    simp only[yO,hl,Qo,QQ2])
  hk hs
 simp only[QQ6]at e
 simp only[Qdw,e,QQ0,Qp,QY0]
theorem Qfq (a:List Int):Qi (fun _=>1) a<=64*QS a:=by
 have h:=Qge (fun _=>1) (fun _=>by omega) a
 simp only[QS];omega
theorem QpB (a:List Int) (k:Int) (hk:0<k) (hs:k+((Qi (fun _=>1) a:Nat):Int)<=1152921504606846976) (h:QS a<=4294967296):YO w (a,k)=some (k+((Qi (fun _=>1) a:Nat):Int),Qu (fun _ n=>n) (fun _=>1) a k):=by
 apply Qr8
 simp only[QS]at h
 have e:=Kl (fun _ n=>n) (fun _=>1) a (fun k i ys=>YW wl (k,(i:Int),ys)) (fun k ys=>(k,ys)) 1152921504606846976
  (fun k i ys h1 r hy hm h0 hB hk=>by
    apply QdF
    have hw0:wR (k+1)=k+1:=w64 (by omega) (by omega)
    simp only[Qam,ilt h1,Qj h1,Qf h1,Y6 h1,QY6,QY11,inc h1 (show ys.length<=maxLen by simp[maxLen];omega),QQ1,QRb,QQ0,dt (show(3:Int)≠0 by omega),hw0]
    have hk:YW wl (k+((1:Nat):Int),((i+1:Nat):Int),ys.set i k)=some r:=hk
    rw[show k+((1:Nat):Int)=(k+1) by omega]at hk
    exact hk)
  (fun k ys hy=>by
    apply QdF
    simp only[Qam,<-hy,Qo,QQ2])
  k hk hs
 simp only[QQ6]at e
 simp only[QhH,e,QQ0]
theorem Qxr (a:List Int) (k:Int) (hk:0<k) (hs:k+((Qi (fun _=>1) a:Nat):Int)<=1152921504606846976) (h:QS a<=4294967296):K2 w (Qu (fun _ n=>n) (fun _=>1) a k,k)=some (k+((Qi (fun _=>1) a:Nat):Int)):=by
 apply Qss
 simp only[QS]at h
 have hl:(Qu (fun _ n=>n) (fun _=>1) a k).length=a.length:=XV _ _ a k
 have e:=Kq (fun _ n=>n) (fun _=>1) a k (fun l i=>Y4 wl ((Qu (fun _ n=>n) (fun _=>1) a k),l,(i:Int))) 1152921504606846976
  (fun k1 i h1 x r hx hm h0 hB hk=>by
    apply QdC
    have hw0:wR (k1+1)=k1+1:=w64 (by omega) (by omega)
    simp only[v7,ilt h1,Qj h1,Qf h1,hm,inc h1 (show(Qu (fun _ n=>n) (fun _=>1) a k).length<=maxLen by rw[hl];simp[maxLen];omega),QQ1,QQ2,decide_true,QQ3,QY,beq_self_eq_true,QQ0,dt (show(3:Int)≠0 by omega),hw0]
    have hk:Y4 wl ((Qu (fun _ n=>n) (fun _=>1) a k),k1+((1:Nat):Int),((i+1:Nat):Int))=some r:=hk
    rw[show k1+((1:Nat):Int)=(k1+1) by omega]at hk
    exact hk)
  (fun l=>by
    apply QdC
    simp only[v7,hl,Qo,QQ2])
  hk hs
 simp only[QQ6]at e
 simp only[Qhi,e,QQ0,Qp,QY0]
noncomputable def Vg (x:Qk) (n:Int):Qk:=(Qu Yn Qz x.1 n,Qu ZD QB x.2 (n+((Qi Qz x.1:Nat):Int)))
def Xa (x:Qk):Nat:=Qi Qz x.1+Qi QB x.2
theorem QyB (x:Qk):Xa x<=64*(QF x+1):=by
 have h0:=Qoc x.1
 have h1:=Qmy x.2
 simp only[Xa,QF];omega
theorem QA1 (a:List Qk):Qi Xa a<=64*XQ a:=by
 have h:=Qel Xa QF (fun x=>QyB x) a
 simp only[XQ];omega
theorem QBo (a:List Qk) (k:Int) (hk:0<k) (hs:k+((Qi Xa a:Nat):Int)<=1152921504606846976) (h:XQ a<=4294967296):zQ w (a,k)=some (k+((Qi Xa a:Nat):Int),Qu Vg Xa a k):=by
 apply Qp5
 simp only[XQ]at h
 have e:=Kl Vg Xa a (fun k i ys=>Z7 wl (k,(i:Int),ys)) (fun k ys=>(k,ys)) 1152921504606846976
  (fun k i ys h1 r hy hm h0 hB hk=>by
    apply QaG
    have hb:=Y0 QF hm
    simp only[Xa]at hB
    simp only[QF]at hb
    simp only[yC,ilt h1,Qj h1,Qf h1,Y6 h1,QY6,QY11,inc h1 (show ys.length<=maxLen by simp[maxLen];omega),QQ1,QRb,QQ0,dt (show(3:Int)≠0 by omega),Qop (ys[i].1) k (by omega) (by omega) (by first|omega|(simp only[XO];omega)),QmA (ys[i].2) (k+((Qi Qz (ys[i].1):Nat):Int)) (by omega) (by omega) (by first|omega|(simp only[XI];omega))]
    have hk:Z7 wl (k+((Qi Qz (ys[i].1)+Qi QB (ys[i].2):Nat):Int),((i+1:Nat):Int),ys.set i (Qu Yn Qz (ys[i].1) k,Qu ZD QB (ys[i].2) (k+((Qi Qz (ys[i].1):Nat):Int))))=some r:=hk
    rw[show k+((Qi Qz (ys[i].1)+Qi QB (ys[i].2):Nat):Int)=((k+((Qi Qz (ys[i].1):Nat):Int))+((Qi QB (ys[i].2):Nat):Int)) by omega]at hk
    exact hk)
  (fun k ys hy=>by
    apply QaG
    simp only[yC,<-hy,Qo,QQ2])
  k hk hs
 simp only[QQ6]at e
 simp only[QdH,e,QQ0]
theorem QA5 (a:List Qk) (k:Int) (hk:0<k) (hs:k+((Qi Xa a:Nat):Int)<=1152921504606846976) (h:XQ a<=4294967296):zN w (Qu Vg Xa a k,k)=some (k+((Qi Xa a:Nat):Int)):=by
 apply Qpo
 simp only[XQ]at h
 have hl:(Qu Vg Xa a k).length=a.length:=XV _ _ a k
 have e:=Kq Vg Xa a k (fun l i=>Z4 wl ((Qu Vg Xa a k),l,(i:Int))) 1152921504606846976
  (fun k1 i h1 x r hx hm h0 hB hk=>by
    apply QaH
    have hb:=Y0 QF hx
    simp only[Xa]at hB
    simp only[Vg]at hm
    simp only[QF]at hb
    simp only[yi,ilt h1,Qj h1,Qf h1,hm,inc h1 (show(Qu Vg Xa a k).length<=maxLen by rw[hl];simp[maxLen];omega),QQ1,QQ2,decide_true,QQ3,QY,beq_self_eq_true,QQ0,dt (show(3:Int)≠0 by omega),QnW x.1 k1 (by omega) (by omega) (by first|omega|(simp only[XO];omega)),df (show¬((k1+((Qi Qz x.1:Nat):Int)):Int)<0 by omega),Qmz x.2 (k1+((Qi Qz x.1:Nat):Int)) (by omega) (by omega) (by first|omega|(simp only[XI];omega)),df (show¬(((k1+((Qi Qz x.1:Nat):Int))+((Qi QB x.2:Nat):Int)):Int)<0 by omega)]
    have hk:Z4 wl ((Qu Vg Xa a k),k1+((Qi Qz x.1+Qi QB x.2:Nat):Int),((i+1:Nat):Int))=some r:=hk
    rw[show k1+((Qi Qz x.1+Qi QB x.2:Nat):Int)=((k1+((Qi Qz x.1:Nat):Int))+((Qi QB x.2:Nat):Int)) by omega]at hk
    exact hk)
  (fun l=>by
    apply QaH
    simp only[yi,hl,Qo,QQ2])
  hk hs
 simp only[QQ6]at e
 simp only[Qdr,e,QQ0,Qp,QY0]
theorem QD7 (a:List (List Int)):Qi (Qi (fun _=>1)) a<=64*Xr a:=by
 have h:=Qel (Qi (fun _=>1)) QS (fun x=>by have:=Qfq x;omega) a
 simp only[Xr];omega
theorem QDo (a:List (List Int)) (k:Int) (hk:0<k) (hs:k+((Qi (Qi (fun _=>1)) a:Nat):Int)<=1152921504606846976) (h:Xr a<=4294967296):yZ w (a,k)=some (k+((Qi (Qi (fun _=>1)) a:Nat):Int),Qu (Qu (fun _ n=>n) (fun _=>1)) (Qi (fun _=>1)) a k):=by
 apply Qrb
 simp only[Xr]at h
 have e:=Kl (Qu (fun _ n=>n) (fun _=>1)) (Qi (fun _=>1)) a (fun k i ys=>YI wl (k,(i:Int),ys)) (fun k ys=>(k,ys)) 1152921504606846976
  (fun k i ys h1 r hy hm h0 hB hk=>by
    apply QcJ
    have hb:=Y0 QS hm
    simp only[jY,ilt h1,Qj h1,Qf h1,Y6 h1,QY6,QY11,inc h1 (show ys.length<=maxLen by simp[maxLen];omega),QQ1,QRb,QQ0,dt (show(3:Int)≠0 by omega),QpB ys[i] k (by omega) (by omega) (by first|omega|(simp only[QS];omega))]
    have hk:YI wl (k+((Qi (fun _=>1) ys[i]:Nat):Int),((i+1:Nat):Int),ys.set i (Qu (fun _ n=>n) (fun _=>1) ys[i] k))=some r:=hk
    exact hk)
  (fun k ys hy=>by
    apply QcJ
    simp only[jY,<-hy,Qo,QQ2])
  k hk hs
 simp only[QQ6]at e
 simp only[Qfl,e,QQ0]
theorem QCE (a:List (List Int)) (k:Int) (hk:0<k) (hs:k+((Qi (Qi (fun _=>1)) a:Nat):Int)<=1152921504606846976) (h:Xr a<=4294967296):jd w (Qu (Qu (fun _ n=>n) (fun _=>1)) (Qi (fun _=>1)) a k,k)=some (k+((Qi (Qi (fun _=>1)) a:Nat):Int)):=by
 apply QqZ
 simp only[Xr]at h
 have hl:(Qu (Qu (fun _ n=>n) (fun _=>1)) (Qi (fun _=>1)) a k).length=a.length:=XV _ _ a k
 have e:=Kq (Qu (fun _ n=>n) (fun _=>1)) (Qi (fun _=>1)) a k (fun l i=>YD wl ((Qu (Qu (fun _ n=>n) (fun _=>1)) (Qi (fun _=>1)) a k),l,(i:Int))) 1152921504606846976
  (fun k1 i h1 x r hx hm h0 hB hk=>by
    apply QcE
    have hb:=Y0 QS hx
    simp only[vf,ilt h1,Qj h1,Qf h1,hm,inc h1 (show(Qu (Qu (fun _ n=>n) (fun _=>1)) (Qi (fun _=>1)) a k).length<=maxLen by rw[hl];simp[maxLen];omega),QQ1,QQ2,decide_true,QQ3,QY,beq_self_eq_true,QQ0,dt (show(3:Int)≠0 by omega),Qxr x k1 (by omega) (by omega) (by first|omega|(simp only[QS];omega)),df (show¬((k1+((Qi (fun _=>1) x:Nat):Int)):Int)<0 by omega)]
    have hk:YD wl ((Qu (Qu (fun _ n=>n) (fun _=>1)) (Qi (fun _=>1)) a k),k1+((Qi (fun _=>1) x:Nat):Int),((i+1:Nat):Int))=some r:=hk
    exact hk)
  (fun l=>by
    apply QcE
    simp only[vf,hl,Qo,QQ2])
  hk hs
 simp only[QQ6]at e
 simp only[QfB,e,QQ0,Qp,QY0]
noncomputable def qw (x:Qy) (n:Int):Qy:=(n,(n+1),decide (Int.tmod ((n+1)+1) 3=0),(((n+1)+1)+1))
def XA (x:Qy):Nat:=4
theorem QAM (x:Qy):XA x<=64:=by
 simp only[XA];omega
theorem QDc (a:List Qy):Qi XA a<=64*ZZ a:=by
 have h:=Qge XA (fun x=>QAM x) a
 simp only[ZZ];omega
theorem QDI (a:List Qy) (k:Int) (hk:0<k) (hs:k+((Qi XA a:Nat):Int)<=1152921504606846976) (h:ZZ a<=4294967296):jt w (a,k)=some (k+((Qi XA a:Nat):Int),Qu qw XA a k):=by
 apply Qq5
 simp only[ZZ]at h
 have e:=Kl qw XA a (fun k i ys=>YJ wl (k,(i:Int),ys)) (fun k ys=>(k,ys)) 1152921504606846976
  (fun k i ys h1 r hy hm h0 hB hk=>by
    apply Qbl
    simp only[XA]at hB
    have hw0:wR (k+1)=k+1:=w64 (by omega) (by omega)
    have hw1:wR ((k+1)+1)=(k+1)+1:=w64 (by omega) (by omega)
    have hw2:wR (((k+1)+1)+1)=((k+1)+1)+1:=w64 (by omega) (by omega)
    have hw3:wR ((((k+1)+1)+1)+1)=(((k+1)+1)+1)+1:=w64 (by omega) (by omega)
    simp only[jV,ilt h1,Qj h1,Qf h1,Y6 h1,QY6,QY11,inc h1 (show ys.length<=maxLen by simp[maxLen];omega),QQ1,QRb,QQ0,dt (show(3:Int)≠0 by omega),hw0,hw1,hw2,hw3]
    have hk:YJ wl (k+((4:Nat):Int),((i+1:Nat):Int),ys.set i (k,(k+1),decide (Int.tmod ((k+1)+1) 3=0),(((k+1)+1)+1)))=some r:=hk
    rw[show k+((4:Nat):Int)=((((k+1)+1)+1)+1) by omega]at hk
    exact hk)
  (fun k ys hy=>by
    apply Qbl
    simp only[jV,<-hy,Qo,QQ2])
  k hk hs
 simp only[QQ6]at e
 simp only[QfW,e,QQ0]
theorem QDn (a:List Qy) (k:Int) (hk:0<k) (hs:k+((Qi XA a:Nat):Int)<=1152921504606846976) (h:ZZ a<=4294967296):yW w (Qu qw XA a k,k)=some (k+((Qi XA a:Nat):Int)):=by
 apply Qq9
 simp only[ZZ]at h
 have hl:(Qu qw XA a k).length=a.length:=XV _ _ a k
 have e:=Kq qw XA a k (fun l i=>Yy wl ((Qu qw XA a k),l,(i:Int))) 1152921504606846976
  (fun k1 i h1 x r hx hm h0 hB hk=>by
    apply QbW
    simp only[XA]at hB
    simp only[qw]at hm
    have hw0:wR (k1+1)=k1+1:=w64 (by omega) (by omega)
    have hw1:wR ((k1+1)+1)=(k1+1)+1:=w64 (by omega) (by omega)
    have hw2:wR (((k1+1)+1)+1)=((k1+1)+1)+1:=w64 (by omega) (by omega)
    have hw3:wR ((((k1+1)+1)+1)+1)=(((k1+1)+1)+1)+1:=w64 (by omega) (by omega)
    simp only[j8,ilt h1,Qj h1,Qf h1,hm,inc h1 (show(Qu qw XA a k).length<=maxLen by rw[hl];simp[maxLen];omega),QQ1,QQ2,decide_true,QQ3,QY,beq_self_eq_true,QQ0,dt (show(3:Int)≠0 by omega),hw0,hw1,hw2,hw3]
    have hk:Yy wl ((Qu qw XA a k),k1+((4:Nat):Int),((i+1:Nat):Int))=some r:=hk
    rw[show k1+((4:Nat):Int)=((((k1+1)+1)+1)+1) by omega]at hk
    exact hk)
  (fun l=>by
    apply QbW
    simp only[j8,hl,Qo,QQ2])
  hk hs
 simp only[QQ6]at e
 simp only[Qfu,e,QQ0,Qp,QY0]
noncomputable def qe (x:QM) (n:Int):QM:=(n,(n+1),((n+1)+1))
def XW (x:QM):Nat:=3
theorem QAT (x:QM):XW x<=64:=by
 simp only[XW];omega
theorem QDX (a:List QM):Qi XW a<=64*Z0 a:=by
 have h:=Qge XW (fun x=>QAT x) a
 simp only[Z0];omega
theorem QDl (a:List QM) (k:Int) (hk:0<k) (hs:k+((Qi XW a:Nat):Int)<=1152921504606846976) (h:Z0 a<=4294967296):ji w (a,k)=some (k+((Qi XW a:Nat):Int),Qu qe XW a k):=by
 apply Qrd
 simp only[Z0]at h
 have e:=Kl qe XW a (fun k i ys=>YM wl (k,(i:Int),ys)) (fun k ys=>(k,ys)) 1152921504606846976
  (fun k i ys h1 r hy hm h0 hB hk=>by
    apply Qbb
    simp only[XW]at hB
    have hw0:wR (k+1)=k+1:=w64 (by omega) (by omega)
    have hw1:wR ((k+1)+1)=(k+1)+1:=w64 (by omega) (by omega)
    have hw2:wR (((k+1)+1)+1)=((k+1)+1)+1:=w64 (by omega) (by omega)
    simp only[jN,ilt h1,Qj h1,Qf h1,Y6 h1,QY6,QY11,inc h1 (show ys.length<=maxLen by simp[maxLen];omega),QQ1,QRb,QQ0,dt (show(3:Int)≠0 by omega),hw0,hw1,hw2]
    have hk:YM wl (k+((3:Nat):Int),((i+1:Nat):Int),ys.set i (k,(k+1),((k+1)+1)))=some r:=hk
    rw[show k+((3:Nat):Int)=(((k+1)+1)+1) by omega]at hk
    exact hk)
  (fun k ys hy=>by
    apply Qbb
    simp only[jN,<-hy,Qo,QQ2])
  k hk hs
 simp only[QQ6]at e
 simp only[QfL,e,QQ0]
theorem QDJ (a:List QM) (k:Int) (hk:0<k) (hs:k+((Qi XW a:Nat):Int)<=1152921504606846976) (h:Z0 a<=4294967296):jy w (Qu qe XW a k,k)=some (k+((Qi XW a:Nat):Int)):=by
 apply QqU
 simp only[Z0]at h
 have hl:(Qu qe XW a k).length=a.length:=XV _ _ a k
 have e:=Kq qe XW a k (fun l i=>YA wl ((Qu qe XW a k),l,(i:Int))) 1152921504606846976
  (fun k1 i h1 x r hx hm h0 hB hk=>by
    apply QcL
    simp only[XW]at hB
    simp only[qe]at hm
    have hw0:wR (k1+1)=k1+1:=w64 (by omega) (by omega)
    have hw1:wR ((k1+1)+1)=(k1+1)+1:=w64 (by omega) (by omega)
    have hw2:wR (((k1+1)+1)+1)=((k1+1)+1)+1:=w64 (by omega) (by omega)
    simp only[jP,ilt h1,Qj h1,Qf h1,hm,inc h1 (show(Qu qe XW a k).length<=maxLen by rw[hl];simp[maxLen];omega),QQ1,QQ2,decide_true,QQ3,QY,beq_self_eq_true,QQ0,dt (show(3:Int)≠0 by omega),hw0,hw1,hw2]
    have hk:YA wl ((Qu qe XW a k),k1+((3:Nat):Int),((i+1:Nat):Int))=some r:=hk
    rw[show k1+((3:Nat):Int)=(((k1+1)+1)+1) by omega]at hk
    exact hk)
  (fun l=>by
    apply QcL
    simp only[jP,hl,Qo,QQ2])
  hk hs
 simp only[QQ6]at e
 simp only[Qgc,e,QQ0,Qp,QY0]
noncomputable def VU (x:Qa) (n:Int):Qa:=(n,(n+1),Qu Yn Qz x.2.2.1 ((n+1)+1),Qu ZD QB x.2.2.2.1 (((n+1)+1)+((Qi Qz x.2.2.1:Nat):Int)),Qu (fun _ n=>n) (fun _=>1) x.2.2.2.2.1 ((((n+1)+1)+((Qi Qz x.2.2.1:Nat):Int))+((Qi QB x.2.2.2.1:Nat):Int)),(((((n+1)+1)+((Qi Qz x.2.2.1:Nat):Int))+((Qi QB x.2.2.2.1:Nat):Int))+((Qi (fun _=>1) x.2.2.2.2.1:Nat):Int)),((((((n+1)+1)+((Qi Qz x.2.2.1:Nat):Int))+((Qi QB x.2.2.2.1:Nat):Int))+((Qi (fun _=>1) x.2.2.2.2.1:Nat):Int))+1),(((((((n+1)+1)+((Qi Qz x.2.2.1:Nat):Int))+((Qi QB x.2.2.2.1:Nat):Int))+((Qi (fun _=>1) x.2.2.2.2.1:Nat):Int))+1)+1),Qu Vg Xa x.2.2.2.2.2.2.2.2.1 ((((((((n+1)+1)+((Qi Qz x.2.2.1:Nat):Int))+((Qi QB x.2.2.2.1:Nat):Int))+((Qi (fun _=>1) x.2.2.2.2.1:Nat):Int))+1)+1)+1),Qu (fun _ n=>n) (fun _=>1) x.2.2.2.2.2.2.2.2.2.1 (((((((((n+1)+1)+((Qi Qz x.2.2.1:Nat):Int))+((Qi QB x.2.2.2.1:Nat):Int))+((Qi (fun _=>1) x.2.2.2.2.1:Nat):Int))+1)+1)+1)+((Qi Xa x.2.2.2.2.2.2.2.2.1:Nat):Int)),Qu (fun _ n=>n) (fun _=>1) x.2.2.2.2.2.2.2.2.2.2.1 ((((((((((n+1)+1)+((Qi Qz x.2.2.1:Nat):Int))+((Qi QB x.2.2.2.1:Nat):Int))+((Qi (fun _=>1) x.2.2.2.2.1:Nat):Int))+1)+1)+1)+((Qi Xa x.2.2.2.2.2.2.2.2.1:Nat):Int))+((Qi (fun _=>1) x.2.2.2.2.2.2.2.2.2.1:Nat):Int)),Qu (Qu (fun _ n=>n) (fun _=>1)) (Qi (fun _=>1)) x.2.2.2.2.2.2.2.2.2.2.2.1 (((((((((((n+1)+1)+((Qi Qz x.2.2.1:Nat):Int))+((Qi QB x.2.2.2.1:Nat):Int))+((Qi (fun _=>1) x.2.2.2.2.1:Nat):Int))+1)+1)+1)+((Qi Xa x.2.2.2.2.2.2.2.2.1:Nat):Int))+((Qi (fun _=>1) x.2.2.2.2.2.2.2.2.2.1:Nat):Int))+((Qi (fun _=>1) x.2.2.2.2.2.2.2.2.2.2.1:Nat):Int)),((((((((((((n+1)+1)+((Qi Qz x.2.2.1:Nat):Int))+((Qi QB x.2.2.2.1:Nat):Int))+((Qi (fun _=>1) x.2.2.2.2.1:Nat):Int))+1)+1)+1)+((Qi Xa x.2.2.2.2.2.2.2.2.1:Nat):Int))+((Qi (fun _=>1) x.2.2.2.2.2.2.2.2.2.1:Nat):Int))+((Qi (fun _=>1) x.2.2.2.2.2.2.2.2.2.2.1:Nat):Int))+((Qi (Qi (fun _=>1)) x.2.2.2.2.2.2.2.2.2.2.2.1:Nat):Int)),(((((((((((((n+1)+1)+((Qi Qz x.2.2.1:Nat):Int))+((Qi QB x.2.2.2.1:Nat):Int))+((Qi (fun _=>1) x.2.2.2.2.1:Nat):Int))+1)+1)+1)+((Qi Xa x.2.2.2.2.2.2.2.2.1:Nat):Int))+((Qi (fun _=>1) x.2.2.2.2.2.2.2.2.2.1:Nat):Int))+((Qi (fun _=>1) x.2.2.2.2.2.2.2.2.2.2.1:Nat):Int))+((Qi (Qi (fun _=>1)) x.2.2.2.2.2.2.2.2.2.2.2.1:Nat):Int))+1),Qu qw XA x.2.2.2.2.2.2.2.2.2.2.2.2.2.2.1 ((((((((((((((n+1)+1)+((Qi Qz x.2.2.1:Nat):Int))+((Qi QB x.2.2.2.1:Nat):Int))+((Qi (fun _=>1) x.2.2.2.2.1:Nat):Int))+1)+1)+1)+((Qi Xa x.2.2.2.2.2.2.2.2.1:Nat):Int))+((Qi (fun _=>1) x.2.2.2.2.2.2.2.2.2.1:Nat):Int))+((Qi (fun _=>1) x.2.2.2.2.2.2.2.2.2.2.1:Nat):Int))+((Qi (Qi (fun _=>1)) x.2.2.2.2.2.2.2.2.2.2.2.1:Nat):Int))+1)+1),(((((((((((((((n+1)+1)+((Qi Qz x.2.2.1:Nat):Int))+((Qi QB x.2.2.2.1:Nat):Int))+((Qi (fun _=>1) x.2.2.2.2.1:Nat):Int))+1)+1)+1)+((Qi Xa x.2.2.2.2.2.2.2.2.1:Nat):Int))+((Qi (fun _=>1) x.2.2.2.2.2.2.2.2.2.1:Nat):Int))+((Qi (fun _=>1) x.2.2.2.2.2.2.2.2.2.2.1:Nat):Int))+((Qi (Qi (fun _=>1)) x.2.2.2.2.2.2.2.2.2.2.2.1:Nat):Int))+1)+1)+((Qi XA x.2.2.2.2.2.2.2.2.2.2.2.2.2.2.1:Nat):Int)),((((((((((((((((n+1)+1)+((Qi Qz x.2.2.1:Nat):Int))+((Qi QB x.2.2.2.1:Nat):Int))+((Qi (fun _=>1) x.2.2.2.2.1:Nat):Int))+1)+1)+1)+((Qi Xa x.2.2.2.2.2.2.2.2.1:Nat):Int))+((Qi (fun _=>1) x.2.2.2.2.2.2.2.2.2.1:Nat):Int))+((Qi (fun _=>1) x.2.2.2.2.2.2.2.2.2.2.1:Nat):Int))+((Qi (Qi (fun _=>1)) x.2.2.2.2.2.2.2.2.2.2.2.1:Nat):Int))+1)+1)+((Qi XA x.2.2.2.2.2.2.2.2.2.2.2.2.2.2.1:Nat):Int))+1),(((((((((((((((((n+1)+1)+((Qi Qz x.2.2.1:Nat):Int))+((Qi QB x.2.2.2.1:Nat):Int))+((Qi (fun _=>1) x.2.2.2.2.1:Nat):Int))+1)+1)+1)+((Qi Xa x.2.2.2.2.2.2.2.2.1:Nat):Int))+((Qi (fun _=>1) x.2.2.2.2.2.2.2.2.2.1:Nat):Int))+((Qi (fun _=>1) x.2.2.2.2.2.2.2.2.2.2.1:Nat):Int))+((Qi (Qi (fun _=>1)) x.2.2.2.2.2.2.2.2.2.2.2.1:Nat):Int))+1)+1)+((Qi XA x.2.2.2.2.2.2.2.2.2.2.2.2.2.2.1:Nat):Int))+1)+1),Qu qe XW x.2.2.2.2.2.2.2.2.2.2.2.2.2.2.2.2.2.2 ((((((((((((((((((n+1)+1)+((Qi Qz x.2.2.1:Nat):Int))+((Qi QB x.2.2.2.1:Nat):Int))+((Qi (fun _=>1) x.2.2.2.2.1:Nat):Int))+1)+1)+1)+((Qi Xa x.2.2.2.2.2.2.2.2.1:Nat):Int))+((Qi (fun _=>1) x.2.2.2.2.2.2.2.2.2.1:Nat):Int))+((Qi (fun _=>1) x.2.2.2.2.2.2.2.2.2.2.1:Nat):Int))+((Qi (Qi (fun _=>1)) x.2.2.2.2.2.2.2.2.2.2.2.1:Nat):Int))+1)+1)+((Qi XA x.2.2.2.2.2.2.2.2.2.2.2.2.2.2.1:Nat):Int))+1)+1)+1))
def QZ (x:Qa):Nat:=10+Qi Qz x.2.2.1+Qi QB x.2.2.2.1+Qi (fun _=>1) x.2.2.2.2.1+Qi Xa x.2.2.2.2.2.2.2.2.1+Qi (fun _=>1) x.2.2.2.2.2.2.2.2.2.1+Qi (fun _=>1) x.2.2.2.2.2.2.2.2.2.2.1+Qi (Qi (fun _=>1)) x.2.2.2.2.2.2.2.2.2.2.2.1+Qi XA x.2.2.2.2.2.2.2.2.2.2.2.2.2.2.1+Qi XW x.2.2.2.2.2.2.2.2.2.2.2.2.2.2.2.2.2.2
theorem QAR (x:Qa):QZ x<=64*(Q7 x+1):=by
 have h0:=Qoc x.2.2.1
 have h1:=Qmy x.2.2.2.1
 have h2:=Qfq x.2.2.2.2.1
 have h3:=QA1 x.2.2.2.2.2.2.2.2.1
 have h4:=Qfq x.2.2.2.2.2.2.2.2.2.1
 have h5:=Qfq x.2.2.2.2.2.2.2.2.2.2.1
 have h6:=QD7 x.2.2.2.2.2.2.2.2.2.2.2.1
 have h7:=QDc x.2.2.2.2.2.2.2.2.2.2.2.2.2.2.1
 have h8:=QDX x.2.2.2.2.2.2.2.2.2.2.2.2.2.2.2.2.2.2
 simp only[QZ,Z8,Q7,QF,Zq];omega
theorem QDA (a:List Qa):Qi QZ a<=64*XR a:=by
 have h:=Qel QZ Q7 (fun x=>QAR x) a
 simp only[XR];omega
set_option maxHeartbeats 4000000 in
theorem QEj (a:List Qa) (k:Int) (hk:0<k) (hs:k+((Qi QZ a:Nat):Int)<=1152921504606846976) (h:XR a<=4294967296):jC w (a,k)=some (k+((Qi QZ a:Nat):Int),Qu VU QZ a k):=by
 apply Qra
 simp only[XR]at h
 have e:=Kl VU QZ a (fun k i ys=>YN wl (k,(i:Int),ys)) (fun k ys=>(k,ys)) 1152921504606846976
  (fun k i ys h1 r hy hm h0 hB hk=>by
    apply Qci
    have hb:=Y0 Q7 hm
    simp only[QZ]at hB
    simp only[Q7,QF,Zq,Z8]at hb
    have hw:∀n:Int,0<n->n<=2305843009213693952->wR (n+1)=n+1:=fun n h1 h2=>w64 (by omega) (by omega)
    simp (disch:=omega) only[jW,ilt h1,Qj h1,Qf h1,Y6 h1,QY6,QY11,inc h1 (show ys.length<=maxLen by simp[maxLen];omega),QQ1,QRb,QQ0,hw,QmA,QpB,QDo,Qop,QDl,QDI,QBo]
    refine Eq.trans (congrArg (fun z=>YN wl (z,((i+1:Nat):Int),_)) ?_) hk
    simp only[QZ];omega)
  (fun k ys hy=>by
    apply Qci
    simp only[jW,<-hy,Qo,QQ2])
  k hk hs
 simp only[QQ6]at e
 simp only[Qf9,e,QQ0]
set_option maxHeartbeats 4000000 in
theorem QDx (a:List Qa) (k:Int) (hk:0<k) (hs:k+((Qi QZ a:Nat):Int)<=1152921504606846976) (h:XR a<=4294967296):jg w (Qu VU QZ a k,k)=some (k+((Qi QZ a:Nat):Int)):=by
 apply QqS
 simp only[XR]at h
 have hl:(Qu VU QZ a k).length=a.length:=XV _ _ a k
 have e:=Kq VU QZ a k (fun l i=>YH wl ((Qu VU QZ a k),l,(i:Int))) 1152921504606846976
  (fun k1 i h1 x r hx hm h0 hB hk=>by
    apply QbD
    have hb:=Y0 Q7 hx
    simp only[QZ]at hB
    simp only[VU]at hm
    simp only[Q7,QF,Zq,Z8]at hb
    have hw:∀n:Int,0<n->n<=2305843009213693952->wR (n+1)=n+1:=fun n h1 h2=>w64 (by omega) (by omega)
    have hd:∀n:Int,0<n->decide (n<0)=false:=fun n h=>df (by omega)
    simp (disch:=omega) only[jX,ilt h1,Qj h1,Qf h1,hm,inc h1 (show(Qu VU QZ a k).length<=maxLen by rw[hl];simp[maxLen];omega),QQ1,QQ2,decide_true,QQ3,QQ0,hw,hd,Qmz,Qxr,QCE,QnW,QDJ,QDn,QA5]
    refine Eq.trans (congrArg (fun z=>YH wl ((Qu VU QZ a k),z,((i+1:Nat):Int))) ?_) hk
    simp only[QZ];omega)
  (fun l=>by
    apply QbD
    simp only[jX,hl,Qo,QQ2])
  hk hs
 simp only[QQ6]at e
 simp only[Qf4,e,QQ0,Qp,QY0]
theorem QDL (a:List Int):Qi (fun _=>1) a<=64*Zk a:=by
 have h:=Qge (fun _=>1) (fun _=>by omega) a
 simp only[Zk];omega
theorem QD4 (a:List Int) (k:Int) (hk:0<k) (hs:k+((Qi (fun _=>1) a:Nat):Int)<=1152921504606846976) (h:Zk a<=4294967296):yX w (a,k)=some (k+((Qi (fun _=>1) a:Nat):Int),Qu (fun _ n=>IntKind.wrap .u8 n) (fun _=>1) a k):=by
 apply Qq1
 simp only[Zk]at h
 have e:=Kl (fun _ n=>IntKind.wrap .u8 n) (fun _=>1) a (fun k i ys=>YE wl (k,(i:Int),ys)) (fun k ys=>(k,ys)) 1152921504606846976
  (fun k i ys h1 r hy hm h0 hB hk=>by
    apply Qdl
    have hw0:wR (k+1)=k+1:=w64 (by omega) (by omega)
    simp only[va,ilt h1,Qj h1,Qf h1,Y6 h1,QY6,QY11,inc h1 (show ys.length<=maxLen by simp[maxLen];omega),QQ1,QRb,QQ0,dt (show(3:Int)≠0 by omega),hw0]
    have hk:YE wl (k+((1:Nat):Int),((i+1:Nat):Int),ys.set i (IntKind.wrap .u8 k))=some r:=hk
    rw[show k+((1:Nat):Int)=(k+1) by omega]at hk
    exact hk)
  (fun k ys hy=>by
    apply Qdl
    simp only[va,<-hy,Qo,QQ2])
  k hk hs
 simp only[QQ6]at e
 simp only[Qf8,e,QQ0]
theorem QCW (a:List Int) (k:Int) (hk:0<k) (hs:k+((Qi (fun _=>1) a:Nat):Int)<=1152921504606846976) (h:Zk a<=4294967296):js w (Qu (fun _ n=>IntKind.wrap .u8 n) (fun _=>1) a k,k)=some (k+((Qi (fun _=>1) a:Nat):Int)):=by
 apply Qq4
 simp only[Zk]at h
 have hl:(Qu (fun _ n=>IntKind.wrap .u8 n) (fun _=>1) a k).length=a.length:=XV _ _ a k
 have e:=Kq (fun _ n=>IntKind.wrap .u8 n) (fun _=>1) a k (fun l i=>YG wl ((Qu (fun _ n=>IntKind.wrap .u8 n) (fun _=>1) a k),l,(i:Int))) 1152921504606846976
  (fun k1 i h1 x r hx hm h0 hB hk=>by
    apply QbL
    have hw0:wR (k1+1)=k1+1:=w64 (by omega) (by omega)
    simp only[jQ,ilt h1,Qj h1,Qf h1,hm,inc h1 (show(Qu (fun _ n=>IntKind.wrap .u8 n) (fun _=>1) a k).length<=maxLen by rw[hl];simp[maxLen];omega),QQ1,QQ2,decide_true,QQ3,QY,beq_self_eq_true,QQ0,dt (show(3:Int)≠0 by omega),hw0]
    have hk:YG wl ((Qu (fun _ n=>IntKind.wrap .u8 n) (fun _=>1) a k),k1+((1:Nat):Int),((i+1:Nat):Int))=some r:=hk
    rw[show k1+((1:Nat):Int)=(k1+1) by omega]at hk
    exact hk)
  (fun l=>by
    apply QbL
    simp only[jQ,hl,Qo,QQ2])
  hk hs
 simp only[QQ6]at e
 simp only[Qfc,e,QQ0,Qp,QY0]
noncomputable def VN (x:Qm) (n:Int):Qm:=(n,Qu (fun _ n=>IntKind.wrap .u8 n) (fun _=>1) x.2.1 (n+1),decide (Int.tmod ((n+1)+((Qi (fun _=>1) x.2.1:Nat):Int)) 3=0))
def Xk (x:Qm):Nat:=2+Qi (fun _=>1) x.2.1
theorem QA6 (x:Qm):Xk x<=64*(Xe x+1):=by
 have h0:=QDL x.2.1
 simp only[Xk,Xe];omega
theorem QEb (a:List Qm):Qi Xk a<=64*Xn a:=by
 have h:=Qel Xk Xe (fun x=>QA6 x) a
 simp only[Xn];omega
theorem QDK (a:List Qm) (k:Int) (hk:0<k) (hs:k+((Qi Xk a:Nat):Int)<=1152921504606846976) (h:Xn a<=4294967296):jG w (a,k)=some (k+((Qi Xk a:Nat):Int),Qu VN Xk a k):=by
 apply QqV
 simp only[Xn]at h
 have e:=Kl VN Xk a (fun k i ys=>Yx wl (k,(i:Int),ys)) (fun k ys=>(k,ys)) 1152921504606846976
  (fun k i ys h1 r hy hm h0 hB hk=>by
    apply QcO
    have hb:=Y0 Xe hm
    simp only[Xk]at hB
    simp only[Xe]at hb
    have hw0:wR (k+1)=k+1:=w64 (by omega) (by omega)
    have hw1:wR (((k+1)+((Qi (fun _=>1) (ys[i].2.1):Nat):Int))+1)=((k+1)+((Qi (fun _=>1) (ys[i].2.1):Nat):Int))+1:=w64 (by omega) (by omega)
    simp only[jU,ilt h1,Qj h1,Qf h1,Y6 h1,QY6,QY11,inc h1 (show ys.length<=maxLen by simp[maxLen];omega),QQ1,QRb,QQ0,dt (show(3:Int)≠0 by omega),hw0,hw1,QD4 (ys[i].2.1) (k+1) (by omega) (by omega) (by first|omega|(simp only[Zk];omega))]
    have hk:Yx wl (k+((2+Qi (fun _=>1) (ys[i].2.1):Nat):Int),((i+1:Nat):Int),ys.set i (k,Qu (fun _ n=>IntKind.wrap .u8 n) (fun _=>1) (ys[i].2.1) (k+1),decide (Int.tmod ((k+1)+((Qi (fun _=>1) (ys[i].2.1):Nat):Int)) 3=0)))=some r:=hk
    rw[show k+((2+Qi (fun _=>1) (ys[i].2.1):Nat):Int)=(((k+1)+((Qi (fun _=>1) (ys[i].2.1):Nat):Int))+1) by omega]at hk
    exact hk)
  (fun k ys hy=>by
    apply QcO
    simp only[jU,<-hy,Qo,QQ2])
  k hk hs
 simp only[QQ6]at e
 simp only[Qfa,e,QQ0]
theorem QDk (a:List Qm) (k:Int) (hk:0<k) (hs:k+((Qi Xk a:Nat):Int)<=1152921504606846976) (h:Xn a<=4294967296):jB w (Qu VN Xk a k,k)=some (k+((Qi Xk a:Nat):Int)):=by
 apply Qq6
 simp only[Xn]at h
 have hl:(Qu VN Xk a k).length=a.length:=XV _ _ a k
 have e:=Kq VN Xk a k (fun l i=>YB wl ((Qu VN Xk a k),l,(i:Int))) 1152921504606846976
  (fun k1 i h1 x r hx hm h0 hB hk=>by
    apply Qdf
    have hb:=Y0 Xe hx
    simp only[Xk]at hB
    simp only[VN]at hm
    simp only[Xe]at hb
    have hw0:wR (k1+1)=k1+1:=w64 (by omega) (by omega)
    have hw1:wR (((k1+1)+((Qi (fun _=>1) x.2.1:Nat):Int))+1)=((k1+1)+((Qi (fun _=>1) x.2.1:Nat):Int))+1:=w64 (by omega) (by omega)
    simp only[j0,ilt h1,Qj h1,Qf h1,hm,inc h1 (show(Qu VN Xk a k).length<=maxLen by rw[hl];simp[maxLen];omega),QQ1,QQ2,decide_true,QQ3,QY,beq_self_eq_true,QQ0,dt (show(3:Int)≠0 by omega),hw0,hw1,QCW x.2.1 (k1+1) (by omega) (by omega) (by first|omega|(simp only[Zk];omega)),df (show¬(((k1+1)+((Qi (fun _=>1) x.2.1:Nat):Int)):Int)<0 by omega)]
    have hk:YB wl ((Qu VN Xk a k),k1+((2+Qi (fun _=>1) x.2.1:Nat):Int),((i+1:Nat):Int))=some r:=hk
    rw[show k1+((2+Qi (fun _=>1) x.2.1:Nat):Int)=(((k1+1)+((Qi (fun _=>1) x.2.1:Nat):Int))+1) by omega]at hk
    exact hk)
  (fun l=>by
    apply Qdf
    simp only[j0,hl,Qo,QQ2])
  hk hs
 simp only[QQ6]at e
 simp only[QgN,e,QQ0,Qp,QY0]
noncomputable def VM (x:Qn) (n:Int):Qn:=(n,Qu Yn Qz x.2.1 (n+1),Qu ZD QB x.2.2 ((n+1)+((Qi Qz x.2.1:Nat):Int)))
def Xw (x:Qn):Nat:=1+Qi Qz x.2.1+Qi QB x.2.2
theorem QBr (x:Qn):Xw x<=64*(Xl x+1):=by
 have h0:=Qoc x.2.1
 have h1:=Qmy x.2.2
 simp only[Xw,Xl,QF];omega
theorem QDu (a:List Qn):Qi Xw a<=64*XU a:=by
 have h:=Qel Xw Xl (fun x=>QBr x) a
 simp only[XU];omega
theorem QCC (a:List Qn) (k:Int) (hk:0<k) (hs:k+((Qi Xw a:Nat):Int)<=1152921504606846976) (h:XU a<=4294967296):jr w (a,k)=some (k+((Qi Xw a:Nat):Int),Qu VM Xw a k):=by
 apply QqT
 simp only[XU]at h
 have e:=Kl VM Xw a (fun k i ys=>YF wl (k,(i:Int),ys)) (fun k ys=>(k,ys)) 1152921504606846976
  (fun k i ys h1 r hy hm h0 hB hk=>by
    apply QcD
    have hb:=Y0 Xl hm
    simp only[Xw]at hB
    simp only[Xl,QF]at hb
    have hw0:wR (k+1)=k+1:=w64 (by omega) (by omega)
    simp only[jS,ilt h1,Qj h1,Qf h1,Y6 h1,QY6,QY11,inc h1 (show ys.length<=maxLen by simp[maxLen];omega),QQ1,QRb,QQ0,dt (show(3:Int)≠0 by omega),hw0,Qop (ys[i].2.1) (k+1) (by omega) (by omega) (by first|omega|(simp only[XO];omega)),QmA (ys[i].2.2) ((k+1)+((Qi Qz (ys[i].2.1):Nat):Int)) (by omega) (by omega) (by first|omega|(simp only[XI];omega))]
    have hk:YF wl (k+((1+Qi Qz (ys[i].2.1)+Qi QB (ys[i].2.2):Nat):Int),((i+1:Nat):Int),ys.set i (k,Qu Yn Qz (ys[i].2.1) (k+1),Qu ZD QB (ys[i].2.2) ((k+1)+((Qi Qz (ys[i].2.1):Nat):Int))))=some r:=hk
    rw[show k+((1+Qi Qz (ys[i].2.1)+Qi QB (ys[i].2.2):Nat):Int)=(((k+1)+((Qi Qz (ys[i].2.1):Nat):Int))+((Qi QB (ys[i].2.2):Nat):Int)) by omega]at hk
    exact hk)
  (fun k ys hy=>by
    apply QcD
    simp only[jS,<-hy,Qo,QQ2])
  k hk hs
 simp only[QQ6]at e
 simp only[Qfk,e,QQ0]
theorem QCJ (a:List Qn) (k:Int) (hk:0<k) (hs:k+((Qi Xw a:Nat):Int)<=1152921504606846976) (h:XU a<=4294967296):jf w (Qu VM Xw a k,k)=some (k+((Qi Xw a:Nat):Int)):=by
 apply Qq3
 simp only[XU]at h
 have hl:(Qu VM Xw a k).length=a.length:=XV _ _ a k
 have e:=Kq VM Xw a k (fun l i=>Yz wl ((Qu VM Xw a k),l,(i:Int))) 1152921504606846976
  (fun k1 i h1 x r hx hm h0 hB hk=>by
    apply QcK
    have hb:=Y0 Xl hx
    simp only[Xw]at hB
    simp only[VM]at hm
    simp only[Xl,QF]at hb
    have hw0:wR (k1+1)=k1+1:=w64 (by omega) (by omega)
    simp only[jR,ilt h1,Qj h1,Qf h1,hm,inc h1 (show(Qu VM Xw a k).length<=maxLen by rw[hl];simp[maxLen];omega),QQ1,QQ2,decide_true,QQ3,QY,beq_self_eq_true,QQ0,dt (show(3:Int)≠0 by omega),hw0,QnW x.2.1 (k1+1) (by omega) (by omega) (by first|omega|(simp only[XO];omega)),df (show¬(((k1+1)+((Qi Qz x.2.1:Nat):Int)):Int)<0 by omega),Qmz x.2.2 ((k1+1)+((Qi Qz x.2.1:Nat):Int)) (by omega) (by omega) (by first|omega|(simp only[XI];omega)),df (show¬((((k1+1)+((Qi Qz x.2.1:Nat):Int))+((Qi QB x.2.2:Nat):Int)):Int)<0 by omega)]
    have hk:Yz wl ((Qu VM Xw a k),k1+((1+Qi Qz x.2.1+Qi QB x.2.2:Nat):Int),((i+1:Nat):Int))=some r:=hk
    rw[show k1+((1+Qi Qz x.2.1+Qi QB x.2.2:Nat):Int)=(((k1+1)+((Qi Qz x.2.1:Nat):Int))+((Qi QB x.2.2:Nat):Int)) by omega]at hk
    exact hk)
  (fun l=>by
    apply QcK
    simp only[jR,hl,Qo,QQ2])
  hk hs
 simp only[QQ6]at e
 simp only[Qgx,e,QQ0,Qp,QY0]
theorem QCN (a0:List Qa) (a1:List Qm) (a2:List Qn) (k:Int) (hk:0<k) (hs:k+((Qi QZ a0+Qi Xk a1+Qi Xw a2:Nat):Int)<=1152921504606846976) (h:Q6 (a0,a1,a2)<=4294967296):Vv w (a0,a1,a2,k)=some ((((k+((Qi QZ a0:Nat):Int))+((Qi Xk a1:Nat):Int))+((Qi Xw a2:Nat):Int)),Qu VU QZ a0 k,Qu VN Xk a1 (k+((Qi QZ a0:Nat):Int)),Qu VM Xw a2 ((k+((Qi QZ a0:Nat):Int))+((Qi Xk a1:Nat):Int))):=by
 apply Qrc
 simp only[Q6]at h
 simp only[Qgb,QQ0,QEj a0 k (by omega) (by omega) (by first|omega|(simp only[XR];omega)),QDK a1 (k+((Qi QZ a0:Nat):Int)) (by omega) (by omega) (by first|omega|(simp only[Xn];omega)),QCC a2 ((k+((Qi QZ a0:Nat):Int))+((Qi Xk a1:Nat):Int)) (by omega) (by omega) (by first|omega|(simp only[XU];omega))]
theorem QDi (a0:List Qa) (a1:List Qm) (a2:List Qn) (k:Int) (hk:0<k) (hs:k+((Qi QZ a0+Qi Xk a1+Qi Xw a2:Nat):Int)<=1152921504606846976) (h:Q6 (a0,a1,a2)<=4294967296):Vw w (Qu VU QZ a0 k,Qu VN Xk a1 (k+((Qi QZ a0:Nat):Int)),Qu VM Xw a2 ((k+((Qi QZ a0:Nat):Int))+((Qi Xk a1:Nat):Int)),k)=some (((k+((Qi QZ a0:Nat):Int))+((Qi Xk a1:Nat):Int))+((Qi Xw a2:Nat):Int)):=by
 apply QqR
 simp only[Q6]at h
 simp only[Qf7,QQ0,QQ2,QDx a0 k (by omega) (by omega) (by first|omega|(simp only[XR];omega)),df (show¬((k+((Qi QZ a0:Nat):Int)):Int)<0 by omega),QDk a1 (k+((Qi QZ a0:Nat):Int)) (by omega) (by omega) (by first|omega|(simp only[Xn];omega)),df (show¬(((k+((Qi QZ a0:Nat):Int))+((Qi Xk a1:Nat):Int)):Int)<0 by omega),QCJ a2 ((k+((Qi QZ a0:Nat):Int))+((Qi Xk a1:Nat):Int)) (by omega) (by omega) (by first|omega|(simp only[XU];omega)),df (show¬((((k+((Qi QZ a0:Nat):Int))+((Qi Xk a1:Nat):Int))+((Qi Xw a2:Nat):Int)):Int)<0 by omega)]
end Go.Proofs.YtiejfnbmficbmaaGreat.M
