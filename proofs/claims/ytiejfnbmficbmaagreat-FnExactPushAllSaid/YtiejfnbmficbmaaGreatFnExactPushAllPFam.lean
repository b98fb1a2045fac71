/- What the plain forms that FnExactPushAll reaches come to: PFam. No conditions but those that each theorem states. -/
import Derived.Test.YtiejfnbmficbmaaGreatFnExactPushAllPState
set_option linter.all false
namespace Go.Proofs.YtiejfnbmficbmaaGreat.M
open Go Go.Eng Go.Proofs
set_option linter.unusedVariables false
def Va (x:XA):Nat:=ByteArray.size x.2.2.2.2
def Qlj (x:XA):Prop:=ByteArray.size x.2.2.2.2<=maxLen
theorem QA1 {x:XA}(h:qp Qqn x):Qlj x:=h.2.2.2.2.1
theorem QDq (a0:Int) (a1:Int) (a2:Int) (a3:Int) (a4:ByteArray) (l:Int) (h0:0<=l) (hB:l<=1048576) (hf:Qlj (a0,a1,a2,a3,a4)):Qbf w (a0,a1,a2,a3,a4,l)=some (szI (Va (a0,a1,a2,a3,a4)) l):=by
 apply QqF
 simp only[Qlj]at hf
 have e:Va (a0,a1,a2,a3,a4)=(ByteArray.size a4+0):=by simp only[Va];omega
 rw[e]
 simp only[Qgy]
 refine qY (by omega) (by omega) (hf) fun _=> ?_
 rw[w64 (by omega) (by omega)]
 exact Kb (by omega)
def Xt (x:Qg):Nat:=Va (x.2.1,x.2.2.1,x.2.2.2.1,x.2.2.2.2.1,x.2.2.2.2.2)
def Qnr (x:Qg):Prop:=Qlj (x.2.1,x.2.2.1,x.2.2.2.1,x.2.2.2.2.1,x.2.2.2.2.2)
theorem QCG {x:Qg}(h:qp QW x):Qnr x:=QA1 ⟨h.2.1,h.2.2.1,h.2.2.2.1,h.2.2.2.2.1,h.2.2.2.2.2.1,trivial⟩
theorem Qx7 (a0:Int) (a1:Int) (a2:Int) (a3:Int) (a4:Int) (a5:ByteArray) (l:Int) (h0:0<=l) (hB:l<=1048576) (hf:Qnr (a0,a1,a2,a3,a4,a5)):QcO w (a0,a1,a2,a3,a4,a5,l)=some (szI (Xt (a0,a1,a2,a3,a4,a5)) l):=by
 apply QsD
 simp only[Qnr]at hf
 have e:Xt (a0,a1,a2,a3,a4,a5)=(Va (a1,a2,a3,a4,a5)+0):=by simp only[Xt];omega
 rw[e]
 simp only[QiC]
 refine Zl (by omega) (QDq a1 a2 a3 a4 a5 _ (by omega) (by omega) (hf)) fun _=> ?_
 exact Kb (by omega)
def XC (a:List Qg):Nat:=a.length+Qe Xt a
def Qlw (a:List Qg):Prop:=a.length<=maxLen/\∀x∈a,Qnr x
theorem QCU (a:List Qg) (l:Int) (h0:0<=l) (hB:l<=1048576) (hf:Qlw a):Qaf w (a,l)=some (szI (XC a) l):=by
 apply Qp2
 simp only[QgM,XC]
 refine qY h0 hB hf.1 fun h=> ?_
 have e:=Qgu Xt a (fun l i=>V9 wl (a,l,(i:Int))) 1048576
  (fun l i h1 r h0 hB h2 hk=>by
    apply zb
    have hs:=Qx7 (a[i]).1 (a[i]).2.1 (a[i]).2.2.1 (a[i]).2.2.2.1 (a[i]).2.2.2.2.1 (a[i]).2.2.2.2.2 l (by omega) (by omega) (hf.2 _ (QRf h1))
    have hs2:szI (Xt a[i]) l=l - Xt a[i]:=KJ h2
    simp only[xA,ilt h1,Ql h1,Qi h1,inc h1 (show a.length<=maxLen from hf.1),QQ1,hs,QQ0]
    simp only[show szI (Xt ((a[i]).1,(a[i]).2.1,(a[i]).2.2.1,(a[i]).2.2.2.1,(a[i]).2.2.2.2.1,(a[i]).2.2.2.2.2)) l=l - Xt a[i]from hs2,df (show¬l - (Xt a[i]:Int)<0 by omega),QQ2]
    exact hk)
  (fun l i h1 h0 hB h2=>by
    apply zb
    have hs:=Qx7 (a[i]).1 (a[i]).2.1 (a[i]).2.2.1 (a[i]).2.2.2.1 (a[i]).2.2.2.2.1 (a[i]).2.2.2.2.2 l (by omega) (by omega) (hf.2 _ (QRf h1))
    have hs2:szI (Xt a[i]) l= -1:=YQ h2
    simp only[xA,ilt h1,Ql h1,Qi h1,QQ1,hs,QQ0]
    simp only[show szI (Xt ((a[i]).1,(a[i]).2.1,(a[i]).2.2.1,(a[i]).2.2.2.1,(a[i]).2.2.2.2.1,(a[i]).2.2.2.2.2)) l= -1 from hs2,dt (show(-1:Int)<0 by omega),QQ1])
  (fun l=>by
    apply zb
    simp only[xA,Qs,QQ2])
  (l - a.length) (by omega) (by omega)
 have hl:=hf.1
 simp only[maxLen]at hl
 rw[w64 (by omega) (by omega)]
 simp only[QQ6]at e
 rw[e,QQ0,Qcg]
def Xv (a:List Qb):Nat:=a.length
def Qjc (a:List Qb):Prop:=a.length<=maxLen
theorem QA3 (a:List Qb) (l:Int) (h0:0<=l) (hB:l<=1048576) (hf:Qjc a):yY w (a,l)=some (szI (Xv a) l):=by
 apply QoO
 simp only[QfV]
 exact qY (m:=0) h0 hB hf fun h=>by rw[w64 (by omega) (by omega)];exact Kb (by omega)
def QD (x:Qk):Nat:=XC x.1+Xv x.2
def za (x:Qk):Prop:=Qlw x.1/\Qjc x.2
theorem QmK {x:Qk}(h:qp X3 x):za x:=⟨⟨h.1.1,fun y hy=>QCG (h.1.2 y hy)⟩,h.2.1.1⟩
theorem Qlo (a0:List Qg) (a1:List Qb) (l:Int) (h0:0<=l) (hB:l<=1048576) (hf:za (a0,a1)):JU w (a0,a1,l)=some (szI (QD (a0,a1)) l):=by
 apply QpA
 simp only[za]at hf
 have e:QD (a0,a1)=(XC a0+(Xv a1+0)):=by simp only[QD];omega
 rw[e]
 simp only[QhQ]
 refine Zl (by omega) (QCU a0 _ (by omega) (by omega) (hf.1)) fun _=> ?_
 refine Zl (by omega) (QA3 a1 _ (by omega) (by omega) (hf.2)) fun _=> ?_
 exact Kb (by omega)
def QR (a:List Int):Nat:=a.length
def Qgp (a:List Int):Prop:=a.length<=maxLen
theorem Qkg (a:List Int) (l:Int) (h0:0<=l) (hB:l<=1048576) (hf:Qgp a):JF w (a,l)=some (szI (QR a) l):=by
 apply QsE
 simp only[Qjw]
 exact qY (m:=0) h0 hB hf fun h=>by rw[w64 (by omega) (by omega)];exact Kb (by omega)
def Zg (x:XY):Nat:=QR x.1
def QkZ (x:XY):Prop:=Qgp x.1
theorem QDH {x:XY}(h:qp Qup x):QkZ x:=h.1.1
theorem QEw (a0:List Int) (a1:Int) (l:Int) (h0:0<=l) (hB:l<=1048576) (hf:QkZ (a0,a1)):QcK w (a0,a1,l)=some (szI (Zg (a0,a1)) l):=by
 apply QrP
 simp only[QkZ]at hf
 have e:Zg (a0,a1)=(QR a0+0):=by simp only[Zg];omega
 rw[e]
 simp only[QjA]
 refine Zl (by omega) (Qkg a0 _ (by omega) (by omega) (hf)) fun _=> ?_
 exact Kb (by omega)
def XF (a:List Qk):Nat:=a.length+Qe QD a
def QmG (a:List Qk):Prop:=a.length<=maxLen/\∀x∈a,za x
theorem QAD (a:List Qk) (l:Int) (h0:0<=l) (hB:l<=1048576) (hf:QmG a):yP w (a,l)=some (szI (XF a) l):=by
 apply Qpm
 simp only[Qfy,XF]
 refine qY h0 hB hf.1 fun h=> ?_
 have e:=Qgu QD a (fun l i=>KR wl (a,l,(i:Int))) 1048576
  (fun l i h1 r h0 hB h2 hk=>by
    apply xu
    have hs:=Qlo (a[i]).1 (a[i]).2 l (by omega) (by omega) (hf.2 _ (QRf h1))
    have hs2:szI (QD a[i]) l=l - QD a[i]:=KJ h2
    simp only[qC,ilt h1,Ql h1,Qi h1,inc h1 (show a.length<=maxLen from hf.1),QQ1,hs,QQ0]
    simp only[show szI (QD ((a[i]).1,(a[i]).2)) l=l - QD a[i]from hs2,df (show¬l - (QD a[i]:Int)<0 by omega),QQ2]
    exact hk)
  (fun l i h1 h0 hB h2=>by
    apply xu
    have hs:=Qlo (a[i]).1 (a[i]).2 l (by omega) (by omega) (hf.2 _ (QRf h1))
    have hs2:szI (QD a[i]) l= -1:=YQ h2
    simp only[qC,ilt h1,Ql h1,Qi h1,QQ1,hs,QQ0]
    simp only[show szI (QD ((a[i]).1,(a[i]).2)) l= -1 from hs2,dt (show(-1:Int)<0 by omega),QQ1])
  (fun l=>by
    apply xu
    simp only[qC,Qs,QQ2])
  (l - a.length) (by omega) (by omega)
 have hl:=hf.1
 simp only[maxLen]at hl
 rw[w64 (by omega) (by omega)]
 simp only[QQ6]at e
 rw[e,QQ0,Qcg]
def Zy (x:Zm):Nat:=XF x.2.2
def Qmy (x:Zm):Prop:=QmG x.2.2
theorem QEQ {x:Zm}(h:qp Qu2 x):Qmy x:=⟨h.2.2.1.1,fun y hy=>QmK (h.2.2.1.2 y hy)⟩
theorem QFl (a0:Int) (a1:Int) (a2:List Qk) (l:Int) (h0:0<=l) (hB:l<=1048576) (hf:Qmy (a0,a1,a2)):Qf2 w (a0,a1,a2,l)=some (szI (Zy (a0,a1,a2)) l):=by
 apply Qud
 simp only[Qmy]at hf
 have e:Zy (a0,a1,a2)=(XF a2+0):=by simp only[Zy];omega
 rw[e]
 simp only[Qk5]
 refine Zl (by omega) (QAD a2 _ (by omega) (by omega) (hf)) fun _=> ?_
 exact Kb (by omega)
def XL (a:List (List Int)):Nat:=a.length+Qe QR a
def QoS (a:List (List Int)):Prop:=a.length<=maxLen/\∀x∈a,Qgp x
theorem QBQ (a:List (List Int)) (l:Int) (h0:0<=l) (hB:l<=1048576) (hf:QoS a):Qaq w (a,l)=some (szI (XL a) l):=by
 apply Qqw
 simp only[Qhl,XL]
 refine qY h0 hB hf.1 fun h=> ?_
 have e:=Qgu QR a (fun l i=>Jf wl (a,l,(i:Int))) 1048576
  (fun l i h1 r h0 hB h2 hk=>by
    apply xX
    have hs:=Qkg a[i] l (by omega) (by omega) (hf.2 _ (QRf h1))
    have hs2:szI (QR a[i]) l=l - QR a[i]:=KJ h2
    simp only[xI,ilt h1,Ql h1,Qi h1,inc h1 (show a.length<=maxLen from hf.1),QQ1,hs,QQ0]
    simp only[show szI (QR (a[i])) l=l - QR a[i]from hs2,df (show¬l - (QR a[i]:Int)<0 by omega),QQ2]
    exact hk)
  (fun l i h1 h0 hB h2=>by
    apply xX
    have hs:=Qkg a[i] l (by omega) (by omega) (hf.2 _ (QRf h1))
    have hs2:szI (QR a[i]) l= -1:=YQ h2
    simp only[xI,ilt h1,Ql h1,Qi h1,QQ1,hs,QQ0]
    simp only[show szI (QR (a[i])) l= -1 from hs2,dt (show(-1:Int)<0 by omega),QQ1])
  (fun l=>by
    apply xX
    simp only[xI,Qs,QQ2])
  (l - a.length) (by omega) (by omega)
 have hl:=hf.1
 simp only[maxLen]at hl
 rw[w64 (by omega) (by omega)]
 simp only[QQ6]at e
 rw[e,QQ0,Qcg]
def Zt (a:List QB):Nat:=a.length
def QoD (a:List QB):Prop:=a.length<=maxLen
theorem QC2 (a:List QB) (l:Int) (h0:0<=l) (hB:l<=1048576) (hf:QoD a):Qap w (a,l)=some (szI (Zt a) l):=by
 apply QrA
 simp only[Qh6]
 exact qY (m:=0) h0 hB hf fun h=>by rw[w64 (by omega) (by omega)];exact Kb (by omega)
def Zv (a:List QM):Nat:=a.length
def QoG (a:List QM):Prop:=a.length<=maxLen
theorem QCQ (a:List QM) (l:Int) (h0:0<=l) (hB:l<=1048576) (hf:QoG a):Qa0 w (a,l)=some (szI (Zv a) l):=by
 apply Qqm
 simp only[QgW]
 exact qY (m:=0) h0 hB hf fun h=>by rw[w64 (by omega) (by omega)];exact Kb (by omega)
def Q2 (x:Qd):Nat:=QD (x.2.2.1,x.2.2.2.1)+Zg (x.2.2.2.2.1,x.2.2.2.2.2.1)+Zy (x.2.2.2.2.2.2.1,x.2.2.2.2.2.2.2.1,x.2.2.2.2.2.2.2.2.1)+QR x.2.2.2.2.2.2.2.2.2.1+QR x.2.2.2.2.2.2.2.2.2.2.1+XL x.2.2.2.2.2.2.2.2.2.2.2.1+Zt x.2.2.2.2.2.2.2.2.2.2.2.2.2.2.1+Zv x.2.2.2.2.2.2.2.2.2.2.2.2.2.2.2.2.2.2
def Qgs (x:Qd):Prop:=za (x.2.2.1,x.2.2.2.1)/\QkZ (x.2.2.2.2.1,x.2.2.2.2.2.1)/\Qmy (x.2.2.2.2.2.2.1,x.2.2.2.2.2.2.2.1,x.2.2.2.2.2.2.2.2.1)/\Qgp x.2.2.2.2.2.2.2.2.2.1/\Qgp x.2.2.2.2.2.2.2.2.2.2.1/\QoS x.2.2.2.2.2.2.2.2.2.2.2.1/\QoD x.2.2.2.2.2.2.2.2.2.2.2.2.2.2.1/\QoG x.2.2.2.2.2.2.2.2.2.2.2.2.2.2.2.2.2.2
theorem QDF {x:Qd}(h:qp YA x):Qgs x:=⟨QmK ⟨h.2.2.1,h.2.2.2.1,trivial⟩,QDH ⟨h.2.2.2.2.1,h.2.2.2.2.2.1,trivial⟩,QEQ ⟨h.2.2.2.2.2.2.1,h.2.2.2.2.2.2.2.1,h.2.2.2.2.2.2.2.2.1,trivial⟩,h.2.2.2.2.2.2.2.2.2.1.1,h.2.2.2.2.2.2.2.2.2.2.1.1,⟨h.2.2.2.2.2.2.2.2.2.2.2.1.1,fun y hy=>((h.2.2.2.2.2.2.2.2.2.2.2.1.2 y hy).1).1⟩,h.2.2.2.2.2.2.2.2.2.2.2.2.2.2.1.1,h.2.2.2.2.2.2.2.2.2.2.2.2.2.2.2.2.2.2.1.1⟩
theorem Qyi (a0:Int) (a1:Int) (a2:List Qg) (a3:List Qb) (a4:List Int) (a5:Int) (a6:Int) (a7:Int) (a8:List Qk) (a9:List Int) (a10:List Int) (a11:List (List Int)) (a12:Int) (a13:Int) (a14:List QB) (a15:Int) (a16:Int) (a17:Int) (a18:List QM) (l:Int) (h0:0<=l) (hB:l<=1048576) (hf:Qgs (a0,a1,a2,a3,a4,a5,a6,a7,a8,a9,a10,a11,a12,a13,a14,a15,a16,a17,a18)):QcT w (a0,a1,a2,a3,a4,a5,a6,a7,a8,a9,a10,a11,a12,a13,a14,a15,a16,a17,a18,l)=some (szI (Q2 (a0,a1,a2,a3,a4,a5,a6,a7,a8,a9,a10,a11,a12,a13,a14,a15,a16,a17,a18)) l):=by
 apply Qsj
 simp only[Qgs]at hf
 have e:Q2 (a0,a1,a2,a3,a4,a5,a6,a7,a8,a9,a10,a11,a12,a13,a14,a15,a16,a17,a18)=(QD (a2,a3)+(Zg (a4,a5)+(Zy (a6,a7,a8)+(QR a9+(QR a10+(XL a11+(Zt a14+(Zv a18+0)))))))):=by simp only[Q2];omega
 rw[e]
 simp only[QiS]
 refine Zl (by omega) (Qlo a2 a3 _ (by omega) (by omega) (hf.1)) fun _=> ?_
 refine Zl (by omega) (QEw a4 a5 _ (by omega) (by omega) (hf.2.1)) fun _=> ?_
 refine Zl (by omega) (QFl a6 a7 a8 _ (by omega) (by omega) (hf.2.2.1)) fun _=> ?_
 refine Zl (by omega) (Qkg a9 _ (by omega) (by omega) (hf.2.2.2.1)) fun _=> ?_
 refine Zl (by omega) (Qkg a10 _ (by omega) (by omega) (hf.2.2.2.2.1)) fun _=> ?_
 refine Zl (by omega) (QBQ a11 _ (by omega) (by omega) (hf.2.2.2.2.2.1)) fun _=> ?_
 refine Zl (by omega) (QC2 a14 _ (by omega) (by omega) (hf.2.2.2.2.2.2.1)) fun _=> ?_
 refine Zl (by omega) (QCQ a18 _ (by omega) (by omega) (hf.2.2.2.2.2.2.2)) fun _=> ?_
 exact Kb (by omega)
def XJ (a:List Qd):Nat:=a.length+Qe Q2 a
def Qpg (a:List Qd):Prop:=a.length<=maxLen/\∀x∈a,Qgs x
theorem QDu (a:List Qd) (l:Int) (h0:0<=l) (hB:l<=1048576) (hf:Qpg a):vX w (a,l)=some (szI (XJ a) l):=by
 apply Qqk
 simp only[Qhi,XJ]
 refine qY h0 hB hf.1 fun h=> ?_
 have e:=Qgu Q2 a (fun l i=>Vw wl (a,l,(i:Int))) 1048576
  (fun l i h1 r h0 hB h2 hk=>by
    apply xP
    have hs:=Qyi (a[i]).1 (a[i]).2.1 (a[i]).2.2.1 (a[i]).2.2.2.1 (a[i]).2.2.2.2.1 (a[i]).2.2.2.2.2.1 (a[i]).2.2.2.2.2.2.1 (a[i]).2.2.2.2.2.2.2.1 (a[i]).2.2.2.2.2.2.2.2.1 (a[i]).2.2.2.2.2.2.2.2.2.1 (a[i]).2.2.2.2.2.2.2.2.2.2.1 (a[i]).2.2.2.2.2.2.2.2.2.2.2.1 (a[i]).2.2.2.2.2.2.2.2.2.2.2.2.1 (a[i]).2.2.2.2.2.2.2.2.2.2.2.2.2.1 (a[i]).2.2.2.2.2.2.2.2.2.2.2.2.2.2.1 (a[i]).2.2.2.2.2.2.2.2.2.2.2.2.2.2.2.1 (a[i]).2.2.2.2.2.2.2.2.2.2.2.2.2.2.2.2.1 (a[i]).2.2.2.2.2.2.2.2.2.2.2.2.2.2.2.2.2.1 (a[i]).2.2.2.2.2.2.2.2.2.2.2.2.2.2.2.2.2.2 l (by omega) (by omega) (hf.2 _ (QRf h1))
    have hs2:szI (Q2 a[i]) l=l - Q2 a[i]:=KJ h2
    simp only[xJ,ilt h1,Ql h1,Qi h1,inc h1 (show a.length<=maxLen from hf.1),QQ1,hs,QQ0]
    simp only[show szI (Q2 ((a[i]).1,(a[i]).2.1,(a[i]).2.2.1,(a[i]).2.2.2.1,(a[i]).2.2.2.2.1,(a[i]).2.2.2.2.2.1,(a[i]).2.2.2.2.2.2.1,(a[i]).2.2.2.2.2.2.2.1,(a[i]).2.2.2.2.2.2.2.2.1,(a[i]).2.2.2.2.2.2.2.2.2.1,(a[i]).2.2.2.2.2.2.2.2.2.2.1,(a[i]).2.2.2.2.2.2.2.2.2.2.2.1,(a[i]).2.2.2.2.2.2.2.2.2.2.2.2.1,(a[i]).2.2.2.2.2.2.2.2.2.2.2.2.2.1,(a[i]).2.2.2.2.2.2.2.2.2.2.2.2.2.2.1,(a[i]).2.2.2.2.2.2.2.2.2.2.2.2.2.2.2.1,(a[i]).2.2.2.2.2.2.2.2.2.2.2.2.2.2.2.2.1,(a[i]).2.2.2.2.2.2.2.2.2.2.2.2.2.2.2.2.2.1,(a[i]).2.2.2.2.2.2.2.2.2.2.2.2.2.2.2.2.2.2)) l=l - Q2 a[i]from hs2,df (show¬l - (Q2 a[i]:Int)<0 by omega),QQ2]
    exact hk)
  (fun l i h1 h0 hB h2=>by
    apply xP
    have hs:=Qyi (a[i]).1 (a[i]).2.1 (a[i]).2.2.1 (a[i]).2.2.2.1 (a[i]).2.2.2.2.1 (a[i]).2.2.2.2.2.1 (a[i]).2.2.2.2.2.2.1 (a[i]).2.2.2.2.2.2.2.1 (a[i]).2.2.2.2.2.2.2.2.1 (a[i]).2.2.2.2.2.2.2.2.2.1 (a[i]).2.2.2.2.2.2.2.2.2.2.1 (a[i]).2.2.2.2.2.2.2.2.2.2.2.1 (a[i]).2.2.2.2.2.2.2.2.2.2.2.2.1 (a[i]).2.2.2.2.2.2.2.2.2.2.2.2.2.1 (a[i]).2.2.2.2.2.2.2.2.2.2.2.2.2.2.1 (a[i]).2.2.2.2.2.2.2.2.2.2.2.2.2.2.2.1 (a[i]).2.2.2.2.2.2.2.2.2.2.2.2.2.2.2.2.1 (a[i]).2.2.2.2.2.2.2.2.2.2.2.2.2.2.2.2.2.1 (a[i]).2.2.2.2.2.2.2.2.2.2.2.2.2.2.2.2.2.2 l (by omega) (by omega) (hf.2 _ (QRf h1))
    have hs2:szI (Q2 a[i]) l= -1:=YQ h2
    simp only[xJ,ilt h1,Ql h1,Qi h1,QQ1,hs,QQ0]
    simp only[show szI (Q2 ((a[i]).1,(a[i]).2.1,(a[i]).2.2.1,(a[i]).2.2.2.1,(a[i]).2.2.2.2.1,(a[i]).2.2.2.2.2.1,(a[i]).2.2.2.2.2.2.1,(a[i]).2.2.2.2.2.2.2.1,(a[i]).2.2.2.2.2.2.2.2.1,(a[i]).2.2.2.2.2.2.2.2.2.1,(a[i]).2.2.2.2.2.2.2.2.2.2.1,(a[i]).2.2.2.2.2.2.2.2.2.2.2.1,(a[i]).2.2.2.2.2.2.2.2.2.2.2.2.1,(a[i]).2.2.2.2.2.2.2.2.2.2.2.2.2.1,(a[i]).2.2.2.2.2.2.2.2.2.2.2.2.2.2.1,(a[i]).2.2.2.2.2.2.2.2.2.2.2.2.2.2.2.1,(a[i]).2.2.2.2.2.2.2.2.2.2.2.2.2.2.2.2.1,(a[i]).2.2.2.2.2.2.2.2.2.2.2.2.2.2.2.2.2.1,(a[i]).2.2.2.2.2.2.2.2.2.2.2.2.2.2.2.2.2.2)) l= -1 from hs2,dt (show(-1:Int)<0 by omega),QQ1])
  (fun l=>by
    apply xP
    simp only[xJ,Qs,QQ2])
  (l - a.length) (by omega) (by omega)
 have hl:=hf.1
 simp only[maxLen]at hl
 rw[w64 (by omega) (by omega)]
 simp only[QQ6]at e
 rw[e,QQ0,Qcg]
def X2 (a:List Int):Nat:=a.length
def Qo8 (a:List Int):Prop:=a.length<=maxLen
theorem QDv (a:List Int) (l:Int) (h0:0<=l) (hB:l<=1048576) (hf:Qo8 a):QbN w (a,l)=some (szI (X2 a) l):=by
 apply Qrq
 simp only[QgI]
 exact qY (m:=0) h0 hB hf fun h=>by rw[w64 (by omega) (by omega)];exact Kb (by omega)
def Q6 (x:Qo):Nat:=X2 x.2.1
def Qkm (x:Qo):Prop:=Qo8 x.2.1
theorem QDy {x:Qo}(h:qp YV x):Qkm x:=h.2.1.1
theorem Qx8 (a0:Int) (a1:List Int) (a2:Bool) (l:Int) (h0:0<=l) (hB:l<=1048576) (hf:Qkm (a0,a1,a2)):QcY w (a0,a1,a2,l)=some (szI (Q6 (a0,a1,a2)) l):=by
 apply QrX
 simp only[Qkm]at hf
 have e:Q6 (a0,a1,a2)=(X2 a1+0):=by simp only[Q6];omega
 rw[e]
 simp only[Qi5]
 refine Zl (by omega) (QDv a1 _ (by omega) (by omega) (hf)) fun _=> ?_
 exact Kb (by omega)
def Xk (a:List Qo):Nat:=a.length+Qe Q6 a
def Qpo (a:List Qo):Prop:=a.length<=maxLen/\∀x∈a,Qkm x
theorem QB6 (a:List Qo) (l:Int) (h0:0<=l) (hB:l<=1048576) (hf:Qpo a):QbJ w (a,l)=some (szI (Xk a) l):=by
 apply QpQ
 simp only[Qie,Xk]
 refine qY h0 hB hf.1 fun h=> ?_
 have e:=Qgu Q6 a (fun l i=>V7 wl (a,l,(i:Int))) 1048576
  (fun l i h1 r h0 hB h2 hk=>by
    apply zk
    have hs:=Qx8 (a[i]).1 (a[i]).2.1 (a[i]).2.2 l (by omega) (by omega) (hf.2 _ (QRf h1))
    have hs2:szI (Q6 a[i]) l=l - Q6 a[i]:=KJ h2
    simp only[xB,ilt h1,Ql h1,Qi h1,inc h1 (show a.length<=maxLen from hf.1),QQ1,hs,QQ0]
    simp only[show szI (Q6 ((a[i]).1,(a[i]).2.1,(a[i]).2.2)) l=l - Q6 a[i]from hs2,df (show¬l - (Q6 a[i]:Int)<0 by omega),QQ2]
    exact hk)
  (fun l i h1 h0 hB h2=>by
    apply zk
    have hs:=Qx8 (a[i]).1 (a[i]).2.1 (a[i]).2.2 l (by omega) (by omega) (hf.2 _ (QRf h1))
    have hs2:szI (Q6 a[i]) l= -1:=YQ h2
    simp only[xB,ilt h1,Ql h1,Qi h1,QQ1,hs,QQ0]
    simp only[show szI (Q6 ((a[i]).1,(a[i]).2.1,(a[i]).2.2)) l= -1 from hs2,dt (show(-1:Int)<0 by omega),QQ1])
  (fun l=>by
    apply zk
    simp only[xB,Qs,QQ2])
  (l - a.length) (by omega) (by omega)
 have hl:=hf.1
 simp only[maxLen]at hl
 rw[w64 (by omega) (by omega)]
 simp only[QQ6]at e
 rw[e,QQ0,Qcg]
def Xc (x:Qt):Nat:=QD (x.2.1,x.2.2)
def QkX (x:Qt):Prop:=za (x.2.1,x.2.2)
theorem QCc {x:Qt}(h:qp Yz x):QkX x:=QmK ⟨h.2.1,h.2.2.1,trivial⟩
theorem Qyn (a0:Int) (a1:List Qg) (a2:List Qb) (l:Int) (h0:0<=l) (hB:l<=1048576) (hf:QkX (a0,a1,a2)):Qdd w (a0,a1,a2,l)=some (szI (Xc (a0,a1,a2)) l):=by
 apply QsU
 simp only[QkX]at hf
 have e:Xc (a0,a1,a2)=(QD (a1,a2)+0):=by simp only[Xc];omega
 rw[e]
 simp only[Qja]
 refine Zl (by omega) (Qlo a1 a2 _ (by omega) (by omega) (hf)) fun _=> ?_
 exact Kb (by omega)
def XK (a:List Qt):Nat:=a.length+Qe Xc a
def QoR (a:List Qt):Prop:=a.length<=maxLen/\∀x∈a,QkX x
theorem QC3 (a:List Qt) (l:Int) (h0:0<=l) (hB:l<=1048576) (hf:QoR a):jZ w (a,l)=some (szI (XK a) l):=by
 apply Qru
 simp only[Qh2,XK]
 refine qY h0 hB hf.1 fun h=> ?_
 have e:=Qgu Xc a (fun l i=>VD wl (a,l,(i:Int))) 1048576
  (fun l i h1 r h0 hB h2 hk=>by
    apply x0
    have hs:=Qyn (a[i]).1 (a[i]).2.1 (a[i]).2.2 l (by omega) (by omega) (hf.2 _ (QRf h1))
    have hs2:szI (Xc a[i]) l=l - Xc a[i]:=KJ h2
    simp only[xF,ilt h1,Ql h1,Qi h1,inc h1 (show a.length<=maxLen from hf.1),QQ1,hs,QQ0]
    simp only[show szI (Xc ((a[i]).1,(a[i]).2.1,(a[i]).2.2)) l=l - Xc a[i]from hs2,df (show¬l - (Xc a[i]:Int)<0 by omega),QQ2]
    exact hk)
  (fun l i h1 h0 hB h2=>by
    apply x0
    have hs:=Qyn (a[i]).1 (a[i]).2.1 (a[i]).2.2 l (by omega) (by omega) (hf.2 _ (QRf h1))
    have hs2:szI (Xc a[i]) l= -1:=YQ h2
    simp only[xF,ilt h1,Ql h1,Qi h1,QQ1,hs,QQ0]
    simp only[show szI (Xc ((a[i]).1,(a[i]).2.1,(a[i]).2.2)) l= -1 from hs2,dt (show(-1:Int)<0 by omega),QQ1])
  (fun l=>by
    apply x0
    simp only[xF,Qs,QQ2])
  (l - a.length) (by omega) (by omega)
 have hl:=hf.1
 simp only[maxLen]at hl
 rw[w64 (by omega) (by omega)]
 simp only[QQ6]at e
 rw[e,QQ0,Qcg]
def Xa (x:XH):Nat:=XJ x.1+Xk x.2.1+XK x.2.2
def Qci (x:XH):Prop:=Qpg x.1/\Qpo x.2.1/\QoR x.2.2
theorem QIS {x:XH}(h:qp Qm1 x):Qci x:=⟨⟨h.1.1,fun y hy=>QDF (h.1.2 y hy)⟩,⟨h.2.1.1,fun y hy=>QDy (h.2.1.2 y hy)⟩,⟨h.2.2.1.1,fun y hy=>QCc (h.2.2.1.2 y hy)⟩⟩
theorem QC6 (a0:List Qd) (a1:List Qo) (a2:List Qt) (l:Int) (h0:0<=l) (hB:l<=1048576) (hf:Qci (a0,a1,a2)):QaS w (a0,a1,a2,l)=some (szI (Xa (a0,a1,a2)) l):=by
 apply QqN
 simp only[Qci]at hf
 have e:Xa (a0,a1,a2)=(XJ a0+(Xk a1+(XK a2+0))):=by simp only[Xa];omega
 rw[e]
 simp only[Qip]
 refine Zl (by omega) (QDu a0 _ (by omega) (by omega) (hf.1)) fun _=> ?_
 refine Zl (by omega) (QB6 a1 _ (by omega) (by omega) (hf.2.1)) fun _=> ?_
 refine Zl (by omega) (QC3 a2 _ (by omega) (by omega) (hf.2.2)) fun _=> ?_
 exact Kb (by omega)
theorem QDk (a0:Int) (a1:Int) (a2:Int) (a3:Int) (a4:ByteArray) (h:Va (a0,a1,a2,a3,a4)<=4294967296):Qbo w (a0,a1,a2,a3,a4)=some (a0,a1,a2,a3,a4):=by
 apply Qp7
 simp only[Va]at h
 simp only[QgT]
theorem QEv (a0:Int) (a1:Int) (a2:Int) (a3:Int) (a4:Int) (a5:ByteArray) (h:Xt (a0,a1,a2,a3,a4,a5)<=4294967296):QcH w (a0,a1,a2,a3,a4,a5)=some (a0,a1,a2,a3,a4,a5):=by
 apply Qsl
 simp only[Xt]at h
 simp only[Qjx,QDk a1 a2 a3 a4 a5 (by omega),QQ0]
theorem QB9 (a:List Qg) (h:XC a<=4294967296):vE w a=some a:=by
 apply Qri
 simp only[XC]at h
 have e:=K9 a (fun x=>x) (fun i out=>VF wl (a,(i:Int),out)) (fun out=>out)
  (fun i h1 out r ho hk=>by
    apply Qdt
    have hb:=Xp Xt a i h1
    simp only[Qav,ilt h1,ho,Ql h1,Qi h1,inc h1 (show a.length<=maxLen by simp[maxLen];omega),QQ1,QRb,QEv (a[i]).1 (a[i]).2.1 (a[i]).2.2.1 (a[i]).2.2.2.1 (a[i]).2.2.2.2.1 (a[i]).2.2.2.2.2 (show Xt a[i]<=4294967296 by omega),QQ0]
    exact hk)
  (fun out ho=>by
    apply Qdt
    simp only[Qav,Qs,QQ2])
  (List.replicate a.length (0,0,0,0,0,ByteArray.empty)) (by simp)
 rw[List.map_id']at e
 have hf:fits a.length 56=true:=Qy (by omega)
 simp only[Qgz,QRb,hf]
 simp
 exact e
theorem QB8 (a0:Int) (a1:Int):vz w (a0,a1)=some (a0,a1):=by
 apply Qrm
 simp only[QgV]
theorem QAG (a:List Qb) (h:Xv a<=4294967296):jb w a=some a:=by
 apply Qo1
 simp only[Xv]at h
 have e:=K9 a (fun x=>x) (fun i out=>K1 wl (a,(i:Int),out)) (fun out=>out)
  (fun i h1 out r ho hk=>by
    apply Qb1
    simp only[jk,ilt h1,ho,Ql h1,Qi h1,inc h1 (show a.length<=maxLen by simp[maxLen];omega),QQ1,QRb,QB8 (a[i]).1 (a[i]).2,QQ0]
    exact hk)
  (fun out ho=>by
    apply Qb1
    simp only[jk,Qs,QQ2])
  (List.replicate a.length (0,0)) (by simp)
 rw[List.map_id']at e
 have hf:fits a.length 16=true:=Qy (by omega)
 simp only[QfG,QRb,hf]
 simp
 exact e
theorem QoT (a0:List Qg) (a1:List Qb) (h:QD (a0,a1)<=4294967296):qf w (a0,a1)=some (a0,a1):=by
 apply Qrs
 simp only[QD]at h
 simp only[Qh7,QB9 a0 (by omega),QAG a1 (by omega),QQ0]
theorem Qnv (a:List Int) (h:QR a<=4294967296):JI w a=some a:=by
 apply QsI
 simp only[QR]at h
 have e:=K9 a (fun x=>x) (fun i out=>qj wl (a,(i:Int),out)) (fun out=>out)
  (fun i h1 out r ho hk=>by
    apply Qfm
    simp only[Qcl,ilt h1,ho,Ql h1,Qi h1,inc h1 (show a.length<=maxLen by simp[maxLen];omega),QQ1,QRb]
    exact hk)
  (fun out ho=>by
    apply Qfm
    simp only[Qcl,Qs,QQ2])
  (List.replicate a.length 0) (by simp)
 rw[List.map_id']at e
 have hf:fits a.length 8=true:=Qy (by omega)
 simp only[QjJ,QRb,hf]
 simp
 exact e
theorem QEZ (a0:List Int) (a1:Int) (h:Zg (a0,a1)<=4294967296):QcP w (a0,a1)=some (a0,a1):=by
 apply Qsc
 simp only[Zg]at h
 simp only[QiN,Qnv a0 (by omega),QQ0]
theorem QAU (a:List Qk) (h:XF a<=4294967296):yO w a=some a:=by
 apply QoK
 simp only[XF]at h
 have e:=K9 a (fun x=>x) (fun i out=>K8 wl (a,(i:Int),out)) (fun out=>out)
  (fun i h1 out r ho hk=>by
    apply Qb2
    have hb:=Xp QD a i h1
    simp only[jn,ilt h1,ho,Ql h1,Qi h1,inc h1 (show a.length<=maxLen by simp[maxLen];omega),QQ1,QRb,QoT (a[i]).1 (a[i]).2 (show QD a[i]<=4294967296 by omega),QQ0]
    exact hk)
  (fun out ho=>by
    apply Qb2
    simp only[jn,Qs,QQ2])
  (List.replicate a.length ([],[])) (by simp)
 rw[List.map_id']at e
 have hf:fits a.length 48=true:=Qy (by omega)
 simp only[QfT,QRb,hf]
 simp
 exact e
theorem QFM (a0:Int) (a1:Int) (a2:List Qk) (h:Zy (a0,a1,a2)<=4294967296):Qgi w (a0,a1,a2)=some (a0,a1,a2):=by
 apply QtW
 simp only[Zy]at h
 simp only[Qkf,QAU a2 (by omega),QQ0]
theorem QDt (a:List (List Int)) (h:XL a<=4294967296):vv w a=some a:=by
 apply QqK
 simp only[XL]at h
 have e:=K9 a (fun x=>x) (fun i out=>Jm wl (a,(i:Int),out)) (fun out=>out)
  (fun i h1 out r ho hk=>by
    apply QdH
    have hb:=Xp QR a i h1
    simp only[vV,ilt h1,ho,Ql h1,Qi h1,inc h1 (show a.length<=maxLen by simp[maxLen];omega),QQ1,QRb,Qnv a[i] (show QR a[i]<=4294967296 by omega),QQ0]
    exact hk)
  (fun out ho=>by
    apply QdH
    simp only[vV,Qs,QQ2])
  (List.replicate a.length []) (by simp)
 rw[List.map_id']at e
 have hf:fits a.length 24=true:=Qy (by omega)
 simp only[Qh4,QRb,hf]
 simp
 exact e
theorem QFf (a0:Int) (a1:Int) (a2:Bool) (a3:Int):Qdc w (a0,a1,a2,a3)=some (a0,a1,a2,a3):=by
 apply QsG
 simp only[Qi8]
theorem QCF (a:List QB) (h:Zt a<=4294967296):vU w a=some a:=by
 apply QqP
 simp only[Zt]at h
 have e:=K9 a (fun x=>x) (fun i out=>VG wl (a,(i:Int),out)) (fun out=>out)
  (fun i h1 out r ho hk=>by
    apply Qeo
    simp only[QbH,ilt h1,ho,Ql h1,Qi h1,inc h1 (show a.length<=maxLen by simp[maxLen];omega),QQ1,QRb,QFf (a[i]).1 (a[i]).2.1 (a[i]).2.2.1 (a[i]).2.2.2,QQ0]
    exact hk)
  (fun out ho=>by
    apply Qeo
    simp only[QbH,Qs,QQ2])
  (List.replicate a.length (0,0,false,0)) (by simp)
 rw[List.map_id']at e
 have hf:fits a.length 32=true:=Qy (by omega)
 simp only[Qh9,QRb,hf]
 simp
 exact e
theorem QES (a0:Int) (a1:Int) (a2:Int):Qc6 w (a0,a1,a2)=some (a0,a1,a2):=by
 apply Qst
 simp only[Qji]
theorem QBS (a:List QM) (h:Zv a<=4294967296):Qam w a=some a:=by
 apply QqW
 simp only[Zv]at h
 have e:=K9 a (fun x=>x) (fun i out=>Jp wl (a,(i:Int),out)) (fun out=>out)
  (fun i h1 out r ho hk=>by
    apply QeE
    simp only[QbB,ilt h1,ho,Ql h1,Qi h1,inc h1 (show a.length<=maxLen by simp[maxLen];omega),QQ1,QRb,QES (a[i]).1 (a[i]).2.1 (a[i]).2.2,QQ0]
    exact hk)
  (fun out ho=>by
    apply QeE
    simp only[QbB,Qs,QQ2])
  (List.replicate a.length (0,0,0)) (by simp)
 rw[List.map_id']at e
 have hf:fits a.length 24=true:=Qy (by omega)
 simp only[Qho,QRb,hf]
 simp
 exact e
theorem QE5 (a0:Int) (a1:Int) (a2:List Qg) (a3:List Qb) (a4:List Int) (a5:Int) (a6:Int) (a7:Int) (a8:List Qk) (a9:List Int) (a10:List Int) (a11:List (List Int)) (a12:Int) (a13:Int) (a14:List QB) (a15:Int) (a16:Int) (a17:Int) (a18:List QM) (h:Q2 (a0,a1,a2,a3,a4,a5,a6,a7,a8,a9,a10,a11,a12,a13,a14,a15,a16,a17,a18)<=4294967296):Qc8 w (a0,a1,a2,a3,a4,a5,a6,a7,a8,a9,a10,a11,a12,a13,a14,a15,a16,a17,a18)=some (a0,a1,a2,a3,a4,a5,a6,a7,a8,a9,a10,a11,a12,a13,a14,a15,a16,a17,a18):=by
 apply Qr9
 simp only[Q2]at h
 simp only[QiA,QoT a2 a3 (by omega),QEZ a4 a5 (by omega),QFM a6 a7 a8 (by omega),Qnv a9 (by omega),Qnv a10 (by omega),QDt a11 (by omega),QCF a14 (by omega),QBS a18 (by omega),QQ0]
theorem QB7 (a:List Qd) (h:XJ a<=4294967296):vm w a=some a:=by
 apply QpN
 simp only[XJ]at h
 have e:=K9 a (fun x=>x) (fun i out=>Jd wl (a,(i:Int),out)) (fun out=>out)
  (fun i h1 out r ho hk=>by
    apply Qex
    have hb:=Xp Q2 a i h1
    simp only[QbS,ilt h1,ho,Ql h1,Qi h1,inc h1 (show a.length<=maxLen by simp[maxLen];omega),QQ1,QRb,QE5 (a[i]).1 (a[i]).2.1 (a[i]).2.2.1 (a[i]).2.2.2.1 (a[i]).2.2.2.2.1 (a[i]).2.2.2.2.2.1 (a[i]).2.2.2.2.2.2.1 (a[i]).2.2.2.2.2.2.2.1 (a[i]).2.2.2.2.2.2.2.2.1 (a[i]).2.2.2.2.2.2.2.2.2.1 (a[i]).2.2.2.2.2.2.2.2.2.2.1 (a[i]).2.2.2.2.2.2.2.2.2.2.2.1 (a[i]).2.2.2.2.2.2.2.2.2.2.2.2.1 (a[i]).2.2.2.2.2.2.2.2.2.2.2.2.2.1 (a[i]).2.2.2.2.2.2.2.2.2.2.2.2.2.2.1 (a[i]).2.2.2.2.2.2.2.2.2.2.2.2.2.2.2.1 (a[i]).2.2.2.2.2.2.2.2.2.2.2.2.2.2.2.2.1 (a[i]).2.2.2.2.2.2.2.2.2.2.2.2.2.2.2.2.2.1 (a[i]).2.2.2.2.2.2.2.2.2.2.2.2.2.2.2.2.2.2 (show Q2 a[i]<=4294967296 by omega),QQ0]
    exact hk)
  (fun out ho=>by
    apply Qex
    simp only[QbS,Qs,QQ2])
  (List.replicate a.length (0,0,[],[],[],0,0,0,[],[],[],[],0,0,[],0,0,0,[])) (by simp)
 rw[List.map_id']at e
 have hf:fits a.length 296=true:=Qy (by omega)
 simp only[Qhp,QRb,hf]
 simp
 exact e
theorem QCq (a:List Int) (h:X2 a<=4294967296):QbQ w a=some a:=by
 apply Qpr
 simp only[X2]at h
 have e:=K9 a (fun x=>x) (fun i out=>Vt wl (a,(i:Int),out)) (fun out=>out)
  (fun i h1 out r ho hk=>by
    apply Qd5
    simp only[QbF,ilt h1,ho,Ql h1,Qi h1,inc h1 (show a.length<=maxLen by simp[maxLen];omega),QQ1,QRb]
    exact hk)
  (fun out ho=>by
    apply Qd5
    simp only[QbF,Qs,QQ2])
  (List.replicate a.length 0) (by simp)
 rw[List.map_id']at e
 have hf:fits a.length 1=true:=Qy (by omega)
 simp only[QgU,QRb,hf]
 simp
 exact e
theorem QEX (a0:Int) (a1:List Int) (a2:Bool) (h:Q6 (a0,a1,a2)<=4294967296):Qdq w (a0,a1,a2)=some (a0,a1,a2):=by
 apply QsY
 simp only[Q6]at h
 simp only[QiY,QCq a1 (by omega),QQ0]
theorem QDm (a:List Qo) (h:Xk a<=4294967296):vD w a=some a:=by
 apply Qq9
 simp only[Xk]at h
 have e:=K9 a (fun x=>x) (fun i out=>VK wl (a,(i:Int),out)) (fun out=>out)
  (fun i h1 out r ho hk=>by
    apply Qdz
    have hb:=Xp Q6 a i h1
    simp only[j9,ilt h1,ho,Ql h1,Qi h1,inc h1 (show a.length<=maxLen by simp[maxLen];omega),QQ1,QRb,QEX (a[i]).1 (a[i]).2.1 (a[i]).2.2 (show Q6 a[i]<=4294967296 by omega),QQ0]
    exact hk)
  (fun out ho=>by
    apply Qdz
    simp only[j9,Qs,QQ2])
  (List.replicate a.length (0,[],false)) (by simp)
 rw[List.map_id']at e
 have hf:fits a.length 40=true:=Qy (by omega)
 simp only[QgK,QRb,hf]
 simp
 exact e
theorem QEH (a0:Int) (a1:List Qg) (a2:List Qb) (h:Xc (a0,a1,a2)<=4294967296):QcV w (a0,a1,a2)=some (a0,a1,a2):=by
 apply QsV
 simp only[Xc]at h
 simp only[QiF,QoT a1 a2 (by omega),QQ0]
theorem QCa (a:List Qt) (h:XK a<=4294967296):Qbg w a=some a:=by
 apply Qqq
 simp only[XK]at h
 have e:=K9 a (fun x=>x) (fun i out=>V3 wl (a,(i:Int),out)) (fun out=>out)
  (fun i h1 out r ho hk=>by
    apply Qd0
    have hb:=Xp Xc a i h1
    simp only[Qa4,ilt h1,ho,Ql h1,Qi h1,inc h1 (show a.length<=maxLen by simp[maxLen];omega),QQ1,QRb,QEH (a[i]).1 (a[i]).2.1 (a[i]).2.2 (show Xc a[i]<=4294967296 by omega),QQ0]
    exact hk)
  (fun out ho=>by
    apply Qd0
    simp only[Qa4,Qs,QQ2])
  (List.replicate a.length (0,[],[])) (by simp)
 rw[List.map_id']at e
 have hf:fits a.length 56=true:=Qy (by omega)
 simp only[QhZ,QRb,hf]
 simp
 exact e
theorem QC9 (a0:List Qd) (a1:List Qo) (a2:List Qt) (h:Xa (a0,a1,a2)<=4294967296):K7 w (a0,a1,a2)=some (a0,a1,a2):=by
 apply QqG
 simp only[Xa]at h
 simp only[QgL,QB7 a0 (by omega),QDm a1 (by omega),QCa a2 (by omega),QQ0]
theorem QCZ (a0:Int) (a1:Int) (a2:Int) (a3:Int) (a4:ByteArray) (h:Va (a0,a1,a2,a3,a4)<=4294967296):vK w (a0,a1,a2,a3,a4,a0,a1,a2,a3,a4)=some true:=by
 apply QqJ
 simp only[Va]at h
 simp only[Qhf,decide_true,QQ3,QQ2,QV,beq_self_eq_true,QQ0]
theorem QEP (a0:Int) (a1:Int) (a2:Int) (a3:Int) (a4:Int) (a5:ByteArray) (h:Xt (a0,a1,a2,a3,a4,a5)<=4294967296):QcZ w (a0,a1,a2,a3,a4,a5,a0,a1,a2,a3,a4,a5)=some true:=by
 apply Qsg
 simp only[Xt]at h
 simp only[QiW,QCZ a1 a2 a3 a4 a5 (by omega),decide_true,QQ3,QQ2,QV,beq_self_eq_true,QQ0]
theorem QCk (a:List Qg) (h:XC a<=4294967296):Qbk w (a,a)=some true:=by
 apply QpP
 simp only[XC]at h
 have e:=KQ a.length (fun i=>Jn wl (a,a,(i:Int))) (.inr ())
  (fun i h1 r hk=>by
    apply QeG
    have hb:=Xp Xt a i h1
    simp only[QaC,ilt h1,Ql h1,Qi h1,inc h1 (show a.length<=maxLen by simp[maxLen];omega),QQ1,decide_true,QQ3,QQ2,QV,beq_self_eq_true,QEP (a[i]).1 (a[i]).2.1 (a[i]).2.2.1 (a[i]).2.2.2.1 (a[i]).2.2.2.2.1 (a[i]).2.2.2.2.2 (show Xt a[i]<=4294967296 by omega),QQ0]
    exact hk)
  (by
    apply QeG
    simp only[QaC,Qs,QQ2])
 simp only[QQ6]at e
 simp only[QhX,decide_true,QQ3,QQ2,e,QQ0,Qq,Sum.elim_inr]
theorem QC5 (a0:Int) (a1:Int):j7 w (a0,a1,a0,a1)=some true:=by
 apply Qp3
 simp only[Qg6,decide_true,QQ3,QQ2,QV,beq_self_eq_true,QQ0]
theorem QAF (a:List Qb) (h:Xv a<=4294967296):yW w (a,a)=some true:=by
 apply QoM
 simp only[Xv]at h
 have e:=KQ a.length (fun i=>KY wl (a,a,(i:Int))) (.inr ())
  (fun i h1 r hk=>by
    apply Qb9
    simp only[jr,ilt h1,Ql h1,Qi h1,inc h1 (show a.length<=maxLen by simp[maxLen];omega),QQ1,decide_true,QQ3,QQ2,QV,beq_self_eq_true,QC5 (a[i]).1 (a[i]).2,QQ0]
    exact hk)
  (by
    apply Qb9
    simp only[jr,Qs,QQ2])
 simp only[QQ6]at e
 simp only[Qfs,decide_true,QQ3,QQ2,e,QQ0,Qq,Sum.elim_inr]
theorem QoB (a0:List Qg) (a1:List Qb) (h:QD (a0,a1)<=4294967296):J1 w (a0,a1,a0,a1)=some true:=by
 apply Qp8
 simp only[QD]at h
 simp only[QgF,QCk a0 (by omega),QAF a1 (by omega),decide_true,QQ3,QQ2,QV,beq_self_eq_true,QQ0]
theorem Qnn (a:List Int) (h:QR a<=4294967296):Jz w (a,a)=some true:=by
 apply Qsr
 simp only[QR]at h
 have e:=KQ a.length (fun i=>JR wl (a,a,(i:Int))) (.inr ())
  (fun i h1 r hk=>by
    apply Qfp
    simp only[Qcw,ilt h1,Ql h1,Qi h1,inc h1 (show a.length<=maxLen by simp[maxLen];omega),QQ1,decide_true,QQ3,QQ2,QV,beq_self_eq_true]
    exact hk)
  (by
    apply Qfp
    simp only[Qcw,Qs,QQ2])
 simp only[QQ6]at e
 simp only[Qiz,decide_true,QQ3,QQ2,e,QQ0,Qq,Sum.elim_inr]
theorem QEM (a0:List Int) (a1:Int) (h:Zg (a0,a1)<=4294967296):Qc3 w (a0,a1,a0,a1)=some true:=by
 apply Qsp
 simp only[Zg]at h
 simp only[Qjv,Qnn a0 (by omega),decide_true,QQ3,QQ2,QV,beq_self_eq_true,QQ0]
theorem QBs (a:List Qk) (h:XF a<=4294967296):yQ w (a,a)=some true:=by
 apply Qo5
 simp only[XF]at h
 have e:=KQ a.length (fun i=>KS wl (a,a,(i:Int))) (.inr ())
  (fun i h1 r hk=>by
    apply Qb8
    have hb:=Xp QD a i h1
    simp only[jA,ilt h1,Ql h1,Qi h1,inc h1 (show a.length<=maxLen by simp[maxLen];omega),QQ1,decide_true,QQ3,QQ2,QV,beq_self_eq_true,QoB (a[i]).1 (a[i]).2 (show QD a[i]<=4294967296 by omega),QQ0]
    exact hk)
  (by
    apply Qb8
    simp only[jA,Qs,QQ2])
 simp only[QQ6]at e
 simp only[Qfq,decide_true,QQ3,QQ2,e,QQ0,Qq,Sum.elim_inr]
theorem QFv (a0:Int) (a1:Int) (a2:List Qk) (h:Zy (a0,a1,a2)<=4294967296):Qgb w (a0,a1,a2,a0,a1,a2)=some true:=by
 apply Qt9
 simp only[Zy]at h
 simp only[QkP,QBs a2 (by omega),decide_true,QQ3,QQ2,QV,beq_self_eq_true,QQ0]
theorem QCO (a:List (List Int)) (h:XL a<=4294967296):vo w (a,a)=some true:=by
 apply Qqt
 simp only[XL]at h
 have e:=KQ a.length (fun i=>VU wl (a,a,(i:Int))) (.inr ())
  (fun i h1 r hk=>by
    apply Qet
    have hb:=Xp QR a i h1
    simp only[v8,ilt h1,Ql h1,Qi h1,inc h1 (show a.length<=maxLen by simp[maxLen];omega),QQ1,decide_true,QQ3,QQ2,QV,beq_self_eq_true,Qnn a[i] (show QR a[i]<=4294967296 by omega),QQ0]
    exact hk)
  (by
    apply Qet
    simp only[v8,Qs,QQ2])
 simp only[QQ6]at e
 simp only[Qg1,decide_true,QQ3,QQ2,e,QQ0,Qq,Sum.elim_inr]
theorem QEx (a0:Int) (a1:Int) (a2:Bool) (a3:Int):QcX w (a0,a1,a2,a3,a0,a1,a2,a3)=some true:=by
 apply QrS
 simp only[Qjy,decide_true,QQ3,QQ2,QV,beq_self_eq_true,QQ0]
theorem QDz (a:List QB) (h:Zt a<=4294967296):Qbw w (a,a)=some true:=by
 apply Qq6
 simp only[Zt]at h
 have e:=KQ a.length (fun i=>VJ wl (a,a,(i:Int))) (.inr ())
  (fun i h1 r hk=>by
    apply Qd7
    simp only[vr,ilt h1,Ql h1,Qi h1,inc h1 (show a.length<=maxLen by simp[maxLen];omega),QQ1,decide_true,QQ3,QQ2,QV,beq_self_eq_true,QEx (a[i]).1 (a[i]).2.1 (a[i]).2.2.1 (a[i]).2.2.2,QQ0]
    exact hk)
  (by
    apply Qd7
    simp only[vr,Qs,QQ2])
 simp only[QQ6]at e
 simp only[Qh5,decide_true,QQ3,QQ2,e,QQ0,Qq,Sum.elim_inr]
theorem QFc (a0:Int) (a1:Int) (a2:Int):Qdo w (a0,a1,a2,a0,a1,a2)=some true:=by
 apply QrZ
 simp only[Qjl,decide_true,QQ3,QQ2,QV,beq_self_eq_true,QQ0]
theorem QDe (a:List QM) (h:Zv a<=4294967296):QbC w (a,a)=some true:=by
 apply Qrk
 simp only[Zv]at h
 have e:=KQ a.length (fun i=>VT wl (a,a,(i:Int))) (.inr ())
  (fun i h1 r hk=>by
    apply Qdv
    simp only[Qbx,ilt h1,Ql h1,Qi h1,inc h1 (show a.length<=maxLen by simp[maxLen];omega),QQ1,decide_true,QQ3,QQ2,QV,beq_self_eq_true,QFc (a[i]).1 (a[i]).2.1 (a[i]).2.2,QQ0]
    exact hk)
  (by
    apply Qdv
    simp only[Qbx,Qs,QQ2])
 simp only[QQ6]at e
 simp only[QgS,decide_true,QQ3,QQ2,e,QQ0,Qq,Sum.elim_inr]
theorem QFa (a0:Int) (a1:Int) (a2:List Qg) (a3:List Qb) (a4:List Int) (a5:Int) (a6:Int) (a7:Int) (a8:List Qk) (a9:List Int) (a10:List Int) (a11:List (List Int)) (a12:Int) (a13:Int) (a14:List QB) (a15:Int) (a16:Int) (a17:Int) (a18:List QM) (h:Q2 (a0,a1,a2,a3,a4,a5,a6,a7,a8,a9,a10,a11,a12,a13,a14,a15,a16,a17,a18)<=4294967296):Qc0 w (a0,a1,a2,a3,a4,a5,a6,a7,a8,a9,a10,a11,a12,a13,a14,a15,a16,a17,a18,a0,a1,a2,a3,a4,a5,a6,a7,a8,a9,a10,a11,a12,a13,a14,a15,a16,a17,a18)=some true:=by
 apply Qsn
 simp only[Q2]at h
 simp only[QiU,QoB a2 a3 (by omega),QEM a4 a5 (by omega),QFv a6 a7 a8 (by omega),Qnn a9 (by omega),Qnn a10 (by omega),QCO a11 (by omega),QDz a14 (by omega),QDe a18 (by omega),decide_true,QQ3,QQ2,QV,beq_self_eq_true,QQ0]
theorem QBZ (a:List Qd) (h:XJ a<=4294967296):Qby w (a,a)=some true:=by
 apply QqS
 simp only[XJ]at h
 have e:=KQ a.length (fun i=>Vy wl (a,a,(i:Int))) (.inr ())
  (fun i h1 r hk=>by
    apply QdQ
    have hb:=Xp Q2 a i h1
    simp only[Qas,ilt h1,Ql h1,Qi h1,inc h1 (show a.length<=maxLen by simp[maxLen];omega),QQ1,decide_true,QQ3,QQ2,QV,beq_self_eq_true,QFa (a[i]).1 (a[i]).2.1 (a[i]).2.2.1 (a[i]).2.2.2.1 (a[i]).2.2.2.2.1 (a[i]).2.2.2.2.2.1 (a[i]).2.2.2.2.2.2.1 (a[i]).2.2.2.2.2.2.2.1 (a[i]).2.2.2.2.2.2.2.2.1 (a[i]).2.2.2.2.2.2.2.2.2.1 (a[i]).2.2.2.2.2.2.2.2.2.2.1 (a[i]).2.2.2.2.2.2.2.2.2.2.2.1 (a[i]).2.2.2.2.2.2.2.2.2.2.2.2.1 (a[i]).2.2.2.2.2.2.2.2.2.2.2.2.2.1 (a[i]).2.2.2.2.2.2.2.2.2.2.2.2.2.2.1 (a[i]).2.2.2.2.2.2.2.2.2.2.2.2.2.2.2.1 (a[i]).2.2.2.2.2.2.2.2.2.2.2.2.2.2.2.2.1 (a[i]).2.2.2.2.2.2.2.2.2.2.2.2.2.2.2.2.2.1 (a[i]).2.2.2.2.2.2.2.2.2.2.2.2.2.2.2.2.2.2 (show Q2 a[i]<=4294967296 by omega),QQ0]
    exact hk)
  (by
    apply QdQ
    simp only[Qas,Qs,QQ2])
 simp only[QQ6]at e
 simp only[QhO,decide_true,QQ3,QQ2,e,QQ0,Qq,Sum.elim_inr]
theorem QC8 (a:List Int) (h:X2 a<=4294967296):Qbp w (a,a)=some true:=by
 apply Qqy
 simp only[X2]at h
 have e:=KQ a.length (fun i=>V2 wl (a,a,(i:Int))) (.inr ())
  (fun i h1 r hk=>by
    apply Qed
    simp only[QaR,ilt h1,Ql h1,Qi h1,inc h1 (show a.length<=maxLen by simp[maxLen];omega),QQ1,decide_true,QQ3,QQ2,QV,beq_self_eq_true]
    exact hk)
  (by
    apply Qed
    simp only[QaR,Qs,QQ2])
 simp only[QQ6]at e
 simp only[QhL,decide_true,QQ3,QQ2,e,QQ0,Qq,Sum.elim_inr]
theorem QEF (a0:Int) (a1:List Int) (a2:Bool) (h:Q6 (a0,a1,a2)<=4294967296):Qda w (a0,a1,a2,a0,a1,a2)=some true:=by
 apply QsR
 simp only[Q6]at h
 simp only[QiP,QC8 a1 (by omega),decide_true,QQ3,QQ2,QV,beq_self_eq_true,QQ0]
theorem QDp (a:List Qo) (h:Xk a<=4294967296):QaF w (a,a)=some true:=by
 apply Qpv
 simp only[Xk]at h
 have e:=KQ a.length (fun i=>V4 wl (a,a,(i:Int))) (.inr ())
  (fun i h1 r hk=>by
    apply Qen
    have hb:=Xp Q6 a i h1
    simp only[QaW,ilt h1,Ql h1,Qi h1,inc h1 (show a.length<=maxLen by simp[maxLen];omega),QQ1,decide_true,QQ3,QQ2,QV,beq_self_eq_true,QEF (a[i]).1 (a[i]).2.1 (a[i]).2.2 (show Q6 a[i]<=4294967296 by omega),QQ0]
    exact hk)
  (by
    apply Qen
    simp only[QaW,Qs,QQ2])
 simp only[QQ6]at e
 simp only[Qhw,decide_true,QQ3,QQ2,e,QQ0,Qq,Sum.elim_inr]
theorem QE0 (a0:Int) (a1:List Qg) (a2:List Qb) (h:Xc (a0,a1,a2)<=4294967296):Qdj w (a0,a1,a2,a0,a1,a2)=some true:=by
 apply Qsi
 simp only[Xc]at h
 simp only[Qjj,QoB a1 a2 (by omega),decide_true,QQ3,QQ2,QV,beq_self_eq_true,QQ0]
theorem QCd (a:List Qt) (h:XK a<=4294967296):Qae w (a,a)=some true:=by
 apply QqR
 simp only[XK]at h
 have e:=KQ a.length (fun i=>VE wl (a,a,(i:Int))) (.inr ())
  (fun i h1 r hk=>by
    apply QeI
    have hb:=Xp Xc a i h1
    simp only[QaX,ilt h1,Ql h1,Qi h1,inc h1 (show a.length<=maxLen by simp[maxLen];omega),QQ1,decide_true,QQ3,QQ2,QV,beq_self_eq_true,QE0 (a[i]).1 (a[i]).2.1 (a[i]).2.2 (show Xc a[i]<=4294967296 by omega),QQ0]
    exact hk)
  (by
    apply QeI
    simp only[QaX,Qs,QQ2])
 simp only[QQ6]at e
 simp only[QhB,decide_true,QQ3,QQ2,e,QQ0,Qq,Sum.elim_inr]
theorem Qwj (a0:List Qd) (a1:List Qo) (a2:List Qt) (h:Xa (a0,a1,a2)<=4294967296):YH w (a0,a1,a2,a0,a1,a2)=some true:=by
 apply Qq3
 simp only[Xa]at h
 simp only[Qib,QBZ a0 (by omega),QDp a1 (by omega),QCd a2 (by omega),decide_true,QQ3,QQ2,QV,beq_self_eq_true,QQ0]
theorem Qum:∀(n:Nat) (k:Int) (out:ByteArray),0<=k->k<=9223372036854775807->k<10^n->ByteArray.size out+n<=100000->∃r,KU wl (k,out)=some r/\ByteArray.size r<=100000:=by
 intro n
 induction n with
 |zero=>
  intro k out h0 hm h1 h2
  have:k=0:=by omega
  subst this
  refine⟨out, ?_,by omega⟩
  apply xr
  simp only[qB,df (show¬(0:Int)<0 by omega),QQ2]
 |succ n ih=>
  intro k out h0 hm h1 h2
  by_cases hk:0<k
  ·have hd:=Int.tdiv_eq_ediv_of_nonneg (b:=10) h0
   obtain⟨r,hr,hs⟩:=ih (Int.tdiv k 10) (Ym [IntKind.wrap .u8 (wR (48+Int.tmod k 10))]++out) (by omega) (by omega) (by rw[Int.pow_succ]at h1;omega) (by rw[ByteArray.size_append,Qmj];simp;omega)
   refine⟨r, ?_,hs⟩
   apply xr
   simp only[qB,dt hk,QQ1,dt (show(10:Int)≠0 by omega),Qmj,Qy (show(List.length [IntKind.wrap .u8 (wR (48+Int.tmod k 10))]+ByteArray.size out)*1<=140737488351232 by simp;omega)]
   rw[w64 (n:=Int.tdiv k 10) (by omega) (by omega)]
   exact hr
  ·have:k=0:=by omega
   subst this
   refine⟨out, ?_,by omega⟩
   apply xr
   simp only[qB,df (show¬(0:Int)<0 by omega),QQ2]
noncomputable def QuB (k:Int):ByteArray:=(Kj w k).getD ByteArray.empty
theorem Qog (k:Int) (h0:0<k) (hm:k<=9223372036854775807):Kj w k=some (QuB k):=by
 obtain⟨r,hr,hs⟩:=Qum 30 k (⟨#[]⟩:ByteArray) (by omega) hm (by omega) (by show 0+30<=100000;omega)
 have:Kj w k=some ((⟨#[109]⟩:ByteArray)++r):=by
  apply QoQ
  have h1:ByteArray.size (⟨#[109]⟩:ByteArray)=1:=rfl
  simp only[Qfw,df (show¬k<=0 by omega),QQ2,hr,QQ0,Qy (show(ByteArray.size (⟨#[109]⟩:ByteArray)+ByteArray.size r)*1<=140737488351232 by omega),QQ1]
 rw[QuB,this];rfl
noncomputable def ZW (x:Qg) (n:Int):Qg:=(n,(n+1),((n+1)+1),(((n+1)+1)+1),((((n+1)+1)+1)+1),QuB (((((n+1)+1)+1)+1)+1))
def Qw (x:Qg):Nat:=6
theorem QwJ (x:Qg):Qw x<=64*(Xt x+1):=by
 simp only[Qw,Va,Xt];omega
theorem Qk8 (a:List Qg):Qe Qw a<=64*XC a:=by
 have h:=Qcm Qw Xt (fun x=>QwJ x) a
 simp only[XC];omega
theorem QlF (a:List Qg) (k:Int) (hk:0<k) (hs:k+((Qe Qw a:Nat):Int)<=1152921504606846976) (h:XC a<=4294967296):KM w (a,k)=some (k+((Qe Qw a:Nat):Int),Qu ZW Qw a k):=by
 apply QnM
 simp only[XC]at h
 have e:=YD ZW Qw a (fun k i ys=>Z8 wl (k,(i:Int),ys)) (fun k ys=>(k,ys)) 1152921504606846976
  (fun k i ys h1 r hy hm h0 hB hk=>by
    apply vH
    have hb:=Yt Xt hm
    simp only[Qw]at hB
    have hw0:wR (k+1)=k+1:=w64 (by omega) (by omega)
    have hw1:wR ((k+1)+1)=(k+1)+1:=w64 (by omega) (by omega)
    have hw2:wR (((k+1)+1)+1)=((k+1)+1)+1:=w64 (by omega) (by omega)
    have hw3:wR ((((k+1)+1)+1)+1)=(((k+1)+1)+1)+1:=w64 (by omega) (by omega)
    have hw4:wR (((((k+1)+1)+1)+1)+1)=((((k+1)+1)+1)+1)+1:=w64 (by omega) (by omega)
    have hw5:wR ((((((k+1)+1)+1)+1)+1)+1)=(((((k+1)+1)+1)+1)+1)+1:=w64 (by omega) (by omega)
    have ht5:=Qog (((((k+1)+1)+1)+1)+1) (by omega) (by omega)
    simp only[zZ,ilt h1,Ql h1,Qi h1,JP h1,List.length_set,List.set_set,inc h1 (show ys.length<=maxLen by simp[maxLen];omega),QQ1,QRb,QQ0,dt (show(3:Int)≠0 by omega),hw0,hw1,hw2,hw3,hw4,hw5,ht5]
    have hk:Z8 wl (k+((6:Nat):Int),((i+1:Nat):Int),ys.set i (k,(k+1),((k+1)+1),(((k+1)+1)+1),((((k+1)+1)+1)+1),QuB (((((k+1)+1)+1)+1)+1)))=some r:=hk
    rw[show k+((6:Nat):Int)=((((((k+1)+1)+1)+1)+1)+1) by omega]at hk
    exact hk)
  (fun k ys hy=>by
    apply vH
    simp only[zZ,<-hy,Qs,QQ2])
  k hk hs
 simp only[QQ6]at e
 simp only[QdP,e,QQ0]
theorem Qlp (a:List Qg) (k:Int) (hk:0<k) (hs:k+((Qe Qw a:Nat):Int)<=1152921504606846976) (h:XC a<=4294967296):KL w (Qu ZW Qw a k,k)=some (k+((Qe Qw a:Nat):Int)):=by
 apply QnX
 simp only[XC]at h
 have hl:(Qu ZW Qw a k).length=a.length:=XI _ _ a k
 have e:=YI ZW Qw a k (fun l i=>Ya wl ((Qu ZW Qw a k),l,(i:Int))) 1152921504606846976
  (fun k1 i h1 x r hx hm h0 hB hk=>by
    apply ve
    have hb:=Yt Xt hx
    simp only[Qw]at hB
    simp only[ZW]at hm
    have hw0:wR (k1+1)=k1+1:=w64 (by omega) (by omega)
    have hw1:wR ((k1+1)+1)=(k1+1)+1:=w64 (by omega) (by omega)
    have hw2:wR (((k1+1)+1)+1)=((k1+1)+1)+1:=w64 (by omega) (by omega)
    have hw3:wR ((((k1+1)+1)+1)+1)=(((k1+1)+1)+1)+1:=w64 (by omega) (by omega)
    have hw4:wR (((((k1+1)+1)+1)+1)+1)=((((k1+1)+1)+1)+1)+1:=w64 (by omega) (by omega)
    have hw5:wR ((((((k1+1)+1)+1)+1)+1)+1)=(((((k1+1)+1)+1)+1)+1)+1:=w64 (by omega) (by omega)
    have ht5:=Qog (((((k1+1)+1)+1)+1)+1) (by omega) (by omega)
    simp only[yw,ilt h1,Ql h1,Qi h1,hm,inc h1 (show(Qu ZW Qw a k).length<=maxLen by rw[hl];simp[maxLen];omega),QQ1,QQ2,decide_true,QQ3,QV,beq_self_eq_true,QQ0,dt (show(3:Int)≠0 by omega),hw0,hw1,hw2,hw3,hw4,hw5,ht5]
    have hk:Ya wl ((Qu ZW Qw a k),k1+((6:Nat):Int),((i+1:Nat):Int))=some r:=hk
    rw[show k1+((6:Nat):Int)=((((((k1+1)+1)+1)+1)+1)+1) by omega]at hk
    exact hk)
  (fun l=>by
    apply ve
    simp only[yw,hl,Qs,QQ2])
  hk hs
 simp only[QQ6]at e
 simp only[QdY,e,QQ0,Qq,Sum.elim_inr]
noncomputable def Zf (x:Qb) (n:Int):Qb:=(n,(n+1))
def Qx (x:Qb):Nat:=2
theorem QuK (x:Qb):Qx x<=64:=by
 simp only[Qx];omega
theorem QjW (a:List Qb):Qe Qx a<=64*Xv a:=by
 have h:=Qev Qx (fun x=>QuK x) a
 simp only[Xv];omega
theorem QjV (a:List Qb) (k:Int) (hk:0<k) (hs:k+((Qe Qx a:Nat):Int)<=1152921504606846976) (h:Xv a<=4294967296):YX w (a,k)=some (k+((Qe Qx a:Nat):Int),Qu Zf Qx a k):=by
 apply Qmk
 simp only[Xv]at h
 have e:=YD Zf Qx a (fun k i ys=>Zz wl (k,(i:Int),ys)) (fun k ys=>(k,ys)) 1152921504606846976
  (fun k i ys h1 r hy hm h0 hB hk=>by
    apply jR
    simp only[Qx]at hB
    have hw0:wR (k+1)=k+1:=w64 (by omega) (by omega)
    have hw1:wR ((k+1)+1)=(k+1)+1:=w64 (by omega) (by omega)
    simp only[zd,ilt h1,Ql h1,Qi h1,JP h1,List.length_set,List.set_set,inc h1 (show ys.length<=maxLen by simp[maxLen];omega),QQ1,QRb,QQ0,dt (show(3:Int)≠0 by omega),hw0,hw1]
    have hk:Zz wl (k+((2:Nat):Int),((i+1:Nat):Int),ys.set i (k,(k+1)))=some r:=hk
    rw[show k+((2:Nat):Int)=((k+1)+1) by omega]at hk
    exact hk)
  (fun k ys hy=>by
    apply jR
    simp only[zd,<-hy,Qs,QQ2])
  k hk hs
 simp only[QQ6]at e
 simp only[QbW,e,QQ0]
theorem Qj2 (a:List Qb) (k:Int) (hk:0<k) (hs:k+((Qe Qx a:Nat):Int)<=1152921504606846976) (h:Xv a<=4294967296):Y1 w (Qu Zf Qx a k,k)=some (k+((Qe Qx a:Nat):Int)):=by
 apply QmE
 simp only[Xv]at h
 have hl:(Qu Zf Qx a k).length=a.length:=XI _ _ a k
 have e:=YI Zf Qx a k (fun l i=>ZA wl ((Qu Zf Qx a k),l,(i:Int))) 1152921504606846976
  (fun k1 i h1 x r hx hm h0 hB hk=>by
    apply jP
    simp only[Qx]at hB
    simp only[Zf]at hm
    have hw0:wR (k1+1)=k1+1:=w64 (by omega) (by omega)
    have hw1:wR ((k1+1)+1)=(k1+1)+1:=w64 (by omega) (by omega)
    simp only[xS,ilt h1,Ql h1,Qi h1,hm,inc h1 (show(Qu Zf Qx a k).length<=maxLen by rw[hl];simp[maxLen];omega),QQ1,QQ2,decide_true,QQ3,QV,beq_self_eq_true,QQ0,dt (show(3:Int)≠0 by omega),hw0,hw1]
    have hk:ZA wl ((Qu Zf Qx a k),k1+((2:Nat):Int),((i+1:Nat):Int))=some r:=hk
    rw[show k1+((2:Nat):Int)=((k1+1)+1) by omega]at hk
    exact hk)
  (fun l=>by
    apply jP
    simp only[xS,hl,Qs,QQ2])
  hk hs
 simp only[QQ6]at e
 simp only[QbV,e,QQ0,Qq,Sum.elim_inr]
theorem QjL (a:List Int):Qe (fun _=>1) a<=64*QR a:=by
 have h:=Qev (fun _=>1) (fun _=>by omega) a
 simp only[QR];omega
theorem QtF (a:List Int) (k:Int) (hk:0<k) (hs:k+((Qe (fun _=>1) a:Nat):Int)<=1152921504606846976) (h:QR a<=4294967296):Kg w (a,k)=some (k+((Qe (fun _=>1) a:Nat):Int),Qu (fun _ n=>n) (fun _=>1) a k):=by
 apply Qpp
 simp only[QR]at h
 have e:=YD (fun _ n=>n) (fun _=>1) a (fun k i ys=>Ys wl (k,(i:Int),ys)) (fun k ys=>(k,ys)) 1152921504606846976
  (fun k i ys h1 r hy hm h0 hB hk=>by
    apply QbZ
    have hw0:wR (k+1)=k+1:=w64 (by omega) (by omega)
    simp only[js,ilt h1,Ql h1,Qi h1,JP h1,List.length_set,List.set_set,inc h1 (show ys.length<=maxLen by simp[maxLen];omega),QQ1,QRb,QQ0,dt (show(3:Int)≠0 by omega),hw0]
    have hk:Ys wl (k+((1:Nat):Int),((i+1:Nat):Int),ys.set i k)=some r:=hk
    rw[show k+((1:Nat):Int)=(k+1) by omega]at hk
    exact hk)
  (fun k ys hy=>by
    apply QbZ
    simp only[js,<-hy,Qs,QQ2])
  k hk hs
 simp only[QQ6]at e
 simp only[QfB,e,QQ0]
theorem QtK (a:List Int) (k:Int) (hk:0<k) (hs:k+((Qe (fun _=>1) a:Nat):Int)<=1152921504606846976) (h:QR a<=4294967296):Ki w (Qu (fun _ n=>n) (fun _=>1) a k,k)=some (k+((Qe (fun _=>1) a:Nat):Int)):=by
 apply Qpe
 simp only[QR]at h
 have hl:(Qu (fun _ n=>n) (fun _=>1) a k).length=a.length:=XI _ _ a k
 have e:=YI (fun _ n=>n) (fun _=>1) a k (fun l i=>Yo wl ((Qu (fun _ n=>n) (fun _=>1) a k),l,(i:Int))) 1152921504606846976
  (fun k1 i h1 x r hx hm h0 hB hk=>by
    apply Qb5
    have hw0:wR (k1+1)=k1+1:=w64 (by omega) (by omega)
    simp only[jv,ilt h1,Ql h1,Qi h1,hm,inc h1 (show(Qu (fun _ n=>n) (fun _=>1) a k).length<=maxLen by rw[hl];simp[maxLen];omega),QQ1,QQ2,decide_true,QQ3,QV,beq_self_eq_true,QQ0,dt (show(3:Int)≠0 by omega),hw0]
    have hk:Yo wl ((Qu (fun _ n=>n) (fun _=>1) a k),k1+((1:Nat):Int),((i+1:Nat):Int))=some r:=hk
    rw[show k1+((1:Nat):Int)=(k1+1) by omega]at hk
    exact hk)
  (fun l=>by
    apply Qb5
    simp only[jv,hl,Qs,QQ2])
  hk hs
 simp only[QQ6]at e
 simp only[QfR,e,QQ0,Qq,Sum.elim_inr]
noncomputable def KA (x:Qk) (n:Int):Qk:=(Qu ZW Qw x.1 n,Qu Zf Qx x.2 (n+((Qe Qw x.1:Nat):Int)))
def Q4 (x:Qk):Nat:=Qe Qw x.1+Qe Qx x.2
theorem Qvc (x:Qk):Q4 x<=64*(QD x+1):=by
 have h0:=Qk8 x.1
 have h1:=QjW x.2
 simp only[Q4,QD];omega
theorem Qxk (a:List Qk):Qe Q4 a<=64*XF a:=by
 have h:=Qcm Q4 QD (fun x=>Qvc x) a
 simp only[XF];omega
theorem QwQ (a:List Qk) (k:Int) (hk:0<k) (hs:k+((Qe Q4 a:Nat):Int)<=1152921504606846976) (h:XF a<=4294967296):xL w (a,k)=some (k+((Qe Q4 a:Nat):Int),Qu KA Q4 a k):=by
 apply Qmq
 simp only[XF]at h
 have e:=YD KA Q4 a (fun k i ys=>ZE wl (k,(i:Int),ys)) (fun k ys=>(k,ys)) 1152921504606846976
  (fun k i ys h1 r hy hm h0 hB hk=>by
    apply jU
    have hb:=Yt QD hm
    simp only[Q4]at hB
    simp only[QD]at hb
    simp only[xW,ilt h1,Ql h1,Qi h1,JP h1,List.length_set,List.set_set,inc h1 (show ys.length<=maxLen by simp[maxLen];omega),QQ1,QRb,QQ0,dt (show(3:Int)≠0 by omega),QlF ((ys[i]).1) k (by omega) (by omega) (by first|omega|(simp only[XC];omega)),QjV ((ys[i]).2) (k+((Qe Qw ((ys[i]).1):Nat):Int)) (by omega) (by omega) (by first|omega|(simp only[Xv];omega))]
    have hk:ZE wl (k+((Qe Qw ((ys[i]).1)+Qe Qx ((ys[i]).2):Nat):Int),((i+1:Nat):Int),ys.set i (Qu ZW Qw ((ys[i]).1) k,Qu Zf Qx ((ys[i]).2) (k+((Qe Qw ((ys[i]).1):Nat):Int))))=some r:=hk
    rw[show k+((Qe Qw ((ys[i]).1)+Qe Qx ((ys[i]).2):Nat):Int)=((k+((Qe Qw ((ys[i]).1):Nat):Int))+((Qe Qx ((ys[i]).2):Nat):Int)) by omega]at hk
    exact hk)
  (fun k ys hy=>by
    apply jU
    simp only[xW,<-hy,Qs,QQ2])
  k hk hs
 simp only[QQ6]at e
 simp only[QbU,e,QQ0]
theorem QwR (a:List Qk) (k:Int) (hk:0<k) (hs:k+((Qe Q4 a:Nat):Int)<=1152921504606846976) (h:XF a<=4294967296):xE w (Qu KA Q4 a k,k)=some (k+((Qe Q4 a:Nat):Int)):=by
 apply QmW
 simp only[XF]at h
 have hl:(Qu KA Q4 a k).length=a.length:=XI _ _ a k
 have e:=YI KA Q4 a k (fun l i=>ZD wl ((Qu KA Q4 a k),l,(i:Int))) 1152921504606846976
  (fun k1 i h1 x r hx hm h0 hB hk=>by
    apply jJ
    have hb:=Yt QD hx
    simp only[Q4]at hB
    simp only[KA]at hm
    simp only[QD]at hb
    simp only[zf,ilt h1,Ql h1,Qi h1,hm,inc h1 (show(Qu KA Q4 a k).length<=maxLen by rw[hl];simp[maxLen];omega),QQ1,QQ2,decide_true,QQ3,QV,beq_self_eq_true,QQ0,dt (show(3:Int)≠0 by omega),Qlp x.1 k1 (by omega) (by omega) (by first|omega|(simp only[XC];omega)),df (show¬((k1+((Qe Qw x.1:Nat):Int)):Int)<0 by omega),Qj2 x.2 (k1+((Qe Qw x.1:Nat):Int)) (by omega) (by omega) (by first|omega|(simp only[Xv];omega)),df (show¬(((k1+((Qe Qw x.1:Nat):Int))+((Qe Qx x.2:Nat):Int)):Int)<0 by omega)]
    have hk:ZD wl ((Qu KA Q4 a k),k1+((Qe Qw x.1+Qe Qx x.2:Nat):Int),((i+1:Nat):Int))=some r:=hk
    rw[show k1+((Qe Qw x.1+Qe Qx x.2:Nat):Int)=((k1+((Qe Qw x.1:Nat):Int))+((Qe Qx x.2:Nat):Int)) by omega]at hk
    exact hk)
  (fun l=>by
    apply jJ
    simp only[zf,hl,Qs,QQ2])
  hk hs
 simp only[QQ6]at e
 simp only[Qb6,e,QQ0,Qq,Sum.elim_inr]
theorem Qz7 (a:List (List Int)):Qe (Qe (fun _=>1)) a<=64*XL a:=by
 have h:=Qcm (Qe (fun _=>1)) QR (fun x=>by have:=QjL x;omega) a
 simp only[XL];omega
theorem QAd (a:List (List Int)) (k:Int) (hk:0<k) (hs:k+((Qe (Qe (fun _=>1)) a:Nat):Int)<=1152921504606846976) (h:XL a<=4294967296):zM w (a,k)=some (k+((Qe (Qe (fun _=>1)) a:Nat):Int),Qu (Qu (fun _ n=>n) (fun _=>1)) (Qe (fun _=>1)) a k):=by
 apply Qn1
 simp only[XL]at h
 have e:=YD (Qu (fun _ n=>n) (fun _=>1)) (Qe (fun _=>1)) a (fun k i ys=>Z1 wl (k,(i:Int),ys)) (fun k ys=>(k,ys)) 1152921504606846976
  (fun k i ys h1 r hy hm h0 hB hk=>by
    apply Qan
    have hb:=Yt QR hm
    simp only[ym,ilt h1,Ql h1,Qi h1,JP h1,List.length_set,List.set_set,inc h1 (show ys.length<=maxLen by simp[maxLen];omega),QQ1,QRb,QQ0,dt (show(3:Int)≠0 by omega),QtF (ys[i]) k (by omega) (by omega) (by first|omega|(simp only[QR];omega))]
    have hk:Z1 wl (k+((Qe (fun _=>1) (ys[i]):Nat):Int),((i+1:Nat):Int),ys.set i (Qu (fun _ n=>n) (fun _=>1) (ys[i]) k))=some r:=hk
    exact hk)
  (fun k ys hy=>by
    apply Qan
    simp only[ym,<-hy,Qs,QQ2])
  k hk hs
 simp only[QQ6]at e
 simp only[QeQ,e,QQ0]
theorem QAs (a:List (List Int)) (k:Int) (hk:0<k) (hs:k+((Qe (Qe (fun _=>1)) a:Nat):Int)<=1152921504606846976) (h:XL a<=4294967296):zz w (Qu (Qu (fun _ n=>n) (fun _=>1)) (Qe (fun _=>1)) a k,k)=some (k+((Qe (Qe (fun _=>1)) a:Nat):Int)):=by
 apply QnR
 simp only[XL]at h
 have hl:(Qu (Qu (fun _ n=>n) (fun _=>1)) (Qe (fun _=>1)) a k).length=a.length:=XI _ _ a k
 have e:=YI (Qu (fun _ n=>n) (fun _=>1)) (Qe (fun _=>1)) a k (fun l i=>ZY wl ((Qu (Qu (fun _ n=>n) (fun _=>1)) (Qe (fun _=>1)) a k),l,(i:Int))) 1152921504606846976
  (fun k1 i h1 x r hx hm h0 hB hk=>by
    apply Qag
    have hb:=Yt QR hx
    simp only[yr,ilt h1,Ql h1,Qi h1,hm,inc h1 (show(Qu (Qu (fun _ n=>n) (fun _=>1)) (Qe (fun _=>1)) a k).length<=maxLen by rw[hl];simp[maxLen];omega),QQ1,QQ2,decide_true,QQ3,QV,beq_self_eq_true,QQ0,dt (show(3:Int)≠0 by omega),QtK x k1 (by omega) (by omega) (by first|omega|(simp only[QR];omega)),df (show¬((k1+((Qe (fun _=>1) x:Nat):Int)):Int)<0 by omega)]
    have hk:ZY wl ((Qu (Qu (fun _ n=>n) (fun _=>1)) (Qe (fun _=>1)) a k),k1+((Qe (fun _=>1) x:Nat):Int),((i+1:Nat):Int))=some r:=hk
    exact hk)
  (fun l=>by
    apply Qag
    simp only[yr,hl,Qs,QQ2])
  hk hs
 simp only[QQ6]at e
 simp only[QdW,e,QQ0,Qq,Sum.elim_inr]
noncomputable def JC (x:QB) (n:Int):QB:=(n,(n+1),decide (Int.tmod ((n+1)+1) 3=0),(((n+1)+1)+1))
def Xn (x:QB):Nat:=4
theorem Qw4 (x:QB):Xn x<=64:=by
 simp only[Xn];omega
theorem QyY (a:List QB):Qe Xn a<=64*Zt a:=by
 have h:=Qev Xn (fun x=>Qw4 x) a
 simp only[Zt];omega
theorem Qy7 (a:List QB) (k:Int) (hk:0<k) (hs:k+((Qe Xn a:Nat):Int)<=1152921504606846976) (h:Zt a<=4294967296):zS w (a,k)=some (k+((Qe Xn a:Nat):Int),Qu JC Xn a k):=by
 apply QnT
 simp only[Zt]at h
 have e:=YD JC Xn a (fun k i ys=>Z7 wl (k,(i:Int),ys)) (fun k ys=>(k,ys)) 1152921504606846976
  (fun k i ys h1 r hy hm h0 hB hk=>by
    apply vT
    simp only[Xn]at hB
    have hw0:wR (k+1)=k+1:=w64 (by omega) (by omega)
    have hw1:wR ((k+1)+1)=(k+1)+1:=w64 (by omega) (by omega)
    have hw2:wR (((k+1)+1)+1)=((k+1)+1)+1:=w64 (by omega) (by omega)
    have hw3:wR ((((k+1)+1)+1)+1)=(((k+1)+1)+1)+1:=w64 (by omega) (by omega)
    simp only[ya,ilt h1,Ql h1,Qi h1,JP h1,List.length_set,List.set_set,inc h1 (show ys.length<=maxLen by simp[maxLen];omega),QQ1,QRb,QQ0,dt (show(3:Int)≠0 by omega),hw0,hw1,hw2,hw3]
    have hk:Z7 wl (k+((4:Nat):Int),((i+1:Nat):Int),ys.set i (k,(k+1),decide (Int.tmod ((k+1)+1) 3=0),(((k+1)+1)+1)))=some r:=hk
    rw[show k+((4:Nat):Int)=((((k+1)+1)+1)+1) by omega]at hk
    exact hk)
  (fun k ys hy=>by
    apply vT
    simp only[ya,<-hy,Qs,QQ2])
  k hk hs
 simp only[QQ6]at e
 simp only[QeH,e,QQ0]
theorem QyM (a:List QB) (k:Int) (hk:0<k) (hs:k+((Qe Xn a:Nat):Int)<=1152921504606846976) (h:Zt a<=4294967296):zQ w (Qu JC Xn a k,k)=some (k+((Qe Xn a:Nat):Int)):=by
 apply Qn2
 simp only[Zt]at h
 have hl:(Qu JC Xn a k).length=a.length:=XI _ _ a k
 have e:=YI JC Xn a k (fun l i=>Z6 wl ((Qu JC Xn a k),l,(i:Int))) 1152921504606846976
  (fun k1 i h1 x r hx hm h0 hB hk=>by
    apply vn
    simp only[Xn]at hB
    simp only[JC]at hm
    have hw0:wR (k1+1)=k1+1:=w64 (by omega) (by omega)
    have hw1:wR ((k1+1)+1)=(k1+1)+1:=w64 (by omega) (by omega)
    have hw2:wR (((k1+1)+1)+1)=((k1+1)+1)+1:=w64 (by omega) (by omega)
    have hw3:wR ((((k1+1)+1)+1)+1)=(((k1+1)+1)+1)+1:=w64 (by omega) (by omega)
    simp only[yB,ilt h1,Ql h1,Qi h1,hm,inc h1 (show(Qu JC Xn a k).length<=maxLen by rw[hl];simp[maxLen];omega),QQ1,QQ2,decide_true,QQ3,QV,beq_self_eq_true,QQ0,dt (show(3:Int)≠0 by omega),hw0,hw1,hw2,hw3]
    have hk:Z6 wl ((Qu JC Xn a k),k1+((4:Nat):Int),((i+1:Nat):Int))=some r:=hk
    rw[show k1+((4:Nat):Int)=((((k1+1)+1)+1)+1) by omega]at hk
    exact hk)
  (fun l=>by
    apply vn
    simp only[yB,hl,Qs,QQ2])
  hk hs
 simp only[QQ6]at e
 simp only[QeY,e,QQ0,Qq,Sum.elim_inr]
noncomputable def JB (x:QM) (n:Int):QM:=(n,(n+1),((n+1)+1))
def XM (x:QM):Nat:=3
theorem Qw2 (x:QM):XM x<=64:=by
 simp only[XM];omega
theorem Qzf (a:List QM):Qe XM a<=64*Zv a:=by
 have h:=Qev XM (fun x=>Qw2 x) a
 simp only[Zv];omega
theorem QzD (a:List QM) (k:Int) (hk:0<k) (hs:k+((Qe XM a:Nat):Int)<=1152921504606846976) (h:Zv a<=4294967296):zL w (a,k)=some (k+((Qe XM a:Nat):Int),Qu JB XM a k):=by
 apply QnQ
 simp only[Zv]at h
 have e:=YD JB XM a (fun k i ys=>Yd wl (k,(i:Int),ys)) (fun k ys=>(k,ys)) 1152921504606846976
  (fun k i ys h1 r hy hm h0 hB hk=>by
    apply vu
    simp only[XM]at hB
    have hw0:wR (k+1)=k+1:=w64 (by omega) (by omega)
    have hw1:wR ((k+1)+1)=(k+1)+1:=w64 (by omega) (by omega)
    have hw2:wR (((k+1)+1)+1)=((k+1)+1)+1:=w64 (by omega) (by omega)
    simp only[yp,ilt h1,Ql h1,Qi h1,JP h1,List.length_set,List.set_set,inc h1 (show ys.length<=maxLen by simp[maxLen];omega),QQ1,QRb,QQ0,dt (show(3:Int)≠0 by omega),hw0,hw1,hw2]
    have hk:Yd wl (k+((3:Nat):Int),((i+1:Nat):Int),ys.set i (k,(k+1),((k+1)+1)))=some r:=hk
    rw[show k+((3:Nat):Int)=(((k+1)+1)+1) by omega]at hk
    exact hk)
  (fun k ys hy=>by
    apply vu
    simp only[yp,<-hy,Qs,QQ2])
  k hk hs
 simp only[QQ6]at e
 simp only[Qeb,e,QQ0]
theorem Qzr (a:List QM) (k:Int) (hk:0<k) (hs:k+((Qe XM a:Nat):Int)<=1152921504606846976) (h:Zv a<=4294967296):zC w (Qu JB XM a k,k)=some (k+((Qe XM a:Nat):Int)):=by
 apply QnN
 simp only[Zv]at h
 have hl:(Qu JB XM a k).length=a.length:=XI _ _ a k
 have e:=YI JB XM a k (fun l i=>Yf wl ((Qu JB XM a k),l,(i:Int))) 1152921504606846976
  (fun k1 i h1 x r hx hm h0 hB hk=>by
    apply vx
    simp only[XM]at hB
    simp only[JB]at hm
    have hw0:wR (k1+1)=k1+1:=w64 (by omega) (by omega)
    have hw1:wR ((k1+1)+1)=(k1+1)+1:=w64 (by omega) (by omega)
    have hw2:wR (((k1+1)+1)+1)=((k1+1)+1)+1:=w64 (by omega) (by omega)
    simp only[yk,ilt h1,Ql h1,Qi h1,hm,inc h1 (show(Qu JB XM a k).length<=maxLen by rw[hl];simp[maxLen];omega),QQ1,QQ2,decide_true,QQ3,QV,beq_self_eq_true,QQ0,dt (show(3:Int)≠0 by omega),hw0,hw1,hw2]
    have hk:Yf wl ((Qu JB XM a k),k1+((3:Nat):Int),((i+1:Nat):Int))=some r:=hk
    rw[show k1+((3:Nat):Int)=(((k1+1)+1)+1) by omega]at hk
    exact hk)
  (fun l=>by
    apply vx
    simp only[yk,hl,Qs,QQ2])
  hk hs
 simp only[QQ6]at e
 simp only[Qes,e,QQ0,Qq,Sum.elim_inr]
noncomputable def KT (x:Qd) (n:Int):Qd:=(n,(n+1),Qu ZW Qw x.2.2.1 ((n+1)+1),Qu Zf Qx x.2.2.2.1 (((n+1)+1)+((Qe Qw x.2.2.1:Nat):Int)),Qu (fun _ n=>n) (fun _=>1) x.2.2.2.2.1 ((((n+1)+1)+((Qe Qw x.2.2.1:Nat):Int))+((Qe Qx x.2.2.2.1:Nat):Int)),(((((n+1)+1)+((Qe Qw x.2.2.1:Nat):Int))+((Qe Qx x.2.2.2.1:Nat):Int))+((Qe (fun _=>1) x.2.2.2.2.1:Nat):Int)),((((((n+1)+1)+((Qe Qw x.2.2.1:Nat):Int))+((Qe Qx x.2.2.2.1:Nat):Int))+((Qe (fun _=>1) x.2.2.2.2.1:Nat):Int))+1),(((((((n+1)+1)+((Qe Qw x.2.2.1:Nat):Int))+((Qe Qx x.2.2.2.1:Nat):Int))+((Qe (fun _=>1) x.2.2.2.2.1:Nat):Int))+1)+1),Qu KA Q4 x.2.2.2.2.2.2.2.2.1 ((((((((n+1)+1)+((Qe Qw x.2.2.1:Nat):Int))+((Qe Qx x.2.2.2.1:Nat):Int))+((Qe (fun _=>1) x.2.2.2.2.1:Nat):Int))+1)+1)+1),Qu (fun _ n=>n) (fun _=>1) x.2.2.2.2.2.2.2.2.2.1 (((((((((n+1)+1)+((Qe Qw x.2.2.1:Nat):Int))+((Qe Qx x.2.2.2.1:Nat):Int))+((Qe (fun _=>1) x.2.2.2.2.1:Nat):Int))+1)+1)+1)+((Qe Q4 x.2.2.2.2.2.2.2.2.1:Nat):Int)),Qu (fun _ n=>n) (fun _=>1) x.2.2.2.2.2.2.2.2.2.2.1 ((((((((((n+1)+1)+((Qe Qw x.2.2.1:Nat):Int))+((Qe Qx x.2.2.2.1:Nat):Int))+((Qe (fun _=>1) x.2.2.2.2.1:Nat):Int))+1)+1)+1)+((Qe Q4 x.2.2.2.2.2.2.2.2.1:Nat):Int))+((Qe (fun _=>1) x.2.2.2.2.2.2.2.2.2.1:Nat):Int)),Qu (Qu (fun _ n=>n) (fun _=>1)) (Qe (fun _=>1)) x.2.2.2.2.2.2.2.2.2.2.2.1 (((((((((((n+1)+1)+((Qe Qw x.2.2.1:Nat):Int))+((Qe Qx x.2.2.2.1:Nat):Int))+((Qe (fun _=>1) x.2.2.2.2.1:Nat):Int))+1)+1)+1)+((Qe Q4 x.2.2.2.2.2.2.2.2.1:Nat):Int))+((Qe (fun _=>1) x.2.2.2.2.2.2.2.2.2.1:Nat):Int))+((Qe (fun _=>1) x.2.2.2.2.2.2.2.2.2.2.1:Nat):Int)),((((((((((((n+1)+1)+((Qe Qw x.2.2.1:Nat):Int))+((Qe Qx x.2.2.2.1:Nat):Int))+((Qe (fun _=>1) x.2.2.2.2.1:Nat):Int))+1)+1)+1)+((Qe Q4 x.2.2.2.2.2.2.2.2.1:Nat):Int))+((Qe (fun _=>1) x.2.2.2.2.2.2.2.2.2.1:Nat):Int))+((Qe (fun _=>1) x.2.2.2.2.2.2.2.2.2.2.1:Nat):Int))+((Qe (Qe (fun _=>1)) x.2.2.2.2.2.2.2.2.2.2.2.1:Nat):Int)),(((((((((((((n+1)+1)+((Qe Qw x.2.2.1:Nat):Int))+((Qe Qx x.2.2.2.1:Nat):Int))+((Qe (fun _=>1) x.2.2.2.2.1:Nat):Int))+1)+1)+1)+((Qe Q4 x.2.2.2.2.2.2.2.2.1:Nat):Int))+((Qe (fun _=>1) x.2.2.2.2.2.2.2.2.2.1:Nat):Int))+((Qe (fun _=>1) x.2.2.2.2.2.2.2.2.2.2.1:Nat):Int))+((Qe (Qe (fun _=>1)) x.2.2.2.2.2.2.2.2.2.2.2.1:Nat):Int))+1),Qu JC Xn x.2.2.2.2.2.2.2.2.2.2.2.2.2.2.1 ((((((((((((((n+1)+1)+((Qe Qw x.2.2.1:Nat):Int))+((Qe Qx x.2.2.2.1:Nat):Int))+((Qe (fun _=>1) x.2.2.2.2.1:Nat):Int))+1)+1)+1)+((Qe Q4 x.2.2.2.2.2.2.2.2.1:Nat):Int))+((Qe (fun _=>1) x.2.2.2.2.2.2.2.2.2.1:Nat):Int))+((Qe (fun _=>1) x.2.2.2.2.2.2.2.2.2.2.1:Nat):Int))+((Qe (Qe (fun _=>1)) x.2.2.2.2.2.2.2.2.2.2.2.1:Nat):Int))+1)+1),(((((((((((((((n+1)+1)+((Qe Qw x.2.2.1:Nat):Int))+((Qe Qx x.2.2.2.1:Nat):Int))+((Qe (fun _=>1) x.2.2.2.2.1:Nat):Int))+1)+1)+1)+((Qe Q4 x.2.2.2.2.2.2.2.2.1:Nat):Int))+((Qe (fun _=>1) x.2.2.2.2.2.2.2.2.2.1:Nat):Int))+((Qe (fun _=>1) x.2.2.2.2.2.2.2.2.2.2.1:Nat):Int))+((Qe (Qe (fun _=>1)) x.2.2.2.2.2.2.2.2.2.2.2.1:Nat):Int))+1)+1)+((Qe Xn x.2.2.2.2.2.2.2.2.2.2.2.2.2.2.1:Nat):Int)),((((((((((((((((n+1)+1)+((Qe Qw x.2.2.1:Nat):Int))+((Qe Qx x.2.2.2.1:Nat):Int))+((Qe (fun _=>1) x.2.2.2.2.1:Nat):Int))+1)+1)+1)+((Qe Q4 x.2.2.2.2.2.2.2.2.1:Nat):Int))+((Qe (fun _=>1) x.2.2.2.2.2.2.2.2.2.1:Nat):Int))+((Qe (fun _=>1) x.2.2.2.2.2.2.2.2.2.2.1:Nat):Int))+((Qe (Qe (fun _=>1)) x.2.2.2.2.2.2.2.2.2.2.2.1:Nat):Int))+1)+1)+((Qe Xn x.2.2.2.2.2.2.2.2.2.2.2.2.2.2.1:Nat):Int))+1),(((((((((((((((((n+1)+1)+((Qe Qw x.2.2.1:Nat):Int))+((Qe Qx x.2.2.2.1:Nat):Int))+((Qe (fun _=>1) x.2.2.2.2.1:Nat):Int))+1)+1)+1)+((Qe Q4 x.2.2.2.2.2.2.2.2.1:Nat):Int))+((Qe (fun _=>1) x.2.2.2.2.2.2.2.2.2.1:Nat):Int))+((Qe (fun _=>1) x.2.2.2.2.2.2.2.2.2.2.1:Nat):Int))+((Qe (Qe (fun _=>1)) x.2.2.2.2.2.2.2.2.2.2.2.1:Nat):Int))+1)+1)+((Qe Xn x.2.2.2.2.2.2.2.2.2.2.2.2.2.2.1:Nat):Int))+1)+1),Qu JB XM x.2.2.2.2.2.2.2.2.2.2.2.2.2.2.2.2.2.2 ((((((((((((((((((n+1)+1)+((Qe Qw x.2.2.1:Nat):Int))+((Qe Qx x.2.2.2.1:Nat):Int))+((Qe (fun _=>1) x.2.2.2.2.1:Nat):Int))+1)+1)+1)+((Qe Q4 x.2.2.2.2.2.2.2.2.1:Nat):Int))+((Qe (fun _=>1) x.2.2.2.2.2.2.2.2.2.1:Nat):Int))+((Qe (fun _=>1) x.2.2.2.2.2.2.2.2.2.2.1:Nat):Int))+((Qe (Qe (fun _=>1)) x.2.2.2.2.2.2.2.2.2.2.2.1:Nat):Int))+1)+1)+((Qe Xn x.2.2.2.2.2.2.2.2.2.2.2.2.2.2.1:Nat):Int))+1)+1)+1))
def QX (x:Qd):Nat:=10+Qe Qw x.2.2.1+Qe Qx x.2.2.2.1+Qe (fun _=>1) x.2.2.2.2.1+Qe Q4 x.2.2.2.2.2.2.2.2.1+Qe (fun _=>1) x.2.2.2.2.2.2.2.2.2.1+Qe (fun _=>1) x.2.2.2.2.2.2.2.2.2.2.1+Qe (Qe (fun _=>1)) x.2.2.2.2.2.2.2.2.2.2.2.1+Qe Xn x.2.2.2.2.2.2.2.2.2.2.2.2.2.2.1+Qe XM x.2.2.2.2.2.2.2.2.2.2.2.2.2.2.2.2.2.2
theorem QwY (x:Qd):QX x<=64*(Q2 x+1):=by
 have h0:=Qk8 x.2.2.1
 have h1:=QjW x.2.2.2.1
 have h2:=QjL x.2.2.2.2.1
 have h3:=Qxk x.2.2.2.2.2.2.2.2.1
 have h4:=QjL x.2.2.2.2.2.2.2.2.2.1
 have h5:=QjL x.2.2.2.2.2.2.2.2.2.2.1
 have h6:=Qz7 x.2.2.2.2.2.2.2.2.2.2.2.1
 have h7:=QyY x.2.2.2.2.2.2.2.2.2.2.2.2.2.2.1
 have h8:=Qzf x.2.2.2.2.2.2.2.2.2.2.2.2.2.2.2.2.2.2
 simp only[QX,Zy,Q2,QD,Zg];omega
theorem QzH (a:List Qd):Qe QX a<=64*XJ a:=by
 have h:=Qcm QX Q2 (fun x=>QwY x) a
 simp only[XJ];omega
set_option maxHeartbeats 4000000 in
theorem QyK (a:List Qd) (k:Int) (hk:0<k) (hs:k+((Qe QX a:Nat):Int)<=1152921504606846976) (h:XJ a<=4294967296):zp w (a,k)=some (k+((Qe QX a:Nat):Int),Qu KT QX a k):=by
 apply QnU
 simp only[XJ]at h
 have e:=YD KT QX a (fun k i ys=>Z9 wl (k,(i:Int),ys)) (fun k ys=>(k,ys)) 1152921504606846976
  (fun k i ys h1 r hy hm h0 hB hk=>by
    apply jX
    have hb:=Yt Q2 hm
    simp only[QX]at hB
    simp only[Q2,QD,Zg,Zy]at hb
    have hw:∀n:Int,0<n->n<=2305843009213693952->wR (n+1)=n+1:=fun n h1 h2=>w64 (by omega) (by omega)
    simp (disch:=omega) only[yc,ilt h1,Ql h1,Qi h1,JP h1,List.length_set,List.set_set,inc h1 (show ys.length<=maxLen by simp[maxLen];omega),QQ1,QRb,QQ0,hw,QjV,QtF,QAd,QlF,QzD,Qy7,QwQ]
    refine Eq.trans (congrArg (fun z=>Z9 wl (z,((i+1:Nat):Int),_)) ?_) hk
    simp only[QX];omega)
  (fun k ys hy=>by
    apply jX
    simp only[yc,<-hy,Qs,QQ2])
  k hk hs
 simp only[QQ6]at e
 simp only[QdI,e,QQ0]
set_option maxHeartbeats 4000000 in
theorem QAa (a:List Qd) (k:Int) (hk:0<k) (hs:k+((Qe QX a:Nat):Int)<=1152921504606846976) (h:XJ a<=4294967296):zR w (Qu KT QX a k,k)=some (k+((Qe QX a:Nat):Int)):=by
 apply QnG
 simp only[XJ]at h
 have hl:(Qu KT QX a k).length=a.length:=XI _ _ a k
 have e:=YI KT QX a k (fun l i=>Z0 wl ((Qu KT QX a k),l,(i:Int))) 1152921504606846976
  (fun k1 i h1 x r hx hm h0 hB hk=>by
    apply QaB
    have hb:=Yt Q2 hx
    simp only[QX]at hB
    simp only[KT]at hm
    simp only[Q2,QD,Zg,Zy]at hb
    have hw:∀n:Int,0<n->n<=2305843009213693952->wR (n+1)=n+1:=fun n h1 h2=>w64 (by omega) (by omega)
    have hd:∀n:Int,0<n->decide (n<0)=false:=fun n h=>df (by omega)
    simp (disch:=omega) only[yl,ilt h1,Ql h1,Qi h1,hm,inc h1 (show(Qu KT QX a k).length<=maxLen by rw[hl];simp[maxLen];omega),QQ1,QQ2,decide_true,QQ3,QQ0,hw,hd,Qj2,QtK,QAs,Qlp,Qzr,QyM,QwR]
    refine Eq.trans (congrArg (fun z=>Z0 wl ((Qu KT QX a k),z,((i+1:Nat):Int))) ?_) hk
    simp only[QX];omega)
  (fun l=>by
    apply QaB
    simp only[yl,hl,Qs,QQ2])
  hk hs
 simp only[QQ6]at e
 simp only[Qd3,e,QQ0,Qq,Sum.elim_inr]
theorem Qyy (a:List Int):Qe (fun _=>1) a<=64*X2 a:=by
 have h:=Qev (fun _=>1) (fun _=>by omega) a
 simp only[X2];omega
theorem QAf (a:List Int) (k:Int) (hk:0<k) (hs:k+((Qe (fun _=>1) a:Nat):Int)<=1152921504606846976) (h:X2 a<=4294967296):zx w (a,k)=some (k+((Qe (fun _=>1) a:Nat):Int),Qu (fun _ n=>IntKind.wrap .u8 n) (fun _=>1) a k):=by
 apply QnY
 simp only[X2]at h
 have e:=YD (fun _ n=>IntKind.wrap .u8 n) (fun _=>1) a (fun k i ys=>Z3 wl (k,(i:Int),ys)) (fun k ys=>(k,ys)) 1152921504606846976
  (fun k i ys h1 r hy hm h0 hB hk=>by
    apply vA
    have hw0:wR (k+1)=k+1:=w64 (by omega) (by omega)
    simp only[yC,ilt h1,Ql h1,Qi h1,JP h1,List.length_set,List.set_set,inc h1 (show ys.length<=maxLen by simp[maxLen];omega),QQ1,QRb,QQ0,dt (show(3:Int)≠0 by omega),hw0]
    have hk:Z3 wl (k+((1:Nat):Int),((i+1:Nat):Int),ys.set i (IntKind.wrap .u8 k))=some r:=hk
    rw[show k+((1:Nat):Int)=(k+1) by omega]at hk
    exact hk)
  (fun k ys hy=>by
    apply vA
    simp only[yC,<-hy,Qs,QQ2])
  k hk hs
 simp only[QQ6]at e
 simp only[QdK,e,QQ0]
theorem Qzn (a:List Int) (k:Int) (hk:0<k) (hs:k+((Qe (fun _=>1) a:Nat):Int)<=1152921504606846976) (h:X2 a<=4294967296):zU w (Qu (fun _ n=>IntKind.wrap .u8 n) (fun _=>1) a k,k)=some (k+((Qe (fun _=>1) a:Nat):Int)):=by
 apply QnS
 simp only[X2]at h
 have hl:(Qu (fun _ n=>IntKind.wrap .u8 n) (fun _=>1) a k).length=a.length:=XI _ _ a k
 have e:=YI (fun _ n=>IntKind.wrap .u8 n) (fun _=>1) a k (fun l i=>Z5 wl ((Qu (fun _ n=>IntKind.wrap .u8 n) (fun _=>1) a k),l,(i:Int))) 1152921504606846976
  (fun k1 i h1 x r hx hm h0 hB hk=>by
    apply Qai
    have hw0:wR (k1+1)=k1+1:=w64 (by omega) (by omega)
    simp only[yj,ilt h1,Ql h1,Qi h1,hm,inc h1 (show(Qu (fun _ n=>IntKind.wrap .u8 n) (fun _=>1) a k).length<=maxLen by rw[hl];simp[maxLen];omega),QQ1,QQ2,decide_true,QQ3,QV,beq_self_eq_true,QQ0,dt (show(3:Int)≠0 by omega),hw0]
    have hk:Z5 wl ((Qu (fun _ n=>IntKind.wrap .u8 n) (fun _=>1) a k),k1+((1:Nat):Int),((i+1:Nat):Int))=some r:=hk
    rw[show k1+((1:Nat):Int)=(k1+1) by omega]at hk
    exact hk)
  (fun l=>by
    apply Qai
    simp only[yj,hl,Qs,QQ2])
  hk hs
 simp only[QQ6]at e
 simp only[Qey,e,QQ0,Qq,Sum.elim_inr]
noncomputable def KX (x:Qo) (n:Int):Qo:=(n,Qu (fun _ n=>IntKind.wrap .u8 n) (fun _=>1) x.2.1 (n+1),decide (Int.tmod ((n+1)+((Qe (fun _=>1) x.2.1:Nat):Int)) 3=0))
def Q8 (x:Qo):Nat:=2+Qe (fun _=>1) x.2.1
theorem QxH (x:Qo):Q8 x<=64*(Q6 x+1):=by
 have h0:=Qyy x.2.1
 simp only[Q8,Q6];omega
theorem Qz8 (a:List Qo):Qe Q8 a<=64*Xk a:=by
 have h:=Qcm Q8 Q6 (fun x=>QxH x) a
 simp only[Xk];omega
theorem QyX (a:List Qo) (k:Int) (hk:0<k) (hs:k+((Qe Q8 a:Nat):Int)<=1152921504606846976) (h:Xk a<=4294967296):zq w (a,k)=some (k+((Qe Q8 a:Nat):Int),Qu KX Q8 a k):=by
 apply QnL
 simp only[Xk]at h
 have e:=YD KX Q8 a (fun k i ys=>Ye wl (k,(i:Int),ys)) (fun k ys=>(k,ys)) 1152921504606846976
  (fun k i ys h1 r hy hm h0 hB hk=>by
    apply QbG
    have hb:=Yt Q6 hm
    simp only[Q8]at hB
    simp only[Q6]at hb
    have hw0:wR (k+1)=k+1:=w64 (by omega) (by omega)
    have hw1:wR (((k+1)+((Qe (fun _=>1) ((ys[i]).2.1):Nat):Int))+1)=((k+1)+((Qe (fun _=>1) ((ys[i]).2.1):Nat):Int))+1:=w64 (by omega) (by omega)
    simp only[yo,ilt h1,Ql h1,Qi h1,JP h1,List.length_set,List.set_set,inc h1 (show ys.length<=maxLen by simp[maxLen];omega),QQ1,QRb,QQ0,dt (show(3:Int)≠0 by omega),hw0,hw1,QAf ((ys[i]).2.1) (k+1) (by omega) (by omega) (by first|omega|(simp only[X2];omega))]
    have hk:Ye wl (k+((2+Qe (fun _=>1) ((ys[i]).2.1):Nat):Int),((i+1:Nat):Int),ys.set i (k,Qu (fun _ n=>IntKind.wrap .u8 n) (fun _=>1) ((ys[i]).2.1) (k+1),decide (Int.tmod ((k+1)+((Qe (fun _=>1) ((ys[i]).2.1):Nat):Int)) 3=0)))=some r:=hk
    rw[show k+((2+Qe (fun _=>1) ((ys[i]).2.1):Nat):Int)=(((k+1)+((Qe (fun _=>1) ((ys[i]).2.1):Nat):Int))+1) by omega]at hk
    exact hk)
  (fun k ys hy=>by
    apply QbG
    simp only[yo,<-hy,Qs,QQ2])
  k hk hs
 simp only[QQ6]at e
 simp only[QeX,e,QQ0]
theorem QzW (a:List Qo) (k:Int) (hk:0<k) (hs:k+((Qe Q8 a:Nat):Int)<=1152921504606846976) (h:Xk a<=4294967296):zP w (Qu KX Q8 a k,k)=some (k+((Qe Q8 a:Nat):Int)):=by
 apply QnH
 simp only[Xk]at h
 have hl:(Qu KX Q8 a k).length=a.length:=XI _ _ a k
 have e:=YI KX Q8 a k (fun l i=>Yb wl ((Qu KX Q8 a k),l,(i:Int))) 1152921504606846976
  (fun k1 i h1 x r hx hm h0 hB hk=>by
    apply QaA
    have hb:=Yt Q6 hx
    simp only[Q8]at hB
    simp only[KX]at hm
    simp only[Q6]at hb
    have hw0:wR (k1+1)=k1+1:=w64 (by omega) (by omega)
    have hw1:wR (((k1+1)+((Qe (fun _=>1) x.2.1:Nat):Int))+1)=((k1+1)+((Qe (fun _=>1) x.2.1:Nat):Int))+1:=w64 (by omega) (by omega)
    simp only[yg,ilt h1,Ql h1,Qi h1,hm,inc h1 (show(Qu KX Q8 a k).length<=maxLen by rw[hl];simp[maxLen];omega),QQ1,QQ2,decide_true,QQ3,QV,beq_self_eq_true,QQ0,dt (show(3:Int)≠0 by omega),hw0,hw1,Qzn x.2.1 (k1+1) (by omega) (by omega) (by first|omega|(simp only[X2];omega)),df (show¬(((k1+1)+((Qe (fun _=>1) x.2.1:Nat):Int)):Int)<0 by omega)]
    have hk:Yb wl ((Qu KX Q8 a k),k1+((2+Qe (fun _=>1) x.2.1:Nat):Int),((i+1:Nat):Int))=some r:=hk
    rw[show k1+((2+Qe (fun _=>1) x.2.1:Nat):Int)=(((k1+1)+((Qe (fun _=>1) x.2.1:Nat):Int))+1) by omega]at hk
    exact hk)
  (fun l=>by
    apply QaA
    simp only[yg,hl,Qs,QQ2])
  hk hs
 simp only[QQ6]at e
 simp only[Qdy,e,QQ0,Qq,Sum.elim_inr]
noncomputable def Vd (x:Qt) (n:Int):Qt:=(n,Qu ZW Qw x.2.1 (n+1),Qu Zf Qx x.2.2 ((n+1)+((Qe Qw x.2.1:Nat):Int)))
def Xl (x:Qt):Nat:=1+Qe Qw x.2.1+Qe Qx x.2.2
theorem QwH (x:Qt):Xl x<=64*(Xc x+1):=by
 have h0:=Qk8 x.2.1
 have h1:=QjW x.2.2
 simp only[Xl,Xc,QD];omega
theorem Qzv (a:List Qt):Qe Xl a<=64*XK a:=by
 have h:=Qcm Xl Xc (fun x=>QwH x) a
 simp only[XK];omega
theorem QzN (a:List Qt) (k:Int) (hk:0<k) (hs:k+((Qe Xl a:Nat):Int)<=1152921504606846976) (h:XK a<=4294967296):zo w (a,k)=some (k+((Qe Xl a:Nat):Int),Qu Vd Xl a k):=by
 apply QnJ
 simp only[XK]at h
 have e:=YD Vd Xl a (fun k i ys=>Z2 wl (k,(i:Int),ys)) (fun k ys=>(k,ys)) 1152921504606846976
  (fun k i ys h1 r hy hm h0 hB hk=>by
    apply QaL
    have hb:=Yt Xc hm
    simp only[Xl]at hB
    simp only[Xc,QD]at hb
    have hw0:wR (k+1)=k+1:=w64 (by omega) (by omega)
    simp only[ye,ilt h1,Ql h1,Qi h1,JP h1,List.length_set,List.set_set,inc h1 (show ys.length<=maxLen by simp[maxLen];omega),QQ1,QRb,QQ0,dt (show(3:Int)≠0 by omega),hw0,QlF ((ys[i]).2.1) (k+1) (by omega) (by omega) (by first|omega|(simp only[XC];omega)),QjV ((ys[i]).2.2) ((k+1)+((Qe Qw ((ys[i]).2.1):Nat):Int)) (by omega) (by omega) (by first|omega|(simp only[Xv];omega))]
    have hk:Z2 wl (k+((1+Qe Qw ((ys[i]).2.1)+Qe Qx ((ys[i]).2.2):Nat):Int),((i+1:Nat):Int),ys.set i (k,Qu ZW Qw ((ys[i]).2.1) (k+1),Qu Zf Qx ((ys[i]).2.2) ((k+1)+((Qe Qw ((ys[i]).2.1):Nat):Int))))=some r:=hk
    rw[show k+((1+Qe Qw ((ys[i]).2.1)+Qe Qx ((ys[i]).2.2):Nat):Int)=(((k+1)+((Qe Qw ((ys[i]).2.1):Nat):Int))+((Qe Qx ((ys[i]).2.2):Nat):Int)) by omega]at hk
    exact hk)
  (fun k ys hy=>by
    apply QaL
    simp only[ye,<-hy,Qs,QQ2])
  k hk hs
 simp only[QQ6]at e
 simp only[Qd8,e,QQ0]
theorem Qyz (a:List Qt) (k:Int) (hk:0<k) (hs:k+((Qe Xl a:Nat):Int)<=1152921504606846976) (h:XK a<=4294967296):zH w (Qu Vd Xl a k,k)=some (k+((Qe Xl a:Nat):Int)):=by
 apply QnF
 simp only[XK]at h
 have hl:(Qu Vd Xl a k).length=a.length:=XI _ _ a k
 have e:=YI Vd Xl a k (fun l i=>Yc wl ((Qu Vd Xl a k),l,(i:Int))) 1152921504606846976
  (fun k1 i h1 x r hx hm h0 hB hk=>by
    apply QbO
    have hb:=Yt Xc hx
    simp only[Xl]at hB
    simp only[Vd]at hm
    simp only[Xc,QD]at hb
    have hw0:wR (k1+1)=k1+1:=w64 (by omega) (by omega)
    simp only[yz,ilt h1,Ql h1,Qi h1,hm,inc h1 (show(Qu Vd Xl a k).length<=maxLen by rw[hl];simp[maxLen];omega),QQ1,QQ2,decide_true,QQ3,QV,beq_self_eq_true,QQ0,dt (show(3:Int)≠0 by omega),hw0,Qlp x.2.1 (k1+1) (by omega) (by omega) (by first|omega|(simp only[XC];omega)),df (show¬(((k1+1)+((Qe Qw x.2.1:Nat):Int)):Int)<0 by omega),Qj2 x.2.2 ((k1+1)+((Qe Qw x.2.1:Nat):Int)) (by omega) (by omega) (by first|omega|(simp only[Xv];omega)),df (show¬((((k1+1)+((Qe Qw x.2.1:Nat):Int))+((Qe Qx x.2.2:Nat):Int)):Int)<0 by omega)]
    have hk:Yc wl ((Qu Vd Xl a k),k1+((1+Qe Qw x.2.1+Qe Qx x.2.2:Nat):Int),((i+1:Nat):Int))=some r:=hk
    rw[show k1+((1+Qe Qw x.2.1+Qe Qx x.2.2:Nat):Int)=(((k1+1)+((Qe Qw x.2.1:Nat):Int))+((Qe Qx x.2.2:Nat):Int)) by omega]at hk
    exact hk)
  (fun l=>by
    apply QbO
    simp only[yz,hl,Qs,QQ2])
  hk hs
 simp only[QQ6]at e
 simp only[Qdw,e,QQ0,Qq,Sum.elim_inr]
theorem Qy5 (a0:List Qd) (a1:List Qo) (a2:List Qt) (k:Int) (hk:0<k) (hs:k+((Qe QX a0+Qe Q8 a1+Qe Xl a2:Nat):Int)<=1152921504606846976) (h:Xa (a0,a1,a2)<=4294967296):KI w (a0,a1,a2,k)=some ((((k+((Qe QX a0:Nat):Int))+((Qe Q8 a1:Nat):Int))+((Qe Xl a2:Nat):Int)),Qu KT QX a0 k,Qu KX Q8 a1 (k+((Qe QX a0:Nat):Int)),Qu Vd Xl a2 ((k+((Qe QX a0:Nat):Int))+((Qe Q8 a1:Nat):Int))):=by
 apply QnW
 simp only[Xa]at h
 simp only[QeW,QQ0,QyK a0 k (by omega) (by omega) (by first|omega|(simp only[XJ];omega)),QyX a1 (k+((Qe QX a0:Nat):Int)) (by omega) (by omega) (by first|omega|(simp only[Xk];omega)),QzN a2 ((k+((Qe QX a0:Nat):Int))+((Qe Q8 a1:Nat):Int)) (by omega) (by omega) (by first|omega|(simp only[XK];omega))]
theorem Qzd (a0:List Qd) (a1:List Qo) (a2:List Qt) (k:Int) (hk:0<k) (hs:k+((Qe QX a0+Qe Q8 a1+Qe Xl a2:Nat):Int)<=1152921504606846976) (h:Xa (a0,a1,a2)<=4294967296):KH w (Qu KT QX a0 k,Qu KX Q8 a1 (k+((Qe QX a0:Nat):Int)),Qu Vd Xl a2 ((k+((Qe QX a0:Nat):Int))+((Qe Q8 a1:Nat):Int)),k)=some (((k+((Qe QX a0:Nat):Int))+((Qe Q8 a1:Nat):Int))+((Qe Xl a2:Nat):Int)):=by
 apply QnO
 simp only[Xa]at h
 simp only[QeK,QQ0,QQ2,QAa a0 k (by omega) (by omega) (by first|omega|(simp only[XJ];omega)),df (show¬((k+((Qe QX a0:Nat):Int)):Int)<0 by omega),QzW a1 (k+((Qe QX a0:Nat):Int)) (by omega) (by omega) (by first|omega|(simp only[Xk];omega)),df (show¬(((k+((Qe QX a0:Nat):Int))+((Qe Q8 a1:Nat):Int)):Int)<0 by omega),Qyz a2 ((k+((Qe QX a0:Nat):Int))+((Qe Q8 a1:Nat):Int)) (by omega) (by omega) (by first|omega|(simp only[XK];omega)),df (show¬((((k+((Qe QX a0:Nat):Int))+((Qe Q8 a1:Nat):Int))+((Qe Xl a2:Nat):Int)):Int)<0 by omega)]
end Go.Proofs.YtiejfnbmficbmaaGreat.M
