/- What the plain forms that FnExactStep reaches come to: PFam. No conditions but those that each theorem states. -/
import Derived.Test.YtjenicbpdklpbaaGreatFnExactStepPState
set_option linter.all false
namespace Go.Proofs.YtjenicbpdklpbaaGreat.M
open Go Go.Eng Go.Proofs
set_option linter.unusedVariables false
def V1 (x:XT):Nat:=ByteArray.size x.2.2.2.2
def Qou (x:XT):Prop:=ByteArray.size x.2.2.2.2<=maxLen
theorem QEt {x:XT}(h:xP Qtd x):Qou x:=h.2.2.2.2.1
theorem QGb (a0:Int) (a1:Int) (a2:Int) (a3:Int) (a4:ByteArray) (l:Int) (h0:0<=l) (hB:l<=1048576) (hf:Qou (a0,a1,a2,a3,a4)):Qdb w (a0,a1,a2,a3,a4,l)=some (szI (V1 (a0,a1,a2,a3,a4)) l):=by
 apply QuI
 simp only[Qou]at hf
 have e:V1 (a0,a1,a2,a3,a4)=(ByteArray.size a4+0):=by simp only[V1];omega
 rw[e]
 simp only[Qix]
 refine zd (by omega) (by omega) (hf) fun _=> ?_
 rw[w64 (by omega) (by omega)]
 exact KJ (by omega)
def XM (x:Qd):Nat:=V1 (x.2.1,x.2.2.1,x.2.2.2.1,x.2.2.2.2.1,x.2.2.2.2.2)
def Qqa (x:Qd):Prop:=Qou (x.2.1,x.2.2.1,x.2.2.2.1,x.2.2.2.2.1,x.2.2.2.2.2)
theorem QFN {x:Qd}(h:xP QT x):Qqa x:=QEt ⟨h.2.1,h.2.2.1,h.2.2.2.1,h.2.2.2.2.1,h.2.2.2.2.2.1,trivial⟩
theorem QBE (a0:Int) (a1:Int) (a2:Int) (a3:Int) (a4:Int) (a5:ByteArray) (l:Int) (h0:0<=l) (hB:l<=1048576) (hf:Qqa (a0,a1,a2,a3,a4,a5)):QeL w (a0,a1,a2,a3,a4,a5,l)=some (szI (XM (a0,a1,a2,a3,a4,a5)) l):=by
 apply Qv4
 simp only[Qqa]at hf
 have e:XM (a0,a1,a2,a3,a4,a5)=(V1 (a1,a2,a3,a4,a5)+0):=by simp only[XM];omega
 rw[e]
 simp only[Ql6]
 refine ZS (by omega) (QGb a1 a2 a3 a4 a5 _ (by omega) (by omega) (hf)) fun _=> ?_
 exact KJ (by omega)
def XV (a:List Qd):Nat:=a.length+Qi XM a
def Qor (a:List Qd):Prop:=a.length<=maxLen/\∀x∈a,Qqa x
theorem QF6 (a:List Qd) (l:Int) (h0:0<=l) (hB:l<=1048576) (hf:Qor a):Qck w (a,l)=some (szI (XV a) l):=by
 apply Qtk
 simp only[Qjz,XV]
 refine zd h0 hB hf.1 fun h=> ?_
 have e:=Qh2 XM a (fun l i=>Js wl (a,l,(i:Int))) 1048576
  (fun l i h1 r h0 hB h2 hk=>by
    apply yB
    have hs:=QBE (a[i]).1 (a[i]).2.1 (a[i]).2.2.1 (a[i]).2.2.2.1 (a[i]).2.2.2.2.1 (a[i]).2.2.2.2.2 l (by omega) (by omega) (hf.2 _ (QRf h1))
    have hs2:szI (XM a[i]) l=l - XM a[i]:=Vx h2
    simp only[zM,ilt h1,Qk h1,Qg h1,inc h1 (show a.length<=maxLen from hf.1),QQ1,hs,QQ0]
    simp only[show szI (XM ((a[i]).1,(a[i]).2.1,(a[i]).2.2.1,(a[i]).2.2.2.1,(a[i]).2.2.2.2.1,(a[i]).2.2.2.2.2)) l=l - XM a[i]from hs2,df (show¬l - (XM a[i]:Int)<0 by omega),QQ2]
    exact hk)
  (fun l i h1 h0 hB h2=>by
    apply yB
    have hs:=QBE (a[i]).1 (a[i]).2.1 (a[i]).2.2.1 (a[i]).2.2.2.1 (a[i]).2.2.2.2.1 (a[i]).2.2.2.2.2 l (by omega) (by omega) (hf.2 _ (QRf h1))
    have hs2:szI (XM a[i]) l= -1:=KN h2
    simp only[zM,ilt h1,Qk h1,Qg h1,QQ1,hs,QQ0]
    simp only[show szI (XM ((a[i]).1,(a[i]).2.1,(a[i]).2.2.1,(a[i]).2.2.2.1,(a[i]).2.2.2.2.1,(a[i]).2.2.2.2.2)) l= -1 from hs2,dt (show(-1:Int)<0 by omega),QQ1])
  (fun l=>by
    apply yB
    simp only[zM,Qm,QQ2])
  (l - a.length) (by omega) (by omega)
 have hl:=hf.1
 simp only[maxLen]at hl
 rw[w64 (by omega) (by omega)]
 simp only[QQ6]at e
 rw[e,QQ0,Qd2]
def XP (a:List Qa):Nat:=a.length
def QlM (a:List Qa):Prop:=a.length<=maxLen
theorem QE0 (a:List Qa) (l:Int) (h0:0<=l) (hB:l<=1048576) (hf:QlM a):vx w (a,l)=some (szI (XP a) l):=by
 apply QrV
 simp only[Qg9]
 exact zd (m:=0) h0 hB hf fun h=>by rw[w64 (by omega) (by omega)];exact KJ (by omega)
def QG (x:Qj):Nat:=XV x.1+XP x.2
def yl (x:Qj):Prop:=Qor x.1/\QlM x.2
theorem Qpm {x:Qj}(h:xP Zk x):yl x:=⟨⟨h.1.1,fun y hy=>QFN (h.1.2 y hy)⟩,h.2.1.1⟩
theorem QnZ (a0:List Qd) (a1:List Qa) (l:Int) (h0:0<=l) (hB:l<=1048576) (hf:yl (a0,a1)):qS w (a0,a1,l)=some (szI (QG (a0,a1)) l):=by
 apply Qtn
 simp only[yl]at hf
 have e:QG (a0,a1)=(XV a0+(XP a1+0)):=by simp only[QG];omega
 rw[e]
 simp only[Qiu]
 refine ZS (by omega) (QF6 a0 _ (by omega) (by omega) (hf.1)) fun _=> ?_
 refine ZS (by omega) (QE0 a1 _ (by omega) (by omega) (hf.2)) fun _=> ?_
 exact KJ (by omega)
def QU (a:List Int):Nat:=a.length
def QhW (a:List Int):Prop:=a.length<=maxLen
theorem Qnw (a:List Int) (l:Int) (h0:0<=l) (hB:l<=1048576) (hf:QhW a):qD w (a,l)=some (szI (QU a) l):=by
 apply Qvv
 simp only[QkO]
 exact zd (m:=0) h0 hB hf fun h=>by rw[w64 (by omega) (by omega)];exact KJ (by omega)
def Zz (x:Zi):Nat:=QU x.1
def QmJ (x:Zi):Prop:=QhW x.1
theorem QGi {x:Zi}(h:xP Qx3 x):QmJ x:=h.1.1
theorem QIc (a0:List Int) (a1:Int) (l:Int) (h0:0<=l) (hB:l<=1048576) (hf:QmJ (a0,a1)):Qew w (a0,a1,l)=some (szI (Zz (a0,a1)) l):=by
 apply Qvo
 simp only[QmJ]at hf
 have e:Zz (a0,a1)=(QU a0+0):=by simp only[Zz];omega
 rw[e]
 simp only[Qli]
 refine ZS (by omega) (Qnw a0 _ (by omega) (by omega) (hf)) fun _=> ?_
 exact KJ (by omega)
def XY (a:List Qj):Nat:=a.length+Qi QG a
def Qpi (a:List Qj):Prop:=a.length<=maxLen/\∀x∈a,yl x
theorem QEs (a:List Qj) (l:Int) (h0:0<=l) (hB:l<=1048576) (hf:Qpi a):vz w (a,l)=some (szI (XY a) l):=by
 apply Qsa
 simp only[Qht,XY]
 refine zd h0 hB hf.1 fun h=> ?_
 have e:=Qh2 QG a (fun l i=>VE wl (a,l,(i:Int))) 1048576
  (fun l i h1 r h0 hB h2 hk=>by
    apply zC
    have hs:=QnZ (a[i]).1 (a[i]).2 l (by omega) (by omega) (hf.2 _ (QRf h1))
    have hs2:szI (QG a[i]) l=l - QG a[i]:=Vx h2
    simp only[xN,ilt h1,Qk h1,Qg h1,inc h1 (show a.length<=maxLen from hf.1),QQ1,hs,QQ0]
    simp only[show szI (QG ((a[i]).1,(a[i]).2)) l=l - QG a[i]from hs2,df (show¬l - (QG a[i]:Int)<0 by omega),QQ2]
    exact hk)
  (fun l i h1 h0 hB h2=>by
    apply zC
    have hs:=QnZ (a[i]).1 (a[i]).2 l (by omega) (by omega) (hf.2 _ (QRf h1))
    have hs2:szI (QG a[i]) l= -1:=KN h2
    simp only[xN,ilt h1,Qk h1,Qg h1,QQ1,hs,QQ0]
    simp only[show szI (QG ((a[i]).1,(a[i]).2)) l= -1 from hs2,dt (show(-1:Int)<0 by omega),QQ1])
  (fun l=>by
    apply zC
    simp only[xN,Qm,QQ2])
  (l - a.length) (by omega) (by omega)
 have hl:=hf.1
 simp only[maxLen]at hl
 rw[w64 (by omega) (by omega)]
 simp only[QQ6]at e
 rw[e,QQ0,Qd2]
def Z7 (x:Zs):Nat:=XY x.2.2
def QpF (x:Zs):Prop:=Qpi x.2.2
theorem QHN {x:Zs}(h:xP QyQ x):QpF x:=⟨h.2.2.1.1,fun y hy=>Qpm (h.2.2.1.2 y hy)⟩
theorem QIR (a0:Int) (a1:Int) (a2:List Qj) (l:Int) (h0:0<=l) (hB:l<=1048576) (hf:QpF (a0,a1,a2)):QhT w (a0,a1,a2,l)=some (szI (Z7 (a0,a1,a2)) l):=by
 apply QxK
 simp only[QpF]at hf
 have e:Z7 (a0,a1,a2)=(XY a2+0):=by simp only[Z7];omega
 rw[e]
 simp only[Qnf]
 refine ZS (by omega) (QEs a2 _ (by omega) (by omega) (hf)) fun _=> ?_
 exact KJ (by omega)
def Xx (a:List (List Int)):Nat:=a.length+Qi QU a
def Qr3 (a:List (List Int)):Prop:=a.length<=maxLen/\∀x∈a,QhW x
theorem QFF (a:List (List Int)) (l:Int) (h0:0<=l) (hB:l<=1048576) (hf:Qr3 a):Qbd w (a,l)=some (szI (Xx a) l):=by
 apply QtQ
 simp only[Qid,Xx]
 refine zd h0 hB hf.1 fun h=> ?_
 have e:=Qh2 QU a (fun l i=>qc wl (a,l,(i:Int))) 1048576
  (fun l i h1 r h0 hB h2 hk=>by
    apply yA
    have hs:=Qnw a[i] l (by omega) (by omega) (hf.2 _ (QRf h1))
    have hs2:szI (QU a[i]) l=l - QU a[i]:=Vx h2
    simp only[zU,ilt h1,Qk h1,Qg h1,inc h1 (show a.length<=maxLen from hf.1),QQ1,hs,QQ0]
    simp only[show szI (QU (a[i])) l=l - QU a[i]from hs2,df (show¬l - (QU a[i]:Int)<0 by omega),QQ2]
    exact hk)
  (fun l i h1 h0 hB h2=>by
    apply yA
    have hs:=Qnw a[i] l (by omega) (by omega) (hf.2 _ (QRf h1))
    have hs2:szI (QU a[i]) l= -1:=KN h2
    simp only[zU,ilt h1,Qk h1,Qg h1,QQ1,hs,QQ0]
    simp only[show szI (QU (a[i])) l= -1 from hs2,dt (show(-1:Int)<0 by omega),QQ1])
  (fun l=>by
    apply yA
    simp only[zU,Qm,QQ2])
  (l - a.length) (by omega) (by omega)
 have hl:=hf.1
 simp only[maxLen]at hl
 rw[w64 (by omega) (by omega)]
 simp only[QQ6]at e
 rw[e,QQ0,Qd2]
def Z5 (a:List Qz):Nat:=a.length
def Qr7 (a:List Qz):Prop:=a.length<=maxLen
theorem QGq (a:List Qz) (l:Int) (h0:0<=l) (hB:l<=1048576) (hf:Qr7 a):QcI w (a,l)=some (szI (Z5 a) l):=by
 apply QuQ
 simp only[Qjk]
 exact zd (m:=0) h0 hB hf fun h=>by rw[w64 (by omega) (by omega)];exact KJ (by omega)
def Z6 (a:List QN):Nat:=a.length
def QrK (a:List QN):Prop:=a.length<=maxLen
theorem QGN (a:List QN) (l:Int) (h0:0<=l) (hB:l<=1048576) (hf:QrK a):QaT w (a,l)=some (szI (Z6 a) l):=by
 apply Quk
 simp only[QjH]
 exact zd (m:=0) h0 hB hf fun h=>by rw[w64 (by omega) (by omega)];exact KJ (by omega)
def Q8 (x:Qb):Nat:=QG (x.2.2.1,x.2.2.2.1)+Zz (x.2.2.2.2.1,x.2.2.2.2.2.1)+Z7 (x.2.2.2.2.2.2.1,x.2.2.2.2.2.2.2.1,x.2.2.2.2.2.2.2.2.1)+QU x.2.2.2.2.2.2.2.2.2.1+QU x.2.2.2.2.2.2.2.2.2.2.1+Xx x.2.2.2.2.2.2.2.2.2.2.2.1+Z5 x.2.2.2.2.2.2.2.2.2.2.2.2.2.2.1+Z6 x.2.2.2.2.2.2.2.2.2.2.2.2.2.2.2.2.2.2
def Qh1 (x:Qb):Prop:=yl (x.2.2.1,x.2.2.2.1)/\QmJ (x.2.2.2.2.1,x.2.2.2.2.2.1)/\QpF (x.2.2.2.2.2.2.1,x.2.2.2.2.2.2.2.1,x.2.2.2.2.2.2.2.2.1)/\QhW x.2.2.2.2.2.2.2.2.2.1/\QhW x.2.2.2.2.2.2.2.2.2.2.1/\Qr3 x.2.2.2.2.2.2.2.2.2.2.2.1/\Qr7 x.2.2.2.2.2.2.2.2.2.2.2.2.2.2.1/\QrK x.2.2.2.2.2.2.2.2.2.2.2.2.2.2.2.2.2.2
theorem QF1 {x:Qb}(h:xP Y3 x):Qh1 x:=⟨Qpm ⟨h.2.2.1,h.2.2.2.1,trivial⟩,QGi ⟨h.2.2.2.2.1,h.2.2.2.2.2.1,trivial⟩,QHN ⟨h.2.2.2.2.2.2.1,h.2.2.2.2.2.2.2.1,h.2.2.2.2.2.2.2.2.1,trivial⟩,h.2.2.2.2.2.2.2.2.2.1.1,h.2.2.2.2.2.2.2.2.2.2.1.1,⟨h.2.2.2.2.2.2.2.2.2.2.2.1.1,fun y hy=>((h.2.2.2.2.2.2.2.2.2.2.2.1.2 y hy).1).1⟩,h.2.2.2.2.2.2.2.2.2.2.2.2.2.2.1.1,h.2.2.2.2.2.2.2.2.2.2.2.2.2.2.2.2.2.2.1.1⟩
theorem QB4 (a0:Int) (a1:Int) (a2:List Qd) (a3:List Qa) (a4:List Int) (a5:Int) (a6:Int) (a7:Int) (a8:List Qj) (a9:List Int) (a10:List Int) (a11:List (List Int)) (a12:Int) (a13:Int) (a14:List Qz) (a15:Int) (a16:Int) (a17:Int) (a18:List QN) (l:Int) (h0:0<=l) (hB:l<=1048576) (hf:Qh1 (a0,a1,a2,a3,a4,a5,a6,a7,a8,a9,a10,a11,a12,a13,a14,a15,a16,a17,a18)):QeF w (a0,a1,a2,a3,a4,a5,a6,a7,a8,a9,a10,a11,a12,a13,a14,a15,a16,a17,a18,l)=some (szI (Q8 (a0,a1,a2,a3,a4,a5,a6,a7,a8,a9,a10,a11,a12,a13,a14,a15,a16,a17,a18)) l):=by
 apply Qwc
 simp only[Qh1]at hf
 have e:Q8 (a0,a1,a2,a3,a4,a5,a6,a7,a8,a9,a10,a11,a12,a13,a14,a15,a16,a17,a18)=(QG (a2,a3)+(Zz (a4,a5)+(Z7 (a6,a7,a8)+(QU a9+(QU a10+(Xx a11+(Z5 a14+(Z6 a18+0)))))))):=by simp only[Q8];omega
 rw[e]
 simp only[Ql4]
 refine ZS (by omega) (QnZ a2 a3 _ (by omega) (by omega) (hf.1)) fun _=> ?_
 refine ZS (by omega) (QIc a4 a5 _ (by omega) (by omega) (hf.2.1)) fun _=> ?_
 refine ZS (by omega) (QIR a6 a7 a8 _ (by omega) (by omega) (hf.2.2.1)) fun _=> ?_
 refine ZS (by omega) (Qnw a9 _ (by omega) (by omega) (hf.2.2.2.1)) fun _=> ?_
 refine ZS (by omega) (Qnw a10 _ (by omega) (by omega) (hf.2.2.2.2.1)) fun _=> ?_
 refine ZS (by omega) (QFF a11 _ (by omega) (by omega) (hf.2.2.2.2.2.1)) fun _=> ?_
 refine ZS (by omega) (QGq a14 _ (by omega) (by omega) (hf.2.2.2.2.2.2.1)) fun _=> ?_
 refine ZS (by omega) (QGN a18 _ (by omega) (by omega) (hf.2.2.2.2.2.2.2)) fun _=> ?_
 exact KJ (by omega)
def X0 (a:List Qb):Nat:=a.length+Qi Q8 a
def Qsf (a:List Qb):Prop:=a.length<=maxLen/\∀x∈a,Qh1 x
theorem QGp (a:List Qb) (l:Int) (h0:0<=l) (hB:l<=1048576) (hf:Qsf a):Qb0 w (a,l)=some (szI (X0 a) l):=by
 apply Qsx
 simp only[Qj5,X0]
 refine zd h0 hB hf.1 fun h=> ?_
 have e:=Qh2 Q8 a (fun l i=>JW wl (a,l,(i:Int))) 1048576
  (fun l i h1 r h0 hB h2 hk=>by
    apply yG
    have hs:=QB4 (a[i]).1 (a[i]).2.1 (a[i]).2.2.1 (a[i]).2.2.2.1 (a[i]).2.2.2.2.1 (a[i]).2.2.2.2.2.1 (a[i]).2.2.2.2.2.2.1 (a[i]).2.2.2.2.2.2.2.1 (a[i]).2.2.2.2.2.2.2.2.1 (a[i]).2.2.2.2.2.2.2.2.2.1 (a[i]).2.2.2.2.2.2.2.2.2.2.1 (a[i]).2.2.2.2.2.2.2.2.2.2.2.1 (a[i]).2.2.2.2.2.2.2.2.2.2.2.2.1 (a[i]).2.2.2.2.2.2.2.2.2.2.2.2.2.1 (a[i]).2.2.2.2.2.2.2.2.2.2.2.2.2.2.1 (a[i]).2.2.2.2.2.2.2.2.2.2.2.2.2.2.2.1 (a[i]).2.2.2.2.2.2.2.2.2.2.2.2.2.2.2.2.1 (a[i]).2.2.2.2.2.2.2.2.2.2.2.2.2.2.2.2.2.1 (a[i]).2.2.2.2.2.2.2.2.2.2.2.2.2.2.2.2.2.2 l (by omega) (by omega) (hf.2 _ (QRf h1))
    have hs2:szI (Q8 a[i]) l=l - Q8 a[i]:=Vx h2
    simp only[zR,ilt h1,Qk h1,Qg h1,inc h1 (show a.length<=maxLen from hf.1),QQ1,hs,QQ0]
    simp only[show szI (Q8 ((a[i]).1,(a[i]).2.1,(a[i]).2.2.1,(a[i]).2.2.2.1,(a[i]).2.2.2.2.1,(a[i]).2.2.2.2.2.1,(a[i]).2.2.2.2.2.2.1,(a[i]).2.2.2.2.2.2.2.1,(a[i]).2.2.2.2.2.2.2.2.1,(a[i]).2.2.2.2.2.2.2.2.2.1,(a[i]).2.2.2.2.2.2.2.2.2.2.1,(a[i]).2.2.2.2.2.2.2.2.2.2.2.1,(a[i]).2.2.2.2.2.2.2.2.2.2.2.2.1,(a[i]).2.2.2.2.2.2.2.2.2.2.2.2.2.1,(a[i]).2.2.2.2.2.2.2.2.2.2.2.2.2.2.1,(a[i]).2.2.2.2.2.2.2.2.2.2.2.2.2.2.2.1,(a[i]).2.2.2.2.2.2.2.2.2.2.2.2.2.2.2.2.1,(a[i]).2.2.2.2.2.2.2.2.2.2.2.2.2.2.2.2.2.1,(a[i]).2.2.2.2.2.2.2.2.2.2.2.2.2.2.2.2.2.2)) l=l - Q8 a[i]from hs2,df (show¬l - (Q8 a[i]:Int)<0 by omega),QQ2]
    exact hk)
  (fun l i h1 h0 hB h2=>by
    apply yG
    have hs:=QB4 (a[i]).1 (a[i]).2.1 (a[i]).2.2.1 (a[i]).2.2.2.1 (a[i]).2.2.2.2.1 (a[i]).2.2.2.2.2.1 (a[i]).2.2.2.2.2.2.1 (a[i]).2.2.2.2.2.2.2.1 (a[i]).2.2.2.2.2.2.2.2.1 (a[i]).2.2.2.2.2.2.2.2.2.1 (a[i]).2.2.2.2.2.2.2.2.2.2.1 (a[i]).2.2.2.2.2.2.2.2.2.2.2.1 (a[i]).2.2.2.2.2.2.2.2.2.2.2.2.1 (a[i]).2.2.2.2.2.2.2.2.2.2.2.2.2.1 (a[i]).2.2.2.2.2.2.2.2.2.2.2.2.2.2.1 (a[i]).2.2.2.2.2.2.2.2.2.2.2.2.2.2.2.1 (a[i]).2.2.2.2.2.2.2.2.2.2.2.2.2.2.2.2.1 (a[i]).2.2.2.2.2.2.2.2.2.2.2.2.2.2.2.2.2.1 (a[i]).2.2.2.2.2.2.2.2.2.2.2.2.2.2.2.2.2.2 l (by omega) (by omega) (hf.2 _ (QRf h1))
    have hs2:szI (Q8 a[i]) l= -1:=KN h2
    simp only[zR,ilt h1,Qk h1,Qg h1,QQ1,hs,QQ0]
    simp only[show szI (Q8 ((a[i]).1,(a[i]).2.1,(a[i]).2.2.1,(a[i]).2.2.2.1,(a[i]).2.2.2.2.1,(a[i]).2.2.2.2.2.1,(a[i]).2.2.2.2.2.2.1,(a[i]).2.2.2.2.2.2.2.1,(a[i]).2.2.2.2.2.2.2.2.1,(a[i]).2.2.2.2.2.2.2.2.2.1,(a[i]).2.2.2.2.2.2.2.2.2.2.1,(a[i]).2.2.2.2.2.2.2.2.2.2.2.1,(a[i]).2.2.2.2.2.2.2.2.2.2.2.2.1,(a[i]).2.2.2.2.2.2.2.2.2.2.2.2.2.1,(a[i]).2.2.2.2.2.2.2.2.2.2.2.2.2.2.1,(a[i]).2.2.2.2.2.2.2.2.2.2.2.2.2.2.2.1,(a[i]).2.2.2.2.2.2.2.2.2.2.2.2.2.2.2.2.1,(a[i]).2.2.2.2.2.2.2.2.2.2.2.2.2.2.2.2.2.1,(a[i]).2.2.2.2.2.2.2.2.2.2.2.2.2.2.2.2.2.2)) l= -1 from hs2,dt (show(-1:Int)<0 by omega),QQ1])
  (fun l=>by
    apply yG
    simp only[zR,Qm,QQ2])
  (l - a.length) (by omega) (by omega)
 have hl:=hf.1
 simp only[maxLen]at hl
 rw[w64 (by omega) (by omega)]
 simp only[QQ6]at e
 rw[e,QQ0,Qd2]
def Zt (a:List Int):Nat:=a.length
def Qsk (a:List Int):Prop:=a.length<=maxLen
theorem QF2 (a:List Int) (l:Int) (h0:0<=l) (hB:l<=1048576) (hf:Qsk a):QbF w (a,l)=some (szI (Zt a) l):=by
 apply QtG
 simp only[QiQ]
 exact zd (m:=0) h0 hB hf fun h=>by rw[w64 (by omega) (by omega)];exact KJ (by omega)
def Xe (x:Qs):Nat:=Zt x.2.1
def Qmz (x:Qs):Prop:=Qsk x.2.1
theorem QGE {x:Qs}(h:xP Ko x):Qmz x:=h.2.1.1
theorem QBK (a0:Int) (a1:List Int) (a2:Bool) (l:Int) (h0:0<=l) (hB:l<=1048576) (hf:Qmz (a0,a1,a2)):QeT w (a0,a1,a2,l)=some (szI (Xe (a0,a1,a2)) l):=by
 apply QvM
 simp only[Qmz]at hf
 have e:Xe (a0,a1,a2)=(Zt a1+0):=by simp only[Xe];omega
 rw[e]
 simp only[Qkw]
 refine ZS (by omega) (QF2 a1 _ (by omega) (by omega) (hf)) fun _=> ?_
 exact KJ (by omega)
def XC (a:List Qs):Nat:=a.length+Qi Xe a
def Qsp (a:List Qs):Prop:=a.length<=maxLen/\∀x∈a,Qmz x
theorem QFn (a:List Qs) (l:Int) (h0:0<=l) (hB:l<=1048576) (hf:Qsp a):QaW w (a,l)=some (szI (XC a) l):=by
 apply QsO
 simp only[Qkq,XC]
 refine zd h0 hB hf.1 fun h=> ?_
 have e:=Qh2 Xe a (fun l i=>JN wl (a,l,(i:Int))) 1048576
  (fun l i h1 r h0 hB h2 hk=>by
    apply yj
    have hs:=QBK (a[i]).1 (a[i]).2.1 (a[i]).2.2 l (by omega) (by omega) (hf.2 _ (QRf h1))
    have hs2:szI (Xe a[i]) l=l - Xe a[i]:=Vx h2
    simp only[zS,ilt h1,Qk h1,Qg h1,inc h1 (show a.length<=maxLen from hf.1),QQ1,hs,QQ0]
    simp only[show szI (Xe ((a[i]).1,(a[i]).2.1,(a[i]).2.2)) l=l - Xe a[i]from hs2,df (show¬l - (Xe a[i]:Int)<0 by omega),QQ2]
    exact hk)
  (fun l i h1 h0 hB h2=>by
    apply yj
    have hs:=QBK (a[i]).1 (a[i]).2.1 (a[i]).2.2 l (by omega) (by omega) (hf.2 _ (QRf h1))
    have hs2:szI (Xe a[i]) l= -1:=KN h2
    simp only[zS,ilt h1,Qk h1,Qg h1,QQ1,hs,QQ0]
    simp only[show szI (Xe ((a[i]).1,(a[i]).2.1,(a[i]).2.2)) l= -1 from hs2,dt (show(-1:Int)<0 by omega),QQ1])
  (fun l=>by
    apply yj
    simp only[zS,Qm,QQ2])
  (l - a.length) (by omega) (by omega)
 have hl:=hf.1
 simp only[maxLen]at hl
 rw[w64 (by omega) (by omega)]
 simp only[QQ6]at e
 rw[e,QQ0,Qd2]
def Xt (x:Qq):Nat:=QG (x.2.1,x.2.2)
def QmA (x:Qq):Prop:=yl (x.2.1,x.2.2)
theorem QFl {x:Qq}(h:xP Y2 x):QmA x:=Qpm ⟨h.2.1,h.2.2.1,trivial⟩
theorem QBQ (a0:Int) (a1:List Qd) (a2:List Qa) (l:Int) (h0:0<=l) (hB:l<=1048576) (hf:QmA (a0,a1,a2)):Qee w (a0,a1,a2,l)=some (szI (Xt (a0,a1,a2)) l):=by
 apply QvI
 simp only[QmA]at hf
 have e:Xt (a0,a1,a2)=(QG (a1,a2)+0):=by simp only[Xt];omega
 rw[e]
 simp only[QlR]
 refine ZS (by omega) (QnZ a1 a2 _ (by omega) (by omega) (hf)) fun _=> ?_
 exact KJ (by omega)
def X5 (a:List Qq):Nat:=a.length+Qi Xt a
def QrO (a:List Qq):Prop:=a.length<=maxLen/\∀x∈a,QmA x
theorem QFu (a:List Qq) (l:Int) (h0:0<=l) (hB:l<=1048576) (hf:QrO a):QaC w (a,l)=some (szI (X5 a) l):=by
 apply QuE
 simp only[Qiw,X5]
 refine zd h0 hB hf.1 fun h=> ?_
 have e:=Qh2 Xt a (fun l i=>JM wl (a,l,(i:Int))) 1048576
  (fun l i h1 r h0 hB h2 hk=>by
    apply yo
    have hs:=QBQ (a[i]).1 (a[i]).2.1 (a[i]).2.2 l (by omega) (by omega) (hf.2 _ (QRf h1))
    have hs2:szI (Xt a[i]) l=l - Xt a[i]:=Vx h2
    simp only[zN,ilt h1,Qk h1,Qg h1,inc h1 (show a.length<=maxLen from hf.1),QQ1,hs,QQ0]
    simp only[show szI (Xt ((a[i]).1,(a[i]).2.1,(a[i]).2.2)) l=l - Xt a[i]from hs2,df (show¬l - (Xt a[i]:Int)<0 by omega),QQ2]
    exact hk)
  (fun l i h1 h0 hB h2=>by
    apply yo
    have hs:=QBQ (a[i]).1 (a[i]).2.1 (a[i]).2.2 l (by omega) (by omega) (hf.2 _ (QRf h1))
    have hs2:szI (Xt a[i]) l= -1:=KN h2
    simp only[zN,ilt h1,Qk h1,Qg h1,QQ1,hs,QQ0]
    simp only[show szI (Xt ((a[i]).1,(a[i]).2.1,(a[i]).2.2)) l= -1 from hs2,dt (show(-1:Int)<0 by omega),QQ1])
  (fun l=>by
    apply yo
    simp only[zN,Qm,QQ2])
  (l - a.length) (by omega) (by omega)
 have hl:=hf.1
 simp only[maxLen]at hl
 rw[w64 (by omega) (by omega)]
 simp only[QQ6]at e
 rw[e,QQ0,Qd2]
def Xj (x:YF):Nat:=X0 x.1+XC x.2.1+X5 x.2.2
def QdA (x:YF):Prop:=Qsf x.1/\Qsp x.2.1/\QrO x.2.2
theorem QLZ {x:YF}(h:xP Qpx x):QdA x:=⟨⟨h.1.1,fun y hy=>QF1 (h.1.2 y hy)⟩,⟨h.2.1.1,fun y hy=>QGE (h.2.1.2 y hy)⟩,⟨h.2.2.1.1,fun y hy=>QFl (h.2.2.1.2 y hy)⟩⟩
theorem QFA (a0:List Qb) (a1:List Qs) (a2:List Qq) (l:Int) (h0:0<=l) (hB:l<=1048576) (hf:QdA (a0,a1,a2)):Qdd w (a0,a1,a2,l)=some (szI (Xj (a0,a1,a2)) l):=by
 apply Qtu
 simp only[QdA]at hf
 have e:Xj (a0,a1,a2)=(X0 a0+(XC a1+(X5 a2+0))):=by simp only[Xj];omega
 rw[e]
 simp only[QiB]
 refine ZS (by omega) (QGp a0 _ (by omega) (by omega) (hf.1)) fun _=> ?_
 refine ZS (by omega) (QFn a1 _ (by omega) (by omega) (hf.2.1)) fun _=> ?_
 refine ZS (by omega) (QFu a2 _ (by omega) (by omega) (hf.2.2)) fun _=> ?_
 exact KJ (by omega)
theorem QGI (a0:Int) (a1:Int) (a2:Int) (a3:Int) (a4:ByteArray) (h:V1 (a0,a1,a2,a3,a4)<=4294967296):Qcv w (a0,a1,a2,a3,a4)=some (a0,a1,a2,a3,a4):=by
 apply QtH
 simp only[V1]at h
 simp only[Qij]
theorem QH6 (a0:Int) (a1:Int) (a2:Int) (a3:Int) (a4:Int) (a5:ByteArray) (h:XM (a0,a1,a2,a3,a4,a5)<=4294967296):QeQ w (a0,a1,a2,a3,a4,a5)=some (a0,a1,a2,a3,a4,a5):=by
 apply QvA
 simp only[XM]at h
 simp only[Qlf,QGI a1 a2 a3 a4 a5 (by omega),QQ0]
theorem QGH (a:List Qd) (h:XV a<=4294967296):Qcn w a=some a:=by
 apply QuV
 simp only[XV]at h
 have e:=VM a (fun x=>x) (fun i out=>JC wl (a,(i:Int),out)) (fun out=>out)
  (fun i h1 out r ho hk=>by
    apply QfI
    have hb:=XH XM a i h1
    simp only[Qco,ilt h1,ho,Qk h1,Qg h1,inc h1 (show a.length<=maxLen by simp[maxLen];omega),QQ1,QRb,QH6 (a[i]).1 (a[i]).2.1 (a[i]).2.2.1 (a[i]).2.2.2.1 (a[i]).2.2.2.2.1 (a[i]).2.2.2.2.2 (show XM a[i]<=4294967296 by omega),QQ0]
    exact hk)
  (fun out ho=>by
    apply QfI
    simp only[Qco,Qm,QQ2])
  (List.replicate a.length (0,0,0,0,0,ByteArray.empty)) (by simp)
 rw[List.map_id']at e
 have hf:fits a.length 56=true:=Qu (by omega)
 simp only[Qil,QRb,hf]
 simp
 exact e
theorem QFm (a0:Int) (a1:Int):QcP w (a0,a1)=some (a0,a1):=by
 apply Qs2
 simp only[QjI]
theorem QEa (a:List Qa) (h:XP a<=4294967296):vI w a=some a:=by
 apply QrY
 simp only[XP]at h
 have e:=VM a (fun x=>x) (fun i out=>VF wl (a,(i:Int),out)) (fun out=>out)
  (fun i h1 out r ho hk=>by
    apply Qdf
    simp only[vO,ilt h1,ho,Qk h1,Qg h1,inc h1 (show a.length<=maxLen by simp[maxLen];omega),QQ1,QRb,QFm (a[i]).1 (a[i]).2,QQ0]
    exact hk)
  (fun out ho=>by
    apply Qdf
    simp only[vO,Qm,QQ2])
  (List.replicate a.length (0,0)) (by simp)
 rw[List.map_id']at e
 have hf:fits a.length 16=true:=Qu (by omega)
 simp only[Qhb,QRb,hf]
 simp
 exact e
theorem QrF (a0:List Qd) (a1:List Qa) (h:QG (a0,a1)<=4294967296):qK w (a0,a1)=some (a0,a1):=by
 apply QtD
 simp only[QG]at h
 simp only[Qjs,QGH a0 (by omega),QEa a1 (by omega),QQ0]
theorem Qqo (a:List Int) (h:QU a<=4294967296):qx w a=some a:=by
 apply Qvl
 simp only[QU]at h
 have e:=VM a (fun x=>x) (fun i out=>qH wl (a,(i:Int),out)) (fun out=>out)
  (fun i h1 out r ho hk=>by
    apply Qhi
    simp only[QdL,ilt h1,ho,Qk h1,Qg h1,inc h1 (show a.length<=maxLen by simp[maxLen];omega),QQ1,QRb]
    exact hk)
  (fun out ho=>by
    apply Qhi
    simp only[QdL,Qm,QQ2])
  (List.replicate a.length 0) (by simp)
 rw[List.map_id']at e
 have hf:fits a.length 8=true:=Qu (by omega)
 simp only[QkQ,QRb,hf]
 simp
 exact e
theorem QH7 (a0:List Int) (a1:Int) (h:Zz (a0,a1)<=4294967296):Qef w (a0,a1)=some (a0,a1):=by
 apply Qvw
 simp only[Zz]at h
 simp only[QlE,Qqo a0 (by omega),QQ0]
theorem QEA (a:List Qj) (h:XY a<=4294967296):vB w a=some a:=by
 apply Qr1
 simp only[XY]at h
 have e:=VM a (fun x=>x) (fun i out=>VW wl (a,(i:Int),out)) (fun out=>out)
  (fun i h1 out r ho hk=>by
    apply Qde
    have hb:=XH QG a i h1
    simp only[vX,ilt h1,ho,Qk h1,Qg h1,inc h1 (show a.length<=maxLen by simp[maxLen];omega),QQ1,QRb,QrF (a[i]).1 (a[i]).2 (show QG a[i]<=4294967296 by omega),QQ0]
    exact hk)
  (fun out ho=>by
    apply Qde
    simp only[vX,Qm,QQ2])
  (List.replicate a.length ([],[])) (by simp)
 rw[List.map_id']at e
 have hf:fits a.length 48=true:=Qu (by omega)
 simp only[Qhk,QRb,hf]
 simp
 exact e
theorem QIF (a0:Int) (a1:Int) (a2:List Qj) (h:Z7 (a0,a1,a2)<=4294967296):Qhy w (a0,a1,a2)=some (a0,a1,a2):=by
 apply Qxo
 simp only[Z7]at h
 simp only[Qnm,QEA a2 (by omega),QQ0]
theorem QFX (a:List (List Int)) (h:Xx a<=4294967296):Qa0 w a=some a:=by
 apply Qur
 simp only[Xx]at h
 have e:=VM a (fun x=>x) (fun i out=>JP wl (a,(i:Int),out)) (fun out=>out)
  (fun i h1 out r ho hk=>by
    apply QfM
    have hb:=XH QU a i h1
    simp only[QaQ,ilt h1,ho,Qk h1,Qg h1,inc h1 (show a.length<=maxLen by simp[maxLen];omega),QQ1,QRb,Qqo a[i] (show QU a[i]<=4294967296 by omega),QQ0]
    exact hk)
  (fun out ho=>by
    apply QfM
    simp only[QaQ,Qm,QQ2])
  (List.replicate a.length []) (by simp)
 rw[List.map_id']at e
 have hf:fits a.length 24=true:=Qu (by omega)
 simp only[QjG,QRb,hf]
 simp
 exact e
theorem QIu (a0:Int) (a1:Int) (a2:Bool) (a3:Int):Qem w (a0,a1,a2,a3)=some (a0,a1,a2,a3):=by
 apply Qva
 simp only[Qln]
theorem QFK (a:List Qz) (h:Z5 a<=4294967296):Qbw w a=some a:=by
 apply Qum
 simp only[Z5]at h
 have e:=VM a (fun x=>x) (fun i out=>Jx wl (a,(i:Int),out)) (fun out=>out)
  (fun i h1 out r ho hk=>by
    apply Qe8
    simp only[Qc2,ilt h1,ho,Qk h1,Qg h1,inc h1 (show a.length<=maxLen by simp[maxLen];omega),QQ1,QRb,QIu (a[i]).1 (a[i]).2.1 (a[i]).2.2.1 (a[i]).2.2.2,QQ0]
    exact hk)
  (fun out ho=>by
    apply Qe8
    simp only[Qc2,Qm,QQ2])
  (List.replicate a.length (0,0,false,0)) (by simp)
 rw[List.map_id']at e
 have hf:fits a.length 32=true:=Qu (by omega)
 simp only[Qjf,QRb,hf]
 simp
 exact e
theorem QHI (a0:Int) (a1:Int) (a2:Int):QeU w (a0,a1,a2)=some (a0,a1,a2):=by
 apply QvP
 simp only[QkC]
theorem QFZ (a:List QN) (h:Z6 a<=4294967296):QbB w a=some a:=by
 apply Qud
 simp only[Z6]at h
 have e:=VM a (fun x=>x) (fun i out=>JU wl (a,(i:Int),out)) (fun out=>out)
  (fun i h1 out r ho hk=>by
    apply Qf1
    simp only[Qbt,ilt h1,ho,Qk h1,Qg h1,inc h1 (show a.length<=maxLen by simp[maxLen];omega),QQ1,QRb,QHI (a[i]).1 (a[i]).2.1 (a[i]).2.2,QQ0]
    exact hk)
  (fun out ho=>by
    apply Qf1
    simp only[Qbt,Qm,QQ2])
  (List.replicate a.length (0,0,0)) (by simp)
 rw[List.map_id']at e
 have hf:fits a.length 24=true:=Qu (by omega)
 simp only[Qko,QRb,hf]
 simp
 exact e
theorem QHX (a0:Int) (a1:Int) (a2:List Qd) (a3:List Qa) (a4:List Int) (a5:Int) (a6:Int) (a7:Int) (a8:List Qj) (a9:List Int) (a10:List Int) (a11:List (List Int)) (a12:Int) (a13:Int) (a14:List Qz) (a15:Int) (a16:Int) (a17:Int) (a18:List QN) (h:Q8 (a0,a1,a2,a3,a4,a5,a6,a7,a8,a9,a10,a11,a12,a13,a14,a15,a16,a17,a18)<=4294967296):Qeg w (a0,a1,a2,a3,a4,a5,a6,a7,a8,a9,a10,a11,a12,a13,a14,a15,a16,a17,a18)=some (a0,a1,a2,a3,a4,a5,a6,a7,a8,a9,a10,a11,a12,a13,a14,a15,a16,a17,a18):=by
 apply Qvb
 simp only[Q8]at h
 simp only[Ql9,QrF a2 a3 (by omega),QH7 a4 a5 (by omega),QIF a6 a7 a8 (by omega),Qqo a9 (by omega),Qqo a10 (by omega),QFX a11 (by omega),QFK a14 (by omega),QFZ a18 (by omega),QQ0]
theorem QGj (a:List Qb) (h:X0 a<=4294967296):QcB w a=some a:=by
 apply Qua
 simp only[X0]at h
 have e:=VM a (fun x=>x) (fun i out=>qj wl (a,(i:Int),out)) (fun out=>out)
  (fun i h1 out r ho hk=>by
    apply Qfs
    have hb:=XH Q8 a i h1
    simp only[Qbu,ilt h1,ho,Qk h1,Qg h1,inc h1 (show a.length<=maxLen by simp[maxLen];omega),QQ1,QRb,QHX (a[i]).1 (a[i]).2.1 (a[i]).2.2.1 (a[i]).2.2.2.1 (a[i]).2.2.2.2.1 (a[i]).2.2.2.2.2.1 (a[i]).2.2.2.2.2.2.1 (a[i]).2.2.2.2.2.2.2.1 (a[i]).2.2.2.2.2.2.2.2.1 (a[i]).2.2.2.2.2.2.2.2.2.1 (a[i]).2.2.2.2.2.2.2.2.2.2.1 (a[i]).2.2.2.2.2.2.2.2.2.2.2.1 (a[i]).2.2.2.2.2.2.2.2.2.2.2.2.1 (a[i]).2.2.2.2.2.2.2.2.2.2.2.2.2.1 (a[i]).2.2.2.2.2.2.2.2.2.2.2.2.2.2.1 (a[i]).2.2.2.2.2.2.2.2.2.2.2.2.2.2.2.1 (a[i]).2.2.2.2.2.2.2.2.2.2.2.2.2.2.2.2.1 (a[i]).2.2.2.2.2.2.2.2.2.2.2.2.2.2.2.2.2.1 (a[i]).2.2.2.2.2.2.2.2.2.2.2.2.2.2.2.2.2.2 (show Q8 a[i]<=4294967296 by omega),QQ0]
    exact hk)
  (fun out ho=>by
    apply Qfs
    simp only[Qbu,Qm,QQ2])
  (List.replicate a.length (0,0,[],[],[],0,0,0,[],[],[],[],0,0,[],0,0,0,[])) (by simp)
 rw[List.map_id']at e
 have hf:fits a.length 296=true:=Qu (by omega)
 simp only[Qir,QRb,hf]
 simp
 exact e
theorem QF0 (a:List Int) (h:Zt a<=4294967296):Qb9 w a=some a:=by
 apply Qs8
 simp only[Zt]at h
 have e:=VM a (fun x=>x) (fun i out=>JG wl (a,(i:Int),out)) (fun out=>out)
  (fun i h1 out r ho hk=>by
    apply Qfi
    simp only[Qc8,ilt h1,ho,Qk h1,Qg h1,inc h1 (show a.length<=maxLen by simp[maxLen];omega),QQ1,QRb]
    exact hk)
  (fun out ho=>by
    apply Qfi
    simp only[Qc8,Qm,QQ2])
  (List.replicate a.length 0) (by simp)
 rw[List.map_id']at e
 have hf:fits a.length 1=true:=Qu (by omega)
 simp only[Qi2,QRb,hf]
 simp
 exact e
theorem QHZ (a0:Int) (a1:List Int) (a2:Bool) (h:Xe (a0,a1,a2)<=4294967296):Qek w (a0,a1,a2)=some (a0,a1,a2):=by
 apply Qwa
 simp only[Xe]at h
 simp only[QkE,QF0 a1 (by omega),QQ0]
theorem QGo (a:List Qs) (h:XC a<=4294967296):QbP w a=some a:=by
 apply QuC
 simp only[XC]at h
 have e:=VM a (fun x=>x) (fun i out=>JO wl (a,(i:Int),out)) (fun out=>out)
  (fun i h1 out r ho hk=>by
    apply Qft
    have hb:=XH Xe a i h1
    simp only[QaD,ilt h1,ho,Qk h1,Qg h1,inc h1 (show a.length<=maxLen by simp[maxLen];omega),QQ1,QRb,QHZ (a[i]).1 (a[i]).2.1 (a[i]).2.2 (show Xe a[i]<=4294967296 by omega),QQ0]
    exact hk)
  (fun out ho=>by
    apply Qft
    simp only[QaD,Qm,QQ2])
  (List.replicate a.length (0,[],false)) (by simp)
 rw[List.map_id']at e
 have hf:fits a.length 40=true:=Qu (by omega)
 simp only[Qkc,QRb,hf]
 simp
 exact e
theorem QIt (a0:Int) (a1:List Qd) (a2:List Qa) (h:Xt (a0,a1,a2)<=4294967296):QeV w (a0,a1,a2)=some (a0,a1,a2):=by
 apply Qvp
 simp only[Xt]at h
 simp only[QkT,QrF a1 a2 (by omega),QQ0]
theorem QGt (a:List Qq) (h:X5 a<=4294967296):Qbj w a=some a:=by
 apply QtJ
 simp only[X5]at h
 have e:=VM a (fun x=>x) (fun i out=>JR wl (a,(i:Int),out)) (fun out=>out)
  (fun i h1 out r ho hk=>by
    apply Qgo
    have hb:=XH Xt a i h1
    simp only[Qc7,ilt h1,ho,Qk h1,Qg h1,inc h1 (show a.length<=maxLen by simp[maxLen];omega),QQ1,QRb,QIt (a[i]).1 (a[i]).2.1 (a[i]).2.2 (show Xt a[i]<=4294967296 by omega),QQ0]
    exact hk)
  (fun out ho=>by
    apply Qgo
    simp only[Qc7,Qm,QQ2])
  (List.replicate a.length (0,[],[])) (by simp)
 rw[List.map_id']at e
 have hf:fits a.length 56=true:=Qu (by omega)
 simp only[QjQ,QRb,hf]
 simp
 exact e
theorem QGT (a0:List Qb) (a1:List Qs) (a2:List Qq) (h:Xj (a0,a1,a2)<=4294967296):V2 w (a0,a1,a2)=some (a0,a1,a2):=by
 apply Qui
 simp only[Xj]at h
 simp only[Qkp,QGj a0 (by omega),QGo a1 (by omega),QGt a2 (by omega),QQ0]
theorem QGs (a0:Int) (a1:Int) (a2:Int) (a3:Int) (a4:ByteArray) (h:V1 (a0,a1,a2,a3,a4)<=4294967296):Qbm w (a0,a1,a2,a3,a4,a0,a1,a2,a3,a4)=some true:=by
 apply QtL
 simp only[V1]at h
 simp only[QiK,decide_true,QQ3,QQ2,QZ,beq_self_eq_true,QQ0]
theorem QHV (a0:Int) (a1:Int) (a2:Int) (a3:Int) (a4:Int) (a5:ByteArray) (h:XM (a0,a1,a2,a3,a4,a5)<=4294967296):Qer w (a0,a1,a2,a3,a4,a5,a0,a1,a2,a3,a4,a5)=some true:=by
 apply Qwe
 simp only[XM]at h
 simp only[Qk4,QGs a1 a2 a3 a4 a5 (by omega),decide_true,QQ3,QQ2,QZ,beq_self_eq_true,QQ0]
theorem QFs (a:List Qd) (h:XV a<=4294967296):Qda w (a,a)=some true:=by
 apply QsF
 simp only[XV]at h
 have e:=VQ a.length (fun i=>qd wl (a,a,(i:Int))) (.inr ())
  (fun i h1 r hk=>by
    apply QfH
    have hb:=XH XM a i h1
    simp only[Qa4,ilt h1,Qk h1,Qg h1,inc h1 (show a.length<=maxLen by simp[maxLen];omega),QQ1,decide_true,QQ3,QQ2,QZ,beq_self_eq_true,QHV (a[i]).1 (a[i]).2.1 (a[i]).2.2.1 (a[i]).2.2.2.1 (a[i]).2.2.2.2.1 (a[i]).2.2.2.2.2 (show XM a[i]<=4294967296 by omega),QQ0]
    exact hk)
  (by
    apply QfH
    simp only[Qa4,Qm,QQ2])
 simp only[QQ6]at e
 simp only[QiX,decide_true,QQ3,QQ2,e,QQ0,Qn,Sum.elim_inr]
theorem QGg (a0:Int) (a1:Int):QcW w (a0,a1,a0,a1)=some true:=by
 apply QuB
 simp only[Qjd,decide_true,QQ3,QQ2,QZ,beq_self_eq_true,QQ0]
theorem QD2 (a:List Qa) (h:XP a<=4294967296):vD w (a,a)=some true:=by
 apply QrI
 simp only[XP]at h
 have e:=VQ a.length (fun i=>VX wl (a,a,(i:Int))) (.inr ())
  (fun i h1 r hk=>by
    apply Qds
    simp only[vT,ilt h1,Qk h1,Qg h1,inc h1 (show a.length<=maxLen by simp[maxLen];omega),QQ1,decide_true,QQ3,QQ2,QZ,beq_self_eq_true,QGg (a[i]).1 (a[i]).2,QQ0]
    exact hk)
  (by
    apply Qds
    simp only[vT,Qm,QQ2])
 simp only[QQ6]at e
 simp only[QgU,decide_true,QQ3,QQ2,e,QQ0,Qn,Sum.elim_inr]
theorem Qr6 (a0:List Qd) (a1:List Qa) (h:QG (a0,a1)<=4294967296):xf w (a0,a1,a0,a1)=some true:=by
 apply Qtl
 simp only[QG]at h
 simp only[QjT,QFs a0 (by omega),QD2 a1 (by omega),decide_true,QQ3,QQ2,QZ,beq_self_eq_true,QQ0]
theorem Qp6 (a:List Int) (h:QU a<=4294967296):qB w (a,a)=some true:=by
 apply QvU
 simp only[QU]at h
 have e:=VQ a.length (fun i=>qJ wl (a,a,(i:Int))) (.inr ())
  (fun i h1 r hk=>by
    apply Qhq
    simp only[QdN,ilt h1,Qk h1,Qg h1,inc h1 (show a.length<=maxLen by simp[maxLen];omega),QQ1,decide_true,QQ3,QQ2,QZ,beq_self_eq_true]
    exact hk)
  (by
    apply Qhq
    simp only[QdN,Qm,QQ2])
 simp only[QQ6]at e
 simp only[Ql1,decide_true,QQ3,QQ2,e,QQ0,Qn,Sum.elim_inr]
theorem QHR (a0:List Int) (a1:Int) (h:Zz (a0,a1)<=4294967296):Qei w (a0,a1,a0,a1)=some true:=by
 apply Qvd
 simp only[Zz]at h
 simp only[QlW,Qp6 a0 (by omega),decide_true,QQ3,QQ2,QZ,beq_self_eq_true,QQ0]
theorem QEW (a:List Qj) (h:XY a<=4294967296):vA w (a,a)=some true:=by
 apply QrT
 simp only[XY]at h
 have e:=VQ a.length (fun i=>VY wl (a,a,(i:Int))) (.inr ())
  (fun i h1 r hk=>by
    apply Qdn
    have hb:=XH QG a i h1
    simp only[vZ,ilt h1,Qk h1,Qg h1,inc h1 (show a.length<=maxLen by simp[maxLen];omega),QQ1,decide_true,QQ3,QQ2,QZ,beq_self_eq_true,Qr6 (a[i]).1 (a[i]).2 (show QG a[i]<=4294967296 by omega),QQ0]
    exact hk)
  (by
    apply Qdn
    simp only[vZ,Qm,QQ2])
 simp only[QQ6]at e
 simp only[Qhj,decide_true,QQ3,QQ2,e,QQ0,Qn,Sum.elim_inr]
theorem QIG (a0:Int) (a1:Int) (a2:List Qj) (h:Z7 (a0,a1,a2)<=4294967296):QhC w (a0,a1,a2,a0,a1,a2)=some true:=by
 apply QxF
 simp only[Z7]at h
 simp only[QmC,QEW a2 (by omega),decide_true,QQ3,QQ2,QZ,beq_self_eq_true,QQ0]
theorem QGD (a:List (List Int)) (h:Xx a<=4294967296):Qcj w (a,a)=some true:=by
 apply Qs5
 simp only[Xx]at h
 have e:=VQ a.length (fun i=>JQ wl (a,a,(i:Int))) (.inr ())
  (fun i h1 r hk=>by
    apply Qe0
    have hb:=XH QU a i h1
    simp only[QcQ,ilt h1,Qk h1,Qg h1,inc h1 (show a.length<=maxLen by simp[maxLen];omega),QQ1,decide_true,QQ3,QQ2,QZ,beq_self_eq_true,Qp6 a[i] (show QU a[i]<=4294967296 by omega),QQ0]
    exact hk)
  (by
    apply Qe0
    simp only[QcQ,Qm,QQ2])
 simp only[QQ6]at e
 simp only[Qjm,decide_true,QQ3,QQ2,e,QQ0,Qn,Sum.elim_inr]
theorem QH8 (a0:Int) (a1:Int) (a2:Bool) (a3:Int):Qev w (a0,a1,a2,a3,a0,a1,a2,a3)=some true:=by
 apply QvV
 simp only[Qk5,decide_true,QQ3,QQ2,QZ,beq_self_eq_true,QQ0]
theorem QGa (a:List Qz) (h:Z5 a<=4294967296):Qb4 w (a,a)=some true:=by
 apply QsD
 simp only[Z5]at h
 have e:=VQ a.length (fun i=>Jn wl (a,a,(i:Int))) (.inr ())
  (fun i h1 r hk=>by
    apply Qfe
    simp only[QaV,ilt h1,Qk h1,Qg h1,inc h1 (show a.length<=maxLen by simp[maxLen];omega),QQ1,decide_true,QQ3,QQ2,QZ,beq_self_eq_true,QH8 (a[i]).1 (a[i]).2.1 (a[i]).2.2.1 (a[i]).2.2.2,QQ0]
    exact hk)
  (by
    apply Qfe
    simp only[QaV,Qm,QQ2])
 simp only[QQ6]at e
 simp only[Qkk,decide_true,QQ3,QQ2,e,QQ0,Qn,Sum.elim_inr]
theorem QIi (a0:Int) (a1:Int) (a2:Int):Qep w (a0,a1,a2,a0,a1,a2)=some true:=by
 apply Qv1
 simp only[QkK,decide_true,QQ3,QQ2,QZ,beq_self_eq_true,QQ0]
theorem QGB (a:List QN) (h:Z6 a<=4294967296):Qb5 w (a,a)=some true:=by
 apply QtR
 simp only[Z6]at h
 have e:=VQ a.length (fun i=>J8 wl (a,a,(i:Int))) (.inr ())
  (fun i h1 r hk=>by
    apply Qfb
    simp only[Qc4,ilt h1,Qk h1,Qg h1,inc h1 (show a.length<=maxLen by simp[maxLen];omega),QQ1,decide_true,QQ3,QQ2,QZ,beq_self_eq_true,QIi (a[i]).1 (a[i]).2.1 (a[i]).2.2,QQ0]
    exact hk)
  (by
    apply Qfb
    simp only[Qc4,Qm,QQ2])
 simp only[QQ6]at e
 simp only[Qkf,decide_true,QQ3,QQ2,e,QQ0,Qn,Sum.elim_inr]
theorem QHL (a0:Int) (a1:Int) (a2:List Qd) (a3:List Qa) (a4:List Int) (a5:Int) (a6:Int) (a7:Int) (a8:List Qj) (a9:List Int) (a10:List Int) (a11:List (List Int)) (a12:Int) (a13:Int) (a14:List Qz) (a15:Int) (a16:Int) (a17:Int) (a18:List QN) (h:Q8 (a0,a1,a2,a3,a4,a5,a6,a7,a8,a9,a10,a11,a12,a13,a14,a15,a16,a17,a18)<=4294967296):QeX w (a0,a1,a2,a3,a4,a5,a6,a7,a8,a9,a10,a11,a12,a13,a14,a15,a16,a17,a18,a0,a1,a2,a3,a4,a5,a6,a7,a8,a9,a10,a11,a12,a13,a14,a15,a16,a17,a18)=some true:=by
 apply Qvq
 simp only[Q8]at h
 simp only[QkY,Qr6 a2 a3 (by omega),QHR a4 a5 (by omega),QIG a6 a7 a8 (by omega),Qp6 a9 (by omega),Qp6 a10 (by omega),QGD a11 (by omega),QGa a14 (by omega),QGB a18 (by omega),decide_true,QQ3,QQ2,QZ,beq_self_eq_true,QQ0]
theorem QFx (a:List Qb) (h:X0 a<=4294967296):QcZ w (a,a)=some true:=by
 apply QsK
 simp only[X0]at h
 have e:=VQ a.length (fun i=>JZ wl (a,a,(i:Int))) (.inr ())
  (fun i h1 r hk=>by
    apply Qe3
    have hb:=XH Q8 a i h1
    simp only[QaG,ilt h1,Qk h1,Qg h1,inc h1 (show a.length<=maxLen by simp[maxLen];omega),QQ1,decide_true,QQ3,QQ2,QZ,beq_self_eq_true,QHL (a[i]).1 (a[i]).2.1 (a[i]).2.2.1 (a[i]).2.2.2.1 (a[i]).2.2.2.2.1 (a[i]).2.2.2.2.2.1 (a[i]).2.2.2.2.2.2.1 (a[i]).2.2.2.2.2.2.2.1 (a[i]).2.2.2.2.2.2.2.2.1 (a[i]).2.2.2.2.2.2.2.2.2.1 (a[i]).2.2.2.2.2.2.2.2.2.2.1 (a[i]).2.2.2.2.2.2.2.2.2.2.2.1 (a[i]).2.2.2.2.2.2.2.2.2.2.2.2.1 (a[i]).2.2.2.2.2.2.2.2.2.2.2.2.2.1 (a[i]).2.2.2.2.2.2.2.2.2.2.2.2.2.2.1 (a[i]).2.2.2.2.2.2.2.2.2.2.2.2.2.2.2.1 (a[i]).2.2.2.2.2.2.2.2.2.2.2.2.2.2.2.2.1 (a[i]).2.2.2.2.2.2.2.2.2.2.2.2.2.2.2.2.2.1 (a[i]).2.2.2.2.2.2.2.2.2.2.2.2.2.2.2.2.2.2 (show Q8 a[i]<=4294967296 by omega),QQ0]
    exact hk)
  (by
    apply Qe3
    simp only[QaG,Qm,QQ2])
 simp only[QQ6]at e
 simp only[Qi8,decide_true,QQ3,QQ2,e,QQ0,Qn,Sum.elim_inr]
theorem QGM (a:List Int) (h:Zt a<=4294967296):Qca w (a,a)=some true:=by
 apply Qst
 simp only[Zt]at h
 have e:=VQ a.length (fun i=>JI wl (a,a,(i:Int))) (.inr ())
  (fun i h1 r hk=>by
    apply Qfk
    simp only[Qb2,ilt h1,Qk h1,Qg h1,inc h1 (show a.length<=maxLen by simp[maxLen];omega),QQ1,decide_true,QQ3,QQ2,QZ,beq_self_eq_true]
    exact hk)
  (by
    apply Qfk
    simp only[Qb2,Qm,QQ2])
 simp only[QQ6]at e
 simp only[QiC,decide_true,QQ3,QQ2,e,QQ0,Qn,Sum.elim_inr]
theorem QH3 (a0:Int) (a1:List Int) (a2:Bool) (h:Xe (a0,a1,a2)<=4294967296):Qej w (a0,a1,a2,a0,a1,a2)=some true:=by
 apply Qve
 simp only[Xe]at h
 simp only[Qkt,QGM a1 (by omega),decide_true,QQ3,QQ2,QZ,beq_self_eq_true,QQ0]
theorem QFS (a:List Qs) (h:XC a<=4294967296):Qb6 w (a,a)=some true:=by
 apply Qux
 simp only[XC]at h
 have e:=VQ a.length (fun i=>JL wl (a,a,(i:Int))) (.inr ())
  (fun i h1 r hk=>by
    apply Qf3
    have hb:=XH Xe a i h1
    simp only[QaP,ilt h1,Qk h1,Qg h1,inc h1 (show a.length<=maxLen by simp[maxLen];omega),QQ1,decide_true,QQ3,QQ2,QZ,beq_self_eq_true,QH3 (a[i]).1 (a[i]).2.1 (a[i]).2.2 (show Xe a[i]<=4294967296 by omega),QQ0]
    exact hk)
  (by
    apply Qf3
    simp only[QaP,Qm,QQ2])
 simp only[QQ6]at e
 simp only[Qjt,decide_true,QQ3,QQ2,e,QQ0,Qn,Sum.elim_inr]
theorem QH0 (a0:Int) (a1:List Qd) (a2:List Qa) (h:Xt (a0,a1,a2)<=4294967296):QeM w (a0,a1,a2,a0,a1,a2)=some true:=by
 apply Qwk
 simp only[Xt]at h
 simp only[QlT,Qr6 a1 a2 (by omega),decide_true,QQ3,QQ2,QZ,beq_self_eq_true,QQ0]
theorem QGz (a:List Qq) (h:X5 a<=4294967296):QcL w (a,a)=some true:=by
 apply QuD
 simp only[X5]at h
 have e:=VQ a.length (fun i=>Jq wl (a,a,(i:Int))) (.inr ())
  (fun i h1 r hk=>by
    apply Qf5
    have hb:=XH Xt a i h1
    simp only[QbU,ilt h1,Qk h1,Qg h1,inc h1 (show a.length<=maxLen by simp[maxLen];omega),QQ1,decide_true,QQ3,QQ2,QZ,beq_self_eq_true,QH0 (a[i]).1 (a[i]).2.1 (a[i]).2.2 (show Xt a[i]<=4294967296 by omega),QQ0]
    exact hk)
  (by
    apply Qf5
    simp only[QbU,Qm,QQ2])
 simp only[QQ6]at e
 simp only[QjV,decide_true,QQ3,QQ2,e,QQ0,Qn,Sum.elim_inr]
theorem QzB (a0:List Qb) (a1:List Qs) (a2:List Qq) (h:Xj (a0,a1,a2)<=4294967296):Kv w (a0,a1,a2,a0,a1,a2)=some true:=by
 apply Qs3
 simp only[Xj]at h
 simp only[QiJ,QFx a0 (by omega),QFS a1 (by omega),QGz a2 (by omega),decide_true,QQ3,QQ2,QZ,beq_self_eq_true,QQ0]
theorem QxG:∀(n:Nat) (k:Int) (out:ByteArray),0<=k->k<=9223372036854775807->k<10^n->ByteArray.size out+n<=100000->∃r,VO wl (k,out)=some r/\ByteArray.size r<=100000:=by
 intro n
 induction n with
 |zero=>
  intro k out h0 hm h1 h2
  have:k=0:=by omega
  subst this
  refine⟨out, ?_,by omega⟩
  apply zz
  simp only[xW,df (show¬(0:Int)<0 by omega),QQ2]
 |succ n ih=>
  intro k out h0 hm h1 h2
  by_cases hk:0<k
  ·have hd:=Int.tdiv_eq_ediv_of_nonneg (b:=10) h0
   obtain⟨r,hr,hs⟩:=ih (Int.tdiv k 10) (jg [IntKind.wrap .u8 (wR (48+Int.tmod k 10))]++out) (by omega) (by omega) (by rw[Int.pow_succ]at h1;omega) (by rw[ByteArray.size_append,QpA];simp;omega)
   refine⟨r, ?_,hs⟩
   apply zz
   simp only[xW,dt hk,QQ1,dt (show(10:Int)≠0 by omega),QpA,Qu (show(List.length [IntKind.wrap .u8 (wR (48+Int.tmod k 10))]+ByteArray.size out)*1<=140737488351232 by simp;omega)]
   rw[w64 (n:=Int.tdiv k 10) (by omega) (by omega)]
   exact hr
  ·have:k=0:=by omega
   subst this
   refine⟨out, ?_,by omega⟩
   apply zz
   simp only[xW,df (show¬(0:Int)<0 by omega),QQ2]
noncomputable def QxW (k:Int):ByteArray:=(K5 w k).getD ByteArray.empty
theorem Qrv (k:Int) (h0:0<k) (hm:k<=9223372036854775807):K5 w k=some (QxW k):=by
 obtain⟨r,hr,hs⟩:=QxG 30 k (⟨#[]⟩:ByteArray) (by omega) hm (by omega) (by show 0+30<=100000;omega)
 have:K5 w k=some ((⟨#[109]⟩:ByteArray)++r):=by
  apply Qsl
  have h1:ByteArray.size (⟨#[109]⟩:ByteArray)=1:=rfl
  simp only[QgZ,df (show¬k<=0 by omega),QQ2,hr,QQ0,Qu (show(ByteArray.size (⟨#[109]⟩:ByteArray)+ByteArray.size r)*1<=140737488351232 by omega),QQ1]
 rw[QxW,this];rfl
noncomputable def Yy (x:Qd) (n:Int):Qd:=(n,(n+1),((n+1)+1),(((n+1)+1)+1),((((n+1)+1)+1)+1),QxW (((((n+1)+1)+1)+1)+1))
def Qy (x:Qd):Nat:=6
theorem QAy (x:Qd):Qy x<=64*(XM x+1):=by
 simp only[Qy,V1,XM];omega
theorem Qoo (a:List Qd):Qi Qy a<=64*XV a:=by
 have h:=QdW Qy XM (fun x=>QAy x) a
 simp only[XV];omega
theorem Qob (a:List Qd) (k:Int) (hk:0<k) (hs:k+((Qi Qy a:Nat):Int)<=1152921504606846976) (h:XV a<=4294967296):Vw w (a,k)=some (k+((Qi Qy a:Nat):Int),Qw Yy Qy a k):=by
 apply QqS
 simp only[XV]at h
 have e:=Kx Yy Qy a (fun k i ys=>YG wl (k,(i:Int),ys)) (fun k ys=>(k,ys)) 1152921504606846976
  (fun k i ys h1 r hy hm h0 hB hk=>by
    apply QbI
    have hb:=Kc XM hm
    simp only[Qy]at hB
    have hw0:wR (k+1)=k+1:=w64 (by omega) (by omega)
    have hw1:wR ((k+1)+1)=(k+1)+1:=w64 (by omega) (by omega)
    have hw2:wR (((k+1)+1)+1)=((k+1)+1)+1:=w64 (by omega) (by omega)
    have hw3:wR ((((k+1)+1)+1)+1)=(((k+1)+1)+1)+1:=w64 (by omega) (by omega)
    have hw4:wR (((((k+1)+1)+1)+1)+1)=((((k+1)+1)+1)+1)+1:=w64 (by omega) (by omega)
    have hw5:wR ((((((k+1)+1)+1)+1)+1)+1)=(((((k+1)+1)+1)+1)+1)+1:=w64 (by omega) (by omega)
    have ht5:=Qrv (((((k+1)+1)+1)+1)+1) (by omega) (by omega)
    simp only[jW,ilt h1,Qk h1,Qg h1,Yf h1,List.length_set,List.set_set,inc h1 (show ys.length<=maxLen by simp[maxLen];omega),QQ1,QRb,QQ0,dt (show(3:Int)≠0 by omega),hw0,hw1,hw2,hw3,hw4,hw5,ht5]
    have hk:YG wl (k+((6:Nat):Int),((i+1:Nat):Int),ys.set i (k,(k+1),((k+1)+1),(((k+1)+1)+1),((((k+1)+1)+1)+1),QxW (((((k+1)+1)+1)+1)+1)))=some r:=hk
    rw[show k+((6:Nat):Int)=((((((k+1)+1)+1)+1)+1)+1) by omega]at hk
    exact hk)
  (fun k ys hy=>by
    apply QbI
    simp only[jW,<-hy,Qm,QQ2])
  k hk hs
 simp only[QQ6]at e
 simp only[Qgn,e,QQ0]
theorem Qn7 (a:List Qd) (k:Int) (hk:0<k) (hs:k+((Qi Qy a:Nat):Int)<=1152921504606846976) (h:XV a<=4294967296):Vy w (Qw Yy Qy a k,k)=some (k+((Qi Qy a:Nat):Int)):=by
 apply QqP
 simp only[XV]at h
 have hl:(Qw Yy Qy a k).length=a.length:=X1 _ _ a k
 have e:=Ks Yy Qy a k (fun l i=>YJ wl ((Qw Yy Qy a k),l,(i:Int))) 1152921504606846976
  (fun k1 i h1 x r hx hm h0 hB hk=>by
    apply Qcz
    have hb:=Kc XM hx
    simp only[Qy]at hB
    simp only[Yy]at hm
    have hw0:wR (k1+1)=k1+1:=w64 (by omega) (by omega)
    have hw1:wR ((k1+1)+1)=(k1+1)+1:=w64 (by omega) (by omega)
    have hw2:wR (((k1+1)+1)+1)=((k1+1)+1)+1:=w64 (by omega) (by omega)
    have hw3:wR ((((k1+1)+1)+1)+1)=(((k1+1)+1)+1)+1:=w64 (by omega) (by omega)
    have hw4:wR (((((k1+1)+1)+1)+1)+1)=((((k1+1)+1)+1)+1)+1:=w64 (by omega) (by omega)
    have hw5:wR ((((((k1+1)+1)+1)+1)+1)+1)=(((((k1+1)+1)+1)+1)+1)+1:=w64 (by omega) (by omega)
    have ht5:=Qrv (((((k1+1)+1)+1)+1)+1) (by omega) (by omega)
    simp only[jG,ilt h1,Qk h1,Qg h1,hm,inc h1 (show(Qw Yy Qy a k).length<=maxLen by rw[hl];simp[maxLen];omega),QQ1,QQ2,decide_true,QQ3,QZ,beq_self_eq_true,QQ0,dt (show(3:Int)≠0 by omega),hw0,hw1,hw2,hw3,hw4,hw5,ht5]
    have hk:YJ wl ((Qw Yy Qy a k),k1+((6:Nat):Int),((i+1:Nat):Int))=some r:=hk
    rw[show k1+((6:Nat):Int)=((((((k1+1)+1)+1)+1)+1)+1) by omega]at hk
    exact hk)
  (fun l=>by
    apply Qcz
    simp only[jG,hl,Qm,QQ2])
  hk hs
 simp only[QQ6]at e
 simp only[Qge,e,QQ0,Qn,Sum.elim_inr]
noncomputable def ZM (x:Qa) (n:Int):Qa:=(n,(n+1))
def QB (x:Qa):Nat:=2
theorem Qy6 (x:Qa):QB x<=64:=by
 simp only[QB];omega
theorem Qmr (a:List Qa):Qi QB a<=64*XP a:=by
 have h:=QfA QB (fun x=>Qy6 x) a
 simp only[XP];omega
theorem Qmc (a:List Qa) (k:Int) (hk:0<k) (hs:k+((Qi QB a:Nat):Int)<=1152921504606846976) (h:XP a<=4294967296):KR w (a,k)=some (k+((Qi QB a:Nat):Int),Qw ZM QB a k):=by
 apply Qpc
 simp only[XP]at h
 have e:=Kx ZM QB a (fun k i ys=>Ya wl (k,(i:Int),ys)) (fun k ys=>(k,ys)) 1152921504606846976
  (fun k i ys h1 r hy hm h0 hB hk=>by
    apply Qaa
    simp only[QB]at hB
    have hw0:wR (k+1)=k+1:=w64 (by omega) (by omega)
    have hw1:wR ((k+1)+1)=(k+1)+1:=w64 (by omega) (by omega)
    simp only[yD,ilt h1,Qk h1,Qg h1,Yf h1,List.length_set,List.set_set,inc h1 (show ys.length<=maxLen by simp[maxLen];omega),QQ1,QRb,QQ0,dt (show(3:Int)≠0 by omega),hw0,hw1]
    have hk:Ya wl (k+((2:Nat):Int),((i+1:Nat):Int),ys.set i (k,(k+1)))=some r:=hk
    rw[show k+((2:Nat):Int)=((k+1)+1) by omega]at hk
    exact hk)
  (fun k ys hy=>by
    apply Qaa
    simp only[yD,<-hy,Qm,QQ2])
  k hk hs
 simp only[QQ6]at e
 simp only[Qdo,e,QQ0]
theorem Qmo (a:List Qa) (k:Int) (hk:0<k) (hs:k+((Qi QB a:Nat):Int)<=1152921504606846976) (h:XP a<=4294967296):KT w (Qw ZM QB a k,k)=some (k+((Qi QB a:Nat):Int)):=by
 apply QpT
 simp only[XP]at h
 have hl:(Qw ZM QB a k).length=a.length:=X1 _ _ a k
 have e:=Ks ZM QB a k (fun l i=>Ye wl ((Qw ZM QB a k),l,(i:Int))) 1152921504606846976
  (fun k1 i h1 x r hx hm h0 hB hk=>by
    apply v8
    simp only[QB]at hB
    simp only[ZM]at hm
    have hw0:wR (k1+1)=k1+1:=w64 (by omega) (by omega)
    have hw1:wR ((k1+1)+1)=(k1+1)+1:=w64 (by omega) (by omega)
    simp only[yk,ilt h1,Qk h1,Qg h1,hm,inc h1 (show(Qw ZM QB a k).length<=maxLen by rw[hl];simp[maxLen];omega),QQ1,QQ2,decide_true,QQ3,QZ,beq_self_eq_true,QQ0,dt (show(3:Int)≠0 by omega),hw0,hw1]
    have hk:Ye wl ((Qw ZM QB a k),k1+((2:Nat):Int),((i+1:Nat):Int))=some r:=hk
    rw[show k1+((2:Nat):Int)=((k1+1)+1) by omega]at hk
    exact hk)
  (fun l=>by
    apply v8
    simp only[yk,hl,Qm,QQ2])
  hk hs
 simp only[QQ6]at e
 simp only[Qdx,e,QQ0,Qn,Sum.elim_inr]
noncomputable def Vn (x:Qj) (n:Int):Qj:=(Qw Yy Qy x.1 n,Qw ZM QB x.2 (n+((Qi Qy x.1:Nat):Int)))
def Q9 (x:Qj):Nat:=Qi Qy x.1+Qi QB x.2
theorem QAc (x:Qj):Q9 x<=64*(QG x+1):=by
 have h0:=Qoo x.1
 have h1:=Qmr x.2
 simp only[Q9,QG];omega
theorem Qlc (a:List Int):Qi (fun _=>1) a<=64*QU a:=by
 have h:=QfA (fun _=>1) (fun _=>by omega) a
 simp only[QU];omega
theorem QwG (a:List Int) (k:Int) (hk:0<k) (hs:k+((Qi (fun _=>1) a:Nat):Int)<=1152921504606846976) (h:QU a<=4294967296):K8 w (a,k)=some (k+((Qi (fun _=>1) a:Nat):Int),Qw (fun _ n=>n) (fun _=>1) a k):=by
 apply Qsn
 simp only[QU]at h
 have e:=Kx (fun _ n=>n) (fun _=>1) a (fun k i ys=>Kg wl (k,(i:Int),ys)) (fun k ys=>(k,ys)) 1152921504606846976
  (fun k i ys h1 r hy hm h0 hB hk=>by
    apply Qdk
    have hw0:wR (k+1)=k+1:=w64 (by omega) (by omega)
    simp only[vV,ilt h1,Qk h1,Qg h1,Yf h1,List.length_set,List.set_set,inc h1 (show ys.length<=maxLen by simp[maxLen];omega),QQ1,QRb,QQ0,dt (show(3:Int)≠0 by omega),hw0]
    have hk:Kg wl (k+((1:Nat):Int),((i+1:Nat):Int),ys.set i k)=some r:=hk
    rw[show k+((1:Nat):Int)=(k+1) by omega]at hk
    exact hk)
  (fun k ys hy=>by
    apply Qdk
    simp only[vV,<-hy,Qm,QQ2])
  k hk hs
 simp only[QQ6]at e
 simp only[Qg8,e,QQ0]
theorem Qw5 (a:List Int) (k:Int) (hk:0<k) (hs:k+((Qi (fun _=>1) a:Nat):Int)<=1152921504606846976) (h:QU a<=4294967296):K7 w (Qw (fun _ n=>n) (fun _=>1) a k,k)=some (k+((Qi (fun _=>1) a:Nat):Int)):=by
 apply Qse
 simp only[QU]at h
 have hl:(Qw (fun _ n=>n) (fun _=>1) a k).length=a.length:=X1 _ _ a k
 have e:=Ks (fun _ n=>n) (fun _=>1) a k (fun l i=>Kd wl ((Qw (fun _ n=>n) (fun _=>1) a k),l,(i:Int))) 1152921504606846976
  (fun k1 i h1 x r hx hm h0 hB hk=>by
    apply Qdj
    have hw0:wR (k1+1)=k1+1:=w64 (by omega) (by omega)
    simp only[v7,ilt h1,Qk h1,Qg h1,hm,inc h1 (show(Qw (fun _ n=>n) (fun _=>1) a k).length<=maxLen by rw[hl];simp[maxLen];omega),QQ1,QQ2,decide_true,QQ3,QZ,beq_self_eq_true,QQ0,dt (show(3:Int)≠0 by omega),hw0]
    have hk:Kd wl ((Qw (fun _ n=>n) (fun _=>1) a k),k1+((1:Nat):Int),((i+1:Nat):Int))=some r:=hk
    rw[show k1+((1:Nat):Int)=(k1+1) by omega]at hk
    exact hk)
  (fun l=>by
    apply Qdj
    simp only[v7,hl,Qm,QQ2])
  hk hs
 simp only[QQ6]at e
 simp only[Qg1,e,QQ0,Qn,Sum.elim_inr]
theorem QBx (a:List Qj):Qi Q9 a<=64*XY a:=by
 have h:=QdW Q9 QG (fun x=>QAc x) a
 simp only[XY];omega
theorem QBB (a:List Qj) (k:Int) (hk:0<k) (hs:k+((Qi Q9 a:Nat):Int)<=1152921504606846976) (h:XY a<=4294967296):zP w (a,k)=some (k+((Qi Q9 a:Nat):Int),Qw Vn Q9 a k):=by
 apply Qpg
 simp only[XY]at h
 have e:=Kx Vn Q9 a (fun k i ys=>Z9 wl (k,(i:Int),ys)) (fun k ys=>(k,ys)) 1152921504606846976
  (fun k i ys h1 r hy hm h0 hB hk=>by
    apply Qal
    have hb:=Kc QG hm
    simp only[Q9]at hB
    simp only[QG]at hb
    simp only[yp,ilt h1,Qk h1,Qg h1,Yf h1,List.length_set,List.set_set,inc h1 (show ys.length<=maxLen by simp[maxLen];omega),QQ1,QRb,QQ0,dt (show(3:Int)≠0 by omega),Qob ((ys[i]).1) k (by omega) (by omega) (by first|omega|(simp only[XV];omega)),Qmc ((ys[i]).2) (k+((Qi Qy ((ys[i]).1):Nat):Int)) (by omega) (by omega) (by first|omega|(simp only[XP];omega))]
    have hk:Z9 wl (k+((Qi Qy ((ys[i]).1)+Qi QB ((ys[i]).2):Nat):Int),((i+1:Nat):Int),ys.set i (Qw Yy Qy ((ys[i]).1) k,Qw ZM QB ((ys[i]).2) (k+((Qi Qy ((ys[i]).1):Nat):Int))))=some r:=hk
    rw[show k+((Qi Qy ((ys[i]).1)+Qi QB ((ys[i]).2):Nat):Int)=((k+((Qi Qy ((ys[i]).1):Nat):Int))+((Qi QB ((ys[i]).2):Nat):Int)) by omega]at hk
    exact hk)
  (fun k ys hy=>by
    apply Qal
    simp only[yp,<-hy,Qm,QQ2])
  k hk hs
 simp only[QQ6]at e
 simp only[Qdv,e,QQ0]
theorem QAZ (a:List Qj) (k:Int) (hk:0<k) (hs:k+((Qi Q9 a:Nat):Int)<=1152921504606846976) (h:XY a<=4294967296):zV w (Qw Vn Q9 a k,k)=some (k+((Qi Q9 a:Nat):Int)):=by
 apply Qpj
 simp only[XY]at h
 have hl:(Qw Vn Q9 a k).length=a.length:=X1 _ _ a k
 have e:=Ks Vn Q9 a k (fun l i=>Yd wl ((Qw Vn Q9 a k),l,(i:Int))) 1152921504606846976
  (fun k1 i h1 x r hx hm h0 hB hk=>by
    apply Qav
    have hb:=Kc QG hx
    simp only[Q9]at hB
    simp only[Vn]at hm
    simp only[QG]at hb
    simp only[zX,ilt h1,Qk h1,Qg h1,hm,inc h1 (show(Qw Vn Q9 a k).length<=maxLen by rw[hl];simp[maxLen];omega),QQ1,QQ2,decide_true,QQ3,QZ,beq_self_eq_true,QQ0,dt (show(3:Int)≠0 by omega),Qn7 x.1 k1 (by omega) (by omega) (by first|omega|(simp only[XV];omega)),df (show¬((k1+((Qi Qy x.1:Nat):Int)):Int)<0 by omega),Qmo x.2 (k1+((Qi Qy x.1:Nat):Int)) (by omega) (by omega) (by first|omega|(simp only[XP];omega)),df (show¬(((k1+((Qi Qy x.1:Nat):Int))+((Qi QB x.2:Nat):Int)):Int)<0 by omega)]
    have hk:Yd wl ((Qw Vn Q9 a k),k1+((Qi Qy x.1+Qi QB x.2:Nat):Int),((i+1:Nat):Int))=some r:=hk
    rw[show k1+((Qi Qy x.1+Qi QB x.2:Nat):Int)=((k1+((Qi Qy x.1:Nat):Int))+((Qi QB x.2:Nat):Int)) by omega]at hk
    exact hk)
  (fun l=>by
    apply Qav
    simp only[zX,hl,Qm,QQ2])
  hk hs
 simp only[QQ6]at e
 simp only[Qdm,e,QQ0,Qn,Sum.elim_inr]
theorem QCx (a:List (List Int)):Qi (Qi (fun _=>1)) a<=64*Xx a:=by
 have h:=QdW (Qi (fun _=>1)) QU (fun x=>by have:=Qlc x;omega) a
 simp only[Xx];omega
theorem QCz (a:List (List Int)) (k:Int) (hk:0<k) (hs:k+((Qi (Qi (fun _=>1)) a:Nat):Int)<=1152921504606846976) (h:Xx a<=4294967296):yW w (a,k)=some (k+((Qi (Qi (fun _=>1)) a:Nat):Int),Qw (Qw (fun _ n=>n) (fun _=>1)) (Qi (fun _=>1)) a k):=by
 apply QqJ
 simp only[Xx]at h
 have e:=Kx (Qw (fun _ n=>n) (fun _=>1)) (Qi (fun _=>1)) a (fun k i ys=>YR wl (k,(i:Int),ys)) (fun k ys=>(k,ys)) 1152921504606846976
  (fun k i ys h1 r hy hm h0 hB hk=>by
    apply Qcw
    have hb:=Kc QU hm
    simp only[jU,ilt h1,Qk h1,Qg h1,Yf h1,List.length_set,List.set_set,inc h1 (show ys.length<=maxLen by simp[maxLen];omega),QQ1,QRb,QQ0,dt (show(3:Int)≠0 by omega),QwG (ys[i]) k (by omega) (by omega) (by first|omega|(simp only[QU];omega))]
    have hk:YR wl (k+((Qi (fun _=>1) (ys[i]):Nat):Int),((i+1:Nat):Int),ys.set i (Qw (fun _ n=>n) (fun _=>1) (ys[i]) k))=some r:=hk
    exact hk)
  (fun k ys hy=>by
    apply Qcw
    simp only[jU,<-hy,Qm,QQ2])
  k hk hs
 simp only[QQ6]at e
 simp only[Qfx,e,QQ0]
theorem QDE (a:List (List Int)) (k:Int) (hk:0<k) (hs:k+((Qi (Qi (fun _=>1)) a:Nat):Int)<=1152921504606846976) (h:Xx a<=4294967296):yL w (Qw (Qw (fun _ n=>n) (fun _=>1)) (Qi (fun _=>1)) a k,k)=some (k+((Qi (Qi (fun _=>1)) a:Nat):Int)):=by
 apply Qqz
 simp only[Xx]at h
 have hl:(Qw (Qw (fun _ n=>n) (fun _=>1)) (Qi (fun _=>1)) a k).length=a.length:=X1 _ _ a k
 have e:=Ks (Qw (fun _ n=>n) (fun _=>1)) (Qi (fun _=>1)) a k (fun l i=>YK wl ((Qw (Qw (fun _ n=>n) (fun _=>1)) (Qi (fun _=>1)) a k),l,(i:Int))) 1152921504606846976
  (fun k1 i h1 x r hx hm h0 hB hk=>by
    apply QaE
    have hb:=Kc QU hx
    simp only[jF,ilt h1,Qk h1,Qg h1,hm,inc h1 (show(Qw (Qw (fun _ n=>n) (fun _=>1)) (Qi (fun _=>1)) a k).length<=maxLen by rw[hl];simp[maxLen];omega),QQ1,QQ2,decide_true,QQ3,QZ,beq_self_eq_true,QQ0,dt (show(3:Int)≠0 by omega),Qw5 x k1 (by omega) (by omega) (by first|omega|(simp only[QU];omega)),df (show¬((k1+((Qi (fun _=>1) x:Nat):Int)):Int)<0 by omega)]
    have hk:YK wl ((Qw (Qw (fun _ n=>n) (fun _=>1)) (Qi (fun _=>1)) a k),k1+((Qi (fun _=>1) x:Nat):Int),((i+1:Nat):Int))=some r:=hk
    exact hk)
  (fun l=>by
    apply QaE
    simp only[jF,hl,Qm,QQ2])
  hk hs
 simp only[QQ6]at e
 simp only[QfW,e,QQ0,Qn,Sum.elim_inr]
noncomputable def qz (x:Qz) (n:Int):Qz:=(n,(n+1),decide (Int.tmod ((n+1)+1) 3=0),(((n+1)+1)+1))
def XI (x:Qz):Nat:=4
theorem QBr (x:Qz):XI x<=64:=by
 simp only[XI];omega
theorem QDM (a:List Qz):Qi XI a<=64*Z5 a:=by
 have h:=QfA XI (fun x=>QBr x) a
 simp only[Z5];omega
theorem QC1 (a:List Qz) (k:Int) (hk:0<k) (hs:k+((Qi XI a:Nat):Int)<=1152921504606846976) (h:Z5 a<=4294967296):yR w (a,k)=some (k+((Qi XI a:Nat):Int),Qw qz XI a k):=by
 apply QqU
 simp only[Z5]at h
 have e:=Kx qz XI a (fun k i ys=>YP wl (k,(i:Int),ys)) (fun k ys=>(k,ys)) 1152921504606846976
  (fun k i ys h1 r hy hm h0 hB hk=>by
    apply Qb3
    simp only[XI]at hB
    have hw0:wR (k+1)=k+1:=w64 (by omega) (by omega)
    have hw1:wR ((k+1)+1)=(k+1)+1:=w64 (by omega) (by omega)
    have hw2:wR (((k+1)+1)+1)=((k+1)+1)+1:=w64 (by omega) (by omega)
    have hw3:wR ((((k+1)+1)+1)+1)=(((k+1)+1)+1)+1:=w64 (by omega) (by omega)
    simp only[jN,ilt h1,Qk h1,Qg h1,Yf h1,List.length_set,List.set_set,inc h1 (show ys.length<=maxLen by simp[maxLen];omega),QQ1,QRb,QQ0,dt (show(3:Int)≠0 by omega),hw0,hw1,hw2,hw3]
    have hk:YP wl (k+((4:Nat):Int),((i+1:Nat):Int),ys.set i (k,(k+1),decide (Int.tmod ((k+1)+1) 3=0),(((k+1)+1)+1)))=some r:=hk
    rw[show k+((4:Nat):Int)=((((k+1)+1)+1)+1) by omega]at hk
    exact hk)
  (fun k ys hy=>by
    apply Qb3
    simp only[jN,<-hy,Qm,QQ2])
  k hk hs
 simp only[QQ6]at e
 simp only[QfT,e,QQ0]
theorem QDv (a:List Qz) (k:Int) (hk:0<k) (hs:k+((Qi XI a:Nat):Int)<=1152921504606846976) (h:Z5 a<=4294967296):jo w (Qw qz XI a k,k)=some (k+((Qi XI a:Nat):Int)):=by
 apply QqQ
 simp only[Z5]at h
 have hl:(Qw qz XI a k).length=a.length:=X1 _ _ a k
 have e:=Ks qz XI a k (fun l i=>YQ wl ((Qw qz XI a k),l,(i:Int))) 1152921504606846976
  (fun k1 i h1 x r hx hm h0 hB hk=>by
    apply Qa5
    simp only[XI]at hB
    simp only[qz]at hm
    have hw0:wR (k1+1)=k1+1:=w64 (by omega) (by omega)
    have hw1:wR ((k1+1)+1)=(k1+1)+1:=w64 (by omega) (by omega)
    have hw2:wR (((k1+1)+1)+1)=((k1+1)+1)+1:=w64 (by omega) (by omega)
    have hw3:wR ((((k1+1)+1)+1)+1)=(((k1+1)+1)+1)+1:=w64 (by omega) (by omega)
    simp only[jZ,ilt h1,Qk h1,Qg h1,hm,inc h1 (show(Qw qz XI a k).length<=maxLen by rw[hl];simp[maxLen];omega),QQ1,QQ2,decide_true,QQ3,QZ,beq_self_eq_true,QQ0,dt (show(3:Int)≠0 by omega),hw0,hw1,hw2,hw3]
    have hk:YQ wl ((Qw qz XI a k),k1+((4:Nat):Int),((i+1:Nat):Int))=some r:=hk
    rw[show k1+((4:Nat):Int)=((((k1+1)+1)+1)+1) by omega]at hk
    exact hk)
  (fun l=>by
    apply Qa5
    simp only[jZ,hl,Qm,QQ2])
  hk hs
 simp only[QQ6]at e
 simp only[Qgj,e,QQ0,Qn,Sum.elim_inr]
noncomputable def qu (x:QN) (n:Int):QN:=(n,(n+1),((n+1)+1))
def X3 (x:QN):Nat:=3
theorem QBq (x:QN):X3 x<=64:=by
 simp only[X3];omega
theorem QCr (a:List QN):Qi X3 a<=64*Z6 a:=by
 have h:=QfA X3 (fun x=>QBq x) a
 simp only[Z6];omega
theorem QC6 (a:List QN) (k:Int) (hk:0<k) (hs:k+((Qi X3 a:Nat):Int)<=1152921504606846976) (h:Z6 a<=4294967296):jq w (a,k)=some (k+((Qi X3 a:Nat):Int),Qw qu X3 a k):=by
 apply QqW
 simp only[Z6]at h
 have e:=Kx qu X3 a (fun k i ys=>YW wl (k,(i:Int),ys)) (fun k ys=>(k,ys)) 1152921504606846976
  (fun k i ys h1 r hy hm h0 hB hk=>by
    apply QcV
    simp only[X3]at hB
    have hw0:wR (k+1)=k+1:=w64 (by omega) (by omega)
    have hw1:wR ((k+1)+1)=(k+1)+1:=w64 (by omega) (by omega)
    have hw2:wR (((k+1)+1)+1)=((k+1)+1)+1:=w64 (by omega) (by omega)
    simp only[jV,ilt h1,Qk h1,Qg h1,Yf h1,List.length_set,List.set_set,inc h1 (show ys.length<=maxLen by simp[maxLen];omega),QQ1,QRb,QQ0,dt (show(3:Int)≠0 by omega),hw0,hw1,hw2]
    have hk:YW wl (k+((3:Nat):Int),((i+1:Nat):Int),ys.set i (k,(k+1),((k+1)+1)))=some r:=hk
    rw[show k+((3:Nat):Int)=(((k+1)+1)+1) by omega]at hk
    exact hk)
  (fun k ys hy=>by
    apply QcV
    simp only[jV,<-hy,Qm,QQ2])
  k hk hs
 simp only[QQ6]at e
 simp only[QfX,e,QQ0]
theorem QC2 (a:List QN) (k:Int) (hk:0<k) (hs:k+((Qi X3 a:Nat):Int)<=1152921504606846976) (h:Z6 a<=4294967296):yV w (Qw qu X3 a k,k)=some (k+((Qi X3 a:Nat):Int)):=by
 apply QqO
 simp only[Z6]at h
 have hl:(Qw qu X3 a k).length=a.length:=X1 _ _ a k
 have e:=Ks qu X3 a k (fun l i=>YN wl ((Qw qu X3 a k),l,(i:Int))) 1152921504606846976
  (fun k1 i h1 x r hx hm h0 hB hk=>by
    apply QcR
    simp only[X3]at hB
    simp only[qu]at hm
    have hw0:wR (k1+1)=k1+1:=w64 (by omega) (by omega)
    have hw1:wR ((k1+1)+1)=(k1+1)+1:=w64 (by omega) (by omega)
    have hw2:wR (((k1+1)+1)+1)=((k1+1)+1)+1:=w64 (by omega) (by omega)
    simp only[jK,ilt h1,Qk h1,Qg h1,hm,inc h1 (show(Qw qu X3 a k).length<=maxLen by rw[hl];simp[maxLen];omega),QQ1,QQ2,decide_true,QQ3,QZ,beq_self_eq_true,QQ0,dt (show(3:Int)≠0 by omega),hw0,hw1,hw2]
    have hk:YN wl ((Qw qu X3 a k),k1+((3:Nat):Int),((i+1:Nat):Int))=some r:=hk
    rw[show k1+((3:Nat):Int)=(((k1+1)+1)+1) by omega]at hk
    exact hk)
  (fun l=>by
    apply QcR
    simp only[jK,hl,Qm,QQ2])
  hk hs
 simp only[QQ6]at e
 simp only[Qgm,e,QQ0,Qn,Sum.elim_inr]
noncomputable def VL (x:Qb) (n:Int):Qb:=(n,(n+1),Qw Yy Qy x.2.2.1 ((n+1)+1),Qw ZM QB x.2.2.2.1 (((n+1)+1)+((Qi Qy x.2.2.1:Nat):Int)),Qw (fun _ n=>n) (fun _=>1) x.2.2.2.2.1 ((((n+1)+1)+((Qi Qy x.2.2.1:Nat):Int))+((Qi QB x.2.2.2.1:Nat):Int)),(((((n+1)+1)+((Qi Qy x.2.2.1:Nat):Int))+((Qi QB x.2.2.2.1:Nat):Int))+((Qi (fun _=>1) x.2.2.2.2.1:Nat):Int)),((((((n+1)+1)+((Qi Qy x.2.2.1:Nat):Int))+((Qi QB x.2.2.2.1:Nat):Int))+((Qi (fun _=>1) x.2.2.2.2.1:Nat):Int))+1),(((((((n+1)+1)+((Qi Qy x.2.2.1:Nat):Int))+((Qi QB x.2.2.2.1:Nat):Int))+((Qi (fun _=>1) x.2.2.2.2.1:Nat):Int))+1)+1),Qw Vn Q9 x.2.2.2.2.2.2.2.2.1 ((((((((n+1)+1)+((Qi Qy x.2.2.1:Nat):Int))+((Qi QB x.2.2.2.1:Nat):Int))+((Qi (fun _=>1) x.2.2.2.2.1:Nat):Int))+1)+1)+1),Qw (fun _ n=>n) (fun _=>1) x.2.2.2.2.2.2.2.2.2.1 (((((((((n+1)+1)+((Qi Qy x.2.2.1:Nat):Int))+((Qi QB x.2.2.2.1:Nat):Int))+((Qi (fun _=>1) x.2.2.2.2.1:Nat):Int))+1)+1)+1)+((Qi Q9 x.2.2.2.2.2.2.2.2.1:Nat):Int)),Qw (fun _ n=>n) (fun _=>1) x.2.2.2.2.2.2.2.2.2.2.1 ((((((((((n+1)+1)+((Qi Qy x.2.2.1:Nat):Int))+((Qi QB x.2.2.2.1:Nat):Int))+((Qi (fun _=>1) x.2.2.2.2.1:Nat):Int))+1)+1)+1)+((Qi Q9 x.2.2.2.2.2.2.2.2.1:Nat):Int))+((Qi (fun _=>1) x.2.2.2.2.2.2.2.2.2.1:Nat):Int)),Qw (Qw (fun _ n=>n) (fun _=>1)) (Qi (fun _=>1)) x.2.2.2.2.2.2.2.2.2.2.2.1 (((((((((((n+1)+1)+((Qi Qy x.2.2.1:Nat):Int))+((Qi QB x.2.2.2.1:Nat):Int))+((Qi (fun _=>1) x.2.2.2.2.1:Nat):Int))+1)+1)+1)+((Qi Q9 x.2.2.2.2.2.2.2.2.1:Nat):Int))+((Qi (fun _=>1) x.2.2.2.2.2.2.2.2.2.1:Nat):Int))+((Qi (fun _=>1) x.2.2.2.2.2.2.2.2.2.2.1:Nat):Int)),((((((((((((n+1)+1)+((Qi Qy x.2.2.1:Nat):Int))+((Qi QB x.2.2.2.1:Nat):Int))+((Qi (fun _=>1) x.2.2.2.2.1:Nat):Int))+1)+1)+1)+((Qi Q9 x.2.2.2.2.2.2.2.2.1:Nat):Int))+((Qi (fun _=>1) x.2.2.2.2.2.2.2.2.2.1:Nat):Int))+((Qi (fun _=>1) x.2.2.2.2.2.2.2.2.2.2.1:Nat):Int))+((Qi (Qi (fun _=>1)) x.2.2.2.2.2.2.2.2.2.2.2.1:Nat):Int)),(((((((((((((n+1)+1)+((Qi Qy x.2.2.1:Nat):Int))+((Qi QB x.2.2.2.1:Nat):Int))+((Qi (fun _=>1) x.2.2.2.2.1:Nat):Int))+1)+1)+1)+((Qi Q9 x.2.2.2.2.2.2.2.2.1:Nat):Int))+((Qi (fun _=>1) x.2.2.2.2.2.2.2.2.2.1:Nat):Int))+((Qi (fun _=>1) x.2.2.2.2.2.2.2.2.2.2.1:Nat):Int))+((Qi (Qi (fun _=>1)) x.2.2.2.2.2.2.2.2.2.2.2.1:Nat):Int))+1),Qw qz XI x.2.2.2.2.2.2.2.2.2.2.2.2.2.2.1 ((((((((((((((n+1)+1)+((Qi Qy x.2.2.1:Nat):Int))+((Qi QB x.2.2.2.1:Nat):Int))+((Qi (fun _=>1) x.2.2.2.2.1:Nat):Int))+1)+1)+1)+((Qi Q9 x.2.2.2.2.2.2.2.2.1:Nat):Int))+((Qi (fun _=>1) x.2.2.2.2.2.2.2.2.2.1:Nat):Int))+((Qi (fun _=>1) x.2.2.2.2.2.2.2.2.2.2.1:Nat):Int))+((Qi (Qi (fun _=>1)) x.2.2.2.2.2.2.2.2.2.2.2.1:Nat):Int))+1)+1),(((((((((((((((n+1)+1)+((Qi Qy x.2.2.1:Nat):Int))+((Qi QB x.2.2.2.1:Nat):Int))+((Qi (fun _=>1) x.2.2.2.2.1:Nat):Int))+1)+1)+1)+((Qi Q9 x.2.2.2.2.2.2.2.2.1:Nat):Int))+((Qi (fun _=>1) x.2.2.2.2.2.2.2.2.2.1:Nat):Int))+((Qi (fun _=>1) x.2.2.2.2.2.2.2.2.2.2.1:Nat):Int))+((Qi (Qi (fun _=>1)) x.2.2.2.2.2.2.2.2.2.2.2.1:Nat):Int))+1)+1)+((Qi XI x.2.2.2.2.2.2.2.2.2.2.2.2.2.2.1:Nat):Int)),((((((((((((((((n+1)+1)+((Qi Qy x.2.2.1:Nat):Int))+((Qi QB x.2.2.2.1:Nat):Int))+((Qi (fun _=>1) x.2.2.2.2.1:Nat):Int))+1)+1)+1)+((Qi Q9 x.2.2.2.2.2.2.2.2.1:Nat):Int))+((Qi (fun _=>1) x.2.2.2.2.2.2.2.2.2.1:Nat):Int))+((Qi (fun _=>1) x.2.2.2.2.2.2.2.2.2.2.1:Nat):Int))+((Qi (Qi (fun _=>1)) x.2.2.2.2.2.2.2.2.2.2.2.1:Nat):Int))+1)+1)+((Qi XI x.2.2.2.2.2.2.2.2.2.2.2.2.2.2.1:Nat):Int))+1),(((((((((((((((((n+1)+1)+((Qi Qy x.2.2.1:Nat):Int))+((Qi QB x.2.2.2.1:Nat):Int))+((Qi (fun _=>1) x.2.2.2.2.1:Nat):Int))+1)+1)+1)+((Qi Q9 x.2.2.2.2.2.2.2.2.1:Nat):Int))+((Qi (fun _=>1) x.2.2.2.2.2.2.2.2.2.1:Nat):Int))+((Qi (fun _=>1) x.2.2.2.2.2.2.2.2.2.2.1:Nat):Int))+((Qi (Qi (fun _=>1)) x.2.2.2.2.2.2.2.2.2.2.2.1:Nat):Int))+1)+1)+((Qi XI x.2.2.2.2.2.2.2.2.2.2.2.2.2.2.1:Nat):Int))+1)+1),Qw qu X3 x.2.2.2.2.2.2.2.2.2.2.2.2.2.2.2.2.2.2 ((((((((((((((((((n+1)+1)+((Qi Qy x.2.2.1:Nat):Int))+((Qi QB x.2.2.2.1:Nat):Int))+((Qi (fun _=>1) x.2.2.2.2.1:Nat):Int))+1)+1)+1)+((Qi Q9 x.2.2.2.2.2.2.2.2.1:Nat):Int))+((Qi (fun _=>1) x.2.2.2.2.2.2.2.2.2.1:Nat):Int))+((Qi (fun _=>1) x.2.2.2.2.2.2.2.2.2.2.1:Nat):Int))+((Qi (Qi (fun _=>1)) x.2.2.2.2.2.2.2.2.2.2.2.1:Nat):Int))+1)+1)+((Qi XI x.2.2.2.2.2.2.2.2.2.2.2.2.2.2.1:Nat):Int))+1)+1)+1))
def Q0 (x:Qb):Nat:=10+Qi Qy x.2.2.1+Qi QB x.2.2.2.1+Qi (fun _=>1) x.2.2.2.2.1+Qi Q9 x.2.2.2.2.2.2.2.2.1+Qi (fun _=>1) x.2.2.2.2.2.2.2.2.2.1+Qi (fun _=>1) x.2.2.2.2.2.2.2.2.2.2.1+Qi (Qi (fun _=>1)) x.2.2.2.2.2.2.2.2.2.2.2.1+Qi XI x.2.2.2.2.2.2.2.2.2.2.2.2.2.2.1+Qi X3 x.2.2.2.2.2.2.2.2.2.2.2.2.2.2.2.2.2.2
theorem QBe (x:Qb):Q0 x<=64*(Q8 x+1):=by
 have h0:=Qoo x.2.2.1
 have h1:=Qmr x.2.2.2.1
 have h2:=Qlc x.2.2.2.2.1
 have h3:=QBx x.2.2.2.2.2.2.2.2.1
 have h4:=Qlc x.2.2.2.2.2.2.2.2.2.1
 have h5:=Qlc x.2.2.2.2.2.2.2.2.2.2.1
 have h6:=QCx x.2.2.2.2.2.2.2.2.2.2.2.1
 have h7:=QDM x.2.2.2.2.2.2.2.2.2.2.2.2.2.2.1
 have h8:=QCr x.2.2.2.2.2.2.2.2.2.2.2.2.2.2.2.2.2.2
 simp only[Q0,Z7,Q8,QG,Zz];omega
theorem QDx (a:List Qb):Qi Q0 a<=64*X0 a:=by
 have h:=QdW Q0 Q8 (fun x=>QBe x) a
 simp only[X0];omega
set_option maxHeartbeats 4000000 in
theorem QDe (a:List Qb) (k:Int) (hk:0<k) (hs:k+((Qi Q0 a:Nat):Int)<=1152921504606846976) (h:X0 a<=4294967296):yK w (a,k)=some (k+((Qi Q0 a:Nat):Int),Qw VL Q0 a k):=by
 apply QqA
 simp only[X0]at h
 have e:=Kx VL Q0 a (fun k i ys=>YM wl (k,(i:Int),ys)) (fun k ys=>(k,ys)) 1152921504606846976
  (fun k i ys h1 r hy hm h0 hB hk=>by
    apply Qbb
    have hb:=Kc Q8 hm
    simp only[Q0]at hB
    simp only[Q8,QG,Zz,Z7]at hb
    have hw:∀n:Int,0<n->n<=2305843009213693952->wR (n+1)=n+1:=fun n h1 h2=>w64 (by omega) (by omega)
    simp (disch:=omega) only[jJ,ilt h1,Qk h1,Qg h1,Yf h1,List.length_set,List.set_set,inc h1 (show ys.length<=maxLen by simp[maxLen];omega),QQ1,QRb,QQ0,hw,Qmc,QwG,QCz,Qob,QC6,QC1,QBB]
    refine Eq.trans (congrArg (fun z=>YM wl (z,((i+1:Nat):Int),_)) ?_) hk
    simp only[Q0];omega)
  (fun k ys hy=>by
    apply Qbb
    simp only[jJ,<-hy,Qm,QQ2])
  k hk hs
 simp only[QQ6]at e
 simp only[Qfl,e,QQ0]
set_option maxHeartbeats 4000000 in
theorem QDW (a:List Qb) (k:Int) (hk:0<k) (hs:k+((Qi Q0 a:Nat):Int)<=1152921504606846976) (h:X0 a<=4294967296):jn w (Qw VL Q0 a k,k)=some (k+((Qi Q0 a:Nat):Int)):=by
 apply QqT
 simp only[X0]at h
 have hl:(Qw VL Q0 a k).length=a.length:=X1 _ _ a k
 have e:=Ks VL Q0 a k (fun l i=>YY wl ((Qw VL Q0 a k),l,(i:Int))) 1152921504606846976
  (fun k1 i h1 x r hx hm h0 hB hk=>by
    apply QcN
    have hb:=Kc Q8 hx
    simp only[Q0]at hB
    simp only[VL]at hm
    simp only[Q8,QG,Zz,Z7]at hb
    have hw:∀n:Int,0<n->n<=2305843009213693952->wR (n+1)=n+1:=fun n h1 h2=>w64 (by omega) (by omega)
    have hd:∀n:Int,0<n->decide (n<0)=false:=fun n h=>df (by omega)
    simp (disch:=omega) only[jP,ilt h1,Qk h1,Qg h1,hm,inc h1 (show(Qw VL Q0 a k).length<=maxLen by rw[hl];simp[maxLen];omega),QQ1,QQ2,decide_true,QQ3,QQ0,hw,hd,Qmo,Qw5,QDE,Qn7,QC2,QDv,QAZ]
    refine Eq.trans (congrArg (fun z=>YY wl ((Qw VL Q0 a k),z,((i+1:Nat):Int))) ?_) hk
    simp only[Q0];omega)
  (fun l=>by
    apply QcN
    simp only[jP,hl,Qm,QQ2])
  hk hs
 simp only[QQ6]at e
 simp only[QfJ,e,QQ0,Qn,Sum.elim_inr]
theorem QDg (a:List Int):Qi (fun _=>1) a<=64*Zt a:=by
 have h:=QfA (fun _=>1) (fun _=>by omega) a
 simp only[Zt];omega
theorem QCC (a:List Int) (k:Int) (hk:0<k) (hs:k+((Qi (fun _=>1) a:Nat):Int)<=1152921504606846976) (h:Zt a<=4294967296):yU w (a,k)=some (k+((Qi (fun _=>1) a:Nat):Int),Qw (fun _ n=>IntKind.wrap .u8 n) (fun _=>1) a k):=by
 apply QqG
 simp only[Zt]at h
 have e:=Kx (fun _ n=>IntKind.wrap .u8 n) (fun _=>1) a (fun k i ys=>YV wl (k,(i:Int),ys)) (fun k ys=>(k,ys)) 1152921504606846976
  (fun k i ys h1 r hy hm h0 hB hk=>by
    apply QaX
    have hw0:wR (k+1)=k+1:=w64 (by omega) (by omega)
    simp only[jT,ilt h1,Qk h1,Qg h1,Yf h1,List.length_set,List.set_set,inc h1 (show ys.length<=maxLen by simp[maxLen];omega),QQ1,QRb,QQ0,dt (show(3:Int)≠0 by omega),hw0]
    have hk:YV wl (k+((1:Nat):Int),((i+1:Nat):Int),ys.set i (IntKind.wrap .u8 k))=some r:=hk
    rw[show k+((1:Nat):Int)=(k+1) by omega]at hk
    exact hk)
  (fun k ys hy=>by
    apply QaX
    simp only[jT,<-hy,Qm,QQ2])
  k hk hs
 simp only[QQ6]at e
 simp only[Qfz,e,QQ0]
theorem QDc (a:List Int) (k:Int) (hk:0<k) (hs:k+((Qi (fun _=>1) a:Nat):Int)<=1152921504606846976) (h:Zt a<=4294967296):je w (Qw (fun _ n=>IntKind.wrap .u8 n) (fun _=>1) a k,k)=some (k+((Qi (fun _=>1) a:Nat):Int)):=by
 apply QqV
 simp only[Zt]at h
 have hl:(Qw (fun _ n=>IntKind.wrap .u8 n) (fun _=>1) a k).length=a.length:=X1 _ _ a k
 have e:=Ks (fun _ n=>IntKind.wrap .u8 n) (fun _=>1) a k (fun l i=>YL wl ((Qw (fun _ n=>IntKind.wrap .u8 n) (fun _=>1) a k),l,(i:Int))) 1152921504606846976
  (fun k1 i h1 x r hx hm h0 hB hk=>by
    apply Qcx
    have hw0:wR (k1+1)=k1+1:=w64 (by omega) (by omega)
    simp only[jI,ilt h1,Qk h1,Qg h1,hm,inc h1 (show(Qw (fun _ n=>IntKind.wrap .u8 n) (fun _=>1) a k).length<=maxLen by rw[hl];simp[maxLen];omega),QQ1,QQ2,decide_true,QQ3,QZ,beq_self_eq_true,QQ0,dt (show(3:Int)≠0 by omega),hw0]
    have hk:YL wl ((Qw (fun _ n=>IntKind.wrap .u8 n) (fun _=>1) a k),k1+((1:Nat):Int),((i+1:Nat):Int))=some r:=hk
    rw[show k1+((1:Nat):Int)=(k1+1) by omega]at hk
    exact hk)
  (fun l=>by
    apply Qcx
    simp only[jI,hl,Qm,QQ2])
  hk hs
 simp only[QQ6]at e
 simp only[Qf6,e,QQ0,Qn,Sum.elim_inr]
noncomputable def VR (x:Qs) (n:Int):Qs:=(n,Qw (fun _ n=>IntKind.wrap .u8 n) (fun _=>1) x.2.1 (n+1),decide (Int.tmod ((n+1)+((Qi (fun _=>1) x.2.1:Nat):Int)) 3=0))
def Xo (x:Qs):Nat:=2+Qi (fun _=>1) x.2.1
theorem QAU (x:Qs):Xo x<=64*(Xe x+1):=by
 have h0:=QDg x.2.1
 simp only[Xo,Xe];omega
theorem QCM (a:List Qs):Qi Xo a<=64*XC a:=by
 have h:=QdW Xo Xe (fun x=>QAU x) a
 simp only[XC];omega
theorem QCN (a:List Qs) (k:Int) (hk:0<k) (hs:k+((Qi Xo a:Nat):Int)<=1152921504606846976) (h:XC a<=4294967296):ja w (a,k)=some (k+((Qi Xo a:Nat):Int),Qw VR Xo a k):=by
 apply QqI
 simp only[XC]at h
 have e:=Kx VR Xo a (fun k i ys=>YX wl (k,(i:Int),ys)) (fun k ys=>(k,ys)) 1152921504606846976
  (fun k i ys h1 r hy hm h0 hB hk=>by
    apply QaA
    have hb:=Kc Xe hm
    simp only[Xo]at hB
    simp only[Xe]at hb
    have hw0:wR (k+1)=k+1:=w64 (by omega) (by omega)
    have hw1:wR (((k+1)+((Qi (fun _=>1) ((ys[i]).2.1):Nat):Int))+1)=((k+1)+((Qi (fun _=>1) ((ys[i]).2.1):Nat):Int))+1:=w64 (by omega) (by omega)
    simp only[jR,ilt h1,Qk h1,Qg h1,Yf h1,List.length_set,List.set_set,inc h1 (show ys.length<=maxLen by simp[maxLen];omega),QQ1,QRb,QQ0,dt (show(3:Int)≠0 by omega),hw0,hw1,QCC ((ys[i]).2.1) (k+1) (by omega) (by omega) (by first|omega|(simp only[Zt];omega))]
    have hk:YX wl (k+((2+Qi (fun _=>1) ((ys[i]).2.1):Nat):Int),((i+1:Nat):Int),ys.set i (k,Qw (fun _ n=>IntKind.wrap .u8 n) (fun _=>1) ((ys[i]).2.1) (k+1),decide (Int.tmod ((k+1)+((Qi (fun _=>1) ((ys[i]).2.1):Nat):Int)) 3=0)))=some r:=hk
    rw[show k+((2+Qi (fun _=>1) ((ys[i]).2.1):Nat):Int)=(((k+1)+((Qi (fun _=>1) ((ys[i]).2.1):Nat):Int))+1) by omega]at hk
    exact hk)
  (fun k ys hy=>by
    apply QaA
    simp only[jR,<-hy,Qm,QQ2])
  k hk hs
 simp only[QQ6]at e
 simp only[Qfj,e,QQ0]
theorem QDp (a:List Qs) (k:Int) (hk:0<k) (hs:k+((Qi Xo a:Nat):Int)<=1152921504606846976) (h:XC a<=4294967296):yT w (Qw VR Xo a k,k)=some (k+((Qi Xo a:Nat):Int)):=by
 apply QqF
 simp only[XC]at h
 have hl:(Qw VR Xo a k).length=a.length:=X1 _ _ a k
 have e:=Ks VR Xo a k (fun l i=>YT wl ((Qw VR Xo a k),l,(i:Int))) 1152921504606846976
  (fun k1 i h1 x r hx hm h0 hB hk=>by
    apply QcO
    have hb:=Kc Xe hx
    simp only[Xo]at hB
    simp only[VR]at hm
    simp only[Xe]at hb
    have hw0:wR (k1+1)=k1+1:=w64 (by omega) (by omega)
    have hw1:wR (((k1+1)+((Qi (fun _=>1) x.2.1:Nat):Int))+1)=((k1+1)+((Qi (fun _=>1) x.2.1:Nat):Int))+1:=w64 (by omega) (by omega)
    simp only[jM,ilt h1,Qk h1,Qg h1,hm,inc h1 (show(Qw VR Xo a k).length<=maxLen by rw[hl];simp[maxLen];omega),QQ1,QQ2,decide_true,QQ3,QZ,beq_self_eq_true,QQ0,dt (show(3:Int)≠0 by omega),hw0,hw1,QDc x.2.1 (k1+1) (by omega) (by omega) (by first|omega|(simp only[Zt];omega)),df (show¬(((k1+1)+((Qi (fun _=>1) x.2.1:Nat):Int)):Int)<0 by omega)]
    have hk:YT wl ((Qw VR Xo a k),k1+((2+Qi (fun _=>1) x.2.1:Nat):Int),((i+1:Nat):Int))=some r:=hk
    rw[show k1+((2+Qi (fun _=>1) x.2.1:Nat):Int)=(((k1+1)+((Qi (fun _=>1) x.2.1:Nat):Int))+1) by omega]at hk
    exact hk)
  (fun l=>by
    apply QcO
    simp only[jM,hl,Qm,QQ2])
  hk hs
 simp only[QQ6]at e
 simp only[Qgu,e,QQ0,Qn,Sum.elim_inr]
noncomputable def VV (x:Qq) (n:Int):Qq:=(n,Qw Yy Qy x.2.1 (n+1),Qw ZM QB x.2.2 ((n+1)+((Qi Qy x.2.1:Nat):Int)))
def XE (x:Qq):Nat:=1+Qi Qy x.2.1+Qi QB x.2.2
theorem QAN (x:Qq):XE x<=64*(Xt x+1):=by
 have h0:=Qoo x.2.1
 have h1:=Qmr x.2.2
 simp only[XE,Xt,QG];omega
theorem QDI (a:List Qq):Qi XE a<=64*X5 a:=by
 have h:=QdW XE Xt (fun x=>QAN x) a
 simp only[X5];omega
theorem QCK (a:List Qq) (k:Int) (hk:0<k) (hs:k+((Qi XE a:Nat):Int)<=1152921504606846976) (h:X5 a<=4294967296):yZ w (a,k)=some (k+((Qi XE a:Nat):Int),Qw VV XE a k):=by
 apply QqR
 simp only[X5]at h
 have e:=Kx VV XE a (fun k i ys=>YO wl (k,(i:Int),ys)) (fun k ys=>(k,ys)) 1152921504606846976
  (fun k i ys h1 r hy hm h0 hB hk=>by
    apply Qce
    have hb:=Kc Xt hm
    simp only[XE]at hB
    simp only[Xt,QG]at hb
    have hw0:wR (k+1)=k+1:=w64 (by omega) (by omega)
    simp only[jX,ilt h1,Qk h1,Qg h1,Yf h1,List.length_set,List.set_set,inc h1 (show ys.length<=maxLen by simp[maxLen];omega),QQ1,QRb,QQ0,dt (show(3:Int)≠0 by omega),hw0,Qob ((ys[i]).2.1) (k+1) (by omega) (by omega) (by first|omega|(simp only[XV];omega)),Qmc ((ys[i]).2.2) ((k+1)+((Qi Qy ((ys[i]).2.1):Nat):Int)) (by omega) (by omega) (by first|omega|(simp only[XP];omega))]
    have hk:YO wl (k+((1+Qi Qy ((ys[i]).2.1)+Qi QB ((ys[i]).2.2):Nat):Int),((i+1:Nat):Int),ys.set i (k,Qw Yy Qy ((ys[i]).2.1) (k+1),Qw ZM QB ((ys[i]).2.2) ((k+1)+((Qi Qy ((ys[i]).2.1):Nat):Int))))=some r:=hk
    rw[show k+((1+Qi Qy ((ys[i]).2.1)+Qi QB ((ys[i]).2.2):Nat):Int)=(((k+1)+((Qi Qy ((ys[i]).2.1):Nat):Int))+((Qi QB ((ys[i]).2.2):Nat):Int)) by omega]at hk
    exact hk)
  (fun k ys hy=>by
    apply Qce
    simp only[jX,<-hy,Qm,QQ2])
  k hk hs
 simp only[QQ6]at e
 simp only[Qgc,e,QQ0]
theorem QC5 (a:List Qq) (k:Int) (hk:0<k) (hs:k+((Qi XE a:Nat):Int)<=1152921504606846976) (h:X5 a<=4294967296):yJ w (Qw VV XE a k,k)=some (k+((Qi XE a:Nat):Int)):=by
 apply QqC
 simp only[X5]at h
 have hl:(Qw VV XE a k).length=a.length:=X1 _ _ a k
 have e:=Ks VV XE a k (fun l i=>YS wl ((Qw VV XE a k),l,(i:Int))) 1152921504606846976
  (fun k1 i h1 x r hx hm h0 hB hk=>by
    apply QbR
    have hb:=Kc Xt hx
    simp only[XE]at hB
    simp only[VV]at hm
    simp only[Xt,QG]at hb
    have hw0:wR (k1+1)=k1+1:=w64 (by omega) (by omega)
    simp only[jD,ilt h1,Qk h1,Qg h1,hm,inc h1 (show(Qw VV XE a k).length<=maxLen by rw[hl];simp[maxLen];omega),QQ1,QQ2,decide_true,QQ3,QZ,beq_self_eq_true,QQ0,dt (show(3:Int)≠0 by omega),hw0,Qn7 x.2.1 (k1+1) (by omega) (by omega) (by first|omega|(simp only[XV];omega)),df (show¬(((k1+1)+((Qi Qy x.2.1:Nat):Int)):Int)<0 by omega),Qmo x.2.2 ((k1+1)+((Qi Qy x.2.1:Nat):Int)) (by omega) (by omega) (by first|omega|(simp only[XP];omega)),df (show¬((((k1+1)+((Qi Qy x.2.1:Nat):Int))+((Qi QB x.2.2:Nat):Int)):Int)<0 by omega)]
    have hk:YS wl ((Qw VV XE a k),k1+((1+Qi Qy x.2.1+Qi QB x.2.2:Nat):Int),((i+1:Nat):Int))=some r:=hk
    rw[show k1+((1+Qi Qy x.2.1+Qi QB x.2.2:Nat):Int)=(((k1+1)+((Qi Qy x.2.1:Nat):Int))+((Qi QB x.2.2:Nat):Int)) by omega]at hk
    exact hk)
  (fun l=>by
    apply QbR
    simp only[jD,hl,Qm,QQ2])
  hk hs
 simp only[QQ6]at e
 simp only[QfN,e,QQ0,Qn,Sum.elim_inr]
theorem QCF (a0:List Qb) (a1:List Qs) (a2:List Qq) (k:Int) (hk:0<k) (hs:k+((Qi Q0 a0+Qi Xo a1+Qi XE a2:Nat):Int)<=1152921504606846976) (h:Xj (a0,a1,a2)<=4294967296):Vs w (a0,a1,a2,k)=some ((((k+((Qi Q0 a0:Nat):Int))+((Qi Xo a1:Nat):Int))+((Qi XE a2:Nat):Int)),Qw VL Q0 a0 k,Qw VR Xo a1 (k+((Qi Q0 a0:Nat):Int)),Qw VV XE a2 ((k+((Qi Q0 a0:Nat):Int))+((Qi Xo a1:Nat):Int))):=by
 apply QqH
 simp only[Xj]at h
 simp only[Qgf,QQ0,QDe a0 k (by omega) (by omega) (by first|omega|(simp only[X0];omega)),QCN a1 (k+((Qi Q0 a0:Nat):Int)) (by omega) (by omega) (by first|omega|(simp only[XC];omega)),QCK a2 ((k+((Qi Q0 a0:Nat):Int))+((Qi Xo a1:Nat):Int)) (by omega) (by omega) (by first|omega|(simp only[X5];omega))]
theorem QDN (a0:List Qb) (a1:List Qs) (a2:List Qq) (k:Int) (hk:0<k) (hs:k+((Qi Q0 a0+Qi Xo a1+Qi XE a2:Nat):Int)<=1152921504606846976) (h:Xj (a0,a1,a2)<=4294967296):Vu w (Qw VL Q0 a0 k,Qw VR Xo a1 (k+((Qi Q0 a0:Nat):Int)),Qw VV XE a2 ((k+((Qi Q0 a0:Nat):Int))+((Qi Xo a1:Nat):Int)),k)=some (((k+((Qi Q0 a0:Nat):Int))+((Qi Xo a1:Nat):Int))+((Qi XE a2:Nat):Int)):=by
 apply QqN
 simp only[Xj]at h
 simp only[Qfy,QQ0,QQ2,QDW a0 k (by omega) (by omega) (by first|omega|(simp only[X0];omega)),df (show¬((k+((Qi Q0 a0:Nat):Int)):Int)<0 by omega),QDp a1 (k+((Qi Q0 a0:Nat):Int)) (by omega) (by omega) (by first|omega|(simp only[XC];omega)),df (show¬(((k+((Qi Q0 a0:Nat):Int))+((Qi Xo a1:Nat):Int)):Int)<0 by omega),QC5 a2 ((k+((Qi Q0 a0:Nat):Int))+((Qi Xo a1:Nat):Int)) (by omega) (by omega) (by first|omega|(simp only[X5];omega)),df (show¬((((k+((Qi Q0 a0:Nat):Int))+((Qi Xo a1:Nat):Int))+((Qi XE a2:Nat):Int)):Int)<0 by omega)]
end Go.Proofs.YtjenicbpdklpbaaGreat.M
