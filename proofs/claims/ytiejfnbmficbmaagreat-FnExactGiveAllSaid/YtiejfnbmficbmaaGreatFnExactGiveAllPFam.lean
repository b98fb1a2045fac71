/- What the plain forms that FnExactGiveAll reaches come to: PFam. No conditions but those that each theorem states. -/
import Derived.Test.YtiejfnbmficbmaaGreatFnExactGiveAllPState
set_option linter.all false
namespace Go.Proofs.YtiejfnbmficbmaaGreat.M
open Go Go.Eng Go.Proofs
set_option linter.unusedVariables false
def Ji (x:XT):Nat:=ByteArray.size x.2.2.2.2
def QpK (x:XT):Prop:=ByteArray.size x.2.2.2.2<=maxLen
theorem QHL {x:XT}(h:JI Qwo x):QpK x:=h.2.2.2.2.1
theorem QJo (a0 a1 a2 a3:Int) (a4:ByteArray) (l:Int) (h0:0<=l) (hB:l<=1048576) (hf:QpK (a0,a1,a2,a3,a4)):Qd3 w (a0,a1,a2,a3,a4,l)=some (szI (Ji (a0,a1,a2,a3,a4)) l):=by
 apply QvX
 simp only[QpK]at hf
 have e:Ji (a0,a1,a2,a3,a4)=(ByteArray.size a4+0):=by simp only[Ji];omega
 rw[e]
 simp only[QkS]
 refine ya (by omega) (by omega) (hf) fun _=> ?_
 rw[w64 (by omega) (by omega)]
 exact KT (by omega)
def XI (x:Qf):Nat:=Ji (x.2.1,x.2.2.1,x.2.2.2.1,x.2.2.2.2.1,x.2.2.2.2.2)
def Qsj (x:Qf):Prop:=QpK (x.2.1,x.2.2.1,x.2.2.2.1,x.2.2.2.2.1,x.2.2.2.2.2)
theorem QJv {x:Qf}(h:JI QV x):Qsj x:=QHL ⟨h.2.1,h.2.2.1,h.2.2.2.1,h.2.2.2.2.1,h.2.2.2.2.2.1,trivial⟩
theorem QEZ (a0 a1 a2 a3 a4:Int) (a5:ByteArray) (l:Int) (h0:0<=l) (hB:l<=1048576) (hf:Qsj (a0,a1,a2,a3,a4,a5)):Qgr w (a0,a1,a2,a3,a4,a5,l)=some (szI (XI (a0,a1,a2,a3,a4,a5)) l):=by
 apply QxX
 simp only[Qsj]at hf
 have e:XI (a0,a1,a2,a3,a4,a5)=(Ji (a1,a2,a3,a4,a5)+0):=by simp only[XI];omega
 rw[e]
 simp only[QnB]
 refine ZZ (by omega) (QJo a1 a2 a3 a4 a5 _ (by omega) (by omega) (hf)) fun _=> ?_
 exact KT (by omega)
def XY (a:List Qf):Nat:=a.length+Qi XI a
def Qp5 (a:List Qf):Prop:=a.length<=maxLen/\∀x∈a,Qsj x
theorem QJ1 (a:List Qf) (l:Int) (h0:0<=l) (hB:l<=1048576) (hf:Qp5 a):Qdb w (a,l)=some (szI (XY a) l):=by
 apply Qvj
 simp only[Qk9,XY]
 refine ya h0 hB hf.1 fun h=> ?_
 have e:=QjW XI a (fun l i=>qK wl (a,l,(i:Int))) 1048576
  (fun l i h1 r h0 hB h2 hk=>by
    apply jt
    have hs:=QEZ a[i].1 a[i].2.1 a[i].2.2.1 a[i].2.2.2.1 a[i].2.2.2.2.1 a[i].2.2.2.2.2 l (by omega) (by omega) (hf.2 _ (QRf h1))
    have hs2:szI (XI a[i]) l=l - XI a[i]:=V2 h2
    simp only[yP,ilt h1,Qj h1,Qg h1,inc h1 (show a.length<=maxLen from hf.1),QQ1,hs,QQ0]
    simp only[show szI (XI (a[i].1,a[i].2.1,a[i].2.2.1,a[i].2.2.2.1,a[i].2.2.2.2.1,a[i].2.2.2.2.2)) l=l - XI a[i]from hs2,df (show¬l - (XI a[i]:Int)<0 by omega),QQ2]
    exact hk)
  (fun l i h1 h0 hB h2=>by
    apply jt
    have hs:=QEZ a[i].1 a[i].2.1 a[i].2.2.1 a[i].2.2.2.1 a[i].2.2.2.2.1 a[i].2.2.2.2.2 l (by omega) (by omega) (hf.2 _ (QRf h1))
    have hs2:szI (XI a[i]) l= -1:=K3 h2
    simp only[yP,ilt h1,Qj h1,Qg h1,QQ1,hs,QQ0]
    simp only[show szI (XI (a[i].1,a[i].2.1,a[i].2.2.1,a[i].2.2.2.1,a[i].2.2.2.2.1,a[i].2.2.2.2.2)) l= -1 from hs2,dt (show(-1:Int)<0 by omega),QQ1])
  (fun l=>by
    apply jt
    simp only[yP,Qo,QQ2])
  (l - a.length) (by omega) (by omega)
 have hl:=hf.1
 simp only[maxLen]at hl
 rw[w64 (by omega) (by omega)]
 simp only[QQ6]at e
 rw[e,QQ0,QfH]
def XL (a:List Qa):Nat:=a.length
def QmW (a:List Qa):Prop:=a.length<=maxLen
theorem QHq (a:List Qa) (l:Int) (h0:0<=l) (hB:l<=1048576) (hf:QmW a):QaU w (a,l)=some (szI (XL a) l):=by
 apply Qub
 simp only[Qi4]
 exact ya (m:=0) h0 hB hf fun h=>by rw[w64 (by omega) (by omega)];exact KT (by omega)
def QH (x:Qk):Nat:=XY x.1+XL x.2
def jr (x:Qk):Prop:=Qp5 x.1/\QmW x.2
theorem Qrb {x:Qk}(h:JI Zn x):jr x:=⟨⟨h.1.1,fun y hy=>QJv (h.1.2 y hy)⟩,h.2.1.1⟩
theorem Qp4 (a0:List Qf) (a1:List Qa) (l:Int) (h0:0<=l) (hB:l<=1048576) (hf:jr (a0,a1)):zd w (a0,a1,l)=some (szI (QH (a0,a1)) l):=by
 apply Qwp
 simp only[jr]at hf
 have e:QH (a0,a1)=(XY a0+(XL a1+0)):=by simp only[QH];omega
 rw[e]
 simp only[QlA]
 refine ZZ (by omega) (QJ1 a0 _ (by omega) (by omega) (hf.1)) fun _=> ?_
 refine ZZ (by omega) (QHq a1 _ (by omega) (by omega) (hf.2)) fun _=> ?_
 exact KT (by omega)
def QW (a:List Int):Nat:=a.length
def QfA (a:List Int):Prop:=a.length<=maxLen
theorem QoR (a:List Int) (l:Int) (h0:0<=l) (hB:l<=1048576) (hf:QfA a):qX w (a,l)=some (szI (QW a) l):=by
 apply Qzb
 simp only[QmF]
 exact ya (m:=0) h0 hB hf fun h=>by rw[w64 (by omega) (by omega)];exact KT (by omega)
def ZD (x:X3):Nat:=QW x.1
def Qpi (x:X3):Prop:=QfA x.1
theorem QIX {x:X3}(h:JI QAR x):Qpi x:=h.1.1
theorem QLY (a0:List Int) (a1 l:Int) (h0:0<=l) (hB:l<=1048576) (hf:Qpi (a0,a1)):QfY w (a0,a1,l)=some (szI (ZD (a0,a1)) l):=by
 apply Qzd
 simp only[Qpi]at hf
 have e:ZD (a0,a1)=(QW a0+0):=by simp only[ZD];omega
 rw[e]
 simp only[Qnd]
 refine ZZ (by omega) (QoR a0 _ (by omega) (by omega) (hf)) fun _=> ?_
 exact KT (by omega)
def X1 (a:List Qk):Nat:=a.length+Qi QH a
def QrN (a:List Qk):Prop:=a.length<=maxLen/\∀x∈a,jr x
theorem QHj (a:List Qk) (l:Int) (h0:0<=l) (hB:l<=1048576) (hf:QrN a):QaZ w (a,l)=some (szI (X1 a) l):=by
 apply Qul
 simp only[QiG,X1]
 refine ya h0 hB hf.1 fun h=> ?_
 have e:=QjW QH a (fun l i=>Jm wl (a,l,(i:Int))) 1048576
  (fun l i h1 r h0 hB h2 hk=>by
    apply yz
    have hs:=Qp4 a[i].1 a[i].2 l (by omega) (by omega) (hf.2 _ (QRf h1))
    have hs2:szI (QH a[i]) l=l - QH a[i]:=V2 h2
    simp only[zE,ilt h1,Qj h1,Qg h1,inc h1 (show a.length<=maxLen from hf.1),QQ1,hs,QQ0]
    simp only[show szI (QH (a[i].1,a[i].2)) l=l - QH a[i]from hs2,df (show¬l - (QH a[i]:Int)<0 by omega),QQ2]
    exact hk)
  (fun l i h1 h0 hB h2=>by
    apply yz
    have hs:=Qp4 a[i].1 a[i].2 l (by omega) (by omega) (hf.2 _ (QRf h1))
    have hs2:szI (QH a[i]) l= -1:=K3 h2
    simp only[zE,ilt h1,Qj h1,Qg h1,QQ1,hs,QQ0]
    simp only[show szI (QH (a[i].1,a[i].2)) l= -1 from hs2,dt (show(-1:Int)<0 by omega),QQ1])
  (fun l=>by
    apply yz
    simp only[zE,Qo,QQ2])
  (l - a.length) (by omega) (by omega)
 have hl:=hf.1
 simp only[maxLen]at hl
 rw[w64 (by omega) (by omega)]
 simp only[QQ6]at e
 rw[e,QQ0,QfH]
def Yl (x:Z8):Nat:=X1 x.2.2
def QrO (x:Z8):Prop:=QrN x.2.2
theorem QLD {x:Z8}(h:JI QBE x):QrO x:=⟨h.2.2.1.1,fun y hy=>Qrb (h.2.2.1.2 y hy)⟩
theorem QMm (a0 a1:Int) (a2:List Qk) (l:Int) (h0:0<=l) (hB:l<=1048576) (hf:QrO (a0,a1,a2)):QjN w (a0,a1,a2,l)=some (szI (Yl (a0,a1,a2)) l):=by
 apply QAr
 simp only[QrO]at hf
 have e:Yl (a0,a1,a2)=(X1 a2+0):=by simp only[Yl];omega
 rw[e]
 simp only[Qps]
 refine ZZ (by omega) (QHj a2 _ (by omega) (by omega) (hf)) fun _=> ?_
 exact KT (by omega)
def Xu (a:List (List Int)):Nat:=a.length+Qi QW a
def QtG (a:List (List Int)):Prop:=a.length<=maxLen/\∀x∈a,QfA x
theorem QJt (a:List (List Int)) (l:Int) (h0:0<=l) (hB:l<=1048576) (hf:QtG a):Qc8 w (a,l)=some (szI (Xu a) l):=by
 apply QvJ
 simp only[QkI,Xu]
 refine ya h0 hB hf.1 fun h=> ?_
 have e:=QjW QW a (fun l i=>qe wl (a,l,(i:Int))) 1048576
  (fun l i h1 r h0 hB h2 hk=>by
    apply jJ
    have hs:=QoR a[i] l (by omega) (by omega) (hf.2 _ (QRf h1))
    have hs2:szI (QW a[i]) l=l - QW a[i]:=V2 h2
    simp only[yT,ilt h1,Qj h1,Qg h1,inc h1 (show a.length<=maxLen from hf.1),QQ1,hs,QQ0]
    simp only[show szI (QW a[i]) l=l - QW a[i]from hs2,df (show¬l - (QW a[i]:Int)<0 by omega),QQ2]
    exact hk)
  (fun l i h1 h0 hB h2=>by
    apply jJ
    have hs:=QoR a[i] l (by omega) (by omega) (hf.2 _ (QRf h1))
    have hs2:szI (QW a[i]) l= -1:=K3 h2
    simp only[yT,ilt h1,Qj h1,Qg h1,QQ1,hs,QQ0]
    simp only[show szI (QW a[i]) l= -1 from hs2,dt (show(-1:Int)<0 by omega),QQ1])
  (fun l=>by
    apply jJ
    simp only[yT,Qo,QQ2])
  (l - a.length) (by omega) (by omega)
 have hl:=hf.1
 simp only[maxLen]at hl
 rw[w64 (by omega) (by omega)]
 simp only[QQ6]at e
 rw[e,QQ0,QfH]
def Yb (a:List QB):Nat:=a.length
def Quq (a:List QB):Prop:=a.length<=maxLen
theorem QIO (a:List QB) (l:Int) (h0:0<=l) (hB:l<=1048576) (hf:Quq a):QcL w (a,l)=some (szI (Yb a) l):=by
 apply QvN
 simp only[QkE]
 exact ya (m:=0) h0 hB hf fun h=>by rw[w64 (by omega) (by omega)];exact KT (by omega)
def Yd (a:List QR):Nat:=a.length
def Quo (a:List QR):Prop:=a.length<=maxLen
theorem QJx (a:List QR) (l:Int) (h0:0<=l) (hB:l<=1048576) (hf:Quo a):QcK w (a,l)=some (szI (Yd a) l):=by
 apply QuN
 simp only[Qmo]
 exact ya (m:=0) h0 hB hf fun h=>by rw[w64 (by omega) (by omega)];exact KT (by omega)
def Q9 (x:Qc):Nat:=QH (x.2.2.1,x.2.2.2.1)+ZD (x.2.2.2.2.1,x.2.2.2.2.2.1)+Yl (x.2.2.2.2.2.2.1,x.2.2.2.2.2.2.2.1,x.2.2.2.2.2.2.2.2.1)+QW x.2.2.2.2.2.2.2.2.2.1+QW x.2.2.2.2.2.2.2.2.2.2.1+Xu x.2.2.2.2.2.2.2.2.2.2.2.1+Yb x.2.2.2.2.2.2.2.2.2.2.2.2.2.2.1+Yd x.2.2.2.2.2.2.2.2.2.2.2.2.2.2.2.2.2.2
def Qj2 (x:Qc):Prop:=jr (x.2.2.1,x.2.2.2.1)/\Qpi (x.2.2.2.2.1,x.2.2.2.2.2.1)/\QrO (x.2.2.2.2.2.2.1,x.2.2.2.2.2.2.2.1,x.2.2.2.2.2.2.2.2.1)/\QfA x.2.2.2.2.2.2.2.2.2.1/\QfA x.2.2.2.2.2.2.2.2.2.2.1/\QtG x.2.2.2.2.2.2.2.2.2.2.2.1/\Quq x.2.2.2.2.2.2.2.2.2.2.2.2.2.2.1/\Quo x.2.2.2.2.2.2.2.2.2.2.2.2.2.2.2.2.2.2
theorem QJK {x:Qc}(h:JI Kz x):Qj2 x:=⟨Qrb ⟨h.2.2.1,h.2.2.2.1,trivial⟩,QIX ⟨h.2.2.2.2.1,h.2.2.2.2.2.1,trivial⟩,QLD ⟨h.2.2.2.2.2.2.1,h.2.2.2.2.2.2.2.1,h.2.2.2.2.2.2.2.2.1,trivial⟩,h.2.2.2.2.2.2.2.2.2.1.1,h.2.2.2.2.2.2.2.2.2.2.1.1,⟨h.2.2.2.2.2.2.2.2.2.2.2.1.1,fun y hy=>((h.2.2.2.2.2.2.2.2.2.2.2.1.2 y hy).1).1⟩,h.2.2.2.2.2.2.2.2.2.2.2.2.2.2.1.1,h.2.2.2.2.2.2.2.2.2.2.2.2.2.2.2.2.2.2.1.1⟩
theorem QEU (a0 a1:Int) (a2:List Qf) (a3:List Qa) (a4:List Int) (a5 a6 a7:Int) (a8:List Qk) (a9 a10:List Int) (a11:List (List Int)) (a12 a13:Int) (a14:List QB) (a15 a16 a17:Int) (a18:List QR) (l:Int) (h0:0<=l) (hB:l<=1048576) (hf:Qj2 (a0,a1,a2,a3,a4,a5,a6,a7,a8,a9,a10,a11,a12,a13,a14,a15,a16,a17,a18)):Qgj w (a0,a1,a2,a3,a4,a5,a6,a7,a8,a9,a10,a11,a12,a13,a14,a15,a16,a17,a18,l)=some (szI (Q9 (a0,a1,a2,a3,a4,a5,a6,a7,a8,a9,a10,a11,a12,a13,a14,a15,a16,a17,a18)) l):=by
 apply QxG
 simp only[Qj2]at hf
 have e:Q9 (a0,a1,a2,a3,a4,a5,a6,a7,a8,a9,a10,a11,a12,a13,a14,a15,a16,a17,a18)=(QH (a2,a3)+(ZD (a4,a5)+(Yl (a6,a7,a8)+(QW a9+(QW a10+(Xu a11+(Yb a14+(Yd a18+0)))))))):=by simp only[Q9];omega
 rw[e]
 simp only[QmP]
 refine ZZ (by omega) (Qp4 a2 a3 _ (by omega) (by omega) (hf.1)) fun _=> ?_
 refine ZZ (by omega) (QLY a4 a5 _ (by omega) (by omega) (hf.2.1)) fun _=> ?_
 refine ZZ (by omega) (QMm a6 a7 a8 _ (by omega) (by omega) (hf.2.2.1)) fun _=> ?_
 refine ZZ (by omega) (QoR a9 _ (by omega) (by omega) (hf.2.2.2.1)) fun _=> ?_
 refine ZZ (by omega) (QoR a10 _ (by omega) (by omega) (hf.2.2.2.2.1)) fun _=> ?_
 refine ZZ (by omega) (QJt a11 _ (by omega) (by omega) (hf.2.2.2.2.2.1)) fun _=> ?_
 refine ZZ (by omega) (QIO a14 _ (by omega) (by omega) (hf.2.2.2.2.2.2.1)) fun _=> ?_
 refine ZZ (by omega) (QJx a18 _ (by omega) (by omega) (hf.2.2.2.2.2.2.2)) fun _=> ?_
 exact KT (by omega)
def XV (a:List Qc):Nat:=a.length+Qi Q9 a
def Quu (a:List Qc):Prop:=a.length<=maxLen/\∀x∈a,Qj2 x
theorem QKd (a:List Qc) (l:Int) (h0:0<=l) (hB:l<=1048576) (hf:Quu a):Qcu w (a,l)=some (szI (XV a) l):=by
 apply Qxx
 simp only[Qlx,XV]
 refine ya h0 hB hf.1 fun h=> ?_
 have e:=QjW Q9 a (fun l i=>J6 wl (a,l,(i:Int))) 1048576
  (fun l i h1 r h0 hB h2 hk=>by
    apply jL
    have hs:=QEU a[i].1 a[i].2.1 a[i].2.2.1 a[i].2.2.2.1 a[i].2.2.2.2.1 a[i].2.2.2.2.2.1 a[i].2.2.2.2.2.2.1 a[i].2.2.2.2.2.2.2.1 a[i].2.2.2.2.2.2.2.2.1 a[i].2.2.2.2.2.2.2.2.2.1 a[i].2.2.2.2.2.2.2.2.2.2.1 a[i].2.2.2.2.2.2.2.2.2.2.2.1 a[i].2.2.2.2.2.2.2.2.2.2.2.2.1 a[i].2.2.2.2.2.2.2.2.2.2.2.2.2.1 a[i].2.2.2.2.2.2.2.2.2.2.2.2.2.2.1 a[i].2.2.2.2.2.2.2.2.2.2.2.2.2.2.2.1 a[i].2.2.2.2.2.2.2.2.2.2.2.2.2.2.2.2.1 a[i].2.2.2.2.2.2.2.2.2.2.2.2.2.2.2.2.2.1 a[i].2.2.2.2.2.2.2.2.2.2.2.2.2.2.2.2.2.2 l (by omega) (by omega) (hf.2 _ (QRf h1))
    have hs2:szI (Q9 a[i]) l=l - Q9 a[i]:=V2 h2
    simp only[jc,ilt h1,Qj h1,Qg h1,inc h1 (show a.length<=maxLen from hf.1),QQ1,hs,QQ0]
    simp only[show szI (Q9 (a[i].1,a[i].2.1,a[i].2.2.1,a[i].2.2.2.1,a[i].2.2.2.2.1,a[i].2.2.2.2.2.1,a[i].2.2.2.2.2.2.1,a[i].2.2.2.2.2.2.2.1,a[i].2.2.2.2.2.2.2.2.1,a[i].2.2.2.2.2.2.2.2.2.1,a[i].2.2.2.2.2.2.2.2.2.2.1,a[i].2.2.2.2.2.2.2.2.2.2.2.1,a[i].2.2.2.2.2.2.2.2.2.2.2.2.1,a[i].2.2.2.2.2.2.2.2.2.2.2.2.2.1,a[i].2.2.2.2.2.2.2.2.2.2.2.2.2.2.1,a[i].2.2.2.2.2.2.2.2.2.2.2.2.2.2.2.1,a[i].2.2.2.2.2.2.2.2.2.2.2.2.2.2.2.2.1,a[i].2.2.2.2.2.2.2.2.2.2.2.2.2.2.2.2.2.1,a[i].2.2.2.2.2.2.2.2.2.2.2.2.2.2.2.2.2.2)) l=l - Q9 a[i]from hs2,df (show¬l - (Q9 a[i]:Int)<0 by omega),QQ2]
    exact hk)
  (fun l i h1 h0 hB h2=>by
    apply jL
    have hs:=QEU a[i].1 a[i].2.1 a[i].2.2.1 a[i].2.2.2.1 a[i].2.2.2.2.1 a[i].2.2.2.2.2.1 a[i].2.2.2.2.2.2.1 a[i].2.2.2.2.2.2.2.1 a[i].2.2.2.2.2.2.2.2.1 a[i].2.2.2.2.2.2.2.2.2.1 a[i].2.2.2.2.2.2.2.2.2.2.1 a[i].2.2.2.2.2.2.2.2.2.2.2.1 a[i].2.2.2.2.2.2.2.2.2.2.2.2.1 a[i].2.2.2.2.2.2.2.2.2.2.2.2.2.1 a[i].2.2.2.2.2.2.2.2.2.2.2.2.2.2.1 a[i].2.2.2.2.2.2.2.2.2.2.2.2.2.2.2.1 a[i].2.2.2.2.2.2.2.2.2.2.2.2.2.2.2.2.1 a[i].2.2.2.2.2.2.2.2.2.2.2.2.2.2.2.2.2.1 a[i].2.2.2.2.2.2.2.2.2.2.2.2.2.2.2.2.2.2 l (by omega) (by omega) (hf.2 _ (QRf h1))
    have hs2:szI (Q9 a[i]) l= -1:=K3 h2
    simp only[jc,ilt h1,Qj h1,Qg h1,QQ1,hs,QQ0]
    simp only[show szI (Q9 (a[i].1,a[i].2.1,a[i].2.2.1,a[i].2.2.2.1,a[i].2.2.2.2.1,a[i].2.2.2.2.2.1,a[i].2.2.2.2.2.2.1,a[i].2.2.2.2.2.2.2.1,a[i].2.2.2.2.2.2.2.2.1,a[i].2.2.2.2.2.2.2.2.2.1,a[i].2.2.2.2.2.2.2.2.2.2.1,a[i].2.2.2.2.2.2.2.2.2.2.2.1,a[i].2.2.2.2.2.2.2.2.2.2.2.2.1,a[i].2.2.2.2.2.2.2.2.2.2.2.2.2.1,a[i].2.2.2.2.2.2.2.2.2.2.2.2.2.2.1,a[i].2.2.2.2.2.2.2.2.2.2.2.2.2.2.2.1,a[i].2.2.2.2.2.2.2.2.2.2.2.2.2.2.2.2.1,a[i].2.2.2.2.2.2.2.2.2.2.2.2.2.2.2.2.2.1,a[i].2.2.2.2.2.2.2.2.2.2.2.2.2.2.2.2.2.2)) l= -1 from hs2,dt (show(-1:Int)<0 by omega),QQ1])
  (fun l=>by
    apply jL
    simp only[jc,Qo,QQ2])
  (l - a.length) (by omega) (by omega)
 have hl:=hf.1
 simp only[maxLen]at hl
 rw[w64 (by omega) (by omega)]
 simp only[QQ6]at e
 rw[e,QQ0,QfH]
def Zy (a:List Int):Nat:=a.length
def QtE (a:List Int):Prop:=a.length<=maxLen
theorem QJE (a:List Int) (l:Int) (h0:0<=l) (hB:l<=1048576) (hf:QtE a):Qdl w (a,l)=some (szI (Zy a) l):=by
 apply Qwe
 simp only[Qke]
 exact ya (m:=0) h0 hB hf fun h=>by rw[w64 (by omega) (by omega)];exact KT (by omega)
def Xb (x:Qs):Nat:=Zy x.2.1
def Qou (x:Qs):Prop:=QtE x.2.1
theorem QJc {x:Qs}(h:JI Vf x):Qou x:=h.2.1.1
theorem QEJ (a0:Int) (a1:List Int) (a2:Bool) (l:Int) (h0:0<=l) (hB:l<=1048576) (hf:Qou (a0,a1,a2)):Qf8 w (a0,a1,a2,l)=some (szI (Xb (a0,a1,a2)) l):=by
 apply QyN
 simp only[Qou]at hf
 have e:Xb (a0,a1,a2)=(Zy a1+0):=by simp only[Xb];omega
 rw[e]
 simp only[QnN]
 refine ZZ (by omega) (QJE a1 _ (by omega) (by omega) (hf)) fun _=> ?_
 exact KT (by omega)
def XH (a:List Qs):Nat:=a.length+Qi Xb a
def Quk (a:List Qs):Prop:=a.length<=maxLen/\∀x∈a,Qou x
theorem QJj (a:List Qs) (l:Int) (h0:0<=l) (hB:l<=1048576) (hf:Quk a):Qdr w (a,l)=some (szI (XH a) l):=by
 apply QuW
 simp only[Qkb,XH]
 refine ya h0 hB hf.1 fun h=> ?_
 have e:=QjW Xb a (fun l i=>qH wl (a,l,(i:Int))) 1048576
  (fun l i h1 r h0 hB h2 hk=>by
    apply jM
    have hs:=QEJ a[i].1 a[i].2.1 a[i].2.2 l (by omega) (by omega) (hf.2 _ (QRf h1))
    have hs2:szI (Xb a[i]) l=l - Xb a[i]:=V2 h2
    simp only[yO,ilt h1,Qj h1,Qg h1,inc h1 (show a.length<=maxLen from hf.1),QQ1,hs,QQ0]
    simp only[show szI (Xb (a[i].1,a[i].2.1,a[i].2.2)) l=l - Xb a[i]from hs2,df (show¬l - (Xb a[i]:Int)<0 by omega),QQ2]
    exact hk)
  (fun l i h1 h0 hB h2=>by
    apply jM
    have hs:=QEJ a[i].1 a[i].2.1 a[i].2.2 l (by omega) (by omega) (hf.2 _ (QRf h1))
    have hs2:szI (Xb a[i]) l= -1:=K3 h2
    simp only[yO,ilt h1,Qj h1,Qg h1,QQ1,hs,QQ0]
    simp only[show szI (Xb (a[i].1,a[i].2.1,a[i].2.2)) l= -1 from hs2,dt (show(-1:Int)<0 by omega),QQ1])
  (fun l=>by
    apply jM
    simp only[yO,Qo,QQ2])
  (l - a.length) (by omega) (by omega)
 have hl:=hf.1
 simp only[maxLen]at hl
 rw[w64 (by omega) (by omega)]
 simp only[QQ6]at e
 rw[e,QQ0,QfH]
def Xn (x:Qt):Nat:=QH (x.2.1,x.2.2)
def Qpn (x:Qt):Prop:=jr (x.2.1,x.2.2)
theorem QKi {x:Qt}(h:JI Kv x):Qpn x:=Qrb ⟨h.2.1,h.2.2.1,trivial⟩
theorem QEW (a0:Int) (a1:List Qf) (a2:List Qa) (l:Int) (h0:0<=l) (hB:l<=1048576) (hf:Qpn (a0,a1,a2)):Qf5 w (a0,a1,a2,l)=some (szI (Xn (a0,a1,a2)) l):=by
 apply Qx0
 simp only[Qpn]at hf
 have e:Xn (a0,a1,a2)=(QH (a1,a2)+0):=by simp only[Xn];omega
 rw[e]
 simp only[QmQ]
 refine ZZ (by omega) (Qp4 a1 a2 _ (by omega) (by omega) (hf)) fun _=> ?_
 exact KT (by omega)
def XU (a:List Qt):Nat:=a.length+Qi Xn a
def QtO (a:List Qt):Prop:=a.length<=maxLen/\∀x∈a,Qpn x
theorem QJ8 (a:List Qt) (l:Int) (h0:0<=l) (hB:l<=1048576) (hf:QtO a):Qd4 w (a,l)=some (szI (XU a) l):=by
 apply QuT
 simp only[Qmp,XU]
 refine ya h0 hB hf.1 fun h=> ?_
 have e:=QjW Xn a (fun l i=>qp wl (a,l,(i:Int))) 1048576
  (fun l i h1 r h0 hB h2 hk=>by
    apply jF
    have hs:=QEW a[i].1 a[i].2.1 a[i].2.2 l (by omega) (by omega) (hf.2 _ (QRf h1))
    have hs2:szI (Xn a[i]) l=l - Xn a[i]:=V2 h2
    simp only[yK,ilt h1,Qj h1,Qg h1,inc h1 (show a.length<=maxLen from hf.1),QQ1,hs,QQ0]
    simp only[show szI (Xn (a[i].1,a[i].2.1,a[i].2.2)) l=l - Xn a[i]from hs2,df (show¬l - (Xn a[i]:Int)<0 by omega),QQ2]
    exact hk)
  (fun l i h1 h0 hB h2=>by
    apply jF
    have hs:=QEW a[i].1 a[i].2.1 a[i].2.2 l (by omega) (by omega) (hf.2 _ (QRf h1))
    have hs2:szI (Xn a[i]) l= -1:=K3 h2
    simp only[yK,ilt h1,Qj h1,Qg h1,QQ1,hs,QQ0]
    simp only[show szI (Xn (a[i].1,a[i].2.1,a[i].2.2)) l= -1 from hs2,dt (show(-1:Int)<0 by omega),QQ1])
  (fun l=>by
    apply jF
    simp only[yK,Qo,QQ2])
  (l - a.length) (by omega) (by omega)
 have hl:=hf.1
 simp only[maxLen]at hl
 rw[w64 (by omega) (by omega)]
 simp only[QQ6]at e
 rw[e,QQ0,QfH]
def Xl (x:ZH):Nat:=XV x.1+XH x.2.1+XU x.2.2
def QfE (x:ZH):Prop:=Quu x.1/\Quk x.2.1/\QtO x.2.2
theorem QIl {x:ZH}(h:JI QlZ x):QfE x:=⟨⟨h.1.1,fun y hy=>QJK (h.1.2 y hy)⟩,⟨h.2.1.1,fun y hy=>QJc (h.2.1.2 y hy)⟩,⟨h.2.2.1.1,fun y hy=>QKi (h.2.2.1.2 y hy)⟩⟩
theorem QJJ (a0:List Qc) (a1:List Qs) (a2:List Qt) (l:Int) (h0:0<=l) (hB:l<=1048576) (hf:QfE (a0,a1,a2)):Qdd w (a0,a1,a2,l)=some (szI (Xl (a0,a1,a2)) l):=by
 apply Qvn
 simp only[QfE]at hf
 have e:Xl (a0,a1,a2)=(XV a0+(XH a1+(XU a2+0))):=by simp only[Xl];omega
 rw[e]
 simp only[QkD]
 refine ZZ (by omega) (QKd a0 _ (by omega) (by omega) (hf.1)) fun _=> ?_
 refine ZZ (by omega) (QJj a1 _ (by omega) (by omega) (hf.2.1)) fun _=> ?_
 refine ZZ (by omega) (QJ8 a2 _ (by omega) (by omega) (hf.2.2)) fun _=> ?_
 exact KT (by omega)
theorem QJ9 (a0 a1 a2 a3:Int) (a4:ByteArray) (h:Ji (a0,a1,a2,a3,a4)<=4294967296):Qdv w (a0,a1,a2,a3,a4)=some (a0,a1,a2,a3,a4):=by
 apply Qv1
 simp only[Ji]at h
 simp only[QkP]
theorem QL2 (a0 a1 a2 a3 a4:Int) (a5:ByteArray) (h:XI (a0,a1,a2,a3,a4,a5)<=4294967296):Qgq w (a0,a1,a2,a3,a4,a5)=some (a0,a1,a2,a3,a4,a5):=by
 apply Qyx
 simp only[XI]at h
 simp only[Qni,QJ9 a1 a2 a3 a4 a5 (by omega),QQ0]
theorem QIK (a:List Qf) (h:XY a<=4294967296):Qew w a=some a:=by
 apply Qwg
 simp only[XY]at h
 have e:=Jw a (fun x=>x) (fun i out=>qs wl (a,(i:Int),out)) (fun out=>out)
  (fun i h1 out r ho hk=>by
    apply QgY
    have hb:=XG XI a i h1
    simp only[QdT,ilt h1,ho,Qj h1,Qg h1,inc h1 (show a.length<=maxLen by simp[maxLen];omega),QQ1,QRb,QL2 a[i].1 a[i].2.1 a[i].2.2.1 a[i].2.2.2.1 a[i].2.2.2.2.1 a[i].2.2.2.2.2 (show XI a[i]<=4294967296 by omega),QQ0]
    exact hk)
  (fun out ho=>by
    apply QgY
    simp only[QdT,Qo,QQ2])
  (List.replicate a.length (0,0,0,0,0,ByteArray.empty)) (by simp)
 rw[List.map_id']at e
 have hf:fits a.length 56=true:=Qu (by omega)
 simp only[QkF,QRb,hf]
 simp
 exact e
theorem QIA (a0 a1:Int):QcG w (a0,a1)=some (a0,a1):=by
 apply Qw5
 simp only[Qka]
theorem QHB (a:List Qa) (h:XL a<=4294967296):QaK w a=some a:=by
 apply QtN
 simp only[XL]at h
 have e:=Jw a (fun x=>x) (fun i out=>V6 wl (a,(i:Int),out)) (fun out=>out)
  (fun i h1 out r ho hk=>by
    apply Qe0
    simp only[Qbl,ilt h1,ho,Qj h1,Qg h1,inc h1 (show a.length<=maxLen by simp[maxLen];omega),QQ1,QRb,QIA a[i].1 a[i].2,QQ0]
    exact hk)
  (fun out ho=>by
    apply Qe0
    simp only[Qbl,Qo,QQ2])
  (List.replicate a.length (0,0)) (by simp)
 rw[List.map_id']at e
 have hf:fits a.length 16=true:=Qu (by omega)
 simp only[QiZ,QRb,hf]
 simp
 exact e
theorem Qut (a0:List Qf) (a1:List Qa) (h:QH (a0,a1)<=4294967296):xS w (a0,a1)=some (a0,a1):=by
 apply QvR
 simp only[QH]at h
 simp only[Ql4,QIK a0 (by omega),QHB a1 (by omega),QQ0]
theorem Qpq (a:List Int) (h:QW a<=4294967296):Z3 w a=some a:=by
 apply QyP
 simp only[QW]at h
 have e:=Jw a (fun x=>x) (fun i out=>xP wl (a,(i:Int),out)) (fun out=>out)
  (fun i h1 out r ho hk=>by
    apply Qjn
    simp only[QfC,ilt h1,ho,Qj h1,Qg h1,inc h1 (show a.length<=maxLen by simp[maxLen];omega),QQ1,QRb]
    exact hk)
  (fun out ho=>by
    apply Qjn
    simp only[QfC,Qo,QQ2])
  (List.replicate a.length 0) (by simp)
 rw[List.map_id']at e
 have hf:fits a.length 8=true:=Qu (by omega)
 simp only[Qnl,QRb,hf]
 simp
 exact e
theorem QL0 (a0:List Int) (a1:Int) (h:ZD (a0,a1)<=4294967296):Qgn w (a0,a1)=some (a0,a1):=by
 apply Qyj
 simp only[ZD]at h
 simp only[QmE,Qpq a0 (by omega),QQ0]
theorem QH5 (a:List Qk) (h:X1 a<=4294967296):QaR w a=some a:=by
 apply Qt6
 simp only[X1]at h
 have e:=Jw a (fun x=>x) (fun i out=>Ja wl (a,(i:Int),out)) (fun out=>out)
  (fun i h1 out r ho hk=>by
    apply Qe3
    have hb:=XG QH a i h1
    simp only[Qa5,ilt h1,ho,Qj h1,Qg h1,inc h1 (show a.length<=maxLen by simp[maxLen];omega),QQ1,QRb,Qut a[i].1 a[i].2 (show QH a[i]<=4294967296 by omega),QQ0]
    exact hk)
  (fun out ho=>by
    apply Qe3
    simp only[Qa5,Qo,QQ2])
  (List.replicate a.length ([],[])) (by simp)
 rw[List.map_id']at e
 have hf:fits a.length 48=true:=Qu (by omega)
 simp only[Qje,QRb,hf]
 simp
 exact e
theorem QMD (a0 a1:Int) (a2:List Qk) (h:Yl (a0,a1,a2)<=4294967296):QjL w (a0,a1,a2)=some (a0,a1,a2):=by
 apply QAx
 simp only[Yl]at h
 simp only[Qot,QH5 a2 (by omega),QQ0]
theorem QJk (a:List (List Int)) (h:Xu a<=4294967296):QcY w a=some a:=by
 apply Qwt
 simp only[Xu]at h
 have e:=Jw a (fun x=>x) (fun i out=>qw wl (a,(i:Int),out)) (fun out=>out)
  (fun i h1 out r ho hk=>by
    apply Qhe
    have hb:=XG QW a i h1
    simp only[QdX,ilt h1,ho,Qj h1,Qg h1,inc h1 (show a.length<=maxLen by simp[maxLen];omega),QQ1,QRb,Qpq a[i] (show QW a[i]<=4294967296 by omega),QQ0]
    exact hk)
  (fun out ho=>by
    apply Qhe
    simp only[QdX,Qo,QQ2])
  (List.replicate a.length []) (by simp)
 rw[List.map_id']at e
 have hf:fits a.length 24=true:=Qu (by omega)
 simp only[QlH,QRb,hf]
 simp
 exact e
theorem QLG (a0 a1:Int) (a2:Bool) (a3:Int):Qgf w (a0,a1,a2,a3)=some (a0,a1,a2,a3):=by
 apply QxL
 simp only[QnG]
theorem QJW (a:List QB) (h:Yb a<=4294967296):QcW w a=some a:=by
 apply QvT
 simp only[Yb]at h
 have e:=Jw a (fun x=>x) (fun i out=>qB wl (a,(i:Int),out)) (fun out=>out)
  (fun i h1 out r ho hk=>by
    apply Qhi
    simp only[Qeo,ilt h1,ho,Qj h1,Qg h1,inc h1 (show a.length<=maxLen by simp[maxLen];omega),QQ1,QRb,QLG a[i].1 a[i].2.1 a[i].2.2.1 a[i].2.2.2,QQ0]
    exact hk)
  (fun out ho=>by
    apply Qhi
    simp only[Qeo,Qo,QQ2])
  (List.replicate a.length (0,0,false,0)) (by simp)
 rw[List.map_id']at e
 have hf:fits a.length 32=true:=Qu (by omega)
 simp only[Qme,QRb,hf]
 simp
 exact e
theorem QL1 (a0 a1 a2:Int):Qgd w (a0,a1,a2)=some (a0,a1,a2):=by
 apply Qyd
 simp only[Qmy]
theorem QJT (a:List QR) (h:Yd a<=4294967296):Qb4 w a=some a:=by
 apply Qwv
 simp only[Yd]at h
 have e:=Jw a (fun x=>x) (fun i out=>qC wl (a,(i:Int),out)) (fun out=>out)
  (fun i h1 out r ho hk=>by
    apply Qif
    simp only[Qda,ilt h1,ho,Qj h1,Qg h1,inc h1 (show a.length<=maxLen by simp[maxLen];omega),QQ1,QRb,QL1 a[i].1 a[i].2.1 a[i].2.2,QQ0]
    exact hk)
  (fun out ho=>by
    apply Qif
    simp only[Qda,Qo,QQ2])
  (List.replicate a.length (0,0,0)) (by simp)
 rw[List.map_id']at e
 have hf:fits a.length 24=true:=Qu (by omega)
 simp only[QlW,QRb,hf]
 simp
 exact e
theorem QL8 (a0 a1:Int) (a2:List Qf) (a3:List Qa) (a4:List Int) (a5 a6 a7:Int) (a8:List Qk) (a9 a10:List Int) (a11:List (List Int)) (a12 a13:Int) (a14:List QB) (a15 a16 a17:Int) (a18:List QR) (h:Q9 (a0,a1,a2,a3,a4,a5,a6,a7,a8,a9,a10,a11,a12,a13,a14,a15,a16,a17,a18)<=4294967296):QfO w (a0,a1,a2,a3,a4,a5,a6,a7,a8,a9,a10,a11,a12,a13,a14,a15,a16,a17,a18)=some (a0,a1,a2,a3,a4,a5,a6,a7,a8,a9,a10,a11,a12,a13,a14,a15,a16,a17,a18):=by
 apply Qy3
 simp only[Q9]at h
 simp only[QmO,Qut a2 a3 (by omega),QL0 a4 a5 (by omega),QMD a6 a7 a8 (by omega),Qpq a9 (by omega),Qpq a10 (by omega),QJk a11 (by omega),QJW a14 (by omega),QJT a18 (by omega),QQ0]
theorem QIy (a:List Qc) (h:XV a<=4294967296):QcM w a=some a:=by
 apply QvC
 simp only[XV]at h
 have e:=Jw a (fun x=>x) (fun i out=>qu wl (a,(i:Int),out)) (fun out=>out)
  (fun i h1 out r ho hk=>by
    apply Qh8
    have hb:=XG Q9 a i h1
    simp only[QdD,ilt h1,ho,Qj h1,Qg h1,inc h1 (show a.length<=maxLen by simp[maxLen];omega),QQ1,QRb,QL8 a[i].1 a[i].2.1 a[i].2.2.1 a[i].2.2.2.1 a[i].2.2.2.2.1 a[i].2.2.2.2.2.1 a[i].2.2.2.2.2.2.1 a[i].2.2.2.2.2.2.2.1 a[i].2.2.2.2.2.2.2.2.1 a[i].2.2.2.2.2.2.2.2.2.1 a[i].2.2.2.2.2.2.2.2.2.2.1 a[i].2.2.2.2.2.2.2.2.2.2.2.1 a[i].2.2.2.2.2.2.2.2.2.2.2.2.1 a[i].2.2.2.2.2.2.2.2.2.2.2.2.2.1 a[i].2.2.2.2.2.2.2.2.2.2.2.2.2.2.1 a[i].2.2.2.2.2.2.2.2.2.2.2.2.2.2.2.1 a[i].2.2.2.2.2.2.2.2.2.2.2.2.2.2.2.2.1 a[i].2.2.2.2.2.2.2.2.2.2.2.2.2.2.2.2.2.1 a[i].2.2.2.2.2.2.2.2.2.2.2.2.2.2.2.2.2.2 (show Q9 a[i]<=4294967296 by omega),QQ0]
    exact hk)
  (fun out ho=>by
    apply Qh8
    simp only[QdD,Qo,QQ2])
  (List.replicate a.length (0,0,[],[],[],0,0,0,[],[],[],[],0,0,[],0,0,0,[])) (by simp)
 rw[List.map_id']at e
 have hf:fits a.length 296=true:=Qu (by omega)
 simp only[Qkz,QRb,hf]
 simp
 exact e
theorem QIW (a:List Int) (h:Zy a<=4294967296):Qce w a=some a:=by
 apply QwA
 simp only[Zy]at h
 have e:=Jw a (fun x=>x) (fun i out=>qn wl (a,(i:Int),out)) (fun out=>out)
  (fun i h1 out r ho hk=>by
    apply Qhm
    simp only[Qb7,ilt h1,ho,Qj h1,Qg h1,inc h1 (show a.length<=maxLen by simp[maxLen];omega),QQ1,QRb]
    exact hk)
  (fun out ho=>by
    apply Qhm
    simp only[Qb7,Qo,QQ2])
  (List.replicate a.length 0) (by simp)
 rw[List.map_id']at e
 have hf:fits a.length 1=true:=Qu (by omega)
 simp only[Qmd,QRb,hf]
 simp
 exact e
theorem QLn (a0:Int) (a1:List Int) (a2:Bool) (h:Xb (a0,a1,a2)<=4294967296):QfW w (a0,a1,a2)=some (a0,a1,a2):=by
 apply Qyw
 simp only[Xb]at h
 simp only[QmG,QIW a1 (by omega),QQ0]
theorem QJC (a:List Qs) (h:XH a<=4294967296):QdO w a=some a:=by
 apply QwX
 simp only[XH]at h
 have e:=Jw a (fun x=>x) (fun i out=>JV wl (a,(i:Int),out)) (fun out=>out)
  (fun i h1 out r ho hk=>by
    apply QhL
    have hb:=XG Xb a i h1
    simp only[QcS,ilt h1,ho,Qj h1,Qg h1,inc h1 (show a.length<=maxLen by simp[maxLen];omega),QQ1,QRb,QLn a[i].1 a[i].2.1 a[i].2.2 (show Xb a[i]<=4294967296 by omega),QQ0]
    exact hk)
  (fun out ho=>by
    apply QhL
    simp only[QcS,Qo,QQ2])
  (List.replicate a.length (0,[],false)) (by simp)
 rw[List.map_id']at e
 have hf:fits a.length 40=true:=Qu (by omega)
 simp only[QkL,QRb,hf]
 simp
 exact e
theorem QLs (a0:Int) (a1:List Qf) (a2:List Qa) (h:Xn (a0,a1,a2)<=4294967296):QfZ w (a0,a1,a2)=some (a0,a1,a2):=by
 apply Qy8
 simp only[Xn]at h
 simp only[Qnt,Qut a1 a2 (by omega),QQ0]
theorem QI4 (a:List Qt) (h:XU a<=4294967296):Qej w a=some a:=by
 apply Qxb
 simp only[XU]at h
 have e:=Jw a (fun x=>x) (fun i out=>qM wl (a,(i:Int),out)) (fun out=>out)
  (fun i h1 out r ho hk=>by
    apply QgH
    have hb:=XG Xn a i h1
    simp only[Qc0,ilt h1,ho,Qj h1,Qg h1,inc h1 (show a.length<=maxLen by simp[maxLen];omega),QQ1,QRb,QLs a[i].1 a[i].2.1 a[i].2.2 (show Xn a[i]<=4294967296 by omega),QQ0]
    exact hk)
  (fun out ho=>by
    apply QgH
    simp only[Qc0,Qo,QQ2])
  (List.replicate a.length (0,[],[])) (by simp)
 rw[List.map_id']at e
 have hf:fits a.length 56=true:=Qu (by omega)
 simp only[Qly,QRb,hf]
 simp
 exact e
theorem QJf (a0:List Qc) (a1:List Qs) (a2:List Qt) (h:Xl (a0,a1,a2)<=4294967296):Je w (a0,a1,a2)=some (a0,a1,a2):=by
 apply Qw6
 simp only[Xl]at h
 simp only[Qk4,QIy a0 (by omega),QJC a1 (by omega),QI4 a2 (by omega),QQ0]
theorem QI9 (a0 a1 a2 a3:Int) (a4:ByteArray) (h:Ji (a0,a1,a2,a3,a4)<=4294967296):QcT w (a0,a1,a2,a3,a4,a0,a1,a2,a3,a4)=some true:=by
 apply Qxv
 simp only[Ji]at h
 simp only[Qk8,decide_true,QQ3,QQ2,QY,beq_self_eq_true,QQ0]
theorem QL7 (a0 a1 a2 a3 a4:Int) (a5:ByteArray) (h:XI (a0,a1,a2,a3,a4,a5)<=4294967296):Qf4 w (a0,a1,a2,a3,a4,a5,a0,a1,a2,a3,a4,a5)=some true:=by
 apply Qyc
 simp only[XI]at h
 simp only[QmA,QI9 a1 a2 a3 a4 a5 (by omega),decide_true,QQ3,QQ2,QY,beq_self_eq_true,QQ0]
theorem QJe (a:List Qf) (h:XY a<=4294967296):QdM w (a,a)=some true:=by
 apply QwZ
 simp only[XY]at h
 have e:=Jc a.length (fun i=>qo wl (a,a,(i:Int))) (.inr ())
  (fun i h1 r hk=>by
    apply QgB
    have hb:=XG XI a i h1
    simp only[Qdw,ilt h1,Qj h1,Qg h1,inc h1 (show a.length<=maxLen by simp[maxLen];omega),QQ1,decide_true,QQ3,QQ2,QY,beq_self_eq_true,QL7 a[i].1 a[i].2.1 a[i].2.2.1 a[i].2.2.2.1 a[i].2.2.2.2.1 a[i].2.2.2.2.2 (show XI a[i]<=4294967296 by omega),QQ0]
    exact hk)
  (by
    apply QgB
    simp only[Qdw,Qo,QQ2])
 simp only[QQ6]at e
 simp only[QkN,decide_true,QQ3,QQ2,e,QQ0,Qn,QY0]
theorem QKm (a0 a1:Int):QdI w (a0,a1,a0,a1)=some true:=by
 apply QuJ
 simp only[QlC,decide_true,QQ3,QQ2,QY,beq_self_eq_true,QQ0]
theorem QHu (a:List Qa) (h:XL a<=4294967296):Qa0 w (a,a)=some true:=by
 apply QtV
 simp only[XL]at h
 have e:=Jc a.length (fun i=>Ju wl (a,a,(i:Int))) (.inr ())
  (fun i h1 r hk=>by
    apply QeO
    simp only[Qbd,ilt h1,Qj h1,Qg h1,inc h1 (show a.length<=maxLen by simp[maxLen];omega),QQ1,decide_true,QQ3,QQ2,QY,beq_self_eq_true,QKm a[i].1 a[i].2,QQ0]
    exact hk)
  (by
    apply QeO
    simp only[Qbd,Qo,QQ2])
 simp only[QQ6]at e
 simp only[Qi0,decide_true,QQ3,QQ2,e,QQ0,Qn,QY0]
theorem QuD (a0:List Qf) (a1:List Qa) (h:QH (a0,a1)<=4294967296):xY w (a0,a1,a0,a1)=some true:=by
 apply QwF
 simp only[QH]at h
 simp only[QlI,QJe a0 (by omega),QHu a1 (by omega),decide_true,QQ3,QQ2,QY,beq_self_eq_true,QQ0]
theorem QoD (a:List Int) (h:QW a<=4294967296):VS w (a,a)=some true:=by
 apply QyJ
 simp only[QW]at h
 have e:=Jc a.length (fun i=>xN wl (a,a,(i:Int))) (.inr ())
  (fun i h1 r hk=>by
    apply QiI
    simp only[Qfu,ilt h1,Qj h1,Qg h1,inc h1 (show a.length<=maxLen by simp[maxLen];omega),QQ1,decide_true,QQ3,QQ2,QY,beq_self_eq_true]
    exact hk)
  (by
    apply QiI
    simp only[Qfu,Qo,QQ2])
 simp only[QQ6]at e
 simp only[Qm1,decide_true,QQ3,QQ2,e,QQ0,Qn,QY0]
theorem QL4 (a0:List Int) (a1:Int) (h:ZD (a0,a1)<=4294967296):Qgc w (a0,a1,a0,a1)=some true:=by
 apply QyS
 simp only[ZD]at h
 simp only[Qne,QoD a0 (by omega),decide_true,QQ3,QQ2,QY,beq_self_eq_true,QQ0]
theorem QIk (a:List Qk) (h:X1 a<=4294967296):QaT w (a,a)=some true:=by
 apply Qt2
 simp only[X1]at h
 have e:=Jc a.length (fun i=>Jy wl (a,a,(i:Int))) (.inr ())
  (fun i h1 r hk=>by
    apply QeR
    have hb:=XG QH a i h1
    simp only[Qbe,ilt h1,Qj h1,Qg h1,inc h1 (show a.length<=maxLen by simp[maxLen];omega),QQ1,decide_true,QQ3,QQ2,QY,beq_self_eq_true,QuD a[i].1 a[i].2 (show QH a[i]<=4294967296 by omega),QQ0]
    exact hk)
  (by
    apply QeR
    simp only[Qbe,Qo,QQ2])
 simp only[QQ6]at e
 simp only[QiH,decide_true,QQ3,QQ2,e,QQ0,Qn,QY0]
theorem QL9 (a0 a1:Int) (a2:List Qk) (h:Yl (a0,a1,a2)<=4294967296):Qjz w (a0,a1,a2,a0,a1,a2)=some true:=by
 apply QAj
 simp only[Yl]at h
 simp only[Qo5,QIk a2 (by omega),decide_true,QQ3,QQ2,QY,beq_self_eq_true,QQ0]
theorem QJg (a:List (List Int)) (h:Xu a<=4294967296):Qdc w (a,a)=some true:=by
 apply Qw7
 simp only[Xu]at h
 have e:=Jc a.length (fun i=>qi wl (a,a,(i:Int))) (.inr ())
  (fun i h1 r hk=>by
    apply QgR
    have hb:=XG QW a i h1
    simp only[Qct,ilt h1,Qj h1,Qg h1,inc h1 (show a.length<=maxLen by simp[maxLen];omega),QQ1,decide_true,QQ3,QQ2,QY,beq_self_eq_true,QoD a[i] (show QW a[i]<=4294967296 by omega),QQ0]
    exact hk)
  (by
    apply QgR
    simp only[Qct,Qo,QQ2])
 simp only[QQ6]at e
 simp only[Qkg,decide_true,QQ3,QQ2,e,QQ0,Qn,QY0]
theorem QLH (a0 a1:Int) (a2:Bool) (a3:Int):QfX w (a0,a1,a2,a3,a0,a1,a2,a3)=some true:=by
 apply QyC
 simp only[Qnp,decide_true,QQ3,QQ2,QY,beq_self_eq_true,QQ0]
theorem QJQ (a:List QB) (h:Yb a<=4294967296):QdH w (a,a)=some true:=by
 apply Qw1
 simp only[Yb]at h
 have e:=Jc a.length (fun i=>J8 wl (a,a,(i:Int))) (.inr ())
  (fun i h1 r hk=>by
    apply QhM
    simp only[QdS,ilt h1,Qj h1,Qg h1,inc h1 (show a.length<=maxLen by simp[maxLen];omega),QQ1,decide_true,QQ3,QQ2,QY,beq_self_eq_true,QLH a[i].1 a[i].2.1 a[i].2.2.1 a[i].2.2.2,QQ0]
    exact hk)
  (by
    apply QhM
    simp only[QdS,Qo,QQ2])
 simp only[QQ6]at e
 simp only[QlS,decide_true,QQ3,QQ2,e,QQ0,Qn,QY0]
theorem QLE (a0 a1 a2:Int):QfT w (a0,a1,a2,a0,a1,a2)=some true:=by
 apply QyI
 simp only[Qno,decide_true,QQ3,QQ2,QY,beq_self_eq_true,QQ0]
theorem QIY (a:List QR) (h:Yd a<=4294967296):QcE w (a,a)=some true:=by
 apply Qxn
 simp only[Yd]at h
 have e:=Jc a.length (fun i=>qR wl (a,a,(i:Int))) (.inr ())
  (fun i h1 r hk=>by
    apply Qg2
    simp only[QeF,ilt h1,Qj h1,Qg h1,inc h1 (show a.length<=maxLen by simp[maxLen];omega),QQ1,decide_true,QQ3,QQ2,QY,beq_self_eq_true,QLE a[i].1 a[i].2.1 a[i].2.2,QQ0]
    exact hk)
  (by
    apply Qg2
    simp only[QeF,Qo,QQ2])
 simp only[QQ6]at e
 simp only[Qky,decide_true,QQ3,QQ2,e,QQ0,Qn,QY0]
theorem QLO (a0 a1:Int) (a2:List Qf) (a3:List Qa) (a4:List Int) (a5 a6 a7:Int) (a8:List Qk) (a9 a10:List Int) (a11:List (List Int)) (a12 a13:Int) (a14:List QB) (a15 a16 a17:Int) (a18:List QR) (h:Q9 (a0,a1,a2,a3,a4,a5,a6,a7,a8,a9,a10,a11,a12,a13,a14,a15,a16,a17,a18)<=4294967296):Qgb w (a0,a1,a2,a3,a4,a5,a6,a7,a8,a9,a10,a11,a12,a13,a14,a15,a16,a17,a18,a0,a1,a2,a3,a4,a5,a6,a7,a8,a9,a10,a11,a12,a13,a14,a15,a16,a17,a18)=some true:=by
 apply QxR
 simp only[Q9]at h
 simp only[Qm7,QuD a2 a3 (by omega),QL4 a4 a5 (by omega),QL9 a6 a7 a8 (by omega),QoD a9 (by omega),QoD a10 (by omega),QJg a11 (by omega),QJQ a14 (by omega),QIY a18 (by omega),decide_true,QQ3,QQ2,QY,beq_self_eq_true,QQ0]
theorem QJm (a:List Qc) (h:XV a<=4294967296):Qcc w (a,a)=some true:=by
 apply QwS
 simp only[XV]at h
 have e:=Jc a.length (fun i=>JW wl (a,a,(i:Int))) (.inr ())
  (fun i h1 r hk=>by
    apply Qhv
    have hb:=XG Q9 a i h1
    simp only[Qcf,ilt h1,Qj h1,Qg h1,inc h1 (show a.length<=maxLen by simp[maxLen];omega),QQ1,decide_true,QQ3,QQ2,QY,beq_self_eq_true,QLO a[i].1 a[i].2.1 a[i].2.2.1 a[i].2.2.2.1 a[i].2.2.2.2.1 a[i].2.2.2.2.2.1 a[i].2.2.2.2.2.2.1 a[i].2.2.2.2.2.2.2.1 a[i].2.2.2.2.2.2.2.2.1 a[i].2.2.2.2.2.2.2.2.2.1 a[i].2.2.2.2.2.2.2.2.2.2.1 a[i].2.2.2.2.2.2.2.2.2.2.2.1 a[i].2.2.2.2.2.2.2.2.2.2.2.2.1 a[i].2.2.2.2.2.2.2.2.2.2.2.2.2.1 a[i].2.2.2.2.2.2.2.2.2.2.2.2.2.2.1 a[i].2.2.2.2.2.2.2.2.2.2.2.2.2.2.2.1 a[i].2.2.2.2.2.2.2.2.2.2.2.2.2.2.2.2.1 a[i].2.2.2.2.2.2.2.2.2.2.2.2.2.2.2.2.2.1 a[i].2.2.2.2.2.2.2.2.2.2.2.2.2.2.2.2.2.2 (show Q9 a[i]<=4294967296 by omega),QQ0]
    exact hk)
  (by
    apply Qhv
    simp only[Qcf,Qo,QQ2])
 simp only[QQ6]at e
 simp only[QkG,decide_true,QQ3,QQ2,e,QQ0,Qn,QY0]
theorem QJS (a:List Int) (h:Zy a<=4294967296):Qcw w (a,a)=some true:=by
 apply Qu7
 simp only[Zy]at h
 have e:=Jc a.length (fun i=>qv wl (a,a,(i:Int))) (.inr ())
  (fun i h1 r hk=>by
    apply Qht
    simp only[Qcg,ilt h1,Qj h1,Qg h1,inc h1 (show a.length<=maxLen by simp[maxLen];omega),QQ1,decide_true,QQ3,QQ2,QY,beq_self_eq_true]
    exact hk)
  (by
    apply Qht
    simp only[Qcg,Qo,QQ2])
 simp only[QQ6]at e
 simp only[QlQ,decide_true,QQ3,QQ2,e,QQ0,Qn,QY0]
theorem QLV (a0:Int) (a1:List Int) (a2:Bool) (h:Xb (a0,a1,a2)<=4294967296):QfS w (a0,a1,a2,a0,a1,a2)=some true:=by
 apply Qys
 simp only[Xb]at h
 simp only[QnA,QJS a1 (by omega),decide_true,QQ3,QQ2,QY,beq_self_eq_true,QQ0]
theorem QIH (a:List Qs) (h:XH a<=4294967296):Qd5 w (a,a)=some true:=by
 apply QwO
 simp only[XH]at h
 have e:=Jc a.length (fun i=>qF wl (a,a,(i:Int))) (.inr ())
  (fun i h1 r hk=>by
    apply QgI
    have hb:=XG Xb a i h1
    simp only[Qdz,ilt h1,Qj h1,Qg h1,inc h1 (show a.length<=maxLen by simp[maxLen];omega),QQ1,decide_true,QQ3,QQ2,QY,beq_self_eq_true,QLV a[i].1 a[i].2.1 a[i].2.2 (show Xb a[i]<=4294967296 by omega),QQ0]
    exact hk)
  (by
    apply QgI
    simp only[Qdz,Qo,QQ2])
 simp only[QQ6]at e
 simp only[Qmj,decide_true,QQ3,QQ2,e,QQ0,Qn,QY0]
theorem QLX (a0:Int) (a1:List Qf) (a2:List Qa) (h:Xn (a0,a1,a2)<=4294967296):Qgt w (a0,a1,a2,a0,a1,a2)=some true:=by
 apply QyB
 simp only[Xn]at h
 simp only[Qms,QuD a1 a2 (by omega),decide_true,QQ3,QQ2,QY,beq_self_eq_true,QQ0]
theorem QII (a:List Qt) (h:XU a<=4294967296):Qdo w (a,a)=some true:=by
 apply QvG
 simp only[XU]at h
 have e:=Jc a.length (fun i=>JZ wl (a,a,(i:Int))) (.inr ())
  (fun i h1 r hk=>by
    apply Qhb
    have hb:=XG Xn a i h1
    simp only[Qcv,ilt h1,Qj h1,Qg h1,inc h1 (show a.length<=maxLen by simp[maxLen];omega),QQ1,decide_true,QQ3,QQ2,QY,beq_self_eq_true,QLX a[i].1 a[i].2.1 a[i].2.2 (show Xn a[i]<=4294967296 by omega),QQ0]
    exact hk)
  (by
    apply Qhb
    simp only[Qcv,Qo,QQ2])
 simp only[QQ6]at e
 simp only[QkJ,decide_true,QQ3,QQ2,e,QQ0,Qn,QY0]
theorem QCH (a0:List Qc) (a1:List Qs) (a2:List Qt) (h:Xl (a0,a1,a2)<=4294967296):KF w (a0,a1,a2,a0,a1,a2)=some true:=by
 apply QvV
 simp only[Xl]at h
 simp only[Qll,QJm a0 (by omega),QIH a1 (by omega),QII a2 (by omega),decide_true,QQ3,QQ2,QY,beq_self_eq_true,QQ0]
theorem QAl:∀(n:Nat) (k:Int) (out:ByteArray),0<=k->k<=9223372036854775807->k<10^n->ByteArray.size out+n<=100000->∃r,Jt wl (k,out)=some r/\ByteArray.size r<=100000:=by
 intro n
 induction n with
 |zero=>
  intro k out h0 hm h1 h2
  have:k=0:=by omega
  subst this
  refine⟨out, ?_,by omega⟩
  apply yF
  simp only[zP,df (show¬(0:Int)<0 by omega),QQ2]
 |succ n ih=>
  intro k out h0 hm h1 h2
  by_cases hk:0<k
  ·have hd:=QY36 (b:=10) h0
   obtain⟨r,hr,hs⟩:=ih (Int.tdiv k 10) (QM [IntKind.wrap .u8 (wR (48+Int.tmod k 10))]++out) (by omega) (by omega) (by rw[Int.pow_succ]at h1;omega) (by rw[ByteArray.size_append,QrG];simp;omega)
   refine⟨r, ?_,hs⟩
   apply yF
   simp only[zP,dt hk,QQ1,dt (show(10:Int)≠0 by omega),QrG,Qu (show(List.length [IntKind.wrap .u8 (wR (48+Int.tmod k 10))]+ByteArray.size out)*1<=140737488351232 by simp;omega)]
   rw[w64 (n:=Int.tdiv k 10) (by omega) (by omega)]
   exact hr
  ·have:k=0:=by omega
   subst this
   refine⟨out, ?_,by omega⟩
   apply yF
   simp only[zP,df (show¬(0:Int)<0 by omega),QQ2]
noncomputable def QAZ (k:Int):ByteArray:=(Vn w k).getD ByteArray.empty
theorem Qs8 (k:Int) (h0:0<k) (hm:k<=9223372036854775807):Vn w k=some (QAZ k):=by
 obtain⟨r,hr,hs⟩:=QAl 30 k (⟨#[]⟩:ByteArray) (by omega) hm (by omega) (by show 0+30<=100000;omega)
 have:Vn w k=some ((⟨#[109]⟩:ByteArray)++r):=by
  apply QtL
  have h1:ByteArray.size (⟨#[109]⟩:ByteArray)=1:=rfl
  simp only[QiP,df (show¬k<=0 by omega),QQ2,hr,QQ0,Qu (show(ByteArray.size (⟨#[109]⟩:ByteArray)+ByteArray.size r)*1<=140737488351232 by omega),QQ1]
 rw[QAZ,this];rfl
noncomputable def YJ (x:Qf) (n:Int):Qf:=(n,(n+1),((n+1)+1),(((n+1)+1)+1),((((n+1)+1)+1)+1),QAZ (((((n+1)+1)+1)+1)+1))
def Qy (x:Qf):Nat:=6
theorem QD0 (x:Qf):Qy x<=64*(XI x+1):=by
 simp only[Qy,Ji,XI];omega
theorem Qpz (a:List Qf):Qi Qy a<=64*XY a:=by
 have h:=Qff Qy XI (fun x=>QD0 x) a
 simp only[XY];omega
theorem QpO (a:List Qf) (k:Int) (hk:0<k) (hs:k+((Qi Qy a:Nat):Int)<=1152921504606846976) (h:XY a<=4294967296):VZ w (a,k)=some (k+((Qi Qy a:Nat):Int),Qw YJ Qy a k):=by
 apply QsH
 simp only[XY]at h
 have e:=KB YJ Qy a (fun k i ys=>YZ wl (k,(i:Int),ys)) (fun k ys=>(k,ys)) 1152921504606846976
  (fun k i ys h1 r hy hm h0 hB hk=>by
    apply QeN
    have hb:=YI XI hm
    simp only[Qy]at hB
    have hw0:wR (k+1)=k+1:=w64 (by omega) (by omega)
    have hw1:wR ((k+1)+1)=(k+1)+1:=w64 (by omega) (by omega)
    have hw2:wR (((k+1)+1)+1)=((k+1)+1)+1:=w64 (by omega) (by omega)
    have hw3:wR ((((k+1)+1)+1)+1)=(((k+1)+1)+1)+1:=w64 (by omega) (by omega)
    have hw4:wR (((((k+1)+1)+1)+1)+1)=((((k+1)+1)+1)+1)+1:=w64 (by omega) (by omega)
    have hw5:wR ((((((k+1)+1)+1)+1)+1)+1)=(((((k+1)+1)+1)+1)+1)+1:=w64 (by omega) (by omega)
    have ht5:=Qs8 (((((k+1)+1)+1)+1)+1) (by omega) (by omega)
    simp only[v8,ilt h1,Qj h1,Qg h1,Kf h1,QY12,QY20,inc h1 (show ys.length<=maxLen by simp[maxLen];omega),QQ1,QRb,QQ0,dt (show(3:Int)≠0 by omega),hw0,hw1,hw2,hw3,hw4,hw5,ht5]
    have hk:YZ wl (k+((6:Nat):Int),((i+1:Nat):Int),ys.set i (k,(k+1),((k+1)+1),(((k+1)+1)+1),((((k+1)+1)+1)+1),QAZ (((((k+1)+1)+1)+1)+1)))=some r:=hk
    rw[show k+((6:Nat):Int)=((((((k+1)+1)+1)+1)+1)+1) by omega]at hk
    exact hk)
  (fun k ys hy=>by
    apply QeN
    simp only[v8,<-hy,Qo,QQ2])
  k hk hs
 simp only[QQ6]at e
 simp only[QgJ,e,QQ0]
theorem Qqb (a:List Qf) (k:Int) (hk:0<k) (hs:k+((Qi Qy a:Nat):Int)<=1152921504606846976) (h:XY a<=4294967296):V3 w (Qw YJ Qy a k,k)=some (k+((Qi Qy a:Nat):Int)):=by
 apply QsI
 simp only[XY]at h
 have hl:(Qw YJ Qy a k).length=a.length:=X9 _ _ a k
 have e:=KL YJ Qy a k (fun l i=>YM wl ((Qw YJ Qy a k),l,(i:Int))) 1152921504606846976
  (fun k1 i h1 x r hx hm h0 hB hk=>by
    apply Qdn
    have hb:=YI XI hx
    simp only[Qy]at hB
    simp only[YJ]at hm
    have hw0:wR (k1+1)=k1+1:=w64 (by omega) (by omega)
    have hw1:wR ((k1+1)+1)=(k1+1)+1:=w64 (by omega) (by omega)
    have hw2:wR (((k1+1)+1)+1)=((k1+1)+1)+1:=w64 (by omega) (by omega)
    have hw3:wR ((((k1+1)+1)+1)+1)=(((k1+1)+1)+1)+1:=w64 (by omega) (by omega)
    have hw4:wR (((((k1+1)+1)+1)+1)+1)=((((k1+1)+1)+1)+1)+1:=w64 (by omega) (by omega)
    have hw5:wR ((((((k1+1)+1)+1)+1)+1)+1)=(((((k1+1)+1)+1)+1)+1)+1:=w64 (by omega) (by omega)
    have ht5:=Qs8 (((((k1+1)+1)+1)+1)+1) (by omega) (by omega)
    simp only[Qad,ilt h1,Qj h1,Qg h1,hm,inc h1 (show(Qw YJ Qy a k).length<=maxLen by rw[hl];simp[maxLen];omega),QQ1,QQ2,decide_true,QQ3,QY,beq_self_eq_true,QQ0,dt (show(3:Int)≠0 by omega),hw0,hw1,hw2,hw3,hw4,hw5,ht5]
    have hk:YM wl ((Qw YJ Qy a k),k1+((6:Nat):Int),((i+1:Nat):Int))=some r:=hk
    rw[show k1+((6:Nat):Int)=((((((k1+1)+1)+1)+1)+1)+1) by omega]at hk
    exact hk)
  (fun l=>by
    apply Qdn
    simp only[Qad,hl,Qo,QQ2])
  hk hs
 simp only[QQ6]at e
 simp only[QhT,e,QQ0,Qn,QY0]
noncomputable def ZV (x:Qa) (n:Int):Qa:=(n,(n+1))
def Qz (x:Qa):Nat:=2
theorem QBN (x:Qa):Qz x<=64:=by
 simp only[Qz];omega
theorem Qoj (a:List Qa):Qi Qz a<=64*XL a:=by
 have h:=QgP Qz (fun x=>QBN x) a
 simp only[XL];omega
theorem QnY (a:List Qa) (k:Int) (hk:0<k) (hs:k+((Qi Qz a:Nat):Int)<=1152921504606846976) (h:XL a<=4294967296):KW w (a,k)=some (k+((Qi Qz a:Nat):Int),Qw ZV Qz a k):=by
 apply Qq9
 simp only[XL]at h
 have e:=KB ZV Qz a (fun k i ys=>Ye wl (k,(i:Int),ys)) (fun k ys=>(k,ys)) 1152921504606846976
  (fun k i ys h1 r hy hm h0 hB hk=>by
    apply QbD
    simp only[Qz]at hB
    have hw0:wR (k+1)=k+1:=w64 (by omega) (by omega)
    have hw1:wR ((k+1)+1)=(k+1)+1:=w64 (by omega) (by omega)
    simp only[jA,ilt h1,Qj h1,Qg h1,Kf h1,QY12,QY20,inc h1 (show ys.length<=maxLen by simp[maxLen];omega),QQ1,QRb,QQ0,dt (show(3:Int)≠0 by omega),hw0,hw1]
    have hk:Ye wl (k+((2:Nat):Int),((i+1:Nat):Int),ys.set i (k,(k+1)))=some r:=hk
    rw[show k+((2:Nat):Int)=((k+1)+1) by omega]at hk
    exact hk)
  (fun k ys hy=>by
    apply QbD
    simp only[jA,<-hy,Qo,QQ2])
  k hk hs
 simp only[QQ6]at e
 simp only[Qe7,e,QQ0]
theorem Qoi (a:List Qa) (k:Int) (hk:0<k) (hs:k+((Qi Qz a:Nat):Int)<=1152921504606846976) (h:XL a<=4294967296):K7 w (Qw ZV Qz a k,k)=some (k+((Qi Qz a:Nat):Int)):=by
 apply QrY
 simp only[XL]at h
 have hl:(Qw ZV Qz a k).length=a.length:=X9 _ _ a k
 have e:=KL ZV Qz a k (fun l i=>Yk wl ((Qw ZV Qz a k),l,(i:Int))) 1152921504606846976
  (fun k1 i h1 x r hx hm h0 hB hk=>by
    apply Qbw
    simp only[Qz]at hB
    simp only[ZV]at hm
    have hw0:wR (k1+1)=k1+1:=w64 (by omega) (by omega)
    have hw1:wR ((k1+1)+1)=(k1+1)+1:=w64 (by omega) (by omega)
    simp only[jT,ilt h1,Qj h1,Qg h1,hm,inc h1 (show(Qw ZV Qz a k).length<=maxLen by rw[hl];simp[maxLen];omega),QQ1,QQ2,decide_true,QQ3,QY,beq_self_eq_true,QQ0,dt (show(3:Int)≠0 by omega),hw0,hw1]
    have hk:Yk wl ((Qw ZV Qz a k),k1+((2:Nat):Int),((i+1:Nat):Int))=some r:=hk
    rw[show k1+((2:Nat):Int)=((k1+1)+1) by omega]at hk
    exact hk)
  (fun l=>by
    apply Qbw
    simp only[jT,hl,Qo,QQ2])
  hk hs
 simp only[QQ6]at e
 simp only[Qe4,e,QQ0,Qn,QY0]
theorem QgL (a:List Int):Qi (fun _=>1) a<=64*QW a:=by
 have h:=QgP (fun _=>1) (fun _=>by omega) a
 simp only[QW];omega
theorem Qr1 (a:List Int) (k:Int) (hk:0<k) (hs:k+((Qi (fun _=>1) a:Nat):Int)<=1152921504606846976) (h:QW a<=4294967296):Y4 w (a,k)=some (k+((Qi (fun _=>1) a:Nat):Int),Qw (fun _ n=>n) (fun _=>1) a k):=by
 apply Qt7
 simp only[QW]at h
 have e:=KB (fun _ n=>n) (fun _=>1) a (fun k i ys=>Kn wl (k,(i:Int),ys)) (fun k ys=>(k,ys)) 1152921504606846976
  (fun k i ys h1 r hy hm h0 hB hk=>by
    apply QeT
    have hw0:wR (k+1)=k+1:=w64 (by omega) (by omega)
    simp only[Qbq,ilt h1,Qj h1,Qg h1,Kf h1,QY12,QY20,inc h1 (show ys.length<=maxLen by simp[maxLen];omega),QQ1,QRb,QQ0,dt (show(3:Int)≠0 by omega),hw0]
    have hk:Kn wl (k+((1:Nat):Int),((i+1:Nat):Int),ys.set i k)=some r:=hk
    rw[show k+((1:Nat):Int)=(k+1) by omega]at hk
    exact hk)
  (fun k ys hy=>by
    apply QeT
    simp only[Qbq,<-hy,Qo,QQ2])
  k hk hs
 simp only[QQ6]at e
 simp only[Qjq,e,QQ0]
theorem Qzp (a:List Int) (k:Int) (hk:0<k) (hs:k+((Qi (fun _=>1) a:Nat):Int)<=1152921504606846976) (h:QW a<=4294967296):Vl w (Qw (fun _ n=>n) (fun _=>1) a k,k)=some (k+((Qi (fun _=>1) a:Nat):Int)):=by
 apply Qui
 simp only[QW]at h
 have hl:(Qw (fun _ n=>n) (fun _=>1) a k).length=a.length:=X9 _ _ a k
 have e:=KL (fun _ n=>n) (fun _=>1) a k (fun l i=>Ki wl ((Qw (fun _ n=>n) (fun _=>1) a k),l,(i:Int))) 1152921504606846976
  (fun k1 i h1 x r hx hm h0 hB hk=>by
    apply Qe8
    have hw0:wR (k1+1)=k1+1:=w64 (by omega) (by omega)
    simp only[Qbi,ilt h1,Qj h1,Qg h1,hm,inc h1 (show(Qw (fun _ n=>n) (fun _=>1) a k).length<=maxLen by rw[hl];simp[maxLen];omega),QQ1,QQ2,decide_true,QQ3,QY,beq_self_eq_true,QQ0,dt (show(3:Int)≠0 by omega),hw0]
    have hk:Ki wl ((Qw (fun _ n=>n) (fun _=>1) a k),k1+((1:Nat):Int),((i+1:Nat):Int))=some r:=hk
    rw[show k1+((1:Nat):Int)=(k1+1) by omega]at hk
    exact hk)
  (fun l=>by
    apply Qe8
    simp only[Qbi,hl,Qo,QQ2])
  hk hs
 simp only[QQ6]at e
 simp only[QiN,e,QQ0,Qn,QY0]
noncomputable def VK (x:Qk) (n:Int):Qk:=(Qw YJ Qy x.1 n,Qw ZV Qz x.2 (n+((Qi Qy x.1:Nat):Int)))
def Xd (x:Qk):Nat:=Qi Qy x.1+Qi Qz x.2
theorem QCu (x:Qk):Xd x<=64*(QH x+1):=by
 have h0:=Qpz x.1
 have h1:=Qoj x.2
 simp only[Xd,QH];omega
theorem QEl (a:List Qk):Qi Xd a<=64*X1 a:=by
 have h:=Qff Xd QH (fun x=>QCu x) a
 simp only[X1];omega
theorem QDo (a:List Qk) (k:Int) (hk:0<k) (hs:k+((Qi Xd a:Nat):Int)<=1152921504606846976) (h:X1 a<=4294967296):ja w (a,k)=some (k+((Qi Xd a:Nat):Int),Qw VK Xd a k):=by
 apply Qrv
 simp only[X1]at h
 have e:=KB VK Xd a (fun k i ys=>Yg wl (k,(i:Int),ys)) (fun k ys=>(k,ys)) 1152921504606846976
  (fun k i ys h1 r hy hm h0 hB hk=>by
    apply Qbu
    have hb:=YI QH hm
    simp only[Xd]at hB
    simp only[QH]at hb
    simp only[jP,ilt h1,Qj h1,Qg h1,Kf h1,QY12,QY20,inc h1 (show ys.length<=maxLen by simp[maxLen];omega),QQ1,QRb,QQ0,dt (show(3:Int)≠0 by omega),QpO (ys[i].1) k (by omega) (by omega) (by first|omega|(simp only[XY];omega)),QnY (ys[i].2) (k+((Qi Qy (ys[i].1):Nat):Int)) (by omega) (by omega) (by first|omega|(simp only[XL];omega))]
    have hk:Yg wl (k+((Qi Qy (ys[i].1)+Qi Qz (ys[i].2):Nat):Int),((i+1:Nat):Int),ys.set i (Qw YJ Qy (ys[i].1) k,Qw ZV Qz (ys[i].2) (k+((Qi Qy (ys[i].1):Nat):Int))))=some r:=hk
    rw[show k+((Qi Qy (ys[i].1)+Qi Qz (ys[i].2):Nat):Int)=((k+((Qi Qy (ys[i].1):Nat):Int))+((Qi Qz (ys[i].2):Nat):Int)) by omega]at hk
    exact hk)
  (fun k ys hy=>by
    apply Qbu
    simp only[jP,<-hy,Qo,QQ2])
  k hk hs
 simp only[QQ6]at e
 simp only[QeV,e,QQ0]
theorem QEa (a:List Qk) (k:Int) (hk:0<k) (hs:k+((Qi Xd a:Nat):Int)<=1152921504606846976) (h:X1 a<=4294967296):yZ w (Qw VK Xd a k,k)=some (k+((Qi Xd a:Nat):Int)):=by
 apply Qrz
 simp only[X1]at h
 have hl:(Qw VK Xd a k).length=a.length:=X9 _ _ a k
 have e:=KL VK Xd a k (fun l i=>Yn wl ((Qw VK Xd a k),l,(i:Int))) 1152921504606846976
  (fun k1 i h1 x r hx hm h0 hB hk=>by
    apply QbP
    have hb:=YI QH hx
    simp only[Xd]at hB
    simp only[VK]at hm
    simp only[QH]at hb
    simp only[jQ,ilt h1,Qj h1,Qg h1,hm,inc h1 (show(Qw VK Xd a k).length<=maxLen by rw[hl];simp[maxLen];omega),QQ1,QQ2,decide_true,QQ3,QY,beq_self_eq_true,QQ0,dt (show(3:Int)≠0 by omega),Qqb x.1 k1 (by omega) (by omega) (by first|omega|(simp only[XY];omega)),df (show¬((k1+((Qi Qy x.1:Nat):Int)):Int)<0 by omega),Qoi x.2 (k1+((Qi Qy x.1:Nat):Int)) (by omega) (by omega) (by first|omega|(simp only[XL];omega)),df (show¬(((k1+((Qi Qy x.1:Nat):Int))+((Qi Qz x.2:Nat):Int)):Int)<0 by omega)]
    have hk:Yn wl ((Qw VK Xd a k),k1+((Qi Qy x.1+Qi Qz x.2:Nat):Int),((i+1:Nat):Int))=some r:=hk
    rw[show k1+((Qi Qy x.1+Qi Qz x.2:Nat):Int)=((k1+((Qi Qy x.1:Nat):Int))+((Qi Qz x.2:Nat):Int)) by omega]at hk
    exact hk)
  (fun l=>by
    apply QbP
    simp only[jQ,hl,Qo,QQ2])
  hk hs
 simp only[QQ6]at e
 simp only[QeU,e,QQ0,Qn,QY0]
theorem QGe (a:List (List Int)):Qi (Qi (fun _=>1)) a<=64*Xu a:=by
 have h:=Qff (Qi (fun _=>1)) QW (fun x=>by have:=QgL x;omega) a
 simp only[Xu];omega
theorem QGU (a:List (List Int)) (k:Int) (hk:0<k) (hs:k+((Qi (Qi (fun _=>1)) a:Nat):Int)<=1152921504606846976) (h:Xu a<=4294967296):vu w (a,k)=some (k+((Qi (Qi (fun _=>1)) a:Nat):Int),Qw (Qw (fun _ n=>n) (fun _=>1)) (Qi (fun _=>1)) a k):=by
 apply QsJ
 simp only[Xu]at h
 have e:=KB (Qw (fun _ n=>n) (fun _=>1)) (Qi (fun _=>1)) a (fun k i ys=>YR wl (k,(i:Int),ys)) (fun k ys=>(k,ys)) 1152921504606846976
  (fun k i ys h1 r hy hm h0 hB hk=>by
    apply Qco
    have hb:=YI QW hm
    simp only[vL,ilt h1,Qj h1,Qg h1,Kf h1,QY12,QY20,inc h1 (show ys.length<=maxLen by simp[maxLen];omega),QQ1,QRb,QQ0,dt (show(3:Int)≠0 by omega),Qr1 ys[i] k (by omega) (by omega) (by first|omega|(simp only[QW];omega))]
    have hk:YR wl (k+((Qi (fun _=>1) ys[i]:Nat):Int),((i+1:Nat):Int),ys.set i (Qw (fun _ n=>n) (fun _=>1) ys[i] k))=some r:=hk
    exact hk)
  (fun k ys hy=>by
    apply Qco
    simp only[vL,<-hy,Qo,QQ2])
  k hk hs
 simp only[QQ6]at e
 simp only[QhE,e,QQ0]
theorem QGK (a:List (List Int)) (k:Int) (hk:0<k) (hs:k+((Qi (Qi (fun _=>1)) a:Nat):Int)<=1152921504606846976) (h:Xu a<=4294967296):vf w (Qw (Qw (fun _ n=>n) (fun _=>1)) (Qi (fun _=>1)) a k,k)=some (k+((Qi (Qi (fun _=>1)) a:Nat):Int)):=by
 apply QsE
 simp only[Xu]at h
 have hl:(Qw (Qw (fun _ n=>n) (fun _=>1)) (Qi (fun _=>1)) a k).length=a.length:=X9 _ _ a k
 have e:=KL (Qw (fun _ n=>n) (fun _=>1)) (Qi (fun _=>1)) a k (fun l i=>YX wl ((Qw (Qw (fun _ n=>n) (fun _=>1)) (Qi (fun _=>1)) a k),l,(i:Int))) 1152921504606846976
  (fun k1 i h1 x r hx hm h0 hB hk=>by
    apply Qb3
    have hb:=YI QW hx
    simp only[vJ,ilt h1,Qj h1,Qg h1,hm,inc h1 (show(Qw (Qw (fun _ n=>n) (fun _=>1)) (Qi (fun _=>1)) a k).length<=maxLen by rw[hl];simp[maxLen];omega),QQ1,QQ2,decide_true,QQ3,QY,beq_self_eq_true,QQ0,dt (show(3:Int)≠0 by omega),Qzp x k1 (by omega) (by omega) (by first|omega|(simp only[QW];omega)),df (show¬((k1+((Qi (fun _=>1) x:Nat):Int)):Int)<0 by omega)]
    have hk:YX wl ((Qw (Qw (fun _ n=>n) (fun _=>1)) (Qi (fun _=>1)) a k),k1+((Qi (fun _=>1) x:Nat):Int),((i+1:Nat):Int))=some r:=hk
    exact hk)
  (fun l=>by
    apply Qb3
    simp only[vJ,hl,Qo,QQ2])
  hk hs
 simp only[QQ6]at e
 simp only[Qha,e,QQ0,Qn,QY0]
noncomputable def xk (x:QB) (n:Int):QB:=(n,(n+1),decide (Int.tmod ((n+1)+1) 3=0),(((n+1)+1)+1))
def XC (x:QB):Nat:=4
theorem QD6 (x:QB):XC x<=64:=by
 simp only[XC];omega
theorem QF2 (a:List QB):Qi XC a<=64*Yb a:=by
 have h:=QgP XC (fun x=>QD6 x) a
 simp only[Yb];omega
theorem QFW (a:List QB) (k:Int) (hk:0<k) (hs:k+((Qi XC a:Nat):Int)<=1152921504606846976) (h:Yb a<=4294967296):vA w (a,k)=some (k+((Qi XC a:Nat):Int),Qw xk XC a k):=by
 apply QsQ
 simp only[Yb]at h
 have e:=KB xk XC a (fun k i ys=>YV wl (k,(i:Int),ys)) (fun k ys=>(k,ys)) 1152921504606846976
  (fun k i ys h1 r hy hm h0 hB hk=>by
    apply Qc2
    simp only[XC]at hB
    have hw0:wR (k+1)=k+1:=w64 (by omega) (by omega)
    have hw1:wR ((k+1)+1)=(k+1)+1:=w64 (by omega) (by omega)
    have hw2:wR (((k+1)+1)+1)=((k+1)+1)+1:=w64 (by omega) (by omega)
    have hw3:wR ((((k+1)+1)+1)+1)=(((k+1)+1)+1)+1:=w64 (by omega) (by omega)
    simp only[Qae,ilt h1,Qj h1,Qg h1,Kf h1,QY12,QY20,inc h1 (show ys.length<=maxLen by simp[maxLen];omega),QQ1,QRb,QQ0,dt (show(3:Int)≠0 by omega),hw0,hw1,hw2,hw3]
    have hk:YV wl (k+((4:Nat):Int),((i+1:Nat):Int),ys.set i (k,(k+1),decide (Int.tmod ((k+1)+1) 3=0),(((k+1)+1)+1)))=some r:=hk
    rw[show k+((4:Nat):Int)=((((k+1)+1)+1)+1) by omega]at hk
    exact hk)
  (fun k ys hy=>by
    apply Qc2
    simp only[Qae,<-hy,Qo,QQ2])
  k hk hs
 simp only[QQ6]at e
 simp only[Qh1,e,QQ0]
theorem QGC (a:List QB) (k:Int) (hk:0<k) (hs:k+((Qi XC a:Nat):Int)<=1152921504606846976) (h:Yb a<=4294967296):vk w (Qw xk XC a k,k)=some (k+((Qi XC a:Nat):Int)):=by
 apply QsD
 simp only[Yb]at h
 have hl:(Qw xk XC a k).length=a.length:=X9 _ _ a k
 have e:=KL xk XC a k (fun l i=>YT wl ((Qw xk XC a k),l,(i:Int))) 1152921504606846976
  (fun k1 i h1 x r hx hm h0 hB hk=>by
    apply QeL
    simp only[XC]at hB
    simp only[xk]at hm
    have hw0:wR (k1+1)=k1+1:=w64 (by omega) (by omega)
    have hw1:wR ((k1+1)+1)=(k1+1)+1:=w64 (by omega) (by omega)
    have hw2:wR (((k1+1)+1)+1)=((k1+1)+1)+1:=w64 (by omega) (by omega)
    have hw3:wR ((((k1+1)+1)+1)+1)=(((k1+1)+1)+1)+1:=w64 (by omega) (by omega)
    simp only[Qak,ilt h1,Qj h1,Qg h1,hm,inc h1 (show(Qw xk XC a k).length<=maxLen by rw[hl];simp[maxLen];omega),QQ1,QQ2,decide_true,QQ3,QY,beq_self_eq_true,QQ0,dt (show(3:Int)≠0 by omega),hw0,hw1,hw2,hw3]
    have hk:YT wl ((Qw xk XC a k),k1+((4:Nat):Int),((i+1:Nat):Int))=some r:=hk
    rw[show k1+((4:Nat):Int)=((((k1+1)+1)+1)+1) by omega]at hk
    exact hk)
  (fun l=>by
    apply QeL
    simp only[Qak,hl,Qo,QQ2])
  hk hs
 simp only[QQ6]at e
 simp only[QgD,e,QQ0,Qn,QY0]
noncomputable def qY (x:QR) (n:Int):QR:=(n,(n+1),((n+1)+1))
def X6 (x:QR):Nat:=3
theorem QEp (x:QR):X6 x<=64:=by
 simp only[X6];omega
theorem QGO (a:List QR):Qi X6 a<=64*Yd a:=by
 have h:=QgP X6 (fun x=>QEp x) a
 simp only[Yd];omega
theorem QGw (a:List QR) (k:Int) (hk:0<k) (hs:k+((Qi X6 a:Nat):Int)<=1152921504606846976) (h:Yd a<=4294967296):j8 w (a,k)=some (k+((Qi X6 a:Nat):Int),Qw qY X6 a k):=by
 apply QsU
 simp only[Yd]at h
 have e:=KB qY X6 a (fun k i ys=>Y0 wl (k,(i:Int),ys)) (fun k ys=>(k,ys)) 1152921504606846976
  (fun k i ys h1 r hy hm h0 hB hk=>by
    apply Qde
    simp only[X6]at hB
    have hw0:wR (k+1)=k+1:=w64 (by omega) (by omega)
    have hw1:wR ((k+1)+1)=(k+1)+1:=w64 (by omega) (by omega)
    have hw2:wR (((k+1)+1)+1)=((k+1)+1)+1:=w64 (by omega) (by omega)
    simp only[vW,ilt h1,Qj h1,Qg h1,Kf h1,QY12,QY20,inc h1 (show ys.length<=maxLen by simp[maxLen];omega),QQ1,QRb,QQ0,dt (show(3:Int)≠0 by omega),hw0,hw1,hw2]
    have hk:Y0 wl (k+((3:Nat):Int),((i+1:Nat):Int),ys.set i (k,(k+1),((k+1)+1)))=some r:=hk
    rw[show k+((3:Nat):Int)=(((k+1)+1)+1) by omega]at hk
    exact hk)
  (fun k ys hy=>by
    apply Qde
    simp only[vW,<-hy,Qo,QQ2])
  k hk hs
 simp only[QQ6]at e
 simp only[Qie,e,QQ0]
theorem QFs (a:List QR) (k:Int) (hk:0<k) (hs:k+((Qi X6 a:Nat):Int)<=1152921504606846976) (h:Yd a<=4294967296):j7 w (Qw qY X6 a k,k)=some (k+((Qi X6 a:Nat):Int)):=by
 apply QsN
 simp only[Yd]at h
 have hl:(Qw qY X6 a k).length=a.length:=X9 _ _ a k
 have e:=KL qY X6 a k (fun l i=>YN wl ((Qw qY X6 a k),l,(i:Int))) 1152921504606846976
  (fun k1 i h1 x r hx hm h0 hB hk=>by
    apply QdW
    simp only[X6]at hB
    simp only[qY]at hm
    have hw0:wR (k1+1)=k1+1:=w64 (by omega) (by omega)
    have hw1:wR ((k1+1)+1)=(k1+1)+1:=w64 (by omega) (by omega)
    have hw2:wR (((k1+1)+1)+1)=((k1+1)+1)+1:=w64 (by omega) (by omega)
    simp only[vT,ilt h1,Qj h1,Qg h1,hm,inc h1 (show(Qw qY X6 a k).length<=maxLen by rw[hl];simp[maxLen];omega),QQ1,QQ2,decide_true,QQ3,QY,beq_self_eq_true,QQ0,dt (show(3:Int)≠0 by omega),hw0,hw1,hw2]
    have hk:YN wl ((Qw qY X6 a k),k1+((3:Nat):Int),((i+1:Nat):Int))=some r:=hk
    rw[show k1+((3:Nat):Int)=(((k1+1)+1)+1) by omega]at hk
    exact hk)
  (fun l=>by
    apply QdW
    simp only[vT,hl,Qo,QQ2])
  hk hs
 simp only[QQ6]at e
 simp only[Qic,e,QQ0,Qn,QY0]
noncomputable def Jp (x:Qc) (n:Int):Qc:=(n,(n+1),Qw YJ Qy x.2.2.1 ((n+1)+1),Qw ZV Qz x.2.2.2.1 (((n+1)+1)+((Qi Qy x.2.2.1:Nat):Int)),Qw (fun _ n=>n) (fun _=>1) x.2.2.2.2.1 ((((n+1)+1)+((Qi Qy x.2.2.1:Nat):Int))+((Qi Qz x.2.2.2.1:Nat):Int)),(((((n+1)+1)+((Qi Qy x.2.2.1:Nat):Int))+((Qi Qz x.2.2.2.1:Nat):Int))+((Qi (fun _=>1) x.2.2.2.2.1:Nat):Int)),((((((n+1)+1)+((Qi Qy x.2.2.1:Nat):Int))+((Qi Qz x.2.2.2.1:Nat):Int))+((Qi (fun _=>1) x.2.2.2.2.1:Nat):Int))+1),(((((((n+1)+1)+((Qi Qy x.2.2.1:Nat):Int))+((Qi Qz x.2.2.2.1:Nat):Int))+((Qi (fun _=>1) x.2.2.2.2.1:Nat):Int))+1)+1),Qw VK Xd x.2.2.2.2.2.2.2.2.1 ((((((((n+1)+1)+((Qi Qy x.2.2.1:Nat):Int))+((Qi Qz x.2.2.2.1:Nat):Int))+((Qi (fun _=>1) x.2.2.2.2.1:Nat):Int))+1)+1)+1),Qw (fun _ n=>n) (fun _=>1) x.2.2.2.2.2.2.2.2.2.1 (((((((((n+1)+1)+((Qi Qy x.2.2.1:Nat):Int))+((Qi Qz x.2.2.2.1:Nat):Int))+((Qi (fun _=>1) x.2.2.2.2.1:Nat):Int))+1)+1)+1)+((Qi Xd x.2.2.2.2.2.2.2.2.1:Nat):Int)),Qw (fun _ n=>n) (fun _=>1) x.2.2.2.2.2.2.2.2.2.2.1 ((((((((((n+1)+1)+((Qi Qy x.2.2.1:Nat):Int))+((Qi Qz x.2.2.2.1:Nat):Int))+((Qi (fun _=>1) x.2.2.2.2.1:Nat):Int))+1)+1)+1)+((Qi Xd x.2.2.2.2.2.2.2.2.1:Nat):Int))+((Qi (fun _=>1) x.2.2.2.2.2.2.2.2.2.1:Nat):Int)),Qw (Qw (fun _ n=>n) (fun _=>1)) (Qi (fun _=>1)) x.2.2.2.2.2.2.2.2.2.2.2.1 (((((((((((n+1)+1)+((Qi Qy x.2.2.1:Nat):Int))+((Qi Qz x.2.2.2.1:Nat):Int))+((Qi (fun _=>1) x.2.2.2.2.1:Nat):Int))+1)+1)+1)+((Qi Xd x.2.2.2.2.2.2.2.2.1:Nat):Int))+((Qi (fun _=>1) x.2.2.2.2.2.2.2.2.2.1:Nat):Int))+((Qi (fun _=>1) x.2.2.2.2.2.2.2.2.2.2.1:Nat):Int)),((((((((((((n+1)+1)+((Qi Qy x.2.2.1:Nat):Int))+((Qi Qz x.2.2.2.1:Nat):Int))+((Qi (fun _=>1) x.2.2.2.2.1:Nat):Int))+1)+1)+1)+((Qi Xd x.2.2.2.2.2.2.2.2.1:Nat):Int))+((Qi (fun _=>1) x.2.2.2.2.2.2.2.2.2.1:Nat):Int))+((Qi (fun _=>1) x.2.2.2.2.2.2.2.2.2.2.1:Nat):Int))+((Qi (Qi (fun _=>1)) x.2.2.2.2.2.2.2.2.2.2.2.1:Nat):Int)),(((((((((((((n+1)+1)+((Qi Qy x.2.2.1:Nat):Int))+((Qi Qz x.2.2.2.1:Nat):Int))+((Qi (fun _=>1) x.2.2.2.2.1:Nat):Int))+1)+1)+1)+((Qi Xd x.2.2.2.2.2.2.2.2.1:Nat):Int))+((Qi (fun _=>1) x.2.2.2.2.2.2.2.2.2.1:Nat):Int))+((Qi (fun _=>1) x.2.2.2.2.2.2.2.2.2.2.1:Nat):Int))+((Qi (Qi (fun _=>1)) x.2.2.2.2.2.2.2.2.2.2.2.1:Nat):Int))+1),Qw xk XC x.2.2.2.2.2.2.2.2.2.2.2.2.2.2.1 ((((((((((((((n+1)+1)+((Qi Qy x.2.2.1:Nat):Int))+((Qi Qz x.2.2.2.1:Nat):Int))+((Qi (fun _=>1) x.2.2.2.2.1:Nat):Int))+1)+1)+1)+((Qi Xd x.2.2.2.2.2.2.2.2.1:Nat):Int))+((Qi (fun _=>1) x.2.2.2.2.2.2.2.2.2.1:Nat):Int))+((Qi (fun _=>1) x.2.2.2.2.2.2.2.2.2.2.1:Nat):Int))+((Qi (Qi (fun _=>1)) x.2.2.2.2.2.2.2.2.2.2.2.1:Nat):Int))+1)+1),(((((((((((((((n+1)+1)+((Qi Qy x.2.2.1:Nat):Int))+((Qi Qz x.2.2.2.1:Nat):Int))+((Qi (fun _=>1) x.2.2.2.2.1:Nat):Int))+1)+1)+1)+((Qi Xd x.2.2.2.2.2.2.2.2.1:Nat):Int))+((Qi (fun _=>1) x.2.2.2.2.2.2.2.2.2.1:Nat):Int))+((Qi (fun _=>1) x.2.2.2.2.2.2.2.2.2.2.1:Nat):Int))+((Qi (Qi (fun _=>1)) x.2.2.2.2.2.2.2.2.2.2.2.1:Nat):Int))+1)+1)+((Qi XC x.2.2.2.2.2.2.2.2.2.2.2.2.2.2.1:Nat):Int)),((((((((((((((((n+1)+1)+((Qi Qy x.2.2.1:Nat):Int))+((Qi Qz x.2.2.2.1:Nat):Int))+((Qi (fun _=>1) x.2.2.2.2.1:Nat):Int))+1)+1)+1)+((Qi Xd x.2.2.2.2.2.2.2.2.1:Nat):Int))+((Qi (fun _=>1) x.2.2.2.2.2.2.2.2.2.1:Nat):Int))+((Qi (fun _=>1) x.2.2.2.2.2.2.2.2.2.2.1:Nat):Int))+((Qi (Qi (fun _=>1)) x.2.2.2.2.2.2.2.2.2.2.2.1:Nat):Int))+1)+1)+((Qi XC x.2.2.2.2.2.2.2.2.2.2.2.2.2.2.1:Nat):Int))+1),(((((((((((((((((n+1)+1)+((Qi Qy x.2.2.1:Nat):Int))+((Qi Qz x.2.2.2.1:Nat):Int))+((Qi (fun _=>1) x.2.2.2.2.1:Nat):Int))+1)+1)+1)+((Qi Xd x.2.2.2.2.2.2.2.2.1:Nat):Int))+((Qi (fun _=>1) x.2.2.2.2.2.2.2.2.2.1:Nat):Int))+((Qi (fun _=>1) x.2.2.2.2.2.2.2.2.2.2.1:Nat):Int))+((Qi (Qi (fun _=>1)) x.2.2.2.2.2.2.2.2.2.2.2.1:Nat):Int))+1)+1)+((Qi XC x.2.2.2.2.2.2.2.2.2.2.2.2.2.2.1:Nat):Int))+1)+1),Qw qY X6 x.2.2.2.2.2.2.2.2.2.2.2.2.2.2.2.2.2.2 ((((((((((((((((((n+1)+1)+((Qi Qy x.2.2.1:Nat):Int))+((Qi Qz x.2.2.2.1:Nat):Int))+((Qi (fun _=>1) x.2.2.2.2.1:Nat):Int))+1)+1)+1)+((Qi Xd x.2.2.2.2.2.2.2.2.1:Nat):Int))+((Qi (fun _=>1) x.2.2.2.2.2.2.2.2.2.1:Nat):Int))+((Qi (fun _=>1) x.2.2.2.2.2.2.2.2.2.2.1:Nat):Int))+((Qi (Qi (fun _=>1)) x.2.2.2.2.2.2.2.2.2.2.2.1:Nat):Int))+1)+1)+((Qi XC x.2.2.2.2.2.2.2.2.2.2.2.2.2.2.1:Nat):Int))+1)+1)+1))
def Q4 (x:Qc):Nat:=10+Qi Qy x.2.2.1+Qi Qz x.2.2.2.1+Qi (fun _=>1) x.2.2.2.2.1+Qi Xd x.2.2.2.2.2.2.2.2.1+Qi (fun _=>1) x.2.2.2.2.2.2.2.2.2.1+Qi (fun _=>1) x.2.2.2.2.2.2.2.2.2.2.1+Qi (Qi (fun _=>1)) x.2.2.2.2.2.2.2.2.2.2.2.1+Qi XC x.2.2.2.2.2.2.2.2.2.2.2.2.2.2.1+Qi X6 x.2.2.2.2.2.2.2.2.2.2.2.2.2.2.2.2.2.2
theorem QDT (x:Qc):Q4 x<=64*(Q9 x+1):=by
 have h0:=Qpz x.2.2.1
 have h1:=Qoj x.2.2.2.1
 have h2:=QgL x.2.2.2.2.1
 have h3:=QEl x.2.2.2.2.2.2.2.2.1
 have h4:=QgL x.2.2.2.2.2.2.2.2.2.1
 have h5:=QgL x.2.2.2.2.2.2.2.2.2.2.1
 have h6:=QGe x.2.2.2.2.2.2.2.2.2.2.2.1
 have h7:=QF2 x.2.2.2.2.2.2.2.2.2.2.2.2.2.2.1
 have h8:=QGO x.2.2.2.2.2.2.2.2.2.2.2.2.2.2.2.2.2.2
 simp only[Q4,Yl,Q9,QH,ZD];omega
theorem QG0 (a:List Qc):Qi Q4 a<=64*XV a:=by
 have h:=Qff Q4 Q9 (fun x=>QDT x) a
 simp only[XV];omega
set_option maxHeartbeats 4000000 in
theorem QFK (a:List Qc) (k:Int) (hk:0<k) (hs:k+((Qi Q4 a:Nat):Int)<=1152921504606846976) (h:XV a<=4294967296):va w (a,k)=some (k+((Qi Q4 a:Nat):Int),Qw Jp Q4 a k):=by
 apply QsP
 simp only[XV]at h
 have e:=KB Jp Q4 a (fun k i ys=>YO wl (k,(i:Int),ys)) (fun k ys=>(k,ys)) 1152921504606846976
  (fun k i ys h1 r hy hm h0 hB hk=>by
    apply QcU
    have hb:=YI Q9 hm
    simp only[Q4]at hB
    simp only[Q9,QH,ZD,Yl]at hb
    have hw:∀n:Int,0<n->n<=2305843009213693952->wR (n+1)=n+1:=fun n h1 h2=>w64 (by omega) (by omega)
    simp (disch:=omega) only[vY,ilt h1,Qj h1,Qg h1,Kf h1,QY12,QY20,inc h1 (show ys.length<=maxLen by simp[maxLen];omega),QQ1,QRb,QQ0,hw,QnY,Qr1,QGU,QpO,QGw,QFW,QDo]
    refine Eq.trans (congrArg (fun z=>YO wl (z,((i+1:Nat):Int),_)) ?_) hk
    simp only[Q4];omega)
  (fun k ys hy=>by
    apply QcU
    simp only[vY,<-hy,Qo,QQ2])
  k hk hs
 simp only[QQ6]at e
 simp only[QhV,e,QQ0]
set_option maxHeartbeats 4000000 in
theorem QFm (a:List Qc) (k:Int) (hk:0<k) (hs:k+((Qi Q4 a:Nat):Int)<=1152921504606846976) (h:XV a<=4294967296):vq w (Qw Jp Q4 a k,k)=some (k+((Qi Q4 a:Nat):Int)):=by
 apply QsM
 simp only[XV]at h
 have hl:(Qw Jp Q4 a k).length=a.length:=X9 _ _ a k
 have e:=KL Jp Q4 a k (fun l i=>Y2 wl ((Qw Jp Q4 a k),l,(i:Int))) 1152921504606846976
  (fun k1 i h1 x r hx hm h0 hB hk=>by
    apply QdF
    have hb:=YI Q9 hx
    simp only[Q4]at hB
    simp only[Jp]at hm
    simp only[Q9,QH,ZD,Yl]at hb
    have hw:∀n:Int,0<n->n<=2305843009213693952->wR (n+1)=n+1:=fun n h1 h2=>w64 (by omega) (by omega)
    have hd:∀n:Int,0<n->decide (n<0)=false:=fun n h=>df (by omega)
    simp (disch:=omega) only[vK,ilt h1,Qj h1,Qg h1,hm,inc h1 (show(Qw Jp Q4 a k).length<=maxLen by rw[hl];simp[maxLen];omega),QQ1,QQ2,decide_true,QQ3,QQ0,hw,hd,Qoi,Qzp,QGK,Qqb,QFs,QGC,QEa]
    refine Eq.trans (congrArg (fun z=>Y2 wl ((Qw Jp Q4 a k),z,((i+1:Nat):Int))) ?_) hk
    simp only[Q4];omega)
  (fun l=>by
    apply QdF
    simp only[vK,hl,Qo,QQ2])
  hk hs
 simp only[QQ6]at e
 simp only[QhU,e,QQ0,Qn,QY0]
theorem QGE (a:List Int):Qi (fun _=>1) a<=64*Zy a:=by
 have h:=QgP (fun _=>1) (fun _=>by omega) a
 simp only[Zy];omega
theorem QHb (a:List Int) (k:Int) (hk:0<k) (hs:k+((Qi (fun _=>1) a:Nat):Int)<=1152921504606846976) (h:Zy a<=4294967296):vj w (a,k)=some (k+((Qi (fun _=>1) a:Nat):Int),Qw (fun _ n=>IntKind.wrap .u8 n) (fun _=>1) a k):=by
 apply QsR
 simp only[Zy]at h
 have e:=KB (fun _ n=>IntKind.wrap .u8 n) (fun _=>1) a (fun k i ys=>YU wl (k,(i:Int),ys)) (fun k ys=>(k,ys)) 1152921504606846976
  (fun k i ys h1 r hy hm h0 hB hk=>by
    apply Qdu
    have hw0:wR (k+1)=k+1:=w64 (by omega) (by omega)
    simp only[vN,ilt h1,Qj h1,Qg h1,Kf h1,QY12,QY20,inc h1 (show ys.length<=maxLen by simp[maxLen];omega),QQ1,QRb,QQ0,dt (show(3:Int)≠0 by omega),hw0]
    have hk:YU wl (k+((1:Nat):Int),((i+1:Nat):Int),ys.set i (IntKind.wrap .u8 k))=some r:=hk
    rw[show k+((1:Nat):Int)=(k+1) by omega]at hk
    exact hk)
  (fun k ys hy=>by
    apply Qdu
    simp only[vN,<-hy,Qo,QQ2])
  k hk hs
 simp only[QQ6]at e
 simp only[Qhu,e,QQ0]
theorem QGm (a:List Int) (k:Int) (hk:0<k) (hs:k+((Qi (fun _=>1) a:Nat):Int)<=1152921504606846976) (h:Zy a<=4294967296):vv w (Qw (fun _ n=>IntKind.wrap .u8 n) (fun _=>1) a k,k)=some (k+((Qi (fun _=>1) a:Nat):Int)):=by
 apply QsS
 simp only[Zy]at h
 have hl:(Qw (fun _ n=>IntKind.wrap .u8 n) (fun _=>1) a k).length=a.length:=X9 _ _ a k
 have e:=KL (fun _ n=>IntKind.wrap .u8 n) (fun _=>1) a k (fun l i=>Y1 wl ((Qw (fun _ n=>IntKind.wrap .u8 n) (fun _=>1) a k),l,(i:Int))) 1152921504606846976
  (fun k1 i h1 x r hx hm h0 hB hk=>by
    apply Qez
    have hw0:wR (k1+1)=k1+1:=w64 (by omega) (by omega)
    simp only[vM,ilt h1,Qj h1,Qg h1,hm,inc h1 (show(Qw (fun _ n=>IntKind.wrap .u8 n) (fun _=>1) a k).length<=maxLen by rw[hl];simp[maxLen];omega),QQ1,QQ2,decide_true,QQ3,QY,beq_self_eq_true,QQ0,dt (show(3:Int)≠0 by omega),hw0]
    have hk:Y1 wl ((Qw (fun _ n=>IntKind.wrap .u8 n) (fun _=>1) a k),k1+((1:Nat):Int),((i+1:Nat):Int))=some r:=hk
    rw[show k1+((1:Nat):Int)=(k1+1) by omega]at hk
    exact hk)
  (fun l=>by
    apply Qez
    simp only[vM,hl,Qo,QQ2])
  hk hs
 simp only[QQ6]at e
 simp only[QhZ,e,QQ0,Qn,QY0]
noncomputable def Jl (x:Qs) (n:Int):Qs:=(n,Qw (fun _ n=>IntKind.wrap .u8 n) (fun _=>1) x.2.1 (n+1),decide (Int.tmod ((n+1)+((Qi (fun _=>1) x.2.1:Nat):Int)) 3=0))
def Xk (x:Qs):Nat:=2+Qi (fun _=>1) x.2.1
theorem QDR (x:Qs):Xk x<=64*(Xb x+1):=by
 have h0:=QGE x.2.1
 simp only[Xk,Xb];omega
theorem QGa (a:List Qs):Qi Xk a<=64*XH a:=by
 have h:=Qff Xk Xb (fun x=>QDR x) a
 simp only[XH];omega
theorem QGt (a:List Qs) (k:Int) (hk:0<k) (hs:k+((Qi Xk a:Nat):Int)<=1152921504606846976) (h:XH a<=4294967296):vr w (a,k)=some (k+((Qi Xk a:Nat):Int),Qw Jl Xk a k):=by
 apply QsG
 simp only[XH]at h
 have e:=KB Jl Xk a (fun k i ys=>YS wl (k,(i:Int),ys)) (fun k ys=>(k,ys)) 1152921504606846976
  (fun k i ys h1 r hy hm h0 hB hk=>by
    apply Qdq
    have hb:=YI Xb hm
    simp only[Xk]at hB
    simp only[Xb]at hb
    have hw0:wR (k+1)=k+1:=w64 (by omega) (by omega)
    have hw1:wR (((k+1)+((Qi (fun _=>1) (ys[i].2.1):Nat):Int))+1)=((k+1)+((Qi (fun _=>1) (ys[i].2.1):Nat):Int))+1:=w64 (by omega) (by omega)
    simp only[Qaa,ilt h1,Qj h1,Qg h1,Kf h1,QY12,QY20,inc h1 (show ys.length<=maxLen by simp[maxLen];omega),QQ1,QRb,QQ0,dt (show(3:Int)≠0 by omega),hw0,hw1,QHb (ys[i].2.1) (k+1) (by omega) (by omega) (by first|omega|(simp only[Zy];omega))]
    have hk:YS wl (k+((2+Qi (fun _=>1) (ys[i].2.1):Nat):Int),((i+1:Nat):Int),ys.set i (k,Qw (fun _ n=>IntKind.wrap .u8 n) (fun _=>1) (ys[i].2.1) (k+1),decide (Int.tmod ((k+1)+((Qi (fun _=>1) (ys[i].2.1):Nat):Int)) 3=0)))=some r:=hk
    rw[show k+((2+Qi (fun _=>1) (ys[i].2.1):Nat):Int)=(((k+1)+((Qi (fun _=>1) (ys[i].2.1):Nat):Int))+1) by omega]at hk
    exact hk)
  (fun k ys hy=>by
    apply Qdq
    simp only[Qaa,<-hy,Qo,QQ2])
  k hk hs
 simp only[QQ6]at e
 simp only[Qhr,e,QQ0]
theorem QGn (a:List Qs) (k:Int) (hk:0<k) (hs:k+((Qi Xk a:Nat):Int)<=1152921504606846976) (h:XH a<=4294967296):j0 w (Qw Jl Xk a k,k)=some (k+((Qi Xk a:Nat):Int)):=by
 apply QsC
 simp only[XH]at h
 have hl:(Qw Jl Xk a k).length=a.length:=X9 _ _ a k
 have e:=KL Jl Xk a k (fun l i=>YW wl ((Qw Jl Xk a k),l,(i:Int))) 1152921504606846976
  (fun k1 i h1 x r hx hm h0 hB hk=>by
    apply QcD
    have hb:=YI Xb hx
    simp only[Xk]at hB
    simp only[Jl]at hm
    simp only[Xb]at hb
    have hw0:wR (k1+1)=k1+1:=w64 (by omega) (by omega)
    have hw1:wR (((k1+1)+((Qi (fun _=>1) x.2.1:Nat):Int))+1)=((k1+1)+((Qi (fun _=>1) x.2.1:Nat):Int))+1:=w64 (by omega) (by omega)
    simp only[Qaj,ilt h1,Qj h1,Qg h1,hm,inc h1 (show(Qw Jl Xk a k).length<=maxLen by rw[hl];simp[maxLen];omega),QQ1,QQ2,decide_true,QQ3,QY,beq_self_eq_true,QQ0,dt (show(3:Int)≠0 by omega),hw0,hw1,QGm x.2.1 (k1+1) (by omega) (by omega) (by first|omega|(simp only[Zy];omega)),df (show¬(((k1+1)+((Qi (fun _=>1) x.2.1:Nat):Int)):Int)<0 by omega)]
    have hk:YW wl ((Qw Jl Xk a k),k1+((2+Qi (fun _=>1) x.2.1:Nat):Int),((i+1:Nat):Int))=some r:=hk
    rw[show k1+((2+Qi (fun _=>1) x.2.1:Nat):Int)=(((k1+1)+((Qi (fun _=>1) x.2.1:Nat):Int))+1) by omega]at hk
    exact hk)
  (fun l=>by
    apply QcD
    simp only[Qaj,hl,Qo,QQ2])
  hk hs
 simp only[QQ6]at e
 simp only[QgA,e,QQ0,Qn,QY0]
noncomputable def Jr (x:Qt) (n:Int):Qt:=(n,Qw YJ Qy x.2.1 (n+1),Qw ZV Qz x.2.2 ((n+1)+((Qi Qy x.2.1:Nat):Int)))
def Xy (x:Qt):Nat:=1+Qi Qy x.2.1+Qi Qz x.2.2
theorem QDP (x:Qt):Xy x<=64*(Xn x+1):=by
 have h0:=Qpz x.2.1
 have h1:=Qoj x.2.2
 simp only[Xy,Xn,QH];omega
theorem QGY (a:List Qt):Qi Xy a<=64*XU a:=by
 have h:=Qff Xy Xn (fun x=>QDP x) a
 simp only[XU];omega
theorem QGR (a:List Qt) (k:Int) (hk:0<k) (hs:k+((Qi Xy a:Nat):Int)<=1152921504606846976) (h:XU a<=4294967296):jY w (a,k)=some (k+((Qi Xy a:Nat):Int),Qw Jr Xy a k):=by
 apply QsT
 simp only[XU]at h
 have e:=KB Jr Xy a (fun k i ys=>YL wl (k,(i:Int),ys)) (fun k ys=>(k,ys)) 1152921504606846976
  (fun k i ys h1 r hy hm h0 hB hk=>by
    apply Qcj
    have hb:=YI Xn hm
    simp only[Xy]at hB
    simp only[Xn,QH]at hb
    have hw0:wR (k+1)=k+1:=w64 (by omega) (by omega)
    simp only[v7,ilt h1,Qj h1,Qg h1,Kf h1,QY12,QY20,inc h1 (show ys.length<=maxLen by simp[maxLen];omega),QQ1,QRb,QQ0,dt (show(3:Int)≠0 by omega),hw0,QpO (ys[i].2.1) (k+1) (by omega) (by omega) (by first|omega|(simp only[XY];omega)),QnY (ys[i].2.2) ((k+1)+((Qi Qy (ys[i].2.1):Nat):Int)) (by omega) (by omega) (by first|omega|(simp only[XL];omega))]
    have hk:YL wl (k+((1+Qi Qy (ys[i].2.1)+Qi Qz (ys[i].2.2):Nat):Int),((i+1:Nat):Int),ys.set i (k,Qw YJ Qy (ys[i].2.1) (k+1),Qw ZV Qz (ys[i].2.2) ((k+1)+((Qi Qy (ys[i].2.1):Nat):Int))))=some r:=hk
    rw[show k+((1+Qi Qy (ys[i].2.1)+Qi Qz (ys[i].2.2):Nat):Int)=(((k+1)+((Qi Qy (ys[i].2.1):Nat):Int))+((Qi Qz (ys[i].2.2):Nat):Int)) by omega]at hk
    exact hk)
  (fun k ys hy=>by
    apply Qcj
    simp only[v7,<-hy,Qo,QQ2])
  k hk hs
 simp only[QQ6]at e
 simp only[QgS,e,QQ0]
theorem QFa (a:List Qt) (k:Int) (hk:0<k) (hs:k+((Qi Xy a:Nat):Int)<=1152921504606846976) (h:XU a<=4294967296):vd w (Qw Jr Xy a k,k)=some (k+((Qi Xy a:Nat):Int)):=by
 apply QsO
 simp only[XU]at h
 have hl:(Qw Jr Xy a k).length=a.length:=X9 _ _ a k
 have e:=KL Jr Xy a k (fun l i=>YQ wl ((Qw Jr Xy a k),l,(i:Int))) 1152921504606846976
  (fun k1 i h1 x r hx hm h0 hB hk=>by
    apply Qdj
    have hb:=YI Xn hx
    simp only[Xy]at hB
    simp only[Jr]at hm
    simp only[Xn,QH]at hb
    have hw0:wR (k1+1)=k1+1:=w64 (by omega) (by omega)
    simp only[vV,ilt h1,Qj h1,Qg h1,hm,inc h1 (show(Qw Jr Xy a k).length<=maxLen by rw[hl];simp[maxLen];omega),QQ1,QQ2,decide_true,QQ3,QY,beq_self_eq_true,QQ0,dt (show(3:Int)≠0 by omega),hw0,Qqb x.2.1 (k1+1) (by omega) (by omega) (by first|omega|(simp only[XY];omega)),df (show¬(((k1+1)+((Qi Qy x.2.1:Nat):Int)):Int)<0 by omega),Qoi x.2.2 ((k1+1)+((Qi Qy x.2.1:Nat):Int)) (by omega) (by omega) (by first|omega|(simp only[XL];omega)),df (show¬((((k1+1)+((Qi Qy x.2.1:Nat):Int))+((Qi Qz x.2.2:Nat):Int)):Int)<0 by omega)]
    have hk:YQ wl ((Qw Jr Xy a k),k1+((1+Qi Qy x.2.1+Qi Qz x.2.2:Nat):Int),((i+1:Nat):Int))=some r:=hk
    rw[show k1+((1+Qi Qy x.2.1+Qi Qz x.2.2:Nat):Int)=(((k1+1)+((Qi Qy x.2.1:Nat):Int))+((Qi Qz x.2.2:Nat):Int)) by omega]at hk
    exact hk)
  (fun l=>by
    apply Qdj
    simp only[vV,hl,Qo,QQ2])
  hk hs
 simp only[QQ6]at e
 simp only[Qij,e,QQ0,Qn,QY0]
theorem QFn (a0:List Qc) (a1:List Qs) (a2:List Qt) (k:Int) (hk:0<k) (hs:k+((Qi Q4 a0+Qi Xk a1+Qi Xy a2:Nat):Int)<=1152921504606846976) (h:Xl (a0,a1,a2)<=4294967296):VV w (a0,a1,a2,k)=some ((((k+((Qi Q4 a0:Nat):Int))+((Qi Xk a1:Nat):Int))+((Qi Xy a2:Nat):Int)),Qw Jp Q4 a0 k,Qw Jl Xk a1 (k+((Qi Q4 a0:Nat):Int)),Qw Jr Xy a2 ((k+((Qi Q4 a0:Nat):Int))+((Qi Xk a1:Nat):Int))):=by
 apply QsF
 simp only[Xl]at h
 simp only[QhG,QQ0,QFK a0 k (by omega) (by omega) (by first|omega|(simp only[XV];omega)),QGt a1 (k+((Qi Q4 a0:Nat):Int)) (by omega) (by omega) (by first|omega|(simp only[XH];omega)),QGR a2 ((k+((Qi Q4 a0:Nat):Int))+((Qi Xk a1:Nat):Int)) (by omega) (by omega) (by first|omega|(simp only[XU];omega))]
theorem QG7 (a0:List Qc) (a1:List Qs) (a2:List Qt) (k:Int) (hk:0<k) (hs:k+((Qi Q4 a0+Qi Xk a1+Qi Xy a2:Nat):Int)<=1152921504606846976) (h:Xl (a0,a1,a2)<=4294967296):VX w (Qw Jp Q4 a0 k,Qw Jl Xk a1 (k+((Qi Q4 a0:Nat):Int)),Qw Jr Xy a2 ((k+((Qi Q4 a0:Nat):Int))+((Qi Xk a1:Nat):Int)),k)=some (((k+((Qi Q4 a0:Nat):Int))+((Qi Xk a1:Nat):Int))+((Qi Xy a2:Nat):Int)):=by
 apply QsL
 simp only[Xl]at h
 simp only[QgQ,QQ0,QQ2,QFm a0 k (by omega) (by omega) (by first|omega|(simp only[XV];omega)),df (show¬((k+((Qi Q4 a0:Nat):Int)):Int)<0 by omega),QGn a1 (k+((Qi Q4 a0:Nat):Int)) (by omega) (by omega) (by first|omega|(simp only[XH];omega)),df (show¬(((k+((Qi Q4 a0:Nat):Int))+((Qi Xk a1:Nat):Int)):Int)<0 by omega),QFa a2 ((k+((Qi Q4 a0:Nat):Int))+((Qi Xk a1:Nat):Int)) (by omega) (by omega) (by first|omega|(simp only[XU];omega)),df (show¬((((k+((Qi Q4 a0:Nat):Int))+((Qi Xk a1:Nat):Int))+((Qi Xy a2:Nat):Int)):Int)<0 by omega)]
end Go.Proofs.YtiejfnbmficbmaaGreat.M
