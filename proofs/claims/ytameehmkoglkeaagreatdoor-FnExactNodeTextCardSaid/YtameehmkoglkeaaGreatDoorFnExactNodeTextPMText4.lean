/- What the plain forms that FnExactNodeText reaches come to: PMText4. No conditions but those that each theorem states. -/
import Derived.Test.YtameehmkoglkeaaGreatDoorFnExactNodeTextPRd
set_option linter.all false
namespace Go.Proofs.YtameehmkoglkeaaGreatDoor.M
open Go Go.Eng Go.Proofs
set_option linter.unusedVariables false
theorem QoA {s:Qi}(h:QX s=true):StT s:=by
 have hl:=QaC h
 refine⟨fun x hx=> ?_,fun f hf=> ?_,hl.1,hl.2⟩
 ·have:=QnP h x hx
  exact⟨Kz.1 this.1,this.2⟩
 ·have hfl:QT (-1) s.2=true:=by simp only[QX,QQ5]at h;exact h.1
  have:=QhA _ _ hfl f hf
  have h1:=Kz.1 this.1
  have h2:=Kz.1 this.2
  omega
theorem QgK {s:Qi}(h:StT s):(Jb s).length<=1010:=by
 have:=zj [32] rfl 100 (s.1.map XF++s.2.map X3) (fun x hx=>by
  rcases QRh.1 hx with hx|hx
  ·obtain⟨y,hy,rfl⟩:=QY10.1 hx;exact(Qc7 (h.items y hy)).2
  ·obtain⟨y,hy,rfl⟩:=QY10.1 hx;exact(QfB (h.floors y hy)).2)
 have h1:=h.l1
 have h2:=h.l2
 rw[QRj,List.length_map,List.length_map]at this
 unfold Jb
 omega
def Qc6 (l:List UInt8):List UInt8:=if l=[]then []else [32]++l
theorem QrX (l:List UInt8) (h:l.length<=1010):VS w (bsl l)=some (bsl (Qc6 l)):=by
 apply Qe2
 have c32:(⟨#[32]⟩:ByteArray)=bsl [32]:=rfl
 simp only[yy,yw,c32,Zf,XB,Qc6]
 by_cases h0:l=[]
 ·rw[dt h0,if_pos h0];rfl
 ·rw[df h0,if_neg h0,QQ2,Qx _ (by simp;omega)];rfl
def Qm4 (x:QI):List UInt8:=[110]++(Go.Lib.itoa x.1++([32,99]++(Go.Lib.itoa x.2.2.2.2.2.2.2.2.2.2.2.2.2.2.2.2.2.1++([32]++(jg x.2.2.2.2.2.2.2.2.2.1++([32]++(jg x.2.2.2.2.2.2.2.2.2.2.1++Qc6 (Jb (x.2.2.1,x.2.2.2.1)))))))))
def QcT (x:QI):ByteArray:=bif Ku x then bsl (Qm4 x)else⟨#[]⟩
theorem QeR {v:List Int}{n:Int}(h:Zk v n=true) (hn:n<=5):(∀y∈v,inV y)/\v.length<=5:=by
 have:=Qn7 h
 refine⟨fun y hy=> ?_,by omega⟩
 have:=Kz.1 (this.2 y hy)
 unfold inV;omega
theorem QlG (x:QI) (h:Qie x):Ju w x=some (QcT x):=by
 apply QfS
 have ho:=QpO x h
 obtain⟨a0,a1,a2,a3,a4,a5,a6,a7,a8,a9,a10,a11,a12,a13,a14,a15,a16,a17,a18⟩:=x
 simp only[jN,ho,QQ0,QcT]
 cases hk:Ku (a0,a1,a2,a3,a4,a5,a6,a7,a8,a9,a10,a11,a12,a13,a14,a15,a16,a17,a18)
 ·rfl
 ·have ok:=nok hk
  have rn:=Kz.1 ok.n
  have r0:=Kz.1 ok.id
  have rc:=Kz.1 ok.clock
  have hg:=QeR ok.got rn.2
  have hc:=QeR ok.ack rn.2
  have hs:=QoA ok.st
  simp only at rn r0 rc hg hc hs
  have hsl:=QgK hs
  have hgl:=Qc0 a9 hg.1 hg.2
  have hcl:=Qc0 a10 hc.1 hc.2
  have l0:=Xf (n:=a0) (by omega) (by omega)
  have l1:=Xf (n:=a17) (by omega) (by omega)
  have c110:(⟨#[110]⟩:ByteArray)=bsl [110]:=rfl
  have c99:(⟨#[32,99]⟩:ByteArray)=bsl [32,99]:=rfl
  have c32:(⟨#[32]⟩:ByteArray)=bsl [32]:=rfl
  simp only[QQ3,QQ2,QQ1,Ye a0 (by omega) (by omega),Ye a17 (by omega) (by omega),QgV a9 hg.1 hg.2,QgV a10 hc.1 hc.2,Qlg (a2,a3) hs,QQ0,digits,c110,c99,c32,Zf,XB,yw,Qm4]
  generalize jg a9=v1 at hgl
  generalize jg a10=v2 at hcl
  rw[Qx _ (by simp only[QRj,QY0,QY2];omega),Qx _ (by simp only[QRj,QY0,QY2];omega),Qx _ (by simp only[QRj,QY0,QY2];omega),Qx _ (by simp only[QRj,QY0,QY2];omega),Qx _ (by simp only[QRj,QY0,QY2];omega),Qx _ (by simp only[QRj,QY0,QY2];omega),Qx _ (by simp only[QRj,QY0,QY2];omega)]
  generalize Jb (a2,a3)=sl at hsl
  simp only[QQ1,Qc6]
  by_cases h0:sl=[]
  ·subst h0
   rw[dt (show([]:List UInt8)=[]from rfl)]
   simp
  ·rw[df h0,if_neg h0,QQ4,QQ1,Qx _ (by simp only[QRj,QY0,QY2];omega),Qx _ (by simp only[QRj,QY0,QY2];omega)]
   simp
theorem QkD (x:QI) (h:Qie x):Jt w x=some (QcT x):=by
 apply QfJ
 have ho:=QnW x h
 obtain⟨a0,a1,a2,a3,a4,a5,a6,a7,a8,a9,a10,a11,a12,a13,a14,a15,a16,a17,a18⟩:=x
 simp only[jC,ho,QQ0,QcT]
 cases hk:Ku (a0,a1,a2,a3,a4,a5,a6,a7,a8,a9,a10,a11,a12,a13,a14,a15,a16,a17,a18)
 ·rfl
 ·have ok:=nok hk
  have rn:=Kz.1 ok.n
  have r0:=Kz.1 ok.id
  have rc:=Kz.1 ok.clock
  have hg:=QeR ok.got rn.2
  have hc:=QeR ok.ack rn.2
  have hs:=QoA ok.st
  simp only at rn r0 rc hg hc hs
  have hsl:=QgK hs
  have hgl:=Qc0 a9 hg.1 hg.2
  have hcl:=Qc0 a10 hc.1 hc.2
  have l0:=Xf (n:=a0) (by omega) (by omega)
  have l1:=Xf (n:=a17) (by omega) (by omega)
  have c110:(⟨#[110]⟩:ByteArray)=bsl [110]:=rfl
  have c99:(⟨#[32,99]⟩:ByteArray)=bsl [32,99]:=rfl
  have c32:(⟨#[32]⟩:ByteArray)=bsl [32]:=rfl
  simp only[QQ3,QQ2,QQ1,Zz a0 (by omega) (by omega),Zz a17 (by omega) (by omega),Qfv a9 hg.1 hg.2,Qfv a10 hc.1 hc.2,QjC (a2,a3) hs,QrX _ hsl,QQ0,digits,c110,c99,c32,Zf,XB,yw,Qm4]
  generalize jg a9=v1 at hgl
  generalize jg a10=v2 at hcl
  rw[Qx _ (by simp only[QRj,QY0,QY2];omega),Qx _ (by simp only[QRj,QY0,QY2];omega),Qx _ (by simp only[QRj,QY0,QY2];omega),Qx _ (by simp only[QRj,QY0,QY2];omega),Qx _ (by simp only[QRj,QY0,QY2];omega),Qx _ (by simp only[QRj,QY0,QY2];omega),Qx _ (by simp only[QRj,QY0,QY2];omega)]
  have htl:(Qc6 (Jb (a2,a3))).length<=1011:=by
   unfold Qc6;split
   ·simp
   ·simp;omega
  generalize Qc6 (Jb (a2,a3))=tl at htl
  rw[Qx _ (by simp only[QRj,QY0,QY2];omega)]
  simp
theorem QrT (a0 a1:Int) (a2:List Qj) (a3:List Qd) (a4:List Int) (a5 a6 a7:Int) (a8:List Qi) (a9 a10:List Int) (a11:List (List Int)) (a12 a13:Int) (a14:List QH) (a15 a16 a17:Int) (a18:List QL) (hf:vc (a0,a1,a2,a3,a4,a5,a6,a7,a8,a9,a10,a11,a12,a13,a14,a15,a16,a17,a18)):Kb w (a0,a1,a2,a3,a4,a5,a6,a7,a8,a9,a10,a11,a12,a13,a14,a15,a16,a17,a18)=some true:=by
 apply QaQ
 have hs:Qie (a0,a1,a2,a3,a4,a5,a6,a7,a8,a9,a10,a11,a12,a13,a14,a15,a16,a17,a18):=Qp2 (a0,a1,a2,a3,a4,a5,a6,a7,a8,a9,a10,a11,a12,a13,a14,a15,a16,a17,a18) hf
 simp only[Vo,QqN a0 a1 a2 a3 a4 a5 a6 a7 a8 a9 a10 a11 a12 a13 a14 a15 a16 a17 a18 1048576 (by omega) (by omega) hf,QQ0]
 by_cases h:(JX (a0,a1,a2,a3,a4,a5,a6,a7,a8,a9,a10,a11,a12,a13,a14,a15,a16,a17,a18):Int)<=1048576
 ·rw[Kt h,df (by omega),QQ2]
  simp only[Qq1 a0 a1 a2 a3 a4 a5 a6 a7 a8 a9 a10 a11 a12 a13 a14 a15 a16 a17 a18 (by omega),QkD (a0,a1,a2,a3,a4,a5,a6,a7,a8,a9,a10,a11,a12,a13,a14,a15,a16,a17,a18) hs,QlG (a0,a1,a2,a3,a4,a5,a6,a7,a8,a9,a10,a11,a12,a13,a14,a15,a16,a17,a18) hs,QqV a0 a1 a2 a3 a4 a5 a6 a7 a8 a9 a10 a11 a12 a13 a14 a15 a16 a17 a18 (by omega),QQ0,Q8,QQ3,QQ2]
 ·rw[Y3 h,dt (by omega),QQ1]
end Go.Proofs.YtameehmkoglkeaaGreatDoor.M
