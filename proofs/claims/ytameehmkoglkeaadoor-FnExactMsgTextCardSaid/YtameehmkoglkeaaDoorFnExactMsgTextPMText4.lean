/- What the plain forms that FnExactMsgText reaches come to: PMText4. No conditions but those that each theorem states. -/
import Derived.Test.YtameehmkoglkeaaDoorFnExactMsgTextPMText3
set_option linter.all false
namespace Go.Proofs.YtameehmkoglkeaaDoor.M
open Go Go.Eng Go.Proofs
set_option linter.unusedVariables false
theorem Qgw {s:QM}(h:Kr s=true):StT s:=by
 have hl:=QhI h
 refine⟨fun x hx=> ?_,fun f hf=> ?_,hl.1,hl.2⟩
 ·have:=QfE h x hx
  exact⟨ZB.1 this.1,this.2⟩
 ·have hfl:Qy (-1) s.2=true:=by simp only[Kr,QQ5]at h;exact h.1
  have:=Qbo _ _ hfl f hf
  have h1:=ZB.1 this.1
  have h2:=ZB.1 this.2
  omega
theorem Qal {s:QM}(h:StT s):(Y8 s).length<=1010:=by
 have:=yu [32] rfl 100 (s.1.map Xc++s.2.map Xt) (fun x hx=>by
  rcases QRh.1 hx with hx|hx
  ·obtain⟨y,hy,rfl⟩:=List.mem_map.1 hx;exact(yf (h.items y hy)).2
  ·obtain⟨y,hy,rfl⟩:=List.mem_map.1 hx;exact(vW (h.floors y hy)).2)
 have h1:=h.l1
 have h2:=h.l2
 rw[QRj,List.length_map,List.length_map]at this
 unfold Y8
 omega
def yp (l:List UInt8):List UInt8:=if l=[]then []else [32]++l
def names:List ByteArray:=[(⟨#[112,117,115,104]⟩:ByteArray),(⟨#[97,99,107]⟩:ByteArray),(⟨#[115,121,110]⟩:ByteArray),(⟨#[114,101,112,108,121]⟩:ByteArray),(⟨#[108,97,115,116]⟩:ByteArray),(⟨#[98,117,115,121]⟩:ByteArray)]
def vb (k:Int):ByteArray:=rd1 (ByteArray.empty:ByteArray) names k
theorem QeY {k:Int}(h:0<=k/\k<=5):inb k (List.length names)=true/\(vb k).data.toList.length<=5:=by
 have:k=0\/k=1\/k=2\/k=3\/k=4\/k=5:=by omega
 rcases this with rfl|rfl|rfl|rfl|rfl|rfl<;>exact⟨rfl,by decide⟩
def Qhf (m:X7):List UInt8:=(vb m.1).data.toList++([32]++(Go.Lib.itoa m.2.1++([62]++(Go.Lib.itoa m.2.2.1++([35]++(Go.Lib.itoa m.2.2.2.1++yp (Y8 (m.2.2.2.2.2.2.2.2.2.1,m.2.2.2.2.2.2.2.2.2.2.1))))))))
def vc (m:X7):ByteArray:=bif Kb m then bsl (Qhf m)else⟨#[63]⟩
theorem Qjn (l:List UInt8) (h:l.length<=1010):YX w (bsl l)=some (bsl (yp l)):=by
 apply vj
 have c32:(⟨#[32]⟩:ByteArray)=bsl [32]:=rfl
 simp only[Jm,Jo,c32,XV,Xf,yp]
 by_cases h0:l=[]
 ·rw[dt h0,if_pos h0];rfl
 ·rw[df h0,if_neg h0,QQ2,Qr _ (by simp;omega)];rfl
theorem Qfm (m:X7) (h:Qc3 m):K6 w m=some (vc m):=by
 apply Qai
 have ho:ZU w m=some (Kb m):=QiG m h
 have ho':ZU w (m.1,m.2.1,m.2.2.1,m.2.2.2.1,m.2.2.2.2.1,m.2.2.2.2.2.1,m.2.2.2.2.2.2.1,m.2.2.2.2.2.2.2.1,m.2.2.2.2.2.2.2.2.1,m.2.2.2.2.2.2.2.2.2.1,m.2.2.2.2.2.2.2.2.2.2.1,m.2.2.2.2.2.2.2.2.2.2.2)=some (Kb m):=ho
 obtain⟨a0,a1,a2,a3,a4,a5,a6,a7,a8,a9,a10,a11⟩:=m
 simp only at ho'
 simp only[qB,ho',QQ0,vc]
 cases hk:Kb (a0,a1,a2,a3,a4,a5,a6,a7,a8,a9,a10,a11)
 ·rfl
 ·have ok:=mok hk
  have r0:=ZB.1 ok.kind
  have r1:=ZB.1 ok.src
  have r2:=ZB.1 ok.dst
  have r3:=ZB.1 ok.num
  simp only at r0 r1 r2 r3
  have hs:=Qgw ok.part
  simp only at hs
  have hsl:=Qal hs
  have hn:=QeY r0
  have l1:=Q1 (n:=a1) (by omega) (by omega)
  have l2:=Q1 (n:=a2) (by omega) (by omega)
  have l3:=Q1 (n:=a3) (by omega) (by omega)
  have c32:(⟨#[32]⟩:ByteArray)=bsl [32]:=rfl
  have c62:(⟨#[62]⟩:ByteArray)=bsl [62]:=rfl
  have c35:(⟨#[35]⟩:ByteArray)=bsl [35]:=rfl
  have en:rd1 (ByteArray.empty:ByteArray) ([(⟨#[112,117,115,104]⟩:ByteArray),(⟨#[97,99,107]⟩:ByteArray),(⟨#[115,121,110]⟩:ByteArray),(⟨#[114,101,112,108,121]⟩:ByteArray),(⟨#[108,97,115,116]⟩:ByteArray),(⟨#[98,117,115,121]⟩:ByteArray)]:List ByteArray) a0=bsl (vb a0).data.toList:=(yi _).symm
  have ei:inb a0 (List.length [(⟨#[112,117,115,104]⟩:ByteArray),(⟨#[97,99,107]⟩:ByteArray),(⟨#[115,121,110]⟩:ByteArray),(⟨#[114,101,112,108,121]⟩:ByteArray),(⟨#[108,97,115,116]⟩:ByteArray),(⟨#[98,117,115,121]⟩:ByteArray)])=true:=hn.1
  simp only[QQ3,QQ2,ei,en,QQ1,Zk a1 (by omega) (by omega),Zk a2 (by omega) (by omega),Zk a3 (by omega) (by omega),Qc4 (a9,a10) hs,QQ0,digits,c32,c62,c35,XV,Xf,Jo,Qhf]
  have hnl:=hn.2
  generalize (vb a0).data.toList=nl at hnl
  rw[Qr _ (by simp only[QRj,List.length_cons,List.length_nil];omega),Qr _ (by simp only[QRj,List.length_cons,List.length_nil];omega),Qr _ (by simp only[QRj,List.length_cons,List.length_nil];omega),Qr _ (by simp only[QRj,List.length_cons,List.length_nil];omega),Qr _ (by simp only[QRj,List.length_cons,List.length_nil];omega),Qr _ (by simp only[QRj,List.length_cons,List.length_nil];omega)]
  generalize Y8 (a9,a10)=sl at hsl
  simp only[QQ1,yp]
  by_cases h0:sl=[]
  ·subst h0
   rw[dt (show([]:List UInt8)=[]from rfl)]
   simp
  ·rw[df h0,if_neg h0,QQ4,QQ1,Qr _ (by simp only[QRj,List.length_cons,List.length_nil];omega),Qr _ (by simp only[QRj,List.length_cons,List.length_nil];omega)]
   simp
theorem Qeo (m:X7) (h:Qc3 m):Vx w m=some (vc m):=by
 apply Qao
 have ho':YD w (m.1,m.2.1,m.2.2.1,m.2.2.2.1,m.2.2.2.2.1,m.2.2.2.2.2.1,m.2.2.2.2.2.2.1,m.2.2.2.2.2.2.2.1,m.2.2.2.2.2.2.2.2.1,m.2.2.2.2.2.2.2.2.2.1,m.2.2.2.2.2.2.2.2.2.2.1,m.2.2.2.2.2.2.2.2.2.2.2)=some (Kb m):=QhM m h
 obtain⟨a0,a1,a2,a3,a4,a5,a6,a7,a8,a9,a10,a11⟩:=m
 simp only at ho'
 simp only[qG,ho',QQ0,vc]
 cases hk:Kb (a0,a1,a2,a3,a4,a5,a6,a7,a8,a9,a10,a11)
 ·rfl
 ·have ok:=mok hk
  have r0:=ZB.1 ok.kind
  have r1:=ZB.1 ok.src
  have r2:=ZB.1 ok.dst
  have r3:=ZB.1 ok.num
  simp only at r0 r1 r2 r3
  have hs:=Qgw ok.part
  simp only at hs
  have hsl:=Qal hs
  have hn:=QeY r0
  have l1:=Q1 (n:=a1) (by omega) (by omega)
  have l2:=Q1 (n:=a2) (by omega) (by omega)
  have l3:=Q1 (n:=a3) (by omega) (by omega)
  have c32:(⟨#[32]⟩:ByteArray)=bsl [32]:=rfl
  have c62:(⟨#[62]⟩:ByteArray)=bsl [62]:=rfl
  have c35:(⟨#[35]⟩:ByteArray)=bsl [35]:=rfl
  have en:rd1 (ByteArray.empty:ByteArray) ([(⟨#[112,117,115,104]⟩:ByteArray),(⟨#[97,99,107]⟩:ByteArray),(⟨#[115,121,110]⟩:ByteArray),(⟨#[114,101,112,108,121]⟩:ByteArray),(⟨#[108,97,115,116]⟩:ByteArray),(⟨#[98,117,115,121]⟩:ByteArray)]:List ByteArray) a0=bsl (vb a0).data.toList:=(yi _).symm
  have ei:inb a0 (List.length [(⟨#[112,117,115,104]⟩:ByteArray),(⟨#[97,99,107]⟩:ByteArray),(⟨#[115,121,110]⟩:ByteArray),(⟨#[114,101,112,108,121]⟩:ByteArray),(⟨#[108,97,115,116]⟩:ByteArray),(⟨#[98,117,115,121]⟩:ByteArray)])=true:=hn.1
  simp only[QQ3,QQ2,ei,en,QQ1,XM a1 (by omega) (by omega),XM a2 (by omega) (by omega),XM a3 (by omega) (by omega),QcJ (a9,a10) hs,Qjn _ hsl,QQ0,digits,c32,c62,c35,XV,Xf,Jo,Qhf]
  have hnl:=hn.2
  generalize (vb a0).data.toList=nl at hnl
  rw[Qr _ (by simp only[QRj,List.length_cons,List.length_nil];omega),Qr _ (by simp only[QRj,List.length_cons,List.length_nil];omega),Qr _ (by simp only[QRj,List.length_cons,List.length_nil];omega),Qr _ (by simp only[QRj,List.length_cons,List.length_nil];omega),Qr _ (by simp only[QRj,List.length_cons,List.length_nil];omega),Qr _ (by simp only[QRj,List.length_cons,List.length_nil];omega)]
  have htl:(yp (Y8 (a9,a10))).length<=1011:=by
   unfold yp;split
   ·simp
   ·simp;omega
  generalize yp (Y8 (a9,a10))=tl at htl
  rw[Qr _ (by simp only[QRj,List.length_cons,List.length_nil];omega)]
  simp
end Go.Proofs.YtameehmkoglkeaaDoor.M
