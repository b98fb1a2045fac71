/- What the plain forms that FnExactWorldText reaches come to: PMText3. No conditions but those that each theorem states. -/
import Derived.Test.YtameehmkoglkeaaGreatDoorFnExactWorldTextPSt
set_option linter.all false
namespace Go.Proofs.YtameehmkoglkeaaGreatDoor.M
open Go Go.Eng Go.Proofs
set_option linter.unusedVariables false
def Zn (x:Qg):List UInt8:=Go.Lib.itoa x.1++([61]++x6 x.2)
def ZT (f:Qb):List UInt8:=[45]++(Go.Lib.itoa f.1++([60]++Go.Lib.itoa f.2))
def KD (s:Qn):List UInt8:=Go.Lib.join (s.1.map Zn++s.2.map ZT) [32]
theorem Qip {e:XI}(h:Zm e=true):(x6 e).length<=75:=by
 have hn:=QdD h
 have l0:=Xa (n:=e.1) (by omega) (by omega)
 have l2:=Xa (n:=e.2.2.1) (by omega) (by omega)
 have l3:=Xa (n:=e.2.2.2.1) (by omega) (by omega)
 have lt:e.2.2.2.2.data.toList.length<=8:=by rw[<-Go.Lib.size_eq];omega
 simp only[x6,QRj,List.length_cons,List.length_nil]
 omega
structure StT (s:Qn):Prop where
 items:∀x∈s.1,(0<=x.1/\x.1<=4)/\Zm x.2=true
 floors:∀f∈s.2,(0<=f.1/\f.1<=100000)/\0<=f.2/\f.2<=100000
 l1:s.1.length<=5
 l2:s.2.length<=5
theorem Qiv {x:Qg}(h:(0<=x.1/\x.1<=4)/\Zm x.2=true):Zn x≠[]/\(Zn x).length<=100:=by
 have l0:=Xa (n:=x.1) (by omega) (by omega)
 have l1:=Qip h.2
 refine⟨by simp[Zn], ?_⟩
 simp only[Zn,QRj,List.length_cons,List.length_nil]
 omega
theorem Qlw {f:Qb}(h:(0<=f.1/\f.1<=100000)/\0<=f.2/\f.2<=100000):ZT f≠[]/\(ZT f).length<=100:=by
 have l0:=Xa (n:=f.1) (by omega) (by omega)
 have l1:=Xa (n:=f.2) (by omega) (by omega)
 refine⟨by simp[ZT], ?_⟩
 simp only[ZT,QRj,List.length_cons,List.length_nil]
 omega
theorem Qj5 (s:Qn) (h:StT s):Vu w s=some (bsl (KD s)):=by
 obtain⟨a,b⟩:=s
 obtain⟨hi',hf',h1,h2⟩:=h
 simp only at hi' hf' h1 h2
 apply QkO
 have c61:(⟨#[61]⟩:ByteArray)=bsl [61]:=rfl
 have c45:(⟨#[45]⟩:ByteArray)=bsl [45]:=rfl
 have c60:(⟨#[60]⟩:ByteArray)=bsl [60]:=rfl
 have e1:=Q3 a.length (fun i (o:List ByteArray)=>Yz wl (a,(a.length:Int),(i:Int),a,b,o)) (fun i o=>(a,b,o++((a.drop i).map Zn).map bsl)) (fun i o=>o.length=i)
  (fun i hi o ho ih=>by
    apply Qac
    have hx:=hi' _ (QRf hi)
    have l0:=Xa (n:=a[i].1) (by omega) (by omega)
    have le:=Qip hx.2
    have ih1:=ih (o++[bsl (Zn a[i])]) (by simp[ho])
    have hd:=ZJ a[i].1 (by omega) (by omega)
    simp only[xF,ilt hi,Ql hi,Qi hi,QQ1,hd,Qrn a[i].2 hx.2,QQ0,inc hi (show a.length<=maxLen by simp only[maxLen];omega),digits,c61,Xz,Xe]
    rw[Qq _ (by simp;omega),Qq _ (by simp;omega),QF (by simp;omega),QRa hi,List.map_cons,List.map_cons]
    simp only[QQ1]
    rw[QRc]at ih1
    have ew:Go.Lib.itoa a[i].1++[61]++x6 a[i].2=Zn a[i]:=by simp[Zn]
    rw[ew]
    exact ih1)
  (fun o ho=>by
    apply Qac
    simp only[xF,Qs,QQ2,QRl,List.map_nil,List.append_nil])
  [] rfl
 have e2:=fun(p:List ByteArray) (hp:p.length<=5)=>Q3 b.length (fun i (o:List ByteArray)=>Yw wl (b,(b.length:Int),(i:Int),o)) (fun i o=>o++((b.drop i).map ZT).map bsl) (fun i o=>o.length<=5+i)
  (fun i hi o ho ih=>by
    apply Qae
    have hx:=hf' _ (QRf hi)
    have l0:=Xa (n:=b[i].1) (by omega) (by omega)
    have l1:=Xa (n:=b[i].2) (by omega) (by omega)
    have ih1:=ih (o++[bsl (ZT b[i])]) (by simp;omega)
    have hd:=ZJ b[i].1 (by omega) (by omega)
    have hd2:=ZJ b[i].2 (by omega) (by omega)
    simp only[xE,ilt hi,Ql hi,Qi hi,QQ1,hd,hd2,QQ0,inc hi (show b.length<=maxLen by simp only[maxLen];omega),digits,c45,c60,Xz,Xe]
    rw[Qq _ (by simp;omega),Qq _ (by simp;omega),Qq _ (by simp;omega),QF (by simp;omega),QRa hi,List.map_cons,List.map_cons]
    simp only[QQ1]
    rw[QRc]at ih1
    have ew: [45]++Go.Lib.itoa b[i].1++[60]++Go.Lib.itoa b[i].2=ZT b[i]:=by simp[ZT]
    rw[ew]
    exact ih1)
  (fun o ho=>by
    apply Qae
    simp only[xE,Qs,QQ2,QRl,List.map_nil,List.append_nil])
  p (by omega)
 have e2':=e2 ((a.map Zn).map bsl) (by simpa using h1)
 simp only[QQ6,QRg,QRe]at e1 e2'
 have ej:=QsF (a.map Zn++b.map ZT) 32 100 (fun x hx=>by
  rcases QRh.1 hx with hx|hx
  ·obtain⟨y,hy,rfl⟩:=List.mem_map.1 hx;exact(Qiv (hi' y hy)).2
  ·obtain⟨y,hy,rfl⟩:=List.mem_map.1 hx;exact(Qlw (hf' y hy)).2) (by omega) (by simp;omega)
 rw[List.map_append]at ej
 simp only[QbG,e1,QQ0,e2',KD]
 exact(congrArg (fun z=>Option.bind z _) ej).trans rfl
theorem Qjd (s:Qn) (h:StT s):VH w s=some (bsl (KD s)):=by
 obtain⟨a,b⟩:=s
 obtain⟨hi',hf',h1,h2⟩:=h
 simp only at hi' hf' h1 h2
 apply QkL
 have c61:(⟨#[61]⟩:ByteArray)=bsl [61]:=rfl
 have c45:(⟨#[45]⟩:ByteArray)=bsl [45]:=rfl
 have c60:(⟨#[60]⟩:ByteArray)=bsl [60]:=rfl
 have c32:(⟨#[32]⟩:ByteArray)=bsl [32]:=rfl
 have e1:=Q3 a.length (fun i (ws:List (List UInt8))=>X3 wl (bsl (Go.Lib.join ws [32]),(i:Int),a,b)) (fun i ws=>(bsl (Go.Lib.join (ws++(a.drop i).map Zn) [32]),a,b)) (fun i ws=>ws.length=i/\∀x∈ws,x≠[]/\x.length<=100)
  (fun i hi ws hw ih=>by
    apply jU
    have hx:=hi' _ (QRf hi)
    have l0:=Xa (n:=a[i].1) (by omega) (by omega)
    have le:=Qip hx.2
    have hj:=Qax [32] rfl 100 ws (fun x hx=>(hw.2 x hx).2)
    have hem:=QmT [32] ws (fun x hx=>(hw.2 x hx).1)
    have ih1:=ih (ws++[Zn a[i]]) ⟨by simp[hw.1],fun x hx'=>by
     rcases QRh.1 hx' with hx'|hx'
     ·exact hw.2 x hx'
     ·obtain rfl:=List.mem_singleton.1 hx';exact Qiv hx⟩
    have hd:=Zg a[i].1 (by omega) (by omega)
    simp only[xK,ilt hi,Ql hi,Qi hi,QQ1,hd,QqA a[i].2 hx.2,QQ0,inc hi (show a.length<=maxLen by simp only[maxLen];omega),digits,c61,c32,Xz,Xe,qC]
    rw[QjK]at ih1
    rw[QRa hi,List.map_cons]
    have hfin:ws++Zn a[i]::(a.drop (i+1)).map Zn=ws++[Zn a[i]]++(a.drop (i+1)).map Zn:=by simp
    rw[hfin]
    by_cases hws:ws=[]
    ·subst hws
     rw[if_pos rfl]at ih1
     rw[dt (show Go.Lib.join [] [32]=[]from rfl),QQ3,QQ2,Go.Lib.join_nil,Qq _ (by simp;omega),Qq _ (by simp;omega),Qq _ (by simp;omega)]
     simp only[QQ1,QRe]
     have ew:Go.Lib.itoa a[i].1++[61]++x6 a[i].2=Zn a[i]:=by simp[Zn]
     rw[ew]
     exact ih1
    ·rw[if_neg hws]at ih1
     rw[df (fun e=>hws (hem.1 e)),QQ4,QQ1,Qq _ (by simp;omega),Qq _ (by simp;omega),Qq _ (by simp;omega),Qq _ (by simp;omega)]
     simp only[QQ1]
     have ew:Go.Lib.join ws [32]++[32]++Go.Lib.itoa a[i].1++[61]++x6 a[i].2=Go.Lib.join ws [32]++([32]++Zn a[i]):=by simp[Zn]
     rw[ew]
     exact ih1)
  (fun ws hw=>by
    apply jU
    simp only[xK,Qs,QQ2,QRl,List.map_nil,List.append_nil])
  [] ⟨rfl,by simp⟩
 have e2:=Q3 b.length (fun i (ws:List (List UInt8))=>ZI wl (bsl (Go.Lib.join ws [32]),(i:Int),a,b)) (fun i ws=>bsl (Go.Lib.join (ws++(b.drop i).map ZT) [32])) (fun i ws=>ws.length<=5+i/\∀x∈ws,x≠[]/\x.length<=100)
  (fun i hi ws hw ih=>by
    apply vL
    have hx:=hf' _ (QRf hi)
    have l0:=Xa (n:=b[i].1) (by omega) (by omega)
    have l1:=Xa (n:=b[i].2) (by omega) (by omega)
    have hj:=Qax [32] rfl 100 ws (fun x hx=>(hw.2 x hx).2)
    have hem:=QmT [32] ws (fun x hx=>(hw.2 x hx).1)
    have ih1:=ih (ws++[ZT b[i]]) ⟨by simp;omega,fun x hx'=>by
     rcases QRh.1 hx' with hx'|hx'
     ·exact hw.2 x hx'
     ·obtain rfl:=List.mem_singleton.1 hx';exact Qlw hx⟩
    have hd:=Zg b[i].1 (by omega) (by omega)
    have hd2:=Zg b[i].2 (by omega) (by omega)
    simp only[xA,ilt hi,Ql hi,Qi hi,QQ1,hd,hd2,QQ0,inc hi (show b.length<=maxLen by simp only[maxLen];omega),digits,c45,c60,c32,Xz,Xe,qC]
    rw[QjK]at ih1
    rw[QRa hi,List.map_cons]
    have hfin:ws++ZT b[i]::(b.drop (i+1)).map ZT=ws++[ZT b[i]]++(b.drop (i+1)).map ZT:=by simp
    rw[hfin]
    by_cases hws:ws=[]
    ·subst hws
     rw[if_pos rfl]at ih1
     rw[dt (show Go.Lib.join [] [32]=[]from rfl),QQ3,QQ2,Go.Lib.join_nil,Qq _ (by simp),Qq _ (by simp;omega),Qq _ (by simp;omega),Qq _ (by simp;omega)]
     simp only[QQ1,QRe]
     have ew: [45]++Go.Lib.itoa b[i].1++[60]++Go.Lib.itoa b[i].2=ZT b[i]:=by simp[ZT]
     rw[ew]
     exact ih1
    ·rw[if_neg hws]at ih1
     rw[df (fun e=>hws (hem.1 e)),QQ4,QQ1,Qq _ (by simp;omega),Qq _ (by simp;omega),Qq _ (by simp;omega),Qq _ (by simp;omega),Qq _ (by simp;omega)]
     simp only[QQ1]
     have ew:Go.Lib.join ws [32]++[32]++[45]++Go.Lib.itoa b[i].1++[60]++Go.Lib.itoa b[i].2=Go.Lib.join ws [32]++([32]++ZT b[i]):=by simp[ZT]
     rw[ew]
     exact ih1)
  (fun ws hw=>by
    apply vL
    simp only[xA,Qs,QQ2,QRl,List.map_nil,List.append_nil])
  (a.map Zn) ⟨by simpa using h1,fun x hx=>by obtain⟨y,hy,rfl⟩:=List.mem_map.1 hx;exact Qiv (hi' y hy)⟩
 simp only[QQ6,QRg,QRe,Go.Lib.join_nil]at e1 e2
 have e1':X3 wl ((⟨#[]⟩:ByteArray),0,a,b)=some (bsl (Go.Lib.join (a.map Zn) [32]),a,b):=e1
 simp only[QbM,e1',QQ0,e2,KD]
end Go.Proofs.YtameehmkoglkeaaGreatDoor.M
namespace Go.Proofs.YtameehmkoglkeaaGreatDoor.M
open Go Go.Eng Go.Proofs
set_option linter.unusedVariables false
theorem QhL {s:Qn}(h:Q0 s=true):StT s:=by
 have hl:=Jn h
 refine⟨fun x hx=> ?_,fun f hf=> ?_,hl.1,hl.2⟩
 ·have:=Qog h x hx
  exact⟨QW.1 this.1,this.2⟩
 ·have hfl:QJ (-1) s.2=true:=by simp only[Q0,QQ5]at h;exact h.1
  have:=Qiq _ _ hfl f hf
  have h1:=QW.1 this.1
  have h2:=QW.1 this.2
  omega
theorem qU {s:Qn}(h:StT s):(KD s).length<=1010:=by
 have:=Qax [32] rfl 100 (s.1.map Zn++s.2.map ZT) (fun x hx=>by
  rcases QRh.1 hx with hx|hx
  ·obtain⟨y,hy,rfl⟩:=List.mem_map.1 hx;exact(Qiv (h.items y hy)).2
  ·obtain⟨y,hy,rfl⟩:=List.mem_map.1 hx;exact(Qlw (h.floors y hy)).2)
 have h1:=h.l1
 have h2:=h.l2
 rw[QRj,List.length_map,List.length_map]at this
 unfold KD
 omega
def J8 (l:List UInt8):List UInt8:=if l=[]then []else [32]++l
def names:List ByteArray:=[(⟨#[112,117,115,104]⟩:ByteArray),(⟨#[97,99,107]⟩:ByteArray),(⟨#[115,121,110]⟩:ByteArray),(⟨#[114,101,112,108,121]⟩:ByteArray),(⟨#[108,97,115,116]⟩:ByteArray),(⟨#[98,117,115,121]⟩:ByteArray)]
def Qkz (k:Int):ByteArray:=rd1 (ByteArray.empty:ByteArray) names k
theorem QpB {k:Int}(h:0<=k/\k<=5):inb k (List.length names)=true/\(Qkz k).data.toList.length<=5:=by
 have:k=0\/k=1\/k=2\/k=3\/k=4\/k=5:=by omega
 rcases this with rfl|rfl|rfl|rfl|rfl|rfl<;>exact⟨rfl,by decide⟩
def QvG (m:XM):List UInt8:=(Qkz m.1).data.toList++([32]++(Go.Lib.itoa m.2.1++([62]++(Go.Lib.itoa m.2.2.1++([35]++(Go.Lib.itoa m.2.2.2.1++J8 (KD (m.2.2.2.2.2.2.2.2.2.1,m.2.2.2.2.2.2.2.2.2.2.1))))))))
def YN (m:XM):ByteArray:=bif Zb m then bsl (QvG m)else⟨#[63]⟩
theorem Qw9 (l:List UInt8) (h:l.length<=1010):VN w (bsl l)=some (bsl (J8 l)):=by
 apply QkJ
 have c32:(⟨#[32]⟩:ByteArray)=bsl [32]:=rfl
 simp only[Qcq,qC,c32,Xz,Xe,J8]
 by_cases h0:l=[]
 ·rw[dt h0,if_pos h0];rfl
 ·rw[df h0,if_neg h0,QQ2,Qq _ (by simp;omega)];rfl
theorem Qu9 (m:XM) (h:Qil m):VP w m=some (YN m):=by
 apply QnG
 have ho:YH w m=some (Zb m):=QzV m h
 have ho':YH w (m.1,m.2.1,m.2.2.1,m.2.2.2.1,m.2.2.2.2.1,m.2.2.2.2.2.1,m.2.2.2.2.2.2.1,m.2.2.2.2.2.2.2.1,m.2.2.2.2.2.2.2.2.1,m.2.2.2.2.2.2.2.2.2.1,m.2.2.2.2.2.2.2.2.2.2.1,m.2.2.2.2.2.2.2.2.2.2.2)=some (Zb m):=ho
 obtain⟨a0,a1,a2,a3,a4,a5,a6,a7,a8,a9,a10,a11⟩:=m
 simp only at ho'
 simp only[QfN,ho',QQ0,YN]
 cases hk:Zb (a0,a1,a2,a3,a4,a5,a6,a7,a8,a9,a10,a11)
 ·rfl
 ·have ok:=mok hk
  have r0:=QW.1 ok.kind
  have r1:=QW.1 ok.src
  have r2:=QW.1 ok.dst
  have r3:=QW.1 ok.num
  simp only at r0 r1 r2 r3
  have hs:=QhL ok.part
  simp only at hs
  have hsl:=qU hs
  have hn:=QpB r0
  have l1:=Xa (n:=a1) (by omega) (by omega)
  have l2:=Xa (n:=a2) (by omega) (by omega)
  have l3:=Xa (n:=a3) (by omega) (by omega)
  have c32:(⟨#[32]⟩:ByteArray)=bsl [32]:=rfl
  have c62:(⟨#[62]⟩:ByteArray)=bsl [62]:=rfl
  have c35:(⟨#[35]⟩:ByteArray)=bsl [35]:=rfl
  have en:rd1 (ByteArray.empty:ByteArray) ([(⟨#[112,117,115,104]⟩:ByteArray),(⟨#[97,99,107]⟩:ByteArray),(⟨#[115,121,110]⟩:ByteArray),(⟨#[114,101,112,108,121]⟩:ByteArray),(⟨#[108,97,115,116]⟩:ByteArray),(⟨#[98,117,115,121]⟩:ByteArray)]:List ByteArray) a0=bsl (Qkz a0).data.toList:=(qx _).symm
  have ei:inb a0 (List.length [(⟨#[112,117,115,104]⟩:ByteArray),(⟨#[97,99,107]⟩:ByteArray),(⟨#[115,121,110]⟩:ByteArray),(⟨#[114,101,112,108,121]⟩:ByteArray),(⟨#[108,97,115,116]⟩:ByteArray),(⟨#[98,117,115,121]⟩:ByteArray)])=true:=hn.1
  simp only[QQ3,QQ2,ei,en,QQ1,ZJ a1 (by omega) (by omega),ZJ a2 (by omega) (by omega),ZJ a3 (by omega) (by omega),Qj5 (a9,a10) hs,QQ0,digits,c32,c62,c35,Xz,Xe,qC,QvG]
  have hnl:=hn.2
  generalize (Qkz a0).data.toList=nl at hnl
  rw[Qq _ (by simp only[QRj,List.length_cons,List.length_nil];omega),Qq _ (by simp only[QRj,List.length_cons,List.length_nil];omega),Qq _ (by simp only[QRj,List.length_cons,List.length_nil];omega),Qq _ (by simp only[QRj,List.length_cons,List.length_nil];omega),Qq _ (by simp only[QRj,List.length_cons,List.length_nil];omega),Qq _ (by simp only[QRj,List.length_cons,List.length_nil];omega)]
  generalize KD (a9,a10)=sl at hsl
  simp only[QQ1,J8]
  by_cases h0:sl=[]
  ·subst h0
   rw[dt (show([]:List UInt8)=[]from rfl)]
   simp
  ·rw[df h0,if_neg h0,QQ4,QQ1,Qq _ (by simp only[QRj,List.length_cons,List.length_nil];omega),Qq _ (by simp only[QRj,List.length_cons,List.length_nil];omega)]
   simp
theorem Qle (m:XM) (h:Qil m):YZ w m=some (YN m):=by
 apply QmM
 have ho':KL w (m.1,m.2.1,m.2.2.1,m.2.2.2.1,m.2.2.2.2.1,m.2.2.2.2.2.1,m.2.2.2.2.2.2.1,m.2.2.2.2.2.2.2.1,m.2.2.2.2.2.2.2.2.1,m.2.2.2.2.2.2.2.2.2.1,m.2.2.2.2.2.2.2.2.2.2.1,m.2.2.2.2.2.2.2.2.2.2.2)=some (Zb m):=Qy2 m h
 obtain⟨a0,a1,a2,a3,a4,a5,a6,a7,a8,a9,a10,a11⟩:=m
 simp only at ho'
 simp only[Qe0,ho',QQ0,YN]
 cases hk:Zb (a0,a1,a2,a3,a4,a5,a6,a7,a8,a9,a10,a11)
 ·rfl
 ·have ok:=mok hk
  have r0:=QW.1 ok.kind
  have r1:=QW.1 ok.src
  have r2:=QW.1 ok.dst
  have r3:=QW.1 ok.num
  simp only at r0 r1 r2 r3
  have hs:=QhL ok.part
  simp only at hs
  have hsl:=qU hs
  have hn:=QpB r0
  have l1:=Xa (n:=a1) (by omega) (by omega)
  have l2:=Xa (n:=a2) (by omega) (by omega)
  have l3:=Xa (n:=a3) (by omega) (by omega)
  have c32:(⟨#[32]⟩:ByteArray)=bsl [32]:=rfl
  have c62:(⟨#[62]⟩:ByteArray)=bsl [62]:=rfl
  have c35:(⟨#[35]⟩:ByteArray)=bsl [35]:=rfl
  have en:rd1 (ByteArray.empty:ByteArray) ([(⟨#[112,117,115,104]⟩:ByteArray),(⟨#[97,99,107]⟩:ByteArray),(⟨#[115,121,110]⟩:ByteArray),(⟨#[114,101,112,108,121]⟩:ByteArray),(⟨#[108,97,115,116]⟩:ByteArray),(⟨#[98,117,115,121]⟩:ByteArray)]:List ByteArray) a0=bsl (Qkz a0).data.toList:=(qx _).symm
  have ei:inb a0 (List.length [(⟨#[112,117,115,104]⟩:ByteArray),(⟨#[97,99,107]⟩:ByteArray),(⟨#[115,121,110]⟩:ByteArray),(⟨#[114,101,112,108,121]⟩:ByteArray),(⟨#[108,97,115,116]⟩:ByteArray),(⟨#[98,117,115,121]⟩:ByteArray)])=true:=hn.1
  simp only[QQ3,QQ2,ei,en,QQ1,Zg a1 (by omega) (by omega),Zg a2 (by omega) (by omega),Zg a3 (by omega) (by omega),Qjd (a9,a10) hs,Qw9 _ hsl,QQ0,digits,c32,c62,c35,Xz,Xe,qC,QvG]
  have hnl:=hn.2
  generalize (Qkz a0).data.toList=nl at hnl
  rw[Qq _ (by simp only[QRj,List.length_cons,List.length_nil];omega),Qq _ (by simp only[QRj,List.length_cons,List.length_nil];omega),Qq _ (by simp only[QRj,List.length_cons,List.length_nil];omega),Qq _ (by simp only[QRj,List.length_cons,List.length_nil];omega),Qq _ (by simp only[QRj,List.length_cons,List.length_nil];omega),Qq _ (by simp only[QRj,List.length_cons,List.length_nil];omega)]
  have htl:(J8 (KD (a9,a10))).length<=1011:=by
   unfold J8;split
   ·simp
   ·simp;omega
  generalize J8 (KD (a9,a10))=tl at htl
  rw[Qq _ (by simp only[QRj,List.length_cons,List.length_nil];omega)]
  simp
end Go.Proofs.YtameehmkoglkeaaGreatDoor.M
namespace Go.Proofs.YtameehmkoglkeaaGreatDoor.M
open Go Go.Eng Go.Proofs
set_option linter.unusedVariables false
def Qq5 (x:Qp):List UInt8:=[110]++(Go.Lib.itoa x.1++([32,99]++(Go.Lib.itoa x.2.2.2.2.2.2.2.2.2.2.2.2.2.2.2.2.2.1++([32]++(QcI x.2.2.2.2.2.2.2.2.2.1++([32]++(QcI x.2.2.2.2.2.2.2.2.2.2.1++J8 (KD (x.2.2.1,x.2.2.2.1)))))))))
def Jb (x:Qp):ByteArray:=bif ZP x then bsl (Qq5 x)else⟨#[]⟩
theorem QdW {v:List Int}{n:Int}(h:Z2 v n=true) (hn:n<=5):(∀y∈v,inV y)/\v.length<=5:=by
 have:=Qwd h
 refine⟨fun y hy=> ?_,by omega⟩
 have:=QW.1 (this.2 y hy)
 unfold inV;omega
theorem Qtw (x:Qp) (h:QpJ x):zb w x=some (Jb x):=by
 apply Ql1
 have ho:=Qr4 x h
 obtain⟨a0,a1,a2,a3,a4,a5,a6,a7,a8,a9,a10,a11,a12,a13,a14,a15,a16,a17,a18⟩:=x
 simp only[QcZ,ho,QQ0,Jb]
 cases hk:ZP (a0,a1,a2,a3,a4,a5,a6,a7,a8,a9,a10,a11,a12,a13,a14,a15,a16,a17,a18)
 ·rfl
 ·have ok:=nok hk
  have rn:=QW.1 ok.n
  have r0:=QW.1 ok.id
  have rc:=QW.1 ok.clock
  have hg:=QdW ok.got rn.2
  have hc:=QdW ok.ack rn.2
  have hs:=QhL ok.st
  simp only at rn r0 rc hg hc hs
  have hsl:=qU hs
  have hgl:=Qaq a9 hg.1 hg.2
  have hcl:=Qaq a10 hc.1 hc.2
  have l0:=Xa (n:=a0) (by omega) (by omega)
  have l1:=Xa (n:=a17) (by omega) (by omega)
  have c110:(⟨#[110]⟩:ByteArray)=bsl [110]:=rfl
  have c99:(⟨#[32,99]⟩:ByteArray)=bsl [32,99]:=rfl
  have c32:(⟨#[32]⟩:ByteArray)=bsl [32]:=rfl
  simp only[QQ3,QQ2,QQ1,ZJ a0 (by omega) (by omega),ZJ a17 (by omega) (by omega),QmD a9 hg.1 hg.2,QmD a10 hc.1 hc.2,Qj5 (a2,a3) hs,QQ0,digits,c110,c99,c32,Xz,Xe,qC,Qq5]
  generalize QcI a9=v1 at hgl
  generalize QcI a10=v2 at hcl
  rw[Qq _ (by simp only[QRj,List.length_cons,List.length_nil];omega),Qq _ (by simp only[QRj,List.length_cons,List.length_nil];omega),Qq _ (by simp only[QRj,List.length_cons,List.length_nil];omega),Qq _ (by simp only[QRj,List.length_cons,List.length_nil];omega),Qq _ (by simp only[QRj,List.length_cons,List.length_nil];omega),Qq _ (by simp only[QRj,List.length_cons,List.length_nil];omega),Qq _ (by simp only[QRj,List.length_cons,List.length_nil];omega)]
  generalize KD (a2,a3)=sl at hsl
  simp only[QQ1,J8]
  by_cases h0:sl=[]
  ·subst h0
   rw[dt (show([]:List UInt8)=[]from rfl)]
   simp
  ·rw[df h0,if_neg h0,QQ4,QQ1,Qq _ (by simp only[QRj,List.length_cons,List.length_nil];omega),Qq _ (by simp only[QRj,List.length_cons,List.length_nil];omega)]
   simp
theorem Qrj (x:Qp) (h:QpJ x):zo w x=some (Jb x):=by
 apply Qlo
 have ho:=Qqr x h
 obtain⟨a0,a1,a2,a3,a4,a5,a6,a7,a8,a9,a10,a11,a12,a13,a14,a15,a16,a17,a18⟩:=x
 simp only[Qda,ho,QQ0,Jb]
 cases hk:ZP (a0,a1,a2,a3,a4,a5,a6,a7,a8,a9,a10,a11,a12,a13,a14,a15,a16,a17,a18)
 ·rfl
 ·have ok:=nok hk
  have rn:=QW.1 ok.n
  have r0:=QW.1 ok.id
  have rc:=QW.1 ok.clock
  have hg:=QdW ok.got rn.2
  have hc:=QdW ok.ack rn.2
  have hs:=QhL ok.st
  simp only at rn r0 rc hg hc hs
  have hsl:=qU hs
  have hgl:=Qaq a9 hg.1 hg.2
  have hcl:=Qaq a10 hc.1 hc.2
  have l0:=Xa (n:=a0) (by omega) (by omega)
  have l1:=Xa (n:=a17) (by omega) (by omega)
  have c110:(⟨#[110]⟩:ByteArray)=bsl [110]:=rfl
  have c99:(⟨#[32,99]⟩:ByteArray)=bsl [32,99]:=rfl
  have c32:(⟨#[32]⟩:ByteArray)=bsl [32]:=rfl
  simp only[QQ3,QQ2,QQ1,Zg a0 (by omega) (by omega),Zg a17 (by omega) (by omega),Qll a9 hg.1 hg.2,Qll a10 hc.1 hc.2,Qjd (a2,a3) hs,Qw9 _ hsl,QQ0,digits,c110,c99,c32,Xz,Xe,qC,Qq5]
  generalize QcI a9=v1 at hgl
  generalize QcI a10=v2 at hcl
  rw[Qq _ (by simp only[QRj,List.length_cons,List.length_nil];omega),Qq _ (by simp only[QRj,List.length_cons,List.length_nil];omega),Qq _ (by simp only[QRj,List.length_cons,List.length_nil];omega),Qq _ (by simp only[QRj,List.length_cons,List.length_nil];omega),Qq _ (by simp only[QRj,List.length_cons,List.length_nil];omega),Qq _ (by simp only[QRj,List.length_cons,List.length_nil];omega),Qq _ (by simp only[QRj,List.length_cons,List.length_nil];omega)]
  have htl:(J8 (KD (a2,a3))).length<=1011:=by
   unfold J8;split
   ·simp
   ·simp;omega
  generalize J8 (KD (a2,a3))=tl at htl
  rw[Qq _ (by simp only[QRj,List.length_cons,List.length_nil];omega)]
  simp
end Go.Proofs.YtameehmkoglkeaaGreatDoor.M
namespace Go.Proofs.YtameehmkoglkeaaGreatDoor.M
open Go Go.Eng Go.Proofs
set_option linter.unusedVariables false
theorem Qqc {l:List UInt8}(h:l.length<=1010):(J8 l).length<=1011:=by
 unfold J8;split
 ·simp
 ·simp;omega
theorem QeD (x:Qp):(Jb x).data.toList.length<=1300:=by
 unfold Jb
 cases hk:ZP x
 ·simp
 ·have ok:=nok hk
  have rn:=QW.1 ok.n
  have r0:=QW.1 ok.id
  have rc:=QW.1 ok.clock
  have hg:=QdW ok.got rn.2
  have hc:=QdW ok.ack rn.2
  have hsl:=Qqc (qU (QhL ok.st))
  have hgl:=Qaq _ hg.1 hg.2
  have hcl:=Qaq _ hc.1 hc.2
  have l0:=Xa (n:=x.1) (by omega) (by omega)
  have l1:=Xa (n:=x.2.2.2.2.2.2.2.2.2.2.2.2.2.2.2.2.2.1) (by omega) (by omega)
  simp only[QQ1,zK,Qq5,QRj,List.length_cons,List.length_nil]
  omega
theorem QsT (m:XM):(YN m).data.toList.length<=1100:=by
 unfold YN
 cases hk:Zb m
 ·simp
 ·have ok:=mok hk
  have r0:=QW.1 ok.kind
  have r1:=QW.1 ok.src
  have r2:=QW.1 ok.dst
  have r3:=QW.1 ok.num
  have hsl:=Qqc (qU (QhL ok.part))
  have hn:=(QpB r0).2
  have l1:=Xa (n:=m.2.1) (by omega) (by omega)
  have l2:=Xa (n:=m.2.2.1) (by omega) (by omega)
  have l3:=Xa (n:=m.2.2.2.1) (by omega) (by omega)
  simp only[QQ1,zK,QvG,QRj,List.length_cons,List.length_nil]
  omega
def unR (r:QcM):XM:=(r.1,r.2.1,r.2.2.1,r.2.2.2.1,r.2.2.2.2.1,r.2.2.2.2.2.1,r.2.2.2.2.2.2.1,r.2.2.2.2.2.2.2.1,r.2.2.2.2.2.2.2.2.1,r.2.2.2.2.2.2.2.2.2.1,r.2.2.2.2.2.2.2.2.2.2.1,r.2.2.2.2.2.2.2.2.2.2.2.1)
def QlC (r:QcM):List UInt8:=bif r.2.2.2.2.2.2.2.2.2.2.2.2 then(YN (unR r)).data.toList else [63]
def Qdt (p:QH):List UInt8:=(bif p.2.2 then [42]else [])++(QlC (Qe5 p.2.1)++[10])
theorem Qr3 (r:QcM):(QlC r).length<=1100:=by
 unfold QlC
 cases r.2.2.2.2.2.2.2.2.2.2.2.2
 ·simp
 ·exact QsT _
def ZQ (x:Qp):List UInt8:=(Jb x).data.toList++[10]
def QrQ (ns:List Qp) (net:List QH):List UInt8:=ns.flatMap ZQ++net.flatMap Qdt
def Qf2 (ns:List Qp) (net:List QH) (sd:List QI):ByteArray:=bif VS ns net sd then bsl (QrQ ns net)else⟨#[]⟩
theorem Qi2:(ns:List Qp)->(ns.flatMap ZQ).length<=ns.length*1301
 | []=>by simp
 |x::l=>by
  have:=Qi2 l
  have h:=QeD x
  rw[List.flatMap_cons,QRj,List.length_cons]
  simp only[ZQ,QRj,List.length_cons,List.length_nil]
  omega
theorem Qsl (ns:List Qp) (net:List QH) (sd:List QI) (h:smW ns net sd) (hb:∀p∈net,Bs p.2.1):qV w (ns,net,sd)=some (Qf2 ns net sd):=by
 apply QkI
 simp only[QbC,QuH ns net sd h,QQ0,Qf2]
 cases hw:VS ns net sd
 ·rfl
 ·have wk:=Qka hw
  have h5:=wk.n5
  have h12:=wk.net12
  have c10:(⟨#[10]⟩:ByteArray)=bsl [10]:=rfl
  have c42:(⟨#[42]⟩:ByteArray)=bsl [42]:=rfl
  have c63:(⟨#[63,10]⟩:ByteArray)=bsl [63,10]:=rfl
  have e1:=Q3 ns.length (fun i (acc:List UInt8)=>ZF wl (bsl acc,ns,(ns.length:Int),(i:Int),ns,net,sd)) (fun i acc=>(bsl (acc++(ns.drop i).flatMap ZQ),ns,net,sd)) (fun i acc=>acc.length<=i*1301)
   (fun i hi acc ha ih=>by
     apply jV
     have hn:=Qtw ns[i] (h.2.1 _ (QRf hi))
     rw[<-qx (Jb ns[i])]at hn
     have hl:=QeD ns[i]
     have ih1:=ih (acc++ZQ ns[i]) (by simp only[ZQ,QRj,List.length_cons,List.length_nil];omega)
     simp only[xJ,ilt hi,Ql hi,Qi hi,QQ1,hn,QQ0,c10,Xz,Xe,inc hi (show ns.length<=maxLen by simp only[maxLen];omega)]
     rw[Qq _ (by(try simp only[QRj,List.length_cons,List.length_nil]);omega),Qq _ (by(try simp only[QRj,List.length_cons,List.length_nil]);omega),QRa hi,List.flatMap_cons]
     rw[QRc]at ih1
     simp only[QQ1]
     exact ih1)
   (fun acc _=>by
     apply jV
     simp only[xJ,Qs,QQ2,QRl,List.flatMap_nil,List.append_nil])
   [] (by simp)
  have e2:=Q3 net.length (fun i (acc:List UInt8)=>XO wl (bsl acc,net,(net.length:Int),(i:Int))) (fun i acc=>bsl (acc++(net.drop i).flatMap Qdt)) (fun i acc=>acc.length<=7000+i*1200)
   (fun i hi acc ha ih=>by
     apply jn
     have hbs:=hb _ (QRf hi)
     have hl:=Qr3 (Qe5 net[i].2.1)
     have hsp:(bif net[i].2.2 then [42]else([]:List UInt8)).length<=1:=by cases net[i].2.2<;>simp
     have ih1:=ih (acc++Qdt net[i]) (by simp only[Qdt,QRj,List.length_cons,List.length_nil];omega)
     simp only[xH,ilt hi,Ql hi,Qi hi,QQ1,QyU hbs,QQ0,c10,c42,c63,Xz,Xe,inc hi (show net.length<=maxLen by simp only[maxLen];omega)]
     rw[QRa hi,List.flatMap_cons]
     rw[QRc]at ih1
     unfold Qdt at ih1⊢
     rcases QoW hbs.isb with e|⟨m,e,hm,_⟩
     ·rw[e]at ih1 hl⊢
      have er:QlC qP=[63]:=rfl
      rw[er]at ih1
      simp only[qP,QQ2]
      cases hsp2:net[i].2.2
      ·rw[hsp2]at ih1
       simp only[QQ2,QRe]at ih1⊢
       rw[Qq _ (by(try simp only[QRj,List.length_cons,List.length_nil]);omega)]
       simp only[QQ1]
       exact ih1
      ·rw[hsp2]at ih1
       simp only[QQ1]at ih1⊢
       rw[Qq _ (by(try simp only[QRj,List.length_cons,List.length_nil]);omega),Qq _ (by(try simp only[QRj,List.length_cons,List.length_nil]);omega)]
       simp only[QQ1]
       rw[QRc]
       exact ih1
     ·rw[e]at ih1 hl⊢
      have hsm:Qil m:=by
       have hs:=QaI m.1 m.2.1 m.2.2.1 m.2.2.2.1 m.2.2.2.2.1 m.2.2.2.2.2.1 m.2.2.2.2.2.2.1 m.2.2.2.2.2.2.2.1 m.2.2.2.2.2.2.2.2.1 m.2.2.2.2.2.2.2.2.2.1 m.2.2.2.2.2.2.2.2.2.2.1 m.2.2.2.2.2.2.2.2.2.2.2 hm
       have h4:=Jn hs.2.2.2.1
       simp only[Qil,smM,maxLen]at*
       omega
      have ht:=Qu9 m hsm
      rw[<-qx (YN m)]at ht
      have er:QlC (xg m)=(YN m).data.toList:=rfl
      rw[er]at ih1 hl⊢
      have ht':VP w (m.1,m.2.1,m.2.2.1,m.2.2.2.1,m.2.2.2.2.1,m.2.2.2.2.2.1,m.2.2.2.2.2.2.1,m.2.2.2.2.2.2.2.1,m.2.2.2.2.2.2.2.2.1,m.2.2.2.2.2.2.2.2.2.1,m.2.2.2.2.2.2.2.2.2.2.1,m.2.2.2.2.2.2.2.2.2.2.2)=some (bsl (YN m).data.toList):=ht
      simp only[xg,QQ1,ht',QQ0,Xz,Xe]
      cases hsp2:net[i].2.2
      ·rw[hsp2]at ih1
       simp only[QQ2,QRe]at ih1⊢
       rw[Qq _ (by(try simp only[QRj,List.length_cons,List.length_nil]);omega),Qq _ (by(try simp only[QRj,List.length_cons,List.length_nil]);omega)]
       simp only[QQ1]
       exact ih1
      ·rw[hsp2]at ih1
       simp only[QQ1]at ih1⊢
       rw[Qq _ (by(try simp only[QRj,List.length_cons,List.length_nil]);omega),Qq _ (by(try simp only[QRj,List.length_cons,List.length_nil]);omega),Qq _ (by(try simp only[QRj,List.length_cons,List.length_nil]);omega)]
       simp only[QQ1]
       rw[QRc]
       exact ih1)
   (fun acc _=>by
     apply jn
     simp only[xH,Qs,QQ2,QRl,List.flatMap_nil,List.append_nil])
   (ns.flatMap ZQ) (by have:=Qi2 ns;omega)
  simp only[QQ6,QRg,QRe]at e1 e2
  have e1':ZF wl ((⟨#[]⟩:ByteArray),ns,(ns.length:Int),0,ns,net,sd)=some (bsl (ns.flatMap ZQ),ns,net,sd):=e1
  simp only[QQ3,QQ2,QQ1,e1',QQ0,e2,QrQ]
theorem QqT (ns:List Qp) (net:List QH) (sd:List QI) (h:smW ns net sd) (hb:∀p∈net,Bs p.2.1):xd w (ns,net,sd)=some (Qf2 ns net sd):=by
 apply QkK
 simp only[Qbz,Qs5 ns net sd h,QQ0,Qf2]
 cases hw:VS ns net sd
 ·rfl
 ·have wk:=Qka hw
  have h5:=wk.n5
  have h12:=wk.net12
  have c10:(⟨#[10]⟩:ByteArray)=bsl [10]:=rfl
  have c42:(⟨#[42]⟩:ByteArray)=bsl [42]:=rfl
  have c63:(⟨#[63,10]⟩:ByteArray)=bsl [63,10]:=rfl
  have e1:=Q3 ns.length (fun i (acc:List UInt8)=>ZH wl (bsl acc,(i:Int),ns,net,sd)) (fun i acc=>(bsl (acc++(ns.drop i).flatMap ZQ),ns,net,sd)) (fun i acc=>acc.length<=i*1301)
   (fun i hi acc ha ih=>by
     apply jv
     have hn:=Qrj ns[i] (h.2.1 _ (QRf hi))
     rw[<-qx (Jb ns[i])]at hn
     have hl:=QeD ns[i]
     have ih1:=ih (acc++ZQ ns[i]) (by simp only[ZQ,QRj,List.length_cons,List.length_nil];omega)
     simp only[xC,ilt hi,Ql hi,Qi hi,QQ1,hn,QQ0,c10,Xz,Xe,inc hi (show ns.length<=maxLen by simp only[maxLen];omega)]
     rw[Qq _ (by(try simp only[QRj,List.length_cons,List.length_nil]);omega),Qq _ (by(try simp only[QRj,List.length_cons,List.length_nil]);omega),QRa hi,List.flatMap_cons]
     rw[QRc]at ih1
     simp only[QQ1]
     rw[QRc]
     exact ih1)
   (fun acc _=>by
     apply jv
     simp only[xC,Qs,QQ2,QRl,List.flatMap_nil,List.append_nil])
   [] (by simp)
  have e2:=Q3 net.length (fun i (acc:List UInt8)=>ZG wl (bsl acc,(i:Int),ns,net,sd)) (fun i acc=>bsl (acc++(net.drop i).flatMap Qdt)) (fun i acc=>acc.length<=7000+i*1200)
   (fun i hi acc ha ih=>by
     apply jk
     have hbs:=hb _ (QRf hi)
     have hl:=Qr3 (Qe5 net[i].2.1)
     have hsp:(bif net[i].2.2 then [42]else([]:List UInt8)).length<=1:=by cases net[i].2.2<;>simp
     have ih1:=ih (acc++Qdt net[i]) (by simp only[Qdt,QRj,List.length_cons,List.length_nil];omega)
     simp only[xI,ilt hi,Ql hi,Qi hi,QQ1,QwU hbs,Qxe hbs.isb,QQ0,c10,c42,c63,Xz,Xe,inc hi (show net.length<=maxLen by simp only[maxLen];omega)]
     rw[QRa hi,List.flatMap_cons]
     rw[QRc]at ih1
     unfold Qdt at ih1⊢
     rcases QoW hbs.isb with e|⟨m,e,hm,_⟩
     ·rw[e]at ih1 hl⊢
      have ht:YZ w (0,0,0,0,0,[],0,[],[],[],[],[])=some (bsl [63]):=Qle (unR qP) (by simp[unR,qP,Qil,smM,maxLen])
      have er:QlC qP=[63]:=rfl
      rw[er]at ih1
      simp only[qP,ht,QQ0,Xz,Xe]
      cases hsp2:net[i].2.2
      ·rw[hsp2]at ih1
       simp only[QQ2,QRe]at ih1⊢
       rw[Qq _ (by(try simp only[QRj,List.length_cons,List.length_nil]);omega),Qq _ (by(try simp only[QRj,List.length_cons,List.length_nil]);omega)]
       simp only[QQ1]
       rw[QRc]
       exact ih1
      ·rw[hsp2]at ih1
       simp only[QQ1]at ih1⊢
       rw[Qq _ (by(try simp only[QRj,List.length_cons,List.length_nil]);omega),Qq _ (by(try simp only[QRj,List.length_cons,List.length_nil]);omega),Qq _ (by(try simp only[QRj,List.length_cons,List.length_nil]);omega)]
       simp only[QQ1]
       rw[QRc,QRc]
       exact ih1
     ·rw[e]at ih1 hl⊢
      have hsm:Qil m:=by
       have hs:=QaI m.1 m.2.1 m.2.2.1 m.2.2.2.1 m.2.2.2.2.1 m.2.2.2.2.2.1 m.2.2.2.2.2.2.1 m.2.2.2.2.2.2.2.1 m.2.2.2.2.2.2.2.2.1 m.2.2.2.2.2.2.2.2.2.1 m.2.2.2.2.2.2.2.2.2.2.1 m.2.2.2.2.2.2.2.2.2.2.2 hm
       have h4:=Jn hs.2.2.2.1
       simp only[Qil,smM,maxLen]at*
       omega
      have ht:=Qle m hsm
      rw[<-qx (YN m)]at ht
      have er:QlC (xg m)=(YN m).data.toList:=rfl
      rw[er]at ih1 hl⊢
      have ht':YZ w (m.1,m.2.1,m.2.2.1,m.2.2.2.1,m.2.2.2.2.1,m.2.2.2.2.2.1,m.2.2.2.2.2.2.1,m.2.2.2.2.2.2.2.1,m.2.2.2.2.2.2.2.2.1,m.2.2.2.2.2.2.2.2.2.1,m.2.2.2.2.2.2.2.2.2.2.1,m.2.2.2.2.2.2.2.2.2.2.2)=some (bsl (YN m).data.toList):=ht
      simp only[xg,QQ1,ht',QQ0,Xz,Xe]
      cases hsp2:net[i].2.2
      ·rw[hsp2]at ih1
       simp only[QQ2,QRe]at ih1⊢
       rw[Qq _ (by(try simp only[QRj,List.length_cons,List.length_nil]);omega),Qq _ (by(try simp only[QRj,List.length_cons,List.length_nil]);omega)]
       simp only[QQ1]
       rw[QRc]
       exact ih1
      ·rw[hsp2]at ih1
       simp only[QQ1]at ih1⊢
       rw[Qq _ (by(try simp only[QRj,List.length_cons,List.length_nil]);omega),Qq _ (by(try simp only[QRj,List.length_cons,List.length_nil]);omega),Qq _ (by(try simp only[QRj,List.length_cons,List.length_nil]);omega)]
       simp only[QQ1]
       rw[QRc,QRc]
       exact ih1)
   (fun acc _=>by
     apply jk
     simp only[xI,Qs,QQ2,QRl,List.flatMap_nil,List.append_nil])
   (ns.flatMap ZQ) (by have:=Qi2 ns;omega)
  simp only[QQ6,QRg,QRe]at e1 e2
  have e1':ZH wl ((⟨#[]⟩:ByteArray),0,ns,net,sd)=some (bsl (ns.flatMap ZQ),ns,net,sd):=e1
  simp only[QQ3,QQ2,QQ1,e1',QQ0,e2,QrQ]
theorem QwP {a0:List Qp}{a1:List QH}{a2:List QI}(ha:Vn Qe2 (a0,a1,a2)) (h:Va (a0,a1,a2)<=1048576):∀p∈a1,Bs p.2.1:=fun p hp=>by
 refine⟨fun x hx=> ?_, ?_⟩
 ·have h1:(Lit.int .u8 x).wf=true:=((ha.2.1.2 p hp).2.1.2 x hx).1
  have h2:IntKind.u8.min<=x/\x<=IntKind.u8.max:=by simpa[Lit.wf]using h1
  have e0:IntKind.u8.min=0:=rfl
  have e1:IntKind.u8.max=255:=rfl
  omega
 ·have h1:=Qyb XA hp
  have h2:Va (a0,a1,a2)=Jd a0+(a1.length+Jf XA a1)+Jm a2:=rfl
  have h3:XA p=p.2.1.length:=rfl
  omega
theorem QAu (a0:List Qp) (a1:List QH) (a2:List QI) (ha:Vn Qe2 (a0,a1,a2)):VX w (a0,a1,a2)=some true:=by
 apply Qfl
 have hf:Qas (a0,a1,a2):=Qv8 ha
 have hs:=QyW hf
 simp only[J6,Qxx a0 a1 a2 1048576 (by omega) (by omega) hf,QQ0]
 by_cases h:(Va (a0,a1,a2):Int)<=1048576
 ·rw[YR h,df (by omega),QQ2]
  have hb:=QwP ha (by omega)
  simp only[Qx4 a0 a1 a2 (by omega),QqT _ _ _ hs hb,Qsl _ _ _ hs hb,QxG a0 a1 a2 (by omega),QQ0,QZ,QQ3,QQ2]
 ·rw[Yf h,dt (by omega),QQ1]
end Go.Proofs.YtameehmkoglkeaaGreatDoor.M
