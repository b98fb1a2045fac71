/- What the plain forms that FnExactMsgText reaches come to: PMText3. No conditions but those that each theorem states. -/
import Derived.Test.YtameehmkoglkeaaDoorFnExactMsgTextPMText2
set_option linter.all false
namespace Go.Proofs.YtameehmkoglkeaaDoor.M
open Go Go.Eng Go.Proofs
set_option linter.unusedVariables false
def Xc (x:Qn):List UInt8:=Go.Lib.itoa x.1++([61]++Y6 x.2)
def Xt (f:Qg):List UInt8:=[45]++(Go.Lib.itoa f.1++([60]++Go.Lib.itoa f.2))
def Y8 (s:QM):List UInt8:=Go.Lib.join (s.1.map Xc++s.2.map Xt) [32]
theorem yD {e:Q4}(h:Xw e=true):(Y6 e).length<=75:=by
 have hn:=yN h
 have l0:=Q1 (n:=e.1) (by omega) (by omega)
 have l2:=Q1 (n:=e.2.2.1) (by omega) (by omega)
 have l3:=Q1 (n:=e.2.2.2.1) (by omega) (by omega)
 have lt:e.2.2.2.2.data.toList.length<=8:=by rw[<-Go.Lib.size_eq];omega
 simp only[Y6,QRj,List.length_cons,List.length_nil]
 omega
structure StT (s:QM):Prop where
 items:∀x∈s.1,(0<=x.1/\x.1<=4)/\Xw x.2=true
 floors:∀f∈s.2,(0<=f.1/\f.1<=100000)/\0<=f.2/\f.2<=100000
 l1:s.1.length<=5
 l2:s.2.length<=5
theorem yf {x:Qn}(h:(0<=x.1/\x.1<=4)/\Xw x.2=true):Xc x≠[]/\(Xc x).length<=100:=by
 have l0:=Q1 (n:=x.1) (by omega) (by omega)
 have l1:=yD h.2
 refine⟨by simp[Xc], ?_⟩
 simp only[Xc,QRj,List.length_cons,List.length_nil]
 omega
theorem vW {f:Qg}(h:(0<=f.1/\f.1<=100000)/\0<=f.2/\f.2<=100000):Xt f≠[]/\(Xt f).length<=100:=by
 have l0:=Q1 (n:=f.1) (by omega) (by omega)
 have l1:=Q1 (n:=f.2) (by omega) (by omega)
 refine⟨by simp[Xt], ?_⟩
 simp only[Xt,QRj,List.length_cons,List.length_nil]
 omega
theorem Qc4 (s:QM) (h:StT s):YV w s=some (bsl (Y8 s)):=by
 obtain⟨a,b⟩:=s
 obtain⟨hi',hf',h1,h2⟩:=h
 simp only at hi' hf' h1 h2
 apply vm
 have c61:(⟨#[61]⟩:ByteArray)=bsl [61]:=rfl
 have c45:(⟨#[45]⟩:ByteArray)=bsl [45]:=rfl
 have c60:(⟨#[60]⟩:ByteArray)=bsl [60]:=rfl
 have e1:=j6 a.length (fun i (o:List ByteArray)=>XH wl (a,(a.length:Int),(i:Int),a,b,o)) (fun i o=>(a,b,o++((a.drop i).map Xc).map bsl)) (fun i o=>o.length=i)
  (fun i hi o ho ih=>by
    apply Vc
    have hx:=hi' _ (QRf hi)
    have l0:=Q1 (n:=a[i].1) (by omega) (by omega)
    have le:=yD hx.2
    have ih1:=ih (o++[bsl (Xc a[i])]) (by simp[ho])
    have hd:=Zk a[i].1 (by omega) (by omega)
    simp only[Y3,ilt hi,QB hi,Qx hi,QQ1,hd,Qc7 a[i].2 hx.2,QQ0,inc hi (show a.length<=maxLen by simp only[maxLen];omega),digits,c61,XV,Xf]
    rw[Qr _ (by simp;omega),Qr _ (by simp;omega),YI (by simp;omega),QRa hi,List.map_cons,List.map_cons]
    simp only[QQ1]
    rw[QRc]at ih1
    have ew:Go.Lib.itoa a[i].1++[61]++Y6 a[i].2=Xc a[i]:=by simp[Xc]
    rw[ew]
    exact ih1)
  (fun o ho=>by
    apply Vc
    simp only[Y3,QI,QQ2,QRl,List.map_nil,List.append_nil])
  [] rfl
 have e2:=fun(p:List ByteArray) (hp:p.length<=5)=>j6 b.length (fun i (o:List ByteArray)=>XI wl (b,(b.length:Int),(i:Int),o)) (fun i o=>o++((b.drop i).map Xt).map bsl) (fun i o=>o.length<=5+i)
  (fun i hi o ho ih=>by
    apply K5
    have hx:=hf' _ (QRf hi)
    have l0:=Q1 (n:=b[i].1) (by omega) (by omega)
    have l1:=Q1 (n:=b[i].2) (by omega) (by omega)
    have ih1:=ih (o++[bsl (Xt b[i])]) (by simp;omega)
    have hd:=Zk b[i].1 (by omega) (by omega)
    have hd2:=Zk b[i].2 (by omega) (by omega)
    simp only[Y4,ilt hi,QB hi,Qx hi,QQ1,hd,hd2,QQ0,inc hi (show b.length<=maxLen by simp only[maxLen];omega),digits,c45,c60,XV,Xf]
    rw[Qr _ (by simp;omega),Qr _ (by simp;omega),Qr _ (by simp;omega),YI (by simp;omega),QRa hi,List.map_cons,List.map_cons]
    simp only[QQ1]
    rw[QRc]at ih1
    have ew: [45]++Go.Lib.itoa b[i].1++[60]++Go.Lib.itoa b[i].2=Xt b[i]:=by simp[Xt]
    rw[ew]
    exact ih1)
  (fun o ho=>by
    apply K5
    simp only[Y4,QI,QQ2,QRl,List.map_nil,List.append_nil])
  p (by omega)
 have e2':=e2 ((a.map Xc).map bsl) (by simpa using h1)
 simp only[QQ6,QRg,QRe]at e1 e2'
 have ej:=Qh4 (a.map Xc++b.map Xt) 32 100 (fun x hx=>by
  rcases QRh.1 hx with hx|hx
  ·obtain⟨y,hy,rfl⟩:=List.mem_map.1 hx;exact(yf (hi' y hy)).2
  ·obtain⟨y,hy,rfl⟩:=List.mem_map.1 hx;exact(vW (hf' y hy)).2) (by omega) (by simp;omega)
 rw[List.map_append]at ej
 simp only[Ji,e1,QQ0,e2',Y8]
 exact(congrArg (fun z=>Option.bind z _) ej).trans rfl
theorem QcJ (s:QM) (h:StT s):YT w s=some (bsl (Y8 s)):=by
 obtain⟨a,b⟩:=s
 obtain⟨hi',hf',h1,h2⟩:=h
 simp only at hi' hf' h1 h2
 apply vn
 have c61:(⟨#[61]⟩:ByteArray)=bsl [61]:=rfl
 have c45:(⟨#[45]⟩:ByteArray)=bsl [45]:=rfl
 have c60:(⟨#[60]⟩:ByteArray)=bsl [60]:=rfl
 have c32:(⟨#[32]⟩:ByteArray)=bsl [32]:=rfl
 have e1:=j6 a.length (fun i (ws:List (List UInt8))=>Q7 wl (bsl (Go.Lib.join ws [32]),(i:Int),a,b)) (fun i ws=>(bsl (Go.Lib.join (ws++(a.drop i).map Xc) [32]),a,b)) (fun i ws=>ws.length=i/\∀x∈ws,x≠[]/\x.length<=100)
  (fun i hi ws hw ih=>by
    apply Vy
    have hx:=hi' _ (QRf hi)
    have l0:=Q1 (n:=a[i].1) (by omega) (by omega)
    have le:=yD hx.2
    have hj:=yu [32] rfl 100 ws (fun x hx=>(hw.2 x hx).2)
    have hem:=QaZ [32] ws (fun x hx=>(hw.2 x hx).1)
    have ih1:=ih (ws++[Xc a[i]]) ⟨by simp[hw.1],fun x hx'=>by
     rcases QRh.1 hx' with hx'|hx'
     ·exact hw.2 x hx'
     ·obtain rfl:=List.mem_singleton.1 hx';exact yf hx⟩
    have hd:=XM a[i].1 (by omega) (by omega)
    simp only[Y0,ilt hi,QB hi,Qx hi,QQ1,hd,QcS a[i].2 hx.2,QQ0,inc hi (show a.length<=maxLen by simp only[maxLen];omega),digits,c61,c32,XV,Xf,Jo]
    rw[QcB]at ih1
    rw[QRa hi,List.map_cons]
    have hfin:ws++Xc a[i]::(a.drop (i+1)).map Xc=ws++[Xc a[i]]++(a.drop (i+1)).map Xc:=by simp
    rw[hfin]
    by_cases hws:ws=[]
    ·subst hws
     rw[if_pos rfl]at ih1
     rw[dt (show Go.Lib.join [] [32]=[]from rfl),QQ3,QQ2,Go.Lib.join_nil,Qr _ (by simp;omega),Qr _ (by simp;omega),Qr _ (by simp;omega)]
     simp only[QQ1,QRe]
     have ew:Go.Lib.itoa a[i].1++[61]++Y6 a[i].2=Xc a[i]:=by simp[Xc]
     rw[ew]
     exact ih1
    ·rw[if_neg hws]at ih1
     rw[df (fun e=>hws (hem.1 e)),QQ4,QQ1,Qr _ (by simp;omega),Qr _ (by simp;omega),Qr _ (by simp;omega),Qr _ (by simp;omega)]
     simp only[QQ1]
     have ew:Go.Lib.join ws [32]++[32]++Go.Lib.itoa a[i].1++[61]++Y6 a[i].2=Go.Lib.join ws [32]++([32]++Xc a[i]):=by simp[Xc]
     rw[ew]
     exact ih1)
  (fun ws hw=>by
    apply Vy
    simp only[Y0,QI,QQ2,QRl,List.map_nil,List.append_nil])
  [] ⟨rfl,by simp⟩
 have e2:=j6 b.length (fun i (ws:List (List UInt8))=>Xn wl (bsl (Go.Lib.join ws [32]),(i:Int),a,b)) (fun i ws=>bsl (Go.Lib.join (ws++(b.drop i).map Xt) [32])) (fun i ws=>ws.length<=5+i/\∀x∈ws,x≠[]/\x.length<=100)
  (fun i hi ws hw ih=>by
    apply KY
    have hx:=hf' _ (QRf hi)
    have l0:=Q1 (n:=b[i].1) (by omega) (by omega)
    have l1:=Q1 (n:=b[i].2) (by omega) (by omega)
    have hj:=yu [32] rfl 100 ws (fun x hx=>(hw.2 x hx).2)
    have hem:=QaZ [32] ws (fun x hx=>(hw.2 x hx).1)
    have ih1:=ih (ws++[Xt b[i]]) ⟨by simp;omega,fun x hx'=>by
     rcases QRh.1 hx' with hx'|hx'
     ·exact hw.2 x hx'
     ·obtain rfl:=List.mem_singleton.1 hx';exact vW hx⟩
    have hd:=XM b[i].1 (by omega) (by omega)
    have hd2:=XM b[i].2 (by omega) (by omega)
    simp only[Y1,ilt hi,QB hi,Qx hi,QQ1,hd,hd2,QQ0,inc hi (show b.length<=maxLen by simp only[maxLen];omega),digits,c45,c60,c32,XV,Xf,Jo]
    rw[QcB]at ih1
    rw[QRa hi,List.map_cons]
    have hfin:ws++Xt b[i]::(b.drop (i+1)).map Xt=ws++[Xt b[i]]++(b.drop (i+1)).map Xt:=by simp
    rw[hfin]
    by_cases hws:ws=[]
    ·subst hws
     rw[if_pos rfl]at ih1
     rw[dt (show Go.Lib.join [] [32]=[]from rfl),QQ3,QQ2,Go.Lib.join_nil,Qr _ (by simp),Qr _ (by simp;omega),Qr _ (by simp;omega),Qr _ (by simp;omega)]
     simp only[QQ1,QRe]
     have ew: [45]++Go.Lib.itoa b[i].1++[60]++Go.Lib.itoa b[i].2=Xt b[i]:=by simp[Xt]
     rw[ew]
     exact ih1
    ·rw[if_neg hws]at ih1
     rw[df (fun e=>hws (hem.1 e)),QQ4,QQ1,Qr _ (by simp;omega),Qr _ (by simp;omega),Qr _ (by simp;omega),Qr _ (by simp;omega),Qr _ (by simp;omega)]
     simp only[QQ1]
     have ew:Go.Lib.join ws [32]++[32]++[45]++Go.Lib.itoa b[i].1++[60]++Go.Lib.itoa b[i].2=Go.Lib.join ws [32]++([32]++Xt b[i]):=by simp[Xt]
     rw[ew]
     exact ih1)
  (fun ws hw=>by
    apply KY
    simp only[Y1,QI,QQ2,QRl,List.map_nil,List.append_nil])
  (a.map Xc) ⟨by simpa using h1,fun x hx=>by obtain⟨y,hy,rfl⟩:=List.mem_map.1 hx;exact yf (hi' y hy)⟩
 simp only[QQ6,QRg,QRe,Go.Lib.join_nil]at e1 e2
 have e1':Q7 wl ((⟨#[]⟩:ByteArray),0,a,b)=some (bsl (Go.Lib.join (a.map Xc) [32]),a,b):=e1
 simp only[JB,e1',QQ0,e2,Y8]
end Go.Proofs.YtameehmkoglkeaaDoor.M
