/- What the plain forms that FnExactPushAll reaches come to: PEntry. No conditions but those that each theorem states. -/
import Derived.Test.YtiejfnbmficbmaaGreatFnExactPushAllPFam
import Derived.Lib.Bytealg
set_option linter.all false
namespace Go.Proofs.YtiejfnbmficbmaaGreat.M
open Go Go.Eng Go.Proofs
set_option linter.unusedVariables false
def Yp (a b:Int):Int:=if a<b then -1 else if b<a then 1 else 0
def QoY (a b:ByteArray):Int:=Go.Lib.compareBytes a.data.toList b.data.toList
def or5 (a b c d e:Int):Int:=if a≠0 then a else if b≠0 then b else if c≠0 then c else if d≠0 then d else e
def Kn (x y:XA):Int:=or5 (Yp x.1 y.1) (Yp x.2.1 y.2.1) (Yp x.2.2.1 y.2.2.1) (Yp x.2.2.2.1 y.2.2.2.1) (QoY x.2.2.2.2 y.2.2.2.2)
def KZ (x y:XA):XA:=if Kn x y<0 then y else x
theorem Qma:(a b:List UInt8)->Op.bytesLess a b=decide (Go.Lib.compareBytes a b= -1)/\(Go.Lib.compareBytes a b=0↔a=b)/\(Go.Lib.compareBytes a b= -1\/Go.Lib.compareBytes a b=0\/Go.Lib.compareBytes a b=1)
 | [],[]=>by simp[Op.bytesLess,Go.Lib.compareBytes]
 | [],_::_=>by simp[Op.bytesLess,Go.Lib.compareBytes]
 |_::_,[]=>by simp[Op.bytesLess,Go.Lib.compareBytes]
 |a::l,b::m=>by
  have ih:=Qma l m
  by_cases h:a<b
  ·have hne:a≠b:=fun e=>by subst e;exact UInt8.lt_irrefl _ h
   simp[Op.bytesLess,Go.Lib.compareBytes,h,hne]
  ·by_cases h2:b<a
   ·have hne:a≠b:=fun e=>by subst e;exact UInt8.lt_irrefl _ h2
    simp[Op.bytesLess,Go.Lib.compareBytes,h,h2,hne]
   ·have he:a=b:=UInt8.le_antisymm (UInt8.not_lt.1 h2) (UInt8.not_lt.1 h)
    subst he
    simp only[Op.bytesLess,Go.Lib.compareBytes,h,if_false]
    simpa using ih
theorem QDc (a:Int):Qd6 w a=some false:=by
 apply Qu8
 simp[Ql8]
theorem QAn (a b:Int):Jy w (a,b)=some (Yp a b):=by
 apply QrK
 simp only[Qi1,QDc,QQ0,QQ2,Yp]
 by_cases h:a<b
 ·simp[h]
 ·by_cases h2:b<a
  ·simp[h,h2]
  ·simp[h,h2]
theorem QoF (a b:ByteArray):X6 w (a,b)=some (QoY a b):=by
 apply yL
 rfl
theorem Qt3 (a b:ByteArray):xD w (a,b)=some (QoY a b):=by
 apply QmD
 simp only[Qca,QoF,QQ0]
def orL:List Int->Int
 | []=>0
 |x::l=>if x=0 then orL l else x
def orR:List Int->Int⊕Int
 | []=> .inr 0
 |x::l=>if x=0 then orR l else .inl x
theorem Qyo:(l:List Int)->Qq (orR l) (fun u=>some u) (fun z=>some z)=some (orL l)
 | []=>rfl
 |x::l=>by
  have ih:=Qyo l
  by_cases h:x=0
  ·simp only[orR,orL,h,if_true];exact ih
  ·simp only[orR,orL,h,if_false,Qq,Sum.elim_inl]
theorem QIJ (a:List Int) (h:a.length<=maxLen):Qrn w a=some (orL a):=by
 apply QBy
 have e:=Q1 a.length (fun i=>QdN wl (0,a,((a.length:Nat):Int),(i:Int))) (fun i=>orR (a.drop i))
  (fun i hi ih=>by
    apply Qm6
    simp only[QmB,ilt hi,Ql hi,Qi hi,inc hi h,QQ1,ih]
    rw[QRa hi,orR]
    by_cases hx:a[i]=0
    ·simp only[hx,decide_true,QQ3,QQ2,if_true]
    ·simp only[hx,decide_false,QQ4,QQ1,if_false])
  (by
    apply Qm6
    simp only[QmB,Qs,QQ2,QRl,orR])
 simp only[QQ6,QRg]at e
 simp only[Qpw,e,QQ0,Qyo]
theorem QE7 (a b c d e:Int):orL [a,b,c,d,e]=or5 a b c d e:=by
 simp only[orL,or5]
 by_cases h1:a=0<;>by_cases h2:b=0<;>by_cases h3:c=0<;>by_cases h4:d=0<;>by_cases h5:e=0<;>simp[h1,h2,h3,h4,h5]
theorem Qw7 (a b c d:Int) (s:ByteArray) (a' b' c' d':Int) (s':ByteArray):yU w (a,b,c,d,s,a',b',c',d',s')=some (Kn (a,b,c,d,s) (a',b',c',d',s')):=by
 apply QoJ
 simp only[QfJ,QAn,Qt3,QQ0,QIJ _ (show List.length [Yp a a',Yp b b',Yp c c',Yp d d',QoY s s']<=maxLen by simp[maxLen]),QE7,Kn]
theorem QxX (a b c d:Int) (s:ByteArray) (a' b' c' d':Int) (s':ByteArray):yZ w (a,b,c,d,s,a',b',c',d',s')=some (KZ (a,b,c,d,s) (a',b',c',d',s')):=by
 apply QoW
 simp only[QfL,Qw7,QQ0,KZ]
 by_cases h:Kn (a,b,c,d,s) (a',b',c',d',s')<0
 ·rw[dt h,QQ1,if_pos h]
 ·rw[df h,QQ2,if_neg h]
theorem QvZ (b:Bool):Qbu w b=some (if b then 1 else 0):=by
 apply QtY
 cases b<;>rfl
theorem QC7 (a b:Int):qw w (a,b)=some (Yp a b):=by
 apply Qt8
 simp only[QkA,QvZ,QQ0,Yp]
 by_cases h:a<b
 ·simp[h]
 ·by_cases h2:b<a
  ·simp[h,h2]
  ·simp[h,h2]
theorem QHK (a b:ByteArray):(bif Op.bytesLess a.toList b.toList then some (-1)else some (if(!(Op.bytesLess a.toList b.toList||Vc a b))=true then(1:Int)else 0))=some (QoY a b):=by
 rw[toList_data,toList_data,Qx4]
 obtain⟨h1,h2,h3⟩:=Qma a.data.toList b.data.toList
 have h4:a=b↔a.data.toList=b.data.toList:=by
  constructor
  ·intro h;rw[h]
  ·intro h
   cases a;cases b
   exact congrArg ByteArray.mk (Array.toList_inj.1 h)
 rw[h1]
 unfold QoY
 by_cases hl:Go.Lib.compareBytes a.data.toList b.data.toList= -1
 ·simp[hl]
 ·by_cases hz:Go.Lib.compareBytes a.data.toList b.data.toList=0
  ·have:a=b:=h4.2 (h2.1 hz)
   subst this
   simp[hz]
  ·have:a≠b:=fun h=>hz (h2.2 (h4.1 h))
   have h1':Go.Lib.compareBytes a.data.toList b.data.toList=1:=by omega
   simp[h1',this]
theorem QvA (a b c d:Int) (s:ByteArray) (a' b' c' d':Int) (s':ByteArray):Ke w (a,b,c,d,s,a',b',c',d',s')=some (Kn (a,b,c,d,s) (a',b',c',d',s')):=by
 apply QoN
 have hlen:∀l:List Int,l.length=4->Yn wl (0,a,b,c,d,s,a',b',c',d',s',l)=some (match orR l with| .inl x=> .inl x| .inr _=> .inr (a,b,c,d,s,a',b',c',d',s')):=by
  intro l hl
  have e:=Q1 l.length (fun i=>Yn wl ((i:Int),a,b,c,d,s,a',b',c',d',s',l)) (fun i=>match orR (l.drop i)with| .inl x=> .inl x| .inr _=> .inr (a,b,c,d,s,a',b',c',d',s'))
   (fun i hi ih=>by
     apply Qb7
     simp only[jt,ilt hi,Ql hi,Qi hi,inc hi (show l.length<=maxLen by simp[maxLen];omega),QQ1,ih]
     rw[QRa hi,orR]
     by_cases hx:l[i]=0
     ·simp only[hx,decide_true,QQ3,QQ2,if_true]
     ·simp only[hx,decide_false,QQ4,QQ1,if_false])
   (by
     apply Qb7
     simp only[jt,Qs,QQ2,QRl,orR])
  simpa using e
 simp only[QfU,QC7,QvZ,QQ0,hlen _ (show List.length [Yp a a',Yp b b',Yp c c',Yp d d']=4 from rfl),Kn,or5,orR]
 by_cases h1:Yp a a'=0
 ·by_cases h2:Yp b b'=0
  ·by_cases h3:Yp c c'=0
   ·by_cases h4:Yp d d'=0
    ·simp only[h1,h2,h3,h4,if_true,Qq,Sum.elim_inr,ne_eq,not_true_eq_false,if_false]
     exact QHK s s'
    ·simp[h1,h2,h3,h4,Qq]
   ·simp[h1,h2,h3,Qq]
  ·simp[h1,h2,Qq]
 ·simp[h1,Qq]
end Go.Proofs.YtiejfnbmficbmaaGreat.M
namespace Go.Proofs.YtiejfnbmficbmaaGreat.M
open Go Go.Eng Go.Proofs
set_option linter.unusedVariables false
def QmZ (n:Int):Int:=IntKind.wrap .u8 (wR (Int.tmod n 128+128))
def J9:Nat->Int->List Int->Int×List Int
 |0,n,o=>(n,o)
 |f+1,n,o=>if 128<=n then J9 f (Int.tdiv n 128) (o++[QmZ n])else(n,o)
def Qm (n:Int):List Int:=bif inR n 0 2147483647 then(J9 4 n []).2++[IntKind.wrap .u8 (J9 4 n []).1]else []
theorem Qld:(f:Nat)->(n:Int)->(o:List Int)->(J9 f n o).2.length<=o.length+f
 |0,n,o=>by simp[J9]
 |f+1,n,o=>by
  simp only[J9]
  split
  ·have:=Qld f (Int.tdiv n 128) (o++[QmZ n])
   simp only[QRj,List.length_singleton]at this;omega
  ·simp
theorem QE (n:Int):(Qm n).length<=5:=by
 unfold Qm
 have:=Qld 4 n []
 cases inR n 0 2147483647
 ·simp
 ·simp only[QQ1,QRj,List.length_singleton];simp at this;omega
theorem QxT:(f:Nat)->(n:Int)->(o:List Int)->0<=n->n<128^(f+1)->n<=2147483647->o.length+f<=1000->qc wl (n,o)=some (J9 f n o):=by
 intro f
 induction f with
 |zero=>
  intro n o h0 h1 h2 h3
  apply QfC
  simp only[zy,df (show¬128<=n by omega),QQ2,J9]
 |succ f ih=>
  intro n o h0 h1 h2 h3
  apply QfC
  by_cases h:128<=n
  ·have hd:=Int.tdiv_eq_ediv_of_nonneg (b:=128) h0
   have:=ih (Int.tdiv n 128) (o++[QmZ n]) (by omega) (by rw[Int.pow_succ]at h1;omega) (by omega) (by simp;omega)
   simp only[QmZ]at this
   simp only[zy,dt h,QQ1,dt (show(128:Int)≠0 by omega),Qy (show(o.length+List.length [IntKind.wrap .u8 (wR (Int.tmod n 128+128))])*1<=140737488351232 by simp;omega),J9,h,if_true,QmZ]
   rw[w64 (n:=Int.tdiv n 128) (by omega) (by omega)]
   exact this
  ·simp only[zy,df h,QQ2,J9,h,decide_false,if_false]
theorem Qvz:(f:Nat)->(n:Int)->(o:List Int)->0<=n->n<128^(f+1)->n<=2147483647->o.length+f<=1000->qd wl (n,o)=some (J9 f n o):=by
 intro f
 induction f with
 |zero=>
  intro n o h0 h1 h2 h3
  apply QfS
  simp only[zJ,df (show¬127<n by omega),QQ2,J9]
 |succ f ih=>
  intro n o h0 h1 h2 h3
  apply QfS
  by_cases h:128<=n
  ·have hd:=Int.tdiv_eq_ediv_of_nonneg (b:=128) h0
   have:=ih (Int.tdiv n 128) (o++[QmZ n]) (by omega) (by rw[Int.pow_succ]at h1;omega) (by omega) (by simp;omega)
   simp only[QmZ]at this
   simp only[zJ,dt (show 127<n by omega),QQ1,dt (show(128:Int)≠0 by omega),Qy (show(o.length+List.length [IntKind.wrap .u8 (wR (Int.tmod n 128+128))])*1<=140737488351232 by simp;omega),J9,h,if_true,QmZ]
   rw[w64 (n:=Int.tdiv n 128) (by omega) (by omega)]
   exact this
  ·simp only[zJ,df (show¬127<n by omega),QQ2,J9,h,decide_false,if_false]
theorem KB (n:Int):QU w n=some (Qm n):=by
 apply QsL
 simp only[QjG,Xd,QQ0,Qm]
 cases h:inR n 0 2147483647
 ·simp
 ·simp[inR]at h
  have hl:=Qld 4 n []
  simp only[List.length_nil]at hl
  simp only[QQ3,QQ2,QxT 4 n [] h.1 (by omega) h.2 (by simp),QQ0,QQ1,Qy (show((J9 4 n []).2.length+List.length [IntKind.wrap .u8 (J9 4 n []).1])*1<=140737488351232 by simp;omega)]
theorem ZQ (n:Int):Xf w n=some (Qm n):=by
 apply Qs1
 simp only[QiR,XE,QQ0,Qm]
 cases h:inR n 0 2147483647
 ·simp
 ·simp[inR]at h
  have hl:=Qld 4 n []
  simp only[List.length_nil]at hl
  simp only[QQ3,QQ2,Qvz 4 n [] h.1 (by omega) h.2 (by simp),QQ0,QQ1,Qy (show((J9 4 n []).2.length+List.length [IntKind.wrap .u8 (J9 4 n []).1])*1<=140737488351232 by simp;omega)]
theorem KG (l:List (List Int)) (hl:l.length<=maxLen) (hf:l.flatten.length<=1099511627776):X0 w l=some l.flatten:=by
 apply Qr7
 have e:=Xb l.length (fun i (o:List Int)=>J2 wl (l,((l.length:Nat):Int),(i:Int),o)) (fun i o=>o++(l.drop i).flatten) (fun i o=>o.length+(l.drop i).flatten.length<=1099511627776)
  (fun i hi o ho ih=>by
    apply QfO
    rw[QRa hi,QRr,QRj]at ho
    have:=ih (o++l[i]) (by rw[QRj];omega)
    simp only[Qcd,ilt hi,Ql hi,Qi hi,inc hi hl,QQ1,Qy (show(o.length+l[i].length)*1<=140737488351232 by omega),this]
    rw[QRa hi,QRr,QRc])
  (fun o _=>by
    apply QfO
    simp[Qcd,Qs])
  [] (by simpa using hf)
 simp only[QQ6,QRg,QRe]at e
 simp only[Qjr,e,QQ0]
theorem Qol (s:ByteArray):(ofBytes s).length=s.size:=by
 show(s.data.toList.map _).length=s.data.size
 rw[List.length_map,Array.length_toList]
def Vq (s:ByteArray):List Int:=Qm (s.size:Nat)++ofBytes s
theorem Qot (s:ByteArray):(Vq s).length<=5+s.size:=by
 have:=QE (s.size:Nat)
 simp only[Vq,QRj,Qol];omega
theorem QyT (s:ByteArray) (h:s.size<=4294967296):Qbt w s=some (Vq s):=by
 apply Qpy
 have:=QE (s.size:Nat)
 have e: [Qm (s.size:Nat),ofBytes s].flatten=Vq s:=by simp[Vq]
 simp only[QhJ,KB,QQ0,KG [Qm ((s.size:Nat):Int),ofBytes s] (by simp[maxLen]) (by rw[e];have:=Qot s;omega),e]
theorem QwW (s:ByteArray) (h:s.size<=4294967296):Qbm w s=some (Vq s):=by
 apply QpK
 have:=QE (s.size:Nat)
 simp only[Qg5,ZQ,QQ0,Qy (show((Qm ((s.size:Nat):Int)).length+(ofBytes s).length)*1<=140737488351232 by rw[Qol];omega),QQ1,Vq]
def jM (x:Int):Int:=if Int.tmod x 2=1 then bits .xor .i64 (wR (Int.tdiv x 2)) 3988292384 else wR (Int.tdiv x 2)
def xH:Nat->Int->Int
 |0,x=>x
 |n+1,x=>xH n (jM x)
def Qlz (s b:Int):Int:=xH 8 (bits .xor .i64 s (wR b))
theorem QsH (s b:Int):Qlz s b=xH 8 (bits .xor .i64 s (wR b)):=by unfold Qlz;exact Eq.refl _
def crc (l:List Int):Int:=bits .xor .i64 (l.foldl Qlz 4294967295) 4294967295
theorem QFP {i:Nat}(h:i<8):decide ((i:Int)<8)=true:=by simp;omega
theorem QyW {i n:Nat}(h:i<n) (hn:n<=1000:=by omega):wR ((i:Int)+1)=((i+1:Nat):Int):=by
 rw[w64 (by omega) (by omega)];omega
theorem QBo (b:List Int) (n i:Int) (x:Int):JD wl (x,b,n,i,0)=some (xH 8 x,b,n,i):=by
 have e:=Xb 8 (fun k (x:Int)=>JD wl (x,b,n,i,(k:Int))) (fun k x=>(xH (8 - k) x,b,n,i)) (fun _ _=>True)
  (fun k hk x _ ih=>by
    apply Qks
    have:=ih (jM x) trivial
    rw[show 8 - k=(8 - (k+1))+1 by omega,xH,<-this]
    simp only[Qj0,QFP hk,QQ1,dt (show(2:Int)≠0 by omega),QyW hk,jM]
    by_cases hx:Int.tmod x 2=1
    ·simp only[hx,decide_true,QQ1,if_true]
    ·simp only[hx,decide_false,QQ2,if_false])
  (fun x _=>by
    apply Qks
    simp[Qj0,xH])
  x trivial
 simpa using e
theorem QAi (b:List Int) (i:Int) (x:Int):JE wl (b,x,i,0)=some (b,xH 8 x,i):=by
 have e:=Xb 8 (fun k (x:Int)=>JE wl (b,x,i,(k:Int))) (fun k x=>(b,xH (8 - k) x,i)) (fun _ _=>True)
  (fun k hk x _ ih=>by
    apply Qki
    have:=ih (jM x) trivial
    rw[show 8 - k=(8 - (k+1))+1 by omega,xH,<-this]
    simp only[QjU,QFP hk,QQ1,dt (show(2:Int)≠0 by omega),QyW hk,jM]
    by_cases hx:Int.tmod x 2=1
    ·simp only[hx,decide_true,QQ1,if_true]
    ·simp only[hx,decide_false,QQ2,if_false])
  (fun x _=>by
    apply Qki
    simp[QjU,xH])
  x trivial
 simpa using e
theorem Qpu (b:List Int) (h:b.length<=maxLen):ji w b=some (crc b):=by
 apply Qxr
 have e:=Xb b.length (fun i (x:Int)=>yK wl (x,b,((b.length:Nat):Int),(i:Int))) (fun i x=>(b.drop i).foldl Qlz x) (fun _ _=>True)
  (fun i hi x _ ih=>by
    apply QkB
    simp only[QjZ,ilt hi,Ql hi,Qi hi,QQ1,QBo,QQ0,inc hi h,ih _ trivial]
    rw[QRa hi,List.foldl_cons,QsH])
  (fun x _=>by
    apply QkB
    simp only[QjZ,Qs,QQ2,QRl,List.foldl_nil])
  4294967295 trivial
 simp only[QQ6,QRg]at e
 simp only[QmI,e,QQ0,crc]
theorem Qnk (b:List Int) (h:b.length<=maxLen):jl w b=some (crc b):=by
 apply QxI
 have e:=Xb b.length (fun i (x:Int)=>yJ wl (b,x,(i:Int))) (fun i x=>(b.drop i).foldl Qlz x) (fun _ _=>True)
  (fun i hi x _ ih=>by
    apply Qkd
    simp only[QjY,ilt hi,Ql hi,Qi hi,QQ1,QAi,QQ0,inc hi h,ih _ trivial]
    rw[QRa hi,List.foldl_cons,QsH])
  (fun x _=>by
    apply Qkd
    simp only[QjY,Qs,QQ2,QRl,List.foldl_nil])
  4294967295 trivial
 simp only[QQ6,QRg]at e
 simp only[Qmr,e,QQ0,crc]
end Go.Proofs.YtiejfnbmficbmaaGreat.M
namespace Go.Proofs.YtiejfnbmficbmaaGreat.M
open Go Go.Eng Go.Proofs
set_option linter.unusedVariables false
def Qo6 (x:Int):Nat->List Int->Int⊕Unit
 |_,[]=> .inr ()
 |i,y::l=>if x=y then .inl (i:Nat)else Qo6 x (i+1) l
theorem QuS (x:Int):(i:Nat)->(l:List Int)->∃r:Int,Qq (Qo6 x i l) (fun u=>some u) (fun _=>some (-1))=some r/\decide (0<=r)=decide (x∈l)
 |i,[]=>⟨-1,rfl,by simp⟩
 |i,y::l=>by
  by_cases h:x=y
  ·refine⟨(i:Nat), ?_, ?_⟩
   ·simp only[Qo6,h,if_true,Qq,Sum.elim_inl]
   ·simp[h]
  ·obtain⟨r,h1,h2⟩:=QuS x (i+1) l
   refine⟨r, ?_, ?_⟩
   ·simp only[Qo6,h,if_false];exact h1
   ·rw[h2];simp[h]
theorem Qox (a:List Int) (x:Int) (h:a.length<=maxLen):Zo w (a,x)=some (decide (x∈a)):=by
 apply Qge
 have e:=Q1 a.length (fun i=>Zq wl (a,x,((a.length:Nat):Int),(i:Int))) (fun i=>Qo6 x i (a.drop i))
  (fun i hi ih=>by
    apply xG
    simp only[JH,ilt hi,Ql hi,Qi hi,inc hi h,QQ1,ih]
    rw[QRa hi,Qo6]
    by_cases hx:x=a[i]
    ·simp only[hx,decide_true,QQ1,if_true]
    ·simp only[hx,decide_false,QQ2,if_false])
  (by
    apply xG
    simp only[JH,Qs,QQ2,QRl,Qo6])
 simp only[QQ6,QRg]at e
 obtain⟨r,h1,h2⟩:=QuS x 0 a
 have hi:Vj w (a,x)=some r:=by
  apply Qj1
  simp only[zW,e,QQ0,h1]
 simp only[qZ,hi,QQ0,h2]
theorem QCK (a b:List Int) (h:a.length<=maxLen):Vg w (a,b)=some (decide (a=b)):=by
 apply Qj4
 by_cases hl:a.length=b.length
 ·have e:=Qyg a b hl (fun i=>Zr wl (a,b,((a.length:Nat):Int),(i:Int)))
   (fun i h1 h2 hx=>by
     apply Kt
     simp only[Yx,ilt h1,Ql h1,Ql h2,Qi h1,Qi h2,QQ1,hx,decide_false,QQ4])
   (fun i h1 h2 r hx hk=>by
     apply Kt
     simp only[Yx,ilt h1,Ql h1,Ql h2,Qi h1,Qi h2,inc h1 h,QQ1,hx,decide_true,QQ3,QQ2]
     exact hk)
   (by
     apply Kt
     simp only[Yx,Qs,QQ2])
  simp only[QQ6]at e
  simp only[Vm,dt (show((a.length:Nat):Int)=((b.length:Nat):Int) by omega),QQ3,QQ2,e,QQ0]
  by_cases hab:a=b
  ·simp[hab,Qq]
  ·simp[hab,Qq]
 ·have hab:a≠b:=fun h=>hl (by rw[h])
  simp only[Vm,df (show¬((a.length:Nat):Int)=((b.length:Nat):Int) by omega),QQ4,QQ1,hab,decide_false]
def Qm8 (x:Int):List Int->Bool⊕Unit
 | []=> .inr ()
 |y::l=>if y=x then .inl true else Qm8 x l
theorem Qu9 (x:Int):(l:List Int)->Qq (Qm8 x l) (fun u=>some u) (fun _=>some false)=some (decide (x∈l))
 | []=>by simp[Qm8,Qq]
 |y::l=>by
  by_cases h:y=x
  ·simp[Qm8,h,Qq]
  ·have:=Qu9 x l
   have h':¬x=y:=fun e=>h e.symm
   simp only[Qm8,h,if_false,this];simp[h']
theorem QwB (a:List Int) (x:Int) (h:a.length<=maxLen):QaG w (a,x)=some (decide (x∈a)):=by
 apply Qul
 have e:=Q1 a.length (fun i=>qQ wl (a,x,(i:Int))) (fun i=>Qm8 x (a.drop i))
  (fun i hi ih=>by
    apply Qgx
    simp only[Qe7,ilt hi,Ql hi,Qi hi,inc hi h,QQ1,ih]
    rw[QRa hi,Qm8]
    by_cases hx:a[i]=x
    ·simp only[hx,decide_true,QQ1,if_true]
    ·simp only[hx,decide_false,QQ2,if_false])
  (by
    apply Qgx
    simp only[Qe7,Qs,QQ2,QRl,Qm8])
 simp only[QQ6,QRg]at e
 simp only[Qkw,e,QQ0,Qu9]
theorem QBj (a b:List Int) (h:a.length<=maxLen):Qc4 w (a,b)=some (decide (a=b)):=by
 apply QrG
 by_cases hl:a.length=b.length
 ·have e:=Qyg a b hl (fun i=>qq wl (a,b,(i:Int)))
   (fun i h1 h2 hx=>by
     apply yq
     simp only[zG,ilt h1,Ql h1,Ql h2,Qi h1,Qi h2,QQ1,hx,decide_false,QQ4])
   (fun i h1 h2 r hx hk=>by
     apply yq
     simp only[zG,ilt h1,Ql h1,Ql h2,Qi h1,Qi h2,inc h1 h,QQ1,hx,decide_true,QQ3,QQ2]
     exact hk)
   (by
     apply yq
     simp only[zG,Qs,QQ2])
  simp only[QQ6]at e
  simp only[Qa9,dt (show((a.length:Nat):Int)=((b.length:Nat):Int) by omega),QQ3,QQ2,e,QQ0]
  by_cases hab:a=b
  ·simp[hab,Qq]
  ·simp[hab,Qq]
 ·have hab:a≠b:=fun h=>hl (by rw[h])
  simp only[Qa9,df (show¬((a.length:Nat):Int)=((b.length:Nat):Int) by omega),QQ4,QQ1,hab,decide_false]
def JN (n:Int):Int:=bif inR n 0 4 then Int.tmod (crc (Qm n)) 4 else -1
theorem Ql9 (n:Int):(Qm n).length<=maxLen:=by have:=QE n;simp only[maxLen];omega
theorem Qty (n:Int):yF w n=some (JN n):=by
 apply Qr0
 simp only[QiG,Qeg,QQ0,JN,KB,Qpu _ (Ql9 n),dt (show(4:Int)≠0 by omega),QQ1]
 cases inR n 0 4<;>simp
theorem Qrl (n:Int):yH w n=some (JN n):=by
 apply QsK
 simp only[Qi7,Qd4,QQ0,JN,ZQ,Qnk _ (Ql9 n),dt (show(4:Int)≠0 by omega),QQ1]
 cases inR n 0 4<;>simp
def Xq (l:List Int) (n:Int):Bool:=decide (JN n∈l)
def ZZ (s:Qk) (l:List Int):Qk:=(s.1.filter fun x=>Xq l x.1,s.2.filter fun x=>Xq l x.1)
theorem QbT:(p:Int)->(l:List Qb)->QN p l=true-> -1<=p->(l.length:Int)<=4 - p\/l=[]
 |p,[],_,_=> .inr rfl
 |p,x::l,h,hp=>by
  simp only[QN,QQ5,inR,QRu]at h
  obtain⟨⟨⟨h1,h2⟩,h3⟩,h4⟩:=h
  left
  rcases QbT x.1 l h4 (by omega)with h5|h5
  ·simp only[List.length_cons];omega
  ·subst h5;simp;omega
theorem Qoz (fl:List Qb):(p:Int)->(l:List Qg)->Xi fl p l=true-> -1<=p->(l.length:Int)<=4 - p\/l=[]
 |p,[],_,_=> .inr rfl
 |p,x::l,h,hp=>by
  simp only[Xi,QQ5,inR,QRu]at h
  obtain⟨⟨⟨⟨h1,h2⟩,h2'⟩,h3⟩,h4⟩:=h
  left
  rcases Qoz fl x.1 l h4 (by omega)with h5|h5
  ·simp only[List.length_cons];omega
  ·subst h5;simp;omega
theorem ze {s:Qk}(h:QL s=true):s.1.length<=5/\s.2.length<=5:=by
 simp only[QL,QQ5]at h
 have h1:=QbT _ _ h.1 (by omega)
 have h2:=Qoz _ _ _ h.2 (by omega)
 constructor
 ·rcases h2 with h|h
  ·omega
  ·simp[h]
 ·rcases h1 with h|h
  ·omega
  ·simp[h]
theorem QwL (q:List Int) (a:List Qg) (b:List Qb) (hq:q.length<=maxLen) (ha:a.length<=4294967296) (c:List Qb):
 Kf wl (q,a,((a.length:Nat):Int),0,a,b,[],c)=some (q,a,b,a.filter (fun x=>Xq q x.1),c):=by
 have e:=Xb a.length (fun i (o:List Qg)=>Kf wl (q,a,((a.length:Nat):Int),(i:Int),a,b,o,c)) (fun i o=>(q,a,b,o++(a.drop i).filter (fun x=>Xq q x.1),c)) (fun i o=>o.length<=i)
  (fun i hi o ho ih=>by
    apply Qhs
    have ih1:=ih o (by omega)
    have ih2:=ih (o++[a[i]]) (by simp;omega)
    simp only[Qe5,ilt hi,Ql hi,Qi hi,inc hi (show a.length<=maxLen by simp[maxLen];omega),QQ1,Qty,Qox q _ hq,QQ0,List.length_singleton,Qy (show(o.length+1)*56<=140737488351232 by omega)]
    rw[QRa hi,List.filter_cons]
    cases h:Xq q a[i].1
    ·have h':decide (JN a[i].1∈q)=false:=h
     simp only[h',QQ2,QRw,if_false];exact ih1
    ·have h':decide (JN a[i].1∈q)=true:=h
     simp only[h',QQ1,if_true]
     rw[show o++a[i]::List.filter (fun x=>Xq q x.1) (List.drop (i+1) a)=(o++[a[i]])++List.filter (fun x=>Xq q x.1) (List.drop (i+1) a) by simp]
     exact ih2)
  (fun o _=>by
    apply Qhs
    simp[Qe5])
  [] (by simp)
 simpa using e
theorem Qxx (q:List Int) (b:List Qb) (hq:q.length<=maxLen) (hb:b.length<=4294967296) (c:List Qg):
 Kd wl (q,b,((b.length:Nat):Int),0,c,[])=some (c,b.filter (fun x=>Xq q x.1)):=by
 have e:=Xb b.length (fun i (o:List Qb)=>Kd wl (q,b,((b.length:Nat):Int),(i:Int),c,o)) (fun i o=>(c,o++(b.drop i).filter (fun x=>Xq q x.1))) (fun i o=>o.length<=i)
  (fun i hi o ho ih=>by
    apply Qg3
    have ih1:=ih o (by omega)
    have ih2:=ih (o++[b[i]]) (by simp;omega)
    simp only[Qfi,ilt hi,Ql hi,Qi hi,inc hi (show b.length<=maxLen by simp[maxLen];omega),QQ1,Qty,Qox q _ hq,QQ0,List.length_singleton,Qy (show(o.length+1)*16<=140737488351232 by omega)]
    rw[QRa hi,List.filter_cons]
    cases h:Xq q b[i].1
    ·have h':decide (JN b[i].1∈q)=false:=h
     simp only[h',QQ2,QRw,if_false];exact ih1
    ·have h':decide (JN b[i].1∈q)=true:=h
     simp only[h',QQ1,if_true]
     rw[show o++b[i]::List.filter (fun x=>Xq q x.1) (List.drop (i+1) b)=(o++[b[i]])++List.filter (fun x=>Xq q x.1) (List.drop (i+1) b) by simp]
     exact ih2)
  (fun o _=>by
    apply Qg3
    simp[Qfi])
  [] (by simp)
 simpa using e
theorem QCV (a:List Qg) (b:List Qb) (q:List Int) (hq:q.length<=maxLen) (ha:a.length<=maxLen) (hb:b.length<=maxLen):
 Qgd w (a,b,q)=some (bif QL (a,b)then ZZ (a,b) q else([],[])):=by
 apply Quk
 simp only[Qk2,Ku a b ha hb,QQ0]
 cases h:QL (a,b)
 ·simp
 ·have hl:=ze h
  simp only at hl
  simp only[QQ3,QQ2,QQ1,QwL q a b hq (by omega),Qxx q b hq (by omega),QQ0,ZZ]
theorem Qvl (q:List Int) (a:List Qg) (b:List Qb) (hq:q.length<=maxLen) (ha:a.length<=4294967296) (c:List Qb):
 ZK wl (q,0,a,b,[],c)=some (q,a,b,a.filter (fun x=>Xq q x.1),c):=by
 have e:=Xb a.length (fun i (o:List Qg)=>ZK wl (q,(i:Int),a,b,o,c)) (fun i o=>(q,a,b,o++(a.drop i).filter (fun x=>Xq q x.1),c)) (fun i o=>o.length<=i)
  (fun i hi o ho ih=>by
    apply QeF
    have ih1:=ih o (by omega)
    have ih2:=ih (o++[a[i]]) (by simp;omega)
    simp only[QbL,ilt hi,Ql hi,Qi hi,inc hi (show a.length<=maxLen by simp[maxLen];omega),QQ1,Qrl,QwB q _ hq,QQ0,List.length_singleton,Qy (show(o.length+1)*56<=140737488351232 by omega)]
    rw[QRa hi,List.filter_cons]
    cases h:Xq q a[i].1
    ·have h':decide (JN a[i].1∈q)=false:=h
     simp only[h',QQ2,QRw,if_false];exact ih1
    ·have h':decide (JN a[i].1∈q)=true:=h
     simp only[h',QQ1,if_true]
     rw[show o++a[i]::List.filter (fun x=>Xq q x.1) (List.drop (i+1) a)=(o++[a[i]])++List.filter (fun x=>Xq q x.1) (List.drop (i+1) a) by simp]
     exact ih2)
  (fun o _=>by
    apply QeF
    simp[QbL])
  [] (by simp)
 simpa using e
theorem Qvq (q:List Int) (a:List Qg) (b:List Qb) (hq:q.length<=maxLen) (hb:b.length<=4294967296) (c:List Qg):
 ZN wl (q,0,a,b,c,[])=some (c,b.filter (fun x=>Xq q x.1)):=by
 have e:=Xb b.length (fun i (o:List Qb)=>ZN wl (q,(i:Int),a,b,c,o)) (fun i o=>(c,o++(b.drop i).filter (fun x=>Xq q x.1))) (fun i o=>o.length<=i)
  (fun i hi o ho ih=>by
    apply Qec
    have ih1:=ih o (by omega)
    have ih2:=ih (o++[b[i]]) (by simp;omega)
    simp only[vR,ilt hi,Ql hi,Qi hi,inc hi (show b.length<=maxLen by simp[maxLen];omega),QQ1,Qrl,QwB q _ hq,QQ0,List.length_singleton,Qy (show(o.length+1)*16<=140737488351232 by omega)]
    rw[QRa hi,List.filter_cons]
    cases h:Xq q b[i].1
    ·have h':decide (JN b[i].1∈q)=false:=h
     simp only[h',QQ2,QRw,if_false];exact ih1
    ·have h':decide (JN b[i].1∈q)=true:=h
     simp only[h',QQ1,if_true]
     rw[show o++b[i]::List.filter (fun x=>Xq q x.1) (List.drop (i+1) b)=(o++[b[i]])++List.filter (fun x=>Xq q x.1) (List.drop (i+1) b) by simp]
     exact ih2)
  (fun o _=>by
    apply Qec
    simp[vR])
  [] (by simp)
 simpa using e
theorem QAT (a:List Qg) (b:List Qb) (q:List Int) (hq:q.length<=maxLen) (ha:a.length<=4294967296) (hb:b.length<=4294967296):
 vJ w (a,b,q)=some (ZZ (a,b) q):=by
 apply Qq5
 simp only[Qhk,Qvl q a b hq ha,Qvq q a b hq hb,QQ0,ZZ]
theorem QrE:(p p':Int)->(l:List Qb)->p'<=p->QN p l=true->QN p' l=true
 |p,p',[],_,_=>rfl
 |p,p',x::l,hp,h=>by
  simp only[QN,QQ5,QRu]at h⊢
  exact⟨⟨h.1.1,by omega⟩,h.2⟩
theorem QrT (fl:List Qb):(p p':Int)->(l:List Qg)->p'<=p->Xi fl p l=true->Xi fl p' l=true
 |p,p',[],_,_=>rfl
 |p,p',x::l,hp,h=>by
  simp only[Xi,QQ5,QRu]at h⊢
  exact⟨⟨h.1.1,by omega⟩,h.2⟩
theorem Qix (f:Int->Bool):(p:Int)->(l:List Qb)->QN p l=true->QN p (l.filter fun x=>f x.1)=true
 |p,[],_=>rfl
 |p,x::l,h=>by
  have h':=h
  simp only[QN,QQ5,QRu]at h
  have ih:=Qix f x.1 l h.2
  rw[List.filter_cons]
  cases hf:f x.1
  ·simp only[QRw,if_false];exact QrE _ _ _ (by omega) ih
  ·simp only[if_true,QN,QQ5,QRu]
   exact⟨⟨h.1.1,h.1.2⟩,ih⟩
theorem QkU (f:Int->Bool) (id:Int) (hf:f id=true):(l:List Qb)->QZ id (l.filter fun x=>f x.1)=QZ id l
 | []=>rfl
 |x::l=>by
  have ih:=QkU f id hf l
  rw[List.filter_cons]
  by_cases hx:x.1=id
  ·rw[hx,hf];simp[QZ,hx]
  ·cases f x.1
   ·simp only[QRw,if_false,QZ,hx];exact ih
   ·simp only[if_true,QZ,hx,if_false];exact ih
theorem Qke (f:Int->Bool) (fl:List Qb):(p:Int)->(l:List Qg)->Xi fl p l=true->Xi (fl.filter fun x=>f x.1) p (l.filter fun x=>f x.1)=true
 |p,[],_=>rfl
 |p,x::l,h=>by
  simp only[Xi,QQ5,QRu]at h
  have ih:=Qke f fl x.1 l h.2
  rw[List.filter_cons]
  cases hf:f x.1
  ·simp only[QRw,if_false];exact QrT _ _ _ _ (by omega) ih
  ·simp only[if_true,Xi,QQ5,QRu,QkU f x.1 hf]
   exact⟨⟨h.1.1,h.1.2⟩,ih⟩
theorem Qqj {s:Qk}(q:List Int) (h:QL s=true):QL (ZZ s q)=true:=by
 simp only[QL,QQ5]at h⊢
 exact⟨Qix (Xq q) _ _ h.1,Qke (Xq q) _ _ _ h.2⟩
end Go.Proofs.YtiejfnbmficbmaaGreat.M
namespace Go.Proofs.YtiejfnbmficbmaaGreat.M
open Go Go.Eng Go.Proofs
set_option linter.unusedVariables false
def ZU (x:Qg):List Int:=Qm x.1++(Qm x.2.1++(Qm x.2.2.1++(Qm x.2.2.2.1++(Qm x.2.2.2.2.1++Vq x.2.2.2.2.2))))
def XB (x:Qb):List Int:=Qm x.1++Qm x.2
def stB (s:Qk):List Int:=Qm (s.1.length:Nat)++(s.1.flatMap ZU++(Qm (s.2.length:Nat)++s.2.flatMap XB))
theorem Qew (x:Qg):(ZU x).length<=30+ByteArray.size x.2.2.2.2.2:=by
 have h0:=QE x.1
 have h1:=QE x.2.1
 have h2:=QE x.2.2.1
 have h3:=QE x.2.2.2.1
 have h4:=QE x.2.2.2.2.1
 have h5:=Qot x.2.2.2.2.2
 simp only[ZU,QRj];omega
theorem Vx (x:Qb):(XB x).length<=10:=by
 have h0:=QE x.1
 have h1:=QE x.2
 simp only[XB,QRj];omega
def smB (s:Qk):Prop:=s.1.length<=1000/\s.2.length<=1000/\∀x∈s.1,ByteArray.size x.2.2.2.2.2<=1000
theorem QmC (fl:List Qb):(p:Int)->(l:List Qg)->Xi fl p l=true->∀x∈l,ByteArray.size x.2.2.2.2.2<=8
 |p,[],_=>by simp
 |p,x::l,h=>by
  simp only[Xi,QQ5]at h
  have h1:=h.1.1.1.2
  simp only[XW,QQ5,QRu]at h1
  intro y hy
  rcases QRk.1 hy with e|e
  ·rw[e];have:=h1.2;omega
  ·exact QmC fl x.1 l h.2 y e
theorem Qcx {s:Qk}(h:QL s=true):smB s:=by
 have hl:=ze h
 simp only[QL,QQ5]at h
 exact⟨by omega,by omega,fun x hx=>by have:=QmC _ _ _ h.2 x hx;omega⟩
theorem K4 {α:Type}(f:α->List Int) (n:Nat):(l:List α)->(∀x∈l,(f x).length<=n)->(l.flatMap f).length<=l.length*n
 | [],_=>by simp
 |x::l,h=>by
  have ih:=K4 f n l fun y hy=>h y (by simp[hy])
  have:=h x (by simp)
  simp only[List.flatMap_cons,QRj,List.length_cons,Nat.succ_mul];omega
theorem QsA {s:Qk}(h:smB s):(stB s).length<=2000000:=by
 have h1:=K4 ZU 1030 s.1 fun x hx=>by have:=Qew x;have:=h.2.2 x hx;omega
 have h2:=K4 XB 10 s.2 fun x _=>Vx x
 have h3:=QE (s.1.length:Nat)
 have h4:=QE (s.2.length:Nat)
 have h5:s.1.length*1030<=1000*1030:=Nat.mul_le_mul_right _ h.1
 have h6:s.2.length*10<=1000*10:=Nat.mul_le_mul_right _ h.2.1
 simp only[stB,QRj];omega
theorem QtZ (a:List Qg) (b:List Qb) (h:smB (a,b)) (o:List Int) (ho:o.length<=10):
 Zx wl (a,((a.length:Nat):Int),0,a,b,o)=some (a,b,o++a.flatMap ZU):=by
 have hl:a.length<=1000:=h.1
 have e:=Xb a.length (fun i (o:List Int)=>Zx wl (a,((a.length:Nat):Int),(i:Int),a,b,o)) (fun i o=>(a,b,o++(a.drop i).flatMap ZU)) (fun i o=>o.length<=10+i*1030)
  (fun i hi o ho ih=>by
    apply jK
    have hb:=Qew a[i]
    have hd:=h.2.2 a[i] (QRf hi)
    have ih1:=ih (o++ZU a[i]) (by rw[QRj];omega)
    have ej: [o,Qm a[i].1,Qm a[i].2.1,Qm a[i].2.2.1,Qm a[i].2.2.2.1,Qm a[i].2.2.2.2.1,Vq a[i].2.2.2.2.2].flatten=o++ZU a[i]:=by simp[ZU]
    have hj:=KG [o,Qm a[i].1,Qm a[i].2.1,Qm a[i].2.2.1,Qm a[i].2.2.2.1,Qm a[i].2.2.2.2.1,Vq a[i].2.2.2.2.2] (by simp[maxLen]) (by rw[ej,QRj];omega)
    simp only[xV,ilt hi,Ql hi,Qi hi,inc hi (show a.length<=maxLen by simp[maxLen];omega),QQ1,KB,QyT _ (show ByteArray.size a[i].2.2.2.2.2<=4294967296 by omega),QQ0,hj,ej,ih1]
    rw[QRa hi,List.flatMap_cons,QRc])
  (fun o _=>by
    apply jK
    simp[xV])
  o (by omega)
 simpa using e
theorem Quj (b:List Qb) (hb:b.length<=1000) (o:List Int) (ho:o.length<=2000000):
 ZC wl (b,((b.length:Nat):Int),0,o)=some (o++b.flatMap XB):=by
 have e:=Xb b.length (fun i (o:List Int)=>ZC wl (b,((b.length:Nat):Int),(i:Int),o)) (fun i o=>o++(b.drop i).flatMap XB) (fun i o=>o.length<=2000000+i*10)
  (fun i hi o ho ih=>by
    apply jS
    have hb:=Vx b[i]
    have ih1:=ih (o++XB b[i]) (by rw[QRj];omega)
    have ej: [o,Qm b[i].1,Qm b[i].2].flatten=o++XB b[i]:=by simp[XB]
    have hj:=KG [o,Qm b[i].1,Qm b[i].2] (by simp[maxLen]) (by rw[ej,QRj];omega)
    simp only[zl,ilt hi,Ql hi,Qi hi,inc hi (show b.length<=maxLen by simp[maxLen];omega),QQ1,KB,QQ0,hj,ej,ih1]
    rw[QRa hi,List.flatMap_cons,QRc])
  (fun o _=>by
    apply jS
    simp[zl])
  o (by omega)
 simpa using e
theorem Ql2 (a:List Qg) (b:List Qb) (ha:a.length<=maxLen) (hb:b.length<=maxLen):Jr w (a,b)=some (bif QL (a,b)then stB (a,b)else []):=by
 apply Qml
 simp only[Qb0,Ku a b ha hb,QQ0]
 cases h:QL (a,b)
 ·simp
 ·have hs:=Qcx h
  have hp:=QE (a.length:Nat)
  have h1:=K4 ZU 1030 a fun x hx=>by have:=Qew x;have:=hs.2.2 x hx;omega
  have hal:a.length<=1000:=hs.1
  have hbl:b.length<=1000:=hs.2.1
  have h5:a.length*1030<=1000*1030:=Nat.mul_le_mul_right _ hal
  have hp2:=QE (b.length:Nat)
  have ej: [Qm ((a.length:Nat):Int)++a.flatMap ZU,Qm ((b.length:Nat):Int)].flatten=Qm ((a.length:Nat):Int)++a.flatMap ZU++Qm ((b.length:Nat):Int):=by simp
  have hj:=KG [Qm ((a.length:Nat):Int)++a.flatMap ZU,Qm ((b.length:Nat):Int)] (by simp[maxLen]) (by rw[ej];simp only[QRj];omega)
  simp only[QQ3,QQ2,QQ1,KB,QQ0,QtZ a b hs _ (show(Qm ((a.length:Nat):Int)).length<=10 by omega),hj,ej,Quj b hbl _ (show(Qm ((a.length:Nat):Int)++a.flatMap ZU++Qm ((b.length:Nat):Int)).length<=2000000 by simp only[QRj];omega)]
  simp only[stB,QRc]
theorem QxC (i:Int) (a:List Qg) (b:List Qb) (o:List Int) (p q r s:Int) (t:ByteArray) (l:List Int) (hl:l.length<=5) (ho:o.length<=2000000):
 Y6 wl (i,0,a,b,o,p,q,r,s,t,l)=some (i,a,b,o++l.flatMap Qm,p,q,r,s,t):=by
 have e:=Xb l.length (fun k (o:List Int)=>Y6 wl (i,(k:Int),a,b,o,p,q,r,s,t,l)) (fun k o=>(i,a,b,o++(l.drop k).flatMap Qm,p,q,r,s,t)) (fun k o=>o.length<=2000000+k*5)
  (fun k hk o ho ih=>by
    apply QeC
    have hb:=QE l[k]
    have ih1:=ih (o++Qm l[k]) (by rw[QRj];omega)
    simp only[QaE,ilt hk,Ql hk,Qi hk,inc hk (show l.length<=maxLen by simp[maxLen];omega),QQ1,ZQ,QQ0,Qy (show(o.length+(Qm l[k]).length)*1<=140737488351232 by omega),ih1]
    rw[QRa hk,List.flatMap_cons,QRc])
  (fun o _=>by
    apply QeC
    simp[QaE])
  o (by omega)
 simpa using e
theorem QvK (a:List Qg) (b:List Qb) (h:smB (a,b)) (o:List Int) (ho:o.length<=10):
 YN wl (0,a,b,o)=some (a,b,o++a.flatMap ZU):=by
 have hl:a.length<=1000:=h.1
 have e:=Xb a.length (fun i (o:List Int)=>YN wl ((i:Int),a,b,o)) (fun i o=>(a,b,o++(a.drop i).flatMap ZU)) (fun i o=>o.length<=10+i*1030)
  (fun i hi o ho ih=>by
    apply Qer
    have hb:=Qew a[i]
    have hd:=h.2.2 a[i] (QRf hi)
    have ih1:=ih (o++ZU a[i]) (by rw[QRj];omega)
    have ej:(o++[a[i].1,a[i].2.1,a[i].2.2.1,a[i].2.2.2.1,a[i].2.2.2.2.1].flatMap Qm)++Vq a[i].2.2.2.2.2=o++ZU a[i]:=by simp[ZU]
    have hn:=QxC (i:Int) a b o a[i].2.1 a[i].2.2.1 a[i].2.2.2.1 a[i].2.2.2.2.1 a[i].2.2.2.2.2 [a[i].1,a[i].2.1,a[i].2.2.1,a[i].2.2.2.1,a[i].2.2.2.2.1] (by simp) (by omega)
    have hlen:((o++[a[i].1,a[i].2.1,a[i].2.2.1,a[i].2.2.2.1,a[i].2.2.2.2.1].flatMap Qm).length+(Vq a[i].2.2.2.2.2).length)*1<=140737488351232:=by
     have:=congrArg List.length ej
     simp only[QRj]at this⊢; omega
    simp only[QaK,ilt hi,Ql hi,Qi hi,inc hi (show a.length<=maxLen by simp[maxLen];omega),QQ1,hn,QwW _ (show ByteArray.size a[i].2.2.2.2.2<=4294967296 by omega),QQ0,Qy hlen,ej,ih1]
    rw[QRa hi,List.flatMap_cons,QRc])
  (fun o _=>by
    apply Qer
    simp[QaK])
  o (by omega)
 simpa using e
theorem QvF (a:List Qg) (b:List Qb) (hb:b.length<=1000) (o:List Int) (ho:o.length<=2000000):
 Y7 wl (0,a,b,o)=some (o++b.flatMap XB):=by
 have e:=Xb b.length (fun i (o:List Int)=>Y7 wl ((i:Int),a,b,o)) (fun i o=>o++(b.drop i).flatMap XB) (fun i o=>o.length<=2000000+i*10)
  (fun i hi o ho ih=>by
    apply Qds
    have hb:=Vx b[i]
    have h1:=QE b[i].1
    have h2:=QE b[i].2
    have ih1:=ih (o++XB b[i]) (by rw[QRj];omega)
    have ej:o++Qm b[i].1++Qm b[i].2=o++XB b[i]:=by simp[XB]
    simp only[Qbq,ilt hi,Ql hi,Qi hi,inc hi (show b.length<=maxLen by simp[maxLen];omega),QQ1,ZQ,QQ0,Qy (show(o.length+(Qm b[i].1).length)*1<=140737488351232 by omega),Qy (show((o++Qm b[i].1).length+(Qm b[i].2).length)*1<=140737488351232 by rw[QRj];omega),ej,ih1]
    rw[QRa hi,List.flatMap_cons,QRc])
  (fun o _=>by
    apply Qds
    simp[Qbq])
  o (by omega)
 simpa using e
theorem Qte (a:List Qg) (b:List Qb) (hs:smB (a,b)):zg w (a,b)=some (stB (a,b)):=by
 apply QpF
 have hp:=QE (a.length:Nat)
 have h1:=K4 ZU 1030 a fun x hx=>by have:=Qew x;have:=hs.2.2 x hx;omega
 have hal:a.length<=1000:=hs.1
 have hbl:b.length<=1000:=hs.2.1
 have h5:a.length*1030<=1000*1030:=Nat.mul_le_mul_right _ hal
 have hp2:=QE (b.length:Nat)
 have hlen:((Qm ((a.length:Nat):Int)++a.flatMap ZU).length+(Qm ((b.length:Nat):Int)).length)*1<=140737488351232:=by simp only[QRj];omega
 simp only[Qhg,ZQ,QQ0,QvK a b hs _ (show(Qm ((a.length:Nat):Int)).length<=10 by omega),Qy hlen,QQ1,QvF a b hbl _ (show(Qm ((a.length:Nat):Int)++a.flatMap ZU++Qm ((b.length:Nat):Int)).length<=2000000 by simp only[QRj];omega)]
 simp only[stB,QRc]
def Vr (s:Qk) (k:Int):Int:=bif QL s&&inR k 0 3 then Int.tmod (crc (stB (ZZ s [k]))) 1024 else 0
theorem Qzy (a:List Qg) (b:List Qb) (k:Int) (ha:a.length<=maxLen) (hb:b.length<=maxLen):Qa5 w (a,b,k)=some (Vr (a,b) k):=by
 apply QpC
 simp only[Qh3,Ku a b ha hb,Xd,QQ0,Vr]
 cases h:QL (a,b)
 ·simp
 ·cases h2:inR k 0 3
  ·simp
  ·have hs:=Qqj [k] h
   have hl:=ze hs
   have hB:=QsA (Qcx hs)
   simp only[QQ3,QQ2,QCV a b [k] (by simp[maxLen]) ha hb,h,QQ1,QQ0,Ql2 (ZZ (a,b) [k]).1 (ZZ (a,b) [k]).2 (by simp only[maxLen];omega) (by simp only[maxLen];omega),Bool.and_self]
   simp only[show QL ((ZZ (a,b) [k]))=true from hs,QQ1,Qpu (stB ((ZZ (a,b) [k]))) (show(stB (ZZ (a,b) [k])).length<=maxLen by simp only[maxLen];omega),QQ0,dt (show(1024:Int)≠0 by omega)]
theorem QxL (a:List Qg) (b:List Qb) (k:Int) (ha:a.length<=maxLen) (hb:b.length<=maxLen):vO w (a,b,k)=some (Vr (a,b) k):=by
 apply Qrd
 simp only[Qin,Jt a b ha hb,XE,QQ0,Vr]
 cases h:QL (a,b)
 ·simp
 ·cases h2:inR k 0 3
  ·simp
  ·have hs:=Qqj [k] h
   have hl:=ze h
   simp only at hl
   have hB:=QsA (Qcx hs)
   simp only[QQ3,QQ2,QAT a b [k] (by simp[maxLen]) (by omega) (by omega),QQ0,Qte (ZZ (a,b) [k]).1 (ZZ (a,b) [k]).2 (Qcx hs),QQ1,Bool.and_self,Qnk (stB ((ZZ (a,b) [k]))) (show(stB (ZZ (a,b) [k])).length<=maxLen by simp only[maxLen];omega),dt (show(1024:Int)≠0 by omega)]
def rootOf (l:List Int):Int:=Int.tmod (crc (l.flatMap Qm)) 1024
theorem QBi (l:List Int) (hl:l.length<=4294967296):Qdk w l=some (rootOf l):=by
 apply QsB
 have e:=Xb l.length (fun i (o:List Int)=>JT wl (l,((l.length:Nat):Int),(i:Int),o)) (fun i o=>o++(l.drop i).flatMap Qm) (fun i o=>o.length<=i*5)
  (fun i hi o ho ih=>by
    apply Qfz
    have hb:=QE l[i]
    have ih1:=ih (o++Qm l[i]) (by rw[QRj];omega)
    have ej: [o,Qm l[i]].flatten=o++Qm l[i]:=by simp
    have hj:=KG [o,Qm l[i]] (by simp[maxLen]) (by rw[ej,QRj];omega)
    simp only[Qcy,ilt hi,Ql hi,Qi hi,inc hi (show l.length<=maxLen by simp[maxLen];omega),QQ1,KB,QQ0,hj,ej,ih1]
    rw[QRa hi,List.flatMap_cons,QRc])
  (fun o _=>by
    apply Qfz
    simp[Qcy])
  [] (by simp)
 simp only[QQ6,QRg,QRe]at e
 have hb:=K4 Qm 5 l fun x _=>QE x
 simp only[Qjp,e,QQ0,Qpu (l.flatMap Qm) (by simp only[maxLen];omega),dt (show(1024:Int)≠0 by omega),QQ1,rootOf]
theorem QBJ (l:List Int) (hl:l.length<=4294967296):Qc2 w l=some (rootOf l):=by
 apply Qsy
 have e:=Xb l.length (fun i (o:List Int)=>J4 wl (l,(i:Int),o)) (fun i o=>o++(l.drop i).flatMap Qm) (fun i o=>o.length<=i*5)
  (fun i hi o ho ih=>by
    apply QfM
    have hb:=QE l[i]
    have ih1:=ih (o++Qm l[i]) (by rw[QRj];omega)
    simp only[QcC,ilt hi,Ql hi,Qi hi,inc hi (show l.length<=maxLen by simp[maxLen];omega),QQ1,ZQ,QQ0,Qy (show(o.length+(Qm l[i]).length)*1<=140737488351232 by omega),ih1]
    rw[QRa hi,List.flatMap_cons,QRc])
  (fun o _=>by
    apply QfM
    simp[QcC])
  [] (by simp)
 simp only[QQ6,QRg,QRe]at e
 have hb:=K4 Qm 5 l fun x _=>QE x
 simp only[QiK,e,QQ0,Qnk (l.flatMap Qm) (by simp only[maxLen];omega),dt (show(1024:Int)≠0 by omega),QQ1,rootOf]
def leaves (s:Qk):List Int:=[Vr s 0,Vr s 1,Vr s 2,Vr s 3]
def KW (s:Qk):XY:=bif QL s then(leaves s,rootOf (leaves s))else([],0)
theorem QFr {i:Nat}(h:i<4):decide ((i:Int)<4)=true:=by simp;omega
theorem QBc (a:List Qg) (b:List Qb) (ha:a.length<=maxLen) (hb:b.length<=maxLen):Qc1 w (a,b)=some (KW (a,b)):=by
 apply QsM
 have e:=Xb 4 (fun i (o:List Int)=>KN wl ((i:Int),a,b,o,0)) (fun i o=>(o++(List.range' i (4 - i)).flatMap fun i=>[Vr (a,b) (i:Nat)],(0:Int))) (fun i o=>o.length<=i)
  (fun i hi o ho ih=>by
    apply Qft
    have ih1:=ih (o++[Vr (a,b) (i:Nat)]) (by simp;omega)
    rw[VY hi,<-QRc,<-ih1]
    simp only[Qcv,QFr hi,QQ1,Qzy a b _ ha hb,QQ0,List.length_singleton,Qy (show(o.length+1)*8<=140737488351232 by omega),QyW hi])
  (fun o _=>by
    apply Qft
    simp[Qcv])
  [] (by simp)
 have e:KN wl (0,a,b,[],0)=some (leaves (a,b),0):=e
 simp only[QjK,Ku a b ha hb,QQ0,KW]
 cases QL (a,b)
 ·simp
 ·simp only[QQ3,QQ2,QQ1,e,QQ0,QBi (leaves (a,b)) (by simp[leaves])]
theorem QyA (a:List Qg) (b:List Qb) (ha:a.length<=maxLen) (hb:b.length<=maxLen):Qc7 w (a,b)=some (KW (a,b)):=by
 apply QrY
 have e:=Xb 4 (fun i (o:List Int)=>KP wl ((i:Int),a,b,o,0)) (fun i o=>(o++(List.range' i (4 - i)).flatMap fun i=>[Vr (a,b) (i:Nat)],(0:Int))) (fun i o=>o.length<=i)
  (fun i hi o ho ih=>by
    apply QfK
    have ih1:=ih (o++[Vr (a,b) (i:Nat)]) (by simp;omega)
    rw[VY hi,<-QRc,<-ih1]
    simp only[QcD,QFr hi,QQ1,QxL a b _ ha hb,QQ0,List.length_singleton,Qy (show(o.length+1)*8<=140737488351232 by omega),QyW hi])
  (fun o _=>by
    apply QfK
    simp[QcD])
  [] (by simp)
 have e:KP wl (0,a,b,[],0)=some (leaves (a,b),0):=e
 simp only[QjF,Jt a b ha hb,QQ0,KW]
 cases QL (a,b)
 ·simp
 ·simp only[QQ3,QQ2,QQ1,e,QQ0,QBJ (leaves (a,b)) (by simp[leaves])]
end Go.Proofs.YtiejfnbmficbmaaGreat.M
namespace Go.Proofs.YtiejfnbmficbmaaGreat.M
open Go Go.Eng Go.Proofs
set_option linter.unusedVariables false
def ZL (g:Zm):Bool:=inR g.1 1 8&&decide (((g.2.2.length:Nat):Int)<=g.1)&&inR g.2.1 0 100000&&decide (g.2.1+((g.2.2.length:Nat):Int)<=100000)&&g.2.2.all QL
theorem Zj {α:Type}{R:Type}(p:α->Bool) (l:List α) (x y:R) {i:Nat}(hi:i<l.length):(if(l.drop i).all p then x else y)=(bif p l[i]then(if(l.drop (i+1)).all p then x else y)else y):=by
 rw[QRa hi,List.all_cons]
 cases p l[i]<;>simp
theorem Qr4 {α:Type}{R:Type}(p:α->Bool) (l:List α) (x y:R):(if(l.drop l.length).all p then x else y)=x:=by simp
theorem Qo0 (a b:Int) (l:List Qk) (hl:l.length<=maxLen) (hs:∀s∈l,s.1.length<=maxLen/\s.2.length<=maxLen):qv w (a,b,l)=some (ZL (a,b,l)):=by
 apply QtT
 have e:=Q1 l.length (fun i=>qR wl (l,((l.length:Nat):Int),(i:Int),a,b,l)) (fun i=>if(l.drop i).all QL then .inr (a,b,l)else .inl false)
  (fun i hi ih=>by
    apply Qif
    have hx:=hs _ (QRf hi)
    rw[Zj QL l _ _ hi]
    simp only[Qe4,ilt hi,Ql hi,Qi hi,inc hi hl,QQ1,Ku _ _ hx.1 hx.2,QQ0,ih]
    cases QL l[i]<;>simp)
  (by
    apply Qif
    simp[Qe4])
 simp only[QQ6,QRg]at e
 simp only[Qkc,e,QQ0,Xd,ZL]
 cases l.all QL
 ·simp[Qq]
 ·simp only[if_true,Qq,Sum.elim_inr,QRn]
  cases h1:inR a 1 8
  ·simp
  ·by_cases h2:((l.length:Nat):Int)<=a
   ·cases h3:inR b 0 100000
    ·simp
    ·simp[inR]at h1 h3
     rw[w64 (by omega) (by omega)]
     simp[h2]
   ·simp[h2]
theorem QmU (a b:Int) (l:List Qk) (hl:l.length<=maxLen) (hs:∀s∈l,s.1.length<=maxLen/\s.2.length<=maxLen):qE w (a,b,l)=some (ZL (a,b,l)):=by
 apply Qt6
 have e:=Q1 l.length (fun i=>qN wl ((i:Int),a,b,l)) (fun i=>if(l.drop i).all QL then .inr ()else .inl false)
  (fun i hi ih=>by
    apply Qhy
    have hx:=hs _ (QRf hi)
    rw[Zj QL l _ _ hi]
    simp only[Qfb,ilt hi,Ql hi,Qi hi,inc hi hl,QQ1,Jt _ _ hx.1 hx.2,QQ0,ih]
    cases QL l[i]<;>simp)
  (by
    apply Qhy
    simp[Qfb])
 simp only[QQ6,QRg]at e
 simp only[Qkn,e,QQ0,XE,ZL]
 cases h1:inR a 1 8
 ·simp
 ·by_cases h2:((l.length:Nat):Int)<=a
  ·cases h3:inR b 0 100000
   ·simp[h2]
   ·simp[inR]at h1 h3
    rw[w64 (by omega) (by omega)]
    by_cases h4:b+((l.length:Nat):Int)<=100000
    ·simp only[QQ3,QQ2,df (show¬a<((l.length:Nat):Int) by omega),df (show¬100000<b+((l.length:Nat):Int) by omega),dt h2,dt h4,QRd,QRn]
     cases l.all QL<;>simp[Qq]
    ·simp only[QQ3,QQ2,df (show¬a<((l.length:Nat):Int) by omega),dt (show 100000<b+((l.length:Nat):Int) by omega),df h4,QQ1,Bool.and_false,QRm]
  ·simp only[QQ3,QQ2,dt (show a<((l.length:Nat):Int) by omega),QQ1,df h2,Bool.and_false,QRm]
def Xs (g:Zm):Int:=bif ZL g then g.2.1+((g.2.2.length:Nat):Int)else 0
theorem Qgg {g:Zm}(h:ZL g=true):g.2.2.length<=8/\0<=g.2.1/\g.2.1<=100000/\g.2.1+((g.2.2.length:Nat):Int)<=100000:=by
 simp[ZL,inR]at h;omega
theorem Qm3 (a b:Int) (l:List Qk) (hl:l.length<=maxLen) (hs:∀s∈l,s.1.length<=maxLen/\s.2.length<=maxLen):JJ w (a,b,l)=some (Xs (a,b,l)):=by
 apply Qsf
 simp only[Qje,Qo0 a b l hl hs,QQ0,Xs]
 cases h:ZL (a,b,l)
 ·simp
 ·have:=Qgg h
  simp only at this
  rw[w64 (by omega) (by omega)];simp
theorem Qls (a b:Int) (l:List Qk) (hl:l.length<=maxLen) (hs:∀s∈l,s.1.length<=maxLen/\s.2.length<=maxLen):xi w (a,b,l)=some (Xs (a,b,l)):=by
 apply QsF
 simp only[QiB,QmU a b l hl hs,QQ0,Xs]
 cases h:ZL (a,b,l)
 ·simp
 ·have:=Qgg h
  simp only at this
  rw[w64 (by omega) (by omega)];simp
def Yj (v:List Int) (n:Int):Bool:=inR n 1 5&&decide (((v.length:Nat):Int)=n)&&v.all fun x=>inR x 0 100000
theorem Qv8 (v:List Int) (n:Int) (hv:v.length<=maxLen):Qaj w (v,n)=some (Yj v n):=by
 apply QtU
 have e:=Q1 v.length (fun i=>qW wl (v,n,v,((v.length:Nat):Int),(i:Int))) (fun i=>if(v.drop i).all (fun x=>inR x 0 100000)then .inr (v,n)else .inl false)
  (fun i hi ih=>by
    apply Qhx
    rw[Zj (fun x=>inR x 0 100000) v _ _ hi]
    simp only[Qe8,ilt hi,Ql hi,Qi hi,inc hi hv,QQ1,Xd,QQ0,ih]
    cases inR v[i] 0 100000<;>simp)
  (by
    apply Qhx
    simp[Qe8])
 simp only[QQ6,QRg]at e
 simp only[QkK,e,QQ0,Xd,Yj]
 cases v.all fun x=>inR x 0 100000
 ·simp[Qq]
 ·simp only[if_true,Qq,Sum.elim_inr,QRn]
  cases inR n 1 5<;>simp
theorem Qtb (v:List Int) (n:Int) (hv:v.length<=maxLen):QbE w (v,n)=some (Yj v n):=by
 apply Qt7
 by_cases h2:((v.length:Nat):Int)=n
 ·subst h2
  have e:=Q1 v.length (fun i=>qJ wl (v,((v.length:Nat):Int),(i:Int))) (fun i=>if(v.drop i).all (fun x=>inR x 0 100000)then .inr ()else .inl false)
   (fun i hi ih=>by
     apply QhP
     rw[Zj (fun x=>inR x 0 100000) v _ _ hi]
     simp only[Qfc,ilt hi,Ql hi,Qi hi,inc hi hv,QQ1,XE,QQ0,ih]
     cases inR v[i] 0 100000<;>simp)
   (by
     apply QhP
     simp[Qfc])
  simp only[QQ6,QRg]at e
  simp only[Qcq,e,QQ0,XE,Yj]
  cases inR ((v.length:Nat):Int) 1 5
  ·simp
  ·cases v.all fun x=>inR x 0 100000<;>simp[Qq]
 ·simp only[Qcq,XE,QQ0,Yj,df h2]
  cases inR n 1 5<;>simp
def qA (r:List Int):Bool:=(r.all fun x=>inR x 0 1000)&&decide (((r.length:Nat):Int)=5)
def YW (t:List (List Int)) (n:Int):Bool:=inR n 1 5&&decide (((t.length:Nat):Int)=n)&&t.all qA
theorem QyF (t:List (List Int)) (n:Int) (ht:t.length<=maxLen) (hr:∀r∈t,r.length<=maxLen):vQ w (t,n)=some (YW t n):=by
 apply Qqg
 have inner:∀(i:Int) (r:List Int),r.length<=maxLen->YO wl (t,n,r,t,((t.length:Nat):Int),i,r,((r.length:Nat):Int),0)=some (if r.all (fun x=>inR x 0 1000)then .inr (t,n,r,t,((t.length:Nat):Int),i)else .inl false):=by
  intro i r hr
  have e:=Q1 r.length (fun k=>YO wl (t,n,r,t,((t.length:Nat):Int),i,r,((r.length:Nat):Int),(k:Int))) (fun k=>if(r.drop k).all (fun x=>inR x 0 1000)then .inr (t,n,r,t,((t.length:Nat):Int),i)else .inl false)
   (fun k hk ih=>by
     apply QeL
     rw[Zj (fun x=>inR x 0 1000) r _ _ hk]
     simp only[va,ilt hk,Ql hk,Qi hk,inc hk hr,QQ1,Xd,QQ0,ih]
     cases inR r[k] 0 1000<;>simp)
   (by
     apply QeL
     simp[va])
  simpa using e
 have e:=Q1 t.length (fun i=>Jo wl (t,n,t,((t.length:Nat):Int),(i:Int))) (fun i=>if(t.drop i).all qA then .inr (t,n)else .inl false)
  (fun i hi ih=>by
    apply Qdx
    rw[Zj qA t _ _ hi]
    have hx:=hr _ (QRf hi)
    simp only[Qa6,ilt hi,Ql hi,Qi hi,QQ1,inner _ _ hx,QQ0,qA]
    cases t[i].all fun x=>inR x 0 1000
    ·simp[Qq]
    ·simp only[if_true,Qq,Sum.elim_inr,QRd,inc hi ht,ih]
     cases decide (((t[i].length:Nat):Int)=5)<;>simp)
  (by
    apply Qdx
    simp[Qa6])
 simp only[QQ6,QRg]at e
 simp only[QgA,e,QQ0,Xd,YW]
 cases t.all qA
 ·simp[Qq]
 ·simp only[if_true,Qq,Sum.elim_inr,QRn]
  cases inR n 1 5<;>simp
theorem QxK (t:List (List Int)) (n:Int) (ht:t.length<=maxLen) (hr:∀r∈t,r.length<=maxLen):QbI w (t,n)=some (YW t n):=by
 apply Qq2
 by_cases h2:((t.length:Nat):Int)=n
 ·subst h2
  have inner:∀(i:Nat) (hi:i<t.length),YR wl (t,((t.length:Nat):Int),(i:Int),0)=some (if t[i].all (fun x=>inR x 0 1000)then .inr (t,((t.length:Nat):Int),(i:Int))else .inl false):=by
   intro i hi
   have hx:=hr _ (QRf hi)
   have e:=Q1 t[i].length (fun k=>YR wl (t,((t.length:Nat):Int),(i:Int),(k:Int))) (fun k=>if(t[i].drop k).all (fun x=>inR x 0 1000)then .inr (t,((t.length:Nat):Int),(i:Int))else .inl false)
    (fun k hk ih=>by
      apply QdF
      rw[Zj (fun x=>inR x 0 1000) t[i] _ _ hk]
      simp only[QaJ,Ql hi,Qi hi,ilt hk,Ql hk,Qi hk,inc hk hx,QQ1,XE,QQ0,ih]
      cases inR t[i][k] 0 1000<;>simp)
    (by
      apply QdF
      simp only[QaJ,Ql hi,Qi hi,Qs,QQ1,QQ2,Qr4])
   simpa using e
  have e:=Q1 t.length (fun i=>VR wl (t,((t.length:Nat):Int),(i:Int))) (fun i=>if(t.drop i).all qA then .inr ()else .inl false)
   (fun i hi ih=>by
     apply QeV
     rw[Zj qA t _ _ hi]
     simp only[Qac,ilt hi,Ql hi,Qi hi,QQ1,inner i hi,QQ0,qA]
     cases h5:decide (((t[i].length:Nat):Int)=5)
     ·simp
     ·cases t[i].all fun x=>inR x 0 1000
      ·simp[Qq]
      ·simp only[if_true,Qq,Sum.elim_inr,QRd,QQ3,QQ2,QQ1,inc hi ht,ih])
   (by
     apply QeV
     simp[Qac])
  simp only[QQ6,QRg]at e
  simp only[jf,e,QQ0,XE,YW]
  cases inR ((t.length:Nat):Int) 1 5
  ·simp
  ·cases t.all qA<;>simp[Qq]
 ·simp only[jf,XE,QQ0,YW,df h2]
  cases inR n 1 5<;>simp
def Qg7:Int->List Int->Int
 |m,[]=>m
 |m,x::l=>Qg7 (mxI m x) l
theorem Qx6 (b:Int):(m:Int)->(l:List Int)->(decide (b<Qg7 m l)= !(decide (m<=b)&&l.all fun x=>decide (x<=b)))
 |m,[]=>by
  by_cases h:m<=b
  ·rw[Qg7,dt h,df (show¬b<m by omega)];simp
  ·rw[Qg7,df h,dt (show b<m by omega)];simp
 |m,x::l=>by
  rw[Qg7,Qx6 b (mxI m x) l,List.all_cons]
  have:decide (mxI m x<=b)=(decide (m<=b)&&decide (x<=b)):=by
   unfold mxI
   split
   ·by_cases h:x<=b
    ·simp[h];omega
    ·simp[h]
   ·by_cases h:m<=b
    ·simp[h];omega
    ·simp[h]
  rw[this,Bool.and_assoc]
theorem QFF (a:Int) (l:List Int) (h:(a::l).length<=maxLen):Ko w (a::l)=some (Qg7 a l):=by
 apply Qlg
 have main:∀n i (m:Int),1<=i->i+n=(a::l).length->Zb wl (a::l,m,(i:Int))=some (Qg7 m ((a::l).drop i)):=by
  intro n
  induction n with
  |zero=>
   intro i m h1 hi
   apply zX
   have:i=(a::l).length:=by omega
   rw[this]
   simp only[qy,Qs,QQ2,QRl,Qg7]
  |succ n ih=>
   intro i m h1 hi
   have hi':i<(a::l).length:=by omega
   apply zX
   simp only[qy,ilt hi',Ql hi',Qi hi',inc hi' h,QQ1,ih (i+1) _ (by omega) (by omega)]
   rw[QRa hi',Qg7]
 have e:=main l.length 1 a (by omega) (by simp;omega)
 simp only[List.drop_succ_cons,QRg]at e
 have h0:0<(a::l).length:=by simp
 have e0:inb 0 (a::l).length=true:=Ql h0
 have e1:rd1 (0:Int) (a::l) 0=a:=rfl
 have e:Zb wl (a::l,a,1)=some (Qg7 a l):=e
 simp only[jC,df (show¬(((a::l).length:Nat):Int)<1 by simp;omega),QQ2,e0,QQ1,e1,e,QQ0]
end Go.Proofs.YtiejfnbmficbmaaGreat.M
