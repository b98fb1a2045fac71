/- What the plain forms that FnExactGiveAll reaches come to: PEntry. No conditions but those that each theorem states. -/
import Derived.Test.YtiejfnbmficbmaaGreatFnExactGiveAllPFam
import Derived.Lib.Bytealg
set_option linter.all false
namespace Go.Proofs.YtiejfnbmficbmaaGreat.M
open Go Go.Eng Go.Proofs
set_option linter.unusedVariables false
def Kd (a b:Int):Int:=if a<b then -1 else if b<a then 1 else 0
def Quc (a b:ByteArray):Int:=Go.Lib.compareBytes a.data.toList b.data.toList
def or5 (a b c d e:Int):Int:=if a≠0 then a else if b≠0 then b else if c≠0 then c else if d≠0 then d else e
def Vx (x y:XT):Int:=or5 (Kd x.1 y.1) (Kd x.2.1 y.2.1) (Kd x.2.2.1 y.2.2.1) (Kd x.2.2.2.1 y.2.2.2.1) (Quc x.2.2.2.2 y.2.2.2.2)
def Jd (x y:XT):XT:=if Vx x y<0 then y else x
theorem QqM:(a b:List UInt8)->Op.bytesLess a b=decide (Go.Lib.compareBytes a b= -1)/\(Go.Lib.compareBytes a b=0↔a=b)/\(Go.Lib.compareBytes a b= -1\/Go.Lib.compareBytes a b=0\/Go.Lib.compareBytes a b=1)
 | [],[]=>by simp[Op.bytesLess,Go.Lib.compareBytes]
 | [],_::_=>by simp[Op.bytesLess,Go.Lib.compareBytes]
 |_::_,[]=>by simp[Op.bytesLess,Go.Lib.compareBytes]
 |a::l,b::m=>by
  have ih:=QqM l m
  by_cases h:a<b
  ·have hne:a≠b:=fun e=>by subst e;exact UInt8.lt_irrefl _ h
   simp[Op.bytesLess,Go.Lib.compareBytes,h,hne]
  ·by_cases h2:b<a
   ·have hne:a≠b:=fun e=>by subst e;exact UInt8.lt_irrefl _ h2
    simp[Op.bytesLess,Go.Lib.compareBytes,h,h2,hne]
   ·have he:a=b:=UInt8.le_antisymm (UInt8.not_lt.1 h2) (UInt8.not_lt.1 h)
    subst he
    simp only[Op.bytesLess,Go.Lib.compareBytes,h,if_false]
    simpa using ih
theorem QJN (a:Int):Qh0 w a=some false:=by
 apply QBo
 simp[QqI]
theorem QFy (a b:Int):xn w (a,b)=some (Kd a b):=by
 apply QyY
 simp only[Qm9,QJN,QQ0,QQ2,Kd]
 by_cases h:a<b
 ·simp[h]
 ·by_cases h2:b<a
  ·simp[h,h2]
  ·simp[h,h2]
theorem Qus (a b:ByteArray):Zz w (a,b)=some (Quc a b):=by
 apply QaH
 rfl
theorem QAv (a b:ByteArray):yV w (a,b)=some (Quc a b):=by
 apply QrU
 simp only[Qe2,Qus,QQ0]
def orL:List Int->Int
 | []=>0
 |x::l=>if x=0 then orL l else x
def orR:List Int->Int⊕Int
 | []=> .inr 0
 |x::l=>if x=0 then orR l else .inl x
theorem QEL:(l:List Int)->Qn (orR l) (fun u=>some u) (fun z=>some z)=some (orL l)
 | []=>rfl
 |x::l=>by
  have ih:=QEL l
  by_cases h:x=0
  ·simp only[orR,orL,h,if_true];exact ih
  ·simp only[orR,orL,h,if_false,Qn,Sum.elim_inl]
theorem QPC (a:List Int) (h:a.length<=maxLen):Qvv w a=some (orL a):=by
 apply QIp
 have e:=Q3 a.length (fun i=>Qhf wl (0,a,((a.length:Nat):Int),(i:Int))) (fun i=>orR (a.drop i))
  (fun i hi ih=>by
    apply Qq1
    simp only[Qrx,ilt hi,Qj hi,Qg hi,inc hi h,QQ1,ih]
    rw[QRa hi,orR]
    by_cases hx:a[i]=0
    ·simp only[hx,decide_true,QQ3,QQ2,if_true]
    ·simp only[hx,decide_false,QQ4,QQ1,if_false])
  (by
    apply Qq1
    simp only[Qrx,Qo,QQ2,QRl,orR])
 simp only[QQ6,QRg]at e
 simp only[Qwa,e,QQ0,QEL]
theorem QLi (a b c d e:Int):orL [a,b,c,d,e]=or5 a b c d e:=by
 simp only[orL,or5]
 by_cases h1:a=0<;>by_cases h2:b=0<;>by_cases h3:c=0<;>by_cases h4:d=0<;>by_cases h5:e=0<;>simp[h1,h2,h3,h4,h5]
theorem QC8 (a b c d:Int) (s:ByteArray) (a' b' c' d':Int) (s':ByteArray):QaN w (a,b,c,d,s,a',b',c',d',s')=some (Vx (a,b,c,d,s) (a',b',c',d',s')):=by
 apply QtX
 simp only[Qjk,QFy,QAv,QQ0,QPC _ (show List.length [Kd a a',Kd b b',Kd c c',Kd d d',Quc s s']<=maxLen by simp[maxLen]),QLi,Vx]
theorem QDZ (a b c d:Int) (s:ByteArray) (a' b' c' d':Int) (s':ByteArray):QaW w (a,b,c,d,s,a',b',c',d',s')=some (Jd (a,b,c,d,s) (a',b',c',d',s')):=by
 apply Qt1
 simp only[Qjb,QC8,QQ0,Jd]
 by_cases h:Vx (a,b,c,d,s) (a',b',c',d',s')<0
 ·rw[dt h,QQ1,if_pos h]
 ·rw[df h,QQ2,if_neg h]
theorem QBP (b:Bool):Qc9 w b=some (if b then 1 else 0):=by
 apply QAm
 cases b<;>rfl
theorem QIC (a b:Int):zN w (a,b)=some (Kd a b):=by
 apply QAE
 simp only[Qov,QBP,QQ0,Kd]
 by_cases h:a<b
 ·simp[h]
 ·by_cases h2:b<a
  ·simp[h,h2]
  ·simp[h,h2]
theorem QOB (a b:ByteArray):(bif Op.bytesLess a.toList b.toList then some (-1)else some (if(!(Op.bytesLess a.toList b.toList||X0 a b))=true then(1:Int)else 0))=some (Quc a b):=by
 rw[toList_data,toList_data,QoX]
 obtain⟨h1,h2,h3⟩:=QqM a.data.toList b.data.toList
 have h4:a=b↔a.data.toList=b.data.toList:=by
  constructor
  ·intro h;rw[h]
  ·intro h
   cases a;cases b
   exact congrArg ByteArray.mk (Array.toList_inj.1 h)
 rw[h1]
 unfold Quc
 by_cases hl:Go.Lib.compareBytes a.data.toList b.data.toList= -1
 ·simp[hl]
 ·by_cases hz:Go.Lib.compareBytes a.data.toList b.data.toList=0
  ·have:a=b:=h4.2 (h2.1 hz)
   subst this
   simp[hz]
  ·have:a≠b:=fun h=>hz (h2.2 (h4.1 h))
   have h1':Go.Lib.compareBytes a.data.toList b.data.toList=1:=by omega
   simp[h1',this]
theorem QCF (a b c d:Int) (s:ByteArray) (a' b' c' d':Int) (s':ByteArray):Vj w (a,b,c,d,s,a',b',c',d',s')=some (Vx (a,b,c,d,s) (a',b',c',d',s')):=by
 apply QtP
 have hlen:∀l:List Int,l.length=4->Kj wl (0,a,b,c,d,s,a',b',c',d',s',l)=some (match orR l with| .inl x=> .inl x| .inr _=> .inr (a,b,c,d,s,a',b',c',d',s')):=by
  intro l hl
  have e:=Q3 l.length (fun i=>Kj wl ((i:Int),a,b,c,d,s,a',b',c',d',s',l)) (fun i=>match orR (l.drop i)with| .inl x=> .inl x| .inr _=> .inr (a,b,c,d,s,a',b',c',d',s'))
   (fun i hi ih=>by
     apply QeP
     simp only[Qbb,ilt hi,Qj hi,Qg hi,inc hi (show l.length<=maxLen by simp[maxLen];omega),QQ1,ih]
     rw[QRa hi,orR]
     by_cases hx:l[i]=0
     ·simp only[hx,decide_true,QQ3,QQ2,if_true]
     ·simp only[hx,decide_false,QQ4,QQ1,if_false])
   (by
     apply QeP
     simp only[Qbb,Qo,QQ2,QRl,orR])
  simpa using e
 simp only[QiQ,QIC,QBP,QQ0,hlen _ (show List.length [Kd a a',Kd b b',Kd c c',Kd d d']=4 from rfl),Vx,or5,orR]
 by_cases h1:Kd a a'=0
 ·by_cases h2:Kd b b'=0
  ·by_cases h3:Kd c c'=0
   ·by_cases h4:Kd d d'=0
    ·simp only[h1,h2,h3,h4,if_true,Qn,QY0,ne_eq,not_true_eq_false,if_false]
     exact QOB s s'
    ·simp[h1,h2,h3,h4,Qn]
   ·simp[h1,h2,h3,Qn]
  ·simp[h1,h2,Qn]
 ·simp[h1,Qn]
def QfD (n:Int):Int:=IntKind.wrap .u8 (wR (Int.tmod n 128+128))
def X4:Nat->Int->List Int->Int×List Int
 |0,n,o=>(n,o)
 |f+1,n,o=>if 128<=n then X4 f (Int.tdiv n 128) (o++[QfD n])else(n,o)
def Ql (n:Int):List Int:=bif inR n 0 2147483647 then(X4 4 n []).2++[IntKind.wrap .u8 (X4 4 n []).1]else []
theorem Qp8:(f:Nat)->(n:Int)->(o:List Int)->(X4 f n o).2.length<=o.length+f
 |0,n,o=>by simp[X4]
 |f+1,n,o=>by
  simp only[X4]
  split
  ·have:=Qp8 f (Int.tdiv n 128) (o++[QfD n])
   simp only[QRj,QY37]at this;omega
  ·simp
theorem QJ (n:Int):(Ql n).length<=5:=by
 unfold Ql
 have:=Qp8 4 n []
 cases inR n 0 2147483647
 ·simp
 ·simp only[QQ1,QRj,QY37];simp at this;omega
theorem QDk:(f:Nat)->(n:Int)->(o:List Int)->0<=n->n<128^(f+1)->n<=2147483647->o.length+f<=1000->xE wl (n,o)=some (X4 f n o):=by
 intro f
 induction f with
 |zero=>
  intro n o h0 h1 h2 h3
  apply Qjm
  simp only[vi,df (show¬128<=n by omega),QQ2,X4]
 |succ f ih=>
  intro n o h0 h1 h2 h3
  apply Qjm
  by_cases h:128<=n
  ·have hd:=QY36 (b:=128) h0
   have:=ih (Int.tdiv n 128) (o++[QfD n]) (by omega) (by rw[Int.pow_succ]at h1;omega) (by omega) (by simp;omega)
   simp only[QfD]at this
   simp only[vi,dt h,QQ1,dt (show(128:Int)≠0 by omega),Qu (show(o.length+List.length [IntKind.wrap .u8 (wR (Int.tmod n 128+128))])*1<=140737488351232 by simp;omega),X4,h,if_true,QfD]
   rw[w64 (n:=Int.tdiv n 128) (by omega) (by omega)]
   exact this
  ·simp only[vi,df h,QQ2,X4,h,decide_false,if_false]
theorem QBQ:(f:Nat)->(n:Int)->(o:List Int)->0<=n->n<128^(f+1)->n<=2147483647->o.length+f<=1000->xR wl (n,o)=some (X4 f n o):=by
 intro f
 induction f with
 |zero=>
  intro n o h0 h1 h2 h3
  apply QiK
  simp only[vg,df (show¬127<n by omega),QQ2,X4]
 |succ f ih=>
  intro n o h0 h1 h2 h3
  apply QiK
  by_cases h:128<=n
  ·have hd:=QY36 (b:=128) h0
   have:=ih (Int.tdiv n 128) (o++[QfD n]) (by omega) (by rw[Int.pow_succ]at h1;omega) (by omega) (by simp;omega)
   simp only[QfD]at this
   simp only[vg,dt (show 127<n by omega),QQ1,dt (show(128:Int)≠0 by omega),Qu (show(o.length+List.length [IntKind.wrap .u8 (wR (Int.tmod n 128+128))])*1<=140737488351232 by simp;omega),X4,h,if_true,QfD]
   rw[w64 (n:=Int.tdiv n 128) (by omega) (by omega)]
   exact this
  ·simp only[vg,df (show¬127<n by omega),QQ2,X4,h,decide_false,if_false]
theorem VP (n:Int):Q2 w n=some (Ql n):=by
 apply Qxz
 simp only[QmI,Xi,QQ0,Ql]
 cases h:inR n 0 2147483647
 ·simp
 ·simp[inR]at h
  have hl:=Qp8 4 n []
  simp only[QY6]at hl
  simp only[QQ3,QQ2,QDk 4 n [] h.1 (by omega) h.2 (by simp),QQ0,QQ1,Qu (show((X4 4 n []).2.length+List.length [IntKind.wrap .u8 (X4 4 n []).1])*1<=140737488351232 by simp;omega)]
theorem Yw (n:Int):Xs w n=some (Ql n):=by
 apply QyK
 simp only[Qm4,XN,QQ0,Ql]
 cases h:inR n 0 2147483647
 ·simp
 ·simp[inR]at h
  have hl:=Qp8 4 n []
  simp only[QY6]at hl
  simp only[QQ3,QQ2,QBQ 4 n [] h.1 (by omega) h.2 (by simp),QQ0,QQ1,Qu (show((X4 4 n []).2.length+List.length [IntKind.wrap .u8 (X4 4 n []).1])*1<=140737488351232 by simp;omega)]
theorem VO (l:List (List Int)) (hl:l.length<=maxLen) (hf:l.flatten.length<=1099511627776):Zu w l=some l.flatten:=by
 apply Qye
 have e:=Q0 l.length (fun i (o:List Int)=>x6 wl (l,((l.length:Nat):Int),(i:Int),o)) (fun i o=>o++(l.drop i).flatten) (fun i o=>o.length+(l.drop i).flatten.length<=1099511627776)
  (fun i hi o ho ih=>by
    apply QiY
    rw[QRa hi,QRr,QRj]at ho
    have:=ih (o++l[i]) (by rw[QRj];omega)
    simp only[QfL,ilt hi,Qj hi,Qg hi,inc hi hl,QQ1,Qu (show(o.length+l[i].length)*1<=140737488351232 by omega),this]
    rw[QRa hi,QRr,QRc])
  (fun o _=>by
    apply QiY
    simp[QfL,Qo])
  [] (by simpa using hf)
 simp only[QQ6,QRg,QRe]at e
 simp only[QmX,e,QQ0]
theorem Qof (s:ByteArray):(ofBytes s).length=s.size:=by
 show(s.data.toList.map _).length=s.data.size
 rw[List.length_map,Array.length_toList]
def KN (s:ByteArray):List Int:=Ql (s.size:Nat)++ofBytes s
theorem Qtz (s:ByteArray):(KN s).length<=5+s.size:=by
 have:=QJ (s.size:Nat)
 simp only[KN,QRj,Qof];omega
theorem QF6 (s:ByteArray) (h:s.size<=4294967296):QcA w s=some (KN s):=by
 apply QvE
 have:=QJ (s.size:Nat)
 have e: [Ql (s.size:Nat),ofBytes s].flatten=KN s:=by simp[KN]
 simp only[QkM,VP,QQ0,VO [Ql ((s.size:Nat):Int),ofBytes s] (by simp[maxLen]) (by rw[e];have:=Qtz s;omega),e]
theorem QDO (s:ByteArray) (h:s.size<=4294967296):QdZ w s=some (KN s):=by
 apply Qws
 have:=QJ (s.size:Nat)
 simp only[QlB,Yw,QQ0,Qu (show((Ql ((s.size:Nat):Int)).length+(ofBytes s).length)*1<=140737488351232 by rw[Qof];omega),QQ1,KN]
def Qbx (x:Int):Int:=if Int.tmod x 2=1 then bits .xor .i64 (wR (Int.tdiv x 2)) 3988292384 else wR (Int.tdiv x 2)
def yR:Nat->Int->Int
 |0,x=>x
 |n+1,x=>yR n (Qbx x)
def Qp0 (s b:Int):Int:=yR 8 (bits .xor .i64 s (wR b))
theorem QxV (s b:Int):Qp0 s b=yR 8 (bits .xor .i64 s (wR b)):=by unfold Qp0;exact Eq.refl _
def crc (l:List Int):Int:=bits .xor .i64 (l.foldl Qp0 4294967295) 4294967295
theorem QMg {i:Nat}(h:i<8):decide ((i:Int)<8)=true:=by simp;omega
theorem QFc {i n:Nat}(h:i<n) (hn:n<=1000:=by omega):wR ((i:Int)+1)=((i+1:Nat):Int):=by
 rw[w64 (by omega) (by omega)];omega
theorem QId (b:List Int) (n i x:Int):xa wl (x,b,n,i,0)=some (yR 8 x,b,n,i):=by
 have e:=Q0 8 (fun k (x:Int)=>xa wl (x,b,n,i,(k:Int))) (fun k x=>(yR (8 - k) x,b,n,i)) (fun _ _=>True)
  (fun k hk x _ ih=>by
    apply Qoq
    have:=ih (Qbx x) trivial
    rw[show 8 - k=(8 - (k+1))+1 by omega,yR,<-this]
    simp only[Qog,QMg hk,QQ1,dt (show(2:Int)≠0 by omega),QFc hk,Qbx]
    by_cases hx:Int.tmod x 2=1
    ·simp only[hx,decide_true,QQ1,if_true]
    ·simp only[hx,decide_false,QQ2,if_false])
  (fun x _=>by
    apply Qoq
    simp[Qog,yR])
  x trivial
 simpa using e
theorem QGV (b:List Int) (i x:Int):xi wl (b,x,i,0)=some (b,yR 8 x,i):=by
 have e:=Q0 8 (fun k (x:Int)=>xi wl (b,x,i,(k:Int))) (fun k x=>(b,yR (8 - k) x,i)) (fun _ _=>True)
  (fun k hk x _ ih=>by
    apply Qpv
    have:=ih (Qbx x) trivial
    rw[show 8 - k=(8 - (k+1))+1 by omega,yR,<-this]
    simp only[Qoe,QMg hk,QQ1,dt (show(2:Int)≠0 by omega),QFc hk,Qbx]
    by_cases hx:Int.tmod x 2=1
    ·simp only[hx,decide_true,QQ1,if_true]
    ·simp only[hx,decide_false,QQ2,if_false])
  (fun x _=>by
    apply Qpv
    simp[Qoe,yR])
  x trivial
 simpa using e
theorem Qxs (b:List Int) (h:b.length<=maxLen):Qbn w b=some (crc b):=by
 apply QEi
 have e:=Q0 b.length (fun i (x:Int)=>Qaq wl (x,b,((b.length:Nat):Int),(i:Int))) (fun i x=>(b.drop i).foldl Qp0 x) (fun _ _=>True)
  (fun i hi x _ ih=>by
    apply Qpp
    simp only[Qn8,ilt hi,Qj hi,Qg hi,QQ1,QId,QQ0,inc hi h,ih _ trivial]
    rw[QRa hi,List.foldl_cons,QxV])
  (fun x _=>by
    apply Qpp
    simp only[Qn8,Qo,QQ2,QRl,List.foldl_nil])
  4294967295 trivial
 simp only[QQ6,QRg]at e
 simp only[Qq8,e,QQ0,crc]
theorem Qst (b:List Int) (h:b.length<=maxLen):Qa7 w b=some (crc b):=by
 apply QD8
 have e:=Q0 b.length (fun i (x:Int)=>QaE wl (b,x,(i:Int))) (fun i x=>(b.drop i).foldl Qp0 x) (fun _ _=>True)
  (fun i hi x _ ih=>by
    apply QoU
    simp only[Qob,ilt hi,Qj hi,Qg hi,QQ1,QGV,QQ0,inc hi h,ih _ trivial]
    rw[QRa hi,List.foldl_cons,QxV])
  (fun x _=>by
    apply QoU
    simp only[Qob,Qo,QQ2,QRl,List.foldl_nil])
  4294967295 trivial
 simp only[QQ6,QRg]at e
 simp only[Qr3,e,QQ0,crc]
def Qup (x:Int):Nat->List Int->Int⊕Unit
 |_,[]=> .inr ()
 |i,y::l=>if x=y then .inl (i:Nat)else Qup x (i+1) l
theorem QCC (x:Int):(i:Nat)->(l:List Int)->∃r:Int,Qn (Qup x i l) (fun u=>some u) (fun _=>some (-1))=some r/\decide (0<=r)=decide (x∈l)
 |i,[]=>⟨-1,rfl,by simp⟩
 |i,y::l=>by
  by_cases h:x=y
  ·refine⟨(i:Nat), ?_, ?_⟩
   ·simp only[Qup,h,if_true,Qn,Sum.elim_inl]
   ·simp[h]
  ·obtain⟨r,h1,h2⟩:=QCC x (i+1) l
   refine⟨r, ?_, ?_⟩
   ·simp only[Qup,h,if_false];exact h1
   ·rw[h2];simp[h]
theorem Qn5 (a:List Int) (x:Int) (h:a.length<=maxLen):Zv w (a,x)=some (decide (x∈a)):=by
 apply QjK
 have e:=Q3 a.length (fun i=>Z5 wl (a,x,((a.length:Nat):Int),(i:Int))) (fun i=>Qup x i (a.drop i))
  (fun i hi ih=>by
    apply je
    simp only[xl,ilt hi,Qj hi,Qg hi,inc hi h,QQ1,ih]
    rw[QRa hi,Qup]
    by_cases hx:x=a[i]
    ·simp only[hx,decide_true,QQ1,if_true]
    ·simp only[hx,decide_false,QQ2,if_false])
  (by
    apply je
    simp only[xl,Qo,QQ2,QRl,Qup])
 simp only[QQ6,QRg]at e
 obtain⟨r,h1,h2⟩:=QCC x 0 a
 have hi:JB w (a,x)=some r:=by
  apply Qn2
  simp only[vD,e,QQ0,h1]
 simp only[zZ,hi,QQ0,h2]
theorem QID (a b:List Int) (h:a.length<=maxLen):JE w (a,b)=some (decide (a=b)):=by
 apply QnZ
 by_cases hl:a.length=b.length
 ·have e:=QED a b hl (fun i=>Z4 wl (a,b,((a.length:Nat):Int),(i:Int)))
   (fun i h1 h2 hx=>by
     apply VE
     simp only[Kq,ilt h1,Qj h1,Qj h2,Qg h1,Qg h2,QQ1,hx,decide_false,QQ4])
   (fun i h1 h2 r hx hk=>by
     apply VE
     simp only[Kq,ilt h1,Qj h1,Qj h2,Qg h1,Qg h2,inc h1 h,QQ1,hx,decide_true,QQ3,QQ2]
     exact hk)
   (by
     apply VE
     simp only[Kq,Qo,QQ2])
  simp only[QQ6]at e
  simp only[JL,dt (show((a.length:Nat):Int)=((b.length:Nat):Int) by omega),QQ3,QQ2,e,QQ0]
  by_cases hab:a=b
  ·simp[hab,Qn]
  ·simp[hab,Qn]
 ·have hab:a≠b:=fun h=>hl (by rw[h])
  simp only[JL,df (show¬((a.length:Nat):Int)=((b.length:Nat):Int) by omega),QQ4,QQ1,hab,decide_false]
def Qrw (x:Int):List Int->Bool⊕Unit
 | []=> .inr ()
 |y::l=>if y=x then .inl true else Qrw x l
theorem QA6 (x:Int):(l:List Int)->Qn (Qrw x l) (fun u=>some u) (fun _=>some false)=some (decide (x∈l))
 | []=>by simp[Qrw,Qn]
 |y::l=>by
  by_cases h:y=x
  ·simp[Qrw,h,Qn]
  ·have:=QA6 x l
   have h':¬x=y:=fun e=>h e.symm
   simp only[Qrw,h,if_false,this];simp[h']
theorem QuE (a:List Int) (x:Int) (h:a.length<=maxLen):vn w (a,x)=some (decide (x∈a)):=by
 apply QAd
 have e:=Q3 a.length (fun i=>yi wl (a,x,(i:Int))) (fun i=>Qrw x (a.drop i))
  (fun i hi ih=>by
    apply Qj4
    simp only[QiA,ilt hi,Qj hi,Qg hi,inc hi h,QQ1,ih]
    rw[QRa hi,Qrw]
    by_cases hx:a[i]=x
    ·simp only[hx,decide_true,QQ1,if_true]
    ·simp only[hx,decide_false,QQ2,if_false])
  (by
    apply Qj4
    simp only[QiA,Qo,QQ2,QRl,Qrw])
 simp only[QQ6,QRg]at e
 simp only[Qpe,e,QQ0,QA6]
theorem QIu (a b:List Int) (h:a.length<=maxLen):Qgg w (a,b)=some (decide (a=b)):=by
 apply Qyi
 by_cases hl:a.length=b.length
 ·have e:=QED a b hl (fun i=>xO wl (a,b,(i:Int)))
   (fun i h1 h2 hx=>by
     apply vX
     simp only[vB,ilt h1,Qj h1,Qj h2,Qg h1,Qg h2,QQ1,hx,decide_false,QQ4])
   (fun i h1 h2 r hx hk=>by
     apply vX
     simp only[vB,ilt h1,Qj h1,Qj h2,Qg h1,Qg h2,inc h1 h,QQ1,hx,decide_true,QQ3,QQ2]
     exact hk)
   (by
     apply vX
     simp only[vB,Qo,QQ2])
  simp only[QQ6]at e
  simp only[Qb2,dt (show((a.length:Nat):Int)=((b.length:Nat):Int) by omega),QQ3,QQ2,e,QQ0]
  by_cases hab:a=b
  ·simp[hab,Qn]
  ·simp[hab,Qn]
 ·have hab:a≠b:=fun h=>hl (by rw[h])
  simp only[Qb2,df (show¬((a.length:Nat):Int)=((b.length:Nat):Int) by omega),QQ4,QQ1,hab,decide_false]
def ze (n:Int):Int:=bif inR n 0 4 then Int.tmod (crc (Ql n)) 4 else -1
theorem QqL (n:Int):(Ql n).length<=maxLen:=by have:=QJ n;simp only[maxLen];omega
theorem Qzl (n:Int):QaG w n=some (ze n):=by
 apply QxD
 simp only[Qnx,Qid,QQ0,ze,VP,Qxs _ (QqL n),dt (show(4:Int)≠0 by omega),QQ1]
 cases inR n 0 4<;>simp
theorem QvU (n:Int):Qax w n=some (ze n):=by
 apply QxW
 simp only[QnK,QgN,QQ0,ze,Yw,Qst _ (QqL n),dt (show(4:Int)≠0 by omega),QQ1]
 cases inR n 0 4<;>simp
def XE (l:List Int) (n:Int):Bool:=decide (ze n∈l)
def Zg (s:Qk) (l:List Int):Qk:=(s.1.filter fun x=>XE l x.1,s.2.filter fun x=>XE l x.1)
theorem xU:(p:Int)->(l:List Qa)->QO p l=true-> -1<=p->(l.length:Int)<=4 - p\/l=[]
 |p,[],_,_=> .inr rfl
 |p,x::l,h,hp=>by
  simp only[QO,QQ5,inR,QRu]at h
  obtain⟨⟨⟨h1,h2⟩,h3⟩,h4⟩:=h
  left
  rcases xU x.1 l h4 (by omega)with h5|h5
  ·simp only[QY1];omega
  ·subst h5;simp;omega
theorem Qtl (fl:List Qa):(p:Int)->(l:List Qf)->Xv fl p l=true-> -1<=p->(l.length:Int)<=4 - p\/l=[]
 |p,[],_,_=> .inr rfl
 |p,x::l,h,hp=>by
  simp only[Xv,QQ5,inR,QRu]at h
  obtain⟨⟨⟨⟨h1,h2⟩,h2'⟩,h3⟩,h4⟩:=h
  left
  rcases Qtl fl x.1 l h4 (by omega)with h5|h5
  ·simp only[QY1];omega
  ·subst h5;simp;omega
theorem Kl {s:Qk}(h:QF s=true):s.1.length<=5/\s.2.length<=5:=by
 simp only[QF,QQ5]at h
 have h1:=xU _ _ h.1 (by omega)
 have h2:=Qtl _ _ _ h.2 (by omega)
 constructor
 ·rcases h2 with h|h
  ·omega
  ·simp[h]
 ·rcases h1 with h|h
  ·omega
  ·simp[h]
theorem QEg (q:List Int) (a:List Qf) (b:List Qa) (hq:q.length<=maxLen) (ha:a.length<=4294967296) (c:List Qa):
 Vr wl (q,a,((a.length:Nat):Int),0,a,b,[],c)=some (q,a,b,a.filter (fun x=>XE q x.1),c):=by
 have e:=Q0 a.length (fun i (o:List Qf)=>Vr wl (q,a,((a.length:Nat):Int),(i:Int),a,b,o,c)) (fun i o=>(q,a,b,o++(a.drop i).filter (fun x=>XE q x.1),c)) (fun i o=>o.length<=i)
  (fun i hi o ho ih=>by
    apply Qkd
    have ih1:=ih o (by omega)
    have ih2:=ih (o++[a[i]]) (by simp;omega)
    simp only[Qix,ilt hi,Qj hi,Qg hi,inc hi (show a.length<=maxLen by simp[maxLen];omega),QQ1,Qzl,Qn5 q _ hq,QQ0,QY37,Qu (show(o.length+1)*56<=140737488351232 by omega)]
    rw[QRa hi,QY35]
    cases h:XE q a[i].1
    ·have h':decide (ze a[i].1∈q)=false:=h
     simp only[h',QQ2,QRw,if_false];exact ih1
    ·have h':decide (ze a[i].1∈q)=true:=h
     simp only[h',QQ1,if_true]
     rw[show o++a[i]::List.filter (fun x=>XE q x.1) (List.drop (i+1) a)=(o++[a[i]])++List.filter (fun x=>XE q x.1) (List.drop (i+1) a) by simp]
     exact ih2)
  (fun o _=>by
    apply Qkd
    simp[Qix])
  [] (by simp)
 simpa using e
theorem QDy (q:List Int) (b:List Qa) (hq:q.length<=maxLen) (hb:b.length<=4294967296) (c:List Qf):
 Vo wl (q,b,((b.length:Nat):Int),0,c,[])=some (c,b.filter (fun x=>XE q x.1)):=by
 have e:=Q0 b.length (fun i (o:List Qa)=>Vo wl (q,b,((b.length:Nat):Int),(i:Int),c,o)) (fun i o=>(c,o++(b.drop i).filter (fun x=>XE q x.1))) (fun i o=>o.length<=i)
  (fun i hi o ho ih=>by
    apply QlE
    have ih1:=ih o (by omega)
    have ih2:=ih (o++[b[i]]) (by simp;omega)
    simp only[Qir,ilt hi,Qj hi,Qg hi,inc hi (show b.length<=maxLen by simp[maxLen];omega),QQ1,Qzl,Qn5 q _ hq,QQ0,QY37,Qu (show(o.length+1)*16<=140737488351232 by omega)]
    rw[QRa hi,QY35]
    cases h:XE q b[i].1
    ·have h':decide (ze b[i].1∈q)=false:=h
     simp only[h',QQ2,QRw,if_false];exact ih1
    ·have h':decide (ze b[i].1∈q)=true:=h
     simp only[h',QQ1,if_true]
     rw[show o++b[i]::List.filter (fun x=>XE q x.1) (List.drop (i+1) b)=(o++[b[i]])++List.filter (fun x=>XE q x.1) (List.drop (i+1) b) by simp]
     exact ih2)
  (fun o _=>by
    apply QlE
    simp[Qir])
  [] (by simp)
 simpa using e
theorem QCX (a:List Qf) (b:List Qa) (q:List Int) (hq:q.length<=maxLen) (ha:a.length<=maxLen) (hb:b.length<=maxLen):
 vx w (a,b,q)=some (bif QF (a,b)then Zg (a,b) q else([],[])):=by
 apply QAz
 simp only[Qpt,Z9 a b ha hb,QQ0]
 cases h:QF (a,b)
 ·simp
 ·have hl:=Kl h
  simp only at hl
  simp only[QQ3,QQ2,QQ1,QEg q a b hq (by omega),QDy q b hq (by omega),QQ0,Zg]
theorem QCA (q:List Int) (a:List Qf) (b:List Qa) (hq:q.length<=maxLen) (ha:a.length<=4294967296) (c:List Qa):
 YA wl (q,0,a,b,[],c)=some (q,a,b,a.filter (fun x=>XE q x.1),c):=by
 have e:=Q0 a.length (fun i (o:List Qf)=>YA wl (q,(i:Int),a,b,o,c)) (fun i o=>(q,a,b,o++(a.drop i).filter (fun x=>XE q x.1),c)) (fun i o=>o.length<=i)
  (fun i hi o ho ih=>by
    apply QhK
    have ih1:=ih o (by omega)
    have ih2:=ih (o++[a[i]]) (by simp;omega)
    simp only[QdJ,ilt hi,Qj hi,Qg hi,inc hi (show a.length<=maxLen by simp[maxLen];omega),QQ1,QvU,QuE q _ hq,QQ0,QY37,Qu (show(o.length+1)*56<=140737488351232 by omega)]
    rw[QRa hi,QY35]
    cases h:XE q a[i].1
    ·have h':decide (ze a[i].1∈q)=false:=h
     simp only[h',QQ2,QRw,if_false];exact ih1
    ·have h':decide (ze a[i].1∈q)=true:=h
     simp only[h',QQ1,if_true]
     rw[show o++a[i]::List.filter (fun x=>XE q x.1) (List.drop (i+1) a)=(o++[a[i]])++List.filter (fun x=>XE q x.1) (List.drop (i+1) a) by simp]
     exact ih2)
  (fun o _=>by
    apply QhK
    simp[QdJ])
  [] (by simp)
 simpa using e
theorem QA4 (q:List Int) (a:List Qf) (b:List Qa) (hq:q.length<=maxLen) (hb:b.length<=4294967296) (c:List Qf):
 Yz wl (q,0,a,b,c,[])=some (c,b.filter (fun x=>XE q x.1)):=by
 have e:=Q0 b.length (fun i (o:List Qa)=>Yz wl (q,(i:Int),a,b,c,o)) (fun i o=>(c,o++(b.drop i).filter (fun x=>XE q x.1))) (fun i o=>o.length<=i)
  (fun i hi o ho ih=>by
    apply QgM
    have ih1:=ih o (by omega)
    have ih2:=ih (o++[b[i]]) (by simp;omega)
    simp only[QdC,ilt hi,Qj hi,Qg hi,inc hi (show b.length<=maxLen by simp[maxLen];omega),QQ1,QvU,QuE q _ hq,QQ0,QY37,Qu (show(o.length+1)*16<=140737488351232 by omega)]
    rw[QRa hi,QY35]
    cases h:XE q b[i].1
    ·have h':decide (ze b[i].1∈q)=false:=h
     simp only[h',QQ2,QRw,if_false];exact ih1
    ·have h':decide (ze b[i].1∈q)=true:=h
     simp only[h',QQ1,if_true]
     rw[show o++b[i]::List.filter (fun x=>XE q x.1) (List.drop (i+1) b)=(o++[b[i]])++List.filter (fun x=>XE q x.1) (List.drop (i+1) b) by simp]
     exact ih2)
  (fun o _=>by
    apply QgM
    simp[QdC])
  [] (by simp)
 simpa using e
theorem Qzr (a:List Qf) (b:List Qa) (q:List Int) (hq:q.length<=maxLen) (ha:a.length<=4294967296) (hb:b.length<=4294967296):
 xG w (a,b,q)=some (Zg (a,b) q):=by
 apply QwW
 simp only[Qmf,QCA q a b hq ha,QA4 q a b hq hb,QQ0,Zg]
theorem Qu1:(p p':Int)->(l:List Qa)->p'<=p->QO p l=true->QO p' l=true
 |p,p',[],_,_=>rfl
 |p,p',x::l,hp,h=>by
  simp only[QO,QQ5,QRu]at h⊢
  exact⟨⟨h.1.1,by omega⟩,h.2⟩
theorem QyG (fl:List Qa):(p p':Int)->(l:List Qf)->p'<=p->Xv fl p l=true->Xv fl p' l=true
 |p,p',[],_,_=>rfl
 |p,p',x::l,hp,h=>by
  simp only[Xv,QQ5,QRu]at h⊢
  exact⟨⟨h.1.1,by omega⟩,h.2⟩
theorem QnS (f:Int->Bool):(p:Int)->(l:List Qa)->QO p l=true->QO p (l.filter fun x=>f x.1)=true
 |p,[],_=>rfl
 |p,x::l,h=>by
  have h':=h
  simp only[QO,QQ5,QRu]at h
  have ih:=QnS f x.1 l h.2
  rw[QY35]
  cases hf:f x.1
  ·simp only[QRw,if_false];exact Qu1 _ _ _ (by omega) ih
  ·simp only[if_true,QO,QQ5,QRu]
   exact⟨⟨h.1.1,h.1.2⟩,ih⟩
theorem Qpb (f:Int->Bool) (id:Int) (hf:f id=true):(l:List Qa)->Q7 id (l.filter fun x=>f x.1)=Q7 id l
 | []=>rfl
 |x::l=>by
  have ih:=Qpb f id hf l
  rw[QY35]
  by_cases hx:x.1=id
  ·rw[hx,hf];simp[Q7,hx]
  ·cases f x.1
   ·simp only[QRw,if_false,Q7,hx];exact ih
   ·simp only[if_true,Q7,hx,if_false];exact ih
theorem Qpl (f:Int->Bool) (fl:List Qa):(p:Int)->(l:List Qf)->Xv fl p l=true->Xv (fl.filter fun x=>f x.1) p (l.filter fun x=>f x.1)=true
 |p,[],_=>rfl
 |p,x::l,h=>by
  simp only[Xv,QQ5,QRu]at h
  have ih:=Qpl f fl x.1 l h.2
  rw[QY35]
  cases hf:f x.1
  ·simp only[QRw,if_false];exact QyG _ _ _ _ (by omega) ih
  ·simp only[if_true,Xv,QQ5,QRu,Qpb f x.1 hf]
   exact⟨⟨h.1.1,h.1.2⟩,ih⟩
theorem Qd6 {s:Qk}(q:List Int) (h:QF s=true):QF (Zg s q)=true:=by
 simp only[QF,QQ5]at h⊢
 exact⟨QnS (XE q) _ _ h.1,Qpl (XE q) _ _ _ h.2⟩
def ZN (x:Qf):List Int:=Ql x.1++(Ql x.2.1++(Ql x.2.2.1++(Ql x.2.2.2.1++(Ql x.2.2.2.2.1++KN x.2.2.2.2.2))))
def Xp (x:Qa):List Int:=Ql x.1++Ql x.2
def stB (s:Qk):List Int:=Ql (s.1.length:Nat)++(s.1.flatMap ZN++(Ql (s.2.length:Nat)++s.2.flatMap Xp))
theorem QhQ (x:Qf):(ZN x).length<=30+ByteArray.size x.2.2.2.2.2:=by
 have h0:=QJ x.1
 have h1:=QJ x.2.1
 have h2:=QJ x.2.2.1
 have h3:=QJ x.2.2.2.1
 have h4:=QJ x.2.2.2.2.1
 have h5:=Qtz x.2.2.2.2.2
 simp only[ZN,QRj];omega
theorem zz (x:Qa):(Xp x).length<=10:=by
 have h0:=QJ x.1
 have h1:=QJ x.2
 simp only[Xp,QRj];omega
def smB (s:Qk):Prop:=s.1.length<=1000/\s.2.length<=1000/\∀x∈s.1,ByteArray.size x.2.2.2.2.2<=1000
theorem QrC (fl:List Qa):(p:Int)->(l:List Qf)->Xv fl p l=true->∀x∈l,ByteArray.size x.2.2.2.2.2<=8
 |p,[],_=>by simp
 |p,x::l,h=>by
  simp only[Xv,QQ5]at h
  have h1:=h.1.1.1.2
  simp only[X2,QQ5,QRu]at h1
  intro y hy
  rcases QRk.1 hy with e|e
  ·rw[e];have:=h1.2;omega
  ·exact QrC fl x.1 l h.2 y e
theorem jN {s:Qk}(h:QF s=true):smB s:=by
 have hl:=Kl h
 simp only[QF,QQ5]at h
 exact⟨by omega,by omega,fun x hx=>by have:=QrC _ _ _ h.2 x hx;omega⟩
theorem qS {α:Type}(f:α->List Int) (n:Nat):(l:List α)->(∀x∈l,(f x).length<=n)->(l.flatMap f).length<=l.length*n
 | [],_=>by simp
 |x::l,h=>by
  have ih:=qS f n l fun y hy=>h y (by simp[hy])
  have:=h x (by simp)
  simp only[QY8,QRj,QY1,QY25];omega
theorem Qsp {s:Qk}(h:smB s):(stB s).length<=2000000:=by
 have h1:=qS ZN 1030 s.1 fun x hx=>by have:=QhQ x;have:=h.2.2 x hx;omega
 have h2:=qS Xp 10 s.2 fun x _=>zz x
 have h3:=QJ (s.1.length:Nat)
 have h4:=QJ (s.2.length:Nat)
 have h5:s.1.length*1030<=1000*1030:=QY16 _ h.1
 have h6:s.2.length*10<=1000*10:=QY16 _ h.2.1
 simp only[stB,QRj];omega
theorem QAA (a:List Qf) (b:List Qa) (h:smB (a,b)) (o:List Int) (ho:o.length<=10):
 Yf wl (a,((a.length:Nat):Int),0,a,b,o)=some (a,b,o++a.flatMap ZN):=by
 have hl:a.length<=1000:=h.1
 have e:=Q0 a.length (fun i (o:List Int)=>Yf wl (a,((a.length:Nat):Int),(i:Int),a,b,o)) (fun i o=>(a,b,o++(a.drop i).flatMap ZN)) (fun i o=>o.length<=10+i*1030)
  (fun i hi o ho ih=>by
    apply Qbv
    have hb:=QhQ a[i]
    have hd:=h.2.2 a[i] (QRf hi)
    have ih1:=ih (o++ZN a[i]) (by rw[QRj];omega)
    have ej: [o,Ql a[i].1,Ql a[i].2.1,Ql a[i].2.2.1,Ql a[i].2.2.2.1,Ql a[i].2.2.2.2.1,KN a[i].2.2.2.2.2].flatten=o++ZN a[i]:=by simp[ZN]
    have hj:=VO [o,Ql a[i].1,Ql a[i].2.1,Ql a[i].2.2.1,Ql a[i].2.2.2.1,Ql a[i].2.2.2.2.1,KN a[i].2.2.2.2.2] (by simp[maxLen]) (by rw[ej,QRj];omega)
    simp only[jn,ilt hi,Qj hi,Qg hi,inc hi (show a.length<=maxLen by simp[maxLen];omega),QQ1,VP,QF6 _ (show ByteArray.size a[i].2.2.2.2.2<=4294967296 by omega),QQ0,hj,ej,ih1]
    rw[QRa hi,QY8,QRc])
  (fun o _=>by
    apply Qbv
    simp[jn])
  o (by omega)
 simpa using e
theorem QAy (b:List Qa) (hb:b.length<=1000) (o:List Int) (ho:o.length<=2000000):
 Ym wl (b,((b.length:Nat):Int),0,o)=some (o++b.flatMap Xp):=by
 have e:=Q0 b.length (fun i (o:List Int)=>Ym wl (b,((b.length:Nat):Int),(i:Int),o)) (fun i o=>o++(b.drop i).flatMap Xp) (fun i o=>o.length<=2000000+i*10)
  (fun i hi o ho ih=>by
    apply QbA
    have hb:=zz b[i]
    have ih1:=ih (o++Xp b[i]) (by rw[QRj];omega)
    have ej: [o,Ql b[i].1,Ql b[i].2].flatten=o++Xp b[i]:=by simp[Xp]
    have hj:=VO [o,Ql b[i].1,Ql b[i].2] (by simp[maxLen]) (by rw[ej,QRj];omega)
    simp only[jC,ilt hi,Qj hi,Qg hi,inc hi (show b.length<=maxLen by simp[maxLen];omega),QQ1,VP,QQ0,hj,ej,ih1]
    rw[QRa hi,QY8,QRc])
  (fun o _=>by
    apply QbA
    simp[jC])
  o (by omega)
 simpa using e
theorem Qim (a:List Qf) (b:List Qa) (ha:a.length<=maxLen) (hb:b.length<=maxLen):Vd w (a,b)=some (bif QF (a,b)then stB (a,b)else []):=by
 apply QqX
 simp only[Qe6,Z9 a b ha hb,QQ0]
 cases h:QF (a,b)
 ·simp
 ·have hs:=jN h
  have hp:=QJ (a.length:Nat)
  have h1:=qS ZN 1030 a fun x hx=>by have:=QhQ x;have:=hs.2.2 x hx;omega
  have hal:a.length<=1000:=hs.1
  have hbl:b.length<=1000:=hs.2.1
  have h5:a.length*1030<=1000*1030:=QY16 _ hal
  have hp2:=QJ (b.length:Nat)
  have ej: [Ql ((a.length:Nat):Int)++a.flatMap ZN,Ql ((b.length:Nat):Int)].flatten=Ql ((a.length:Nat):Int)++a.flatMap ZN++Ql ((b.length:Nat):Int):=by simp
  have hj:=VO [Ql ((a.length:Nat):Int)++a.flatMap ZN,Ql ((b.length:Nat):Int)] (by simp[maxLen]) (by rw[ej];simp only[QRj];omega)
  simp only[QQ3,QQ2,QQ1,VP,QQ0,QAA a b hs _ (show(Ql ((a.length:Nat):Int)).length<=10 by omega),hj,ej,QAy b hbl _ (show(Ql ((a.length:Nat):Int)++a.flatMap ZN++Ql ((b.length:Nat):Int)).length<=2000000 by simp only[QRj];omega)]
  simp only[stB,QRc]
theorem QDq (i:Int) (a:List Qf) (b:List Qa) (o:List Int) (p q r s:Int) (t:ByteArray) (l:List Int) (hl:l.length<=5) (ho:o.length<=2000000):
 Va wl (i,0,a,b,o,p,q,r,s,t,l)=some (i,a,b,o++l.flatMap Ql,p,q,r,s,t):=by
 have e:=Q0 l.length (fun k (o:List Int)=>Va wl (i,(k:Int),a,b,o,p,q,r,s,t,l)) (fun k o=>(i,a,b,o++(l.drop k).flatMap Ql,p,q,r,s,t)) (fun k o=>o.length<=2000000+k*5)
  (fun k hk o ho ih=>by
    apply QhX
    have hb:=QJ l[k]
    have ih1:=ih (o++Ql l[k]) (by rw[QRj];omega)
    simp only[Qcr,ilt hk,Qj hk,Qg hk,inc hk (show l.length<=maxLen by simp[maxLen];omega),QQ1,Yw,QQ0,Qu (show(o.length+(Ql l[k]).length)*1<=140737488351232 by omega),ih1]
    rw[QRa hk,QY8,QRc])
  (fun o _=>by
    apply QhX
    simp[Qcr])
  o (by omega)
 simpa using e
theorem QB9 (a:List Qf) (b:List Qa) (h:smB (a,b)) (o:List Int) (ho:o.length<=10):
 KS wl (0,a,b,o)=some (a,b,o++a.flatMap ZN):=by
 have hl:a.length<=1000:=h.1
 have e:=Q0 a.length (fun i (o:List Int)=>KS wl ((i:Int),a,b,o)) (fun i o=>(a,b,o++(a.drop i).flatMap ZN)) (fun i o=>o.length<=10+i*1030)
  (fun i hi o ho ih=>by
    apply Qhp
    have hb:=QhQ a[i]
    have hd:=h.2.2 a[i] (QRf hi)
    have ih1:=ih (o++ZN a[i]) (by rw[QRj];omega)
    have ej:(o++[a[i].1,a[i].2.1,a[i].2.2.1,a[i].2.2.2.1,a[i].2.2.2.2.1].flatMap Ql)++KN a[i].2.2.2.2.2=o++ZN a[i]:=by simp[ZN]
    have hn:=QDq (i:Int) a b o a[i].2.1 a[i].2.2.1 a[i].2.2.2.1 a[i].2.2.2.2.1 a[i].2.2.2.2.2 [a[i].1,a[i].2.1,a[i].2.2.1,a[i].2.2.2.1,a[i].2.2.2.2.1] (by simp) (by omega)
    have hlen:((o++[a[i].1,a[i].2.1,a[i].2.2.1,a[i].2.2.2.1,a[i].2.2.2.2.1].flatMap Ql).length+(KN a[i].2.2.2.2.2).length)*1<=140737488351232:=by
     have:=congrArg List.length ej
     simp only[QRj]at this⊢; omega
    simp only[Qb8,ilt hi,Qj hi,Qg hi,inc hi (show a.length<=maxLen by simp[maxLen];omega),QQ1,hn,QDO _ (show ByteArray.size a[i].2.2.2.2.2<=4294967296 by omega),QQ0,Qu hlen,ej,ih1]
    rw[QRa hi,QY8,QRc])
  (fun o _=>by
    apply Qhp
    simp[Qb8])
  o (by omega)
 simpa using e
theorem QBb (a:List Qf) (b:List Qa) (hb:b.length<=1000) (o:List Int) (ho:o.length<=2000000):
 KV wl (0,a,b,o)=some (o++b.flatMap Xp):=by
 have e:=Q0 b.length (fun i (o:List Int)=>KV wl ((i:Int),a,b,o)) (fun i o=>o++(b.drop i).flatMap Xp) (fun i o=>o.length<=2000000+i*10)
  (fun i hi o ho ih=>by
    apply Qhw
    have hb:=zz b[i]
    have h1:=QJ b[i].1
    have h2:=QJ b[i].2
    have ih1:=ih (o++Xp b[i]) (by rw[QRj];omega)
    have ej:o++Ql b[i].1++Ql b[i].2=o++Xp b[i]:=by simp[Xp]
    simp only[Qd9,ilt hi,Qj hi,Qg hi,inc hi (show b.length<=maxLen by simp[maxLen];omega),QQ1,Yw,QQ0,Qu (show(o.length+(Ql b[i].1).length)*1<=140737488351232 by omega),Qu (show((o++Ql b[i].1).length+(Ql b[i].2).length)*1<=140737488351232 by rw[QRj];omega),ej,ih1]
    rw[QRa hi,QY8,QRc])
  (fun o _=>by
    apply Qhw
    simp[Qd9])
  o (by omega)
 simpa using e
theorem QrS (a:List Qf) (b:List Qa) (hs:smB (a,b)):xD w (a,b)=some (stB (a,b)):=by
 apply Qu5
 have hp:=QJ (a.length:Nat)
 have h1:=qS ZN 1030 a fun x hx=>by have:=QhQ x;have:=hs.2.2 x hx;omega
 have hal:a.length<=1000:=hs.1
 have hbl:b.length<=1000:=hs.2.1
 have h5:a.length*1030<=1000*1030:=QY16 _ hal
 have hp2:=QJ (b.length:Nat)
 have hlen:((Ql ((a.length:Nat):Int)++a.flatMap ZN).length+(Ql ((b.length:Nat):Int)).length)*1<=140737488351232:=by simp only[QRj];omega
 simp only[Qla,Yw,QQ0,QB9 a b hs _ (show(Ql ((a.length:Nat):Int)).length<=10 by omega),Qu hlen,QQ1,QBb a b hbl _ (show(Ql ((a.length:Nat):Int)++a.flatMap ZN++Ql ((b.length:Nat):Int)).length<=2000000 by simp only[QRj];omega)]
 simp only[stB,QRc]
def JQ (s:Qk) (k:Int):Int:=bif QF s&&inR k 0 3 then Int.tmod (crc (stB (Zg s [k]))) 1024 else 0
theorem QFF (a:List Qf) (b:List Qa) (k:Int) (ha:a.length<=maxLen) (hb:b.length<=maxLen):QcC w (a,b,k)=some (JQ (a,b) k):=by
 apply Qwz
 simp only[QlY,Z9 a b ha hb,Xi,QQ0,JQ]
 cases h:QF (a,b)
 ·simp
 ·cases h2:inR k 0 3
  ·simp
  ·have hs:=Qd6 [k] h
   have hl:=Kl hs
   have hB:=Qsp (jN hs)
   simp only[QQ3,QQ2,QCX a b [k] (by simp[maxLen]) ha hb,h,QQ1,QQ0,Qim (Zg (a,b) [k]).1 (Zg (a,b) [k]).2 (by simp only[maxLen];omega) (by simp only[maxLen];omega),Bool.and_self]
   simp only[show QF ((Zg (a,b) [k]))=true from hs,QQ1,Qxs (stB ((Zg (a,b) [k]))) (show(stB (Zg (a,b) [k])).length<=maxLen by simp only[maxLen];omega),QQ0,dt (show(1024:Int)≠0 by omega)]
theorem QEk (a:List Qf) (b:List Qa) (k:Int) (ha:a.length<=maxLen) (hb:b.length<=maxLen):Qcm w (a,b,k)=some (JQ (a,b) k):=by
 apply Qu0
 simp only[Qk6,Ky a b ha hb,XN,QQ0,JQ]
 cases h:QF (a,b)
 ·simp
 ·cases h2:inR k 0 3
  ·simp
  ·have hs:=Qd6 [k] h
   have hl:=Kl h
   simp only at hl
   have hB:=Qsp (jN hs)
   simp only[QQ3,QQ2,Qzr a b [k] (by simp[maxLen]) (by omega) (by omega),QQ0,QrS (Zg (a,b) [k]).1 (Zg (a,b) [k]).2 (jN hs),QQ1,Bool.and_self,Qst (stB ((Zg (a,b) [k]))) (show(stB (Zg (a,b) [k])).length<=maxLen by simp only[maxLen];omega),dt (show(1024:Int)≠0 by omega)]
def rootOf (l:List Int):Int:=Int.tmod (crc (l.flatMap Ql)) 1024
theorem QIm (l:List Int) (hl:l.length<=4294967296):Qgo w l=some (rootOf l):=by
 apply QxM
 have e:=Q0 l.length (fun i (o:List Int)=>zf wl (l,((l.length:Nat):Int),(i:Int),o)) (fun i o=>o++(l.drop i).flatMap Ql) (fun i o=>o.length<=i*5)
  (fun i hi o ho ih=>by
    apply QiO
    have hb:=QJ l[i]
    have ih1:=ih (o++Ql l[i]) (by rw[QRj];omega)
    have ej: [o,Ql l[i]].flatten=o++Ql l[i]:=by simp
    have hj:=VO [o,Ql l[i]] (by simp[maxLen]) (by rw[ej,QRj];omega)
    simp only[Qfp,ilt hi,Qj hi,Qg hi,inc hi (show l.length<=maxLen by simp[maxLen];omega),QQ1,VP,QQ0,hj,ej,ih1]
    rw[QRa hi,QY8,QRc])
  (fun o _=>by
    apply QiO
    simp[Qfp])
  [] (by simp)
 simp only[QQ6,QRg,QRe]at e
 have hb:=qS Ql 5 l fun x _=>QJ x
 simp only[QmB,e,QQ0,Qxs (l.flatMap Ql) (by simp only[maxLen];omega),dt (show(1024:Int)≠0 by omega),QQ1,rootOf]
theorem QHN (l:List Int) (hl:l.length<=4294967296):Qf7 w l=some (rootOf l):=by
 apply QyU
 have e:=Q0 l.length (fun i (o:List Int)=>xJ wl (l,(i:Int),o)) (fun i o=>o++(l.drop i).flatMap Ql) (fun i o=>o.length<=i*5)
  (fun i hi o ho ih=>by
    apply QiT
    have hb:=QJ l[i]
    have ih1:=ih (o++Ql l[i]) (by rw[QRj];omega)
    simp only[Qfy,ilt hi,Qj hi,Qg hi,inc hi (show l.length<=maxLen by simp[maxLen];omega),QQ1,Yw,QQ0,Qu (show(o.length+(Ql l[i]).length)*1<=140737488351232 by omega),ih1]
    rw[QRa hi,QY8,QRc])
  (fun o _=>by
    apply QiT
    simp[Qfy])
  [] (by simp)
 simp only[QQ6,QRg,QRe]at e
 have hb:=qS Ql 5 l fun x _=>QJ x
 simp only[QnT,e,QQ0,Qst (l.flatMap Ql) (by simp only[maxLen];omega),dt (show(1024:Int)≠0 by omega),QQ1,rootOf]
def leaves (s:Qk):List Int:=[JQ s 0,JQ s 1,JQ s 2,JQ s 3]
def Ze (s:Qk):X3:=bif QF s then(leaves s,rootOf (leaves s))else([],0)
theorem QFr {i:Nat}(h:i<4):decide ((i:Int)<4)=true:=by simp;omega
theorem QzU (a:List Qf) (b:List Qa) (ha:a.length<=maxLen) (hb:b.length<=maxLen):yw w (a,b)=some (Ze (a,b)):=by
 apply Qyz
 have e:=Q0 4 (fun i (o:List Int)=>VY wl ((i:Int),a,b,o,0)) (fun i o=>(o++(List.range' i (4 - i)).flatMap fun i=>[JQ (a,b) (i:Nat)],(0:Int))) (fun i o=>o.length<=i)
  (fun i hi o ho ih=>by
    apply Qjp
    have ih1:=ih (o++[JQ (a,b) (i:Nat)]) (by simp;omega)
    rw[Ya hi,<-QRc,<-ih1]
    simp only[Qfr,QFr hi,QQ1,QFF a b _ ha hb,QQ0,QY37,Qu (show(o.length+1)*8<=140737488351232 by omega),QFc hi])
  (fun o _=>by
    apply Qjp
    simp[Qfr])
  [] (by simp)
 have e:VY wl (0,a,b,[],0)=some (leaves (a,b),0):=e
 simp only[QnU,Z9 a b ha hb,QQ0,Ze]
 cases QF (a,b)
 ·simp
 ·simp only[QQ3,QQ2,QQ1,e,QQ0,QIm (leaves (a,b)) (by simp[leaves])]
theorem Qve (a:List Qf) (b:List Qa) (ha:a.length<=maxLen) (hb:b.length<=maxLen):yu w (a,b)=some (Ze (a,b)):=by
 apply QyR
 have e:=Q0 4 (fun i (o:List Int)=>V4 wl ((i:Int),a,b,o,0)) (fun i o=>(o++(List.range' i (4 - i)).flatMap fun i=>[JQ (a,b) (i:Nat)],(0:Int))) (fun i o=>o.length<=i)
  (fun i hi o ho ih=>by
    apply Qi7
    have ih1:=ih (o++[JQ (a,b) (i:Nat)]) (by simp;omega)
    rw[Ya hi,<-QRc,<-ih1]
    simp only[QfG,QFr hi,QQ1,QEk a b _ ha hb,QQ0,QY37,Qu (show(o.length+1)*8<=140737488351232 by omega),QFc hi])
  (fun o _=>by
    apply Qi7
    simp[QfG])
  [] (by simp)
 have e:V4 wl (0,a,b,[],0)=some (leaves (a,b),0):=e
 simp only[Qnw,Ky a b ha hb,QQ0,Ze]
 cases QF (a,b)
 ·simp
 ·simp only[QQ3,QQ2,QQ1,e,QQ0,QHN (leaves (a,b)) (by simp[leaves])]
def Yu (g:Z8):Bool:=inR g.1 1 8&&decide (((g.2.2.length:Nat):Int)<=g.1)&&inR g.2.1 0 100000&&decide (g.2.1+((g.2.2.length:Nat):Int)<=100000)&&g.2.2.all QF
theorem ZY {α:Type}{R:Type}(p:α->Bool) (l:List α) (x y:R) {i:Nat}(hi:i<l.length):(if(l.drop i).all p then x else y)=(bif p l[i]then(if(l.drop (i+1)).all p then x else y)else y):=by
 rw[QRa hi,QY29]
 cases p l[i]<;>simp
theorem Qya {α:Type}{R:Type}(p:α->Bool) (l:List α) (x y:R):(if(l.drop l.length).all p then x else y)=x:=by simp
theorem Que (a b:Int) (l:List Qk) (hl:l.length<=maxLen) (hs:∀s∈l,s.1.length<=maxLen/\s.2.length<=maxLen):zG w (a,b,l)=some (Yu (a,b,l)):=by
 apply QAH
 have e:=Q3 l.length (fun i=>zT wl (l,((l.length:Nat):Int),(i:Int),a,b,l)) (fun i=>if(l.drop i).all QF then .inr (a,b,l)else .inl false)
  (fun i hi ih=>by
    apply Qkc
    have hx:=hs _ (QRf hi)
    rw[ZY QF l _ _ hi]
    simp only[QiB,ilt hi,Qj hi,Qg hi,inc hi hl,QQ1,Z9 _ _ hx.1 hx.2,QQ0,ih]
    cases QF l[i]<;>simp)
  (by
    apply Qkc
    simp[QiB])
 simp only[QQ6,QRg]at e
 simp only[QoT,e,QQ0,Xi,Yu]
 cases l.all QF
 ·simp[Qn]
 ·simp only[if_true,Qn,QY0,QRn]
  cases h1:inR a 1 8
  ·simp
  ·by_cases h2:((l.length:Nat):Int)<=a
   ·cases h3:inR b 0 100000
    ·simp
    ·simp[inR]at h1 h3
     rw[w64 (by omega) (by omega)]
     simp[h2]
   ·simp[h2]
theorem QrX (a b:Int) (l:List Qk) (hl:l.length<=maxLen) (hs:∀s∈l,s.1.length<=maxLen/\s.2.length<=maxLen):zK w (a,b,l)=some (Yu (a,b,l)):=by
 apply QAF
 have e:=Q3 l.length (fun i=>zU wl ((i:Int),a,b,l)) (fun i=>if(l.drop i).all QF then .inr ()else .inl false)
  (fun i hi ih=>by
    apply Qkt
    have hx:=hs _ (QRf hi)
    rw[ZY QF l _ _ hi]
    simp only[Qin,ilt hi,Qj hi,Qg hi,inc hi hl,QQ1,Ky _ _ hx.1 hx.2,QQ0,ih]
    cases QF l[i]<;>simp)
  (by
    apply Qkt
    simp[Qin])
 simp only[QQ6,QRg]at e
 simp only[QoI,e,QQ0,XN,Yu]
 cases h1:inR a 1 8
 ·simp
 ·by_cases h2:((l.length:Nat):Int)<=a
  ·cases h3:inR b 0 100000
   ·simp[h2]
   ·simp[inR]at h1 h3
    rw[w64 (by omega) (by omega)]
    by_cases h4:b+((l.length:Nat):Int)<=100000
    ·simp only[QQ3,QQ2,df (show¬a<((l.length:Nat):Int) by omega),df (show¬100000<b+((l.length:Nat):Int) by omega),dt h2,dt h4,QRd,QRn]
     cases l.all QF<;>simp[Qn]
    ·simp only[QQ3,QQ2,df (show¬a<((l.length:Nat):Int) by omega),dt (show 100000<b+((l.length:Nat):Int) by omega),df h4,QQ1,QY13,QRm]
  ·simp only[QQ3,QQ2,dt (show a<((l.length:Nat):Int) by omega),QQ1,df h2,QY13,QRm]
def Xr (g:Z8):Int:=bif Yu g then g.2.1+((g.2.2.length:Nat):Int)else 0
theorem QjH {g:Z8}(h:Yu g=true):g.2.2.length<=8/\0<=g.2.1/\g.2.1<=100000/\g.2.1+((g.2.2.length:Nat):Int)<=100000:=by
 simp[Yu,inR]at h;omega
theorem QmL (a b:Int) (l:List Qk) (hl:l.length<=maxLen) (hs:∀s∈l,s.1.length<=maxLen/\s.2.length<=maxLen):VL w (a,b,l)=some (Xr (a,b,l)):=by
 apply QxY
 simp only[QnJ,Que a b l hl hs,QQ0,Xr]
 cases h:Yu (a,b,l)
 ·simp
 ·have:=QjH h
  simp only at this
  rw[w64 (by omega) (by omega)];simp
theorem Qjr (a b:Int) (l:List Qk) (hl:l.length<=maxLen) (hs:∀s∈l,s.1.length<=maxLen/\s.2.length<=maxLen):xe w (a,b,l)=some (Xr (a,b,l)):=by
 apply Qyy
 simp only[Qmr,QrX a b l hl hs,QQ0,Xr]
 cases h:Yu (a,b,l)
 ·simp
 ·have:=QjH h
  simp only at this
  rw[w64 (by omega) (by omega)];simp
def Y7 (v:List Int) (n:Int):Bool:=inR n 1 5&&decide (((v.length:Nat):Int)=n)&&v.all fun x=>inR x 0 100000
theorem QB2 (v:List Int) (n:Int) (hv:v.length<=maxLen):Qb9 w (v,n)=some (Y7 v n):=by
 apply QAk
 have e:=Q3 v.length (fun i=>zY wl (v,n,v,((v.length:Nat):Int),(i:Int))) (fun i=>if(v.drop i).all (fun x=>inR x 0 100000)then .inr (v,n)else .inl false)
  (fun i hi ih=>by
    apply Ql2
    rw[ZY (fun x=>inR x 0 100000) v _ _ hi]
    simp only[Qio,ilt hi,Qj hi,Qg hi,inc hi hv,QQ1,Xi,QQ0,ih]
    cases inR v[i] 0 100000<;>simp)
  (by
    apply Ql2
    simp[Qio])
 simp only[QQ6,QRg]at e
 simp only[Qpg,e,QQ0,Xi,Y7]
 cases v.all fun x=>inR x 0 100000
 ·simp[Qn]
 ·simp only[if_true,Qn,QY0,QRn]
  cases inR n 1 5<;>simp
theorem Qz5 (v:List Int) (n:Int) (hv:v.length<=maxLen):Qcs w (v,n)=some (Y7 v n):=by
 apply QAa
 by_cases h2:((v.length:Nat):Int)=n
 ·subst h2
  have e:=Q3 v.length (fun i=>zR wl (v,((v.length:Nat):Int),(i:Int))) (fun i=>if(v.drop i).all (fun x=>inR x 0 100000)then .inr ()else .inl false)
   (fun i hi ih=>by
     apply Qkp
     rw[ZY (fun x=>inR x 0 100000) v _ _ hi]
     simp only[QiC,ilt hi,Qj hi,Qg hi,inc hi hv,QQ1,XN,QQ0,ih]
     cases inR v[i] 0 100000<;>simp)
   (by
     apply Qkp
     simp[QiC])
  simp only[QQ6,QRg]at e
  simp only[Qfw,e,QQ0,XN,Y7]
  cases inR ((v.length:Nat):Int) 1 5
  ·simp
  ·cases v.all fun x=>inR x 0 100000<;>simp[Qn]
 ·simp only[Qfw,XN,QQ0,Y7,df h2]
  cases inR n 1 5<;>simp
def zw (r:List Int):Bool:=(r.all fun x=>inR x 0 1000)&&decide (((r.length:Nat):Int)=5)
def KP (t:List (List Int)) (n:Int):Bool:=inR n 1 5&&decide (((t.length:Nat):Int)=n)&&t.all zw
theorem QFV (t:List (List Int)) (n:Int) (ht:t.length<=maxLen) (hr:∀r∈t,r.length<=maxLen):QdB w (t,n)=some (KP t n):=by
 apply Qwi
 have inner:∀(i:Int) (r:List Int),r.length<=maxLen->K6 wl (t,n,r,t,((t.length:Nat):Int),i,r,((r.length:Nat):Int),0)=some (if r.all (fun x=>inR x 0 1000)then .inr (t,n,r,t,((t.length:Nat):Int),i)else .inl false):=by
  intro i r hr
  have e:=Q3 r.length (fun k=>K6 wl (t,n,r,t,((t.length:Nat):Int),i,r,((r.length:Nat):Int),(k:Int))) (fun k=>if(r.drop k).all (fun x=>inR x 0 1000)then .inr (t,n,r,t,((t.length:Nat):Int),i)else .inl false)
   (fun k hk ih=>by
     apply QhJ
     rw[ZY (fun x=>inR x 0 1000) r _ _ hk]
     simp only[Qex,ilt hk,Qj hk,Qg hk,inc hk hr,QQ1,Xi,QQ0,ih]
     cases inR r[k] 0 1000<;>simp)
   (by
     apply QhJ
     simp[Qex])
  simpa using e
 have e:=Q3 t.length (fun i=>ql wl (t,n,t,((t.length:Nat):Int),(i:Int))) (fun i=>if(t.drop i).all zw then .inr (t,n)else .inl false)
  (fun i hi ih=>by
    apply Qg5
    rw[ZY zw t _ _ hi]
    have hx:=hr _ (QRf hi)
    simp only[Qem,ilt hi,Qj hi,Qg hi,QQ1,inner _ _ hx,QQ0,zw]
    cases t[i].all fun x=>inR x 0 1000
    ·simp[Qn]
    ·simp only[if_true,Qn,QY0,QRd,inc hi ht,ih]
     cases decide (((t[i].length:Nat):Int)=5)<;>simp)
  (by
    apply Qg5
    simp[Qem])
 simp only[QQ6,QRg]at e
 simp only[QlR,e,QQ0,Xi,KP]
 cases t.all zw
 ·simp[Qn]
 ·simp only[if_true,Qn,QY0,QRn]
  cases inR n 1 5<;>simp
theorem QC9 (t:List (List Int)) (n:Int) (ht:t.length<=maxLen) (hr:∀r∈t,r.length<=maxLen):Qb6 w (t,n)=some (KP t n):=by
 apply QwY
 by_cases h2:((t.length:Nat):Int)=n
 ·subst h2
  have inner:∀(i:Nat) (hi:i<t.length),K2 wl (t,((t.length:Nat):Int),(i:Int),0)=some (if t[i].all (fun x=>inR x 0 1000)then .inr (t,((t.length:Nat):Int),(i:Int))else .inl false):=by
   intro i hi
   have hx:=hr _ (QRf hi)
   have e:=Q3 t[i].length (fun k=>K2 wl (t,((t.length:Nat):Int),(i:Int),(k:Int))) (fun k=>if(t[i].drop k).all (fun x=>inR x 0 1000)then .inr (t,((t.length:Nat):Int),(i:Int))else .inl false)
    (fun k hk ih=>by
      apply Qh6
      rw[ZY (fun x=>inR x 0 1000) t[i] _ _ hk]
      simp only[Qen,Qj hi,Qg hi,ilt hk,Qj hk,Qg hk,inc hk hx,QQ1,XN,QQ0,ih]
      cases inR t[i][k] 0 1000<;>simp)
    (by
      apply Qh6
      simp only[Qen,Qj hi,Qg hi,Qo,QQ1,QQ2,Qya])
   simpa using e
  have e:=Q3 t.length (fun i=>qI wl (t,((t.length:Nat):Int),(i:Int))) (fun i=>if(t.drop i).all zw then .inr ()else .inl false)
   (fun i hi ih=>by
     apply QgK
     rw[ZY zw t _ _ hi]
     simp only[QeI,ilt hi,Qj hi,Qg hi,QQ1,inner i hi,QQ0,zw]
     cases h5:decide (((t[i].length:Nat):Int)=5)
     ·simp
     ·cases t[i].all fun x=>inR x 0 1000
      ·simp[Qn]
      ·simp only[if_true,Qn,QY0,QRd,QQ3,QQ2,QQ1,inc hi ht,ih])
   (by
     apply QgK
     simp[QeI])
  simp only[QQ6,QRg]at e
  simp only[Qbo,e,QQ0,XN,KP]
  cases inR ((t.length:Nat):Int) 1 5
  ·simp
  ·cases t.all zw<;>simp[Qn]
 ·simp only[Qbo,XN,QQ0,KP,df h2]
  cases inR n 1 5<;>simp
def QlT:Int->List Int->Int
 |m,[]=>m
 |m,x::l=>QlT (mxI m x) l
theorem QEs (b:Int):(m:Int)->(l:List Int)->(decide (b<QlT m l)= !(decide (m<=b)&&l.all fun x=>decide (x<=b)))
 |m,[]=>by
  by_cases h:m<=b
  ·rw[QlT,dt h,df (show¬b<m by omega)];simp
  ·rw[QlT,df h,dt (show b<m by omega)];simp
 |m,x::l=>by
  rw[QlT,QEs b (mxI m x) l,QY29]
  have:decide (mxI m x<=b)=(decide (m<=b)&&decide (x<=b)):=by
   unfold mxI
   split
   ·by_cases h:x<=b
    ·simp[h];omega
    ·simp[h]
   ·by_cases h:m<=b
    ·simp[h];omega
    ·simp[h]
  rw[this,Bool.and_assoc]
theorem QMy (a:Int) (l:List Int) (h:(a::l).length<=maxLen):Vw w (a::l)=some (QlT a l):=by
 apply QpF
 have main:∀n i (m:Int),1<=i->i+n=(a::l).length->ZL wl (a::l,m,(i:Int))=some (QlT m ((a::l).drop i)):=by
  intro n
  induction n with
  |zero=>
   intro i m h1 hi
   apply vF
   have:i=(a::l).length:=by omega
   rw[this]
   simp only[zn,Qo,QQ2,QRl,QlT]
  |succ n ih=>
   intro i m h1 hi
   have hi':i<(a::l).length:=by omega
   apply vF
   simp only[zn,ilt hi',Qj hi',Qg hi',inc hi' h,QQ1,ih (i+1) _ (by omega) (by omega)]
   rw[QRa hi',QlT]
 have e:=main l.length 1 a (by omega) (by simp;omega)
 simp only[List.drop_succ_cons,QRg]at e
 have h0:0<(a::l).length:=by simp
 have e0:inb 0 (a::l).length=true:=Qj h0
 have e1:rd1 (0:Int) (a::l) 0=a:=rfl
 have e:ZL wl (a::l,a,1)=some (QlT a l):=e
 simp only[QbR,df (show¬(((a::l).length:Nat):Int)<1 by simp;omega),QQ2,e0,QQ1,e1,e,QQ0]
end Go.Proofs.YtiejfnbmficbmaaGreat.M
