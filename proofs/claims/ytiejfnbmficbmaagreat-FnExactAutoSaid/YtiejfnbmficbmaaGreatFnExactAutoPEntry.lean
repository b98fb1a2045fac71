/- What the plain forms that FnExactAuto reaches come to: PEntry. No conditions but those that each theorem states. -/
import Derived.Test.YtiejfnbmficbmaaGreatFnExactAutoPFam
import Derived.Lib.Bytealg
set_option linter.all false
namespace Go.Proofs.YtiejfnbmficbmaaGreat.M
open Go Go.Eng Go.Proofs
set_option linter.unusedVariables false
def Ka (a b:Int):Int:=if a<b then -1 else if b<a then 1 else 0
def QsP (a b:ByteArray):Int:=Go.Lib.compareBytes a.data.toList b.data.toList
def or5 (a b c d e:Int):Int:=if a≠0 then a else if b≠0 then b else if c≠0 then c else if d≠0 then d else e
def Vf (x y:XO):Int:=or5 (Ka x.1 y.1) (Ka x.2.1 y.2.1) (Ka x.2.2.1 y.2.2.1) (Ka x.2.2.2.1 y.2.2.2.1) (QsP x.2.2.2.2 y.2.2.2.2)
def VK (x y:XO):XO:=if Vf x y<0 then y else x
theorem Qpr:(a b:List UInt8)->Op.bytesLess a b=decide (Go.Lib.compareBytes a b= -1)/\(Go.Lib.compareBytes a b=0↔a=b)/\(Go.Lib.compareBytes a b= -1\/Go.Lib.compareBytes a b=0\/Go.Lib.compareBytes a b=1)
 | [],[]=>by simp[Op.bytesLess,Go.Lib.compareBytes]
 | [],_::_=>by simp[Op.bytesLess,Go.Lib.compareBytes]
 |_::_,[]=>by simp[Op.bytesLess,Go.Lib.compareBytes]
 |a::l,b::m=>by
  have ih:=Qpr l m
  by_cases h:a<b
  ·have hne:a≠b:=fun e=>by subst e;exact UInt8.lt_irrefl _ h
   simp[Op.bytesLess,Go.Lib.compareBytes,h,hne]
  ·by_cases h2:b<a
   ·have hne:a≠b:=fun e=>by subst e;exact UInt8.lt_irrefl _ h2
    simp[Op.bytesLess,Go.Lib.compareBytes,h,h2,hne]
   ·have he:a=b:=UInt8.le_antisymm (UInt8.not_lt.1 h2) (UInt8.not_lt.1 h)
    subst he
    simp only[Op.bytesLess,Go.Lib.compareBytes,h,if_false]
    simpa using ih
theorem QGu (a:Int):Qgr w a=some false:=by
 apply QAJ
 simp[Qpl]
theorem QE8 (a b:Int):qH w (a,b)=some (Ka a b):=by
 apply QwO
 simp only[QlU,QGu,QQ0,QQ2,Ka]
 by_cases h:a<b
 ·simp[h]
 ·by_cases h2:b<a
  ·simp[h,h2]
  ·simp[h,h2]
theorem QsJ (a b:ByteArray):Zy w (a,b)=some (QsP a b):=by
 apply vE
 rfl
theorem Qyu (a b:ByteArray):yn w (a,b)=some (QsP a b):=by
 apply Qp1
 simp only[QdC,QsJ,QQ0]
def orL:List Int->Int
 | []=>0
 |x::l=>if x=0 then orL l else x
def orR:List Int->Int⊕Int
 | []=> .inr 0
 |x::l=>if x=0 then orR l else .inl x
theorem QDe:(l:List Int)->Qp (orR l) (fun u=>some u) (fun z=>some z)=some (orL l)
 | []=>rfl
 |x::l=>by
  have ih:=QDe l
  by_cases h:x=0
  ·simp only[orR,orL,h,if_true];exact ih
  ·simp only[orR,orL,h,if_false,Qp,Sum.elim_inl]
theorem QME (a:List Int) (h:a.length<=maxLen):Qt3 w a=some (orL a):=by
 apply QFb
 have e:=Q7 a.length (fun i=>QfE wl (0,a,((a.length:Nat):Int),(i:Int))) (fun i=>orR (a.drop i))
  (fun i hi ih=>by
    apply QqQ
    simp only[QqK,ilt hi,Qk hi,Qg hi,inc hi h,QQ1,ih]
    rw[QRa hi,orR]
    by_cases hx:a[i]=0
    ·simp only[hx,decide_true,QQ3,QQ2,if_true]
    ·simp only[hx,decide_false,QQ4,QQ1,if_false])
  (by
    apply QqQ
    simp only[QqK,Qm,QQ2,QRl,orR])
 simp only[QQ6,QRg]at e
 simp only[QtD,e,QQ0,QDe]
theorem QJI (a b c d e:Int):orL [a,b,c,d,e]=or5 a b c d e:=by
 simp only[orL,or5]
 by_cases h1:a=0<;>by_cases h2:b=0<;>by_cases h3:c=0<;>by_cases h4:d=0<;>by_cases h5:e=0<;>simp[h1,h2,h3,h4,h5]
theorem QBM (a b c d:Int) (s:ByteArray) (a' b' c' d':Int) (s':ByteArray):vK w (a,b,c,d,s,a',b',c',d',s')=some (Vf (a,b,c,d,s) (a',b',c',d',s')):=by
 apply Qsl
 simp only[Qhi,QE8,Qyu,QQ0,QME _ (show List.length [Ka a a',Ka b b',Ka c c',Ka d d',QsP s s']<=maxLen by simp[maxLen]),QJI,Vf]
theorem QBG (a b c d:Int) (s:ByteArray) (a' b' c' d':Int) (s':ByteArray):vW w (a,b,c,d,s,a',b',c',d',s')=some (VK (a,b,c,d,s) (a',b',c',d',s')):=by
 apply QsY
 simp only[QhW,QBM,QQ0,VK]
 by_cases h:Vf (a,b,c,d,s) (a',b',c',d',s')<0
 ·rw[dt h,QQ1,if_pos h]
 ·rw[df h,QQ2,if_neg h]
theorem QAt (b:Bool):Qc5 w b=some (if b then 1 else 0):=by
 apply QyE
 cases b<;>rfl
theorem QGD (a b:Int):xW w (a,b)=some (Ka a b):=by
 apply QyF
 simp only[QnE,QAt,QQ0,Ka]
 by_cases h:a<b
 ·simp[h]
 ·by_cases h2:b<a
  ·simp[h,h2]
  ·simp[h,h2]
theorem QLX (a b:ByteArray):(bif Op.bytesLess a.toList b.toList then some (-1)else some (if(!(Op.bytesLess a.toList b.toList||Jb a b))=true then(1:Int)else 0))=some (QsP a b):=by
 rw[toList_data,toList_data,QCY]
 obtain⟨h1,h2,h3⟩:=Qpr a.data.toList b.data.toList
 have h4:a=b↔a.data.toList=b.data.toList:=by
  constructor
  ·intro h;rw[h]
  ·intro h
   cases a;cases b
   exact congrArg ByteArray.mk (Array.toList_inj.1 h)
 rw[h1]
 unfold QsP
 by_cases hl:Go.Lib.compareBytes a.data.toList b.data.toList= -1
 ·simp[hl]
 ·by_cases hz:Go.Lib.compareBytes a.data.toList b.data.toList=0
  ·have:a=b:=h4.2 (h2.1 hz)
   subst this
   simp[hz]
  ·have:a≠b:=fun h=>hz (h2.2 (h4.1 h))
   have h1':Go.Lib.compareBytes a.data.toList b.data.toList=1:=by omega
   simp[h1',this]
theorem QAF (a b c d:Int) (s:ByteArray) (a' b' c' d':Int) (s':ByteArray):Vb w (a,b,c,d,s,a',b',c',d',s')=some (Vf (a,b,c,d,s) (a',b',c',d',s')):=by
 apply Qsv
 have hlen:∀l:List Int,l.length=4->Kb wl (0,a,b,c,d,s,a',b',c',d',s',l)=some (match orR l with| .inl x=> .inl x| .inr _=> .inr (a,b,c,d,s,a',b',c',d',s')):=by
  intro l hl
  have e:=Q7 l.length (fun i=>Kb wl ((i:Int),a,b,c,d,s,a',b',c',d',s',l)) (fun i=>match orR (l.drop i)with| .inl x=> .inl x| .inr _=> .inr (a,b,c,d,s,a',b',c',d',s'))
   (fun i hi ih=>by
     apply Qdy
     simp only[Qad,ilt hi,Qk hi,Qg hi,inc hi (show l.length<=maxLen by simp[maxLen];omega),QQ1,ih]
     rw[QRa hi,orR]
     by_cases hx:l[i]=0
     ·simp only[hx,decide_true,QQ3,QQ2,if_true]
     ·simp only[hx,decide_false,QQ4,QQ1,if_false])
   (by
     apply Qdy
     simp only[Qad,Qm,QQ2,QRl,orR])
  simpa using e
 simp only[Qhq,QGD,QAt,QQ0,hlen _ (show List.length [Ka a a',Ka b b',Ka c c',Ka d d']=4 from rfl),Vf,or5,orR]
 by_cases h1:Ka a a'=0
 ·by_cases h2:Ka b b'=0
  ·by_cases h3:Ka c c'=0
   ·by_cases h4:Ka d d'=0
    ·simp only[h1,h2,h3,h4,if_true,Qp,QY0,ne_eq,not_true_eq_false,if_false]
     exact QLX s s'
    ·simp[h1,h2,h3,h4,Qp]
   ·simp[h1,h2,h3,Qp]
  ·simp[h1,h2,Qp]
 ·simp[h1,Qp]
def Qqu (n:Int):Int:=IntKind.wrap .u8 (wR (Int.tmod n 128+128))
def zO:Nat->Int->List Int->Int×List Int
 |0,n,o=>(n,o)
 |f+1,n,o=>if 128<=n then zO f (Int.tdiv n 128) (o++[Qqu n])else(n,o)
def QB (n:Int):List Int:=bif inR n 0 2147483647 then(zO 4 n []).2++[IntKind.wrap .u8 (zO 4 n []).1]else []
theorem Qo0:(f:Nat)->(n:Int)->(o:List Int)->(zO f n o).2.length<=o.length+f
 |0,n,o=>by simp[zO]
 |f+1,n,o=>by
  simp only[zO]
  split
  ·have:=Qo0 f (Int.tdiv n 128) (o++[Qqu n])
   simp only[QRj,QY33]at this;omega
  ·simp
theorem Xn (n:Int):(QB n).length<=5:=by
 unfold QB
 have:=Qo0 4 n []
 cases inR n 0 2147483647
 ·simp
 ·simp only[QQ1,QRj,QY33];simp at this;omega
theorem QBN:(f:Nat)->(n:Int)->(o:List Int)->0<=n->n<128^(f+1)->n<=2147483647->o.length+f<=1000->xA wl (n,o)=some (zO f n o):=by
 intro f
 induction f with
 |zero=>
  intro n o h0 h1 h2 h3
  apply QhM
  simp only[jJ,df (show¬128<=n by omega),QQ2,zO]
 |succ f ih=>
  intro n o h0 h1 h2 h3
  apply QhM
  by_cases h:128<=n
  ·have hd:=Int.tdiv_eq_ediv_of_nonneg (b:=128) h0
   have:=ih (Int.tdiv n 128) (o++[Qqu n]) (by omega) (by rw[Int.pow_succ]at h1;omega) (by omega) (by simp;omega)
   simp only[Qqu]at this
   simp only[jJ,dt h,QQ1,dt (show(128:Int)≠0 by omega),Qu (show(o.length+List.length [IntKind.wrap .u8 (wR (Int.tmod n 128+128))])*1<=140737488351232 by simp;omega),zO,h,if_true,Qqu]
   rw[w64 (n:=Int.tdiv n 128) (by omega) (by omega)]
   exact this
  ·simp only[jJ,df h,QQ2,zO,h,decide_false,if_false]
theorem QAg:(f:Nat)->(n:Int)->(o:List Int)->0<=n->n<128^(f+1)->n<=2147483647->o.length+f<=1000->xf wl (n,o)=some (zO f n o):=by
 intro f
 induction f with
 |zero=>
  intro n o h0 h1 h2 h3
  apply Qhr
  simp only[jC,df (show¬127<n by omega),QQ2,zO]
 |succ f ih=>
  intro n o h0 h1 h2 h3
  apply Qhr
  by_cases h:128<=n
  ·have hd:=Int.tdiv_eq_ediv_of_nonneg (b:=128) h0
   have:=ih (Int.tdiv n 128) (o++[Qqu n]) (by omega) (by rw[Int.pow_succ]at h1;omega) (by omega) (by simp;omega)
   simp only[Qqu]at this
   simp only[jC,dt (show 127<n by omega),QQ1,dt (show(128:Int)≠0 by omega),Qu (show(o.length+List.length [IntKind.wrap .u8 (wR (Int.tmod n 128+128))])*1<=140737488351232 by simp;omega),zO,h,if_true,Qqu]
   rw[w64 (n:=Int.tdiv n 128) (by omega) (by omega)]
   exact this
  ·simp only[jC,df (show¬127<n by omega),QQ2,zO,h,decide_false,if_false]
theorem Qax (n:Int):XW w n=some (QB n):=by
 apply Qwc
 simp only[Qlj,Xi,QQ0,QB]
 cases h:inR n 0 2147483647
 ·simp
 ·simp[inR]at h
  have hl:=Qo0 4 n []
  simp only[QY7]at hl
  simp only[QQ3,QQ2,QBN 4 n [] h.1 (by omega) h.2 (by simp),QQ0,QQ1,Qu (show((zO 4 n []).2.length+List.length [IntKind.wrap .u8 (zO 4 n []).1])*1<=140737488351232 by simp;omega)]
theorem ji (n:Int):Z6 w n=some (QB n):=by
 apply Qxp
 simp only[QkY,XD,QQ0,QB]
 cases h:inR n 0 2147483647
 ·simp
 ·simp[inR]at h
  have hl:=Qo0 4 n []
  simp only[QY7]at hl
  simp only[QQ3,QQ2,QAg 4 n [] h.1 (by omega) h.2 (by simp),QQ0,QQ1,Qu (show((zO 4 n []).2.length+List.length [IntKind.wrap .u8 (zO 4 n []).1])*1<=140737488351232 by simp;omega)]
theorem QaC (l:List (List Int)) (hl:l.length<=maxLen) (hf:l.flatten.length<=1099511627776):Kq w l=some l.flatten:=by
 apply Qxf
 have e:=Xe l.length (fun i (o:List Int)=>qY wl (l,((l.length:Nat):Int),(i:Int),o)) (fun i o=>o++(l.drop i).flatten) (fun i o=>o.length+(l.drop i).flatten.length<=1099511627776)
  (fun i hi o ho ih=>by
    apply QhC
    rw[QRa hi,QRr,QRj]at ho
    have:=ih (o++l[i]) (by rw[QRj];omega)
    simp only[Qed,ilt hi,Qk hi,Qg hi,inc hi hl,QQ1,Qu (show(o.length+l[i].length)*1<=140737488351232 by omega),this]
    rw[QRa hi,QRr,QRc])
  (fun o _=>by
    apply QhC
    simp[Qed,Qm])
  [] (by simpa using hf)
 simp only[QQ6,QRg,QRe]at e
 simp only[Qln,e,QQ0]
theorem QrN (s:ByteArray):(ofBytes s).length=s.size:=by
 show(s.data.toList.map _).length=s.data.size
 rw[List.length_map,Array.length_toList]
def Js (s:ByteArray):List Int:=QB (s.size:Nat)++ofBytes s
theorem QrK (s:ByteArray):(Js s).length<=5+s.size:=by
 have:=Xn (s.size:Nat)
 simp only[Js,QRj,QrN];omega
theorem QEW (s:ByteArray) (h:s.size<=4294967296):Qb5 w s=some (Js s):=by
 apply QtH
 have:=Xn (s.size:Nat)
 have e: [QB (s.size:Nat),ofBytes s].flatten=Js s:=by simp[Js]
 simp only[Qju,Qax,QQ0,QaC [QB ((s.size:Nat):Int),ofBytes s] (by simp[maxLen]) (by rw[e];have:=QrK s;omega),e]
theorem QCz (s:ByteArray) (h:s.size<=4294967296):Qdg w s=some (Js s):=by
 apply Qti
 have:=Xn (s.size:Nat)
 simp only[QjX,ji,QQ0,Qu (show((QB ((s.size:Nat):Int)).length+(ofBytes s).length)*1<=140737488351232 by rw[QrN];omega),QQ1,Js]
def Qnt (x:Int):Int:=if Int.tmod x 2=1 then bits .xor .i64 (wR (Int.tdiv x 2)) 3988292384 else wR (Int.tdiv x 2)
def Qb0:Nat->Int->Int
 |0,x=>x
 |n+1,x=>Qb0 n (Qnt x)
def QAi (s b:Int):Int:=Qb0 8 (bits .xor .i64 s (wR b))
theorem QC4 (s b:Int):QAi s b=Qb0 8 (bits .xor .i64 s (wR b)):=by unfold QAi;exact Eq.refl _
def crc (l:List Int):Int:=bits .xor .i64 (l.foldl QAi 4294967295) 4294967295
theorem QKi {i:Nat}(h:i<8):decide ((i:Int)<8)=true:=by simp;omega
theorem QE3 {i n:Nat}(h:i<n) (hn:n<=1000:=by omega):wR ((i:Int)+1)=((i+1:Nat):Int):=by
 rw[w64 (by omega) (by omega)];omega
theorem QF6 (b:List Int) (n i x:Int):qz wl (x,b,n,i,0)=some (Qb0 8 x,b,n,i):=by
 have e:=Xe 8 (fun k (x:Int)=>qz wl (x,b,n,i,(k:Int))) (fun k x=>(Qb0 (8 - k) x,b,n,i)) (fun _ _=>True)
  (fun k hk x _ ih=>by
    apply QnO
    have:=ih (Qnt x) trivial
    rw[show 8 - k=(8 - (k+1))+1 by omega,Qb0,<-this]
    simp only[QmT,QKi hk,QQ1,dt (show(2:Int)≠0 by omega),QE3 hk,Qnt]
    by_cases hx:Int.tmod x 2=1
    ·simp only[hx,decide_true,QQ1,if_true]
    ·simp only[hx,decide_false,QQ2,if_false])
  (fun x _=>by
    apply QnO
    simp[QmT,Qb0])
  x trivial
 simpa using e
theorem QDO (b:List Int) (i x:Int):qA wl (b,x,i,0)=some (b,Qb0 8 x,i):=by
 have e:=Xe 8 (fun k (x:Int)=>qA wl (b,x,i,(k:Int))) (fun k x=>(b,Qb0 (8 - k) x,i)) (fun _ _=>True)
  (fun k hk x _ ih=>by
    apply QnK
    have:=ih (Qnt x) trivial
    rw[show 8 - k=(8 - (k+1))+1 by omega,Qb0,<-this]
    simp only[Qm4,QKi hk,QQ1,dt (show(2:Int)≠0 by omega),QE3 hk,Qnt]
    by_cases hx:Int.tmod x 2=1
    ·simp only[hx,decide_true,QQ1,if_true]
    ·simp only[hx,decide_false,QQ2,if_false])
  (fun x _=>by
    apply QnK
    simp[Qm4,Qb0])
  x trivial
 simpa using e
theorem Qzr (b:List Int) (h:b.length<=maxLen):Qeb w b=some (crc b):=by
 apply QCp
 have e:=Xe b.length (fun i (x:Int)=>vD wl (x,b,((b.length:Nat):Int),(i:Int))) (fun i x=>(b.drop i).foldl QAi x) (fun _ _=>True)
  (fun i hi x _ ih=>by
    apply QnR
    simp only[Qnc,ilt hi,Qk hi,Qg hi,QQ1,QF6,QQ0,inc hi h,ih _ trivial]
    rw[QRa hi,List.foldl_cons,QC4])
  (fun x _=>by
    apply QnR
    simp only[Qnc,Qm,QQ2,QRl,List.foldl_nil])
  4294967295 trivial
 simp only[QQ6,QRg]at e
 simp only[Qqg,e,QQ0,crc]
theorem Qxg (b:List Int) (h:b.length<=maxLen):Qem w b=some (crc b):=by
 apply QCi
 have e:=Xe b.length (fun i (x:Int)=>vu wl (b,x,(i:Int))) (fun i x=>(b.drop i).foldl QAi x) (fun _ _=>True)
  (fun i hi x _ ih=>by
    apply Qoc
    simp only[Qm6,ilt hi,Qk hi,Qg hi,QQ1,QDO,QQ0,inc hi h,ih _ trivial]
    rw[QRa hi,List.foldl_cons,QC4])
  (fun x _=>by
    apply Qoc
    simp only[Qm6,Qm,QQ2,QRl,List.foldl_nil])
  4294967295 trivial
 simp only[QQ6,QRg]at e
 simp only[Qqp,e,QQ0,crc]
def QsO (x:Int):Nat->List Int->Int⊕Unit
 |_,[]=> .inr ()
 |i,y::l=>if x=y then .inl (i:Nat)else QsO x (i+1) l
theorem QA8 (x:Int):(i:Nat)->(l:List Int)->∃r:Int,Qp (QsO x i l) (fun u=>some u) (fun _=>some (-1))=some r/\decide (0<=r)=decide (x∈l)
 |i,[]=>⟨-1,rfl,by simp⟩
 |i,y::l=>by
  by_cases h:x=y
  ·refine⟨(i:Nat), ?_, ?_⟩
   ·simp only[QsO,h,if_true,Qp,Sum.elim_inl]
   ·simp[h]
  ·obtain⟨r,h1,h2⟩:=QA8 x (i+1) l
   refine⟨r, ?_, ?_⟩
   ·simp only[QsO,h,if_false];exact h1
   ·rw[h2];simp[h]
theorem Qr4 (a:List Int) (x:Int) (h:a.length<=maxLen):Z1 w (a,x)=some (decide (x∈a)):=by
 apply Qid
 have e:=Q7 a.length (fun i=>ZZ wl (a,x,((a.length:Nat):Int),(i:Int))) (fun i=>QsO x i (a.drop i))
  (fun i hi ih=>by
    apply yk
    simp only[qG,ilt hi,Qk hi,Qg hi,inc hi h,QQ1,ih]
    rw[QRa hi,QsO]
    by_cases hx:x=a[i]
    ·simp only[hx,decide_true,QQ1,if_true]
    ·simp only[hx,decide_false,QQ2,if_false])
  (by
    apply yk
    simp only[qG,Qm,QQ2,QRl,QsO])
 simp only[QQ6,QRg]at e
 obtain⟨r,h1,h2⟩:=QA8 x 0 a
 have hi:Jg w (a,x)=some r:=by
  apply QmR
  simp only[jP,e,QQ0,h1]
 simp only[zn,hi,QQ0,h2]
theorem QG3 (a b:List Int) (h:a.length<=maxLen):Ji w (a,b)=some (decide (a=b)):=by
 apply Qm0
 by_cases hl:a.length=b.length
 ·have e:=QCN a b hl (fun i=>Z0 wl (a,b,((a.length:Nat):Int),(i:Int)))
   (fun i h1 h2 hx=>by
     apply Vl
     simp only[Kr,ilt h1,Qk h1,Qk h2,Qg h1,Qg h2,QQ1,hx,decide_false,QQ4])
   (fun i h1 h2 r hx hk=>by
     apply Vl
     simp only[Kr,ilt h1,Qk h1,Qk h2,Qg h1,Qg h2,inc h1 h,QQ1,hx,decide_true,QQ3,QQ2]
     exact hk)
   (by
     apply Vl
     simp only[Kr,Qm,QQ2])
  simp only[QQ6]at e
  simp only[Jp,dt (show((a.length:Nat):Int)=((b.length:Nat):Int) by omega),QQ3,QQ2,e,QQ0]
  by_cases hab:a=b
  ·simp[hab,Qp]
  ·simp[hab,Qp]
 ·have hab:a≠b:=fun h=>hl (by rw[h])
  simp only[Jp,df (show¬((a.length:Nat):Int)=((b.length:Nat):Int) by omega),QQ4,QQ1,hab,decide_false]
def QpO (x:Int):List Int->Bool⊕Unit
 | []=> .inr ()
 |y::l=>if y=x then .inl true else QpO x l
theorem QAe (x:Int):(l:List Int)->Qp (QpO x l) (fun u=>some u) (fun _=>some false)=some (decide (x∈l))
 | []=>by simp[QpO,Qp]
 |y::l=>by
  by_cases h:y=x
  ·simp[QpO,h,Qp]
  ·have:=QAe x l
   have h':¬x=y:=fun e=>h e.symm
   simp only[QpO,h,if_false,this];simp[h']
theorem QzO (a:List Int) (x:Int) (h:a.length<=maxLen):Qc3 w (a,x)=some (decide (x∈a)):=by
 apply Qyl
 have e:=Q7 a.length (fun i=>zl wl (a,x,(i:Int))) (fun i=>QpO x (a.drop i))
  (fun i hi ih=>by
    apply Qjk
    simp only[Qg9,ilt hi,Qk hi,Qg hi,inc hi h,QQ1,ih]
    rw[QRa hi,QpO]
    by_cases hx:a[i]=x
    ·simp only[hx,decide_true,QQ1,if_true]
    ·simp only[hx,decide_false,QQ2,if_false])
  (by
    apply Qjk
    simp only[Qg9,Qm,QQ2,QRl,QpO])
 simp only[QQ6,QRg]at e
 simp only[Qob,e,QQ0,QAe]
theorem QFd (a b:List Int) (h:a.length<=maxLen):QeS w (a,b)=some (decide (a=b)):=by
 apply Qw9
 by_cases hl:a.length=b.length
 ·have e:=QCN a b hl (fun i=>xj wl (a,b,(i:Int)))
   (fun i h1 h2 hx=>by
     apply va
     simp only[jk,ilt h1,Qk h1,Qk h2,Qg h1,Qg h2,QQ1,hx,decide_false,QQ4])
   (fun i h1 h2 r hx hk=>by
     apply va
     simp only[jk,ilt h1,Qk h1,Qk h2,Qg h1,Qg h2,inc h1 h,QQ1,hx,decide_true,QQ3,QQ2]
     exact hk)
   (by
     apply va
     simp only[jk,Qm,QQ2])
  simp only[QQ6]at e
  simp only[QbX,dt (show((a.length:Nat):Int)=((b.length:Nat):Int) by omega),QQ3,QQ2,e,QQ0]
  by_cases hab:a=b
  ·simp[hab,Qp]
  ·simp[hab,Qp]
 ·have hab:a≠b:=fun h=>hl (by rw[h])
  simp only[QbX,df (show¬((a.length:Nat):Int)=((b.length:Nat):Int) by omega),QQ4,QQ1,hab,decide_false]
def xx (n:Int):Int:=bif inR n 0 4 then Int.tmod (crc (QB n)) 4 else -1
theorem Qpy (n:Int):(QB n).length<=maxLen:=by have:=Xn n;simp only[maxLen];omega
theorem QxS (n:Int):vx w n=some (xx n):=by
 apply QwW
 simp only[QlA,Qat,QQ0,xx,Qax,Qzr _ (Qpy n),dt (show(4:Int)≠0 by omega),QQ1]
 cases inR n 0 4<;>simp
theorem QtU (n:Int):vt w n=some (xx n):=by
 apply QvY
 simp only[Qk6,Qas,QQ0,xx,ji,Qxg _ (Qpy n),dt (show(4:Int)≠0 by omega),QQ1]
 cases inR n 0 4<;>simp
def XJ (l:List Int) (n:Int):Bool:=decide (xx n∈l)
def Zc (s:Qi) (l:List Int):Qi:=(s.1.filter fun x=>XJ l x.1,s.2.filter fun x=>XJ l x.1)
theorem ja:(p:Int)->(l:List Qa)->QR p l=true-> -1<=p->(l.length:Int)<=4 - p\/l=[]
 |p,[],_,_=> .inr rfl
 |p,x::l,h,hp=>by
  simp only[QR,QQ5,inR,QRu]at h
  obtain⟨⟨⟨h1,h2⟩,h3⟩,h4⟩:=h
  left
  rcases ja x.1 l h4 (by omega)with h5|h5
  ·simp only[QY8];omega
  ·subst h5;simp;omega
theorem Qsd (fl:List Qa):(p:Int)->(l:List Qd)->Xx fl p l=true-> -1<=p->(l.length:Int)<=4 - p\/l=[]
 |p,[],_,_=> .inr rfl
 |p,x::l,h,hp=>by
  simp only[Xx,QQ5,inR,QRu]at h
  obtain⟨⟨⟨⟨h1,h2⟩,h2'⟩,h3⟩,h4⟩:=h
  left
  rcases Qsd fl x.1 l h4 (by omega)with h5|h5
  ·simp only[QY8];omega
  ·subst h5;simp;omega
theorem Kj {s:Qi}(h:QD s=true):s.1.length<=5/\s.2.length<=5:=by
 simp only[QD,QQ5]at h
 have h1:=ja _ _ h.1 (by omega)
 have h2:=Qsd _ _ _ h.2 (by omega)
 constructor
 ·rcases h2 with h|h
  ·omega
  ·simp[h]
 ·rcases h1 with h|h
  ·omega
  ·simp[h]
theorem QBX (q:List Int) (a:List Qd) (b:List Qa) (hq:q.length<=maxLen) (ha:a.length<=4294967296) (c:List Qa):
 K8 wl (q,a,((a.length:Nat):Int),0,a,b,[],c)=some (q,a,b,a.filter (fun x=>XJ q x.1),c):=by
 have e:=Xe a.length (fun i (o:List Qd)=>K8 wl (q,a,((a.length:Nat):Int),(i:Int),a,b,o,c)) (fun i o=>(q,a,b,o++(a.drop i).filter (fun x=>XJ q x.1),c)) (fun i o=>o.length<=i)
  (fun i hi o ho ih=>by
    apply Qj4
    have ih1:=ih o (by omega)
    have ih2:=ih (o++[a[i]]) (by simp;omega)
    simp only[Qg3,ilt hi,Qk hi,Qg hi,inc hi (show a.length<=maxLen by simp[maxLen];omega),QQ1,QxS,Qr4 q _ hq,QQ0,QY33,Qu (show(o.length+1)*56<=140737488351232 by omega)]
    rw[QRa hi,QY31]
    cases h:XJ q a[i].1
    ·have h':decide (xx a[i].1∈q)=false:=h
     simp only[h',QQ2,QRw,if_false];exact ih1
    ·have h':decide (xx a[i].1∈q)=true:=h
     simp only[h',QQ1,if_true]
     rw[show o++a[i]::List.filter (fun x=>XJ q x.1) (List.drop (i+1) a)=(o++[a[i]])++List.filter (fun x=>XJ q x.1) (List.drop (i+1) a) by simp]
     exact ih2)
  (fun o _=>by
    apply Qj4
    simp[Qg3])
  [] (by simp)
 simpa using e
theorem QCq (q:List Int) (b:List Qa) (hq:q.length<=maxLen) (hb:b.length<=4294967296) (c:List Qd):
 Vc wl (q,b,((b.length:Nat):Int),0,c,[])=some (c,b.filter (fun x=>XJ q x.1)):=by
 have e:=Xe b.length (fun i (o:List Qa)=>Vc wl (q,b,((b.length:Nat):Int),(i:Int),c,o)) (fun i o=>(c,o++(b.drop i).filter (fun x=>XJ q x.1))) (fun i o=>o.length<=i)
  (fun i hi o ho ih=>by
    apply QkG
    have ih1:=ih o (by omega)
    have ih2:=ih (o++[b[i]]) (by simp;omega)
    simp only[QgW,ilt hi,Qk hi,Qg hi,inc hi (show b.length<=maxLen by simp[maxLen];omega),QQ1,QxS,Qr4 q _ hq,QQ0,QY33,Qu (show(o.length+1)*16<=140737488351232 by omega)]
    rw[QRa hi,QY31]
    cases h:XJ q b[i].1
    ·have h':decide (xx b[i].1∈q)=false:=h
     simp only[h',QQ2,QRw,if_false];exact ih1
    ·have h':decide (xx b[i].1∈q)=true:=h
     simp only[h',QQ1,if_true]
     rw[show o++b[i]::List.filter (fun x=>XJ q x.1) (List.drop (i+1) b)=(o++[b[i]])++List.filter (fun x=>XJ q x.1) (List.drop (i+1) b) by simp]
     exact ih2)
  (fun o _=>by
    apply QkG
    simp[QgW])
  [] (by simp)
 simpa using e
theorem QAc (a:List Qd) (b:List Qa) (q:List Int) (hq:q.length<=maxLen) (ha:a.length<=maxLen) (hb:b.length<=maxLen):
 js w (a,b,q)=some (bif QD (a,b)then Zc (a,b) q else([],[])):=by
 apply QyJ
 simp only[QnW,ZA a b ha hb,QQ0]
 cases h:QD (a,b)
 ·simp
 ·have hl:=Kj h
  simp only at hl
  simp only[QQ3,QQ2,QQ1,QBX q a b hq (by omega),QCq q b hq (by omega),QQ0,Zc]
theorem Qzz (q:List Int) (a:List Qd) (b:List Qa) (hq:q.length<=maxLen) (ha:a.length<=4294967296) (c:List Qa):
 YI wl (q,0,a,b,[],c)=some (q,a,b,a.filter (fun x=>XJ q x.1),c):=by
 have e:=Xe a.length (fun i (o:List Qd)=>YI wl (q,(i:Int),a,b,o,c)) (fun i o=>(q,a,b,o++(a.drop i).filter (fun x=>XJ q x.1),c)) (fun i o=>o.length<=i)
  (fun i hi o ho ih=>by
    apply QfV
    have ih1:=ih o (by omega)
    have ih2:=ih (o++[a[i]]) (by simp;omega)
    simp only[Qbv,ilt hi,Qk hi,Qg hi,inc hi (show a.length<=maxLen by simp[maxLen];omega),QQ1,QtU,QzO q _ hq,QQ0,QY33,Qu (show(o.length+1)*56<=140737488351232 by omega)]
    rw[QRa hi,QY31]
    cases h:XJ q a[i].1
    ·have h':decide (xx a[i].1∈q)=false:=h
     simp only[h',QQ2,QRw,if_false];exact ih1
    ·have h':decide (xx a[i].1∈q)=true:=h
     simp only[h',QQ1,if_true]
     rw[show o++a[i]::List.filter (fun x=>XJ q x.1) (List.drop (i+1) a)=(o++[a[i]])++List.filter (fun x=>XJ q x.1) (List.drop (i+1) a) by simp]
     exact ih2)
  (fun o _=>by
    apply QfV
    simp[Qbv])
  [] (by simp)
 simpa using e
theorem QzM (q:List Int) (a:List Qd) (b:List Qa) (hq:q.length<=maxLen) (hb:b.length<=4294967296) (c:List Qd):
 Yy wl (q,0,a,b,c,[])=some (c,b.filter (fun x=>XJ q x.1)):=by
 have e:=Xe b.length (fun i (o:List Qa)=>Yy wl (q,(i:Int),a,b,c,o)) (fun i o=>(c,o++(b.drop i).filter (fun x=>XJ q x.1))) (fun i o=>o.length<=i)
  (fun i hi o ho ih=>by
    apply QfH
    have ih1:=ih o (by omega)
    have ih2:=ih (o++[b[i]]) (by simp;omega)
    simp only[QcQ,ilt hi,Qk hi,Qg hi,inc hi (show b.length<=maxLen by simp[maxLen];omega),QQ1,QtU,QzO q _ hq,QQ0,QY33,Qu (show(o.length+1)*16<=140737488351232 by omega)]
    rw[QRa hi,QY31]
    cases h:XJ q b[i].1
    ·have h':decide (xx b[i].1∈q)=false:=h
     simp only[h',QQ2,QRw,if_false];exact ih1
    ·have h':decide (xx b[i].1∈q)=true:=h
     simp only[h',QQ1,if_true]
     rw[show o++b[i]::List.filter (fun x=>XJ q x.1) (List.drop (i+1) b)=(o++[b[i]])++List.filter (fun x=>XJ q x.1) (List.drop (i+1) b) by simp]
     exact ih2)
  (fun o _=>by
    apply QfH
    simp[QcQ])
  [] (by simp)
 simpa using e
theorem QxR (a:List Qd) (b:List Qa) (q:List Int) (hq:q.length<=maxLen) (ha:a.length<=4294967296) (hb:b.length<=4294967296):
 xq w (a,b,q)=some (Zc (a,b) q):=by
 apply Qvo
 simp only[QkO,Qzz q a b hq ha,QzM q a b hq hb,QQ0,Zc]
theorem QuW:(p p':Int)->(l:List Qa)->p'<=p->QR p l=true->QR p' l=true
 |p,p',[],_,_=>rfl
 |p,p',x::l,hp,h=>by
  simp only[QR,QQ5,QRu]at h⊢
  exact⟨⟨h.1.1,by omega⟩,h.2⟩
theorem QvP (fl:List Qa):(p p':Int)->(l:List Qd)->p'<=p->Xx fl p l=true->Xx fl p' l=true
 |p,p',[],_,_=>rfl
 |p,p',x::l,hp,h=>by
  simp only[Xx,QQ5,QRu]at h⊢
  exact⟨⟨h.1.1,by omega⟩,h.2⟩
theorem Qmd (f:Int->Bool):(p:Int)->(l:List Qa)->QR p l=true->QR p (l.filter fun x=>f x.1)=true
 |p,[],_=>rfl
 |p,x::l,h=>by
  have h':=h
  simp only[QR,QQ5,QRu]at h
  have ih:=Qmd f x.1 l h.2
  rw[QY31]
  cases hf:f x.1
  ·simp only[QRw,if_false];exact QuW _ _ _ (by omega) ih
  ·simp only[if_true,QR,QQ5,QRu]
   exact⟨⟨h.1.1,h.1.2⟩,ih⟩
theorem QnH (f:Int->Bool) (id:Int) (hf:f id=true):(l:List Qa)->Q5 id (l.filter fun x=>f x.1)=Q5 id l
 | []=>rfl
 |x::l=>by
  have ih:=QnH f id hf l
  rw[QY31]
  by_cases hx:x.1=id
  ·rw[hx,hf];simp[Q5,hx]
  ·cases f x.1
   ·simp only[QRw,if_false,Q5,hx];exact ih
   ·simp only[if_true,Q5,hx,if_false];exact ih
theorem Qny (f:Int->Bool) (fl:List Qa):(p:Int)->(l:List Qd)->Xx fl p l=true->Xx (fl.filter fun x=>f x.1) p (l.filter fun x=>f x.1)=true
 |p,[],_=>rfl
 |p,x::l,h=>by
  simp only[Xx,QQ5,QRu]at h
  have ih:=Qny f fl x.1 l h.2
  rw[QY31]
  cases hf:f x.1
  ·simp only[QRw,if_false];exact QvP _ _ _ _ (by omega) ih
  ·simp only[if_true,Xx,QQ5,QRu,QnH f x.1 hf]
   exact⟨⟨h.1.1,h.1.2⟩,ih⟩
theorem Qcm {s:Qi}(q:List Int) (h:QD s=true):QD (Zc s q)=true:=by
 simp only[QD,QQ5]at h⊢
 exact⟨Qmd (XJ q) _ _ h.1,Qny (XJ q) _ _ _ h.2⟩
def Y4 (x:Qd):List Int:=QB x.1++(QB x.2.1++(QB x.2.2.1++(QB x.2.2.2.1++(QB x.2.2.2.2.1++Js x.2.2.2.2.2))))
def VY (x:Qa):List Int:=QB x.1++QB x.2
def stB (s:Qi):List Int:=QB (s.1.length:Nat)++(s.1.flatMap Y4++(QB (s.2.length:Nat)++s.2.flatMap VY))
theorem QgF (x:Qd):(Y4 x).length<=30+ByteArray.size x.2.2.2.2.2:=by
 have h0:=Xn x.1
 have h1:=Xn x.2.1
 have h2:=Xn x.2.2.1
 have h3:=Xn x.2.2.2.1
 have h4:=Xn x.2.2.2.2.1
 have h5:=QrK x.2.2.2.2.2
 simp only[Y4,QRj];omega
theorem Qoy (x:Qa):(VY x).length<=10:=by
 have h0:=Xn x.1
 have h1:=Xn x.2
 simp only[VY,QRj];omega
def smB (s:Qi):Prop:=s.1.length<=1000/\s.2.length<=1000/\∀x∈s.1,ByteArray.size x.2.2.2.2.2<=1000
theorem QpK (fl:List Qa):(p:Int)->(l:List Qd)->Xx fl p l=true->∀x∈l,ByteArray.size x.2.2.2.2.2<=8
 |p,[],_=>by simp
 |p,x::l,h=>by
  simp only[Xx,QQ5]at h
  have h1:=h.1.1.1.2
  simp only[XG,QQ5,QRu]at h1
  intro y hy
  rcases QRk.1 hy with e|e
  ·rw[e];have:=h1.2;omega
  ·exact QpK fl x.1 l h.2 y e
theorem Qo5 {s:Qi}(h:QD s=true):smB s:=by
 have hl:=Kj h
 simp only[QD,QQ5]at h
 exact⟨by omega,by omega,fun x hx=>by have:=QpK _ _ _ h.2 x hx;omega⟩
theorem Qag {α:Type}(f:α->List Int) (n:Nat):(l:List α)->(∀x∈l,(f x).length<=n)->(l.flatMap f).length<=l.length*n
 | [],_=>by simp
 |x::l,h=>by
  have ih:=Qag f n l fun y hy=>h y (by simp[hy])
  have:=h x (by simp)
  simp only[QY22,QRj,QY8,QY20];omega
theorem QC6 {s:Qi}(h:smB s):(stB s).length<=2000000:=by
 have h1:=Qag Y4 1030 s.1 fun x hx=>by have:=QgF x;have:=h.2.2 x hx;omega
 have h2:=Qag VY 10 s.2 fun x _=>Qoy x
 have h3:=Xn (s.1.length:Nat)
 have h4:=Xn (s.2.length:Nat)
 have h5:s.1.length*1030<=1000*1030:=QY14 _ h.1
 have h6:s.2.length*10<=1000*10:=QY14 _ h.2.1
 simp only[stB,QRj];omega
theorem Qyv (a:List Qd) (b:List Qa) (h:smB (a,b)) (o:List Int) (ho:o.length<=10):
 Yd wl (a,((a.length:Nat):Int),0,a,b,o)=some (a,b,o++a.flatMap Y4):=by
 have hl:a.length<=1000:=h.1
 have e:=Xe a.length (fun i (o:List Int)=>Yd wl (a,((a.length:Nat):Int),(i:Int),a,b,o)) (fun i o=>(a,b,o++(a.drop i).flatMap Y4)) (fun i o=>o.length<=10+i*1030)
  (fun i hi o ho ih=>by
    apply QaQ
    have hb:=QgF a[i]
    have hd:=h.2.2 a[i] (QRf hi)
    have ih1:=ih (o++Y4 a[i]) (by rw[QRj];omega)
    have ej: [o,QB a[i].1,QB a[i].2.1,QB a[i].2.2.1,QB a[i].2.2.2.1,QB a[i].2.2.2.2.1,Js a[i].2.2.2.2.2].flatten=o++Y4 a[i]:=by simp[Y4]
    have hj:=QaC [o,QB a[i].1,QB a[i].2.1,QB a[i].2.2.1,QB a[i].2.2.2.1,QB a[i].2.2.2.2.1,Js a[i].2.2.2.2.2] (by simp[maxLen]) (by rw[ej,QRj];omega)
    simp only[yX,ilt hi,Qk hi,Qg hi,inc hi (show a.length<=maxLen by simp[maxLen];omega),QQ1,Qax,QEW _ (show ByteArray.size a[i].2.2.2.2.2<=4294967296 by omega),QQ0,hj,ej,ih1]
    rw[QRa hi,QY22,QRc])
  (fun o _=>by
    apply QaQ
    simp[yX])
  o (by omega)
 simpa using e
theorem Qyi (b:List Qa) (hb:b.length<=1000) (o:List Int) (ho:o.length<=2000000):
 Yi wl (b,((b.length:Nat):Int),0,o)=some (o++b.flatMap VY):=by
 have e:=Xe b.length (fun i (o:List Int)=>Yi wl (b,((b.length:Nat):Int),(i:Int),o)) (fun i o=>o++(b.drop i).flatMap VY) (fun i o=>o.length<=2000000+i*10)
  (fun i hi o ho ih=>by
    apply QaM
    have hb:=Qoy b[i]
    have ih1:=ih (o++VY b[i]) (by rw[QRj];omega)
    have ej: [o,QB b[i].1,QB b[i].2].flatten=o++VY b[i]:=by simp[VY]
    have hj:=QaC [o,QB b[i].1,QB b[i].2] (by simp[maxLen]) (by rw[ej,QRj];omega)
    simp only[yK,ilt hi,Qk hi,Qg hi,inc hi (show b.length<=maxLen by simp[maxLen];omega),QQ1,Qax,QQ0,hj,ej,ih1]
    rw[QRa hi,QY22,QRc])
  (fun o _=>by
    apply QaM
    simp[yK])
  o (by omega)
 simpa using e
theorem QyD (a:List Qd) (b:List Qa) (ha:a.length<=maxLen) (hb:b.length<=maxLen):ym w (a,b)=some (bif QD (a,b)then stB (a,b)else []):=by
 apply QpZ
 simp only[Qdz,ZA a b ha hb,QQ0]
 cases h:QD (a,b)
 ·simp
 ·have hs:=Qo5 h
  have hp:=Xn (a.length:Nat)
  have h1:=Qag Y4 1030 a fun x hx=>by have:=QgF x;have:=hs.2.2 x hx;omega
  have hal:a.length<=1000:=hs.1
  have hbl:b.length<=1000:=hs.2.1
  have h5:a.length*1030<=1000*1030:=QY14 _ hal
  have hp2:=Xn (b.length:Nat)
  have ej: [QB ((a.length:Nat):Int)++a.flatMap Y4,QB ((b.length:Nat):Int)].flatten=QB ((a.length:Nat):Int)++a.flatMap Y4++QB ((b.length:Nat):Int):=by simp
  have hj:=QaC [QB ((a.length:Nat):Int)++a.flatMap Y4,QB ((b.length:Nat):Int)] (by simp[maxLen]) (by rw[ej];simp only[QRj];omega)
  simp only[QQ3,QQ2,QQ1,Qax,QQ0,Qyv a b hs _ (show(QB ((a.length:Nat):Int)).length<=10 by omega),hj,ej,Qyi b hbl _ (show(QB ((a.length:Nat):Int)++a.flatMap Y4++QB ((b.length:Nat):Int)).length<=2000000 by simp only[QRj];omega)]
  simp only[stB,QRc]
theorem QCc (i:Int) (a:List Qd) (b:List Qa) (o:List Int) (p q r s:Int) (t:ByteArray) (l:List Int) (hl:l.length<=5) (ho:o.length<=2000000):
 KP wl (i,0,a,b,o,p,q,r,s,t,l)=some (i,a,b,o++l.flatMap QB,p,q,r,s,t):=by
 have e:=Xe l.length (fun k (o:List Int)=>KP wl (i,(k:Int),a,b,o,p,q,r,s,t,l)) (fun k o=>(i,a,b,o++(l.drop k).flatMap QB,p,q,r,s,t)) (fun k o=>o.length<=2000000+k*5)
  (fun k hk o ho ih=>by
    apply QfP
    have hb:=Xn l[k]
    have ih1:=ih (o++QB l[k]) (by rw[QRj];omega)
    simp only[Qbb,ilt hk,Qk hk,Qg hk,inc hk (show l.length<=maxLen by simp[maxLen];omega),QQ1,ji,QQ0,Qu (show(o.length+(QB l[k]).length)*1<=140737488351232 by omega),ih1]
    rw[QRa hk,QY22,QRc])
  (fun o _=>by
    apply QfP
    simp[Qbb])
  o (by omega)
 simpa using e
theorem QAo (a:List Qd) (b:List Qa) (h:smB (a,b)) (o:List Int) (ho:o.length<=10):
 KY wl (0,a,b,o)=some (a,b,o++a.flatMap Y4):=by
 have hl:a.length<=1000:=h.1
 have e:=Xe a.length (fun i (o:List Int)=>KY wl ((i:Int),a,b,o)) (fun i o=>(a,b,o++(a.drop i).flatMap Y4)) (fun i o=>o.length<=10+i*1030)
  (fun i hi o ho ih=>by
    apply Qgs
    have hb:=QgF a[i]
    have hd:=h.2.2 a[i] (QRf hi)
    have ih1:=ih (o++Y4 a[i]) (by rw[QRj];omega)
    have ej:(o++[a[i].1,a[i].2.1,a[i].2.2.1,a[i].2.2.2.1,a[i].2.2.2.2.1].flatMap QB)++Js a[i].2.2.2.2.2=o++Y4 a[i]:=by simp[Y4]
    have hn:=QCc (i:Int) a b o a[i].2.1 a[i].2.2.1 a[i].2.2.2.1 a[i].2.2.2.2.1 a[i].2.2.2.2.2 [a[i].1,a[i].2.1,a[i].2.2.1,a[i].2.2.2.1,a[i].2.2.2.2.1] (by simp) (by omega)
    have hlen:((o++[a[i].1,a[i].2.1,a[i].2.2.1,a[i].2.2.2.1,a[i].2.2.2.2.1].flatMap QB).length+(Js a[i].2.2.2.2.2).length)*1<=140737488351232:=by
     have:=congrArg List.length ej
     simp only[QRj]at this⊢; omega
    simp only[Qbi,ilt hi,Qk hi,Qg hi,inc hi (show a.length<=maxLen by simp[maxLen];omega),QQ1,hn,QCz _ (show ByteArray.size a[i].2.2.2.2.2<=4294967296 by omega),QQ0,Qu hlen,ej,ih1]
    rw[QRa hi,QY22,QRc])
  (fun o _=>by
    apply Qgs
    simp[Qbi])
  o (by omega)
 simpa using e
theorem Qz4 (a:List Qd) (b:List Qa) (hb:b.length<=1000) (o:List Int) (ho:o.length<=2000000):
 KT wl (0,a,b,o)=some (o++b.flatMap VY):=by
 have e:=Xe b.length (fun i (o:List Int)=>KT wl ((i:Int),a,b,o)) (fun i o=>o++(b.drop i).flatMap VY) (fun i o=>o.length<=2000000+i*10)
  (fun i hi o ho ih=>by
    apply QfU
    have hb:=Qoy b[i]
    have h1:=Xn b[i].1
    have h2:=Xn b[i].2
    have ih1:=ih (o++VY b[i]) (by rw[QRj];omega)
    have ej:o++QB b[i].1++QB b[i].2=o++VY b[i]:=by simp[VY]
    simp only[Qdr,ilt hi,Qk hi,Qg hi,inc hi (show b.length<=maxLen by simp[maxLen];omega),QQ1,ji,QQ0,Qu (show(o.length+(QB b[i].1).length)*1<=140737488351232 by omega),Qu (show((o++QB b[i].1).length+(QB b[i].2).length)*1<=140737488351232 by rw[QRj];omega),ej,ih1]
    rw[QRa hi,QY22,QRc])
  (fun o _=>by
    apply QfU
    simp[Qdr])
  o (by omega)
 simpa using e
theorem QFf (a:List Qd) (b:List Qa) (hs:smB (a,b)):Qa2 w (a,b)=some (stB (a,b)):=by
 apply Qus
 have hp:=Xn (a.length:Nat)
 have h1:=Qag Y4 1030 a fun x hx=>by have:=QgF x;have:=hs.2.2 x hx;omega
 have hal:a.length<=1000:=hs.1
 have hbl:b.length<=1000:=hs.2.1
 have h5:a.length*1030<=1000*1030:=QY14 _ hal
 have hp2:=Xn (b.length:Nat)
 have hlen:((QB ((a.length:Nat):Int)++a.flatMap Y4).length+(QB ((b.length:Nat):Int)).length)*1<=140737488351232:=by simp only[QRj];omega
 simp only[QiR,ji,QQ0,QAo a b hs _ (show(QB ((a.length:Nat):Int)).length<=10 by omega),Qu hlen,QQ1,Qz4 a b hbl _ (show(QB ((a.length:Nat):Int)++a.flatMap Y4++QB ((b.length:Nat):Int)).length<=2000000 by simp only[QRj];omega)]
 simp only[stB,QRc]
def Jt (s:Qi) (k:Int):Int:=bif QD s&&inR k 0 3 then Int.tmod (crc (stB (Zc s [k]))) 1024 else 0
theorem QEG (a:List Qd) (b:List Qa) (k:Int) (ha:a.length<=maxLen) (hb:b.length<=maxLen):QbP w (a,b,k)=some (Jt (a,b) k):=by
 apply QvD
 simp only[QjR,ZA a b ha hb,Xi,QQ0,Jt]
 cases h:QD (a,b)
 ·simp
 ·cases h2:inR k 0 3
  ·simp
  ·have hs:=Qcm [k] h
   have hl:=Kj hs
   have hB:=QC6 (Qo5 hs)
   simp only[QQ3,QQ2,QAc a b [k] (by simp[maxLen]) ha hb,h,QQ1,QQ0,QyD (Zc (a,b) [k]).1 (Zc (a,b) [k]).2 (by simp only[maxLen];omega) (by simp only[maxLen];omega),Bool.and_self]
   simp only[show QD ((Zc (a,b) [k]))=true from hs,QQ1,Qzr (stB ((Zc (a,b) [k]))) (show(stB (Zc (a,b) [k])).length<=maxLen by simp only[maxLen];omega),QQ0,dt (show(1024:Int)≠0 by omega)]
theorem QCy (a:List Qd) (b:List Qa) (k:Int) (ha:a.length<=maxLen) (hb:b.length<=maxLen):Qc6 w (a,b,k)=some (Jt (a,b) k):=by
 apply Qtw
 simp only[Qkc,ZK a b ha hb,XD,QQ0,Jt]
 cases h:QD (a,b)
 ·simp
 ·cases h2:inR k 0 3
  ·simp
  ·have hs:=Qcm [k] h
   have hl:=Kj h
   simp only at hl
   have hB:=QC6 (Qo5 hs)
   simp only[QQ3,QQ2,QxR a b [k] (by simp[maxLen]) (by omega) (by omega),QQ0,QFf (Zc (a,b) [k]).1 (Zc (a,b) [k]).2 (Qo5 hs),QQ1,Bool.and_self,Qxg (stB ((Zc (a,b) [k]))) (show(stB (Zc (a,b) [k])).length<=maxLen by simp only[maxLen];omega),dt (show(1024:Int)≠0 by omega)]
def rootOf (l:List Int):Int:=Int.tmod (crc (l.flatMap QB)) 1024
theorem QFR (l:List Int) (hl:l.length<=4294967296):QeT w l=some (rootOf l):=by
 apply QwQ
 have e:=Xe l.length (fun i (o:List Int)=>xg wl (l,((l.length:Nat):Int),(i:Int),o)) (fun i o=>o++(l.drop i).flatMap QB) (fun i o=>o.length<=i*5)
  (fun i hi o ho ih=>by
    apply QhX
    have hb:=Xn l[i]
    have ih1:=ih (o++QB l[i]) (by rw[QRj];omega)
    have ej: [o,QB l[i]].flatten=o++QB l[i]:=by simp
    have hj:=QaC [o,QB l[i]] (by simp[maxLen]) (by rw[ej,QRj];omega)
    simp only[QdU,ilt hi,Qk hi,Qg hi,inc hi (show l.length<=maxLen by simp[maxLen];omega),QQ1,Qax,QQ0,hj,ej,ih1]
    rw[QRa hi,QY22,QRc])
  (fun o _=>by
    apply QhX
    simp[QdU])
  [] (by simp)
 simp only[QQ6,QRg,QRe]at e
 have hb:=Qag QB 5 l fun x _=>Xn x
 simp only[Qlm,e,QQ0,Qzr (l.flatMap QB) (by simp only[maxLen];omega),dt (show(1024:Int)≠0 by omega),QQ1,rootOf]
theorem QFl (l:List Int) (hl:l.length<=4294967296):Qfa w l=some (rootOf l):=by
 apply QwX
 have e:=Xe l.length (fun i (o:List Int)=>xp wl (l,(i:Int),o)) (fun i o=>o++(l.drop i).flatMap QB) (fun i o=>o.length<=i*5)
  (fun i hi o ho ih=>by
    apply QhP
    have hb:=Xn l[i]
    have ih1:=ih (o++QB l[i]) (by rw[QRj];omega)
    simp only[Qer,ilt hi,Qk hi,Qg hi,inc hi (show l.length<=maxLen by simp[maxLen];omega),QQ1,ji,QQ0,Qu (show(o.length+(QB l[i]).length)*1<=140737488351232 by omega),ih1]
    rw[QRa hi,QY22,QRc])
  (fun o _=>by
    apply QhP
    simp[Qer])
  [] (by simp)
 simp only[QQ6,QRg,QRe]at e
 have hb:=Qag QB 5 l fun x _=>Xn x
 simp only[Qlx,e,QQ0,Qxg (l.flatMap QB) (by simp only[maxLen];omega),dt (show(1024:Int)≠0 by omega),QQ1,rootOf]
def leaves (s:Qi):List Int:=[Jt s 0,Jt s 1,Jt s 2,Jt s 3]
def Za (s:Qi):Zi:=bif QD s then(leaves s,rootOf (leaves s))else([],0)
theorem QDn {i:Nat}(h:i<4):decide ((i:Int)<4)=true:=by simp;omega
theorem Qxy (a:List Qd) (b:List Qa) (ha:a.length<=maxLen) (hb:b.length<=maxLen):zG w (a,b)=some (Za (a,b)):=by
 apply Qxo
 have e:=Xe 4 (fun i (o:List Int)=>VD wl ((i:Int),a,b,o,0)) (fun i o=>(o++(List.range' i (4 - i)).flatMap fun i=>[Jt (a,b) (i:Nat)],(0:Int))) (fun i o=>o.length<=i)
  (fun i hi o ho ih=>by
    apply Qhp
    have ih1:=ih (o++[Jt (a,b) (i:Nat)]) (by simp;omega)
    rw[Z8 hi,<-QRc,<-ih1]
    simp only[Qd2,QDn hi,QQ1,QEG a b _ ha hb,QQ0,QY33,Qu (show(o.length+1)*8<=140737488351232 by omega),QE3 hi])
  (fun o _=>by
    apply Qhp
    simp[Qd2])
  [] (by simp)
 have e:VD wl (0,a,b,[],0)=some (leaves (a,b),0):=e
 simp only[Ql3,ZA a b ha hb,QQ0,Za]
 cases QD (a,b)
 ·simp
 ·simp only[QQ3,QQ2,QQ1,e,QQ0,QFR (leaves (a,b)) (by simp[leaves])]
theorem Quy (a:List Qd) (b:List Qa) (ha:a.length<=maxLen) (hb:b.length<=maxLen):zJ w (a,b)=some (Za (a,b)):=by
 apply Qwo
 have e:=Xe 4 (fun i (o:List Int)=>Vz wl ((i:Int),a,b,o,0)) (fun i o=>(o++(List.range' i (4 - i)).flatMap fun i=>[Jt (a,b) (i:Nat)],(0:Int))) (fun i o=>o.length<=i)
  (fun i hi o ho ih=>by
    apply QhJ
    have ih1:=ih (o++[Jt (a,b) (i:Nat)]) (by simp;omega)
    rw[Z8 hi,<-QRc,<-ih1]
    simp only[Qej,QDn hi,QQ1,QCy a b _ ha hb,QQ0,QY33,Qu (show(o.length+1)*8<=140737488351232 by omega),QE3 hi])
  (fun o _=>by
    apply QhJ
    simp[Qej])
  [] (by simp)
 have e:Vz wl (0,a,b,[],0)=some (leaves (a,b),0):=e
 simp only[QmL,ZK a b ha hb,QQ0,Za]
 cases QD (a,b)
 ·simp
 ·simp only[QQ3,QQ2,QQ1,e,QQ0,QFl (leaves (a,b)) (by simp[leaves])]
def Zj (g:Zv):Bool:=inR g.1 1 8&&decide (((g.2.2.length:Nat):Int)<=g.1)&&inR g.2.1 0 100000&&decide (g.2.1+((g.2.2.length:Nat):Int)<=100000)&&g.2.2.all QD
theorem ZV {α:Type}{R:Type}(p:α->Bool) (l:List α) (x y:R) {i:Nat}(hi:i<l.length):(if(l.drop i).all p then x else y)=(bif p l[i]then(if(l.drop (i+1)).all p then x else y)else y):=by
 rw[QRa hi,QY25]
 cases p l[i]<;>simp
theorem Qwr {α:Type}{R:Type}(p:α->Bool) (l:List α) (x y:R):(if(l.drop l.length).all p then x else y)=x:=by simp
theorem Qei (a b:Int) (l:List Qi) (hl:l.length<=maxLen) (hs:∀s∈l,s.1.length<=maxLen/\s.2.length<=maxLen):YB w (a,b,l)=some (Zj (a,b,l)):=by
 apply QyG
 have e:=Q7 l.length (fun i=>zk wl (l,((l.length:Nat):Int),(i:Int),a,b,l)) (fun i=>if(l.drop i).all QD then .inr (a,b,l)else .inl false)
  (fun i hi ih=>by
    apply QkP
    have hx:=hs _ (QRf hi)
    rw[ZV QD l _ _ hi]
    simp only[Qg4,ilt hi,Qk hi,Qg hi,inc hi hl,QQ1,ZA _ _ hx.1 hx.2,QQ0,ih]
    cases QD l[i]<;>simp)
  (by
    apply QkP
    simp[Qg4])
 simp only[QQ6,QRg]at e
 simp only[Qng,e,QQ0,Xi,Zj]
 cases l.all QD
 ·simp[Qp]
 ·simp only[if_true,Qp,QY0,QRn]
  cases h1:inR a 1 8
  ·simp
  ·by_cases h2:((l.length:Nat):Int)<=a
   ·cases h3:inR b 0 100000
    ·simp
    ·simp[inR]at h1 h3
     rw[w64 (by omega) (by omega)]
     simp[h2]
   ·simp[h2]
theorem Qmf (a b:Int) (l:List Qi) (hl:l.length<=maxLen) (hs:∀s∈l,s.1.length<=maxLen/\s.2.length<=maxLen):Vr w (a,b,l)=some (Zj (a,b,l)):=by
 apply Qyz
 have e:=Q7 l.length (fun i=>zp wl ((i:Int),a,b,l)) (fun i=>if(l.drop i).all QD then .inr ()else .inl false)
  (fun i hi ih=>by
    apply Qku
    have hx:=hs _ (QRf hi)
    rw[ZV QD l _ _ hi]
    simp only[Qha,ilt hi,Qk hi,Qg hi,inc hi hl,QQ1,ZK _ _ hx.1 hx.2,QQ0,ih]
    cases QD l[i]<;>simp)
  (by
    apply Qku
    simp[Qha])
 simp only[QQ6,QRg]at e
 simp only[Qne,e,QQ0,XD,Zj]
 cases h1:inR a 1 8
 ·simp
 ·by_cases h2:((l.length:Nat):Int)<=a
  ·cases h3:inR b 0 100000
   ·simp[h2]
   ·simp[inR]at h1 h3
    rw[w64 (by omega) (by omega)]
    by_cases h4:b+((l.length:Nat):Int)<=100000
    ·simp only[QQ3,QQ2,df (show¬a<((l.length:Nat):Int) by omega),df (show¬100000<b+((l.length:Nat):Int) by omega),dt h2,dt h4,QRd,QRn]
     cases l.all QD<;>simp[Qp]
    ·simp only[QQ3,QQ2,df (show¬a<((l.length:Nat):Int) by omega),dt (show 100000<b+((l.length:Nat):Int) by omega),df h4,QQ1,QY9,QRm]
  ·simp only[QQ3,QQ2,dt (show a<((l.length:Nat):Int) by omega),QQ1,df h2,QY9,QRm]
def Xf (g:Zv):Int:=bif Zj g then g.2.1+((g.2.2.length:Nat):Int)else 0
theorem Qia {g:Zv}(h:Zj g=true):g.2.2.length<=8/\0<=g.2.1/\g.2.1<=100000/\g.2.1+((g.2.2.length:Nat):Int)<=100000:=by
 simp[Zj,inR]at h;omega
theorem Qmu (a b:Int) (l:List Qi) (hl:l.length<=maxLen) (hs:∀s∈l,s.1.length<=maxLen/\s.2.length<=maxLen):Vx w (a,b,l)=some (Xf (a,b,l)):=by
 apply Qwt
 simp only[QlS,Qei a b l hl hs,QQ0,Xf]
 cases h:Zj (a,b,l)
 ·simp
 ·have:=Qia h
  simp only at this
  rw[w64 (by omega) (by omega)];simp
theorem Qii (a b:Int) (l:List Qi) (hl:l.length<=maxLen) (hs:∀s∈l,s.1.length<=maxLen/\s.2.length<=maxLen):qx w (a,b,l)=some (Xf (a,b,l)):=by
 apply QvU
 simp only[Ql4,Qmf a b l hl hs,QQ0,Xf]
 cases h:Zj (a,b,l)
 ·simp
 ·have:=Qia h
  simp only at this
  rw[w64 (by omega) (by omega)];simp
def Ym (v:List Int) (n:Int):Bool:=inR n 1 5&&decide (((v.length:Nat):Int)=n)&&v.all fun x=>inR x 0 100000
theorem Qz3 (v:List Int) (n:Int) (hv:v.length<=maxLen):QbO w (v,n)=some (Ym v n):=by
 apply QyN
 have e:=Q7 v.length (fun i=>zw wl (v,n,v,((v.length:Nat):Int),(i:Int))) (fun i=>if(v.drop i).all (fun x=>inR x 0 100000)then .inr (v,n)else .inl false)
  (fun i hi ih=>by
    apply Qky
    rw[ZV (fun x=>inR x 0 100000) v _ _ hi]
    simp only[Qg6,ilt hi,Qk hi,Qg hi,inc hi hv,QQ1,Xi,QQ0,ih]
    cases inR v[i] 0 100000<;>simp)
  (by
    apply Qky
    simp[Qg6])
 simp only[QQ6,QRg]at e
 simp only[QnD,e,QQ0,Xi,Ym]
 cases v.all fun x=>inR x 0 100000
 ·simp[Qp]
 ·simp only[if_true,Qp,QY0,QRn]
  cases inR n 1 5<;>simp
theorem Qyf (v:List Int) (n:Int) (hv:v.length<=maxLen):Qb7 w (v,n)=some (Ym v n):=by
 apply Qys
 by_cases h2:((v.length:Nat):Int)=n
 ·subst h2
  have e:=Q7 v.length (fun i=>zu wl (v,((v.length:Nat):Int),(i:Int))) (fun i=>if(v.drop i).all (fun x=>inR x 0 100000)then .inr ()else .inl false)
   (fun i hi ih=>by
     apply Qj2
     rw[ZV (fun x=>inR x 0 100000) v _ _ hi]
     simp only[QgY,ilt hi,Qk hi,Qg hi,inc hi hv,QQ1,XD,QQ0,ih]
     cases inR v[i] 0 100000<;>simp)
   (by
     apply Qj2
     simp[QgY])
  simp only[QQ6,QRg]at e
  simp only[QdS,e,QQ0,XD,Ym]
  cases inR ((v.length:Nat):Int) 1 5
  ·simp
  ·cases v.all fun x=>inR x 0 100000<;>simp[Qp]
 ·simp only[QdS,XD,QQ0,Ym,df h2]
  cases inR n 1 5<;>simp
def x0 (r:List Int):Bool:=(r.all fun x=>inR x 0 1000)&&decide (((r.length:Nat):Int)=5)
def K2 (t:List (List Int)) (n:Int):Bool:=inR n 1 5&&decide (((t.length:Nat):Int)=n)&&t.all x0
theorem QEf (t:List (List Int)) (n:Int) (ht:t.length<=maxLen) (hr:∀r∈t,r.length<=maxLen):Qcn w (t,n)=some (K2 t n):=by
 apply Qvu
 have inner:∀(i:Int) (r:List Int),r.length<=maxLen->K0 wl (t,n,r,t,((t.length:Nat):Int),i,r,((r.length:Nat):Int),0)=some (if r.all (fun x=>inR x 0 1000)then .inr (t,n,r,t,((t.length:Nat):Int),i)else .inl false):=by
  intro i r hr
  have e:=Q7 r.length (fun k=>K0 wl (t,n,r,t,((t.length:Nat):Int),i,r,((r.length:Nat):Int),(k:Int))) (fun k=>if(r.drop k).all (fun x=>inR x 0 1000)then .inr (t,n,r,t,((t.length:Nat):Int),i)else .inl false)
   (fun k hk ih=>by
     apply Qgk
     rw[ZV (fun x=>inR x 0 1000) r _ _ hk]
     simp only[QbS,ilt hk,Qk hk,Qg hk,inc hk hr,QQ1,Xi,QQ0,ih]
     cases inR r[k] 0 1000<;>simp)
   (by
     apply Qgk
     simp[QbS])
  simpa using e
 have e:=Q7 t.length (fun i=>J1 wl (t,n,t,((t.length:Nat):Int),(i:Int))) (fun i=>if(t.drop i).all x0 then .inr (t,n)else .inl false)
  (fun i hi ih=>by
    apply Qgv
    rw[ZV x0 t _ _ hi]
    have hx:=hr _ (QRf hi)
    simp only[QbF,ilt hi,Qk hi,Qg hi,QQ1,inner _ _ hx,QQ0,x0]
    cases t[i].all fun x=>inR x 0 1000
    ·simp[Qp]
    ·simp only[if_true,Qp,QY0,QRd,inc hi ht,ih]
     cases decide (((t[i].length:Nat):Int)=5)<;>simp)
  (by
    apply Qgv
    simp[QbF])
 simp only[QQ6,QRg]at e
 simp only[Qjg,e,QQ0,Xi,K2]
 cases t.all x0
 ·simp[Qp]
 ·simp only[if_true,Qp,QY0,QRn]
  cases inR n 1 5<;>simp
theorem QBT (t:List (List Int)) (n:Int) (ht:t.length<=maxLen) (hr:∀r∈t,r.length<=maxLen):QbV w (t,n)=some (K2 t n):=by
 apply QtI
 by_cases h2:((t.length:Nat):Int)=n
 ·subst h2
  have inner:∀(i:Nat) (hi:i<t.length),K4 wl (t,((t.length:Nat):Int),(i:Int),0)=some (if t[i].all (fun x=>inR x 0 1000)then .inr (t,((t.length:Nat):Int),(i:Int))else .inl false):=by
   intro i hi
   have hx:=hr _ (QRf hi)
   have e:=Q7 t[i].length (fun k=>K4 wl (t,((t.length:Nat):Int),(i:Int),(k:Int))) (fun k=>if(t[i].drop k).all (fun x=>inR x 0 1000)then .inr (t,((t.length:Nat):Int),(i:Int))else .inl false)
    (fun k hk ih=>by
      apply Qgz
      rw[ZV (fun x=>inR x 0 1000) t[i] _ _ hk]
      simp only[Qcr,Qk hi,Qg hi,ilt hk,Qk hk,Qg hk,inc hk hx,QQ1,XD,QQ0,ih]
      cases inR t[i][k] 0 1000<;>simp)
    (by
      apply Qgz
      simp only[Qcr,Qk hi,Qg hi,Qm,QQ1,QQ2,Qwr])
   simpa using e
  have e:=Q7 t.length (fun i=>JG wl (t,((t.length:Nat):Int),(i:Int))) (fun i=>if(t.drop i).all x0 then .inr ()else .inl false)
   (fun i hi ih=>by
     apply QfC
     rw[ZV x0 t _ _ hi]
     simp only[Qcc,ilt hi,Qk hi,Qg hi,QQ1,inner i hi,QQ0,x0]
     cases h5:decide (((t[i].length:Nat):Int)=5)
     ·simp
     ·cases t[i].all fun x=>inR x 0 1000
      ·simp[Qp]
      ·simp only[if_true,Qp,QY0,QRd,QQ3,QQ2,QQ1,inc hi ht,ih])
   (by
     apply QfC
     simp[Qcc])
  simp only[QQ6,QRg]at e
  simp only[Qae,e,QQ0,XD,K2]
  cases inR ((t.length:Nat):Int) 1 5
  ·simp
  ·cases t.all x0<;>simp[Qp]
 ·simp only[Qae,XD,QQ0,K2,df h2]
  cases inR n 1 5<;>simp
def QkC:Int->List Int->Int
 |m,[]=>m
 |m,x::l=>QkC (mxI m x) l
theorem QC5 (b:Int):(m:Int)->(l:List Int)->(decide (b<QkC m l)= !(decide (m<=b)&&l.all fun x=>decide (x<=b)))
 |m,[]=>by
  by_cases h:m<=b
  ·rw[QkC,dt h,df (show¬b<m by omega)];simp
  ·rw[QkC,df h,dt (show b<m by omega)];simp
 |m,x::l=>by
  rw[QkC,QC5 b (mxI m x) l,QY25]
  have:decide (mxI m x<=b)=(decide (m<=b)&&decide (x<=b)):=by
   unfold mxI
   split
   ·by_cases h:x<=b
    ·simp[h];omega
    ·simp[h]
   ·by_cases h:m<=b
    ·simp[h];omega
    ·simp[h]
  rw[this,Bool.and_assoc]
theorem QJR (a:Int) (l:List Int) (h:(a::l).length<=maxLen):Vg w (a::l)=some (QkC a l):=by
 apply QoR
 have main:∀n i (m:Int),1<=i->i+n=(a::l).length->ZN wl (a::l,m,(i:Int))=some (QkC m ((a::l).drop i)):=by
  intro n
  induction n with
  |zero=>
   intro i m h1 hi
   apply jQ
   have:i=(a::l).length:=by omega
   rw[this]
   simp only[xX,Qm,QQ2,QRl,QkC]
  |succ n ih=>
   intro i m h1 hi
   have hi':i<(a::l).length:=by omega
   apply jQ
   simp only[xX,ilt hi',Qk hi',Qg hi',inc hi' h,QQ1,ih (i+1) _ (by omega) (by omega)]
   rw[QRa hi',QkC]
 have e:=main l.length 1 a (by omega) (by simp;omega)
 simp only[List.drop_succ_cons,QRg]at e
 have h0:0<(a::l).length:=by simp
 have e0:inb 0 (a::l).length=true:=Qk h0
 have e1:rd1 (0:Int) (a::l) 0=a:=rfl
 have e:ZN wl (a::l,a,1)=some (QkC a l):=e
 simp only[QaF,df (show¬(((a::l).length:Nat):Int)<1 by simp;omega),QQ2,e0,QQ1,e1,e,QQ0]
end Go.Proofs.YtiejfnbmficbmaaGreat.M
