/- What the plain forms that FnExactIslands reaches come to: PEntry. No conditions but those that each theorem states. -/
import Derived.Test.YtiejfnbmficbmaaGreatFnExactIslandsPFam
import Derived.Lib.Bytealg
set_option linter.all false
namespace Go.Proofs.YtiejfnbmficbmaaGreat.M
open Go Go.Eng Go.Proofs
set_option linter.unusedVariables false
def Y2 (a b:Int):Int:=if a<b then -1 else if b<a then 1 else 0
def Qr2 (a b:ByteArray):Int:=Go.Lib.compareBytes a.data.toList b.data.toList
def or5 (a b c d e:Int):Int:=if a≠0 then a else if b≠0 then b else if c≠0 then c else if d≠0 then d else e
def K8 (x y:XM):Int:=or5 (Y2 x.1 y.1) (Y2 x.2.1 y.2.1) (Y2 x.2.2.1 y.2.2.1) (Y2 x.2.2.2.1 y.2.2.2.1) (Qr2 x.2.2.2.2 y.2.2.2.2)
def VR (x y:XM):XM:=if K8 x y<0 then y else x
theorem QoY:(a b:List UInt8)->Op.bytesLess a b=decide (Go.Lib.compareBytes a b= -1)/\(Go.Lib.compareBytes a b=0↔a=b)/\(Go.Lib.compareBytes a b= -1\/Go.Lib.compareBytes a b=0\/Go.Lib.compareBytes a b=1)
 | [],[]=>by simp[Op.bytesLess,Go.Lib.compareBytes]
 | [],_::_=>by simp[Op.bytesLess,Go.Lib.compareBytes]
 |_::_,[]=>by simp[Op.bytesLess,Go.Lib.compareBytes]
 |a::l,b::m=>by
  have ih:=QoY l m
  by_cases h:a<b
  ·have hne:a≠b:=fun e=>by subst e;exact UInt8.lt_irrefl _ h
   simp[Op.bytesLess,Go.Lib.compareBytes,h,hne]
  ·by_cases h2:b<a
   ·have hne:a≠b:=fun e=>by subst e;exact UInt8.lt_irrefl _ h2
    simp[Op.bytesLess,Go.Lib.compareBytes,h,h2,hne]
   ·have he:a=b:=UInt8.le_antisymm (UInt8.not_lt.1 h2) (UInt8.not_lt.1 h)
    subst he
    simp only[Op.bytesLess,Go.Lib.compareBytes,h,if_false]
    simpa using ih
theorem QFE (a:Int):QfC w a=some false:=by
 apply Qy8
 simp[Qpe]
theorem QD1 (a b:Int):ql w (a,b)=some (Y2 a b):=by
 apply Qwz
 simp only[Qmm,QFE,QQ0,QQ2,Y2]
 by_cases h:a<b
 ·simp[h]
 ·by_cases h2:b<a
  ·simp[h,h2]
  ·simp[h,h2]
theorem Qr6 (a b:ByteArray):Zn w (a,b)=some (Qr2 a b):=by
 apply vt
 rfl
theorem QxR (a b:ByteArray):zR w (a,b)=some (Qr2 a b):=by
 apply QpH
 simp only[Qdt,Qr6,QQ0]
def orL:List Int->Int
 | []=>0
 |x::l=>if x=0 then orL l else x
def orR:List Int->Int⊕Int
 | []=> .inr 0
 |x::l=>if x=0 then orR l else .inl x
theorem QCl:(l:List Int)->Qp (orR l) (fun u=>some u) (fun z=>some z)=some (orL l)
 | []=>rfl
 |x::l=>by
  have ih:=QCl l
  by_cases h:x=0
  ·simp only[orR,orL,h,if_true];exact ih
  ·simp only[orR,orL,h,if_false,Qp,Sum.elim_inl]
theorem QJv (a:List Int) (h:a.length<=maxLen):Qub w a=some (orL a):=by
 apply QFr
 have e:=Q5 a.length (fun i=>Qgj wl (0,a,((a.length:Nat):Int),(i:Int))) (fun i=>orR (a.drop i))
  (fun i hi ih=>by
    apply Qp9
    simp only[QpQ,ilt hi,Qj hi,Qf hi,inc hi h,QQ1,ih]
    rw[QRa hi,orR]
    by_cases hx:a[i]=0
    ·simp only[hx,decide_true,QQ3,QQ2,if_true]
    ·simp only[hx,decide_false,QQ4,QQ1,if_false])
  (by
    apply Qp9
    simp only[QpQ,Qo,QQ2,QRl,orR])
 simp only[QQ6,QRg]at e
 simp only[Qu1,e,QQ0,QCl]
theorem QH7 (a b c d e:Int):orL [a,b,c,d,e]=or5 a b c d e:=by
 simp only[orL,or5]
 by_cases h1:a=0<;>by_cases h2:b=0<;>by_cases h3:c=0<;>by_cases h4:d=0<;>by_cases h5:e=0<;>simp[h1,h2,h3,h4,h5]
theorem QBH (a b c d:Int) (s:ByteArray) (a' b' c' d':Int) (s':ByteArray):vH w (a,b,c,d,s,a',b',c',d',s')=some (K8 (a,b,c,d,s) (a',b',c',d',s')):=by
 apply Qsm
 simp only[Qhw,QD1,QxR,QQ0,QJv _ (show List.length [Y2 a a',Y2 b b',Y2 c c',Y2 d d',Qr2 s s']<=maxLen by simp[maxLen]),QH7,K8]
theorem QA4 (a b c d:Int) (s:ByteArray) (a' b' c' d':Int) (s':ByteArray):vI w (a,b,c,d,s,a',b',c',d',s')=some (VR (a,b,c,d,s) (a',b',c',d',s')):=by
 apply Qsz
 simp only[Qhp,QBH,QQ0,VR]
 by_cases h:K8 (a,b,c,d,s) (a',b',c',d',s')<0
 ·rw[dt h,QQ1,if_pos h]
 ·rw[df h,QQ2,if_neg h]
theorem QzK (b:Bool):Qc9 w b=some (if b then 1 else 0):=by
 apply QxI
 cases b<;>rfl
theorem QGN (a b:Int):xP w (a,b)=some (Y2 a b):=by
 apply QxW
 simp only[Qnk,QzK,QQ0,Y2]
 by_cases h:a<b
 ·simp[h]
 ·by_cases h2:b<a
  ·simp[h,h2]
  ·simp[h,h2]
theorem QLu (a b:ByteArray):(bif Op.bytesLess a.toList b.toList then some (-1)else some (if(!(Op.bytesLess a.toList b.toList||V1 a b))=true then(1:Int)else 0))=some (Qr2 a b):=by
 rw[toList_data,toList_data,QB1]
 obtain⟨h1,h2,h3⟩:=QoY a.data.toList b.data.toList
 have h4:a=b↔a.data.toList=b.data.toList:=by
  constructor
  ·intro h;rw[h]
  ·intro h
   cases a;cases b
   exact congrArg ByteArray.mk (Array.toList_inj.1 h)
 rw[h1]
 unfold Qr2
 by_cases hl:Go.Lib.compareBytes a.data.toList b.data.toList= -1
 ·simp[hl]
 ·by_cases hz:Go.Lib.compareBytes a.data.toList b.data.toList=0
  ·have:a=b:=h4.2 (h2.1 hz)
   subst this
   simp[hz]
  ·have:a≠b:=fun h=>hz (h2.2 (h4.1 h))
   have h1':Go.Lib.compareBytes a.data.toList b.data.toList=1:=by omega
   simp[h1',this]
theorem Qy5 (a b c d:Int) (s:ByteArray) (a' b' c' d':Int) (s':ByteArray):KY w (a,b,c,d,s,a',b',c',d',s')=some (K8 (a,b,c,d,s) (a',b',c',d',s')):=by
 apply QsI
 have hlen:∀l:List Int,l.length=4->YX wl (0,a,b,c,d,s,a',b',c',d',s',l)=some (match orR l with| .inl x=> .inl x| .inr _=> .inr (a,b,c,d,s,a',b',c',d',s')):=by
  intro l hl
  have e:=Q5 l.length (fun i=>YX wl ((i:Int),a,b,c,d,s,a',b',c',d',s',l)) (fun i=>match orR (l.drop i)with| .inl x=> .inl x| .inr _=> .inr (a,b,c,d,s,a',b',c',d',s'))
   (fun i hi ih=>by
     apply Qdy
     simp only[v8,ilt hi,Qj hi,Qf hi,inc hi (show l.length<=maxLen by simp[maxLen];omega),QQ1,ih]
     rw[QRa hi,orR]
     by_cases hx:l[i]=0
     ·simp only[hx,decide_true,QQ3,QQ2,if_true]
     ·simp only[hx,decide_false,QQ4,QQ1,if_false])
   (by
     apply Qdy
     simp only[v8,Qo,QQ2,QRl,orR])
  simpa using e
 simp only[Qhj,QGN,QzK,QQ0,hlen _ (show List.length [Y2 a a',Y2 b b',Y2 c c',Y2 d d']=4 from rfl),K8,or5,orR]
 by_cases h1:Y2 a a'=0
 ·by_cases h2:Y2 b b'=0
  ·by_cases h3:Y2 c c'=0
   ·by_cases h4:Y2 d d'=0
    ·simp only[h1,h2,h3,h4,if_true,Qp,QY0,ne_eq,not_true_eq_false,if_false]
     exact QLu s s'
    ·simp[h1,h2,h3,h4,Qp]
   ·simp[h1,h2,h3,Qp]
  ·simp[h1,h2,Qp]
 ·simp[h1,Qp]
def QpC (n:Int):Int:=IntKind.wrap .u8 (wR (Int.tmod n 128+128))
def zG:Nat->Int->List Int->Int×List Int
 |0,n,o=>(n,o)
 |f+1,n,o=>if 128<=n then zG f (Int.tdiv n 128) (o++[QpC n])else(n,o)
def QA (n:Int):List Int:=bif inR n 0 2147483647 then(zG 4 n []).2++[IntKind.wrap .u8 (zG 4 n []).1]else []
theorem Qoz:(f:Nat)->(n:Int)->(o:List Int)->(zG f n o).2.length<=o.length+f
 |0,n,o=>by simp[zG]
 |f+1,n,o=>by
  simp only[zG]
  split
  ·have:=Qoz f (Int.tdiv n 128) (o++[QpC n])
   simp only[QRj,QY34]at this;omega
  ·simp
theorem Xj (n:Int):(QA n).length<=5:=by
 unfold QA
 have:=Qoz 4 n []
 cases inR n 0 2147483647
 ·simp
 ·simp only[QQ1,QRj,QY34];simp at this;omega
theorem QBf:(f:Nat)->(n:Int)->(o:List Int)->0<=n->n<128^(f+1)->n<=2147483647->o.length+f<=1000->xA wl (n,o)=some (zG f n o):=by
 intro f
 induction f with
 |zero=>
  intro n o h0 h1 h2 h3
  apply Qhg
  simp only[yY,df (show¬128<=n by omega),QQ2,zG]
 |succ f ih=>
  intro n o h0 h1 h2 h3
  apply Qhg
  by_cases h:128<=n
  ·have hd:=Int.tdiv_eq_ediv_of_nonneg (b:=128) h0
   have:=ih (Int.tdiv n 128) (o++[QpC n]) (by omega) (by rw[Int.pow_succ]at h1;omega) (by omega) (by simp;omega)
   simp only[QpC]at this
   simp only[yY,dt h,QQ1,dt (show(128:Int)≠0 by omega),Qw (show(o.length+List.length [IntKind.wrap .u8 (wR (Int.tmod n 128+128))])*1<=140737488351232 by simp;omega),zG,h,if_true,QpC]
   rw[w64 (n:=Int.tdiv n 128) (by omega) (by omega)]
   exact this
  ·simp only[yY,df h,QQ2,zG,h,decide_false,if_false]
theorem QyN:(f:Nat)->(n:Int)->(o:List Int)->0<=n->n<128^(f+1)->n<=2147483647->o.length+f<=1000->xd wl (n,o)=some (zG f n o):=by
 intro f
 induction f with
 |zero=>
  intro n o h0 h1 h2 h3
  apply Qha
  simp only[ja,df (show¬127<n by omega),QQ2,zG]
 |succ f ih=>
  intro n o h0 h1 h2 h3
  apply Qha
  by_cases h:128<=n
  ·have hd:=Int.tdiv_eq_ediv_of_nonneg (b:=128) h0
   have:=ih (Int.tdiv n 128) (o++[QpC n]) (by omega) (by rw[Int.pow_succ]at h1;omega) (by omega) (by simp;omega)
   simp only[QpC]at this
   simp only[ja,dt (show 127<n by omega),QQ1,dt (show(128:Int)≠0 by omega),Qw (show(o.length+List.length [IntKind.wrap .u8 (wR (Int.tmod n 128+128))])*1<=140737488351232 by simp;omega),zG,h,if_true,QpC]
   rw[w64 (n:=Int.tdiv n 128) (by omega) (by omega)]
   exact this
  ·simp only[ja,df (show¬127<n by omega),QQ2,zG,h,decide_false,if_false]
theorem Qau (n:Int):XN w n=some (QA n):=by
 apply QvS
 simp only[Qmo,Xi,QQ0,QA]
 cases h:inR n 0 2147483647
 ·simp
 ·simp[inR]at h
  have hl:=Qoz 4 n []
  simp only[QY9]at hl
  simp only[QQ3,QQ2,QBf 4 n [] h.1 (by omega) h.2 (by simp),QQ0,QQ1,Qw (show((zG 4 n []).2.length+List.length [IntKind.wrap .u8 (zG 4 n []).1])*1<=140737488351232 by simp;omega)]
theorem jk (n:Int):ZK w n=some (QA n):=by
 apply Qvb
 simp only[QlR,Xx,QQ0,QA]
 cases h:inR n 0 2147483647
 ·simp
 ·simp[inR]at h
  have hl:=Qoz 4 n []
  simp only[QY9]at hl
  simp only[QQ3,QQ2,QyN 4 n [] h.1 (by omega) h.2 (by simp),QQ0,QQ1,Qw (show((zG 4 n []).2.length+List.length [IntKind.wrap .u8 (zG 4 n []).1])*1<=140737488351232 by simp;omega)]
theorem Qax (l:List (List Int)) (hl:l.length<=maxLen) (hf:l.flatten.length<=1099511627776):Kj w l=some l.flatten:=by
 apply Qwt
 have e:=Xd l.length (fun i (o:List Int)=>qW wl (l,((l.length:Nat):Int),(i:Int),o)) (fun i o=>o++(l.drop i).flatten) (fun i o=>o.length+(l.drop i).flatten.length<=1099511627776)
  (fun i hi o ho ih=>by
    apply Qhn
    rw[QRa hi,QRr,QRj]at ho
    have:=ih (o++l[i]) (by rw[QRj];omega)
    simp only[QdN,ilt hi,Qj hi,Qf hi,inc hi hl,QQ1,Qw (show(o.length+l[i].length)*1<=140737488351232 by omega),this]
    rw[QRa hi,QRr,QRc])
  (fun o _=>by
    apply Qhn
    simp[QdN,Qo])
  [] (by simpa using hf)
 simp only[QQ6,QRg,QRe]at e
 simp only[Qk0,e,QQ0]
theorem Qru (s:ByteArray):(ofBytes s).length=s.size:=by
 show(s.data.toList.map _).length=s.data.size
 rw[List.length_map,Array.length_toList]
def Jf (s:ByteArray):List Int:=QA (s.size:Nat)++ofBytes s
theorem QrA (s:ByteArray):(Jf s).length<=5+s.size:=by
 have:=Xj (s.size:Nat)
 simp only[Jf,QRj,Qru];omega
theorem QDF (s:ByteArray) (h:s.size<=4294967296):QcQ w s=some (Jf s):=by
 apply Quw
 have:=Xj (s.size:Nat)
 have e: [QA (s.size:Nat),ofBytes s].flatten=Jf s:=by simp[Jf]
 simp only[Qjv,Qau,QQ0,Qax [QA ((s.size:Nat):Int),ofBytes s] (by simp[maxLen]) (by rw[e];have:=QrA s;omega),e]
theorem QBi (s:ByteArray) (h:s.size<=4294967296):Qc3 w s=some (Jf s):=by
 apply QtP
 have:=Xj (s.size:Nat)
 simp only[Qjp,jk,QQ0,Qw (show((QA ((s.size:Nat):Int)).length+(ofBytes s).length)*1<=140737488351232 by rw[Qru];omega),QQ1,Jf]
def Qnj (x:Int):Int:=if Int.tmod x 2=1 then bits .xor .i64 (wR (Int.tdiv x 2)) 3988292384 else wR (Int.tdiv x 2)
def Qdg:Nat->Int->Int
 |0,x=>x
 |n+1,x=>Qdg n (Qnj x)
def Qzt (s b:Int):Int:=Qdg 8 (bits .xor .i64 s (wR b))
theorem QCu (s b:Int):Qzt s b=Qdg 8 (bits .xor .i64 s (wR b)):=by unfold Qzt;exact Eq.refl _
def crc (l:List Int):Int:=bits .xor .i64 (l.foldl Qzt 4294967295) 4294967295
theorem QIW {i:Nat}(h:i<8):decide ((i:Int)<8)=true:=by simp;omega
theorem QC0 {i n:Nat}(h:i<n) (hn:n<=1000:=by omega):wR ((i:Int)+1)=((i+1:Nat):Int):=by
 rw[w64 (by omega) (by omega)];omega
theorem QE5 (b:List Int) (n i x:Int):qA wl (x,b,n,i,0)=some (Qdg 8 x,b,n,i):=by
 have e:=Xd 8 (fun k (x:Int)=>qA wl (x,b,n,i,(k:Int))) (fun k x=>(Qdg (8 - k) x,b,n,i)) (fun _ _=>True)
  (fun k hk x _ ih=>by
    apply Qm1
    have:=ih (Qnj x) trivial
    rw[show 8 - k=(8 - (k+1))+1 by omega,Qdg,<-this]
    simp only[QmJ,QIW hk,QQ1,dt (show(2:Int)≠0 by omega),QC0 hk,Qnj]
    by_cases hx:Int.tmod x 2=1
    ·simp only[hx,decide_true,QQ1,if_true]
    ·simp only[hx,decide_false,QQ2,if_false])
  (fun x _=>by
    apply Qm1
    simp[QmJ,Qdg])
  x trivial
 simpa using e
theorem QDj (b:List Int) (i x:Int):qf wl (b,x,i,0)=some (b,Qdg 8 x,i):=by
 have e:=Xd 8 (fun k (x:Int)=>qf wl (b,x,i,(k:Int))) (fun k x=>(b,Qdg (8 - k) x,i)) (fun _ _=>True)
  (fun k hk x _ ih=>by
    apply QmT
    have:=ih (Qnj x) trivial
    rw[show 8 - k=(8 - (k+1))+1 by omega,Qdg,<-this]
    simp only[Qms,QIW hk,QQ1,dt (show(2:Int)≠0 by omega),QC0 hk,Qnj]
    by_cases hx:Int.tmod x 2=1
    ·simp only[hx,decide_true,QQ1,if_true]
    ·simp only[hx,decide_false,QQ2,if_false])
  (fun x _=>by
    apply QmT
    simp[Qms,Qdg])
  x trivial
 simpa using e
theorem Qzi (b:List Int) (h:b.length<=maxLen):Qee w b=some (crc b):=by
 apply QBD
 have e:=Xd b.length (fun i (x:Int)=>vr wl (x,b,((b.length:Nat):Int),(i:Int))) (fun i x=>(b.drop i).foldl Qzt x) (fun _ _=>True)
  (fun i hi x _ ih=>by
    apply QmZ
    simp only[QmB,ilt hi,Qj hi,Qf hi,QQ1,QE5,QQ0,inc hi h,ih _ trivial]
    rw[QRa hi,List.foldl_cons,QCu])
  (fun x _=>by
    apply QmZ
    simp only[QmB,Qo,QQ2,QRl,List.foldl_nil])
  4294967295 trivial
 simp only[QQ6,QRg]at e
 simp only[QpY,e,QQ0,crc]
theorem Qvd (b:List Int) (h:b.length<=maxLen):QdX w b=some (crc b):=by
 apply QAI
 have e:=Xd b.length (fun i (x:Int)=>vm wl (b,x,(i:Int))) (fun i x=>(b.drop i).foldl Qzt x) (fun _ _=>True)
  (fun i hi x _ ih=>by
    apply QnI
    simp only[QmF,ilt hi,Qj hi,Qf hi,QQ1,QDj,QQ0,inc hi h,ih _ trivial]
    rw[QRa hi,List.foldl_cons,QCu])
  (fun x _=>by
    apply QnI
    simp only[QmF,Qo,QQ2,QRl,List.foldl_nil])
  4294967295 trivial
 simp only[QQ6,QRg]at e
 simp only[QpO,e,QQ0,crc]
def QsA (x:Int):Nat->List Int->Int⊕Unit
 |_,[]=> .inr ()
 |i,y::l=>if x=y then .inl (i:Nat)else QsA x (i+1) l
theorem QzP (x:Int):(i:Nat)->(l:List Int)->∃r:Int,Qp (QsA x i l) (fun u=>some u) (fun _=>some (-1))=some r/\decide (0<=r)=decide (x∈l)
 |i,[]=>⟨-1,rfl,by simp⟩
 |i,y::l=>by
  by_cases h:x=y
  ·refine⟨(i:Nat), ?_, ?_⟩
   ·simp only[QsA,h,if_true,Qp,Sum.elim_inl]
   ·simp[h]
  ·obtain⟨r,h1,h2⟩:=QzP x (i+1) l
   refine⟨r, ?_, ?_⟩
   ·simp only[QsA,h,if_false];exact h1
   ·rw[h2];simp[h]
theorem QrH (a:List Int) (x:Int) (h:a.length<=maxLen):ZV w (a,x)=some (decide (x∈a)):=by
 apply Qh6
 have e:=Q5 a.length (fun i=>ZP wl (a,x,((a.length:Nat):Int),(i:Int))) (fun i=>QsA x i (a.drop i))
  (fun i hi ih=>by
    apply zV
    simp only[qi,ilt hi,Qj hi,Qf hi,inc hi h,QQ1,ih]
    rw[QRa hi,QsA]
    by_cases hx:x=a[i]
    ·simp only[hx,decide_true,QQ1,if_true]
    ·simp only[hx,decide_false,QQ2,if_false])
  (by
    apply zV
    simp only[qi,Qo,QQ2,QRl,QsA])
 simp only[QQ6,QRg]at e
 obtain⟨r,h1,h2⟩:=QzP x 0 a
 have hi:V3 w (a,x)=some r:=by
  apply Qmu
  simp only[jI,e,QQ0,h1]
 simp only[x0,hi,QQ0,h2]
theorem QGQ (a b:List Int) (h:a.length<=maxLen):V2 w (a,b)=some (decide (a=b)):=by
 apply QmH
 by_cases hl:a.length=b.length
 ·have e:=QB0 a b hl (fun i=>ZQ wl (a,b,((a.length:Nat):Int),(i:Int)))
   (fun i h1 h2 hx=>by
     apply Vc
     simp only[Ke,ilt h1,Qj h1,Qj h2,Qf h1,Qf h2,QQ1,hx,decide_false,QQ4])
   (fun i h1 h2 r hx hk=>by
     apply Vc
     simp only[Ke,ilt h1,Qj h1,Qj h2,Qf h1,Qf h2,inc h1 h,QQ1,hx,decide_true,QQ3,QQ2]
     exact hk)
   (by
     apply Vc
     simp only[Ke,Qo,QQ2])
  simp only[QQ6]at e
  simp only[Ja,dt (show((a.length:Nat):Int)=((b.length:Nat):Int) by omega),QQ3,QQ2,e,QQ0]
  by_cases hab:a=b
  ·simp[hab,Qp]
  ·simp[hab,Qp]
 ·have hab:a≠b:=fun h=>hl (by rw[h])
  simp only[Ja,df (show¬((a.length:Nat):Int)=((b.length:Nat):Int) by omega),QQ4,QQ1,hab,decide_false]
def Qqn (x:Int):List Int->Bool⊕Unit
 | []=> .inr ()
 |y::l=>if y=x then .inl true else Qqn x l
theorem QyL (x:Int):(l:List Int)->Qp (Qqn x l) (fun u=>some u) (fun _=>some false)=some (decide (x∈l))
 | []=>by simp[Qqn,Qp]
 |y::l=>by
  by_cases h:y=x
  ·simp[Qqn,h,Qp]
  ·have:=QyL x l
   have h':¬x=y:=fun e=>h e.symm
   simp only[Qqn,h,if_false,this];simp[h']
theorem QzO (a:List Int) (x:Int) (h:a.length<=maxLen):QcY w (a,x)=some (decide (x∈a)):=by
 apply QxK
 have e:=Q5 a.length (fun i=>zf wl (a,x,(i:Int))) (fun i=>Qqn x (a.drop i))
  (fun i hi ih=>by
    apply QjX
    simp only[QgY,ilt hi,Qj hi,Qf hi,inc hi h,QQ1,ih]
    rw[QRa hi,Qqn]
    by_cases hx:a[i]=x
    ·simp only[hx,decide_true,QQ1,if_true]
    ·simp only[hx,decide_false,QQ2,if_false])
  (by
    apply QjX
    simp only[QgY,Qo,QQ2,QRl,Qqn])
 simp only[QQ6,QRg]at e
 simp only[QmU,e,QQ0,QyL]
theorem QEZ (a b:List Int) (h:a.length<=maxLen):QeV w (a,b)=some (decide (a=b)):=by
 apply QwH
 by_cases hl:a.length=b.length
 ·have e:=QB0 a b hl (fun i=>qT wl (a,b,(i:Int)))
   (fun i h1 h2 hx=>by
     apply jO
     simp only[jc,ilt h1,Qj h1,Qj h2,Qf h1,Qf h2,QQ1,hx,decide_false,QQ4])
   (fun i h1 h2 r hx hk=>by
     apply jO
     simp only[jc,ilt h1,Qj h1,Qj h2,Qf h1,Qf h2,inc h1 h,QQ1,hx,decide_true,QQ3,QQ2]
     exact hk)
   (by
     apply jO
     simp only[jc,Qo,QQ2])
  simp only[QQ6]at e
  simp only[Qde,dt (show((a.length:Nat):Int)=((b.length:Nat):Int) by omega),QQ3,QQ2,e,QQ0]
  by_cases hab:a=b
  ·simp[hab,Qp]
  ·simp[hab,Qp]
 ·have hab:a≠b:=fun h=>hl (by rw[h])
  simp only[Qde,df (show¬((a.length:Nat):Int)=((b.length:Nat):Int) by omega),QQ4,QQ1,hab,decide_false]
def xu (n:Int):Int:=bif inR n 0 4 then Int.tmod (crc (QA n)) 4 else -1
theorem Qo1 (n:Int):(QA n).length<=maxLen:=by have:=Xj n;simp only[maxLen];omega
theorem Qw0 (n:Int):vA w n=some (xu n):=by
 apply Qvw
 simp only[Qk7,Qga,QQ0,xu,Qau,Qzi _ (Qo1 n),dt (show(4:Int)≠0 by omega),QQ1]
 cases inR n 0 4<;>simp
theorem QtB (n:Int):vz w n=some (xu n):=by
 apply QvA
 simp only[Qln,QgE,QQ0,xu,jk,Qvd _ (Qo1 n),dt (show(4:Int)≠0 by omega),QQ1]
 cases inR n 0 4<;>simp
def Xy (l:List Int) (n:Int):Bool:=decide (xu n∈l)
def X3 (s:Qk) (l:List Int):Qk:=(s.1.filter fun x=>Xy l x.1,s.2.filter fun x=>Xy l x.1)
theorem yk:(p:Int)->(l:List Qb)->QR p l=true-> -1<=p->(l.length:Int)<=4 - p\/l=[]
 |p,[],_,_=> .inr rfl
 |p,x::l,h,hp=>by
  simp only[QR,QQ5,inR,QRu]at h
  obtain⟨⟨⟨h1,h2⟩,h3⟩,h4⟩:=h
  left
  rcases yk x.1 l h4 (by omega)with h5|h5
  ·simp only[QY8];omega
  ·subst h5;simp;omega
theorem Qrl (fl:List Qb):(p:Int)->(l:List Qg)->Xu fl p l=true-> -1<=p->(l.length:Int)<=4 - p\/l=[]
 |p,[],_,_=> .inr rfl
 |p,x::l,h,hp=>by
  simp only[Xu,QQ5,inR,QRu]at h
  obtain⟨⟨⟨⟨h1,h2⟩,h2'⟩,h3⟩,h4⟩:=h
  left
  rcases Qrl fl x.1 l h4 (by omega)with h5|h5
  ·simp only[QY8];omega
  ·subst h5;simp;omega
theorem qo {s:Qk}(h:QK s=true):s.1.length<=5/\s.2.length<=5:=by
 simp only[QK,QQ5]at h
 have h1:=yk _ _ h.1 (by omega)
 have h2:=Qrl _ _ _ h.2 (by omega)
 constructor
 ·rcases h2 with h|h
  ·omega
  ·simp[h]
 ·rcases h1 with h|h
  ·omega
  ·simp[h]
theorem QBt (q:List Int) (a:List Qg) (b:List Qb) (hq:q.length<=maxLen) (ha:a.length<=4294967296) (c:List Qb):
 KW wl (q,a,((a.length:Nat):Int),0,a,b,[],c)=some (q,a,b,a.filter (fun x=>Xy q x.1),c):=by
 have e:=Xd a.length (fun i (o:List Qg)=>KW wl (q,a,((a.length:Nat):Int),(i:Int),a,b,o,c)) (fun i o=>(q,a,b,o++(a.drop i).filter (fun x=>Xy q x.1),c)) (fun i o=>o.length<=i)
  (fun i hi o ho ih=>by
    apply QiQ
    have ih1:=ih o (by omega)
    have ih2:=ih (o++[a[i]]) (by simp;omega)
    simp only[QgS,ilt hi,Qj hi,Qf hi,inc hi (show a.length<=maxLen by simp[maxLen];omega),QQ1,Qw0,QrH q _ hq,QQ0,QY34,Qw (show(o.length+1)*56<=140737488351232 by omega)]
    rw[QRa hi,QY33]
    cases h:Xy q a[i].1
    ·have h':decide (xu a[i].1∈q)=false:=h
     simp only[h',QQ2,QRw,if_false];exact ih1
    ·have h':decide (xu a[i].1∈q)=true:=h
     simp only[h',QQ1,if_true]
     rw[show o++a[i]::List.filter (fun x=>Xy q x.1) (List.drop (i+1) a)=(o++[a[i]])++List.filter (fun x=>Xy q x.1) (List.drop (i+1) a) by simp]
     exact ih2)
  (fun o _=>by
    apply QiQ
    simp[QgS])
  [] (by simp)
 simpa using e
theorem QBC (q:List Int) (b:List Qb) (hq:q.length<=maxLen) (hb:b.length<=4294967296) (c:List Qg):
 K0 wl (q,b,((b.length:Nat):Int),0,c,[])=some (c,b.filter (fun x=>Xy q x.1)):=by
 have e:=Xd b.length (fun i (o:List Qb)=>K0 wl (q,b,((b.length:Nat):Int),(i:Int),c,o)) (fun i o=>(c,o++(b.drop i).filter (fun x=>Xy q x.1))) (fun i o=>o.length<=i)
  (fun i hi o ho ih=>by
    apply QjD
    have ih1:=ih o (by omega)
    have ih2:=ih (o++[b[i]]) (by simp;omega)
    simp only[Qg4,ilt hi,Qj hi,Qf hi,inc hi (show b.length<=maxLen by simp[maxLen];omega),QQ1,Qw0,QrH q _ hq,QQ0,QY34,Qw (show(o.length+1)*16<=140737488351232 by omega)]
    rw[QRa hi,QY33]
    cases h:Xy q b[i].1
    ·have h':decide (xu b[i].1∈q)=false:=h
     simp only[h',QQ2,QRw,if_false];exact ih1
    ·have h':decide (xu b[i].1∈q)=true:=h
     simp only[h',QQ1,if_true]
     rw[show o++b[i]::List.filter (fun x=>Xy q x.1) (List.drop (i+1) b)=(o++[b[i]])++List.filter (fun x=>Xy q x.1) (List.drop (i+1) b) by simp]
     exact ih2)
  (fun o _=>by
    apply QjD
    simp[Qg4])
  [] (by simp)
 simpa using e
theorem Qz0 (a:List Qg) (b:List Qb) (q:List Int) (hq:q.length<=maxLen) (ha:a.length<=maxLen) (hb:b.length<=maxLen):
 yU w (a,b,q)=some (bif QK (a,b)then X3 (a,b) q else([],[])):=by
 apply QxC
 simp only[QnO,Yp a b ha hb,QQ0]
 cases h:QK (a,b)
 ·simp
 ·have hl:=qo h
  simp only at hl
  simp only[QQ3,QQ2,QQ1,QBt q a b hq (by omega),QBC q b hq (by omega),QQ0,X3]
theorem QAe (q:List Int) (a:List Qg) (b:List Qb) (hq:q.length<=maxLen) (ha:a.length<=4294967296) (c:List Qb):
 Yj wl (q,0,a,b,[],c)=some (q,a,b,a.filter (fun x=>Xy q x.1),c):=by
 have e:=Xd a.length (fun i (o:List Qg)=>Yj wl (q,(i:Int),a,b,o,c)) (fun i o=>(q,a,b,o++(a.drop i).filter (fun x=>Xy q x.1),c)) (fun i o=>o.length<=i)
  (fun i hi o ho ih=>by
    apply QfY
    have ih1:=ih o (by omega)
    have ih2:=ih (o++[a[i]]) (by simp;omega)
    simp only[Qc7,ilt hi,Qj hi,Qf hi,inc hi (show a.length<=maxLen by simp[maxLen];omega),QQ1,QtB,QzO q _ hq,QQ0,QY34,Qw (show(o.length+1)*56<=140737488351232 by omega)]
    rw[QRa hi,QY33]
    cases h:Xy q a[i].1
    ·have h':decide (xu a[i].1∈q)=false:=h
     simp only[h',QQ2,QRw,if_false];exact ih1
    ·have h':decide (xu a[i].1∈q)=true:=h
     simp only[h',QQ1,if_true]
     rw[show o++a[i]::List.filter (fun x=>Xy q x.1) (List.drop (i+1) a)=(o++[a[i]])++List.filter (fun x=>Xy q x.1) (List.drop (i+1) a) by simp]
     exact ih2)
  (fun o _=>by
    apply QfY
    simp[Qc7])
  [] (by simp)
 simpa using e
theorem QyV (q:List Int) (a:List Qg) (b:List Qb) (hq:q.length<=maxLen) (hb:b.length<=4294967296) (c:List Qg):
 Yu wl (q,0,a,b,c,[])=some (c,b.filter (fun x=>Xy q x.1)):=by
 have e:=Xd b.length (fun i (o:List Qb)=>Yu wl (q,(i:Int),a,b,c,o)) (fun i o=>(c,o++(b.drop i).filter (fun x=>Xy q x.1))) (fun i o=>o.length<=i)
  (fun i hi o ho ih=>by
    apply QgB
    have ih1:=ih o (by omega)
    have ih2:=ih (o++[b[i]]) (by simp;omega)
    simp only[Qbm,ilt hi,Qj hi,Qf hi,inc hi (show b.length<=maxLen by simp[maxLen];omega),QQ1,QtB,QzO q _ hq,QQ0,QY34,Qw (show(o.length+1)*16<=140737488351232 by omega)]
    rw[QRa hi,QY33]
    cases h:Xy q b[i].1
    ·have h':decide (xu b[i].1∈q)=false:=h
     simp only[h',QQ2,QRw,if_false];exact ih1
    ·have h':decide (xu b[i].1∈q)=true:=h
     simp only[h',QQ1,if_true]
     rw[show o++b[i]::List.filter (fun x=>Xy q x.1) (List.drop (i+1) b)=(o++[b[i]])++List.filter (fun x=>Xy q x.1) (List.drop (i+1) b) by simp]
     exact ih2)
  (fun o _=>by
    apply QgB
    simp[Qbm])
  [] (by simp)
 simpa using e
theorem Qw9 (a:List Qg) (b:List Qb) (q:List Int) (hq:q.length<=maxLen) (ha:a.length<=4294967296) (hb:b.length<=4294967296):
 qZ w (a,b,q)=some (X3 (a,b) q):=by
 apply Qt3
 simp only[Qj0,QAe q a b hq ha,QyV q a b hq hb,QQ0,X3]
theorem Qup:(p p':Int)->(l:List Qb)->p'<=p->QR p l=true->QR p' l=true
 |p,p',[],_,_=>rfl
 |p,p',x::l,hp,h=>by
  simp only[QR,QQ5,QRu]at h⊢
  exact⟨⟨h.1.1,by omega⟩,h.2⟩
theorem QwB (fl:List Qb):(p p':Int)->(l:List Qg)->p'<=p->Xu fl p l=true->Xu fl p' l=true
 |p,p',[],_,_=>rfl
 |p,p',x::l,hp,h=>by
  simp only[Xu,QQ5,QRu]at h⊢
  exact⟨⟨h.1.1,by omega⟩,h.2⟩
theorem Qmg (f:Int->Bool):(p:Int)->(l:List Qb)->QR p l=true->QR p (l.filter fun x=>f x.1)=true
 |p,[],_=>rfl
 |p,x::l,h=>by
  have h':=h
  simp only[QR,QQ5,QRu]at h
  have ih:=Qmg f x.1 l h.2
  rw[QY33]
  cases hf:f x.1
  ·simp only[QRw,if_false];exact Qup _ _ _ (by omega) ih
  ·simp only[if_true,QR,QQ5,QRu]
   exact⟨⟨h.1.1,h.1.2⟩,ih⟩
theorem Qm9 (f:Int->Bool) (id:Int) (hf:f id=true):(l:List Qb)->Q4 id (l.filter fun x=>f x.1)=Q4 id l
 | []=>rfl
 |x::l=>by
  have ih:=Qm9 f id hf l
  rw[QY33]
  by_cases hx:x.1=id
  ·rw[hx,hf];simp[Q4,hx]
  ·cases f x.1
   ·simp only[QRw,if_false,Q4,hx];exact ih
   ·simp only[if_true,Q4,hx,if_false];exact ih
theorem Qnf (f:Int->Bool) (fl:List Qb):(p:Int)->(l:List Qg)->Xu fl p l=true->Xu (fl.filter fun x=>f x.1) p (l.filter fun x=>f x.1)=true
 |p,[],_=>rfl
 |p,x::l,h=>by
  simp only[Xu,QQ5,QRu]at h
  have ih:=Qnf f fl x.1 l h.2
  rw[QY33]
  cases hf:f x.1
  ·simp only[QRw,if_false];exact QwB _ _ _ _ (by omega) ih
  ·simp only[if_true,Xu,QQ5,QRu,Qm9 f x.1 hf]
   exact⟨⟨h.1.1,h.1.2⟩,ih⟩
theorem QcR {s:Qk}(q:List Int) (h:QK s=true):QK (X3 s q)=true:=by
 simp only[QK,QQ5]at h⊢
 exact⟨Qmg (Xy q) _ _ h.1,Qnf (Xy q) _ _ _ h.2⟩
def YS (x:Qg):List Int:=QA x.1++(QA x.2.1++(QA x.2.2.1++(QA x.2.2.2.1++(QA x.2.2.2.2.1++Jf x.2.2.2.2.2))))
def VV (x:Qb):List Int:=QA x.1++QA x.2
def stB (s:Qk):List Int:=QA (s.1.length:Nat)++(s.1.flatMap YS++(QA (s.2.length:Nat)++s.2.flatMap VV))
theorem Qfg (x:Qg):(YS x).length<=30+ByteArray.size x.2.2.2.2.2:=by
 have h0:=Xj x.1
 have h1:=Xj x.2.1
 have h2:=Xj x.2.2.1
 have h3:=Xj x.2.2.2.1
 have h4:=Xj x.2.2.2.2.1
 have h5:=QrA x.2.2.2.2.2
 simp only[YS,QRj];omega
theorem QoM (x:Qb):(VV x).length<=10:=by
 have h0:=Xj x.1
 have h1:=Xj x.2
 simp only[VV,QRj];omega
def smB (s:Qk):Prop:=s.1.length<=1000/\s.2.length<=1000/\∀x∈s.1,ByteArray.size x.2.2.2.2.2<=1000
theorem Qqm (fl:List Qb):(p:Int)->(l:List Qg)->Xu fl p l=true->∀x∈l,ByteArray.size x.2.2.2.2.2<=8
 |p,[],_=>by simp
 |p,x::l,h=>by
  simp only[Xu,QQ5]at h
  have h1:=h.1.1.1.2
  simp only[Zd,QQ5,QRu]at h1
  intro y hy
  rcases QRk.1 hy with e|e
  ·rw[e];have:=h1.2;omega
  ·exact Qqm fl x.1 l h.2 y e
theorem QoG {s:Qk}(h:QK s=true):smB s:=by
 have hl:=qo h
 simp only[QK,QQ5]at h
 exact⟨by omega,by omega,fun x hx=>by have:=Qqm _ _ _ h.2 x hx;omega⟩
theorem Qaj {α:Type}(f:α->List Int) (n:Nat):(l:List α)->(∀x∈l,(f x).length<=n)->(l.flatMap f).length<=l.length*n
 | [],_=>by simp
 |x::l,h=>by
  have ih:=Qaj f n l fun y hy=>h y (by simp[hy])
  have:=h x (by simp)
  simp only[QY22,QRj,QY8,QY21];omega
theorem QBV {s:Qk}(h:smB s):(stB s).length<=2000000:=by
 have h1:=Qaj YS 1030 s.1 fun x hx=>by have:=Qfg x;have:=h.2.2 x hx;omega
 have h2:=Qaj VV 10 s.2 fun x _=>QoM x
 have h3:=Xj (s.1.length:Nat)
 have h4:=Xj (s.2.length:Nat)
 have h5:s.1.length*1030<=1000*1030:=QY14 _ h.1
 have h6:s.2.length*10<=1000*10:=QY14 _ h.2.1
 simp only[stB,QRj];omega
theorem Qx3 (a:List Qg) (b:List Qb) (h:smB (a,b)) (o:List Int) (ho:o.length<=10):
 Z5 wl (a,((a.length:Nat):Int),0,a,b,o)=some (a,b,o++a.flatMap YS):=by
 have hl:a.length<=1000:=h.1
 have e:=Xd a.length (fun i (o:List Int)=>Z5 wl (a,((a.length:Nat):Int),(i:Int),a,b,o)) (fun i o=>(a,b,o++(a.drop i).flatMap YS)) (fun i o=>o.length<=10+i*1030)
  (fun i hi o ho ih=>by
    apply Qar
    have hb:=Qfg a[i]
    have hd:=h.2.2 a[i] (QRf hi)
    have ih1:=ih (o++YS a[i]) (by rw[QRj];omega)
    have ej: [o,QA a[i].1,QA a[i].2.1,QA a[i].2.2.1,QA a[i].2.2.2.1,QA a[i].2.2.2.2.1,Jf a[i].2.2.2.2.2].flatten=o++YS a[i]:=by simp[YS]
    have hj:=Qax [o,QA a[i].1,QA a[i].2.1,QA a[i].2.2.1,QA a[i].2.2.2.1,QA a[i].2.2.2.2.1,Jf a[i].2.2.2.2.2] (by simp[maxLen]) (by rw[ej,QRj];omega)
    simp only[yA,ilt hi,Qj hi,Qf hi,inc hi (show a.length<=maxLen by simp[maxLen];omega),QQ1,Qau,QDF _ (show ByteArray.size a[i].2.2.2.2.2<=4294967296 by omega),QQ0,hj,ej,ih1]
    rw[QRa hi,QY22,QRc])
  (fun o _=>by
    apply Qar
    simp[yA])
  o (by omega)
 simpa using e
theorem QxT (b:List Qb) (hb:b.length<=1000) (o:List Int) (ho:o.length<=2000000):
 Z6 wl (b,((b.length:Nat):Int),0,o)=some (o++b.flatMap VV):=by
 have e:=Xd b.length (fun i (o:List Int)=>Z6 wl (b,((b.length:Nat):Int),(i:Int),o)) (fun i o=>o++(b.drop i).flatMap VV) (fun i o=>o.length<=2000000+i*10)
  (fun i hi o ho ih=>by
    apply QaF
    have hb:=QoM b[i]
    have ih1:=ih (o++VV b[i]) (by rw[QRj];omega)
    have ej: [o,QA b[i].1,QA b[i].2].flatten=o++VV b[i]:=by simp[VV]
    have hj:=Qax [o,QA b[i].1,QA b[i].2] (by simp[maxLen]) (by rw[ej,QRj];omega)
    simp only[yS,ilt hi,Qj hi,Qf hi,inc hi (show b.length<=maxLen by simp[maxLen];omega),QQ1,Qau,QQ0,hj,ej,ih1]
    rw[QRa hi,QY22,QRc])
  (fun o _=>by
    apply QaF
    simp[yS])
  o (by omega)
 simpa using e
theorem QxN (a:List Qg) (b:List Qb) (ha:a.length<=maxLen) (hb:b.length<=maxLen):ya w (a,b)=some (bif QK (a,b)then stB (a,b)else []):=by
 apply Qqg
 simp only[Qdv,Yp a b ha hb,QQ0]
 cases h:QK (a,b)
 ·simp
 ·have hs:=QoG h
  have hp:=Xj (a.length:Nat)
  have h1:=Qaj YS 1030 a fun x hx=>by have:=Qfg x;have:=hs.2.2 x hx;omega
  have hal:a.length<=1000:=hs.1
  have hbl:b.length<=1000:=hs.2.1
  have h5:a.length*1030<=1000*1030:=QY14 _ hal
  have hp2:=Xj (b.length:Nat)
  have ej: [QA ((a.length:Nat):Int)++a.flatMap YS,QA ((b.length:Nat):Int)].flatten=QA ((a.length:Nat):Int)++a.flatMap YS++QA ((b.length:Nat):Int):=by simp
  have hj:=Qax [QA ((a.length:Nat):Int)++a.flatMap YS,QA ((b.length:Nat):Int)] (by simp[maxLen]) (by rw[ej];simp only[QRj];omega)
  simp only[QQ3,QQ2,QQ1,Qau,QQ0,Qx3 a b hs _ (show(QA ((a.length:Nat):Int)).length<=10 by omega),hj,ej,QxT b hbl _ (show(QA ((a.length:Nat):Int)++a.flatMap YS++QA ((b.length:Nat):Int)).length<=2000000 by simp only[QRj];omega)]
  simp only[stB,QRc]
theorem QAU (i:Int) (a:List Qg) (b:List Qb) (o:List Int) (p q r s:Int) (t:ByteArray) (l:List Int) (hl:l.length<=5) (ho:o.length<=2000000):
 KC wl (i,0,a,b,o,p,q,r,s,t,l)=some (i,a,b,o++l.flatMap QA,p,q,r,s,t):=by
 have e:=Xd l.length (fun k (o:List Int)=>KC wl (i,(k:Int),a,b,o,p,q,r,s,t,l)) (fun k o=>(i,a,b,o++(l.drop k).flatMap QA,p,q,r,s,t)) (fun k o=>o.length<=2000000+k*5)
  (fun k hk o ho ih=>by
    apply QgF
    have hb:=Xj l[k]
    have ih1:=ih (o++QA l[k]) (by rw[QRj];omega)
    simp only[QbT,ilt hk,Qj hk,Qf hk,inc hk (show l.length<=maxLen by simp[maxLen];omega),QQ1,jk,QQ0,Qw (show(o.length+(QA l[k]).length)*1<=140737488351232 by omega),ih1]
    rw[QRa hk,QY22,QRc])
  (fun o _=>by
    apply QgF
    simp[QbT])
  o (by omega)
 simpa using e
theorem Qzx (a:List Qg) (b:List Qb) (h:smB (a,b)) (o:List Int) (ho:o.length<=10):
 KL wl (0,a,b,o)=some (a,b,o++a.flatMap YS):=by
 have hl:a.length<=1000:=h.1
 have e:=Xd a.length (fun i (o:List Int)=>KL wl ((i:Int),a,b,o)) (fun i o=>(a,b,o++(a.drop i).flatMap YS)) (fun i o=>o.length<=10+i*1030)
  (fun i hi o ho ih=>by
    apply Qfz
    have hb:=Qfg a[i]
    have hd:=h.2.2 a[i] (QRf hi)
    have ih1:=ih (o++YS a[i]) (by rw[QRj];omega)
    have ej:(o++[a[i].1,a[i].2.1,a[i].2.2.1,a[i].2.2.2.1,a[i].2.2.2.2.1].flatMap QA)++Jf a[i].2.2.2.2.2=o++YS a[i]:=by simp[YS]
    have hn:=QAU (i:Int) a b o a[i].2.1 a[i].2.2.1 a[i].2.2.2.1 a[i].2.2.2.2.1 a[i].2.2.2.2.2 [a[i].1,a[i].2.1,a[i].2.2.1,a[i].2.2.2.1,a[i].2.2.2.2.1] (by simp) (by omega)
    have hlen:((o++[a[i].1,a[i].2.1,a[i].2.2.1,a[i].2.2.2.1,a[i].2.2.2.2.1].flatMap QA).length+(Jf a[i].2.2.2.2.2).length)*1<=140737488351232:=by
     have:=congrArg List.length ej
     simp only[QRj]at this⊢; omega
    simp only[Qb5,ilt hi,Qj hi,Qf hi,inc hi (show a.length<=maxLen by simp[maxLen];omega),QQ1,hn,QBi _ (show ByteArray.size a[i].2.2.2.2.2<=4294967296 by omega),QQ0,Qw hlen,ej,ih1]
    rw[QRa hi,QY22,QRc])
  (fun o _=>by
    apply Qfz
    simp[Qb5])
  o (by omega)
 simpa using e
theorem Qy0 (a:List Qg) (b:List Qb) (hb:b.length<=1000) (o:List Int) (ho:o.length<=2000000):
 KB wl (0,a,b,o)=some (o++b.flatMap VV):=by
 have e:=Xd b.length (fun i (o:List Int)=>KB wl ((i:Int),a,b,o)) (fun i o=>o++(b.drop i).flatMap VV) (fun i o=>o.length<=2000000+i*10)
  (fun i hi o ho ih=>by
    apply QfK
    have hb:=QoM b[i]
    have h1:=Xj b[i].1
    have h2:=Xj b[i].2
    have ih1:=ih (o++VV b[i]) (by rw[QRj];omega)
    have ej:o++QA b[i].1++QA b[i].2=o++VV b[i]:=by simp[VV]
    simp only[Qa6,ilt hi,Qj hi,Qf hi,inc hi (show b.length<=maxLen by simp[maxLen];omega),QQ1,jk,QQ0,Qw (show(o.length+(QA b[i].1).length)*1<=140737488351232 by omega),Qw (show((o++QA b[i].1).length+(QA b[i].2).length)*1<=140737488351232 by rw[QRj];omega),ej,ih1]
    rw[QRa hi,QY22,QRc])
  (fun o _=>by
    apply QfK
    simp[Qa6])
  o (by omega)
 simpa using e
theorem QEm (a:List Qg) (b:List Qb) (hs:smB (a,b)):QbV w (a,b)=some (stB (a,b)):=by
 apply QtF
 have hp:=Xj (a.length:Nat)
 have h1:=Qaj YS 1030 a fun x hx=>by have:=Qfg x;have:=hs.2.2 x hx;omega
 have hal:a.length<=1000:=hs.1
 have hbl:b.length<=1000:=hs.2.1
 have h5:a.length*1030<=1000*1030:=QY14 _ hal
 have hp2:=Xj (b.length:Nat)
 have hlen:((QA ((a.length:Nat):Int)++a.flatMap YS).length+(QA ((b.length:Nat):Int)).length)*1<=140737488351232:=by simp only[QRj];omega
 simp only[Qj9,jk,QQ0,Qzx a b hs _ (show(QA ((a.length:Nat):Int)).length<=10 by omega),Qw hlen,QQ1,Qy0 a b hbl _ (show(QA ((a.length:Nat):Int)++a.flatMap YS++QA ((b.length:Nat):Int)).length<=2000000 by simp only[QRj];omega)]
 simp only[stB,QRc]
def Jd (s:Qk) (k:Int):Int:=bif QK s&&inR k 0 3 then Int.tmod (crc (stB (X3 s [k]))) 1024 else 0
theorem QDV (a:List Qg) (b:List Qb) (k:Int) (ha:a.length<=maxLen) (hb:b.length<=maxLen):QaL w (a,b,k)=some (Jd (a,b) k):=by
 apply QsO
 simp only[Qjt,Yp a b ha hb,Xi,QQ0,Jd]
 cases h:QK (a,b)
 ·simp
 ·cases h2:inR k 0 3
  ·simp
  ·have hs:=QcR [k] h
   have hl:=qo hs
   have hB:=QBV (QoG hs)
   simp only[QQ3,QQ2,Qz0 a b [k] (by simp[maxLen]) ha hb,h,QQ1,QQ0,QxN (X3 (a,b) [k]).1 (X3 (a,b) [k]).2 (by simp only[maxLen];omega) (by simp only[maxLen];omega),Bool.and_self]
   simp only[show QK ((X3 (a,b) [k]))=true from hs,QQ1,Qzi (stB ((X3 (a,b) [k]))) (show(stB (X3 (a,b) [k])).length<=maxLen by simp only[maxLen];omega),QQ0,dt (show(1024:Int)≠0 by omega)]
theorem QBN (a:List Qg) (b:List Qb) (k:Int) (ha:a.length<=maxLen) (hb:b.length<=maxLen):QaV w (a,b,k)=some (Jd (a,b) k):=by
 apply Quv
 simp only[Qku,Vo a b ha hb,Xx,QQ0,Jd]
 cases h:QK (a,b)
 ·simp
 ·cases h2:inR k 0 3
  ·simp
  ·have hs:=QcR [k] h
   have hl:=qo h
   simp only at hl
   have hB:=QBV (QoG hs)
   simp only[QQ3,QQ2,Qw9 a b [k] (by simp[maxLen]) (by omega) (by omega),QQ0,QEm (X3 (a,b) [k]).1 (X3 (a,b) [k]).2 (QoG hs),QQ1,Bool.and_self,Qvd (stB ((X3 (a,b) [k]))) (show(stB (X3 (a,b) [k])).length<=maxLen by simp only[maxLen];omega),dt (show(1024:Int)≠0 by omega)]
def rootOf (l:List Int):Int:=Int.tmod (crc (l.flatMap QA)) 1024
theorem QFi (l:List Int) (hl:l.length<=4294967296):QeW w l=some (rootOf l):=by
 apply QvZ
 have e:=Xd l.length (fun i (o:List Int)=>xy wl (l,((l.length:Nat):Int),(i:Int),o)) (fun i o=>o++(l.drop i).flatMap QA) (fun i o=>o.length<=i*5)
  (fun i hi o ho ih=>by
    apply QhF
    have hb:=Xj l[i]
    have ih1:=ih (o++QA l[i]) (by rw[QRj];omega)
    have ej: [o,QA l[i]].flatten=o++QA l[i]:=by simp
    have hj:=Qax [o,QA l[i]] (by simp[maxLen]) (by rw[ej,QRj];omega)
    simp only[Qej,ilt hi,Qj hi,Qf hi,inc hi (show l.length<=maxLen by simp[maxLen];omega),QQ1,Qau,QQ0,hj,ej,ih1]
    rw[QRa hi,QY22,QRc])
  (fun o _=>by
    apply QhF
    simp[Qej])
  [] (by simp)
 simp only[QQ6,QRg,QRe]at e
 have hb:=Qaj QA 5 l fun x _=>Xj x
 simp only[Ql6,e,QQ0,Qzi (l.flatMap QA) (by simp only[maxLen];omega),dt (show(1024:Int)≠0 by omega),QQ1,rootOf]
theorem QFm (l:List Int) (hl:l.length<=4294967296):QeR w l=some (rootOf l):=by
 apply QvB
 have e:=Xd l.length (fun i (o:List Int)=>qL wl (l,(i:Int),o)) (fun i o=>o++(l.drop i).flatMap QA) (fun i o=>o.length<=i*5)
  (fun i hi o ho ih=>by
    apply Qhy
    have hb:=Xj l[i]
    have ih1:=ih (o++QA l[i]) (by rw[QRj];omega)
    simp only[Qek,ilt hi,Qj hi,Qf hi,inc hi (show l.length<=maxLen by simp[maxLen];omega),QQ1,jk,QQ0,Qw (show(o.length+(QA l[i]).length)*1<=140737488351232 by omega),ih1]
    rw[QRa hi,QY22,QRc])
  (fun o _=>by
    apply Qhy
    simp[Qek])
  [] (by simp)
 simp only[QQ6,QRg,QRe]at e
 have hb:=Qaj QA 5 l fun x _=>Xj x
 simp only[QlM,e,QQ0,Qvd (l.flatMap QA) (by simp only[maxLen];omega),dt (show(1024:Int)≠0 by omega),QQ1,rootOf]
def leaves (s:Qk):List Int:=[Jd s 0,Jd s 1,Jd s 2,Jd s 3]
def X1 (s:Qk):X5:=bif QK s then(leaves s,rootOf (leaves s))else([],0)
theorem QDv {i:Nat}(h:i<4):decide ((i:Int)<4)=true:=by simp;omega
theorem Qxe (a:List Qg) (b:List Qb) (ha:a.length<=maxLen) (hb:b.length<=maxLen):zm w (a,b)=some (X1 (a,b)):=by
 apply Qv9
 have e:=Xd 4 (fun i (o:List Int)=>Vs wl ((i:Int),a,b,o,0)) (fun i o=>(o++(List.range' i (4 - i)).flatMap fun i=>[Jd (a,b) (i:Nat)],(0:Int))) (fun i o=>o.length<=i)
  (fun i hi o ho ih=>by
    apply QhN
    have ih1:=ih (o++[Jd (a,b) (i:Nat)]) (by simp;omega)
    rw[ZX hi,<-QRc,<-ih1]
    simp only[QdT,QDv hi,QQ1,QDV a b _ ha hb,QQ0,QY34,Qw (show(o.length+1)*8<=140737488351232 by omega),QC0 hi])
  (fun o _=>by
    apply QhN
    simp[QdT])
  [] (by simp)
 have e:Vs wl (0,a,b,[],0)=some (leaves (a,b),0):=e
 simp only[QlW,Yp a b ha hb,QQ0,X1]
 cases QK (a,b)
 ·simp
 ·simp only[QQ3,QQ2,QQ1,e,QQ0,QFi (leaves (a,b)) (by simp[leaves])]
theorem QuQ (a:List Qg) (b:List Qb) (ha:a.length<=maxLen) (hb:b.length<=maxLen):zo w (a,b)=some (X1 (a,b)):=by
 apply QvO
 have e:=Xd 4 (fun i (o:List Int)=>Vt wl ((i:Int),a,b,o,0)) (fun i o=>(o++(List.range' i (4 - i)).flatMap fun i=>[Jd (a,b) (i:Nat)],(0:Int))) (fun i o=>o.length<=i)
  (fun i hi o ho ih=>by
    apply QhJ
    have ih1:=ih (o++[Jd (a,b) (i:Nat)]) (by simp;omega)
    rw[ZX hi,<-QRc,<-ih1]
    simp only[QdL,QDv hi,QQ1,QBN a b _ ha hb,QQ0,QY34,Qw (show(o.length+1)*8<=140737488351232 by omega),QC0 hi])
  (fun o _=>by
    apply QhJ
    simp[QdL])
  [] (by simp)
 have e:Vt wl (0,a,b,[],0)=some (leaves (a,b),0):=e
 simp only[Ql7,Vo a b ha hb,QQ0,X1]
 cases QK (a,b)
 ·simp
 ·simp only[QQ3,QQ2,QQ1,e,QQ0,QFm (leaves (a,b)) (by simp[leaves])]
def Yr (g:ZL):Bool:=inR g.1 1 8&&decide (((g.2.2.length:Nat):Int)<=g.1)&&inR g.2.1 0 100000&&decide (g.2.1+((g.2.2.length:Nat):Int)<=100000)&&g.2.2.all QK
theorem ZG {α:Type}{R:Type}(p:α->Bool) (l:List α) (x y:R) {i:Nat}(hi:i<l.length):(if(l.drop i).all p then x else y)=(bif p l[i]then(if(l.drop (i+1)).all p then x else y)else y):=by
 rw[QRa hi,QY25]
 cases p l[i]<;>simp
theorem Qv7 {α:Type}{R:Type}(p:α->Bool) (l:List α) (x y:R):(if(l.drop l.length).all p then x else y)=x:=by simp
theorem Qr1 (a b:Int) (l:List Qk) (hl:l.length<=maxLen) (hs:∀s∈l,s.1.length<=maxLen/\s.2.length<=maxLen):xJ w (a,b,l)=some (Yr (a,b,l)):=by
 apply QxO
 have e:=Q5 l.length (fun i=>zk wl (l,((l.length:Nat):Int),(i:Int),a,b,l)) (fun i=>if(l.drop i).all QK then .inr (a,b,l)else .inl false)
  (fun i hi ih=>by
    apply Qja
    have hx:=hs _ (QRf hi)
    rw[ZG QK l _ _ hi]
    simp only[Qg3,ilt hi,Qj hi,Qf hi,inc hi hl,QQ1,Yp _ _ hx.1 hx.2,QQ0,ih]
    cases QK l[i]<;>simp)
  (by
    apply Qja
    simp[Qg3])
 simp only[QQ6,QRg]at e
 simp only[QnE,e,QQ0,Xi,Yr]
 cases l.all QK
 ·simp[Qp]
 ·simp only[if_true,Qp,QY0,QRn]
  cases h1:inR a 1 8
  ·simp
  ·by_cases h2:((l.length:Nat):Int)<=a
   ·cases h3:inR b 0 100000
    ·simp
    ·simp[inR]at h1 h3
     rw[w64 (by omega) (by omega)]
     simp[h2]
   ·simp[h2]
theorem Qqo (a b:Int) (l:List Qk) (hl:l.length<=maxLen) (hs:∀s∈l,s.1.length<=maxLen/\s.2.length<=maxLen):xR w (a,b,l)=some (Yr (a,b,l)):=by
 apply Qx0
 have e:=Q5 l.length (fun i=>x6 wl ((i:Int),a,b,l)) (fun i=>if(l.drop i).all QK then .inr ()else .inl false)
  (fun i hi ih=>by
    apply QiW
    have hx:=hs _ (QRf hi)
    rw[ZG QK l _ _ hi]
    simp only[Qg0,ilt hi,Qj hi,Qf hi,inc hi hl,QQ1,Vo _ _ hx.1 hx.2,QQ0,ih]
    cases QK l[i]<;>simp)
  (by
    apply QiW
    simp[Qg0])
 simp only[QQ6,QRg]at e
 simp only[Qm2,e,QQ0,Xx,Yr]
 cases h1:inR a 1 8
 ·simp
 ·by_cases h2:((l.length:Nat):Int)<=a
  ·cases h3:inR b 0 100000
   ·simp[h2]
   ·simp[inR]at h1 h3
    rw[w64 (by omega) (by omega)]
    by_cases h4:b+((l.length:Nat):Int)<=100000
    ·simp only[QQ3,QQ2,df (show¬a<((l.length:Nat):Int) by omega),df (show¬100000<b+((l.length:Nat):Int) by omega),dt h2,dt h4,QRd,QRn]
     cases l.all QK<;>simp[Qp]
    ·simp only[QQ3,QQ2,df (show¬a<((l.length:Nat):Int) by omega),dt (show 100000<b+((l.length:Nat):Int) by omega),df h4,QQ1,QY7,QRm]
  ·simp only[QQ3,QQ2,dt (show a<((l.length:Nat):Int) by omega),QQ1,df h2,QY7,QRm]
def Xo (g:ZL):Int:=bif Yr g then g.2.1+((g.2.2.length:Nat):Int)else 0
theorem Qh8 {g:ZL}(h:Yr g=true):g.2.2.length<=8/\0<=g.2.1/\g.2.1<=100000/\g.2.1+((g.2.2.length:Nat):Int)<=100000:=by
 simp[Yr,inR]at h;omega
theorem Qlx (a b:Int) (l:List Qk) (hl:l.length<=maxLen) (hs:∀s∈l,s.1.length<=maxLen/\s.2.length<=maxLen):Vf w (a,b,l)=some (Xo (a,b,l)):=by
 apply Qwl
 simp only[QlI,Qr1 a b l hl hs,QQ0,Xo]
 cases h:Yr (a,b,l)
 ·simp
 ·have:=Qh8 h
  simp only at this
  rw[w64 (by omega) (by omega)];simp
theorem Qia (a b:Int) (l:List Qk) (hl:l.length<=maxLen) (hs:∀s∈l,s.1.length<=maxLen/\s.2.length<=maxLen):qy w (a,b,l)=some (Xo (a,b,l)):=by
 apply Qwp
 simp only[QlL,Qqo a b l hl hs,QQ0,Xo]
 cases h:Yr (a,b,l)
 ·simp
 ·have:=Qh8 h
  simp only at this
  rw[w64 (by omega) (by omega)];simp
def YR (v:List Int) (n:Int):Bool:=inR n 1 5&&decide (((v.length:Nat):Int)=n)&&v.all fun x=>inR x 0 100000
theorem QzN (v:List Int) (n:Int) (hv:v.length<=maxLen):Qbe w (v,n)=some (YR v n):=by
 apply QxF
 have e:=Q5 v.length (fun i=>zc wl (v,n,v,((v.length:Nat):Int),(i:Int))) (fun i=>if(v.drop i).all (fun x=>inR x 0 100000)then .inr (v,n)else .inl false)
  (fun i hi ih=>by
    apply Qi1
    rw[ZG (fun x=>inR x 0 100000) v _ _ hi]
    simp only[QgW,ilt hi,Qj hi,Qf hi,inc hi hv,QQ1,Xi,QQ0,ih]
    cases inR v[i] 0 100000<;>simp)
  (by
    apply Qi1
    simp[QgW])
 simp only[QQ6,QRg]at e
 simp only[QnU,e,QQ0,Xi,YR]
 cases v.all fun x=>inR x 0 100000
 ·simp[Qp]
 ·simp only[if_true,Qp,QY0,QRn]
  cases inR n 1 5<;>simp
theorem QwP (v:List Int) (n:Int) (hv:v.length<=maxLen):Qcx w (v,n)=some (YR v n):=by
 apply QxL
 by_cases h2:((v.length:Nat):Int)=n
 ·subst h2
  have e:=Q5 v.length (fun i=>zl wl (v,((v.length:Nat):Int),(i:Int))) (fun i=>if(v.drop i).all (fun x=>inR x 0 100000)then .inr ()else .inl false)
   (fun i hi ih=>by
     apply QiC
     rw[ZG (fun x=>inR x 0 100000) v _ _ hi]
     simp only[QgZ,ilt hi,Qj hi,Qf hi,inc hi hv,QQ1,Xx,QQ0,ih]
     cases inR v[i] 0 100000<;>simp)
   (by
     apply QiC
     simp[QgZ])
  simp only[QQ6,QRg]at e
  simp only[Qed,e,QQ0,Xx,YR]
  cases inR ((v.length:Nat):Int) 1 5
  ·simp
  ·cases v.all fun x=>inR x 0 100000<;>simp[Qp]
 ·simp only[Qed,Xx,QQ0,YR,df h2]
  cases inR n 1 5<;>simp
def xS (r:List Int):Bool:=(r.all fun x=>inR x 0 1000)&&decide (((r.length:Nat):Int)=5)
def KO (t:List (List Int)) (n:Int):Bool:=inR n 1 5&&decide (((t.length:Nat):Int)=n)&&t.all xS
theorem QEe (t:List (List Int)) (n:Int) (ht:t.length<=maxLen) (hr:∀r∈t,r.length<=maxLen):Qcp w (t,n)=some (KO t n):=by
 apply QtL
 have inner:∀(i:Int) (r:List Int),r.length<=maxLen->KD wl (t,n,r,t,((t.length:Nat):Int),i,r,((r.length:Nat):Int),0)=some (if r.all (fun x=>inR x 0 1000)then .inr (t,n,r,t,((t.length:Nat):Int),i)else .inl false):=by
  intro i r hr
  have e:=Q5 r.length (fun k=>KD wl (t,n,r,t,((t.length:Nat):Int),i,r,((r.length:Nat):Int),(k:Int))) (fun k=>if(r.drop k).all (fun x=>inR x 0 1000)then .inr (t,n,r,t,((t.length:Nat):Int),i)else .inl false)
   (fun k hk ih=>by
     apply QfD
     rw[ZG (fun x=>inR x 0 1000) r _ _ hk]
     simp only[QcW,ilt hk,Qj hk,Qf hk,inc hk hr,QQ1,Xi,QQ0,ih]
     cases inR r[k] 0 1000<;>simp)
   (by
     apply QfD
     simp[QcW])
  simpa using e
 have e:=Q5 t.length (fun i=>J3 wl (t,n,t,((t.length:Nat):Int),(i:Int))) (fun i=>if(t.drop i).all xS then .inr (t,n)else .inl false)
  (fun i hi ih=>by
    apply QfT
    rw[ZG xS t _ _ hi]
    have hx:=hr _ (QRf hi)
    simp only[QcU,ilt hi,Qj hi,Qf hi,QQ1,inner _ _ hx,QQ0,xS]
    cases t[i].all fun x=>inR x 0 1000
    ·simp[Qp]
    ·simp only[if_true,Qp,QY0,QRd,inc hi ht,ih]
     cases decide (((t[i].length:Nat):Int)=5)<;>simp)
  (by
    apply QfT
    simp[QcU])
 simp only[QQ6,QRg]at e
 simp only[Qke,e,QQ0,Xi,KO]
 cases t.all xS
 ·simp[Qp]
 ·simp only[if_true,Qp,QY0,QRn]
  cases inR n 1 5<;>simp
theorem QBE (t:List (List Int)) (n:Int) (ht:t.length<=maxLen) (hr:∀r∈t,r.length<=maxLen):Qbo w (t,n)=some (KO t n):=by
 apply Qtu
 by_cases h2:((t.length:Nat):Int)=n
 ·subst h2
  have inner:∀(i:Nat) (hi:i<t.length),KV wl (t,((t.length:Nat):Int),(i:Int),0)=some (if t[i].all (fun x=>inR x 0 1000)then .inr (t,((t.length:Nat):Int),(i:Int))else .inl false):=by
   intro i hi
   have hx:=hr _ (QRf hi)
   have e:=Q5 t[i].length (fun k=>KV wl (t,((t.length:Nat):Int),(i:Int),(k:Int))) (fun k=>if(t[i].drop k).all (fun x=>inR x 0 1000)then .inr (t,((t.length:Nat):Int),(i:Int))else .inl false)
    (fun k hk ih=>by
      apply QfV
      rw[ZG (fun x=>inR x 0 1000) t[i] _ _ hk]
      simp only[QbP,Qj hi,Qf hi,ilt hk,Qj hk,Qf hk,inc hk hx,QQ1,Xx,QQ0,ih]
      cases inR t[i][k] 0 1000<;>simp)
    (by
      apply QfV
      simp only[QbP,Qj hi,Qf hi,Qo,QQ1,QQ2,Qv7])
   simpa using e
  have e:=Q5 t.length (fun i=>Jp wl (t,((t.length:Nat):Int),(i:Int))) (fun i=>if(t.drop i).all xS then .inr ()else .inl false)
   (fun i hi ih=>by
     apply Qf2
     rw[ZG xS t _ _ hi]
     simp only[QaX,ilt hi,Qj hi,Qf hi,QQ1,inner i hi,QQ0,xS]
     cases h5:decide (((t[i].length:Nat):Int)=5)
     ·simp
     ·cases t[i].all fun x=>inR x 0 1000
      ·simp[Qp]
      ·simp only[if_true,Qp,QY0,QRd,QQ3,QQ2,QQ1,inc hi ht,ih])
   (by
     apply Qf2
     simp[QaX])
  simp only[QQ6,QRg]at e
  simp only[Qaa,e,QQ0,Xx,KO]
  cases inR ((t.length:Nat):Int) 1 5
  ·simp
  ·cases t.all xS<;>simp[Qp]
 ·simp only[Qaa,Xx,QQ0,KO,df h2]
  cases inR n 1 5<;>simp
def Qj2:Int->List Int->Int
 |m,[]=>m
 |m,x::l=>Qj2 (mxI m x) l
theorem QB2 (b:Int):(m:Int)->(l:List Int)->(decide (b<Qj2 m l)= !(decide (m<=b)&&l.all fun x=>decide (x<=b)))
 |m,[]=>by
  by_cases h:m<=b
  ·rw[Qj2,dt h,df (show¬b<m by omega)];simp
  ·rw[Qj2,df h,dt (show b<m by omega)];simp
 |m,x::l=>by
  rw[Qj2,QB2 b (mxI m x) l,QY25]
  have:decide (mxI m x<=b)=(decide (m<=b)&&decide (x<=b)):=by
   unfold mxI
   split
   ·by_cases h:x<=b
    ·simp[h];omega
    ·simp[h]
   ·by_cases h:m<=b
    ·simp[h];omega
    ·simp[h]
  rw[this,Bool.and_assoc]
theorem QJf (a:Int) (l:List Int) (h:(a::l).length<=maxLen):K4 w (a::l)=some (Qj2 a l):=by
 apply Qot
 have main:∀n i (m:Int),1<=i->i+n=(a::l).length->ZA wl (a::l,m,(i:Int))=some (Qj2 m ((a::l).drop i)):=by
  intro n
  induction n with
  |zero=>
   intro i m h1 hi
   apply jJ
   have:i=(a::l).length:=by omega
   rw[this]
   simp only[xM,Qo,QQ2,QRl,Qj2]
  |succ n ih=>
   intro i m h1 hi
   have hi':i<(a::l).length:=by omega
   apply jJ
   simp only[xM,ilt hi',Qj hi',Qf hi',inc hi' h,QQ1,ih (i+1) _ (by omega) (by omega)]
   rw[QRa hi',Qj2]
 have e:=main l.length 1 a (by omega) (by simp;omega)
 simp only[List.drop_succ_cons,QRg]at e
 have h0:0<(a::l).length:=by simp
 have e0:inb 0 (a::l).length=true:=Qj h0
 have e1:rd1 (0:Int) (a::l) 0=a:=rfl
 have e:ZA wl (a::l,a,1)=some (Qj2 a l):=e
 simp only[Qav,df (show¬(((a::l).length:Nat):Int)<1 by simp;omega),QQ2,e0,QQ1,e1,e,QQ0]
end Go.Proofs.YtiejfnbmficbmaaGreat.M
