/- What the plain forms that FnExactNodeText reaches come to: PRd. No conditions but those that each theorem states. -/
import Derived.Test.YtameehmkoglkeaaGreatDoorFnExactNodeTextPSem
import Derived.Lib.ItoaLen
import Derived.Lib.Join
import Derived.Lib.IndexLaws
set_option linter.all false
namespace Go.Proofs.YtameehmkoglkeaaGreatDoor.M
open Go Go.Eng Go.Proofs
set_option linter.unusedVariables false
structure Bs (b:List Int):Prop where
 isb:isB b
 len:b.length<=4294967296
def rnum (b:List Int) (p:Int) (bad:Bool):Int×Int×Bool:=bif bad then(0,p,true)else(bif (Qb0 b p).2.2 then((Qb0 b p).1,(Qb0 b p).2.1,false)else(0,p,true))
def KT (b:List Int) (p:Int):ByteArray×Int×Bool:=bif (Qb0 b p).2.2 then(bif decide ((b.length:Int) - (Qb0 b p).2.1<(Qb0 b p).1)then(⟨#[]⟩,0,false)else(KA (List.take (Qb0 b p).1.toNat (List.drop (Qb0 b p).2.1.toNat b)),(Qb0 b p).2.1+(Qb0 b p).1,true))else(⟨#[]⟩,0,false)
def QkO (b:List Int):Nat->Int->Bool->List Int×Int×Bool
 |0,p,bad=>([],p,bad)
 |m+1,p,bad=>bif bad then([],p,bad)else((rnum b p bad).1::(QkO b m (rnum b p bad).2.1 (rnum b p bad).2.2).1,(QkO b m (rnum b p bad).2.1 (rnum b p bad).2.2).2)
def rmany (b:List Int) (p:Int) (bad:Bool) (t:Nat):List Int×Int×Bool:=bif decide (100<(rnum b p bad).1)then([],(rnum b p bad).2.1,true)else QkO b ((rnum b p bad).1.toNat*t) (rnum b p bad).2.1 (rnum b p bad).2.2
def Enc (b:List Int) (p:Int) (l:List Int):Prop:=∃k:Nat,p=(k:Int)/\k<=b.length/\b.drop k=l
theorem Enc.start (b:List Int):Enc b 0 b:=⟨0,rfl,Nat.zero_le _,rfl⟩
theorem Enc.skip {b:List Int}{k:Nat}{a l:List Int}(h:b.drop k=a++l) (hk:k<=b.length):Enc b ((k+a.length:Nat):Int) l:=by
 have h2:(b.drop k).length=(a++l).length:=by rw[h]
 rw[List.length_drop,QRj]at h2
 refine⟨k+a.length,rfl,by omega, ?_⟩
 rw[<-List.drop_drop,h,List.drop_left]
def QmR (xs:List Qd):List Int:=xs.flatMap fun x=>[x.1,x.2]
structure Hd where
 a0:Int
 a1:Int
 a2:Int
 a3:Int
 a4:Int
 a5:List Int
 a6:Int
 a7:List Int
 a8:List Int
 n:Int
 p:Int
 bad:Bool
def hi1 (c:List Int):Int×Int×Bool:=rnum c 2 false
def hi2 (c:List Int):Int×Int×Bool:=rnum c (hi1 c).2.1 (hi1 c).2.2
def hs1 (c:List Int):Int×Int×Bool:=rnum c 2 false
def hs2 (c:List Int):Int×Int×Bool:=rnum c (hs1 c).2.1 (hs1 c).2.2
def hs3 (c:List Int):Int×Int×Bool:=rnum c (hs2 c).2.1 (hs2 c).2.2
def hs4 (c:List Int):Int×Int×Bool:=rnum c (hs3 c).2.1 (hs3 c).2.2
def hs5 (c:List Int):Int×Int×Bool:=rnum c (hs4 c).2.1 (hs4 c).2.2
def hs6 (c:List Int):List Int×Int×Bool:=rmany c (hs5 c).2.1 (hs5 c).2.2 1
def body (b:List Int):List Int:=List.take ((b.length:Int) - 4).toNat b
def bsl (l:List UInt8):ByteArray:=⟨l.toArray⟩
theorem Zf (l m:List UInt8):bsl l++bsl m=bsl (l++m):=by
 apply ByteArray.ext
 simp[bsl]
theorem Qkd (s:ByteArray):bsl s.data.toList=s:=by
 apply ByteArray.ext
 simp[bsl]
theorem XB (l:List UInt8):(bsl l).size=l.length:=by simp[bsl,ByteArray.size]
def digits (n:Int):ByteArray:=bsl (Go.Lib.itoa n)
theorem Ye (n:Int) (h0: -9223372036854775808<=n) (h1:n<=9223372036854775807):QP w n=some (digits n):=by
 apply QhT
 have e:strconv_Itoa w n=some (digits n):=by
  apply Qgy
  simp only[vX,Qgo,dt (show(-9223372036854775808:Int)<=n/\n<=9223372036854775807 from⟨h0,h1⟩),QQ1];rfl
 simp only[QaV,e,QQ0]
def QdB (u:Nat):List UInt8:=if u=0 then []else Go.Lib.decDigits u
theorem QoQ {u:Nat}(h:u≠0):QdB u=QdB (u / 10)++[UInt8.ofNat (48+u % 10)]:=by
 unfold QdB
 rw[if_neg h]
 by_cases h10:u<10
 ·rw[Go.Lib.decDigits,dif_pos h10,show u / 10=0 by omega,show u % 10=u by omega];rfl
 ·rw[Go.Lib.decDigits,dif_neg h10,if_neg (show u / 10≠0 by omega)]
theorem QnI (d:Nat) (h:d<10):KA [IntKind.wrap .u8 (wR (48+(d:Int)))]=bsl [UInt8.ofNat (48+d)]:=by
 have:d=0\/d=1\/d=2\/d=3\/d=4\/d=5\/d=6\/d=7\/d=8\/d=9:=by omega
 rcases this with rfl|rfl|rfl|rfl|rfl|rfl|rfl|rfl|rfl|rfl<;>decide
theorem Qaj (b:Bool):(k u:Nat)->(y:Int)->(acc:List UInt8)->(y=(u:Int)\/y= -(u:Int))->u<10^k->u<=9223372036854775808->(y=(u:Int)->u<=9223372036854775807)->acc.length+k<=1000->X0 wl (y,b,bsl acc)=some (b,bsl (QdB u++acc))
 |0,u,y,acc,hy,hu,_,_,_=>by
  apply ju
  have h0:u=0:=by simpa using hu
  subst h0
  simp only[VA,dt (show y=0 by omega),QQ3,QQ2,QdB,if_true,QRe]
 |k+1,u,y,acc,hy,hu,hmx,hmx2,ha=>by
  apply ju
  by_cases h0:u=0
  ·subst h0
   simp only[VA,dt (show y=0 by omega),QQ3,QQ2,QdB,if_true,QRe]
  ·have hlt:u / 10<10^k:=by rw[Nat.pow_succ]at hu;omega
   have hb:=QnI (u % 10) (by omega)
   have hf:fits (ByteArray.size (bsl [UInt8.ofNat (48+u % 10)])+ByteArray.size (bsl acc)) 1=true:=by
    rw[XB,XB];exact QN (by simp;omega)
   simp only[VA,df (show¬y=0 by omega),QQ4,QQ1,dt (show(10:Int)≠0 by omega)]
   rw[QoQ h0,QRc]
   by_cases hy':y=(u:Int)
   ·have e1:Int.tmod y 10=((u % 10:Nat):Int):=by rw[hy'];rfl
    have e2:Int.tdiv y 10=((u / 10:Nat):Int):=by rw[hy'];rfl
    have ih:=Qaj b k (u / 10) ((u / 10:Nat):Int) ([UInt8.ofNat (48+u % 10)]++acc) (.inl rfl) hlt (by omega) (fun _=>by omega) (by simp;omega)
    rw[e1,e2,df (show¬(((u % 10:Nat):Int)<0) by omega),hb,hf,w64 (n:=((u / 10:Nat):Int)) (by omega) (by omega),Zf]
    exact ih
   ·have hy2:y= -(u:Int):=by omega
    have e1:Int.tmod y 10= -((u % 10:Nat):Int):=by rw[hy2,Int.neg_tmod];rfl
    have e2:Int.tdiv y 10= -((u / 10:Nat):Int):=by rw[hy2,Int.neg_tdiv];rfl
    have ih:=Qaj b k (u / 10) (-((u / 10:Nat):Int)) ([UInt8.ofNat (48+u % 10)]++acc) (.inr rfl) hlt (by omega) (fun _=>by omega) (by simp;omega)
    rw[e1,e2]
    by_cases hz:u % 10=0
    ·rw[hz]at hb hf ih⊢
     rw[show(-((0:Nat):Int))=((0:Nat):Int)from rfl,df (show¬(((0:Nat):Int)<0) by omega),hb,hf,w64 (n:= -((u / 10:Nat):Int)) (by omega) (by omega),Zf]
     exact ih
    ·rw[dt (show -((u % 10:Nat):Int)<0 by omega),w64 (n:=0 - -((u % 10:Nat):Int)) (by omega) (by omega),show(0:Int) - -((u % 10:Nat):Int)=((u % 10:Nat):Int) by omega,hb,hf,w64 (n:= -((u / 10:Nat):Int)) (by omega) (by omega),Zf]
     exact ih
theorem Zz (n:Int) (h0: -9223372036854775808<=n) (h1:n<=9223372036854775807):QE w n=some (digits n):=by
 apply Qio
 simp only[Qbv]
 by_cases hz:n=0
 ·subst hz;simp only[decide_true,QQ1,digits,Go.Lib.itoa,if_neg (show¬(0:Int)<0 by omega),Int.toNat_zero,Go.Lib.decDigits_one (show 0<10 by omega)];rfl
 ·have e:=Qaj (decide (n<0)) 20 n.natAbs n [] (by omega) (by omega) (by omega) (by omega) (by simp)
  have e':X0 wl (n,decide (n<0),(⟨#[]⟩:ByteArray))=some (decide (n<0),bsl (QdB n.natAbs)):=by rw[QY19]at e;exact e
  simp only[df hz,QQ2,e',QQ0]
  have hd:QdB n.natAbs=Go.Lib.decDigits n.natAbs:=by unfold QdB;rw[if_neg (by omega)]
  have hlen:(Go.Lib.decDigits n.natAbs).length<=1000:=by
   rw[Go.Lib.decDigits_length]
   have:=Go.Lib.nDigits_le20 n.natAbs (by omega)
   omega
  by_cases hn:n<0
  ·rw[dt hn,hd]
   simp only[QQ1]
   rw[QN (by rw[XB];show(1+_)*1<=_;omega)]
   simp only[QQ1,digits,Go.Lib.itoa,if_pos hn]
   exact congrArg some (Zf [45] _)
  ·rw[df hn,hd]
   simp only[QQ2,digits,Go.Lib.itoa,if_neg hn,show n.toNat=n.natAbs by omega]
theorem QqM (xs:List ByteArray) (sep:ByteArray) (h1:xs.length<=140737488355328) (h2:(Go.Lib.join (xs.map (·.data.toList)) sep.data.toList).length<=140737488355328):strings_Join w (xs,sep)=some (bsl (Go.Lib.join (xs.map (·.data.toList)) sep.data.toList)):=by
 apply Qg3
 simp only[vn,Qgk,dt (show xs.length<=140737488355328/\(Go.Lib.join (xs.map (·.data.toList)) sep.data.toList).length<=140737488355328 from⟨h1,h2⟩),QQ1];rfl
theorem Qqe (n:Int) (h0: -9223372036854775808<=n) (h1:n<=9223372036854775807):(Go.Lib.itoa n).length<=21:=Go.Lib.itoa_length_le n h0 h1
theorem vZ (l:List UInt8):(bsl l).data.toList=l:=by simp[bsl]
theorem Qx (n:Nat) (h:n<=1000000):fits n 1=true:=QN (by omega)
def Qhm (r:Int):UInt8:=bif decide (r=0)then 117 else(bif decide (r=1)then 103 else 63)
def Ja (e:Xm):List UInt8:=Go.Lib.itoa e.1++([Qhm e.2.1]++(Go.Lib.itoa e.2.2.1++([46]++(Go.Lib.itoa e.2.2.2.1++([58]++e.2.2.2.2.data.toList)))))
theorem Xf {n:Int}(h0: -100000<=n) (h1:n<=1000000):(Go.Lib.itoa n).length<=21:=Qqe n (by omega) (by omega)
theorem QkL (e:Xm) (h:X4 e=true):VI w e=some (bsl (Ja e)):=by
 have hn:=Qdv h
 obtain⟨a0,a1,a2,a3,a4⟩:=e
 obtain⟨tl,rfl⟩:∃tl,a4=bsl tl:=⟨_,(Qkd a4).symm⟩
 simp only[XB]at hn
 apply Qe4
 have l0:=Xf (n:=a0) (by omega) (by omega)
 have l2:=Xf (n:=a2) (by omega) (by omega)
 have l3:=Xf (n:=a3) (by omega) (by omega)
 have c1:(⟨#[117]⟩:ByteArray)=bsl [117]:=rfl
 have c2:(⟨#[103]⟩:ByteArray)=bsl [103]:=rfl
 have c4:(⟨#[46]⟩:ByteArray)=bsl [46]:=rfl
 have c5:(⟨#[58]⟩:ByteArray)=bsl [58]:=rfl
 simp only[ym,Ye a0 (by omega) (by omega),Ye a2 (by omega) (by omega),Ye a3 (by omega) (by omega),QQ0,digits,c1,c2,c4,c5,Zf,XB,Ja,vZ]
 by_cases h0:a1=0
 ·subst h0
  simp only[decide_true,QQ1,Qhm]
  rw[Qx,Qx,Qx,Qx,Qx,Qx]
  ·simp only[QQ1,QRc]
  all_goals(simp only[QRj,QY0,QY2];omega)
 ·have h1:a1=1:=by omega
  subst h1
  simp only[df (show¬(1:Int)=0 by omega),QQ2,decide_true,QQ1,Qhm]
  rw[Qx,Qx,Qx,Qx,Qx,Qx]
  ·simp only[QQ1,QRc]
  all_goals(simp only[QRj,QY0,QY2];omega)
theorem Qju (e:Xm) (h:X4 e=true):YQ w e=some (bsl (Ja e)):=by
 have hn:=Qdv h
 obtain⟨a0,a1,a2,a3,a4⟩:=e
 obtain⟨tl,rfl⟩:∃tl,a4=bsl tl:=⟨_,(Qkd a4).symm⟩
 simp only[XB]at hn
 apply Qe3
 have l0:=Xf (n:=a0) (by omega) (by omega)
 have l2:=Xf (n:=a2) (by omega) (by omega)
 have l3:=Xf (n:=a3) (by omega) (by omega)
 have c1:(⟨#[117]⟩:ByteArray)=bsl [117]:=rfl
 have c2:(⟨#[103]⟩:ByteArray)=bsl [103]:=rfl
 have c4:(⟨#[46]⟩:ByteArray)=bsl [46]:=rfl
 have c5:(⟨#[58]⟩:ByteArray)=bsl [58]:=rfl
 simp only[yq,Zz a0 (by omega) (by omega),Zz a2 (by omega) (by omega),Zz a3 (by omega) (by omega),QQ0,digits,c1,c2,c4,c5,Zf,XB,Ja,vZ]
 by_cases h0:a1=0
 ·subst h0
  simp only[decide_true,QQ1,df (show¬(0:Int)=1 by omega),QQ2,Qhm]
  rw[Qx,Qx,Qx,Qx,Qx,Qx]
  ·simp only[QQ1,QRc]
  all_goals(simp only[QRj,QY0,QY2];omega)
 ·have h1:a1=1:=by omega
  subst h1
  simp only[df (show¬(1:Int)=0 by omega),QQ2,decide_true,QQ1,Qhm]
  rw[Qx,Qx,Qx,Qx,Qx,Qx]
  ·simp only[QQ1,QRc]
  all_goals(simp only[QRj,QY0,QY2];omega)
theorem QdM (sep x:List UInt8):(ws:List (List UInt8))->Go.Lib.join (ws++[x]) sep=(if ws=[]then x else Go.Lib.join ws sep++(sep++x))
 | []=>by simp[Go.Lib.join_one]
 |a::r=>by
  rw[QRv,Go.Lib.join_cons,Go.Lib.join_cons]
  simp[Go.Lib.joinTail]
theorem zj (sep:List UInt8) (hs:sep.length=1) (k:Nat):(ws:List (List UInt8))->(∀x∈ws,x.length<=k)->(Go.Lib.join ws sep).length<=(k+1)*ws.length
 | [],_=>by simp[Go.Lib.join_nil]
 |a::r,h=>by
  rw[Go.Lib.join_cons,QRj]
  have ha:=h a (by simp)
  have:(Go.Lib.joinTail sep r).length<=(k+1)*r.length:=by
   clear ha
   induction r with
   |nil=>simp[Go.Lib.joinTail]
   |cons y r ih=>
    have hy:=h y (by simp)
    have ih':=ih (fun x hx=>h x (by rcases QRk.1 hx with rfl|hx<;>simp_all))
    have e:Go.Lib.joinTail sep (y::r)=sep++y++Go.Lib.joinTail sep r:=by simp[Go.Lib.joinTail]
    rw[e,QRj,QRj,hs,QY0,Nat.mul_add]
    omega
  rw[QY0,Nat.mul_add]
  omega
theorem Qf8 (sep:List UInt8) (ws:List (List UInt8)) (h:∀x∈ws,x≠[]):Go.Lib.join ws sep=[]↔ws=[]:=by
 cases ws with
 |nil=>simp[Go.Lib.join_nil]
 |cons a r=>
  rw[Go.Lib.join_cons]
  have:=h a (by simp)
  simp[this]
theorem yw (l:List UInt8):ZG (bsl l) (⟨#[]⟩:ByteArray)=decide (l=[]):=by
 rw[Qmw,decide_eq_decide]
 constructor
 ·intro h
  have:=congrArg (fun b:ByteArray=>b.data.toList) h
  simpa[bsl]using this
 ·intro h;rw[h];rfl
def jg (v:List Int):List UInt8:=Go.Lib.join (v.map Go.Lib.itoa) [44]
def inV (n:Int):Prop:= -100000<=n/\n<=1000000
theorem QiV (v:List Int) (h:∀n∈v,inV n):∀x∈v.map Go.Lib.itoa,x.length<=21:=fun x hx=>by
 obtain⟨n,hn,rfl⟩:=QY10.1 hx
 exact Xf (h n hn).1 (h n hn).2
theorem Qc0 (v:List Int) (h:∀n∈v,inV n) (hl:v.length<=5):(jg v).length<=110:=by
 have:=zj [44] rfl 21 _ (QiV v h)
 rw[List.length_map]at this
 unfold jg;omega
theorem Qmr (ws:List (List UInt8)):(ws.map bsl).map (fun x:ByteArray=>x.data.toList)=ws:=by
 rw[List.map_map]
 have:((fun x:ByteArray=>x.data.toList)∘bsl)=id:=by funext l;exact vZ l
 rw[this,List.map_id]
theorem Qj9 (ws:List (List UInt8)) (c:UInt8) (k:Nat) (h:∀x∈ws,x.length<=k) (hk:k<=1000) (hl:ws.length<=1000):strings_Join w (ws.map bsl,bsl [c])=some (bsl (Go.Lib.join ws [c])):=by
 have hj:=zj [c] rfl k ws h
 have hb:(k+1)*ws.length<=1001*1000:=Nat.mul_le_mul (by omega) hl
 have e:=QqM (ws.map bsl) (bsl [c]) (by rw[List.length_map];omega) (by rw[Qmr,vZ];omega)
 rw[Qmr,vZ]at e
 exact e
theorem QgV (v:List Int) (h:∀n∈v,inV n) (hl:v.length<=5):Vt w v=some (bsl (jg v)):=by
 apply Qgb
 have e:=Q1 v.length (fun i (o:List ByteArray)=>XW wl (v,(v.length:Int),(i:Int),o)) (fun i o=>o++((v.drop i).map Go.Lib.itoa).map bsl) (fun i o=>o.length=i)
  (fun i hi o ho ih=>by
    apply V4
    have hn:=h _ (QRf hi)
    have ih1:=ih (o++[digits v[i]]) (by simp[ho])
    have hd:=Ye v[i] (by have:=hn.1;omega) (by have:=hn.2;omega)
    simp only[KP,ilt hi,Qn hi,Qk hi,QQ1,hd,QQ0,inc hi (show v.length<=maxLen by simp only[maxLen];omega)]
    rw[QN (by simp;omega),QQ1,ih1,QRa hi,QY8,QY8,QRc]
    rfl)
  (fun o ho=>by
    apply V4
    simp only[KP,Qy,QQ2,QRl,List.map_nil,QY19])
  [] rfl
 simp only[QQ6,QRg,QRe]at e
 have ej:=Qj9 (v.map Go.Lib.itoa) 44 21 (QiV v h) (by omega) (by rw[List.length_map];omega)
 have en:Ki w v=some (bsl (jg v)):=by
  apply QdL
  simp only[qM,e,QQ0]
  exact(congrArg (fun z=>Option.bind z _) ej).trans rfl
 simp only[vY,en,QQ0]
theorem Qfv (v:List Int) (h:∀n∈v,inV n) (hl:v.length<=5):Ve w v=some (bsl (jg v)):=by
 apply Qgr
 have e:=Q1 v.length (fun i (ws:List (List UInt8))=>XI wl (v,bsl (Go.Lib.join ws [44]),(i:Int))) (fun i ws=>bsl (Go.Lib.join (ws++(v.drop i).map Go.Lib.itoa) [44])) (fun i ws=>ws.length=i/\∀x∈ws,x.length<=21)
  (fun i hi ws hw ih=>by
    apply yD
    have hn:=h _ (QRf hi)
    have h21:=Xf hn.1 hn.2
    have hd:=Zz v[i] (by have:=hn.1;omega) (by have:=hn.2;omega)
    have hj:=zj [44] rfl 21 ws hw.2
    have ih1:=ih (ws++[Go.Lib.itoa v[i]]) ⟨by simp[hw.1],fun x hx=>by
     rcases QRh.1 hx with hx|hx
     ·exact hw.2 x hx
     ·obtain rfl:=List.mem_singleton.1 hx;exact h21⟩
    have c1:(⟨#[44]⟩:ByteArray)=bsl [44]:=rfl
    simp only[qW,ilt hi,Qn hi,Qk hi,QQ1,hd,QQ0,inc hi (show v.length<=maxLen by simp only[maxLen];omega),digits,c1,Zf,XB]
    rw[QdM]at ih1
    rw[QRa hi,QY8]
    have hfin:ws++Go.Lib.itoa v[i]::(v.drop (i+1)).map Go.Lib.itoa=ws++[Go.Lib.itoa v[i]]++(v.drop (i+1)).map Go.Lib.itoa:=by simp
    rw[hfin]
    by_cases h0:i=0
    ·have hws:ws=[]:=List.length_eq_zero_iff.1 (by rw[hw.1,h0])
     subst hws
     rw[if_pos rfl]at ih1
     rw[df (show¬(0:Int)<(i:Int) by omega),QQ2,Qx _ (by simp[Go.Lib.join_nil];omega),QQ1,Go.Lib.join_nil,QRe]
     exact ih1
    ·have hws:ws≠[]:=fun e=>h0 (by rw[<-hw.1,e];rfl)
     rw[if_neg hws]at ih1
     rw[dt (show(0:Int)<(i:Int) by omega),QQ1,Qx _ (by simp;omega),Qx _ (by simp;omega),QQ1,QQ1,QRc]
     exact ih1)
  (fun ws hw=>by
    apply yD
    simp only[qW,Qy,QQ2,QRl,List.map_nil,QY19])
  [] ⟨rfl,by simp⟩
 simp only[QQ6,QRg,QRe,Go.Lib.join_nil]at e
 have e':XI wl (v,(⟨#[]⟩:ByteArray),0)=some (bsl (jg v)):=e
 simp only[vz,e',QQ0]
def XF (x:Qj):List UInt8:=Go.Lib.itoa x.1++([61]++Ja x.2)
def X3 (f:Qd):List UInt8:=[45]++(Go.Lib.itoa f.1++([60]++Go.Lib.itoa f.2))
def Jb (s:Qi):List UInt8:=Go.Lib.join (s.1.map XF++s.2.map X3) [32]
theorem Qdg {e:Xm}(h:X4 e=true):(Ja e).length<=75:=by
 have hn:=Qdv h
 have l0:=Xf (n:=e.1) (by omega) (by omega)
 have l2:=Xf (n:=e.2.2.1) (by omega) (by omega)
 have l3:=Xf (n:=e.2.2.2.1) (by omega) (by omega)
 have lt:e.2.2.2.2.data.toList.length<=8:=by rw[<-Go.Lib.size_eq];omega
 simp only[Ja,QRj,QY0,QY2]
 omega
structure StT (s:Qi):Prop where
 items:∀x∈s.1,(0<=x.1/\x.1<=4)/\X4 x.2=true
 floors:∀f∈s.2,(0<=f.1/\f.1<=100000)/\0<=f.2/\f.2<=100000
 l1:s.1.length<=5
 l2:s.2.length<=5
theorem Qc7 {x:Qj}(h:(0<=x.1/\x.1<=4)/\X4 x.2=true):XF x≠[]/\(XF x).length<=100:=by
 have l0:=Xf (n:=x.1) (by omega) (by omega)
 have l1:=Qdg h.2
 refine⟨by simp[XF], ?_⟩
 simp only[XF,QRj,QY0,QY2]
 omega
theorem QfB {f:Qd}(h:(0<=f.1/\f.1<=100000)/\0<=f.2/\f.2<=100000):X3 f≠[]/\(X3 f).length<=100:=by
 have l0:=Xf (n:=f.1) (by omega) (by omega)
 have l1:=Xf (n:=f.2) (by omega) (by omega)
 refine⟨by simp[X3], ?_⟩
 simp only[X3,QRj,QY0,QY2]
 omega
theorem Qlg (s:Qi) (h:StT s):VO w s=some (bsl (Jb s)):=by
 obtain⟨a,b⟩:=s
 obtain⟨hi',hf',h1,h2⟩:=h
 simp only at hi' hf' h1 h2
 apply QeZ
 have c61:(⟨#[61]⟩:ByteArray)=bsl [61]:=rfl
 have c45:(⟨#[45]⟩:ByteArray)=bsl [45]:=rfl
 have c60:(⟨#[60]⟩:ByteArray)=bsl [60]:=rfl
 have e1:=Q1 a.length (fun i (o:List ByteArray)=>Zq wl (a,(a.length:Int),(i:Int),a,b,o)) (fun i o=>(a,b,o++((a.drop i).map XF).map bsl)) (fun i o=>o.length=i)
  (fun i hi o ho ih=>by
    apply J6
    have hx:=hi' _ (QRf hi)
    have l0:=Xf (n:=a[i].1) (by omega) (by omega)
    have le:=Qdg hx.2
    have ih1:=ih (o++[bsl (XF a[i])]) (by simp[ho])
    have hd:=Ye a[i].1 (by omega) (by omega)
    simp only[VV,ilt hi,Qn hi,Qk hi,QQ1,hd,QkL a[i].2 hx.2,QQ0,inc hi (show a.length<=maxLen by simp only[maxLen];omega),digits,c61,Zf,XB]
    rw[Qx _ (by simp;omega),Qx _ (by simp;omega),QN (by simp;omega),QRa hi,QY8,QY8]
    simp only[QQ1]
    rw[QRc]at ih1
    have ew:Go.Lib.itoa a[i].1++[61]++Ja a[i].2=XF a[i]:=by simp[XF]
    rw[ew]
    exact ih1)
  (fun o ho=>by
    apply J6
    simp only[VV,Qy,QQ2,QRl,List.map_nil,QY19])
  [] rfl
 have e2:=fun(p:List ByteArray) (hp:p.length<=5)=>Q1 b.length (fun i (o:List ByteArray)=>Zr wl (b,(b.length:Int),(i:Int),o)) (fun i o=>o++((b.drop i).map X3).map bsl) (fun i o=>o.length<=5+i)
  (fun i hi o ho ih=>by
    apply xr
    have hx:=hf' _ (QRf hi)
    have l0:=Xf (n:=b[i].1) (by omega) (by omega)
    have l1:=Xf (n:=b[i].2) (by omega) (by omega)
    have ih1:=ih (o++[bsl (X3 b[i])]) (by simp;omega)
    have hd:=Ye b[i].1 (by omega) (by omega)
    have hd2:=Ye b[i].2 (by omega) (by omega)
    simp only[VX,ilt hi,Qn hi,Qk hi,QQ1,hd,hd2,QQ0,inc hi (show b.length<=maxLen by simp only[maxLen];omega),digits,c45,c60,Zf,XB]
    rw[Qx _ (by simp;omega),Qx _ (by simp;omega),Qx _ (by simp;omega),QN (by simp;omega),QRa hi,QY8,QY8]
    simp only[QQ1]
    rw[QRc]at ih1
    have ew: [45]++Go.Lib.itoa b[i].1++[60]++Go.Lib.itoa b[i].2=X3 b[i]:=by simp[X3]
    rw[ew]
    exact ih1)
  (fun o ho=>by
    apply xr
    simp only[VX,Qy,QQ2,QRl,List.map_nil,QY19])
  p (by omega)
 have e2':=e2 ((a.map XF).map bsl) (by simpa using h1)
 simp only[QQ6,QRg,QRe]at e1 e2'
 have ej:=Qj9 (a.map XF++b.map X3) 32 100 (fun x hx=>by
  rcases QRh.1 hx with hx|hx
  ·obtain⟨y,hy,rfl⟩:=QY10.1 hx;exact(Qc7 (hi' y hy)).2
  ·obtain⟨y,hy,rfl⟩:=QY10.1 hx;exact(QfB (hf' y hy)).2) (by omega) (by simp;omega)
 rw[List.map_append]at ej
 simp only[yL,e1,QQ0,e2',Jb]
 exact(congrArg (fun z=>Option.bind z _) ej).trans rfl
theorem QjC (s:Qi) (h:StT s):Vu w s=some (bsl (Jb s)):=by
 obtain⟨a,b⟩:=s
 obtain⟨hi',hf',h1,h2⟩:=h
 simp only at hi' hf' h1 h2
 apply Qe0
 have c61:(⟨#[61]⟩:ByteArray)=bsl [61]:=rfl
 have c45:(⟨#[45]⟩:ByteArray)=bsl [45]:=rfl
 have c60:(⟨#[60]⟩:ByteArray)=bsl [60]:=rfl
 have c32:(⟨#[32]⟩:ByteArray)=bsl [32]:=rfl
 have e1:=Q1 a.length (fun i (ws:List (List UInt8))=>Xq wl (bsl (Go.Lib.join ws [32]),(i:Int),a,b)) (fun i ws=>(bsl (Go.Lib.join (ws++(a.drop i).map XF) [32]),a,b)) (fun i ws=>ws.length=i/\∀x∈ws,x≠[]/\x.length<=100)
  (fun i hi ws hw ih=>by
    apply qb
    have hx:=hi' _ (QRf hi)
    have l0:=Xf (n:=a[i].1) (by omega) (by omega)
    have le:=Qdg hx.2
    have hj:=zj [32] rfl 100 ws (fun x hx=>(hw.2 x hx).2)
    have hem:=Qf8 [32] ws (fun x hx=>(hw.2 x hx).1)
    have ih1:=ih (ws++[XF a[i]]) ⟨by simp[hw.1],fun x hx'=>by
     rcases QRh.1 hx' with hx'|hx'
     ·exact hw.2 x hx'
     ·obtain rfl:=List.mem_singleton.1 hx';exact Qc7 hx⟩
    have hd:=Zz a[i].1 (by omega) (by omega)
    simp only[V3,ilt hi,Qn hi,Qk hi,QQ1,hd,Qju a[i].2 hx.2,QQ0,inc hi (show a.length<=maxLen by simp only[maxLen];omega),digits,c61,c32,Zf,XB,yw]
    rw[QdM]at ih1
    rw[QRa hi,QY8]
    have hfin:ws++XF a[i]::(a.drop (i+1)).map XF=ws++[XF a[i]]++(a.drop (i+1)).map XF:=by simp
    rw[hfin]
    by_cases hws:ws=[]
    ·subst hws
     rw[if_pos rfl]at ih1
     rw[dt (show Go.Lib.join [] [32]=[]from rfl),QQ3,QQ2,Go.Lib.join_nil,Qx _ (by simp;omega),Qx _ (by simp;omega),Qx _ (by simp;omega)]
     simp only[QQ1,QRe]
     have ew:Go.Lib.itoa a[i].1++[61]++Ja a[i].2=XF a[i]:=by simp[XF]
     rw[ew]
     exact ih1
    ·rw[if_neg hws]at ih1
     rw[df (fun e=>hws (hem.1 e)),QQ4,QQ1,Qx _ (by simp;omega),Qx _ (by simp;omega),Qx _ (by simp;omega),Qx _ (by simp;omega)]
     simp only[QQ1]
     have ew:Go.Lib.join ws [32]++[32]++Go.Lib.itoa a[i].1++[61]++Ja a[i].2=Go.Lib.join ws [32]++([32]++XF a[i]):=by simp[XF]
     rw[ew]
     exact ih1)
  (fun ws hw=>by
    apply qb
    simp only[V3,Qy,QQ2,QRl,List.map_nil,QY19])
  [] ⟨rfl,by simp⟩
 have e2:=Q1 b.length (fun i (ws:List (List UInt8))=>XU wl (bsl (Go.Lib.join ws [32]),(i:Int),a,b)) (fun i ws=>bsl (Go.Lib.join (ws++(b.drop i).map X3) [32])) (fun i ws=>ws.length<=5+i/\∀x∈ws,x≠[]/\x.length<=100)
  (fun i hi ws hw ih=>by
    apply qG
    have hx:=hf' _ (QRf hi)
    have l0:=Xf (n:=b[i].1) (by omega) (by omega)
    have l1:=Xf (n:=b[i].2) (by omega) (by omega)
    have hj:=zj [32] rfl 100 ws (fun x hx=>(hw.2 x hx).2)
    have hem:=Qf8 [32] ws (fun x hx=>(hw.2 x hx).1)
    have ih1:=ih (ws++[X3 b[i]]) ⟨by simp;omega,fun x hx'=>by
     rcases QRh.1 hx' with hx'|hx'
     ·exact hw.2 x hx'
     ·obtain rfl:=List.mem_singleton.1 hx';exact QfB hx⟩
    have hd:=Zz b[i].1 (by omega) (by omega)
    have hd2:=Zz b[i].2 (by omega) (by omega)
    simp only[VY,ilt hi,Qn hi,Qk hi,QQ1,hd,hd2,QQ0,inc hi (show b.length<=maxLen by simp only[maxLen];omega),digits,c45,c60,c32,Zf,XB,yw]
    rw[QdM]at ih1
    rw[QRa hi,QY8]
    have hfin:ws++X3 b[i]::(b.drop (i+1)).map X3=ws++[X3 b[i]]++(b.drop (i+1)).map X3:=by simp
    rw[hfin]
    by_cases hws:ws=[]
    ·subst hws
     rw[if_pos rfl]at ih1
     rw[dt (show Go.Lib.join [] [32]=[]from rfl),QQ3,QQ2,Go.Lib.join_nil,Qx _ (by simp),Qx _ (by simp;omega),Qx _ (by simp;omega),Qx _ (by simp;omega)]
     simp only[QQ1,QRe]
     have ew: [45]++Go.Lib.itoa b[i].1++[60]++Go.Lib.itoa b[i].2=X3 b[i]:=by simp[X3]
     rw[ew]
     exact ih1
    ·rw[if_neg hws]at ih1
     rw[df (fun e=>hws (hem.1 e)),QQ4,QQ1,Qx _ (by simp;omega),Qx _ (by simp;omega),Qx _ (by simp;omega),Qx _ (by simp;omega),Qx _ (by simp;omega)]
     simp only[QQ1]
     have ew:Go.Lib.join ws [32]++[32]++[45]++Go.Lib.itoa b[i].1++[60]++Go.Lib.itoa b[i].2=Go.Lib.join ws [32]++([32]++X3 b[i]):=by simp[X3]
     rw[ew]
     exact ih1)
  (fun ws hw=>by
    apply qG
    simp only[VY,Qy,QQ2,QRl,List.map_nil,QY19])
  (a.map XF) ⟨by simpa using h1,fun x hx=>by obtain⟨y,hy,rfl⟩:=QY10.1 hx;exact Qc7 (hi' y hy)⟩
 simp only[QQ6,QRg,QRe,Go.Lib.join_nil]at e1 e2
 have e1':Xq wl ((⟨#[]⟩:ByteArray),0,a,b)=some (bsl (Go.Lib.join (a.map XF) [32]),a,b):=e1
 simp only[yg,e1',QQ0,e2,Jb]
end Go.Proofs.YtameehmkoglkeaaGreatDoor.M
