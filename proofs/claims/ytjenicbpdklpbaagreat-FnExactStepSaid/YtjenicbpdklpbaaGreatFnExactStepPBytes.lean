/- What the plain forms that FnExactStep reaches come to: PBytes. No conditions but those that each theorem states. -/
import Derived.Test.YtjenicbpdklpbaaGreatFnExactStepPEntry
set_option linter.all false
namespace Go.Proofs.YtjenicbpdklpbaaGreat.M
open Go Go.Eng Go.Proofs
set_option linter.unusedVariables false
def QpQ (n:Int):Int:=IntKind.wrap .u8 (wR (Int.tmod n 128+128))
def zF:Nat->Int->List Int->Int×List Int
 |0,n,o=>(n,o)
 |f+1,n,o=>if 128<=n then zF f (Int.tdiv n 128) (o++[QpQ n])else(n,o)
def QF (n:Int):List Int:=bif inR n 0 2147483647 then(zF 4 n []).2++[IntKind.wrap .u8 (zF 4 n []).1]else []
theorem Qoj:(f:Nat)->(n:Int)->(o:List Int)->(zF f n o).2.length<=o.length+f
 |0,n,o=>by simp[zF]
 |f+1,n,o=>by
  simp only[zF]
  split
  ·have:=Qoj f (Int.tdiv n 128) (o++[QpQ n])
   simp only[QRj,List.length_singleton]at this;omega
  ·simp
theorem Xn (n:Int):(QF n).length<=5:=by
 unfold QF
 have:=Qoj 4 n []
 cases inR n 0 2147483647
 ·simp
 ·simp only[QQ1,QRj,List.length_singleton];simp at this;omega
theorem QBi:(f:Nat)->(n:Int)->(o:List Int)->0<=n->n<128^(f+1)->n<=2147483647->o.length+f<=1000->xd wl (n,o)=some (zF f n o):=by
 intro f
 induction f with
 |zero=>
  intro n o h0 h1 h2 h3
  apply Qhf
  simp only[js,df (show¬128<=n by omega),QQ2,zF]
 |succ f ih=>
  intro n o h0 h1 h2 h3
  apply Qhf
  by_cases h:128<=n
  ·have hd:=Int.tdiv_eq_ediv_of_nonneg (b:=128) h0
   have:=ih (Int.tdiv n 128) (o++[QpQ n]) (by omega) (by rw[Int.pow_succ]at h1;omega) (by omega) (by simp;omega)
   simp only[QpQ]at this
   simp only[js,dt h,QQ1,dt (show(128:Int)≠0 by omega),Qu (show(o.length+List.length [IntKind.wrap .u8 (wR (Int.tmod n 128+128))])*1<=140737488351232 by simp;omega),zF,h,if_true,QpQ]
   rw[w64 (n:=Int.tdiv n 128) (by omega) (by omega)]
   exact this
  ·simp only[js,df h,QQ2,zF,h,decide_false,if_false]
theorem Qzd:(f:Nat)->(n:Int)->(o:List Int)->0<=n->n<128^(f+1)->n<=2147483647->o.length+f<=1000->xk wl (n,o)=some (zF f n o):=by
 intro f
 induction f with
 |zero=>
  intro n o h0 h1 h2 h3
  apply QgN
  simp only[yO,df (show¬127<n by omega),QQ2,zF]
 |succ f ih=>
  intro n o h0 h1 h2 h3
  apply QgN
  by_cases h:128<=n
  ·have hd:=Int.tdiv_eq_ediv_of_nonneg (b:=128) h0
   have:=ih (Int.tdiv n 128) (o++[QpQ n]) (by omega) (by rw[Int.pow_succ]at h1;omega) (by omega) (by simp;omega)
   simp only[QpQ]at this
   simp only[yO,dt (show 127<n by omega),QQ1,dt (show(128:Int)≠0 by omega),Qu (show(o.length+List.length [IntKind.wrap .u8 (wR (Int.tmod n 128+128))])*1<=140737488351232 by simp;omega),zF,h,if_true,QpQ]
   rw[w64 (n:=Int.tdiv n 128) (by omega) (by omega)]
   exact this
  ·simp only[yO,df (show¬127<n by omega),QQ2,zF,h,decide_false,if_false]
theorem Qad (n:Int):XW w n=some (QF n):=by
 apply Qu7
 simp only[QlN,Xf,QQ0,QF]
 cases h:inR n 0 2147483647
 ·simp
 ·simp[inR]at h
  have hl:=Qoj 4 n []
  simp only[List.length_nil]at hl
  simp only[QQ3,QQ2,QBi 4 n [] h.1 (by omega) h.2 (by simp),QQ0,QQ1,Qu (show((zF 4 n []).2.length+List.length [IntKind.wrap .u8 (zF 4 n []).1])*1<=140737488351232 by simp;omega)]
theorem yQ (n:Int):ZX w n=some (QF n):=by
 apply Qwj
 simp only[Qlg,XB,QQ0,QF]
 cases h:inR n 0 2147483647
 ·simp
 ·simp[inR]at h
  have hl:=Qoj 4 n []
  simp only[List.length_nil]at hl
  simp only[QQ3,QQ2,Qzd 4 n [] h.1 (by omega) h.2 (by simp),QQ0,QQ1,Qu (show((zF 4 n []).2.length+List.length [IntKind.wrap .u8 (zF 4 n []).1])*1<=140737488351232 by simp;omega)]
theorem Qax (l:List (List Int)) (hl:l.length<=maxLen) (hf:l.flatten.length<=1099511627776):Kp w l=some l.flatten:=by
 apply Qwx
 have e:=Xb l.length (fun i (o:List Int)=>xD wl (l,((l.length:Nat):Int),(i:Int),o)) (fun i o=>o++(l.drop i).flatten) (fun i o=>o.length+(l.drop i).flatten.length<=1099511627776)
  (fun i hi o ho ih=>by
    apply QgX
    rw[QRa hi,QRr,QRj]at ho
    have:=ih (o++l[i]) (by rw[QRj];omega)
    simp only[QdO,ilt hi,Qk hi,Qg hi,inc hi hl,QQ1,Qu (show(o.length+l[i].length)*1<=140737488351232 by omega),this]
    rw[QRa hi,QRr,QRc])
  (fun o _=>by
    apply QgX
    simp[QdO,Qm])
  [] (by simpa using hf)
 simp only[QQ6,QRg,QRe]at e
 simp only[QkA,e,QQ0]
theorem Qrq (s:ByteArray):(ofBytes s).length=s.size:=by
 show(s.data.toList.map _).length=s.data.size
 rw[List.length_map,Array.length_toList]
def Ji (s:ByteArray):List Int:=QF (s.size:Nat)++ofBytes s
theorem Qrx (s:ByteArray):(Ji s).length<=5+s.size:=by
 have:=Xn (s.size:Nat)
 simp only[Ji,QRj,Qrq];omega
theorem QCe (s:ByteArray) (h:s.size<=4294967296):QaZ w s=some (Ji s):=by
 apply Quz
 have:=Xn (s.size:Nat)
 have e: [QF (s.size:Nat),ofBytes s].flatten=Ji s:=by simp[Ji]
 simp only[Qj3,Qad,QQ0,Qax [QF ((s.size:Nat):Int),ofBytes s] (by simp[maxLen]) (by rw[e];have:=Qrx s;omega),e]
theorem QBg (s:ByteArray) (h:s.size<=4294967296):QbN w s=some (Ji s):=by
 apply Quy
 have:=Xn (s.size:Nat)
 simp only[Qj4,yQ,QQ0,Qu (show((QF ((s.size:Nat):Int)).length+(ofBytes s).length)*1<=140737488351232 by rw[Qrq];omega),QQ1,Ji]
def Qnn (x:Int):Int:=if Int.tmod x 2=1 then bits .xor .i64 (wR (Int.tdiv x 2)) 3988292384 else wR (Int.tdiv x 2)
def Qc0:Nat->Int->Int
 |0,x=>x
 |n+1,x=>Qc0 n (Qnn x)
def QyP (s b:Int):Int:=Qc0 8 (bits .xor .i64 s (wR b))
theorem QB5 (s b:Int):QyP s b=Qc0 8 (bits .xor .i64 s (wR b)):=by unfold QyP;exact Eq.refl _
def crc (l:List Int):Int:=bits .xor .i64 (l.foldl QyP 4294967295) 4294967295
theorem QIY {i:Nat}(h:i<8):decide ((i:Int)<8)=true:=by simp;omega
theorem QCU {i n:Nat}(h:i<n) (hn:n<=1000:=by omega):wR ((i:Int)+1)=((i+1:Nat):Int):=by
 rw[w64 (by omega) (by omega)];omega
theorem QEn (b:List Int) (n i:Int) (x:Int):qv wl (x,b,n,i,0)=some (Qc0 8 x,b,n,i):=by
 have e:=Xb 8 (fun k (x:Int)=>qv wl (x,b,n,i,(k:Int))) (fun k x=>(Qc0 (8 - k) x,b,n,i)) (fun _ _=>True)
  (fun k hk x _ ih=>by
    apply Qnd
    have:=ih (Qnn x) trivial
    rw[show 8 - k=(8 - (k+1))+1 by omega,Qc0,<-this]
    simp only[Qmf,QIY hk,QQ1,dt (show(2:Int)≠0 by omega),QCU hk,Qnn]
    by_cases hx:Int.tmod x 2=1
    ·simp only[hx,decide_true,QQ1,if_true]
    ·simp only[hx,decide_false,QQ2,if_false])
  (fun x _=>by
    apply Qnd
    simp[Qmf,Qc0])
  x trivial
 simpa using e
theorem QCW (b:List Int) (i:Int) (x:Int):qy wl (b,x,i,0)=some (b,Qc0 8 x,i):=by
 have e:=Xb 8 (fun k (x:Int)=>qy wl (b,x,i,(k:Int))) (fun k x=>(b,Qc0 (8 - k) x,i)) (fun _ _=>True)
  (fun k hk x _ ih=>by
    apply Qnl
    have:=ih (Qnn x) trivial
    rw[show 8 - k=(8 - (k+1))+1 by omega,Qc0,<-this]
    simp only[Qmm,QIY hk,QQ1,dt (show(2:Int)≠0 by omega),QCU hk,Qnn]
    by_cases hx:Int.tmod x 2=1
    ·simp only[hx,decide_true,QQ1,if_true]
    ·simp only[hx,decide_false,QQ2,if_false])
  (fun x _=>by
    apply Qnl
    simp[Qmm,Qc0])
  x trivial
 simpa using e
theorem Qzv (b:List Int) (h:b.length<=maxLen):QdD w b=some (crc b):=by
 apply QAs
 have e:=Xb b.length (fun i (x:Int)=>ve wl (x,b,((b.length:Nat):Int),(i:Int))) (fun i x=>(b.drop i).foldl QyP x) (fun _ _=>True)
  (fun i hi x _ ih=>by
    apply QmQ
    simp only[Qmb,ilt hi,Qk hi,Qg hi,QQ1,QEn,QQ0,inc hi h,ih _ trivial]
    rw[QRa hi,List.foldl_cons,QB5])
  (fun x _=>by
    apply QmQ
    simp only[Qmb,Qm,QQ2,QRl,List.foldl_nil])
  4294967295 trivial
 simp only[QQ6,QRg]at e
 simp only[Qpz,e,QQ0,crc]
theorem Qvy (b:List Int) (h:b.length<=maxLen):QdC w b=some (crc b):=by
 apply QA0
 have e:=Xb b.length (fun i (x:Int)=>vo wl (b,x,(i:Int))) (fun i x=>(b.drop i).foldl QyP x) (fun _ _=>True)
  (fun i hi x _ ih=>by
    apply Qne
    simp only[Qmq,ilt hi,Qk hi,Qg hi,QQ1,QCW,QQ0,inc hi h,ih _ trivial]
    rw[QRa hi,List.foldl_cons,QB5])
  (fun x _=>by
    apply Qne
    simp only[Qmq,Qm,QQ2,QRl,List.foldl_nil])
  4294967295 trivial
 simp only[QQ6,QRg]at e
 simp only[QpO,e,QQ0,crc]
end Go.Proofs.YtjenicbpdklpbaaGreat.M
