/- What the plain forms that FnExactStep reaches come to: PStBytes. No conditions but those that each theorem states. -/
import Derived.Test.YtjenicbpdklpbaaGreatFnExactStepPTree
set_option linter.all false
namespace Go.Proofs.YtjenicbpdklpbaaGreat.M
open Go Go.Eng Go.Proofs
set_option linter.unusedVariables false
def Y4 (x:Qd):List Int:=QF x.1++(QF x.2.1++(QF x.2.2.1++(QF x.2.2.2.1++(QF x.2.2.2.2.1++Ji x.2.2.2.2.2))))
def Jr (x:Qa):List Int:=QF x.1++QF x.2
def stB (s:Qj):List Int:=QF (s.1.length:Nat)++(s.1.flatMap Y4++(QF (s.2.length:Nat)++s.2.flatMap Jr))
theorem Qgr (x:Qd):(Y4 x).length<=30+ByteArray.size x.2.2.2.2.2:=by
 have h0:=Xn x.1
 have h1:=Xn x.2.1
 have h2:=Xn x.2.2.1
 have h3:=Xn x.2.2.2.1
 have h4:=Xn x.2.2.2.2.1
 have h5:=Qrx x.2.2.2.2.2
 simp only[Y4,QRj];omega
theorem Qnz (x:Qa):(Jr x).length<=10:=by
 have h0:=Xn x.1
 have h1:=Xn x.2
 simp only[Jr,QRj];omega
def smB (s:Qj):Prop:=s.1.length<=1000/\s.2.length<=1000/\∀x∈s.1,ByteArray.size x.2.2.2.2.2<=1000
theorem QpI (fl:List Qa):(p:Int)->(l:List Qd)->Xw fl p l=true->∀x∈l,ByteArray.size x.2.2.2.2.2<=8
 |p,[],_=>by simp
 |p,x::l,h=>by
  simp only[Xw,QQ5]at h
  have h1:=h.1.1.1.2
  simp only[XF,QQ5,QRu]at h1
  intro y hy
  rcases QRk.1 hy with e|e
  ·rw[e];have:=h1.2;omega
  ·exact QpI fl x.1 l h.2 y e
theorem Qoc {s:Qj}(h:QC s=true):smB s:=by
 have hl:=Kj h
 simp only[QC,QQ5]at h
 exact⟨by omega,by omega,fun x hx=>by have:=QpI _ _ _ h.2 x hx;omega⟩
theorem vU {α:Type}(f:α->List Int) (n:Nat):(l:List α)->(∀x∈l,(f x).length<=n)->(l.flatMap f).length<=l.length*n
 | [],_=>by simp
 |x::l,h=>by
  have ih:=vU f n l fun y hy=>h y (by simp[hy])
  have:=h x (by simp)
  simp only[List.flatMap_cons,QRj,List.length_cons,Nat.succ_mul];omega
theorem QB3 {s:Qj}(h:smB s):(stB s).length<=2000000:=by
 have h1:=vU Y4 1030 s.1 fun x hx=>by have:=Qgr x;have:=h.2.2 x hx;omega
 have h2:=vU Jr 10 s.2 fun x _=>Qnz x
 have h3:=Xn (s.1.length:Nat)
 have h4:=Xn (s.2.length:Nat)
 have h5:s.1.length*1030<=1000*1030:=Nat.mul_le_mul_right _ h.1
 have h6:s.2.length*10<=1000*10:=Nat.mul_le_mul_right _ h.2.1
 simp only[stB,QRj];omega
theorem QxH (a:List Qd) (b:List Qa) (h:smB (a,b)) (o:List Int) (ho:o.length<=10):
 Z8 wl (a,((a.length:Nat):Int),0,a,b,o)=some (a,b,o++a.flatMap Y4):=by
 have hl:a.length<=1000:=h.1
 have e:=Xb a.length (fun i (o:List Int)=>Z8 wl (a,((a.length:Nat):Int),(i:Int),a,b,o)) (fun i o=>(a,b,o++(a.drop i).flatMap Y4)) (fun i o=>o.length<=10+i*1030)
  (fun i hi o ho ih=>by
    apply Qac
    have hb:=Qgr a[i]
    have hd:=h.2.2 a[i] (QRf hi)
    have ih1:=ih (o++Y4 a[i]) (by rw[QRj];omega)
    have ej: [o,QF a[i].1,QF a[i].2.1,QF a[i].2.2.1,QF a[i].2.2.2.1,QF a[i].2.2.2.2.1,Ji a[i].2.2.2.2.2].flatten=o++Y4 a[i]:=by simp[Y4]
    have hj:=Qax [o,QF a[i].1,QF a[i].2.1,QF a[i].2.2.1,QF a[i].2.2.2.1,QF a[i].2.2.2.2.1,Ji a[i].2.2.2.2.2] (by simp[maxLen]) (by rw[ej,QRj];omega)
    simp only[zW,ilt hi,Qk hi,Qg hi,inc hi (show a.length<=maxLen by simp[maxLen];omega),QQ1,Qad,QCe _ (show ByteArray.size a[i].2.2.2.2.2<=4294967296 by omega),QQ0,hj,ej,ih1]
    rw[QRa hi,List.flatMap_cons,QRc])
  (fun o _=>by
    apply Qac
    simp[zW])
  o (by omega)
 simpa using e
theorem QxE (b:List Qa) (hb:b.length<=1000) (o:List Int) (ho:o.length<=2000000):
 Yb wl (b,((b.length:Nat):Int),0,o)=some (o++b.flatMap Jr):=by
 have e:=Xb b.length (fun i (o:List Int)=>Yb wl (b,((b.length:Nat):Int),(i:Int),o)) (fun i o=>o++(b.drop i).flatMap Jr) (fun i o=>o.length<=2000000+i*10)
  (fun i hi o ho ih=>by
    apply Qau
    have hb:=Qnz b[i]
    have ih1:=ih (o++Jr b[i]) (by rw[QRj];omega)
    have ej: [o,QF b[i].1,QF b[i].2].flatten=o++Jr b[i]:=by simp[Jr]
    have hj:=Qax [o,QF b[i].1,QF b[i].2] (by simp[maxLen]) (by rw[ej,QRj];omega)
    simp only[yu,ilt hi,Qk hi,Qg hi,inc hi (show b.length<=maxLen by simp[maxLen];omega),QQ1,Qad,QQ0,hj,ej,ih1]
    rw[QRa hi,List.flatMap_cons,QRc])
  (fun o _=>by
    apply Qau
    simp[yu])
  o (by omega)
 simpa using e
theorem QxJ (a:List Qd) (b:List Qa) (ha:a.length<=maxLen) (hb:b.length<=maxLen):zT w (a,b)=some (bif QC (a,b)then stB (a,b)else []):=by
 apply QpK
 simp only[Qdq,Zx a b ha hb,QQ0]
 cases h:QC (a,b)
 ·simp
 ·have hs:=Qoc h
  have hp:=Xn (a.length:Nat)
  have h1:=vU Y4 1030 a fun x hx=>by have:=Qgr x;have:=hs.2.2 x hx;omega
  have hal:a.length<=1000:=hs.1
  have hbl:b.length<=1000:=hs.2.1
  have h5:a.length*1030<=1000*1030:=Nat.mul_le_mul_right _ hal
  have hp2:=Xn (b.length:Nat)
  have ej: [QF ((a.length:Nat):Int)++a.flatMap Y4,QF ((b.length:Nat):Int)].flatten=QF ((a.length:Nat):Int)++a.flatMap Y4++QF ((b.length:Nat):Int):=by simp
  have hj:=Qax [QF ((a.length:Nat):Int)++a.flatMap Y4,QF ((b.length:Nat):Int)] (by simp[maxLen]) (by rw[ej];simp only[QRj];omega)
  simp only[QQ3,QQ2,QQ1,Qad,QQ0,QxH a b hs _ (show(QF ((a.length:Nat):Int)).length<=10 by omega),hj,ej,QxE b hbl _ (show(QF ((a.length:Nat):Int)++a.flatMap Y4++QF ((b.length:Nat):Int)).length<=2000000 by simp only[QRj];omega)]
  simp only[stB,QRc]
theorem QAC (i:Int) (a:List Qd) (b:List Qa) (o:List Int) (p q r s:Int) (t:ByteArray) (l:List Int) (hl:l.length<=5) (ho:o.length<=2000000):
 KD wl (i,0,a,b,o,p,q,r,s,t,l)=some (i,a,b,o++l.flatMap QF,p,q,r,s,t):=by
 have e:=Xb l.length (fun k (o:List Int)=>KD wl (i,(k:Int),a,b,o,p,q,r,s,t,l)) (fun k o=>(i,a,b,o++(l.drop k).flatMap QF,p,q,r,s,t)) (fun k o=>o.length<=2000000+k*5)
  (fun k hk o ho ih=>by
    apply Qgt
    have hb:=Xn l[k]
    have ih1:=ih (o++QF l[k]) (by rw[QRj];omega)
    simp only[QaU,ilt hk,Qk hk,Qg hk,inc hk (show l.length<=maxLen by simp[maxLen];omega),QQ1,yQ,QQ0,Qu (show(o.length+(QF l[k]).length)*1<=140737488351232 by omega),ih1]
    rw[QRa hk,List.flatMap_cons,QRc])
  (fun o _=>by
    apply Qgt
    simp[QaU])
  o (by omega)
 simpa using e
theorem QzW (a:List Qd) (b:List Qa) (h:smB (a,b)) (o:List Int) (ho:o.length<=10):
 KF wl (0,a,b,o)=some (a,b,o++a.flatMap Y4):=by
 have hl:a.length<=1000:=h.1
 have e:=Xb a.length (fun i (o:List Int)=>KF wl ((i:Int),a,b,o)) (fun i o=>(a,b,o++(a.drop i).flatMap Y4)) (fun i o=>o.length<=10+i*1030)
  (fun i hi o ho ih=>by
    apply Qgs
    have hb:=Qgr a[i]
    have hd:=h.2.2 a[i] (QRf hi)
    have ih1:=ih (o++Y4 a[i]) (by rw[QRj];omega)
    have ej:(o++[a[i].1,a[i].2.1,a[i].2.2.1,a[i].2.2.2.1,a[i].2.2.2.2.1].flatMap QF)++Ji a[i].2.2.2.2.2=o++Y4 a[i]:=by simp[Y4]
    have hn:=QAC (i:Int) a b o a[i].2.1 a[i].2.2.1 a[i].2.2.2.1 a[i].2.2.2.2.1 a[i].2.2.2.2.2 [a[i].1,a[i].2.1,a[i].2.2.1,a[i].2.2.2.1,a[i].2.2.2.2.1] (by simp) (by omega)
    have hlen:((o++[a[i].1,a[i].2.1,a[i].2.2.1,a[i].2.2.2.1,a[i].2.2.2.2.1].flatMap QF).length+(Ji a[i].2.2.2.2.2).length)*1<=140737488351232:=by
     have:=congrArg List.length ej
     simp only[QRj]at this⊢; omega
    simp only[Qc6,ilt hi,Qk hi,Qg hi,inc hi (show a.length<=maxLen by simp[maxLen];omega),QQ1,hn,QBg _ (show ByteArray.size a[i].2.2.2.2.2<=4294967296 by omega),QQ0,Qu hlen,ej,ih1]
    rw[QRa hi,List.flatMap_cons,QRc])
  (fun o _=>by
    apply Qgs
    simp[Qc6])
  o (by omega)
 simpa using e
theorem QyT (a:List Qd) (b:List Qa) (hb:b.length<=1000) (o:List Int) (ho:o.length<=2000000):
 KS wl (0,a,b,o)=some (o++b.flatMap Jr):=by
 have e:=Xb b.length (fun i (o:List Int)=>KS wl ((i:Int),a,b,o)) (fun i o=>o++(b.drop i).flatMap Jr) (fun i o=>o.length<=2000000+i*10)
  (fun i hi o ho ih=>by
    apply Qfp
    have hb:=Qnz b[i]
    have h1:=Xn b[i].1
    have h2:=Xn b[i].2
    have ih1:=ih (o++Jr b[i]) (by rw[QRj];omega)
    have ej:o++QF b[i].1++QF b[i].2=o++Jr b[i]:=by simp[Jr]
    simp only[Qbi,ilt hi,Qk hi,Qg hi,inc hi (show b.length<=maxLen by simp[maxLen];omega),QQ1,yQ,QQ0,Qu (show(o.length+(QF b[i].1).length)*1<=140737488351232 by omega),Qu (show((o++QF b[i].1).length+(QF b[i].2).length)*1<=140737488351232 by rw[QRj];omega),ej,ih1]
    rw[QRa hi,List.flatMap_cons,QRc])
  (fun o _=>by
    apply Qfp
    simp[Qbi])
  o (by omega)
 simpa using e
theorem QET (a:List Qd) (b:List Qa) (hs:smB (a,b)):Qbz w (a,b)=some (stB (a,b)):=by
 apply QtA
 have hp:=Xn (a.length:Nat)
 have h1:=vU Y4 1030 a fun x hx=>by have:=Qgr x;have:=hs.2.2 x hx;omega
 have hal:a.length<=1000:=hs.1
 have hbl:b.length<=1000:=hs.2.1
 have h5:a.length*1030<=1000*1030:=Nat.mul_le_mul_right _ hal
 have hp2:=Xn (b.length:Nat)
 have hlen:((QF ((a.length:Nat):Int)++a.flatMap Y4).length+(QF ((b.length:Nat):Int)).length)*1<=140737488351232:=by simp only[QRj];omega
 simp only[Qjv,yQ,QQ0,QzW a b hs _ (show(QF ((a.length:Nat):Int)).length<=10 by omega),Qu hlen,QQ1,QyT a b hbl _ (show(QF ((a.length:Nat):Int)++a.flatMap Y4++QF ((b.length:Nat):Int)).length<=2000000 by simp only[QRj];omega)]
 simp only[stB,QRc]
def Jg (s:Qj) (k:Int):Int:=bif QC s&&inR k 0 3 then Int.tmod (crc (stB (Zb s [k]))) 1024 else 0
theorem QDo (a:List Qd) (b:List Qa) (k:Int) (ha:a.length<=maxLen) (hb:b.length<=maxLen):QaO w (a,b,k)=some (Jg (a,b) k):=by
 apply QsN
 simp only[Qiy,Zx a b ha hb,Xf,QQ0,Jg]
 cases h:QC (a,b)
 ·simp
 ·cases h2:inR k 0 3
  ·simp
  ·have hs:=Qcf [k] h
   have hl:=Kj hs
   have hB:=QB3 (Qoc hs)
   simp only[QQ3,QQ2,QzR a b [k] (by simp[maxLen]) ha hb,h,QQ1,QQ0,QxJ (Zb (a,b) [k]).1 (Zb (a,b) [k]).2 (by simp only[maxLen];omega) (by simp only[maxLen];omega),Bool.and_self]
   simp only[show QC ((Zb (a,b) [k]))=true from hs,QQ1,Qzv (stB ((Zb (a,b) [k]))) (show(stB (Zb (a,b) [k])).length<=maxLen by simp only[maxLen];omega),QQ0,dt (show(1024:Int)≠0 by omega)]
theorem QAK (a:List Qd) (b:List Qa) (k:Int) (ha:a.length<=maxLen) (hb:b.length<=maxLen):Qcq w (a,b,k)=some (Jg (a,b) k):=by
 apply QuX
 simp only[Qka,ZG a b ha hb,XB,QQ0,Jg]
 cases h:QC (a,b)
 ·simp
 ·cases h2:inR k 0 3
  ·simp
  ·have hs:=Qcf [k] h
   have hl:=Kj h
   simp only at hl
   have hB:=QB3 (Qoc hs)
   simp only[QQ3,QQ2,Qw3 a b [k] (by simp[maxLen]) (by omega) (by omega),QQ0,QET (Zb (a,b) [k]).1 (Zb (a,b) [k]).2 (Qoc hs),QQ1,Bool.and_self,Qvy (stB ((Zb (a,b) [k]))) (show(stB (Zb (a,b) [k])).length<=maxLen by simp only[maxLen];omega),dt (show(1024:Int)≠0 by omega)]
def rootOf (l:List Int):Int:=Int.tmod (crc (l.flatMap QF)) 1024
theorem QD8 (l:List Int) (hl:l.length<=4294967296):Qed w l=some (rootOf l):=by
 apply Qwn
 have e:=Xb l.length (fun i (o:List Int)=>xa wl (l,((l.length:Nat):Int),(i:Int),o)) (fun i o=>o++(l.drop i).flatMap QF) (fun i o=>o.length<=i*5)
  (fun i hi o ho ih=>by
    apply Qho
    have hb:=Xn l[i]
    have ih1:=ih (o++QF l[i]) (by rw[QRj];omega)
    have ej: [o,QF l[i]].flatten=o++QF l[i]:=by simp
    have hj:=Qax [o,QF l[i]] (by simp[maxLen]) (by rw[ej,QRj];omega)
    simp only[QdT,ilt hi,Qk hi,Qg hi,inc hi (show l.length<=maxLen by simp[maxLen];omega),QQ1,Qad,QQ0,hj,ej,ih1]
    rw[QRa hi,List.flatMap_cons,QRc])
  (fun o _=>by
    apply Qho
    simp[QdT])
  [] (by simp)
 simp only[QQ6,QRg,QRe]at e
 have hb:=vU QF 5 l fun x _=>Xn x
 simp only[Qld,e,QQ0,Qzv (l.flatMap QF) (by simp only[maxLen];omega),dt (show(1024:Int)≠0 by omega),QQ1,rootOf]
theorem QD5 (l:List Int) (hl:l.length<=4294967296):QeE w l=some (rootOf l):=by
 apply QvJ
 have e:=Xb l.length (fun i (o:List Int)=>qV wl (l,(i:Int),o)) (fun i o=>o++(l.drop i).flatMap QF) (fun i o=>o.length<=i*5)
  (fun i hi o ho ih=>by
    apply QgR
    have hb:=Xn l[i]
    have ih1:=ih (o++QF l[i]) (by rw[QRj];omega)
    simp only[Qd8,ilt hi,Qk hi,Qg hi,inc hi (show l.length<=maxLen by simp[maxLen];omega),QQ1,yQ,QQ0,Qu (show(o.length+(QF l[i]).length)*1<=140737488351232 by omega),ih1]
    rw[QRa hi,List.flatMap_cons,QRc])
  (fun o _=>by
    apply QgR
    simp[Qd8])
  [] (by simp)
 simp only[QQ6,QRg,QRe]at e
 have hb:=vU QF 5 l fun x _=>Xn x
 simp only[QlD,e,QQ0,Qvy (l.flatMap QF) (by simp only[maxLen];omega),dt (show(1024:Int)≠0 by omega),QQ1,rootOf]
def leaves (s:Qj):List Int:=[Jg s 0,Jg s 1,Jg s 2,Jg s 3]
def X8 (s:Qj):Zi:=bif QC s then(leaves s,rootOf (leaves s))else([],0)
theorem QCZ {i:Nat}(h:i<4):decide ((i:Int)<4)=true:=by simp;omega
theorem QwK (a:List Qd) (b:List Qa) (ha:a.length<=maxLen) (hb:b.length<=maxLen):zw w (a,b)=some (X8 (a,b)):=by
 apply Qu4
 have e:=Xb 4 (fun i (o:List Int)=>Vt wl ((i:Int),a,b,o,0)) (fun i o=>(o++(List.range' i (4 - i)).flatMap fun i=>[Jg (a,b) (i:Nat)],(0:Int))) (fun i o=>o.length<=i)
  (fun i hi o ho ih=>by
    apply Qg2
    have ih1:=ih (o++[Jg (a,b) (i:Nat)]) (by simp;omega)
    rw[Z3 hi,<-QRc,<-ih1]
    simp only[QdZ,QCZ hi,QQ1,QDo a b _ ha hb,QQ0,List.length_singleton,Qu (show(o.length+1)*8<=140737488351232 by omega),QCU hi])
  (fun o _=>by
    apply Qg2
    simp[QdZ])
  [] (by simp)
 have e:Vt wl (0,a,b,[],0)=some (leaves (a,b),0):=e
 simp only[Qk2,Zx a b ha hb,QQ0,X8]
 cases QC (a,b)
 ·simp
 ·simp only[QQ3,QQ2,QQ1,e,QQ0,QD8 (leaves (a,b)) (by simp[leaves])]
theorem QtM (a:List Qd) (b:List Qa) (ha:a.length<=maxLen) (hb:b.length<=maxLen):zo w (a,b)=some (X8 (a,b)):=by
 apply Qvt
 have e:=Xb 4 (fun i (o:List Int)=>Vv wl ((i:Int),a,b,o,0)) (fun i o=>(o++(List.range' i (4 - i)).flatMap fun i=>[Jg (a,b) (i:Nat)],(0:Int))) (fun i o=>o.length<=i)
  (fun i hi o ho ih=>by
    apply Qg5
    have ih1:=ih (o++[Jg (a,b) (i:Nat)]) (by simp;omega)
    rw[Z3 hi,<-QRc,<-ih1]
    simp only[QdH,QCZ hi,QQ1,QAK a b _ ha hb,QQ0,List.length_singleton,Qu (show(o.length+1)*8<=140737488351232 by omega),QCU hi])
  (fun o _=>by
    apply Qg5
    simp[QdH])
  [] (by simp)
 have e:Vv wl (0,a,b,[],0)=some (leaves (a,b),0):=e
 simp only[Qkx,ZG a b ha hb,QQ0,X8]
 cases QC (a,b)
 ·simp
 ·simp only[QQ3,QQ2,QQ1,e,QQ0,QD5 (leaves (a,b)) (by simp[leaves])]
end Go.Proofs.YtjenicbpdklpbaaGreat.M
