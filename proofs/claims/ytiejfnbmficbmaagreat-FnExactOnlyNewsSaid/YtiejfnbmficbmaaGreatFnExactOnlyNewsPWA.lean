/- What the plain forms that FnExactOnlyNews reaches come to: PWA. No conditions but those that each theorem states. -/
import Derived.Test.YtiejfnbmficbmaaGreatFnExactOnlyNewsPTree
set_option linter.all false
namespace Go.Proofs.YtiejfnbmficbmaaGreat.M
open Go Go.Eng Go.Proofs
set_option linter.unusedVariables false
theorem Qks (n:Int):(off:Nat)->(l:List Qi)->ZD n off l=true->(i:Nat)->(h:i<l.length)->qJ l[i]=true/\l[i].2.1=n/\l[i].1=((off+i:Nat):Int)
 |off,x::l,h,0,_=>by
  simp only[ZD,QQ5,QRu]at h
  simpa using⟨h.1.1,h.1.2.1,h.1.2.2⟩
 |off,x::l,h,i+1,hi=>by
  simp only[ZD,QQ5,QRu]at h
  have:=Qks n (off+1) l h.2 i (by simpa using hi)
  simp only[List.getElem_cons_succ]
  refine⟨this.1,this.2.1, ?_⟩
  rw[this.2.2];congr 1;omega
structure WOk (ns:List Qi) (net:List QD) (sd:List QE):Prop where
 n1:1<=ns.length
 n5:ns.length<=5
 net12:net.length<=12
 sd40:sd.length<=40
 nodes:ZD (ns.length:Nat) 0 ns=true
 nets:∀p∈net,inR p.1 0 ((ns.length:Nat) - 1)=true
 sds:∀x∈sd,inR x.1 0 ((ns.length:Nat) - 1)=true/\QF x.2=true
theorem WOk.node {ns:List Qi}{net:List QD}{sd:List QE}(h:WOk ns net sd) {i:Nat}(hi:i<ns.length):qJ ns[i]=true/\ns[i].2.1=ns.length/\ns[i].1=(i:Int):=by
 have:=Qks _ 0 ns h.nodes i hi
 simpa using this
theorem Qc1 {p:Int}{n:Nat}(h:inR p 0 ((n:Int) - 1)=true):∃i:Nat,p=(i:Int)/\i<n:=by
 simp only[inR,QQ5,QRu]at h
 exact⟨p.toNat,by omega,by omega⟩
def QAn {α:Type}(c:α->Int):Int->List α->Int
 |k,[]=>k
 |k,x::l=>QAn c (wR (k+c x)) l
def kept (ns:List Qi) (net:List QD) (sd:List QE):Int:=bif Jo ns net sd then QAn (fun x:Qi=>((x.2.2.2.2.2.2.2.2.1.length:Nat):Int)) 0 ns else 0
def two (ns:List Qi) (net:List QD) (sd:List QE) (p q:Int):Bool:=Jo ns net sd&&(inR p 0 ((ns.length:Nat) - 1)&&(inR q 0 ((ns.length:Nat) - 1)&& !decide (p=q)))
def nodeAt (ns:List Qi) (p:Int):Qi:=rd1 QcB ns p
theorem Qmo {ns:List Qi}{i:Nat}(h:i<ns.length):nodeAt ns (i:Int)=ns[i]:=Qj h
def lag (ns:List Qi) (net:List QD) (sd:List QE) (p q:Int):Int:=bif two ns net sd p q then wR (Xg ((nodeAt ns p).2.2.2.2.2.2.1,(nodeAt ns p).2.2.2.2.2.2.2.1,(nodeAt ns p).2.2.2.2.2.2.2.2.1) - rd1 0 (nodeAt ns p).2.2.2.2.2.2.2.2.2.2.1 q)else -1
def behind (ns:List Qi) (net:List QD) (sd:List QE) (p q:Int):Bool:=bif decide (0<=lag ns net sd p q)then decide ((((nodeAt ns p).2.2.2.2.2.2.2.2.1.length:Nat):Int)<lag ns net sd p q)else false
def QjI (ns:List Qi) (net:List QD) (sd:List QE) (t:Int):Qb:=bif Jo ns net sd then(bif decide (((ns.length:Nat):Int)<2)then(-1, -1)else bif decide (t<0)then(-1, -1)else((Int.tmod t (((List.length ns):Nat):Int)),(Int.tmod (wR ((wR ((Int.tmod t (((List.length ns):Nat):Int))+1))+(Int.tmod (wR (Int.tdiv t (((List.length ns):Nat):Int))) (wR ((((List.length ns):Nat):Int) - 1))))) (((List.length ns):Nat):Int))))else(-1, -1)
def live (x:Qf):Bool:=decide (x.2.2.1=0)
def view (s:Qk):List Qf:=bif QF s then s.1.filter live else []
def lookup (s:Qk) (id:Int):Int×Int×Int×Int×ByteArray×Bool:=XE id (view s)
theorem Qpg (fl:List Qb):(p:Int)->(l:List Qf)->Xa fl p l=true->Zc XC l<=8*l.length
 |_,[],_=>by simp[Zc]
 |p,x::l,h=>by
  have hx:=QiX fl p (x::l) h x (by simp)
  simp only[Xa,QQ5]at h
  have:=Qpg fl _ l h.2
  simp only[Zc,XC,KZ,QY0];omega
def Qic (a b:Qk) (id:Int):X6:=QiP (Jl (XE id a.1)) (Jl (XE id b.1))
def xH (a b:Qk) (id:Int):Int:=mxI (QX id a.2) (QX id b.2)
def QvV (a b:Qk) (i:Nat):List Qf:=bif decide (xH a b (i:Int)<(Qic a b (i:Int)).1)then [((i:Int),Qic a b (i:Int))]else []
def Qes (a b:Qk) (i:Nat):List Qb:=bif decide (0<xH a b (i:Int))then [((i:Int),xH a b (i:Int))]else []
def join (a b:Qk):Qk:=((List.range' 0 5).flatMap (QvV a b),(List.range' 0 5).flatMap (Qes a b))
theorem Ql3 (id:Int):(p:Int)->(l:List Qb)->QH p l=true->0<=QX id l/\QX id l<=1000
 |_,[],_=>by simp[QX]
 |p,x::l,h=>by
  simp only[QH,QQ5]at h
  have ih:=Ql3 id _ l h.2
  have hx:=h.1.1.2
  simp only[inR,QQ5,QRu]at hx
  simp only[QX]
  split
  ·omega
  ·exact ih
theorem QoY (fl:List Qb) (id:Int):(p:Int)->(l:List Qf)->Xa fl p l=true->(XP (Jl (XE id l))=true/\(XE id l).2.2.2.2.2=true)\/(Jl (XE id l)=(0,0,0,0,ByteArray.empty)/\(XE id l).2.2.2.2.2=false)
 |_,[],_=>Or.inr ⟨rfl,rfl⟩
 |p,x::l,h=>by
  simp only[Xa,QQ5]at h
  have ih:=QoY fl id _ l h.2
  simp only[XE]
  split
  ·exact Or.inl ⟨h.1.1.1.2,rfl⟩
  ·exact ih
theorem Qqx {s:Qk}(h:QF s=true) (id:Int):0<=QX id s.2/\QX id s.2<=1000:=by
 simp only[QF,QQ5]at h
 exact Ql3 id _ _ h.1
theorem QqW {s:Qk}(h:QF s=true) (id:Int):(XP (Jl (XE id s.1))=true/\(XE id s.1).2.2.2.2.2=true)\/(Jl (XE id s.1)=(0,0,0,0,ByteArray.empty)/\(XE id s.1).2.2.2.2.2=false):=by
 simp only[QF,QQ5]at h
 exact QoY _ id _ _ h.2
theorem QvA (x y:X6):QiP x y=x\/QiP x y=y:=by
 unfold QiP;split
 ·exact Or.inr rfl
 ·exact Or.inl rfl
theorem QyC {a b:Qk}(ha:QF a=true) (hb:QF b=true) (id:Int):XP (Qic a b id)=true\/Qic a b id=(0,0,0,0,ByteArray.empty):=by
 unfold Qic
 rcases QvA (Jl (XE id a.1)) (Jl (XE id b.1))with e|e
 ·rw[e];rcases QqW ha id with h|h
  ·exact Or.inl h.1
  ·exact Or.inr h.1
 ·rw[e];rcases QqW hb id with h|h
  ·exact Or.inl h.1
  ·exact Or.inr h.1
theorem QiG {a b:Qk}(ha:QF a=true) (hb:QF b=true) (id:Int):0<=xH a b id/\xH a b id<=1000:=by
 have h1:=Qqx ha id
 have h2:=Qqx hb id
 unfold xH mxI;split<;>omega
theorem xJ (f:Nat->List Qb) (hf:∀i,i<5->f i=[]\/∃v,f i=[((i:Int),v)]/\inR v 1 1000=true):(n i:Nat)->(p:Int)->i+n<=5->p<(i:Int)->QH p ((List.range' i n).flatMap f)=true
 |0,_,_,_,_=>rfl
 |n+1,i,p,hn,hp=>by
  rw[List.range'_succ,QY7]
  rcases hf i (by omega)with e|⟨v,e,hv⟩
  ·rw[e];exact xJ f hf n (i+1) p (by omega) (by omega)
  ·rw[e,List.singleton_append]
   simp only[QH,QQ5,hv,dt hp,xJ f hf n (i+1) (i:Int) (by omega) (by omega),and_true]
   simp[inR];omega
theorem QeL (fl:List Qb) (f:Nat->List Qf) (hf:∀i,i<5->f i=[]\/∃e,f i=[((i:Int),e)]/\XP e=true/\QX (i:Int) fl<e.1):(n i:Nat)->(p:Int)->i+n<=5->p<(i:Int)->Xa fl p ((List.range' i n).flatMap f)=true
 |0,_,_,_,_=>rfl
 |n+1,i,p,hn,hp=>by
  rw[List.range'_succ,QY7]
  rcases hf i (by omega)with e|⟨v,e,hv,hl⟩
  ·rw[e];exact QeL fl f hf n (i+1) p (by omega) (by omega)
  ·rw[e,List.singleton_append]
   simp only[Xa,QQ5,hv,dt hp,dt hl,QeL fl f hf n (i+1) (i:Int) (by omega) (by omega),and_true]
   simp[inR];omega
theorem Qsb (id:Int) (l m:List Qb) (h:∀x∈l,x.1≠id):QX id (l++m)=QX id m:=by
 induction l with
 |nil=>rfl
 |cons x l ih=>rw[QRv,QX,if_neg (h x (by simp)),ih fun y hy=>h y (by simp[hy])]
theorem Qet (f:Nat->List Qb) (hf:∀i,f i=[]\/∃v,f i=[((i:Int),v)]):(n i k:Nat)->QX (k:Int) ((List.range' i n).flatMap f)=if i<=k/\k<i+n then QX (k:Int) (f k)else 0
 |0,i,k=>by rw[if_neg (by omega)];rfl
 |n+1,i,k=>by
  rw[List.range'_succ,QY7]
  by_cases hk:i=k
  ·subst hk
   rw[if_pos (by omega)]
   rcases hf i with e|⟨v,e⟩
   ·rw[e,QRe,Qet f hf n (i+1) i,if_neg (by omega)];rfl
   ·rw[e,List.singleton_append,QX,if_pos rfl,QX,if_pos rfl]
  ·rw[Qsb,Qet f hf n (i+1) k]
   ·by_cases h:i+1<=k/\k<i+1+n
    ·rw[if_pos h,if_pos (by omega)]
    ·rw[if_neg h,if_neg (by omega)]
   ·intro x hx
    rcases hf i with e|⟨v,e⟩
    ·rw[e]at hx;simp at hx
    ·rw[e]at hx
     obtain rfl:x=((i:Int),v):=by simpa using hx
     simp;omega
theorem Qwa (a b:Qk) (i:Nat):Qes a b i=[]\/∃v,Qes a b i=[((i:Int),v)]:=by
 unfold Qes;cases decide (0<xH a b (i:Int))
 ·exact Or.inl rfl
 ·exact Or.inr ⟨_,rfl⟩
theorem Qr3 {a b:Qk}(ha:QF a=true) (hb:QF b=true) {k:Nat}(hk:k<5):QX (k:Int) (join a b).2=xH a b (k:Int):=by
 have h:=QiG ha hb (k:Int)
 show QX (k:Int) ((List.range' 0 5).flatMap (Qes a b))=_
 rw[Qet _ (Qwa a b),if_pos (by omega)]
 unfold Qes
 by_cases h0:0<xH a b (k:Int)
 ·simp[h0,QX]
 ·simp[h0,QX];omega
theorem Qwu {e:X6}(h:XP e=true\/e=(0,0,0,0,ByteArray.empty)) (h0:0<e.1):XP e=true:=by
 rcases h with h|h
 ·exact h
 ·rw[h]at h0;exact absurd h0 (by decide)
theorem Qpa {a b:Qk}(ha:QF a=true) (hb:QF b=true):QF (join a b)=true:=by
 simp only[QF,QQ5]
 constructor
 ·refine xJ _ (fun i hi=> ?_) 5 0 (-1) (by omega) (by simp)
  have h:=QiG ha hb (i:Int)
  unfold Qes
  by_cases h0:0<xH a b (i:Int)
  ·exact Or.inr ⟨xH a b (i:Int),by simp[h0],by simp[inR];omega⟩
  ·exact Or.inl (by simp[h0])
 ·refine QeL _ _ (fun i hi=> ?_) 5 0 (-1) (by omega) (by simp)
  have h:=QiG ha hb (i:Int)
  unfold QvV
  by_cases h0:xH a b (i:Int)<(Qic a b (i:Int)).1
  ·refine Or.inr ⟨Qic a b (i:Int),by simp[h0],Qwu (QyC ha hb _) (by omega), ?_⟩
   rw[Qr3 ha hb hi];exact h0
  ·exact Or.inl (by simp[h0])
def qj (s:Qk) (id:Int):Int:=bif QF s then(bif (XE id s.1).2.2.2.2.2 then(bif decide ((XE id s.1).2.1=1)then(XE id s.1).1 else(XE id s.1).1 - 1)else QX id s.2)else 0
def QAK (s:Qk) (i:Nat):List Qb:=bif decide (0<qj s (i:Int))then [((i:Int),qj s (i:Int))]else []
def marksOf (s:Qk):List Qb:=(List.range' 0 5).flatMap (QAK s)
theorem Qt0 (s:Qk) (id:Int):0<=qj s id/\qj s id<=1000:=by
 unfold qj
 cases h:QF s
 ·simp
 ·have hf:=Qqx h id
  rcases QqW h id with⟨he,hb⟩|⟨he,hb⟩
  ·rw[hb]
   simp only[XP,QQ5,inR,QRu]at he
   have:=he.1.1.1.1
   simp only[Jl]at this
   simp only[QQ1]
   cases decide ((XE id s.1).2.1=1)
   ·simp only[QQ2];omega
   ·simp only[QQ1];omega
  ·rw[hb];simp only[QQ1,QQ2];omega
theorem Qwv {s:Qk}(h:QF s=true):smS s:=by
 have:=VR h
 constructor<;>simp only[maxLen]<;>omega
theorem Qlg {x:X6}(h:XP x=true):1<=x.1/\x.1<=1000/\0<=x.2.1/\x.2.1<=1/\0<=x.2.2.1/\x.2.2.1<=100000/\0<=x.2.2.2.1/\x.2.2.2.1<=1000/\x.2.2.2.2.size<=8:=by
 simp only[XP,inR,QQ5,QRu]at h
 obtain⟨⟨⟨⟨⟨p1,p2⟩,p3,p4⟩,p5,p6⟩,p7,p8⟩,p9⟩:=h
 omega
theorem QuO (b:List Qb) (hb:b.length<=maxLen):ym w b=some (QH (-1) b):=by
 apply QmC
 have e:=QW b.length (fun i=>Yb wl (b,b,((b.length:Nat):Int),(i:Int))) (fun i=>if QH (Vd b i) (b.drop i)then .inr ()else .inl false)
  (fun i hi ih=>by
    apply QaV
    simp only[ye,ilt hi,Qo hi,Qj hi,inc hi hb,QQ1,ih,Qbt,Q8,QQ0]
    rw[QRa hi,QH,QcY b hi]
    rcases Nat.eq_zero_or_pos i with h0|h0
    ·subst h0
     cases h1:inR b[0].1 0 4
     ·simp
     ·have:=vX h1
      simp only[QhP,QQ2,QQ3,Vd,if_true,dt this,QRd,QRn]
      cases inR b[0].2 1 1000<;>simp
    ·have hi':i - 1<b.length:=by omega
     simp only[ipos h0,QQ1,Qjk h0 (by omega),Qo hi',Qj hi',QfK b h0 hi',Jp]
     cases inR b[i].1 0 4<;>cases inR b[i].2 1 1000<;>cases decide (b[i - 1].1<b[i].1)<;>simp)
  (by
    apply QaV
    simp only[ye,Qw,QQ2,QRl,QH,if_true])
 simp only[QQ6,QRg,Vd,if_true]at e
 simp only[QdE,e,QQ0]
 cases QH (-1) b<;>simp[Qp]
theorem QsM (b:List Qb) (hb:b.length<=maxLen):yS w b=some (QH (-1) b):=by
 apply QmX
 have e:=QW b.length (fun i=>Z6 wl (b,(i:Int))) (fun i=>if QH (Vd b i) (b.drop i)then .inr ()else .inl false)
  (fun i hi ih=>by
    apply QbN
    simp only[jK,ilt hi,Qo hi,Qj hi,inc hi hb,QQ1,ih,Qa3,XD,QQ0]
    rw[QRa hi,QH,QcY b hi]
    rcases Nat.eq_zero_or_pos i with h0|h0
    ·subst h0
     cases h1:inR b[0].1 0 4
     ·simp
     ·have:=vX h1
      simp only[QhP,QQ2,QQ3,Vd,if_true,dt this,QRd,QRn]
      cases inR b[0].2 1 1000<;>simp
    ·have hi':i - 1<b.length:=by omega
     simp only[ipos h0,QQ1,Qjk h0 (by omega),Qo hi',Qj hi',QfK b h0 hi',Jp]
     cases inR b[i].1 0 4<;>cases inR b[i].2 1 1000<;>cases decide (b[i - 1].1<b[i].1)<;>simp)
  (by
    apply QbN
    simp only[jK,Qw,QQ2,QRl,QH,if_true])
 simp only[QQ6,QRg,Vd,if_true]at e
 simp only[QeW,e,QQ0]
 cases QH (-1) b<;>simp[Qp]
def qo (t:ZB):Bool:=bif decide (((t.1.length:Nat):Int)=0)then decide (t.2=0)else(t.1.all fun x=>inR x 0 1023)&&decide (((t.1.length:Nat):Int)=4)&&inR t.2 0 1023
theorem QvR (l:List Int) (r:Int) (h:l.length<=maxLen):QaL w (l,r)=some (qo (l,r)):=by
 apply Qny
 have e:=QW l.length (fun i=>VE wl (l,((l.length:Nat):Int),(i:Int),l,r)) (fun i=>if(l.drop i).all (fun x=>inR x 0 1023)then .inr (l,r)else .inl false)
  (fun i hi ih=>by
    apply Qcq
    rw[X2 (fun x=>inR x 0 1023) l _ _ hi]
    simp only[vB,ilt hi,Qo hi,Qj hi,inc hi h,QQ1,Q8,QQ0,ih]
    cases inR l[i] 0 1023<;>simp)
  (by
    apply Qcq
    simp[vB])
 simp only[QQ6,QRg]at e
 simp only[QfG,e,QQ0,Q8,qo]
 cases decide (((l.length:Nat):Int)=0)
 ·cases l.all fun x=>inR x 0 1023
  ·simp[Qp]
  ·simp only[if_true,Qp,QY3,QQ2,QRd]
   cases decide (((l.length:Nat):Int)=4)<;>simp
 ·simp
theorem Qid (l:List Int) (m hi:Int) (h:l.length<=maxLen):VD w (l,m,hi)=some (decide (((l.length:Nat):Int)<=m)&&l.all fun x=>inR x 0 hi):=by
 apply Qm6
 have e:=QW l.length (fun i=>Kx wl (l,hi,(i:Int))) (fun i=>if(l.drop i).all (fun x=>inR x 0 hi)then .inr ()else .inl false)
  (fun i hi' ih=>by
    apply Qa0
    rw[X2 (fun x=>inR x 0 hi) l _ _ hi']
    simp only[zJ,ilt hi',Qo hi',Qj hi',inc hi' h,QQ1,XD,QQ0,ih]
    cases inR l[i] 0 hi<;>simp)
  (by
    apply Qa0
    simp[zJ])
 simp only[QQ6,QRg]at e
 simp only[QdM,e,QQ0]
 by_cases hl:((l.length:Nat):Int)<=m
 ·simp only[df (show¬m<((l.length:Nat):Int) by omega),QQ2,dt hl,QRd]
  cases l.all fun x=>inR x 0 hi<;>simp[Qp]
 ·simp only[dt (show m<((l.length:Nat):Int) by omega),QQ1,df hl,QRm]
theorem Quq (l:List Int) (r:Int) (h:l.length<=maxLen):vf w (l,r)=some (qo (l,r)):=by
 apply QmR
 simp only[QdB,Qid l 4 1023 h,XD,QQ0,qo]
 cases decide (((l.length:Nat):Int)=0)
 ·by_cases h4:((l.length:Nat):Int)=4
  ·simp only[QQ2,dt h4,QQ1,dt (show((l.length:Nat):Int)<=4 by omega),QRd,QRn]
   cases l.all fun x=>inR x 0 1023<;>simp
  ·simp only[QQ2,df h4,QY15,QRm]
 ·simp
def okL:Int->List Int->Bool
 |_,[]=>true
 |p,x::l=>inR x 0 3&&decide (p<x)&&okL x l
def j0:Int->List Int->Bool
 |_,[]=>true
 |p,x::l=>decide (p<x)&&j0 x l
theorem QmW:(p:Int)->(l:List Int)->okL p l=((l.all fun x=>inR x 0 3)&&j0 p l)
 |p,[]=>rfl
 |p,x::l=>by
  rw[okL,QmW x l,QY20,j0]
  cases inR x 0 3<;>cases decide (p<x)<;>cases(l.all fun x=>inR x 0 3)<;>cases j0 x l<;>rfl
theorem QnM:(p:Int)->(l:List Int)->okL p l=true-> -1<=p->(l.length:Int)<=3 - p\/l=[]
 |p,[],_,_=> .inr rfl
 |p,x::l,h,hp=>by
  simp only[okL,QQ5,inR,QRu]at h
  left
  rcases QnM x l h.2 (by omega)with h5|h5
  ·simp only[QY0];omega
  ·subst h5;simp;omega
def QhV (b:List Int) (i:Nat):Int:=if i=0 then -1 else b.getD (i - 1) 0
theorem Quf (b:List Int) {i:Nat}(h:i<b.length):QhV b (i+1)=b[i]:=by simp[QhV,List.getD,h]
theorem QwE (b:List Int) {i:Nat}(h0:0<i) (h:i - 1<b.length):QhV b i=b[i - 1]:=by
 simp[QhV,List.getD,h,show¬i=0 by omega]
theorem Qv4 {n k:Int}(h:inR n 0 k=true): -1<n:=by
 simp[inR]at h;omega
def JU (a0 a1 a2 a3 a4:Int) (a5:List Int) (a6:Int) (a7 a8:List Int) (a9:List Qf) (a10 a11:List Qb):Bool:=inR a0 0 5&&inR a1 0 4&&inR a2 0 4&& !decide (a1=a2)&&okL (-1) a8&&(a7.all fun x=>inR x 0 100000)&&inR a3 0 100000&&inR a4 0 100000&&qo (a5,a6)&&decide (((a7.length:Nat):Int)<=5)&&QF (a9,a10)&&QH (-1) a11
def smM (a5 a7 a8:List Int) (a9:List Qf) (a10 a11:List Qb):Prop:=a5.length<=maxLen/\a7.length<=maxLen/\a8.length<=maxLen/\a9.length<=maxLen/\a10.length<=maxLen/\a11.length<=maxLen
theorem Qri (a0 a1 a2 a3 a4:Int) (a5:List Int) (a6:Int) (a7 a8:List Int) (a9:List Qf) (a10 a11:List Qb) (h:smM a5 a7 a8 a9 a10 a11):zB w (a0,a1,a2,a3,a4,a5,a6,a7,a8,a9,a10,a11)=some (JU a0 a1 a2 a3 a4 a5 a6 a7 a8 a9 a10 a11):=by
 obtain⟨h5,h7,h8,h9,h10,h11⟩:=h
 apply QpN
 have e0:=QW a8.length (fun i=>Y4 wl (a8,((a8.length:Nat):Int),(i:Int),a0,a1,a2,a3,a4,a5,a6,a7,a8,a9,a10,a11)) (fun i=>if okL (QhV a8 i) (a8.drop i)then .inr (a0,a1,a2,a3,a4,a5,a6,a7,a8,a9,a10,a11)else .inl false)
  (fun i hi ih=>by
    apply Qeo
    simp only[QbQ,ilt hi,Qo hi,Qj hi,inc hi h8,QQ1,ih,Q8,QQ0]
    rw[QRa hi,okL,Quf a8 hi]
    rcases Nat.eq_zero_or_pos i with h0|h0
    ·subst h0
     cases h1:inR a8[0] 0 3
     ·simp
     ·have:=Qv4 h1
      simp only[QhP,QQ2,QQ3,QhV,if_true,dt this,QRd,QRn]
    ·have hi':i - 1<a8.length:=by omega
     simp only[ipos h0,QQ1,Qjk h0 (by omega),Qo hi',Qj hi',QwE a8 h0 hi',Jp]
     cases inR a8[i] 0 3<;>cases decide (a8[i - 1]<a8[i])<;>simp)
  (by
    apply Qeo
    simp only[QbQ,Qw,QQ2,QRl,okL,if_true])
 have e2:=QW a7.length (fun i=>Jb wl (a7,((a7.length:Nat):Int),(i:Int),a0,a1,a2,a3,a4,a5,a6,a7,a8,a9,a10,a11)) (fun i=>if(a7.drop i).all (fun x=>inR x 0 100000)then .inr (a0,a1,a2,a3,a4,a5,a6,a7,a8,a9,a10,a11)else .inl false)
  (fun i hi ih=>by
    apply Qdx
    rw[X2 (fun x=>inR x 0 100000) a7 _ _ hi]
    simp only[Qb0,ilt hi,Qo hi,Qj hi,inc hi h7,QQ1,Q8,QQ0,ih]
    cases inR a7[i] 0 100000<;>simp)
  (by
    apply Qdx
    simp[Qb0])
 simp only[QQ6,QRg,QhV,if_true]at e0 e2
 simp only[Qhf,e0,Q8,Qbt,QQ0,JU]
 cases inR a0 0 5
 ·simp
 cases inR a1 0 4
 ·simp
 cases inR a2 0 4
 ·simp
 cases decide (a1=a2)
 case true=>simp
 simp only[QQ3,QQ4,QQ2,QRd]
 cases okL (-1) a8
 ·simp[Qp]
 simp only[if_true,Qp,QY3,e2,QQ0,QRd]
 cases a7.all fun x=>inR x 0 100000
 ·simp
 simp only[if_true,QY3,QRd,QvR a5 a6 h5,Ym a9 a10 h9 h10,QuO a11 h11,QQ0]
 cases inR a3 0 100000<;>cases inR a4 0 100000<;>cases qo (a5,a6)<;>cases decide (((a7.length:Nat):Int)<=5)<;>cases QF (a9,a10)<;>cases QH (-1) a11<;>rfl
theorem Qt8 (a0 a1 a2 a3 a4:Int) (a5:List Int) (a6:Int) (a7 a8:List Int) (a9:List Qf) (a10 a11:List Qb) (h8:a8.length<=maxLen):Y2 wl (1,a0,a1,a2,a3,a4,a5,a6,a7,a8,a9,a10,a11)=some (bif j0 (a8.getD 0 0) (a8.drop 1)then .inr ()else .inl false):=by
 cases hc:a8 with
 |nil=>
  apply xP
  simp[xq,j0]
 |cons x l=>
  rw[<-hc]
  have hlen:a8.length=l.length+1:=by rw[hc];rfl
  have e:=QW l.length (fun j=>Y2 wl (((j+1:Nat):Int),a0,a1,a2,a3,a4,a5,a6,a7,a8,a9,a10,a11)) (fun j=>bif j0 (a8.getD j 0) (a8.drop (j+1))then .inr ()else .inl false)
   (fun j hj ih=>by
     apply xP
     have hi:j+1<a8.length:=by omega
     have hi':j<a8.length:=by omega
     have hd:=Qjk (i:=j+1) (by omega) (by omega)
     rw[show j+1 - 1=j by omega]at hd
     have hg:a8.getD (j+1) 0=a8[j+1]:=by simp[List.getD,hi]
     have hg':a8.getD j 0=a8[j]:=by simp[List.getD,hi']
     rw[hg]at ih
     simp only[xq,ilt hi,Qo hi,Qj hi,inc hi h8,hd,Qo hi',Qj hi',QQ1,ih,Jp]
     rw[QRa hi,j0,hg']
     cases decide (a8[j]<a8[j+1])<;>simp)
   (by
     apply xP
     rw[<-hlen]
     simp only[xq,Qw,QQ2,QRl,j0,QQ1])
  exact e
theorem Qpm (a0 a1 a2 a3 a4:Int) (a5:List Int) (a6:Int) (a7 a8:List Int) (a9:List Qf) (a10 a11:List Qb) (h:smM a5 a7 a8 a9 a10 a11):ya w (a0,a1,a2,a3,a4,a5,a6,a7,a8,a9,a10,a11)=some (JU a0 a1 a2 a3 a4 a5 a6 a7 a8 a9 a10 a11):=by
 obtain⟨h5,h7,h8,h9,h10,h11⟩:=h
 apply Qp0
 simp only[QgQ,XD,Qa3,Quq a5 a6 h5,Qid a7 5 100000 h7,Qid a8 4 3 h8,KV a9 a10 h9 h10,QsM a11 h11,Qt8 a0 a1 a2 a3 a4 a5 a6 a7 a8 a9 a10 a11 h8,QQ0,JU]
 have key:okL (-1) a8=(decide (((a8.length:Nat):Int)<=4)&&(a8.all fun x=>inR x 0 3)&&j0 (a8.getD 0 0) (a8.drop 1)):=by
  cases hk:okL (-1) a8
  ·rw[QmW]at hk
   cases ha:a8.all fun x=>inR x 0 3
   ·simp
   ·rw[ha]at hk
    simp only[QRd]at hk
    cases hc:a8 with
    |nil=>rw[hc]at hk;simp[j0]at hk
    |cons x l=>
     rw[hc]at hk ha
     simp only[QY20,QQ5]at ha
     have:=Qv4 ha.1
     simp only[j0,dt this,QRd]at hk
     simp[hk]
  ·have hl:=QnM _ _ hk (by omega)
   have hl4:((a8.length:Nat):Int)<=4:=by
    rcases hl with h|h
    ·omega
    ·rw[h];simp
   rw[QmW]at hk
   simp only[QQ5]at hk
   rw[dt hl4,hk.1]
   cases hc:a8 with
   |nil=>rfl
   |cons x l=>
    have:=hk.2
    rw[hc]at this
    simp only[j0,QQ5]at this
    simp[this.2]
 rw[key]
 cases inR a0 0 5
 case false=>simp
 cases inR a1 0 4
 case false=>simp
 cases inR a2 0 4
 case false=>simp
 cases decide (a1=a2)
 case true=>simp
 cases inR a3 0 100000
 case false=>simp
 cases inR a4 0 100000
 case false=>simp
 cases qo (a5,a6)
 case false=>simp
 cases decide (((a7.length:Nat):Int)<=5)
 case false=>simp
 cases a7.all fun x=>inR x 0 100000
 case false=>simp
 cases decide (((a8.length:Nat):Int)<=4)
 case false=>simp
 cases a8.all fun x=>inR x 0 3
 case false=>simp
 cases QF (a9,a10)
 case false=>simp
 cases QH (-1) a11
 case false=>simp
 cases j0 (a8.getD 0 0) (a8.drop 1)<;>rfl
theorem QhC:(p:Int)->(l:List Qb)->QH p l=true->∀x∈l,inR x.1 0 4=true/\inR x.2 1 1000=true
 |_,[],_=>by simp
 |p,x::l,h=>by
  simp only[QH,QQ5]at h
  intro y hy
  rcases QRk.1 hy with rfl|hy
  ·exact⟨h.1.1.1,h.1.1.2⟩
  ·exact QhC _ l h.2 y hy
def QqO (r:List Int):List Qb->List Int
 | []=>r
 |m::l=>QqO (r.set m.1.toNat (mxI (rd1 0 r m.1) m.2)) l
def QhH (t:List (List Int)) (k:Int) (l:List Qb):List (List Int):=bif inR k 0 ((t.length:Nat) - 1)&&(QH (-1) l&& !decide (((List.length (rd1 ([]:List Int) t k):Nat):Int)<5))then t.set k.toNat (QqO (rd1 ([]:List Int) t k) l)else t
def Qx3 (id:Int):Nat->Int->List (List Int)->Int⊕Int
 |_,m,[]=> .inr m
 |k,m,r::l=>bif inR id 0 ((r.length:Nat) - 1)then(bif decide (k=0)||decide (rd1 0 r id<m)then Qx3 id (k+1) (rd1 0 r id) l else Qx3 id (k+1) m l)else .inl 0
def common (t:List (List Int)) (id:Int):Int:=Sum.elim (fun u=>u) (fun z=>z) (Qx3 id 0 0 t)
def QtM (s:Qk) (t:List (List Int)) (i:Nat):List Qb:=bif decide (0<mnI (common t (i:Int)) (qj s (i:Int)))then [((i:Int),mnI (common t (i:Int)) (qj s (i:Int)))]else []
def QwJ (s:Qk) (t:List (List Int)):Qk:=([],(List.range' 0 5).flatMap (QtM s t))
def prune (s:Qk) (t:List (List Int)):Qk:=bif QF s then join s (QwJ s t)else s
theorem QsO (s:Qk) (t:List (List Int)):QF (QwJ s t)=true:=by
 simp only[QF,QQ5]
 refine⟨xJ _ (fun i hi=> ?_) 5 0 (-1) (by omega) (by simp),rfl⟩
 have h:=Qt0 s (i:Int)
 unfold QtM
 by_cases h0:0<mnI (common t (i:Int)) (qj s (i:Int))
 ·refine Or.inr ⟨mnI (common t (i:Int)) (qj s (i:Int)),by simp[h0], ?_⟩
  have:mnI (common t (i:Int)) (qj s (i:Int))<=qj s (i:Int):=by unfold mnI;split<;>omega
  simp[inR];omega
 ·exact Or.inl (by simp[h0])
theorem Que {s:Qk}(h:QF s=true) (t:List (List Int)):QF (prune s t)=true:=by
 unfold prune;rw[h];exact Qpa h (QsO s t)
def YM (v:List Int) (k n:Int):List Int:=bif inR k 0 ((v.length:Nat) - 1)then v.set k.toNat (mxI (rd1 0 v k) n)else v
def QAM (a b:List Int) (i:Nat):List Int:=bif decide (((a.length:Nat):Int)=4)&&decide (((b.length:Nat):Int)=4)&&decide (rd1 0 a (i:Int)=rd1 0 b (i:Int))then []else [(i:Int)]
def differ (a:List Int) (ra:Int) (b:List Int) (rb:Int):List Int:=bif decide (ra=rb)then []else(List.range' 0 4).flatMap (QAM a b)
theorem QkX {s:Qk}(h:QF s=true):Q5 s<=60:=by
 have hl:=VR h
 simp only[QF,QQ5]at h
 have:=Qpg _ _ _ h.2
 simp only[Q5,VU,VO];omega
theorem QgE {α:Type}(c:α->Nat) (k:Nat):(l:List α)->(∀x∈l,c x<=k)->Zc c l<=k*l.length
 | [],_=>by simp[Zc]
 |x::l,h=>by
  have:=h x (by simp)
  have:=QgE c k l (fun y hy=>h y (by simp[hy]))
  simp only[Zc,QY0,Nat.mul_add];omega
structure NOk (x:Qi):Prop where
 n:inR x.2.1 1 5=true
 id:inR x.1 0 (x.2.1 - 1)=true
 st:QF (x.2.2.1,x.2.2.2.1)=true
 tree:(x.2.2.2.2.1,x.2.2.2.2.2.1)=YA (x.2.2.1,x.2.2.2.1)
 log:Vf (x.2.2.2.2.2.2.1,x.2.2.2.2.2.2.2.1,x.2.2.2.2.2.2.2.2.1)=true
 got:ZA x.2.2.2.2.2.2.2.2.2.1 x.2.1=true
 ack:ZA x.2.2.2.2.2.2.2.2.2.2.1 x.2.1=true
 own:x.2.2.2.2.2.2.2.2.2.1.getD (x.1).toNat 0=Xg (x.2.2.2.2.2.2.1,x.2.2.2.2.2.2.2.1,x.2.2.2.2.2.2.2.2.1)
 heard:(x.2.2.2.2.2.2.2.2.2.2.1.all fun y=>decide (y<=Xg (x.2.2.2.2.2.2.1,x.2.2.2.2.2.2.2.1,x.2.2.2.2.2.2.2.2.1)))=true
 seen:ZX x.2.2.2.2.2.2.2.2.2.2.2.1 x.2.1=true
 num:inR x.2.2.2.2.2.2.2.2.2.2.2.2.1 0 100000=true
 clock:inR x.2.2.2.2.2.2.2.2.2.2.2.2.2.2.2.2.2.1 0 100000=true
 wait:inR x.2.2.2.2.2.2.2.2.2.2.2.2.2.2.2.1 1 20=true
 limit:inR x.2.2.2.2.2.2.2.2.2.2.2.2.2.2.2.2.1 1 50=true
 slots:inR x.2.2.2.2.2.2.2.2.2.2.2.2.2.1 1 4=true
 room:((x.2.2.2.2.2.2.2.2.2.2.2.2.2.2.1.length:Nat):Int)<=x.2.2.2.2.2.2.2.2.2.2.2.2.2.1
 sess:XA x.1 x.2.1 x.2.2.2.2.2.2.2.2.2.2.2.2.2.2.2.1 [] x.2.2.2.2.2.2.2.2.2.2.2.2.2.2.1=true
 rlen:((x.2.2.2.2.2.2.2.2.2.2.2.2.2.2.2.2.2.2.length:Nat):Int)=5
 rises:x.2.2.2.2.2.2.2.2.2.2.2.2.2.2.2.2.2.2.all (Zo x.2.2.2.2.2.2.2.2.2.2.2.2.2.2.2.2.2.1)=true
theorem Q4 {n a b:Int}:inR n a b=true↔a<=n/\n<=b:=by simp[inR]
theorem Qi6 {v:List Int}{n:Int}(h:ZA v n=true):((v.length:Nat):Int)=n/\∀y∈v,inR y 0 100000=true:=by
 simp only[ZA,QQ5,QRu,QRt]at h
 exact⟨h.1.2,h.2⟩
theorem QvM {g:JC}(h:Vf g=true):∀s∈g.2.2,QF s=true:=by
 simp only[Vf,QQ5,QRt]at h
 exact h.2
theorem Qq5 {t:List (List Int)}{n:Int}(h:ZX t n=true):((t.length:Nat):Int)=n/\∀r∈t,V1 r=true:=by
 simp only[ZX,QQ5,QRu,QRt]at h
 exact⟨h.1.2,h.2⟩
theorem Qpk {r:List Int}(h:V1 r=true):r.length=5:=by
 simp only[V1,QQ5,QRu]at h
 omega
theorem Qmn {x:Qi}(h:NOk x):Xw x<=2000/\Qqy x:=by
 have h1:=VR h.st
 have h2:=QkX h.st
 have h3:x.2.2.2.2.1.length=4:=by
  have:=h.tree
  rw[YA,h.st]at this
  have:=congrArg (fun z:ZB=>z.1.length) this
  simpa[leaves]using this
 have h4:=QcK h.log
 have h5:=QvM h.log
 have h6:=Qi6 h.got
 have h7:=Qi6 h.ack
 have h8:=Qq5 h.seen
 have hn:=Q4.1 h.n
 have hs:=Q4.1 h.slots
 have hr:=h.room
 have hl:=h.rlen
 have k1:Zc Q5 x.2.2.2.2.2.2.2.2.1<=60*x.2.2.2.2.2.2.2.2.1.length:=QgE _ _ _ fun s hs=>QkX (h5 s hs)
 have k2:Zc Xe x.2.2.2.2.2.2.2.2.2.2.2.1<=5*x.2.2.2.2.2.2.2.2.2.2.2.1.length:=QgE _ _ _ fun r hr=>by
  have:=Qpk (h8.2 r hr)
  simp only[Xe];omega
 try simp only at h1 h4 h5
 constructor
 ·simp only[Xw,Jt,qZ,KC,Xe,V6,J6,qf]
  omega
 ·refine⟨by simp only[maxLen];omega,by simp only[maxLen];omega,by simp only[maxLen];omega,by simp only[maxLen];omega,fun s hs=>Qwv (h5 s hs),by simp only[maxLen];omega,by simp only[maxLen];omega,by simp only[maxLen];omega,fun r hr=> ?_,by simp only[maxLen];omega,by simp only[maxLen];omega⟩
  have:=Qpk (h8.2 r hr)
  simp only[maxLen];omega
def Qdl (c:Int) (rs:List QY) (x:Qf):List QY:=bif decide ((rd1 JO rs x.1).1<x.2.1)then rs.set x.1.toNat (x.2.1,x.2.2.2.1,c)else(bif decide (x.2.1=(rd1 JO rs x.1).1)then(bif decide ((rd1 JO rs x.1).2.1<x.2.2.2.1)then rs.set x.1.toNat (x.2.1,x.2.2.2.1,c)else rs)else rs)
def Qhs (c:Int):List QY->List Qf->List QY
 |rs,[]=>rs
 |rs,x::l=>Qhs c (Qdl c rs x) l
theorem Qrl (c:Int) (rs:List QY) (x:Qf):(Qdl c rs x).length=rs.length:=by
 unfold Qdl
 cases decide ((rd1 JO rs x.1).1<x.2.1)<;>cases decide (x.2.1=(rd1 JO rs x.1).1)<;>cases decide ((rd1 JO rs x.1).2.1<x.2.2.2.1)<;>simp
theorem Qkf (c:Int):(rs:List QY)->(l:List Qf)->(Qhs c rs l).length=rs.length
 |rs,[]=>rfl
 |rs,x::l=>by rw[Qhs,Qkf c _ l,Qrl]
theorem Ql6 (fl:List Qb):(p:Int)->(l:List Qf)->Xa fl p l=true->∀x∈l,inR x.1 0 4=true/\XP x.2=true
 |_,[],_=>by simp
 |p,x::l,h=>by
  simp only[Xa,QQ5]at h
  intro y hy
  rcases QRk.1 hy with rfl|hy
  ·exact⟨h.1.1.1.1,h.1.1.1.2⟩
  ·exact Ql6 fl _ l h.2 y hy
theorem Qm7 {s:Qk}(h:QF s=true):∀x∈s.1,inR x.1 0 4=true/\XP x.2=true:=by
 simp only[QF,QQ5]at h
 exact Ql6 _ _ _ h.2
theorem Qu9 {c:Int}(hc:0<=c) {rs:List QY}(h:∀r∈rs,Zo c r=true) {x:Qf}(hx:XP x.2=true):∀r∈rs.set x.1.toNat (x.2.1,x.2.2.2.1,c),Zo c r=true:=by
 intro r hr
 rcases QY35 hr with hr|rfl
 ·exact h r hr
 ·have:=Qlg hx
  simp[Zo,inR];omega
theorem Qsl {c:Int}(hc:0<=c) {rs:List QY}(h:∀r∈rs,Zo c r=true) {x:Qf}(hx:XP x.2=true):∀r∈Qdl c rs x,Zo c r=true:=by
 have hs:=Qu9 hc h hx
 unfold Qdl
 cases decide ((rd1 JO rs x.1).1<x.2.1)<;>cases decide (x.2.1=(rd1 JO rs x.1).1)<;>cases decide ((rd1 JO rs x.1).2.1<x.2.2.2.1)<;>simp only[QQ1,QQ2]<;>assumption
theorem Ql7 {c:Int}(hc:0<=c):(rs:List QY)->(l:List Qf)->(∀r∈rs,Zo c r=true)->(∀x∈l,XP x.2=true)->∀r∈Qhs c rs l,Zo c r=true
 |rs,[],h,_=>h
 |rs,x::l,h,hl=>Ql7 hc _ l (Qsl hc h (hl x (by simp))) fun y hy=>hl y (by simp[hy])
theorem Qo5:(l:List Qb)->(r:List Int)->V1 r=true->(∀m∈l,inR m.2 1 1000=true)->V1 (QqO r l)=true
 | [],r,h,_=>h
 |m::l,r,h,hl=>by
  refine Qo5 l _ ?_ fun y hy=>hl y (by simp[hy])
  have hm:=Q4.1 (hl m (by simp))
  simp only[V1,QQ5,QRt,QRu,QY26]at h⊢
  refine⟨fun y hy=> ?_,h.2⟩
  rcases QY35 hy with hy|rfl
  ·exact h.1 y hy
  ·have hq:0<=rd1 0 r m.1/\rd1 0 r m.1<=1000:=by
    unfold rd1
    by_cases hk:m.1.toNat<r.length
    ·have:=Q4.1 (h.1 _ (QRf hk))
     simpa[List.getD,QRp hk]using this
    ·simp[List.getD,List.getElem?_eq_none (Nat.le_of_not_lt hk)]
   rw[Q4]
   unfold mxI;split<;>omega
theorem Qke {t:List (List Int)}{n:Int}(h:ZX t n=true) (k:Int) (l:List Qb):ZX (QhH t k l) n=true:=by
 unfold QhH
 cases hk:inR k 0 ((t.length:Nat) - 1)
 ·exact h
 ·obtain⟨j,rfl,hj⟩:=Qc1 hk
  cases ho:QH (-1) l
  ·exact h
  ·simp only[QRd]
   cases(!decide (((List.length (rd1 ([]:List Int) t (j:Int)):Nat):Int)<5))
   ·exact h
   ·have hl:=QhC _ _ ho
    simp only[ZX,QQ5,QRt,QRu,QQ1,QY26]at h⊢
    refine⟨h.1,fun r hr=> ?_⟩
    rcases QY35 hr with hr|rfl
    ·exact h.2 r hr
    ·rw[Qj hj]
     exact Qo5 l _ (h.2 _ (QRf hj)) fun m hm=>(hl m hm).2
def Qrk (x:Qi) (p:Qk):List (List Int):=QhH x.2.2.2.2.2.2.2.2.2.2.2.1 x.1 (marksOf (join (x.2.2.1,x.2.2.2.1) p))
def QgT (x:Qi) (p:Qk):Qk:=prune (join (x.2.2.1,x.2.2.2.1) p) (Qrk x p)
def take (x:Qi) (p:Qk):Qi:=(x.1,x.2.1,(QgT x p).1,(QgT x p).2,(YA (QgT x p)).1,(YA (QgT x p)).2,x.2.2.2.2.2.2.1,x.2.2.2.2.2.2.2.1,x.2.2.2.2.2.2.2.2.1,x.2.2.2.2.2.2.2.2.2.1,x.2.2.2.2.2.2.2.2.2.2.1,Qrk x p,x.2.2.2.2.2.2.2.2.2.2.2.2.1,x.2.2.2.2.2.2.2.2.2.2.2.2.2.1,x.2.2.2.2.2.2.2.2.2.2.2.2.2.2.1,x.2.2.2.2.2.2.2.2.2.2.2.2.2.2.2.1,x.2.2.2.2.2.2.2.2.2.2.2.2.2.2.2.2.1,x.2.2.2.2.2.2.2.2.2.2.2.2.2.2.2.2.2.1,Qhs x.2.2.2.2.2.2.2.2.2.2.2.2.2.2.2.2.2.1 x.2.2.2.2.2.2.2.2.2.2.2.2.2.2.2.2.2.2 (QgT x p).1)
theorem Qpn {x:Qi}(h:NOk x) {p:Qk}(hp:QF p=true):QF (QgT x p)=true:=Que (Qpa h.st hp) _
theorem Qq0 {x:Qi}(h:NOk x) {p:Qk}(hp:QF p=true):NOk (take x p) where
 n:=h.n
 id:=h.id
 st:=Qpn h hp
 tree:=rfl
 log:=h.log
 got:=h.got
 ack:=h.ack
 own:=h.own
 heard:=h.heard
 seen:=Qke h.seen _ _
 num:=h.num
 clock:=h.clock
 wait:=h.wait
 limit:=h.limit
 slots:=h.slots
 room:=h.room
 sess:=h.sess
 rlen:=by simp only[take,Qkf];exact h.rlen
 rises:=QRt.2 (Ql7 (Q4.1 h.clock).1 _ _ (QRt.1 h.rises) fun y hy=>(Qm7 (Qpn h hp) y hy).2)
def Qrf (g:JC) (d:Qk):JC:=bif decide (g.1<(((g.2.2++[d]).length:Nat):Int))then(g.1,g.2.1+1,(g.2.2++[d]).drop 1)else(g.1,g.2.1,g.2.2++[d])
def Qvw:Qk->List Qk->Qk
 |s,[]=>s
 |s,d::l=>Qvw (join s d) l
def Qqn (g:JC) (seq:Int):List Qf×List Qb×Bool:=bif inR seq g.2.1 (g.2.1+((g.2.2.length:Nat):Int))then((Qvw ([],[]) (g.2.2.drop (seq - g.2.1).toNat)).1,(Qvw ([],[]) (g.2.2.drop (seq - g.2.1).toNat)).2,true)else([],[],false)
def present (s:Qk) (id:Int):Int×Int×Int×Int×ByteArray×Int:=bif QF s&&inR id 0 4 then(bif (lookup s id).2.2.2.2.2 then((lookup s id).1,(lookup s id).2.1,(lookup s id).2.2.1,(lookup s id).2.2.2.1,(lookup s id).2.2.2.2.1,0)else(0,0,0,0,ByteArray.empty,3))else(0,0,0,0,ByteArray.empty,1)
def one (id:Int) (e:X6):Qk:=([(id,e)],[])
def zp (s:Qk) (id:Int):List Qf×List Qb×Int:=bif !decide ((present s id).2.2.2.2.2=0)then([],[],(present s id).2.2.2.2.2)else(bif decide ((present s id).2.2.1=100000)then([],[],4)else([(id,(present s id).1,(present s id).2.1,(present s id).2.2.1+1,(present s id).2.2.2.1,(present s id).2.2.2.2.1)],[],0))
theorem Qnb (x y:QI):XV x y=XV y x:=by
 unfold XV
 by_cases h:y.1=x.1
 ·rw[dt h,dt h.symm];cases y.2.2.1<;>cases x.2.2.1<;>rfl
 ·rw[df h,df (fun e=>h e.symm)];rfl
theorem QmG (id n wt:Int):(l pre:List QI)->(XA id n wt pre l=true↔(∀x∈l,Y6 id n wt x=true)/\(∀x∈l,∀y∈pre,XV x y=false)/\l.Pairwise fun y x=>XV x y=false)
 | [],pre=>by simp[XA]
 |x::l,pre=>by
  rw[XA,QQ5,QQ5,QmG id n wt l (pre++[x]),List.pairwise_cons]
  constructor
  ·rintro⟨⟨h1,h2⟩,h3,h4,h5⟩
   have h2':∀y∈pre,XV x y=false:=fun y hy=>by
    cases hk:XV x y
    ·rfl
    ·have:pre.any (XV x)=true:=QY23.2 ⟨y,hy,hk⟩
     rw[this]at h2;cases h2
   refine⟨fun y hy=> ?_,fun y hy z hz=> ?_,fun y hy=>h4 y hy x (by simp),h5⟩
   ·rcases QRk.1 hy with rfl|hy
    ·exact h1
    ·exact h3 y hy
   ·rcases QRk.1 hy with rfl|hy
    ·exact h2' z hz
    ·exact h4 y hy z (by simp[hz])
  ·rintro⟨h1,h2,h3,h4⟩
   refine⟨⟨h1 x (by simp), ?_⟩,fun y hy=>h1 y (by simp[hy]),fun y hy z hz=> ?_,h4⟩
   ·have:pre.any (XV x)=false:=by
     cases hk:pre.any (XV x)
     ·rfl
     ·obtain⟨y,hy,hk⟩:=QY23.1 hk
      rw[h2 x (by simp) y hy]at hk;cases hk
    rw[this];rfl
   ·rcases QRh.1 hz with hz|hz
    ·exact h2 y (by simp[hy]) z hz
    ·obtain rfl:z=x:=by simpa using hz
     exact h3 y hy
theorem Qaa (id n wt:Int) (l:List QI):XA id n wt [] l=true↔(∀x∈l,Y6 id n wt x=true)/\l.Pairwise fun y x=>XV x y=false:=by
 rw[QmG];simp
theorem Qpe (p:Int) (b:Bool):(off:Nat)->(l:List QI)->Ky (ZN p b off l)<0->∀y∈l,(decide (y.1=p)&&(y.2.2.1==b))=false
 |_,[],_=>by simp
 |off,y::l,h=>by
  rw[ZN]at h
  cases hk:decide (y.1=p)&&(y.2.2.1==b)
  ·rw[hk]at h
   intro z hz
   rcases QRk.1 hz with rfl|hz
   ·exact hk
   ·exact Qpe p b (off+1) l h z hz
  ·rw[hk]at h;simp[Ky]at h;omega
theorem Qo1 (p:Int) (b:Bool):(off:Nat)->(l:List QI)->¬Ky (ZN p b off l)<0->∃i:Nat,Ky (ZN p b off l)=((off+i:Nat):Int)/\∃h:i<l.length,(decide (l[i].1=p)&&(l[i].2.2.1==b))=true
 |off,[],h=>by simp[ZN,Ky]at h
 |off,y::l,h=>by
  rw[ZN]at h⊢
  cases hk:decide (y.1=p)&&(y.2.2.1==b)
  ·rw[hk]at h
   obtain⟨i,e,hi,h2⟩:=Qo1 p b (off+1) l h
   exact⟨i+1,by simp only[QQ2];rw[e];congr 1;omega,by simpa using hi,by simpa using h2⟩
  ·exact⟨0,rfl,by simp,by simpa using hk⟩
theorem QqQ {id n wt:Int}{l:List QI}(h:XA id n wt [] l=true) {x:QI}(hx:Y6 id n wt x=true) (hn:Ky (ZN x.1 x.2.2.1 0 l)<0):XA id n wt [] (l++[x])=true:=by
 rw[Qaa]at h⊢
 refine⟨fun y hy=> ?_,List.pairwise_append.2 ⟨h.2,by simp,fun y hy z hz=> ?_⟩⟩
 ·rcases QRh.1 hy with hy|hy
  ·exact h.1 y hy
  ·obtain rfl:y=x:=by simpa using hy
   exact hx
 ·obtain rfl:z=x:=by simpa using hz
  exact Qpe z.1 z.2.2.1 0 l hn y hy
theorem Qum {id n wt:Int}{l:List QI}(h:XA id n wt [] l=true) (i:Nat):XA id n wt [] (l.take i++l.drop (i+1))=true:=by
 rw[Qaa]at h⊢
 have hs:(l.take i++l.drop (i+1)).Sublist l:=by
  have:=QY24 (QY19 (l.take i)) (List.drop_sublist 1 (l.drop i))
  rw[List.take_append_drop,List.drop_drop]at this
  exact this
 exact⟨fun y hy=>h.1 y (hs.subset hy),h.2.sublist hs⟩
theorem Qw5 {id n wt:Int}{l:List QI}(h:XA id n wt [] l=true) {i:Nat}(hi:i<l.length) {x:QI}(hx:Y6 id n wt x=true) (h1:x.1=l[i].1) (h2:x.2.2.1=l[i].2.2.1):XA id n wt [] (l.set i x)=true:=by
 rw[Qaa]at h⊢
 have hk:∀y,XV x y=XV l[i] y:=fun y=>by unfold XV;rw[h1,h2]
 refine⟨fun y hy=> ?_, ?_⟩
 ·rcases QY35 hy with hy|rfl
  ·exact h.1 y hy
  ·exact hx
 ·rw[List.pairwise_iff_getElem]at h⊢
  intro a b ha hb hab
  rw[QY26]at ha hb
  rw[List.getElem_set,List.getElem_set]
  have:=h.2 a b ha hb hab
  split
  ·rename_i e;subst e
   rw[if_neg (by omega),hk];exact this
  ·split
   ·rename_i e;subst e
    rw[Qnb,hk,Qnb];exact this
   ·exact this
def ship (x:Qi) (seq:Int):List Qf×List Qb×Bool:=bif (Qqn (x.2.2.2.2.2.2.1,x.2.2.2.2.2.2.2.1,x.2.2.2.2.2.2.2.2.1) seq).2.2 then Qqn (x.2.2.2.2.2.2.1,x.2.2.2.2.2.2.2.1,x.2.2.2.2.2.2.2.2.1) seq else(x.2.2.1,x.2.2.2.1,false)
def msg (x:Qi) (k to num:Int):Q1:=(k,x.1,to,num,Xg (x.2.2.2.2.2.2.1,x.2.2.2.2.2.2.2.1,x.2.2.2.2.2.2.2.2.1),[],0,x.2.2.2.2.2.2.2.2.2.1,[],[],[],marksOf (x.2.2.1,x.2.2.2.1))
def QgI (x:Qi) (to:Int):Bool:=Qdu x.1 x.2.1 to&&(decide (Ky (ZN to false 0 x.2.2.2.2.2.2.2.2.2.2.2.2.2.2.1)<0)&&(!decide (x.2.2.2.2.2.2.2.2.2.2.2.2.2.1<=((x.2.2.2.2.2.2.2.2.2.2.2.2.2.2.1.length:Nat):Int))&& !decide (x.2.2.2.2.2.2.2.2.2.2.2.2.1=100000)))
def QrL (x:Qi) (to:Int):Qi:=(x.1,x.2.1,x.2.2.1,x.2.2.2.1,x.2.2.2.2.1,x.2.2.2.2.2.1,x.2.2.2.2.2.2.1,x.2.2.2.2.2.2.2.1,x.2.2.2.2.2.2.2.2.1,x.2.2.2.2.2.2.2.2.2.1,x.2.2.2.2.2.2.2.2.2.2.1,x.2.2.2.2.2.2.2.2.2.2.2.1,x.2.2.2.2.2.2.2.2.2.2.2.2.1+1,x.2.2.2.2.2.2.2.2.2.2.2.2.2.1,x.2.2.2.2.2.2.2.2.2.2.2.2.2.2.1++[(to,x.2.2.2.2.2.2.2.2.2.2.2.2.1+1,false,0)],x.2.2.2.2.2.2.2.2.2.2.2.2.2.2.2.1,x.2.2.2.2.2.2.2.2.2.2.2.2.2.2.2.2.1,x.2.2.2.2.2.2.2.2.2.2.2.2.2.2.2.2.2.1,x.2.2.2.2.2.2.2.2.2.2.2.2.2.2.2.2.2.2)
theorem Qyn {x:Qi}(h:NOk x) {to:Int}(hc:QgI x to=true):NOk (QrL x to) where
 n:=h.n
 id:=h.id
 st:=h.st
 tree:=h.tree
 log:=h.log
 got:=h.got
 ack:=h.ack
 own:=h.own
 heard:=h.heard
 seen:=h.seen
 num:=by
  have:=Q4.1 h.num
  simp only[QgI,QQ5,QY11,decide_eq_false_iff_not]at hc
  simp only[QrL,Q4];omega
 clock:=h.clock
 wait:=h.wait
 limit:=h.limit
 slots:=h.slots
 room:=by
  have:=h.room
  simp only[QgI,QQ5,QY11,decide_eq_false_iff_not]at hc
  simp only[QrL,QRj,QY0,QY18];omega
 sess:=by
  have hn:=Q4.1 h.num
  have hw:=Q4.1 h.wait
  simp only[QgI,QQ5,QY11,decide_eq_false_iff_not,QRu]at hc
  refine QqQ h.sess ?_ hc.2.1
  simp only[Y6,hc.1,QRd,QQ5,Q4];omega
 rlen:=h.rlen
 rises:=h.rises
def Vt (m:Q1):Bool:=JU m.1 m.2.1 m.2.2.1 m.2.2.2.1 m.2.2.2.2.1 m.2.2.2.2.2.1 m.2.2.2.2.2.2.1 m.2.2.2.2.2.2.2.1 m.2.2.2.2.2.2.2.2.1 m.2.2.2.2.2.2.2.2.2.1 m.2.2.2.2.2.2.2.2.2.2.1 m.2.2.2.2.2.2.2.2.2.2.2
structure MOk (m:Q1):Prop where
 kind:inR m.1 0 5=true
 src:inR m.2.1 0 4=true
 dst:inR m.2.2.1 0 4=true
 two:m.2.1≠m.2.2.1
 lv:okL (-1) m.2.2.2.2.2.2.2.2.1=true
 vec:∀y∈m.2.2.2.2.2.2.2.1,inR y 0 100000=true
 num:inR m.2.2.2.1 0 100000=true
 hi:inR m.2.2.2.2.1 0 100000=true
 tree:qo (m.2.2.2.2.2.1,m.2.2.2.2.2.2.1)=true
 vl:((m.2.2.2.2.2.2.2.1.length:Nat):Int)<=5
 part:QF (m.2.2.2.2.2.2.2.2.2.1,m.2.2.2.2.2.2.2.2.2.2.1)=true
 marks:QH (-1) m.2.2.2.2.2.2.2.2.2.2.2=true
theorem mok {m:Q1}(h:Vt m=true):MOk m:=by
 simp only[Vt,JU,QQ5,QRu,QRt,QY11,decide_eq_false_iff_not]at h
 obtain⟨⟨⟨⟨⟨⟨⟨⟨⟨⟨⟨h1,h2⟩,h3⟩,h4⟩,h5⟩,h6⟩,h7⟩,h8⟩,h9⟩,h10⟩,h11⟩,h12⟩:=h
 exact⟨h1,h2,h3,h4,h5,h6,h7,h8,h9,h10,h11,h12⟩
theorem Qwc {l:List Qb}(h:QH (-1) l=true):l.length<=5:=by
 have:=yR _ _ h (by omega)
 rcases this with h|h
 ·omega
 ·rw[h];simp
structure Fit (x:Qi) (m:Q1):Prop where
 ok:MOk m
 to:m.2.2.1=x.1
 src:m.2.1<x.2.1
 len:((m.2.2.2.2.2.2.2.1.length:Nat):Int)=x.2.1
theorem QuA {g:JC}(h:Vf g=true):0<=Xg g/\Xg g<=100000:=by
 have:=QcK h
 unfold Xg;rw[h]
 simp only[QQ1];omega
theorem QrO {v:List Int}{k n:Int}(h:∀y∈v,inR y 0 100000=true) (hn:n<=100000):∀y∈YM v k n,inR y 0 100000=true:=by
 unfold YM
 cases hk:inR k 0 ((v.length:Nat) - 1)
 ·exact h
 ·obtain⟨j,rfl,hj⟩:=Qc1 hk
  intro y hy
  rcases QY35 hy with hy|rfl
  ·exact h y hy
  ·have:=Q4.1 (h _ (QRf hj))
   rw[Qj hj,Q4]
   unfold mxI;split<;>omega
theorem QqB (v:List Int) (k n:Int):(YM v k n).length=v.length:=by
 unfold YM;cases inR k 0 ((v.length:Nat) - 1)<;>simp
theorem Qkn {v:List Int}{c k n:Int}(h:ZA v c=true) (hn:n<=100000):ZA (YM v k n) c=true:=by
 have:=Qi6 h
 simp only[ZA,QQ5,QRu,QRt,QqB]at h⊢
 exact⟨h.1,QrO this.2 hn⟩
theorem QrC {v:List Int}{k n:Int}{j:Nat}(hne:k≠(j:Int)):(YM v k n).getD j 0=v.getD j 0:=by
 unfold YM
 cases hk:inR k 0 ((v.length:Nat) - 1)
 ·rfl
 ·obtain⟨i,rfl,hi⟩:=Qc1 hk
  simp only[QQ1,QRb,List.getD]
  rw[List.getElem?_set_ne (by omega)]
def QvK (x:Qi) (m:Q1):Qi:=(x.1,x.2.1,x.2.2.1,x.2.2.2.1,x.2.2.2.2.1,x.2.2.2.2.2.1,x.2.2.2.2.2.2.1,x.2.2.2.2.2.2.2.1,x.2.2.2.2.2.2.2.2.1,x.2.2.2.2.2.2.2.2.2.1,YM x.2.2.2.2.2.2.2.2.2.2.1 m.2.1 (mnI (rd1 0 m.2.2.2.2.2.2.2.1 x.1) (Xg (x.2.2.2.2.2.2.1,x.2.2.2.2.2.2.2.1,x.2.2.2.2.2.2.2.2.1))),QhH x.2.2.2.2.2.2.2.2.2.2.2.1 m.2.1 m.2.2.2.2.2.2.2.2.2.2.2,x.2.2.2.2.2.2.2.2.2.2.2.2.1,x.2.2.2.2.2.2.2.2.2.2.2.2.2.1,x.2.2.2.2.2.2.2.2.2.2.2.2.2.2.1,x.2.2.2.2.2.2.2.2.2.2.2.2.2.2.2.1,x.2.2.2.2.2.2.2.2.2.2.2.2.2.2.2.2.1,x.2.2.2.2.2.2.2.2.2.2.2.2.2.2.2.2.2.1,x.2.2.2.2.2.2.2.2.2.2.2.2.2.2.2.2.2.2)
theorem QuI {x:Qi}(h:NOk x) {m:Q1}(hf:Fit x m):NOk (QvK x m) where
 n:=h.n
 id:=h.id
 st:=h.st
 tree:=h.tree
 log:=h.log
 got:=h.got
 ack:=Qkn h.ack (by
  have:=QuA h.log
  unfold mnI;split<;>omega)
 own:=h.own
 heard:=by
  refine QRt.2 fun y hy=>decide_eq_true ?_
  have ho:=QRt.1 h.heard
  have hy':y∈YM x.2.2.2.2.2.2.2.2.2.2.1 m.2.1 (mnI (rd1 0 m.2.2.2.2.2.2.2.1 x.1) (Xg (x.2.2.2.2.2.2.1,x.2.2.2.2.2.2.2.1,x.2.2.2.2.2.2.2.2.1))):=hy
  show y<=Xg (x.2.2.2.2.2.2.1,x.2.2.2.2.2.2.2.1,x.2.2.2.2.2.2.2.2.1)
  unfold YM at hy'
  cases hk:inR m.2.1 0 ((x.2.2.2.2.2.2.2.2.2.2.1.length:Nat) - 1)
  ·rw[hk]at hy';simpa using ho y hy'
  ·rw[hk]at hy'
   rcases QY35 hy' with hy'|rfl
   ·simpa using ho y hy'
   ·obtain⟨j,hj,hj2⟩:=Qc1 hk
    have:=ho _ (QRf hj2)
    simp only[QRu]at this
    rw[hj,Qj hj2]
    unfold mxI mnI
    split<;>split<;>omega
 seen:=Qke h.seen _ _
 num:=h.num
 clock:=h.clock
 wait:=h.wait
 limit:=h.limit
 slots:=h.slots
 room:=h.room
 sess:=h.sess
 rlen:=h.rlen
 rises:=h.rises
theorem Qyf:QF ([],[])=true:=rfl
def heard (x:Qi) (m:Q1):Qi:=take (QvK x m) ([],[])
theorem Qi3 {x:Qi}(h:NOk x) {m:Q1}(hf:Fit x m):NOk (heard x m):=Qq0 (QuI h hf) Qyf
def brought (x:Qi) (m:Q1):Qi:=((take (heard x m) (m.2.2.2.2.2.2.2.2.2.1,m.2.2.2.2.2.2.2.2.2.2.1)).1,(take (heard x m) (m.2.2.2.2.2.2.2.2.2.1,m.2.2.2.2.2.2.2.2.2.2.1)).2.1,(take (heard x m) (m.2.2.2.2.2.2.2.2.2.1,m.2.2.2.2.2.2.2.2.2.2.1)).2.2.1,(take (heard x m) (m.2.2.2.2.2.2.2.2.2.1,m.2.2.2.2.2.2.2.2.2.2.1)).2.2.2.1,(take (heard x m) (m.2.2.2.2.2.2.2.2.2.1,m.2.2.2.2.2.2.2.2.2.2.1)).2.2.2.2.1,(take (heard x m) (m.2.2.2.2.2.2.2.2.2.1,m.2.2.2.2.2.2.2.2.2.2.1)).2.2.2.2.2.1,(take (heard x m) (m.2.2.2.2.2.2.2.2.2.1,m.2.2.2.2.2.2.2.2.2.2.1)).2.2.2.2.2.2.1,(take (heard x m) (m.2.2.2.2.2.2.2.2.2.1,m.2.2.2.2.2.2.2.2.2.2.1)).2.2.2.2.2.2.2.1,(take (heard x m) (m.2.2.2.2.2.2.2.2.2.1,m.2.2.2.2.2.2.2.2.2.2.1)).2.2.2.2.2.2.2.2.1,YM (take (heard x m) (m.2.2.2.2.2.2.2.2.2.1,m.2.2.2.2.2.2.2.2.2.2.1)).2.2.2.2.2.2.2.2.2.1 m.2.1 m.2.2.2.2.1,(take (heard x m) (m.2.2.2.2.2.2.2.2.2.1,m.2.2.2.2.2.2.2.2.2.2.1)).2.2.2.2.2.2.2.2.2.2.1,(take (heard x m) (m.2.2.2.2.2.2.2.2.2.1,m.2.2.2.2.2.2.2.2.2.2.1)).2.2.2.2.2.2.2.2.2.2.2.1,(take (heard x m) (m.2.2.2.2.2.2.2.2.2.1,m.2.2.2.2.2.2.2.2.2.2.1)).2.2.2.2.2.2.2.2.2.2.2.2.1,(take (heard x m) (m.2.2.2.2.2.2.2.2.2.1,m.2.2.2.2.2.2.2.2.2.2.1)).2.2.2.2.2.2.2.2.2.2.2.2.2.1,(take (heard x m) (m.2.2.2.2.2.2.2.2.2.1,m.2.2.2.2.2.2.2.2.2.2.1)).2.2.2.2.2.2.2.2.2.2.2.2.2.2.1,(take (heard x m) (m.2.2.2.2.2.2.2.2.2.1,m.2.2.2.2.2.2.2.2.2.2.1)).2.2.2.2.2.2.2.2.2.2.2.2.2.2.2.1,(take (heard x m) (m.2.2.2.2.2.2.2.2.2.1,m.2.2.2.2.2.2.2.2.2.2.1)).2.2.2.2.2.2.2.2.2.2.2.2.2.2.2.2.1,(take (heard x m) (m.2.2.2.2.2.2.2.2.2.1,m.2.2.2.2.2.2.2.2.2.2.1)).2.2.2.2.2.2.2.2.2.2.2.2.2.2.2.2.2.1,(take (heard x m) (m.2.2.2.2.2.2.2.2.2.1,m.2.2.2.2.2.2.2.2.2.2.1)).2.2.2.2.2.2.2.2.2.2.2.2.2.2.2.2.2.2)
theorem Qgn {x:Qi}(h:NOk x) {m:Q1}(hf:Fit x m):NOk (brought x m):=by
 have hb:NOk (take (heard x m) (m.2.2.2.2.2.2.2.2.2.1,m.2.2.2.2.2.2.2.2.2.2.1)):=Qq0 (Qi3 h hf) hf.ok.part
 have h1:=Q4.1 h.id
 have hne:m.2.1≠(((x.1).toNat:Nat):Int):=by
  have:=hf.ok.two
  have:=hf.to
  omega
 exact {
  n:=hb.n
  id:=hb.id
  st:=hb.st
  tree:=hb.tree
  log:=hb.log
  got:=Qkn hb.got (Q4.1 hf.ok.hi).2
  ack:=hb.ack
  own:=(QrC hne).trans hb.own
  heard:=hb.heard
  seen:=hb.seen
  num:=hb.num
  clock:=hb.clock
  wait:=hb.wait
  limit:=hb.limit
  slots:=hb.slots
  room:=hb.room
  sess:=hb.sess
  rlen:=hb.rlen
  rises:=hb.rises}
end Go.Proofs.YtiejfnbmficbmaaGreat.M
