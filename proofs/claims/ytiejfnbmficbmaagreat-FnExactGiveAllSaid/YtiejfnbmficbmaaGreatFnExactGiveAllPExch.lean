/- What the plain forms that FnExactGiveAll reaches come to: PExch. No conditions but those that each theorem states. -/
import Derived.Test.YtiejfnbmficbmaaGreatFnExactGiveAllPSend
set_option linter.all false
namespace Go.Proofs.YtiejfnbmficbmaaGreat.M
open Go Go.Eng Go.Proofs
set_option linter.unusedVariables false
def QGF (wt:Int):List QB->List QB
 | []=>[]
 |x::l=>bif decide (x.2.2.2+1<=wt)then(x.1,x.2.1,x.2.2.1,x.2.2.2+1)::QGF wt l else QGF wt l
def QM3 (x:Qc):Qc:=(x.1,x.2.1,x.2.2.1,x.2.2.2.1,x.2.2.2.2.1,x.2.2.2.2.2.1,x.2.2.2.2.2.2.1,x.2.2.2.2.2.2.2.1,x.2.2.2.2.2.2.2.2.1,x.2.2.2.2.2.2.2.2.2.1,x.2.2.2.2.2.2.2.2.2.2.1,x.2.2.2.2.2.2.2.2.2.2.2.1,x.2.2.2.2.2.2.2.2.2.2.2.2.1,x.2.2.2.2.2.2.2.2.2.2.2.2.2.1,QGF x.2.2.2.2.2.2.2.2.2.2.2.2.2.2.2.1 x.2.2.2.2.2.2.2.2.2.2.2.2.2.2.1,x.2.2.2.2.2.2.2.2.2.2.2.2.2.2.2.1,x.2.2.2.2.2.2.2.2.2.2.2.2.2.2.2.2.1,x.2.2.2.2.2.2.2.2.2.2.2.2.2.2.2.2.2.1+1,x.2.2.2.2.2.2.2.2.2.2.2.2.2.2.2.2.2.2)
def tick (x:Qc):Qc:=bif decide (x.2.2.2.2.2.2.2.2.2.2.2.2.2.2.2.2.2.1=100000)then x else QM3 x
def QQs (x:Qc) (s:Qk):Qc:=(x.1,x.2.1,x.2.2.1,x.2.2.2.1,x.2.2.2.2.1,x.2.2.2.2.2.1,(QBa (x.2.2.2.2.2.2.1,x.2.2.2.2.2.2.2.1,x.2.2.2.2.2.2.2.2.1) s).1,(QBa (x.2.2.2.2.2.2.1,x.2.2.2.2.2.2.2.1,x.2.2.2.2.2.2.2.2.1) s).2.1,(QBa (x.2.2.2.2.2.2.1,x.2.2.2.2.2.2.2.1,x.2.2.2.2.2.2.2.2.1) s).2.2,x.2.2.2.2.2.2.2.2.2.1.set (x.1).toNat (rd1 0 x.2.2.2.2.2.2.2.2.2.1 x.1+1),x.2.2.2.2.2.2.2.2.2.2.1,x.2.2.2.2.2.2.2.2.2.2.2.1,x.2.2.2.2.2.2.2.2.2.2.2.2.1,x.2.2.2.2.2.2.2.2.2.2.2.2.2.1,x.2.2.2.2.2.2.2.2.2.2.2.2.2.2.1,x.2.2.2.2.2.2.2.2.2.2.2.2.2.2.2.1,x.2.2.2.2.2.2.2.2.2.2.2.2.2.2.2.2.1,x.2.2.2.2.2.2.2.2.2.2.2.2.2.2.2.2.2.1,x.2.2.2.2.2.2.2.2.2.2.2.2.2.2.2.2.2.2)
def QxS (x:Qc) (id:Int):Int:=bif inR id 0 (x.2.1 - 1)&&decide (id=x.1)then(bif decide ((QbL (x.2.2.1,x.2.2.2.1) id).2.2=0)then(bif decide (x.2.2.2.2.2.2.2.1+((x.2.2.2.2.2.2.2.2.1.length:Nat):Int)=100000)then 4 else 0)else(QbL (x.2.2.1,x.2.2.2.1) id).2.2)else 1
def QLP (x:Qc) (id:Int):Qc:=bif decide (QxS x id=0)then(take (QQs x ((QbL (x.2.2.1,x.2.2.2.1) id).1,(QbL (x.2.2.1,x.2.2.2.1) id).2.1)) ((QbL (x.2.2.1,x.2.2.2.1) id).1,(QbL (x.2.2.1,x.2.2.2.1) id).2.1))else x
def QLI (x:Qc) (id:Int):Qk:=bif decide (QxS x id=0)then((QbL (x.2.2.1,x.2.2.2.1) id).1,(QbL (x.2.2.1,x.2.2.2.1) id).2.1)else([],[])
def QJs (x:Qc) (to:Int):QS:=((msg x 2 to (x.2.2.2.2.2.2.2.2.2.2.2.2.1+1)).1,(msg x 2 to (x.2.2.2.2.2.2.2.2.2.2.2.2.1+1)).2.1,(msg x 2 to (x.2.2.2.2.2.2.2.2.2.2.2.2.1+1)).2.2.1,(msg x 2 to (x.2.2.2.2.2.2.2.2.2.2.2.2.1+1)).2.2.2.1,(msg x 2 to (x.2.2.2.2.2.2.2.2.2.2.2.2.1+1)).2.2.2.2.1,x.2.2.2.2.1,x.2.2.2.2.2.1,(msg x 2 to (x.2.2.2.2.2.2.2.2.2.2.2.2.1+1)).2.2.2.2.2.2.2.1,(msg x 2 to (x.2.2.2.2.2.2.2.2.2.2.2.2.1+1)).2.2.2.2.2.2.2.2.1,(msg x 2 to (x.2.2.2.2.2.2.2.2.2.2.2.2.1+1)).2.2.2.2.2.2.2.2.2.1,(msg x 2 to (x.2.2.2.2.2.2.2.2.2.2.2.2.1+1)).2.2.2.2.2.2.2.2.2.2.1,(msg x 2 to (x.2.2.2.2.2.2.2.2.2.2.2.2.1+1)).2.2.2.2.2.2.2.2.2.2.2)
def QKD (n:Qc) (r1 r2:Qc×List QS×Int):Option (Qc×Qc):=bif decide (r2.2.2=0)then(bif r2.2.1.isEmpty then none else(bif decide ((rcv r1.1 (r2.2.1.headD Qfa)).2.2=0)then some (r2.1,(rcv r1.1 (r2.2.1.headD Qfa)).1)else none))else none
def QKI (n:Qc) (r1:Qc×List QS×Int):Option (Qc×Qc):=bif decide (r1.2.2=0)then(bif r1.2.1.isEmpty then none else QKD n r1 (rcv n (r1.2.1.headD Qfa)))else none
def talk (x y:Qc) (q:Int):Option (Qc×Qc):=bif QoM x q then QKI (QCp x q) (rcv y (QJs x q))else none
def QLd (ns:List Qc) (p q:Nat):Option (Qc×Qc)->List Qc×Bool
 |none=>(ns,false)
 |some r=>((ns.set p r.1).set q r.2,true)
def exch (ns:List Qc) (net:List Qs) (sd:List Qt) (p q:Int):List Qc×Bool:=bif two ns net sd p q then QLd ns p.toNat q.toNat (talk (nodeAt ns p) (nodeAt ns q) q)else(ns,false)
theorem QIx {x y:Qc}(hx:NOk x) (hy:NOk y) {q:Int}{r:Qc×Qc}(h:talk x y q=some r):NOk r.1/\NOk r.2:=by
 unfold talk QKI QKD at h
 cases hc:QoM x q
 ·rw[hc]at h;cases h
 ·rw[hc]at h
  have k1:=Qsf hy (QJs x q)
  generalize rcv y (QJs x q)=r1 at h k1
  have k2:=Qsf (QJO hx hc) (r1.2.1.headD Qfa)
  generalize rcv (QCp x q) (r1.2.1.headD Qfa)=r2 at h k2
  have k3:=Qsf k1 (r2.2.1.headD Qfa)
  generalize rcv r1.1 (r2.2.1.headD Qfa)=r3 at h k3
  simp only[QQ1]at h
  cases h1:decide (r1.2.2=0)<;>rw[h1]at h<;>simp only[QQ1,QQ2]at h
  ·cases h
  ·cases h2:r1.2.1.isEmpty<;>rw[h2]at h<;>simp only[QQ1,QQ2]at h
   ·cases h3:decide (r2.2.2=0)<;>rw[h3]at h<;>simp only[QQ1,QQ2]at h
    ·cases h
    ·cases h4:r2.2.1.isEmpty<;>rw[h4]at h<;>simp only[QQ1,QQ2]at h
     ·cases h5:decide (r3.2.2=0)<;>rw[h5]at h<;>simp only[QQ1,QQ2]at h
      ·cases h
      ·obtain rfl:=QY10 h
       exact⟨k2,k3⟩
     ·cases h
   ·cases h
theorem QLN {ns:List Qc}{net:List Qs}{sd:List Qt}(h:WOk ns net sd) {i:Nat}(hi:i<ns.length):NOk ns[i]:=nok (h.node hi).1
theorem QLm {ns:List Qc}{net:List Qs}{sd:List Qt}{p q:Int}(h:two ns net sd p q=true):YY ns net sd=true/\inR p 0 ((ns.length:Nat) - 1)=true/\inR q 0 ((ns.length:Nat) - 1)=true/\p≠q:=by
 simp only[two,QQ5,QY14,decide_eq_false_iff_not]at h
 exact⟨h.1,h.2.1,h.2.2.1,h.2.2.2⟩
theorem QFU {sd:List Qt}(h:∀x∈sd,QF x.2=true):XU sd<=61*sd.length:=by
 have:Qi Xn sd<=60*sd.length:=QjU _ _ _ fun x hx=>Qfz (h x hx)
 simp only[XU];omega
theorem QD5 {ns:List Qc}(h:∀x∈ns,NOk x):XV ns<=2001*ns.length:=by
 have:Qi Q9 ns<=2000*ns.length:=QjU _ _ _ fun x hx=>(XS (h x hx)).1
 simp only[XV];omega
theorem Qs1 {ns:List Qc}{net:List Qs}{sd:List Qt}(h:∀x∈ns,NOk x) (hl:ns.length<=5) (hn:XH net<=1048576) (hd:∀x∈sd,QF x.2=true) (hdl:sd.length<=41):Xl (ns,net,sd)<=1100000/\smW ns net sd:=by
 have h1:=QD5 h
 have h2:=QFU hd
 refine⟨by simp only[Xl];omega,by simp only[maxLen];omega,fun x hx=>(XS (h x hx)).2, ?_, ?_,by simp only[maxLen];omega,fun x hx=>ZQ (hd x hx)⟩
 ·simp only[XH]at hn;simp only[maxLen];omega
 ·intro p hp
  have:=YI Xb hp
  simp only[XH]at hn
  simp only[Xb,Zy]at this
  simp only[maxLen];omega
theorem QGs {ns:List Qc}{net:List Qs}{sd:List Qt}(h:YY ns net sd=true):∀x∈sd,QF x.2=true:=by
 simp only[YY,QQ5,QRt,QdA]at h
 intro x hx
 exact(h.2.2.2.2.2 x hx).2
theorem Qyo {ns:List Qc}(h:∀x∈ns,NOk x) {i:Nat}{n:Qc}(hn:NOk n):∀x∈ns.set i n,NOk x:=fun x hx=>by
 rcases QY38 hx with hx|rfl
 ·exact h x hx
 ·exact hn
theorem Qym {ns:List Qc}{net:List Qs}{sd:List Qt}(h:WOk ns net sd):∀x∈ns,NOk x:=fun x hx=>by
 obtain⟨i,hi,rfl⟩:=List.mem_iff_getElem.1 hx
 exact QLN h hi
theorem QIL {ns:List Qc}{net:List Qs}{sd:List Qt}(h:∀x∈ns,NOk x) (p q:Int):(∀x∈(exch ns net sd p q).1,NOk x)/\(exch ns net sd p q).1.length=ns.length:=by
 unfold exch
 cases h2:two ns net sd p q
 ·exact⟨h,rfl⟩
 ·obtain⟨_,hp,hq,_⟩:=QLm h2
  obtain⟨i,rfl,hi⟩:=V0 hp
  obtain⟨j,rfl,hj⟩:=V0 hq
  simp only[QQ1,Qel hi,Qel hj]
  cases ht:talk ns[i] ns[j] (j:Int)with
  |none=>exact⟨h,rfl⟩
  |some r=>
   have hr:=QIx (h _ (QRf hi)) (h _ (QRf hj)) ht
   exact⟨Qyo (Qyo h hr.1) hr.2,by simp[QLd]⟩
def Qsw (ns:List Qc) (i:Nat):Qc:=tick (nodeAt ns (i:Int))
def QCB (ns:List Qc) (sd:List Qt) (i:Nat):Bool:=(lookup ((Qsw ns i).2.2.1,(Qsw ns i).2.2.2.1) (i:Int)).2.2.2.2.2&&(decide (((sd.length:Nat):Int)<40)&&decide (QxS (Qsw ns i) (i:Int)=0))
def QMz (ns:List Qc) (sd:List Qt) (i:Nat):List Qc:=bif QCB ns sd i then ns.set i (QLP (Qsw ns i) (i:Int))else ns.set i (Qsw ns i)
def QHm (ns:List Qc) (sd:List Qt) (i:Nat):List Qt:=bif QCB ns sd i then sd++[((i:Int),QLI (Qsw ns i) (i:Int))]else sd
def step (ns:List Qc) (net:List Qs) (sd:List Qt) (t:Int):ZH:=bif decide ((Qsx ns net sd t).1<0)then(ns,net,sd)else((exch (QMz ns sd (Qsx ns net sd t).1.toNat) net (QHm ns sd (Qsx ns net sd t).1.toNat) (Qsx ns net sd t).1 (Qsx ns net sd t).2).1,net,QHm ns sd (Qsx ns net sd t).1.toNat)
structure Fine (x:ZH):Prop where
 mz:Xl x<=1100000
 net:XH x.2.1<=1048576
 sm:smW x.1 x.2.1 x.2.2
structure Kp (n:Nat) (ns:List Qc) (net:List Qs) (sd:List Qt):Prop where
 nodes:∀x∈ns,NOk x
 len:ns.length=n
 n5:n<=5
 net:XH net<=1048576
 sds:∀x∈sd,QF x.2=true
 sdl:sd.length<=41
theorem Kp.sm {n:Nat}{ns:List Qc}{net:List Qs}{sd:List Qt}(h:Kp n ns net sd):Xl (ns,net,sd)<=1100000/\smW ns net sd:=Qs1 h.nodes (by have:=h.len;have:=h.n5;omega) h.net h.sds h.sdl
theorem Kp.exch {n:Nat}{ns:List Qc}{net:List Qs}{sd:List Qt}(h:Kp n ns net sd) (p q:Int):Kp n (exch ns net sd p q).1 net sd:=by
 have:=QIL (net:=net) (sd:=sd) h.nodes p q
 exact⟨this.1,this.2.trans h.len,h.n5,h.net,h.sds,h.sdl⟩
theorem Qs3 (r:ZH) (h:Xl r<=4294967296):∃(k:Int) (m0:List Qc) (m1:List Qs) (m2:List Qt),0<k/\k<=1099511627776/\VV w (r.1,r.2.1,r.2.2,1)=some (k,m0,m1,m2)/\VX w (m0,m1,m2,1)=some k:=by
 have h':=h
 simp only[Xl]at h'
 have c1:=QG0 r.1
 have c2:=QGa r.2.1
 have c3:=QGY r.2.2
 refine⟨_,_,_,_, ?_, ?_,QFn r.1 r.2.1 r.2.2 1 (by omega) (by omega) h,QG7 r.1 r.2.1 r.2.2 1 (by omega) (by omega) h⟩
 all_goals omega
def nums (l:List Int):List Int:=Ql (l.length:Nat)++l.flatMap Ql
theorem Qua (l:List Int):(nums l).length<=5+l.length*5:=by
 have h:=qS Ql 5 l fun x _=>QJ x
 have:=QJ (l.length:Nat)
 simp only[nums,QRj];omega
theorem QpX (l:List Int) (hl:l.length<=4294967296):x7 w l=some (nums l):=by
 apply QwP
 have hp:=QJ (l.length:Nat)
 have e:=Q0 l.length (fun i (o:List Int)=>qx wl (l,((l.length:Nat):Int),(i:Int),o)) (fun i o=>o++(l.drop i).flatMap Ql) (fun i o=>o.length<=5+i*5)
  (fun i hi o ho ih=>by
    apply Qhn
    have hb:=QJ l[i]
    have ih1:=ih (o++Ql l[i]) (by rw[QRj];omega)
    have ej: [o,Ql l[i]].flatten=o++Ql l[i]:=by simp
    have hj:=VO [o,Ql l[i]] (by simp[maxLen]) (by rw[ej,QRj];omega)
    simp only[Qdp,ilt hi,Qj hi,Qg hi,inc hi (show l.length<=maxLen by simp[maxLen];omega),QQ1,VP,QQ0,hj,ej,ih1]
    rw[QRa hi,QY8,QRc])
  (fun o _=>by
    apply Qhn
    simp[Qdp])
  (Ql (l.length:Nat)) (by omega)
 simp only[QQ6,QRg]at e
 simp only[Qlq,VP,QQ0,e,nums]
theorem QpP (l:List Int) (hl:l.length<=4294967296):zg w l=some (nums l):=by
 apply QvB
 have hp:=QJ (l.length:Nat)
 have e:=Q0 l.length (fun i (o:List Int)=>J1 wl (l,(i:Int),o)) (fun i o=>o++(l.drop i).flatMap Ql) (fun i o=>o.length<=5+i*5)
  (fun i hi o ho ih=>by
    apply Qhq
    have hb:=QJ l[i]
    have ih1:=ih (o++Ql l[i]) (by rw[QRj];omega)
    simp only[Qc5,ilt hi,Qj hi,Qg hi,inc hi (show l.length<=maxLen by simp[maxLen];omega),QQ1,Yw,QQ0,Qu (show(o.length+(Ql l[i]).length)*1<=140737488351232 by omega),ih1]
    rw[QRa hi,QY8,QRc])
  (fun o _=>by
    apply Qhq
    simp[Qc5])
  (Ql (l.length:Nat)) (by omega)
 simp only[QQ6,QRg]at e
 simp only[Qki,Yw,QQ0,e,nums]
def isB (l:List Int):Prop:=∀x∈l,0<=x/\x<256
theorem Q8 {a b:List Int}(h:isB a) (h':isB b):isB (a++b):=fun x hx=>by
 rcases QRh.1 hx with h1|h1
 ·exact h x h1
 ·exact h' x h1
theorem wrap_u8 (n:Int):0<=IntKind.wrap .u8 n/\IntKind.wrap .u8 n<256:=by
 rw[IntKind.wrap_u8];omega
theorem QC5:(f:Nat)->(n:Int)->(o:List Int)->isB o->isB (X4 f n o).2
 |0,n,o,h=>h
 |f+1,n,o,h=>by
  simp only[X4]
  split
  ·refine QC5 f _ _ (Q8 h fun x hx=> ?_)
   rw[List.mem_singleton.1 hx];exact wrap_u8 _
  ·exact h
theorem Xw (n:Int):isB (Ql n):=by
 unfold Ql
 cases inR n 0 2147483647
 ·intro x hx;simp at hx
 ·refine Q8 (QC5 4 n [] (fun x hx=>by simp at hx)) fun x hx=> ?_
  rw[List.mem_singleton.1 hx];exact wrap_u8 _
theorem QkO {α:Type}(f:α->List Int) (h:∀x,isB (f x)) (l:List α):isB (l.flatMap f):=fun x hx=>by
 obtain⟨y,_,hy⟩:=List.mem_flatMap.1 hx
 exact h y x hy
theorem QuF (l:List Int):isB (nums l):=Q8 (Xw _) (QkO _ Xw _)
theorem QDV (s:ByteArray):isB (ofBytes s):=fun x hx=>by
 simp only[ofBytes,QY18]at hx
 obtain⟨b,_,rfl⟩:=hx
 have:=b.toNat_lt
 omega
theorem QHR (x:Qf):isB (ZN x):=Q8 (Xw _) (Q8 (Xw _) (Q8 (Xw _) (Q8 (Xw _) (Q8 (Xw _) (Q8 (Xw _) (QDV _))))))
theorem Qpw (x:Qa):isB (Xp x):=Q8 (Xw _) (Xw _)
theorem QEC (s:Qk):isB (stB s):=Q8 (Xw _) (Q8 (QkO _ QHR _) (Q8 (Xw _) (QkO _ Qpw _)))
theorem Qxw (x:Int) (h0:0<=x) (h1:x<4294967296):(BitVec.ofInt 64 x).toNat=x.toNat:=by
 rw[BitVec.toNat_ofInt]
 have:x % ((2^64:Nat):Int)=x:=Int.emod_eq_of_lt h0 (by omega)
 rw[this]
theorem QyO (x y:Int) (hx:0<=x) (hx':x<4294967296) (hy:0<=y) (hy':y<4294967296):0<=bits .xor .i64 x y/\bits .xor .i64 x y<4294967296:=by
 have e:bits .xor .i64 x y=wR ((BitVec.ofInt 64 x^^^BitVec.ofInt 64 y).toNat:Nat):=rfl
 rw[e,BitVec.toNat_xor,Qxw x hx hx',Qxw y hy hy']
 have:=Nat.xor_lt_two_pow (n:=32) (x:=x.toNat) (y:=y.toNat) (by omega) (by omega)
 rw[w64 (by omega) (by omega)];omega
theorem QD7 (x:Int) (h:0<=x) (h':x<4294967296):0<=Qbx x/\Qbx x<4294967296:=by
 have hd:=QY36 (b:=2) h
 unfold Qbx
 rw[w64 (by omega) (by omega)]
 split
 ·exact QyO _ _ (by omega) (by omega) (by omega) (by omega)
 ·omega
theorem Qzu:(n:Nat)->(x:Int)->0<=x->x<4294967296->0<=yR n x/\yR n x<4294967296
 |0,x,h,h'=>⟨h,h'⟩
 |n+1,x,h,h'=>by
  have:=QD7 x h h'
  rw[yR];exact Qzu n _ this.1 this.2
theorem QJD (s b:Int) (h:0<=s) (h':s<4294967296) (hb:0<=b) (hb':b<256):0<=Qp0 s b/\Qp0 s b<4294967296:=by
 rw[QxV,w64 (by omega) (by omega)]
 have:=QyO s b h h' hb (by omega)
 exact Qzu 8 _ this.1 this.2
theorem QBq:(l:List Int)->(s:Int)->isB l->0<=s->s<4294967296->0<=l.foldl Qp0 s/\l.foldl Qp0 s<4294967296
 | [],s,_,h,h'=>⟨h,h'⟩
 |b::l,s,hl,h,h'=>by
  have hb:=hl b (by simp)
  have:=QJD s b h h' hb.1 hb.2
  rw[List.foldl_cons]
  exact QBq l _ (fun x hx=>hl x (by simp[hx])) this.1 this.2
theorem QL3 (l:List Int) (h:isB l):0<=crc l/\crc l<4294967296:=by
 have:=QBq l 4294967295 h (by omega) (by omega)
 exact QyO _ _ this.1 this.2 (by omega) (by omega)
def JK (r:Int):List Int:=[IntKind.wrap .u8 (bits .and .i64 (Qd7 .i64 r 24) 255),IntKind.wrap .u8 (bits .and .i64 (Qd7 .i64 r 16) 255),IntKind.wrap .u8 (bits .and .i64 (Qd7 .i64 r 8) 255),IntKind.wrap .u8 (bits .and .i64 r 255)]
theorem Qvm (x:Int) (h:0<=x) (h':x<4294967296):bits .and .i64 x 255=x % 256:=by
 have e:bits .and .i64 x 255=wR ((BitVec.ofInt 64 x&&&BitVec.ofInt 64 255).toNat:Nat):=rfl
 rw[e,BitVec.toNat_and,Qxw x h h',Qxw 255 (by omega) (by omega)]
 have:x.toNat&&&(255:Int).toNat=x.toNat % 256:=Nat.and_two_pow_sub_one_eq_mod x.toNat 8
 rw[this,w64 (by omega) (by omega)];omega
theorem QCJ (x:Int) (n:Nat) (m:Int) (hm:(2:Int)^n=m) (hn:n<=64):Qd7 .i64 x (n:Int)=Int.fdiv x m:=by
 unfold Qd7
 rw[QRb,Nat.min_eq_left (show n<=IntKind.bits .i64 from hn),hm]
theorem QLq (r:Int) (h:0<=r) (h':r<4294967296):JK r=[IntKind.wrap .u8 (wR (Int.tdiv r 16777216)),IntKind.wrap .u8 (Int.tmod (wR (Int.tdiv r 65536)) 256),IntKind.wrap .u8 (Int.tmod (wR (Int.tdiv r 256)) 256),IntKind.wrap .u8 (Int.tmod r 256)]:=by
 unfold JK
 have s1:Qd7 .i64 r 24=r / 16777216:=by rw[show(24:Int)=((24:Nat):Int)from rfl,QCJ r 24 16777216 (by decide) (by omega),Int.fdiv_eq_ediv_of_nonneg _ (by omega)]
 have s2:Qd7 .i64 r 16=r / 65536:=by rw[show(16:Int)=((16:Nat):Int)from rfl,QCJ r 16 65536 (by decide) (by omega),Int.fdiv_eq_ediv_of_nonneg _ (by omega)]
 have s3:Qd7 .i64 r 8=r / 256:=by rw[show(8:Int)=((8:Nat):Int)from rfl,QCJ r 8 256 (by decide) (by omega),Int.fdiv_eq_ediv_of_nonneg _ (by omega)]
 have d1:=QY36 (b:=16777216) h
 have d2:=QY36 (b:=65536) h
 have d3:=QY36 (b:=256) h
 rw[s1,s2,s3,d1,d2,d3,Qvm _ (by omega) (by omega),Qvm _ (by omega) (by omega),Qvm _ (by omega) (by omega),Qvm _ (by omega) (by omega)]
 rw[w64 (n:=r / 16777216) (by omega) (by omega),w64 (n:=r / 65536) (by omega) (by omega),w64 (n:=r / 256) (by omega) (by omega)]
 rw[Int.tmod_eq_emod_of_nonneg (a:=r / 65536) (by omega),Int.tmod_eq_emod_of_nonneg (a:=r / 256) (by omega),Int.tmod_eq_emod_of_nonneg (a:=r) (by omega)]
 have:r / 16777216 % 256=r / 16777216:=Int.emod_eq_of_lt (by omega) (by omega)
 rw[this]
theorem QDd (l:List Int) (h:l.length<=maxLen):QaM w l=some (JK (crc l)):=by
 apply Quy
 simp only[QiF,Qxs l h,QQ0,dt (show(0:Int)<=24 by omega),dt (show(0:Int)<=16 by omega),dt (show(0:Int)<=8 by omega),QQ1,JK]
theorem QzH (l:List Int) (h:l.length<=maxLen) (hb:isB l):QaF w l=some (JK (crc l)):=by
 apply QxN
 have:=QL3 l hb
 simp only[Qna,Qst l h,QQ0,dt (show(16777216:Int)≠0 by omega),dt (show(65536:Int)≠0 by omega),dt (show(256:Int)≠0 by omega),QQ1,QLq _ this.1 this.2]
def VW (a0 a1 a2 a3 a4:Int) (a5:List Int) (a6:Int) (a7 a8:List Int) (a9:List Qf) (a10 a11:List Qa):List Int:=[82,75]++(Ql a0++(Ql a1++(Ql a2++(Ql a3++(Ql a4++(nums a5++(Ql a6++(nums a7++(nums a8++(Ql ((stB (a9,a10)).length:Nat)++(stB (a9,a10)++Ql (a11.length:Nat))))))))))))
def X5 (a0 a1 a2 a3 a4:Int) (a5:List Int) (a6:Int) (a7 a8:List Int) (a9:List Qf) (a10 a11:List Qa):List Int:=VW a0 a1 a2 a3 a4 a5 a6 a7 a8 a9 a10 a11++a11.flatMap Xp
def Qbk (a0 a1 a2 a3 a4:Int) (a5:List Int) (a6:Int) (a7 a8:List Int) (a9:List Qf) (a10 a11:List Qa):List Int:=bif yY a0 a1 a2 a3 a4 a5 a6 a7 a8 a9 a10 a11 then X5 a0 a1 a2 a3 a4 a5 a6 a7 a8 a9 a10 a11++JK (crc (X5 a0 a1 a2 a3 a4 a5 a6 a7 a8 a9 a10 a11))else []
theorem QkQ (a0 a1 a2 a3 a4:Int) (a5:List Int) (a6:Int) (a7 a8:List Int) (a9:List Qf) (a10 a11:List Qa) (h:yY a0 a1 a2 a3 a4 a5 a6 a7 a8 a9 a10 a11=true):a5.length<=4/\a7.length<=5/\a8.length<=4/\QF (a9,a10)=true/\a11.length<=5:=by
 simp only[yY,QQ5]at h
 obtain⟨⟨⟨⟨⟨⟨⟨⟨⟨⟨⟨_,_⟩,_⟩,_⟩,hl⟩,_⟩,_⟩,_⟩,ht⟩,h7⟩,hs⟩,hm⟩:=h
 have h8:=Qsi _ _ hl (by omega)
 have h11:=xU _ _ hm (by omega)
 refine⟨?_,by simp at h7;omega, ?_,hs, ?_⟩
 ·unfold ji at ht
  cases h0:decide (((a5.length:Nat):Int)=0)
  ·rw[h0]at ht
   simp at ht;omega
  ·simp at h0;rw[h0];simp
 ·rcases h8 with h|h
  ·omega
  ·rw[h];simp
 ·rcases h11 with h|h
  ·omega
  ·rw[h];simp
theorem QsZ (a0 a1 a2 a3 a4:Int) (a5:List Int) (a6:Int) (a7 a8:List Int) (a9:List Qf) (a10 a11:List Qa) (h:yY a0 a1 a2 a3 a4 a5 a6 a7 a8 a9 a10 a11=true):(VW a0 a1 a2 a3 a4 a5 a6 a7 a8 a9 a10 a11).length<=3000000:=by
 obtain⟨h5,h7,h8,hs,h11⟩:=QkQ a0 a1 a2 a3 a4 a5 a6 a7 a8 a9 a10 a11 h
 have l0:=QJ a0
 have l1:=QJ a1
 have l2:=QJ a2
 have l3:=QJ a3
 have l4:=QJ a4
 have l5:=Qua a5
 have l6:=QJ a6
 have l7:=Qua a7
 have l8:=Qua a8
 have l9:=QJ ((stB (a9,a10)).length:Nat)
 have l10:=Qsp (jN hs)
 have l11:=QJ (a11.length:Nat)
 simp only[VW,QRj,QY1,QY6];omega
theorem Qtc (a0 a1 a2 a3 a4:Int) (a5:List Int) (a6:Int) (a7 a8:List Int) (a9:List Qf) (a10 a11:List Qa):isB (VW a0 a1 a2 a3 a4 a5 a6 a7 a8 a9 a10 a11):=by
 unfold VW
 refine Q8 (fun x hx=> ?_) (Q8 (Xw _) (Q8 (Xw _) (Q8 (Xw _) (Q8 (Xw _) (Q8 (Xw _) (Q8 (QuF _) (Q8 (Xw _) (Q8 (QuF _) (Q8 (QuF _) (Q8 (Xw _) (Q8 (QEC _) (Xw _))))))))))))
 simp at hx;omega
theorem Qz9 (b:List Qa) (hb:b.length<=1000) (o:List Int) (ho:o.length<=3000000):
 Yc wl (b,((b.length:Nat):Int),0,o)=some (o++b.flatMap Xp):=by
 have e:=Q0 b.length (fun i (o:List Int)=>Yc wl (b,((b.length:Nat):Int),(i:Int),o)) (fun i o=>o++(b.drop i).flatMap Xp) (fun i o=>o.length<=3000000+i*10)
  (fun i hi o ho ih=>by
    apply QeY
    have hb:=zz b[i]
    have ih1:=ih (o++Xp b[i]) (by rw[QRj];omega)
    have ej: [o,Ql b[i].1,Ql b[i].2].flatten=o++Xp b[i]:=by simp[Xp]
    have hj:=VO [o,Ql b[i].1,Ql b[i].2] (by simp[maxLen]) (by rw[ej,QRj];omega)
    simp only[Qa1,ilt hi,Qj hi,Qg hi,inc hi (show b.length<=maxLen by simp[maxLen];omega),QQ1,VP,QQ0,hj,ej,ih1]
    rw[QRa hi,QY8,QRc])
  (fun o _=>by
    apply QeY
    simp[Qa1])
  o (by omega)
 simpa using e
theorem Qtb (a0 a1 a2 a3 a4:Int) (a5:List Int) (a6:Int) (a7 a8:List Int) (a9:List Qf) (a10 a11:List Qa) (h:smM a5 a7 a8 a9 a10 a11):Vt w (a0,a1,a2,a3,a4,a5,a6,a7,a8,a9,a10,a11)=some (Qbk a0 a1 a2 a3 a4 a5 a6 a7 a8 a9 a10 a11):=by
 apply Qug
 simp only[QiM,Qur a0 a1 a2 a3 a4 a5 a6 a7 a8 a9 a10 a11 h,QQ0,Qbk]
 obtain⟨h5,h7,h8,h9,h10,h11⟩:=h
 cases hm:yY a0 a1 a2 a3 a4 a5 a6 a7 a8 a9 a10 a11
 ·simp
 obtain⟨m5,m7,m8,hs,m11⟩:=QkQ a0 a1 a2 a3 a4 a5 a6 a7 a8 a9 a10 a11 hm
 have hl:=QsZ a0 a1 a2 a3 a4 a5 a6 a7 a8 a9 a10 a11 hm
 have ej: [[82,75],Ql a0,Ql a1,Ql a2,Ql a3,Ql a4,nums a5,Ql a6,nums a7,nums a8,Ql ((stB (a9,a10)).length:Nat),stB (a9,a10),Ql (a11.length:Nat)].flatten=VW a0 a1 a2 a3 a4 a5 a6 a7 a8 a9 a10 a11:=by
  simp only[QRr,List.flatten_nil,QY11,VW]
 have hj:=VO [[82,75],Ql a0,Ql a1,Ql a2,Ql a3,Ql a4,nums a5,Ql a6,nums a7,nums a8,Ql ((stB (a9,a10)).length:Nat),stB (a9,a10),Ql (a11.length:Nat)] (by simp[maxLen]) (by rw[ej];omega)
 have hfl:=qS Xp 10 a11 fun x _=>zz x
 have hbl:(X5 a0 a1 a2 a3 a4 a5 a6 a7 a8 a9 a10 a11).length<=3000050:=by simp only[X5,QRj];omega
 have hc:=QDd (X5 a0 a1 a2 a3 a4 a5 a6 a7 a8 a9 a10 a11) (by simp only[maxLen];omega)
 have ek: [X5 a0 a1 a2 a3 a4 a5 a6 a7 a8 a9 a10 a11,JK (crc (X5 a0 a1 a2 a3 a4 a5 a6 a7 a8 a9 a10 a11))].flatten=X5 a0 a1 a2 a3 a4 a5 a6 a7 a8 a9 a10 a11++JK (crc (X5 a0 a1 a2 a3 a4 a5 a6 a7 a8 a9 a10 a11)):=by simp
 have hk:=VO [X5 a0 a1 a2 a3 a4 a5 a6 a7 a8 a9 a10 a11,JK (crc (X5 a0 a1 a2 a3 a4 a5 a6 a7 a8 a9 a10 a11))] (by simp[maxLen]) (by rw[ek,QRj];simp only[JK,QY1,QY6];omega)
 have hloop:Yc wl (a11,((a11.length:Nat):Int),0,VW a0 a1 a2 a3 a4 a5 a6 a7 a8 a9 a10 a11)=some (X5 a0 a1 a2 a3 a4 a5 a6 a7 a8 a9 a10 a11):=Qz9 a11 (by omega) _ hl
 simp only[QQ3,QQ2,QQ1,Qim a9 a10 h9 h10,hs,VP,QpX a5 (by omega),QpX a7 (by omega),QpX a8 (by omega),QQ0,hj,ej,hloop,hc,hk,ek]
theorem QCk (a0 a1 a2 a3 a4:Int) (a5:List Int) (a6:Int) (a7 a8:List Int) (a9:List Qf) (a10 a11:List Qa) (o l:List Int) (hl:l.length<=5) (ho:o.length<=10):
 Ve wl (0,a0,a1,a2,a3,a4,a5,a6,a7,a8,a9,a10,a11,o,l)=some (a0,a1,a2,a3,a4,a5,a6,a7,a8,a9,a10,a11,o++l.flatMap Ql):=by
 have e:=Q0 l.length (fun k (o:List Int)=>Ve wl ((k:Int),a0,a1,a2,a3,a4,a5,a6,a7,a8,a9,a10,a11,o,l)) (fun k o=>(a0,a1,a2,a3,a4,a5,a6,a7,a8,a9,a10,a11,o++(l.drop k).flatMap Ql)) (fun k o=>o.length<=10+k*5)
  (fun k hk o ho ih=>by
    apply Qhj
    have hb:=QJ l[k]
    have ih1:=ih (o++Ql l[k]) (by rw[QRj];omega)
    simp only[QcH,ilt hk,Qj hk,Qg hk,inc hk (show l.length<=maxLen by simp[maxLen];omega),QQ1,Yw,QQ0,Qu (show(o.length+(Ql l[k]).length)*1<=140737488351232 by omega),ih1]
    rw[QRa hk,QY8,QRc])
  (fun o _=>by
    apply Qhj
    simp[QcH])
  o (by omega)
 simpa using e
theorem QAn (a0 a1 a2 a3 a4:Int) (a5:List Int) (a6:Int) (a7 a8:List Int) (a9:List Qf) (a10 a11:List Qa) (hb:a11.length<=1000) (o:List Int) (ho:o.length<=3000000):
 KQ wl (0,a0,a1,a2,a3,a4,a5,a6,a7,a8,a9,a10,a11,o)=some (o++a11.flatMap Xp):=by
 have e:=Q0 a11.length (fun i (o:List Int)=>KQ wl ((i:Int),a0,a1,a2,a3,a4,a5,a6,a7,a8,a9,a10,a11,o)) (fun i o=>o++(a11.drop i).flatMap Xp) (fun i o=>o.length<=3000000+i*10)
  (fun i hi o ho ih=>by
    apply Qg0
    have hb:=zz a11[i]
    have h1:=QJ a11[i].1
    have h2:=QJ a11[i].2
    have ih1:=ih (o++Xp a11[i]) (by rw[QRj];omega)
    have ej:o++Ql a11[i].1++Ql a11[i].2=o++Xp a11[i]:=by simp[Xp]
    simp only[QcJ,ilt hi,Qj hi,Qg hi,inc hi (show a11.length<=maxLen by simp[maxLen];omega),QQ1,Yw,QQ0,Qu (show(o.length+(Ql a11[i].1).length)*1<=140737488351232 by omega),Qu (show((o++Ql a11[i].1).length+(Ql a11[i].2).length)*1<=140737488351232 by rw[QRj];omega),ej,ih1]
    rw[QRa hi,QY8,QRc])
  (fun o _=>by
    apply Qg0
    simp[QcJ])
  o (by omega)
 simpa using e
theorem Qra (a0 a1 a2 a3 a4:Int) (a5:List Int) (a6:Int) (a7 a8:List Int) (a9:List Qf) (a10 a11:List Qa) (h:smM a5 a7 a8 a9 a10 a11):Vk w (a0,a1,a2,a3,a4,a5,a6,a7,a8,a9,a10,a11)=some (Qbk a0 a1 a2 a3 a4 a5 a6 a7 a8 a9 a10 a11):=by
 apply Qt0
 simp only[QiV,QqW a0 a1 a2 a3 a4 a5 a6 a7 a8 a9 a10 a11 h,QQ0,Qbk]
 obtain⟨h5,h7,h8,h9,h10,h11⟩:=h
 cases hm:yY a0 a1 a2 a3 a4 a5 a6 a7 a8 a9 a10 a11
 ·simp
 obtain⟨m5,m7,m8,hs,m11⟩:=QkQ a0 a1 a2 a3 a4 a5 a6 a7 a8 a9 a10 a11 hm
 have hl:=QsZ a0 a1 a2 a3 a4 a5 a6 a7 a8 a9 a10 a11 hm
 have hfl:=qS Xp 10 a11 fun x _=>zz x
 have hbl:(X5 a0 a1 a2 a3 a4 a5 a6 a7 a8 a9 a10 a11).length<=3000050:=by simp only[X5,QRj];omega
 have hbody:Qeu w (a0,a1,a2,a3,a4,a5,a6,a7,a8,a9,a10,a11)=some (X5 a0 a1 a2 a3 a4 a5 a6 a7 a8 a9 a10 a11):=by
  apply Qvs
  have e0: [82,75]++[a0,a1,a2,a3,a4].flatMap Ql=[82,75]++(Ql a0++(Ql a1++(Ql a2++(Ql a3++Ql a4)))):=by simp
  have hn:=QCk a0 a1 a2 a3 a4 a5 a6 a7 a8 a9 a10 a11 [82,75] [a0,a1,a2,a3,a4] (by simp) (by simp)
  rw[e0]at hn
  have hh:=hl
  simp only[VW,QRj]at hh
  have hend:((((((([82,75]++(Ql a0++(Ql a1++(Ql a2++(Ql a3++Ql a4))))++nums a5)++Ql a6)++nums a7)++nums a8)++Ql ((stB (a9,a10)).length:Nat))++stB (a9,a10))++Ql (a11.length:Nat))=VW a0 a1 a2 a3 a4 a5 a6 a7 a8 a9 a10 a11:=by simp only[VW,QRc]
  simp only[Qj6,hn,QpP a5 (by omega),QpP a7 (by omega),QpP a8 (by omega),Yw,QrS a9 a10 (jN hs),QQ0]
  iterate 7 refine(QHJ (Qu (by simp only[QRj];omega))).trans ?_
  rw[hend,QAn a0 a1 a2 a3 a4 a5 a6 a7 a8 a9 a10 a11 (by omega) _ hl]
  rfl
 have hB:isB (X5 a0 a1 a2 a3 a4 a5 a6 a7 a8 a9 a10 a11):=Q8 (Qtc a0 a1 a2 a3 a4 a5 a6 a7 a8 a9 a10 a11) (QkO _ Qpw _)
 have hc:=QzH (X5 a0 a1 a2 a3 a4 a5 a6 a7 a8 a9 a10 a11) (by simp only[maxLen];omega) hB
 simp only[QQ3,QQ2,hbody,QQ0,hc,QQ1]
 exact QHJ (Qu (by simp only[JK,QY1,QY6];omega))
def Qbg:Nat->Nat->Int->List Int->Option (Int×Nat)
 |0,_,_,_=>none
 |_+1,_,_,[]=>none
 |f+1,i,acc,c::l=>if 128<=c then Qbg f (i+1) (acc+(c % 128)*128^i) l
  else if(0<i/\c=0)\/2147483647<acc+(c % 128)*128^i then none else some (acc+(c % 128)*128^i,i+1)
def QCs (k:Int):Option (Int×Nat)->Int×Int×Bool
 |none=>(0,0,false)
 |some r=>(r.1,k+(r.2:Nat),true)
def XX (b:List Int) (k:Int):Int×Int×Bool:=if 0<=k/\k<(b.length:Int)then QCs k (Qbg 5 0 0 (b.drop k.toNat))else(0,0,false)
def elN (z:(Int×Int×Bool)⊕Unit):Option (Int×Int×Bool):=Qn z (fun u=>some u) (fun _=>some (0,0,false))
theorem i5 {i:Nat}(h:i<5):i=0\/i=1\/i=2\/i=3\/i=4:=by omega
theorem QoY (c:Int) (h0:0<=c) (h1:c<256) (i:Nat) (hi:i<5):Qbf .i64 (Int.tmod c 128) (7*(i:Int))=(c % 128)*128^i:=by
 have e:Int.tmod c 128=c % 128:=Int.tmod_eq_emod_of_nonneg h0
 rw[Qbf,e]
 rcases i5 hi with rfl|rfl|rfl|rfl|rfl
 ·rw[show(2:Int)^min (7*((0:Nat):Int)).toNat (IntKind.bits .i64)=1 from rfl];exact(w64 (by omega) (by omega)).trans (by omega)
 ·rw[show(2:Int)^min (7*((1:Nat):Int)).toNat (IntKind.bits .i64)=128 from rfl];exact(w64 (by omega) (by omega)).trans (by omega)
 ·rw[show(2:Int)^min (7*((2:Nat):Int)).toNat (IntKind.bits .i64)=16384 from rfl];exact(w64 (by omega) (by omega)).trans (by omega)
 ·rw[show(2:Int)^min (7*((3:Nat):Int)).toNat (IntKind.bits .i64)=2097152 from rfl];exact(w64 (by omega) (by omega)).trans (by omega)
 ·rw[show(2:Int)^min (7*((4:Nat):Int)).toNat (IntKind.bits .i64)=268435456 from rfl];exact(w64 (by omega) (by omega)).trans (by omega)
theorem QB1 (i:Nat) (hi:i<5):(0:Int)<128^i/\(128:Int)^i<=268435456/\(128:Int)^(i+1)=128^i*128:=by
 refine⟨?_, ?_,Int.pow_succ 128 i⟩
 ·rcases i5 hi with rfl|rfl|rfl|rfl|rfl<;>decide
 ·rcases i5 hi with rfl|rfl|rfl|rfl|rfl<;>decide
theorem dmul {c p:Int}(h0:0<=c) (h1:c<256) (hp:0<p):0<=(c % 128)*p/\(c % 128)*p<=127*p:=by
 have h2:0<=c % 128:=by omega
 have h3:c % 128<=127:=by omega
 exact⟨Int.mul_nonneg h2 (by omega),Int.mul_le_mul_of_nonneg_right h3 (by omega)⟩
theorem QEP (x:Int) (h0:0<=x) (h1:x<9223372036854775808):(BitVec.ofInt 64 x).toNat=x.toNat:=by
 rw[BitVec.toNat_ofInt]
 omega
theorem or_eq (acc c:Int) (i:Nat) (hi:i<5) (h0:0<=acc) (h1:acc<128^i) (hc0:0<=c) (hc1:c<256):bits .or .i64 acc ((c % 128)*128^i)=acc+(c % 128)*128^i:=by
 have hp:=QB1 i hi
 have hd:=dmul hc0 hc1 hp.1
 unfold bits
 simp only
 show wR (((BitVec.ofInt 64 acc|||BitVec.ofInt 64 ((c % 128)*128^i)).toNat:Nat):Int)=_
 rw[BitVec.toNat_or,QEP _ h0 (by omega),QEP _ hd.1 (by omega)]
 obtain⟨d,hdd⟩:∃d:Nat,c % 128=(d:Int):=⟨(c % 128).toNat,by omega⟩
 obtain⟨a,ha⟩:∃a:Nat,acc=(a:Int):=⟨acc.toNat,by omega⟩
 rw[hdd]at hd⊢
 rw[ha]at h1⊢
 have e128:((128:Int)^i)=(((2:Nat)^(7*i):Nat):Int):=by
  rw[Nat.pow_mul];simp
 rw[e128]at h1 hd⊢
 have h1':a<2^(7*i):=by exact_mod_cast h1
 have e3:((d:Int)*((2^(7*i):Nat):Int)).toNat=d<<<(7*i):=by
  rw[Nat.shiftLeft_eq,<-Int.natCast_mul,QRb]
 rw[e3,QRb,Nat.or_comm,<-Nat.shiftLeft_add_eq_or_of_lt h1' d,Nat.shiftLeft_eq]
 have e4:(((d*2^(7*i)+a:Nat)):Int)=(a:Int)+(d:Int)*((2^(7*i):Nat):Int):=by
  rw[Int.natCast_add,Int.natCast_mul];omega
 rw[e4]
 have hp':((2^(7*i):Nat):Int)<=268435456:=by rw[<-e128];exact hp.2.1
 have h1'':(a:Int)<((2^(7*i):Nat):Int):=by exact_mod_cast h1'
 exact w64 (by omega) (by omega)
theorem QDa (b:List Int) (hb:isB b) (hl:b.length<=4294967296) (k:Nat) (hkb:k<=b.length):(f i:Nat)->(acc:Int)->f+i=5->0<=acc->acc<128^i->(XP wl (b,(k:Int),acc,(i:Int))).bind elN=some (QCs (k:Int) (Qbg f i acc (b.drop (k+i)))):=by
 intro f
 induction f with
 |zero=>
  intro i acc hi h0 h1
  have:XP wl (b,(k:Int),acc,(i:Int))=some (.inr ()):=by
   apply VB
   simp only[VU,df (show¬(i:Int)<5 by omega),QQ2]
  rw[this];rfl
 |succ f ih=>
  intro i acc hi h0 h1
  have hi5:i<5:=by omega
  have hp:=QB1 i hi5
  by_cases hk:k+i<b.length
  ·have hc:=hb _ (QRf hk)
   have hd:=dmul hc.1 hc.2 hp.1
   rw[QRa hk]
   have hr:rd1 (0:Int) b ((k:Int)+(i:Int))=b[k+i]:=by rw[show(k:Int)+(i:Int)=((k+i:Nat):Int) by omega];exact Qg hk
   have hin:inb ((k:Int)+(i:Int)) b.length=true:=by rw[show(k:Int)+(i:Int)=((k+i:Nat):Int) by omega];exact Qj hk
   by_cases h128:128<=b[k+i]
   ·have ih2:=ih (i+1) (acc+(b[k+i] % 128)*128^i) (by omega) (by omega) (by rw[hp.2.2];omega)
    have:XP wl (b,(k:Int),acc,(i:Int))=XP wl (b,(k:Int),acc+(b[k+i] % 128)*128^i,((i+1:Nat):Int)):=by
     cases hv:XP wl (b,(k:Int),acc+(b[k+i] % 128)*128^i,((i+1:Nat):Int))with
     |none=>rw[hv]at ih2;cases ih2
     |some v=>
      apply VB
      simp only[VU,dt (show(i:Int)<5 by omega),w64 (n:=(k:Int)+(i:Int)) (by omega) (by omega),dt (show(k:Int)+(i:Int)<(b.length:Int) by omega),hin,hr,w64 (n:=b[k+i]) (by omega) (by omega),w64 (n:=7*(i:Int)) (by omega) (by omega),dt (show(128:Int)≠0 by omega),dt (show(0:Int)<=7*(i:Int) by omega),dt h128,QoY _ hc.1 hc.2 i hi5,w64 (n:=acc+(b[k+i] % 128)*128^i) (by omega) (by omega),w64 (n:=(i:Int)+1) (by omega) (by omega),QQ1]
      exact hv
    rw[this,Qbg,if_pos h128]
    exact ih2
   ·rw[Qbg,if_neg h128]
    by_cases hz:(0<i/\b[k+i]=0)\/2147483647<acc+(b[k+i] % 128)*128^i
    ·rw[if_pos hz]
     have:XP wl (b,(k:Int),acc,(i:Int))=some (.inl (0,0,false)):=by
      apply VB
      simp only[VU,dt (show(i:Int)<5 by omega),w64 (n:=(k:Int)+(i:Int)) (by omega) (by omega),dt (show(k:Int)+(i:Int)<(b.length:Int) by omega),hin,hr,w64 (n:=b[k+i]) (by omega) (by omega),w64 (n:=7*(i:Int)) (by omega) (by omega),dt (show(128:Int)≠0 by omega),dt (show(0:Int)<=7*(i:Int) by omega),df h128,QoY _ hc.1 hc.2 i hi5,w64 (n:=acc+(b[k+i] % 128)*128^i) (by omega) (by omega),QQ1,QQ2]
      by_cases hi0:0<i
      ·rw[dt (show(0:Int)<(i:Int) by omega)]
       by_cases hc0:b[k+i]=0
       ·rw[dt hc0];rfl
       ·rw[df hc0,dt (show 2147483647<acc+(b[k+i] % 128)*128^i by rcases hz with h|h;exact absurd h.2 hc0;exact h)];rfl
      ·rw[df (show¬(0:Int)<(i:Int) by omega),dt (show 2147483647<acc+(b[k+i] % 128)*128^i by rcases hz with h|h;exact absurd h.1 hi0;exact h)];rfl
     rw[this];rfl
    ·rw[if_neg hz]
     have hn:¬2147483647<acc+(b[k+i] % 128)*128^i:=fun h=>hz (.inr h)
     have:XP wl (b,(k:Int),acc,(i:Int))=some (.inl (acc+(b[k+i] % 128)*128^i,(k:Int)+(i:Int)+1,true)):=by
      apply VB
      simp only[VU,dt (show(i:Int)<5 by omega),w64 (n:=(k:Int)+(i:Int)) (by omega) (by omega),dt (show(k:Int)+(i:Int)<(b.length:Int) by omega),hin,hr,w64 (n:=b[k+i]) (by omega) (by omega),w64 (n:=7*(i:Int)) (by omega) (by omega),dt (show(128:Int)≠0 by omega),dt (show(0:Int)<=7*(i:Int) by omega),df h128,QoY _ hc.1 hc.2 i hi5,w64 (n:=acc+(b[k+i] % 128)*128^i) (by omega) (by omega),w64 (n:=(k:Int)+(i:Int)+1) (by omega) (by omega),df hn,QQ1,QQ2]
      by_cases hi0:0<i
      ·rw[dt (show(0:Int)<(i:Int) by omega),df (show¬b[k+i]=0 from fun h=>hz (.inl ⟨hi0,h⟩))];rfl
      ·rw[df (show¬(0:Int)<(i:Int) by omega)];rfl
     rw[this]
     show some (acc+(b[k+i] % 128)*128^i,(k:Int)+(i:Int)+1,true)=some (acc+(b[k+i] % 128)*128^i,(k:Int)+((i+1:Nat):Int),true)
     rw[show(k:Int)+(i:Int)+1=(k:Int)+((i+1:Nat):Int) by omega]
  ·have:XP wl (b,(k:Int),acc,(i:Int))=some (.inr ()):=by
    apply VB
    simp only[VU,dt (show(i:Int)<5 by omega),w64 (n:=(k:Int)+(i:Int)) (by omega) (by omega),df (show¬(k:Int)+(i:Int)<(b.length:Int) by omega),QQ1,QQ2]
   rw[this,List.drop_of_length_le (by omega)];rfl
theorem QBR (b:List Int) (hb:isB b) (hl:b.length<=4294967296) (k:Nat) (hkb:k<=b.length):(f i:Nat)->(acc:Int)->f+i=5->0<=acc->acc<128^i->(XO wl (b,(k:Int),acc,(i:Int))).bind elN=some (QCs (k:Int) (Qbg f i acc (b.drop (k+i)))):=by
 intro f
 induction f with
 |zero=>
  intro i acc hi h0 h1
  have:XO wl (b,(k:Int),acc,(i:Int))=some (.inr ()):=by
   apply Vv
   simp only[VT,df (show¬(i:Int)<5 by omega),QQ2]
  rw[this];rfl
 |succ f ih=>
  intro i acc hi h0 h1
  have hi5:i<5:=by omega
  have hp:=QB1 i hi5
  by_cases hk:k+i<b.length
  ·have hc:=hb _ (QRf hk)
   have hd:=dmul hc.1 hc.2 hp.1
   rw[QRa hk]
   have hr:rd1 (0:Int) b ((k:Int)+(i:Int))=b[k+i]:=by rw[show(k:Int)+(i:Int)=((k+i:Nat):Int) by omega];exact Qg hk
   have hin:inb ((k:Int)+(i:Int)) b.length=true:=by rw[show(k:Int)+(i:Int)=((k+i:Nat):Int) by omega];exact Qj hk
   by_cases h128:128<=b[k+i]
   ·have ih2:=ih (i+1) (acc+(b[k+i] % 128)*128^i) (by omega) (by omega) (by rw[hp.2.2];omega)
    have:XO wl (b,(k:Int),acc,(i:Int))=XO wl (b,(k:Int),acc+(b[k+i] % 128)*128^i,((i+1:Nat):Int)):=by
     cases hv:XO wl (b,(k:Int),acc+(b[k+i] % 128)*128^i,((i+1:Nat):Int))with
     |none=>rw[hv]at ih2;cases ih2
     |some v=>
      apply Vv
      simp only[VT,dt (show(i:Int)<5 by omega),df (show¬(k:Int)<0 by omega),w64 (n:=(b.length:Int) - (i:Int)) (by omega) (by omega),df (show¬(b.length:Int) - (i:Int)<=(k:Int) by omega),w64 (n:=(k:Int)+(i:Int)) (by omega) (by omega),hin,hr,w64 (n:=b[k+i]) (by omega) (by omega),w64 (n:=7*(i:Int)) (by omega) (by omega),dt (show(128:Int)≠0 by omega),dt (show(0:Int)<=7*(i:Int) by omega),df (show¬b[k+i]<128 by omega),QoY _ hc.1 hc.2 i hi5,or_eq acc _ i hi5 h0 h1 hc.1 hc.2,w64 (n:=(i:Int)+1) (by omega) (by omega),QQ1,QQ2]
      exact hv
    rw[this,Qbg,if_pos h128]
    exact ih2
   ·rw[Qbg,if_neg h128]
    by_cases hz:(0<i/\b[k+i]=0)\/2147483647<acc+(b[k+i] % 128)*128^i
    ·rw[if_pos hz]
     have:XO wl (b,(k:Int),acc,(i:Int))=some (.inl (0,0,false)):=by
      apply Vv
      simp only[VT,dt (show(i:Int)<5 by omega),df (show¬(k:Int)<0 by omega),w64 (n:=(b.length:Int) - (i:Int)) (by omega) (by omega),df (show¬(b.length:Int) - (i:Int)<=(k:Int) by omega),w64 (n:=(k:Int)+(i:Int)) (by omega) (by omega),hin,hr,w64 (n:=b[k+i]) (by omega) (by omega),w64 (n:=7*(i:Int)) (by omega) (by omega),dt (show(128:Int)≠0 by omega),dt (show(0:Int)<=7*(i:Int) by omega),dt (show b[k+i]<128 by omega),QoY _ hc.1 hc.2 i hi5,or_eq acc _ i hi5 h0 h1 hc.1 hc.2,QQ1,QQ2]
      by_cases hi0:0<i
      ·rw[dt (show(0:Int)<(i:Int) by omega)]
       by_cases hc0:b[k+i]=0
       ·rw[dt hc0];rfl
       ·rw[df hc0,dt (show 2147483647<acc+(b[k+i] % 128)*128^i by rcases hz with h|h;exact absurd h.2 hc0;exact h)];rfl
      ·rw[df (show¬(0:Int)<(i:Int) by omega),dt (show 2147483647<acc+(b[k+i] % 128)*128^i by rcases hz with h|h;exact absurd h.1 hi0;exact h)];rfl
     rw[this];rfl
    ·rw[if_neg hz]
     have hn:¬2147483647<acc+(b[k+i] % 128)*128^i:=fun h=>hz (.inr h)
     have:XO wl (b,(k:Int),acc,(i:Int))=some (.inl (acc+(b[k+i] % 128)*128^i,(k:Int)+(i:Int)+1,true)):=by
      apply Vv
      simp only[VT,dt (show(i:Int)<5 by omega),df (show¬(k:Int)<0 by omega),w64 (n:=(b.length:Int) - (i:Int)) (by omega) (by omega),df (show¬(b.length:Int) - (i:Int)<=(k:Int) by omega),w64 (n:=(k:Int)+(i:Int)) (by omega) (by omega),hin,hr,w64 (n:=b[k+i]) (by omega) (by omega),w64 (n:=7*(i:Int)) (by omega) (by omega),dt (show(128:Int)≠0 by omega),dt (show(0:Int)<=7*(i:Int) by omega),dt (show b[k+i]<128 by omega),QoY _ hc.1 hc.2 i hi5,or_eq acc _ i hi5 h0 h1 hc.1 hc.2,w64 (n:=(k:Int)+(i:Int)+1) (by omega) (by omega),df hn,QQ1,QQ2]
      by_cases hi0:0<i
      ·rw[dt (show(0:Int)<(i:Int) by omega),df (show¬b[k+i]=0 from fun h=>hz (.inl ⟨hi0,h⟩))];rfl
      ·rw[df (show¬(0:Int)<(i:Int) by omega)];rfl
     rw[this]
     show some (acc+(b[k+i] % 128)*128^i,(k:Int)+(i:Int)+1,true)=some (acc+(b[k+i] % 128)*128^i,(k:Int)+((i+1:Nat):Int),true)
     rw[show(k:Int)+(i:Int)+1=(k:Int)+((i+1:Nat):Int) by omega]
  ·have:XO wl (b,(k:Int),acc,(i:Int))=some (.inl (0,0,false)):=by
    apply Vv
    simp only[VT,dt (show(i:Int)<5 by omega),df (show¬(k:Int)<0 by omega),w64 (n:=(b.length:Int) - (i:Int)) (by omega) (by omega),dt (show(b.length:Int) - (i:Int)<=(k:Int) by omega),QQ1,QQ2]
   rw[this,List.drop_of_length_le (by omega)];rfl
theorem QzJ (b:List Int) (hb:isB b) (hl:b.length<=4294967296) (k:Nat) (hk:k<=b.length):QaB w (b,(k:Int))=some (XX b (k:Int)):=by
 apply QyV
 simp only[Qmu,XX,df (show¬(k:Int)<0 by omega),QQ2]
 by_cases h:k<b.length
 ·have e:=QDa b hb hl k hk 5 0 0 rfl (by omega) (by decide)
  rw[df (show¬(b.length:Int)<=(k:Int) by omega),if_pos (by omega)]
  exact e
 ·rw[dt (show(b.length:Int)<=(k:Int) by omega),if_neg (by omega)];rfl
theorem QvO (b:List Int) (hb:isB b) (hl:b.length<=4294967296) (k:Nat) (hk:k<=b.length):QaI w (b,(k:Int))=some (XX b (k:Int)):=by
 apply QxC
 have e:=QBR b hb hl k hk 5 0 0 rfl (by omega) (by decide)
 simp only[Qnr,XX]
 by_cases h:k<b.length
 ·rw[if_pos (by omega)];exact e
 ·rw[if_neg (by omega)]
  rw[List.drop_of_length_le (by omega)]at e
  exact e
theorem QBJ:(f i:Nat)->(acc:Int)->(l:List Int)->0<=acc->isB l->i+f<=5->∀r,Qbg f i acc l=some r->0<=r.1/\r.1<=2147483647/\r.2<=i+l.length
 |0,_,_,_,_,_,_,r,h=>by cases h
 |f+1,i,acc,[],_,_,_,r,h=>by cases h
 |f+1,i,acc,c::l,h0,hb,hi,r,h=>by
  have hc:=hb c (by simp)
  have hp:=QB1 i (by omega)
  have hd:=dmul hc.1 hc.2 hp.1
  rw[Qbg]at h
  split at h
  ·have:=QBJ f (i+1) _ l (by omega) (fun x hx=>hb x (by simp[hx])) (by omega) r h
   simp only[QY1];omega
  ·split at h
   ·cases h
   ·rename_i hz
    obtain rfl:=QY10 h
    simp only[QY1]
    refine⟨by omega, ?_,by omega⟩
    have:¬2147483647<acc+(c % 128)*128^i:=fun h=>hz (.inr h)
    omega
structure Bs (b:List Int):Prop where
 isb:isB b
 len:b.length<=4294967296
def Pos (b:List Int) (p:Int):Prop:=∃k:Nat,p=(k:Int)/\k<=b.length
theorem Pos.at0 (b:List Int):Pos b 0:=⟨0,rfl,Nat.zero_le _⟩
def rnum (b:List Int) (p:Int) (bad:Bool):Int×Int×Bool:=bif bad then(0,p,true)else(bif (XX b p).2.2 then((XX b p).1,(XX b p).2.1,false)else(0,p,true))
theorem QJV {b:List Int}(h:isB b) (k:Nat):isB (b.drop k):=fun x hx=>h x (List.mem_of_mem_drop hx)
theorem Qqd {b:List Int}(h:Bs b) {p:Int}(hp:Pos b p) (ho:(XX b p).2.2=true):Pos b (XX b p).2.1/\0<=(XX b p).1/\(XX b p).1<=2147483647:=by
 obtain⟨k,rfl,hk⟩:=hp
 unfold XX at ho⊢
 by_cases hc:0<=(k:Int)/\(k:Int)<(b.length:Int)
 ·rw[if_pos hc]at ho⊢
  cases hn:Qbg 5 0 0 (b.drop (k:Int).toNat)with
  |none=>rw[hn]at ho;cases ho
  |some r=>
   have:=QBJ 5 0 0 _ (by omega) (QJV h.isb _) (by omega) r hn
   rw[QY7,QRb]at this
   exact⟨⟨k+r.2,by simp[QCs],by omega⟩,this.1,this.2.1⟩
 ·rw[if_neg hc]at ho;cases ho
theorem QU {b:List Int}(h:Bs b) {p:Int}(hp:Pos b p) (bad:Bool):Pos b (rnum b p bad).2.1/\0<=(rnum b p bad).1/\(rnum b p bad).1<=2147483647:=by
 unfold rnum
 cases bad
 ·cases ho:(XX b p).2.2
  ·exact⟨hp,by simp⟩
  ·exact Qqd h hp ho
 ·exact⟨hp,by simp⟩
theorem QkY {b:List Int}(h:Bs b) {p:Int}(hp:Pos b p) (bad:Bool):QE w (b,p,bad)=some (rnum b p bad):=by
 obtain⟨k,rfl,hk⟩:=hp
 apply QrP
 simp only[Qe9,QzJ b h.isb h.len k hk,QQ0,rnum]
 cases bad<;>cases(XX b (k:Int)).2.2<;>rfl
theorem QjS {b:List Int}(h:Bs b) {p:Int}(hp:Pos b p) (bad:Bool):Q6 w (b,p,bad)=some (rnum b p bad):=by
 obtain⟨k,rfl,hk⟩:=hp
 apply Qyl
 simp only[QnP,QvO b h.isb h.len k hk,QQ0,rnum]
 cases bad<;>cases(XX b (k:Int)).2.2<;>rfl
def ZT (b:List Int) (p:Int):ByteArray×Int×Bool:=bif (XX b p).2.2 then(bif decide ((b.length:Int) - (XX b p).2.1<(XX b p).1)then(⟨#[]⟩,0,false)else(QM (List.take (XX b p).1.toNat (List.drop (XX b p).2.1.toNat b)),(XX b p).2.1+(XX b p).1,true))else(⟨#[]⟩,0,false)
theorem QCD {b:List Int}(h:Bs b) {p:Int}(hp:Pos b p) (ho:(ZT b p).2.2=true):Pos b (ZT b p).2.1:=by
 unfold ZT at ho⊢
 cases hg:(XX b p).2.2
 ·rw[hg]at ho;cases ho
 ·rw[hg]at ho
  obtain⟨⟨k,e,hk⟩,h0,h1⟩:=Qqd h hp hg
  by_cases hl:(b.length:Int) - (XX b p).2.1<(XX b p).1
  ·rw[dt hl]at ho;cases ho
  ·rw[df hl]
   exact⟨k+(XX b p).1.toNat,by simp only[QQ1,QQ2];omega,by omega⟩
theorem QG5 {b:List Int}(h:Bs b) {p:Int}(hp:Pos b p):Qdi w (b,p)=some (ZT b p):=by
 have hb:=h.len
 have hq:=fun ho=>Qqd h hp ho
 obtain⟨k,rfl,hk⟩:=hp
 apply QuK
 simp only[Ql0,QzJ b h.isb h.len k hk,QQ0,ZT]
 cases hg:(XX b (k:Int)).2.2
 ·rfl
 ·obtain⟨⟨q,e,hq2⟩,h0,h1⟩:=hq hg
  rw[e,w64 (n:=(b.length:Int) - (q:Int)) (by omega) (by omega),w64 (n:=(q:Int)+(XX b (k:Int)).1) (by omega) (by omega)]
  by_cases hl:(b.length:Int) - (q:Int)<(XX b (k:Int)).1
  ·rw[dt hl];rfl
  ·rw[df hl]
   simp only[QQ3,QQ1,QQ2,dt (show(0:Int)<=(q:Int)/\(q:Int)<=(q:Int)+(XX b (k:Int)).1/\(q:Int)+(XX b (k:Int)).1<=(b.length:Int) by omega)]
   rw[show(q:Int)+(XX b (k:Int)).1 - (q:Int)=(XX b (k:Int)).1 by omega]
theorem QDB {b:List Int}(h:Bs b) {p:Int}(hp:Pos b p):QeG w (b,p)=some (ZT b p):=by
 have hb:=h.len
 have hq:=fun ho=>Qqd h hp ho
 obtain⟨k,rfl,hk⟩:=hp
 apply QwR
 simp only[Qk5,QvO b h.isb h.len k hk,QQ0,ZT]
 cases hg:(XX b (k:Int)).2.2
 ·rfl
 ·obtain⟨⟨q,e,hq2⟩,h0,h1⟩:=hq hg
  rw[e,w64 (n:=(b.length:Int) - (q:Int)) (by omega) (by omega),w64 (n:=(q:Int)+(XX b (k:Int)).1) (by omega) (by omega)]
  by_cases hl:(b.length:Int) - (q:Int)<(XX b (k:Int)).1
  ·rw[dt hl];rfl
  ·rw[df hl]
   simp only[QQ3,QQ1,QQ2,dt (show(0:Int)<=(q:Int)/\(q:Int)<=(q:Int)+(XX b (k:Int)).1/\(q:Int)+(XX b (k:Int)).1<=(b.length:Int) by omega)]
   rw[show(q:Int)+(XX b (k:Int)).1 - (q:Int)=(XX b (k:Int)).1 by omega]
def rtext (b:List Int) (p:Int) (bad:Bool):ByteArray×Int×Bool:=bif bad then(⟨#[]⟩,p,true)else(bif (ZT b p).2.2 then((ZT b p).1,(ZT b p).2.1,false)else(⟨#[]⟩,p,true))
theorem QIn {b:List Int}(h:Bs b) {p:Int}(hp:Pos b p) (bad:Bool):Pos b (rtext b p bad).2.1:=by
 unfold rtext
 cases bad
 ·cases ho:(ZT b p).2.2
  ·exact hp
  ·exact QCD h hp ho
 ·exact hp
theorem QLQ {b:List Int}(h:Bs b) {p:Int}(hp:Pos b p) (bad:Bool):Jo w (b,p,bad)=some (rtext b p bad):=by
 apply QqR
 simp only[Qev,QG5 h hp,QQ0,rtext]
 cases bad<;>cases(ZT b p).2.2<;>rfl
def rcount (b:List Int) (p:Int) (bad:Bool) (most:Int):Int×Int×Bool:=bif decide (most<(rnum b p bad).1)then(0,(rnum b p bad).2.1,true)else rnum b p bad
theorem Qqf {b:List Int}(h:Bs b) {p:Int}(hp:Pos b p) (bad:Bool) (most:Int):ZU w (b,p,bad,most)=some (rcount b p bad most):=by
 apply Qqy
 simp only[Qbz,QkY h hp,QQ0,rcount]
 cases decide (most<(rnum b p bad).1)<;>rfl
theorem Qca {b:List Int}(h:Bs b) {p:Int}(hp:Pos b p) (bad:Bool) {most:Int}(hm:0<=most):Pos b (rcount b p bad most).2.1/\0<=(rcount b p bad most).1/\(rcount b p bad most).1<=most:=by
 have hr:=QU h hp bad
 unfold rcount
 by_cases hl:most<(rnum b p bad).1
 ·rw[dt hl];exact⟨hr.1,by simp only[QQ1];omega,hm⟩
 ·rw[df hl];exact⟨hr.1,hr.2.1,by simp only[QQ2];omega⟩
def zi (b:List Int):Nat->Int->Bool->List Int×Int×Bool
 |0,p,bad=>([],p,bad)
 |m+1,p,bad=>((rnum b p bad).1::(zi b m (rnum b p bad).2.1 (rnum b p bad).2.2).1,(zi b m (rnum b p bad).2.1 (rnum b p bad).2.2).2)
theorem Qvg {b:List Int}(h:Bs b):(m:Nat)->(p:Int)->(bad:Bool)->Pos b p->Pos b (zi b m p bad).2.1/\(zi b m p bad).1.length=m
 |0,p,bad,hp=>⟨hp,rfl⟩
 |m+1,p,bad,hp=>by
  have:=Qvg h m _ (rnum b p bad).2.2 (QU h hp bad).1
  exact⟨this.1,by simp only[zi,QY1,this.2]⟩
theorem QHD {b:List Int}(h:Bs b) (c:Nat) (hc:c<=5):(m i:Nat)->(p:Int)->(bad:Bool)->(out:List Int)->i+m=c->out.length=i->Pos b p->Kb wl ((c:Int),(i:Int),b,p,bad,out)=some (b,(zi b m p bad).2.1,(zi b m p bad).2.2,out++(zi b m p bad).1):=by
 intro m
 induction m with
 |zero=>
  intro i p bad out hi ho hp
  apply Qat
  simp only[yG,df (show¬(i:Int)<(c:Int) by omega),QQ2,zi,QY11]
 |succ m ih=>
  intro i p bad out hi ho hp
  apply Qat
  simp only[yG,dt (show(i:Int)<(c:Int) by omega),QkY h hp,QQ0,w64 (n:=(i:Int)+1) (by omega) (by omega),QQ1]
  rw[Qu (by simp;omega),QQ1]
  have:=ih (i+1) _ (rnum b p bad).2.2 (out++[(rnum b p bad).1]) (by omega) (by simp[ho]) (QU h hp bad).1
  rw[show(i:Int)+1=((i+1:Nat):Int) by omega,this]
  simp only[zi,QRc,QRv,QRe]
def rnums (b:List Int) (p:Int) (bad:Bool) (most:Int):List Int×Int×Bool:=zi b (rcount b p bad most).1.toNat (rcount b p bad most).2.1 (rcount b p bad most).2.2
theorem QxU {b:List Int}(h:Bs b) {p:Int}(hp:Pos b p) (bad:Bool) (most:Int) (h0:0<=most) (h5:most<=5):Zj w (b,p,bad,most)=some (rnums b p bad most):=by
 have hr:=Qca h hp bad h0
 obtain⟨c,hc⟩:∃c:Nat,(rcount b p bad most).1=(c:Int):=⟨(rcount b p bad most).1.toNat,by omega⟩
 have e:=QHD h c (by omega) c 0 (rcount b p bad most).2.1 (rcount b p bad most).2.2 [] (by omega) rfl hr.1
 apply QqQ
 simp only[QbZ,Qqf h hp,QQ0,rnums,hc,QRb]
 simp only[QQ6,QRe]at e
 simp only[e,QQ0]
theorem QbG {b:List Int}(h:Bs b) {p:Int}(hp:Pos b p) (bad:Bool) {most:Int}(h0:0<=most):Pos b (rnums b p bad most).2.1/\(((rnums b p bad most).1.length:Nat):Int)<=most:=by
 have hr:=Qca h hp bad h0
 have:=Qvg h (rcount b p bad most).1.toNat (rcount b p bad most).2.1 (rcount b p bad most).2.2 hr.1
 exact⟨this.1,by unfold rnums;omega⟩
def JX (b:List Int):Nat->Int->Bool->List Int×Int×Bool
 |0,p,bad=>([],p,bad)
 |m+1,p,bad=>bif bad then([],p,bad)else((rnum b p bad).1::(JX b m (rnum b p bad).2.1 (rnum b p bad).2.2).1,(JX b m (rnum b p bad).2.1 (rnum b p bad).2.2).2)
theorem Qxu {b:List Int}(h:Bs b):(m:Nat)->(p:Int)->(bad:Bool)->Pos b p->Pos b (JX b m p bad).2.1/\(JX b m p bad).1.length<=m
 |0,p,bad,hp=>⟨hp,QY2 _⟩
 |m+1,p,bad,hp=>by
  have:=Qxu h m _ (rnum b p bad).2.2 (QU h hp bad).1
  rw[JX]
  cases bad
  ·exact⟨this.1,by simp only[QQ2,QY1];omega⟩
  ·exact⟨hp,by simp⟩
theorem QHO {b:List Int}(h:Bs b) (t n:Nat) (ht:t<=2) (hn:n<=100):(m i:Nat)->(p:Int)->(bad:Bool)->(out:List Int)->i+m=n*t->out.length=i->Pos b p->KU wl ((t:Int),(n:Int),(i:Int),b,p,bad,out)=some ((n:Int),b,(JX b m p bad).2.1,(JX b m p bad).2.2,out++(JX b m p bad).1):=by
 intro m
 have hnt:n*t<=200:=QY17 (Nat.mul_le_mul hn ht) (by decide)
 have e0:(n:Int)*(t:Int)=((n*t:Nat):Int):=by rw[Int.natCast_mul]
 induction m with
 |zero=>
  intro i p bad out hi ho hp
  apply jy
  simp only[jb,e0,w64 (n:=((n*t:Nat):Int)) (by omega) (by omega),df (show¬(i:Int)<((n*t:Nat):Int) by omega),QQ2,JX,QY11]
 |succ m ih=>
  intro i p bad out hi ho hp
  apply jy
  simp only[jb,e0,w64 (n:=((n*t:Nat):Int)) (by omega) (by omega),dt (show(i:Int)<((n*t:Nat):Int) by omega),dt (show(n:Int)<=100 by omega),QjS h hp,QQ0,w64 (n:=(i:Int)+1) (by omega) (by omega),QQ1]
  rw[Qu (by simp;omega),QQ1,JX]
  cases bad
  ·have:=ih (i+1) _ (rnum b p false).2.2 (out++[(rnum b p false).1]) (by omega) (by simp[ho]) (QU h hp false).1
   rw[show(i:Int)+1=((i+1:Nat):Int) by omega,this]
   simp only[QQ4,QQ1,QQ2,QRc,QRv,QRe]
  ·simp only[QQ3,QQ2,QQ1,QY11]
def rmany (b:List Int) (p:Int) (bad:Bool) (t:Nat):List Int×Int×Bool:=bif decide (100<(rnum b p bad).1)then([],(rnum b p bad).2.1,true)else JX b ((rnum b p bad).1.toNat*t) (rnum b p bad).2.1 (rnum b p bad).2.2
theorem QCv {b:List Int}{p:Int}{bad:Bool}(h:(rnum b p bad).2.2=true):(rnum b p bad).1=0:=by
 unfold rnum at h⊢
 cases bad
 ·cases hg:(XX b p).2.2
  ·rfl
  ·rw[hg]at h;cases h
 ·rfl
theorem Qpf {b:List Int}(h:Bs b) {p:Int}(hp:Pos b p) (bad:Bool) (t:Nat) (ht:t<=2) (ht0:1<=t):Za w (b,p,bad,(t:Int))=some (rmany b p bad t):=by
 have hr:=QU h hp bad
 obtain⟨n,hn⟩:∃n:Nat,(rnum b p bad).1=(n:Int):=⟨(rnum b p bad).1.toNat,by omega⟩
 apply Qwj
 simp only[QkX,QjS h hp,QQ0,rmany,hn,QRb]
 by_cases h100:(100:Int)<(n:Int)
 ·rw[dt h100]
  have hb:(rnum b p bad).2.2=false:=by
   cases hb:(rnum b p bad).2.2
   ·rfl
   ·have:=QCv hb;omega
  have e0:(n:Int)*(t:Int)=((n*t:Nat):Int):=by rw[Int.natCast_mul]
  have hnt:n*t<=2147483647*2:=Nat.mul_le_mul (by omega) ht
  have hnt2:0<n*t:=Nat.mul_pos (by omega) ht0
  have:KU wl ((t:Int),(n:Int),0,b,(rnum b p bad).2.1,(rnum b p bad).2.2,[])=some ((n:Int),b,(rnum b p bad).2.1,(rnum b p bad).2.2,[]):=by
   apply jy
   simp only[jb,e0,w64 (n:=((n*t:Nat):Int)) (by omega) (by omega),dt (show(0:Int)<((n*t:Nat):Int) by omega),df (show¬(n:Int)<=100 by omega),hb,QQ4,QQ1,QQ2]
  rw[this,hb]
  simp only[QQ0,QQ2,QQ1,dt h100]
 ·rw[df h100]
  have e:=QHO h t n ht (by omega) (n*t) 0 (rnum b p bad).2.1 (rnum b p bad).2.2 [] (by omega) rfl hr.1
  simp only[QQ6,QRe]at e
  simp only[e,QQ0,QQ2,df h100]
  cases hv:(JX b (n*t) (rnum b p bad).2.1 (rnum b p bad).2.2).2.2<;>simp only[QQ1,QQ2]<;>rw[<-hv]
theorem QgX {b:List Int}(h:Bs b) {p:Int}(hp:Pos b p) (bad:Bool) (t:Nat) (ht:t<=2):Pos b (rmany b p bad t).2.1/\(rmany b p bad t).1.length<=200:=by
 have hr:=QU h hp bad
 unfold rmany
 by_cases h100:100<(rnum b p bad).1
 ·rw[dt h100];exact⟨hr.1,by simp⟩
 ·rw[df h100]
  have:=Qxu h ((rnum b p bad).1.toNat*t) (rnum b p bad).2.1 (rnum b p bad).2.2 hr.1
  have hm:(rnum b p bad).1.toNat*t<=100*2:=Nat.mul_le_mul (by omega) ht
  exact⟨this.1,by simp only[QQ2];omega⟩
end Go.Proofs.YtiejfnbmficbmaaGreat.M
