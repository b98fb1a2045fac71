/- What the plain forms that FnExactPushAll reaches come to: PSt. No conditions but those that each theorem states. -/
import Derived.Test.YtiejfnbmficbmaaGreatFnExactPushAllPRecv
set_option linter.all false
namespace Go.Proofs.YtiejfnbmficbmaaGreat.M
open Go Go.Eng Go.Proofs
set_option linter.unusedVariables false
def ritem (b:List Int) (p:Int) (bad:Bool):Qg×Int×Bool:=
 let r2:=rnum b p bad
 let r3:=rnum b r2.2.1 r2.2.2
 let r4:=rnum b r3.2.1 r3.2.2
 let r5:=rnum b r4.2.1 r4.2.2
 let r6:=rnum b r5.2.1 r5.2.2
 let r7:=rtext b r6.2.1 r6.2.2
 ((r2.1,r3.1,r4.1,r5.1,r6.1,r7.1),r7.2)
def ritems (b:List Int):Nat->Int->Bool->List Qg×Int×Bool
 |0,p,bad=>([],p,bad)
 |m+1,p,bad=>((ritem b p bad).1::(ritems b m (ritem b p bad).2.1 (ritem b p bad).2.2).1,(ritems b m (ritem b p bad).2.1 (ritem b p bad).2.2).2)
def rfloor (b:List Int) (p:Int) (bad:Bool):Qb×Int×Bool:=(((rnum b p bad).1,(rnum b (rnum b p bad).2.1 (rnum b p bad).2.2).1),(rnum b (rnum b p bad).2.1 (rnum b p bad).2.2).2)
def rfloors (b:List Int):Nat->Int->Bool->List Qb×Int×Bool
 |0,p,bad=>([],p,bad)
 |m+1,p,bad=>((rfloor b p bad).1::(rfloors b m (rfloor b p bad).2.1 (rfloor b p bad).2.2).1,(rfloors b m (rfloor b p bad).2.1 (rfloor b p bad).2.2).2)
def QIN (b:List Int) (s:Qk) (bad:Bool):List Qg×List Qb×Bool:=bif !bad&&(QL s&&Vc (Ym (stB s)) (Ym b))then(s.1,s.2,true)else([],[],false)
def stI (b:List Int):List Qg×List Qb×Bool:=
 let c1:=rcount b 0 false 5
 let q:=ritems b c1.1.toNat c1.2.1 c1.2.2
 let c2:=rcount b q.2.1 q.2.2 5
 let f:=rfloors b c2.1.toNat c2.2.1 c2.2.2
 QIN b (q.1,f.1) f.2.2
end Go.Proofs.YtiejfnbmficbmaaGreat.M
namespace Go.Proofs.YtiejfnbmficbmaaGreat.M
open Go Go.Eng Go.Proofs
set_option linter.unusedVariables false
def QyS (xs:List Qb):List Int:=xs.flatMap fun x=>[x.1,x.2]
end Go.Proofs.YtiejfnbmficbmaaGreat.M
namespace Go.Proofs.YtiejfnbmficbmaaGreat.M
open Go Go.Eng Go.Proofs
set_option linter.unusedVariables false
abbrev Qo4:Type:=Int×Int×Int×Int×Int×(List Int)×Int×(List Int)×(List Int)×(List Qg)×(List Qb)×(List Qb)×Bool
def Qr2:Qo4:=(0,0,0,0,0,[],0,[],[],[],[],[],false)
def Qqa (m:Q9):Qo4:=(m.1,m.2.1,m.2.2.1,m.2.2.2.1,m.2.2.2.2.1,m.2.2.2.2.2.1,m.2.2.2.2.2.2.1,m.2.2.2.2.2.2.2.1,m.2.2.2.2.2.2.2.2.1,m.2.2.2.2.2.2.2.2.2.1,m.2.2.2.2.2.2.2.2.2.2.1,m.2.2.2.2.2.2.2.2.2.2.2,true)
def bytesOf (m:Q9):List Int:=jo m.1 m.2.1 m.2.2.1 m.2.2.2.1 m.2.2.2.2.1 m.2.2.2.2.2.1 m.2.2.2.2.2.2.1 m.2.2.2.2.2.2.2.1 m.2.2.2.2.2.2.2.2.1 m.2.2.2.2.2.2.2.2.2.1 m.2.2.2.2.2.2.2.2.2.2.1 m.2.2.2.2.2.2.2.2.2.2.2
def QJW (b:List Int) (m:Q9) (bad:Bool):Qo4:=bif !bad&&(Qk3 m&&Vc (Ym (bytesOf m)) (Ym b))then Qqa m else Qr2
def QJj (b:List Int):Option (Q9×Bool)->Qo4
 |none=>Qr2
 |some r=>QJW b r.1 r.2
structure Hd where
 a0:Int
 a1:Int
 a2:Int
 a3:Int
 a4:Int
 a5:List Int
 a6:Int
 a7:List Int
 a8:List Int
 n:Int
 p:Int
 bad:Bool
def hi1 (c:List Int):Int×Int×Bool:=rnum c 2 false
def hi2 (c:List Int):Int×Int×Bool:=rnum c (hi1 c).2.1 (hi1 c).2.2
def hi3 (c:List Int):Int×Int×Bool:=rnum c (hi2 c).2.1 (hi2 c).2.2
def hi4 (c:List Int):Int×Int×Bool:=rnum c (hi3 c).2.1 (hi3 c).2.2
def hi5 (c:List Int):Int×Int×Bool:=rnum c (hi4 c).2.1 (hi4 c).2.2
def hi6 (c:List Int):List Int×Int×Bool:=rnums c (hi5 c).2.1 (hi5 c).2.2 4
def hi7 (c:List Int):Int×Int×Bool:=rnum c (hi6 c).2.1 (hi6 c).2.2
def hi8 (c:List Int):List Int×Int×Bool:=rnums c (hi7 c).2.1 (hi7 c).2.2 5
def hi9 (c:List Int):List Int×Int×Bool:=rnums c (hi8 c).2.1 (hi8 c).2.2 4
def QBY (c:List Int):Int×Int×Bool:=rnum c (hi9 c).2.1 (hi9 c).2.2
def hdI (c:List Int):Hd:=⟨(hi1 c).1,(hi2 c).1,(hi3 c).1,(hi4 c).1,(hi5 c).1,(hi6 c).1,(hi7 c).1,(hi8 c).1,(hi9 c).1,(QBY c).1,(QBY c).2.1,(QBY c).2.2⟩
def hs1 (c:List Int):Int×Int×Bool:=rnum c 2 false
def hs2 (c:List Int):Int×Int×Bool:=rnum c (hs1 c).2.1 (hs1 c).2.2
def hs3 (c:List Int):Int×Int×Bool:=rnum c (hs2 c).2.1 (hs2 c).2.2
def hs4 (c:List Int):Int×Int×Bool:=rnum c (hs3 c).2.1 (hs3 c).2.2
def hs5 (c:List Int):Int×Int×Bool:=rnum c (hs4 c).2.1 (hs4 c).2.2
def hs6 (c:List Int):List Int×Int×Bool:=rmany c (hs5 c).2.1 (hs5 c).2.2 1
def body (b:List Int):List Int:=List.take ((b.length:Int) - 4).toNat b
def cut (b:List Int) (p n:Int):List Int:=List.take n.toNat (List.drop p.toNat b)
def QHd (b:List Int) (h:Hd):Option (Q9×Bool):=bif h.bad then none else(bif decide ((b.length:Int) - 4 - h.p<h.n)then none else(bif (stI (cut b h.p h.n)).2.2 then
 some ((h.a0,h.a1,h.a2,h.a3,h.a4,h.a5,h.a6,h.a7,h.a8,(stI (cut b h.p h.n)).1,(stI (cut b h.p h.n)).2.1,(rfloors (body b) (rcount (body b) (h.p+h.n) h.bad 5).1.toNat (rcount (body b) (h.p+h.n) h.bad 5).2.1 (rcount (body b) (h.p+h.n) h.bad 5).2.2).1),(rfloors (body b) (rcount (body b) (h.p+h.n) h.bad 5).1.toNat (rcount (body b) (h.p+h.n) h.bad 5).2.1 (rcount (body b) (h.p+h.n) h.bad 5).2.2).2.2)else none))
def QJz (b:List Int):Qo4:=bif decide ((b.length:Int) - 4<2)then Qr2 else(bif Vc (Ym (List.take 2 b)) (⟨#[82,75]⟩:ByteArray)then QJj b (QHd b (hdI (body b)))else Qr2)
end Go.Proofs.YtiejfnbmficbmaaGreat.M
namespace Go.Proofs.YtiejfnbmficbmaaGreat.M
open Go Go.Eng Go.Proofs
set_option linter.unusedVariables false
end Go.Proofs.YtiejfnbmficbmaaGreat.M
namespace Go.Proofs.YtiejfnbmficbmaaGreat.M
open Go Go.Eng Go.Proofs
set_option linter.unusedVariables false
theorem Qy9 {m:Q9}(h:Qk3 m=true):bytesOf m=X7 m.1 m.2.1 m.2.2.1 m.2.2.2.1 m.2.2.2.2.1 m.2.2.2.2.2.1 m.2.2.2.2.2.2.1 m.2.2.2.2.2.2.2.1 m.2.2.2.2.2.2.2.2.1 m.2.2.2.2.2.2.2.2.2.1 m.2.2.2.2.2.2.2.2.2.2.1 m.2.2.2.2.2.2.2.2.2.2.2++QcB (crc (X7 m.1 m.2.1 m.2.2.1 m.2.2.2.1 m.2.2.2.2.1 m.2.2.2.2.2.1 m.2.2.2.2.2.2.1 m.2.2.2.2.2.2.2.1 m.2.2.2.2.2.2.2.2.1 m.2.2.2.2.2.2.2.2.2.1 m.2.2.2.2.2.2.2.2.2.2.1 m.2.2.2.2.2.2.2.2.2.2.2)):=by
 unfold bytesOf jo
 rw[show xz m.1 m.2.1 m.2.2.1 m.2.2.2.1 m.2.2.2.2.1 m.2.2.2.2.2.1 m.2.2.2.2.2.2.1 m.2.2.2.2.2.2.2.1 m.2.2.2.2.2.2.2.2.1 m.2.2.2.2.2.2.2.2.2.1 m.2.2.2.2.2.2.2.2.2.2.1 m.2.2.2.2.2.2.2.2.2.2.2=true from h];rfl
end Go.Proofs.YtiejfnbmficbmaaGreat.M
namespace Go.Proofs.YtiejfnbmficbmaaGreat.M
open Go Go.Eng Go.Proofs
set_option linter.unusedVariables false
end Go.Proofs.YtiejfnbmficbmaaGreat.M
namespace Go.Proofs.YtiejfnbmficbmaaGreat.M
open Go Go.Eng Go.Proofs
set_option linter.unusedVariables false
def Qnq (x:Qd) (to:Int):Q9:=((msg x 0 to 0).1,(msg x 0 to 0).2.1,(msg x 0 to 0).2.2.1,(msg x 0 to 0).2.2.2.1,(msg x 0 to 0).2.2.2.2.1,(msg x 0 to 0).2.2.2.2.2.1,(msg x 0 to 0).2.2.2.2.2.2.1,(msg x 0 to 0).2.2.2.2.2.2.2.1,(msg x 0 to 0).2.2.2.2.2.2.2.2.1,(ship x (rd1 (0:Int) x.2.2.2.2.2.2.2.2.2.2.1 to)).1,(ship x (rd1 (0:Int) x.2.2.2.2.2.2.2.2.2.2.1 to)).2.1,(msg x 0 to 0).2.2.2.2.2.2.2.2.2.2.2)
theorem Qwt {x:Qd}(h:NOk x) (to:Int):Qva (Qnq x to):=by
 have h2:=ze (QEA h (rd1 (0:Int) x.2.2.2.2.2.2.2.2.2.2.1 to))
 have h3:=QFw h 0 to 0
 exact⟨h3.1,h3.2.1,h3.2.2.1,Nat.le_trans h2.1 (by simp[maxLen]),Nat.le_trans h2.2 (by simp[maxLen]),h3.2.2.2.2.2⟩
theorem Qya {x:Qd}(h:NOk x) {to:Int}(hp:Zw x.1 x.2.1 to=true):inb to x.2.2.2.2.2.2.2.2.2.2.1.length=true:=by
 simp only[Zw,QQ5]at hp
 have h1:=Xw.1 hp.1
 have h2:=(jN h.ack).1
 obtain⟨i,hi⟩:∃i:Nat,to=(i:Int):=⟨to.toNat,by omega⟩
 rw[hi];exact Ql (by omega)
theorem QE3 (x:Qd) (h:NOk x) (to:Int):QjB w (x.1,x.2.1,x.2.2.1,x.2.2.2.1,x.2.2.2.2.1,x.2.2.2.2.2.1,x.2.2.2.2.2.2.1,x.2.2.2.2.2.2.2.1,x.2.2.2.2.2.2.2.2.1,x.2.2.2.2.2.2.2.2.2.1,x.2.2.2.2.2.2.2.2.2.2.1,x.2.2.2.2.2.2.2.2.2.2.2.1,x.2.2.2.2.2.2.2.2.2.2.2.2.1,x.2.2.2.2.2.2.2.2.2.2.2.2.2.1,x.2.2.2.2.2.2.2.2.2.2.2.2.2.2.1,x.2.2.2.2.2.2.2.2.2.2.2.2.2.2.2.1,x.2.2.2.2.2.2.2.2.2.2.2.2.2.2.2.2.1,x.2.2.2.2.2.2.2.2.2.2.2.2.2.2.2.2.2.1,x.2.2.2.2.2.2.2.2.2.2.2.2.2.2.2.2.2.2,to)=some (bif Zw x.1 x.2.1 to then Qqa (Qnq x to)else Qr2):=by
 apply QvS
 simp only[Ql6,okN h,QDj x to h,QyI x h,QEB x h,QQ0,QQ3,QQ2]
 cases hp:Zw x.1 x.2.1 to
 ·rfl
 ·simp only[QQ3,QQ2,Qya h hp,QQ1];rfl
theorem QCb (x:Qd) (h:NOk x) (to:Int):QjD w (x.1,x.2.1,x.2.2.1,x.2.2.2.1,x.2.2.2.2.1,x.2.2.2.2.2.1,x.2.2.2.2.2.2.1,x.2.2.2.2.2.2.2.1,x.2.2.2.2.2.2.2.2.1,x.2.2.2.2.2.2.2.2.2.1,x.2.2.2.2.2.2.2.2.2.2.1,x.2.2.2.2.2.2.2.2.2.2.2.1,x.2.2.2.2.2.2.2.2.2.2.2.2.1,x.2.2.2.2.2.2.2.2.2.2.2.2.2.1,x.2.2.2.2.2.2.2.2.2.2.2.2.2.2.1,x.2.2.2.2.2.2.2.2.2.2.2.2.2.2.2.1,x.2.2.2.2.2.2.2.2.2.2.2.2.2.2.2.2.1,x.2.2.2.2.2.2.2.2.2.2.2.2.2.2.2.2.2.1,x.2.2.2.2.2.2.2.2.2.2.2.2.2.2.2.2.2.2,to)=some (bif Zw x.1 x.2.1 to then Qqa (Qnq x to)else Qr2):=by
 apply Qu0
 simp only[Ql0,QJf h,Qzp x to h,QA0 x h,Qzg x h,QQ0,QQ3,QQ2]
 cases hp:Zw x.1 x.2.1 to
 ·rfl
 ·simp only[QQ3,QQ2,Qya h hp,QQ1];rfl
theorem QAr (m:Q9) (h:Qva m):qX w (m.1,m.2.1,m.2.2.1,m.2.2.2.1,m.2.2.2.2.1,m.2.2.2.2.2.1,m.2.2.2.2.2.2.1,m.2.2.2.2.2.2.2.1,m.2.2.2.2.2.2.2.2.1,m.2.2.2.2.2.2.2.2.2.1,m.2.2.2.2.2.2.2.2.2.2.1,m.2.2.2.2.2.2.2.2.2.2.2)=some (bytesOf m):=Qxb m.1 m.2.1 m.2.2.1 m.2.2.2.1 m.2.2.2.2.1 m.2.2.2.2.2.1 m.2.2.2.2.2.2.1 m.2.2.2.2.2.2.2.1 m.2.2.2.2.2.2.2.2.1 m.2.2.2.2.2.2.2.2.2.1 m.2.2.2.2.2.2.2.2.2.2.1 m.2.2.2.2.2.2.2.2.2.2.2 h
theorem QxM (m:Q9) (h:Qva m):qV w (m.1,m.2.1,m.2.2.1,m.2.2.2.1,m.2.2.2.2.1,m.2.2.2.2.2.1,m.2.2.2.2.2.2.1,m.2.2.2.2.2.2.2.1,m.2.2.2.2.2.2.2.2.1,m.2.2.2.2.2.2.2.2.2.1,m.2.2.2.2.2.2.2.2.2.2.1,m.2.2.2.2.2.2.2.2.2.2.2)=some (bytesOf m):=QwD m.1 m.2.1 m.2.2.1 m.2.2.2.1 m.2.2.2.2.1 m.2.2.2.2.2.1 m.2.2.2.2.2.2.1 m.2.2.2.2.2.2.2.1 m.2.2.2.2.2.2.2.2.1 m.2.2.2.2.2.2.2.2.2.1 m.2.2.2.2.2.2.2.2.2.2.1 m.2.2.2.2.2.2.2.2.2.2.2 h
theorem Qxl (m:Q9):(bytesOf m).length<=3000100:=by
 cases h:Qk3 m
 ·unfold bytesOf jo
  rw[show xz m.1 m.2.1 m.2.2.1 m.2.2.2.1 m.2.2.2.2.1 m.2.2.2.2.2.1 m.2.2.2.2.2.2.1 m.2.2.2.2.2.2.2.1 m.2.2.2.2.2.2.2.2.1 m.2.2.2.2.2.2.2.2.2.1 m.2.2.2.2.2.2.2.2.2.2.1 m.2.2.2.2.2.2.2.2.2.2.2=false from h];simp
 ·rw[Qy9 h]
  have h1:=Qj6 m.1 m.2.1 m.2.2.1 m.2.2.2.1 m.2.2.2.2.1 m.2.2.2.2.2.1 m.2.2.2.2.2.2.1 m.2.2.2.2.2.2.2.1 m.2.2.2.2.2.2.2.2.1 m.2.2.2.2.2.2.2.2.2.1 m.2.2.2.2.2.2.2.2.2.2.1 m.2.2.2.2.2.2.2.2.2.2.2 h
  have h2:=Qts (mok h).marks
  have h3:=K4 XB 10 m.2.2.2.2.2.2.2.2.2.2.2 (fun x _=>Vx x)
  simp only[X7,QRj,QcB,List.length_cons,List.length_nil]
  omega
def post (m:Q9) (net:List Qo):List Qo:=bif decide ((net.length:Int)<12)then net++[(m.2.2.1,bytesOf m,false)]else net
theorem QED (ns:List Qd) (net:List Qo) (sd:List Qt) (m:Q9) (h:Qva m):Qjm w (ns,net,sd,m.1,m.2.1,m.2.2.1,m.2.2.2.1,m.2.2.2.2.1,m.2.2.2.2.2.1,m.2.2.2.2.2.2.1,m.2.2.2.2.2.2.2.1,m.2.2.2.2.2.2.2.2.1,m.2.2.2.2.2.2.2.2.2.1,m.2.2.2.2.2.2.2.2.2.2.1,m.2.2.2.2.2.2.2.2.2.2.2)=some (ns,post m net,sd):=by
 apply Qwi
 simp only[Qmd,QAr m h,QQ0,post]
 by_cases h1:(net.length:Int)<12
 ·rw[dt h1]
  simp only[QQ1]
  rw[Qy (by simp;omega)];rfl
 ·rw[df h1];rfl
structure Few (net:List Qo):Prop where
 len:net.length<=12
 packs:∀p∈net,p.2.1.length<=3000100
theorem QDn (m:Q9) {net:List Qo}(h:Few net):Few (post m net):=by
 unfold post
 by_cases h1:(net.length:Int)<12
 ·rw[dt h1]
  refine⟨by simp only[QQ1,QRj,List.length_cons,List.length_nil];omega,fun p hp=> ?_⟩
  rcases QRh.1 hp with hp|hp
  ·exact h.packs p hp
  ·obtain rfl:=List.mem_singleton.1 hp
   exact Qxl m
 ·rw[df h1];exact h
theorem QFK {net:List Qo}(h:Few net):Xk net<=36001300:=by
 have h1:=h.len
 have:Qe Q6 net<=3000100*net.length:=Qco _ _ _ fun p hp=>h.packs p hp
 simp only[Xk];omega
def QlG (x:Qd) (q:Nat) (net:List Qo):List Qo:=bif Zw x.1 x.2.1 (q:Int)then post (Qnq x (q:Int)) net else net
def QaT (x:Qd):Nat->Nat->List Qo->List Qo
 |0,_,net=>net
 |m+1,q,net=>QaT x m (q+1) (QlG x q net)
def Qgj (n:Nat):List Qd->List Qo->List Qo
 | [],net=>net
 |x::l,net=>Qgj n l (QaT x n 0 net)
theorem QBa (x:Qd) (q:Nat) {net:List Qo}(h:Few net):Few (QlG x q net):=by
 unfold QlG
 cases Zw x.1 x.2.1 (q:Int)
 ·exact h
 ·exact QDn _ h
theorem Qs8 (x:Qd):(m q:Nat)->(net:List Qo)->Few net->Few (QaT x m q net)
 |0,_,_,h=>h
 |m+1,q,net,h=>Qs8 x m (q+1) _ (QBa x q h)
theorem Qta (n:Nat):(l:List Qd)->(net:List Qo)->Few net->Few (Qgj n l net)
 | [],_,h=>h
 |x::l,net,h=>Qta n l _ (Qs8 x n 0 net h)
theorem QuI (ns:List Qd) (net0:List Qo) (sd0:List Qt) (sd:List Qt) (n:Nat) (hn:n<=5) (i:Int) (x:Qd) (h:NOk x):(m q:Nat)->(net:List Qo)->q+m=n->YU wl (ns,(n:Int),i,(n:Int),(q:Int),ns,net0,sd0,ns,net,sd,x.1,x.2.1,x.2.2.1,x.2.2.2.1,x.2.2.2.2.1,x.2.2.2.2.2.1,x.2.2.2.2.2.2.1,x.2.2.2.2.2.2.2.1,x.2.2.2.2.2.2.2.2.1,x.2.2.2.2.2.2.2.2.2.1,x.2.2.2.2.2.2.2.2.2.2.1,x.2.2.2.2.2.2.2.2.2.2.2.1,x.2.2.2.2.2.2.2.2.2.2.2.2.1,x.2.2.2.2.2.2.2.2.2.2.2.2.2.1,x.2.2.2.2.2.2.2.2.2.2.2.2.2.2.1,x.2.2.2.2.2.2.2.2.2.2.2.2.2.2.2.1,x.2.2.2.2.2.2.2.2.2.2.2.2.2.2.2.2.1,x.2.2.2.2.2.2.2.2.2.2.2.2.2.2.2.2.2.1,x.2.2.2.2.2.2.2.2.2.2.2.2.2.2.2.2.2.2)=some (ns,(n:Int),i,ns,net0,sd0,ns,QaT x m q net,sd)
 |0,q,net,hm=>by
  apply QeD
  simp only[Qa2,df (show¬(q:Int)<(n:Int) by omega),QQ2,QaT]
 |m+1,q,net,hm=>by
  apply QeD
  have ih:=QuI ns net0 sd0 sd n hn i x h m (q+1) (QlG x q net) (by omega)
  have hp:=QED ns net sd (Qnq x (q:Int)) (Qwt h _)
  simp only[Qa2,dt (show(q:Int)<(n:Int) by omega),QQ1,QE3 x h,QQ0,w64 (n:=(q:Int)+1) (by omega) (by omega),QaT]
  unfold QlG at ih⊢
  rw[show(q:Int)+1=((q+1:Nat):Int) by omega]
  cases hpo:Zw x.1 x.2.1 (q:Int)
  ·rw[hpo]at ih;exact ih
  ·rw[hpo]at ih
   simp only[QQ1,Qqa]
   exact(congrArg (fun z=>Option.bind z _) hp).trans ih
theorem QtP (src:List Qd) (net0:List Qo) (sd0:List Qt) (ns:List Qd) (sd:List Qt) (i:Nat) (hi:i<src.length) (hn:src.length<=5) (h:NOk src[i]):(m q:Nat)->(net:List Qo)->q+m=src.length->ZM wl ((i:Int),(q:Int),src,net0,sd0,ns,net,sd)=some ((i:Int),src,net0,sd0,ns,QaT src[i] m q net,sd)
 |0,q,net,hm=>by
  apply Qea
  simp only[Qaw,df (show¬(q:Int)<(src.length:Int) by omega),QQ2,QaT]
 |m+1,q,net,hm=>by
  apply Qea
  have ih:=QtP src net0 sd0 ns sd i hi hn h m (q+1) (QlG src[i] q net) (by omega)
  have hb:=QxM (Qnq src[i] (q:Int)) (Qwt h _)
  simp only[Qaw,dt (show(q:Int)<(src.length:Int) by omega),QQ1,Ql hi,Qi hi,QCb src[i] h,QQ0,w64 (n:=(q:Int)+1) (by omega) (by omega),QaT]
  unfold QlG post at ih⊢
  rw[show(q:Int)+1=((q+1:Nat):Int) by omega]
  cases hpo:Zw src[i].1 src[i].2.1 (q:Int)
  ·rw[hpo]at ih;exact ih
  ·rw[hpo]at ih
   simp only[QQ1,Qqa]
   by_cases h1:(net.length:Int)<12
   ·rw[dt h1]at ih⊢
    simp only[QQ1]at ih⊢
    refine(congrArg (fun z=>Option.bind z _) hb).trans ?_
    show(bif fits _ _ then _ else none)=_
    rw[Qy (by simp;omega)]
    exact ih
   ·rw[df h1]at ih⊢
    exact ih
def QcA (ns:List Qd) (net:List Qo) (sd:List Qt):XH:=bif YP ns net sd then(ns,Qgj ns.length ns [],sd)else(ns,net,sd)
theorem QzA (ns:List Qd) (net:List Qo) (sd:List Qt) (h:Xa (ns,net,sd)<=4294967296) (hs:smW ns net sd):xQ w (ns,net,sd)=some (QcA ns net sd):=by
 apply Qre
 simp only[Qhu,Qvn ns net sd h,Qz0 ns net sd hs,QQ0,QcA]
 cases hw:YP ns net sd
 ·rfl
 ·have wk:=Qna hw
  have hall:=Qyu wk
  have h5:=wk.n5
  have e:=Xb ns.length (fun i (o:List Qo)=>VS wl (ns,(ns.length:Int),(i:Int),ns,net,sd,ns,o,sd)) (fun i o=>(ns,Qgj ns.length (ns.drop i) o,sd)) (fun _ _=>True)
   (fun i hi o _ ih=>by
     apply Qez
     have hx:=QuI ns net sd sd ns.length h5 (i:Int) ns[i] (hall _ (QRf hi)) ns.length 0 o (by omega)
     simp only[QQ6]at hx
     have ih1:=ih (QaT ns[i] ns.length 0 o) trivial
     simp only[QbP,ilt hi,Ql hi,Qi hi,QQ1,inc hi hs.1]
     rw[QRa hi,Qgj]
     exact(congrArg (fun z=>Option.bind z _) hx).trans (by simpa only[QQ0,inc hi hs.1]using ih1))
   (fun o _=>by
     apply Qez
     simp only[QbP,Qs,QQ2,QRl,Qgj])
   [] trivial
  simp only[QQ6,QRg]at e
  simp only[QQ3,QQ2,QQ1,e,QQ0]
theorem Qxp (ns:List Qd) (net:List Qo) (sd:List Qt) (h:Xa (ns,net,sd)<=4294967296) (hs:smW ns net sd):Qaz w (ns,net,sd)=some (QcA ns net sd):=by
 apply Qqb
 simp only[QgQ,Qy8 ns net sd h,Qxa ns net sd hs,QQ0,QcA]
 cases hw:YP ns net sd
 ·rfl
 ·have wk:=Qna hw
  have hall:=Qyu wk
  have h5:=wk.n5
  have e:=Xb ns.length (fun i (o:List Qo)=>Jc wl ((i:Int),ns,net,sd,ns,o,sd)) (fun i o=>(ns,Qgj ns.length (ns.drop i) o,sd)) (fun _ _=>True)
   (fun i hi o _ ih=>by
     apply QdC
     have hx:=QtP ns net sd ns sd i hi h5 (hall _ (QRf hi)) ns.length 0 o (by omega)
     simp only[QQ6]at hx
     have ih1:=ih (QaT ns[i] ns.length 0 o) trivial
     simp only[Qbi,ilt hi,QQ1]
     rw[QRa hi,Qgj]
     exact(congrArg (fun z=>Option.bind z _) hx).trans (by simpa only[QQ0,inc hi hs.1]using ih1))
   (fun o _=>by
     apply QdC
     simp only[Qbi,Qs,QQ2,QRl,Qgj])
   [] trivial
  simp only[QQ6,QRg]at e
  simp only[QQ3,QQ2,QQ1,e,QQ0]
theorem QzI {ns:List Qd}{net:List Qo}{sd:List Qt}(h:Xa (ns,net,sd)<=1048576):Xa (QcA ns net sd)<=40000000:=by
 unfold QcA
 cases YP ns net sd
 ·exact Nat.le_trans h (by omega)
 ·have:=QFK (Qta ns.length ns [] ⟨by simp,by simp⟩)
  simp only[Xa,QQ1]at h⊢
  omega
set_option maxHeartbeats 4000000 in
theorem QFT (a0:List Qd) (a1:List Qo) (a2:List Qt) (hf:Qci (a0,a1,a2)):xq w (a0,a1,a2)=some true:=by
 apply QjX
 have hs:=QCm hf
 simp only[zV,QC6 a0 a1 a2 1048576 (by omega) (by omega) hf,QQ0]
 by_cases h:(Xa (a0,a1,a2):Int)<=1048576
 ·rw[KJ h,df (by omega),QQ2]
  have hz:=QzI (show Xa (a0,a1,a2)<=1048576 by omega)
  have hi:=QzA a0 a1 a2 (by omega) hs
  have hq:=Qxp a0 a1 a2 (by omega) hs
  have ht:=QC9 a0 a1 a2 (by omega)
  have he:=Qwj a0 a1 a2 (by omega)
  obtain⟨k,m0,m1,m2,hk,hm,hh⟩:=Qov (a0,a1,a2) (by omega)
  simp only at hm
  generalize QcA a0 a1 a2=r at hi hq hz
  obtain⟨k',n0,n1,n2,hk',hm',hh'⟩:=Qov r (by omega)
  have he2:YH w (r.1,r.2.1,r.2.2,r)=some true:=Qwj r.1 r.2.1 r.2.2 (show Xa r<=4294967296 by omega)
  simp only[ht,hi,hq,he,hm,hm',hh',he2,QQ0,QQ3,QQ2,df (show¬k<0 by omega),df (show¬k'<0 by omega),decide_true]
 ·rw[YQ h,dt (by omega),QQ1]
end Go.Proofs.YtiejfnbmficbmaaGreat.M
namespace Go.Proofs.YtiejfnbmficbmaaGreat.M
open Go Go.Eng Go.Proofs
set_option linter.unusedVariables false
def QAt (r:Qo4):Q9:=(r.1,r.2.1,r.2.2.1,r.2.2.2.1,r.2.2.2.2.1,r.2.2.2.2.2.1,r.2.2.2.2.2.2.1,r.2.2.2.2.2.2.2.1,r.2.2.2.2.2.2.2.2.1,r.2.2.2.2.2.2.2.2.2.1,r.2.2.2.2.2.2.2.2.2.2.1,r.2.2.2.2.2.2.2.2.2.2.2.1)
def QJ0 (x:Qd) (r:Qo4):Qd×List (List Int)×Int:=bif r.2.2.2.2.2.2.2.2.2.2.2.2 then((rcv x (QAt r)).1,(rcv x (QAt r)).2.1.map bytesOf,(rcv x (QAt r)).2.2)else(x,[],1)
def QJK (x:Qd) (b:List Int):Qd×List (List Int)×Int:=QJ0 x (QJz b)
def QHr (p:Qo) (ns:List Qd):List Qd:=ns.set p.1.toNat (QJK (nodeAt ns p.1) p.2.1).1
def give (net:List Qo):List Int->List Qd->List Qd
 | [],ns=>ns
 |i::l,ns=>give net l (QHr (rd1 Jg net i) ns)
structure All (n:Nat) (ns:List Qd):Prop where
 nodes:∀x∈ns,NOk x
 len:ns.length=n
end Go.Proofs.YtiejfnbmficbmaaGreat.M
