/- What the plain forms that FnExactTrimAll reaches come to: PNode2. No conditions but those that each theorem states. -/
import Derived.Test.YtjenicbpdklpbaaGreatFnExactTrimAllPNode
set_option linter.all false
namespace Go.Proofs.YtjenicbpdklpbaaGreat.M
open Go Go.Eng Go.Proofs
set_option linter.unusedVariables false
def riseOk (clock:Int) (r:XRise):Bool:=inR r.1 0 1000&&inR r.2.1 0 100000&&inR r.2.2 0 clock
theorem risesOk_ok (a0:Int) (a1:Int) (a2:List XItem) (a3:List XFloor) (a4:List Int) (a5:Int) (a6:Int) (a7:Int) (a8:List XState) (a9:List Int) (a10:List Int) (a11:List (List Int)) (a12:Int) (a13:Int) (a14:List XSess) (a15:Int) (a16:Int) (a17:Int) (a18:List XRise) (h:a18.length≤maxLen):impl_risesOk w (a0,a1,a2,a3,a4,a5,a6,a7,a8,a9,a10,a11,a12,a13,a14,a15,a16,a17,a18)=some ((a18.all (riseOk a17))&&decide (((a18.length:Nat):Int)=5)):=by
 apply impl_risesOk_of
 have e:=loop_ix a18.length (fun i=>impl_risesOk_k0 wl (a18,((a18.length:Nat):Int),(i:Int),a0,a1,a2,a3,a4,a5,a6,a7,a8,a9,a10,a11,a12,a13,a14,a15,a16,a17,a18)) (fun i=>if(a18.drop i).all (riseOk a17)then .inr (a0,a1,a2,a3,a4,a5,a6,a7,a8,a9,a10,a11,a12,a13,a14,a15,a16,a17,a18)else .inl false)
  (fun i hi ih=>by
    apply impl_risesOk_l0_of
    rw[all_ite (riseOk a17) a18 _ _ hi]
    simp only[impl_risesOk_l0,ilt hi,inb_of hi,rd1_get hi,inc hi h,cond_true,within_ok,Option.bind_some,ih,riseOk]
    cases inR a18[i].1 0 1000<;>cases inR a18[i].2.1 0 100000<;>cases inR a18[i].2.2 0 a17<;>simp)
  (by
    apply impl_risesOk_l0_of
    simp[impl_risesOk_l0])
 simp only[Int.natCast_zero,List.drop_zero]at e
 simp only[impl_risesOk_raw,e,Option.bind_some]
 cases a18.all (riseOk a17)
 ·simp[elimS]
 ·simp only[if_true,elimS,Sum.elim_inr,Bool.true_and]
def sameK (x y:XSess):Bool:=decide (y.1=x.1)&&(y.2.2.1==x.2.2.1)
def slotR (p:Int) (b:Bool):Nat→List XSess→Int⊕Unit
 |_,[]=> .inr ()
 |i,y::l=>bif decide (y.1=p)&&(y.2.2.1==b)then .inl (i:Nat)else slotR p b (i+1) l
def slotV:Int⊕Unit→Int
 | .inl i=>i
 | .inr _=> -1
theorem slotV_elim (z:Int⊕Unit):elimS z (fun u=>some u) (fun _=>some (-1))=some (slotV z):=by cases z<;>rfl
theorem Slot_ok (a0:Int) (a1:Int) (a2:List XItem) (a3:List XFloor) (a4:List Int) (a5:Int) (a6:Int) (a7:Int) (a8:List XState) (a9:List Int) (a10:List Int) (a11:List (List Int)) (a12:Int) (a13:Int) (a14:List XSess) (a15:Int) (a16:Int) (a17:Int) (a18:List XRise) (p:Int) (b:Bool) (h:a14.length≤maxLen):impl_Slot w (a0,a1,a2,a3,a4,a5,a6,a7,a8,a9,a10,a11,a12,a13,a14,a15,a16,a17,a18,p,b)=some (slotV (slotR p b 0 a14)):=by
 apply impl_Slot_of
 have e:=loop_ix a14.length (fun i=>impl_Slot_k0 wl (p,b,a14,((a14.length:Nat):Int),(i:Int))) (fun i=>slotR p b i (a14.drop i))
  (fun i hi ih=>by
    apply impl_Slot_l0_of
    simp only[impl_Slot_l0,ilt hi,inb_of hi,rd1_get hi,inc hi h,cond_true,ih]
    rw[List.drop_eq_getElem_cons hi,slotR]
    cases decide (a14[i].1=p)<;>cases(a14[i].2.2.1==b)<;>simp)
  (by
    apply impl_Slot_l0_of
    simp[impl_Slot_l0,slotR])
 simp only[Int.natCast_zero,List.drop_zero]at e
 simp only[impl_Slot_raw,e,Option.bind_some,slotV_elim]
theorem slot_at (x:XSess):(off:Nat)→(l:List XSess)→(i:Nat)→(h:i<l.length)→l[i]=x→((off:Int)≤slotV (slotR x.1 x.2.2.1 off l)∧slotV (slotR x.1 x.2.2.1 off l)≤off+i∧(slotV (slotR x.1 x.2.2.1 off l)=off+i↔(l.take i).any (sameK x)=false))
 |off,y::l,0,_,hx=>by
  have:y=x:=hx
  subst this
  simp[slotR,slotV]
 |off,y::l,i+1,h,hx=>by
  have ih:=slot_at x (off+1) l i (by simpa using h) (by simpa using hx)
  rw[slotR]
  have hk:(decide (y.1=x.1)&&(y.2.2.1==x.2.2.1))=sameK x y:=rfl
  rw[hk,List.take_succ_cons,List.any_cons]
  cases sameK x y
  ·simp only[cond_false,Bool.false_or]
   refine⟨by omega,by omega, ?_⟩
   rw[←ih.2.2];omega
  ·simp only[cond_true,Bool.true_or,slotV]
   refine⟨by omega,by omega, ?_⟩
   constructor
   ·intro h;omega
   ·intro h;cases h
def peerOk (id n p:Int):Bool:=inR p 0 (n - 1)&& !decide (p=id)
theorem isPeer_ok (a0:Int) (a1:Int) (a2:List XItem) (a3:List XFloor) (a4:List Int) (a5:Int) (a6:Int) (a7:Int) (a8:List XState) (a9:List Int) (a10:List Int) (a11:List (List Int)) (a12:Int) (a13:Int) (a14:List XSess) (a15:Int) (a16:Int) (a17:Int) (a18:List XRise) (p:Int) (hn:inR a1 1 5=true):impl_isPeer w (a0,a1,a2,a3,a4,a5,a6,a7,a8,a9,a10,a11,a12,a13,a14,a15,a16,a17,a18,p)=some (peerOk a0 a1 p):=by
 apply impl_isPeer_of
 simp[inR]at hn
 simp only[impl_isPeer_raw,peerOk]
 rw[w64 (by omega) (by omega),within_ok,Option.bind_some]
 cases inR p 0 (a1 - 1)<;>simp
def oneSess (id n wait:Int) (x:XSess):Bool:=peerOk id n x.1&&inR x.2.1 0 100000&&inR x.2.2.2 0 wait
def okSess (id n wait:Int):List XSess→List XSess→Bool
 |_,[]=>true
 |pre,x::l=>oneSess id n wait x&& !pre.any (sameK x)&&okSess id n wait (pre++[x]) l
theorem okSess_ite {R:Type}(id n wait:Int) (l:List XSess) (x y:R) {i:Nat}(hi:i<l.length):
 (if okSess id n wait (l.take i) (l.drop i)then x else y)=(bif oneSess id n wait l[i]&& !(l.take i).any (sameK l[i])then(if okSess id n wait (l.take (i+1)) (l.drop (i+1))then x else y)else y):=by
 rw[List.drop_eq_getElem_cons hi,okSess]
 have:l.take i++[l[i]]=l.take (i+1):=by rw[List.take_add_one];simp[hi]
 rw[this]
 cases oneSess id n wait l[i]&& !(l.take i).any (sameK l[i])<;>simp
theorem sessOk_ok (a0:Int) (a1:Int) (a2:List XItem) (a3:List XFloor) (a4:List Int) (a5:Int) (a6:Int) (a7:Int) (a8:List XState) (a9:List Int) (a10:List Int) (a11:List (List Int)) (a12:Int) (a13:Int) (a14:List XSess) (a15:Int) (a16:Int) (a17:Int) (a18:List XRise) (hn:inR a1 1 5=true) (h:a14.length≤maxLen):impl_sessOk w (a0,a1,a2,a3,a4,a5,a6,a7,a8,a9,a10,a11,a12,a13,a14,a15,a16,a17,a18)=some (okSess a0 a1 a15 [] a14&&(inR a13 1 4&&decide (((a14.length:Nat):Int)≤a13))):=by
 apply impl_sessOk_of
 have e:=loop_ix a14.length (fun i=>impl_sessOk_k0 wl (a14,((a14.length:Nat):Int),(i:Int),a0,a1,a2,a3,a4,a5,a6,a7,a8,a9,a10,a11,a12,a13,a14,a15,a16,a17,a18)) (fun i=>if okSess a0 a1 a15 (a14.take i) (a14.drop i)then .inr (a0,a1,a2,a3,a4,a5,a6,a7,a8,a9,a10,a11,a12,a13,a14,a15,a16,a17,a18)else .inl false)
  (fun i hi ih=>by
    apply impl_sessOk_l0_of
    rw[okSess_ite a0 a1 a15 a14 _ _ hi]
    have hs:=slot_at a14[i] 0 a14 i hi rfl
    have hs':decide (slotV (slotR a14[i].1 a14[i].2.2.1 0 a14)=(i:Int))= !(a14.take i).any (sameK a14[i]):=by
     cases hb:(a14.take i).any (sameK a14[i])
     ·rw[dt (by have:=hs.2.2.2 hb;omega)];rfl
     ·rw[df (fun h=>by have:=hs.2.2.1 (by omega);rw[hb]at this;cases this)];rfl
    simp only[impl_sessOk_l0,ilt hi,inb_of hi,rd1_get hi,inc hi h,cond_true,isPeer_ok a0 a1 a2 a3 a4 a5 a6 a7 a8 a9 a10 a11 a12 a13 a14 a15 a16 a17 a18 _ hn,Slot_ok a0 a1 a2 a3 a4 a5 a6 a7 a8 a9 a10 a11 a12 a13 a14 a15 a16 a17 a18 _ _ h,within_ok,Option.bind_some,ih,oneSess,hs']
    cases peerOk a0 a1 a14[i].1<;>cases inR a14[i].2.1 0 100000<;>cases inR a14[i].2.2.2 0 a15<;>cases(a14.take i).any (sameK a14[i])<;>simp)
  (by
    apply impl_sessOk_l0_of
    simp[impl_sessOk_l0,okSess])
 simp only[Int.natCast_zero,List.drop_zero,List.take_zero]at e
 simp only[impl_sessOk_raw,e,Option.bind_some]
 cases okSess a0 a1 a15 [] a14
 ·simp[elimS]
 ·simp only[if_true,elimS,Sum.elim_inr,Bool.true_and,within_ok,Option.bind_some]
  cases inR a13 1 4<;>simp
theorem l11Sess_ok (a0:Int) (a1:Int) (a2:List XItem) (a3:List XFloor) (a4:List Int) (a5:Int) (a6:Int) (a7:Int) (a8:List XState) (a9:List Int) (a10:List Int) (a11:List (List Int)) (a12:Int) (a13:Int) (a14:List XSess) (a15:Int) (a16:Int) (a17:Int) (a18:List XRise) (hn:inR a1 1 5=true) (h:a14.length≤maxLen):spec_l11Sess w (a0,a1,a2,a3,a4,a5,a6,a7,a8,a9,a10,a11,a12,a13,a14,a15,a16,a17,a18)=some (decide (((a14.length:Nat):Int)≤a13)&&okSess a0 a1 a15 [] a14):=by
 apply spec_l11Sess_of
 have hn':=hn
 simp[inR]at hn'
 have inner:∀(i:Nat) (hi:i<a14.length) (b4:Bool) (x5:Int) (b6 b7:Bool) (x8 x9:Int) (b10 b11:Bool) (q:XSess) (x2 x3:Int),
  spec_l11Sess_k2 wl ((i:Int),0,x2,x3,b4,x5,b6,b7,x8,x9,b10,b11,a0,a1,a2,a3,a4,a5,a6,a7,a8,a9,a10,a11,a12,a13,a14,a15,a16,a17,a18,q)=some (bif (a14.take i).any (sameK q)then .inl false else .inr ((i:Int),x2,x3,b4,x5,b6,b7,x8,x9,b10,b11,a0,a1,a2,a3,a4,a5,a6,a7,a8,a9,a10,a11,a12,a13,a14,a15,a16,a17,a18,q)):=by
  intro i hi b4 x5 b6 b7 x8 x9 b10 b11 q x2 x3
  have e:=loop_ix i (fun k=>spec_l11Sess_k2 wl ((i:Int),(k:Int),x2,x3,b4,x5,b6,b7,x8,x9,b10,b11,a0,a1,a2,a3,a4,a5,a6,a7,a8,a9,a10,a11,a12,a13,a14,a15,a16,a17,a18,q)) (fun k=>bif ((a14.take i).drop k).any (sameK q)then .inl false else .inr ((i:Int),x2,x3,b4,x5,b6,b7,x8,x9,b10,b11,a0,a1,a2,a3,a4,a5,a6,a7,a8,a9,a10,a11,a12,a13,a14,a15,a16,a17,a18,q))
   (fun k hk ih=>by
     apply spec_l11Sess_l2_of
     have hk':k<a14.length:=by omega
     have hk2:k<(a14.take i).length:=by simp;omega
     rw[List.drop_eq_getElem_cons hk2,List.any_cons,List.getElem_take]
     simp only[spec_l11Sess_l2,ilt hk,inb_of hk',rd1_get hk',inc hk (show i≤maxLen by omega),cond_true,ih,sameK]
     cases decide (a14[k].1=q.1)<;>cases(a14[k].2.2.1==q.2.2.1)<;>simp)
   (by
     apply spec_l11Sess_l2_of
     simp only[spec_l11Sess_l2,ilt_self,cond_false]
     rw[List.drop_of_length_le (by simp;omega)];simp)
  simpa using e
 have e:=loop_ix a14.length (fun i=>spec_l11Sess_k0 wl ((i:Int),a0,a1,a2,a3,a4,a5,a6,a7,a8,a9,a10,a11,a12,a13,a14,a15,a16,a17,a18)) (fun i=>if okSess a0 a1 a15 (a14.take i) (a14.drop i)then .inr ()else .inl false)
  (fun i hi ih=>by
    apply spec_l11Sess_l0_of
    rw[okSess_ite a0 a1 a15 a14 _ _ hi]
    simp only[spec_l11Sess_l0,ilt hi,inb_of hi,rd1_get hi,cond_true,l1In_ok,Option.bind_some,oneSess,peerOk]
    rw[w64 (n:=a1 - 1) (by omega) (by omega)]
    cases h1:inR a14[i].1 0 (a1 - 1)
    ·simp
    ·cases h2:decide (a14[i].1=a0)
     ·cases h3:inR a14[i].2.1 0 100000
      ·simp
      ·cases h4:inR a14[i].2.2.2 0 a15
       ·simp
       ·simp only[Bool.not_true,cond_false,Bool.not_false,Bool.and_true,Bool.true_and,inner i hi,Option.bind_some]
        cases(a14.take i).any (sameK a14[i])
        ·simp only[cond_false,elimS,Sum.elim_inr,inc hi h,ih,Bool.not_false,cond_true]
        ·simp[elimS]
     ·simp)
  (by
    apply spec_l11Sess_l0_of
    simp[spec_l11Sess_l0,okSess])
 simp only[Int.natCast_zero,List.drop_zero,List.take_zero]at e
 simp only[spec_l11Sess_raw,e,Option.bind_some]
 by_cases hl:((a14.length:Nat):Int)≤a13
 ·simp only[df (show¬a13<((a14.length:Nat):Int) by omega),cond_false,dt hl,Bool.true_and]
  cases okSess a0 a1 a15 [] a14<;>simp[elimS]
 ·simp only[dt (show a13<((a14.length:Nat):Int) by omega),cond_true,df hl,Bool.false_and]
def nodeOk (a0:Int) (a1:Int) (a2:List XItem) (a3:List XFloor) (a4:List Int) (a5:Int) (a6:Int) (a7:Int) (a8:List XState) (a9:List Int) (a10:List Int) (a11:List (List Int)) (a12:Int) (a13:Int) (a14:List XSess) (a15:Int) (a16:Int) (a17:Int) (a18:List XRise):Bool:=
 inR a1 1 5&&inR a0 0 (a1 - 1)&&stOk (a2,a3)&&decide ((a4,a5)=treeOf (a2,a3))&&logOk (a6,a7,a8)&&vecOk a9 a1&&vecOk a10 a1&&decide (a9.getD a0.toNat 0=logSeq (a6,a7,a8))&&(a10.all fun x=>decide (x≤logSeq (a6,a7,a8)))&&
  tableOk a11 a1&&inR a12 0 100000&&inR a17 0 100000&&inR a15 1 20&&inR a16 1 50&&inR a13 1 4&&decide (((a14.length:Nat):Int)≤a13)&&okSess a0 a1 a15 [] a14&&decide (((a18.length:Nat):Int)=5)&&a18.all (riseOk a17)
def smN (a2:List XItem) (a3:List XFloor) (a4:List Int) (a8:List XState) (a9 a10:List Int) (a11:List (List Int)) (a14:List XSess) (a18:List XRise):Prop:=
 a2.length≤maxLen∧a3.length≤maxLen∧a4.length≤maxLen∧a8.length≤maxLen∧(∀s∈a8,s.1.length≤maxLen∧s.2.length≤maxLen)∧a9.length≤maxLen∧a10.length≤maxLen∧a11.length≤maxLen∧(∀r∈a11,r.length≤maxLen)∧a14.length≤maxLen∧a18.length≤maxLen
theorem treeSame_ok (a:List Int) (b:Int) (c:List Int) (d:Int) (h:a.length≤maxLen):impl_treeSame w (a,b,c,d)=some (decide ((a,b)=(c,d))):=by
 apply impl_treeSame_of
 simp only[impl_treeSame_raw,Equal_ok a c h,Option.bind_some]
 by_cases h1:a=c
 ·by_cases h2:b=d
  ·simp[h1,h2]
  ·simp[h1,h2]
 ·simp[h1]
theorem l11Tree_ok (a:List Int) (b:Int) (c:List Int) (d:Int) (h:a.length≤maxLen):spec_l11Tree w (a,b,c,d)=some (decide ((a,b)=(c,d))):=by
 apply spec_l11Tree_of
 simp only[spec_l11Tree_raw,l1Same_ok a c h,Option.bind_some]
 by_cases h1:a=c
 ·by_cases h2:b=d
  ·simp[h1,h2]
  ·simp[h1,h2]
 ·simp[h1]
theorem NodeOk_ok (a0:Int) (a1:Int) (a2:List XItem) (a3:List XFloor) (a4:List Int) (a5:Int) (a6:Int) (a7:Int) (a8:List XState) (a9:List Int) (a10:List Int) (a11:List (List Int)) (a12:Int) (a13:Int) (a14:List XSess) (a15:Int) (a16:Int) (a17:Int) (a18:List XRise) (h:smN a2 a3 a4 a8 a9 a10 a11 a14 a18):impl_NodeOk w (a0,a1,a2,a3,a4,a5,a6,a7,a8,a9,a10,a11,a12,a13,a14,a15,a16,a17,a18)=some (nodeOk a0 a1 a2 a3 a4 a5 a6 a7 a8 a9 a10 a11 a12 a13 a14 a15 a16 a17 a18):=by
 obtain⟨h2,h3,h4,h8,h8',h9,h10,h11,h11',h14,h18⟩:=h
 apply impl_NodeOk_of
 simp only[impl_NodeOk_raw,within_ok,Option.bind_some,nodeOk]
 cases q1:inR a1 1 5
 ·simp
 have q1':=q1
 simp[inR]at q1'
 rw[w64 (n:=a1 - 1) (by omega) (by omega)]
 simp only[Bool.not_true,cond_false,Bool.true_and]
 cases q0:inR a0 0 (a1 - 1)
 ·simp
 simp[inR]at q0
 simp only[Bool.not_true,cond_false,Bool.true_and,StateOk_ok a2 a3 h2 h3,Option.bind_some]
 cases q2:stOk (a2,a3)
 ·simp
 simp only[Bool.not_true,cond_false,Bool.true_and,TreeOf_ok a2 a3 h2 h3,Option.bind_some,treeSame_ok a4 a5 _ _ h4]
 cases q4:decide ((a4,a5)=treeOf (a2,a3))
 ·have:decide ((a4,a5)=((treeOf (a2,a3))))=false:=q4
  simp[this]
 have q4':decide ((a4,a5)=((treeOf (a2,a3))))=true:=q4
 simp only[q4',Bool.not_true,cond_false,Bool.true_and,LogSeq_ok a6 a7 a8 h8 h8',LogOk_ok a6 a7 a8 h8 h8',Option.bind_some]
 cases q6:logOk (a6,a7,a8)
 ·simp
 simp only[Bool.not_true,cond_false,Bool.true_and,VecOk_ok a9 a1 h9,VecOk_ok a10 a1 h10,Option.bind_some]
 cases q9:vecOk a9 a1
 ·simp
 cases q10:vecOk a10 a1
 ·simp
 have l9:((a9.length:Nat):Int)=a1:=by simp[vecOk]at q9;exact q9.1.2
 have l10:((a10.length:Nat):Int)=a1:=by simp[vecOk]at q10;exact q10.1.2
 have i0:inb a0 a9.length=true:=by simp[inb];omega
 simp only[Bool.not_true,cond_false,Bool.true_and,i0,cond_true,rd1]
 by_cases qg:a9.getD a0.toNat 0=logSeq (a6,a7,a8)
 case neg=>simp only[qg,decide_false,Bool.not_false,cond_true,Bool.and_false,Bool.false_and]
 simp only[qg,decide_true]
 cases hc:a10 with
 |nil=>rw[hc]at l10;simp at l10;omega
 |cons m l=>
  rw[←hc]
  have hm:slices_Maxint_int w a10=some (maxF m l):=by rw[hc];exact Max_ok m l (by rw[←hc];exact h10)
  have hall:(a10.all fun x=>decide (x≤logSeq (a6,a7,a8)))=(decide (m≤logSeq (a6,a7,a8))&&l.all fun x=>decide (x≤logSeq (a6,a7,a8))):=by rw[hc];rfl
  simp only[Bool.not_true,cond_false,Bool.true_and,hm,Option.bind_some,maxF_le,hall]
  cases decide (m≤logSeq (a6,a7,a8))&&l.all fun x=>decide (x≤logSeq (a6,a7,a8))
  ·simp
  simp only[Bool.not_true,cond_false,Bool.true_and,TableOk_ok a11 a1 h11 h11',Option.bind_some]
  cases tableOk a11 a1
  ·simp
  simp only[Bool.not_true,cond_false,Bool.true_and,sessOk_ok a0 a1 a2 a3 a4 a5 a6 a7 a8 a9 a10 a11 a12 a13 a14 a15 a16 a17 a18 q1 h14,risesOk_ok a0 a1 a2 a3 a4 a5 a6 a7 a8 a9 a10 a11 a12 a13 a14 a15 a16 a17 a18 h18,Option.bind_some]
  cases inR a12 0 100000<;>cases inR a17 0 100000<;>cases inR a15 1 20<;>cases inR a16 1 50<;>cases inR a13 1 4<;>cases decide (((a14.length:Nat):Int)≤a13)<;>cases okSess a0 a1 a15 [] a14<;>cases decide (((a18.length:Nat):Int)=5)<;>cases a18.all (riseOk a17)<;>rfl
theorem sNodeOk_ok (a0:Int) (a1:Int) (a2:List XItem) (a3:List XFloor) (a4:List Int) (a5:Int) (a6:Int) (a7:Int) (a8:List XState) (a9:List Int) (a10:List Int) (a11:List (List Int)) (a12:Int) (a13:Int) (a14:List XSess) (a15:Int) (a16:Int) (a17:Int) (a18:List XRise) (h:smN a2 a3 a4 a8 a9 a10 a11 a14 a18):spec_NodeOk w (a0,a1,a2,a3,a4,a5,a6,a7,a8,a9,a10,a11,a12,a13,a14,a15,a16,a17,a18)=some (nodeOk a0 a1 a2 a3 a4 a5 a6 a7 a8 a9 a10 a11 a12 a13 a14 a15 a16 a17 a18):=by
 obtain⟨h2,h3,h4,h8,h8',h9,h10,h11,h11',h14,h18⟩:=h
 apply spec_NodeOk_of
 simp only[spec_NodeOk_raw,l1In_ok,Option.bind_some,nodeOk]
 cases q1:inR a1 1 5
 ·simp
 have q1':=q1
 simp[inR]at q1'
 rw[w64 (n:=a1 - 1) (by omega) (by omega)]
 simp only[Bool.not_true,cond_false,Bool.true_and]
 cases q0:inR a0 0 (a1 - 1)
 ·simp
 simp[inR]at q0
 simp only[Bool.not_true,cond_false,Bool.true_and,sStateOk_ok a2 a3 h2 h3,Option.bind_some]
 cases q2:stOk (a2,a3)
 ·simp
 simp only[Bool.not_true,cond_false,Bool.true_and,sTreeOf_ok a2 a3 h2 h3,Option.bind_some,l11Tree_ok a4 a5 _ _ h4]
 cases q4:decide ((a4,a5)=treeOf (a2,a3))
 ·have:decide ((a4,a5)=((treeOf (a2,a3))))=false:=q4
  simp[this]
 have q4':decide ((a4,a5)=((treeOf (a2,a3))))=true:=q4
 simp only[q4',Bool.not_true,cond_false,Bool.true_and,sLogSeq_ok a6 a7 a8 h8 h8',sLogOk_ok a6 a7 a8 h8 h8',Option.bind_some]
 cases q6:logOk (a6,a7,a8)
 ·simp
 simp only[Bool.not_true,cond_false,Bool.true_and,sVecOk_ok a9 a1 h9,sVecOk_ok a10 a1 h10,Option.bind_some]
 cases q9:vecOk a9 a1
 ·simp
 cases q10:vecOk a10 a1
 ·simp
 have l9:((a9.length:Nat):Int)=a1:=by simp[vecOk]at q9;exact q9.1.2
 have l10:((a10.length:Nat):Int)=a1:=by simp[vecOk]at q10;exact q10.1.2
 have i0:inb a0 a9.length=true:=by simp[inb];omega
 simp only[Bool.not_true,cond_false,Bool.true_and,i0,cond_true,rd1]
 by_cases qg:a9.getD a0.toNat 0=logSeq (a6,a7,a8)
 case neg=>simp only[qg,decide_false,Bool.not_false,cond_true,Bool.and_false,Bool.false_and]
 simp only[qg,decide_true]
 simp only[Bool.not_true,cond_false,Bool.true_and,sTableOk_ok a11 a1 h11 h11',Option.bind_some]
 cases qt:tableOk a11 a1
 ·simp
 have e0:=loop_ix a10.length (fun i=>spec_NodeOk_k0 wl ((i:Int),a0,a1,a2,a3,a4,a5,a6,a7,a8,a9,a10,a11,a12,a13,a14,a15,a16,a17,a18)) (fun i=>if(a10.drop i).all (fun x=>decide (x≤logSeq (a6,a7,a8)))then .inr (a0,a1,a2,a3,a4,a5,a6,a7,a8,a9,a10,a11,a12,a13,a14,a15,a16,a17,a18)else .inl false)
  (fun i hi ih=>by
    apply spec_NodeOk_l0_of
    rw[all_ite (fun x=>decide (x≤logSeq (a6,a7,a8))) a10 _ _ hi]
    have hi':(i:Int)<a1:=by omega
    simp only[spec_NodeOk_l0,dt hi',inb_of hi,rd1_get hi,inc hi h10,cond_true,sLogSeq_ok a6 a7 a8 h8 h8',Option.bind_some,ih]
    by_cases hx:a10[i]≤logSeq (a6,a7,a8)
    ·simp only[df (show¬logSeq (a6,a7,a8)<a10[i] by omega),cond_false,dt hx,cond_true]
    ·simp only[dt (show logSeq (a6,a7,a8)<a10[i] by omega),cond_true,df hx,cond_false])
  (by
    apply spec_NodeOk_l0_of
    have:¬((a10.length:Nat):Int)<a1:=by omega
    simp only[spec_NodeOk_l0,df this,cond_false,all_end])
 simp only[Int.natCast_zero,List.drop_zero]at e0
 simp only[Bool.not_true,cond_false,Bool.true_and,e0,Option.bind_some]
 cases qa:a10.all fun x=>decide (x≤logSeq (a6,a7,a8))
 ·simp[elimS]
 simp only[if_true,elimS,Sum.elim_inr,Bool.and_true]
 cases inR a12 0 100000
 ·simp
 cases inR a17 0 100000
 ·simp
 cases inR a13 1 4
 ·simp
 cases inR a15 1 20
 ·simp
 cases inR a16 1 50
 ·simp
 simp only[Bool.not_true,cond_false,Bool.true_and,Bool.and_true]
 cases q5:decide (((a18.length:Nat):Int)=5)
 ·simp
 have l5:a18.length=5:=by simp at q5;omega
 have e2:=loop_ix a18.length (fun i=>spec_NodeOk_k2 wl ((i:Int),a0,a1,a2,a3,a4,a5,a6,a7,a8,a9,a10,a11,a12,a13,a14,a15,a16,a17,a18)) (fun i=>if(a18.drop i).all (riseOk a17)then .inr (a0,a1,a2,a3,a4,a5,a6,a7,a8,a9,a10,a11,a12,a13,a14,a15,a16,a17,a18)else .inl false)
  (fun i hi ih=>by
    apply spec_NodeOk_l2_of
    rw[all_ite (riseOk a17) a18 _ _ hi]
    have hi':(i:Int)<5:=by omega
    simp only[spec_NodeOk_l2,dt hi',inb_of hi,rd1_get hi,inc hi h18,cond_true,l1In_ok,Option.bind_some,ih,riseOk]
    cases inR a18[i].1 0 1000<;>cases inR a18[i].2.1 0 100000<;>cases inR a18[i].2.2 0 a17<;>simp)
  (by
    apply spec_NodeOk_l2_of
    have:¬((a18.length:Nat):Int)<5:=by omega
    simp only[spec_NodeOk_l2,df this,cond_false,all_end])
 simp only[Int.natCast_zero,List.drop_zero]at e2
 simp only[Bool.not_true,cond_false,e2,Option.bind_some]
 cases a18.all (riseOk a17)
 ·simp
 simp only[if_true,Sum.elim_inr,l11Sess_ok a0 a1 a2 a3 a4 a5 a6 a7 a8 a9 a10 a11 a12 a13 a14 a15 a16 a17 a18 q1 h14,Option.bind_some,Bool.and_true]
end Go.Proofs.YtjenicbpdklpbaaGreat.M
