/- What the plain forms that FnExactOnlyNews reaches come to: PMo3. No conditions but those that each theorem states. -/
import Derived.Test.YtiejfnbmficbmaaGreatFnExactOnlyNewsPRd
set_option linter.all false
namespace Go.Proofs.YtiejfnbmficbmaaGreat.M
open Go Go.Eng Go.Proofs
set_option linter.unusedVariables false
theorem Qu3 {m:Q1}(h:Vt m=true):bytesOf m=Xt m.1 m.2.1 m.2.2.1 m.2.2.2.1 m.2.2.2.2.1 m.2.2.2.2.2.1 m.2.2.2.2.2.2.1 m.2.2.2.2.2.2.2.1 m.2.2.2.2.2.2.2.2.1 m.2.2.2.2.2.2.2.2.2.1 m.2.2.2.2.2.2.2.2.2.2.1 m.2.2.2.2.2.2.2.2.2.2.2++Y0 (crc (Xt m.1 m.2.1 m.2.2.1 m.2.2.2.1 m.2.2.2.2.1 m.2.2.2.2.2.1 m.2.2.2.2.2.2.1 m.2.2.2.2.2.2.2.1 m.2.2.2.2.2.2.2.2.1 m.2.2.2.2.2.2.2.2.2.1 m.2.2.2.2.2.2.2.2.2.2.1 m.2.2.2.2.2.2.2.2.2.2.2)):=by
 unfold bytesOf xY
 rw[show JU m.1 m.2.1 m.2.2.1 m.2.2.2.1 m.2.2.2.2.1 m.2.2.2.2.2.1 m.2.2.2.2.2.2.1 m.2.2.2.2.2.2.2.1 m.2.2.2.2.2.2.2.2.1 m.2.2.2.2.2.2.2.2.2.1 m.2.2.2.2.2.2.2.2.2.2.1 m.2.2.2.2.2.2.2.2.2.2.2=true from h];rfl
theorem QsW (m:Q1):isB (bytesOf m):=by
 unfold bytesOf xY
 cases JU m.1 m.2.1 m.2.2.1 m.2.2.2.1 m.2.2.2.2.1 m.2.2.2.2.2.1 m.2.2.2.2.2.2.1 m.2.2.2.2.2.2.2.1 m.2.2.2.2.2.2.2.2.1 m.2.2.2.2.2.2.2.2.2.1 m.2.2.2.2.2.2.2.2.2.2.1 m.2.2.2.2.2.2.2.2.2.2.2
 ·intro x hx;simp at hx
 ·exact QP (QP (Qj6 _ _ _ _ _ _ _ _ _ _ _ _) (Qd9 _ Qh2 _)) (Qx2 _)
theorem QkU {l:List Int}{hi:Int}(h:∀x∈l,inR x 0 hi=true) (hh:hi<=2147483647):∀x∈l,inN x:=fun x hx=>by
 have:=Q4.1 (h x hx)
 unfold inN;omega
theorem QzB {p:Int}{l:List Int}(h:okL p l=true):∀x∈l,inR x 0 3=true:=by
 rw[QmW,QQ5,QRt]at h
 exact h.1
theorem QxX {l:List Int}{r:Int}(h:qo (l,r)=true):(∀x∈l,inN x)/\0<=r/\r<=1023:=by
 unfold qo at h
 by_cases h0:((l.length:Nat):Int)=0
 ·simp only[dt h0,QQ1,QRu]at h
  have:l=[]:=List.length_eq_zero_iff.1 (by omega)
  rw[this]
  exact⟨by simp,by omega⟩
 ·simp only[df h0,QQ2,QQ5,QRt]at h
  exact⟨QkU h.1.1 (by omega),Q4.1 h.2⟩
theorem QwZ {m:Q1}(h:Vt m=true) {c:List Int}(hc:c=Xt m.1 m.2.1 m.2.2.1 m.2.2.2.1 m.2.2.2.2.1 m.2.2.2.2.2.1 m.2.2.2.2.2.2.1 m.2.2.2.2.2.2.2.1 m.2.2.2.2.2.2.2.2.1 m.2.2.2.2.2.2.2.2.2.1 m.2.2.2.2.2.2.2.2.2.2.1 m.2.2.2.2.2.2.2.2.2.2.2):∃p,hdI c=⟨m.1,m.2.1,m.2.2.1,m.2.2.2.1,m.2.2.2.2.1,m.2.2.2.2.2.1,m.2.2.2.2.2.2.1,m.2.2.2.2.2.2.2.1,m.2.2.2.2.2.2.2.2.1,(((stB (m.2.2.2.2.2.2.2.2.2.1,m.2.2.2.2.2.2.2.2.2.2.1)).length:Nat):Int),p,false⟩/\hdS c=⟨m.1,m.2.1,m.2.2.1,m.2.2.2.1,m.2.2.2.2.1,m.2.2.2.2.2.1,m.2.2.2.2.2.2.1,m.2.2.2.2.2.2.2.1,m.2.2.2.2.2.2.2.2.1,(((stB (m.2.2.2.2.2.2.2.2.2.1,m.2.2.2.2.2.2.2.2.2.2.1)).length:Nat):Int),p,false⟩/\Enc c p (stB (m.2.2.2.2.2.2.2.2.2.1,m.2.2.2.2.2.2.2.2.2.2.1)++(Qd (m.2.2.2.2.2.2.2.2.2.2.2.length:Nat)++(m.2.2.2.2.2.2.2.2.2.2.2.flatMap Q2++[]))):=by
 have ok:=mok h
 have hsm:=QhG m.1 m.2.1 m.2.2.1 m.2.2.2.1 m.2.2.2.2.1 m.2.2.2.2.2.1 m.2.2.2.2.2.2.1 m.2.2.2.2.2.2.2.1 m.2.2.2.2.2.2.2.2.1 m.2.2.2.2.2.2.2.2.2.1 m.2.2.2.2.2.2.2.2.2.2.1 m.2.2.2.2.2.2.2.2.2.2.2 h
 have r0:=Q4.1 ok.kind
 have r1:=Q4.1 ok.src
 have r2:=Q4.1 ok.dst
 have r3:=Q4.1 ok.num
 have r4:=Q4.1 ok.hi
 have r7:=QkU ok.vec (by omega)
 have r8:=QkU (QzB ok.lv) (show(3:Int)<=2147483647 by omega)
 obtain⟨r5,r6⟩:=QxX ok.tree
 have ln:=QjN (J0 ok.part)
 have hE:Enc c 2 (Qd m.1++(Qd m.2.1++(Qd m.2.2.1++(Qd m.2.2.2.1++(Qd m.2.2.2.2.1++(nums m.2.2.2.2.2.1++(Qd m.2.2.2.2.2.2.1++(nums m.2.2.2.2.2.2.2.1++(nums m.2.2.2.2.2.2.2.2.1++(Qd ((stB (m.2.2.2.2.2.2.2.2.2.1,m.2.2.2.2.2.2.2.2.2.2.1)).length:Nat)++(stB (m.2.2.2.2.2.2.2.2.2.1,m.2.2.2.2.2.2.2.2.2.2.1)++(Qd (m.2.2.2.2.2.2.2.2.2.2.2.length:Nat)++(m.2.2.2.2.2.2.2.2.2.2.2.flatMap Q2++[]))))))))))))):=by
  have:=Enc.skip (b:=c) (k:=0) (a:=[82,75]) (l:=Qd m.1++(Qd m.2.1++(Qd m.2.2.1++(Qd m.2.2.2.1++(Qd m.2.2.2.2.1++(nums m.2.2.2.2.2.1++(Qd m.2.2.2.2.2.2.1++(nums m.2.2.2.2.2.2.2.1++(nums m.2.2.2.2.2.2.2.2.1++(Qd ((stB (m.2.2.2.2.2.2.2.2.2.1,m.2.2.2.2.2.2.2.2.2.2.1)).length:Nat)++(stB (m.2.2.2.2.2.2.2.2.2.1,m.2.2.2.2.2.2.2.2.2.2.1)++(Qd (m.2.2.2.2.2.2.2.2.2.2.2.length:Nat)++(m.2.2.2.2.2.2.2.2.2.2.2.flatMap Q2++[]))))))))))))) (by
   rw[hc];simp only[Xt,Yx,QRc,QY10,QRg]) (by omega)
  exact this
 obtain⟨p1,e1,q1⟩:=Xp hE (by omega) (by omega)
 obtain⟨p2,e2,q2⟩:=Xp q1 (by omega) (by omega)
 obtain⟨p3,e3,q3⟩:=Xp q2 (by omega) (by omega)
 obtain⟨p4,e4,q4⟩:=Xp q3 (by omega) (by omega)
 obtain⟨p5,e5,q5⟩:=Xp q4 (by omega) (by omega)
 obtain⟨p6,e6,q6⟩:=QiD (most:=4) r5 (by omega) (by omega) q5
 obtain⟨p7,e7,q7⟩:=Xp q6 (by omega) (by omega)
 obtain⟨p8,e8,q8⟩:=QiD (most:=5) r7 (by omega) (by omega) q7
 obtain⟨p9,e9,q9⟩:=QiD (most:=4) r8 (by omega) (by omega) q8
 obtain⟨p10,e10,q10⟩:=Xp q9 (by omega) (by omega)
 obtain⟨p6',f6,q6'⟩:=QaQ 1 m.2.2.2.2.2.1.length r5 (by omega) (by omega) (show Enc c p5 (Qd (m.2.2.2.2.2.1.length:Nat)++(m.2.2.2.2.2.1.flatMap Qd++_)) by rw[<-QRc];exact q5)
 obtain⟨p7',f7,q7'⟩:=Xp q6' (by omega) (by omega)
 obtain⟨p8',f8,q8'⟩:=QaQ 1 m.2.2.2.2.2.2.2.1.length r7 (by omega) (by omega) (show Enc c p7' (Qd (m.2.2.2.2.2.2.2.1.length:Nat)++(m.2.2.2.2.2.2.2.1.flatMap Qd++_)) by rw[<-QRc];exact q7')
 obtain⟨p9',f9,q9'⟩:=QaQ 1 m.2.2.2.2.2.2.2.2.1.length r8 (by omega) (by omega) (show Enc c p8' (Qd (m.2.2.2.2.2.2.2.2.1.length:Nat)++(m.2.2.2.2.2.2.2.2.1.flatMap Qd++_)) by rw[<-QRc];exact q8')
 obtain⟨p10',f10,q10'⟩:=Xp q9' (by omega) (by omega)
 have g1:hi1 c=(m.1,p1,false):=e1
 have g2:hi2 c=(m.2.1,p2,false):=by unfold hi2;rw[g1];exact e2
 have g3:hi3 c=(m.2.2.1,p3,false):=by unfold hi3;rw[g2];exact e3
 have g4:hi4 c=(m.2.2.2.1,p4,false):=by unfold hi4;rw[g3];exact e4
 have g5:hi5 c=(m.2.2.2.2.1,p5,false):=by unfold hi5;rw[g4];exact e5
 have g6:hi6 c=(m.2.2.2.2.2.1,p6,false):=by unfold hi6;rw[g5];exact e6
 have g7:hi7 c=(m.2.2.2.2.2.2.1,p7,false):=by unfold hi7;rw[g6];exact e7
 have g8:hi8 c=(m.2.2.2.2.2.2.2.1,p8,false):=by unfold hi8;rw[g7];exact e8
 have g9:hi9 c=(m.2.2.2.2.2.2.2.2.1,p9,false):=by unfold hi9;rw[g8];exact e9
 have g10:QU c=((((stB (m.2.2.2.2.2.2.2.2.2.1,m.2.2.2.2.2.2.2.2.2.2.1)).length:Nat):Int),p10,false):=by unfold QU;rw[g9];exact e10
 have d1:hs1 c=(m.1,p1,false):=e1
 have d2:hs2 c=(m.2.1,p2,false):=by unfold hs2;rw[d1];exact e2
 have d3:hs3 c=(m.2.2.1,p3,false):=by unfold hs3;rw[d2];exact e3
 have d4:hs4 c=(m.2.2.2.1,p4,false):=by unfold hs4;rw[d3];exact e4
 have d5:hs5 c=(m.2.2.2.2.1,p5,false):=by unfold hs5;rw[d4];exact e5
 have d6:hs6 c=(m.2.2.2.2.2.1,p6',false):=by unfold hs6;rw[d5];exact f6
 have d7:hs7 c=(m.2.2.2.2.2.2.1,p7',false):=by unfold hs7;rw[d6];exact f7
 have d8:hs8 c=(m.2.2.2.2.2.2.2.1,p8',false):=by unfold hs8;rw[d7];exact f8
 have d9:hs9 c=(m.2.2.2.2.2.2.2.2.1,p9',false):=by unfold hs9;rw[d8];exact f9
 have d10:Q0 c=((((stB (m.2.2.2.2.2.2.2.2.2.1,m.2.2.2.2.2.2.2.2.2.2.1)).length:Nat):Int),p10',false):=by unfold Q0;rw[d9];exact f10
 have hp:p10'=p10:=by
  obtain⟨k,rfl,hk,ek⟩:=q10
  obtain⟨k',rfl,hk',ek'⟩:=q10'
  have:=congrArg List.length (ek.trans ek'.symm)
  rw[QY8,QY8]at this
  omega
 refine⟨p10, ?_, ?_,q10⟩
 ·simp only[hdI,g1,g2,g3,g4,g5,g6,g7,g8,g9,g10]
 ·simp only[hdS,d1,d2,d3,d4,d5,d6,d7,d8,d9,d10,hp]
theorem Qw8 {m:Q1}(h:Vt m=true) {c s:List Int}{p:Int}(q:Enc c p (stB (m.2.2.2.2.2.2.2.2.2.1,m.2.2.2.2.2.2.2.2.2.2.1)++(Qd (m.2.2.2.2.2.2.2.2.2.2.2.length:Nat)++(m.2.2.2.2.2.2.2.2.2.2.2.flatMap Q2++[])))):∃k:Nat,p=(k:Int)/\k+(stB (m.2.2.2.2.2.2.2.2.2.1,m.2.2.2.2.2.2.2.2.2.2.1)).length<=c.length/\cut (c++s) p ((stB (m.2.2.2.2.2.2.2.2.2.1,m.2.2.2.2.2.2.2.2.2.2.1)).length:Nat)=stB (m.2.2.2.2.2.2.2.2.2.1,m.2.2.2.2.2.2.2.2.2.2.1)/\cut c p ((stB (m.2.2.2.2.2.2.2.2.2.1,m.2.2.2.2.2.2.2.2.2.2.1)).length:Nat)=stB (m.2.2.2.2.2.2.2.2.2.1,m.2.2.2.2.2.2.2.2.2.2.1)/\
 (∃p1,rcount c (p+((stB (m.2.2.2.2.2.2.2.2.2.1,m.2.2.2.2.2.2.2.2.2.2.1)).length:Nat)) false 5=(((m.2.2.2.2.2.2.2.2.2.2.2.length:Nat):Int),p1,false)/\∃p2,rfloors c m.2.2.2.2.2.2.2.2.2.2.2.length p1 false=(m.2.2.2.2.2.2.2.2.2.2.2,p2,false))/\∃p3,rmany c (p+((stB (m.2.2.2.2.2.2.2.2.2.1,m.2.2.2.2.2.2.2.2.2.2.1)).length:Nat)) false 2=(jo m.2.2.2.2.2.2.2.2.2.2.2,p3,false):=by
 obtain⟨k,rfl,hk,ek⟩:=q
 have hl:=congrArg List.length ek
 rw[QY8,QRj]at hl
 have hq:=Enc.skip ek hk
 have hm:=Qwc (mok h).marks
 have hin:=Qil (mok h).marks
 have ei:((k:Int)+(((stB (m.2.2.2.2.2.2.2.2.2.1,m.2.2.2.2.2.2.2.2.2.2.1)).length:Nat):Int))=((k+(stB (m.2.2.2.2.2.2.2.2.2.1,m.2.2.2.2.2.2.2.2.2.2.1)).length:Nat):Int):=by omega
 refine⟨k,rfl,by omega, ?_, ?_, ?_, ?_⟩
 ·unfold cut
  rw[QRb,QRb,List.drop_append_of_le_length hk,ek,QRc,List.take_left]
 ·unfold cut
  rw[QRb,QRb,ek,List.take_left]
 ·rw[ei]
  obtain⟨p1,e1,q1⟩:=QcQ (most:=5) hq (by omega) (by omega) (by omega)
  obtain⟨p2,e2,_⟩:=Qf9 m.2.2.2.2.2.2.2.2.2.2.2 p1 hin q1
  exact⟨p1,e1,p2,e2⟩
 ·rw[ei]
  rw[<-Qge]at hq
  obtain⟨p3,e3,_⟩:=QaQ 2 m.2.2.2.2.2.2.2.2.2.2.2.length (Qpl hin) (Qi8 m.2.2.2.2.2.2.2.2.2.2.2) hm hq
  exact⟨p3,e3⟩
theorem QwY (c s:List Int) (hs:s.length=4):body (c++s)=c:=by
 unfold body
 rw[QRj,hs,show(((c.length+4:Nat):Int) - 4).toNat=c.length by omega,List.take_left]
theorem Qyv (c s:List Int) (hs:s.length=4):List.drop (((c++s).length:Int) - 4).toNat (c++s)=s:=by
 rw[QRj,hs,show(((c.length+4:Nat):Int) - 4).toNat=c.length by omega,List.drop_left]
theorem Qte {m:Q1}(h:Vt m=true):Qb2 (bytesOf m)=QcP m/\Qjx (bytesOf m)=QcP m:=by
 have hb:=Qu3 h
 obtain⟨c,hc⟩:∃c,c=Xt m.1 m.2.1 m.2.2.1 m.2.2.2.1 m.2.2.2.2.1 m.2.2.2.2.2.1 m.2.2.2.2.2.2.1 m.2.2.2.2.2.2.2.1 m.2.2.2.2.2.2.2.2.1 m.2.2.2.2.2.2.2.2.2.1 m.2.2.2.2.2.2.2.2.2.2.1 m.2.2.2.2.2.2.2.2.2.2.2:=⟨_,rfl⟩
 rw[<-hc]at hb
 obtain⟨p,hI,hS,q⟩:=QwZ h hc
 obtain⟨k,rfl,hk,c1,c2,⟨p1,e1,p2,e2⟩,p3,e3⟩:=Qw8 (s:=Y0 (crc c)) h q
 have hs4:(Y0 (crc c)).length=4:=rfl
 have hbl:(bytesOf m).length=c.length+4:=by rw[hb,QRj,hs4]
 have hc2:2<=c.length:=by
  rw[hc,Xt,Yx];simp only[QRj,QY0,QY18];omega
 have h2:List.take 2 (bytesOf m)=[82,75]:=by rw[hb,hc];rfl
 have hbody:body (bytesOf m)=c:=by rw[hb];exact QwY _ _ hs4
 have hfin:QiL (bytesOf m) m false=QcP m:=by
  unfold QiL
  rw[h,show XI (QG (bytesOf m)) (QG (bytesOf m))=true from QZ _];rfl
 have hst:=QoL (mok h).part
 constructor
 ·unfold Qb2
  rw[df (show¬((bytesOf m).length:Int) - 4<2 by omega),h2,show XI (QG [82,75]) (⟨#[82,75]⟩:ByteArray)=true by rw[QjA];exact decide_eq_true rfl,hbody,hI,Qto,df (show¬((bytesOf m).length:Int) - 4 - (k:Int)<(((stB (m.2.2.2.2.2.2.2.2.2.1,m.2.2.2.2.2.2.2.2.2.2.1)).length:Nat):Int) by omega),show cut (bytesOf m) (k:Int) (((stB (m.2.2.2.2.2.2.2.2.2.1,m.2.2.2.2.2.2.2.2.2.2.1)).length:Nat):Int)=stB (m.2.2.2.2.2.2.2.2.2.1,m.2.2.2.2.2.2.2.2.2.2.1) by rw[hb];exact c1,hst.1,hbody,e1,QRb,e2]
  exact hfin
 ·unfold Qjx
  rw[df (show¬((bytesOf m).length:Int)<6 by omega),hbody,show List.drop (((bytesOf m).length:Int) - 4).toNat (bytesOf m)=Y0 (crc c) by rw[hb];exact Qyv _ _ hs4,show XI (QG (Y0 (crc c))) (QG (Y0 (crc c)))=true from QZ _,hS,Qti,df (show¬((bytesOf m).length:Int) - 4 - (k:Int)<(((stB (m.2.2.2.2.2.2.2.2.2.1,m.2.2.2.2.2.2.2.2.2.2.1)).length:Nat):Int) by omega),hbody,c2,hst.2,e3,Qgp]
  exact hfin
theorem QtR {b:List Int}(hb:isB b) (r:Option (Q1×Bool)):Quj b r=Qdy\/∃m,Quj b r=QcP m/\Vt m=true/\bytesOf m=b:=by
 cases r with
 |none=>exact .inl rfl
 |some r=>
  obtain⟨m,bad⟩:=r
  show QiL b m bad=Qdy\/∃m',QiL b m bad=QcP m'/\Vt m'=true/\bytesOf m'=b
  cases bad
  ·by_cases h1:Vt m=true
   ·by_cases h2:XI (QG (bytesOf m)) (QG b)=true
    ·refine .inr ⟨m,by unfold QiL;rw[h1,h2];rfl,h1,Qj2 (QsW m) hb ?_⟩
     rw[QjA]at h2
     exact of_decide_eq_true h2
    ·exact .inl (by unfold QiL;rw[h1,Bool.eq_false_iff.2 h2];rfl)
   ·exact .inl (by unfold QiL;rw[Bool.eq_false_iff.2 h1];rfl)
  ·exact .inl rfl
theorem QzS {b:List Int}(hb:isB b):Qb2 b=Qdy\/∃m,Qb2 b=QcP m/\Vt m=true/\bytesOf m=b:=by
 unfold Qb2
 cases decide ((b.length:Int) - 4<2)
 ·cases XI (QG (List.take 2 b)) (⟨#[82,75]⟩:ByteArray)
  ·exact .inl rfl
  ·exact QtR hb _
 ·exact .inl rfl
theorem Qz5 {b:List Int}(hb:isB b):Qjx b=Qdy\/∃m,Qjx b=QcP m/\Vt m=true/\bytesOf m=b:=by
 unfold Qjx
 cases decide ((b.length:Int)<6)
 ·cases XI (QG (Y0 (crc (body b)))) (QG (List.drop ((b.length:Int) - 4).toNat b))
  ·exact .inl rfl
  ·exact QtR hb _
 ·exact .inl rfl
theorem QvT {b:List Int}(hb:isB b):Qjx b=Qb2 b:=by
 rcases QzS hb with h|⟨m,h,h1,h2⟩
 ·rcases Qz5 hb with h'|⟨m,h',h1,h2⟩
  ·rw[h,h']
  ·rw[<-h2,(Qte h1).1]at h
   exact absurd (congrArg (fun z:vA=>z.2.2.2.2.2.2.2.2.2.2.2.2) h) (by simp[QcP,Qdy])
 ·rw[h,<-h2,(Qte h1).2]
def Qvx (r:vA):Bool:= !r.2.2.2.2.2.2.2.2.2.2.2.2||(decide (r.1=0)||decide (r.1=1))
def QcG (p:QD):Bool:=Qvx (Qb2 p.2.1)
def Qiq (ns:List Qi) (net:List QD) (sd:List QE):Bool:=net.all QcG&&Jo ns net sd
theorem Qo8 {α:Type}(r:vA) (f n:α):(bif r.2.2.2.2.2.2.2.2.2.2.2.2 then(bif !decide (r.1=0)then(bif !decide (r.1=1)then f else n)else n)else n)=bif Qvx r then n else f:=by
 unfold Qvx
 cases r.2.2.2.2.2.2.2.2.2.2.2.2<;>cases decide (r.1=0)<;>cases decide (r.1=1)<;>rfl
theorem QsA (ns:List Qi) (net:List QD) (sd:List QE) (h:smW ns net sd) (hb:∀p∈net,Bs p.2.1) (hl:net.length<=maxLen):xr w (ns,net,sd)=some (Qiq ns net sd):=by
 apply QkL
 have e:=QW net.length (fun i=>Ze wl (net,(net.length:Int),(i:Int),ns,net,sd)) (fun i=>bif (net.drop i).all QcG then .inr (ns,net,sd)else .inl false)
  (fun i hi ih=>by
    apply vu
    simp only[xO,ilt hi,Qo hi,Qj hi,inc hi hl,QQ1,Qxk (hb _ (QRf hi)),QQ0,ih]
    rw[QRa hi,QY20]
    refine(Qo8 (Qb2 net[i].2.1) _ _).trans ?_
    show(bif QcG net[i]then _ else _)=_
    cases QcG net[i]<;>rfl)
  (by
    apply vu
    simp only[xO,Qw,QQ2,QRl,List.all_nil,QQ1])
 simp only[QQ6,QRg]at e
 simp only[Qct,e,QQ0,Qiq]
 cases net.all QcG
 ·rfl
 ·simp only[QQ1,Qp,QY3,Qvn ns net sd h,QQ0,QRd]
theorem QqA (ns:List Qi) (net:List QD) (sd:List QE) (h:smW ns net sd) (hb:∀p∈net,Bs p.2.1) (hl:net.length<=maxLen):xI w (ns,net,sd)=some (Qiq ns net sd):=by
 apply Qld
 have e:=QW net.length (fun i=>Zd wl ((i:Int),ns,net,sd)) (fun i=>bif (net.drop i).all QcG then .inr ()else .inl false)
  (fun i hi ih=>by
    apply vv
    simp only[xV,ilt hi,Qo hi,Qj hi,inc hi hl,QQ1,QvI (hb _ (QRf hi)),QQ0,ih,QvT (hb _ (QRf hi)).isb]
    rw[QRa hi,QY20]
    refine(Qo8 (Qb2 net[i].2.1) _ _).trans ?_
    show(bif QcG net[i]then _ else _)=_
    cases QcG net[i]<;>rfl)
  (by
    apply vv
    simp only[xV,Qw,QQ2,QRl,List.all_nil,QQ1])
 simp only[QQ6,QRg]at e
 simp only[Qco,Qtc ns net sd h,e,QQ0,Qiq]
 cases Jo ns net sd
 ·rw[QY15];rfl
 ·cases net.all QcG<;>rfl
theorem Qtk {α:Type}(f:α->Nat):(l:List α)->(x:α)->x∈l->f x<=Zc f l
 |y::l,x,h=>by
  rw[Zc]
  rcases QRk.1 h with rfl|h
  ·omega
  ·have:=Qtk f l x h;omega
theorem QAG (a0:List Qi) (a1:List QD) (a2:List QE) (ha:K9 Qhg (a0,a1,a2)):V0 w (a0,a1,a2)=some true:=by
 apply Qe5
 have hf:vR (a0,a1,a2):=Qv7 ha
 have hs:=QyH hf
 simp only[qu,Qys a0 a1 a2 1048576 (by omega) (by omega) hf,QQ0]
 by_cases h:(ZH (a0,a1,a2):Int)<=1048576
 ·rw[Yz h,df (by omega),QQ2]
  have hb:∀p∈a1,Bs p.2.1:=fun p hp=>by
   refine⟨fun x hx=> ?_, ?_⟩
   ·have h1:(Lit.int .u8 x).wf=true:=((ha.2.1.2 p hp).2.1.2 x hx).1
    have h2:IntKind.u8.min<=x/\x<=IntKind.u8.max:=by simpa[Lit.wf]using h1
    have e0:IntKind.u8.min=0:=rfl
    have e1:IntKind.u8.max=255:=rfl
    omega
   ·have h1:=Qtk Xm a1 p hp
    have h2:ZH (a0,a1,a2)=YO a0+(a1.length+Zc Xm a1)+YL a2:=rfl
    have h3:Xm p=p.2.1.length:=rfl
    omega
  have hl:=hf.2.1.1
  simp only[Qyu a0 a1 a2 (by omega),QqA _ _ _ hs hb hl,QsA _ _ _ hs hb hl,Qx6 a0 a1 a2 (by omega),QQ0,decide_true,QQ3,QQ2,beq_self_eq_true]
 ·rw[Z8 h,dt (by omega),QQ1]
def post (m:Q1) (net:List QD):List QD:=bif decide ((net.length:Int)<12)then net++[(m.2.2.1,bytesOf m,false)]else net
structure Few (net:List QD):Prop where
 len:net.length<=12
 packs:∀p∈net,p.2.1.length<=3000100
def QtV (r:vA):Q1:=(r.1,r.2.1,r.2.2.1,r.2.2.2.1,r.2.2.2.2.1,r.2.2.2.2.2.1,r.2.2.2.2.2.2.1,r.2.2.2.2.2.2.2.1,r.2.2.2.2.2.2.2.2.1,r.2.2.2.2.2.2.2.2.2.1,r.2.2.2.2.2.2.2.2.2.2.1,r.2.2.2.2.2.2.2.2.2.2.2.1)
def QDn (x:Qi) (r:vA):Qi×List (List Int)×Int:=bif r.2.2.2.2.2.2.2.2.2.2.2.2 then((rcv x (QtV r)).1,(rcv x (QtV r)).2.1.map bytesOf,(rcv x (QtV r)).2.2)else(x,[],1)
def QDe (x:Qi) (b:List Int):Qi×List (List Int)×Int:=QDn x (Qb2 b)
def QAY (p:QD) (ns:List Qi):List Qi:=ns.set p.1.toNat (QDe (nodeAt ns p.1) p.2.1).1
def give (net:List QD):List Int->List Qi->List Qi
 | [],ns=>ns
 |i::l,ns=>give net l (QAY (rd1 QcW net i) ns)
structure All (n:Nat) (ns:List Qi):Prop where
 nodes:∀x∈ns,NOk x
 len:ns.length=n
end Go.Proofs.YtiejfnbmficbmaaGreat.M
