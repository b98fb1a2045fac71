/- What the plain forms that FnExactStep reaches come to: PJoin. No conditions but those that each theorem states. -/
import Derived.Test.YtjenicbpdklpbaaGreatFnExactStepPSem
set_option linter.all false
namespace Go.Proofs.YtjenicbpdklpbaaGreat.M
open Go Go.Eng Go.Proofs
set_option linter.unusedVariables false
theorem XX {s:Qj}(h:QC s=true):smS s:=by
 have:=Kj h
 constructor<;>simp only[maxLen]<;>omega
theorem QcG (a b:Qj) (ha:smS a) (hb:smS b):Zq w (a.1,a.2,b.1,b.2)=some (join a b):=by
 apply QqB
 have e:=Xb 5 (fun i (s:Qj)=>Zr wl ((i:Int),a.1,a.2,b.1,b.2,s.1,s.2)) (fun i s=>(s.1++(List.range' i (5 - i)).flatMap (Qnb a b),s.2++(List.range' i (5 - i)).flatMap (ya a b))) (fun i s=>s.1.length<=i/\s.2.length<=i)
  (fun i hi s hs ih=>by
    apply Qb1
    simp only[jC,QuZ hi,Qwt hi,QQ1,QhA a.1 a.2 _ ha.1,QhA b.1 b.2 _ hb.1,QhI a.1 a.2 _ ha.2,QhI b.1 b.2 _ hb.2,QBo,QQ0]
    rw[Z3 hi,Z3 hi]
    have hE:JJ ((QV (i:Int) a.1).1,(QV (i:Int) a.1).2.1,(QV (i:Int) a.1).2.2.1,(QV (i:Int) a.1).2.2.2.1,(QV (i:Int) a.1).2.2.2.2.1) ((QV (i:Int) b.1).1,(QV (i:Int) b.1).2.1,(QV (i:Int) b.1).2.2.1,(QV (i:Int) b.1).2.2.2.1,(QV (i:Int) b.1).2.2.2.2.1)=zL a b (i:Int):=rfl
    have hF:mxI (Q3 (i:Int) a.2) (Q3 (i:Int) b.2)=Zp a b (i:Int):=rfl
    simp only[hE,hF,Qnb,ya]
    have f1:fits (s.1.length+([((i:Int),zL a b (i:Int))]:List Qd).length) 56=true:=Qu (by simp;omega)
    have f2:fits (s.2.length+([((i:Int),Zp a b (i:Int))]:List Qa).length) 16=true:=Qu (by simp;omega)
    simp only[f1,f2,QQ1]
    cases decide (Zp a b (i:Int)<(zL a b (i:Int)).1)<;>cases decide (0<Zp a b (i:Int))<;>simp only[QQ1,QQ2,QRe]
    ·exact ih s (by omega)
    ·rw[ih (s.1,s.2++[((i:Int),Zp a b (i:Int))]) (by simp;omega)];simp
    ·rw[ih (s.1++[((i:Int),zL a b (i:Int))],s.2) (by simp;omega)];simp
    ·rw[ih (s.1++[((i:Int),zL a b (i:Int))],s.2++[((i:Int),Zp a b (i:Int))]) (by simp;omega)];simp)
  (fun s _=>by
    apply Qb1
    simp[jC]) ([],[]) (by simp)
 simp only[QQ6,QRe,Nat.sub_zero]at e
 simp only[Qf0,e,QQ0,join]
theorem QlU (a b:Int):Kf a b= - Kf b a:=by
 unfold Kf;split<;>split<;>(try split)<;>omega
theorem Qxg:(a b:List UInt8)->Go.Lib.compareBytes a b= - Go.Lib.compareBytes b a
 | [],[]=>by simp[Go.Lib.compareBytes]
 | [],_::_=>by simp[Go.Lib.compareBytes]
 |_::_,[]=>by simp[Go.Lib.compareBytes]
 |a::l,b::m=>by
  have ih:=Qxg l m
  by_cases h:a<b
  ·have h2:¬b<a:=fun e=>UInt8.lt_irrefl _ (UInt8.lt_trans h e)
   simp[Go.Lib.compareBytes,h,h2]
  ·by_cases h2:b<a
   ·simp[Go.Lib.compareBytes,h,h2]
   ·simp only[Go.Lib.compareBytes,h,h2,if_false];exact ih
theorem QAO (x y:XT):Vb x y= - Vb y x:=by
 unfold Vb QrA
 rw[QlU x.1 y.1,QlU x.2.1 y.2.1,QlU x.2.2.1 y.2.2.1,QlU x.2.2.2.1 y.2.2.2.1,Qxg x.2.2.2.2.data.toList y.2.2.2.2.data.toList]
 unfold or5
 repeat' split
 all_goals omega
theorem QE7 {y:XT}(h:XF y=true):JJ (0,0,0,0,ByteArray.empty) y=y:=by
 have:=Qw6 h
 have e:Vb (0,0,0,0,ByteArray.empty) y= -1:=by
  unfold Vb or5
  have:Kf (0:Int) y.1= -1:=by unfold Kf;rw[if_pos (by omega)]
  simp[this]
 unfold JJ;rw[e];rfl
theorem QEe {x:XT}(h:XF x=true):JJ x (0,0,0,0,ByteArray.empty)=x:=by
 have:=Qw6 h
 have e:Vb x (0,0,0,0,ByteArray.empty)=1:=by
  unfold Vb or5
  have:Kf x.1 (0:Int)=1:=by unfold Kf;rw[if_neg (by omega),if_pos (by omega)]
  simp[this]
 unfold JJ;rw[e];rfl
theorem QCu (x y:XT):JJ x y=bif decide (0<Vb y x)then y else x:=by
 unfold JJ
 rw[QAO x y]
 by_cases h:0<Vb y x
 ·rw[if_pos (by omega),dt h];rfl
 ·rw[if_neg (by omega),df h];rfl
theorem Qlb (a b:Qj) (ha:QC a=true) (hb:QC b=true):Yn w (a.1,a.2,b.1,b.2)=some (join a b):=by
 apply QvB
 have h1:=XX ha
 have h2:=XX hb
 have e:=Xb 5 (fun i (s:Qj)=>Qx wl ((i:Int),a.1,a.2,b.1,b.2,s.1,s.2)) (fun i s=>(s.1++(List.range' i (5 - i)).flatMap (Qnb a b),s.2++(List.range' i (5 - i)).flatMap (ya a b))) (fun i s=>s.1.length<=i/\s.2.length<=i)
  (fun i hi s hs ih=>by
    apply QgV
    rw[Z3 hi,Z3 hi]
    have hF:mxI (Q3 (i:Int) a.2) (Q3 (i:Int) b.2)=Zp a b (i:Int):=rfl
    have hr:=QkH ha hb (i:Int)
    have f2:fits (s.2.length+([((i:Int),Zp a b (i:Int))]:List Qa).length) 16=true:=Qu (by simp;omega)
    have fA:∀e:Qd,fits (s.1.length+([e]:List Qd).length) 56=true:=fun e=>Qu (by simp;omega)
    have i0:=ih s (by omega)
    have i1:=ih (s.1,s.2++[((i:Int),Zp a b (i:Int))]) (by simp;omega)
    have i2:=fun e:XT=>ih (s.1++[((i:Int),e)],s.2) (by simp;omega)
    have i3:=fun e:XT=>ih (s.1++[((i:Int),e)],s.2++[((i:Int),Zp a b (i:Int))]) (by simp;omega)
    simp only at i0 i1 i2 i3
    have hx:=QjF ha (i:Int)
    have hy:=QjF hb (i:Int)
    have hE:zL a b (i:Int)=JJ (ZQ (QV (i:Int) a.1)) (ZQ (QV (i:Int) b.1)):=rfl
    simp only[QdF,QuZ hi,Qwt hi,QQ1,Qec a.1 a.2 _ h1.1,Qec b.1 b.2 _ h2.1,QeP a.1 a.2 _ h1.2,QeP b.1 b.2 _ h2.2,QyI,QzZ,QQ0,hF,f2,fA]
    simp only[Qnb,ya]
    generalize zL a b (i:Int)=v at*
    generalize QV (i:Int) a.1=x at*
    generalize QV (i:Int) b.1=y at*
    obtain⟨x1,x2,x3,x4,x5,xb⟩:=x
    obtain⟨y1,y2,y3,y4,y5,yb⟩:=y
    simp only[ZQ]at*
    rcases hx with⟨hx,rfl⟩|⟨hx,rfl⟩<;>rcases hy with⟨hy,rfl⟩|⟨hy,rfl⟩
    ·rw[QCu]at hE
     generalize Vb (y1,y2,y3,y4,y5) (x1,x2,x3,x4,x5)=c at*
     cases hc:decide (0<c)<;>rw[hc]at hE<;>simp only[QQ1,QQ2]at hE<;>subst hE<;>cases decide (0<Zp a b (i:Int))<;>simp only[QQ3,QQ1,QQ2]
     all_goals(cases decide (Zp a b (i:Int)<_)<;>simp only[i0,i1,i2,i3,QRc,QRe,QRv,QQ1,QQ2])
    ·rw[hy,QEe hx]at hE
     subst hE
     cases decide (0<Zp a b (i:Int))<;>simp only[QQ3,QQ4,QQ1,QQ2]
     all_goals(cases decide (Zp a b (i:Int)<_)<;>simp only[i0,i1,i2,i3,QRc,QRe,QRv,QQ1,QQ2])
    ·rw[hx,QE7 hy]at hE
     subst hE
     cases decide (0<Zp a b (i:Int))<;>simp only[QQ3,QQ4,QQ1,QQ2]
     all_goals(cases decide (Zp a b (i:Int)<_)<;>simp only[i0,i1,i2,i3,QRc,QRe,QRv,QQ1,QQ2])
    ·rw[hx,hy]at hE
     have h0:v.1=0:=by
      rcases QwJ (0,0,0,0,ByteArray.empty) (0,0,0,0,ByteArray.empty)with h|h<;>rw[hE,h]
     have h0':decide (Zp a b (i:Int)<v.1)=false:=df (by omega)
     rw[h0']
     cases decide (0<Zp a b (i:Int))<;>simp only[i0,i1,QQ4,QRc,QRe,QRv,QQ1,QQ2])
  (fun s _=>by
    apply QgV
    simp[QdF]) ([],[]) (by simp)
 simp only[QQ6,QRe,Nat.sub_zero]at e
 simp only[Qly,e,QQ0,join]
theorem xU {x:XT}(h:XF x=true):1<=x.1/\x.1<=1000/\0<=x.2.1/\x.2.1<=1/\0<=x.2.2.1/\x.2.2.1<=100000/\0<=x.2.2.2.1/\x.2.2.2.1<=1000/\x.2.2.2.2.size<=8:=by
 simp only[XF,inR,QQ5,QRu]at h
 obtain⟨⟨⟨⟨⟨p1,p2⟩,p3,p4⟩,p5,p6⟩,p7,p8⟩,p9⟩:=h
 omega
theorem Qxd (a:List Qd) (b:List Qa) (id:Int) (h1:a.length<=maxLen) (h2:b.length<=maxLen):vb w (a,b,id)=some (Zn (a,b) id):=by
 apply Qwd
 simp only[Ql7,Zx a b h1 h2,QhA a b _ h1,QhI a b _ h2,QQ0,Zn]
 cases h:QC (a,b)
 ·rfl
 ·rcases QjF h id with⟨he,hb⟩|⟨he,hb⟩
  ·simp only at hb
   have hn:=xU (x:=ZQ (QV id a)) he
   simp only[ZQ]at hn
   rw[hb,w64 (by omega) (by omega)]
   simp only[QQ3,QQ1,QQ2]
   cases decide ((QV id a).2.1=1)<;>rfl
  ·simp only at hb
   rw[hb];rfl
theorem QtN (a:List Qd) (b:List Qa) (id:Int) (h1:a.length<=maxLen) (h2:b.length<=maxLen):j8 w (a,b,id)=some (Zn (a,b) id):=by
 apply QvR
 simp only[Qku,ZG a b h1 h2,Qec a b _ h1,QeP a b _ h2,QQ0,Zn]
 cases h:QC (a,b)
 ·rfl
 ·rcases QjF h id with⟨he,hb⟩|⟨he,hb⟩
  ·simp only at hb
   have hn:=xU (x:=ZQ (QV id a)) he
   simp only[ZQ]at hn
   rw[hb,w64 (by omega) (by omega)]
   simp only[QQ3,QQ1,QQ2]
   by_cases h1:(QV id a).2.1=1
   ·rw[dt h1,df (by omega)];rfl
   ·rw[df h1,dt (by omega)];rfl
  ·simp only at hb
   rw[hb];rfl
theorem QsI (a:List Qd) (b:List Qa) (h1:a.length<=maxLen) (h2:b.length<=maxLen):xC w (a,b)=some (marksOf (a,b)):=by
 apply Qtw
 have e:=Xb 5 (fun i (s:List Qa)=>KZ wl ((i:Int),a,b,s)) (fun i s=>s++(List.range' i (5 - i)).flatMap (Qm7 (a,b))) (fun i s=>s.length<=i)
  (fun i hi s hs ih=>by
    apply QfP
    simp only[QbQ,QuZ hi,Qwt hi,QQ1,Qxd a b _ h1 h2,QQ0]
    rw[Z3 hi]
    simp only[Qm7,Qu (show(s.length+([((i:Int),Zn (a,b) (i:Int))]:List Qa).length)*16<=140737488351232 by simp;omega),QQ1]
    cases decide (0<Zn (a,b) (i:Int))<;>simp only[QQ1,QQ2,QRe]
    ·exact ih s (by omega)
    ·rw[ih _ (by simp;omega)];simp)
  (fun s _=>by
    apply QfP
    simp[QbQ]) [] (by simp)
 simp only[QQ6,QRe,Nat.sub_zero]at e
 simp only[Qi3,e,QQ0,marksOf]
theorem Qrt (a:List Qd) (b:List Qa) (h1:a.length<=maxLen) (h2:b.length<=maxLen):xn w (a,b)=some (marksOf (a,b)):=by
 apply QuG
 have e:=Xb 5 (fun i (s:List Qa)=>KV wl ((i:Int),a,b,s)) (fun i s=>s++(List.range' i (5 - i)).flatMap (Qm7 (a,b))) (fun i s=>s.length<=i)
  (fun i hi s hs ih=>by
    apply Qf2
    simp only[Qct,QuZ hi,Qwt hi,QQ1,QtN a b _ h1 h2,QQ0]
    rw[Z3 hi]
    simp only[Qm7,Qu (show(s.length+([((i:Int),Zn (a,b) (i:Int))]:List Qa).length)*16<=140737488351232 by simp;omega),QQ1]
    cases decide (0<Zn (a,b) (i:Int))<;>simp only[QQ1,QQ2,QRe]
    ·exact ih s (by omega)
    ·rw[ih _ (by simp;omega)];simp)
  (fun s _=>by
    apply Qf2
    simp[Qct]) [] (by simp)
 simp only[QQ6,QRe,Nat.sub_zero]at e
 simp only[QiV,e,QQ0,marksOf]
end Go.Proofs.YtjenicbpdklpbaaGreat.M
