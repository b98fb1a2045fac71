/- What the plain forms that FnExactStep reaches come to: PNode. No conditions but those that each theorem states. -/
import Derived.Test.YtjenicbpdklpbaaGreatFnExactStepPStBytes
set_option linter.all false
namespace Go.Proofs.YtjenicbpdklpbaaGreat.M
open Go Go.Eng Go.Proofs
set_option linter.unusedVariables false
def Zf (g:Zs):Bool:=inR g.1 1 8&&decide (((g.2.2.length:Nat):Int)<=g.1)&&inR g.2.1 0 100000&&decide (g.2.1+((g.2.2.length:Nat):Int)<=100000)&&g.2.2.all QC
theorem ZT {α:Type}{R:Type}(p:α->Bool) (l:List α) (x y:R) {i:Nat}(hi:i<l.length):(if(l.drop i).all p then x else y)=(bif p l[i]then(if(l.drop (i+1)).all p then x else y)else y):=by
 rw[QRa hi,List.all_cons]
 cases p l[i]<;>simp
theorem Qvz {α:Type}{R:Type}(p:α->Bool) (l:List α) (x y:R):(if(l.drop l.length).all p then x else y)=x:=by simp
theorem QdK (a b:Int) (l:List Qj) (hl:l.length<=maxLen) (hs:∀s∈l,s.1.length<=maxLen/\s.2.length<=maxLen):Yt w (a,b,l)=some (Zf (a,b,l)):=by
 apply QxS
 have e:=Q6 l.length (fun i=>ze wl (l,((l.length:Nat):Int),(i:Int),a,b,l)) (fun i=>if(l.drop i).all QC then .inr (a,b,l)else .inl false)
  (fun i hi ih=>by
    apply QjM
    have hx:=hs _ (QRf hi)
    rw[ZT QC l _ _ hi]
    simp only[QgD,ilt hi,Qk hi,Qg hi,inc hi hl,QQ1,Zx _ _ hx.1 hx.2,QQ0,ih]
    cases QC l[i]<;>simp)
  (by
    apply QjM
    simp[QgD])
 simp only[QQ6,QRg]at e
 simp only[QmS,e,QQ0,Xf,Zf]
 cases l.all QC
 ·simp[Qn]
 ·simp only[if_true,Qn,Sum.elim_inr,QRn]
  cases h1:inR a 1 8
  ·simp
  ·by_cases h2:((l.length:Nat):Int)<=a
   ·cases h3:inR b 0 100000
    ·simp
    ·simp[inR]at h1 h3
     rw[w64 (by omega) (by omega)]
     simp[h2]
   ·simp[h2]
theorem QlI (a b:Int) (l:List Qj) (hl:l.length<=maxLen) (hs:∀s∈l,s.1.length<=maxLen/\s.2.length<=maxLen):Vg w (a,b,l)=some (Zf (a,b,l)):=by
 apply QxQ
 have e:=Q6 l.length (fun i=>zc wl ((i:Int),a,b,l)) (fun i=>if(l.drop i).all QC then .inr ()else .inl false)
  (fun i hi ih=>by
    apply Qit
    have hx:=hs _ (QRf hi)
    rw[ZT QC l _ _ hi]
    simp only[Qgz,ilt hi,Qk hi,Qg hi,inc hi hl,QQ1,ZG _ _ hx.1 hx.2,QQ0,ih]
    cases QC l[i]<;>simp)
  (by
    apply Qit
    simp[Qgz])
 simp only[QQ6,QRg]at e
 simp only[Qny,e,QQ0,XB,Zf]
 cases h1:inR a 1 8
 ·simp
 ·by_cases h2:((l.length:Nat):Int)<=a
  ·cases h3:inR b 0 100000
   ·simp[h2]
   ·simp[inR]at h1 h3
    rw[w64 (by omega) (by omega)]
    by_cases h4:b+((l.length:Nat):Int)<=100000
    ·simp only[QQ3,QQ2,df (show¬a<((l.length:Nat):Int) by omega),df (show¬100000<b+((l.length:Nat):Int) by omega),dt h2,dt h4,QRd,QRn]
     cases l.all QC<;>simp[Qn]
    ·simp only[QQ3,QQ2,df (show¬a<((l.length:Nat):Int) by omega),dt (show 100000<b+((l.length:Nat):Int) by omega),df h4,QQ1,Bool.and_false,QRm]
  ·simp only[QQ3,QQ2,dt (show a<((l.length:Nat):Int) by omega),QQ1,df h2,Bool.and_false,QRm]
def Xd (g:Zs):Int:=bif Zf g then g.2.1+((g.2.2.length:Nat):Int)else 0
theorem Qhw {g:Zs}(h:Zf g=true):g.2.2.length<=8/\0<=g.2.1/\g.2.1<=100000/\g.2.1+((g.2.2.length:Nat):Int)<=100000:=by
 simp[Zf,inR]at h;omega
theorem Qll (a b:Int) (l:List Qj) (hl:l.length<=maxLen) (hs:∀s∈l,s.1.length<=maxLen/\s.2.length<=maxLen):Vq w (a,b,l)=some (Xd (a,b,l)):=by
 apply Qww
 simp only[QkG,QdK a b l hl hs,QQ0,Xd]
 cases h:Zf (a,b,l)
 ·simp
 ·have:=Qhw h
  simp only at this
  rw[w64 (by omega) (by omega)];simp
theorem QhO (a b:Int) (l:List Qj) (hl:l.length<=maxLen) (hs:∀s∈l,s.1.length<=maxLen/\s.2.length<=maxLen):qo w (a,b,l)=some (Xd (a,b,l)):=by
 apply Qvg
 simp only[Qks,QlI a b l hl hs,QQ0,Xd]
 cases h:Zf (a,b,l)
 ·simp
 ·have:=Qhw h
  simp only at this
  rw[w64 (by omega) (by omega)];simp
def Yj (v:List Int) (n:Int):Bool:=inR n 1 5&&decide (((v.length:Nat):Int)=n)&&v.all fun x=>inR x 0 100000
theorem Qy1 (v:List Int) (n:Int) (hv:v.length<=maxLen):Qb7 w (v,n)=some (Yj v n):=by
 apply QxO
 have e:=Q6 v.length (fun i=>zb wl (v,n,v,((v.length:Nat):Int),(i:Int))) (fun i=>if(v.drop i).all (fun x=>inR x 0 100000)then .inr (v,n)else .inl false)
  (fun i hi ih=>by
    apply Qh7
    rw[ZT (fun x=>inR x 0 100000) v _ _ hi]
    simp only[QgF,ilt hi,Qk hi,Qg hi,inc hi hv,QQ1,Xf,QQ0,ih]
    cases inR v[i] 0 100000<;>simp)
  (by
    apply Qh7
    simp[QgF])
 simp only[QQ6,QRg]at e
 simp only[QmO,e,QQ0,Xf,Yj]
 cases v.all fun x=>inR x 0 100000
 ·simp[Qn]
 ·simp only[if_true,Qn,Sum.elim_inr,QRn]
  cases inR n 1 5<;>simp
theorem Qxk (v:List Int) (n:Int) (hv:v.length<=maxLen):QaR w (v,n)=some (Yj v n):=by
 apply Qxw
 by_cases h2:((v.length:Nat):Int)=n
 ·subst h2
  have e:=Q6 v.length (fun i=>zj wl (v,((v.length:Nat):Int),(i:Int))) (fun i=>if(v.drop i).all (fun x=>inR x 0 100000)then .inr ()else .inl false)
   (fun i hi ih=>by
     apply Qia
     rw[ZT (fun x=>inR x 0 100000) v _ _ hi]
     simp only[Qgx,ilt hi,Qk hi,Qg hi,inc hi hv,QQ1,XB,QQ0,ih]
     cases inR v[i] 0 100000<;>simp)
   (by
     apply Qia
     simp[Qgx])
  simp only[QQ6,QRg]at e
  simp only[Qdz,e,QQ0,XB,Yj]
  cases inR ((v.length:Nat):Int) 1 5
  ·simp
  ·cases v.all fun x=>inR x 0 100000<;>simp[Qn]
 ·simp only[Qdz,XB,QQ0,Yj,df h2]
  cases inR n 1 5<;>simp
def xR (r:List Int):Bool:=(r.all fun x=>inR x 0 1000)&&decide (((r.length:Nat):Int)=5)
def KI (t:List (List Int)) (n:Int):Bool:=inR n 1 5&&decide (((t.length:Nat):Int)=n)&&t.all xR
theorem QDn (t:List (List Int)) (n:Int) (ht:t.length<=maxLen) (hr:∀r∈t,r.length<=maxLen):Qa3 w (t,n)=some (KI t n):=by
 apply QsU
 have inner:∀(i:Int) (r:List Int),r.length<=maxLen->KX wl (t,n,r,t,((t.length:Nat):Int),i,r,((r.length:Nat):Int),0)=some (if r.all (fun x=>inR x 0 1000)then .inr (t,n,r,t,((t.length:Nat):Int),i)else .inl false):=by
  intro i r hr
  have e:=Q6 r.length (fun k=>KX wl (t,n,r,t,((t.length:Nat):Int),i,r,((r.length:Nat):Int),(k:Int))) (fun k=>if(r.drop k).all (fun x=>inR x 0 1000)then .inr (t,n,r,t,((t.length:Nat):Int),i)else .inl false)
   (fun k hk ih=>by
     apply Qfu
     rw[ZT (fun x=>inR x 0 1000) r _ _ hk]
     simp only[QcM,ilt hk,Qk hk,Qg hk,inc hk hr,QQ1,Xf,QQ0,ih]
     cases inR r[k] 0 1000<;>simp)
   (by
     apply Qfu
     simp[QcM])
  simpa using e
 have e:=Q6 t.length (fun i=>Jw wl (t,n,t,((t.length:Nat):Int),(i:Int))) (fun i=>if(t.drop i).all xR then .inr (t,n)else .inl false)
  (fun i hi ih=>by
    apply Qfd
    rw[ZT xR t _ _ hi]
    have hx:=hr _ (QRf hi)
    simp only[QcF,ilt hi,Qk hi,Qg hi,QQ1,inner _ _ hx,QQ0,xR]
    cases t[i].all fun x=>inR x 0 1000
    ·simp[Qn]
    ·simp only[if_true,Qn,Sum.elim_inr,QRd,inc hi ht,ih]
     cases decide (((t[i].length:Nat):Int)=5)<;>simp)
  (by
    apply Qfd
    simp[QcF])
 simp only[QQ6,QRg]at e
 simp only[Qiq,e,QQ0,Xf,KI]
 cases t.all xR
 ·simp[Qn]
 ·simp only[if_true,Qn,Sum.elim_inr,QRn]
  cases inR n 1 5<;>simp
theorem QAw (t:List (List Int)) (n:Int) (ht:t.length<=maxLen) (hr:∀r∈t,r.length<=maxLen):Qbn w (t,n)=some (KI t n):=by
 apply QuK
 by_cases h2:((t.length:Nat):Int)=n
 ·subst h2
  have inner:∀(i:Nat) (hi:i<t.length),KL wl (t,((t.length:Nat):Int),(i:Int),0)=some (if t[i].all (fun x=>inR x 0 1000)then .inr (t,((t.length:Nat):Int),(i:Int))else .inl false):=by
   intro i hi
   have hx:=hr _ (QRf hi)
   have e:=Q6 t[i].length (fun k=>KL wl (t,((t.length:Nat):Int),(i:Int),(k:Int))) (fun k=>if(t[i].drop k).all (fun x=>inR x 0 1000)then .inr (t,((t.length:Nat):Int),(i:Int))else .inl false)
    (fun k hk ih=>by
      apply Qgi
      rw[ZT (fun x=>inR x 0 1000) t[i] _ _ hk]
      simp only[QaJ,Qk hi,Qg hi,ilt hk,Qk hk,Qg hk,inc hk hx,QQ1,XB,QQ0,ih]
      cases inR t[i][k] 0 1000<;>simp)
    (by
      apply Qgi
      simp only[QaJ,Qk hi,Qg hi,Qm,QQ1,QQ2,Qvz])
   simpa using e
  have e:=Q6 t.length (fun i=>JT wl (t,((t.length:Nat):Int),(i:Int))) (fun i=>if(t.drop i).all xR then .inr ()else .inl false)
   (fun i hi ih=>by
     apply QeZ
     rw[ZT xR t _ _ hi]
     simp only[QbD,ilt hi,Qk hi,Qg hi,QQ1,inner i hi,QQ0,xR]
     cases h5:decide (((t[i].length:Nat):Int)=5)
     ·simp
     ·cases t[i].all fun x=>inR x 0 1000
      ·simp[Qn]
      ·simp only[if_true,Qn,Sum.elim_inr,QRd,QQ3,QQ2,QQ1,inc hi ht,ih])
   (by
     apply QeZ
     simp[QbD])
  simp only[QQ6,QRg]at e
  simp only[vP,e,QQ0,XB,KI]
  cases inR ((t.length:Nat):Int) 1 5
  ·simp
  ·cases t.all xR<;>simp[Qn]
 ·simp only[vP,XB,QQ0,KI,df h2]
  cases inR n 1 5<;>simp
def Qj1:Int->List Int->Int
 |m,[]=>m
 |m,x::l=>Qj1 (mxI m x) l
theorem QBZ (b:Int):(m:Int)->(l:List Int)->(decide (b<Qj1 m l)= !(decide (m<=b)&&l.all fun x=>decide (x<=b)))
 |m,[]=>by
  by_cases h:m<=b
  ·rw[Qj1,dt h,df (show¬b<m by omega)];simp
  ·rw[Qj1,df h,dt (show b<m by omega)];simp
 |m,x::l=>by
  rw[Qj1,QBZ b (mxI m x) l,List.all_cons]
  have:decide (mxI m x<=b)=(decide (m<=b)&&decide (x<=b)):=by
   unfold mxI
   split
   ·by_cases h:x<=b
    ·simp[h];omega
    ·simp[h]
   ·by_cases h:m<=b
    ·simp[h];omega
    ·simp[h]
  rw[this,Bool.and_assoc]
theorem QID (a:Int) (l:List Int) (h:(a::l).length<=maxLen):Ve w (a::l)=some (Qj1 a l):=by
 apply Qoq
 have main:∀n i (m:Int),1<=i->i+n=(a::l).length->ZJ wl (a::l,m,(i:Int))=some (Qj1 m ((a::l).drop i)):=by
  intro n
  induction n with
  |zero=>
   intro i m h1 hi
   apply jy
   have:i=(a::l).length:=by omega
   rw[this]
   simp only[xX,Qm,QQ2,QRl,Qj1]
  |succ n ih=>
   intro i m h1 hi
   have hi':i<(a::l).length:=by omega
   apply jy
   simp only[xX,ilt hi',Qk hi',Qg hi',inc hi' h,QQ1,ih (i+1) _ (by omega) (by omega)]
   rw[QRa hi',Qj1]
 have e:=main l.length 1 a (by omega) (by simp;omega)
 simp only[List.drop_succ_cons,QRg]at e
 have h0:0<(a::l).length:=by simp
 have e0:inb 0 (a::l).length=true:=Qk h0
 have e1:rd1 (0:Int) (a::l) 0=a:=rfl
 have e:ZJ wl (a::l,a,1)=some (Qj1 a l):=e
 simp only[Qan,df (show¬(((a::l).length:Nat):Int)<1 by simp;omega),QQ2,e0,QQ1,e1,e,QQ0]
end Go.Proofs.YtjenicbpdklpbaaGreat.M
