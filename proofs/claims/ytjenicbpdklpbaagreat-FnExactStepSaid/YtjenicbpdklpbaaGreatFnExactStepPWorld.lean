/- What the plain forms that FnExactStep reaches come to: PWorld. No conditions but those that each theorem states. -/
import Derived.Test.YtjenicbpdklpbaaGreatFnExactStepPPlain
set_option linter.all false
namespace Go.Proofs.YtjenicbpdklpbaaGreat.M
open Go Go.Eng Go.Proofs
set_option linter.unusedVariables false
def VA (x:Qb):Bool:=Qju x.1 x.2.1 x.2.2.1 x.2.2.2.1 x.2.2.2.2.1 x.2.2.2.2.2.1 x.2.2.2.2.2.2.1 x.2.2.2.2.2.2.2.1 x.2.2.2.2.2.2.2.2.1 x.2.2.2.2.2.2.2.2.2.1 x.2.2.2.2.2.2.2.2.2.2.1 x.2.2.2.2.2.2.2.2.2.2.2.1 x.2.2.2.2.2.2.2.2.2.2.2.2.1 x.2.2.2.2.2.2.2.2.2.2.2.2.2.1 x.2.2.2.2.2.2.2.2.2.2.2.2.2.2.1 x.2.2.2.2.2.2.2.2.2.2.2.2.2.2.2.1 x.2.2.2.2.2.2.2.2.2.2.2.2.2.2.2.2.1 x.2.2.2.2.2.2.2.2.2.2.2.2.2.2.2.2.2.1 x.2.2.2.2.2.2.2.2.2.2.2.2.2.2.2.2.2.2
def Qzo (x:Qb):Prop:=smN x.2.2.1 x.2.2.2.1 x.2.2.2.2.1 x.2.2.2.2.2.2.2.2.1 x.2.2.2.2.2.2.2.2.2.1 x.2.2.2.2.2.2.2.2.2.2.1 x.2.2.2.2.2.2.2.2.2.2.2.1 x.2.2.2.2.2.2.2.2.2.2.2.2.2.2.1 x.2.2.2.2.2.2.2.2.2.2.2.2.2.2.2.2.2.2
theorem Qze (x:Qb) (h:Qzo x):ZE w x=some (VA x):=QEw _ _ _ _ _ _ _ _ _ _ _ _ _ _ _ _ _ _ _ h
theorem Qxe (x:Qb) (h:Qzo x):Yp w x=some (VA x):=QDq _ _ _ _ _ _ _ _ _ _ _ _ _ _ _ _ _ _ _ h
theorem QGf (x:Qb) (h:Qh1 x):Qzo x:=by
 simp only[Qh1,yl,Qor,QlM,QmJ,QhW,QpF,Qpi,Qr3,Qr7,QrK]at h
 obtain⟨⟨⟨h2,_⟩,h3⟩,h4,⟨h8,h8'⟩,h9,h10,⟨h11,h11'⟩,h14,h18⟩:=h
 exact⟨h2,h3,h4,h8,fun s hs=>⟨(h8' s hs).1.1,(h8' s hs).2⟩,h9,h10,h11,h11',h14,h18⟩
def Kk (n:Int):Nat->List Qb->Bool
 |_,[]=>true
 |i,x::l=>(VA x&&(decide (x.2.1=n)&&decide (x.1=(i:Int))))&&Kk n (i+1) l
def Qkz (n:Int) (p:Qs):Bool:=inR p.1 0 (n - 1)
def QbM (n:Int) (x:Qq):Bool:=inR x.1 0 (n - 1)&&QC x.2
def ZU (ns:List Qb) (net:List Qs) (sd:List Qq):Bool:=inR ((ns.length:Nat):Int) 1 5&&(!decide (12<((net.length:Nat):Int))&&(!decide (40<((sd.length:Nat):Int))&&(Kk (ns.length:Nat) 0 ns&&(net.all (Qkz (ns.length:Nat))&&sd.all (QbM (ns.length:Nat))))))
def smW (ns:List Qb) (net:List Qs) (sd:List Qq):Prop:=ns.length<=maxLen/\(∀x∈ns,Qzo x)/\net.length<=maxLen/\(∀p∈net,p.2.1.length<=maxLen)/\sd.length<=maxLen/\∀x∈sd,x.2.1.length<=maxLen/\x.2.2.length<=maxLen
theorem QE9 {ns:List Qb}{net:List Qs}{sd:List Qq}(h:QdA (ns,net,sd)):smW ns net sd:=by
 simp only[QdA,Qsf,Qsp,QrO]at h
 refine⟨h.1.1,fun x hx=>QGf x (h.1.2 x hx),h.2.1.1,fun p hp=> ?_,h.2.2.1,fun x hx=> ?_⟩
 ·have:=h.2.1.2 p hp
  simpa only[Qmz,Qsk]using this
 ·have:=h.2.2.2 x hx
  simp only[QmA,yl,Qor,QlM]at this
  exact⟨this.1.1,this.2⟩
theorem Qra {R:Type}(n:Int) (l:List Qb) (x y:R) {i:Nat}(hi:i<l.length):(if Kk n i (l.drop i)then x else y)=(bif VA l[i]then(bif decide (l[i].2.1=n)then(bif decide (l[i].1=(i:Int))then(if Kk n (i+1) (l.drop (i+1))then x else y)else y)else y)else y):=by
 rw[QRa hi,Kk]
 cases VA l[i]<;>cases decide (l[i].2.1=n)<;>cases decide (l[i].1=(i:Int))<;>simp
theorem Qn4 (ns:List Qb) (net:List Qs) (sd:List Qq) (i:Int) (h:ns.length<=maxLen):VH w (ns,net,sd,i)=some (inR i 0 (((ns.length:Nat):Int) - 1)):=by
 apply Qs6
 simp only[maxLen]at h
 have:wR (((ns.length:Nat):Int) - 1)=((ns.length:Nat):Int) - 1:=w64 (by omega) (by omega)
 simp only[QjA,this,Xf,QQ0]
theorem QyD {A S R:Type}(c:Bool) (s:S) (r:A) (f:A->Option R) (g:S->Option R):Qn (if c=true then Sum.inr s else Sum.inl r) f g=bif c then g s else f r:=by cases c<;>rfl
theorem QuF (ns:List Qb) (net:List Qs) (sd:List Qq) (h:smW ns net sd):ym w (ns,net,sd)=some (ZU ns net sd):=by
 apply QtE
 obtain⟨h1,h2,h3,h4,h5,h6⟩:=h
 have e1:=Q6 ns.length (fun i=>Jo wl (ns,((ns.length:Nat):Int),(i:Int),ns,net,sd)) (fun i=>if Kk (ns.length:Nat) i (ns.drop i)then .inr (ns,net,sd)else .inl false)
  (fun i hi ih=>by
    apply Qgk
    simp only[Qa2,ilt hi,Qk hi,Qg hi,inc hi h1,QQ1,ih,Qze _ (h2 _ (QRf hi)),QQ0,Qra _ _ _ _ hi]
    cases VA ns[i]<;>cases decide (ns[i].2.1=((ns.length:Nat):Int))<;>cases decide (ns[i].1=(i:Int))<;>simp)
  (by
    apply Qgk
    simp[Qa2,Kk])
 have e2:=Q6 net.length (fun i=>Jv wl (net,((net.length:Nat):Int),(i:Int),ns,net,sd)) (fun i=>if(net.drop i).all (Qkz (ns.length:Nat))then .inr (ns,net,sd)else .inl false)
  (fun i hi ih=>by
    apply QfL
    simp only[QaM,ilt hi,Qk hi,Qg hi,inc hi h3,QQ1,ih,Qn4 _ _ _ _ h1,QQ0,ZT _ _ _ _ hi,Qkz]
    cases inR net[i].1 0 (((ns.length:Nat):Int) - 1)<;>simp)
  (by
    apply QfL
    simp[QaM])
 have e3:=Q6 sd.length (fun i=>JK wl (sd,((sd.length:Nat):Int),(i:Int),ns,net,sd)) (fun i=>if(sd.drop i).all (QbM (ns.length:Nat))then .inr ()else .inl false)
  (fun i hi ih=>by
    apply QfF
    have hs:=h6 _ (QRf hi)
    simp only[QcT,ilt hi,Qk hi,Qg hi,inc hi h5,QQ1,ih,Qn4 _ _ _ _ h1,Zx _ _ hs.1 hs.2,QQ0,ZT _ _ _ _ hi,QbM]
    cases inR sd[i].1 0 (((ns.length:Nat):Int) - 1)<;>cases QC sd[i].2<;>simp)
  (by
    apply QfF
    simp[QcT])
 simp only[QQ6,QRg]at e1 e2 e3
 simp only[QiE,Xf,e1,e2,e3,QQ0,QyD,ZU]
 cases inR ((ns.length:Nat):Int) 1 5<;>cases decide (12<((net.length:Nat):Int))<;>cases decide (40<((sd.length:Nat):Int))<;>cases Kk (ns.length:Nat) 0 ns<;>cases net.all (Qkz (ns.length:Nat))<;>cases sd.all (QbM (ns.length:Nat))<;>rfl
theorem Qq6 (ns:List Qb) (net:List Qs) (sd:List Qq) (h:smW ns net sd):zY w (ns,net,sd)=some (ZU ns net sd):=by
 apply Qs9
 obtain⟨h1,h2,h3,h4,h5,h6⟩:=h
 have hw:wR (((ns.length:Nat):Int) - 1)=((ns.length:Nat):Int) - 1:=by simp only[maxLen]at h1;exact w64 (by omega) (by omega)
 have e1:=Q6 ns.length (fun i=>J5 wl (((ns.length:Nat):Int),(i:Int),ns,net,sd)) (fun i=>if Kk (ns.length:Nat) i (ns.drop i)then .inr (((ns.length:Nat):Int),ns,net,sd)else .inl false)
  (fun i hi ih=>by
    apply QfR
    simp only[QcD,ilt hi,Qk hi,Qg hi,inc hi h1,QQ1,ih,Qxe _ (h2 _ (QRf hi)),QQ0,Qra _ _ _ _ hi]
    cases VA ns[i]<;>cases decide (ns[i].2.1=((ns.length:Nat):Int))<;>cases decide (ns[i].1=(i:Int))<;>simp)
  (by
    apply QfR
    simp[QcD,Kk])
 have e2:=Q6 net.length (fun i=>qf wl (((ns.length:Nat):Int),(i:Int),ns,net,sd)) (fun i=>if(net.drop i).all (Qkz (ns.length:Nat))then .inr (((ns.length:Nat):Int),ns,net,sd)else .inl false)
  (fun i hi ih=>by
    apply Qga
    simp only[QcU,ilt hi,Qk hi,Qg hi,inc hi h3,QQ1,ih,hw,XB,QQ0,ZT _ _ _ _ hi,Qkz]
    cases inR net[i].1 0 (((ns.length:Nat):Int) - 1)<;>simp)
  (by
    apply Qga
    simp[QcU])
 have e3:=Q6 sd.length (fun i=>Jp wl (((ns.length:Nat):Int),(i:Int),ns,net,sd)) (fun i=>if(sd.drop i).all (QbM (ns.length:Nat))then .inr ()else .inl false)
  (fun i hi ih=>by
    apply Qfn
    have hs:=h6 _ (QRf hi)
    simp only[Qbc,ilt hi,Qk hi,Qg hi,inc hi h5,QQ1,ih,hw,XB,ZG _ _ hs.1 hs.2,QQ0,ZT _ _ _ _ hi,QbM]
    cases inR sd[i].1 0 (((ns.length:Nat):Int) - 1)<;>cases QC sd[i].2<;>simp)
  (by
    apply Qfn
    simp[Qbc])
 simp only[QQ6,QRg]at e1 e2 e3
 simp only[Qje,XB,e1,e2,e3,QQ0,QyD,ZU]
 cases inR ((ns.length:Nat):Int) 1 5<;>cases decide (12<((net.length:Nat):Int))<;>cases decide (40<((sd.length:Nat):Int))<;>cases Kk (ns.length:Nat) 0 ns<;>cases net.all (Qkz (ns.length:Nat))<;>cases sd.all (QbM (ns.length:Nat))<;>rfl
end Go.Proofs.YtjenicbpdklpbaaGreat.M
