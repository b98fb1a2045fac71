/- What the plain forms that FnExactStep reaches come to: PCopy. No conditions but those that each theorem states. -/
import Derived.Test.YtjenicbpdklpbaaGreatFnExactStepPSafe
set_option linter.all false
namespace Go.Proofs.YtjenicbpdklpbaaGreat.M
open Go Go.Eng Go.Proofs
set_option linter.unusedVariables false
theorem xi (s:Qj) (h:QG s<=4294967296):X4 w s=some s:=by
 obtain⟨a,b⟩:=s
 apply QqE
 simp only[QG,XV,XP]at h
 simp only[Qgb,List.length_nil,QRe,QRo,Qu (show a.length*56<=140737488351232 by omega),Qu (show b.length*16<=140737488351232 by omega),QQ1]
theorem Qaw (s:Qj) (h:QG s<=4294967296):ZY w s=some s:=by
 obtain⟨a,b⟩:=s
 apply Qv0
 simp only[QG,XV,XP]at h
 simp only[QlL,List.length_nil,QRe,QRo,Qu (show a.length*56<=140737488351232 by omega),Qu (show b.length*16<=140737488351232 by omega),QQ1]
theorem Qmn (x:Zi) (h:Zz x<=4294967296):Z4 w x=some x:=by
 obtain⟨a,b⟩:=x
 apply Qr2
 simp only[Zz,QU]at h
 simp only[Qhd,vS a (by omega),QQ0]
theorem Qp1 (x:Zi) (h:Zz x<=4294967296):Kr w x=some x:=by
 obtain⟨a,b⟩:=x
 apply Qvx
 simp only[Zz,QU]at h
 simp only[QkF,List.length_nil,QRe,QRo,Qu (show a.length*8<=140737488351232 by omega),QQ1]
theorem QtI (x:Zs) (h:Z7 x<=4294967296):Kt w x=some x:=by
 obtain⟨a,b,l⟩:=x
 apply Qt6
 simp only[Z7,XY]at h
 have e:=Vm l (fun i out=>J3 wl (l,((l.length:Nat):Int),(i:Int),a,b,out)) (fun out=>(a,b,out))
  (fun i hi out r ho hk=>by
    apply Qf8
    have:=XH QG l i hi
    simp only[Qbv,ilt hi,Qk hi,Qg hi,inc hi (show l.length<=maxLen by simp only[maxLen];omega),QQ1,xi _ (show QG l[i]<=4294967296 by omega),QQ0]
    rw[Qu (by simp[ho];omega)];exact hk)
  (fun out ho=>by
    apply Qf8
    simp only[Qbv,Qm,QQ2])
 simp only[QQ6]at e
 simp only[Qiv,e,QQ0]
theorem Qxi (x:Zs) (h:Z7 x<=4294967296):zy w x=some x:=by
 obtain⟨a,b,l⟩:=x
 apply QvF
 simp only[Z7,XY]at h
 have e:=Vm l (fun i out=>xx wl ((i:Int),a,b,l,a,b,out)) (fun out=>(a,b,out))
  (fun i hi out r ho hk=>by
    apply QgL
    have:=XH QG l i hi
    simp only[QdM,ilt hi,Qk hi,Qg hi,inc hi (show l.length<=maxLen by simp only[maxLen];omega),QQ1,Qaw _ (show QG l[i]<=4294967296 by omega),QQ0]
    rw[Qu (by simp[ho];omega)];exact hk)
  (fun out ho=>by
    apply QgL
    simp only[QdM,Qm,QQ2])
 simp only[QQ6]at e
 simp only[Qls,e,QQ0]
theorem QoX (l:List (List Int)) (h:Xx l<=4294967296):qN w l=some l:=by
 apply QqD
 simp only[Xx]at h
 have e:=Vm l (fun i out=>Va wl (l,((l.length:Nat):Int),(i:Int),out)) (fun out=>out)
  (fun i hi out r ho hk=>by
    apply Qcs
    have:=XH QU l i hi
    simp only[QU]at this
    simp only[jE,ilt hi,Qk hi,Qg hi,inc hi (show l.length<=maxLen by simp only[maxLen];omega),QQ1,vS l[i] (by omega),QQ0]
    rw[Qu (by simp[ho];omega)];exact hk)
  (fun out ho=>by
    apply Qcs
    simp only[jE,Qm,QQ2])
 simp only[QQ6]at e
 simp only[Qgp,e,QQ0]
theorem Qxc (l:List (List Int)) (h:Xx l<=4294967296):vm w l=some l:=by
 apply Qws
 simp only[Xx]at h
 have e:=Vm l (fun i out=>qX wl (l,(i:Int),out)) (fun out=>out)
  (fun i hi out r ho hk=>by
    apply QgY
    have:=XH QU l i hi
    simp only[QU]at this
    simp only[QdV,ilt hi,Qk hi,Qg hi,inc hi (show l.length<=maxLen by simp only[maxLen];omega),QQ1,List.length_nil,QRe,QRo,Qu (show l[i].length*8<=140737488351232 by omega)]
    rw[Qu (by simp[ho];omega)];exact hk)
  (fun out ho=>by
    apply QgY
    simp only[QdV,Qm,QQ2])
 simp only[QQ6]at e
 simp only[Qlv,e,QQ0]
theorem QwR {x:Qb}(h:Q8 x<=4294967296):x.2.2.2.2.2.2.2.2.2.1.length<=4294967296/\x.2.2.2.2.2.2.2.2.2.2.1.length<=4294967296/\x.2.2.2.2.2.2.2.2.2.2.2.2.2.2.1.length<=4294967296/\x.2.2.2.2.2.2.2.2.2.2.2.2.2.2.2.2.2.2.length<=4294967296:=by
 simp only[Q8,QU,Z5,Z6]at h
 omega
theorem Km {x:Qb}(h:Q8 x<=4294967296):QG (x.2.2.1,x.2.2.2.1)<=4294967296/\Zz (x.2.2.2.2.1,x.2.2.2.2.2.1)<=4294967296/\Z7 (x.2.2.2.2.2.2.1,x.2.2.2.2.2.2.2.1,x.2.2.2.2.2.2.2.2.1)<=4294967296/\Xx x.2.2.2.2.2.2.2.2.2.2.2.1<=4294967296:=by
 simp only[Q8]at h
 omega
theorem QqY (x:Qb) (h:Q8 x<=4294967296):ZH w x=some x:=by
 have hl:=QwR h
 have hp:=Km h
 obtain⟨a0,a1,a2,a3,a4,a5,a6,a7,a8,a9,a10,a11,a12,a13,a14,a15,a16,a17,a18⟩:=x
 apply QrL
 obtain⟨h9,h10,h14,h18⟩:=hl
 obtain⟨h2,h4,h6,h11⟩:=hp
 simp only at h9 h10 h14 h18 h2 h4 h6 h11
 simp only[QgO,xi (a2,a3) h2,Qmn (a4,a5) h4,QtI (a6,a7,a8) h6,QoX a11 h11,vS a9 h9,vS a10 h10,Qu (show a14.length*32<=140737488351232 by omega),Qu (show a18.length*24<=140737488351232 by omega),List.length_nil,QRe,QRo,QQ0,QQ1]
theorem QsL (x:Qb) (h:Q8 x<=4294967296):Xq w x=some x:=by
 have hl:=QwR h
 have hp:=Km h
 obtain⟨a0,a1,a2,a3,a4,a5,a6,a7,a8,a9,a10,a11,a12,a13,a14,a15,a16,a17,a18⟩:=x
 apply QtK
 obtain⟨h9,h10,h14,h18⟩:=hl
 obtain⟨h2,h4,h6,h11⟩:=hp
 simp only at h9 h10 h14 h18 h2 h4 h6 h11
 simp only[QjJ,Qaw (a2,a3) h2,Qp1 (a4,a5) h4,Qxi (a6,a7,a8) h6,Qxc a11 h11,Qu (show a9.length*8<=140737488351232 by omega),Qu (show a10.length*8<=140737488351232 by omega),Qu (show a14.length*32<=140737488351232 by omega),Qu (show a18.length*24<=140737488351232 by omega),List.length_nil,QRe,QRo,QQ0,QQ1]
theorem Qj6 {α:Type}(l:List α) (k:Int) (h0:0<=k) (h:k<=(l.length:Int)):List.take (Int.toNat ((l.length:Int) - k)) (List.drop (Int.toNat k) l)=l.drop k.toNat:=by
 rw[List.take_of_length_le]
 rw[List.length_drop];omega
theorem QBp (p:Qs) (h:Xe p<=4294967296):vG w p=some p:=by
 obtain⟨a,b,c⟩:=p
 apply QrW
 simp only[Xe,Zt]at h
 have:=Qax [b] (by simp[maxLen]) (by simp;omega)
 simp only[Qhu,this,QQ0];simp
theorem QCT (p:Qs) (h:Xe p<=4294967296):Qcy w p=some p:=by
 obtain⟨a,b,c⟩:=p
 apply QuH
 simp only[Xe,Zt]at h
 simp only[Qj9,List.length_nil,QRe,QRo,Qu (show b.length*1<=140737488351232 by omega),QQ1]
theorem QpJ (ns:List Qb) (net:List Qs) (sd:List Qq) (h:Xj (ns,net,sd)<=4294967296):Vz w (ns,net,sd)=some (ns,net,sd):=by
 apply QqM
 simp only[Xj,X0,XC,X5]at h
 have e0:=Vm ns (fun i out=>Vc wl (ns,((ns.length:Nat):Int),(i:Int),ns,net,sd,out,[],[])) (fun out=>(ns,net,sd,out,[],[]))
  (fun i hi out r ho hk=>by
    apply Qbs
    have:=XH Q8 ns i hi
    simp only[jS,ilt hi,Qk hi,Qg hi,inc hi (show ns.length<=maxLen by simp only[maxLen];omega),QQ1,QqY _ (show Q8 ns[i]<=4294967296 by omega),QQ0]
    rw[Qu (by simp[ho];omega)];exact hk)
  (fun out ho=>by
    apply Qbs
    simp only[jS,Qm,QQ2])
 have e2:=Vm net (fun i out=>Vd wl (net,((net.length:Nat):Int),(i:Int),ns,net,sd,ns,out,[])) (fun out=>(ns,net,sd,ns,out,[]))
  (fun i hi out r ho hk=>by
    apply QbA
    have:=XH Xe net i hi
    simp only[jO,ilt hi,Qk hi,Qg hi,inc hi (show net.length<=maxLen by simp only[maxLen];omega),QQ1,QBp _ (show Xe net[i]<=4294967296 by omega),QQ0]
    rw[Qu (by simp[ho];omega)];exact hk)
  (fun out ho=>by
    apply QbA
    simp only[jO,Qm,QQ2])
 have e4:=Vm sd (fun i out=>Vf wl (sd,((sd.length:Nat):Int),(i:Int),ns,net,out)) (fun out=>(ns,net,out))
  (fun i hi out r ho hk=>by
    apply Qcg
    have:=XH Xt sd i hi
    have:QG sd[i].2<=4294967296:=by simp only[Xt]at this;exact Nat.le_trans this (by omega)
    simp only[jL,ilt hi,Qk hi,Qg hi,inc hi (show sd.length<=maxLen by simp only[maxLen];omega),QQ1,xi _ this,QQ0]
    rw[Qu (by simp[ho];omega)];exact hk)
  (fun out ho=>by
    apply Qcg
    simp only[jL,Qm,QQ2])
 simp only[QQ6]at e0 e2 e4
 simp only[Qfq,e0,e2,e4,QQ0]
theorem QsE (ns:List Qb) (net:List Qs) (sd:List Qq) (h:Xj (ns,net,sd)<=4294967296):xA w (ns,net,sd)=some (ns,net,sd):=by
 apply Qta
 simp only[Xj,X0,XC,X5]at h
 have e0:=Vm ns (fun i out=>J0 wl ((i:Int),ns,net,sd,out,[],[])) (fun out=>(ns,net,sd,out,[],[]))
  (fun i hi out r ho hk=>by
    apply QfC
    have:=XH Q8 ns i hi
    simp only[Qcm,ilt hi,Qk hi,Qg hi,inc hi (show ns.length<=maxLen by simp only[maxLen];omega),QQ1,QsL _ (show Q8 ns[i]<=4294967296 by omega),QQ0]
    rw[Qu (by simp[ho];omega)];exact hk)
  (fun out ho=>by
    apply QfC
    simp only[Qcm,Qm,QQ2])
 have e2:=Vm net (fun i out=>JF wl ((i:Int),ns,net,sd,ns,out,[])) (fun out=>(ns,net,sd,ns,out,[]))
  (fun i hi out r ho hk=>by
    apply Qgg
    have:=XH Xe net i hi
    simp only[Qbo,ilt hi,Qk hi,Qg hi,inc hi (show net.length<=maxLen by simp only[maxLen];omega),QQ1,QCT _ (show Xe net[i]<=4294967296 by omega),QQ0]
    rw[Qu (by simp[ho];omega)];exact hk)
  (fun out ho=>by
    apply Qgg
    simp only[Qbo,Qm,QQ2])
 have e4:=Vm sd (fun i out=>J1 wl ((i:Int),ns,net,sd,ns,net,out)) (fun out=>(ns,net,out))
  (fun i hi out r ho hk=>by
    apply Qfw
    have:=XH Xt sd i hi
    have:QG sd[i].2<=4294967296:=by simp only[Xt]at this;exact Nat.le_trans this (by omega)
    simp only[QcX,ilt hi,Qk hi,Qg hi,inc hi (show sd.length<=maxLen by simp only[maxLen];omega),QQ1,Qaw _ this,QQ0]
    rw[Qu (by simp[ho];omega)];exact hk)
  (fun out ho=>by
    apply Qfw
    simp only[QcX,Qm,QQ2])
 simp only[QQ6]at e0 e2 e4
 simp only[QiO,e0,e2,e4,QQ0]
end Go.Proofs.YtjenicbpdklpbaaGreat.M
