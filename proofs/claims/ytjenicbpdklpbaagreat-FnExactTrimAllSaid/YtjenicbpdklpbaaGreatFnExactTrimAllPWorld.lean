/- What the plain forms that FnExactTrimAll reaches come to: PWorld. No conditions but those that each theorem states. -/
import Derived.Test.YtjenicbpdklpbaaGreatFnExactTrimAllPNode2
set_option linter.all false
namespace Go.Proofs.YtjenicbpdklpbaaGreat.M
open Go Go.Eng Go.Proofs
set_option linter.unusedVariables false
def nodeOkT (x:XNode):Bool:=nodeOk x.1 x.2.1 x.2.2.1 x.2.2.2.1 x.2.2.2.2.1 x.2.2.2.2.2.1 x.2.2.2.2.2.2.1 x.2.2.2.2.2.2.2.1 x.2.2.2.2.2.2.2.2.1 x.2.2.2.2.2.2.2.2.2.1 x.2.2.2.2.2.2.2.2.2.2.1 x.2.2.2.2.2.2.2.2.2.2.2.1 x.2.2.2.2.2.2.2.2.2.2.2.2.1 x.2.2.2.2.2.2.2.2.2.2.2.2.2.1 x.2.2.2.2.2.2.2.2.2.2.2.2.2.2.1 x.2.2.2.2.2.2.2.2.2.2.2.2.2.2.2.1 x.2.2.2.2.2.2.2.2.2.2.2.2.2.2.2.2.1 x.2.2.2.2.2.2.2.2.2.2.2.2.2.2.2.2.2.1 x.2.2.2.2.2.2.2.2.2.2.2.2.2.2.2.2.2.2
def smNT (x:XNode):Prop:=smN x.2.2.1 x.2.2.2.1 x.2.2.2.2.1 x.2.2.2.2.2.2.2.2.1 x.2.2.2.2.2.2.2.2.2.1 x.2.2.2.2.2.2.2.2.2.2.1 x.2.2.2.2.2.2.2.2.2.2.2.1 x.2.2.2.2.2.2.2.2.2.2.2.2.2.2.1 x.2.2.2.2.2.2.2.2.2.2.2.2.2.2.2.2.2.2
theorem NodeOk_e (x:XNode) (h:smNT x):impl_NodeOk w x=some (nodeOkT x):=NodeOk_ok _ _ _ _ _ _ _ _ _ _ _ _ _ _ _ _ _ _ _ h
theorem sNodeOk_e (x:XNode) (h:smNT x):spec_NodeOk w x=some (nodeOkT x):=sNodeOk_ok _ _ _ _ _ _ _ _ _ _ _ _ _ _ _ _ _ _ _ h
theorem ft_nodeT (x:XNode) (h:ft_Node x):smNT x:=by
 simp only[ft_Node,ft_State,ft_ItemS,ft_FloorS,ft_Tree,ft_IntS,ft_Log,ft_StateS,ft_IntSS,ft_SessS,ft_RiseS]at h
 obtain⟨⟨⟨h2,_⟩,h3⟩,h4,⟨h8,h8'⟩,h9,h10,⟨h11,h11'⟩,h14,h18⟩:=h
 exact⟨h2,h3,h4,h8,fun s hs=>⟨(h8' s hs).1.1,(h8' s hs).2⟩,h9,h10,h11,h11',h14,h18⟩
def nodesOk (n:Int):Nat→List XNode→Bool
 |_,[]=>true
 |i,x::l=>(nodeOkT x&&(decide (x.2.1=n)&&decide (x.1=(i:Int))))&&nodesOk n (i+1) l
def netOk (n:Int) (p:XPack):Bool:=inR p.1 0 (n - 1)
def saidOk (n:Int) (x:XSaid):Bool:=inR x.1 0 (n - 1)&&stOk x.2
def worldOk (ns:List XNode) (net:List XPack) (sd:List XSaid):Bool:=inR ((ns.length:Nat):Int) 1 5&&(!decide (12<((net.length:Nat):Int))&&(!decide (40<((sd.length:Nat):Int))&&(nodesOk (ns.length:Nat) 0 ns&&(net.all (netOk (ns.length:Nat))&&sd.all (saidOk (ns.length:Nat))))))
def smW (ns:List XNode) (net:List XPack) (sd:List XSaid):Prop:=ns.length≤maxLen∧(∀x∈ns,smNT x)∧net.length≤maxLen∧(∀p∈net,p.2.1.length≤maxLen)∧sd.length≤maxLen∧∀x∈sd,x.2.1.length≤maxLen∧x.2.2.length≤maxLen
theorem ft_world {ns:List XNode}{net:List XPack}{sd:List XSaid}(h:ft_World (ns,net,sd)):smW ns net sd:=by
 simp only[ft_World,ft_NodeS,ft_PackS,ft_SaidS]at h
 refine⟨h.1.1,fun x hx=>ft_nodeT x (h.1.2 x hx),h.2.1.1,fun p hp=> ?_,h.2.2.1,fun x hx=> ?_⟩
 ·have:=h.2.1.2 p hp
  simpa only[ft_Pack,ft_ByteS]using this
 ·have:=h.2.2.2 x hx
  simp only[ft_Said,ft_State,ft_ItemS,ft_FloorS]at this
  exact⟨this.1.1,this.2⟩
theorem nodesOk_ite {R:Type}(n:Int) (l:List XNode) (x y:R) {i:Nat}(hi:i<l.length):(if nodesOk n i (l.drop i)then x else y)=(bif nodeOkT l[i]then(bif decide (l[i].2.1=n)then(bif decide (l[i].1=(i:Int))then(if nodesOk n (i+1) (l.drop (i+1))then x else y)else y)else y)else y):=by
 rw[List.drop_eq_getElem_cons hi,nodesOk]
 cases nodeOkT l[i]<;>cases decide (l[i].2.1=n)<;>cases decide (l[i].1=(i:Int))<;>simp
theorem lenN {ns:List XNode}(h:inR ((ns.length:Nat):Int) 1 5=true):IntKind.wrap .i64 (((ns.length:Nat):Int) - 1)=((ns.length:Nat):Int) - 1:=by
 simp[inR]at h
 rw[w64 (by omega) (by omega)]
theorem hasNode_ok (ns:List XNode) (net:List XPack) (sd:List XSaid) (i:Int) (h:ns.length≤maxLen):impl_hasNode w (ns,net,sd,i)=some (inR i 0 (((ns.length:Nat):Int) - 1)):=by
 apply impl_hasNode_of
 simp only[maxLen]at h
 have:IntKind.wrap .i64 (((ns.length:Nat):Int) - 1)=((ns.length:Nat):Int) - 1:=w64 (by omega) (by omega)
 simp only[impl_hasNode_raw,this,within_ok,Option.bind_some]
theorem and_ite {R:Type}(a b:Bool) (x y:R):(bif a then(bif b then x else y)else y)=bif a&&b then x else y:=by cases a<;>rfl
theorem not_ite {R:Type}(a:Bool) (x y:R):(bif !a then x else y)=bif a then y else x:=by cases a<;>rfl
theorem elim_ite {A S R:Type}(c:Bool) (s:S) (r:A) (f:A→Option R) (g:S→Option R):elimS (if c=true then Sum.inr s else Sum.inl r) f g=bif c then g s else f r:=by cases c<;>rfl
theorem WorldOk_ok (ns:List XNode) (net:List XPack) (sd:List XSaid) (h:smW ns net sd):impl_WorldOk w (ns,net,sd)=some (worldOk ns net sd):=by
 apply impl_WorldOk_of
 obtain⟨h1,h2,h3,h4,h5,h6⟩:=h
 have e1:=loop_ix ns.length (fun i=>impl_WorldOk_k0 wl (ns,((ns.length:Nat):Int),(i:Int),ns,net,sd)) (fun i=>if nodesOk (ns.length:Nat) i (ns.drop i)then .inr (ns,net,sd)else .inl false)
  (fun i hi ih=>by
    apply impl_WorldOk_l0_of
    simp only[impl_WorldOk_l0,ilt hi,inb_of hi,rd1_get hi,inc hi h1,cond_true,ih,NodeOk_e _ (h2 _ (List.getElem_mem hi)),Option.bind_some,nodesOk_ite _ _ _ _ hi]
    cases nodeOkT ns[i]<;>cases decide (ns[i].2.1=((ns.length:Nat):Int))<;>cases decide (ns[i].1=(i:Int))<;>simp)
  (by
    apply impl_WorldOk_l0_of
    simp[impl_WorldOk_l0,nodesOk])
 have e2:=loop_ix net.length (fun i=>impl_WorldOk_k2 wl (net,((net.length:Nat):Int),(i:Int),ns,net,sd)) (fun i=>if(net.drop i).all (netOk (ns.length:Nat))then .inr (ns,net,sd)else .inl false)
  (fun i hi ih=>by
    apply impl_WorldOk_l2_of
    simp only[impl_WorldOk_l2,ilt hi,inb_of hi,rd1_get hi,inc hi h3,cond_true,ih,hasNode_ok _ _ _ _ h1,Option.bind_some,all_ite _ _ _ _ hi,netOk]
    cases inR net[i].1 0 (((ns.length:Nat):Int) - 1)<;>simp)
  (by
    apply impl_WorldOk_l2_of
    simp[impl_WorldOk_l2])
 have e3:=loop_ix sd.length (fun i=>impl_WorldOk_k4 wl (sd,((sd.length:Nat):Int),(i:Int),ns,net,sd)) (fun i=>if(sd.drop i).all (saidOk (ns.length:Nat))then .inr ()else .inl false)
  (fun i hi ih=>by
    apply impl_WorldOk_l4_of
    have hs:=h6 _ (List.getElem_mem hi)
    simp only[impl_WorldOk_l4,ilt hi,inb_of hi,rd1_get hi,inc hi h5,cond_true,ih,hasNode_ok _ _ _ _ h1,StateOk_ok _ _ hs.1 hs.2,Option.bind_some,all_ite _ _ _ _ hi,saidOk]
    cases inR sd[i].1 0 (((ns.length:Nat):Int) - 1)<;>cases stOk sd[i].2<;>simp)
  (by
    apply impl_WorldOk_l4_of
    simp[impl_WorldOk_l4])
 simp only[Int.natCast_zero,List.drop_zero]at e1 e2 e3
 simp only[impl_WorldOk_raw,within_ok,e1,e2,e3,Option.bind_some,elim_ite,worldOk]
 cases inR ((ns.length:Nat):Int) 1 5<;>cases decide (12<((net.length:Nat):Int))<;>cases decide (40<((sd.length:Nat):Int))<;>cases nodesOk (ns.length:Nat) 0 ns<;>cases net.all (netOk (ns.length:Nat))<;>cases sd.all (saidOk (ns.length:Nat))<;>rfl
theorem sWorldOk_ok (ns:List XNode) (net:List XPack) (sd:List XSaid) (h:smW ns net sd):spec_WorldOk w (ns,net,sd)=some (worldOk ns net sd):=by
 apply spec_WorldOk_of
 obtain⟨h1,h2,h3,h4,h5,h6⟩:=h
 have hw:IntKind.wrap .i64 (((ns.length:Nat):Int) - 1)=((ns.length:Nat):Int) - 1:=by simp only[maxLen]at h1;exact w64 (by omega) (by omega)
 have e1:=loop_ix ns.length (fun i=>spec_WorldOk_k0 wl (((ns.length:Nat):Int),(i:Int),ns,net,sd)) (fun i=>if nodesOk (ns.length:Nat) i (ns.drop i)then .inr (((ns.length:Nat):Int),ns,net,sd)else .inl false)
  (fun i hi ih=>by
    apply spec_WorldOk_l0_of
    simp only[spec_WorldOk_l0,ilt hi,inb_of hi,rd1_get hi,inc hi h1,cond_true,ih,sNodeOk_e _ (h2 _ (List.getElem_mem hi)),Option.bind_some,nodesOk_ite _ _ _ _ hi]
    cases nodeOkT ns[i]<;>cases decide (ns[i].2.1=((ns.length:Nat):Int))<;>cases decide (ns[i].1=(i:Int))<;>simp)
  (by
    apply spec_WorldOk_l0_of
    simp[spec_WorldOk_l0,nodesOk])
 have e2:=loop_ix net.length (fun i=>spec_WorldOk_k2 wl (((ns.length:Nat):Int),(i:Int),ns,net,sd)) (fun i=>if(net.drop i).all (netOk (ns.length:Nat))then .inr (((ns.length:Nat):Int),ns,net,sd)else .inl false)
  (fun i hi ih=>by
    apply spec_WorldOk_l2_of
    simp only[spec_WorldOk_l2,ilt hi,inb_of hi,rd1_get hi,inc hi h3,cond_true,ih,hw,l1In_ok,Option.bind_some,all_ite _ _ _ _ hi,netOk]
    cases inR net[i].1 0 (((ns.length:Nat):Int) - 1)<;>simp)
  (by
    apply spec_WorldOk_l2_of
    simp[spec_WorldOk_l2])
 have e3:=loop_ix sd.length (fun i=>spec_WorldOk_k4 wl (((ns.length:Nat):Int),(i:Int),ns,net,sd)) (fun i=>if(sd.drop i).all (saidOk (ns.length:Nat))then .inr ()else .inl false)
  (fun i hi ih=>by
    apply spec_WorldOk_l4_of
    have hs:=h6 _ (List.getElem_mem hi)
    simp only[spec_WorldOk_l4,ilt hi,inb_of hi,rd1_get hi,inc hi h5,cond_true,ih,hw,l1In_ok,sStateOk_ok _ _ hs.1 hs.2,Option.bind_some,all_ite _ _ _ _ hi,saidOk]
    cases inR sd[i].1 0 (((ns.length:Nat):Int) - 1)<;>cases stOk sd[i].2<;>simp)
  (by
    apply spec_WorldOk_l4_of
    simp[spec_WorldOk_l4])
 simp only[Int.natCast_zero,List.drop_zero]at e1 e2 e3
 simp only[spec_WorldOk_raw,l1In_ok,e1,e2,e3,Option.bind_some,elim_ite,worldOk]
 cases inR ((ns.length:Nat):Int) 1 5<;>cases decide (12<((net.length:Nat):Int))<;>cases decide (40<((sd.length:Nat):Int))<;>cases nodesOk (ns.length:Nat) 0 ns<;>cases net.all (netOk (ns.length:Nat))<;>cases sd.all (saidOk (ns.length:Nat))<;>rfl
end Go.Proofs.YtjenicbpdklpbaaGreat.M
