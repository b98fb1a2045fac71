/- What the plain forms that FnExactTrimAll reaches come to: PCopy. No conditions but those that each theorem states. -/
import Derived.Test.YtjenicbpdklpbaaGreatFnExactTrimAllPSafe
set_option linter.all false
namespace Go.Proofs.YtjenicbpdklpbaaGreat.M
open Go Go.Eng Go.Proofs
set_option linter.unusedVariables false
theorem copyState_ok (s:XState) (h:mz_State s≤4294967296):impl_copyState w s=some s:=by
 obtain⟨a,b⟩:=s
 apply impl_copyState_of
 simp only[mz_State,mz_ItemS,mz_FloorS]at h
 simp only[impl_copyState_raw,List.length_nil,List.nil_append,Nat.zero_add,fits_of (show a.length*56≤140737488351232 by omega),fits_of (show b.length*16≤140737488351232 by omega),cond_true]
theorem l3Copy_ok (s:XState) (h:mz_State s≤4294967296):spec_l3Copy w s=some s:=by
 obtain⟨a,b⟩:=s
 apply spec_l3Copy_of
 simp only[mz_State,mz_ItemS,mz_FloorS]at h
 simp only[spec_l3Copy_raw,List.length_nil,List.nil_append,Nat.zero_add,fits_of (show a.length*56≤140737488351232 by omega),fits_of (show b.length*16≤140737488351232 by omega),cond_true]
theorem copyTree_ok (x:XTree) (h:mz_Tree x≤4294967296):impl_copyTree w x=some x:=by
 obtain⟨a,b⟩:=x
 apply impl_copyTree_of
 simp only[mz_Tree,mz_IntS]at h
 simp only[impl_copyTree_raw,copyInts a (by omega),Option.bind_some]
theorem l6Copy_ok (x:XTree) (h:mz_Tree x≤4294967296):spec_l6Copy w x=some x:=by
 obtain⟨a,b⟩:=x
 apply spec_l6Copy_of
 simp only[mz_Tree,mz_IntS]at h
 simp only[spec_l6Copy_raw,List.length_nil,List.nil_append,Nat.zero_add,fits_of (show a.length*8≤140737488351232 by omega),cond_true]
theorem copyLog_ok (x:XLog) (h:mz_Log x≤4294967296):impl_copyLog w x=some x:=by
 obtain⟨a,b,l⟩:=x
 apply impl_copyLog_of
 simp only[mz_Log,mz_StateS]at h
 have e:=loop_copy l (fun i out=>impl_copyLog_k0 wl (l,((l.length:Nat):Int),(i:Int),a,b,out)) (fun out=>(a,b,out))
  (fun i hi out r ho hk=>by
    apply impl_copyLog_l0_of
    have:=sumL_get mz_State l i hi
    simp only[impl_copyLog_l0,ilt hi,inb_of hi,rd1_get hi,inc hi (show l.length≤maxLen by simp only[maxLen];omega),cond_true,copyState_ok _ (show mz_State l[i]≤4294967296 by omega),Option.bind_some]
    rw[fits_of (by simp[ho];omega)];exact hk)
  (fun out ho=>by
    apply impl_copyLog_l0_of
    simp only[impl_copyLog_l0,ilt_self,cond_false])
 simp only[Int.natCast_zero]at e
 simp only[impl_copyLog_raw,e,Option.bind_some]
theorem l7Copy_ok (x:XLog) (h:mz_Log x≤4294967296):spec_l7Copy w x=some x:=by
 obtain⟨a,b,l⟩:=x
 apply spec_l7Copy_of
 simp only[mz_Log,mz_StateS]at h
 have e:=loop_copy l (fun i out=>spec_l7Copy_k0 wl ((i:Int),a,b,l,a,b,out)) (fun out=>(a,b,out))
  (fun i hi out r ho hk=>by
    apply spec_l7Copy_l0_of
    have:=sumL_get mz_State l i hi
    simp only[spec_l7Copy_l0,ilt hi,inb_of hi,rd1_get hi,inc hi (show l.length≤maxLen by simp only[maxLen];omega),cond_true,l3Copy_ok _ (show mz_State l[i]≤4294967296 by omega),Option.bind_some]
    rw[fits_of (by simp[ho];omega)];exact hk)
  (fun out ho=>by
    apply spec_l7Copy_l0_of
    simp only[spec_l7Copy_l0,ilt_self,cond_false])
 simp only[Int.natCast_zero]at e
 simp only[spec_l7Copy_raw,e,Option.bind_some]
theorem copyTable_ok (l:List (List Int)) (h:mz_IntSS l≤4294967296):impl_copyTable w l=some l:=by
 apply impl_copyTable_of
 simp only[mz_IntSS]at h
 have e:=loop_copy l (fun i out=>impl_copyTable_k0 wl (l,((l.length:Nat):Int),(i:Int),out)) (fun out=>out)
  (fun i hi out r ho hk=>by
    apply impl_copyTable_l0_of
    have:=sumL_get mz_IntS l i hi
    simp only[mz_IntS]at this
    simp only[impl_copyTable_l0,ilt hi,inb_of hi,rd1_get hi,inc hi (show l.length≤maxLen by simp only[maxLen];omega),cond_true,copyInts l[i] (by omega),Option.bind_some]
    rw[fits_of (by simp[ho];omega)];exact hk)
  (fun out ho=>by
    apply impl_copyTable_l0_of
    simp only[impl_copyTable_l0,ilt_self,cond_false])
 simp only[Int.natCast_zero]at e
 simp only[impl_copyTable_raw,e,Option.bind_some]
theorem l9Copy_ok (l:List (List Int)) (h:mz_IntSS l≤4294967296):spec_l9Copy w l=some l:=by
 apply spec_l9Copy_of
 simp only[mz_IntSS]at h
 have e:=loop_copy l (fun i out=>spec_l9Copy_k0 wl (l,(i:Int),out)) (fun out=>out)
  (fun i hi out r ho hk=>by
    apply spec_l9Copy_l0_of
    have:=sumL_get mz_IntS l i hi
    simp only[mz_IntS]at this
    simp only[spec_l9Copy_l0,ilt hi,inb_of hi,rd1_get hi,inc hi (show l.length≤maxLen by simp only[maxLen];omega),cond_true,List.length_nil,List.nil_append,Nat.zero_add,fits_of (show l[i].length*8≤140737488351232 by omega)]
    rw[fits_of (by simp[ho];omega)];exact hk)
  (fun out ho=>by
    apply spec_l9Copy_l0_of
    simp only[spec_l9Copy_l0,ilt_self,cond_false])
 simp only[Int.natCast_zero]at e
 simp only[spec_l9Copy_raw,e,Option.bind_some]
theorem node_lens {x:XNode}(h:mz_Node x≤4294967296):x.2.2.2.2.2.2.2.2.2.1.length≤4294967296∧x.2.2.2.2.2.2.2.2.2.2.1.length≤4294967296∧x.2.2.2.2.2.2.2.2.2.2.2.2.2.2.1.length≤4294967296∧x.2.2.2.2.2.2.2.2.2.2.2.2.2.2.2.2.2.2.length≤4294967296:=by
 simp only[mz_Node,mz_IntS,mz_SessS,mz_RiseS]at h
 omega
theorem node_parts {x:XNode}(h:mz_Node x≤4294967296):mz_State (x.2.2.1,x.2.2.2.1)≤4294967296∧mz_Tree (x.2.2.2.2.1,x.2.2.2.2.2.1)≤4294967296∧mz_Log (x.2.2.2.2.2.2.1,x.2.2.2.2.2.2.2.1,x.2.2.2.2.2.2.2.2.1)≤4294967296∧mz_IntSS x.2.2.2.2.2.2.2.2.2.2.2.1≤4294967296:=by
 simp only[mz_Node]at h
 omega
theorem copyNode_ok (x:XNode) (h:mz_Node x≤4294967296):impl_copyNode w x=some x:=by
 have hl:=node_lens h
 have hp:=node_parts h
 obtain⟨a0,a1,a2,a3,a4,a5,a6,a7,a8,a9,a10,a11,a12,a13,a14,a15,a16,a17,a18⟩:=x
 apply impl_copyNode_of
 obtain⟨h9,h10,h14,h18⟩:=hl
 obtain⟨h2,h4,h6,h11⟩:=hp
 simp only at h9 h10 h14 h18 h2 h4 h6 h11
 simp only[impl_copyNode_raw,copyState_ok (a2,a3) h2,copyTree_ok (a4,a5) h4,copyLog_ok (a6,a7,a8) h6,copyTable_ok a11 h11,copyInts a9 h9,copyInts a10 h10,fits_of (show a14.length*32≤140737488351232 by omega),fits_of (show a18.length*24≤140737488351232 by omega),List.length_nil,List.nil_append,Nat.zero_add,Option.bind_some,cond_true]
theorem l11Copy_ok (x:XNode) (h:mz_Node x≤4294967296):spec_l11Copy w x=some x:=by
 have hl:=node_lens h
 have hp:=node_parts h
 obtain⟨a0,a1,a2,a3,a4,a5,a6,a7,a8,a9,a10,a11,a12,a13,a14,a15,a16,a17,a18⟩:=x
 apply spec_l11Copy_of
 obtain⟨h9,h10,h14,h18⟩:=hl
 obtain⟨h2,h4,h6,h11⟩:=hp
 simp only at h9 h10 h14 h18 h2 h4 h6 h11
 simp only[spec_l11Copy_raw,l3Copy_ok (a2,a3) h2,l6Copy_ok (a4,a5) h4,l7Copy_ok (a6,a7,a8) h6,l9Copy_ok a11 h11,fits_of (show a9.length*8≤140737488351232 by omega),fits_of (show a10.length*8≤140737488351232 by omega),fits_of (show a14.length*32≤140737488351232 by omega),fits_of (show a18.length*24≤140737488351232 by omega),List.length_nil,List.nil_append,Nat.zero_add,Option.bind_some,cond_true]
def logDrop (x:XLog) (seq:Int):XLog:=bif logOk x&&inR seq x.2.1 (x.2.1+((x.2.2.length:Nat):Int))then(x.1,seq,x.2.2.drop (seq - x.2.1).toNat)else x
theorem take_all {α:Type}(l:List α) (k:Int) (h0:0≤k) (h:k≤(l.length:Int)):List.take (Int.toNat ((l.length:Int) - k)) (List.drop (Int.toNat k) l)=l.drop k.toNat:=by
 rw[List.take_of_length_le]
 rw[List.length_drop];omega
theorem LogDrop_ok (a b:Int) (l:List XState) (seq:Int) (h:mz_Log (a,b,l)≤4294967296) (hl:l.length≤maxLen) (hs:∀s∈l,s.1.length≤maxLen∧s.2.length≤maxLen):impl_LogDrop w (a,b,l,seq)=some (logDrop (a,b,l) seq):=by
 apply impl_LogDrop_of
 simp only[impl_LogDrop_raw,copyLog_ok _ h,LogOk_ok a b l hl hs,LogSeq_ok a b l hl hs,within_ok,Option.bind_some,logDrop,logSeq]
 cases ho:logOk (a,b,l)
 ·rfl
 ·have hn:=logOk_nums ho
  simp only[cond_true,Bool.not_true,cond_false,Bool.true_and]
  cases hr:inR seq b (b+((l.length:Nat):Int))
  ·rfl
  ·simp only[inR,Bool.and_eq_true,decide_eq_true_eq]at hr
   simp only at hn
   rw[w64 (n:=seq - b) (by omega) (by omega),take_all l _ (by omega) (by omega)]
   simp only[Bool.not_true,cond_false,cond_true,dt (show(0:Int)≤seq - b∧seq - b≤((l.length:Nat):Int)∧((l.length:Nat):Int)≤((l.length:Nat):Int) by omega)]
theorem sLogDrop_ok (a b:Int) (l:List XState) (seq:Int) (h:mz_Log (a,b,l)≤4294967296) (hl:l.length≤maxLen) (hs:∀s∈l,s.1.length≤maxLen∧s.2.length≤maxLen):spec_LogDrop w (a,b,l,seq)=some (logDrop (a,b,l) seq):=by
 apply spec_LogDrop_of
 simp only[spec_LogDrop_raw,l7Copy_ok _ h,sLogOk_ok a b l hl hs,l1In_ok,Option.bind_some,logDrop]
 cases ho:logOk (a,b,l)
 ·rfl
 ·have hn:=logOk_nums ho
  simp only at hn
  rw[w64 (n:=b+((l.length:Nat):Int)) (by omega) (by omega)]
  simp only[cond_true,Bool.not_true,cond_false,Bool.true_and]
  cases hr:inR seq b (b+((l.length:Nat):Int))
  ·rfl
  ·simp only[inR,Bool.and_eq_true,decide_eq_true_eq]at hr
   rw[w64 (n:=seq - b) (by omega) (by omega),take_all l _ (by omega) (by omega)]
   simp only[Bool.not_true,cond_false,cond_true,dt (show(0:Int)≤seq - b∧seq - b≤((l.length:Nat):Int)∧((l.length:Nat):Int)≤((l.length:Nat):Int) by omega),List.length_nil,List.nil_append,Nat.zero_add]
   rw[fits_of (by rw[List.length_drop];omega)];rfl
theorem sumL_drop {α:Type}(c:α→Nat):(k:Nat)→(l:List α)→sumL c (l.drop k)≤sumL c l
 |0,l=>by simp
 |k+1,[]=>by simp
 |k+1,x::l=>by
  have:=sumL_drop c k l
  simp only[List.drop_succ_cons,sumL];omega
theorem logDrop_sz (x:XLog) (seq:Int):mz_Log (logDrop x seq)≤mz_Log x:=by
 unfold logDrop
 cases logOk x&&inR seq x.2.1 (x.2.1+((x.2.2.length:Nat):Int))
 ·exact Nat.le_refl _
 ·have:=sumL_drop mz_State (seq - x.2.1).toNat x.2.2
  simp only[cond_true,mz_Log,mz_StateS,List.length_drop];omega
def safeT (x:XNode):Int:=safe x.1 x.2.1 x.2.2.1 x.2.2.2.1 x.2.2.2.2.1 x.2.2.2.2.2.1 x.2.2.2.2.2.2.1 x.2.2.2.2.2.2.2.1 x.2.2.2.2.2.2.2.2.1 x.2.2.2.2.2.2.2.2.2.1 x.2.2.2.2.2.2.2.2.2.2.1 x.2.2.2.2.2.2.2.2.2.2.2.1 x.2.2.2.2.2.2.2.2.2.2.2.2.1 x.2.2.2.2.2.2.2.2.2.2.2.2.2.1 x.2.2.2.2.2.2.2.2.2.2.2.2.2.2.1 x.2.2.2.2.2.2.2.2.2.2.2.2.2.2.2.1 x.2.2.2.2.2.2.2.2.2.2.2.2.2.2.2.2.1 x.2.2.2.2.2.2.2.2.2.2.2.2.2.2.2.2.2.1 x.2.2.2.2.2.2.2.2.2.2.2.2.2.2.2.2.2.2
def trim (x:XNode):XNode:=bif nodeOkT x then(x.1,x.2.1,x.2.2.1,x.2.2.2.1,x.2.2.2.2.1,x.2.2.2.2.2.1,(logDrop (x.2.2.2.2.2.2.1,x.2.2.2.2.2.2.2.1,x.2.2.2.2.2.2.2.2.1) (safeT x)).1,(logDrop (x.2.2.2.2.2.2.1,x.2.2.2.2.2.2.2.1,x.2.2.2.2.2.2.2.2.1) (safeT x)).2.1,(logDrop (x.2.2.2.2.2.2.1,x.2.2.2.2.2.2.2.1,x.2.2.2.2.2.2.2.2.1) (safeT x)).2.2,x.2.2.2.2.2.2.2.2.2.1,x.2.2.2.2.2.2.2.2.2.2.1,x.2.2.2.2.2.2.2.2.2.2.2.1,x.2.2.2.2.2.2.2.2.2.2.2.2.1,x.2.2.2.2.2.2.2.2.2.2.2.2.2.1,x.2.2.2.2.2.2.2.2.2.2.2.2.2.2.1,x.2.2.2.2.2.2.2.2.2.2.2.2.2.2.2.1,x.2.2.2.2.2.2.2.2.2.2.2.2.2.2.2.2.1,x.2.2.2.2.2.2.2.2.2.2.2.2.2.2.2.2.2.1,x.2.2.2.2.2.2.2.2.2.2.2.2.2.2.2.2.2.2)else x
theorem Safe_e (x:XNode) (h:smNT x):impl_Safe w x=some (safeT x):=Safe_ok _ _ _ _ _ _ _ _ _ _ _ _ _ _ _ _ _ _ _ h
theorem sSafe_e (x:XNode) (h:smNT x):spec_Safe w x=some (safeT x):=sSafe_ok _ _ _ _ _ _ _ _ _ _ _ _ _ _ _ _ _ _ _ h
theorem Trim_ok (x:XNode) (h:mz_Node x≤4294967296) (hs:smNT x):impl_Trim w x=some (trim x):=by
 have hc:=copyNode_ok x h
 have h1:=Safe_e x hs
 have h2:=NodeOk_e x hs
 have hl:=smNT_log hs
 have hp:=(node_parts h).2.2.1
 have h3:=fun seq=>LogDrop_ok x.2.2.2.2.2.2.1 x.2.2.2.2.2.2.2.1 x.2.2.2.2.2.2.2.2.1 seq hp hl.1 hl.2
 obtain⟨a0,a1,a2,a3,a4,a5,a6,a7,a8,a9,a10,a11,a12,a13,a14,a15,a16,a17,a18⟩:=x
 apply impl_Trim_of
 simp only at h3
 simp only[impl_Trim_raw,hc,h1,h2,h3,Option.bind_some,trim]
 cases nodeOkT (a0,a1,a2,a3,a4,a5,a6,a7,a8,a9,a10,a11,a12,a13,a14,a15,a16,a17,a18)
 ·rfl
 ·by_cases hle:a7≤safeT (a0,a1,a2,a3,a4,a5,a6,a7,a8,a9,a10,a11,a12,a13,a14,a15,a16,a17,a18)
  ·rw[dt hle];rfl
  ·rw[df hle]
   have:inR (safeT (a0,a1,a2,a3,a4,a5,a6,a7,a8,a9,a10,a11,a12,a13,a14,a15,a16,a17,a18)) a7 (a7+((a8.length:Nat):Int))=false:=by
    simp only[inR,df hle,Bool.false_and]
   simp only[cond_true,cond_false,logDrop,this,Bool.and_false]
theorem sTrim_ok (x:XNode) (h:mz_Node x≤4294967296) (hs:smNT x):spec_Trim w x=some (trim x):=by
 have hc:=l11Copy_ok x h
 have h1:=sSafe_e x hs
 have h2:=sNodeOk_e x hs
 have hl:=smNT_log hs
 have hp:=(node_parts h).2.2.1
 have h3:=fun seq=>sLogDrop_ok x.2.2.2.2.2.2.1 x.2.2.2.2.2.2.2.1 x.2.2.2.2.2.2.2.2.1 seq hp hl.1 hl.2
 obtain⟨a0,a1,a2,a3,a4,a5,a6,a7,a8,a9,a10,a11,a12,a13,a14,a15,a16,a17,a18⟩:=x
 apply spec_Trim_of
 simp only at h3
 simp only[spec_Trim_raw,hc,h1,h2,h3,Option.bind_some,trim]
 cases nodeOkT (a0,a1,a2,a3,a4,a5,a6,a7,a8,a9,a10,a11,a12,a13,a14,a15,a16,a17,a18)
 ·rfl
 ·rfl
theorem trim_sz (x:XNode):mz_Node (trim x)≤mz_Node x:=by
 unfold trim
 cases nodeOkT x
 ·exact Nat.le_refl _
 ·have:=logDrop_sz (x.2.2.2.2.2.2.1,x.2.2.2.2.2.2.2.1,x.2.2.2.2.2.2.2.2.1) (safeT x)
  simp only[mz_Log]at this
  simp only[cond_true,mz_Node,mz_Log]
  omega
theorem copyPack_ok (p:XPack) (h:mz_Pack p≤4294967296):impl_copyPack w p=some p:=by
 obtain⟨a,b,c⟩:=p
 apply impl_copyPack_of
 simp only[mz_Pack,mz_ByteS]at h
 have:=joined_ok [b] (by simp[maxLen]) (by simp;omega)
 simp only[impl_copyPack_raw,this,Option.bind_some];simp
theorem l15Pack_ok (p:XPack) (h:mz_Pack p≤4294967296):spec_l15Pack w p=some p:=by
 obtain⟨a,b,c⟩:=p
 apply spec_l15Pack_of
 simp only[mz_Pack,mz_ByteS]at h
 simp only[spec_l15Pack_raw,List.length_nil,List.nil_append,Nat.zero_add,fits_of (show b.length*1≤140737488351232 by omega),cond_true]
theorem copyWorld_ok (ns:List XNode) (net:List XPack) (sd:List XSaid) (h:mz_World (ns,net,sd)≤4294967296):impl_copyWorld w (ns,net,sd)=some (ns,net,sd):=by
 apply impl_copyWorld_of
 simp only[mz_World,mz_NodeS,mz_PackS,mz_SaidS]at h
 have e0:=loop_copy ns (fun i out=>impl_copyWorld_k0 wl (ns,((ns.length:Nat):Int),(i:Int),ns,net,sd,out,[],[])) (fun out=>(ns,net,sd,out,[],[]))
  (fun i hi out r ho hk=>by
    apply impl_copyWorld_l0_of
    have:=sumL_get mz_Node ns i hi
    simp only[impl_copyWorld_l0,ilt hi,inb_of hi,rd1_get hi,inc hi (show ns.length≤maxLen by simp only[maxLen];omega),cond_true,copyNode_ok _ (show mz_Node ns[i]≤4294967296 by omega),Option.bind_some]
    rw[fits_of (by simp[ho];omega)];exact hk)
  (fun out ho=>by
    apply impl_copyWorld_l0_of
    simp only[impl_copyWorld_l0,ilt_self,cond_false])
 have e2:=loop_copy net (fun i out=>impl_copyWorld_k2 wl (net,((net.length:Nat):Int),(i:Int),ns,net,sd,ns,out,[])) (fun out=>(ns,net,sd,ns,out,[]))
  (fun i hi out r ho hk=>by
    apply impl_copyWorld_l2_of
    have:=sumL_get mz_Pack net i hi
    simp only[impl_copyWorld_l2,ilt hi,inb_of hi,rd1_get hi,inc hi (show net.length≤maxLen by simp only[maxLen];omega),cond_true,copyPack_ok _ (show mz_Pack net[i]≤4294967296 by omega),Option.bind_some]
    rw[fits_of (by simp[ho];omega)];exact hk)
  (fun out ho=>by
    apply impl_copyWorld_l2_of
    simp only[impl_copyWorld_l2,ilt_self,cond_false])
 have e4:=loop_copy sd (fun i out=>impl_copyWorld_k4 wl (sd,((sd.length:Nat):Int),(i:Int),ns,net,out)) (fun out=>(ns,net,out))
  (fun i hi out r ho hk=>by
    apply impl_copyWorld_l4_of
    have:=sumL_get mz_Said sd i hi
    have:mz_State sd[i].2≤4294967296:=by simp only[mz_Said]at this;exact Nat.le_trans this (by omega)
    simp only[impl_copyWorld_l4,ilt hi,inb_of hi,rd1_get hi,inc hi (show sd.length≤maxLen by simp only[maxLen];omega),cond_true,copyState_ok _ this,Option.bind_some]
    rw[fits_of (by simp[ho];omega)];exact hk)
  (fun out ho=>by
    apply impl_copyWorld_l4_of
    simp only[impl_copyWorld_l4,ilt_self,cond_false])
 simp only[Int.natCast_zero]at e0 e2 e4
 simp only[impl_copyWorld_raw,e0,e2,e4,Option.bind_some]
theorem l15Copy_ok (ns:List XNode) (net:List XPack) (sd:List XSaid) (h:mz_World (ns,net,sd)≤4294967296):spec_l15Copy w (ns,net,sd)=some (ns,net,sd):=by
 apply spec_l15Copy_of
 simp only[mz_World,mz_NodeS,mz_PackS,mz_SaidS]at h
 have e0:=loop_copy ns (fun i out=>spec_l15Copy_k0 wl ((i:Int),ns,net,sd,out,[],[])) (fun out=>(ns,net,sd,out,[],[]))
  (fun i hi out r ho hk=>by
    apply spec_l15Copy_l0_of
    have:=sumL_get mz_Node ns i hi
    simp only[spec_l15Copy_l0,ilt hi,inb_of hi,rd1_get hi,inc hi (show ns.length≤maxLen by simp only[maxLen];omega),cond_true,l11Copy_ok _ (show mz_Node ns[i]≤4294967296 by omega),Option.bind_some]
    rw[fits_of (by simp[ho];omega)];exact hk)
  (fun out ho=>by
    apply spec_l15Copy_l0_of
    simp only[spec_l15Copy_l0,ilt_self,cond_false])
 have e2:=loop_copy net (fun i out=>spec_l15Copy_k2 wl ((i:Int),ns,net,sd,ns,out,[])) (fun out=>(ns,net,sd,ns,out,[]))
  (fun i hi out r ho hk=>by
    apply spec_l15Copy_l2_of
    have:=sumL_get mz_Pack net i hi
    simp only[spec_l15Copy_l2,ilt hi,inb_of hi,rd1_get hi,inc hi (show net.length≤maxLen by simp only[maxLen];omega),cond_true,l15Pack_ok _ (show mz_Pack net[i]≤4294967296 by omega),Option.bind_some]
    rw[fits_of (by simp[ho];omega)];exact hk)
  (fun out ho=>by
    apply spec_l15Copy_l2_of
    simp only[spec_l15Copy_l2,ilt_self,cond_false])
 have e4:=loop_copy sd (fun i out=>spec_l15Copy_k4 wl ((i:Int),ns,net,sd,ns,net,out)) (fun out=>(ns,net,out))
  (fun i hi out r ho hk=>by
    apply spec_l15Copy_l4_of
    have:=sumL_get mz_Said sd i hi
    have:mz_State sd[i].2≤4294967296:=by simp only[mz_Said]at this;exact Nat.le_trans this (by omega)
    simp only[spec_l15Copy_l4,ilt hi,inb_of hi,rd1_get hi,inc hi (show sd.length≤maxLen by simp only[maxLen];omega),cond_true,l3Copy_ok _ this,Option.bind_some]
    rw[fits_of (by simp[ho];omega)];exact hk)
  (fun out ho=>by
    apply spec_l15Copy_l4_of
    simp only[spec_l15Copy_l4,ilt_self,cond_false])
 simp only[Int.natCast_zero]at e0 e2 e4
 simp only[spec_l15Copy_raw,e0,e2,e4,Option.bind_some]
def trimAll (ns:List XNode) (net:List XPack) (sd:List XSaid):XWorld:=bif worldOk ns net sd then(ns.map trim,net,sd)else(ns,net,sd)
theorem TrimAll_ok (ns:List XNode) (net:List XPack) (sd:List XSaid) (h:mz_World (ns,net,sd)≤4294967296) (hs:smW ns net sd):impl_TrimAll w (ns,net,sd)=some (trimAll ns net sd):=by
 apply impl_TrimAll_of
 simp only[impl_TrimAll_raw,copyWorld_ok ns net sd h,WorldOk_ok ns net sd hs,Option.bind_some,trimAll]
 simp only[mz_World,mz_NodeS,mz_PackS,mz_SaidS]at h
 cases worldOk ns net sd
 ·rfl
 ·have e:=loop_setAll ns trim (fun i out=>impl_TrimAll_k0 wl (ns,((ns.length:Nat):Int),(i:Int),out,net,sd)) (fun out=>(out,net,sd))
   (fun i hi out r ho hk=>by
     apply impl_TrimAll_l0_of
     have:=sumL_get mz_Node ns i hi
     simp only[impl_TrimAll_l0,ilt hi,inb_of hi,rd1_get hi,inc hi hs.1,cond_true,Trim_ok _ (show mz_Node ns[i]≤4294967296 by omega) (hs.2.1 _ (List.getElem_mem hi)),Option.bind_some,inb_of (show i<out.length by omega),Int.toNat_natCast]
     exact hk)
   (fun out ho=>by
     apply impl_TrimAll_l0_of
     simp only[impl_TrimAll_l0,ilt_self,cond_false])
  simp only[Int.natCast_zero]at e
  simp only[Bool.not_true,cond_false,cond_true,e,Option.bind_some]
theorem sTrimAll_ok (ns:List XNode) (net:List XPack) (sd:List XSaid) (h:mz_World (ns,net,sd)≤4294967296) (hs:smW ns net sd):spec_TrimAll w (ns,net,sd)=some (trimAll ns net sd):=by
 apply spec_TrimAll_of
 simp only[spec_TrimAll_raw,l15Copy_ok ns net sd h,Option.bind_some,trimAll]
 simp only[mz_World,mz_NodeS,mz_PackS,mz_SaidS]at h
 cases hw:worldOk ns net sd
 ·have e:spec_TrimAll_k0 wl (0,ns,net,sd,ns,net,sd)=some (ns,net,sd):=by
   apply spec_TrimAll_l0_of
   simp only[spec_TrimAll_l0,sWorldOk_ok ns net sd hs,Option.bind_some,hw,cond_false]
   cases decide ((0:Int)<((ns.length:Nat):Int))<;>rfl
  simp only[e,Option.bind_some,cond_false]
 ·have e:=loop_setAll ns trim (fun i out=>spec_TrimAll_k0 wl ((i:Int),ns,net,sd,out,net,sd)) (fun out=>(out,net,sd))
   (fun i hi out r ho hk=>by
     apply spec_TrimAll_l0_of
     have:=sumL_get mz_Node ns i hi
     simp only[spec_TrimAll_l0,ho,ilt hi,inb_of hi,rd1_get hi,inc hi hs.1,cond_true,sWorldOk_ok ns net sd hs,hw,sTrim_ok _ (show mz_Node ns[i]≤4294967296 by omega) (hs.2.1 _ (List.getElem_mem hi)),Option.bind_some,inb_of (show i<out.length by omega),Int.toNat_natCast]
     exact hk)
   (fun out ho=>by
     apply spec_TrimAll_l0_of
     simp only[spec_TrimAll_l0,ho,ilt_self,cond_false])
  simp only[Int.natCast_zero]at e
  simp only[cond_true,e,Option.bind_some]
theorem trimAll_sz (ns:List XNode) (net:List XPack) (sd:List XSaid):mz_World (trimAll ns net sd)≤mz_World (ns,net,sd):=by
 unfold trimAll
 cases worldOk ns net sd
 ·exact Nat.le_refl _
 ·have:sumL mz_Node (ns.map trim)≤sumL mz_Node ns:=by
   induction ns with
   |nil=>exact Nat.le_refl _
   |cons x l ih=>have:=trim_sz x;simp only[List.map_cons,sumL];omega
  simp only[cond_true,mz_World,mz_NodeS,List.length_map];omega
theorem world_mark (r:XWorld) (h:mz_World r≤1048576):∃(k:Int) (m0:List XNode) (m1:List XPack) (m2:List XSaid),0<k∧laws_markWorld w (r.1,r.2.1,r.2.2,1)=some (k,m0,m1,m2)∧laws_heldWorld w (m0,m1,m2,1)=some k:=by
 have h':=h
 simp only[mz_World]at h'
 have c1:=sumc_NodeS r.1
 have c2:=sumc_PackS r.2.1
 have c3:=sumc_SaidS r.2.2
 refine⟨_,_,_,_, ?_,mark_World r.1 r.2.1 r.2.2 1 (by omega) (by omega) (by exact Nat.le_trans h (by omega)),held_World r.1 r.2.1 r.2.2 1 (by omega) (by omega) (by exact Nat.le_trans h (by omega))⟩
 omega
set_option maxHeartbeats 4000000 in
theorem law_TrimAll (a0:List XNode) (a1:List XPack) (a2:List XSaid) (hf:ft_World (a0,a1,a2)):laws_FnExactTrimAll w (a0,a1,a2)=some true:=by
 apply laws_FnExactTrimAll_of
 have hs:=ft_world hf
 simp only[laws_FnExactTrimAll_raw,sz_World a0 a1 a2 1048576 (by omega) (by omega) hf,Option.bind_some]
 by_cases h:(mz_World (a0,a1,a2):Int)≤1048576
 ·rw[szI_pos h,df (by omega),cond_false]
  have hz:=trimAll_sz a0 a1 a2
  have hi:=TrimAll_ok a0 a1 a2 (by omega) hs
  have hq:=sTrimAll_ok a0 a1 a2 (by omega) hs
  have ht:=to_World a0 a1 a2 (by omega)
  have he:=eq_World a0 a1 a2 (by omega)
  obtain⟨k,m0,m1,m2,hk,hm,hh⟩:=world_mark (a0,a1,a2) (by omega)
  simp only at hm
  generalize trimAll a0 a1 a2=r at hi hq hz
  obtain⟨k',n0,n1,n2,hk',hm',hh'⟩:=world_mark r (by omega)
  have he2:laws_eqWorld w (r.1,r.2.1,r.2.2,r)=some true:=eq_World r.1 r.2.1 r.2.2 (show mz_World r≤4294967296 by omega)
  simp only[ht,hi,hq,he,hm,hm',hh',he2,Option.bind_some,Bool.not_true,cond_false,df (show¬k<0 by omega),df (show¬k'<0 by omega),decide_true]
 ·rw[szI_neg h,dt (by omega),cond_true]
end Go.Proofs.YtjenicbpdklpbaaGreat.M
