/- What the plain forms that FnExactTrimAll reaches come to: PFam. No conditions but those that each theorem states. -/
import Derived.Test.YtjenicbpdklpbaaGreatFnExactTrimAllPState
set_option linter.all false
namespace Go.Proofs.YtjenicbpdklpbaaGreat.M
open Go Go.Eng Go.Proofs
set_option linter.unusedVariables false
def mz_Entry (x:XEntry):Nat:=ByteArray.size x.2.2.2.2
def ft_Entry (x:XEntry):Prop:=ByteArray.size x.2.2.2.2≤maxLen
theorem fit_Entry {x:XEntry}(h:FitV tEntry x):ft_Entry x:=h.2.2.2.2.1
theorem sz_Entry (a0:Int) (a1:Int) (a2:Int) (a3:Int) (a4:ByteArray) (l:Int) (h0:0≤l) (hB:l≤1048576) (hf:ft_Entry (a0,a1,a2,a3,a4)):laws_szEntry w (a0,a1,a2,a3,a4,l)=some (szI (mz_Entry (a0,a1,a2,a3,a4)) l):=by
 apply laws_szEntry_of
 simp only[ft_Entry]at hf
 have e:mz_Entry (a0,a1,a2,a3,a4)=(ByteArray.size a4+0):=by simp only[mz_Entry];omega
 rw[e]
 simp only[laws_szEntry_raw]
 refine sz_len (by omega) (by omega) (hf) fun _=> ?_
 rw[w64 (by omega) (by omega)]
 exact sz_last (by omega)
def mz_Item (x:XItem):Nat:=mz_Entry (x.2.1,x.2.2.1,x.2.2.2.1,x.2.2.2.2.1,x.2.2.2.2.2)
def ft_Item (x:XItem):Prop:=ft_Entry (x.2.1,x.2.2.1,x.2.2.2.1,x.2.2.2.2.1,x.2.2.2.2.2)
theorem fit_Item {x:XItem}(h:FitV tItem x):ft_Item x:=fit_Entry ⟨h.2.1,h.2.2.1,h.2.2.2.1,h.2.2.2.2.1,h.2.2.2.2.2.1,trivial⟩
theorem sz_Item (a0:Int) (a1:Int) (a2:Int) (a3:Int) (a4:Int) (a5:ByteArray) (l:Int) (h0:0≤l) (hB:l≤1048576) (hf:ft_Item (a0,a1,a2,a3,a4,a5)):laws_szItem w (a0,a1,a2,a3,a4,a5,l)=some (szI (mz_Item (a0,a1,a2,a3,a4,a5)) l):=by
 apply laws_szItem_of
 simp only[ft_Item]at hf
 have e:mz_Item (a0,a1,a2,a3,a4,a5)=(mz_Entry (a1,a2,a3,a4,a5)+0):=by simp only[mz_Item];omega
 rw[e]
 simp only[laws_szItem_raw]
 refine sz_bind (by omega) (sz_Entry a1 a2 a3 a4 a5 _ (by omega) (by omega) (hf)) fun _=> ?_
 exact sz_last (by omega)
def mz_ItemS (a:List XItem):Nat:=a.length+sumL mz_Item a
def ft_ItemS (a:List XItem):Prop:=a.length≤maxLen∧∀x∈a,ft_Item x
theorem sz_ItemS (a:List XItem) (l:Int) (h0:0≤l) (hB:l≤1048576) (hf:ft_ItemS a):laws_szItemS w (a,l)=some (szI (mz_ItemS a) l):=by
 apply laws_szItemS_of
 simp only[laws_szItemS_raw,mz_ItemS]
 refine sz_len h0 hB hf.1 fun h=> ?_
 have e:=loop_sz mz_Item a (fun l i=>laws_szItemS_k0 wl (a,l,(i:Int))) 1048576
  (fun l i h1 r h0 hB h2 hk=>by
    apply laws_szItemS_l0_of
    have hs:=sz_Item (a[i]).1 (a[i]).2.1 (a[i]).2.2.1 (a[i]).2.2.2.1 (a[i]).2.2.2.2.1 (a[i]).2.2.2.2.2 l (by omega) (by omega) (hf.2 _ (List.getElem_mem h1))
    have hs2:szI (mz_Item a[i]) l=l - mz_Item a[i]:=szI_pos h2
    simp only[laws_szItemS_l0,ilt h1,inb_of h1,rd1_get h1,inc h1 (show a.length≤maxLen from hf.1),cond_true,hs,Option.bind_some]
    simp only[show szI (mz_Item ((a[i]).1,(a[i]).2.1,(a[i]).2.2.1,(a[i]).2.2.2.1,(a[i]).2.2.2.2.1,(a[i]).2.2.2.2.2)) l=l - mz_Item a[i]from hs2,df (show¬l - (mz_Item a[i]:Int)<0 by omega),cond_false]
    exact hk)
  (fun l i h1 h0 hB h2=>by
    apply laws_szItemS_l0_of
    have hs:=sz_Item (a[i]).1 (a[i]).2.1 (a[i]).2.2.1 (a[i]).2.2.2.1 (a[i]).2.2.2.2.1 (a[i]).2.2.2.2.2 l (by omega) (by omega) (hf.2 _ (List.getElem_mem h1))
    have hs2:szI (mz_Item a[i]) l= -1:=szI_neg h2
    simp only[laws_szItemS_l0,ilt h1,inb_of h1,rd1_get h1,cond_true,hs,Option.bind_some]
    simp only[show szI (mz_Item ((a[i]).1,(a[i]).2.1,(a[i]).2.2.1,(a[i]).2.2.2.1,(a[i]).2.2.2.2.1,(a[i]).2.2.2.2.2)) l= -1 from hs2,dt (show(-1:Int)<0 by omega),cond_true])
  (fun l=>by
    apply laws_szItemS_l0_of
    simp only[laws_szItemS_l0,ilt_self,cond_false])
  (l - a.length) (by omega) (by omega)
 have hl:=hf.1
 simp only[maxLen]at hl
 rw[w64 (by omega) (by omega)]
 simp only[Int.natCast_zero]at e
 rw[e,Option.bind_some,elim_szR]
def mz_FloorS (a:List XFloor):Nat:=a.length
def ft_FloorS (a:List XFloor):Prop:=a.length≤maxLen
theorem sz_FloorS (a:List XFloor) (l:Int) (h0:0≤l) (hB:l≤1048576) (hf:ft_FloorS a):laws_szFloorS w (a,l)=some (szI (mz_FloorS a) l):=by
 apply laws_szFloorS_of
 simp only[laws_szFloorS_raw]
 exact sz_len (m:=0) h0 hB hf fun h=>by rw[w64 (by omega) (by omega)];exact sz_last (by omega)
def mz_State (x:XState):Nat:=mz_ItemS x.1+mz_FloorS x.2
def ft_State (x:XState):Prop:=ft_ItemS x.1∧ft_FloorS x.2
theorem fit_State {x:XState}(h:FitV tState x):ft_State x:=⟨⟨h.1.1,fun y hy=>fit_Item (h.1.2 y hy)⟩,h.2.1.1⟩
theorem sz_State (a0:List XItem) (a1:List XFloor) (l:Int) (h0:0≤l) (hB:l≤1048576) (hf:ft_State (a0,a1)):laws_szState w (a0,a1,l)=some (szI (mz_State (a0,a1)) l):=by
 apply laws_szState_of
 simp only[ft_State]at hf
 have e:mz_State (a0,a1)=(mz_ItemS a0+(mz_FloorS a1+0)):=by simp only[mz_State];omega
 rw[e]
 simp only[laws_szState_raw]
 refine sz_bind (by omega) (sz_ItemS a0 _ (by omega) (by omega) (hf.1)) fun _=> ?_
 refine sz_bind (by omega) (sz_FloorS a1 _ (by omega) (by omega) (hf.2)) fun _=> ?_
 exact sz_last (by omega)
def mz_IntS (a:List Int):Nat:=a.length
def ft_IntS (a:List Int):Prop:=a.length≤maxLen
theorem sz_IntS (a:List Int) (l:Int) (h0:0≤l) (hB:l≤1048576) (hf:ft_IntS a):laws_szIntS w (a,l)=some (szI (mz_IntS a) l):=by
 apply laws_szIntS_of
 simp only[laws_szIntS_raw]
 exact sz_len (m:=0) h0 hB hf fun h=>by rw[w64 (by omega) (by omega)];exact sz_last (by omega)
def mz_Tree (x:XTree):Nat:=mz_IntS x.1
def ft_Tree (x:XTree):Prop:=ft_IntS x.1
theorem fit_Tree {x:XTree}(h:FitV tTree x):ft_Tree x:=h.1.1
theorem sz_Tree (a0:List Int) (a1:Int) (l:Int) (h0:0≤l) (hB:l≤1048576) (hf:ft_Tree (a0,a1)):laws_szTree w (a0,a1,l)=some (szI (mz_Tree (a0,a1)) l):=by
 apply laws_szTree_of
 simp only[ft_Tree]at hf
 have e:mz_Tree (a0,a1)=(mz_IntS a0+0):=by simp only[mz_Tree];omega
 rw[e]
 simp only[laws_szTree_raw]
 refine sz_bind (by omega) (sz_IntS a0 _ (by omega) (by omega) (hf)) fun _=> ?_
 exact sz_last (by omega)
def mz_StateS (a:List XState):Nat:=a.length+sumL mz_State a
def ft_StateS (a:List XState):Prop:=a.length≤maxLen∧∀x∈a,ft_State x
theorem sz_StateS (a:List XState) (l:Int) (h0:0≤l) (hB:l≤1048576) (hf:ft_StateS a):laws_szStateS w (a,l)=some (szI (mz_StateS a) l):=by
 apply laws_szStateS_of
 simp only[laws_szStateS_raw,mz_StateS]
 refine sz_len h0 hB hf.1 fun h=> ?_
 have e:=loop_sz mz_State a (fun l i=>laws_szStateS_k0 wl (a,l,(i:Int))) 1048576
  (fun l i h1 r h0 hB h2 hk=>by
    apply laws_szStateS_l0_of
    have hs:=sz_State (a[i]).1 (a[i]).2 l (by omega) (by omega) (hf.2 _ (List.getElem_mem h1))
    have hs2:szI (mz_State a[i]) l=l - mz_State a[i]:=szI_pos h2
    simp only[laws_szStateS_l0,ilt h1,inb_of h1,rd1_get h1,inc h1 (show a.length≤maxLen from hf.1),cond_true,hs,Option.bind_some]
    simp only[show szI (mz_State ((a[i]).1,(a[i]).2)) l=l - mz_State a[i]from hs2,df (show¬l - (mz_State a[i]:Int)<0 by omega),cond_false]
    exact hk)
  (fun l i h1 h0 hB h2=>by
    apply laws_szStateS_l0_of
    have hs:=sz_State (a[i]).1 (a[i]).2 l (by omega) (by omega) (hf.2 _ (List.getElem_mem h1))
    have hs2:szI (mz_State a[i]) l= -1:=szI_neg h2
    simp only[laws_szStateS_l0,ilt h1,inb_of h1,rd1_get h1,cond_true,hs,Option.bind_some]
    simp only[show szI (mz_State ((a[i]).1,(a[i]).2)) l= -1 from hs2,dt (show(-1:Int)<0 by omega),cond_true])
  (fun l=>by
    apply laws_szStateS_l0_of
    simp only[laws_szStateS_l0,ilt_self,cond_false])
  (l - a.length) (by omega) (by omega)
 have hl:=hf.1
 simp only[maxLen]at hl
 rw[w64 (by omega) (by omega)]
 simp only[Int.natCast_zero]at e
 rw[e,Option.bind_some,elim_szR]
def mz_Log (x:XLog):Nat:=mz_StateS x.2.2
def ft_Log (x:XLog):Prop:=ft_StateS x.2.2
theorem fit_Log {x:XLog}(h:FitV tLog x):ft_Log x:=⟨h.2.2.1.1,fun y hy=>fit_State (h.2.2.1.2 y hy)⟩
theorem sz_Log (a0:Int) (a1:Int) (a2:List XState) (l:Int) (h0:0≤l) (hB:l≤1048576) (hf:ft_Log (a0,a1,a2)):laws_szLog w (a0,a1,a2,l)=some (szI (mz_Log (a0,a1,a2)) l):=by
 apply laws_szLog_of
 simp only[ft_Log]at hf
 have e:mz_Log (a0,a1,a2)=(mz_StateS a2+0):=by simp only[mz_Log];omega
 rw[e]
 simp only[laws_szLog_raw]
 refine sz_bind (by omega) (sz_StateS a2 _ (by omega) (by omega) (hf)) fun _=> ?_
 exact sz_last (by omega)
def mz_IntSS (a:List (List Int)):Nat:=a.length+sumL mz_IntS a
def ft_IntSS (a:List (List Int)):Prop:=a.length≤maxLen∧∀x∈a,ft_IntS x
theorem sz_IntSS (a:List (List Int)) (l:Int) (h0:0≤l) (hB:l≤1048576) (hf:ft_IntSS a):laws_szIntSS w (a,l)=some (szI (mz_IntSS a) l):=by
 apply laws_szIntSS_of
 simp only[laws_szIntSS_raw,mz_IntSS]
 refine sz_len h0 hB hf.1 fun h=> ?_
 have e:=loop_sz mz_IntS a (fun l i=>laws_szIntSS_k0 wl (a,l,(i:Int))) 1048576
  (fun l i h1 r h0 hB h2 hk=>by
    apply laws_szIntSS_l0_of
    have hs:=sz_IntS a[i] l (by omega) (by omega) (hf.2 _ (List.getElem_mem h1))
    have hs2:szI (mz_IntS a[i]) l=l - mz_IntS a[i]:=szI_pos h2
    simp only[laws_szIntSS_l0,ilt h1,inb_of h1,rd1_get h1,inc h1 (show a.length≤maxLen from hf.1),cond_true,hs,Option.bind_some]
    simp only[show szI (mz_IntS (a[i])) l=l - mz_IntS a[i]from hs2,df (show¬l - (mz_IntS a[i]:Int)<0 by omega),cond_false]
    exact hk)
  (fun l i h1 h0 hB h2=>by
    apply laws_szIntSS_l0_of
    have hs:=sz_IntS a[i] l (by omega) (by omega) (hf.2 _ (List.getElem_mem h1))
    have hs2:szI (mz_IntS a[i]) l= -1:=szI_neg h2
    simp only[laws_szIntSS_l0,ilt h1,inb_of h1,rd1_get h1,cond_true,hs,Option.bind_some]
    simp only[show szI (mz_IntS (a[i])) l= -1 from hs2,dt (show(-1:Int)<0 by omega),cond_true])
  (fun l=>by
    apply laws_szIntSS_l0_of
    simp only[laws_szIntSS_l0,ilt_self,cond_false])
  (l - a.length) (by omega) (by omega)
 have hl:=hf.1
 simp only[maxLen]at hl
 rw[w64 (by omega) (by omega)]
 simp only[Int.natCast_zero]at e
 rw[e,Option.bind_some,elim_szR]
def mz_SessS (a:List XSess):Nat:=a.length
def ft_SessS (a:List XSess):Prop:=a.length≤maxLen
theorem sz_SessS (a:List XSess) (l:Int) (h0:0≤l) (hB:l≤1048576) (hf:ft_SessS a):laws_szSessS w (a,l)=some (szI (mz_SessS a) l):=by
 apply laws_szSessS_of
 simp only[laws_szSessS_raw]
 exact sz_len (m:=0) h0 hB hf fun h=>by rw[w64 (by omega) (by omega)];exact sz_last (by omega)
def mz_RiseS (a:List XRise):Nat:=a.length
def ft_RiseS (a:List XRise):Prop:=a.length≤maxLen
theorem sz_RiseS (a:List XRise) (l:Int) (h0:0≤l) (hB:l≤1048576) (hf:ft_RiseS a):laws_szRiseS w (a,l)=some (szI (mz_RiseS a) l):=by
 apply laws_szRiseS_of
 simp only[laws_szRiseS_raw]
 exact sz_len (m:=0) h0 hB hf fun h=>by rw[w64 (by omega) (by omega)];exact sz_last (by omega)
def mz_Node (x:XNode):Nat:=mz_State (x.2.2.1,x.2.2.2.1)+mz_Tree (x.2.2.2.2.1,x.2.2.2.2.2.1)+mz_Log (x.2.2.2.2.2.2.1,x.2.2.2.2.2.2.2.1,x.2.2.2.2.2.2.2.2.1)+mz_IntS x.2.2.2.2.2.2.2.2.2.1+mz_IntS x.2.2.2.2.2.2.2.2.2.2.1+mz_IntSS x.2.2.2.2.2.2.2.2.2.2.2.1+mz_SessS x.2.2.2.2.2.2.2.2.2.2.2.2.2.2.1+mz_RiseS x.2.2.2.2.2.2.2.2.2.2.2.2.2.2.2.2.2.2
def ft_Node (x:XNode):Prop:=ft_State (x.2.2.1,x.2.2.2.1)∧ft_Tree (x.2.2.2.2.1,x.2.2.2.2.2.1)∧ft_Log (x.2.2.2.2.2.2.1,x.2.2.2.2.2.2.2.1,x.2.2.2.2.2.2.2.2.1)∧ft_IntS x.2.2.2.2.2.2.2.2.2.1∧ft_IntS x.2.2.2.2.2.2.2.2.2.2.1∧ft_IntSS x.2.2.2.2.2.2.2.2.2.2.2.1∧ft_SessS x.2.2.2.2.2.2.2.2.2.2.2.2.2.2.1∧ft_RiseS x.2.2.2.2.2.2.2.2.2.2.2.2.2.2.2.2.2.2
theorem fit_Node {x:XNode}(h:FitV tNode x):ft_Node x:=⟨fit_State ⟨h.2.2.1,h.2.2.2.1,trivial⟩,fit_Tree ⟨h.2.2.2.2.1,h.2.2.2.2.2.1,trivial⟩,fit_Log ⟨h.2.2.2.2.2.2.1,h.2.2.2.2.2.2.2.1,h.2.2.2.2.2.2.2.2.1,trivial⟩,h.2.2.2.2.2.2.2.2.2.1.1,h.2.2.2.2.2.2.2.2.2.2.1.1,⟨h.2.2.2.2.2.2.2.2.2.2.2.1.1,fun y hy=>((h.2.2.2.2.2.2.2.2.2.2.2.1.2 y hy).1).1⟩,h.2.2.2.2.2.2.2.2.2.2.2.2.2.2.1.1,h.2.2.2.2.2.2.2.2.2.2.2.2.2.2.2.2.2.2.1.1⟩
theorem sz_Node (a0:Int) (a1:Int) (a2:List XItem) (a3:List XFloor) (a4:List Int) (a5:Int) (a6:Int) (a7:Int) (a8:List XState) (a9:List Int) (a10:List Int) (a11:List (List Int)) (a12:Int) (a13:Int) (a14:List XSess) (a15:Int) (a16:Int) (a17:Int) (a18:List XRise) (l:Int) (h0:0≤l) (hB:l≤1048576) (hf:ft_Node (a0,a1,a2,a3,a4,a5,a6,a7,a8,a9,a10,a11,a12,a13,a14,a15,a16,a17,a18)):laws_szNode w (a0,a1,a2,a3,a4,a5,a6,a7,a8,a9,a10,a11,a12,a13,a14,a15,a16,a17,a18,l)=some (szI (mz_Node (a0,a1,a2,a3,a4,a5,a6,a7,a8,a9,a10,a11,a12,a13,a14,a15,a16,a17,a18)) l):=by
 apply laws_szNode_of
 simp only[ft_Node]at hf
 have e:mz_Node (a0,a1,a2,a3,a4,a5,a6,a7,a8,a9,a10,a11,a12,a13,a14,a15,a16,a17,a18)=(mz_State (a2,a3)+(mz_Tree (a4,a5)+(mz_Log (a6,a7,a8)+(mz_IntS a9+(mz_IntS a10+(mz_IntSS a11+(mz_SessS a14+(mz_RiseS a18+0)))))))):=by simp only[mz_Node];omega
 rw[e]
 simp only[laws_szNode_raw]
 refine sz_bind (by omega) (sz_State a2 a3 _ (by omega) (by omega) (hf.1)) fun _=> ?_
 refine sz_bind (by omega) (sz_Tree a4 a5 _ (by omega) (by omega) (hf.2.1)) fun _=> ?_
 refine sz_bind (by omega) (sz_Log a6 a7 a8 _ (by omega) (by omega) (hf.2.2.1)) fun _=> ?_
 refine sz_bind (by omega) (sz_IntS a9 _ (by omega) (by omega) (hf.2.2.2.1)) fun _=> ?_
 refine sz_bind (by omega) (sz_IntS a10 _ (by omega) (by omega) (hf.2.2.2.2.1)) fun _=> ?_
 refine sz_bind (by omega) (sz_IntSS a11 _ (by omega) (by omega) (hf.2.2.2.2.2.1)) fun _=> ?_
 refine sz_bind (by omega) (sz_SessS a14 _ (by omega) (by omega) (hf.2.2.2.2.2.2.1)) fun _=> ?_
 refine sz_bind (by omega) (sz_RiseS a18 _ (by omega) (by omega) (hf.2.2.2.2.2.2.2)) fun _=> ?_
 exact sz_last (by omega)
def mz_NodeS (a:List XNode):Nat:=a.length+sumL mz_Node a
def ft_NodeS (a:List XNode):Prop:=a.length≤maxLen∧∀x∈a,ft_Node x
theorem sz_NodeS (a:List XNode) (l:Int) (h0:0≤l) (hB:l≤1048576) (hf:ft_NodeS a):laws_szNodeS w (a,l)=some (szI (mz_NodeS a) l):=by
 apply laws_szNodeS_of
 simp only[laws_szNodeS_raw,mz_NodeS]
 refine sz_len h0 hB hf.1 fun h=> ?_
 have e:=loop_sz mz_Node a (fun l i=>laws_szNodeS_k0 wl (a,l,(i:Int))) 1048576
  (fun l i h1 r h0 hB h2 hk=>by
    apply laws_szNodeS_l0_of
    have hs:=sz_Node (a[i]).1 (a[i]).2.1 (a[i]).2.2.1 (a[i]).2.2.2.1 (a[i]).2.2.2.2.1 (a[i]).2.2.2.2.2.1 (a[i]).2.2.2.2.2.2.1 (a[i]).2.2.2.2.2.2.2.1 (a[i]).2.2.2.2.2.2.2.2.1 (a[i]).2.2.2.2.2.2.2.2.2.1 (a[i]).2.2.2.2.2.2.2.2.2.2.1 (a[i]).2.2.2.2.2.2.2.2.2.2.2.1 (a[i]).2.2.2.2.2.2.2.2.2.2.2.2.1 (a[i]).2.2.2.2.2.2.2.2.2.2.2.2.2.1 (a[i]).2.2.2.2.2.2.2.2.2.2.2.2.2.2.1 (a[i]).2.2.2.2.2.2.2.2.2.2.2.2.2.2.2.1 (a[i]).2.2.2.2.2.2.2.2.2.2.2.2.2.2.2.2.1 (a[i]).2.2.2.2.2.2.2.2.2.2.2.2.2.2.2.2.2.1 (a[i]).2.2.2.2.2.2.2.2.2.2.2.2.2.2.2.2.2.2 l (by omega) (by omega) (hf.2 _ (List.getElem_mem h1))
    have hs2:szI (mz_Node a[i]) l=l - mz_Node a[i]:=szI_pos h2
    simp only[laws_szNodeS_l0,ilt h1,inb_of h1,rd1_get h1,inc h1 (show a.length≤maxLen from hf.1),cond_true,hs,Option.bind_some]
    simp only[show szI (mz_Node ((a[i]).1,(a[i]).2.1,(a[i]).2.2.1,(a[i]).2.2.2.1,(a[i]).2.2.2.2.1,(a[i]).2.2.2.2.2.1,(a[i]).2.2.2.2.2.2.1,(a[i]).2.2.2.2.2.2.2.1,(a[i]).2.2.2.2.2.2.2.2.1,(a[i]).2.2.2.2.2.2.2.2.2.1,(a[i]).2.2.2.2.2.2.2.2.2.2.1,(a[i]).2.2.2.2.2.2.2.2.2.2.2.1,(a[i]).2.2.2.2.2.2.2.2.2.2.2.2.1,(a[i]).2.2.2.2.2.2.2.2.2.2.2.2.2.1,(a[i]).2.2.2.2.2.2.2.2.2.2.2.2.2.2.1,(a[i]).2.2.2.2.2.2.2.2.2.2.2.2.2.2.2.1,(a[i]).2.2.2.2.2.2.2.2.2.2.2.2.2.2.2.2.1,(a[i]).2.2.2.2.2.2.2.2.2.2.2.2.2.2.2.2.2.1,(a[i]).2.2.2.2.2.2.2.2.2.2.2.2.2.2.2.2.2.2)) l=l - mz_Node a[i]from hs2,df (show¬l - (mz_Node a[i]:Int)<0 by omega),cond_false]
    exact hk)
  (fun l i h1 h0 hB h2=>by
    apply laws_szNodeS_l0_of
    have hs:=sz_Node (a[i]).1 (a[i]).2.1 (a[i]).2.2.1 (a[i]).2.2.2.1 (a[i]).2.2.2.2.1 (a[i]).2.2.2.2.2.1 (a[i]).2.2.2.2.2.2.1 (a[i]).2.2.2.2.2.2.2.1 (a[i]).2.2.2.2.2.2.2.2.1 (a[i]).2.2.2.2.2.2.2.2.2.1 (a[i]).2.2.2.2.2.2.2.2.2.2.1 (a[i]).2.2.2.2.2.2.2.2.2.2.2.1 (a[i]).2.2.2.2.2.2.2.2.2.2.2.2.1 (a[i]).2.2.2.2.2.2.2.2.2.2.2.2.2.1 (a[i]).2.2.2.2.2.2.2.2.2.2.2.2.2.2.1 (a[i]).2.2.2.2.2.2.2.2.2.2.2.2.2.2.2.1 (a[i]).2.2.2.2.2.2.2.2.2.2.2.2.2.2.2.2.1 (a[i]).2.2.2.2.2.2.2.2.2.2.2.2.2.2.2.2.2.1 (a[i]).2.2.2.2.2.2.2.2.2.2.2.2.2.2.2.2.2.2 l (by omega) (by omega) (hf.2 _ (List.getElem_mem h1))
    have hs2:szI (mz_Node a[i]) l= -1:=szI_neg h2
    simp only[laws_szNodeS_l0,ilt h1,inb_of h1,rd1_get h1,cond_true,hs,Option.bind_some]
    simp only[show szI (mz_Node ((a[i]).1,(a[i]).2.1,(a[i]).2.2.1,(a[i]).2.2.2.1,(a[i]).2.2.2.2.1,(a[i]).2.2.2.2.2.1,(a[i]).2.2.2.2.2.2.1,(a[i]).2.2.2.2.2.2.2.1,(a[i]).2.2.2.2.2.2.2.2.1,(a[i]).2.2.2.2.2.2.2.2.2.1,(a[i]).2.2.2.2.2.2.2.2.2.2.1,(a[i]).2.2.2.2.2.2.2.2.2.2.2.1,(a[i]).2.2.2.2.2.2.2.2.2.2.2.2.1,(a[i]).2.2.2.2.2.2.2.2.2.2.2.2.2.1,(a[i]).2.2.2.2.2.2.2.2.2.2.2.2.2.2.1,(a[i]).2.2.2.2.2.2.2.2.2.2.2.2.2.2.2.1,(a[i]).2.2.2.2.2.2.2.2.2.2.2.2.2.2.2.2.1,(a[i]).2.2.2.2.2.2.2.2.2.2.2.2.2.2.2.2.2.1,(a[i]).2.2.2.2.2.2.2.2.2.2.2.2.2.2.2.2.2.2)) l= -1 from hs2,dt (show(-1:Int)<0 by omega),cond_true])
  (fun l=>by
    apply laws_szNodeS_l0_of
    simp only[laws_szNodeS_l0,ilt_self,cond_false])
  (l - a.length) (by omega) (by omega)
 have hl:=hf.1
 simp only[maxLen]at hl
 rw[w64 (by omega) (by omega)]
 simp only[Int.natCast_zero]at e
 rw[e,Option.bind_some,elim_szR]
def mz_ByteS (a:List Int):Nat:=a.length
def ft_ByteS (a:List Int):Prop:=a.length≤maxLen
theorem sz_ByteS (a:List Int) (l:Int) (h0:0≤l) (hB:l≤1048576) (hf:ft_ByteS a):laws_szByteS w (a,l)=some (szI (mz_ByteS a) l):=by
 apply laws_szByteS_of
 simp only[laws_szByteS_raw]
 exact sz_len (m:=0) h0 hB hf fun h=>by rw[w64 (by omega) (by omega)];exact sz_last (by omega)
def mz_Pack (x:XPack):Nat:=mz_ByteS x.2.1
def ft_Pack (x:XPack):Prop:=ft_ByteS x.2.1
theorem fit_Pack {x:XPack}(h:FitV tPack x):ft_Pack x:=h.2.1.1
theorem sz_Pack (a0:Int) (a1:List Int) (a2:Bool) (l:Int) (h0:0≤l) (hB:l≤1048576) (hf:ft_Pack (a0,a1,a2)):laws_szPack w (a0,a1,a2,l)=some (szI (mz_Pack (a0,a1,a2)) l):=by
 apply laws_szPack_of
 simp only[ft_Pack]at hf
 have e:mz_Pack (a0,a1,a2)=(mz_ByteS a1+0):=by simp only[mz_Pack];omega
 rw[e]
 simp only[laws_szPack_raw]
 refine sz_bind (by omega) (sz_ByteS a1 _ (by omega) (by omega) (hf)) fun _=> ?_
 exact sz_last (by omega)
def mz_PackS (a:List XPack):Nat:=a.length+sumL mz_Pack a
def ft_PackS (a:List XPack):Prop:=a.length≤maxLen∧∀x∈a,ft_Pack x
theorem sz_PackS (a:List XPack) (l:Int) (h0:0≤l) (hB:l≤1048576) (hf:ft_PackS a):laws_szPackS w (a,l)=some (szI (mz_PackS a) l):=by
 apply laws_szPackS_of
 simp only[laws_szPackS_raw,mz_PackS]
 refine sz_len h0 hB hf.1 fun h=> ?_
 have e:=loop_sz mz_Pack a (fun l i=>laws_szPackS_k0 wl (a,l,(i:Int))) 1048576
  (fun l i h1 r h0 hB h2 hk=>by
    apply laws_szPackS_l0_of
    have hs:=sz_Pack (a[i]).1 (a[i]).2.1 (a[i]).2.2 l (by omega) (by omega) (hf.2 _ (List.getElem_mem h1))
    have hs2:szI (mz_Pack a[i]) l=l - mz_Pack a[i]:=szI_pos h2
    simp only[laws_szPackS_l0,ilt h1,inb_of h1,rd1_get h1,inc h1 (show a.length≤maxLen from hf.1),cond_true,hs,Option.bind_some]
    simp only[show szI (mz_Pack ((a[i]).1,(a[i]).2.1,(a[i]).2.2)) l=l - mz_Pack a[i]from hs2,df (show¬l - (mz_Pack a[i]:Int)<0 by omega),cond_false]
    exact hk)
  (fun l i h1 h0 hB h2=>by
    apply laws_szPackS_l0_of
    have hs:=sz_Pack (a[i]).1 (a[i]).2.1 (a[i]).2.2 l (by omega) (by omega) (hf.2 _ (List.getElem_mem h1))
    have hs2:szI (mz_Pack a[i]) l= -1:=szI_neg h2
    simp only[laws_szPackS_l0,ilt h1,inb_of h1,rd1_get h1,cond_true,hs,Option.bind_some]
    simp only[show szI (mz_Pack ((a[i]).1,(a[i]).2.1,(a[i]).2.2)) l= -1 from hs2,dt (show(-1:Int)<0 by omega),cond_true])
  (fun l=>by
    apply laws_szPackS_l0_of
    simp only[laws_szPackS_l0,ilt_self,cond_false])
  (l - a.length) (by omega) (by omega)
 have hl:=hf.1
 simp only[maxLen]at hl
 rw[w64 (by omega) (by omega)]
 simp only[Int.natCast_zero]at e
 rw[e,Option.bind_some,elim_szR]
def mz_Said (x:XSaid):Nat:=mz_State (x.2.1,x.2.2)
def ft_Said (x:XSaid):Prop:=ft_State (x.2.1,x.2.2)
theorem fit_Said {x:XSaid}(h:FitV tSaid x):ft_Said x:=fit_State ⟨h.2.1,h.2.2.1,trivial⟩
theorem sz_Said (a0:Int) (a1:List XItem) (a2:List XFloor) (l:Int) (h0:0≤l) (hB:l≤1048576) (hf:ft_Said (a0,a1,a2)):laws_szSaid w (a0,a1,a2,l)=some (szI (mz_Said (a0,a1,a2)) l):=by
 apply laws_szSaid_of
 simp only[ft_Said]at hf
 have e:mz_Said (a0,a1,a2)=(mz_State (a1,a2)+0):=by simp only[mz_Said];omega
 rw[e]
 simp only[laws_szSaid_raw]
 refine sz_bind (by omega) (sz_State a1 a2 _ (by omega) (by omega) (hf)) fun _=> ?_
 exact sz_last (by omega)
def mz_SaidS (a:List XSaid):Nat:=a.length+sumL mz_Said a
def ft_SaidS (a:List XSaid):Prop:=a.length≤maxLen∧∀x∈a,ft_Said x
theorem sz_SaidS (a:List XSaid) (l:Int) (h0:0≤l) (hB:l≤1048576) (hf:ft_SaidS a):laws_szSaidS w (a,l)=some (szI (mz_SaidS a) l):=by
 apply laws_szSaidS_of
 simp only[laws_szSaidS_raw,mz_SaidS]
 refine sz_len h0 hB hf.1 fun h=> ?_
 have e:=loop_sz mz_Said a (fun l i=>laws_szSaidS_k0 wl (a,l,(i:Int))) 1048576
  (fun l i h1 r h0 hB h2 hk=>by
    apply laws_szSaidS_l0_of
    have hs:=sz_Said (a[i]).1 (a[i]).2.1 (a[i]).2.2 l (by omega) (by omega) (hf.2 _ (List.getElem_mem h1))
    have hs2:szI (mz_Said a[i]) l=l - mz_Said a[i]:=szI_pos h2
    simp only[laws_szSaidS_l0,ilt h1,inb_of h1,rd1_get h1,inc h1 (show a.length≤maxLen from hf.1),cond_true,hs,Option.bind_some]
    simp only[show szI (mz_Said ((a[i]).1,(a[i]).2.1,(a[i]).2.2)) l=l - mz_Said a[i]from hs2,df (show¬l - (mz_Said a[i]:Int)<0 by omega),cond_false]
    exact hk)
  (fun l i h1 h0 hB h2=>by
    apply laws_szSaidS_l0_of
    have hs:=sz_Said (a[i]).1 (a[i]).2.1 (a[i]).2.2 l (by omega) (by omega) (hf.2 _ (List.getElem_mem h1))
    have hs2:szI (mz_Said a[i]) l= -1:=szI_neg h2
    simp only[laws_szSaidS_l0,ilt h1,inb_of h1,rd1_get h1,cond_true,hs,Option.bind_some]
    simp only[show szI (mz_Said ((a[i]).1,(a[i]).2.1,(a[i]).2.2)) l= -1 from hs2,dt (show(-1:Int)<0 by omega),cond_true])
  (fun l=>by
    apply laws_szSaidS_l0_of
    simp only[laws_szSaidS_l0,ilt_self,cond_false])
  (l - a.length) (by omega) (by omega)
 have hl:=hf.1
 simp only[maxLen]at hl
 rw[w64 (by omega) (by omega)]
 simp only[Int.natCast_zero]at e
 rw[e,Option.bind_some,elim_szR]
def mz_World (x:XWorld):Nat:=mz_NodeS x.1+mz_PackS x.2.1+mz_SaidS x.2.2
def ft_World (x:XWorld):Prop:=ft_NodeS x.1∧ft_PackS x.2.1∧ft_SaidS x.2.2
theorem fit_World {x:XWorld}(h:FitV tWorld x):ft_World x:=⟨⟨h.1.1,fun y hy=>fit_Node (h.1.2 y hy)⟩,⟨h.2.1.1,fun y hy=>fit_Pack (h.2.1.2 y hy)⟩,⟨h.2.2.1.1,fun y hy=>fit_Said (h.2.2.1.2 y hy)⟩⟩
theorem sz_World (a0:List XNode) (a1:List XPack) (a2:List XSaid) (l:Int) (h0:0≤l) (hB:l≤1048576) (hf:ft_World (a0,a1,a2)):laws_szWorld w (a0,a1,a2,l)=some (szI (mz_World (a0,a1,a2)) l):=by
 apply laws_szWorld_of
 simp only[ft_World]at hf
 have e:mz_World (a0,a1,a2)=(mz_NodeS a0+(mz_PackS a1+(mz_SaidS a2+0))):=by simp only[mz_World];omega
 rw[e]
 simp only[laws_szWorld_raw]
 refine sz_bind (by omega) (sz_NodeS a0 _ (by omega) (by omega) (hf.1)) fun _=> ?_
 refine sz_bind (by omega) (sz_PackS a1 _ (by omega) (by omega) (hf.2.1)) fun _=> ?_
 refine sz_bind (by omega) (sz_SaidS a2 _ (by omega) (by omega) (hf.2.2)) fun _=> ?_
 exact sz_last (by omega)
theorem to_Entry (a0:Int) (a1:Int) (a2:Int) (a3:Int) (a4:ByteArray) (h:mz_Entry (a0,a1,a2,a3,a4)≤4294967296):laws_toEntry w (a0,a1,a2,a3,a4)=some (a0,a1,a2,a3,a4):=by
 apply laws_toEntry_of
 simp only[mz_Entry]at h
 simp only[laws_toEntry_raw]
theorem to_Item (a0:Int) (a1:Int) (a2:Int) (a3:Int) (a4:Int) (a5:ByteArray) (h:mz_Item (a0,a1,a2,a3,a4,a5)≤4294967296):laws_toItem w (a0,a1,a2,a3,a4,a5)=some (a0,a1,a2,a3,a4,a5):=by
 apply laws_toItem_of
 simp only[mz_Item]at h
 simp only[laws_toItem_raw,to_Entry a1 a2 a3 a4 a5 (by omega),Option.bind_some]
theorem to_ItemS (a:List XItem) (h:mz_ItemS a≤4294967296):laws_toItemS w a=some a:=by
 apply laws_toItemS_of
 simp only[mz_ItemS]at h
 have e:=loop_map a (fun x=>x) (fun i out=>laws_toItemS_k0 wl (a,(i:Int),out)) (fun out=>out)
  (fun i h1 out r ho hk=>by
    apply laws_toItemS_l0_of
    have hb:=sumL_get mz_Item a i h1
    simp only[laws_toItemS_l0,ilt h1,ho,inb_of h1,rd1_get h1,inc h1 (show a.length≤maxLen by simp[maxLen];omega),cond_true,Int.toNat_natCast,to_Item (a[i]).1 (a[i]).2.1 (a[i]).2.2.1 (a[i]).2.2.2.1 (a[i]).2.2.2.2.1 (a[i]).2.2.2.2.2 (show mz_Item a[i]≤4294967296 by omega),Option.bind_some]
    exact hk)
  (fun out ho=>by
    apply laws_toItemS_l0_of
    simp only[laws_toItemS_l0,ilt_self,cond_false])
  (List.replicate a.length (0,0,0,0,0,ByteArray.empty)) (by simp)
 rw[List.map_id']at e
 have hf:fits a.length 56=true:=fits_of (by omega)
 simp only[laws_toItemS_raw,Int.toNat_natCast,hf]
 simp
 exact e
theorem to_Floor (a0:Int) (a1:Int):laws_toFloor w (a0,a1)=some (a0,a1):=by
 apply laws_toFloor_of
 simp only[laws_toFloor_raw]
theorem to_FloorS (a:List XFloor) (h:mz_FloorS a≤4294967296):laws_toFloorS w a=some a:=by
 apply laws_toFloorS_of
 simp only[mz_FloorS]at h
 have e:=loop_map a (fun x=>x) (fun i out=>laws_toFloorS_k0 wl (a,(i:Int),out)) (fun out=>out)
  (fun i h1 out r ho hk=>by
    apply laws_toFloorS_l0_of
    simp only[laws_toFloorS_l0,ilt h1,ho,inb_of h1,rd1_get h1,inc h1 (show a.length≤maxLen by simp[maxLen];omega),cond_true,Int.toNat_natCast,to_Floor (a[i]).1 (a[i]).2,Option.bind_some]
    exact hk)
  (fun out ho=>by
    apply laws_toFloorS_l0_of
    simp only[laws_toFloorS_l0,ilt_self,cond_false])
  (List.replicate a.length (0,0)) (by simp)
 rw[List.map_id']at e
 have hf:fits a.length 16=true:=fits_of (by omega)
 simp only[laws_toFloorS_raw,Int.toNat_natCast,hf]
 simp
 exact e
theorem to_State (a0:List XItem) (a1:List XFloor) (h:mz_State (a0,a1)≤4294967296):laws_toState w (a0,a1)=some (a0,a1):=by
 apply laws_toState_of
 simp only[mz_State]at h
 simp only[laws_toState_raw,to_ItemS a0 (by omega),to_FloorS a1 (by omega),Option.bind_some]
theorem to_IntS (a:List Int) (h:mz_IntS a≤4294967296):laws_toIntS w a=some a:=by
 apply laws_toIntS_of
 simp only[mz_IntS]at h
 have e:=loop_map a (fun x=>x) (fun i out=>laws_toIntS_k0 wl (a,(i:Int),out)) (fun out=>out)
  (fun i h1 out r ho hk=>by
    apply laws_toIntS_l0_of
    simp only[laws_toIntS_l0,ilt h1,ho,inb_of h1,rd1_get h1,inc h1 (show a.length≤maxLen by simp[maxLen];omega),cond_true,Int.toNat_natCast]
    exact hk)
  (fun out ho=>by
    apply laws_toIntS_l0_of
    simp only[laws_toIntS_l0,ilt_self,cond_false])
  (List.replicate a.length 0) (by simp)
 rw[List.map_id']at e
 have hf:fits a.length 8=true:=fits_of (by omega)
 simp only[laws_toIntS_raw,Int.toNat_natCast,hf]
 simp
 exact e
theorem to_Tree (a0:List Int) (a1:Int) (h:mz_Tree (a0,a1)≤4294967296):laws_toTree w (a0,a1)=some (a0,a1):=by
 apply laws_toTree_of
 simp only[mz_Tree]at h
 simp only[laws_toTree_raw,to_IntS a0 (by omega),Option.bind_some]
theorem to_StateS (a:List XState) (h:mz_StateS a≤4294967296):laws_toStateS w a=some a:=by
 apply laws_toStateS_of
 simp only[mz_StateS]at h
 have e:=loop_map a (fun x=>x) (fun i out=>laws_toStateS_k0 wl (a,(i:Int),out)) (fun out=>out)
  (fun i h1 out r ho hk=>by
    apply laws_toStateS_l0_of
    have hb:=sumL_get mz_State a i h1
    simp only[laws_toStateS_l0,ilt h1,ho,inb_of h1,rd1_get h1,inc h1 (show a.length≤maxLen by simp[maxLen];omega),cond_true,Int.toNat_natCast,to_State (a[i]).1 (a[i]).2 (show mz_State a[i]≤4294967296 by omega),Option.bind_some]
    exact hk)
  (fun out ho=>by
    apply laws_toStateS_l0_of
    simp only[laws_toStateS_l0,ilt_self,cond_false])
  (List.replicate a.length ([],[])) (by simp)
 rw[List.map_id']at e
 have hf:fits a.length 48=true:=fits_of (by omega)
 simp only[laws_toStateS_raw,Int.toNat_natCast,hf]
 simp
 exact e
theorem to_Log (a0:Int) (a1:Int) (a2:List XState) (h:mz_Log (a0,a1,a2)≤4294967296):laws_toLog w (a0,a1,a2)=some (a0,a1,a2):=by
 apply laws_toLog_of
 simp only[mz_Log]at h
 simp only[laws_toLog_raw,to_StateS a2 (by omega),Option.bind_some]
theorem to_IntSS (a:List (List Int)) (h:mz_IntSS a≤4294967296):laws_toIntSS w a=some a:=by
 apply laws_toIntSS_of
 simp only[mz_IntSS]at h
 have e:=loop_map a (fun x=>x) (fun i out=>laws_toIntSS_k0 wl (a,(i:Int),out)) (fun out=>out)
  (fun i h1 out r ho hk=>by
    apply laws_toIntSS_l0_of
    have hb:=sumL_get mz_IntS a i h1
    simp only[laws_toIntSS_l0,ilt h1,ho,inb_of h1,rd1_get h1,inc h1 (show a.length≤maxLen by simp[maxLen];omega),cond_true,Int.toNat_natCast,to_IntS a[i] (show mz_IntS a[i]≤4294967296 by omega),Option.bind_some]
    exact hk)
  (fun out ho=>by
    apply laws_toIntSS_l0_of
    simp only[laws_toIntSS_l0,ilt_self,cond_false])
  (List.replicate a.length []) (by simp)
 rw[List.map_id']at e
 have hf:fits a.length 24=true:=fits_of (by omega)
 simp only[laws_toIntSS_raw,Int.toNat_natCast,hf]
 simp
 exact e
theorem to_Sess (a0:Int) (a1:Int) (a2:Bool) (a3:Int):laws_toSess w (a0,a1,a2,a3)=some (a0,a1,a2,a3):=by
 apply laws_toSess_of
 simp only[laws_toSess_raw]
theorem to_SessS (a:List XSess) (h:mz_SessS a≤4294967296):laws_toSessS w a=some a:=by
 apply laws_toSessS_of
 simp only[mz_SessS]at h
 have e:=loop_map a (fun x=>x) (fun i out=>laws_toSessS_k0 wl (a,(i:Int),out)) (fun out=>out)
  (fun i h1 out r ho hk=>by
    apply laws_toSessS_l0_of
    simp only[laws_toSessS_l0,ilt h1,ho,inb_of h1,rd1_get h1,inc h1 (show a.length≤maxLen by simp[maxLen];omega),cond_true,Int.toNat_natCast,to_Sess (a[i]).1 (a[i]).2.1 (a[i]).2.2.1 (a[i]).2.2.2,Option.bind_some]
    exact hk)
  (fun out ho=>by
    apply laws_toSessS_l0_of
    simp only[laws_toSessS_l0,ilt_self,cond_false])
  (List.replicate a.length (0,0,false,0)) (by simp)
 rw[List.map_id']at e
 have hf:fits a.length 32=true:=fits_of (by omega)
 simp only[laws_toSessS_raw,Int.toNat_natCast,hf]
 simp
 exact e
theorem to_Rise (a0:Int) (a1:Int) (a2:Int):laws_toRise w (a0,a1,a2)=some (a0,a1,a2):=by
 apply laws_toRise_of
 simp only[laws_toRise_raw]
theorem to_RiseS (a:List XRise) (h:mz_RiseS a≤4294967296):laws_toRiseS w a=some a:=by
 apply laws_toRiseS_of
 simp only[mz_RiseS]at h
 have e:=loop_map a (fun x=>x) (fun i out=>laws_toRiseS_k0 wl (a,(i:Int),out)) (fun out=>out)
  (fun i h1 out r ho hk=>by
    apply laws_toRiseS_l0_of
    simp only[laws_toRiseS_l0,ilt h1,ho,inb_of h1,rd1_get h1,inc h1 (show a.length≤maxLen by simp[maxLen];omega),cond_true,Int.toNat_natCast,to_Rise (a[i]).1 (a[i]).2.1 (a[i]).2.2,Option.bind_some]
    exact hk)
  (fun out ho=>by
    apply laws_toRiseS_l0_of
    simp only[laws_toRiseS_l0,ilt_self,cond_false])
  (List.replicate a.length (0,0,0)) (by simp)
 rw[List.map_id']at e
 have hf:fits a.length 24=true:=fits_of (by omega)
 simp only[laws_toRiseS_raw,Int.toNat_natCast,hf]
 simp
 exact e
theorem to_Node (a0:Int) (a1:Int) (a2:List XItem) (a3:List XFloor) (a4:List Int) (a5:Int) (a6:Int) (a7:Int) (a8:List XState) (a9:List Int) (a10:List Int) (a11:List (List Int)) (a12:Int) (a13:Int) (a14:List XSess) (a15:Int) (a16:Int) (a17:Int) (a18:List XRise) (h:mz_Node (a0,a1,a2,a3,a4,a5,a6,a7,a8,a9,a10,a11,a12,a13,a14,a15,a16,a17,a18)≤4294967296):laws_toNode w (a0,a1,a2,a3,a4,a5,a6,a7,a8,a9,a10,a11,a12,a13,a14,a15,a16,a17,a18)=some (a0,a1,a2,a3,a4,a5,a6,a7,a8,a9,a10,a11,a12,a13,a14,a15,a16,a17,a18):=by
 apply laws_toNode_of
 simp only[mz_Node]at h
 simp only[laws_toNode_raw,to_State a2 a3 (by omega),to_Tree a4 a5 (by omega),to_Log a6 a7 a8 (by omega),to_IntS a9 (by omega),to_IntS a10 (by omega),to_IntSS a11 (by omega),to_SessS a14 (by omega),to_RiseS a18 (by omega),Option.bind_some]
theorem to_NodeS (a:List XNode) (h:mz_NodeS a≤4294967296):laws_toNodeS w a=some a:=by
 apply laws_toNodeS_of
 simp only[mz_NodeS]at h
 have e:=loop_map a (fun x=>x) (fun i out=>laws_toNodeS_k0 wl (a,(i:Int),out)) (fun out=>out)
  (fun i h1 out r ho hk=>by
    apply laws_toNodeS_l0_of
    have hb:=sumL_get mz_Node a i h1
    simp only[laws_toNodeS_l0,ilt h1,ho,inb_of h1,rd1_get h1,inc h1 (show a.length≤maxLen by simp[maxLen];omega),cond_true,Int.toNat_natCast,to_Node (a[i]).1 (a[i]).2.1 (a[i]).2.2.1 (a[i]).2.2.2.1 (a[i]).2.2.2.2.1 (a[i]).2.2.2.2.2.1 (a[i]).2.2.2.2.2.2.1 (a[i]).2.2.2.2.2.2.2.1 (a[i]).2.2.2.2.2.2.2.2.1 (a[i]).2.2.2.2.2.2.2.2.2.1 (a[i]).2.2.2.2.2.2.2.2.2.2.1 (a[i]).2.2.2.2.2.2.2.2.2.2.2.1 (a[i]).2.2.2.2.2.2.2.2.2.2.2.2.1 (a[i]).2.2.2.2.2.2.2.2.2.2.2.2.2.1 (a[i]).2.2.2.2.2.2.2.2.2.2.2.2.2.2.1 (a[i]).2.2.2.2.2.2.2.2.2.2.2.2.2.2.2.1 (a[i]).2.2.2.2.2.2.2.2.2.2.2.2.2.2.2.2.1 (a[i]).2.2.2.2.2.2.2.2.2.2.2.2.2.2.2.2.2.1 (a[i]).2.2.2.2.2.2.2.2.2.2.2.2.2.2.2.2.2.2 (show mz_Node a[i]≤4294967296 by omega),Option.bind_some]
    exact hk)
  (fun out ho=>by
    apply laws_toNodeS_l0_of
    simp only[laws_toNodeS_l0,ilt_self,cond_false])
  (List.replicate a.length (0,0,[],[],[],0,0,0,[],[],[],[],0,0,[],0,0,0,[])) (by simp)
 rw[List.map_id']at e
 have hf:fits a.length 296=true:=fits_of (by omega)
 simp only[laws_toNodeS_raw,Int.toNat_natCast,hf]
 simp
 exact e
theorem to_ByteS (a:List Int) (h:mz_ByteS a≤4294967296):laws_toByteS w a=some a:=by
 apply laws_toByteS_of
 simp only[mz_ByteS]at h
 have e:=loop_map a (fun x=>x) (fun i out=>laws_toByteS_k0 wl (a,(i:Int),out)) (fun out=>out)
  (fun i h1 out r ho hk=>by
    apply laws_toByteS_l0_of
    simp only[laws_toByteS_l0,ilt h1,ho,inb_of h1,rd1_get h1,inc h1 (show a.length≤maxLen by simp[maxLen];omega),cond_true,Int.toNat_natCast]
    exact hk)
  (fun out ho=>by
    apply laws_toByteS_l0_of
    simp only[laws_toByteS_l0,ilt_self,cond_false])
  (List.replicate a.length 0) (by simp)
 rw[List.map_id']at e
 have hf:fits a.length 1=true:=fits_of (by omega)
 simp only[laws_toByteS_raw,Int.toNat_natCast,hf]
 simp
 exact e
theorem to_Pack (a0:Int) (a1:List Int) (a2:Bool) (h:mz_Pack (a0,a1,a2)≤4294967296):laws_toPack w (a0,a1,a2)=some (a0,a1,a2):=by
 apply laws_toPack_of
 simp only[mz_Pack]at h
 simp only[laws_toPack_raw,to_ByteS a1 (by omega),Option.bind_some]
theorem to_PackS (a:List XPack) (h:mz_PackS a≤4294967296):laws_toPackS w a=some a:=by
 apply laws_toPackS_of
 simp only[mz_PackS]at h
 have e:=loop_map a (fun x=>x) (fun i out=>laws_toPackS_k0 wl (a,(i:Int),out)) (fun out=>out)
  (fun i h1 out r ho hk=>by
    apply laws_toPackS_l0_of
    have hb:=sumL_get mz_Pack a i h1
    simp only[laws_toPackS_l0,ilt h1,ho,inb_of h1,rd1_get h1,inc h1 (show a.length≤maxLen by simp[maxLen];omega),cond_true,Int.toNat_natCast,to_Pack (a[i]).1 (a[i]).2.1 (a[i]).2.2 (show mz_Pack a[i]≤4294967296 by omega),Option.bind_some]
    exact hk)
  (fun out ho=>by
    apply laws_toPackS_l0_of
    simp only[laws_toPackS_l0,ilt_self,cond_false])
  (List.replicate a.length (0,[],false)) (by simp)
 rw[List.map_id']at e
 have hf:fits a.length 40=true:=fits_of (by omega)
 simp only[laws_toPackS_raw,Int.toNat_natCast,hf]
 simp
 exact e
theorem to_Said (a0:Int) (a1:List XItem) (a2:List XFloor) (h:mz_Said (a0,a1,a2)≤4294967296):laws_toSaid w (a0,a1,a2)=some (a0,a1,a2):=by
 apply laws_toSaid_of
 simp only[mz_Said]at h
 simp only[laws_toSaid_raw,to_State a1 a2 (by omega),Option.bind_some]
theorem to_SaidS (a:List XSaid) (h:mz_SaidS a≤4294967296):laws_toSaidS w a=some a:=by
 apply laws_toSaidS_of
 simp only[mz_SaidS]at h
 have e:=loop_map a (fun x=>x) (fun i out=>laws_toSaidS_k0 wl (a,(i:Int),out)) (fun out=>out)
  (fun i h1 out r ho hk=>by
    apply laws_toSaidS_l0_of
    have hb:=sumL_get mz_Said a i h1
    simp only[laws_toSaidS_l0,ilt h1,ho,inb_of h1,rd1_get h1,inc h1 (show a.length≤maxLen by simp[maxLen];omega),cond_true,Int.toNat_natCast,to_Said (a[i]).1 (a[i]).2.1 (a[i]).2.2 (show mz_Said a[i]≤4294967296 by omega),Option.bind_some]
    exact hk)
  (fun out ho=>by
    apply laws_toSaidS_l0_of
    simp only[laws_toSaidS_l0,ilt_self,cond_false])
  (List.replicate a.length (0,[],[])) (by simp)
 rw[List.map_id']at e
 have hf:fits a.length 56=true:=fits_of (by omega)
 simp only[laws_toSaidS_raw,Int.toNat_natCast,hf]
 simp
 exact e
theorem to_World (a0:List XNode) (a1:List XPack) (a2:List XSaid) (h:mz_World (a0,a1,a2)≤4294967296):laws_toWorld w (a0,a1,a2)=some (a0,a1,a2):=by
 apply laws_toWorld_of
 simp only[mz_World]at h
 simp only[laws_toWorld_raw,to_NodeS a0 (by omega),to_PackS a1 (by omega),to_SaidS a2 (by omega),Option.bind_some]
theorem eq_Entry (a0:Int) (a1:Int) (a2:Int) (a3:Int) (a4:ByteArray) (h:mz_Entry (a0,a1,a2,a3,a4)≤4294967296):laws_eqEntry w (a0,a1,a2,a3,a4,a0,a1,a2,a3,a4)=some true:=by
 apply laws_eqEntry_of
 simp only[mz_Entry]at h
 simp only[laws_eqEntry_raw,decide_true,Bool.not_true,cond_false,beqS_refl,beq_self_eq_true,Option.bind_some]
theorem eq_Item (a0:Int) (a1:Int) (a2:Int) (a3:Int) (a4:Int) (a5:ByteArray) (h:mz_Item (a0,a1,a2,a3,a4,a5)≤4294967296):laws_eqItem w (a0,a1,a2,a3,a4,a5,a0,a1,a2,a3,a4,a5)=some true:=by
 apply laws_eqItem_of
 simp only[mz_Item]at h
 simp only[laws_eqItem_raw,eq_Entry a1 a2 a3 a4 a5 (by omega),decide_true,Bool.not_true,cond_false,beqS_refl,beq_self_eq_true,Option.bind_some]
theorem eq_ItemS (a:List XItem) (h:mz_ItemS a≤4294967296):laws_eqItemS w (a,a)=some true:=by
 apply laws_eqItemS_of
 simp only[mz_ItemS]at h
 have e:=loop_all a.length (fun i=>laws_eqItemS_k0 wl (a,a,(i:Int))) (.inr ())
  (fun i h1 r hk=>by
    apply laws_eqItemS_l0_of
    have hb:=sumL_get mz_Item a i h1
    simp only[laws_eqItemS_l0,ilt h1,inb_of h1,rd1_get h1,inc h1 (show a.length≤maxLen by simp[maxLen];omega),cond_true,decide_true,Bool.not_true,cond_false,beqS_refl,beq_self_eq_true,eq_Item (a[i]).1 (a[i]).2.1 (a[i]).2.2.1 (a[i]).2.2.2.1 (a[i]).2.2.2.2.1 (a[i]).2.2.2.2.2 (show mz_Item a[i]≤4294967296 by omega),Option.bind_some]
    exact hk)
  (by
    apply laws_eqItemS_l0_of
    simp only[laws_eqItemS_l0,ilt_self,cond_false])
 simp only[Int.natCast_zero]at e
 simp only[laws_eqItemS_raw,decide_true,Bool.not_true,cond_false,e,Option.bind_some,elimS,Sum.elim_inr]
theorem eq_Floor (a0:Int) (a1:Int):laws_eqFloor w (a0,a1,a0,a1)=some true:=by
 apply laws_eqFloor_of
 simp only[laws_eqFloor_raw,decide_true,Bool.not_true,cond_false,beqS_refl,beq_self_eq_true,Option.bind_some]
theorem eq_FloorS (a:List XFloor) (h:mz_FloorS a≤4294967296):laws_eqFloorS w (a,a)=some true:=by
 apply laws_eqFloorS_of
 simp only[mz_FloorS]at h
 have e:=loop_all a.length (fun i=>laws_eqFloorS_k0 wl (a,a,(i:Int))) (.inr ())
  (fun i h1 r hk=>by
    apply laws_eqFloorS_l0_of
    simp only[laws_eqFloorS_l0,ilt h1,inb_of h1,rd1_get h1,inc h1 (show a.length≤maxLen by simp[maxLen];omega),cond_true,decide_true,Bool.not_true,cond_false,beqS_refl,beq_self_eq_true,eq_Floor (a[i]).1 (a[i]).2,Option.bind_some]
    exact hk)
  (by
    apply laws_eqFloorS_l0_of
    simp only[laws_eqFloorS_l0,ilt_self,cond_false])
 simp only[Int.natCast_zero]at e
 simp only[laws_eqFloorS_raw,decide_true,Bool.not_true,cond_false,e,Option.bind_some,elimS,Sum.elim_inr]
theorem eq_State (a0:List XItem) (a1:List XFloor) (h:mz_State (a0,a1)≤4294967296):laws_eqState w (a0,a1,a0,a1)=some true:=by
 apply laws_eqState_of
 simp only[mz_State]at h
 simp only[laws_eqState_raw,eq_ItemS a0 (by omega),eq_FloorS a1 (by omega),decide_true,Bool.not_true,cond_false,beqS_refl,beq_self_eq_true,Option.bind_some]
theorem eq_IntS (a:List Int) (h:mz_IntS a≤4294967296):laws_eqIntS w (a,a)=some true:=by
 apply laws_eqIntS_of
 simp only[mz_IntS]at h
 have e:=loop_all a.length (fun i=>laws_eqIntS_k0 wl (a,a,(i:Int))) (.inr ())
  (fun i h1 r hk=>by
    apply laws_eqIntS_l0_of
    simp only[laws_eqIntS_l0,ilt h1,inb_of h1,rd1_get h1,inc h1 (show a.length≤maxLen by simp[maxLen];omega),cond_true,decide_true,Bool.not_true,cond_false,beqS_refl,beq_self_eq_true]
    exact hk)
  (by
    apply laws_eqIntS_l0_of
    simp only[laws_eqIntS_l0,ilt_self,cond_false])
 simp only[Int.natCast_zero]at e
 simp only[laws_eqIntS_raw,decide_true,Bool.not_true,cond_false,e,Option.bind_some,elimS,Sum.elim_inr]
theorem eq_Tree (a0:List Int) (a1:Int) (h:mz_Tree (a0,a1)≤4294967296):laws_eqTree w (a0,a1,a0,a1)=some true:=by
 apply laws_eqTree_of
 simp only[mz_Tree]at h
 simp only[laws_eqTree_raw,eq_IntS a0 (by omega),decide_true,Bool.not_true,cond_false,beqS_refl,beq_self_eq_true,Option.bind_some]
theorem eq_StateS (a:List XState) (h:mz_StateS a≤4294967296):laws_eqStateS w (a,a)=some true:=by
 apply laws_eqStateS_of
 simp only[mz_StateS]at h
 have e:=loop_all a.length (fun i=>laws_eqStateS_k0 wl (a,a,(i:Int))) (.inr ())
  (fun i h1 r hk=>by
    apply laws_eqStateS_l0_of
    have hb:=sumL_get mz_State a i h1
    simp only[laws_eqStateS_l0,ilt h1,inb_of h1,rd1_get h1,inc h1 (show a.length≤maxLen by simp[maxLen];omega),cond_true,decide_true,Bool.not_true,cond_false,beqS_refl,beq_self_eq_true,eq_State (a[i]).1 (a[i]).2 (show mz_State a[i]≤4294967296 by omega),Option.bind_some]
    exact hk)
  (by
    apply laws_eqStateS_l0_of
    simp only[laws_eqStateS_l0,ilt_self,cond_false])
 simp only[Int.natCast_zero]at e
 simp only[laws_eqStateS_raw,decide_true,Bool.not_true,cond_false,e,Option.bind_some,elimS,Sum.elim_inr]
theorem eq_Log (a0:Int) (a1:Int) (a2:List XState) (h:mz_Log (a0,a1,a2)≤4294967296):laws_eqLog w (a0,a1,a2,a0,a1,a2)=some true:=by
 apply laws_eqLog_of
 simp only[mz_Log]at h
 simp only[laws_eqLog_raw,eq_StateS a2 (by omega),decide_true,Bool.not_true,cond_false,beqS_refl,beq_self_eq_true,Option.bind_some]
theorem eq_IntSS (a:List (List Int)) (h:mz_IntSS a≤4294967296):laws_eqIntSS w (a,a)=some true:=by
 apply laws_eqIntSS_of
 simp only[mz_IntSS]at h
 have e:=loop_all a.length (fun i=>laws_eqIntSS_k0 wl (a,a,(i:Int))) (.inr ())
  (fun i h1 r hk=>by
    apply laws_eqIntSS_l0_of
    have hb:=sumL_get mz_IntS a i h1
    simp only[laws_eqIntSS_l0,ilt h1,inb_of h1,rd1_get h1,inc h1 (show a.length≤maxLen by simp[maxLen];omega),cond_true,decide_true,Bool.not_true,cond_false,beqS_refl,beq_self_eq_true,eq_IntS a[i] (show mz_IntS a[i]≤4294967296 by omega),Option.bind_some]
    exact hk)
  (by
    apply laws_eqIntSS_l0_of
    simp only[laws_eqIntSS_l0,ilt_self,cond_false])
 simp only[Int.natCast_zero]at e
 simp only[laws_eqIntSS_raw,decide_true,Bool.not_true,cond_false,e,Option.bind_some,elimS,Sum.elim_inr]
theorem eq_Sess (a0:Int) (a1:Int) (a2:Bool) (a3:Int):laws_eqSess w (a0,a1,a2,a3,a0,a1,a2,a3)=some true:=by
 apply laws_eqSess_of
 simp only[laws_eqSess_raw,decide_true,Bool.not_true,cond_false,beqS_refl,beq_self_eq_true,Option.bind_some]
theorem eq_SessS (a:List XSess) (h:mz_SessS a≤4294967296):laws_eqSessS w (a,a)=some true:=by
 apply laws_eqSessS_of
 simp only[mz_SessS]at h
 have e:=loop_all a.length (fun i=>laws_eqSessS_k0 wl (a,a,(i:Int))) (.inr ())
  (fun i h1 r hk=>by
    apply laws_eqSessS_l0_of
    simp only[laws_eqSessS_l0,ilt h1,inb_of h1,rd1_get h1,inc h1 (show a.length≤maxLen by simp[maxLen];omega),cond_true,decide_true,Bool.not_true,cond_false,beqS_refl,beq_self_eq_true,eq_Sess (a[i]).1 (a[i]).2.1 (a[i]).2.2.1 (a[i]).2.2.2,Option.bind_some]
    exact hk)
  (by
    apply laws_eqSessS_l0_of
    simp only[laws_eqSessS_l0,ilt_self,cond_false])
 simp only[Int.natCast_zero]at e
 simp only[laws_eqSessS_raw,decide_true,Bool.not_true,cond_false,e,Option.bind_some,elimS,Sum.elim_inr]
theorem eq_Rise (a0:Int) (a1:Int) (a2:Int):laws_eqRise w (a0,a1,a2,a0,a1,a2)=some true:=by
 apply laws_eqRise_of
 simp only[laws_eqRise_raw,decide_true,Bool.not_true,cond_false,beqS_refl,beq_self_eq_true,Option.bind_some]
theorem eq_RiseS (a:List XRise) (h:mz_RiseS a≤4294967296):laws_eqRiseS w (a,a)=some true:=by
 apply laws_eqRiseS_of
 simp only[mz_RiseS]at h
 have e:=loop_all a.length (fun i=>laws_eqRiseS_k0 wl (a,a,(i:Int))) (.inr ())
  (fun i h1 r hk=>by
    apply laws_eqRiseS_l0_of
    simp only[laws_eqRiseS_l0,ilt h1,inb_of h1,rd1_get h1,inc h1 (show a.length≤maxLen by simp[maxLen];omega),cond_true,decide_true,Bool.not_true,cond_false,beqS_refl,beq_self_eq_true,eq_Rise (a[i]).1 (a[i]).2.1 (a[i]).2.2,Option.bind_some]
    exact hk)
  (by
    apply laws_eqRiseS_l0_of
    simp only[laws_eqRiseS_l0,ilt_self,cond_false])
 simp only[Int.natCast_zero]at e
 simp only[laws_eqRiseS_raw,decide_true,Bool.not_true,cond_false,e,Option.bind_some,elimS,Sum.elim_inr]
theorem eq_Node (a0:Int) (a1:Int) (a2:List XItem) (a3:List XFloor) (a4:List Int) (a5:Int) (a6:Int) (a7:Int) (a8:List XState) (a9:List Int) (a10:List Int) (a11:List (List Int)) (a12:Int) (a13:Int) (a14:List XSess) (a15:Int) (a16:Int) (a17:Int) (a18:List XRise) (h:mz_Node (a0,a1,a2,a3,a4,a5,a6,a7,a8,a9,a10,a11,a12,a13,a14,a15,a16,a17,a18)≤4294967296):laws_eqNode w (a0,a1,a2,a3,a4,a5,a6,a7,a8,a9,a10,a11,a12,a13,a14,a15,a16,a17,a18,a0,a1,a2,a3,a4,a5,a6,a7,a8,a9,a10,a11,a12,a13,a14,a15,a16,a17,a18)=some true:=by
 apply laws_eqNode_of
 simp only[mz_Node]at h
 simp only[laws_eqNode_raw,eq_State a2 a3 (by omega),eq_Tree a4 a5 (by omega),eq_Log a6 a7 a8 (by omega),eq_IntS a9 (by omega),eq_IntS a10 (by omega),eq_IntSS a11 (by omega),eq_SessS a14 (by omega),eq_RiseS a18 (by omega),decide_true,Bool.not_true,cond_false,beqS_refl,beq_self_eq_true,Option.bind_some]
theorem eq_NodeS (a:List XNode) (h:mz_NodeS a≤4294967296):laws_eqNodeS w (a,a)=some true:=by
 apply laws_eqNodeS_of
 simp only[mz_NodeS]at h
 have e:=loop_all a.length (fun i=>laws_eqNodeS_k0 wl (a,a,(i:Int))) (.inr ())
  (fun i h1 r hk=>by
    apply laws_eqNodeS_l0_of
    have hb:=sumL_get mz_Node a i h1
    simp only[laws_eqNodeS_l0,ilt h1,inb_of h1,rd1_get h1,inc h1 (show a.length≤maxLen by simp[maxLen];omega),cond_true,decide_true,Bool.not_true,cond_false,beqS_refl,beq_self_eq_true,eq_Node (a[i]).1 (a[i]).2.1 (a[i]).2.2.1 (a[i]).2.2.2.1 (a[i]).2.2.2.2.1 (a[i]).2.2.2.2.2.1 (a[i]).2.2.2.2.2.2.1 (a[i]).2.2.2.2.2.2.2.1 (a[i]).2.2.2.2.2.2.2.2.1 (a[i]).2.2.2.2.2.2.2.2.2.1 (a[i]).2.2.2.2.2.2.2.2.2.2.1 (a[i]).2.2.2.2.2.2.2.2.2.2.2.1 (a[i]).2.2.2.2.2.2.2.2.2.2.2.2.1 (a[i]).2.2.2.2.2.2.2.2.2.2.2.2.2.1 (a[i]).2.2.2.2.2.2.2.2.2.2.2.2.2.2.1 (a[i]).2.2.2.2.2.2.2.2.2.2.2.2.2.2.2.1 (a[i]).2.2.2.2.2.2.2.2.2.2.2.2.2.2.2.2.1 (a[i]).2.2.2.2.2.2.2.2.2.2.2.2.2.2.2.2.2.1 (a[i]).2.2.2.2.2.2.2.2.2.2.2.2.2.2.2.2.2.2 (show mz_Node a[i]≤4294967296 by omega),Option.bind_some]
    exact hk)
  (by
    apply laws_eqNodeS_l0_of
    simp only[laws_eqNodeS_l0,ilt_self,cond_false])
 simp only[Int.natCast_zero]at e
 simp only[laws_eqNodeS_raw,decide_true,Bool.not_true,cond_false,e,Option.bind_some,elimS,Sum.elim_inr]
theorem eq_ByteS (a:List Int) (h:mz_ByteS a≤4294967296):laws_eqByteS w (a,a)=some true:=by
 apply laws_eqByteS_of
 simp only[mz_ByteS]at h
 have e:=loop_all a.length (fun i=>laws_eqByteS_k0 wl (a,a,(i:Int))) (.inr ())
  (fun i h1 r hk=>by
    apply laws_eqByteS_l0_of
    simp only[laws_eqByteS_l0,ilt h1,inb_of h1,rd1_get h1,inc h1 (show a.length≤maxLen by simp[maxLen];omega),cond_true,decide_true,Bool.not_true,cond_false,beqS_refl,beq_self_eq_true]
    exact hk)
  (by
    apply laws_eqByteS_l0_of
    simp only[laws_eqByteS_l0,ilt_self,cond_false])
 simp only[Int.natCast_zero]at e
 simp only[laws_eqByteS_raw,decide_true,Bool.not_true,cond_false,e,Option.bind_some,elimS,Sum.elim_inr]
theorem eq_Pack (a0:Int) (a1:List Int) (a2:Bool) (h:mz_Pack (a0,a1,a2)≤4294967296):laws_eqPack w (a0,a1,a2,a0,a1,a2)=some true:=by
 apply laws_eqPack_of
 simp only[mz_Pack]at h
 simp only[laws_eqPack_raw,eq_ByteS a1 (by omega),decide_true,Bool.not_true,cond_false,beqS_refl,beq_self_eq_true,Option.bind_some]
theorem eq_PackS (a:List XPack) (h:mz_PackS a≤4294967296):laws_eqPackS w (a,a)=some true:=by
 apply laws_eqPackS_of
 simp only[mz_PackS]at h
 have e:=loop_all a.length (fun i=>laws_eqPackS_k0 wl (a,a,(i:Int))) (.inr ())
  (fun i h1 r hk=>by
    apply laws_eqPackS_l0_of
    have hb:=sumL_get mz_Pack a i h1
    simp only[laws_eqPackS_l0,ilt h1,inb_of h1,rd1_get h1,inc h1 (show a.length≤maxLen by simp[maxLen];omega),cond_true,decide_true,Bool.not_true,cond_false,beqS_refl,beq_self_eq_true,eq_Pack (a[i]).1 (a[i]).2.1 (a[i]).2.2 (show mz_Pack a[i]≤4294967296 by omega),Option.bind_some]
    exact hk)
  (by
    apply laws_eqPackS_l0_of
    simp only[laws_eqPackS_l0,ilt_self,cond_false])
 simp only[Int.natCast_zero]at e
 simp only[laws_eqPackS_raw,decide_true,Bool.not_true,cond_false,e,Option.bind_some,elimS,Sum.elim_inr]
theorem eq_Said (a0:Int) (a1:List XItem) (a2:List XFloor) (h:mz_Said (a0,a1,a2)≤4294967296):laws_eqSaid w (a0,a1,a2,a0,a1,a2)=some true:=by
 apply laws_eqSaid_of
 simp only[mz_Said]at h
 simp only[laws_eqSaid_raw,eq_State a1 a2 (by omega),decide_true,Bool.not_true,cond_false,beqS_refl,beq_self_eq_true,Option.bind_some]
theorem eq_SaidS (a:List XSaid) (h:mz_SaidS a≤4294967296):laws_eqSaidS w (a,a)=some true:=by
 apply laws_eqSaidS_of
 simp only[mz_SaidS]at h
 have e:=loop_all a.length (fun i=>laws_eqSaidS_k0 wl (a,a,(i:Int))) (.inr ())
  (fun i h1 r hk=>by
    apply laws_eqSaidS_l0_of
    have hb:=sumL_get mz_Said a i h1
    simp only[laws_eqSaidS_l0,ilt h1,inb_of h1,rd1_get h1,inc h1 (show a.length≤maxLen by simp[maxLen];omega),cond_true,decide_true,Bool.not_true,cond_false,beqS_refl,beq_self_eq_true,eq_Said (a[i]).1 (a[i]).2.1 (a[i]).2.2 (show mz_Said a[i]≤4294967296 by omega),Option.bind_some]
    exact hk)
  (by
    apply laws_eqSaidS_l0_of
    simp only[laws_eqSaidS_l0,ilt_self,cond_false])
 simp only[Int.natCast_zero]at e
 simp only[laws_eqSaidS_raw,decide_true,Bool.not_true,cond_false,e,Option.bind_some,elimS,Sum.elim_inr]
theorem eq_World (a0:List XNode) (a1:List XPack) (a2:List XSaid) (h:mz_World (a0,a1,a2)≤4294967296):laws_eqWorld w (a0,a1,a2,a0,a1,a2)=some true:=by
 apply laws_eqWorld_of
 simp only[mz_World]at h
 simp only[laws_eqWorld_raw,eq_NodeS a0 (by omega),eq_PackS a1 (by omega),eq_SaidS a2 (by omega),decide_true,Bool.not_true,cond_false,beqS_refl,beq_self_eq_true,Option.bind_some]
theorem markText_loop:∀(n:Nat) (k:Int) (out:ByteArray),0≤k→k≤9223372036854775807→k<10^n→ByteArray.size out+n≤100000→∃r,laws_markText_k0 wl (k,out)=some r∧ByteArray.size r≤100000:=by
 intro n
 induction n with
 |zero=>
  intro k out h0 hm h1 h2
  have:k=0:=by omega
  subst this
  refine⟨out, ?_,by omega⟩
  apply laws_markText_l0_of
  simp only[laws_markText_l0,df (show¬(0:Int)<0 by omega),cond_false]
 |succ n ih=>
  intro k out h0 hm h1 h2
  by_cases hk:0<k
  ·have hd:=Int.tdiv_eq_ediv_of_nonneg (b:=10) h0
   obtain⟨r,hr,hs⟩:=ih (Int.tdiv k 10) (toBytes [IntKind.wrap .u8 (IntKind.wrap .i64 (48+Int.tmod k 10))]++out) (by omega) (by omega) (by rw[Int.pow_succ]at h1;omega) (by rw[ByteArray.size_append,toBytes_size];simp;omega)
   refine⟨r, ?_,hs⟩
   apply laws_markText_l0_of
   simp only[laws_markText_l0,dt hk,cond_true,dt (show(10:Int)≠0 by omega),toBytes_size,fits_of (show(List.length [IntKind.wrap .u8 (IntKind.wrap .i64 (48+Int.tmod k 10))]+ByteArray.size out)*1≤140737488351232 by simp;omega)]
   rw[w64 (n:=Int.tdiv k 10) (by omega) (by omega)]
   exact hr
  ·have:k=0:=by omega
   subst this
   refine⟨out, ?_,by omega⟩
   apply laws_markText_l0_of
   simp only[laws_markText_l0,df (show¬(0:Int)<0 by omega),cond_false]
noncomputable def markT (k:Int):ByteArray:=(laws_markText w k).getD ByteArray.empty
theorem markText_ok (k:Int) (h0:0<k) (hm:k≤9223372036854775807):laws_markText w k=some (markT k):=by
 obtain⟨r,hr,hs⟩:=markText_loop 30 k (⟨#[]⟩:ByteArray) (by omega) hm (by omega) (by show 0+30≤100000;omega)
 have:laws_markText w k=some ((⟨#[109]⟩:ByteArray)++r):=by
  apply laws_markText_of
  have h1:ByteArray.size (⟨#[109]⟩:ByteArray)=1:=rfl
  simp only[laws_markText_raw,df (show¬k≤0 by omega),cond_false,hr,Option.bind_some,fits_of (show(ByteArray.size (⟨#[109]⟩:ByteArray)+ByteArray.size r)*1≤140737488351232 by omega),cond_true]
 rw[markT,this];rfl
noncomputable def mkf_Entry (x:XEntry) (n:Int):XEntry:=(n,(n+1),((n+1)+1),(((n+1)+1)+1),markT ((((n+1)+1)+1)+1))
def mkc_Entry (x:XEntry):Nat:=5
theorem mkc_le_Entry (x:XEntry):mkc_Entry x≤64*(mz_Entry x+1):=by
 simp only[mkc_Entry,mz_Entry];omega
noncomputable def mkf_Item (x:XItem) (n:Int):XItem:=(n,(n+1),((n+1)+1),(((n+1)+1)+1),((((n+1)+1)+1)+1),markT (((((n+1)+1)+1)+1)+1))
def mkc_Item (x:XItem):Nat:=6
theorem mkc_le_Item (x:XItem):mkc_Item x≤64*(mz_Item x+1):=by
 simp only[mkc_Item,mz_Entry,mz_Item];omega
theorem sumc_ItemS (a:List XItem):sumL mkc_Item a≤64*mz_ItemS a:=by
 have h:=sumL_lin mkc_Item mz_Item (fun x=>mkc_le_Item x) a
 simp only[mz_ItemS];omega
theorem mark_ItemS (a:List XItem) (k:Int) (hk:0<k) (hs:k+((sumL mkc_Item a:Nat):Int)≤1152921504606846976) (h:mz_ItemS a≤4294967296):laws_markItemS w (a,k)=some (k+((sumL mkc_Item a:Nat):Int),markL mkf_Item mkc_Item a k):=by
 apply laws_markItemS_of
 simp only[mz_ItemS]at h
 have e:=loop_mark mkf_Item mkc_Item a (fun k i ys=>laws_markItemS_k0 wl (k,(i:Int),ys)) (fun k ys=>(k,ys)) 1152921504606846976
  (fun k i ys h1 r hy hm h0 hB hk=>by
    apply laws_markItemS_l0_of
    have hb:=sumL_mem mz_Item hm
    simp only[mkc_Item]at hB
    have hw0:IntKind.wrap .i64 (k+1)=k+1:=w64 (by omega) (by omega)
    have hw1:IntKind.wrap .i64 ((k+1)+1)=(k+1)+1:=w64 (by omega) (by omega)
    have hw2:IntKind.wrap .i64 (((k+1)+1)+1)=((k+1)+1)+1:=w64 (by omega) (by omega)
    have hw3:IntKind.wrap .i64 ((((k+1)+1)+1)+1)=(((k+1)+1)+1)+1:=w64 (by omega) (by omega)
    have hw4:IntKind.wrap .i64 (((((k+1)+1)+1)+1)+1)=((((k+1)+1)+1)+1)+1:=w64 (by omega) (by omega)
    have hw5:IntKind.wrap .i64 ((((((k+1)+1)+1)+1)+1)+1)=(((((k+1)+1)+1)+1)+1)+1:=w64 (by omega) (by omega)
    have ht5:=markText_ok (((((k+1)+1)+1)+1)+1) (by omega) (by omega)
    simp only[laws_markItemS_l0,ilt h1,inb_of h1,rd1_get h1,rd1_set h1,List.length_set,List.set_set,inc h1 (show ys.length≤maxLen by simp[maxLen];omega),cond_true,Int.toNat_natCast,Option.bind_some,dt (show(3:Int)≠0 by omega),hw0,hw1,hw2,hw3,hw4,hw5,ht5]
    have hk:laws_markItemS_k0 wl (k+((6:Nat):Int),((i+1:Nat):Int),ys.set i (k,(k+1),((k+1)+1),(((k+1)+1)+1),((((k+1)+1)+1)+1),markT (((((k+1)+1)+1)+1)+1)))=some r:=hk
    rw[show k+((6:Nat):Int)=((((((k+1)+1)+1)+1)+1)+1) by omega]at hk
    exact hk)
  (fun k ys hy=>by
    apply laws_markItemS_l0_of
    simp only[laws_markItemS_l0,←hy,ilt_self,cond_false])
  k hk hs
 simp only[Int.natCast_zero]at e
 simp only[laws_markItemS_raw,e,Option.bind_some]
theorem held_ItemS (a:List XItem) (k:Int) (hk:0<k) (hs:k+((sumL mkc_Item a:Nat):Int)≤1152921504606846976) (h:mz_ItemS a≤4294967296):laws_heldItemS w (markL mkf_Item mkc_Item a k,k)=some (k+((sumL mkc_Item a:Nat):Int)):=by
 apply laws_heldItemS_of
 simp only[mz_ItemS]at h
 have hl:(markL mkf_Item mkc_Item a k).length=a.length:=markL_length _ _ a k
 have e:=loop_held mkf_Item mkc_Item a k (fun l i=>laws_heldItemS_k0 wl ((markL mkf_Item mkc_Item a k),l,(i:Int))) 1152921504606846976
  (fun k1 i h1 x r hx hm h0 hB hk=>by
    apply laws_heldItemS_l0_of
    have hb:=sumL_mem mz_Item hx
    simp only[mkc_Item]at hB
    simp only[mkf_Item]at hm
    have hw0:IntKind.wrap .i64 (k1+1)=k1+1:=w64 (by omega) (by omega)
    have hw1:IntKind.wrap .i64 ((k1+1)+1)=(k1+1)+1:=w64 (by omega) (by omega)
    have hw2:IntKind.wrap .i64 (((k1+1)+1)+1)=((k1+1)+1)+1:=w64 (by omega) (by omega)
    have hw3:IntKind.wrap .i64 ((((k1+1)+1)+1)+1)=(((k1+1)+1)+1)+1:=w64 (by omega) (by omega)
    have hw4:IntKind.wrap .i64 (((((k1+1)+1)+1)+1)+1)=((((k1+1)+1)+1)+1)+1:=w64 (by omega) (by omega)
    have hw5:IntKind.wrap .i64 ((((((k1+1)+1)+1)+1)+1)+1)=(((((k1+1)+1)+1)+1)+1)+1:=w64 (by omega) (by omega)
    have ht5:=markText_ok (((((k1+1)+1)+1)+1)+1) (by omega) (by omega)
    simp only[laws_heldItemS_l0,ilt h1,inb_of h1,rd1_get h1,hm,inc h1 (show(markL mkf_Item mkc_Item a k).length≤maxLen by rw[hl];simp[maxLen];omega),cond_true,cond_false,decide_true,Bool.not_true,beqS_refl,beq_self_eq_true,Option.bind_some,dt (show(3:Int)≠0 by omega),hw0,hw1,hw2,hw3,hw4,hw5,ht5]
    have hk:laws_heldItemS_k0 wl ((markL mkf_Item mkc_Item a k),k1+((6:Nat):Int),((i+1:Nat):Int))=some r:=hk
    rw[show k1+((6:Nat):Int)=((((((k1+1)+1)+1)+1)+1)+1) by omega]at hk
    exact hk)
  (fun l=>by
    apply laws_heldItemS_l0_of
    simp only[laws_heldItemS_l0,hl,ilt_self,cond_false])
  hk hs
 simp only[Int.natCast_zero]at e
 simp only[laws_heldItemS_raw,e,Option.bind_some,elimS,Sum.elim_inr]
noncomputable def mkf_Floor (x:XFloor) (n:Int):XFloor:=(n,(n+1))
def mkc_Floor (x:XFloor):Nat:=2
theorem mkc_le_Floor (x:XFloor):mkc_Floor x≤64:=by
 simp only[mkc_Floor];omega
theorem sumc_FloorS (a:List XFloor):sumL mkc_Floor a≤64*mz_FloorS a:=by
 have h:=sumL_lin0 mkc_Floor (fun x=>mkc_le_Floor x) a
 simp only[mz_FloorS];omega
theorem mark_FloorS (a:List XFloor) (k:Int) (hk:0<k) (hs:k+((sumL mkc_Floor a:Nat):Int)≤1152921504606846976) (h:mz_FloorS a≤4294967296):laws_markFloorS w (a,k)=some (k+((sumL mkc_Floor a:Nat):Int),markL mkf_Floor mkc_Floor a k):=by
 apply laws_markFloorS_of
 simp only[mz_FloorS]at h
 have e:=loop_mark mkf_Floor mkc_Floor a (fun k i ys=>laws_markFloorS_k0 wl (k,(i:Int),ys)) (fun k ys=>(k,ys)) 1152921504606846976
  (fun k i ys h1 r hy hm h0 hB hk=>by
    apply laws_markFloorS_l0_of
    simp only[mkc_Floor]at hB
    have hw0:IntKind.wrap .i64 (k+1)=k+1:=w64 (by omega) (by omega)
    have hw1:IntKind.wrap .i64 ((k+1)+1)=(k+1)+1:=w64 (by omega) (by omega)
    simp only[laws_markFloorS_l0,ilt h1,inb_of h1,rd1_get h1,rd1_set h1,List.length_set,List.set_set,inc h1 (show ys.length≤maxLen by simp[maxLen];omega),cond_true,Int.toNat_natCast,Option.bind_some,dt (show(3:Int)≠0 by omega),hw0,hw1]
    have hk:laws_markFloorS_k0 wl (k+((2:Nat):Int),((i+1:Nat):Int),ys.set i (k,(k+1)))=some r:=hk
    rw[show k+((2:Nat):Int)=((k+1)+1) by omega]at hk
    exact hk)
  (fun k ys hy=>by
    apply laws_markFloorS_l0_of
    simp only[laws_markFloorS_l0,←hy,ilt_self,cond_false])
  k hk hs
 simp only[Int.natCast_zero]at e
 simp only[laws_markFloorS_raw,e,Option.bind_some]
theorem held_FloorS (a:List XFloor) (k:Int) (hk:0<k) (hs:k+((sumL mkc_Floor a:Nat):Int)≤1152921504606846976) (h:mz_FloorS a≤4294967296):laws_heldFloorS w (markL mkf_Floor mkc_Floor a k,k)=some (k+((sumL mkc_Floor a:Nat):Int)):=by
 apply laws_heldFloorS_of
 simp only[mz_FloorS]at h
 have hl:(markL mkf_Floor mkc_Floor a k).length=a.length:=markL_length _ _ a k
 have e:=loop_held mkf_Floor mkc_Floor a k (fun l i=>laws_heldFloorS_k0 wl ((markL mkf_Floor mkc_Floor a k),l,(i:Int))) 1152921504606846976
  (fun k1 i h1 x r hx hm h0 hB hk=>by
    apply laws_heldFloorS_l0_of
    simp only[mkc_Floor]at hB
    simp only[mkf_Floor]at hm
    have hw0:IntKind.wrap .i64 (k1+1)=k1+1:=w64 (by omega) (by omega)
    have hw1:IntKind.wrap .i64 ((k1+1)+1)=(k1+1)+1:=w64 (by omega) (by omega)
    simp only[laws_heldFloorS_l0,ilt h1,inb_of h1,rd1_get h1,hm,inc h1 (show(markL mkf_Floor mkc_Floor a k).length≤maxLen by rw[hl];simp[maxLen];omega),cond_true,cond_false,decide_true,Bool.not_true,beqS_refl,beq_self_eq_true,Option.bind_some,dt (show(3:Int)≠0 by omega),hw0,hw1]
    have hk:laws_heldFloorS_k0 wl ((markL mkf_Floor mkc_Floor a k),k1+((2:Nat):Int),((i+1:Nat):Int))=some r:=hk
    rw[show k1+((2:Nat):Int)=((k1+1)+1) by omega]at hk
    exact hk)
  (fun l=>by
    apply laws_heldFloorS_l0_of
    simp only[laws_heldFloorS_l0,hl,ilt_self,cond_false])
  hk hs
 simp only[Int.natCast_zero]at e
 simp only[laws_heldFloorS_raw,e,Option.bind_some,elimS,Sum.elim_inr]
noncomputable def mkf_State (x:XState) (n:Int):XState:=(markL mkf_Item mkc_Item x.1 n,markL mkf_Floor mkc_Floor x.2 (n+((sumL mkc_Item x.1:Nat):Int)))
def mkc_State (x:XState):Nat:=sumL mkc_Item x.1+sumL mkc_Floor x.2
theorem mkc_le_State (x:XState):mkc_State x≤64*(mz_State x+1):=by
 have h0:=sumc_ItemS x.1
 have h1:=sumc_FloorS x.2
 simp only[mkc_State,mz_State];omega
theorem sumc_IntS (a:List Int):sumL (fun _=>1) a≤64*mz_IntS a:=by
 have h:=sumL_lin0 (fun _=>1) (fun _=>by omega) a
 simp only[mz_IntS];omega
theorem mark_IntS (a:List Int) (k:Int) (hk:0<k) (hs:k+((sumL (fun _=>1) a:Nat):Int)≤1152921504606846976) (h:mz_IntS a≤4294967296):laws_markIntS w (a,k)=some (k+((sumL (fun _=>1) a:Nat):Int),markL (fun _ n=>n) (fun _=>1) a k):=by
 apply laws_markIntS_of
 simp only[mz_IntS]at h
 have e:=loop_mark (fun _ n=>n) (fun _=>1) a (fun k i ys=>laws_markIntS_k0 wl (k,(i:Int),ys)) (fun k ys=>(k,ys)) 1152921504606846976
  (fun k i ys h1 r hy hm h0 hB hk=>by
    apply laws_markIntS_l0_of
    have hw0:IntKind.wrap .i64 (k+1)=k+1:=w64 (by omega) (by omega)
    simp only[laws_markIntS_l0,ilt h1,inb_of h1,rd1_get h1,rd1_set h1,List.length_set,List.set_set,inc h1 (show ys.length≤maxLen by simp[maxLen];omega),cond_true,Int.toNat_natCast,Option.bind_some,dt (show(3:Int)≠0 by omega),hw0]
    have hk:laws_markIntS_k0 wl (k+((1:Nat):Int),((i+1:Nat):Int),ys.set i k)=some r:=hk
    rw[show k+((1:Nat):Int)=(k+1) by omega]at hk
    exact hk)
  (fun k ys hy=>by
    apply laws_markIntS_l0_of
    simp only[laws_markIntS_l0,←hy,ilt_self,cond_false])
  k hk hs
 simp only[Int.natCast_zero]at e
 simp only[laws_markIntS_raw,e,Option.bind_some]
theorem held_IntS (a:List Int) (k:Int) (hk:0<k) (hs:k+((sumL (fun _=>1) a:Nat):Int)≤1152921504606846976) (h:mz_IntS a≤4294967296):laws_heldIntS w (markL (fun _ n=>n) (fun _=>1) a k,k)=some (k+((sumL (fun _=>1) a:Nat):Int)):=by
 apply laws_heldIntS_of
 simp only[mz_IntS]at h
 have hl:(markL (fun _ n=>n) (fun _=>1) a k).length=a.length:=markL_length _ _ a k
 have e:=loop_held (fun _ n=>n) (fun _=>1) a k (fun l i=>laws_heldIntS_k0 wl ((markL (fun _ n=>n) (fun _=>1) a k),l,(i:Int))) 1152921504606846976
  (fun k1 i h1 x r hx hm h0 hB hk=>by
    apply laws_heldIntS_l0_of
    have hw0:IntKind.wrap .i64 (k1+1)=k1+1:=w64 (by omega) (by omega)
    simp only[laws_heldIntS_l0,ilt h1,inb_of h1,rd1_get h1,hm,inc h1 (show(markL (fun _ n=>n) (fun _=>1) a k).length≤maxLen by rw[hl];simp[maxLen];omega),cond_true,cond_false,decide_true,Bool.not_true,beqS_refl,beq_self_eq_true,Option.bind_some,dt (show(3:Int)≠0 by omega),hw0]
    have hk:laws_heldIntS_k0 wl ((markL (fun _ n=>n) (fun _=>1) a k),k1+((1:Nat):Int),((i+1:Nat):Int))=some r:=hk
    rw[show k1+((1:Nat):Int)=(k1+1) by omega]at hk
    exact hk)
  (fun l=>by
    apply laws_heldIntS_l0_of
    simp only[laws_heldIntS_l0,hl,ilt_self,cond_false])
  hk hs
 simp only[Int.natCast_zero]at e
 simp only[laws_heldIntS_raw,e,Option.bind_some,elimS,Sum.elim_inr]
noncomputable def mkf_Tree (x:XTree) (n:Int):XTree:=(markL (fun _ n=>n) (fun _=>1) x.1 n,(n+((sumL (fun _=>1) x.1:Nat):Int)))
def mkc_Tree (x:XTree):Nat:=1+sumL (fun _=>1) x.1
theorem mkc_le_Tree (x:XTree):mkc_Tree x≤64*(mz_Tree x+1):=by
 have h0:=sumc_IntS x.1
 simp only[mkc_Tree,mz_Tree];omega
theorem sumc_StateS (a:List XState):sumL mkc_State a≤64*mz_StateS a:=by
 have h:=sumL_lin mkc_State mz_State (fun x=>mkc_le_State x) a
 simp only[mz_StateS];omega
theorem mark_StateS (a:List XState) (k:Int) (hk:0<k) (hs:k+((sumL mkc_State a:Nat):Int)≤1152921504606846976) (h:mz_StateS a≤4294967296):laws_markStateS w (a,k)=some (k+((sumL mkc_State a:Nat):Int),markL mkf_State mkc_State a k):=by
 apply laws_markStateS_of
 simp only[mz_StateS]at h
 have e:=loop_mark mkf_State mkc_State a (fun k i ys=>laws_markStateS_k0 wl (k,(i:Int),ys)) (fun k ys=>(k,ys)) 1152921504606846976
  (fun k i ys h1 r hy hm h0 hB hk=>by
    apply laws_markStateS_l0_of
    have hb:=sumL_mem mz_State hm
    simp only[mkc_State]at hB
    simp only[mz_State]at hb
    simp only[laws_markStateS_l0,ilt h1,inb_of h1,rd1_get h1,rd1_set h1,List.length_set,List.set_set,inc h1 (show ys.length≤maxLen by simp[maxLen];omega),cond_true,Int.toNat_natCast,Option.bind_some,dt (show(3:Int)≠0 by omega),mark_ItemS ((ys[i]).1) k (by omega) (by omega) (by first|omega|(simp only[mz_ItemS];omega)),mark_FloorS ((ys[i]).2) (k+((sumL mkc_Item ((ys[i]).1):Nat):Int)) (by omega) (by omega) (by first|omega|(simp only[mz_FloorS];omega))]
    have hk:laws_markStateS_k0 wl (k+((sumL mkc_Item ((ys[i]).1)+sumL mkc_Floor ((ys[i]).2):Nat):Int),((i+1:Nat):Int),ys.set i (markL mkf_Item mkc_Item ((ys[i]).1) k,markL mkf_Floor mkc_Floor ((ys[i]).2) (k+((sumL mkc_Item ((ys[i]).1):Nat):Int))))=some r:=hk
    rw[show k+((sumL mkc_Item ((ys[i]).1)+sumL mkc_Floor ((ys[i]).2):Nat):Int)=((k+((sumL mkc_Item ((ys[i]).1):Nat):Int))+((sumL mkc_Floor ((ys[i]).2):Nat):Int)) by omega]at hk
    exact hk)
  (fun k ys hy=>by
    apply laws_markStateS_l0_of
    simp only[laws_markStateS_l0,←hy,ilt_self,cond_false])
  k hk hs
 simp only[Int.natCast_zero]at e
 simp only[laws_markStateS_raw,e,Option.bind_some]
theorem held_StateS (a:List XState) (k:Int) (hk:0<k) (hs:k+((sumL mkc_State a:Nat):Int)≤1152921504606846976) (h:mz_StateS a≤4294967296):laws_heldStateS w (markL mkf_State mkc_State a k,k)=some (k+((sumL mkc_State a:Nat):Int)):=by
 apply laws_heldStateS_of
 simp only[mz_StateS]at h
 have hl:(markL mkf_State mkc_State a k).length=a.length:=markL_length _ _ a k
 have e:=loop_held mkf_State mkc_State a k (fun l i=>laws_heldStateS_k0 wl ((markL mkf_State mkc_State a k),l,(i:Int))) 1152921504606846976
  (fun k1 i h1 x r hx hm h0 hB hk=>by
    apply laws_heldStateS_l0_of
    have hb:=sumL_mem mz_State hx
    simp only[mkc_State]at hB
    simp only[mkf_State]at hm
    simp only[mz_State]at hb
    simp only[laws_heldStateS_l0,ilt h1,inb_of h1,rd1_get h1,hm,inc h1 (show(markL mkf_State mkc_State a k).length≤maxLen by rw[hl];simp[maxLen];omega),cond_true,cond_false,decide_true,Bool.not_true,beqS_refl,beq_self_eq_true,Option.bind_some,dt (show(3:Int)≠0 by omega),held_ItemS x.1 k1 (by omega) (by omega) (by first|omega|(simp only[mz_ItemS];omega)),df (show¬((k1+((sumL mkc_Item x.1:Nat):Int)):Int)<0 by omega),held_FloorS x.2 (k1+((sumL mkc_Item x.1:Nat):Int)) (by omega) (by omega) (by first|omega|(simp only[mz_FloorS];omega)),df (show¬(((k1+((sumL mkc_Item x.1:Nat):Int))+((sumL mkc_Floor x.2:Nat):Int)):Int)<0 by omega)]
    have hk:laws_heldStateS_k0 wl ((markL mkf_State mkc_State a k),k1+((sumL mkc_Item x.1+sumL mkc_Floor x.2:Nat):Int),((i+1:Nat):Int))=some r:=hk
    rw[show k1+((sumL mkc_Item x.1+sumL mkc_Floor x.2:Nat):Int)=((k1+((sumL mkc_Item x.1:Nat):Int))+((sumL mkc_Floor x.2:Nat):Int)) by omega]at hk
    exact hk)
  (fun l=>by
    apply laws_heldStateS_l0_of
    simp only[laws_heldStateS_l0,hl,ilt_self,cond_false])
  hk hs
 simp only[Int.natCast_zero]at e
 simp only[laws_heldStateS_raw,e,Option.bind_some,elimS,Sum.elim_inr]
noncomputable def mkf_Log (x:XLog) (n:Int):XLog:=(n,(n+1),markL mkf_State mkc_State x.2.2 ((n+1)+1))
def mkc_Log (x:XLog):Nat:=2+sumL mkc_State x.2.2
theorem mkc_le_Log (x:XLog):mkc_Log x≤64*(mz_Log x+1):=by
 have h0:=sumc_StateS x.2.2
 simp only[mkc_Log,mz_Log];omega
theorem sumc_IntSS (a:List (List Int)):sumL (sumL (fun _=>1)) a≤64*mz_IntSS a:=by
 have h:=sumL_lin (sumL (fun _=>1)) mz_IntS (fun x=>by have:=sumc_IntS x;omega) a
 simp only[mz_IntSS];omega
theorem mark_IntSS (a:List (List Int)) (k:Int) (hk:0<k) (hs:k+((sumL (sumL (fun _=>1)) a:Nat):Int)≤1152921504606846976) (h:mz_IntSS a≤4294967296):laws_markIntSS w (a,k)=some (k+((sumL (sumL (fun _=>1)) a:Nat):Int),markL (markL (fun _ n=>n) (fun _=>1)) (sumL (fun _=>1)) a k):=by
 apply laws_markIntSS_of
 simp only[mz_IntSS]at h
 have e:=loop_mark (markL (fun _ n=>n) (fun _=>1)) (sumL (fun _=>1)) a (fun k i ys=>laws_markIntSS_k0 wl (k,(i:Int),ys)) (fun k ys=>(k,ys)) 1152921504606846976
  (fun k i ys h1 r hy hm h0 hB hk=>by
    apply laws_markIntSS_l0_of
    have hb:=sumL_mem mz_IntS hm
    simp only[laws_markIntSS_l0,ilt h1,inb_of h1,rd1_get h1,rd1_set h1,List.length_set,List.set_set,inc h1 (show ys.length≤maxLen by simp[maxLen];omega),cond_true,Int.toNat_natCast,Option.bind_some,dt (show(3:Int)≠0 by omega),mark_IntS (ys[i]) k (by omega) (by omega) (by first|omega|(simp only[mz_IntS];omega))]
    have hk:laws_markIntSS_k0 wl (k+((sumL (fun _=>1) (ys[i]):Nat):Int),((i+1:Nat):Int),ys.set i (markL (fun _ n=>n) (fun _=>1) (ys[i]) k))=some r:=hk
    exact hk)
  (fun k ys hy=>by
    apply laws_markIntSS_l0_of
    simp only[laws_markIntSS_l0,←hy,ilt_self,cond_false])
  k hk hs
 simp only[Int.natCast_zero]at e
 simp only[laws_markIntSS_raw,e,Option.bind_some]
theorem held_IntSS (a:List (List Int)) (k:Int) (hk:0<k) (hs:k+((sumL (sumL (fun _=>1)) a:Nat):Int)≤1152921504606846976) (h:mz_IntSS a≤4294967296):laws_heldIntSS w (markL (markL (fun _ n=>n) (fun _=>1)) (sumL (fun _=>1)) a k,k)=some (k+((sumL (sumL (fun _=>1)) a:Nat):Int)):=by
 apply laws_heldIntSS_of
 simp only[mz_IntSS]at h
 have hl:(markL (markL (fun _ n=>n) (fun _=>1)) (sumL (fun _=>1)) a k).length=a.length:=markL_length _ _ a k
 have e:=loop_held (markL (fun _ n=>n) (fun _=>1)) (sumL (fun _=>1)) a k (fun l i=>laws_heldIntSS_k0 wl ((markL (markL (fun _ n=>n) (fun _=>1)) (sumL (fun _=>1)) a k),l,(i:Int))) 1152921504606846976
  (fun k1 i h1 x r hx hm h0 hB hk=>by
    apply laws_heldIntSS_l0_of
    have hb:=sumL_mem mz_IntS hx
    simp only[laws_heldIntSS_l0,ilt h1,inb_of h1,rd1_get h1,hm,inc h1 (show(markL (markL (fun _ n=>n) (fun _=>1)) (sumL (fun _=>1)) a k).length≤maxLen by rw[hl];simp[maxLen];omega),cond_true,cond_false,decide_true,Bool.not_true,beqS_refl,beq_self_eq_true,Option.bind_some,dt (show(3:Int)≠0 by omega),held_IntS x k1 (by omega) (by omega) (by first|omega|(simp only[mz_IntS];omega)),df (show¬((k1+((sumL (fun _=>1) x:Nat):Int)):Int)<0 by omega)]
    have hk:laws_heldIntSS_k0 wl ((markL (markL (fun _ n=>n) (fun _=>1)) (sumL (fun _=>1)) a k),k1+((sumL (fun _=>1) x:Nat):Int),((i+1:Nat):Int))=some r:=hk
    exact hk)
  (fun l=>by
    apply laws_heldIntSS_l0_of
    simp only[laws_heldIntSS_l0,hl,ilt_self,cond_false])
  hk hs
 simp only[Int.natCast_zero]at e
 simp only[laws_heldIntSS_raw,e,Option.bind_some,elimS,Sum.elim_inr]
noncomputable def mkf_Sess (x:XSess) (n:Int):XSess:=(n,(n+1),decide (Int.tmod ((n+1)+1) 3=0),(((n+1)+1)+1))
def mkc_Sess (x:XSess):Nat:=4
theorem mkc_le_Sess (x:XSess):mkc_Sess x≤64:=by
 simp only[mkc_Sess];omega
theorem sumc_SessS (a:List XSess):sumL mkc_Sess a≤64*mz_SessS a:=by
 have h:=sumL_lin0 mkc_Sess (fun x=>mkc_le_Sess x) a
 simp only[mz_SessS];omega
theorem mark_SessS (a:List XSess) (k:Int) (hk:0<k) (hs:k+((sumL mkc_Sess a:Nat):Int)≤1152921504606846976) (h:mz_SessS a≤4294967296):laws_markSessS w (a,k)=some (k+((sumL mkc_Sess a:Nat):Int),markL mkf_Sess mkc_Sess a k):=by
 apply laws_markSessS_of
 simp only[mz_SessS]at h
 have e:=loop_mark mkf_Sess mkc_Sess a (fun k i ys=>laws_markSessS_k0 wl (k,(i:Int),ys)) (fun k ys=>(k,ys)) 1152921504606846976
  (fun k i ys h1 r hy hm h0 hB hk=>by
    apply laws_markSessS_l0_of
    simp only[mkc_Sess]at hB
    have hw0:IntKind.wrap .i64 (k+1)=k+1:=w64 (by omega) (by omega)
    have hw1:IntKind.wrap .i64 ((k+1)+1)=(k+1)+1:=w64 (by omega) (by omega)
    have hw2:IntKind.wrap .i64 (((k+1)+1)+1)=((k+1)+1)+1:=w64 (by omega) (by omega)
    have hw3:IntKind.wrap .i64 ((((k+1)+1)+1)+1)=(((k+1)+1)+1)+1:=w64 (by omega) (by omega)
    simp only[laws_markSessS_l0,ilt h1,inb_of h1,rd1_get h1,rd1_set h1,List.length_set,List.set_set,inc h1 (show ys.length≤maxLen by simp[maxLen];omega),cond_true,Int.toNat_natCast,Option.bind_some,dt (show(3:Int)≠0 by omega),hw0,hw1,hw2,hw3]
    have hk:laws_markSessS_k0 wl (k+((4:Nat):Int),((i+1:Nat):Int),ys.set i (k,(k+1),decide (Int.tmod ((k+1)+1) 3=0),(((k+1)+1)+1)))=some r:=hk
    rw[show k+((4:Nat):Int)=((((k+1)+1)+1)+1) by omega]at hk
    exact hk)
  (fun k ys hy=>by
    apply laws_markSessS_l0_of
    simp only[laws_markSessS_l0,←hy,ilt_self,cond_false])
  k hk hs
 simp only[Int.natCast_zero]at e
 simp only[laws_markSessS_raw,e,Option.bind_some]
theorem held_SessS (a:List XSess) (k:Int) (hk:0<k) (hs:k+((sumL mkc_Sess a:Nat):Int)≤1152921504606846976) (h:mz_SessS a≤4294967296):laws_heldSessS w (markL mkf_Sess mkc_Sess a k,k)=some (k+((sumL mkc_Sess a:Nat):Int)):=by
 apply laws_heldSessS_of
 simp only[mz_SessS]at h
 have hl:(markL mkf_Sess mkc_Sess a k).length=a.length:=markL_length _ _ a k
 have e:=loop_held mkf_Sess mkc_Sess a k (fun l i=>laws_heldSessS_k0 wl ((markL mkf_Sess mkc_Sess a k),l,(i:Int))) 1152921504606846976
  (fun k1 i h1 x r hx hm h0 hB hk=>by
    apply laws_heldSessS_l0_of
    simp only[mkc_Sess]at hB
    simp only[mkf_Sess]at hm
    have hw0:IntKind.wrap .i64 (k1+1)=k1+1:=w64 (by omega) (by omega)
    have hw1:IntKind.wrap .i64 ((k1+1)+1)=(k1+1)+1:=w64 (by omega) (by omega)
    have hw2:IntKind.wrap .i64 (((k1+1)+1)+1)=((k1+1)+1)+1:=w64 (by omega) (by omega)
    have hw3:IntKind.wrap .i64 ((((k1+1)+1)+1)+1)=(((k1+1)+1)+1)+1:=w64 (by omega) (by omega)
    simp only[laws_heldSessS_l0,ilt h1,inb_of h1,rd1_get h1,hm,inc h1 (show(markL mkf_Sess mkc_Sess a k).length≤maxLen by rw[hl];simp[maxLen];omega),cond_true,cond_false,decide_true,Bool.not_true,beqS_refl,beq_self_eq_true,Option.bind_some,dt (show(3:Int)≠0 by omega),hw0,hw1,hw2,hw3]
    have hk:laws_heldSessS_k0 wl ((markL mkf_Sess mkc_Sess a k),k1+((4:Nat):Int),((i+1:Nat):Int))=some r:=hk
    rw[show k1+((4:Nat):Int)=((((k1+1)+1)+1)+1) by omega]at hk
    exact hk)
  (fun l=>by
    apply laws_heldSessS_l0_of
    simp only[laws_heldSessS_l0,hl,ilt_self,cond_false])
  hk hs
 simp only[Int.natCast_zero]at e
 simp only[laws_heldSessS_raw,e,Option.bind_some,elimS,Sum.elim_inr]
noncomputable def mkf_Rise (x:XRise) (n:Int):XRise:=(n,(n+1),((n+1)+1))
def mkc_Rise (x:XRise):Nat:=3
theorem mkc_le_Rise (x:XRise):mkc_Rise x≤64:=by
 simp only[mkc_Rise];omega
theorem sumc_RiseS (a:List XRise):sumL mkc_Rise a≤64*mz_RiseS a:=by
 have h:=sumL_lin0 mkc_Rise (fun x=>mkc_le_Rise x) a
 simp only[mz_RiseS];omega
theorem mark_RiseS (a:List XRise) (k:Int) (hk:0<k) (hs:k+((sumL mkc_Rise a:Nat):Int)≤1152921504606846976) (h:mz_RiseS a≤4294967296):laws_markRiseS w (a,k)=some (k+((sumL mkc_Rise a:Nat):Int),markL mkf_Rise mkc_Rise a k):=by
 apply laws_markRiseS_of
 simp only[mz_RiseS]at h
 have e:=loop_mark mkf_Rise mkc_Rise a (fun k i ys=>laws_markRiseS_k0 wl (k,(i:Int),ys)) (fun k ys=>(k,ys)) 1152921504606846976
  (fun k i ys h1 r hy hm h0 hB hk=>by
    apply laws_markRiseS_l0_of
    simp only[mkc_Rise]at hB
    have hw0:IntKind.wrap .i64 (k+1)=k+1:=w64 (by omega) (by omega)
    have hw1:IntKind.wrap .i64 ((k+1)+1)=(k+1)+1:=w64 (by omega) (by omega)
    have hw2:IntKind.wrap .i64 (((k+1)+1)+1)=((k+1)+1)+1:=w64 (by omega) (by omega)
    simp only[laws_markRiseS_l0,ilt h1,inb_of h1,rd1_get h1,rd1_set h1,List.length_set,List.set_set,inc h1 (show ys.length≤maxLen by simp[maxLen];omega),cond_true,Int.toNat_natCast,Option.bind_some,dt (show(3:Int)≠0 by omega),hw0,hw1,hw2]
    have hk:laws_markRiseS_k0 wl (k+((3:Nat):Int),((i+1:Nat):Int),ys.set i (k,(k+1),((k+1)+1)))=some r:=hk
    rw[show k+((3:Nat):Int)=(((k+1)+1)+1) by omega]at hk
    exact hk)
  (fun k ys hy=>by
    apply laws_markRiseS_l0_of
    simp only[laws_markRiseS_l0,←hy,ilt_self,cond_false])
  k hk hs
 simp only[Int.natCast_zero]at e
 simp only[laws_markRiseS_raw,e,Option.bind_some]
theorem held_RiseS (a:List XRise) (k:Int) (hk:0<k) (hs:k+((sumL mkc_Rise a:Nat):Int)≤1152921504606846976) (h:mz_RiseS a≤4294967296):laws_heldRiseS w (markL mkf_Rise mkc_Rise a k,k)=some (k+((sumL mkc_Rise a:Nat):Int)):=by
 apply laws_heldRiseS_of
 simp only[mz_RiseS]at h
 have hl:(markL mkf_Rise mkc_Rise a k).length=a.length:=markL_length _ _ a k
 have e:=loop_held mkf_Rise mkc_Rise a k (fun l i=>laws_heldRiseS_k0 wl ((markL mkf_Rise mkc_Rise a k),l,(i:Int))) 1152921504606846976
  (fun k1 i h1 x r hx hm h0 hB hk=>by
    apply laws_heldRiseS_l0_of
    simp only[mkc_Rise]at hB
    simp only[mkf_Rise]at hm
    have hw0:IntKind.wrap .i64 (k1+1)=k1+1:=w64 (by omega) (by omega)
    have hw1:IntKind.wrap .i64 ((k1+1)+1)=(k1+1)+1:=w64 (by omega) (by omega)
    have hw2:IntKind.wrap .i64 (((k1+1)+1)+1)=((k1+1)+1)+1:=w64 (by omega) (by omega)
    simp only[laws_heldRiseS_l0,ilt h1,inb_of h1,rd1_get h1,hm,inc h1 (show(markL mkf_Rise mkc_Rise a k).length≤maxLen by rw[hl];simp[maxLen];omega),cond_true,cond_false,decide_true,Bool.not_true,beqS_refl,beq_self_eq_true,Option.bind_some,dt (show(3:Int)≠0 by omega),hw0,hw1,hw2]
    have hk:laws_heldRiseS_k0 wl ((markL mkf_Rise mkc_Rise a k),k1+((3:Nat):Int),((i+1:Nat):Int))=some r:=hk
    rw[show k1+((3:Nat):Int)=(((k1+1)+1)+1) by omega]at hk
    exact hk)
  (fun l=>by
    apply laws_heldRiseS_l0_of
    simp only[laws_heldRiseS_l0,hl,ilt_self,cond_false])
  hk hs
 simp only[Int.natCast_zero]at e
 simp only[laws_heldRiseS_raw,e,Option.bind_some,elimS,Sum.elim_inr]
noncomputable def mkf_Node (x:XNode) (n:Int):XNode:=(n,(n+1),markL mkf_Item mkc_Item x.2.2.1 ((n+1)+1),markL mkf_Floor mkc_Floor x.2.2.2.1 (((n+1)+1)+((sumL mkc_Item x.2.2.1:Nat):Int)),markL (fun _ n=>n) (fun _=>1) x.2.2.2.2.1 ((((n+1)+1)+((sumL mkc_Item x.2.2.1:Nat):Int))+((sumL mkc_Floor x.2.2.2.1:Nat):Int)),(((((n+1)+1)+((sumL mkc_Item x.2.2.1:Nat):Int))+((sumL mkc_Floor x.2.2.2.1:Nat):Int))+((sumL (fun _=>1) x.2.2.2.2.1:Nat):Int)),((((((n+1)+1)+((sumL mkc_Item x.2.2.1:Nat):Int))+((sumL mkc_Floor x.2.2.2.1:Nat):Int))+((sumL (fun _=>1) x.2.2.2.2.1:Nat):Int))+1),(((((((n+1)+1)+((sumL mkc_Item x.2.2.1:Nat):Int))+((sumL mkc_Floor x.2.2.2.1:Nat):Int))+((sumL (fun _=>1) x.2.2.2.2.1:Nat):Int))+1)+1),markL mkf_State mkc_State x.2.2.2.2.2.2.2.2.1 ((((((((n+1)+1)+((sumL mkc_Item x.2.2.1:Nat):Int))+((sumL mkc_Floor x.2.2.2.1:Nat):Int))+((sumL (fun _=>1) x.2.2.2.2.1:Nat):Int))+1)+1)+1),markL (fun _ n=>n) (fun _=>1) x.2.2.2.2.2.2.2.2.2.1 (((((((((n+1)+1)+((sumL mkc_Item x.2.2.1:Nat):Int))+((sumL mkc_Floor x.2.2.2.1:Nat):Int))+((sumL (fun _=>1) x.2.2.2.2.1:Nat):Int))+1)+1)+1)+((sumL mkc_State x.2.2.2.2.2.2.2.2.1:Nat):Int)),markL (fun _ n=>n) (fun _=>1) x.2.2.2.2.2.2.2.2.2.2.1 ((((((((((n+1)+1)+((sumL mkc_Item x.2.2.1:Nat):Int))+((sumL mkc_Floor x.2.2.2.1:Nat):Int))+((sumL (fun _=>1) x.2.2.2.2.1:Nat):Int))+1)+1)+1)+((sumL mkc_State x.2.2.2.2.2.2.2.2.1:Nat):Int))+((sumL (fun _=>1) x.2.2.2.2.2.2.2.2.2.1:Nat):Int)),markL (markL (fun _ n=>n) (fun _=>1)) (sumL (fun _=>1)) x.2.2.2.2.2.2.2.2.2.2.2.1 (((((((((((n+1)+1)+((sumL mkc_Item x.2.2.1:Nat):Int))+((sumL mkc_Floor x.2.2.2.1:Nat):Int))+((sumL (fun _=>1) x.2.2.2.2.1:Nat):Int))+1)+1)+1)+((sumL mkc_State x.2.2.2.2.2.2.2.2.1:Nat):Int))+((sumL (fun _=>1) x.2.2.2.2.2.2.2.2.2.1:Nat):Int))+((sumL (fun _=>1) x.2.2.2.2.2.2.2.2.2.2.1:Nat):Int)),((((((((((((n+1)+1)+((sumL mkc_Item x.2.2.1:Nat):Int))+((sumL mkc_Floor x.2.2.2.1:Nat):Int))+((sumL (fun _=>1) x.2.2.2.2.1:Nat):Int))+1)+1)+1)+((sumL mkc_State x.2.2.2.2.2.2.2.2.1:Nat):Int))+((sumL (fun _=>1) x.2.2.2.2.2.2.2.2.2.1:Nat):Int))+((sumL (fun _=>1) x.2.2.2.2.2.2.2.2.2.2.1:Nat):Int))+((sumL (sumL (fun _=>1)) x.2.2.2.2.2.2.2.2.2.2.2.1:Nat):Int)),(((((((((((((n+1)+1)+((sumL mkc_Item x.2.2.1:Nat):Int))+((sumL mkc_Floor x.2.2.2.1:Nat):Int))+((sumL (fun _=>1) x.2.2.2.2.1:Nat):Int))+1)+1)+1)+((sumL mkc_State x.2.2.2.2.2.2.2.2.1:Nat):Int))+((sumL (fun _=>1) x.2.2.2.2.2.2.2.2.2.1:Nat):Int))+((sumL (fun _=>1) x.2.2.2.2.2.2.2.2.2.2.1:Nat):Int))+((sumL (sumL (fun _=>1)) x.2.2.2.2.2.2.2.2.2.2.2.1:Nat):Int))+1),markL mkf_Sess mkc_Sess x.2.2.2.2.2.2.2.2.2.2.2.2.2.2.1 ((((((((((((((n+1)+1)+((sumL mkc_Item x.2.2.1:Nat):Int))+((sumL mkc_Floor x.2.2.2.1:Nat):Int))+((sumL (fun _=>1) x.2.2.2.2.1:Nat):Int))+1)+1)+1)+((sumL mkc_State x.2.2.2.2.2.2.2.2.1:Nat):Int))+((sumL (fun _=>1) x.2.2.2.2.2.2.2.2.2.1:Nat):Int))+((sumL (fun _=>1) x.2.2.2.2.2.2.2.2.2.2.1:Nat):Int))+((sumL (sumL (fun _=>1)) x.2.2.2.2.2.2.2.2.2.2.2.1:Nat):Int))+1)+1),(((((((((((((((n+1)+1)+((sumL mkc_Item x.2.2.1:Nat):Int))+((sumL mkc_Floor x.2.2.2.1:Nat):Int))+((sumL (fun _=>1) x.2.2.2.2.1:Nat):Int))+1)+1)+1)+((sumL mkc_State x.2.2.2.2.2.2.2.2.1:Nat):Int))+((sumL (fun _=>1) x.2.2.2.2.2.2.2.2.2.1:Nat):Int))+((sumL (fun _=>1) x.2.2.2.2.2.2.2.2.2.2.1:Nat):Int))+((sumL (sumL (fun _=>1)) x.2.2.2.2.2.2.2.2.2.2.2.1:Nat):Int))+1)+1)+((sumL mkc_Sess x.2.2.2.2.2.2.2.2.2.2.2.2.2.2.1:Nat):Int)),((((((((((((((((n+1)+1)+((sumL mkc_Item x.2.2.1:Nat):Int))+((sumL mkc_Floor x.2.2.2.1:Nat):Int))+((sumL (fun _=>1) x.2.2.2.2.1:Nat):Int))+1)+1)+1)+((sumL mkc_State x.2.2.2.2.2.2.2.2.1:Nat):Int))+((sumL (fun _=>1) x.2.2.2.2.2.2.2.2.2.1:Nat):Int))+((sumL (fun _=>1) x.2.2.2.2.2.2.2.2.2.2.1:Nat):Int))+((sumL (sumL (fun _=>1)) x.2.2.2.2.2.2.2.2.2.2.2.1:Nat):Int))+1)+1)+((sumL mkc_Sess x.2.2.2.2.2.2.2.2.2.2.2.2.2.2.1:Nat):Int))+1),(((((((((((((((((n+1)+1)+((sumL mkc_Item x.2.2.1:Nat):Int))+((sumL mkc_Floor x.2.2.2.1:Nat):Int))+((sumL (fun _=>1) x.2.2.2.2.1:Nat):Int))+1)+1)+1)+((sumL mkc_State x.2.2.2.2.2.2.2.2.1:Nat):Int))+((sumL (fun _=>1) x.2.2.2.2.2.2.2.2.2.1:Nat):Int))+((sumL (fun _=>1) x.2.2.2.2.2.2.2.2.2.2.1:Nat):Int))+((sumL (sumL (fun _=>1)) x.2.2.2.2.2.2.2.2.2.2.2.1:Nat):Int))+1)+1)+((sumL mkc_Sess x.2.2.2.2.2.2.2.2.2.2.2.2.2.2.1:Nat):Int))+1)+1),markL mkf_Rise mkc_Rise x.2.2.2.2.2.2.2.2.2.2.2.2.2.2.2.2.2.2 ((((((((((((((((((n+1)+1)+((sumL mkc_Item x.2.2.1:Nat):Int))+((sumL mkc_Floor x.2.2.2.1:Nat):Int))+((sumL (fun _=>1) x.2.2.2.2.1:Nat):Int))+1)+1)+1)+((sumL mkc_State x.2.2.2.2.2.2.2.2.1:Nat):Int))+((sumL (fun _=>1) x.2.2.2.2.2.2.2.2.2.1:Nat):Int))+((sumL (fun _=>1) x.2.2.2.2.2.2.2.2.2.2.1:Nat):Int))+((sumL (sumL (fun _=>1)) x.2.2.2.2.2.2.2.2.2.2.2.1:Nat):Int))+1)+1)+((sumL mkc_Sess x.2.2.2.2.2.2.2.2.2.2.2.2.2.2.1:Nat):Int))+1)+1)+1))
def mkc_Node (x:XNode):Nat:=10+sumL mkc_Item x.2.2.1+sumL mkc_Floor x.2.2.2.1+sumL (fun _=>1) x.2.2.2.2.1+sumL mkc_State x.2.2.2.2.2.2.2.2.1+sumL (fun _=>1) x.2.2.2.2.2.2.2.2.2.1+sumL (fun _=>1) x.2.2.2.2.2.2.2.2.2.2.1+sumL (sumL (fun _=>1)) x.2.2.2.2.2.2.2.2.2.2.2.1+sumL mkc_Sess x.2.2.2.2.2.2.2.2.2.2.2.2.2.2.1+sumL mkc_Rise x.2.2.2.2.2.2.2.2.2.2.2.2.2.2.2.2.2.2
theorem mkc_le_Node (x:XNode):mkc_Node x≤64*(mz_Node x+1):=by
 have h0:=sumc_ItemS x.2.2.1
 have h1:=sumc_FloorS x.2.2.2.1
 have h2:=sumc_IntS x.2.2.2.2.1
 have h3:=sumc_StateS x.2.2.2.2.2.2.2.2.1
 have h4:=sumc_IntS x.2.2.2.2.2.2.2.2.2.1
 have h5:=sumc_IntS x.2.2.2.2.2.2.2.2.2.2.1
 have h6:=sumc_IntSS x.2.2.2.2.2.2.2.2.2.2.2.1
 have h7:=sumc_SessS x.2.2.2.2.2.2.2.2.2.2.2.2.2.2.1
 have h8:=sumc_RiseS x.2.2.2.2.2.2.2.2.2.2.2.2.2.2.2.2.2.2
 simp only[mkc_Node,mz_Log,mz_Node,mz_State,mz_Tree];omega
theorem sumc_NodeS (a:List XNode):sumL mkc_Node a≤64*mz_NodeS a:=by
 have h:=sumL_lin mkc_Node mz_Node (fun x=>mkc_le_Node x) a
 simp only[mz_NodeS];omega
set_option maxHeartbeats 4000000 in
theorem mark_NodeS (a:List XNode) (k:Int) (hk:0<k) (hs:k+((sumL mkc_Node a:Nat):Int)≤1152921504606846976) (h:mz_NodeS a≤4294967296):laws_markNodeS w (a,k)=some (k+((sumL mkc_Node a:Nat):Int),markL mkf_Node mkc_Node a k):=by
 apply laws_markNodeS_of
 simp only[mz_NodeS]at h
 have e:=loop_mark mkf_Node mkc_Node a (fun k i ys=>laws_markNodeS_k0 wl (k,(i:Int),ys)) (fun k ys=>(k,ys)) 1152921504606846976
  (fun k i ys h1 r hy hm h0 hB hk=>by
    apply laws_markNodeS_l0_of
    have hb:=sumL_mem mz_Node hm
    simp only[mkc_Node]at hB
    simp only[mz_Node,mz_State,mz_Tree,mz_Log]at hb
    have hw:∀n:Int,0<n→n≤2305843009213693952→IntKind.wrap .i64 (n+1)=n+1:=fun n h1 h2=>w64 (by omega) (by omega)
    simp (disch:=omega) only[laws_markNodeS_l0,ilt h1,inb_of h1,rd1_get h1,rd1_set h1,List.length_set,List.set_set,inc h1 (show ys.length≤maxLen by simp[maxLen];omega),cond_true,Int.toNat_natCast,Option.bind_some,hw,mark_FloorS,mark_IntS,mark_IntSS,mark_ItemS,mark_RiseS,mark_SessS,mark_StateS]
    refine Eq.trans (congrArg (fun z=>laws_markNodeS_k0 wl (z,((i+1:Nat):Int),_)) ?_) hk
    simp only[mkc_Node];omega)
  (fun k ys hy=>by
    apply laws_markNodeS_l0_of
    simp only[laws_markNodeS_l0,←hy,ilt_self,cond_false])
  k hk hs
 simp only[Int.natCast_zero]at e
 simp only[laws_markNodeS_raw,e,Option.bind_some]
set_option maxHeartbeats 4000000 in
theorem held_NodeS (a:List XNode) (k:Int) (hk:0<k) (hs:k+((sumL mkc_Node a:Nat):Int)≤1152921504606846976) (h:mz_NodeS a≤4294967296):laws_heldNodeS w (markL mkf_Node mkc_Node a k,k)=some (k+((sumL mkc_Node a:Nat):Int)):=by
 apply laws_heldNodeS_of
 simp only[mz_NodeS]at h
 have hl:(markL mkf_Node mkc_Node a k).length=a.length:=markL_length _ _ a k
 have e:=loop_held mkf_Node mkc_Node a k (fun l i=>laws_heldNodeS_k0 wl ((markL mkf_Node mkc_Node a k),l,(i:Int))) 1152921504606846976
  (fun k1 i h1 x r hx hm h0 hB hk=>by
    apply laws_heldNodeS_l0_of
    have hb:=sumL_mem mz_Node hx
    simp only[mkc_Node]at hB
    simp only[mkf_Node]at hm
    simp only[mz_Node,mz_State,mz_Tree,mz_Log]at hb
    have hw:∀n:Int,0<n→n≤2305843009213693952→IntKind.wrap .i64 (n+1)=n+1:=fun n h1 h2=>w64 (by omega) (by omega)
    have hd:∀n:Int,0<n→decide (n<0)=false:=fun n h=>df (by omega)
    simp (disch:=omega) only[laws_heldNodeS_l0,ilt h1,inb_of h1,rd1_get h1,hm,inc h1 (show(markL mkf_Node mkc_Node a k).length≤maxLen by rw[hl];simp[maxLen];omega),cond_true,cond_false,decide_true,Bool.not_true,Option.bind_some,hw,hd,held_FloorS,held_IntS,held_IntSS,held_ItemS,held_RiseS,held_SessS,held_StateS]
    refine Eq.trans (congrArg (fun z=>laws_heldNodeS_k0 wl ((markL mkf_Node mkc_Node a k),z,((i+1:Nat):Int))) ?_) hk
    simp only[mkc_Node];omega)
  (fun l=>by
    apply laws_heldNodeS_l0_of
    simp only[laws_heldNodeS_l0,hl,ilt_self,cond_false])
  hk hs
 simp only[Int.natCast_zero]at e
 simp only[laws_heldNodeS_raw,e,Option.bind_some,elimS,Sum.elim_inr]
theorem sumc_ByteS (a:List Int):sumL (fun _=>1) a≤64*mz_ByteS a:=by
 have h:=sumL_lin0 (fun _=>1) (fun _=>by omega) a
 simp only[mz_ByteS];omega
theorem mark_ByteS (a:List Int) (k:Int) (hk:0<k) (hs:k+((sumL (fun _=>1) a:Nat):Int)≤1152921504606846976) (h:mz_ByteS a≤4294967296):laws_markByteS w (a,k)=some (k+((sumL (fun _=>1) a:Nat):Int),markL (fun _ n=>IntKind.wrap .u8 n) (fun _=>1) a k):=by
 apply laws_markByteS_of
 simp only[mz_ByteS]at h
 have e:=loop_mark (fun _ n=>IntKind.wrap .u8 n) (fun _=>1) a (fun k i ys=>laws_markByteS_k0 wl (k,(i:Int),ys)) (fun k ys=>(k,ys)) 1152921504606846976
  (fun k i ys h1 r hy hm h0 hB hk=>by
    apply laws_markByteS_l0_of
    have hw0:IntKind.wrap .i64 (k+1)=k+1:=w64 (by omega) (by omega)
    simp only[laws_markByteS_l0,ilt h1,inb_of h1,rd1_get h1,rd1_set h1,List.length_set,List.set_set,inc h1 (show ys.length≤maxLen by simp[maxLen];omega),cond_true,Int.toNat_natCast,Option.bind_some,dt (show(3:Int)≠0 by omega),hw0]
    have hk:laws_markByteS_k0 wl (k+((1:Nat):Int),((i+1:Nat):Int),ys.set i (IntKind.wrap .u8 k))=some r:=hk
    rw[show k+((1:Nat):Int)=(k+1) by omega]at hk
    exact hk)
  (fun k ys hy=>by
    apply laws_markByteS_l0_of
    simp only[laws_markByteS_l0,←hy,ilt_self,cond_false])
  k hk hs
 simp only[Int.natCast_zero]at e
 simp only[laws_markByteS_raw,e,Option.bind_some]
theorem held_ByteS (a:List Int) (k:Int) (hk:0<k) (hs:k+((sumL (fun _=>1) a:Nat):Int)≤1152921504606846976) (h:mz_ByteS a≤4294967296):laws_heldByteS w (markL (fun _ n=>IntKind.wrap .u8 n) (fun _=>1) a k,k)=some (k+((sumL (fun _=>1) a:Nat):Int)):=by
 apply laws_heldByteS_of
 simp only[mz_ByteS]at h
 have hl:(markL (fun _ n=>IntKind.wrap .u8 n) (fun _=>1) a k).length=a.length:=markL_length _ _ a k
 have e:=loop_held (fun _ n=>IntKind.wrap .u8 n) (fun _=>1) a k (fun l i=>laws_heldByteS_k0 wl ((markL (fun _ n=>IntKind.wrap .u8 n) (fun _=>1) a k),l,(i:Int))) 1152921504606846976
  (fun k1 i h1 x r hx hm h0 hB hk=>by
    apply laws_heldByteS_l0_of
    have hw0:IntKind.wrap .i64 (k1+1)=k1+1:=w64 (by omega) (by omega)
    simp only[laws_heldByteS_l0,ilt h1,inb_of h1,rd1_get h1,hm,inc h1 (show(markL (fun _ n=>IntKind.wrap .u8 n) (fun _=>1) a k).length≤maxLen by rw[hl];simp[maxLen];omega),cond_true,cond_false,decide_true,Bool.not_true,beqS_refl,beq_self_eq_true,Option.bind_some,dt (show(3:Int)≠0 by omega),hw0]
    have hk:laws_heldByteS_k0 wl ((markL (fun _ n=>IntKind.wrap .u8 n) (fun _=>1) a k),k1+((1:Nat):Int),((i+1:Nat):Int))=some r:=hk
    rw[show k1+((1:Nat):Int)=(k1+1) by omega]at hk
    exact hk)
  (fun l=>by
    apply laws_heldByteS_l0_of
    simp only[laws_heldByteS_l0,hl,ilt_self,cond_false])
  hk hs
 simp only[Int.natCast_zero]at e
 simp only[laws_heldByteS_raw,e,Option.bind_some,elimS,Sum.elim_inr]
noncomputable def mkf_Pack (x:XPack) (n:Int):XPack:=(n,markL (fun _ n=>IntKind.wrap .u8 n) (fun _=>1) x.2.1 (n+1),decide (Int.tmod ((n+1)+((sumL (fun _=>1) x.2.1:Nat):Int)) 3=0))
def mkc_Pack (x:XPack):Nat:=2+sumL (fun _=>1) x.2.1
theorem mkc_le_Pack (x:XPack):mkc_Pack x≤64*(mz_Pack x+1):=by
 have h0:=sumc_ByteS x.2.1
 simp only[mkc_Pack,mz_Pack];omega
theorem sumc_PackS (a:List XPack):sumL mkc_Pack a≤64*mz_PackS a:=by
 have h:=sumL_lin mkc_Pack mz_Pack (fun x=>mkc_le_Pack x) a
 simp only[mz_PackS];omega
theorem mark_PackS (a:List XPack) (k:Int) (hk:0<k) (hs:k+((sumL mkc_Pack a:Nat):Int)≤1152921504606846976) (h:mz_PackS a≤4294967296):laws_markPackS w (a,k)=some (k+((sumL mkc_Pack a:Nat):Int),markL mkf_Pack mkc_Pack a k):=by
 apply laws_markPackS_of
 simp only[mz_PackS]at h
 have e:=loop_mark mkf_Pack mkc_Pack a (fun k i ys=>laws_markPackS_k0 wl (k,(i:Int),ys)) (fun k ys=>(k,ys)) 1152921504606846976
  (fun k i ys h1 r hy hm h0 hB hk=>by
    apply laws_markPackS_l0_of
    have hb:=sumL_mem mz_Pack hm
    simp only[mkc_Pack]at hB
    simp only[mz_Pack]at hb
    have hw0:IntKind.wrap .i64 (k+1)=k+1:=w64 (by omega) (by omega)
    have hw1:IntKind.wrap .i64 (((k+1)+((sumL (fun _=>1) ((ys[i]).2.1):Nat):Int))+1)=((k+1)+((sumL (fun _=>1) ((ys[i]).2.1):Nat):Int))+1:=w64 (by omega) (by omega)
    simp only[laws_markPackS_l0,ilt h1,inb_of h1,rd1_get h1,rd1_set h1,List.length_set,List.set_set,inc h1 (show ys.length≤maxLen by simp[maxLen];omega),cond_true,Int.toNat_natCast,Option.bind_some,dt (show(3:Int)≠0 by omega),hw0,hw1,mark_ByteS ((ys[i]).2.1) (k+1) (by omega) (by omega) (by first|omega|(simp only[mz_ByteS];omega))]
    have hk:laws_markPackS_k0 wl (k+((2+sumL (fun _=>1) ((ys[i]).2.1):Nat):Int),((i+1:Nat):Int),ys.set i (k,markL (fun _ n=>IntKind.wrap .u8 n) (fun _=>1) ((ys[i]).2.1) (k+1),decide (Int.tmod ((k+1)+((sumL (fun _=>1) ((ys[i]).2.1):Nat):Int)) 3=0)))=some r:=hk
    rw[show k+((2+sumL (fun _=>1) ((ys[i]).2.1):Nat):Int)=(((k+1)+((sumL (fun _=>1) ((ys[i]).2.1):Nat):Int))+1) by omega]at hk
    exact hk)
  (fun k ys hy=>by
    apply laws_markPackS_l0_of
    simp only[laws_markPackS_l0,←hy,ilt_self,cond_false])
  k hk hs
 simp only[Int.natCast_zero]at e
 simp only[laws_markPackS_raw,e,Option.bind_some]
theorem held_PackS (a:List XPack) (k:Int) (hk:0<k) (hs:k+((sumL mkc_Pack a:Nat):Int)≤1152921504606846976) (h:mz_PackS a≤4294967296):laws_heldPackS w (markL mkf_Pack mkc_Pack a k,k)=some (k+((sumL mkc_Pack a:Nat):Int)):=by
 apply laws_heldPackS_of
 simp only[mz_PackS]at h
 have hl:(markL mkf_Pack mkc_Pack a k).length=a.length:=markL_length _ _ a k
 have e:=loop_held mkf_Pack mkc_Pack a k (fun l i=>laws_heldPackS_k0 wl ((markL mkf_Pack mkc_Pack a k),l,(i:Int))) 1152921504606846976
  (fun k1 i h1 x r hx hm h0 hB hk=>by
    apply laws_heldPackS_l0_of
    have hb:=sumL_mem mz_Pack hx
    simp only[mkc_Pack]at hB
    simp only[mkf_Pack]at hm
    simp only[mz_Pack]at hb
    have hw0:IntKind.wrap .i64 (k1+1)=k1+1:=w64 (by omega) (by omega)
    have hw1:IntKind.wrap .i64 (((k1+1)+((sumL (fun _=>1) x.2.1:Nat):Int))+1)=((k1+1)+((sumL (fun _=>1) x.2.1:Nat):Int))+1:=w64 (by omega) (by omega)
    simp only[laws_heldPackS_l0,ilt h1,inb_of h1,rd1_get h1,hm,inc h1 (show(markL mkf_Pack mkc_Pack a k).length≤maxLen by rw[hl];simp[maxLen];omega),cond_true,cond_false,decide_true,Bool.not_true,beqS_refl,beq_self_eq_true,Option.bind_some,dt (show(3:Int)≠0 by omega),hw0,hw1,held_ByteS x.2.1 (k1+1) (by omega) (by omega) (by first|omega|(simp only[mz_ByteS];omega)),df (show¬(((k1+1)+((sumL (fun _=>1) x.2.1:Nat):Int)):Int)<0 by omega)]
    have hk:laws_heldPackS_k0 wl ((markL mkf_Pack mkc_Pack a k),k1+((2+sumL (fun _=>1) x.2.1:Nat):Int),((i+1:Nat):Int))=some r:=hk
    rw[show k1+((2+sumL (fun _=>1) x.2.1:Nat):Int)=(((k1+1)+((sumL (fun _=>1) x.2.1:Nat):Int))+1) by omega]at hk
    exact hk)
  (fun l=>by
    apply laws_heldPackS_l0_of
    simp only[laws_heldPackS_l0,hl,ilt_self,cond_false])
  hk hs
 simp only[Int.natCast_zero]at e
 simp only[laws_heldPackS_raw,e,Option.bind_some,elimS,Sum.elim_inr]
noncomputable def mkf_Said (x:XSaid) (n:Int):XSaid:=(n,markL mkf_Item mkc_Item x.2.1 (n+1),markL mkf_Floor mkc_Floor x.2.2 ((n+1)+((sumL mkc_Item x.2.1:Nat):Int)))
def mkc_Said (x:XSaid):Nat:=1+sumL mkc_Item x.2.1+sumL mkc_Floor x.2.2
theorem mkc_le_Said (x:XSaid):mkc_Said x≤64*(mz_Said x+1):=by
 have h0:=sumc_ItemS x.2.1
 have h1:=sumc_FloorS x.2.2
 simp only[mkc_Said,mz_Said,mz_State];omega
theorem sumc_SaidS (a:List XSaid):sumL mkc_Said a≤64*mz_SaidS a:=by
 have h:=sumL_lin mkc_Said mz_Said (fun x=>mkc_le_Said x) a
 simp only[mz_SaidS];omega
theorem mark_SaidS (a:List XSaid) (k:Int) (hk:0<k) (hs:k+((sumL mkc_Said a:Nat):Int)≤1152921504606846976) (h:mz_SaidS a≤4294967296):laws_markSaidS w (a,k)=some (k+((sumL mkc_Said a:Nat):Int),markL mkf_Said mkc_Said a k):=by
 apply laws_markSaidS_of
 simp only[mz_SaidS]at h
 have e:=loop_mark mkf_Said mkc_Said a (fun k i ys=>laws_markSaidS_k0 wl (k,(i:Int),ys)) (fun k ys=>(k,ys)) 1152921504606846976
  (fun k i ys h1 r hy hm h0 hB hk=>by
    apply laws_markSaidS_l0_of
    have hb:=sumL_mem mz_Said hm
    simp only[mkc_Said]at hB
    simp only[mz_Said,mz_State]at hb
    have hw0:IntKind.wrap .i64 (k+1)=k+1:=w64 (by omega) (by omega)
    simp only[laws_markSaidS_l0,ilt h1,inb_of h1,rd1_get h1,rd1_set h1,List.length_set,List.set_set,inc h1 (show ys.length≤maxLen by simp[maxLen];omega),cond_true,Int.toNat_natCast,Option.bind_some,dt (show(3:Int)≠0 by omega),hw0,mark_ItemS ((ys[i]).2.1) (k+1) (by omega) (by omega) (by first|omega|(simp only[mz_ItemS];omega)),mark_FloorS ((ys[i]).2.2) ((k+1)+((sumL mkc_Item ((ys[i]).2.1):Nat):Int)) (by omega) (by omega) (by first|omega|(simp only[mz_FloorS];omega))]
    have hk:laws_markSaidS_k0 wl (k+((1+sumL mkc_Item ((ys[i]).2.1)+sumL mkc_Floor ((ys[i]).2.2):Nat):Int),((i+1:Nat):Int),ys.set i (k,markL mkf_Item mkc_Item ((ys[i]).2.1) (k+1),markL mkf_Floor mkc_Floor ((ys[i]).2.2) ((k+1)+((sumL mkc_Item ((ys[i]).2.1):Nat):Int))))=some r:=hk
    rw[show k+((1+sumL mkc_Item ((ys[i]).2.1)+sumL mkc_Floor ((ys[i]).2.2):Nat):Int)=(((k+1)+((sumL mkc_Item ((ys[i]).2.1):Nat):Int))+((sumL mkc_Floor ((ys[i]).2.2):Nat):Int)) by omega]at hk
    exact hk)
  (fun k ys hy=>by
    apply laws_markSaidS_l0_of
    simp only[laws_markSaidS_l0,←hy,ilt_self,cond_false])
  k hk hs
 simp only[Int.natCast_zero]at e
 simp only[laws_markSaidS_raw,e,Option.bind_some]
theorem held_SaidS (a:List XSaid) (k:Int) (hk:0<k) (hs:k+((sumL mkc_Said a:Nat):Int)≤1152921504606846976) (h:mz_SaidS a≤4294967296):laws_heldSaidS w (markL mkf_Said mkc_Said a k,k)=some (k+((sumL mkc_Said a:Nat):Int)):=by
 apply laws_heldSaidS_of
 simp only[mz_SaidS]at h
 have hl:(markL mkf_Said mkc_Said a k).length=a.length:=markL_length _ _ a k
 have e:=loop_held mkf_Said mkc_Said a k (fun l i=>laws_heldSaidS_k0 wl ((markL mkf_Said mkc_Said a k),l,(i:Int))) 1152921504606846976
  (fun k1 i h1 x r hx hm h0 hB hk=>by
    apply laws_heldSaidS_l0_of
    have hb:=sumL_mem mz_Said hx
    simp only[mkc_Said]at hB
    simp only[mkf_Said]at hm
    simp only[mz_Said,mz_State]at hb
    have hw0:IntKind.wrap .i64 (k1+1)=k1+1:=w64 (by omega) (by omega)
    simp only[laws_heldSaidS_l0,ilt h1,inb_of h1,rd1_get h1,hm,inc h1 (show(markL mkf_Said mkc_Said a k).length≤maxLen by rw[hl];simp[maxLen];omega),cond_true,cond_false,decide_true,Bool.not_true,beqS_refl,beq_self_eq_true,Option.bind_some,dt (show(3:Int)≠0 by omega),hw0,held_ItemS x.2.1 (k1+1) (by omega) (by omega) (by first|omega|(simp only[mz_ItemS];omega)),df (show¬(((k1+1)+((sumL mkc_Item x.2.1:Nat):Int)):Int)<0 by omega),held_FloorS x.2.2 ((k1+1)+((sumL mkc_Item x.2.1:Nat):Int)) (by omega) (by omega) (by first|omega|(simp only[mz_FloorS];omega)),df (show¬((((k1+1)+((sumL mkc_Item x.2.1:Nat):Int))+((sumL mkc_Floor x.2.2:Nat):Int)):Int)<0 by omega)]
    have hk:laws_heldSaidS_k0 wl ((markL mkf_Said mkc_Said a k),k1+((1+sumL mkc_Item x.2.1+sumL mkc_Floor x.2.2:Nat):Int),((i+1:Nat):Int))=some r:=hk
    rw[show k1+((1+sumL mkc_Item x.2.1+sumL mkc_Floor x.2.2:Nat):Int)=(((k1+1)+((sumL mkc_Item x.2.1:Nat):Int))+((sumL mkc_Floor x.2.2:Nat):Int)) by omega]at hk
    exact hk)
  (fun l=>by
    apply laws_heldSaidS_l0_of
    simp only[laws_heldSaidS_l0,hl,ilt_self,cond_false])
  hk hs
 simp only[Int.natCast_zero]at e
 simp only[laws_heldSaidS_raw,e,Option.bind_some,elimS,Sum.elim_inr]
noncomputable def mkf_World (x:XWorld) (n:Int):XWorld:=(markL mkf_Node mkc_Node x.1 n,markL mkf_Pack mkc_Pack x.2.1 (n+((sumL mkc_Node x.1:Nat):Int)),markL mkf_Said mkc_Said x.2.2 ((n+((sumL mkc_Node x.1:Nat):Int))+((sumL mkc_Pack x.2.1:Nat):Int)))
def mkc_World (x:XWorld):Nat:=sumL mkc_Node x.1+sumL mkc_Pack x.2.1+sumL mkc_Said x.2.2
theorem mkc_le_World (x:XWorld):mkc_World x≤64*(mz_World x+1):=by
 have h0:=sumc_NodeS x.1
 have h1:=sumc_PackS x.2.1
 have h2:=sumc_SaidS x.2.2
 simp only[mkc_World,mz_World];omega
theorem mark_World (a0:List XNode) (a1:List XPack) (a2:List XSaid) (k:Int) (hk:0<k) (hs:k+((sumL mkc_Node a0+sumL mkc_Pack a1+sumL mkc_Said a2:Nat):Int)≤1152921504606846976) (h:mz_World (a0,a1,a2)≤4294967296):laws_markWorld w (a0,a1,a2,k)=some ((((k+((sumL mkc_Node a0:Nat):Int))+((sumL mkc_Pack a1:Nat):Int))+((sumL mkc_Said a2:Nat):Int)),markL mkf_Node mkc_Node a0 k,markL mkf_Pack mkc_Pack a1 (k+((sumL mkc_Node a0:Nat):Int)),markL mkf_Said mkc_Said a2 ((k+((sumL mkc_Node a0:Nat):Int))+((sumL mkc_Pack a1:Nat):Int))):=by
 apply laws_markWorld_of
 simp only[mz_World]at h
 simp only[laws_markWorld_raw,Option.bind_some,mark_NodeS a0 k (by omega) (by omega) (by first|omega|(simp only[mz_NodeS];omega)),mark_PackS a1 (k+((sumL mkc_Node a0:Nat):Int)) (by omega) (by omega) (by first|omega|(simp only[mz_PackS];omega)),mark_SaidS a2 ((k+((sumL mkc_Node a0:Nat):Int))+((sumL mkc_Pack a1:Nat):Int)) (by omega) (by omega) (by first|omega|(simp only[mz_SaidS];omega))]
theorem held_World (a0:List XNode) (a1:List XPack) (a2:List XSaid) (k:Int) (hk:0<k) (hs:k+((sumL mkc_Node a0+sumL mkc_Pack a1+sumL mkc_Said a2:Nat):Int)≤1152921504606846976) (h:mz_World (a0,a1,a2)≤4294967296):laws_heldWorld w (markL mkf_Node mkc_Node a0 k,markL mkf_Pack mkc_Pack a1 (k+((sumL mkc_Node a0:Nat):Int)),markL mkf_Said mkc_Said a2 ((k+((sumL mkc_Node a0:Nat):Int))+((sumL mkc_Pack a1:Nat):Int)),k)=some (((k+((sumL mkc_Node a0:Nat):Int))+((sumL mkc_Pack a1:Nat):Int))+((sumL mkc_Said a2:Nat):Int)):=by
 apply laws_heldWorld_of
 simp only[mz_World]at h
 simp only[laws_heldWorld_raw,Option.bind_some,cond_false,held_NodeS a0 k (by omega) (by omega) (by first|omega|(simp only[mz_NodeS];omega)),df (show¬((k+((sumL mkc_Node a0:Nat):Int)):Int)<0 by omega),held_PackS a1 (k+((sumL mkc_Node a0:Nat):Int)) (by omega) (by omega) (by first|omega|(simp only[mz_PackS];omega)),df (show¬(((k+((sumL mkc_Node a0:Nat):Int))+((sumL mkc_Pack a1:Nat):Int)):Int)<0 by omega),held_SaidS a2 ((k+((sumL mkc_Node a0:Nat):Int))+((sumL mkc_Pack a1:Nat):Int)) (by omega) (by omega) (by first|omega|(simp only[mz_SaidS];omega)),df (show¬((((k+((sumL mkc_Node a0:Nat):Int))+((sumL mkc_Pack a1:Nat):Int))+((sumL mkc_Said a2:Nat):Int)):Int)<0 by omega)]
end Go.Proofs.YtjenicbpdklpbaaGreat.M
