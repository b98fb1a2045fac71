/- What the plain forms that FnExactTrimAll reaches come to: PTree. No conditions but those that each theorem states. -/
import Derived.Test.YtjenicbpdklpbaaGreatFnExactTrimAllPBytes
set_option linter.all false
namespace Go.Proofs.YtjenicbpdklpbaaGreat.M
open Go Go.Eng Go.Proofs
set_option linter.unusedVariables false
def idxR (x:Int):Nat→List Int→Int⊕Unit
 |_,[]=> .inr ()
 |i,y::l=>if x=y then .inl (i:Nat)else idxR x (i+1) l
theorem idxR_mem (x:Int):(i:Nat)→(l:List Int)→∃r:Int,elimS (idxR x i l) (fun u=>some u) (fun _=>some (-1))=some r∧decide (0≤r)=decide (x∈l)
 |i,[]=>⟨-1,rfl,by simp⟩
 |i,y::l=>by
  by_cases h:x=y
  ·refine⟨(i:Nat), ?_, ?_⟩
   ·simp only[idxR,h,if_true,elimS,Sum.elim_inl]
   ·simp[h]
  ·obtain⟨r,h1,h2⟩:=idxR_mem x (i+1) l
   refine⟨r, ?_, ?_⟩
   ·simp only[idxR,h,if_false];exact h1
   ·rw[h2];simp[h]
theorem Contains_ok (a:List Int) (x:Int) (h:a.length≤maxLen):slices_Containsint_int w (a,x)=some (decide (x∈a)):=by
 apply slices_Containsint_int_of
 have e:=loop_ix a.length (fun i=>slices_Indexint_int_k0 wl (a,x,((a.length:Nat):Int),(i:Int))) (fun i=>idxR x i (a.drop i))
  (fun i hi ih=>by
    apply slices_Indexint_int_l0_of
    simp only[slices_Indexint_int_l0,ilt hi,inb_of hi,rd1_get hi,inc hi h,cond_true,ih]
    rw[List.drop_eq_getElem_cons hi,idxR]
    by_cases hx:x=a[i]
    ·simp only[hx,decide_true,cond_true,if_true]
    ·simp only[hx,decide_false,cond_false,if_false])
  (by
    apply slices_Indexint_int_l0_of
    simp only[slices_Indexint_int_l0,ilt_self,cond_false,List.drop_length,idxR])
 simp only[Int.natCast_zero,List.drop_zero]at e
 obtain⟨r,h1,h2⟩:=idxR_mem x 0 a
 have hi:slices_Indexint_int w (a,x)=some r:=by
  apply slices_Indexint_int_of
  simp only[slices_Indexint_int_raw,e,Option.bind_some,h1]
 simp only[slices_Containsint_int_raw,hi,Option.bind_some,h2]
theorem Equal_ok (a b:List Int) (h:a.length≤maxLen):slices_Equalint_int w (a,b)=some (decide (a=b)):=by
 apply slices_Equalint_int_of
 by_cases hl:a.length=b.length
 ·have e:=loop_eq a b hl (fun i=>slices_Equalint_int_k0 wl (a,b,((a.length:Nat):Int),(i:Int)))
   (fun i h1 h2 hx=>by
     apply slices_Equalint_int_l0_of
     simp only[slices_Equalint_int_l0,ilt h1,inb_of h1,inb_of h2,rd1_get h1,rd1_get h2,cond_true,hx,decide_false,Bool.not_false])
   (fun i h1 h2 r hx hk=>by
     apply slices_Equalint_int_l0_of
     simp only[slices_Equalint_int_l0,ilt h1,inb_of h1,inb_of h2,rd1_get h1,rd1_get h2,inc h1 h,cond_true,hx,decide_true,Bool.not_true,cond_false]
     exact hk)
   (by
     apply slices_Equalint_int_l0_of
     simp only[slices_Equalint_int_l0,ilt_self,cond_false])
  simp only[Int.natCast_zero]at e
  simp only[slices_Equalint_int_raw,dt (show((a.length:Nat):Int)=((b.length:Nat):Int) by omega),Bool.not_true,cond_false,e,Option.bind_some]
  by_cases hab:a=b
  ·simp[hab,elimS]
  ·simp[hab,elimS]
 ·have hab:a≠b:=fun h=>hl (by rw[h])
  simp only[slices_Equalint_int_raw,df (show¬((a.length:Nat):Int)=((b.length:Nat):Int) by omega),Bool.not_false,cond_true,hab,decide_false]
def hasR (x:Int):List Int→Bool⊕Unit
 | []=> .inr ()
 |y::l=>if y=x then .inl true else hasR x l
theorem hasR_mem (x:Int):(l:List Int)→elimS (hasR x l) (fun u=>some u) (fun _=>some false)=some (decide (x∈l))
 | []=>by simp[hasR,elimS]
 |y::l=>by
  by_cases h:y=x
  ·simp[hasR,h,elimS]
  ·have:=hasR_mem x l
   have h':¬x=y:=fun e=>h e.symm
   simp only[hasR,h,if_false,this];simp[h']
theorem l1Has_ok (a:List Int) (x:Int) (h:a.length≤maxLen):spec_l1Has w (a,x)=some (decide (x∈a)):=by
 apply spec_l1Has_of
 have e:=loop_ix a.length (fun i=>spec_l1Has_k0 wl (a,x,(i:Int))) (fun i=>hasR x (a.drop i))
  (fun i hi ih=>by
    apply spec_l1Has_l0_of
    simp only[spec_l1Has_l0,ilt hi,inb_of hi,rd1_get hi,inc hi h,cond_true,ih]
    rw[List.drop_eq_getElem_cons hi,hasR]
    by_cases hx:a[i]=x
    ·simp only[hx,decide_true,cond_true,if_true]
    ·simp only[hx,decide_false,cond_false,if_false])
  (by
    apply spec_l1Has_l0_of
    simp only[spec_l1Has_l0,ilt_self,cond_false,List.drop_length,hasR])
 simp only[Int.natCast_zero,List.drop_zero]at e
 simp only[spec_l1Has_raw,e,Option.bind_some,hasR_mem]
theorem l1Same_ok (a b:List Int) (h:a.length≤maxLen):spec_l1Same w (a,b)=some (decide (a=b)):=by
 apply spec_l1Same_of
 by_cases hl:a.length=b.length
 ·have e:=loop_eq a b hl (fun i=>spec_l1Same_k0 wl (a,b,(i:Int)))
   (fun i h1 h2 hx=>by
     apply spec_l1Same_l0_of
     simp only[spec_l1Same_l0,ilt h1,inb_of h1,inb_of h2,rd1_get h1,rd1_get h2,cond_true,hx,decide_false,Bool.not_false])
   (fun i h1 h2 r hx hk=>by
     apply spec_l1Same_l0_of
     simp only[spec_l1Same_l0,ilt h1,inb_of h1,inb_of h2,rd1_get h1,rd1_get h2,inc h1 h,cond_true,hx,decide_true,Bool.not_true,cond_false]
     exact hk)
   (by
     apply spec_l1Same_l0_of
     simp only[spec_l1Same_l0,ilt_self,cond_false])
  simp only[Int.natCast_zero]at e
  simp only[spec_l1Same_raw,dt (show((a.length:Nat):Int)=((b.length:Nat):Int) by omega),Bool.not_true,cond_false,e,Option.bind_some]
  by_cases hab:a=b
  ·simp[hab,elimS]
  ·simp[hab,elimS]
 ·have hab:a≠b:=fun h=>hl (by rw[h])
  simp only[spec_l1Same_raw,df (show¬((a.length:Nat):Int)=((b.length:Nat):Int) by omega),Bool.not_false,cond_true,hab,decide_false]
def leafOf (n:Int):Int:=bif inR n 0 4 then Int.tmod (crc (putNum n)) 4 else -1
theorem putNum_maxLen (n:Int):(putNum n).length≤maxLen:=by have:=putNum_len n;simp only[maxLen];omega
theorem LeafOf_ok (n:Int):impl_LeafOf w n=some (leafOf n):=by
 apply impl_LeafOf_of
 simp only[impl_LeafOf_raw,isNode_ok,Option.bind_some,leafOf,PutNum_ok,Crc_ok _ (putNum_maxLen n),dt (show(4:Int)≠0 by omega),cond_true]
 cases inR n 0 4<;>simp
theorem sLeafOf_ok (n:Int):spec_LeafOf w n=some (leafOf n):=by
 apply spec_LeafOf_of
 simp only[spec_LeafOf_raw,l3Node_ok,Option.bind_some,leafOf,sPutNum_ok,sCrc_ok _ (putNum_maxLen n),dt (show(4:Int)≠0 by omega),cond_true]
 cases inR n 0 4<;>simp
def inLeaves (l:List Int) (n:Int):Bool:=decide (leafOf n∈l)
def sliceOf (s:XState) (l:List Int):XState:=(s.1.filter fun x=>inLeaves l x.1,s.2.filter fun x=>inLeaves l x.1)
theorem okFloors_len:(p:Int)→(l:List XFloor)→okFloors p l=true→ -1≤p→(l.length:Int)≤4 - p∨l=[]
 |p,[],_,_=> .inr rfl
 |p,x::l,h,hp=>by
  simp only[okFloors,Bool.and_eq_true,inR,decide_eq_true_eq]at h
  obtain⟨⟨⟨h1,h2⟩,h3⟩,h4⟩:=h
  left
  rcases okFloors_len x.1 l h4 (by omega)with h5|h5
  ·simp only[List.length_cons];omega
  ·subst h5;simp;omega
theorem okItems_len (fl:List XFloor):(p:Int)→(l:List XItem)→okItems fl p l=true→ -1≤p→(l.length:Int)≤4 - p∨l=[]
 |p,[],_,_=> .inr rfl
 |p,x::l,h,hp=>by
  simp only[okItems,Bool.and_eq_true,inR,decide_eq_true_eq]at h
  obtain⟨⟨⟨⟨h1,h2⟩,h2'⟩,h3⟩,h4⟩:=h
  left
  rcases okItems_len fl x.1 l h4 (by omega)with h5|h5
  ·simp only[List.length_cons];omega
  ·subst h5;simp;omega
theorem stOk_len {s:XState}(h:stOk s=true):s.1.length≤5∧s.2.length≤5:=by
 simp only[stOk,Bool.and_eq_true]at h
 have h1:=okFloors_len _ _ h.1 (by omega)
 have h2:=okItems_len _ _ _ h.2 (by omega)
 constructor
 ·rcases h2 with h|h
  ·omega
  ·simp[h]
 ·rcases h1 with h|h
  ·omega
  ·simp[h]
theorem Slice_loop0 (q:List Int) (a:List XItem) (b:List XFloor) (hq:q.length≤maxLen) (ha:a.length≤4294967296) (c:List XFloor):
 impl_Slice_k0 wl (q,a,((a.length:Nat):Int),0,a,b,[],c)=some (q,a,b,a.filter (fun x=>inLeaves q x.1),c):=by
 have e:=loop_st a.length (fun i (o:List XItem)=>impl_Slice_k0 wl (q,a,((a.length:Nat):Int),(i:Int),a,b,o,c)) (fun i o=>(q,a,b,o++(a.drop i).filter (fun x=>inLeaves q x.1),c)) (fun i o=>o.length≤i)
  (fun i hi o ho ih=>by
    apply impl_Slice_l0_of
    have ih1:=ih o (by omega)
    have ih2:=ih (o++[a[i]]) (by simp;omega)
    simp only[impl_Slice_l0,ilt hi,inb_of hi,rd1_get hi,inc hi (show a.length≤maxLen by simp[maxLen];omega),cond_true,LeafOf_ok,Contains_ok q _ hq,Option.bind_some,List.length_singleton,fits_of (show(o.length+1)*56≤140737488351232 by omega)]
    rw[List.drop_eq_getElem_cons hi,List.filter_cons]
    cases h:inLeaves q a[i].1
    ·have h':decide (leafOf a[i].1∈q)=false:=h
     simp only[h',cond_false,Bool.false_eq_true,if_false];exact ih1
    ·have h':decide (leafOf a[i].1∈q)=true:=h
     simp only[h',cond_true,if_true]
     rw[show o++a[i]::List.filter (fun x=>inLeaves q x.1) (List.drop (i+1) a)=(o++[a[i]])++List.filter (fun x=>inLeaves q x.1) (List.drop (i+1) a) by simp]
     exact ih2)
  (fun o _=>by
    apply impl_Slice_l0_of
    simp[impl_Slice_l0])
  [] (by simp)
 simpa using e
theorem Slice_loop2 (q:List Int) (b:List XFloor) (hq:q.length≤maxLen) (hb:b.length≤4294967296) (c:List XItem):
 impl_Slice_k2 wl (q,b,((b.length:Nat):Int),0,c,[])=some (c,b.filter (fun x=>inLeaves q x.1)):=by
 have e:=loop_st b.length (fun i (o:List XFloor)=>impl_Slice_k2 wl (q,b,((b.length:Nat):Int),(i:Int),c,o)) (fun i o=>(c,o++(b.drop i).filter (fun x=>inLeaves q x.1))) (fun i o=>o.length≤i)
  (fun i hi o ho ih=>by
    apply impl_Slice_l2_of
    have ih1:=ih o (by omega)
    have ih2:=ih (o++[b[i]]) (by simp;omega)
    simp only[impl_Slice_l2,ilt hi,inb_of hi,rd1_get hi,inc hi (show b.length≤maxLen by simp[maxLen];omega),cond_true,LeafOf_ok,Contains_ok q _ hq,Option.bind_some,List.length_singleton,fits_of (show(o.length+1)*16≤140737488351232 by omega)]
    rw[List.drop_eq_getElem_cons hi,List.filter_cons]
    cases h:inLeaves q b[i].1
    ·have h':decide (leafOf b[i].1∈q)=false:=h
     simp only[h',cond_false,Bool.false_eq_true,if_false];exact ih1
    ·have h':decide (leafOf b[i].1∈q)=true:=h
     simp only[h',cond_true,if_true]
     rw[show o++b[i]::List.filter (fun x=>inLeaves q x.1) (List.drop (i+1) b)=(o++[b[i]])++List.filter (fun x=>inLeaves q x.1) (List.drop (i+1) b) by simp]
     exact ih2)
  (fun o _=>by
    apply impl_Slice_l2_of
    simp[impl_Slice_l2])
  [] (by simp)
 simpa using e
theorem Slice_ok (a:List XItem) (b:List XFloor) (q:List Int) (hq:q.length≤maxLen) (ha:a.length≤maxLen) (hb:b.length≤maxLen):
 impl_Slice w (a,b,q)=some (bif stOk (a,b)then sliceOf (a,b) q else([],[])):=by
 apply impl_Slice_of
 simp only[impl_Slice_raw,StateOk_ok a b ha hb,Option.bind_some]
 cases h:stOk (a,b)
 ·simp
 ·have hl:=stOk_len h
  simp only at hl
  simp only[Bool.not_true,cond_false,cond_true,Slice_loop0 q a b hq (by omega),Slice_loop2 q b hq (by omega),Option.bind_some,sliceOf]
theorem sSlice_loop0 (q:List Int) (a:List XItem) (b:List XFloor) (hq:q.length≤maxLen) (ha:a.length≤4294967296) (c:List XFloor):
 spec_l6Slice_k0 wl (q,0,a,b,[],c)=some (q,a,b,a.filter (fun x=>inLeaves q x.1),c):=by
 have e:=loop_st a.length (fun i (o:List XItem)=>spec_l6Slice_k0 wl (q,(i:Int),a,b,o,c)) (fun i o=>(q,a,b,o++(a.drop i).filter (fun x=>inLeaves q x.1),c)) (fun i o=>o.length≤i)
  (fun i hi o ho ih=>by
    apply spec_l6Slice_l0_of
    have ih1:=ih o (by omega)
    have ih2:=ih (o++[a[i]]) (by simp;omega)
    simp only[spec_l6Slice_l0,ilt hi,inb_of hi,rd1_get hi,inc hi (show a.length≤maxLen by simp[maxLen];omega),cond_true,sLeafOf_ok,l1Has_ok q _ hq,Option.bind_some,List.length_singleton,fits_of (show(o.length+1)*56≤140737488351232 by omega)]
    rw[List.drop_eq_getElem_cons hi,List.filter_cons]
    cases h:inLeaves q a[i].1
    ·have h':decide (leafOf a[i].1∈q)=false:=h
     simp only[h',cond_false,Bool.false_eq_true,if_false];exact ih1
    ·have h':decide (leafOf a[i].1∈q)=true:=h
     simp only[h',cond_true,if_true]
     rw[show o++a[i]::List.filter (fun x=>inLeaves q x.1) (List.drop (i+1) a)=(o++[a[i]])++List.filter (fun x=>inLeaves q x.1) (List.drop (i+1) a) by simp]
     exact ih2)
  (fun o _=>by
    apply spec_l6Slice_l0_of
    simp[spec_l6Slice_l0])
  [] (by simp)
 simpa using e
theorem sSlice_loop2 (q:List Int) (a:List XItem) (b:List XFloor) (hq:q.length≤maxLen) (hb:b.length≤4294967296) (c:List XItem):
 spec_l6Slice_k2 wl (q,0,a,b,c,[])=some (c,b.filter (fun x=>inLeaves q x.1)):=by
 have e:=loop_st b.length (fun i (o:List XFloor)=>spec_l6Slice_k2 wl (q,(i:Int),a,b,c,o)) (fun i o=>(c,o++(b.drop i).filter (fun x=>inLeaves q x.1))) (fun i o=>o.length≤i)
  (fun i hi o ho ih=>by
    apply spec_l6Slice_l2_of
    have ih1:=ih o (by omega)
    have ih2:=ih (o++[b[i]]) (by simp;omega)
    simp only[spec_l6Slice_l2,ilt hi,inb_of hi,rd1_get hi,inc hi (show b.length≤maxLen by simp[maxLen];omega),cond_true,sLeafOf_ok,l1Has_ok q _ hq,Option.bind_some,List.length_singleton,fits_of (show(o.length+1)*16≤140737488351232 by omega)]
    rw[List.drop_eq_getElem_cons hi,List.filter_cons]
    cases h:inLeaves q b[i].1
    ·have h':decide (leafOf b[i].1∈q)=false:=h
     simp only[h',cond_false,Bool.false_eq_true,if_false];exact ih1
    ·have h':decide (leafOf b[i].1∈q)=true:=h
     simp only[h',cond_true,if_true]
     rw[show o++b[i]::List.filter (fun x=>inLeaves q x.1) (List.drop (i+1) b)=(o++[b[i]])++List.filter (fun x=>inLeaves q x.1) (List.drop (i+1) b) by simp]
     exact ih2)
  (fun o _=>by
    apply spec_l6Slice_l2_of
    simp[spec_l6Slice_l2])
  [] (by simp)
 simpa using e
theorem sSlice_ok (a:List XItem) (b:List XFloor) (q:List Int) (hq:q.length≤maxLen) (ha:a.length≤4294967296) (hb:b.length≤4294967296):
 spec_l6Slice w (a,b,q)=some (sliceOf (a,b) q):=by
 apply spec_l6Slice_of
 simp only[spec_l6Slice_raw,sSlice_loop0 q a b hq ha,sSlice_loop2 q a b hq hb,Option.bind_some,sliceOf]
theorem okFloors_weaken:(p p':Int)→(l:List XFloor)→p'≤p→okFloors p l=true→okFloors p' l=true
 |p,p',[],_,_=>rfl
 |p,p',x::l,hp,h=>by
  simp only[okFloors,Bool.and_eq_true,decide_eq_true_eq]at h⊢
  exact⟨⟨h.1.1,by omega⟩,h.2⟩
theorem okItems_weaken (fl:List XFloor):(p p':Int)→(l:List XItem)→p'≤p→okItems fl p l=true→okItems fl p' l=true
 |p,p',[],_,_=>rfl
 |p,p',x::l,hp,h=>by
  simp only[okItems,Bool.and_eq_true,decide_eq_true_eq]at h⊢
  exact⟨⟨h.1.1,by omega⟩,h.2⟩
theorem okFloors_filter (f:Int→Bool):(p:Int)→(l:List XFloor)→okFloors p l=true→okFloors p (l.filter fun x=>f x.1)=true
 |p,[],_=>rfl
 |p,x::l,h=>by
  have h':=h
  simp only[okFloors,Bool.and_eq_true,decide_eq_true_eq]at h
  have ih:=okFloors_filter f x.1 l h.2
  rw[List.filter_cons]
  cases hf:f x.1
  ·simp only[Bool.false_eq_true,if_false];exact okFloors_weaken _ _ _ (by omega) ih
  ·simp only[if_true,okFloors,Bool.and_eq_true,decide_eq_true_eq]
   exact⟨⟨h.1.1,h.1.2⟩,ih⟩
theorem floorOf_filter (f:Int→Bool) (id:Int) (hf:f id=true):(l:List XFloor)→floorOf id (l.filter fun x=>f x.1)=floorOf id l
 | []=>rfl
 |x::l=>by
  have ih:=floorOf_filter f id hf l
  rw[List.filter_cons]
  by_cases hx:x.1=id
  ·rw[hx,hf];simp[floorOf,hx]
  ·cases f x.1
   ·simp only[Bool.false_eq_true,if_false,floorOf,hx];exact ih
   ·simp only[if_true,floorOf,hx,if_false];exact ih
theorem okItems_filter (f:Int→Bool) (fl:List XFloor):(p:Int)→(l:List XItem)→okItems fl p l=true→okItems (fl.filter fun x=>f x.1) p (l.filter fun x=>f x.1)=true
 |p,[],_=>rfl
 |p,x::l,h=>by
  simp only[okItems,Bool.and_eq_true,decide_eq_true_eq]at h
  have ih:=okItems_filter f fl x.1 l h.2
  rw[List.filter_cons]
  cases hf:f x.1
  ·simp only[Bool.false_eq_true,if_false];exact okItems_weaken _ _ _ _ (by omega) ih
  ·simp only[if_true,okItems,Bool.and_eq_true,decide_eq_true_eq,floorOf_filter f x.1 hf]
   exact⟨⟨h.1.1,h.1.2⟩,ih⟩
theorem stOk_slice {s:XState}(q:List Int) (h:stOk s=true):stOk (sliceOf s q)=true:=by
 simp only[stOk,Bool.and_eq_true]at h⊢
 exact⟨okFloors_filter (inLeaves q) _ _ h.1,okItems_filter (inLeaves q) _ _ _ h.2⟩
end Go.Proofs.YtjenicbpdklpbaaGreat.M
