/- What the plain forms that FnExactTrimAll reaches come to: PStBytes. No conditions but those that each theorem states. -/
import Derived.Test.YtjenicbpdklpbaaGreatFnExactTrimAllPTree
set_option linter.all false
namespace Go.Proofs.YtjenicbpdklpbaaGreat.M
open Go Go.Eng Go.Proofs
set_option linter.unusedVariables false
def itemB (x:XItem):List Int:=putNum x.1++(putNum x.2.1++(putNum x.2.2.1++(putNum x.2.2.2.1++(putNum x.2.2.2.2.1++putText x.2.2.2.2.2))))
def floorB (x:XFloor):List Int:=putNum x.1++putNum x.2
def stB (s:XState):List Int:=putNum (s.1.length:Nat)++(s.1.flatMap itemB++(putNum (s.2.length:Nat)++s.2.flatMap floorB))
theorem itemB_len (x:XItem):(itemB x).length≤30+ByteArray.size x.2.2.2.2.2:=by
 have h0:=putNum_len x.1
 have h1:=putNum_len x.2.1
 have h2:=putNum_len x.2.2.1
 have h3:=putNum_len x.2.2.2.1
 have h4:=putNum_len x.2.2.2.2.1
 have h5:=putText_len x.2.2.2.2.2
 simp only[itemB,List.length_append];omega
theorem floorB_len (x:XFloor):(floorB x).length≤10:=by
 have h0:=putNum_len x.1
 have h1:=putNum_len x.2
 simp only[floorB,List.length_append];omega
def smB (s:XState):Prop:=s.1.length≤1000∧s.2.length≤1000∧∀x∈s.1,ByteArray.size x.2.2.2.2.2≤1000
theorem items_smB (fl:List XFloor):(p:Int)→(l:List XItem)→okItems fl p l=true→∀x∈l,ByteArray.size x.2.2.2.2.2≤8
 |p,[],_=>by simp
 |p,x::l,h=>by
  simp only[okItems,Bool.and_eq_true]at h
  have h1:=h.1.1.1.2
  simp only[entOk,Bool.and_eq_true,decide_eq_true_eq]at h1
  intro y hy
  rcases List.mem_cons.1 hy with e|e
  ·rw[e];have:=h1.2;omega
  ·exact items_smB fl x.1 l h.2 y e
theorem stOk_smB {s:XState}(h:stOk s=true):smB s:=by
 have hl:=stOk_len h
 simp only[stOk,Bool.and_eq_true]at h
 exact⟨by omega,by omega,fun x hx=>by have:=items_smB _ _ _ h.2 x hx;omega⟩
theorem flat_len {α:Type}(f:α→List Int) (n:Nat):(l:List α)→(∀x∈l,(f x).length≤n)→(l.flatMap f).length≤l.length*n
 | [],_=>by simp
 |x::l,h=>by
  have ih:=flat_len f n l fun y hy=>h y (by simp[hy])
  have:=h x (by simp)
  simp only[List.flatMap_cons,List.length_append,List.length_cons,Nat.succ_mul];omega
theorem stB_len {s:XState}(h:smB s):(stB s).length≤2000000:=by
 have h1:=flat_len itemB 1030 s.1 fun x hx=>by have:=itemB_len x;have:=h.2.2 x hx;omega
 have h2:=flat_len floorB 10 s.2 fun x _=>floorB_len x
 have h3:=putNum_len (s.1.length:Nat)
 have h4:=putNum_len (s.2.length:Nat)
 have h5:s.1.length*1030≤1000*1030:=Nat.mul_le_mul_right _ h.1
 have h6:s.2.length*10≤1000*10:=Nat.mul_le_mul_right _ h.2.1
 simp only[stB,List.length_append];omega
theorem StBytes_loop0 (a:List XItem) (b:List XFloor) (h:smB (a,b)) (o:List Int) (ho:o.length≤10):
 impl_StateBytes_k0 wl (a,((a.length:Nat):Int),0,a,b,o)=some (a,b,o++a.flatMap itemB):=by
 have hl:a.length≤1000:=h.1
 have e:=loop_st a.length (fun i (o:List Int)=>impl_StateBytes_k0 wl (a,((a.length:Nat):Int),(i:Int),a,b,o)) (fun i o=>(a,b,o++(a.drop i).flatMap itemB)) (fun i o=>o.length≤10+i*1030)
  (fun i hi o ho ih=>by
    apply impl_StateBytes_l0_of
    have hb:=itemB_len a[i]
    have hd:=h.2.2 a[i] (List.getElem_mem hi)
    have ih1:=ih (o++itemB a[i]) (by rw[List.length_append];omega)
    have ej: [o,putNum a[i].1,putNum a[i].2.1,putNum a[i].2.2.1,putNum a[i].2.2.2.1,putNum a[i].2.2.2.2.1,putText a[i].2.2.2.2.2].flatten=o++itemB a[i]:=by simp[itemB]
    have hj:=joined_ok [o,putNum a[i].1,putNum a[i].2.1,putNum a[i].2.2.1,putNum a[i].2.2.2.1,putNum a[i].2.2.2.2.1,putText a[i].2.2.2.2.2] (by simp[maxLen]) (by rw[ej,List.length_append];omega)
    simp only[impl_StateBytes_l0,ilt hi,inb_of hi,rd1_get hi,inc hi (show a.length≤maxLen by simp[maxLen];omega),cond_true,PutNum_ok,PutText_ok _ (show ByteArray.size a[i].2.2.2.2.2≤4294967296 by omega),Option.bind_some,hj,ej,ih1]
    rw[List.drop_eq_getElem_cons hi,List.flatMap_cons,List.append_assoc])
  (fun o _=>by
    apply impl_StateBytes_l0_of
    simp[impl_StateBytes_l0])
  o (by omega)
 simpa using e
theorem StBytes_loop2 (b:List XFloor) (hb:b.length≤1000) (o:List Int) (ho:o.length≤2000000):
 impl_StateBytes_k2 wl (b,((b.length:Nat):Int),0,o)=some (o++b.flatMap floorB):=by
 have e:=loop_st b.length (fun i (o:List Int)=>impl_StateBytes_k2 wl (b,((b.length:Nat):Int),(i:Int),o)) (fun i o=>o++(b.drop i).flatMap floorB) (fun i o=>o.length≤2000000+i*10)
  (fun i hi o ho ih=>by
    apply impl_StateBytes_l2_of
    have hb:=floorB_len b[i]
    have ih1:=ih (o++floorB b[i]) (by rw[List.length_append];omega)
    have ej: [o,putNum b[i].1,putNum b[i].2].flatten=o++floorB b[i]:=by simp[floorB]
    have hj:=joined_ok [o,putNum b[i].1,putNum b[i].2] (by simp[maxLen]) (by rw[ej,List.length_append];omega)
    simp only[impl_StateBytes_l2,ilt hi,inb_of hi,rd1_get hi,inc hi (show b.length≤maxLen by simp[maxLen];omega),cond_true,PutNum_ok,Option.bind_some,hj,ej,ih1]
    rw[List.drop_eq_getElem_cons hi,List.flatMap_cons,List.append_assoc])
  (fun o _=>by
    apply impl_StateBytes_l2_of
    simp[impl_StateBytes_l2])
  o (by omega)
 simpa using e
theorem StateBytes_ok (a:List XItem) (b:List XFloor) (ha:a.length≤maxLen) (hb:b.length≤maxLen):impl_StateBytes w (a,b)=some (bif stOk (a,b)then stB (a,b)else []):=by
 apply impl_StateBytes_of
 simp only[impl_StateBytes_raw,StateOk_ok a b ha hb,Option.bind_some]
 cases h:stOk (a,b)
 ·simp
 ·have hs:=stOk_smB h
  have hp:=putNum_len (a.length:Nat)
  have h1:=flat_len itemB 1030 a fun x hx=>by have:=itemB_len x;have:=hs.2.2 x hx;omega
  have hal:a.length≤1000:=hs.1
  have hbl:b.length≤1000:=hs.2.1
  have h5:a.length*1030≤1000*1030:=Nat.mul_le_mul_right _ hal
  have hp2:=putNum_len (b.length:Nat)
  have ej: [putNum ((a.length:Nat):Int)++a.flatMap itemB,putNum ((b.length:Nat):Int)].flatten=putNum ((a.length:Nat):Int)++a.flatMap itemB++putNum ((b.length:Nat):Int):=by simp
  have hj:=joined_ok [putNum ((a.length:Nat):Int)++a.flatMap itemB,putNum ((b.length:Nat):Int)] (by simp[maxLen]) (by rw[ej];simp only[List.length_append];omega)
  simp only[Bool.not_true,cond_false,cond_true,PutNum_ok,Option.bind_some,StBytes_loop0 a b hs _ (show(putNum ((a.length:Nat):Int)).length≤10 by omega),hj,ej,StBytes_loop2 b hbl _ (show(putNum ((a.length:Nat):Int)++a.flatMap itemB++putNum ((b.length:Nat):Int)).length≤2000000 by simp only[List.length_append];omega)]
  simp only[stB,List.append_assoc]
theorem sBytes_nums (i:Int) (a:List XItem) (b:List XFloor) (o:List Int) (p q r s:Int) (t:ByteArray) (l:List Int) (hl:l.length≤5) (ho:o.length≤2000000):
 spec_l6Bytes_k2 wl (i,0,a,b,o,p,q,r,s,t,l)=some (i,a,b,o++l.flatMap putNum,p,q,r,s,t):=by
 have e:=loop_st l.length (fun k (o:List Int)=>spec_l6Bytes_k2 wl (i,(k:Int),a,b,o,p,q,r,s,t,l)) (fun k o=>(i,a,b,o++(l.drop k).flatMap putNum,p,q,r,s,t)) (fun k o=>o.length≤2000000+k*5)
  (fun k hk o ho ih=>by
    apply spec_l6Bytes_l2_of
    have hb:=putNum_len l[k]
    have ih1:=ih (o++putNum l[k]) (by rw[List.length_append];omega)
    simp only[spec_l6Bytes_l2,ilt hk,inb_of hk,rd1_get hk,inc hk (show l.length≤maxLen by simp[maxLen];omega),cond_true,sPutNum_ok,Option.bind_some,fits_of (show(o.length+(putNum l[k]).length)*1≤140737488351232 by omega),ih1]
    rw[List.drop_eq_getElem_cons hk,List.flatMap_cons,List.append_assoc])
  (fun o _=>by
    apply spec_l6Bytes_l2_of
    simp[spec_l6Bytes_l2])
  o (by omega)
 simpa using e
theorem sBytes_loop0 (a:List XItem) (b:List XFloor) (h:smB (a,b)) (o:List Int) (ho:o.length≤10):
 spec_l6Bytes_k0 wl (0,a,b,o)=some (a,b,o++a.flatMap itemB):=by
 have hl:a.length≤1000:=h.1
 have e:=loop_st a.length (fun i (o:List Int)=>spec_l6Bytes_k0 wl ((i:Int),a,b,o)) (fun i o=>(a,b,o++(a.drop i).flatMap itemB)) (fun i o=>o.length≤10+i*1030)
  (fun i hi o ho ih=>by
    apply spec_l6Bytes_l0_of
    have hb:=itemB_len a[i]
    have hd:=h.2.2 a[i] (List.getElem_mem hi)
    have ih1:=ih (o++itemB a[i]) (by rw[List.length_append];omega)
    have ej:(o++[a[i].1,a[i].2.1,a[i].2.2.1,a[i].2.2.2.1,a[i].2.2.2.2.1].flatMap putNum)++putText a[i].2.2.2.2.2=o++itemB a[i]:=by simp[itemB]
    have hn:=sBytes_nums (i:Int) a b o a[i].2.1 a[i].2.2.1 a[i].2.2.2.1 a[i].2.2.2.2.1 a[i].2.2.2.2.2 [a[i].1,a[i].2.1,a[i].2.2.1,a[i].2.2.2.1,a[i].2.2.2.2.1] (by simp) (by omega)
    have hlen:((o++[a[i].1,a[i].2.1,a[i].2.2.1,a[i].2.2.2.1,a[i].2.2.2.2.1].flatMap putNum).length+(putText a[i].2.2.2.2.2).length)*1≤140737488351232:=by
     have:=congrArg List.length ej
     simp only[List.length_append]at this⊢; omega
    simp only[spec_l6Bytes_l0,ilt hi,inb_of hi,rd1_get hi,inc hi (show a.length≤maxLen by simp[maxLen];omega),cond_true,hn,sPutText_ok _ (show ByteArray.size a[i].2.2.2.2.2≤4294967296 by omega),Option.bind_some,fits_of hlen,ej,ih1]
    rw[List.drop_eq_getElem_cons hi,List.flatMap_cons,List.append_assoc])
  (fun o _=>by
    apply spec_l6Bytes_l0_of
    simp[spec_l6Bytes_l0])
  o (by omega)
 simpa using e
theorem sBytes_loop4 (a:List XItem) (b:List XFloor) (hb:b.length≤1000) (o:List Int) (ho:o.length≤2000000):
 spec_l6Bytes_k4 wl (0,a,b,o)=some (o++b.flatMap floorB):=by
 have e:=loop_st b.length (fun i (o:List Int)=>spec_l6Bytes_k4 wl ((i:Int),a,b,o)) (fun i o=>o++(b.drop i).flatMap floorB) (fun i o=>o.length≤2000000+i*10)
  (fun i hi o ho ih=>by
    apply spec_l6Bytes_l4_of
    have hb:=floorB_len b[i]
    have h1:=putNum_len b[i].1
    have h2:=putNum_len b[i].2
    have ih1:=ih (o++floorB b[i]) (by rw[List.length_append];omega)
    have ej:o++putNum b[i].1++putNum b[i].2=o++floorB b[i]:=by simp[floorB]
    simp only[spec_l6Bytes_l4,ilt hi,inb_of hi,rd1_get hi,inc hi (show b.length≤maxLen by simp[maxLen];omega),cond_true,sPutNum_ok,Option.bind_some,fits_of (show(o.length+(putNum b[i].1).length)*1≤140737488351232 by omega),fits_of (show((o++putNum b[i].1).length+(putNum b[i].2).length)*1≤140737488351232 by rw[List.length_append];omega),ej,ih1]
    rw[List.drop_eq_getElem_cons hi,List.flatMap_cons,List.append_assoc])
  (fun o _=>by
    apply spec_l6Bytes_l4_of
    simp[spec_l6Bytes_l4])
  o (by omega)
 simpa using e
theorem sBytes_ok (a:List XItem) (b:List XFloor) (hs:smB (a,b)):spec_l6Bytes w (a,b)=some (stB (a,b)):=by
 apply spec_l6Bytes_of
 have hp:=putNum_len (a.length:Nat)
 have h1:=flat_len itemB 1030 a fun x hx=>by have:=itemB_len x;have:=hs.2.2 x hx;omega
 have hal:a.length≤1000:=hs.1
 have hbl:b.length≤1000:=hs.2.1
 have h5:a.length*1030≤1000*1030:=Nat.mul_le_mul_right _ hal
 have hp2:=putNum_len (b.length:Nat)
 have hlen:((putNum ((a.length:Nat):Int)++a.flatMap itemB).length+(putNum ((b.length:Nat):Int)).length)*1≤140737488351232:=by simp only[List.length_append];omega
 simp only[spec_l6Bytes_raw,sPutNum_ok,Option.bind_some,sBytes_loop0 a b hs _ (show(putNum ((a.length:Nat):Int)).length≤10 by omega),fits_of hlen,cond_true,sBytes_loop4 a b hbl _ (show(putNum ((a.length:Nat):Int)++a.flatMap itemB++putNum ((b.length:Nat):Int)).length≤2000000 by simp only[List.length_append];omega)]
 simp only[stB,List.append_assoc]
def leafSum (s:XState) (k:Int):Int:=bif stOk s&&inR k 0 3 then Int.tmod (crc (stB (sliceOf s [k]))) 1024 else 0
theorem LeafSum_ok (a:List XItem) (b:List XFloor) (k:Int) (ha:a.length≤maxLen) (hb:b.length≤maxLen):impl_LeafSum w (a,b,k)=some (leafSum (a,b) k):=by
 apply impl_LeafSum_of
 simp only[impl_LeafSum_raw,StateOk_ok a b ha hb,within_ok,Option.bind_some,leafSum]
 cases h:stOk (a,b)
 ·simp
 ·cases h2:inR k 0 3
  ·simp
  ·have hs:=stOk_slice [k] h
   have hl:=stOk_len hs
   have hB:=stB_len (stOk_smB hs)
   simp only[Bool.not_true,cond_false,Slice_ok a b [k] (by simp[maxLen]) ha hb,h,cond_true,Option.bind_some,StateBytes_ok (sliceOf (a,b) [k]).1 (sliceOf (a,b) [k]).2 (by simp only[maxLen];omega) (by simp only[maxLen];omega),Bool.and_self]
   simp only[show stOk ((sliceOf (a,b) [k]))=true from hs,cond_true,Crc_ok (stB ((sliceOf (a,b) [k]))) (show(stB (sliceOf (a,b) [k])).length≤maxLen by simp only[maxLen];omega),Option.bind_some,dt (show(1024:Int)≠0 by omega)]
theorem sLeafSum_ok (a:List XItem) (b:List XFloor) (k:Int) (ha:a.length≤maxLen) (hb:b.length≤maxLen):spec_LeafSum w (a,b,k)=some (leafSum (a,b) k):=by
 apply spec_LeafSum_of
 simp only[spec_LeafSum_raw,sStateOk_ok a b ha hb,l1In_ok,Option.bind_some,leafSum]
 cases h:stOk (a,b)
 ·simp
 ·cases h2:inR k 0 3
  ·simp
  ·have hs:=stOk_slice [k] h
   have hl:=stOk_len h
   simp only at hl
   have hB:=stB_len (stOk_smB hs)
   simp only[Bool.not_true,cond_false,sSlice_ok a b [k] (by simp[maxLen]) (by omega) (by omega),Option.bind_some,sBytes_ok (sliceOf (a,b) [k]).1 (sliceOf (a,b) [k]).2 (stOk_smB hs),cond_true,Bool.and_self,sCrc_ok (stB ((sliceOf (a,b) [k]))) (show(stB (sliceOf (a,b) [k])).length≤maxLen by simp only[maxLen];omega),dt (show(1024:Int)≠0 by omega)]
def rootOf (l:List Int):Int:=Int.tmod (crc (l.flatMap putNum)) 1024
theorem rootOf_ok (l:List Int) (hl:l.length≤4294967296):impl_rootOf w l=some (rootOf l):=by
 apply impl_rootOf_of
 have e:=loop_st l.length (fun i (o:List Int)=>impl_rootOf_k0 wl (l,((l.length:Nat):Int),(i:Int),o)) (fun i o=>o++(l.drop i).flatMap putNum) (fun i o=>o.length≤i*5)
  (fun i hi o ho ih=>by
    apply impl_rootOf_l0_of
    have hb:=putNum_len l[i]
    have ih1:=ih (o++putNum l[i]) (by rw[List.length_append];omega)
    have ej: [o,putNum l[i]].flatten=o++putNum l[i]:=by simp
    have hj:=joined_ok [o,putNum l[i]] (by simp[maxLen]) (by rw[ej,List.length_append];omega)
    simp only[impl_rootOf_l0,ilt hi,inb_of hi,rd1_get hi,inc hi (show l.length≤maxLen by simp[maxLen];omega),cond_true,PutNum_ok,Option.bind_some,hj,ej,ih1]
    rw[List.drop_eq_getElem_cons hi,List.flatMap_cons,List.append_assoc])
  (fun o _=>by
    apply impl_rootOf_l0_of
    simp[impl_rootOf_l0])
  [] (by simp)
 simp only[Int.natCast_zero,List.drop_zero,List.nil_append]at e
 have hb:=flat_len putNum 5 l fun x _=>putNum_len x
 simp only[impl_rootOf_raw,e,Option.bind_some,Crc_ok (l.flatMap putNum) (by simp only[maxLen];omega),dt (show(1024:Int)≠0 by omega),cond_true,rootOf]
theorem l6Root_ok (l:List Int) (hl:l.length≤4294967296):spec_l6Root w l=some (rootOf l):=by
 apply spec_l6Root_of
 have e:=loop_st l.length (fun i (o:List Int)=>spec_l6Root_k0 wl (l,(i:Int),o)) (fun i o=>o++(l.drop i).flatMap putNum) (fun i o=>o.length≤i*5)
  (fun i hi o ho ih=>by
    apply spec_l6Root_l0_of
    have hb:=putNum_len l[i]
    have ih1:=ih (o++putNum l[i]) (by rw[List.length_append];omega)
    simp only[spec_l6Root_l0,ilt hi,inb_of hi,rd1_get hi,inc hi (show l.length≤maxLen by simp[maxLen];omega),cond_true,sPutNum_ok,Option.bind_some,fits_of (show(o.length+(putNum l[i]).length)*1≤140737488351232 by omega),ih1]
    rw[List.drop_eq_getElem_cons hi,List.flatMap_cons,List.append_assoc])
  (fun o _=>by
    apply spec_l6Root_l0_of
    simp[spec_l6Root_l0])
  [] (by simp)
 simp only[Int.natCast_zero,List.drop_zero,List.nil_append]at e
 have hb:=flat_len putNum 5 l fun x _=>putNum_len x
 simp only[spec_l6Root_raw,e,Option.bind_some,sCrc_ok (l.flatMap putNum) (by simp only[maxLen];omega),dt (show(1024:Int)≠0 by omega),cond_true,rootOf]
def leaves (s:XState):List Int:=[leafSum s 0,leafSum s 1,leafSum s 2,leafSum s 3]
def treeOf (s:XState):XTree:=bif stOk s then(leaves s,rootOf (leaves s))else([],0)
theorem leaves_eq (s:XState):leaves s=(List.range' 0 4).map fun i=>leafSum s (i:Nat):=by simp[leaves,List.range']
theorem ilt4 {i:Nat}(h:i<4):decide ((i:Int)<4)=true:=by simp;omega
theorem TreeOf_ok (a:List XItem) (b:List XFloor) (ha:a.length≤maxLen) (hb:b.length≤maxLen):impl_TreeOf w (a,b)=some (treeOf (a,b)):=by
 apply impl_TreeOf_of
 have e:=loop_st 4 (fun i (o:List Int)=>impl_TreeOf_k0 wl ((i:Int),a,b,o,0)) (fun i o=>(o++(List.range' i (4 - i)).flatMap fun i=>[leafSum (a,b) (i:Nat)],(0:Int))) (fun i o=>o.length≤i)
  (fun i hi o ho ih=>by
    apply impl_TreeOf_l0_of
    have ih1:=ih (o++[leafSum (a,b) (i:Nat)]) (by simp;omega)
    rw[range_step hi,←List.append_assoc,←ih1]
    simp only[impl_TreeOf_l0,ilt4 hi,cond_true,LeafSum_ok a b _ ha hb,Option.bind_some,List.length_singleton,fits_of (show(o.length+1)*8≤140737488351232 by omega),inc8 hi])
  (fun o _=>by
    apply impl_TreeOf_l0_of
    simp[impl_TreeOf_l0])
  [] (by simp)
 have e:impl_TreeOf_k0 wl (0,a,b,[],0)=some (leaves (a,b),0):=e
 simp only[impl_TreeOf_raw,StateOk_ok a b ha hb,Option.bind_some,treeOf]
 cases stOk (a,b)
 ·simp
 ·simp only[Bool.not_true,cond_false,cond_true,e,Option.bind_some,rootOf_ok (leaves (a,b)) (by simp[leaves])]
theorem sTreeOf_ok (a:List XItem) (b:List XFloor) (ha:a.length≤maxLen) (hb:b.length≤maxLen):spec_TreeOf w (a,b)=some (treeOf (a,b)):=by
 apply spec_TreeOf_of
 have e:=loop_st 4 (fun i (o:List Int)=>spec_TreeOf_k0 wl ((i:Int),a,b,o,0)) (fun i o=>(o++(List.range' i (4 - i)).flatMap fun i=>[leafSum (a,b) (i:Nat)],(0:Int))) (fun i o=>o.length≤i)
  (fun i hi o ho ih=>by
    apply spec_TreeOf_l0_of
    have ih1:=ih (o++[leafSum (a,b) (i:Nat)]) (by simp;omega)
    rw[range_step hi,←List.append_assoc,←ih1]
    simp only[spec_TreeOf_l0,ilt4 hi,cond_true,sLeafSum_ok a b _ ha hb,Option.bind_some,List.length_singleton,fits_of (show(o.length+1)*8≤140737488351232 by omega),inc8 hi])
  (fun o _=>by
    apply spec_TreeOf_l0_of
    simp[spec_TreeOf_l0])
  [] (by simp)
 have e:spec_TreeOf_k0 wl (0,a,b,[],0)=some (leaves (a,b),0):=e
 simp only[spec_TreeOf_raw,sStateOk_ok a b ha hb,Option.bind_some,treeOf]
 cases stOk (a,b)
 ·simp
 ·simp only[Bool.not_true,cond_false,cond_true,e,Option.bind_some,l6Root_ok (leaves (a,b)) (by simp[leaves])]
end Go.Proofs.YtjenicbpdklpbaaGreat.M
