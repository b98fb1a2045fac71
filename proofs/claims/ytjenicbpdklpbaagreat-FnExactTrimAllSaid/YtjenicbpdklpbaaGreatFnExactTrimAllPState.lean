/- What the plain forms that FnExactTrimAll reaches come to: PState. No conditions but those that each theorem states. -/
import Derived.Test.YtjenicbpdklpbaaGreatFnExactTrimAllRaw0
import Derived.Test.YtjenicbpdklpbaaGreatFnExactTrimAllRaw1
import Derived.Test.YtjenicbpdklpbaaGreatFnExactTrimAllRaw2
import Derived.Test.YtjenicbpdklpbaaGreatFnExactTrimAllRaw3
import Derived.Test.YtjenicbpdklpbaaGreatFnExactTrimAllRaw4
import Derived.Test.YtjenicbpdklpbaaGreatFnExactTrimAllRaw5
set_option linter.all false
namespace Go.Proofs.YtjenicbpdklpbaaGreat.M
open Go Go.Eng Go.Proofs
set_option linter.unusedVariables false
def inR (n lo hi:Int):Bool:=decide (lo≤n)&&decide (n≤hi)
theorem within_ok (n lo hi:Int):impl_within w (n,lo,hi)=some (inR n lo hi):=by
 apply impl_within_of
 simp only[impl_within_raw,inR]
 cases decide (lo≤n)<;>rfl
theorem l1In_ok (n lo hi:Int):spec_l1In w (n,lo,hi)=some (inR n lo hi):=by
 apply spec_l1In_of
 simp only[spec_l1In_raw,inR]
 cases decide (lo≤n)<;>rfl
theorem isNode_ok (n:Int):impl_isNode w n=some (inR n 0 4):=by
 apply impl_isNode_of
 simp only[impl_isNode_raw,within_ok,Option.bind_some]
theorem l3Node_ok (n:Int):spec_l3Node w n=some (inR n 0 4):=by
 apply spec_l3Node_of
 simp only[spec_l3Node_raw,l1In_ok,Option.bind_some]
def entOk (e:XEntry):Bool:=inR e.1 1 1000&&inR e.2.1 0 1&&inR e.2.2.1 0 100000&&inR e.2.2.2.1 0 1000&&decide (((ByteArray.size e.2.2.2.2:Nat):Int)≤8)
theorem EntryOk_ok (a b c d:Int) (s:ByteArray):impl_EntryOk w (a,b,c,d,s)=some (entOk (a,b,c,d,s)):=by
 apply impl_EntryOk_of
 simp only[impl_EntryOk_raw,within_ok,Option.bind_some,entOk]
 cases inR a 1 1000<;>cases inR b 0 1<;>cases inR c 0 100000<;>cases inR d 0 1000<;>simp
theorem sEntryOk_ok (a b c d:Int) (s:ByteArray):spec_EntryOk w (a,b,c,d,s)=some (entOk (a,b,c,d,s)):=by
 apply spec_EntryOk_of
 simp only[spec_EntryOk_raw,l1In_ok,Option.bind_some,entOk]
 cases inR a 1 1000<;>cases inR b 0 1<;>cases inR c 0 100000<;>cases inR d 0 1000<;>simp
theorem EntryOk_e (e:XEntry):impl_EntryOk w e=some (entOk e):=EntryOk_ok ..
theorem sEntryOk_e (e:XEntry):spec_EntryOk w e=some (entOk e):=sEntryOk_ok ..
def entryOf (id:Int):List XItem→Int×Int×Int×Int×ByteArray×Bool
 | []=>(0,0,0,0,ByteArray.empty,false)
 |x::l=>if x.1=id then(x.2.1,x.2.2.1,x.2.2.2.1,x.2.2.2.2.1,x.2.2.2.2.2,true)else entryOf id l
def floorOf (id:Int):List XFloor→Int
 | []=>0
 |x::l=>if x.1=id then x.2 else floorOf id l
def entR (id:Int):List XItem→(Bool×Int×Int×Int×Int×ByteArray)⊕Unit
 | []=> .inr ()
 |x::l=>if x.1=id then .inl (true,x.2)else entR id l
theorem entR_entryOf (id:Int):(l:List XItem)→elimS (entR id l) (fun u3=>some (u3.2.1,u3.2.2.1,u3.2.2.2.1,u3.2.2.2.2.1,u3.2.2.2.2.2,u3.1)) (fun z4=>some (0,0,0,0,ByteArray.empty,false))=some (entryOf id l)
 | []=>rfl
 |x::l=>by
  have ih:=entR_entryOf id l
  by_cases h:x.1=id
  ·simp only[entR,entryOf,h,if_true,elimS,Sum.elim_inl]
  ·simp only[entR,entryOf,h,if_false];exact ih
def floR (id:Int):List XFloor→Int⊕Unit
 | []=> .inr ()
 |x::l=>if x.1=id then .inl x.2 else floR id l
theorem floR_floorOf (id:Int):(l:List XFloor)→elimS (floR id l) (fun u3=>some u3) (fun z4=>some 0)=some (floorOf id l)
 | []=>rfl
 |x::l=>by
  have ih:=floR_floorOf id l
  by_cases h:x.1=id
  ·simp only[floR,floorOf,h,if_true,elimS,Sum.elim_inl]
  ·simp only[floR,floorOf,h,if_false];exact ih
theorem FloorOf_ok (a:List XItem) (b:List XFloor) (id:Int) (h:b.length≤maxLen):impl_FloorOf w (a,b,id)=some (floorOf id b):=by
 apply impl_FloorOf_of
 have e:=loop_ix b.length (fun i=>impl_FloorOf_k0 wl (id,b,((b.length:Nat):Int),(i:Int))) (fun i=>floR id (b.drop i))
  (fun i hi ih=>by
    apply impl_FloorOf_l0_of
    simp only[impl_FloorOf_l0,ilt hi,inb_of hi,rd1_get hi,inc hi h,cond_true,ih]
    rw[List.drop_eq_getElem_cons hi,floR]
    by_cases hx:b[i].1=id
    ·simp only[hx,decide_true,cond_true,if_true]
    ·simp only[hx,decide_false,cond_false,if_false])
  (by
    apply impl_FloorOf_l0_of
    simp only[impl_FloorOf_l0,ilt_self,cond_false,List.drop_length,floR])
 simp only[Int.natCast_zero,List.drop_zero]at e
 simp only[impl_FloorOf_raw,e,Option.bind_some,floR_floorOf]
theorem sFloorOf_ok (a:List XItem) (b:List XFloor) (id:Int) (h:b.length≤maxLen):spec_FloorOf w (a,b,id)=some (floorOf id b):=by
 apply spec_FloorOf_of
 have e:=loop_ix b.length (fun i=>spec_FloorOf_k0 wl (id,(i:Int),a,b)) (fun i=>floR id (b.drop i))
  (fun i hi ih=>by
    apply spec_FloorOf_l0_of
    simp only[spec_FloorOf_l0,ilt hi,inb_of hi,rd1_get hi,inc hi h,cond_true,ih]
    rw[List.drop_eq_getElem_cons hi,floR]
    by_cases hx:b[i].1=id
    ·simp only[hx,decide_true,cond_true,if_true]
    ·simp only[hx,decide_false,cond_false,if_false])
  (by
    apply spec_FloorOf_l0_of
    simp only[spec_FloorOf_l0,ilt_self,cond_false,List.drop_length,floR])
 simp only[Int.natCast_zero,List.drop_zero]at e
 simp only[spec_FloorOf_raw,e,Option.bind_some,floR_floorOf]
def okFloors:Int→List XFloor→Bool
 |_,[]=>true
 |p,x::l=>inR x.1 0 4&&inR x.2 1 1000&&decide (p<x.1)&&okFloors x.1 l
def okItems (fl:List XFloor):Int→List XItem→Bool
 |_,[]=>true
 |p,x::l=>inR x.1 0 4&&entOk x.2&&decide (floorOf x.1 fl<x.2.1)&&decide (p<x.1)&&okItems fl x.1 l
def stOk (s:XState):Bool:=okFloors (-1) s.2&&okItems s.2 (-1) s.1
def prevF (b:List XFloor) (i:Nat):Int:=if i=0 then -1 else(b.getD (i - 1) (0,0)).1
def prevI (b:List XItem) (i:Nat):Int:=if i=0 then -1 else(b.getD (i - 1) zItem).1
theorem prevF_succ (b:List XFloor) {i:Nat}(h:i<b.length):prevF b (i+1)=b[i].1:=by simp[prevF,List.getD,h]
theorem prevI_succ (b:List XItem) {i:Nat}(h:i<b.length):prevI b (i+1)=b[i].1:=by simp[prevI,List.getD,h]
theorem prevF_get (b:List XFloor) {i:Nat}(h0:0<i) (h:i - 1<b.length):prevF b i=b[i - 1].1:=by
 simp[prevF,List.getD,h,show¬i=0 by omega]
theorem prevI_get (b:List XItem) {i:Nat}(h0:0<i) (h:i - 1<b.length):prevI b i=b[i - 1].1:=by
 simp[prevI,List.getD,h,show¬i=0 by omega]
theorem inR_node {n:Int}(h:inR n 0 4=true): -1<n:=by
 simp[inR]at h;omega
theorem dle_not (a b:Int):decide (a≤b)= !decide (b<a):=by
 by_cases h:a≤b
 ·rw[dt h,df (by omega)];rfl
 ·rw[df h,dt (by omega)];rfl
theorem StateOk_ok (a:List XItem) (b:List XFloor) (ha:a.length≤maxLen) (hb:b.length≤maxLen):impl_StateOk w (a,b)=some (stOk (a,b)):=by
 apply impl_StateOk_of
 have e0:=loop_ix b.length (fun i=>impl_StateOk_k0 wl (b,((b.length:Nat):Int),(i:Int),a,b)) (fun i=>if okFloors (prevF b i) (b.drop i)then .inr (a,b)else .inl false)
  (fun i hi ih=>by
    apply impl_StateOk_l0_of
    simp only[impl_StateOk_l0,ilt hi,inb_of hi,rd1_get hi,inc hi hb,cond_true,ih,isNode_ok,within_ok,Option.bind_some]
    rw[List.drop_eq_getElem_cons hi,okFloors,prevF_succ b hi]
    rcases Nat.eq_zero_or_pos i with h0|h0
    ·subst h0
     cases h1:inR b[0].1 0 4
     ·simp
     ·have:=inR_node h1
      simp only[ipos0,cond_false,Bool.not_true,prevF,if_true,dt this,Bool.true_and,Bool.and_true]
      cases inR b[0].2 1 1000<;>simp
    ·have hi':i - 1<b.length:=by omega
     simp only[ipos h0,cond_true,dec1 h0 (by omega),inb_of hi',rd1_get hi',prevF_get b h0 hi',dle_not]
     cases inR b[i].1 0 4<;>cases inR b[i].2 1 1000<;>cases decide (b[i - 1].1<b[i].1)<;>simp)
  (by
    apply impl_StateOk_l0_of
    simp only[impl_StateOk_l0,ilt_self,cond_false,List.drop_length,okFloors,if_true])
 have e2:=loop_ix a.length (fun i=>impl_StateOk_k2 wl (a,((a.length:Nat):Int),(i:Int),a,b)) (fun i=>if okItems b (prevI a i) (a.drop i)then .inr ()else .inl false)
  (fun i hi ih=>by
    apply impl_StateOk_l2_of
    simp only[impl_StateOk_l2,ilt hi,inb_of hi,rd1_get hi,inc hi ha,cond_true,ih,isNode_ok,EntryOk_e,FloorOf_ok _ _ _ hb,Option.bind_some]
    rw[List.drop_eq_getElem_cons hi,okItems,prevI_succ a hi]
    rcases Nat.eq_zero_or_pos i with h0|h0
    ·subst h0
     cases h1:inR a[0].1 0 4
     ·simp
     ·have:=inR_node h1
      simp only[ipos0,cond_false,Bool.not_true,prevI,if_true,dt this,Bool.true_and,Bool.and_true,dle_not]
      cases entOk a[0].2<;>cases decide (floorOf a[0].1 b<a[0].2.1)<;>simp
    ·have hi':i - 1<a.length:=by omega
     simp only[ipos h0,cond_true,dec1 h0 (by omega),inb_of hi',rd1_get hi',prevI_get a h0 hi',dle_not]
     cases inR a[i].1 0 4<;>cases entOk a[i].2<;>cases decide (floorOf a[i].1 b<a[i].2.1)<;>cases decide (a[i - 1].1<a[i].1)<;>simp)
  (by
    apply impl_StateOk_l2_of
    simp only[impl_StateOk_l2,ilt_self,cond_false,List.drop_length,okItems,if_true])
 simp only[Int.natCast_zero,List.drop_zero,prevF,prevI,if_true]at e0 e2
 simp only[impl_StateOk_raw,e0,Option.bind_some,stOk]
 cases okFloors (-1) b
 ·simp[elimS]
 ·simp only[if_true,elimS,Sum.elim_inr,e2,Option.bind_some,Bool.true_and]
  cases okItems b (-1) a<;>simp
theorem sStateOk_ok (a:List XItem) (b:List XFloor) (ha:a.length≤maxLen) (hb:b.length≤maxLen):spec_StateOk w (a,b)=some (stOk (a,b)):=by
 apply spec_StateOk_of
 have e2:=loop_ix b.length (fun i=>spec_StateOk_k2 wl ((i:Int),a,b)) (fun i=>if okFloors (prevF b i) (b.drop i)then .inr ()else .inl false)
  (fun i hi ih=>by
    apply spec_StateOk_l2_of
    simp only[spec_StateOk_l2,ilt hi,inb_of hi,rd1_get hi,inc hi hb,cond_true,ih,l3Node_ok,l1In_ok,Option.bind_some]
    rw[List.drop_eq_getElem_cons hi,okFloors,prevF_succ b hi]
    rcases Nat.eq_zero_or_pos i with h0|h0
    ·subst h0
     cases h1:inR b[0].1 0 4
     ·simp
     ·have:=inR_node h1
      simp only[ipos0,cond_false,Bool.not_true,prevF,if_true,dt this,Bool.true_and,Bool.and_true]
      cases inR b[0].2 1 1000<;>simp
    ·have hi':i - 1<b.length:=by omega
     simp only[ipos h0,cond_true,dec1 h0 (by omega),inb_of hi',rd1_get hi',prevF_get b h0 hi',dle_not]
     cases inR b[i].1 0 4<;>cases inR b[i].2 1 1000<;>cases decide (b[i - 1].1<b[i].1)<;>simp)
  (by
    apply spec_StateOk_l2_of
    simp only[spec_StateOk_l2,ilt_self,cond_false,List.drop_length,okFloors,if_true])
 have e0:=loop_ix a.length (fun i=>spec_StateOk_k0 wl ((i:Int),a,b)) (fun i=>if okItems b (prevI a i) (a.drop i)then .inr (a,b)else .inl false)
  (fun i hi ih=>by
    apply spec_StateOk_l0_of
    simp only[spec_StateOk_l0,ilt hi,inb_of hi,rd1_get hi,inc hi ha,cond_true,ih,l3Node_ok,sEntryOk_e,sFloorOf_ok _ _ _ hb,Option.bind_some]
    rw[List.drop_eq_getElem_cons hi,okItems,prevI_succ a hi]
    rcases Nat.eq_zero_or_pos i with h0|h0
    ·subst h0
     cases h1:inR a[0].1 0 4
     ·simp
     ·have:=inR_node h1
      simp only[ipos0,cond_false,Bool.not_true,prevI,if_true,dt this,Bool.true_and,Bool.and_true,dle_not]
      cases entOk a[0].2<;>cases decide (floorOf a[0].1 b<a[0].2.1)<;>simp
    ·have hi':i - 1<a.length:=by omega
     simp only[ipos h0,cond_true,dec1 h0 (by omega),inb_of hi',rd1_get hi',prevI_get a h0 hi',dle_not]
     cases inR a[i].1 0 4<;>cases entOk a[i].2<;>cases decide (floorOf a[i].1 b<a[i].2.1)<;>cases decide (a[i - 1].1<a[i].1)<;>simp)
  (by
    apply spec_StateOk_l0_of
    simp only[spec_StateOk_l0,ilt_self,cond_false,List.drop_length,okItems,if_true])
 simp only[Int.natCast_zero,List.drop_zero,prevF,prevI,if_true]at e0 e2
 simp only[spec_StateOk_raw,e0,Option.bind_some,stOk]
 cases okItems b (-1) a
 ·simp[elimS]
 ·simp only[if_true,elimS,Sum.elim_inr,e2,Option.bind_some,Bool.and_true]
  cases okFloors (-1) b<;>simp
end Go.Proofs.YtjenicbpdklpbaaGreat.M
