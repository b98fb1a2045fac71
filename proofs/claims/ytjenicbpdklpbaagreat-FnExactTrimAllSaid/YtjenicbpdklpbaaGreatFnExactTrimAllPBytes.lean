/- What the plain forms that FnExactTrimAll reaches come to: PBytes. No conditions but those that each theorem states. -/
import Derived.Test.YtjenicbpdklpbaaGreatFnExactTrimAllPFam
set_option linter.all false
namespace Go.Proofs.YtjenicbpdklpbaaGreat.M
open Go Go.Eng Go.Proofs
set_option linter.unusedVariables false
def putB (n:Int):Int:=IntKind.wrap .u8 (IntKind.wrap .i64 (Int.tmod n 128+128))
def putR:Nat→Int→List Int→Int×List Int
 |0,n,o=>(n,o)
 |f+1,n,o=>if 128≤n then putR f (Int.tdiv n 128) (o++[putB n])else(n,o)
def putNum (n:Int):List Int:=bif inR n 0 2147483647 then(putR 4 n []).2++[IntKind.wrap .u8 (putR 4 n []).1]else []
theorem putR_len:(f:Nat)→(n:Int)→(o:List Int)→(putR f n o).2.length≤o.length+f
 |0,n,o=>by simp[putR]
 |f+1,n,o=>by
  simp only[putR]
  split
  ·have:=putR_len f (Int.tdiv n 128) (o++[putB n])
   simp only[List.length_append,List.length_singleton]at this;omega
  ·simp
theorem putNum_len (n:Int):(putNum n).length≤5:=by
 unfold putNum
 have:=putR_len 4 n []
 cases inR n 0 2147483647
 ·simp
 ·simp only[cond_true,List.length_append,List.length_singleton];simp at this;omega
theorem PutNum_loop:(f:Nat)→(n:Int)→(o:List Int)→0≤n→n<128^(f+1)→n≤2147483647→o.length+f≤1000→impl_PutNum_k0 wl (n,o)=some (putR f n o):=by
 intro f
 induction f with
 |zero=>
  intro n o h0 h1 h2 h3
  apply impl_PutNum_l0_of
  simp only[impl_PutNum_l0,df (show¬128≤n by omega),cond_false,putR]
 |succ f ih=>
  intro n o h0 h1 h2 h3
  apply impl_PutNum_l0_of
  by_cases h:128≤n
  ·have hd:=Int.tdiv_eq_ediv_of_nonneg (b:=128) h0
   have:=ih (Int.tdiv n 128) (o++[putB n]) (by omega) (by rw[Int.pow_succ]at h1;omega) (by omega) (by simp;omega)
   simp only[putB]at this
   simp only[impl_PutNum_l0,dt h,cond_true,dt (show(128:Int)≠0 by omega),fits_of (show(o.length+List.length [IntKind.wrap .u8 (IntKind.wrap .i64 (Int.tmod n 128+128))])*1≤140737488351232 by simp;omega),putR,h,if_true,putB]
   rw[w64 (n:=Int.tdiv n 128) (by omega) (by omega)]
   exact this
  ·simp only[impl_PutNum_l0,df h,cond_false,putR,h,decide_false,if_false]
theorem sPutNum_loop:(f:Nat)→(n:Int)→(o:List Int)→0≤n→n<128^(f+1)→n≤2147483647→o.length+f≤1000→spec_PutNum_k0 wl (n,o)=some (putR f n o):=by
 intro f
 induction f with
 |zero=>
  intro n o h0 h1 h2 h3
  apply spec_PutNum_l0_of
  simp only[spec_PutNum_l0,df (show¬127<n by omega),cond_false,putR]
 |succ f ih=>
  intro n o h0 h1 h2 h3
  apply spec_PutNum_l0_of
  by_cases h:128≤n
  ·have hd:=Int.tdiv_eq_ediv_of_nonneg (b:=128) h0
   have:=ih (Int.tdiv n 128) (o++[putB n]) (by omega) (by rw[Int.pow_succ]at h1;omega) (by omega) (by simp;omega)
   simp only[putB]at this
   simp only[spec_PutNum_l0,dt (show 127<n by omega),cond_true,dt (show(128:Int)≠0 by omega),fits_of (show(o.length+List.length [IntKind.wrap .u8 (IntKind.wrap .i64 (Int.tmod n 128+128))])*1≤140737488351232 by simp;omega),putR,h,if_true,putB]
   rw[w64 (n:=Int.tdiv n 128) (by omega) (by omega)]
   exact this
  ·simp only[spec_PutNum_l0,df (show¬127<n by omega),cond_false,putR,h,decide_false,if_false]
theorem PutNum_ok (n:Int):impl_PutNum w n=some (putNum n):=by
 apply impl_PutNum_of
 simp only[impl_PutNum_raw,within_ok,Option.bind_some,putNum]
 cases h:inR n 0 2147483647
 ·simp
 ·simp[inR]at h
  have hl:=putR_len 4 n []
  simp only[List.length_nil]at hl
  simp only[Bool.not_true,cond_false,PutNum_loop 4 n [] h.1 (by omega) h.2 (by simp),Option.bind_some,cond_true,fits_of (show((putR 4 n []).2.length+List.length [IntKind.wrap .u8 (putR 4 n []).1])*1≤140737488351232 by simp;omega)]
theorem sPutNum_ok (n:Int):spec_PutNum w n=some (putNum n):=by
 apply spec_PutNum_of
 simp only[spec_PutNum_raw,l1In_ok,Option.bind_some,putNum]
 cases h:inR n 0 2147483647
 ·simp
 ·simp[inR]at h
  have hl:=putR_len 4 n []
  simp only[List.length_nil]at hl
  simp only[Bool.not_true,cond_false,sPutNum_loop 4 n [] h.1 (by omega) h.2 (by simp),Option.bind_some,cond_true,fits_of (show((putR 4 n []).2.length+List.length [IntKind.wrap .u8 (putR 4 n []).1])*1≤140737488351232 by simp;omega)]
theorem joined_ok (l:List (List Int)) (hl:l.length≤maxLen) (hf:l.flatten.length≤1099511627776):impl_joined w l=some l.flatten:=by
 apply impl_joined_of
 have e:=loop_st l.length (fun i (o:List Int)=>impl_joined_k0 wl (l,((l.length:Nat):Int),(i:Int),o)) (fun i o=>o++(l.drop i).flatten) (fun i o=>o.length+(l.drop i).flatten.length≤1099511627776)
  (fun i hi o ho ih=>by
    apply impl_joined_l0_of
    rw[List.drop_eq_getElem_cons hi,List.flatten_cons,List.length_append]at ho
    have:=ih (o++l[i]) (by rw[List.length_append];omega)
    simp only[impl_joined_l0,ilt hi,inb_of hi,rd1_get hi,inc hi hl,cond_true,fits_of (show(o.length+l[i].length)*1≤140737488351232 by omega),this]
    rw[List.drop_eq_getElem_cons hi,List.flatten_cons,List.append_assoc])
  (fun o _=>by
    apply impl_joined_l0_of
    simp[impl_joined_l0,ilt_self])
  [] (by simpa using hf)
 simp only[Int.natCast_zero,List.drop_zero,List.nil_append]at e
 simp only[impl_joined_raw,e,Option.bind_some]
theorem ofBytes_len (s:ByteArray):(ofBytes s).length=s.size:=by
 show(s.data.toList.map _).length=s.data.size
 rw[List.length_map,Array.length_toList]
def putText (s:ByteArray):List Int:=putNum (s.size:Nat)++ofBytes s
theorem putText_len (s:ByteArray):(putText s).length≤5+s.size:=by
 have:=putNum_len (s.size:Nat)
 simp only[putText,List.length_append,ofBytes_len];omega
theorem PutText_ok (s:ByteArray) (h:s.size≤4294967296):impl_PutText w s=some (putText s):=by
 apply impl_PutText_of
 have:=putNum_len (s.size:Nat)
 have e: [putNum (s.size:Nat),ofBytes s].flatten=putText s:=by simp[putText]
 simp only[impl_PutText_raw,PutNum_ok,Option.bind_some,joined_ok [putNum ((s.size:Nat):Int),ofBytes s] (by simp[maxLen]) (by rw[e];have:=putText_len s;omega),e]
theorem sPutText_ok (s:ByteArray) (h:s.size≤4294967296):spec_PutText w s=some (putText s):=by
 apply spec_PutText_of
 have:=putNum_len (s.size:Nat)
 simp only[spec_PutText_raw,sPutNum_ok,Option.bind_some,fits_of (show((putNum ((s.size:Nat):Int)).length+(ofBytes s).length)*1≤140737488351232 by rw[ofBytes_len];omega),cond_true,putText]
def crcStep (x:Int):Int:=if Int.tmod x 2=1 then bits .xor .i64 (IntKind.wrap .i64 (Int.tdiv x 2)) 3988292384 else IntKind.wrap .i64 (Int.tdiv x 2)
def crcIt:Nat→Int→Int
 |0,x=>x
 |n+1,x=>crcIt n (crcStep x)
def crcB (s b:Int):Int:=crcIt 8 (bits .xor .i64 s (IntKind.wrap .i64 b))
theorem crcB_eq (s b:Int):crcB s b=crcIt 8 (bits .xor .i64 s (IntKind.wrap .i64 b)):=by unfold crcB;exact Eq.refl _
def crc (l:List Int):Int:=bits .xor .i64 (l.foldl crcB 4294967295) 4294967295
theorem ilt8 {i:Nat}(h:i<8):decide ((i:Int)<8)=true:=by simp;omega
theorem inc8 {i n:Nat}(h:i<n) (hn:n≤1000:=by omega):IntKind.wrap .i64 ((i:Int)+1)=((i+1:Nat):Int):=by
 rw[w64 (by omega) (by omega)];omega
theorem Crc_inner (b:List Int) (n i:Int) (x:Int):impl_Crc_k2 wl (x,b,n,i,0)=some (crcIt 8 x,b,n,i):=by
 have e:=loop_st 8 (fun k (x:Int)=>impl_Crc_k2 wl (x,b,n,i,(k:Int))) (fun k x=>(crcIt (8 - k) x,b,n,i)) (fun _ _=>True)
  (fun k hk x _ ih=>by
    apply impl_Crc_l2_of
    have:=ih (crcStep x) trivial
    rw[show 8 - k=(8 - (k+1))+1 by omega,crcIt,←this]
    simp only[impl_Crc_l2,ilt8 hk,cond_true,dt (show(2:Int)≠0 by omega),inc8 hk,crcStep]
    by_cases hx:Int.tmod x 2=1
    ·simp only[hx,decide_true,cond_true,if_true]
    ·simp only[hx,decide_false,cond_false,if_false])
  (fun x _=>by
    apply impl_Crc_l2_of
    simp[impl_Crc_l2,crcIt])
  x trivial
 simpa using e
theorem sCrc_inner (b:List Int) (i:Int) (x:Int):spec_Crc_k2 wl (b,x,i,0)=some (b,crcIt 8 x,i):=by
 have e:=loop_st 8 (fun k (x:Int)=>spec_Crc_k2 wl (b,x,i,(k:Int))) (fun k x=>(b,crcIt (8 - k) x,i)) (fun _ _=>True)
  (fun k hk x _ ih=>by
    apply spec_Crc_l2_of
    have:=ih (crcStep x) trivial
    rw[show 8 - k=(8 - (k+1))+1 by omega,crcIt,←this]
    simp only[spec_Crc_l2,ilt8 hk,cond_true,dt (show(2:Int)≠0 by omega),inc8 hk,crcStep]
    by_cases hx:Int.tmod x 2=1
    ·simp only[hx,decide_true,cond_true,if_true]
    ·simp only[hx,decide_false,cond_false,if_false])
  (fun x _=>by
    apply spec_Crc_l2_of
    simp[spec_Crc_l2,crcIt])
  x trivial
 simpa using e
theorem Crc_ok (b:List Int) (h:b.length≤maxLen):impl_Crc w b=some (crc b):=by
 apply impl_Crc_of
 have e:=loop_st b.length (fun i (x:Int)=>impl_Crc_k0 wl (x,b,((b.length:Nat):Int),(i:Int))) (fun i x=>(b.drop i).foldl crcB x) (fun _ _=>True)
  (fun i hi x _ ih=>by
    apply impl_Crc_l0_of
    simp only[impl_Crc_l0,ilt hi,inb_of hi,rd1_get hi,cond_true,Crc_inner,Option.bind_some,inc hi h,ih _ trivial]
    rw[List.drop_eq_getElem_cons hi,List.foldl_cons,crcB_eq])
  (fun x _=>by
    apply impl_Crc_l0_of
    simp only[impl_Crc_l0,ilt_self,cond_false,List.drop_length,List.foldl_nil])
  4294967295 trivial
 simp only[Int.natCast_zero,List.drop_zero]at e
 simp only[impl_Crc_raw,e,Option.bind_some,crc]
theorem sCrc_ok (b:List Int) (h:b.length≤maxLen):spec_Crc w b=some (crc b):=by
 apply spec_Crc_of
 have e:=loop_st b.length (fun i (x:Int)=>spec_Crc_k0 wl (b,x,(i:Int))) (fun i x=>(b.drop i).foldl crcB x) (fun _ _=>True)
  (fun i hi x _ ih=>by
    apply spec_Crc_l0_of
    simp only[spec_Crc_l0,ilt hi,inb_of hi,rd1_get hi,cond_true,sCrc_inner,Option.bind_some,inc hi h,ih _ trivial]
    rw[List.drop_eq_getElem_cons hi,List.foldl_cons,crcB_eq])
  (fun x _=>by
    apply spec_Crc_l0_of
    simp only[spec_Crc_l0,ilt_self,cond_false,List.drop_length,List.foldl_nil])
  4294967295 trivial
 simp only[Int.natCast_zero,List.drop_zero]at e
 simp only[spec_Crc_raw,e,Option.bind_some,crc]
end Go.Proofs.YtjenicbpdklpbaaGreat.M
