/- What the plain forms that FnExactTrimAll reaches come to: PSafe. No conditions but those that each theorem states. -/
import Derived.Test.YtjenicbpdklpbaaGreatFnExactTrimAllPInts
set_option linter.all false
namespace Go.Proofs.YtjenicbpdklpbaaGreat.M
open Go Go.Eng Go.Proofs
set_option linter.unusedVariables false
theorem l1Min_ok (a b:Int):spec_l1Min w (a,b)=some (mnI a b):=by
 apply spec_l1Min_of
 simp only[spec_l1Min_raw,mnI]
 by_cases h:a<b
 ·rw[dt h,cond_true,if_neg (by omega)]
 ·rw[df h,cond_false]
  by_cases h2:b<a
  ·rw[if_pos h2]
  ·rw[if_neg h2];congr 1;omega
def safeF (id:Int):Nat→Int→List Int→Int
 |_,m,[]=>m
 |i,m,x::l=>bif decide ((i:Int)=id)then safeF id (i+1) m l else safeF id (i+1) (mnI m x) l
def safe (a0:Int) (a1:Int) (a2:List XItem) (a3:List XFloor) (a4:List Int) (a5:Int) (a6:Int) (a7:Int) (a8:List XState) (a9:List Int) (a10:List Int) (a11:List (List Int)) (a12:Int) (a13:Int) (a14:List XSess) (a15:Int) (a16:Int) (a17:Int) (a18:List XRise):Int:=bif nodeOk a0 a1 a2 a3 a4 a5 a6 a7 a8 a9 a10 a11 a12 a13 a14 a15 a16 a17 a18 then safeF a0 0 (logSeq (a6,a7,a8)) a10 else 0
theorem nodeOk_acked (a0:Int) (a1:Int) (a2:List XItem) (a3:List XFloor) (a4:List Int) (a5:Int) (a6:Int) (a7:Int) (a8:List XState) (a9:List Int) (a10:List Int) (a11:List (List Int)) (a12:Int) (a13:Int) (a14:List XSess) (a15:Int) (a16:Int) (a17:Int) (a18:List XRise) (h:nodeOk a0 a1 a2 a3 a4 a5 a6 a7 a8 a9 a10 a11 a12 a13 a14 a15 a16 a17 a18=true):((a10.length:Nat):Int)=a1∧logOk (a6,a7,a8)=true∧inR a1 1 5=true:=by
 simp only[nodeOk,Bool.and_eq_true]at h
 obtain⟨⟨⟨⟨⟨⟨⟨⟨⟨⟨⟨⟨⟨⟨⟨⟨⟨⟨h1,_⟩,_⟩,_⟩,h2⟩,_⟩,h3⟩,_⟩,_⟩,_⟩,_⟩,_⟩,_⟩,_⟩,_⟩,_⟩,_⟩,_⟩,_⟩:=h
 simp[vecOk]at h3
 exact⟨h3.1.2,h2,h1⟩
theorem Safe_ok (a0:Int) (a1:Int) (a2:List XItem) (a3:List XFloor) (a4:List Int) (a5:Int) (a6:Int) (a7:Int) (a8:List XState) (a9:List Int) (a10:List Int) (a11:List (List Int)) (a12:Int) (a13:Int) (a14:List XSess) (a15:Int) (a16:Int) (a17:Int) (a18:List XRise) (h:smN a2 a3 a4 a8 a9 a10 a11 a14 a18):impl_Safe w (a0,a1,a2,a3,a4,a5,a6,a7,a8,a9,a10,a11,a12,a13,a14,a15,a16,a17,a18)=some (safe a0 a1 a2 a3 a4 a5 a6 a7 a8 a9 a10 a11 a12 a13 a14 a15 a16 a17 a18):=by
 apply impl_Safe_of
 simp only[impl_Safe_raw,NodeOk_ok a0 a1 a2 a3 a4 a5 a6 a7 a8 a9 a10 a11 a12 a13 a14 a15 a16 a17 a18 h,Option.bind_some,safe]
 obtain⟨h2,h3,h4,h8,h8',h9,h10,h11,h11',h14,h18⟩:=h
 cases hn:nodeOk a0 a1 a2 a3 a4 a5 a6 a7 a8 a9 a10 a11 a12 a13 a14 a15 a16 a17 a18
 ·simp
 ·have e:=loop_st a10.length (fun i (m:Int)=>impl_Safe_k0 wl (m,a10,((a10.length:Nat):Int),(i:Int),a0,a1,a2,a3,a4,a5,a6,a7,a8,a9,a10,a11,a12,a13,a14,a15,a16,a17,a18)) (fun i m=>safeF a0 i m (a10.drop i)) (fun _ _=>True)
   (fun i hi m _ ih=>by
     apply impl_Safe_l0_of
     simp only[impl_Safe_l0,ilt hi,inb_of hi,rd1_get hi,inc hi h10,cond_true,ih _ trivial]
     rw[List.drop_eq_getElem_cons hi,safeF]
     cases decide ((i:Int)=a0)<;>simp)
   (fun m _=>by
     apply impl_Safe_l0_of
     simp[impl_Safe_l0,safeF])
   (logSeq (a6,a7,a8)) trivial
  simp only[Int.natCast_zero,List.drop_zero]at e
  simp only[Bool.not_true,cond_false,cond_true,LogSeq_ok a6 a7 a8 h8 h8',Option.bind_some,e]
theorem sSafe_ok (a0:Int) (a1:Int) (a2:List XItem) (a3:List XFloor) (a4:List Int) (a5:Int) (a6:Int) (a7:Int) (a8:List XState) (a9:List Int) (a10:List Int) (a11:List (List Int)) (a12:Int) (a13:Int) (a14:List XSess) (a15:Int) (a16:Int) (a17:Int) (a18:List XRise) (h:smN a2 a3 a4 a8 a9 a10 a11 a14 a18):spec_Safe w (a0,a1,a2,a3,a4,a5,a6,a7,a8,a9,a10,a11,a12,a13,a14,a15,a16,a17,a18)=some (safe a0 a1 a2 a3 a4 a5 a6 a7 a8 a9 a10 a11 a12 a13 a14 a15 a16 a17 a18):=by
 apply spec_Safe_of
 simp only[spec_Safe_raw,sNodeOk_ok a0 a1 a2 a3 a4 a5 a6 a7 a8 a9 a10 a11 a12 a13 a14 a15 a16 a17 a18 h,Option.bind_some,safe]
 obtain⟨h2,h3,h4,h8,h8',h9,h10,h11,h11',h14,h18⟩:=h
 cases hn:nodeOk a0 a1 a2 a3 a4 a5 a6 a7 a8 a9 a10 a11 a12 a13 a14 a15 a16 a17 a18
 ·simp
 ·have hl:=(nodeOk_acked a0 a1 a2 a3 a4 a5 a6 a7 a8 a9 a10 a11 a12 a13 a14 a15 a16 a17 a18 hn).1
  have e:=loop_st a10.length (fun i (m:Int)=>spec_Safe_k0 wl (m,(i:Int),a0,a1,a2,a3,a4,a5,a6,a7,a8,a9,a10,a11,a12,a13,a14,a15,a16,a17,a18)) (fun i m=>safeF a0 i m (a10.drop i)) (fun _ _=>True)
   (fun i hi m _ ih=>by
     apply spec_Safe_l0_of
     have hi':(i:Int)<a1:=by omega
     simp only[spec_Safe_l0,dt hi',inb_of hi,rd1_get hi,inc hi h10,cond_true,ih _ trivial,l1Min_ok,Option.bind_some]
     rw[List.drop_eq_getElem_cons hi,safeF]
     cases decide ((i:Int)=a0)<;>simp)
   (fun m _=>by
     apply spec_Safe_l0_of
     have:¬((a10.length:Nat):Int)<a1:=by omega
     simp only[spec_Safe_l0,df this,cond_false,List.drop_length,safeF])
   (logSeq (a6,a7,a8)) trivial
  simp only[Int.natCast_zero,List.drop_zero]at e
  simp only[Bool.not_true,cond_false,cond_true,sLogSeq_ok a6 a7 a8 h8 h8',Option.bind_some,e]
theorem ft_node (a0:Int) (a1:Int) (a2:List XItem) (a3:List XFloor) (a4:List Int) (a5:Int) (a6:Int) (a7:Int) (a8:List XState) (a9:List Int) (a10:List Int) (a11:List (List Int)) (a12:Int) (a13:Int) (a14:List XSess) (a15:Int) (a16:Int) (a17:Int) (a18:List XRise) (h:ft_Node (a0,a1,a2,a3,a4,a5,a6,a7,a8,a9,a10,a11,a12,a13,a14,a15,a16,a17,a18)):smN a2 a3 a4 a8 a9 a10 a11 a14 a18:=by
 simp only[ft_Node,ft_State,ft_ItemS,ft_FloorS,ft_Tree,ft_IntS,ft_Log,ft_StateS,ft_IntSS,ft_SessS,ft_RiseS]at h
 obtain⟨⟨⟨h2,_⟩,h3⟩,h4,⟨h8,h8'⟩,h9,h10,⟨h11,h11'⟩,h14,h18⟩:=h
 exact⟨h2,h3,h4,h8,fun s hs=>⟨(h8' s hs).1.1,(h8' s hs).2⟩,h9,h10,h11,h11',h14,h18⟩
end Go.Proofs.YtjenicbpdklpbaaGreat.M
