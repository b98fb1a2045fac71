/- What the plain forms that FnExactTrimAll reaches come to: PNode. No conditions but those that each theorem states. -/
import Derived.Test.YtjenicbpdklpbaaGreatFnExactTrimAllPStBytes
set_option linter.all false
namespace Go.Proofs.YtjenicbpdklpbaaGreat.M
open Go Go.Eng Go.Proofs
set_option linter.unusedVariables false
def logOk (g:XLog):Bool:=inR g.1 1 8&&decide (((g.2.2.length:Nat):Int)≤g.1)&&inR g.2.1 0 100000&&decide (g.2.1+((g.2.2.length:Nat):Int)≤100000)&&g.2.2.all stOk
theorem all_ite {α:Type}{R:Type}(p:α→Bool) (l:List α) (x y:R) {i:Nat}(hi:i<l.length):(if(l.drop i).all p then x else y)=(bif p l[i]then(if(l.drop (i+1)).all p then x else y)else y):=by
 rw[List.drop_eq_getElem_cons hi,List.all_cons]
 cases p l[i]<;>simp
theorem all_end {α:Type}{R:Type}(p:α→Bool) (l:List α) (x y:R):(if(l.drop l.length).all p then x else y)=x:=by simp
theorem LogOk_ok (a b:Int) (l:List XState) (hl:l.length≤maxLen) (hs:∀s∈l,s.1.length≤maxLen∧s.2.length≤maxLen):impl_LogOk w (a,b,l)=some (logOk (a,b,l)):=by
 apply impl_LogOk_of
 have e:=loop_ix l.length (fun i=>impl_LogOk_k0 wl (l,((l.length:Nat):Int),(i:Int),a,b,l)) (fun i=>if(l.drop i).all stOk then .inr (a,b,l)else .inl false)
  (fun i hi ih=>by
    apply impl_LogOk_l0_of
    have hx:=hs _ (List.getElem_mem hi)
    rw[all_ite stOk l _ _ hi]
    simp only[impl_LogOk_l0,ilt hi,inb_of hi,rd1_get hi,inc hi hl,cond_true,StateOk_ok _ _ hx.1 hx.2,Option.bind_some,ih]
    cases stOk l[i]<;>simp)
  (by
    apply impl_LogOk_l0_of
    simp[impl_LogOk_l0])
 simp only[Int.natCast_zero,List.drop_zero]at e
 simp only[impl_LogOk_raw,e,Option.bind_some,within_ok,logOk]
 cases l.all stOk
 ·simp[elimS]
 ·simp only[if_true,elimS,Sum.elim_inr,Bool.and_true]
  cases h1:inR a 1 8
  ·simp
  ·by_cases h2:((l.length:Nat):Int)≤a
   ·cases h3:inR b 0 100000
    ·simp
    ·simp[inR]at h1 h3
     rw[w64 (by omega) (by omega)]
     simp[h2]
   ·simp[h2]
theorem sLogOk_ok (a b:Int) (l:List XState) (hl:l.length≤maxLen) (hs:∀s∈l,s.1.length≤maxLen∧s.2.length≤maxLen):spec_LogOk w (a,b,l)=some (logOk (a,b,l)):=by
 apply spec_LogOk_of
 have e:=loop_ix l.length (fun i=>spec_LogOk_k0 wl ((i:Int),a,b,l)) (fun i=>if(l.drop i).all stOk then .inr ()else .inl false)
  (fun i hi ih=>by
    apply spec_LogOk_l0_of
    have hx:=hs _ (List.getElem_mem hi)
    rw[all_ite stOk l _ _ hi]
    simp only[spec_LogOk_l0,ilt hi,inb_of hi,rd1_get hi,inc hi hl,cond_true,sStateOk_ok _ _ hx.1 hx.2,Option.bind_some,ih]
    cases stOk l[i]<;>simp)
  (by
    apply spec_LogOk_l0_of
    simp[spec_LogOk_l0])
 simp only[Int.natCast_zero,List.drop_zero]at e
 simp only[spec_LogOk_raw,e,Option.bind_some,l1In_ok,logOk]
 cases h1:inR a 1 8
 ·simp
 ·by_cases h2:((l.length:Nat):Int)≤a
  ·cases h3:inR b 0 100000
   ·simp[h2]
   ·simp[inR]at h1 h3
    rw[w64 (by omega) (by omega)]
    by_cases h4:b+((l.length:Nat):Int)≤100000
    ·simp only[Bool.not_true,cond_false,df (show¬a<((l.length:Nat):Int) by omega),df (show¬100000<b+((l.length:Nat):Int) by omega),dt h2,dt h4,Bool.true_and,Bool.and_true]
     cases l.all stOk<;>simp[elimS]
    ·simp only[Bool.not_true,cond_false,df (show¬a<((l.length:Nat):Int) by omega),dt (show 100000<b+((l.length:Nat):Int) by omega),df h4,cond_true,Bool.and_false,Bool.false_and]
  ·simp only[Bool.not_true,cond_false,dt (show a<((l.length:Nat):Int) by omega),cond_true,df h2,Bool.and_false,Bool.false_and]
def logSeq (g:XLog):Int:=bif logOk g then g.2.1+((g.2.2.length:Nat):Int)else 0
theorem logOk_nums {g:XLog}(h:logOk g=true):g.2.2.length≤8∧0≤g.2.1∧g.2.1≤100000∧g.2.1+((g.2.2.length:Nat):Int)≤100000:=by
 simp[logOk,inR]at h;omega
theorem LogSeq_ok (a b:Int) (l:List XState) (hl:l.length≤maxLen) (hs:∀s∈l,s.1.length≤maxLen∧s.2.length≤maxLen):impl_LogSeq w (a,b,l)=some (logSeq (a,b,l)):=by
 apply impl_LogSeq_of
 simp only[impl_LogSeq_raw,LogOk_ok a b l hl hs,Option.bind_some,logSeq]
 cases h:logOk (a,b,l)
 ·simp
 ·have:=logOk_nums h
  simp only at this
  rw[w64 (by omega) (by omega)];simp
theorem sLogSeq_ok (a b:Int) (l:List XState) (hl:l.length≤maxLen) (hs:∀s∈l,s.1.length≤maxLen∧s.2.length≤maxLen):spec_LogSeq w (a,b,l)=some (logSeq (a,b,l)):=by
 apply spec_LogSeq_of
 simp only[spec_LogSeq_raw,sLogOk_ok a b l hl hs,Option.bind_some,logSeq]
 cases h:logOk (a,b,l)
 ·simp
 ·have:=logOk_nums h
  simp only at this
  rw[w64 (by omega) (by omega)];simp
def vecOk (v:List Int) (n:Int):Bool:=inR n 1 5&&decide (((v.length:Nat):Int)=n)&&v.all fun x=>inR x 0 100000
theorem VecOk_ok (v:List Int) (n:Int) (hv:v.length≤maxLen):impl_VecOk w (v,n)=some (vecOk v n):=by
 apply impl_VecOk_of
 have e:=loop_ix v.length (fun i=>impl_VecOk_k0 wl (v,n,v,((v.length:Nat):Int),(i:Int))) (fun i=>if(v.drop i).all (fun x=>inR x 0 100000)then .inr (v,n)else .inl false)
  (fun i hi ih=>by
    apply impl_VecOk_l0_of
    rw[all_ite (fun x=>inR x 0 100000) v _ _ hi]
    simp only[impl_VecOk_l0,ilt hi,inb_of hi,rd1_get hi,inc hi hv,cond_true,within_ok,Option.bind_some,ih]
    cases inR v[i] 0 100000<;>simp)
  (by
    apply impl_VecOk_l0_of
    simp[impl_VecOk_l0])
 simp only[Int.natCast_zero,List.drop_zero]at e
 simp only[impl_VecOk_raw,e,Option.bind_some,within_ok,vecOk]
 cases v.all fun x=>inR x 0 100000
 ·simp[elimS]
 ·simp only[if_true,elimS,Sum.elim_inr,Bool.and_true]
  cases inR n 1 5<;>simp
theorem sVecOk_ok (v:List Int) (n:Int) (hv:v.length≤maxLen):spec_VecOk w (v,n)=some (vecOk v n):=by
 apply spec_VecOk_of
 by_cases h2:((v.length:Nat):Int)=n
 ·subst h2
  have e:=loop_ix v.length (fun i=>spec_VecOk_k0 wl (v,((v.length:Nat):Int),(i:Int))) (fun i=>if(v.drop i).all (fun x=>inR x 0 100000)then .inr ()else .inl false)
   (fun i hi ih=>by
     apply spec_VecOk_l0_of
     rw[all_ite (fun x=>inR x 0 100000) v _ _ hi]
     simp only[spec_VecOk_l0,ilt hi,inb_of hi,rd1_get hi,inc hi hv,cond_true,l1In_ok,Option.bind_some,ih]
     cases inR v[i] 0 100000<;>simp)
   (by
     apply spec_VecOk_l0_of
     simp[spec_VecOk_l0])
  simp only[Int.natCast_zero,List.drop_zero]at e
  simp only[spec_VecOk_raw,e,Option.bind_some,l1In_ok,vecOk]
  cases inR ((v.length:Nat):Int) 1 5
  ·simp
  ·cases v.all fun x=>inR x 0 100000<;>simp[elimS]
 ·simp only[spec_VecOk_raw,l1In_ok,Option.bind_some,vecOk,df h2]
  cases inR n 1 5<;>simp
def rowOk (r:List Int):Bool:=(r.all fun x=>inR x 0 1000)&&decide (((r.length:Nat):Int)=5)
def tableOk (t:List (List Int)) (n:Int):Bool:=inR n 1 5&&decide (((t.length:Nat):Int)=n)&&t.all rowOk
theorem TableOk_ok (t:List (List Int)) (n:Int) (ht:t.length≤maxLen) (hr:∀r∈t,r.length≤maxLen):impl_TableOk w (t,n)=some (tableOk t n):=by
 apply impl_TableOk_of
 have inner:∀(i:Int) (r:List Int),r.length≤maxLen→impl_TableOk_k2 wl (t,n,r,t,((t.length:Nat):Int),i,r,((r.length:Nat):Int),0)=some (if r.all (fun x=>inR x 0 1000)then .inr (t,n,r,t,((t.length:Nat):Int),i)else .inl false):=by
  intro i r hr
  have e:=loop_ix r.length (fun k=>impl_TableOk_k2 wl (t,n,r,t,((t.length:Nat):Int),i,r,((r.length:Nat):Int),(k:Int))) (fun k=>if(r.drop k).all (fun x=>inR x 0 1000)then .inr (t,n,r,t,((t.length:Nat):Int),i)else .inl false)
   (fun k hk ih=>by
     apply impl_TableOk_l2_of
     rw[all_ite (fun x=>inR x 0 1000) r _ _ hk]
     simp only[impl_TableOk_l2,ilt hk,inb_of hk,rd1_get hk,inc hk hr,cond_true,within_ok,Option.bind_some,ih]
     cases inR r[k] 0 1000<;>simp)
   (by
     apply impl_TableOk_l2_of
     simp[impl_TableOk_l2])
  simpa using e
 have e:=loop_ix t.length (fun i=>impl_TableOk_k0 wl (t,n,t,((t.length:Nat):Int),(i:Int))) (fun i=>if(t.drop i).all rowOk then .inr (t,n)else .inl false)
  (fun i hi ih=>by
    apply impl_TableOk_l0_of
    rw[all_ite rowOk t _ _ hi]
    have hx:=hr _ (List.getElem_mem hi)
    simp only[impl_TableOk_l0,ilt hi,inb_of hi,rd1_get hi,cond_true,inner _ _ hx,Option.bind_some,rowOk]
    cases t[i].all fun x=>inR x 0 1000
    ·simp[elimS]
    ·simp only[if_true,elimS,Sum.elim_inr,Bool.true_and,inc hi ht,ih]
     cases decide (((t[i].length:Nat):Int)=5)<;>simp)
  (by
    apply impl_TableOk_l0_of
    simp[impl_TableOk_l0])
 simp only[Int.natCast_zero,List.drop_zero]at e
 simp only[impl_TableOk_raw,e,Option.bind_some,within_ok,tableOk]
 cases t.all rowOk
 ·simp[elimS]
 ·simp only[if_true,elimS,Sum.elim_inr,Bool.and_true]
  cases inR n 1 5<;>simp
theorem sTableOk_ok (t:List (List Int)) (n:Int) (ht:t.length≤maxLen) (hr:∀r∈t,r.length≤maxLen):spec_TableOk w (t,n)=some (tableOk t n):=by
 apply spec_TableOk_of
 by_cases h2:((t.length:Nat):Int)=n
 ·subst h2
  have inner:∀(i:Nat) (hi:i<t.length),spec_TableOk_k2 wl (t,((t.length:Nat):Int),(i:Int),0)=some (if t[i].all (fun x=>inR x 0 1000)then .inr (t,((t.length:Nat):Int),(i:Int))else .inl false):=by
   intro i hi
   have hx:=hr _ (List.getElem_mem hi)
   have e:=loop_ix t[i].length (fun k=>spec_TableOk_k2 wl (t,((t.length:Nat):Int),(i:Int),(k:Int))) (fun k=>if(t[i].drop k).all (fun x=>inR x 0 1000)then .inr (t,((t.length:Nat):Int),(i:Int))else .inl false)
    (fun k hk ih=>by
      apply spec_TableOk_l2_of
      rw[all_ite (fun x=>inR x 0 1000) t[i] _ _ hk]
      simp only[spec_TableOk_l2,inb_of hi,rd1_get hi,ilt hk,inb_of hk,rd1_get hk,inc hk hx,cond_true,l1In_ok,Option.bind_some,ih]
      cases inR t[i][k] 0 1000<;>simp)
    (by
      apply spec_TableOk_l2_of
      simp only[spec_TableOk_l2,inb_of hi,rd1_get hi,ilt_self,cond_true,cond_false,all_end])
   simpa using e
  have e:=loop_ix t.length (fun i=>spec_TableOk_k0 wl (t,((t.length:Nat):Int),(i:Int))) (fun i=>if(t.drop i).all rowOk then .inr ()else .inl false)
   (fun i hi ih=>by
     apply spec_TableOk_l0_of
     rw[all_ite rowOk t _ _ hi]
     simp only[spec_TableOk_l0,ilt hi,inb_of hi,rd1_get hi,cond_true,inner i hi,Option.bind_some,rowOk]
     cases h5:decide (((t[i].length:Nat):Int)=5)
     ·simp
     ·cases t[i].all fun x=>inR x 0 1000
      ·simp[elimS]
      ·simp only[if_true,elimS,Sum.elim_inr,Bool.true_and,Bool.not_true,cond_false,cond_true,inc hi ht,ih])
   (by
     apply spec_TableOk_l0_of
     simp[spec_TableOk_l0])
  simp only[Int.natCast_zero,List.drop_zero]at e
  simp only[spec_TableOk_raw,e,Option.bind_some,l1In_ok,tableOk]
  cases inR ((t.length:Nat):Int) 1 5
  ·simp
  ·cases t.all rowOk<;>simp[elimS]
 ·simp only[spec_TableOk_raw,l1In_ok,Option.bind_some,tableOk,df h2]
  cases inR n 1 5<;>simp
def maxF:Int→List Int→Int
 |m,[]=>m
 |m,x::l=>maxF (mxI m x) l
theorem maxF_le (b:Int):(m:Int)→(l:List Int)→(decide (b<maxF m l)= !(decide (m≤b)&&l.all fun x=>decide (x≤b)))
 |m,[]=>by
  by_cases h:m≤b
  ·rw[maxF,dt h,df (show¬b<m by omega)];simp
  ·rw[maxF,df h,dt (show b<m by omega)];simp
 |m,x::l=>by
  rw[maxF,maxF_le b (mxI m x) l,List.all_cons]
  have:decide (mxI m x≤b)=(decide (m≤b)&&decide (x≤b)):=by
   unfold mxI
   split
   ·by_cases h:x≤b
    ·simp[h];omega
    ·simp[h]
   ·by_cases h:m≤b
    ·simp[h];omega
    ·simp[h]
  rw[this,Bool.and_assoc]
theorem Max_ok (a:Int) (l:List Int) (h:(a::l).length≤maxLen):slices_Maxint_int w (a::l)=some (maxF a l):=by
 apply slices_Maxint_int_of
 have main:∀n i (m:Int),1≤i→i+n=(a::l).length→slices_Maxint_int_k0 wl (a::l,m,(i:Int))=some (maxF m ((a::l).drop i)):=by
  intro n
  induction n with
  |zero=>
   intro i m h1 hi
   apply slices_Maxint_int_l0_of
   have:i=(a::l).length:=by omega
   rw[this]
   simp only[slices_Maxint_int_l0,ilt_self,cond_false,List.drop_length,maxF]
  |succ n ih=>
   intro i m h1 hi
   have hi':i<(a::l).length:=by omega
   apply slices_Maxint_int_l0_of
   simp only[slices_Maxint_int_l0,ilt hi',inb_of hi',rd1_get hi',inc hi' h,cond_true,ih (i+1) _ (by omega) (by omega)]
   rw[List.drop_eq_getElem_cons hi',maxF]
 have e:=main l.length 1 a (by omega) (by simp;omega)
 simp only[List.drop_succ_cons,List.drop_zero]at e
 have h0:0<(a::l).length:=by simp
 have e0:inb 0 (a::l).length=true:=inb_of h0
 have e1:rd1 (0:Int) (a::l) 0=a:=rfl
 have e:slices_Maxint_int_k0 wl (a::l,a,1)=some (maxF a l):=e
 simp only[slices_Maxint_int_raw,df (show¬(((a::l).length:Nat):Int)<1 by simp;omega),cond_false,e0,cond_true,e1,e,Option.bind_some]
end Go.Proofs.YtjenicbpdklpbaaGreat.M
