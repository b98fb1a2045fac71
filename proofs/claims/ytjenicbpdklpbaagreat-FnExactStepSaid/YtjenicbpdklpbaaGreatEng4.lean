/- A meaning of the translated functions in plain typed values, and its soundness, part 4. No conditions. -/
import Derived.Test.YtjenicbpdklpbaaGreatEng3
import Derived.DataReads
import Derived.ChangeArms
import Derived.ChangeOld
import Derived.DataElems
import Derived.Below
import Derived.IntWalk
import GoSem.ClaimData
set_option linter.all false
namespace Go.Eng
open Go
def ap {E:Env}{f:Nat}{A B:Type}(hA:Ql (E.sig f).ins=A) (hB:Ql (E.sig f).outs=B) (D:XD E) (a:A):Option B:=cast (congrArg Option hB) (D f (cast hA.symm a))
def apL {E:Env}{f b:Nat}{A B:Type}(hA:Ql (E.lsig f b).sk.tys=A) (hB:qC (KY (E.lsig f b).exits)=B) (L:qM E) (a:A):Option B:=cast (congrArg Option hB) (L f b (cast hA.symm a))
theorem QFc {E:Env}{f:Nat}{A B:Type}(hA:Ql (E.sig f).ins=A) (hB:Ql (E.sig f).outs=B) {a:A}{r:Option B}{o:B}(e:ap hA hB (Qeb E (W E) (WL E)) a=r) (h:r=some o):ap hA hB (W E) a=some o:=by
 subst hA hB
 exact QId (e.trans h)
theorem QEv {E:Env}{f b:Nat}{A B:Type}(hA:Ql (E.lsig f b).sk.tys=A) (hB:qC (KY (E.lsig f b).exits)=B) {a:A}{r:Option B}{o:B}(e:apL hA hB (QeK E (W E) (WL E)) a=r) (h:r=some o):apL hA hB (WL E) a=some o:=by
 subst hA hB
 exact QGK (e.trans h)
theorem QIn {P:Program}{E:Env}(hT:XZ P E) (hE:EnvCode P E) (hLo:EnvLoops E) (hmix:P.follows .mixedOrders=true) {f:Nat}(hf:E.fok f=true) {A B:Type}(hA:Ql (E.sig f).ins=A) (hB:Ql (E.sig f).outs=B) {a:A}{o:B}(h:ap hA hB (W E) a=some o):
 Qie P (E.sig f) (E.real f) (unpack _ (cast hA.symm a)) (unpack _ (cast hB.symm o)):=by
 subst hA hB
 exact QeJ.spec hT hE hLo hmix hf (QvQ h)
end Go.Eng
namespace Go.Eng
open Go
set_option linter.unusedVariables false
mutual
def Fit:(t:Ty)->Val t->Prop
 | .int k,n=>(Lit.int k n).wf=true
 | .bool,_=>True
 | .str,s=>ByteArray.size s<=maxLen
 | .sl ts,xs=>(vl xs).length<=maxLen/\∀x∈vl xs,xP ts x
def xP:(ts:Tys)->Ql ts->Prop
 | .nil,_=>True
 | .cons t ts,x=>Fit t (vhd x)/\xP ts (vtl x)
end
def Rd (w:World) (ts:Tys) (cs:List Value):Prop:=∃(x:Ql ts) (bl:List Nat),XK w ts x cs bl/\xP ts x/\∀b∈bl,b<w.heap.size
theorem Rd.nil {w:World}:Rd w .nil []:=⟨(),[],⟨rfl,rfl⟩,trivial,by simp⟩
theorem Qnr {t:Ty}{ts:Tys}(a:Val t) (b:Ql ts):vhd (vmk a b)=a:=by cases ts<;>rfl
theorem QmM {t:Ty}{ts:Tys}(a:Val t) (b:Ql ts):vtl (vmk a b)=b:=by cases ts<;>rfl
theorem Rd.cons {w:World}{t:Ty}{ts:Tys}{u:Value}{us:List Value}{a:Val t}{b1:List Nat}(h:Rep w t a u b1) (hf:Fit t a) (hb:∀b∈b1,b<w.heap.size) (h2:Rd w ts us):Rd w (.cons t ts) (u::us):=by
 obtain⟨x,bl,h3,h4,h5⟩:=h2
 refine⟨vmk a x,b1++bl,⟨u,us,b1,bl,rfl,rfl, ?_, ?_⟩,⟨?_, ?_⟩,fun b hb'=> ?_⟩
 ·rw[Qnr];exact h
 ·rw[QmM];exact h3
 ·rw[Qnr];exact hf
 ·rw[QmM];exact h4
 ·rcases QRh.1 hb' with h|h
  ·exact hb b h
  ·exact h5 b h
theorem Rd.uncons {w:World}{t:Ty}{ts:Tys}{cs:List Value}(h:Rd w (.cons t ts) cs):∃u us a b1,cs=u::us/\Rep w t a u b1/\Fit t a/\(∀b∈b1,b<w.heap.size)/\Rd w ts us:=by
 obtain⟨x,bl,⟨u,us,b1,b2,e1,e2,h1,h2⟩,⟨h3,h4⟩,h5⟩:=h
 exact⟨u,us,vhd x,b1,e1,h1,h3,fun b hb=>h5 b (by rw[e2];exact List.mem_append_left _ hb),vtl x,b2,h2,h4,fun b hb=>h5 b (by rw[e2];exact List.mem_append_right _ hb)⟩
theorem Rd.app {w:World}: {ts us:Tys}-> {cs ds:List Value}->Rd w ts cs->Rd w us ds->Rd w (ts.app us) (cs++ds)
 | .nil,us,cs,ds,⟨_,_,⟨h,_⟩,_,_⟩,h'=>by subst h;exact h'
 | .cons t ts,us,cs,ds,h,h'=>by
   obtain⟨u,us',a,b1,rfl,h1,h2,h3,h4⟩:=h.uncons
   exact Rd.cons h1 h2 h3 (Rd.app h4 h')
theorem Rd.len {w:World}: {ts:Tys}-> {cs:List Value}->Rd w ts cs->cs.length=ts.len
 | .nil,cs,⟨_,_,⟨h,_⟩,_,_⟩=>by subst h;rfl
 | .cons t ts,cs,h=>by
   obtain⟨u,us',a,b1,rfl,h1,h2,h3,h4⟩:=h.uncons
   simp[Tys.len,Rd.len h4]
def Tys.strip:Tys->Tys->Option Tys
 | .nil,ts=>some ts
 | .cons t ts, .cons u us=>match Ty.eq? t u with|some _=>Tys.strip ts us|none=>none
 | .cons _ _, .nil=>none
theorem Tys.Quq:(a b c:Tys)->Tys.strip a b=some c->b=a.app c
 | .nil,b,c,h=>by simp only[Tys.strip,Option.some.injEq]at h;exact h
 | .cons t ts, .nil,c,h=>by cases h
 | .cons t ts, .cons u us,c,h=>by
   simp only[Tys.strip]at h
   split at h
   ·rename_i p _
    obtain⟨p⟩:=p
    subst p
    simp only[Tys.app]
    rw[Tys.Quq ts us c h]
   ·cases h
def Qh9 (a b:Tys):Bool:=match Tys.eq? a b with|some _=>true|none=>false
theorem vg {a b:Tys}(h:Qh9 a b=true):a=b:=by
 unfold Qh9 at h
 split at h
 ·rename_i p _;exact p.down
 ·cases h
def Qqr (P:Program) (ty:Nat->TI):Nat->List Field->Tys->Bool
 |_,[],ts=>(match ts with| .nil=>true|_=>false)
 |off,f::fs,ts=>(ty f.type).ok&&Nat.beq f.offset off&&Nat.beq (P.cellsOf f.type) (ty f.type).ts.len&&(match(ty f.type).ts.strip ts with|some rest=>Qqr P ty (off+(ty f.type).ts.len) fs rest|none=>false)
def rdB (P:Program) (ty:Nat->TI) (T:Nat) (i:TI):Bool:= !i.ok||(match P.underlying T with
 |some (.int k)=> !i.agg&&Qh9 i.ts (.cons (.int k) .nil)
 |some .bool=> !i.agg&&Qh9 i.ts (.cons .bool .nil)
 |some .string=> !i.agg&&Qh9 i.ts (.cons .str .nil)
 |some (.slice e)=> !i.agg&&(ty e).ok&&Nat.blt 0 (ty e).ts.len&&Nat.beq (P.cellsOf e) (ty e).ts.len&&Qh9 i.ts (.cons (.sl (ty e).ts) .nil)
 |some (.struct fs)=>i.agg&&Nat.beq (P.cellsOf T) i.ts.len&&Qqr P ty 0 fs.toList i.ts
 |_=>false)
theorem QB1 {w:World}{ts:Tys}{a:Addr}:(n:Nat)->(∀i,i<n->∃us,Cells w a (i*ts.len) us/\Rd w ts us)->∃(xs:List (Ql ts)) (bls:List (List Nat)),xs.length=n/\bls.length=n/\(∀x∈xs,xP ts x)/\(∀b∈bls.flatten,b<w.heap.size)/\
 ∀(i:Nat) (x:Ql ts) (b:List Nat),xs[i]? =some x->bls[i]? =some b->∃us,Cells w a (i*ts.len) us/\XK w ts x us b
 |0,_=>⟨[],[],rfl,rfl,by simp,by simp,by simp⟩
 |n+1,h=>by
  obtain⟨xs,bls,h1,h2,h3,h4,h5⟩:=QB1 n fun i hi=>h i (by omega)
  obtain⟨us,c1,x,bl,c2,c3,c4⟩:=h n (by omega)
  refine⟨xs++[x],bls++[bl],by simp[h1],by simp[h2],fun y hy=> ?_,fun b hb=> ?_,fun i y b hy hb=> ?_⟩
  ·rcases QRh.1 hy with h|h
   ·exact h3 y h
   ·rw[List.mem_singleton.1 h];exact c3
  ·rw[List.flatten_append]at hb
   rcases QRh.1 hb with h|h
   ·exact h4 b h
   ·exact c4 b (by simpa using h)
  ·by_cases hi:i<n
   ·rw[List.getElem?_append_left (by omega)]at hy hb
    exact h5 i y b hy hb
   ·have hin:i=n:=by
     have:=(QRq.1 hy).1
     simp[h1]at this;omega
    subst hin
    rw[List.getElem?_append_right (by omega),h1,Nat.sub_self]at hy
    rw[List.getElem?_append_right (by omega),h2,Nat.sub_self]at hb
    simp at hy hb;subst hy hb
    exact⟨us,c1,c2⟩
section
variable {H:Type}{enc:TypeId×Value->H}{P:Program}{w:World}{sp:Nat->Bool}{held:Bool}{ty:Nat->TI}
theorem Qri {n:Nat}(ih:∀T cs y,(ty T).ok=true->DataW.trod enc P w 0 sp held n T cs=some y->Rd w (ty T).ts cs) (cs:List Value):(fs:List Field)->(off:Nat)->(ts:Tys)->Qqr P ty off fs ts=true->
 (∀f∈fs,∃y,DataW.trod enc P w 0 sp held n f.type ((cs.drop f.offset).take (P.cellsOf f.type))=some y)->cs.length=off+ts.len->Rd w ts (cs.drop off)
 | [],off,ts,h,_,hl=>by
   cases ts with
   |nil=>
    simp only[Tys.len]at hl
    rw[List.drop_of_length_le (by omega)];exact Rd.nil
   |cons _ _=>cases h
 |f::fs,off,ts,h,hf,hl=>by
  simp only[Qqr,QQ5,Nat.beq_eq]at h
  obtain⟨⟨⟨h1,h2⟩,h3⟩,h4⟩:=h
  split at h4
  ·rename_i rest hs
   have e:=Tys.Quq _ _ _ hs
   obtain⟨y,hy⟩:=hf f (by simp)
   have r:=ih _ _ _ h1 hy
   have hlen:=r.len
   rw[h2,h3]at r hlen
   have e2:ts.len=(ty f.type).ts.len+rest.len:=by
    rw[e]
    generalize (ty f.type).ts=a
    have:∀a:Tys,(a.app rest).len=a.len+rest.len:=by
     intro a
     induction a using Tys.rec (motive_1:=fun _=>True)with
     |nil=>simp[Tys.app,Tys.len]
     |cons t ts _ iht=>simp only[Tys.app,Tys.len,iht];omega
     |_=>trivial
    exact this a
   have r2:=Qri ih cs fs (off+(ty f.type).ts.len) rest h4 (fun g hg=>hf g (by simp[hg])) (by omega)
   have:=r.app r2
   rw[<-e]at this
   have e3:(cs.drop off).take (ty f.type).ts.len++cs.drop (off+(ty f.type).ts.len)=cs.drop off:=by
    rw[<-List.drop_drop];exact List.take_append_drop _ _
   rw[e3]at this
   exact this
  ·cases h4
theorem read (hB:∀T,rdB P ty T (ty T)=true):(fuel:Nat)->(T:Nat)->(cs:List Value)->(y:DataW H×List MemPlace)->(ty T).ok=true->DataW.trod enc P w 0 sp held fuel T cs=some y->Rd w (ty T).ts cs
 |0,T,cs,y,_,h=>by simp[DataW.trod]at h
 |fuel+1,T,cs,y,hok,h=>by
  have hb:=hB T
  simp only[rdB,hok,QQ3,Bool.false_or]at hb
  split at hb
  ·rename_i k hu
   simp only[QQ5]at hb
   rw[vg hb.2]
   obtain⟨n,rfl,_,hw⟩:=DataW.trod_int hu h
   exact Rd.cons (a:=(show Val (.int k)from n)) (b1:=[]) ⟨rfl,rfl⟩ hw (by simp) Rd.nil
  ·rename_i hu
   simp only[QQ5]at hb
   rw[vg hb.2]
   obtain⟨b,rfl,_⟩:=DataW.trod_bool hu h
   exact Rd.cons (a:=(show Val .bool from b)) (b1:=[]) ⟨rfl,rfl⟩ trivial (by simp) Rd.nil
  ·rename_i hu
   simp only[QQ5]at hb
   rw[vg hb.2]
   obtain⟨s,rfl,_,hs⟩:=DataW.trod_string hu h
   exact Rd.cons (a:=(show Val .str from s)) (b1:=[]) ⟨rfl,rfl⟩ hs (by simp) Rd.nil
  ·rename_i e hu
   simp only[QQ5,Nat.beq_eq,Nat.blt_eq]at hb
   obtain⟨⟨⟨⟨_,h1⟩,h2⟩,h3⟩,h4⟩:=hb
   rw[vg h4]
   rcases DataW.trod_slice hu h with⟨rfl,_⟩|⟨a,len,cap,elems,rest,n,hn,rfl,_,_,hl,hm,hlen,hel,_,_⟩
   ·exact Rd.cons (a:=(show Val (.sl (ty e).ts)from([]:List (Ql (ty e).ts)))) (b1:=[]) ⟨none,0,rfl,⟨Nat.le_refl _,fun _=>rfl⟩, .inl ⟨rfl,rfl⟩⟩ ⟨by simp[vl],by simp[vl]⟩ (by simp) Rd.nil
   ·obtain rfl:fuel=n:=by omega
    have each:∀i,i<len->∃us,Cells w a (i*(ty e).ts.len) us/\Rd w (ty e).ts us/\a.block<w.heap.size:=by
     intro i hi
     have h5:=hel i hi
     rw[QRp (by omega)]at h5
     obtain⟨us,h6,h7⟩:=Option.bind_eq_some_iff.1 h5
     refine⟨us,fun j u hj=> ?_,read hB fuel e us _ h1 h7, ?_⟩
     ·obtain⟨_,g1,g2⟩:=World.cells?_some h6
      have hj':j<us.length:=(QRq.1 hj).1
      have:=g2 j (by omega)
      rw[Addr.add_add,h3,hj]at this
      exact this
     ·have:=World.cells?_block h6 (by omega)
      rwa[QpS]at this
    obtain⟨xs,bls,x1,x2,x3,x4,x5⟩:=QB1 (w:=w) (ts:=(ty e).ts) (a:=a) len fun i hi=>by
     obtain⟨us,c1,c2,_⟩:=each i hi
     exact⟨us,c1,c2⟩
    by_cases h0:len=0
    ·subst h0
     have x1:xs=[]:=QRx x1
     exact Rd.cons (a:=(show Val (.sl (ty e).ts)from([]:List (Ql (ty e).ts)))) (b1:=[]) ⟨some a,cap,rfl,⟨Nat.zero_le _,fun h=>by cases h⟩, .inl ⟨rfl,rfl⟩⟩ ⟨by simp[vl],by simp[vl]⟩ (by simp) Rd.nil
    ·refine Rd.cons (a:=(show Val (.sl (ty e).ts)from xs)) (b1:=a.block::bls.flatten) ⟨some a,cap,by rw[show(vl (show Val (.sl (ty e).ts)from xs)).length=len from x1],⟨by rw[show(vl (show Val (.sl (ty e).ts)from xs)).length=len from x1];exact hl,fun h=>by cases h⟩, .inr ⟨a,bls,rfl,rfl,by rw[x2];exact x1.symm,x5⟩⟩ ⟨by rw[show(vl (show Val (.sl (ty e).ts)from xs)).length=len from x1];omega,x3⟩ (fun b hb=> ?_) Rd.nil
     rcases QRk.1 hb with h|h
     ·obtain⟨_,_,_,h7⟩:=each 0 (by omega)
      rw[h];exact h7
     ·exact x4 b h
  ·rename_i fs hu
   simp only[QQ5,Nat.beq_eq]at hb
   obtain⟨⟨_,h2⟩,h3⟩:=hb
   obtain⟨xs,n,hn,_,hl,hx,hf⟩:=DataW.trod_struct hu h
   obtain rfl:fuel=n:=by omega
   have:=Qri (read hB fuel) cs fs.toList 0 (ty T).ts h3 (fun f hfm=>by
    obtain⟨i,hi,he⟩:=List.mem_iff_getElem.1 hfm
    have h5:=hf i f (by rw[Array.getElem?_eq_getElem (by simpa using hi)];simpa using he)
    exact⟨xs[i]'(by rw[hx];simpa using hi),by rw[h5,QRp]⟩) (by omega)
   rwa[QRg]at this
  ·cases hb
end
end Go.Eng
namespace Go.Eng
open Go Go.RowKit
set_option linter.unusedVariables false
def QDw (ty:Nat->TI):List TypeId->List PSig->Bool
 | [],[]=>true
 |T::Ts, .val a cs::ps=>(ty T).ok&&(a==(ty T).agg)&&cs.all (fun c=>c.1.QQ)&&Qh9 (jk cs) (ty T).ts&&QDw ty Ts ps
 |_,_=>false
section
variable {H:Type}{enc:TypeId×Value->H}{P:Program}{w:World}{sp:Nat->Bool}{held:Bool}{ty:Nat->TI}
theorem QB8 {R:Nat->Prop}(hR:∀b,b<w.heap.size->R b):(cs:List (Mode×Ty))->(us:List Value)->cs.all (fun c=>c.1.QQ)=true->Rd w (jk cs) us->∃x:Ql (jk cs),xP (jk cs) x/\∃bls,bls.flatten=[]/\Qby w R cs (unpack _ x) us bls
 | [],us,_,⟨x,bl,⟨h,_⟩,_,_⟩=>⟨(),trivial,[],rfl,rfl,h,rfl⟩
 |(.ro,t)::l,us,h,hr=>by
  simp only[List.all_cons,QQ5]at h
  obtain⟨u,us',a,b1,rfl,h1,h2,h3,h4⟩:=Rd.uncons (ts:=jk l) hr
  obtain⟨x,f1,bls,e1,c1⟩:=QB8 hR l us' h.2 h4
  refine⟨(vmk a x:Ql (.cons t (jk l))),⟨by rw[Qnr];exact h2,by rw[QmM];exact f1⟩,[]::bls,by simp[e1],⟨t,a⟩,unpack _ x,u,us',[],bls, ?_,rfl,rfl,⟨rfl, ?_⟩,c1⟩
  ·show(⟨t,vhd (vmk a x)⟩:TV)::unpack (jk l) (vtl (vmk a x))=_
   rw[Qnr,QmM]
  ·have:takes .ro t=false:=by simp[takes,Mode.QQ]
   rw[this]
   exact⟨rfl,b1,h1,fun c hc=>hR c (h3 c hc)⟩
 |(.mut,t)::l,us,h,hr=>by simp[Mode.QQ]at h
 |(.own,t)::l,us,h,hr=>by simp[Mode.QQ]at h
 |(.junk,t)::l,us,h,hr=>by simp[Mode.QQ]at h
theorem Qtm:(a b:Tys)->(x:Ql a)->(y:Ql b)->∃z:Ql (a.app b),unpack _ z=unpack _ x++unpack _ y/\(xP a x->xP b y->xP (a.app b) z)
 | .nil,b,x,y=>⟨y,rfl,fun _ h=>h⟩
 | .cons t ts,b,x,y=>by
   obtain⟨z,h1,h2⟩:=Qtm ts b (vtl x) y
   refine⟨(vmk (vhd x) z:Ql (.cons t (ts.app b))), ?_,fun hx hy=>⟨?_, ?_⟩⟩
   ·show(⟨t,vhd (vmk (vhd x) z)⟩:TV)::unpack (ts.app b) (vtl (vmk (vhd x) z))=_
    rw[Qnr,QmM,h1];rfl
   ·rw[Qnr];exact hx.1
   ·rw[QmM];exact h2 hx.2 hy
theorem QAM {base:Nat}{T:TypeId}{v:Value}(hok:(ty T).ok=true) (hB:rdB P ty T (ty T)=true) (h:Value.okWide P w .any base T v):(if(ty T).agg then v= .agg v.cells.toList.toArray else v.cells.toList=[v]):=by
 simp only[rdB,hok,QQ3,Bool.false_or]at hB
 unfold Value.okWide at h
 split at hB
 ·rename_i k hu
  simp only[QQ5,Bool.not_eq_true']at hB
  rw[hu]at h
  simp only[Cell.okWide,Cell.ok,hu]at h
  rw[hB.1]
  cases v<;>simp_all[Value.cells]
 ·rename_i hu
  simp only[QQ5,Bool.not_eq_true']at hB
  rw[hu]at h
  simp only[Cell.okWide,Cell.ok,hu]at h
  rw[hB.1]
  cases v<;>simp_all[Value.cells]
 ·rename_i hu
  simp only[QQ5,Bool.not_eq_true']at hB
  rw[hu]at h
  simp only[Cell.okWide,Cell.ok,hu]at h
  rw[hB.1]
  cases v<;>simp_all[Value.cells]
 ·rename_i e hu
  simp only[QQ5,Bool.not_eq_true']at hB
  rw[hu]at h
  simp only[Cell.okWide,Cell.ok,hu]at h
  rw[hB.1.1.1.1]
  cases v<;>simp_all[Value.cells]
 ·rename_i fs hu
  simp only[QQ5]at hB
  rw[hu]at h
  obtain⟨cs,rfl,_⟩:=h
  rw[hB.1.1]
  simp[Value.cells]
 ·cases hB
theorem Qzy {base:Nat}{R:Nat->Prop}(hR:∀b,b<w.heap.size->R b) (hB:∀T,rdB P ty T (ty T)=true):(Ts:List TypeId)->(ps:List PSig)->(vs:List Value)->(ds:List (DataW H))->(p:List MemPlace)->QDw ty Ts ps=true->DataW.TrodAll enc P w 0 sp held Ts vs ds p->
 (∀(j:Nat) t v,Ts[j]? =some t->vs[j]? =some v->Value.okWide P w .any base t v)->∃a:Ql (QnE ps),xP _ a/\∃bls,bls.flatten=[]/\QcA w R ps (unpack _ a) vs [] bls
 | [],[],[],[],p,_,_,_=>⟨(),trivial,[],rfl,rfl,rfl,rfl,rfl⟩
 | [],[],_::_,_,p,_,h,_=>by cases h
 | [],[],[],_::_,p,_,h,_=>by cases h
 | [],_::_,_,_,p,h,_,_=>by cases h
 |_::_,[],_,_,p,h,_,_=>by cases h
 |_::_, .ptr _::_,_,_,p,h,_,_=>by cases h
 |_::_, .fn _ _::_,_,_,p,h,_,_=>by cases h
 |_::_, .val _ _::_,[],_,p,_,h,_=>by cases h
 |_::_, .val _ _::_,_::_,[],p,_,h,_=>by cases h
 |T::Ts, .val a cs::ps,v::vs,d::ds,p,h,ht,hval=>by
  simp only[QDw,QQ5,beq_iff_eq]at h
  obtain⟨⟨⟨⟨h1,h2⟩,h3⟩,h4⟩,h5⟩:=h
  obtain⟨p1,q1,⟨fuel,k1⟩,k2,_⟩:=ht
  have r:=read hB fuel T _ _ h1 k1
  rw[<-vg h4]at r
  obtain⟨x,f1,b1,e1,c1⟩:=QB8 hR cs _ h3 r
  obtain⟨y,f2,b2,e2,c2⟩:=Qzy hR hB Ts ps vs ds q1 h5 k2 (fun j t v hj hv=>hval (j+1) t v (by simpa using hj) (by simpa using hv))
  obtain⟨z,g1,g2⟩:=Qtm (jk cs) (QnE ps) x y
  refine⟨z,g2 f1 f2,b1++b2,by simp[e1,e2],unpack _ x,unpack _ y,v,vs,[],[],b1,b2,g1,rfl,rfl,rfl,⟨rfl,v.cells.toList, ?_,c1⟩,c2⟩
  have:=QAM h1 (hB T) (hval 0 T v rfl rfl)
  rw[<-h2]at this
  exact this
end
theorem QFY {w w':World}(h:Grow (·∈([]:List Nat)) w w'):Below w.heap.size w w':=⟨h.os,h.tape,h.output,h.size,fun k hk=>h.block k hk (by simp)⟩
def Mode.QzL:Mode->Bool
 | .junk=>true
 |_=>false
theorem QL0 {H:Type}{enc:TypeId×Value->H}{P:Program}{E:Env}(hT:XZ P E) (hE:EnvCode P E) (hLo:EnvLoops E) (hmix:P.follows .mixedOrders=true) (hB:∀T,rdB P E.ty T (E.ty T)=true) {f:Nat}(hf:E.fok f=true)
 {tys:Tys}(ht:(E.sig f).ins=tys) {m:Mode}(hrs:(E.sig f).rs=[.val false [(m, .bool)]]) (hm:m.QzL=false) (hto:(E.sig f).outs= .cons .bool .nil) (pure:∀a:Ql tys,xP tys a->ap (congrArg Ql ht) (congrArg Ql hto) (W E) a=some (show Ql (.cons .bool .nil)from true))
 {w:World}{sp:Nat->Bool}{held:Bool}{Ts:List TypeId}(hlaw:QDw E.ty Ts (E.sig f).ps=true) {vs:List Value}{ds:List (DataW H)}{p:List MemPlace}(htr:DataW.TrodAll enc P w 0 sp held Ts vs ds p) {base:Nat}(hval:∀(j:Nat) t v,Ts[j]? =some t->vs[j]? =some v->Value.okWide P w .any base t v):
 Calls P (E.real f) vs.toArray w fun e w'=>e= .returned (.bool true)/\Below w.heap.size w w':=by
 subst ht
 obtain⟨a,ha,bls,hbls,hin⟩:=Qzy (R:=fun b=>b<w.heap.size) (fun b h=>h) hB Ts _ vs ds p hlaw htr hval
 have hs:=QIn hT hE hLo hmix hf _ _ (pure a ha)
 refine(hs w (fun b=>b<w.heap.size) vs [] bls hin (by simp[hbls]) (by simp[hbls]) (fun b hb=>⟨hb,by simp[hbls]⟩)).mono ?_
 rintro e w' ⟨v,rfl,hgrow,rx,px,rvs,rbs,rbls,pbls,Q,h1,h2,h3,_⟩
 rw[hbls]at hgrow
 refine⟨?_,QFY hgrow⟩
 have hu:unpack (E.sig f).outs (cast (congrArg Ql hto).symm (show Ql (.cons .bool .nil)from true))=[⟨.bool,true⟩]:=by
  have:∀(ts:Tys) (h:ts= .cons .bool .nil),unpack ts (cast (congrArg Ql h).symm (show Ql (.cons .bool .nil)from true))=[⟨.bool,true⟩]:=by
   intro ts h;subst h;rfl
  exact this _ hto
 rw[hu]at h1
 rw[hrs]at h3
 obtain⟨x1,x2,v1,vs',b1,b2,l1,l2,e1,e2,_,_,⟨_,us,hus,hc⟩,hrest⟩:=h3
 obtain⟨e3,e4,_,_⟩:=hrest
 have hus:us=[v1]:=hus
 subst hus e4 e2 e3 h2
 have hfin:∀(x:TV) (xs':List TV) (u:Value) (us':List Value) (bl:List Nat),x1=x::xs'->[v]=u::us'->xr w' Q m .bool x u bl->v= .bool true:=by
  intro x xs' u us' bl hx hu' ⟨ht,hc⟩
  have:takes m .bool=false:=rfl
  rw[this]at hc
  obtain⟨_,b',hr,_⟩:=hc
  cases hu'
  rw[e1,hx]at h1
  simp only[QRv,List.append_nil]at h1
  obtain⟨rfl,_⟩:=List.cons.inj h1
  exact hr.1
 have:v= .bool true:=by
  cases m
  case junk=>cases hm
  all_goals
   obtain⟨x,xs',u,us',bl,bls',q1,q2,_,q3,_⟩:=hc
   exact hfin x xs' u us' bl q1 q2 q3
 rw[this]
end Go.Eng
namespace Go.Eng
open Go Go.RowKit
set_option linter.unusedVariables false
def ti0:TI:=⟨false,false, .nil,0,0,[],false⟩
theorem QJ4 {P:Program}{ty:BT TI}(h:ty.all (rdB P (ty.get ti0))=true) (T:Nat):rdB P (ty.get ti0) T (ty.get ti0 T)=true:=by
 rcases BT.Qh0 (d:=ti0) ty h T with h|h
 ·exact h
 ·rw[h];rfl
theorem QMQ {P:Program}{ty:BT TI}(h:ty.all (fun _ i=> !i.eqOk)=true) (T:Nat):QGc P T (ty.get ti0 T):=by
 intro he
 rcases BT.Qh0 (d:=ti0) ty h T with h|h
 ·rw[he]at h;cases h
 ·rw[h]at he;cases he
theorem BT.Qwf {α:Type}{f:Nat->α->Bool}{p:Nat->α->Prop}(hp:∀k v,f k v=true->p k v):(t:BT α)->t.all f=true->t.QpH p
 | .leaf,_=>trivial
 | .node k v l r,h=>by
   simp only[BT.all,QQ5]at h
   exact⟨hp k v h.1.1,BT.Qwf hp l h.1.2,BT.Qwf hp r h.2⟩
theorem QFR {t:BT Func}(h:t.all (fun _ fn=> !(fn.name== "runtime.NumGoroutine"))=true):t.QpH fun _ fn=>(fn.name== "runtime.NumGoroutine")=false:=
 BT.Qwf (fun _ _ h=>by simpa using h) t h
theorem QEB {w:World}{Q:Nat->Prop}{m:Mode}(hm:m.QzL=false) (n:Int):Xm w Q [(m, .int .i64)] [⟨.int .i64,n⟩] [.int .i64 n] [[]]:=by
 cases m
 case junk=>cases hm
 all_goals exact⟨_,_,_,_,_,_,rfl,rfl,rfl,⟨rfl,rfl,[],⟨rfl,rfl⟩,by simp⟩,rfl,rfl,rfl⟩
def Mode.QCQ:Mode->Bool
 | .mut=>true
 |_=>false
theorem QtP {w:World}{m:Mode}{t:Ty}(hm:m.QCQ=false) (u:Value):Qio w [(m,t)] [u] [] []:=by
 cases m
 all_goals first|(cases hm;done)|exact⟨u,[],rfl,rfl,rfl,rfl⟩
theorem QEm {P:Program}{f:FuncId}{sg:Sig}{m1 m2 m3:Mode}(hps:sg.ps=[.val false [(m1, .str)], .val false [(m2, .str)]]) (hrs:sg.rs=[.val false [(m3, .int .i64)]]) (h3:m3.QzL=false) (h4:m1.QCQ=false) (h5:m2.QCQ=false)
 (F:ByteArray->ByteArray->Int) (hF:∀a b w,Calls P f #[.string a, .string b] w fun e w'=>e= .returned (.int .i64 (F a b))/\w'=w) (a b:ByteArray):
 Qie P sg f [⟨.str,a⟩,⟨.str,b⟩] [⟨.int .i64,F a b⟩]:=by
 intro w R vs bs bls hin hnd hlt hR
 rw[hps]at hin
 obtain⟨x1,x2,v,vs',b1,b2,l1,l2,e1,rfl,rfl,rfl,⟨rfl,us,hus,hc⟩,x3,x4,v',vs'',b3,b4,l3,l4,rfl,rfl,rfl,rfl,⟨rfl,us',hus',hc'⟩,rfl,rfl,rfl,rfl⟩:=hin
 obtain⟨x,xs,u,uss,bl,bls,rfl,rfl,rfl,⟨ht,hx⟩,rfl,rfl,rfl⟩:=hc
 obtain⟨y,ys,u',uss',bl',bls',rfl,rfl,rfl,⟨ht',hx'⟩,rfl,rfl,rfl⟩:=hc'
 have e1:([⟨.str,a⟩,⟨.str,b⟩]:List TV)=[x,y]:=e1
 have hx:bl=[]/\∃b',Rep w x.t x.v u b'/\∀c∈b',R c:=hx
 have hx':bl'=[]/\∃b',Rep w y.t y.v u' b'/\∀c∈b',R c:=hx'
 have hus: [u]=[v]:=hus
 have hus': [u']=[v']:=hus'
 cases hus;cases hus';cases e1
 obtain⟨rfl,_,⟨rfl,_⟩,_⟩:=hx
 obtain⟨rfl,_,⟨rfl,_⟩,_⟩:=hx'
 refine(hF a b w).mono ?_
 rintro e w' ⟨rfl,rfl⟩
 refine⟨_,rfl,Grow.refl _ _,[⟨.int .i64,F a b⟩],[],[.int .i64 (F a b)],[],[[]],[],fun _=>False,rfl,rfl, ?_, ?_,by simp,by simp,by simp⟩
 ·rw[hrs]
  exact⟨[⟨.int .i64,F a b⟩],[],_,[],[],[],[[]],[],rfl,rfl,rfl,rfl,⟨rfl,[.int .i64 (F a b)],rfl,QEB h3 _⟩,rfl,rfl,rfl,rfl⟩
 ·rw[hps]
  exact⟨_,_,[],[],[],[],rfl,rfl,rfl,⟨_,rfl,QtP h4 _⟩,_,_,[],[],[],[],rfl,rfl,rfl,⟨_,rfl,QtP h5 _⟩,rfl,rfl,rfl⟩
end Go.Eng
namespace Go.Eng
open Go
theorem w64 {n:Int}(h1: -9223372036854775808<=n) (h2:n<=9223372036854775807):wR n=n:=IntWalk.i64_in n ⟨h1,h2⟩
theorem QIl (i n:Nat):inb (i:Int) n=decide (i<n):=by
 unfold inb
 by_cases h:i<n
 ·simp[h]
 ·simp[h]
theorem Qk {i n:Nat}(h:i<n):inb (i:Int) n=true:=by rw[QIl];simpa using h
theorem Qg {α:Type}{d:α}{xs:List α}{i:Nat}(h:i<xs.length):rd1 d xs (i:Int)=xs[i]:=by
 unfold rd1
 rw[QRb]
 simp[List.getD,QRp h]
theorem ilt {i n:Nat}(h:i<n):decide ((i:Int)<(n:Int))=true:=by simp[h]
theorem Qm (n:Nat):decide ((n:Int)<(n:Int))=false:=by simp
theorem inc {i n:Nat}(h:i<n) (hn:n<=maxLen):wR ((i:Int)+1)=((i+1:Nat):Int):=by
 rw[w64]<;>simp[maxLen]at hn<;>omega
theorem Qu {n b:Nat}(h:n*b<=140737488351232):fits n b=true:=by simp[fits,h]
theorem VM {α β R:Type}(xs:List α) (f:α->β) (K:Nat->List β->Option R) (fin:List β->R)
 (hstep:∀i (h:i<xs.length) (out:List β) r,out.length=xs.length->K (i+1) (out.set i (f xs[i]))=some r->K i out=some r)
 (hend:∀out:List β,out.length=xs.length->K xs.length out=some (fin out)) (out:List β) (ho:out.length=xs.length):K 0 out=some (fin (xs.map f)):=by
 have main:∀n i (out:List β),i+n=xs.length->out.length=xs.length->out.take i=(xs.map f).take i->K i out=some (fin (xs.map f)):=by
  intro n
  induction n with
  |zero=>
   intro i out hi ho ht
   have:i=xs.length:=by omega
   subst this
   rw[hend out ho]
   rw[List.take_of_length_le (by omega),List.take_of_length_le (by simp)]at ht
   rw[ht]
  |succ n ih=>
   intro i out hi ho ht
   refine hstep i (by omega) out _ ho (ih (i+1) _ (by omega) (by simp[ho]) ?_)
   rw[List.take_add_one,List.take_add_one,List.take_set_of_le (Nat.le_refl i),ht,List.getElem?_set_self (by omega)]
   simp[show i<xs.length by omega]
 exact main xs.length 0 out (by omega) ho (by simp)
theorem QBv (b:ByteArray):∀n i (r:List UInt8),i+n=b.size->ByteArray.toList.loop b i r=r.reverse++b.data.toList.drop i:=by
 intro n
 induction n with
 |zero=>
  intro i r hi
  unfold ByteArray.toList.loop
  have hs:b.data.toList.length=b.size:=Array.length_toList
  rw[if_neg (by omega),List.drop_of_length_le (by omega),List.append_nil]
 |succ n ih=>
  intro i r hi
  unfold ByteArray.toList.loop
  rw[if_pos (by omega),ih (i+1) _ (by omega)]
  have hs0:b.data.toList.length=b.size:=Array.length_toList
  have hs:i<b.data.toList.length:=by omega
  rw[QRa hs]
  have:b.get! i=b.data.toList[i]:=by
   have hsz:i<b.data.size:=by simpa using hs
   show b.data[i]! =_
   rw[getElem!_pos b.data i hsz]
   simp
  rw[this]
  simp
theorem QeC (b:ByteArray):b.toList=b.data.toList:=by
 unfold ByteArray.toList
 rw[QBv b b.size 0 [] (by omega)]
 simp
theorem QB2 (a b:ByteArray):qI a b=decide (a=b):=by
 unfold qI
 rw[QeC,QeC]
 by_cases h:a=b
 ·subst h;simp
 ·have:¬a.data.toList=b.data.toList:=fun e=>h (by
   cases a;cases b
   exact congrArg ByteArray.mk (Array.toList_inj.1 e))
  rw[decide_eq_false h]
  exact beq_eq_false_iff_ne.2 this
theorem QB9 {α:Type} [DecidableEq α] (a b:List α) (hl:a.length=b.length) (K:Nat->Option (Bool⊕Unit))
 (hne:∀i (h1:i<a.length) (h2:i<b.length),a[i]≠b[i]->K i=some (.inl false))
 (heq:∀i (h1:i<a.length) (h2:i<b.length) r,a[i]=b[i]->K (i+1)=some r->K i=some r)
 (hend:K a.length=some (.inr ())):K 0=some (if a=b then .inr ()else .inl false):=by
 have main:∀n i,i+n=a.length->K i=some (if a.drop i=b.drop i then .inr ()else .inl false):=by
  intro n
  induction n with
  |zero=>
   intro i hi
   have:i=a.length:=by omega
   subst this
   rw[hend,QRl,hl,QRl,if_pos rfl]
  |succ n ih=>
   intro i hi
   have h1:i<a.length:=by omega
   have h2:i<b.length:=by omega
   rw[QRa h1,QRa h2]
   by_cases hx:a[i]=b[i]
   ·refine heq i h1 h2 _ hx ?_
    rw[ih (i+1) (by omega),hx]
    simp only[List.cons.injEq,true_and]
   ·rw[hne i h1 h2 hx]
    simp only[List.cons.injEq,hx,false_and,if_false]
 have:=main a.length 0 (by omega)
 simpa only[QRg]using this
def Qw {α:Type}(f:α->Int->α) (c:α->Nat):List α->Int->List α
 | [],_=>[]
 |x::l,k=>f x k::Qw f c l (k+c x)
def Qi {α:Type}(c:α->Nat):List α->Nat
 | []=>0
 |x::l=>c x+Qi c l
theorem X1 {α:Type}(f:α->Int->α) (c:α->Nat):(l:List α)->(k:Int)->(Qw f c l k).length=l.length
 | [],_=>rfl
 |x::l,k=>by simp[Qw,X1 f c l]
theorem Kx {α R:Type}(f:α->Int->α) (c:α->Nat) (xs:List α) (K:Int->Nat->List α->Option R) (fin:Int->List α->R) (B:Int)
 (hstep:∀k i (ys:List α) (h:i<ys.length) r,ys.length=xs.length->ys[i]∈xs->0<k->k+c ys[i]<=B->K (k+c ys[i]) (i+1) (ys.set i (f ys[i] k))=some r->K k i ys=some r)
 (hend:∀k ys,ys.length=xs.length->K k xs.length ys=some (fin k ys)) (k:Int) (hk:0<k) (hB:k+Qi c xs<=B):K k 0 xs=some (fin (k+Qi c xs) (Qw f c xs k)):=by
 have main:∀(rest pre:List α) (k:Int),(pre++rest).length=xs.length->(∀y∈rest,y∈xs)->0<k->k+Qi c rest<=B->K k pre.length (pre++rest)=some (fin (k+Qi c rest) (pre++Qw f c rest k)):=by
  intro rest
  induction rest with
  |nil=>
   intro pre k hl hm hk hB
   have hl':pre.length=xs.length:=by simpa using hl
   rw[hl',hend _ _ hl]
   simp[Qi,Qw]
  |cons x rest ih=>
   intro pre k hl hm hk hB
   have hi:pre.length<(pre++x::rest).length:=by simp
   have hx:(pre++x::rest)[pre.length]=x:=by simp
   simp only[Qi,Int.natCast_add]at hB
   refine hstep k pre.length _ hi _ hl (by rw[hx];exact hm x (by simp)) hk (by rw[hx];omega) ?_
   rw[hx]
   have e:(pre++x::rest).set pre.length (f x k)=(pre++[f x k])++rest:=by simp
   rw[e]
   have:=ih (pre++[f x k]) (k+c x) (by simp at hl⊢; omega) (fun y hy=>hm y (by simp[hy])) (by omega) (by omega)
   rw[show(pre++[f x k]).length=pre.length+1 by simp]at this
   rw[this]
   simp[Qi,Qw,Int.add_assoc]
 exact main xs [] k (by simp) (fun y hy=>hy) hk hB
theorem Ks {α:Type}(f:α->Int->α) (c:α->Nat) (xs:List α) (k0:Int) (K:Int->Nat->Option (Int⊕Int)) (B:Int)
 (hstep:∀k i (h:i<(Qw f c xs k0).length) x r,x∈xs->(Qw f c xs k0)[i]=f x k->0<k->k+c x<=B->K (k+c x) (i+1)=some r->K k i=some r)
 (hend:∀k,K k xs.length=some (.inr k)) (hk:0<k0) (hB:k0+Qi c xs<=B):K k0 0=some (.inr (k0+Qi c xs)):=by
 have main:∀(n i:Nat) (k:Int),i+n=xs.length->(Qw f c xs k0).drop i=Qw f c (xs.drop i) k->0<k->k+Qi c (xs.drop i)<=B->K k i=some (.inr (k+Qi c (xs.drop i))):=by
  intro n
  induction n with
  |zero=>
   intro i k hi hd hk hB
   have:i=xs.length:=by omega
   subst this
   rw[hend,QRl];simp[Qi]
  |succ n ih=>
   intro i k hi hd hk hB
   have h1:i<xs.length:=by omega
   have h2:i<(Qw f c xs k0).length:=by rw[X1];exact h1
   rw[QRa h1]at hd hB⊢
   rw[QRa h2]at hd
   simp only[Qw,List.cons.injEq]at hd
   simp only[Qi,Int.natCast_add]at hB⊢
   refine hstep k i h2 xs[i] _ (QRf h1) hd.1 hk (by omega) ?_
   rw[ih (i+1) (k+c xs[i]) (by omega) hd.2 (by omega) (by omega)]
   congr 2;omega
 have:=main xs.length 0 k0 (by omega) (by simp) hk (by simpa using hB)
 simpa using this
def szR (n:Nat) (l:Int):Int⊕Int:=if(n:Int)<=l then .inr (l - n)else .inl (-1)
theorem Qu5 {n:Nat}{l:Int}(h:(n:Int)<=l):szR n l= .inr (l - n):=if_pos h
theorem Qvn {n:Nat}{l:Int}(h:¬(n:Int)<=l):szR n l= .inl (-1):=if_neg h
theorem QEI {α:Type}(c:α->Nat) (x:α) (l:List α):Qi c (x::l)=c x+Qi c l:=rfl
theorem Qh2 {α:Type}(s:α->Nat) (xs:List α) (K:Int->Nat->Option (Int⊕Int)) (B:Int)
 (hin:∀l i (h:i<xs.length) r,0<=l->l<=B->(s xs[i]:Int)<=l->K (l - s xs[i]) (i+1)=some r->K l i=some r)
 (hout:∀l i (h:i<xs.length),0<=l->l<=B->¬(s xs[i]:Int)<=l->K l i=some (.inl (-1)))
 (hend:∀l,K l xs.length=some (.inr l)) (l:Int) (h0:0<=l) (hB:l<=B):K l 0=some (szR (Qi s xs) l):=by
 have main:∀(n i:Nat) (l:Int),i+n=xs.length->0<=l->l<=B->K l i=some (szR (Qi s (xs.drop i)) l):=by
  intro n
  induction n with
  |zero=>
   intro i l hi h0 hB
   have:i=xs.length:=by omega
   subst this
   rw[hend,QRl,Qu5 (show((Qi s []:Nat):Int)<=l from h0)]
   simp[Qi]
  |succ n ih=>
   intro i l hi h0 hB
   have h1:i<xs.length:=by omega
   rw[QRa h1,QEI]
   by_cases hs:(s xs[i]:Int)<=l
   ·refine hin l i h1 _ h0 hB hs ?_
    rw[ih (i+1) _ (by omega) (by omega) (by omega)]
    by_cases h2:(Qi s (xs.drop (i+1)):Int)<=l - s xs[i]
    ·rw[Qu5 h2,Qu5 (by omega)];congr 2;omega
    ·rw[Qvn h2,Qvn (by omega)]
   ·rw[hout l i h1 h0 hB hs,Qvn (by omega)]
 have:=main xs.length 0 l (by omega) h0 hB
 simpa only[QRg]using this
end Go.Eng
namespace Go.Eng
open Go
theorem XH {α:Type}(c:α->Nat):(l:List α)->(i:Nat)->(h:i<l.length)->c l[i]<=Qi c l
 |x::l,0,_=>by simp[Qi]
 |x::l,i+1,h=>by
  have:=XH c l i (by simpa using h)
  simp only[List.getElem_cons_succ,Qi];omega
theorem Kc {α:Type}(c:α->Nat) {l:List α}{x:α}(h:x∈l):c x<=Qi c l:=by
 obtain⟨i,hi,rfl⟩:=List.mem_iff_getElem.1 h
 exact XH c l i hi
def szI (n:Nat) (l:Int):Int:=if(n:Int)<=l then l - n else -1
theorem Vx {n:Nat}{l:Int}(h:(n:Int)<=l):szI n l=l - n:=if_pos h
theorem KN {n:Nat}{l:Int}(h:¬(n:Int)<=l):szI n l= -1:=if_neg h
theorem Qd2 (n:Nat) (l:Int):Qn (szR n l) (fun u=>some u) (fun z=>some z)=some (szI n l):=by
 unfold szR szI;split<;>rfl
theorem VQ {R:Type}(n:Nat) (K:Nat->Option R) (o:R) (hstep:∀i,i<n->∀r,K (i+1)=some r->K i=some r) (hend:K n=some o):K 0=some o:=by
 have main:∀m i,i+m=n->K i=some o:=by
  intro m
  induction m with
  |zero=>intro i hi;have:i=n:=by omega
         rw[this];exact hend
  |succ m ih=>intro i hi;exact hstep i (by omega) _ (ih (i+1) (by omega))
 exact main n 0 (by omega)
theorem df {p:Prop} [Decidable p] (h:¬p):decide p=false:=decide_eq_false h
theorem dt {p:Prop} [Decidable p] (h:p):decide p=true:=decide_eq_true h
theorem QZ (a:ByteArray):qI a a=true:=by rw[QB2];simp
theorem ZS {n m:Nat}{l:Int}{X:Option Int}{f:Int->Option Int}(h0:0<=l) (hX:X=some (szI n l)) (hf:(n:Int)<=l->f (l - n)=some (szI m (l - n))):(X.bind fun r=>bif decide (r<0)then some (-1)else f r)=some (szI (n+m) l):=by
 rw[hX,QQ0]
 by_cases h:(n:Int)<=l
 ·rw[Vx h,df (by omega),QQ2,hf h]
  by_cases h2:(m:Int)<=l - n
  ·rw[Vx h2,Vx (by omega)];congr 1;omega
  ·rw[KN h2,KN (by omega)]
 ·rw[KN h,dt (by omega),QQ1,KN (by omega)]
theorem KJ {l:Int}(h:0<=l):some l=some (szI 0 l):=by rw[Vx (by simpa using h)];simp
theorem zd {n m:Nat}{l:Int}{f:Option Int}(h0:0<=l) (hB:l<=1048576) (hn:n<=maxLen) (hf:(n:Int)<=l->f=some (szI m (l - n))):(bif decide (wR (l - n)<0)then some (-1)else f)=some (szI (n+m) l):=by
 simp only[maxLen]at hn
 rw[w64 (by omega) (by omega)]
 by_cases h:(n:Int)<=l
 ·rw[df (by omega),QQ2,hf h]
  by_cases h2:(m:Int)<=l - n
  ·rw[Vx h2,Vx (by omega)];congr 1;omega
  ·rw[KN h2,KN (by omega)]
 ·rw[dt (by omega),QQ1,KN (by omega)]
theorem Q6 {R:Type}(n:Nat) (K:Nat->Option R) (M:Nat->R) (hstep:∀i,i<n->K (i+1)=some (M (i+1))->K i=some (M i)) (hend:K n=some (M n)):K 0=some (M 0):=by
 have main:∀m i,i+m=n->K i=some (M i):=by
  intro m
  induction m with
  |zero=>intro i hi;have:i=n:=by omega
         rw[this];exact hend
  |succ m ih=>intro i hi;exact hstep i (by omega) (ih (i+1) (by omega))
 exact main n 0 (by omega)
theorem Xb {S R:Type}(n:Nat) (K:Nat->S->Option R) (M:Nat->S->R) (Inv:Nat->S->Prop) (hstep:∀i,i<n->∀s,Inv i s->(∀s',Inv (i+1) s'->K (i+1) s'=some (M (i+1) s'))->K i s=some (M i s)) (hend:∀s,Inv n s->K n s=some (M n s)) (s:S) (hs:Inv 0 s):K 0 s=some (M 0 s):=by
 have main:∀m i,i+m=n->∀s,Inv i s->K i s=some (M i s):=by
  intro m
  induction m with
  |zero=>intro i hi s hs;have:i=n:=by omega
         subst this;exact hend s hs
  |succ m ih=>intro i hi s hs;exact hstep i (by omega) s hs (ih (i+1) (by omega))
 exact main n 0 (by omega) s hs
theorem QpR {i:Nat}(h:0<i) (hn:i<=maxLen):wR ((i:Int) - 1)=((i - 1:Nat):Int):=by
 simp only[maxLen]at hn
 rw[w64 (by omega) (by omega)];omega
theorem ipos {i:Nat}(h:0<i):decide ((0:Int)<(i:Int))=true:=by simp[h]
theorem Qof:decide ((0:Int)<((0:Nat):Int))=false:=by simp
theorem Yf {α:Type}{d v:α}{xs:List α}{i:Nat}(h:i<xs.length):rd1 d (xs.set i v) (i:Int)=v:=by
 rw[Qg (by simpa using h)];simp
theorem QpA (l:List Int):ByteArray.size (jg l)=l.length:=by
 simp[jg,ByteArray.size]
theorem QdW {α:Type}(c s:α->Nat) (h:∀x,c x<=64*(s x+1)) (a:List α):Qi c a<=64*(a.length+Qi s a):=by
 induction a with
 |nil=>simp[Qi]
 |cons x l ih=>
  have:=h x
  simp only[Qi,List.length_cons];omega
theorem QfA {α:Type}(c:α->Nat) (h:∀x,c x<=64) (a:List α):Qi c a<=64*a.length:=by
 induction a with
 |nil=>simp[Qi]
 |cons x l ih=>
  have:=h x
  simp only[Qi,List.length_cons];omega
theorem Z3 {β:Type}{i n:Nat}(h:i<n) (f:Nat->List β):(List.range' i (n - i)).flatMap f=f i++(List.range' (i+1) (n - (i+1))).flatMap f:=by
 rw[show n - i=(n - (i+1))+1 by omega,List.range'_succ]
 simp
end Go.Eng
namespace Go.Eng
open Go
theorem Vm {α R:Type}(xs:List α) (K:Nat->List α->Option R) (fin:List α->R)
 (hstep:∀i (h:i<xs.length) (out:List α) r,out.length=i->K (i+1) (out++[xs[i]])=some r->K i out=some r)
 (hend:∀out:List α,out.length=xs.length->K xs.length out=some (fin out)):K 0 []=some (fin xs):=by
 have e:=Xb xs.length K (fun i s=>fin (s++xs.drop i)) (fun i s=>s.length=i)
  (fun i hi s hs ih=>by
    refine hstep i hi s _ hs ?_
    rw[ih (s++[xs[i]]) (by simp[hs]),QRa hi]
    simp)
  (fun s hs=>by rw[hend s hs];simp)
  [] rfl
 simpa using e
def QiS {α β:Type}(f:Nat->α->List β):Nat->List α->List β
 |_,[]=>[]
 |i,x::l=>f i x++QiS f (i+1) l
theorem QwF {α β R:Type}(xs:List α) (f:Nat->α->List β) (c:Nat) (hc:∀i x,(f i x).length<=c) (K:Nat->List β->Option R) (fin:List β->R)
 (hstep:∀i (h:i<xs.length) (out:List β) r,out.length<=i*c->K (i+1) (out++f i xs[i])=some r->K i out=some r)
 (hend:∀out:List β,K xs.length out=some (fin out)):K 0 []=some (fin (QiS f 0 xs)):=by
 have e:=Xb xs.length K (fun i s=>fin (s++QiS f i (xs.drop i))) (fun i s=>s.length<=i*c)
  (fun i hi s hs ih=>by
    refine hstep i hi s _ hs ?_
    have:=hc i xs[i]
    rw[ih (s++f i xs[i]) (by rw[QRj,Nat.add_mul];omega),QRa hi,QiS]
    simp)
  (fun s hs=>by rw[hend s];simp[QiS])
  [] (by simp)
 simpa using e
theorem Qgy {α:Type}(p:α->Bool):(i:Nat)->(l:List α)->QiS (fun _ x=>bif p x then [x]else []) i l=l.filter p
 |_,[]=>rfl
 |i,x::l=>by
  rw[QiS,Qgy p (i+1) l,List.filter_cons]
  cases p x<;>rfl
theorem QyM {α:Type}(b:Bool) (x:α):(bif b then [x]else []).length<=1:=by cases b<;>simp
end Go.Eng
