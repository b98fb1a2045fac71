/- A meaning of the translated functions in plain typed values, and its soundness, part 2. No conditions. -/
import Derived.Test.YtiejfnbmficbmaaGreatEng1
import Derived.Laws.Slices
set_option linter.all false
namespace Go.Eng
open Go
set_option linter.unusedVariables false
theorem Quz:(vs:List Value)->(us:List Value)->(off k:Nat)->off+vs.length<=us.length->(Qmb us off vs)[k]? =if off<=k/\k<off+vs.length then vs[k - off]? else us[k]?
 | [],us,off,k,_=>by simp[Qmb];intro h1 h2;omega
 |v::vs,us,off,k,h=>by
  simp only[QY1]at h
  rw[Qmb,Quz vs (us.set off v) (off+1) k (by simp;omega)]
  by_cases h1:off+1<=k/\k<off+1+vs.length
  ·rw[if_pos h1,if_pos ⟨by omega,by simp;omega⟩]
   rw[show k - off=(k - (off+1))+1 by omega];rfl
  ·rw[if_neg h1,List.getElem?_set]
   by_cases h2:off=k
   ·subst h2
    rw[if_pos rfl,if_pos (by omega),if_pos ⟨QY2 _,by simp⟩];simp
   ·rw[if_neg h2,if_neg (by simp;omega)]
theorem QHK {α:Type}(l:List α) (i:Nat) (x:α) (h:i<l.length):l.set i x=l.take i++x::l.drop (i+1):=by
 rw[List.set_eq_take_append_cons_drop,if_pos h]
theorem QDp {bls:List (List Nat)}{i:Nat}{b:List Nat}(hi:i<bls.length) (hn:bls.flatten.Nodup) (hb:b.Nodup) (hd:∀c∈b,c∉bls.flatten):(bls.set i b).flatten.Nodup/\∀c∈(bls.set i b).flatten,c∈b\/c∈bls.flatten:=by
 have hbi:bls[i]? =some bls[i]:=QRp hi
 have hsp:=QBM bls i _ hbi
 have hf:bls.flatten=(bls.take i).flatten++(bls[i]++(bls.drop (i+1)).flatten):=by
  have:=congrArg List.flatten hsp
  rwa[QY21,QRr]at this
 have hs:(bls.set i b).flatten=(bls.take i).flatten++(b++(bls.drop (i+1)).flatten):=by rw[QHK _ _ _ hi,QY21,QRr]
 rw[hf]at hn
 rw[QRi,QRi]at hn
 refine⟨?_,fun c hc=> ?_⟩
 ·rw[hs,QRi,QRi]
  refine⟨hn.1,⟨hb,hn.2.1.2.1,fun x hx y hy e=> ?_⟩,fun x hx y hy e=> ?_⟩
  ·subst e;exact hd x hx (by rw[hf];simp[hy])
  ·subst e
   rcases QRh.1 hy with hy|hy
   ·exact hd x hy (by rw[hf];simp[hx])
   ·exact hn.2.2 x hx x (by simp[hy]) rfl
 ·rw[hs]at hc
  rcases QRh.1 hc with hc|hc
  ·right;rw[hf];simp[hc]
  ·rcases QRh.1 hc with hc|hc
   ·exact .inl hc
   ·right;rw[hf];simp[hc]
theorem Qfl.set {w:World}{R:Nat->Prop}{deep:Bool}{ts:Tys}{row:List (Qm ts)}{cells:List Value}{bls:List (List Nat)}(h:Qfl w R deep ts row cells bls) {i:Nat}(hi:i<row.length) {e:Qm ts}{us:List Value}{b:List Nat}(he:QT w R deep ts e us b):
 Qfl w R deep ts (row.set i e) (Qmb cells (i*ts.len) us) (bls.set i b):=by
 obtain⟨h1,h2,h3⟩:=h
 have hul:=(QT.len he).1
 have hfit:i*ts.len+us.length<=cells.length:=by
  rw[h1,hul]
  have:=QY16 ts.len (show i+1<=row.length from hi)
  rwa[QY25]at this
 refine⟨by rw[Qt5,QY12];exact h1,by simp[h2],fun k x c hx hc=> ?_⟩
 rw[List.getElem?_set]at hx hc
 by_cases hk:i=k
 ·subst hk
  rw[if_pos rfl,if_pos hi]at hx
  rw[if_pos rfl,if_pos (by omega)]at hc
  cases hx;cases hc
  refine⟨us,fun j u hj=> ?_,he⟩
  have hjl:=(QRq.1 hj).1
  rw[Quz us cells _ _ hfit,if_pos ⟨by omega,by omega⟩,show i*ts.len+j - i*ts.len=j by omega]
  exact hj
 ·rw[if_neg hk]at hx hc
  obtain⟨vs,k1,k2⟩:=h3 k x c hx hc
  refine⟨vs,fun j u hj=> ?_,k2⟩
  have hjl:j<ts.len:=by rw[<-(QT.len k2).1];exact(QRq.1 hj).1
  rw[Quz us cells _ _ hfit,if_neg ?_]
  ·exact k1 j u hj
  ·rw[hul]
   rcases Nat.lt_or_gt_of_ne hk with hlt|hlt
   ·have:=QY16 ts.len (show i+1<=k from hlt)
    rw[QY25]at this
    omega
   ·have:=QY16 ts.len (show k+1<=i from hlt)
    rw[QY25]at this
    omega
def Qb1 (G:Gh) (w:World):List (Nat×List VC)->List (Nat×Value)->Prop
 | [],vs=>vs=[]
 |(i,cs)::ps,vs=>∃v vs',vs=(i,v)::vs'/\VCs G w cs v.cells.toList/\Qb1 G w ps vs'
theorem Qb1.mono {G G':Gh}{w:World}(h:G.le G'):(ps:List (Nat×List VC))->(vs:List (Nat×Value))->Qb1 G w ps vs->Qb1 G' w ps vs
 | [],_,e=>e
 |(i,cs)::ps,vs,⟨v,vs',e,h1,h2⟩=>⟨v,vs',e,VCs.mono h (fun _ _=>rfl) _ _ h1,Qb1.mono h ps vs' h2⟩
section
variable {P:Program}{E:Env}{D:Xz E}{nk:Fx}{F:Fix}{G:Gh}{s:St}{a:Act}{w:World}{o:Oper}
theorem QqK (h:Rel F G s a w):(l:List (Nat×Operand))->Sat (QbI l:M Unit (List (Nat×List VC))) s fun ps s'=>s'=s/\Qb1 G w ps (l.map fun x=>(x.1,a.eval x.2))
 | []=>Sat.pure ⟨rfl,rfl⟩
 |(i,x)::l=>by
  unfold QbI
  refine Sat.bind (XM h x) ?_
  rintro c s' ⟨e,hc⟩
  rw[e]
  refine Sat.bind (Sat.ofO (Φ:=fun vs s2=>s2=s/\QfP c=some vs) (fun off e=>⟨rfl,e⟩)) ?_
  rintro vs s2 ⟨e2,hvs⟩
  rw[e2]
  refine Sat.bind (QqK h l) ?_
  rintro ps s3 ⟨e3,hps⟩
  rw[e3]
  exact Sat.pure ⟨rfl,a.eval x,_,rfl,QjO hvs hc,hps⟩
theorem QDH (h:Rel F G s a w) {v:VC}{u:Value}(hv:VCR G w v u):Sat (QoQ v:M Unit Bool) s fun _ s'=>s'=s:=by
 unfold QoQ
 cases v with
 |vw p=>
  obtain⟨t,hp,_⟩:=hv
  refine Sat.bind (jS 8 p s h.con _ hp) ?_
  rintro⟨q,c⟩ s' ⟨e1,_⟩
  rw[e1]
  dsimp only
  split<;>exact Sat.pure rfl
 |_=>exact Sat.pure rfl
theorem Qvz (h:Rel F G s a w):(ts:Tys)->(vs:List VC)->(us:List Value)->VCs G w vs us->Sat (Qk3 ts vs:M Unit Bool) s fun _ s'=>s'=s
 | .nil,[],us,_=>Sat.pure rfl
 | .nil,_::_,us,_=>Sat.pure rfl
 | .cons t ts,[],us,_=>Sat.pure rfl
 | .cons t ts,v::vs,us,⟨u,us',_,hv,hvs⟩=>by
   unfold Qk3
   have fin:∀(b:Bool) (s':St),s'=s->Sat (do let b'<-Qk3 ts vs;pure (b&&b'):M Unit Bool) s' fun _ s'=>s'=s:=by
    intro b s' e
    rw[e]
    refine Sat.bind (Qvz h ts vs us' hvs) ?_
    rintro b' s2 e2
    rw[e2];exact Sat.pure rfl
   split
   ·exact Sat.bind (QDH h hv) fin
   ·exact Sat.bind (Sat.pure rfl) fin
theorem Qtx (h:Rel F G s a w) {ts:Tys}:(ps:List (Nat×List VC))->(vals:List (Nat×Value))->Qb1 G w ps vals->Sat (Qj1 ts ps:M Unit Bool) s fun _ s'=>s'=s
 | [],_,_=>Sat.pure rfl
 |(i,vs)::ps,vals,⟨v,vals',_,hv,hps⟩=>by
  unfold Qj1
  refine Sat.bind (Qvz h ts vs _ hv) ?_
  rintro b s' e
  rw[e]
  refine Sat.bind (Qtx h ps vals' hps) ?_
  rintro b' s2 e2
  rw[e2];exact Sat.pure rfl
structure PartsP (F:Fix) (pd:Nat->Nat->Prop) (G:Gh) (s:St) (a:Act) (w:World) (deep:Bool) (ts:Tys) (x:Qm ts) (us:List Value) (s1:St):Prop where
 kept:Qp s s1
 rel:∃G' bl,G.le G'/\RelP F pd G' s1 a w/\QT w (fun b=>G'.ow b= .ro) deep ts x us bl/\bl.Nodup/\(∀b∈bl,G'.ow b= .free/\b<w.heap.size/\(b<F.w0.heap.size->F.X b))/\(∀b∈bl,∃κ,G.ow b= .key κ)/\
  (∀b,G.ow b= .free->G'.ow b= .free)/\(∀b κ,G'.ow b= .key κ->G.ow b= .key κ)
theorem QtC {F:Fix}{pd:Nat->Nat->Prop}{a:Act}{w:World}{deep:Bool}:(ts:Tys)->(vs:List VC)->(us:List Value)->(G:Gh)->(s:St)->RelP F pd G s a w->VCs G w vs us->
 Sat (QjR deep ts vs:M Unit (Qm ts)) s fun x s'=>PartsP F pd G s a w deep ts x us s'
 | .nil,[],us,G,s,h,hv=>Sat.pure ⟨Qp.refl s,G,[],Gh.le.refl G,h,⟨hv,rfl⟩,QY5,by simp,by simp,fun _ hb=>hb,fun _ _ hb=>hb⟩
 | .nil,_::_,us,G,s,h,hv=>Sat.fail
 | .cons t ts,[],us,G,s,h,hv=>Sat.fail
 | .cons t ts,v::vs,us,G,s,h,⟨u,us',e,hv,hvs⟩=>by
   unfold QjR
   refine Sat.bind (Qv4 h hv (d:=none) (deep:=deep) (t:=t) (fun p e=>by cases e)) ?_
   rintro x s1 ⟨k1,_,_,G1,bl,p1,p2,p3,p4,p5,p6,p7,p8,_,_⟩
   refine Sat.bind (QtC ts vs us' G1 s1 p2 (VCs.mono p1 (fun _ _=>rfl) _ _ hvs)) ?_
   rintro y s2 ⟨m1,G2,bm,q1,q2,q3,q4,q5,q6,q7,q8⟩
   refine Sat.pure ⟨k1.trans m1,G2,bl++bm,p1.trans q1,q2, ?_, ?_, ?_, ?_,fun b hb=>q7 b (p7 b hb),fun b κ hb=>p8 b κ (q8 b κ hb)⟩
   ·refine⟨u,us',bl,bm,e,rfl, ?_,by rw[Qsv];exact q3⟩
    rw[Qsk]
    exact p3.QpV (fun b hb=>q1.ro b hb)
   ·rw[QRi]
    refine⟨p4,q4,fun c hc c' hc' e=> ?_⟩
    subst e
    obtain⟨κ,hκ⟩:=q6 c hc'
    rw[(p5 c hc).1]at hκ;cases hκ
   ·intro c hc
    rcases QRh.1 hc with hc|hc
    ·exact⟨q7 c (p5 c hc).1,(p5 c hc).2⟩
    ·exact q5 c hc
   ·intro c hc
    rcases QRh.1 hc with hc|hc
    ·exact p6 c hc
    ·obtain⟨κ,hκ⟩:=q6 c hc;exact⟨κ,p8 c κ hκ⟩
theorem Qtu {F:Fix}{pd:Nat->Nat->Prop}{a:Act}{w:World}{deep:Bool}{ts:Tys}:(ps:List (Nat×List VC))->(vals:List (Nat×Value))->(row:List (Qm ts))->(cells:Array Value)->(bls:List (List Nat))->(G:Gh)->(s:St)->RelP F pd G s a w->Qb1 G w ps vals->
 Qfl w (fun b=>G.ow b= .ro) deep ts row cells.toList bls->bls.flatten.Nodup->(∀b∈bls.flatten,G.ow b= .free/\b<w.heap.size/\(b<F.w0.heap.size->F.X b))->(∀p∈ps,p.1<row.length)->
 Sat (QjX deep ts row ps:M Unit (List (Qm ts))) s fun row' s'=>Qp s s'/\row'.length=row.length/\∃G' cells' bls',G.le G'/\RelP F pd G' s' a w/\Instr.fill (fun i=>some (i*ts.len,ts.len)) cells vals=some cells'/\
  Qfl w (fun b=>G'.ow b= .ro) deep ts row' cells'.toList bls'/\bls'.flatten.Nodup/\(∀b∈bls'.flatten,G'.ow b= .free/\b<w.heap.size/\(b<F.w0.heap.size->F.X b))
 | [],vals,row,cells,bls,G,s,h,hp,hr,hn,hf,_=>by
   rw[show vals=[]from hp]
   exact Sat.pure ⟨Qp.refl s,rfl,G,cells,bls,Gh.le.refl G,h,rfl,hr,hn,hf⟩
 |(i,vs)::ps,vals,row,cells,bls,G,s,h,⟨v,vals',e,hv,hp⟩,hr,hn,hf,hi=>by
  rw[e]
  unfold QjX
  have hil:=hi (i,vs) (by simp)
  simp only at hil
  refine Sat.bind (QtC ts vs _ G s h hv) ?_
  rintro x s1 ⟨k1,G1,bl,p1,p2,p3,p4,p5,p6,p7,p8⟩
  have hr1:=(hr.QpV (fun b hb=>p1.ro b hb)).set hil p3
  have hul:=(QT.len p3).1
  have hcl:=hr.1
  have hbls:=hr.2.1
  obtain⟨cells',c1,c2⟩:=QzN (place:=fun i=>some (i*ts.len,ts.len)) (cells:=cells) (i:=i) (off:=i*ts.len) (size:=ts.len) (v:=v) (rest:=vals') rfl (by simpa using hul) (by
   have:=QY16 ts.len (show i+1<=row.length from hil)
   rw[QY25]at this
   simp only[Array.length_toList]at hcl
   omega)
  rw[<-c1]at hr1
  obtain⟨n1,n2⟩:=QDp (bls:=bls) (i:=i) (b:=bl) (by omega) hn p4 (fun c hc hm=>by
   obtain⟨κ,hκ⟩:=p6 c hc
   rw[(hf c hm).1]at hκ;cases hκ)
  refine(Qtu ps vals' (row.set i x) cells' (bls.set i bl) G1 s1 p2 (Qb1.mono p1 _ _ hp) hr1 n1 (fun b hb=> ?_) (fun p hp=>by rw[QY12];exact hi p (by simp[hp]))).mono ?_
  ·rcases n2 b hb with h|h
   ·exact p5 b h
   ·exact⟨p7 b (hf b h).1,(hf b h).2⟩
  ·rintro row' s' ⟨m1,m2,G',cells2,bls2,m3,m4,m5,m6,m7,m8⟩
   exact⟨k1.trans m1,by rw[m2,QY12],G',cells2,bls2,p1.trans m3,m4,by rw[c2];exact m5,m6,m7,m8⟩
theorem QAG (he:XZ P E) {T:TypeId}{len:Nat}{parts:Array (Nat×Operand)}(ho:o.op= .buildSlice T len parts) (h:Rel F G s a w):Sat (execOp E D nk o:M Unit Unit) s (fun(_:Unit) (s':St)=>QI P F o a w s'):=by
 simp only[execOp,ho,XQ,QQ4,QRn]
 split
 ·exact Sat.fail
 rename_i hd
 have hd:=Jg hd
 refine Sat.bind (j9 he) ?_
 rintro TE s1 ⟨rfl,e,hund,hTE⟩
 refine Sat.bind (QqK h parts.toList) ?_
 rintro ps s2 ⟨rfl,hps⟩
 split
 ·rename_i hlt
  refine Sat.bind (Qtx h (ts:=TE.ts) ps _ hps) ?_
  rintro deep s3 rfl
  obtain⟨ti,z,g1,g2,g3,g4,g5⟩:=hTE.info
  have hnil:(List.replicate len ([]:List Nat)).flatten=[]:=by rw[List.flatten_eq_nil_iff];intro l hl';exact(List.mem_replicate.1 hl').2
  refine Sat.bind (Qtu ps _ (List.replicate len (Tys.zero TE.ts)) _ (List.replicate len []) G s3 h hps (QB0 g5 len) (by rw[hnil];exact QY5) (fun b hb=>by rw[hnil]at hb;simp at hb) (fun p hp=> ?_)) ?_
  ·rw[QRt]at hlt
   have:=hlt p hp
   simpa using this
  rintro row s4 ⟨hk,hlen,G1,cells,bls,hle,hr,hfill,hrow,hn,hf⟩
  rw[List.length_replicate]at hlen
  split
  ·rename_i hsz
   obtain⟨r1,r2⟩:=Qfl.held hr hrow (by rw[hlen];exact QY17 hsz.2 (by decide)) hn hf e
   rw[hlen]at r2
   refine Sat.bind (zp r1 r2) ?_
   rintro v s6 ⟨hk2,G',hle2,hr2,hv,_⟩
   refine(Zk hr2 hd (zl hv)).mono fun _ s' hr=>QI.value ?_ hr
   have hbig:¬(len*ti.size>2^24):=by rw[g2];have:=hsz.1;omega
   have hfill':Instr.fill (fun i=>some (i*ti.size,ti.size)) ((Array.range (len*ti.size)).map (fun k=>z.cells[k % z.cells.size]!)) (parts.toList.map fun x=>(x.1,a.eval x.2))=some cells:=by rw[g2];exact hfill
   by_cases h0:len*ti.size=0
   ·rw[h0]at hfill'
    simp only[Array.range_zero',List.map_toArray]at hfill'
    simp[Go.execOp,ho,Instr.buildSlice,run_underlying hund,sizeOf,typeInfo,g1,h0,Array.range_zero',newRow]
    rw[show Instr.fill (fun i=>some (i*ti.size,ti.size)) #[] (List.map (fun x=>(x.fst,a.eval x.snd)) parts.toList)=some cells from hfill']
    simp
   ·have hbig':¬(16777216<len*ti.size):=by omega
    simp[Go.execOp,ho,Instr.buildSlice,run_underlying hund,sizeOf,typeInfo,g1,h0,zeroValue,g4,newRow]
    rw[if_neg hbig',hfill']
    simp
  ·exact Sat.fail
 ·exact Sat.fail
end
section
variable {ts:Tys}{Q Q':Qm ts->List Value->List Nat->Prop}
theorem Xq.QFS: {xs:List (Qm ts)}-> {cs:List Value}-> {bls:List (List Nat)}->Xq Q xs cs bls->(∀x us b,x∈xs->b∈bls->Q x us b->Q' x us [])->Xq Q' xs cs (xs.map fun _=>[])
 | [],_,_,h,_=>⟨h.1,rfl⟩
 |x::xs,_,_,h,hm=>by
  obtain⟨us,cs',b,bls',rfl,rfl,hu,hq,h'⟩:=h
  exact⟨us,cs',[],_,rfl,rfl,hu,hm x us b (by simp) (by simp) hq,Xq.QFS h' (fun y vs c hy hc=>hm y vs c (by simp[hy]) (by simp[hc]))⟩
theorem Yx (xs:List (Qm ts)):(xs.map fun _=>([]:List Nat)).flatten=[]:=by
 rw[List.flatten_eq_nil_iff];intro l hl;obtain⟨_,_,e⟩:=QY18.1 hl;exact e.symm
end
section
variable {P:Program}{E:Env}{D:Xz E}{nk:Fx}{F:Fix}{G:Gh}{s:St}{a:Act}{w:World}{o:Oper}
theorem QDS (h:Rel F G s a w) {ts:Tys}{v:VC}{u:Value}(hv:VCR G w v u):
 Sat (Qpa ts v:M Unit (List (Qm ts)×Bool)) s fun x s'=>Qp s s'/\∃G' bl,G.le G'/\Rel F G' s' a w/\Held F G' w ⟨⟨.sl ts,x.1⟩,x.2,u,bl⟩/\(∀b κ,G'.ow b= .key κ->G.ow b= .key κ):=by
 unfold Qpa
 cases v with
 |nilS=>exact Sat.pure ⟨Qp.refl s,G,[],Gh.le.refl G,h,⟨.inl ⟨rfl,hv,rfl⟩,rfl,QY5,by simp⟩,fun _ _ hb=>hb⟩
 |vw p=>
  obtain⟨t,hp,_⟩:=hv
  refine Sat.bind (Qqi h hp) ?_
  rintro⟨x,dp,tag⟩ s1 ⟨k1,k2,k3,G',bl,g1,g2,g3,g4,g5,g6,g7⟩
  dsimp only
  refine Sat.bind (Sat.ofO (Φ:=fun z s2=>s2=s1/\x=⟨.sl ts,z⟩) (fun z e=>⟨rfl,Zt e⟩)) ?_
  rintro z s2 ⟨rfl,rfl⟩
  split
  ·exact Sat.pure ⟨k1,G',bl,g1,g2,g3,g6⟩
  ·exact Sat.fail
 |_=>exact Sat.fail
theorem QDD (h:Rel F G s a w) {ts:Tys}{x:VC}{u:Value}(hv:VCR G w x u):
 Sat (Qos ts x:M Unit (List (Qm ts)×Bool)) s fun x s'=>Qp s s'/\∃G' news bms,G.le G'/\Rel F G' s' a w/\QAL w u x.1.length news/\Xq (QT w (fun b=>G'.ow b= .ro) x.2 ts) x.1 news bms/\bms.flatten.Nodup/\
  (∀b∈bms.flatten,G'.ow b= .free/\b<w.heap.size/\(b<F.w0.heap.size->F.X b))/\(∀b∈bms.flatten,∃κ,G.ow b= .key κ)/\(∀b,G.ow b= .free->G'.ow b= .free):=by
 have fin:∀ {R:Nat->Prop}{z:List (Qm ts)}{bl:List Nat},Rep w (.sl ts) z u bl->∃news bls,QAL w u z.length news/\Xq (XF w ts) z news bls/\(∀b∈bls,∀c∈b,c∈bl):=by
  intro R z bl hr
  obtain⟨ad,cap,hu,hcap,hn,hc⟩:=hr.cells
  rcases hc with⟨h1,_⟩|⟨ad',bls,cs,e1,e2,e3,e4⟩
  ·have h1:z=[]:=h1
   subst h1
   refine⟨[],[], ?_,⟨rfl,rfl⟩,by simp⟩
   cases ad with
   |none=>exact .inr ⟨cap,hu,rfl,rfl⟩
   |some ad=>exact .inl ⟨ad,cap,hu,fun j v hj=>by simp at hj⟩
  ·subst e1
   refine⟨cs,bls, .inl ⟨ad',cap,hu,fun j v hj=> ?_⟩,e3,fun b hb c hc=>by rw[e2];exact List.mem_cons_of_mem _ (QY9.2 ⟨b,hb,hc⟩)⟩
   have:=e4 j v hj
   rwa[QRo]at this
 unfold Qos
 split
 ·rename_i hflat
  refine Sat.bind (Qlj h (.sl ts) x u hv) ?_
  rintro z s' ⟨e,bl,hr⟩
  rw[e]
  obtain⟨news,bls,f1,f2,f3⟩:=fin (R:=fun _=>True) hr
  have hE:Xq (QT w (fun b=>G.ow b= .ro) true ts) z news (z.map fun _=>[]):=f2.QFS fun x us b _ _ hq=>(XF.flat ts hflat x us b hq).1
  exact Sat.pure ⟨Qp.refl s,G,news,_,Gh.le.refl G,h,f1,hE,by rw[Yx];exact QY5,fun b hb=>by rw[Yx]at hb;simp at hb,fun b hb=>by rw[Yx]at hb;simp at hb,fun _ hb=>hb⟩
 ·cases x with
  |nilS=>exact Sat.pure ⟨Qp.refl s,G,[],[],Gh.le.refl G,h, .inr ⟨0,hv,rfl,rfl⟩,⟨rfl,rfl⟩,QY5,by simp,by simp,fun _ hb=>hb⟩
  |ro y=>
   obtain⟨bl,hr,hro⟩:=hv
   refine Sat.bind (Sat.ofO (Φ:=fun z s2=>s2=s/\y=⟨.sl ts,z⟩) (fun z e=>⟨rfl,Zt e⟩)) ?_
   rintro z s2 ⟨e,rfl⟩
   rw[e]
   obtain⟨news,bls,f1,f2,f3⟩:=fin (R:=fun _=>True) hr
   have hE:Xq (QT w (fun b=>G.ow b= .ro) false ts) z news (List.map (fun _=>[]) (show List (Qm ts)from z)):=f2.QFS fun x us b _ hb hq=>XF.QBx ts x us b hq (fun c hc=>hro c (f3 b hb c hc))
   exact Sat.pure ⟨Qp.refl s,G,news,_,Gh.le.refl G,h,f1,hE,by rw[Yx];exact QY5,fun b hb=>by rw[Yx]at hb;simp at hb,fun b hb=>by rw[Yx]at hb;simp at hb,fun _ hb=>hb⟩
  |vw p=>
   obtain⟨t,hp,_⟩:=hv
   refine Sat.bind (Qqi h hp) ?_
   rintro⟨x,dp,tag⟩ s1 ⟨k1,k2,k3,G',bl,g1,g2,g3,g4,g5,g6,g7⟩
   dsimp only
   refine Sat.bind (Sat.ofO (Φ:=fun z s2=>s2=s1/\x=⟨.sl ts,z⟩) (fun z e=>⟨rfl,Zt e⟩)) ?_
   rintro z s2 ⟨rfl,rfl⟩
   have hown:Own w (fun b=>G'.ow b= .ro) dp (.sl ts) z u bl:=g3.own
   have hnd:=g3.nodup
   have hfr:=g3.free
   rcases hown.cells with⟨h1,h2,h3⟩|⟨g,off,cap,cur,e',bls,cs,e1,e2,_,_,_,e3,e4,e5⟩
   ·have h1:z=[]:=h1
    subst h1
    exact Sat.pure ⟨k1,G',[],[],g1,g2, .inr ⟨0,h2,rfl,rfl⟩,⟨rfl,rfl⟩,QY5,by simp,by simp,g5⟩
   ·simp only at hnd hfr g4
    rw[e3]at hnd
    exact Sat.pure ⟨k1,G',cs,bls,g1,g2, .inl ⟨⟨g,off,none⟩,cap,e1,fun j v hj=>by have:=e5 j v hj;rwa[QRo]at this⟩,e4,(QY4.1 hnd).2,fun b hb=>hfr b (by rw[e3];simp[hb]),fun b hb=>g4 b (by rw[e3];simp[hb]),g5⟩
  |_=>exact Sat.fail
theorem QEf (h:Rel F G s a w) {ts:Tys}{xs ys:List (Qm ts)}{sd yd:Bool}{u:Value}{bl:List Nat}{news:List Value}{bms:List (List Nat)}(hh:Held F G w ⟨⟨.sl ts,xs⟩,sd,u,bl⟩) (hE:Xq (QT w (fun b=>G.ow b= .ro) yd ts) ys news bms)
 (hn:bms.flatten.Nodup) (hf:∀b∈bms.flatten,G.ow b= .free/\b<w.heap.size/\(b<F.w0.heap.size->F.X b)) (hd:∀b∈bms.flatten,b∉bl):
 ∃G' bl' bms',G.le G'/\Rel F G' s a w/\Held F G' w ⟨⟨.sl ts,xs⟩,sd&&yd,u,bl'⟩/\Xq (QT w (fun b=>G'.ow b= .ro) (sd&&yd) ts) ys news bms'/\bms'.flatten.Nodup/\(∀b∈bms'.flatten,G'.ow b= .free/\b<w.heap.size/\(b<F.w0.heap.size->F.X b))/\(∀b∈bms'.flatten,b∉bl'):=by
 cases sd with
 |true=>
  cases yd with
  |true=>exact⟨G,bl,bms,Gh.le.refl G,h,hh,hE,hn,hf,hd⟩
  |false=>
   obtain⟨L,bl',r1,r2,r3,r4,r5⟩:=Held.shallow h hh
   refine⟨_,bl',bms,r2,r1,r3,hE.mono fun x us b _ _ hq=>QT.mono (fun b hb=>r2.ro b hb) _ _ _ _ hq,hn,fun b hb=>⟨xm (fun hm=>hd b hb (r5 b hm)) (hf b hb).1,(hf b hb).2⟩,fun b hb hm=>hd b hb (r4 b hm)⟩
 |false=>
  cases yd with
  |false=>exact⟨G,bl,bms,Gh.le.refl G,h,hh,hE,hn,hf,hd⟩
  |true=>
   obtain⟨r1,r2⟩:=h.QjV (L:=bms.flatten) hf
   refine⟨_,bl,ys.map fun _=>[],r2,r1,⟨Own.mono (fun b hb=>r2.ro b hb) _ _ _ _ hh.own,hh.sl,hh.nodup,fun b hb=>⟨xm (fun hm=>hd b hm hb) (hh.free b hb).1,(hh.free b hb).2⟩⟩, ?_,by rw[Yx];exact QY5,fun b hb=>by rw[Yx]at hb;simp at hb,fun b hb=>by rw[Yx]at hb;simp at hb⟩
   exact hE.QFS fun x us b _ hb hq=>QT.shallow (fun c hc=>r2.ro c hc) ts x us b hq (fun c hc=>Qhg (QY9.2 ⟨b,hb,hc⟩))
theorem QGp (he:XZ P E) {T ty:TypeId}(h:Rel F G s a w) (hd:o.dst.isSome=true) {v x:VC}{sv xv:Value}(hs:VCR G w v sv) (hx:VCR G w x xv)
 (hrun:∀u w',(Builtin.append_ #[T,T] ty #[sv,xv]).run P w= .ok u w'->(Go.execOp a.eval o).run P w= .ok (.value u) w'):Sat (Ql6 E (o.dst.getD 0) T v x:M Unit Unit) s (fun(_:Unit) (s':St)=>QI P F o a w s'):=by
 unfold Ql6
 refine Sat.bind (j9 he) ?_
 rintro TE s1 ⟨rfl,e,hund,hTE⟩
 refine Sat.bind (QDS h (ts:=TE.ts) hs) ?_
 rintro⟨xs,sd⟩ s2 ⟨k1,G1,bl,l1,r1,hh,mk1⟩
 refine Sat.bind (QDD r1 (ts:=TE.ts) (VCR.mono l1 (fun _ _=>rfl) _ _ hx)) ?_
 rintro⟨ys,yd⟩ s3 ⟨k2,G2,news,bms,l2,r2,hrow,hE,hn,hf,hk,hfr⟩
 refine Sat.bind (Sat.chk (Φ:=fun _ s'=>s'=s3/\0<TE.bytes/\(xs.length+ys.length)*TE.bytes<=140737488351232) (fun e=>⟨rfl,by simpa[fits]using e⟩)) ?_
 rintro _ s4 ⟨rfl,hpos,hfit⟩
 obtain⟨G3,bl3,bms3,l3,r3,hh3,hE3,hn3,hf3,hd3⟩:=QEf r2 ⟨Own.mono (fun b hb=>l2.ro b hb) _ _ _ _ hh.own,hh.sl,hh.nodup,fun b hb=>⟨hfr b (hh.free b hb).1,(hh.free b hb).2⟩⟩ hE hn hf (fun b hb hm=>by
  obtain⟨κ,hκ⟩:=hk b hb
  rw[(hh.free b hm).1]at hκ;cases hκ)
 obtain⟨ti,z,g1,g2,g3,g4,g5⟩:=hTE.info
 have hzs:z.cells.size=TE.ts.len:=by have:=congrArg List.length g5;rw[Qei]at this;simpa using this
 obtain⟨u',w',bl',a1,a2,a3,a4,a5⟩:=Own.append (P:=P) (t:=T) (ty:=ty) hund g1 g4 g2 hzs (by rw[g3];exact hpos) hh3.own hh3.nodup hrow hE3 (fun b hb=>(hh3.free b hb).2.1) (fun b hb=>⟨(hf3 b hb).2.1,hd3 b hb⟩) hn3
  (fun b hb=>⟨r3.lt b (by rw[hb];simp),fun hm=>by have:=(hh3.free b hm).1;rw[hb]at this;cases this⟩) (by rw[g3];exact hfit)
 have r4:Rel F G3 s4 a w':=r3.frame (fun b hb=>a3.block b (r3.lt b hb) (fun hm=>hb (hh3.free b hm).1)) (a3.mono fun k hk hm=>by
  by_cases hlt:k<F.w0.heap.size
  ·exact .inr ((hh3.free k hm).2.2 hlt)
  ·exact .inl (by omega))
 have hheld:Held F G3 w' ⟨⟨.sl TE.ts,xs++ys⟩,sd&&yd,u',bl'⟩:=⟨a2,rfl,a4,fun b hb=>by
  obtain⟨b1,b2⟩:=a5 b hb
  rcases b2 with hm|hm|hm
  ·exact⟨(hh3.free b hm).1,b1,(hh3.free b hm).2.2⟩
  ·exact⟨(hf3 b hm).1,b1,(hf3 b hm).2.2⟩
  ·refine⟨QY34 fun hn=>by have:=r3.lt b hn;omega,b1,fun hlt=> ?_⟩
   have:=r3.grow.size;omega⟩
 refine Sat.bind (zp r4 hheld) ?_
 rintro v' s6 ⟨hk2,G',hle2,hr2,hv,_⟩
 exact(Zk hr2 hd (zl hv)).mono fun _ s' hr=>QI.value (hrun _ _ a1) hr
end
section
variable {P:Program}{E:Env}{D:Xz E}{nk:Fx}{F:Fix}{G:Gh}{s:St}{a:Act}{w:World}{o:Oper}
theorem QGq (he:XZ P E) {b:Builtin}{args:Array Operand}{tys:Array TypeId}(ho:o.op= .call {callee:= .builtin b,args:=args,argTypes:=tys}) (h:Rel F G s a w):Sat (execOp E D nk o:M Unit Unit) s (fun(_:Unit) (s':St)=>QI P F o a w s'):=by
 simp only[execOp,ho,XQ,QQ4,QRn]
 split
 ·exact Sat.fail
 rename_i hd
 have hd:=Jg hd
 unfold Qnc
 refine Sat.bind (jD args.toList s h) ?_
 rintro cs s' ⟨rfl,hl,hcs⟩
 obtain⟨args⟩:=args
 obtain⟨tys⟩:=tys
 simp only at hl hcs
 split
 ·
  rename_i x t htys
  obtain rfl:tys=[t]:=htys
  have hx:=hcs 0 x rfl
  obtain⟨ox,h1,hx⟩:=hx
  obtain rfl:args=[ox]:=by
   cases args with
   |nil=>simp at h1
   |cons y l=>simp at h1 hl;subst h1;cases l with|nil=>rfl|cons=>simp at hl
  refine Sat.bind (Km he) ?_
  rintro TT s2 ⟨rfl,rfl,hT⟩
  split
  ·rename_i hstr
   split
   ·rename_i sv
    have hv:=Qfk hx
    refine(Zk h hd (ZJ (k:= .i64))).mono fun _ s' hr=>QI.value (v:= .int .i64 (sv.size:Nat)) (w':=w) ?_ hr
    have hu:=hT.str hstr
    simp[Go.execOp,ho,resolve,invoke,builtin,Builtin.len_,hv,run_underlying hu,goInt]
   ·exact Sat.fail
  ·refine Sat.bind (j9 he) ?_
   rintro TE s3 ⟨rfl,e,hund,hTE⟩
   refine Sat.bind (Sat.ofO (Φ:=fun v s2=>s2=s3/\vc1 x=some v) (fun v e=>⟨rfl,e⟩)) ?_
   rintro v s4 ⟨rfl,hv⟩
   refine Sat.bind (Qrd h (QpC hv hx) (ts:=TE.ts)) ?_
   rintro n s5 ⟨rfl,xs,bl,ad,c,hrep,hlen,hu,_,_,_,_⟩
   refine(Zk h hd (ZJ (k:= .i64))).mono fun _ s' hr=>QI.value (v:= .int .i64 (n:Nat)) (w':=w) ?_ hr
   simp[Go.execOp,ho,resolve,invoke,builtin,Builtin.len_,hu,run_underlying hund,goInt]
 ·
  rename_i x y t t' htys
  obtain rfl:tys=[t,t']:=htys
  obtain⟨ox,h1,hx⟩:=hcs 0 x rfl
  obtain⟨oy,h2,hy⟩:=hcs 1 y rfl
  obtain rfl:args=[ox,oy]:=by
   cases args with
   |nil=>simp at h1
   |cons z l=>
    cases l with
    |nil=>simp at h2
    |cons z' l=>simp at h1 h2 hl;subst h1;subst h2;cases l with|nil=>rfl|cons=>simp at hl
  split
  ·rename_i htt
   have htt:t=t':=by simpa using htt
   subst htt
   refine Sat.bind (Sat.ofO (Φ:=fun v s2=>s2=s'/\vc1 x=some v) (fun v e=>⟨rfl,e⟩)) ?_
   rintro v s4 ⟨rfl,hv⟩
   refine Sat.bind (Sat.ofO (Φ:=fun v s2=>s2=s4/\vc1 y=some v) (fun v e=>⟨rfl,e⟩)) ?_
   rintro v2 s5 ⟨rfl,hv2⟩
   refine QGp (ty:=o.type) he h hd (QpC hv hx) (QpC hv2 hy) (fun u w' hr=> ?_)
   simp[Go.execOp,ho,resolve,invoke,builtin,hr]
  ·exact Sat.fail
 ·
  rename_i k m k' n
  obtain⟨ox,h1,hx⟩:=hcs 0 _ rfl
  obtain⟨oy,h2,hy⟩:=hcs 1 _ rfl
  obtain rfl:args=[ox,oy]:=by
   cases args with
   |nil=>simp at h1
   |cons z l=>
    cases l with
    |nil=>simp at h2
    |cons z' l=>simp at h1 h2 hl;subst h1;subst h2;cases l with|nil=>rfl|cons=>simp at hl
  have hv1:=zL hx
  have hv2:=zL hy
  split
  ·rename_i hk;subst hk
   refine(Zk h hd ZJ).mono fun _ s' hr=>QI.value (v:= .int k (mxI m n)) (w':=w) ?_ hr
   simp[Go.execOp,ho,resolve,invoke,builtin,Builtin.max_,Builtin.max2,hv1,hv2,mxI]
  ·exact Sat.fail
 ·rename_i k m k' n
  obtain⟨ox,h1,hx⟩:=hcs 0 _ rfl
  obtain⟨oy,h2,hy⟩:=hcs 1 _ rfl
  obtain rfl:args=[ox,oy]:=by
   cases args with
   |nil=>simp at h1
   |cons z l=>
    cases l with
    |nil=>simp at h2
    |cons z' l=>simp at h1 h2 hl;subst h1;subst h2;cases l with|nil=>rfl|cons=>simp at hl
  have hv1:=zL hx
  have hv2:=zL hy
  split
  ·rename_i hk;subst hk
   refine(Zk h hd ZJ).mono fun _ s' hr=>QI.value (v:= .int k (mnI m n)) (w':=w) ?_ hr
   simp[Go.execOp,ho,resolve,invoke,builtin,Builtin.min_,Builtin.min2,hv1,hv2,mnI]
  ·exact Sat.fail
 ·exact Sat.fail
def QJn (l:Option Int) (v:Option Value):Prop:=(l=none/\v=none)\/∃n k,l=some n/\v=some (.int k n)
theorem QuY (h:Rel F G s a w) (x:Option Operand):Sat (QoN x:M Unit (Option Int)) s fun l s'=>s'=s/\QJn l (x.map a.eval):=by
 cases x with
 |none=>exact Sat.pure ⟨rfl, .inl ⟨rfl,rfl⟩⟩
 |some x=>
  unfold QoN
  refine Sat.bind (XM h x) ?_
  rintro c s' ⟨e,hc⟩
  rw[e]
  refine Sat.bind (Sat.ofO (Φ:=fun n s2=>s2=s/\yj c=some n) (fun v e=>⟨rfl,e⟩)) ?_
  rintro n s2 ⟨e2,hn⟩
  rw[e2]
  obtain⟨k,hk⟩:=QcX hn hc
  exact Sat.pure ⟨rfl, .inr ⟨n,k,rfl,by simp[hk]⟩⟩
theorem QvF {b:Bool}{lo hi:Option Int}{lv hv:Option Value}(hlo:QJn lo lv) (hhi:QJn hi hv) {len cap:Nat}(h0:0<=lo.getD 0) (h1:lo.getD 0<=hi.getD len) (h2:hi.getD len<=(len:Int)) (hlc:len<=cap):
 (Instr.sliceBounds b len cap lv hv none).run P w= .ok ((lo.getD 0).toNat,(hi.getD (len:Int)).toNat,cap) w:=by
 have hh:(match hv with|some v=>Instr.sliceBound v cap (if b then .sliceAcap else .sliceAlen)|none=>pure len).run P w= .ok (hi.getD (len:Int)).toNat w:=by
  rcases hhi with⟨rfl,rfl⟩|⟨n,k,rfl,rfl⟩
  ·simp
  ·simp only[Option.getD_some]at h1 h2⊢
   exact run_sliceBound (P:=P) w k n cap _ (by omega) (by omega)
 rcases hhi with⟨rfl,rfl⟩|⟨n,k,rfl,rfl⟩
 ·rcases hlo with⟨rfl,rfl⟩|⟨m,k2,rfl,rfl⟩
  ·simp[Instr.sliceBounds]
  ·simp only[Option.getD_none,Option.getD_some]at h0 h1
   have:=run_sliceBound (P:=P) w k2 m len .sliceB h0 h1
   simp[Instr.sliceBounds,this]
 ·simp only[Option.getD_some]at h1 h2 hh
  rcases hlo with⟨rfl,rfl⟩|⟨m,k2,rfl,rfl⟩
  ·simp[Instr.sliceBounds,hh]
  ·simp only[Option.getD_some]at h0 h1
   have:=run_sliceBound (P:=P) w k2 m n.toNat .sliceB h0 (by omega)
   simp[Instr.sliceBounds,hh,this]
theorem QI0 (he:XZ P E) {T:TypeId}{x:Operand}{lo hi:Option Operand}(ho:o.op= .slice T x lo hi none) (h:Rel F G s a w):Sat (execOp E D nk o:M Unit Unit) s (fun(_:Unit) (s':St)=>QI P F o a w s'):=by
 simp only[execOp,ho,XQ,QQ4,QRn]
 split
 ·exact Sat.fail
 rename_i hd
 have hd:=Jg hd
 refine Sat.bind (XM h x) ?_
 rintro c s1 ⟨rfl,hc⟩
 refine Sat.bind (QuY h lo) ?_
 rintro lv s2 ⟨rfl,hlo⟩
 refine Sat.bind (QuY h hi) ?_
 rintro hv s3 ⟨rfl,hhi⟩
 unfold Qsm
 split
 ·rename_i sv
  have hcv:=Qfk hc
  refine Sat.bind (Km he) ?_
  rintro TT s4 ⟨rfl,rfl,hT⟩
  dsimp only
  split
  ·rename_i hstr
   refine Sat.bind (Sat.chk (Φ:=fun _ s'=>s'=s4/\0<=lv.getD 0/\lv.getD 0<=hv.getD (ByteArray.size sv)/\hv.getD (ByteArray.size sv)<=(ByteArray.size sv:Int)) (fun e=>⟨rfl,by simpa using e⟩)) ?_
   rintro _ s5 ⟨rfl,h0,h1,h2⟩
   refine(Zk h hd Qse).mono fun _ s' hr=>QI.value (v:= .string (ByteArray.extract sv (lv.getD 0).toNat (hv.getD (ByteArray.size sv)).toNat)) (w':=w) ?_ hr
   have hb:=QvF (P:=P) (w:=w) (b:=false) hlo hhi h0 h1 h2 (QY2 _)
   simp[Go.execOp,ho,Instr.sliceAt,run_underlying (hT.str hstr),Instr.slice,hcv,hb]
  ·exact Sat.fail
 ·rename_i v _
  have hvr:=QyX hc
  refine Sat.bind (j9 he) ?_
  rintro TE s4 ⟨rfl,e,hund,hTE⟩
  refine Sat.bind (Qrd h hvr (ts:=TE.ts)) ?_
  rintro n s5 ⟨rfl,xs,bl,ad,cc,hrep,hlen,hu,hnc,hnone,hro,hvw⟩
  dsimp only
  refine Sat.bind (Sat.chk (Φ:=fun _ s'=>s'=s5/\0<=lv.getD 0/\lv.getD 0<=hv.getD (n:Int)/\hv.getD (n:Int)<=(n:Int)) (fun e=>⟨rfl,by simpa using e⟩)) ?_
  rintro _ s6 ⟨rfl,h0,h1,h2⟩
  obtain⟨ti,z,g1,g2,_⟩:=hTE.info
  have hb:=QvF (P:=P) (w:=w) (b:=true) hlo hhi h0 h1 h2 hnc
  have hrun:(Go.execOp a.eval o).run P w= .ok (.value (.slice (Qee ad cc (lv.getD 0).toNat TE.ts.len) ((hv.getD (n:Int)).toNat - (lv.getD 0).toNat) (cc - (lv.getD 0).toNat))) w:=by
   have hsub:(if cc=(lv.getD 0).toNat then ad else ad.map (·.add ((lv.getD 0).toNat*ti.size)))=Qee ad cc (lv.getD 0).toNat TE.ts.len:=by
    unfold Qee
    rw[g2]
    cases ad with
    |none=>simp
    |some q=>simp only[Option.map_some];split<;>rfl
   simp only[Go.execOp,ho,Instr.sliceAt,Sem.run_bind,run_underlying hund,Result.andThen_ok,Instr.slice,hu,hb,sizeOf,typeInfo,run_program,g1,Sem.run_map,Sem.run_pure,Option.map_none,hsub]
  rw[hu]at hrep hvr
  split
  ·rename_i y _
   obtain⟨rfl,hroy⟩:=hro y rfl
   refine Sat.bind (Sat.ofO (Φ:=fun z s'=>s'=s6/\KX ⟨.sl TE.ts,xs⟩ (lv.getD 0) (hv.getD (n:Int))=some z) (fun z e=>⟨rfl,e⟩)) ?_
   rintro z s7 ⟨rfl,hz⟩
   have hsv:vI (.sl TE.ts) (.slice ad n cc) (lv.getD 0) (hv.getD (n:Int))=some (.sl TE.ts, .slice (Qee ad cc (lv.getD 0).toNat TE.ts.len) ((hv.getD (n:Int)).toNat - (lv.getD 0).toNat) (cc - (lv.getD 0).toNat)):=by
    simp only[vI];rw[if_pos ⟨h0,h1,h2⟩]
   obtain⟨_,b',k1,k2⟩:=QjT (x:=⟨.sl TE.ts,xs⟩) (r:=some (lv.getD 0,hv.getD (n:Int))) hrep hz hsv
   exact(Zk h hd (zl (v:= .ro z) ⟨b',k1,fun c hc=>hroy c (k2 c hc)⟩)).mono fun _ s' hr=>QI.value hrun hr
  ·rename_i p _
   split
   ·rename_i hpr
    have hp:=hvw p rfl
    rw[hu]at hp
    have hph:G.PH {p with rng:=some (lv.getD 0,hv.getD (n:Int))}=some (.sl TE.ts, .slice (Qee ad cc (lv.getD 0).toNat TE.ts.len) ((hv.getD (n:Int)).toNat - (lv.getD 0).toNat) (cc - (lv.getD 0).toNat)):=by
     unfold Gh.PH at hp⊢
     rw[hpr]at hp
     simp only at hp⊢
     have:G.base {p with rng:=some (lv.getD 0,hv.getD (n:Int))}=G.base p:=rfl
     rw[this,hp]
     simp only[QQ0,vI];rw[if_pos ⟨h0,h1,h2⟩]
    exact(Zk h hd (zl (v:= .vw {p with rng:=some (lv.getD 0,hv.getD (n:Int))}) ⟨_,hph,rfl⟩)).mono fun _ s' hr=>QI.value hrun hr
   ·exact Sat.fail
  ·have hu0:(Value.slice ad n cc)= .slice none 0 0:=hvr
   cases hu0
   have e1:(lv.getD 0).toNat=0:=by omega
   have e2:(hv.getD ((0:Nat):Int)).toNat=0:=by omega
   rw[e1,e2]at hrun
   exact(Zk h hd (zl (v:= .nilS) (u:= .slice none 0 0) rfl)).mono fun _ s' hr=>QI.value hrun hr
  ·exact Sat.fail
 ·exact Sat.fail
end
theorem Cells.same {w w':World}(hc:∀a,w'.cell? a=w.cell? a) {a:Addr}{off:Nat}{us:List Value}(h:Cells w a off us):Cells w' a off us:=fun j u hj=>by rw[hc];exact h j u hj
mutual
theorem Rep.same {w w':World}(hc:∀a,w'.cell? a=w.cell? a):(t:Ty)->(v:Val t)->(u:Value)->(bl:List Nat)->Rep w t v u bl->Rep w' t v u bl
 | .int _,_,_,_,h=>h
 | .bool,_,_,_,h=>h
 | .str,_,_,_,h=>h
 | .sl ts,xs,u,bl,h=>by
   obtain⟨ad,cap,hu,hcap,h⟩:=h
   refine⟨ad,cap,hu,hcap, ?_⟩
   rcases h with h|⟨a,bls,ha,hb,hl,hcc⟩
   ·exact .inl h
   ·refine .inr ⟨a,bls,ha,hb,hl,fun i x b hx hbb=> ?_⟩
    obtain⟨us,h1,h2⟩:=hcc i x b hx hbb
    exact⟨us,h1.same hc,XF.same hc ts x us b h2⟩
theorem XF.same {w w':World}(hc:∀a,w'.cell? a=w.cell? a):(ts:Tys)->(x:Qm ts)->(us:List Value)->(bl:List Nat)->XF w ts x us bl->XF w' ts x us bl
 | .nil,_,_,_,h=>h
 | .cons t ts,x,us,bl,h=>by
   obtain⟨u,us',b1,b2,hcs,hb,h1,h2⟩:=h
   exact⟨u,us',b1,b2,hcs,hb,Rep.same hc t _ u b1 h1,XF.same hc ts _ us' b2 h2⟩
end
theorem foldl_push:(l:List Int)->(r:ByteArray)->l.foldl (fun r n=>r.push (UInt8.ofNat n.toNat)) r=⟨r.data++(l.map fun n=>n.toNat.toUInt8).toArray⟩
 | [],r=>by simp
 |n::l,r=>by
  simp only[List.foldl_cons,QY24]
  rw[foldl_push l]
  simp[ByteArray.push]
theorem QBz {w:World}:(xs:List (Qm u8s))->(cs:List Value)->(bls:List (List Nat))->Xq (XF w u8s) xs cs bls->cs=(show List Int from xs).map (Value.int .u8)
 | [],_,_,h=>h.1
 |x::xs,cs,bls,h=>by
  obtain⟨us,cs',b,bls',rfl,rfl,hu,hq,hh⟩:=h
  obtain⟨u,us',b1,b2,e1,e2,h1,h2⟩:=hq
  have h2:us'=[]:=h2.1
  have h1:u= .int .u8 (show Int from x):=h1.1
  rw[e1,h2,h1,QBz xs cs' bls' hh]
  rfl
section
variable {P:Program}{E:Env}{D:Xz E}{nk:Fx}{F:Fix}{G:Gh}{s:St}{a:Act}{w:World}{o:Oper}
theorem QHZ {w':World}{g cap:Nat}{e:TypeId}{fr:Nat×Nat}(sv:ByteArray) (hnew:w'.heap[g]? =some (.cells (bytesRow sv cap) e fr)) (hcap:sv.size<=cap):Rep w' (.sl u8s) (ofBytes sv) (.slice (some ⟨g,0,none⟩) sv.size cap) [g]:=by
 have hlen:(vl (ts:=u8s) (ofBytes sv)).length=sv.size:=by
  show(List.map (fun b:UInt8=>(b.toNat:Int)) sv.data.toList).length=sv.data.size
  simp
 have hnil:(List.replicate sv.size ([]:List Nat)).flatten=[]:=by rw[List.flatten_eq_nil_iff];intro l hl';exact(List.mem_replicate.1 hl').2
 refine⟨some ⟨g,0,none⟩,cap,by rw[hlen],⟨by rw[hlen];exact hcap,fun e=>by cases e⟩, .inr ⟨⟨g,0,none⟩,List.replicate sv.size [],rfl,by rw[hnil],by rw[hlen];simp,fun i y b hy hb=> ?_⟩⟩
 have hb0:b=[]:=(List.mem_replicate.1 (QY22 hb)).2
 have hil:i<sv.size:=by rw[<-hlen];exact(QRq.1 hy).1
 have hil':i<sv.data.size:=hil
 have hyb:((sv.data[i]'hil').toNat:Int)=(show Int from y):=by
  have hy:(List.map (fun b:UInt8=>(b.toNat:Int)) sv.data.toList)[i]? =some (show Int from y):=hy
  rw[List.getElem?_map,QRp (by simpa using hil')]at hy
  have hy2:=QY10 hy
  simpa using hy2
 refine⟨[.int .u8 (show Int from y)],fun j u hj=> ?_, ?_⟩
 ·cases j with
  |succ j=>simp at hj
  |zero=>
   simp at hj;subst hj
   rw[add_plain]
   simp only[World.cell?,hnew,Option.isSome_none,QRw,if_false]
   show(bytesRow sv cap)[0+(i*1+0)]? =_
   rw[show 0+(i*1+0)=i by omega]
   unfold bytesRow
   rw[Array.getElem?_append_left (by simpa using hil'),Array.getElem?_map,Array.getElem?_eq_getElem hil']
   simp[hyb]
 ·rw[hb0];exact⟨_,_,[],[],rfl,rfl,⟨rfl,rfl⟩,rfl,rfl⟩
theorem QtR {e:TypeId}{i:TI}(h:TyOk P e i) (hi:i.QCb=true):P.underlying e=some (.int .u8):=by
 refine h.int .u8 ?_
 unfold TI.QCb at hi
 unfold TI.Qlr
 split at hi
 ·rename_i h1 h2;rw[h1,h2]
 ·cases hi
theorem QGr (he:XZ P E) {src dst:TypeId}{x:Operand}(ho:o.op= .convert src dst x) (h:Rel F G s a w):Sat (execOp E D nk o:M Unit Unit) s (fun(_:Unit) (s':St)=>QI P F o a w s'):=by
 simp only[execOp,ho,XQ,QQ4,QRn]
 split
 ·exact Sat.fail
 rename_i hd
 have hd:=Jg hd
 refine Sat.bind (XM h x) ?_
 rintro c s1 ⟨rfl,hc⟩
 unfold Qvd
 refine Sat.bind (Km he) ?_
 rintro TT s2 ⟨rfl,rfl,hT⟩
 refine Sat.bind (Km he) ?_
 rintro SS s3 ⟨rfl,rfl,hS⟩
 obtain⟨sd,hsd,_⟩:=hS.und
 split
 ·rename_i k n
  have hv:=zL hc
  refine Sat.bind (Sat.ofO (Φ:=fun k' s2=>s2=s3/\(E.ty dst).Qlr =some k') (fun v e=>⟨rfl,e⟩)) ?_
  rintro k' s4 ⟨rfl,hk⟩
  have hu:=hT.int k' hk
  refine(Zk h hd ZJ).mono fun _ s' hr=>QI.value (v:= .int k' (k'.wrap n)) (w':=w) ?_ hr
  simp[Go.execOp,ho,Go.convert,run_underlying hsd,run_underlying hu,hv,Conv.intToInt]
 ·rename_i sv
  have hv:=Qfk hc
  split
  ·rename_i hstr
   have hu:=hT.str hstr
   refine(Zk h hd hc).mono fun _ s' hr=>QI.value (v:=a.eval x) (w':=w) ?_ hr
   simp[Go.execOp,ho,Go.convert,run_underlying hsd,run_underlying hu,hv]
  ·refine Sat.bind (j9 he) ?_
   rintro TE s4 ⟨rfl,e,hund,hTE⟩
   split
   ·rename_i hcond
    simp only[QQ5]at hcond
    have hrun:=run_bytes_of_string (P:=P) w src dst e sv (hS.str hcond.1) hund (QtR hTE hcond.2)
    have hcap:=grownCap_ge w sv.size 0 e
    generalize hW:(w.drew.alloc (.cells (bytesRow sv (grownCap w sv.size 0 e)) e ((bytesRow sv (grownCap w sv.size 0 e)).size,(bytesRow sv (grownCap w sv.size 0 e)).size+1)))=w' at hrun
    have hold:∀b,b<w.heap.size->Q5 w w' b:=fun b hb=>by rw[<-hW];exact heap_alloc_old w.drew _ b hb
    have hnew:w'.heap[w.heap.size]? =some (.cells (bytesRow sv (grownCap w sv.size 0 e)) e ((bytesRow sv (grownCap w sv.size 0 e)).size,(bytesRow sv (grownCap w sv.size 0 e)).size+1)):=by rw[<-hW];exact heap_alloc_new w.drew _
    have hsz:w'.heap.size=w.heap.size+1:=by rw[<-hW];exact Array.size_push ..
    have hr1:Rel F G s4 a w':=h.frame (fun b hb=>hold b (h.lt b hb)) ⟨by rw[<-hW];rfl,by rw[<-hW];rfl,by rw[<-hW];rfl,by omega,fun k hk _=>hold k hk⟩
    have hfree:G.ow w.heap.size= .free:=QY34 fun hn=>Nat.lt_irrefl _ (h.lt _ hn)
    obtain⟨r1,r2⟩:=hr1.QjV (L:=[w.heap.size]) (fun b hb=>by
     have:b=w.heap.size:=by simpa using hb
     subst this
     exact⟨hfree,by omega,fun hlt=>by have:=h.grow.size;omega⟩)
    have hrep:=QHZ (w':=w') sv hnew hcap
    have hcr:QK (G.freeze [w.heap.size]) w' (one (.ro ⟨.sl u8s,ofBytes sv⟩)) (.slice (some ⟨w.heap.size,0,none⟩) sv.size (grownCap w sv.size 0 e)):=zl ⟨_,hrep,fun b hb=>Qhg hb⟩
    refine(Zk r1 hd hcr).mono fun _ s' hr=>QI.value ?_ hr
    simp only[Go.execOp,ho,hv,Sem.run_bind,hrun,Result.andThen_ok];rfl
   ·exact Sat.fail
 ·rename_i v _ _
  have hvr:=QyX hc
  split
  ·rename_i hstr
   have hu:=hT.str hstr
   refine Sat.bind (j9 he) ?_
   rintro TE s4 ⟨rfl,e,hund,hTE⟩
   split
   ·rename_i hu8
    have he8:=QtR hTE hu8
    refine Sat.bind (Qlj h (.sl u8s) v _ hvr) ?_
    rintro l s5 ⟨rfl,bl,hrep⟩
    refine(Zk h hd Qse).mono fun _ s' hr=>QI.value (v:= .string (QM (show List Int from l))) (w':=w) ?_ hr
    obtain⟨ad,cap,hav,hcap,hn,hcs⟩:=hrep.cells
    have hconv:=run_convert_bytes_string (P:=P) w src dst e ad (vl (ts:=u8s) l).length cap hund he8 hu
    have hrun:(Conv.bytesToString (.slice ad (vl (ts:=u8s) l).length cap)).run P w= .ok (.string (QM (show List Int from l))) w:=by
     rcases hcs with⟨h1,_⟩|⟨a',bls,cs,e1,e2,e3,e4⟩
     ·have h1:l=[]:=h1
      subst h1
      cases ad with
      |none=>rfl
      |some a'=>
       have:=run_bytesToString (P:=P) w a' 0 cap [] (by simp[loadCells,loadCellsFrom])
       exact this
     ·subst e1
      have hcsl:=QBz l cs bls e3
      have hl:(loadCells a' (vl (ts:=u8s) l).length).run P w= .ok ((show List Int from l).map (Value.int .u8)).toArray w:=by
       have:=run_loadCells_list (P:=P) w a' cs (fun j v hj=>by have:=e4 j v hj;rwa[QRo]at this)
       rw[e3.len.1]at this
       rw[show(vl (ts:=u8s) l).length*Tys.len u8s=(vl (ts:=u8s) l).length by show _*1=_;omega]at this
       rw[this,hcsl]
      rw[run_bytesToString w a' _ cap _ hl,foldl_push]
      simp[QM]
    simp only[Go.execOp,ho,Sem.run_bind,hav,hconv,hrun,Result.andThen_ok];rfl
   ·exact Sat.fail
  ·refine Sat.bind (j9 he) ?_
   rintro TE s4 ⟨rfl,e,hund,hTE⟩
   split
   ·rename_i hcond
    simp only[QQ5,beq_iff_eq]at hcond
    obtain⟨hu8,rfl⟩:=hcond
    have he8:=QtR hTE hu8
    split
    ·rename_i p _ _
     obtain⟨t,hp,_⟩:=hvr
     refine Sat.bind (Qz6 h hp) ?_
     rintro⟨y,dp,tag⟩ s5 ⟨hk,G1,bl,l1,r1,hh,hyt,_,_,_⟩
     refine Sat.bind (Sat.ofO (Φ:=fun n s6=>s6=s5/\QmT y=some n) (fun v e=>⟨rfl,e⟩)) ?_
     rintro n s6 ⟨rfl,hn⟩
     refine Sat.bind (Sat.chk (Φ:=fun _ s'=>s'=s6/\0<n) (fun e=>⟨rfl,by simpa using e⟩)) ?_
     rintro _ s7 ⟨rfl,hpos⟩
     obtain⟨yt,yv⟩:=y
     cases yt with
     |sl ts=>
      have hown:Own w (fun b=>G1.ow b= .ro) dp (.sl ts) yv (a.eval x) bl:=hh.own
      have hfree:∀b∈bl,G1.ow b= .free/\b<w.heap.size/\(b<F.w0.heap.size->F.X b):=hh.free
      obtain⟨b',hrep,hb'⟩:=Own.rep _ _ _ _ hown
      simp only[QmT,Option.some.injEq]at hn
      rcases hown with⟨h1,_⟩|⟨g,off,cap,cur,e',bls,hav,hg,_,_,_,hbl,_⟩
      ·have h1:yv=[]:=h1
       subst h1
       simp at hn;omega
      ·have hshape:w.shape? g=some (e',cur.size):=by simp[World.shape?,hg]
       have hrun:(Go.execOp a.eval o).run P w= .ok (.value (a.eval x)) (w.freeze ⟨g,cur.size,none⟩ 1):=by
        simp[Go.execOp,ho,Go.convert,run_underlying hund,run_underlying he8,hav,markStringish,hshape]
       have hother:∀b,b≠g->Q5 w (w.freeze ⟨g,cur.size,none⟩ 1) b:=fun b hb=>by
        unfold Q5 World.freeze
        rw[if_neg (by decide)]
        simp[Array.getElem?_modify,Ne.symm hb]
       have hcell:∀ad,(w.freeze ⟨g,cur.size,none⟩ 1).cell? ad=w.cell? ad:=fun ad=>by
        by_cases hb:ad.block=g
        ·unfold World.cell? World.freeze
         rw[if_neg (by decide)]
         simp only[Array.getElem?_modify,hb,if_true,hg,Option.map_some]
        ·exact Q5.cell (hother _ hb)
       have hgm:g∈bl:=by rw[hbl];simp
       have hr2:Rel F G1 s7 a (w.freeze ⟨g,cur.size,none⟩ 1):=r1.frame (fun b hb=>hother b (fun e=>hb (by rw[e];exact(hfree g hgm).1))) ⟨rfl,rfl,rfl,by simp[World.freeze],fun k hk hx=>hother k (fun e=>by
        subst e
        apply hx
        by_cases hlt:k<F.w0.heap.size
        ·exact .inr ((hfree k hgm).2.2 hlt)
        ·exact .inl (by omega))⟩
       obtain⟨f1,f2⟩:=hr2.QjV (L:=bl) (fun b hb=>⟨(hfree b hb).1,by simp[World.freeze];exact(hfree b hb).2.1,(hfree b hb).2.2⟩)
       have hcr:QK (G1.freeze bl) (w.freeze ⟨g,cur.size,none⟩ 1) (one (.ro ⟨.sl ts,yv⟩)) (a.eval x):=zl ⟨b',Rep.same hcell _ _ _ _ hrep,fun c hc=>by
        rcases hb' c hc with h|h
        ·exact Qhg h
        ·exact f2.ro c h⟩
       exact(Zk f1 hd hcr).mono fun _ s' hr=>QI.value hrun hr
     |int k=>simp[QmT]at hn
     |bool=>simp[QmT]at hn
     |str=>
      have:=hh.sl
      cases this
    ·exact Sat.fail
   ·exact Sat.fail
 ·exact Sat.fail
end
def takes (m:Mode) (t:Ty):Bool:=QN t&& !m.QX
def CIn (w:World) (R:Nat->Prop) (m:Mode) (t:Ty) (x:TV) (u:Value) (bl:List Nat):Prop:=
 x.t=t/\if takes m t then Own w R true x.t x.v u bl else bl=[]/\∃b',Rep w x.t x.v u b'/\∀c∈b',R c
def QdV (w:World) (R:Nat->Prop):List (Mode×Ty)->List TV->List Value->List (List Nat)->Prop
 | [],xs,us,bls=>xs=[]/\us=[]/\bls=[]
 |(m,t)::l,xs,us,bls=>∃x xs' u us' bl bls',xs=x::xs'/\us=u::us'/\bls=bl::bls'/\CIn w R m t x u bl/\QdV w R l xs' us' bls'
def ZB (w:World) (b:Nat) (us:List Value):Prop:=∃cur e,w.heap[b]? =some (.cells cur e (0,0))/\cur.toList=us
def QuM (w:World) (R:Nat->Prop):List (List (Mode×Ty))->List TV->List Nat->List (List Nat)->Prop
 | [],xs,bs,bls=>xs=[]/\bs=[]/\bls=[]
 |cs::l,xs,bs,bls=>∃x1 x2 b bs' l1 l2 us,xs=x1++x2/\bs=b::bs'/\bls=l1++l2/\cs≠[]/\ZB w b us/\QdV w R cs x1 us l1/\QuM w R l x2 bs' l2
def PIn (w:World) (R:Nat->Prop) (p:PSig) (xs:List TV) (v:Value) (bs:List Nat) (bls:List (List Nat)):Prop:=match p with
 | .val a cs=>bs=[]/\∃us,(if a then v= .agg us.toArray else us=[v])/\QdV w R cs xs us bls
 | .ptr cs=>cs≠[]/\∃b us,bs=[b]/\v=JH b 0/\ZB w b us/\QdV w R cs xs us bls
 | .fn g caps=>v= .func (.func g) #[] (bs.map fun b=>JH b 0).toArray/\QuM w R caps xs bs bls
def QcQ (w:World) (R:Nat->Prop):List PSig->List TV->List Value->List Nat->List (List Nat)->Prop
 | [],xs,vs,bs,bls=>xs=[]/\vs=[]/\bs=[]/\bls=[]
 |p::ps,xs,vs,bs,bls=>∃x1 x2 v vs' b1 b2 l1 l2,xs=x1++x2/\vs=v::vs'/\bs=b1++b2/\bls=l1++l2/\PIn w R p x1 v b1 l1/\QcQ w R ps x2 vs' b2 l2
def Mode.QQ (m:Mode) (Q:Nat->Prop):Nat->Prop:=match m with| .top=>Q|_=>fun _=>False
def V7 (w:World) (Q:Nat->Prop) (m:Mode) (t:Ty) (x:TV) (u:Value) (bl:List Nat):Prop:=
 x.t=t/\if takes m t then Own w (m.QQ Q) m.dp x.t x.v u bl else bl=[]/\∃b',Rep w x.t x.v u b'/\∀c∈b',Q c
def Xc (w:World) (Q:Nat->Prop):List (Mode×Ty)->List TV->List Value->List (List Nat)->Prop
 | [],xs,us,bls=>xs=[]/\us=[]/\bls=[]
 |(.junk,_)::l,xs,us,bls=>∃u us',us=u::us'/\u.oneCell'=true/\Xc w Q l xs us' bls
 |(m,t)::l,xs,us,bls=>∃x xs' u us' bl bls',xs=x::xs'/\us=u::us'/\bls=bl::bls'/\V7 w Q m t x u bl/\Xc w Q l xs' us' bls'
def QMB (w:World) (Q:Nat->Prop) (p:PSig) (xs:List TV) (v:Value) (bs:List Nat) (bls:List (List Nat)):Prop:=match p with
 | .val a cs=>bs=[]/\∃us,(if a then v= .agg us.toArray else us=[v])/\Xc w Q cs xs us bls
 | .ptr cs=>cs≠[]/\∃b us,bs=[b]/\v=JH b 0/\ZB w b us/\Xc w Q cs xs us bls
 | .fn _ _=>False
def Kt (w:World) (Q:Nat->Prop):List PSig->List TV->List Value->List Nat->List (List Nat)->Prop
 | [],xs,vs,bs,bls=>xs=[]/\vs=[]/\bs=[]/\bls=[]
 |p::ps,xs,vs,bs,bls=>∃x1 x2 v vs' b1 b2 l1 l2,xs=x1++x2/\vs=v::vs'/\bs=b1++b2/\bls=l1++l2/\QMB w Q p x1 v b1 l1/\Kt w Q ps x2 vs' b2 l2
def QkB (w:World):List (Mode×Ty)->List Value->List TV->List (List Nat)->Prop
 | [],us,xs,bls=>us=[]/\xs=[]/\bls=[]
 |(.mut,t)::l,us,xs,bls=>∃u us' x xs' bl bls',us=u::us'/\xs=x::xs'/\bls=bl::bls'/\x.t=t/\QN t=true/\Own w (fun _=>False) true x.t x.v u bl/\QkB w l us' xs' bls'
 |_::l,us,xs,bls=>∃u us',us=u::us'/\QkB w l us' xs bls
def xp (w:World):List (Mode×Ty)->List Value->List Value->List TV->List (List Nat)->Prop
 | [],us,vs,xs,bls=>us=[]/\vs=[]/\xs=[]/\bls=[]
 |(.mut,t)::l,us,vs,xs,bls=>∃u us' v vs' x xs' bl bls',us=u::us'/\vs=v::vs'/\xs=x::xs'/\bls=bl::bls'/\x.t=t/\(if QN t then Own w (fun _=>False) true x.t x.v v bl else bl=[]/\Rep w x.t x.v v [])/\xp w l us' vs' xs' bls'
 |(.ro,t)::l,us,vs,xs,bls=>∃u us' vs',us=u::us'/\vs=u::vs'/\xp w l us' vs' xs bls
 |_::l,us,vs,xs,bls=>∃u us' v vs',us=u::us'/\vs=v::vs'/\v.oneCell'=true/\xp w l us' vs' xs bls
def QKw (w w':World) (p:PSig) (v:Value) (xs:List TV) (bls:List (List Nat)):Prop:=match p with
 | .val a cs=>∃us,(if a then v= .agg us.toArray else us=[v])/\QkB w' cs us xs bls
 | .ptr cs=>∃b us vs,v=JH b 0/\ZB w b us/\ZB w' b vs/\xp w' cs us vs xs bls
 | .fn g caps=>xs=[]/\bls=[]/\∀bs,v= .func (.func g) #[] (List.map (fun b=>JH b 0) bs).toArray->∀b∈bs,∀us,ZB w b us->ZB w' b us
def Qpd (w w':World):List PSig->List Value->List TV->List (List Nat)->Prop
 | [],vs,xs,bls=>vs=[]/\xs=[]/\bls=[]
 |p::ps,vs,xs,bls=>∃v vs' x1 x2 l1 l2,vs=v::vs'/\xs=x1++x2/\bls=l1++l2/\QKw w w' p v x1 l1/\Qpd w w' ps vs' x2 l2
def Qyn:List Value->Value
 | [v]=>v
 |vs=> .tuple vs.toArray
structure FnPost (w w':World) (R:Nat->Prop) (bs O:List Nat) (sg:Sig) (outs:List TV) (vs:List Value) (v:Value):Prop where
 grow:Grow (·∈O) w w'
 ex:∃rx px rvs rbs rbls pbls Q,outs=rx++px/\v=Qyn rvs/\Kt w' Q sg.rs rx rvs rbs rbls/\Qpd w w' sg.ps vs px pbls/\(rbs++rbls.flatten++pbls.flatten).Nodup/\
  (∀b∈rbs++rbls.flatten++pbls.flatten,b<w'.heap.size/\(b∈O\/w.heap.size<=b)/\b∉bs)/\
  (∀b,Q b->b<w'.heap.size/\(R b\/b∈O\/w.heap.size<=b)/\b∉rbs++rbls.flatten++pbls.flatten/\b∉bs)
def Qhk (P:Program) (gg:Glob) (sg:Sig) (f:FuncId) (ins outs:List TV):Prop:=
 ∀(w:World) (R:Nat->Prop) (vs:List Value) (bs:List Nat) (bls:List (List Nat)),gg.gl w->(∀b∈gg.gb,R b)->QcQ w R sg.ps ins vs bs bls->(bs++bls.flatten).Nodup->(∀b∈bs++bls.flatten,b<w.heap.size)->
  (∀b,R b->b<w.heap.size/\b∉bs++bls.flatten)->Calls P f vs.toArray w fun e w'=>∃v,e= .returned v/\FnPost w w' R bs (bs++bls.flatten) sg outs vs v
def jf (P:Program) (E:Env) (D:Xz E):Prop:=∀f ins outs,E.fok f=true->D f ins=some outs->Qhk P E.gg (E.sig f) (E.real f) (unpack _ ins) (unpack _ outs)
def Qit (cs:List (Mode×Ty)):Bool:=cs.all fun x=>(match x.1 with| .junk=>false| .top=>false|_=>true)
def PSig.okP:PSig->Bool
 | .val _ cs=>Qit cs&&cs.all fun x=>QN x.2||x.1.QX
 | .ptr cs=>cs.all fun x=>(match x.1 with| .junk=>false| .top=>false| .own=>QN x.2|_=>true)
 | .fn _ caps=>caps.all fun cs=>cs.all fun x=>x.1.QX
def PSig.okR:PSig->Bool
 | .val _ _=>true
 | .ptr cs=>Qit cs&& !cs.isEmpty&&cs.all fun x=>QN x.2|| !x.1.QX
 | .fn _ _=>false
def Sig.ok (s:Sig):Bool:=s.ps.all PSig.okP&&s.rs.all PSig.okR
def Sig.small (s:Sig):Bool:=Nat.ble s.ps.length 200&&s.ps.all fun p=>(match p with| .fn _ caps=>Nat.ble caps.length 8|_=>true)
structure EnvCode (P:Program) (E:Env):Prop where
 fn:∀f,E.fok f=true->∃fn,P.funcs[E.real f]? =some fn/\(fn.name== "runtime.NumGoroutine")=false/\fn.body=some (E.code f)/\E.res f=fn.results.toList/\E.nt f=fn.ntmps
 sig:∀f,E.fok f=true->(E.sig f).ok=true
 small:∀f,E.fok f=true->(E.sig f).small=true/\(E.sig f).ps.length<=E.nt f
 ext:∀f h,E.fok f=true->E.ext f=some h->∀ins outs,h ins=some outs->Qhk P E.gg (E.sig f) (E.real f) (unpack _ ins) (unpack _ outs)
def qA (G:Gh) (b:Nat):Prop:=G.ow b= .ro\/∃r k,G.ow b= .key (.con r k)
theorem QJY {w:World}{R:Nat->Prop}{it:Item}(h:Own w R it.deep it.x.t it.x.v it.u it.bl) {i:Int}{m:Nat}{t:Ty}{u:Value}(hn:ZW w it i m t u) {y:TV}(hy:Zm it.x i m=some y):
 y.t=t/\∃b',Rep w y.t y.v u b'/\∀c∈b',c∈it.bl\/R c:=by
 obtain⟨⟨xt,xv⟩,deep,iu,bl⟩:=it
 obtain⟨ts,g,off,n,c,e1,e2,h0,h1,hget,hsl,hcell⟩:=hn
 simp only at e1 e2 h
 subst e1;subst e2
 obtain⟨_,_,_,hlen,_⟩:=Qfe h
 have hi:i.toNat<(vl (ts:=ts) xv).length:=by omega
 have hyy:(unpack ts (rdx ts (vl xv) i))[m]? =some y:=hy
 obtain⟨uy,pre,b,post,k1,k2,k3,_⟩:=Own.nest h (Qea (vl xv) i hi) hyy
 rw[hcell]at k1;cases k1
 have ht:=VM _ _ _ _ hyy
 rw[hget]at ht;cases ht
 obtain⟨b',hr,hm⟩:=k3.rep
 exact⟨rfl,b',hr,fun c hc=>(hm c hc).imp (fun h=>by simp only;rw[k2];simp[h]) (fun h=>h)⟩
section
variable {γ:Type}
theorem QLB {F:Fix}{pd:Nat->Nat->Prop}{G:Gh}{s:St}{a:Act}{w:World}(h:RelP F pd G s a w) {p:Pl}{tu:Ty×Value}(hp:G.PH p=some tu):
 Sat (rd p:M γ (TV×Bool)) s fun x s'=>s'=s/\x.1.t=tu.1/\∃b,Rep w x.1.t x.1.v tu.2 b/\∀c∈b,qA G c:=by
 unfold rd
 refine Sat.bind (Kr h hp) ?_
 rintro⟨q,c⟩ s' ⟨e1,e2,e3,e4,e5⟩
 subst e1
 simp only at e2 e3 e4 e5
 obtain⟨t,u'⟩:=tu
 dsimp only
 cases hc:c.st with
 |own x deep tag=>
  rw[e2]at hc
  obtain⟨u,bl,k1,k2,k3,_⟩:=(h.con q.r q.k).own x deep tag hc
  have hi:=h.it _ _ k1
  have htag:∀c,c∈bl\/G.ow c= .ro->qA G c:=fun c hc=>hc.elim (fun hm=> .inr ⟨_,_,(hi.key c hm).1⟩) (fun h=> .inl h)
  have key:∀y,(match q.nest with|none=>some x|some (i,m)=>Zm x i m)=some y->∃ub b,G.base q=some (y.t,ub)/\Rep w y.t y.v ub b/\∀c∈b,qA G c:=by
   intro y hy
   unfold Gh.base
   cases hn:q.nest with
   |none=>
    rw[hn]at hy;cases hy
    obtain⟨b',h1,h2⟩:=Own.rep _ _ _ _ hi.own
    exact⟨u,b',by simp only;rw[<-e3,e2];exact k2,h1,fun c hc=>htag c (h2 c hc)⟩
   |some im=>
    obtain⟨i,m⟩:=im
    rw[hn]at hy
    simp only at hy⊢
    have hb:∃tu',G.base q=some tu':=by
     unfold Gh.PH at e5
     cases hr:q.rng with
     |none=>rw[hr]at e5;exact⟨_,e5⟩
     |some lk=>rw[hr]at e5;simp only[Option.bind_eq_some_iff]at e5;obtain⟨y,e,_⟩:=e5;exact⟨y,e⟩
    obtain⟨⟨t1,u1⟩,hb⟩:=hb
    unfold Gh.base at hb
    rw[hn]at hb
    simp only at hb
    have e4':=e4 (by rw[hn];rfl)
    have hN:=k3 i m t1 u1 (by rw[<-e2,e3,e4'];exact hb)
    obtain⟨ht,b',hr,hm⟩:=QJY hi.own hN hy
    exact⟨u1,b',by rw[ht];exact hb,hr,fun c hc=>htag c (hm c hc)⟩
  have jp:∀y,(match q.nest with|none=>some x|some (i,m)=>Zm x i m)=some y->Sat (do let z<-ofO (Yq y q.rng);pure (z,deep):M γ (TV×Bool)) s' fun x s''=>s''=s'/\x.1.t=t/\∃b,Rep w x.1.t x.1.v u' b/\∀c∈b,qA G c:=by
   intro y hy
   obtain⟨ub,b,hb,hr,hro⟩:=key y hy
   refine Sat.bind (Sat.ofO (Φ:=fun z s''=>s''=s'/\Yq y q.rng=some z) (fun z hz=>⟨rfl,hz⟩)) ?_
   rintro z s'' ⟨e,hz⟩
   have hrp:Jj y.t ub q.rng=some (t,u'):=by
    unfold Gh.PH at e5
    cases hr':q.rng with
    |none=>rw[hr']at e5;simp only[Jj]at e5⊢; rw[<-hb];exact e5
    |some lk=>rw[hr']at e5;simp only[Jj]at e5⊢; rw[hb]at e5;exact e5
   obtain⟨g1,b',g2,g3⟩:=QjT hr hz hrp
   exact Sat.pure ⟨e,g1,b',g2,fun c hc=>hro c (g3 c hc)⟩
  dsimp only
  cases hn:q.nest with
  |none=>
   rw[hn]at jp
   exact Sat.bind (Sat.pure (Φ:=fun y s''=>s''=s'/\y=x) ⟨rfl,rfl⟩) (by rintro y s'' ⟨e,e'⟩;rw[e,e'];exact jp x rfl)
  |some im=>
   rw[hn]at jp
   exact Sat.bind (Sat.ofO (Φ:=fun y s''=>s''=s'/\Zm x im.1 im.2=some y) (fun y hy=>⟨rfl,hy⟩)) (by rintro y s'' ⟨e,e'⟩;rw[e];exact jp y e')
 |_=>exact Sat.fail
theorem QHQ {F:Fix}{pd:Nat->Nat->Prop}{G:Gh}{s:St}{a:Act}{w:World}(h:RelP F pd G s a w) (t:Ty) (c:VC) (u:Value) (hc:VCR G w c u):
 Sat (QdR t c:M γ (Val t)) s fun v s'=>s'=s/\∃b,Rep w t v u b/\(∀c∈b,qA G c)/\((∃y,c= .ro y\/c= .sc y)\/c= .nilS->QX G b):=by
 cases c with
 |sc x=>
  obtain⟨b,h1,h2⟩:=hc
  exact Sat.ofO fun v hv=>by have:=Zt hv;subst this;exact⟨rfl,b,h1,fun c hc=> .inl (h2 c hc),fun _=>h2⟩
 |ro x=>
  obtain⟨b,h1,h2⟩:=hc
  exact Sat.ofO fun v hv=>by have:=Zt hv;subst this;exact⟨rfl,b,h1,fun c hc=> .inl (h2 c hc),fun _=>h2⟩
 |nilS=>
  cases t with
  |sl ts=>exact Sat.pure ⟨rfl,[],⟨none,0,hc,⟨QY2 _,fun _=>rfl⟩, .inl ⟨rfl,rfl⟩⟩,by simp,fun _=>by simp[QX]⟩
  |_=>exact Sat.fail
 |vw p=>
  obtain⟨t',e,_⟩:=hc
  refine Sat.bind (QLB h e) ?_
  rintro⟨x,d⟩ s' ⟨e1,e2,b,hr,htg⟩
  rw[e1]
  exact Sat.ofO fun v hv=>by
   have:=Zt hv
   subst this
   exact⟨rfl,b,hr,htg,fun hh=>by rcases hh with⟨y,hh|hh⟩|hh<;>cases hh⟩
 |bad=>exact Sat.fail
def QjF (F:Fix) (G:Gh) (s:St) (w:World) (t:Ty) (u:Value) (bl ex:List Nat):Back->Prop
 | .no=>u= .slice none 0 0/\bl=[]/\ex=[]
 | .whole r k c tag=>G.H r k c.id=some (t,u)/\(∀p j,tag=some (p,j)->F.T p j=some u)/\(k<(s.gB r).2->∀b,G.GB r (s.gB r).1=some b->w.cell? ⟨b,k,none⟩=some u)/\ex=[]
 | .nest r k c X tag i m=>∃uX,G.H r k c.id=some (X.t,uX)/\(∀p j,tag=some (p,j)->F.T p j=some uX)/\(k<(s.gB r).2->∀b,G.GB r (s.gB r).1=some b->w.cell? ⟨b,k,none⟩=some uX)/\QN X.t=true/\
    ∀(w':World) (x':TV) (bl':List Nat),x'.t=t->Own w' (fun _=>False) true x'.t x'.v u bl'->(∀b∈ex,Q5 w w' b)->bl'.Nodup->(∀b∈bl',b∉ex)->
     ∃z blZ,setAt X i m [x']=some z/\z.t=X.t/\Own w' (fun _=>False) true z.t z.v uX blZ/\List.Nodup blZ/\∀b∈blZ,b∈ex\/b∈bl'
theorem QjF.mono {F:Fix}{G G':Gh}{s s':St}{w:World}{t:Ty}{u:Value}{bl ex:List Nat}{b:Back}(h:QjF F G s w t u bl ex b) (le:G.le G') (hk:Qp s s') (hb:∀r,(s.gB r).2≠0->∃b,G.GB r (s.gB r).1=some b):QjF F G' s' w t u bl ex b:=by
 have hcell:∀r k u',(k<(s.gB r).2->∀b,G.GB r (s.gB r).1=some b->w.cell? ⟨b,k,none⟩=some u')->(k<(s'.gB r).2->∀b,G'.GB r (s'.gB r).1=some b->w.cell? ⟨b,k,none⟩=some u'):=by
  intro r k u' hc hlt b hb'
  rw[hk.gB]at hlt hb'
  obtain⟨b2,hb2⟩:=hb r (by omega)
  rw[le.GB _ _ _ hb2]at hb'
  cases hb'
  exact hc hlt b hb2
 cases b with
 |no=>exact h
 |whole r k c tag=>exact⟨le.H _ _ _ _ h.1,h.2.1,hcell _ _ _ h.2.2.1,h.2.2.2⟩
 |nest r k c X tag i m=>
  obtain⟨uX,h1,h2,h3,h4,h5⟩:=h
  exact⟨uX,le.H _ _ _ _ h1,h2,hcell _ _ _ h3,h4,h5⟩
theorem RelP.boxes {F:Fix}{pd:Nat->Nat->Prop}{G:Gh}{s:St}{a:Act}{w:World}(h:RelP F pd G s a w):∀r,(s.gB r).2≠0->∃b,G.GB r (s.gB r).1=some b:=
 fun r hr=>let⟨b,_,_,h1,_⟩:=(h.box r).live hr;⟨b,h1⟩
theorem RelP.Qy4 {F:Fix}{G:Gh}{s:St}{a:Act}{w:World}(h:Rel F G s a w) {r k:Nat}{x:TV}{deep:Bool}{tag:Option (Nat×Nat)}{u:Value}(hst:(s.gC r k).st= .own x deep tag) (hH:G.H r k (s.gC r k).id=some (x.t,u)):
 k<(s.gB r).2->∀b,G.GB r (s.gB r).1=some b->w.cell? ⟨b,k,none⟩=some u:=by
 intro hk b hb
 obtain⟨b',cur,e,h1,h2,h3,h4,h5⟩:=(h.box r).live (by omega)
 rw[hb]at h1;cases h1
 obtain⟨u',g1,g2,g3,g4⟩:=h5 k (by omega)
 have:=g3 id
 unfold Xe at this
 rw[hst]at this
 simp only at this
 rw[hH]at this;cases this
 simp[World.cell?,h3,g1]
structure ArgP (F:Fix) (G:Gh) (s:St) (a:Act) (w:World) (m:Mode) (t:Ty) (u:Value) (o:Option TV×Back) (s1:St):Prop where
 kept:Qp s s1
 none_:takes m t=false->o.1=none/\s1=s
 rel:∃G' bl ex,G.le G'/\Rel F G' s1 a w/\(takes m t=true->∃x,o.1=some x/\x.t=t/\Own w (fun _=>False) true x.t x.v u bl/\QjF F G' s1 w x.t u bl ex o.2)/\(takes m t=false->bl=[]/\ex=[])/\(bl++ex).Nodup/\
  (∀b∈bl++ex,G'.ow b= .free/\b<w.heap.size/\(b<F.w0.heap.size->F.X b))/\(∀b∈bl++ex,∃r k,G.ow b= .key (.con r k))/\(∀b,G.ow b= .free->G'.ow b= .free)/\(∀b κ,G'.ow b= .key κ->G.ow b= .key κ)/\(∀b r,G.ow b= .key (.box r)->G'.ow b= .key (.box r))
theorem Qmw {G:Gh}{q qk:Nat}{bl:List Nat}{b:Nat}(h:G.ow b= .free):(G.drop q qk bl).ow b= .free:=by
 show(if b∈bl then Ow.free else G.ow b)= .free
 split
 ·rfl
 ·exact h
theorem QpL {G:Gh}{q qk:Nat}{bl:List Nat}{b:Nat}{κ:Key}(h:(G.drop q qk bl).ow b= .key κ):G.ow b= .key κ:=by
 have h:(if b∈bl then Ow.free else G.ow b)= .key κ:=h
 split at h
 ·cases h
 ·exact h
theorem QbC {s:St}{a b:Ty}:Sat (Qgv a b:M γ Unit) s fun _ s'=>s'=s/\a=b:=by
 unfold Qgv
 cases h:Ty.eq? a b with
 |none=>exact Sat.fail
 |some e=>exact Sat.pure ⟨rfl,e.down⟩
theorem QJ4 {F:Fix}{G:Gh}{s:St}{a:Act}{w:World}(h:Rel F G s a w) {m:Mode}{t:Ty}{v:VC}{u:Value}(hv:VCR G w v u):Sat (QCN m t v:M γ (Option TV×Back)) s fun o s'=>ArgP F G s a w m t u o s':=by
 have hno:takes m t=false->ArgP F G s a w m t u (none, .no) s:=fun ht=>⟨Qp.refl s,fun _=>⟨rfl,rfl⟩,G,[],[],Gh.le.refl G,h,(fun e=>by rw[ht]at e;cases e),fun _=>⟨rfl,rfl⟩,QY5,by simp,by simp,fun _ hb=>hb,fun _ _ hb=>hb,fun _ _ hb=>hb⟩
 unfold QCN
 by_cases hro:m= .ro
 ·subst hro
  exact Sat.pure (hno (by simp[takes,Mode.QX]))
 ·have hmr:m.QX=false:=by cases m<;>simp_all[Mode.QX]
  have key:Sat (Qrl m t v:M γ (Option TV×Back)) s fun o s'=>ArgP F G s a w m t u o s':=by
   unfold Qrl
   by_cases hsl:QN t=true
   ·rw[if_pos hsl]
    have htk:takes m t=true:=by simp[takes,hsl,hmr]
    cases v with
    |nilS=>
     dsimp only
     cases t with
     |sl ts=>exact Sat.pure ⟨Qp.refl s,fun e=>(by rw[htk]at e;cases e),G,[],[],Gh.le.refl G,h,fun _=>⟨_,rfl,rfl, .inl ⟨rfl,hv,rfl⟩,hv,rfl,rfl⟩,fun e=>(by rw[htk]at e;cases e),QY5,by simp,by simp,fun _ hb=>hb,fun _ _ hb=>hb,fun _ _ hb=>hb⟩
     |_=>exact Sat.fail
    |vw p=>
     obtain⟨t',hp,_⟩:=hv
     refine Sat.bind (Kr h hp) ?_
     rintro⟨q,c⟩ s' ⟨e1,e2,e3,e4,e5⟩
     subst e1
     simp only at e2 e3 e4 e5
     dsimp only
     split
     ·rename_i x tag hst hn hr
      have hst':=hst
      rw[e2]at hst'
      obtain⟨u2,bl,k1,k2,k3,k4⟩:=(h.con q.r q.k).own x true tag hst'
      have hki:=(h.it _ _ k1).key
      have hb:G.PH q=some (x.t,u2):=by unfold Gh.PH Gh.base;rw[hr,hn];simp only;rw[<-e3,e2];exact k2
      rw[hb]at e5;cases e5
      obtain⟨r1,r2,r3⟩:=h.take hst' k1
      have hcell:=h.Qy4 hst' k2
      refine Sat.bind (QbC (s:=s') (a:=x.t) (b:=t)) ?_
      rintro _ s1 ⟨rfl,hxt⟩
      refine Sat.bind (Sat.wC (Φ:=fun _ s2=>s2=s1.sC q.r q.k (mkC c.id c.nv .dead)) rfl) ?_
      rintro _ s2 rfl
      rw[<-e2]at r1
      refine Sat.pure ⟨Qp.sC _ _ _ _,fun e=>(by rw[htk]at e;cases e),_,bl,[],r3,r1,fun _=>⟨x,rfl,hxt,Own.yA _ _ _ _ r2.own, ?_⟩,fun e=>(by rw[htk]at e;cases e),by simpa using r2.nodup,fun b hb=>r2.free b (by simpa using hb),fun b hb=>⟨_,_,(hki b (by simpa using hb)).1⟩,fun b hb=>Qmw hb,fun b κ hb=>QpL hb,fun b r hb=> ?_⟩
      ·exact⟨by rw[e2];exact k2,k4,hcell,rfl⟩
      ·show(if b∈bl then Ow.free else G.ow b)=_
       rw[if_neg (fun hm=>by rw[(hki b hm).1]at hb;cases hb)];exact hb
     ·rename_i x tag i j hst hn hr
      split
      ·refine Sat.bind (Sat.ofO (Φ:=fun y s2=>s2=s'/\Zm x i j=some y) (fun y e=>⟨rfl,e⟩)) ?_
       rintro y s2 ⟨rfl,hy⟩
       have hst':=hst
       rw[e2]at hst'
       obtain⟨uX,blX,k1,k2,k3,k4⟩:=(h.con q.r q.k).own x true tag hst'
       have hitr:=h.it _ _ k1
       have hki:=hitr.key
       have hcell:=h.Qy4 hst' k2
       have hN:ZW w ⟨x,true,uX,blX⟩ i j t' u:=by
        have hb:G.HN q.r q.k q.id q.nv i j=some (t',u):=by unfold Gh.PH Gh.base at e5;rw[hr,hn]at e5;exact e5
        have e4':=e4 (by rw[hn];rfl)
        exact k3 i j t' u (by rw[<-e2,e3,e4'];exact hb)
       obtain⟨r1,r2,r3⟩:=h.take hst' k1
       obtain⟨xt,xv⟩:=x
       obtain⟨xs,g0,o0,n0,c0,a1,a2,a3,a4,a5,a6,a7⟩:=hN
       simp only at a1 a2
       subst a1;subst a2
       have hown0:Own w (fun b=>G.ow b= .ro) true (.sl xs) xv (.slice (some ⟨g0,o0,none⟩) n0 c0) blX:=hitr.own
       have hown:Own w (fun _=>False) true (.sl xs) xv (.slice (some ⟨g0,o0,none⟩) n0 c0) blX:=Own.yA _ _ _ _ hown0
       obtain⟨_,_,e,hl0,_⟩:=Qfe hown
       cases e
       have hjl:i.toNat<(vl (ts:=xs) xv).length:=by omega
       have hyy:(unpack xs (rdx xs (vl xv) i))[j]? =some y:=hy
       obtain⟨uy,pre,b,post,b1,b2,b3,b4⟩:=Own.nest hown (Qea (vl xv) i hjl) hyy
       rw[a7]at b1
       cases b1
       have hyt:=VM _ _ _ _ hyy
       rw[a5]at hyt
       obtain⟨yt,yv⟩:=y
       simp only[Option.some.injEq]at hyt
       subst hyt
       have hnd:blX.Nodup:=hitr.nodup
       have hnd2:=hnd
       rw[b2]at hnd2
       have hb1:=QY4.1 hnd2
       have hb2:=hb1.2
       rw[QRi,QRi]at hb2
       have hmem:∀c∈b++(g0::(pre++post)),c∈blX:=fun c hc=>by
        rw[b2];simp at hc⊢
        rcases hc with h|h|h|h<;>simp[h]
       have hex:∀c∈g0::(pre++post),c∉b:=fun c hc hm=>by
        rcases QRk.1 hc with rfl|hc
        ·exact hb1.1 (by simp[hm])
        ·rcases QRh.1 hc with hc|hc
         ·exact hb2.1.2.2 c hc c hm rfl
         ·exact hb2.2.2 c (by simp[hm]) c hc rfl
       have hexn:(g0::(pre++post)).Nodup:=by
        rw[QY4,QRi]
        refine⟨fun hm=>hb1.1 ?_,hb2.1.1,hb2.2.1,fun c hc c' hc'=>hb2.2.2 c (by simp[hc]) c' hc'⟩
        rcases QRh.1 hm with hm|hm<;>simp[hm]
       refine Sat.bind (QbC (s:=s2)) ?_
       rintro _ s1 ⟨rfl,hxt⟩
       refine Sat.bind (Sat.wC (Φ:=fun _ s3=>s3=s1.sC q.r q.k (mkC c.id c.nv .dead)) rfl) ?_
       rintro _ s3 rfl
       rw[<-e2]at r1
       refine Sat.pure ⟨Qp.sC _ _ _ _,fun e=>(by rw[htk]at e;cases e),_,b,g0::(pre++post),r3,r1,fun _=>⟨_,rfl,hxt,Own.yA _ _ _ _ b3, ?_⟩,fun e=>(by rw[htk]at e;cases e), ?_,fun c hc=>r2.free c (hmem c hc),fun c hc=>⟨_,_,(hki c (hmem c hc)).1⟩,fun b hb=>Qmw hb,fun b κ hb=>QpL hb,fun c r hc=> ?_⟩
       ·refine⟨.slice (some ⟨g0,o0,none⟩) n0 c0,by rw[e2];exact k2,k4,hcell,rfl, ?_⟩
        intro w' x' bl' hxt' hown' hs hnd' hdis
        obtain⟨x'',hx''⟩:=Qjw xs (rdx xs (vl xv) i) j x' (by rw[hxt'];exact a5)
        have ho2:=b4 w' x' bl' x'' hx'' (Own.yA (R:=fun _=>False) _ _ _ _ hown') (hs g0 (by simp)) (fun k hk=>hs k (by rcases QRh.1 hk with hk|hk<;>simp[hk])) (fun k hk=>hk.elim)
        ·refine⟨⟨.sl xs,(show List (Qm xs)from List.set (vl xv) i.toNat x'')⟩,g0::(pre++bl'++post),QtK (by simp only[putCells];rw[show rdx xs xv i=rdx xs (vl xv) i from rfl,hx'']),rfl,Own.yA _ _ _ _ ho2, ?_,fun k hk=> ?_⟩
         ·rw[QY4,QRi,QRi]
          rw[QY4,QRi]at hexn
          refine⟨fun hm=> ?_,⟨hexn.2.1,hnd',fun k hk k' hk' e=> ?_⟩,hexn.2.2.1,fun k hk k' hk' e=> ?_⟩
          ·rcases QRh.1 hm with hm|hm
           ·rcases QRh.1 hm with hm|hm
            ·exact hexn.1 (by simp[hm])
            ·exact hdis g0 hm (by simp)
           ·exact hexn.1 (by simp[hm])
          ·subst e;exact hdis k hk' (by simp[hk])
          ·subst e
           rcases QRh.1 hk with hk|hk
           ·exact hexn.2.2.2 k hk k hk' rfl
           ·exact hdis k hk (by simp[hk'])
         ·rcases QRk.1 hk with rfl|hk
          ·left;simp
          ·rcases QRh.1 hk with hk|hk
           ·rcases QRh.1 hk with hk|hk
            ·left;simp[hk]
            ·exact .inr hk
           ·left;simp[hk]
       ·rw[QRi]
        exact⟨hb2.1.2.1,hexn,fun c hc c' hc' e=>hex c' hc' (e▸hc)⟩
       ·show(if c∈blX then Ow.free else G.ow c)=_
        rw[if_neg (fun hm=>by rw[(hki c hm).1]at hc;cases hc)];exact hc
      ·exact Sat.fail
     ·exact Sat.fail
    |sc x=>exact Sat.fail
    |ro x=>exact Sat.fail
    |bad=>exact Sat.fail
   ·rw[if_neg hsl]
    exact Sat.pure (hno (by simp[takes];intro e;exact(hsl e).elim))
  cases m<;>first|exact(hro rfl).elim|exact key
end
abbrev Its:=List (List Nat×List Nat)
def Qag (i:Its):List Nat:=(i.map fun x=>x.1++x.2).flatten
def qT (i:Its):List (List Nat):=i.map fun x=>x.1
theorem QDn (i j:Its):Qag (i++j)=Qag i++Qag j:=by simp[Qag]
theorem Qux {i:Its}{b:Nat}(h:b∈(qT i).flatten):b∈Qag i:=by
 obtain⟨l,h1,h2⟩:=QY9.1 h
 obtain⟨x,h3,rfl⟩:=QY18.1 h1
 exact QY9.2 ⟨_,QY18.2 ⟨x,h3,rfl⟩,by simp[h2]⟩
theorem QIS (i:Its):(qT i).flatten.Sublist (Qag i):=by
 unfold qT Qag
 induction i with
 |nil=>exact QY23 _
 |cons x i ih=>simp only[QY24,QRr];exact QY28 (List.sublist_append_left _ _) ih
def qd (F:Fix) (G:Gh) (s:St) (w:World):List (Mode×Ty)->List Value->List (Option TV×Back)->Its->Prop
 | [],us,os,its=>us=[]/\os=[]/\its=[]
 |(m,t)::l,us,os,its=>∃u us' o os' bl ex its',us=u::us'/\os=o::os'/\its=(bl,ex)::its'/\
    (takes m t=true->∃x,o.1=some x/\x.t=t/\Own w (fun _=>False) true x.t x.v u bl/\QjF F G s w x.t u bl ex o.2)/\(takes m t=false->o.1=none/\bl=[]/\ex=[])/\qd F G s w l us' os' its'
theorem qd.mono {F:Fix}{G G':Gh}{s s':St}{w:World}(le:G.le G') (hk:Qp s s') (hb:∀r,(s.gB r).2≠0->∃b,G.GB r (s.gB r).1=some b):(l:List (Mode×Ty))->(us:List Value)->(os:List (Option TV×Back))->(its:Its)->qd F G s w l us os its->qd F G' s' w l us os its
 | [],_,_,_,h=>h
 |(m,t)::l,us,os,its,⟨u,us',o,os',bl,ex,its',e1,e2,e3,h1,h2,h3⟩=>
  ⟨u,us',o,os',bl,ex,its',e1,e2,e3,fun ht=>let⟨x,k1,k0,k2,k3⟩:=h1 ht;⟨x,k1,k0,k2,k3.mono le hk hb⟩,h2,qd.mono le hk hb l us' os' its' h3⟩
structure Freed (F:Fix) (G G':Gh) (w:World) (L:List Nat):Prop where
 le:G.le G'
 nodup:L.Nodup
 free:∀b∈L,G'.ow b= .free/\b<w.heap.size/\(b<F.w0.heap.size->F.X b)
 key:∀b∈L,∃r k,G.ow b= .key (.con r k)
 frees:∀b,G.ow b= .free->G'.ow b= .free
 mkey:∀b κ,G'.ow b= .key κ->G.ow b= .key κ
 box:∀b r,G.ow b= .key (.box r)->G'.ow b= .key (.box r)
theorem Freed.refl (F:Fix) (G:Gh) (w:World):Freed F G G w []:=⟨Gh.le.refl G,QY5,by simp,by simp,fun _ h=>h,fun _ _ h=>h,fun _ _ h=>h⟩
theorem Freed.trans {F:Fix}{A B C:Gh}{w:World}{L M:List Nat}(h:Freed F A B w L) (h':Freed F B C w M):Freed F A C w (L++M):=by
 refine⟨h.le.trans h'.le, ?_,fun b hb=> ?_,fun b hb=> ?_,fun b hb=>h'.frees b (h.frees b hb),fun b κ hb=>h.mkey b κ (h'.mkey b κ hb),fun b r hb=>h'.box b r (h.box b r hb)⟩
 ·rw[QRi]
  refine⟨h.nodup,h'.nodup,fun c hc c' hc' e=> ?_⟩
  subst e
  obtain⟨r,k,hk⟩:=h'.key c hc'
  rw[(h.free c hc).1]at hk;cases hk
 ·rcases QRh.1 hb with hb|hb
  ·exact⟨h'.frees b (h.free b hb).1,(h.free b hb).2⟩
  ·exact h'.free b hb
 ·rcases QRh.1 hb with hb|hb
  ·exact h.key b hb
  ·obtain⟨r,k,hk⟩:=h'.key b hb;exact⟨r,k,h.mkey b _ hk⟩
section
variable {γ:Type}
theorem Qz7 {F:Fix}{a:Act}{w:World}:(l:List (Mode×Ty))->(vs:List VC)->(us:List Value)->(G:Gh)->(s:St)->Rel F G s a w->VCs G w vs us->
 Sat (Qsq l vs:M γ (List (Option TV×Back))) s fun os s'=>Qp s s'/\∃G' its,Rel F G' s' a w/\Freed F G G' w (Qag its)/\qd F G' s' w l us os its
 | [],[],us,G,s,h,hv=>Sat.pure ⟨Qp.refl s,G,[],h,Freed.refl F G w,hv,rfl,rfl⟩
 | [],_::_,us,G,s,h,hv=>Sat.fail
 |_::_,[],us,G,s,h,hv=>Sat.fail
 |(m,t)::l,v::vs,us,G,s,h,⟨u,us',e,hv,hvs⟩=>by
  unfold Qsq
  refine Sat.bind (QJ4 h hv (m:=m) (t:=t)) ?_
  rintro o s1 ⟨k1,k2,G1,bl,ex,l1,r1,t1,t2,n1,f1,y1,fr1,m1,b1⟩
  have hF:Freed F G G1 w (bl++ex):=⟨l1,n1,f1,y1,fr1,m1,b1⟩
  refine Sat.bind (Qz7 l vs us' G1 s1 r1 (VCs.mono l1 (fun _ _=>rfl) _ _ hvs)) ?_
  rintro os s2 ⟨k3,G2,its,r2,hF2,ha⟩
  refine Sat.pure ⟨k1.trans k3,G2,(bl,ex)::its,r2, ?_,u,us',o,os,bl,ex,its,e,rfl,rfl,fun ht=> ?_,fun ht=>⟨(k2 ht).1,t2 ht⟩,ha⟩
  ·have:=hF.trans hF2
   simpa[Qag]using this
  ·obtain⟨x,g1,g0,g2,g3⟩:=t1 ht
   exact⟨x,g1,g0,g2,g3.mono hF2.le k3 r1.boxes⟩
def qG (F:Fix) (G:Gh) (s:St) (w:World):List PSig->List (List Value)->List (List (Option TV×Back))->List Its->Prop
 | [],uss,oss,itss=>uss=[]/\oss=[]/\itss=[]
 |p::ps,uss,oss,itss=>∃us uss' os oss' its itss',uss=us::uss'/\oss=os::oss'/\itss=its::itss'/\qd F G s w p.cs us os its/\qG F G s w ps uss' oss' itss'
def Qc4 (G:Gh) (w:World):List (List VC)->List (List Value)->Prop
 | [],uss=>uss=[]
 |vs::vss,uss=>∃us uss',uss=us::uss'/\VCs G w vs us/\Qc4 G w vss uss'
theorem Qc4.mono {G G':Gh}{w:World}(h:G.le G'):(vss:List (List VC))->(uss:List (List Value))->Qc4 G w vss uss->Qc4 G' w vss uss
 | [],_,e=>e
 |vs::vss,uss,⟨us,uss',e,h1,h2⟩=>⟨us,uss',e,VCs.mono h (fun _ _=>rfl) _ _ h1,Qc4.mono h vss uss' h2⟩
theorem QzA {F:Fix}{a:Act}{w:World}:(ps:List PSig)->(vss:List (List VC))->(uss:List (List Value))->(G:Gh)->(s:St)->Rel F G s a w->Qc4 G w vss uss->
 Sat (Qsb ps vss:M γ (List (List (Option TV×Back)))) s fun oss s'=>Qp s s'/\∃G' itss,Rel F G' s' a w/\Freed F G G' w (Qag itss.flatten)/\qG F G' s' w ps uss oss itss
 | [],[],uss,G,s,h,hv=>Sat.pure ⟨Qp.refl s,G,[],h,Freed.refl F G w,hv,rfl,rfl⟩
 | [],_::_,uss,G,s,h,hv=>Sat.fail
 |_::_,[],uss,G,s,h,hv=>Sat.fail
 |p::ps,vs::vss,uss,G,s,h,⟨us,uss',e,hv,hvs⟩=>by
  unfold Qsb
  refine Sat.bind (Qz7 p.cs vs us G s h hv) ?_
  rintro os s1 ⟨k1,G1,its,r1,f1,a1⟩
  refine Sat.bind (QzA ps vss uss' G1 s1 r1 (Qc4.mono f1.le _ _ hvs)) ?_
  rintro oss s2 ⟨k2,G2,itss,r2,f2,a2⟩
  refine Sat.pure ⟨k1.trans k2,G2,its::itss,r2, ?_,us,uss',os,oss,its,itss,e,rfl,rfl,qd.mono f2.le k2 r1.boxes _ _ _ _ a1,a2⟩
  have:=f1.trans f2
  rw[<-QDn]at this
  simpa using this
def CsIn' (w:World) (R:Nat->Prop):List (Mode×Ty)->List TV->List Value->List (List Nat)->Prop
 | [],xs,us,bls=>xs=[]/\us=[]/\bls=[]
 |(m,t)::l,xs,us,bls=>∃x xs' u us' bl bls',xs=x::xs'/\us=u::us'/\bls=bl::bls'/\(if takes m t then Own w R true x.t x.v u bl else bl=[]/\∃b',Rep w x.t x.v u b'/\∀c∈b',R c)/\CsIn' w R l xs' us' bls'
theorem Qxg {F:Fix}{G:Gh}{s:St}{a:Act}{w:World}(h:Rel F G s a w) {R:Nat->Prop}{ro:Bool}(hR1:ro=false->∀b,qA G b->R b) (hR2:∀b,G.ow b= .ro->R b):
 (l:List (Mode×Ty))->(vs:List VC)->(us:List Value)->(os:List (Option TV×Back))->(its:Its)->VCs G w vs us->qd F G s w l us os its->(ro=true->Qqg l vs=true)->(∀x∈l,QN x.2=true\/True)->
 Sat (Qlm l vs os:M γ (List TV)) s fun xs s'=>s'=s/\CsIn' w R l xs us (qT its)
 | [],[],us,[],its,hv,ha,_,_=>Sat.pure ⟨rfl,rfl,hv,by rw[ha.2.2];rfl⟩
 | [],_::_,us,_,its,hv,ha,_,_=>Sat.fail
 | [],[],us,_::_,its,hv,ha,_,_=>Sat.fail
 |_::_,[],us,_,its,hv,ha,_,_=>Sat.fail
 |_::_,_::_,us,[],its,hv,ha,_,_=>Sat.fail
 |(m,t)::l,v::vs,us,(o,bk)::os,its,⟨u,us',e,hv,hvs⟩,⟨u2,us2,o2,os2,bl,ex,its',e1,e2,e3,h1,h2,h3⟩,hro,hx=>by
  rw[e]at e1;cases e1
  cases e2
  unfold Qlm
  have hro':ro=true->Qqg l vs=true:=fun hr=>by
   have:=hro hr
   cases m<;>simp[Qqg]at this<;>first|exact this.2|exact this
  have fin:∀(x:TV) (s':St),s'=s->(if takes m t then Own w R true x.t x.v u bl else bl=[]/\∃b',Rep w x.t x.v u b'/\∀c∈b',R c)->
   Sat (do let r<-Qlm l vs os;pure (x::r):M γ (List TV)) s' fun xs s'=>s'=s/\CsIn' w R ((m,t)::l) xs us (qT its):=by
   intro x s' es hc
   rw[es]
   refine Sat.bind (Qxg h hR1 hR2 l vs us' os its' hvs h3 hro' (fun x _=> .inr trivial)) ?_
   rintro xs s2 ⟨rfl,hr⟩
   exact Sat.pure ⟨rfl,x,xs,u,us',bl,qT its',rfl,e,by rw[e3];rfl,hc,hr⟩
  cases ht:takes m t with
  |true=>
   obtain⟨x,g1,g0,g2,g3⟩:=h1 ht
   simp only at g1
   subst g1
   dsimp only
   refine Sat.bind (Sat.pure (Φ:=fun y s'=>s'=s/\x=y) ⟨rfl,rfl⟩) ?_
   rintro y s' ⟨es,rfl⟩
   exact fin x s' es (by rw[ht];exact Own.yA _ _ _ _ g2)
  |false=>
   obtain⟨g1,g2,g3⟩:=h2 ht
   simp only at g1
   subst g1
   dsimp only
   refine Sat.bind (QHQ h t v u hv) ?_
   rintro y s' ⟨es,b,hr,hc,hi⟩
   rw[es]
   refine Sat.bind (Sat.pure (Φ:=fun z s'=>s'=s/\(⟨t,y⟩:TV)=z) ⟨rfl,rfl⟩) ?_
   rintro z s2 ⟨es2,rfl⟩
   refine fin ⟨t,y⟩ s2 es2 ?_
   rw[ht]
   refine⟨g2, ?_⟩
   cases hsl:QN t with
   |false=>exact⟨[],zD (x:=⟨t,y⟩) hr hsl,by simp⟩
   |true=>
    cases hrb:ro with
    |false=>exact⟨b,hr,fun c hcm=>hR1 hrb c (hc c hcm)⟩
    |true=>
     have:=hro hrb
     have hm:m= .ro:=by
      cases m<;>simp_all[takes,Mode.QX]
     subst hm
     simp only[Qqg,hsl,QQ3,Bool.false_or,QQ5]at this
     refine⟨b,hr,fun c hcm=>hR2 c (hi ?_ c hcm)⟩
     cases v with
     |ro y=>exact .inl ⟨y, .inl rfl⟩
     |nilS=>exact .inr rfl
     |_=>simp at this
end
def Tys.toL:Tys->List Ty
 | .nil=>[]
 | .cons t ts=>t::ts.toL
theorem Tys.QER:(a b:Tys)->(a.app b).toL=a.toL++b.toL
 | .nil,_=>rfl
 | .cons t ts,b=>by simp[Tys.app,Tys.toL,Tys.QER ts b]
theorem Qnu:(ts:Tys)->(l:List TV)->(v:Qm ts)->pack ts l=some v->l.map (·.t)=ts.toL/\unpack ts v=l
 | .nil,[],v,h=>⟨rfl,rfl⟩
 | .nil,_::_,v,h=>by simp[pack]at h
 | .cons t ts,[],v,h=>by simp[pack]at h
 | .cons t ts,x::l,v,h=>by
   simp only[pack]at h
   cases hx:x.as t with
   |none=>rw[hx]at h;simp at h
   |some a=>
    cases hl:pack ts l with
    |none=>rw[hx,hl]at h;simp at h
    |some b=>
     rw[hx,hl]at h
     simp at h
     subst h
     obtain⟨h1,h2⟩:=Qnu ts l b hl
     have:=Zt hx
     subst this
     exact⟨by simp[Tys.toL,h1],by rw[Qpy,h2]⟩
theorem QzO:(cs:List (Mode×Ty))->Qit cs=true->(vm cs).toL=cs.map (·.2)
 | [],_=>rfl
 |(m,t)::l,h=>by
  simp only[Qit,QY29,QQ5]at h
  have:=QzO l h.2
  cases m<;>simp_all[vm,Tys.toL]
theorem Qz3:(ps:List PSig)->(ps.all fun p=>Qit p.cs)=true->(QpN ps).toL=ps.flatMap fun p=>p.cs.map (·.2)
 | [],_=>rfl
 |p::ps,h=>by
  simp only[QY29,QQ5]at h
  simp[QpN,Tys.QER,QzO _ h.1,Qz3 ps h.2]
theorem QMk {p:PSig}(h:p.okP=true):Qit p.cs=true:=by
 cases p with
 |val a cs=>simp only[PSig.okP,QQ5]at h;exact h.1
 |ptr cs=>
  simp only[PSig.okP,QRt]at h
  simp only[PSig.cs,Qit,QRt]
  intro x hx
  have:=h x hx
  revert this
  cases x.1<;>simp
 |fn g caps=>
  simp only[PSig.okP,QRt]at h
  simp only[PSig.cs,Qit,QRt,QY9]
  rintro x ⟨l,hl,hx⟩
  have:=h l hl x hx
  revert this
  cases x.1<;>simp[Mode.QX]
theorem CsIn'.len {w:World}{R:Nat->Prop}:(l:List (Mode×Ty))->(xs:List TV)->(us:List Value)->(bls:List (List Nat))->CsIn' w R l xs us bls->xs.length=l.length/\us.length=l.length/\bls.length=l.length
 | [],_,_,_,h=>by rw[h.1,h.2.1,h.2.2];simp
 |(m,t)::l,_,_,_,⟨x,xs',u,us',bl,bls',e1,e2,e3,_,h⟩=>by
  obtain⟨h1,h2,h3⟩:=CsIn'.len l xs' us' bls' h
  rw[e1,e2,e3];simp[h1,h2,h3]
theorem CsIn'.typed {w:World}{R:Nat->Prop}:(l:List (Mode×Ty))->(xs:List TV)->(us:List Value)->(bls:List (List Nat))->CsIn' w R l xs us bls->xs.map (·.t)=l.map (·.2)->QdV w R l xs us bls
 | [],_,_,_,h,_=>h
 |(m,t)::l,_,_,_,⟨x,xs',u,us',bl,bls',e1,e2,e3,hc,h⟩,ht=>by
  rw[e1]at ht
  simp only[QY24,List.cons.injEq]at ht
  exact⟨x,xs',u,us',bl,bls',e1,e2,e3,⟨ht.1,hc⟩,CsIn'.typed l xs' us' bls' h ht.2⟩
theorem CsIn'.split {w:World}{R:Nat->Prop}:(l m:List (Mode×Ty))->(xs:List TV)->(us us':List Value)->(bls:List (List Nat))->CsIn' w R (l++m) xs (us++us') bls->us.length=l.length->
 ∃x1 x2 b1 b2,xs=x1++x2/\bls=b1++b2/\CsIn' w R l x1 us b1/\CsIn' w R m x2 us' b2
 | [],m,xs,us,us',bls,h,hl=>by
   have:us=[]:=QRx hl
   subst this
   exact⟨[],xs,[],bls,rfl,rfl,⟨rfl,rfl,rfl⟩,h⟩
 |(md,t)::l,m,xs,[],us',bls,h,hl=>by simp at hl
 |(md,t)::l,m,xs,u::us,us',bls,⟨x,xs',u2,us2,bl,bls',e1,e2,e3,hc,h⟩,hl=>by
  simp only[QRv,List.cons.injEq]at e2
  obtain⟨rfl,rfl⟩:=e2
  obtain⟨x1,x2,b1,b2,f1,f2,f3,f4⟩:=CsIn'.split l m xs' us us' bls' h (by simpa using hl)
  exact⟨x::x1,x2,bl::b1,b2,by rw[e1,f1];rfl,by rw[e3,f2];rfl,⟨x,x1,u,us,bl,b1,rfl,rfl,rfl,hc,f3⟩,f4⟩
def Yy (G:Gh) (s:St):List Nat->List Nat->Prop
 | [],bs=>bs=[]
 |r::rs,bs=>∃b bs',bs=b::bs'/\(s.gB r).2≠0/\G.GB r (s.gB r).1=some b/\G.ow b= .key (.box r)/\Yy G s rs bs'
theorem Yy.append {G:Gh}{s:St}:(rs rs' bs bs':List Nat)->Yy G s rs bs->Yy G s rs' bs'->Yy G s (rs++rs') (bs++bs')
 | [],_,bs,_,h,h'=>by rw[show bs=[]from h];exact h'
 |r::rs,_,_,_,⟨b,bs'',e,h1,h2,h3,h4⟩,h'=>by rw[e];exact⟨b,_,rfl,h1,h2,h3,Yy.append rs _ bs'' _ h4 h'⟩
theorem Yy.mem {G:Gh}{s:St}:(rs bs:List Nat)->Yy G s rs bs->∀b∈bs,∃r∈rs,(s.gB r).2≠0/\G.GB r (s.gB r).1=some b/\G.ow b= .key (.box r)
 | [],bs,h=>by rw[show bs=[]from h];simp
 |r::rs,_,⟨b,bs',e,h1,h2,h3,h4⟩=>by
  rw[e]
  intro c hc
  rcases QRk.1 hc with rfl|hc
  ·exact⟨r,by simp,h1,h2,h3⟩
  ·obtain⟨r',h5,h6⟩:=Yy.mem rs bs' h4 c hc
   exact⟨r',by simp[h5],h6⟩
theorem Qor:(l:List Nat)->distinct l=true->l.Nodup
 | [],_=>QY5
 |x::l,h=>by
  simp only[distinct,QQ5,QRt]at h
  rw[QY4]
  refine⟨fun hm=> ?_,Qor l h.2⟩
  have:=h.1 x hm
  simp at this
theorem Yy.nodup {G:Gh}{s:St}:(rs bs:List Nat)->Yy G s rs bs->rs.Nodup->bs.Nodup
 | [],bs,h,_=>by rw[show bs=[]from h];exact QY5
 |r::rs,_,⟨b,bs',e,h1,h2,h3,h4⟩,hn=>by
  rw[e,QY4]
  rw[QY4]at hn
  refine⟨fun hm=> ?_,Yy.nodup rs bs' h4 hn.2⟩
  obtain⟨r',g1,g2,g3,g4⟩:=Yy.mem rs bs' h4 b hm
  rw[h3]at g4;cases g4
  exact hn.1 g1
def QaQ (G:Gh) (s:St) (w:World):List (List (Mode×Ty))->List (Nat×Nat×Nat)->List VC->List Value->List Nat->List Nat->Prop
 | [],l,vs,us,rs,bs=>l=[]/\vs=[]/\us=[]/\rs=[]/\bs=[]
 |cs::caps,l,vs,us,rs,bs=>∃r l' v1 v2 u1 u2 rs' b bs',l=(r,0,(s.gB r).1)::l'/\vs=v1++v2/\us=u1++u2/\rs=r::rs'/\bs=b::bs'/\cs≠[]/\u1.length=cs.length/\(s.gB r).2=cs.length/\G.GB r (s.gB r).1=some b/\G.ow b= .key (.box r)/\ZB w b u1/\VCs G w v1 u1/\QaQ G s w caps l' v2 u2 rs' bs'
def QMt (G:Gh) (s:St) (w:World) (p:PSig) (c:Cell) (v:Value) (vs:List VC) (us:List Value) (rs bs:List Nat):Prop:=match p with
 | .val a cs=>c= .val a vs/\(if a then v= .agg us.toArray else us=[v])/\VCs G w vs us/\rs=[]/\bs=[]
 | .ptr cs=>∃r b,c= .ptr r 0 (s.gB r).1/\(s.gB r).2=cs.length/\cs≠[]/\G.GB r (s.gB r).1=some b/\G.ow b= .key (.box r)/\v=JH b 0/\ZB w b us/\VCs G w vs us/\rs=[r]/\bs=[b]
 | .fn g caps=>∃l,c= .fn g l/\QaQ G s w caps l vs us rs bs/\v= .func (.func g) #[] (bs.map fun b=>JH b 0).toArray
def QjG (G:Gh) (s:St) (w:World):List PSig->List Cell->List Value->List (List VC)->List (List Value)->List Nat->List Nat->Prop
 | [],cs,avs,vss,uss,rs,bs=>cs=[]/\avs=[]/\vss=[]/\uss=[]/\rs=[]/\bs=[]
 |p::ps,cs,avs,vss,uss,rs,bs=>∃c cs' v avs' vs vss' us uss' r1 r2 b1 b2,cs=c::cs'/\avs=v::avs'/\vss=vs::vss'/\uss=us::uss'/\rs=r1++r2/\bs=b1++b2/\QMt G s w p c v vs us r1 b1/\QjG G s w ps cs' avs' vss' uss' r2 b2
section
variable {γ:Type}
theorem VCs.append {G:Gh}{w:World}:(a b:List VC)->(us vs:List Value)->VCs G w a us->VCs G w b vs->VCs G w (a++b) (us++vs)
 | [],_,us,_,h,h'=>by rw[show us=[]from h];exact h'
 |x::a,_,_,_,⟨u,us',e,hx,h⟩,h'=>by rw[e];exact⟨u,_,rfl,hx,VCs.append a _ us' _ h h'⟩
theorem Qvi {F:Fix}{G:Gh}{s:St}{a:Act}{w:World}(h:Rel F G s a w) {r n b:Nat}(hn:0<n) (hsz:(s.gB r).2=n) (hb:G.GB r (s.gB r).1=some b):
 Sat (ym r 0 n:M γ (List VC)) s fun vs s'=>s'=s/\∃us,us.length=n/\ZB w b us/\VCs G w vs us/\G.ow b= .key (.box r):=by
 obtain⟨b',cur,e,k1,k2,k3,k4,k5⟩:=(h.box r).live (by omega)
 rw[hb]at k1;cases k1
 refine(Qf6 h hb k3 n 0 (by omega)).mono ?_
 rintro vs s' (⟨rfl,hv,hs⟩|⟨e0,_⟩)
 ·refine⟨rfl,cur.toList,by simp;omega,⟨cur,e,k3,rfl⟩, ?_,k2⟩
  rw[QRg,List.take_of_length_le (by simp;omega)]at hv
  exact hv
 ·omega
theorem QrI {F:Fix}{G:Gh}{s:St}{a:Act}{w:World}(h:Rel F G s a w):(caps:List (List (Mode×Ty)))->(l:List (Nat×Nat×Nat))->(ups:List Value)->ve G l ups->
 Sat (Qfc caps l:M γ (List VC)) s fun vs s'=>s'=s/\∃us rs bs,QaQ G s w caps l vs us rs bs/\ups=bs.map fun b=>JH b 0
 | [],[],ups,hu=>Sat.pure ⟨rfl,[],[],[],⟨rfl,rfl,rfl,rfl,rfl⟩,hu⟩
 | [],_::_,ups,hu=>Sat.fail
 |_::_,[],ups,hu=>Sat.fail
 |cs::caps,(r,o,g)::l,ups,⟨b,ups',hgb,e,hu⟩=>by
  unfold Qfc
  cases o with
  |succ o=>exact Sat.fail
  |zero=>
   refine Sat.bind (Sat.mB (Φ:=fun g s'=>s'=s/\g=s.gB r) ⟨rfl,rfl⟩) ?_
   rintro g' s' ⟨es,rfl⟩
   rw[es]
   split
   ·rename_i hc
    simp only[QQ5,beq_iff_eq,QY15,Nat.blt_eq]at hc
    obtain⟨⟨hg,hsz⟩,hpos⟩:=hc
    subst hg
    refine Sat.bind (Qvi h hpos hsz hgb) ?_
    rintro v1 s2 ⟨es2,u1,h1,h2,h3,h4⟩
    rw[es2]
    refine Sat.bind (QrI h caps l ups' hu) ?_
    rintro v2 s3 ⟨es3,u2,rs,bs,h5,h6⟩
    rw[es3]
    refine Sat.pure ⟨rfl,u1++u2,r::rs,b::bs,⟨r,l,v1,v2,u1,u2,rs,b,bs,rfl,rfl,rfl,rfl,rfl,fun e=>(by rw[e]at hpos;simp at hpos),h1,hsz,hgb,h4,h2,h3,h5⟩, ?_⟩
    rw[e,h6];rfl
   ·exact Sat.fail
theorem QCW {F:Fix}{G:Gh}{s:St}{a:Act}{w:World}(h:Rel F G s a w) {p:PSig}{c:Cell}{v:Value}(hc:QK G w c v):
 Sat (Qlc p c:M γ (List VC)) s fun vs s'=>s'=s/\∃us rs bs,QMt G s w p c v vs us rs bs:=by
 unfold Qlc
 split
 ·rename_i a1 cs a2 vs
  split
  ·rename_i haa
   have haa:a1=a2:=by simpa using haa
   subst haa
   refine Sat.pure ⟨rfl, ?_⟩
   cases a1 with
   |true=>obtain⟨us,hv,h1⟩:=hc;exact⟨us.toList,[],[],rfl,by simp[hv],h1,rfl,rfl⟩
   |false=>obtain⟨h0,h1⟩:=hc;exact⟨[v],[],[],rfl,rfl,h1,rfl,rfl⟩
  ·exact Sat.fail
 ·rename_i cs r g
  obtain⟨b,hgb,hv⟩:=hc
  refine Sat.bind (Sat.mB (Φ:=fun g s'=>s'=s/\g=s.gB r) ⟨rfl,rfl⟩) ?_
  rintro g' s' ⟨es,rfl⟩
  rw[es]
  split
  ·rename_i hcond
   simp only[QQ5,beq_iff_eq,QY15,Nat.blt_eq]at hcond
   obtain⟨⟨hg,hsz⟩,hpos⟩:=hcond
   subst hg
   refine(Qvi h hpos hsz hgb).mono ?_
   rintro v1 s2 ⟨es2,u1,h1,h2,h3,h4⟩
   exact⟨es2,u1,[r],[b],r,b,rfl,hsz,fun e=>(by rw[e]at hpos;simp at hpos),hgb,h4,hv,h2,h3,rfl,rfl⟩
  ·exact Sat.fail
 ·rename_i g caps g' l
  split
  ·rename_i hg
   have hg:g=g':=by simpa using hg
   subst hg
   obtain⟨ups,hv,hu⟩:=hc
   refine(QrI h caps l ups.toList hu).mono ?_
   rintro vs s' ⟨es,us,rs,bs,h1,h2⟩
   refine⟨es,us,rs,bs,l,rfl,h1, ?_⟩
   rw[hv,<-h2]
  ·exact Sat.fail
 ·exact Sat.fail
def yg (G:Gh) (w:World):List Cell->List Value->Prop
 | [],vs=>vs=[]
 |c::cs,vs=>∃v vs',vs=v::vs'/\QK G w c v/\yg G w cs vs'
theorem QqA {F:Fix}{G:Gh}{s:St}{a:Act}{w:World}(h:Rel F G s a w):(ps:List PSig)->(cs:List Cell)->(avs:List Value)->yg G w cs avs->
 Sat (Qbs ps cs:M γ (List (List VC))) s fun vss s'=>s'=s/\∃uss rs bs,QjG G s w ps cs avs vss uss rs bs
 | [],[],avs,hc=>Sat.pure ⟨rfl,[],[],[],rfl,hc,rfl,rfl,rfl,rfl⟩
 | [],_::_,avs,hc=>Sat.fail
 |_::_,[],avs,hc=>Sat.fail
 |p::ps,c::cs,avs,⟨v,avs',e,hc,hcs⟩=>by
  unfold Qbs
  refine Sat.bind (QCW h hc) ?_
  rintro vs s1 ⟨es,us,r1,b1,h1⟩
  rw[es]
  refine Sat.bind (QqA h ps cs avs' hcs) ?_
  rintro vss s2 ⟨es2,uss,r2,b2,h2⟩
  rw[es2]
  exact Sat.pure ⟨rfl,us::uss,r1++r2,b1++b2,c,cs,v,avs',vs,vss,us,uss,r1,r2,b1,b2,rfl,e,rfl,rfl,rfl,rfl,h1,h2⟩
theorem QaQ.spec {G:Gh}{s:St}{w:World}:(caps:List (List (Mode×Ty)))->(l:List (Nat×Nat×Nat))->(vs:List VC)->(us:List Value)->(rs bs:List Nat)->QaQ G s w caps l vs us rs bs->VCs G w vs us/\Yy G s rs bs/\l.map (fun x=>x.1)=rs
 | [],l,vs,us,rs,bs,h=>by obtain⟨rfl,rfl,rfl,rfl,rfl⟩:=h;exact⟨rfl,rfl,rfl⟩
 |cs::caps,l,vs,us,rs,bs,⟨r,l',v1,v2,u1,u2,rs',b,bs',e1,e2,e3,e4,e5,hne,hu,h1,h2,h3,h4,h5,h6⟩=>by
  obtain⟨g1,g2,g3⟩:=QaQ.spec caps l' v2 u2 rs' bs' h6
  rw[e1,e2,e3,e4,e5]
  refine⟨VCs.append _ _ _ _ h5 g1,⟨b,bs',rfl, ?_,h2,h3,g2⟩,by simp[g3]⟩
  rw[h1];intro e;exact hne (QRx e)
theorem QjG.spec {G:Gh}{s:St}{w:World}:(ps:List PSig)->(cs:List Cell)->(avs:List Value)->(vss:List (List VC))->(uss:List (List Value))->(rs bs:List Nat)->QjG G s w ps cs avs vss uss rs bs->Qc4 G w vss uss/\Yy G s rs bs/\Zb ps cs=rs
 | [],cs,avs,vss,uss,rs,bs,h=>by obtain⟨rfl,rfl,rfl,rfl,rfl,rfl⟩:=h;exact⟨rfl,rfl,rfl⟩
 |p::ps,cs,avs,vss,uss,rs,bs,⟨c,cs',v,avs',vs,vss',us,uss',r1,r2,b1,b2,e1,e2,e3,e4,e5,e6,h1,h2⟩=>by
  obtain⟨g1,g2,g3⟩:=QjG.spec ps cs' avs' vss' uss' r2 b2 h2
  rw[e1,e3,e4,e5,e6]
  cases p with
  |val a l=>
   obtain⟨k1,k2,k3,k4,k5⟩:=h1
   subst k1;subst k4;subst k5
   exact⟨⟨us,uss',rfl,k3,g1⟩,g2,by simp[Zb,g3]⟩
  |ptr l=>
   obtain⟨r,b,k1,k2,k3,k4,k5,k6,k7,k8,k9,k10⟩:=h1
   subst k1;subst k9;subst k10
   refine⟨⟨us,uss',rfl,k8,g1⟩,⟨b,b2,rfl, ?_,k4,k5,g2⟩,by simp[Zb,g3]⟩
   rw[k2];intro e;exact k3 (QRx e)
  |fn g caps=>
   obtain⟨l,k1,k2,k3⟩:=h1
   subst k1
   obtain⟨m1,m2,m3⟩:=QaQ.spec caps l vs us r1 b1 k2
   exact⟨⟨us,uss',rfl,m1,g1⟩,Yy.append _ _ _ _ m2 g2,by simp[Zb,g3,m3]⟩
def PsIn' (w:World) (R:Nat->Prop):List PSig->List TV->List (List Value)->List (List Nat)->Prop
 | [],xs,uss,bls=>xs=[]/\uss=[]/\bls=[]
 |p::ps,xs,uss,bls=>∃x1 x2 us uss' l1 l2,xs=x1++x2/\uss=us::uss'/\bls=l1++l2/\CsIn' w R p.cs x1 us l1/\PsIn' w R ps x2 uss' l2
theorem QuS {F:Fix}{G:Gh}{s:St}{a:Act}{w:World}(h:Rel F G s a w) {R:Nat->Prop}{ro:Bool}(hR1:ro=false->∀b,qA G b->R b) (hR2:∀b,G.ow b= .ro->R b):
 (ps:List PSig)->(vss:List (List VC))->(uss:List (List Value))->(oss:List (List (Option TV×Back)))->(itss:List Its)->Qc4 G w vss uss->qG F G s w ps uss oss itss->(ro=true->Qrj ps vss=true)->
 Sat (QoV ps vss oss:M γ (List TV)) s fun xs s'=>s'=s/\PsIn' w R ps xs uss (qT itss.flatten)
 | [],[],uss,[],itss,hv,ha,_=>Sat.pure ⟨rfl,rfl,hv,by rw[ha.2.2];rfl⟩
 | [],_::_,_,_,_,_,_,_=>Sat.fail
 | [],[],_,_::_,_,_,_,_=>Sat.fail
 |_::_,[],_,_,_,_,_,_=>Sat.fail
 |_::_,_::_,_,[],_,_,_,_=>Sat.fail
 |p::ps,vs::vss,uss,os::oss,itss,⟨us,uss',e,hv,hvs⟩,⟨us2,uss2,os2,oss2,its,itss',e1,e2,e3,h1,h2⟩,hro=>by
  rw[e]at e1;cases e1
  cases e2
  unfold QoV
  refine Sat.bind (Qxg h hR1 hR2 p.cs vs us os its hv h1 (fun hr=>by have:=hro hr;simp only[Qrj,QQ5]at this;exact this.1) (fun _ _=> .inr trivial)) ?_
  rintro x1 s1 ⟨es,hc⟩
  rw[es]
  refine Sat.bind (QuS h hR1 hR2 ps vss uss' oss itss' hvs h2 (fun hr=>by have:=hro hr;simp only[Qrj,QQ5]at this;exact this.2)) ?_
  rintro x2 s2 ⟨es2,hp⟩
  rw[es2]
  refine Sat.pure ⟨rfl,x1,x2,us,uss',qT its,qT itss'.flatten,rfl,e, ?_,hc,hp⟩
  rw[e3];simp[qT]
theorem QzB {w:World}{R:Nat->Prop}{G:Gh}{s:St}:(caps:List (List (Mode×Ty)))->(l:List (Nat×Nat×Nat))->(vs:List VC)->(us:List Value)->(rs bs:List Nat)->(xs:List TV)->(bls:List (List Nat))->QaQ G s w caps l vs us rs bs->CsIn' w R caps.flatten xs us bls->xs.map (·.t)=caps.flatten.map (·.2)->
 QuM w R caps xs bs bls
 | [],l,vs,us,rs,bs,xs,bls,h,hc,_=>by
   obtain⟨rfl,rfl,rfl,rfl,rfl⟩:=h
   exact⟨hc.1,rfl,hc.2.2⟩
 |cs::caps,l,vs,us,rs,bs,xs,bls,⟨r,l',v1,v2,u1,u2,rs',b,bs',e1,e2,e3,e4,e5,hne,hu,h1,h2,h3,h4,h5,h6⟩,hc,ht=>by
  rw[e3]at hc
  rw[QRr]at hc ht
  obtain⟨x1,x2,l1,l2,f1,f2,f3,f4⟩:=CsIn'.split cs caps.flatten xs u1 u2 bls hc hu
  rw[f1,List.map_append,List.map_append]at ht
  obtain⟨t1,t2⟩:=List.append_inj ht (by have:=(CsIn'.len _ _ _ _ f3).1;simp[this])
  exact⟨x1,x2,b,bs',l1,l2,u1,f1,e5,f2,hne,h4,CsIn'.typed _ _ _ _ f3 t1,QzB caps l' v2 u2 rs' bs' x2 l2 h6 f4 t2⟩
theorem QEB {w:World}{R:Nat->Prop}{G:Gh}{s:St}:(ps:List PSig)->(cs:List Cell)->(avs:List Value)->(vss:List (List VC))->(uss:List (List Value))->(rs bs:List Nat)->(xs:List TV)->(bls:List (List Nat))->QjG G s w ps cs avs vss uss rs bs->PsIn' w R ps xs uss bls->
 xs.map (·.t)=(ps.flatMap fun p=>p.cs.map (·.2))->QcQ w R ps xs avs bs bls
 | [],cs,avs,vss,uss,rs,bs,xs,bls,h,hp,_=>by
   obtain⟨rfl,rfl,rfl,rfl,rfl,rfl⟩:=h
   exact⟨hp.1,rfl,rfl,hp.2.2⟩
 |p::ps,cs,avs,vss,uss,rs,bs,xs,bls,⟨c,cs',v,avs',vs,vss',us,uss',r1,r2,b1,b2,e1,e2,e3,e4,e5,e6,h1,h2⟩,⟨x1,x2,us2,uss2,l1,l2,f1,f2,f3,f4,f5⟩,ht=>by
  rw[e4]at f2;cases f2
  rw[f1,List.map_append,QY8]at ht
  obtain⟨t1,t2⟩:=List.append_inj ht (by have:=(CsIn'.len _ _ _ _ f4).1;simp[this])
  refine⟨x1,x2,v,avs',b1,b2,l1,l2,f1,e2,e6,f3, ?_,QEB ps cs' avs' vss' uss' r2 b2 x2 l2 h2 f5 t2⟩
  cases p with
  |val a l=>
   obtain⟨k1,k2,k3,k4,k5⟩:=h1
   exact⟨k5,us,k2,CsIn'.typed _ _ _ _ f4 t1⟩
  |ptr l=>
   obtain⟨r,b,k1,k2,k3,k4,k5,k6,k7,k8,k9,k10⟩:=h1
   exact⟨k3,b,us,k10,k6,k7,CsIn'.typed _ _ _ _ f4 t1⟩
  |fn g caps=>
   obtain⟨l,k1,k2,k3⟩:=h1
   exact⟨k3,QzB caps l vs us r1 b1 x1 l1 k2 f4 t1⟩
end
theorem RelP.call {F:Fix}{G:Gh}{s:St}{a:Act}{w w':World}{pd:Nat->Nat->Prop}{O:List Nat}(h:Rel F G s a w) (hg:Grow (·∈O) w w') (hO:∀b∈O,(G.ow b= .free/\(b<F.w0.heap.size->F.X b))\/∃r,(s.gB r).2≠0/\G.GB r (s.gB r).1=some b)
 (hbox:∀r b,(s.gB r).2≠0->G.GB r (s.gB r).1=some b->b∈O->∃us vs,ZB w b us/\ZB w' b vs/\vs.length=us.length/\(∀v∈vs,v.oneCell'=true)/\∀k,¬pd r k->vs[k]? =us[k]?):
 RelP F pd G s a w'/\∀r k,¬pd r k->k<(s.gB r).2->∀b,G.GB r (s.gB r).1=some b->w'.cell? ⟨b,k,none⟩=w.cell? ⟨b,k,none⟩:=by
 have hboxO:∀r b,(s.gB r).2≠0->G.GB r (s.gB r).1=some b->G.ow b= .key (.box r):=by
  intro r b hz hb
  obtain⟨b',cur,e,k1,k2,_⟩:=(h.box r).live hz
  rw[hb]at k1;cases k1;exact k2
 have hsame:∀b,G.ow b≠ .free->(∀r,G.ow b≠ .key (.box r))->Q5 w w' b:=fun b h1 h2=>hg.block b (h.lt b h1) (fun hm=>by
  rcases hO b hm with⟨h3,_⟩|⟨r,h3,h4⟩
  ·exact h1 h3
  ·exact h2 r (hboxO r b h3 h4))
 have hro:jB G w w':=fun b hb=>hsame b (by rw[hb];simp) (fun r=>by rw[hb];simp)
 have hck:∀r k,¬pd r k->k<(s.gB r).2->∀b,G.GB r (s.gB r).1=some b->w'.cell? ⟨b,k,none⟩=w.cell? ⟨b,k,none⟩:=by
  intro r k hp hk b hb
  have hz:(s.gB r).2≠0:=by omega
  by_cases hm:b∈O
  ·obtain⟨us,vs,⟨c1,e1,h1,h1'⟩,⟨c2,e2,h2,h2'⟩,h3,h4,h5⟩:=hbox r b hz hb hm
   have:=h5 k hp
   simp only[World.cell?,h1,h2,Option.isSome_none,QRw,if_false]
   rw[<-h1',<-h2']at this
   simpa using this
  ·have:Q5 w w' b:=hg.block b (h.lt b (by rw[hboxO r b hz hb];simp)) hm
   exact Q5.cell (a:=⟨b,k,none⟩) this
 refine⟨?_,hck⟩
 constructor
 ·exact h.size
 ·exact h.defers
 ·intro i;exact QK.mono (Gh.le.refl G) hro (h.tm i)
 ·intro r' k
  refine⟨(h.con r' k).freshH,(h.con r' k).freshN,fun x deep tag hc'=> ?_,(h.con r' k).vw⟩
  obtain⟨u,bl,g1,g2,g3,g4⟩:=(h.con r' k).own x deep tag hc'
  have hi:=h.it _ _ g1
  have hs:∀k'∈bl,Q5 w w' k':=fun k' hk'=>hsame k' (by rw[(hi.key k' hk').1];simp) (fun r=>by rw[(hi.key k' hk').1];simp)
  exact⟨u,bl,g1,g2,fun i m t u' hn=>(g3 i m t u' hn).frame hs (fun g off n c e _=>Own.head _ _ _ _ hi.own g off n c e),g4⟩
 ·intro r
  refine⟨(h.box r).fresh,fun hz=> ?_⟩
  obtain⟨b,cur,e,j1,j2,j3,j4,j5⟩:=(h.box r).live hz
  by_cases hm:b∈O
  ·obtain⟨us,vs,⟨c1,e1,h1,h1'⟩,⟨c2,e2,h2,h2'⟩,h3,h4,h5⟩:=hbox r b hz j1 hm
   rw[j3]at h1
   cases h1
   have hsz:c2.size=cur.size:=by rw[<-h1',<-h2']at h3;simpa using h3
   refine⟨b,c2,e2,j1,j2,h2,by rw[hsz];exact j4,fun k hk=> ?_⟩
   obtain⟨u,m1,m2,m3,m4⟩:=j5 k (by omega)
   refine⟨c2[k],by simp[hk],h4 _ (by rw[<-h2'];simp),fun hn=> ?_,m4⟩
   have:=h5 k hn
   rw[<-h1',<-h2']at this
   simp only[Array.getElem?_toList]at this
   rw[m1,Array.getElem?_eq_getElem hk]at this
   rw[QY10 this]
   have hb:=m3 id
   unfold Xe at hb⊢
   cases hc:(s.gC r k).st with
   |sc x=>rw[hc]at hb;exact VCR.mono (Gh.le.refl G) hro _ _ hb
   |ro x=>rw[hc]at hb;exact VCR.mono (Gh.le.refl G) hro _ _ hb
   |fix x=>rw[hc]at hb;exact VCR.mono (Gh.le.refl G) hro _ _ hb
   |own x d t=>rw[hc]at hb;exact hb
   |vw p=>rw[hc]at hb;exact hb
   |part x i m=>trivial
   |dead=>trivial
  ·have hsb:Q5 w w' b:=hg.block b (h.lt b (by rw[j2];simp)) hm
   refine⟨b,cur,e,j1,j2,Eq.trans hsb j3,j4,fun k hk=> ?_⟩
   obtain⟨u,m1,m2,m3,m4⟩:=j5 k hk
   refine⟨u,m1,m2,fun _=> ?_,m4⟩
   have hb:=m3 id
   unfold Xe at hb⊢
   cases hc:(s.gC r k).st with
   |sc x=>rw[hc]at hb;exact VCR.mono (Gh.le.refl G) hro _ _ hb
   |ro x=>rw[hc]at hb;exact VCR.mono (Gh.le.refl G) hro _ _ hb
   |fix x=>rw[hc]at hb;exact VCR.mono (Gh.le.refl G) hro _ _ hb
   |own x d t=>rw[hc]at hb;exact hb
   |vw p=>rw[hc]at hb;exact hb
   |part x i m=>trivial
   |dead=>trivial
 ·intro κ x hx
  have hi:=h.it κ x hx
  have hs:∀k'∈x.bl,Q5 w w' k':=fun k' hk'=>hsame k' (by rw[(hi.key k' hk').1];simp) (fun r=>by
   rw[(hi.key k' hk').1]
   obtain⟨r1,k1,rfl⟩:=hi.con
   simp)
  exact⟨Own.frame _ _ _ _ hi.own hs (fun b hb=>hro b hb),hi.sl,hi.nodup,fun b hb=>⟨(hi.key b hb).1,Nat.lt_of_lt_of_le (hi.key b hb).2 hg.size⟩,hi.con⟩
 ·intro b hb;exact Nat.lt_of_lt_of_le (h.lt b hb) hg.size
 ·exact h.own
 ·exact h.ro
 ·exact h.roR
 ·refine⟨hg.os.trans h.grow.os,hg.tape.trans h.grow.tape,hg.output.trans h.grow.output,QY17 h.grow.size hg.size,fun k hk hx=>(h.grow.block k hk hx).trans (hg.block k (Nat.lt_of_lt_of_le hk h.grow.size) (fun hm=> ?_))⟩
  rcases hO k hm with⟨_,h4⟩|⟨r,h3,h4⟩
  ·exact hx (h4 hk)
  ·exact hx (h.own k _ (hboxO r k h3 h4) hk)
 ·intro b k hl hp
  rw[h.lock b k hl (fun _ _ _ e=>e)]
  obtain⟨r,n,g1,g2⟩:=h.lockow b k hl
  obtain⟨f1,f2,f3⟩:=h.pbox r b n g1
  exact(hck r k (hp r n g1) (by rw[f1];exact g2) b (by rw[f1];exact f2)).symm
 ·exact h.lockow
 ·exact h.pbox
theorem V7.mono {w:World}{Q Q':Nat->Prop}{m:Mode}{t:Ty}{x:TV}{u:Value}{bl:List Nat}(h:V7 w Q m t x u bl) (hq:∀b,Q b->Q' b):V7 w Q' m t x u bl:=by
 obtain⟨ht,hc⟩:=h
 refine⟨ht, ?_⟩
 cases hk:takes m t with
 |true=>
  rw[hk]at hc
  have hc:Own w (m.QQ Q) m.dp x.t x.v u bl:=hc
  show Own w (m.QQ Q') m.dp x.t x.v u bl
  exact Own.mono (fun b hb=>by cases m<;>first|exact hq b hb|exact hb) _ _ _ _ hc
 |false=>
  rw[hk]at hc
  obtain⟨hb,b',hr,hQ⟩:=hc
  exact⟨hb,b',hr,fun c hcm=>hq c (hQ c hcm)⟩
theorem Xc.mono {w:World}{Q Q':Nat->Prop}:(cs:List (Mode×Ty))->(xs:List TV)->(us:List Value)->(bls:List (List Nat))->Xc w Q cs xs us bls->(∀b,Q b->Q' b)->Xc w Q' cs xs us bls
 | [],xs,us,bls,h,_=>h
 |(.junk,t)::l,xs,us,bls,⟨u,us',e,h1,h⟩,hq=>⟨u,us',e,h1,Xc.mono l xs us' bls h hq⟩
 |(.ro,t)::l,xs,us,bls,⟨x,xs',u,us',bl,bls',e1,e2,e3,hc,h⟩,hq=>⟨x,xs',u,us',bl,bls',e1,e2,e3,V7.mono hc hq,Xc.mono l xs' us' bls' h hq⟩
 |(.mut,t)::l,xs,us,bls,⟨x,xs',u,us',bl,bls',e1,e2,e3,hc,h⟩,hq=>⟨x,xs',u,us',bl,bls',e1,e2,e3,V7.mono hc hq,Xc.mono l xs' us' bls' h hq⟩
 |(.own,t)::l,xs,us,bls,⟨x,xs',u,us',bl,bls',e1,e2,e3,hc,h⟩,hq=>⟨x,xs',u,us',bl,bls',e1,e2,e3,V7.mono hc hq,Xc.mono l xs' us' bls' h hq⟩
 |(.top,t)::l,xs,us,bls,⟨x,xs',u,us',bl,bls',e1,e2,e3,hc,h⟩,hq=>⟨x,xs',u,us',bl,bls',e1,e2,e3,V7.mono hc hq,Xc.mono l xs' us' bls' h hq⟩
theorem QLM {R:Nat->List Nat->Prop}(n:Nat) (h:∀i,i<n->∃l,R i l):∃ll:List (List Nat),ll.length=n/\∀i l,ll[i]? =some l->R i l:=by
 induction n with
 |zero=>exact⟨[],rfl,fun i l e=>by simp at e⟩
 |succ n ih=>
  obtain⟨ll,h1,h2⟩:=ih fun i hi=>h i (by omega)
  obtain⟨l,hl⟩:=h n (by omega)
  refine⟨ll++[l],by simp[h1],fun i l' e=> ?_⟩
  by_cases hi:i<n
  ·rw[List.getElem?_append_left (by omega)]at e;exact h2 i l' e
  ·have hn:i=n:=by have:=(QRq.1 e).1;simp[h1]at this;omega
   subst hn
   rw[QY39 (by omega),h1]at e
   simp at e;subst e;exact hl
theorem QT.QGl {w:World}{Q:Nat->Prop}:(ts:Tys)->(x:Qm ts)->(us:List Value)->(bl:List Nat)->QT w Q false ts x us bl->∃L:List Nat,(∀b∈L,Q b)/\QT w (·∈L) false ts x us bl
 | .nil,_,_,_,h=>⟨[],by simp,h⟩
 | .cons t ts,x,us,bl,⟨u,us',b1,b2,e1,e2,h1,h2⟩=>by
   obtain⟨hb,b',hr,hQ⟩:=h1
   obtain⟨L,k1,k2⟩:=QT.QGl ts _ _ _ h2
   exact⟨b'++L,fun b hb=>(QRh.1 hb).elim (hQ b) (k1 b),u,us',b1,b2,e1,e2,⟨hb,b',hr,fun b hb=>by simp[hb]⟩,QT.mono (fun b hb=>by simp[hb]) _ _ _ _ k2⟩
theorem Own.QGl {w:World}{Q:Nat->Prop}{t:Ty}{v:Val t}{u:Value}{bl:List Nat}(h:Own w Q false t v u bl):∃L:List Nat,(∀b∈L,Q b)/\Own w (·∈L) false t v u bl:=by
 cases t with
 |sl ts=>
  rcases h with h|⟨g,off,cap,cur,e,bls,hu,hg,h1,h2,h3,hb,hl,hc⟩
  ·exact⟨[],by simp, .inl h⟩
  ·obtain⟨ll,k1,k2⟩:=QLM (R:=fun i l=>(∀b∈l,Q b)/\∀(x:Qm ts) (b:List Nat),(vl v)[i]? =some x->bls[i]? =some b->∃us,Cells w ⟨g,off,none⟩ (i*ts.len) us/\QT w (·∈l) false ts x us b) (vl v).length fun i hi=>by
    obtain⟨us,g1,g2⟩:=hc i _ _ (QRp hi) (QRp (by omega))
    obtain⟨L,m1,m2⟩:=QT.QGl _ _ _ _ g2
    refine⟨L,m1,fun x b hx hb=> ?_⟩
    rw[QRp hi]at hx
    rw[QRp (by omega)]at hb
    cases hx;cases hb
    exact⟨us,g1,m2⟩
   refine⟨ll.flatten,fun b hb=> ?_, .inr ⟨g,off,cap,cur,e,bls,hu,hg,h1,h2,h3,hb,hl,fun i x b hx hbb=> ?_⟩⟩
   ·obtain⟨l,m1,m2⟩:=QY9.1 hb
    obtain⟨i,hi⟩:=List.mem_iff_getElem?.1 m1
    exact(k2 i l hi).1 b m2
   ·have hi:i<ll.length:=by rw[k1];exact(QRq.1 hx).1
    obtain⟨us,g1,g2⟩:=(k2 i _ (QRp hi)).2 x b hx hbb
    exact⟨us,g1,QT.mono (fun c hc=>QY9.2 ⟨_,QRf hi,hc⟩) _ _ _ _ g2⟩
 |_=>exact⟨[],by simp,h⟩
theorem Xc.fin {w:World}{Q:Nat->Prop}:(cs:List (Mode×Ty))->(xs:List TV)->(us:List Value)->(bls:List (List Nat))->Xc w Q cs xs us bls->
 ∃L:List Nat,(∀b∈L,Q b)/\Xc w (·∈L) cs xs us bls/\((cs.any fun x=>x.1.rt&&QN x.2)=false->L=[])
 | [],xs,us,bls,h=>⟨[],by simp,h,fun _=>rfl⟩
 |(.junk,t)::l,xs,us,bls,⟨u,us',e,h1,h⟩=>by
  obtain⟨L,k1,k2,k3⟩:=Xc.fin l xs us' bls h
  exact⟨L,k1,⟨u,us',e,h1,k2⟩,fun hh=>k3 (by simpa[Mode.rt]using hh)⟩
 |(.ro,t)::l,xs,us,bls,⟨x,xs',u,us',bl,bls',e1,e2,e3,⟨ht,hc⟩,h⟩=>by
  obtain⟨L,k1,k2,k3⟩:=Xc.fin l xs' us' bls' h
  have htk:takes .ro t=false:=by simp[takes,Mode.QX]
  rw[htk]at hc
  obtain⟨hb,b',hr,hQ⟩:=hc
  cases hsl:QN t with
  |true=>
   refine⟨b'++L,fun b hb=>(QRh.1 hb).elim (hQ b) (k1 b),⟨x,xs',u,us',bl,bls',e1,e2,e3,⟨ht,by rw[htk];exact⟨hb,b',hr,fun c hc=>by simp[hc]⟩⟩,Xc.mono _ _ _ _ k2 (fun c hc=>by simp[hc])⟩,fun hh=> ?_⟩
   simp[Mode.rt,hsl]at hh
  |false=>
   refine⟨L,k1,⟨x,xs',u,us',bl,bls',e1,e2,e3,⟨ht,by rw[htk];exact⟨hb,[],zD hr (by rw[ht];exact hsl),by simp⟩⟩,k2⟩,fun hh=>k3 (by simpa[Mode.rt,hsl]using hh)⟩
 |(.mut,t)::l,xs,us,bls,⟨x,xs',u,us',bl,bls',e1,e2,e3,⟨ht,hc⟩,h⟩=>by
  obtain⟨L,k1,k2,k3⟩:=Xc.fin l xs' us' bls' h
  refine⟨L,k1,⟨x,xs',u,us',bl,bls',e1,e2,e3,⟨ht, ?_⟩,k2⟩,fun hh=>k3 (by simpa[Mode.rt]using hh)⟩
  cases hsl:QN t with
  |true=>rw[show takes .mut t=true by simp[takes,hsl,Mode.QX]]at hc⊢; exact hc
  |false=>
   rw[show takes .mut t=false by simp[takes,hsl]]at hc⊢
   obtain⟨hb,b',hr,hQ⟩:=hc
   exact⟨hb,[],zD hr (by rw[ht];exact hsl),by simp⟩
 |(.own,t)::l,xs,us,bls,⟨x,xs',u,us',bl,bls',e1,e2,e3,⟨ht,hc⟩,h⟩=>by
  obtain⟨L,k1,k2,k3⟩:=Xc.fin l xs' us' bls' h
  refine⟨L,k1,⟨x,xs',u,us',bl,bls',e1,e2,e3,⟨ht, ?_⟩,k2⟩,fun hh=>k3 (by simpa[Mode.rt]using hh)⟩
  cases hsl:QN t with
  |true=>rw[show takes .own t=true by simp[takes,hsl,Mode.QX]]at hc⊢; exact hc
  |false=>
   rw[show takes .own t=false by simp[takes,hsl]]at hc⊢
   obtain⟨hb,b',hr,hQ⟩:=hc
   exact⟨hb,[],zD hr (by rw[ht];exact hsl),by simp⟩
 |(.top,t)::l,xs,us,bls,⟨x,xs',u,us',bl,bls',e1,e2,e3,⟨ht,hc⟩,h⟩=>by
  obtain⟨L,k1,k2,k3⟩:=Xc.fin l xs' us' bls' h
  cases hsl:QN t with
  |true=>
   have htk:takes .top t=true:=by simp[takes,hsl,Mode.QX]
   rw[htk]at hc
   have hc:Own w Q false x.t x.v u bl:=hc
   obtain⟨L2,m1,m2⟩:=hc.QGl
   refine⟨L2++L,fun b hb=>(QRh.1 hb).elim (m1 b) (k1 b),⟨x,xs',u,us',bl,bls',e1,e2,e3,⟨ht, ?_⟩,Xc.mono _ _ _ _ k2 (fun c hc=>by simp[hc])⟩,fun hh=> ?_⟩
   ·rw[htk]
    show Own w _ false x.t x.v u bl
    exact Own.mono (fun b hb=>List.mem_append_left _ hb) _ _ _ _ m2
   ·simp[Mode.rt,hsl]at hh
  |false=>
   refine⟨L,k1,⟨x,xs',u,us',bl,bls',e1,e2,e3,⟨ht, ?_⟩,k2⟩,fun hh=>k3 (by simpa[Mode.rt,hsl]using hh)⟩
   rw[show takes .top t=false by simp[takes,hsl]]at hc⊢
   obtain⟨hb,b',hr,hQ⟩:=hc
   exact⟨hb,[],zD hr (by rw[ht];exact hsl),by simp⟩
def Stk (F:Fix) (G:Gh) (w:World) (N:List Nat):Prop:=N.Nodup/\∀b∈N,G.ow b= .free/\b<w.heap.size/\(b<F.w0.heap.size->F.X b)
theorem Stk.sub {F:Fix}{G:Gh}{w:World}{N M:List Nat}(h:Stk F G w N) (hs:M.Sublist N):Stk F G w M:=⟨h.1.sublist hs,fun b hb=>h.2 b (hs.subset hb)⟩
theorem Stk.next {F:Fix}{G G':Gh}{w:World}{N M:List Nat}(h:Stk F G w (N++M)) (hf:∀b,G.ow b= .free->b∉N->G'.ow b= .free):Stk F G' w M:=by
 obtain⟨h1,h2⟩:=h
 rw[QRi]at h1
 exact⟨h1.2.1,fun b hb=>⟨hf b (h2 b (by simp[hb])).1 (fun hm=>h1.2.2 b hm b hb rfl),(h2 b (by simp[hb])).2⟩⟩
theorem Stk.held {F:Fix}{G:Gh}{w:World}{N M:List Nat}(h:Stk F G w (N++M)) {x:TV}{u:Value}(ho:Own w (fun _=>False) true x.t x.v u N) (hs:QN x.t=true):Held F G w ⟨x,true,u,N⟩:=
 ⟨Own.yA _ _ _ _ ho,hs,(QRi.1 h.1).1,fun b hb=>h.2 b (by simp[hb])⟩
theorem Stk.QN9 {F:Fix}{G:Gh}{w:World}{N M:List Nat}(h:Stk F G w (N++M)) {x:TV}{u:Value}(ho:Own w (fun b=>G.ow b= .ro) false x.t x.v u N) (hs:QN x.t=true):Held F G w ⟨x,false,u,N⟩:=
 ⟨ho,hs,(QRi.1 h.1).1,fun b hb=>h.2 b (by simp[hb])⟩
section
variable {γ:Type}
theorem VD {F:Fix}{pd:Nat->Nat->Prop}{a:Act}{w:World}{d:Nat}{rest:List TV}{MM:List Nat}:(cs:List (Mode×Ty))->(j:Nat)->(xs:List TV)->(us:List Value)->(bls:List (List Nat))->(G:Gh)->(s:St)->RelP F pd G s a w->Xc w (fun b=>G.ow b= .ro) cs xs us bls->Stk F G w (bls.flatten++MM)->
 Sat (Z2 d j cs (xs++rest):M γ (List VC×List TV)) s fun r s'=>Qp s s'/\r.2=rest/\∃G',G.le G'/\RelP F pd G' s' a w/\VCs G' w r.1 us/\Stk F G' w MM
 | [],j,xs,us,bls,G,s,h,ho,hk=>by
   obtain⟨rfl,rfl,rfl⟩:=ho
   exact Sat.pure ⟨Qp.refl s,rfl,G,Gh.le.refl G,h,rfl,by simpa using hk⟩
 |(.junk,t)::l,j,xs,us,bls,G,s,h,⟨u,us',e,h1,ho⟩,hk=>by
  unfold Z2
  refine Sat.bind (VD l (j+1) xs us' bls G s h ho hk) ?_
  rintro⟨vs,r⟩ s' ⟨k1,k2,G',k3,k4,k5,k6⟩
  exact Sat.pure ⟨k1,k2,G',k3,k4,⟨u,us',e,h1,k5⟩,k6⟩
 |(.ro,t)::l,j,xs,us,bls,G,s,h,⟨x,xs',u,us',bl,bls',e1,e2,e3,⟨ht,hc⟩,ho⟩,hk=>by
  rw[e1]
  simp only[QRv]
  unfold Z2
  have htk:takes .ro t=false:=by simp[takes,Mode.QX]
  rw[htk]at hc
  obtain⟨hb,b',hr,hQ⟩:=hc
  rw[e3,hb,QRr,QRe]at hk
  have fin:∀(v:VC) (s':St),s'=s->VCR G w v u->Sat (do let x<-Z2 d (j+1) l (xs'++rest);pure (v::x.1,x.2):M γ (List VC×List TV)) s' fun r s'=>Qp s s'/\r.2=rest/\∃G',G.le G'/\RelP F pd G' s' a w/\VCs G' w r.1 us/\Stk F G' w MM:=by
   intro v s' es hv
   rw[es]
   refine Sat.bind (VD l (j+1) xs' us' bls' G s h ho hk) ?_
   rintro⟨vs,r⟩ s2 ⟨k1,k2,G',k3,k4,k5,k6⟩
   exact Sat.pure ⟨k1,k2,G',k3,k4,⟨u,us',e2,VCR.mono k3 (fun _ _=>rfl) _ _ hv,k5⟩,k6⟩
  split
  ·refine Sat.bind (Sat.pure (Φ:=fun v s'=>s'=s/\VC.ro x=v) ⟨rfl,rfl⟩) ?_
   rintro v s' ⟨es,rfl⟩
   exact fin _ s' es ⟨b',hr,hQ⟩
  ·refine Sat.bind (Sat.pure (Φ:=fun v s'=>s'=s/\VC.sc x=v) ⟨rfl,rfl⟩) ?_
   rintro v s' ⟨es,rfl⟩
   exact fin _ s' es ⟨b',hr,hQ⟩
 |(.mut,t)::l,j,xs,us,bls,G,s,h,⟨x,xs',u,us',bl,bls',e1,e2,e3,⟨ht,hc⟩,ho⟩,hk=>by
  rw[e1]
  simp only[QRv]
  unfold Z2
  split
  ·rename_i hsl
   rw[show takes .mut t=true by simp[takes,hsl,Mode.QX]]at hc
   rw[e3,QRr,QRc]at hk
   refine Sat.bind (zp h (hk.held hc (by rw[ht];exact hsl))) ?_
   rintro v s1 ⟨k1,G1,l1,r1,v1,f1⟩
   refine Sat.bind (VD l (j+1) xs' us' bls' G1 s1 r1 (Xc.mono _ _ _ _ ho (fun b hb=>l1.ro b hb)) (hk.next f1)) ?_
   rintro⟨vs,r⟩ s2 ⟨k2,k3,G2,l2,r2,v2,st2⟩
   exact Sat.pure ⟨k1.trans k2,k3,G2,l1.trans l2,r2,⟨u,us',e2,VCR.mono l2 (fun _ _=>rfl) _ _ v1,v2⟩,st2⟩
  ·rename_i hsl
   have hsl:QN t=false:=by cases hh:QN t with|true=>exact(hsl hh).elim|false=>rfl
   rw[show takes .mut t=false by simp[takes,hsl]]at hc
   obtain⟨hb,b',hr,hQ⟩:=hc
   rw[e3,hb,QRr,QRe]at hk
   refine Sat.bind (Sat.pure (Φ:=fun v s'=>s'=s/\VC.sc x=v) ⟨rfl,rfl⟩) ?_
   rintro v s' ⟨es,rfl⟩
   rw[es]
   refine Sat.bind (VD l (j+1) xs' us' bls' G s h ho hk) ?_
   rintro⟨vs,r⟩ s2 ⟨k1,k2,G',k3,k4,k5,k6⟩
   exact Sat.pure ⟨k1,k2,G',k3,k4,⟨u,us',e2,⟨b',Rep.frame _ _ _ _ hr (fun _ _=>rfl),fun c hc=>k3.ro c (hQ c hc)⟩,k5⟩,k6⟩
 |(.own,t)::l,j,xs,us,bls,G,s,h,⟨x,xs',u,us',bl,bls',e1,e2,e3,⟨ht,hc⟩,ho⟩,hk=>by
  rw[e1]
  simp only[QRv]
  unfold Z2
  split
  ·rename_i hsl
   rw[show takes .own t=true by simp[takes,hsl,Mode.QX]]at hc
   rw[e3,QRr,QRc]at hk
   refine Sat.bind (zp h (hk.held hc (by rw[ht];exact hsl))) ?_
   rintro v s1 ⟨k1,G1,l1,r1,v1,f1⟩
   refine Sat.bind (VD l (j+1) xs' us' bls' G1 s1 r1 (Xc.mono _ _ _ _ ho (fun b hb=>l1.ro b hb)) (hk.next f1)) ?_
   rintro⟨vs,r⟩ s2 ⟨k2,k3,G2,l2,r2,v2,st2⟩
   exact Sat.pure ⟨k1.trans k2,k3,G2,l1.trans l2,r2,⟨u,us',e2,VCR.mono l2 (fun _ _=>rfl) _ _ v1,v2⟩,st2⟩
  ·rename_i hsl
   have hsl:QN t=false:=by cases hh:QN t with|true=>exact(hsl hh).elim|false=>rfl
   rw[show takes .own t=false by simp[takes,hsl]]at hc
   obtain⟨hb,b',hr,hQ⟩:=hc
   rw[e3,hb,QRr,QRe]at hk
   refine Sat.bind (Sat.pure (Φ:=fun v s'=>s'=s/\VC.sc x=v) ⟨rfl,rfl⟩) ?_
   rintro v s' ⟨es,rfl⟩
   rw[es]
   refine Sat.bind (VD l (j+1) xs' us' bls' G s h ho hk) ?_
   rintro⟨vs,r⟩ s2 ⟨k1,k2,G',k3,k4,k5,k6⟩
   exact Sat.pure ⟨k1,k2,G',k3,k4,⟨u,us',e2,⟨b',Rep.frame _ _ _ _ hr (fun _ _=>rfl),fun c hc=>k3.ro c (hQ c hc)⟩,k5⟩,k6⟩
 |(.top,t)::l,j,xs,us,bls,G,s,h,⟨x,xs',u,us',bl,bls',e1,e2,e3,⟨ht,hc⟩,ho⟩,hk=>by
  rw[e1]
  simp only[QRv]
  unfold Z2
  split
  ·rename_i hsl
   rw[show takes .top t=true by simp[takes,hsl,Mode.QX]]at hc
   rw[e3,QRr,QRc]at hk
   refine Sat.bind (zp h (hk.QN9 hc (by rw[ht];exact hsl))) ?_
   rintro v s1 ⟨k1,G1,l1,r1,v1,f1⟩
   refine Sat.bind (VD l (j+1) xs' us' bls' G1 s1 r1 (Xc.mono _ _ _ _ ho (fun b hb=>l1.ro b hb)) (hk.next f1)) ?_
   rintro⟨vs,r⟩ s2 ⟨k2,k3,G2,l2,r2,v2,st2⟩
   exact Sat.pure ⟨k1.trans k2,k3,G2,l1.trans l2,r2,⟨u,us',e2,VCR.mono l2 (fun _ _=>rfl) _ _ v1,v2⟩,st2⟩
  ·rename_i hsl
   have hsl:QN t=false:=by cases hh:QN t with|true=>exact(hsl hh).elim|false=>rfl
   rw[show takes .top t=false by simp[takes,hsl]]at hc
   obtain⟨hb,b',hr,hQ⟩:=hc
   rw[e3,hb,QRr,QRe]at hk
   refine Sat.bind (Sat.pure (Φ:=fun v s'=>s'=s/\VC.sc x=v) ⟨rfl,rfl⟩) ?_
   rintro v s' ⟨es,rfl⟩
   rw[es]
   refine Sat.bind (VD l (j+1) xs' us' bls' G s h ho hk) ?_
   rintro⟨vs,r⟩ s2 ⟨k1,k2,G',k3,k4,k5,k6⟩
   exact Sat.pure ⟨k1,k2,G',k3,k4,⟨u,us',e2,⟨b',Rep.frame _ _ _ _ hr (fun _ _=>rfl),fun c hc=>k3.ro c (hQ c hc)⟩,k5⟩,k6⟩
theorem Kt.mono {w:World}{Q Q':Nat->Prop}(hq:∀b,Q b->Q' b):(ps:List PSig)->(xs:List TV)->(vs:List Value)->(bs:List Nat)->(bls:List (List Nat))->Kt w Q ps xs vs bs bls->Kt w Q' ps xs vs bs bls
 | [],_,_,_,_,h=>h
 |p::ps,xs,vs,bs,bls,⟨x1,x2,v,vs',b1,b2,l1,l2,e1,e2,e3,e4,h1,h2⟩=>by
  refine⟨x1,x2,v,vs',b1,b2,l1,l2,e1,e2,e3,e4, ?_,Kt.mono hq ps x2 vs' b2 l2 h2⟩
  cases p with
  |val a cs=>obtain⟨k1,us,k2,k3⟩:=h1;exact⟨k1,us,k2,Xc.mono _ _ _ _ k3 hq⟩
  |ptr cs=>obtain⟨k1,b,us,k2,k3,k4,k5⟩:=h1;exact⟨k1,b,us,k2,k3,k4,Xc.mono _ _ _ _ k5 hq⟩
  |fn g caps=>exact h1.elim
theorem Qzj {G:Gh}{w:World}{a:Bool}{v:Value}{us:List Value}{vs:List VC}(h:if a then v= .agg us.toArray else us=[v]) (hv:VCs G w vs us):Qfi G w a vs v:=by
 cases a with
 |true=>exact⟨us.toArray,h,by simpa using hv⟩
 |false=>
  have h:us=[v]:=h
  subst h
  exact⟨VCs.ones hv v (by simp),hv⟩
theorem Qvf {F:Fix}{pd:Nat->Nat->Prop}{a:Act}{w:World}{d:Nat}{rest:List TV}{MM:List Nat}:(ps:List PSig)->(j:Nat)->(xs:List TV)->(vs:List Value)->(bs:List Nat)->(bls:List (List Nat))->(G:Gh)->(s:St)->RelP F pd G s a w->Kt w (fun b=>G.ow b= .ro) ps xs vs bs bls->Stk F G w (bls.flatten++MM)->
 Sat (Qoy d j ps (xs++rest):M γ (List (Bool×List VC)×List TV)) s fun r s'=>Qp s s'/\r.2=rest/\bs=[]/\∃G',G.le G'/\RelP F pd G' s' a w/\Qiv G' w r.1 vs/\Stk F G' w MM
 | [],j,xs,vs,bs,bls,G,s,h,ho,hk=>by
   obtain⟨rfl,rfl,rfl,rfl⟩:=ho
   exact Sat.pure ⟨Qp.refl s,rfl,rfl,G,Gh.le.refl G,h,rfl,by simpa using hk⟩
 | .ptr _::ps,j,xs,vs,bs,bls,G,s,h,ho,hk=>Sat.fail
 | .fn _ _::ps,j,xs,vs,bs,bls,G,s,h,ho,hk=>Sat.fail
 | .val ag cs::ps,j,xs,vs,bs,bls,G,s,h,⟨x1,x2,v,vs',b1,b2,l1,l2,e1,e2,e3,e4,⟨h0,us,h1,h2⟩,h3⟩,hk=>by
   rw[e1,QRc]
   unfold Qoy
   rw[e4,QY21,QRc]at hk
   refine Sat.bind (VD cs j x1 us l1 G s h h2 hk) ?_
   rintro⟨ws,r⟩ s1 ⟨k1,k2,G1,g1,r1,v1,st1⟩
   simp only at k2
   subst k2
   refine Sat.bind (Qvf ps (j+cs.length) x2 vs' b2 l2 G1 s1 r1 (Kt.mono (fun b hb=>g1.ro b hb) _ _ _ _ _ h3) st1) ?_
   rintro⟨wss,r⟩ s2 ⟨m1,m2,m3,G2,g2,r2,t2,st2⟩
   exact Sat.pure ⟨k1.trans m1,m2,by rw[e3,h0,m3];rfl,G2,g1.trans g2,r2,⟨v,vs',e2,(Qzj h1 v1).mono g2 (fun _ _=>rfl),t2⟩,st2⟩
theorem QAu {s:St}{r k:Nat}{c:Con}:Sat (jU r k c:M γ Unit) s fun _ s'=>s'=s/\(s.gC r k).st= .dead/\(s.gC r k).id=c.id/\(s.gC r k).nv=c.nv:=by
 unfold jU
 refine Sat.bind (Sat.mI (Φ:=fun c' s'=>s'=s/\c'=s.gI r k) ⟨rfl,rfl⟩) ?_
 rintro c' s' ⟨es,rfl⟩
 rw[es]
 split
 ·rename_i hc
  simp only[QQ5,QY15]at hc
  refine Sat.pure ⟨rfl, ?_,hc.1.1,hc.1.2⟩
  have hs:(s.gC r k).sh.QIg=true:=hc.2
  unfold Con.st
  cases hsh:(s.gC r k).sh<;>rw[hsh]at hs<;>first|rfl|cases hs
 ·exact Sat.fail
theorem QD1 {F:Fix}{pd:Nat->Nat->Prop}{G:Gh}{s:St}{a:Act}{w w':World}(h:RelP F pd G s a w') {x:TV}{u:Value}{bl bl' ex:List Nat}{t:Ty}{b:Back}{MM:List Nat}(hx:x.t=t) (hsl:QN t=true) (hb:QjF F G s w t u bl ex b)
 (ho:Own w' (fun _=>False) true x.t x.v u bl') (hst:Stk F G w' (bl'++(ex++MM))) (hs:∀c∈ex,Q5 w w' c)
 (hck:∀r k,KE r (none,b)=true->¬pd r k->k<(s.gB r).2->∀b,G.GB r (s.gB r).1=some b->w'.cell? ⟨b,k,none⟩=w.cell? ⟨b,k,none⟩):
 Sat (Qj3 x b:M γ Unit) s fun _ s'=>Qp s s'/\∃G',G.le G'/\RelP F pd G' s' a w'/\Stk F G' w' MM:=by
 have put:∀(r k:Nat) (c:Con) (tag:Option (Nat×Nat)) (z:TV) (uz:Value) (blz:List Nat),KE r (none,b)=true->Own w' (fun _=>False) true z.t z.v uz blz->QN z.t=true->blz.Nodup->(∀q∈blz,q∈bl'\/q∈ex)->G.H r k c.id=some (z.t,uz)->
  (∀p j,tag=some (p,j)->F.T p j=some uz)->(k<(s.gB r).2->∀b,G.GB r (s.gB r).1=some b->w.cell? ⟨b,k,none⟩=some uz)->
  Sat (do jU r k c;wC r k (mkC c.id (c.nv+1) (.own z true tag)):M γ Unit) s fun _ s'=>Qp s s'/\∃G',G.le G'/\RelP F pd G' s' a w'/\Stk F G' w' MM:=by
  intro r k c tag z uz blz hat hoz hslz hnd hsub hH htag hcell
  refine Sat.bind QAu ?_
  rintro _ s1 ⟨rfl,d1,d2,d3⟩
  have hbump:=h.bump d1 d2 d3 (Nat.le_succ c.nv)
  have hg:(s1.sC r k (mkC c.id (c.nv+1) .dead)).gC r k=mkC c.id (c.nv+1) .dead:=by rw[QP,if_pos ⟨rfl,rfl⟩]
  have hfree:∀q∈blz,G.ow q= .free/\q<w'.heap.size/\(q<F.w0.heap.size->F.X q):=fun q hq=>hst.2 q (by rcases hsub q hq with h|h<;>simp[h])
  have hheld:Held F G w' ⟨z,true,uz,blz⟩:=⟨Own.yA _ _ _ _ hoz,hslz,hnd,hfree⟩
  obtain⟨p1,p2⟩:=hbump.Qx4 hheld (r:=r) (k:=k) (id:=c.id) (nv:=c.nv+1) (tag:=tag) (by rw[hg,QD]) (by rw[hg,Q1]) (by rw[hg,ZC]) hH
   (fun i m t u' hn=>by rw[(h.con r k).freshN _ _ i m (.inr ⟨d2,by rw[d3];exact QY33 _⟩)]at hn;cases hn)
   (fun hk hp b hb=>by rw[hck r k hat hp hk b hb];exact hcell hk b hb) htag
  rw[QAO]at p1
  refine Sat.wC ⟨Qp.sC _ _ _ _,_,p2,p1, ?_⟩
  have hM:Stk F G w' ((bl'++ex)++MM):=by rw[QRc];exact hst
  refine hM.next fun q hq hn=> ?_
  show(if q∈blz then Ow.key (.con r k)else G.ow q)= .free
  rw[if_neg (fun hm=>hn (by rcases hsub q hm with h|h<;>simp[h]))]
  exact hq
 cases b with
 |no=>
  obtain⟨e1,e2,e3⟩:=hb
  refine Sat.pure ⟨Qp.refl s,G,Gh.le.refl G,h, ?_⟩
  refine hst.sub ?_
  rw[e3]
  exact(QY31 _ _)
 |whole r k c tag=>
  obtain⟨e1,e2,e3,e4⟩:=hb
  unfold Qj3
  exact put r k c tag x u bl' (by simp[KE]) ho (by rw[hx];exact hsl) (QRi.1 hst.1).1 (fun q hq=> .inl hq) (by rw[hx];exact e1) e2 e3
 |nest r k c X tag i m=>
  obtain⟨uX,e1,e2,e3,e4,e5⟩:=hb
  unfold Qj3
  have hdis:=hst.1
  rw[QRi]at hdis
  obtain⟨z,blZ,f1,f2,f3,f4,f5⟩:=e5 w' x bl' hx ho hs hdis.1 (fun q hq hm=>hdis.2.2 q hq q (by simp[hm]) rfl)
  refine Sat.bind (Sat.ofO (Φ:=fun z' s'=>s'=s/\z=z') (fun z' hz=>⟨rfl,by rw[f1]at hz;exact QY10 hz⟩)) ?_
  rintro z' s1 ⟨rfl,rfl⟩
  exact put r k c tag z uX blZ (by simp[KE]) f3 (by rw[f2];exact e4) f4 (fun q hq=>(f5 q hq).symm) (by rw[f2];exact e1) e2 e3
end
def exI (i:Its):List Nat:=(i.map fun x=>x.2).flatten
def yJ:List PSig->List Cell->Nat->Nat->Prop
 | .ptr cs::ps, .ptr r _ _::as=>fun r' k'=>(r'=r/\∃x,cs[k']? =some x/\x.1.QX=false)\/yJ ps as r' k'
 |_::ps,_::as=>yJ ps as
 |_,_=>fun _ _=>False
theorem QbO:(ps:List PSig)->(as:List Cell)->∀r k,yJ ps as r k->r∈Zb ps as
 | [],as,r,k,h=>by cases as<;>exact h.elim
 | .val _ _::ps,[],r,k,h=>by exact h.elim
 | .fn _ _::ps,[],r,k,h=>by exact h.elim
 | .ptr _::ps,[],r,k,h=>by exact h.elim
 | .val _ _::ps,c::as,r,k,h=>by
   have h:yJ ps as r k:=by cases c<;>exact h
   have:=QbO ps as r k h
   cases c<;>exact this
 | .fn _ _::ps,c::as,r,k,h=>by
   have h:yJ ps as r k:=by cases c<;>exact h
   have:=QbO ps as r k h
   cases c<;>first|exact this|(simp only[Zb,QRh];exact .inr this)
 | .ptr cs::ps,c::as,r,k,h=>by
   cases c with
   |ptr r' o g=>
    rcases h with⟨rfl,_⟩|h
    ·simp[Zb]
    ·simp only[Zb,QRk];exact .inr (QbO ps as r k h)
   |_=>exact QbO ps as r k h
section
variable {γ:Type}
theorem Q5.flat {w w':World}{a:List Nat}{b:List Nat}(h:∀c∈a++b,Q5 w w' c):(∀c∈a,Q5 w w' c)/\∀c∈b,Q5 w w' c:=⟨fun c hc=>h c (by simp[hc]),fun c hc=>h c (by simp[hc])⟩
theorem yx {F:Fix}{pd:Nat->Nat->Prop}{a:Act}{w w':World}{rest:List TV}{MM rs:List Nat}(hpd:∀r k,pd r k->r∈rs):(cs:List (Mode×Ty))->(os:List (Option TV×Back))->(its:Its)->(us:List Value)->(xs:List TV)->(bls:List (List Nat))->(G:Gh)->(s:St)->
 RelP F pd G s a w'->qd F G s w cs us os its->QkB w' cs us xs bls->Stk F G w' (bls.flatten++(exI its++MM))->(∀c∈exI its,Q5 w w' c)->(∀o∈os,∀r∈rs,KE r o=false)->
 (∀r k,r∉rs->k<(s.gB r).2->(∃o∈os,KE r o=true)->∀b,G.GB r (s.gB r).1=some b->w'.cell? ⟨b,k,none⟩=w.cell? ⟨b,k,none⟩)->
 Sat (xQ cs os (xs++rest):M γ (List TV)) s fun r s'=>Qp s s'/\r=rest/\∃G',G.le G'/\RelP F pd G' s' a w'/\Stk F G' w' MM
 | [],os,its,us,xs,bls,G,s,h,ha,hb,hk,hs,hrs,hck=>by
   obtain⟨_,rfl,rfl⟩:=ha
   obtain⟨_,rfl,rfl⟩:=hb
   exact Sat.pure ⟨Qp.refl s,rfl,G,Gh.le.refl G,h,by simpa[exI]using hk⟩
 |(.mut,t)::l,os,its,us,xs,bls,G,s,h,⟨u,us',o,os',bl,ex,its',e1,e2,e3,h1,h2,h3⟩,⟨u2,us2,x,xs',bl',bls',f1,f2,f3,hx,hsl,ho,hb⟩,hk,hs,hrs,hck=>by
  rw[e1]at f1;cases f1
  rw[f2,e2]
  rw[e3,f3]at hk
  rw[e3]at hs
  have hex:exI ((bl,ex)::its')=ex++exI its':=by simp[exI]
  rw[hex]at hk hs
  obtain⟨ob,bk⟩:=o
  simp only[QRv]
  unfold xQ
  obtain⟨xo,g1,g2,g3,g4⟩:=h1 (by simp[takes,hsl,Mode.QX])
  have hst:Stk F G w' (bl'++(ex++(bls'.flatten++(exI its'++MM)))):=by
   have hp:List.Perm ((bl'::bls').flatten++((ex++exI its')++MM)) (bl'++(ex++(bls'.flatten++(exI its'++MM)))):=by
    rw[QRr,QRc,QRc]
    exact List.Perm.append_left _ (List.perm_append_comm_assoc _ _ _)
   exact⟨(hp.nodup_iff).1 hk.1,fun b hb=>hk.2 b (hp.mem_iff.2 hb)⟩
  refine Sat.bind (QD1 h hx hsl (g2▸g4) ho hst (Q5.flat hs).1 (fun r k hat hp hkk b hb=>hck r k (fun hm=> ?_) hkk ⟨(ob,bk),by rw[e2];simp,hat⟩ b hb)) ?_
  ·have:=hrs (ob,bk) (by rw[e2];simp) r hm
   rw[show KE r (ob,bk)=KE r (none,bk)from rfl,hat]at this;cases this
  rintro _ s1 ⟨k1,G1,l1,r1,st1⟩
  refine(yx hpd l os' its' us' xs' bls' G1 s1 r1 (qd.mono l1 k1 h.boxes _ _ _ _ h3) hb st1 (Q5.flat hs).2 (fun o ho=>hrs o (by rw[e2];simp[ho])) (fun r k hr hkk ⟨o,ho,hat⟩ b hbb=> ?_)).mono ?_
  ·rw[k1.gB]at hkk hbb
   obtain⟨b2,hb2⟩:=h.boxes r (by omega)
   have:=l1.GB _ _ _ hb2
   rw[hbb]at this;cases this
   exact hck r k hr hkk ⟨o,by rw[e2];simp[ho],hat⟩ b hb2
  ·rintro r s2 ⟨k2,er,G2,l2,r2,st2⟩
   exact⟨k1.trans k2,er,G2,l1.trans l2,r2,st2⟩
 |(.ro,t)::l,os,its,us,xs,bls,G,s,h,⟨u,us',o,os',bl,ex,its',e1,e2,e3,h1,h2,h3⟩,⟨u2,us2,f1,hb⟩,hk,hs,hrs,hck=>by
  rw[e1]at f1;cases f1
  rw[e2]
  have hex:exI its=ex++exI its':=by rw[e3];simp[exI]
  rw[hex]at hk hs
  unfold xQ
  refine yx hpd l os' its' us' xs bls G s h h3 hb (hk.sub (QY28 (QY23 _) (QY28 (QY31 _ _) (QY23 _)))) (Q5.flat hs).2 (fun o ho=>hrs o (by rw[e2];simp[ho])) (fun r k hr hkk ⟨o,ho,hat⟩=>hck r k hr hkk ⟨o,by rw[e2];simp[ho],hat⟩)
 |(.own,t)::l,os,its,us,xs,bls,G,s,h,⟨u,us',o,os',bl,ex,its',e1,e2,e3,h1,h2,h3⟩,⟨u2,us2,f1,hb⟩,hk,hs,hrs,hck=>by
  rw[e1]at f1;cases f1
  rw[e2]
  have hex:exI its=ex++exI its':=by rw[e3];simp[exI]
  rw[hex]at hk hs
  unfold xQ
  refine yx hpd l os' its' us' xs bls G s h h3 hb (hk.sub (QY28 (QY23 _) (QY28 (QY31 _ _) (QY23 _)))) (Q5.flat hs).2 (fun o ho=>hrs o (by rw[e2];simp[ho])) (fun r k hr hkk ⟨o,ho,hat⟩=>hck r k hr hkk ⟨o,by rw[e2];simp[ho],hat⟩)
 |(.junk,t)::l,os,its,us,xs,bls,G,s,h,⟨u,us',o,os',bl,ex,its',e1,e2,e3,h1,h2,h3⟩,⟨u2,us2,f1,hb⟩,hk,hs,hrs,hck=>by
  rw[e1]at f1;cases f1
  rw[e2]
  have hex:exI its=ex++exI its':=by rw[e3];simp[exI]
  rw[hex]at hk hs
  unfold xQ
  refine yx hpd l os' its' us' xs bls G s h h3 hb (hk.sub (QY28 (QY23 _) (QY28 (QY31 _ _) (QY23 _)))) (Q5.flat hs).2 (fun o ho=>hrs o (by rw[e2];simp[ho])) (fun r k hr hkk ⟨o,ho,hat⟩=>hck r k hr hkk ⟨o,by rw[e2];simp[ho],hat⟩)
 |(.top,t)::l,os,its,us,xs,bls,G,s,h,⟨u,us',o,os',bl,ex,its',e1,e2,e3,h1,h2,h3⟩,⟨u2,us2,f1,hb⟩,hk,hs,hrs,hck=>by
  rw[e1]at f1;cases f1
  rw[e2]
  have hex:exI its=ex++exI its':=by rw[e3];simp[exI]
  rw[hex]at hk hs
  unfold xQ
  refine yx hpd l os' its' us' xs bls G s h h3 hb (hk.sub (QY28 (QY23 _) (QY28 (QY31 _ _) (QY23 _)))) (Q5.flat hs).2 (fun o ho=>hrs o (by rw[e2];simp[ho])) (fun r k hr hkk ⟨o,ho,hat⟩=>hck r k hr hkk ⟨o,by rw[e2];simp[ho],hat⟩)
theorem Qxq {F:Fix}{pd:Nat->Nat->Prop}{G:Gh}{s:St}{a:Act}{w:World}(h:RelP F pd G s a w) {r k b:Nat}{c:CSt}{x:TV}{t:Ty}{v:Value}{bl MM:List Nat}(hc:c=(if QN t then .own x true none else .sc x)) (hx:x.t=t)
 (hgb:G.GB r (s.gB r).1=some b) (hv:w.cell? ⟨b,k,none⟩=some v) (hp:pd r k) (ho:if QN t then Own w (fun _=>False) true x.t x.v v bl else bl=[]/\Rep w x.t x.v v []) (hk:Stk F G w (bl++MM)) (hnf:∀y,(s.gC r k).st≠ .fix y):
 ∃G',G.le G'/\RelP F (fun r' k'=>pd r' k'/\¬(r'=r/\k'=k)) G' (s.sC r k (mkC ((s.gC r k).id+1) (s.gC r k).nv c)) a w/\Stk F G' w MM:=by
 have hg:(s.sC r k (mkC ((s.gC r k).id+1) (s.gC r k).nv c)).gC r k=mkC ((s.gC r k).id+1) (s.gC r k).nv c:=by rw[QP,if_pos ⟨rfl,rfl⟩]
 cases hsl:QN t with
 |true=>
  rw[hsl,if_pos rfl]at hc
  rw[hsl,if_pos rfl]at ho
  subst hc
  obtain⟨p1,p2,p3⟩:=h.put (hk.held ho (by rw[hx];exact hsl)) (r:=r) (k:=k) none (fun _=>hp) (fun _=>hnf) (fun p j e=>by cases e)
  refine⟨_,p2,p1.Qqp (b:=b) (u:=v) (p2.GB _ _ _ hgb) hv ?_ (fun y hy=> ?_),hk.next fun q hq hn=> ?_⟩
  ·rw[hg];unfold Xe;rw[QD,Q1];exact p3
  ·rw[hg,QD]at hy;cases hy
  ·show(if q∈bl then Ow.key (.con r k)else G.ow q)= .free
   rw[if_neg hn];exact hq
 |false=>
  rw[hsl,if_neg (by simp)]at hc
  rw[hsl,if_neg (by simp)]at ho
  subst hc
  obtain⟨hb,hr⟩:=ho
  have p1:=h.plain (r:=r) (k:=k) (c:= .sc x) (by intros;simp) (by intros;simp) (fun _=>hp) (fun _=>hnf)
  refine⟨G,Gh.le.refl G,p1.Qqp (b:=b) (u:=v) hgb hv ?_ (fun y hy=> ?_),hk.sub (QY31 _ _)⟩
  ·rw[hg];unfold Xe;rw[QD];exact⟨[],hr,by simp[QX]⟩
  ·rw[hg,QD]at hy;cases hy
theorem yp {F:Fix}{a:Act}{w':World}{rest:List TV}{MM:List Nat}{r b:Nat}:(cs:List (Mode×Ty))->(k:Nat)->(us vs:List Value)->(xs:List TV)->(bls:List (List Nat))->(pd:Nat->Nat->Prop)->(G:Gh)->(s:St)->
 RelP F pd G s a w'->xp w' cs us vs xs bls->G.GB r (s.gB r).1=some b->(∀j v,vs[j]? =some v->w'.cell? ⟨b,k+j,none⟩=some v)->(∀(j:Nat) (x:Mode×Ty),cs[j]? =some x->x.1.QX=false->pd r (k+j))->Stk F G w' (bls.flatten++MM)->
 Sat (Z1 r k cs (xs++rest):M γ (List TV)) s fun rr s'=>Qp s s'/\rr=rest/\∃G',G.le G'/\RelP F (fun r' k'=>pd r' k'/\¬(r'=r/\∃(j:Nat) (x:Mode×Ty),k'=k+j/\cs[j]? =some x/\x.1.QX=false)) G' s' a w'/\Stk F G' w' MM
 | [],k,us,vs,xs,bls,pd,G,s,h,hb,hgb,hm,hp,hk=>by
   obtain⟨_,_,rfl,rfl⟩:=hb
   exact Sat.pure ⟨Qp.refl s,rfl,G,Gh.le.refl G,h.pdmono (fun r' k' _ e=>⟨e,fun⟨_,j,x,_,hx,_⟩=>by simp at hx⟩),by simpa using hk⟩
 |(.ro,t)::l,k,us,vs,xs,bls,pd,G,s,h,⟨u,us',vs',e1,e2,hb⟩,hgb,hm,hp,hk=>by
  rw[Z1.eq_4]
  refine(yp l (k+1) us' vs' xs bls pd G s h hb hgb (fun j v hj=>by have:=hm (j+1) v (by rw[e2];simpa using hj);rwa[show k+(j+1)=k+1+j by omega]at this) (fun j x hj hx=>by have:=hp (j+1) x (by simpa using hj) hx;rwa[show k+(j+1)=k+1+j by omega]at this) hk).mono ?_
  rintro rr s' ⟨k1,er,G',l1,r1,st1⟩
  refine⟨k1,er,G',l1,r1.pdmono (fun r' k' _ ⟨e1,e2⟩=>⟨e1,fun⟨hr,j,x,hj,hx,hxm⟩=> ?_⟩),st1⟩
  cases j with
  |zero=>simp at hx;subst hx;simp[Mode.QX]at hxm
  |succ j=>exact e2 ⟨hr,j,x,by omega,by simpa using hx,hxm⟩
 |(.mut,t)::l,k,us,vs,xs,bls,pd,G,s,h,⟨u,us',v,vs',x,xs',bl,bls',e1,e2,e3,e4,hx,ho,hb⟩,hgb,hm,hp,hk=>by
  rw[e3,QRv]
  rw[e4,QRr,QRc]at hk
  unfold Z1
  refine Sat.bind (Sat.mI (Φ:=fun c s'=>s'=s/\c=s.gI r k) ⟨rfl,rfl⟩) ?_
  rintro c s1 ⟨es,rfl⟩
  rw[es]
  split
  ·exact Sat.fail
  ·rename_i hfx
   obtain⟨G1,l1,r1,st1⟩:=Qxq h rfl hx hgb (by have:=hm 0 v (by rw[e2];rfl);rwa[QY3]at this) (by have:=hp 0 (.mut,t) rfl rfl;rwa[QY3]at this) ho hk (zB hfx)
   refine Sat.bind (Sat.wC (Φ:=fun _ s2=>s2=s.sC r k (mkC ((s.gC r k).id+1) (s.gC r k).nv (if QN t then .own x true none else .sc x))) rfl) ?_
   rintro _ s2 rfl
   refine(yp l (k+1) us' vs' xs' bls' _ G1 _ r1 hb (l1.GB _ _ _ hgb) (fun j v hj=>by have:=hm (j+1) v (by rw[e2];simpa using hj);rwa[show k+(j+1)=k+1+j by omega]at this) (fun j x hj hx=>⟨by have:=hp (j+1) x (by simpa using hj) hx;rwa[show k+(j+1)=k+1+j by omega]at this,fun e=>by omega⟩) st1).mono ?_
   rintro rr s' ⟨k1,er,G',l2,r2,st2⟩
   refine⟨(Qp.sC _ _ _ _).trans k1,er,G',l1.trans l2,r2.pdmono (fun r' k' _ ⟨⟨e0,e1⟩,e2⟩=>⟨e0,fun⟨hr,j,x,hj,hx,hxm⟩=> ?_⟩),st2⟩
   cases j with
   |zero=>exact e1 ⟨hr,by omega⟩
   |succ j=>exact e2 ⟨hr,j,x,by omega,by simpa using hx,hxm⟩
 |(.own,t)::l,k,us,vs,xs,bls,pd,G,s,h,⟨u,us',v,vs',e1,e2,hone,hb⟩,hgb,hm,hp,hk=>by
  show Sat (do let c<-mI r k;if c.sh.jd then Qq else do wC r k (mkC (c.id+1) c.nv .dead);Z1 r (k+1) l (xs++rest):M γ (List TV)) s _
  refine Sat.bind (Sat.mI (Φ:=fun c s'=>s'=s/\c=s.gI r k) ⟨rfl,rfl⟩) ?_
  rintro c s1 ⟨es,rfl⟩
  rw[es]
  split
  ·exact Sat.fail
  ·rename_i hfx
   have hpk:pd r k:=by have:=hp 0 _ rfl rfl;rwa[QY3]at this
   have hg:(s.sC r k (mkC ((s.gC r k).id+1) (s.gC r k).nv .dead)).gC r k=mkC ((s.gC r k).id+1) (s.gC r k).nv .dead:=by rw[QP,if_pos ⟨rfl,rfl⟩]
   have p1:=h.plain (r:=r) (k:=k) (c:= .dead) (by intros;simp) (by intros;simp) (fun _=>hpk) (fun _=>zB hfx)
   have r1:=p1.Qqp (b:=b) (u:=v) hgb (by have:=hm 0 v (by rw[e2];rfl);rwa[QY3]at this) (by rw[hg];unfold Xe;rw[QD];trivial) (fun y hy=>by rw[hg,QD]at hy;cases hy)
   refine Sat.bind (Sat.wC (Φ:=fun _ s2=>s2=s.sC r k (mkC ((s.gC r k).id+1) (s.gC r k).nv .dead)) rfl) ?_
   rintro _ s2 rfl
   refine(yp l (k+1) us' vs' xs bls _ G _ r1 hb hgb (fun j v hj=>by have:=hm (j+1) v (by rw[e2];simpa using hj);rwa[show k+(j+1)=k+1+j by omega]at this) (fun j x hj hx=>⟨by have:=hp (j+1) x (by simpa using hj) hx;rwa[show k+(j+1)=k+1+j by omega]at this,fun e=>by omega⟩) hk).mono ?_
   rintro rr s' ⟨k1,er,G',l2,r2,st2⟩
   refine⟨(Qp.sC _ _ _ _).trans k1,er,G',l2,r2.pdmono (fun r' k' _ ⟨⟨e0,e1⟩,e2⟩=>⟨e0,fun⟨hr,j,x,hj,hx,hxm⟩=> ?_⟩),st2⟩
   cases j with
   |zero=>exact e1 ⟨hr,by omega⟩
   |succ j=>exact e2 ⟨hr,j,x,by omega,by simpa using hx,hxm⟩
 |(.junk,t)::l,k,us,vs,xs,bls,pd,G,s,h,⟨u,us',v,vs',e1,e2,hone,hb⟩,hgb,hm,hp,hk=>by
  show Sat (do let c<-mI r k;if c.sh.jd then Qq else do wC r k (mkC (c.id+1) c.nv .dead);Z1 r (k+1) l (xs++rest):M γ (List TV)) s _
  refine Sat.bind (Sat.mI (Φ:=fun c s'=>s'=s/\c=s.gI r k) ⟨rfl,rfl⟩) ?_
  rintro c s1 ⟨es,rfl⟩
  rw[es]
  split
  ·exact Sat.fail
  ·rename_i hfx
   have hpk:pd r k:=by have:=hp 0 _ rfl rfl;rwa[QY3]at this
   have hg:(s.sC r k (mkC ((s.gC r k).id+1) (s.gC r k).nv .dead)).gC r k=mkC ((s.gC r k).id+1) (s.gC r k).nv .dead:=by rw[QP,if_pos ⟨rfl,rfl⟩]
   have p1:=h.plain (r:=r) (k:=k) (c:= .dead) (by intros;simp) (by intros;simp) (fun _=>hpk) (fun _=>zB hfx)
   have r1:=p1.Qqp (b:=b) (u:=v) hgb (by have:=hm 0 v (by rw[e2];rfl);rwa[QY3]at this) (by rw[hg];unfold Xe;rw[QD];trivial) (fun y hy=>by rw[hg,QD]at hy;cases hy)
   refine Sat.bind (Sat.wC (Φ:=fun _ s2=>s2=s.sC r k (mkC ((s.gC r k).id+1) (s.gC r k).nv .dead)) rfl) ?_
   rintro _ s2 rfl
   refine(yp l (k+1) us' vs' xs bls _ G _ r1 hb hgb (fun j v hj=>by have:=hm (j+1) v (by rw[e2];simpa using hj);rwa[show k+(j+1)=k+1+j by omega]at this) (fun j x hj hx=>⟨by have:=hp (j+1) x (by simpa using hj) hx;rwa[show k+(j+1)=k+1+j by omega]at this,fun e=>by omega⟩) hk).mono ?_
   rintro rr s' ⟨k1,er,G',l2,r2,st2⟩
   refine⟨(Qp.sC _ _ _ _).trans k1,er,G',l2,r2.pdmono (fun r' k' _ ⟨⟨e0,e1⟩,e2⟩=>⟨e0,fun⟨hr,j,x,hj,hx,hxm⟩=> ?_⟩),st2⟩
   cases j with
   |zero=>exact e1 ⟨hr,by omega⟩
   |succ j=>exact e2 ⟨hr,j,x,by omega,by simpa using hx,hxm⟩
 |(.top,t)::l,k,us,vs,xs,bls,pd,G,s,h,⟨u,us',v,vs',e1,e2,hone,hb⟩,hgb,hm,hp,hk=>by
  show Sat (do let c<-mI r k;if c.sh.jd then Qq else do wC r k (mkC (c.id+1) c.nv .dead);Z1 r (k+1) l (xs++rest):M γ (List TV)) s _
  refine Sat.bind (Sat.mI (Φ:=fun c s'=>s'=s/\c=s.gI r k) ⟨rfl,rfl⟩) ?_
  rintro c s1 ⟨es,rfl⟩
  rw[es]
  split
  ·exact Sat.fail
  ·rename_i hfx
   have hpk:pd r k:=by have:=hp 0 _ rfl rfl;rwa[QY3]at this
   have hg:(s.sC r k (mkC ((s.gC r k).id+1) (s.gC r k).nv .dead)).gC r k=mkC ((s.gC r k).id+1) (s.gC r k).nv .dead:=by rw[QP,if_pos ⟨rfl,rfl⟩]
   have p1:=h.plain (r:=r) (k:=k) (c:= .dead) (by intros;simp) (by intros;simp) (fun _=>hpk) (fun _=>zB hfx)
   have r1:=p1.Qqp (b:=b) (u:=v) hgb (by have:=hm 0 v (by rw[e2];rfl);rwa[QY3]at this) (by rw[hg];unfold Xe;rw[QD];trivial) (fun y hy=>by rw[hg,QD]at hy;cases hy)
   refine Sat.bind (Sat.wC (Φ:=fun _ s2=>s2=s.sC r k (mkC ((s.gC r k).id+1) (s.gC r k).nv .dead)) rfl) ?_
   rintro _ s2 rfl
   refine(yp l (k+1) us' vs' xs bls _ G _ r1 hb hgb (fun j v hj=>by have:=hm (j+1) v (by rw[e2];simpa using hj);rwa[show k+(j+1)=k+1+j by omega]at this) (fun j x hj hx=>⟨by have:=hp (j+1) x (by simpa using hj) hx;rwa[show k+(j+1)=k+1+j by omega]at this,fun e=>by omega⟩) hk).mono ?_
   rintro rr s' ⟨k1,er,G',l2,r2,st2⟩
   refine⟨(Qp.sC _ _ _ _).trans k1,er,G',l2,r2.pdmono (fun r' k' _ ⟨⟨e0,e1⟩,e2⟩=>⟨e0,fun⟨hr,j,x,hj,hx,hxm⟩=> ?_⟩),st2⟩
   cases j with
   |zero=>exact e1 ⟨hr,by omega⟩
   |succ j=>exact e2 ⟨hr,j,x,by omega,by simpa using hx,hxm⟩
end
theorem QFq (i j:Its):exI (i++j)=exI i++exI j:=by simp[exI]
theorem QLK {i:Its}{b:Nat}(h:b∈exI i):b∈Qag i:=by
 obtain⟨l,h1,h2⟩:=QY9.1 h
 obtain⟨x,h3,rfl⟩:=QY18.1 h1
 exact QY9.2 ⟨_,QY18.2 ⟨x,h3,rfl⟩,by simp[h2]⟩
theorem QIG (i:Its):List.Perm (Qag i) ((qT i).flatten++exI i):=by
 induction i with
 |nil=>exact List.Perm.refl _
 |cons x i ih=>
  have e1:Qag (x::i)=x.1++(x.2++Qag i):=by simp[Qag]
  have e2:(qT (x::i)).flatten++exI (x::i)=x.1++((qT i).flatten++(x.2++exI i)):=by simp[qT,exI]
  rw[e1,e2]
  exact List.Perm.append_left _ ((List.Perm.append_left x.2 ih).trans (List.perm_append_comm_assoc _ _ _))
theorem QHI {a:Bool}{v:Value}{us us':List Value}(h:if a then v= .agg us.toArray else us=[v]) (h':if a then v= .agg us'.toArray else us'=[v]):us=us':=by
 cases a with
 |true=>
  have h:v= .agg us.toArray:=h
  have h':v= .agg us'.toArray:=h'
  rw[h]at h'
  have:us.toArray=us'.toArray:=by injection h'
  simpa using congrArg Array.toList this
 |false=>
  have h:us=[v]:=h
  have h':us'=[v]:=h'
  rw[h,h']
theorem Qqk {b b' o o':Nat}(h:JH b o=JH b' o'):b=b'/\o=o':=by
 unfold JH at h
 injection h with h
 injection h with h
 injection h with h1 h2
 exact⟨h1,h2⟩
section
variable {γ:Type}
theorem Qz0 {F:Fix}{a:Act}{w w':World}{MM rs:List Nat}{okr:Nat->Prop}{Gc:Gh}{sc:St}:(ps:List PSig)->(as:List Cell)->(avs:List Value)->(vss:List (List VC))->(uss:List (List Value))->(r0 b0:List Nat)->(oss:List (List (Option TV×Back)))->(itss:List Its)->(xs:List TV)->(bls:List (List Nat))->
 (pd:Nat->Nat->Prop)->(G:Gh)->(s:St)->RelP F pd G s a w'->QjG Gc sc w ps as avs vss uss r0 b0->Gc.le G->(∀r∈Zb ps as,s.gB r=sc.gB r)->qG F G s w ps uss oss itss->Qpd w w' ps avs xs bls->
 Stk F G w' (bls.flatten++(exI itss.flatten++MM))->(∀c∈exI itss.flatten,Q5 w w' c)->vt rs ps oss=true->(∀r k,pd r k->r∈rs)->(∀r k,yJ ps as r k->pd r k)->(Zb ps as).Nodup->(∀os∈oss,∀o∈os,∀r,KE r o=true->okr r)->
 (∀r k,r∉rs->okr r->k<(s.gB r).2->∀b,G.GB r (s.gB r).1=some b->w'.cell? ⟨b,k,none⟩=w.cell? ⟨b,k,none⟩)->
 Sat (backs ps as oss xs:M γ Unit) s fun _ s'=>Qp s s'/\∃G',G.le G'/\RelP F (fun r k=>pd r k/\¬yJ ps as r k) G' s' a w'/\Stk F G' w' MM
 | [],as,avs,vss,uss,r0,b0,oss,itss,xs,bls,pd,G,s,h,hc,hle,hgB,ha,hb,hk,hs,hok,hrs,hpd,hdis,hokr,hck=>by
   obtain⟨rfl,_⟩:=hc
   obtain⟨_,rfl,rfl⟩:=ha
   obtain⟨_,rfl,rfl⟩:=hb
   exact Sat.pure ⟨Qp.refl s,G,Gh.le.refl G,h.pdmono (fun r k _ hp=>⟨hp,fun e=>e⟩),by simpa[exI]using hk⟩
 |p::ps,as,avs,vss,uss,r0,b0,oss,itss,xs,bls,pd,G,s,h,⟨c,cs',v,avs',vs,vss',us,uss',r1,r2,b1,b2,e1,e2,e3,e4,e5,e6,hc,hcs⟩,hle,hgB,⟨us2,uss2,os,oss',its,itss',f1,f2,f3,ha,has⟩,⟨v2,avs2,x1,x2,l1,l2,g1,g2,g3,hb,hbs⟩,hk,hs,hok,hrs,hpd,hdis,hokr,hck=>by
  rw[e4]at f1;cases f1
  rw[e2]at g1;cases g1
  subst e1;subst f2;subst f3;subst g2;subst g3
  rw[QRr,QFq]at hk hs
  have step:∀(pd1:Nat->Nat->Prop) (G1:Gh) (s1:St),Qp s s1->G.le G1->RelP F pd1 G1 s1 a w'->Stk F G1 w' (l2.flatten++(exI itss'.flatten++MM))->(∀r k,pd1 r k->pd r k)->(∀r k,yJ ps cs' r k->pd1 r k)->(Zb ps cs').Nodup->(∀r∈Zb ps cs',r∈Zb (p::ps) (c::cs'))->vt rs ps oss'=true->
   (∀r k,pd1 r k->¬yJ ps cs' r k->¬yJ (p::ps) (c::cs') r k)->
   Sat (backs ps cs' oss' x2:M γ Unit) s1 fun _ s'=>Qp s s'/\∃G',G.le G'/\RelP F (fun r k=>pd r k/\¬yJ (p::ps) (c::cs') r k) G' s' a w'/\Stk F G' w' MM:=by
   intro pd1 G1 s1 k1 l1' r1' st1 hsub hpd1 hn1 hrs1 hok1 hdone
   refine(Qz0 (rs:=rs) (okr:=okr) (Gc:=Gc) (sc:=sc) ps cs' avs' vss' uss' r2 b2 oss' itss' x2 l2 pd1 G1 s1 r1' hcs (hle.trans l1') (fun r hr=>by rw[k1.gB];exact hgB r (hrs1 r hr)) ?_ hbs st1 (fun c hc=>hs c (by simp[hc])) hok1 (fun r k hp=>hrs r k (hsub r k hp)) hpd1 hn1 (fun os ho=>hokr os (by simp[ho])) (fun r k hr hokr' hkk b hbb=> ?_)).mono ?_
   ·exact qG.mono l1' k1 h.boxes _ _ _ _ has
   ·rw[k1.gB]at hkk hbb
    obtain⟨b2,hb2⟩:=h.boxes r (by omega)
    have:=l1'.GB _ _ _ hb2
    rw[hbb]at this;cases this
    exact hck r k hr hokr' hkk b hb2
   ·rintro _ s' ⟨k2,G',l3,r3,st3⟩
    exact⟨k1.trans k2,G',l1'.trans l3,r3.pdmono (fun r k _ hp=>⟨hsub r k hp.1,hdone r k hp.1 hp.2⟩),st3⟩
  have hst2:Stk F G w' (l1.flatten++(exI its++(l2.flatten++(exI itss'.flatten++MM)))):=by
   have hp:List.Perm ((l1++l2).flatten++((exI its++exI itss'.flatten)++MM)) (l1.flatten++(exI its++(l2.flatten++(exI itss'.flatten++MM)))):=by
    rw[QY21,QRc,QRc]
    exact List.Perm.append_left _ (List.perm_append_comm_assoc _ _ _)
   exact⟨(hp.nodup_iff).1 hk.1,fun b hb=>hk.2 b (hp.mem_iff.2 hb)⟩
  cases p with
  |val ag cl=>
   obtain⟨k1,k2,k3,k4,k5⟩:=hc
   subst k1
   obtain⟨us3,m1,m2⟩:=hb
   have hus:=QHI m1 k2
   subst hus
   unfold backs
   simp only[vt,QQ5,QRt]at hok
   refine Sat.bind (yx (rest:=x2) hrs cl os its us3 x1 l1 G s h ha m2 hst2 (fun c hc=>hs c (by simp[hc])) (fun o ho r hr=>by have:=hok.1 o ho r hr;simpa using this) (fun r k hr hkk ⟨o,ho,hat⟩=>hck r k hr (hokr os (by simp) o ho r hat) hkk)) ?_
   rintro rr s1 ⟨q1,rfl,G1,q2,q3,q4⟩
   exact step pd G1 s1 q1 q2 q3 q4 (fun _ _ hp=>hp) (fun r k hp=>hpd r k (by exact hp)) (by exact hdis) (fun r hr=>by exact hr) hok.2 (fun r k _ hn=>by exact hn)
  |ptr cl=>
   obtain⟨r,b,k1,k2,k3,k4,k5,k6,k7,k8,k9,k10⟩:=hc
   subst k1
   obtain⟨b',us3,vs3,m1,m2,m3,m4⟩:=hb
   rw[k6]at m1
   obtain⟨rfl,_⟩:=Qqk m1
   unfold backs
   have hgbr:G.GB r (s.gB r).1=some b:=by rw[hgB r (by simp[Zb])];exact hle.GB _ _ _ k4
   simp only[vt]at hok
   have hdis':r∉Zb ps cs'/\(Zb ps cs').Nodup:=by simpa[Zb]using hdis
   obtain⟨curv,ev,hv1,hv2⟩:=m3
   refine Sat.bind (yp (rest:=x2) (MM:=l2.flatten++(exI itss'.flatten++MM)) (b:=b) cl 0 us3 vs3 x1 l1 pd G s h m4 hgbr (fun j v hj=> ?_) (fun j x hj hx=> ?_) (hst2.sub (QY28 (QY23 _) (QY31 _ _)))) ?_
   ·rw[QRo]
    simp only[World.cell?,hv1,Option.isSome_none,QRw,if_false]
    rw[<-hv2]at hj;simpa using hj
   ·rw[QRo];exact hpd r j (.inl ⟨rfl,x,hj,hx⟩)
   rintro rr s1 ⟨q1,rfl,G1,q2,q3,q4⟩
   refine step _ G1 s1 q1 q2 q3 q4 (fun _ _ hp=>hp.1) (fun r' k hp=>⟨hpd r' k (.inr hp),fun⟨er,_⟩=> ?_⟩) hdis'.2 (fun r' hr=>by simp[Zb,hr]) hok (fun r' k hp hn e=> ?_)
   ·subst er;exact hdis'.1 (QbO _ _ _ _ hp)
   ·rcases e with⟨er,x,hx,hxm⟩|e
    ·exact hp.2 ⟨er,k,x,by omega,hx,hxm⟩
    ·exact hn e
  |fn g caps=>
   obtain⟨l,k1,k2,k3⟩:=hc
   subst k1
   obtain⟨m1,m2,m3⟩:=hb
   subst m1;subst m2
   unfold backs
   simp only[QRe]
   simp only[vt]at hok
   refine step pd G s (Qp.refl s) (Gh.le.refl G) h ?_ (fun _ _ hp=>hp) (fun r k hp=>hpd r k (by exact hp)) ?_ (fun r hr=>by simp[Zb,hr]) hok (fun r k _ hn=>by exact hn)
   ·have:=hst2
    simp only[List.flatten_nil,QRe]at this
    exact this.sub (QY31 _ _)
   ·simp only[Zb]at hdis;exact(QRi.1 hdis).2.1
 where qG.mono {F:Fix}{G G':Gh}{s s':St}{w:World}(le:G.le G') (hk:Qp s s') (hb:∀r,(s.gB r).2≠0->∃b,G.GB r (s.gB r).1=some b):(ps:List PSig)->(uss:List (List Value))->(oss:List (List (Option TV×Back)))->(itss:List Its)->qG F G s w ps uss oss itss->qG F G' s' w ps uss oss itss
  | [],_,_,_,h=>h
  |p::ps,uss,oss,itss,⟨us,uss',os,oss',its,itss',e1,e2,e3,h1,h2⟩=>⟨us,uss',os,oss',its,itss',e1,e2,e3,qd.mono le hk hb _ _ _ _ h1,qG.mono le hk hb ps uss' oss' itss' h2⟩
end
theorem RelP.QNy {F:Fix}{pd:Nat->Nat->Prop}{G:Gh}{s:St}{a:Act}{w:World}(h:RelP F pd G s a w) {d b:Nat}(hd:∀b n,¬F.pb d b n) {us:List Value}(hrow:ZB w b us) (h1:∀u∈us,u.oneCell'=true) (hfree:G.ow b= .free) (hlt:b<w.heap.size) (hX:b<F.w0.heap.size->F.X b):
 RelP F (fun r k=>pd r k\/r=d) (G.Yv d ((s.gB d).1+1) b) (s.sB d ((s.gB d).1+1,us.length)) a w/\G.le (G.Yv d ((s.gB d).1+1) b):=by
 have hle:G.le (G.Yv d ((s.gB d).1+1) b):=⟨fun _ _ _ _ h=>h,fun _ _ _ _ _ _ _ h=>h,fun r j c hb=>by
  show(if r=d/\j=(s.gB d).1+1 then some b else G.GB r j)=some c
  rw[if_neg]
  ·exact hb
  ·rintro⟨rfl,rfl⟩
   (rw [(h.box r).fresh _ (QY33 _)]at hb;cases hb),fun c hb=>by
  show(if c=b then Ow.key (.box d)else G.ow c)= .ro
  rw[if_neg]
  ·exact hb
  ·rintro rfl;rw[hfree]at hb;cases hb⟩
 have how:∀c,c≠b->(G.Yv d ((s.gB d).1+1) b).ow c=G.ow c:=fun c hb=>if_neg hb
 have hGB:∀r j,¬(r=d/\j=(s.gB d).1+1)->(G.Yv d ((s.gB d).1+1) b).GB r j=G.GB r j:=fun r j hn=>if_neg hn
 refine⟨?_,hle⟩
 constructor
 ·exact h.size
 ·exact h.defers
 ·intro i;exact QK.mono hle (fun b hb=>rfl) (h.tm i)
 ·intro r k;exact(h.con r k).mono hle rfl (fun _=>rfl) (fun _ _ _ _=>rfl)
 ·intro r
  refine⟨fun j hj=> ?_,fun hl=> ?_⟩
  ·rw[Vg]at hj
   split at hj
   ·rename_i e2;subst e2
    simp only at hj
    rw[hGB _ _ (by omega)]
    exact(h.box d).fresh _ (by omega)
   ·rename_i hne
    rw[hGB _ _ (fun e=>hne e.1.symm)]
    exact(h.box r).fresh _ hj
  ·rw[Vg]at hl⊢
   split
   ·rename_i e2;subst e2
    obtain⟨cur,e,k1,k2⟩:=hrow
    refine⟨b,cur,e,if_pos ⟨rfl,rfl⟩,if_pos rfl,k1,by rw[<-k2];simp,fun k hk=> ?_⟩
    refine⟨cur[k],by simp[hk],h1 _ (by rw[<-k2];simp),fun hn=>(hn (.inr rfl)).elim,fun hlk=> ?_⟩
    obtain⟨r2,n2,g1,_⟩:=h.lockow _ _ hlk
    have:=(h.pbox _ _ _ g1).2.2
    rw[hfree]at this;cases this
   ·rename_i hne
    rw[if_neg hne]at hl
    obtain⟨c,cur,e',k1,k2,k3,k4,k5⟩:=(h.box r).live hl
    have hb:c≠b:=fun e=>by rw[e,hfree]at k2;cases k2
    refine⟨c,cur,e',by rw[hGB _ _ (fun e=>hne e.1.symm)];exact k1,by rw[how c hb];exact k2,k3,k4,fun k hk=> ?_⟩
    obtain⟨u,m1,m2,m3,m4⟩:=k5 k hk
    exact⟨u,m1,m2,fun hn=>(m3 (fun e=>hn (.inl e))).mono hle,m4⟩
 ·intro κ x hx
  have hi:=h.it κ x hx
  refine hi.give (fun b hb=>hle.ro b hb) (fun c hb=> ?_)
  have hk:=(hi.key c hb).1
  rw[how c (fun e=>by rw[e,hfree]at hk;cases hk)]
  exact hk
 ·intro c hb
  by_cases e2:c=b
  ·subst e2;exact hlt
  ·rw[how c e2]at hb;exact h.lt c hb
 ·intro c κ hb hl
  by_cases e2:c=b
  ·subst e2;exact hX hl
  ·rw[how c e2]at hb;exact h.own c κ hb hl
 ·intro c hb hl
  by_cases e2:c=b
  ·subst e2
   have hb:(if c=c then Ow.key (.box d)else G.ow c)= .ro:=hb
   rw[if_pos rfl]at hb;cases hb
  ·rw[how c e2]at hb;exact h.ro c hb hl
 ·intro c hb;exact hle.ro c (h.roR c hb)
 ·exact h.grow
 ·intro c k hb hp
  exact h.lock c k hb (fun r n hpb hpd=>hp r n hpb (.inl hpd))
 ·exact h.lockow
 ·intro r c n hp
  have hne:¬d=r:=fun e=>hd c n (e▸hp)
  obtain⟨g1,g2,g3⟩:=h.pbox r c n hp
  refine⟨by rw[Vg,if_neg hne];exact g1,by rw[hGB _ _ (fun e=>hne e.1.symm)];exact g2, ?_⟩
  rw[how c (fun e=>by rw[e,hfree]at g3;cases g3)];exact g3
theorem V7.one {w:World}{Q:Nat->Prop}{m:Mode}{t:Ty}{x:TV}{u:Value}{bl:List Nat}(h:V7 w Q m t x u bl):u.oneCell'=true:=by
 obtain⟨_,hc⟩:=h
 split at hc
 ·obtain⟨_,hr,_⟩:=Own.rep _ _ _ _ hc;exact Rep.one _ _ _ _ hr
 ·obtain⟨_,_,hr,_⟩:=hc;exact Rep.one _ _ _ _ hr
theorem Xc.ones {w:World}{Q:Nat->Prop}:(cs:List (Mode×Ty))->(xs:List TV)->(us:List Value)->(bls:List (List Nat))->Xc w Q cs xs us bls->∀u∈us,u.oneCell'=true
 | [],xs,us,bls,h=>by rw[h.2.1];simp
 |(.junk,t)::l,xs,us,bls,⟨u,us',e,h1,h⟩=>by
  rw[e];intro x hx
  rcases QRk.1 hx with rfl|hx
  ·exact h1
  ·exact Xc.ones l xs us' bls h x hx
 |(.ro,t)::l,xs,us,bls,⟨x,xs',u,us',bl,bls',e1,e2,e3,hc,h⟩=>by
  rw[e2];intro y hy
  rcases QRk.1 hy with rfl|hy
  ·exact V7.one hc
  ·exact Xc.ones l xs' us' bls' h y hy
 |(.mut,t)::l,xs,us,bls,⟨x,xs',u,us',bl,bls',e1,e2,e3,hc,h⟩=>by
  rw[e2];intro y hy
  rcases QRk.1 hy with rfl|hy
  ·exact V7.one hc
  ·exact Xc.ones l xs' us' bls' h y hy
 |(.own,t)::l,xs,us,bls,⟨x,xs',u,us',bl,bls',e1,e2,e3,hc,h⟩=>by
  rw[e2];intro y hy
  rcases QRk.1 hy with rfl|hy
  ·exact V7.one hc
  ·exact Xc.ones l xs' us' bls' h y hy
 |(.top,t)::l,xs,us,bls,⟨x,xs',u,us',bl,bls',e1,e2,e3,hc,h⟩=>by
  rw[e2];intro y hy
  rcases QRk.1 hy with rfl|hy
  ·exact V7.one hc
  ·exact Xc.ones l xs' us' bls' h y hy
theorem Kt.fin {w:World}{Q:Nat->Prop}:(ps:List PSig)->(xs:List TV)->(vs:List Value)->(bs:List Nat)->(bls:List (List Nat))->Kt w Q ps xs vs bs bls->∃L:List Nat,(∀b∈L,Q b)/\Kt w (·∈L) ps xs vs bs bls/\(jZ ps=false->L=[])
 | [],xs,vs,bs,bls,h=>⟨[],by simp,h,fun _=>rfl⟩
 |p::ps,xs,vs,bs,bls,⟨x1,x2,v,vs',b1,b2,l1,l2,e1,e2,e3,e4,h1,h2⟩=>by
  obtain⟨L2,k1,k2,k3⟩:=Kt.fin ps x2 vs' b2 l2 h2
  have hp:∃L1:List Nat,(∀b∈L1,Q b)/\QMB w (·∈L1) p x1 v b1 l1/\((p.cs.any fun x=>x.1.rt&&QN x.2)=false->L1=[]):=by
   cases p with
   |val a cs=>
    obtain⟨m1,us,m2,m3⟩:=h1
    obtain⟨L1,n1,n2,n3⟩:=Xc.fin _ _ _ _ m3
    exact⟨L1,n1,⟨m1,us,m2,n2⟩,n3⟩
   |ptr cs=>
    obtain⟨m1,b,us,m2,m3,m4,m5⟩:=h1
    obtain⟨L1,n1,n2,n3⟩:=Xc.fin _ _ _ _ m5
    exact⟨L1,n1,⟨m1,b,us,m2,m3,m4,n2⟩,n3⟩
   |fn g caps=>exact h1.elim
  obtain⟨L1,n1,n2,n3⟩:=hp
  refine⟨L1++L2,fun b hb=>(QRh.1 hb).elim (n1 b) (k1 b),⟨x1,x2,v,vs',b1,b2,l1,l2,e1,e2,e3,e4, ?_,Kt.mono (fun b hb=>by simp[hb]) _ _ _ _ _ k2⟩,fun hh=> ?_⟩
  ·have:Kt w (·∈L1++L2) [p] x1 [v] b1 l1:=Kt.mono (Q:=(·∈L1)) (fun b hb=>by simp[hb]) [p] x1 [v] b1 l1 ⟨x1,[],v,[],b1,[],l1,[],by simp,rfl,by simp,by simp,n2,rfl,rfl,rfl,rfl⟩
   obtain⟨y1,y2,v',vs2,c1,c2,m1,m2,f1,f2,f3,f4,g1,g2⟩:=this
   obtain⟨rfl,g3,rfl,rfl⟩:=g2
   cases f2
   simp only[QY11]at f1 f3 f4
   subst f1;subst f3;subst f4
   exact g1
  ·unfold jZ at hh
   rw[List.any_cons,Bool.or_eq_false_iff]at hh
   rw[n3 hh.1,k3 hh.2];rfl
section
variable {γ:Type}
theorem QwI {F:Fix}{a:Act}{w:World}{d b:Nat}{rest:List TV}{MM:List Nat}:(cs:List (Mode×Ty))->(k:Nat)->(xs:List TV)->(us:List Value)->(bls:List (List Nat))->(pd:Nat->Nat->Prop)->(G:Gh)->(s:St)->RelP F pd G s a w->Xc w (fun b=>G.ow b= .ro) cs xs us bls->Qit cs=true->
 G.GB d (s.gB d).1=some b->(∀j v,us[j]? =some v->w.cell? ⟨b,k+j,none⟩=some v)->(∀j,j<cs.length->pd d (k+j))->Stk F G w (bls.flatten++MM)->
 Sat (QaA d k cs (xs++rest):M γ (List TV)) s fun r s'=>Qp s s'/\r=rest/\∃G',G.le G'/\RelP F (fun r' k'=>pd r' k'/\¬(r'=d/\k<=k'/\k'<k+cs.length)) G' s' a w/\Stk F G' w MM
 | [],k,xs,us,bls,pd,G,s,h,ho,hok,hgb,hm,hp,hk=>by
   obtain⟨rfl,rfl,rfl⟩:=ho
   exact Sat.pure ⟨Qp.refl s,rfl,G,Gh.le.refl G,h.pdmono (fun r' k' _ e=>⟨e,fun⟨_,h1,h2⟩=>by simp at h2;omega⟩),by simpa using hk⟩
 |(m,t)::l,k,xs,us,bls,pd,G,s,h,ho,hok,hgb,hm,hp,hk=>by
  simp only[Qit,QY29,QQ5]at hok
  have hmj:m≠ .junk:=by intro e;subst e;simp at hok
  have hmt:m≠ .top:=by intro e;subst e;simp at hok
  obtain⟨x,xs',u,us',bl,bls',e1,e2,e3,⟨hx,hc⟩,ho'⟩:∃x xs' u us' bl bls',xs=x::xs'/\us=u::us'/\bls=bl::bls'/\V7 w (fun b=>G.ow b= .ro) m t x u bl/\Xc w (fun b=>G.ow b= .ro) l xs' us' bls':=by
   cases m<;>first|exact ho|exact(hmj rfl).elim
  rw[e1,QRv]
  rw[e3,QRr,QRc]at hk
  unfold QaA
  refine Sat.bind (Sat.mI (Φ:=fun c s'=>s'=s/\c=s.gI d k) ⟨rfl,rfl⟩) ?_
  rintro c s1 ⟨es,rfl⟩
  rw[es]
  split
  ·exact Sat.fail
  ·rename_i hfx
   have hpk:pd d k:=by have:=hp 0 (by simp);rwa[QY3]at this
   have hmem:w.cell? ⟨b,k,none⟩=some u:=by have:=hm 0 u (by rw[e2];rfl);rwa[QY3]at this
   have go:∀(c:CSt),(∃G',G.le G'/\RelP F (fun r' k'=>pd r' k'/\¬(r'=d/\k'=k)) G' (s.sC d k (mkC ((s.gC d k).id+1) (s.gC d k).nv c)) a w/\Stk F G' w (bls'.flatten++MM))->
    Sat (do wC d k (mkC ((s.gI d k).id+1) (s.gI d k).nv c);QaA d (k+1) l (xs'++rest):M γ (List TV)) s fun r s'=>Qp s s'/\r=rest/\∃G',G.le G'/\RelP F (fun r' k'=>pd r' k'/\¬(r'=d/\k<=k'/\k'<k+((m,t)::l).length)) G' s' a w/\Stk F G' w MM:=by
    rintro c ⟨G1,l1,r1,st1⟩
    refine Sat.bind (Sat.wC (Φ:=fun _ s2=>s2=s.sC d k (mkC ((s.gC d k).id+1) (s.gC d k).nv c)) rfl) ?_
    rintro _ s2 rfl
    refine(QwI l (k+1) xs' us' bls' _ G1 _ r1 (Xc.mono _ _ _ _ ho' (fun b hb=>l1.ro b hb)) hok.2 (l1.GB _ _ _ hgb) (fun j v hj=>by have:=hm (j+1) v (by rw[e2];simpa using hj);rwa[show k+(j+1)=k+1+j by omega]at this) (fun j hj=>⟨by have:=hp (j+1) (by simp;omega);rwa[show k+(j+1)=k+1+j by omega]at this,fun e=>by omega⟩) st1).mono ?_
    rintro rr s' ⟨k1,er,G',l2,r2,st2⟩
    refine⟨(Qp.sC _ _ _ _).trans k1,er,G',l1.trans l2,r2.pdmono (fun r' k' _ ⟨⟨e0,e1⟩,e2⟩=>⟨e0,fun⟨hr,h1,h2⟩=> ?_⟩),st2⟩
    simp only[QY1]at h2
    by_cases hkk:k'=k
    ·exact e1 ⟨hr,hkk⟩
    ·exact e2 ⟨hr,by omega,by omega⟩
   have frs:(takes m t=QN t)->Sat (do wC d k (mkC ((s.gI d k).id+1) (s.gI d k).nv (if QN t then .own x true none else .sc x));QaA d (k+1) l (xs'++rest):M γ (List TV)) s fun r s'=>Qp s s'/\r=rest/\∃G',G.le G'/\RelP F (fun r' k'=>pd r' k'/\¬(r'=d/\k<=k'/\k'<k+((m,t)::l).length)) G' s' a w/\Stk F G' w MM:=by
    intro ht
    refine go _ (Qxq h rfl hx hgb hmem hpk ?_ hk (zB hfx))
    rw[ht]at hc
    cases hsl:QN t with
    |true=>rw[hsl,if_pos rfl]at hc;rw[if_pos rfl];cases m<;>first|exact hc|exact(hmt rfl).elim
    |false=>
     rw[hsl,if_neg (by simp)]at hc
     rw[if_neg (by simp)]
     obtain⟨hb,b',hr,_⟩:=hc
     exact⟨hb,zD hr (by rw[hx];exact hsl)⟩
   by_cases hmro:m= .ro
   ·subst hmro
    have htk:takes .ro t=false:=by simp[takes,Mode.QX]
    rw[htk,if_neg (by simp)]at hc
    obtain⟨hb,b',hr,hQ⟩:=hc
    cases hsl:QN t with
    |false=>
     have:=frs (by rw[htk,hsl])
     rw[hsl]at this
     exact this
    |true=>
     simp only[if_true]
     refine go (.ro x) ⟨G,Gh.le.refl G,(h.plain (r:=d) (k:=k) (c:= .ro x) (by intros;simp) (by intros;simp) (fun _=>hpk) (fun _=>zB hfx)).Qqp (b:=b) (u:=u) hgb hmem ?_ (fun y hy=> ?_),hk.sub (QY31 _ _)⟩
     ·rw[QP,if_pos ⟨rfl,rfl⟩];unfold Xe;rw[QD];exact⟨b',hr,hQ⟩
     ·rw[QP,if_pos ⟨rfl,rfl⟩,QD]at hy;cases hy
   ·have hm2:m= .mut\/m= .own:=by cases m<;>simp_all
    have:=frs (by rcases hm2 with rfl|rfl<;>simp[takes,Mode.QX])
    rcases hm2 with rfl|rfl<;>exact this
end
theorem QL5 {sg:Sig}(h:sg.ok=true):(sg.ps.all fun p=>Qit p.cs)=true:=by
 simp only[Sig.ok,QQ5,QRt]at h
 rw[QRt]
 exact fun p hp=>QMk (h.1 p hp)
theorem xp.spec {w:World}:(cs:List (Mode×Ty))->(us vs:List Value)->(xs:List TV)->(bls:List (List Nat))->xp w cs us vs xs bls->(∀u∈us,u.oneCell'=true)->vs.length=us.length/\(∀v∈vs,v.oneCell'=true)/\∀(k:Nat),(∀(x:Mode×Ty),cs[k]? =some x->x.1.QX=true)->vs[k]? =us[k]?
 | [],us,vs,xs,bls,h,_=>by obtain⟨rfl,rfl,_⟩:=h;simp
 |(.mut,t)::l,us,vs,xs,bls,⟨u,us',v,vs',x,xs',bl,bls',e1,e2,e3,e4,hx,ho,h⟩,hone=>by
  rw[e1]at hone
  obtain⟨h1,h2,h3⟩:=xp.spec l us' vs' xs' bls' h (fun y hy=>hone y (by simp[hy]))
  rw[e1,e2]
  refine⟨by simp[h1],fun y hy=> ?_,fun k hk=> ?_⟩
  ·rcases QRk.1 hy with rfl|hy
   ·split at ho
    ·obtain⟨_,hr,_⟩:=Own.rep _ _ _ _ ho;exact Rep.one _ _ _ _ hr
    ·exact Rep.one _ _ _ _ ho.2
   ·exact h2 y hy
  ·cases k with
   |zero=>have:=hk _ rfl;simp[Mode.QX]at this
   |succ k=>simpa using h3 k (fun x hx=>hk x (by simpa using hx))
 |(.ro,t)::l,us,vs,xs,bls,⟨u,us',vs',e1,e2,h⟩,hone=>by
  rw[e1]at hone
  obtain⟨h1,h2,h3⟩:=xp.spec l us' vs' xs bls h (fun y hy=>hone y (by simp[hy]))
  rw[e1,e2]
  refine⟨by simp[h1],fun y hy=> ?_,fun k hk=> ?_⟩
  ·rcases QRk.1 hy with rfl|hy
   ·exact hone y (by simp)
   ·exact h2 y hy
  ·cases k with
   |zero=>rfl
   |succ k=>simpa using h3 k (fun x hx=>hk x (by simpa using hx))
 |(.own,t)::l,us,vs,xs,bls,⟨u,us',v,vs',e1,e2,ho,h⟩,hone=>by
  rw[e1]at hone
  obtain⟨h1,h2,h3⟩:=xp.spec l us' vs' xs bls h (fun y hy=>hone y (by simp[hy]))
  rw[e1,e2]
  refine⟨by simp[h1],fun y hy=> ?_,fun k hk=> ?_⟩
  ·rcases QRk.1 hy with rfl|hy
   ·exact ho
   ·exact h2 y hy
  ·cases k with
   |zero=>have:=hk _ rfl;simp[Mode.QX]at this
   |succ k=>simpa using h3 k (fun x hx=>hk x (by simpa using hx))
 |(.junk,t)::l,us,vs,xs,bls,⟨u,us',v,vs',e1,e2,ho,h⟩,hone=>by
  rw[e1]at hone
  obtain⟨h1,h2,h3⟩:=xp.spec l us' vs' xs bls h (fun y hy=>hone y (by simp[hy]))
  rw[e1,e2]
  refine⟨by simp[h1],fun y hy=> ?_,fun k hk=> ?_⟩
  ·rcases QRk.1 hy with rfl|hy
   ·exact ho
   ·exact h2 y hy
  ·cases k with
   |zero=>have:=hk _ rfl;simp[Mode.QX]at this
   |succ k=>simpa using h3 k (fun x hx=>hk x (by simpa using hx))
 |(.top,t)::l,us,vs,xs,bls,⟨u,us',v,vs',e1,e2,ho,h⟩,hone=>by
  rw[e1]at hone
  obtain⟨h1,h2,h3⟩:=xp.spec l us' vs' xs bls h (fun y hy=>hone y (by simp[hy]))
  rw[e1,e2]
  refine⟨by simp[h1],fun y hy=> ?_,fun k hk=> ?_⟩
  ·rcases QRk.1 hy with rfl|hy
   ·exact ho
   ·exact h2 y hy
  ·cases k with
   |zero=>have:=hk _ rfl;simp[Mode.QX]at this
   |succ k=>simpa using h3 k (fun x hx=>hk x (by simpa using hx))
theorem QaQ.box {G:Gh}{s:St}{w:World}:(caps:List (List (Mode×Ty)))->(l:List (Nat×Nat×Nat))->(vs:List VC)->(us:List Value)->(rs bs:List Nat)->QaQ G s w caps l vs us rs bs->∀b∈bs,∃r us',(s.gB r).2≠0/\G.GB r (s.gB r).1=some b/\ZB w b us'/\(∀v∈us',v.oneCell'=true)
 | [],l,vs,us,rs,bs,h=>by obtain⟨_,_,_,_,rfl⟩:=h;simp
 |cs::caps,l,vs,us,rs,bs,⟨r,l',v1,v2,u1,u2,rs',b,bs',e1,e2,e3,e4,e5,hne,hu,h1,h2,h3,h4,h5,h6⟩=>by
  rw[e5]
  intro c hc
  rcases QRk.1 hc with rfl|hc
  ·exact⟨r,u1,by rw[h1];intro e;exact hne (QRx e),h2,h4,VCs.ones h5⟩
  ·exact QaQ.box caps l' v2 u2 rs' bs' h6 c hc
theorem QKK {G:Gh}{s:St}{w w':World}:(ps:List PSig)->(as:List Cell)->(avs:List Value)->(vss:List (List VC))->(uss:List (List Value))->(rs bs:List Nat)->(xs:List TV)->(bls:List (List Nat))->QjG G s w ps as avs vss uss rs bs->Qpd w w' ps avs xs bls->
 ∀b∈bs,∃r us vs,(s.gB r).2≠0/\G.GB r (s.gB r).1=some b/\ZB w b us/\ZB w' b vs/\vs.length=us.length/\(∀v∈vs,v.oneCell'=true)/\∀k,¬yJ ps as r k->vs[k]? =us[k]?
 | [],as,avs,vss,uss,rs,bs,xs,bls,h,hb=>by obtain⟨_,_,_,_,_,rfl⟩:=h;simp
 |p::ps,as,avs,vss,uss,rs,bs,xs,bls,⟨c,cs',v,avs',vs,vss',us,uss',r1,r2,b1,b2,e1,e2,e3,e4,e5,e6,hc,hcs⟩,⟨v2,avs2,x1,x2,l1,l2,g1,g2,g3,hb,hbs⟩=>by
  rw[e2]at g1;cases g1
  subst e1
  rw[e6]
  intro b hbm
  have hsub:∀r k,yJ ps cs' r k->yJ (p::ps) (c::cs') r k:=by
   intro r k h
   cases p with
   |val _ _=>cases c<;>exact h
   |fn _ _=>cases c<;>exact h
   |ptr _=>cases c<;>first|exact .inr h|exact h
  rcases QRh.1 hbm with hbm|hbm
  ·cases p with
   |val ag cl=>obtain⟨_,_,_,_,rfl⟩:=hc;simp at hbm
   |ptr cl=>
    obtain⟨r,b',k1,k2,k3,k4,k5,k6,k7,k8,k9,k10⟩:=hc
    subst k1;subst k10
    have hbm:b=b':=by simpa using hbm
    subst hbm
    obtain⟨b'',us3,vs3,m1,m2,m3,m4⟩:=hb
    rw[k6]at m1
    obtain⟨rfl,_⟩:=Qqk m1
    have hsz:(s.gB r).2≠0:=by rw[k2];intro e;exact k3 (QRx e)
    have hones:∀u∈us3,u.oneCell'=true:=by
     obtain⟨c1,e1',q1,q2⟩:=m2
     obtain⟨c2,e2',q3,q4⟩:=k7
     rw[q1]at q3;cases q3
     rw[<-q2,q4];exact VCs.ones k8
    obtain⟨p1,p2,p3⟩:=xp.spec cl us3 vs3 x1 l1 m4 hones
    exact⟨r,us3,vs3,hsz,k4,m2,m3,p1,p2,fun k hk=>p3 k (fun x hx=>by
     cases hxm:x.1.QX with
     |true=>rfl
     |false=>exact(hk (.inl ⟨rfl,x,hx,hxm⟩)).elim)⟩
   |fn g caps=>
    obtain⟨l,k1,k2,k3⟩:=hc
    obtain⟨m1,m2,m3⟩:=hb
    have hs:=m3 b1 k3 b hbm
    obtain⟨r,us3,q1,q2,q3,q4⟩:=QaQ.box caps l vs us r1 b1 k2 b hbm
    obtain⟨c1,e1',q5,q6⟩:=q3
    exact⟨r,us3,us3,q1,q2,⟨c1,e1',q5,q6⟩,hs us3 ⟨c1,e1',q5,q6⟩,rfl,q4,fun _ _=>rfl⟩
  ·obtain⟨r,us3,vs3,q1,q2,q3,q4,q5,q6,q7⟩:=QKK ps cs' avs' vss' uss' r2 b2 x2 l2 hcs hbs b hbm
   exact⟨r,us3,vs3,q1,q2,q3,q4,q5,q6,fun k hk=>q7 k (fun e=>hk (hsub r k e))⟩
structure CallR (F:Fix) (G:Gh) (s:St) (a:Act) (w:World) (sg:Sig) (as:List Cell) (avs:List Value) (ins:List TV) (os:List (List (Option TV×Back))) (G1:Gh) (s1:St) (vss:List (List VC)) (uss:List (List Value)) (rs bs:List Nat) (itss:List Its):Prop where
 kept:Qp s s1
 rel:Rel F G1 s1 a w
 freed:Freed F G G1 w (Qag itss.flatten)
 argsC:QjG G s w sg.ps as avs vss uss rs bs
 dist:(Zb sg.ps as).Nodup
 psArg:qG F G1 s1 w sg.ps uss os itss
 okb:vt (Zb sg.ps as) sg.ps os=true
 psIn:QcQ w (fun b=>G1.ow b= .ro\/(jZ sg.rs=false/\qA G1 b)) sg.ps ins avs bs (qT itss.flatten)
theorem QEq {γ:Type}{F:Fix}{G:Gh}{s:St}{a:Act}{w:World}(h:Rel F G s a w) {p:Pl}{tu:Ty×Value}(hp:G.PH p=some tu):
 Sat (JD p:M γ (TV×Bool×Option (Nat×Nat))) s fun x s'=>Qp s s'/\∃G',Rel F G' s' a w/\Freed F G G' w []/\VCR G' w (.ro x.1) tu.2:=by
 refine(QjM h hp).mono ?_
 rintro x s' ⟨k,G1,bl,l,r,hh,ht,_,hk,hfr,hmk,hbx⟩
 obtain⟨f1,f2,f3⟩:=r.freeze hh
 have hn:∀b,(∀r k,G.ow b≠ .key (.con r k))->b∉bl:=fun b hb hm=>by
  obtain⟨r,k,e⟩:=hk b hm
  exact hb r k e
 refine⟨k,G1.freeze bl,f1,⟨l.trans f2,QY5,by simp,by simp,fun b hb=> ?_,fun b κ hb=> ?_,fun b r hb=> ?_⟩,f3⟩
 ·exact xm (hn b fun r k e=>by rw[hb]at e;cases e) (hfr b hb)
 ·have hb:(if b∈bl then Ow.ro else G1.ow b)= .key κ:=hb
  split at hb
  ·cases hb
  ·exact hmk b κ hb
 ·show(if b∈bl then Ow.ro else G1.ow b)=_
  rw[if_neg (hn b fun r k e=>by rw[hb]at e;cases e)]
  exact hbx b r hb
theorem QKl {γ:Type}{F:Fix}{G:Gh}{s:St}{a:Act}{w:World}(h:Rel F G s a w) {m:Mode}{t:Ty}{v:VC}{u:Value}(hv:VCR G w v u):
 Sat (QA7 m t v:M γ VC) s fun v' s'=>Qp s s'/\∃G',Rel F G' s' a w/\Freed F G G' w []/\VCR G' w v' u:=by
 unfold QA7
 split
 ·rename_i p
  split
  ·obtain⟨t',hp,_⟩:=hv
   refine Sat.bind (QEq h hp) ?_
   rintro x s' ⟨k,G',r,f,hr⟩
   exact Sat.pure ⟨k,G',r,f,hr⟩
  ·exact Sat.fail
 ·exact Sat.pure ⟨Qp.refl s,G,h,Freed.refl F G w,hv⟩
theorem QzV {γ:Type}{F:Fix}{a:Act}{w:World}:(l:List (Mode×Ty))->(vs:List VC)->(us:List Value)->(G:Gh)->(s:St)->Rel F G s a w->VCs G w vs us->
 Sat (Qnb l vs:M γ (List VC)) s fun vs' s'=>Qp s s'/\∃G',Rel F G' s' a w/\Freed F G G' w []/\VCs G' w vs' us
 | [],vs,us,G,s,h,hv=>by unfold Qnb;exact Sat.pure ⟨Qp.refl s,G,h,Freed.refl F G w,hv⟩
 |_::_,[],us,G,s,h,hv=>by unfold Qnb;exact Sat.pure ⟨Qp.refl s,G,h,Freed.refl F G w,hv⟩
 |(m,t)::l,v::vs,us,G,s,h,⟨u,us',e,hv,hvs⟩=>by
  unfold Qnb
  refine Sat.bind (QKl h hv) ?_
  rintro v' s1 ⟨k1,G1,r1,f1,hv1⟩
  refine Sat.bind (QzV l vs us' G1 s1 r1 (VCs.mono f1.le (fun _ _=>rfl) _ _ hvs)) ?_
  rintro vs' s2 ⟨k2,G2,r2,f2,hv2⟩
  exact Sat.pure ⟨k1.trans k2,G2,r2,f1.trans f2,u,us',e,VCR.mono f2.le (fun _ _=>rfl) _ _ hv1,hv2⟩
theorem QJH {γ:Type}{F:Fix}{G:Gh}{s:St}{a:Act}{w:World}(h:Rel F G s a w) (p:PSig) (vs:List VC) (us:List Value) (hv:VCs G w vs us):
 Sat (QCm p vs:M γ (List VC)) s fun vs' s'=>Qp s s'/\∃G',Rel F G' s' a w/\Freed F G G' w []/\VCs G' w vs' us:=by
 unfold QCm
 split
 ·exact QzV _ _ _ _ _ h hv
 ·exact Sat.pure ⟨Qp.refl s,G,h,Freed.refl F G w,hv⟩
theorem Qzx {γ:Type}{F:Fix}{a:Act}{w:World}:(ps:List PSig)->(vss:List (List VC))->(uss:List (List Value))->(G:Gh)->(s:St)->Rel F G s a w->Qc4 G w vss uss->
 Sat (QnE ps vss:M γ (List (List VC))) s fun vss' s'=>Qp s s'/\∃G',Rel F G' s' a w/\Freed F G G' w []/\Qc4 G' w vss' uss
 | [],vss,uss,G,s,h,hv=>by unfold QnE;exact Sat.pure ⟨Qp.refl s,G,h,Freed.refl F G w,hv⟩
 |_::_,[],uss,G,s,h,hv=>by unfold QnE;exact Sat.pure ⟨Qp.refl s,G,h,Freed.refl F G w,hv⟩
 |p::ps,vs::vss,uss,G,s,h,⟨us,uss',e,hv,hvs⟩=>by
  unfold QnE
  refine Sat.bind (QJH h p vs us hv) ?_
  rintro vs' s1 ⟨k1,G1,r1,f1,hv1⟩
  refine Sat.bind (Qzx ps vss uss' G1 s1 r1 (Qc4.mono f1.le _ _ hvs)) ?_
  rintro vss' s2 ⟨k2,G2,r2,f2,hv2⟩
  exact Sat.pure ⟨k1.trans k2,G2,r2,f1.trans f2,us,uss',e,VCs.mono f2.le (fun _ _=>rfl) _ _ hv1,hv2⟩
theorem QHd {P:Program}{E:Env}{D:Xz E}{F:Fix}{G:Gh}{s:St}{a:Act}{w:World}(hE:EnvCode P E) (h:Rel F G s a w) {f0 f:Nat}{as:List Cell}{avs:List Value}(hc:yg G w as avs):
 Sat (Qsn E D f0 f as:M Unit (List (List (Option TV×Back))×Qm (E.sig f).outs)) s fun x s1=>E.fok f=true/\E.real f=f0/\∃ins,D f ins=some x.2/\∃G1 vss uss rs bs itss,CallR F G s a w (E.sig f) as avs (unpack _ ins) x.1 G1 s1 vss uss rs bs itss:=by
 unfold Qsn
 dsimp only
 split
 ·rename_i hok
  simp only[QQ5,QY15]at hok
  refine Sat.bind (QqA h (E.sig f).ps as avs hc) ?_
  rintro vss s1 ⟨es,uss,rs,bs,hA⟩
  rw[es]
  obtain⟨hv0,hbx,hrs⟩:=hA.spec
  have hfz:Sat (QAM (jZ (E.sig f).rs) (E.sig f).ps vss:M Unit (List (List VC))) s fun vss' s'=>Qp s s'/\∃G',Rel F G' s' a w/\Freed F G G' w []/\Qc4 G' w vss' uss:=by
   unfold QAM
   split
   ·exact Qzx _ _ _ _ _ h hv0
   ·exact Sat.pure ⟨Qp.refl s,G,h,Freed.refl F G w,hv0⟩
  refine Sat.bind hfz ?_
  rintro vss' s0 ⟨k0,G0,h0,f0,hv⟩
  split
  ·rename_i hdist
   split
   ·exact Sat.bind (Φ:=fun _ _=>False) Sat.fail (fun _ _ e=>e.elim)
   ·rename_i hro
    refine Sat.bind (QzA (E.sig f).ps vss' uss G0 s0 h0 hv) ?_
    rintro os s2 ⟨k2,G1,itss,r1,f1,a1⟩
    split
    ·rename_i hbk
     have hR1:jZ (E.sig f).rs=false->∀b,qA G1 b->(fun b=>G1.ow b= .ro\/(jZ (E.sig f).rs=false/\qA G1 b)) b:=fun hr b hb=> .inr ⟨hr,hb⟩
     refine Sat.bind (QuS r1 (R:=fun b=>G1.ow b= .ro\/(jZ (E.sig f).rs=false/\qA G1 b)) (ro:=jZ (E.sig f).rs) hR1 (fun b hb=> .inl hb) (E.sig f).ps vss' uss os itss (Qc4.mono f1.le _ _ hv) a1 (fun hr=> ?_)) ?_
     ·rw[hr]at hro
      simpa using hro
     rintro xs s3 ⟨es3,hp⟩
     rw[es3]
     refine Sat.bind (Sat.ofO (Φ:=fun ins s4=>s4=s2/\pack (E.sig f).ins xs=some ins) (fun ins e=>⟨rfl,e⟩)) ?_
     rintro ins s4 ⟨es4,hpk⟩
     rw[es4]
     refine Sat.bind (Sat.mcall (Φ:=fun outs s5=>s5=s2/\D f ins=some outs) (fun outs e=>⟨rfl,e⟩)) ?_
     rintro outs s5 ⟨es5,hD⟩
     rw[es5]
     obtain⟨ht,hu⟩:=Qnu _ _ _ hpk
     refine Sat.pure ⟨hok.1,hok.2,ins,hD,G1,vss,uss,rs,bs,itss,k0.trans k2,r1,f0.trans f1,hA,Qor _ hdist,a1,hbk, ?_⟩
     rw[hu]
     refine QEB (E.sig f).ps as avs vss uss rs bs xs _ hA hp ?_
     rw[ht]
     exact Qz3 _ (QL5 (hE.sig f hok.1))
    ·exact Sat.bind (Φ:=fun _ _=>False) Sat.fail (fun _ _ e=>e.elim)
  ·exact Sat.bind (Φ:=fun _ _=>False) Sat.fail (fun _ _ e=>e.elim)
 ·exact Sat.bind (Φ:=fun _ _=>False) Sat.fail (fun _ _ e=>e.elim)
theorem QCZ {G:Gh}{w:World}:(cs:List (Bool×List VC))->(us:List Value)->Qiv G w cs us->cs.length=us.length
 | [],us,h=>by rw[show us=[]from h];rfl
 |(a,vs)::cs,us,⟨u,us',e,_,h⟩=>by rw[e];simp[QCZ cs us' h]
theorem QHi {G:Gh}{w:World}:(ws:List (Bool×List VC))->(rvs:List Value)->Qiv G w ws rvs->QK G w (match ws with| [(a,vs)]=> .val a vs|l=> .tup l) (Qyn rvs)
 | [],rvs,h=>by
   rw[show rvs=[]from h]
   exact⟨#[],rfl,rfl⟩
 | [(a,vs)],rvs,⟨u,us',e,h1,h2⟩=>by
   rw[show us'=[]from h2]at e
   rw[e]
   exact h1
 |x::y::l,rvs,h=>by
  have hl:=QCZ _ _ h
  have:Qyn rvs= .tuple rvs.toArray:=by
   cases rvs with
   |nil=>rfl
   |cons v r=>cases r with
    |nil=>simp at hl
    |cons=>rfl
  rw[this]
  exact⟨rvs.toArray,rfl,by simpa using h⟩
theorem Xc.len {w:World}{Q:Nat->Prop}:(cs:List (Mode×Ty))->(xs:List TV)->(us:List Value)->(bls:List (List Nat))->Xc w Q cs xs us bls->us.length=cs.length
 | [],xs,us,bls,h=>by rw[h.2.1];rfl
 |(.junk,t)::l,xs,us,bls,⟨u,us',e,h1,h⟩=>by rw[e];simp[Xc.len l xs us' bls h]
 |(.ro,t)::l,xs,us,bls,⟨x,xs',u,us',bl,bls',e1,e2,e3,hc,h⟩=>by rw[e2];simp[Xc.len l xs' us' bls' h]
 |(.mut,t)::l,xs,us,bls,⟨x,xs',u,us',bl,bls',e1,e2,e3,hc,h⟩=>by rw[e2];simp[Xc.len l xs' us' bls' h]
 |(.own,t)::l,xs,us,bls,⟨x,xs',u,us',bl,bls',e1,e2,e3,hc,h⟩=>by rw[e2];simp[Xc.len l xs' us' bls' h]
 |(.top,t)::l,xs,us,bls,⟨x,xs',u,us',bl,bls',e1,e2,e3,hc,h⟩=>by rw[e2];simp[Xc.len l xs' us' bls' h]
theorem QjF.QnI {F:Fix}{G G':Gh}{s s':St}{w:World}{t:Ty}{u:Value}{bl ex:List Nat}{b:Back}{okr:Nat->Prop}(h:QjF F G s w t u bl ex b) (le:G.le G') (hk:∀r,okr r->s'.gB r=s.gB r) (hb:∀r,(s.gB r).2≠0->∃b,G.GB r (s.gB r).1=some b) (ho:∀r,KE r (none,b)=true->okr r):QjF F G' s' w t u bl ex b:=by
 have hcell:∀r k u',okr r->(k<(s.gB r).2->∀b,G.GB r (s.gB r).1=some b->w.cell? ⟨b,k,none⟩=some u')->(k<(s'.gB r).2->∀b,G'.GB r (s'.gB r).1=some b->w.cell? ⟨b,k,none⟩=some u'):=by
  intro r k u' hor hc hlt b hb'
  rw[hk r hor]at hlt hb'
  obtain⟨b2,hb2⟩:=hb r (by omega)
  rw[le.GB _ _ _ hb2]at hb'
  cases hb'
  exact hc hlt b hb2
 cases b with
 |no=>exact h
 |whole r k c tag=>exact⟨le.H _ _ _ _ h.1,h.2.1,hcell _ _ _ (ho r (by simp[KE])) h.2.2.1,h.2.2.2⟩
 |nest r k c X tag i m=>
  obtain⟨uX,h1,h2,h3,h4,h5⟩:=h
  exact⟨uX,le.H _ _ _ _ h1,h2,hcell _ _ _ (ho r (by simp[KE])) h3,h4,h5⟩
theorem qd.QnI {F:Fix}{G G':Gh}{s s':St}{w:World}{okr:Nat->Prop}(le:G.le G') (hk:∀r,okr r->s'.gB r=s.gB r) (hb:∀r,(s.gB r).2≠0->∃b,G.GB r (s.gB r).1=some b):(l:List (Mode×Ty))->(us:List Value)->(os:List (Option TV×Back))->(its:Its)->qd F G s w l us os its->(∀o∈os,∀r,KE r o=true->okr r)->qd F G' s' w l us os its
 | [],_,_,_,h,_=>h
 |(m,t)::l,us,os,its,⟨u,us',o,os',bl,ex,its',e1,e2,e3,h1,h2,h3⟩,ho=>
  ⟨u,us',o,os',bl,ex,its',e1,e2,e3,fun ht=>let⟨x,k1,k0,k2,k3⟩:=h1 ht;⟨x,k1,k0,k2,k3.QnI le hk hb (fun r hr=>ho o (by rw[e2];simp) r hr)⟩,h2,qd.QnI le hk hb l us' os' its' h3 (fun o' ho'=>ho o' (by rw[e2];simp[ho']))⟩
theorem qG.QnI {F:Fix}{G G':Gh}{s s':St}{w:World}{okr:Nat->Prop}(le:G.le G') (hk:∀r,okr r->s'.gB r=s.gB r) (hb:∀r,(s.gB r).2≠0->∃b,G.GB r (s.gB r).1=some b):(ps:List PSig)->(uss:List (List Value))->(oss:List (List (Option TV×Back)))->(itss:List Its)->qG F G s w ps uss oss itss->(∀os∈oss,∀o∈os,∀r,KE r o=true->okr r)->qG F G' s' w ps uss oss itss
 | [],_,_,_,h,_=>h
 |p::ps,uss,oss,itss,⟨us,uss',os,oss',its,itss',e1,e2,e3,h1,h2⟩,ho=>⟨us,uss',os,oss',its,itss',e1,e2,e3,qd.QnI le hk hb _ _ _ _ h1 (ho os (by rw[e2];simp)),qG.QnI le hk hb ps uss' oss' itss' h2 (fun os' ho'=>ho os' (by rw[e2];simp[ho']))⟩
theorem QHH {F:Fix}{G:Gh}{s:St}{a:Act}{w w':World}{sg:Sig}(hsg:sg.ok=true) (h:Rel F G s a w) {as:List Cell}{avs:List Value}{ins outs:List TV}{os:List (List (Option TV×Back))}{G1:Gh}{s1:St}{vss:List (List VC)}{uss:List (List Value)}{rs bs:List Nat}{itss:List Its}
 (hc:CallR F G s a w sg as avs ins os G1 s1 vss uss rs bs itss) {gg:Glob}{np:Fx}(hnp:BoxIn gg F np) {o:Oper}(hd:o.dst.isSome=true) {v:Value}
 (hp:FnPost w w' (fun b=>G1.ow b= .ro\/(jZ sg.rs=false/\qA G1 b)) bs (bs++(qT itss.flatten).flatten) sg outs avs v):
 Sat (call2 np (o.dst.getD 0) sg as os outs:M Unit Unit) s1 fun _ s'=>∃G',Rel F G' s' (a.put o.dst v) w':=by
 obtain⟨k1,r1,fr,hA,hdist,psA,okb,_⟩:=hc
 obtain⟨hg,rx,px,rvs,rbs,rbls,pbls,Q,eo,ev,hR,hB,hN,hNb,hQ⟩:=hp
 obtain⟨hv,hbx,hrs⟩:=hA.spec
 have hperm:=QIG itss.flatten
 have hblkn:(qT itss.flatten).flatten.Nodup/\(exI itss.flatten).Nodup/\∀b∈(qT itss.flatten).flatten,∀c∈exI itss.flatten,b≠c:=by
  have:=(hperm.nodup_iff).1 fr.nodup
  rw[QRi]at this
  exact this
 have hown:∀b∈(qT itss.flatten).flatten,G1.ow b= .free/\b<w.heap.size/\(b<F.w0.heap.size->F.X b):=fun b hb=>fr.free b (Qux hb)
 have hexf:∀b∈exI itss.flatten,G1.ow b= .free/\b<w.heap.size/\(b<F.w0.heap.size->F.X b):=fun b hb=>fr.free b (QLK hb)
 have hbs:∀b∈bs,∃r∈rs,(s.gB r).2≠0/\G.GB r (s.gB r).1=some b/\G.ow b= .key (.box r):=Yy.mem rs bs hbx
 have hbs1:∀b∈bs,∃r∈rs,(s1.gB r).2≠0/\G1.GB r (s1.gB r).1=some b/\G1.ow b= .key (.box r):=fun b hb=>by
  obtain⟨r,h1,h2,h3,h4⟩:=hbs b hb
  exact⟨r,h1,by rw[k1.gB];exact h2,by rw[k1.gB];exact fr.le.GB _ _ _ h3,fr.box _ _ h4⟩
 obtain⟨rc,hck⟩:=r1.call (pd:=yJ sg.ps as) hg (fun b hb=>by
  rcases QRh.1 hb with hb|hb
  ·obtain⟨r,_,h2,h3,_⟩:=hbs1 b hb;exact .inr ⟨r,h2,h3⟩
  ·exact .inl ⟨(hown b hb).1,(hown b hb).2.2⟩) (fun r b hz hgb hb=>by
  have howb:G1.ow b= .key (.box r):=by
   obtain⟨b',cur,e,k1,k2,_⟩:=(r1.box r).live hz
   rw[hgb]at k1;cases k1;exact k2
  rcases QRh.1 hb with hb|hb
  ·obtain⟨r',us,vs,q1,q2,q3,q4,q5,q6,q7⟩:=QKK sg.ps as avs vss uss rs bs px pbls hA hB b hb
   have:r'=r:=by
    obtain⟨b',cur,e,k1',k2,_⟩:=(r1.box r').live (by rw[k1.gB];exact q1)
    rw[k1.gB,fr.le.GB _ _ _ q2]at k1';cases k1'
    rw[howb]at k2;cases k2;rfl
   subst this
   exact⟨us,vs,q3,q4,q5,q6,q7⟩
  ·rw[(hown b hb).1]at howb;cases howb)
 obtain⟨L,hL1,hL2,hL3⟩:=Kt.fin sg.rs rx rvs rbs rbls hR
 have hLtag:∀b∈L,(G1.ow b= .ro\/(G1.ow b= .free/\(b<F.w0.heap.size->F.X b)))/\b<w'.heap.size/\b∉rbs++rbls.flatten++pbls.flatten/\b∉exI itss.flatten:=by
  intro b hb
  obtain⟨q1,q2,q3,q4⟩:=hQ b (hL1 b hb)
  have hnr:jZ sg.rs≠false:=fun e=>by rw[hL3 e]at hb;simp at hb
  rcases q2 with(q2|⟨q2,_⟩)|q2|q2
  ·exact⟨.inl q2,q1,q3,fun hm=>by rw[(hexf b hm).1]at q2;cases q2⟩
  ·exact(hnr q2).elim
  ·rcases QRh.1 q2 with q2|q2
   ·exact(q4 q2).elim
   ·exact⟨.inr ⟨(hown b q2).1,(hown b q2).2.2⟩,q1,q3,fun hm=>hblkn.2.2 b q2 b hm rfl⟩
  ·refine⟨.inr ⟨QY34 fun hn=>by have:=r1.lt b hn;omega,fun hlt=>by have:=r1.grow.size;omega⟩,q1,q3,fun hm=>by have:=(hexf b hm).2.1;omega⟩
 obtain⟨rf,lf⟩:=rc.QjV (L:=L.filter fun b=>decide (G1.ow b= .free)) (fun b hb=>by
  rw[List.mem_filter]at hb
  obtain⟨q1,q2,_⟩:=hLtag b hb.1
  have hfree:G1.ow b= .free:=by simpa using hb.2
  refine⟨hfree,q2, ?_⟩
  rcases q1 with q1|q1
  ·rw[q1]at hfree;cases hfree
  ·exact q1.2)
 generalize hG2:G1.freeze (L.filter fun b=>decide (G1.ow b= .free))=G2 at rf lf
 have hLro:∀b∈L,G2.ow b= .ro:=by
  intro b hb
  rcases(hLtag b hb).1 with q|q
  ·exact lf.ro b q
  ·rw[<-hG2];exact Qhg (by rw[List.mem_filter];exact⟨hb,by simpa using q.1⟩)
 have hfree2:∀b,G1.ow b= .free->b∉L->G2.ow b= .free:=fun b hb hn=>by
  rw[<-hG2];exact xm (fun hm=>hn (List.mem_filter.1 hm).1) hb
 have hNfree:∀b∈rbs++rbls.flatten++pbls.flatten,G1.ow b= .free/\b<w'.heap.size/\(b<F.w0.heap.size->F.X b)/\b∉exI itss.flatten:=by
  intro b hb
  obtain⟨q1,q2,q3⟩:=hNb b hb
  rcases q2 with q2|q2
  ·rcases QRh.1 q2 with q2|q2
   ·exact(q3 q2).elim
   ·exact⟨(hown b q2).1,q1,(hown b q2).2.2,fun hm=>hblkn.2.2 b q2 b hm rfl⟩
  ·exact⟨QY34 fun hn=>by have:=r1.lt b hn;omega,q1,fun hlt=>by have:=r1.grow.size;omega,fun hm=>by have:=(hexf b hm).2.1;omega⟩
 have hstk:Stk F G2 w' (rbs++(rbls.flatten++(pbls.flatten++(exI itss.flatten++[])))):=by
  have e:rbs++(rbls.flatten++(pbls.flatten++(exI itss.flatten++[])))=(rbs++rbls.flatten++pbls.flatten)++exI itss.flatten:=by simp
  rw[e]
  refine⟨?_,fun b hb=> ?_⟩
  ·rw[QRi]
   exact⟨hN,hblkn.2.1,fun b hb c hc e=>(hNfree b hb).2.2.2 (e▸hc)⟩
  ·rcases QRh.1 hb with hb|hb
   ·obtain⟨q1,q2,q3,_⟩:=hNfree b hb
    exact⟨hfree2 b q1 (fun hm=>(hLtag b hm).2.2.1 hb),q2,q3⟩
   ·obtain⟨q1,q2,q3⟩:=hexf b hb
    exact⟨hfree2 b q1 (fun hm=>(hLtag b hm).2.2.2 hb),Nat.lt_of_lt_of_le q2 hg.size,q3⟩
 have hOut:Kt w' (fun b=>G2.ow b= .ro) sg.rs rx rvs rbs rbls:=Kt.mono hLro _ _ _ _ _ hL2
 have hexs:∀c∈exI itss.flatten,Q5 w w' c:=fun c hcx=>hg.block c (hexf c hcx).2.1 (fun hm=>by
  rcases QRh.1 hm with hm|hm
  ·obtain⟨r,_,_,_,h4⟩:=hbs1 c hm
   rw[(hexf c hcx).1]at h4;cases h4
  ·exact hblkn.2.2 c hm c hcx rfl)
 have back:∀(okr:Nat->Prop) (G3:Gh) (s3:St) (pd:Nat->Nat->Prop),G2.le G3->RelP F pd G3 s3 a w'->(∀r∈Zb sg.ps as,s3.gB r=s.gB r)->(∀r,okr r->s3.gB r=s.gB r)->qG F G3 s3 w sg.ps uss os itss->Stk F G3 w' (pbls.flatten++(exI itss.flatten++[]))->(∀r k,pd r k->r∈Zb sg.ps as)->(∀r k,yJ sg.ps as r k->pd r k)->(∀l∈os,∀o∈l,∀r,KE r o=true->okr r)->
  Sat (backs sg.ps as os px:M Unit Unit) s3 fun _ s'=>Qp s3 s'/\∃G',G3.le G'/\RelP F (fun r k=>pd r k/\¬yJ sg.ps as r k) G' s' a w':=by
  intro okr G3 s3 pd l3 r3 hgB hokB psA3 st3 hpd1 hpd2 hokr
  refine(Qz0 (rs:=Zb sg.ps as) (okr:=okr) (Gc:=G) (sc:=s) (MM:=[]) sg.ps as avs vss uss rs bs os itss px pbls pd G3 s3 r3 hA ((fr.le.trans lf).trans l3) hgB psA3 hB st3 hexs okb hpd1 hpd2 hdist hokr (fun r k hr hok hk b hb=> ?_)).mono ?_
  ·rw[hokB r hok]at hk hb
   obtain⟨b2,hb2⟩:=r1.boxes r (by rw[k1.gB];omega)
   rw[k1.gB]at hb2
   have:=(lf.trans l3).GB _ _ _ hb2
   rw[hb]at this;cases this
   exact hck r k (fun hp=>hr (QbO _ _ _ _ hp)) (by rw[k1.gB];exact hk) b (by rw[k1.gB];exact hb2)
  ·rintro _ s' ⟨q1,G',q2,q3,_⟩
   exact⟨q1,G',q2,q3⟩
 unfold call2
 split
 ·rename_i cs hrs1
  rw[hrs1]at hOut
  obtain⟨x1,x2,v0,vs',b1,b2,l1,l2,e1,e2,e3,e4,⟨hne,b,us,f1,f2,f3,f4⟩,⟨rfl,rfl,rfl,rfl⟩⟩:=hOut
  simp only[QY11]at e1 e3 e4
  subst e1;subst e3;subst e4;subst e2;subst f1
  split
  ·exact Sat.fail
  ·rename_i hcond
   simp only[QY32,not_or]at hcond
   obtain⟨⟨hin,hos⟩,hbr⟩:=hcond
   have hbr':∀r∈Zb sg.ps as,r≠o.dst.getD 0:=fun r hr e=>hbr (by rw[QY27];exact⟨r,hr,by simp[e]⟩)
   have hok:Qit cs=true:=by
    simp only[Sig.ok,hrs1,QQ5]at hsg
    have:=hsg.2
    simp only[QY29,PSig.okR,QQ5]at this
    exact this.1.1.1
   obtain⟨curb,eb,hb1,hb2⟩:=f3
   have hbfree:=hstk.2 b (by simp)
   refine Sat.bind (Sat.mB (Φ:=fun g s'=>s'=s1/\g=s1.gB (o.dst.getD 0)) ⟨rfl,rfl⟩) ?_
   rintro g s2 ⟨rfl,rfl⟩
   have hulen:us.length=cs.length:=Xc.len cs rx us rbls f4
   obtain⟨rb,lb⟩:=rf.QNy (d:=o.dst.getD 0) (b:=b) (fun b n hpb=>hin (hnp.box _ _ _ hpb)) (us:=us) ⟨curb,eb,hb1,hb2⟩ (Xc.ones _ _ _ _ f4) hbfree.1 hbfree.2.1 hbfree.2.2
   rw[hulen]at rb
   refine Sat.bind (Sat.wB (Φ:=fun _ s3=>s3=s2.sB (o.dst.getD 0) ((s2.gB (o.dst.getD 0)).1+1,cs.length)) rfl) ?_
   rintro _ s3 rfl
   have hgd:(s2.sB (o.dst.getD 0) ((s2.gB (o.dst.getD 0)).1+1,cs.length)).gB (o.dst.getD 0)=((s2.gB (o.dst.getD 0)).1+1,cs.length):=by rw[Vg,if_pos rfl]
   have hgo:∀r,r≠o.dst.getD 0->(s2.sB (o.dst.getD 0) ((s2.gB (o.dst.getD 0)).1+1,cs.length)).gB r=s2.gB r:=fun r hr=>by rw[Vg,if_neg (fun e=>hr e.symm)]
   have hGBb:(G2.Yv (o.dst.getD 0) ((s2.gB (o.dst.getD 0)).1+1) b).GB (o.dst.getD 0) ((s2.gB (o.dst.getD 0)).1+1)=some b:=if_pos ⟨rfl,rfl⟩
   have hst3:Stk F (G2.Yv (o.dst.getD 0) ((s2.gB (o.dst.getD 0)).1+1) b) w' (rbls.flatten++(pbls.flatten++(exI itss.flatten++[]))):=by
    refine(show Stk F G2 w' ([b]++_)from hstk).next fun q hq hn=> ?_
    show(if q=b then Ow.key (.box (o.dst.getD 0))else G2.ow q)= .free
    rw[if_neg (fun e=>hn (by simp[e]))];exact hq
   rw[eo]
   refine Sat.bind (QwI (rest:=px) (b:=b) cs 0 rx us rbls _ _ _ rb (Xc.mono _ _ _ _ f4 (fun c hc=>lb.ro c hc)) hok (by rw[hgd];exact hGBb) (fun j v hj=> ?_) (fun j hj=> .inr rfl) hst3) ?_
   ·rw[QRo]
    simp only[World.cell?,hb1,Option.isSome_none,QRw,if_false]
    rw[<-hb2]at hj;simpa using hj
   rintro rr s4 ⟨q1,rfl,G4,q2,q3,q4⟩
   have hgB4:∀r,r≠o.dst.getD 0->s4.gB r=s.gB r:=fun r hr=>by rw[q1.gB,hgo r hr,k1.gB]
   have q3':RelP F (yJ sg.ps as) G4 s4 a w':=q3.pdmono fun r k hk hp=>by
    rcases hp.1 with hp1|hp1
    ·exact hp1
    ·subst hp1
     rw[q1.gB,hgd]at hk
     exact(hp.2 ⟨rfl,Nat.zero_le _,by simpa using hk⟩).elim
   refine Sat.bind (back (fun r=>r≠o.dst.getD 0) G4 s4 _ (lb.trans q2) q3' (fun r hr=>hgB4 r (hbr' r hr)) (fun r hr=>hgB4 r hr) ?_ q4 (fun r k hp=>QbO _ _ _ _ hp) (fun r k hp=>hp) (fun l hl o' ho' r hat e=>hos (by rw[QY27];exact⟨l,hl,by rw[QY27];exact⟨o',ho',by rw[<-e];exact hat⟩⟩))) ?_
   ·refine qG.QnI (lf.trans (lb.trans q2)) (okr:=fun r=>r≠o.dst.getD 0) (fun r hr=>by rw[hgB4 r hr,k1.gB]) r1.boxes _ _ _ _ psA (fun l hl o' ho' r hat e=>hos (by rw[QY27];exact⟨l,hl,by rw[QY27];exact⟨o',ho',by rw[<-e];exact hat⟩⟩))
   rintro _ s5 ⟨m1,G5,m2,m3⟩
   have hr5:Rel F G5 s5 a w':=m3.pdmono fun r k hk hp=>hp.2 hp.1
   have hcr:QK G5 w' (.ptr (o.dst.getD 0) 0 ((s2.gB (o.dst.getD 0)).1+1)) v:=⟨b,(q2.trans m2).GB _ _ _ hGBb,by rw[ev,f2];rfl⟩
   exact(Zk hr5 hd hcr).mono fun _ s' hr=>⟨G5,hr⟩
 ·rename_i hnr
  rw[eo]
  refine Sat.bind (Qvf (rest:=px) (MM:=pbls.flatten++(exI itss.flatten++[])) sg.rs 0 rx rvs rbs rbls G2 s1 rf hOut (hstk.sub (QY31 _ _))) ?_
  rintro⟨ws,rr⟩ s3 ⟨q1,q2,q3,G3,q4,q5,q6,q7⟩
  simp only at q2
  subst q2
  refine Sat.bind (back (fun _=>True) G3 s3 _ q4 q5 (fun r hr=>by rw[q1.gB,k1.gB]) (fun r hr=>by rw[q1.gB,k1.gB]) (qG.QnI (lf.trans q4) (okr:=fun _=>True) (fun r _=>q1.gB r) r1.boxes _ _ _ _ psA (fun _ _ _ _ _ _=>trivial)) q7 (fun r k hp=>QbO _ _ _ _ hp) (fun r k hp=>hp) (fun _ _ _ _ _ _=>trivial)) ?_
  rintro _ s5 ⟨m1,G5,m2,m3⟩
  have hr5:Rel F G5 s5 a w':=m3.pdmono fun r k hk hp=>hp.2 hp.1
  have hcr:=QHi _ _ (Qiv.mono m2 (fun _ _=>rfl) _ _ q6)
  rw[<-ev]at hcr
  exact(Zk hr5 hd hcr).mono fun _ s' hr=>⟨G5,hr⟩
theorem Qr5 {G:Gh}{w:World}{a:Act}:(cs:List Cell)->(l:List Operand)->cs.length=l.length->(∀(i:Nat) (c:Cell),cs[i]? =some c->∃x,l[i]? =some x/\QK G w c (a.eval x))->yg G w cs (l.map a.eval)
 | [],[],_,_=>rfl
 | [],_::_,h,_=>by simp at h
 |_::_,[],h,_=>by simp at h
 |c::cs,x::l,h,hc=>by
  obtain⟨x',h1,h2⟩:=hc 0 c rfl
  simp at h1;subst h1
  exact⟨a.eval x,l.map a.eval,rfl,h2,Qr5 cs l (by simpa using h) (fun i c hi=>by
   obtain⟨x',h1,h2⟩:=hc (i+1) c (by simpa using hi)
   exact⟨x',by simpa using h1,h2⟩)⟩
theorem yg.append {G:Gh}{w:World}:(a b:List Cell)->(us vs:List Value)->yg G w a us->yg G w b vs->yg G w (a++b) (us++vs)
 | [],_,us,_,h,h'=>by rw[show us=[]from h];exact h'
 |c::a,_,_,_,⟨v,vs',e,hx,h⟩,h'=>by rw[e];exact⟨v,_,rfl,hx,yg.append a _ vs' _ h h'⟩
theorem Qv5 {G:Gh}{w:World}:(l:List (Nat×Nat×Nat))->(us:List Value)->ve G l us->yg G w (l.map fun(r,o,g)=> .ptr r o g) us
 | [],us,h=>h
 |(r,o,g)::l,us,⟨b,us',h1,e,h2⟩=>⟨JH b o,us',e,⟨b,h1,rfl⟩,Qv5 l us' h2⟩
section
variable {P:Program}{E:Env}{D:Xz E}{nk:Fx}{F:Fix}{G:Gh}{s s':St}{a:Act}{w:World}{o:Oper}
theorem Qzv (hE:EnvCode P E) (hD:jf P E D) (hnk:BoxIn E.gg F nk) (h:Rel F G s a w) {f0:Nat}{as:List Cell}{avs:List Value}(hc:yg G w as avs) (hd:o.dst.isSome=true)
 (hrun:((Qqo E D nk (o.dst.getD 0) f0 as:M Unit Unit) fun _=> .ret ()).run s=some ((),s')) (hm:∀fn,P.funcs[f0]? =some fn->(fn.name== "runtime.NumGoroutine")=false->fn.body.isSome=true->(Go.execOp a.eval o).run P w= .ok (.enter f0 avs.toArray) w):
 QI P F o a w s':=by
 obtain⟨x,s1,⟨hok,hreal,ins,hDf,G1,vss,uss,rs,bs,itss,hC⟩,hrun2⟩:=QHd hE h (f0:=f0) (f:=Qoz E f0 as) hc (fun x=>(call2 nk (o.dst.getD 0) (E.sig (Qoz E f0 as)) as x.1 (unpack _ x.2):M Unit Unit) fun _=> .ret ()) ((),s') hrun
 obtain⟨fn,hf1,hf2,hf3,hf4,hf5⟩:=hE.fn _ hok
 rw[hreal]at hf1
 have hspec:=hD _ _ _ hok hDf
 rw[hreal]at hspec
 have hcr:=hC
 obtain⟨k1,r1,fr,hA,hdist,psA,okb,psIn⟩:=hC
 obtain⟨hv,hbx,hrs⟩:=hA.spec
 have hbs:∀b∈bs,∃r,G1.ow b= .key (.box r):=fun b hb=>by
  obtain⟨r,h1,h2,h3,h4⟩:=Yy.mem rs bs hbx b hb
  exact⟨r,fr.box _ _ h4⟩
 have hown:∀b∈(qT itss.flatten).flatten,G1.ow b= .free/\b<w.heap.size:=fun b hb=>⟨(fr.free b (Qux hb)).1,(fr.free b (Qux hb)).2.1⟩
 have hcalls:=hspec w (fun b=>G1.ow b= .ro\/(jZ (E.sig (Qoz E f0 as)).rs=false/\qA G1 b)) avs bs (qT itss.flatten) (E.gg.same F.w0 w (fun b hb=>h.grow.block b (hnk.gb b hb).2.2 (hnk.gb b hb).2.1) hnk.gl) (fun b hb=> .inl (r1.roR b (hnk.gb b hb).1)) psIn ?_ ?_ ?_
 ·intro K Q hK
  unfold Oper.wp
  rw[hm fn hf1 hf2 (by rw[hf3];rfl),Oper.upon_enter]
  refine hcalls.mono ?_
  rintro e w' ⟨v,rfl,hp⟩
  obtain⟨G',hr⟩:=(QHH (hE.sig _ hok) h hcr hnk hd hp).unit hrun2
  exact hK G' _ _ hr
 ·rw[QRi]
  refine⟨Yy.nodup rs bs hbx (by rw[<-hrs];exact hdist),fr.nodup.sublist (QIS _),fun b hb c hc e=> ?_⟩
  subst e
  obtain⟨r,hr⟩:=hbs b hb
  rw[(hown b hc).1]at hr;cases hr
 ·intro b hb
  rcases QRh.1 hb with hb|hb
  ·obtain⟨r,hr⟩:=hbs b hb
   exact r1.lt b (by rw[hr];simp)
  ·exact(hown b hb).2
 ·intro b hb
  have htag:qA G1 b:=by rcases hb with h|h;exact .inl h;exact h.2
  refine⟨r1.lt b (by rcases htag with h|⟨r,k,h⟩<;>rw[h]<;>simp),fun hm=> ?_⟩
  rcases QRh.1 hm with hm|hm
  ·obtain⟨r,hr⟩:=hbs b hm
   rcases htag with h|⟨r,k,h⟩<;>rw[h]at hr<;>cases hr
  ·rcases htag with h|⟨r,k,h⟩<;>rw[(hown b hm).1]at h<;>cases h
theorem QrL {f:FuncId}{args:Array Value}{fn:Func}(h1:P.funcs[f]? =some fn) (h2:(fn.name== "runtime.NumGoroutine")=false) (h3:fn.body.isSome=true):(callFunc f args).run P w= .ok (.enter f args) w:=by
 have h4:fn.body.isNone=false:=by cases hb:fn.body with|none=>rw[hb]at h3;cases h3|some _=>rfl
 have h2':¬fn.name= "runtime.NumGoroutine" :=by simpa using h2
 have h4':¬fn.body=none:=by rw[Option.isNone_eq_false_iff,Option.isSome_iff_ne_none]at h4;exact h4
 simp[callFunc,h1,h2',h4']
theorem QJL (hE:EnvCode P E) (hD:jf P E D) (hnk:BoxIn E.gg F nk) (h:Rel F G s a w) {f:FuncId}{args:Array Operand}{tys:Array TypeId}(ho:o.op= .call {callee:= .value (.func f),args:=args,argTypes:=tys})
 (hrun:(KG (execOp E D nk o)).run s=some ((),s')):QI P F o a w s':=by
 unfold KG at hrun
 simp only[execOp,ho,XQ,QQ4,QRn]at hrun
 split at hrun
 ·cases hrun
 ·rename_i hd
  have hd:=Jg hd
  unfold QqV at hrun
  obtain⟨cs,s1,⟨es,hl,hcs⟩,hrun2⟩:=jD args.toList s h (fun as=>(Qqo E D nk (o.dst.getD 0) f as:M Unit Unit) fun _=> .ret ()) ((),s') hrun
  rw[es]at hrun2
  refine Qzv hE hD hnk h (Qr5 cs args.toList hl hcs) hd hrun2 (fun fn h1 h2 h3=> ?_)
  have:=QrL (P:=P) (w:=w) (args:=args.map a.eval) h1 h2 h3
  rw[show(args.toList.map a.eval).toArray=args.map a.eval from by apply Array.ext';simp]
  simp only[Go.execOp,ho,resolve,Act.eval,Deferred.ofValue,Sem.run_bind,Sem.run_pure,Result.andThen_ok,invoke]
  simpa using this
theorem QIM (hE:EnvCode P E) (hD:jf P E D) (hnk:BoxIn E.gg F nk) (h:Rel F G s a w) {t:Tmp}{args:Array Operand}{tys:Array TypeId}(ho:o.op= .call {callee:= .value (.tmp t),args:=args,argTypes:=tys})
 (hrun:(KG (execOp E D nk o)).run s=some ((),s')):QI P F o a w s':=by
 unfold KG at hrun
 simp only[execOp,ho,XQ,QQ4,QRn]at hrun
 split at hrun
 ·cases hrun
 ·rename_i hd
  have hd:=Jg hd
  unfold Qwy at hrun
  obtain⟨c,s1,⟨es,hc⟩,hrun2⟩:=XM (γ:=Unit) h (.tmp t) _ ((),s') hrun
  rw[es]at hrun2
  obtain⟨cs,s2,⟨es2,hl,hcs⟩,hrun3⟩:=jD args.toList s h _ ((),s') hrun2
  rw[es2]at hrun3
  cases c with
  |fn f caps=>
   obtain⟨us,hv,hu⟩:=hc
   refine Qzv hE hD hnk h (yg.append _ _ _ _ (Qr5 cs args.toList hl hcs) (Qv5 caps us.toList hu)) hd hrun3 (fun fn h1 h2 h3=> ?_)
   have:=QrL (P:=P) (w:=w) (args:=args.map a.eval++us) h1 h2 h3
   rw[show(args.toList.map a.eval++us.toList).toArray=args.map a.eval++us from by apply Array.ext';simp]
   simp only[Go.execOp,ho,resolve,hv,Deferred.ofValue,Sem.run_bind,Sem.run_pure,Result.andThen_ok,invoke]
   simpa using this
  |_=>cases hrun3
theorem QrZ (hT:XZ P E) (hE:EnvCode P E) (hD:jf P E D) (hnk:BoxIn E.gg F nk) (h:Rel F G s a w) (hrun:(KG (execOp E D nk o)).run s=some ((),s')):QI P F o a w s':=by
 have no:(execOp E D nk o:M Unit Unit)=Qq->QI P F o a w s':=fun e=>by unfold KG at hrun;rw[e]at hrun;cases hrun
 have no2:(execOp E D nk o:M Unit Unit)=(if o.dst.isNone&& !XQ o.op then Qq else Qq)->QI P F o a w s':=fun e=>no (by rw[e];split<;>rfl)
 cases ho:o.op with
 |move x=>exact(QLu ho h).unit hrun
 |assign x=>exact(QHC hT ho h).unit hrun
 |pick c x y=>exact(QLA ho h).unit hrun
 |alloc T=>exact(QI8 hT hnk ho h).unit hrun
 |box T x=>exact(QMp hT hnk ho h).unit hrun
 |build T parts=>exact(QJF hT ho h).unit hrun
 |buildSlice T len parts=>exact(QAG hT ho h).unit hrun
 |load T x=>exact(QLw hT ho h).unit hrun
 |store T x y=>exact(QIQ hT ho h).unit hrun
 |nilCheck x=>exact(QDW ho h).unit hrun
 |binOp op T x y T'=>exact(QIZ hT ho h).unit hrun
 |unOp u t x=>exact(QLL ho h).unit hrun
 |convert src dst x=>exact(QGr hT ho h).unit hrun
 |makeSlice T l c=>exact(QCj hT ho h).unit hrun
 |slice T x lo hi mx=>
  cases mx with
  |none=>exact(QI0 hT ho h).unit hrun
  |some m=>exact no2 (by simp only[execOp,ho])
 |fieldAddr T x f=>exact(QCi hT ho h).unit hrun
 |indexAddr T x ix=>exact(QCc hT ho h).unit hrun
 |index T x ix=>exact(QJM hT ho h).unit hrun
 |extract t i=>exact(QFG ho h).unit hrun
 |makeFunc fn first caps=>
  cases fn with
  |func g=>exact(QEe ho h).unit hrun
  |_=>exact no2 (by simp only[execOp,ho])
 |call c=>
  obtain⟨callee,args,tys⟩:=c
  cases callee with
  |value f=>
   cases f with
   |func f=>exact QJL hE hD hnk h ho hrun
   |tmp t=>exact QIM hE hD hnk h ho hrun
   |_=>exact no2 (by simp only[execOp,ho])
  |invoke r m=>exact no2 (by simp only[execOp,ho])
  |builtin b=>exact(QGq hT ho h).unit hrun
 |_=>exact no2 (by simp only[execOp,ho])
theorem Qrm (hT:XZ P E) (hE:EnvCode P E) (hD:jf P E D) (hnk:BoxIn E.gg F nk) {ops:Array Oper}{i:Nat}(hi:ops[i]? =some o) (h:Rel F G s a w) (hrun:(KG (xW E D nk ops.toList o)).run s=some ((),s'))
 (K:Act->World->Prop) (Q:Exit->Act->World->Prop) (hK:∀G' a' w',Rel F G' s' a' w'->K a' w'):wpOp P ops Q i K a w:=by
 unfold wpOp
 rw[hi]
 simp only
 unfold xW at hrun
 cases hg:o.guard with
 |none=>
  rw[hg]at hrun
  rw[if_pos (by simp[Region.wanted,hg])]
  exact .inl (QrZ hT hE hD hnk h hrun K Q hK)
 |some jw=>
  obtain⟨j,want⟩:=jw
  rw[hg]at hrun
  simp only at hrun
  cases ht:(ops.toList[j]?).bind (·.dst)with
  |none=>rw[ht]at hrun;cases hrun
  |some t=>
   rw[ht]at hrun
   have ht':(ops[j]?).bind (·.dst)=some t:=by simpa using ht
   simp only[KG,RP.run]at hrun
   have hskip:((YD o.dst .und:M Unit Unit) fun _=> .ret ()).run s=some ((),s')->K (a.put o.dst undef) w:=by
    intro hs
    have hcr:QK G w .und undef:=rfl
    exact hK G _ _ ((Zi h hcr).unit hs)
   have hexec:((execOp E D nk o:M Unit Unit) fun _=> .ret ()).run s=some ((),s')->o.wp P a w K Q:=fun hs=>QrZ hT hE hD hnk h hs K Q hK
   cases hb:Xt (s.gT t)with
   |some b=>
    rw[hb]at hrun
    have hcell:=h.tm t
    rw[QqY hb]at hcell
    have hbv:a.tmps.getD t undef= .bool b:=QgE (n:=b) hcell
    have hget:a.tmps[t]? =some (.bool b):=by
     rw[Array.getD_eq_getD_getElem?]at hbv
     cases hq:a.tmps[t]? with
     |none=>rw[hq]at hbv;simp[undef]at hbv
     |some v=>rw[hq]at hbv;simpa using hbv
    have hy:yielded ops a.tmps j=some b:=by simp[yielded,ht',hget]
    have hw:Region.wanted o (yielded ops a.tmps)=(b==want):=by simp[Region.wanted,hg,hy]
    rw[hw]
    cases b with
    |true=>
     simp only[QQ1]at hrun
     cases want with
     |true=>rw[if_pos rfl]at hrun;exact .inl (hexec hrun)
     |false=>rw[if_neg (by simp)]at hrun;rw[if_neg (by simp)];exact hskip hrun
    |false=>
     simp only[QQ2]at hrun
     cases want with
     |true=>rw[if_pos rfl]at hrun;rw[if_neg (by simp)];exact hskip hrun
     |false=>rw[if_neg (by simp)]at hrun;exact .inl (hexec hrun)
   |none=>
    rw[hb]at hrun
    simp only at hrun
    split at hrun
    ·rename_i hu
     have hcell:=h.tm t
     rw[hu]at hcell
     have hv:a.tmps.getD t undef=undef:=hcell
     have hw:Region.wanted o (yielded ops a.tmps)=false:=by
      have hy:yielded ops a.tmps j=none:=by
       rw[Array.getD_eq_getD_getElem?]at hv
       unfold yielded
       rw[ht']
       simp only[QQ0]
       cases hq:a.tmps[t]? with
       |none=>rfl
       |some v=>rw[hq]at hv;simp at hv;rw[hv];rfl
      simp[Region.wanted,hg,hy]
     rw[hw,if_neg (by simp)]
     exact hskip hrun
    ·cases hrun
end
end Go.Eng
