/- A meaning of the translated functions in plain typed values, and its soundness, part 4. No conditions. -/
import Derived.Test.YtameehmkoglkeaaGreatDoorEng3
import Derived.DataReads
import Derived.ChangeArms
import Derived.ChangeOld
import Derived.DataElems
import Derived.Below
import Derived.IntWalk
import GoSem.ClaimData
set_option linter.all false
namespace Go.Eng
open Go
set_option linter.unusedVariables false
def Evt (p:Nat->Prop):Prop:=∃N,∀n,N<=n->p n
theorem Evt.of {p:Nat->Prop}(h:∀n,p n):Evt p:=⟨0,fun n _=>h n⟩
theorem Evt.and {p q:Nat->Prop}(h:Evt p) (h':Evt q):Evt fun n=>p n/\q n:=
 let⟨N,g⟩:=h;let⟨M,g'⟩:=h';⟨max N M,fun n hn=>⟨g n (Nat.le_trans (Nat.le_max_left _ _) hn),g' n (Nat.le_trans (Nat.le_max_right _ _) hn)⟩⟩
theorem Evt.mono {p q:Nat->Prop}(h:Evt p) (hpq:∀n,p n->q n):Evt q:=let⟨N,g⟩:=h;⟨N,fun n hn=>hpq n (g n hn)⟩
theorem Evt.QsP {p q r:Nat->Prop}(h:Evt p) (h':Evt q) (hpq:∀n,p n->q n->r n):Evt r:=(h.and h').mono fun n ⟨a,b⟩=>hpq n a b
theorem Evt.succ {p:Nat->Prop}(h:Evt fun n=>p (n+1)):Evt p:=by
 obtain⟨N,g⟩:=h
 refine⟨N+1,fun n hn=> ?_⟩
 obtain⟨m,rfl⟩:∃m,n=m+1:=⟨n - 1,by omega⟩
 exact g m (by omega)
theorem Evt.here {p:Nat->Prop}(h:Evt p):∃n,p n:=let⟨N,g⟩:=h;⟨N,g N (QY1 N)⟩
def Ct {β:Type}(x:Option β) (X:Nat->Option β):Prop:=∀o,x=some o->Evt fun n=>X n=some o
theorem Ct.none {β:Type}{X:Nat->Option β}:Ct none X:=fun o h=>by cases h
theorem Ct.same {β:Type}(x:Option β):Ct x fun _=>x:=fun o h=>Evt.of fun _=>h
theorem Ct.bind {α β:Type}{x:Option α}{X:Nat->Option α}{f:α->Option β}{F:Nat->α->Option β}(h:Ct x X) (h':∀a,Ct (f a) fun n=>F n a):Ct (x.bind f) fun n=>(X n).bind (F n):=by
 intro o ho
 cases x with
 |none=>cases ho
 |some a=>exact(h a rfl).QsP (h' a o ho) fun n e e'=>show(X n).bind (F n)=some o from by rw[e];exact e'
theorem Ct.cond {β:Type}{b:Bool}{x y:Option β}{X Y:Nat->Option β}(h:Ct x X) (h':Ct y Y):Ct (bif b then x else y) fun n=>bif b then X n else Y n:=by
 cases b
 ·exact h'
 ·exact h
inductive RPC {γ:Type}:RP γ->(Nat->RP γ)->Prop
 |ret (x:γ):RPC (.ret x) fun _=> .ret x
 |fail {p:Nat->RP γ}:RPC .fail p
 |KT (i:Nat) {f:Cell->RP γ}{F:Nat->Cell->RP γ}(h:∀c,RPC (f c) fun n=>F n c):RPC (.KT i f) fun n=> .KT i (F n)
 |YL (i:Nat) (c:Cell) {p:RP γ}{q:Nat->RP γ}(h:RPC p q):RPC (.YL i c p) fun n=> .YL i c (q n)
 |getC (r k:Nat) {f:Con->RP γ}{F:Nat->Con->RP γ}(h:∀c,RPC (f c) fun n=>F n c):RPC (.getC r k f) fun n=> .getC r k (F n)
 |setC (r k:Nat) (c:Con) {p:RP γ}{q:Nat->RP γ}(h:RPC p q):RPC (.setC r k c p) fun n=> .setC r k c (q n)
 |getI (r k:Nat) {f:Con->RP γ}{F:Nat->Con->RP γ}(h:∀c,RPC (f c) fun n=>F n c):RPC (.getI r k f) fun n=> .getI r k (F n)
 |setV (r k:Nat) (x:TV) {p:RP γ}{q:Nat->RP γ}(h:RPC p q):RPC (.setV r k x p) fun n=> .setV r k x (q n)
 |getB (r:Nat) {f:Nat×Nat->RP γ}{F:Nat->Nat×Nat->RP γ}(h:∀c,RPC (f c) fun n=>F n c):RPC (.getB r f) fun n=> .getB r (F n)
 |setB (r:Nat) (g:Nat×Nat) {p:RP γ}{q:Nat->RP γ}(h:RPC p q):RPC (.setB r g p) fun n=> .setB r g (q n)
 |br (b:Bool) {p p':RP γ}{q q':Nat->RP γ}(h:RPC p q) (h':RPC p' q'):RPC (.br b p p') fun n=> .br b (q n) (q' n)
 |brT (i:Nat) {p p':RP γ}{q q':Nat->RP γ}(h:RPC p q) (h':RPC p' q'):RPC (.brT i p p') fun n=> .brT i (q n) (q' n)
 |brG (i:Nat) (w:Bool) {p p':RP γ}{q q':Nat->RP γ}(h:RPC p q) (h':RPC p' q'):RPC (.brG i w p p') fun n=> .brG i w (q n) (q' n)
 |call (ts:Tys) {o:Option (Qc ts)}{O:Nat->Option (Qc ts)}{f:Qc ts->RP γ}{F:Nat->Qc ts->RP γ}(ho:Ct o O) (h:∀x,RPC (f x) fun n=>F n x):RPC (.call ts o f) fun n=> .call ts (O n) (F n)
theorem RPC.ev {γ β:Type}{p:RP γ}{q:Nat->RP γ}(h:RPC p q):∀(s:St) (K:γ->St->Option β) (KK:Nat->γ->St->Option β),(∀x s,Ct (K x s) fun n=>KK n x s)->Ct (p.ev s K) fun n=>(q n).ev s (KK n):=by
 induction h with
 |ret x=>intro s K KK hK;exact hK x s
 |fail=>intro s K KK hK;exact Ct.none
 |KT i h ih=>intro s K KK hK;exact ih _ s K KK hK
 |YL i c h ih=>intro s K KK hK;exact Ct.cond (ih _ K KK hK) Ct.none
 |getC r k h ih=>intro s K KK hK;exact ih _ s K KK hK
 |setC r k c h ih=>intro s K KK hK;exact ih _ K KK hK
 |getI r k h ih=>intro s K KK hK;exact ih _ s K KK hK
 |setV r k x h ih=>intro s K KK hK;exact ih _ K KK hK
 |getB r h ih=>intro s K KK hK;exact ih _ s K KK hK
 |setB r g h ih=>intro s K KK hK;exact ih _ K KK hK
 |br b h h' ih ih'=>intro s K KK hK;exact Ct.cond (ih s K KK hK) (ih' s K KK hK)
 |brT i h h' ih ih'=>
  intro s K KK hK
  simp only[RP.ev]
  cases QO (s.gT i)with
  |none=>exact Ct.none
  |some b=>exact Ct.cond (ih _ K KK hK) (ih' _ K KK hK)
 |brG i w h h' ih ih'=>
  intro s K KK hK
  simp only[RP.ev]
  cases QO (s.gT i)with
  |none=>
   dsimp only
   cases s.gT i with
   |und=>exact ih' _ K KK hK
   |_=>exact Ct.none
  |some b=>
   cases w with
   |true=>exact Ct.cond (ih _ K KK hK) (ih' _ K KK hK)
   |false=>exact Ct.cond (ih' _ K KK hK) (ih _ K KK hK)
 |call ts ho h ih=>intro s K KK hK;exact Ct.bind ho fun x=>ih x s K KK hK
theorem RPC.evT {γ β:Type}{p:RP γ}{q:Nat->RP γ}(h:RPC p q):∀(s:St) (t:Tr) (K:γ->St->Tr->Option β) (KK:Nat->γ->St->Tr->Option β),(∀x s t,Ct (K x s t) fun n=>KK n x s t)->Ct (p.evT s t K) fun n=>(q n).evT s t (KK n):=by
 induction h with
 |ret x=>intro s t K KK hK;exact hK x s t
 |fail=>intro s t K KK hK;exact Ct.none
 |KT i h ih=>intro s t K KK hK;exact ih _ s _ K KK hK
 |YL i c h ih=>intro s t K KK hK;exact Ct.cond (ih _ _ K KK hK) Ct.none
 |getC r k h ih=>intro s t K KK hK;exact ih _ s _ K KK hK
 |setC r k c h ih=>intro s t K KK hK;exact ih _ _ K KK hK
 |getI r k h ih=>intro s t K KK hK;exact ih _ s _ K KK hK
 |setV r k x h ih=>intro s t K KK hK;exact ih _ _ K KK hK
 |getB r h ih=>intro s t K KK hK;exact ih _ s _ K KK hK
 |setB r g h ih=>intro s t K KK hK;exact ih _ _ K KK hK
 |br b h h' ih ih'=>intro s t K KK hK;exact Ct.cond (ih s _ K KK hK) (ih' s _ K KK hK)
 |brT i h h' ih ih'=>
  intro s t K KK hK
  simp only[RP.evT]
  cases QO (s.gT i)with
  |none=>exact Ct.none
  |some b=>exact Ct.cond (ih _ _ K KK hK) (ih' _ _ K KK hK)
 |brG i w h h' ih ih'=>
  intro s t K KK hK
  simp only[RP.evT]
  cases QO (s.gT i)with
  |none=>
   dsimp only
   cases s.gT i with
   |und=>exact ih' _ _ K KK hK
   |_=>exact Ct.none
  |some b=>
   cases w with
   |true=>exact Ct.cond (ih _ _ K KK hK) (ih' _ _ K KK hK)
   |false=>exact Ct.cond (ih' _ _ K KK hK) (ih _ _ K KK hK)
 |call ts ho h ih=>intro s t K KK hK;exact Ct.bind ho fun x=>ih x s _ K KK hK
def KL {γ α:Type}(m:M γ α) (mm:Nat->M γ α):Prop:=∀(k:α->RP γ) (K:Nat->α->RP γ),(∀a,RPC (k a) fun n=>K n a)->RPC (m k) fun n=>mm n (K n)
def Par {γ α:Type}(m:M γ α):Prop:=KL m fun _=>m
theorem ZC {γ α β:Type}{m:M γ α}{mm:Nat->M γ α}{f:α->M γ β}{F:Nat->α->M γ β}(h:KL m mm) (h':∀a,KL (f a) fun n=>F n a):KL (m>>=f) fun n=>mm n>>=F n:=
 fun k K hk=>h _ _ fun a=>h' a k K hk
theorem Qg {γ α β:Type}{m:M γ α}{f:α->M γ β}(h:Par m) (h':∀a,Par (f a)):Par (m>>=f):=fun k K hk=>h _ _ fun a=>h' a k K hk
theorem Qb {γ α:Type}(a:α):Par (pure a:M γ α):=fun k K hk=>hk a
theorem Qa {γ α:Type}:Par (Qf:M γ α):=fun k K hk=> .fail
theorem JQ {γ:Type}(b:Bool):Par (chk b:M γ Unit):=fun k K hk=> .br b (hk ()) .fail
theorem Q9 {γ α:Type}(o:Option α):Par (ofO o:M γ α):=fun k K hk=>by
 cases o with
 |none=>exact .fail
 |some a=>exact hk a
theorem QrH {γ:Type}(i:Nat):Par (mT i:M γ Cell):=fun k K hk=> .KT i hk
theorem Qoz {γ:Type}(r k:Nat):Par (mC r k:M γ Con):=fun _ _ hk=> .getC r k hk
theorem Ko {γ:Type}(r k:Nat):Par (mI r k:M γ Con):=fun _ _ hk=> .getI r k hk
theorem vq {γ:Type}(r:Nat):Par (mB r:M γ (Nat×Nat)):=fun _ _ hk=> .getB r hk
theorem V9 {γ:Type}(i:Nat) (c:Cell):Par (wT i c:M γ Unit):=fun _ _ hk=> .YL i c (hk ())
theorem ZO {γ:Type}(r k:Nat) (c:Con):Par (wC r k c:M γ Unit):=fun _ _ hk=> .setC r k c (hk ())
theorem QrE {γ:Type}(r k:Nat) (x:TV):Par (wV r k x:M γ Unit):=fun _ _ hk=> .setV r k x (hk ())
theorem Qov {γ:Type}(r:Nat) (g:Nat×Nat):Par (wB r g:M γ Unit):=fun _ _ hk=> .setB r g (hk ())
theorem Qnc {γ:Type}(ts:Tys) {o:Option (Qc ts)}{O:Nat->Option (Qc ts)}(h:Ct o O):KL (mcall ts o:M γ (Qc ts)) fun n=>mcall ts (O n):=fun _ _ hk=> .call ts h hk
theorem Qci {γ:Type}:∀a1 a2,Par (tyM (γ:=γ) a1 a2):=by
 intro a1 a2
 unfold tyM
 try dsimp only
 repeat' (first
  |(with_reducible first|exact Qb _|exact Qa|refine Qg ?_ (fun _=> ?_))
  |split
  |exact Qb _
  |exact Qa)
theorem QcO {γ:Type}:∀a1 a2,Par (slE (γ:=γ) a1 a2):=by
 intro a1 a2
 unfold slE
 try dsimp only
 repeat' (first
  |(with_reducible first|exact Qb _|exact Qa|exact Qci _ _|refine Qg ?_ (fun _=> ?_))
  |split
  |exact Qb _
  |exact Qa)
theorem VM {γ:Type}:∀a1,Par (opd (γ:=γ) a1):=by
 intro a1
 unfold opd
 try dsimp only
 repeat' (first
  |(with_reducible first|exact Qb _|exact Qa|exact QrH _|exact Q9 _|refine Qg ?_ (fun _=> ?_))
  |split
  |exact Qb _
  |exact Qa)
theorem JS {γ:Type}:(n:Nat)->(p:Pl)->Par (final (γ:=γ) n p)
 |0,p=>by unfold final;first|exact Qb _|exact Qa
 |n+1,p=>by
  unfold final
  try dsimp only
  repeat' (first
  |(with_reducible first|exact JS n _|exact Qb _|exact Qa|exact Ko _ _|refine Qg ?_ (fun _=> ?_))
  |split
  |exact Qb _
  |exact Qa)
theorem qJ {γ:Type}:∀a1,Par (Yc (γ:=γ) a1):=by
 intro a1
 unfold Yc
 try dsimp only
 repeat' (first
  |(with_reducible first|exact Qb _|exact Qa|exact Qoz _ _|exact JS _ _|refine Qg ?_ (fun _=> ?_))
  |split
  |exact Qb _
  |exact Qa)
theorem Qou {γ:Type}:∀a1,Par (rd (γ:=γ) a1):=by
 intro a1
 unfold rd
 try dsimp only
 repeat' (first
  |(with_reducible first|exact Qb _|exact Qa|exact Q9 _|exact qJ _|refine Qg ?_ (fun _=> ?_))
  |split
  |exact Qb _
  |exact Qa)
theorem Vr {γ:Type}:∀a1 a2,Par (xg (γ:=γ) a1 a2):=by
 intro a1 a2
 unfold xg
 try dsimp only
 repeat' (first
  |(with_reducible first|exact Qb _|exact Qa|exact Q9 _|exact Qou _|refine Qg ?_ (fun _=> ?_))
  |split
  |exact Qb _
  |exact Qa)
theorem yG {γ:Type}:∀a1,Par (ZT (γ:=γ) a1):=by
 intro a1
 unfold ZT
 try dsimp only
 repeat' (first
  |(with_reducible first|exact Qb _|exact Qa|exact ZO _ _ _|exact Q9 _|exact qJ _|refine Qg ?_ (fun _=> ?_))
  |split
  |exact Qb _
  |exact Qa)
theorem QdW {γ:Type}:∀a1 a2,Par (jP (γ:=γ) a1 a2):=by
 intro a1 a2
 unfold jP
 try dsimp only
 repeat' (first
  |(with_reducible first|exact Qb _|exact Qa|exact ZO _ _ _|exact Q9 _|exact qJ _|refine Qg ?_ (fun _=> ?_))
  |split
  |exact Qb _
  |exact Qa)
theorem Qjl {γ:Type}:∀a1,Par (QeV (γ:=γ) a1):=by
 intro a1
 unfold QeV
 try dsimp only
 repeat' (first
  |(with_reducible first|exact Qb _|exact Qa|exact JS _ _|refine Qg ?_ (fun _=> ?_))
  |split
  |exact Qb _
  |exact Qa)
theorem Qle {γ:Type}:∀a1 a2 a3 a4 a5,Par (vV (γ:=γ) a1 a2 a3 a4 a5):=by
 intro a1 a2 a3 a4 a5
 unfold vV
 try dsimp only
 repeat' (first
  |(with_reducible first|exact Qb _|exact Qa|exact Ko _ _|exact ZO _ _ _|exact QdW _ _|exact Qjl _|refine Qg ?_ (fun _=> ?_))
  |split
  |exact Qb _
  |exact Qa)
theorem Qes {γ:Type}:∀a1 a2 a3 a4 a5,Par (Y6 (γ:=γ) a1 a2 a3 a4 a5):=by
 intro a1 a2 a3 a4 a5
 fun_induction Y6 a1 a2 a3 a4 a5
 all_goals try dsimp only
 all_goals repeat' (first
  |(with_reducible first|exact Qb _|exact Qa)
  |assumption
  |apply_assumption
  |(with_reducible first|exact Qle _ _ _ _ _|refine Qg ?_ (fun _=> ?_))
  |split
  |exact Qb _
  |exact Qa)
theorem Qko {γ:Type}:∀a1 a2,Par (Qad (γ:=γ) a1 a2):=by
 intro a1 a2
 unfold Qad
 try dsimp only
 repeat' (first
  |(with_reducible first|exact Qb _|exact Qa|exact Qoz _ _|exact Ko _ _|refine Qg ?_ (fun _=> ?_))
  |split
  |exact Qb _
  |exact Qa)
theorem Qb3 {γ:Type}:∀a1 a2 a3,Par (KG (γ:=γ) a1 a2 a3):=by
 intro a1 a2 a3
 fun_induction KG a1 a2 a3
 all_goals try dsimp only
 all_goals repeat' (first
  |(with_reducible first|exact Qb _|exact Qa)
  |assumption
  |apply_assumption
  |(with_reducible first|exact Qko _ _|refine Qg ?_ (fun _=> ?_))
  |split
  |exact Qb _
  |exact Qa)
theorem QnA {γ:Type}:∀a1 a2,Par (Qcy (γ:=γ) a1 a2):=by
 intro a1 a2
 unfold Qcy
 try dsimp only
 repeat' (first
  |(with_reducible first|exact Qb _|exact Qa|refine Qg ?_ (fun _=> ?_))
  |split
  |exact Qb _
  |exact Qa)
theorem QnR {γ:Type}:∀a1 a2,Par (loadAt (γ:=γ) a1 a2):=by
 intro a1 a2
 unfold loadAt
 try dsimp only
 repeat' (first
  |(with_reducible first|exact Qb _|exact Qa|exact vq _|exact JS _ _|exact Qou _|exact Qb3 _ _ _|exact QnA _ _|refine Qg ?_ (fun _=> ?_))
  |split
  |exact Qb _
  |exact Qa)
theorem Qgj {γ:Type}:∀a1 a2 a3 a4,Par (Qb7 (γ:=γ) a1 a2 a3 a4):=by
 intro a1 a2 a3 a4
 unfold Qb7
 try dsimp only
 repeat' (first
  |(with_reducible first|exact Qb _|exact Qa|exact Q9 _|exact Vr _ _|exact yG _|exact QdW _ _|refine Qg ?_ (fun _=> ?_))
  |split
  |exact Vr _ _
  |exact Qb _
  |exact Qa)
theorem Qll {γ:Type}:∀a1 a2 a3,Par (j9 (γ:=γ) a1 a2 a3):=by
 intro a1 a2 a3
 fun_induction j9 a1 a2 a3
 all_goals try dsimp only
 all_goals repeat' (first
  |(with_reducible first|exact Qb _|exact Qa)
  |assumption
  |apply_assumption
  |(with_reducible first|exact Qgj _ _ _ _|refine Qg ?_ (fun _=> ?_))
  |split
  |exact Qb _
  |exact Qa)
theorem Qlt {γ:Type}:∀a1,Par (QcJ (γ:=γ) a1):=by
 intro a1
 unfold QcJ
 try dsimp only
 repeat' (first
  |(with_reducible first|exact Qb _|exact Qa|exact JS _ _|refine Qg ?_ (fun _=> ?_))
  |split
  |exact Qb _
  |exact Qa)
theorem Qnv {γ:Type}:∀a1 a2,Par (QaK (γ:=γ) a1 a2):=by
 intro a1 a2
 fun_induction QaK a1 a2
 all_goals try dsimp only
 all_goals repeat' (first
  |(with_reducible first|exact Qb _|exact Qa)
  |assumption
  |apply_assumption
  |(with_reducible first|exact Qlt _|refine Qg ?_ (fun _=> ?_))
  |split
  |exact Qb _
  |exact Qa)
theorem Qj2 {γ:Type}:∀a1 a2 a3 a4 a5,Par (Qc1 (γ:=γ) a1 a2 a3 a4 a5):=by
 intro a1 a2 a3 a4 a5
 unfold Qc1
 try dsimp only
 repeat' (first
  |(with_reducible first|exact Qb _|exact Qa|exact JQ _|exact Q9 _|refine Qg ?_ (fun _=> ?_))
  |split
  |exact Qb _
  |exact Qa)
theorem Qk4 {γ:Type}:∀a1 a2 a3 a4 a5 a6 a7,Par (Qdf (γ:=γ) a1 a2 a3 a4 a5 a6 a7):=by
 intro a1 a2 a3 a4 a5 a6 a7
 unfold Qdf
 try dsimp only
 repeat' (first
  |(with_reducible first|exact Qb _|exact Qa|exact JS _ _|exact Qj2 _ _ _ _ _|refine Qg ?_ (fun _=> ?_))
  |split
  |exact Qb _
  |exact Qa)
theorem Qfo {γ:Type}(y:TV) (i:Int) (r k:Nat) (nested:Bool):(off:Nat)->(ts:Tys)->(vs:List VC)->Par (Ky (γ:=γ) y i r k nested off ts vs)
 |_, .nil,[]=>by unfold Ky;first|exact Qb _|exact Qa
 |_, .nil,_::_=>by unfold Ky;first|exact Qb _|exact Qa
 |_, .cons _ _,[]=>by unfold Ky;first|exact Qb _|exact Qa
 |off, .cons t ts,v::vs=>by
  unfold Ky
  try dsimp only
  repeat' (first
  |(with_reducible first|exact Qfo y i r k nested (off+1) ts vs|exact Qb _|exact Qa|exact Qk4 _ _ _ _ _ _ _|refine Qg ?_ (fun _=> ?_))
  |split
  |exact Qb _
  |exact Qa)
theorem Qpk {γ:Type}:∀a1 a2 a3 a4 a5 a6 a7 a8 a9 a10 a11,Par (Qkr (γ:=γ) a1 a2 a3 a4 a5 a6 a7 a8 a9 a10 a11):=by
 intro a1 a2 a3 a4 a5 a6 a7 a8 a9 a10 a11
 unfold Qkr
 try dsimp only
 repeat' (first
  |(with_reducible first|exact Qb _|exact Qa|exact Qgj _ _ _ _|refine Qg ?_ (fun _=> ?_))
  |split
  |exact Qb _
  |exact Qa)
theorem Ql0 {γ:Type}:∀a1 a2 a3 a4 a5 a6 a7 a8 a9 a10 a11,Par (vg (γ:=γ) a1 a2 a3 a4 a5 a6 a7 a8 a9 a10 a11):=by
 intro a1 a2 a3 a4 a5 a6 a7 a8 a9 a10 a11
 fun_induction vg a1 a2 a3 a4 a5 a6 a7 a8 a9 a10 a11
 all_goals try dsimp only
 all_goals repeat' (first
  |(with_reducible first|exact Qb _|exact Qa)
  |assumption
  |apply_assumption
  |(with_reducible first|exact Qpk _ _ _ _ _ _ _ _ _ _ _|refine Qg ?_ (fun _=> ?_))
  |split
  |exact Qb _
  |exact Qa)
theorem QnS {γ:Type}:∀a1 a2 a3 a4,Par (Qd9 (γ:=γ) a1 a2 a3 a4):=by
 intro a1 a2 a3 a4
 unfold Qd9
 try dsimp only
 repeat' (first
  |(with_reducible first|exact Qb _|exact Qa|exact ZO _ _ _|refine Qg ?_ (fun _=> ?_))
  |split
  |exact Qb _
  |exact Qa)
theorem QmF {γ:Type}:∀a1 a2 a3 a4 a5 a6 a7,Par (QcG (γ:=γ) a1 a2 a3 a4 a5 a6 a7):=by
 intro a1 a2 a3 a4 a5 a6 a7
 unfold QcG
 try dsimp only
 repeat' (first
  |(with_reducible first|exact Qb _|exact Qa|exact QrE _ _ _|exact ZO _ _ _|refine Qg ?_ (fun _=> ?_))
  |split
  |exact Qb _
  |exact Qa)
theorem QlM {γ:Type}:∀a1 a2 a3 a4,Par (storeAt (γ:=γ) a1 a2 a3 a4):=by
 intro a1 a2 a3 a4
 unfold storeAt
 try dsimp only
 repeat' (first
  |(with_reducible first|exact Qb _|exact Qa|exact vq _|exact Q9 _|exact qJ _|exact Qes _ _ _ _ _|exact Qfo _ _ _ _ _ _ _ _|exact Ql0 _ _ _ _ _ _ _ _ _ _ _|exact QnS _ _ _ _|exact QmF _ _ _ _ _ _ _|refine Qg ?_ (fun _=> ?_))
  |split
  |exact Qb _
  |exact Qa)
theorem Qha {γ:Type}:∀a1 a2,Par (XS (γ:=γ) a1 a2):=by
 intro a1 a2
 unfold XS
 try dsimp only
 repeat' (first
  |(with_reducible first|exact Qb _|exact Qa|exact V9 _ _|refine Qg ?_ (fun _=> ?_))
  |split
  |exact Qb _
  |exact Qa)
theorem Zv {γ:Type}:∀a1 a2 a3 a4,Par (qT (γ:=γ) a1 a2 a3 a4):=by
 intro a1 a2 a3 a4
 unfold qT
 try dsimp only
 repeat' (first
  |(with_reducible first|exact Qb _|exact Qa|exact vq _|exact Ko _ _|exact ZO _ _ _|refine Qg ?_ (fun _=> ?_))
  |split
  |exact Qb _
  |exact Qa)
theorem Qd1 {γ:Type}(d:Nat):(j:Nat)->(ts:Tys)->(vs:List VC)->Par (YB (γ:=γ) d j ts vs)
 |_, .nil,[]=>by unfold YB;first|exact Qb _|exact Qa
 |_, .nil,_::_=>by unfold YB;first|exact Qb _|exact Qa
 |_, .cons _ _,[]=>by unfold YB;first|exact Qb _|exact Qa
 |j, .cons t ts,v::vs=>by
  unfold YB
  try dsimp only
  repeat' (first
  |(with_reducible first|exact Qd1 d (j+1) ts vs|exact Qb _|exact Qa|exact Ko _ _|exact ZO _ _ _|exact QdW _ _|exact Qjl _|exact Zv _ _ _ _|refine Qg ?_ (fun _=> ?_))
  |split
  |exact Qb _
  |exact Qa)
theorem Qgz {γ:Type}:∀a1 a2 a3 a4,Par (ishift (γ:=γ) a1 a2 a3 a4):=by
 intro a1 a2 a3 a4
 unfold ishift
 try dsimp only
 repeat' (first
  |(with_reducible first|exact Qb _|exact Qa|exact JQ _|refine Qg ?_ (fun _=> ?_))
  |split
  |exact Qb _
  |exact Qa)
theorem Qla {γ:Type}:∀a1 a2 a3 a4,Par (ibin (γ:=γ) a1 a2 a3 a4):=by
 intro a1 a2 a3 a4
 unfold ibin
 try dsimp only
 repeat' (first
  |(with_reducible first|exact Qb _|exact Qa|exact JQ _|refine Qg ?_ (fun _=> ?_))
  |split
  |exact Qb _
  |exact Qa)
theorem Qj1 {γ:Type}:∀a1 a2 a3,Par (bbin (γ:=γ) a1 a2 a3):=by
 intro a1 a2 a3
 unfold bbin
 try dsimp only
 repeat' (first
  |(with_reducible first|exact Qb _|exact Qa|refine Qg ?_ (fun _=> ?_))
  |split
  |exact Qb _
  |exact Qa)
theorem Qk5 {γ:Type}:∀a1 a2 a3,Par (sbin (γ:=γ) a1 a2 a3):=by
 intro a1 a2 a3
 unfold sbin
 try dsimp only
 repeat' (first
  |(with_reducible first|exact Qb _|exact Qa|exact JQ _|refine Qg ?_ (fun _=> ?_))
  |split
  |exact Qb _
  |exact Qa)
theorem Qrd {γ:Type}:∀a1 a2 a3 a4,Par (bin (γ:=γ) a1 a2 a3 a4):=by
 intro a1 a2 a3 a4
 unfold bin
 try dsimp only
 repeat' (first
  |(with_reducible first|exact Qb _|exact Qa|exact Qgz _ _ _ _|exact Qla _ _ _ _|exact Qj1 _ _ _|exact Qk5 _ _ _|refine Qg ?_ (fun _=> ?_))
  |split
  |exact Qgz _ _ _ _
  |exact Qla _ _ _ _
  |exact Qj1 _ _ _
  |exact Qk5 _ _ _
  |exact Qb _
  |exact Qa)
theorem Qj3 {γ:Type}:∀a1 a2 a3 a4,Par (Qae (γ:=γ) a1 a2 a3 a4):=by
 intro a1 a2 a3 a4
 unfold Qae
 try dsimp only
 repeat' (first
  |(with_reducible first|exact Qb _|exact Qa|exact Q9 _|exact Qrd _ _ _ _|refine Qg ?_ (fun _=> ?_))
  |split
  |exact Qb _
  |exact Qa)
theorem Qbr {γ:Type}:∀a1 a2,Par (elems (γ:=γ) a1 a2):=by
 intro a1 a2
 unfold elems
 try dsimp only
 repeat' (first
  |(with_reducible first|exact Qb _|exact Qa|exact Vr _ _|refine Qg ?_ (fun _=> ?_))
  |split
  |exact Vr _ _
  |exact Qb _
  |exact Qa)
theorem QhR {γ:Type}:∀a1 a2 a3,Par (VL (γ:=γ) a1 a2 a3):=by
 intro a1 a2 a3
 fun_induction VL a1 a2 a3
 all_goals try dsimp only
 all_goals repeat' (first
  |(with_reducible first|exact Qb _|exact Qa)
  |assumption
  |apply_assumption
  |(with_reducible first|exact Q9 _|exact VM _|refine Qg ?_ (fun _=> ?_))
  |split
  |exact Qb _
  |exact Qa)
theorem Qjq {γ:Type}:∀a1,Par (JP (γ:=γ) a1):=by
 intro a1
 fun_induction JP a1
 all_goals try dsimp only
 all_goals repeat' (first
  |(with_reducible first|exact Qb _|exact Qa)
  |assumption
  |apply_assumption
  |(with_reducible first|exact Q9 _|exact VM _|refine Qg ?_ (fun _=> ?_))
  |split
  |exact Qb _
  |exact Qa)
theorem QlL {γ:Type}:∀a1 a2,Par (ve (γ:=γ) a1 a2):=by
 intro a1 a2
 fun_induction ve a1 a2
 all_goals try dsimp only
 all_goals repeat' (first
  |(with_reducible first|exact Qb _|exact Qa)
  |assumption
  |apply_assumption
  |(with_reducible first|exact Qnv _ _|refine Qg ?_ (fun _=> ?_))
  |split
  |exact Qb _
  |exact Qa)
theorem Qfd {γ:Type}:∀a1 a2 a3 a4,Par (vd (γ:=γ) a1 a2 a3 a4):=by
 intro a1 a2 a3 a4
 fun_induction vd a1 a2 a3 a4
 all_goals try dsimp only
 all_goals repeat' (first
  |(with_reducible first|exact Qb _|exact Qa)
  |assumption
  |apply_assumption
  |(with_reducible first|exact Qll _ _ _|refine Qg ?_ (fun _=> ?_))
  |split
  |exact Qb _
  |exact Qa)
theorem QbN {γ:Type}:∀a1 a2,Par (Qdw (γ:=γ) a1 a2):=by
 intro a1 a2
 unfold Qdw
 try dsimp only
 repeat' (first
  |(with_reducible first|exact Qb _|exact Qa|exact Vr _ _|refine Qg ?_ (fun _=> ?_))
  |split
  |exact Vr _ _
  |exact Qb _
  |exact Qa)
theorem Ql2 {γ:Type}:∀a1 a2,Par (Qcd (γ:=γ) a1 a2):=by
 intro a1 a2
 unfold Qcd
 try dsimp only
 repeat' (first
  |(with_reducible first|exact Qb _|exact Qa|exact Q9 _|exact yG _|refine Qg ?_ (fun _=> ?_))
  |split
  |exact Qb _
  |exact Qa)
theorem Qly {γ:Type}:∀a1 a2,Par (Qco (γ:=γ) a1 a2):=by
 intro a1 a2
 unfold Qco
 try dsimp only
 repeat' (first
  |(with_reducible first|exact Qb _|exact Qa|exact Q9 _|exact yG _|exact Qbr _ _|refine Qg ?_ (fun _=> ?_))
  |split
  |exact Qbr _ _
  |exact Qb _
  |exact Qa)
theorem QjW {γ:Type}:∀a1 a2 a3 a4 a5,Par (QaN (γ:=γ) a1 a2 a3 a4 a5):=by
 intro a1 a2 a3 a4 a5
 unfold QaN
 try dsimp only
 repeat' (first
  |(with_reducible first|exact Qb _|exact Qa|exact V9 _ _|exact JQ _|exact QcO _ _|exact Zv _ _ _ _|exact Ql2 _ _|exact Qly _ _|refine Qg ?_ (fun _=> ?_))
  |split
  |exact Qb _
  |exact Qa)
theorem QoG {γ:Type}:∀a1 a2,Par (zB (γ:=γ) a1 a2):=by
 intro a1 a2
 unfold zB
 try dsimp only
 repeat' (first
  |(with_reducible first|exact Qb _|exact Qa|refine Qg ?_ (fun _=> ?_))
  |split
  |exact Qb _
  |exact Qa)
theorem QmS {γ:Type}:∀a1 a2 a3,Par (Qeu (γ:=γ) a1 a2 a3):=by
 intro a1 a2 a3
 unfold Qeu
 try dsimp only
 repeat' (first
  |(with_reducible first|exact Qb _|exact Qa|exact ZO _ _ _|exact Q9 _|exact qJ _|exact QoG _ _|refine Qg ?_ (fun _=> ?_))
  |split
  |exact Qb _
  |exact Qa)
theorem Qpx {γ:Type}:∀a1 a2 a3,Par (Qk1 (γ:=γ) a1 a2 a3):=by
 intro a1 a2 a3
 unfold Qk1
 try dsimp only
 repeat' (first
  |(with_reducible first|exact Qb _|exact Qa|exact QmS _ _ _|refine Qg ?_ (fun _=> ?_))
  |split
  |exact Qb _
  |exact Qa)
theorem Qoa {γ:Type}:∀a1 a2,Par (QeL (γ:=γ) a1 a2):=by
 intro a1 a2
 fun_induction QeL a1 a2
 all_goals try dsimp only
 all_goals repeat' (first
  |(with_reducible first|exact Qb _|exact Qa)
  |assumption
  |apply_assumption
  |(with_reducible first|exact Qpx _ _ _|refine Qg ?_ (fun _=> ?_))
  |split
  |exact Qb _
  |exact Qa)
theorem QmJ {γ:Type}:∀a1 a2 a3,Par (Qab (γ:=γ) a1 a2 a3):=by
 intro a1 a2 a3
 fun_induction Qab a1 a2 a3
 all_goals try dsimp only
 all_goals repeat' (first
  |(with_reducible first|exact Qb _|exact Qa)
  |assumption
  |apply_assumption
  |(with_reducible first|exact Vr _ _|refine Qg ?_ (fun _=> ?_))
  |split
  |exact Vr _ _
  |exact Qb _
  |exact Qa)
theorem QkE {γ:Type}:∀a1 a2,Par (xZ (γ:=γ) a1 a2):=by
 intro a1 a2
 fun_induction xZ a1 a2
 all_goals try dsimp only
 all_goals repeat' (first
  |(with_reducible first|exact Qb _|exact Qa)
  |assumption
  |apply_assumption
  |(with_reducible first|exact vq _|exact Qb3 _ _ _|refine Qg ?_ (fun _=> ?_))
  |split
  |exact Qb _
  |exact Qa)
theorem Qkt {γ:Type}:∀a1 a2,Par (vL (γ:=γ) a1 a2):=by
 intro a1 a2
 unfold vL
 try dsimp only
 repeat' (first
  |(with_reducible first|exact Qb _|exact Qa|exact vq _|exact Qb3 _ _ _|exact QkE _ _|refine Qg ?_ (fun _=> ?_))
  |split
  |exact Qb _
  |exact Qa)
theorem QjJ {γ:Type}:∀a1 a2,Par (JZ (γ:=γ) a1 a2):=by
 intro a1 a2
 fun_induction JZ a1 a2
 all_goals try dsimp only
 all_goals repeat' (first
  |(with_reducible first|exact Qb _|exact Qa)
  |assumption
  |apply_assumption
  |(with_reducible first|exact Qkt _ _|refine Qg ?_ (fun _=> ?_))
  |split
  |exact Qb _
  |exact Qa)
theorem Qpd {γ:Type}:∀a1 a2 a3,Par (Qk8 (γ:=γ) a1 a2 a3):=by
 intro a1 a2 a3
 unfold Qk8
 try dsimp only
 repeat' (first
  |(with_reducible first|exact Qb _|exact Qa|exact yG _|refine Qg ?_ (fun _=> ?_))
  |split
  |exact Qb _
  |exact Qa)
theorem QoM {γ:Type}:∀a1 a2,Par (QbO (γ:=γ) a1 a2):=by
 intro a1 a2
 fun_induction QbO a1 a2
 all_goals try dsimp only
 all_goals repeat' (first
  |(with_reducible first|exact Qb _|exact Qa)
  |assumption
  |apply_assumption
  |(with_reducible first|exact Qpd _ _ _|refine Qg ?_ (fun _=> ?_))
  |split
  |exact Qb _
  |exact Qa)
theorem Qqd {γ:Type}:∀a1 a2,Par (QkG (γ:=γ) a1 a2):=by
 intro a1 a2
 unfold QkG
 split
 ·exact QoM _ _
 ·exact Qb _
theorem Qof {γ:Type}:∀a1 a2,Par (Qbd (γ:=γ) a1 a2):=by
 intro a1 a2
 fun_induction Qbd a1 a2
 all_goals try dsimp only
 all_goals repeat' (first
  |(with_reducible first|exact Qb _|exact Qa)
  |assumption
  |apply_assumption
  |(with_reducible first|exact Qqd _ _|refine Qg ?_ (fun _=> ?_))
  |split
  |exact Qb _
  |exact Qa)
theorem Qoy {γ:Type}:∀a1 a2,Par (QeE (γ:=γ) a1 a2):=by
 intro a1 a2
 fun_induction QeE a1 a2
 all_goals try dsimp only
 all_goals repeat' (first
  |(with_reducible first|exact Qb _|exact Qa)
  |assumption
  |apply_assumption
  |(with_reducible first|exact Qoa _ _|refine Qg ?_ (fun _=> ?_))
  |split
  |exact Qb _
  |exact Qa)
theorem Qm1 {γ:Type}:∀a1 a2 a3,Par (Qcl (γ:=γ) a1 a2 a3):=by
 intro a1 a2 a3
 fun_induction Qcl a1 a2 a3
 all_goals try dsimp only
 all_goals repeat' (first
  |(with_reducible first|exact Qb _|exact Qa)
  |assumption
  |apply_assumption
  |(with_reducible first|exact QmJ _ _ _|refine Qg ?_ (fun _=> ?_))
  |split
  |exact Qb _
  |exact Qa)
theorem Qjw {γ:Type}:∀a1 a2 a3,Par (K6 (γ:=γ) a1 a2 a3):=by
 intro a1 a2 a3
 unfold K6
 try dsimp only
 repeat' (first
  |(with_reducible first|exact Qb _|exact Qa|exact Ko _ _|refine Qg ?_ (fun _=> ?_))
  |split
  |exact Qb _
  |exact Qa)
theorem Qlq {γ:Type}:∀a1 a2,Par (vb (γ:=γ) a1 a2):=by
 intro a1 a2
 unfold vb
 try dsimp only
 repeat' (first
  |(with_reducible first|exact Qb _|exact Qa|exact ZO _ _ _|exact Q9 _|exact Qjw _ _ _|refine Qg ?_ (fun _=> ?_))
  |split
  |exact Qb _
  |exact Qa)
theorem QlA {γ:Type}:∀a1 a2 a3,Par (YS (γ:=γ) a1 a2 a3):=by
 intro a1 a2 a3
 fun_induction YS a1 a2 a3
 all_goals try dsimp only
 all_goals repeat' (first
  |(with_reducible first|exact Qb _|exact Qa)
  |assumption
  |apply_assumption
  |(with_reducible first|exact Qlq _ _|refine Qg ?_ (fun _=> ?_))
  |split
  |exact Qb _
  |exact Qa)
theorem KB {γ:Type}(r:Nat):(k:Nat)->(l:List (Mode×Ty))->(xs:List TV)->Par (Xs (γ:=γ) r k l xs)
 |_,[],_=>by unfold Xs;first|exact Qb _|exact Qa
 |k,(.mut,t)::l,x::xs=>by
  unfold Xs
  try dsimp only
  repeat' (first
  |(with_reducible first|exact KB r (k+1) l xs|exact Qb _|exact Qa|exact Ko _ _|exact ZO _ _ _|refine Qg ?_ (fun _=> ?_))
  |split
  |exact Qb _
  |exact Qa)
 |k,(.mut,t)::l,[]=>by unfold Xs;first|exact Qb _|exact Qa
 |k,(.ro,_)::l,xs=>by
  unfold Xs
  try dsimp only
  repeat' (first
  |(with_reducible first|exact KB r (k+1) l xs|exact Qb _|exact Qa|exact Ko _ _|exact ZO _ _ _|refine Qg ?_ (fun _=> ?_))
  |split
  |exact Qb _
  |exact Qa)
 |k,(.own,_)::l,xs=>by
  unfold Xs
  try dsimp only
  repeat' (first
  |(with_reducible first|exact KB r (k+1) l xs|exact Qb _|exact Qa|exact Ko _ _|exact ZO _ _ _|refine Qg ?_ (fun _=> ?_))
  |split
  |exact Qb _
  |exact Qa)
 |k,(.junk,_)::l,xs=>by
  unfold Xs
  try dsimp only
  repeat' (first
  |(with_reducible first|exact KB r (k+1) l xs|exact Qb _|exact Qa|exact Ko _ _|exact ZO _ _ _|refine Qg ?_ (fun _=> ?_))
  |split
  |exact Qb _
  |exact Qa)
 |k,(.top,_)::l,xs=>by
  unfold Xs
  try dsimp only
  repeat' (first
  |(with_reducible first|exact KB r (k+1) l xs|exact Qb _|exact Qa|exact Ko _ _|exact ZO _ _ _|refine Qg ?_ (fun _=> ?_))
  |split
  |exact Qb _
  |exact Qa)
theorem Qod {γ:Type}:∀a1 a2 a3 a4,Par (backs (γ:=γ) a1 a2 a3 a4):=by
 intro a1 a2 a3 a4
 fun_induction backs a1 a2 a3 a4
 all_goals try dsimp only
 all_goals repeat' (first
  |(with_reducible first|exact Qb _|exact Qa)
  |assumption
  |apply_assumption
  |(with_reducible first|exact QlA _ _ _|exact KB _ _ _ _|refine Qg ?_ (fun _=> ?_))
  |split
  |exact Qb _
  |exact Qa)
theorem Vv {γ:Type}(d:Nat):(j:Nat)->(l:List (Mode×Ty))->(xs:List TV)->Par (Xz (γ:=γ) d j l xs)
 |_,[],_=>by unfold Xz;first|exact Qb _|exact Qa
 |j,(.junk,_)::l,xs=>by
  unfold Xz
  try dsimp only
  repeat' (first
  |(with_reducible first|exact Vv d (j+1) l xs|exact Qb _|exact Qa|exact Zv _ _ _ _|refine Qg ?_ (fun _=> ?_))
  |split
  |exact Qb _
  |exact Qa)
 |j,(.ro,t)::l,x::xs=>by
  unfold Xz
  try dsimp only
  repeat' (first
  |(with_reducible first|exact Vv d (j+1) l xs|exact Qb _|exact Qa|exact Zv _ _ _ _|refine Qg ?_ (fun _=> ?_))
  |split
  |exact Qb _
  |exact Qa)
 |j,(.mut,t)::l,x::xs=>by
  unfold Xz
  try dsimp only
  repeat' (first
  |(with_reducible first|exact Vv d (j+1) l xs|exact Qb _|exact Qa|exact Zv _ _ _ _|refine Qg ?_ (fun _=> ?_))
  |split
  |exact Qb _
  |exact Qa)
 |j,(.own,t)::l,x::xs=>by
  unfold Xz
  try dsimp only
  repeat' (first
  |(with_reducible first|exact Vv d (j+1) l xs|exact Qb _|exact Qa|exact Zv _ _ _ _|refine Qg ?_ (fun _=> ?_))
  |split
  |exact Qb _
  |exact Qa)
 |j,(.top,t)::l,x::xs=>by
  unfold Xz
  try dsimp only
  repeat' (first
  |(with_reducible first|exact Vv d (j+1) l xs|exact Qb _|exact Qa|exact Zv _ _ _ _|refine Qg ?_ (fun _=> ?_))
  |split
  |exact Qb _
  |exact Qa)
 |j,(.ro,t)::l,[]=>by unfold Xz;first|exact Qb _|exact Qa
 |j,(.mut,t)::l,[]=>by unfold Xz;first|exact Qb _|exact Qa
 |j,(.own,t)::l,[]=>by unfold Xz;first|exact Qb _|exact Qa
 |j,(.top,t)::l,[]=>by unfold Xz;first|exact Qb _|exact Qa
theorem QmQ {γ:Type}:∀a1 a2 a3 a4,Par (Qck (γ:=γ) a1 a2 a3 a4):=by
 intro a1 a2 a3 a4
 fun_induction Qck a1 a2 a3 a4
 all_goals try dsimp only
 all_goals repeat' (first
  |(with_reducible first|exact Qb _|exact Qa)
  |assumption
  |apply_assumption
  |(with_reducible first|exact Vv _ _ _ _|refine Qg ?_ (fun _=> ?_))
  |split
  |exact Qb _
  |exact Qa)
theorem QgG {γ:Type}(d:Nat):(k:Nat)->(l:List (Mode×Ty))->(xs:List TV)->Par (Jc (γ:=γ) d k l xs)
 |_,[],_=>by unfold Jc;first|exact Qb _|exact Qa
 |k,(m,t)::l,x::xs=>by
  unfold Jc
  try dsimp only
  repeat' (first
  |(with_reducible first|exact QgG d (k+1) l xs|exact Qb _|exact Qa|exact Ko _ _|exact ZO _ _ _|refine Qg ?_ (fun _=> ?_))
  |split
  |exact Qb _
  |exact Qa)
 |_,_::_,[]=>by unfold Jc;first|exact Qb _|exact Qa
theorem Vn {γ:Type}:∀a1,Par (Yv (γ:=γ) a1):=by
 intro a1
 fun_induction Yv a1
 all_goals try dsimp only
 all_goals repeat' (first
  |(with_reducible first|exact Qb _|exact Qa)
  |assumption
  |apply_assumption
  |(with_reducible first|exact VM _|refine Qg ?_ (fun _=> ?_))
  |split
  |exact Qb _
  |exact Qa)
theorem Qol {γ:Type}:∀a1 a2 a3 a4 a5 a6,Par (call2 (γ:=γ) a1 a2 a3 a4 a5 a6):=by
 intro a1 a2 a3 a4 a5 a6
 unfold call2
 try dsimp only
 repeat' (first
  |(with_reducible first|exact Qb _|exact Qa|exact vq _|exact V9 _ _|exact Qov _ _|exact Qod _ _ _ _|exact QmQ _ _ _ _|exact QgG _ _ _ _|refine Qg ?_ (fun _=> ?_))
  |split
  |exact Qb _
  |exact Qa)
theorem QdH {γ:Type}:∀a1 a2 a3 a4 a5,Par (Qbw (γ:=γ) a1 a2 a3 a4 a5):=by
 intro a1 a2 a3 a4 a5
 unfold Qbw
 try dsimp only
 repeat' (first
  |(with_reducible first|exact Qb _|exact Qa|exact V9 _ _|exact Q9 _|exact Qci _ _|exact QcO _ _|exact QbN _ _|exact QjW _ _ _ _ _|exact Vn _|refine Qg ?_ (fun _=> ?_))
  |split
  |exact Qb _
  |exact Qa)
theorem QmP {γ:Type}:∀a1 a2 a3 a4 a5,Par (QhG (γ:=γ) a1 a2 a3 a4 a5):=by
 intro a1 a2 a3 a4 a5
 unfold QhG
 try dsimp only
 repeat' (first
  |(with_reducible first|exact Qb _|exact Qa|exact V9 _ _|exact JQ _|exact Q9 _|exact Qci _ _|exact QcO _ _|exact yG _|exact Qbr _ _|refine Qg ?_ (fun _=> ?_))
  |split
  |exact Qbr _ _
  |exact Qb _
  |exact Qa)
theorem Qdr {γ:Type}:∀a1,Par (Qcv (γ:=γ) a1):=by
 intro a1
 unfold Qcv
 try dsimp only
 repeat' (first
  |(with_reducible first|exact Qb _|exact Qa|exact Q9 _|exact VM _|refine Qg ?_ (fun _=> ?_))
  |split
  |exact Qb _
  |exact Qa)
theorem Qfi {γ:Type}:∀a1 a2 a3 a4 a5 a6,Par (QeU (γ:=γ) a1 a2 a3 a4 a5 a6):=by
 intro a1 a2 a3 a4 a5 a6
 unfold QeU
 try dsimp only
 repeat' (first
  |(with_reducible first|exact Qb _|exact Qa|exact V9 _ _|exact JQ _|exact Q9 _|exact Qci _ _|exact QcO _ _|exact QbN _ _|refine Qg ?_ (fun _=> ?_))
  |split
  |exact Qb _
  |exact Qa)
theorem Qrc {γ α:Type}{c:Prop} [Decidable c] {a b:M γ α}(h:Par a) (h':Par b):Par (if c then a else b):=by
 by_cases hc:c
 ·simp only[hc,if_true];exact h
 ·simp only[hc,if_false];exact h'
theorem Qag {γ α:Type}{c:Prop} [Decidable c] {a b:M γ α}{A B:Nat->M γ α}(h:KL a A) (h':KL b B):KL (if c then a else b) fun n=>if c then A n else B n:=by
 by_cases hc:c
 ·simp only[hc,if_true];exact h
 ·simp only[hc,if_false];exact h'
theorem jR {γ α β:Type}{f:α->M γ β}{mm:Nat->M γ β}:KL (Qf>>=f) mm:=fun _ _ _=> .fail
theorem Qno {γ:Type}{E:Env}{D:QR E}{DD:Nat->QR E}(hD:∀f x,Ct (D f x) fun n=>DD n f x) (f0 f:Nat) (as:List Cell):KL (QeM (γ:=γ) E D f0 f as) fun n=>QeM E (DD n) f0 f as:=by
 unfold QeM
 dsimp only
 refine Qag ?_ jR
 refine ZC (QjJ _ _) fun _=> ?_
 refine ZC (by unfold QjO;exact Qrc (Qof _ _) (Qb _)) fun _=> ?_
 refine Qag ?_ jR
 refine Qag jR ?_
 refine ZC (Qoy _ _) fun _=> ?_
 refine Qag ?_ jR
 refine ZC (Qm1 _ _ _) fun _=> ?_
 refine ZC (Q9 _) fun _=> ?_
 refine ZC (Qnc _ (hD _ _)) fun _=> ?_
 exact Qb _
theorem Qf2 {γ:Type}{E:Env}{D:QR E}{DD:Nat->QR E}(hD:∀f x,Ct (D f x) fun n=>DD n f x) (np:Fx) (d f0:Nat) (as:List Cell):KL (QcU (γ:=γ) E D np d f0 as) fun n=>QcU E (DD n) np d f0 as:=by
 unfold QcU
 exact ZC (Qno hD _ _ _) fun _=>Qol _ _ _ _ _ _
theorem QlC {γ:Type}{E:Env}{D:QR E}{DD:Nat->QR E}(hD:∀f x,Ct (D f x) fun n=>DD n f x) (np:Fx) (d f:Nat) (args:List Operand):KL (Qd7 (γ:=γ) E D np d f args) fun n=>Qd7 E (DD n) np d f args:=by
 unfold Qd7
 exact ZC (Vn _) fun _=>Qf2 hD _ _ _ _
theorem Qne {γ:Type}{E:Env}{D:QR E}{DD:Nat->QR E}(hD:∀f x,Ct (D f x) fun n=>DD n f x) (np:Fx) (d:Nat) (g:Operand) (args:List Operand):KL (Qhq (γ:=γ) E D np d g args) fun n=>Qhq E (DD n) np d g args:=by
 unfold Qhq
 refine ZC (VM _) fun c=>ZC (Vn _) fun as=> ?_
 cases c with
 |fn f caps=>exact Qf2 hD _ _ _ _
 |_=>exact Qa
theorem Qq0 {γ:Type}(i:Nat) {a b:M γ Unit}(ha:Par a) (hb:Par b):Par (fun k=> .brT i (a k) (b k):M γ Unit):=fun _ _ hk=> .brT i (ha _ _ hk) (hb _ _ hk)
theorem Qo1 {γ:Type}(i:Nat) (w:Bool) {a b:M γ Unit}{A B:Nat->M γ Unit}(ha:KL a A) (hb:KL b B):KL (fun k=> .brG i w (a k) (b k):M γ Unit) fun n=>fun k=> .brG i w (A n k) (B n k):=fun _ _ hk=> .brG i w (ha _ _ hk) (hb _ _ hk)
theorem Qfa {γ:Type}{E:Env}{D:QR E}{DD:Nat->QR E}(hD:∀f x,Ct (D f x) fun n=>DD n f x) (nk:Fx) (o:Oper):KL (execOp (γ:=γ) E D nk o) fun n=>execOp E (DD n) nk o:=by
 unfold execOp
 dsimp only
 refine Qag Qa ?_
 generalize o.op=op
 cases op
 case call c=>
  obtain⟨cal,args,tys⟩:=c
  cases cal with
  |value g=>
   cases g with
   |func f=>exact QlC hD _ _ _ _
   |tmp t=>exact Qne hD _ _ _ _
   |_=>exact Qa
  |builtin b=>exact QdH _ _ _ _ _
  |_=>exact Qa
 case makeFunc fn first caps=>
  cases fn with
  |func g=>
   refine(show Par (if first.size==0 then(do let cs<-Yv caps.toList;let l<-ofO (ptrs? cs);wT (o.dst.getD 0) (.fn g l))else Qf)from ?_)
   repeat' (first
    |(with_reducible first|exact Qa|exact V9 _ _|exact Q9 _|exact Vn _|refine Qg ?_ (fun _=> ?_))
    |split)
  |_=>exact Qa
 case slice T x lo hi mx=>
  cases mx with
  |none=>
   exact Qg (VM _) fun _=>Qg (Qdr _) fun _=>Qg (Qdr _) fun _=>Qfi _ _ _ _ _ _
  |some _=>exact Qa
 all_goals(first|exact Qa|skip)
 all_goals dsimp only
 all_goals refine(show Par _ from ?_)
 all_goals repeat' (first
  |(with_reducible first|exact Qb _|exact Qa|exact JQ _|exact Q9 _|exact VM _|exact Qha _ _|exact V9 _ _|exact vq _|exact Qov _ _|exact Qci _ _|exact QcO _ _|exact Qd1 _ _ _ _|exact Qes _ _ _ _ _|exact QhR _ _ _|exact Qjq _|exact QlL _ _|exact Qfd _ _ _ _|exact Zv _ _ _ _|exact QnR _ _|exact QlM _ _ _ _|exact Qj3 _ _ _ _|exact QmP _ _ _ _ _|exact Qdr _|exact Qfi _ _ _ _ _ _|exact QbN _ _|exact Vn _|exact QdH _ _ _ _ _|refine Qg ?_ (fun _=> ?_))
  |split
  |exact Qq0 _ (Qg (VM _) fun _=>V9 _ _) (Qg (VM _) fun _=>V9 _ _)
  |exact Zv _ _ _ _
  |exact Qfd _ _ _ _
  |exact QbN _ _)
theorem QlP {γ:Type}{E:Env}{D:QR E}{DD:Nat->QR E}(hD:∀f x,Ct (D f x) fun n=>DD n f x) (nk:Fx) (ops:List Oper) (o:Oper):KL (YY (γ:=γ) E D nk ops o) fun n=>YY E (DD n) nk ops o:=by
 unfold YY
 cases o.guard with
 |none=>exact Qfa hD _ _
 |some g=>
  obtain⟨j,w⟩:=g
  dsimp only
  cases(ops[j]?).bind (·.dst)with
  |none=>exact Qa
  |some t=>exact Qo1 t w (Qfa hD _ _) (Qha _ _)
def zZ (E:Env) (f:Nat) (ins:Qc (E.sig f).ins) (outs:Qc (E.sig f).outs):Prop:=Evt fun n=>(mean E n).1 f ins=some outs
def QaP (E:Env) (f b:Nat) (v:Qc (E.lsig f b).sk.tys) (z:Yu (Zj (E.lsig f b).exits)):Prop:=Evt fun n=>(mean E n).2 f b v=some z
theorem zZ.step {E:Env}{f:Nat}{ins:Qc (E.sig f).ins}{outs:Qc (E.sig f).outs}(h:Evt fun n=>zL E (mean E n).1 (mean E n).2 f ins=some outs):zZ E f ins outs:=Evt.succ h
theorem QaP.step {E:Env}{f b:Nat}{v:Qc (E.lsig f b).sk.tys}{z:Yu (Zj (E.lsig f b).exits)}(h:Evt fun n=>ya E (mean E n).1 (mean E n).2 f b v=some z):QaP E f b v z:=Evt.succ h
theorem zZ.spec {P:Program}{E:Env}(hT:Q3 P E) (hE:EnvCode P E) (hLo:EnvLoops E) (hmix:P.follows .mixedOrders=true) {f:Nat}(hf:E.fok f=true) {ins:Qc (E.sig f).ins}{outs:Qc (E.sig f).outs}(h:zZ E f ins outs):Vc P E.gg (E.sig f) (E.real f) (unpack _ ins) (unpack _ outs):=by
 obtain⟨n,hn⟩:=h.here
 exact(xp hT hE hLo hmix n).1 f ins outs hf hn
theorem Ct.ite {β:Type}{c:Prop} [Decidable c] {x y:Option β}{X Y:Nat->Option β}(h:Ct x X) (h':Ct y Y):Ct (if c then x else y) fun n=>if c then X n else Y n:=by
 by_cases hc:c
 ·simp only[hc,if_true];exact h
 ·simp only[hc,if_false];exact h'
section
variable {E:Env}{D:QR E}{DD:Nat->QR E}{L:YP E}{LL:Nat->YP E}
theorem Qms (hD:∀f x,Ct (D f x) fun n=>DD n f x) (nk:Fx) (all:List Oper) (o:Oper):RPC (X5 (YY E D nk all o)) fun n=>X5 (YY E (DD n) nk all o):=
 QlP hD nk all o _ _ fun _=> .ret ()
theorem Qkn {β:Type}(hD:∀f x,Ct (D f x) fun n=>DD n f x) (nk:Fx) (all:List Oper):(l:List Oper)->(s:St)->(K:St->Option β)->(KK:Nat->St->Option β)->(∀s,Ct (K s) fun n=>KK n s)->Ct (Qc2 E D nk all l s K) fun n=>Qc2 E (DD n) nk all l s (KK n)
 | [],s,K,KK,h=>h s
 |o::l,s,K,KK,h=>(Qms hD nk all o).ev s _ _ fun _ s'=>Qkn hD nk all l s' K KK h
theorem Qi5 {β:Type}(hD:∀f x,Ct (D f x) fun n=>DD n f x) (nk:Fx) (all:List Oper):(l:List Oper)->(trs:List Tr)->(s:St)->(K:St->Option β)->(KK:Nat->St->Option β)->(∀s,Ct (K s) fun n=>KK n s)->Ct (yC E D nk all l trs s K) fun n=>yC E (DD n) nk all l trs s (KK n)
 | [],trs,s,K,KK,h=>Ct.ite (h s) Ct.none
 |o::l,trs,s,K,KK,h=>(Qms hD nk all o).evT s _ _ _ fun _ s' t=>Qi5 hD nk all l _ s' K KK h
theorem QiL {β:Type}(n:Nat):(l:List (Ex×Sk))->(z:Yu (Zj l))->(K:Ex->St->Option β)->(KK:Nat->Ex->St->Option β)->(∀e s,Ct (K e s) fun n=>KK n e s)->Ct (Qia n l z K) fun m=>Qia n l z (KK m)
 | [],_,_,_,_=>Ct.none
 | [(e,sk)],v,K,KK,h=>h e _
 |(e,sk)::a::l,z,K,KK,h=>by
  cases z with
  |inl v=>exact h e _
  |inr z'=>exact QiL n (a::l) z' K KK h
theorem Qi0 {β:Type}(hL:∀f b x,Ct (L f b x) fun n=>LL n f b x) (f:Nat) (s:St) (K:Ex->St->Option β) (KK:Nat->Ex->St->Option β) (h:∀e s,Ct (K e s) fun n=>KK n e s):(l:List Nat)->Ct (yf E L f s K l) fun n=>yf E (LL n) f s (KK n) l
 | []=>Ct.none
 |b::l=>by
  simp only[yf]
  refine Ct.ite ?_ Ct.none
  cases dec (E.lsig f b).sk s with
  |none=>exact Qi0 hL f s K KK h l
  |some v=>exact Ct.bind (hL f b v) fun z=>QiL _ _ _ _ _ h
theorem QqA {β:Type}(hD:∀f x,Ct (D f x) fun n=>DD n f x) (hL:∀f b x,Ct (L f b x) fun n=>LL n f b x) (f:Nat) (c:Code):∀(s:St) (K:Ex->St->Option β) (KK:Nat->Ex->St->Option β),(∀e s,Ct (K e s) fun n=>KK n e s)->Ct (ev E D L f c s K) fun n=>ev E (DD n) (LL n) f c s (KK n):=by
 induction c with
 |skip=>intro s K KK h;exact h .normal s
 |region i ops draw=>
  intro s K KK h
  simp only[ev]
  refine Ct.ite ?_ ?_
  ·exact Qi5 hD _ _ _ _ _ _ _ fun s=>h .normal s
  ·exact Qkn hD _ _ _ _ _ _ fun s=>h .normal s
 |seq a b iha ihb=>
  intro s K KK h
  simp only[ev]
  refine iha s _ _ fun e s'=> ?_
  cases e with
  |normal=>exact ihb s' K KK h
  |exit i=>exact h _ _
  |ret=>exact h _ _
 |cond c a b iha ihb=>
  intro s K KK h
  simp only[ev]
  cases c with
  |tmp t=>
   dsimp only
   cases QO (s.gT t)with
   |none=>exact Ct.none
   |some v=>exact Ct.cond (iha _ K KK h) (ihb _ K KK h)
  |const v=>
   cases v with
   |bool v=>exact Ct.cond (iha _ K KK h) (ihb _ K KK h)
   |_=>exact Ct.none
  |_=>exact Ct.none
 |block b c ih=>
  intro s K KK h
  have hK:∀e s,Ct (Ka b K e s) fun n=>Ka b (KK n) e s:=by
   intro e s
   cases e with
   |exit i=>exact Ct.ite (h _ _) (h _ _)
   |normal=>exact h _ _
   |ret=>exact h _ _
  cases hl:Qce c with
  |true=>
   cases c with
   |loop x=>
    simp only[Qi2]
    exact Qi0 hL f s _ _ hK _
   |_=>cases hl
  |false=>
   simp only[QkN hl]
   exact ih s _ _ hK
 |exit i=>intro s K KK h;exact h _ _
 |ret=>intro s K KK h;exact h _ _
 |_=>intros;exact Ct.none
theorem Qpr (hD:∀f x,Ct (D f x) fun n=>DD n f x) (hL:∀f b x,Ct (L f b x) fun n=>LL n f b x) (f:Nat) (x:Qc (E.sig f).ins):Ct (zL E D L f x) fun n=>zL E (DD n) (LL n) f x:=by
 unfold zL
 cases E.ext f with
 |some g=>exact Ct.same _
 |none=>exact QqA hD hL f _ _ _ _ fun e s=>Ct.same _
theorem Qfs (hL:∀f b x,Ct (L f b x) fun n=>LL n f b x) (f b:Nat) (s:St):(l:List Nat)->Ct (JG E L f b s l) fun n=>JG E (LL n) f b s l
 | []=>Ct.none
 |b'::l=>by
  simp only[JG]
  refine Ct.ite ?_ Ct.none
  cases dec (E.lsig f b').sk s with
  |none=>exact Qfs hL f b s l
  |some v=>exact Ct.bind (hL f b' v) fun z=>QiL _ _ _ _ _ fun e s=>Ct.same _
theorem Qpn (hD:∀f x,Ct (D f x) fun n=>DD n f x) (hL:∀f b x,Ct (L f b x) fun n=>LL n f b x) (f b:Nat) (x:Qc (E.lsig f b).sk.tys):Ct (ya E D L f b x) fun n=>ya E (DD n) (LL n) f b x:=by
 unfold ya
 refine QqA hD hL f _ _ _ _ fun e s=> ?_
 cases e with
 |normal=>
  simp only[QnO]
  cases dec (E.lsig f b).sk s with
  |some v'=>exact hL f b v'
  |none=>exact Qfs hL f b s _
 |exit i=>exact Ct.same _
 |ret=>exact Ct.same _
end
theorem Evt.unique {α:Type}{X:Nat->Option α}{a b:α}(h:Evt fun n=>X n=some a) (h':Evt fun n=>X n=some b):a=b:=by
 obtain⟨n,e,e'⟩:=(h.and h').here
 rw[e]at e';exact QY7 e'
open Classical in
noncomputable def W (E:Env):QR E:=fun f x=>if h:∃o,zZ E f x o then some (Classical.choose h)else none
open Classical in
noncomputable def WL (E:Env):YP E:=fun f b x=>if h:∃o,QaP E f b x o then some (Classical.choose h)else none
theorem QtC {E:Env}{f:Nat}{x:Qc (E.sig f).ins}{o:Qc (E.sig f).outs}(h:zZ E f x o):W E f x=some o:=by
 have hx:∃o,zZ E f x o:=⟨o,h⟩
 unfold W
 rw[dif_pos hx]
 exact congrArg some (Evt.unique (Classical.choose_spec hx) h)
theorem QhK {E:Env}{f:Nat}{x:Qc (E.sig f).ins}{o:Qc (E.sig f).outs}(h:W E f x=some o):zZ E f x o:=by
 unfold W at h
 split at h
 ·rename_i hx
  rw[<-QY7 h];exact Classical.choose_spec hx
 ·cases h
theorem Qsx {E:Env}{f b:Nat}{x:Qc (E.lsig f b).sk.tys}{o:Yu (Zj (E.lsig f b).exits)}(h:QaP E f b x o):WL E f b x=some o:=by
 have hx:∃o,QaP E f b x o:=⟨o,h⟩
 unfold WL
 rw[dif_pos hx]
 exact congrArg some (Evt.unique (Classical.choose_spec hx) h)
theorem Qkf {E:Env}{f b:Nat}{x:Qc (E.lsig f b).sk.tys}{o:Yu (Zj (E.lsig f b).exits)}(h:WL E f b x=some o):QaP E f b x o:=by
 unfold WL at h
 split at h
 ·rename_i hx
  rw[<-QY7 h];exact Classical.choose_spec hx
 ·cases h
theorem Qrg {E:Env}{f:Nat}{x:Qc (E.sig f).ins}{o:Qc (E.sig f).outs}(h:zL E (W E) (WL E) f x=some o):W E f x=some o:=
 QtC (zZ.step (Qpr (fun f x o h=>QhK h) (fun f b x o h=>Qkf h) f x o h))
theorem Qpa {E:Env}{f b:Nat}{x:Qc (E.lsig f b).sk.tys}{o:Yu (Zj (E.lsig f b).exits)}(h:ya E (W E) (WL E) f b x=some o):WL E f b x=some o:=
 Qsx (QaP.step (Qpn (fun f x o h=>QhK h) (fun f b x o h=>Qkf h) f b x o h))
end Go.Eng
namespace Go.Eng
open Go
def ap {E:Env}{f:Nat}{A B:Type}(hA:Qc (E.sig f).ins=A) (hB:Qc (E.sig f).outs=B) (D:QR E) (a:A):Option B:=cast (congrArg Option hB) (D f (cast hA.symm a))
def apL {E:Env}{f b:Nat}{A B:Type}(hA:Qc (E.lsig f b).sk.tys=A) (hB:Yu (Zj (E.lsig f b).exits)=B) (L:YP E) (a:A):Option B:=cast (congrArg Option hB) (L f b (cast hA.symm a))
theorem Qp6 {E:Env}{f:Nat}{A B:Type}(hA:Qc (E.sig f).ins=A) (hB:Qc (E.sig f).outs=B) {a:A}{r:Option B}{o:B}(e:ap hA hB (zL E (W E) (WL E)) a=r) (h:r=some o):ap hA hB (W E) a=some o:=by
 subst hA hB
 exact Qrg (e.trans h)
theorem Qn5 {E:Env}{f b:Nat}{A B:Type}(hA:Qc (E.lsig f b).sk.tys=A) (hB:Yu (Zj (E.lsig f b).exits)=B) {a:A}{r:Option B}{o:B}(e:apL hA hB (ya E (W E) (WL E)) a=r) (h:r=some o):apL hA hB (WL E) a=some o:=by
 subst hA hB
 exact Qpa (e.trans h)
theorem QqR {P:Program}{E:Env}(hT:Q3 P E) (hE:EnvCode P E) (hLo:EnvLoops E) (hmix:P.follows .mixedOrders=true) {f:Nat}(hf:E.fok f=true) {A B:Type}(hA:Qc (E.sig f).ins=A) (hB:Qc (E.sig f).outs=B) {a:A}{o:B}(h:ap hA hB (W E) a=some o):
 Vc P E.gg (E.sig f) (E.real f) (unpack _ (cast hA.symm a)) (unpack _ (cast hB.symm o)):=by
 subst hA hB
 exact zZ.spec hT hE hLo hmix hf (QhK h)
end Go.Eng
namespace Go.Eng
open Go
set_option linter.unusedVariables false
mutual
def Fit:(t:Ty)->Val t->Prop
 | .int k,n=>(Lit.int k n).wf=true
 | .bool,_=>True
 | .str,s=>ByteArray.size s<=maxLen
 | .sl ts,xs=>(vl xs).length<=maxLen/\∀x∈vl xs,VZ ts x
def VZ:(ts:Tys)->Qc ts->Prop
 | .nil,_=>True
 | .cons t ts,x=>Fit t (vhd x)/\VZ ts (vtl x)
end
def Rd (w:World) (ts:Tys) (cs:List Value):Prop:=∃(x:Qc ts) (bl:List Nat),QS w ts x cs bl/\VZ ts x/\∀b∈bl,b<w.heap.size
theorem Rd.nil {w:World}:Rd w .nil []:=⟨(),[],⟨rfl,rfl⟩,trivial,by simp⟩
theorem Qb6 {t:Ty}{ts:Tys}(a:Val t) (b:Qc ts):vhd (vmk a b)=a:=by cases ts<;>rfl
theorem Qb8 {t:Ty}{ts:Tys}(a:Val t) (b:Qc ts):vtl (vmk a b)=b:=by cases ts<;>rfl
theorem Rd.cons {w:World}{t:Ty}{ts:Tys}{u:Value}{us:List Value}{a:Val t}{b1:List Nat}(h:Rep w t a u b1) (hf:Fit t a) (hb:∀b∈b1,b<w.heap.size) (h2:Rd w ts us):Rd w (.cons t ts) (u::us):=by
 obtain⟨x,bl,h3,h4,h5⟩:=h2
 refine⟨vmk a x,b1++bl,⟨u,us,b1,bl,rfl,rfl, ?_, ?_⟩,⟨?_, ?_⟩,fun b hb'=> ?_⟩
 ·rw[Qb6];exact h
 ·rw[Qb8];exact h3
 ·rw[Qb6];exact hf
 ·rw[Qb8];exact h4
 ·rcases QRh.1 hb' with h|h
  ·exact hb b h
  ·exact h5 b h
theorem Rd.uncons {w:World}{t:Ty}{ts:Tys}{cs:List Value}(h:Rd w (.cons t ts) cs):∃u us a b1,cs=u::us/\Rep w t a u b1/\Fit t a/\(∀b∈b1,b<w.heap.size)/\Rd w ts us:=by
 obtain⟨x,bl,⟨u,us,b1,b2,e1,e2,h1,h2⟩,⟨h3,h4⟩,h5⟩:=h
 exact⟨u,us,vhd x,b1,e1,h1,h3,fun b hb=>h5 b (by rw[e2];exact List.mem_append_left _ hb),vtl x,b2,h2,h4,fun b hb=>h5 b (by rw[e2];exact List.mem_append_right _ hb)⟩
theorem Rd.app {w:World}: {ts us:Tys}-> {cs ds:List Value}->Rd w ts cs->Rd w us ds->Rd w (ts.app us) (cs++ds)
 | .nil,us,cs,ds,⟨_,_,⟨h,_⟩,_,_⟩,h'=>by subst h;exact h'
 | .cons t ts,us,cs,ds,h,h'=>by
   obtain⟨u,us',a,b1,rfl,h1,h2,h3,h4⟩:=h.uncons
   exact Rd.cons h1 h2 h3 (Rd.app h4 h')
theorem Rd.len {w:World}: {ts:Tys}-> {cs:List Value}->Rd w ts cs->cs.length=ts.len
 | .nil,cs,⟨_,_,⟨h,_⟩,_,_⟩=>by subst h;rfl
 | .cons t ts,cs,h=>by
   obtain⟨u,us',a,b1,rfl,h1,h2,h3,h4⟩:=h.uncons
   simp[Tys.len,Rd.len h4]
def Tys.strip:Tys->Tys->Option Tys
 | .nil,ts=>some ts
 | .cons t ts, .cons u us=>match Ty.eq? t u with|some _=>Tys.strip ts us|none=>none
 | .cons _ _, .nil=>none
theorem Tys.QgQ:(a b c:Tys)->Tys.strip a b=some c->b=a.app c
 | .nil,b,c,h=>by simp only[Tys.strip,Option.some.injEq]at h;exact h
 | .cons t ts, .nil,c,h=>by cases h
 | .cons t ts, .cons u us,c,h=>by
   simp only[Tys.strip]at h
   split at h
   ·rename_i p _
    obtain⟨p⟩:=p
    subst p
    simp only[Tys.app]
    rw[Tys.QgQ ts us c h]
   ·cases h
def vG (a b:Tys):Bool:=match Tys.eq? a b with|some _=>true|none=>false
theorem Jd {a b:Tys}(h:vG a b=true):a=b:=by
 unfold vG at h
 split at h
 ·rename_i p _;exact p.down
 ·cases h
def QeK (P:Program) (ty:Nat->TI):Nat->List Field->Tys->Bool
 |_,[],ts=>(match ts with| .nil=>true|_=>false)
 |off,f::fs,ts=>(ty f.type).ok&&Nat.beq f.offset off&&Nat.beq (P.cellsOf f.type) (ty f.type).ts.len&&(match(ty f.type).ts.strip ts with|some rest=>QeK P ty (off+(ty f.type).ts.len) fs rest|none=>false)
def rdB (P:Program) (ty:Nat->TI) (T:Nat) (i:TI):Bool:= !i.ok||(match P.underlying T with
 |some (.int k)=> !i.agg&&vG i.ts (.cons (.int k) .nil)
 |some .bool=> !i.agg&&vG i.ts (.cons .bool .nil)
 |some .string=> !i.agg&&vG i.ts (.cons .str .nil)
 |some (.slice e)=> !i.agg&&(ty e).ok&&Nat.blt 0 (ty e).ts.len&&Nat.beq (P.cellsOf e) (ty e).ts.len&&vG i.ts (.cons (.sl (ty e).ts) .nil)
 |some (.struct fs)=>i.agg&&Nat.beq (P.cellsOf T) i.ts.len&&QeK P ty 0 fs.toList i.ts
 |_=>false)
theorem Qmq {w:World}{ts:Tys}{a:Addr}:(n:Nat)->(∀i,i<n->∃us,Cells w a (i*ts.len) us/\Rd w ts us)->∃(xs:List (Qc ts)) (bls:List (List Nat)),xs.length=n/\bls.length=n/\(∀x∈xs,VZ ts x)/\(∀b∈bls.flatten,b<w.heap.size)/\
 ∀(i:Nat) (x:Qc ts) (b:List Nat),xs[i]? =some x->bls[i]? =some b->∃us,Cells w a (i*ts.len) us/\QS w ts x us b
 |0,_=>⟨[],[],rfl,rfl,by simp,by simp,by simp⟩
 |n+1,h=>by
  obtain⟨xs,bls,h1,h2,h3,h4,h5⟩:=Qmq n fun i hi=>h i (by omega)
  obtain⟨us,c1,x,bl,c2,c3,c4⟩:=h n (by omega)
  refine⟨xs++[x],bls++[bl],by simp[h1],by simp[h2],fun y hy=> ?_,fun b hb=> ?_,fun i y b hy hb=> ?_⟩
  ·rcases QRh.1 hy with h|h
   ·exact h3 y h
   ·rw[List.mem_singleton.1 h];exact c3
  ·rw[QY14]at hb
   rcases QRh.1 hb with h|h
   ·exact h4 b h
   ·exact c4 b (by simpa using h)
  ·by_cases hi:i<n
   ·rw[List.getElem?_append_left (by omega)]at hy hb
    exact h5 i y b hy hb
   ·have hin:i=n:=by
     have:=(QRq.1 hy).1
     simp[h1]at this;omega
    subst hin
    rw[QY31 (by omega),h1,Nat.sub_self]at hy
    rw[QY31 (by omega),h2,Nat.sub_self]at hb
    simp at hy hb;subst hy hb
    exact⟨us,c1,c2⟩
section
variable {H:Type}{enc:TypeId×Value->H}{P:Program}{w:World}{sp:Nat->Bool}{held:Bool}{ty:Nat->TI}
theorem Qe9 {n:Nat}(ih:∀T cs y,(ty T).ok=true->DataW.trod enc P w 0 sp held n T cs=some y->Rd w (ty T).ts cs) (cs:List Value):(fs:List Field)->(off:Nat)->(ts:Tys)->QeK P ty off fs ts=true->
 (∀f∈fs,∃y,DataW.trod enc P w 0 sp held n f.type ((cs.drop f.offset).take (P.cellsOf f.type))=some y)->cs.length=off+ts.len->Rd w ts (cs.drop off)
 | [],off,ts,h,_,hl=>by
   cases ts with
   |nil=>
    simp only[Tys.len]at hl
    rw[List.drop_of_length_le (by omega)];exact Rd.nil
   |cons _ _=>cases h
 |f::fs,off,ts,h,hf,hl=>by
  simp only[QeK,QQ5,QY11]at h
  obtain⟨⟨⟨h1,h2⟩,h3⟩,h4⟩:=h
  split at h4
  ·rename_i rest hs
   have e:=Tys.QgQ _ _ _ hs
   obtain⟨y,hy⟩:=hf f (by simp)
   have r:=ih _ _ _ h1 hy
   have hlen:=r.len
   rw[h2,h3]at r hlen
   have e2:ts.len=(ty f.type).ts.len+rest.len:=by
    rw[e]
    generalize (ty f.type).ts=a
    have:∀a:Tys,(a.app rest).len=a.len+rest.len:=by
     intro a
     induction a using Tys.rec (motive_1:=fun _=>True)with
     |nil=>simp[Tys.app,Tys.len]
     |cons t ts _ iht=>simp only[Tys.app,Tys.len,iht];omega
     |_=>trivial
    exact this a
   have r2:=Qe9 ih cs fs (off+(ty f.type).ts.len) rest h4 (fun g hg=>hf g (by simp[hg])) (by omega)
   have:=r.app r2
   rw[<-e]at this
   have e3:(cs.drop off).take (ty f.type).ts.len++cs.drop (off+(ty f.type).ts.len)=cs.drop off:=by
    rw[<-List.drop_drop];exact List.take_append_drop _ _
   rw[e3]at this
   exact this
  ·cases h4
theorem read (hB:∀T,rdB P ty T (ty T)=true):(fuel:Nat)->(T:Nat)->(cs:List Value)->(y:DataW H×List MemPlace)->(ty T).ok=true->DataW.trod enc P w 0 sp held fuel T cs=some y->Rd w (ty T).ts cs
 |0,T,cs,y,_,h=>by simp[DataW.trod]at h
 |fuel+1,T,cs,y,hok,h=>by
  have hb:=hB T
  simp only[rdB,hok,QQ3,Bool.false_or]at hb
  split at hb
  ·rename_i k hu
   simp only[QQ5]at hb
   rw[Jd hb.2]
   obtain⟨n,rfl,_,hw⟩:=DataW.trod_int hu h
   exact Rd.cons (a:=(show Val (.int k)from n)) (b1:=[]) ⟨rfl,rfl⟩ hw (by simp) Rd.nil
  ·rename_i hu
   simp only[QQ5]at hb
   rw[Jd hb.2]
   obtain⟨b,rfl,_⟩:=DataW.trod_bool hu h
   exact Rd.cons (a:=(show Val .bool from b)) (b1:=[]) ⟨rfl,rfl⟩ trivial (by simp) Rd.nil
  ·rename_i hu
   simp only[QQ5]at hb
   rw[Jd hb.2]
   obtain⟨s,rfl,_,hs⟩:=DataW.trod_string hu h
   exact Rd.cons (a:=(show Val .str from s)) (b1:=[]) ⟨rfl,rfl⟩ hs (by simp) Rd.nil
  ·rename_i e hu
   simp only[QQ5,QY11,Nat.blt_eq]at hb
   obtain⟨⟨⟨⟨_,h1⟩,h2⟩,h3⟩,h4⟩:=hb
   rw[Jd h4]
   rcases DataW.trod_slice hu h with⟨rfl,_⟩|⟨a,len,cap,elems,rest,n,hn,rfl,_,_,hl,hm,hlen,hel,_,_⟩
   ·exact Rd.cons (a:=(show Val (.sl (ty e).ts)from([]:List (Qc (ty e).ts)))) (b1:=[]) ⟨none,0,rfl,⟨QY1 _,fun _=>rfl⟩, .inl ⟨rfl,rfl⟩⟩ ⟨by simp[vl],by simp[vl]⟩ (by simp) Rd.nil
   ·obtain rfl:fuel=n:=by omega
    have each:∀i,i<len->∃us,Cells w a (i*(ty e).ts.len) us/\Rd w (ty e).ts us/\a.block<w.heap.size:=by
     intro i hi
     have h5:=hel i hi
     rw[QRp (by omega)]at h5
     obtain⟨us,h6,h7⟩:=Option.bind_eq_some_iff.1 h5
     refine⟨us,fun j u hj=> ?_,read hB fuel e us _ h1 h7, ?_⟩
     ·obtain⟨_,g1,g2⟩:=World.cells?_some h6
      have hj':j<us.length:=(QRq.1 hj).1
      have:=g2 j (by omega)
      rw[Addr.add_add,h3,hj]at this
      exact this
     ·have:=World.cells?_block h6 (by omega)
      rwa[Qew]at this
    obtain⟨xs,bls,x1,x2,x3,x4,x5⟩:=Qmq (w:=w) (ts:=(ty e).ts) (a:=a) len fun i hi=>by
     obtain⟨us,c1,c2,_⟩:=each i hi
     exact⟨us,c1,c2⟩
    by_cases h0:len=0
    ·subst h0
     have x1:xs=[]:=QRx x1
     exact Rd.cons (a:=(show Val (.sl (ty e).ts)from([]:List (Qc (ty e).ts)))) (b1:=[]) ⟨some a,cap,rfl,⟨Nat.zero_le _,fun h=>by cases h⟩, .inl ⟨rfl,rfl⟩⟩ ⟨by simp[vl],by simp[vl]⟩ (by simp) Rd.nil
    ·refine Rd.cons (a:=(show Val (.sl (ty e).ts)from xs)) (b1:=a.block::bls.flatten) ⟨some a,cap,by rw[show(vl (show Val (.sl (ty e).ts)from xs)).length=len from x1],⟨by rw[show(vl (show Val (.sl (ty e).ts)from xs)).length=len from x1];exact hl,fun h=>by cases h⟩, .inr ⟨a,bls,rfl,rfl,by rw[x2];exact x1.symm,x5⟩⟩ ⟨by rw[show(vl (show Val (.sl (ty e).ts)from xs)).length=len from x1];omega,x3⟩ (fun b hb=> ?_) Rd.nil
     rcases QRk.1 hb with h|h
     ·obtain⟨_,_,_,h7⟩:=each 0 (by omega)
      rw[h];exact h7
     ·exact x4 b h
  ·rename_i fs hu
   simp only[QQ5,QY11]at hb
   obtain⟨⟨_,h2⟩,h3⟩:=hb
   obtain⟨xs,n,hn,_,hl,hx,hf⟩:=DataW.trod_struct hu h
   obtain rfl:fuel=n:=by omega
   have:=Qe9 (read hB fuel) cs fs.toList 0 (ty T).ts h3 (fun f hfm=>by
    obtain⟨i,hi,he⟩:=List.mem_iff_getElem.1 hfm
    have h5:=hf i f (by rw[Array.getElem?_eq_getElem (by simpa using hi)];simpa using he)
    exact⟨xs[i]'(by rw[hx];simpa using hi),by rw[h5,QRp]⟩) (by omega)
   rwa[QRg]at this
  ·cases hb
end
end Go.Eng
namespace Go.Eng
open Go Go.RowKit
set_option linter.unusedVariables false
def QnT (ty:Nat->TI):List TypeId->List PSig->Bool
 | [],[]=>true
 |T::Ts, .val a cs::ps=>(ty T).ok&&(a==(ty T).agg)&&cs.all (fun c=>c.1.Qv)&&vG (Vw cs) (ty T).ts&&QnT ty Ts ps
 |_,_=>false
section
variable {H:Type}{enc:TypeId×Value->H}{P:Program}{w:World}{sp:Nat->Bool}{held:Bool}{ty:Nat->TI}
theorem Qmy {R:Nat->Prop}(hR:∀b,b<w.heap.size->R b):(cs:List (Mode×Ty))->(us:List Value)->cs.all (fun c=>c.1.Qv)=true->Rd w (Vw cs) us->∃x:Qc (Vw cs),VZ (Vw cs) x/\∃bls,bls.flatten=[]/\J4 w R cs (unpack _ x) us bls
 | [],us,_,⟨x,bl,⟨h,_⟩,_,_⟩=>⟨(),trivial,[],rfl,rfl,h,rfl⟩
 |(.ro,t)::l,us,h,hr=>by
  simp only[List.all_cons,QQ5]at h
  obtain⟨u,us',a,b1,rfl,h1,h2,h3,h4⟩:=Rd.uncons (ts:=Vw l) hr
  obtain⟨x,f1,bls,e1,c1⟩:=Qmy hR l us' h.2 h4
  refine⟨(vmk a x:Qc (.cons t (Vw l))),⟨by rw[Qb6];exact h2,by rw[Qb8];exact f1⟩,[]::bls,by simp[e1],⟨t,a⟩,unpack _ x,u,us',[],bls, ?_,rfl,rfl,⟨rfl, ?_⟩,c1⟩
  ·show(⟨t,vhd (vmk a x)⟩:TV)::unpack (Vw l) (vtl (vmk a x))=_
   rw[Qb6,Qb8]
  ·have:takes .ro t=false:=by simp[takes,Mode.Qv]
   rw[this]
   exact⟨rfl,b1,h1,fun c hc=>hR c (h3 c hc)⟩
 |(.mut,t)::l,us,h,hr=>by simp[Mode.Qv]at h
 |(.own,t)::l,us,h,hr=>by simp[Mode.Qv]at h
 |(.junk,t)::l,us,h,hr=>by simp[Mode.Qv]at h
theorem Qhr:(a b:Tys)->(x:Qc a)->(y:Qc b)->∃z:Qc (a.app b),unpack _ z=unpack _ x++unpack _ y/\(VZ a x->VZ b y->VZ (a.app b) z)
 | .nil,b,x,y=>⟨y,rfl,fun _ h=>h⟩
 | .cons t ts,b,x,y=>by
   obtain⟨z,h1,h2⟩:=Qhr ts b (vtl x) y
   refine⟨(vmk (vhd x) z:Qc (.cons t (ts.app b))), ?_,fun hx hy=>⟨?_, ?_⟩⟩
   ·show(⟨t,vhd (vmk (vhd x) z)⟩:TV)::unpack (ts.app b) (vtl (vmk (vhd x) z))=_
    rw[Qb6,Qb8,h1];rfl
   ·rw[Qb6];exact hx.1
   ·rw[Qb8];exact h2 hx.2 hy
theorem QlV {base:Nat}{T:TypeId}{v:Value}(hok:(ty T).ok=true) (hB:rdB P ty T (ty T)=true) (h:Value.okWide P w .any base T v):(if(ty T).agg then v= .agg v.cells.toList.toArray else v.cells.toList=[v]):=by
 simp only[rdB,hok,QQ3,Bool.false_or]at hB
 unfold Value.okWide at h
 split at hB
 ·rename_i k hu
  simp only[QQ5,QY21]at hB
  rw[hu]at h
  simp only[Cell.okWide,Cell.ok,hu]at h
  rw[hB.1]
  cases v<;>simp_all[Value.cells]
 ·rename_i hu
  simp only[QQ5,QY21]at hB
  rw[hu]at h
  simp only[Cell.okWide,Cell.ok,hu]at h
  rw[hB.1]
  cases v<;>simp_all[Value.cells]
 ·rename_i hu
  simp only[QQ5,QY21]at hB
  rw[hu]at h
  simp only[Cell.okWide,Cell.ok,hu]at h
  rw[hB.1]
  cases v<;>simp_all[Value.cells]
 ·rename_i e hu
  simp only[QQ5,QY21]at hB
  rw[hu]at h
  simp only[Cell.okWide,Cell.ok,hu]at h
  rw[hB.1.1.1.1]
  cases v<;>simp_all[Value.cells]
 ·rename_i fs hu
  simp only[QQ5]at hB
  rw[hu]at h
  obtain⟨cs,rfl,_⟩:=h
  rw[hB.1.1]
  simp[Value.cells]
 ·cases hB
theorem Qj5 {base:Nat}{R:Nat->Prop}(hR:∀b,b<w.heap.size->R b) (hB:∀T,rdB P ty T (ty T)=true):(Ts:List TypeId)->(ps:List PSig)->(vs:List Value)->(ds:List (DataW H))->(p:List MemPlace)->QnT ty Ts ps=true->DataW.TrodAll enc P w 0 sp held Ts vs ds p->
 (∀(j:Nat) t v,Ts[j]? =some t->vs[j]? =some v->Value.okWide P w .any base t v)->∃a:Qc (Qdk ps),VZ _ a/\∃bls,bls.flatten=[]/\JK w R ps (unpack _ a) vs [] bls
 | [],[],[],[],p,_,_,_=>⟨(),trivial,[],rfl,rfl,rfl,rfl,rfl⟩
 | [],[],_::_,_,p,_,h,_=>by cases h
 | [],[],[],_::_,p,_,h,_=>by cases h
 | [],_::_,_,_,p,h,_,_=>by cases h
 |_::_,[],_,_,p,h,_,_=>by cases h
 |_::_, .ptr _::_,_,_,p,h,_,_=>by cases h
 |_::_, .fn _ _::_,_,_,p,h,_,_=>by cases h
 |_::_, .val _ _::_,[],_,p,_,h,_=>by cases h
 |_::_, .val _ _::_,_::_,[],p,_,h,_=>by cases h
 |T::Ts, .val a cs::ps,v::vs,d::ds,p,h,ht,hval=>by
  simp only[QnT,QQ5,beq_iff_eq]at h
  obtain⟨⟨⟨⟨h1,h2⟩,h3⟩,h4⟩,h5⟩:=h
  obtain⟨p1,q1,⟨fuel,k1⟩,k2,_⟩:=ht
  have r:=read hB fuel T _ _ h1 k1
  rw[<-Jd h4]at r
  obtain⟨x,f1,b1,e1,c1⟩:=Qmy hR cs _ h3 r
  obtain⟨y,f2,b2,e2,c2⟩:=Qj5 hR hB Ts ps vs ds q1 h5 k2 (fun j t v hj hv=>hval (j+1) t v (by simpa using hj) (by simpa using hv))
  obtain⟨z,g1,g2⟩:=Qhr (Vw cs) (Qdk ps) x y
  refine⟨z,g2 f1 f2,b1++b2,by simp[e1,e2],unpack _ x,unpack _ y,v,vs,[],[],b1,b2,g1,rfl,rfl,rfl,⟨rfl,v.cells.toList, ?_,c1⟩,c2⟩
  have:=QlV h1 (hB T) (hval 0 T v rfl rfl)
  rw[<-h2]at this
  exact this
end
theorem Qo5 {w w':World}(h:Grow (·∈([]:List Nat)) w w'):Below w.heap.size w w':=⟨h.os,h.tape,h.output,h.size,fun k hk=>h.block k hk (by simp)⟩
def Mode.Qgc:Mode->Bool
 | .junk=>true
 |_=>false
theorem Qti {H:Type}{enc:TypeId×Value->H}{P:Program}{E:Env}(hT:Q3 P E) (hE:EnvCode P E) (hLo:EnvLoops E) (hmix:P.follows .mixedOrders=true) (hB:∀T,rdB P E.ty T (E.ty T)=true) {f:Nat}(hf:E.fok f=true)
 {tys:Tys}(ht:(E.sig f).ins=tys) {m:Mode}(hrs:(E.sig f).rs=[.val false [(m, .bool)]]) (hm:m.Qgc=false) (hto:(E.sig f).outs= .cons .bool .nil) (pure:∀a:Qc tys,VZ tys a->ap (congrArg Qc ht) (congrArg Qc hto) (W E) a=some (show Qc (.cons .bool .nil)from true))
 {w:World}{sp:Nat->Bool}{held:Bool}{Ts:List TypeId}(hlaw:QnT E.ty Ts (E.sig f).ps=true) {vs:List Value}{ds:List (DataW H)}{p:List MemPlace}(htr:DataW.TrodAll enc P w 0 sp held Ts vs ds p) {base:Nat}(hval:∀(j:Nat) t v,Ts[j]? =some t->vs[j]? =some v->Value.okWide P w .any base t v) (hgl:E.gg.gl w) (hgb:∀b∈E.gg.gb,b<w.heap.size):
 Calls P (E.real f) vs.toArray w fun e w'=>e= .returned (.bool true)/\Below w.heap.size w w':=by
 subst ht
 obtain⟨a,ha,bls,hbls,hin⟩:=Qj5 (R:=fun b=>b<w.heap.size) (fun b h=>h) hB Ts _ vs ds p hlaw htr hval
 have hs:=QqR hT hE hLo hmix hf _ _ (pure a ha)
 refine(hs w (fun b=>b<w.heap.size) vs [] bls hgl hgb hin (by simp[hbls]) (by simp[hbls]) (fun b hb=>⟨hb,by simp[hbls]⟩)).mono ?_
 rintro e w' ⟨v,rfl,hgrow,rx,px,rvs,rbs,rbls,pbls,Q,h1,h2,h3,_⟩
 rw[hbls]at hgrow
 refine⟨?_,Qo5 hgrow⟩
 have hu:unpack (E.sig f).outs (cast (congrArg Qc hto).symm (show Qc (.cons .bool .nil)from true))=[⟨.bool,true⟩]:=by
  have:∀(ts:Tys) (h:ts= .cons .bool .nil),unpack ts (cast (congrArg Qc h).symm (show Qc (.cons .bool .nil)from true))=[⟨.bool,true⟩]:=by
   intro ts h;subst h;rfl
  exact this _ hto
 rw[hu]at h1
 rw[hrs]at h3
 obtain⟨x1,x2,v1,vs',b1,b2,l1,l2,e1,e2,_,_,⟨_,us,hus,hc⟩,hrest⟩:=h3
 obtain⟨e3,e4,_,_⟩:=hrest
 have hus:us=[v1]:=hus
 subst hus e4 e2 e3 h2
 have hfin:∀(x:TV) (xs':List TV) (u:Value) (us':List Value) (bl:List Nat),x1=x::xs'->[v]=u::us'->Zu w' Q m .bool x u bl->v= .bool true:=by
  intro x xs' u us' bl hx hu' ⟨ht,hc⟩
  have:takes m .bool=false:=rfl
  rw[this]at hc
  obtain⟨_,b',hr,_⟩:=hc
  cases hu'
  rw[e1,hx]at h1
  simp only[QRv,QY19]at h1
  obtain⟨rfl,_⟩:=List.cons.inj h1
  exact hr.1
 have:v= .bool true:=by
  cases m
  case junk=>cases hm
  all_goals
   obtain⟨x,xs',u,us',bl,bls',q1,q2,_,q3,_⟩:=hc
   exact hfin x xs' u us' bl q1 q2 q3
 rw[this]
def ti0:TI:=⟨false,false, .nil,0,0,[],false⟩
theorem Qtr {P:Program}{ty:BT TI}(h:ty.all (rdB P (ty.get ti0))=true) (T:Nat):rdB P (ty.get ti0) T (ty.get ti0 T)=true:=by
 rcases BT.vm (d:=ti0) ty h T with h|h
 ·exact h
 ·rw[h];rfl
theorem QtM {P:Program}{ty:BT TI}(h:ty.all (fun _ i=> !i.eqOk)=true) (T:Nat):QpL P T (ty.get ti0 T):=by
 intro he
 rcases BT.vm (d:=ti0) ty h T with h|h
 ·rw[he]at h;cases h
 ·rw[h]at he;cases he
theorem BT.QhM {α:Type}{f:Nat->α->Bool}{p:Nat->α->Prop}(hp:∀k v,f k v=true->p k v):(t:BT α)->t.all f=true->t.QdO p
 | .leaf,_=>trivial
 | .node k v l r,h=>by
   simp only[BT.all,QQ5]at h
   exact⟨hp k v h.1.1,BT.QhM hp l h.1.2,BT.QhM hp r h.2⟩
theorem QpU {t:BT Func}(h:t.all (fun _ fn=> !(fn.name== "runtime.NumGoroutine"))=true):t.QdO fun _ fn=>(fn.name== "runtime.NumGoroutine")=false:=
 BT.QhM (fun _ _ h=>by simpa using h) t h
end Go.Eng
namespace Go.Eng
open Go
theorem w64 {n:Int}(h1: -9223372036854775808<=n) (h2:n<=9223372036854775807):wR n=n:=IntWalk.i64_in n ⟨h1,h2⟩
theorem QqT (i n:Nat):inb (i:Int) n=decide (i<n):=by
 unfold inb
 by_cases h:i<n
 ·simp[h]
 ·simp[h]
theorem Qn {i n:Nat}(h:i<n):inb (i:Int) n=true:=by rw[QqT];simpa using h
theorem Qk {α:Type}{d:α}{xs:List α}{i:Nat}(h:i<xs.length):rd1 d xs (i:Int)=xs[i]:=by
 unfold rd1
 rw[QRb]
 simp[List.getD,QRp h]
theorem ilt {i n:Nat}(h:i<n):decide ((i:Int)<(n:Int))=true:=by simp[h]
theorem Qy (n:Nat):decide ((n:Int)<(n:Int))=false:=by simp
theorem inc {i n:Nat}(h:i<n) (hn:n<=maxLen):wR ((i:Int)+1)=((i+1:Nat):Int):=by
 rw[w64]<;>simp[maxLen]at hn<;>omega
theorem QN {n b:Nat}(h:n*b<=140737488351232):fits n b=true:=by simp[fits,h]
theorem Jw {α β R:Type}(xs:List α) (f:α->β) (K:Nat->List β->Option R) (fin:List β->R)
 (hstep:∀i (h:i<xs.length) (out:List β) r,out.length=xs.length->K (i+1) (out.set i (f xs[i]))=some r->K i out=some r)
 (hend:∀out:List β,out.length=xs.length->K xs.length out=some (fin out)) (out:List β) (ho:out.length=xs.length):K 0 out=some (fin (xs.map f)):=by
 have main:∀n i (out:List β),i+n=xs.length->out.length=xs.length->out.take i=(xs.map f).take i->K i out=some (fin (xs.map f)):=by
  intro n
  induction n with
  |zero=>
   intro i out hi ho ht
   have:i=xs.length:=by omega
   subst this
   rw[hend out ho]
   rw[List.take_of_length_le (by omega),List.take_of_length_le (by simp)]at ht
   rw[ht]
  |succ n ih=>
   intro i out hi ho ht
   refine hstep i (by omega) out _ ho (ih (i+1) _ (by omega) (by simp[ho]) ?_)
   rw[List.take_add_one,List.take_add_one,List.take_set_of_le (QY1 i),ht,List.getElem?_set_self (by omega)]
   simp[show i<xs.length by omega]
 exact main xs.length 0 out (by omega) ho (by simp)
theorem QlH (b:ByteArray):∀n i (r:List UInt8),i+n=b.size->ByteArray.toList.loop b i r=r.reverse++b.data.toList.drop i:=by
 intro n
 induction n with
 |zero=>
  intro i r hi
  unfold ByteArray.toList.loop
  have hs:b.data.toList.length=b.size:=Array.length_toList
  rw[if_neg (by omega),List.drop_of_length_le (by omega),QY19]
 |succ n ih=>
  intro i r hi
  unfold ByteArray.toList.loop
  rw[if_pos (by omega),ih (i+1) _ (by omega)]
  have hs0:b.data.toList.length=b.size:=Array.length_toList
  have hs:i<b.data.toList.length:=by omega
  rw[QRa hs]
  have:b.get! i=b.data.toList[i]:=by
   have hsz:i<b.data.size:=by simpa using hs
   show b.data[i]! =_
   rw[getElem!_pos b.data i hsz]
   simp
  rw[this]
  simp
theorem toList_data (b:ByteArray):b.toList=b.data.toList:=by
 unfold ByteArray.toList
 rw[QlH b b.size 0 [] (by omega)]
 simp
theorem Qmw (a b:ByteArray):ZG a b=decide (a=b):=by
 unfold ZG
 rw[toList_data,toList_data]
 by_cases h:a=b
 ·subst h;simp
 ·have:¬a.data.toList=b.data.toList:=fun e=>h (by
   cases a;cases b
   exact congrArg ByteArray.mk (Array.toList_inj.1 e))
  rw[decide_eq_false h]
  exact beq_eq_false_iff_ne.2 this
theorem Qmz {α:Type} [DecidableEq α] (a b:List α) (hl:a.length=b.length) (K:Nat->Option (Bool⊕Unit))
 (hne:∀i (h1:i<a.length) (h2:i<b.length),a[i]≠b[i]->K i=some (.inl false))
 (heq:∀i (h1:i<a.length) (h2:i<b.length) r,a[i]=b[i]->K (i+1)=some r->K i=some r)
 (hend:K a.length=some (.inr ())):K 0=some (if a=b then .inr ()else .inl false):=by
 have main:∀n i,i+n=a.length->K i=some (if a.drop i=b.drop i then .inr ()else .inl false):=by
  intro n
  induction n with
  |zero=>
   intro i hi
   have:i=a.length:=by omega
   subst this
   rw[hend,QRl,hl,QRl,if_pos rfl]
  |succ n ih=>
   intro i hi
   have h1:i<a.length:=by omega
   have h2:i<b.length:=by omega
   rw[QRa h1,QRa h2]
   by_cases hx:a[i]=b[i]
   ·refine heq i h1 h2 _ hx ?_
    rw[ih (i+1) (by omega),hx]
    simp only[List.cons.injEq,true_and]
   ·rw[hne i h1 h2 hx]
    simp only[List.cons.injEq,hx,false_and,if_false]
 have:=main a.length 0 (by omega)
 simpa only[QRg]using this
def qs {α:Type}(c:α->Nat):List α->Nat
 | []=>0
 |x::l=>c x+qs c l
def szR (n:Nat) (l:Int):Int⊕Int:=if(n:Int)<=l then .inr (l - n)else .inl (-1)
theorem QhW {n:Nat}{l:Int}(h:(n:Int)<=l):szR n l= .inr (l - n):=if_pos h
theorem QiG {n:Nat}{l:Int}(h:¬(n:Int)<=l):szR n l= .inl (-1):=if_neg h
theorem Qn1 {α:Type}(c:α->Nat) (x:α) (l:List α):qs c (x::l)=c x+qs c l:=rfl
theorem QiB {α:Type}(s:α->Nat) (xs:List α) (K:Int->Nat->Option (Int⊕Int)) (B:Int)
 (hin:∀l i (h:i<xs.length) r,0<=l->l<=B->(s xs[i]:Int)<=l->K (l - s xs[i]) (i+1)=some r->K l i=some r)
 (hout:∀l i (h:i<xs.length),0<=l->l<=B->¬(s xs[i]:Int)<=l->K l i=some (.inl (-1)))
 (hend:∀l,K l xs.length=some (.inr l)) (l:Int) (h0:0<=l) (hB:l<=B):K l 0=some (szR (qs s xs) l):=by
 have main:∀(n i:Nat) (l:Int),i+n=xs.length->0<=l->l<=B->K l i=some (szR (qs s (xs.drop i)) l):=by
  intro n
  induction n with
  |zero=>
   intro i l hi h0 hB
   have:i=xs.length:=by omega
   subst this
   rw[hend,QRl,QhW (show((qs s []:Nat):Int)<=l from h0)]
   simp[qs]
  |succ n ih=>
   intro i l hi h0 hB
   have h1:i<xs.length:=by omega
   rw[QRa h1,Qn1]
   by_cases hs:(s xs[i]:Int)<=l
   ·refine hin l i h1 _ h0 hB hs ?_
    rw[ih (i+1) _ (by omega) (by omega) (by omega)]
    by_cases h2:(qs s (xs.drop (i+1)):Int)<=l - s xs[i]
    ·rw[QhW h2,QhW (by omega)];congr 2;omega
    ·rw[QiG h2,QiG (by omega)]
   ·rw[hout l i h1 h0 hB hs,QiG (by omega)]
 have:=main xs.length 0 l (by omega) h0 hB
 simpa only[QRg]using this
theorem JB {α:Type}(c:α->Nat):(l:List α)->(i:Nat)->(h:i<l.length)->c l[i]<=qs c l
 |x::l,0,_=>by simp[qs]
 |x::l,i+1,h=>by
  have:=JB c l i (by simpa using h)
  simp only[List.getElem_cons_succ,qs];omega
def szI (n:Nat) (l:Int):Int:=if(n:Int)<=l then l - n else -1
theorem Kt {n:Nat}{l:Int}(h:(n:Int)<=l):szI n l=l - n:=if_pos h
theorem Y3 {n:Nat}{l:Int}(h:¬(n:Int)<=l):szI n l= -1:=if_neg h
theorem QfQ (n:Nat) (l:Int):Qr (szR n l) (fun u=>some u) (fun z=>some z)=some (szI n l):=by
 unfold szR szI;split<;>rfl
theorem JH {R:Type}(n:Nat) (K:Nat->Option R) (o:R) (hstep:∀i,i<n->∀r,K (i+1)=some r->K i=some r) (hend:K n=some o):K 0=some o:=by
 have main:∀m i,i+m=n->K i=some o:=by
  intro m
  induction m with
  |zero=>intro i hi;have:i=n:=by omega
         rw[this];exact hend
  |succ m ih=>intro i hi;exact hstep i (by omega) _ (ih (i+1) (by omega))
 exact main n 0 (by omega)
theorem df {p:Prop} [Decidable p] (h:¬p):decide p=false:=decide_eq_false h
theorem dt {p:Prop} [Decidable p] (h:p):decide p=true:=decide_eq_true h
theorem Q8 (a:ByteArray):ZG a a=true:=by rw[Qmw];simp
theorem ZD {n m:Nat}{l:Int}{X:Option Int}{f:Int->Option Int}(h0:0<=l) (hX:X=some (szI n l)) (hf:(n:Int)<=l->f (l - n)=some (szI m (l - n))):(X.bind fun r=>bif decide (r<0)then some (-1)else f r)=some (szI (n+m) l):=by
 rw[hX,QQ0]
 by_cases h:(n:Int)<=l
 ·rw[Kt h,df (by omega),QQ2,hf h]
  by_cases h2:(m:Int)<=l - n
  ·rw[Kt h2,Kt (by omega)];congr 1;omega
  ·rw[Y3 h2,Y3 (by omega)]
 ·rw[Y3 h,dt (by omega),QQ1,Y3 (by omega)]
theorem Kx {l:Int}(h:0<=l):some l=some (szI 0 l):=by rw[Kt (by simpa using h)];simp
theorem yM {n m:Nat}{l:Int}{f:Option Int}(h0:0<=l) (hB:l<=1048576) (hn:n<=maxLen) (hf:(n:Int)<=l->f=some (szI m (l - n))):(bif decide (wR (l - n)<0)then some (-1)else f)=some (szI (n+m) l):=by
 simp only[maxLen]at hn
 rw[w64 (by omega) (by omega)]
 by_cases h:(n:Int)<=l
 ·rw[df (by omega),QQ2,hf h]
  by_cases h2:(m:Int)<=l - n
  ·rw[Kt h2,Kt (by omega)];congr 1;omega
  ·rw[Y3 h2,Y3 (by omega)]
 ·rw[dt (by omega),QQ1,Y3 (by omega)]
theorem Q4 {R:Type}(n:Nat) (K:Nat->Option R) (M:Nat->R) (hstep:∀i,i<n->K (i+1)=some (M (i+1))->K i=some (M i)) (hend:K n=some (M n)):K 0=some (M 0):=by
 have main:∀m i,i+m=n->K i=some (M i):=by
  intro m
  induction m with
  |zero=>intro i hi;have:i=n:=by omega
         rw[this];exact hend
  |succ m ih=>intro i hi;exact hstep i (by omega) (ih (i+1) (by omega))
 exact main n 0 (by omega)
theorem Q1 {S R:Type}(n:Nat) (K:Nat->S->Option R) (M:Nat->S->R) (Inv:Nat->S->Prop) (hstep:∀i,i<n->∀s,Inv i s->(∀s',Inv (i+1) s'->K (i+1) s'=some (M (i+1) s'))->K i s=some (M i s)) (hend:∀s,Inv n s->K n s=some (M n s)) (s:S) (hs:Inv 0 s):K 0 s=some (M 0 s):=by
 have main:∀m i,i+m=n->∀s,Inv i s->K i s=some (M i s):=by
  intro m
  induction m with
  |zero=>intro i hi s hs;have:i=n:=by omega
         subst this;exact hend s hs
  |succ m ih=>intro i hi s hs;exact hstep i (by omega) s hs (ih (i+1) (by omega))
 exact main n 0 (by omega) s hs
theorem Qnt {i:Nat}(h:0<i) (hn:i<=maxLen):wR ((i:Int) - 1)=((i - 1:Nat):Int):=by
 simp only[maxLen]at hn
 rw[w64 (by omega) (by omega)];omega
theorem ipos {i:Nat}(h:0<i):decide ((0:Int)<(i:Int))=true:=by simp[h]
theorem QjK:decide ((0:Int)<((0:Nat):Int))=false:=by simp
theorem Qg4 {β:Type}{i n:Nat}(h:i<n) (f:Nat->List β):(List.range' i (n - i)).flatMap f=f i++(List.range' (i+1) (n - (i+1))).flatMap f:=by
 rw[show n - i=(n - (i+1))+1 by omega,List.range'_succ]
 simp
end Go.Eng
namespace Go.Eng
open Go Go.RowKit
set_option linter.unusedVariables false
def QnH:PSig->Bool
 | .val false [(.ro,_)]=>true
 |_=>false
def QmM (w:World) (R:Nat->Prop):List TV->List Value->Prop
 | [],[]=>True
 |x::xs,v::vs=>(∃b,Rep w x.t x.v v b/\∀c∈b,R c)/\QmM w R xs vs
 |_,_=>False
theorem Qmf {w:World}{R:Nat->Prop}:(ps:List PSig)->(xs:List TV)->(vs:List Value)->(bs:List Nat)->(bls:List (List Nat))->ps.all QnH=true->JK w R ps xs vs bs bls->bs=[]/\bls.flatten=[]/\QmM w R xs vs/\∀w',QaL w w' ps vs [] []
 | [],xs,vs,bs,bls,_,⟨h1,h2,h3,h4⟩=>by
   subst h1 h2 h3 h4
   exact⟨rfl,rfl,trivial,fun _=>⟨rfl,rfl,rfl⟩⟩
 |p::ps,xs,vs,bs,bls,hp,⟨x1,x2,v,vs',b1,b2,l1,l2,h1,h2,h3,h4,h5,h6⟩=>by
  simp only[List.all_cons,QQ5]at hp
  obtain⟨e1,e2,e3,e4⟩:=Qmf ps x2 vs' b2 l2 hp.2 h6
  have hp1:=hp.1
  unfold QnH at hp1
  split at hp1
  ·rename_i t
   obtain⟨g1,us,g2,x,xs',u,us',bl,bls',k1,k2,k3,⟨k4,k5⟩,k6,k7,k8⟩:=h5
   subst g1 k1 k2 k3 k6 k7 k8 h1 h2 h3 h4
   have g2: [u]=[v]:=g2
   cases g2
   have k5:bl=[]/\∃b',Rep w x.t x.v v b'/\∀c∈b',R c:=by
    have:takes .ro t=false:=by simp[takes,Mode.Qv]
    rw[this]at k5;exact k5
   obtain⟨rfl,b',q1,q2⟩:=k5
   refine⟨by simpa using e1,by simpa using e2,⟨⟨b',q1,q2⟩,e3⟩,fun w'=> ?_⟩
   exact⟨v,vs',[],[],[],[],rfl,rfl,rfl,⟨[v],rfl,v,[],rfl,rfl,rfl,rfl⟩,e4 w'⟩
  ·cases hp1
theorem Qmi {P:Program}{gg:Glob}{f:FuncId}{sg:Sig}{ins outs:List TV}(hps:sg.ps.all QnH=true)
 (hF:∀(w:World) (R:Nat->Prop) vs,gg.gl w->(∀b,R b->b<w.heap.size)->QmM w R ins vs->Calls P f vs.toArray w fun e w'=>∃rvs rbls,e= .returned (Qfz rvs)/\Below w.heap.size w w'/\XO w' (fun _=>False) sg.rs outs rvs [] rbls/\rbls.flatten.Nodup/\∀b∈rbls.flatten,w.heap.size<=b/\b<w'.heap.size):
 Vc P gg sg f ins outs:=by
 intro w R vs bs bls hgl hgb hin hnd hlt hR
 obtain⟨rfl,e2,e3,e4⟩:=Qmf _ _ _ _ _ hps hin
 refine(hF w R vs hgl (fun b hb=>(hR b hb).1) e3).mono ?_
 rintro e w' ⟨rvs,rbls,rfl,hB,hO,hN,hL⟩
 refine⟨_,rfl,⟨hB.os,hB.tape,hB.output,hB.size,fun k hk _=>hB.block k hk⟩,outs,[],rvs,[],rbls,[],fun _=>False,by simp,rfl,hO,e4 w',by simpa using hN,fun b hb=> ?_,fun b hb=>hb.elim⟩
 have hb':b∈rbls.flatten:=by simpa using hb
 exact⟨(hL b hb').2, .inr (hL b hb').1,by simp⟩
theorem Qi7 {w:World}{m:Mode}{t:Ty}{x:Val t}{v:Value}(hm:m.Qgc=false) (ht:Qs t=false) (hr:Rep w t x v []):XO w (fun _=>False) [.val false [(m,t)]] [⟨t,x⟩] [v] [] [[]]:=by
 have hc:Zu w (fun _=>False) m t ⟨t,x⟩ v []:=⟨rfl,by
  have:takes m t=false:=by simp[takes,ht]
  rw[this];exact⟨rfl,[],hr,by simp⟩⟩
 refine⟨[⟨t,x⟩],[],v,[],[],[],[[]],[],rfl,rfl,rfl,rfl,⟨rfl,[v],rfl, ?_⟩,rfl,rfl,rfl,rfl⟩
 cases m
 case junk=>cases hm
 all_goals exact⟨_,_,_,_,_,_,rfl,rfl,rfl,hc,rfl,rfl,rfl⟩
theorem Qpv {P:Program}{gg:Glob}{f:FuncId}{sg:Sig}{k:IntKind}{m3:Mode}(hps:sg.ps=[.val false [(.ro, .int k)]]) (hrs:sg.rs=[.val false [(m3, .str)]]) (h3:m3.Qgc=false) (n:Int) (s:ByteArray)
 (hF:∀w,gg.gl w->Calls P f #[.int k n] w fun e w'=>e= .returned (.string s)/\Below w.heap.size w w'):
 Vc P gg sg f [⟨.int k,n⟩] [⟨.str,s⟩]:=by
 refine Qmi (by rw[hps];rfl) fun w R vs hgl _ ha=> ?_
 match vs,ha with
 | [v],⟨⟨b,hr,_⟩,_⟩=>
   obtain⟨rfl,rfl⟩:=hr
   refine(hF w hgl).mono ?_
   rintro e w' ⟨rfl,hB⟩
   exact⟨[.string s],[[]],rfl,hB,by rw[hrs];exact Qi7 h3 rfl ⟨rfl,rfl⟩,by simp,by simp⟩
theorem QoP {P:Program}{gg:Glob}{f:FuncId}{sg:Sig}{m3:Mode}(hps:sg.ps=[.val false [(.ro, .sl (.cons .str .nil))], .val false [(.ro, .str)]]) (hrs:sg.rs=[.val false [(m3, .str)]]) (h3:m3.Qgc=false) (xs:List ByteArray) (sep r:ByteArray)
 (h0:xs=[]->∀w ad c,gg.gl w->Calls P f #[.slice ad 0 c, .string sep] w fun e w'=>e= .returned (.string r)/\Below w.heap.size w w')
 (h1:∀w bk o c,gg.gl w->(∀(j:Nat) x,xs[j]? =some x->w.cell? ⟨bk,o+j,none⟩=some (.string x))->bk<w.heap.size->xs.length<=c->Calls P f #[.slice (some ⟨bk,o,none⟩) xs.length c, .string sep] w fun e w'=>e= .returned (.string r)/\Below w.heap.size w w'):
 Vc P gg sg f [⟨.sl (.cons .str .nil),(show Val (.sl (.cons .str .nil))from xs)⟩,⟨.str,sep⟩] [⟨.str,r⟩]:=by
 refine Qmi (by rw[hps];rfl) fun w R vs hgl hR ha=> ?_
 match vs,ha with
 | [v,v'],⟨⟨c,hr,hc⟩,⟨c',hr',_⟩,_⟩=>
   obtain⟨rfl,rfl⟩:=hr'
   have hfin:Calls P f #[v, .string sep] w fun e w'=>e= .returned (.string r)/\Below w.heap.size w w':=by
    obtain⟨ad,cap,hv,⟨hcap,_⟩,hcells⟩:=hr
    have hv:v= .slice ad xs.length cap:=hv
    have hcap:xs.length<=cap:=hcap
    subst hv
    rcases hcells with⟨he,_⟩|⟨a,bls,rfl,rfl,hl,hi⟩
    ·have he:xs=[]:=he
     have:=h0 he w ad cap hgl
     rw[he];exact this
    ·have hl:bls.length=xs.length:=hl
     have hcell:∀(j:Nat) x,xs[j]? =some x->w.cell? (a.add j)=some (.string x):=fun j x hx=>by
      have hj:j<xs.length:=(QRq.1 hx).1
      obtain⟨b,hb⟩:∃b,bls[j]? =some b:=⟨bls[j]'(by omega),QRp (by omega)⟩
      obtain⟨us,g1,u,us',b1,b2,g2,_,⟨g3,_⟩,_⟩:=hi j x b hx hb
      have:=g1 0 u (by rw[g2];rfl)
      rw[g3]at this
      have e:w.cell? (a.add j)=some (.string (vhd (t:= .str) (ts:= .nil) (show Qc (.cons .str .nil)from x))):=by simpa[Tys.len]using this
      exact e
     by_cases hx:xs=[]
     ·have:=h0 hx w (some a) cap hgl
      rw[hx];exact this
     ·obtain⟨x,hx0⟩:∃x,xs[0]? =some x:=⟨xs[0]'(List.length_pos_iff.2 hx),QRp _⟩
      have hs:a.spot=none:=by
       have:=World.cell?_spot (hcell 0 x hx0)
       simpa[Addr.add]using this
      obtain⟨bk,o,sp⟩:=a
      simp only at hs
      subst hs
      refine h1 w bk o cap hgl (fun j x hx=> ?_) (hR _ (hc _ (by simp))) hcap
      have:=hcell j x hx
      unfold Addr.add at this
      by_cases hj:j=0
      ·subst hj;simpa using this
      ·rw[if_neg hj]at this;exact this
   refine hfin.mono ?_
   rintro e w' ⟨rfl,hB⟩
   exact⟨[.string r],[[]],rfl,hB,by rw[hrs];exact Qi7 h3 rfl ⟨rfl,rfl⟩,by simp,by simp⟩
end Go.Eng
