/- A meaning of the translated functions in plain typed values, and its soundness, part 4. No conditions. -/
import Derived.Test.YtiejfnbmficbmaaGreatEng3
import Derived.DataReads
import Derived.ChangeArms
import Derived.ChangeOld
import Derived.DataElems
import Derived.Below
import Derived.IntWalk
import GoSem.ClaimData
set_option linter.all false
namespace Go.Eng
open Go
set_option linter.unusedVariables false
def Evt (p:Nat->Prop):Prop:=∃N,∀n,N<=n->p n
theorem Evt.of {p:Nat->Prop}(h:∀n,p n):Evt p:=⟨0,fun n _=>h n⟩
theorem Evt.and {p q:Nat->Prop}(h:Evt p) (h':Evt q):Evt fun n=>p n/\q n:=
 let⟨N,g⟩:=h;let⟨M,g'⟩:=h';⟨max N M,fun n hn=>⟨g n (QY17 (Nat.le_max_left _ _) hn),g' n (QY17 (Nat.le_max_right _ _) hn)⟩⟩
theorem Evt.mono {p q:Nat->Prop}(h:Evt p) (hpq:∀n,p n->q n):Evt q:=let⟨N,g⟩:=h;⟨N,fun n hn=>hpq n (g n hn)⟩
theorem Evt.QLT {p q r:Nat->Prop}(h:Evt p) (h':Evt q) (hpq:∀n,p n->q n->r n):Evt r:=(h.and h').mono fun n ⟨a,b⟩=>hpq n a b
theorem Evt.succ {p:Nat->Prop}(h:Evt fun n=>p (n+1)):Evt p:=by
 obtain⟨N,g⟩:=h
 refine⟨N+1,fun n hn=> ?_⟩
 obtain⟨m,rfl⟩:∃m,n=m+1:=⟨n - 1,by omega⟩
 exact g m (by omega)
theorem Evt.here {p:Nat->Prop}(h:Evt p):∃n,p n:=let⟨N,g⟩:=h;⟨N,g N (QY1 N)⟩
def Ct {β:Type}(x:Option β) (X:Nat->Option β):Prop:=∀o,x=some o->Evt fun n=>X n=some o
theorem Ct.none {β:Type}{X:Nat->Option β}:Ct none X:=fun o h=>by cases h
theorem Ct.same {β:Type}(x:Option β):Ct x fun _=>x:=fun o h=>Evt.of fun _=>h
theorem Ct.bind {α β:Type}{x:Option α}{X:Nat->Option α}{f:α->Option β}{F:Nat->α->Option β}(h:Ct x X) (h':∀a,Ct (f a) fun n=>F n a):Ct (x.bind f) fun n=>(X n).bind (F n):=by
 intro o ho
 cases x with
 |none=>cases ho
 |some a=>exact(h a rfl).QLT (h' a o ho) fun n e e'=>show(X n).bind (F n)=some o from by rw[e];exact e'
theorem Ct.cond {β:Type}{b:Bool}{x y:Option β}{X Y:Nat->Option β}(h:Ct x X) (h':Ct y Y):Ct (bif b then x else y) fun n=>bif b then X n else Y n:=by
 cases b
 ·exact h'
 ·exact h
inductive RPC {γ:Type}:RP γ->(Nat->RP γ)->Prop
 |ret (x:γ):RPC (.ret x) fun _=> .ret x
 |fail {p:Nat->RP γ}:RPC .fail p
 |qn (i:Nat) {f:Cell->RP γ}{F:Nat->Cell->RP γ}(h:∀c,RPC (f c) fun n=>F n c):RPC (.qn i f) fun n=> .qn i (F n)
 |xB (i:Nat) (c:Cell) {p:RP γ}{q:Nat->RP γ}(h:RPC p q):RPC (.xB i c p) fun n=> .xB i c (q n)
 |getC (r k:Nat) {f:Con->RP γ}{F:Nat->Con->RP γ}(h:∀c,RPC (f c) fun n=>F n c):RPC (.getC r k f) fun n=> .getC r k (F n)
 |setC (r k:Nat) (c:Con) {p:RP γ}{q:Nat->RP γ}(h:RPC p q):RPC (.setC r k c p) fun n=> .setC r k c (q n)
 |getI (r k:Nat) {f:Con->RP γ}{F:Nat->Con->RP γ}(h:∀c,RPC (f c) fun n=>F n c):RPC (.getI r k f) fun n=> .getI r k (F n)
 |setV (r k:Nat) (x:TV) {p:RP γ}{q:Nat->RP γ}(h:RPC p q):RPC (.setV r k x p) fun n=> .setV r k x (q n)
 |getB (r:Nat) {f:Nat×Nat->RP γ}{F:Nat->Nat×Nat->RP γ}(h:∀c,RPC (f c) fun n=>F n c):RPC (.getB r f) fun n=> .getB r (F n)
 |setB (r:Nat) (g:Nat×Nat) {p:RP γ}{q:Nat->RP γ}(h:RPC p q):RPC (.setB r g p) fun n=> .setB r g (q n)
 |br (b:Bool) {p p':RP γ}{q q':Nat->RP γ}(h:RPC p q) (h':RPC p' q'):RPC (.br b p p') fun n=> .br b (q n) (q' n)
 |brT (i:Nat) {p p':RP γ}{q q':Nat->RP γ}(h:RPC p q) (h':RPC p' q'):RPC (.brT i p p') fun n=> .brT i (q n) (q' n)
 |brG (i:Nat) (w:Bool) {p p':RP γ}{q q':Nat->RP γ}(h:RPC p q) (h':RPC p' q'):RPC (.brG i w p p') fun n=> .brG i w (q n) (q' n)
 |call (ts:Tys) {o:Option (Ql ts)}{O:Nat->Option (Ql ts)}{f:Ql ts->RP γ}{F:Nat->Ql ts->RP γ}(ho:Ct o O) (h:∀x,RPC (f x) fun n=>F n x):RPC (.call ts o f) fun n=> .call ts (O n) (F n)
theorem RPC.ev {γ β:Type}{p:RP γ}{q:Nat->RP γ}(h:RPC p q):∀(s:St) (K:γ->St->Option β) (KK:Nat->γ->St->Option β),(∀x s,Ct (K x s) fun n=>KK n x s)->Ct (p.ev s K) fun n=>(q n).ev s (KK n):=by
 induction h with
 |ret x=>intro s K KK hK;exact hK x s
 |fail=>intro s K KK hK;exact Ct.none
 |qn i h ih=>intro s K KK hK;exact ih _ s K KK hK
 |xB i c h ih=>intro s K KK hK;exact Ct.cond (ih _ K KK hK) Ct.none
 |getC r k h ih=>intro s K KK hK;exact ih _ s K KK hK
 |setC r k c h ih=>intro s K KK hK;exact ih _ K KK hK
 |getI r k h ih=>intro s K KK hK;exact ih _ s K KK hK
 |setV r k x h ih=>intro s K KK hK;exact ih _ K KK hK
 |getB r h ih=>intro s K KK hK;exact ih _ s K KK hK
 |setB r g h ih=>intro s K KK hK;exact ih _ K KK hK
 |br b h h' ih ih'=>intro s K KK hK;exact Ct.cond (ih s K KK hK) (ih' s K KK hK)
 |brT i h h' ih ih'=>
  intro s K KK hK
  simp only[RP.ev]
  cases Xs (s.gT i)with
  |none=>exact Ct.none
  |some b=>exact Ct.cond (ih _ K KK hK) (ih' _ K KK hK)
 |brG i w h h' ih ih'=>
  intro s K KK hK
  simp only[RP.ev]
  cases Xs (s.gT i)with
  |none=>
   dsimp only
   cases s.gT i with
   |und=>exact ih' _ K KK hK
   |_=>exact Ct.none
  |some b=>
   cases w with
   |true=>exact Ct.cond (ih _ K KK hK) (ih' _ K KK hK)
   |false=>exact Ct.cond (ih' _ K KK hK) (ih _ K KK hK)
 |call ts ho h ih=>intro s K KK hK;exact Ct.bind ho fun x=>ih x s K KK hK
theorem RPC.evT {γ β:Type}{p:RP γ}{q:Nat->RP γ}(h:RPC p q):∀(s:St) (t:Tr) (K:γ->St->Tr->Option β) (KK:Nat->γ->St->Tr->Option β),(∀x s t,Ct (K x s t) fun n=>KK n x s t)->Ct (p.evT s t K) fun n=>(q n).evT s t (KK n):=by
 induction h with
 |ret x=>intro s t K KK hK;exact hK x s t
 |fail=>intro s t K KK hK;exact Ct.none
 |qn i h ih=>intro s t K KK hK;exact ih _ s _ K KK hK
 |xB i c h ih=>intro s t K KK hK;exact Ct.cond (ih _ _ K KK hK) Ct.none
 |getC r k h ih=>intro s t K KK hK;exact ih _ s _ K KK hK
 |setC r k c h ih=>intro s t K KK hK;exact ih _ _ K KK hK
 |getI r k h ih=>intro s t K KK hK;exact ih _ s _ K KK hK
 |setV r k x h ih=>intro s t K KK hK;exact ih _ _ K KK hK
 |getB r h ih=>intro s t K KK hK;exact ih _ s _ K KK hK
 |setB r g h ih=>intro s t K KK hK;exact ih _ _ K KK hK
 |br b h h' ih ih'=>intro s t K KK hK;exact Ct.cond (ih s _ K KK hK) (ih' s _ K KK hK)
 |brT i h h' ih ih'=>
  intro s t K KK hK
  simp only[RP.evT]
  cases Xs (s.gT i)with
  |none=>exact Ct.none
  |some b=>exact Ct.cond (ih _ _ K KK hK) (ih' _ _ K KK hK)
 |brG i w h h' ih ih'=>
  intro s t K KK hK
  simp only[RP.evT]
  cases Xs (s.gT i)with
  |none=>
   dsimp only
   cases s.gT i with
   |und=>exact ih' _ _ K KK hK
   |_=>exact Ct.none
  |some b=>
   cases w with
   |true=>exact Ct.cond (ih _ _ K KK hK) (ih' _ _ K KK hK)
   |false=>exact Ct.cond (ih' _ _ K KK hK) (ih _ _ K KK hK)
 |call ts ho h ih=>intro s t K KK hK;exact Ct.bind ho fun x=>ih x s _ K KK hK
def zC {γ α:Type}(m:M γ α) (mm:Nat->M γ α):Prop:=∀(k:α->RP γ) (K:Nat->α->RP γ),(∀a,RPC (k a) fun n=>K n a)->RPC (m k) fun n=>mm n (K n)
def Par {γ α:Type}(m:M γ α):Prop:=zC m fun _=>m
theorem Vm {γ α β:Type}{m:M γ α}{mm:Nat->M γ α}{f:α->M γ β}{F:Nat->α->M γ β}(h:zC m mm) (h':∀a,zC (f a) fun n=>F n a):zC (m>>=f) fun n=>mm n>>=F n:=
 fun k K hk=>h _ _ fun a=>h' a k K hk
theorem Qs {γ α β:Type}{m:M γ α}{f:α->M γ β}(h:Par m) (h':∀a,Par (f a)):Par (m>>=f):=fun k K hk=>h _ _ fun a=>h' a k K hk
theorem Qd {γ α:Type}(a:α):Par (pure a:M γ α):=fun k K hk=>hk a
theorem Qc {γ α:Type}:Par (Qr:M γ α):=fun k K hk=> .fail
theorem Qaw {γ:Type}(b:Bool):Par (chk b:M γ Unit):=fun k K hk=> .br b (hk ()) .fail
theorem X2 {γ α:Type}(o:Option α):Par (ofO o:M γ α):=fun k K hk=>by
 cases o with
 |none=>exact .fail
 |some a=>exact hk a
theorem QJm {γ:Type}(i:Nat):Par (mT i:M γ Cell):=fun k K hk=> .qn i hk
theorem QET {γ:Type}(r k:Nat):Par (mC r k:M γ Con):=fun _ _ hk=> .getC r k hk
theorem zi {γ:Type}(r k:Nat):Par (mI r k:M γ Con):=fun _ _ hk=> .getI r k hk
theorem QjA {γ:Type}(r:Nat):Par (mB r:M γ (Nat×Nat)):=fun _ _ hk=> .getB r hk
theorem vv {γ:Type}(i:Nat) (c:Cell):Par (wT i c:M γ Unit):=fun _ _ hk=> .xB i c (hk ())
theorem VJ {γ:Type}(r k:Nat) (c:Con):Par (wC r k c:M γ Unit):=fun _ _ hk=> .setC r k c (hk ())
theorem QIY {γ:Type}(r k:Nat) (x:TV):Par (wV r k x:M γ Unit):=fun _ _ hk=> .setV r k x (hk ())
theorem QFl {γ:Type}(r:Nat) (g:Nat×Nat):Par (wB r g:M γ Unit):=fun _ _ hk=> .setB r g (hk ())
theorem QDE {γ:Type}(ts:Tys) {o:Option (Ql ts)}{O:Nat->Option (Ql ts)}(h:Ct o O):zC (mcall ts o:M γ (Ql ts)) fun n=>mcall ts (O n):=fun _ _ hk=> .call ts h hk
theorem QnF {γ:Type}:∀a1 a2,Par (tyM (γ:=γ) a1 a2):=by
 intro a1 a2
 unfold tyM
 try dsimp only
 repeat' (first
  |(with_reducible first|exact Qd _|exact Qc|refine Qs ?_ (fun _=> ?_))
  |split
  |exact Qd _
  |exact Qc)
theorem Qm6 {γ:Type}:∀a1 a2,Par (slE (γ:=γ) a1 a2):=by
 intro a1 a2
 unfold slE
 try dsimp only
 repeat' (first
  |(with_reducible first|exact Qd _|exact Qc|exact QnF _ _|refine Qs ?_ (fun _=> ?_))
  |split
  |exact Qd _
  |exact Qc)
theorem jv {γ:Type}:∀a1,Par (opd (γ:=γ) a1):=by
 intro a1
 unfold opd
 try dsimp only
 repeat' (first
  |(with_reducible first|exact Qd _|exact Qc|exact QJm _|exact X2 _|refine Qs ?_ (fun _=> ?_))
  |split
  |exact Qd _
  |exact Qc)
theorem Qao {γ:Type}:(n:Nat)->(p:Pl)->Par (final (γ:=γ) n p)
 |0,p=>by unfold final;first|exact Qd _|exact Qc
 |n+1,p=>by
  unfold final
  try dsimp only
  repeat' (first
  |(with_reducible first|exact Qao n _|exact Qd _|exact Qc|exact zi _ _|refine Qs ?_ (fun _=> ?_))
  |split
  |exact Qd _
  |exact Qc)
theorem Qcd {γ:Type}:∀a1,Par (J4 (γ:=γ) a1):=by
 intro a1
 unfold J4
 try dsimp only
 repeat' (first
  |(with_reducible first|exact Qd _|exact Qc|exact QET _ _|exact Qao _ _|refine Qs ?_ (fun _=> ?_))
  |split
  |exact Qd _
  |exact Qc)
theorem QFa {γ:Type}:∀a1,Par (rd (γ:=γ) a1):=by
 intro a1
 unfold rd
 try dsimp only
 repeat' (first
  |(with_reducible first|exact Qd _|exact Qc|exact X2 _|exact Qcd _|refine Qs ?_ (fun _=> ?_))
  |split
  |exact Qd _
  |exact Qc)
theorem ye {γ:Type}:∀a1 a2,Par (Qb3 (γ:=γ) a1 a2):=by
 intro a1 a2
 unfold Qb3
 try dsimp only
 repeat' (first
  |(with_reducible first|exact Qd _|exact Qc|exact X2 _|exact QFa _|refine Qs ?_ (fun _=> ?_))
  |split
  |exact Qd _
  |exact Qc)
theorem Qgn {γ:Type}:∀a1,Par (V6 (γ:=γ) a1):=by
 intro a1
 unfold V6
 try dsimp only
 repeat' (first
  |(with_reducible first|exact Qd _|exact Qc|exact VJ _ _ _|exact X2 _|exact Qcd _|refine Qs ?_ (fun _=> ?_))
  |split
  |exact Qd _
  |exact Qc)
theorem QpP {γ:Type}:∀a1 a2,Par (QhU (γ:=γ) a1 a2):=by
 intro a1 a2
 unfold QhU
 try dsimp only
 repeat' (first
  |(with_reducible first|exact Qd _|exact Qc|exact VJ _ _ _|exact X2 _|exact Qcd _|refine Qs ?_ (fun _=> ?_))
  |split
  |exact Qd _
  |exact Qc)
theorem Qxl {γ:Type}:∀a1,Par (Qqq (γ:=γ) a1):=by
 intro a1
 unfold Qqq
 try dsimp only
 repeat' (first
  |(with_reducible first|exact Qd _|exact Qc|exact Qao _ _|refine Qs ?_ (fun _=> ?_))
  |split
  |exact Qd _
  |exact Qc)
theorem QyI {γ:Type}:∀a1 a2 a3 a4 a5,Par (QiB (γ:=γ) a1 a2 a3 a4 a5):=by
 intro a1 a2 a3 a4 a5
 unfold QiB
 try dsimp only
 repeat' (first
  |(with_reducible first|exact Qd _|exact Qc|exact zi _ _|exact VJ _ _ _|exact QpP _ _|exact Qxl _|refine Qs ?_ (fun _=> ?_))
  |split
  |exact Qd _
  |exact Qc)
theorem QpK {γ:Type}:∀a1 a2 a3 a4 a5,Par (xI (γ:=γ) a1 a2 a3 a4 a5):=by
 intro a1 a2 a3 a4 a5
 fun_induction xI a1 a2 a3 a4 a5
 all_goals try dsimp only
 all_goals repeat' (first
  |(with_reducible first|exact Qd _|exact Qc)
  |assumption
  |apply_assumption
  |(with_reducible first|exact QyI _ _ _ _ _|refine Qs ?_ (fun _=> ?_))
  |split
  |exact Qd _
  |exact Qc)
theorem QAE {γ:Type}:∀a1 a2,Par (QiN (γ:=γ) a1 a2):=by
 intro a1 a2
 unfold QiN
 try dsimp only
 repeat' (first
  |(with_reducible first|exact Qd _|exact Qc|exact QET _ _|exact zi _ _|refine Qs ?_ (fun _=> ?_))
  |split
  |exact Qd _
  |exact Qc)
theorem QmG {γ:Type}:∀a1 a2 a3,Par (zw (γ:=γ) a1 a2 a3):=by
 intro a1 a2 a3
 fun_induction zw a1 a2 a3
 all_goals try dsimp only
 all_goals repeat' (first
  |(with_reducible first|exact Qd _|exact Qc)
  |assumption
  |apply_assumption
  |(with_reducible first|exact QAE _ _|refine Qs ?_ (fun _=> ?_))
  |split
  |exact Qd _
  |exact Qc)
theorem QEd {γ:Type}:∀a1 a2,Par (QnD (γ:=γ) a1 a2):=by
 intro a1 a2
 unfold QnD
 try dsimp only
 repeat' (first
  |(with_reducible first|exact Qd _|exact Qc|refine Qs ?_ (fun _=> ?_))
  |split
  |exact Qd _
  |exact Qc)
theorem QCX {γ:Type}:∀a1 a2,Par (loadAt (γ:=γ) a1 a2):=by
 intro a1 a2
 unfold loadAt
 try dsimp only
 repeat' (first
  |(with_reducible first|exact Qd _|exact Qc|exact QjA _|exact Qao _ _|exact QFa _|exact QmG _ _ _|exact QEd _ _|refine Qs ?_ (fun _=> ?_))
  |split
  |exact Qd _
  |exact Qc)
theorem QuL {γ:Type}:∀a1 a2 a3 a4,Par (QnB (γ:=γ) a1 a2 a3 a4):=by
 intro a1 a2 a3 a4
 unfold QnB
 try dsimp only
 repeat' (first
  |(with_reducible first|exact Qd _|exact Qc|exact X2 _|exact ye _ _|exact Qgn _|exact QpP _ _|refine Qs ?_ (fun _=> ?_))
  |split
  |exact ye _ _
  |exact Qd _
  |exact Qc)
theorem QBM {γ:Type}:∀a1 a2 a3,Par (Qip (γ:=γ) a1 a2 a3):=by
 intro a1 a2 a3
 fun_induction Qip a1 a2 a3
 all_goals try dsimp only
 all_goals repeat' (first
  |(with_reducible first|exact Qd _|exact Qc)
  |assumption
  |apply_assumption
  |(with_reducible first|exact QuL _ _ _ _|refine Qs ?_ (fun _=> ?_))
  |split
  |exact Qd _
  |exact Qc)
theorem QBa {γ:Type}:∀a1,Par (Qne (γ:=γ) a1):=by
 intro a1
 unfold Qne
 try dsimp only
 repeat' (first
  |(with_reducible first|exact Qd _|exact Qc|exact Qao _ _|refine Qs ?_ (fun _=> ?_))
  |split
  |exact Qd _
  |exact Qc)
theorem QC2 {γ:Type}:∀a1 a2,Par (QiH (γ:=γ) a1 a2):=by
 intro a1 a2
 fun_induction QiH a1 a2
 all_goals try dsimp only
 all_goals repeat' (first
  |(with_reducible first|exact Qd _|exact Qc)
  |assumption
  |apply_assumption
  |(with_reducible first|exact QBa _|refine Qs ?_ (fun _=> ?_))
  |split
  |exact Qd _
  |exact Qc)
theorem QAC {γ:Type}:∀a1 a2 a3 a4 a5,Par (QnY (γ:=γ) a1 a2 a3 a4 a5):=by
 intro a1 a2 a3 a4 a5
 unfold QnY
 try dsimp only
 repeat' (first
  |(with_reducible first|exact Qd _|exact Qc|exact Qaw _|exact X2 _|refine Qs ?_ (fun _=> ?_))
  |split
  |exact Qd _
  |exact Qc)
theorem QAF {γ:Type}:∀a1 a2 a3 a4 a5 a6 a7,Par (QoP (γ:=γ) a1 a2 a3 a4 a5 a6 a7):=by
 intro a1 a2 a3 a4 a5 a6 a7
 unfold QoP
 try dsimp only
 repeat' (first
  |(with_reducible first|exact Qd _|exact Qc|exact Qao _ _|exact QAC _ _ _ _ _|refine Qs ?_ (fun _=> ?_))
  |split
  |exact Qd _
  |exact Qc)
theorem Qrx {γ:Type}(y:TV) (i:Int) (r k:Nat) (nested:Bool):(off:Nat)->(ts:Tys)->(vs:List VC)->Par (zq (γ:=γ) y i r k nested off ts vs)
 |_, .nil,[]=>by unfold zq;first|exact Qd _|exact Qc
 |_, .nil,_::_=>by unfold zq;first|exact Qd _|exact Qc
 |_, .cons _ _,[]=>by unfold zq;first|exact Qd _|exact Qc
 |off, .cons t ts,v::vs=>by
  unfold zq
  try dsimp only
  repeat' (first
  |(with_reducible first|exact Qrx y i r k nested (off+1) ts vs|exact Qd _|exact Qc|exact QAF _ _ _ _ _ _ _|refine Qs ?_ (fun _=> ?_))
  |split
  |exact Qd _
  |exact Qc)
theorem QGy {γ:Type}:∀a1 a2 a3 a4 a5 a6 a7 a8 a9 a10 a11,Par (QAx (γ:=γ) a1 a2 a3 a4 a5 a6 a7 a8 a9 a10 a11):=by
 intro a1 a2 a3 a4 a5 a6 a7 a8 a9 a10 a11
 unfold QAx
 try dsimp only
 repeat' (first
  |(with_reducible first|exact Qd _|exact Qc|exact QuL _ _ _ _|refine Qs ?_ (fun _=> ?_))
  |split
  |exact Qd _
  |exact Qc)
theorem QAZ {γ:Type}:∀a1 a2 a3 a4 a5 a6 a7 a8 a9 a10 a11,Par (Qik (γ:=γ) a1 a2 a3 a4 a5 a6 a7 a8 a9 a10 a11):=by
 intro a1 a2 a3 a4 a5 a6 a7 a8 a9 a10 a11
 fun_induction Qik a1 a2 a3 a4 a5 a6 a7 a8 a9 a10 a11
 all_goals try dsimp only
 all_goals repeat' (first
  |(with_reducible first|exact Qd _|exact Qc)
  |assumption
  |apply_assumption
  |(with_reducible first|exact QGy _ _ _ _ _ _ _ _ _ _ _|refine Qs ?_ (fun _=> ?_))
  |split
  |exact Qd _
  |exact Qc)
theorem QCL {γ:Type}:∀a1 a2 a3 a4,Par (QpX (γ:=γ) a1 a2 a3 a4):=by
 intro a1 a2 a3 a4
 unfold QpX
 try dsimp only
 repeat' (first
  |(with_reducible first|exact Qd _|exact Qc|exact VJ _ _ _|refine Qs ?_ (fun _=> ?_))
  |split
  |exact Qd _
  |exact Qc)
theorem QD2 {γ:Type}:∀a1 a2 a3 a4 a5 a6 a7,Par (Qnp (γ:=γ) a1 a2 a3 a4 a5 a6 a7):=by
 intro a1 a2 a3 a4 a5 a6 a7
 unfold Qnp
 try dsimp only
 repeat' (first
  |(with_reducible first|exact Qd _|exact Qc|exact QIY _ _ _|exact VJ _ _ _|refine Qs ?_ (fun _=> ?_))
  |split
  |exact Qd _
  |exact Qc)
theorem QBL {γ:Type}:∀a1 a2 a3 a4,Par (storeAt (γ:=γ) a1 a2 a3 a4):=by
 intro a1 a2 a3 a4
 unfold storeAt
 try dsimp only
 repeat' (first
  |(with_reducible first|exact Qd _|exact Qc|exact QjA _|exact X2 _|exact Qcd _|exact QpK _ _ _ _ _|exact Qrx _ _ _ _ _ _ _ _|exact QAZ _ _ _ _ _ _ _ _ _ _ _|exact QCL _ _ _ _|exact QD2 _ _ _ _ _ _ _|refine Qs ?_ (fun _=> ?_))
  |split
  |exact Qd _
  |exact Qc)
theorem QsS {γ:Type}:∀a1 a2,Par (Ym (γ:=γ) a1 a2):=by
 intro a1 a2
 unfold Ym
 try dsimp only
 repeat' (first
  |(with_reducible first|exact Qd _|exact Qc|exact vv _ _|refine Qs ?_ (fun _=> ?_))
  |split
  |exact Qd _
  |exact Qc)
theorem Va {γ:Type}:∀a1 a2 a3 a4,Par (Qb1 (γ:=γ) a1 a2 a3 a4):=by
 intro a1 a2 a3 a4
 unfold Qb1
 try dsimp only
 repeat' (first
  |(with_reducible first|exact Qd _|exact Qc|exact QjA _|exact zi _ _|exact VJ _ _ _|refine Qs ?_ (fun _=> ?_))
  |split
  |exact Qd _
  |exact Qc)
theorem Qqk {γ:Type}(d:Nat):(j:Nat)->(ts:Tys)->(vs:List VC)->Par (qp (γ:=γ) d j ts vs)
 |_, .nil,[]=>by unfold qp;first|exact Qd _|exact Qc
 |_, .nil,_::_=>by unfold qp;first|exact Qd _|exact Qc
 |_, .cons _ _,[]=>by unfold qp;first|exact Qd _|exact Qc
 |j, .cons t ts,v::vs=>by
  unfold qp
  try dsimp only
  repeat' (first
  |(with_reducible first|exact Qqk d (j+1) ts vs|exact Qd _|exact Qc|exact zi _ _|exact VJ _ _ _|exact QpP _ _|exact Qxl _|exact Va _ _ _ _|refine Qs ?_ (fun _=> ?_))
  |split
  |exact Qd _
  |exact Qc)
theorem Qt5 {γ:Type}:∀a1 a2 a3 a4,Par (ishift (γ:=γ) a1 a2 a3 a4):=by
 intro a1 a2 a3 a4
 unfold ishift
 try dsimp only
 repeat' (first
  |(with_reducible first|exact Qd _|exact Qc|exact Qaw _|refine Qs ?_ (fun _=> ?_))
  |split
  |exact Qd _
  |exact Qc)
theorem QAD {γ:Type}:∀a1 a2 a3 a4,Par (ibin (γ:=γ) a1 a2 a3 a4):=by
 intro a1 a2 a3 a4
 unfold ibin
 try dsimp only
 repeat' (first
  |(with_reducible first|exact Qd _|exact Qc|exact Qaw _|refine Qs ?_ (fun _=> ?_))
  |split
  |exact Qd _
  |exact Qc)
theorem Qy9 {γ:Type}:∀a1 a2 a3,Par (bbin (γ:=γ) a1 a2 a3):=by
 intro a1 a2 a3
 unfold bbin
 try dsimp only
 repeat' (first
  |(with_reducible first|exact Qd _|exact Qc|refine Qs ?_ (fun _=> ?_))
  |split
  |exact Qd _
  |exact Qc)
theorem QyO {γ:Type}:∀a1 a2 a3,Par (sbin (γ:=γ) a1 a2 a3):=by
 intro a1 a2 a3
 unfold sbin
 try dsimp only
 repeat' (first
  |(with_reducible first|exact Qd _|exact Qc|exact Qaw _|refine Qs ?_ (fun _=> ?_))
  |split
  |exact Qd _
  |exact Qc)
theorem QId {γ:Type}:∀a1 a2 a3 a4,Par (bin (γ:=γ) a1 a2 a3 a4):=by
 intro a1 a2 a3 a4
 unfold bin
 try dsimp only
 repeat' (first
  |(with_reducible first|exact Qd _|exact Qc|exact Qt5 _ _ _ _|exact QAD _ _ _ _|exact Qy9 _ _ _|exact QyO _ _ _|refine Qs ?_ (fun _=> ?_))
  |split
  |exact Qt5 _ _ _ _
  |exact QAD _ _ _ _
  |exact Qy9 _ _ _
  |exact QyO _ _ _
  |exact Qd _
  |exact Qc)
theorem QAq {γ:Type}:∀a1 a2 a3 a4,Par (QiR (γ:=γ) a1 a2 a3 a4):=by
 intro a1 a2 a3 a4
 unfold QiR
 try dsimp only
 repeat' (first
  |(with_reducible first|exact Qd _|exact Qc|exact X2 _|exact QId _ _ _ _|refine Qs ?_ (fun _=> ?_))
  |split
  |exact Qd _
  |exact Qc)
theorem QlU {γ:Type}:∀a1 a2,Par (elems (γ:=γ) a1 a2):=by
 intro a1 a2
 unfold elems
 try dsimp only
 repeat' (first
  |(with_reducible first|exact Qd _|exact Qc|exact ye _ _|refine Qs ?_ (fun _=> ?_))
  |split
  |exact ye _ _
  |exact Qd _
  |exact Qc)
theorem Qvc {γ:Type}:∀a1 a2 a3,Par (jn (γ:=γ) a1 a2 a3):=by
 intro a1 a2 a3
 fun_induction jn a1 a2 a3
 all_goals try dsimp only
 all_goals repeat' (first
  |(with_reducible first|exact Qd _|exact Qc)
  |assumption
  |apply_assumption
  |(with_reducible first|exact X2 _|exact jv _|refine Qs ?_ (fun _=> ?_))
  |split
  |exact Qd _
  |exact Qc)
theorem QxZ {γ:Type}:∀a1,Par (Qan (γ:=γ) a1):=by
 intro a1
 fun_induction Qan a1
 all_goals try dsimp only
 all_goals repeat' (first
  |(with_reducible first|exact Qd _|exact Qc)
  |assumption
  |apply_assumption
  |(with_reducible first|exact X2 _|exact jv _|refine Qs ?_ (fun _=> ?_))
  |split
  |exact Qd _
  |exact Qc)
theorem QBc {γ:Type}:∀a1 a2,Par (Qio (γ:=γ) a1 a2):=by
 intro a1 a2
 fun_induction Qio a1 a2
 all_goals try dsimp only
 all_goals repeat' (first
  |(with_reducible first|exact Qd _|exact Qc)
  |assumption
  |apply_assumption
  |(with_reducible first|exact QC2 _ _|refine Qs ?_ (fun _=> ?_))
  |split
  |exact Qd _
  |exact Qc)
theorem QrL {γ:Type}:∀a1 a2 a3 a4,Par (Qin (γ:=γ) a1 a2 a3 a4):=by
 intro a1 a2 a3 a4
 fun_induction Qin a1 a2 a3 a4
 all_goals try dsimp only
 all_goals repeat' (first
  |(with_reducible first|exact Qd _|exact Qc)
  |assumption
  |apply_assumption
  |(with_reducible first|exact QBM _ _ _|refine Qs ?_ (fun _=> ?_))
  |split
  |exact Qd _
  |exact Qc)
theorem QkK {γ:Type}:∀a1 a2,Par (Qor (γ:=γ) a1 a2):=by
 intro a1 a2
 unfold Qor
 try dsimp only
 repeat' (first
  |(with_reducible first|exact Qd _|exact Qc|exact ye _ _|refine Qs ?_ (fun _=> ?_))
  |split
  |exact ye _ _
  |exact Qd _
  |exact Qc)
theorem QAL {γ:Type}:∀a1 a2,Par (QnN (γ:=γ) a1 a2):=by
 intro a1 a2
 unfold QnN
 try dsimp only
 repeat' (first
  |(with_reducible first|exact Qd _|exact Qc|exact X2 _|exact Qgn _|refine Qs ?_ (fun _=> ?_))
  |split
  |exact Qd _
  |exact Qc)
theorem QA3 {γ:Type}:∀a1 a2,Par (QmX (γ:=γ) a1 a2):=by
 intro a1 a2
 unfold QmX
 try dsimp only
 repeat' (first
  |(with_reducible first|exact Qd _|exact Qc|exact X2 _|exact Qgn _|exact QlU _ _|refine Qs ?_ (fun _=> ?_))
  |split
  |exact QlU _ _
  |exact Qd _
  |exact Qc)
theorem QAw {γ:Type}:∀a1 a2 a3 a4 a5,Par (Qi8 (γ:=γ) a1 a2 a3 a4 a5):=by
 intro a1 a2 a3 a4 a5
 unfold Qi8
 try dsimp only
 repeat' (first
  |(with_reducible first|exact Qd _|exact Qc|exact vv _ _|exact Qaw _|exact Qm6 _ _|exact Va _ _ _ _|exact QAL _ _|exact QA3 _ _|refine Qs ?_ (fun _=> ?_))
  |split
  |exact Qd _
  |exact Qc)
theorem QEq {γ:Type}:∀a1 a2,Par (QeU (γ:=γ) a1 a2):=by
 intro a1 a2
 unfold QeU
 try dsimp only
 repeat' (first
  |(with_reducible first|exact Qd _|exact Qc|refine Qs ?_ (fun _=> ?_))
  |split
  |exact Qd _
  |exact Qc)
theorem QCO {γ:Type}:∀a1 a2 a3,Par (QpE (γ:=γ) a1 a2 a3):=by
 intro a1 a2 a3
 unfold QpE
 try dsimp only
 repeat' (first
  |(with_reducible first|exact Qd _|exact Qc|exact VJ _ _ _|exact X2 _|exact Qcd _|exact QEq _ _|refine Qs ?_ (fun _=> ?_))
  |split
  |exact Qd _
  |exact Qc)
theorem QGk {γ:Type}:∀a1 a2 a3,Par (Qz1 (γ:=γ) a1 a2 a3):=by
 intro a1 a2 a3
 unfold Qz1
 try dsimp only
 repeat' (first
  |(with_reducible first|exact Qd _|exact Qc|exact QCO _ _ _|refine Qs ?_ (fun _=> ?_))
  |split
  |exact Qd _
  |exact Qc)
theorem QE2 {γ:Type}:∀a1 a2,Par (QqD (γ:=γ) a1 a2):=by
 intro a1 a2
 fun_induction QqD a1 a2
 all_goals try dsimp only
 all_goals repeat' (first
  |(with_reducible first|exact Qd _|exact Qc)
  |assumption
  |apply_assumption
  |(with_reducible first|exact QGk _ _ _|refine Qs ?_ (fun _=> ?_))
  |split
  |exact Qd _
  |exact Qc)
theorem QDB {γ:Type}:∀a1 a2 a3,Par (Qj1 (γ:=γ) a1 a2 a3):=by
 intro a1 a2 a3
 fun_induction Qj1 a1 a2 a3
 all_goals try dsimp only
 all_goals repeat' (first
  |(with_reducible first|exact Qd _|exact Qc)
  |assumption
  |apply_assumption
  |(with_reducible first|exact ye _ _|refine Qs ?_ (fun _=> ?_))
  |split
  |exact ye _ _
  |exact Qd _
  |exact Qc)
theorem QzE {γ:Type}:∀a1 a2,Par (Qd5 (γ:=γ) a1 a2):=by
 intro a1 a2
 fun_induction Qd5 a1 a2
 all_goals try dsimp only
 all_goals repeat' (first
  |(with_reducible first|exact Qd _|exact Qc)
  |assumption
  |apply_assumption
  |(with_reducible first|exact QjA _|exact QmG _ _ _|refine Qs ?_ (fun _=> ?_))
  |split
  |exact Qd _
  |exact Qc)
theorem QAm {γ:Type}:∀a1 a2,Par (Qjk (γ:=γ) a1 a2):=by
 intro a1 a2
 unfold Qjk
 try dsimp only
 repeat' (first
  |(with_reducible first|exact Qd _|exact Qc|exact QjA _|exact QmG _ _ _|exact QzE _ _|refine Qs ?_ (fun _=> ?_))
  |split
  |exact Qd _
  |exact Qc)
theorem Qx5 {γ:Type}:∀a1 a2,Par (QaI (γ:=γ) a1 a2):=by
 intro a1 a2
 fun_induction QaI a1 a2
 all_goals try dsimp only
 all_goals repeat' (first
  |(with_reducible first|exact Qd _|exact Qc)
  |assumption
  |apply_assumption
  |(with_reducible first|exact QAm _ _|refine Qs ?_ (fun _=> ?_))
  |split
  |exact Qd _
  |exact Qc)
theorem QFM {γ:Type}:∀a1 a2 a3,Par (QAB (γ:=γ) a1 a2 a3):=by
 intro a1 a2 a3
 unfold QAB
 try dsimp only
 repeat' (first
  |(with_reducible first|exact Qd _|exact Qc|exact Qgn _|refine Qs ?_ (fun _=> ?_))
  |split
  |exact Qd _
  |exact Qc)
theorem QEl {γ:Type}:∀a1 a2,Par (Qlw (γ:=γ) a1 a2):=by
 intro a1 a2
 fun_induction Qlw a1 a2
 all_goals try dsimp only
 all_goals repeat' (first
  |(with_reducible first|exact Qd _|exact Qc)
  |assumption
  |apply_assumption
  |(with_reducible first|exact QFM _ _ _|refine Qs ?_ (fun _=> ?_))
  |split
  |exact Qd _
  |exact Qc)
theorem QFY {γ:Type}:∀a1 a2,Par (QzG (γ:=γ) a1 a2):=by
 intro a1 a2
 unfold QzG
 split
 ·exact QEl _ _
 ·exact Qd _
theorem QE1 {γ:Type}:∀a1 a2,Par (Qlj (γ:=γ) a1 a2):=by
 intro a1 a2
 fun_induction Qlj a1 a2
 all_goals try dsimp only
 all_goals repeat' (first
  |(with_reducible first|exact Qd _|exact Qc)
  |assumption
  |apply_assumption
  |(with_reducible first|exact QFY _ _|refine Qs ?_ (fun _=> ?_))
  |split
  |exact Qd _
  |exact Qc)
theorem QEO {γ:Type}:∀a1 a2,Par (Qqx (γ:=γ) a1 a2):=by
 intro a1 a2
 fun_induction Qqx a1 a2
 all_goals try dsimp only
 all_goals repeat' (first
  |(with_reducible first|exact Qd _|exact Qc)
  |assumption
  |apply_assumption
  |(with_reducible first|exact QE2 _ _|refine Qs ?_ (fun _=> ?_))
  |split
  |exact Qd _
  |exact Qc)
theorem QC3 {γ:Type}:∀a1 a2 a3,Par (Qnc (γ:=γ) a1 a2 a3):=by
 intro a1 a2 a3
 fun_induction Qnc a1 a2 a3
 all_goals try dsimp only
 all_goals repeat' (first
  |(with_reducible first|exact Qd _|exact Qc)
  |assumption
  |apply_assumption
  |(with_reducible first|exact QDB _ _ _|refine Qs ?_ (fun _=> ?_))
  |split
  |exact Qd _
  |exact Qc)
theorem QxH {γ:Type}:∀a1 a2 a3,Par (yP (γ:=γ) a1 a2 a3):=by
 intro a1 a2 a3
 unfold yP
 try dsimp only
 repeat' (first
  |(with_reducible first|exact Qd _|exact Qc|exact zi _ _|refine Qs ?_ (fun _=> ?_))
  |split
  |exact Qd _
  |exact Qc)
theorem QBs {γ:Type}:∀a1 a2,Par (Qiq (γ:=γ) a1 a2):=by
 intro a1 a2
 unfold Qiq
 try dsimp only
 repeat' (first
  |(with_reducible first|exact Qd _|exact Qc|exact VJ _ _ _|exact X2 _|exact QxH _ _ _|refine Qs ?_ (fun _=> ?_))
  |split
  |exact Qd _
  |exact Qc)
theorem QA7 {γ:Type}:∀a1 a2 a3,Par (xr (γ:=γ) a1 a2 a3):=by
 intro a1 a2 a3
 fun_induction xr a1 a2 a3
 all_goals try dsimp only
 all_goals repeat' (first
  |(with_reducible first|exact Qd _|exact Qc)
  |assumption
  |apply_assumption
  |(with_reducible first|exact QBs _ _|refine Qs ?_ (fun _=> ?_))
  |split
  |exact Qd _
  |exact Qc)
theorem zy {γ:Type}(r:Nat):(k:Nat)->(l:List (Mode×Ty))->(xs:List TV)->Par (ZI (γ:=γ) r k l xs)
 |_,[],_=>by unfold ZI;first|exact Qd _|exact Qc
 |k,(.mut,t)::l,x::xs=>by
  unfold ZI
  try dsimp only
  repeat' (first
  |(with_reducible first|exact zy r (k+1) l xs|exact Qd _|exact Qc|exact zi _ _|exact VJ _ _ _|refine Qs ?_ (fun _=> ?_))
  |split
  |exact Qd _
  |exact Qc)
 |k,(.mut,t)::l,[]=>by unfold ZI;first|exact Qd _|exact Qc
 |k,(.ro,_)::l,xs=>by
  unfold ZI
  try dsimp only
  repeat' (first
  |(with_reducible first|exact zy r (k+1) l xs|exact Qd _|exact Qc|exact zi _ _|exact VJ _ _ _|refine Qs ?_ (fun _=> ?_))
  |split
  |exact Qd _
  |exact Qc)
 |k,(.own,_)::l,xs=>by
  unfold ZI
  try dsimp only
  repeat' (first
  |(with_reducible first|exact zy r (k+1) l xs|exact Qd _|exact Qc|exact zi _ _|exact VJ _ _ _|refine Qs ?_ (fun _=> ?_))
  |split
  |exact Qd _
  |exact Qc)
 |k,(.junk,_)::l,xs=>by
  unfold ZI
  try dsimp only
  repeat' (first
  |(with_reducible first|exact zy r (k+1) l xs|exact Qd _|exact Qc|exact zi _ _|exact VJ _ _ _|refine Qs ?_ (fun _=> ?_))
  |split
  |exact Qd _
  |exact Qc)
 |k,(.top,_)::l,xs=>by
  unfold ZI
  try dsimp only
  repeat' (first
  |(with_reducible first|exact zy r (k+1) l xs|exact Qd _|exact Qc|exact zi _ _|exact VJ _ _ _|refine Qs ?_ (fun _=> ?_))
  |split
  |exact Qd _
  |exact Qc)
theorem QEt {γ:Type}:∀a1 a2 a3 a4,Par (backs (γ:=γ) a1 a2 a3 a4):=by
 intro a1 a2 a3 a4
 fun_induction backs a1 a2 a3 a4
 all_goals try dsimp only
 all_goals repeat' (first
  |(with_reducible first|exact Qd _|exact Qc)
  |assumption
  |apply_assumption
  |(with_reducible first|exact QA7 _ _ _|exact zy _ _ _ _|refine Qs ?_ (fun _=> ?_))
  |split
  |exact Qd _
  |exact Qc)
theorem yV {γ:Type}(d:Nat):(j:Nat)->(l:List (Mode×Ty))->(xs:List TV)->Par (ZU (γ:=γ) d j l xs)
 |_,[],_=>by unfold ZU;first|exact Qd _|exact Qc
 |j,(.junk,_)::l,xs=>by
  unfold ZU
  try dsimp only
  repeat' (first
  |(with_reducible first|exact yV d (j+1) l xs|exact Qd _|exact Qc|exact Va _ _ _ _|refine Qs ?_ (fun _=> ?_))
  |split
  |exact Qd _
  |exact Qc)
 |j,(.ro,t)::l,x::xs=>by
  unfold ZU
  try dsimp only
  repeat' (first
  |(with_reducible first|exact yV d (j+1) l xs|exact Qd _|exact Qc|exact Va _ _ _ _|refine Qs ?_ (fun _=> ?_))
  |split
  |exact Qd _
  |exact Qc)
 |j,(.mut,t)::l,x::xs=>by
  unfold ZU
  try dsimp only
  repeat' (first
  |(with_reducible first|exact yV d (j+1) l xs|exact Qd _|exact Qc|exact Va _ _ _ _|refine Qs ?_ (fun _=> ?_))
  |split
  |exact Qd _
  |exact Qc)
 |j,(.own,t)::l,x::xs=>by
  unfold ZU
  try dsimp only
  repeat' (first
  |(with_reducible first|exact yV d (j+1) l xs|exact Qd _|exact Qc|exact Va _ _ _ _|refine Qs ?_ (fun _=> ?_))
  |split
  |exact Qd _
  |exact Qc)
 |j,(.top,t)::l,x::xs=>by
  unfold ZU
  try dsimp only
  repeat' (first
  |(with_reducible first|exact yV d (j+1) l xs|exact Qd _|exact Qc|exact Va _ _ _ _|refine Qs ?_ (fun _=> ?_))
  |split
  |exact Qd _
  |exact Qc)
 |j,(.ro,t)::l,[]=>by unfold ZU;first|exact Qd _|exact Qc
 |j,(.mut,t)::l,[]=>by unfold ZU;first|exact Qd _|exact Qc
 |j,(.own,t)::l,[]=>by unfold ZU;first|exact Qd _|exact Qc
 |j,(.top,t)::l,[]=>by unfold ZU;first|exact Qd _|exact Qc
theorem QEf {γ:Type}:∀a1 a2 a3 a4,Par (QnM (γ:=γ) a1 a2 a3 a4):=by
 intro a1 a2 a3 a4
 fun_induction QnM a1 a2 a3 a4
 all_goals try dsimp only
 all_goals repeat' (first
  |(with_reducible first|exact Qd _|exact Qc)
  |assumption
  |apply_assumption
  |(with_reducible first|exact yV _ _ _ _|refine Qs ?_ (fun _=> ?_))
  |split
  |exact Qd _
  |exact Qc)
theorem Qs1 {γ:Type}(d:Nat):(k:Nat)->(l:List (Mode×Ty))->(xs:List TV)->Par (vq (γ:=γ) d k l xs)
 |_,[],_=>by unfold vq;first|exact Qd _|exact Qc
 |k,(m,t)::l,x::xs=>by
  unfold vq
  try dsimp only
  repeat' (first
  |(with_reducible first|exact Qs1 d (k+1) l xs|exact Qd _|exact Qc|exact zi _ _|exact VJ _ _ _|refine Qs ?_ (fun _=> ?_))
  |split
  |exact Qd _
  |exact Qc)
 |_,_::_,[]=>by unfold vq;first|exact Qd _|exact Qc
theorem yQ {γ:Type}:∀a1,Par (qB (γ:=γ) a1):=by
 intro a1
 fun_induction qB a1
 all_goals try dsimp only
 all_goals repeat' (first
  |(with_reducible first|exact Qd _|exact Qc)
  |assumption
  |apply_assumption
  |(with_reducible first|exact jv _|refine Qs ?_ (fun _=> ?_))
  |split
  |exact Qd _
  |exact Qc)
theorem QEC {γ:Type}:∀a1 a2 a3 a4 a5 a6,Par (call2 (γ:=γ) a1 a2 a3 a4 a5 a6):=by
 intro a1 a2 a3 a4 a5 a6
 unfold call2
 try dsimp only
 repeat' (first
  |(with_reducible first|exact Qd _|exact Qc|exact QjA _|exact vv _ _|exact QFl _ _|exact QEt _ _ _ _|exact QEf _ _ _ _|exact Qs1 _ _ _ _|refine Qs ?_ (fun _=> ?_))
  |split
  |exact Qd _
  |exact Qc)
theorem Qo3 {γ:Type}:∀a1 a2 a3 a4 a5,Par (QlN (γ:=γ) a1 a2 a3 a4 a5):=by
 intro a1 a2 a3 a4 a5
 unfold QlN
 try dsimp only
 repeat' (first
  |(with_reducible first|exact Qd _|exact Qc|exact vv _ _|exact X2 _|exact QnF _ _|exact Qm6 _ _|exact QkK _ _|exact QAw _ _ _ _ _|exact yQ _|refine Qs ?_ (fun _=> ?_))
  |split
  |exact Qd _
  |exact Qc)
theorem QDM {γ:Type}:∀a1 a2 a3 a4 a5,Par (QtJ (γ:=γ) a1 a2 a3 a4 a5):=by
 intro a1 a2 a3 a4 a5
 unfold QtJ
 try dsimp only
 repeat' (first
  |(with_reducible first|exact Qd _|exact Qc|exact vv _ _|exact Qaw _|exact X2 _|exact QnF _ _|exact Qm6 _ _|exact Qgn _|exact QlU _ _|refine Qs ?_ (fun _=> ?_))
  |split
  |exact QlU _ _
  |exact Qd _
  |exact Qc)
theorem QoN {γ:Type}:∀a1,Par (QnK (γ:=γ) a1):=by
 intro a1
 unfold QnK
 try dsimp only
 repeat' (first
  |(with_reducible first|exact Qd _|exact Qc|exact X2 _|exact jv _|refine Qs ?_ (fun _=> ?_))
  |split
  |exact Qd _
  |exact Qc)
theorem Qrs {γ:Type}:∀a1 a2 a3 a4 a5 a6,Par (QqJ (γ:=γ) a1 a2 a3 a4 a5 a6):=by
 intro a1 a2 a3 a4 a5 a6
 unfold QqJ
 try dsimp only
 repeat' (first
  |(with_reducible first|exact Qd _|exact Qc|exact vv _ _|exact Qaw _|exact X2 _|exact QnF _ _|exact Qm6 _ _|exact QkK _ _|refine Qs ?_ (fun _=> ?_))
  |split
  |exact Qd _
  |exact Qc)
theorem QIH {γ α:Type}{c:Prop} [Decidable c] {a b:M γ α}(h:Par a) (h':Par b):Par (if c then a else b):=by
 by_cases hc:c
 ·simp only[hc,if_true];exact h
 ·simp only[hc,if_false];exact h'
theorem Qix {γ α:Type}{c:Prop} [Decidable c] {a b:M γ α}{A B:Nat->M γ α}(h:zC a A) (h':zC b B):zC (if c then a else b) fun n=>if c then A n else B n:=by
 by_cases hc:c
 ·simp only[hc,if_true];exact h
 ·simp only[hc,if_false];exact h'
theorem Qh4 {γ α β:Type}{f:α->M γ β}{mm:Nat->M γ β}:zC (Qr>>=f) mm:=fun _ _ _=> .fail
theorem QCA {γ:Type}{E:Env}{D:Xv E}{DD:Nat->Xv E}(hD:∀f x,Ct (D f x) fun n=>DD n f x) (f0 f:Nat) (as:List Cell):zC (Qqv (γ:=γ) E D f0 f as) fun n=>Qqv E (DD n) f0 f as:=by
 unfold Qqv
 dsimp only
 refine Qix ?_ Qh4
 refine Vm (Qx5 _ _) fun _=> ?_
 refine Vm (by unfold Qyv;exact QIH (QE1 _ _) (Qd _)) fun _=> ?_
 refine Qix ?_ Qh4
 refine Qix Qh4 ?_
 refine Vm (QEO _ _) fun _=> ?_
 refine Qix ?_ Qh4
 refine Vm (QC3 _ _ _) fun _=> ?_
 refine Vm (X2 _) fun _=> ?_
 refine Vm (QDE _ (hD _ _)) fun _=> ?_
 exact Qd _
theorem QuG {γ:Type}{E:Env}{D:Xv E}{DD:Nat->Xv E}(hD:∀f x,Ct (D f x) fun n=>DD n f x) (np:Fx) (d f0:Nat) (as:List Cell):zC (QoI (γ:=γ) E D np d f0 as) fun n=>QoI E (DD n) np d f0 as:=by
 unfold QoI
 exact Vm (QCA hD _ _ _) fun _=>QEC _ _ _ _ _ _
theorem QBq {γ:Type}{E:Env}{D:Xv E}{DD:Nat->Xv E}(hD:∀f x,Ct (D f x) fun n=>DD n f x) (np:Fx) (d f:Nat) (args:List Operand):zC (QpU (γ:=γ) E D np d f args) fun n=>QpU E (DD n) np d f args:=by
 unfold QpU
 exact Vm (yQ _) fun _=>QuG hD _ _ _ _
theorem QCP {γ:Type}{E:Env}{D:Xv E}{DD:Nat->Xv E}(hD:∀f x,Ct (D f x) fun n=>DD n f x) (np:Fx) (d:Nat) (g:Operand) (args:List Operand):zC (QtM (γ:=γ) E D np d g args) fun n=>QtM E (DD n) np d g args:=by
 unfold QtM
 refine Vm (jv _) fun c=>Vm (yQ _) fun as=> ?_
 cases c with
 |fn f caps=>exact QuG hD _ _ _ _
 |_=>exact Qc
theorem QH5 {γ:Type}(i:Nat) {a b:M γ Unit}(ha:Par a) (hb:Par b):Par (fun k=> .brT i (a k) (b k):M γ Unit):=fun _ _ hk=> .brT i (ha _ _ hk) (hb _ _ hk)
theorem QGP {γ:Type}(i:Nat) (w:Bool) {a b:M γ Unit}{A B:Nat->M γ Unit}(ha:zC a A) (hb:zC b B):zC (fun k=> .brG i w (a k) (b k):M γ Unit) fun n=>fun k=> .brG i w (A n k) (B n k):=fun _ _ hk=> .brG i w (ha _ _ hk) (hb _ _ hk)
theorem Qry {γ:Type}{E:Env}{D:Xv E}{DD:Nat->Xv E}(hD:∀f x,Ct (D f x) fun n=>DD n f x) (nk:Fx) (o:Oper):zC (execOp (γ:=γ) E D nk o) fun n=>execOp E (DD n) nk o:=by
 unfold execOp
 dsimp only
 refine Qix Qc ?_
 generalize o.op=op
 cases op
 case call c=>
  obtain⟨cal,args,tys⟩:=c
  cases cal with
  |value g=>
   cases g with
   |func f=>exact QBq hD _ _ _ _
   |tmp t=>exact QCP hD _ _ _ _
   |_=>exact Qc
  |builtin b=>exact Qo3 _ _ _ _ _
  |_=>exact Qc
 case makeFunc fn first caps=>
  cases fn with
  |func g=>
   refine(show Par (if first.size==0 then(do let cs<-qB caps.toList;let l<-ofO (ptrs? cs);wT (o.dst.getD 0) (.fn g l))else Qr)from ?_)
   repeat' (first
    |(with_reducible first|exact Qc|exact vv _ _|exact X2 _|exact yQ _|refine Qs ?_ (fun _=> ?_))
    |split)
  |_=>exact Qc
 case slice T x lo hi mx=>
  cases mx with
  |none=>
   exact Qs (jv _) fun _=>Qs (QoN _) fun _=>Qs (QoN _) fun _=>Qrs _ _ _ _ _ _
  |some _=>exact Qc
 all_goals(first|exact Qc|skip)
 all_goals dsimp only
 all_goals refine(show Par _ from ?_)
 all_goals repeat' (first
  |(with_reducible first|exact Qd _|exact Qc|exact Qaw _|exact X2 _|exact jv _|exact QsS _ _|exact vv _ _|exact QjA _|exact QFl _ _|exact QnF _ _|exact Qm6 _ _|exact Qqk _ _ _ _|exact QpK _ _ _ _ _|exact Qvc _ _ _|exact QxZ _|exact QBc _ _|exact QrL _ _ _ _|exact Va _ _ _ _|exact QCX _ _|exact QBL _ _ _ _|exact QAq _ _ _ _|exact QDM _ _ _ _ _|exact QoN _|exact Qrs _ _ _ _ _ _|exact QkK _ _|exact yQ _|exact Qo3 _ _ _ _ _|refine Qs ?_ (fun _=> ?_))
  |split
  |exact QH5 _ (Qs (jv _) fun _=>vv _ _) (Qs (jv _) fun _=>vv _ _)
  |exact Va _ _ _ _
  |exact QrL _ _ _ _
  |exact QkK _ _)
theorem QBm {γ:Type}{E:Env}{D:Xv E}{DD:Nat->Xv E}(hD:∀f x,Ct (D f x) fun n=>DD n f x) (nk:Fx) (ops:List Oper) (o:Oper):zC (xq (γ:=γ) E D nk ops o) fun n=>xq E (DD n) nk ops o:=by
 unfold xq
 cases o.guard with
 |none=>exact Qry hD _ _
 |some g=>
  obtain⟨j,w⟩:=g
  dsimp only
  cases(ops[j]?).bind (·.dst)with
  |none=>exact Qc
  |some t=>exact QGP t w (Qry hD _ _) (QsS _ _)
def Qex (E:Env) (f:Nat) (ins:Ql (E.sig f).ins) (outs:Ql (E.sig f).outs):Prop:=Evt fun n=>(mean E n).1 f ins=some outs
def Qko (E:Env) (f b:Nat) (v:Ql (E.lsig f b).sk.tys) (z:qj (KS (E.lsig f b).exits)):Prop:=Evt fun n=>(mean E n).2 f b v=some z
theorem Qex.step {E:Env}{f:Nat}{ins:Ql (E.sig f).ins}{outs:Ql (E.sig f).outs}(h:Evt fun n=>Qe6 E (mean E n).1 (mean E n).2 f ins=some outs):Qex E f ins outs:=Evt.succ h
theorem Qko.step {E:Env}{f b:Nat}{v:Ql (E.lsig f b).sk.tys}{z:qj (KS (E.lsig f b).exits)}(h:Evt fun n=>QeT E (mean E n).1 (mean E n).2 f b v=some z):Qko E f b v z:=Evt.succ h
theorem Qex.spec {P:Program}{E:Env}(hT:XP P E) (hE:EnvCode P E) (hLo:EnvLoops E) (hmix:P.follows .mixedOrders=true) {f:Nat}(hf:E.fok f=true) {ins:Ql (E.sig f).ins}{outs:Ql (E.sig f).outs}(h:Qex E f ins outs):Qf1 P E.gg (E.sig f) (E.real f) (unpack _ ins) (unpack _ outs):=by
 obtain⟨n,hn⟩:=h.here
 exact(QaY hT hE hLo hmix n).1 f ins outs hf hn
theorem Ct.ite {β:Type}{c:Prop} [Decidable c] {x y:Option β}{X Y:Nat->Option β}(h:Ct x X) (h':Ct y Y):Ct (if c then x else y) fun n=>if c then X n else Y n:=by
 by_cases hc:c
 ·simp only[hc,if_true];exact h
 ·simp only[hc,if_false];exact h'
section
variable {E:Env}{D:Xv E}{DD:Nat->Xv E}{L:qO E}{LL:Nat->qO E}
theorem QCe (hD:∀f x,Ct (D f x) fun n=>DD n f x) (nk:Fx) (all:List Oper) (o:Oper):RPC (Kn (xq E D nk all o)) fun n=>Kn (xq E (DD n) nk all o):=
 QBm hD nk all o _ _ fun _=> .ret ()
theorem QzF {β:Type}(hD:∀f x,Ct (D f x) fun n=>DD n f x) (nk:Fx) (all:List Oper):(l:List Oper)->(s:St)->(K:St->Option β)->(KK:Nat->St->Option β)->(∀s,Ct (K s) fun n=>KK n s)->Ct (Qog E D nk all l s K) fun n=>Qog E (DD n) nk all l s (KK n)
 | [],s,K,KK,h=>h s
 |o::l,s,K,KK,h=>(QCe hD nk all o).ev s _ _ fun _ s'=>QzF hD nk all l s' K KK h
theorem QwR {β:Type}(hD:∀f x,Ct (D f x) fun n=>DD n f x) (nk:Fx) (all:List Oper):(l:List Oper)->(trs:List Tr)->(s:St)->(K:St->Option β)->(KK:Nat->St->Option β)->(∀s,Ct (K s) fun n=>KK n s)->Ct (QgL E D nk all l trs s K) fun n=>QgL E (DD n) nk all l trs s (KK n)
 | [],trs,s,K,KK,h=>Ct.ite (h s) Ct.none
 |o::l,trs,s,K,KK,h=>(QCe hD nk all o).evT s _ _ _ fun _ s' t=>QwR hD nk all l _ s' K KK h
theorem Qv1 {β:Type}(n:Nat):(l:List (Ex×Sk))->(z:qj (KS l))->(K:Ex->St->Option β)->(KK:Nat->Ex->St->Option β)->(∀e s,Ct (K e s) fun n=>KK n e s)->Ct (Qwn n l z K) fun m=>Qwn n l z (KK m)
 | [],_,_,_,_=>Ct.none
 | [(e,sk)],v,K,KK,h=>h e _
 |(e,sk)::a::l,z,K,KK,h=>by
  cases z with
  |inl v=>exact h e _
  |inr z'=>exact Qv1 n (a::l) z' K KK h
theorem Qxs {β:Type}(hL:∀f b x,Ct (L f b x) fun n=>LL n f b x) (f:Nat) (s:St) (K:Ex->St->Option β) (KK:Nat->Ex->St->Option β) (h:∀e s,Ct (K e s) fun n=>KK n e s):(l:List Nat)->Ct (QgD E L f s K l) fun n=>QgD E (LL n) f s (KK n) l
 | []=>Ct.none
 |b::l=>by
  simp only[QgD]
  refine Ct.ite ?_ Ct.none
  cases dec (E.lsig f b).sk s with
  |none=>exact Qxs hL f s K KK h l
  |some v=>exact Ct.bind (hL f b v) fun z=>Qv1 _ _ _ _ _ h
theorem QHx {β:Type}(hD:∀f x,Ct (D f x) fun n=>DD n f x) (hL:∀f b x,Ct (L f b x) fun n=>LL n f b x) (f:Nat) (c:Code):∀(s:St) (K:Ex->St->Option β) (KK:Nat->Ex->St->Option β),(∀e s,Ct (K e s) fun n=>KK n e s)->Ct (ev E D L f c s K) fun n=>ev E (DD n) (LL n) f c s (KK n):=by
 induction c with
 |skip=>intro s K KK h;exact h .normal s
 |region i ops draw=>
  intro s K KK h
  simp only[ev]
  refine Ct.ite ?_ ?_
  ·exact QwR hD _ _ _ _ _ _ _ fun s=>h .normal s
  ·exact QzF hD _ _ _ _ _ _ fun s=>h .normal s
 |seq a b iha ihb=>
  intro s K KK h
  simp only[ev]
  refine iha s _ _ fun e s'=> ?_
  cases e with
  |normal=>exact ihb s' K KK h
  |exit i=>exact h _ _
  |ret=>exact h _ _
 |cond c a b iha ihb=>
  intro s K KK h
  simp only[ev]
  cases c with
  |tmp t=>
   dsimp only
   cases Xs (s.gT t)with
   |none=>exact Ct.none
   |some v=>exact Ct.cond (iha _ K KK h) (ihb _ K KK h)
  |const v=>
   cases v with
   |bool v=>exact Ct.cond (iha _ K KK h) (ihb _ K KK h)
   |_=>exact Ct.none
  |_=>exact Ct.none
 |block b c ih=>
  intro s K KK h
  have hK:∀e s,Ct (xX b K e s) fun n=>xX b (KK n) e s:=by
   intro e s
   cases e with
   |exit i=>exact Ct.ite (h _ _) (h _ _)
   |normal=>exact h _ _
   |ret=>exact h _ _
  cases hl:QnT c with
  |true=>
   cases c with
   |loop x=>
    simp only[QwX]
    exact Qxs hL f s _ _ hK _
   |_=>cases hl
  |false=>
   simp only[QAo hl]
   exact ih s _ _ hK
 |exit i=>intro s K KK h;exact h _ _
 |ret=>intro s K KK h;exact h _ _
 |_=>intros;exact Ct.none
theorem QGb (hD:∀f x,Ct (D f x) fun n=>DD n f x) (hL:∀f b x,Ct (L f b x) fun n=>LL n f b x) (f:Nat) (x:Ql (E.sig f).ins):Ct (Qe6 E D L f x) fun n=>Qe6 E (DD n) (LL n) f x:=by
 unfold Qe6
 cases E.ext f with
 |some g=>exact Ct.same _
 |none=>exact QHx hD hL f _ _ _ _ fun e s=>Ct.same _
theorem QrI (hL:∀f b x,Ct (L f b x) fun n=>LL n f b x) (f b:Nat) (s:St):(l:List Nat)->Ct (vU E L f b s l) fun n=>vU E (LL n) f b s l
 | []=>Ct.none
 |b'::l=>by
  simp only[vU]
  refine Ct.ite ?_ Ct.none
  cases dec (E.lsig f b').sk s with
  |none=>exact QrI hL f b s l
  |some v=>exact Ct.bind (hL f b' v) fun z=>Qv1 _ _ _ _ _ fun e s=>Ct.same _
theorem QG2 (hD:∀f x,Ct (D f x) fun n=>DD n f x) (hL:∀f b x,Ct (L f b x) fun n=>LL n f b x) (f b:Nat) (x:Ql (E.lsig f b).sk.tys):Ct (QeT E D L f b x) fun n=>QeT E (DD n) (LL n) f b x:=by
 unfold QeT
 refine QHx hD hL f _ _ _ _ fun e s=> ?_
 cases e with
 |normal=>
  simp only[QDQ]
  cases dec (E.lsig f b).sk s with
  |some v'=>exact hL f b v'
  |none=>exact QrI hL f b s _
 |exit i=>exact Ct.same _
 |ret=>exact Ct.same _
end
theorem Evt.unique {α:Type}{X:Nat->Option α}{a b:α}(h:Evt fun n=>X n=some a) (h':Evt fun n=>X n=some b):a=b:=by
 obtain⟨n,e,e'⟩:=(h.and h').here
 rw[e]at e';exact QY12 e'
open Classical in
noncomputable def W (E:Env):Xv E:=fun f x=>if h:∃o,Qex E f x o then some (Classical.choose h)else none
open Classical in
noncomputable def WL (E:Env):qO E:=fun f b x=>if h:∃o,Qko E f b x o then some (Classical.choose h)else none
theorem QNj {E:Env}{f:Nat}{x:Ql (E.sig f).ins}{o:Ql (E.sig f).outs}(h:Qex E f x o):W E f x=some o:=by
 have hx:∃o,Qex E f x o:=⟨o,h⟩
 unfold W
 rw[dif_pos hx]
 exact congrArg some (Evt.unique (Classical.choose_spec hx) h)
theorem Qvg {E:Env}{f:Nat}{x:Ql (E.sig f).ins}{o:Ql (E.sig f).outs}(h:W E f x=some o):Qex E f x o:=by
 unfold W at h
 split at h
 ·rename_i hx
  rw[<-QY12 h];exact Classical.choose_spec hx
 ·cases h
theorem QLR {E:Env}{f b:Nat}{x:Ql (E.lsig f b).sk.tys}{o:qj (KS (E.lsig f b).exits)}(h:Qko E f b x o):WL E f b x=some o:=by
 have hx:∃o,Qko E f b x o:=⟨o,h⟩
 unfold WL
 rw[dif_pos hx]
 exact congrArg some (Evt.unique (Classical.choose_spec hx) h)
theorem Qy3 {E:Env}{f b:Nat}{x:Ql (E.lsig f b).sk.tys}{o:qj (KS (E.lsig f b).exits)}(h:WL E f b x=some o):Qko E f b x o:=by
 unfold WL at h
 split at h
 ·rename_i hx
  rw[<-QY12 h];exact Classical.choose_spec hx
 ·cases h
theorem QIo {E:Env}{f:Nat}{x:Ql (E.sig f).ins}{o:Ql (E.sig f).outs}(h:Qe6 E (W E) (WL E) f x=some o):W E f x=some o:=
 QNj (Qex.step (QGb (fun f x o h=>Qvg h) (fun f b x o h=>Qy3 h) f x o h))
theorem QFZ {E:Env}{f b:Nat}{x:Ql (E.lsig f b).sk.tys}{o:qj (KS (E.lsig f b).exits)}(h:QeT E (W E) (WL E) f b x=some o):WL E f b x=some o:=
 QLR (Qko.step (QG2 (fun f x o h=>Qvg h) (fun f b x o h=>Qy3 h) f b x o h))
end Go.Eng
namespace Go.Eng
open Go
def ap {E:Env}{f:Nat}{A B:Type}(hA:Ql (E.sig f).ins=A) (hB:Ql (E.sig f).outs=B) (D:Xv E) (a:A):Option B:=cast (congrArg Option hB) (D f (cast hA.symm a))
def apL {E:Env}{f b:Nat}{A B:Type}(hA:Ql (E.lsig f b).sk.tys=A) (hB:qj (KS (E.lsig f b).exits)=B) (L:qO E) (a:A):Option B:=cast (congrArg Option hB) (L f b (cast hA.symm a))
theorem QF7 {E:Env}{f:Nat}{A B:Type}(hA:Ql (E.sig f).ins=A) (hB:Ql (E.sig f).outs=B) {a:A}{r:Option B}{o:B}(e:ap hA hB (Qe6 E (W E) (WL E)) a=r) (h:r=some o):ap hA hB (W E) a=some o:=by
 subst hA hB
 exact QIo (e.trans h)
theorem QFo {E:Env}{f b:Nat}{A B:Type}(hA:Ql (E.lsig f b).sk.tys=A) (hB:qj (KS (E.lsig f b).exits)=B) {a:A}{r:Option B}{o:B}(e:apL hA hB (QeT E (W E) (WL E)) a=r) (h:r=some o):apL hA hB (WL E) a=some o:=by
 subst hA hB
 exact QFZ (e.trans h)
theorem QIs {P:Program}{E:Env}(hT:XP P E) (hE:EnvCode P E) (hLo:EnvLoops E) (hmix:P.follows .mixedOrders=true) {f:Nat}(hf:E.fok f=true) {A B:Type}(hA:Ql (E.sig f).ins=A) (hB:Ql (E.sig f).outs=B) {a:A}{o:B}(h:ap hA hB (W E) a=some o):
 Qf1 P E.gg (E.sig f) (E.real f) (unpack _ (cast hA.symm a)) (unpack _ (cast hB.symm o)):=by
 subst hA hB
 exact Qex.spec hT hE hLo hmix hf (Qvg h)
end Go.Eng
namespace Go.Eng
open Go
set_option linter.unusedVariables false
mutual
def Fit:(t:Ty)->Val t->Prop
 | .int k,n=>(Lit.int k n).wf=true
 | .bool,_=>True
 | .str,s=>ByteArray.size s<=maxLen
 | .sl ts,xs=>(vl xs).length<=maxLen/\∀x∈vl xs,qK ts x
def qK:(ts:Tys)->Ql ts->Prop
 | .nil,_=>True
 | .cons t ts,x=>Fit t (vhd x)/\qK ts (vtl x)
end
def Rd (w:World) (ts:Tys) (cs:List Value):Prop:=∃(x:Ql ts) (bl:List Nat),XB w ts x cs bl/\qK ts x/\∀b∈bl,b<w.heap.size
theorem Rd.nil {w:World}:Rd w .nil []:=⟨(),[],⟨rfl,rfl⟩,trivial,by simp⟩
theorem QnH {t:Ty}{ts:Tys}(a:Val t) (b:Ql ts):vhd (vmk a b)=a:=by cases ts<;>rfl
theorem Qnq {t:Ty}{ts:Tys}(a:Val t) (b:Ql ts):vtl (vmk a b)=b:=by cases ts<;>rfl
theorem Rd.cons {w:World}{t:Ty}{ts:Tys}{u:Value}{us:List Value}{a:Val t}{b1:List Nat}(h:Rep w t a u b1) (hf:Fit t a) (hb:∀b∈b1,b<w.heap.size) (h2:Rd w ts us):Rd w (.cons t ts) (u::us):=by
 obtain⟨x,bl,h3,h4,h5⟩:=h2
 refine⟨vmk a x,b1++bl,⟨u,us,b1,bl,rfl,rfl, ?_, ?_⟩,⟨?_, ?_⟩,fun b hb'=> ?_⟩
 ·rw[QnH];exact h
 ·rw[Qnq];exact h3
 ·rw[QnH];exact hf
 ·rw[Qnq];exact h4
 ·rcases QRh.1 hb' with h|h
  ·exact hb b h
  ·exact h5 b h
theorem Rd.uncons {w:World}{t:Ty}{ts:Tys}{cs:List Value}(h:Rd w (.cons t ts) cs):∃u us a b1,cs=u::us/\Rep w t a u b1/\Fit t a/\(∀b∈b1,b<w.heap.size)/\Rd w ts us:=by
 obtain⟨x,bl,⟨u,us,b1,b2,e1,e2,h1,h2⟩,⟨h3,h4⟩,h5⟩:=h
 exact⟨u,us,vhd x,b1,e1,h1,h3,fun b hb=>h5 b (by rw[e2];exact List.mem_append_left _ hb),vtl x,b2,h2,h4,fun b hb=>h5 b (by rw[e2];exact List.mem_append_right _ hb)⟩
theorem Rd.app {w:World}: {ts us:Tys}-> {cs ds:List Value}->Rd w ts cs->Rd w us ds->Rd w (ts.app us) (cs++ds)
 | .nil,us,cs,ds,⟨_,_,⟨h,_⟩,_,_⟩,h'=>by subst h;exact h'
 | .cons t ts,us,cs,ds,h,h'=>by
   obtain⟨u,us',a,b1,rfl,h1,h2,h3,h4⟩:=h.uncons
   exact Rd.cons h1 h2 h3 (Rd.app h4 h')
theorem Rd.len {w:World}: {ts:Tys}-> {cs:List Value}->Rd w ts cs->cs.length=ts.len
 | .nil,cs,⟨_,_,⟨h,_⟩,_,_⟩=>by subst h;rfl
 | .cons t ts,cs,h=>by
   obtain⟨u,us',a,b1,rfl,h1,h2,h3,h4⟩:=h.uncons
   simp[Tys.len,Rd.len h4]
def Tys.strip:Tys->Tys->Option Tys
 | .nil,ts=>some ts
 | .cons t ts, .cons u us=>match Ty.eq? t u with|some _=>Tys.strip ts us|none=>none
 | .cons _ _, .nil=>none
theorem Tys.QuD:(a b c:Tys)->Tys.strip a b=some c->b=a.app c
 | .nil,b,c,h=>by simp only[Tys.strip,Option.some.injEq]at h;exact h
 | .cons t ts, .nil,c,h=>by cases h
 | .cons t ts, .cons u us,c,h=>by
   simp only[Tys.strip]at h
   split at h
   ·rename_i p _
    obtain⟨p⟩:=p
    subst p
    simp only[Tys.app]
    rw[Tys.QuD ts us c h]
   ·cases h
def QiO (a b:Tys):Bool:=match Tys.eq? a b with|some _=>true|none=>false
theorem vn {a b:Tys}(h:QiO a b=true):a=b:=by
 unfold QiO at h
 split at h
 ·rename_i p _;exact p.down
 ·cases h
def QqB (P:Program) (ty:Nat->TI):Nat->List Field->Tys->Bool
 |_,[],ts=>(match ts with| .nil=>true|_=>false)
 |off,f::fs,ts=>(ty f.type).ok&&Nat.beq f.offset off&&Nat.beq (P.cellsOf f.type) (ty f.type).ts.len&&(match(ty f.type).ts.strip ts with|some rest=>QqB P ty (off+(ty f.type).ts.len) fs rest|none=>false)
def rdB (P:Program) (ty:Nat->TI) (T:Nat) (i:TI):Bool:= !i.ok||(match P.underlying T with
 |some (.int k)=> !i.agg&&QiO i.ts (.cons (.int k) .nil)
 |some .bool=> !i.agg&&QiO i.ts (.cons .bool .nil)
 |some .string=> !i.agg&&QiO i.ts (.cons .str .nil)
 |some (.slice e)=> !i.agg&&(ty e).ok&&Nat.blt 0 (ty e).ts.len&&Nat.beq (P.cellsOf e) (ty e).ts.len&&QiO i.ts (.cons (.sl (ty e).ts) .nil)
 |some (.struct fs)=>i.agg&&Nat.beq (P.cellsOf T) i.ts.len&&QqB P ty 0 fs.toList i.ts
 |_=>false)
theorem QB4 {w:World}{ts:Tys}{a:Addr}:(n:Nat)->(∀i,i<n->∃us,Cells w a (i*ts.len) us/\Rd w ts us)->∃(xs:List (Ql ts)) (bls:List (List Nat)),xs.length=n/\bls.length=n/\(∀x∈xs,qK ts x)/\(∀b∈bls.flatten,b<w.heap.size)/\
 ∀(i:Nat) (x:Ql ts) (b:List Nat),xs[i]? =some x->bls[i]? =some b->∃us,Cells w a (i*ts.len) us/\XB w ts x us b
 |0,_=>⟨[],[],rfl,rfl,by simp,by simp,by simp⟩
 |n+1,h=>by
  obtain⟨xs,bls,h1,h2,h3,h4,h5⟩:=QB4 n fun i hi=>h i (by omega)
  obtain⟨us,c1,x,bl,c2,c3,c4⟩:=h n (by omega)
  refine⟨xs++[x],bls++[bl],by simp[h1],by simp[h2],fun y hy=> ?_,fun b hb=> ?_,fun i y b hy hb=> ?_⟩
  ·rcases QRh.1 hy with h|h
   ·exact h3 y h
   ·rw[List.mem_singleton.1 h];exact c3
  ·rw[QY16]at hb
   rcases QRh.1 hb with h|h
   ·exact h4 b h
   ·exact c4 b (by simpa using h)
  ·by_cases hi:i<n
   ·rw[List.getElem?_append_left (by omega)]at hy hb
    exact h5 i y b hy hb
   ·have hin:i=n:=by
     have:=(QRq.1 hy).1
     simp[h1]at this;omega
    subst hin
    rw[QY36 (by omega),h1,Nat.sub_self]at hy
    rw[QY36 (by omega),h2,Nat.sub_self]at hb
    simp at hy hb;subst hy hb
    exact⟨us,c1,c2⟩
section
variable {H:Type}{enc:TypeId×Value->H}{P:Program}{w:World}{sp:Nat->Bool}{held:Bool}{ty:Nat->TI}
theorem Qrn {n:Nat}(ih:∀T cs y,(ty T).ok=true->DataW.trod enc P w 0 sp held n T cs=some y->Rd w (ty T).ts cs) (cs:List Value):(fs:List Field)->(off:Nat)->(ts:Tys)->QqB P ty off fs ts=true->
 (∀f∈fs,∃y,DataW.trod enc P w 0 sp held n f.type ((cs.drop f.offset).take (P.cellsOf f.type))=some y)->cs.length=off+ts.len->Rd w ts (cs.drop off)
 | [],off,ts,h,_,hl=>by
   cases ts with
   |nil=>
    simp only[Tys.len]at hl
    rw[List.drop_of_length_le (by omega)];exact Rd.nil
   |cons _ _=>cases h
 |f::fs,off,ts,h,hf,hl=>by
  simp only[QqB,QQ5,QY13]at h
  obtain⟨⟨⟨h1,h2⟩,h3⟩,h4⟩:=h
  split at h4
  ·rename_i rest hs
   have e:=Tys.QuD _ _ _ hs
   obtain⟨y,hy⟩:=hf f (by simp)
   have r:=ih _ _ _ h1 hy
   have hlen:=r.len
   rw[h2,h3]at r hlen
   have e2:ts.len=(ty f.type).ts.len+rest.len:=by
    rw[e]
    generalize (ty f.type).ts=a
    have:∀a:Tys,(a.app rest).len=a.len+rest.len:=by
     intro a
     induction a using Tys.rec (motive_1:=fun _=>True)with
     |nil=>simp[Tys.app,Tys.len]
     |cons t ts _ iht=>simp only[Tys.app,Tys.len,iht];omega
     |_=>trivial
    exact this a
   have r2:=Qrn ih cs fs (off+(ty f.type).ts.len) rest h4 (fun g hg=>hf g (by simp[hg])) (by omega)
   have:=r.app r2
   rw[<-e]at this
   have e3:(cs.drop off).take (ty f.type).ts.len++cs.drop (off+(ty f.type).ts.len)=cs.drop off:=by
    rw[<-List.drop_drop];exact List.take_append_drop _ _
   rw[e3]at this
   exact this
  ·cases h4
theorem read (hB:∀T,rdB P ty T (ty T)=true):(fuel:Nat)->(T:Nat)->(cs:List Value)->(y:DataW H×List MemPlace)->(ty T).ok=true->DataW.trod enc P w 0 sp held fuel T cs=some y->Rd w (ty T).ts cs
 |0,T,cs,y,_,h=>by simp[DataW.trod]at h
 |fuel+1,T,cs,y,hok,h=>by
  have hb:=hB T
  simp only[rdB,hok,QQ3,Bool.false_or]at hb
  split at hb
  ·rename_i k hu
   simp only[QQ5]at hb
   rw[vn hb.2]
   obtain⟨n,rfl,_,hw⟩:=DataW.trod_int hu h
   exact Rd.cons (a:=(show Val (.int k)from n)) (b1:=[]) ⟨rfl,rfl⟩ hw (by simp) Rd.nil
  ·rename_i hu
   simp only[QQ5]at hb
   rw[vn hb.2]
   obtain⟨b,rfl,_⟩:=DataW.trod_bool hu h
   exact Rd.cons (a:=(show Val .bool from b)) (b1:=[]) ⟨rfl,rfl⟩ trivial (by simp) Rd.nil
  ·rename_i hu
   simp only[QQ5]at hb
   rw[vn hb.2]
   obtain⟨s,rfl,_,hs⟩:=DataW.trod_string hu h
   exact Rd.cons (a:=(show Val .str from s)) (b1:=[]) ⟨rfl,rfl⟩ hs (by simp) Rd.nil
  ·rename_i e hu
   simp only[QQ5,QY13,Nat.blt_eq]at hb
   obtain⟨⟨⟨⟨_,h1⟩,h2⟩,h3⟩,h4⟩:=hb
   rw[vn h4]
   rcases DataW.trod_slice hu h with⟨rfl,_⟩|⟨a,len,cap,elems,rest,n,hn,rfl,_,_,hl,hm,hlen,hel,_,_⟩
   ·exact Rd.cons (a:=(show Val (.sl (ty e).ts)from([]:List (Ql (ty e).ts)))) (b1:=[]) ⟨none,0,rfl,⟨QY1 _,fun _=>rfl⟩, .inl ⟨rfl,rfl⟩⟩ ⟨by simp[vl],by simp[vl]⟩ (by simp) Rd.nil
   ·obtain rfl:fuel=n:=by omega
    have each:∀i,i<len->∃us,Cells w a (i*(ty e).ts.len) us/\Rd w (ty e).ts us/\a.block<w.heap.size:=by
     intro i hi
     have h5:=hel i hi
     rw[QRp (by omega)]at h5
     obtain⟨us,h6,h7⟩:=Option.bind_eq_some_iff.1 h5
     refine⟨us,fun j u hj=> ?_,read hB fuel e us _ h1 h7, ?_⟩
     ·obtain⟨_,g1,g2⟩:=World.cells?_some h6
      have hj':j<us.length:=(QRq.1 hj).1
      have:=g2 j (by omega)
      rw[Addr.add_add,h3,hj]at this
      exact this
     ·have:=World.cells?_block h6 (by omega)
      rwa[Qpw]at this
    obtain⟨xs,bls,x1,x2,x3,x4,x5⟩:=QB4 (w:=w) (ts:=(ty e).ts) (a:=a) len fun i hi=>by
     obtain⟨us,c1,c2,_⟩:=each i hi
     exact⟨us,c1,c2⟩
    by_cases h0:len=0
    ·subst h0
     have x1:xs=[]:=QRx x1
     exact Rd.cons (a:=(show Val (.sl (ty e).ts)from([]:List (Ql (ty e).ts)))) (b1:=[]) ⟨some a,cap,rfl,⟨Nat.zero_le _,fun h=>by cases h⟩, .inl ⟨rfl,rfl⟩⟩ ⟨by simp[vl],by simp[vl]⟩ (by simp) Rd.nil
    ·refine Rd.cons (a:=(show Val (.sl (ty e).ts)from xs)) (b1:=a.block::bls.flatten) ⟨some a,cap,by rw[show(vl (show Val (.sl (ty e).ts)from xs)).length=len from x1],⟨by rw[show(vl (show Val (.sl (ty e).ts)from xs)).length=len from x1];exact hl,fun h=>by cases h⟩, .inr ⟨a,bls,rfl,rfl,by rw[x2];exact x1.symm,x5⟩⟩ ⟨by rw[show(vl (show Val (.sl (ty e).ts)from xs)).length=len from x1];omega,x3⟩ (fun b hb=> ?_) Rd.nil
     rcases QRk.1 hb with h|h
     ·obtain⟨_,_,_,h7⟩:=each 0 (by omega)
      rw[h];exact h7
     ·exact x4 b h
  ·rename_i fs hu
   simp only[QQ5,QY13]at hb
   obtain⟨⟨_,h2⟩,h3⟩:=hb
   obtain⟨xs,n,hn,_,hl,hx,hf⟩:=DataW.trod_struct hu h
   obtain rfl:fuel=n:=by omega
   have:=Qrn (read hB fuel) cs fs.toList 0 (ty T).ts h3 (fun f hfm=>by
    obtain⟨i,hi,he⟩:=List.mem_iff_getElem.1 hfm
    have h5:=hf i f (by rw[Array.getElem?_eq_getElem (by simpa using hi)];simpa using he)
    exact⟨xs[i]'(by rw[hx];simpa using hi),by rw[h5,QRp]⟩) (by omega)
   rwa[QRg]at this
  ·cases hb
end
end Go.Eng
namespace Go.Eng
open Go Go.RowKit
set_option linter.unusedVariables false
def Qzs (ty:Nat->TI):List TypeId->List PSig->Bool
 | [],[]=>true
 |T::Ts, .val a cs::ps=>(ty T).ok&&(a==(ty T).agg)&&cs.all (fun c=>c.1.QT)&&QiO (ju cs) (ty T).ts&&Qzs ty Ts ps
 |_,_=>false
section
variable {H:Type}{enc:TypeId×Value->H}{P:Program}{w:World}{sp:Nat->Bool}{held:Bool}{ty:Nat->TI}
theorem QCp {R:Nat->Prop}(hR:∀b,b<w.heap.size->R b):(cs:List (Mode×Ty))->(us:List Value)->cs.all (fun c=>c.1.QT)=true->Rd w (ju cs) us->∃x:Ql (ju cs),qK (ju cs) x/\∃bls,bls.flatten=[]/\Qbv w R cs (unpack _ x) us bls
 | [],us,_,⟨x,bl,⟨h,_⟩,_,_⟩=>⟨(),trivial,[],rfl,rfl,h,rfl⟩
 |(.ro,t)::l,us,h,hr=>by
  simp only[QY25,QQ5]at h
  obtain⟨u,us',a,b1,rfl,h1,h2,h3,h4⟩:=Rd.uncons (ts:=ju l) hr
  obtain⟨x,f1,bls,e1,c1⟩:=QCp hR l us' h.2 h4
  refine⟨(vmk a x:Ql (.cons t (ju l))),⟨by rw[QnH];exact h2,by rw[Qnq];exact f1⟩,[]::bls,by simp[e1],⟨t,a⟩,unpack _ x,u,us',[],bls, ?_,rfl,rfl,⟨rfl, ?_⟩,c1⟩
  ·show(⟨t,vhd (vmk a x)⟩:TV)::unpack (ju l) (vtl (vmk a x))=_
   rw[QnH,Qnq]
  ·have:takes .ro t=false:=by simp[takes,Mode.QT]
   rw[this]
   exact⟨rfl,b1,h1,fun c hc=>hR c (h3 c hc)⟩
 |(.mut,t)::l,us,h,hr=>by simp[Mode.QT]at h
 |(.own,t)::l,us,h,hr=>by simp[Mode.QT]at h
 |(.junk,t)::l,us,h,hr=>by simp[Mode.QT]at h
theorem QuN:(a b:Tys)->(x:Ql a)->(y:Ql b)->∃z:Ql (a.app b),unpack _ z=unpack _ x++unpack _ y/\(qK a x->qK b y->qK (a.app b) z)
 | .nil,b,x,y=>⟨y,rfl,fun _ h=>h⟩
 | .cons t ts,b,x,y=>by
   obtain⟨z,h1,h2⟩:=QuN ts b (vtl x) y
   refine⟨(vmk (vhd x) z:Ql (.cons t (ts.app b))), ?_,fun hx hy=>⟨?_, ?_⟩⟩
   ·show(⟨t,vhd (vmk (vhd x) z)⟩:TV)::unpack (ts.app b) (vtl (vmk (vhd x) z))=_
    rw[QnH,Qnq,h1];rfl
   ·rw[QnH];exact hx.1
   ·rw[Qnq];exact h2 hx.2 hy
theorem QBp {base:Nat}{T:TypeId}{v:Value}(hok:(ty T).ok=true) (hB:rdB P ty T (ty T)=true) (h:Value.okWide P w .any base T v):(if(ty T).agg then v= .agg v.cells.toList.toArray else v.cells.toList=[v]):=by
 simp only[rdB,hok,QQ3,Bool.false_or]at hB
 unfold Value.okWide at h
 split at hB
 ·rename_i k hu
  simp only[QQ5,QY10]at hB
  rw[hu]at h
  simp only[Cell.okWide,Cell.ok,hu]at h
  rw[hB.1]
  cases v<;>simp_all[Value.cells]
 ·rename_i hu
  simp only[QQ5,QY10]at hB
  rw[hu]at h
  simp only[Cell.okWide,Cell.ok,hu]at h
  rw[hB.1]
  cases v<;>simp_all[Value.cells]
 ·rename_i hu
  simp only[QQ5,QY10]at hB
  rw[hu]at h
  simp only[Cell.okWide,Cell.ok,hu]at h
  rw[hB.1]
  cases v<;>simp_all[Value.cells]
 ·rename_i e hu
  simp only[QQ5,QY10]at hB
  rw[hu]at h
  simp only[Cell.okWide,Cell.ok,hu]at h
  rw[hB.1.1.1.1]
  cases v<;>simp_all[Value.cells]
 ·rename_i fs hu
  simp only[QQ5]at hB
  rw[hu]at h
  obtain⟨cs,rfl,_⟩:=h
  rw[hB.1.1]
  simp[Value.cells]
 ·cases hB
theorem QyM {base:Nat}{R:Nat->Prop}(hR:∀b,b<w.heap.size->R b) (hB:∀T,rdB P ty T (ty T)=true):(Ts:List TypeId)->(ps:List PSig)->(vs:List Value)->(ds:List (DataW H))->(p:List MemPlace)->Qzs ty Ts ps=true->DataW.TrodAll enc P w 0 sp held Ts vs ds p->
 (∀(j:Nat) t v,Ts[j]? =some t->vs[j]? =some v->Value.okWide P w .any base t v)->∃a:Ql (QoL ps),qK _ a/\∃bls,bls.flatten=[]/\Qcs w R ps (unpack _ a) vs [] bls
 | [],[],[],[],p,_,_,_=>⟨(),trivial,[],rfl,rfl,rfl,rfl,rfl⟩
 | [],[],_::_,_,p,_,h,_=>by cases h
 | [],[],[],_::_,p,_,h,_=>by cases h
 | [],_::_,_,_,p,h,_,_=>by cases h
 |_::_,[],_,_,p,h,_,_=>by cases h
 |_::_, .ptr _::_,_,_,p,h,_,_=>by cases h
 |_::_, .fn _ _::_,_,_,p,h,_,_=>by cases h
 |_::_, .val _ _::_,[],_,p,_,h,_=>by cases h
 |_::_, .val _ _::_,_::_,[],p,_,h,_=>by cases h
 |T::Ts, .val a cs::ps,v::vs,d::ds,p,h,ht,hval=>by
  simp only[Qzs,QQ5,beq_iff_eq]at h
  obtain⟨⟨⟨⟨h1,h2⟩,h3⟩,h4⟩,h5⟩:=h
  obtain⟨p1,q1,⟨fuel,k1⟩,k2,_⟩:=ht
  have r:=read hB fuel T _ _ h1 k1
  rw[<-vn h4]at r
  obtain⟨x,f1,b1,e1,c1⟩:=QCp hR cs _ h3 r
  obtain⟨y,f2,b2,e2,c2⟩:=QyM hR hB Ts ps vs ds q1 h5 k2 (fun j t v hj hv=>hval (j+1) t v (by simpa using hj) (by simpa using hv))
  obtain⟨z,g1,g2⟩:=QuN (ju cs) (QoL ps) x y
  refine⟨z,g2 f1 f2,b1++b2,by simp[e1,e2],unpack _ x,unpack _ y,v,vs,[],[],b1,b2,g1,rfl,rfl,rfl,⟨rfl,v.cells.toList, ?_,c1⟩,c2⟩
  have:=QBp h1 (hB T) (hval 0 T v rfl rfl)
  rw[<-h2]at this
  exact this
end
theorem QGH {w w':World}(h:Grow (·∈([]:List Nat)) w w'):Below w.heap.size w w':=⟨h.os,h.tape,h.output,h.size,fun k hk=>h.block k hk (by simp)⟩
def Mode.QsX:Mode->Bool
 | .junk=>true
 |_=>false
theorem QDH {H:Type}{enc:TypeId×Value->H}{P:Program}{E:Env}(hT:XP P E) (hE:EnvCode P E) (hLo:EnvLoops E) (hmix:P.follows .mixedOrders=true) (hB:∀T,rdB P E.ty T (E.ty T)=true) {f:Nat}(hf:E.fok f=true)
 {tys:Tys}(ht:(E.sig f).ins=tys) {m:Mode}(hrs:(E.sig f).rs=[.val false [(m, .bool)]]) (hm:m.QsX=false) (hto:(E.sig f).outs= .cons .bool .nil) (pure:∀a:Ql tys,qK tys a->ap (congrArg Ql ht) (congrArg Ql hto) (W E) a=some (show Ql (.cons .bool .nil)from true))
 {w:World}{sp:Nat->Bool}{held:Bool}{Ts:List TypeId}(hlaw:Qzs E.ty Ts (E.sig f).ps=true) {vs:List Value}{ds:List (DataW H)}{p:List MemPlace}(htr:DataW.TrodAll enc P w 0 sp held Ts vs ds p) {base:Nat}(hval:∀(j:Nat) t v,Ts[j]? =some t->vs[j]? =some v->Value.okWide P w .any base t v) (hgl:E.gg.gl w) (hgb:∀b∈E.gg.gb,b<w.heap.size):
 Calls P (E.real f) vs.toArray w fun e w'=>e= .returned (.bool true)/\Below w.heap.size w w':=by
 subst ht
 obtain⟨a,ha,bls,hbls,hin⟩:=QyM (R:=fun b=>b<w.heap.size) (fun b h=>h) hB Ts _ vs ds p hlaw htr hval
 have hs:=QIs hT hE hLo hmix hf _ _ (pure a ha)
 refine(hs w (fun b=>b<w.heap.size) vs [] bls hgl hgb hin (by simp[hbls]) (by simp[hbls]) (fun b hb=>⟨hb,by simp[hbls]⟩)).mono ?_
 rintro e w' ⟨v,rfl,hgrow,rx,px,rvs,rbs,rbls,pbls,Q,h1,h2,h3,_⟩
 rw[hbls]at hgrow
 refine⟨?_,QGH hgrow⟩
 have hu:unpack (E.sig f).outs (cast (congrArg Ql hto).symm (show Ql (.cons .bool .nil)from true))=[⟨.bool,true⟩]:=by
  have:∀(ts:Tys) (h:ts= .cons .bool .nil),unpack ts (cast (congrArg Ql h).symm (show Ql (.cons .bool .nil)from true))=[⟨.bool,true⟩]:=by
   intro ts h;subst h;rfl
  exact this _ hto
 rw[hu]at h1
 rw[hrs]at h3
 obtain⟨x1,x2,v1,vs',b1,b2,l1,l2,e1,e2,_,_,⟨_,us,hus,hc⟩,hrest⟩:=h3
 obtain⟨e3,e4,_,_⟩:=hrest
 have hus:us=[v1]:=hus
 subst hus e4 e2 e3 h2
 have hfin:∀(x:TV) (xs':List TV) (u:Value) (us':List Value) (bl:List Nat),x1=x::xs'->[v]=u::us'->V0 w' Q m .bool x u bl->v= .bool true:=by
  intro x xs' u us' bl hx hu' ⟨ht,hc⟩
  have:takes m .bool=false:=rfl
  rw[this]at hc
  obtain⟨_,b',hr,_⟩:=hc
  cases hu'
  rw[e1,hx]at h1
  simp only[QRv,List.append_nil]at h1
  obtain⟨rfl,_⟩:=List.cons.inj h1
  exact hr.1
 have:v= .bool true:=by
  cases m
  case junk=>cases hm
  all_goals
   obtain⟨x,xs',u,us',bl,bls',q1,q2,_,q3,_⟩:=hc
   exact hfin x xs' u us' bl q1 q2 q3
 rw[this]
theorem QMC {H:Type}{enc:TypeId×Value->H}{P:Program}{E:Env}(hT:XP P E) (hE:EnvCode P E) (hLo:EnvLoops E) (hmix:P.follows .mixedOrders=true) (hB:∀T,rdB P E.ty T (E.ty T)=true) {f:Nat}(hf:E.fok f=true)
 {tys:Tys}(ht:(E.sig f).ins=tys) {m:Mode}(hrs:(E.sig f).rs=[.val false [(m, .bool)]]) (hm:m.QsX=false) (hto:(E.sig f).outs= .cons .bool .nil) (pure:∀a:Ql tys,qK tys a->ap (congrArg Ql ht) (congrArg Ql hto) (W E) a=some (show Ql (.cons .bool .nil)from true))
 {w:World}{sp:Nat->Bool}{held:Bool}{Ts:List TypeId}(hlaw:Qzs E.ty Ts (E.sig f).ps=true) {vs:List Value}{ds:List (DataW H)}{p:List MemPlace}(htr:DataW.TrodAll enc P w 0 sp held Ts vs ds p) {base:Nat}(hval:∀(j:Nat) t v,Ts[j]? =some t->vs[j]? =some v->Value.okWide P w .any base t v) (hgg:E.gg=Glob.none:=by rfl):
 Calls P (E.real f) vs.toArray w fun e w'=>e= .returned (.bool true)/\Below w.heap.size w w':=
 QDH hT hE hLo hmix hB hf ht hrs hm hto pure hlaw htr hval (by rw[hgg];trivial) (fun b hb=>by rw[hgg]at hb;cases hb)
def ti0:TI:=⟨false,false, .nil,0,0,[],false⟩
theorem QKT {P:Program}{ty:BT TI}(h:ty.all (rdB P (ty.get ti0))=true) (T:Nat):rdB P (ty.get ti0) T (ty.get ti0 T)=true:=by
 rcases BT.Qij (d:=ti0) ty h T with h|h
 ·exact h
 ·rw[h];rfl
theorem QMH {P:Program}{ty:BT TI}(h:ty.all (fun _ i=> !i.eqOk)=true) (T:Nat):QGo P T (ty.get ti0 T):=by
 intro he
 rcases BT.Qij (d:=ti0) ty h T with h|h
 ·rw[he]at h;cases h
 ·rw[h]at he;cases he
theorem BT.Qwr {α:Type}{f:Nat->α->Bool}{p:Nat->α->Prop}(hp:∀k v,f k v=true->p k v):(t:BT α)->t.all f=true->t.Qp0 p
 | .leaf,_=>trivial
 | .node k v l r,h=>by
   simp only[BT.all,QQ5]at h
   exact⟨hp k v h.1.1,BT.Qwr hp l h.1.2,BT.Qwr hp r h.2⟩
theorem QGf {t:BT Func}(h:t.all (fun _ fn=> !(fn.name== "runtime.NumGoroutine"))=true):t.Qp0 fun _ fn=>(fn.name== "runtime.NumGoroutine")=false:=
 BT.Qwr (fun _ _ h=>by simpa using h) t h
theorem QEW {w:World}{Q:Nat->Prop}{m:Mode}(hm:m.QsX=false) (n:Int):Q9 w Q [(m, .int .i64)] [⟨.int .i64,n⟩] [.int .i64 n] [[]]:=by
 cases m
 case junk=>cases hm
 all_goals exact⟨_,_,_,_,_,_,rfl,rfl,rfl,⟨rfl,rfl,[],⟨rfl,rfl⟩,by simp⟩,rfl,rfl,rfl⟩
def Mode.QDG:Mode->Bool
 | .mut=>true
 |_=>false
theorem QsV {w:World}{m:Mode}{t:Ty}(hm:m.QDG=false) (u:Value):QiU w [(m,t)] [u] [] []:=by
 cases m
 all_goals first|(cases hm;done)|exact⟨u,[],rfl,rfl,rfl,rfl⟩
theorem QE3 {P:Program}{gg:Glob}{f:FuncId}{sg:Sig}{m1 m2 m3:Mode}(hps:sg.ps=[.val false [(m1, .str)], .val false [(m2, .str)]]) (hrs:sg.rs=[.val false [(m3, .int .i64)]]) (h3:m3.QsX=false) (h4:m1.QDG=false) (h5:m2.QDG=false)
 (F:ByteArray->ByteArray->Int) (hF:∀a b w,Calls P f #[.string a, .string b] w fun e w'=>e= .returned (.int .i64 (F a b))/\w'=w) (a b:ByteArray):
 Qf1 P gg sg f [⟨.str,a⟩,⟨.str,b⟩] [⟨.int .i64,F a b⟩]:=by
 intro w R vs bs bls hgl hgb hin hnd hlt hR
 rw[hps]at hin
 obtain⟨x1,x2,v,vs',b1,b2,l1,l2,e1,rfl,rfl,rfl,⟨rfl,us,hus,hc⟩,x3,x4,v',vs'',b3,b4,l3,l4,rfl,rfl,rfl,rfl,⟨rfl,us',hus',hc'⟩,rfl,rfl,rfl,rfl⟩:=hin
 obtain⟨x,xs,u,uss,bl,bls,rfl,rfl,rfl,⟨ht,hx⟩,rfl,rfl,rfl⟩:=hc
 obtain⟨y,ys,u',uss',bl',bls',rfl,rfl,rfl,⟨ht',hx'⟩,rfl,rfl,rfl⟩:=hc'
 have e1:([⟨.str,a⟩,⟨.str,b⟩]:List TV)=[x,y]:=e1
 have hx:bl=[]/\∃b',Rep w x.t x.v u b'/\∀c∈b',R c:=hx
 have hx':bl'=[]/\∃b',Rep w y.t y.v u' b'/\∀c∈b',R c:=hx'
 have hus: [u]=[v]:=hus
 have hus': [u']=[v']:=hus'
 cases hus;cases hus';cases e1
 obtain⟨rfl,_,⟨rfl,_⟩,_⟩:=hx
 obtain⟨rfl,_,⟨rfl,_⟩,_⟩:=hx'
 refine(hF a b w).mono ?_
 rintro e w' ⟨rfl,rfl⟩
 refine⟨_,rfl,Grow.refl _ _,[⟨.int .i64,F a b⟩],[],[.int .i64 (F a b)],[],[[]],[],fun _=>False,rfl,rfl, ?_, ?_,by simp,by simp,by simp⟩
 ·rw[hrs]
  exact⟨[⟨.int .i64,F a b⟩],[],_,[],[],[],[[]],[],rfl,rfl,rfl,rfl,⟨rfl,[.int .i64 (F a b)],rfl,QEW h3 _⟩,rfl,rfl,rfl,rfl⟩
 ·rw[hps]
  exact⟨_,_,[],[],[],[],rfl,rfl,rfl,⟨_,rfl,QsV h4 _⟩,_,_,[],[],[],[],rfl,rfl,rfl,⟨_,rfl,QsV h5 _⟩,rfl,rfl,rfl⟩
end Go.Eng
namespace Go.Eng
open Go
theorem w64 {n:Int}(h1: -9223372036854775808<=n) (h2:n<=9223372036854775807):wR n=n:=IntWalk.i64_in n ⟨h1,h2⟩
theorem QIp (i n:Nat):inb (i:Int) n=decide (i<n):=by
 unfold inb
 by_cases h:i<n
 ·simp[h]
 ·simp[h]
theorem Qj {i n:Nat}(h:i<n):inb (i:Int) n=true:=by rw[QIp];simpa using h
theorem Qf {α:Type}{d:α}{xs:List α}{i:Nat}(h:i<xs.length):rd1 d xs (i:Int)=xs[i]:=by
 unfold rd1
 rw[QRb]
 simp[List.getD,QRp h]
theorem ilt {i n:Nat}(h:i<n):decide ((i:Int)<(n:Int))=true:=by simp[h]
theorem Qo (n:Nat):decide ((n:Int)<(n:Int))=false:=by simp
theorem inc {i n:Nat}(h:i<n) (hn:n<=maxLen):wR ((i:Int)+1)=((i+1:Nat):Int):=by
 rw[w64]<;>simp[maxLen]at hn<;>omega
theorem Qw {n b:Nat}(h:n*b<=140737488351232):fits n b=true:=by simp[fits,h]
theorem VY {α β R:Type}(xs:List α) (f:α->β) (K:Nat->List β->Option R) (fin:List β->R)
 (hstep:∀i (h:i<xs.length) (out:List β) r,out.length=xs.length->K (i+1) (out.set i (f xs[i]))=some r->K i out=some r)
 (hend:∀out:List β,out.length=xs.length->K xs.length out=some (fin out)) (out:List β) (ho:out.length=xs.length):K 0 out=some (fin (xs.map f)):=by
 have main:∀n i (out:List β),i+n=xs.length->out.length=xs.length->out.take i=(xs.map f).take i->K i out=some (fin (xs.map f)):=by
  intro n
  induction n with
  |zero=>
   intro i out hi ho ht
   have:i=xs.length:=by omega
   subst this
   rw[hend out ho]
   rw[List.take_of_length_le (by omega),List.take_of_length_le (by simp)]at ht
   rw[ht]
  |succ n ih=>
   intro i out hi ho ht
   refine hstep i (by omega) out _ ho (ih (i+1) _ (by omega) (by simp[ho]) ?_)
   rw[List.take_add_one,List.take_add_one,List.take_set_of_le (QY1 i),ht,List.getElem?_set_self (by omega)]
   simp[show i<xs.length by omega]
 exact main xs.length 0 out (by omega) ho (by simp)
theorem QBG (b:ByteArray):∀n i (r:List UInt8),i+n=b.size->ByteArray.toList.loop b i r=r.reverse++b.data.toList.drop i:=by
 intro n
 induction n with
 |zero=>
  intro i r hi
  unfold ByteArray.toList.loop
  have hs:b.data.toList.length=b.size:=Array.length_toList
  rw[if_neg (by omega),List.drop_of_length_le (by omega),List.append_nil]
 |succ n ih=>
  intro i r hi
  unfold ByteArray.toList.loop
  rw[if_pos (by omega),ih (i+1) _ (by omega)]
  have hs0:b.data.toList.length=b.size:=Array.length_toList
  have hs:i<b.data.toList.length:=by omega
  rw[QRa hs]
  have:b.get! i=b.data.toList[i]:=by
   have hsz:i<b.data.size:=by simpa using hs
   show b.data[i]! =_
   rw[getElem!_pos b.data i hsz]
   simp
  rw[this]
  simp
theorem toList_data (b:ByteArray):b.toList=b.data.toList:=by
 unfold ByteArray.toList
 rw[QBG b b.size 0 [] (by omega)]
 simp
theorem QB1 (a b:ByteArray):V1 a b=decide (a=b):=by
 unfold V1
 rw[toList_data,toList_data]
 by_cases h:a=b
 ·subst h;simp
 ·have:¬a.data.toList=b.data.toList:=fun e=>h (by
   cases a;cases b
   exact congrArg ByteArray.mk (Array.toList_inj.1 e))
  rw[decide_eq_false h]
  exact beq_eq_false_iff_ne.2 this
theorem QB0 {α:Type} [DecidableEq α] (a b:List α) (hl:a.length=b.length) (K:Nat->Option (Bool⊕Unit))
 (hne:∀i (h1:i<a.length) (h2:i<b.length),a[i]≠b[i]->K i=some (.inl false))
 (heq:∀i (h1:i<a.length) (h2:i<b.length) r,a[i]=b[i]->K (i+1)=some r->K i=some r)
 (hend:K a.length=some (.inr ())):K 0=some (if a=b then .inr ()else .inl false):=by
 have main:∀n i,i+n=a.length->K i=some (if a.drop i=b.drop i then .inr ()else .inl false):=by
  intro n
  induction n with
  |zero=>
   intro i hi
   have:i=a.length:=by omega
   subst this
   rw[hend,QRl,hl,QRl,if_pos rfl]
  |succ n ih=>
   intro i hi
   have h1:i<a.length:=by omega
   have h2:i<b.length:=by omega
   rw[QRa h1,QRa h2]
   by_cases hx:a[i]=b[i]
   ·refine heq i h1 h2 _ hx ?_
    rw[ih (i+1) (by omega),hx]
    simp only[List.cons.injEq,true_and]
   ·rw[hne i h1 h2 hx]
    simp only[List.cons.injEq,hx,false_and,if_false]
 have:=main a.length 0 (by omega)
 simpa only[QRg]using this
def Qu {α:Type}(f:α->Int->α) (c:α->Nat):List α->Int->List α
 | [],_=>[]
 |x::l,k=>f x k::Qu f c l (k+c x)
def Qi {α:Type}(c:α->Nat):List α->Nat
 | []=>0
 |x::l=>c x+Qi c l
theorem XV {α:Type}(f:α->Int->α) (c:α->Nat):(l:List α)->(k:Int)->(Qu f c l k).length=l.length
 | [],_=>rfl
 |x::l,k=>by simp[Qu,XV f c l]
theorem Kl {α R:Type}(f:α->Int->α) (c:α->Nat) (xs:List α) (K:Int->Nat->List α->Option R) (fin:Int->List α->R) (B:Int)
 (hstep:∀k i (ys:List α) (h:i<ys.length) r,ys.length=xs.length->ys[i]∈xs->0<k->k+c ys[i]<=B->K (k+c ys[i]) (i+1) (ys.set i (f ys[i] k))=some r->K k i ys=some r)
 (hend:∀k ys,ys.length=xs.length->K k xs.length ys=some (fin k ys)) (k:Int) (hk:0<k) (hB:k+Qi c xs<=B):K k 0 xs=some (fin (k+Qi c xs) (Qu f c xs k)):=by
 have main:∀(rest pre:List α) (k:Int),(pre++rest).length=xs.length->(∀y∈rest,y∈xs)->0<k->k+Qi c rest<=B->K k pre.length (pre++rest)=some (fin (k+Qi c rest) (pre++Qu f c rest k)):=by
  intro rest
  induction rest with
  |nil=>
   intro pre k hl hm hk hB
   have hl':pre.length=xs.length:=by simpa using hl
   rw[hl',hend _ _ hl]
   simp[Qi,Qu]
  |cons x rest ih=>
   intro pre k hl hm hk hB
   have hi:pre.length<(pre++x::rest).length:=by simp
   have hx:(pre++x::rest)[pre.length]=x:=by simp
   simp only[Qi,Int.natCast_add]at hB
   refine hstep k pre.length _ hi _ hl (by rw[hx];exact hm x (by simp)) hk (by rw[hx];omega) ?_
   rw[hx]
   have e:(pre++x::rest).set pre.length (f x k)=(pre++[f x k])++rest:=by simp
   rw[e]
   have:=ih (pre++[f x k]) (k+c x) (by simp at hl⊢; omega) (fun y hy=>hm y (by simp[hy])) (by omega) (by omega)
   rw[show(pre++[f x k]).length=pre.length+1 by simp]at this
   rw[this]
   simp[Qi,Qu,Int.add_assoc]
 exact main xs [] k (by simp) (fun y hy=>hy) hk hB
theorem Kq {α:Type}(f:α->Int->α) (c:α->Nat) (xs:List α) (k0:Int) (K:Int->Nat->Option (Int⊕Int)) (B:Int)
 (hstep:∀k i (h:i<(Qu f c xs k0).length) x r,x∈xs->(Qu f c xs k0)[i]=f x k->0<k->k+c x<=B->K (k+c x) (i+1)=some r->K k i=some r)
 (hend:∀k,K k xs.length=some (.inr k)) (hk:0<k0) (hB:k0+Qi c xs<=B):K k0 0=some (.inr (k0+Qi c xs)):=by
 have main:∀(n i:Nat) (k:Int),i+n=xs.length->(Qu f c xs k0).drop i=Qu f c (xs.drop i) k->0<k->k+Qi c (xs.drop i)<=B->K k i=some (.inr (k+Qi c (xs.drop i))):=by
  intro n
  induction n with
  |zero=>
   intro i k hi hd hk hB
   have:i=xs.length:=by omega
   subst this
   rw[hend,QRl];simp[Qi]
  |succ n ih=>
   intro i k hi hd hk hB
   have h1:i<xs.length:=by omega
   have h2:i<(Qu f c xs k0).length:=by rw[XV];exact h1
   rw[QRa h1]at hd hB⊢
   rw[QRa h2]at hd
   simp only[Qu,List.cons.injEq]at hd
   simp only[Qi,Int.natCast_add]at hB⊢
   refine hstep k i h2 xs[i] _ (QRf h1) hd.1 hk (by omega) ?_
   rw[ih (i+1) (k+c xs[i]) (by omega) hd.2 (by omega) (by omega)]
   congr 2;omega
 have:=main xs.length 0 k0 (by omega) (by simp) hk (by simpa using hB)
 simpa using this
def szR (n:Nat) (l:Int):Int⊕Int:=if(n:Int)<=l then .inr (l - n)else .inl (-1)
theorem Qv0 {n:Nat}{l:Int}(h:(n:Int)<=l):szR n l= .inr (l - n):=if_pos h
theorem Qwi {n:Nat}{l:Int}(h:¬(n:Int)<=l):szR n l= .inl (-1):=if_neg h
theorem QFs {α:Type}(c:α->Nat) (x:α) (l:List α):Qi c (x::l)=c x+Qi c l:=rfl
theorem Qif {α:Type}(s:α->Nat) (xs:List α) (K:Int->Nat->Option (Int⊕Int)) (B:Int)
 (hin:∀l i (h:i<xs.length) r,0<=l->l<=B->(s xs[i]:Int)<=l->K (l - s xs[i]) (i+1)=some r->K l i=some r)
 (hout:∀l i (h:i<xs.length),0<=l->l<=B->¬(s xs[i]:Int)<=l->K l i=some (.inl (-1)))
 (hend:∀l,K l xs.length=some (.inr l)) (l:Int) (h0:0<=l) (hB:l<=B):K l 0=some (szR (Qi s xs) l):=by
 have main:∀(n i:Nat) (l:Int),i+n=xs.length->0<=l->l<=B->K l i=some (szR (Qi s (xs.drop i)) l):=by
  intro n
  induction n with
  |zero=>
   intro i l hi h0 hB
   have:i=xs.length:=by omega
   subst this
   rw[hend,QRl,Qv0 (show((Qi s []:Nat):Int)<=l from h0)]
   simp[Qi]
  |succ n ih=>
   intro i l hi h0 hB
   have h1:i<xs.length:=by omega
   rw[QRa h1,QFs]
   by_cases hs:(s xs[i]:Int)<=l
   ·refine hin l i h1 _ h0 hB hs ?_
    rw[ih (i+1) _ (by omega) (by omega) (by omega)]
    by_cases h2:(Qi s (xs.drop (i+1)):Int)<=l - s xs[i]
    ·rw[Qv0 h2,Qv0 (by omega)];congr 2;omega
    ·rw[Qwi h2,Qwi (by omega)]
   ·rw[hout l i h1 h0 hB hs,Qwi (by omega)]
 have:=main xs.length 0 l (by omega) h0 hB
 simpa only[QRg]using this
theorem Xz {α:Type}(c:α->Nat):(l:List α)->(i:Nat)->(h:i<l.length)->c l[i]<=Qi c l
 |x::l,0,_=>by simp[Qi]
 |x::l,i+1,h=>by
  have:=Xz c l i (by simpa using h)
  simp only[List.getElem_cons_succ,Qi];omega
theorem Y0 {α:Type}(c:α->Nat) {l:List α}{x:α}(h:x∈l):c x<=Qi c l:=by
 obtain⟨i,hi,rfl⟩:=List.mem_iff_getElem.1 h
 exact Xz c l i hi
def szI (n:Nat) (l:Int):Int:=if(n:Int)<=l then l - n else -1
theorem Vp {n:Nat}{l:Int}(h:(n:Int)<=l):szI n l=l - n:=if_pos h
theorem KQ {n:Nat}{l:Int}(h:¬(n:Int)<=l):szI n l= -1:=if_neg h
theorem Qd3 (n:Nat) (l:Int):Qp (szR n l) (fun u=>some u) (fun z=>some z)=some (szI n l):=by
 unfold szR szI;split<;>rfl
theorem VL {R:Type}(n:Nat) (K:Nat->Option R) (o:R) (hstep:∀i,i<n->∀r,K (i+1)=some r->K i=some r) (hend:K n=some o):K 0=some o:=by
 have main:∀m i,i+m=n->K i=some o:=by
  intro m
  induction m with
  |zero=>intro i hi;have:i=n:=by omega
         rw[this];exact hend
  |succ m ih=>intro i hi;exact hstep i (by omega) _ (ih (i+1) (by omega))
 exact main n 0 (by omega)
theorem df {p:Prop} [Decidable p] (h:¬p):decide p=false:=decide_eq_false h
theorem dt {p:Prop} [Decidable p] (h:p):decide p=true:=decide_eq_true h
theorem QY (a:ByteArray):V1 a a=true:=by rw[QB1];simp
theorem ZJ {n m:Nat}{l:Int}{X:Option Int}{f:Int->Option Int}(h0:0<=l) (hX:X=some (szI n l)) (hf:(n:Int)<=l->f (l - n)=some (szI m (l - n))):(X.bind fun r=>bif decide (r<0)then some (-1)else f r)=some (szI (n+m) l):=by
 rw[hX,QQ0]
 by_cases h:(n:Int)<=l
 ·rw[Vp h,df (by omega),QQ2,hf h]
  by_cases h2:(m:Int)<=l - n
  ·rw[Vp h2,Vp (by omega)];congr 1;omega
  ·rw[KQ h2,KQ (by omega)]
 ·rw[KQ h,dt (by omega),QQ1,KQ (by omega)]
theorem Ky {l:Int}(h:0<=l):some l=some (szI 0 l):=by rw[Vp (by simpa using h)];simp
theorem zd {n m:Nat}{l:Int}{f:Option Int}(h0:0<=l) (hB:l<=1048576) (hn:n<=maxLen) (hf:(n:Int)<=l->f=some (szI m (l - n))):(bif decide (wR (l - n)<0)then some (-1)else f)=some (szI (n+m) l):=by
 simp only[maxLen]at hn
 rw[w64 (by omega) (by omega)]
 by_cases h:(n:Int)<=l
 ·rw[df (by omega),QQ2,hf h]
  by_cases h2:(m:Int)<=l - n
  ·rw[Vp h2,Vp (by omega)];congr 1;omega
  ·rw[KQ h2,KQ (by omega)]
 ·rw[dt (by omega),QQ1,KQ (by omega)]
theorem Q5 {R:Type}(n:Nat) (K:Nat->Option R) (M:Nat->R) (hstep:∀i,i<n->K (i+1)=some (M (i+1))->K i=some (M i)) (hend:K n=some (M n)):K 0=some (M 0):=by
 have main:∀m i,i+m=n->K i=some (M i):=by
  intro m
  induction m with
  |zero=>intro i hi;have:i=n:=by omega
         rw[this];exact hend
  |succ m ih=>intro i hi;exact hstep i (by omega) (ih (i+1) (by omega))
 exact main n 0 (by omega)
theorem Xd {S R:Type}(n:Nat) (K:Nat->S->Option R) (M:Nat->S->R) (Inv:Nat->S->Prop) (hstep:∀i,i<n->∀s,Inv i s->(∀s',Inv (i+1) s'->K (i+1) s'=some (M (i+1) s'))->K i s=some (M i s)) (hend:∀s,Inv n s->K n s=some (M n s)) (s:S) (hs:Inv 0 s):K 0 s=some (M 0 s):=by
 have main:∀m i,i+m=n->∀s,Inv i s->K i s=some (M i s):=by
  intro m
  induction m with
  |zero=>intro i hi s hs;have:i=n:=by omega
         subst this;exact hend s hs
  |succ m ih=>intro i hi s hs;exact hstep i (by omega) s hs (ih (i+1) (by omega))
 exact main n 0 (by omega) s hs
theorem Qqp {i:Nat}(h:0<i) (hn:i<=maxLen):wR ((i:Int) - 1)=((i - 1:Nat):Int):=by
 simp only[maxLen]at hn
 rw[w64 (by omega) (by omega)];omega
theorem ipos {i:Nat}(h:0<i):decide ((0:Int)<(i:Int))=true:=by simp[h]
theorem QoA:decide ((0:Int)<((0:Nat):Int))=false:=by simp
theorem Y6 {α:Type}{d v:α}{xs:List α}{i:Nat}(h:i<xs.length):rd1 d (xs.set i v) (i:Int)=v:=by
 rw[Qf (by simpa using h)];simp
theorem QpT (l:List Int):ByteArray.size (Y8 l)=l.length:=by
 simp[Y8,ByteArray.size]
theorem Qel {α:Type}(c s:α->Nat) (h:∀x,c x<=64*(s x+1)) (a:List α):Qi c a<=64*(a.length+Qi s a):=by
 induction a with
 |nil=>simp[Qi]
 |cons x l ih=>
  have:=h x
  simp only[Qi,QY8];omega
theorem Qge {α:Type}(c:α->Nat) (h:∀x,c x<=64) (a:List α):Qi c a<=64*a.length:=by
 induction a with
 |nil=>simp[Qi]
 |cons x l ih=>
  have:=h x
  simp only[Qi,QY8];omega
theorem ZX {β:Type}{i n:Nat}(h:i<n) (f:Nat->List β):(List.range' i (n - i)).flatMap f=f i++(List.range' (i+1) (n - (i+1))).flatMap f:=by
 rw[show n - i=(n - (i+1))+1 by omega,List.range'_succ]
 simp
theorem Vl {α R:Type}(xs:List α) (K:Nat->List α->Option R) (fin:List α->R)
 (hstep:∀i (h:i<xs.length) (out:List α) r,out.length=i->K (i+1) (out++[xs[i]])=some r->K i out=some r)
 (hend:∀out:List α,out.length=xs.length->K xs.length out=some (fin out)):K 0 []=some (fin xs):=by
 have e:=Xd xs.length K (fun i s=>fin (s++xs.drop i)) (fun i s=>s.length=i)
  (fun i hi s hs ih=>by
    refine hstep i hi s _ hs ?_
    rw[ih (s++[xs[i]]) (by simp[hs]),QRa hi]
    simp)
  (fun s hs=>by rw[hend s hs];simp)
  [] rfl
 simpa using e
end Go.Eng
