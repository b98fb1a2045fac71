/- A meaning of the translated functions in plain typed values, and its soundness, part 4. No conditions. -/
import Derived.Test.YtiejfnbmficbmaaGreatEng3
import Derived.DataReads
import Derived.ChangeArms
import Derived.ChangeOld
import Derived.DataElems
import Derived.Below
import Derived.IntWalk
import GoSem.ClaimData
set_option linter.all false
namespace Go.Eng
open Go
set_option linter.unusedVariables false
def Evt (p:Nat->Prop):Prop:=∃N,∀n,N<=n->p n
theorem Evt.of {p:Nat->Prop}(h:∀n,p n):Evt p:=⟨0,fun n _=>h n⟩
theorem Evt.and {p q:Nat->Prop}(h:Evt p) (h':Evt q):Evt fun n=>p n/\q n:=
 let⟨N,g⟩:=h;let⟨M,g'⟩:=h';⟨max N M,fun n hn=>⟨g n (Nat.le_trans (Nat.le_max_left _ _) hn),g' n (Nat.le_trans (Nat.le_max_right _ _) hn)⟩⟩
theorem Evt.mono {p q:Nat->Prop}(h:Evt p) (hpq:∀n,p n->q n):Evt q:=let⟨N,g⟩:=h;⟨N,fun n hn=>hpq n (g n hn)⟩
theorem Evt.QCM {p q r:Nat->Prop}(h:Evt p) (h':Evt q) (hpq:∀n,p n->q n->r n):Evt r:=(h.and h').mono fun n ⟨a,b⟩=>hpq n a b
theorem Evt.succ {p:Nat->Prop}(h:Evt fun n=>p (n+1)):Evt p:=by
 obtain⟨N,g⟩:=h
 refine⟨N+1,fun n hn=> ?_⟩
 obtain⟨m,rfl⟩:∃m,n=m+1:=⟨n - 1,by omega⟩
 exact g m (by omega)
theorem Evt.here {p:Nat->Prop}(h:Evt p):∃n,p n:=let⟨N,g⟩:=h;⟨N,g N (QY1 N)⟩
def Ct {β:Type}(x:Option β) (X:Nat->Option β):Prop:=∀o,x=some o->Evt fun n=>X n=some o
theorem Ct.none {β:Type}{X:Nat->Option β}:Ct none X:=fun o h=>by cases h
theorem Ct.same {β:Type}(x:Option β):Ct x fun _=>x:=fun o h=>Evt.of fun _=>h
theorem Ct.bind {α β:Type}{x:Option α}{X:Nat->Option α}{f:α->Option β}{F:Nat->α->Option β}(h:Ct x X) (h':∀a,Ct (f a) fun n=>F n a):Ct (x.bind f) fun n=>(X n).bind (F n):=by
 intro o ho
 cases x with
 |none=>cases ho
 |some a=>exact(h a rfl).QCM (h' a o ho) fun n e e'=>show(X n).bind (F n)=some o from by rw[e];exact e'
theorem Ct.cond {β:Type}{b:Bool}{x y:Option β}{X Y:Nat->Option β}(h:Ct x X) (h':Ct y Y):Ct (bif b then x else y) fun n=>bif b then X n else Y n:=by
 cases b
 ·exact h'
 ·exact h
inductive RPC {γ:Type}:RP γ->(Nat->RP γ)->Prop
 |ret (x:γ):RPC (.ret x) fun _=> .ret x
 |fail {p:Nat->RP γ}:RPC .fail p
 |XX (i:Nat) {f:Cell->RP γ}{F:Nat->Cell->RP γ}(h:∀c,RPC (f c) fun n=>F n c):RPC (.XX i f) fun n=> .XX i (F n)
 |VN (i:Nat) (c:Cell) {p:RP γ}{q:Nat->RP γ}(h:RPC p q):RPC (.VN i c p) fun n=> .VN i c (q n)
 |getC (r k:Nat) {f:Con->RP γ}{F:Nat->Con->RP γ}(h:∀c,RPC (f c) fun n=>F n c):RPC (.getC r k f) fun n=> .getC r k (F n)
 |setC (r k:Nat) (c:Con) {p:RP γ}{q:Nat->RP γ}(h:RPC p q):RPC (.setC r k c p) fun n=> .setC r k c (q n)
 |getI (r k:Nat) {f:Con->RP γ}{F:Nat->Con->RP γ}(h:∀c,RPC (f c) fun n=>F n c):RPC (.getI r k f) fun n=> .getI r k (F n)
 |setV (r k:Nat) (x:TV) {p:RP γ}{q:Nat->RP γ}(h:RPC p q):RPC (.setV r k x p) fun n=> .setV r k x (q n)
 |getB (r:Nat) {f:Nat×Nat->RP γ}{F:Nat->Nat×Nat->RP γ}(h:∀c,RPC (f c) fun n=>F n c):RPC (.getB r f) fun n=> .getB r (F n)
 |setB (r:Nat) (g:Nat×Nat) {p:RP γ}{q:Nat->RP γ}(h:RPC p q):RPC (.setB r g p) fun n=> .setB r g (q n)
 |br (b:Bool) {p p':RP γ}{q q':Nat->RP γ}(h:RPC p q) (h':RPC p' q'):RPC (.br b p p') fun n=> .br b (q n) (q' n)
 |brT (i:Nat) {p p':RP γ}{q q':Nat->RP γ}(h:RPC p q) (h':RPC p' q'):RPC (.brT i p p') fun n=> .brT i (q n) (q' n)
 |brG (i:Nat) (w:Bool) {p p':RP γ}{q q':Nat->RP γ}(h:RPC p q) (h':RPC p' q'):RPC (.brG i w p p') fun n=> .brG i w (q n) (q' n)
 |call (ts:Tys) {o:Option (Qe ts)}{O:Nat->Option (Qe ts)}{f:Qe ts->RP γ}{F:Nat->Qe ts->RP γ}(ho:Ct o O) (h:∀x,RPC (f x) fun n=>F n x):RPC (.call ts o f) fun n=> .call ts (O n) (F n)
theorem RPC.ev {γ β:Type}{p:RP γ}{q:Nat->RP γ}(h:RPC p q):∀(s:St) (K:γ->St->Option β) (KK:Nat->γ->St->Option β),(∀x s,Ct (K x s) fun n=>KK n x s)->Ct (p.ev s K) fun n=>(q n).ev s (KK n):=by
 induction h with
 |ret x=>intro s K KK hK;exact hK x s
 |fail=>intro s K KK hK;exact Ct.none
 |XX i h ih=>intro s K KK hK;exact ih _ s K KK hK
 |VN i c h ih=>intro s K KK hK;exact Ct.cond (ih _ K KK hK) Ct.none
 |getC r k h ih=>intro s K KK hK;exact ih _ s K KK hK
 |setC r k c h ih=>intro s K KK hK;exact ih _ K KK hK
 |getI r k h ih=>intro s K KK hK;exact ih _ s K KK hK
 |setV r k x h ih=>intro s K KK hK;exact ih _ K KK hK
 |getB r h ih=>intro s K KK hK;exact ih _ s K KK hK
 |setB r g h ih=>intro s K KK hK;exact ih _ K KK hK
 |br b h h' ih ih'=>intro s K KK hK;exact Ct.cond (ih s K KK hK) (ih' s K KK hK)
 |brT i h h' ih ih'=>
  intro s K KK hK
  simp only[RP.ev]
  cases Q7 (s.gT i)with
  |none=>exact Ct.none
  |some b=>exact Ct.cond (ih _ K KK hK) (ih' _ K KK hK)
 |brG i w h h' ih ih'=>
  intro s K KK hK
  simp only[RP.ev]
  cases Q7 (s.gT i)with
  |none=>
   dsimp only
   cases s.gT i with
   |und=>exact ih' _ K KK hK
   |_=>exact Ct.none
  |some b=>
   cases w with
   |true=>exact Ct.cond (ih _ K KK hK) (ih' _ K KK hK)
   |false=>exact Ct.cond (ih' _ K KK hK) (ih _ K KK hK)
 |call ts ho h ih=>intro s K KK hK;exact Ct.bind ho fun x=>ih x s K KK hK
theorem RPC.evT {γ β:Type}{p:RP γ}{q:Nat->RP γ}(h:RPC p q):∀(s:St) (t:Tr) (K:γ->St->Tr->Option β) (KK:Nat->γ->St->Tr->Option β),(∀x s t,Ct (K x s t) fun n=>KK n x s t)->Ct (p.evT s t K) fun n=>(q n).evT s t (KK n):=by
 induction h with
 |ret x=>intro s t K KK hK;exact hK x s t
 |fail=>intro s t K KK hK;exact Ct.none
 |XX i h ih=>intro s t K KK hK;exact ih _ s _ K KK hK
 |VN i c h ih=>intro s t K KK hK;exact Ct.cond (ih _ _ K KK hK) Ct.none
 |getC r k h ih=>intro s t K KK hK;exact ih _ s _ K KK hK
 |setC r k c h ih=>intro s t K KK hK;exact ih _ _ K KK hK
 |getI r k h ih=>intro s t K KK hK;exact ih _ s _ K KK hK
 |setV r k x h ih=>intro s t K KK hK;exact ih _ _ K KK hK
 |getB r h ih=>intro s t K KK hK;exact ih _ s _ K KK hK
 |setB r g h ih=>intro s t K KK hK;exact ih _ _ K KK hK
 |br b h h' ih ih'=>intro s t K KK hK;exact Ct.cond (ih s _ K KK hK) (ih' s _ K KK hK)
 |brT i h h' ih ih'=>
  intro s t K KK hK
  simp only[RP.evT]
  cases Q7 (s.gT i)with
  |none=>exact Ct.none
  |some b=>exact Ct.cond (ih _ _ K KK hK) (ih' _ _ K KK hK)
 |brG i w h h' ih ih'=>
  intro s t K KK hK
  simp only[RP.evT]
  cases Q7 (s.gT i)with
  |none=>
   dsimp only
   cases s.gT i with
   |und=>exact ih' _ _ K KK hK
   |_=>exact Ct.none
  |some b=>
   cases w with
   |true=>exact Ct.cond (ih _ _ K KK hK) (ih' _ _ K KK hK)
   |false=>exact Ct.cond (ih' _ _ K KK hK) (ih _ _ K KK hK)
 |call ts ho h ih=>intro s t K KK hK;exact Ct.bind ho fun x=>ih x s _ K KK hK
def Jw {γ α:Type}(m:M γ α) (mm:Nat->M γ α):Prop:=∀(k:α->RP γ) (K:Nat->α->RP γ),(∀a,RPC (k a) fun n=>K n a)->RPC (m k) fun n=>mm n (K n)
def Par {γ α:Type}(m:M γ α):Prop:=Jw m fun _=>m
theorem Yr {γ α β:Type}{m:M γ α}{mm:Nat->M γ α}{f:α->M γ β}{F:Nat->α->M γ β}(h:Jw m mm) (h':∀a,Jw (f a) fun n=>F n a):Jw (m>>=f) fun n=>mm n>>=F n:=
 fun k K hk=>h _ _ fun a=>h' a k K hk
theorem Qn {γ α β:Type}{m:M γ α}{f:α->M γ β}(h:Par m) (h':∀a,Par (f a)):Par (m>>=f):=fun k K hk=>h _ _ fun a=>h' a k K hk
theorem Qc {γ α:Type}(a:α):Par (pure a:M γ α):=fun k K hk=>hk a
theorem Qa {γ α:Type}:Par (Qm:M γ α):=fun k K hk=> .fail
theorem zw {γ:Type}(b:Bool):Par (chk b:M γ Unit):=fun k K hk=> .br b (hk ()) .fail
theorem XF {γ α:Type}(o:Option α):Par (ofO o:M γ α):=fun k K hk=>by
 cases o with
 |none=>exact .fail
 |some a=>exact hk a
theorem QAj {γ:Type}(i:Nat):Par (mT i:M γ Cell):=fun k K hk=> .XX i hk
theorem QvF {γ:Type}(r k:Nat):Par (mC r k:M γ Con):=fun _ _ hk=> .getC r k hk
theorem V8 {γ:Type}(r k:Nat):Par (mI r k:M γ Con):=fun _ _ hk=> .getI r k hk
theorem QdD {γ:Type}(r:Nat):Par (mB r:M γ (Nat×Nat)):=fun _ _ hk=> .getB r hk
theorem xj {γ:Type}(i:Nat) (c:Cell):Par (wT i c:M γ Unit):=fun _ _ hk=> .VN i c (hk ())
theorem YB {γ:Type}(r k:Nat) (c:Con):Par (wC r k c:M γ Unit):=fun _ _ hk=> .setC r k c (hk ())
theorem QAy {γ:Type}(r k:Nat) (x:TV):Par (wV r k x:M γ Unit):=fun _ _ hk=> .setV r k x (hk ())
theorem Qwn {γ:Type}(r:Nat) (g:Nat×Nat):Par (wB r g:M γ Unit):=fun _ _ hk=> .setB r g (hk ())
theorem Qu8 {γ:Type}(ts:Tys) {o:Option (Qe ts)}{O:Nat->Option (Qe ts)}(h:Ct o O):Jw (mcall ts o:M γ (Qe ts)) fun n=>mcall ts (O n):=fun _ _ hk=> .call ts h hk
theorem Qg6 {γ:Type}:∀a1 a2,Par (tyM (γ:=γ) a1 a2):=by
 intro a1 a2
 unfold tyM
 try dsimp only
 repeat' (first
  |(with_reducible first|exact Qc _|exact Qa|refine Qn ?_ (fun _=> ?_))
  |split
  |exact Qc _
  |exact Qa)
theorem QgA {γ:Type}:∀a1 a2,Par (slE (γ:=γ) a1 a2):=by
 intro a1 a2
 unfold slE
 try dsimp only
 repeat' (first
  |(with_reducible first|exact Qc _|exact Qa|exact Qg6 _ _|refine Qn ?_ (fun _=> ?_))
  |split
  |exact Qc _
  |exact Qa)
theorem qA {γ:Type}:∀a1,Par (opd (γ:=γ) a1):=by
 intro a1
 unfold opd
 try dsimp only
 repeat' (first
  |(with_reducible first|exact Qc _|exact Qa|exact QAj _|exact XF _|refine Qn ?_ (fun _=> ?_))
  |split
  |exact Qc _
  |exact Qa)
theorem ze {γ:Type}:(n:Nat)->(p:Pl)->Par (final (γ:=γ) n p)
 |0,p=>by unfold final;first|exact Qc _|exact Qa
 |n+1,p=>by
  unfold final
  try dsimp only
  repeat' (first
  |(with_reducible first|exact ze n _|exact Qc _|exact Qa|exact V8 _ _|refine Qn ?_ (fun _=> ?_))
  |split
  |exact Qc _
  |exact Qa)
theorem yQ {γ:Type}:∀a1,Par (Y9 (γ:=γ) a1):=by
 intro a1
 unfold Y9
 try dsimp only
 repeat' (first
  |(with_reducible first|exact Qc _|exact Qa|exact QvF _ _|exact ze _ _|refine Qn ?_ (fun _=> ?_))
  |split
  |exact Qc _
  |exact Qa)
theorem Qww {γ:Type}:∀a1,Par (rd (γ:=γ) a1):=by
 intro a1
 unfold rd
 try dsimp only
 repeat' (first
  |(with_reducible first|exact Qc _|exact Qa|exact XF _|exact yQ _|refine Qn ?_ (fun _=> ?_))
  |split
  |exact Qc _
  |exact Qa)
theorem J1 {γ:Type}:∀a1 a2,Par (zQ (γ:=γ) a1 a2):=by
 intro a1 a2
 unfold zQ
 try dsimp only
 repeat' (first
  |(with_reducible first|exact Qc _|exact Qa|exact XF _|exact Qww _|refine Qn ?_ (fun _=> ?_))
  |split
  |exact Qc _
  |exact Qa)
theorem Qby {γ:Type}:∀a1,Par (YU (γ:=γ) a1):=by
 intro a1
 unfold YU
 try dsimp only
 repeat' (first
  |(with_reducible first|exact Qc _|exact Qa|exact YB _ _ _|exact XF _|exact yQ _|refine Qn ?_ (fun _=> ?_))
  |split
  |exact Qc _
  |exact Qa)
theorem QiI {γ:Type}:∀a1 a2,Par (QcN (γ:=γ) a1 a2):=by
 intro a1 a2
 unfold QcN
 try dsimp only
 repeat' (first
  |(with_reducible first|exact Qc _|exact Qa|exact YB _ _ _|exact XF _|exact yQ _|refine Qn ?_ (fun _=> ?_))
  |split
  |exact Qc _
  |exact Qa)
theorem QpE {γ:Type}:∀a1,Par (QjU (γ:=γ) a1):=by
 intro a1
 unfold QjU
 try dsimp only
 repeat' (first
  |(with_reducible first|exact Qc _|exact Qa|exact ze _ _|refine Qn ?_ (fun _=> ?_))
  |split
  |exact Qc _
  |exact Qa)
theorem QqT {γ:Type}:∀a1 a2 a3 a4 a5,Par (Qer (γ:=γ) a1 a2 a3 a4 a5):=by
 intro a1 a2 a3 a4 a5
 unfold Qer
 try dsimp only
 repeat' (first
  |(with_reducible first|exact Qc _|exact Qa|exact V8 _ _|exact YB _ _ _|exact QiI _ _|exact QpE _|refine Qn ?_ (fun _=> ?_))
  |split
  |exact Qc _
  |exact Qa)
theorem Qjv {γ:Type}:∀a1 a2 a3 a4 a5,Par (VT (γ:=γ) a1 a2 a3 a4 a5):=by
 intro a1 a2 a3 a4 a5
 fun_induction VT a1 a2 a3 a4 a5
 all_goals try dsimp only
 all_goals repeat' (first
  |(with_reducible first|exact Qc _|exact Qa)
  |assumption
  |apply_assumption
  |(with_reducible first|exact QqT _ _ _ _ _|refine Qn ?_ (fun _=> ?_))
  |split
  |exact Qc _
  |exact Qa)
theorem Qrq {γ:Type}:∀a1 a2,Par (Qde (γ:=γ) a1 a2):=by
 intro a1 a2
 unfold Qde
 try dsimp only
 repeat' (first
  |(with_reducible first|exact Qc _|exact Qa|exact QvF _ _|exact V8 _ _|refine Qn ?_ (fun _=> ?_))
  |split
  |exact Qc _
  |exact Qa)
theorem Qgc {γ:Type}:∀a1 a2 a3,Par (Jq (γ:=γ) a1 a2 a3):=by
 intro a1 a2 a3
 fun_induction Jq a1 a2 a3
 all_goals try dsimp only
 all_goals repeat' (first
  |(with_reducible first|exact Qc _|exact Qa)
  |assumption
  |apply_assumption
  |(with_reducible first|exact Qrq _ _|refine Qn ?_ (fun _=> ?_))
  |split
  |exact Qc _
  |exact Qa)
theorem Qu6 {γ:Type}:∀a1 a2,Par (Qg0 (γ:=γ) a1 a2):=by
 intro a1 a2
 unfold Qg0
 try dsimp only
 repeat' (first
  |(with_reducible first|exact Qc _|exact Qa|refine Qn ?_ (fun _=> ?_))
  |split
  |exact Qc _
  |exact Qa)
theorem QuJ {γ:Type}:∀a1 a2,Par (loadAt (γ:=γ) a1 a2):=by
 intro a1 a2
 unfold loadAt
 try dsimp only
 repeat' (first
  |(with_reducible first|exact Qc _|exact Qa|exact QdD _|exact ze _ _|exact Qww _|exact Qgc _ _ _|exact Qu6 _ _|refine Qn ?_ (fun _=> ?_))
  |split
  |exact Qc _
  |exact Qa)
theorem Qlj {γ:Type}:∀a1 a2 a3 a4,Par (QgR (γ:=γ) a1 a2 a3 a4):=by
 intro a1 a2 a3 a4
 unfold QgR
 try dsimp only
 repeat' (first
  |(with_reducible first|exact Qc _|exact Qa|exact XF _|exact J1 _ _|exact Qby _|exact QiI _ _|refine Qn ?_ (fun _=> ?_))
  |split
  |exact J1 _ _
  |exact Qc _
  |exact Qa)
theorem QsF {γ:Type}:∀a1 a2 a3,Par (QcZ (γ:=γ) a1 a2 a3):=by
 intro a1 a2 a3
 fun_induction QcZ a1 a2 a3
 all_goals try dsimp only
 all_goals repeat' (first
  |(with_reducible first|exact Qc _|exact Qa)
  |assumption
  |apply_assumption
  |(with_reducible first|exact Qlj _ _ _ _|refine Qn ?_ (fun _=> ?_))
  |split
  |exact Qc _
  |exact Qa)
theorem QsR {γ:Type}:∀a1,Par (Qg4 (γ:=γ) a1):=by
 intro a1
 unfold Qg4
 try dsimp only
 repeat' (first
  |(with_reducible first|exact Qc _|exact Qa|exact ze _ _|refine Qn ?_ (fun _=> ?_))
  |split
  |exact Qc _
  |exact Qa)
theorem Qt1 {γ:Type}:∀a1 a2,Par (QdC (γ:=γ) a1 a2):=by
 intro a1 a2
 fun_induction QdC a1 a2
 all_goals try dsimp only
 all_goals repeat' (first
  |(with_reducible first|exact Qc _|exact Qa)
  |assumption
  |apply_assumption
  |(with_reducible first|exact QsR _|refine Qn ?_ (fun _=> ?_))
  |split
  |exact Qc _
  |exact Qa)
theorem Qrw {γ:Type}:∀a1 a2 a3 a4 a5,Par (Qik (γ:=γ) a1 a2 a3 a4 a5):=by
 intro a1 a2 a3 a4 a5
 unfold Qik
 try dsimp only
 repeat' (first
  |(with_reducible first|exact Qc _|exact Qa|exact zw _|exact XF _|refine Qn ?_ (fun _=> ?_))
  |split
  |exact Qc _
  |exact Qa)
theorem Qql {γ:Type}:∀a1 a2 a3 a4 a5 a6 a7,Par (QhE (γ:=γ) a1 a2 a3 a4 a5 a6 a7):=by
 intro a1 a2 a3 a4 a5 a6 a7
 unfold QhE
 try dsimp only
 repeat' (first
  |(with_reducible first|exact Qc _|exact Qa|exact ze _ _|exact Qrw _ _ _ _ _|refine Qn ?_ (fun _=> ?_))
  |split
  |exact Qc _
  |exact Qa)
theorem Qkd {γ:Type}(y:TV) (i:Int) (r k:Nat) (nested:Bool):(off:Nat)->(ts:Tys)->(vs:List VC)->Par (Jm (γ:=γ) y i r k nested off ts vs)
 |_, .nil,[]=>by unfold Jm;first|exact Qc _|exact Qa
 |_, .nil,_::_=>by unfold Jm;first|exact Qc _|exact Qa
 |_, .cons _ _,[]=>by unfold Jm;first|exact Qc _|exact Qa
 |off, .cons t ts,v::vs=>by
  unfold Jm
  try dsimp only
  repeat' (first
  |(with_reducible first|exact Qkd y i r k nested (off+1) ts vs|exact Qc _|exact Qa|exact Qql _ _ _ _ _ _ _|refine Qn ?_ (fun _=> ?_))
  |split
  |exact Qc _
  |exact Qa)
theorem Qx0 {γ:Type}:∀a1 a2 a3 a4 a5 a6 a7 a8 a9 a10 a11,Par (Qr7 (γ:=γ) a1 a2 a3 a4 a5 a6 a7 a8 a9 a10 a11):=by
 intro a1 a2 a3 a4 a5 a6 a7 a8 a9 a10 a11
 unfold Qr7
 try dsimp only
 repeat' (first
  |(with_reducible first|exact Qc _|exact Qa|exact Qlj _ _ _ _|refine Qn ?_ (fun _=> ?_))
  |split
  |exact Qc _
  |exact Qa)
theorem QsI {γ:Type}:∀a1 a2 a3 a4 a5 a6 a7 a8 a9 a10 a11,Par (Qc3 (γ:=γ) a1 a2 a3 a4 a5 a6 a7 a8 a9 a10 a11):=by
 intro a1 a2 a3 a4 a5 a6 a7 a8 a9 a10 a11
 fun_induction Qc3 a1 a2 a3 a4 a5 a6 a7 a8 a9 a10 a11
 all_goals try dsimp only
 all_goals repeat' (first
  |(with_reducible first|exact Qc _|exact Qa)
  |assumption
  |apply_assumption
  |(with_reducible first|exact Qx0 _ _ _ _ _ _ _ _ _ _ _|refine Qn ?_ (fun _=> ?_))
  |split
  |exact Qc _
  |exact Qa)
theorem Quc {γ:Type}:∀a1 a2 a3 a4,Par (QiC (γ:=γ) a1 a2 a3 a4):=by
 intro a1 a2 a3 a4
 unfold QiC
 try dsimp only
 repeat' (first
  |(with_reducible first|exact Qc _|exact Qa|exact YB _ _ _|refine Qn ?_ (fun _=> ?_))
  |split
  |exact Qc _
  |exact Qa)
theorem QuS {γ:Type}:∀a1 a2 a3 a4 a5 a6 a7,Par (Qg3 (γ:=γ) a1 a2 a3 a4 a5 a6 a7):=by
 intro a1 a2 a3 a4 a5 a6 a7
 unfold Qg3
 try dsimp only
 repeat' (first
  |(with_reducible first|exact Qc _|exact Qa|exact QAy _ _ _|exact YB _ _ _|refine Qn ?_ (fun _=> ?_))
  |split
  |exact Qc _
  |exact Qa)
theorem QsS {γ:Type}:∀a1 a2 a3 a4,Par (storeAt (γ:=γ) a1 a2 a3 a4):=by
 intro a1 a2 a3 a4
 unfold storeAt
 try dsimp only
 repeat' (first
  |(with_reducible first|exact Qc _|exact Qa|exact QdD _|exact XF _|exact yQ _|exact Qjv _ _ _ _ _|exact Qkd _ _ _ _ _ _ _ _|exact QsI _ _ _ _ _ _ _ _ _ _ _|exact Quc _ _ _ _|exact QuS _ _ _ _ _ _ _|refine Qn ?_ (fun _=> ?_))
  |split
  |exact Qc _
  |exact Qa)
theorem QlP {γ:Type}:∀a1 a2,Par (Zv (γ:=γ) a1 a2):=by
 intro a1 a2
 unfold Zv
 try dsimp only
 repeat' (first
  |(with_reducible first|exact Qc _|exact Qa|exact xj _ _|refine Qn ?_ (fun _=> ?_))
  |split
  |exact Qc _
  |exact Qa)
theorem Yl {γ:Type}:∀a1 a2 a3 a4,Par (jH (γ:=γ) a1 a2 a3 a4):=by
 intro a1 a2 a3 a4
 unfold jH
 try dsimp only
 repeat' (first
  |(with_reducible first|exact Qc _|exact Qa|exact QdD _|exact V8 _ _|exact YB _ _ _|refine Qn ?_ (fun _=> ?_))
  |split
  |exact Qc _
  |exact Qa)
theorem QiK {γ:Type}(d:Nat):(j:Nat)->(ts:Tys)->(vs:List VC)->Par (Va (γ:=γ) d j ts vs)
 |_, .nil,[]=>by unfold Va;first|exact Qc _|exact Qa
 |_, .nil,_::_=>by unfold Va;first|exact Qc _|exact Qa
 |_, .cons _ _,[]=>by unfold Va;first|exact Qc _|exact Qa
 |j, .cons t ts,v::vs=>by
  unfold Va
  try dsimp only
  repeat' (first
  |(with_reducible first|exact QiK d (j+1) ts vs|exact Qc _|exact Qa|exact V8 _ _|exact YB _ _ _|exact QiI _ _|exact QpE _|exact Yl _ _ _ _|refine Qn ?_ (fun _=> ?_))
  |split
  |exact Qc _
  |exact Qa)
theorem Qnw {γ:Type}:∀a1 a2 a3 a4,Par (ishift (γ:=γ) a1 a2 a3 a4):=by
 intro a1 a2 a3 a4
 unfold ishift
 try dsimp only
 repeat' (first
  |(with_reducible first|exact Qc _|exact Qa|exact zw _|refine Qn ?_ (fun _=> ?_))
  |split
  |exact Qc _
  |exact Qa)
theorem Qrz {γ:Type}:∀a1 a2 a3 a4,Par (ibin (γ:=γ) a1 a2 a3 a4):=by
 intro a1 a2 a3 a4
 unfold ibin
 try dsimp only
 repeat' (first
  |(with_reducible first|exact Qc _|exact Qa|exact zw _|refine Qn ?_ (fun _=> ?_))
  |split
  |exact Qc _
  |exact Qa)
theorem QrP {γ:Type}:∀a1 a2 a3,Par (bbin (γ:=γ) a1 a2 a3):=by
 intro a1 a2 a3
 unfold bbin
 try dsimp only
 repeat' (first
  |(with_reducible first|exact Qc _|exact Qa|refine Qn ?_ (fun _=> ?_))
  |split
  |exact Qc _
  |exact Qa)
theorem Qrm {γ:Type}:∀a1 a2 a3,Par (sbin (γ:=γ) a1 a2 a3):=by
 intro a1 a2 a3
 unfold sbin
 try dsimp only
 repeat' (first
  |(with_reducible first|exact Qc _|exact Qa|exact zw _|refine Qn ?_ (fun _=> ?_))
  |split
  |exact Qc _
  |exact Qa)
theorem Qz4 {γ:Type}:∀a1 a2 a3 a4,Par (bin (γ:=γ) a1 a2 a3 a4):=by
 intro a1 a2 a3 a4
 unfold bin
 try dsimp only
 repeat' (first
  |(with_reducible first|exact Qc _|exact Qa|exact Qnw _ _ _ _|exact Qrz _ _ _ _|exact QrP _ _ _|exact Qrm _ _ _|refine Qn ?_ (fun _=> ?_))
  |split
  |exact Qnw _ _ _ _
  |exact Qrz _ _ _ _
  |exact QrP _ _ _
  |exact Qrm _ _ _
  |exact Qc _
  |exact Qa)
theorem QrB {γ:Type}:∀a1 a2 a3 a4,Par (Qdd (γ:=γ) a1 a2 a3 a4):=by
 intro a1 a2 a3 a4
 unfold Qdd
 try dsimp only
 repeat' (first
  |(with_reducible first|exact Qc _|exact Qa|exact XF _|exact Qz4 _ _ _ _|refine Qn ?_ (fun _=> ?_))
  |split
  |exact Qc _
  |exact Qa)
theorem QfV {γ:Type}:∀a1 a2,Par (elems (γ:=γ) a1 a2):=by
 intro a1 a2
 unfold elems
 try dsimp only
 repeat' (first
  |(with_reducible first|exact Qc _|exact Qa|exact J1 _ _|refine Qn ?_ (fun _=> ?_))
  |split
  |exact J1 _ _
  |exact Qc _
  |exact Qa)
theorem Qoy {γ:Type}:∀a1 a2 a3,Par (qz (γ:=γ) a1 a2 a3):=by
 intro a1 a2 a3
 fun_induction qz a1 a2 a3
 all_goals try dsimp only
 all_goals repeat' (first
  |(with_reducible first|exact Qc _|exact Qa)
  |assumption
  |apply_assumption
  |(with_reducible first|exact XF _|exact qA _|refine Qn ?_ (fun _=> ?_))
  |split
  |exact Qc _
  |exact Qa)
theorem QpR {γ:Type}:∀a1,Par (zf (γ:=γ) a1):=by
 intro a1
 fun_induction zf a1
 all_goals try dsimp only
 all_goals repeat' (first
  |(with_reducible first|exact Qc _|exact Qa)
  |assumption
  |apply_assumption
  |(with_reducible first|exact XF _|exact qA _|refine Qn ?_ (fun _=> ?_))
  |split
  |exact Qc _
  |exact Qa)
theorem Qs0 {γ:Type}:∀a1 a2,Par (Qc9 (γ:=γ) a1 a2):=by
 intro a1 a2
 fun_induction Qc9 a1 a2
 all_goals try dsimp only
 all_goals repeat' (first
  |(with_reducible first|exact Qc _|exact Qa)
  |assumption
  |apply_assumption
  |(with_reducible first|exact Qt1 _ _|refine Qn ?_ (fun _=> ?_))
  |split
  |exact Qc _
  |exact Qa)
theorem Qj9 {γ:Type}:∀a1 a2 a3 a4,Par (Qc6 (γ:=γ) a1 a2 a3 a4):=by
 intro a1 a2 a3 a4
 fun_induction Qc6 a1 a2 a3 a4
 all_goals try dsimp only
 all_goals repeat' (first
  |(with_reducible first|exact Qc _|exact Qa)
  |assumption
  |apply_assumption
  |(with_reducible first|exact QsF _ _ _|refine Qn ?_ (fun _=> ?_))
  |split
  |exact Qc _
  |exact Qa)
theorem QfU {γ:Type}:∀a1 a2,Par (Qh0 (γ:=γ) a1 a2):=by
 intro a1 a2
 unfold Qh0
 try dsimp only
 repeat' (first
  |(with_reducible first|exact Qc _|exact Qa|exact J1 _ _|refine Qn ?_ (fun _=> ?_))
  |split
  |exact J1 _ _
  |exact Qc _
  |exact Qa)
theorem Qs9 {γ:Type}:∀a1 a2,Par (Qgw (γ:=γ) a1 a2):=by
 intro a1 a2
 unfold Qgw
 try dsimp only
 repeat' (first
  |(with_reducible first|exact Qc _|exact Qa|exact XF _|exact Qby _|refine Qn ?_ (fun _=> ?_))
  |split
  |exact Qc _
  |exact Qa)
theorem Qsp {γ:Type}:∀a1 a2,Par (QgX (γ:=γ) a1 a2):=by
 intro a1 a2
 unfold QgX
 try dsimp only
 repeat' (first
  |(with_reducible first|exact Qc _|exact Qa|exact XF _|exact Qby _|exact QfV _ _|refine Qn ?_ (fun _=> ?_))
  |split
  |exact QfV _ _
  |exact Qc _
  |exact Qa)
theorem Qq6 {γ:Type}:∀a1 a2 a3 a4 a5,Par (QdA (γ:=γ) a1 a2 a3 a4 a5):=by
 intro a1 a2 a3 a4 a5
 unfold QdA
 try dsimp only
 repeat' (first
  |(with_reducible first|exact Qc _|exact Qa|exact xj _ _|exact zw _|exact QgA _ _|exact Yl _ _ _ _|exact Qs9 _ _|exact Qsp _ _|refine Qn ?_ (fun _=> ?_))
  |split
  |exact Qc _
  |exact Qa)
theorem QwO {γ:Type}:∀a1 a2,Par (QaF (γ:=γ) a1 a2):=by
 intro a1 a2
 unfold QaF
 try dsimp only
 repeat' (first
  |(with_reducible first|exact Qc _|exact Qa|refine Qn ?_ (fun _=> ?_))
  |split
  |exact Qc _
  |exact Qa)
theorem Quo {γ:Type}:∀a1 a2 a3,Par (Qjo (γ:=γ) a1 a2 a3):=by
 intro a1 a2 a3
 unfold Qjo
 try dsimp only
 repeat' (first
  |(with_reducible first|exact Qc _|exact Qa|exact YB _ _ _|exact XF _|exact yQ _|exact QwO _ _|refine Qn ?_ (fun _=> ?_))
  |split
  |exact Qc _
  |exact Qa)
theorem Qx8 {γ:Type}:∀a1 a2 a3,Par (QrK (γ:=γ) a1 a2 a3):=by
 intro a1 a2 a3
 unfold QrK
 try dsimp only
 repeat' (first
  |(with_reducible first|exact Qc _|exact Qa|exact Quo _ _ _|refine Qn ?_ (fun _=> ?_))
  |split
  |exact Qc _
  |exact Qa)
theorem QvZ {γ:Type}:∀a1 a2,Par (QjO (γ:=γ) a1 a2):=by
 intro a1 a2
 fun_induction QjO a1 a2
 all_goals try dsimp only
 all_goals repeat' (first
  |(with_reducible first|exact Qc _|exact Qa)
  |assumption
  |apply_assumption
  |(with_reducible first|exact Qx8 _ _ _|refine Qn ?_ (fun _=> ?_))
  |split
  |exact Qc _
  |exact Qa)
theorem QuP {γ:Type}:∀a1 a2 a3,Par (Qef (γ:=γ) a1 a2 a3):=by
 intro a1 a2 a3
 fun_induction Qef a1 a2 a3
 all_goals try dsimp only
 all_goals repeat' (first
  |(with_reducible first|exact Qc _|exact Qa)
  |assumption
  |apply_assumption
  |(with_reducible first|exact J1 _ _|refine Qn ?_ (fun _=> ?_))
  |split
  |exact J1 _ _
  |exact Qc _
  |exact Qa)
theorem Qrd {γ:Type}:∀a1 a2,Par (vK (γ:=γ) a1 a2):=by
 intro a1 a2
 fun_induction vK a1 a2
 all_goals try dsimp only
 all_goals repeat' (first
  |(with_reducible first|exact Qc _|exact Qa)
  |assumption
  |apply_assumption
  |(with_reducible first|exact QdD _|exact Qgc _ _ _|refine Qn ?_ (fun _=> ?_))
  |split
  |exact Qc _
  |exact Qa)
theorem Qq4 {γ:Type}:∀a1 a2,Par (QdO (γ:=γ) a1 a2):=by
 intro a1 a2
 unfold QdO
 try dsimp only
 repeat' (first
  |(with_reducible first|exact Qc _|exact Qa|exact QdD _|exact Qgc _ _ _|exact Qrd _ _|refine Qn ?_ (fun _=> ?_))
  |split
  |exact Qc _
  |exact Qa)
theorem QpG {γ:Type}:∀a1 a2,Par (zr (γ:=γ) a1 a2):=by
 intro a1 a2
 fun_induction zr a1 a2
 all_goals try dsimp only
 all_goals repeat' (first
  |(with_reducible first|exact Qc _|exact Qa)
  |assumption
  |apply_assumption
  |(with_reducible first|exact Qq4 _ _|refine Qn ?_ (fun _=> ?_))
  |split
  |exact Qc _
  |exact Qa)
theorem Qyo {γ:Type}:∀a1 a2 a3,Par (Qq2 (γ:=γ) a1 a2 a3):=by
 intro a1 a2 a3
 unfold Qq2
 try dsimp only
 repeat' (first
  |(with_reducible first|exact Qc _|exact Qa|exact Qby _|refine Qn ?_ (fun _=> ?_))
  |split
  |exact Qc _
  |exact Qa)
theorem QwD {γ:Type}:∀a1 a2,Par (Qfu (γ:=γ) a1 a2):=by
 intro a1 a2
 fun_induction Qfu a1 a2
 all_goals try dsimp only
 all_goals repeat' (first
  |(with_reducible first|exact Qc _|exact Qa)
  |assumption
  |apply_assumption
  |(with_reducible first|exact Qyo _ _ _|refine Qn ?_ (fun _=> ?_))
  |split
  |exact Qc _
  |exact Qa)
theorem QxZ {γ:Type}:∀a1 a2,Par (Qqz (γ:=γ) a1 a2):=by
 intro a1 a2
 unfold Qqz
 split
 ·exact QwD _ _
 ·exact Qc _
theorem Qwi {γ:Type}:∀a1 a2,Par (Qfm (γ:=γ) a1 a2):=by
 intro a1 a2
 fun_induction Qfm a1 a2
 all_goals try dsimp only
 all_goals repeat' (first
  |(with_reducible first|exact Qc _|exact Qa)
  |assumption
  |apply_assumption
  |(with_reducible first|exact QxZ _ _|refine Qn ?_ (fun _=> ?_))
  |split
  |exact Qc _
  |exact Qa)
theorem QvO {γ:Type}:∀a1 a2,Par (QjX (γ:=γ) a1 a2):=by
 intro a1 a2
 fun_induction QjX a1 a2
 all_goals try dsimp only
 all_goals repeat' (first
  |(with_reducible first|exact Qc _|exact Qa)
  |assumption
  |apply_assumption
  |(with_reducible first|exact QvZ _ _|refine Qn ?_ (fun _=> ?_))
  |split
  |exact Qc _
  |exact Qa)
theorem QuY {γ:Type}:∀a1 a2 a3,Par (Qhq (γ:=γ) a1 a2 a3):=by
 intro a1 a2 a3
 fun_induction Qhq a1 a2 a3
 all_goals try dsimp only
 all_goals repeat' (first
  |(with_reducible first|exact Qc _|exact Qa)
  |assumption
  |apply_assumption
  |(with_reducible first|exact QuP _ _ _|refine Qn ?_ (fun _=> ?_))
  |split
  |exact Qc _
  |exact Qa)
theorem QpH {γ:Type}:∀a1 a2 a3,Par (qx (γ:=γ) a1 a2 a3):=by
 intro a1 a2 a3
 unfold qx
 try dsimp only
 repeat' (first
  |(with_reducible first|exact Qc _|exact Qa|exact V8 _ _|refine Qn ?_ (fun _=> ?_))
  |split
  |exact Qc _
  |exact Qa)
theorem Qss {γ:Type}:∀a1 a2,Par (Qda (γ:=γ) a1 a2):=by
 intro a1 a2
 unfold Qda
 try dsimp only
 repeat' (first
  |(with_reducible first|exact Qc _|exact Qa|exact YB _ _ _|exact XF _|exact QpH _ _ _|refine Qn ?_ (fun _=> ?_))
  |split
  |exact Qc _
  |exact Qa)
theorem Qs5 {γ:Type}:∀a1 a2 a3,Par (Vy (γ:=γ) a1 a2 a3):=by
 intro a1 a2 a3
 fun_induction Vy a1 a2 a3
 all_goals try dsimp only
 all_goals repeat' (first
  |(with_reducible first|exact Qc _|exact Qa)
  |assumption
  |apply_assumption
  |(with_reducible first|exact Qss _ _|refine Qn ?_ (fun _=> ?_))
  |split
  |exact Qc _
  |exact Qa)
theorem Js {γ:Type}(r:Nat):(k:Nat)->(l:List (Mode×Ty))->(xs:List TV)->Par (X5 (γ:=γ) r k l xs)
 |_,[],_=>by unfold X5;first|exact Qc _|exact Qa
 |k,(.mut,t)::l,x::xs=>by
  unfold X5
  try dsimp only
  repeat' (first
  |(with_reducible first|exact Js r (k+1) l xs|exact Qc _|exact Qa|exact V8 _ _|exact YB _ _ _|refine Qn ?_ (fun _=> ?_))
  |split
  |exact Qc _
  |exact Qa)
 |k,(.mut,t)::l,[]=>by unfold X5;first|exact Qc _|exact Qa
 |k,(.ro,_)::l,xs=>by
  unfold X5
  try dsimp only
  repeat' (first
  |(with_reducible first|exact Js r (k+1) l xs|exact Qc _|exact Qa|exact V8 _ _|exact YB _ _ _|refine Qn ?_ (fun _=> ?_))
  |split
  |exact Qc _
  |exact Qa)
 |k,(.own,_)::l,xs=>by
  unfold X5
  try dsimp only
  repeat' (first
  |(with_reducible first|exact Js r (k+1) l xs|exact Qc _|exact Qa|exact V8 _ _|exact YB _ _ _|refine Qn ?_ (fun _=> ?_))
  |split
  |exact Qc _
  |exact Qa)
 |k,(.junk,_)::l,xs=>by
  unfold X5
  try dsimp only
  repeat' (first
  |(with_reducible first|exact Js r (k+1) l xs|exact Qc _|exact Qa|exact V8 _ _|exact YB _ _ _|refine Qn ?_ (fun _=> ?_))
  |split
  |exact Qc _
  |exact Qa)
 |k,(.top,_)::l,xs=>by
  unfold X5
  try dsimp only
  repeat' (first
  |(with_reducible first|exact Js r (k+1) l xs|exact Qc _|exact Qa|exact V8 _ _|exact YB _ _ _|refine Qn ?_ (fun _=> ?_))
  |split
  |exact Qc _
  |exact Qa)
theorem Qv8 {γ:Type}:∀a1 a2 a3 a4,Par (backs (γ:=γ) a1 a2 a3 a4):=by
 intro a1 a2 a3 a4
 fun_induction backs a1 a2 a3 a4
 all_goals try dsimp only
 all_goals repeat' (first
  |(with_reducible first|exact Qc _|exact Qa)
  |assumption
  |apply_assumption
  |(with_reducible first|exact Qs5 _ _ _|exact Js _ _ _ _|refine Qn ?_ (fun _=> ?_))
  |split
  |exact Qc _
  |exact Qa)
theorem qL {γ:Type}(d:Nat):(j:Nat)->(l:List (Mode×Ty))->(xs:List TV)->Par (X7 (γ:=γ) d j l xs)
 |_,[],_=>by unfold X7;first|exact Qc _|exact Qa
 |j,(.junk,_)::l,xs=>by
  unfold X7
  try dsimp only
  repeat' (first
  |(with_reducible first|exact qL d (j+1) l xs|exact Qc _|exact Qa|exact Yl _ _ _ _|refine Qn ?_ (fun _=> ?_))
  |split
  |exact Qc _
  |exact Qa)
 |j,(.ro,t)::l,x::xs=>by
  unfold X7
  try dsimp only
  repeat' (first
  |(with_reducible first|exact qL d (j+1) l xs|exact Qc _|exact Qa|exact Yl _ _ _ _|refine Qn ?_ (fun _=> ?_))
  |split
  |exact Qc _
  |exact Qa)
 |j,(.mut,t)::l,x::xs=>by
  unfold X7
  try dsimp only
  repeat' (first
  |(with_reducible first|exact qL d (j+1) l xs|exact Qc _|exact Qa|exact Yl _ _ _ _|refine Qn ?_ (fun _=> ?_))
  |split
  |exact Qc _
  |exact Qa)
 |j,(.own,t)::l,x::xs=>by
  unfold X7
  try dsimp only
  repeat' (first
  |(with_reducible first|exact qL d (j+1) l xs|exact Qc _|exact Qa|exact Yl _ _ _ _|refine Qn ?_ (fun _=> ?_))
  |split
  |exact Qc _
  |exact Qa)
 |j,(.top,t)::l,x::xs=>by
  unfold X7
  try dsimp only
  repeat' (first
  |(with_reducible first|exact qL d (j+1) l xs|exact Qc _|exact Qa|exact Yl _ _ _ _|refine Qn ?_ (fun _=> ?_))
  |split
  |exact Qc _
  |exact Qa)
 |j,(.ro,t)::l,[]=>by unfold X7;first|exact Qc _|exact Qa
 |j,(.mut,t)::l,[]=>by unfold X7;first|exact Qc _|exact Qa
 |j,(.own,t)::l,[]=>by unfold X7;first|exact Qc _|exact Qa
 |j,(.top,t)::l,[]=>by unfold X7;first|exact Qc _|exact Qa
theorem Qvt {γ:Type}:∀a1 a2 a3 a4,Par (Qgu (γ:=γ) a1 a2 a3 a4):=by
 intro a1 a2 a3 a4
 fun_induction Qgu a1 a2 a3 a4
 all_goals try dsimp only
 all_goals repeat' (first
  |(with_reducible first|exact Qc _|exact Qa)
  |assumption
  |apply_assumption
  |(with_reducible first|exact qL _ _ _ _|refine Qn ?_ (fun _=> ?_))
  |split
  |exact Qc _
  |exact Qa)
theorem Qlz {γ:Type}(d:Nat):(k:Nat)->(l:List (Mode×Ty))->(xs:List TV)->Par (qW (γ:=γ) d k l xs)
 |_,[],_=>by unfold qW;first|exact Qc _|exact Qa
 |k,(m,t)::l,x::xs=>by
  unfold qW
  try dsimp only
  repeat' (first
  |(with_reducible first|exact Qlz d (k+1) l xs|exact Qc _|exact Qa|exact V8 _ _|exact YB _ _ _|refine Qn ?_ (fun _=> ?_))
  |split
  |exact Qc _
  |exact Qa)
 |_,_::_,[]=>by unfold qW;first|exact Qc _|exact Qa
theorem JZ {γ:Type}:∀a1,Par (K0 (γ:=γ) a1):=by
 intro a1
 fun_induction K0 a1
 all_goals try dsimp only
 all_goals repeat' (first
  |(with_reducible first|exact Qc _|exact Qa)
  |assumption
  |apply_assumption
  |(with_reducible first|exact qA _|refine Qn ?_ (fun _=> ?_))
  |split
  |exact Qc _
  |exact Qa)
theorem QvU {γ:Type}:∀a1 a2 a3 a4 a5 a6,Par (call2 (γ:=γ) a1 a2 a3 a4 a5 a6):=by
 intro a1 a2 a3 a4 a5 a6
 unfold call2
 try dsimp only
 repeat' (first
  |(with_reducible first|exact Qc _|exact Qa|exact QdD _|exact xj _ _|exact Qwn _ _|exact Qv8 _ _ _ _|exact Qvt _ _ _ _|exact Qlz _ _ _ _|refine Qn ?_ (fun _=> ?_))
  |split
  |exact Qc _
  |exact Qa)
theorem Qis {γ:Type}:∀a1 a2 a3 a4 a5,Par (Qf4 (γ:=γ) a1 a2 a3 a4 a5):=by
 intro a1 a2 a3 a4 a5
 unfold Qf4
 try dsimp only
 repeat' (first
  |(with_reducible first|exact Qc _|exact Qa|exact xj _ _|exact XF _|exact Qg6 _ _|exact QgA _ _|exact QfU _ _|exact Qq6 _ _ _ _ _|exact JZ _|refine Qn ?_ (fun _=> ?_))
  |split
  |exact Qc _
  |exact Qa)
theorem QuH {γ:Type}:∀a1 a2 a3 a4 a5,Par (QlT (γ:=γ) a1 a2 a3 a4 a5):=by
 intro a1 a2 a3 a4 a5
 unfold QlT
 try dsimp only
 repeat' (first
  |(with_reducible first|exact Qc _|exact Qa|exact xj _ _|exact zw _|exact XF _|exact Qg6 _ _|exact QgA _ _|exact Qby _|exact QfV _ _|refine Qn ?_ (fun _=> ?_))
  |split
  |exact QfV _ _
  |exact Qc _
  |exact Qa)
theorem Qht {γ:Type}:∀a1,Par (Qhl (γ:=γ) a1):=by
 intro a1
 unfold Qhl
 try dsimp only
 repeat' (first
  |(with_reducible first|exact Qc _|exact Qa|exact XF _|exact qA _|refine Qn ?_ (fun _=> ?_))
  |split
  |exact Qc _
  |exact Qa)
theorem Qkj {γ:Type}:∀a1 a2 a3 a4 a5 a6,Par (QjW (γ:=γ) a1 a2 a3 a4 a5 a6):=by
 intro a1 a2 a3 a4 a5 a6
 unfold QjW
 try dsimp only
 repeat' (first
  |(with_reducible first|exact Qc _|exact Qa|exact xj _ _|exact zw _|exact XF _|exact Qg6 _ _|exact QgA _ _|exact QfU _ _|refine Qn ?_ (fun _=> ?_))
  |split
  |exact Qc _
  |exact Qa)
theorem Qzv {γ α:Type}{c:Prop} [Decidable c] {a b:M γ α}(h:Par a) (h':Par b):Par (if c then a else b):=by
 by_cases hc:c
 ·simp only[hc,if_true];exact h
 ·simp only[hc,if_false];exact h'
theorem Qei {γ α:Type}{c:Prop} [Decidable c] {a b:M γ α}{A B:Nat->M γ α}(h:Jw a A) (h':Jw b B):Jw (if c then a else b) fun n=>if c then A n else B n:=by
 by_cases hc:c
 ·simp only[hc,if_true];exact h
 ·simp only[hc,if_false];exact h'
theorem Qcx {γ α β:Type}{f:α->M γ β}{mm:Nat->M γ β}:Jw (Qm>>=f) mm:=fun _ _ _=> .fail
theorem Qt9 {γ:Type}{E:Env}{D:Xb E}{DD:Nat->Xb E}(hD:∀f x,Ct (D f x) fun n=>DD n f x) (f0 f:Nat) (as:List Cell):Jw (QjD (γ:=γ) E D f0 f as) fun n=>QjD E (DD n) f0 f as:=by
 unfold QjD
 dsimp only
 refine Qei ?_ Qcx
 refine Yr (QpG _ _) fun _=> ?_
 refine Yr (by unfold Qqi;exact Qzv (Qwi _ _) (Qc _)) fun _=> ?_
 refine Qei ?_ Qcx
 refine Qei Qcx ?_
 refine Yr (QvO _ _) fun _=> ?_
 refine Qei ?_ Qcx
 refine Yr (QuY _ _ _) fun _=> ?_
 refine Yr (XF _) fun _=> ?_
 refine Yr (Qu8 _ (hD _ _)) fun _=> ?_
 exact Qc _
theorem QlQ {γ:Type}{E:Env}{D:Xb E}{DD:Nat->Xb E}(hD:∀f x,Ct (D f x) fun n=>DD n f x) (np:Fx) (d f0:Nat) (as:List Cell):Jw (Qhw (γ:=γ) E D np d f0 as) fun n=>Qhw E (DD n) np d f0 as:=by
 unfold Qhw
 exact Yr (Qt9 hD _ _ _) fun _=>QvU _ _ _ _ _ _
theorem Qsv {γ:Type}{E:Env}{D:Xb E}{DD:Nat->Xb E}(hD:∀f x,Ct (D f x) fun n=>DD n f x) (np:Fx) (d f:Nat) (args:List Operand):Jw (Qi2 (γ:=γ) E D np d f args) fun n=>Qi2 E (DD n) np d f args:=by
 unfold Qi2
 exact Yr (JZ _) fun _=>QlQ hD _ _ _ _
theorem QuR {γ:Type}{E:Env}{D:Xb E}{DD:Nat->Xb E}(hD:∀f x,Ct (D f x) fun n=>DD n f x) (np:Fx) (d:Nat) (g:Operand) (args:List Operand):Jw (QlS (γ:=γ) E D np d g args) fun n=>QlS E (DD n) np d g args:=by
 unfold QlS
 refine Yr (qA _) fun c=>Yr (JZ _) fun as=> ?_
 cases c with
 |fn f caps=>exact QlQ hD _ _ _ _
 |_=>exact Qa
theorem Qzi {γ:Type}(i:Nat) {a b:M γ Unit}(ha:Par a) (hb:Par b):Par (fun k=> .brT i (a k) (b k):M γ Unit):=fun _ _ hk=> .brT i (ha _ _ hk) (hb _ _ hk)
theorem Qya {γ:Type}(i:Nat) (w:Bool) {a b:M γ Unit}{A B:Nat->M γ Unit}(ha:Jw a A) (hb:Jw b B):Jw (fun k=> .brG i w (a k) (b k):M γ Unit) fun n=>fun k=> .brG i w (A n k) (B n k):=fun _ _ hk=> .brG i w (ha _ _ hk) (hb _ _ hk)
theorem Qki {γ:Type}{E:Env}{D:Xb E}{DD:Nat->Xb E}(hD:∀f x,Ct (D f x) fun n=>DD n f x) (nk:Fx) (o:Oper):Jw (execOp (γ:=γ) E D nk o) fun n=>execOp E (DD n) nk o:=by
 unfold execOp
 dsimp only
 refine Qei Qa ?_
 generalize o.op=op
 cases op
 case call c=>
  obtain⟨cal,args,tys⟩:=c
  cases cal with
  |value g=>
   cases g with
   |func f=>exact Qsv hD _ _ _ _
   |tmp t=>exact QuR hD _ _ _ _
   |_=>exact Qa
  |builtin b=>exact Qis _ _ _ _ _
  |_=>exact Qa
 case makeFunc fn first caps=>
  cases fn with
  |func g=>
   refine(show Par (if first.size==0 then(do let cs<-K0 caps.toList;let l<-ofO (ptrs? cs);wT (o.dst.getD 0) (.fn g l))else Qm)from ?_)
   repeat' (first
    |(with_reducible first|exact Qa|exact xj _ _|exact XF _|exact JZ _|refine Qn ?_ (fun _=> ?_))
    |split)
  |_=>exact Qa
 case slice T x lo hi mx=>
  cases mx with
  |none=>
   exact Qn (qA _) fun _=>Qn (Qht _) fun _=>Qn (Qht _) fun _=>Qkj _ _ _ _ _ _
  |some _=>exact Qa
 all_goals(first|exact Qa|skip)
 all_goals dsimp only
 all_goals refine(show Par _ from ?_)
 all_goals repeat' (first
  |(with_reducible first|exact Qc _|exact Qa|exact zw _|exact XF _|exact qA _|exact QlP _ _|exact xj _ _|exact QdD _|exact Qwn _ _|exact Qg6 _ _|exact QgA _ _|exact QiK _ _ _ _|exact Qjv _ _ _ _ _|exact Qoy _ _ _|exact QpR _|exact Qs0 _ _|exact Qj9 _ _ _ _|exact Yl _ _ _ _|exact QuJ _ _|exact QsS _ _ _ _|exact QrB _ _ _ _|exact QuH _ _ _ _ _|exact Qht _|exact Qkj _ _ _ _ _ _|exact QfU _ _|exact JZ _|exact Qis _ _ _ _ _|refine Qn ?_ (fun _=> ?_))
  |split
  |exact Qzi _ (Qn (qA _) fun _=>xj _ _) (Qn (qA _) fun _=>xj _ _)
  |exact Yl _ _ _ _
  |exact Qj9 _ _ _ _
  |exact QfU _ _)
theorem QsE {γ:Type}{E:Env}{D:Xb E}{DD:Nat->Xb E}(hD:∀f x,Ct (D f x) fun n=>DD n f x) (nk:Fx) (ops:List Oper) (o:Oper):Jw (VA (γ:=γ) E D nk ops o) fun n=>VA E (DD n) nk ops o:=by
 unfold VA
 cases o.guard with
 |none=>exact Qki hD _ _
 |some g=>
  obtain⟨j,w⟩:=g
  dsimp only
  cases(ops[j]?).bind (·.dst)with
  |none=>exact Qa
  |some t=>exact Qya t w (Qki hD _ _) (QlP _ _)
def Qaj (E:Env) (f:Nat) (ins:Qe (E.sig f).ins) (outs:Qe (E.sig f).outs):Prop:=Evt fun n=>(mean E n).1 f ins=some outs
def Qdo (E:Env) (f b:Nat) (v:Qe (E.lsig f b).sk.tys) (z:KY (ZT (E.lsig f b).exits)):Prop:=Evt fun n=>(mean E n).2 f b v=some z
theorem Qaj.step {E:Env}{f:Nat}{ins:Qe (E.sig f).ins}{outs:Qe (E.sig f).outs}(h:Evt fun n=>Qap E (mean E n).1 (mean E n).2 f ins=some outs):Qaj E f ins outs:=Evt.succ h
theorem Qdo.step {E:Env}{f b:Nat}{v:Qe (E.lsig f b).sk.tys}{z:KY (ZT (E.lsig f b).exits)}(h:Evt fun n=>QaG E (mean E n).1 (mean E n).2 f b v=some z):Qdo E f b v z:=Evt.succ h
theorem Qaj.spec {P:Program}{E:Env}(hT:Xq P E) (hE:EnvCode P E) (hLo:EnvLoops E) (hmix:P.follows .mixedOrders=true) {f:Nat}(hf:E.fok f=true) {ins:Qe (E.sig f).ins}{outs:Qe (E.sig f).outs}(h:Qaj E f ins outs):Qg8 P E.gg (E.sig f) (E.real f) (unpack _ ins) (unpack _ outs):=by
 obtain⟨n,hn⟩:=h.here
 exact(yE hT hE hLo hmix n).1 f ins outs hf hn
theorem Ct.ite {β:Type}{c:Prop} [Decidable c] {x y:Option β}{X Y:Nat->Option β}(h:Ct x X) (h':Ct y Y):Ct (if c then x else y) fun n=>if c then X n else Y n:=by
 by_cases hc:c
 ·simp only[hc,if_true];exact h
 ·simp only[hc,if_false];exact h'
section
variable {E:Env}{D:Xb E}{DD:Nat->Xb E}{L:Vv E}{LL:Nat->Vv E}
theorem Qtq (hD:∀f x,Ct (D f x) fun n=>DD n f x) (nk:Fx) (all:List Oper) (o:Oper):RPC (ZO (VA E D nk all o)) fun n=>ZO (VA E (DD n) nk all o):=
 QsE hD nk all o _ _ fun _=> .ret ()
theorem QqU {β:Type}(hD:∀f x,Ct (D f x) fun n=>DD n f x) (nk:Fx) (all:List Oper):(l:List Oper)->(s:St)->(K:St->Option β)->(KK:Nat->St->Option β)->(∀s,Ct (K s) fun n=>KK n s)->Ct (Qii E D nk all l s K) fun n=>Qii E (DD n) nk all l s (KK n)
 | [],s,K,KK,h=>h s
 |o::l,s,K,KK,h=>(Qtq hD nk all o).ev s _ _ fun _ s'=>QqU hD nk all l s' K KK h
theorem QoX {β:Type}(hD:∀f x,Ct (D f x) fun n=>DD n f x) (nk:Fx) (all:List Oper):(l:List Oper)->(trs:List Tr)->(s:St)->(K:St->Option β)->(KK:Nat->St->Option β)->(∀s,Ct (K s) fun n=>KK n s)->Ct (Qbc E D nk all l trs s K) fun n=>Qbc E (DD n) nk all l trs s (KK n)
 | [],trs,s,K,KK,h=>Ct.ite (h s) Ct.none
 |o::l,trs,s,K,KK,h=>(Qtq hD nk all o).evT s _ _ _ fun _ s' t=>QoX hD nk all l _ s' K KK h
theorem Qnz {β:Type}(n:Nat):(l:List (Ex×Sk))->(z:KY (ZT l))->(K:Ex->St->Option β)->(KK:Nat->Ex->St->Option β)->(∀e s,Ct (K e s) fun n=>KK n e s)->Ct (QoQ n l z K) fun m=>QoQ n l z (KK m)
 | [],_,_,_,_=>Ct.none
 | [(e,sk)],v,K,KK,h=>h e _
 |(e,sk)::a::l,z,K,KK,h=>by
  cases z with
  |inl v=>exact h e _
  |inr z'=>exact Qnz n (a::l) z' K KK h
theorem QoZ {β:Type}(hL:∀f b x,Ct (L f b x) fun n=>LL n f b x) (f:Nat) (s:St) (K:Ex->St->Option β) (KK:Nat->Ex->St->Option β) (h:∀e s,Ct (K e s) fun n=>KK n e s):(l:List Nat)->Ct (QaO E L f s K l) fun n=>QaO E (LL n) f s (KK n) l
 | []=>Ct.none
 |b::l=>by
  simp only[QaO]
  refine Ct.ite ?_ Ct.none
  cases dec (E.lsig f b).sk s with
  |none=>exact QoZ hL f s K KK h l
  |some v=>exact Ct.bind (hL f b v) fun z=>Qnz _ _ _ _ _ h
theorem Qy9 {β:Type}(hD:∀f x,Ct (D f x) fun n=>DD n f x) (hL:∀f b x,Ct (L f b x) fun n=>LL n f b x) (f:Nat) (c:Code):∀(s:St) (K:Ex->St->Option β) (KK:Nat->Ex->St->Option β),(∀e s,Ct (K e s) fun n=>KK n e s)->Ct (ev E D L f c s K) fun n=>ev E (DD n) (LL n) f c s (KK n):=by
 induction c with
 |skip=>intro s K KK h;exact h .normal s
 |region i ops draw=>
  intro s K KK h
  simp only[ev]
  refine Ct.ite ?_ ?_
  ·exact QoX hD _ _ _ _ _ _ _ fun s=>h .normal s
  ·exact QqU hD _ _ _ _ _ _ fun s=>h .normal s
 |seq a b iha ihb=>
  intro s K KK h
  simp only[ev]
  refine iha s _ _ fun e s'=> ?_
  cases e with
  |normal=>exact ihb s' K KK h
  |exit i=>exact h _ _
  |ret=>exact h _ _
 |cond c a b iha ihb=>
  intro s K KK h
  simp only[ev]
  cases c with
  |tmp t=>
   dsimp only
   cases Q7 (s.gT t)with
   |none=>exact Ct.none
   |some v=>exact Ct.cond (iha _ K KK h) (ihb _ K KK h)
  |const v=>
   cases v with
   |bool v=>exact Ct.cond (iha _ K KK h) (ihb _ K KK h)
   |_=>exact Ct.none
  |_=>exact Ct.none
 |block b c ih=>
  intro s K KK h
  have hK:∀e s,Ct (VZ b K e s) fun n=>VZ b (KK n) e s:=by
   intro e s
   cases e with
   |exit i=>exact Ct.ite (h _ _) (h _ _)
   |normal=>exact h _ _
   |ret=>exact h _ _
  cases hl:QgC c with
  |true=>
   cases c with
   |loop x=>
    simp only[Qo3]
    exact QoZ hL f s _ _ hK _
   |_=>cases hl
  |false=>
   simp only[Qqt hl]
   exact ih s _ _ hK
 |exit i=>intro s K KK h;exact h _ _
 |ret=>intro s K KK h;exact h _ _
 |_=>intros;exact Ct.none
theorem Qyx (hD:∀f x,Ct (D f x) fun n=>DD n f x) (hL:∀f b x,Ct (L f b x) fun n=>LL n f b x) (f:Nat) (x:Qe (E.sig f).ins):Ct (Qap E D L f x) fun n=>Qap E (DD n) (LL n) f x:=by
 unfold Qap
 cases E.ext f with
 |some g=>exact Ct.same _
 |none=>exact Qy9 hD hL f _ _ _ _ fun e s=>Ct.same _
theorem Qkg (hL:∀f b x,Ct (L f b x) fun n=>LL n f b x) (f b:Nat) (s:St):(l:List Nat)->Ct (xU E L f b s l) fun n=>xU E (LL n) f b s l
 | []=>Ct.none
 |b'::l=>by
  simp only[xU]
  refine Ct.ite ?_ Ct.none
  cases dec (E.lsig f b').sk s with
  |none=>exact Qkg hL f b s l
  |some v=>exact Ct.bind (hL f b' v) fun z=>Qnz _ _ _ _ _ fun e s=>Ct.same _
theorem Qw4 (hD:∀f x,Ct (D f x) fun n=>DD n f x) (hL:∀f b x,Ct (L f b x) fun n=>LL n f b x) (f b:Nat) (x:Qe (E.lsig f b).sk.tys):Ct (QaG E D L f b x) fun n=>QaG E (DD n) (LL n) f b x:=by
 unfold QaG
 refine Qy9 hD hL f _ _ _ _ fun e s=> ?_
 cases e with
 |normal=>
  simp only[Qvk]
  cases dec (E.lsig f b).sk s with
  |some v'=>exact hL f b v'
  |none=>exact Qkg hL f b s _
 |exit i=>exact Ct.same _
 |ret=>exact Ct.same _
end
theorem Evt.unique {α:Type}{X:Nat->Option α}{a b:α}(h:Evt fun n=>X n=some a) (h':Evt fun n=>X n=some b):a=b:=by
 obtain⟨n,e,e'⟩:=(h.and h').here
 rw[e]at e';exact QY9 e'
open Classical in
noncomputable def W (E:Env):Xb E:=fun f x=>if h:∃o,Qaj E f x o then some (Classical.choose h)else none
open Classical in
noncomputable def WL (E:Env):Vv E:=fun f b x=>if h:∃o,Qdo E f b x o then some (Classical.choose h)else none
theorem QDf {E:Env}{f:Nat}{x:Qe (E.sig f).ins}{o:Qe (E.sig f).outs}(h:Qaj E f x o):W E f x=some o:=by
 have hx:∃o,Qaj E f x o:=⟨o,h⟩
 unfold W
 rw[dif_pos hx]
 exact congrArg some (Evt.unique (Classical.choose_spec hx) h)
theorem QnC {E:Env}{f:Nat}{x:Qe (E.sig f).ins}{o:Qe (E.sig f).outs}(h:W E f x=some o):Qaj E f x o:=by
 unfold W at h
 split at h
 ·rename_i hx
  rw[<-QY9 h];exact Classical.choose_spec hx
 ·cases h
theorem QBH {E:Env}{f b:Nat}{x:Qe (E.lsig f b).sk.tys}{o:KY (ZT (E.lsig f b).exits)}(h:Qdo E f b x o):WL E f b x=some o:=by
 have hx:∃o,Qdo E f b x o:=⟨o,h⟩
 unfold WL
 rw[dif_pos hx]
 exact congrArg some (Evt.unique (Classical.choose_spec hx) h)
theorem Qrp {E:Env}{f b:Nat}{x:Qe (E.lsig f b).sk.tys}{o:KY (ZT (E.lsig f b).exits)}(h:WL E f b x=some o):Qdo E f b x o:=by
 unfold WL at h
 split at h
 ·rename_i hx
  rw[<-QY9 h];exact Classical.choose_spec hx
 ·cases h
theorem Qzz {E:Env}{f:Nat}{x:Qe (E.sig f).ins}{o:Qe (E.sig f).outs}(h:Qap E (W E) (WL E) f x=some o):W E f x=some o:=
 QDf (Qaj.step (Qyx (fun f x o h=>QnC h) (fun f b x o h=>Qrp h) f x o h))
theorem Qxl {E:Env}{f b:Nat}{x:Qe (E.lsig f b).sk.tys}{o:KY (ZT (E.lsig f b).exits)}(h:QaG E (W E) (WL E) f b x=some o):WL E f b x=some o:=
 QBH (Qdo.step (Qw4 (fun f x o h=>QnC h) (fun f b x o h=>Qrp h) f b x o h))
end Go.Eng
namespace Go.Eng
open Go
def ap {E:Env}{f:Nat}{A B:Type}(hA:Qe (E.sig f).ins=A) (hB:Qe (E.sig f).outs=B) (D:Xb E) (a:A):Option B:=cast (congrArg Option hB) (D f (cast hA.symm a))
def apL {E:Env}{f b:Nat}{A B:Type}(hA:Qe (E.lsig f b).sk.tys=A) (hB:KY (ZT (E.lsig f b).exits)=B) (L:Vv E) (a:A):Option B:=cast (congrArg Option hB) (L f b (cast hA.symm a))
theorem QyD {E:Env}{f:Nat}{A B:Type}(hA:Qe (E.sig f).ins=A) (hB:Qe (E.sig f).outs=B) {a:A}{r:Option B}{o:B}(e:ap hA hB (Qap E (W E) (WL E)) a=r) (h:r=some o):ap hA hB (W E) a=some o:=by
 subst hA hB
 exact Qzz (e.trans h)
theorem Qv2 {E:Env}{f b:Nat}{A B:Type}(hA:Qe (E.lsig f b).sk.tys=A) (hB:KY (ZT (E.lsig f b).exits)=B) {a:A}{r:Option B}{o:B}(e:apL hA hB (QaG E (W E) (WL E)) a=r) (h:r=some o):apL hA hB (WL E) a=some o:=by
 subst hA hB
 exact Qxl (e.trans h)
theorem QzX {P:Program}{E:Env}(hT:Xq P E) (hE:EnvCode P E) (hLo:EnvLoops E) (hmix:P.follows .mixedOrders=true) {f:Nat}(hf:E.fok f=true) {A B:Type}(hA:Qe (E.sig f).ins=A) (hB:Qe (E.sig f).outs=B) {a:A}{o:B}(h:ap hA hB (W E) a=some o):
 Qg8 P E.gg (E.sig f) (E.real f) (unpack _ (cast hA.symm a)) (unpack _ (cast hB.symm o)):=by
 subst hA hB
 exact Qaj.spec hT hE hLo hmix hf (QnC h)
end Go.Eng
namespace Go.Eng
open Go
set_option linter.unusedVariables false
mutual
def Fit:(t:Ty)->Val t->Prop
 | .int k,n=>(Lit.int k n).wf=true
 | .bool,_=>True
 | .str,s=>ByteArray.size s<=maxLen
 | .sl ts,xs=>(vl xs).length<=maxLen/\∀x∈vl xs,K9 ts x
def K9:(ts:Tys)->Qe ts->Prop
 | .nil,_=>True
 | .cons t ts,x=>Fit t (vhd x)/\K9 ts (vtl x)
end
def Rd (w:World) (ts:Tys) (cs:List Value):Prop:=∃(x:Qe ts) (bl:List Nat),Xc w ts x cs bl/\K9 ts x/\∀b∈bl,b<w.heap.size
theorem Rd.nil {w:World}:Rd w .nil []:=⟨(),[],⟨rfl,rfl⟩,trivial,by simp⟩
theorem Qgy {t:Ty}{ts:Tys}(a:Val t) (b:Qe ts):vhd (vmk a b)=a:=by cases ts<;>rfl
theorem QgJ {t:Ty}{ts:Tys}(a:Val t) (b:Qe ts):vtl (vmk a b)=b:=by cases ts<;>rfl
theorem Rd.cons {w:World}{t:Ty}{ts:Tys}{u:Value}{us:List Value}{a:Val t}{b1:List Nat}(h:Rep w t a u b1) (hf:Fit t a) (hb:∀b∈b1,b<w.heap.size) (h2:Rd w ts us):Rd w (.cons t ts) (u::us):=by
 obtain⟨x,bl,h3,h4,h5⟩:=h2
 refine⟨vmk a x,b1++bl,⟨u,us,b1,bl,rfl,rfl, ?_, ?_⟩,⟨?_, ?_⟩,fun b hb'=> ?_⟩
 ·rw[Qgy];exact h
 ·rw[QgJ];exact h3
 ·rw[Qgy];exact hf
 ·rw[QgJ];exact h4
 ·rcases QRh.1 hb' with h|h
  ·exact hb b h
  ·exact h5 b h
theorem Rd.uncons {w:World}{t:Ty}{ts:Tys}{cs:List Value}(h:Rd w (.cons t ts) cs):∃u us a b1,cs=u::us/\Rep w t a u b1/\Fit t a/\(∀b∈b1,b<w.heap.size)/\Rd w ts us:=by
 obtain⟨x,bl,⟨u,us,b1,b2,e1,e2,h1,h2⟩,⟨h3,h4⟩,h5⟩:=h
 exact⟨u,us,vhd x,b1,e1,h1,h3,fun b hb=>h5 b (by rw[e2];exact List.mem_append_left _ hb),vtl x,b2,h2,h4,fun b hb=>h5 b (by rw[e2];exact List.mem_append_right _ hb)⟩
theorem Rd.app {w:World}: {ts us:Tys}-> {cs ds:List Value}->Rd w ts cs->Rd w us ds->Rd w (ts.app us) (cs++ds)
 | .nil,us,cs,ds,⟨_,_,⟨h,_⟩,_,_⟩,h'=>by subst h;exact h'
 | .cons t ts,us,cs,ds,h,h'=>by
   obtain⟨u,us',a,b1,rfl,h1,h2,h3,h4⟩:=h.uncons
   exact Rd.cons h1 h2 h3 (Rd.app h4 h')
theorem Rd.len {w:World}: {ts:Tys}-> {cs:List Value}->Rd w ts cs->cs.length=ts.len
 | .nil,cs,⟨_,_,⟨h,_⟩,_,_⟩=>by subst h;rfl
 | .cons t ts,cs,h=>by
   obtain⟨u,us',a,b1,rfl,h1,h2,h3,h4⟩:=h.uncons
   simp[Tys.len,Rd.len h4]
def Tys.strip:Tys->Tys->Option Tys
 | .nil,ts=>some ts
 | .cons t ts, .cons u us=>match Ty.eq? t u with|some _=>Tys.strip ts us|none=>none
 | .cons _ _, .nil=>none
theorem Tys.Qmy:(a b c:Tys)->Tys.strip a b=some c->b=a.app c
 | .nil,b,c,h=>by simp only[Tys.strip,Option.some.injEq]at h;exact h
 | .cons t ts, .nil,c,h=>by cases h
 | .cons t ts, .cons u us,c,h=>by
   simp only[Tys.strip]at h
   split at h
   ·rename_i p _
    obtain⟨p⟩:=p
    subst p
    simp only[Tys.app]
    rw[Tys.Qmy ts us c h]
   ·cases h
def QdF (a b:Tys):Bool:=match Tys.eq? a b with|some _=>true|none=>false
theorem xm {a b:Tys}(h:QdF a b=true):a=b:=by
 unfold QdF at h
 split at h
 ·rename_i p _;exact p.down
 ·cases h
def QjB (P:Program) (ty:Nat->TI):Nat->List Field->Tys->Bool
 |_,[],ts=>(match ts with| .nil=>true|_=>false)
 |off,f::fs,ts=>(ty f.type).ok&&Nat.beq f.offset off&&Nat.beq (P.cellsOf f.type) (ty f.type).ts.len&&(match(ty f.type).ts.strip ts with|some rest=>QjB P ty (off+(ty f.type).ts.len) fs rest|none=>false)
def rdB (P:Program) (ty:Nat->TI) (T:Nat) (i:TI):Bool:= !i.ok||(match P.underlying T with
 |some (.int k)=> !i.agg&&QdF i.ts (.cons (.int k) .nil)
 |some .bool=> !i.agg&&QdF i.ts (.cons .bool .nil)
 |some .string=> !i.agg&&QdF i.ts (.cons .str .nil)
 |some (.slice e)=> !i.agg&&(ty e).ok&&Nat.blt 0 (ty e).ts.len&&Nat.beq (P.cellsOf e) (ty e).ts.len&&QdF i.ts (.cons (.sl (ty e).ts) .nil)
 |some (.struct fs)=>i.agg&&Nat.beq (P.cellsOf T) i.ts.len&&QjB P ty 0 fs.toList i.ts
 |_=>false)
theorem Qtm {w:World}{ts:Tys}{a:Addr}:(n:Nat)->(∀i,i<n->∃us,Cells w a (i*ts.len) us/\Rd w ts us)->∃(xs:List (Qe ts)) (bls:List (List Nat)),xs.length=n/\bls.length=n/\(∀x∈xs,K9 ts x)/\(∀b∈bls.flatten,b<w.heap.size)/\
 ∀(i:Nat) (x:Qe ts) (b:List Nat),xs[i]? =some x->bls[i]? =some b->∃us,Cells w a (i*ts.len) us/\Xc w ts x us b
 |0,_=>⟨[],[],rfl,rfl,by simp,by simp,by simp⟩
 |n+1,h=>by
  obtain⟨xs,bls,h1,h2,h3,h4,h5⟩:=Qtm n fun i hi=>h i (by omega)
  obtain⟨us,c1,x,bl,c2,c3,c4⟩:=h n (by omega)
  refine⟨xs++[x],bls++[bl],by simp[h1],by simp[h2],fun y hy=> ?_,fun b hb=> ?_,fun i y b hy hb=> ?_⟩
  ·rcases QRh.1 hy with h|h
   ·exact h3 y h
   ·rw[List.mem_singleton.1 h];exact c3
  ·rw[QY16]at hb
   rcases QRh.1 hb with h|h
   ·exact h4 b h
   ·exact c4 b (by simpa using h)
  ·by_cases hi:i<n
   ·rw[List.getElem?_append_left (by omega)]at hy hb
    exact h5 i y b hy hb
   ·have hin:i=n:=by
     have:=(QRq.1 hy).1
     simp[h1]at this;omega
    subst hin
    rw[QY36 (by omega),h1,Nat.sub_self]at hy
    rw[QY36 (by omega),h2,Nat.sub_self]at hb
    simp at hy hb;subst hy hb
    exact⟨us,c1,c2⟩
section
variable {H:Type}{enc:TypeId×Value->H}{P:Program}{w:World}{sp:Nat->Bool}{held:Bool}{ty:Nat->TI}
theorem Qkb {n:Nat}(ih:∀T cs y,(ty T).ok=true->DataW.trod enc P w 0 sp held n T cs=some y->Rd w (ty T).ts cs) (cs:List Value):(fs:List Field)->(off:Nat)->(ts:Tys)->QjB P ty off fs ts=true->
 (∀f∈fs,∃y,DataW.trod enc P w 0 sp held n f.type ((cs.drop f.offset).take (P.cellsOf f.type))=some y)->cs.length=off+ts.len->Rd w ts (cs.drop off)
 | [],off,ts,h,_,hl=>by
   cases ts with
   |nil=>
    simp only[Tys.len]at hl
    rw[List.drop_of_length_le (by omega)];exact Rd.nil
   |cons _ _=>cases h
 |f::fs,off,ts,h,hf,hl=>by
  simp only[QjB,QQ5,QY12]at h
  obtain⟨⟨⟨h1,h2⟩,h3⟩,h4⟩:=h
  split at h4
  ·rename_i rest hs
   have e:=Tys.Qmy _ _ _ hs
   obtain⟨y,hy⟩:=hf f (by simp)
   have r:=ih _ _ _ h1 hy
   have hlen:=r.len
   rw[h2,h3]at r hlen
   have e2:ts.len=(ty f.type).ts.len+rest.len:=by
    rw[e]
    generalize (ty f.type).ts=a
    have:∀a:Tys,(a.app rest).len=a.len+rest.len:=by
     intro a
     induction a using Tys.rec (motive_1:=fun _=>True)with
     |nil=>simp[Tys.app,Tys.len]
     |cons t ts _ iht=>simp only[Tys.app,Tys.len,iht];omega
     |_=>trivial
    exact this a
   have r2:=Qkb ih cs fs (off+(ty f.type).ts.len) rest h4 (fun g hg=>hf g (by simp[hg])) (by omega)
   have:=r.app r2
   rw[<-e]at this
   have e3:(cs.drop off).take (ty f.type).ts.len++cs.drop (off+(ty f.type).ts.len)=cs.drop off:=by
    rw[<-List.drop_drop];exact List.take_append_drop _ _
   rw[e3]at this
   exact this
  ·cases h4
theorem read (hB:∀T,rdB P ty T (ty T)=true):(fuel:Nat)->(T:Nat)->(cs:List Value)->(y:DataW H×List MemPlace)->(ty T).ok=true->DataW.trod enc P w 0 sp held fuel T cs=some y->Rd w (ty T).ts cs
 |0,T,cs,y,_,h=>by simp[DataW.trod]at h
 |fuel+1,T,cs,y,hok,h=>by
  have hb:=hB T
  simp only[rdB,hok,QQ3,Bool.false_or]at hb
  split at hb
  ·rename_i k hu
   simp only[QQ5]at hb
   rw[xm hb.2]
   obtain⟨n,rfl,_,hw⟩:=DataW.trod_int hu h
   exact Rd.cons (a:=(show Val (.int k)from n)) (b1:=[]) ⟨rfl,rfl⟩ hw (by simp) Rd.nil
  ·rename_i hu
   simp only[QQ5]at hb
   rw[xm hb.2]
   obtain⟨b,rfl,_⟩:=DataW.trod_bool hu h
   exact Rd.cons (a:=(show Val .bool from b)) (b1:=[]) ⟨rfl,rfl⟩ trivial (by simp) Rd.nil
  ·rename_i hu
   simp only[QQ5]at hb
   rw[xm hb.2]
   obtain⟨s,rfl,_,hs⟩:=DataW.trod_string hu h
   exact Rd.cons (a:=(show Val .str from s)) (b1:=[]) ⟨rfl,rfl⟩ hs (by simp) Rd.nil
  ·rename_i e hu
   simp only[QQ5,QY12,Nat.blt_eq]at hb
   obtain⟨⟨⟨⟨_,h1⟩,h2⟩,h3⟩,h4⟩:=hb
   rw[xm h4]
   rcases DataW.trod_slice hu h with⟨rfl,_⟩|⟨a,len,cap,elems,rest,n,hn,rfl,_,_,hl,hm,hlen,hel,_,_⟩
   ·exact Rd.cons (a:=(show Val (.sl (ty e).ts)from([]:List (Qe (ty e).ts)))) (b1:=[]) ⟨none,0,rfl,⟨QY1 _,fun _=>rfl⟩, .inl ⟨rfl,rfl⟩⟩ ⟨by simp[vl],by simp[vl]⟩ (by simp) Rd.nil
   ·obtain rfl:fuel=n:=by omega
    have each:∀i,i<len->∃us,Cells w a (i*(ty e).ts.len) us/\Rd w (ty e).ts us/\a.block<w.heap.size:=by
     intro i hi
     have h5:=hel i hi
     rw[QRp (by omega)]at h5
     obtain⟨us,h6,h7⟩:=Option.bind_eq_some_iff.1 h5
     refine⟨us,fun j u hj=> ?_,read hB fuel e us _ h1 h7, ?_⟩
     ·obtain⟨_,g1,g2⟩:=World.cells?_some h6
      have hj':j<us.length:=(QRq.1 hj).1
      have:=g2 j (by omega)
      rw[Addr.add_add,h3,hj]at this
      exact this
     ·have:=World.cells?_block h6 (by omega)
      rwa[Qju]at this
    obtain⟨xs,bls,x1,x2,x3,x4,x5⟩:=Qtm (w:=w) (ts:=(ty e).ts) (a:=a) len fun i hi=>by
     obtain⟨us,c1,c2,_⟩:=each i hi
     exact⟨us,c1,c2⟩
    by_cases h0:len=0
    ·subst h0
     have x1:xs=[]:=QRx x1
     exact Rd.cons (a:=(show Val (.sl (ty e).ts)from([]:List (Qe (ty e).ts)))) (b1:=[]) ⟨some a,cap,rfl,⟨Nat.zero_le _,fun h=>by cases h⟩, .inl ⟨rfl,rfl⟩⟩ ⟨by simp[vl],by simp[vl]⟩ (by simp) Rd.nil
    ·refine Rd.cons (a:=(show Val (.sl (ty e).ts)from xs)) (b1:=a.block::bls.flatten) ⟨some a,cap,by rw[show(vl (show Val (.sl (ty e).ts)from xs)).length=len from x1],⟨by rw[show(vl (show Val (.sl (ty e).ts)from xs)).length=len from x1];exact hl,fun h=>by cases h⟩, .inr ⟨a,bls,rfl,rfl,by rw[x2];exact x1.symm,x5⟩⟩ ⟨by rw[show(vl (show Val (.sl (ty e).ts)from xs)).length=len from x1];omega,x3⟩ (fun b hb=> ?_) Rd.nil
     rcases QRk.1 hb with h|h
     ·obtain⟨_,_,_,h7⟩:=each 0 (by omega)
      rw[h];exact h7
     ·exact x4 b h
  ·rename_i fs hu
   simp only[QQ5,QY12]at hb
   obtain⟨⟨_,h2⟩,h3⟩:=hb
   obtain⟨xs,n,hn,_,hl,hx,hf⟩:=DataW.trod_struct hu h
   obtain rfl:fuel=n:=by omega
   have:=Qkb (read hB fuel) cs fs.toList 0 (ty T).ts h3 (fun f hfm=>by
    obtain⟨i,hi,he⟩:=List.mem_iff_getElem.1 hfm
    have h5:=hf i f (by rw[Array.getElem?_eq_getElem (by simpa using hi)];simpa using he)
    exact⟨xs[i]'(by rw[hx];simpa using hi),by rw[h5,QRp]⟩) (by omega)
   rwa[QRg]at this
  ·cases hb
end
end Go.Eng
namespace Go.Eng
open Go Go.RowKit
set_option linter.unusedVariables false
def Qqq (ty:Nat->TI):List TypeId->List PSig->Bool
 | [],[]=>true
 |T::Ts, .val a cs::ps=>(ty T).ok&&(a==(ty T).agg)&&cs.all (fun c=>c.1.QJ)&&QdF (qI cs) (ty T).ts&&Qqq ty Ts ps
 |_,_=>false
section
variable {H:Type}{enc:TypeId×Value->H}{P:Program}{w:World}{sp:Nat->Bool}{held:Bool}{ty:Nat->TI}
theorem QtK {R:Nat->Prop}(hR:∀b,b<w.heap.size->R b):(cs:List (Mode×Ty))->(us:List Value)->cs.all (fun c=>c.1.QJ)=true->Rd w (qI cs) us->∃x:Qe (qI cs),K9 (qI cs) x/\∃bls,bls.flatten=[]/\jU w R cs (unpack _ x) us bls
 | [],us,_,⟨x,bl,⟨h,_⟩,_,_⟩=>⟨(),trivial,[],rfl,rfl,h,rfl⟩
 |(.ro,t)::l,us,h,hr=>by
  simp only[QY20,QQ5]at h
  obtain⟨u,us',a,b1,rfl,h1,h2,h3,h4⟩:=Rd.uncons (ts:=qI l) hr
  obtain⟨x,f1,bls,e1,c1⟩:=QtK hR l us' h.2 h4
  refine⟨(vmk a x:Qe (.cons t (qI l))),⟨by rw[Qgy];exact h2,by rw[QgJ];exact f1⟩,[]::bls,by simp[e1],⟨t,a⟩,unpack _ x,u,us',[],bls, ?_,rfl,rfl,⟨rfl, ?_⟩,c1⟩
  ·show(⟨t,vhd (vmk a x)⟩:TV)::unpack (qI l) (vtl (vmk a x))=_
   rw[Qgy,QgJ]
  ·have:takes .ro t=false:=by simp[takes,Mode.QJ]
   rw[this]
   exact⟨rfl,b1,h1,fun c hc=>hR c (h3 c hc)⟩
 |(.mut,t)::l,us,h,hr=>by simp[Mode.QJ]at h
 |(.own,t)::l,us,h,hr=>by simp[Mode.QJ]at h
 |(.junk,t)::l,us,h,hr=>by simp[Mode.QJ]at h
theorem QlY:(a b:Tys)->(x:Qe a)->(y:Qe b)->∃z:Qe (a.app b),unpack _ z=unpack _ x++unpack _ y/\(K9 a x->K9 b y->K9 (a.app b) z)
 | .nil,b,x,y=>⟨y,rfl,fun _ h=>h⟩
 | .cons t ts,b,x,y=>by
   obtain⟨z,h1,h2⟩:=QlY ts b (vtl x) y
   refine⟨(vmk (vhd x) z:Qe (.cons t (ts.app b))), ?_,fun hx hy=>⟨?_, ?_⟩⟩
   ·show(⟨t,vhd (vmk (vhd x) z)⟩:TV)::unpack (ts.app b) (vtl (vmk (vhd x) z))=_
    rw[Qgy,QgJ,h1];rfl
   ·rw[Qgy];exact hx.1
   ·rw[QgJ];exact h2 hx.2 hy
theorem Qta {base:Nat}{T:TypeId}{v:Value}(hok:(ty T).ok=true) (hB:rdB P ty T (ty T)=true) (h:Value.okWide P w .any base T v):(if(ty T).agg then v= .agg v.cells.toList.toArray else v.cells.toList=[v]):=by
 simp only[rdB,hok,QQ3,Bool.false_or]at hB
 unfold Value.okWide at h
 split at hB
 ·rename_i k hu
  simp only[QQ5,QY11]at hB
  rw[hu]at h
  simp only[Cell.okWide,Cell.ok,hu]at h
  rw[hB.1]
  cases v<;>simp_all[Value.cells]
 ·rename_i hu
  simp only[QQ5,QY11]at hB
  rw[hu]at h
  simp only[Cell.okWide,Cell.ok,hu]at h
  rw[hB.1]
  cases v<;>simp_all[Value.cells]
 ·rename_i hu
  simp only[QQ5,QY11]at hB
  rw[hu]at h
  simp only[Cell.okWide,Cell.ok,hu]at h
  rw[hB.1]
  cases v<;>simp_all[Value.cells]
 ·rename_i e hu
  simp only[QQ5,QY11]at hB
  rw[hu]at h
  simp only[Cell.okWide,Cell.ok,hu]at h
  rw[hB.1.1.1.1]
  cases v<;>simp_all[Value.cells]
 ·rename_i fs hu
  simp only[QQ5]at hB
  rw[hu]at h
  obtain⟨cs,rfl,_⟩:=h
  rw[hB.1.1]
  simp[Value.cells]
 ·cases hB
theorem QqY {base:Nat}{R:Nat->Prop}(hR:∀b,b<w.heap.size->R b) (hB:∀T,rdB P ty T (ty T)=true):(Ts:List TypeId)->(ps:List PSig)->(vs:List Value)->(ds:List (DataW H))->(p:List MemPlace)->Qqq ty Ts ps=true->DataW.TrodAll enc P w 0 sp held Ts vs ds p->
 (∀(j:Nat) t v,Ts[j]? =some t->vs[j]? =some v->Value.okWide P w .any base t v)->∃a:Qe (QhN ps),K9 _ a/\∃bls,bls.flatten=[]/\ju w R ps (unpack _ a) vs [] bls
 | [],[],[],[],p,_,_,_=>⟨(),trivial,[],rfl,rfl,rfl,rfl,rfl⟩
 | [],[],_::_,_,p,_,h,_=>by cases h
 | [],[],[],_::_,p,_,h,_=>by cases h
 | [],_::_,_,_,p,h,_,_=>by cases h
 |_::_,[],_,_,p,h,_,_=>by cases h
 |_::_, .ptr _::_,_,_,p,h,_,_=>by cases h
 |_::_, .fn _ _::_,_,_,p,h,_,_=>by cases h
 |_::_, .val _ _::_,[],_,p,_,h,_=>by cases h
 |_::_, .val _ _::_,_::_,[],p,_,h,_=>by cases h
 |T::Ts, .val a cs::ps,v::vs,d::ds,p,h,ht,hval=>by
  simp only[Qqq,QQ5,beq_iff_eq]at h
  obtain⟨⟨⟨⟨h1,h2⟩,h3⟩,h4⟩,h5⟩:=h
  obtain⟨p1,q1,⟨fuel,k1⟩,k2,_⟩:=ht
  have r:=read hB fuel T _ _ h1 k1
  rw[<-xm h4]at r
  obtain⟨x,f1,b1,e1,c1⟩:=QtK hR cs _ h3 r
  obtain⟨y,f2,b2,e2,c2⟩:=QqY hR hB Ts ps vs ds q1 h5 k2 (fun j t v hj hv=>hval (j+1) t v (by simpa using hj) (by simpa using hv))
  obtain⟨z,g1,g2⟩:=QlY (qI cs) (QhN ps) x y
  refine⟨z,g2 f1 f2,b1++b2,by simp[e1,e2],unpack _ x,unpack _ y,v,vs,[],[],b1,b2,g1,rfl,rfl,rfl,⟨rfl,v.cells.toList, ?_,c1⟩,c2⟩
  have:=Qta h1 (hB T) (hval 0 T v rfl rfl)
  rw[<-h2]at this
  exact this
end
theorem QxS {w w':World}(h:Grow (·∈([]:List Nat)) w w'):Below w.heap.size w w':=⟨h.os,h.tape,h.output,h.size,fun k hk=>h.block k hk (by simp)⟩
def Mode.Qws:Mode->Bool
 | .junk=>true
 |_=>false
theorem QuC {H:Type}{enc:TypeId×Value->H}{P:Program}{E:Env}(hT:Xq P E) (hE:EnvCode P E) (hLo:EnvLoops E) (hmix:P.follows .mixedOrders=true) (hB:∀T,rdB P E.ty T (E.ty T)=true) {f:Nat}(hf:E.fok f=true)
 {tys:Tys}(ht:(E.sig f).ins=tys) {m:Mode}(hrs:(E.sig f).rs=[.val false [(m, .bool)]]) (hm:m.Qws=false) (hto:(E.sig f).outs= .cons .bool .nil) (pure:∀a:Qe tys,K9 tys a->ap (congrArg Qe ht) (congrArg Qe hto) (W E) a=some (show Qe (.cons .bool .nil)from true))
 {w:World}{sp:Nat->Bool}{held:Bool}{Ts:List TypeId}(hlaw:Qqq E.ty Ts (E.sig f).ps=true) {vs:List Value}{ds:List (DataW H)}{p:List MemPlace}(htr:DataW.TrodAll enc P w 0 sp held Ts vs ds p) {base:Nat}(hval:∀(j:Nat) t v,Ts[j]? =some t->vs[j]? =some v->Value.okWide P w .any base t v) (hgl:E.gg.gl w) (hgb:∀b∈E.gg.gb,b<w.heap.size):
 Calls P (E.real f) vs.toArray w fun e w'=>e= .returned (.bool true)/\Below w.heap.size w w':=by
 subst ht
 obtain⟨a,ha,bls,hbls,hin⟩:=QqY (R:=fun b=>b<w.heap.size) (fun b h=>h) hB Ts _ vs ds p hlaw htr hval
 have hs:=QzX hT hE hLo hmix hf _ _ (pure a ha)
 refine(hs w (fun b=>b<w.heap.size) vs [] bls hgl hgb hin (by simp[hbls]) (by simp[hbls]) (fun b hb=>⟨hb,by simp[hbls]⟩)).mono ?_
 rintro e w' ⟨v,rfl,hgrow,rx,px,rvs,rbs,rbls,pbls,Q,h1,h2,h3,_⟩
 rw[hbls]at hgrow
 refine⟨?_,QxS hgrow⟩
 have hu:unpack (E.sig f).outs (cast (congrArg Qe hto).symm (show Qe (.cons .bool .nil)from true))=[⟨.bool,true⟩]:=by
  have:∀(ts:Tys) (h:ts= .cons .bool .nil),unpack ts (cast (congrArg Qe h).symm (show Qe (.cons .bool .nil)from true))=[⟨.bool,true⟩]:=by
   intro ts h;subst h;rfl
  exact this _ hto
 rw[hu]at h1
 rw[hrs]at h3
 obtain⟨x1,x2,v1,vs',b1,b2,l1,l2,e1,e2,_,_,⟨_,us,hus,hc⟩,hrest⟩:=h3
 obtain⟨e3,e4,_,_⟩:=hrest
 have hus:us=[v1]:=hus
 subst hus e4 e2 e3 h2
 have hfin:∀(x:TV) (xs':List TV) (u:Value) (us':List Value) (bl:List Nat),x1=x::xs'->[v]=u::us'->YR w' Q m .bool x u bl->v= .bool true:=by
  intro x xs' u us' bl hx hu' ⟨ht,hc⟩
  have:takes m .bool=false:=rfl
  rw[this]at hc
  obtain⟨_,b',hr,_⟩:=hc
  cases hu'
  rw[e1,hx]at h1
  simp only[QRv,QY10]at h1
  obtain⟨rfl,_⟩:=List.cons.inj h1
  exact hr.1
 have:v= .bool true:=by
  cases m
  case junk=>cases hm
  all_goals
   obtain⟨x,xs',u,us',bl,bls',q1,q2,_,q3,_⟩:=hc
   exact hfin x xs' u us' bl q1 q2 q3
 rw[this]
theorem QC1 {H:Type}{enc:TypeId×Value->H}{P:Program}{E:Env}(hT:Xq P E) (hE:EnvCode P E) (hLo:EnvLoops E) (hmix:P.follows .mixedOrders=true) (hB:∀T,rdB P E.ty T (E.ty T)=true) {f:Nat}(hf:E.fok f=true)
 {tys:Tys}(ht:(E.sig f).ins=tys) {m:Mode}(hrs:(E.sig f).rs=[.val false [(m, .bool)]]) (hm:m.Qws=false) (hto:(E.sig f).outs= .cons .bool .nil) (pure:∀a:Qe tys,K9 tys a->ap (congrArg Qe ht) (congrArg Qe hto) (W E) a=some (show Qe (.cons .bool .nil)from true))
 {w:World}{sp:Nat->Bool}{held:Bool}{Ts:List TypeId}(hlaw:Qqq E.ty Ts (E.sig f).ps=true) {vs:List Value}{ds:List (DataW H)}{p:List MemPlace}(htr:DataW.TrodAll enc P w 0 sp held Ts vs ds p) {base:Nat}(hval:∀(j:Nat) t v,Ts[j]? =some t->vs[j]? =some v->Value.okWide P w .any base t v) (hgg:E.gg=Glob.none:=by rfl):
 Calls P (E.real f) vs.toArray w fun e w'=>e= .returned (.bool true)/\Below w.heap.size w w':=
 QuC hT hE hLo hmix hB hf ht hrs hm hto pure hlaw htr hval (by rw[hgg];trivial) (fun b hb=>by rw[hgg]at hb;cases hb)
def ti0:TI:=⟨false,false, .nil,0,0,[],false⟩
theorem QBe {P:Program}{ty:BT TI}(h:ty.all (rdB P (ty.get ti0))=true) (T:Nat):rdB P (ty.get ti0) T (ty.get ti0 T)=true:=by
 rcases BT.Qc4 (d:=ti0) ty h T with h|h
 ·exact h
 ·rw[h];rfl
theorem QDK {P:Program}{ty:BT TI}(h:ty.all (fun _ i=> !i.eqOk)=true) (T:Nat):Qw7 P T (ty.get ti0 T):=by
 intro he
 rcases BT.Qc4 (d:=ti0) ty h T with h|h
 ·rw[he]at h;cases h
 ·rw[h]at he;cases he
theorem BT.QoJ {α:Type}{f:Nat->α->Bool}{p:Nat->α->Prop}(hp:∀k v,f k v=true->p k v):(t:BT α)->t.all f=true->t.Qi1 p
 | .leaf,_=>trivial
 | .node k v l r,h=>by
   simp only[BT.all,QQ5]at h
   exact⟨hp k v h.1.1,BT.QoJ hp l h.1.2,BT.QoJ hp r h.2⟩
theorem QyF {t:BT Func}(h:t.all (fun _ fn=> !(fn.name== "runtime.NumGoroutine"))=true):t.Qi1 fun _ fn=>(fn.name== "runtime.NumGoroutine")=false:=
 BT.QoJ (fun _ _ h=>by simpa using h) t h
end Go.Eng
namespace Go.Eng
open Go
theorem w64 {n:Int}(h1: -9223372036854775808<=n) (h2:n<=9223372036854775807):wR n=n:=IntWalk.i64_in n ⟨h1,h2⟩
theorem QzI (i n:Nat):inb (i:Int) n=decide (i<n):=by
 unfold inb
 by_cases h:i<n
 ·simp[h]
 ·simp[h]
theorem Qo {i n:Nat}(h:i<n):inb (i:Int) n=true:=by rw[QzI];simpa using h
theorem Qj {α:Type}{d:α}{xs:List α}{i:Nat}(h:i<xs.length):rd1 d xs (i:Int)=xs[i]:=by
 unfold rd1
 rw[QRb]
 simp[List.getD,QRp h]
theorem ilt {i n:Nat}(h:i<n):decide ((i:Int)<(n:Int))=true:=by simp[h]
theorem Qw (n:Nat):decide ((n:Int)<(n:Int))=false:=by simp
theorem inc {i n:Nat}(h:i<n) (hn:n<=maxLen):wR ((i:Int)+1)=((i+1:Nat):Int):=by
 rw[w64]<;>simp[maxLen]at hn<;>omega
theorem QL {n b:Nat}(h:n*b<=140737488351232):fits n b=true:=by simp[fits,h]
theorem QvX {α:Type}{b:Bool}{x y:α}(h:b=true):(bif b then x else y)=x:=by rw[h];rfl
theorem YQ {α β R:Type}(xs:List α) (f:α->β) (K:Nat->List β->Option R) (fin:List β->R)
 (hstep:∀i (h:i<xs.length) (out:List β) r,out.length=xs.length->K (i+1) (out.set i (f xs[i]))=some r->K i out=some r)
 (hend:∀out:List β,out.length=xs.length->K xs.length out=some (fin out)) (out:List β) (ho:out.length=xs.length):K 0 out=some (fin (xs.map f)):=by
 have main:∀n i (out:List β),i+n=xs.length->out.length=xs.length->out.take i=(xs.map f).take i->K i out=some (fin (xs.map f)):=by
  intro n
  induction n with
  |zero=>
   intro i out hi ho ht
   have:i=xs.length:=by omega
   subst this
   rw[hend out ho]
   rw[List.take_of_length_le (by omega),List.take_of_length_le (by simp)]at ht
   rw[ht]
  |succ n ih=>
   intro i out hi ho ht
   refine hstep i (by omega) out _ ho (ih (i+1) _ (by omega) (by simp[ho]) ?_)
   rw[List.take_add_one,List.take_add_one,List.take_set_of_le (QY1 i),ht,List.getElem?_set_self (by omega)]
   simp[show i<xs.length by omega]
 exact main xs.length 0 out (by omega) ho (by simp)
theorem Qsw (b:ByteArray):∀n i (r:List UInt8),i+n=b.size->ByteArray.toList.loop b i r=r.reverse++b.data.toList.drop i:=by
 intro n
 induction n with
 |zero=>
  intro i r hi
  unfold ByteArray.toList.loop
  have hs:b.data.toList.length=b.size:=Array.length_toList
  rw[if_neg (by omega),List.drop_of_length_le (by omega),QY10]
 |succ n ih=>
  intro i r hi
  unfold ByteArray.toList.loop
  rw[if_pos (by omega),ih (i+1) _ (by omega)]
  have hs0:b.data.toList.length=b.size:=Array.length_toList
  have hs:i<b.data.toList.length:=by omega
  rw[QRa hs]
  have:b.get! i=b.data.toList[i]:=by
   have hsz:i<b.data.size:=by simpa using hs
   show b.data[i]! =_
   rw[getElem!_pos b.data i hsz]
   simp
  rw[this]
  simp
theorem toList_data (b:ByteArray):b.toList=b.data.toList:=by
 unfold ByteArray.toList
 rw[Qsw b b.size 0 [] (by omega)]
 simp
theorem QjA (a b:ByteArray):XI a b=decide (a=b):=by
 unfold XI
 rw[toList_data,toList_data]
 by_cases h:a=b
 ·subst h;simp
 ·have:¬a.data.toList=b.data.toList:=fun e=>h (by
   cases a;cases b
   exact congrArg ByteArray.mk (Array.toList_inj.1 e))
  rw[decide_eq_false h]
  exact beq_eq_false_iff_ne.2 this
theorem QtD {α:Type} [DecidableEq α] (a b:List α) (hl:a.length=b.length) (K:Nat->Option (Bool⊕Unit))
 (hne:∀i (h1:i<a.length) (h2:i<b.length),a[i]≠b[i]->K i=some (.inl false))
 (heq:∀i (h1:i<a.length) (h2:i<b.length) r,a[i]=b[i]->K (i+1)=some r->K i=some r)
 (hend:K a.length=some (.inr ())):K 0=some (if a=b then .inr ()else .inl false):=by
 have main:∀n i,i+n=a.length->K i=some (if a.drop i=b.drop i then .inr ()else .inl false):=by
  intro n
  induction n with
  |zero=>
   intro i hi
   have:i=a.length:=by omega
   subst this
   rw[hend,QRl,hl,QRl,if_pos rfl]
  |succ n ih=>
   intro i hi
   have h1:i<a.length:=by omega
   have h2:i<b.length:=by omega
   rw[QRa h1,QRa h2]
   by_cases hx:a[i]=b[i]
   ·refine heq i h1 h2 _ hx ?_
    rw[ih (i+1) (by omega),hx]
    simp only[List.cons.injEq,true_and]
   ·rw[hne i h1 h2 hx]
    simp only[List.cons.injEq,hx,false_and,if_false]
 have:=main a.length 0 (by omega)
 simpa only[QRg]using this
def Zc {α:Type}(c:α->Nat):List α->Nat
 | []=>0
 |x::l=>c x+Zc c l
def szR (n:Nat) (l:Int):Int⊕Int:=if(n:Int)<=l then .inr (l - n)else .inl (-1)
theorem QnD {n:Nat}{l:Int}(h:(n:Int)<=l):szR n l= .inr (l - n):=if_pos h
theorem QnF {n:Nat}{l:Int}(h:¬(n:Int)<=l):szR n l= .inl (-1):=if_neg h
theorem QvL {α:Type}(c:α->Nat) (x:α) (l:List α):Zc c (x::l)=c x+Zc c l:=rfl
theorem Qc7 {α:Type}(s:α->Nat) (xs:List α) (K:Int->Nat->Option (Int⊕Int)) (B:Int)
 (hin:∀l i (h:i<xs.length) r,0<=l->l<=B->(s xs[i]:Int)<=l->K (l - s xs[i]) (i+1)=some r->K l i=some r)
 (hout:∀l i (h:i<xs.length),0<=l->l<=B->¬(s xs[i]:Int)<=l->K l i=some (.inl (-1)))
 (hend:∀l,K l xs.length=some (.inr l)) (l:Int) (h0:0<=l) (hB:l<=B):K l 0=some (szR (Zc s xs) l):=by
 have main:∀(n i:Nat) (l:Int),i+n=xs.length->0<=l->l<=B->K l i=some (szR (Zc s (xs.drop i)) l):=by
  intro n
  induction n with
  |zero=>
   intro i l hi h0 hB
   have:i=xs.length:=by omega
   subst this
   rw[hend,QRl,QnD (show((Zc s []:Nat):Int)<=l from h0)]
   simp[Zc]
  |succ n ih=>
   intro i l hi h0 hB
   have h1:i<xs.length:=by omega
   rw[QRa h1,QvL]
   by_cases hs:(s xs[i]:Int)<=l
   ·refine hin l i h1 _ h0 hB hs ?_
    rw[ih (i+1) _ (by omega) (by omega) (by omega)]
    by_cases h2:(Zc s (xs.drop (i+1)):Int)<=l - s xs[i]
    ·rw[QnD h2,QnD (by omega)];congr 2;omega
    ·rw[QnF h2,QnF (by omega)]
   ·rw[hout l i h1 h0 hB hs,QnF (by omega)]
 have:=main xs.length 0 l (by omega) h0 hB
 simpa only[QRg]using this
theorem Zq {α:Type}(c:α->Nat):(l:List α)->(i:Nat)->(h:i<l.length)->c l[i]<=Zc c l
 |x::l,0,_=>by simp[Zc]
 |x::l,i+1,h=>by
  have:=Zq c l i (by simpa using h)
  simp only[List.getElem_cons_succ,Zc];omega
theorem Qxu {α:Type}(c:α->Nat) {l:List α}{x:α}(h:x∈l):c x<=Zc c l:=by
 obtain⟨i,hi,rfl⟩:=List.mem_iff_getElem.1 h
 exact Zq c l i hi
def szI (n:Nat) (l:Int):Int:=if(n:Int)<=l then l - n else -1
theorem Yz {n:Nat}{l:Int}(h:(n:Int)<=l):szI n l=l - n:=if_pos h
theorem Z8 {n:Nat}{l:Int}(h:¬(n:Int)<=l):szI n l= -1:=if_neg h
theorem vZ (n:Nat) (l:Int):Qp (szR n l) (fun u=>some u) (fun z=>some z)=some (szI n l):=by
 unfold szR szI;split<;>rfl
theorem YE {R:Type}(n:Nat) (K:Nat->Option R) (o:R) (hstep:∀i,i<n->∀r,K (i+1)=some r->K i=some r) (hend:K n=some o):K 0=some o:=by
 have main:∀m i,i+m=n->K i=some o:=by
  intro m
  induction m with
  |zero=>intro i hi;have:i=n:=by omega
         rw[this];exact hend
  |succ m ih=>intro i hi;exact hstep i (by omega) _ (ih (i+1) (by omega))
 exact main n 0 (by omega)
theorem df {p:Prop} [Decidable p] (h:¬p):decide p=false:=decide_eq_false h
theorem dt {p:Prop} [Decidable p] (h:p):decide p=true:=decide_eq_true h
theorem QZ (a:ByteArray):XI a a=true:=by rw[QjA];simp
theorem X4 {n m:Nat}{l:Int}{X:Option Int}{f:Int->Option Int}(h0:0<=l) (hX:X=some (szI n l)) (hf:(n:Int)<=l->f (l - n)=some (szI m (l - n))):(X.bind fun r=>bif decide (r<0)then some (-1)else f r)=some (szI (n+m) l):=by
 rw[hX,QQ0]
 by_cases h:(n:Int)<=l
 ·rw[Yz h,df (by omega),QQ2,hf h]
  by_cases h2:(m:Int)<=l - n
  ·rw[Yz h2,Yz (by omega)];congr 1;omega
  ·rw[Z8 h2,Z8 (by omega)]
 ·rw[Z8 h,dt (by omega),QQ1,Z8 (by omega)]
theorem ZR {l:Int}(h:0<=l):some l=some (szI 0 l):=by rw[Yz (by simpa using h)];simp
theorem Jc {n m:Nat}{l:Int}{f:Option Int}(h0:0<=l) (hB:l<=1048576) (hn:n<=maxLen) (hf:(n:Int)<=l->f=some (szI m (l - n))):(bif decide (wR (l - n)<0)then some (-1)else f)=some (szI (n+m) l):=by
 simp only[maxLen]at hn
 rw[w64 (by omega) (by omega)]
 by_cases h:(n:Int)<=l
 ·rw[df (by omega),QQ2,hf h]
  by_cases h2:(m:Int)<=l - n
  ·rw[Yz h2,Yz (by omega)];congr 1;omega
  ·rw[Z8 h2,Z8 (by omega)]
 ·rw[dt (by omega),QQ1,Z8 (by omega)]
theorem QW {R:Type}(n:Nat) (K:Nat->Option R) (M:Nat->R) (hstep:∀i,i<n->K (i+1)=some (M (i+1))->K i=some (M i)) (hend:K n=some (M n)):K 0=some (M 0):=by
 have main:∀m i,i+m=n->K i=some (M i):=by
  intro m
  induction m with
  |zero=>intro i hi;have:i=n:=by omega
         rw[this];exact hend
  |succ m ih=>intro i hi;exact hstep i (by omega) (ih (i+1) (by omega))
 exact main n 0 (by omega)
theorem Xu {S R:Type}(n:Nat) (K:Nat->S->Option R) (M:Nat->S->R) (Inv:Nat->S->Prop) (hstep:∀i,i<n->∀s,Inv i s->(∀s',Inv (i+1) s'->K (i+1) s'=some (M (i+1) s'))->K i s=some (M i s)) (hend:∀s,Inv n s->K n s=some (M n s)) (s:S) (hs:Inv 0 s):K 0 s=some (M 0 s):=by
 have main:∀m i,i+m=n->∀s,Inv i s->K i s=some (M i s):=by
  intro m
  induction m with
  |zero=>intro i hi s hs;have:i=n:=by omega
         subst this;exact hend s hs
  |succ m ih=>intro i hi s hs;exact hstep i (by omega) s hs (ih (i+1) (by omega))
 exact main n 0 (by omega) s hs
theorem Qjk {i:Nat}(h:0<i) (hn:i<=maxLen):wR ((i:Int) - 1)=((i - 1:Nat):Int):=by
 simp only[maxLen]at hn
 rw[w64 (by omega) (by omega)];omega
theorem ipos {i:Nat}(h:0<i):decide ((0:Int)<(i:Int))=true:=by simp[h]
theorem QhP:decide ((0:Int)<((0:Nat):Int))=false:=by simp
theorem Qlu {β:Type}{i n:Nat}(h:i<n) (f:Nat->List β):(List.range' i (n - i)).flatMap f=f i++(List.range' (i+1) (n - (i+1))).flatMap f:=by
 rw[show n - i=(n - (i+1))+1 by omega,List.range'_succ]
 simp
end Go.Eng
