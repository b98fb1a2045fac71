/- A meaning of the translated functions in plain typed values, and its soundness, part 4. No conditions. -/
import Derived.Test.YtiejfnbmficbmaaGreatEng3
import Derived.DataReads
import Derived.ChangeArms
import Derived.ChangeOld
import Derived.DataElems
import Derived.Below
import Derived.IntWalk
import GoSem.ClaimData
set_option linter.all false
namespace Go.Eng
open Go
set_option linter.unusedVariables false
def Evt (p:Nat->Prop):Prop:=∃N,∀n,N<=n->p n
theorem Evt.of {p:Nat->Prop}(h:∀n,p n):Evt p:=⟨0,fun n _=>h n⟩
theorem Evt.and {p q:Nat->Prop}(h:Evt p) (h':Evt q):Evt fun n=>p n/\q n:=
 let⟨N,g⟩:=h;let⟨M,g'⟩:=h';⟨max N M,fun n hn=>⟨g n (QY17 (Nat.le_max_left _ _) hn),g' n (QY17 (Nat.le_max_right _ _) hn)⟩⟩
theorem Evt.mono {p q:Nat->Prop}(h:Evt p) (hpq:∀n,p n->q n):Evt q:=let⟨N,g⟩:=h;⟨N,fun n hn=>hpq n (g n hn)⟩
theorem Evt.QNL {p q r:Nat->Prop}(h:Evt p) (h':Evt q) (hpq:∀n,p n->q n->r n):Evt r:=(h.and h').mono fun n ⟨a,b⟩=>hpq n a b
theorem Evt.succ {p:Nat->Prop}(h:Evt fun n=>p (n+1)):Evt p:=by
 obtain⟨N,g⟩:=h
 refine⟨N+1,fun n hn=> ?_⟩
 obtain⟨m,rfl⟩:∃m,n=m+1:=⟨n - 1,by omega⟩
 exact g m (by omega)
theorem Evt.here {p:Nat->Prop}(h:Evt p):∃n,p n:=let⟨N,g⟩:=h;⟨N,g N (QY2 N)⟩
def Ct {β:Type}(x:Option β) (X:Nat->Option β):Prop:=∀o,x=some o->Evt fun n=>X n=some o
theorem Ct.none {β:Type}{X:Nat->Option β}:Ct none X:=fun o h=>by cases h
theorem Ct.same {β:Type}(x:Option β):Ct x fun _=>x:=fun o h=>Evt.of fun _=>h
theorem Ct.bind {α β:Type}{x:Option α}{X:Nat->Option α}{f:α->Option β}{F:Nat->α->Option β}(h:Ct x X) (h':∀a,Ct (f a) fun n=>F n a):Ct (x.bind f) fun n=>(X n).bind (F n):=by
 intro o ho
 cases x with
 |none=>cases ho
 |some a=>exact(h a rfl).QNL (h' a o ho) fun n e e'=>show(X n).bind (F n)=some o from by rw[e];exact e'
theorem Ct.cond {β:Type}{b:Bool}{x y:Option β}{X Y:Nat->Option β}(h:Ct x X) (h':Ct y Y):Ct (bif b then x else y) fun n=>bif b then X n else Y n:=by
 cases b
 ·exact h'
 ·exact h
inductive RPC {γ:Type}:RP γ->(Nat->RP γ)->Prop
 |ret (x:γ):RPC (.ret x) fun _=> .ret x
 |fail {p:Nat->RP γ}:RPC .fail p
 |ZT (i:Nat) {f:Cell->RP γ}{F:Nat->Cell->RP γ}(h:∀c,RPC (f c) fun n=>F n c):RPC (.ZT i f) fun n=> .ZT i (F n)
 |xC (i:Nat) (c:Cell) {p:RP γ}{q:Nat->RP γ}(h:RPC p q):RPC (.xC i c p) fun n=> .xC i c (q n)
 |getC (r k:Nat) {f:Con->RP γ}{F:Nat->Con->RP γ}(h:∀c,RPC (f c) fun n=>F n c):RPC (.getC r k f) fun n=> .getC r k (F n)
 |setC (r k:Nat) (c:Con) {p:RP γ}{q:Nat->RP γ}(h:RPC p q):RPC (.setC r k c p) fun n=> .setC r k c (q n)
 |getI (r k:Nat) {f:Con->RP γ}{F:Nat->Con->RP γ}(h:∀c,RPC (f c) fun n=>F n c):RPC (.getI r k f) fun n=> .getI r k (F n)
 |setV (r k:Nat) (x:TV) {p:RP γ}{q:Nat->RP γ}(h:RPC p q):RPC (.setV r k x p) fun n=> .setV r k x (q n)
 |getB (r:Nat) {f:Nat×Nat->RP γ}{F:Nat->Nat×Nat->RP γ}(h:∀c,RPC (f c) fun n=>F n c):RPC (.getB r f) fun n=> .getB r (F n)
 |setB (r:Nat) (g:Nat×Nat) {p:RP γ}{q:Nat->RP γ}(h:RPC p q):RPC (.setB r g p) fun n=> .setB r g (q n)
 |br (b:Bool) {p p':RP γ}{q q':Nat->RP γ}(h:RPC p q) (h':RPC p' q'):RPC (.br b p p') fun n=> .br b (q n) (q' n)
 |brT (i:Nat) {p p':RP γ}{q q':Nat->RP γ}(h:RPC p q) (h':RPC p' q'):RPC (.brT i p p') fun n=> .brT i (q n) (q' n)
 |brG (i:Nat) (w:Bool) {p p':RP γ}{q q':Nat->RP γ}(h:RPC p q) (h':RPC p' q'):RPC (.brG i w p p') fun n=> .brG i w (q n) (q' n)
 |call (ts:Tys) {o:Option (Qm ts)}{O:Nat->Option (Qm ts)}{f:Qm ts->RP γ}{F:Nat->Qm ts->RP γ}(ho:Ct o O) (h:∀x,RPC (f x) fun n=>F n x):RPC (.call ts o f) fun n=> .call ts (O n) (F n)
theorem RPC.ev {γ β:Type}{p:RP γ}{q:Nat->RP γ}(h:RPC p q):∀(s:St) (K:γ->St->Option β) (KK:Nat->γ->St->Option β),(∀x s,Ct (K x s) fun n=>KK n x s)->Ct (p.ev s K) fun n=>(q n).ev s (KK n):=by
 induction h with
 |ret x=>intro s K KK hK;exact hK x s
 |fail=>intro s K KK hK;exact Ct.none
 |ZT i h ih=>intro s K KK hK;exact ih _ s K KK hK
 |xC i c h ih=>intro s K KK hK;exact Ct.cond (ih _ K KK hK) Ct.none
 |getC r k h ih=>intro s K KK hK;exact ih _ s K KK hK
 |setC r k c h ih=>intro s K KK hK;exact ih _ K KK hK
 |getI r k h ih=>intro s K KK hK;exact ih _ s K KK hK
 |setV r k x h ih=>intro s K KK hK;exact ih _ K KK hK
 |getB r h ih=>intro s K KK hK;exact ih _ s K KK hK
 |setB r g h ih=>intro s K KK hK;exact ih _ K KK hK
 |br b h h' ih ih'=>intro s K KK hK;exact Ct.cond (ih s K KK hK) (ih' s K KK hK)
 |brT i h h' ih ih'=>
  intro s K KK hK
  simp only[RP.ev]
  cases Xt (s.gT i)with
  |none=>exact Ct.none
  |some b=>exact Ct.cond (ih _ K KK hK) (ih' _ K KK hK)
 |brG i w h h' ih ih'=>
  intro s K KK hK
  simp only[RP.ev]
  cases Xt (s.gT i)with
  |none=>
   dsimp only
   cases s.gT i with
   |und=>exact ih' _ K KK hK
   |_=>exact Ct.none
  |some b=>
   cases w with
   |true=>exact Ct.cond (ih _ K KK hK) (ih' _ K KK hK)
   |false=>exact Ct.cond (ih' _ K KK hK) (ih _ K KK hK)
 |call ts ho h ih=>intro s K KK hK;exact Ct.bind ho fun x=>ih x s K KK hK
theorem RPC.evT {γ β:Type}{p:RP γ}{q:Nat->RP γ}(h:RPC p q):∀(s:St) (t:Tr) (K:γ->St->Tr->Option β) (KK:Nat->γ->St->Tr->Option β),(∀x s t,Ct (K x s t) fun n=>KK n x s t)->Ct (p.evT s t K) fun n=>(q n).evT s t (KK n):=by
 induction h with
 |ret x=>intro s t K KK hK;exact hK x s t
 |fail=>intro s t K KK hK;exact Ct.none
 |ZT i h ih=>intro s t K KK hK;exact ih _ s _ K KK hK
 |xC i c h ih=>intro s t K KK hK;exact Ct.cond (ih _ _ K KK hK) Ct.none
 |getC r k h ih=>intro s t K KK hK;exact ih _ s _ K KK hK
 |setC r k c h ih=>intro s t K KK hK;exact ih _ _ K KK hK
 |getI r k h ih=>intro s t K KK hK;exact ih _ s _ K KK hK
 |setV r k x h ih=>intro s t K KK hK;exact ih _ _ K KK hK
 |getB r h ih=>intro s t K KK hK;exact ih _ s _ K KK hK
 |setB r g h ih=>intro s t K KK hK;exact ih _ _ K KK hK
 |br b h h' ih ih'=>intro s t K KK hK;exact Ct.cond (ih s _ K KK hK) (ih' s _ K KK hK)
 |brT i h h' ih ih'=>
  intro s t K KK hK
  simp only[RP.evT]
  cases Xt (s.gT i)with
  |none=>exact Ct.none
  |some b=>exact Ct.cond (ih _ _ K KK hK) (ih' _ _ K KK hK)
 |brG i w h h' ih ih'=>
  intro s t K KK hK
  simp only[RP.evT]
  cases Xt (s.gT i)with
  |none=>
   dsimp only
   cases s.gT i with
   |und=>exact ih' _ _ K KK hK
   |_=>exact Ct.none
  |some b=>
   cases w with
   |true=>exact Ct.cond (ih _ _ K KK hK) (ih' _ _ K KK hK)
   |false=>exact Ct.cond (ih' _ _ K KK hK) (ih _ _ K KK hK)
 |call ts ho h ih=>intro s t K KK hK;exact Ct.bind ho fun x=>ih x s _ K KK hK
def yC {γ α:Type}(m:M γ α) (mm:Nat->M γ α):Prop:=∀(k:α->RP γ) (K:Nat->α->RP γ),(∀a,RPC (k a) fun n=>K n a)->RPC (m k) fun n=>mm n (K n)
def Par {γ α:Type}(m:M γ α):Prop:=yC m fun _=>m
theorem VN {γ α β:Type}{m:M γ α}{mm:Nat->M γ α}{f:α->M γ β}{F:Nat->α->M γ β}(h:yC m mm) (h':∀a,yC (f a) fun n=>F n a):yC (m>>=f) fun n=>mm n>>=F n:=
 fun k K hk=>h _ _ fun a=>h' a k K hk
theorem Qr {γ α β:Type}{m:M γ α}{f:α->M γ β}(h:Par m) (h':∀a,Par (f a)):Par (m>>=f):=fun k K hk=>h _ _ fun a=>h' a k K hk
theorem Qd {γ α:Type}(a:α):Par (pure a:M γ α):=fun k K hk=>hk a
theorem Qb {γ α:Type}:Par (Qq:M γ α):=fun k K hk=> .fail
theorem QbN {γ:Type}(b:Bool):Par (chk b:M γ Unit):=fun k K hk=> .br b (hk ()) .fail
theorem Zf {γ α:Type}(o:Option α):Par (ofO o:M γ α):=fun k K hk=>by
 cases o with
 |none=>exact .fail
 |some a=>exact hk a
theorem QMw {γ:Type}(i:Nat):Par (mT i:M γ Cell):=fun k K hk=> .ZT i hk
theorem QH0 {γ:Type}(r k:Nat):Par (mC r k:M γ Con):=fun _ _ hk=> .getC r k hk
theorem zW {γ:Type}(r k:Nat):Par (mI r k:M γ Con):=fun _ _ hk=> .getI r k hk
theorem Qkv {γ:Type}(r:Nat):Par (mB r:M γ (Nat×Nat)):=fun _ _ hk=> .getB r hk
theorem Qar {γ:Type}(i:Nat) (c:Cell):Par (wT i c:M γ Unit):=fun _ _ hk=> .xC i c (hk ())
theorem Jx {γ:Type}(r k:Nat) (c:Con):Par (wC r k c:M γ Unit):=fun _ _ hk=> .setC r k c (hk ())
theorem QMb {γ:Type}(r k:Nat) (x:TV):Par (wV r k x:M γ Unit):=fun _ _ hk=> .setV r k x (hk ())
theorem QIe {γ:Type}(r:Nat) (g:Nat×Nat):Par (wB r g:M γ Unit):=fun _ _ hk=> .setB r g (hk ())
theorem QGB {γ:Type}(ts:Tys) {o:Option (Qm ts)}{O:Nat->Option (Qm ts)}(h:Ct o O):yC (mcall ts o:M γ (Qm ts)) fun n=>mcall ts (O n):=fun _ _ hk=> .call ts h hk
theorem Qpu {γ:Type}:∀a1 a2,Par (tyM (γ:=γ) a1 a2):=by
 intro a1 a2
 unfold tyM
 try dsimp only
 repeat' (first
  |(with_reducible first|exact Qd _|exact Qb|refine Qr ?_ (fun _=> ?_))
  |split
  |exact Qd _
  |exact Qb)
theorem QoG {γ:Type}:∀a1 a2,Par (slE (γ:=γ) a1 a2):=by
 intro a1 a2
 unfold slE
 try dsimp only
 repeat' (first
  |(with_reducible first|exact Qd _|exact Qb|exact Qpu _ _|refine Qr ?_ (fun _=> ?_))
  |split
  |exact Qd _
  |exact Qb)
theorem vz {γ:Type}:∀a1,Par (opd (γ:=γ) a1):=by
 intro a1
 unfold opd
 try dsimp only
 repeat' (first
  |(with_reducible first|exact Qd _|exact Qb|exact QMw _|exact Zf _|refine Qr ?_ (fun _=> ?_))
  |split
  |exact Qd _
  |exact Qb)
theorem QbJ {γ:Type}:(n:Nat)->(p:Pl)->Par (final (γ:=γ) n p)
 |0,p=>by unfold final;first|exact Qd _|exact Qb
 |n+1,p=>by
  unfold final
  try dsimp only
  repeat' (first
  |(with_reducible first|exact QbJ n _|exact Qd _|exact Qb|exact zW _ _|refine Qr ?_ (fun _=> ?_))
  |split
  |exact Qd _
  |exact Qb)
theorem QeH {γ:Type}:∀a1,Par (J3 (γ:=γ) a1):=by
 intro a1
 unfold J3
 try dsimp only
 repeat' (first
  |(with_reducible first|exact Qd _|exact Qb|exact QH0 _ _|exact QbJ _ _|refine Qr ?_ (fun _=> ?_))
  |split
  |exact Qd _
  |exact Qb)
theorem QIq {γ:Type}:∀a1,Par (rd (γ:=γ) a1):=by
 intro a1
 unfold rd
 try dsimp only
 repeat' (first
  |(with_reducible first|exact Qd _|exact Qb|exact Zf _|exact QeH _|refine Qr ?_ (fun _=> ?_))
  |split
  |exact Qd _
  |exact Qb)
theorem jx {γ:Type}:∀a1 a2,Par (QdR (γ:=γ) a1 a2):=by
 intro a1 a2
 unfold QdR
 try dsimp only
 repeat' (first
  |(with_reducible first|exact Qd _|exact Qb|exact Zf _|exact QIq _|refine Qr ?_ (fun _=> ?_))
  |split
  |exact Qd _
  |exact Qb)
theorem Qib {γ:Type}:∀a1,Par (JD (γ:=γ) a1):=by
 intro a1
 unfold JD
 try dsimp only
 repeat' (first
  |(with_reducible first|exact Qd _|exact Qb|exact Jx _ _ _|exact Zf _|exact QeH _|refine Qr ?_ (fun _=> ?_))
  |split
  |exact Qd _
  |exact Qb)
theorem Qrn {γ:Type}:∀a1 a2,Par (Qjt (γ:=γ) a1 a2):=by
 intro a1 a2
 unfold Qjt
 try dsimp only
 repeat' (first
  |(with_reducible first|exact Qd _|exact Qb|exact Jx _ _ _|exact Zf _|exact QeH _|refine Qr ?_ (fun _=> ?_))
  |split
  |exact Qd _
  |exact Qb)
theorem QzG {γ:Type}:∀a1,Par (Qr9 (γ:=γ) a1):=by
 intro a1
 unfold Qr9
 try dsimp only
 repeat' (first
  |(with_reducible first|exact Qd _|exact Qb|exact QbJ _ _|refine Qr ?_ (fun _=> ?_))
  |split
  |exact Qd _
  |exact Qb)
theorem QC3 {γ:Type}:∀a1 a2 a3 a4 a5,Par (Qli (γ:=γ) a1 a2 a3 a4 a5):=by
 intro a1 a2 a3 a4 a5
 unfold Qli
 try dsimp only
 repeat' (first
  |(with_reducible first|exact Qd _|exact Qb|exact zW _ _|exact Jx _ _ _|exact Qrn _ _|exact QzG _|refine Qr ?_ (fun _=> ?_))
  |split
  |exact Qd _
  |exact Qb)
theorem QrQ {γ:Type}:∀a1 a2 a3 a4 a5,Par (zJ (γ:=γ) a1 a2 a3 a4 a5):=by
 intro a1 a2 a3 a4 a5
 fun_induction zJ a1 a2 a3 a4 a5
 all_goals try dsimp only
 all_goals repeat' (first
  |(with_reducible first|exact Qd _|exact Qb)
  |assumption
  |apply_assumption
  |(with_reducible first|exact QC3 _ _ _ _ _|refine Qr ?_ (fun _=> ?_))
  |split
  |exact Qd _
  |exact Qb)
theorem QC1 {γ:Type}:∀a1 a2,Par (QkH (γ:=γ) a1 a2):=by
 intro a1 a2
 unfold QkH
 try dsimp only
 repeat' (first
  |(with_reducible first|exact Qd _|exact Qb|exact QH0 _ _|exact zW _ _|refine Qr ?_ (fun _=> ?_))
  |split
  |exact Qd _
  |exact Qb)
theorem Qn1 {γ:Type}:∀a1 a2 a3,Par (ym (γ:=γ) a1 a2 a3):=by
 intro a1 a2 a3
 fun_induction ym a1 a2 a3
 all_goals try dsimp only
 all_goals repeat' (first
  |(with_reducible first|exact Qd _|exact Qb)
  |assumption
  |apply_assumption
  |(with_reducible first|exact QC1 _ _|refine Qr ?_ (fun _=> ?_))
  |split
  |exact Qd _
  |exact Qb)
theorem QF0 {γ:Type}:∀a1 a2,Par (Qo2 (γ:=γ) a1 a2):=by
 intro a1 a2
 unfold Qo2
 try dsimp only
 repeat' (first
  |(with_reducible first|exact Qd _|exact Qb|refine Qr ?_ (fun _=> ?_))
  |split
  |exact Qd _
  |exact Qb)
theorem QG9 {γ:Type}:∀a1 a2,Par (loadAt (γ:=γ) a1 a2):=by
 intro a1 a2
 unfold loadAt
 try dsimp only
 repeat' (first
  |(with_reducible first|exact Qd _|exact Qb|exact Qkv _|exact QbJ _ _|exact QIq _|exact Qn1 _ _ _|exact QF0 _ _|refine Qr ?_ (fun _=> ?_))
  |split
  |exact Qd _
  |exact Qb)
theorem QvK {γ:Type}:∀a1 a2 a3 a4,Par (Qow (γ:=γ) a1 a2 a3 a4):=by
 intro a1 a2 a3 a4
 unfold Qow
 try dsimp only
 repeat' (first
  |(with_reducible first|exact Qd _|exact Qb|exact Zf _|exact jx _ _|exact Qib _|exact Qrn _ _|refine Qr ?_ (fun _=> ?_))
  |split
  |exact jx _ _
  |exact Qd _
  |exact Qb)
theorem QEb {γ:Type}:∀a1 a2 a3,Par (QjR (γ:=γ) a1 a2 a3):=by
 intro a1 a2 a3
 fun_induction QjR a1 a2 a3
 all_goals try dsimp only
 all_goals repeat' (first
  |(with_reducible first|exact Qd _|exact Qb)
  |assumption
  |apply_assumption
  |(with_reducible first|exact QvK _ _ _ _|refine Qr ?_ (fun _=> ?_))
  |split
  |exact Qd _
  |exact Qb)
theorem QEm {γ:Type}:∀a1,Par (QoQ (γ:=γ) a1):=by
 intro a1
 unfold QoQ
 try dsimp only
 repeat' (first
  |(with_reducible first|exact Qd _|exact Qb|exact QbJ _ _|refine Qr ?_ (fun _=> ?_))
  |split
  |exact Qd _
  |exact Qb)
theorem QFA {γ:Type}:∀a1 a2,Par (Qk3 (γ:=γ) a1 a2):=by
 intro a1 a2
 fun_induction Qk3 a1 a2
 all_goals try dsimp only
 all_goals repeat' (first
  |(with_reducible first|exact Qd _|exact Qb)
  |assumption
  |apply_assumption
  |(with_reducible first|exact QEm _|refine Qr ?_ (fun _=> ?_))
  |split
  |exact Qd _
  |exact Qb)
theorem QCf {γ:Type}:∀a1 a2 a3 a4 a5,Par (Qqn (γ:=γ) a1 a2 a3 a4 a5):=by
 intro a1 a2 a3 a4 a5
 unfold Qqn
 try dsimp only
 repeat' (first
  |(with_reducible first|exact Qd _|exact Qb|exact QbN _|exact Zf _|refine Qr ?_ (fun _=> ?_))
  |split
  |exact Qd _
  |exact Qb)
theorem QB4 {γ:Type}:∀a1 a2 a3 a4 a5 a6 a7,Par (Qqm (γ:=γ) a1 a2 a3 a4 a5 a6 a7):=by
 intro a1 a2 a3 a4 a5 a6 a7
 unfold Qqm
 try dsimp only
 repeat' (first
  |(with_reducible first|exact Qd _|exact Qb|exact QbJ _ _|exact QCf _ _ _ _ _|refine Qr ?_ (fun _=> ?_))
  |split
  |exact Qd _
  |exact Qb)
theorem Qs0 {γ:Type}(y:TV) (i:Int) (r k:Nat) (nested:Bool):(off:Nat)->(ts:Tys)->(vs:List VC)->Par (yr (γ:=γ) y i r k nested off ts vs)
 |_, .nil,[]=>by unfold yr;first|exact Qd _|exact Qb
 |_, .nil,_::_=>by unfold yr;first|exact Qd _|exact Qb
 |_, .cons _ _,[]=>by unfold yr;first|exact Qd _|exact Qb
 |off, .cons t ts,v::vs=>by
  unfold yr
  try dsimp only
  repeat' (first
  |(with_reducible first|exact Qs0 y i r k nested (off+1) ts vs|exact Qd _|exact Qb|exact QB4 _ _ _ _ _ _ _|refine Qr ?_ (fun _=> ?_))
  |split
  |exact Qd _
  |exact Qb)
theorem QIT {γ:Type}:∀a1 a2 a3 a4 a5 a6 a7 a8 a9 a10 a11,Par (QC4 (γ:=γ) a1 a2 a3 a4 a5 a6 a7 a8 a9 a10 a11):=by
 intro a1 a2 a3 a4 a5 a6 a7 a8 a9 a10 a11
 unfold QC4
 try dsimp only
 repeat' (first
  |(with_reducible first|exact Qd _|exact Qb|exact QvK _ _ _ _|refine Qr ?_ (fun _=> ?_))
  |split
  |exact Qd _
  |exact Qb)
theorem QDE {γ:Type}:∀a1 a2 a3 a4 a5 a6 a7 a8 a9 a10 a11,Par (QjZ (γ:=γ) a1 a2 a3 a4 a5 a6 a7 a8 a9 a10 a11):=by
 intro a1 a2 a3 a4 a5 a6 a7 a8 a9 a10 a11
 fun_induction QjZ a1 a2 a3 a4 a5 a6 a7 a8 a9 a10 a11
 all_goals try dsimp only
 all_goals repeat' (first
  |(with_reducible first|exact Qd _|exact Qb)
  |assumption
  |apply_assumption
  |(with_reducible first|exact QIT _ _ _ _ _ _ _ _ _ _ _|refine Qr ?_ (fun _=> ?_))
  |split
  |exact Qd _
  |exact Qb)
theorem QGy {γ:Type}:∀a1 a2 a3 a4,Par (QqU (γ:=γ) a1 a2 a3 a4):=by
 intro a1 a2 a3 a4
 unfold QqU
 try dsimp only
 repeat' (first
  |(with_reducible first|exact Qd _|exact Qb|exact Jx _ _ _|refine Qr ?_ (fun _=> ?_))
  |split
  |exact Qd _
  |exact Qb)
theorem QFe {γ:Type}:∀a1 a2 a3 a4 a5 a6 a7,Par (Qo0 (γ:=γ) a1 a2 a3 a4 a5 a6 a7):=by
 intro a1 a2 a3 a4 a5 a6 a7
 unfold Qo0
 try dsimp only
 repeat' (first
  |(with_reducible first|exact Qd _|exact Qb|exact QMb _ _ _|exact Jx _ _ _|refine Qr ?_ (fun _=> ?_))
  |split
  |exact Qd _
  |exact Qb)
theorem QDj {γ:Type}:∀a1 a2 a3 a4,Par (storeAt (γ:=γ) a1 a2 a3 a4):=by
 intro a1 a2 a3 a4
 unfold storeAt
 try dsimp only
 repeat' (first
  |(with_reducible first|exact Qd _|exact Qb|exact Qkv _|exact Zf _|exact QeH _|exact QrQ _ _ _ _ _|exact Qs0 _ _ _ _ _ _ _ _|exact QDE _ _ _ _ _ _ _ _ _ _ _|exact QGy _ _ _ _|exact QFe _ _ _ _ _ _ _|refine Qr ?_ (fun _=> ?_))
  |split
  |exact Qd _
  |exact Qb)
theorem QvS {γ:Type}:∀a1 a2,Par (YD (γ:=γ) a1 a2):=by
 intro a1 a2
 unfold YD
 try dsimp only
 repeat' (first
  |(with_reducible first|exact Qd _|exact Qb|exact Qar _ _|refine Qr ?_ (fun _=> ?_))
  |split
  |exact Qd _
  |exact Qb)
theorem VI {γ:Type}:∀a1 a2 a3 a4,Par (Qdy (γ:=γ) a1 a2 a3 a4):=by
 intro a1 a2 a3 a4
 unfold Qdy
 try dsimp only
 repeat' (first
  |(with_reducible first|exact Qd _|exact Qb|exact Qkv _|exact zW _ _|exact Jx _ _ _|refine Qr ?_ (fun _=> ?_))
  |split
  |exact Qd _
  |exact Qb)
theorem Qr4 {γ:Type}(d:Nat):(j:Nat)->(ts:Tys)->(vs:List VC)->Par (xj (γ:=γ) d j ts vs)
 |_, .nil,[]=>by unfold xj;first|exact Qd _|exact Qb
 |_, .nil,_::_=>by unfold xj;first|exact Qd _|exact Qb
 |_, .cons _ _,[]=>by unfold xj;first|exact Qd _|exact Qb
 |j, .cons t ts,v::vs=>by
  unfold xj
  try dsimp only
  repeat' (first
  |(with_reducible first|exact Qr4 d (j+1) ts vs|exact Qd _|exact Qb|exact zW _ _|exact Jx _ _ _|exact Qrn _ _|exact QzG _|exact VI _ _ _ _|refine Qr ?_ (fun _=> ?_))
  |split
  |exact Qd _
  |exact Qb)
theorem Qwf {γ:Type}:∀a1 a2 a3 a4,Par (ishift (γ:=γ) a1 a2 a3 a4):=by
 intro a1 a2 a3 a4
 unfold ishift
 try dsimp only
 repeat' (first
  |(with_reducible first|exact Qd _|exact Qb|exact QbN _|refine Qr ?_ (fun _=> ?_))
  |split
  |exact Qd _
  |exact Qb)
theorem QBT {γ:Type}:∀a1 a2 a3 a4,Par (ibin (γ:=γ) a1 a2 a3 a4):=by
 intro a1 a2 a3 a4
 unfold ibin
 try dsimp only
 repeat' (first
  |(with_reducible first|exact Qd _|exact Qb|exact QbN _|refine Qr ?_ (fun _=> ?_))
  |split
  |exact Qd _
  |exact Qb)
theorem QBk {γ:Type}:∀a1 a2 a3,Par (bbin (γ:=γ) a1 a2 a3):=by
 intro a1 a2 a3
 unfold bbin
 try dsimp only
 repeat' (first
  |(with_reducible first|exact Qd _|exact Qb|refine Qr ?_ (fun _=> ?_))
  |split
  |exact Qd _
  |exact Qb)
theorem QB7 {γ:Type}:∀a1 a2 a3,Par (sbin (γ:=γ) a1 a2 a3):=by
 intro a1 a2 a3
 unfold sbin
 try dsimp only
 repeat' (first
  |(with_reducible first|exact Qd _|exact Qb|exact QbN _|refine Qr ?_ (fun _=> ?_))
  |split
  |exact Qd _
  |exact Qb)
theorem QLy {γ:Type}:∀a1 a2 a3 a4,Par (bin (γ:=γ) a1 a2 a3 a4):=by
 intro a1 a2 a3 a4
 unfold bin
 try dsimp only
 repeat' (first
  |(with_reducible first|exact Qd _|exact Qb|exact Qwf _ _ _ _|exact QBT _ _ _ _|exact QBk _ _ _|exact QB7 _ _ _|refine Qr ?_ (fun _=> ?_))
  |split
  |exact Qwf _ _ _ _
  |exact QBT _ _ _ _
  |exact QBk _ _ _
  |exact QB7 _ _ _
  |exact Qd _
  |exact Qb)
theorem QBA {γ:Type}:∀a1 a2 a3 a4,Par (Qmm (γ:=γ) a1 a2 a3 a4):=by
 intro a1 a2 a3 a4
 unfold Qmm
 try dsimp only
 repeat' (first
  |(with_reducible first|exact Qd _|exact Qb|exact Zf _|exact QLy _ _ _ _|refine Qr ?_ (fun _=> ?_))
  |split
  |exact Qd _
  |exact Qb)
theorem QnF {γ:Type}:∀a1 a2,Par (elems (γ:=γ) a1 a2):=by
 intro a1 a2
 unfold elems
 try dsimp only
 repeat' (first
  |(with_reducible first|exact Qd _|exact Qb|exact jx _ _|refine Qr ?_ (fun _=> ?_))
  |split
  |exact jx _ _
  |exact Qd _
  |exact Qb)
theorem QyW {γ:Type}:∀a1 a2 a3,Par (vb (γ:=γ) a1 a2 a3):=by
 intro a1 a2 a3
 fun_induction vb a1 a2 a3
 all_goals try dsimp only
 all_goals repeat' (first
  |(with_reducible first|exact Qd _|exact Qb)
  |assumption
  |apply_assumption
  |(with_reducible first|exact Zf _|exact vz _|refine Qr ?_ (fun _=> ?_))
  |split
  |exact Qd _
  |exact Qb)
theorem QAf {γ:Type}:∀a1,Par (QbI (γ:=γ) a1):=by
 intro a1
 fun_induction QbI a1
 all_goals try dsimp only
 all_goals repeat' (first
  |(with_reducible first|exact Qd _|exact Qb)
  |assumption
  |apply_assumption
  |(with_reducible first|exact Zf _|exact vz _|refine Qr ?_ (fun _=> ?_))
  |split
  |exact Qd _
  |exact Qb)
theorem QDX {γ:Type}:∀a1 a2,Par (Qj1 (γ:=γ) a1 a2):=by
 intro a1 a2
 fun_induction Qj1 a1 a2
 all_goals try dsimp only
 all_goals repeat' (first
  |(with_reducible first|exact Qd _|exact Qb)
  |assumption
  |apply_assumption
  |(with_reducible first|exact QFA _ _|refine Qr ?_ (fun _=> ?_))
  |split
  |exact Qd _
  |exact Qb)
theorem Qtt {γ:Type}:∀a1 a2 a3 a4,Par (QjX (γ:=γ) a1 a2 a3 a4):=by
 intro a1 a2 a3 a4
 fun_induction QjX a1 a2 a3 a4
 all_goals try dsimp only
 all_goals repeat' (first
  |(with_reducible first|exact Qd _|exact Qb)
  |assumption
  |apply_assumption
  |(with_reducible first|exact QEb _ _ _|refine Qr ?_ (fun _=> ?_))
  |split
  |exact Qd _
  |exact Qb)
theorem QnL {γ:Type}:∀a1 a2,Par (QpM (γ:=γ) a1 a2):=by
 intro a1 a2
 unfold QpM
 try dsimp only
 repeat' (first
  |(with_reducible first|exact Qd _|exact Qb|exact jx _ _|refine Qr ?_ (fun _=> ?_))
  |split
  |exact jx _ _
  |exact Qd _
  |exact Qb)
theorem QD4 {γ:Type}:∀a1 a2,Par (Qpa (γ:=γ) a1 a2):=by
 intro a1 a2
 unfold Qpa
 try dsimp only
 repeat' (first
  |(with_reducible first|exact Qd _|exact Qb|exact Zf _|exact Qib _|refine Qr ?_ (fun _=> ?_))
  |split
  |exact Qd _
  |exact Qb)
theorem QDM {γ:Type}:∀a1 a2,Par (Qos (γ:=γ) a1 a2):=by
 intro a1 a2
 unfold Qos
 try dsimp only
 repeat' (first
  |(with_reducible first|exact Qd _|exact Qb|exact Zf _|exact Qib _|exact QnF _ _|refine Qr ?_ (fun _=> ?_))
  |split
  |exact QnF _ _
  |exact Qd _
  |exact Qb)
theorem QC7 {γ:Type}:∀a1 a2 a3 a4 a5,Par (Ql6 (γ:=γ) a1 a2 a3 a4 a5):=by
 intro a1 a2 a3 a4 a5
 unfold Ql6
 try dsimp only
 repeat' (first
  |(with_reducible first|exact Qd _|exact Qb|exact Qar _ _|exact QbN _|exact QoG _ _|exact VI _ _ _ _|exact QD4 _ _|exact QDM _ _|refine Qr ?_ (fun _=> ?_))
  |split
  |exact Qd _
  |exact Qb)
theorem QH1 {γ:Type}:∀a1 a2,Par (Qgv (γ:=γ) a1 a2):=by
 intro a1 a2
 unfold Qgv
 try dsimp only
 repeat' (first
  |(with_reducible first|exact Qd _|exact Qb|refine Qr ?_ (fun _=> ?_))
  |split
  |exact Qd _
  |exact Qb)
theorem QGD {γ:Type}:∀a1 a2 a3,Par (Qrl (γ:=γ) a1 a2 a3):=by
 intro a1 a2 a3
 unfold Qrl
 try dsimp only
 repeat' (first
  |(with_reducible first|exact Qd _|exact Qb|exact Jx _ _ _|exact Zf _|exact QeH _|exact QH1 _ _|refine Qr ?_ (fun _=> ?_))
  |split
  |exact Qd _
  |exact Qb)
theorem QJP {γ:Type}:∀a1 a2 a3,Par (QCN (γ:=γ) a1 a2 a3):=by
 intro a1 a2 a3
 unfold QCN
 try dsimp only
 repeat' (first
  |(with_reducible first|exact Qd _|exact Qb|exact QGD _ _ _|refine Qr ?_ (fun _=> ?_))
  |split
  |exact Qd _
  |exact Qb)
theorem QHv {γ:Type}:∀a1 a2,Par (Qsq (γ:=γ) a1 a2):=by
 intro a1 a2
 fun_induction Qsq a1 a2
 all_goals try dsimp only
 all_goals repeat' (first
  |(with_reducible first|exact Qd _|exact Qb)
  |assumption
  |apply_assumption
  |(with_reducible first|exact QJP _ _ _|refine Qr ?_ (fun _=> ?_))
  |split
  |exact Qd _
  |exact Qb)
theorem QGT {γ:Type}:∀a1 a2 a3,Par (Qlm (γ:=γ) a1 a2 a3):=by
 intro a1 a2 a3
 fun_induction Qlm a1 a2 a3
 all_goals try dsimp only
 all_goals repeat' (first
  |(with_reducible first|exact Qd _|exact Qb)
  |assumption
  |apply_assumption
  |(with_reducible first|exact jx _ _|refine Qr ?_ (fun _=> ?_))
  |split
  |exact jx _ _
  |exact Qd _
  |exact Qb)
theorem QBO {γ:Type}:∀a1 a2,Par (Qfc (γ:=γ) a1 a2):=by
 intro a1 a2
 fun_induction Qfc a1 a2
 all_goals try dsimp only
 all_goals repeat' (first
  |(with_reducible first|exact Qd _|exact Qb)
  |assumption
  |apply_assumption
  |(with_reducible first|exact Qkv _|exact Qn1 _ _ _|refine Qr ?_ (fun _=> ?_))
  |split
  |exact Qd _
  |exact Qb)
theorem QBZ {γ:Type}:∀a1 a2,Par (Qlc (γ:=γ) a1 a2):=by
 intro a1 a2
 unfold Qlc
 try dsimp only
 repeat' (first
  |(with_reducible first|exact Qd _|exact Qb|exact Qkv _|exact Qn1 _ _ _|exact QBO _ _|refine Qr ?_ (fun _=> ?_))
  |split
  |exact Qd _
  |exact Qb)
theorem QAe {γ:Type}:∀a1 a2,Par (Qbs (γ:=γ) a1 a2):=by
 intro a1 a2
 fun_induction Qbs a1 a2
 all_goals try dsimp only
 all_goals repeat' (first
  |(with_reducible first|exact Qd _|exact Qb)
  |assumption
  |apply_assumption
  |(with_reducible first|exact QBZ _ _|refine Qr ?_ (fun _=> ?_))
  |split
  |exact Qd _
  |exact Qb)
theorem QIE {γ:Type}:∀a1 a2 a3,Par (QA7 (γ:=γ) a1 a2 a3):=by
 intro a1 a2 a3
 unfold QA7
 try dsimp only
 repeat' (first
  |(with_reducible first|exact Qd _|exact Qb|exact Qib _|refine Qr ?_ (fun _=> ?_))
  |split
  |exact Qd _
  |exact Qb)
theorem QH6 {γ:Type}:∀a1 a2,Par (Qnb (γ:=γ) a1 a2):=by
 intro a1 a2
 fun_induction Qnb a1 a2
 all_goals try dsimp only
 all_goals repeat' (first
  |(with_reducible first|exact Qd _|exact Qb)
  |assumption
  |apply_assumption
  |(with_reducible first|exact QIE _ _ _|refine Qr ?_ (fun _=> ?_))
  |split
  |exact Qd _
  |exact Qb)
theorem QI6 {γ:Type}:∀a1 a2,Par (QCm (γ:=γ) a1 a2):=by
 intro a1 a2
 unfold QCm
 split
 ·exact QH6 _ _
 ·exact Qd _
theorem QIa {γ:Type}:∀a1 a2,Par (QnE (γ:=γ) a1 a2):=by
 intro a1 a2
 fun_induction QnE a1 a2
 all_goals try dsimp only
 all_goals repeat' (first
  |(with_reducible first|exact Qd _|exact Qb)
  |assumption
  |apply_assumption
  |(with_reducible first|exact QI6 _ _|refine Qr ?_ (fun _=> ?_))
  |split
  |exact Qd _
  |exact Qb)
theorem QHY {γ:Type}:∀a1 a2,Par (Qsb (γ:=γ) a1 a2):=by
 intro a1 a2
 fun_induction Qsb a1 a2
 all_goals try dsimp only
 all_goals repeat' (first
  |(with_reducible first|exact Qd _|exact Qb)
  |assumption
  |apply_assumption
  |(with_reducible first|exact QHv _ _|refine Qr ?_ (fun _=> ?_))
  |split
  |exact Qd _
  |exact Qb)
theorem QFk {γ:Type}:∀a1 a2 a3,Par (QoV (γ:=γ) a1 a2 a3):=by
 intro a1 a2 a3
 fun_induction QoV a1 a2 a3
 all_goals try dsimp only
 all_goals repeat' (first
  |(with_reducible first|exact Qd _|exact Qb)
  |assumption
  |apply_assumption
  |(with_reducible first|exact QGT _ _ _|refine Qr ?_ (fun _=> ?_))
  |split
  |exact Qd _
  |exact Qb)
theorem QAi {γ:Type}:∀a1 a2 a3,Par (jU (γ:=γ) a1 a2 a3):=by
 intro a1 a2 a3
 unfold jU
 try dsimp only
 repeat' (first
  |(with_reducible first|exact Qd _|exact Qb|exact zW _ _|refine Qr ?_ (fun _=> ?_))
  |split
  |exact Qd _
  |exact Qb)
theorem QD3 {γ:Type}:∀a1 a2,Par (Qj3 (γ:=γ) a1 a2):=by
 intro a1 a2
 unfold Qj3
 try dsimp only
 repeat' (first
  |(with_reducible first|exact Qd _|exact Qb|exact Jx _ _ _|exact Zf _|exact QAi _ _ _|refine Qr ?_ (fun _=> ?_))
  |split
  |exact Qd _
  |exact Qb)
theorem QDQ {γ:Type}:∀a1 a2 a3,Par (xQ (γ:=γ) a1 a2 a3):=by
 intro a1 a2 a3
 fun_induction xQ a1 a2 a3
 all_goals try dsimp only
 all_goals repeat' (first
  |(with_reducible first|exact Qd _|exact Qb)
  |assumption
  |apply_assumption
  |(with_reducible first|exact QD3 _ _|refine Qr ?_ (fun _=> ?_))
  |split
  |exact Qd _
  |exact Qb)
theorem yn {γ:Type}(r:Nat):(k:Nat)->(l:List (Mode×Ty))->(xs:List TV)->Par (Z1 (γ:=γ) r k l xs)
 |_,[],_=>by unfold Z1;first|exact Qd _|exact Qb
 |k,(.mut,t)::l,x::xs=>by
  unfold Z1
  try dsimp only
  repeat' (first
  |(with_reducible first|exact yn r (k+1) l xs|exact Qd _|exact Qb|exact zW _ _|exact Jx _ _ _|refine Qr ?_ (fun _=> ?_))
  |split
  |exact Qd _
  |exact Qb)
 |k,(.mut,t)::l,[]=>by unfold Z1;first|exact Qd _|exact Qb
 |k,(.ro,_)::l,xs=>by
  unfold Z1
  try dsimp only
  repeat' (first
  |(with_reducible first|exact yn r (k+1) l xs|exact Qd _|exact Qb|exact zW _ _|exact Jx _ _ _|refine Qr ?_ (fun _=> ?_))
  |split
  |exact Qd _
  |exact Qb)
 |k,(.own,_)::l,xs=>by
  unfold Z1
  try dsimp only
  repeat' (first
  |(with_reducible first|exact yn r (k+1) l xs|exact Qd _|exact Qb|exact zW _ _|exact Jx _ _ _|refine Qr ?_ (fun _=> ?_))
  |split
  |exact Qd _
  |exact Qb)
 |k,(.junk,_)::l,xs=>by
  unfold Z1
  try dsimp only
  repeat' (first
  |(with_reducible first|exact yn r (k+1) l xs|exact Qd _|exact Qb|exact zW _ _|exact Jx _ _ _|refine Qr ?_ (fun _=> ?_))
  |split
  |exact Qd _
  |exact Qb)
 |k,(.top,_)::l,xs=>by
  unfold Z1
  try dsimp only
  repeat' (first
  |(with_reducible first|exact yn r (k+1) l xs|exact Qd _|exact Qb|exact zW _ _|exact Jx _ _ _|refine Qr ?_ (fun _=> ?_))
  |split
  |exact Qd _
  |exact Qb)
theorem QHV {γ:Type}:∀a1 a2 a3 a4,Par (backs (γ:=γ) a1 a2 a3 a4):=by
 intro a1 a2 a3 a4
 fun_induction backs a1 a2 a3 a4
 all_goals try dsimp only
 all_goals repeat' (first
  |(with_reducible first|exact Qd _|exact Qb)
  |assumption
  |apply_assumption
  |(with_reducible first|exact QDQ _ _ _|exact yn _ _ _ _|refine Qr ?_ (fun _=> ?_))
  |split
  |exact Qd _
  |exact Qb)
theorem j6 {γ:Type}(d:Nat):(j:Nat)->(l:List (Mode×Ty))->(xs:List TV)->Par (Z2 (γ:=γ) d j l xs)
 |_,[],_=>by unfold Z2;first|exact Qd _|exact Qb
 |j,(.junk,_)::l,xs=>by
  unfold Z2
  try dsimp only
  repeat' (first
  |(with_reducible first|exact j6 d (j+1) l xs|exact Qd _|exact Qb|exact VI _ _ _ _|refine Qr ?_ (fun _=> ?_))
  |split
  |exact Qd _
  |exact Qb)
 |j,(.ro,t)::l,x::xs=>by
  unfold Z2
  try dsimp only
  repeat' (first
  |(with_reducible first|exact j6 d (j+1) l xs|exact Qd _|exact Qb|exact VI _ _ _ _|refine Qr ?_ (fun _=> ?_))
  |split
  |exact Qd _
  |exact Qb)
 |j,(.mut,t)::l,x::xs=>by
  unfold Z2
  try dsimp only
  repeat' (first
  |(with_reducible first|exact j6 d (j+1) l xs|exact Qd _|exact Qb|exact VI _ _ _ _|refine Qr ?_ (fun _=> ?_))
  |split
  |exact Qd _
  |exact Qb)
 |j,(.own,t)::l,x::xs=>by
  unfold Z2
  try dsimp only
  repeat' (first
  |(with_reducible first|exact j6 d (j+1) l xs|exact Qd _|exact Qb|exact VI _ _ _ _|refine Qr ?_ (fun _=> ?_))
  |split
  |exact Qd _
  |exact Qb)
 |j,(.top,t)::l,x::xs=>by
  unfold Z2
  try dsimp only
  repeat' (first
  |(with_reducible first|exact j6 d (j+1) l xs|exact Qd _|exact Qb|exact VI _ _ _ _|refine Qr ?_ (fun _=> ?_))
  |split
  |exact Qd _
  |exact Qb)
 |j,(.ro,t)::l,[]=>by unfold Z2;first|exact Qd _|exact Qb
 |j,(.mut,t)::l,[]=>by unfold Z2;first|exact Qd _|exact Qb
 |j,(.own,t)::l,[]=>by unfold Z2;first|exact Qd _|exact Qb
 |j,(.top,t)::l,[]=>by unfold Z2;first|exact Qd _|exact Qb
theorem QFd {γ:Type}:∀a1 a2 a3 a4,Par (Qoy (γ:=γ) a1 a2 a3 a4):=by
 intro a1 a2 a3 a4
 fun_induction Qoy a1 a2 a3 a4
 all_goals try dsimp only
 all_goals repeat' (first
  |(with_reducible first|exact Qd _|exact Qb)
  |assumption
  |apply_assumption
  |(with_reducible first|exact j6 _ _ _ _|refine Qr ?_ (fun _=> ?_))
  |split
  |exact Qd _
  |exact Qb)
theorem QuX {γ:Type}(d:Nat):(k:Nat)->(l:List (Mode×Ty))->(xs:List TV)->Par (QaA (γ:=γ) d k l xs)
 |_,[],_=>by unfold QaA;first|exact Qd _|exact Qb
 |k,(m,t)::l,x::xs=>by
  unfold QaA
  try dsimp only
  repeat' (first
  |(with_reducible first|exact QuX d (k+1) l xs|exact Qd _|exact Qb|exact zW _ _|exact Jx _ _ _|refine Qr ?_ (fun _=> ?_))
  |split
  |exact Qd _
  |exact Qb)
 |_,_::_,[]=>by unfold QaA;first|exact Qd _|exact Qb
theorem jl {γ:Type}:∀a1,Par (qU (γ:=γ) a1):=by
 intro a1
 fun_induction qU a1
 all_goals try dsimp only
 all_goals repeat' (first
  |(with_reducible first|exact Qd _|exact Qb)
  |assumption
  |apply_assumption
  |(with_reducible first|exact vz _|refine Qr ?_ (fun _=> ?_))
  |split
  |exact Qd _
  |exact Qb)
theorem QHc {γ:Type}:∀a1 a2 a3 a4 a5 a6,Par (call2 (γ:=γ) a1 a2 a3 a4 a5 a6):=by
 intro a1 a2 a3 a4 a5 a6
 unfold call2
 try dsimp only
 repeat' (first
  |(with_reducible first|exact Qd _|exact Qb|exact Qkv _|exact Qar _ _|exact QIe _ _|exact QHV _ _ _ _|exact QFd _ _ _ _|exact QuX _ _ _ _|refine Qr ?_ (fun _=> ?_))
  |split
  |exact Qd _
  |exact Qb)
theorem QqC {γ:Type}:∀a1 a2 a3 a4 a5,Par (Qnc (γ:=γ) a1 a2 a3 a4 a5):=by
 intro a1 a2 a3 a4 a5
 unfold Qnc
 try dsimp only
 repeat' (first
  |(with_reducible first|exact Qd _|exact Qb|exact Qar _ _|exact Zf _|exact Qpu _ _|exact QoG _ _|exact QnL _ _|exact QC7 _ _ _ _ _|exact jl _|refine Qr ?_ (fun _=> ?_))
  |split
  |exact Qd _
  |exact Qb)
theorem QF9 {γ:Type}:∀a1 a2 a3 a4 a5,Par (Qvd (γ:=γ) a1 a2 a3 a4 a5):=by
 intro a1 a2 a3 a4 a5
 unfold Qvd
 try dsimp only
 repeat' (first
  |(with_reducible first|exact Qd _|exact Qb|exact Qar _ _|exact QbN _|exact Zf _|exact Qpu _ _|exact QoG _ _|exact Qib _|exact QnF _ _|refine Qr ?_ (fun _=> ?_))
  |split
  |exact QnF _ _
  |exact Qd _
  |exact Qb)
theorem Qqq {γ:Type}:∀a1,Par (QoN (γ:=γ) a1):=by
 intro a1
 unfold QoN
 try dsimp only
 repeat' (first
  |(with_reducible first|exact Qd _|exact Qb|exact Zf _|exact vz _|refine Qr ?_ (fun _=> ?_))
  |split
  |exact Qd _
  |exact Qb)
theorem Qtw {γ:Type}:∀a1 a2 a3 a4 a5 a6,Par (Qsm (γ:=γ) a1 a2 a3 a4 a5 a6):=by
 intro a1 a2 a3 a4 a5 a6
 unfold Qsm
 try dsimp only
 repeat' (first
  |(with_reducible first|exact Qd _|exact Qb|exact Qar _ _|exact QbN _|exact Zf _|exact Qpu _ _|exact QoG _ _|exact QnL _ _|refine Qr ?_ (fun _=> ?_))
  |split
  |exact Qd _
  |exact Qb)
theorem QLU {γ α:Type}{c:Prop} [Decidable c] {a b:M γ α}(h:Par a) (h':Par b):Par (if c then a else b):=by
 by_cases hc:c
 ·simp only[hc,if_true];exact h
 ·simp only[hc,if_false];exact h'
theorem Qmn {γ α:Type}{c:Prop} [Decidable c] {a b:M γ α}{A B:Nat->M γ α}(h:yC a A) (h':yC b B):yC (if c then a else b) fun n=>if c then A n else B n:=by
 by_cases hc:c
 ·simp only[hc,if_true];exact h
 ·simp only[hc,if_false];exact h'
theorem QjJ {γ α β:Type}{f:α->M γ β}{mm:Nat->M γ β}:yC (Qq>>=f) mm:=fun _ _ _=> .fail
theorem QFN {γ:Type}{E:Env}{D:Xz E}{DD:Nat->Xz E}(hD:∀f x,Ct (D f x) fun n=>DD n f x) (f0 f:Nat) (as:List Cell):yC (Qsn (γ:=γ) E D f0 f as) fun n=>Qsn E (DD n) f0 f as:=by
 unfold Qsn
 dsimp only
 refine Qmn ?_ QjJ
 refine VN (QAe _ _) fun _=> ?_
 refine VN (by unfold QAM;exact QLU (QIa _ _) (Qd _)) fun _=> ?_
 refine Qmn ?_ QjJ
 refine Qmn QjJ ?_
 refine VN (QHY _ _) fun _=> ?_
 refine Qmn ?_ QjJ
 refine VN (QFk _ _ _) fun _=> ?_
 refine VN (Zf _) fun _=> ?_
 refine VN (QGB _ (hD _ _)) fun _=> ?_
 exact Qd _
theorem Qxa {γ:Type}{E:Env}{D:Xz E}{DD:Nat->Xz E}(hD:∀f x,Ct (D f x) fun n=>DD n f x) (np:Fx) (d f0:Nat) (as:List Cell):yC (Qqo (γ:=γ) E D np d f0 as) fun n=>Qqo E (DD n) np d f0 as:=by
 unfold Qqo
 exact VN (QFN hD _ _ _) fun _=>QHc _ _ _ _ _ _
theorem QDg {γ:Type}{E:Env}{D:Xz E}{DD:Nat->Xz E}(hD:∀f x,Ct (D f x) fun n=>DD n f x) (np:Fx) (d f:Nat) (args:List Operand):yC (QqV (γ:=γ) E D np d f args) fun n=>QqV E (DD n) np d f args:=by
 unfold QqV
 exact VN (jl _) fun _=>Qxa hD _ _ _ _
theorem QGv {γ:Type}{E:Env}{D:Xz E}{DD:Nat->Xz E}(hD:∀f x,Ct (D f x) fun n=>DD n f x) (np:Fx) (d:Nat) (g:Operand) (args:List Operand):yC (Qwy (γ:=γ) E D np d g args) fun n=>Qwy E (DD n) np d g args:=by
 unfold Qwy
 refine VN (vz _) fun c=>VN (jl _) fun as=> ?_
 cases c with
 |fn f caps=>exact Qxa hD _ _ _ _
 |_=>exact Qb
theorem QLR {γ:Type}(i:Nat) {a b:M γ Unit}(ha:Par a) (hb:Par b):Par (fun k=> .brT i (a k) (b k):M γ Unit):=fun _ _ hk=> .brT i (ha _ _ hk) (hb _ _ hk)
theorem QJp {γ:Type}(i:Nat) (w:Bool) {a b:M γ Unit}{A B:Nat->M γ Unit}(ha:yC a A) (hb:yC b B):yC (fun k=> .brG i w (a k) (b k):M γ Unit) fun n=>fun k=> .brG i w (A n k) (B n k):=fun _ _ hk=> .brG i w (ha _ _ hk) (hb _ _ hk)
theorem Qs9 {γ:Type}{E:Env}{D:Xz E}{DD:Nat->Xz E}(hD:∀f x,Ct (D f x) fun n=>DD n f x) (nk:Fx) (o:Oper):yC (execOp (γ:=γ) E D nk o) fun n=>execOp E (DD n) nk o:=by
 unfold execOp
 dsimp only
 refine Qmn Qb ?_
 generalize o.op=op
 cases op
 case call c=>
  obtain⟨cal,args,tys⟩:=c
  cases cal with
  |value g=>
   cases g with
   |func f=>exact QDg hD _ _ _ _
   |tmp t=>exact QGv hD _ _ _ _
   |_=>exact Qb
  |builtin b=>exact QqC _ _ _ _ _
  |_=>exact Qb
 case makeFunc fn first caps=>
  cases fn with
  |func g=>
   refine(show Par (if first.size==0 then(do let cs<-qU caps.toList;let l<-ofO (ptrs? cs);wT (o.dst.getD 0) (.fn g l))else Qq)from ?_)
   repeat' (first
    |(with_reducible first|exact Qb|exact Qar _ _|exact Zf _|exact jl _|refine Qr ?_ (fun _=> ?_))
    |split)
  |_=>exact Qb
 case slice T x lo hi mx=>
  cases mx with
  |none=>
   exact Qr (vz _) fun _=>Qr (Qqq _) fun _=>Qr (Qqq _) fun _=>Qtw _ _ _ _ _ _
  |some _=>exact Qb
 all_goals(first|exact Qb|skip)
 all_goals dsimp only
 all_goals refine(show Par _ from ?_)
 all_goals repeat' (first
  |(with_reducible first|exact Qd _|exact Qb|exact QbN _|exact Zf _|exact vz _|exact QvS _ _|exact Qar _ _|exact Qkv _|exact QIe _ _|exact Qpu _ _|exact QoG _ _|exact Qr4 _ _ _ _|exact QrQ _ _ _ _ _|exact QyW _ _ _|exact QAf _|exact QDX _ _|exact Qtt _ _ _ _|exact VI _ _ _ _|exact QG9 _ _|exact QDj _ _ _ _|exact QBA _ _ _ _|exact QF9 _ _ _ _ _|exact Qqq _|exact Qtw _ _ _ _ _ _|exact QnL _ _|exact jl _|exact QqC _ _ _ _ _|refine Qr ?_ (fun _=> ?_))
  |split
  |exact QLR _ (Qr (vz _) fun _=>Qar _ _) (Qr (vz _) fun _=>Qar _ _)
  |exact VI _ _ _ _
  |exact Qtt _ _ _ _
  |exact QnL _ _)
theorem QDl {γ:Type}{E:Env}{D:Xz E}{DD:Nat->Xz E}(hD:∀f x,Ct (D f x) fun n=>DD n f x) (nk:Fx) (ops:List Oper) (o:Oper):yC (xW (γ:=γ) E D nk ops o) fun n=>xW E (DD n) nk ops o:=by
 unfold xW
 cases o.guard with
 |none=>exact Qs9 hD _ _
 |some g=>
  obtain⟨j,w⟩:=g
  dsimp only
  cases(ops[j]?).bind (·.dst)with
  |none=>exact Qb
  |some t=>exact QJp t w (Qs9 hD _ _) (QvS _ _)
def Qgy (E:Env) (f:Nat) (ins:Qm (E.sig f).ins) (outs:Qm (E.sig f).outs):Prop:=Evt fun n=>(mean E n).1 f ins=some outs
def Qlv (E:Env) (f b:Nat) (v:Qm (E.lsig f b).sk.tys) (z:qW (Vc (E.lsig f b).exits)):Prop:=Evt fun n=>(mean E n).2 f b v=some z
theorem Qgy.step {E:Env}{f:Nat}{ins:Qm (E.sig f).ins}{outs:Qm (E.sig f).outs}(h:Evt fun n=>QfQ E (mean E n).1 (mean E n).2 f ins=some outs):Qgy E f ins outs:=Evt.succ h
theorem Qlv.step {E:Env}{f b:Nat}{v:Qm (E.lsig f b).sk.tys}{z:qW (Vc (E.lsig f b).exits)}(h:Evt fun n=>Qf2 E (mean E n).1 (mean E n).2 f b v=some z):Qlv E f b v z:=Evt.succ h
theorem Qgy.spec {P:Program}{E:Env}(hT:XZ P E) (hE:EnvCode P E) (hLo:EnvLoops E) (hmix:P.follows .mixedOrders=true) {f:Nat}(hf:E.fok f=true) {ins:Qm (E.sig f).ins}{outs:Qm (E.sig f).outs}(h:Qgy E f ins outs):Qhk P E.gg (E.sig f) (E.real f) (unpack _ ins) (unpack _ outs):=by
 obtain⟨n,hn⟩:=h.here
 exact(Qd8 hT hE hLo hmix n).1 f ins outs hf hn
theorem Ct.ite {β:Type}{c:Prop} [Decidable c] {x y:Option β}{X Y:Nat->Option β}(h:Ct x X) (h':Ct y Y):Ct (if c then x else y) fun n=>if c then X n else Y n:=by
 by_cases hc:c
 ·simp only[hc,if_true];exact h
 ·simp only[hc,if_false];exact h'
section
variable {E:Env}{D:Xz E}{DD:Nat->Xz E}{L:zc E}{LL:Nat->zc E}
theorem QEM (hD:∀f x,Ct (D f x) fun n=>DD n f x) (nk:Fx) (all:List Oper) (o:Oper):RPC (KG (xW E D nk all o)) fun n=>KG (xW E (DD n) nk all o):=
 QDl hD nk all o _ _ fun _=> .ret ()
theorem QA5 {β:Type}(hD:∀f x,Ct (D f x) fun n=>DD n f x) (nk:Fx) (all:List Oper):(l:List Oper)->(s:St)->(K:St->Option β)->(KK:Nat->St->Option β)->(∀s,Ct (K s) fun n=>KK n s)->Ct (QpT E D nk all l s K) fun n=>QpT E (DD n) nk all l s (KK n)
 | [],s,K,KK,h=>h s
 |o::l,s,K,KK,h=>(QEM hD nk all o).ev s _ _ fun _ s'=>QA5 hD nk all l s' K KK h
theorem Qzk {β:Type}(hD:∀f x,Ct (D f x) fun n=>DD n f x) (nk:Fx) (all:List Oper):(l:List Oper)->(trs:List Tr)->(s:St)->(K:St->Option β)->(KK:Nat->St->Option β)->(∀s,Ct (K s) fun n=>KK n s)->Ct (QgO E D nk all l trs s K) fun n=>QgO E (DD n) nk all l trs s (KK n)
 | [],trs,s,K,KK,h=>Ct.ite (h s) Ct.none
 |o::l,trs,s,K,KK,h=>(QEM hD nk all o).evT s _ _ _ fun _ s' t=>Qzk hD nk all l _ s' K KK h
theorem Qx1 {β:Type}(n:Nat):(l:List (Ex×Sk))->(z:qW (Vc l))->(K:Ex->St->Option β)->(KK:Nat->Ex->St->Option β)->(∀e s,Ct (K e s) fun n=>KK n e s)->Ct (Qy0 n l z K) fun m=>Qy0 n l z (KK m)
 | [],_,_,_,_=>Ct.none
 | [(e,sk)],v,K,KK,h=>h e _
 |(e,sk)::a::l,z,K,KK,h=>by
  cases z with
  |inl v=>exact h e _
  |inr z'=>exact Qx1 n (a::l) z' K KK h
theorem QzS {β:Type}(hL:∀f b x,Ct (L f b x) fun n=>LL n f b x) (f:Nat) (s:St) (K:Ex->St->Option β) (KK:Nat->Ex->St->Option β) (h:∀e s,Ct (K e s) fun n=>KK n e s):(l:List Nat)->Ct (QhS E L f s K l) fun n=>QhS E (LL n) f s (KK n) l
 | []=>Ct.none
 |b::l=>by
  simp only[QhS]
  refine Ct.ite ?_ Ct.none
  cases dec (E.lsig f b).sk s with
  |none=>exact QzS hL f s K KK h l
  |some v=>exact Ct.bind (hL f b v) fun z=>Qx1 _ _ _ _ _ h
theorem QKr {β:Type}(hD:∀f x,Ct (D f x) fun n=>DD n f x) (hL:∀f b x,Ct (L f b x) fun n=>LL n f b x) (f:Nat) (c:Code):∀(s:St) (K:Ex->St->Option β) (KK:Nat->Ex->St->Option β),(∀e s,Ct (K e s) fun n=>KK n e s)->Ct (ev E D L f c s K) fun n=>ev E (DD n) (LL n) f c s (KK n):=by
 induction c with
 |skip=>intro s K KK h;exact h .normal s
 |region i ops draw=>
  intro s K KK h
  simp only[ev]
  refine Ct.ite ?_ ?_
  ·exact Qzk hD _ _ _ _ _ _ _ fun s=>h .normal s
  ·exact QA5 hD _ _ _ _ _ _ fun s=>h .normal s
 |seq a b iha ihb=>
  intro s K KK h
  simp only[ev]
  refine iha s _ _ fun e s'=> ?_
  cases e with
  |normal=>exact ihb s' K KK h
  |exit i=>exact h _ _
  |ret=>exact h _ _
 |cond c a b iha ihb=>
  intro s K KK h
  simp only[ev]
  cases c with
  |tmp t=>
   dsimp only
   cases Xt (s.gT t)with
   |none=>exact Ct.none
   |some v=>exact Ct.cond (iha _ K KK h) (ihb _ K KK h)
  |const v=>
   cases v with
   |bool v=>exact Ct.cond (iha _ K KK h) (ihb _ K KK h)
   |_=>exact Ct.none
  |_=>exact Ct.none
 |block b c ih=>
  intro s K KK h
  have hK:∀e s,Ct (zO b K e s) fun n=>zO b (KK n) e s:=by
   intro e s
   cases e with
   |exit i=>exact Ct.ite (h _ _) (h _ _)
   |normal=>exact h _ _
   |ret=>exact h _ _
  cases hl:QoP c with
  |true=>
   cases c with
   |loop x=>
    simp only[Qz2]
    exact QzS hL f s _ _ hK _
   |_=>cases hl
  |false=>
   simp only[QCt hl]
   exact ih s _ _ hK
 |exit i=>intro s K KK h;exact h _ _
 |ret=>intro s K KK h;exact h _ _
 |_=>intros;exact Ct.none
theorem QJy (hD:∀f x,Ct (D f x) fun n=>DD n f x) (hL:∀f b x,Ct (L f b x) fun n=>LL n f b x) (f:Nat) (x:Qm (E.sig f).ins):Ct (QfQ E D L f x) fun n=>QfQ E (DD n) (LL n) f x:=by
 unfold QfQ
 cases E.ext f with
 |some g=>exact Ct.same _
 |none=>exact QKr hD hL f _ _ _ _ fun e s=>Ct.same _
theorem Qs6 (hL:∀f b x,Ct (L f b x) fun n=>LL n f b x) (f b:Nat) (s:St):(l:List Nat)->Ct (Qa6 E L f b s l) fun n=>Qa6 E (LL n) f b s l
 | []=>Ct.none
 |b'::l=>by
  simp only[Qa6]
  refine Ct.ite ?_ Ct.none
  cases dec (E.lsig f b').sk s with
  |none=>exact Qs6 hL f b s l
  |some v=>exact Ct.bind (hL f b' v) fun z=>Qx1 _ _ _ _ _ fun e s=>Ct.same _
theorem QJd (hD:∀f x,Ct (D f x) fun n=>DD n f x) (hL:∀f b x,Ct (L f b x) fun n=>LL n f b x) (f b:Nat) (x:Qm (E.lsig f b).sk.tys):Ct (Qf2 E D L f b x) fun n=>Qf2 E (DD n) (LL n) f b x:=by
 unfold Qf2
 refine QKr hD hL f _ _ _ _ fun e s=> ?_
 cases e with
 |normal=>
  simp only[QFX]
  cases dec (E.lsig f b).sk s with
  |some v'=>exact hL f b v'
  |none=>exact Qs6 hL f b s _
 |exit i=>exact Ct.same _
 |ret=>exact Ct.same _
end
theorem Evt.unique {α:Type}{X:Nat->Option α}{a b:α}(h:Evt fun n=>X n=some a) (h':Evt fun n=>X n=some b):a=b:=by
 obtain⟨n,e,e'⟩:=(h.and h').here
 rw[e]at e';exact QY10 e'
open Classical in
noncomputable def W (E:Env):Xz E:=fun f x=>if h:∃o,Qgy E f x o then some (Classical.choose h)else none
open Classical in
noncomputable def WL (E:Env):zc E:=fun f b x=>if h:∃o,Qlv E f b x o then some (Classical.choose h)else none
theorem QQV {E:Env}{f:Nat}{x:Qm (E.sig f).ins}{o:Qm (E.sig f).outs}(h:Qgy E f x o):W E f x=some o:=by
 have hx:∃o,Qgy E f x o:=⟨o,h⟩
 unfold W
 rw[dif_pos hx]
 exact congrArg some (Evt.unique (Classical.choose_spec hx) h)
theorem QyA {E:Env}{f:Nat}{x:Qm (E.sig f).ins}{o:Qm (E.sig f).outs}(h:W E f x=some o):Qgy E f x o:=by
 unfold W at h
 split at h
 ·rename_i hx
  rw[<-QY10 h];exact Classical.choose_spec hx
 ·cases h
theorem QPZ {E:Env}{f b:Nat}{x:Qm (E.lsig f b).sk.tys}{o:qW (Vc (E.lsig f b).exits)}(h:Qlv E f b x o):WL E f b x=some o:=by
 have hx:∃o,Qlv E f b x o:=⟨o,h⟩
 unfold WL
 rw[dif_pos hx]
 exact congrArg some (Evt.unique (Classical.choose_spec hx) h)
theorem QCa {E:Env}{f b:Nat}{x:Qm (E.lsig f b).sk.tys}{o:qW (Vc (E.lsig f b).exits)}(h:WL E f b x=some o):Qlv E f b x o:=by
 unfold WL at h
 split at h
 ·rename_i hx
  rw[<-QY10 h];exact Classical.choose_spec hx
 ·cases h
theorem QLT {E:Env}{f:Nat}{x:Qm (E.sig f).ins}{o:Qm (E.sig f).outs}(h:QfQ E (W E) (WL E) f x=some o):W E f x=some o:=
 QQV (Qgy.step (QJy (fun f x o h=>QyA h) (fun f b x o h=>QCa h) f x o h))
theorem QIJ {E:Env}{f b:Nat}{x:Qm (E.lsig f b).sk.tys}{o:qW (Vc (E.lsig f b).exits)}(h:Qf2 E (W E) (WL E) f b x=some o):WL E f b x=some o:=
 QPZ (Qlv.step (QJd (fun f x o h=>QyA h) (fun f b x o h=>QCa h) f b x o h))
end Go.Eng
namespace Go.Eng
open Go
def ap {E:Env}{f:Nat}{A B:Type}(hA:Qm (E.sig f).ins=A) (hB:Qm (E.sig f).outs=B) (D:Xz E) (a:A):Option B:=cast (congrArg Option hB) (D f (cast hA.symm a))
def apL {E:Env}{f b:Nat}{A B:Type}(hA:Qm (E.lsig f b).sk.tys=A) (hB:qW (Vc (E.lsig f b).exits)=B) (L:zc E) (a:A):Option B:=cast (congrArg Option hB) (L f b (cast hA.symm a))
theorem QKc {E:Env}{f:Nat}{A B:Type}(hA:Qm (E.sig f).ins=A) (hB:Qm (E.sig f).outs=B) {a:A}{r:Option B}{o:B}(e:ap hA hB (QfQ E (W E) (WL E)) a=r) (h:r=some o):ap hA hB (W E) a=some o:=by
 subst hA hB
 exact QLT (e.trans h)
theorem QIj {E:Env}{f b:Nat}{A B:Type}(hA:Qm (E.lsig f b).sk.tys=A) (hB:qW (Vc (E.lsig f b).exits)=B) {a:A}{r:Option B}{o:B}(e:apL hA hB (Qf2 E (W E) (WL E)) a=r) (h:r=some o):apL hA hB (WL E) a=some o:=by
 subst hA hB
 exact QIJ (e.trans h)
theorem QLt {P:Program}{E:Env}(hT:XZ P E) (hE:EnvCode P E) (hLo:EnvLoops E) (hmix:P.follows .mixedOrders=true) {f:Nat}(hf:E.fok f=true) {A B:Type}(hA:Qm (E.sig f).ins=A) (hB:Qm (E.sig f).outs=B) {a:A}{o:B}(h:ap hA hB (W E) a=some o):
 Qhk P E.gg (E.sig f) (E.real f) (unpack _ (cast hA.symm a)) (unpack _ (cast hB.symm o)):=by
 subst hA hB
 exact Qgy.spec hT hE hLo hmix hf (QyA h)
end Go.Eng
namespace Go.Eng
open Go
set_option linter.unusedVariables false
mutual
def Fit:(t:Ty)->Val t->Prop
 | .int k,n=>(Lit.int k n).wf=true
 | .bool,_=>True
 | .str,s=>ByteArray.size s<=maxLen
 | .sl ts,xs=>(vl xs).length<=maxLen/\∀x∈vl xs,JI ts x
def JI:(ts:Tys)->Qm ts->Prop
 | .nil,_=>True
 | .cons t ts,x=>Fit t (vhd x)/\JI ts (vtl x)
end
def Rd (w:World) (ts:Tys) (cs:List Value):Prop:=∃(x:Qm ts) (bl:List Nat),XF w ts x cs bl/\JI ts x/\∀b∈bl,b<w.heap.size
theorem Rd.nil {w:World}:Rd w .nil []:=⟨(),[],⟨rfl,rfl⟩,trivial,by simp⟩
theorem QoB {t:Ty}{ts:Tys}(a:Val t) (b:Qm ts):vhd (vmk a b)=a:=by cases ts<;>rfl
theorem Qpr {t:Ty}{ts:Tys}(a:Val t) (b:Qm ts):vtl (vmk a b)=b:=by cases ts<;>rfl
theorem Rd.cons {w:World}{t:Ty}{ts:Tys}{u:Value}{us:List Value}{a:Val t}{b1:List Nat}(h:Rep w t a u b1) (hf:Fit t a) (hb:∀b∈b1,b<w.heap.size) (h2:Rd w ts us):Rd w (.cons t ts) (u::us):=by
 obtain⟨x,bl,h3,h4,h5⟩:=h2
 refine⟨vmk a x,b1++bl,⟨u,us,b1,bl,rfl,rfl, ?_, ?_⟩,⟨?_, ?_⟩,fun b hb'=> ?_⟩
 ·rw[QoB];exact h
 ·rw[Qpr];exact h3
 ·rw[QoB];exact hf
 ·rw[Qpr];exact h4
 ·rcases QRh.1 hb' with h|h
  ·exact hb b h
  ·exact h5 b h
theorem Rd.uncons {w:World}{t:Ty}{ts:Tys}{cs:List Value}(h:Rd w (.cons t ts) cs):∃u us a b1,cs=u::us/\Rep w t a u b1/\Fit t a/\(∀b∈b1,b<w.heap.size)/\Rd w ts us:=by
 obtain⟨x,bl,⟨u,us,b1,b2,e1,e2,h1,h2⟩,⟨h3,h4⟩,h5⟩:=h
 exact⟨u,us,vhd x,b1,e1,h1,h3,fun b hb=>h5 b (by rw[e2];exact List.mem_append_left _ hb),vtl x,b2,h2,h4,fun b hb=>h5 b (by rw[e2];exact List.mem_append_right _ hb)⟩
theorem Rd.app {w:World}: {ts us:Tys}-> {cs ds:List Value}->Rd w ts cs->Rd w us ds->Rd w (ts.app us) (cs++ds)
 | .nil,us,cs,ds,⟨_,_,⟨h,_⟩,_,_⟩,h'=>by subst h;exact h'
 | .cons t ts,us,cs,ds,h,h'=>by
   obtain⟨u,us',a,b1,rfl,h1,h2,h3,h4⟩:=h.uncons
   exact Rd.cons h1 h2 h3 (Rd.app h4 h')
theorem Rd.len {w:World}: {ts:Tys}-> {cs:List Value}->Rd w ts cs->cs.length=ts.len
 | .nil,cs,⟨_,_,⟨h,_⟩,_,_⟩=>by subst h;rfl
 | .cons t ts,cs,h=>by
   obtain⟨u,us',a,b1,rfl,h1,h2,h3,h4⟩:=h.uncons
   simp[Tys.len,Rd.len h4]
def Tys.strip:Tys->Tys->Option Tys
 | .nil,ts=>some ts
 | .cons t ts, .cons u us=>match Ty.eq? t u with|some _=>Tys.strip ts us|none=>none
 | .cons _ _, .nil=>none
theorem Tys.Qxc:(a b c:Tys)->Tys.strip a b=some c->b=a.app c
 | .nil,b,c,h=>by simp only[Tys.strip,Option.some.injEq]at h;exact h
 | .cons t ts, .nil,c,h=>by cases h
 | .cons t ts, .cons u us,c,h=>by
   simp only[Tys.strip]at h
   split at h
   ·rename_i p _
    obtain⟨p⟩:=p
    subst p
    simp only[Tys.app]
    rw[Tys.Qxc ts us c h]
   ·cases h
def Qkj (a b:Tys):Bool:=match Tys.eq? a b with|some _=>true|none=>false
theorem Qao {a b:Tys}(h:Qkj a b=true):a=b:=by
 unfold Qkj at h
 split at h
 ·rename_i p _;exact p.down
 ·cases h
def Qss (P:Program) (ty:Nat->TI):Nat->List Field->Tys->Bool
 |_,[],ts=>(match ts with| .nil=>true|_=>false)
 |off,f::fs,ts=>(ty f.type).ok&&Nat.beq f.offset off&&Nat.beq (P.cellsOf f.type) (ty f.type).ts.len&&(match(ty f.type).ts.strip ts with|some rest=>Qss P ty (off+(ty f.type).ts.len) fs rest|none=>false)
def rdB (P:Program) (ty:Nat->TI) (T:Nat) (i:TI):Bool:= !i.ok||(match P.underlying T with
 |some (.int k)=> !i.agg&&Qkj i.ts (.cons (.int k) .nil)
 |some .bool=> !i.agg&&Qkj i.ts (.cons .bool .nil)
 |some .string=> !i.agg&&Qkj i.ts (.cons .str .nil)
 |some (.slice e)=> !i.agg&&(ty e).ok&&Nat.blt 0 (ty e).ts.len&&Nat.beq (P.cellsOf e) (ty e).ts.len&&Qkj i.ts (.cons (.sl (ty e).ts) .nil)
 |some (.struct fs)=>i.agg&&Nat.beq (P.cellsOf T) i.ts.len&&Qss P ty 0 fs.toList i.ts
 |_=>false)
theorem QEu {w:World}{ts:Tys}{a:Addr}:(n:Nat)->(∀i,i<n->∃us,Cells w a (i*ts.len) us/\Rd w ts us)->∃(xs:List (Qm ts)) (bls:List (List Nat)),xs.length=n/\bls.length=n/\(∀x∈xs,JI ts x)/\(∀b∈bls.flatten,b<w.heap.size)/\
 ∀(i:Nat) (x:Qm ts) (b:List Nat),xs[i]? =some x->bls[i]? =some b->∃us,Cells w a (i*ts.len) us/\XF w ts x us b
 |0,_=>⟨[],[],rfl,rfl,by simp,by simp,by simp⟩
 |n+1,h=>by
  obtain⟨xs,bls,h1,h2,h3,h4,h5⟩:=QEu n fun i hi=>h i (by omega)
  obtain⟨us,c1,x,bl,c2,c3,c4⟩:=h n (by omega)
  refine⟨xs++[x],bls++[bl],by simp[h1],by simp[h2],fun y hy=> ?_,fun b hb=> ?_,fun i y b hy hb=> ?_⟩
  ·rcases QRh.1 hy with h|h
   ·exact h3 y h
   ·rw[List.mem_singleton.1 h];exact c3
  ·rw[QY21]at hb
   rcases QRh.1 hb with h|h
   ·exact h4 b h
   ·exact c4 b (by simpa using h)
  ·by_cases hi:i<n
   ·rw[List.getElem?_append_left (by omega)]at hy hb
    exact h5 i y b hy hb
   ·have hin:i=n:=by
     have:=(QRq.1 hy).1
     simp[h1]at this;omega
    subst hin
    rw[QY39 (by omega),h1,Nat.sub_self]at hy
    rw[QY39 (by omega),h2,Nat.sub_self]at hb
    simp at hy hb;subst hy hb
    exact⟨us,c1,c2⟩
section
variable {H:Type}{enc:TypeId×Value->H}{P:Program}{w:World}{sp:Nat->Bool}{held:Bool}{ty:Nat->TI}
theorem Qta {n:Nat}(ih:∀T cs y,(ty T).ok=true->DataW.trod enc P w 0 sp held n T cs=some y->Rd w (ty T).ts cs) (cs:List Value):(fs:List Field)->(off:Nat)->(ts:Tys)->Qss P ty off fs ts=true->
 (∀f∈fs,∃y,DataW.trod enc P w 0 sp held n f.type ((cs.drop f.offset).take (P.cellsOf f.type))=some y)->cs.length=off+ts.len->Rd w ts (cs.drop off)
 | [],off,ts,h,_,hl=>by
   cases ts with
   |nil=>
    simp only[Tys.len]at hl
    rw[List.drop_of_length_le (by omega)];exact Rd.nil
   |cons _ _=>cases h
 |f::fs,off,ts,h,hf,hl=>by
  simp only[Qss,QQ5,QY15]at h
  obtain⟨⟨⟨h1,h2⟩,h3⟩,h4⟩:=h
  split at h4
  ·rename_i rest hs
   have e:=Tys.Qxc _ _ _ hs
   obtain⟨y,hy⟩:=hf f (by simp)
   have r:=ih _ _ _ h1 hy
   have hlen:=r.len
   rw[h2,h3]at r hlen
   have e2:ts.len=(ty f.type).ts.len+rest.len:=by
    rw[e]
    generalize (ty f.type).ts=a
    have:∀a:Tys,(a.app rest).len=a.len+rest.len:=by
     intro a
     induction a using Tys.rec (motive_1:=fun _=>True)with
     |nil=>simp[Tys.app,Tys.len]
     |cons t ts _ iht=>simp only[Tys.app,Tys.len,iht];omega
     |_=>trivial
    exact this a
   have r2:=Qta ih cs fs (off+(ty f.type).ts.len) rest h4 (fun g hg=>hf g (by simp[hg])) (by omega)
   have:=r.app r2
   rw[<-e]at this
   have e3:(cs.drop off).take (ty f.type).ts.len++cs.drop (off+(ty f.type).ts.len)=cs.drop off:=by
    rw[<-List.drop_drop];exact List.take_append_drop _ _
   rw[e3]at this
   exact this
  ·cases h4
theorem read (hB:∀T,rdB P ty T (ty T)=true):(fuel:Nat)->(T:Nat)->(cs:List Value)->(y:DataW H×List MemPlace)->(ty T).ok=true->DataW.trod enc P w 0 sp held fuel T cs=some y->Rd w (ty T).ts cs
 |0,T,cs,y,_,h=>by simp[DataW.trod]at h
 |fuel+1,T,cs,y,hok,h=>by
  have hb:=hB T
  simp only[rdB,hok,QQ3,Bool.false_or]at hb
  split at hb
  ·rename_i k hu
   simp only[QQ5]at hb
   rw[Qao hb.2]
   obtain⟨n,rfl,_,hw⟩:=DataW.trod_int hu h
   exact Rd.cons (a:=(show Val (.int k)from n)) (b1:=[]) ⟨rfl,rfl⟩ hw (by simp) Rd.nil
  ·rename_i hu
   simp only[QQ5]at hb
   rw[Qao hb.2]
   obtain⟨b,rfl,_⟩:=DataW.trod_bool hu h
   exact Rd.cons (a:=(show Val .bool from b)) (b1:=[]) ⟨rfl,rfl⟩ trivial (by simp) Rd.nil
  ·rename_i hu
   simp only[QQ5]at hb
   rw[Qao hb.2]
   obtain⟨s,rfl,_,hs⟩:=DataW.trod_string hu h
   exact Rd.cons (a:=(show Val .str from s)) (b1:=[]) ⟨rfl,rfl⟩ hs (by simp) Rd.nil
  ·rename_i e hu
   simp only[QQ5,QY15,Nat.blt_eq]at hb
   obtain⟨⟨⟨⟨_,h1⟩,h2⟩,h3⟩,h4⟩:=hb
   rw[Qao h4]
   rcases DataW.trod_slice hu h with⟨rfl,_⟩|⟨a,len,cap,elems,rest,n,hn,rfl,_,_,hl,hm,hlen,hel,_,_⟩
   ·exact Rd.cons (a:=(show Val (.sl (ty e).ts)from([]:List (Qm (ty e).ts)))) (b1:=[]) ⟨none,0,rfl,⟨QY2 _,fun _=>rfl⟩, .inl ⟨rfl,rfl⟩⟩ ⟨by simp[vl],by simp[vl]⟩ (by simp) Rd.nil
   ·obtain rfl:fuel=n:=by omega
    have each:∀i,i<len->∃us,Cells w a (i*(ty e).ts.len) us/\Rd w (ty e).ts us/\a.block<w.heap.size:=by
     intro i hi
     have h5:=hel i hi
     rw[QRp (by omega)]at h5
     obtain⟨us,h6,h7⟩:=Option.bind_eq_some_iff.1 h5
     refine⟨us,fun j u hj=> ?_,read hB fuel e us _ h1 h7, ?_⟩
     ·obtain⟨_,g1,g2⟩:=World.cells?_some h6
      have hj':j<us.length:=(QRq.1 hj).1
      have:=g2 j (by omega)
      rw[Addr.add_add,h3,hj]at this
      exact this
     ·have:=World.cells?_block h6 (by omega)
      rwa[QrJ]at this
    obtain⟨xs,bls,x1,x2,x3,x4,x5⟩:=QEu (w:=w) (ts:=(ty e).ts) (a:=a) len fun i hi=>by
     obtain⟨us,c1,c2,_⟩:=each i hi
     exact⟨us,c1,c2⟩
    by_cases h0:len=0
    ·subst h0
     have x1:xs=[]:=QRx x1
     exact Rd.cons (a:=(show Val (.sl (ty e).ts)from([]:List (Qm (ty e).ts)))) (b1:=[]) ⟨some a,cap,rfl,⟨Nat.zero_le _,fun h=>by cases h⟩, .inl ⟨rfl,rfl⟩⟩ ⟨by simp[vl],by simp[vl]⟩ (by simp) Rd.nil
    ·refine Rd.cons (a:=(show Val (.sl (ty e).ts)from xs)) (b1:=a.block::bls.flatten) ⟨some a,cap,by rw[show(vl (show Val (.sl (ty e).ts)from xs)).length=len from x1],⟨by rw[show(vl (show Val (.sl (ty e).ts)from xs)).length=len from x1];exact hl,fun h=>by cases h⟩, .inr ⟨a,bls,rfl,rfl,by rw[x2];exact x1.symm,x5⟩⟩ ⟨by rw[show(vl (show Val (.sl (ty e).ts)from xs)).length=len from x1];omega,x3⟩ (fun b hb=> ?_) Rd.nil
     rcases QRk.1 hb with h|h
     ·obtain⟨_,_,_,h7⟩:=each 0 (by omega)
      rw[h];exact h7
     ·exact x4 b h
  ·rename_i fs hu
   simp only[QQ5,QY15]at hb
   obtain⟨⟨_,h2⟩,h3⟩:=hb
   obtain⟨xs,n,hn,_,hl,hx,hf⟩:=DataW.trod_struct hu h
   obtain rfl:fuel=n:=by omega
   have:=Qta (read hB fuel) cs fs.toList 0 (ty T).ts h3 (fun f hfm=>by
    obtain⟨i,hi,he⟩:=List.mem_iff_getElem.1 hfm
    have h5:=hf i f (by rw[Array.getElem?_eq_getElem (by simpa using hi)];simpa using he)
    exact⟨xs[i]'(by rw[hx];simpa using hi),by rw[h5,QRp]⟩) (by omega)
   rwa[QRg]at this
  ·cases hb
end
end Go.Eng
namespace Go.Eng
open Go Go.RowKit
set_option linter.unusedVariables false
def QBU (ty:Nat->TI):List TypeId->List PSig->Bool
 | [],[]=>true
 |T::Ts, .val a cs::ps=>(ty T).ok&&(a==(ty T).agg)&&cs.all (fun c=>c.1.QX)&&Qkj (vm cs) (ty T).ts&&QBU ty Ts ps
 |_,_=>false
section
variable {H:Type}{enc:TypeId×Value->H}{P:Program}{w:World}{sp:Nat->Bool}{held:Bool}{ty:Nat->TI}
theorem QEI {R:Nat->Prop}(hR:∀b,b<w.heap.size->R b):(cs:List (Mode×Ty))->(us:List Value)->cs.all (fun c=>c.1.QX)=true->Rd w (vm cs) us->∃x:Qm (vm cs),JI (vm cs) x/\∃bls,bls.flatten=[]/\QdV w R cs (unpack _ x) us bls
 | [],us,_,⟨x,bl,⟨h,_⟩,_,_⟩=>⟨(),trivial,[],rfl,rfl,h,rfl⟩
 |(.ro,t)::l,us,h,hr=>by
  simp only[QY29,QQ5]at h
  obtain⟨u,us',a,b1,rfl,h1,h2,h3,h4⟩:=Rd.uncons (ts:=vm l) hr
  obtain⟨x,f1,bls,e1,c1⟩:=QEI hR l us' h.2 h4
  refine⟨(vmk a x:Qm (.cons t (vm l))),⟨by rw[QoB];exact h2,by rw[Qpr];exact f1⟩,[]::bls,by simp[e1],⟨t,a⟩,unpack _ x,u,us',[],bls, ?_,rfl,rfl,⟨rfl, ?_⟩,c1⟩
  ·show(⟨t,vhd (vmk a x)⟩:TV)::unpack (vm l) (vtl (vmk a x))=_
   rw[QoB,Qpr]
  ·have:takes .ro t=false:=by simp[takes,Mode.QX]
   rw[this]
   exact⟨rfl,b1,h1,fun c hc=>hR c (h3 c hc)⟩
 |(.mut,t)::l,us,h,hr=>by simp[Mode.QX]at h
 |(.own,t)::l,us,h,hr=>by simp[Mode.QX]at h
 |(.junk,t)::l,us,h,hr=>by simp[Mode.QX]at h
theorem Qv0:(a b:Tys)->(x:Qm a)->(y:Qm b)->∃z:Qm (a.app b),unpack _ z=unpack _ x++unpack _ y/\(JI a x->JI b y->JI (a.app b) z)
 | .nil,b,x,y=>⟨y,rfl,fun _ h=>h⟩
 | .cons t ts,b,x,y=>by
   obtain⟨z,h1,h2⟩:=Qv0 ts b (vtl x) y
   refine⟨(vmk (vhd x) z:Qm (.cons t (ts.app b))), ?_,fun hx hy=>⟨?_, ?_⟩⟩
   ·show(⟨t,vhd (vmk (vhd x) z)⟩:TV)::unpack (ts.app b) (vtl (vmk (vhd x) z))=_
    rw[QoB,Qpr,h1];rfl
   ·rw[QoB];exact hx.1
   ·rw[Qpr];exact h2 hx.2 hy
theorem QEc {base:Nat}{T:TypeId}{v:Value}(hok:(ty T).ok=true) (hB:rdB P ty T (ty T)=true) (h:Value.okWide P w .any base T v):(if(ty T).agg then v= .agg v.cells.toList.toArray else v.cells.toList=[v]):=by
 simp only[rdB,hok,QQ3,Bool.false_or]at hB
 unfold Value.okWide at h
 split at hB
 ·rename_i k hu
  simp only[QQ5,QY14]at hB
  rw[hu]at h
  simp only[Cell.okWide,Cell.ok,hu]at h
  rw[hB.1]
  cases v<;>simp_all[Value.cells]
 ·rename_i hu
  simp only[QQ5,QY14]at hB
  rw[hu]at h
  simp only[Cell.okWide,Cell.ok,hu]at h
  rw[hB.1]
  cases v<;>simp_all[Value.cells]
 ·rename_i hu
  simp only[QQ5,QY14]at hB
  rw[hu]at h
  simp only[Cell.okWide,Cell.ok,hu]at h
  rw[hB.1]
  cases v<;>simp_all[Value.cells]
 ·rename_i e hu
  simp only[QQ5,QY14]at hB
  rw[hu]at h
  simp only[Cell.okWide,Cell.ok,hu]at h
  rw[hB.1.1.1.1]
  cases v<;>simp_all[Value.cells]
 ·rename_i fs hu
  simp only[QQ5]at hB
  rw[hu]at h
  obtain⟨cs,rfl,_⟩:=h
  rw[hB.1.1]
  simp[Value.cells]
 ·cases hB
theorem QBF {base:Nat}{R:Nat->Prop}(hR:∀b,b<w.heap.size->R b) (hB:∀T,rdB P ty T (ty T)=true):(Ts:List TypeId)->(ps:List PSig)->(vs:List Value)->(ds:List (DataW H))->(p:List MemPlace)->QBU ty Ts ps=true->DataW.TrodAll enc P w 0 sp held Ts vs ds p->
 (∀(j:Nat) t v,Ts[j]? =some t->vs[j]? =some v->Value.okWide P w .any base t v)->∃a:Qm (QpN ps),JI _ a/\∃bls,bls.flatten=[]/\QcQ w R ps (unpack _ a) vs [] bls
 | [],[],[],[],p,_,_,_=>⟨(),trivial,[],rfl,rfl,rfl,rfl,rfl⟩
 | [],[],_::_,_,p,_,h,_=>by cases h
 | [],[],[],_::_,p,_,h,_=>by cases h
 | [],_::_,_,_,p,h,_,_=>by cases h
 |_::_,[],_,_,p,h,_,_=>by cases h
 |_::_, .ptr _::_,_,_,p,h,_,_=>by cases h
 |_::_, .fn _ _::_,_,_,p,h,_,_=>by cases h
 |_::_, .val _ _::_,[],_,p,_,h,_=>by cases h
 |_::_, .val _ _::_,_::_,[],p,_,h,_=>by cases h
 |T::Ts, .val a cs::ps,v::vs,d::ds,p,h,ht,hval=>by
  simp only[QBU,QQ5,beq_iff_eq]at h
  obtain⟨⟨⟨⟨h1,h2⟩,h3⟩,h4⟩,h5⟩:=h
  obtain⟨p1,q1,⟨fuel,k1⟩,k2,_⟩:=ht
  have r:=read hB fuel T _ _ h1 k1
  rw[<-Qao h4]at r
  obtain⟨x,f1,b1,e1,c1⟩:=QEI hR cs _ h3 r
  obtain⟨y,f2,b2,e2,c2⟩:=QBF hR hB Ts ps vs ds q1 h5 k2 (fun j t v hj hv=>hval (j+1) t v (by simpa using hj) (by simpa using hv))
  obtain⟨z,g1,g2⟩:=Qv0 (vm cs) (QpN ps) x y
  refine⟨z,g2 f1 f2,b1++b2,by simp[e1,e2],unpack _ x,unpack _ y,v,vs,[],[],b1,b2,g1,rfl,rfl,rfl,⟨rfl,v.cells.toList, ?_,c1⟩,c2⟩
  have:=QEc h1 (hB T) (hval 0 T v rfl rfl)
  rw[<-h2]at this
  exact this
end
theorem QJb {w w':World}(h:Grow (·∈([]:List Nat)) w w'):Below w.heap.size w w':=⟨h.os,h.tape,h.output,h.size,fun k hk=>h.block k hk (by simp)⟩
def Mode.Qu2:Mode->Bool
 | .junk=>true
 |_=>false
theorem QFx {H:Type}{enc:TypeId×Value->H}{P:Program}{E:Env}(hT:XZ P E) (hE:EnvCode P E) (hLo:EnvLoops E) (hmix:P.follows .mixedOrders=true) (hB:∀T,rdB P E.ty T (E.ty T)=true) {f:Nat}(hf:E.fok f=true)
 {tys:Tys}(ht:(E.sig f).ins=tys) {m:Mode}(hrs:(E.sig f).rs=[.val false [(m, .bool)]]) (hm:m.Qu2=false) (hto:(E.sig f).outs= .cons .bool .nil) (pure:∀a:Qm tys,JI tys a->ap (congrArg Qm ht) (congrArg Qm hto) (W E) a=some (show Qm (.cons .bool .nil)from true))
 {w:World}{sp:Nat->Bool}{held:Bool}{Ts:List TypeId}(hlaw:QBU E.ty Ts (E.sig f).ps=true) {vs:List Value}{ds:List (DataW H)}{p:List MemPlace}(htr:DataW.TrodAll enc P w 0 sp held Ts vs ds p) {base:Nat}(hval:∀(j:Nat) t v,Ts[j]? =some t->vs[j]? =some v->Value.okWide P w .any base t v) (hgl:E.gg.gl w) (hgb:∀b∈E.gg.gb,b<w.heap.size):
 Calls P (E.real f) vs.toArray w fun e w'=>e= .returned (.bool true)/\Below w.heap.size w w':=by
 subst ht
 obtain⟨a,ha,bls,hbls,hin⟩:=QBF (R:=fun b=>b<w.heap.size) (fun b h=>h) hB Ts _ vs ds p hlaw htr hval
 have hs:=QLt hT hE hLo hmix hf _ _ (pure a ha)
 refine(hs w (fun b=>b<w.heap.size) vs [] bls hgl hgb hin (by simp[hbls]) (by simp[hbls]) (fun b hb=>⟨hb,by simp[hbls]⟩)).mono ?_
 rintro e w' ⟨v,rfl,hgrow,rx,px,rvs,rbs,rbls,pbls,Q,h1,h2,h3,_⟩
 rw[hbls]at hgrow
 refine⟨?_,QJb hgrow⟩
 have hu:unpack (E.sig f).outs (cast (congrArg Qm hto).symm (show Qm (.cons .bool .nil)from true))=[⟨.bool,true⟩]:=by
  have:∀(ts:Tys) (h:ts= .cons .bool .nil),unpack ts (cast (congrArg Qm h).symm (show Qm (.cons .bool .nil)from true))=[⟨.bool,true⟩]:=by
   intro ts h;subst h;rfl
  exact this _ hto
 rw[hu]at h1
 rw[hrs]at h3
 obtain⟨x1,x2,v1,vs',b1,b2,l1,l2,e1,e2,_,_,⟨_,us,hus,hc⟩,hrest⟩:=h3
 obtain⟨e3,e4,_,_⟩:=hrest
 have hus:us=[v1]:=hus
 subst hus e4 e2 e3 h2
 have hfin:∀(x:TV) (xs':List TV) (u:Value) (us':List Value) (bl:List Nat),x1=x::xs'->[v]=u::us'->V7 w' Q m .bool x u bl->v= .bool true:=by
  intro x xs' u us' bl hx hu' ⟨ht,hc⟩
  have:takes m .bool=false:=rfl
  rw[this]at hc
  obtain⟨_,b',hr,_⟩:=hc
  cases hu'
  rw[e1,hx]at h1
  simp only[QRv,QY11]at h1
  obtain⟨rfl,_⟩:=List.cons.inj h1
  exact hr.1
 have:v= .bool true:=by
  cases m
  case junk=>cases hm
  all_goals
   obtain⟨x,xs',u,us',bl,bls',q1,q2,_,q3,_⟩:=hc
   exact hfin x xs' u us' bl q1 q2 q3
 rw[this]
theorem QP8 {H:Type}{enc:TypeId×Value->H}{P:Program}{E:Env}(hT:XZ P E) (hE:EnvCode P E) (hLo:EnvLoops E) (hmix:P.follows .mixedOrders=true) (hB:∀T,rdB P E.ty T (E.ty T)=true) {f:Nat}(hf:E.fok f=true)
 {tys:Tys}(ht:(E.sig f).ins=tys) {m:Mode}(hrs:(E.sig f).rs=[.val false [(m, .bool)]]) (hm:m.Qu2=false) (hto:(E.sig f).outs= .cons .bool .nil) (pure:∀a:Qm tys,JI tys a->ap (congrArg Qm ht) (congrArg Qm hto) (W E) a=some (show Qm (.cons .bool .nil)from true))
 {w:World}{sp:Nat->Bool}{held:Bool}{Ts:List TypeId}(hlaw:QBU E.ty Ts (E.sig f).ps=true) {vs:List Value}{ds:List (DataW H)}{p:List MemPlace}(htr:DataW.TrodAll enc P w 0 sp held Ts vs ds p) {base:Nat}(hval:∀(j:Nat) t v,Ts[j]? =some t->vs[j]? =some v->Value.okWide P w .any base t v) (hgg:E.gg=Glob.none:=by rfl):
 Calls P (E.real f) vs.toArray w fun e w'=>e= .returned (.bool true)/\Below w.heap.size w w':=
 QFx hT hE hLo hmix hB hf ht hrs hm hto pure hlaw htr hval (by rw[hgg];trivial) (fun b hb=>by rw[hgg]at hb;cases hb)
def ti0:TI:=⟨false,false, .nil,0,0,[],false⟩
theorem QNt {P:Program}{ty:BT TI}(h:ty.all (rdB P (ty.get ti0))=true) (T:Nat):rdB P (ty.get ti0) T (ty.get ti0 T)=true:=by
 rcases BT.QjY (d:=ti0) ty h T with h|h
 ·exact h
 ·rw[h];rfl
theorem QQx {P:Program}{ty:BT TI}(h:ty.all (fun _ i=> !i.eqOk)=true) (T:Nat):QIz P T (ty.get ti0 T):=by
 intro he
 rcases BT.QjY (d:=ti0) ty h T with h|h
 ·rw[he]at h;cases h
 ·rw[h]at he;cases he
theorem BT.QxE {α:Type}{f:Nat->α->Bool}{p:Nat->α->Prop}(hp:∀k v,f k v=true->p k v):(t:BT α)->t.all f=true->t.Qrk p
 | .leaf,_=>trivial
 | .node k v l r,h=>by
   simp only[BT.all,QQ5]at h
   exact⟨hp k v h.1.1,BT.QxE hp l h.1.2,BT.QxE hp r h.2⟩
theorem QJB {t:BT Func}(h:t.all (fun _ fn=> !(fn.name== "runtime.NumGoroutine"))=true):t.Qrk fun _ fn=>(fn.name== "runtime.NumGoroutine")=false:=
 BT.QxE (fun _ _ h=>by simpa using h) t h
theorem QH4 {w:World}{Q:Nat->Prop}{m:Mode}(hm:m.Qu2=false) (n:Int):Xc w Q [(m, .int .i64)] [⟨.int .i64,n⟩] [.int .i64 n] [[]]:=by
 cases m
 case junk=>cases hm
 all_goals exact⟨_,_,_,_,_,_,rfl,rfl,rfl,⟨rfl,rfl,[],⟨rfl,rfl⟩,by simp⟩,rfl,rfl,rfl⟩
def Mode.QFu:Mode->Bool
 | .mut=>true
 |_=>false
theorem QvA {w:World}{m:Mode}{t:Ty}(hm:m.QFu=false) (u:Value):QkB w [(m,t)] [u] [] []:=by
 cases m
 all_goals first|(cases hm;done)|exact⟨u,[],rfl,rfl,rfl,rfl⟩
theorem QIs {P:Program}{gg:Glob}{f:FuncId}{sg:Sig}{m1 m2 m3:Mode}(hps:sg.ps=[.val false [(m1, .str)], .val false [(m2, .str)]]) (hrs:sg.rs=[.val false [(m3, .int .i64)]]) (h3:m3.Qu2=false) (h4:m1.QFu=false) (h5:m2.QFu=false)
 (F:ByteArray->ByteArray->Int) (hF:∀a b w,Calls P f #[.string a, .string b] w fun e w'=>e= .returned (.int .i64 (F a b))/\w'=w) (a b:ByteArray):
 Qhk P gg sg f [⟨.str,a⟩,⟨.str,b⟩] [⟨.int .i64,F a b⟩]:=by
 intro w R vs bs bls hgl hgb hin hnd hlt hR
 rw[hps]at hin
 obtain⟨x1,x2,v,vs',b1,b2,l1,l2,e1,rfl,rfl,rfl,⟨rfl,us,hus,hc⟩,x3,x4,v',vs'',b3,b4,l3,l4,rfl,rfl,rfl,rfl,⟨rfl,us',hus',hc'⟩,rfl,rfl,rfl,rfl⟩:=hin
 obtain⟨x,xs,u,uss,bl,bls,rfl,rfl,rfl,⟨ht,hx⟩,rfl,rfl,rfl⟩:=hc
 obtain⟨y,ys,u',uss',bl',bls',rfl,rfl,rfl,⟨ht',hx'⟩,rfl,rfl,rfl⟩:=hc'
 have e1:([⟨.str,a⟩,⟨.str,b⟩]:List TV)=[x,y]:=e1
 have hx:bl=[]/\∃b',Rep w x.t x.v u b'/\∀c∈b',R c:=hx
 have hx':bl'=[]/\∃b',Rep w y.t y.v u' b'/\∀c∈b',R c:=hx'
 have hus: [u]=[v]:=hus
 have hus': [u']=[v']:=hus'
 cases hus;cases hus';cases e1
 obtain⟨rfl,_,⟨rfl,_⟩,_⟩:=hx
 obtain⟨rfl,_,⟨rfl,_⟩,_⟩:=hx'
 refine(hF a b w).mono ?_
 rintro e w' ⟨rfl,rfl⟩
 refine⟨_,rfl,Grow.refl _ _,[⟨.int .i64,F a b⟩],[],[.int .i64 (F a b)],[],[[]],[],fun _=>False,rfl,rfl, ?_, ?_,by simp,by simp,by simp⟩
 ·rw[hrs]
  exact⟨[⟨.int .i64,F a b⟩],[],_,[],[],[],[[]],[],rfl,rfl,rfl,rfl,⟨rfl,[.int .i64 (F a b)],rfl,QH4 h3 _⟩,rfl,rfl,rfl,rfl⟩
 ·rw[hps]
  exact⟨_,_,[],[],[],[],rfl,rfl,rfl,⟨_,rfl,QvA h4 _⟩,_,_,[],[],[],[],rfl,rfl,rfl,⟨_,rfl,QvA h5 _⟩,rfl,rfl,rfl⟩
end Go.Eng
namespace Go.Eng
open Go
theorem w64 {n:Int}(h1: -9223372036854775808<=n) (h2:n<=9223372036854775807):wR n=n:=IntWalk.i64_in n ⟨h1,h2⟩
theorem QLS (i n:Nat):inb (i:Int) n=decide (i<n):=by
 unfold inb
 by_cases h:i<n
 ·simp[h]
 ·simp[h]
theorem Qj {i n:Nat}(h:i<n):inb (i:Int) n=true:=by rw[QLS];simpa using h
theorem Qg {α:Type}{d:α}{xs:List α}{i:Nat}(h:i<xs.length):rd1 d xs (i:Int)=xs[i]:=by
 unfold rd1
 rw[QRb]
 simp[List.getD,QRp h]
theorem ilt {i n:Nat}(h:i<n):decide ((i:Int)<(n:Int))=true:=by simp[h]
theorem Qo (n:Nat):decide ((n:Int)<(n:Int))=false:=by simp
theorem inc {i n:Nat}(h:i<n) (hn:n<=maxLen):wR ((i:Int)+1)=((i+1:Nat):Int):=by
 rw[w64]<;>simp[maxLen]at hn<;>omega
theorem Qu {n b:Nat}(h:n*b<=140737488351232):fits n b=true:=by simp[fits,h]
theorem QHJ {α:Type}{b:Bool}{x y:α}(h:b=true):(bif b then x else y)=x:=by rw[h];rfl
theorem Jw {α β R:Type}(xs:List α) (f:α->β) (K:Nat->List β->Option R) (fin:List β->R)
 (hstep:∀i (h:i<xs.length) (out:List β) r,out.length=xs.length->K (i+1) (out.set i (f xs[i]))=some r->K i out=some r)
 (hend:∀out:List β,out.length=xs.length->K xs.length out=some (fin out)) (out:List β) (ho:out.length=xs.length):K 0 out=some (fin (xs.map f)):=by
 have main:∀n i (out:List β),i+n=xs.length->out.length=xs.length->out.take i=(xs.map f).take i->K i out=some (fin (xs.map f)):=by
  intro n
  induction n with
  |zero=>
   intro i out hi ho ht
   have:i=xs.length:=by omega
   subst this
   rw[hend out ho]
   rw[List.take_of_length_le (by omega),List.take_of_length_le (by simp)]at ht
   rw[ht]
  |succ n ih=>
   intro i out hi ho ht
   refine hstep i (by omega) out _ ho (ih (i+1) _ (by omega) (by simp[ho]) ?_)
   rw[List.take_add_one,List.take_add_one,List.take_set_of_le (QY2 i),ht,List.getElem?_set_self (by omega)]
   simp[show i<xs.length by omega]
 exact main xs.length 0 out (by omega) ho (by simp)
theorem QDF (b:ByteArray):∀n i (r:List UInt8),i+n=b.size->ByteArray.toList.loop b i r=r.reverse++b.data.toList.drop i:=by
 intro n
 induction n with
 |zero=>
  intro i r hi
  unfold ByteArray.toList.loop
  have hs:b.data.toList.length=b.size:=Array.length_toList
  rw[if_neg (by omega),List.drop_of_length_le (by omega),QY11]
 |succ n ih=>
  intro i r hi
  unfold ByteArray.toList.loop
  rw[if_pos (by omega),ih (i+1) _ (by omega)]
  have hs0:b.data.toList.length=b.size:=Array.length_toList
  have hs:i<b.data.toList.length:=by omega
  rw[QRa hs]
  have:b.get! i=b.data.toList[i]:=by
   have hsz:i<b.data.size:=by simpa using hs
   show b.data[i]! =_
   rw[getElem!_pos b.data i hsz]
   simp
  rw[this]
  simp
theorem toList_data (b:ByteArray):b.toList=b.data.toList:=by
 unfold ByteArray.toList
 rw[QDF b b.size 0 [] (by omega)]
 simp
theorem QoX (a b:ByteArray):X0 a b=decide (a=b):=by
 unfold X0
 rw[toList_data,toList_data]
 by_cases h:a=b
 ·subst h;simp
 ·have:¬a.data.toList=b.data.toList:=fun e=>h (by
   cases a;cases b
   exact congrArg ByteArray.mk (Array.toList_inj.1 e))
  rw[decide_eq_false h]
  exact beq_eq_false_iff_ne.2 this
theorem QED {α:Type} [DecidableEq α] (a b:List α) (hl:a.length=b.length) (K:Nat->Option (Bool⊕Unit))
 (hne:∀i (h1:i<a.length) (h2:i<b.length),a[i]≠b[i]->K i=some (.inl false))
 (heq:∀i (h1:i<a.length) (h2:i<b.length) r,a[i]=b[i]->K (i+1)=some r->K i=some r)
 (hend:K a.length=some (.inr ())):K 0=some (if a=b then .inr ()else .inl false):=by
 have main:∀n i,i+n=a.length->K i=some (if a.drop i=b.drop i then .inr ()else .inl false):=by
  intro n
  induction n with
  |zero=>
   intro i hi
   have:i=a.length:=by omega
   subst this
   rw[hend,QRl,hl,QRl,if_pos rfl]
  |succ n ih=>
   intro i hi
   have h1:i<a.length:=by omega
   have h2:i<b.length:=by omega
   rw[QRa h1,QRa h2]
   by_cases hx:a[i]=b[i]
   ·refine heq i h1 h2 _ hx ?_
    rw[ih (i+1) (by omega),hx]
    simp only[List.cons.injEq,true_and]
   ·rw[hne i h1 h2 hx]
    simp only[List.cons.injEq,hx,false_and,if_false]
 have:=main a.length 0 (by omega)
 simpa only[QRg]using this
def Qw {α:Type}(f:α->Int->α) (c:α->Nat):List α->Int->List α
 | [],_=>[]
 |x::l,k=>f x k::Qw f c l (k+c x)
def Qi {α:Type}(c:α->Nat):List α->Nat
 | []=>0
 |x::l=>c x+Qi c l
theorem X9 {α:Type}(f:α->Int->α) (c:α->Nat):(l:List α)->(k:Int)->(Qw f c l k).length=l.length
 | [],_=>rfl
 |x::l,k=>by simp[Qw,X9 f c l]
theorem KB {α R:Type}(f:α->Int->α) (c:α->Nat) (xs:List α) (K:Int->Nat->List α->Option R) (fin:Int->List α->R) (B:Int)
 (hstep:∀k i (ys:List α) (h:i<ys.length) r,ys.length=xs.length->ys[i]∈xs->0<k->k+c ys[i]<=B->K (k+c ys[i]) (i+1) (ys.set i (f ys[i] k))=some r->K k i ys=some r)
 (hend:∀k ys,ys.length=xs.length->K k xs.length ys=some (fin k ys)) (k:Int) (hk:0<k) (hB:k+Qi c xs<=B):K k 0 xs=some (fin (k+Qi c xs) (Qw f c xs k)):=by
 have main:∀(rest pre:List α) (k:Int),(pre++rest).length=xs.length->(∀y∈rest,y∈xs)->0<k->k+Qi c rest<=B->K k pre.length (pre++rest)=some (fin (k+Qi c rest) (pre++Qw f c rest k)):=by
  intro rest
  induction rest with
  |nil=>
   intro pre k hl hm hk hB
   have hl':pre.length=xs.length:=by simpa using hl
   rw[hl',hend _ _ hl]
   simp[Qi,Qw]
  |cons x rest ih=>
   intro pre k hl hm hk hB
   have hi:pre.length<(pre++x::rest).length:=by simp
   have hx:(pre++x::rest)[pre.length]=x:=by simp
   simp only[Qi,Int.natCast_add]at hB
   refine hstep k pre.length _ hi _ hl (by rw[hx];exact hm x (by simp)) hk (by rw[hx];omega) ?_
   rw[hx]
   have e:(pre++x::rest).set pre.length (f x k)=(pre++[f x k])++rest:=by simp
   rw[e]
   have:=ih (pre++[f x k]) (k+c x) (by simp at hl⊢; omega) (fun y hy=>hm y (by simp[hy])) (by omega) (by omega)
   rw[show(pre++[f x k]).length=pre.length+1 by simp]at this
   rw[this]
   simp[Qi,Qw,Int.add_assoc]
 exact main xs [] k (by simp) (fun y hy=>hy) hk hB
theorem KL {α:Type}(f:α->Int->α) (c:α->Nat) (xs:List α) (k0:Int) (K:Int->Nat->Option (Int⊕Int)) (B:Int)
 (hstep:∀k i (h:i<(Qw f c xs k0).length) x r,x∈xs->(Qw f c xs k0)[i]=f x k->0<k->k+c x<=B->K (k+c x) (i+1)=some r->K k i=some r)
 (hend:∀k,K k xs.length=some (.inr k)) (hk:0<k0) (hB:k0+Qi c xs<=B):K k0 0=some (.inr (k0+Qi c xs)):=by
 have main:∀(n i:Nat) (k:Int),i+n=xs.length->(Qw f c xs k0).drop i=Qw f c (xs.drop i) k->0<k->k+Qi c (xs.drop i)<=B->K k i=some (.inr (k+Qi c (xs.drop i))):=by
  intro n
  induction n with
  |zero=>
   intro i k hi hd hk hB
   have:i=xs.length:=by omega
   subst this
   rw[hend,QRl];simp[Qi]
  |succ n ih=>
   intro i k hi hd hk hB
   have h1:i<xs.length:=by omega
   have h2:i<(Qw f c xs k0).length:=by rw[X9];exact h1
   rw[QRa h1]at hd hB⊢
   rw[QRa h2]at hd
   simp only[Qw,List.cons.injEq]at hd
   simp only[Qi,Int.natCast_add]at hB⊢
   refine hstep k i h2 xs[i] _ (QRf h1) hd.1 hk (by omega) ?_
   rw[ih (i+1) (k+c xs[i]) (by omega) hd.2 (by omega) (by omega)]
   congr 2;omega
 have:=main xs.length 0 k0 (by omega) (by simp) hk (by simpa using hB)
 simpa using this
def szR (n:Nat) (l:Int):Int⊕Int:=if(n:Int)<=l then .inr (l - n)else .inl (-1)
theorem Qyq {n:Nat}{l:Int}(h:(n:Int)<=l):szR n l= .inr (l - n):=if_pos h
theorem QyE {n:Nat}{l:Int}(h:¬(n:Int)<=l):szR n l= .inl (-1):=if_neg h
theorem QHg {α:Type}(c:α->Nat) (x:α) (l:List α):Qi c (x::l)=c x+Qi c l:=rfl
theorem QjW {α:Type}(s:α->Nat) (xs:List α) (K:Int->Nat->Option (Int⊕Int)) (B:Int)
 (hin:∀l i (h:i<xs.length) r,0<=l->l<=B->(s xs[i]:Int)<=l->K (l - s xs[i]) (i+1)=some r->K l i=some r)
 (hout:∀l i (h:i<xs.length),0<=l->l<=B->¬(s xs[i]:Int)<=l->K l i=some (.inl (-1)))
 (hend:∀l,K l xs.length=some (.inr l)) (l:Int) (h0:0<=l) (hB:l<=B):K l 0=some (szR (Qi s xs) l):=by
 have main:∀(n i:Nat) (l:Int),i+n=xs.length->0<=l->l<=B->K l i=some (szR (Qi s (xs.drop i)) l):=by
  intro n
  induction n with
  |zero=>
   intro i l hi h0 hB
   have:i=xs.length:=by omega
   subst this
   rw[hend,QRl,Qyq (show((Qi s []:Nat):Int)<=l from h0)]
   simp[Qi]
  |succ n ih=>
   intro i l hi h0 hB
   have h1:i<xs.length:=by omega
   rw[QRa h1,QHg]
   by_cases hs:(s xs[i]:Int)<=l
   ·refine hin l i h1 _ h0 hB hs ?_
    rw[ih (i+1) _ (by omega) (by omega) (by omega)]
    by_cases h2:(Qi s (xs.drop (i+1)):Int)<=l - s xs[i]
    ·rw[Qyq h2,Qyq (by omega)];congr 2;omega
    ·rw[QyE h2,QyE (by omega)]
   ·rw[hout l i h1 h0 hB hs,QyE (by omega)]
 have:=main xs.length 0 l (by omega) h0 hB
 simpa only[QRg]using this
theorem XG {α:Type}(c:α->Nat):(l:List α)->(i:Nat)->(h:i<l.length)->c l[i]<=Qi c l
 |x::l,0,_=>by simp[Qi]
 |x::l,i+1,h=>by
  have:=XG c l i (by simpa using h)
  simp only[List.getElem_cons_succ,Qi];omega
theorem YI {α:Type}(c:α->Nat) {l:List α}{x:α}(h:x∈l):c x<=Qi c l:=by
 obtain⟨i,hi,rfl⟩:=List.mem_iff_getElem.1 h
 exact XG c l i hi
def szI (n:Nat) (l:Int):Int:=if(n:Int)<=l then l - n else -1
theorem V2 {n:Nat}{l:Int}(h:(n:Int)<=l):szI n l=l - n:=if_pos h
theorem K3 {n:Nat}{l:Int}(h:¬(n:Int)<=l):szI n l= -1:=if_neg h
theorem QfH (n:Nat) (l:Int):Qn (szR n l) (fun u=>some u) (fun z=>some z)=some (szI n l):=by
 unfold szR szI;split<;>rfl
theorem Jc {R:Type}(n:Nat) (K:Nat->Option R) (o:R) (hstep:∀i,i<n->∀r,K (i+1)=some r->K i=some r) (hend:K n=some o):K 0=some o:=by
 have main:∀m i,i+m=n->K i=some o:=by
  intro m
  induction m with
  |zero=>intro i hi;have:i=n:=by omega
         rw[this];exact hend
  |succ m ih=>intro i hi;exact hstep i (by omega) _ (ih (i+1) (by omega))
 exact main n 0 (by omega)
theorem df {p:Prop} [Decidable p] (h:¬p):decide p=false:=decide_eq_false h
theorem dt {p:Prop} [Decidable p] (h:p):decide p=true:=decide_eq_true h
theorem QY (a:ByteArray):X0 a a=true:=by rw[QoX];simp
theorem ZZ {n m:Nat}{l:Int}{X:Option Int}{f:Int->Option Int}(h0:0<=l) (hX:X=some (szI n l)) (hf:(n:Int)<=l->f (l - n)=some (szI m (l - n))):(X.bind fun r=>bif decide (r<0)then some (-1)else f r)=some (szI (n+m) l):=by
 rw[hX,QQ0]
 by_cases h:(n:Int)<=l
 ·rw[V2 h,df (by omega),QQ2,hf h]
  by_cases h2:(m:Int)<=l - n
  ·rw[V2 h2,V2 (by omega)];congr 1;omega
  ·rw[K3 h2,K3 (by omega)]
 ·rw[K3 h,dt (by omega),QQ1,K3 (by omega)]
theorem KT {l:Int}(h:0<=l):some l=some (szI 0 l):=by rw[V2 (by simpa using h)];simp
theorem ya {n m:Nat}{l:Int}{f:Option Int}(h0:0<=l) (hB:l<=1048576) (hn:n<=maxLen) (hf:(n:Int)<=l->f=some (szI m (l - n))):(bif decide (wR (l - n)<0)then some (-1)else f)=some (szI (n+m) l):=by
 simp only[maxLen]at hn
 rw[w64 (by omega) (by omega)]
 by_cases h:(n:Int)<=l
 ·rw[df (by omega),QQ2,hf h]
  by_cases h2:(m:Int)<=l - n
  ·rw[V2 h2,V2 (by omega)];congr 1;omega
  ·rw[K3 h2,K3 (by omega)]
 ·rw[dt (by omega),QQ1,K3 (by omega)]
theorem Q3 {R:Type}(n:Nat) (K:Nat->Option R) (M:Nat->R) (hstep:∀i,i<n->K (i+1)=some (M (i+1))->K i=some (M i)) (hend:K n=some (M n)):K 0=some (M 0):=by
 have main:∀m i,i+m=n->K i=some (M i):=by
  intro m
  induction m with
  |zero=>intro i hi;have:i=n:=by omega
         rw[this];exact hend
  |succ m ih=>intro i hi;exact hstep i (by omega) (ih (i+1) (by omega))
 exact main n 0 (by omega)
theorem Q0 {S R:Type}(n:Nat) (K:Nat->S->Option R) (M:Nat->S->R) (Inv:Nat->S->Prop) (hstep:∀i,i<n->∀s,Inv i s->(∀s',Inv (i+1) s'->K (i+1) s'=some (M (i+1) s'))->K i s=some (M i s)) (hend:∀s,Inv n s->K n s=some (M n s)) (s:S) (hs:Inv 0 s):K 0 s=some (M 0 s):=by
 have main:∀m i,i+m=n->∀s,Inv i s->K i s=some (M i s):=by
  intro m
  induction m with
  |zero=>intro i hi s hs;have:i=n:=by omega
         subst this;exact hend s hs
  |succ m ih=>intro i hi s hs;exact hstep i (by omega) s hs (ih (i+1) (by omega))
 exact main n 0 (by omega) s hs
theorem QqZ {i:Nat}(h:0<i) (hn:i<=maxLen):wR ((i:Int) - 1)=((i - 1:Nat):Int):=by
 simp only[maxLen]at hn
 rw[w64 (by omega) (by omega)];omega
theorem ipos {i:Nat}(h:0<i):decide ((0:Int)<(i:Int))=true:=by simp[h]
theorem Qp3:decide ((0:Int)<((0:Nat):Int))=false:=by simp
theorem Kf {α:Type}{d v:α}{xs:List α}{i:Nat}(h:i<xs.length):rd1 d (xs.set i v) (i:Int)=v:=by
 rw[Qg (by simpa using h)];simp
theorem QrG (l:List Int):ByteArray.size (QM l)=l.length:=by
 simp[QM,ByteArray.size]
theorem Qff {α:Type}(c s:α->Nat) (h:∀x,c x<=64*(s x+1)) (a:List α):Qi c a<=64*(a.length+Qi s a):=by
 induction a with
 |nil=>simp[Qi]
 |cons x l ih=>
  have:=h x
  simp only[Qi,QY1];omega
theorem QgP {α:Type}(c:α->Nat) (h:∀x,c x<=64) (a:List α):Qi c a<=64*a.length:=by
 induction a with
 |nil=>simp[Qi]
 |cons x l ih=>
  have:=h x
  simp only[Qi,QY1];omega
theorem Ya {β:Type}{i n:Nat}(h:i<n) (f:Nat->List β):(List.range' i (n - i)).flatMap f=f i++(List.range' (i+1) (n - (i+1))).flatMap f:=by
 rw[show n - i=(n - (i+1))+1 by omega,List.range'_succ]
 simp
theorem VQ {α R:Type}(xs:List α) (K:Nat->List α->Option R) (fin:List α->R)
 (hstep:∀i (h:i<xs.length) (out:List α) r,out.length=i->K (i+1) (out++[xs[i]])=some r->K i out=some r)
 (hend:∀out:List α,out.length=xs.length->K xs.length out=some (fin out)):K 0 []=some (fin xs):=by
 have e:=Q0 xs.length K (fun i s=>fin (s++xs.drop i)) (fun i s=>s.length=i)
  (fun i hi s hs ih=>by
    refine hstep i hi s _ hs ?_
    rw[ih (s++[xs[i]]) (by simp[hs]),QRa hi]
    simp)
  (fun s hs=>by rw[hend s hs];simp)
  [] rfl
 simpa using e
end Go.Eng
