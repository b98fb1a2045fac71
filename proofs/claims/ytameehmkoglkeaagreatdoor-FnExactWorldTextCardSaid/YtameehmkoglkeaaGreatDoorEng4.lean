/- A meaning of the translated functions in plain typed values, and its soundness, part 4. No conditions. -/
import Derived.Test.YtameehmkoglkeaaGreatDoorEng3
import Derived.DataReads
import Derived.ChangeArms
import Derived.ChangeOld
import Derived.DataElems
import Derived.Below
import Derived.IntWalk
import GoSem.ClaimData
set_option linter.all false
namespace Go.Eng
open Go
set_option linter.unusedVariables false
def Evt (p:Nat->Prop):Prop:=∃N,∀n,N<=n->p n
theorem Evt.of {p:Nat->Prop}(h:∀n,p n):Evt p:=⟨0,fun n _=>h n⟩
theorem Evt.and {p q:Nat->Prop}(h:Evt p) (h':Evt q):Evt fun n=>p n/\q n:=
 let⟨N,g⟩:=h;let⟨M,g'⟩:=h';⟨max N M,fun n hn=>⟨g n (Nat.le_trans (Nat.le_max_left _ _) hn),g' n (Nat.le_trans (Nat.le_max_right _ _) hn)⟩⟩
theorem Evt.mono {p q:Nat->Prop}(h:Evt p) (hpq:∀n,p n->q n):Evt q:=let⟨N,g⟩:=h;⟨N,fun n hn=>hpq n (g n hn)⟩
theorem Evt.QDn {p q r:Nat->Prop}(h:Evt p) (h':Evt q) (hpq:∀n,p n->q n->r n):Evt r:=(h.and h').mono fun n ⟨a,b⟩=>hpq n a b
theorem Evt.succ {p:Nat->Prop}(h:Evt fun n=>p (n+1)):Evt p:=by
 obtain⟨N,g⟩:=h
 refine⟨N+1,fun n hn=> ?_⟩
 obtain⟨m,rfl⟩:∃m,n=m+1:=⟨n - 1,by omega⟩
 exact g m (by omega)
theorem Evt.here {p:Nat->Prop}(h:Evt p):∃n,p n:=let⟨N,g⟩:=h;⟨N,g N (Nat.le_refl N)⟩
def Ct {β:Type}(x:Option β) (X:Nat->Option β):Prop:=∀o,x=some o->Evt fun n=>X n=some o
theorem Ct.none {β:Type}{X:Nat->Option β}:Ct none X:=fun o h=>by cases h
theorem Ct.same {β:Type}(x:Option β):Ct x fun _=>x:=fun o h=>Evt.of fun _=>h
theorem Ct.bind {α β:Type}{x:Option α}{X:Nat->Option α}{f:α->Option β}{F:Nat->α->Option β}(h:Ct x X) (h':∀a,Ct (f a) fun n=>F n a):Ct (x.bind f) fun n=>(X n).bind (F n):=by
 intro o ho
 cases x with
 |none=>cases ho
 |some a=>exact(h a rfl).QDn (h' a o ho) fun n e e'=>show(X n).bind (F n)=some o from by rw[e];exact e'
theorem Ct.cond {β:Type}{b:Bool}{x y:Option β}{X Y:Nat->Option β}(h:Ct x X) (h':Ct y Y):Ct (bif b then x else y) fun n=>bif b then X n else Y n:=by
 cases b
 ·exact h'
 ·exact h
inductive RPC {γ:Type}:RP γ->(Nat->RP γ)->Prop
 |ret (x:γ):RPC (.ret x) fun _=> .ret x
 |fail {p:Nat->RP γ}:RPC .fail p
 |X4 (i:Nat) {f:Cell->RP γ}{F:Nat->Cell->RP γ}(h:∀c,RPC (f c) fun n=>F n c):RPC (.X4 i f) fun n=> .X4 i (F n)
 |Vs (i:Nat) (c:Cell) {p:RP γ}{q:Nat->RP γ}(h:RPC p q):RPC (.Vs i c p) fun n=> .Vs i c (q n)
 |getC (r k:Nat) {f:Con->RP γ}{F:Nat->Con->RP γ}(h:∀c,RPC (f c) fun n=>F n c):RPC (.getC r k f) fun n=> .getC r k (F n)
 |setC (r k:Nat) (c:Con) {p:RP γ}{q:Nat->RP γ}(h:RPC p q):RPC (.setC r k c p) fun n=> .setC r k c (q n)
 |getI (r k:Nat) {f:Con->RP γ}{F:Nat->Con->RP γ}(h:∀c,RPC (f c) fun n=>F n c):RPC (.getI r k f) fun n=> .getI r k (F n)
 |setV (r k:Nat) (x:TV) {p:RP γ}{q:Nat->RP γ}(h:RPC p q):RPC (.setV r k x p) fun n=> .setV r k x (q n)
 |getB (r:Nat) {f:Nat×Nat->RP γ}{F:Nat->Nat×Nat->RP γ}(h:∀c,RPC (f c) fun n=>F n c):RPC (.getB r f) fun n=> .getB r (F n)
 |setB (r:Nat) (g:Nat×Nat) {p:RP γ}{q:Nat->RP γ}(h:RPC p q):RPC (.setB r g p) fun n=> .setB r g (q n)
 |br (b:Bool) {p p':RP γ}{q q':Nat->RP γ}(h:RPC p q) (h':RPC p' q'):RPC (.br b p p') fun n=> .br b (q n) (q' n)
 |brT (i:Nat) {p p':RP γ}{q q':Nat->RP γ}(h:RPC p q) (h':RPC p' q'):RPC (.brT i p p') fun n=> .brT i (q n) (q' n)
 |brG (i:Nat) (w:Bool) {p p':RP γ}{q q':Nat->RP γ}(h:RPC p q) (h':RPC p' q'):RPC (.brG i w p p') fun n=> .brG i w (q n) (q' n)
 |call (ts:Tys) {o:Option (Qe ts)}{O:Nat->Option (Qe ts)}{f:Qe ts->RP γ}{F:Nat->Qe ts->RP γ}(ho:Ct o O) (h:∀x,RPC (f x) fun n=>F n x):RPC (.call ts o f) fun n=> .call ts (O n) (F n)
theorem RPC.ev {γ β:Type}{p:RP γ}{q:Nat->RP γ}(h:RPC p q):∀(s:St) (K:γ->St->Option β) (KK:Nat->γ->St->Option β),(∀x s,Ct (K x s) fun n=>KK n x s)->Ct (p.ev s K) fun n=>(q n).ev s (KK n):=by
 induction h with
 |ret x=>intro s K KK hK;exact hK x s
 |fail=>intro s K KK hK;exact Ct.none
 |X4 i h ih=>intro s K KK hK;exact ih _ s K KK hK
 |Vs i c h ih=>intro s K KK hK;exact Ct.cond (ih _ K KK hK) Ct.none
 |getC r k h ih=>intro s K KK hK;exact ih _ s K KK hK
 |setC r k c h ih=>intro s K KK hK;exact ih _ K KK hK
 |getI r k h ih=>intro s K KK hK;exact ih _ s K KK hK
 |setV r k x h ih=>intro s K KK hK;exact ih _ K KK hK
 |getB r h ih=>intro s K KK hK;exact ih _ s K KK hK
 |setB r g h ih=>intro s K KK hK;exact ih _ K KK hK
 |br b h h' ih ih'=>intro s K KK hK;exact Ct.cond (ih s K KK hK) (ih' s K KK hK)
 |brT i h h' ih ih'=>
  intro s K KK hK
  simp only[RP.ev]
  cases Q9 (s.gT i)with
  |none=>exact Ct.none
  |some b=>exact Ct.cond (ih _ K KK hK) (ih' _ K KK hK)
 |brG i w h h' ih ih'=>
  intro s K KK hK
  simp only[RP.ev]
  cases Q9 (s.gT i)with
  |none=>
   dsimp only
   cases s.gT i with
   |und=>exact ih' _ K KK hK
   |_=>exact Ct.none
  |some b=>
   cases w with
   |true=>exact Ct.cond (ih _ K KK hK) (ih' _ K KK hK)
   |false=>exact Ct.cond (ih' _ K KK hK) (ih _ K KK hK)
 |call ts ho h ih=>intro s K KK hK;exact Ct.bind ho fun x=>ih x s K KK hK
theorem RPC.evT {γ β:Type}{p:RP γ}{q:Nat->RP γ}(h:RPC p q):∀(s:St) (t:Tr) (K:γ->St->Tr->Option β) (KK:Nat->γ->St->Tr->Option β),(∀x s t,Ct (K x s t) fun n=>KK n x s t)->Ct (p.evT s t K) fun n=>(q n).evT s t (KK n):=by
 induction h with
 |ret x=>intro s t K KK hK;exact hK x s t
 |fail=>intro s t K KK hK;exact Ct.none
 |X4 i h ih=>intro s t K KK hK;exact ih _ s _ K KK hK
 |Vs i c h ih=>intro s t K KK hK;exact Ct.cond (ih _ _ K KK hK) Ct.none
 |getC r k h ih=>intro s t K KK hK;exact ih _ s _ K KK hK
 |setC r k c h ih=>intro s t K KK hK;exact ih _ _ K KK hK
 |getI r k h ih=>intro s t K KK hK;exact ih _ s _ K KK hK
 |setV r k x h ih=>intro s t K KK hK;exact ih _ _ K KK hK
 |getB r h ih=>intro s t K KK hK;exact ih _ s _ K KK hK
 |setB r g h ih=>intro s t K KK hK;exact ih _ _ K KK hK
 |br b h h' ih ih'=>intro s t K KK hK;exact Ct.cond (ih s _ K KK hK) (ih' s _ K KK hK)
 |brT i h h' ih ih'=>
  intro s t K KK hK
  simp only[RP.evT]
  cases Q9 (s.gT i)with
  |none=>exact Ct.none
  |some b=>exact Ct.cond (ih _ _ K KK hK) (ih' _ _ K KK hK)
 |brG i w h h' ih ih'=>
  intro s t K KK hK
  simp only[RP.evT]
  cases Q9 (s.gT i)with
  |none=>
   dsimp only
   cases s.gT i with
   |und=>exact ih' _ _ K KK hK
   |_=>exact Ct.none
  |some b=>
   cases w with
   |true=>exact Ct.cond (ih _ _ K KK hK) (ih' _ _ K KK hK)
   |false=>exact Ct.cond (ih' _ _ K KK hK) (ih _ _ K KK hK)
 |call ts ho h ih=>intro s t K KK hK;exact Ct.bind ho fun x=>ih x s _ K KK hK
def JP {γ α:Type}(m:M γ α) (mm:Nat->M γ α):Prop:=∀(k:α->RP γ) (K:Nat->α->RP γ),(∀a,RPC (k a) fun n=>K n a)->RPC (m k) fun n=>mm n (K n)
def Par {γ α:Type}(m:M γ α):Prop:=JP m fun _=>m
theorem YJ {γ α β:Type}{m:M γ α}{mm:Nat->M γ α}{f:α->M γ β}{F:Nat->α->M γ β}(h:JP m mm) (h':∀a,JP (f a) fun n=>F n a):JP (m>>=f) fun n=>mm n>>=F n:=
 fun k K hk=>h _ _ fun a=>h' a k K hk
theorem Qm {γ α β:Type}{m:M γ α}{f:α->M γ β}(h:Par m) (h':∀a,Par (f a)):Par (m>>=f):=fun k K hk=>h _ _ fun a=>h' a k K hk
theorem Qc {γ α:Type}(a:α):Par (pure a:M γ α):=fun k K hk=>hk a
theorem Qa {γ α:Type}:Par (Qk:M γ α):=fun k K hk=> .fail
theorem zU {γ:Type}(b:Bool):Par (chk b:M γ Unit):=fun k K hk=> .br b (hk ()) .fail
theorem XF {γ α:Type}(o:Option α):Par (ofO o:M γ α):=fun k K hk=>by
 cases o with
 |none=>exact .fail
 |some a=>exact hk a
theorem QAx {γ:Type}(i:Nat):Par (mT i:M γ Cell):=fun k K hk=> .X4 i hk
theorem Qwg {γ:Type}(r k:Nat):Par (mC r k:M γ Con):=fun _ _ hk=> .getC r k hk
theorem Jx {γ:Type}(r k:Nat):Par (mI r k:M γ Con):=fun _ _ hk=> .getI r k hk
theorem Qd3 {γ:Type}(r:Nat):Par (mB r:M γ (Nat×Nat)):=fun _ _ hk=> .getB r hk
theorem xL {γ:Type}(i:Nat) (c:Cell):Par (wT i c:M γ Unit):=fun _ _ hk=> .Vs i c (hk ())
theorem Y3 {γ:Type}(r k:Nat) (c:Con):Par (wC r k c:M γ Unit):=fun _ _ hk=> .setC r k c (hk ())
theorem QAY {γ:Type}(r k:Nat) (x:TV):Par (wV r k x:M γ Unit):=fun _ _ hk=> .setV r k x (hk ())
theorem Qwe {γ:Type}(r:Nat) (g:Nat×Nat):Par (wB r g:M γ Unit):=fun _ _ hk=> .setB r g (hk ())
theorem QuJ {γ:Type}(ts:Tys) {o:Option (Qe ts)}{O:Nat->Option (Qe ts)}(h:Ct o O):JP (mcall ts o:M γ (Qe ts)) fun n=>mcall ts (O n):=fun _ _ hk=> .call ts h hk
theorem QhS {γ:Type}:∀a1 a2,Par (tyM (γ:=γ) a1 a2):=by
 intro a1 a2
 unfold tyM
 try dsimp only
 repeat' (first
  |(with_reducible first|exact Qc _|exact Qa|refine Qm ?_ (fun _=> ?_))
  |split
  |exact Qc _
  |exact Qa)
theorem Qic {γ:Type}:∀a1 a2,Par (slE (γ:=γ) a1 a2):=by
 intro a1 a2
 unfold slE
 try dsimp only
 repeat' (first
  |(with_reducible first|exact Qc _|exact Qa|exact QhS _ _|refine Qm ?_ (fun _=> ?_))
  |split
  |exact Qc _
  |exact Qa)
theorem xe {γ:Type}:∀a1,Par (opd (γ:=γ) a1):=by
 intro a1
 unfold opd
 try dsimp only
 repeat' (first
  |(with_reducible first|exact Qc _|exact Qa|exact QAx _|exact XF _|refine Qm ?_ (fun _=> ?_))
  |split
  |exact Qc _
  |exact Qa)
theorem yf {γ:Type}:(n:Nat)->(p:Pl)->Par (final (γ:=γ) n p)
 |0,p=>by unfold final;first|exact Qc _|exact Qa
 |n+1,p=>by
  unfold final
  try dsimp only
  repeat' (first
  |(with_reducible first|exact yf n _|exact Qc _|exact Qa|exact Jx _ _|refine Qm ?_ (fun _=> ?_))
  |split
  |exact Qc _
  |exact Qa)
theorem vT {γ:Type}:∀a1,Par (KN (γ:=γ) a1):=by
 intro a1
 unfold KN
 try dsimp only
 repeat' (first
  |(with_reducible first|exact Qc _|exact Qa|exact Qwg _ _|exact yf _ _|refine Qm ?_ (fun _=> ?_))
  |split
  |exact Qc _
  |exact Qa)
theorem Qws {γ:Type}:∀a1,Par (rd (γ:=γ) a1):=by
 intro a1
 unfold rd
 try dsimp only
 repeat' (first
  |(with_reducible first|exact Qc _|exact Qa|exact XF _|exact vT _|refine Qm ?_ (fun _=> ?_))
  |split
  |exact Qc _
  |exact Qa)
theorem qD {γ:Type}:∀a1 a2,Par (yK (γ:=γ) a1 a2):=by
 intro a1 a2
 unfold yK
 try dsimp only
 repeat' (first
  |(with_reducible first|exact Qc _|exact Qa|exact XF _|exact Qws _|refine Qm ?_ (fun _=> ?_))
  |split
  |exact Qc _
  |exact Qa)
theorem Qcm {γ:Type}:∀a1,Par (Kb (γ:=γ) a1):=by
 intro a1
 unfold Kb
 try dsimp only
 repeat' (first
  |(with_reducible first|exact Qc _|exact Qa|exact Y3 _ _ _|exact XF _|exact vT _|refine Qm ?_ (fun _=> ?_))
  |split
  |exact Qc _
  |exact Qa)
theorem Qjv {γ:Type}:∀a1 a2,Par (QdB (γ:=γ) a1 a2):=by
 intro a1 a2
 unfold QdB
 try dsimp only
 repeat' (first
  |(with_reducible first|exact Qc _|exact Qa|exact Y3 _ _ _|exact XF _|exact vT _|refine Qm ?_ (fun _=> ?_))
  |split
  |exact Qc _
  |exact Qa)
theorem Qqm {γ:Type}:∀a1,Par (Qkw (γ:=γ) a1):=by
 intro a1
 unfold Qkw
 try dsimp only
 repeat' (first
  |(with_reducible first|exact Qc _|exact Qa|exact yf _ _|refine Qm ?_ (fun _=> ?_))
  |split
  |exact Qc _
  |exact Qa)
theorem Qry {γ:Type}:∀a1 a2 a3 a4 a5,Par (Qfx (γ:=γ) a1 a2 a3 a4 a5):=by
 intro a1 a2 a3 a4 a5
 unfold Qfx
 try dsimp only
 repeat' (first
  |(with_reducible first|exact Qc _|exact Qa|exact Jx _ _|exact Y3 _ _ _|exact Qjv _ _|exact Qqm _|refine Qm ?_ (fun _=> ?_))
  |split
  |exact Qc _
  |exact Qa)
theorem Qjq {γ:Type}:∀a1 a2 a3 a4 a5,Par (Jc (γ:=γ) a1 a2 a3 a4 a5):=by
 intro a1 a2 a3 a4 a5
 fun_induction Jc a1 a2 a3 a4 a5
 all_goals try dsimp only
 all_goals repeat' (first
  |(with_reducible first|exact Qc _|exact Qa)
  |assumption
  |apply_assumption
  |(with_reducible first|exact Qry _ _ _ _ _|refine Qm ?_ (fun _=> ?_))
  |split
  |exact Qc _
  |exact Qa)
theorem QrW {γ:Type}:∀a1 a2,Par (QeQ (γ:=γ) a1 a2):=by
 intro a1 a2
 unfold QeQ
 try dsimp only
 repeat' (first
  |(with_reducible first|exact Qc _|exact Qa|exact Qwg _ _|exact Jx _ _|refine Qm ?_ (fun _=> ?_))
  |split
  |exact Qc _
  |exact Qa)
theorem Qg3 {γ:Type}:∀a1 a2 a3,Par (JL (γ:=γ) a1 a2 a3):=by
 intro a1 a2 a3
 fun_induction JL a1 a2 a3
 all_goals try dsimp only
 all_goals repeat' (first
  |(with_reducible first|exact Qc _|exact Qa)
  |assumption
  |apply_assumption
  |(with_reducible first|exact QrW _ _|refine Qm ?_ (fun _=> ?_))
  |split
  |exact Qc _
  |exact Qa)
theorem QvQ {γ:Type}:∀a1 a2,Par (Qhy (γ:=γ) a1 a2):=by
 intro a1 a2
 unfold Qhy
 try dsimp only
 repeat' (first
  |(with_reducible first|exact Qc _|exact Qa|refine Qm ?_ (fun _=> ?_))
  |split
  |exact Qc _
  |exact Qa)
theorem Qvu {γ:Type}:∀a1 a2,Par (loadAt (γ:=γ) a1 a2):=by
 intro a1 a2
 unfold loadAt
 try dsimp only
 repeat' (first
  |(with_reducible first|exact Qc _|exact Qa|exact Qd3 _|exact yf _ _|exact Qws _|exact Qg3 _ _ _|exact QvQ _ _|refine Qm ?_ (fun _=> ?_))
  |split
  |exact Qc _
  |exact Qa)
theorem Qod {γ:Type}:∀a1 a2 a3 a4,Par (QhI (γ:=γ) a1 a2 a3 a4):=by
 intro a1 a2 a3 a4
 unfold QhI
 try dsimp only
 repeat' (first
  |(with_reducible first|exact Qc _|exact Qa|exact XF _|exact qD _ _|exact Qcm _|exact Qjv _ _|refine Qm ?_ (fun _=> ?_))
  |split
  |exact qD _ _
  |exact Qc _
  |exact Qa)
theorem QsV {γ:Type}:∀a1 a2 a3,Par (QdS (γ:=γ) a1 a2 a3):=by
 intro a1 a2 a3
 fun_induction QdS a1 a2 a3
 all_goals try dsimp only
 all_goals repeat' (first
  |(with_reducible first|exact Qc _|exact Qa)
  |assumption
  |apply_assumption
  |(with_reducible first|exact Qod _ _ _ _|refine Qm ?_ (fun _=> ?_))
  |split
  |exact Qc _
  |exact Qa)
theorem QtF {γ:Type}:∀a1,Par (QhY (γ:=γ) a1):=by
 intro a1
 unfold QhY
 try dsimp only
 repeat' (first
  |(with_reducible first|exact Qc _|exact Qa|exact yf _ _|refine Qm ?_ (fun _=> ?_))
  |split
  |exact Qc _
  |exact Qa)
theorem Qvi {γ:Type}:∀a1 a2,Par (QeM (γ:=γ) a1 a2):=by
 intro a1 a2
 fun_induction QeM a1 a2
 all_goals try dsimp only
 all_goals repeat' (first
  |(with_reducible first|exact Qc _|exact Qa)
  |assumption
  |apply_assumption
  |(with_reducible first|exact QtF _|refine Qm ?_ (fun _=> ?_))
  |split
  |exact Qc _
  |exact Qa)
theorem QsI {γ:Type}:∀a1 a2 a3 a4 a5,Par (Qi5 (γ:=γ) a1 a2 a3 a4 a5):=by
 intro a1 a2 a3 a4 a5
 unfold Qi5
 try dsimp only
 repeat' (first
  |(with_reducible first|exact Qc _|exact Qa|exact zU _|exact XF _|refine Qm ?_ (fun _=> ?_))
  |split
  |exact Qc _
  |exact Qa)
theorem QsG {γ:Type}:∀a1 a2 a3 a4 a5 a6 a7,Par (Qir (γ:=γ) a1 a2 a3 a4 a5 a6 a7):=by
 intro a1 a2 a3 a4 a5 a6 a7
 unfold Qir
 try dsimp only
 repeat' (first
  |(with_reducible first|exact Qc _|exact Qa|exact yf _ _|exact QsI _ _ _ _ _|refine Qm ?_ (fun _=> ?_))
  |split
  |exact Qc _
  |exact Qa)
theorem Qk9 {γ:Type}(y:TV) (i:Int) (r k:Nat) (nested:Bool):(off:Nat)->(ts:Tys)->(vs:List VC)->Par (JG (γ:=γ) y i r k nested off ts vs)
 |_, .nil,[]=>by unfold JG;first|exact Qc _|exact Qa
 |_, .nil,_::_=>by unfold JG;first|exact Qc _|exact Qa
 |_, .cons _ _,[]=>by unfold JG;first|exact Qc _|exact Qa
 |off, .cons t ts,v::vs=>by
  unfold JG
  try dsimp only
  repeat' (first
  |(with_reducible first|exact Qk9 y i r k nested (off+1) ts vs|exact Qc _|exact Qa|exact QsG _ _ _ _ _ _ _|refine Qm ?_ (fun _=> ?_))
  |split
  |exact Qc _
  |exact Qa)
theorem QxU {γ:Type}:∀a1 a2 a3 a4 a5 a6 a7 a8 a9 a10 a11,Par (QsL (γ:=γ) a1 a2 a3 a4 a5 a6 a7 a8 a9 a10 a11):=by
 intro a1 a2 a3 a4 a5 a6 a7 a8 a9 a10 a11
 unfold QsL
 try dsimp only
 repeat' (first
  |(with_reducible first|exact Qc _|exact Qa|exact Qod _ _ _ _|refine Qm ?_ (fun _=> ?_))
  |split
  |exact Qc _
  |exact Qa)
theorem QtE {γ:Type}:∀a1 a2 a3 a4 a5 a6 a7 a8 a9 a10 a11,Par (QdR (γ:=γ) a1 a2 a3 a4 a5 a6 a7 a8 a9 a10 a11):=by
 intro a1 a2 a3 a4 a5 a6 a7 a8 a9 a10 a11
 fun_induction QdR a1 a2 a3 a4 a5 a6 a7 a8 a9 a10 a11
 all_goals try dsimp only
 all_goals repeat' (first
  |(with_reducible first|exact Qc _|exact Qa)
  |assumption
  |apply_assumption
  |(with_reducible first|exact QxU _ _ _ _ _ _ _ _ _ _ _|refine Qm ?_ (fun _=> ?_))
  |split
  |exact Qc _
  |exact Qa)
theorem QuM {γ:Type}:∀a1 a2 a3 a4,Par (QjN (γ:=γ) a1 a2 a3 a4):=by
 intro a1 a2 a3 a4
 unfold QjN
 try dsimp only
 repeat' (first
  |(with_reducible first|exact Qc _|exact Qa|exact Y3 _ _ _|refine Qm ?_ (fun _=> ?_))
  |split
  |exact Qc _
  |exact Qa)
theorem Qu5 {γ:Type}:∀a1 a2 a3 a4 a5 a6 a7,Par (QhK (γ:=γ) a1 a2 a3 a4 a5 a6 a7):=by
 intro a1 a2 a3 a4 a5 a6 a7
 unfold QhK
 try dsimp only
 repeat' (first
  |(with_reducible first|exact Qc _|exact Qa|exact QAY _ _ _|exact Y3 _ _ _|refine Qm ?_ (fun _=> ?_))
  |split
  |exact Qc _
  |exact Qa)
theorem Qtu {γ:Type}:∀a1 a2 a3 a4,Par (storeAt (γ:=γ) a1 a2 a3 a4):=by
 intro a1 a2 a3 a4
 unfold storeAt
 try dsimp only
 repeat' (first
  |(with_reducible first|exact Qc _|exact Qa|exact Qd3 _|exact XF _|exact vT _|exact Qjq _ _ _ _ _|exact Qk9 _ _ _ _ _ _ _ _|exact QtE _ _ _ _ _ _ _ _ _ _ _|exact QuM _ _ _ _|exact Qu5 _ _ _ _ _ _ _|refine Qm ?_ (fun _=> ?_))
  |split
  |exact Qc _
  |exact Qa)
theorem Qns {γ:Type}:∀a1 a2,Par (Zt (γ:=γ) a1 a2):=by
 intro a1 a2
 unfold Zt
 try dsimp only
 repeat' (first
  |(with_reducible first|exact Qc _|exact Qa|exact xL _ _|refine Qm ?_ (fun _=> ?_))
  |split
  |exact Qc _
  |exact Qa)
theorem YD {γ:Type}:∀a1 a2 a3 a4,Par (jN (γ:=γ) a1 a2 a3 a4):=by
 intro a1 a2 a3 a4
 unfold jN
 try dsimp only
 repeat' (first
  |(with_reducible first|exact Qc _|exact Qa|exact Qd3 _|exact Jx _ _|exact Y3 _ _ _|refine Qm ?_ (fun _=> ?_))
  |split
  |exact Qc _
  |exact Qa)
theorem Qjn {γ:Type}(d:Nat):(j:Nat)->(ts:Tys)->(vs:List VC)->Par (Ve (γ:=γ) d j ts vs)
 |_, .nil,[]=>by unfold Ve;first|exact Qc _|exact Qa
 |_, .nil,_::_=>by unfold Ve;first|exact Qc _|exact Qa
 |_, .cons _ _,[]=>by unfold Ve;first|exact Qc _|exact Qa
 |j, .cons t ts,v::vs=>by
  unfold Ve
  try dsimp only
  repeat' (first
  |(with_reducible first|exact Qjn d (j+1) ts vs|exact Qc _|exact Qa|exact Jx _ _|exact Y3 _ _ _|exact Qjv _ _|exact Qqm _|exact YD _ _ _ _|refine Qm ?_ (fun _=> ?_))
  |split
  |exact Qc _
  |exact Qa)
theorem Qnf {γ:Type}:∀a1 a2 a3 a4,Par (ishift (γ:=γ) a1 a2 a3 a4):=by
 intro a1 a2 a3 a4
 unfold ishift
 try dsimp only
 repeat' (first
  |(with_reducible first|exact Qc _|exact Qa|exact zU _|refine Qm ?_ (fun _=> ?_))
  |split
  |exact Qc _
  |exact Qa)
theorem Qr2 {γ:Type}:∀a1 a2 a3 a4,Par (ibin (γ:=γ) a1 a2 a3 a4):=by
 intro a1 a2 a3 a4
 unfold ibin
 try dsimp only
 repeat' (first
  |(with_reducible first|exact Qc _|exact Qa|exact zU _|refine Qm ?_ (fun _=> ?_))
  |split
  |exact Qc _
  |exact Qa)
theorem QrP {γ:Type}:∀a1 a2 a3,Par (bbin (γ:=γ) a1 a2 a3):=by
 intro a1 a2 a3
 unfold bbin
 try dsimp only
 repeat' (first
  |(with_reducible first|exact Qc _|exact Qa|refine Qm ?_ (fun _=> ?_))
  |split
  |exact Qc _
  |exact Qa)
theorem Qro {γ:Type}:∀a1 a2 a3,Par (sbin (γ:=γ) a1 a2 a3):=by
 intro a1 a2 a3
 unfold sbin
 try dsimp only
 repeat' (first
  |(with_reducible first|exact Qc _|exact Qa|exact zU _|refine Qm ?_ (fun _=> ?_))
  |split
  |exact Qc _
  |exact Qa)
theorem QAg {γ:Type}:∀a1 a2 a3 a4,Par (bin (γ:=γ) a1 a2 a3 a4):=by
 intro a1 a2 a3 a4
 unfold bin
 try dsimp only
 repeat' (first
  |(with_reducible first|exact Qc _|exact Qa|exact Qnf _ _ _ _|exact Qr2 _ _ _ _|exact QrP _ _ _|exact Qro _ _ _|refine Qm ?_ (fun _=> ?_))
  |split
  |exact Qnf _ _ _ _
  |exact Qr2 _ _ _ _
  |exact QrP _ _ _
  |exact Qro _ _ _
  |exact Qc _
  |exact Qa)
theorem QsQ {γ:Type}:∀a1 a2 a3 a4,Par (QeO (γ:=γ) a1 a2 a3 a4):=by
 intro a1 a2 a3 a4
 unfold QeO
 try dsimp only
 repeat' (first
  |(with_reducible first|exact Qc _|exact Qa|exact XF _|exact QAg _ _ _ _|refine Qm ?_ (fun _=> ?_))
  |split
  |exact Qc _
  |exact Qa)
theorem QgP {γ:Type}:∀a1 a2,Par (elems (γ:=γ) a1 a2):=by
 intro a1 a2
 unfold elems
 try dsimp only
 repeat' (first
  |(with_reducible first|exact Qc _|exact Qa|exact qD _ _|refine Qm ?_ (fun _=> ?_))
  |split
  |exact qD _ _
  |exact Qc _
  |exact Qa)
theorem QpN {γ:Type}:∀a1 a2 a3,Par (xn (γ:=γ) a1 a2 a3):=by
 intro a1 a2 a3
 fun_induction xn a1 a2 a3
 all_goals try dsimp only
 all_goals repeat' (first
  |(with_reducible first|exact Qc _|exact Qa)
  |assumption
  |apply_assumption
  |(with_reducible first|exact XF _|exact xe _|refine Qm ?_ (fun _=> ?_))
  |split
  |exact Qc _
  |exact Qa)
theorem QqB {γ:Type}:∀a1,Par (zY (γ:=γ) a1):=by
 intro a1
 fun_induction zY a1
 all_goals try dsimp only
 all_goals repeat' (first
  |(with_reducible first|exact Qc _|exact Qa)
  |assumption
  |apply_assumption
  |(with_reducible first|exact XF _|exact xe _|refine Qm ?_ (fun _=> ?_))
  |split
  |exact Qc _
  |exact Qa)
theorem Qs4 {γ:Type}:∀a1 a2,Par (QdV (γ:=γ) a1 a2):=by
 intro a1 a2
 fun_induction QdV a1 a2
 all_goals try dsimp only
 all_goals repeat' (first
  |(with_reducible first|exact Qc _|exact Qa)
  |assumption
  |apply_assumption
  |(with_reducible first|exact Qvi _ _|refine Qm ?_ (fun _=> ?_))
  |split
  |exact Qc _
  |exact Qa)
theorem Qk7 {γ:Type}:∀a1 a2 a3 a4,Par (QdU (γ:=γ) a1 a2 a3 a4):=by
 intro a1 a2 a3 a4
 fun_induction QdU a1 a2 a3 a4
 all_goals try dsimp only
 all_goals repeat' (first
  |(with_reducible first|exact Qc _|exact Qa)
  |assumption
  |apply_assumption
  |(with_reducible first|exact QsV _ _ _|refine Qm ?_ (fun _=> ?_))
  |split
  |exact Qc _
  |exact Qa)
theorem QgV {γ:Type}:∀a1 a2,Par (Qi0 (γ:=γ) a1 a2):=by
 intro a1 a2
 unfold Qi0
 try dsimp only
 repeat' (first
  |(with_reducible first|exact Qc _|exact Qa|exact qD _ _|refine Qm ?_ (fun _=> ?_))
  |split
  |exact qD _ _
  |exact Qc _
  |exact Qa)
theorem Qtn {γ:Type}:∀a1 a2,Par (QhC (γ:=γ) a1 a2):=by
 intro a1 a2
 unfold QhC
 try dsimp only
 repeat' (first
  |(with_reducible first|exact Qc _|exact Qa|exact XF _|exact Qcm _|refine Qm ?_ (fun _=> ?_))
  |split
  |exact Qc _
  |exact Qa)
theorem Qs1 {γ:Type}:∀a1 a2,Par (Qhw (γ:=γ) a1 a2):=by
 intro a1 a2
 unfold Qhw
 try dsimp only
 repeat' (first
  |(with_reducible first|exact Qc _|exact Qa|exact XF _|exact Qcm _|exact QgP _ _|refine Qm ?_ (fun _=> ?_))
  |split
  |exact QgP _ _
  |exact Qc _
  |exact Qa)
theorem QrY {γ:Type}:∀a1 a2 a3 a4 a5,Par (Qd1 (γ:=γ) a1 a2 a3 a4 a5):=by
 intro a1 a2 a3 a4 a5
 unfold Qd1
 try dsimp only
 repeat' (first
  |(with_reducible first|exact Qc _|exact Qa|exact xL _ _|exact zU _|exact Qic _ _|exact YD _ _ _ _|exact Qtn _ _|exact Qs1 _ _|refine Qm ?_ (fun _=> ?_))
  |split
  |exact Qc _
  |exact Qa)
theorem Qxg {γ:Type}:∀a1 a2,Par (Qbo (γ:=γ) a1 a2):=by
 intro a1 a2
 unfold Qbo
 try dsimp only
 repeat' (first
  |(with_reducible first|exact Qc _|exact Qa|refine Qm ?_ (fun _=> ?_))
  |split
  |exact Qc _
  |exact Qa)
theorem Qvk {γ:Type}:∀a1 a2 a3,Par (Qkd (γ:=γ) a1 a2 a3):=by
 intro a1 a2 a3
 unfold Qkd
 try dsimp only
 repeat' (first
  |(with_reducible first|exact Qc _|exact Qa|exact Y3 _ _ _|exact XF _|exact vT _|exact Qxg _ _|refine Qm ?_ (fun _=> ?_))
  |split
  |exact Qc _
  |exact Qa)
theorem Qxt {γ:Type}:∀a1 a2 a3,Par (Qsn (γ:=γ) a1 a2 a3):=by
 intro a1 a2 a3
 unfold Qsn
 try dsimp only
 repeat' (first
  |(with_reducible first|exact Qc _|exact Qa|exact Qvk _ _ _|refine Qm ?_ (fun _=> ?_))
  |split
  |exact Qc _
  |exact Qa)
theorem Qv4 {γ:Type}:∀a1 a2,Par (QkC (γ:=γ) a1 a2):=by
 intro a1 a2
 fun_induction QkC a1 a2
 all_goals try dsimp only
 all_goals repeat' (first
  |(with_reducible first|exact Qc _|exact Qa)
  |assumption
  |apply_assumption
  |(with_reducible first|exact Qxt _ _ _|refine Qm ?_ (fun _=> ?_))
  |split
  |exact Qc _
  |exact Qa)
theorem Qu0 {γ:Type}:∀a1 a2 a3,Par (QfF (γ:=γ) a1 a2 a3):=by
 intro a1 a2 a3
 fun_induction QfF a1 a2 a3
 all_goals try dsimp only
 all_goals repeat' (first
  |(with_reducible first|exact Qc _|exact Qa)
  |assumption
  |apply_assumption
  |(with_reducible first|exact qD _ _|refine Qm ?_ (fun _=> ?_))
  |split
  |exact qD _ _
  |exact Qc _
  |exact Qa)
theorem QrJ {γ:Type}:∀a1 a2,Par (QaO (γ:=γ) a1 a2):=by
 intro a1 a2
 fun_induction QaO a1 a2
 all_goals try dsimp only
 all_goals repeat' (first
  |(with_reducible first|exact Qc _|exact Qa)
  |assumption
  |apply_assumption
  |(with_reducible first|exact Qd3 _|exact Qg3 _ _ _|refine Qm ?_ (fun _=> ?_))
  |split
  |exact Qc _
  |exact Qa)
theorem Qrr {γ:Type}:∀a1 a2,Par (Qe7 (γ:=γ) a1 a2):=by
 intro a1 a2
 unfold Qe7
 try dsimp only
 repeat' (first
  |(with_reducible first|exact Qc _|exact Qa|exact Qd3 _|exact Qg3 _ _ _|exact QrJ _ _|refine Qm ?_ (fun _=> ?_))
  |split
  |exact Qc _
  |exact Qa)
theorem QqO {γ:Type}:∀a1 a2,Par (zW (γ:=γ) a1 a2):=by
 intro a1 a2
 fun_induction zW a1 a2
 all_goals try dsimp only
 all_goals repeat' (first
  |(with_reducible first|exact Qc _|exact Qa)
  |assumption
  |apply_assumption
  |(with_reducible first|exact Qrr _ _|refine Qm ?_ (fun _=> ?_))
  |split
  |exact Qc _
  |exact Qa)
theorem Qyr {γ:Type}:∀a1 a2 a3,Par (QrU (γ:=γ) a1 a2 a3):=by
 intro a1 a2 a3
 unfold QrU
 try dsimp only
 repeat' (first
  |(with_reducible first|exact Qc _|exact Qa|exact Qcm _|refine Qm ?_ (fun _=> ?_))
  |split
  |exact Qc _
  |exact Qa)
theorem Qwn {γ:Type}:∀a1 a2,Par (Qgi (γ:=γ) a1 a2):=by
 intro a1 a2
 fun_induction Qgi a1 a2
 all_goals try dsimp only
 all_goals repeat' (first
  |(with_reducible first|exact Qc _|exact Qa)
  |assumption
  |apply_assumption
  |(with_reducible first|exact Qyr _ _ _|refine Qm ?_ (fun _=> ?_))
  |split
  |exact Qc _
  |exact Qa)
theorem QyB {γ:Type}:∀a1 a2,Par (QrA (γ:=γ) a1 a2):=by
 intro a1 a2
 unfold QrA
 split
 ·exact Qwn _ _
 ·exact Qc _
theorem QwK {γ:Type}:∀a1 a2,Par (Qgb (γ:=γ) a1 a2):=by
 intro a1 a2
 fun_induction Qgb a1 a2
 all_goals try dsimp only
 all_goals repeat' (first
  |(with_reducible first|exact Qc _|exact Qa)
  |assumption
  |apply_assumption
  |(with_reducible first|exact QyB _ _|refine Qm ?_ (fun _=> ?_))
  |split
  |exact Qc _
  |exact Qa)
theorem Qw0 {γ:Type}:∀a1 a2,Par (QkH (γ:=γ) a1 a2):=by
 intro a1 a2
 fun_induction QkH a1 a2
 all_goals try dsimp only
 all_goals repeat' (first
  |(with_reducible first|exact Qc _|exact Qa)
  |assumption
  |apply_assumption
  |(with_reducible first|exact Qv4 _ _|refine Qm ?_ (fun _=> ?_))
  |split
  |exact Qc _
  |exact Qa)
theorem Qux {γ:Type}:∀a1 a2 a3,Par (QhJ (γ:=γ) a1 a2 a3):=by
 intro a1 a2 a3
 fun_induction QhJ a1 a2 a3
 all_goals try dsimp only
 all_goals repeat' (first
  |(with_reducible first|exact Qc _|exact Qa)
  |assumption
  |apply_assumption
  |(with_reducible first|exact Qu0 _ _ _|refine Qm ?_ (fun _=> ?_))
  |split
  |exact Qc _
  |exact Qa)
theorem QqR {γ:Type}:∀a1 a2 a3,Par (qM (γ:=γ) a1 a2 a3):=by
 intro a1 a2 a3
 unfold qM
 try dsimp only
 repeat' (first
  |(with_reducible first|exact Qc _|exact Qa|exact Jx _ _|refine Qm ?_ (fun _=> ?_))
  |split
  |exact Qc _
  |exact Qa)
theorem Qts {γ:Type}:∀a1 a2,Par (QdQ (γ:=γ) a1 a2):=by
 intro a1 a2
 unfold QdQ
 try dsimp only
 repeat' (first
  |(with_reducible first|exact Qc _|exact Qa|exact Y3 _ _ _|exact XF _|exact QqR _ _ _|refine Qm ?_ (fun _=> ?_))
  |split
  |exact Qc _
  |exact Qa)
theorem Qtf {γ:Type}:∀a1 a2 a3,Par (VB (γ:=γ) a1 a2 a3):=by
 intro a1 a2 a3
 fun_induction VB a1 a2 a3
 all_goals try dsimp only
 all_goals repeat' (first
  |(with_reducible first|exact Qc _|exact Qa)
  |assumption
  |apply_assumption
  |(with_reducible first|exact Qts _ _|refine Qm ?_ (fun _=> ?_))
  |split
  |exact Qc _
  |exact Qa)
theorem JI {γ:Type}(r:Nat):(k:Nat)->(l:List (Mode×Ty))->(xs:List TV)->Par (X9 (γ:=γ) r k l xs)
 |_,[],_=>by unfold X9;first|exact Qc _|exact Qa
 |k,(.mut,t)::l,x::xs=>by
  unfold X9
  try dsimp only
  repeat' (first
  |(with_reducible first|exact JI r (k+1) l xs|exact Qc _|exact Qa|exact Jx _ _|exact Y3 _ _ _|refine Qm ?_ (fun _=> ?_))
  |split
  |exact Qc _
  |exact Qa)
 |k,(.mut,t)::l,[]=>by unfold X9;first|exact Qc _|exact Qa
 |k,(.ro,_)::l,xs=>by
  unfold X9
  try dsimp only
  repeat' (first
  |(with_reducible first|exact JI r (k+1) l xs|exact Qc _|exact Qa|exact Jx _ _|exact Y3 _ _ _|refine Qm ?_ (fun _=> ?_))
  |split
  |exact Qc _
  |exact Qa)
 |k,(.own,_)::l,xs=>by
  unfold X9
  try dsimp only
  repeat' (first
  |(with_reducible first|exact JI r (k+1) l xs|exact Qc _|exact Qa|exact Jx _ _|exact Y3 _ _ _|refine Qm ?_ (fun _=> ?_))
  |split
  |exact Qc _
  |exact Qa)
 |k,(.junk,_)::l,xs=>by
  unfold X9
  try dsimp only
  repeat' (first
  |(with_reducible first|exact JI r (k+1) l xs|exact Qc _|exact Qa|exact Jx _ _|exact Y3 _ _ _|refine Qm ?_ (fun _=> ?_))
  |split
  |exact Qc _
  |exact Qa)
 |k,(.top,_)::l,xs=>by
  unfold X9
  try dsimp only
  repeat' (first
  |(with_reducible first|exact JI r (k+1) l xs|exact Qc _|exact Qa|exact Jx _ _|exact Y3 _ _ _|refine Qm ?_ (fun _=> ?_))
  |split
  |exact Qc _
  |exact Qa)
theorem QwX {γ:Type}:∀a1 a2 a3 a4,Par (backs (γ:=γ) a1 a2 a3 a4):=by
 intro a1 a2 a3 a4
 fun_induction backs a1 a2 a3 a4
 all_goals try dsimp only
 all_goals repeat' (first
  |(with_reducible first|exact Qc _|exact Qa)
  |assumption
  |apply_assumption
  |(with_reducible first|exact Qtf _ _ _|exact JI _ _ _ _|refine Qm ?_ (fun _=> ?_))
  |split
  |exact Qc _
  |exact Qa)
theorem xk {γ:Type}(d:Nat):(j:Nat)->(l:List (Mode×Ty))->(xs:List TV)->Par (Zc (γ:=γ) d j l xs)
 |_,[],_=>by unfold Zc;first|exact Qc _|exact Qa
 |j,(.junk,_)::l,xs=>by
  unfold Zc
  try dsimp only
  repeat' (first
  |(with_reducible first|exact xk d (j+1) l xs|exact Qc _|exact Qa|exact YD _ _ _ _|refine Qm ?_ (fun _=> ?_))
  |split
  |exact Qc _
  |exact Qa)
 |j,(.ro,t)::l,x::xs=>by
  unfold Zc
  try dsimp only
  repeat' (first
  |(with_reducible first|exact xk d (j+1) l xs|exact Qc _|exact Qa|exact YD _ _ _ _|refine Qm ?_ (fun _=> ?_))
  |split
  |exact Qc _
  |exact Qa)
 |j,(.mut,t)::l,x::xs=>by
  unfold Zc
  try dsimp only
  repeat' (first
  |(with_reducible first|exact xk d (j+1) l xs|exact Qc _|exact Qa|exact YD _ _ _ _|refine Qm ?_ (fun _=> ?_))
  |split
  |exact Qc _
  |exact Qa)
 |j,(.own,t)::l,x::xs=>by
  unfold Zc
  try dsimp only
  repeat' (first
  |(with_reducible first|exact xk d (j+1) l xs|exact Qc _|exact Qa|exact YD _ _ _ _|refine Qm ?_ (fun _=> ?_))
  |split
  |exact Qc _
  |exact Qa)
 |j,(.top,t)::l,x::xs=>by
  unfold Zc
  try dsimp only
  repeat' (first
  |(with_reducible first|exact xk d (j+1) l xs|exact Qc _|exact Qa|exact YD _ _ _ _|refine Qm ?_ (fun _=> ?_))
  |split
  |exact Qc _
  |exact Qa)
 |j,(.ro,t)::l,[]=>by unfold Zc;first|exact Qc _|exact Qa
 |j,(.mut,t)::l,[]=>by unfold Zc;first|exact Qc _|exact Qa
 |j,(.own,t)::l,[]=>by unfold Zc;first|exact Qc _|exact Qa
 |j,(.top,t)::l,[]=>by unfold Zc;first|exact Qc _|exact Qa
theorem QuL {γ:Type}:∀a1 a2 a3 a4,Par (Qht (γ:=γ) a1 a2 a3 a4):=by
 intro a1 a2 a3 a4
 fun_induction Qht a1 a2 a3 a4
 all_goals try dsimp only
 all_goals repeat' (first
  |(with_reducible first|exact Qc _|exact Qa)
  |assumption
  |apply_assumption
  |(with_reducible first|exact xk _ _ _ _|refine Qm ?_ (fun _=> ?_))
  |split
  |exact Qc _
  |exact Qa)
theorem Qm3 {γ:Type}(d:Nat):(k:Nat)->(l:List (Mode×Ty))->(xs:List TV)->Par (xM (γ:=γ) d k l xs)
 |_,[],_=>by unfold xM;first|exact Qc _|exact Qa
 |k,(m,t)::l,x::xs=>by
  unfold xM
  try dsimp only
  repeat' (first
  |(with_reducible first|exact Qm3 d (k+1) l xs|exact Qc _|exact Qa|exact Jx _ _|exact Y3 _ _ _|refine Qm ?_ (fun _=> ?_))
  |split
  |exact Qc _
  |exact Qa)
 |_,_::_,[]=>by unfold xM;first|exact Qc _|exact Qa
theorem qj {γ:Type}:∀a1,Par (Vg (γ:=γ) a1):=by
 intro a1
 fun_induction Vg a1
 all_goals try dsimp only
 all_goals repeat' (first
  |(with_reducible first|exact Qc _|exact Qa)
  |assumption
  |apply_assumption
  |(with_reducible first|exact xe _|refine Qm ?_ (fun _=> ?_))
  |split
  |exact Qc _
  |exact Qa)
theorem Qwl {γ:Type}:∀a1 a2 a3 a4 a5 a6,Par (call2 (γ:=γ) a1 a2 a3 a4 a5 a6):=by
 intro a1 a2 a3 a4 a5 a6
 unfold call2
 try dsimp only
 repeat' (first
  |(with_reducible first|exact Qc _|exact Qa|exact Qd3 _|exact xL _ _|exact Qwe _ _|exact QwX _ _ _ _|exact QuL _ _ _ _|exact Qm3 _ _ _ _|refine Qm ?_ (fun _=> ?_))
  |split
  |exact Qc _
  |exact Qa)
theorem Qjf {γ:Type}:∀a1 a2 a3 a4 a5,Par (QfY (γ:=γ) a1 a2 a3 a4 a5):=by
 intro a1 a2 a3 a4 a5
 unfold QfY
 try dsimp only
 repeat' (first
  |(with_reducible first|exact Qc _|exact Qa|exact xL _ _|exact XF _|exact QhS _ _|exact Qic _ _|exact QgV _ _|exact QrY _ _ _ _ _|exact qj _|refine Qm ?_ (fun _=> ?_))
  |split
  |exact Qc _
  |exact Qa)
theorem Quy {γ:Type}:∀a1 a2 a3 a4 a5,Par (Qme (γ:=γ) a1 a2 a3 a4 a5):=by
 intro a1 a2 a3 a4 a5
 unfold Qme
 try dsimp only
 repeat' (first
  |(with_reducible first|exact Qc _|exact Qa|exact xL _ _|exact zU _|exact XF _|exact QhS _ _|exact Qic _ _|exact Qcm _|exact QgP _ _|refine Qm ?_ (fun _=> ?_))
  |split
  |exact QgP _ _
  |exact Qc _
  |exact Qa)
theorem QiT {γ:Type}:∀a1,Par (Qhp (γ:=γ) a1):=by
 intro a1
 unfold Qhp
 try dsimp only
 repeat' (first
  |(with_reducible first|exact Qc _|exact Qa|exact XF _|exact xe _|refine Qm ?_ (fun _=> ?_))
  |split
  |exact Qc _
  |exact Qa)
theorem Qlg {γ:Type}:∀a1 a2 a3 a4 a5 a6,Par (Qky (γ:=γ) a1 a2 a3 a4 a5 a6):=by
 intro a1 a2 a3 a4 a5 a6
 unfold Qky
 try dsimp only
 repeat' (first
  |(with_reducible first|exact Qc _|exact Qa|exact xL _ _|exact zU _|exact XF _|exact QhS _ _|exact Qic _ _|exact QgV _ _|refine Qm ?_ (fun _=> ?_))
  |split
  |exact Qc _
  |exact Qa)
theorem Qz4 {γ α:Type}{c:Prop} [Decidable c] {a b:M γ α}(h:Par a) (h':Par b):Par (if c then a else b):=by
 by_cases hc:c
 ·simp only[hc,if_true];exact h
 ·simp only[hc,if_false];exact h'
theorem Qd5 {γ α:Type}{c:Prop} [Decidable c] {a b:M γ α}{A B:Nat->M γ α}(h:JP a A) (h':JP b B):JP (if c then a else b) fun n=>if c then A n else B n:=by
 by_cases hc:c
 ·simp only[hc,if_true];exact h
 ·simp only[hc,if_false];exact h'
theorem Qdu {γ α β:Type}{f:α->M γ β}{mm:Nat->M γ β}:JP (Qk>>=f) mm:=fun _ _ _=> .fail
theorem Qvz {γ:Type}{E:Env}{D:Xd E}{DD:Nat->Xd E}(hD:∀f x,Ct (D f x) fun n=>DD n f x) (f0 f:Nat) (as:List Cell):JP (Qkn (γ:=γ) E D f0 f as) fun n=>Qkn E (DD n) f0 f as:=by
 unfold Qkn
 dsimp only
 refine Qd5 ?_ Qdu
 refine YJ (QqO _ _) fun _=> ?_
 refine YJ (by unfold Qq1;exact Qz4 (QwK _ _) (Qc _)) fun _=> ?_
 refine Qd5 ?_ Qdu
 refine Qd5 Qdu ?_
 refine YJ (Qw0 _ _) fun _=> ?_
 refine Qd5 ?_ Qdu
 refine YJ (Qux _ _ _) fun _=> ?_
 refine YJ (XF _) fun _=> ?_
 refine YJ (QuJ _ (hD _ _)) fun _=> ?_
 exact Qc _
theorem Qn2 {γ:Type}{E:Env}{D:Xd E}{DD:Nat->Xd E}(hD:∀f x,Ct (D f x) fun n=>DD n f x) (np:Fx) (d f0:Nat) (as:List Cell):JP (QiO (γ:=γ) E D np d f0 as) fun n=>QiO E (DD n) np d f0 as:=by
 unfold QiO
 exact YJ (Qvz hD _ _ _) fun _=>Qwl _ _ _ _ _ _
theorem QtB {γ:Type}{E:Env}{D:Xd E}{DD:Nat->Xd E}(hD:∀f x,Ct (D f x) fun n=>DD n f x) (np:Fx) (d f:Nat) (args:List Operand):JP (QjY (γ:=γ) E D np d f args) fun n=>QjY E (DD n) np d f args:=by
 unfold QjY
 exact YJ (qj _) fun _=>Qn2 hD _ _ _ _
theorem Qva {γ:Type}{E:Env}{D:Xd E}{DD:Nat->Xd E}(hD:∀f x,Ct (D f x) fun n=>DD n f x) (np:Fx) (d:Nat) (g:Operand) (args:List Operand):JP (QnK (γ:=γ) E D np d g args) fun n=>QnK E (DD n) np d g args:=by
 unfold QnK
 refine YJ (xe _) fun c=>YJ (qj _) fun as=> ?_
 cases c with
 |fn f caps=>exact Qn2 hD _ _ _ _
 |_=>exact Qa
theorem QzW {γ:Type}(i:Nat) {a b:M γ Unit}(ha:Par a) (hb:Par b):Par (fun k=> .brT i (a k) (b k):M γ Unit):=fun _ _ hk=> .brT i (ha _ _ hk) (hb _ _ hk)
theorem QyZ {γ:Type}(i:Nat) (w:Bool) {a b:M γ Unit}{A B:Nat->M γ Unit}(ha:JP a A) (hb:JP b B):JP (fun k=> .brG i w (a k) (b k):M γ Unit) fun n=>fun k=> .brG i w (A n k) (B n k):=fun _ _ hk=> .brG i w (ha _ _ hk) (hb _ _ hk)
theorem Qlc {γ:Type}{E:Env}{D:Xd E}{DD:Nat->Xd E}(hD:∀f x,Ct (D f x) fun n=>DD n f x) (nk:Fx) (o:Oper):JP (execOp (γ:=γ) E D nk o) fun n=>execOp E (DD n) nk o:=by
 unfold execOp
 dsimp only
 refine Qd5 Qa ?_
 generalize o.op=op
 cases op
 case call c=>
  obtain⟨cal,args,tys⟩:=c
  cases cal with
  |value g=>
   cases g with
   |func f=>exact QtB hD _ _ _ _
   |tmp t=>exact Qva hD _ _ _ _
   |_=>exact Qa
  |builtin b=>exact Qjf _ _ _ _ _
  |_=>exact Qa
 case makeFunc fn first caps=>
  cases fn with
  |func g=>
   refine(show Par (if first.size==0 then(do let cs<-Vg caps.toList;let l<-ofO (ptrs? cs);wT (o.dst.getD 0) (.fn g l))else Qk)from ?_)
   repeat' (first
    |(with_reducible first|exact Qa|exact xL _ _|exact XF _|exact qj _|refine Qm ?_ (fun _=> ?_))
    |split)
  |_=>exact Qa
 case slice T x lo hi mx=>
  cases mx with
  |none=>
   exact Qm (xe _) fun _=>Qm (QiT _) fun _=>Qm (QiT _) fun _=>Qlg _ _ _ _ _ _
  |some _=>exact Qa
 all_goals(first|exact Qa|skip)
 all_goals dsimp only
 all_goals refine(show Par _ from ?_)
 all_goals repeat' (first
  |(with_reducible first|exact Qc _|exact Qa|exact zU _|exact XF _|exact xe _|exact Qns _ _|exact xL _ _|exact Qd3 _|exact Qwe _ _|exact QhS _ _|exact Qic _ _|exact Qjn _ _ _ _|exact Qjq _ _ _ _ _|exact QpN _ _ _|exact QqB _|exact Qs4 _ _|exact Qk7 _ _ _ _|exact YD _ _ _ _|exact Qvu _ _|exact Qtu _ _ _ _|exact QsQ _ _ _ _|exact Quy _ _ _ _ _|exact QiT _|exact Qlg _ _ _ _ _ _|exact QgV _ _|exact qj _|exact Qjf _ _ _ _ _|refine Qm ?_ (fun _=> ?_))
  |split
  |exact QzW _ (Qm (xe _) fun _=>xL _ _) (Qm (xe _) fun _=>xL _ _)
  |exact YD _ _ _ _
  |exact Qk7 _ _ _ _
  |exact QgV _ _)
theorem Qtq {γ:Type}{E:Env}{D:Xd E}{DD:Nat->Xd E}(hD:∀f x,Ct (D f x) fun n=>DD n f x) (nk:Fx) (ops:List Oper) (o:Oper):JP (VF (γ:=γ) E D nk ops o) fun n=>VF E (DD n) nk ops o:=by
 unfold VF
 cases o.guard with
 |none=>exact Qlc hD _ _
 |some g=>
  obtain⟨j,w⟩:=g
  dsimp only
  cases(ops[j]?).bind (·.dst)with
  |none=>exact Qa
  |some t=>exact QyZ t w (Qlc hD _ _) (Qns _ _)
end Go.Eng
namespace Go.Eng
open Go
set_option linter.unusedVariables false
def QaW (E:Env) (f:Nat) (ins:Qe (E.sig f).ins) (outs:Qe (E.sig f).outs):Prop:=Evt fun n=>(mean E n).1 f ins=some outs
def QfI (E:Env) (f b:Nat) (v:Qe (E.lsig f b).sk.tys) (z:Vj (Yb (E.lsig f b).exits)):Prop:=Evt fun n=>(mean E n).2 f b v=some z
theorem QaW.step {E:Env}{f:Nat}{ins:Qe (E.sig f).ins}{outs:Qe (E.sig f).outs}(h:Evt fun n=>QaQ E (mean E n).1 (mean E n).2 f ins=some outs):QaW E f ins outs:=Evt.succ h
theorem QfI.step {E:Env}{f b:Nat}{v:Qe (E.lsig f b).sk.tys}{z:Vj (Yb (E.lsig f b).exits)}(h:Evt fun n=>Qa1 E (mean E n).1 (mean E n).2 f b v=some z):QfI E f b v z:=Evt.succ h
theorem QaW.spec {P:Program}{E:Env}(hT:Xt P E) (hE:EnvCode P E) (hLo:EnvLoops E) (hmix:P.follows .mixedOrders=true) {f:Nat}(hf:E.fok f=true) {ins:Qe (E.sig f).ins}{outs:Qe (E.sig f).outs}(h:QaW E f ins outs):qJ P E.gg (E.sig f) (E.real f) (unpack _ ins) (unpack _ outs):=by
 obtain⟨n,hn⟩:=h.here
 exact(yH hT hE hLo hmix n).1 f ins outs hf hn
end Go.Eng
namespace Go.Eng
open Go
set_option linter.unusedVariables false
theorem Ct.ite {β:Type}{c:Prop} [Decidable c] {x y:Option β}{X Y:Nat->Option β}(h:Ct x X) (h':Ct y Y):Ct (if c then x else y) fun n=>if c then X n else Y n:=by
 by_cases hc:c
 ·simp only[hc,if_true];exact h
 ·simp only[hc,if_false];exact h'
section
variable {E:Env}{D:Xd E}{DD:Nat->Xd E}{L:VZ E}{LL:Nat->VZ E}
theorem QtW (hD:∀f x,Ct (D f x) fun n=>DD n f x) (nk:Fx) (all:List Oper) (o:Oper):RPC (ZZ (VF E D nk all o)) fun n=>ZZ (VF E (DD n) nk all o):=
 Qtq hD nk all o _ _ fun _=> .ret ()
theorem QsN {β:Type}(hD:∀f x,Ct (D f x) fun n=>DD n f x) (nk:Fx) (all:List Oper):(l:List Oper)->(s:St)->(K:St->Option β)->(KK:Nat->St->Option β)->(∀s,Ct (K s) fun n=>KK n s)->Ct (QiW E D nk all l s K) fun n=>QiW E (DD n) nk all l s (KK n)
 | [],s,K,KK,h=>h s
 |o::l,s,K,KK,h=>(QtW hD nk all o).ev s _ _ fun _ s'=>QsN hD nk all l s' K KK h
theorem QpY {β:Type}(hD:∀f x,Ct (D f x) fun n=>DD n f x) (nk:Fx) (all:List Oper):(l:List Oper)->(trs:List Tr)->(s:St)->(K:St->Option β)->(KK:Nat->St->Option β)->(∀s,Ct (K s) fun n=>KK n s)->Ct (Qb9 E D nk all l trs s K) fun n=>Qb9 E (DD n) nk all l trs s (KK n)
 | [],trs,s,K,KK,h=>Ct.ite (h s) Ct.none
 |o::l,trs,s,K,KK,h=>(QtW hD nk all o).evT s _ _ _ fun _ s' t=>QpY hD nk all l _ s' K KK h
theorem Qpg {β:Type}(n:Nat):(l:List (Ex×Sk))->(z:Vj (Yb l))->(K:Ex->St->Option β)->(KK:Nat->Ex->St->Option β)->(∀e s,Ct (K e s) fun n=>KK n e s)->Ct (QoK n l z K) fun m=>QoK n l z (KK m)
 | [],_,_,_,_=>Ct.none
 | [(e,sk)],v,K,KK,h=>h e _
 |(e,sk)::a::l,z,K,KK,h=>by
  cases z with
  |inl v=>exact h e _
  |inr z'=>exact Qpg n (a::l) z' K KK h
theorem Qqt {β:Type}(hL:∀f b x,Ct (L f b x) fun n=>LL n f b x) (f:Nat) (s:St) (K:Ex->St->Option β) (KK:Nat->Ex->St->Option β) (h:∀e s,Ct (K e s) fun n=>KK n e s):(l:List Nat)->Ct (QbJ E L f s K l) fun n=>QbJ E (LL n) f s (KK n) l
 | []=>Ct.none
 |b::l=>by
  simp only[QbJ]
  refine Ct.ite ?_ Ct.none
  cases dec (E.lsig f b).sk s with
  |none=>exact Qqt hL f s K KK h l
  |some v=>exact Ct.bind (hL f b v) fun z=>Qpg _ _ _ _ _ h
theorem Qzb {β:Type}(hD:∀f x,Ct (D f x) fun n=>DD n f x) (hL:∀f b x,Ct (L f b x) fun n=>LL n f b x) (f:Nat) (c:Code):∀(s:St) (K:Ex->St->Option β) (KK:Nat->Ex->St->Option β),(∀e s,Ct (K e s) fun n=>KK n e s)->Ct (ev E D L f c s K) fun n=>ev E (DD n) (LL n) f c s (KK n):=by
 induction c with
 |skip=>intro s K KK h;exact h .normal s
 |region i ops draw=>
  intro s K KK h
  simp only[ev]
  refine Ct.ite ?_ ?_
  ·exact QpY hD _ _ _ _ _ _ _ fun s=>h .normal s
  ·exact QsN hD _ _ _ _ _ _ fun s=>h .normal s
 |seq a b iha ihb=>
  intro s K KK h
  simp only[ev]
  refine iha s _ _ fun e s'=> ?_
  cases e with
  |normal=>exact ihb s' K KK h
  |exit i=>exact h _ _
  |ret=>exact h _ _
 |cond c a b iha ihb=>
  intro s K KK h
  simp only[ev]
  cases c with
  |tmp t=>
   dsimp only
   cases Q9 (s.gT t)with
   |none=>exact Ct.none
   |some v=>exact Ct.cond (iha _ K KK h) (ihb _ K KK h)
  |const v=>
   cases v with
   |bool v=>exact Ct.cond (iha _ K KK h) (ihb _ K KK h)
   |_=>exact Ct.none
  |_=>exact Ct.none
 |block b c ih=>
  intro s K KK h
  have hK:∀e s,Ct (V7 b K e s) fun n=>V7 b (KK n) e s:=by
   intro e s
   cases e with
   |exit i=>exact Ct.ite (h _ _) (h _ _)
   |normal=>exact h _ _
   |ret=>exact h _ _
  cases hl:Qhm c with
  |true=>
   cases c with
   |loop x=>
    simp only[Qp3]
    exact Qqt hL f s _ _ hK _
   |_=>cases hl
  |false=>
   simp only[QsO hl]
   exact ih s _ _ hK
 |exit i=>intro s K KK h;exact h _ _
 |ret=>intro s K KK h;exact h _ _
 |_=>intros;exact Ct.none
theorem QxM (hD:∀f x,Ct (D f x) fun n=>DD n f x) (hL:∀f b x,Ct (L f b x) fun n=>LL n f b x) (f:Nat) (x:Qe (E.sig f).ins):Ct (QaQ E D L f x) fun n=>QaQ E (DD n) (LL n) f x:=by
 unfold QaQ
 cases E.ext f with
 |some g=>exact Ct.same _
 |none=>exact Qzb hD hL f _ _ _ _ fun e s=>Ct.same _
theorem Qlb (hL:∀f b x,Ct (L f b x) fun n=>LL n f b x) (f b:Nat) (s:St):(l:List Nat)->Ct (zR E L f b s l) fun n=>zR E (LL n) f b s l
 | []=>Ct.none
 |b'::l=>by
  simp only[zR]
  refine Ct.ite ?_ Ct.none
  cases dec (E.lsig f b').sk s with
  |none=>exact Qlb hL f b s l
  |some v=>exact Ct.bind (hL f b' v) fun z=>Qpg _ _ _ _ _ fun e s=>Ct.same _
theorem QyC (hD:∀f x,Ct (D f x) fun n=>DD n f x) (hL:∀f b x,Ct (L f b x) fun n=>LL n f b x) (f b:Nat) (x:Qe (E.lsig f b).sk.tys):Ct (Qa1 E D L f b x) fun n=>Qa1 E (DD n) (LL n) f b x:=by
 unfold Qa1
 refine Qzb hD hL f _ _ _ _ fun e s=> ?_
 cases e with
 |normal=>
  simp only[QvP]
  cases dec (E.lsig f b).sk s with
  |some v'=>exact hL f b v'
  |none=>exact Qlb hL f b s _
 |exit i=>exact Ct.same _
 |ret=>exact Ct.same _
end
theorem Evt.unique {α:Type}{X:Nat->Option α}{a b:α}(h:Evt fun n=>X n=some a) (h':Evt fun n=>X n=some b):a=b:=by
 obtain⟨n,e,e'⟩:=(h.and h').here
 rw[e]at e';exact Option.some.inj e'
open Classical in
noncomputable def W (E:Env):Xd E:=fun f x=>if h:∃o,QaW E f x o then some (Classical.choose h)else none
open Classical in
noncomputable def WL (E:Env):VZ E:=fun f b x=>if h:∃o,QfI E f b x o then some (Classical.choose h)else none
theorem QEe {E:Env}{f:Nat}{x:Qe (E.sig f).ins}{o:Qe (E.sig f).outs}(h:QaW E f x o):W E f x=some o:=by
 have hx:∃o,QaW E f x o:=⟨o,h⟩
 unfold W
 rw[dif_pos hx]
 exact congrArg some (Evt.unique (Classical.choose_spec hx) h)
theorem QoF {E:Env}{f:Nat}{x:Qe (E.sig f).ins}{o:Qe (E.sig f).outs}(h:W E f x=some o):QaW E f x o:=by
 unfold W at h
 split at h
 ·rename_i hx
  rw[<-Option.some.inj h];exact Classical.choose_spec hx
 ·cases h
theorem QBH {E:Env}{f b:Nat}{x:Qe (E.lsig f b).sk.tys}{o:Vj (Yb (E.lsig f b).exits)}(h:QfI E f b x o):WL E f b x=some o:=by
 have hx:∃o,QfI E f b x o:=⟨o,h⟩
 unfold WL
 rw[dif_pos hx]
 exact congrArg some (Evt.unique (Classical.choose_spec hx) h)
theorem Qsg {E:Env}{f b:Nat}{x:Qe (E.lsig f b).sk.tys}{o:Vj (Yb (E.lsig f b).exits)}(h:WL E f b x=some o):QfI E f b x o:=by
 unfold WL at h
 split at h
 ·rename_i hx
  rw[<-Option.some.inj h];exact Classical.choose_spec hx
 ·cases h
theorem Qz8 {E:Env}{f:Nat}{x:Qe (E.sig f).ins}{o:Qe (E.sig f).outs}(h:QaQ E (W E) (WL E) f x=some o):W E f x=some o:=
 QEe (QaW.step (QxM (fun f x o h=>QoF h) (fun f b x o h=>Qsg h) f x o h))
theorem Qyq {E:Env}{f b:Nat}{x:Qe (E.lsig f b).sk.tys}{o:Vj (Yb (E.lsig f b).exits)}(h:Qa1 E (W E) (WL E) f b x=some o):WL E f b x=some o:=
 QBH (QfI.step (QyC (fun f x o h=>QoF h) (fun f b x o h=>Qsg h) f b x o h))
end Go.Eng
namespace Go.Eng
open Go
def ap {E:Env}{f:Nat}{A B:Type}(hA:Qe (E.sig f).ins=A) (hB:Qe (E.sig f).outs=B) (D:Xd E) (a:A):Option B:=cast (congrArg Option hB) (D f (cast hA.symm a))
def apL {E:Env}{f b:Nat}{A B:Type}(hA:Qe (E.lsig f b).sk.tys=A) (hB:Vj (Yb (E.lsig f b).exits)=B) (L:VZ E) (a:A):Option B:=cast (congrArg Option hB) (L f b (cast hA.symm a))
theorem QxV {E:Env}{f:Nat}{A B:Type}(hA:Qe (E.sig f).ins=A) (hB:Qe (E.sig f).outs=B) {a:A}{r:Option B}{o:B}(e:ap hA hB (QaQ E (W E) (WL E)) a=r) (h:r=some o):ap hA hB (W E) a=some o:=by
 subst hA hB
 exact Qz8 (e.trans h)
theorem Qxa {E:Env}{f b:Nat}{A B:Type}(hA:Qe (E.lsig f b).sk.tys=A) (hB:Vj (Yb (E.lsig f b).exits)=B) {a:A}{r:Option B}{o:B}(e:apL hA hB (Qa1 E (W E) (WL E)) a=r) (h:r=some o):apL hA hB (WL E) a=some o:=by
 subst hA hB
 exact Qyq (e.trans h)
theorem QAl {P:Program}{E:Env}(hT:Xt P E) (hE:EnvCode P E) (hLo:EnvLoops E) (hmix:P.follows .mixedOrders=true) {f:Nat}(hf:E.fok f=true) {A B:Type}(hA:Qe (E.sig f).ins=A) (hB:Qe (E.sig f).outs=B) {a:A}{o:B}(h:ap hA hB (W E) a=some o):
 qJ P E.gg (E.sig f) (E.real f) (unpack _ (cast hA.symm a)) (unpack _ (cast hB.symm o)):=by
 subst hA hB
 exact QaW.spec hT hE hLo hmix hf (QoF h)
end Go.Eng
namespace Go.Eng
open Go
set_option linter.unusedVariables false
mutual
def Fit:(t:Ty)->Val t->Prop
 | .int k,n=>(Lit.int k n).wf=true
 | .bool,_=>True
 | .str,s=>ByteArray.size s<=maxLen
 | .sl ts,xs=>(vl xs).length<=maxLen/\∀x∈vl xs,Vn ts x
def Vn:(ts:Tys)->Qe ts->Prop
 | .nil,_=>True
 | .cons t ts,x=>Fit t (vhd x)/\Vn ts (vtl x)
end
def Rd (w:World) (ts:Tys) (cs:List Value):Prop:=∃(x:Qe ts) (bl:List Nat),Xf w ts x cs bl/\Vn ts x/\∀b∈bl,b<w.heap.size
theorem Rd.nil {w:World}:Rd w .nil []:=⟨(),[],⟨rfl,rfl⟩,trivial,by simp⟩
theorem QhW {t:Ty}{ts:Tys}(a:Val t) (b:Qe ts):vhd (vmk a b)=a:=by cases ts<;>rfl
theorem Qho {t:Ty}{ts:Tys}(a:Val t) (b:Qe ts):vtl (vmk a b)=b:=by cases ts<;>rfl
theorem Rd.cons {w:World}{t:Ty}{ts:Tys}{u:Value}{us:List Value}{a:Val t}{b1:List Nat}(h:Rep w t a u b1) (hf:Fit t a) (hb:∀b∈b1,b<w.heap.size) (h2:Rd w ts us):Rd w (.cons t ts) (u::us):=by
 obtain⟨x,bl,h3,h4,h5⟩:=h2
 refine⟨vmk a x,b1++bl,⟨u,us,b1,bl,rfl,rfl, ?_, ?_⟩,⟨?_, ?_⟩,fun b hb'=> ?_⟩
 ·rw[QhW];exact h
 ·rw[Qho];exact h3
 ·rw[QhW];exact hf
 ·rw[Qho];exact h4
 ·rcases QRh.1 hb' with h|h
  ·exact hb b h
  ·exact h5 b h
theorem Rd.uncons {w:World}{t:Ty}{ts:Tys}{cs:List Value}(h:Rd w (.cons t ts) cs):∃u us a b1,cs=u::us/\Rep w t a u b1/\Fit t a/\(∀b∈b1,b<w.heap.size)/\Rd w ts us:=by
 obtain⟨x,bl,⟨u,us,b1,b2,e1,e2,h1,h2⟩,⟨h3,h4⟩,h5⟩:=h
 exact⟨u,us,vhd x,b1,e1,h1,h3,fun b hb=>h5 b (by rw[e2];exact List.mem_append_left _ hb),vtl x,b2,h2,h4,fun b hb=>h5 b (by rw[e2];exact List.mem_append_right _ hb)⟩
theorem Rd.app {w:World}: {ts us:Tys}-> {cs ds:List Value}->Rd w ts cs->Rd w us ds->Rd w (ts.app us) (cs++ds)
 | .nil,us,cs,ds,⟨_,_,⟨h,_⟩,_,_⟩,h'=>by subst h;exact h'
 | .cons t ts,us,cs,ds,h,h'=>by
   obtain⟨u,us',a,b1,rfl,h1,h2,h3,h4⟩:=h.uncons
   exact Rd.cons h1 h2 h3 (Rd.app h4 h')
theorem Rd.len {w:World}: {ts:Tys}-> {cs:List Value}->Rd w ts cs->cs.length=ts.len
 | .nil,cs,⟨_,_,⟨h,_⟩,_,_⟩=>by subst h;rfl
 | .cons t ts,cs,h=>by
   obtain⟨u,us',a,b1,rfl,h1,h2,h3,h4⟩:=h.uncons
   simp[Tys.len,Rd.len h4]
def Tys.strip:Tys->Tys->Option Tys
 | .nil,ts=>some ts
 | .cons t ts, .cons u us=>match Ty.eq? t u with|some _=>Tys.strip ts us|none=>none
 | .cons _ _, .nil=>none
theorem Tys.Ql6:(a b c:Tys)->Tys.strip a b=some c->b=a.app c
 | .nil,b,c,h=>by simp only[Tys.strip,Option.some.injEq]at h;exact h
 | .cons t ts, .nil,c,h=>by cases h
 | .cons t ts, .cons u us,c,h=>by
   simp only[Tys.strip]at h
   split at h
   ·rename_i p _
    obtain⟨p⟩:=p
    subst p
    simp only[Tys.app]
    rw[Tys.Ql6 ts us c h]
   ·cases h
def Qfp (a b:Tys):Bool:=match Tys.eq? a b with|some _=>true|none=>false
theorem xU {a b:Tys}(h:Qfp a b=true):a=b:=by
 unfold Qfp at h
 split at h
 ·rename_i p _;exact p.down
 ·cases h
def QkD (P:Program) (ty:Nat->TI):Nat->List Field->Tys->Bool
 |_,[],ts=>(match ts with| .nil=>true|_=>false)
 |off,f::fs,ts=>(ty f.type).ok&&Nat.beq f.offset off&&Nat.beq (P.cellsOf f.type) (ty f.type).ts.len&&(match(ty f.type).ts.strip ts with|some rest=>QkD P ty (off+(ty f.type).ts.len) fs rest|none=>false)
def rdB (P:Program) (ty:Nat->TI) (T:Nat) (i:TI):Bool:= !i.ok||(match P.underlying T with
 |some (.int k)=> !i.agg&&Qfp i.ts (.cons (.int k) .nil)
 |some .bool=> !i.agg&&Qfp i.ts (.cons .bool .nil)
 |some .string=> !i.agg&&Qfp i.ts (.cons .str .nil)
 |some (.slice e)=> !i.agg&&(ty e).ok&&Nat.blt 0 (ty e).ts.len&&Nat.beq (P.cellsOf e) (ty e).ts.len&&Qfp i.ts (.cons (.sl (ty e).ts) .nil)
 |some (.struct fs)=>i.agg&&Nat.beq (P.cellsOf T) i.ts.len&&QkD P ty 0 fs.toList i.ts
 |_=>false)
theorem QtU {w:World}{ts:Tys}{a:Addr}:(n:Nat)->(∀i,i<n->∃us,Cells w a (i*ts.len) us/\Rd w ts us)->∃(xs:List (Qe ts)) (bls:List (List Nat)),xs.length=n/\bls.length=n/\(∀x∈xs,Vn ts x)/\(∀b∈bls.flatten,b<w.heap.size)/\
 ∀(i:Nat) (x:Qe ts) (b:List Nat),xs[i]? =some x->bls[i]? =some b->∃us,Cells w a (i*ts.len) us/\Xf w ts x us b
 |0,_=>⟨[],[],rfl,rfl,by simp,by simp,by simp⟩
 |n+1,h=>by
  obtain⟨xs,bls,h1,h2,h3,h4,h5⟩:=QtU n fun i hi=>h i (by omega)
  obtain⟨us,c1,x,bl,c2,c3,c4⟩:=h n (by omega)
  refine⟨xs++[x],bls++[bl],by simp[h1],by simp[h2],fun y hy=> ?_,fun b hb=> ?_,fun i y b hy hb=> ?_⟩
  ·rcases QRh.1 hy with h|h
   ·exact h3 y h
   ·rw[List.mem_singleton.1 h];exact c3
  ·rw[List.flatten_append]at hb
   rcases QRh.1 hb with h|h
   ·exact h4 b h
   ·exact c4 b (by simpa using h)
  ·by_cases hi:i<n
   ·rw[List.getElem?_append_left (by omega)]at hy hb
    exact h5 i y b hy hb
   ·have hin:i=n:=by
     have:=(QRq.1 hy).1
     simp[h1]at this;omega
    subst hin
    rw[List.getElem?_append_right (by omega),h1,Nat.sub_self]at hy
    rw[List.getElem?_append_right (by omega),h2,Nat.sub_self]at hb
    simp at hy hb;subst hy hb
    exact⟨us,c1,c2⟩
section
variable {H:Type}{enc:TypeId×Value->H}{P:Program}{w:World}{sp:Nat->Bool}{held:Bool}{ty:Nat->TI}
theorem Qk6 {n:Nat}(ih:∀T cs y,(ty T).ok=true->DataW.trod enc P w 0 sp held n T cs=some y->Rd w (ty T).ts cs) (cs:List Value):(fs:List Field)->(off:Nat)->(ts:Tys)->QkD P ty off fs ts=true->
 (∀f∈fs,∃y,DataW.trod enc P w 0 sp held n f.type ((cs.drop f.offset).take (P.cellsOf f.type))=some y)->cs.length=off+ts.len->Rd w ts (cs.drop off)
 | [],off,ts,h,_,hl=>by
   cases ts with
   |nil=>
    simp only[Tys.len]at hl
    rw[List.drop_of_length_le (by omega)];exact Rd.nil
   |cons _ _=>cases h
 |f::fs,off,ts,h,hf,hl=>by
  simp only[QkD,QQ5,Nat.beq_eq]at h
  obtain⟨⟨⟨h1,h2⟩,h3⟩,h4⟩:=h
  split at h4
  ·rename_i rest hs
   have e:=Tys.Ql6 _ _ _ hs
   obtain⟨y,hy⟩:=hf f (by simp)
   have r:=ih _ _ _ h1 hy
   have hlen:=r.len
   rw[h2,h3]at r hlen
   have e2:ts.len=(ty f.type).ts.len+rest.len:=by
    rw[e]
    generalize (ty f.type).ts=a
    have:∀a:Tys,(a.app rest).len=a.len+rest.len:=by
     intro a
     induction a using Tys.rec (motive_1:=fun _=>True)with
     |nil=>simp[Tys.app,Tys.len]
     |cons t ts _ iht=>simp only[Tys.app,Tys.len,iht];omega
     |_=>trivial
    exact this a
   have r2:=Qk6 ih cs fs (off+(ty f.type).ts.len) rest h4 (fun g hg=>hf g (by simp[hg])) (by omega)
   have:=r.app r2
   rw[<-e]at this
   have e3:(cs.drop off).take (ty f.type).ts.len++cs.drop (off+(ty f.type).ts.len)=cs.drop off:=by
    rw[<-List.drop_drop];exact List.take_append_drop _ _
   rw[e3]at this
   exact this
  ·cases h4
theorem read (hB:∀T,rdB P ty T (ty T)=true):(fuel:Nat)->(T:Nat)->(cs:List Value)->(y:DataW H×List MemPlace)->(ty T).ok=true->DataW.trod enc P w 0 sp held fuel T cs=some y->Rd w (ty T).ts cs
 |0,T,cs,y,_,h=>by simp[DataW.trod]at h
 |fuel+1,T,cs,y,hok,h=>by
  have hb:=hB T
  simp only[rdB,hok,QQ3,Bool.false_or]at hb
  split at hb
  ·rename_i k hu
   simp only[QQ5]at hb
   rw[xU hb.2]
   obtain⟨n,rfl,_,hw⟩:=DataW.trod_int hu h
   exact Rd.cons (a:=(show Val (.int k)from n)) (b1:=[]) ⟨rfl,rfl⟩ hw (by simp) Rd.nil
  ·rename_i hu
   simp only[QQ5]at hb
   rw[xU hb.2]
   obtain⟨b,rfl,_⟩:=DataW.trod_bool hu h
   exact Rd.cons (a:=(show Val .bool from b)) (b1:=[]) ⟨rfl,rfl⟩ trivial (by simp) Rd.nil
  ·rename_i hu
   simp only[QQ5]at hb
   rw[xU hb.2]
   obtain⟨s,rfl,_,hs⟩:=DataW.trod_string hu h
   exact Rd.cons (a:=(show Val .str from s)) (b1:=[]) ⟨rfl,rfl⟩ hs (by simp) Rd.nil
  ·rename_i e hu
   simp only[QQ5,Nat.beq_eq,Nat.blt_eq]at hb
   obtain⟨⟨⟨⟨_,h1⟩,h2⟩,h3⟩,h4⟩:=hb
   rw[xU h4]
   rcases DataW.trod_slice hu h with⟨rfl,_⟩|⟨a,len,cap,elems,rest,n,hn,rfl,_,_,hl,hm,hlen,hel,_,_⟩
   ·exact Rd.cons (a:=(show Val (.sl (ty e).ts)from([]:List (Qe (ty e).ts)))) (b1:=[]) ⟨none,0,rfl,⟨Nat.le_refl _,fun _=>rfl⟩, .inl ⟨rfl,rfl⟩⟩ ⟨by simp[vl],by simp[vl]⟩ (by simp) Rd.nil
   ·obtain rfl:fuel=n:=by omega
    have each:∀i,i<len->∃us,Cells w a (i*(ty e).ts.len) us/\Rd w (ty e).ts us/\a.block<w.heap.size:=by
     intro i hi
     have h5:=hel i hi
     rw[QRp (by omega)]at h5
     obtain⟨us,h6,h7⟩:=Option.bind_eq_some_iff.1 h5
     refine⟨us,fun j u hj=> ?_,read hB fuel e us _ h1 h7, ?_⟩
     ·obtain⟨_,g1,g2⟩:=World.cells?_some h6
      have hj':j<us.length:=(QRq.1 hj).1
      have:=g2 j (by omega)
      rw[Addr.add_add,h3,hj]at this
      exact this
     ·have:=World.cells?_block h6 (by omega)
      rwa[Qj4]at this
    obtain⟨xs,bls,x1,x2,x3,x4,x5⟩:=QtU (w:=w) (ts:=(ty e).ts) (a:=a) len fun i hi=>by
     obtain⟨us,c1,c2,_⟩:=each i hi
     exact⟨us,c1,c2⟩
    by_cases h0:len=0
    ·subst h0
     have x1:xs=[]:=QRx x1
     exact Rd.cons (a:=(show Val (.sl (ty e).ts)from([]:List (Qe (ty e).ts)))) (b1:=[]) ⟨some a,cap,rfl,⟨Nat.zero_le _,fun h=>by cases h⟩, .inl ⟨rfl,rfl⟩⟩ ⟨by simp[vl],by simp[vl]⟩ (by simp) Rd.nil
    ·refine Rd.cons (a:=(show Val (.sl (ty e).ts)from xs)) (b1:=a.block::bls.flatten) ⟨some a,cap,by rw[show(vl (show Val (.sl (ty e).ts)from xs)).length=len from x1],⟨by rw[show(vl (show Val (.sl (ty e).ts)from xs)).length=len from x1];exact hl,fun h=>by cases h⟩, .inr ⟨a,bls,rfl,rfl,by rw[x2];exact x1.symm,x5⟩⟩ ⟨by rw[show(vl (show Val (.sl (ty e).ts)from xs)).length=len from x1];omega,x3⟩ (fun b hb=> ?_) Rd.nil
     rcases QRk.1 hb with h|h
     ·obtain⟨_,_,_,h7⟩:=each 0 (by omega)
      rw[h];exact h7
     ·exact x4 b h
  ·rename_i fs hu
   simp only[QQ5,Nat.beq_eq]at hb
   obtain⟨⟨_,h2⟩,h3⟩:=hb
   obtain⟨xs,n,hn,_,hl,hx,hf⟩:=DataW.trod_struct hu h
   obtain rfl:fuel=n:=by omega
   have:=Qk6 (read hB fuel) cs fs.toList 0 (ty T).ts h3 (fun f hfm=>by
    obtain⟨i,hi,he⟩:=List.mem_iff_getElem.1 hfm
    have h5:=hf i f (by rw[Array.getElem?_eq_getElem (by simpa using hi)];simpa using he)
    exact⟨xs[i]'(by rw[hx];simpa using hi),by rw[h5,QRp]⟩) (by omega)
   rwa[QRg]at this
  ·cases hb
end
end Go.Eng
namespace Go.Eng
open Go Go.RowKit
set_option linter.unusedVariables false
def QuA (ty:Nat->TI):List TypeId->List PSig->Bool
 | [],[]=>true
 |T::Ts, .val a cs::ps=>(ty T).ok&&(a==(ty T).agg)&&cs.all (fun c=>c.1.QG)&&Qfp (qY cs) (ty T).ts&&QuA ty Ts ps
 |_,_=>false
section
variable {H:Type}{enc:TypeId×Value->H}{P:Program}{w:World}{sp:Nat->Bool}{held:Bool}{ty:Nat->TI}
theorem Qt9 {R:Nat->Prop}(hR:∀b,b<w.heap.size->R b):(cs:List (Mode×Ty))->(us:List Value)->cs.all (fun c=>c.1.QG)=true->Rd w (qY cs) us->∃x:Qe (qY cs),Vn (qY cs) x/\∃bls,bls.flatten=[]/\jF w R cs (unpack _ x) us bls
 | [],us,_,⟨x,bl,⟨h,_⟩,_,_⟩=>⟨(),trivial,[],rfl,rfl,h,rfl⟩
 |(.ro,t)::l,us,h,hr=>by
  simp only[List.all_cons,QQ5]at h
  obtain⟨u,us',a,b1,rfl,h1,h2,h3,h4⟩:=Rd.uncons (ts:=qY l) hr
  obtain⟨x,f1,bls,e1,c1⟩:=Qt9 hR l us' h.2 h4
  refine⟨(vmk a x:Qe (.cons t (qY l))),⟨by rw[QhW];exact h2,by rw[Qho];exact f1⟩,[]::bls,by simp[e1],⟨t,a⟩,unpack _ x,u,us',[],bls, ?_,rfl,rfl,⟨rfl, ?_⟩,c1⟩
  ·show(⟨t,vhd (vmk a x)⟩:TV)::unpack (qY l) (vtl (vmk a x))=_
   rw[QhW,Qho]
  ·have:takes .ro t=false:=by simp[takes,Mode.QG]
   rw[this]
   exact⟨rfl,b1,h1,fun c hc=>hR c (h3 c hc)⟩
 |(.mut,t)::l,us,h,hr=>by simp[Mode.QG]at h
 |(.own,t)::l,us,h,hr=>by simp[Mode.QG]at h
 |(.junk,t)::l,us,h,hr=>by simp[Mode.QG]at h
theorem Qom:(a b:Tys)->(x:Qe a)->(y:Qe b)->∃z:Qe (a.app b),unpack _ z=unpack _ x++unpack _ y/\(Vn a x->Vn b y->Vn (a.app b) z)
 | .nil,b,x,y=>⟨y,rfl,fun _ h=>h⟩
 | .cons t ts,b,x,y=>by
   obtain⟨z,h1,h2⟩:=Qom ts b (vtl x) y
   refine⟨(vmk (vhd x) z:Qe (.cons t (ts.app b))), ?_,fun hx hy=>⟨?_, ?_⟩⟩
   ·show(⟨t,vhd (vmk (vhd x) z)⟩:TV)::unpack (ts.app b) (vtl (vmk (vhd x) z))=_
    rw[QhW,Qho,h1];rfl
   ·rw[QhW];exact hx.1
   ·rw[Qho];exact h2 hx.2 hy
theorem Qte {base:Nat}{T:TypeId}{v:Value}(hok:(ty T).ok=true) (hB:rdB P ty T (ty T)=true) (h:Value.okWide P w .any base T v):(if(ty T).agg then v= .agg v.cells.toList.toArray else v.cells.toList=[v]):=by
 simp only[rdB,hok,QQ3,Bool.false_or]at hB
 unfold Value.okWide at h
 split at hB
 ·rename_i k hu
  simp only[QQ5,Bool.not_eq_true']at hB
  rw[hu]at h
  simp only[Cell.okWide,Cell.ok,hu]at h
  rw[hB.1]
  cases v<;>simp_all[Value.cells]
 ·rename_i hu
  simp only[QQ5,Bool.not_eq_true']at hB
  rw[hu]at h
  simp only[Cell.okWide,Cell.ok,hu]at h
  rw[hB.1]
  cases v<;>simp_all[Value.cells]
 ·rename_i hu
  simp only[QQ5,Bool.not_eq_true']at hB
  rw[hu]at h
  simp only[Cell.okWide,Cell.ok,hu]at h
  rw[hB.1]
  cases v<;>simp_all[Value.cells]
 ·rename_i e hu
  simp only[QQ5,Bool.not_eq_true']at hB
  rw[hu]at h
  simp only[Cell.okWide,Cell.ok,hu]at h
  rw[hB.1.1.1.1]
  cases v<;>simp_all[Value.cells]
 ·rename_i fs hu
  simp only[QQ5]at hB
  rw[hu]at h
  obtain⟨cs,rfl,_⟩:=h
  rw[hB.1.1]
  simp[Value.cells]
 ·cases hB
theorem Qrq {base:Nat}{R:Nat->Prop}(hR:∀b,b<w.heap.size->R b) (hB:∀T,rdB P ty T (ty T)=true):(Ts:List TypeId)->(ps:List PSig)->(vs:List Value)->(ds:List (DataW H))->(p:List MemPlace)->QuA ty Ts ps=true->DataW.TrodAll enc P w 0 sp held Ts vs ds p->
 (∀(j:Nat) t v,Ts[j]? =some t->vs[j]? =some v->Value.okWide P w .any base t v)->∃a:Qe (QiK ps),Vn _ a/\∃bls,bls.flatten=[]/\zQ w R ps (unpack _ a) vs [] bls
 | [],[],[],[],p,_,_,_=>⟨(),trivial,[],rfl,rfl,rfl,rfl,rfl⟩
 | [],[],_::_,_,p,_,h,_=>by cases h
 | [],[],[],_::_,p,_,h,_=>by cases h
 | [],_::_,_,_,p,h,_,_=>by cases h
 |_::_,[],_,_,p,h,_,_=>by cases h
 |_::_, .ptr _::_,_,_,p,h,_,_=>by cases h
 |_::_, .fn _ _::_,_,_,p,h,_,_=>by cases h
 |_::_, .val _ _::_,[],_,p,_,h,_=>by cases h
 |_::_, .val _ _::_,_::_,[],p,_,h,_=>by cases h
 |T::Ts, .val a cs::ps,v::vs,d::ds,p,h,ht,hval=>by
  simp only[QuA,QQ5,beq_iff_eq]at h
  obtain⟨⟨⟨⟨h1,h2⟩,h3⟩,h4⟩,h5⟩:=h
  obtain⟨p1,q1,⟨fuel,k1⟩,k2,_⟩:=ht
  have r:=read hB fuel T _ _ h1 k1
  rw[<-xU h4]at r
  obtain⟨x,f1,b1,e1,c1⟩:=Qt9 hR cs _ h3 r
  obtain⟨y,f2,b2,e2,c2⟩:=Qrq hR hB Ts ps vs ds q1 h5 k2 (fun j t v hj hv=>hval (j+1) t v (by simpa using hj) (by simpa using hv))
  obtain⟨z,g1,g2⟩:=Qom (qY cs) (QiK ps) x y
  refine⟨z,g2 f1 f2,b1++b2,by simp[e1,e2],unpack _ x,unpack _ y,v,vs,[],[],b1,b2,g1,rfl,rfl,rfl,⟨rfl,v.cells.toList, ?_,c1⟩,c2⟩
  have:=Qte h1 (hB T) (hval 0 T v rfl rfl)
  rw[<-h2]at this
  exact this
end
theorem Qym {w w':World}(h:Grow (·∈([]:List Nat)) w w'):Below w.heap.size w w':=⟨h.os,h.tape,h.output,h.size,fun k hk=>h.block k hk (by simp)⟩
def Mode.QnM:Mode->Bool
 | .junk=>true
 |_=>false
theorem QDr {H:Type}{enc:TypeId×Value->H}{P:Program}{E:Env}(hT:Xt P E) (hE:EnvCode P E) (hLo:EnvLoops E) (hmix:P.follows .mixedOrders=true) (hB:∀T,rdB P E.ty T (E.ty T)=true) {f:Nat}(hf:E.fok f=true)
 {tys:Tys}(ht:(E.sig f).ins=tys) {m:Mode}(hrs:(E.sig f).rs=[.val false [(m, .bool)]]) (hm:m.QnM=false) (hto:(E.sig f).outs= .cons .bool .nil) (pure:∀a:Qe tys,Vn tys a->ap (congrArg Qe ht) (congrArg Qe hto) (W E) a=some (show Qe (.cons .bool .nil)from true))
 {w:World}{sp:Nat->Bool}{held:Bool}{Ts:List TypeId}(hlaw:QuA E.ty Ts (E.sig f).ps=true) {vs:List Value}{ds:List (DataW H)}{p:List MemPlace}(htr:DataW.TrodAll enc P w 0 sp held Ts vs ds p) {base:Nat}(hval:∀(j:Nat) t v,Ts[j]? =some t->vs[j]? =some v->Value.okWide P w .any base t v) (hgl:E.gg.gl w) (hgb:∀b∈E.gg.gb,b<w.heap.size):
 Calls P (E.real f) vs.toArray w fun e w'=>e= .returned (.bool true)/\Below w.heap.size w w':=by
 subst ht
 obtain⟨a,ha,bls,hbls,hin⟩:=Qrq (R:=fun b=>b<w.heap.size) (fun b h=>h) hB Ts _ vs ds p hlaw htr hval
 have hs:=QAl hT hE hLo hmix hf _ _ (pure a ha)
 refine(hs w (fun b=>b<w.heap.size) vs [] bls hgl hgb hin (by simp[hbls]) (by simp[hbls]) (fun b hb=>⟨hb,by simp[hbls]⟩)).mono ?_
 rintro e w' ⟨v,rfl,hgrow,rx,px,rvs,rbs,rbls,pbls,Q,h1,h2,h3,_⟩
 rw[hbls]at hgrow
 refine⟨?_,Qym hgrow⟩
 have hu:unpack (E.sig f).outs (cast (congrArg Qe hto).symm (show Qe (.cons .bool .nil)from true))=[⟨.bool,true⟩]:=by
  have:∀(ts:Tys) (h:ts= .cons .bool .nil),unpack ts (cast (congrArg Qe h).symm (show Qe (.cons .bool .nil)from true))=[⟨.bool,true⟩]:=by
   intro ts h;subst h;rfl
  exact this _ hto
 rw[hu]at h1
 rw[hrs]at h3
 obtain⟨x1,x2,v1,vs',b1,b2,l1,l2,e1,e2,_,_,⟨_,us,hus,hc⟩,hrest⟩:=h3
 obtain⟨e3,e4,_,_⟩:=hrest
 have hus:us=[v1]:=hus
 subst hus e4 e2 e3 h2
 have hfin:∀(x:TV) (xs':List TV) (u:Value) (us':List Value) (bl:List Nat),x1=x::xs'->[v]=u::us'->YA w' Q m .bool x u bl->v= .bool true:=by
  intro x xs' u us' bl hx hu' ⟨ht,hc⟩
  have:takes m .bool=false:=rfl
  rw[this]at hc
  obtain⟨_,b',hr,_⟩:=hc
  cases hu'
  rw[e1,hx]at h1
  simp only[QRv,List.append_nil]at h1
  obtain⟨rfl,_⟩:=List.cons.inj h1
  exact hr.1
 have:v= .bool true:=by
  cases m
  case junk=>cases hm
  all_goals
   obtain⟨x,xs',u,us',bl,bls',q1,q2,_,q3,_⟩:=hc
   exact hfin x xs' u us' bl q1 q2 q3
 rw[this]
end Go.Eng
namespace Go.Eng
open Go Go.RowKit
set_option linter.unusedVariables false
def ti0:TI:=⟨false,false, .nil,0,0,[],false⟩
theorem QDl {P:Program}{ty:BT TI}(h:ty.all (rdB P (ty.get ti0))=true) (T:Nat):rdB P (ty.get ti0) T (ty.get ti0 T)=true:=by
 rcases BT.QdO (d:=ti0) ty h T with h|h
 ·exact h
 ·rw[h];rfl
theorem QEd {P:Program}{ty:BT TI}(h:ty.all (fun _ i=> !i.eqOk)=true) (T:Nat):Qy0 P T (ty.get ti0 T):=by
 intro he
 rcases BT.QdO (d:=ti0) ty h T with h|h
 ·rw[he]at h;cases h
 ·rw[h]at he;cases he
theorem BT.Qpn {α:Type}{f:Nat->α->Bool}{p:Nat->α->Prop}(hp:∀k v,f k v=true->p k v):(t:BT α)->t.all f=true->t.Qkf p
 | .leaf,_=>trivial
 | .node k v l r,h=>by
   simp only[BT.all,QQ5]at h
   exact⟨hp k v h.1.1,BT.Qpn hp l h.1.2,BT.Qpn hp r h.2⟩
theorem QyK {t:BT Func}(h:t.all (fun _ fn=> !(fn.name== "runtime.NumGoroutine"))=true):t.Qkf fun _ fn=>(fn.name== "runtime.NumGoroutine")=false:=
 BT.Qpn (fun _ _ h=>by simpa using h) t h
end Go.Eng
namespace Go.Eng
open Go
theorem w64 {n:Int}(h1: -9223372036854775808<=n) (h2:n<=9223372036854775807):wR n=n:=IntWalk.i64_in n ⟨h1,h2⟩
theorem QAq (i n:Nat):inb (i:Int) n=decide (i<n):=by
 unfold inb
 by_cases h:i<n
 ·simp[h]
 ·simp[h]
theorem Ql {i n:Nat}(h:i<n):inb (i:Int) n=true:=by rw[QAq];simpa using h
theorem Qi {α:Type}{d:α}{xs:List α}{i:Nat}(h:i<xs.length):rd1 d xs (i:Int)=xs[i]:=by
 unfold rd1
 rw[QRb]
 simp[List.getD,QRp h]
theorem ilt {i n:Nat}(h:i<n):decide ((i:Int)<(n:Int))=true:=by simp[h]
theorem Qs (n:Nat):decide ((n:Int)<(n:Int))=false:=by simp
theorem inc {i n:Nat}(h:i<n) (hn:n<=maxLen):wR ((i:Int)+1)=((i+1:Nat):Int):=by
 rw[w64]<;>simp[maxLen]at hn<;>omega
theorem QF {n b:Nat}(h:n*b<=140737488351232):fits n b=true:=by simp[fits,h]
theorem Qxb {α:Type}{b:Bool}{x y:α}(h:b=true):(bif b then x else y)=x:=by rw[h];rfl
theorem YV {α β R:Type}(xs:List α) (f:α->β) (K:Nat->List β->Option R) (fin:List β->R)
 (hstep:∀i (h:i<xs.length) (out:List β) r,out.length=xs.length->K (i+1) (out.set i (f xs[i]))=some r->K i out=some r)
 (hend:∀out:List β,out.length=xs.length->K xs.length out=some (fin out)) (out:List β) (ho:out.length=xs.length):K 0 out=some (fin (xs.map f)):=by
 have main:∀n i (out:List β),i+n=xs.length->out.length=xs.length->out.take i=(xs.map f).take i->K i out=some (fin (xs.map f)):=by
  intro n
  induction n with
  |zero=>
   intro i out hi ho ht
   have:i=xs.length:=by omega
   subst this
   rw[hend out ho]
   rw[List.take_of_length_le (by omega),List.take_of_length_le (by simp)]at ht
   rw[ht]
  |succ n ih=>
   intro i out hi ho ht
   refine hstep i (by omega) out _ ho (ih (i+1) _ (by omega) (by simp[ho]) ?_)
   rw[List.take_add_one,List.take_add_one,List.take_set_of_le (Nat.le_refl i),ht,List.getElem?_set_self (by omega)]
   simp[show i<xs.length by omega]
 exact main xs.length 0 out (by omega) ho (by simp)
theorem Qs2 (b:ByteArray):∀n i (r:List UInt8),i+n=b.size->ByteArray.toList.loop b i r=r.reverse++b.data.toList.drop i:=by
 intro n
 induction n with
 |zero=>
  intro i r hi
  unfold ByteArray.toList.loop
  have hs:b.data.toList.length=b.size:=Array.length_toList
  rw[if_neg (by omega),List.drop_of_length_le (by omega),List.append_nil]
 |succ n ih=>
  intro i r hi
  unfold ByteArray.toList.loop
  rw[if_pos (by omega),ih (i+1) _ (by omega)]
  have hs0:b.data.toList.length=b.size:=Array.length_toList
  have hs:i<b.data.toList.length:=by omega
  rw[QRa hs]
  have:b.get! i=b.data.toList[i]:=by
   have hsz:i<b.data.size:=by simpa using hs
   show b.data[i]! =_
   rw[getElem!_pos b.data i hsz]
   simp
  rw[this]
  simp
theorem toList_data (b:ByteArray):b.toList=b.data.toList:=by
 unfold ByteArray.toList
 rw[Qs2 b b.size 0 [] (by omega)]
 simp
theorem QhA (a b:ByteArray):Xm a b=decide (a=b):=by
 unfold Xm
 rw[toList_data,toList_data]
 by_cases h:a=b
 ·subst h;simp
 ·have:¬a.data.toList=b.data.toList:=fun e=>h (by
   cases a;cases b
   exact congrArg ByteArray.mk (Array.toList_inj.1 e))
  rw[decide_eq_false h]
  exact beq_eq_false_iff_ne.2 this
theorem Qt2 {α:Type} [DecidableEq α] (a b:List α) (hl:a.length=b.length) (K:Nat->Option (Bool⊕Unit))
 (hne:∀i (h1:i<a.length) (h2:i<b.length),a[i]≠b[i]->K i=some (.inl false))
 (heq:∀i (h1:i<a.length) (h2:i<b.length) r,a[i]=b[i]->K (i+1)=some r->K i=some r)
 (hend:K a.length=some (.inr ())):K 0=some (if a=b then .inr ()else .inl false):=by
 have main:∀n i,i+n=a.length->K i=some (if a.drop i=b.drop i then .inr ()else .inl false):=by
  intro n
  induction n with
  |zero=>
   intro i hi
   have:i=a.length:=by omega
   subst this
   rw[hend,QRl,hl,QRl,if_pos rfl]
  |succ n ih=>
   intro i hi
   have h1:i<a.length:=by omega
   have h2:i<b.length:=by omega
   rw[QRa h1,QRa h2]
   by_cases hx:a[i]=b[i]
   ·refine heq i h1 h2 _ hx ?_
    rw[ih (i+1) (by omega),hx]
    simp only[List.cons.injEq,true_and]
   ·rw[hne i h1 h2 hx]
    simp only[List.cons.injEq,hx,false_and,if_false]
 have:=main a.length 0 (by omega)
 simpa only[QRg]using this
def Jf {α:Type}(c:α->Nat):List α->Nat
 | []=>0
 |x::l=>c x+Jf c l
def szR (n:Nat) (l:Int):Int⊕Int:=if(n:Int)<=l then .inr (l - n)else .inl (-1)
theorem Qpe {n:Nat}{l:Int}(h:(n:Int)<=l):szR n l= .inr (l - n):=if_pos h
theorem Qpa {n:Nat}{l:Int}(h:¬(n:Int)<=l):szR n l= .inl (-1):=if_neg h
theorem QwI {α:Type}(c:α->Nat) (x:α) (l:List α):Jf c (x::l)=c x+Jf c l:=rfl
theorem QdL {α:Type}(s:α->Nat) (xs:List α) (K:Int->Nat->Option (Int⊕Int)) (B:Int)
 (hin:∀l i (h:i<xs.length) r,0<=l->l<=B->(s xs[i]:Int)<=l->K (l - s xs[i]) (i+1)=some r->K l i=some r)
 (hout:∀l i (h:i<xs.length),0<=l->l<=B->¬(s xs[i]:Int)<=l->K l i=some (.inl (-1)))
 (hend:∀l,K l xs.length=some (.inr l)) (l:Int) (h0:0<=l) (hB:l<=B):K l 0=some (szR (Jf s xs) l):=by
 have main:∀(n i:Nat) (l:Int),i+n=xs.length->0<=l->l<=B->K l i=some (szR (Jf s (xs.drop i)) l):=by
  intro n
  induction n with
  |zero=>
   intro i l hi h0 hB
   have:i=xs.length:=by omega
   subst this
   rw[hend,QRl,Qpe (show((Jf s []:Nat):Int)<=l from h0)]
   simp[Jf]
  |succ n ih=>
   intro i l hi h0 hB
   have h1:i<xs.length:=by omega
   rw[QRa h1,QwI]
   by_cases hs:(s xs[i]:Int)<=l
   ·refine hin l i h1 _ h0 hB hs ?_
    rw[ih (i+1) _ (by omega) (by omega) (by omega)]
    by_cases h2:(Jf s (xs.drop (i+1)):Int)<=l - s xs[i]
    ·rw[Qpe h2,Qpe (by omega)];congr 2;omega
    ·rw[Qpa h2,Qpa (by omega)]
   ·rw[hout l i h1 h0 hB hs,Qpa (by omega)]
 have:=main xs.length 0 l (by omega) h0 hB
 simpa only[QRg]using this
end Go.Eng
namespace Go.Eng
open Go
theorem Zs {α:Type}(c:α->Nat):(l:List α)->(i:Nat)->(h:i<l.length)->c l[i]<=Jf c l
 |x::l,0,_=>by simp[Jf]
 |x::l,i+1,h=>by
  have:=Zs c l i (by simpa using h)
  simp only[List.getElem_cons_succ,Jf];omega
theorem Qyb {α:Type}(c:α->Nat) {l:List α}{x:α}(h:x∈l):c x<=Jf c l:=by
 obtain⟨i,hi,rfl⟩:=List.mem_iff_getElem.1 h
 exact Zs c l i hi
def szI (n:Nat) (l:Int):Int:=if(n:Int)<=l then l - n else -1
theorem YR {n:Nat}{l:Int}(h:(n:Int)<=l):szI n l=l - n:=if_pos h
theorem Yf {n:Nat}{l:Int}(h:¬(n:Int)<=l):szI n l= -1:=if_neg h
theorem QaA (n:Nat) (l:Int):Qo (szR n l) (fun u=>some u) (fun z=>some z)=some (szI n l):=by
 unfold szR szI;split<;>rfl
theorem Y5 {R:Type}(n:Nat) (K:Nat->Option R) (o:R) (hstep:∀i,i<n->∀r,K (i+1)=some r->K i=some r) (hend:K n=some o):K 0=some o:=by
 have main:∀m i,i+m=n->K i=some o:=by
  intro m
  induction m with
  |zero=>intro i hi;have:i=n:=by omega
         rw[this];exact hend
  |succ m ih=>intro i hi;exact hstep i (by omega) _ (ih (i+1) (by omega))
 exact main n 0 (by omega)
theorem df {p:Prop} [Decidable p] (h:¬p):decide p=false:=decide_eq_false h
theorem dt {p:Prop} [Decidable p] (h:p):decide p=true:=decide_eq_true h
theorem QZ (a:ByteArray):Xm a a=true:=by rw[QhA];simp
theorem X7 {n m:Nat}{l:Int}{X:Option Int}{f:Int->Option Int}(h0:0<=l) (hX:X=some (szI n l)) (hf:(n:Int)<=l->f (l - n)=some (szI m (l - n))):(X.bind fun r=>bif decide (r<0)then some (-1)else f r)=some (szI (n+m) l):=by
 rw[hX,QQ0]
 by_cases h:(n:Int)<=l
 ·rw[YR h,df (by omega),QQ2,hf h]
  by_cases h2:(m:Int)<=l - n
  ·rw[YR h2,YR (by omega)];congr 1;omega
  ·rw[Yf h2,Yf (by omega)]
 ·rw[Yf h,dt (by omega),QQ1,Yf (by omega)]
theorem Z7 {l:Int}(h:0<=l):some l=some (szI 0 l):=by rw[YR (by simpa using h)];simp
theorem Js {n m:Nat}{l:Int}{f:Option Int}(h0:0<=l) (hB:l<=1048576) (hn:n<=maxLen) (hf:(n:Int)<=l->f=some (szI m (l - n))):(bif decide (wR (l - n)<0)then some (-1)else f)=some (szI (n+m) l):=by
 simp only[maxLen]at hn
 rw[w64 (by omega) (by omega)]
 by_cases h:(n:Int)<=l
 ·rw[df (by omega),QQ2,hf h]
  by_cases h2:(m:Int)<=l - n
  ·rw[YR h2,YR (by omega)];congr 1;omega
  ·rw[Yf h2,Yf (by omega)]
 ·rw[dt (by omega),QQ1,Yf (by omega)]
theorem QX {R:Type}(n:Nat) (K:Nat->Option R) (M:Nat->R) (hstep:∀i,i<n->K (i+1)=some (M (i+1))->K i=some (M i)) (hend:K n=some (M n)):K 0=some (M 0):=by
 have main:∀m i,i+m=n->K i=some (M i):=by
  intro m
  induction m with
  |zero=>intro i hi;have:i=n:=by omega
         rw[this];exact hend
  |succ m ih=>intro i hi;exact hstep i (by omega) (ih (i+1) (by omega))
 exact main n 0 (by omega)
theorem Q3 {S R:Type}(n:Nat) (K:Nat->S->Option R) (M:Nat->S->R) (Inv:Nat->S->Prop) (hstep:∀i,i<n->∀s,Inv i s->(∀s',Inv (i+1) s'->K (i+1) s'=some (M (i+1) s'))->K i s=some (M i s)) (hend:∀s,Inv n s->K n s=some (M n s)) (s:S) (hs:Inv 0 s):K 0 s=some (M 0 s):=by
 have main:∀m i,i+m=n->∀s,Inv i s->K i s=some (M i s):=by
  intro m
  induction m with
  |zero=>intro i hi s hs;have:i=n:=by omega
         subst this;exact hend s hs
  |succ m ih=>intro i hi s hs;exact hstep i (by omega) s hs (ih (i+1) (by omega))
 exact main n 0 (by omega) s hs
theorem QjB {i:Nat}(h:0<i) (hn:i<=maxLen):wR ((i:Int) - 1)=((i - 1:Nat):Int):=by
 simp only[maxLen]at hn
 rw[w64 (by omega) (by omega)];omega
theorem ipos {i:Nat}(h:0<i):decide ((0:Int)<(i:Int))=true:=by simp[h]
theorem QiD:decide ((0:Int)<((0:Nat):Int))=false:=by simp
theorem Qm1 {β:Type}{i n:Nat}(h:i<n) (f:Nat->List β):(List.range' i (n - i)).flatMap f=f i++(List.range' (i+1) (n - (i+1))).flatMap f:=by
 rw[show n - i=(n - (i+1))+1 by omega,List.range'_succ]
 simp
end Go.Eng
namespace Go.Eng
open Go
end Go.Eng
namespace Go.Eng
open Go Go.RowKit
set_option linter.unusedVariables false
def Qu7:PSig->Bool
 | .val false [(.ro,_)]=>true
 |_=>false
def Qvp (w:World) (R:Nat->Prop):List TV->List Value->Prop
 | [],[]=>True
 |x::xs,v::vs=>(∃b,Rep w x.t x.v v b/\∀c∈b,R c)/\Qvp w R xs vs
 |_,_=>False
theorem QtQ {w:World}{R:Nat->Prop}:(ps:List PSig)->(xs:List TV)->(vs:List Value)->(bs:List Nat)->(bls:List (List Nat))->ps.all Qu7=true->zQ w R ps xs vs bs bls->bs=[]/\bls.flatten=[]/\Qvp w R xs vs/\∀w',Qeq w w' ps vs [] []
 | [],xs,vs,bs,bls,_,⟨h1,h2,h3,h4⟩=>by
   subst h1 h2 h3 h4
   exact⟨rfl,rfl,trivial,fun _=>⟨rfl,rfl,rfl⟩⟩
 |p::ps,xs,vs,bs,bls,hp,⟨x1,x2,v,vs',b1,b2,l1,l2,h1,h2,h3,h4,h5,h6⟩=>by
  simp only[List.all_cons,QQ5]at hp
  obtain⟨e1,e2,e3,e4⟩:=QtQ ps x2 vs' b2 l2 hp.2 h6
  have hp1:=hp.1
  unfold Qu7 at hp1
  split at hp1
  ·rename_i t
   obtain⟨g1,us,g2,x,xs',u,us',bl,bls',k1,k2,k3,⟨k4,k5⟩,k6,k7,k8⟩:=h5
   subst g1 k1 k2 k3 k6 k7 k8 h1 h2 h3 h4
   have g2: [u]=[v]:=g2
   cases g2
   have k5:bl=[]/\∃b',Rep w x.t x.v v b'/\∀c∈b',R c:=by
    have:takes .ro t=false:=by simp[takes,Mode.QG]
    rw[this]at k5;exact k5
   obtain⟨rfl,b',q1,q2⟩:=k5
   refine⟨by simpa using e1,by simpa using e2,⟨⟨b',q1,q2⟩,e3⟩,fun w'=> ?_⟩
   exact⟨v,vs',[],[],[],[],rfl,rfl,rfl,⟨[v],rfl,v,[],rfl,rfl,rfl,rfl⟩,e4 w'⟩
  ·cases hp1
theorem Qt6 {P:Program}{gg:Glob}{f:FuncId}{sg:Sig}{ins outs:List TV}(hps:sg.ps.all Qu7=true)
 (hF:∀(w:World) (R:Nat->Prop) vs,gg.gl w->(∀b,R b->b<w.heap.size)->Qvp w R ins vs->Calls P f vs.toArray w fun e w'=>∃rvs rbls,e= .returned (QlD rvs)/\Below w.heap.size w w'/\ZB w' (fun _=>False) sg.rs outs rvs [] rbls/\rbls.flatten.Nodup/\∀b∈rbls.flatten,w.heap.size<=b/\b<w'.heap.size):
 qJ P gg sg f ins outs:=by
 intro w R vs bs bls hgl hgb hin hnd hlt hR
 obtain⟨rfl,e2,e3,e4⟩:=QtQ _ _ _ _ _ hps hin
 refine(hF w R vs hgl (fun b hb=>(hR b hb).1) e3).mono ?_
 rintro e w' ⟨rvs,rbls,rfl,hB,hO,hN,hL⟩
 refine⟨_,rfl,⟨hB.os,hB.tape,hB.output,hB.size,fun k hk _=>hB.block k hk⟩,outs,[],rvs,[],rbls,[],fun _=>False,by simp,rfl,hO,e4 w',by simpa using hN,fun b hb=> ?_,fun b hb=>hb.elim⟩
 have hb':b∈rbls.flatten:=by simpa using hb
 exact⟨(hL b hb').2, .inr (hL b hb').1,by simp⟩
theorem Qp4 {w:World}{m:Mode}{t:Ty}{x:Val t}{v:Value}(hm:m.QnM=false) (ht:Qz t=false) (hr:Rep w t x v []):ZB w (fun _=>False) [.val false [(m,t)]] [⟨t,x⟩] [v] [] [[]]:=by
 have hc:YA w (fun _=>False) m t ⟨t,x⟩ v []:=⟨rfl,by
  have:takes m t=false:=by simp[takes,ht]
  rw[this];exact⟨rfl,[],hr,by simp⟩⟩
 refine⟨[⟨t,x⟩],[],v,[],[],[],[[]],[],rfl,rfl,rfl,rfl,⟨rfl,[v],rfl, ?_⟩,rfl,rfl,rfl,rfl⟩
 cases m
 case junk=>cases hm
 all_goals exact⟨_,_,_,_,_,_,rfl,rfl,rfl,hc,rfl,rfl,rfl⟩
theorem QyL {P:Program}{gg:Glob}{f:FuncId}{sg:Sig}{k:IntKind}{m3:Mode}(hps:sg.ps=[.val false [(.ro, .int k)]]) (hrs:sg.rs=[.val false [(m3, .str)]]) (h3:m3.QnM=false) (n:Int) (s:ByteArray)
 (hF:∀w,gg.gl w->Calls P f #[.int k n] w fun e w'=>e= .returned (.string s)/\Below w.heap.size w w'):
 qJ P gg sg f [⟨.int k,n⟩] [⟨.str,s⟩]:=by
 refine Qt6 (by rw[hps];rfl) fun w R vs hgl _ ha=> ?_
 match vs,ha with
 | [v],⟨⟨b,hr,_⟩,_⟩=>
   obtain⟨rfl,rfl⟩:=hr
   refine(hF w hgl).mono ?_
   rintro e w' ⟨rfl,hB⟩
   exact⟨[.string s],[[]],rfl,hB,by rw[hrs];exact Qp4 h3 rfl ⟨rfl,rfl⟩,by simp,by simp⟩
end Go.Eng
namespace Go.Eng
open Go Go.RowKit
set_option linter.unusedVariables false
theorem Qw5 {P:Program}{gg:Glob}{f:FuncId}{sg:Sig}{m3:Mode}(hps:sg.ps=[.val false [(.ro, .sl (.cons .str .nil))], .val false [(.ro, .str)]]) (hrs:sg.rs=[.val false [(m3, .str)]]) (h3:m3.QnM=false) (xs:List ByteArray) (sep r:ByteArray)
 (h0:xs=[]->∀w ad c,gg.gl w->Calls P f #[.slice ad 0 c, .string sep] w fun e w'=>e= .returned (.string r)/\Below w.heap.size w w')
 (h1:∀w bk o c,gg.gl w->(∀(j:Nat) x,xs[j]? =some x->w.cell? ⟨bk,o+j,none⟩=some (.string x))->bk<w.heap.size->xs.length<=c->Calls P f #[.slice (some ⟨bk,o,none⟩) xs.length c, .string sep] w fun e w'=>e= .returned (.string r)/\Below w.heap.size w w'):
 qJ P gg sg f [⟨.sl (.cons .str .nil),(show Val (.sl (.cons .str .nil))from xs)⟩,⟨.str,sep⟩] [⟨.str,r⟩]:=by
 refine Qt6 (by rw[hps];rfl) fun w R vs hgl hR ha=> ?_
 match vs,ha with
 | [v,v'],⟨⟨c,hr,hc⟩,⟨c',hr',_⟩,_⟩=>
   obtain⟨rfl,rfl⟩:=hr'
   have hfin:Calls P f #[v, .string sep] w fun e w'=>e= .returned (.string r)/\Below w.heap.size w w':=by
    obtain⟨ad,cap,hv,⟨hcap,_⟩,hcells⟩:=hr
    have hv:v= .slice ad xs.length cap:=hv
    have hcap:xs.length<=cap:=hcap
    subst hv
    rcases hcells with⟨he,_⟩|⟨a,bls,rfl,rfl,hl,hi⟩
    ·have he:xs=[]:=he
     have:=h0 he w ad cap hgl
     rw[he];exact this
    ·have hl:bls.length=xs.length:=hl
     have hcell:∀(j:Nat) x,xs[j]? =some x->w.cell? (a.add j)=some (.string x):=fun j x hx=>by
      have hj:j<xs.length:=(QRq.1 hx).1
      obtain⟨b,hb⟩:∃b,bls[j]? =some b:=⟨bls[j]'(by omega),QRp (by omega)⟩
      obtain⟨us,g1,u,us',b1,b2,g2,_,⟨g3,_⟩,_⟩:=hi j x b hx hb
      have:=g1 0 u (by rw[g2];rfl)
      rw[g3]at this
      have e:w.cell? (a.add j)=some (.string (vhd (t:= .str) (ts:= .nil) (show Qe (.cons .str .nil)from x))):=by simpa[Tys.len]using this
      exact e
     by_cases hx:xs=[]
     ·have:=h0 hx w (some a) cap hgl
      rw[hx];exact this
     ·obtain⟨x,hx0⟩:∃x,xs[0]? =some x:=⟨xs[0]'(List.length_pos_iff.2 hx),QRp _⟩
      have hs:a.spot=none:=by
       have:=World.cell?_spot (hcell 0 x hx0)
       simpa[Addr.add]using this
      obtain⟨bk,o,sp⟩:=a
      simp only at hs
      subst hs
      refine h1 w bk o cap hgl (fun j x hx=> ?_) (hR _ (hc _ (by simp))) hcap
      have:=hcell j x hx
      unfold Addr.add at this
      by_cases hj:j=0
      ·subst hj;simpa using this
      ·rw[if_neg hj]at this;exact this
   refine hfin.mono ?_
   rintro e w' ⟨rfl,hB⟩
   exact⟨[.string r],[[]],rfl,hB,by rw[hrs];exact Qp4 h3 rfl ⟨rfl,rfl⟩,by simp,by simp⟩
end Go.Eng
