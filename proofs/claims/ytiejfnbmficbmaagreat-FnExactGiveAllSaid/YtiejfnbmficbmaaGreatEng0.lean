/- A meaning of the translated functions in plain typed values, and its soundness, part 0. No conditions. -/
import Derived.Calls
import Derived.KernelRfl
import Derived.Laws.World
import Derived.Laws.Sem
import Derived.Laws.AppendOwn
import Derived.Orders
import Derived.Laws.CopyRow
set_option linter.all false
namespace Go.Eng
theorem QQ0 {α β:Type _}(a:α) (f:α→Option β):(some a).bind f=f a:=rfl
theorem QQ1 {α:Sort _}{a b:α}:cond true a b=a:=rfl
theorem QQ2 {α:Sort _}{a b:α}:cond false a b=b:=rfl
theorem QQ3:(!true)=false:=rfl
theorem QQ4:(!false)=true:=rfl
theorem QQ5 (a b:Bool):((a&&b)=true)=(a=true∧b=true):=_root_.Bool.and_eq_true a b
theorem QQ6:((0:Nat):Int)=0:=rfl
theorem QY0:type_of% @Sum.elim_inr:= @Sum.elim_inr
theorem QY1:type_of% @List.length_cons:= @List.length_cons
theorem QY2:type_of% @Nat.le_refl:= @Nat.le_refl
theorem QY3:type_of% @Nat.add_zero:= @Nat.add_zero
theorem QY4:type_of% @List.nodup_cons:= @List.nodup_cons
theorem QY5:type_of% @List.nodup_nil:= @List.nodup_nil
theorem QY6:type_of% @List.length_nil:= @List.length_nil
theorem QY7:type_of% @List.length_drop:= @List.length_drop
theorem QY8:type_of% @List.flatMap_cons:= @List.flatMap_cons
theorem QY9:type_of% @List.mem_flatten:= @List.mem_flatten
theorem QY10:type_of% @Option.some.inj:= @Option.some.inj
theorem QY11:type_of% @List.append_nil:= @List.append_nil
theorem QY12:type_of% @List.length_set:= @List.length_set
theorem QY13:type_of% @Bool.and_false:= @Bool.and_false
theorem QY14:type_of% @Bool.not_eq_true':= @Bool.not_eq_true'
theorem QY15:type_of% @Nat.beq_eq:= @Nat.beq_eq
theorem QY16:type_of% @Nat.mul_le_mul_right:= @Nat.mul_le_mul_right
theorem QY17:type_of% @Nat.le_trans:= @Nat.le_trans
theorem QY18:type_of% @List.mem_map:= @List.mem_map
theorem QY19:type_of% @Nat.add_assoc:= @Nat.add_assoc
theorem QY20:type_of% @List.set_set:= @List.set_set
theorem QY21:type_of% @List.flatten_append:= @List.flatten_append
theorem QY22:type_of% @List.mem_of_getElem? := @List.mem_of_getElem?
theorem QY23:type_of% @List.Sublist.refl:= @List.Sublist.refl
theorem QY24:type_of% @List.map_cons:= @List.map_cons
theorem QY25:type_of% @Nat.succ_mul:= @Nat.succ_mul
theorem QY26:type_of% @List.length_take:= @List.length_take
theorem QY27:type_of% @List.any_eq_true:= @List.any_eq_true
theorem QY28:type_of% @List.Sublist.append:= @List.Sublist.append
theorem QY29:type_of% @List.all_cons:= @List.all_cons
theorem QY30:type_of% @Option.map_map:= @Option.map_map
theorem QY31:type_of% @List.sublist_append_right:= @List.sublist_append_right
theorem QY32:type_of% @Bool.or_eq_true:= @Bool.or_eq_true
theorem QY33:type_of% @Nat.lt_succ_self:= @Nat.lt_succ_self
theorem QY34:type_of% @Classical.byContradiction:= @Classical.byContradiction
theorem QY35:type_of% @List.filter_cons:= @List.filter_cons
theorem QY36:type_of% @Int.tdiv_eq_ediv_of_nonneg:= @Int.tdiv_eq_ediv_of_nonneg
theorem QY37:type_of% @List.length_singleton:= @List.length_singleton
theorem QY38:type_of% @List.mem_or_eq_of_mem_set:= @List.mem_or_eq_of_mem_set
theorem QY39:type_of% @List.getElem?_append_right:= @List.getElem?_append_right
theorem QY40:type_of% @Array.getElem?_setIfInBounds:= @Array.getElem?_setIfInBounds
theorem QRa:type_of% @List.drop_eq_getElem_cons:= @List.drop_eq_getElem_cons
theorem QRb:type_of% @Int.toNat_natCast:= @Int.toNat_natCast
theorem QRc:type_of% @List.append_assoc:= @List.append_assoc
theorem QRd:type_of% @Bool.true_and:= @Bool.true_and
theorem QRe:type_of% @List.nil_append:= @List.nil_append
theorem QRf:type_of% @List.getElem_mem:= @List.getElem_mem
theorem QRg:type_of% @List.drop_zero:= @List.drop_zero
theorem QRh:type_of% @List.mem_append:= @List.mem_append
theorem QRi:type_of% @List.nodup_append:= @List.nodup_append
theorem QRj:type_of% @List.length_append:= @List.length_append
theorem QRk:type_of% @List.mem_cons:= @List.mem_cons
theorem QRl:type_of% @List.drop_length:= @List.drop_length
theorem QRm:type_of% @Bool.false_and:= @Bool.false_and
theorem QRn:type_of% @Bool.and_true:= @Bool.and_true
theorem QRo:type_of% @Nat.zero_add:= @Nat.zero_add
theorem QRp:type_of% @List.getElem?_eq_getElem:= @List.getElem?_eq_getElem
theorem QRq:type_of% @List.getElem?_eq_some_iff:= @List.getElem?_eq_some_iff
theorem QRr:type_of% @List.flatten_cons:= @List.flatten_cons
theorem QRs:type_of% @Option.map_eq_some_iff:= @Option.map_eq_some_iff
theorem QRt:type_of% @List.all_eq_true:= @List.all_eq_true
theorem QRu:type_of% @decide_eq_true_eq:= @decide_eq_true_eq
theorem QRv:type_of% @List.cons_append:= @List.cons_append
theorem QRw:type_of% @Bool.false_eq_true:= @Bool.false_eq_true
theorem QRx:type_of% @List.eq_nil_of_length_eq_zero:= @List.eq_nil_of_length_eq_zero
open Go
abbrev wR (n:Int):Int:=IntKind.wrap .i64 n
mutual
inductive Ty where
 |int (k:IntKind)|bool|str|sl (ts:Tys)
inductive Tys where
 |nil|cons (t:Ty) (ts:Tys)
end
mutual
def Val:Ty->Type
 | .int _=>Int
 | .bool=>Bool
 | .str=>ByteArray
 | .sl ts=>List (Qm ts)
def Qm:Tys->Type
 | .nil=>Unit
 | .cons t .nil=>Val t
 | .cons t (.cons u us)=>Val t×Qm (.cons u us)
end
def vhd: {t:Ty}-> {ts:Tys}->Qm (.cons t ts)->Val t
 |_, .nil,x=>x
 |_, .cons _ _,x=>x.1
def vtl: {t:Ty}-> {ts:Tys}->Qm (.cons t ts)->Qm ts
 |_, .nil,_=>()
 |_, .cons _ _,x=>x.2
def vmk: {t:Ty}-> {ts:Tys}->Val t->Qm ts->Qm (.cons t ts)
 |_, .nil,a,_=>a
 |_, .cons _ _,a,b=>(a,b)
mutual
def Ty.eq? :(a b:Ty)->Option (PLift (a=b))
 | .int k, .int k'=>if h:k=k' then some ⟨h▸rfl⟩else none
 | .bool, .bool=>some ⟨rfl⟩
 | .str, .str=>some ⟨rfl⟩
 | .sl ts, .sl us=>match Tys.eq? ts us with|some ⟨h⟩=>some ⟨h▸rfl⟩|none=>none
 |_,_=>none
def Tys.eq? :(a b:Tys)->Option (PLift (a=b))
 | .nil, .nil=>some ⟨rfl⟩
 | .cons t ts, .cons u us=>match Ty.eq? t u,Tys.eq? ts us with|some ⟨h⟩,some ⟨h'⟩=>some ⟨h▸h'▸rfl⟩|_,_=>none
 |_,_=>none
end
structure TV where
 t:Ty
 v:Val t
def TV.as (x:TV) (t:Ty):Option (Val t):=match Ty.eq? x.t t with|some ⟨h⟩=>some (h▸x.v)|none=>none
mutual
def Ty.zero:(t:Ty)->Val t
 | .int _=>(0:Int)
 | .bool=>false
 | .str=>ByteArray.empty
 | .sl _=>[]
def Tys.zero:(ts:Tys)->Qm ts
 | .nil=>()
 | .cons t .nil=>Ty.zero t
 | .cons t (.cons u us)=>(Ty.zero t,Tys.zero (.cons u us))
end
def Tys.len:Tys->Nat
 | .nil=>0
 | .cons _ ts=>ts.len+1
def Tys.flat:Tys->Bool
 | .nil=>true
 | .cons (.sl _) _=>false
 | .cons _ ts=>ts.flat
def Tys.app:Tys->Tys->Tys
 | .nil,us=>us
 | .cons t ts,us=> .cons t (ts.app us)
def Tys.get? :Tys->Nat->Option Ty
 | .nil,_=>none
 | .cons t _,0=>some t
 | .cons _ ts,n+1=>ts.get? n
def unpack:(ts:Tys)->Qm ts->List TV
 | .nil,_=>[]
 | .cons t ts,x=>⟨t,vhd x⟩::unpack ts (vtl x)
def pack:(ts:Tys)->List TV->Option (Qm ts)
 | .nil,[]=>some ()
 | .cons t ts,x::xs=>match x.as t,pack ts xs with|some a,some b=>some (vmk a b)|_,_=>none
 |_,_=>none
def YP:(ts:Tys)->Qm ts->Nat->TV->Option (Qm ts)
 | .nil,_,_,_=>none
 | .cons t _,x,0,y=>match y.as t with|some a=>some (vmk a (vtl x))|none=>none
 | .cons _ ts,x,n+1,y=>match YP ts (vtl x) n y with|some b=>some (vmk (vhd x) b)|none=>none
def rdx (ts:Tys) (xs:List (Qm ts)) (i:Int):Qm ts:=xs.getD i.toNat (Tys.zero ts)
def inb (i:Int) (n:Nat):Bool:=decide (0<=i/\i<(n:Int))
structure Pl where
 r:Nat
 k:Nat
 id:Nat
 nv:Nat
 nest:Option (Int×Nat)
 rng:Option (Int×Int)
inductive VC where
 |sc (x:TV)|ro (x:TV)|nilS|vw (p:Pl)|bad
inductive Cell where
 |dead
 |und
 |fn (g:Nat) (caps:List (Nat×Nat×Nat))
 |val (agg:Bool) (vs:List VC)
 |tup (cs:List (Bool×List VC))
 |ptr (r off g:Nat)
 |eptr (p:Pl) (i:Int) (off:Nat)
 |rptr (x:TV) (i:Int) (off:Nat)
inductive CSt where
 |dead|sc (x:TV)|ro (x:TV)|fix (x:TV)|own (x:TV) (deep:Bool) (tag:Option (Nat×Nat))|vw (p:Pl)|part (x:TV) (i:Int) (m:Nat)
inductive Sh where
 |dead|sc|ro|fix|own (deep:Bool) (tag:Option (Nat×Nat))|vw (p:Pl)|part (i:Int) (m:Nat)
structure Con where
 id:Nat
 nv:Nat
 sh:Sh
 v:TV
def tv0:TV:=⟨.bool,false⟩
def Con.st (c:Con):CSt:=match c.sh with
 | .dead=> .dead
 | .sc=> .sc c.v
 | .ro=> .ro c.v
 | .fix=> .fix c.v
 | .own d t=> .own c.v d t
 | .vw p=> .vw p
 | .part i m=> .part c.v i m
def mkC (id nv:Nat):CSt->Con
 | .dead=>⟨id,nv, .dead,tv0⟩
 | .sc x=>⟨id,nv, .sc,x⟩
 | .ro x=>⟨id,nv, .ro,x⟩
 | .fix x=>⟨id,nv, .fix,x⟩
 | .own x d t=>⟨id,nv, .own d t,x⟩
 | .vw p=>⟨id,nv, .vw p,tv0⟩
 | .part x i m=>⟨id,nv, .part i m,x⟩
structure St where
 n:Nat
 tm:List Cell
 cn:List (List Con)
 bx:List (Nat×Nat)
def lget {α:Type}(d:α):List α->Nat->α
 | [],_=>d
 |a::_,0=>a
 |_::l,n+1=>lget d l n
def lset {α:Type}(d:α):List α->Nat->α->List α
 | [],0,x=>[x]
 | [],n+1,x=>d::lset d [] n x
 |_::l,0,x=>x::l
 |a::l,n+1,x=>a::lset d l n x
def yE:Con:=⟨0,0, .dead,tv0⟩
def St.gT (s:St) (i:Nat):Cell:=lget .dead s.tm i
def St.gC (s:St) (r k:Nat):Con:=lget yE (lget [] s.cn r) k
def St.gB (s:St) (r:Nat):Nat×Nat:=lget (0,0) s.bx r
def St.sT (s:St) (i:Nat) (c:Cell):St:= {s with tm:=lset .dead s.tm i c}
def St.sC (s:St) (r k:Nat) (c:Con):St:= {s with cn:=lset [] s.cn r (lset yE (lget [] s.cn r) k c)}
def St.sV (s:St) (r k:Nat) (x:TV):St:=s.sC r k {s.gC r k with v:=x}
def St.gI (s:St) (r k:Nat):Con:= {s.gC r k with v:=tv0}
def St.sB (s:St) (r:Nat) (g:Nat×Nat):St:= {s with bx:=lset (0,0) s.bx r g}
inductive RP (γ:Type) where
 |ret (x:γ)
 |fail
 |ZT (i:Nat) (f:Cell->RP γ)
 |xC (i:Nat) (c:Cell) (p:RP γ)
 |getC (r k:Nat) (f:Con->RP γ)
 |setC (r k:Nat) (c:Con) (p:RP γ)
 |getI (r k:Nat) (f:Con->RP γ)
 |setV (r k:Nat) (x:TV) (p:RP γ)
 |getB (r:Nat) (f:Nat×Nat->RP γ)
 |setB (r:Nat) (g:Nat×Nat) (p:RP γ)
 |br (b:Bool) (p q:RP γ)
 |brT (i:Nat) (p q:RP γ)
 |brG (i:Nat) (want:Bool) (p q:RP γ)
 |call (ts:Tys) (o:Option (Qm ts)) (f:Qm ts->RP γ)
def Xt (c:Cell):Option Bool:=match c with| .val false [.sc ⟨.bool,b⟩]=>some b|_=>none
def mkB (b:Bool):Cell:= .val false [.sc ⟨.bool,b⟩]
def RP.run {γ:Type}:RP γ->St->Option (γ×St)
 | .ret x,s=>some (x,s)
 | .fail,_=>none
 | .ZT i f,s=>(f (s.gT i)).run s
 | .xC i c p,s=>bif Nat.blt i s.n then p.run (s.sT i c)else none
 | .getC r k f,s=>(f (s.gC r k)).run s
 | .setC r k c p,s=>p.run (s.sC r k c)
 | .getI r k f,s=>(f (s.gI r k)).run s
 | .setV r k x p,s=>p.run (s.sV r k x)
 | .getB r f,s=>(f (s.gB r)).run s
 | .setB r g p,s=>p.run (s.sB r g)
 | .br b p q,s=>bif b then p.run s else q.run s
 | .brT i p q,s=>match Xt (s.gT i)with|some b=>bif b then p.run s else q.run s|none=>none
 | .brG i want p q,s=>match Xt (s.gT i)with
   |some b=>bif b then(if want then p.run s else q.run s)else(if want then q.run s else p.run s)
   |none=>match s.gT i with| .und=>q.run s|_=>none
 | .call _ o f,s=>o.bind fun x=>(f x).run s
def RP.ev {γ β:Type}:RP γ->St->(γ->St->Option β)->Option β
 | .ret x,s,K=>K x s
 | .fail,_,_=>none
 | .ZT i f,s,K=>(f (s.gT i)).ev s K
 | .xC i c p,s,K=>bif Nat.blt i s.n then p.ev (s.sT i c) K else none
 | .getC r k f,s,K=>(f (s.gC r k)).ev s K
 | .setC r k c p,s,K=>p.ev (s.sC r k c) K
 | .getI r k f,s,K=>(f (s.gI r k)).ev s K
 | .setV r k x p,s,K=>p.ev (s.sV r k x) K
 | .getB r f,s,K=>(f (s.gB r)).ev s K
 | .setB r g p,s,K=>p.ev (s.sB r g) K
 | .br b p q,s,K=>bif b then p.ev s K else q.ev s K
 | .brT i p q,s,K=>match Xt (s.gT i)with
   |some b=>bif b then p.ev (s.sT i (mkB true)) K else q.ev (s.sT i (mkB false)) K
   |none=>none
 | .brG i want p q,s,K=>match Xt (s.gT i)with
   |some b=>bif b then(if want then p.ev (s.sT i (mkB true)) K else q.ev (s.sT i (mkB true)) K)else(if want then q.ev (s.sT i (mkB false)) K else p.ev (s.sT i (mkB false)) K)
   |none=>match s.gT i with| .und=>q.ev s K|_=>none
 | .call _ o f,s,K=>o.bind fun x=>(f x).ev s K
inductive Rs where
 |t (j:Nat)|c (r k:Nat)|sh (r k:Nat)|b (r:Nat)
def Rs.eq:Rs->Rs->Bool
 | .t i, .t j=>i==j
 | .c r k, .c r' k'=>r==r'&&k==k'
 | .sh r k, .sh r' k'=>r==r'&&k==k'
 | .b r, .b r'=>r==r'
 |_,_=>false
structure Tr where
 us:List Rs
 ds:List Rs
def RP.evT {γ β:Type}:RP γ->St->Tr->(γ->St->Tr->Option β)->Option β
 | .ret x,s,t,K=>K x s t
 | .fail,_,_,_=>none
 | .ZT i f,s,t,K=>(f (s.gT i)).evT s {t with us:= .t i::t.us} K
 | .xC i c p,s,t,K=>bif Nat.blt i s.n then p.evT (s.sT i c) {t with ds:= .t i::t.ds} K else none
 | .getC r k f,s,t,K=>(f (s.gC r k)).evT s {t with us:= .c r k:: .sh r k::t.us} K
 | .setC r k c p,s,t,K=>p.evT (s.sC r k c) {t with ds:= .c r k:: .sh r k::t.ds} K
 | .getI r k f,s,t,K=>(f (s.gI r k)).evT s {t with us:= .sh r k::t.us} K
 | .setV r k x p,s,t,K=>p.evT (s.sV r k x) {t with ds:= .c r k::t.ds} K
 | .getB r f,s,t,K=>(f (s.gB r)).evT s {t with us:= .b r::t.us} K
 | .setB r g p,s,t,K=>p.evT (s.sB r g) {t with ds:= .b r::t.ds} K
 | .br b p q,s,t,K=>bif b then p.evT s t K else q.evT s t K
 | .brT i p q,s,t,K=>match Xt (s.gT i)with
   |some b=>bif b then p.evT (s.sT i (mkB true)) {t with us:= .t i::t.us} K else q.evT (s.sT i (mkB false)) {t with us:= .t i::t.us} K
   |none=>none
 | .brG i want p q,s,t,K=>
   let t':Tr:= {t with us:= .t i::t.us}
   match Xt (s.gT i)with
   |some b=>bif b then(if want then p.evT (s.sT i (mkB true)) t' K else q.evT (s.sT i (mkB true)) t' K)else(if want then q.evT (s.sT i (mkB false)) t' K else p.evT (s.sT i (mkB false)) t' K)
   |none=>match s.gT i with| .und=>q.evT s t' K|_=>none
 | .call _ o f,s,t,K=>o.bind fun x=>(f x).evT s t K
abbrev M (γ α:Type):=(α->RP γ)->RP γ
instance {γ:Type}:Monad (M γ) where
 pure a:=fun k=>k a
 bind m f:=fun k=>m fun a=>f a k
section
variable {γ:Type}
def mT (i:Nat):M γ Cell:=fun k=> .ZT i k
def mC (r k:Nat):M γ Con:=fun f=> .getC r k f
def mB (r:Nat):M γ (Nat×Nat):=fun f=> .getB r f
def wT (i:Nat) (c:Cell):M γ Unit:=fun k=> .xC i c (k ())
def mI (r k:Nat):M γ Con:=fun f=> .getI r k f
def wV (r k:Nat) (x:TV):M γ Unit:=fun f=> .setV r k x (f ())
def wC (r k:Nat) (c:Con):M γ Unit:=fun f=> .setC r k c (f ())
def wB (r:Nat) (g:Nat×Nat):M γ Unit:=fun f=> .setB r g (f ())
def Qq {α:Type}:M γ α:=fun _=> .fail
def chk (b:Bool):M γ Unit:=fun k=> .br b (k ()) .fail
def ofO {α:Type}(o:Option α):M γ α:=fun k=>match o with|some a=>k a|none=> .fail
def mcall (ts:Tys) (o:Option (Qm ts)):M γ (Qm ts):=fun k=> .call ts o k
end
end Go.Eng
namespace Go.Eng
open Go
structure TI where
 ok:Bool
 agg:Bool
 ts:Tys
 bytes:Nat
 elem:Nat
 fo:List Nat
 eqOk:Bool
inductive Mode where|ro|mut|own|junk|top
def Mode.dp:Mode->Bool| .top=>false|_=>true
def Mode.QX:Mode->Bool| .ro=>true|_=>false
inductive PSig where
 |val (agg:Bool) (cs:List (Mode×Ty))
 |ptr (cs:List (Mode×Ty))
 |fn (g:Nat) (caps:List (List (Mode×Ty)))
structure Sig where
 ps:List PSig
 rs:List PSig
def vm:List (Mode×Ty)->Tys
 | []=> .nil
 |(.junk,_)::l=>vm l
 |(_,t)::l=> .cons t (vm l)
def QBs:List (Mode×Ty)->Tys
 | []=> .nil
 |(.mut,t)::l=> .cons t (QBs l)
 |_::l=>QBs l
def PSig.cs:PSig->List (Mode×Ty)| .val _ cs=>cs| .ptr cs=>cs| .fn _ caps=>caps.flatten
def QpN:List PSig->Tys
 | []=> .nil
 |p::l=>(vm p.cs).app (QpN l)
def QEF:List PSig->Tys
 | []=> .nil
 |p::l=>(QBs p.cs).app (QEF l)
def Sig.ins (s:Sig):Tys:=QpN s.ps
def Sig.outs (s:Sig):Tys:=(QpN s.rs).app (QEF s.ps)
inductive SkV where|sc (t:Ty)|ro (t:Ty)|nilS|vw (r k:Nat)
inductive SkT where|val (agg:Bool) (vs:List SkV)|ptr (r off:Nat)|fn (g:Nat) (caps:List (Nat×Nat))
inductive SkC where|sc (t:Ty)|ro (t:Ty)|fix (t:Ty)|own (t:Ty) (deep:Bool) (tag:Option (Nat×Nat))|vw (r k:Nat)|nest (r k m:Nat)
structure Sk where
 tm:List (Nat×SkT)
 cn:List (Nat×Nat×SkC)
 bx:List (Nat×Nat)
inductive Ex where|normal|exit (id:Nat)|ret
def Ex.eq:Ex->Ex->Bool
 | .normal, .normal=>true
 | .exit i, .exit j=>i==j
 | .ret, .ret=>true
 |_,_=>false
structure LSig where
 sk:Sk
 exits:List (Ex×Sk)
def qW:List Tys->Type
 | []=>Empty
 | [t]=>Qm t
 |t::u::l=>Qm t⊕qW (u::l)
structure Glob where
 gl:World->Prop
 gb:List Nat
 same:∀w w':World,(∀b∈gb,w'.heap[b]? =w.heap[b]?)->gl w->gl w'
def Glob.none:Glob:=⟨fun _=>True,[],fun _ _ _ h=>h⟩
structure Env where
 ty:Nat->TI
 sig:Nat->Sig
 code:Nat->Code
 res:Nat->List ResultVar
 lsig:Nat->Nat->LSig
 body:Nat->Nat->Code
 vars:Nat->Nat->List Nat
 inst:Nat->Nat->Nat
 keep:Nat->List Nat
 nt:Nat->Nat
 real:Nat->Nat
 fok:Nat->Bool
 lok:Nat->Nat->Bool
 gg:Glob
 ext:(f:Nat)->Option (Qm (sig f).ins->Option (Qm (sig f).outs))
structure Fx where
 keep:List Nat
 np:Nat
 fnp:Bool
def PSig.QKj:PSig->Bool| .fn .. =>true|_=>false
def Env.fx (E:Env) (f:Nat):Fx:=⟨E.keep f,(E.sig f).ps.length,(E.sig f).ps.any PSig.QKj⟩
def Fx.QpQ (x:Fx) (d:Nat):Bool:=Nat.blt d x.np||(x.fnp&&Nat.ble 200 d)
def Sh.jd:Sh->Bool| .fix=>true|_=>false
section
variable {γ:Type}
def tyM (E:Env) (T:Nat):M γ TI:=if(E.ty T).ok then pure (E.ty T)else Qq
def TI.QN (T:TI):Bool:=match T.agg,T.ts with|false, .cons (.sl _) .nil=>true|_,_=>false
def TI.isStr (T:TI):Bool:=match T.agg,T.ts with|false, .cons .str .nil=>true|_,_=>false
def TI.isBool (T:TI):Bool:=match T.agg,T.ts with|false, .cons .bool .nil=>true|_,_=>false
def TI.Qlr (T:TI):Option IntKind:=match T.agg,T.ts with|false, .cons (.int k) .nil=>some k|_,_=>none
def TI.fsz (T:TI) (i:Nat):Nat:=(T.fo[i+1]?).getD T.ts.len - (T.fo[i]?).getD 0
def slE (E:Env) (T:Nat):M γ TI:=do
 let TS<-tyM E T
 if TS.QN then tyM E TS.elem else Qq
def yq:Value->Option Cell
 | .bool b=>some (.val false [.sc ⟨.bool,b⟩])
 | .int k n=>some (.val false [.sc ⟨.int k,n⟩])
 | .string s=>some (.val false [.sc ⟨.str,s⟩])
 | .slice none 0 0=>some (.val false [.nilS])
 | .pointer none=>some .dead
 |_=>none
def opd:Operand->M γ Cell
 | .tmp t=>mT t
 | .const v=>ofO (yq v)
 | .func f=>pure (.fn f [])
 |_=>Qq
def Zm (x:TV) (i:Int) (m:Nat):Option TV:=match x with
 |⟨.sl ts,xs⟩=>(unpack ts (rdx ts xs i))[m]?
 |_=>none
def KX (x:TV) (l h:Int):Option TV:=match x with
 |⟨.sl ts,xs⟩=>some ⟨.sl ts,List.take (h - l).toNat (List.drop l.toNat (show List (Qm ts)from xs))⟩
 |_=>none
def Yq (x:TV):Option (Int×Int)->Option TV
 |none=>some x
 |some (l,h)=>KX x l h
def final:Nat->Pl->M γ (Pl×Con)
 |0,_=>Qq
 |n+1,p=>do
  let c<-mI p.r p.k
  if c.id==p.id then
   match c.sh,p.nest,p.rng with
   | .vw q,none,none=>final n q
   | .vw q,none,some r=>match q.rng with|none=>final n {q with rng:=some r}|some _=>Qq
   | .vw _,some _,_=>Qq
   |_,none,_=>pure (p,c)
   |_,some _,_=>if c.nv==p.nv then pure (p,c)else Qq
  else Qq
def J3 (p:Pl):M γ (Pl×Con):=do
 let(q,_)<-final 8 p
 let c<-mC q.r q.k
 pure (q,c)
def rd (p:Pl):M γ (TV×Bool):=do
 let(q,c)<-J3 p
 match c.st with
 | .own x deep _=>do
   let y<-match q.nest with|none=>pure x|some (i,m)=>ofO (Zm x i m)
   let z<-ofO (Yq y q.rng)
   pure (z,deep)
 |_=>Qq
def QdR (t:Ty):VC->M γ (Val t)
 | .sc x=>ofO (x.as t)
 | .ro x=>ofO (x.as t)
 | .nilS=>match t with| .sl ts=>pure (show Val (.sl ts)from([]:List (Qm ts)))|_=>Qq
 | .vw p=>do let(x,_)<-rd p;ofO (x.as t)
 | .bad=>Qq
def JD (p:Pl):M γ (TV×Bool×Option (Nat×Nat)):=do
 let(q,c)<-J3 p
 match c.st,q.nest with
 | .own x deep tag,none=>do
   wC q.r q.k (mkC c.id c.nv .dead)
   match q.rng with
   |none=>pure (x,deep,tag)
   |some (l,h)=>do let y<-ofO (KX x l h);pure (y,deep,none)
 |_,_=>Qq
def Qjt (p d:Pl):M γ (TV×Bool×Option (Nat×Nat)):=do
 let(q,c)<-J3 p
 match c.st,q.nest with
 | .own x deep tag,none=>do
   match q.rng with
   |none=>do wC q.r q.k (mkC c.id c.nv (.vw d));pure (x,deep,tag)
   |some (l,h)=>do wC q.r q.k (mkC c.id c.nv .dead);let y<-ofO (KX x l h);pure (y,deep,none)
 |_,_=>Qq
def Qr9 (p:Pl):M γ Bool:=do
 let(q,c)<-final 8 p
 match c.st,q.nest with
 | .own ..,none=>pure true
 |_,_=>pure false
def Qli (tk:Bool) (r k:Nat) (t:Ty) (v:VC):M γ Unit:=do
 let c<-mI r k
 let id:=c.id+1
 if c.sh.jd then Qq else
 match v with
 | .sc x=>wC r k (mkC id c.nv (.sc x))
 | .ro x=>wC r k (mkC id c.nv (.ro x))
 | .nilS=>match t with| .sl ts=>wC r k (mkC id c.nv (.own ⟨.sl ts,(show List (Qm ts)from [])⟩ true none))|_=>Qq
 | .bad=>wC r k (mkC id c.nv (.dead))
 | .vw p=>do
   let b<-Qr9 p
   if b&&tk then do
    let(x,deep,tag)<-Qjt p ⟨r,k,id,c.nv,none,none⟩
    wC r k (mkC id c.nv (.own x deep tag))
   else wC r k (mkC id c.nv (.vw p))
def zJ (tk:Bool) (r:Nat):Nat->Tys->List VC->M γ Unit
 |_, .nil,[]=>pure ()
 |k, .cons t ts,v::vs=>do Qli tk r k t v;zJ tk r (k+1) ts vs
 |_,_,_=>Qq
def QN:Ty->Bool| .sl _=>true|_=>false
def QkH (r k:Nat):M γ VC:=do
 let c<-mI r k
 match c.sh with
 | .sc=>do let c'<-mC r k;pure (.sc c'.v)
 | .ro=>do let c'<-mC r k;pure (.ro c'.v)
 | .fix=>do let c'<-mC r k;pure (if QN c'.v.t then .ro c'.v else .sc c'.v)
 | .own .. =>pure (.vw ⟨r,k,c.id,c.nv,none,none⟩)
 | .vw p=>pure (.vw p)
 | .dead=>pure .bad
 | .part .. =>pure .bad
def ym (r:Nat):Nat->Nat->M γ (List VC)
 |_,0=>pure []
 |k,n+1=>do
  let v<-QkH r k
  let vs<-ym r (k+1) n
  pure (v::vs)
def QxP (l:List TV):List VC:=l.map fun x=>if QN x.t then .ro x else .sc x
def Qnv (p:Pl) (deep:Bool) (i:Int):Nat->List TV->List VC
 |_,[]=>[]
 |m,x::l=>(if QN x.t then(if deep then(match p.nest,p.rng with|none,none=> .vw {p with nest:=some (i,m)}|_,_=> .bad)else .ro x)else .sc x)::Qnv p deep i (m+1) l
def Qo2 (T:TI) (l:List VC):M γ Cell:=if Nat.beq l.length T.ts.len then pure (.val T.agg l)else Qq
def loadAt (T:TI):Cell->M γ Cell
 | .ptr r off g=>do
   let g'<-mB r
   if g'.1==g&&Nat.ble (off+T.ts.len) g'.2 then do let vs<-ym r off T.ts.len;pure (.val T.agg vs)else Qq
 | .eptr p i off=>do
   let(x,deep)<-rd p
   let(q,c)<-final 8 p
   match x,c.sh with
   |⟨.sl ts,xs⟩, .own d _=>if d==deep then Qo2 T (((Qnv {q with nv:=c.nv} deep i 0 (unpack ts (rdx ts xs i))).drop off).take T.ts.len)else Qq
   |_,_=>Qq
 | .rptr x i off=>match x with
   |⟨.sl ts,xs⟩=>Qo2 T (((QxP (unpack ts (rdx ts xs i))).drop off).take T.ts.len)
   |_=>Qq
 |_=>Qq
def Qow (deep:Bool) (at_:Option Pl) (t:Ty) (v:VC):M γ (Val t):=
 if QN t then
  match v with
  | .vw p=>do
    let(x,dp,_)<-match at_ with|some d=>Qjt p d|none=>JD p
    if deep&& !dp then Qq else ofO (x.as t)
  | .nilS=>QdR t v
  | .ro x=>if deep then Qq else ofO (x.as t)
  |_=>Qq
 else QdR t v
def QjR (deep:Bool):(ts:Tys)->List VC->M γ (Qm ts)
 | .nil,[]=>pure ()
 | .cons t ts,v::vs=>do let a<-Qow deep none t v;let b<-QjR deep ts vs;pure (vmk a b)
 |_,_=>Qq
def QoQ (v:VC):M γ Bool:=match v with
 | .vw p=>do
   let(q,c)<-final 8 p
   match c.st,q.nest with
   | .own _ dp _,none=>pure dp
   |_,_=>pure false
 | .nilS=>pure true
 |_=>pure false
def Qk3:(ts:Tys)->List VC->M γ Bool
 | .cons t ts,v::vs=>do
   let a<-if QN t then QoQ v else pure true
   let b<-Qk3 ts vs
   pure (a&&b)
 |_,_=>pure true
def putCells (ts:Tys):Qm ts->Nat->List TV->Option (Qm ts)
 |x,_,[]=>some x
 |x,m,y::ys=>match YP ts x m y with|some z=>putCells ts z (m+1) ys|none=>none
def VJ:Tys->Bool
 | .nil=>false
 | .cons t ts=>QN t||VJ ts
def setAt (x:TV) (i:Int) (off:Nat) (ys:List TV):Option TV:=match x with
 |⟨.sl ts,xs⟩=>match putCells ts (rdx ts xs i) off ys with|some e=>some ⟨.sl ts,List.set (show List (Qm ts)from xs) i.toNat e⟩|none=>none
 |_=>none
def QOY (x:TV):Option Tys:=match x with|⟨.sl ts,_⟩=>some ts|_=>none
def Tys.sub:Tys->Nat->Nat->Tys
 |_,_,0=> .nil
 | .nil,_,_=> .nil
 | .cons t ts,0,n+1=> .cons t (Tys.sub ts 0 n)
 | .cons _ ts,m+1,n+1=>Tys.sub ts m (n+1)
def Qqn (y:TV) (i i':Int) (off:Nat) (rng:Option (Int×Int)):M γ (Option TV):=do
 chk (decide (i'=i))
 let z<-ofO (Zm y i off)
 let w<-ofO (Yq z rng)
 pure (some w)
def Qqm (y:TV) (i:Int) (off r k:Nat) (nested:Bool) (v:VC):M γ (Option TV):=
 match nested,v with
 |false, .vw p=>do
  let(q,_)<-final 8 p
  match q.nest with
  |some (i',m)=>if q.r==r&&q.k==k&&m==off then Qqn y i i' off q.rng else pure none
  |none=>pure none
 |_,_=>pure none
def yr (y:TV) (i:Int) (r k:Nat) (nested:Bool):Nat->Tys->List VC->M γ (List (Option TV))
 |_, .nil,[]=>pure []
 |off, .cons t ts,v::vs=>do
  let a<-if QN t then Qqm y i off r k nested v else pure none
  let l<-yr y i r k nested (off+1) ts vs
  pure (a::l)
 |_,_,_=>Qq
def QC4 (i:Int) (r k id nv:Nat) (nested deep:Bool) (off:Nat) (t:Ty) (v:VC):Option TV->M γ TV
 |some x=>pure x
 |none=>do let x<-Qow deep (if nested then none else some ⟨r,k,id,nv,some (i,off),none⟩) t v;pure ⟨t,x⟩
def QjZ (i:Int) (r k id nv:Nat) (nested deep:Bool):Nat->Tys->List VC->List (Option TV)->M γ (List TV)
 |_, .nil,[],[]=>pure []
 |off, .cons t ts,v::vs,a::as=>do
  let b<-QC4 i r k id nv nested deep off t v a
  let l<-QjZ i r k id nv nested deep (off+1) ts vs as
  pure (b::l)
 |_,_,_,_=>Qq
def QqU (b:Bool) (r k:Nat) (c:Con):M γ Unit:=if b then wC r k (mkC c.id (c.nv+1) .dead)else pure ()
def Qo0 (b:Bool) (r k:Nat) (c:Con) (x:TV) (deep:Bool) (tag:Option (Nat×Nat)):M γ Unit:=if b then wC r k (mkC c.id (c.nv+1) (.own x deep tag))else wV r k x
def rowAt (x:TV):Option (Int×Nat)->Option TV
 |none=>some x
 |some (j,m)=>Zm x j m
def Qpc (x z:TV):Option (Int×Nat)->Option TV
 |none=>some z
 |some (j,m)=>setAt x j m [z]
def storeAt (tk:Bool) (T:TI) (a:Cell) (vs:List VC):M γ Unit:=
 match a with
 | .ptr r off g=>do
   let g'<-mB r
   if g'.1==g&&Nat.ble (off+T.ts.len) g'.2&&Nat.beq vs.length T.ts.len then zJ tk r off T.ts vs else Qq
 | .eptr p i off=>do
   let(q,c)<-J3 p
   match c.st,q.rng with
   | .own x deep tag,none=>if q.nest.isSome&& !deep then Qq else do
     let y<-ofO (rowAt x q.nest)
     let es<-ofO (QOY y)
     let as<-yr y i q.r q.k q.nest.isSome off (es.sub off T.ts.len) vs
     QqU (VJ (es.sub off T.ts.len)) q.r q.k c
     let ys<-QjZ i q.r q.k c.id (c.nv+1) q.nest.isSome deep off (es.sub off T.ts.len) vs as
     let z<-ofO (setAt y i off ys)
     let w<-ofO (Qpc x z q.nest)
     Qo0 (VJ (es.sub off T.ts.len)) q.r q.k c w deep tag
   |_,_=>Qq
 |_=>Qq
def YD (d:Option Tmp) (c:Cell):M γ Unit:=match d with|some d=>wT d c|none=>pure ()
def Qdy (d j:Nat) (x:TV) (deep:Bool):M γ VC:=do
 let g<-mB d
 if g.2==0 then do
  let c<-mI d j
  wC d j (mkC (c.id+1) c.nv (.own x deep none))
  pure (.vw ⟨d,j,c.id+1,c.nv,none,none⟩)
 else Qq
def xj (d:Nat):Nat->Tys->List VC->M γ (List VC)
 |_, .nil,[]=>pure []
 |j, .cons t ts,v::vs=>do
  let v'<-match v with
   | .vw p=>do
     if<-Qr9 p then do
      let c<-mI d j
      let(x,deep,tag)<-Qjt p ⟨d,j,c.id+1,c.nv,none,none⟩
      wC d j (mkC (c.id+1) c.nv (.own x deep tag))
      pure (.vw ⟨d,j,c.id+1,c.nv,none,none⟩)
     else pure v
   | .nilS=>match t with
     | .sl ts=>Qdy d j ⟨.sl ts,(show List (Qm ts)from [])⟩ true
     |_=>Qq
   |v=>pure v
  let vs'<-xj d (j+1) ts vs
  pure (v'::vs')
 |_,_,_=>Qq
def QMC:Ty->VC
 | .sl _=> .nilS
 |t=> .sc ⟨t,t.zero⟩
def QbH:Tys->List VC
 | .nil=>[]
 | .cons t ts=>QMC t::QbH ts
def one (v:VC):Cell:= .val false [v]
def QfP:Cell->Option (List VC)
 | .val _ vs=>some vs
 |_=>none
def vc1:Cell->Option VC
 | .val false [v]=>some v
 |_=>none
def yj :Cell->Option Int
 | .val false [.sc ⟨.int _,n⟩]=>some n
 |_=>none
def QwH :Cell->Option ByteArray
 | .val false [.sc ⟨.str,s⟩]=>some s
 |_=>none
def cI (k:IntKind) (n:Int):Cell:=one (.sc ⟨.int k,n⟩)
def cB (b:Bool):Cell:=one (.sc ⟨.bool,b⟩)
def cS (s:ByteArray):Cell:=one (.sc ⟨.str,s⟩)
def X0 (a b:ByteArray):Bool:=a.toList==b.toList
def fits (n b:Nat):Bool:=decide (n*b<=140737488351232)
def ofBytes (s:ByteArray):List Int:=s.data.toList.map fun b=>(b.toNat:Int)
def QM (l:List Int):ByteArray:=⟨(l.map fun n=>n.toNat.toUInt8).toArray⟩
def mxI (a b:Int):Int:=if a<b then b else a
def mnI (a b:Int):Int:=if b<a then b else a
def bits (op:BinOp) (k:IntKind) (x y:Int):Int:=
 match op with
 | .and=>k.wrap (BitVec.ofInt k.bits x&&&BitVec.ofInt k.bits y).toNat
 | .or=>k.wrap (BitVec.ofInt k.bits x|||BitVec.ofInt k.bits y).toNat
 | .xor=>k.wrap (BitVec.ofInt k.bits x^^^BitVec.ofInt k.bits y).toNat
 |_=>k.wrap (BitVec.ofInt k.bits x&&& ~~~ BitVec.ofInt k.bits y).toNat
def Qbf (k:IntKind) (x y:Int):Int:=k.wrap (x*2^min y.toNat k.bits)
def Qd7 (k:IntKind) (x y:Int):Int:=x.fdiv (2^min y.toNat k.bits)
def ishift (op:BinOp) (k:IntKind) (a b:Int):M γ Cell:=
 match op with
 | .shl=>do chk (decide (0<=b));pure (cI k (Qbf k a b))
 | .shr=>do chk (decide (0<=b));pure (cI k (Qd7 k a b))
 |_=>Qq
def ibin (op:BinOp) (k:IntKind) (a b:Int):M γ Cell:=
 match op with
 | .add=>pure (cI k (k.wrap (a+b)))
 | .sub=>pure (cI k (k.wrap (a - b)))
 | .mul=>pure (cI k (k.wrap (a*b)))
 | .quo=>do chk (decide (b≠0));pure (cI k (k.wrap (Int.tdiv a b)))
 | .rem=>do chk (decide (b≠0));pure (cI k (Int.tmod a b))
 | .and=>pure (cI k (bits .and k a b))
 | .or=>pure (cI k (bits .or k a b))
 | .xor=>pure (cI k (bits .xor k a b))
 | .andNot=>pure (cI k (bits .andNot k a b))
 | .eql=>pure (cB (decide (a=b)))
 | .neq=>pure (cB (!decide (a=b)))
 | .lss=>pure (cB (decide (a<b)))
 | .leq=>pure (cB (decide (a<=b)))
 | .gtr=>pure (cB (decide (b<a)))
 | .geq=>pure (cB (decide (b<=a)))
 |_=>Qq
def bbin (op:BinOp) (a b:Bool):M γ Cell:=
 match op with
 | .eql=>pure (cB (a==b))
 | .neq=>pure (cB (!(a==b)))
 |_=>Qq
def sbin (op:BinOp) (a b:ByteArray):M γ Cell:=
 match op with
 | .eql=>pure (cB (X0 a b))
 | .neq=>pure (cB (!X0 a b))
 | .lss=>pure (cB (Op.bytesLess a.toList b.toList))
 | .leq=>pure (cB (Op.bytesLess a.toList b.toList||X0 a b))
 | .gtr=>pure (cB (!(Op.bytesLess a.toList b.toList||X0 a b)))
 | .geq=>pure (cB (!Op.bytesLess a.toList b.toList))
 | .add=>do chk (fits (a.size+b.size) 1);pure (cS (a++b))
 |_=>Qq
def QyQ (op:BinOp):Bool:=match op with| .shl| .shr=>true|_=>false
def bin (T:TI) (op:BinOp) (x y:TV):M γ Cell:=
 match x,y with
 |⟨.int k,a⟩,⟨.int k',b⟩=>if QyQ op then ishift op k a b else if k=k' then ibin op k a b else Qq
 |⟨.bool,a⟩,⟨.bool,b⟩=>if T.isBool then bbin op a b else Qq
 |⟨.str,a⟩,⟨.str,b⟩=>sbin op a b
 |_,_=>Qq
def eqI (a b:Int):Bool:=decide (a=b)
def QQe (a b:Bool):Bool:=a==b
def QQl (x y:TV):Option Bool:=
 match x,y with
 |⟨.int k,a⟩,⟨.int k',b⟩=>if k=k' then some (eqI a b)else none
 |⟨.bool,a⟩,⟨.bool,b⟩=>some (QQe a b)
 |⟨.str,a⟩,⟨.str,b⟩=>some (X0 a b)
 |_,_=>none
def QCq:List VC->List VC->Option Bool
 | [],[]=>some true
 | .sc x::l, .sc y::m=>match QQl x y,QCq l m with|some a,some b=>some (a&&b)|_,_=>none
 |_,_=>none
def za:Tys->List VC->Bool
 | .nil,[]=>true
 | .cons t ts, .sc x::l=>(match Ty.eq? x.t t with|some _=>true|none=>false)&&za ts l
 |_,_=>false
def Qmm (T:TI) (op:BinOp) (x y:Cell):M γ Cell:=
 match x,y with
 | .val false [.sc a], .val false [.sc b]=>bin T op a b
 | .val true l, .val true m=>if T.agg&&T.eqOk&&za T.ts l&&za T.ts m then(match op with
   | .eql=>do let b<-ofO (QCq l m);pure (cB b)
   | .neq=>do let b<-ofO (QCq l m);pure (cB (!b))
   |_=>Qq)else Qq
 |_,_=>Qq
def elems (ts:Tys) (v:VC):M γ (List (Qm ts)):=QdR (.sl ts) v
def Qr8 (cs:List VC) (off:Nat):List VC->List VC
 | []=>cs
 |v::vs=>Qr8 (cs.set off v) (off+1) vs
def vb (T:TI):List VC->List (Nat×Operand)->M γ (List VC)
 |cs,[]=>pure cs
 |cs,(i,x)::l=>do
  let c<-opd x
  let vs<-ofO (QfP c)
  let off<-ofO (T.fo[i]?)
  if Nat.beq vs.length (T.fsz i)then vb T (Qr8 cs off vs) l else Qq
def QbI:List (Nat×Operand)->M γ (List (Nat×List VC))
 | []=>pure []
 |(i,x)::l=>do let c<-opd x;let vs<-ofO (QfP c);let r<-QbI l;pure ((i,vs)::r)
def Qj1 (ts:Tys):List (Nat×List VC)->M γ Bool
 | []=>pure true
 |(_,vs)::l=>do let a<-Qk3 ts vs;let b<-Qj1 ts l;pure (a&&b)
def QjX (deep:Bool) (ts:Tys):List (Qm ts)->List (Nat×List VC)->M γ (List (Qm ts))
 |row,[]=>pure row
 |row,(i,vs)::l=>do let e<-QjR deep ts vs;QjX deep ts (row.set i e) l
def Qqs (off:Nat):Cell->Option Cell
 | .ptr r o g=>some (.ptr r (o+off) g)
 | .eptr p i o=>some (.eptr p i (o+off))
 | .rptr x i o=>some (.rptr x i (o+off))
 |_=>none
def QmT:TV->Option Nat
 |⟨.sl ts,xs⟩=>some (List.length (show List (Qm ts)from xs))
 |⟨.str,s⟩=>some (ByteArray.size s)
 |_=>none
def lenOf (v:VC):M γ Nat:=match v with
 | .sc x=>ofO (QmT x)
 | .ro x=>ofO (QmT x)
 | .nilS=>pure 0
 | .vw p=>do let(x,_)<-rd p;ofO (QmT x)
 | .bad=>Qq
def QpM (ts:Tys) (v:VC):M γ Nat:=do
 let xs<-QdR (.sl ts) v
 pure (List.length (show List (Qm ts)from xs))
def Qpa (ts:Tys):VC->M γ (List (Qm ts)×Bool)
 | .nilS=>pure (([]:List (Qm ts)),true)
 | .vw p=>do let(y,dp,_)<-JD p;let z<-ofO (y.as (.sl ts));(match p.rng with|none=>pure ((z:List (Qm ts)),dp)|some _=>Qq)
 |_=>Qq
def Qos (ts:Tys) (x:VC):M γ (List (Qm ts)×Bool):=
 if ts.flat then do let z<-elems ts x;pure (z,true)else match x with
  | .nilS=>pure (([]:List (Qm ts)),true)
  | .ro y=>do let z<-ofO (y.as (.sl ts));pure ((z:List (Qm ts)),false)
  | .vw p=>do let(y,dp,_)<-JD p;let z<-ofO (y.as (.sl ts));pure ((z:List (Qm ts)),dp)
  |_=>Qq
def Ql6 (E:Env) (d T:Nat) (s x:VC):M γ Unit:=do
 let TE<-slE E T
 let xs<-Qpa TE.ts s
 let ys<-Qos TE.ts x
 chk (Nat.blt 0 TE.bytes&&fits (xs.1.length+ys.1.length) TE.bytes)
 let v<-Qdy d 0 ⟨.sl TE.ts,(show List (Qm TE.ts)from xs.1++ys.1)⟩ (xs.2&&ys.2)
 wT d (one v)
end
section
variable {γ:Type}
inductive Back where
 |no
 |whole (r k:Nat) (c:Con) (tag:Option (Nat×Nat))
 |nest (r k:Nat) (c:Con) (x:TV) (tag:Option (Nat×Nat)) (i:Int) (m:Nat)
def Qgv (a b:Ty):M γ Unit:=match Ty.eq? a b with|some _=>pure ()|none=>Qq
def Qrl (m:Mode) (t:Ty) (v:VC):M γ (Option TV×Back):=
 if QN t then
  match v with
  | .vw p=>do
    let(q,c)<-J3 p
    match c.st,q.nest,q.rng with
    | .own x true tag,none,none=>do Qgv x.t t;wC q.r q.k (mkC c.id c.nv .dead);pure (some x, .whole q.r q.k c tag)
    | .own x true tag,some (i,j),none=>match m with
      | .mut=>do let y<-ofO (Zm x i j);Qgv y.t t;wC q.r q.k (mkC c.id c.nv .dead);pure (some y, .nest q.r q.k c x tag i j)
      |_=>Qq
    |_,_,_=>Qq
  | .nilS=>match t with
    | .sl ts=>pure (some ⟨.sl ts,(show List (Qm ts)from [])⟩, .no)
    |_=>Qq
  |_=>Qq
 else pure (none, .no)
def QCN (m:Mode) (t:Ty) (v:VC):M γ (Option TV×Back):=
 match m with
 | .ro=>pure (none, .no)
 |m=>Qrl m t v
def Qsq:List (Mode×Ty)->List VC->M γ (List (Option TV×Back))
 | [],[]=>pure []
 |(m,t)::l,v::vs=>do
  let a<-QCN m t v
  let r<-Qsq l vs
  pure (a::r)
 |_,_=>Qq
def Qlm:List (Mode×Ty)->List VC->List (Option TV×Back)->M γ (List TV)
 | [],[],[]=>pure []
 |(_,t)::l,v::vs,(o,_)::os=>do
  let a<-match o with|some x=>pure x|none=>do let y<-QdR t v;pure ⟨t,y⟩
  let r<-Qlm l vs os
  pure (a::r)
 |_,_,_=>Qq
def Qfc:List (List (Mode×Ty))->List (Nat×Nat×Nat)->M γ (List VC)
 | [],[]=>pure []
 |cs::l,(r,0,g)::m=>do
  let g'<-mB r
  if g'.1==g&&Nat.beq g'.2 cs.length&&Nat.blt 0 cs.length then do
   let a<-ym r 0 cs.length
   let b<-Qfc l m
   pure (a++b)
  else Qq
 |_,_=>Qq
def Qlc:PSig->Cell->M γ (List VC)
 | .val a _, .val a' vs=>if a==a' then pure vs else Qq
 | .ptr cs, .ptr r 0 g=>do
   let g'<-mB r
   if g'.1==g&&Nat.beq g'.2 cs.length&&Nat.blt 0 cs.length then ym r 0 cs.length else Qq
 | .fn g caps, .fn g' l=>if g==g' then Qfc caps l else Qq
 |_,_=>Qq
def Qbs:List PSig->List Cell->M γ (List (List VC))
 | [],[]=>pure []
 |p::ps,c::cs=>do let a<-Qlc p c;let r<-Qbs ps cs;pure (a::r)
 |_,_=>Qq
def Qsb:List PSig->List (List VC)->M γ (List (List (Option TV×Back)))
 | [],[]=>pure []
 |p::ps,c::cs=>do let a<-Qsq p.cs c;let r<-Qsb ps cs;pure (a::r)
 |_,_=>Qq
def QoV:List PSig->List (List VC)->List (List (Option TV×Back))->M γ (List TV)
 | [],[],[]=>pure []
 |p::ps,c::cs,o::os=>do let a<-Qlm p.cs c o;let r<-QoV ps cs os;pure (a++r)
 |_,_,_=>Qq
def Sh.QIg:Sh->Bool| .dead=>true|_=>false
def jU (r k:Nat) (c:Con):M γ Unit:=do
 let c'<-mI r k
 if Nat.beq c'.id c.id&&Nat.beq c'.nv c.nv&&c'.sh.QIg then pure ()else Qq
def Qj3 (x:TV):Back->M γ Unit
 | .no=>pure ()
 | .whole r k c tag=>do jU r k c;wC r k (mkC c.id (c.nv+1) (.own x true tag))
 | .nest r k c X tag i m=>do let z<-ofO (setAt X i m [x]);jU r k c;wC r k (mkC c.id (c.nv+1) (.own z true tag))
def KE (d:Nat) (o:Option TV×Back):Bool:=match o.2 with
 | .no=>false
 | .whole r _ _ _=>Nat.beq r d
 | .nest r _ _ _ _ _ _=>Nat.beq r d
def xQ:List (Mode×Ty)->List (Option TV×Back)->List TV->M γ (List TV)
 | [],[],xs=>pure xs
 |(.mut,_)::l,(_,b)::os,x::xs=>do Qj3 x b;xQ l os xs
 |(.mut,_)::_,_::_,[]=>Qq
 |(_,_)::l,_::os,xs=>xQ l os xs
 |_,_,_=>Qq
def Z1 (r:Nat):Nat->List (Mode×Ty)->List TV->M γ (List TV)
 |_,[],xs=>pure xs
 |k,(.mut,t)::l,x::xs=>do
  let c<-mI r k
  if c.sh.jd then Qq else
  wC r k (mkC (c.id+1) c.nv (if QN t then .own x true none else .sc x))
  Z1 r (k+1) l xs
 |_,(.mut,_)::_,[]=>Qq
 |k,(.ro,_)::l,xs=>Z1 r (k+1) l xs
 |k,_::l,xs=>do
  let c<-mI r k
  if c.sh.jd then Qq else
  wC r k (mkC (c.id+1) c.nv .dead)
  Z1 r (k+1) l xs
def backs:List PSig->List Cell->List (List (Option TV×Back))->List TV->M γ Unit
 | [],[],[],[]=>pure ()
 | .val _ cs::ps,_::as,o::os,xs=>do let r<-xQ cs o xs;backs ps as os r
 | .ptr cs::ps, .ptr r _ _::as,_::os,xs=>do let l<-Z1 r 0 cs xs;backs ps as os l
 | .fn _ _::ps,_::as,_::os,xs=>backs ps as os xs
 |_,_,_,_=>Qq
def Z2 (d:Nat):Nat->List (Mode×Ty)->List TV->M γ (List VC×List TV)
 |_,[],xs=>pure ([],xs)
 |j,(.junk,_)::l,xs=>do
  let(vs,r)<-Z2 d (j+1) l xs
  pure (.bad::vs,r)
 |j,(m,t)::l,x::xs=>do
  let v<-if QN t then(match m with| .ro=>pure (.ro x)|m=>Qdy d j x m.dp)else pure (.sc x)
  let(vs,r)<-Z2 d (j+1) l xs
  pure (v::vs,r)
 |_,_::_,[]=>Qq
def Qoy (d:Nat):Nat->List PSig->List TV->M γ (List (Bool×List VC)×List TV)
 |_,[],xs=>pure ([],xs)
 |_, .ptr _::_,_=>Qq
 |_, .fn _ _::_,_=>Qq
 |j, .val a cs::l,xs=>do
  let(vs,r)<-Z2 d j cs xs
  let(ws,r')<-Qoy d (j+cs.length) l r
  pure ((a,vs)::ws,r')
def QaA (d:Nat):Nat->List (Mode×Ty)->List TV->M γ (List TV)
 |_,[],xs=>pure xs
 |k,(m,t)::l,x::xs=>do
  let c<-mI d k
  if c.sh.jd then Qq else
  wC d k (mkC (c.id+1) c.nv (if QN t then(match m with| .ro=> .ro x|_=> .own x true none)else .sc x))
  QaA d (k+1) l xs
 |_,_::_,[]=>Qq
abbrev Xz (E:Env):=(f:Nat)->Qm (E.sig f).ins->Option (Qm (E.sig f).outs)
def qU:List Operand->M γ (List Cell)
 | []=>pure []
 |x::l=>do let c<-opd x;let r<-qU l;pure (c::r)
def Qoz (E:Env) (f:Nat):List Cell->Nat
 | []=>f
 | .fn g _::_=>E.inst f g
 |_::l=>Qoz E f l
def Mode.rt:Mode->Bool| .ro=>true| .top=>true|_=>false
def jZ (ps:List PSig):Bool:=ps.any fun p=>p.cs.any fun x=>x.1.rt&&QN x.2
def Qqg:List (Mode×Ty)->List VC->Bool
 |(.ro,t)::l,v::vs=>(!QN t||(match v with| .ro _=>true| .nilS=>true|_=>false))&&Qqg l vs
 |_::l,_::vs=>Qqg l vs
 |_,_=>true
def Qrj:List PSig->List (List VC)->Bool
 |p::ps,c::cs=>Qqg p.cs c&&Qrj ps cs
 |_,_=>true
def QA7 (m:Mode) (t:Ty) (v:VC):M γ VC:=match m,v with
 | .ro, .vw p=>if QN t then(do let x<-JD p;pure (.ro x.1))else Qq
 |_,v=>pure v
def Qnb:List (Mode×Ty)->List VC->M γ (List VC)
 |(m,t)::l,v::vs=>do let a<-QA7 m t v;let b<-Qnb l vs;pure (a::b)
 |_,vs=>pure vs
def QCm:PSig->List VC->M γ (List VC)
 | .val _ cs,vs=>Qnb cs vs
 |_,vs=>pure vs
def QnE:List PSig->List (List VC)->M γ (List (List VC))
 |p::ps,c::cs=>do let a<-QCm p c;let b<-QnE ps cs;pure (a::b)
 |_,cs=>pure cs
def QAM (b:Bool) (ps:List PSig) (cs:List (List VC)):M γ (List (List VC)):=if b then QnE ps cs else pure cs
def vt (rs:List Nat):List PSig->List (List (Option TV×Back))->Bool
 | .val _ _::ps,os::oss=>os.all (fun o=>rs.all fun r=> !KE r o)&&vt rs ps oss
 |_::ps,_::oss=>vt rs ps oss
 |_,_=>true
def Zb:List PSig->List Cell->List Nat
 | .ptr _::ps, .ptr r _ _::as=>r::Zb ps as
 | .fn _ _::ps, .fn _ l::as=>l.map (fun x=>x.1)++Zb ps as
 |_::ps,_::as=>Zb ps as
 |_,_=>[]
def distinct:List Nat->Bool
 | []=>true
 |x::l=>l.all (fun y=> !Nat.beq x y)&&distinct l
def Qsn (E:Env) (D:Xz E) (f0 f:Nat) (as:List Cell):M γ (List (List (Option TV×Back))×Qm (E.sig f).outs):=do
 let sg:=E.sig f
 if E.fok f&&Nat.beq (E.real f) f0 then pure ()else Qq
 let cs0<-Qbs sg.ps as
 let cs<-QAM (jZ sg.rs) sg.ps cs0
 if distinct (Zb sg.ps as)then pure ()else Qq
 if jZ sg.rs&& !Qrj sg.ps cs then Qq else pure ()
 let os<-Qsb sg.ps cs
 if vt (Zb sg.ps as) sg.ps os then pure ()else Qq
 let vs<-QoV sg.ps cs os
 let ins<-ofO (pack sg.ins vs)
 let outs<-mcall sg.outs (D f ins)
 pure (os,outs)
def call2 (np:Fx) (d:Nat) (sg:Sig) (as:List Cell) (os:List (List (Option TV×Back))) (outs:List TV):M γ Unit:=
 match sg.rs with
 | [.ptr cs]=>if np.QpQ d||os.any (fun l=>l.any (KE d))||(Zb sg.ps as).any (fun r=>Nat.beq r d)then Qq else do
   let g<-mB d
   wB d (g.1+1,cs.length)
   let rest<-QaA d 0 cs outs
   backs sg.ps as os rest
   wT d (.ptr d 0 (g.1+1))
 |rs=>do
  let r<-Qoy d 0 rs outs
  backs sg.ps as os r.2
  wT d (match r.1 with| [(a,vs)]=> .val a vs|l=> .tup l)
def Qqo (E:Env) (D:Xz E) (np:Fx) (d f0:Nat) (as:List Cell):M γ Unit:=do
 let x<-Qsn E D f0 (Qoz E f0 as) as
 call2 np d (E.sig (Qoz E f0 as)) as x.1 (unpack _ x.2)
def QqV (E:Env) (D:Xz E) (np:Fx) (d f:Nat) (args:List Operand):M γ Unit:=do
 let as<-qU args
 Qqo E D np d f as
def Qwy (E:Env) (D:Xz E) (np:Fx) (d:Nat) (g:Operand) (args:List Operand):M γ Unit:=do
 let c<-opd g
 let as<-qU args
 match c with
 | .fn f caps=>Qqo E D np d f (as++caps.map fun(r,o,g)=> .ptr r o g)
 |_=>Qq
def Qnc (E:Env) (d:Nat) (b:Builtin) (args:List Operand) (tys:List Nat):M γ Unit:=do
 let as<-qU args
 match b,as,tys with
 | .len,[a],[t]=>do
   let TT<-tyM E t
   if TT.isStr then(match a with
    | .val false [.sc ⟨.str,s⟩]=>wT d (cI .i64 (ByteArray.size s:Nat))
    |_=>Qq)
   else do let TE<-slE E t;let v<-ofO (vc1 a);let n<-QpM TE.ts v;wT d (cI .i64 n)
 | .append,[s,x],[t,t']=>if t==t' then do let v<-ofO (vc1 s);let w<-ofO (vc1 x);Ql6 E d t v w else Qq
 | .max,[.val false [.sc ⟨.int k,a⟩], .val false [.sc ⟨.int k',b⟩]],_=>if k=k' then wT d (cI k (mxI a b))else Qq
 | .min,[.val false [.sc ⟨.int k,a⟩], .val false [.sc ⟨.int k',b⟩]],_=>if k=k' then wT d (cI k (mnI a b))else Qq
 |_,_,_=>Qq
def u8s:Tys:= .cons (.int .u8) .nil
def TI.QCb (T:TI):Bool:=match T.agg,T.ts with|false, .cons (.int .u8) .nil=>true|_,_=>false
def Qvd (E:Env) (d dst src:Nat) (c:Cell):M γ Unit:=do
 let TT<-tyM E dst
 let SS<-tyM E src
 match c with
 | .val false [.sc ⟨.int _,n⟩]=>do let k<-ofO TT.Qlr; wT d (cI k (k.wrap n))
 | .val false [.sc ⟨.str,s⟩]=>
   if TT.isStr then wT d c
   else do let TE<-slE E dst;if SS.isStr&&TE.QCb then wT d (one (.ro ⟨.sl u8s,ofBytes s⟩))else Qq
 | .val false [v]=>
   if TT.isStr then do let TE<-slE E src;if TE.QCb then(do let l<-elems u8s v;wT d (cS (QM l)))else Qq
   else do let TE<-slE E src;if TE.QCb&&src==dst then(match v with
    | .vw p=>do
      let(x,_,_)<-JD p
      let n<-ofO (QmT x)
      chk (Nat.blt 0 n)
      wT d (one (.ro x))
    |_=>Qq)else Qq
 |_=>Qq
def QoN:Option Operand->M γ (Option Int)
 |none=>pure none
 |some x=>do let c<-opd x;let n<-ofO (yj c);pure (some n)
def Qsm (E:Env) (T d:Nat) (c:Cell) (lo hi:Option Int):M γ Unit:=
 match c with
 | .val false [.sc ⟨.str,s⟩]=>do
   let TT<-tyM E T
   let h:Int:=hi.getD (ByteArray.size s)
   let l:Int:=lo.getD 0
   if TT.isStr then pure ()else Qq
   chk (decide (0<=l/\l<=h/\h<=(ByteArray.size s:Int)))
   wT d (cS (ByteArray.extract s l.toNat h.toNat))
 | .val false [v]=>do
   let TE<-slE E T
   let n<-QpM TE.ts v
   let h:Int:=hi.getD n
   let l:Int:=lo.getD 0
   chk (decide (0<=l/\l<=h/\h<=(n:Int)))
   match v with
   | .ro x=>do let y<-ofO (KX x l h);wT d (one (.ro y))
   | .vw p=>match p.rng with
     |none=>wT d (one (.vw {p with rng:=some (l,h)}))
     |some _=>Qq
   | .nilS=>wT d (one .nilS)
   |_=>Qq
 |_=>Qq
def ptrs? :List Cell->Option (List (Nat×Nat×Nat))
 | []=>some []
 | .ptr r o g::l=>match ptrs? l with|some m=>some ((r,o,g)::m)|none=>none
 |_=>none
def XQ:Op->Bool
 | .move _| .load .. | .store .. | .nilCheck _| .binOp .. | .unOp .. | .fieldAddr .. | .indexAddr .. | .index .. | .extract .. =>true
 |_=>false
def execOp (E:Env) (D:Xz E) (nk:Fx) (o:Oper):M γ Unit:=
 let d:=o.dst.getD 0
 if o.dst.isNone&& !XQ o.op then Qq else
 match o.op with
 | .move x=>do let c<-opd x;YD o.dst c
 | .assign x=>do
   let c<-opd x
   match c with
   | .val a vs=>do
     let TT<-tyM E o.type
     let g<-mB d
     if g.2==0 then do let ws<-xj d 0 TT.ts vs;wT d (.val a ws)else Qq
   |c=>wT d c
 | .pick c a b=>match c with
   | .tmp t=>fun k=> .brT t ((opd a:M γ Cell) fun x=>wT d x k) ((opd b:M γ Cell) fun x=>wT d x k)
   |_=>Qq
 | .alloc T=>if nk.QpQ d then Qq else do
   let TT<-tyM E T
   let g<-mB d
   wB d (g.1+1,TT.ts.len)
   zJ true d 0 TT.ts (QbH TT.ts)
   wT d (.ptr d 0 (g.1+1))
 | .box T x=>if nk.QpQ d then Qq else do
   let c<-opd x
   let vs<-ofO (QfP c)
   let TT<-tyM E T
   if Nat.beq vs.length TT.ts.len then pure ()else Qq
   let g<-mB d
   wB d (g.1+1,TT.ts.len)
   zJ true d 0 TT.ts vs
   wT d (.ptr d 0 (g.1+1))
 | .build T parts=>do
   let TT<-tyM E T
   if TT.agg then pure ()else Qq
   let vs<-vb TT (QbH TT.ts) parts.toList
   wT d (.val true vs)
 | .buildSlice T len parts=>do
   let TE<-slE E T
   let ts:=TE.ts
   let ps<-QbI parts.toList
   if ps.all (fun p=>Nat.blt p.1 len)then pure ()else Qq
   let deep<-Qj1 ts ps
   let row<-QjX deep ts (List.replicate len (Tys.zero ts)) ps
   if len*ts.len<=1024/\len<=1024 then do
    let v<-Qdy d 0 ⟨.sl ts,(show List (Qm ts)from row)⟩ deep
    wT d (one v)
   else Qq
 | .load T a=>do let TT<-tyM E T;let c<-opd a;let v<-loadAt TT c;YD o.dst v
 | .store T a x=>do
   let c<-opd a
   let v<-opd x
   let vs<-ofO (QfP v)
   let TT<-tyM E T
   if Nat.beq vs.length TT.ts.len then pure ()else Qq
   storeAt (match c with| .ptr r _ _=> !nk.keep.contains r|_=>true) TT c vs
   YD o.dst .dead
 | .nilCheck x=>do
   let c<-opd x
   match c with
   | .ptr .. =>YD o.dst c
   | .eptr .. =>YD o.dst c
   | .rptr .. =>YD o.dst c
   |_=>Qq
 | .binOp op T x y _=>do let TT<-tyM E T;let a<-opd x;let b<-opd y;let c<-Qmm TT op a b;YD o.dst c
 | .unOp op _ x=>do
   let c<-opd x
   match op,c with
   | .not, .val false [.sc ⟨.bool,b⟩]=>YD o.dst (cB (not b))
   | .neg, .val false [.sc ⟨.int k,n⟩]=>YD o.dst (cI k (k.wrap (0 - (show Int from n))))
   |_,_=>Qq
 | .convert src dst x=>do let c<-opd x;Qvd E d dst src c
 | .makeSlice T l c=>do
   let a<-opd l
   let b<-opd c
   let n<-ofO (yj a)
   let m<-ofO (yj b)
   let TE<-slE E T
   let ts:=TE.ts
   chk (Nat.blt 0 TE.bytes&&(decide (0<=n/\n=m)&&fits n.toNat TE.bytes))
   let v<-Qdy d 0 ⟨.sl ts,(show List (Qm ts)from List.replicate n.toNat (Tys.zero ts))⟩ true
   wT d (one v)
 | .slice T x lo hi none=>do
   let c<-opd x
   let l<-QoN lo
   let h<-QoN hi
   Qsm E T d c l h
 | .fieldAddr T x f=>do
   let c<-opd x
   let TT<-tyM E T
   let off<-ofO (TT.fo[f]?)
   if TT.agg&&Nat.blt 0 (TT.fsz f)then pure ()else Qq
   let r<-ofO (Qqs off c)
   YD o.dst r
 | .indexAddr T x ix=>do
   let c<-opd x
   let v<-ofO (vc1 c)
   let ci<-opd ix
   let i<-ofO (yj ci)
   let TE<-slE E T
   let n<-QpM TE.ts v
   chk (inb i n)
   match v with
   | .ro y=>YD o.dst (.rptr y i 0)
   | .vw p=>YD o.dst (.eptr p i 0)
   |_=>Qq
 | .index T x ix=>do
   let TT<-tyM E T
   if TT.isStr then pure ()else Qq
   let c<-opd x
   let s<-ofO (QwH c)
   let ci<-opd ix
   let i<-ofO (yj ci)
   chk (inb i s.size)
   YD o.dst (cI .u8 ((ofBytes s).getD i.toNat 0))
 | .extract t i=>do
   let c<-opd t
   match c with
   | .tup cs=>match cs[i]? with
     |some (a,vs)=>YD o.dst (.val a vs)
     |none=>Qq
   |_=>Qq
 | .makeFunc (.func g) first caps=>if first.size==0 then do
    let cs<-qU caps.toList
    let l<-ofO (ptrs? cs)
    wT d (.fn g l)
   else Qq
 | .call {callee:= .value (.func f),args, .. }=>QqV E D nk d f args.toList
 | .call {callee:= .value (.tmp t),args, .. }=>Qwy E D nk d (.tmp t) args.toList
 | .call {callee:= .builtin b,args,argTypes}=>Qnc E d b args.toList argTypes.toList
 |_=>Qq
def xW (E:Env) (D:Xz E) (nk:Fx) (ops:List Oper) (o:Oper):M γ Unit:=
 match o.guard with
 |none=>execOp E D nk o
 |some (j,want)=>match(ops[j]?).bind (·.dst)with
  |some t=>fun k=> .brG t want ((execOp E D nk o:M γ Unit) k) ((YD o.dst .und:M γ Unit) k)
  |none=>Qq
end
def KG (m:M Unit Unit):RP Unit:=m fun _=> .ret ()
def QpT {β:Type}(E:Env) (D:Xz E) (nk:Fx) (all:List Oper):List Oper->St->(St->Option β)->Option β
 | [],s,K=>K s
 |o::l,s,K=>(KG (xW E D nk all o)).ev s fun _ s'=>QpT E D nk all l s' K
def befores (ops:List Oper):List Nat:=
 ops.foldl (init:=[]) fun acc o=>acc++[o.after.toList.foldl (fun s e=>if Region.binds .any e then s|||2^e.on|||lget 0 acc e.on else s) 0]
def meet (a b:List Rs):Bool:=a.any fun x=>b.any fun y=>x.eq y
def apart (a b:Tr):Bool:= !(meet a.ds b.us||meet a.ds b.ds||meet a.us b.ds)
def Qlw (bs:List Nat):Nat->List Tr->Bool
 |_,[]=>true
 |i,a::l=>(l.zipIdx (i+1)).all (fun(b,j)=>(lget 0 bs j).testBit i||apart a b)&&Qlw bs (i+1) l
def Qpj (ops:List Oper):Bool:=ops.zipIdx.all fun(o,i)=>o.after.toList.all fun e=> !Region.binds .any e||Nat.blt e.on i
def QgO {β:Type}(E:Env) (D:Xz E) (nk:Fx) (all:List Oper):List Oper->List Tr->St->(St->Option β)->Option β
 | [],trs,s,K=>if Qlw (befores all) 0 trs&&Qpj all then K s else none
 |o::l,trs,s,K=>(KG (xW E D nk all o)).evT s ⟨[],[]⟩ fun _ s' t=>QgO E D nk all l (trs++[t]) s' K
def SkV.tys:SkV->List Ty
 | .sc t=>[t]| .ro t=>[t]|_=>[]
def SkT.tys:SkT->List Ty
 | .val _ vs=>vs.flatMap SkV.tys
 | .ptr .. =>[]| .fn .. =>[]
def SkC.tys:SkC->List Ty
 | .sc t=>[t]| .ro t=>[t]| .fix t=>[t]| .own t _ _=>[t]| .vw .. =>[]| .nest .. =>[.int .i64]
def QMo:List Ty->Tys
 | []=> .nil
 |t::l=> .cons t (QMo l)
def Sk.tys (sk:Sk):Tys:=QMo ((sk.tm.flatMap fun e=>e.2.tys)++sk.cn.flatMap fun e=>e.2.2.tys)
def QgC:Nat->St->Pl->Option (Nat×Nat)
 |0,_,_=>none
 |n+1,s,p=>
  let c:=s.gC p.r p.k
  if c.id==p.id&&p.nest.isNone&&p.rng.isNone then
   match c.st with
   | .vw q=>QgC n s q
   |_=>some (p.r,p.k)
  else none
def at? (s:St) (p:Pl) (r k:Nat):Bool:=match QgC 8 s p with|some (a,b)=>a==r&&b==k|none=>false
def QrH (t:Ty) (x:TV):Option (List TV):=match x.as t with|some v=>some [⟨t,v⟩]|none=>none
def Qry (s:St):SkV->VC->Option (List TV)
 | .sc t, .sc x=>QrH t x
 | .ro t, .ro x=>QrH t x
 | .nilS, .nilS=>some []
 | .vw r k, .vw p=>if at? s p r k then some []else none
 |_,_=>none
def Qgm (s:St):List SkV->List VC->Option (List TV)
 | [],[]=>some []
 |a::l,v::vs=>match Qry s a v,Qgm s l vs with|some x,some y=>some (x++y)|_,_=>none
 |_,_=>none
def Qau (s:St):List (Nat×Nat)->List (Nat×Nat×Nat)->Bool
 | [],[]=>true
 |(r,o)::l,(r',o',g)::l'=>r==r'&&o==o'&&g==(s.gB r).1&&Qau s l l'
 |_,_=>false
def QpG (s:St):SkT->Cell->Option (List TV)
 | .val a vs, .val a' ws=>if a==a' then Qgm s vs ws else none
 | .ptr r o, .ptr r' o' g=>if r==r'&&o==o'&&g==(s.gB r).1 then some []else none
 | .fn g l, .fn g' l'=>if g==g'&&Qau s l l' then some []else none
 |_,_=>none
def Qqr:Option (Nat×Nat)->Option (Nat×Nat)->Bool
 |none,none=>true
 |some (a,b),some (c,d)=>a==c&&b==d
 |_,_=>false
def QFD:CSt->Bool
 | .own .. =>true
 |_=>false
def Qfo (s:St):SkC->CSt->Option (List TV)
 | .sc t, .sc x=>QrH t x
 | .ro t, .ro x=>QrH t x
 | .fix t, .fix x=>QrH t x
 | .own t d tag, .own x d' tag'=>if(d'|| !d)&&Qqr tag tag' then QrH t x else none
 | .vw r k, .vw p=>if at? s p r k then some []else none
 | .nest r k m, .vw p=>match p.nest,p.rng with
   |some (i,m'),none=>let c:=s.gC r k;if p.r==r&&p.k==k&&m==m'&&c.id==p.id&&c.nv==p.nv&&QFD c.st then some [⟨.int .i64,i⟩]else none
   |_,_=>none
 |_,_=>none
def Qcp (s:St):List (Nat×SkT)->Option (List TV)
 | []=>some []
 |(i,a)::l=>match QpG s a (s.gT i),Qcp s l with|some x,some y=>some (x++y)|_,_=>none
def yQ (s:St):List (Nat×Nat×SkC)->Option (List TV)
 | []=>some []
 |(r,k,a)::l=>match Qfo s a (s.gC r k).st,yQ s l with|some x,some y=>some (x++y)|_,_=>none
def listed (l:List (Nat×Nat×SkC)) (r k:Nat):Bool:=l.any fun e=>Nat.beq e.1 r&&Nat.beq e.2.1 k
def Qqc (f:Nat->Bool):Nat->Bool
 |0=>true
 |n+1=>f n&&Qqc f n
def QPi (sk:Sk) (s:St):Bool:=sk.bx.all fun b=>Qqc (fun k=> !(s.gI b.1 k).sh.jd||listed sk.cn b.1 k) b.2
def dec (sk:Sk) (s:St):Option (Qm sk.tys):=
 match Qcp s sk.tm,yQ s sk.cn,sk.bx.all (fun b=>Nat.beq (s.gB b.1).2 b.2)&&QPi sk s with
 |some x,some y,true=>pack sk.tys (x++y)
 |_,_,_=>none
def QMG:SkV->List TV->VC×List TV
 | .sc _,x::xs=>(.sc x,xs)
 | .ro _,x::xs=>(.ro x,xs)
 | .vw r k,xs=>(.vw ⟨r,k,0,0,none,none⟩,xs)
 | .nilS,xs=>(.nilS,xs)
 |_,[]=>(.bad,[])
def QAS:List SkV->List TV->List VC×List TV
 | [],xs=>([],xs)
 |a::l,xs=>let(v,r):=QMG a xs;let(vs,r'):=QAS l r;(v::vs,r')
def Qjs:List (Nat×SkT)->List TV->List Cell->List Cell×List TV
 | [],xs,tm=>(tm,xs)
 |(i, .val a vs)::l,xs,tm=>let(ws,r):=QAS vs xs;Qjs l r (lset .dead tm i (.val a ws))
 |(i, .ptr r o)::l,xs,tm=>Qjs l xs (lset .dead tm i (.ptr r o 0))
 |(i, .fn g cs)::l,xs,tm=>Qjs l xs (lset .dead tm i (.fn g (cs.map fun(r,o)=>(r,o,0))))
def QMq:SkC->List TV->CSt×List TV
 | .sc _,x::xs=>(.sc x,xs)
 | .ro _,x::xs=>(.ro x,xs)
 | .fix _,x::xs=>(.fix x,xs)
 | .own _ d tag,x::xs=>(.own x d tag,xs)
 | .vw r k,xs=>(.vw ⟨r,k,0,0,none,none⟩,xs)
 | .nest r k m,x::xs=>(match x with|⟨.int .i64,i⟩=> .vw ⟨r,k,0,0,some (i,m),none⟩|_=> .dead,xs)
 |_,[]=>(.dead,[])
def yN:List (Nat×Nat×SkC)->List TV->St->St
 | [],_,s=>s
 |(r,k,a)::l,xs,s=>let(c,rest):=QMq a xs;yN l rest (s.sC r k (mkC 0 0 c))
def enc (n:Nat) (sk:Sk) (v:Qm sk.tys):St:=
 let(tm,rest):=Qjs sk.tm (unpack sk.tys v) []
 yN sk.cn rest ⟨n,tm,[],sk.bx.foldl (fun l b=>lset (0,0) l b.1 (0,b.2)) []⟩
abbrev Vc (l:List (Ex×Sk)):List Tys:=l.map fun e=>e.2.tys
abbrev zc (E:Env):=(f b:Nat)->Qm (E.lsig f b).sk.tys->Option (qW (Vc (E.lsig f b).exits))
def inj:(l:List (Ex×Sk))->Ex->St->Option (qW (Vc l))
 | [],_,_=>none
 | [(e',sk)],e,s=>if e.eq e' then dec sk s else none
 |(e',sk)::a::l,e,s=>match(if e.eq e' then dec sk s else none)with
  |some v=>some (Sum.inl v)
  |none=>match inj (a::l) e s with|some v=>some (Sum.inr v)|none=>none
def Qy0 {β:Type}(n:Nat):(l:List (Ex×Sk))->qW (Vc l)->(Ex->St->Option β)->Option β
 | [],_,_=>none
 | [(e,sk)],v,K=>K e (enc n sk v)
 |(e,sk)::a::l,z,K=>Sum.elim (fun v=>K e (enc n sk v)) (fun z'=>Qy0 n (a::l) z' K) z
def QhS {β:Type}(E:Env) (L:zc E) (f:Nat) (s:St) (K:Ex->St->Option β):List Nat->Option β
 | []=>none
 |b::l=>if E.lok f b then match dec (E.lsig f b).sk s with
  |some v=>(L f b v).bind fun z=>Qy0 (E.nt f) (E.lsig f b).exits z K
  |none=>QhS E L f s K l
  else none
def ev {β:Type}(E:Env) (D:Xz E) (L:zc E) (f:Nat):Code->St->(Ex->St->Option β)->Option β
 | .skip,s,K=>K .normal s
 | .region _ ops draw,s,K=>
   if draw then QgO E D (E.fx f) ops.toList ops.toList [] s fun s'=>K .normal s' else QpT E D (E.fx f) ops.toList ops.toList s fun s'=>K .normal s'
 | .seq a b,s,K=>ev E D L f a s fun e s'=>match e with| .normal=>ev E D L f b s' K|e=>K e s'
 | .cond c a b,s,K=>match c with
   | .tmp t=>match Xt (s.gT t)with
     |some v=>bif v then ev E D L f a (s.sT t (mkB true)) K else ev E D L f b (s.sT t (mkB false)) K
     |none=>none
   | .const (.bool v)=>bif v then ev E D L f a s K else ev E D L f b s K
   |_=>none
 | .block b (.loop _),s,K=>QhS E L f s (fun e s'=>match e with| .exit i=>if i==b then K .normal s' else K e s'|e=>K e s') (E.vars f b)
 | .block id c,s,K=>ev E D L f c s fun e s'=>match e with| .exit i=>if i==id then K .normal s' else K e s'|e=>K e s'
 | .exit id,s,K=>K (.exit id) s
 | .ret,s,K=>K .ret s
 |_,_,_=>none
def inV:Mode->Ty->Nat->Nat->TV->VC×Con
 |m,t,p,k,x=>if QN t then(match m with
   | .ro=>(.ro x,yE)
   | .mut=>(.vw ⟨p,k,0,0,none,none⟩,mkC 0 0 (.own x true (some (p,k))))
   |_=>(.vw ⟨p,k,0,0,none,none⟩,mkC 0 0 (.own x true none)))else(.sc x,yE)
def QCw (p:Nat):Nat->List (Mode×Ty)->List TV->(List VC×List Con)×List TV
 |_,[],xs=>(([],[]),xs)
 |k,(m,t)::l,x::xs=>let(v,c):=inV m t p k x;let((vs,cs),r):=QCw p (k+1) l xs;((v::vs,c::cs),r)
 |_,_::_,[]=>(([],[]),[])
def inP:List (Mode×Ty)->List TV->List Con×List TV
 | [],xs=>([],xs)
 |(m,t)::l,x::xs=>let c:Con:=mkC 0 0 (match m with| .ro=> .fix x|_=>if QN t then .own x true none else .sc x);let(cs,r):=inP l xs;(c::cs,r)
 |_::_,[]=>([],[])
def Qc6 (b:Nat):List (List (Mode×Ty))->List TV->St->St×List TV
 | [],xs,s=>(s,xs)
 |cs::l,xs,s=>let(c,r):=inP cs xs;Qc6 (b+1) l r {s with cn:=lset [] s.cn b c,bx:=lset (0,0) s.bx b (0,cs.length)}
def Qgx:Nat->List PSig->List TV->St->St
 |_,[],_,s=>s
 |p, .val a cs::l,xs,s=>let((vs,c),r):=QCw p 0 cs xs;Qgx (p+1) l r {s with tm:=lset .dead s.tm p (.val a vs),cn:=lset [] s.cn p c}
 |p, .ptr cs::l,xs,s=>let(c,r):=inP cs xs;Qgx (p+1) l r {s with tm:=lset .dead s.tm p (.ptr p 0 0),cn:=lset [] s.cn p c,bx:=lset (0,0) s.bx p (0,cs.length)}
 |p, .fn g caps::l,xs,s=>let(s',r):=Qc6 (200+8*p) caps xs {s with tm:=lset .dead s.tm p (.fn g ((List.range caps.length).map fun j=>(200+8*p+j,0,0)))};Qgx (p+1) l r s'
def init (n:Nat) (sg:Sig) (a:Qm sg.ins):St:=Qgx 0 sg.ps (unpack sg.ins a) ⟨n,[],[],[]⟩
section
variable {γ:Type}
def QyF (E:Env):ResultVar->M γ Cell
 | .tmp t=>mT t
 | .cell a T=>do let TT<-tyM E T;let c<-mT a;loadAt TT c
def QGx (ps:List (Nat×Nat)) (m:Mode) (t:Ty) (v:VC):M γ (Val t×List (Nat×Nat)):=
 if QN t then
  match m,v with
  | .ro, .ro x=>do let y<-ofO (x.as t);pure (y,ps)
  | .ro, .vw p=>if ps.isEmpty then(do let x<-JD p;let y<-ofO (x.1.as t);pure (y,[]))else Qq
  | .ro,_=>Qq
  | .top, .vw p=>if ps.isEmpty then(do let x<-JD p;let y<-ofO (x.1.as t);pure (y,[]))else Qq
  |_, .nilS=>do let y<-QdR t v;pure (y,ps)
  |_, .vw p=>do
   let(q,c)<-J3 p
   match c.st,q.nest with
   | .own x true _,none=>do
     wC q.r q.k (mkC c.id c.nv .dead)
     let z<-ofO (Yq x q.rng)
     let y<-ofO (z.as t)
     pure (y,ps)
   | .own x true _,some (i,j)=>do
     wC q.r q.k (mkC c.id c.nv (.part x i j))
     let y<-ofO (Zm x i j)
     let z<-ofO (Yq y q.rng)
     let y<-ofO (z.as t)
     pure (y,(q.r,q.k)::ps)
   | .part x i' j',some (i,j)=>
     if ps.any fun z=>z.1==q.r&&z.2==q.k then do
      chk (decide (i=i')&&Nat.blt j' j)
      wC q.r q.k (mkC c.id c.nv (.part x i j))
      let y<-ofO (Zm x i j)
      let z<-ofO (Yq y q.rng)
      let y<-ofO (z.as t)
      pure (y,ps)
     else Qq
   |_,_=>Qq
  |_,_=>Qq
 else do let y<-QdR t v;pure (y,ps)
def Qsu:List (Nat×Nat)->List (Mode×Ty)->List VC->M γ (List TV×List (Nat×Nat))
 |ps,[],[]=>pure ([],ps)
 |ps,(.junk,_)::l,_::vs=>Qsu ps l vs
 |ps,(m,t)::l,v::vs=>do let a<-QGx ps m t v;let r<-Qsu a.2 l vs;pure (⟨t,a.1⟩::r.1,r.2)
 |_,_,_=>Qq
def QpE (E:Env):List ResultVar->M γ (List Cell)
 | []=>pure []
 |r::rs=>do let c<-QyF E r;let cs<-QpE E rs;pure (c::cs)
def Qso (fx:Fx):List (Nat×Nat)->List PSig->List Cell->M γ (List TV)
 |_,[],[]=>pure []
 |ps, .val a cs::l, .val a' vs::rs=>if a==a' then do let x<-Qsu ps cs vs;let y<-Qso fx x.2 l rs;pure (x.1++y)else Qq
 |ps, .ptr cs::l, .ptr r 0 g::rs=>do
  let g'<-mB r
  if g'.1==g&&Nat.beq g'.2 cs.length&&Nat.blt 0 cs.length&& !fx.QpQ r then do let vs<-ym r 0 cs.length;wB r (g'.1+1,0);let x<-Qsu ps cs vs;let y<-Qso fx x.2 l rs;pure (x.1++y)else Qq
 |_,_,_=>Qq
def QE9 (E:Env) (fx:Fx) (l:List PSig) (rs:List ResultVar):M γ (List TV):=do
 let cs<-QpE E rs
 Qso fx [] l cs
def QGW (p k:Nat) (t:Ty):M γ TV:=
 if QN t then do
  let(q,c)<-J3 ⟨p,k,0,0,none,none⟩
  match c.st with
  | .own x true tag=>if Qqr tag (some (p,k))then do Qgv x.t t;wC q.r q.k (mkC c.id c.nv .dead);pure x else Qq
  |_=>Qq
 else Qq
def QoC (p:Nat):Nat->List (Mode×Ty)->M γ (List TV)
 |_,[]=>pure []
 |k,(.mut,t)::l=>do
  let x<-QGW p k t
  let r<-QoC p (k+1) l
  pure (x::r)
 |k,_::l=>QoC p (k+1) l
def QFQ (p k:Nat) (t:Ty):M γ TV:=do
 let c<-mC p k
 if QN t then(match c.st with
  | .own x true _=>do Qgv x.t t;wC p k (mkC c.id c.nv .dead);pure x
  | .vw q=>do let(x,dp,_)<-JD q;if dp then do Qgv x.t t;pure x else Qq
  |_=>Qq)
 else(match c.st with| .sc x=>do Qgv x.t t;pure x|_=>Qq)
def QkW (p:Nat):Nat->List (Mode×Ty)->M γ (List TV)
 |_,[]=>pure []
 |k,(.mut,t)::l=>do
  let x<-QFQ p k t
  let r<-QkW p (k+1) l
  pure (x::r)
 |k,_::l=>QkW p (k+1) l
def QfR:Nat->List PSig->M γ (List TV)
 |_,[]=>pure []
 |p, .val _ cs::l=>do let x<-QoC p 0 cs;let y<-QfR (p+1) l;pure (x++y)
 |p, .ptr cs::l=>do let x<-QkW p 0 cs;let y<-QfR (p+1) l;pure (x++y)
 |p, .fn _ _::l=>QfR (p+1) l
end
def finish (E:Env) (f:Nat):RP (Qm (E.sig f).outs):=
 (QE9 E (E.fx f) (E.sig f).rs (E.res f):M _ _) fun a=>(QfR 0 (E.sig f).ps:M _ _) fun b=>(ofO (pack (E.sig f).outs (a++b)):M _ _) fun v=> .ret v
def QQP (E:Env) (f:Nat) (e:Ex) (s:St):Option (Qm (E.sig f).outs):=match e with
 | .normal=>(finish E f).ev s fun v _=>some v
 | .ret=>(finish E f).ev s fun v _=>some v
 |_=>none
def QMc (E:Env) (D:Xz E) (L:zc E) (f:Nat) (a:Qm (E.sig f).ins):Option (Qm (E.sig f).outs):=ev E D L f (E.code f) (init (E.nt f) (E.sig f) a) (QQP E f)
def QfQ (E:Env) (D:Xz E) (L:zc E):Xz E:=fun f a=>match E.ext f with
 |some h=>h a
 |none=>QMc E D L f a
def Qa6 (E:Env) (L:zc E) (f b:Nat) (s:St):List Nat->Option (qW (Vc (E.lsig f b).exits))
 | []=>none
 |b'::l=>if E.lok f b' then match dec (E.lsig f b').sk s with
  |some v=>(L f b' v).bind fun z=>Qy0 (E.nt f) (E.lsig f b').exits z fun e s'=>inj (E.lsig f b).exits e s'
  |none=>Qa6 E L f b s l
  else none
def QFX (E:Env) (L:zc E) (f b:Nat) (e:Ex) (s:St):Option (qW (Vc (E.lsig f b).exits)):=match e with
 | .normal=>match dec (E.lsig f b).sk s with
   |some v'=>L f b v'
   |none=>Qa6 E L f b s (E.vars f b)
 |e=>inj (E.lsig f b).exits e s
def Qf2 (E:Env) (D:Xz E) (L:zc E):zc E:=fun f b v=>ev E D L f (E.body f b) (enc (E.nt f) (E.lsig f b).sk v) (QFX E L f b)
inductive BT (α:Type) where
 |leaf
 |node (k:Nat) (v:α) (l r:BT α)
def BT.get {α:Type}(d:α):BT α->Nat->α
 | .leaf,_=>d
 | .node k v l r,n=>bif Nat.beq n k then v else bif Nat.blt n k then l.get d n else r.get d n
def BT.has {α:Type}:BT α->Nat->Bool
 | .leaf,_=>false
 | .node k _ l r,n=>bif Nat.beq n k then true else bif Nat.blt n k then l.has n else r.has n
def ZF:Code->Nat->Option Code
 | .block b (.loop c),n=>bif Nat.beq b n then some c else ZF c n
 | .block _ c,n=>ZF c n
 | .seq a b,n=>match ZF a n with|some c=>some c|none=>ZF b n
 | .cond _ a b,n=>match ZF a n with|some c=>some c|none=>ZF b n
 | .loop c,n=>ZF c n
 | .scope c,n=>ZF c n
 |_,_=>none
def jq (f:Func):Code:=f.body.getD .skip
def QpZ (ty:BT TI) (sig:BT Sig) (code:BT Func) (lsig:BT LSig) (vars:BT (List Nat)) (inst:BT Nat) (keep:BT (List Nat)) (real:BT Nat) (ext:(f:Nat)->Option (Qm (sig.get ⟨[],[]⟩ f).ins->Option (Qm (sig.get ⟨[],[]⟩ f).outs))) (gg:Glob:=Glob.none):Env where
 ty:=ty.get ⟨false,false, .nil,0,0,[],false⟩
 sig:=sig.get ⟨[],[]⟩
 code f:=jq (code.get default f)
 res f:=(code.get default f).results.toList
 lsig f b:=lsig.get ⟨⟨[],[],[]⟩,[]⟩ (f*10000+b)
 body f b:=(ZF (jq (code.get default f)) (b % 1000)).getD .skip
 vars f b:=vars.get [b % 1000] (f*10000+b % 1000)
 inst f g:=inst.get f (f*10000+g)
 keep:=keep.get []
 nt f:=(code.get default f).ntmps
 real f:=real.get f f
 fok f:=code.has f
 lok f b:=Nat.blt b 10000&&lsig.has (f*10000+b)
 gg:=gg
 ext:=ext
end Go.Eng
namespace Go.Eng
def rd1 {α:Type}(d:α) (xs:List α) (i:Int):α:=xs.getD i.toNat d
def Qn {α β γ:Type}(z:α⊕β) (f:α->γ) (g:β->γ):γ:=Sum.elim f g z
end Go.Eng
namespace Go.Eng
open Go
def vl {ts:Tys}(xs:Val (.sl ts)):List (Qm ts):=xs
def Cells (w:World) (a:Addr) (off:Nat) (us:List Value):Prop:=∀j u,us[j]? =some u->w.cell? (a.add (off+j))=some u
mutual
def Rep (w:World):(t:Ty)->Val t->Value->List Nat->Prop
 | .int k,n,u,bl=>u= .int k n/\bl=[]
 | .bool,b,u,bl=>u= .bool b/\bl=[]
 | .str,s,u,bl=>u= .string s/\bl=[]
 | .sl ts,xs,u,bl=>∃ad cap,u= .slice ad (vl xs).length cap/\((vl xs).length<=cap/\(ad=none->cap=0))/\
    ((vl xs=[]/\bl=[])\/∃(a:Addr) (bls:List (List Nat)),ad=some a/\bl=a.block::bls.flatten/\bls.length=(vl xs).length/\
      ∀(i:Nat) (x:Qm ts) (b:List Nat),(vl xs)[i]? =some x->bls[i]? =some b->∃us,Cells w a (i*ts.len) us/\XF w ts x us b)
def XF (w:World):(ts:Tys)->Qm ts->List Value->List Nat->Prop
 | .nil,_,us,bl=>us=[]/\bl=[]
 | .cons t ts,x,us,bl=>∃u us' b1 b2,us=u::us'/\bl=b1++b2/\Rep w t (vhd x) u b1/\XF w ts (vtl x) us' b2
end
mutual
def Own (w:World) (R:Nat->Prop) (deep:Bool):(t:Ty)->Val t->Value->List Nat->Prop
 | .int k,n,u,bl=>u= .int k n/\bl=[]
 | .bool,b,u,bl=>u= .bool b/\bl=[]
 | .str,s,u,bl=>u= .string s/\bl=[]
 | .sl ts,xs,u,bl=>(vl xs=[]/\u= .slice none 0 0/\bl=[])\/
    ∃(g off cap:Nat) (cur:Array Value) (e:TypeId) (bls:List (List Nat)),u= .slice (some ⟨g,off,none⟩) (vl xs).length cap/\w.heap[g]? =some (.cells cur e (0,0))/\(vl xs).length<=cap/\cap<=maxLen/\off+cap*ts.len<=cur.size/\
     bl=g::bls.flatten/\bls.length=(vl xs).length/\
     ∀(i:Nat) (x:Qm ts) (b:List Nat),(vl xs)[i]? =some x->bls[i]? =some b->∃us,Cells w ⟨g,off,none⟩ (i*ts.len) us/\QT w R deep ts x us b
def QT (w:World) (R:Nat->Prop) (deep:Bool):(ts:Tys)->Qm ts->List Value->List Nat->Prop
 | .nil,_,us,bl=>us=[]/\bl=[]
 | .cons t ts,x,us,bl=>∃u us' b1 b2,us=u::us'/\bl=b1++b2/\
    (if deep then Own w R deep t (vhd x) u b1 else b1=[]/\∃b',Rep w t (vhd x) u b'/\∀b∈b',R b)/\QT w R deep ts (vtl x) us' b2
end
def Yr (w:World) (R:Nat->Prop) (deep:Bool) (t:Ty) (v:Val t) (u:Value) (bl:List Nat):Prop:=
 if deep then Own w R deep t v u bl else bl=[]/\∃b',Rep w t v u b'/\∀b∈b',R b
def Q5 (w w':World) (b:Nat):Prop:=w'.heap[b]? =w.heap[b]?
theorem Q5.cell {w w':World}{a:Addr}(h:Q5 w w' a.block):w'.cell? a=w.cell? a:=World.cell?_of_block h
theorem Q5.refl (w:World) (b:Nat):Q5 w w b:=rfl
theorem Q5.trans {a b c:World}{k:Nat}(h:Q5 a b k) (h':Q5 b c k):Q5 a c k:=Eq.trans h' h
theorem QrJ (a:Addr) (n:Nat):(a.add n).block=a.block:=by unfold Addr.add;split<;>rfl
theorem add_plain (g o j:Nat):(⟨g,o,none⟩:Addr).add j=⟨g,o+j,none⟩:=by unfold Addr.add;split<;>simp_all
theorem add_zero (a:Addr):a.add 0=a:=by simp[Addr.add]
theorem Cells.frame {w w':World}{a:Addr}{off:Nat}{us:List Value}(h:Cells w a off us) (hs:Q5 w w' a.block):Cells w' a off us:=
 fun j u hj=>by rw[Q5.cell (by rw[QrJ];exact hs)];exact h j u hj
mutual
theorem Rep.frame {w w':World}:(t:Ty)->(v:Val t)->(u:Value)->(bl:List Nat)->Rep w t v u bl->(∀b∈bl,Q5 w w' b)->Rep w' t v u bl
 | .int _,_,_,_,h,_=>h
 | .bool,_,_,_,h,_=>h
 | .str,_,_,_,h,_=>h
 | .sl ts,xs,u,bl,h,hs=>by
   obtain⟨ad,cap,hu,hcap,h⟩:=h
   refine⟨ad,cap,hu,hcap, ?_⟩
   rcases h with h|⟨a,bls,ha,hb,hl,hc⟩
   ·exact .inl h
   ·refine .inr ⟨a,bls,ha,hb,hl,fun i x b hx hbb=> ?_⟩
    obtain⟨us,h1,h2⟩:=hc i x b hx hbb
    exact⟨us,h1.frame (hs a.block (by rw[hb];simp)),XF.frame ts x us b h2 (fun c hcb=>hs c (by rw[hb];exact List.mem_cons_of_mem _ (QY9.2 ⟨b,QY22 hbb,hcb⟩)))⟩
theorem XF.frame {w w':World}:(ts:Tys)->(x:Qm ts)->(us:List Value)->(bl:List Nat)->XF w ts x us bl->(∀b∈bl,Q5 w w' b)->XF w' ts x us bl
 | .nil,_,_,_,h,_=>h
 | .cons t ts,x,us,bl,h,hs=>by
   obtain⟨u,us',b1,b2,hc,hb,h1,h2⟩:=h
   exact⟨u,us',b1,b2,hc,hb,Rep.frame t _ u b1 h1 (fun b hm=>hs b (by rw[hb];simp[hm])),XF.frame ts _ us' b2 h2 (fun b hm=>hs b (by rw[hb];simp[hm]))⟩
end
mutual
theorem Own.frame {w w':World}{R:Nat->Prop}{deep:Bool}:(t:Ty)->(v:Val t)->(u:Value)->(bl:List Nat)->Own w R deep t v u bl->(∀b∈bl,Q5 w w' b)->(∀b,R b->Q5 w w' b)->Own w' R deep t v u bl
 | .int _,_,_,_,h,_,_=>h
 | .bool,_,_,_,h,_,_=>h
 | .str,_,_,_,h,_,_=>h
 | .sl ts,xs,u,bl,h,hs,hR=>by
   rcases h with h|⟨g,off,cap,cur,e,bls,hu,hg,h1,h2,h3,hb,hl,hc⟩
   ·exact .inl h
   ·have hsg:=hs g (by rw[hb];simp)
    refine .inr ⟨g,off,cap,cur,e,bls,hu,Eq.trans hsg hg,h1,h2,h3,hb,hl,fun i x b hx hbb=> ?_⟩
    obtain⟨us,k1,k2⟩:=hc i x b hx hbb
    exact⟨us,k1.frame hsg,QT.frame ts x us b k2 (fun c hcb=>hs c (by rw[hb];exact List.mem_cons_of_mem _ (QY9.2 ⟨b,QY22 hbb,hcb⟩))) hR⟩
theorem QT.frame {w w':World}{R:Nat->Prop}{deep:Bool}:(ts:Tys)->(x:Qm ts)->(us:List Value)->(bl:List Nat)->QT w R deep ts x us bl->(∀b∈bl,Q5 w w' b)->(∀b,R b->Q5 w w' b)->QT w' R deep ts x us bl
 | .nil,_,_,_,h,_,_=>h
 | .cons t ts,x,us,bl,h,hs,hR=>by
   obtain⟨u,us',b1,b2,hc,hb,h1,h2⟩:=h
   refine⟨u,us',b1,b2,hc,hb, ?_,QT.frame ts _ us' b2 h2 (fun b hm=>hs b (by rw[hb];simp[hm])) hR⟩
   cases deep with
   |true=>exact Own.frame t _ u b1 h1 (fun b hm=>hs b (by rw[hb];simp[hm])) hR
   |false=>
    obtain⟨e,b',hr,hb'⟩:=h1
    exact⟨e,b',Rep.frame t _ u b' hr (fun b hm=>hR b (hb' b hm)),hb'⟩
end
theorem Yr.frame {w w':World}{R:Nat->Prop}{deep:Bool}{t:Ty}{v:Val t}{u:Value}{bl:List Nat}(h:Yr w R deep t v u bl) (hs:∀b∈bl,Q5 w w' b) (hR:∀b,R b->Q5 w w' b):Yr w' R deep t v u bl:=by
 cases deep with
 |true=>exact Own.frame t v u bl h hs hR
 |false=>obtain⟨e,b',hr,hb'⟩:=h;exact⟨e,b',Rep.frame t _ u b' hr (fun b hm=>hR b (hb' b hm)),hb'⟩
mutual
theorem Own.mono {w:World}{R R':Nat->Prop}(hR:∀b,R b->R' b) {deep:Bool}:(t:Ty)->(v:Val t)->(u:Value)->(bl:List Nat)->Own w R deep t v u bl->Own w R' deep t v u bl
 | .int _,_,_,_,h=>h
 | .bool,_,_,_,h=>h
 | .str,_,_,_,h=>h
 | .sl ts,xs,u,bl,h=>by
   rcases h with h|⟨g,off,cap,cur,e,bls,hu,hg,h1,h2,h3,hb,hl,hc⟩
   ·exact .inl h
   ·refine .inr ⟨g,off,cap,cur,e,bls,hu,hg,h1,h2,h3,hb,hl,fun i x b hx hbb=> ?_⟩
    obtain⟨us,k1,k2⟩:=hc i x b hx hbb
    exact⟨us,k1,QT.mono hR ts x us b k2⟩
theorem QT.mono {w:World}{R R':Nat->Prop}(hR:∀b,R b->R' b) {deep:Bool}:(ts:Tys)->(x:Qm ts)->(us:List Value)->(bl:List Nat)->QT w R deep ts x us bl->QT w R' deep ts x us bl
 | .nil,_,_,_,h=>h
 | .cons t ts,x,us,bl,h=>by
   obtain⟨u,us',b1,b2,hc,hb,h1,h2⟩:=h
   refine⟨u,us',b1,b2,hc,hb, ?_,QT.mono hR ts _ us' b2 h2⟩
   cases deep with
   |true=>exact Own.mono hR t _ u b1 h1
   |false=>obtain⟨e,b',hr,hb'⟩:=h1;exact⟨e,b',hr,fun b hm=>hR b (hb' b hm)⟩
end
mutual
theorem Own.rep {w:World}{R:Nat->Prop}{deep:Bool}:(t:Ty)->(v:Val t)->(u:Value)->(bl:List Nat)->Own w R deep t v u bl->∃b',Rep w t v u b'/\∀b∈b',b∈bl\/R b
 | .int _,_,_,_,h=>⟨[],⟨h.1,rfl⟩,by simp⟩
 | .bool,_,_,_,h=>⟨[],⟨h.1,rfl⟩,by simp⟩
 | .str,_,_,_,h=>⟨[],⟨h.1,rfl⟩,by simp⟩
 | .sl ts,xs,u,bl,h=>by
   rcases h with⟨h1,h2,h3⟩|⟨g,off,cap,cur,e,bls,hu,hg,h1,h2,h3,hb,hl,hc⟩
   ·exact⟨[],⟨none,0,by rw[h2,h1];rfl,⟨by rw[h1];simp,fun _=>rfl⟩, .inl ⟨h1,rfl⟩⟩,by simp⟩
   ·have key:∀i:Nat,∃b':List Nat,∀(x:Qm ts) (b:List Nat),(vl xs)[i]? =some x->bls[i]? =some b->(∃us,Cells w ⟨g,off,none⟩ (i*ts.len) us/\XF w ts x us b')/\∀c∈b',c∈b\/R c:=by
     intro i
     cases hx:(vl xs)[i]? with
     |none=>exact⟨[],by simp⟩
     |some x=>
      cases hbb:bls[i]? with
      |none=>exact⟨[],by simp⟩
      |some b=>
       obtain⟨us,k1,k2⟩:=hc i x b hx hbb
       obtain⟨b',hr,hm⟩:=QT.rep ts x us b k2
       refine⟨b',fun x' b'' hx' hb''=> ?_⟩
       cases hx';cases hb''
       exact⟨⟨us,k1,hr⟩,hm⟩
    let f:Nat->List Nat:=fun i=>(key i).choose
    have hf:∀i (x:Qm ts) (b:List Nat),(vl xs)[i]? =some x->bls[i]? =some b->(∃us,Cells w ⟨g,off,none⟩ (i*ts.len) us/\XF w ts x us (f i))/\∀c∈f i,c∈b\/R c:=fun i=>(key i).choose_spec
    refine⟨g::((List.range (vl xs).length).map f).flatten,⟨some ⟨g,off,none⟩,cap,hu,⟨h1,fun h=>by cases h⟩, .inr ⟨_,_,rfl,rfl,by simp,fun i x b hx hbb=> ?_⟩⟩, ?_⟩
    ·have hi:i<(vl xs).length:=(QRq.1 hx).1
     have hb2:∃b2,bls[i]? =some b2:=⟨bls[i]'(by omega),QRp _⟩
     obtain⟨b2,hb2⟩:=hb2
     simp[List.getElem?_range hi]at hbb
     subst hbb
     exact(hf i x b2 hx hb2).1
    ·intro c hcm
     rcases QRk.1 hcm with rfl|hcm
     ·exact .inl (by rw[hb];simp)
     ·obtain⟨l,hl',hcl⟩:=QY9.1 hcm
      obtain⟨i,hi,rfl⟩:=QY18.1 hl'
      have hi:=List.mem_range.1 hi
      have hx:(vl xs)[i]? =some ((vl xs)[i]):=QRp hi
      have hb2:bls[i]? =some (bls[i]'(by omega)):=QRp _
      rcases(hf i _ _ hx hb2).2 c hcl with h|h
      ·exact .inl (by rw[hb];exact List.mem_cons_of_mem _ (QY9.2 ⟨_,QY22 hb2,h⟩))
      ·exact .inr h
theorem QT.rep {w:World}{R:Nat->Prop}{deep:Bool}:(ts:Tys)->(x:Qm ts)->(us:List Value)->(bl:List Nat)->QT w R deep ts x us bl->∃b',XF w ts x us b'/\∀b∈b',b∈bl\/R b
 | .nil,_,_,_,h=>⟨[],⟨h.1,rfl⟩,by simp⟩
 | .cons t ts,x,us,bl,h=>by
   obtain⟨u,us',b1,b2,hc,hb,h1,h2⟩:=h
   obtain⟨b2',hr2,hm2⟩:=QT.rep ts _ us' b2 h2
   have h1':∃b1',Rep w t (vhd x) u b1'/\∀b∈b1',b∈b1\/R b:=by
    cases deep with
    |true=>exact Own.rep t _ u b1 h1
    |false=>obtain⟨_,b',hr,hm⟩:=h1;exact⟨b',hr,fun b hb=> .inr (hm b hb)⟩
   obtain⟨b1',hr1,hm1⟩:=h1'
   refine⟨b1'++b2',⟨u,us',b1',b2',hc,rfl,hr1,hr2⟩, ?_⟩
   intro b hbm
   rcases QRh.1 hbm with h|h
   ·exact(hm1 b h).imp (fun h=>by rw[hb];simp[h]) id
   ·exact(hm2 b h).imp (fun h=>by rw[hb];simp[h]) id
end
theorem Yr.rep {w:World}{R:Nat->Prop}{deep:Bool}{t:Ty}{v:Val t}{u:Value}{bl:List Nat}(h:Yr w R deep t v u bl):∃b',Rep w t v u b'/\∀b∈b',b∈bl\/R b:=by
 cases deep with
 |true=>exact Own.rep t v u bl h
 |false=>obtain⟨e,b',hr,hb'⟩:=h;exact⟨b',hr,fun b hb=> .inr (hb' b hb)⟩
theorem Rep.one {w:World}:(t:Ty)->(v:Val t)->(u:Value)->(bl:List Nat)->Rep w t v u bl->u.oneCell'=true
 | .int _,_,_,_,h=>by rw[h.1];rfl
 | .bool,_,_,_,h=>by rw[h.1];rfl
 | .str,_,_,_,h=>by rw[h.1];rfl
 | .sl _,_,_,_,⟨_,_,h,_⟩=>by rw[h];rfl
theorem XF.len {w:World}:(ts:Tys)->(x:Qm ts)->(us:List Value)->(bl:List Nat)->XF w ts x us bl->us.length=ts.len/\∀u∈us,u.oneCell'=true
 | .nil,_,_,_,h=>by rw[h.1];exact⟨rfl,by simp⟩
 | .cons t ts,x,us,bl,h=>by
   obtain⟨u,us',b1,b2,rfl,hb,h1,h2⟩:=h
   have:=XF.len ts _ us' b2 h2
   refine⟨by simp[Tys.len,this.1],fun v hv=> ?_⟩
   rcases QRk.1 hv with rfl|hv
   ·exact Rep.one t _ _ b1 h1
   ·exact this.2 v hv
theorem QT.len {w:World}{R:Nat->Prop}{deep:Bool}{ts:Tys}{x:Qm ts}{us:List Value}{bl:List Nat}(h:QT w R deep ts x us bl):us.length=ts.len/\∀u∈us,u.oneCell'=true:=by
 obtain⟨b',hr,_⟩:=QT.rep ts x us bl h
 exact XF.len ts x us b' hr
theorem vo:(ts:Tys)->(x:Qm ts)->(unpack ts x).length=ts.len
 | .nil,_=>rfl
 | .cons _ ts,x=>by simp[unpack,Tys.len,vo ts (vtl x)]
theorem Qsk {t:Ty}: {ts:Tys}->(a:Val t)->(b:Qm ts)->vhd (vmk a b)=a
 | .nil,_,_=>rfl
 | .cons _ _,_,_=>rfl
theorem Qsv {t:Ty}: {ts:Tys}->(a:Val t)->(b:Qm ts)->vtl (vmk a b)=b
 | .nil,_,_=>rfl
 | .cons _ _,_,_=>rfl
theorem XF.at_ {w:World}:(ts:Tys)->(x:Qm ts)->(us:List Value)->(bl:List Nat)->XF w ts x us bl->(m:Nat)->(y:TV)->(unpack ts x)[m]? =some y->∃u b,us[m]? =some u/\Rep w y.t y.v u b/\∀c∈b,c∈bl
 | .nil,_,_,_,_,m,y,hy=>by simp[unpack]at hy
 | .cons t ts,x,us,bl,h,m,y,hy=>by
   obtain⟨u,us',b1,b2,rfl,hb,h1,h2⟩:=h
   cases m with
   |zero=>simp[unpack]at hy;subst hy;exact⟨u,b1,rfl,h1,fun c hc=>by rw[hb];simp[hc]⟩
   |succ m=>
    simp[unpack]at hy
    obtain⟨v,b,hv,hr,hm⟩:=XF.at_ ts _ us' b2 h2 m y hy
    exact⟨v,b,by simpa using hv,hr,fun c hc=>by rw[hb];simp[hm c hc]⟩
theorem QT.focus {w:World}{R:Nat->Prop}{deep:Bool}:(ts:Tys)->(x:Qm ts)->(us:List Value)->(bl:List Nat)->QT w R deep ts x us bl->(m:Nat)->(y:TV)->(unpack ts x)[m]? =some y->
 ∃u pre b post,us[m]? =some u/\bl=pre++b++post/\Yr w R deep y.t y.v u b/\
  ∀(w':World) (y':TV) (x':Qm ts) (u':Value) (b':List Nat),YP ts x m y'=some x'->(∀c∈pre++post,Q5 w w' c)->(∀c,R c->Q5 w w' c)->Yr w' R deep y'.t y'.v u' b'->QT w' R deep ts x' (us.set m u') (pre++b'++post)
 | .nil,_,_,_,_,m,y,hy=>by simp[unpack]at hy
 | .cons t ts,x,us,bl,h,m,y,hy=>by
   obtain⟨u,us',b1,b2,rfl,hb,h1,h2⟩:=h
   cases m with
   |zero=>
    simp[unpack]at hy;subst hy
    refine⟨u,[],b1,b2,rfl,by simp[hb],h1,fun w' y' x' u' b' hp hs hR ho=> ?_⟩
    simp only[YP,TV.as]at hp
    cases hq:Ty.eq? y'.t t with
    |none=>simp[hq]at hp
    |some h'=>
     obtain⟨hh⟩:=h'
     obtain⟨ty,vy⟩:=y'
     cases hh
     simp[hq]at hp
     subst hp
     refine⟨u',us',b',b2,by simp,by simp, ?_, ?_⟩
     ·rw[Qsk];exact ho
     ·rw[Qsv];exact QT.frame ts _ us' b2 h2 (fun c hc=>hs c (by simp[hc])) hR
   |succ m=>
    simp[unpack]at hy
    obtain⟨v,pre,b,post,hv,hbl,ho,hput⟩:=QT.focus ts _ us' b2 h2 m y hy
    refine⟨v,b1++pre,b,post,by simpa using hv,by rw[hb,hbl];simp,ho,fun w' y' x' u' b' hp hs hR ho'=> ?_⟩
    simp only[YP]at hp
    cases hq:YP ts (vtl x) m y' with
    |none=>simp[hq]at hp
    |some z=>
     simp[hq]at hp
     subst hp
     refine⟨u,us'.set m u',b1,pre++b'++post,by simp,by simp, ?_, ?_⟩
     ·rw[Qsk]
      exact Yr.frame h1 (fun c hc=>hs c (by simp[hc])) hR
     ·rw[Qsv]
      exact hput w' y' z u' b' hq (fun c hc=>hs c (by rcases QRh.1 hc with hc|hc<;>simp[hc])) hR ho'
section lists
variable {α:Type}{d:α}
theorem XJ:(l:List α)->(i:Nat)->(x:α)->lget d (lset d l i x) i=x
 | [],0,_=>rfl
 | [],n+1,x=>by simp only[lset,lget];exact XJ [] n x
 |_::_,0,_=>rfl
 |_::l,n+1,x=>by simp only[lset,lget];exact XJ l n x
theorem X8:(l:List α)->(i j:Nat)->(x:α)->i≠j->lget d (lset d l i x) j=lget d l j
 | [],0,0,_,h=>(h rfl).elim
 | [],0,j+1,_,_=>rfl
 | [],i+1,0,_,_=>rfl
 | [],i+1,j+1,x,h=>by simp only[lset,lget];rw[X8 [] i j x (by omega)];rfl
 |_::_,0,0,_,h=>(h rfl).elim
 |_::_,0,j+1,_,_=>rfl
 |_::_,i+1,0,_,_=>rfl
 |_::l,i+1,j+1,x,h=>by simp only[lset,lget];exact X8 l i j x (by omega)
theorem Qbt:(l:List α)->(i j:Nat)->(x y:α)->i≠j->lset d (lset d l i x) j y=lset d (lset d l j y) i x
 | [],0,0,_,_,h=>(h rfl).elim
 | [],0,j+1,x,y,_=>rfl
 | [],i+1,0,x,y,_=>rfl
 | [],i+1,j+1,x,y,h=>by simp only[lset];rw[Qbt [] i j x y (by omega)]
 |_::_,0,0,_,_,h=>(h rfl).elim
 |_::_,0,j+1,_,_,_=>rfl
 |_::_,i+1,0,_,_,_=>rfl
 |_::l,i+1,j+1,x,y,h=>by simp only[lset];rw[Qbt l i j x y (by omega)]
theorem QmU:(l:List α)->(i:Nat)->(x y:α)->lset d (lset d l i x) i y=lset d l i y
 | [],0,_,_=>rfl
 | [],n+1,x,y=>by simp only[lset];rw[QmU [] n x y]
 |_::_,0,_,_=>rfl
 |_::l,n+1,x,y=>by simp only[lset];rw[QmU l n x y]
theorem QzE:(l:List α)->(i:Nat)->i<l.length->lset d l i (lget d l i)=l
 | [],_,h=>by simp at h
 |_::_,0,_=>rfl
 |a::l,n+1,h=>by simp only[lset,lget];rw[QzE l n (by simpa using h)]
theorem QEO:(l:List α)->(i:Nat)->l.length<=i->lget d l i=d
 | [],_,_=>rfl
 |_::_,0,h=>by simp at h
 |_::l,n+1,h=>by simp only[lget];exact QEO l n (by simpa using h)
end lists
inductive Wr where
 |t (i:Nat) (c:Cell)|c (r k:Nat) (c:Con)|v (r k:Nat) (x:TV)|b (r:Nat) (g:Nat×Nat)
def Wr.ap:Wr->St->St
 | .t i y,s=>s.sT i y
 | .c r k y,s=>s.sC r k y
 | .v r k y,s=>s.sV r k y
 | .b r y,s=>s.sB r y
def Wr.ds:Wr->List Rs
 | .t i _=>[.t i]
 | .c r k _=>[.c r k, .sh r k]
 | .v r k _=>[.c r k]
 | .b r _=>[.b r]
def apW:List Wr->St->St
 | [],s=>s
 |w::l,s=>apW l (w.ap s)
def dsW:List Wr->List Rs
 | []=>[]
 |w::l=>w.ds++dsW l
def RP.tw {γ:Type}:RP γ->St->Option (γ×List Wr×List Rs)
 | .ret x,_=>some (x,[],[])
 | .fail,_=>none
 | .ZT i f,s=>((f (s.gT i)).tw s).map fun(x,W,u)=>(x,W, .t i::u)
 | .xC i c p,s=>bif Nat.blt i s.n then(p.tw (s.sT i c)).map fun(x,W,u)=>(x, .t i c::W,u)else none
 | .getC r k f,s=>((f (s.gC r k)).tw s).map fun(x,W,u)=>(x,W, .c r k:: .sh r k::u)
 | .setC r k c p,s=>(p.tw (s.sC r k c)).map fun(x,W,u)=>(x, .c r k c::W,u)
 | .getI r k f,s=>((f (s.gI r k)).tw s).map fun(x,W,u)=>(x,W, .sh r k::u)
 | .setV r k x p,s=>(p.tw (s.sV r k x)).map fun(y,W,u)=>(y, .v r k x::W,u)
 | .getB r f,s=>((f (s.gB r)).tw s).map fun(x,W,u)=>(x,W, .b r::u)
 | .setB r g p,s=>(p.tw (s.sB r g)).map fun(x,W,u)=>(x, .b r g::W,u)
 | .br b p q,s=>bif b then p.tw s else q.tw s
 | .brT i p q,s=>match Xt (s.gT i)with
   |some b=>(bif b then p.tw s else q.tw s).map fun(x,W,u)=>(x,W, .t i::u)
   |none=>none
 | .brG i want p q,s=>match Xt (s.gT i)with
   |some b=>(bif b then(if want then p.tw s else q.tw s)else(if want then q.tw s else p.tw s)).map fun(x,W,u)=>(x,W, .t i::u)
   |none=>match s.gT i with| .und=>(q.tw s).map fun(x,W,u)=>(x,W, .t i::u)|_=>none
 | .call _ o f,s=>o.bind fun x=>(f x).tw s
theorem QqY {c:Cell}{b:Bool}(h:Xt c=some b):c=mkB b:=by
 unfold Xt at h
 split at h
 ·cases h;rfl
 ·cases h
theorem QgT {s:St}{i:Nat}{b:Bool}(h:Xt (s.gT i)=some b):s.sT i (mkB b)=s:=by
 have he:=QqY h
 have hl:i<s.tm.length:=by
  rcases Nat.lt_or_ge i s.tm.length with h'|h'
  ·exact h'
  ·rw[St.gT,QEO _ _ h']at he;cases he
 unfold St.sT
 rw[<-he]
 simp only[St.gT,QzE _ _ hl]
theorem RP.QME {γ:Type}(p:RP γ):∀s:St,p.run s=(p.tw s).map fun(x,W,_)=>(x,apW W s):=by
 induction p with
 |ret x=>intro s;rfl
 |fail=>intro s;rfl
 |ZT i f ih=>intro s;simp only[RP.run,RP.tw,ih,QY30];rfl
 |xC i c p ih=>intro s;simp only[RP.run,RP.tw];cases Nat.blt i s.n<;>simp only[QQ1,QQ2,ih,QY30]<;>rfl
 |getC r k f ih=>intro s;simp only[RP.run,RP.tw,ih,QY30];rfl
 |setC r k c p ih=>intro s;simp only[RP.run,RP.tw,ih,QY30];rfl
 |getI r k f ih=>intro s;simp only[RP.run,RP.tw,ih,QY30];rfl
 |setV r k x p ih=>intro s;simp only[RP.run,RP.tw,ih,QY30];rfl
 |getB r f ih=>intro s;simp only[RP.run,RP.tw,ih,QY30];rfl
 |setB r g p ih=>intro s;simp only[RP.run,RP.tw,ih,QY30];rfl
 |br b p q ihp ihq=>intro s;simp only[RP.run,RP.tw];cases b<;>simp only[QQ1,QQ2,ihp,ihq]
 |brT i p q ihp ihq=>
  intro s;simp only[RP.run,RP.tw]
  cases Xt (s.gT i)with
  |none=>rfl
  |some b=>cases b<;>simp only[QQ1,QQ2,ihp,ihq,QY30]<;>rfl
 |brG i want p q ihp ihq=>
  intro s;simp only[RP.run,RP.tw]
  cases Xt (s.gT i)with
  |none=>
   cases h:s.gT i<;>simp only[ihq,QY30,Option.map_none]<;>rfl
  |some b=>cases b<;>cases want<;>simp only[QQ1,QQ2,ihp,ihq,QY30,if_true,QRw,if_false]<;>rfl
 |call ts o f ih=>intro s;cases o<;>simp[RP.run,RP.tw,ih]
theorem RP.QHk {γ β:Type}(p:RP γ):∀(s:St) (K:γ->St->Option β),p.ev s K=(p.run s).bind fun x=>K x.1 x.2:=by
 induction p with
 |ret x=>intro s K;rfl
 |fail=>intro s K;rfl
 |ZT i f ih=>intro s K;simp only[RP.run,RP.ev,ih]
 |xC i c p ih=>intro s K;simp only[RP.run,RP.ev];cases Nat.blt i s.n<;>simp only[QQ1,QQ2,ih]<;>rfl
 |getC r k f ih=>intro s K;simp only[RP.run,RP.ev,ih]
 |setC r k c p ih=>intro s K;simp only[RP.run,RP.ev,ih]
 |getI r k f ih=>intro s K;simp only[RP.run,RP.ev,ih]
 |setV r k x p ih=>intro s K;simp only[RP.run,RP.ev,ih]
 |getB r f ih=>intro s K;simp only[RP.run,RP.ev,ih]
 |setB r g p ih=>intro s K;simp only[RP.run,RP.ev,ih]
 |br b p q ihp ihq=>intro s K;simp only[RP.run,RP.ev];cases b<;>simp only[QQ1,QQ2,ihp,ihq]
 |brT i p q ihp ihq=>
  intro s K;simp only[RP.run,RP.ev]
  cases h:Xt (s.gT i)with
  |none=>rfl
  |some b=>
   cases b<;>simp only[QQ1,QQ2,ihp,ihq,QgT h]
 |brG i want p q ihp ihq=>
  intro s K;simp only[RP.run,RP.ev]
  cases h:Xt (s.gT i)with
  |none=>
   simp only
   cases h:s.gT i<;>simp only[ihq]<;>rfl
  |some b=>cases b<;>cases want<;>simp only[QQ1,QQ2,ihp,ihq,if_true,QRw,if_false,QgT h]
 |call ts o f ih=>intro s K;cases o<;>simp[RP.run,RP.ev,ih]
def QQ7 (t0 t:Tr) (us ds:List Rs):Prop:=(∀ρ,ρ∈t.us↔ρ∈t0.us\/ρ∈us)/\∀ρ,ρ∈t.ds↔ρ∈t0.ds\/ρ∈ds
theorem RP.QMs {γ β:Type}(p:RP γ):∀(s:St) (t:Tr) (K:γ->St->Tr->Option β) (out:β),p.evT s t K=some out->
 ∃x W us t',p.tw s=some (x,W,us)/\QQ7 t t' us (dsW W)/\K x (apW W s) t'=some out:=by
 induction p with
 |ret x=>intro s t K out h;exact⟨x,[],[],t,rfl,⟨by simp,by simp[dsW]⟩,h⟩
 |fail=>intro s t K out h;cases h
 |ZT i f ih=>
  intro s t K out h
  obtain⟨x,W,us,t',h1,h2,h3⟩:=ih _ s _ K out h
  refine⟨x,W,_,t',by simp only[RP.tw,h1];rfl,⟨fun ρ=> ?_,h2.2⟩,h3⟩
  rw[h2.1];simp only[QRk];grind
 |xC i c p ih=>
  intro s t K out h
  simp only[RP.evT]at h
  cases hb:Nat.blt i s.n with
  |false=>simp[hb]at h
  |true=>
   simp only[hb,QQ1]at h
   obtain⟨x,W,us,t',h1,h2,h3⟩:=ih _ _ K out h
   refine⟨x, .t i c::W,us,t',by simp only[RP.tw,hb,QQ1,h1];rfl,⟨h2.1,fun ρ=> ?_⟩,h3⟩
   rw[h2.2];simp only[dsW,Wr.ds,QRk,QRh,List.not_mem_nil,or_false];grind
 |getC r k f ih=>
  intro s t K out h
  obtain⟨x,W,us,t',h1,h2,h3⟩:=ih _ s _ K out h
  refine⟨x,W,_,t',by simp only[RP.tw,h1];rfl,⟨fun ρ=> ?_,h2.2⟩,h3⟩
  rw[h2.1];simp only[QRk];grind
 |setC r k c p ih=>
  intro s t K out h
  obtain⟨x,W,us,t',h1,h2,h3⟩:=ih _ _ K out h
  refine⟨x, .c r k c::W,us,t',by simp only[RP.tw,h1];rfl,⟨h2.1,fun ρ=> ?_⟩,h3⟩
  rw[h2.2];simp only[dsW,Wr.ds,QRk,QRh,List.not_mem_nil,or_false];grind
 |getI r k f ih=>
  intro s t K out h
  obtain⟨x,W,us,t',h1,h2,h3⟩:=ih _ s _ K out h
  refine⟨x,W,_,t',by simp only[RP.tw,h1];rfl,⟨fun ρ=> ?_,h2.2⟩,h3⟩
  rw[h2.1];simp only[QRk];grind
 |setV r k y p ih=>
  intro s t K out h
  obtain⟨x,W,us,t',h1,h2,h3⟩:=ih _ _ K out h
  refine⟨x, .v r k y::W,us,t',by simp only[RP.tw,h1];rfl,⟨h2.1,fun ρ=> ?_⟩,h3⟩
  rw[h2.2];simp only[dsW,Wr.ds,QRk,QRh,List.not_mem_nil,or_false];grind
 |getB r f ih=>
  intro s t K out h
  obtain⟨x,W,us,t',h1,h2,h3⟩:=ih _ s _ K out h
  refine⟨x,W,_,t',by simp only[RP.tw,h1];rfl,⟨fun ρ=> ?_,h2.2⟩,h3⟩
  rw[h2.1];simp only[QRk];grind
 |setB r g p ih=>
  intro s t K out h
  obtain⟨x,W,us,t',h1,h2,h3⟩:=ih _ _ K out h
  refine⟨x, .b r g::W,us,t',by simp only[RP.tw,h1];rfl,⟨h2.1,fun ρ=> ?_⟩,h3⟩
  rw[h2.2];simp only[dsW,Wr.ds,QRk,QRh,List.not_mem_nil,or_false];grind
 |br b p q ihp ihq=>
  intro s t K out h
  cases b with
  |true=>obtain⟨x,W,us,t',h1,h2,h3⟩:=ihp s t K out h;exact⟨x,W,us,t',h1,h2,h3⟩
  |false=>obtain⟨x,W,us,t',h1,h2,h3⟩:=ihq s t K out h;exact⟨x,W,us,t',h1,h2,h3⟩
 |brT i p q ihp ihq=>
  intro s t K out h
  simp only[RP.evT]at h
  cases hb:Xt (s.gT i)with
  |none=>simp[hb]at h
  |some b=>
   simp only[hb]at h
   cases b with
   |true=>
    simp only[QQ1,QgT hb]at h
    obtain⟨x,W,us,t',h1,h2,h3⟩:=ihp s _ K out h
    refine⟨x,W,_,t',by simp only[RP.tw,hb,QQ1,h1];rfl,⟨fun ρ=> ?_,h2.2⟩,h3⟩
    rw[h2.1];simp only[QRk];grind
   |false=>
    simp only[QQ2,QgT hb]at h
    obtain⟨x,W,us,t',h1,h2,h3⟩:=ihq s _ K out h
    refine⟨x,W,_,t',by simp only[RP.tw,hb,QQ2,h1];rfl,⟨fun ρ=> ?_,h2.2⟩,h3⟩
    rw[h2.1];simp only[QRk];grind
 |brG i want p q ihp ihq=>
  intro s t K out h
  simp only[RP.evT]at h
  cases hb:Xt (s.gT i)with
  |none=>
   simp only[hb]at h
   cases hc:s.gT i with
   |und=>
    simp only[hc]at h
    obtain⟨x,W,us,t',h1,h2,h3⟩:=ihq s _ K out h
    refine⟨x,W,_,t',by simp only[RP.tw,hc,h1];rfl,⟨fun ρ=> ?_,h2.2⟩,h3⟩
    rw[h2.1];simp only[QRk];grind
   |_=>simp[hc]at h
  |some b=>
   simp only[hb]at h
   cases b<;>cases want<;>simp only[QQ1,QQ2,if_true,QRw,if_false,QgT hb]at h<;>
   first
   |(obtain⟨x,W,us,t',h1,h2,h3⟩:=ihp s _ K out h
     refine⟨x,W,_,t',by simp only[RP.tw,hb,QQ1,QQ2,if_true,QRw,if_false,h1];rfl,⟨fun ρ=> ?_,h2.2⟩,h3⟩
     rw[h2.1];simp only[QRk];grind)
   |(obtain⟨x,W,us,t',h1,h2,h3⟩:=ihq s _ K out h
     refine⟨x,W,_,t',by simp only[RP.tw,hb,QQ1,QQ2,if_true,QRw,if_false,h1];rfl,⟨fun ρ=> ?_,h2.2⟩,h3⟩
     rw[h2.1];simp only[QRk];grind)
 |call ts o f ih=>
  intro s t K out h
  cases o with
  |none=>cases h
  |some y=>
   obtain⟨x,W,us,t',h1,h2,h3⟩:=ih y s t K out h
   exact⟨x,W,us,t',by simpa[RP.tw]using h1,h2,h3⟩
def St.at1 (s s':St):Rs->Prop
 | .t i=>s.gT i=s'.gT i
 | .c r k=>s.gC r k=s'.gC r k
 | .sh r k=>s.gI r k=s'.gI r k
 | .b r=>s.gB r=s'.gB r
def Ag (s s':St) (us:List Rs):Prop:=s.n=s'.n/\∀ρ∈us,St.at1 s s' ρ
theorem Qxl (s:St) (i j:Nat) (c:Cell):(s.sT i c).gT j=if i=j then c else s.gT j:=by
 unfold St.sT St.gT
 split
 ·rename_i h;subst h;exact XJ _ _ _
 ·rename_i h;exact X8 _ _ _ _ h
theorem QP (s:St) (r k r' k':Nat) (c:Con):(s.sC r k c).gC r' k'=if r=r'/\k=k' then c else s.gC r' k':=by
 unfold St.sC St.gC
 by_cases h:r=r'
 ·subst h
  simp only[XJ]
  by_cases h':k=k'
  ·subst h';simp[XJ]
  ·simp[h',X8]
 ·simp[h,X8]
theorem Vg (s:St) (r r':Nat) (g:Nat×Nat):(s.sB r g).gB r'=if r=r' then g else s.gB r':=by
 unfold St.sB St.gB
 split
 ·rename_i h;subst h;exact XJ _ _ _
 ·rename_i h;exact X8 _ _ _ _ h
@[simp] theorem QRQ (s:St) (r k i:Nat) (c:Con):(s.sC r k c).gT i=s.gT i:=rfl
@[simp] theorem QNO (s:St) (r i:Nat) (g:Nat×Nat):(s.sB r g).gT i=s.gT i:=rfl
@[simp] theorem QOP (s:St) (r k i:Nat) (c:Cell):(s.sT i c).gC r k=s.gC r k:=rfl
@[simp] theorem QNG (s:St) (r k i:Nat) (g:Nat×Nat):(s.sB i g).gC r k=s.gC r k:=rfl
@[simp] theorem QN3 (s:St) (r i:Nat) (c:Cell):(s.sT i c).gB r=s.gB r:=rfl
@[simp] theorem QK3 (s:St) (r k i:Nat) (c:Con):(s.sC r k c).gB i=s.gB i:=rfl
@[simp] theorem QRU (s:St) (i:Nat) (c:Cell):(s.sT i c).n=s.n:=rfl
@[simp] theorem QRS (s:St) (r k:Nat) (c:Con):(s.sC r k c).n=s.n:=rfl
@[simp] theorem QRT (s:St) (r:Nat) (g:Nat×Nat):(s.sB r g).n=s.n:=rfl
theorem QJ2 (w:Wr) (s:St):(w.ap s).n=s.n:=by cases w<;>rfl
def Shd (us:List Rs):Prop:=∀r k, .c r k∈us-> .sh r k∈us
theorem Ag.ap {s s':St}{us:List Rs}(h:Ag s s' us) (hs:Shd us) (w:Wr):Ag (w.ap s) (w.ap s') us:=by
 refine⟨by rw[QJ2,QJ2];exact h.1,fun ρ hρ=> ?_⟩
 have h0:=h.2 ρ hρ
 cases w with
 |t i y=>cases ρ<;>simp only[Wr.ap,St.at1,QOP,QN3,Qxl]at h0⊢ <;>first|exact h0|(split<;>first|rfl|exact h0)|(unfold St.gI at h0⊢; simpa using h0)
 |b r y=>cases ρ<;>simp only[Wr.ap,St.at1,QNG,QNO,Vg]at h0⊢ <;>first|exact h0|(split<;>first|rfl|exact h0)|(unfold St.gI at h0⊢; simpa using h0)
 |c r k y=>
  cases ρ with
  |t i=>exact h0
  |b i=>exact h0
  |c r' k'=>simp only[Wr.ap,St.at1,QP]at h0⊢; split<;>first|rfl|exact h0
  |sh r' k'=>simp only[Wr.ap,St.at1,St.gI,QP]at h0⊢; split<;>first|rfl|exact h0
 |v r k y=>
  cases ρ with
  |t i=>exact h0
  |b i=>exact h0
  |c r' k'=>
   simp only[Wr.ap,St.at1,St.sV,QP]at h0⊢
   split
   ·rename_i hh
    obtain⟨rfl,rfl⟩:=hh
    rw[h0]
   ·exact h0
  |sh r' k'=>
   simp only[Wr.ap,St.at1,St.sV,St.gI,QP]at h0⊢
   split
   ·rename_i hh
    obtain⟨rfl,rfl⟩:=hh
    exact h0
   ·exact h0
theorem Ag.apW {s s':St}{us:List Rs}(h:Ag s s' us) (hs:Shd us):(W:List Wr)->Ag (Eng.apW W s) (Eng.apW W s') us
 | []=>h
 |w::W=>Ag.apW (h.ap hs w) hs W
theorem Ag.refl (s:St) (us:List Rs):Ag s s us:=⟨rfl,fun ρ _=>by cases ρ<;>rfl⟩
theorem Ag.symm {s s':St}{us:List Rs}(h:Ag s s' us):Ag s' s us:=⟨h.1.symm,fun ρ hρ=>by have:=h.2 ρ hρ;cases ρ<;>exact Eq.symm this⟩
theorem Ag.trans {a b c:St}{us:List Rs}(h:Ag a b us) (h':Ag b c us):Ag a c us:=
 ⟨h.1.trans h'.1,fun ρ hρ=>by have h1:=h.2 ρ hρ;have h2:=h'.2 ρ hρ;cases ρ<;>exact Eq.trans h1 h2⟩
theorem Ag.mono {s s':St}{us vs:List Rs}(h:Ag s s' us) (hv:∀ρ∈vs,ρ∈us):Ag s s' vs:=⟨h.1,fun ρ hρ=>h.2 ρ (hv ρ hρ)⟩
theorem Ag.off {s:St}{us:List Rs}(w:Wr) (hd:∀ρ∈w.ds,ρ∉us):Ag s (w.ap s) us:=by
 refine⟨(QJ2 w s).symm,fun ρ hρ=> ?_⟩
 cases w with
 |t i y=>
  cases ρ with
  |t j=>simp only[Wr.ap,St.at1,Qxl];split
        ·rename_i h;subst h;exact(hd _ (by simp[Wr.ds]) hρ).elim
        ·rfl
  |_=>rfl
 |b i y=>
  cases ρ with
  |b j=>simp only[Wr.ap,St.at1,Vg];split
        ·rename_i h;subst h;exact(hd _ (by simp[Wr.ds]) hρ).elim
        ·rfl
  |_=>rfl
 |c r k y=>
  cases ρ with
  |c r' k'=>simp only[Wr.ap,St.at1,QP];split
            ·rename_i h;obtain⟨rfl,rfl⟩:=h;exact(hd _ (by simp[Wr.ds]) hρ).elim
            ·rfl
  |sh r' k'=>simp only[Wr.ap,St.at1,St.gI,QP];split
             ·rename_i h;obtain⟨rfl,rfl⟩:=h;exact(hd _ (by simp[Wr.ds]) hρ).elim
             ·rfl
  |_=>rfl
 |v r k y=>
  cases ρ with
  |c r' k'=>simp only[Wr.ap,St.at1,St.sV,QP];split
            ·rename_i h;obtain⟨rfl,rfl⟩:=h;exact(hd _ (by simp[Wr.ds]) hρ).elim
            ·rfl
  |sh r' k'=>simp only[Wr.ap,St.at1,St.sV,St.gI,QP];split
             ·rename_i h;obtain⟨rfl,rfl⟩:=h;rfl
             ·rfl
  |_=>rfl
theorem Ag.QJU {s:St}{us:List Rs}:(W:List Wr)->(hd:∀ρ∈dsW W,ρ∉us)->Ag s (Eng.apW W s) us
 | [],_=>Ag.refl s us
 |w::W,hd=>(Ag.off w (fun ρ h=>hd ρ (by simp[dsW,h]))).trans (Ag.QJU W (fun ρ h=>hd ρ (by simp[dsW,h])))
theorem RP.Qri {γ:Type}(p:RP γ):∀(s:St) x W us,p.tw s=some (x,W,us)->Shd us:=by
 induction p with
 |ret x=>intro s x W us h;simp only[RP.tw]at h;cases h;intro r k h;cases h
 |fail=>intro s x W us h;cases h
 |ZT i f ih|getI r k f ih|getB r f ih=>
  intro s x W us h
  simp only[RP.tw,QRs]at h
  obtain⟨⟨x',W',u'⟩,h1,h2⟩:=h
  cases h2
  have:=ih _ _ _ _ _ h1
  intro r k h
  have h':=this r k (by simpa using h)
  simp[h']
 |getC r k f ih=>
  intro s x W us h
  simp only[RP.tw,QRs]at h
  obtain⟨⟨x',W',u'⟩,h1,h2⟩:=h
  cases h2
  have:=ih _ _ _ _ _ h1
  intro r' k' h
  simp only[QRk,Rs.c.injEq,Rs.sh.injEq,reduceCtorEq,false_or]at h⊢
  rcases h with h|h
  ·exact .inl h
  ·exact .inr (this r' k' h)
 |xC i c p ih=>
  intro s x W us h
  simp only[RP.tw]at h
  cases hb:Nat.blt i s.n with
  |false=>simp[hb]at h
  |true=>
   simp only[hb,QQ1,QRs]at h
   obtain⟨⟨x',W',u'⟩,h1,h2⟩:=h
   cases h2
   exact ih _ _ _ _ h1
 |setC r k c p ih|setV r k x p ih|setB r g p ih=>
  intro s y W us h
  simp only[RP.tw,QRs]at h
  obtain⟨⟨x',W',u'⟩,h1,h2⟩:=h
  cases h2
  exact ih _ _ _ _ h1
 |br b p q ihp ihq=>intro s x W us h;cases b<;>simp only[RP.tw,QQ1,QQ2]at h<;>first|exact ihp _ _ _ _ h|exact ihq _ _ _ _ h
 |brT i p q ihp ihq=>
  intro s x W us h
  simp only[RP.tw]at h
  cases hb:Xt (s.gT i)with
  |none=>simp[hb]at h
  |some b=>
   simp only[hb,QRs]at h
   obtain⟨⟨x',W',u'⟩,h1,h2⟩:=h
   cases h2
   have:Shd u':=by cases b<;>simp only[QQ1,QQ2]at h1<;>first|exact ihp _ _ _ _ h1|exact ihq _ _ _ _ h1
   intro r k h
   have h':=this r k (by simpa using h)
   simp[h']
 |brG i want p q ihp ihq=>
  intro s x W us h
  simp only[RP.tw]at h
  have key:∃u',us= .t i::u'/\Shd u':=by
   cases hb:Xt (s.gT i)with
   |none=>
    simp only[hb]at h
    cases hc:s.gT i with
    |und=>
     simp only[hc,QRs]at h
     obtain⟨⟨x',W',u'⟩,h1,h2⟩:=h
     cases h2
     exact⟨u',rfl,ihq _ _ _ _ h1⟩
    |_=>simp[hc]at h
   |some b=>
    simp only[hb,QRs]at h
    obtain⟨⟨x',W',u'⟩,h1,h2⟩:=h
    cases h2
    refine⟨u',rfl, ?_⟩
    cases b<;>cases want<;>simp only[QQ1,QQ2,if_true,QRw,if_false]at h1<;>first|exact ihp _ _ _ _ h1|exact ihq _ _ _ _ h1
  obtain⟨u',rfl,this⟩:=key
  intro r k h
  have h':=this r k (by simpa using h)
  simp[h']
 |call ts o f ih=>
  intro s x W us h
  cases o with
  |none=>cases h
  |some y=>exact ih y _ _ _ _ (by simpa[RP.tw]using h)
theorem RP.QNd {γ:Type}(p:RP γ):∀(s s':St) x W us,p.tw s=some (x,W,us)->Ag s s' us->p.tw s'=some (x,W,us):=by
 induction p with
 |ret x=>intro s s' x W us h _;exact h
 |fail=>intro s s' x W us h;cases h
 |ZT i f ih|getI r k f ih|getB r f ih|getC r k f ih=>
  intro s s' x W us h ha
  simp only[RP.tw,QRs]at h⊢
  obtain⟨⟨x',W',u'⟩,h1,h2⟩:=h
  cases h2
  have h0:=ha.2 _ (List.mem_cons_self ..)
  simp only[St.at1]at h0
  rw[<-h0]
  exact⟨_,ih _ _ s' _ _ _ h1 (ha.mono (by simp+contextual)),rfl⟩
 |xC i c p ih=>
  intro s s' x W us h ha
  simp only[RP.tw]at h⊢
  rw[<-ha.1]
  cases hb:Nat.blt i s.n with
  |false=>simp[hb]at h
  |true=>
   simp only[hb,QQ1,QRs]at h⊢
   obtain⟨⟨x',W',u'⟩,h1,h2⟩:=h
   cases h2
   exact⟨_,ih _ _ _ _ _ h1 (ha.ap (p.Qri _ _ _ _ h1) (.t i c)),rfl⟩
 |setC r k c p ih=>
  intro s s' x W us h ha
  simp only[RP.tw,QRs]at h⊢
  obtain⟨⟨x',W',u'⟩,h1,h2⟩:=h
  cases h2
  exact⟨_,ih _ _ _ _ _ h1 (ha.ap (p.Qri _ _ _ _ h1) (.c r k c)),rfl⟩
 |setV r k y p ih=>
  intro s s' x W us h ha
  simp only[RP.tw,QRs]at h⊢
  obtain⟨⟨x',W',u'⟩,h1,h2⟩:=h
  cases h2
  exact⟨_,ih _ _ _ _ _ h1 (ha.ap (p.Qri _ _ _ _ h1) (.v r k y)),rfl⟩
 |setB r g p ih=>
  intro s s' x W us h ha
  simp only[RP.tw,QRs]at h⊢
  obtain⟨⟨x',W',u'⟩,h1,h2⟩:=h
  cases h2
  exact⟨_,ih _ _ _ _ _ h1 (ha.ap (p.Qri _ _ _ _ h1) (.b r g)),rfl⟩
 |br b p q ihp ihq=>intro s s' x W us h ha;cases b<;>simp only[RP.tw,QQ1,QQ2]at h⊢ <;>first|exact ihp _ s' _ _ _ h ha|exact ihq _ s' _ _ _ h ha
 |brT i p q ihp ihq=>
  intro s s' x W us h ha
  simp only[RP.tw]at h⊢
  cases hb:Xt (s.gT i)with
  |none=>simp[hb]at h
  |some b=>
   simp only[hb,QRs]at h
   obtain⟨⟨x',W',u'⟩,h1,h2⟩:=h
   cases h2
   have h0:=ha.2 _ (List.mem_cons_self ..)
   simp only[St.at1]at h0
   rw[<-h0,hb]
   simp only[QRs]
   have ha':=ha.mono (vs:=u') (by simp+contextual)
   refine⟨(x',W',u'), ?_,rfl⟩
   cases b<;>simp only[QQ1,QQ2]at h1⊢ <;>first|exact ihp _ s' _ _ _ h1 ha'|exact ihq _ s' _ _ _ h1 ha'
 |brG i want p q ihp ihq=>
  intro s s' x W us h ha
  simp only[RP.tw]at h⊢
  have h0:s.gT i=s'.gT i:=by
   refine ha.2 (.t i) ?_
   cases hb:Xt (s.gT i)with
   |none=>
    simp only[hb]at h
    cases hc:s.gT i with
    |und=>
     simp only[hc,QRs]at h
     obtain⟨⟨x',W',u'⟩,h1,h2⟩:=h
     cases h2
     simp
    |_=>simp[hc]at h
   |some b=>
    simp only[hb,QRs]at h
    obtain⟨⟨x',W',u'⟩,h1,h2⟩:=h
    cases h2
    simp
  rw[<-h0]
  cases hb:Xt (s.gT i)with
  |none=>
   simp only[hb]at h⊢
   cases hc:s.gT i with
   |und=>
    simp only[hc,QRs]at h⊢
    obtain⟨⟨x',W',u'⟩,h1,h2⟩:=h
    cases h2
    exact⟨_,ihq _ s' _ _ _ h1 (ha.mono (by simp+contextual)),rfl⟩
   |_=>simp[hc]at h
  |some b=>
   simp only[hb,QRs]at h⊢
   obtain⟨⟨x',W',u'⟩,h1,h2⟩:=h
   cases h2
   have ha':=ha.mono (vs:=u') (by simp+contextual)
   refine⟨(x',W',u'), ?_,rfl⟩
   cases b<;>cases want<;>simp only[QQ1,QQ2,if_true,QRw,if_false]at h1⊢ <;>first|exact ihp _ s' _ _ _ h1 ha'|exact ihq _ s' _ _ _ h1 ha'
 |call ts o f ih=>
  intro s s' x W us h ha
  cases o with
  |none=>cases h
  |some y=>simpa[RP.tw]using ih y s s' _ _ _ (by simpa[RP.tw]using h) ha
theorem Wr.comm (v w:Wr) (h:∀ρ∈v.ds,ρ∉w.ds) (s:St):v.ap (w.ap s)=w.ap (v.ap s):=by
 have hC:∀(r k r' k':Nat) (c c':Con),¬(r=r'/\k=k')->(s.sC r k c).sC r' k' c'=(s.sC r' k' c').sC r k c:=by
  intro r k r' k' c c' hne
  unfold St.sC
  by_cases hr:r=r'
  ·subst hr
   simp only[XJ,QmU]
   rw[Qbt _ k k' _ _ (fun e=>hne ⟨rfl,e⟩)]
  ·simp only[X8 _ _ _ _ hr,X8 _ _ _ _ (Ne.symm hr)]
   rw[Qbt _ r r' _ _ hr]
 cases v with
 |t i y=>
  cases w with
  |t j z=>
   have:j≠i:=fun e=>h (.t i) (by simp[Wr.ds]) (by simp[Wr.ds,e])
   simp only[Wr.ap,St.sT];rw[Qbt _ _ _ _ _ this]
  |_=>rfl
 |b i y=>
  cases w with
  |b j z=>
   have:j≠i:=fun e=>h (.b i) (by simp[Wr.ds]) (by simp[Wr.ds,e])
   simp only[Wr.ap,St.sB];rw[Qbt _ _ _ _ _ this]
  |_=>rfl
 |c r k y=>
  cases w with
  |c r' k' z=>
   refine hC _ _ _ _ _ _ fun e=> ?_
   exact h (.c r k) (by simp[Wr.ds]) (by simp[Wr.ds,e.1,e.2])
  |v r' k' z=>
   have hne:¬(r'=r/\k'=k):=fun e=>h (.c r k) (by simp[Wr.ds]) (by simp[Wr.ds,e.1,e.2])
   simp only[Wr.ap,St.sV,QP]
   rw[if_neg (fun e=>hne ⟨e.1.symm,e.2.symm⟩)]
   exact hC _ _ _ _ _ _ hne
  |_=>rfl
 |v r k y=>
  cases w with
  |c r' k' z=>
   have hne:¬(r'=r/\k'=k):=fun e=>h (.c r k) (by simp[Wr.ds]) (by simp[Wr.ds,e.1,e.2])
   simp only[Wr.ap,St.sV,QP]
   rw[if_neg hne]
   exact hC _ _ _ _ _ _ hne
  |v r' k' z=>
   have hne:¬(r'=r/\k'=k):=fun e=>h (.c r k) (by simp[Wr.ds]) (by simp[Wr.ds,e.1,e.2])
   simp only[Wr.ap,St.sV,QP]
   rw[if_neg hne,if_neg (fun e=>hne ⟨e.1.symm,e.2.symm⟩)]
   exact hC _ _ _ _ _ _ hne
  |_=>rfl
theorem Qzq (v:Wr):(W:List Wr)->(∀ρ∈v.ds,ρ∉dsW W)->(s:St)->apW W (v.ap s)=v.ap (apW W s)
 | [],_,_=>rfl
 |w::W,h,s=>by
  simp only[apW]
  rw[<-Wr.comm v w (fun ρ hρ hm=>h ρ hρ (by simp[dsW,hm])),Qzq v W (fun ρ hρ hm=>h ρ hρ (by simp[dsW,hm]))]
theorem QJl (V W:List Wr) (h:∀ρ∈dsW V,ρ∉dsW W) (s:St):apW W (apW V s)=apW V (apW W s):=by
 induction V generalizing s with
 |nil=>rfl
 |cons v V ih=>
  simp only[apW]
  rw[ih (fun ρ hρ=>h ρ (by simp[dsW,hρ])),Qzq v W (fun ρ hρ=>h ρ (by simp[dsW,hρ]))]
def Qnq (f:Oper->RP Unit):List Oper->St->List (List Wr×List Rs)->Prop
 | [],_,[]=>True
 |o::l,s,t::ts=>(f o).tw s=some ((),t.1,t.2)/\Qnq f l (apW t.1 s) ts
 |_,_,_=>False
def YE (S:Nat->Bool):Nat->List (List Wr×List Rs)->St->St
 |_,[],s=>s
 |k,t::ts,s=>YE S (k+1) ts (bif S k then apW t.1 s else s)
theorem Qrs {S:Nat->Bool}:(k:Nat)->(ts:List (List Wr×List Rs))->(s:St)->(∀j,k<=j->S j=false)->YE S k ts s=s
 |_,[],_,_=>rfl
 |k,t::ts,s,h=>by
  simp only[YE,h k (QY2 _),QQ2]
  exact Qrs (k+1) ts s (fun j hj=>h j (by omega))
theorem Qqj {S S':Nat->Bool}:(k:Nat)->(ts:List (List Wr×List Rs))->(s:St)->(∀j,k<=j->j<k+ts.length->S j=S' j)->YE S k ts s=YE S' k ts s
 |_,[],_,_=>rfl
 |k,t::ts,s,h=>by
  simp only[YE]
  rw[h k (QY2 _) (by simp),Qqj (k+1) ts _ (fun j hj hl=>h j (by omega) (by simp;omega))]
theorem Qnq.len {f:Oper->RP Unit}: {l:List Oper}-> {s:St}-> {ts:List (List Wr×List Rs)}->Qnq f l s ts->ts.length=l.length
 | [],_,[],_=>rfl
 |_::_,_,_::_,h=>by simp[Qnq.len h.2]
theorem Qnq.at_ {f:Oper->RP Unit}(l:List Oper):∀(s:St) (ts:List (List Wr×List Rs)),Qnq f l s ts->∀(k i:Nat) (o:Oper),l[i]? =some o->
 ∃t,ts[i]? =some t/\(f o).tw (YE (fun j=>decide (j<k+i)) k ts s)=some ((),t.1,t.2):=by
 induction l with
 |nil=>intro s ts _ k i o h;simp at h
 |cons o' l ih=>
  intro s ts h k i o ho
  cases ts with
  |nil=>exact h.elim
  |cons t ts=>
   cases i with
   |zero=>
    simp at ho;subst ho
    refine⟨t,rfl, ?_⟩
    rw[Qrs k _ s (fun j hj=>by simp;omega)]
    exact h.1
   |succ i=>
    obtain⟨t',h1,h2⟩:=ih _ ts h.2 (k+1) i o (by simpa using ho)
    refine⟨t',by simpa using h1, ?_⟩
    simp only[YE]
    rw[show(decide (k<k+(i+1)))=true by simp]
    simp only[QQ1]
    rw[show(fun j=>decide (j<k+(i+1)))=fun j=>decide (j<k+1+i) by funext j;congr 1;simp;omega]
    exact h2
theorem QEV {S S':Nat->Bool}{us:List Rs}(hs:Shd us):(k:Nat)->(ts:List (List Wr×List Rs))->(s s':St)->
 (∀j t,ts[j]? =some t->S (k+j)=S' (k+j)\/∀ρ∈dsW t.1,ρ∉us)->Ag s s' us->Ag (YE S k ts s) (YE S' k ts s') us
 |_,[],_,_,_,h=>h
 |k,t::ts,s,s',hd,h=>by
  simp only[YE]
  refine QEV hs (k+1) ts _ _ (fun j u hu=>by have:=hd (j+1) u (by simpa using hu);rwa[show k+(j+1)=k+1+j by omega]at this) ?_
  have h0:=hd 0 t rfl
  simp only[QY3]at h0
  cases hS:S k<;>cases hS':S' k
  ·exact h
  ·simp only[QQ2,QQ1]
   exact h.trans (Ag.QJU _ (h0.resolve_left (by simp[hS,hS'])))
  ·simp only[QQ2,QQ1]
   exact(Ag.QJU _ (h0.resolve_left (by simp[hS,hS']))).symm.trans h
  ·simp only[QQ1]
   exact h.apW hs _
theorem Qru {S:Nat->Bool}(V:List Wr):(k:Nat)->(ts:List (List Wr×List Rs))->(s:St)->
 (∀j t,ts[j]? =some t->S (k+j)=true->∀ρ∈dsW V,ρ∉dsW t.1)->YE S k ts (apW V s)=apW V (YE S k ts s)
 |_,[],_,_=>rfl
 |k,t::ts,s,h=>by
  simp only[YE]
  have hn:∀j u,ts[j]? =some u->S (k+1+j)=true->∀ρ∈dsW V,ρ∉dsW u.1:=fun j u hu hS=>h (j+1) u (by simpa using hu) (by rw[show k+(j+1)=k+1+j by omega];exact hS)
  cases hS:S k with
  |false=>simp only[QQ2];exact Qru V (k+1) ts s hn
  |true=>
   simp only[QQ1]
   rw[QJl V t.1 (h 0 t rfl (by simpa using hS))]
   exact Qru V (k+1) ts _ hn
theorem QDr {S:Nat->Bool}(i:Nat):(k:Nat)->(ts:List (List Wr×List Rs))->(s:St)->(t:List Wr×List Rs)->ts[i]? =some t->S (k+i)=false->
 (∀j u,ts[j]? =some u->i<j->S (k+j)=true->∀ρ∈dsW t.1,ρ∉dsW u.1)->
 YE (fun j=>if j=k+i then true else S j) k ts s=apW t.1 (YE S k ts s):=by
 induction i with
 |zero=>
  intro k ts s t ht hS hd
  cases ts with
  |nil=>simp at ht
  |cons u ts=>
   simp at ht;subst ht
   simp only[YE,QY3,if_true,QQ1]
   rw[show S k=false by simpa using hS]
   simp only[QQ2]
   rw[Qqj (S':=S) (k+1) ts _ (fun j hj _=>by rw[if_neg (by omega)])]
   exact Qru _ (k+1) ts s (fun j u hu hSj=>hd (j+1) u (by simpa using hu) (by omega) (by rw[show k+(j+1)=k+1+j by omega];exact hSj))
 |succ i ih=>
  intro k ts s t ht hS hd
  cases ts with
  |nil=>simp at ht
  |cons u ts=>
   simp only[YE]
   rw[show(if k=k+(i+1)then true else S k)=S k from if_neg (by omega)]
   have:=ih (k+1) ts (bif S k then apW u.1 s else s) t (by simpa using ht) (by rw[show k+1+i=k+(i+1) by omega];exact hS)
    (fun j v hv hij hSj=>hd (j+1) v (by simpa using hv) (by omega) (by rw[show k+(j+1)=k+1+j by omega];exact hSj))
   rw[show k+(i+1)=k+1+i by omega]
   exact this
def edge (ops:List Oper) (i j:Nat):Prop:=∃o,ops[i]? =some o/\∃e∈o.after.toList,Region.binds .any e=true/\e.on=j
theorem Qq3 {ops:List Oper}(h:Qpj ops=true) {i j:Nat}(he:edge ops i j):j<i:=by
 obtain⟨o,ho,e,hm,hb,rfl⟩:=he
 unfold Qpj at h
 rw[QRt]at h
 have:=h (o,i) (by rw[List.mem_zipIdx_iff_getElem?];simpa using ho)
 simp only[QRt]at this
 have:=this e hm
 simp only[hb,QQ3,Bool.false_or]at this
 simpa[Nat.blt_eq]using this
def mask (acc:List Nat) (o:Oper):Nat:=o.after.toList.foldl (fun s e=>if Region.binds .any e then s|||2^e.on|||lget 0 acc e.on else s) 0
theorem QCK {acc:List Nat}{j:Nat}:(l:List Edge)->(s:Nat)->(l.foldl (fun s e=>if Region.binds .any e then s|||2^e.on|||lget 0 acc e.on else s) s).testBit j=true->
 s.testBit j=true\/∃e∈l,Region.binds .any e=true/\(e.on=j\/(lget 0 acc e.on).testBit j=true)
 | [],s,h=> .inl h
 |e::l,s,h=>by
  rcases QCK l _ h with h|⟨e',hm,h⟩
  ·by_cases hb:Region.binds .any e=true
   ·simp only[hb,if_true,Nat.testBit_or,QY32,Nat.testBit_two_pow]at h
    rcases h with(h|h)|h
    ·exact .inl h
    ·exact .inr ⟨e,by simp,hb, .inl (by simpa using h)⟩
    ·exact .inr ⟨e,by simp,hb, .inr h⟩
   ·simp only[hb]at h;exact .inl h
  ·exact .inr ⟨e',by simp[hm],h⟩
theorem Qwn (ops:List Oper):befores ops=ops.foldl (fun acc o=>acc++[mask acc o]) []:=rfl
theorem QGM (ops:List Oper) (acc:List Nat):∃l,ops.foldl (fun acc o=>acc++[mask acc o]) acc=acc++l/\l.length=ops.length:=by
 induction ops generalizing acc with
 |nil=>exact⟨[],by simp,rfl⟩
 |cons o ops ih=>
  obtain⟨l,h,hl⟩:=ih (acc++[mask acc o])
  exact⟨mask acc o::l,by simp[h],by simp[hl]⟩
theorem QtJ (a b:List Nat) (i:Nat) (h:i<a.length):lget 0 (a++b) i=lget 0 a i:=by
 induction a generalizing i with
 |nil=>simp at h
 |cons x a ih=>
  cases i with
  |zero=>rfl
  |succ i=>simpa[lget]using ih i (by simpa using h)
theorem QsX (a b:List Nat) (i:Nat):lget 0 (a++b) (a.length+i)=lget 0 b i:=by
 induction a with
 |nil=>simp
 |cons x a ih=>simp only[QRv,QY1,Nat.add_right_comm _ 1,lget];exact ih
theorem QAc (ops:List Oper):∀(acc:List Nat) (i:Nat) (o:Oper),ops[i]? =some o->
 ∃pre,(∃post,ops.foldl (fun acc o=>acc++[mask acc o]) acc=pre++post)/\pre.length=acc.length+i/\
  lget 0 (ops.foldl (fun acc o=>acc++[mask acc o]) acc) (acc.length+i)=mask pre o:=by
 induction ops with
 |nil=>intro acc i o h;simp at h
 |cons o' ops ih=>
  intro acc i o h
  cases i with
  |zero=>
   simp at h;subst h
   obtain⟨l,hl,_⟩:=QGM ops (acc++[mask acc o'])
   refine⟨acc,⟨mask acc o'::l,by simp[hl]⟩,rfl, ?_⟩
   simp only[List.foldl_cons,hl,QRc]
   exact QsX acc _ 0
  |succ i=>
   obtain⟨pre,h1,h2,h3⟩:=ih (acc++[mask acc o']) i o (by simpa using h)
   refine⟨pre,h1,by rw[h2];simp;omega, ?_⟩
   simp only[List.foldl_cons]
   rw[<-h3]
   congr 1
   simp;omega
theorem Qik {ops:List Oper}(hk:Qpj ops=true) {S:Nat->Bool}(hS:∀i j,S i=true->edge ops i j->S j=true):
 ∀i,(∀j,edge ops i j->S j=true)->i<ops.length->∀j,(lget 0 (befores ops) i).testBit j=true->S j=true:=by
 intro i
 induction i using Nat.strongRecOn with
 |_ i ih=>
  intro hd hi j hb
  obtain⟨pre,⟨post,h1⟩,h2,h3⟩:=QAc ops [] i ops[i] (QRp hi)
  simp only[QY6,QRo]at h2 h3
  rw[Qwn,h3]at hb
  rcases QCK _ _ hb with h|⟨e,hm,hbd,h⟩
  ·simp at h
  ·have he:edge ops i e.on:=⟨_,QRp hi,e,hm,hbd,rfl⟩
   have hlt:=Qq3 hk he
   rcases h with rfl|h
   ·exact hd _ he
   ·refine ih e.on hlt (fun j' hj'=>hS _ _ (hd _ he) hj') (by omega) j ?_
    rw[Qwn,h1,QtJ _ _ _ (by omega)]
    exact h
theorem Rs.eq_iff (a b:Rs):a.eq b=true↔a=b:=by
 cases a<;>cases b<;>simp[Rs.eq]
theorem Qpx {a b:List Rs}(h:meet a b=false):∀ρ∈a,ρ∉b:=by
 intro ρ ha hb
 have:meet a b=true:=by
  unfold meet
  rw[QY27]
  exact⟨ρ,ha,by rw[QY27];exact⟨ρ,hb,(Rs.eq_iff _ _).2 rfl⟩⟩
 rw[h]at this;cases this
def QKM (a b:List Wr×List Rs):Prop:=(∀ρ∈dsW a.1,ρ∉b.2)/\(∀ρ∈dsW a.1,ρ∉dsW b.1)/\∀ρ∈a.2,ρ∉dsW b.1
def QJR (t:Tr) (x:List Wr×List Rs):Prop:=(∀ρ,ρ∈t.us↔ρ∈x.2)/\∀ρ,ρ∈t.ds↔ρ∈dsW x.1
theorem apart_spec {a b:Tr}{x y:List Wr×List Rs}(ha:QJR a x) (hb:QJR b y) (h:apart a b=true):QKM x y:=by
 unfold apart at h
 simp only[QY14,Bool.or_eq_false_iff]at h
 obtain⟨⟨h1,h2⟩,h3⟩:=h
 refine⟨fun ρ hx hy=>Qpx h1 ρ ((ha.2 ρ).2 hx) ((hb.1 ρ).2 hy),fun ρ hx hy=>Qpx h2 ρ ((ha.2 ρ).2 hx) ((hb.2 ρ).2 hy),fun ρ hx hy=>Qpx h3 ρ ((ha.1 ρ).2 hx) ((hb.2 ρ).2 hy)⟩
theorem QqG {bs:List Nat}:(trs:List Tr)->(k:Nat)->Qlw bs k trs=true->∀i j a b,i<j->trs[i]? =some a->trs[j]? =some b->(lget 0 bs (k+j)).testBit (k+i)=true\/apart a b=true
 | [],_,_,i,j,a,b,_,hi,_=>by simp at hi
 |t::trs,k,h,i,j,a,b,hij,hi,hj=>by
  simp only[Qlw,QQ5,QRt]at h
  cases j with
  |zero=>omega
  |succ j=>
   cases i with
   |zero=>
    simp at hi;subst hi
    have:=h.1 (b,k+1+j) (by rw[List.mem_zipIdx_iff_le_and_getElem?_sub];refine⟨by omega, ?_⟩;rw[show k+1+j - (k+1)=j by omega];simpa using hj)
    simp only[QY32]at this
    rw[show k+(j+1)=k+1+j by omega]
    exact this
   |succ i=>
    have:=QqG trs (k+1) h.2 i j a b (by omega) (by simpa using hi) (by simpa using hj)
    rw[show k+(j+1)=k+1+j by omega,show k+(i+1)=k+1+i by omega]
    exact this
theorem QrD {β:Type}{E:Env}{D:Xz E}{fx:Fx}{all:List Oper}:(l:List Oper)->(trs:List Tr)->(s:St)->(K:St->Option β)->(out:β)->QgO E D fx all l trs s K=some out->
 ∃(ts:List (List Wr×List Rs)) (trs':List Tr),Qnq (fun o=>KG (xW E D fx all o)) l s ts/\trs'.length=l.length/\(∀(i:Nat) (t:Tr) (x:List Wr×List Rs),trs'[i]? =some t->ts[i]? =some x->QJR t x)/\Qlw (befores all) 0 (trs++trs')=true/\Qpj all=true/\
  K (YE (fun _=>true) 0 ts s)=some out
 | [],trs,s,K,out,h=>by
   simp only[QgO]at h
   split at h
   ·rename_i hc
    simp only[QQ5]at hc
    exact⟨[],[],trivial,rfl,fun i t x hi=>by simp at hi,by simpa using hc.1,hc.2,h⟩
   ·cases h
 |o::l,trs,s,K,out,h=>by
  obtain⟨x,W,us,t',h1,h2,h3⟩:=RP.QMs _ _ _ _ _ h
  obtain⟨ts,trs',c1,c2,c3,c4,c5,c6⟩:=QrD l (trs++[t']) _ K out h3
  refine⟨(W,us)::ts,t'::trs',⟨h1,c1⟩,by simp[c2], ?_,by simpa using c4,c5, ?_⟩
  ·intro i t y hi hy
   cases i with
   |zero=>
    simp at hi hy
    subst hi;subst hy
    exact⟨fun ρ=>by rw[h2.1];simp,fun ρ=>by rw[h2.2];simp⟩
   |succ i=>exact c3 i t y (by simpa using hi) (by simpa using hy)
  ·simp only[YE,QQ1]
   rw[<-c6]
   congr 1
   exact subA_congr' ts _ 1 0
 where subA_congr':(ts:List (List Wr×List Rs))->(s:St)->(k k':Nat)->YE (fun _=>true) k ts s=YE (fun _=>true) k' ts s
  | [],_,_,_=>rfl
  |t::ts,s,k,k'=>by simp only[YE];exact subA_congr' ts _ _ _
theorem QLl {P:Program}{β:Type}{E:Env}{D:Xz E}{fx:Fx}{ops:Array Oper}{id:Nat}{Q:Exit->Act->World->Prop}
 (hm:P.follows .mixedOrders=true) (Good:St->Act->World->Prop)
 (hdraw:∀s a w,Good s a w->Good s a {w with drawn:=w.drawn+1})
 (hstep:∀i o,ops[i]? =some o->∀s s' a w,Good s a w->(KG (xW E D fx ops.toList o)).run s=some ((),s')->∀K:Act->World->Prop,(∀a' w',Good s' a' w'->K a' w')->wpOp P ops Q i K a w)
 {s:St}{a:Act}{w:World}{K:St->Option β}{out:β}(h:QgO E D fx ops.toList ops.toList [] s K=some out) (hg:Good s a w)
 (hQ:∀s' a' w',Good s' a' w'->K s'=some out->Q .normal a' w'):(Code.region id ops true).wp P Q a w:=by
 obtain⟨ts,trs,hc,hl,ht,hap,hk,hout⟩:=QrD _ _ _ _ _ h
 simp only[QRe]at hap
 have hlen:ts.length=ops.size:=by rw[hc.len];simp
 have hltr:trs.length=ops.size:=by rw[hl];simp
 have hpair:∀i j x y,i<j->ts[i]? =some x->ts[j]? =some y->(lget 0 (befores ops.toList) j).testBit i=true\/QKM x y:=by
  intro i j x y hij hx hy
  have hi:i<ts.length:=(QRq.1 hx).1
  have hj:j<ts.length:=(QRq.1 hy).1
  have h1:trs[i]? =some (trs[i]'(by omega)):=QRp _
  have h2:trs[j]? =some (trs[j]'(by omega)):=QRp _
  rcases QqG trs 0 hap i j _ _ hij h1 h2 with h|h
  ·left;simpa using h
  ·exact .inr (apart_spec (ht i _ _ h1 hx) (ht j _ _ h2 hy) h)
 apply wp_region_any hm
 have main:∀(fuel:Nat) (listed:Array Bool) (a:Act) (w:World),listed.size=ops.size->listed.toList.count false<=fuel->
  (∀i j,listed.getD i false=true->edge ops.toList i j->listed.getD j false=true)->
  Good (YE (fun j=>listed.getD j false) 0 ts s) a w->wpAny P .any ops Q fuel listed a w:=by
  intro fuel
  have hall:∀(listed:Array Bool),listed.size=ops.size->Region.ready .any ops listed=[]->∀i,i<ops.size->listed.getD i false=true:=by
   intro listed hs hr i
   induction i using Nat.strongRecOn with
   |_ i ih=>
    intro hi
    cases hli:listed.getD i false with
    |true=>rfl
    |false=>
     exfalso
     have hmem:i∈Region.ready .any ops listed:=by
      unfold Region.ready
      rw[List.mem_filter]
      refine⟨List.mem_range.2 hi, ?_⟩
      have e1:listed.getD i true=false:=by
       simp only[Array.getD,hs,hi,dif_pos]at hli⊢; exact hli
      have e2:ops[i]? =some ops[i]:=by simp[hi]
      simp only[e1,e2,QQ4,QRd,Option.map_some,Option.getD_some]
      rw[Array.all_eq_true_iff_forall_mem]
      intro e he
      by_cases hb:Region.binds .any e=true
      ·have hed:edge ops.toList i e.on:=⟨ops[i],by simp[hi],e,by simpa using he,hb,rfl⟩
       have hlt:=Qq3 hk hed
       simp[ih e.on hlt (by omega)]
      ·simp[hb]
     rw[hr]at hmem;cases hmem
  have hfin:∀(listed:Array Bool) (a:Act) (w:World),listed.size=ops.size->Region.ready .any ops listed=[]->Good (YE (fun j=>listed.getD j false) 0 ts s) a w->Q .normal a w:=by
   intro listed a w hs hr hg
   refine hQ _ a w hg ?_
   rw[<-hout]
   congr 1
   exact Qqj 0 ts s (fun j _ hj=>hall listed hs hr j (by omega))
  induction fuel with
  |zero=>
   intro listed a w hs hcnt hcl hg
   have hr:Region.ready .any ops listed=[]:=by
    unfold Region.ready
    rw[List.filter_eq_nil_iff]
    intro i hi
    have hi:=List.mem_range.1 hi
    have:listed.getD i true=true:=by
     simp only[Array.getD,hs,hi,dif_pos]
     cases hb:listed.getInternal i (by omega)with
     |true=>rfl
     |false=>
      exfalso
      have hm:false∈listed.toList:=by
       rw[<-hb];simp[Array.getInternal]
      have:=List.count_pos_iff.2 hm
      omega
    simp[this]
   exact⟨hr,hfin listed a w hs hr hg⟩
  |succ fuel ih=>
   intro listed a w hs hcnt hcl hg
   refine⟨fun hr=>hfin listed a w hs hr hg,fun i hi=> ?_⟩
   unfold Region.ready at hi
   rw[List.mem_filter]at hi
   obtain⟨hi1,hi2⟩:=hi
   have hi1:=List.mem_range.1 hi1
   simp only[QQ5,QY14]at hi2
   obtain⟨hnl,haf⟩:=hi2
   have hnl':listed.getD i false=false:=by simp only[Array.getD,hs,hi1,dif_pos]at hnl⊢; exact hnl
   have hoi:ops[i]? =some ops[i]:=by simp[hi1]
   have hpre:∀j,edge ops.toList i j->listed.getD j false=true:=by
    rintro j ⟨o,ho,e,he,hb,rfl⟩
    have:o=ops[i]:=by simp[hi1]at ho;exact ho.symm
    subst this
    simp only[hoi,Option.map_some,Option.getD_some]at haf
    rw[Array.all_eq_true_iff_forall_mem]at haf
    have:=haf e (by simpa using he)
    simpa[hb]using this
   obtain⟨t,hti,htw⟩:=Qnq.at_ _ s ts hc 0 i ops[i] (by simp[hi1])
   have hbit:∀j,(lget 0 (befores ops.toList) i).testBit j=true->listed.getD j false=true:=Qik hk hcl i hpre (by simpa using hi1)
   have hag:Ag (YE (fun j=>decide (j<0+i)) 0 ts s) (YE (fun j=>listed.getD j false) 0 ts s) t.2:=by
    refine QEV (RP.Qri _ _ _ _ _ htw) 0 ts s s (fun j u hu=> ?_) (Ag.refl _ _)
    simp only[QRo]
    rcases Nat.lt_trichotomy j i with hji|rfl|hij
    ·cases hlj:listed.getD j false with
     |true=>left;simp[hji]
     |false=>
      right
      rcases hpair j i u t hji hu hti with h|h
      ·rw[hbit j h]at hlj;cases hlj
      ·exact h.1
    ·left;simp[hnl']
    ·cases hlj:listed.getD j false with
     |false=>left;simp;omega
     |true=>
      right
      rcases hpair i j t u hij hti hu with h|h
      ·have hj:j<ops.size:=by rw[<-hlen];exact(QRq.1 hu).1
       have:=Qik hk hcl j (fun j' hj'=>hcl j j' hlj hj') (by simpa using hj) i h
       rw[hnl']at this;cases this
      ·exact fun ρ hρ hm=>h.2.2 ρ hm hρ
   have htw':=RP.QNd _ _ _ _ _ _ htw hag
   have hrun:(KG (xW E D fx ops.toList ops[i])).run (YE (fun j=>listed.getD j false) 0 ts s)=some ((),apW t.1 (YE (fun j=>listed.getD j false) 0 ts s)):=by
    rw[RP.QME,htw'];rfl
   refine hstep i ops[i] hoi _ _ a w hg hrun _ (fun a' w' hg'=> ?_)
   have hgetD:∀j,(listed.setIfInBounds i true).getD j false=if j=i then true else listed.getD j false:=by
    intro j
    by_cases hji:j=i
    ·subst hji;simp[Array.getD,hs,hi1]
    ·simp only[if_neg hji,Array.getD,Array.size_setIfInBounds]
     split
     ·simp[Array.getInternal,Ne.symm hji]
     ·rfl
   refine ih _ a' w' (by simp[hs]) ?_ ?_ ?_
   ·have hmem:false∈listed.toList:=by
     simp only[Array.getD,hs,hi1,dif_pos]at hnl'
     rw[<-hnl'];simp[Array.getInternal]
    have hpos:=List.count_pos_iff.2 hmem
    have hli:listed.toList[i]'(by simp[hs,hi1])=false:=by
     simp only[Array.getD,hs,hi1,dif_pos]at hnl'
     simpa[Array.getInternal]using hnl'
    simp only[Array.toList_setIfInBounds]
    rw[List.count_set (by simp[hs,hi1])]
    simp only[hli,beq_self_eq_true,if_true,show(true==false)=false from rfl,QRw,if_false]
    omega
   ·intro j j' hj he
    rw[hgetD]at hj⊢
    split at hj
    ·rename_i e;subst e
     split
     ·rfl
     ·exact hpre j' he
    ·split
     ·rfl
     ·exact hcl j j' hj he
   ·have:=QDr (S:=fun j=>listed.getD j false) i 0 ts s t hti (by simpa using hnl') (fun j u hu hij hSj=>by
     simp only[QRo]at hSj
     rcases hpair i j t u hij hti hu with h|h
     ·have hj:j<ops.size:=by rw[<-hlen];exact(QRq.1 hu).1
      have:=Qik hk hcl j (fun j' hj'=>hcl j j' hSj hj') (by simpa using hj) i h
      rw[hnl']at this;cases this
     ·exact h.2.1)
    rw[show(fun j=>(listed.setIfInBounds i true).getD j false)=fun j=>if j=0+i then true else listed.getD j false by funext j;rw[hgetD];simp]
    rw[this]
    exact hg'
 refine main ops.size _ a _ (by simp) (by simp) (fun i j hi he=> ?_) ?_
 ·simp[Array.getD]at hi
 ·rw[Qrs 0 ts s (fun j _=>by simp[Array.getD])]
  exact hdraw _ _ _ hg
theorem VG {w:World}{g:Nat}{cur:Array Value}{e:TypeId}{fr:Nat×Nat}(h:w.heap[g]? =some (.cells cur e fr)) (o j:Nat):w.cell? ((⟨g,o,none⟩:Addr).add j)=cur[o+j]? :=by
 rw[add_plain];simp[World.cell?,h]
theorem QBM {α:Type}(l:List α) (i:Nat) (x:α) (h:l[i]? =some x):l=l.take i++x::l.drop (i+1):=by
 have hi:i<l.length:=(QRq.1 h).1
 have hx:l[i]=x:=(QRq.1 h).2
 rw[<-hx,<-QRa hi,List.take_append_drop]
theorem Own.el {w:World}{R:Nat->Prop}{deep:Bool}{ts:Tys}{xs:Val (.sl ts)}{u:Value}{bl:List Nat}(h:Own w R deep (.sl ts) xs u bl) (i:Nat) (x:Qm ts) (hx:(vl xs)[i]? =some x):
 ∃(g off cap:Nat) (cur:Array Value) (e:TypeId) (pre b post:List Nat) (us:List Value),u= .slice (some ⟨g,off,none⟩) (vl xs).length cap/\w.heap[g]? =some (.cells cur e (0,0))/\
  (vl xs).length<=cap/\cap<=maxLen/\off+cap*ts.len<=cur.size/\bl=g::(pre++b++post)/\Cells w ⟨g,off,none⟩ (i*ts.len) us/\QT w R deep ts x us b/\
  ∀(w':World) (cur':Array Value) (x':Qm ts) (us':List Value) (b':List Nat),w'.heap[g]? =some (.cells cur' e (0,0))->cur'.size=cur.size->
   (∀j,j<off+i*ts.len\/off+i*ts.len+ts.len<=j->cur'[j]? =cur[j]?)->(∀c∈pre++post,Q5 w w' c)->(∀c,R c->Q5 w w' c)->
   Cells w' ⟨g,off,none⟩ (i*ts.len) us'->QT w' R deep ts x' us' b'->Own w' R deep (.sl ts) (List.set (vl xs) i x') u (g::(pre++b'++post)):=by
 rcases h with⟨h1,_⟩|⟨g,off,cap,cur,e,bls,hu,hg,h1,h2,h3,hb,hl,hc⟩
 ·rw[h1]at hx;simp at hx
 ·have hi:i<(vl xs).length:=(QRq.1 hx).1
  have hbi:bls[i]? =some (bls[i]'(by omega)):=QRp _
  obtain⟨us,hcs,ho⟩:=hc i x _ hx hbi
  have hsp:=QBM bls i _ hbi
  refine⟨g,off,cap,cur,e,(bls.take i).flatten,bls[i]'(by omega),(bls.drop (i+1)).flatten,us,hu,hg,h1,h2,h3, ?_,hcs,ho, ?_⟩
  ·have hf:=congrArg List.flatten hsp
   rw[QY21,QRr]at hf
   rw[hb,hf,QRc]
  ·intro w' cur' x' us' b' hg' hs' hcur hpre hR hcs' ho'
   have hmem:∀k b,k≠i->bls[k]? =some b->∀c∈b,c∈(bls.take i).flatten++(bls.drop (i+1)).flatten:=by
    intro k b hk hbk c hcb
    rw[QRh,QY9,QY9]
    rcases Nat.lt_or_gt_of_ne hk with h|h
    ·exact .inl ⟨b,QY22 (i:=k) (by rw[List.getElem?_take];simp[h,hbk]),hcb⟩
    ·exact .inr ⟨b,QY22 (i:=k - (i+1)) (by rw[List.getElem?_drop,show i+1+(k - (i+1))=k by omega];exact hbk),hcb⟩
   refine .inr ⟨g,off,cap,cur',e,bls.set i b', ?_,hg', ?_,h2,by rw[hs'];exact h3, ?_, ?_, ?_⟩
   ·rw[hu,show(vl (ts:=ts) (List.set (vl xs) i x')).length=(vl xs).length from QY12 ..]
   ·rw[show(vl (ts:=ts) (List.set (vl xs) i x')).length=(vl xs).length from QY12 ..];exact h1
   ·rw[List.set_eq_take_append_cons_drop,if_pos (by omega)];simp
   ·rw[show(vl (ts:=ts) (List.set (vl xs) i x')).length=(vl xs).length from QY12 ..,QY12];exact hl
   ·intro k y b hy hbk
    by_cases hk:k=i
    ·subst hk
     rw[show(vl (ts:=ts) (List.set (vl xs) k x'))[k]? =some x' from List.getElem?_set_self hi]at hy
     rw[List.getElem?_set_self (by omega)]at hbk
     cases hy;cases hbk
     exact⟨us',hcs',ho'⟩
    ·rw[show(vl (ts:=ts) (List.set (vl xs) i x'))[k]? =(vl xs)[k]? from List.getElem?_set_ne (Ne.symm hk)]at hy
     rw[List.getElem?_set_ne (Ne.symm hk)]at hbk
     obtain⟨vs,k1,k2⟩:=hc k y b hy hbk
     refine⟨vs, ?_,QT.frame ts y vs b k2 (fun c hcb=>hpre c (hmem k b hk hbk c hcb)) hR⟩
     intro j v hj
     have hjl:j<ts.len:=by rw[<-(QT.len k2).1];exact(QRq.1 hj).1
     have:=k1 j v hj
     rw[VG hg]at this
     rw[VG hg',hcur,this]
     rcases Nat.lt_or_gt_of_ne hk with h|h
     ·left
      have:=QY16 ts.len (show k+1<=i from h)
      rw[QY25]at this
      omega
     ·right
      have:=QY16 ts.len (show i+1<=k from h)
      rw[QY25]at this
      omega
theorem Qyt (l vs:List Value) (o:Nat) (h:o+vs.length<=l.length) (j:Nat):
 (l.take o++vs++l.drop (o+vs.length))[j]? =if j<o then l[j]? else if j<o+vs.length then vs[j - o]? else l[j]? :=by
 have ho:o<=l.length:=by omega
 split
 ·rename_i h1
  rw[QRc,List.getElem?_append_left (by simp;omega),List.getElem?_take];simp[h1]
 ·split
  ·rename_i h1 h2
   rw[QRc,QY39 (by simp;omega),List.getElem?_append_left (by simp;omega)]
   simp[Nat.min_eq_left ho]
  ·rename_i h1 h2
   rw[QY39 (by simp;omega),List.getElem?_drop]
   congr 1
   simp[Nat.min_eq_left ho]
   omega
theorem QE7 (l vs:List Value) (o:Nat) (h:o+vs.length<=l.length):(l.take o++vs++l.drop (o+vs.length)).length=l.length:=by
 simp;omega
def Qee (ad:Option Addr) (cap l n:Nat):Option Addr:=ad.map fun a=>if cap=l then a else a.add (l*n)
theorem Qtm {α:Type}{a b:List (List α)}(h:a.Sublist b):a.flatten.Sublist b.flatten:=by
 induction h with
 |slnil=>exact .slnil
 |cons x _ ih=>exact ih.trans (QY31 _ _)
 |cons_cons x _ ih=>exact QY28 (QY23 x) ih
theorem add_add (a:Addr) (i j:Nat) (hi:i≠0):(a.add i).add j=a.add (i+j):=by
 obtain⟨b,o,c⟩:=a
 cases c with
 |none=>simp only[add_plain,QY19]
 |some p=>unfold Addr.add;split<;>simp_all[QY19]
theorem QaO {α:Type}(xs:List α) (l h i:Nat):(List.take (h - l) (List.drop l xs))[i]? =if i<h - l then xs[l+i]? else none:=by
 rw[List.getElem?_take];split<;>simp[List.getElem?_drop]
theorem Own.sub {w:World}{R:Nat->Prop}{deep:Bool}{ts:Tys}{xs:Val (.sl ts)}{u:Value}{bl:List Nat}(hw:Own w R deep (.sl ts) xs u bl) (l h:Nat) (hl:l<=h) (hh:h<=(vl xs).length):
 ∃(ad:Option Addr) (cap:Nat),u= .slice ad (vl xs).length cap/\(vl xs).length<=cap/\(ad=none->vl xs=[]/\cap=0)/\
  ∃bl',Own w R deep (.sl ts) (List.take (h - l) (List.drop l (vl xs))) (.slice (Qee ad cap l ts.len) (h - l) (cap - l)) bl'/\bl'.Sublist bl:=by
 rcases hw with⟨h1,h2,h3⟩|⟨g,off,cap,cur,e,bls,hu,hg,h1,h2,h3,hb,hlen,hc⟩
 ·rw[h1]at hh
  simp at hh;subst hh
  have:l=0:=by omega
  subst this
  exact⟨none,0,by rw[h2,h1];rfl,by rw[h1];simp,fun _=>⟨h1,rfl⟩,[], .inl ⟨by simp[vl],rfl,rfl⟩,by rw[h3];exact .slnil⟩
 ·have hvl:(vl (ts:=ts) (List.take (h - l) (List.drop l (vl xs)))).length=h - l:=by
   show(List.take (h - l) (List.drop l (vl xs))).length=_
   rw[QY26,QY7];omega
  refine⟨_,cap,hu,h1,(fun h=>by cases h),g::(List.take (h - l) (List.drop l bls)).flatten, .inr ?_, ?_⟩
  ·refine⟨g,if cap=l then off else off+l*ts.len,cap - l,cur,e,List.take (h - l) (List.drop l bls), ?_,hg,by rw[hvl];omega,by omega, ?_,rfl, ?_, ?_⟩
   ·rw[hvl];unfold Qee;simp only[Option.map_some];split
    ·rfl
    ·rw[add_plain]
   ·split
    ·rename_i e;subst e;simp;have:=QY16 ts.len h1;omega
    ·have:l*ts.len+(cap - l)*ts.len=cap*ts.len:=by rw[<-Nat.add_mul];congr 1;omega
     omega
   ·rw[hvl,QY26,QY7,hlen];omega
   ·intro i x b hx hbb
    rw[show(vl (ts:=ts) (List.take (h - l) (List.drop l (vl xs))))[i]? =_ from QaO (vl xs) l h i]at hx
    rw[QaO]at hbb
    split at hx
    ·rename_i hi
     rw[if_pos hi]at hbb
     obtain⟨us,k1,k2⟩:=hc (l+i) x b hx hbb
     refine⟨us, ?_,k2⟩
     rw[if_neg (by omega)]
     intro j v hj
     have:=k1 j v hj
     rw[add_plain]at this⊢
     rw[show off+l*ts.len+(i*ts.len+j)=off+((l+i)*ts.len+j) by rw[Nat.add_mul];omega]
     exact this
    ·cases hx
  ·rw[hb]
   exact List.Sublist.cons_cons _ (Qtm ((List.take_sublist _ _).trans (List.drop_sublist _ _)))
theorem Rep.sub {w:World}{ts:Tys}{xs:Val (.sl ts)}{u:Value}{bl:List Nat}(hw:Rep w (.sl ts) xs u bl) (l h:Nat) (hl:l<=h) (hh:h<=(vl xs).length):
 ∃(ad:Option Addr) (cap:Nat),u= .slice ad (vl xs).length cap/\(vl xs).length<=cap/\(ad=none->cap=0)/\
  ∃bl',Rep w (.sl ts) (List.take (h - l) (List.drop l (vl xs))) (.slice (Qee ad cap l ts.len) (h - l) (cap - l)) bl'/\bl'.Sublist bl:=by
 obtain⟨ad,cap,hu,⟨hcap,hn⟩,hw⟩:=hw
 have hvl:(vl (ts:=ts) (List.take (h - l) (List.drop l (vl xs)))).length=h - l:=by
  show(List.take (h - l) (List.drop l (vl xs))).length=_
  rw[QY26,QY7];omega
 have hn':Qee ad cap l ts.len=none->cap - l=0:=by
  intro e
  cases ad with
  |none=>have:=hn rfl;omega
  |some a=>cases e
 refine⟨ad,cap,hu,hcap,hn, ?_⟩
 rcases hw with⟨h1,h3⟩|⟨a,bls,ha,hb,hlen,hc⟩
 ·refine⟨[],⟨Qee ad cap l ts.len,cap - l,by rw[hvl],⟨by rw[hvl];omega,hn'⟩, .inl ⟨?_,rfl⟩⟩,by rw[h3];exact .slnil⟩
  show List.take (h - l) (List.drop l (vl xs))=[]
  rw[h1];simp
 ·refine⟨a.block::(List.take (h - l) (List.drop l bls)).flatten,⟨_,_,by rw[hvl],⟨by rw[hvl];omega,hn'⟩, .inr ⟨if cap=l then a else a.add (l*ts.len),List.take (h - l) (List.drop l bls),by rw[ha];rfl, ?_, ?_, ?_⟩⟩, ?_⟩
  ·congr 1;split
   ·rfl
   ·rw[QrJ]
  ·rw[hvl,QY26,QY7,hlen];omega
  ·intro i x b hx hbb
   rw[show(vl (ts:=ts) (List.take (h - l) (List.drop l (vl xs))))[i]? =_ from QaO (vl xs) l h i]at hx
   rw[QaO]at hbb
   split at hx
   ·rename_i hi
    rw[if_pos hi]at hbb
    obtain⟨us,k1,k2⟩:=hc (l+i) x b hx hbb
    refine⟨us, ?_,k2⟩
    rw[if_neg (by omega)]
    intro j v hj
    have:=k1 j v hj
    by_cases h0:l*ts.len=0
    ·rw[h0,add_zero];rw[Nat.add_mul,h0,QRo]at this;exact this
    ·rw[add_add _ _ _ h0,show l*ts.len+(i*ts.len+j)=(l+i)*ts.len+j by rw[Nat.add_mul];omega]
     exact this
   ·cases hx
  ·rw[hb]
   exact List.Sublist.cons_cons _ (Qtm ((List.take_sublist _ _).trans (List.drop_sublist _ _)))
def Xq {ts:Tys}(Q:Qm ts->List Value->List Nat->Prop):List (Qm ts)->List Value->List (List Nat)->Prop
 | [],cs,bls=>cs=[]/\bls=[]
 |x::xs,cs,bls=>∃us cs' b bls',cs=us++cs'/\bls=b::bls'/\us.length=ts.len/\Q x us b/\Xq Q xs cs' bls'
section
variable {ts:Tys}{Q Q':Qm ts->List Value->List Nat->Prop}
theorem Xq.len: {xs:List (Qm ts)}-> {cs:List Value}-> {bls:List (List Nat)}->Xq Q xs cs bls->cs.length=xs.length*ts.len/\bls.length=xs.length
 | [],_,_,h=>by rw[h.1,h.2];simp
 |x::xs,_,_,h=>by
  obtain⟨us,cs',b,bls',rfl,rfl,hu,_,h'⟩:=h
  have:=Xq.len h'
  refine⟨?_,by simp[this.2]⟩
  simp[this.1,hu,Nat.add_mul,Nat.add_comm]
theorem Xq.mono: {xs:List (Qm ts)}-> {cs:List Value}-> {bls:List (List Nat)}->Xq Q xs cs bls->(∀x us b,x∈xs->b∈bls->Q x us b->Q' x us b)->Xq Q' xs cs bls
 | [],_,_,h,_=>h
 |x::xs,_,_,h,hm=>by
  obtain⟨us,cs',b,bls',rfl,rfl,hu,hq,h'⟩:=h
  exact⟨us,cs',b,bls',rfl,rfl,hu,hm x us b (by simp) (by simp) hq,Xq.mono h' (fun y vs c hy hc=>hm y vs c (by simp[hy]) (by simp[hc]))⟩
theorem Xq.append: {xs ys:List (Qm ts)}-> {cs ds:List Value}-> {bls bms:List (List Nat)}->Xq Q xs cs bls->Xq Q ys ds bms->Xq Q (xs++ys) (cs++ds) (bls++bms)
 | [],_,_,_,_,_,h,h'=>by rw[h.1,h.2];exact h'
 |x::xs,_,_,_,_,_,h,h'=>by
  obtain⟨us,cs',b,bls',rfl,rfl,hu,hq,hh⟩:=h
  exact⟨us,_,b,_,by simp,by simp,hu,hq,Xq.append hh h'⟩
theorem Xq.ones (hQ:∀x us b,Q x us b->∀u∈us,u.oneCell'=true): {xs:List (Qm ts)}-> {cs:List Value}-> {bls:List (List Nat)}->Xq Q xs cs bls->∀u∈cs,u.oneCell'=true
 | [],_,_,h=>by rw[h.1];simp
 |x::xs,_,_,h=>by
  obtain⟨us,cs',b,bls',rfl,rfl,hu,hq,hh⟩:=h
  intro u hm
  rcases QRh.1 hm with hm|hm
  ·exact hQ x us b hq u hm
  ·exact Xq.ones hQ hh u hm
theorem Xq.QHa {w:World}(a:Addr) (hQ:∀x us b,Q x us b->us.length=ts.len):(xs:List (Qm ts))->(bls:List (List Nat))->(k:Nat)->bls.length=xs.length->
 (∀(i:Nat) (x:Qm ts) (b:List Nat),xs[i]? =some x->bls[i]? =some b->∃us,Cells w a ((k+i)*ts.len) us/\Q x us b)->∃cs,Xq Q xs cs bls/\Cells w a (k*ts.len) cs
 | [],[],k,_,_=>⟨[],⟨rfl,rfl⟩,fun j u h=>by simp at h⟩
 | [],_::_,_,h,_=>by simp at h
 |_::_,[],_,h,_=>by simp at h
 |x::xs,b::bls,k,hl,h=>by
  obtain⟨us,h1,h2⟩:=h 0 x b rfl rfl
  obtain⟨cs,h3,h4⟩:=Xq.QHa a hQ xs bls (k+1) (by simpa using hl) (fun i y c hy hc=>by
   have:=h (i+1) y c (by simpa using hy) (by simpa using hc)
   rwa[show k+(i+1)=k+1+i by omega]at this)
  refine⟨us++cs,⟨us,cs,b,bls,rfl,rfl,hQ _ _ _ h2,h2,h3⟩, ?_⟩
  intro j u hj
  rw[List.getElem?_append]at hj
  split at hj
  ·exact h1 j u hj
  ·rename_i hlt
   have:=h4 _ u hj
   rw[hQ _ _ _ h2]at this hlt
   rw[QY25]at this
   rwa[show k*ts.len+ts.len+(j - ts.len)=k*ts.len+j by omega]at this
theorem Xq.QK5 {w:World}(a:Addr):(xs:List (Qm ts))->(cs:List Value)->(bls:List (List Nat))->(k:Nat)->Xq Q xs cs bls->Cells w a (k*ts.len) cs->
 ∀(i:Nat) (x:Qm ts) (b:List Nat),xs[i]? =some x->bls[i]? =some b->∃us,Cells w a ((k+i)*ts.len) us/\Q x us b
 | [],_,_,_,_,_,i,x,b,hx,_=>by simp at hx
 |y::xs,_,_,k,h,hc,i,x,b,hx,hb=>by
  obtain⟨us,cs',c,bls',rfl,rfl,hu,hq,hh⟩:=h
  cases i with
  |zero=>
   simp at hx hb;subst hx;subst hb
   refine⟨us, ?_,hq⟩
   intro j u hj
   exact hc j u (by rw[List.getElem?_append_left (QRq.1 hj).1];exact hj)
  |succ i=>
   rw[show k+(i+1)=k+1+i by omega]
   refine Xq.QK5 a xs cs' bls' (k+1) hh ?_ i x b (by simpa using hx) (by simpa using hb)
   intro j u hj
   have:=hc (us.length+j) u (by rw[QY39 (by omega)];simpa using hj)
   rw[hu]at this
   rw[QY25,show k*ts.len+ts.len+j=k*ts.len+(ts.len+j) by omega]
   exact this
end
theorem Own.cells {w:World}{R:Nat->Prop}{deep:Bool}{ts:Tys}{xs:Val (.sl ts)}{u:Value}{bl:List Nat}(h:Own w R deep (.sl ts) xs u bl):
 (vl xs=[]/\u= .slice none 0 0/\bl=[])\/∃(g off cap:Nat) (cur:Array Value) (e:TypeId) (bls:List (List Nat)) (cs:List Value),u= .slice (some ⟨g,off,none⟩) (vl xs).length cap/\w.heap[g]? =some (.cells cur e (0,0))/\
   (vl xs).length<=cap/\cap<=maxLen/\off+cap*ts.len<=cur.size/\bl=g::bls.flatten/\Xq (QT w R deep ts) (vl xs) cs bls/\Cells w ⟨g,off,none⟩ 0 cs:=by
 rcases h with h|⟨g,off,cap,cur,e,bls,hu,hg,h1,h2,h3,hb,hl,hc⟩
 ·exact .inl h
 ·obtain⟨cs,hcs,hcc⟩:=Xq.QHa (Q:=QT w R deep ts) ⟨g,off,none⟩ (fun x us b h=>(QT.len h).1) (vl xs) bls 0 hl (fun i x b hx hb=>by simpa using hc i x b hx hb)
  exact .inr ⟨g,off,cap,cur,e,bls,cs,hu,hg,h1,h2,h3,hb,hcs,by simpa using hcc⟩
theorem Own.QCT {w:World}{R:Nat->Prop}{deep:Bool}{ts:Tys}{xs:List (Qm ts)}{g off cap:Nat}{cur:Array Value}{e:TypeId}{bls:List (List Nat)}{cs:List Value}
 (hg:w.heap[g]? =some (.cells cur e (0,0))) (h1:xs.length<=cap) (h2:cap<=maxLen) (h3:off+cap*ts.len<=cur.size) (hE:Xq (QT w R deep ts) xs cs bls) (hc:Cells w ⟨g,off,none⟩ 0 cs):
 Own w R deep (.sl ts) xs (.slice (some ⟨g,off,none⟩) xs.length cap) (g::bls.flatten):=
 .inr ⟨g,off,cap,cur,e,bls,rfl,hg,h1,h2,h3,rfl,hE.len.2,fun i x b hx hb=>by
  simpa using Xq.QK5 (w:=w) ⟨g,off,none⟩ xs cs bls 0 hE (by simpa using hc) i x b hx hb⟩
theorem Rep.cells {w:World}{ts:Tys}{xs:Val (.sl ts)}{u:Value}{bl:List Nat}(h:Rep w (.sl ts) xs u bl):
 ∃(ad:Option Addr) (cap:Nat),u= .slice ad (vl xs).length cap/\(vl xs).length<=cap/\(ad=none->cap=0)/\((vl xs=[]/\bl=[])\/∃(a:Addr) (bls:List (List Nat)) (cs:List Value),ad=some a/\bl=a.block::bls.flatten/\
  Xq (XF w ts) (vl xs) cs bls/\Cells w a 0 cs):=by
 obtain⟨ad,cap,hu,⟨hcap,hn⟩,h⟩:=h
 refine⟨ad,cap,hu,hcap,hn, ?_⟩
 rcases h with h|⟨a,bls,ha,hb,hl,hc⟩
 ·exact .inl h
 ·obtain⟨cs,hcs,hcc⟩:=Xq.QHa (Q:=XF w ts) a (fun x us b h=>(XF.len ts x us b h).1) (vl xs) bls 0 hl (fun i x b hx hb=>by simpa using hc i x b hx hb)
  exact .inr ⟨a,bls,cs,ha,hb,hcs,by simpa using hcc⟩
theorem XF.flat {w:World}{R:Nat->Prop}{deep:Bool}:(ts:Tys)->ts.flat=true->(x:Qm ts)->(us:List Value)->(bl:List Nat)->XF w ts x us bl->QT w R deep ts x us []/\bl=[]
 | .nil,_,_,_,_,h=>⟨⟨h.1,rfl⟩,h.2⟩
 | .cons t ts,hf,x,us,bl,h=>by
   obtain⟨u,us',b1,b2,rfl,rfl,h1,h2⟩:=h
   have hf':ts.flat=true/\∀us,t≠ .sl us:=by cases t<;>simp_all[Tys.flat]
   have ih:=XF.flat (R:=R) (deep:=deep) ts hf'.1 _ us' b2 h2
   have ht:b1=[]/\Yr w R deep t (vhd x) u []:=by
    cases t with
    |sl us=>exact(hf'.2 us rfl).elim
    |int k=>
     refine⟨h1.2, ?_⟩
     cases deep with
     |false=>exact⟨rfl,[],⟨h1.1,rfl⟩,by simp⟩
     |true=>exact⟨h1.1,rfl⟩
    |bool=>
     refine⟨h1.2, ?_⟩
     cases deep with
     |false=>exact⟨rfl,[],⟨h1.1,rfl⟩,by simp⟩
     |true=>exact⟨h1.1,rfl⟩
    |str=>
     refine⟨h1.2, ?_⟩
     cases deep with
     |false=>exact⟨rfl,[],⟨h1.1,rfl⟩,by simp⟩
     |true=>exact⟨h1.1,rfl⟩
   refine⟨⟨u,us',[],[],rfl,rfl, ?_,ih.1⟩,by rw[ht.1,ih.2];rfl⟩
   have:=ht.2
   unfold Yr at this
   cases deep<;>simpa using this
structure Grow (X:Nat->Prop) (w w':World):Prop where
 os:w'.os=w.os
 tape:w'.tape=w.tape
 output:w'.output=w.output
 size:w.heap.size<=w'.heap.size
 block:∀k,k<w.heap.size->¬X k->Q5 w w' k
theorem Grow.refl (X:Nat->Prop) (w:World):Grow X w w:=⟨rfl,rfl,rfl,QY2 _,fun _ _ _=>rfl⟩
theorem Grow.trans {X:Nat->Prop}{a b c:World}(h:Grow X a b) (h':Grow X b c):Grow X a c:=
 ⟨h'.os.trans h.os,h'.tape.trans h.tape,h'.output.trans h.output,QY17 h.size h'.size,fun k hk hx=>(h.block k hk hx).trans (h'.block k (Nat.lt_of_lt_of_le hk h.size) hx)⟩
theorem Grow.mono {X Y:Nat->Prop}{a b:World}(h:Grow X a b) (hXY:∀k,k<a.heap.size->X k->Y k):Grow Y a b:=
 ⟨h.os,h.tape,h.output,h.size,fun k hk hy=>h.block k hk (fun hx=>hy (hXY k hk hx))⟩
theorem Grow.alloc (X:Nat->Prop) (w:World) (o:Obj):Grow X w (w.alloc o):=
 ⟨rfl,rfl,rfl,(by show w.heap.size<=(w.heap.push o).size;simp),fun k hk _=>heap_alloc_old w o k hk⟩
theorem Grow.drew (X:Nat->Prop) (w:World):Grow X w w.drew:=⟨rfl,rfl,rfl,QY2 _,fun _ _ _=>rfl⟩
theorem Grow.setRow {X:Nat->Prop}(w:World) (g:Nat) (cs:Array Value) (hg:X g):Grow X w (w.setRow g cs):=
 ⟨rfl,rfl,rfl,by simp,fun k _ hk=>setRow_other w g k cs (fun e=>hk (e▸hg))⟩
def QAL (w:World) (x:Value) (m:Nat) (news:List Value):Prop:=
 (∃(a:Addr) (c:Nat),x= .slice (some a) m c/\∀j v,news[j]? =some v->w.cell? (a.add j)=some v)\/(∃c,x= .slice none 0 c/\m=0/\news=[])
section
variable {P:Program}
theorem run_append_room' (w:World) (t ty e:TypeId) (i:TypeInfo) (ht:P.underlying t=some (.slice e)) (hi:P.info? e=some i)
 (g o sLen sCap:Nat) (cur:Array Value) (e':TypeId) (hg:w.heap[g]? =some (.cells cur e' (0,0)))
 (x:Value) (m:Nat) (news:List Value) (hl:news.length=m*i.size) (hx:QAL w x m news) (h1:∀u∈news,u.oneCell'=true)
 (hroom:sLen+m<=sCap) (hfit:o+sLen*i.size+news.length<=cur.size):
 (Builtin.append_ #[t,t] ty #[.slice (some ⟨g,o,none⟩) sLen sCap,x]).run P w=
   .ok (.slice (some ⟨g,o,none⟩) (sLen+m) sCap) (w.setRow g (cur.toList.take (o+sLen*i.size)++news++cur.toList.drop (o+sLen*i.size+news.length)).toArray):=by
 have hst:=run_storeCells_at P g (o+sLen*i.size) e' news 0 cur w hg (by simpa using hfit) h1
 simp only[QY3]at hst
 have hadd:(⟨g,o,none⟩:Addr).add (sLen*i.size)=⟨g,o+sLen*i.size,none⟩:=add_plain _ _ _
 rcases hx with⟨a,c,rfl,hnews⟩|⟨c,rfl,rfl,rfl⟩
 ·have hf:=run_firstCells_some (P:=P) w i.size m a m c news hl hnews
  simp[Builtin.append_,run_underlying ht,sizeOf,typeInfo,hi,Builtin.lenOf,hroom,hf,hadd,hst]
 ·have hr:sLen<=sCap:=by omega
  simp[Builtin.append_,run_underlying ht,sizeOf,typeInfo,hi,Builtin.lenOf,hr,Builtin.firstCells,hadd,hst]
theorem Own.append {w:World}{t ty e:TypeId}{i:TypeInfo}{z:Value}(ht:P.underlying t=some (.slice e)) (hi:P.info? e=some i) (hz:i.zero=some z) {ts:Tys}
 (hsz:i.size=ts.len) (hzs:z.cells.size=ts.len) (hby:0<i.bytes) {R:Nat->Prop}{d:Bool}{xs ys:List (Qm ts)}{u:Value}{bl:List Nat}(hs:Own w R d (.sl ts) xs u bl) (hnd:bl.Nodup)
 {x:Value}{news:List Value}{bms:List (List Nat)}(hx:QAL w x ys.length news) (hE:Xq (QT w R d ts) ys news bms)
 (hbl:∀b∈bl,b<w.heap.size) (hbm:∀b∈bms.flatten,b<w.heap.size/\b∉bl) (hbn:bms.flatten.Nodup) (hR:∀b,R b->b<w.heap.size/\b∉bl)
 (hfit:(xs.length+ys.length)*i.bytes<=140737488351232):
 ∃u' w' bl',(Builtin.append_ #[t,t] ty #[u,x]).run P w= .ok u' w'/\Own w' R d (.sl ts) (xs++ys) u' bl'/\Grow (·∈bl) w w'/\bl'.Nodup/\
  ∀b∈bl',b<w'.heap.size/\(b∈bl\/b∈bms.flatten\/w.heap.size<=b):=by
 have hneed:xs.length+ys.length<=140737488351232:=QY17 (Nat.le_mul_of_pos_right _ hby) hfit
 have hmax:xs.length+ys.length<=maxLen:=by simp only[maxLen];omega
 have hElen:=hE.len
 have hones:∀v∈news,v.oneCell'=true:=Xq.ones (fun x us b h=>(QT.len h).2) hE
 have hnl:news.length=ys.length*i.size:=by rw[hElen.1,hsz]
 have fresh:∀(old:Nat) (cs:List Value) (bls:List (List Nat)),old<xs.length+ys.length->Xq (QT w R d ts) xs cs bls->(∀b∈bls.flatten,b∈bl)->bls.flatten.Nodup->
  let w':=w.drew.alloc (.cells (cs.toArray++news.toArray++Builtin.zeroCells z.cells (grownCap w (xs.length+ys.length) old e - (xs.length+ys.length))) e)
  ∃bl',Own w' R d (.sl ts) (xs++ys) (.slice (some ⟨w.heap.size,0,none⟩) (xs.length+ys.length) (grownCap w (xs.length+ys.length) old e)) bl'/\Grow (·∈bl) w w'/\bl'.Nodup/\∀b∈bl',b<w'.heap.size/\(b∈bl\/b∈bms.flatten\/w.heap.size<=b):=by
  intro old cs bls ho hC hb hn w'
  have hgr:Grow (·∈bl) w w':=(Grow.drew _ w).trans (Grow.alloc _ w.drew _)
  have hge:=grownCap_ge w (xs.length+ys.length) old e
  have hcm:=grownCap_le_maxLen w (xs.length+ys.length) old e hmax
  have hgrS:∀b,b<w.heap.size->Q5 w w' b:=fun b hb=>heap_alloc_old w.drew _ b hb
  have hEx:Xq (QT w' R d ts) xs cs bls:=hC.mono fun x us b _ hbm' h=>QT.frame ts x us b h (fun c hc=>hgrS c (hbl c (hb c (QY9.2 ⟨b,hbm',hc⟩)))) (fun c hc=>hgrS c (hR c hc).1)
  have hEy:Xq (QT w' R d ts) ys news bms:=hE.mono fun x us b _ hbm' h=>QT.frame ts x us b h (fun c hc=>hgrS c (hbm c (QY9.2 ⟨b,hbm',hc⟩)).1) (fun c hc=>hgrS c (hR c hc).1)
  have hcl:=hC.len
  have hrow:w'.heap[w.heap.size]? =some (.cells (cs.toArray++news.toArray++Builtin.zeroCells z.cells (grownCap w (xs.length+ys.length) old e - (xs.length+ys.length))) e (0,0)):=heap_alloc_new w.drew _
  refine⟨w.heap.size::(bls++bms).flatten, ?_,hgr, ?_, ?_⟩
  ·have:=Own.QCT (w:=w') (R:=R) (deep:=d) (xs:=xs++ys) (g:=w.heap.size) (off:=0) (cap:=grownCap w (xs.length+ys.length) old e) hrow (by simpa using hge) hcm ?_ (hEx.append hEy) ?_
   ·simpa using this
   ·simp only[Array.size_append,List.size_toArray,size_zeroCells,hzs,hcl.1,hElen.1,<-Nat.add_mul]
    rw[QRo]
    exact QY16 _ (by omega)
   ·intro j v hj
    rw[VG hrow]
    rw[List.getElem?_append]at hj
    simp only[QRo]
    rw[Array.getElem?_append_left,List.append_toArray,List.getElem?_toArray,List.getElem?_append]
    ·exact hj
    ·split at hj
     ·have:=(QRq.1 hj).1;simp;omega
     ·have:=(QRq.1 hj).1;simp;omega
  ·rw[QY21,QY4,QRi]
   refine⟨?_,hn,hbn, ?_⟩
   ·intro hm
    rcases QRh.1 hm with hm|hm
    ·exact Nat.lt_irrefl _ (hbl _ (hb _ hm))
    ·exact Nat.lt_irrefl _ (hbm _ hm).1
   ·rintro a ha b hb' rfl
    exact(hbm a hb').2 (hb a ha)
  ·intro b hm
   have hsize:w'.heap.size=w.heap.size+1:=Array.size_push ..
   rcases QRk.1 hm with rfl|hm
   ·exact⟨by omega, .inr (.inr (QY2 _))⟩
   ·rw[QY21]at hm
    rcases QRh.1 hm with hm|hm
    ·exact⟨by have:=hbl _ (hb _ hm);omega, .inl (hb _ hm)⟩
    ·exact⟨by have:=(hbm _ hm).1;omega, .inr (.inl hm)⟩
 rcases hs.cells with⟨h1,rfl,rfl⟩|⟨g,off,cap,cur,e',bls,cs,rfl,hg,h1,h2,h3,rfl,hC,hcs⟩
 ·have h1:xs=[]:=h1
  subst h1
  by_cases hm:ys.length=0
  ·have hy:=QRx hm
   subst hy
   refine⟨.slice none 0 0,w,[], ?_, .inl ⟨rfl,rfl,rfl⟩,Grow.refl _ w,QY5,by simp⟩
   rcases hx with⟨a,c,rfl,hnews⟩|⟨c,rfl,_,rfl⟩
   ·simp[Builtin.append_,run_underlying ht,sizeOf,typeInfo,hi,Builtin.lenOf,Builtin.firstCells,loadCells,loadCellsFrom]
   ·simp[Builtin.append_,run_underlying ht,sizeOf,typeInfo,hi,Builtin.lenOf,Builtin.firstCells]
  ·rcases hx with⟨a,c,rfl,hnews⟩|⟨c,rfl,h0,_⟩
   ·simp only[QY6,QRo]at hfit hneed
    have hr:=run_append_nil (P:=P) w t ty e i z ht hi hz a ys.length c news hnl hnews (by omega) (by omega) (by omega)
    obtain⟨bl',k1,k2,k3,k4⟩:=fresh 0 [] [] (by simp;omega) ⟨rfl,rfl⟩ (by simp) (by simp)
    refine⟨_,_,bl',hr, ?_, ?_,k3, ?_⟩
    ·simpa using k1
    ·simpa using k2
    ·simpa using k4
   ·omega
 ·by_cases hroom:xs.length+ys.length<=cap
  ·have hcl:cs.length=xs.length*ts.len/\bls.length=xs.length:=hC.len
   have h1:xs.length<=cap:=h1
   have hle:off+xs.length*i.size+news.length<=cur.size:=by
    rw[hnl,hsz,QY19,<-Nat.add_mul]
    exact QY17 (Nat.add_le_add_left (QY16 _ hroom) _) h3
   have hr:=run_append_room' (P:=P) w t ty e i ht hi g off xs.length cap cur e' hg x ys.length news hnl hx hones hroom hle
   have hgm:g∈g::bls.flatten:=by simp
   have hgn:g∉bls.flatten:=(QY4.1 hnd).1
   refine⟨_,_,g::(bls++bms).flatten,hr, ?_,Grow.setRow w g _ hgm, ?_, ?_⟩
   ·have hrow:=setRow_heap w g cur (cur.toList.take (off+xs.length*i.size)++news++cur.toList.drop (off+xs.length*i.size+news.length)).toArray e' _ hg
    have hfr:∀b,b≠g->Q5 w (w.setRow g (cur.toList.take (off+xs.length*i.size)++news++cur.toList.drop (off+xs.length*i.size+news.length)).toArray) b:=fun b hb=>setRow_other w g b _ hb
    have hRg:∀b,R b->b≠g:=fun b hb e=>(hR b hb).2 (e▸hgm)
    have hEx:=hC.mono fun x us b _ hbm' h=>QT.frame ts x us b h (fun c hc=>hfr c (fun e=>hgn (e▸QY9.2 ⟨b,hbm',hc⟩))) (fun c hc=>hfr c (hRg c hc))
    have hEy:=hE.mono fun x us b _ hbm' h=>QT.frame ts x us b h (fun c hc=>hfr c (fun e=>(hbm c (QY9.2 ⟨b,hbm',hc⟩)).2 (e▸hgm))) (fun c hc=>hfr c (hRg c hc))
    have:=Own.QCT (R:=R) (deep:=d) (xs:=xs++ys) (g:=g) (off:=off) (cap:=cap) hrow (by simpa using hroom) h2 ?_ (hEx.append hEy) ?_
    ·simpa using this
    ·rw[List.size_toArray,QE7 _ _ _ (by simpa using hle)];simpa using h3
    ·intro j v hj
     rw[VG hrow,List.getElem?_toArray,Qyt _ _ _ (by simpa using hle)]
     rw[List.getElem?_append]at hj
     rw[hcl.1]at hj
     rw[hsz]
     split at hj
     ·rename_i hlt
      rw[if_pos (by omega)]
      have:=hcs j v hj
      rw[VG hg]at this
      simpa using this
     ·rename_i hlt
      have hjl:=(QRq.1 hj).1
      rw[if_neg (by omega),if_pos (by omega),show off+(0+j) - (off+xs.length*ts.len)=j - xs.length*ts.len by omega]
      exact hj
   ·rw[QY21,QY4,QRi]
    refine⟨?_,(QY4.1 hnd).2,hbn, ?_⟩
    ·intro hm
     rcases QRh.1 hm with hm|hm
     ·exact hgn hm
     ·exact(hbm _ hm).2 hgm
    ·rintro a ha b hb' rfl
     exact(hbm a hb').2 (by simp[ha])
   ·intro b hm
    rw[setRow_size]
    rcases QRk.1 hm with rfl|hm
    ·exact⟨hbl _ hgm, .inl hgm⟩
    ·rw[QY21]at hm
     rcases QRh.1 hm with hm|hm
     ·have:b∈g::bls.flatten:=by simp[hm]
      exact⟨hbl _ this, .inl this⟩
     ·exact⟨(hbm _ hm).1, .inr (.inl hm)⟩
  ·rcases hx with⟨a,c,rfl,hnews⟩|⟨c,rfl,h0,_⟩
   ·have hcl:cs.length=xs.length*ts.len/\bls.length=xs.length:=hC.len
    have h1:xs.length<=cap:=h1
    have hr:=run_append_grow (P:=P) w t ty e i z ht hi hz ⟨g,off,none⟩ xs.length cap cs (by rw[hcl.1,hsz]) (fun j v hj=>by have:=hcs j v hj;rwa[QRo]at this) a ys.length c news hnl hnews (by omega) (by omega) (growslice_fits (by omega) (by omega))
    obtain⟨bl',k1,k2,k3,k4⟩:=fresh cap cs bls (by omega) hC (fun b hb=>by simp[hb]) (QY4.1 hnd).2
    exact⟨_,_,bl',hr,k1,k2,k3,k4⟩
   ·rw[h0]at hroom;exact(hroom h1).elim
end
end Go.Eng
namespace Go.Eng
open Go
set_option linter.unusedVariables false
inductive Key where
 |con (r k:Nat)|box (r:Nat)|hand (j:Nat)
 deriving DecidableEq
inductive Ow where
 |free|ro|key (κ:Key)
 deriving DecidableEq
structure Item where
 x:TV
 deep:Bool
 u:Value
 bl:List Nat
structure Gh where
 H:Nat->Nat->Nat->Option (Ty×Value)
 HN:Nat->Nat->Nat->Nat->Int->Nat->Option (Ty×Value)
 GB:Nat->Nat->Option Nat
 ow:Nat->Ow
 it:Key->Option Item
structure Fix where
 w0:World
 X:Nat->Prop
 R:Nat->Prop
 lock:Nat->Nat->Prop
 T:Nat->Nat->Option Value
 pb:Nat->Nat->Nat->Prop
def vI (t:Ty) (u:Value) (l h:Int):Option (Ty×Value):=match t,u with
 | .sl ts, .slice ad n cap=>if 0<=l/\l<=h/\h<=(n:Int)then some (.sl ts, .slice (Qee ad cap l.toNat ts.len) (h.toNat - l.toNat) (cap - l.toNat))else none
 |_,_=>none
def Gh.base (G:Gh) (p:Pl):Option (Ty×Value):=match p.nest with
 |none=>G.H p.r p.k p.id
 |some (i,m)=>G.HN p.r p.k p.id p.nv i m
def Gh.PH (G:Gh) (p:Pl):Option (Ty×Value):=match p.rng with
 |none=>G.base p
 |some (l,h)=>(G.base p).bind fun x=>vI x.1 x.2 l h
def QX (G:Gh) (bl:List Nat):Prop:=∀b∈bl,G.ow b= .ro
def VCR (G:Gh) (w:World):VC->Value->Prop
 | .sc x,u=>∃bl,Rep w x.t x.v u bl/\QX G bl
 | .ro x,u=>∃bl,Rep w x.t x.v u bl/\QX G bl
 | .nilS,u=>u= .slice none 0 0
 | .vw p,u=>∃t,G.PH p=some (t,u)/\u.oneCell'=true
 | .bad,u=>u.oneCell'=true
def VCs (G:Gh) (w:World):List VC->List Value->Prop
 | [],us=>us=[]
 |v::vs,us=>∃u us',us=u::us'/\VCR G w v u/\VCs G w vs us'
def Qfi (G:Gh) (w:World) (agg:Bool) (vs:List VC) (v:Value):Prop:=
 if agg then∃us,v= .agg us/\VCs G w vs us.toList else v.oneCell'=true/\VCs G w vs [v]
def Qiv (G:Gh) (w:World):List (Bool×List VC)->List Value->Prop
 | [],us=>us=[]
 |(a,vs)::l,us=>∃u us',us=u::us'/\Qfi G w a vs u/\Qiv G w l us'
def JH (b off:Nat):Value:= .pointer (some ⟨b,off,none⟩)
def ve (G:Gh):List (Nat×Nat×Nat)->List Value->Prop
 | [],us=>us=[]
 |(r,o,g)::l,us=>∃b us',G.GB r g=some b/\us=JH b o::us'/\ve G l us'
def QK (G:Gh) (w:World):Cell->Value->Prop
 | .dead,_=>True
 | .und,v=>v=undef
 | .fn g caps,v=>∃us:Array Value,v= .func (.func g) #[] us/\ve G caps us.toList
 | .val a vs,v=>Qfi G w a vs v
 | .tup cs,v=>∃us:Array Value,v= .tuple us/\Qiv G w cs us.toList
 | .ptr r off g,v=>∃b,G.GB r g=some b/\v=JH b off
 | .eptr p i off,v=>∃ts a n c,G.PH p=some (.sl ts, .slice (some a) n c)/\0<=i/\i<(n:Int)/\v= .pointer (some (a.add (i.toNat*ts.len+off)))
 | .rptr x i off,v=>∃(ts:Tys) (xs:Val (.sl ts)) (a:Addr) (n c:Nat) (bl:List Nat),x=⟨.sl ts,xs⟩/\Rep w (.sl ts) xs (.slice (some a) n c) bl/\QX G bl/\0<=i/\i<(n:Int)/\v= .pointer (some (a.add (i.toNat*ts.len+off)))
def ZW (w:World) (it:Item) (i:Int) (m:Nat) (t:Ty) (u:Value):Prop:=
 ∃(ts:Tys) (g off n c:Nat),it.x.t= .sl ts/\it.u= .slice (some ⟨g,off,none⟩) n c/\0<=i/\i<(n:Int)/\ts.get? m=some t/\QN t=true/\w.cell? ⟨g,off+(i.toNat*ts.len+m),none⟩=some u
structure ItemR (G:Gh) (w:World) (κ:Key) (it:Item):Prop where
 own:Own w (fun b=>G.ow b= .ro) it.deep it.x.t it.x.v it.u it.bl
 sl:QN it.x.t=true
 nodup:it.bl.Nodup
 key:∀b∈it.bl,G.ow b= .key κ/\b<w.heap.size
 con:∃r k,κ= .con r k
structure ConR (F:Fix) (G:Gh) (w:World) (r k:Nat) (c:Con):Prop where
 freshH:∀j,c.id<j->G.H r k j=none
 freshN:∀j v i m,c.id<j\/(c.id=j/\c.nv<v)->G.HN r k j v i m=none
 own:∀x deep tag,c.st= .own x deep tag->∃u bl,G.it (.con r k)=some ⟨x,deep,u,bl⟩/\G.H r k c.id=some (x.t,u)/\
  (∀i m t u',G.HN r k c.id c.nv i m=some (t,u')->ZW w ⟨x,deep,u,bl⟩ i m t u')/\∀p j,tag=some (p,j)->F.T p j=some u
 vw:∀p,c.st= .vw p->∃t u,G.H r k c.id=some (t,u)/\G.PH p=some (t,u)
def Xe (G:Gh) (w:World) (r k:Nat) (c:Con) (u:Value):Prop:=match c.st with
 | .sc x=>VCR G w (.sc x) u
 | .ro x=>VCR G w (.ro x) u
 | .fix x=>VCR G w (.ro x) u
 | .own x _ _=>G.H r k c.id=some (x.t,u)
 | .vw p=>∃t,G.PH p=some (t,u)
 | .part .. =>True
 | .dead=>True
structure BoxR (F:Fix) (pd:Nat->Nat->Prop) (G:Gh) (s:St) (w:World) (r:Nat):Prop where
 fresh:∀j,(s.gB r).1<j->G.GB r j=none
 live:(s.gB r).2≠0->∃b cur e,G.GB r (s.gB r).1=some b/\G.ow b= .key (.box r)/\w.heap[b]? =some (.cells cur e (0,0))/\cur.size=(s.gB r).2/\
  ∀k,k<cur.size->∃u,cur[k]? =some u/\u.oneCell'=true/\(¬pd r k->Xe G w r k (s.gC r k) u)/\(F.lock b k->∃x,(s.gC r k).st= .fix x)
structure RelP (F:Fix) (pd:Nat->Nat->Prop) (G:Gh) (s:St) (a:Act) (w:World):Prop where
 size:a.tmps.size=s.n
 defers:a.defers=[]
 tm:∀i,QK G w (s.gT i) (a.tmps.getD i undef)
 con:∀r k,ConR F G w r k (s.gC r k)
 box:∀r,BoxR F pd G s w r
 it:∀κ x,G.it κ=some x->ItemR G w κ x
 lt:∀b,G.ow b≠ .free->b<w.heap.size
 own:∀b κ,G.ow b= .key κ->b<F.w0.heap.size->F.X b
 ro:∀b,G.ow b= .ro->b<F.w0.heap.size->F.R b\/F.X b
 roR:∀b,F.R b->G.ow b= .ro
 grow:Grow F.X F.w0 w
 lock:∀b k,F.lock b k->(∀r n,F.pb r b n->¬pd r k)->F.w0.cell? ⟨b,k,none⟩=w.cell? ⟨b,k,none⟩
 lockow:∀b k,F.lock b k->∃r n,F.pb r b n/\k<n
 pbox:∀r b n,F.pb r b n->s.gB r=(0,n)/\G.GB r 0=some b/\G.ow b= .key (.box r)
abbrev Rel (F:Fix) (G:Gh) (s:St) (a:Act) (w:World):Prop:=RelP F (fun _ _=>False) G s a w
structure Gh.le (G G':Gh):Prop where
 H:∀r k j x,G.H r k j=some x->G'.H r k j=some x
 HN:∀r k j v i m x,G.HN r k j v i m=some x->G'.HN r k j v i m=some x
 GB:∀r j b,G.GB r j=some b->G'.GB r j=some b
 ro:∀b,G.ow b= .ro->G'.ow b= .ro
theorem Gh.le.refl (G:Gh):G.le G:=⟨fun _ _ _ _ h=>h,fun _ _ _ _ _ _ _ h=>h,fun _ _ _ h=>h,fun _ h=>h⟩
theorem Gh.le.trans {A B C:Gh}(h:A.le B) (h':B.le C):A.le C:=
 ⟨fun r k j x e=>h'.H r k j x (h.H r k j x e),fun r k j v i m x e=>h'.HN r k j v i m x (h.HN r k j v i m x e),fun r j b e=>h'.GB r j b (h.GB r j b e),fun b e=>h'.ro b (h.ro b e)⟩
theorem Gh.le.base {G G':Gh}(h:G.le G') {p:Pl}{x:Ty×Value}(e:G.base p=some x):G'.base p=some x:=by
 unfold Gh.base at e⊢
 cases hn:p.nest with
 |none=>rw[hn]at e;exact h.H _ _ _ _ e
 |some q=>rw[hn]at e;exact h.HN _ _ _ _ _ _ _ e
theorem Gh.le.PH {G G':Gh}(h:G.le G') {p:Pl}{x:Ty×Value}(e:G.PH p=some x):G'.PH p=some x:=by
 unfold Gh.PH at e⊢
 cases hn:p.rng with
 |none=>rw[hn]at e;exact h.base e
 |some q=>
  rw[hn]at e
  simp only[Option.bind_eq_some_iff]at e⊢
  obtain⟨y,e1,e2⟩:=e
  exact⟨y,h.base e1,e2⟩
def jB (G:Gh) (w w':World):Prop:=∀b,G.ow b= .ro->Q5 w w' b
theorem VCR.mono {G G':Gh}{w w':World}(h:G.le G') (hw:jB G w w'):(c:VC)->(u:Value)->VCR G w c u->VCR G' w' c u
 | .sc x,u,⟨bl,h1,h2⟩=>⟨bl,Rep.frame _ _ _ _ h1 (fun b hb=>hw b (h2 b hb)),fun b hb=>h.ro b (h2 b hb)⟩
 | .ro x,u,⟨bl,h1,h2⟩=>⟨bl,Rep.frame _ _ _ _ h1 (fun b hb=>hw b (h2 b hb)),fun b hb=>h.ro b (h2 b hb)⟩
 | .nilS,_,e=>e
 | .vw p,_,⟨t,e,e1⟩=>⟨t,h.PH e,e1⟩
 | .bad,_,e=>e
theorem VCs.mono {G G':Gh}{w w':World}(h:G.le G') (hw:jB G w w'):(cs:List VC)->(us:List Value)->VCs G w cs us->VCs G' w' cs us
 | [],_,e=>e
 |c::cs,us,⟨u,us',e,h1,h2⟩=>⟨u,us',e,VCR.mono h hw c u h1,VCs.mono h hw cs us' h2⟩
theorem Qfi.mono {G G':Gh}{w w':World}(h:G.le G') (hw:jB G w w') {a:Bool}{vs:List VC}{v:Value}(hv:Qfi G w a vs v):Qfi G' w' a vs v:=by
 cases a with
 |true=>obtain⟨us,e,hh⟩:=hv;exact⟨us,e,VCs.mono h hw _ _ hh⟩
 |false=>obtain⟨e,hh⟩:=hv;exact⟨e,VCs.mono h hw _ _ hh⟩
theorem Qiv.mono {G G':Gh}{w w':World}(h:G.le G') (hw:jB G w w'):(cs:List (Bool×List VC))->(us:List Value)->Qiv G w cs us->Qiv G' w' cs us
 | [],_,e=>e
 |(_,_)::cs,_,⟨u,us',e,h1,h2⟩=>⟨u,us',e,h1.mono h hw,Qiv.mono h hw cs us' h2⟩
theorem ve.mono {G G':Gh}(h:G.le G'):(cs:List (Nat×Nat×Nat))->(us:List Value)->ve G cs us->ve G' cs us
 | [],_,e=>e
 |(_,_,_)::cs,_,⟨b,us',e,e',h2⟩=>⟨b,us',h.GB _ _ _ e,e',ve.mono h cs us' h2⟩
theorem QK.mono {G G':Gh}{w w':World}(h:G.le G') (hw:jB G w w') {c:Cell}{v:Value}(hc:QK G w c v):QK G' w' c v:=by
 cases c with
 |dead=>trivial
 |und=>exact hc
 |fn g caps=>obtain⟨us,e,hh⟩:=hc;exact⟨us,e,ve.mono h _ _ hh⟩
 |val a vs=>exact Qfi.mono h hw hc
 |tup cs=>obtain⟨us,e,hh⟩:=hc;exact⟨us,e,Qiv.mono h hw _ _ hh⟩
 |ptr r off g=>obtain⟨b,e,hh⟩:=hc;exact⟨b,h.GB _ _ _ e,hh⟩
 |eptr p i off=>obtain⟨ts,a,n,c,e,hh⟩:=hc;exact⟨ts,a,n,c,h.PH e,hh⟩
 |rptr x i off=>obtain⟨ts,xs,a,n,c,bl,e,h1,h2,hh⟩:=hc;exact⟨ts,xs,a,n,c,bl,e,Rep.frame _ _ _ _ h1 (fun b hb=>hw b (h2 b hb)),fun b hb=>h.ro b (h2 b hb),hh⟩
section
variable {γ α β:Type}
def Sat (m:M γ α) (s:St) (Φ:α->St->Prop):Prop:=∀(k:α->RP γ) (out:γ×St),(m k).run s=some out->∃x s',Φ x s'/\(k x).run s'=some out
theorem Sat.pure {a:α}{s:St}{Φ:α->St->Prop}(h:Φ a s):Sat (Pure.pure a:M γ α) s Φ:=fun k out e=>⟨a,s,h,e⟩
theorem Sat.bind {m:M γ α}{f:α->M γ β}{s:St}{Φ:α->St->Prop}{Ψ:β->St->Prop}(h:Sat m s Φ) (h':∀x s',Φ x s'->Sat (f x) s' Ψ):Sat (m>>=f) s Ψ:=by
 intro k out e
 obtain⟨x,s',hx,e'⟩:=h (fun a=>f a k) out e
 exact h' x s' hx k out e'
theorem Sat.mono {m:M γ α}{s:St}{Φ Ψ:α->St->Prop}(h:Sat m s Φ) (h':∀x s',Φ x s'->Ψ x s'):Sat m s Ψ:=by
 intro k out e
 obtain⟨x,s',hx,e'⟩:=h k out e
 exact⟨x,s',h' x s' hx,e'⟩
theorem Sat.fail {s:St}{Φ:α->St->Prop}:Sat (Qq:M γ α) s Φ:=by intro k out e;cases e
theorem Sat.mT {i:Nat}{s:St}{Φ:Cell->St->Prop}(h:Φ (s.gT i) s):Sat (Eng.mT i:M γ Cell) s Φ:=fun k out e=>⟨_,s,h,e⟩
theorem Sat.mC {r j:Nat}{s:St}{Φ:Con->St->Prop}(h:Φ (s.gC r j) s):Sat (Eng.mC r j:M γ Con) s Φ:=fun k out e=>⟨_,s,h,e⟩
theorem Sat.mI {r j:Nat}{s:St}{Φ:Con->St->Prop}(h:Φ (s.gI r j) s):Sat (Eng.mI r j:M γ Con) s Φ:=fun k out e=>⟨_,s,h,e⟩
theorem Sat.mB {r:Nat}{s:St}{Φ:Nat×Nat->St->Prop}(h:Φ (s.gB r) s):Sat (Eng.mB r:M γ (Nat×Nat)) s Φ:=fun k out e=>⟨_,s,h,e⟩
theorem Sat.wT {i:Nat}{c:Cell}{s:St}{Φ:Unit->St->Prop}(h:i<s.n->Φ () (s.sT i c)):Sat (Eng.wT i c:M γ Unit) s Φ:=by
 intro k out e
 simp only[Eng.wT,RP.run]at e
 cases hb:Nat.blt i s.n with
 |false=>rw[hb]at e;cases e
 |true=>rw[hb]at e;exact⟨_,_,h (by simpa[Nat.blt_eq]using hb),e⟩
theorem Sat.wC {r j:Nat}{c:Con}{s:St}{Φ:Unit->St->Prop}(h:Φ () (s.sC r j c)):Sat (Eng.wC r j c:M γ Unit) s Φ:=fun k out e=>⟨_,_,h,e⟩
theorem Sat.wV {r j:Nat}{x:TV}{s:St}{Φ:Unit->St->Prop}(h:Φ () (s.sV r j x)):Sat (Eng.wV r j x:M γ Unit) s Φ:=fun k out e=>⟨_,_,h,e⟩
theorem Sat.wB {r:Nat}{g:Nat×Nat}{s:St}{Φ:Unit->St->Prop}(h:Φ () (s.sB r g)):Sat (Eng.wB r g:M γ Unit) s Φ:=fun k out e=>⟨_,_,h,e⟩
theorem Sat.chk {b:Bool}{s:St}{Φ:Unit->St->Prop}(h:b=true->Φ () s):Sat (Eng.chk b:M γ Unit) s Φ:=by
 intro k out e
 cases b with
 |false=>cases e
 |true=>exact⟨_,_,h rfl,e⟩
theorem Sat.ofO {o:Option α}{s:St}{Φ:α->St->Prop}(h:∀a,o=some a->Φ a s):Sat (Eng.ofO o:M γ α) s Φ:=by
 intro k out e
 cases o with
 |none=>cases e
 |some a=>exact⟨_,_,h a rfl,e⟩
theorem Sat.mcall {ts:Tys}{o:Option (Qm ts)}{s:St}{Φ:Qm ts->St->Prop}(h:∀a,o=some a->Φ a s):Sat (Eng.mcall ts o:M γ (Qm ts)) s Φ:=by
 intro k out e
 cases o with
 |none=>cases e
 |some a=>exact⟨_,_,h a rfl,e⟩
theorem Sat.unit {m:M Unit Unit}{s s':St}{Φ:Unit->St->Prop}(h:Sat m s Φ) (e:(KG m).run s=some ((),s')):Φ () s':=by
 obtain⟨x,s'',hx,e'⟩:=h (fun _=> .ret ()) _ e
 cases e';exact hx
theorem jS {F:Fix}{G:Gh}{w:World}:(n:Nat)->(p:Pl)->(s:St)->(∀r k,ConR F G w r k (s.gC r k))->(tu:Ty×Value)->G.PH p=some tu->
 Sat (final n p:M γ (Pl×Con)) s fun x s'=>s'=s/\x.2=s.gI x.1.r x.1.k/\x.2.id=x.1.id/\(x.1.nest.isSome=true->x.2.nv=x.1.nv)/\(∀q,x.2.sh≠ .vw q)/\G.PH x.1=some tu
 |0,p,s,_,_,_=>Sat.fail
 |n+1,p,s,hc,tu,hp=>by
  unfold final
  refine Sat.bind (Sat.mI (Φ:=fun c s'=>s'=s/\c=s.gI p.r p.k) ⟨rfl,rfl⟩) ?_
  intro c s' hcs
  rw[hcs.1,hcs.2]
  by_cases hid:((s.gI p.r p.k).id==p.id)=true
  ·rw[if_pos hid]
   have hid':(s.gC p.r p.k).id=p.id:=(by simpa using hid:(s.gI p.r p.k).id=p.id)
   have hsh:(s.gI p.r p.k).sh=(s.gC p.r p.k).sh:=rfl
   cases hs:(s.gI p.r p.k).sh with
   |vw q=>
    rw[hsh]at hs
    obtain⟨t,u,h1,h2⟩:=(hc p.r p.k).vw q (by unfold Con.st;rw[hs])
    cases hn:p.nest with
    |some nm=>exact Sat.fail
    |none=>
     have hb:G.base p=some (t,u):=by unfold Gh.base;rw[hn];simp only;rw[<-hid'];exact h1
     cases hr:p.rng with
     |none=>
      refine jS n q s hc tu ?_
      rw[h2,<-hp]
      unfold Gh.PH;rw[hr];exact hb.symm
     |some r=>
      show Sat (match q.rng with|none=>final n {q with rng:=some r}|some _=>Qq) s _
      cases hq:q.rng with
      |some _=>exact Sat.fail
      |none=>
       refine jS n {q with rng:=some r} s hc tu ?_
       rw[<-hp]
       unfold Gh.PH at h2⊢
       rw[hq]at h2
       rw[hr]
       simp only at h2⊢
       rw[hb]
       have:G.base {q with rng:=some r}=some (t,u):=h2
       rw[this]
   |dead|sc|ro|fix|own _ _|part _ _=>
    have hne:∀q,(s.gI p.r p.k).sh≠ .vw q:=by intro q e;rw[hs]at e;cases e
    cases hn:p.nest with
    |none=>exact Sat.pure ⟨rfl,rfl,hid',by simp[hn],hne,hp⟩
    |some nm=>
     show Sat (if((s.gI p.r p.k).nv==p.nv)=true then _ else _) s _
     split
     ·rename_i hv;exact Sat.pure ⟨rfl,rfl,hid',fun _=>by simpa using hv,hne,hp⟩
     ·exact Sat.fail
  ·rw[if_neg hid];exact Sat.fail
end
theorem ConR.mono {F:Fix}{G G':Gh}{w:World}{r k:Nat}{c:Con}(h:ConR F G w r k c) (le:G.le G') (hit:G'.it (.con r k)=G.it (.con r k))
 (hH:∀j,G'.H r k j=G.H r k j) (hN:∀j v i m,G'.HN r k j v i m=G.HN r k j v i m):ConR F G' w r k c where
 freshH j hj:=by rw[hH];exact h.freshH j hj
 freshN j v i m hj:=by rw[hN];exact h.freshN j v i m hj
 own x deep tag hc:=by
  obtain⟨u,bl,h1,h2,h3,h4⟩:=h.own x deep tag hc
  exact⟨u,bl,by rw[hit];exact h1,by rw[hH];exact h2,fun i m t u' hn=>h3 i m t u' (by rw[<-hN];exact hn),h4⟩
 vw p hc:=by
  obtain⟨t,u,h1,h2⟩:=h.vw p hc
  exact⟨t,u,by rw[hH];exact h1,le.PH h2⟩
theorem Xe.mono {G G':Gh}{w:World}{r k:Nat}{c:Con}{u:Value}(h:Xe G w r k c u) (le:G.le G'):Xe G' w r k c u:=by
 have hw:jB G w w:=fun b _=>rfl
 unfold Xe at h⊢
 cases hc:c.st with
 |sc x=>rw[hc]at h;exact VCR.mono le hw _ _ h
 |ro x=>rw[hc]at h;exact VCR.mono le hw _ _ h
 |fix x=>rw[hc]at h;exact VCR.mono le hw _ _ h
 |own x d t=>rw[hc]at h;exact le.H _ _ _ _ h
 |vw p=>rw[hc]at h;obtain⟨t,e⟩:=h;exact⟨t,le.PH e⟩
 |part x i m=>trivial
 |dead=>trivial
theorem RelP.QMd {F:Fix}{pd:Nat->Nat->Prop}{G G':Gh}{s s':St}{a:Act}{w:World}(h:RelP F pd G s a w) (le:G.le G') (hn:s'.n=s.n) (ht:∀i,s'.gT i=s.gT i) (hb:∀r,s'.gB r=s.gB r)
 (ch:Nat->Nat->Prop)
 (hsame:∀r k,¬ch r k->s'.gC r k=s.gC r k/\G'.it (.con r k)=G.it (.con r k)/\(∀j,G'.H r k j=G.H r k j)/\∀j v i m,G'.HN r k j v i m=G.HN r k j v i m)
 (hcon:∀r k,ch r k->ConR F G' w r k (s'.gC r k))
 (hbox:∀r k u,ch r k->k<(s.gB r).2->¬pd r k->(∀b,G.GB r (s.gB r).1=some b->w.cell? ⟨b,k,none⟩=some u)->Xe G w r k (s.gC r k) u->Xe G' w r k (s'.gC r k) u)
 (hfix:∀r k,ch r k->k<(s.gB r).2->(∃x,(s.gC r k).st= .fix x)->∃x,(s'.gC r k).st= .fix x)
 (hGB:∀r j,G'.GB r j=G.GB r j)
 (hit:∀κ x,G'.it κ=some x->ItemR G' w κ x)
 (how:∀b,G'.ow b≠ .free->b<w.heap.size) (hown:∀b κ,G'.ow b= .key κ->b<F.w0.heap.size->F.X b) (hro:∀b,G'.ow b= .ro->b<F.w0.heap.size->F.R b\/F.X b)
 (hboxow:∀b r,G.ow b= .key (.box r)->G'.ow b= .key (.box r)):RelP F pd G' s' a w where
 size:=by rw[hn];exact h.size
 defers:=h.defers
 tm i:=by rw[ht];exact QK.mono le (fun b _=>rfl) (h.tm i)
 con r k:=by
  by_cases hc:ch r k
  ·exact hcon r k hc
  ·obtain⟨e1,e2,e3,e4⟩:=hsame r k hc
   rw[e1];exact(h.con r k).mono le e2 e3 e4
 box r:=by
  refine⟨fun j hj=>by rw[hGB];rw[hb]at hj;exact(h.box r).fresh j hj,fun hs=> ?_⟩
  rw[hb]at hs⊢
  obtain⟨b,cur,e,h1,h2,h3,h4,h5⟩:=(h.box r).live hs
  refine⟨b,cur,e,by rw[hGB];exact h1,hboxow b r h2,h3,h4,fun k hk=> ?_⟩
  obtain⟨u,k1,k2,k3,k4⟩:=h5 k hk
  by_cases hc:ch r k
  ·exact⟨u,k1,k2,fun hp=>hbox r k u hc (by omega) hp (fun b' hb'=>by rw[h1]at hb';cases hb';simp[World.cell?,h3,k1]) (k3 hp),fun hl=>hfix r k hc (by omega) (k4 hl)⟩
  ·obtain⟨e1,_⟩:=hsame r k hc
   rw[e1];exact⟨u,k1,k2,fun hp=>(k3 hp).mono le,k4⟩
 it:=hit
 lt:=how
 own:=hown
 ro:=hro
 roR b hb':=le.ro b (h.roR b hb')
 grow:=h.grow
 lock:=h.lock
 lockow:=h.lockow
 pbox r b n hp:=let⟨e1,e2,e3⟩:=h.pbox r b n hp;⟨(hb r).trans e1,(hGB r 0).trans e2,hboxow b r e3⟩
theorem RelP.upd {F:Fix}{pd:Nat->Nat->Prop}{G G':Gh}{s s':St}{a:Act}{w:World}(h:RelP F pd G s a w) (le:G.le G') (hn:s'.n=s.n) (ht:∀i,s'.gT i=s.gT i) (hb:∀r,s'.gB r=s.gB r)
 (ch:Nat->Nat->Prop)
 (hsame:∀r k,¬ch r k->s'.gC r k=s.gC r k/\G'.it (.con r k)=G.it (.con r k)/\(∀j,G'.H r k j=G.H r k j)/\∀j v i m,G'.HN r k j v i m=G.HN r k j v i m)
 (hcon:∀r k,ch r k->ConR F G' w r k (s'.gC r k))
 (hbox:∀r k u,ch r k->k<(s.gB r).2->¬pd r k->Xe G w r k (s.gC r k) u->Xe G' w r k (s'.gC r k) u)
 (hfix:∀r k,ch r k->k<(s.gB r).2->(∃x,(s.gC r k).st= .fix x)->∃x,(s'.gC r k).st= .fix x)
 (hGB:∀r j,G'.GB r j=G.GB r j)
 (hit:∀κ x,G'.it κ=some x->ItemR G' w κ x)
 (how:∀b,G'.ow b≠ .free->b<w.heap.size) (hown:∀b κ,G'.ow b= .key κ->b<F.w0.heap.size->F.X b) (hro:∀b,G'.ow b= .ro->b<F.w0.heap.size->F.R b\/F.X b)
 (hboxow:∀b r,G.ow b= .key (.box r)->G'.ow b= .key (.box r)):RelP F pd G' s' a w:=
 h.QMd le hn ht hb ch hsame hcon (fun r k u h1 h2 h3 _ h4=>hbox r k u h1 h2 h3 h4) hfix hGB hit how hown hro hboxow
theorem ItemR.give {G G':Gh}{w:World}{κ:Key}{it:Item}(h:ItemR G w κ it) (hro:∀b,G.ow b= .ro->G'.ow b= .ro) (hk:∀b∈it.bl,G'.ow b= .key κ):ItemR G' w κ it:=
 ⟨Own.mono hro _ _ _ _ h.own,h.sl,h.nodup,fun b hb=>⟨hk b hb,(h.key b hb).2⟩,h.con⟩
theorem ItemR.QPe {G G':Gh}{w:World}{κ:Key}{r k:Nat}{it:Item}(h:ItemR G w κ it) (hro:∀b,G.ow b= .ro->G'.ow b= .ro) (hk:∀b∈it.bl,G'.ow b= .key (.con r k)):ItemR G' w (.con r k) it:=
 ⟨Own.mono hro _ _ _ _ h.own,h.sl,h.nodup,fun b hb=>⟨hk b hb,(h.key b hb).2⟩,_,_,rfl⟩
def Gh.move (G:Gh) (q r k id qk:Nat) (it:Item):Gh where
 H r' k' j:=if r'=r/\k'=k/\j=id then some (it.x.t,it.u)else G.H r' k' j
 HN:=G.HN
 GB:=G.GB
 ow b:=if b∈it.bl then .key (.con r k)else G.ow b
 it κ:=if κ= .con r k then some it else if κ= .con q qk then none else G.it κ
theorem Gh.QEr {G:Gh}{q r k id qk:Nat}{it:Item}(hf:G.H r k id=none) (hro:∀b∈it.bl,G.ow b≠ .ro):G.le (G.move q r k id qk it) where
 H r' k' j x h:=by
  show(if r'=r/\k'=k/\j=id then some (it.x.t,it.u)else G.H r' k' j)=some x
  split
  ·rename_i e;obtain⟨rfl,rfl,rfl⟩:=e;rw[hf]at h;cases h
  ·exact h
 HN _ _ _ _ _ _ _ h:=h
 GB _ _ _ h:=h
 ro b h:=by
  show(if b∈it.bl then Ow.key (.con r k)else G.ow b)= .ro
  split
  ·rename_i hm;exact(hro b hm h).elim
  ·exact h
theorem QD (id nv:Nat) (c:CSt):(mkC id nv c).st=c:=by cases c<;>rfl
theorem Q1 (id nv:Nat) (c:CSt):(mkC id nv c).id=id:=by cases c<;>rfl
theorem ZC (id nv:Nat) (c:CSt):(mkC id nv c).nv=nv:=by cases c<;>rfl
theorem RelP.move {F:Fix}{pd:Nat->Nat->Prop}{G:Gh}{s:St}{a:Act}{w:World}(h:RelP F pd G s a w) {q qk r k:Nat}{x:TV}{deep:Bool}{tag:Option (Nat×Nat)}{it:Item}
 (hq:(s.gC q qk).st= .own x deep tag) (hi:G.it (.con q qk)=some it) (hbx:k<(s.gB r).2->pd r k) (hfix:k<(s.gB r).2->∀x,(s.gC r k).st≠ .fix x):
 RelP F pd (G.move q r k ((s.gC r k).id+1) qk it)
  ((s.sC q qk (mkC (s.gC q qk).id (s.gC q qk).nv (.vw ⟨r,k,(s.gC r k).id+1,(s.gC r k).nv,none,none⟩))).sC r k (mkC ((s.gC r k).id+1) (s.gC r k).nv (.own x deep tag))) a w:=by
 obtain⟨u,bl,e1,e2,e3,e4⟩:=(h.con q qk).own x deep tag hq
 rw[hi]at e1;cases e1
 have hitr:=h.it _ _ hi
 have hf:=(h.con r k).freshH _ (QY33 _)
 have hle:=Gh.QEr (G:=G) (q:=q) (qk:=qk) (it:=⟨x,deep,u,bl⟩) hf (fun b hb e=>by rw[(hitr.key b hb).1]at e;cases e)
 have hH:(G.move q r k ((s.gC r k).id+1) qk ⟨x,deep,u,bl⟩).H r k ((s.gC r k).id+1)=some (x.t,u):=if_pos ⟨rfl,rfl,rfl⟩
 have hHne:∀r' k' j,¬(r'=r/\k'=k/\j=(s.gC r k).id+1)->(G.move q r k ((s.gC r k).id+1) qk ⟨x,deep,u,bl⟩).H r' k' j=G.H r' k' j:=fun r' k' j hn=>if_neg hn
 refine h.upd hle rfl (fun i=>rfl) (fun i=>rfl) (fun r' k'=>(r'=r/\k'=k)\/(r'=q/\k'=qk)) ?_ ?_ ?_ ?_ (fun _ _=>rfl) ?_ ?_ ?_ ?_ ?_
 ·intro r' k' hn
  have n1:¬(r=r'/\k=k'):=fun e=>hn (.inl ⟨e.1.symm,e.2.symm⟩)
  have n2:¬(q=r'/\qk=k'):=fun e=>hn (.inr ⟨e.1.symm,e.2.symm⟩)
  refine⟨by rw[QP,if_neg n1,QP,if_neg n2], ?_,fun j=>hHne _ _ _ (fun e=>n1 ⟨e.1.symm,e.2.1.symm⟩),fun _ _ _ _=>rfl⟩
  show(if Key.con r' k'= .con r k then _ else if Key.con r' k'= .con q qk then _ else _)=_
  rw[if_neg (fun e=>by cases e;exact n1 ⟨rfl,rfl⟩),if_neg (fun e=>by cases e;exact n2 ⟨rfl,rfl⟩)]
 ·intro r' k' hc
  rw[QP]
  by_cases hrk:r=r'/\k=k'
  ·obtain⟨rfl,rfl⟩:=hrk
   rw[if_pos ⟨rfl,rfl⟩]
   refine⟨fun j hj=> ?_,fun j v i m hj=> ?_,fun x' deep' tag' hc'=> ?_,fun p hc'=> ?_⟩
   ·rw[Q1]at hj
    rw[hHne _ _ _ (by omega)]
    exact(h.con r k).freshH j (by omega)
   ·rw[Q1,ZC]at hj
    exact(h.con r k).freshN j v i m (by omega)
   ·rw[QD]at hc';cases hc'
    refine⟨u,bl,if_pos rfl,by rw[Q1];exact hH,fun i m t u' hn=> ?_,e4⟩
    rw[Q1,ZC]at hn
    have:G.HN r k ((s.gC r k).id+1) (s.gC r k).nv i m=none:=(h.con r k).freshN _ _ i m (.inl (QY33 _))
    rw[show(G.move q r k ((s.gC r k).id+1) qk ⟨x,deep,u,bl⟩).HN=G.HN from rfl,this]at hn
    cases hn
   ·rw[QD]at hc';cases hc'
  ·have hq':q=r'/\qk=k':=by rcases hc with e|e;exact(hrk ⟨e.1.symm,e.2.symm⟩).elim;exact⟨e.1.symm,e.2.symm⟩
   obtain⟨rfl,rfl⟩:=hq'
   rw[if_neg hrk,QP,if_pos ⟨rfl,rfl⟩]
   refine⟨fun j hj=> ?_,fun j v i m hj=> ?_,fun x' deep' tag' hc'=> ?_,fun p hc'=> ?_⟩
   ·rw[Q1]at hj
    rw[hHne _ _ _ (fun e=>hrk ⟨e.1.symm,e.2.1.symm⟩)]
    exact(h.con q qk).freshH j hj
   ·rw[Q1,ZC]at hj
    exact(h.con q qk).freshN j v i m hj
   ·rw[QD]at hc';cases hc'
   ·rw[QD]at hc';cases hc'
    exact⟨x.t,u,by rw[Q1,hHne _ _ _ (fun e=>hrk ⟨e.1.symm,e.2.1.symm⟩)];exact e2,hH⟩
 ·intro r' k' u' hc hk hp hb
  rw[QP]
  by_cases hrk:r=r'/\k=k'
  ·obtain⟨rfl,rfl⟩:=hrk
   exact(hp (hbx hk)).elim
  ·have hq':q=r'/\qk=k':=by rcases hc with e|e;exact(hrk ⟨e.1.symm,e.2.symm⟩).elim;exact⟨e.1.symm,e.2.symm⟩
   obtain⟨rfl,rfl⟩:=hq'
   rw[if_neg hrk,QP,if_pos ⟨rfl,rfl⟩]
   unfold Xe at hb⊢
   rw[hq]at hb
   rw[QD]
   simp only at hb⊢
   rw[e2]at hb;cases hb
   exact⟨x.t,hH⟩
 ·intro r' k' hc hk ⟨y,hy⟩
  rcases hc with⟨rfl,rfl⟩|⟨rfl,rfl⟩
  ·exact(hfix hk y hy).elim
  ·rw[hq]at hy;cases hy
 ·intro κ y hy
  have hy:(if κ= .con r k then some (⟨x,deep,u,bl⟩:Item)else if κ= .con q qk then none else G.it κ)=some y:=hy
  by_cases n1:κ= .con r k
  ·subst n1;rw[if_pos rfl]at hy;cases hy
   exact hitr.QPe (fun b hb=>hle.ro b hb) (fun b hb=>if_pos hb)
  ·rw[if_neg n1]at hy
   by_cases n2:κ= .con q qk
   ·rw[if_pos n2]at hy;cases hy
   ·rw[if_neg n2]at hy
    refine(h.it κ y hy).give (fun b hb=>hle.ro b hb) (fun b hb=> ?_)
    have hk:=((h.it κ y hy).key b hb).1
    show(if b∈bl then Ow.key (.con r k)else G.ow b)=_
    rw[if_neg (fun hm=>by rw[(hitr.key b hm).1]at hk;cases hk;exact n2 rfl)]
    exact hk
 ·intro b hb
  by_cases hm:b∈bl
  ·exact(hitr.key b hm).2
  ·exact h.lt b (fun e=>hb (by show(if b∈bl then Ow.key (.con r k)else G.ow b)=_;rw[if_neg hm];exact e))
 ·intro b κ hb hlt
  by_cases hm:b∈bl
  ·exact h.own b _ (hitr.key b hm).1 hlt
  ·exact h.own b κ (by have:(if b∈bl then Ow.key (.con r k)else G.ow b)=_:=hb;rw[if_neg hm]at this;exact this) hlt
 ·intro b hb hlt
  by_cases hm:b∈bl
  ·have:(if b∈bl then Ow.key (.con r k)else G.ow b)=_:=hb
   rw[if_pos hm]at this;cases this
  ·exact h.ro b (by have:(if b∈bl then Ow.key (.con r k)else G.ow b)=_:=hb;rw[if_neg hm]at this;exact this) hlt
 ·intro b r' hb
  show(if b∈bl then Ow.key (.con r k)else G.ow b)=_
  rw[if_neg (fun hm=>by rw[(hitr.key b hm).1]at hb;cases hb)]
  exact hb
theorem RelP.xC {F:Fix}{pd:Nat->Nat->Prop}{G:Gh}{s:St}{a:Act}{w:World}(h:RelP F pd G s a w) {i:Nat}{c:Cell}{v:Value}(hi:i<s.n) (hc:QK G w c v):
 RelP F pd G (s.sT i c) (a.put (some i) v) w where
 size:=by simp only[Act.put,Array.size_setIfInBounds];exact h.size
 defers:=h.defers
 tm j:=by
  rw[Qxl]
  have hs:i<a.tmps.size:=by rw[h.size];exact hi
  by_cases e:i=j
  ·subst e
   rw[if_pos rfl]
   simp only[Act.put,Array.getD_eq_getD_getElem?]
   rw[QY40]
   simpa[hs]using hc
  ·rw[if_neg e]
   have:=h.tm j
   simp only[Act.put,Array.getD_eq_getD_getElem?]at this⊢
   rw[QY40,if_neg e]
   exact this
 con r k:=h.con r k
 box r:=⟨(h.box r).fresh,(h.box r).live⟩
 it:=h.it
 lt:=h.lt
 own:=h.own
 ro:=h.ro
 roR:=h.roR
 grow:=h.grow
 lock:=h.lock
 lockow:=h.lockow
 pbox:=h.pbox
theorem ZW.frame {w w':World}{it:Item}{i:Int}{m:Nat}{t:Ty}{u:Value}(h:ZW w it i m t u) (hs:∀b∈it.bl,Q5 w w' b) (hb:∀g off n c,it.u= .slice (some ⟨g,off,none⟩) n c->0<n->g∈it.bl):ZW w' it i m t u:=by
 obtain⟨ts,g,off,n,c,h1,h2,h3,h4,h5,h7,h6⟩:=h
 exact⟨ts,g,off,n,c,h1,h2,h3,h4,h5,h7,by rw[Q5.cell (hs g (hb g off n c h2 (by omega)))];exact h6⟩
theorem Own.head {w:World}{R:Nat->Prop}{deep:Bool}:(t:Ty)->(v:Val t)->(u:Value)->(bl:List Nat)->Own w R deep t v u bl->∀g off n c,u= .slice (some ⟨g,off,none⟩) n c->g∈bl
 | .int _,_,_,_,h,g,off,n,c,e=>by rw[h.1]at e;cases e
 | .bool,_,_,_,h,g,off,n,c,e=>by rw[h.1]at e;cases e
 | .str,_,_,_,h,g,off,n,c,e=>by rw[h.1]at e;cases e
 | .sl ts,xs,u,bl,h,g,off,n,c,e=>by
   rcases h with⟨_,h2,_⟩|⟨g',off',cap,cur,e',bls,hu,_,_,_,_,hb,_⟩
   ·rw[h2]at e;cases e
   ·rw[hu]at e;cases e;rw[hb];simp
def Fix.Y (F:Fix) (b:Nat):Prop:=F.w0.heap.size<=b\/F.X b
theorem RelP.frame {F:Fix}{pd:Nat->Nat->Prop}{G:Gh}{s:St}{a:Act}{w w':World}(h:RelP F pd G s a w) (hs:∀b,G.ow b≠ .free->Q5 w w' b) (hg:Grow F.Y w w'):RelP F pd G s a w' where
 size:=h.size
 defers:=h.defers
 tm i:=QK.mono (Gh.le.refl G) (fun b hb=>hs b (by rw[hb];simp)) (h.tm i)
 con r k:=by
  refine⟨(h.con r k).freshH,(h.con r k).freshN,fun x deep tag hc=> ?_,(h.con r k).vw⟩
  obtain⟨u,bl,h1,h2,h3,h4⟩:=(h.con r k).own x deep tag hc
  have hi:=h.it _ _ h1
  exact⟨u,bl,h1,h2,fun i m t u' hn=>(h3 i m t u' hn).frame (fun b hb=>hs b (by rw[(hi.key b hb).1];simp)) (fun g off n c e _=>Own.head _ _ _ _ hi.own g off n c e),h4⟩
 box r:=by
  refine⟨(h.box r).fresh,fun hz=> ?_⟩
  obtain⟨b,cur,e,h1,h2,h3,h4,h5⟩:=(h.box r).live hz
  refine⟨b,cur,e,h1,h2,Eq.trans (hs b (by rw[h2];simp)) h3,h4,fun k hk=> ?_⟩
  obtain⟨u,k1,k2,k3,k4⟩:=h5 k hk
  refine⟨u,k1,k2,fun hp=> ?_,k4⟩
  have:=k3 hp
  have hro:jB G w w':=fun b hb=>hs b (by rw[hb];simp)
  unfold Xe at this⊢
  cases hc:(s.gC r k).st with
  |sc x=>rw[hc]at this;exact VCR.mono (Gh.le.refl G) hro _ _ this
  |ro x=>rw[hc]at this;exact VCR.mono (Gh.le.refl G) hro _ _ this
  |fix x=>rw[hc]at this;exact VCR.mono (Gh.le.refl G) hro _ _ this
  |own x d t=>rw[hc]at this;exact this
  |vw p=>rw[hc]at this;exact this
  |part x i m=>trivial
  |dead=>trivial
 it κ x hx:=by
  have hi:=h.it κ x hx
  exact⟨Own.frame _ _ _ _ hi.own (fun b hb=>hs b (by rw[(hi.key b hb).1];simp)) (fun b hb=>hs b (by rw[hb];simp)),hi.sl,hi.nodup,fun b hb=>⟨(hi.key b hb).1,Nat.lt_of_lt_of_le (hi.key b hb).2 hg.size⟩,hi.con⟩
 lt b hb:=Nat.lt_of_lt_of_le (h.lt b hb) hg.size
 own:=h.own
 ro:=h.ro
 roR:=h.roR
 grow:=⟨hg.os.trans h.grow.os,hg.tape.trans h.grow.tape,hg.output.trans h.grow.output,QY17 h.grow.size hg.size,fun k hk hx=>(h.grow.block k hk hx).trans (hg.block k (Nat.lt_of_lt_of_le hk h.grow.size) (fun e=>e.elim (fun e=>by omega) hx))⟩
 lock b k hb hp:=by
  obtain⟨r,n,hr,_⟩:=h.lockow b k hb
  rw[Q5.cell (a:=⟨b,k,none⟩) (hs b (by rw[(h.pbox r b n hr).2.2];simp))];exact h.lock b k hb hp
 lockow:=h.lockow
 pbox:=h.pbox
theorem RelP.drawn {F:Fix}{pd:Nat->Nat->Prop}{G:Gh}{s:St}{a:Act}{w:World}(h:RelP F pd G s a w) (n:Nat):RelP F pd G s a {w with drawn:=n}:=
 h.frame (fun _ _=>rfl) ⟨rfl,rfl,rfl,QY2 _,fun _ _ _=>rfl⟩
structure Held (F:Fix) (G:Gh) (w:World) (it:Item):Prop where
 own:Own w (fun b=>G.ow b= .ro) it.deep it.x.t it.x.v it.u it.bl
 sl:QN it.x.t=true
 nodup:it.bl.Nodup
 free:∀b∈it.bl,G.ow b= .free/\b<w.heap.size/\(b<F.w0.heap.size->F.X b)
def Gh.drop (G:Gh) (q qk:Nat) (bl:List Nat):Gh:= {G with ow:=fun b=>if b∈bl then .free else G.ow b,it:=fun κ=>if κ= .con q qk then none else G.it κ}
theorem RelP.take {F:Fix}{pd:Nat->Nat->Prop}{G:Gh}{s:St}{a:Act}{w:World}(h:RelP F pd G s a w) {q qk:Nat}{x:TV}{deep:Bool}{tag:Option (Nat×Nat)}{it:Item}
 (hq:(s.gC q qk).st= .own x deep tag) (hi:G.it (.con q qk)=some it):
 RelP F pd (G.drop q qk it.bl) (s.sC q qk (mkC (s.gC q qk).id (s.gC q qk).nv .dead)) a w/\Held F (G.drop q qk it.bl) w it/\G.le (G.drop q qk it.bl):=by
 have hitr:=h.it _ _ hi
 have hkey:∀b∈it.bl,G.ow b= .key (.con q qk):=fun b hb=>(hitr.key b hb).1
 have hle:G.le (G.drop q qk it.bl):=⟨fun _ _ _ _ h=>h,fun _ _ _ _ _ _ _ h=>h,fun _ _ _ h=>h,fun b hb=>by
  show(if b∈it.bl then Ow.free else G.ow b)= .ro
  rw[if_neg (fun hm=>by rw[hkey b hm]at hb;cases hb)];exact hb⟩
 refine⟨?_,⟨Own.mono (fun b hb=>hle.ro b hb) _ _ _ _ hitr.own,hitr.sl,hitr.nodup,fun b hb=>⟨if_pos hb,(hitr.key b hb).2,fun hlt=>h.own b _ (hkey b hb) hlt⟩⟩,hle⟩
 refine h.upd hle rfl (fun i=>rfl) (fun i=>rfl) (fun r' k'=>r'=q/\k'=qk) ?_ ?_ ?_ ?_ (fun _ _=>rfl) ?_ ?_ ?_ ?_ ?_
 ·intro r' k' hn
  refine⟨by rw[QP,if_neg (fun e=>hn ⟨e.1.symm,e.2.symm⟩)], ?_,fun _=>rfl,fun _ _ _ _=>rfl⟩
  exact if_neg (fun e=>by cases e;exact hn ⟨rfl,rfl⟩)
 ·rintro r' k' ⟨rfl,rfl⟩
  rw[QP,if_pos ⟨rfl,rfl⟩]
  refine⟨fun j hj=> ?_,fun j v i m hj=> ?_,fun x' deep' tag' hc'=> ?_,fun p hc'=> ?_⟩
  ·rw[Q1]at hj;exact(h.con _ _).freshH j hj
  ·rw[Q1,ZC]at hj;exact(h.con _ _).freshN j v i m hj
  ·rw[QD]at hc';cases hc'
  ·rw[QD]at hc';cases hc'
 ·rintro r' k' u ⟨rfl,rfl⟩ hk hp hb
  rw[QP,if_pos ⟨rfl,rfl⟩]
  unfold Xe;rw[QD];trivial
 ·rintro r' k' ⟨rfl,rfl⟩ hk ⟨y,hy⟩
  rw[hq]at hy;cases hy
 ·intro κ y hy
  have hy:(if κ= .con q qk then none else G.it κ)=some y:=hy
  by_cases n2:κ= .con q qk
  ·rw[if_pos n2]at hy;cases hy
  ·rw[if_neg n2]at hy
   refine(h.it κ y hy).give (fun b hb=>hle.ro b hb) (fun b hb=> ?_)
   have hk:=((h.it κ y hy).key b hb).1
   show(if b∈it.bl then Ow.free else G.ow b)=_
   rw[if_neg (fun hm=>by rw[hkey b hm]at hk;cases hk;exact n2 rfl)]
   exact hk
 ·intro b hb
  refine h.lt b (fun e=>hb ?_)
  show(if b∈it.bl then Ow.free else G.ow b)=_
  split
  ·rfl
  ·exact e
 ·intro b κ hb hlt
  have hb:(if b∈it.bl then Ow.free else G.ow b)= .key κ:=hb
  split at hb
  ·cases hb
  ·exact h.own b κ hb hlt
 ·intro b hb hlt
  have hb:(if b∈it.bl then Ow.free else G.ow b)= .ro:=hb
  split at hb
  ·cases hb
  ·exact h.ro b hb hlt
 ·intro b r' hb
  show(if b∈it.bl then Ow.free else G.ow b)=_
  rw[if_neg (fun hm=>by rw[hkey b hm]at hb;cases hb)]
  exact hb
def Gh.put (G:Gh) (r k id:Nat) (it:Item):Gh where
 H r' k' j:=if r'=r/\k'=k/\j=id then some (it.x.t,it.u)else G.H r' k' j
 HN:=G.HN
 GB:=G.GB
 ow b:=if b∈it.bl then .key (.con r k)else G.ow b
 it κ:=if κ= .con r k then some it else G.it κ
theorem RelP.put {F:Fix}{pd:Nat->Nat->Prop}{G:Gh}{s:St}{a:Act}{w:World}(h:RelP F pd G s a w) {it:Item}(hh:Held F G w it) {r k:Nat}(tag:Option (Nat×Nat))
 (hbx:k<(s.gB r).2->pd r k) (hfix:k<(s.gB r).2->∀x,(s.gC r k).st≠ .fix x) (htag:∀p j,tag=some (p,j)->F.T p j=some it.u):
 RelP F pd (G.put r k ((s.gC r k).id+1) it) (s.sC r k (mkC ((s.gC r k).id+1) (s.gC r k).nv (.own it.x it.deep tag))) a w/\G.le (G.put r k ((s.gC r k).id+1) it)/\
  (G.put r k ((s.gC r k).id+1) it).PH ⟨r,k,(s.gC r k).id+1,(s.gC r k).nv,none,none⟩=some (it.x.t,it.u):=by
 have hf:=(h.con r k).freshH _ (QY33 _)
 have hle:G.le (G.put r k ((s.gC r k).id+1) it):=⟨fun r' k' j x hx=>by
  show(if r'=r/\k'=k/\j=_ then some (it.x.t,it.u)else G.H r' k' j)=some x
  split
  ·rename_i e;obtain⟨rfl,rfl,rfl⟩:=e;rw[hf]at hx;cases hx
  ·exact hx,fun _ _ _ _ _ _ _ h=>h,fun _ _ _ h=>h,fun b hb=>by
  show(if b∈it.bl then Ow.key (.con r k)else G.ow b)= .ro
  rw[if_neg (fun hm=>by rw[(hh.free b hm).1]at hb;cases hb)];exact hb⟩
 have hH:(G.put r k ((s.gC r k).id+1) it).H r k ((s.gC r k).id+1)=some (it.x.t,it.u):=if_pos ⟨rfl,rfl,rfl⟩
 refine⟨?_,hle,hH⟩
 refine h.upd hle rfl (fun i=>rfl) (fun i=>rfl) (fun r' k'=>r'=r/\k'=k) ?_ ?_ ?_ ?_ (fun _ _=>rfl) ?_ ?_ ?_ ?_ ?_
 ·intro r' k' hn
  refine⟨by rw[QP,if_neg (fun e=>hn ⟨e.1.symm,e.2.symm⟩)], ?_,fun j=>if_neg (fun e=>hn ⟨e.1,e.2.1⟩),fun _ _ _ _=>rfl⟩
  exact if_neg (fun e=>by cases e;exact hn ⟨rfl,rfl⟩)
 ·rintro r' k' ⟨rfl,rfl⟩
  rw[QP,if_pos ⟨rfl,rfl⟩]
  refine⟨fun j hj=> ?_,fun j v i m hj=> ?_,fun x' deep' tag' hc'=> ?_,fun p hc'=> ?_⟩
  ·rw[Q1]at hj
   rw[show(G.put r' k' ((s.gC r' k').id+1) it).H r' k' j=G.H r' k' j from if_neg (fun e=>by omega)]
   exact(h.con _ _).freshH j (by omega)
  ·rw[Q1,ZC]at hj;exact(h.con _ _).freshN j v i m (by omega)
  ·rw[QD]at hc';cases hc'
   refine⟨it.u,it.bl,if_pos rfl,by rw[Q1];exact hH,fun i m t u' hn=> ?_,htag⟩
   rw[Q1,ZC]at hn
   have:G.HN r' k' ((s.gC r' k').id+1) (s.gC r' k').nv i m=none:=(h.con _ _).freshN _ _ i m (.inl (QY33 _))
   rw[show(G.put r' k' ((s.gC r' k').id+1) it).HN=G.HN from rfl,this]at hn
   cases hn
  ·rw[QD]at hc';cases hc'
 ·rintro r' k' u ⟨rfl,rfl⟩ hk hp hb
  exact(hp (hbx hk)).elim
 ·rintro r' k' ⟨rfl,rfl⟩ hk ⟨y,hy⟩
  exact(hfix hk y hy).elim
 ·intro κ y hy
  have hy:(if κ= .con r k then some it else G.it κ)=some y:=hy
  by_cases n2:κ= .con r k
  ·subst n2;rw[if_pos rfl]at hy;cases hy
   exact⟨Own.mono (fun b hb=>hle.ro b hb) _ _ _ _ hh.own,hh.sl,hh.nodup,fun b hb=>⟨if_pos hb,(hh.free b hb).2.1⟩,_,_,rfl⟩
  ·rw[if_neg n2]at hy
   refine(h.it κ y hy).give (fun b hb=>hle.ro b hb) (fun b hb=> ?_)
   have hk:=((h.it κ y hy).key b hb).1
   show(if b∈it.bl then Ow.key (.con r k)else G.ow b)=_
   rw[if_neg (fun hm=>by rw[(hh.free b hm).1]at hk;cases hk)]
   exact hk
 ·intro b hb
  by_cases hm:b∈it.bl
  ·exact(hh.free b hm).2.1
  ·exact h.lt b (fun e=>hb (by show(if b∈it.bl then Ow.key (.con r k)else G.ow b)=_;rw[if_neg hm];exact e))
 ·intro b κ hb hlt
  have hb:(if b∈it.bl then Ow.key (.con r k)else G.ow b)= .key κ:=hb
  split at hb
  ·rename_i hm;exact(hh.free b hm).2.2 hlt
  ·exact h.own b κ hb hlt
 ·intro b hb hlt
  have hb:(if b∈it.bl then Ow.key (.con r k)else G.ow b)= .ro:=hb
  split at hb
  ·cases hb
  ·exact h.ro b hb hlt
 ·intro b r' hb
  show(if b∈it.bl then Ow.key (.con r k)else G.ow b)=_
  rw[if_neg (fun hm=>by rw[(hh.free b hm).1]at hb;cases hb)]
  exact hb
def Gh.freeze (G:Gh) (bl:List Nat):Gh:= {G with ow:=fun b=>if b∈bl then .ro else G.ow b}
theorem RelP.freeze {F:Fix}{pd:Nat->Nat->Prop}{G:Gh}{s:St}{a:Act}{w:World}(h:RelP F pd G s a w) {it:Item}(hh:Held F G w it):
 RelP F pd (G.freeze it.bl) s a w/\G.le (G.freeze it.bl)/\VCR (G.freeze it.bl) w (.ro it.x) it.u:=by
 have hle:G.le (G.freeze it.bl):=⟨fun _ _ _ _ h=>h,fun _ _ _ _ _ _ _ h=>h,fun _ _ _ h=>h,fun b hb=>by
  show(if b∈it.bl then Ow.ro else G.ow b)= .ro
  split
  ·rfl
  ·exact hb⟩
 refine⟨?_,hle, ?_⟩
 ·refine h.upd hle rfl (fun i=>rfl) (fun i=>rfl) (fun _ _=>False) (fun r k _=>⟨rfl,rfl,fun _=>rfl,fun _ _ _ _=>rfl⟩) (fun _ _ e=>e.elim) (fun _ _ _ e=>e.elim) (fun _ _ e=>e.elim) (fun _ _=>rfl) ?_ ?_ ?_ ?_ ?_
  ·intro κ y hy
   refine(h.it κ y hy).give (fun b hb=>hle.ro b hb) (fun b hb=> ?_)
   have hk:=((h.it κ y hy).key b hb).1
   show(if b∈it.bl then Ow.ro else G.ow b)=_
   rw[if_neg (fun hm=>by rw[(hh.free b hm).1]at hk;cases hk)]
   exact hk
  ·intro b hb
   by_cases hm:b∈it.bl
   ·exact(hh.free b hm).2.1
   ·exact h.lt b (fun e=>hb (by show(if b∈it.bl then Ow.ro else G.ow b)=_;rw[if_neg hm];exact e))
  ·intro b κ hb hlt
   have hb:(if b∈it.bl then Ow.ro else G.ow b)= .key κ:=hb
   split at hb
   ·cases hb
   ·exact h.own b κ hb hlt
  ·intro b hb hlt
   have hb:(if b∈it.bl then Ow.ro else G.ow b)= .ro:=hb
   split at hb
   ·rename_i hm;exact .inr ((hh.free b hm).2.2 hlt)
   ·exact h.ro b hb hlt
  ·intro b r' hb
   show(if b∈it.bl then Ow.ro else G.ow b)=_
   rw[if_neg (fun hm=>by rw[(hh.free b hm).1]at hb;cases hb)]
   exact hb
 ·obtain⟨b',h1,h2⟩:=Own.rep _ _ _ _ hh.own
  refine⟨b',h1,fun b hb=> ?_⟩
  show(if b∈it.bl then Ow.ro else G.ow b)= .ro
  rcases h2 b hb with h|h
  ·exact if_pos h
  ·split
   ·rfl
   ·exact h
theorem VM:(ts:Tys)->(x:Qm ts)->(m:Nat)->(y:TV)->(unpack ts x)[m]? =some y->ts.get? m=some y.t
 | .nil,_,m,y,h=>by simp[unpack]at h
 | .cons t ts,x,0,y,h=>by simp[unpack]at h;subst h;rfl
 | .cons t ts,x,m+1,y,h=>by simp[unpack]at h;exact VM ts (vtl x) m y h
theorem Qea {ts:Tys}(xs:List (Qm ts)) (i:Int) (hi:i.toNat<xs.length):xs[i.toNat]? =some (rdx ts xs i):=by
 unfold rdx;rw[QRp hi];simp[hi]
theorem QCM {w:World}{R:Nat->Prop}{it:Item}(h:Own w R it.deep it.x.t it.x.v it.u it.bl) {i:Int}{m:Nat}{t:Ty}{u:Value}(hn:ZW w it i m t u) {y:TV}(hy:Zm it.x i m=some y):
 y.t=t/\∃b',Rep w y.t y.v u b':=by
 obtain⟨⟨xt,xv⟩,deep,iu,bl⟩:=it
 obtain⟨ts,g,off,n,c,e1,e2,h0,h1,hget,hsl,hcell⟩:=hn
 simp only at e1 e2 h
 subst e1;subst e2
 have hlen:(vl (ts:=ts) xv).length=n:=by
  rcases h with⟨_,e,_⟩|⟨_,_,_,_,_,_,e,_⟩
  ·cases e
  ·cases e;rfl
 have hi:i.toNat<(vl (ts:=ts) xv).length:=by omega
 obtain⟨g',off',cap,cur,e',pre,b,post,us,hu,hg,_,_,_,hbl,hcs,hov,_⟩:=Own.el h i.toNat _ (Qea (vl xv) i hi)
 cases hu
 have hy:(unpack ts (rdx ts (vl xv) i))[m]? =some y:=hy
 obtain⟨b',hr,_⟩:=QT.rep _ _ _ _ hov
 obtain⟨v,b'',hv,hr',_⟩:=XF.at_ _ _ _ _ hr m y hy
 have hc:=hcs m v hv
 rw[add_plain,hcell]at hc
 cases hc
 have ht:=VM _ _ _ _ hy
 rw[hget]at ht
 cases ht
 exact⟨rfl,b'',hr'⟩
theorem TV.ext' {x y:TV}(h:x.t=y.t) (h':HEq x.v y.v):x=y:=by cases x;cases y;cases h;cases h';rfl
def Jj (t:Ty) (u:Value):Option (Int×Int)->Option (Ty×Value)
 |none=>some (t,u)
 |some (l,k)=>vI t u l k
theorem QjT {w:World}{x z:TV}{u:Value}{b:List Nat}(h:Rep w x.t x.v u b) {r:Option (Int×Int)}(hz:Yq x r=some z) {t:Ty}{u':Value}
 (hp:Jj x.t u r=some (t,u')):z.t=t/\∃b',Rep w z.t z.v u' b'/\∀c∈b',c∈b:=by
 cases r with
 |none=>cases hz;cases hp;exact⟨rfl,b,h,fun c hc=>hc⟩
 |some lk=>
  obtain⟨l,k⟩:=lk
  obtain⟨xt,xv⟩:=x
  cases xt with
  |sl ts=>
   simp only[Yq,KX]at hz
   cases hz
   simp only[Jj,vI]at hp
   obtain⟨ad,cap,hu,hcap,hh⟩:=h
   simp only at hu
   subst hu
   simp only at hp
   split at hp
   ·rename_i hc
    cases hp
    obtain⟨ad',cap',e,_,_,bl',h1,h2⟩:=Rep.sub (w:=w) (ts:=ts) (xs:=xv) (u:= .slice ad (vl xv).length cap) (bl:=b) ⟨ad,cap,rfl,hcap,hh⟩ l.toNat k.toNat (by omega) (by omega)
    cases e
    refine⟨rfl,bl', ?_,fun c hc=>h2.subset hc⟩
    have:(k - l).toNat=k.toNat - l.toNat:=by omega
    show Rep w (.sl ts) (List.take (k - l).toNat (List.drop l.toNat (vl xv))) _ bl'
    rw[this];exact h1
   ·cases hp
  |_=>simp[Yq,KX]at hz
section
variable {γ:Type}
theorem Kr {F:Fix}{pd:Nat->Nat->Prop}{G:Gh}{s:St}{a:Act}{w:World}(h:RelP F pd G s a w) {p:Pl}{tu:Ty×Value}(hp:G.PH p=some tu):
 Sat (J3 p:M γ (Pl×Con)) s fun x s'=>s'=s/\x.2=s.gC x.1.r x.1.k/\x.2.id=x.1.id/\(x.1.nest.isSome=true->x.2.nv=x.1.nv)/\G.PH x.1=some tu:=by
 unfold J3
 refine Sat.bind (jS 8 p s h.con tu hp) ?_
 rintro⟨q,c⟩ s' ⟨e1,e2,e3,e4,_,e5⟩
 subst e1
 refine Sat.bind (Sat.mC (Φ:=fun c' s''=>s''=s'/\c'=s'.gC q.r q.k) ⟨rfl,rfl⟩) ?_
 intro c' s'' hc
 rw[hc.1,hc.2]
 simp only at e2 e3 e4 e5
 subst e2
 exact Sat.pure ⟨rfl,rfl,e3,e4,e5⟩
theorem QHt {F:Fix}{pd:Nat->Nat->Prop}{G:Gh}{s:St}{a:Act}{w:World}(h:RelP F pd G s a w) {p:Pl}{tu:Ty×Value}(hp:G.PH p=some tu):
 Sat (rd p:M γ (TV×Bool)) s fun x s'=>s'=s/\x.1.t=tu.1/\∃b,Rep w x.1.t x.1.v tu.2 b:=by
 unfold rd
 refine Sat.bind (Kr h hp) ?_
 rintro⟨q,c⟩ s' ⟨e1,e2,e3,e4,e5⟩
 subst e1
 simp only at e2 e3 e4 e5
 obtain⟨t,u'⟩:=tu
 dsimp only
 cases hc:c.st with
 |own x deep tag=>
  rw[e2]at hc
  obtain⟨u,bl,k1,k2,k3,_⟩:=(h.con q.r q.k).own x deep tag hc
  have hi:=h.it _ _ k1
  have key:∀y,(match q.nest with|none=>some x|some (i,m)=>Zm x i m)=some y->∃ub b,G.base q=some (y.t,ub)/\Rep w y.t y.v ub b:=by
   intro y hy
   unfold Gh.base
   cases hn:q.nest with
   |none=>
    rw[hn]at hy;cases hy
    obtain⟨b',h1,_⟩:=Own.rep _ _ _ _ hi.own
    exact⟨u,b',by simp only;rw[<-e3,e2];exact k2,h1⟩
   |some im=>
    obtain⟨i,m⟩:=im
    rw[hn]at hy
    simp only at hy⊢
    have hb:∃tu',G.base q=some tu':=by
     unfold Gh.PH at e5
     cases hr:q.rng with
     |none=>rw[hr]at e5;exact⟨_,e5⟩
     |some lk=>rw[hr]at e5;simp only[Option.bind_eq_some_iff]at e5;obtain⟨y,e,_⟩:=e5;exact⟨y,e⟩
    obtain⟨⟨t1,u1⟩,hb⟩:=hb
    unfold Gh.base at hb
    rw[hn]at hb
    simp only at hb
    have e4':=e4 (by rw[hn];rfl)
    have:=k3 i m t1 u1 (by rw[<-e2,e3,e4'];exact hb)
    obtain⟨ht,b',hr⟩:=QCM hi.own this hy
    exact⟨u1,b',by rw[ht];exact hb,hr⟩
  have jp:∀y,(match q.nest with|none=>some x|some (i,m)=>Zm x i m)=some y->Sat (do let z<-ofO (Yq y q.rng);pure (z,deep):M γ (TV×Bool)) s' fun x s''=>s''=s'/\x.1.t=t/\∃b,Rep w x.1.t x.1.v u' b:=by
   intro y hy
   obtain⟨ub,b,hb,hr⟩:=key y hy
   refine Sat.bind (Sat.ofO (Φ:=fun z s''=>s''=s'/\Yq y q.rng=some z) (fun z hz=>⟨rfl,hz⟩)) ?_
   rintro z s'' ⟨e,hz⟩
   refine Sat.pure ⟨e, ?_⟩
   have:=QjT hr hz (t:=t) (u':=u') (by
    unfold Gh.PH at e5
    cases hr':q.rng with
    |none=>rw[hr']at e5;simp only[Jj]at e5⊢; rw[<-hb];exact e5
    |some lk=>rw[hr']at e5;simp only[Jj]at e5⊢; rw[hb]at e5;exact e5)
   exact⟨this.1,let⟨b',h1,_⟩:=this.2;⟨b',h1⟩⟩
  dsimp only
  cases hn:q.nest with
  |none=>
   rw[hn]at jp
   exact Sat.bind (Sat.pure (Φ:=fun y s''=>s''=s'/\y=x) ⟨rfl,rfl⟩) (by rintro y s'' ⟨e,e'⟩;rw[e,e'];exact jp x rfl)
  |some im=>
   rw[hn]at jp
   exact Sat.bind (Sat.ofO (Φ:=fun y s''=>s''=s'/\Zm x im.1 im.2=some y) (fun y hy=>⟨rfl,hy⟩)) (by rintro y s'' ⟨e,e'⟩;rw[e];exact jp y e')
 |_=>exact Sat.fail
theorem Zt {x:TV}{t:Ty}{v:Val t}(h:x.as t=some v):x=⟨t,v⟩:=by
 unfold TV.as at h
 cases hq:Ty.eq? x.t t with
 |none=>rw[hq]at h;cases h
 |some e=>
  obtain⟨e⟩:=e
  obtain⟨xt,xv⟩:=x
  simp only at e
  subst e
  rw[hq]at h
  simp only at h
  cases h
  rfl
theorem Qlj {F:Fix}{pd:Nat->Nat->Prop}{G:Gh}{s:St}{a:Act}{w:World}(h:RelP F pd G s a w) (t:Ty) (c:VC) (u:Value) (hc:VCR G w c u):
 Sat (QdR t c:M γ (Val t)) s fun v s'=>s'=s/\∃b,Rep w t v u b:=by
 cases c with
 |sc x=>
  obtain⟨b,h1,_⟩:=hc
  exact Sat.ofO fun v hv=>by have:=Zt hv;subst this;exact⟨rfl,b,h1⟩
 |ro x=>
  obtain⟨b,h1,_⟩:=hc
  exact Sat.ofO fun v hv=>by have:=Zt hv;subst this;exact⟨rfl,b,h1⟩
 |nilS=>
  cases t with
  |sl ts=>exact Sat.pure ⟨rfl,[],none,0,hc,⟨QY2 _,fun _=>rfl⟩, .inl ⟨rfl,rfl⟩⟩
  |_=>exact Sat.fail
 |vw p=>
  obtain⟨t',e,_⟩:=hc
  refine Sat.bind (QHt h e) ?_
  rintro⟨x,d⟩ s' ⟨e1,e2,b,hr⟩
  rw[e1]
  exact Sat.ofO fun v hv=>by
   have:=Zt hv
   subst this
   exact⟨rfl,b,hr⟩
 |bad=>exact Sat.fail
end
end Go.Eng
