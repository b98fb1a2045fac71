/- What the plain forms that FnExactAuto reaches come to: PGive. No conditions but those that each theorem states. -/
import Derived.Test.YtiejfnbmficbmaaGreatFnExactAutoPCalm
set_option linter.all false
namespace Go.Proofs.YtiejfnbmficbmaaGreat.M
open Go Go.Eng Go.Proofs
set_option linter.unusedVariables false
def QDC (r:Qtb):QY:=(r.1,r.2.1,r.2.2.1,r.2.2.2.1,r.2.2.2.2.1,r.2.2.2.2.2.1,r.2.2.2.2.2.2.1,r.2.2.2.2.2.2.2.1,r.2.2.2.2.2.2.2.2.1,r.2.2.2.2.2.2.2.2.2.1,r.2.2.2.2.2.2.2.2.2.2.1,r.2.2.2.2.2.2.2.2.2.2.2.1)
def QOb (x:Qb) (r:Qtb):Qb×List (List Int)×Int:=bif r.2.2.2.2.2.2.2.2.2.2.2.2 then((rcv x (QDC r)).1,(rcv x (QDC r)).2.1.map bytesOf,(rcv x (QDC r)).2.2)else(x,[],1)
def QNA (x:Qb) (b:List Int):Qb×List (List Int)×Int:=QOb x (QNy b)
def QLx (p:Qq) (ns:List Qb):List Qb:=ns.set p.1.toNat (QNA (nodeAt ns p.1) p.2.1).1
def give (net:List Qq):List Int->List Qb->List Qb
 | [],ns=>ns
 |i::l,ns=>give net l (QLx (rd1 JQ net i) ns)
structure All (n:Nat) (ns:List Qb):Prop where
 nodes:∀x∈ns,NOk x
 len:ns.length=n
end Go.Proofs.YtiejfnbmficbmaaGreat.M
