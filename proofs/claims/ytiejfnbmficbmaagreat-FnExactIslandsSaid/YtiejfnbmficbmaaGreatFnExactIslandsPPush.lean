/- What the plain forms that FnExactIslands reaches come to: PPush. No conditions but those that each theorem states. -/
import Derived.Test.YtiejfnbmficbmaaGreatFnExactIslandsPIslands
set_option linter.all false
namespace Go.Proofs.YtiejfnbmficbmaaGreat.M
open Go Go.Eng Go.Proofs
set_option linter.unusedVariables false
def post (m:QV) (net:List Qm):List Qm:=bif decide ((net.length:Int)<12)then net++[(m.2.2.1,bytesOf m,false)]else net
structure Few (net:List Qm):Prop where
 len:net.length<=12
 packs:∀p∈net,p.2.1.length<=3000100
def QC4 (r:QsJ):QV:=(r.1,r.2.1,r.2.2.1,r.2.2.2.1,r.2.2.2.2.1,r.2.2.2.2.2.1,r.2.2.2.2.2.2.1,r.2.2.2.2.2.2.2.1,r.2.2.2.2.2.2.2.2.1,r.2.2.2.2.2.2.2.2.2.1,r.2.2.2.2.2.2.2.2.2.2.1,r.2.2.2.2.2.2.2.2.2.2.2.1)
def QMX (x:Qa) (r:QsJ):Qa×List (List Int)×Int:=bif r.2.2.2.2.2.2.2.2.2.2.2.2 then((rcv x (QC4 r)).1,(rcv x (QC4 r)).2.1.map bytesOf,(rcv x (QC4 r)).2.2)else(x,[],1)
def QM6 (x:Qa) (b:List Int):Qa×List (List Int)×Int:=QMX x (QNK b)
def QMA (p:Qm) (ns:List Qa):List Qa:=ns.set p.1.toNat (QM6 (nodeAt ns p.1) p.2.1).1
def give (net:List Qm):List Int->List Qa->List Qa
 | [],ns=>ns
 |i::l,ns=>give net l (QMA (rd1 J0 net i) ns)
structure All (n:Nat) (ns:List Qa):Prop where
 nodes:∀x∈ns,NOk x
 len:ns.length=n
end Go.Proofs.YtiejfnbmficbmaaGreat.M
