/- Plain forms of the functions that FnExactStep reaches, part 10. No conditions. -/
import Derived.Test.YtjenicbpdklpbaaGreatFnExactStepTab
set_option linter.all false
namespace Go.Proofs.YtjenicbpdklpbaaGreat.M
open Go Go.Eng Go.Proofs
set_option linter.unusedVariables false
noncomputable section
def Qlu:rF vi:=fun D L a0=>
 (Yo D a0).bind fun r1=>
 bif (!r1)then(some (-1))
 else((ZX D a0).bind fun r2=>
 (QdC D r2).bind fun r3=>
 bif decide ((4:Int)≠0)then
 some (Int.tmod r3 4)else none)
theorem Qwr:OfF vi Qlu:=ofF 316
def zi:rF Z0:=fun D L (a0,a1)=>
 (V8 D (a0,a1)).bind fun r1=>
 some (decide (0<=r1))
theorem QhD:OfF Z0 zi:=ofF 317
def QlX:rF va:=fun D L a0=>
 (Yq D a0).bind fun r1=>
 bif (!r1)then(some (-1))
 else((XW D a0).bind fun r2=>
 (QdD D r2).bind fun r3=>
 bif decide ((4:Int)≠0)then
 some (Int.tmod r3 4)else none)
theorem Qu1:OfF va QlX:=ofF 318
def QoA:rF Qfv:=fun D L a0=>
 some (!decide (a0=a0))
theorem Qzq:OfF Qfv QoA:=ofF 319
def jQ:rF Zv:=fun _ _=>QIU
theorem j7:OfF Zv jQ:=ofF 320
def Qle:rF Qeo:=fun D L (a0,a1,a2,a3,a4,a5)=>
 (XA D ([(a0,a1,a2,a3,a4,a5)],[])).bind fun r1=>
 bif (!r1)then(some ([],[],false))
 else(some ([(a0,a1,a2,a3,a4,a5)],[],true))
theorem Qvm:OfF Qeo Qle:=ofF 321
def vW:rL VS:=fun D L (y0,y1,y2,y3,y4,y5)=>
 bif (decide (y0<(y3.length:Int)))then(bif inb y0 y3.length then
 let e3:=(rd1 Y8 y3 y0);
 (Yn D (y4,y5,e3)).bind fun r4=>
 VS L ((wR (y0+1)),y1,y2,y3,r4)else none)
 else(some (y4,y5))
theorem Qdt:OfL VS vW:=ofL 322 0
def Qg4:rF x6:=fun D L (a0,a1,a2,a3)=>
 (Vg D (a0,a1,a2)).bind fun r1=>
 bif (!r1)then(some ([],[],false))
 else((QE D (a3,a1,(wR (a1+(a2.length:Int))))).bind fun r2=>
 bif (!r2)then(some ([],[],false))
 else((VS L ((wR (a3 - a1)),a0,a1,a2,[],[])).bind fun z5=>
 some (z5.1,z5.2,true)))
theorem Qsi:OfF x6 Qg4:=ofF 322
def Qhp:rF Jd:=fun D L (a0,a1,a2)=>
 (ZF D a0).bind fun r1=>
 (QA D (a1,0,(wR ((a0.length:Int) - 1)))).bind fun r2=>
 bif r2 then(bif inb a1 a0.length then
 bif inb a1 r1.length then
 let l3:=List.set r1 (Int.toNat a1) (mxI (rd1 (0:Int) a0 a1) a2);
 some l3 else none else none)
 else(some r1)
theorem Qsc:OfF Jd Qhp:=ofF 323
def Qd7:rL Yg:=fun D L (y0,y1,y2,y3,y4,y5,y6)=>
 bif (decide (y1<4))then(bif (!y0)then(bif fits (y6.length+ [y1].length) 8 then
 Yg L (y0,(wR (y1+1)),y2,y3,y4,y5,(y6++[y1]))else none)
 else(bif inb y1 y2.length then
 bif inb y1 y4.length then
 bif (!decide ((rd1 (0:Int) y2 y1)=(rd1 (0:Int) y4 y1)))then(bif fits (y6.length+ [y1].length) 8 then
 Yg L (y0,(wR (y1+1)),y2,y3,y4,y5,(y6++[y1]))else none)
 else(Yg L (y0,(wR (y1+1)),y2,y3,y4,y5,y6))else none else none))
 else(some y6)
theorem QgS:OfL Yg Qd7:=ofL 324 0
def Qlt:rF vp:=fun D L (a0,a1,a2,a3)=>
 bif (decide (a1=a3))then(some [])
 else(bif (decide ((a0.length:Int)=4))then((Yg L ((decide ((a2.length:Int)=4)),0,a0,a1,a2,a3,[])).bind fun z1=>
 some z1)
 else((Yg L (false,0,a0,a1,a2,a3,[])).bind fun z2=>
 some z2))
theorem Qwv:OfF vp Qlt:=ofF 324
def QoG:rF Qlm:=fun D L (a0,a1,a2,a3,a4,a5,a6,a7,a8,a9,a10,a11,a12,a13,a14,a15,a16,a17,a18,a19)=>
 (ZE D (a0,a1,a2,a3,a4,a5,a6,a7,a8,a9,a10,a11,a12,a13,a14,a15,a16,a17,a18)).bind fun r1=>
 bif (!r1)then(some ([],[],false))
 else((x0 D (a6,a7,a8,a19)).bind fun r2=>
 bif (!r2.2.2)then((X4 D (a2,a3)).bind fun r3=>
 some (r3.1,r3.2,false))
 else(some (r2.1,r2.2.1,true)))
theorem QyJ:OfF Qlm QoG:=ofF 325
def qE:rL Z2:=fun D L (y0,y1,y2,y3)=>
 bif (decide (y3<y2))then(bif inb y3 y0.length then
 bif (decide (y1=(rd1 (0:Int) y0 y3)))then(some (Sum.inl y3))
 else(Z2 L (y0,y1,y2,(wR (y3+1))))else none)
 else(some (Sum.inr ()))
theorem zG:OfL Z2 qE:=ofL 326 0
def jz:rF V8:=fun D L (a0,a1)=>
 (Z2 L (a0,a1,(a0.length:Int),0)).bind fun z1=>
 Qn z1 (fun u2=>
 some u2)
 (fun z3=>
 some (-1))
theorem Qmg:OfF V8 jz:=ofF 326
def v3:rL VI:=fun D L (y0,y1,y2,y3,y4)=>
 bif (decide (y2<y1))then(bif inb y2 y0.length then
 let e4:=(rd1 Y8 y0 y2);
 (Zq D (y3,y4,e4)).bind fun r5=>
 VI L (y0,y1,(wR (y2+1)),r5)else none)
 else(some (y3,y4))
theorem Qdi:OfL VI v3:=ofL 328 0
def Qhg:rF x0:=fun D L (a0,a1,a2,a3)=>
 (Yt D (a0,a1,a2)).bind fun r1=>
 bif (!r1)then(some ([],[],false))
 else((Vq D (a0,a1,a2)).bind fun r2=>
 (QA D (a3,a1,r2)).bind fun r3=>
 bif (!r3)then(some ([],[],false))
 else(bif decide ((0:Int)<=(wR (a3 - a1))/\(wR (a3 - a1))<=((a2.length:Int):Int)/\(a2.length:Int)<=(a2.length:Int))then
 (VI L (List.take (Int.toNat ((a2.length:Int) - (wR (a3 - a1)))) (List.drop (Int.toNat (wR (a3 - a1))) a2),((List.length (List.take (Int.toNat ((a2.length:Int) - (wR (a3 - a1)))) (List.drop (Int.toNat (wR (a3 - a1))) a2))):Int),0,[],[])).bind fun z6=>
 some (z6.1,z6.2,true)else none))
theorem QrR:OfF x0 Qhg:=ofF 328
end
end Go.Proofs.YtjenicbpdklpbaaGreat.M
