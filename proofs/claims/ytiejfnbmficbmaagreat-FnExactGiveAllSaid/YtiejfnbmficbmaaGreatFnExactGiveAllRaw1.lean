/- Plain forms of the functions that FnExactGiveAll reaches, part 1. No conditions. -/
import Derived.Test.YtiejfnbmficbmaaGreatFnExactGiveAllTab
set_option linter.all false
namespace Go.Proofs.YtiejfnbmficbmaaGreat.M
open Go Go.Eng Go.Proofs
set_option linter.unusedVariables false
noncomputable section
def QcO:rL qj:=fun D L (y0,y1,y2,y3,y4,y5)=>
 bif (decide (y2<y1))then(bif inb y2 y0.length then
 let e2:=(rd1 QG y0 y2);
 (KA D e2).bind fun r3=>
 bif (!r3)then(some (Sum.inl false))
 else(bif (!decide (e2.2.1=(y3.length:Int)))then(some (Sum.inl false))
 else(bif (!decide (e2.1=y2))then(some (Sum.inl false))
 else(qj L (y0,y1,(wR (y2+1)),y3,y4,y5))))else none)
 else(some (Sum.inr (y3,y4,y5)))
theorem QhD:OfL qj QcO:=ofL 35 0
def Qd2:rL qJ:=fun D L (y0,y1,y2,y3,y4,y5)=>
 bif (decide (y2<y1))then(bif inb y2 y0.length then
 let e7:=(rd1 VH y0 y2);
 (jo D (y3,y4,y5,e7.1)).bind fun r8=>
 bif (!r8)then(some (Sum.inl false))
 else(qJ L (y0,y1,(wR (y2+1)),y3,y4,y5))else none)
 else(some (Sum.inr (y3,y4,y5)))
theorem Qg1:OfL qJ Qd2:=ofL 35 2
def QdK:rL qN:=fun D L (y0,y1,y2,y3,y4,y5)=>
 bif (decide (y2<y1))then(bif inb y2 y0.length then
 let e12:=(rd1 KO y0 y2);
 (jo D (y3,y4,y5,e12.1)).bind fun r13=>
 bif (!r13)then(some (Sum.inl false))
 else((XB D e12.2).bind fun r14=>
 bif (!r14)then(some (Sum.inl false))
 else(qN L (y0,y1,(wR (y2+1)),y3,y4,y5)))else none)
 else(some (Sum.inr ()))
theorem Qhs:OfL qN QdK:=ofL 35 4
def Qmc:rF QdG:=fun D L (a0,a1,a2)=>
 (QA D ((a0.length:Int),1,5)).bind fun r1=>
 bif (!r1)then(some false)
 else(bif (decide (12<(a1.length:Int)))then(some false)
 else(bif (decide (40<(a2.length:Int)))then(some false)
 else((qj L (a0,(a0.length:Int),0,a0,a1,a2)).bind fun z4=>
 Qn z4 (fun u5=>
 some u5)
 (fun z6=>
 (qJ L (z6.2.1,(z6.2.1.length:Int),0,z6)).bind fun z9=>
 Qn z9 (fun u10=>
 some u10)
 (fun z11=>
 (qN L (z11.2.2,(z11.2.2.length:Int),0,z11)).bind fun z15=>
 Qn z15 (fun u16=>
 some u16)
 (fun z17=>
 some true))))))
theorem QuI:OfF QdG Qmc:=ofF 35
def Qcf:rL JW:=fun D L (y0,y1,y2)=>
 bif (decide (y2<(y0.length:Int)))then(bif inb y2 y0.length then
 let e1:=(rd1 QG y0 y2);
 bif inb y2 y1.length then
 let e2:=(rd1 QG y1 y2);
 (Qgb D (n11T e1 (e2))).bind fun r3=>
 bif (!r3)then(some (Sum.inl false))
 else(JW L (y0,y1,(wR (y2+1))))else none else none)
 else(some (Sum.inr ()))
theorem Qhv:OfL JW Qcf:=ofL 36 0
def QkG:rF Qcc:=fun D L (a0,a1)=>
 bif (!decide ((a0.length:Int)=(a1.length:Int)))then(some false)
 else((JW L (a0,a1,0)).bind fun z4=>
 Qn z4 (fun u5=>
 some u5)
 (fun z6=>
 some true))
theorem QwS:OfF Qcc QkG:=ofF 36
def Qdz:rL qF:=fun D L (y0,y1,y2)=>
 bif (decide (y2<(y0.length:Int)))then(bif inb y2 y0.length then
 let e1:=(rd1 VH y0 y2);
 bif inb y2 y1.length then
 let e2:=(rd1 VH y1 y2);
 (QfS D (e1.1,e1.2.1,e1.2.2,e2)).bind fun r3=>
 bif (!r3)then(some (Sum.inl false))
 else(qF L (y0,y1,(wR (y2+1))))else none else none)
 else(some (Sum.inr ()))
theorem QgI:OfL qF Qdz:=ofL 37 0
def Qmj:rF Qd5:=fun D L (a0,a1)=>
 bif (!decide ((a0.length:Int)=(a1.length:Int)))then(some false)
 else((qF L (a0,a1,0)).bind fun z4=>
 Qn z4 (fun u5=>
 some u5)
 (fun z6=>
 some true))
theorem QwO:OfF Qd5 Qmj:=ofF 37
def Qcv:rL JZ:=fun D L (y0,y1,y2)=>
 bif (decide (y2<(y0.length:Int)))then(bif inb y2 y0.length then
 let e1:=(rd1 KO y0 y2);
 bif inb y2 y1.length then
 let e2:=(rd1 KO y1 y2);
 (Qgt D (e1.1,e1.2.1,e1.2.2,e2)).bind fun r3=>
 bif (!r3)then(some (Sum.inl false))
 else(JZ L (y0,y1,(wR (y2+1))))else none else none)
 else(some (Sum.inr ()))
theorem Qhb:OfL JZ Qcv:=ofL 38 0
def QkJ:rF Qdo:=fun D L (a0,a1)=>
 bif (!decide ((a0.length:Int)=(a1.length:Int)))then(some false)
 else((JZ L (a0,a1,0)).bind fun z4=>
 Qn z4 (fun u5=>
 some u5)
 (fun z6=>
 some true))
theorem QvG:OfF Qdo QkJ:=ofF 38
def QdN:rL JY:=fun D L (y0,y1,y2,y3,y4,y5,y6)=>
 bif (decide (y0<(y1.length:Int)))then(bif inb y0 y1.length then
 let e1:=(rd1 QG y1 y0);
 (XA D e1).bind fun r2=>
 bif fits (y4.length+ [r2].length) 296 then
 JY L ((wR (y0+1)),y1,y2,y3,(y4++[r2]),y5,y6)else none else none)
 else(some (y1,y2,y3,y4,y5,y6))
theorem Qhx:OfL JY QdN:=ofL 39 0
def QdY:rL qE:=fun D L (y0,y1,y2,y3,y4,y5,y6)=>
 bif (decide (y0<(y2.length:Int)))then(bif inb y0 y2.length then
 let e4:=(rd1 VH y2 y0);
 (Qes D e4).bind fun r5=>
 bif fits (y5.length+ [r5].length) 40 then
 qE L ((wR (y0+1)),y1,y2,y3,y4,(y5++[r5]),y6)else none else none)
 else(some (y1,y2,y3,y4,y5,y6))
theorem QhW:OfL qE QdY:=ofL 39 2
def QeB:rL qP:=fun D L (y0,y1,y2,y3,y4,y5,y6)=>
 bif (decide (y0<(y3.length:Int)))then(bif inb y0 y3.length then
 let e7:=(rd1 KO y3 y0);
 bif inb y0 y3.length then
 let e8:=(rd1 KO y3 y0);
 (Kx D e8.2).bind fun r9=>
 bif fits (y6.length+ [(e7.1,r9)].length) 56 then
 qP L ((wR (y0+1)),y1,y2,y3,y4,y5,(y6++[(e7.1,r9)]))else none else none else none)
 else(some (y4,y5,y6))
theorem Qg6:OfL qP QeB:=ofL 39 4
def Qk0:rF Qer:=fun D L (a0,a1,a2)=>
 (JY L (0,a0,a1,a2,[],[],[])).bind fun z3=>
 (qE L (0,z3)).bind fun z6=>
 (qP L (0,z6)).bind fun z10=>
 some z10
theorem Qwc:OfF Qer Qk0:=ofF 39
def vU:rL Vz:=fun D L (y0,y1,y2,y3,y4,y5,y6,y7,y8)=>
 bif (decide (y2<y1))then(bif inb y2 y0.length then
 let e1:=(rd1 QG y0 y2);
 (Y3 D e1).bind fun r2=>
 bif fits (y6.length+ [r2].length) 296 then
 Vz L (y0,y1,(wR (y2+1)),y3,y4,y5,(y6++[r2]),y7,y8)else none else none)
 else(some (y3,y4,y5,y6,y7,y8))
theorem Qdk:OfL Vz vU:=ofL 41 0
def vQ:rL Vy:=fun D L (y0,y1,y2,y3,y4,y5,y6,y7,y8)=>
 bif (decide (y2<y1))then(bif inb y2 y0.length then
 let e4:=(rd1 VH y0 y2);
 (QaL D e4).bind fun r5=>
 bif fits (y7.length+ [r5].length) 40 then
 Vy L (y0,y1,(wR (y2+1)),y3,y4,y5,y6,(y7++[r5]),y8)else none else none)
 else(some (y3,y4,y5,y6,y7,y8))
theorem Qey:OfL Vy vQ:=ofL 41 2
def Qac:rL Vu:=fun D L (y0,y1,y2,y3,y4,y5)=>
 bif (decide (y2<y1))then(bif inb y2 y0.length then
 let e7:=(rd1 KO y0 y2);
 (ZO D e7.2).bind fun r8=>
 bif fits (y5.length+ [(e7.1,r8)].length) 56 then
 Vu L (y0,y1,(wR (y2+1)),y3,y4,(y5++[(e7.1,r8)]))else none else none)
 else(some (y3,y4,y5))
theorem Qc7:OfL Vu Qac:=ofL 41 4
def Qh4:rF vc:=fun D L (a0,a1,a2)=>
 (Vz L (a0,(a0.length:Int),0,a0,a1,a2,[],[],[])).bind fun z3=>
 (Vy L (z3.2.1,(z3.2.1.length:Int),0,z3)).bind fun z6=>
 (Vu L (z6.2.2.1,(z6.2.2.1.length:Int),0,z6.2.2.2)).bind fun z9=>
 some z9
theorem QsV:OfF vc Qh4:=ofF 41
def vY:rL YO:=fun D L (y0,y1,y2)=>
 bif (decide (y1<(y2.length:Int)))then(bif inb y1 y2.length then
 let e1:=(rd1 QG y2 y1);
 let l2:=List.set y2 (Int.toNat y1) (y0,e1.2);
 bif inb y1 l2.length then
 let e3:=(rd1 QG l2 y1);
 let l4:=List.set l2 (Int.toNat y1) (e3.1,(wR (y0+1)),e3.2.2);
 bif inb y1 l4.length then
 let e5:=(rd1 QG l4 y1);
 (VZ D ((rd1 QG l4 y1).2.2.1,(wR ((wR (y0+1))+1)))).bind fun r6=>
 let e7:=(rd1 QG l4 y1);
 let l8:=List.set l4 (Int.toNat y1) (e7.1,e7.2.1,r6.2,e7.2.2.2);
 bif inb y1 l8.length then
 let e9:=(rd1 QG l8 y1);
 (KW D ((rd1 QG l8 y1).2.2.2.1,r6.1)).bind fun r10=>
 let e11:=(rd1 QG l8 y1);
 let l12:=List.set l8 (Int.toNat y1) (e11.1,e11.2.1,e11.2.2.1,r10.2,e11.2.2.2.2);
 bif inb y1 l12.length then
 let e13:=(rd1 QG l12 y1);
 (Y4 D ((rd1 QG l12 y1).2.2.2.2.1,r10.1)).bind fun r14=>
 let e15:=(rd1 QG l12 y1);
 let l16:=List.set l12 (Int.toNat y1) (e15.1,e15.2.1,e15.2.2.1,e15.2.2.2.1,r14.2,e15.2.2.2.2.2);
 bif inb y1 l16.length then
 let e17:=(rd1 QG l16 y1);
 let l18:=List.set l16 (Int.toNat y1) (e17.1,e17.2.1,e17.2.2.1,e17.2.2.2.1,e17.2.2.2.2.1,r14.1,e17.2.2.2.2.2.2);
 bif inb y1 l18.length then
 let e19:=(rd1 QG l18 y1);
 let l20:=List.set l18 (Int.toNat y1) (e19.1,e19.2.1,e19.2.2.1,e19.2.2.2.1,e19.2.2.2.2.1,e19.2.2.2.2.2.1,(wR (r14.1+1)),e19.2.2.2.2.2.2.2);
 bif inb y1 l20.length then
 let e21:=(rd1 QG l20 y1);
 let l22:=List.set l20 (Int.toNat y1) (e21.1,e21.2.1,e21.2.2.1,e21.2.2.2.1,e21.2.2.2.2.1,e21.2.2.2.2.2.1,e21.2.2.2.2.2.2.1,(wR ((wR (r14.1+1))+1)),e21.2.2.2.2.2.2.2.2);
 bif inb y1 l22.length then
 let e23:=(rd1 QG l22 y1);
 (ja D ((rd1 QG l22 y1).2.2.2.2.2.2.2.2.1,(wR ((wR ((wR (r14.1+1))+1))+1)))).bind fun r24=>
 let e25:=(rd1 QG l22 y1);
 let l26:=List.set l22 (Int.toNat y1) (e25.1,e25.2.1,e25.2.2.1,e25.2.2.2.1,e25.2.2.2.2.1,e25.2.2.2.2.2.1,e25.2.2.2.2.2.2.1,e25.2.2.2.2.2.2.2.1,r24.2,e25.2.2.2.2.2.2.2.2.2);
 bif inb y1 l26.length then
 let e27:=(rd1 QG l26 y1);
 (Y4 D ((rd1 QG l26 y1).2.2.2.2.2.2.2.2.2.1,r24.1)).bind fun r28=>
 let e29:=(rd1 QG l26 y1);
 let l30:=List.set l26 (Int.toNat y1) (e29.1,e29.2.1,e29.2.2.1,e29.2.2.2.1,e29.2.2.2.2.1,e29.2.2.2.2.2.1,e29.2.2.2.2.2.2.1,e29.2.2.2.2.2.2.2.1,e29.2.2.2.2.2.2.2.2.1,r28.2,e29.2.2.2.2.2.2.2.2.2.2);
 bif inb y1 l30.length then
 let e31:=(rd1 QG l30 y1);
 (Y4 D ((rd1 QG l30 y1).2.2.2.2.2.2.2.2.2.2.1,r28.1)).bind fun r32=>
 let e33:=(rd1 QG l30 y1);
 let l34:=List.set l30 (Int.toNat y1) (e33.1,e33.2.1,e33.2.2.1,e33.2.2.2.1,e33.2.2.2.2.1,e33.2.2.2.2.2.1,e33.2.2.2.2.2.2.1,e33.2.2.2.2.2.2.2.1,e33.2.2.2.2.2.2.2.2.1,e33.2.2.2.2.2.2.2.2.2.1,r32.2,e33.2.2.2.2.2.2.2.2.2.2.2);
 bif inb y1 l34.length then
 let e35:=(rd1 QG l34 y1);
 (vu D ((rd1 QG l34 y1).2.2.2.2.2.2.2.2.2.2.2.1,r32.1)).bind fun r36=>
 let e37:=(rd1 QG l34 y1);
 let l38:=List.set l34 (Int.toNat y1) (e37.1,e37.2.1,e37.2.2.1,e37.2.2.2.1,e37.2.2.2.2.1,e37.2.2.2.2.2.1,e37.2.2.2.2.2.2.1,e37.2.2.2.2.2.2.2.1,e37.2.2.2.2.2.2.2.2.1,e37.2.2.2.2.2.2.2.2.2.1,e37.2.2.2.2.2.2.2.2.2.2.1,r36.2,e37.2.2.2.2.2.2.2.2.2.2.2.2);
 bif inb y1 l38.length then
 let e39:=(rd1 QG l38 y1);
 let l40:=List.set l38 (Int.toNat y1) (e39.1,e39.2.1,e39.2.2.1,e39.2.2.2.1,e39.2.2.2.2.1,e39.2.2.2.2.2.1,e39.2.2.2.2.2.2.1,e39.2.2.2.2.2.2.2.1,e39.2.2.2.2.2.2.2.2.1,e39.2.2.2.2.2.2.2.2.2.1,e39.2.2.2.2.2.2.2.2.2.2.1,e39.2.2.2.2.2.2.2.2.2.2.2.1,r36.1,e39.2.2.2.2.2.2.2.2.2.2.2.2.2);
 bif inb y1 l40.length then
 let e41:=(rd1 QG l40 y1);
 let l42:=List.set l40 (Int.toNat y1) (e41.1,e41.2.1,e41.2.2.1,e41.2.2.2.1,e41.2.2.2.2.1,e41.2.2.2.2.2.1,e41.2.2.2.2.2.2.1,e41.2.2.2.2.2.2.2.1,e41.2.2.2.2.2.2.2.2.1,e41.2.2.2.2.2.2.2.2.2.1,e41.2.2.2.2.2.2.2.2.2.2.1,e41.2.2.2.2.2.2.2.2.2.2.2.1,e41.2.2.2.2.2.2.2.2.2.2.2.2.1,(wR (r36.1+1)),e41.2.2.2.2.2.2.2.2.2.2.2.2.2.2);
 bif inb y1 l42.length then
 let e43:=(rd1 QG l42 y1);
 (vA D ((rd1 QG l42 y1).2.2.2.2.2.2.2.2.2.2.2.2.2.2.1,(wR ((wR (r36.1+1))+1)))).bind fun r44=>
 let e45:=(rd1 QG l42 y1);
 let l46:=List.set l42 (Int.toNat y1) (e45.1,e45.2.1,e45.2.2.1,e45.2.2.2.1,e45.2.2.2.2.1,e45.2.2.2.2.2.1,e45.2.2.2.2.2.2.1,e45.2.2.2.2.2.2.2.1,e45.2.2.2.2.2.2.2.2.1,e45.2.2.2.2.2.2.2.2.2.1,e45.2.2.2.2.2.2.2.2.2.2.1,e45.2.2.2.2.2.2.2.2.2.2.2.1,e45.2.2.2.2.2.2.2.2.2.2.2.2.1,e45.2.2.2.2.2.2.2.2.2.2.2.2.2.1,r44.2,e45.2.2.2.2.2.2.2.2.2.2.2.2.2.2.2);
 bif inb y1 l46.length then
 let e47:=(rd1 QG l46 y1);
 let l48:=List.set l46 (Int.toNat y1) (e47.1,e47.2.1,e47.2.2.1,e47.2.2.2.1,e47.2.2.2.2.1,e47.2.2.2.2.2.1,e47.2.2.2.2.2.2.1,e47.2.2.2.2.2.2.2.1,e47.2.2.2.2.2.2.2.2.1,e47.2.2.2.2.2.2.2.2.2.1,e47.2.2.2.2.2.2.2.2.2.2.1,e47.2.2.2.2.2.2.2.2.2.2.2.1,e47.2.2.2.2.2.2.2.2.2.2.2.2.1,e47.2.2.2.2.2.2.2.2.2.2.2.2.2.1,e47.2.2.2.2.2.2.2.2.2.2.2.2.2.2.1,r44.1,e47.2.2.2.2.2.2.2.2.2.2.2.2.2.2.2.2);
 bif inb y1 l48.length then
 let e49:=(rd1 QG l48 y1);
 let l50:=List.set l48 (Int.toNat y1) (e49.1,e49.2.1,e49.2.2.1,e49.2.2.2.1,e49.2.2.2.2.1,e49.2.2.2.2.2.1,e49.2.2.2.2.2.2.1,e49.2.2.2.2.2.2.2.1,e49.2.2.2.2.2.2.2.2.1,e49.2.2.2.2.2.2.2.2.2.1,e49.2.2.2.2.2.2.2.2.2.2.1,e49.2.2.2.2.2.2.2.2.2.2.2.1,e49.2.2.2.2.2.2.2.2.2.2.2.2.1,e49.2.2.2.2.2.2.2.2.2.2.2.2.2.1,e49.2.2.2.2.2.2.2.2.2.2.2.2.2.2.1,e49.2.2.2.2.2.2.2.2.2.2.2.2.2.2.2.1,(wR (r44.1+1)),e49.2.2.2.2.2.2.2.2.2.2.2.2.2.2.2.2.2);
 bif inb y1 l50.length then
 let e51:=(rd1 QG l50 y1);
 let l52:=List.set l50 (Int.toNat y1) (e51.1,e51.2.1,e51.2.2.1,e51.2.2.2.1,e51.2.2.2.2.1,e51.2.2.2.2.2.1,e51.2.2.2.2.2.2.1,e51.2.2.2.2.2.2.2.1,e51.2.2.2.2.2.2.2.2.1,e51.2.2.2.2.2.2.2.2.2.1,e51.2.2.2.2.2.2.2.2.2.2.1,e51.2.2.2.2.2.2.2.2.2.2.2.1,e51.2.2.2.2.2.2.2.2.2.2.2.2.1,e51.2.2.2.2.2.2.2.2.2.2.2.2.2.1,e51.2.2.2.2.2.2.2.2.2.2.2.2.2.2.1,e51.2.2.2.2.2.2.2.2.2.2.2.2.2.2.2.1,e51.2.2.2.2.2.2.2.2.2.2.2.2.2.2.2.2.1,(wR ((wR (r44.1+1))+1)),e51.2.2.2.2.2.2.2.2.2.2.2.2.2.2.2.2.2.2);
 bif inb y1 l52.length then
 let e53:=(rd1 QG l52 y1);
 (j8 D ((rd1 QG l52 y1).2.2.2.2.2.2.2.2.2.2.2.2.2.2.2.2.2.2,(wR ((wR ((wR (r44.1+1))+1))+1)))).bind fun r54=>
 let e55:=(rd1 QG l52 y1);
 let l56:=List.set l52 (Int.toNat y1) (e55.1,e55.2.1,e55.2.2.1,e55.2.2.2.1,e55.2.2.2.2.1,e55.2.2.2.2.2.1,e55.2.2.2.2.2.2.1,e55.2.2.2.2.2.2.2.1,e55.2.2.2.2.2.2.2.2.1,e55.2.2.2.2.2.2.2.2.2.1,e55.2.2.2.2.2.2.2.2.2.2.1,e55.2.2.2.2.2.2.2.2.2.2.2.1,e55.2.2.2.2.2.2.2.2.2.2.2.2.1,e55.2.2.2.2.2.2.2.2.2.2.2.2.2.1,e55.2.2.2.2.2.2.2.2.2.2.2.2.2.2.1,e55.2.2.2.2.2.2.2.2.2.2.2.2.2.2.2.1,e55.2.2.2.2.2.2.2.2.2.2.2.2.2.2.2.2.1,e55.2.2.2.2.2.2.2.2.2.2.2.2.2.2.2.2.2.1,r54.2);
 YO L (r54.1,(wR (y1+1)),l56)else none else none else none else none else none else none else none else none else none else none else none else none else none else none else none else none else none else none else none)
 else(some (y0,y2))
theorem QcU:OfL YO vY:=ofL 43 0
def QhV:rF va:=fun D L (a0,a1)=>
 (YO L (a1,0,a0)).bind fun z57=>
 some z57
theorem QsP:OfF va QhV:=ofF 43
def Qaa:rL YS:=fun D L (y0,y1,y2)=>
 bif (decide (y1<(y2.length:Int)))then(bif inb y1 y2.length then
 let e1:=(rd1 VH y2 y1);
 let l2:=List.set y2 (Int.toNat y1) (y0,e1.2);
 bif inb y1 l2.length then
 let e3:=(rd1 VH l2 y1);
 (vj D ((rd1 VH l2 y1).2.1,(wR (y0+1)))).bind fun r4=>
 let e5:=(rd1 VH l2 y1);
 let l6:=List.set l2 (Int.toNat y1) (e5.1,r4.2,e5.2.2);
 bif decide ((3:Int)≠0)then
 bif inb y1 l6.length then
 let e7:=(rd1 VH l6 y1);
 let l8:=List.set l6 (Int.toNat y1) (e7.1,e7.2.1,(decide ((Int.tmod r4.1 3)=0)));
 YS L ((wR (r4.1+1)),(wR (y1+1)),l8)else none else none else none else none)
 else(some (y0,y2))
theorem Qdq:OfL YS Qaa:=ofL 44 0
def Qhr:rF vr:=fun D L (a0,a1)=>
 (YS L (a1,0,a0)).bind fun z9=>
 some z9
theorem QsG:OfF vr Qhr:=ofF 44
def v7:rL YL:=fun D L (y0,y1,y2)=>
 bif (decide (y1<(y2.length:Int)))then(bif inb y1 y2.length then
 let e1:=(rd1 KO y2 y1);
 let l2:=List.set y2 (Int.toNat y1) (y0,e1.2);
 bif inb y1 l2.length then
 let e3:=(rd1 KO l2 y1);
 (VZ D ((rd1 KO l2 y1).2.1,(wR (y0+1)))).bind fun r4=>
 let e5:=(rd1 KO l2 y1);
 let l6:=List.set l2 (Int.toNat y1) (e5.1,r4.2,e5.2.2);
 bif inb y1 l6.length then
 let e7:=(rd1 KO l6 y1);
 (KW D ((rd1 KO l6 y1).2.2,r4.1)).bind fun r8=>
 let e9:=(rd1 KO l6 y1);
 let l10:=List.set l6 (Int.toNat y1) (e9.1,e9.2.1,r8.2);
 YL L (r8.1,(wR (y1+1)),l10)else none else none else none)
 else(some (y0,y2))
theorem Qcj:OfL YL v7:=ofL 45 0
def QgS:rF jY:=fun D L (a0,a1)=>
 (YL L (a1,0,a0)).bind fun z11=>
 some z11
theorem QsT:OfF jY QgS:=ofF 45
def vK:rL Y2:=fun D L (y0,y1,y2)=>
 bif (decide (y2<(y0.length:Int)))then(bif inb y2 y0.length then
 let e1:=(rd1 QG y0 y2);
 bif (!decide (e1.1=y1))then(some (Sum.inl (-1)))
 else(bif inb y2 y0.length then
 let e2:=(rd1 QG y0 y2);
 bif (!decide (e2.2.1=(wR (y1+1))))then(some (Sum.inl (-1)))
 else(bif inb y2 y0.length then
 let e3:=(rd1 QG y0 y2);
 (V3 D (e3.2.2.1,(wR ((wR (y1+1))+1)))).bind fun r4=>
 bif (decide (r4<0))then(some (Sum.inl (-1)))
 else(bif inb y2 y0.length then
 let e5:=(rd1 QG y0 y2);
 (K7 D (e5.2.2.2.1,r4)).bind fun r6=>
 bif (decide (r6<0))then(some (Sum.inl (-1)))
 else(bif inb y2 y0.length then
 let e7:=(rd1 QG y0 y2);
 (Vl D (e7.2.2.2.2.1,r6)).bind fun r8=>
 bif (decide (r8<0))then(some (Sum.inl (-1)))
 else(bif inb y2 y0.length then
 let e9:=(rd1 QG y0 y2);
 bif (!decide (e9.2.2.2.2.2.1=r8))then(some (Sum.inl (-1)))
 else(bif inb y2 y0.length then
 let e10:=(rd1 QG y0 y2);
 bif (!decide (e10.2.2.2.2.2.2.1=(wR (r8+1))))then(some (Sum.inl (-1)))
 else(bif inb y2 y0.length then
 let e11:=(rd1 QG y0 y2);
 bif (!decide (e11.2.2.2.2.2.2.2.1=(wR ((wR (r8+1))+1))))then(some (Sum.inl (-1)))
 else(bif inb y2 y0.length then
 let e12:=(rd1 QG y0 y2);
 (yZ D (e12.2.2.2.2.2.2.2.2.1,(wR ((wR ((wR (r8+1))+1))+1)))).bind fun r13=>
 bif (decide (r13<0))then(some (Sum.inl (-1)))
 else(bif inb y2 y0.length then
 let e14:=(rd1 QG y0 y2);
 (Vl D (e14.2.2.2.2.2.2.2.2.2.1,r13)).bind fun r15=>
 bif (decide (r15<0))then(some (Sum.inl (-1)))
 else(bif inb y2 y0.length then
 let e16:=(rd1 QG y0 y2);
 (Vl D (e16.2.2.2.2.2.2.2.2.2.2.1,r15)).bind fun r17=>
 bif (decide (r17<0))then(some (Sum.inl (-1)))
 else(bif inb y2 y0.length then
 let e18:=(rd1 QG y0 y2);
 (vf D (e18.2.2.2.2.2.2.2.2.2.2.2.1,r17)).bind fun r19=>
 bif (decide (r19<0))then(some (Sum.inl (-1)))
 else(bif inb y2 y0.length then
 let e20:=(rd1 QG y0 y2);
 bif (!decide (e20.2.2.2.2.2.2.2.2.2.2.2.2.1=r19))then(some (Sum.inl (-1)))
 else(bif inb y2 y0.length then
 let e21:=(rd1 QG y0 y2);
 bif (!decide (e21.2.2.2.2.2.2.2.2.2.2.2.2.2.1=(wR (r19+1))))then(some (Sum.inl (-1)))
 else(bif inb y2 y0.length then
 let e22:=(rd1 QG y0 y2);
 (vk D (e22.2.2.2.2.2.2.2.2.2.2.2.2.2.2.1,(wR ((wR (r19+1))+1)))).bind fun r23=>
 bif (decide (r23<0))then(some (Sum.inl (-1)))
 else(bif inb y2 y0.length then
 let e24:=(rd1 QG y0 y2);
 bif (!decide (e24.2.2.2.2.2.2.2.2.2.2.2.2.2.2.2.1=r23))then(some (Sum.inl (-1)))
 else(bif inb y2 y0.length then
 let e25:=(rd1 QG y0 y2);
 bif (!decide (e25.2.2.2.2.2.2.2.2.2.2.2.2.2.2.2.2.1=(wR (r23+1))))then(some (Sum.inl (-1)))
 else(bif inb y2 y0.length then
 let e26:=(rd1 QG y0 y2);
 bif (!decide (e26.2.2.2.2.2.2.2.2.2.2.2.2.2.2.2.2.2.1=(wR ((wR (r23+1))+1))))then(some (Sum.inl (-1)))
 else(bif inb y2 y0.length then
 let e27:=(rd1 QG y0 y2);
 (j7 D (e27.2.2.2.2.2.2.2.2.2.2.2.2.2.2.2.2.2.2,(wR ((wR ((wR (r23+1))+1))+1)))).bind fun r28=>
 bif (decide (r28<0))then(some (Sum.inl (-1)))
 else(Y2 L (y0,r28,(wR (y2+1))))else none)else none)else none)else none)else none)else none)else none)else none)else none)else none)else none)else none)else none)else none)else none)else none)else none)else none)else none)
 else(some (Sum.inr y1))
theorem QdF:OfL Y2 vK:=ofL 46 0
def QhU:rF vq:=fun D L (a0,a1)=>
 (Y2 L (a0,a1,0)).bind fun z29=>
 Qn z29 (fun u30=>
 some u30)
 (fun z31=>
 some z31)
theorem QsM:OfF vq QhU:=ofF 46
def Qaj:rL YW:=fun D L (y0,y1,y2)=>
 bif (decide (y2<(y0.length:Int)))then(bif inb y2 y0.length then
 let e1:=(rd1 VH y0 y2);
 bif (!decide (e1.1=y1))then(some (Sum.inl (-1)))
 else(bif inb y2 y0.length then
 let e2:=(rd1 VH y0 y2);
 (vv D (e2.2.1,(wR (y1+1)))).bind fun r3=>
 bif (decide (r3<0))then(some (Sum.inl (-1)))
 else(bif inb y2 y0.length then
 let e4:=(rd1 VH y0 y2);
 bif decide ((3:Int)≠0)then
 bif (!(e4.2.2==(decide ((Int.tmod r3 3)=0))))then(some (Sum.inl (-1)))
 else(YW L (y0,(wR (r3+1)),(wR (y2+1))))else none else none)else none)else none)
 else(some (Sum.inr y1))
theorem QcD:OfL YW Qaj:=ofL 47 0
def QgA:rF j0:=fun D L (a0,a1)=>
 (YW L (a0,a1,0)).bind fun z5=>
 Qn z5 (fun u6=>
 some u6)
 (fun z7=>
 some z7)
theorem QsC:OfF j0 QgA:=ofF 47
def vV:rL YQ:=fun D L (y0,y1,y2)=>
 bif (decide (y2<(y0.length:Int)))then(bif inb y2 y0.length then
 let e1:=(rd1 KO y0 y2);
 bif (!decide (e1.1=y1))then(some (Sum.inl (-1)))
 else(bif inb y2 y0.length then
 let e2:=(rd1 KO y0 y2);
 (V3 D (e2.2.1,(wR (y1+1)))).bind fun r3=>
 bif (decide (r3<0))then(some (Sum.inl (-1)))
 else(bif inb y2 y0.length then
 let e4:=(rd1 KO y0 y2);
 (K7 D (e4.2.2,r3)).bind fun r5=>
 bif (decide (r5<0))then(some (Sum.inl (-1)))
 else(YQ L (y0,r5,(wR (y2+1))))else none)else none)else none)
 else(some (Sum.inr y1))
theorem Qdj:OfL YQ vV:=ofL 48 0
def Qij:rF vd:=fun D L (a0,a1)=>
 (YQ L (a0,a1,0)).bind fun z6=>
 Qn z6 (fun u7=>
 some u7)
 (fun z8=>
 some z8)
theorem QsO:OfF vd Qij:=ofF 48
def QiV:rF Vk:=fun D L (a0,a1,a2,a3,a4,a5,a6,a7,a8,a9,a10,a11)=>
 (zr D (a0,a1,a2,a3,a4,a5,a6,a7,a8,a9,a10,a11)).bind fun r1=>
 bif (!r1)then(some [])
 else((Qeu D (a0,a1,a2,a3,a4,a5,a6,a7,a8,a9,a10,a11)).bind fun r2=>
 (QaF D r2).bind fun r3=>
 bif fits (r2.length+r3.length) 1 then
 some (r2++r3)else none)
theorem Qt0:OfF Vk QiV:=ofF 50
def yI:rL Y8:=fun D L (y0,y1,y2)=>
 bif (decide (y2<y1))then((vn D (y0,y2)).bind fun r1=>
 bif (!r1)then(some (Sum.inl false))
 else(Y8 L (y0,y1,(wR (y2+1)))))
 else(some (Sum.inr ()))
theorem Qan:OfL Y8 yI:=ofL 60 0
def zx:rF zM:=fun D L (a0,a1)=>
 bif (!decide ((a0.length:Int)=a1))then(some false)
 else((Y8 L (a0,a1,0)).bind fun z2=>
 Qn z2 (fun u3=>
 some u3)
 (fun z4=>
 some true))
theorem QqP:OfF zM zx:=ofF 60
def zI:rL ZM:=fun D L (y0,y1,y2,y3,y4,y5,y6,y7,y8,y9,y10,y11,y12,y13,y14,y15,y16,y17,y18,y19,y20,y21,y22)=>
 bif (decide (y1<(y22.length:Int)))then(bif inb y1 y22.length then
 let e4:=(rd1 Qfa y22 y1);
 (Vk D (e4.1,e4.2.1,e4.2.2.1,e4.2.2.2.1,e4.2.2.2.2.1,(rd1 Qfa y22 y1).2.2.2.2.2.1,e4.2.2.2.2.2.2.1,(rd1 Qfa y22 y1).2.2.2.2.2.2.2)).bind fun r5=>
 bif fits (y2.length+List.length ([r5]:List (List Int))) 24 then
 ZM L (y0,(wR (y1+1)),(y2++([r5]:List (List Int))),y3,y4,y5,y6,y7,y8,y9,y10,y11,y12,y13,y14,y15,y16,y17,y18,y19,y20,y21,y22)else none else none)
 else(some (y0,y2,y3,y4,y5,y6,y7,y8,y9,y10,y11,y12,y13,y14,y15,y16,y17,y18,y19,y20,y21))
theorem vH:OfL ZM zI:=ofL 61 0
def QbK:rF xr:=fun D L (a0,a1,a2,a3,a4,a5,a6,a7,a8,a9,a10,a11,a12,a13,a14,a15,a16,a17,a18,a19)=>
 (QjE D a19).bind fun r1=>
 bif (!r1.2.2.2.2.2.2.2.2.2.2.2.2)then((XA D (a0,a1,a2,a3,a4,a5,a6,a7,a8,a9,a10,a11,a12,a13,a14,a15,a16,a17,a18)).bind fun r2=>
 some (n11T r2 ([],1)))
 else((QbT D (a0,a1,a2,a3,a4,a5,a6,a7,a8,a9,a10,a11,a12,a13,a14,a15,a16,a17,a18,r1.1,r1.2.1,r1.2.2.1,r1.2.2.2.1,r1.2.2.2.2.1,r1.2.2.2.2.2.1,r1.2.2.2.2.2.2.1,r1.2.2.2.2.2.2.2.1,r1.2.2.2.2.2.2.2.2.1,r1.2.2.2.2.2.2.2.2.2.1,r1.2.2.2.2.2.2.2.2.2.2.1,r1.2.2.2.2.2.2.2.2.2.2.2.1)).bind fun r3=>
 (ZM L (r3.2.2.2.2.2.2.2.2.2.2.2.2.2.2.2.2.2.2.2.2,0,[],r3.1,r3.2.1,r3.2.2.1,r3.2.2.2.1,r3.2.2.2.2.1,r3.2.2.2.2.2.1,r3.2.2.2.2.2.2.1,r3.2.2.2.2.2.2.2.1,r3.2.2.2.2.2.2.2.2.1,r3.2.2.2.2.2.2.2.2.2.1,r3.2.2.2.2.2.2.2.2.2.2.1,r3.2.2.2.2.2.2.2.2.2.2.2.1,r3.2.2.2.2.2.2.2.2.2.2.2.2.1,r3.2.2.2.2.2.2.2.2.2.2.2.2.2.1,r3.2.2.2.2.2.2.2.2.2.2.2.2.2.2.1,r3.2.2.2.2.2.2.2.2.2.2.2.2.2.2.2.1,r3.2.2.2.2.2.2.2.2.2.2.2.2.2.2.2.2.1,r3.2.2.2.2.2.2.2.2.2.2.2.2.2.2.2.2.2.1,r3.2.2.2.2.2.2.2.2.2.2.2.2.2.2.2.2.2.2.1,r3.2.2.2.2.2.2.2.2.2.2.2.2.2.2.2.2.2.2.2.1)).bind fun z6=>
 some (z6.2.2.1,z6.2.2.2.1,z6.2.2.2.2.1,z6.2.2.2.2.2.1,z6.2.2.2.2.2.2.1,z6.2.2.2.2.2.2.2.1,z6.2.2.2.2.2.2.2.2.1,z6.2.2.2.2.2.2.2.2.2.1,z6.2.2.2.2.2.2.2.2.2.2.1,z6.2.2.2.2.2.2.2.2.2.2.2.1,z6.2.2.2.2.2.2.2.2.2.2.2.2.1,z6.2.2.2.2.2.2.2.2.2.2.2.2.2.1,z6.2.2.2.2.2.2.2.2.2.2.2.2.2.2.1,z6.2.2.2.2.2.2.2.2.2.2.2.2.2.2.2.1,z6.2.2.2.2.2.2.2.2.2.2.2.2.2.2.2.2.1,z6.2.2.2.2.2.2.2.2.2.2.2.2.2.2.2.2.2.1,z6.2.2.2.2.2.2.2.2.2.2.2.2.2.2.2.2.2.2.1,z6.2.2.2.2.2.2.2.2.2.2.2.2.2.2.2.2.2.2.2.1,z6.2.2.2.2.2.2.2.2.2.2.2.2.2.2.2.2.2.2.2.2,z6.2.1,z6.1))
theorem QpB:OfF xr QbK:=ofF 61
end
end Go.Proofs.YtiejfnbmficbmaaGreat.M
