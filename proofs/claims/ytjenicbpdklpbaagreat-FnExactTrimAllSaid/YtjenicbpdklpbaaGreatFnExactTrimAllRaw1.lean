/- Plain forms of the functions that FnExactTrimAll reaches, part 1. No conditions. -/
import Derived.Test.YtjenicbpdklpbaaGreatFnExactTrimAllTab
set_option linter.all false
namespace Go.Proofs.YtjenicbpdklpbaaGreat.M
open Go Go.Eng Go.Proofs
set_option linter.unusedVariables false
noncomputable section
def spec_WorldOk_l0:rL spec_WorldOk_k0:=fun D L (y0,y1,y2,y3,y4)=>
 bif (decide (y1<y0))then(bif inb y1 y2.length then
 let e2:=(rd1 zNode y2 y1);
 (spec_NodeOk D e2).bind fun r3=>
 bif (!r3)then(some (Sum.inl false))
 else(bif inb y1 y2.length then
 let e4:=(rd1 zNode y2 y1);
 bif (!decide (e4.2.1=y0))then(some (Sum.inl false))
 else(bif inb y1 y2.length then
 let e5:=(rd1 zNode y2 y1);
 bif (!decide (e5.1=y1))then(some (Sum.inl false))
 else(spec_WorldOk_k0 L (y0,(IntKind.wrap .i64 (y1+1)),y2,y3,y4))else none)else none)else none)
 else(some (Sum.inr (y0,y2,y3,y4)))
theorem spec_WorldOk_l0_of:OfL spec_WorldOk_k0 spec_WorldOk_l0:=ofL 69 0
def spec_WorldOk_l2:rL spec_WorldOk_k2:=fun D L (y0,y1,y2,y3,y4)=>
 bif (decide (y1<(y3.length:Int)))then(bif inb y1 y3.length then
 let e9:=(rd1 zPack y3 y1);
 (spec_l1In D (e9.1,0,(IntKind.wrap .i64 (y0 - 1)))).bind fun r10=>
 bif (!r10)then(some (Sum.inl false))
 else(spec_WorldOk_k2 L (y0,(IntKind.wrap .i64 (y1+1)),y2,y3,y4))else none)
 else(some (Sum.inr (y0,y2,y3,y4)))
theorem spec_WorldOk_l2_of:OfL spec_WorldOk_k2 spec_WorldOk_l2:=ofL 69 2
def spec_WorldOk_l4:rL spec_WorldOk_k4:=fun D L (y0,y1,y2,y3,y4)=>
 bif (decide (y1<(y4.length:Int)))then(bif inb y1 y4.length then
 let e14:=(rd1 zSaid y4 y1);
 (spec_l1In D (e14.1,0,(IntKind.wrap .i64 (y0 - 1)))).bind fun r15=>
 bif (!r15)then(some (Sum.inl false))
 else(bif inb y1 y4.length then
 let e16:=(rd1 zSaid y4 y1);
 (spec_StateOk D e16.2).bind fun r17=>
 bif (!r17)then(some (Sum.inl false))
 else(spec_WorldOk_k4 L (y0,(IntKind.wrap .i64 (y1+1)),y2,y3,y4))else none)else none)
 else(some (Sum.inr ()))
theorem spec_WorldOk_l4_of:OfL spec_WorldOk_k4 spec_WorldOk_l4:=ofL 69 4
def spec_WorldOk_raw:rF spec_WorldOk:=fun D L (a0,a1,a2)=>
 (spec_l1In D ((a0.length:Int),1,5)).bind fun r1=>
 bif (!r1)then(some false)
 else(bif (decide (12<(a1.length:Int)))then(some false)
 else(bif (decide (40<(a2.length:Int)))then(some false)
 else((spec_WorldOk_k0 L ((a0.length:Int),0,a0,a1,a2)).bind fun z6=>
 elimS z6 (fun u7=>
 some u7)
 (fun z8=>
 (spec_WorldOk_k2 L (z8.1,0,z8.2)).bind fun z11=>
 elimS z11 (fun u12=>
 some u12)
 (fun z13=>
 (spec_WorldOk_k4 L (z13.1,0,z13.2)).bind fun z18=>
 elimS z18 (fun u19=>
 some u19)
 (fun z20=>
 some true))))))
theorem spec_WorldOk_of:OfF spec_WorldOk spec_WorldOk_raw:=ofF 69
def laws_szState_raw:rF laws_szState:=fun D L (a0,a1,a2)=>
 (laws_szItemS D (a0,a2)).bind fun r1=>
 bif (decide (r1<0))then(some (-1))
 else((laws_szFloorS D (a1,r1)).bind fun r2=>
 bif (decide (r2<0))then(some (-1))
 else(some r2))
theorem laws_szState_of:OfF laws_szState laws_szState_raw:=ofF 70
def laws_szTree_raw:rF laws_szTree:=fun D L (a0,a1,a2)=>
 (laws_szIntS D (a0,a2)).bind fun r1=>
 bif (decide (r1<0))then(some (-1))
 else(some r1)
theorem laws_szTree_of:OfF laws_szTree laws_szTree_raw:=ofF 71
def laws_szLog_raw:rF laws_szLog:=fun D L (a0,a1,a2,a3)=>
 (laws_szStateS D (a2,a3)).bind fun r1=>
 bif (decide (r1<0))then(some (-1))
 else(some r1)
theorem laws_szLog_of:OfF laws_szLog laws_szLog_raw:=ofF 72
def laws_szIntS_raw:rF laws_szIntS:=fun D L (a0,a1)=>
 bif (decide ((IntKind.wrap .i64 (a1 - (a0.length:Int)))<0))then(some (-1))
 else(some (IntKind.wrap .i64 (a1 - (a0.length:Int))))
theorem laws_szIntS_of:OfF laws_szIntS laws_szIntS_raw:=ofF 73
def laws_szIntSS_l0:rL laws_szIntSS_k0:=fun D L (y0,y1,y2)=>
 bif (decide (y2<(y0.length:Int)))then(bif inb y2 y0.length then
 (laws_szIntS D ((rd1 ([]:List Int) y0 y2),y1)).bind fun r1=>
 bif (decide (r1<0))then(some (Sum.inl (-1)))
 else(laws_szIntSS_k0 L (y0,r1,(IntKind.wrap .i64 (y2+1))))else none)
 else(some (Sum.inr y1))
theorem laws_szIntSS_l0_of:OfL laws_szIntSS_k0 laws_szIntSS_l0:=ofL 74 0
def laws_szIntSS_raw:rF laws_szIntSS:=fun D L (a0,a1)=>
 bif (decide ((IntKind.wrap .i64 (a1 - (a0.length:Int)))<0))then(some (-1))
 else((laws_szIntSS_k0 L (a0,(IntKind.wrap .i64 (a1 - (a0.length:Int))),0)).bind fun z2=>
 elimS z2 (fun u3=>
 some u3)
 (fun z4=>
 some z4))
theorem laws_szIntSS_of:OfF laws_szIntSS laws_szIntSS_raw:=ofF 74
def laws_szSessS_raw:rF laws_szSessS:=fun D L (a0,a1)=>
 bif (decide ((IntKind.wrap .i64 (a1 - (a0.length:Int)))<0))then(some (-1))
 else(some (IntKind.wrap .i64 (a1 - (a0.length:Int))))
theorem laws_szSessS_of:OfF laws_szSessS laws_szSessS_raw:=ofF 75
def laws_szRiseS_raw:rF laws_szRiseS:=fun D L (a0,a1)=>
 bif (decide ((IntKind.wrap .i64 (a1 - (a0.length:Int)))<0))then(some (-1))
 else(some (IntKind.wrap .i64 (a1 - (a0.length:Int))))
theorem laws_szRiseS_of:OfF laws_szRiseS laws_szRiseS_raw:=ofF 76
def spec_l11Copy_raw:rF spec_l11Copy:=fun D L (a0,a1,a2,a3,a4,a5,a6,a7,a8,a9,a10,a11,a12,a13,a14,a15,a16,a17,a18)=>
 (spec_l3Copy D (a2,a3)).bind fun r1=>
 (spec_l6Copy D (a4,a5)).bind fun r2=>
 (spec_l7Copy D (a6,a7,a8)).bind fun r3=>
 bif fits (List.length ([]:List Int)+a9.length) 8 then
 bif fits (List.length ([]:List Int)+a10.length) 8 then
 (spec_l9Copy D a11).bind fun r4=>
 bif fits (List.length ([]:List XSess)+a14.length) 32 then
 bif fits (List.length ([]:List XRise)+a18.length) 24 then
 some (a0,a1,r1.1,r1.2,r2.1,r2.2,r3.1,r3.2.1,r3.2.2,(([]:List Int)++a9),(([]:List Int)++a10),r4,a12,a13,(([]:List XSess)++a14),a15,a16,a17,(([]:List XRise)++a18))else none else none else none else none
theorem spec_l11Copy_of:OfF spec_l11Copy spec_l11Copy_raw:=ofF 77
def spec_NodeOk_l0:rL spec_NodeOk_k0:=fun D L (y0,y1,y2,y3,y4,y5,y6,y7,y8,y9,y10,y11,y12,y13,y14,y15,y16,y17,y18,y19)=>
 bif (decide (y0<y2))then(bif inb y0 y11.length then
 (spec_LogSeq D (y7,y8,y9)).bind fun r11=>
 bif (decide (r11<(rd1 (0:Int) y11 y0)))then(some (Sum.inl false))
 else(spec_NodeOk_k0 L ((IntKind.wrap .i64 (y0+1)),y1,y2,y3,y4,y5,y6,y7,y8,y9,y10,y11,y12,y13,y14,y15,y16,y17,y18,y19))else none)
 else(some (Sum.inr (y1,y2,y3,y4,y5,y6,y7,y8,y9,y10,y11,y12,y13,y14,y15,y16,y17,y18,y19)))
theorem spec_NodeOk_l0_of:OfL spec_NodeOk_k0 spec_NodeOk_l0:=ofL 78 0
def spec_NodeOk_l2:rL spec_NodeOk_k2:=fun D L (y0,y1,y2,y3,y4,y5,y6,y7,y8,y9,y10,y11,y12,y13,y14,y15,y16,y17,y18,y19)=>
 bif (decide (y0<5))then(bif inb y0 y19.length then
 let e20:=(rd1 zRise y19 y0);
 (spec_l1In D (e20.1,0,1000)).bind fun r21=>
 bif (!r21)then(some (Sum.inl false))
 else((spec_l1In D (e20.2.1,0,100000)).bind fun r22=>
 bif (!r22)then(some (Sum.inl false))
 else((spec_l1In D (e20.2.2,0,y18)).bind fun r23=>
 bif (!r23)then(some (Sum.inl false))
 else(spec_NodeOk_k2 L ((IntKind.wrap .i64 (y0+1)),y1,y2,y3,y4,y5,y6,y7,y8,y9,y10,y11,y12,y13,y14,y15,y16,y17,y18,y19))))else none)
 else(some (Sum.inr (y1,y2,y3,y4,y5,y6,y7,y8,y9,y10,y11,y12,y13,y14,y15,y16,y17,y18,y19)))
theorem spec_NodeOk_l2_of:OfL spec_NodeOk_k2 spec_NodeOk_l2:=ofL 78 2
def spec_NodeOk_raw:rF spec_NodeOk:=fun D L (a0,a1,a2,a3,a4,a5,a6,a7,a8,a9,a10,a11,a12,a13,a14,a15,a16,a17,a18)=>
 (spec_l1In D (a1,1,5)).bind fun r1=>
 bif (!r1)then(some false)
 else((spec_l1In D (a0,0,(IntKind.wrap .i64 (a1 - 1)))).bind fun r2=>
 bif (!r2)then(some false)
 else((spec_StateOk D (a2,a3)).bind fun r3=>
 bif (!r3)then(some false)
 else((spec_TreeOf D (a2,a3)).bind fun r4=>
 (spec_l11Tree D (a4,a5,r4)).bind fun r5=>
 bif (!r5)then(some false)
 else((spec_LogOk D (a6,a7,a8)).bind fun r6=>
 bif (!r6)then(some false)
 else((spec_VecOk D (a9,a1)).bind fun r7=>
 bif (!r7)then(some false)
 else((spec_VecOk D (a10,a1)).bind fun r8=>
 bif (!r8)then(some false)
 else(bif inb a0 a9.length then
 (spec_LogSeq D (a6,a7,a8)).bind fun r9=>
 bif (!decide ((rd1 (0:Int) a9 a0)=r9))then(some false)
 else((spec_TableOk D (a11,a1)).bind fun r10=>
 bif (!r10)then(some false)
 else((spec_NodeOk_k0 L (0,a0,a1,a2,a3,a4,a5,a6,a7,a8,a9,a10,a11,a12,a13,a14,a15,a16,a17,a18)).bind fun z12=>
 elimS z12 (fun u13=>
 some u13)
 (fun z14=>
 (spec_l1In D (z14.2.2.2.2.2.2.2.2.2.2.2.2.1,0,100000)).bind fun r15=>
 bif (!r15)then(some false)
 else((spec_l1In D (z14.2.2.2.2.2.2.2.2.2.2.2.2.2.2.2.2.2.1,0,100000)).bind fun r16=>
 bif (!r16)then(some false)
 else((spec_l1In D (z14.2.2.2.2.2.2.2.2.2.2.2.2.2.1,1,4)).bind fun r17=>
 bif (!r17)then(some false)
 else((spec_l1In D (z14.2.2.2.2.2.2.2.2.2.2.2.2.2.2.2.1,1,20)).bind fun r18=>
 bif (!r18)then(some false)
 else((spec_l1In D (z14.2.2.2.2.2.2.2.2.2.2.2.2.2.2.2.2.1,1,50)).bind fun r19=>
 bif (!r19)then(some false)
 else(bif (!decide ((z14.2.2.2.2.2.2.2.2.2.2.2.2.2.2.2.2.2.2.length:Int)=5))then(some false)
 else((spec_NodeOk_k2 L (0,z14)).bind fun z24=>
 elimS z24 (fun u25=>
 some u25)
 (fun z26=>
 (spec_l11Sess D z26).bind fun r27=>
 some r27))))))))))else none)))))))
theorem spec_NodeOk_of:OfF spec_NodeOk spec_NodeOk_raw:=ofF 78
def spec_LogDrop_raw:rF spec_LogDrop:=fun D L (a0,a1,a2,a3)=>
 (spec_l7Copy D (a0,a1,a2)).bind fun r1=>
 (spec_LogOk D (a0,a1,a2)).bind fun r2=>
 bif (!r2)then(some r1)
 else((spec_l1In D (a3,a1,(IntKind.wrap .i64 (a1+(a2.length:Int))))).bind fun r3=>
 bif (!r3)then(some r1)
 else(bif decide ((0:Int)≤(IntKind.wrap .i64 (a3 - a1))∧(IntKind.wrap .i64 (a3 - a1))≤((r1.2.2.length:Int):Int)∧(r1.2.2.length:Int)≤(r1.2.2.length:Int))then
 bif fits (List.length ([]:List XState)+List.length (List.take (Int.toNat ((r1.2.2.length:Int) - (IntKind.wrap .i64 (a3 - a1)))) (List.drop (Int.toNat (IntKind.wrap .i64 (a3 - a1))) r1.2.2))) 48 then
 some (r1.1,a3,(([]:List XState)++List.take (Int.toNat ((r1.2.2.length:Int) - (IntKind.wrap .i64 (a3 - a1)))) (List.drop (Int.toNat (IntKind.wrap .i64 (a3 - a1))) r1.2.2)))else none else none))
theorem spec_LogDrop_of:OfF spec_LogDrop spec_LogDrop_raw:=ofF 79
def spec_Safe_l0:rL spec_Safe_k0:=fun D L (y0,y1,y2,y3,y4,y5,y6,y7,y8,y9,y10,y11,y12,y13,y14,y15,y16,y17,y18,y19,y20)=>
 bif (decide (y1<y3))then(bif (!decide (y1=y2))then(bif inb y1 y12.length then
 (spec_l1Min D (y0,(rd1 (0:Int) y12 y1))).bind fun r3=>
 spec_Safe_k0 L (r3,(IntKind.wrap .i64 (y1+1)),y2,y3,y4,y5,y6,y7,y8,y9,y10,y11,y12,y13,y14,y15,y16,y17,y18,y19,y20)else none)
 else(spec_Safe_k0 L (y0,(IntKind.wrap .i64 (y1+1)),y2,y3,y4,y5,y6,y7,y8,y9,y10,y11,y12,y13,y14,y15,y16,y17,y18,y19,y20)))
 else(some y0)
theorem spec_Safe_l0_of:OfL spec_Safe_k0 spec_Safe_l0:=ofL 80 0
def spec_Safe_raw:rF spec_Safe:=fun D L (a0,a1,a2,a3,a4,a5,a6,a7,a8,a9,a10,a11,a12,a13,a14,a15,a16,a17,a18)=>
 (spec_NodeOk D (a0,a1,a2,a3,a4,a5,a6,a7,a8,a9,a10,a11,a12,a13,a14,a15,a16,a17,a18)).bind fun r1=>
 bif (!r1)then(some 0)
 else((spec_LogSeq D (a6,a7,a8)).bind fun r2=>
 (spec_Safe_k0 L (r2,0,a0,a1,a2,a3,a4,a5,a6,a7,a8,a9,a10,a11,a12,a13,a14,a15,a16,a17,a18)).bind fun z4=>
 some z4)
theorem spec_Safe_of:OfF spec_Safe spec_Safe_raw:=ofF 80
def laws_toState_raw:rF laws_toState:=fun D L (a0,a1)=>
 (laws_toItemS D a0).bind fun r1=>
 (laws_toFloorS D a1).bind fun r2=>
 some (r1,r2)
theorem laws_toState_of:OfF laws_toState laws_toState_raw:=ofF 81
def laws_toTree_raw:rF laws_toTree:=fun D L (a0,a1)=>
 (laws_toIntS D a0).bind fun r1=>
 some (r1,a1)
theorem laws_toTree_of:OfF laws_toTree laws_toTree_raw:=ofF 82
def laws_toLog_raw:rF laws_toLog:=fun D L (a0,a1,a2)=>
 (laws_toStateS D a2).bind fun r1=>
 some (a0,a1,r1)
theorem laws_toLog_of:OfF laws_toLog laws_toLog_raw:=ofF 83
def laws_toIntS_l0:rL laws_toIntS_k0:=fun D L (y0,y1,y2)=>
 bif (decide (y1<(y0.length:Int)))then(bif inb y1 y0.length then
 bif inb y1 y2.length then
 let l1:=List.set y2 (Int.toNat y1) (rd1 (0:Int) y0 y1);
 laws_toIntS_k0 L (y0,(IntKind.wrap .i64 (y1+1)),l1)else none else none)
 else(some y2)
theorem laws_toIntS_l0_of:OfL laws_toIntS_k0 laws_toIntS_l0:=ofL 84 0
def laws_toIntS_raw:rF laws_toIntS:=fun D L a0=>
 bif (decide ((0:Int)≤(a0.length:Int)∧((a0.length:Int):Int)=(a0.length:Int))&&fits (Int.toNat (a0.length:Int)) 8)then
 (laws_toIntS_k0 L (a0,0,(List.replicate (Int.toNat (a0.length:Int)) 0))).bind fun z2=>
 some z2 else none
theorem laws_toIntS_of:OfF laws_toIntS laws_toIntS_raw:=ofF 84
def laws_toIntSS_l0:rL laws_toIntSS_k0:=fun D L (y0,y1,y2)=>
 bif (decide (y1<(y0.length:Int)))then(bif inb y1 y0.length then
 (laws_toIntS D (rd1 ([]:List Int) y0 y1)).bind fun r1=>
 bif inb y1 y2.length then
 let l2:=List.set y2 (Int.toNat y1) r1;
 laws_toIntSS_k0 L (y0,(IntKind.wrap .i64 (y1+1)),l2)else none else none)
 else(some y2)
theorem laws_toIntSS_l0_of:OfL laws_toIntSS_k0 laws_toIntSS_l0:=ofL 85 0
def laws_toIntSS_raw:rF laws_toIntSS:=fun D L a0=>
 bif (decide ((0:Int)≤(a0.length:Int)∧((a0.length:Int):Int)=(a0.length:Int))&&fits (Int.toNat (a0.length:Int)) 24)then
 (laws_toIntSS_k0 L (a0,0,(List.replicate (Int.toNat (a0.length:Int)) []))).bind fun z3=>
 some z3 else none
theorem laws_toIntSS_of:OfF laws_toIntSS laws_toIntSS_raw:=ofF 85
def laws_toSessS_l0:rL laws_toSessS_k0:=fun D L (y0,y1,y2)=>
 bif (decide (y1<(y0.length:Int)))then(bif inb y1 y0.length then
 let e1:=(rd1 zSess y0 y1);
 (laws_toSess D e1).bind fun r2=>
 bif inb y1 y2.length then
 let l3:=List.set y2 (Int.toNat y1) r2;
 laws_toSessS_k0 L (y0,(IntKind.wrap .i64 (y1+1)),l3)else none else none)
 else(some y2)
theorem laws_toSessS_l0_of:OfL laws_toSessS_k0 laws_toSessS_l0:=ofL 86 0
def laws_toSessS_raw:rF laws_toSessS:=fun D L a0=>
 bif (decide ((0:Int)≤(a0.length:Int)∧((a0.length:Int):Int)=(a0.length:Int))&&fits (Int.toNat (a0.length:Int)) 32)then
 (laws_toSessS_k0 L (a0,0,(List.replicate (Int.toNat (a0.length:Int)) (0,0,false,0)))).bind fun z4=>
 some z4 else none
theorem laws_toSessS_of:OfF laws_toSessS laws_toSessS_raw:=ofF 86
def laws_toRiseS_l0:rL laws_toRiseS_k0:=fun D L (y0,y1,y2)=>
 bif (decide (y1<(y0.length:Int)))then(bif inb y1 y0.length then
 let e1:=(rd1 zRise y0 y1);
 (laws_toRise D e1).bind fun r2=>
 bif inb y1 y2.length then
 let l3:=List.set y2 (Int.toNat y1) r2;
 laws_toRiseS_k0 L (y0,(IntKind.wrap .i64 (y1+1)),l3)else none else none)
 else(some y2)
theorem laws_toRiseS_l0_of:OfL laws_toRiseS_k0 laws_toRiseS_l0:=ofL 87 0
def laws_toRiseS_raw:rF laws_toRiseS:=fun D L a0=>
 bif (decide ((0:Int)≤(a0.length:Int)∧((a0.length:Int):Int)=(a0.length:Int))&&fits (Int.toNat (a0.length:Int)) 24)then
 (laws_toRiseS_k0 L (a0,0,(List.replicate (Int.toNat (a0.length:Int)) (0,0,0)))).bind fun z4=>
 some z4 else none
theorem laws_toRiseS_of:OfF laws_toRiseS laws_toRiseS_raw:=ofF 87
def impl_copyNode_raw:rF impl_copyNode:=fun D L (a0,a1,a2,a3,a4,a5,a6,a7,a8,a9,a10,a11,a12,a13,a14,a15,a16,a17,a18)=>
 (impl_copyState D (a2,a3)).bind fun r1=>
 (impl_copyTree D (a4,a5)).bind fun r2=>
 (impl_copyLog D (a6,a7,a8)).bind fun r3=>
 (impl_copyInts D a9).bind fun r4=>
 (impl_copyInts D a10).bind fun r5=>
 (impl_copyTable D a11).bind fun r6=>
 bif fits (List.length ([]:List XSess)+a14.length) 32 then
 bif fits (List.length ([]:List XRise)+a18.length) 24 then
 some (a0,a1,r1.1,r1.2,r2.1,r2.2,r3.1,r3.2.1,r3.2.2,r4,r5,r6,a12,a13,(([]:List XSess)++a14),a15,a16,a17,(([]:List XRise)++a18))else none else none
theorem impl_copyNode_of:OfF impl_copyNode impl_copyNode_raw:=ofF 88
def impl_Safe_l0:rL impl_Safe_k0:=fun D L (y0,y1,y2,y3,y4,y5,y6,y7,y8,y9,y10,y11,y12,y13,y14,y15,y16,y17,y18,y19,y20,y21,y22)=>
 bif (decide (y3<y2))then(bif inb y3 y1.length then
 bif (!decide (y3=y4))then(impl_Safe_k0 L ((mnI y0 (rd1 (0:Int) y1 y3)),y1,y2,(IntKind.wrap .i64 (y3+1)),y4,y5,y6,y7,y8,y9,y10,y11,y12,y13,y14,y15,y16,y17,y18,y19,y20,y21,y22))
 else(impl_Safe_k0 L (y0,y1,y2,(IntKind.wrap .i64 (y3+1)),y4,y5,y6,y7,y8,y9,y10,y11,y12,y13,y14,y15,y16,y17,y18,y19,y20,y21,y22))else none)
 else(some y0)
theorem impl_Safe_l0_of:OfL impl_Safe_k0 impl_Safe_l0:=ofL 89 0
def impl_Safe_raw:rF impl_Safe:=fun D L (a0,a1,a2,a3,a4,a5,a6,a7,a8,a9,a10,a11,a12,a13,a14,a15,a16,a17,a18)=>
 (impl_NodeOk D (a0,a1,a2,a3,a4,a5,a6,a7,a8,a9,a10,a11,a12,a13,a14,a15,a16,a17,a18)).bind fun r1=>
 bif (!r1)then(some 0)
 else((impl_LogSeq D (a6,a7,a8)).bind fun r2=>
 (impl_Safe_k0 L (r2,a10,(a10.length:Int),0,a0,a1,a2,a3,a4,a5,a6,a7,a8,a9,a10,a11,a12,a13,a14,a15,a16,a17,a18)).bind fun z3=>
 some z3)
theorem impl_Safe_of:OfF impl_Safe impl_Safe_raw:=ofF 89
def impl_NodeOk_raw:rF impl_NodeOk:=fun D L (a0,a1,a2,a3,a4,a5,a6,a7,a8,a9,a10,a11,a12,a13,a14,a15,a16,a17,a18)=>
 (impl_within D (a1,1,5)).bind fun r1=>
 bif (!r1)then(some false)
 else((impl_within D (a0,0,(IntKind.wrap .i64 (a1 - 1)))).bind fun r2=>
 bif (!r2)then(some false)
 else((impl_StateOk D (a2,a3)).bind fun r3=>
 bif (!r3)then(some false)
 else((impl_TreeOf D (a2,a3)).bind fun r4=>
 (impl_treeSame D (a4,a5,r4)).bind fun r5=>
 bif (!r5)then(some false)
 else((impl_LogSeq D (a6,a7,a8)).bind fun r6=>
 (impl_LogOk D (a6,a7,a8)).bind fun r7=>
 bif (!r7)then(some false)
 else((impl_VecOk D (a9,a1)).bind fun r8=>
 bif (!r8)then(some false)
 else((impl_VecOk D (a10,a1)).bind fun r9=>
 bif (!r9)then(some false)
 else(bif inb a0 a9.length then
 bif (!decide ((rd1 (0:Int) a9 a0)=r6))then(some false)
 else((slices_Maxint_int D a10).bind fun r10=>
 bif (decide (r6<r10))then(some false)
 else((impl_TableOk D (a11,a1)).bind fun r11=>
 bif (!r11)then(some false)
 else((impl_within D (a12,0,100000)).bind fun r12=>
 bif (!r12)then(some false)
 else((impl_within D (a17,0,100000)).bind fun r13=>
 bif (!r13)then(some false)
 else((impl_within D (a15,1,20)).bind fun r14=>
 bif r14 then((impl_within D (a16,1,50)).bind fun r15=>
 bif r15 then((impl_sessOk D (a0,a1,a2,a3,a4,a5,a6,a7,a8,a9,a10,a11,a12,a13,a14,a15,a16,a17,a18)).bind fun r16=>
 bif r16 then((impl_risesOk D (a0,a1,a2,a3,a4,a5,a6,a7,a8,a9,a10,a11,a12,a13,a14,a15,a16,a17,a18)).bind fun r17=>
 some r17)
 else(some false))
 else(some false))
 else(some false))))))else none)))))))
theorem impl_NodeOk_of:OfF impl_NodeOk impl_NodeOk_raw:=ofF 90
def impl_LogDrop_raw:rF impl_LogDrop:=fun D L (a0,a1,a2,a3)=>
 (impl_copyLog D (a0,a1,a2)).bind fun r1=>
 (impl_LogOk D (a0,a1,a2)).bind fun r2=>
 bif (!r2)then(some r1)
 else((impl_LogSeq D (a0,a1,a2)).bind fun r3=>
 (impl_within D (a3,a1,r3)).bind fun r4=>
 bif (!r4)then(some r1)
 else(bif decide ((0:Int)≤(IntKind.wrap .i64 (a3 - a1))∧(IntKind.wrap .i64 (a3 - a1))≤((r1.2.2.length:Int):Int)∧(r1.2.2.length:Int)≤(r1.2.2.length:Int))then
 some (r1.1,a3,List.take (Int.toNat ((r1.2.2.length:Int) - (IntKind.wrap .i64 (a3 - a1)))) (List.drop (Int.toNat (IntKind.wrap .i64 (a3 - a1))) r1.2.2))else none))
theorem impl_LogDrop_of:OfF impl_LogDrop impl_LogDrop_raw:=ofF 91
def laws_eqState_raw:rF laws_eqState:=fun D L (a0,a1,a2,a3)=>
 (laws_eqItemS D (a0,a2)).bind fun r1=>
 bif (!r1)then(some false)
 else((laws_eqFloorS D (a1,a3)).bind fun r2=>
 bif (!r2)then(some false)
 else(some true))
theorem laws_eqState_of:OfF laws_eqState laws_eqState_raw:=ofF 92
def laws_eqTree_raw:rF laws_eqTree:=fun D L (a0,a1,a2,a3)=>
 (laws_eqIntS D (a0,a2)).bind fun r1=>
 bif (!r1)then(some false)
 else(bif (!decide (a1=a3))then(some false)
 else(some true))
theorem laws_eqTree_of:OfF laws_eqTree laws_eqTree_raw:=ofF 93
def laws_eqLog_raw:rF laws_eqLog:=fun D L (a0,a1,a2,a3,a4,a5)=>
 bif (!decide (a0=a3))then(some false)
 else(bif (!decide (a1=a4))then(some false)
 else((laws_eqStateS D (a2,a5)).bind fun r1=>
 bif (!r1)then(some false)
 else(some true)))
theorem laws_eqLog_of:OfF laws_eqLog laws_eqLog_raw:=ofF 94
def laws_eqIntSS_l0:rL laws_eqIntSS_k0:=fun D L (y0,y1,y2)=>
 bif (decide (y2<(y0.length:Int)))then(bif inb y2 y0.length then
 bif inb y2 y1.length then
 (laws_eqIntS D ((rd1 ([]:List Int) y0 y2),(rd1 ([]:List Int) y1 y2))).bind fun r1=>
 bif (!r1)then(some (Sum.inl false))
 else(laws_eqIntSS_k0 L (y0,y1,(IntKind.wrap .i64 (y2+1))))else none else none)
 else(some (Sum.inr ()))
theorem laws_eqIntSS_l0_of:OfL laws_eqIntSS_k0 laws_eqIntSS_l0:=ofL 95 0
def laws_eqIntSS_raw:rF laws_eqIntSS:=fun D L (a0,a1)=>
 bif (!decide ((a0.length:Int)=(a1.length:Int)))then(some false)
 else((laws_eqIntSS_k0 L (a0,a1,0)).bind fun z2=>
 elimS z2 (fun u3=>
 some u3)
 (fun z4=>
 some true))
theorem laws_eqIntSS_of:OfF laws_eqIntSS laws_eqIntSS_raw:=ofF 95
def laws_eqSessS_l0:rL laws_eqSessS_k0:=fun D L (y0,y1,y2)=>
 bif (decide (y2<(y0.length:Int)))then(bif inb y2 y0.length then
 let e1:=(rd1 zSess y0 y2);
 bif inb y2 y1.length then
 let e2:=(rd1 zSess y1 y2);
 (laws_eqSess D (e1.1,e1.2.1,e1.2.2.1,e1.2.2.2,e2)).bind fun r3=>
 bif (!r3)then(some (Sum.inl false))
 else(laws_eqSessS_k0 L (y0,y1,(IntKind.wrap .i64 (y2+1))))else none else none)
 else(some (Sum.inr ()))
theorem laws_eqSessS_l0_of:OfL laws_eqSessS_k0 laws_eqSessS_l0:=ofL 96 0
def laws_eqSessS_raw:rF laws_eqSessS:=fun D L (a0,a1)=>
 bif (!decide ((a0.length:Int)=(a1.length:Int)))then(some false)
 else((laws_eqSessS_k0 L (a0,a1,0)).bind fun z4=>
 elimS z4 (fun u5=>
 some u5)
 (fun z6=>
 some true))
theorem laws_eqSessS_of:OfF laws_eqSessS laws_eqSessS_raw:=ofF 96
def laws_eqRiseS_l0:rL laws_eqRiseS_k0:=fun D L (y0,y1,y2)=>
 bif (decide (y2<(y0.length:Int)))then(bif inb y2 y0.length then
 let e1:=(rd1 zRise y0 y2);
 bif inb y2 y1.length then
 let e2:=(rd1 zRise y1 y2);
 (laws_eqRise D (e1.1,e1.2.1,e1.2.2,e2)).bind fun r3=>
 bif (!r3)then(some (Sum.inl false))
 else(laws_eqRiseS_k0 L (y0,y1,(IntKind.wrap .i64 (y2+1))))else none else none)
 else(some (Sum.inr ()))
theorem laws_eqRiseS_l0_of:OfL laws_eqRiseS_k0 laws_eqRiseS_l0:=ofL 97 0
def laws_eqRiseS_raw:rF laws_eqRiseS:=fun D L (a0,a1)=>
 bif (!decide ((a0.length:Int)=(a1.length:Int)))then(some false)
 else((laws_eqRiseS_k0 L (a0,a1,0)).bind fun z4=>
 elimS z4 (fun u5=>
 some u5)
 (fun z6=>
 some true))
theorem laws_eqRiseS_of:OfF laws_eqRiseS laws_eqRiseS_raw:=ofF 97
def laws_markIntSS_l0:rL laws_markIntSS_k0:=fun D L (y0,y1,y2)=>
 bif (decide (y1<(y2.length:Int)))then(bif inb y1 y2.length then
 (laws_markIntS D ((rd1 ([]:List Int) y2 y1),y0)).bind fun r1=>
 let l2:=List.set y2 (Int.toNat y1) r1.2;
 laws_markIntSS_k0 L (r1.1,(IntKind.wrap .i64 (y1+1)),l2)else none)
 else(some (y0,y2))
theorem laws_markIntSS_l0_of:OfL laws_markIntSS_k0 laws_markIntSS_l0:=ofL 101 0
def laws_markIntSS_raw:rF laws_markIntSS:=fun D L (a0,a1)=>
 (laws_markIntSS_k0 L (a1,0,a0)).bind fun z3=>
 some z3
theorem laws_markIntSS_of:OfF laws_markIntSS laws_markIntSS_raw:=ofF 101
def laws_markSessS_l0:rL laws_markSessS_k0:=fun D L (y0,y1,y2)=>
 bif (decide (y1<(y2.length:Int)))then(bif inb y1 y2.length then
 let e1:=(rd1 zSess y2 y1);
 let l2:=List.set y2 (Int.toNat y1) (y0,e1.2);
 bif inb y1 l2.length then
 let e3:=(rd1 zSess l2 y1);
 let l4:=List.set l2 (Int.toNat y1) (e3.1,(IntKind.wrap .i64 (y0+1)),e3.2.2);
 bif decide ((3:Int)≠0)then
 bif inb y1 l4.length then
 let e5:=(rd1 zSess l4 y1);
 let l6:=List.set l4 (Int.toNat y1) (e5.1,e5.2.1,(decide ((Int.tmod (IntKind.wrap .i64 ((IntKind.wrap .i64 (y0+1))+1)) 3)=0)),e5.2.2.2);
 bif inb y1 l6.length then
 let e7:=(rd1 zSess l6 y1);
 let l8:=List.set l6 (Int.toNat y1) (e7.1,e7.2.1,e7.2.2.1,(IntKind.wrap .i64 ((IntKind.wrap .i64 ((IntKind.wrap .i64 (y0+1))+1))+1)));
 laws_markSessS_k0 L ((IntKind.wrap .i64 ((IntKind.wrap .i64 ((IntKind.wrap .i64 ((IntKind.wrap .i64 (y0+1))+1))+1))+1)),(IntKind.wrap .i64 (y1+1)),l8)else none else none else none else none else none)
 else(some (y0,y2))
theorem laws_markSessS_l0_of:OfL laws_markSessS_k0 laws_markSessS_l0:=ofL 102 0
def laws_markSessS_raw:rF laws_markSessS:=fun D L (a0,a1)=>
 (laws_markSessS_k0 L (a1,0,a0)).bind fun z9=>
 some z9
theorem laws_markSessS_of:OfF laws_markSessS laws_markSessS_raw:=ofF 102
def laws_markRiseS_l0:rL laws_markRiseS_k0:=fun D L (y0,y1,y2)=>
 bif (decide (y1<(y2.length:Int)))then(bif inb y1 y2.length then
 let e1:=(rd1 zRise y2 y1);
 let l2:=List.set y2 (Int.toNat y1) (y0,e1.2);
 bif inb y1 l2.length then
 let e3:=(rd1 zRise l2 y1);
 let l4:=List.set l2 (Int.toNat y1) (e3.1,(IntKind.wrap .i64 (y0+1)),e3.2.2);
 bif inb y1 l4.length then
 let e5:=(rd1 zRise l4 y1);
 let l6:=List.set l4 (Int.toNat y1) (e5.1,e5.2.1,(IntKind.wrap .i64 ((IntKind.wrap .i64 (y0+1))+1)));
 laws_markRiseS_k0 L ((IntKind.wrap .i64 ((IntKind.wrap .i64 ((IntKind.wrap .i64 (y0+1))+1))+1)),(IntKind.wrap .i64 (y1+1)),l6)else none else none else none)
 else(some (y0,y2))
theorem laws_markRiseS_l0_of:OfL laws_markRiseS_k0 laws_markRiseS_l0:=ofL 103 0
def laws_markRiseS_raw:rF laws_markRiseS:=fun D L (a0,a1)=>
 (laws_markRiseS_k0 L (a1,0,a0)).bind fun z7=>
 some z7
theorem laws_markRiseS_of:OfF laws_markRiseS laws_markRiseS_raw:=ofF 103
def laws_heldIntSS_l0:rL laws_heldIntSS_k0:=fun D L (y0,y1,y2)=>
 bif (decide (y2<(y0.length:Int)))then(bif inb y2 y0.length then
 (laws_heldIntS D ((rd1 ([]:List Int) y0 y2),y1)).bind fun r1=>
 bif (decide (r1<0))then(some (Sum.inl (-1)))
 else(laws_heldIntSS_k0 L (y0,r1,(IntKind.wrap .i64 (y2+1))))else none)
 else(some (Sum.inr y1))
theorem laws_heldIntSS_l0_of:OfL laws_heldIntSS_k0 laws_heldIntSS_l0:=ofL 107 0
def laws_heldIntSS_raw:rF laws_heldIntSS:=fun D L (a0,a1)=>
 (laws_heldIntSS_k0 L (a0,a1,0)).bind fun z2=>
 elimS z2 (fun u3=>
 some u3)
 (fun z4=>
 some z4)
theorem laws_heldIntSS_of:OfF laws_heldIntSS laws_heldIntSS_raw:=ofF 107
end
end Go.Proofs.YtjenicbpdklpbaaGreat.M
