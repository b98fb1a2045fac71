/- Plain forms of the functions that FnExactTrimAll reaches, part 3. No conditions. -/
import Derived.Test.YtjenicbpdklpbaaGreatFnExactTrimAllTab
set_option linter.all false
namespace Go.Proofs.YtjenicbpdklpbaaGreat.M
open Go Go.Eng Go.Proofs
set_option linter.unusedVariables false
noncomputable section
def impl_LogOk_l0:rL impl_LogOk_k0:=fun D L (y0,y1,y2,y3,y4,y5)=>
 bif (decide (y2<y1))then(bif inb y2 y0.length then
 let e1:=(rd1 zState y0 y2);
 (impl_StateOk D e1).bind fun r2=>
 bif (!r2)then(some (Sum.inl false))
 else(impl_LogOk_k0 L (y0,y1,(IntKind.wrap .i64 (y2+1)),y3,y4,y5))else none)
 else(some (Sum.inr (y3,y4,y5)))
theorem impl_LogOk_l0_of:OfL impl_LogOk_k0 impl_LogOk_l0:=ofL 142 0
def impl_LogOk_raw:rF impl_LogOk:=fun D L (a0,a1,a2)=>
 (impl_LogOk_k0 L (a2,(a2.length:Int),0,a0,a1,a2)).bind fun z3=>
 elimS z3 (fun u4=>
 some u4)
 (fun z5=>
 (impl_within D (z5.1,1,8)).bind fun r6=>
 bif r6 then(bif (decide ((z5.2.2.length:Int)≤z5.1))then((impl_within D (z5.2.1,0,100000)).bind fun r7=>
 bif r7 then(some (decide ((IntKind.wrap .i64 (z5.2.1+(z5.2.2.length:Int)))≤100000)))
 else(some false))
 else(some false))
 else(some false))
theorem impl_LogOk_of:OfF impl_LogOk impl_LogOk_raw:=ofF 142
def laws_eqPack_raw:rF laws_eqPack:=fun D L (a0,a1,a2,a3,a4,a5)=>
 bif (!decide (a0=a3))then(some false)
 else((laws_eqByteS D (a1,a4)).bind fun r1=>
 bif (!r1)then(some false)
 else(bif (!(a2==a5))then(some false)
 else(some true)))
theorem laws_eqPack_of:OfF laws_eqPack laws_eqPack_raw:=ofF 143
def laws_eqSaid_raw:rF laws_eqSaid:=fun D L (a0,a1,a2,a3,a4,a5)=>
 bif (!decide (a0=a3))then(some false)
 else((laws_eqState D (a1,a2,a4,a5)).bind fun r1=>
 bif (!r1)then(some false)
 else(some true))
theorem laws_eqSaid_of:OfF laws_eqSaid laws_eqSaid_raw:=ofF 144
def spec_StateOk_l0:rL spec_StateOk_k0:=fun D L (y0,y1,y2)=>
 bif (decide (y0<(y1.length:Int)))then(bif inb y0 y1.length then
 let e1:=(rd1 zItem y1 y0);
 (spec_l3Node D e1.1).bind fun r2=>
 bif (!r2)then(some (Sum.inl false))
 else(bif (decide (0<y0))then(bif inb (IntKind.wrap .i64 (y0 - 1)) y1.length then
 let e3:=(rd1 zItem y1 (IntKind.wrap .i64 (y0 - 1)));
 bif (decide (e1.1≤e3.1))then(some (Sum.inl false))
 else((spec_EntryOk D e1.2).bind fun r4=>
 bif (!r4)then(some (Sum.inl false))
 else((spec_FloorOf D (y1,y2,e1.1)).bind fun r5=>
 bif (decide (e1.2.1≤r5))then(some (Sum.inl false))
 else(spec_StateOk_k0 L ((IntKind.wrap .i64 (y0+1)),y1,y2))))else none)
 else((spec_EntryOk D e1.2).bind fun r6=>
 bif (!r6)then(some (Sum.inl false))
 else((spec_FloorOf D (y1,y2,e1.1)).bind fun r7=>
 bif (decide (e1.2.1≤r7))then(some (Sum.inl false))
 else(spec_StateOk_k0 L ((IntKind.wrap .i64 (y0+1)),y1,y2)))))else none)
 else(some (Sum.inr (y1,y2)))
theorem spec_StateOk_l0_of:OfL spec_StateOk_k0 spec_StateOk_l0:=ofL 145 0
def spec_StateOk_l2:rL spec_StateOk_k2:=fun D L (y0,y1,y2)=>
 bif (decide (y0<(y2.length:Int)))then(bif inb y0 y2.length then
 let e11:=(rd1 zFloor y2 y0);
 (spec_l3Node D e11.1).bind fun r12=>
 bif (!r12)then(some (Sum.inl false))
 else(bif (decide (0<y0))then(bif inb (IntKind.wrap .i64 (y0 - 1)) y2.length then
 let e13:=(rd1 zFloor y2 (IntKind.wrap .i64 (y0 - 1)));
 bif (decide (e11.1≤e13.1))then(some (Sum.inl false))
 else((spec_l1In D (e11.2,1,1000)).bind fun r14=>
 bif (!r14)then(some (Sum.inl false))
 else(spec_StateOk_k2 L ((IntKind.wrap .i64 (y0+1)),y1,y2)))else none)
 else((spec_l1In D (e11.2,1,1000)).bind fun r15=>
 bif (!r15)then(some (Sum.inl false))
 else(spec_StateOk_k2 L ((IntKind.wrap .i64 (y0+1)),y1,y2))))else none)
 else(some (Sum.inr ()))
theorem spec_StateOk_l2_of:OfL spec_StateOk_k2 spec_StateOk_l2:=ofL 145 2
def spec_StateOk_raw:rF spec_StateOk:=fun D L (a0,a1)=>
 (spec_StateOk_k0 L (0,a0,a1)).bind fun z8=>
 elimS z8 (fun u9=>
 some u9)
 (fun z10=>
 (spec_StateOk_k2 L (0,z10)).bind fun z16=>
 elimS z16 (fun u17=>
 some u17)
 (fun z18=>
 some true))
theorem spec_StateOk_of:OfF spec_StateOk spec_StateOk_raw:=ofF 145
def laws_szItemS_l0:rL laws_szItemS_k0:=fun D L (y0,y1,y2)=>
 bif (decide (y2<(y0.length:Int)))then(bif inb y2 y0.length then
 let e1:=(rd1 zItem y0 y2);
 (laws_szItem D (e1.1,e1.2.1,e1.2.2.1,e1.2.2.2.1,e1.2.2.2.2.1,e1.2.2.2.2.2,y1)).bind fun r2=>
 bif (decide (r2<0))then(some (Sum.inl (-1)))
 else(laws_szItemS_k0 L (y0,r2,(IntKind.wrap .i64 (y2+1))))else none)
 else(some (Sum.inr y1))
theorem laws_szItemS_l0_of:OfL laws_szItemS_k0 laws_szItemS_l0:=ofL 146 0
def laws_szItemS_raw:rF laws_szItemS:=fun D L (a0,a1)=>
 bif (decide ((IntKind.wrap .i64 (a1 - (a0.length:Int)))<0))then(some (-1))
 else((laws_szItemS_k0 L (a0,(IntKind.wrap .i64 (a1 - (a0.length:Int))),0)).bind fun z3=>
 elimS z3 (fun u4=>
 some u4)
 (fun z5=>
 some z5))
theorem laws_szItemS_of:OfF laws_szItemS laws_szItemS_raw:=ofF 146
def laws_szFloorS_raw:rF laws_szFloorS:=fun D L (a0,a1)=>
 bif (decide ((IntKind.wrap .i64 (a1 - (a0.length:Int)))<0))then(some (-1))
 else(some (IntKind.wrap .i64 (a1 - (a0.length:Int))))
theorem laws_szFloorS_of:OfF laws_szFloorS laws_szFloorS_raw:=ofF 147
def laws_szStateS_l0:rL laws_szStateS_k0:=fun D L (y0,y1,y2)=>
 bif (decide (y2<(y0.length:Int)))then(bif inb y2 y0.length then
 let e1:=(rd1 zState y0 y2);
 (laws_szState D (e1.1,e1.2,y1)).bind fun r2=>
 bif (decide (r2<0))then(some (Sum.inl (-1)))
 else(laws_szStateS_k0 L (y0,r2,(IntKind.wrap .i64 (y2+1))))else none)
 else(some (Sum.inr y1))
theorem laws_szStateS_l0_of:OfL laws_szStateS_k0 laws_szStateS_l0:=ofL 148 0
def laws_szStateS_raw:rF laws_szStateS:=fun D L (a0,a1)=>
 bif (decide ((IntKind.wrap .i64 (a1 - (a0.length:Int)))<0))then(some (-1))
 else((laws_szStateS_k0 L (a0,(IntKind.wrap .i64 (a1 - (a0.length:Int))),0)).bind fun z3=>
 elimS z3 (fun u4=>
 some u4)
 (fun z5=>
 some z5))
theorem laws_szStateS_of:OfF laws_szStateS laws_szStateS_raw:=ofF 148
def spec_l3Copy_raw:rF spec_l3Copy:=fun D L (a0,a1)=>
 bif fits (List.length ([]:List XItem)+a0.length) 56 then
 bif fits (List.length ([]:List XFloor)+a1.length) 16 then
 some ((([]:List XItem)++a0),(([]:List XFloor)++a1))else none else none
theorem spec_l3Copy_of:OfF spec_l3Copy spec_l3Copy_raw:=ofF 149
def spec_l6Copy_raw:rF spec_l6Copy:=fun D L (a0,a1)=>
 bif fits (List.length ([]:List Int)+a0.length) 8 then
 some ((([]:List Int)++a0),a1)else none
theorem spec_l6Copy_of:OfF spec_l6Copy spec_l6Copy_raw:=ofF 150
def spec_l7Copy_l0:rL spec_l7Copy_k0:=fun D L (y0,y1,y2,y3,y4,y5,y6)=>
 bif (decide (y0<(y3.length:Int)))then(bif inb y0 y3.length then
 let e1:=(rd1 zState y3 y0);
 (spec_l3Copy D e1).bind fun r2=>
 bif fits (y6.length+ [r2].length) 48 then
 spec_l7Copy_k0 L ((IntKind.wrap .i64 (y0+1)),y1,y2,y3,y4,y5,(y6++[r2]))else none else none)
 else(some (y4,y5,y6))
theorem spec_l7Copy_l0_of:OfL spec_l7Copy_k0 spec_l7Copy_l0:=ofL 151 0
def spec_l7Copy_raw:rF spec_l7Copy:=fun D L (a0,a1,a2)=>
 (spec_l7Copy_k0 L (0,a0,a1,a2,a0,a1,[])).bind fun z3=>
 some z3
theorem spec_l7Copy_of:OfF spec_l7Copy spec_l7Copy_raw:=ofF 151
def spec_l9Copy_l0:rL spec_l9Copy_k0:=fun D L (y0,y1,y2)=>
 bif (decide (y1<(y0.length:Int)))then(bif inb y1 y0.length then
 bif fits (List.length ([]:List Int)+List.length (rd1 ([]:List Int) y0 y1)) 8 then
 bif fits (y2.length+List.length ([(([]:List Int)++(rd1 ([]:List Int) y0 y1))]:List (List Int))) 24 then
 spec_l9Copy_k0 L (y0,(IntKind.wrap .i64 (y1+1)),(y2++([(([]:List Int)++(rd1 ([]:List Int) y0 y1))]:List (List Int))))else none else none else none)
 else(some y2)
theorem spec_l9Copy_l0_of:OfL spec_l9Copy_k0 spec_l9Copy_l0:=ofL 152 0
def spec_l9Copy_raw:rF spec_l9Copy:=fun D L a0=>
 (spec_l9Copy_k0 L (a0,0,[])).bind fun z1=>
 some z1
theorem spec_l9Copy_of:OfF spec_l9Copy spec_l9Copy_raw:=ofF 152
def spec_l11Tree_raw:rF spec_l11Tree:=fun D L (a0,a1,a2,a3)=>
 (spec_l1Same D (a0,a2)).bind fun r1=>
 bif r1 then(some (decide (a1=a3)))
 else(some false)
theorem spec_l11Tree_of:OfF spec_l11Tree spec_l11Tree_raw:=ofF 153
def spec_TreeOf_l0:rL spec_TreeOf_k0:=fun D L (y0,y1,y2,y3,y4)=>
 bif (decide (y0<4))then((spec_LeafSum D (y1,y2,y0)).bind fun r2=>
 bif fits (y3.length+ [r2].length) 8 then
 spec_TreeOf_k0 L ((IntKind.wrap .i64 (y0+1)),y1,y2,(y3++[r2]),y4)else none)
 else(some (y3,y4))
theorem spec_TreeOf_l0_of:OfL spec_TreeOf_k0 spec_TreeOf_l0:=ofL 154 0
def spec_TreeOf_raw:rF spec_TreeOf:=fun D L (a0,a1)=>
 (spec_StateOk D (a0,a1)).bind fun r1=>
 bif (!r1)then(some ([],0))
 else((spec_TreeOf_k0 L (0,a0,a1,[],0)).bind fun z3=>
 (spec_l6Root D z3.1).bind fun r4=>
 some (z3.1,r4))
theorem spec_TreeOf_of:OfF spec_TreeOf spec_TreeOf_raw:=ofF 154
def spec_VecOk_l0:rL spec_VecOk_k0:=fun D L (y0,y1,y2)=>
 bif (decide (y2<y1))then(bif inb y2 y0.length then
 (spec_l1In D ((rd1 (0:Int) y0 y2),0,100000)).bind fun r2=>
 bif (!r2)then(some (Sum.inl false))
 else(spec_VecOk_k0 L (y0,y1,(IntKind.wrap .i64 (y2+1))))else none)
 else(some (Sum.inr ()))
theorem spec_VecOk_l0_of:OfL spec_VecOk_k0 spec_VecOk_l0:=ofL 155 0
def spec_VecOk_raw:rF spec_VecOk:=fun D L (a0,a1)=>
 (spec_l1In D (a1,1,5)).bind fun r1=>
 bif (!r1)then(some false)
 else(bif (!decide ((a0.length:Int)=a1))then(some false)
 else((spec_VecOk_k0 L (a0,a1,0)).bind fun z3=>
 elimS z3 (fun u4=>
 some u4)
 (fun z5=>
 some true)))
theorem spec_VecOk_of:OfF spec_VecOk spec_VecOk_raw:=ofF 155
def spec_TableOk_l0:rL spec_TableOk_k0:=fun D L (y0,y1,y2)=>
 bif (decide (y2<y1))then(bif inb y2 y0.length then
 bif (!decide (((List.length (rd1 ([]:List Int) y0 y2)):Int)=5))then(some (Sum.inl false))
 else((spec_TableOk_k2 L (y0,y1,y2,0)).bind fun z3=>
 elimS z3 (fun u4=>
 some (Sum.inl u4))
 (fun z5=>
 spec_TableOk_k0 L (z5.1,z5.2.1,(IntKind.wrap .i64 (z5.2.2+1)))))else none)
 else(some (Sum.inr ()))
theorem spec_TableOk_l0_of:OfL spec_TableOk_k0 spec_TableOk_l0:=ofL 156 0
def spec_TableOk_l2:rL spec_TableOk_k2:=fun D L (y0,y1,y2,y3)=>
 bif inb y2 y0.length then
 bif (decide (y3<((List.length (rd1 ([]:List Int) y0 y2)):Int)))then(bif inb y2 y0.length then
 bif inb y3 (List.length (rd1 ([]:List Int) y0 y2))then
 (spec_l1In D ((rd1 (0:Int) (rd1 ([]:List Int) y0 y2) y3),0,1000)).bind fun r2=>
 bif (!r2)then(some (Sum.inl false))
 else(spec_TableOk_k2 L (y0,y1,y2,(IntKind.wrap .i64 (y3+1))))else none else none)
 else(some (Sum.inr (y0,y1,y2)))else none
theorem spec_TableOk_l2_of:OfL spec_TableOk_k2 spec_TableOk_l2:=ofL 156 2
def spec_TableOk_raw:rF spec_TableOk:=fun D L (a0,a1)=>
 (spec_l1In D (a1,1,5)).bind fun r1=>
 bif (!r1)then(some false)
 else(bif (!decide ((a0.length:Int)=a1))then(some false)
 else((spec_TableOk_k0 L (a0,a1,0)).bind fun z6=>
 elimS z6 (fun u7=>
 some u7)
 (fun z8=>
 some true)))
theorem spec_TableOk_of:OfF spec_TableOk spec_TableOk_raw:=ofF 156
def spec_l11Sess_l0:rL spec_l11Sess_k0:=fun D L (y0,y1,y2,y3,y4,y5,y6,y7,y8,y9,y10,y11,y12,y13,y14,y15,y16,y17,y18,y19)=>
 bif (decide (y0<(y15.length:Int)))then(bif inb y0 y15.length then
 let e1:=(rd1 zSess y15 y0);
 (spec_l1In D (e1.1,0,(IntKind.wrap .i64 (y2 - 1)))).bind fun r2=>
 bif (!r2)then(some (Sum.inl false))
 else(bif (decide (e1.1=y1))then(some (Sum.inl false))
 else((spec_l1In D (e1.2.1,0,100000)).bind fun r3=>
 bif (!r3)then(some (Sum.inl false))
 else((spec_l1In D (e1.2.2.2,0,y16)).bind fun r4=>
 bif (!r4)then(some (Sum.inl false))
 else((spec_l11Sess_k2 L (y0,0,e1.1,y1,(decide (e1.1=y1)),e1.2.1,r3,(!r3),e1.2.2.2,y16,r4,(!r4),y1,y2,y3,y4,y5,y6,y7,y8,y9,y10,y11,y12,y13,y14,y15,y16,y17,y18,y19,e1)).bind fun z7=>
 elimS z7 (fun u8=>
 some (Sum.inl u8))
 (fun z9=>
 spec_l11Sess_k0 L ((IntKind.wrap .i64 (z9.1+1)),z9.2.2.2.2.2.2.2.2.2.2.2.1,z9.2.2.2.2.2.2.2.2.2.2.2.2.1,z9.2.2.2.2.2.2.2.2.2.2.2.2.2.1,z9.2.2.2.2.2.2.2.2.2.2.2.2.2.2.1,z9.2.2.2.2.2.2.2.2.2.2.2.2.2.2.2.1,z9.2.2.2.2.2.2.2.2.2.2.2.2.2.2.2.2.1,z9.2.2.2.2.2.2.2.2.2.2.2.2.2.2.2.2.2.1,z9.2.2.2.2.2.2.2.2.2.2.2.2.2.2.2.2.2.2.1,z9.2.2.2.2.2.2.2.2.2.2.2.2.2.2.2.2.2.2.2.1,z9.2.2.2.2.2.2.2.2.2.2.2.2.2.2.2.2.2.2.2.2.1,z9.2.2.2.2.2.2.2.2.2.2.2.2.2.2.2.2.2.2.2.2.2.1,z9.2.2.2.2.2.2.2.2.2.2.2.2.2.2.2.2.2.2.2.2.2.2.1,z9.2.2.2.2.2.2.2.2.2.2.2.2.2.2.2.2.2.2.2.2.2.2.2.1,z9.2.2.2.2.2.2.2.2.2.2.2.2.2.2.2.2.2.2.2.2.2.2.2.2.1,z9.2.2.2.2.2.2.2.2.2.2.2.2.2.2.2.2.2.2.2.2.2.2.2.2.2.1,z9.2.2.2.2.2.2.2.2.2.2.2.2.2.2.2.2.2.2.2.2.2.2.2.2.2.2.1,z9.2.2.2.2.2.2.2.2.2.2.2.2.2.2.2.2.2.2.2.2.2.2.2.2.2.2.2.1,z9.2.2.2.2.2.2.2.2.2.2.2.2.2.2.2.2.2.2.2.2.2.2.2.2.2.2.2.2.1,z9.2.2.2.2.2.2.2.2.2.2.2.2.2.2.2.2.2.2.2.2.2.2.2.2.2.2.2.2.2.1))))))else none)
 else(some (Sum.inr ()))
theorem spec_l11Sess_l0_of:OfL spec_l11Sess_k0 spec_l11Sess_l0:=ofL 157 0
def spec_l11Sess_l2:rL spec_l11Sess_k2:=fun D L (y0,y1,y2,y3,y4,y5,y6,y7,y8,y9,y10,y11,y12,y13,y14,y15,y16,y17,y18,y19,y20,y21,y22,y23,y24,y25,y26,y27,y28,y29,y30,y31,y32,y33,y34)=>
 bif (decide (y1<y0))then(bif inb y1 y26.length then
 let e5:=(rd1 zSess y26 y1);
 bif (decide (e5.1=y31))then(bif inb y1 y26.length then
 let e6:=(rd1 zSess y26 y1);
 bif (e6.2.2.1==y33)then(some (Sum.inl false))
 else(spec_l11Sess_k2 L (y0,(IntKind.wrap .i64 (y1+1)),y2,y3,y4,y5,y6,y7,y8,y9,y10,y11,y12,y13,y14,y15,y16,y17,y18,y19,y20,y21,y22,y23,y24,y25,y26,y27,y28,y29,y30,y31,y32,y33,y34))else none)
 else(spec_l11Sess_k2 L (y0,(IntKind.wrap .i64 (y1+1)),y2,y3,y4,y5,y6,y7,y8,y9,y10,y11,y12,y13,y14,y15,y16,y17,y18,y19,y20,y21,y22,y23,y24,y25,y26,y27,y28,y29,y30,y31,y32,y33,y34))else none)
 else(some (Sum.inr (y0,y2,y3,y4,y5,y6,y7,y8,y9,y10,y11,y12,y13,y14,y15,y16,y17,y18,y19,y20,y21,y22,y23,y24,y25,y26,y27,y28,y29,y30,y31,y32,y33,y34)))
theorem spec_l11Sess_l2_of:OfL spec_l11Sess_k2 spec_l11Sess_l2:=ofL 157 2
def spec_l11Sess_raw:rF spec_l11Sess:=fun D L (a0,a1,a2,a3,a4,a5,a6,a7,a8,a9,a10,a11,a12,a13,a14,a15,a16,a17,a18)=>
 bif (decide (a13<(a14.length:Int)))then(some false)
 else((spec_l11Sess_k0 L (0,a0,a1,a2,a3,a4,a5,a6,a7,a8,a9,a10,a11,a12,a13,a14,a15,a16,a17,a18)).bind fun z10=>
 elimS z10 (fun u11=>
 some u11)
 (fun z12=>
 some true))
theorem spec_l11Sess_of:OfF spec_l11Sess spec_l11Sess_raw:=ofF 157
def spec_l1Min_raw:rF spec_l1Min:=fun D L (a0,a1)=>
 bif (decide (a0<a1))then(some a0)
 else(some a1)
theorem spec_l1Min_of:OfF spec_l1Min spec_l1Min_raw:=ofF 158
def laws_toItemS_l0:rL laws_toItemS_k0:=fun D L (y0,y1,y2)=>
 bif (decide (y1<(y0.length:Int)))then(bif inb y1 y0.length then
 let e1:=(rd1 zItem y0 y1);
 (laws_toItem D e1).bind fun r2=>
 bif inb y1 y2.length then
 let l3:=List.set y2 (Int.toNat y1) r2;
 laws_toItemS_k0 L (y0,(IntKind.wrap .i64 (y1+1)),l3)else none else none)
 else(some y2)
theorem laws_toItemS_l0_of:OfL laws_toItemS_k0 laws_toItemS_l0:=ofL 159 0
def laws_toItemS_raw:rF laws_toItemS:=fun D L a0=>
 bif (decide ((0:Int)≤(a0.length:Int)∧((a0.length:Int):Int)=(a0.length:Int))&&fits (Int.toNat (a0.length:Int)) 56)then
 (laws_toItemS_k0 L (a0,0,(List.replicate (Int.toNat (a0.length:Int)) (0,0,0,0,0,ByteArray.empty)))).bind fun z4=>
 some z4 else none
theorem laws_toItemS_of:OfF laws_toItemS laws_toItemS_raw:=ofF 159
def laws_toFloorS_l0:rL laws_toFloorS_k0:=fun D L (y0,y1,y2)=>
 bif (decide (y1<(y0.length:Int)))then(bif inb y1 y0.length then
 let e1:=(rd1 zFloor y0 y1);
 (laws_toFloor D e1).bind fun r2=>
 bif inb y1 y2.length then
 let l3:=List.set y2 (Int.toNat y1) r2;
 laws_toFloorS_k0 L (y0,(IntKind.wrap .i64 (y1+1)),l3)else none else none)
 else(some y2)
theorem laws_toFloorS_l0_of:OfL laws_toFloorS_k0 laws_toFloorS_l0:=ofL 160 0
def laws_toFloorS_raw:rF laws_toFloorS:=fun D L a0=>
 bif (decide ((0:Int)≤(a0.length:Int)∧((a0.length:Int):Int)=(a0.length:Int))&&fits (Int.toNat (a0.length:Int)) 16)then
 (laws_toFloorS_k0 L (a0,0,(List.replicate (Int.toNat (a0.length:Int)) (0,0)))).bind fun z4=>
 some z4 else none
theorem laws_toFloorS_of:OfF laws_toFloorS laws_toFloorS_raw:=ofF 160
def laws_toStateS_l0:rL laws_toStateS_k0:=fun D L (y0,y1,y2)=>
 bif (decide (y1<(y0.length:Int)))then(bif inb y1 y0.length then
 let e1:=(rd1 zState y0 y1);
 (laws_toState D e1).bind fun r2=>
 bif inb y1 y2.length then
 let l3:=List.set y2 (Int.toNat y1) r2;
 laws_toStateS_k0 L (y0,(IntKind.wrap .i64 (y1+1)),l3)else none else none)
 else(some y2)
theorem laws_toStateS_l0_of:OfL laws_toStateS_k0 laws_toStateS_l0:=ofL 161 0
def laws_toStateS_raw:rF laws_toStateS:=fun D L a0=>
 bif (decide ((0:Int)≤(a0.length:Int)∧((a0.length:Int):Int)=(a0.length:Int))&&fits (Int.toNat (a0.length:Int)) 48)then
 (laws_toStateS_k0 L (a0,0,(List.replicate (Int.toNat (a0.length:Int)) ([],[])))).bind fun z4=>
 some z4 else none
theorem laws_toStateS_of:OfF laws_toStateS laws_toStateS_raw:=ofF 161
def laws_toSess_raw:rF laws_toSess:=fun D L (a0,a1,a2,a3)=>
 some (a0,a1,a2,a3)
theorem laws_toSess_of:OfF laws_toSess laws_toSess_raw:=ofF 162
def laws_toRise_raw:rF laws_toRise:=fun D L (a0,a1,a2)=>
 some (a0,a1,a2)
theorem laws_toRise_of:OfF laws_toRise laws_toRise_raw:=ofF 163
def impl_copyState_raw:rF impl_copyState:=fun D L (a0,a1)=>
 bif fits (List.length ([]:List XItem)+a0.length) 56 then
 bif fits (List.length ([]:List XFloor)+a1.length) 16 then
 some ((([]:List XItem)++a0),(([]:List XFloor)++a1))else none else none
theorem impl_copyState_of:OfF impl_copyState impl_copyState_raw:=ofF 164
def impl_copyTree_raw:rF impl_copyTree:=fun D L (a0,a1)=>
 (impl_copyInts D a0).bind fun r1=>
 some (r1,a1)
theorem impl_copyTree_of:OfF impl_copyTree impl_copyTree_raw:=ofF 165
def impl_copyLog_l0:rL impl_copyLog_k0:=fun D L (y0,y1,y2,y3,y4,y5)=>
 bif (decide (y2<y1))then(bif inb y2 y0.length then
 let e1:=(rd1 zState y0 y2);
 (impl_copyState D e1).bind fun r2=>
 bif fits (y5.length+ [r2].length) 48 then
 impl_copyLog_k0 L (y0,y1,(IntKind.wrap .i64 (y2+1)),y3,y4,(y5++[r2]))else none else none)
 else(some (y3,y4,y5))
theorem impl_copyLog_l0_of:OfL impl_copyLog_k0 impl_copyLog_l0:=ofL 166 0
def impl_copyLog_raw:rF impl_copyLog:=fun D L (a0,a1,a2)=>
 (impl_copyLog_k0 L (a2,(a2.length:Int),0,a0,a1,[])).bind fun z3=>
 some z3
theorem impl_copyLog_of:OfF impl_copyLog impl_copyLog_raw:=ofF 166
def impl_copyInts_raw:rF impl_copyInts:=fun D L a0=>
 bif fits (List.length ([]:List Int)+a0.length) 8 then
 some (([]:List Int)++a0)else none
theorem impl_copyInts_of:OfF impl_copyInts impl_copyInts_raw:=ofF 167
def impl_copyTable_l0:rL impl_copyTable_k0:=fun D L (y0,y1,y2,y3)=>
 bif (decide (y2<y1))then(bif inb y2 y0.length then
 (impl_copyInts D (rd1 ([]:List Int) y0 y2)).bind fun r1=>
 bif fits (y3.length+List.length ([r1]:List (List Int))) 24 then
 impl_copyTable_k0 L (y0,y1,(IntKind.wrap .i64 (y2+1)),(y3++([r1]:List (List Int))))else none else none)
 else(some y3)
theorem impl_copyTable_l0_of:OfL impl_copyTable_k0 impl_copyTable_l0:=ofL 168 0
def impl_copyTable_raw:rF impl_copyTable:=fun D L a0=>
 (impl_copyTable_k0 L (a0,(a0.length:Int),0,[])).bind fun z2=>
 some z2
theorem impl_copyTable_of:OfF impl_copyTable impl_copyTable_raw:=ofF 168
def impl_treeSame_raw:rF impl_treeSame:=fun D L (a0,a1,a2,a3)=>
 (slices_Equalint_int D (a0,a2)).bind fun r1=>
 bif r1 then(some (decide (a1=a3)))
 else(some false)
theorem impl_treeSame_of:OfF impl_treeSame impl_treeSame_raw:=ofF 169
def impl_TreeOf_l0:rL impl_TreeOf_k0:=fun D L (y0,y1,y2,y3,y4)=>
 bif (decide (y0<4))then((impl_LeafSum D (y1,y2,y0)).bind fun r2=>
 bif fits (y3.length+ [r2].length) 8 then
 impl_TreeOf_k0 L ((IntKind.wrap .i64 (y0+1)),y1,y2,(y3++[r2]),y4)else none)
 else(some (y3,y4))
theorem impl_TreeOf_l0_of:OfL impl_TreeOf_k0 impl_TreeOf_l0:=ofL 170 0
def impl_TreeOf_raw:rF impl_TreeOf:=fun D L (a0,a1)=>
 (impl_StateOk D (a0,a1)).bind fun r1=>
 bif (!r1)then(some ([],0))
 else((impl_TreeOf_k0 L (0,a0,a1,[],0)).bind fun z3=>
 (impl_rootOf D z3.1).bind fun r4=>
 some (z3.1,r4))
theorem impl_TreeOf_of:OfF impl_TreeOf impl_TreeOf_raw:=ofF 170
def impl_VecOk_l0:rL impl_VecOk_k0:=fun D L (y0,y1,y2,y3,y4)=>
 bif (decide (y4<y3))then(bif inb y4 y2.length then
 (impl_within D ((rd1 (0:Int) y2 y4),0,100000)).bind fun r1=>
 bif (!r1)then(some (Sum.inl false))
 else(impl_VecOk_k0 L (y0,y1,y2,y3,(IntKind.wrap .i64 (y4+1))))else none)
 else(some (Sum.inr (y0,y1)))
theorem impl_VecOk_l0_of:OfL impl_VecOk_k0 impl_VecOk_l0:=ofL 171 0
def impl_VecOk_raw:rF impl_VecOk:=fun D L (a0,a1)=>
 (impl_VecOk_k0 L (a0,a1,a0,(a0.length:Int),0)).bind fun z2=>
 elimS z2 (fun u3=>
 some u3)
 (fun z4=>
 (impl_within D (z4.2,1,5)).bind fun r5=>
 bif r5 then(some (decide ((z4.1.length:Int)=z4.2)))
 else(some false))
theorem impl_VecOk_of:OfF impl_VecOk impl_VecOk_raw:=ofF 171
def slices_Maxint_int_l0:rL slices_Maxint_int_k0:=fun D L (y0,y1,y2)=>
 bif (decide (y2<(y0.length:Int)))then(bif inb y2 y0.length then
 slices_Maxint_int_k0 L (y0,(mxI y1 (rd1 (0:Int) y0 y2)),(IntKind.wrap .i64 (y2+1)))else none)
 else(some y1)
theorem slices_Maxint_int_l0_of:OfL slices_Maxint_int_k0 slices_Maxint_int_l0:=ofL 172 0
def slices_Maxint_int_raw:rF slices_Maxint_int:=fun D L a0=>
 bif (decide ((a0.length:Int)<1))then(none)
 else(bif inb 0 a0.length then
 (slices_Maxint_int_k0 L (a0,(rd1 (0:Int) a0 0),1)).bind fun z1=>
 some z1 else none)
theorem slices_Maxint_int_of:OfF slices_Maxint_int slices_Maxint_int_raw:=ofF 172
def impl_TableOk_l0:rL impl_TableOk_k0:=fun D L (y0,y1,y2,y3,y4)=>
 bif (decide (y4<y3))then(bif inb y4 y2.length then
 (impl_TableOk_k2 L (y0,y1,(rd1 ([]:List Int) y2 y4),y2,y3,y4,(rd1 ([]:List Int) y2 y4),((List.length (rd1 ([]:List Int) y2 y4)):Int),0)).bind fun z2=>
 elimS z2 (fun u3=>
 some (Sum.inl u3))
 (fun z4=>
 bif (!decide ((z4.2.2.1.length:Int)=5))then(some (Sum.inl false))
 else(impl_TableOk_k0 L (z4.1,z4.2.1,z4.2.2.2.1,z4.2.2.2.2.1,(IntKind.wrap .i64 (z4.2.2.2.2.2+1)))))else none)
 else(some (Sum.inr (y0,y1)))
theorem impl_TableOk_l0_of:OfL impl_TableOk_k0 impl_TableOk_l0:=ofL 173 0
def impl_TableOk_l2:rL impl_TableOk_k2:=fun D L (y0,y1,y2,y3,y4,y5,y6,y7,y8)=>
 bif (decide (y8<y7))then(bif inb y8 y6.length then
 (impl_within D ((rd1 (0:Int) y6 y8),0,1000)).bind fun r1=>
 bif (!r1)then(some (Sum.inl false))
 else(impl_TableOk_k2 L (y0,y1,y2,y3,y4,y5,y6,y7,(IntKind.wrap .i64 (y8+1))))else none)
 else(some (Sum.inr (y0,y1,y2,y3,y4,y5)))
theorem impl_TableOk_l2_of:OfL impl_TableOk_k2 impl_TableOk_l2:=ofL 173 2
def impl_TableOk_raw:rF impl_TableOk:=fun D L (a0,a1)=>
 (impl_TableOk_k0 L (a0,a1,a0,(a0.length:Int),0)).bind fun z5=>
 elimS z5 (fun u6=>
 some u6)
 (fun z7=>
 (impl_within D (z7.2,1,5)).bind fun r8=>
 bif r8 then(some (decide ((z7.1.length:Int)=z7.2)))
 else(some false))
theorem impl_TableOk_of:OfF impl_TableOk impl_TableOk_raw:=ofF 173
def impl_sessOk_l0:rL impl_sessOk_k0:=fun D L (y0,y1,y2,y3,y4,y5,y6,y7,y8,y9,y10,y11,y12,y13,y14,y15,y16,y17,y18,y19,y20,y21)=>
 bif (decide (y2<y1))then(bif inb y2 y0.length then
 let e1:=(rd1 zSess y0 y2);
 (impl_isPeer D (y3,y4,y5,y6,y7,y8,y9,y10,y11,y12,y13,y14,y15,y16,y17,y18,y19,y20,y21,e1.1)).bind fun r2=>
 bif (!r2)then(some (Sum.inl false))
 else((impl_within D (e1.2.1,0,100000)).bind fun r3=>
 bif (!r3)then(some (Sum.inl false))
 else((impl_within D (e1.2.2.2,0,y18)).bind fun r4=>
 bif (!r4)then(some (Sum.inl false))
 else((impl_Slot D (y3,y4,y5,y6,y7,y8,y9,y10,y11,y12,y13,y14,y15,y16,y17,y18,y19,y20,y21,e1.1,e1.2.2.1)).bind fun r5=>
 bif (!decide (r5=y2))then(some (Sum.inl false))
 else(impl_sessOk_k0 L (y0,y1,(IntKind.wrap .i64 (y2+1)),y3,y4,y5,y6,y7,y8,y9,y10,y11,y12,y13,y14,y15,y16,y17,y18,y19,y20,y21)))))else none)
 else(some (Sum.inr (y3,y4,y5,y6,y7,y8,y9,y10,y11,y12,y13,y14,y15,y16,y17,y18,y19,y20,y21)))
theorem impl_sessOk_l0_of:OfL impl_sessOk_k0 impl_sessOk_l0:=ofL 174 0
def impl_sessOk_raw:rF impl_sessOk:=fun D L (a0,a1,a2,a3,a4,a5,a6,a7,a8,a9,a10,a11,a12,a13,a14,a15,a16,a17,a18)=>
 (impl_sessOk_k0 L (a14,(a14.length:Int),0,a0,a1,a2,a3,a4,a5,a6,a7,a8,a9,a10,a11,a12,a13,a14,a15,a16,a17,a18)).bind fun z6=>
 elimS z6 (fun u7=>
 some u7)
 (fun z8=>
 (impl_within D (z8.2.2.2.2.2.2.2.2.2.2.2.2.2.1,1,4)).bind fun r9=>
 bif r9 then(some (decide ((z8.2.2.2.2.2.2.2.2.2.2.2.2.2.2.1.length:Int)≤z8.2.2.2.2.2.2.2.2.2.2.2.2.2.1)))
 else(some false))
theorem impl_sessOk_of:OfF impl_sessOk impl_sessOk_raw:=ofF 174
def impl_risesOk_l0:rL impl_risesOk_k0:=fun D L (y0,y1,y2,y3,y4,y5,y6,y7,y8,y9,y10,y11,y12,y13,y14,y15,y16,y17,y18,y19,y20,y21)=>
 bif (decide (y2<y1))then(bif inb y2 y0.length then
 let e1:=(rd1 zRise y0 y2);
 (impl_within D (e1.1,0,1000)).bind fun r2=>
 bif (!r2)then(some (Sum.inl false))
 else((impl_within D (e1.2.1,0,100000)).bind fun r3=>
 bif (!r3)then(some (Sum.inl false))
 else((impl_within D (e1.2.2,0,y20)).bind fun r4=>
 bif (!r4)then(some (Sum.inl false))
 else(impl_risesOk_k0 L (y0,y1,(IntKind.wrap .i64 (y2+1)),y3,y4,y5,y6,y7,y8,y9,y10,y11,y12,y13,y14,y15,y16,y17,y18,y19,y20,y21))))else none)
 else(some (Sum.inr (y3,y4,y5,y6,y7,y8,y9,y10,y11,y12,y13,y14,y15,y16,y17,y18,y19,y20,y21)))
theorem impl_risesOk_l0_of:OfL impl_risesOk_k0 impl_risesOk_l0:=ofL 175 0
def impl_risesOk_raw:rF impl_risesOk:=fun D L (a0,a1,a2,a3,a4,a5,a6,a7,a8,a9,a10,a11,a12,a13,a14,a15,a16,a17,a18)=>
 (impl_risesOk_k0 L (a18,(a18.length:Int),0,a0,a1,a2,a3,a4,a5,a6,a7,a8,a9,a10,a11,a12,a13,a14,a15,a16,a17,a18)).bind fun z5=>
 elimS z5 (fun u6=>
 some u6)
 (fun z7=>
 some (decide ((z7.2.2.2.2.2.2.2.2.2.2.2.2.2.2.2.2.2.2.length:Int)=5)))
theorem impl_risesOk_of:OfF impl_risesOk impl_risesOk_raw:=ofF 175
end
end Go.Proofs.YtjenicbpdklpbaaGreat.M
