/- Plain forms of the functions that FnExactWorldText reaches, part 2. No conditions. -/
import Derived.Test.YtameehmkoglkeaaGreatDoorFnExactWorldTextTab
set_option linter.all false
namespace Go.Proofs.YtameehmkoglkeaaGreatDoor.M
open Go Go.Eng Go.Proofs
set_option linter.unusedVariables false
noncomputable section
def vH:rL Ks:=fun D L (y0,y1,y2)=>
 bif (decide (y1<(y0.length:Int)))then(bif inb y1 y0.length then
 let e1:=(rd1 yq y0 y1);
 (QaZ D e1).bind fun r2=>
 bif inb y1 y2.length then
 let l3:=List.set y2 (Int.toNat y1) r2;
 Ks L (y0,(wR (y1+1)),l3)else none else none)
 else(some y2)
theorem Qcy:OfL Ks vH:=ofL 51 0
def Qfa:rF vg:=fun D L a0=>
 bif (decide ((0:Int)<=(a0.length:Int)/\((a0.length:Int):Int)=(a0.length:Int))&&fits (Int.toNat (a0.length:Int)) 296)then
 (Ks L (a0,0,(List.replicate (Int.toNat (a0.length:Int)) (0,0,[],[],[],0,0,0,[],[],[],[],0,0,[],0,0,0,[])))).bind fun z4=>
 some z4 else none
theorem Qni:OfF vg Qfa:=ofF 51
def vf:rL KE:=fun D L (y0,y1,y2)=>
 bif (decide (y1<(y0.length:Int)))then(bif inb y1 y0.length then
 let e1:=(rd1 Qbe y0 y1);
 (Qbs D e1).bind fun r2=>
 bif inb y1 y2.length then
 let l3:=List.set y2 (Int.toNat y1) r2;
 KE L (y0,(wR (y1+1)),l3)else none else none)
 else(some y2)
theorem QbW:OfL KE vf:=ofL 52 0
def QeS:rF vI:=fun D L a0=>
 bif (decide ((0:Int)<=(a0.length:Int)/\((a0.length:Int):Int)=(a0.length:Int))&&fits (Int.toNat (a0.length:Int)) 40)then
 (KE L (a0,0,(List.replicate (Int.toNat (a0.length:Int)) (0,[],false)))).bind fun z4=>
 some z4 else none
theorem Qnm:OfF vI QeS:=ofF 52
def j8:rL KG:=fun D L (y0,y1,y2)=>
 bif (decide (y1<(y0.length:Int)))then(bif inb y1 y0.length then
 let e1:=(rd1 Qiw y0 y1);
 (Qbr D e1).bind fun r2=>
 bif inb y1 y2.length then
 let l3:=List.set y2 (Int.toNat y1) r2;
 KG L (y0,(wR (y1+1)),l3)else none else none)
 else(some y2)
theorem Qcd:OfL KG j8:=ofL 53 0
def Qef:rF yz:=fun D L a0=>
 bif (decide ((0:Int)<=(a0.length:Int)/\((a0.length:Int):Int)=(a0.length:Int))&&fits (Int.toNat (a0.length:Int)) 56)then
 (KG L (a0,0,(List.replicate (Int.toNat (a0.length:Int)) (0,[],[])))).bind fun z4=>
 some z4 else none
theorem Qmc:OfF yz Qef:=ofF 53
def yx:rL KO:=fun D L (y0,y1,y2,y3,y4,y5)=>
 bif (decide (y2<y1))then(bif inb y2 y0.length then
 let e2:=(rd1 yq y0 y2);
 (JD D e2).bind fun r3=>
 bif (!r3)then(some (Sum.inl false))
 else(bif (!decide (e2.2.1=(y3.length:Int)))then(some (Sum.inl false))
 else(bif (!decide (e2.1=y2))then(some (Sum.inl false))
 else(KO L (y0,y1,(wR (y2+1)),y3,y4,y5))))else none)
 else(some (Sum.inr (y3,y4,y5)))
theorem Qb6:OfL KO yx:=ofL 54 0
def vZ:rL KZ:=fun D L (y0,y1,y2,y3,y4,y5)=>
 bif (decide (y2<y1))then(bif inb y2 y0.length then
 let e7:=(rd1 Qbe y0 y2);
 (qi D (y3,y4,y5,e7.1)).bind fun r8=>
 bif (!r8)then(some (Sum.inl false))
 else(KZ L (y0,y1,(wR (y2+1)),y3,y4,y5))else none)
 else(some (Sum.inr (y3,y4,y5)))
theorem QbU:OfL KZ vZ:=ofL 54 2
def jS:rL KB:=fun D L (y0,y1,y2,y3,y4,y5)=>
 bif (decide (y2<y1))then(bif inb y2 y0.length then
 let e12:=(rd1 Qiw y0 y2);
 (qi D (y3,y4,y5,e12.1)).bind fun r13=>
 bif (!r13)then(some (Sum.inl false))
 else((XK D e12.2).bind fun r14=>
 bif (!r14)then(some (Sum.inl false))
 else(KB L (y0,y1,(wR (y2+1)),y3,y4,y5)))else none)
 else(some (Sum.inr ()))
theorem Qb8:OfL KB jS:=ofL 54 4
def Qfn:rF vm:=fun D L (a0,a1,a2)=>
 (Qt D ((a0.length:Int),1,5)).bind fun r1=>
 bif (!r1)then(some false)
 else(bif (decide (12<(a1.length:Int)))then(some false)
 else(bif (decide (40<(a2.length:Int)))then(some false)
 else((KO L (a0,(a0.length:Int),0,a0,a1,a2)).bind fun z4=>
 Qo z4 (fun u5=>
 some u5)
 (fun z6=>
 (KZ L (z6.2.1,(z6.2.1.length:Int),0,z6)).bind fun z9=>
 Qo z9 (fun u10=>
 some u10)
 (fun z11=>
 (KB L (z11.2.2,(z11.2.2.length:Int),0,z11)).bind fun z15=>
 Qo z15 (fun u16=>
 some u16)
 (fun z17=>
 some true))))))
theorem Qob:OfF vm Qfn:=ofF 54
def QcK:rL Kk:=fun D L (y0,y1,y2,y3,y4,y5,y6,y7,y8,y9,y10,y11,y12,y13,y14,y15,y16,y17)=>
 bif (decide (y2<y1))then((Qu D (y15,y16,y17)).bind fun r13=>
 (Qu D (y15,r13.2)).bind fun r14=>
 bif fits (y14.length+ [(r13.1,r14.1)].length) 16 then
 Kk L (y0,y1,(wR (y2+1)),y3,y4,y5,y6,y7,y8,y9,y10,y11,y12,y13,(y14++[(r13.1,r14.1)]),y15,r14.2)else none)
 else(some (y0,y3,y4,y5,y6,y7,y8,y9,y10,y11,y12,y13,y14,y15,y16,y17))
theorem Qek:OfL Kk QcK:=ofL 55 0
def QhU:rF jf:=fun D L a0=>
 bif (decide ((wR ((a0.length:Int) - 4))<2))then(some (0,0,0,0,0,[],0,[],[],[],[],[],false))
 else(bif decide ((0:Int)<=0/\0<=(2:Int)/\2<=(a0.length:Int))then
 bif (!Xm (QA (List.take (Int.toNat (2 - 0)) (List.drop (Int.toNat 0) a0))) (⟨#[82,75]⟩:ByteArray))then(some (0,0,0,0,0,[],0,[],[],[],[],[],false))
 else(bif decide ((0:Int)<=0/\0<=((wR ((a0.length:Int) - 4)):Int)/\(wR ((a0.length:Int) - 4))<=(a0.length:Int))then
 (Qu D (List.take (Int.toNat ((wR ((a0.length:Int) - 4)) - 0)) (List.drop (Int.toNat 0) a0),2,false)).bind fun r1=>
 (Qu D (List.take (Int.toNat ((wR ((a0.length:Int) - 4)) - 0)) (List.drop (Int.toNat 0) a0),r1.2)).bind fun r2=>
 (Qu D (List.take (Int.toNat ((wR ((a0.length:Int) - 4)) - 0)) (List.drop (Int.toNat 0) a0),r2.2)).bind fun r3=>
 (Qu D (List.take (Int.toNat ((wR ((a0.length:Int) - 4)) - 0)) (List.drop (Int.toNat 0) a0),r3.2)).bind fun r4=>
 (Qu D (List.take (Int.toNat ((wR ((a0.length:Int) - 4)) - 0)) (List.drop (Int.toNat 0) a0),r4.2)).bind fun r5=>
 (XH D (List.take (Int.toNat ((wR ((a0.length:Int) - 4)) - 0)) (List.drop (Int.toNat 0) a0),r5.2.1,r5.2.2,4)).bind fun r6=>
 (Qu D (List.take (Int.toNat ((wR ((a0.length:Int) - 4)) - 0)) (List.drop (Int.toNat 0) a0),r6.2)).bind fun r7=>
 (XH D (List.take (Int.toNat ((wR ((a0.length:Int) - 4)) - 0)) (List.drop (Int.toNat 0) a0),r7.2.1,r7.2.2,5)).bind fun r8=>
 (XH D (List.take (Int.toNat ((wR ((a0.length:Int) - 4)) - 0)) (List.drop (Int.toNat 0) a0),r8.2.1,r8.2.2,4)).bind fun r9=>
 (Qu D (List.take (Int.toNat ((wR ((a0.length:Int) - 4)) - 0)) (List.drop (Int.toNat 0) a0),r9.2)).bind fun r10=>
 bif r10.2.2 then(some (0,0,0,0,0,[],0,[],[],[],[],[],false))
 else(bif (decide ((wR ((wR ((a0.length:Int) - 4)) - r10.2.1))<r10.1))then(some (0,0,0,0,0,[],0,[],[],[],[],[],false))
 else(bif decide ((0:Int)<=r10.2.1/\r10.2.1<=((wR (r10.2.1+r10.1)):Int)/\(wR (r10.2.1+r10.1))<=(a0.length:Int))then
 (vB D (List.take (Int.toNat ((wR (r10.2.1+r10.1)) - r10.2.1)) (List.drop (Int.toNat r10.2.1) a0))).bind fun r11=>
 bif (!r11.2.2)then(some (0,0,0,0,0,[],0,[],[],[],[],[],false))
 else((X2 D (List.take (Int.toNat ((wR ((a0.length:Int) - 4)) - 0)) (List.drop (Int.toNat 0) a0),(wR (r10.2.1+r10.1)),r10.2.2,5)).bind fun r12=>
 (Kk L (a0,r12.1,0,r1.1,r2.1,r3.1,r4.1,r5.1,r6.1,r7.1,r8.1,r9.1,r11.1,r11.2.1,[],List.take (Int.toNat ((wR ((a0.length:Int) - 4)) - 0)) (List.drop (Int.toNat 0) a0),r12.2)).bind fun z15=>
 bif z15.2.2.2.2.2.2.2.2.2.2.2.2.2.2.2 then(some (0,0,0,0,0,[],0,[],[],[],[],[],false))
 else((YH D (z15.2.1,z15.2.2.1,z15.2.2.2.1,z15.2.2.2.2.1,z15.2.2.2.2.2.1,z15.2.2.2.2.2.2.1,z15.2.2.2.2.2.2.2.1,z15.2.2.2.2.2.2.2.2.1,z15.2.2.2.2.2.2.2.2.2.1,z15.2.2.2.2.2.2.2.2.2.2.1,z15.2.2.2.2.2.2.2.2.2.2.2.1,z15.2.2.2.2.2.2.2.2.2.2.2.2.1)).bind fun r16=>
 bif (!r16)then(some (0,0,0,0,0,[],0,[],[],[],[],[],false))
 else((zr D (z15.2.1,z15.2.2.1,z15.2.2.2.1,z15.2.2.2.2.1,z15.2.2.2.2.2.1,z15.2.2.2.2.2.2.1,z15.2.2.2.2.2.2.2.1,z15.2.2.2.2.2.2.2.2.1,z15.2.2.2.2.2.2.2.2.2.1,z15.2.2.2.2.2.2.2.2.2.2.1,z15.2.2.2.2.2.2.2.2.2.2.2.1,z15.2.2.2.2.2.2.2.2.2.2.2.2.1)).bind fun r17=>
 (xY D (r17,z15.1)).bind fun r18=>
 bif (!r18)then(some (0,0,0,0,0,[],0,[],[],[],[],[],false))
 else(some (z15.2.1,z15.2.2.1,z15.2.2.2.1,z15.2.2.2.2.1,z15.2.2.2.2.2.1,z15.2.2.2.2.2.2.1,z15.2.2.2.2.2.2.2.1,z15.2.2.2.2.2.2.2.2.1,z15.2.2.2.2.2.2.2.2.2.1,z15.2.2.2.2.2.2.2.2.2.2.1,z15.2.2.2.2.2.2.2.2.2.2.2.1,z15.2.2.2.2.2.2.2.2.2.2.2.2.1,true)))))else none))else none)else none)
theorem QqC:OfF jf QhU:=ofF 55
def QfN:rF VP:=fun D L (a0,a1,a2,a3,a4,a5,a6,a7,a8,a9,a10,a11)=>
 (YH D (a0,a1,a2,a3,a4,a5,a6,a7,a8,a9,a10,a11)).bind fun r1=>
 bif (!r1)then(some (⟨#[63]⟩:ByteArray))
 else(bif inb a0 (List.length [(⟨#[112,117,115,104]⟩:ByteArray),(⟨#[97,99,107]⟩:ByteArray),(⟨#[115,121,110]⟩:ByteArray),(⟨#[114,101,112,108,121]⟩:ByteArray),(⟨#[108,97,115,116]⟩:ByteArray),(⟨#[98,117,115,121]⟩:ByteArray)])then
 bif fits (ByteArray.size (rd1 (ByteArray.empty:ByteArray) ([(⟨#[112,117,115,104]⟩:ByteArray),(⟨#[97,99,107]⟩:ByteArray),(⟨#[115,121,110]⟩:ByteArray),(⟨#[114,101,112,108,121]⟩:ByteArray),(⟨#[108,97,115,116]⟩:ByteArray),(⟨#[98,117,115,121]⟩:ByteArray)]:List ByteArray) a0)+ByteArray.size (⟨#[32]⟩:ByteArray)) 1 then
 (Q1 D a1).bind fun r2=>
 bif fits (ByteArray.size ((rd1 (ByteArray.empty:ByteArray) ([(⟨#[112,117,115,104]⟩:ByteArray),(⟨#[97,99,107]⟩:ByteArray),(⟨#[115,121,110]⟩:ByteArray),(⟨#[114,101,112,108,121]⟩:ByteArray),(⟨#[108,97,115,116]⟩:ByteArray),(⟨#[98,117,115,121]⟩:ByteArray)]:List ByteArray) a0)++(⟨#[32]⟩:ByteArray))+ByteArray.size r2) 1 then
 bif fits (ByteArray.size (((rd1 (ByteArray.empty:ByteArray) ([(⟨#[112,117,115,104]⟩:ByteArray),(⟨#[97,99,107]⟩:ByteArray),(⟨#[115,121,110]⟩:ByteArray),(⟨#[114,101,112,108,121]⟩:ByteArray),(⟨#[108,97,115,116]⟩:ByteArray),(⟨#[98,117,115,121]⟩:ByteArray)]:List ByteArray) a0)++(⟨#[32]⟩:ByteArray))++r2)+ByteArray.size (⟨#[62]⟩:ByteArray)) 1 then
 (Q1 D a2).bind fun r3=>
 bif fits (ByteArray.size ((((rd1 (ByteArray.empty:ByteArray) ([(⟨#[112,117,115,104]⟩:ByteArray),(⟨#[97,99,107]⟩:ByteArray),(⟨#[115,121,110]⟩:ByteArray),(⟨#[114,101,112,108,121]⟩:ByteArray),(⟨#[108,97,115,116]⟩:ByteArray),(⟨#[98,117,115,121]⟩:ByteArray)]:List ByteArray) a0)++(⟨#[32]⟩:ByteArray))++r2)++(⟨#[62]⟩:ByteArray))+ByteArray.size r3) 1 then
 bif fits (ByteArray.size (((((rd1 (ByteArray.empty:ByteArray) ([(⟨#[112,117,115,104]⟩:ByteArray),(⟨#[97,99,107]⟩:ByteArray),(⟨#[115,121,110]⟩:ByteArray),(⟨#[114,101,112,108,121]⟩:ByteArray),(⟨#[108,97,115,116]⟩:ByteArray),(⟨#[98,117,115,121]⟩:ByteArray)]:List ByteArray) a0)++(⟨#[32]⟩:ByteArray))++r2)++(⟨#[62]⟩:ByteArray))++r3)+ByteArray.size (⟨#[35]⟩:ByteArray)) 1 then
 (Q1 D a3).bind fun r4=>
 bif fits (ByteArray.size ((((((rd1 (ByteArray.empty:ByteArray) ([(⟨#[112,117,115,104]⟩:ByteArray),(⟨#[97,99,107]⟩:ByteArray),(⟨#[115,121,110]⟩:ByteArray),(⟨#[114,101,112,108,121]⟩:ByteArray),(⟨#[108,97,115,116]⟩:ByteArray),(⟨#[98,117,115,121]⟩:ByteArray)]:List ByteArray) a0)++(⟨#[32]⟩:ByteArray))++r2)++(⟨#[62]⟩:ByteArray))++r3)++(⟨#[35]⟩:ByteArray))+ByteArray.size r4) 1 then
 (Vu D (a9,a10)).bind fun r5=>
 bif (!Xm r5 (⟨#[]⟩:ByteArray))then(bif fits (ByteArray.size (⟨#[32]⟩:ByteArray)+ByteArray.size r5) 1 then
 bif fits (ByteArray.size (((((((rd1 (ByteArray.empty:ByteArray) ([(⟨#[112,117,115,104]⟩:ByteArray),(⟨#[97,99,107]⟩:ByteArray),(⟨#[115,121,110]⟩:ByteArray),(⟨#[114,101,112,108,121]⟩:ByteArray),(⟨#[108,97,115,116]⟩:ByteArray),(⟨#[98,117,115,121]⟩:ByteArray)]:List ByteArray) a0)++(⟨#[32]⟩:ByteArray))++r2)++(⟨#[62]⟩:ByteArray))++r3)++(⟨#[35]⟩:ByteArray))++r4)+ByteArray.size ((⟨#[32]⟩:ByteArray)++r5)) 1 then
 some ((((((((rd1 (ByteArray.empty:ByteArray) ([(⟨#[112,117,115,104]⟩:ByteArray),(⟨#[97,99,107]⟩:ByteArray),(⟨#[115,121,110]⟩:ByteArray),(⟨#[114,101,112,108,121]⟩:ByteArray),(⟨#[108,97,115,116]⟩:ByteArray),(⟨#[98,117,115,121]⟩:ByteArray)]:List ByteArray) a0)++(⟨#[32]⟩:ByteArray))++r2)++(⟨#[62]⟩:ByteArray))++r3)++(⟨#[35]⟩:ByteArray))++r4)++((⟨#[32]⟩:ByteArray)++r5))else none else none)
 else(some (((((((rd1 (ByteArray.empty:ByteArray) ([(⟨#[112,117,115,104]⟩:ByteArray),(⟨#[97,99,107]⟩:ByteArray),(⟨#[115,121,110]⟩:ByteArray),(⟨#[114,101,112,108,121]⟩:ByteArray),(⟨#[108,97,115,116]⟩:ByteArray),(⟨#[98,117,115,121]⟩:ByteArray)]:List ByteArray) a0)++(⟨#[32]⟩:ByteArray))++r2)++(⟨#[62]⟩:ByteArray))++r3)++(⟨#[35]⟩:ByteArray))++r4))else none else none else none else none else none else none else none)
theorem QnG:OfF VP QfN:=ofF 56
def ju:rL KC:=fun D L (y0,y1,y2)=>
 bif (decide (y2<(y0.length:Int)))then(bif inb y2 y0.length then
 let e1:=(rd1 yq y0 y2);
 bif inb y2 y1.length then
 let e2:=(rd1 yq y1 y2);
 (Qa4 D (e1.1,e1.2.1,e1.2.2.1,e1.2.2.2.1,e1.2.2.2.2.1,e1.2.2.2.2.2.1,e1.2.2.2.2.2.2.1,e1.2.2.2.2.2.2.2.1,e1.2.2.2.2.2.2.2.2.1,e1.2.2.2.2.2.2.2.2.2.1,e1.2.2.2.2.2.2.2.2.2.2.1,e1.2.2.2.2.2.2.2.2.2.2.2.1,e1.2.2.2.2.2.2.2.2.2.2.2.2.1,e1.2.2.2.2.2.2.2.2.2.2.2.2.2.1,e1.2.2.2.2.2.2.2.2.2.2.2.2.2.2.1,e1.2.2.2.2.2.2.2.2.2.2.2.2.2.2.2.1,e1.2.2.2.2.2.2.2.2.2.2.2.2.2.2.2.2.1,e1.2.2.2.2.2.2.2.2.2.2.2.2.2.2.2.2.2.1,e1.2.2.2.2.2.2.2.2.2.2.2.2.2.2.2.2.2.2,e2)).bind fun r3=>
 bif (!r3)then(some (Sum.inl false))
 else(KC L (y0,y1,(wR (y2+1))))else none else none)
 else(some (Sum.inr ()))
theorem Qca:OfL KC ju:=ofL 57 0
def Qep:rF j7:=fun D L (a0,a1)=>
 bif (!decide ((a0.length:Int)=(a1.length:Int)))then(some false)
 else((KC L (a0,a1,0)).bind fun z4=>
 Qo z4 (fun u5=>
 some u5)
 (fun z6=>
 some true))
theorem QmJ:OfF j7 Qep:=ofF 57
def yQ:rL K4:=fun D L (y0,y1,y2)=>
 bif (decide (y2<(y0.length:Int)))then(bif inb y2 y0.length then
 let e1:=(rd1 Qbe y0 y2);
 bif inb y2 y1.length then
 let e2:=(rd1 Qbe y1 y2);
 (Qbl D (e1.1,e1.2.1,e1.2.2,e2)).bind fun r3=>
 bif (!r3)then(some (Sum.inl false))
 else(K4 L (y0,y1,(wR (y2+1))))else none else none)
 else(some (Sum.inr ()))
theorem QcB:OfL K4 yQ:=ofL 58 0
def QeJ:rF yS:=fun D L (a0,a1)=>
 bif (!decide ((a0.length:Int)=(a1.length:Int)))then(some false)
 else((K4 L (a0,a1,0)).bind fun z4=>
 Qo z4 (fun u5=>
 some u5)
 (fun z6=>
 some true))
theorem QnU:OfF yS QeJ:=ofF 58
def jM:rL Kr:=fun D L (y0,y1,y2)=>
 bif (decide (y2<(y0.length:Int)))then(bif inb y2 y0.length then
 let e1:=(rd1 Qiw y0 y2);
 bif inb y2 y1.length then
 let e2:=(rd1 Qiw y1 y2);
 (Qbi D (e1.1,e1.2.1,e1.2.2,e2)).bind fun r3=>
 bif (!r3)then(some (Sum.inl false))
 else(Kr L (y0,y1,(wR (y2+1))))else none else none)
 else(some (Sum.inr ()))
theorem QbX:OfL Kr jM:=ofL 59 0
def Qe1:rF vD:=fun D L (a0,a1)=>
 bif (!decide ((a0.length:Int)=(a1.length:Int)))then(some false)
 else((Kr L (a0,a1,0)).bind fun z4=>
 Qo z4 (fun u5=>
 some u5)
 (fun z6=>
 some true))
theorem Qnz:OfF vD Qe1:=ofF 59
def qe:rL KS:=fun D L (y0,y1,y2)=>
 bif (decide (y2<(y0.length:Int)))then(bif inb y2 y0.length then
 let e1:=(rd1 Ya y0 y2);
 (Qbt D (e1.1,e1.2.1,e1.2.2.1,e1.2.2.2.1,e1.2.2.2.2.1,e1.2.2.2.2.2,y1)).bind fun r2=>
 bif (decide (r2<0))then(some (Sum.inl (-1)))
 else(KS L (y0,r2,(wR (y2+1))))else none)
 else(some (Sum.inr y1))
theorem qE:OfL KS qe:=ofL 60 0
def Qfk:rF je:=fun D L (a0,a1)=>
 bif (decide ((wR (a1 - (a0.length:Int)))<0))then(some (-1))
 else((KS L (a0,(wR (a1 - (a0.length:Int))),0)).bind fun z3=>
 Qo z3 (fun u4=>
 some u4)
 (fun z5=>
 some z5))
theorem Qn6:OfF je Qfk:=ofF 60
def Qdg:rF zn:=fun D L (a0,a1)=>
 bif (decide ((wR (a1 - (a0.length:Int)))<0))then(some (-1))
 else(some (wR (a1 - (a0.length:Int))))
theorem Qlp:OfF zn Qdg:=ofF 61
def Jl:rL Y6:=fun D L (y0,y1,y2)=>
 bif (decide (y2<(y0.length:Int)))then(bif inb y2 y0.length then
 let e1:=(rd1 Qhj y0 y2);
 (VJ D (e1.1,e1.2,y1)).bind fun r2=>
 bif (decide (r2<0))then(some (Sum.inl (-1)))
 else(Y6 L (y0,r2,(wR (y2+1))))else none)
 else(some (Sum.inr y1))
theorem JT:OfL Y6 Jl:=ofL 62 0
def Qdd:rF zl:=fun D L (a0,a1)=>
 bif (decide ((wR (a1 - (a0.length:Int)))<0))then(some (-1))
 else((Y6 L (a0,(wR (a1 - (a0.length:Int))),0)).bind fun z3=>
 Qo z3 (fun u4=>
 some u4)
 (fun z5=>
 some z5))
theorem QlE:OfF zl Qdd:=ofF 62
def Qjg:rF QD:=fun D L (a0,a1,a2)=>
 bif (decide (a1<=a0))then(some (decide (a0<=a2)))
 else(some false)
theorem QrV:OfF QD Qjg:=ofF 63
def yE:rL Ye:=fun D L (y0,y1,y2)=>
 bif (decide (y0<(y1.length:Int)))then(bif inb y0 y1.length then
 let e1:=(rd1 Ya y1 y0);
 (ZW D e1.1).bind fun r2=>
 bif (!r2)then(some (Sum.inl false))
 else(bif (decide (0<y0))then(bif inb (wR (y0 - 1)) y1.length then
 let e3:=(rd1 Ya y1 (wR (y0 - 1)));
 bif (decide (e1.1<=e3.1))then(some (Sum.inl false))
 else((Vz D e1.2).bind fun r4=>
 bif (!r4)then(some (Sum.inl false))
 else((qz D (y1,y2,e1.1)).bind fun r5=>
 bif (decide (e1.2.1<=r5))then(some (Sum.inl false))
 else(Ye L ((wR (y0+1)),y1,y2))))else none)
 else((Vz D e1.2).bind fun r6=>
 bif (!r6)then(some (Sum.inl false))
 else((qz D (y1,y2,e1.1)).bind fun r7=>
 bif (decide (e1.2.1<=r7))then(some (Sum.inl false))
 else(Ye L ((wR (y0+1)),y1,y2)))))else none)
 else(some (Sum.inr (y1,y2)))
theorem Qb3:OfL Ye yE:=ofL 64 0
def yR:rL Z3:=fun D L (y0,y1,y2)=>
 bif (decide (y0<(y2.length:Int)))then(bif inb y0 y2.length then
 let e11:=(rd1 Xk y2 y0);
 (ZW D e11.1).bind fun r12=>
 bif (!r12)then(some (Sum.inl false))
 else(bif (decide (0<y0))then(bif inb (wR (y0 - 1)) y2.length then
 let e13:=(rd1 Xk y2 (wR (y0 - 1)));
 bif (decide (e11.1<=e13.1))then(some (Sum.inl false))
 else((QD D (e11.2,1,1000)).bind fun r14=>
 bif (!r14)then(some (Sum.inl false))
 else(Z3 L ((wR (y0+1)),y1,y2)))else none)
 else((QD D (e11.2,1,1000)).bind fun r15=>
 bif (!r15)then(some (Sum.inl false))
 else(Z3 L ((wR (y0+1)),y1,y2))))else none)
 else(some (Sum.inr ()))
theorem QbH:OfL Z3 yR:=ofL 64 2
def Qfj:rF Zd:=fun D L (a0,a1)=>
 (Ye L (0,a0,a1)).bind fun z8=>
 Qo z8 (fun u9=>
 some u9)
 (fun z10=>
 (Z3 L (0,z10)).bind fun z16=>
 Qo z16 (fun u17=>
 some u17)
 (fun z18=>
 some true))
theorem QnP:OfF Zd Qfj:=ofF 64
def Qfz:rF jJ:=fun D L (a0,a1,a2,a3)=>
 (Qbn D (a0,a2)).bind fun r1=>
 bif r1 then(some (decide (a1=a3)))
 else(some false)
theorem QmK:OfF jJ Qfz:=ofF 65
def Qar:rL YP:=fun D L (y0,y1,y2,y3,y4)=>
 bif (decide (y0<4))then((vU D (y1,y2,y0)).bind fun r2=>
 bif fits (y3.length+ [r2].length) 8 then
 YP L ((wR (y0+1)),y1,y2,(y3++[r2]),y4)else none)
 else(some (y3,y4))
theorem Qc6:OfL YP Qar:=ofL 66 0
def Qgg:rF Qbc:=fun D L (a0,a1)=>
 (Zd D (a0,a1)).bind fun r1=>
 bif (!r1)then(some ([],0))
 else((YP L (0,a0,a1,[],0)).bind fun z3=>
 (Qa5 D z3.1).bind fun r4=>
 some (z3.1,r4))
theorem QoR:OfF Qbc Qgg:=ofF 66
def QcV:rL JC:=fun D L (y0,y1,y2,y3)=>
 bif (decide (y0<(y3.length:Int)))then(bif inb y0 y3.length then
 let e3:=(rd1 Qhj y3 y0);
 (Zd D e3).bind fun r4=>
 bif (!r4)then(some (Sum.inl false))
 else(JC L ((wR (y0+1)),y1,y2,y3))else none)
 else(some (Sum.inr ()))
theorem QeF:OfL JC QcV:=ofL 67 0
def Qh0:rF j9:=fun D L (a0,a1,a2)=>
 (QD D (a0,1,8)).bind fun r1=>
 bif (!r1)then(some false)
 else(bif (decide (a0<(a2.length:Int)))then(some false)
 else((QD D (a1,0,100000)).bind fun r2=>
 bif (!r2)then(some false)
 else(bif (decide (100000<(wR (a1+(a2.length:Int)))))then(some false)
 else((JC L (0,a0,a1,a2)).bind fun z5=>
 Qo z5 (fun u6=>
 some u6)
 (fun z7=>
 some true)))))
theorem QqJ:OfF j9 Qh0:=ofF 67
def QcT:rL JA:=fun D L (y0,y1,y2)=>
 bif (decide (y2<y1))then(bif inb y2 y0.length then
 (QD D ((rd1 (0:Int) y0 y2),0,100000)).bind fun r2=>
 bif (!r2)then(some (Sum.inl false))
 else(JA L (y0,y1,(wR (y2+1))))else none)
 else(some (Sum.inr ()))
theorem Qer:OfL JA QcT:=ofL 68 0
def Qay:rF jy:=fun D L (a0,a1)=>
 (QD D (a1,1,5)).bind fun r1=>
 bif (!r1)then(some false)
 else(bif (!decide ((a0.length:Int)=a1))then(some false)
 else((JA L (a0,a1,0)).bind fun z3=>
 Qo z3 (fun u4=>
 some u4)
 (fun z5=>
 some true)))
theorem QqH:OfF jy Qay:=ofF 68
def Qgo:rF xS:=fun D L (a0,a1,a2)=>
 (j9 D (a0,a1,a2)).bind fun r1=>
 bif (!r1)then(some 0)
 else(some (wR (a1+(a2.length:Int))))
theorem Qpj:OfF xS Qgo:=ofF 69
def vz:rL KM:=fun D L (y0,y1,y2)=>
 bif (decide (y2<y1))then(bif inb y2 y0.length then
 bif (!decide (((List.length (rd1 ([]:List Int) y0 y2)):Int)=5))then(some (Sum.inl false))
 else((Yq L (y0,y1,y2,0)).bind fun z3=>
 Qo z3 (fun u4=>
 some (Sum.inl u4))
 (fun z5=>
 KM L (z5.1,z5.2.1,(wR (z5.2.2+1)))))else none)
 else(some (Sum.inr ()))
theorem Qcx:OfL KM vz:=ofL 70 0
def vp:rL Yq:=fun D L (y0,y1,y2,y3)=>
 bif inb y2 y0.length then
 bif (decide (y3<((List.length (rd1 ([]:List Int) y0 y2)):Int)))then(bif inb y2 y0.length then
 bif inb y3 (List.length (rd1 ([]:List Int) y0 y2))then
 (QD D ((rd1 (0:Int) (rd1 ([]:List Int) y0 y2) y3),0,1000)).bind fun r2=>
 bif (!r2)then(some (Sum.inl false))
 else(Yq L (y0,y1,y2,(wR (y3+1))))else none else none)
 else(some (Sum.inr (y0,y1,y2)))else none
theorem Qcz:OfL Yq vp:=ofL 70 2
def zE:rF js:=fun D L (a0,a1)=>
 (QD D (a1,1,5)).bind fun r1=>
 bif (!r1)then(some false)
 else(bif (!decide ((a0.length:Int)=a1))then(some false)
 else((KM L (a0,a1,0)).bind fun z6=>
 Qo z6 (fun u7=>
 some u7)
 (fun z8=>
 some true)))
theorem Qn3:OfF js zE:=ofF 70
def jX:rL Kv:=fun D L (y0,y1,y2,y3,y4,y5,y6,y7,y8,y9,y10,y11,y12,y13,y14,y15,y16,y17,y18,y19)=>
 bif (decide (y0<(y15.length:Int)))then(bif inb y0 y15.length then
 let e1:=(rd1 QgS y15 y0);
 (QD D (e1.1,0,(wR (y2 - 1)))).bind fun r2=>
 bif (!r2)then(some (Sum.inl false))
 else(bif (decide (e1.1=y1))then(some (Sum.inl false))
 else((QD D (e1.2.1,0,100000)).bind fun r3=>
 bif (!r3)then(some (Sum.inl false))
 else((QD D (e1.2.2.2,0,y16)).bind fun r4=>
 bif (!r4)then(some (Sum.inl false))
 else((Zr L (y0,0,e1.1,y1,(decide (e1.1=y1)),e1.2.1,r3,(!r3),e1.2.2.2,y16,r4,(!r4),y1,y2,y3,y4,y5,y6,y7,y8,y9,y10,y11,y12,y13,y14,y15,y16,y17,y18,y19,e1)).bind fun z7=>
 Qo z7 (fun u8=>
 some (Sum.inl u8))
 (fun z9=>
 Kv L ((wR (z9.1+1)),z9.2.2.2.2.2.2.2.2.2.2.2.1,z9.2.2.2.2.2.2.2.2.2.2.2.2.1,z9.2.2.2.2.2.2.2.2.2.2.2.2.2.1,z9.2.2.2.2.2.2.2.2.2.2.2.2.2.2.1,z9.2.2.2.2.2.2.2.2.2.2.2.2.2.2.2.1,z9.2.2.2.2.2.2.2.2.2.2.2.2.2.2.2.2.1,z9.2.2.2.2.2.2.2.2.2.2.2.2.2.2.2.2.2.1,z9.2.2.2.2.2.2.2.2.2.2.2.2.2.2.2.2.2.2.1,z9.2.2.2.2.2.2.2.2.2.2.2.2.2.2.2.2.2.2.2.1,z9.2.2.2.2.2.2.2.2.2.2.2.2.2.2.2.2.2.2.2.2.1,z9.2.2.2.2.2.2.2.2.2.2.2.2.2.2.2.2.2.2.2.2.2.1,z9.2.2.2.2.2.2.2.2.2.2.2.2.2.2.2.2.2.2.2.2.2.2.1,z9.2.2.2.2.2.2.2.2.2.2.2.2.2.2.2.2.2.2.2.2.2.2.2.1,z9.2.2.2.2.2.2.2.2.2.2.2.2.2.2.2.2.2.2.2.2.2.2.2.2.1,z9.2.2.2.2.2.2.2.2.2.2.2.2.2.2.2.2.2.2.2.2.2.2.2.2.2.1,z9.2.2.2.2.2.2.2.2.2.2.2.2.2.2.2.2.2.2.2.2.2.2.2.2.2.2.1,z9.2.2.2.2.2.2.2.2.2.2.2.2.2.2.2.2.2.2.2.2.2.2.2.2.2.2.2.1,z9.2.2.2.2.2.2.2.2.2.2.2.2.2.2.2.2.2.2.2.2.2.2.2.2.2.2.2.2.1,z9.2.2.2.2.2.2.2.2.2.2.2.2.2.2.2.2.2.2.2.2.2.2.2.2.2.2.2.2.2.1))))))else none)
 else(some (Sum.inr ()))
theorem QbZ:OfL Kv jX:=ofL 71 0
def yD:rL Zr:=fun D L (y0,y1,y2,y3,y4,y5,y6,y7,y8,y9,y10,y11,y12,y13,y14,y15,y16,y17,y18,y19,y20,y21,y22,y23,y24,y25,y26,y27,y28,y29,y30,y31,y32,y33,y34)=>
 bif (decide (y1<y0))then(bif inb y1 y26.length then
 let e5:=(rd1 QgS y26 y1);
 bif (decide (e5.1=y31))then(bif inb y1 y26.length then
 let e6:=(rd1 QgS y26 y1);
 bif (e6.2.2.1==y33)then(some (Sum.inl false))
 else(Zr L (y0,(wR (y1+1)),y2,y3,y4,y5,y6,y7,y8,y9,y10,y11,y12,y13,y14,y15,y16,y17,y18,y19,y20,y21,y22,y23,y24,y25,y26,y27,y28,y29,y30,y31,y32,y33,y34))else none)
 else(Zr L (y0,(wR (y1+1)),y2,y3,y4,y5,y6,y7,y8,y9,y10,y11,y12,y13,y14,y15,y16,y17,y18,y19,y20,y21,y22,y23,y24,y25,y26,y27,y28,y29,y30,y31,y32,y33,y34))else none)
 else(some (Sum.inr (y0,y2,y3,y4,y5,y6,y7,y8,y9,y10,y11,y12,y13,y14,y15,y16,y17,y18,y19,y20,y21,y22,y23,y24,y25,y26,y27,y28,y29,y30,y31,y32,y33,y34)))
theorem Qb7:OfL Zr yD:=ofL 71 2
def QfH:rF vX:=fun D L (a0,a1,a2,a3,a4,a5,a6,a7,a8,a9,a10,a11,a12,a13,a14,a15,a16,a17,a18)=>
 bif (decide (a13<(a14.length:Int)))then(some false)
 else((Kv L (0,a0,a1,a2,a3,a4,a5,a6,a7,a8,a9,a10,a11,a12,a13,a14,a15,a16,a17,a18)).bind fun z10=>
 Qo z10 (fun u11=>
 some u11)
 (fun z12=>
 some true))
theorem Qmq:OfF vX QfH:=ofF 71
end
end Go.Proofs.YtameehmkoglkeaaGreatDoor.M
