/- Plain forms of the functions that FnExactPushAll reaches, part 5. No conditions. -/
import Derived.Test.YtiejfnbmficbmaaGreatFnExactPushAllTab
set_option linter.all false
namespace Go.Proofs.YtiejfnbmficbmaaGreat.M
open Go Go.Eng Go.Proofs
set_option linter.unusedVariables false
noncomputable section
def QfI:rF yN:=fun D L (a0,a1)=>
 (Yg D a0).bind fun r1=>
 some (r1,a1)
theorem QoH:OfF yN QfI:=ofF 203
def Qal:rL Jj:=fun D L (y0,y1,y2,y3,y4,y5)=>
 bif (decide (y2<y1))then(bif inb y2 y0.length then
 let e1:=(rd1 Yk y0 y2);
 (ZF D e1).bind fun r2=>
 bif fits (y5.length+ [r2].length) 48 then
 Jj L (y0,y1,(wR (y2+1)),y3,y4,(y5++[r2]))else none else none)
 else(some (y3,y4,y5))
theorem QdV:OfL Jj Qal:=ofL 204 0
def Qim:rF Qab:=fun D L (a0,a1,a2)=>
 (Jj L (a2,(a2.length:Int),0,a0,a1,[])).bind fun z3=>
 some z3
theorem Qry:OfF Qab Qim:=ofF 204
def QfN:rF Yg:=fun D L a0=>
 bif fits (List.length ([]:List Int)+a0.length) 8 then
 some (([]:List Int)++a0)else none
theorem QoX:OfF Yg QfN:=ofF 205
def yf:rL Kq:=fun D L (y0,y1,y2,y3)=>
 bif (decide (y2<y1))then(bif inb y2 y0.length then
 (Yg D (rd1 ([]:List Int) y0 y2)).bind fun r1=>
 bif fits (y3.length+List.length ([r1]:List (List Int))) 24 then
 Kq L (y0,y1,(wR (y2+1)),(y3++([r1]:List (List Int))))else none else none)
 else(some y3)
theorem Qbr:OfL Kq yf:=ofL 206 0
def QeP:rF zB:=fun D L a0=>
 (Kq L (a0,(a0.length:Int),0,[])).bind fun z2=>
 some z2
theorem QnV:OfF zB QeP:=ofF 206
def QbR:rL Vz:=fun D L (y0,y1,y2,y3)=>
 bif (decide (y3<y2))then(bif inb y3 y1.length then
 let e1:=(rd1 XU y1 y3);
 bif (decide (e1.1=y0))then(some (Sum.inl (true,e1.2)))
 else(Vz L (y0,y1,y2,(wR (y3+1))))else none)
 else(some (Sum.inr ()))
theorem QdG:OfL Vz QbR:=ofL 207 0
def QhI:rF J0:=fun D L (a0,a1,a2)=>
 (Vz L (a2,a0,(a0.length:Int),0)).bind fun z2=>
 Qq z2 (fun u3=>
 some (u3.2.1,u3.2.2.1,u3.2.2.2.1,u3.2.2.2.2.1,u3.2.2.2.2.2,u3.1))
 (fun z4=>
 some (0,0,0,0,ByteArray.empty,false))
theorem Qrf:OfF J0 QhI:=ofF 207
def qB:rL KU:=fun D L (y0,y1)=>
 bif (decide (0<y0))then(bif decide ((10:Int)≠0)then
 bif fits (ByteArray.size (Ym [(IntKind.wrap .u8 (wR (48+(Int.tmod y0 10))))])+ByteArray.size y1) 1 then
 bif decide ((10:Int)≠0)then
 KU L ((wR (Int.tdiv y0 10)),((Ym [(IntKind.wrap .u8 (wR (48+(Int.tmod y0 10))))])++y1))else none else none else none)
 else(some y1)
theorem xr:OfL KU qB:=ofL 214 0
def Qfw:rF Kj:=fun D L a0=>
 bif (decide (a0<=0))then(some (⟨#[109,48]⟩:ByteArray))
 else((KU L (a0,(⟨#[]⟩:ByteArray))).bind fun z1=>
 bif fits (ByteArray.size (⟨#[109]⟩:ByteArray)+ByteArray.size z1) 1 then
 some ((⟨#[109]⟩:ByteArray)++z1)else none)
theorem QoQ:OfF Kj Qfw:=ofF 214
def vI:rL Y0:=fun D L (y0,y1,y2,y3)=>
 bif (decide (y0<5))then((QcJ D (y1,y2,y0)).bind fun r1=>
 bif (decide (0<r1))then(bif fits (y3.length+ [(y0,r1)].length) 16 then
 Y0 L ((wR (y0+1)),y1,y2,(y3++[(y0,r1)]))else none)
 else(Y0 L ((wR (y0+1)),y1,y2,y3)))
 else(some y3)
theorem QdJ:OfL Y0 vI:=ofL 215 0
def QgG:rF Qak:=fun D L (a0,a1)=>
 (Y0 L (0,a0,a1,[])).bind fun z2=>
 some z2
theorem QrD:OfF Qak QgG:=ofF 215
def jg:rL KV:=fun D L (y0,y1,y2,y3,y4,y5)=>
 bif (decide (y0<(y3.length:Int)))then(bif inb y0 y3.length then
 let e3:=(rd1 Yk y3 y0);
 (yG D (y4,y5,e3)).bind fun r4=>
 KV L ((wR (y0+1)),y1,y2,y3,r4)else none)
 else(some (y4,y5))
theorem QbX:OfL KV jg:=ofL 216 0
def QfP:rF qL:=fun D L (a0,a1,a2,a3)=>
 (qE D (a0,a1,a2)).bind fun r1=>
 bif (!r1)then(some ([],[],false))
 else((QH D (a3,a1,(wR (a1+(a2.length:Int))))).bind fun r2=>
 bif (!r2)then(some ([],[],false))
 else((KV L ((wR (a3 - a1)),a0,a1,a2,[],[])).bind fun z5=>
 some (z5.1,z5.2,true)))
theorem Qpl:OfF qL QfP:=ofF 216
def zJ:rL qd:=fun D L (y0,y1)=>
 bif (decide (127<y0))then(bif decide ((128:Int)≠0)then
 bif fits (y1.length+ [(IntKind.wrap .u8 (wR ((Int.tmod y0 128)+128)))].length) 1 then
 bif decide ((128:Int)≠0)then
 qd L ((wR (Int.tdiv y0 128)),(y1++[(IntKind.wrap .u8 (wR ((Int.tmod y0 128)+128)))]))else none else none else none)
 else(some (y0,y1))
theorem QfS:OfL qd zJ:=ofL 217 0
def QiR:rF Xf:=fun D L a0=>
 (QH D (a0,0,2147483647)).bind fun r1=>
 bif (!r1)then(some [])
 else((qd L (a0,[])).bind fun z2=>
 bif fits (z2.2.length+ [(IntKind.wrap .u8 z2.1)].length) 1 then
 some (z2.2++[(IntKind.wrap .u8 z2.1)])else none)
theorem Qs1:OfF Xf QiR:=ofF 217
def vb:rL Jb:=fun D L (y0,y1,y2)=>
 bif (decide (y1<(y0.length:Int)))then(bif inb y1 y0.length then
 (Xf D (rd1 (0:Int) y0 y1)).bind fun r2=>
 bif fits (y2.length+r2.length) 1 then
 Jb L (y0,(wR (y1+1)),(y2++r2))else none else none)
 else(some y2)
theorem Qei:OfL Jb vb:=ofL 218 0
def Qh0:rF JX:=fun D L a0=>
 (Xf D (a0.length:Int)).bind fun r1=>
 (Jb L (a0,0,r1)).bind fun z3=>
 some z3
theorem QpO:OfF JX Qh0:=ofF 218
def v7:rL Kc:=fun D L (y0,y1,y2,y3)=>
 bif (decide (y0<5))then((QcQ D (y1,y2,y0)).bind fun r1=>
 bif (decide (0<r1))then(bif fits (y3.length+ [(y0,r1)].length) 16 then
 Kc L ((wR (y0+1)),y1,y2,(y3++[(y0,r1)]))else none)
 else(Kc L ((wR (y0+1)),y1,y2,y3)))
 else(some y3)
theorem QeZ:OfL Kc v7:=ofL 219 0
def Qil:rF QaU:=fun D L (a0,a1)=>
 (Kc L (0,a0,a1,[])).bind fun z2=>
 some z2
theorem QpU:OfF QaU Qil:=ofF 219
def jy:rL K0:=fun D L (y0,y1,y2,y3,y4)=>
 bif (decide (y2<y1))then(bif inb y2 y0.length then
 let e4:=(rd1 Yk y0 y2);
 (JQ D (y3,y4,e4)).bind fun r5=>
 K0 L (y0,y1,(wR (y2+1)),r5)else none)
 else(some (y3,y4))
theorem Qb3:OfL K0 jy:=ofL 220 0
def QfA:rF qS:=fun D L (a0,a1,a2,a3)=>
 (qv D (a0,a1,a2)).bind fun r1=>
 bif (!r1)then(some ([],[],false))
 else((JJ D (a0,a1,a2)).bind fun r2=>
 (QA D (a3,a1,r2)).bind fun r3=>
 bif (!r3)then(some ([],[],false))
 else(bif decide ((0:Int)<=(wR (a3 - a1))/\(wR (a3 - a1))<=((a2.length:Int):Int)/\(a2.length:Int)<=(a2.length:Int))then
 (K0 L (List.take (Int.toNat ((a2.length:Int) - (wR (a3 - a1)))) (List.drop (Int.toNat (wR (a3 - a1))) a2),((List.length (List.take (Int.toNat ((a2.length:Int) - (wR (a3 - a1)))) (List.drop (Int.toNat (wR (a3 - a1))) a2))):Int),0,[],[])).bind fun z6=>
 some (z6.1,z6.2,true)else none))
theorem QoI:OfF qS QfA:=ofF 220
def JH:rL Zq:=fun D L (y0,y1,y2,y3)=>
 bif (decide (y3<y2))then(bif inb y3 y0.length then
 bif (decide (y1=(rd1 (0:Int) y0 y3)))then(some (Sum.inl y3))
 else(Zq L (y0,y1,y2,(wR (y3+1))))else none)
 else(some (Sum.inr ()))
theorem xG:OfL Zq JH:=ofL 228 0
def zW:rF Vj:=fun D L (a0,a1)=>
 (Zq L (a0,a1,(a0.length:Int),0)).bind fun z1=>
 Qq z1 (fun u2=>
 some u2)
 (fun z3=>
 some (-1))
theorem Qj1:OfF Vj zW:=ofF 228
def xA:rL V9:=fun D L (y0,y1,y2)=>
 bif (decide (y2<(y0.length:Int)))then(bif inb y2 y0.length then
 let e1:=(rd1 XU y0 y2);
 (QcO D (e1.1,e1.2.1,e1.2.2.1,e1.2.2.2.1,e1.2.2.2.2.1,e1.2.2.2.2.2,y1)).bind fun r2=>
 bif (decide (r2<0))then(some (Sum.inl (-1)))
 else(V9 L (y0,r2,(wR (y2+1))))else none)
 else(some (Sum.inr y1))
theorem zb:OfL V9 xA:=ofL 234 0
def QgM:rF Qaf:=fun D L (a0,a1)=>
 bif (decide ((wR (a1 - (a0.length:Int)))<0))then(some (-1))
 else((V9 L (a0,(wR (a1 - (a0.length:Int))),0)).bind fun z3=>
 Qq z3 (fun u4=>
 some u4)
 (fun z5=>
 some z5))
theorem Qp2:OfF Qaf QgM:=ofF 234
def QfV:rF yY:=fun D L (a0,a1)=>
 bif (decide ((wR (a1 - (a0.length:Int)))<0))then(some (-1))
 else(some (wR (a1 - (a0.length:Int))))
theorem QoO:OfF yY QfV:=ofF 235
def qC:rL KR:=fun D L (y0,y1,y2)=>
 bif (decide (y2<(y0.length:Int)))then(bif inb y2 y0.length then
 let e1:=(rd1 Yk y0 y2);
 (JU D (e1.1,e1.2,y1)).bind fun r2=>
 bif (decide (r2<0))then(some (Sum.inl (-1)))
 else(KR L (y0,r2,(wR (y2+1))))else none)
 else(some (Sum.inr y1))
theorem xu:OfL KR qC:=ofL 236 0
def Qfy:rF yP:=fun D L (a0,a1)=>
 bif (decide ((wR (a1 - (a0.length:Int)))<0))then(some (-1))
 else((KR L (a0,(wR (a1 - (a0.length:Int))),0)).bind fun z3=>
 Qq z3 (fun u4=>
 some u4)
 (fun z5=>
 some z5))
theorem Qpm:OfF yP Qfy:=ofF 236
def zG:rL qq:=fun D L (y0,y1,y2)=>
 bif (decide (y2<(y0.length:Int)))then(bif inb y2 y0.length then
 bif inb y2 y1.length then
 bif (!decide ((rd1 (0:Int) y0 y2)=(rd1 (0:Int) y1 y2)))then(some (Sum.inl false))
 else(qq L (y0,y1,(wR (y2+1))))else none else none)
 else(some (Sum.inr ()))
theorem yq:OfL qq zG:=ofL 237 0
def Qa9:rF Qc4:=fun D L (a0,a1)=>
 bif (!decide ((a0.length:Int)=(a1.length:Int)))then(some false)
 else((qq L (a0,a1,0)).bind fun z1=>
 Qq z1 (fun u2=>
 some u2)
 (fun z3=>
 some true))
theorem QrG:OfF Qc4 Qa9:=ofF 237
def Qin:rF vO:=fun D L (a0,a1,a2)=>
 (Zs D (a0,a1)).bind fun r1=>
 bif (!r1)then(some 0)
 else((QH D (a2,0,3)).bind fun r2=>
 bif (!r2)then(some 0)
 else((vJ D (a0,a1,[a2])).bind fun r3=>
 (zg D r3).bind fun r4=>
 (jl D r4).bind fun r5=>
 bif decide ((1024:Int)≠0)then
 some (Int.tmod r5 1024)else none))
theorem Qrd:OfF vO Qin:=ofF 238
def QcC:rL J4:=fun D L (y0,y1,y2)=>
 bif (decide (y1<(y0.length:Int)))then(bif inb y1 y0.length then
 (Xf D (rd1 (0:Int) y0 y1)).bind fun r1=>
 bif fits (y2.length+r1.length) 1 then
 J4 L (y0,(wR (y1+1)),(y2++r1))else none else none)
 else(some y2)
theorem QfM:OfL J4 QcC:=ofL 239 0
def QiK:rF Qc2:=fun D L a0=>
 (J4 L (a0,0,[])).bind fun z2=>
 (jl D z2).bind fun r3=>
 bif decide ((1024:Int)≠0)then
 some (Int.tmod r3 1024)else none
theorem Qsy:OfF Qc2 QiK:=ofF 239
def Qg5:rF Qbm:=fun D L a0=>
 (Xf D ((ByteArray.size a0):Int)).bind fun r1=>
 bif fits (r1.length+List.length (ofBytes a0)) 1 then
 some (r1++(ofBytes a0))else none
theorem QpK:OfF Qbm Qg5:=ofF 240
def Qav:rL VF:=fun D L (y0,y1,y2)=>
 bif (decide (y1<(y0.length:Int)))then(bif inb y1 y0.length then
 let e1:=(rd1 XU y0 y1);
 (QcH D e1).bind fun r2=>
 bif inb y1 y2.length then
 let l3:=List.set y2 (Int.toNat y1) r2;
 VF L (y0,(wR (y1+1)),l3)else none else none)
 else(some y2)
theorem Qdt:OfL VF Qav:=ofL 241 0
def Qgz:rF vE:=fun D L a0=>
 bif (decide ((0:Int)<=(a0.length:Int)/\((a0.length:Int):Int)=(a0.length:Int))&&fits (Int.toNat (a0.length:Int)) 56)then
 (VF L (a0,0,(List.replicate (Int.toNat (a0.length:Int)) (0,0,0,0,0,ByteArray.empty)))).bind fun z4=>
 some z4 else none
theorem Qri:OfF vE Qgz:=ofF 241
def jk:rL K1:=fun D L (y0,y1,y2)=>
 bif (decide (y1<(y0.length:Int)))then(bif inb y1 y0.length then
 let e1:=(rd1 Xy y0 y1);
 (vz D e1).bind fun r2=>
 bif inb y1 y2.length then
 let l3:=List.set y2 (Int.toNat y1) r2;
 K1 L (y0,(wR (y1+1)),l3)else none else none)
 else(some y2)
theorem Qb1:OfL K1 jk:=ofL 242 0
def QfG:rF jb:=fun D L a0=>
 bif (decide ((0:Int)<=(a0.length:Int)/\((a0.length:Int):Int)=(a0.length:Int))&&fits (Int.toNat (a0.length:Int)) 16)then
 (K1 L (a0,0,(List.replicate (Int.toNat (a0.length:Int)) (0,0)))).bind fun z4=>
 some z4 else none
theorem Qo1:OfF jb QfG:=ofF 242
def jn:rL K8:=fun D L (y0,y1,y2)=>
 bif (decide (y1<(y0.length:Int)))then(bif inb y1 y0.length then
 let e1:=(rd1 Yk y0 y1);
 (qf D e1).bind fun r2=>
 bif inb y1 y2.length then
 let l3:=List.set y2 (Int.toNat y1) r2;
 K8 L (y0,(wR (y1+1)),l3)else none else none)
 else(some y2)
theorem Qb2:OfL K8 jn:=ofL 243 0
def QfT:rF yO:=fun D L a0=>
 bif (decide ((0:Int)<=(a0.length:Int)/\((a0.length:Int):Int)=(a0.length:Int))&&fits (Int.toNat (a0.length:Int)) 48)then
 (K8 L (a0,0,(List.replicate (Int.toNat (a0.length:Int)) ([],[])))).bind fun z4=>
 some z4 else none
theorem QoK:OfF yO QfT:=ofF 243
def Qi8:rF Qdc:=fun D L (a0,a1,a2,a3)=>
 some (a0,a1,a2,a3)
theorem QsG:OfF Qdc Qi8:=ofF 244
def Qji:rF Qc6:=fun D L (a0,a1,a2)=>
 some (a0,a1,a2)
theorem Qst:OfF Qc6 Qji:=ofF 245
def QhJ:rF Qbt:=fun D L a0=>
 (QU D ((ByteArray.size a0):Int)).bind fun r1=>
 (X0 D [r1,(ofBytes a0)]).bind fun r2=>
 some r2
theorem Qpy:OfF Qbt QhJ:=ofF 247
def QjZ:rL yK:=fun D L (y0,y1,y2,y3)=>
 bif (decide (y3<y2))then(bif inb y3 y1.length then
 (JD L ((bits .xor .i64 y0 (wR (rd1 (0:Int) y1 y3))),y1,y2,y3,0)).bind fun z1=>
 yK L (z1.1,z1.2.1,z1.2.2.1,(wR (z1.2.2.2+1)))else none)
 else(some y0)
theorem QkB:OfL yK QjZ:=ofL 248 0
def Qj0:rL JD:=fun D L (y0,y1,y2,y3,y4)=>
 bif (decide (y4<8))then(bif decide ((2:Int)≠0)then
 bif decide ((2:Int)≠0)then
 bif (decide ((Int.tmod y0 2)=1))then(JD L ((bits .xor .i64 (wR (Int.tdiv y0 2)) 3988292384),y1,y2,y3,(wR (y4+1))))
 else(JD L ((wR (Int.tdiv y0 2)),y1,y2,y3,(wR (y4+1))))else none else none)
 else(some (y0,y1,y2,y3))
theorem Qks:OfL JD Qj0:=ofL 248 2
def QmI:rF ji:=fun D L a0=>
 (yK L (4294967295,a0,(a0.length:Int),0)).bind fun z2=>
 some (bits .xor .i64 z2 4294967295)
theorem Qxr:OfF ji QmI:=ofF 248
def Yx:rL Zr:=fun D L (y0,y1,y2,y3)=>
 bif (decide (y3<y2))then(bif inb y3 y0.length then
 bif inb y3 y1.length then
 bif (!decide ((rd1 (0:Int) y0 y3)=(rd1 (0:Int) y1 y3)))then(some (Sum.inl false))
 else(Zr L (y0,y1,y2,(wR (y3+1))))else none else none)
 else(some (Sum.inr ()))
theorem Kt:OfL Zr Yx:=ofL 249 0
def Vm:rF Vg:=fun D L (a0,a1)=>
 bif (!decide ((a0.length:Int)=(a1.length:Int)))then(some false)
 else((Zr L (a0,a1,(a0.length:Int),0)).bind fun z1=>
 Qq z1 (fun u2=>
 some u2)
 (fun z3=>
 some true))
theorem Qj4:OfF Vg Vm:=ofF 249
def Qh3:rF Qa5:=fun D L (a0,a1,a2)=>
 (XT D (a0,a1)).bind fun r1=>
 bif (!r1)then(some 0)
 else((QA D (a2,0,3)).bind fun r2=>
 bif (!r2)then(some 0)
 else((Qgd D (a0,a1,[a2])).bind fun r3=>
 (Jr D r3).bind fun r4=>
 (ji D r4).bind fun r5=>
 bif decide ((1024:Int)≠0)then
 some (Int.tmod r5 1024)else none))
theorem QpC:OfF Qa5 Qh3:=ofF 250
def Qcy:rL JT:=fun D L (y0,y1,y2,y3)=>
 bif (decide (y2<y1))then(bif inb y2 y0.length then
 (QU D (rd1 (0:Int) y0 y2)).bind fun r1=>
 (X0 D [y3,r1]).bind fun r2=>
 JT L (y0,y1,(wR (y2+1)),r2)else none)
 else(some y3)
theorem Qfz:OfL JT Qcy:=ofL 251 0
def Qjp:rF Qdk:=fun D L a0=>
 (JT L (a0,(a0.length:Int),0,[])).bind fun z3=>
 (ji D z3).bind fun r4=>
 bif decide ((1024:Int)≠0)then
 some (Int.tmod r4 1024)else none
theorem QsB:OfF Qdk Qjp:=ofF 251
def QhU:rL JZ:=fun D L (y0,y1,y2,y3,y4)=>
 bif (decide (y4<y3))then(bif inb y4 y2.length then
 let e1:=(rd1 Kr y2 y4);
 bif (decide (e1.1=y0))then(bif (e1.2.2.1==y1)then(some (Sum.inl y4))
 else(JZ L (y0,y1,y2,y3,(wR (y4+1)))))
 else(JZ L (y0,y1,y2,y3,(wR (y4+1))))else none)
 else(some (Sum.inr ()))
theorem QjI:OfL JZ QhU:=ofL 252 0
def Qmb:rF Qi9:=fun D L (a0,a1,a2,a3,a4,a5,a6,a7,a8,a9,a10,a11,a12,a13,a14,a15,a16,a17,a18,a19,a20)=>
 (JZ L (a19,a20,a14,(a14.length:Int),0)).bind fun z2=>
 Qq z2 (fun u3=>
 some u3)
 (fun z4=>
 some (-1))
theorem Qvv:OfF Qi9 Qmb:=ofF 252
def QaC:rL Jn:=fun D L (y0,y1,y2)=>
 bif (decide (y2<(y0.length:Int)))then(bif inb y2 y0.length then
 let e1:=(rd1 XU y0 y2);
 bif inb y2 y1.length then
 let e2:=(rd1 XU y1 y2);
 (QcZ D (e1.1,e1.2.1,e1.2.2.1,e1.2.2.2.1,e1.2.2.2.2.1,e1.2.2.2.2.2,e2)).bind fun r3=>
 bif (!r3)then(some (Sum.inl false))
 else(Jn L (y0,y1,(wR (y2+1))))else none else none)
 else(some (Sum.inr ()))
theorem QeG:OfL Jn QaC:=ofL 253 0
def QhX:rF Qbk:=fun D L (a0,a1)=>
 bif (!decide ((a0.length:Int)=(a1.length:Int)))then(some false)
 else((Jn L (a0,a1,0)).bind fun z4=>
 Qq z4 (fun u5=>
 some u5)
 (fun z6=>
 some true))
theorem QpP:OfF Qbk QhX:=ofF 253
def jr:rL KY:=fun D L (y0,y1,y2)=>
 bif (decide (y2<(y0.length:Int)))then(bif inb y2 y0.length then
 let e1:=(rd1 Xy y0 y2);
 bif inb y2 y1.length then
 let e2:=(rd1 Xy y1 y2);
 (j7 D (e1.1,e1.2,e2)).bind fun r3=>
 bif (!r3)then(some (Sum.inl false))
 else(KY L (y0,y1,(wR (y2+1))))else none else none)
 else(some (Sum.inr ()))
theorem Qb9:OfL KY jr:=ofL 254 0
def Qfs:rF yW:=fun D L (a0,a1)=>
 bif (!decide ((a0.length:Int)=(a1.length:Int)))then(some false)
 else((KY L (a0,a1,0)).bind fun z4=>
 Qq z4 (fun u5=>
 some u5)
 (fun z6=>
 some true))
theorem QoM:OfF yW Qfs:=ofF 254
def jA:rL KS:=fun D L (y0,y1,y2)=>
 bif (decide (y2<(y0.length:Int)))then(bif inb y2 y0.length then
 let e1:=(rd1 Yk y0 y2);
 bif inb y2 y1.length then
 let e2:=(rd1 Yk y1 y2);
 (J1 D (e1.1,e1.2,e2)).bind fun r3=>
 bif (!r3)then(some (Sum.inl false))
 else(KS L (y0,y1,(wR (y2+1))))else none else none)
 else(some (Sum.inr ()))
theorem Qb8:OfL KS jA:=ofL 255 0
def Qfq:rF yQ:=fun D L (a0,a1)=>
 bif (!decide ((a0.length:Int)=(a1.length:Int)))then(some false)
 else((KS L (a0,a1,0)).bind fun z4=>
 Qq z4 (fun u5=>
 some u5)
 (fun z6=>
 some true))
theorem Qo5:OfF yQ Qfq:=ofF 255
def Qjy:rF QcX:=fun D L (a0,a1,a2,a3,a4,a5,a6,a7)=>
 bif (!decide (a0=a4))then(some false)
 else(bif (!decide (a1=a5))then(some false)
 else(bif (!(a2==a6))then(some false)
 else(bif (!decide (a3=a7))then(some false)
 else(some true))))
theorem QrS:OfF QcX Qjy:=ofF 256
def Qjl:rF Qdo:=fun D L (a0,a1,a2,a3,a4,a5)=>
 bif (!decide (a0=a3))then(some false)
 else(bif (!decide (a1=a4))then(some false)
 else(bif (!decide (a2=a5))then(some false)
 else(some true)))
theorem QrZ:OfF Qdo Qjl:=ofF 257
def Qcp:rL Qv:=fun D L (y0,y1,y2,y3,y4,y5,y6)=>
 bif (decide (y0<5))then((YF D (y1,y2,y0)).bind fun r1=>
 (YF D (y3,y4,y0)).bind fun r2=>
 (Qf6 D (r1,r2)).bind fun r3=>
 bif (decide (0<r3))then(bif fits (y6.length+ [(y0,r3)].length) 16 then
 (YE D (y1,y2,y0)).bind fun r4=>
 (YE D (y3,y4,y0)).bind fun r5=>
 bif (!r4.2.2.2.2.2)then(bif (!r5.2.2.2.2.2)then(Qv L ((wR (y0+1)),y1,y2,y3,y4,y5,(y6++[(y0,r3)])))
 else(bif (!r4.2.2.2.2.2)then(bif (decide (r3<r5.1))then(bif fits (y5.length+ [(y0,r5.1,r5.2.1,r5.2.2.1,r5.2.2.2.1,r5.2.2.2.2.1)].length) 56 then
 Qv L ((wR (y0+1)),y1,y2,y3,y4,(y5++[(y0,r5.1,r5.2.1,r5.2.2.1,r5.2.2.2.1,r5.2.2.2.2.1)]),(y6++[(y0,r3)]))else none)
 else(Qv L ((wR (y0+1)),y1,y2,y3,y4,y5,(y6++[(y0,r3)]))))
 else(bif r5.2.2.2.2.2 then((Ke D (r5.1,r5.2.1,r5.2.2.1,r5.2.2.2.1,r5.2.2.2.2.1,r4.1,r4.2.1,r4.2.2.1,r4.2.2.2.1,r4.2.2.2.2.1)).bind fun r6=>
 bif (decide (0<r6))then(bif (decide (r3<r5.1))then(bif fits (y5.length+ [(y0,r5.1,r5.2.1,r5.2.2.1,r5.2.2.2.1,r5.2.2.2.2.1)].length) 56 then
 Qv L ((wR (y0+1)),y1,y2,y3,y4,(y5++[(y0,r5.1,r5.2.1,r5.2.2.1,r5.2.2.2.1,r5.2.2.2.2.1)]),(y6++[(y0,r3)]))else none)
 else(Qv L ((wR (y0+1)),y1,y2,y3,y4,y5,(y6++[(y0,r3)]))))
 else(bif (decide (r3<r4.1))then(bif fits (y5.length+ [(y0,r4.1,r4.2.1,r4.2.2.1,r4.2.2.2.1,r4.2.2.2.2.1)].length) 56 then
 Qv L ((wR (y0+1)),y1,y2,y3,y4,(y5++[(y0,r4.1,r4.2.1,r4.2.2.1,r4.2.2.2.1,r4.2.2.2.2.1)]),(y6++[(y0,r3)]))else none)
 else(Qv L ((wR (y0+1)),y1,y2,y3,y4,y5,(y6++[(y0,r3)])))))
 else(bif (decide (r3<r4.1))then(bif fits (y5.length+ [(y0,r4.1,r4.2.1,r4.2.2.1,r4.2.2.2.1,r4.2.2.2.2.1)].length) 56 then
 Qv L ((wR (y0+1)),y1,y2,y3,y4,(y5++[(y0,r4.1,r4.2.1,r4.2.2.1,r4.2.2.2.1,r4.2.2.2.2.1)]),(y6++[(y0,r3)]))else none)
 else(Qv L ((wR (y0+1)),y1,y2,y3,y4,y5,(y6++[(y0,r3)])))))))
 else(bif (!r4.2.2.2.2.2)then(bif (decide (r3<r5.1))then(bif fits (y5.length+ [(y0,r5.1,r5.2.1,r5.2.2.1,r5.2.2.2.1,r5.2.2.2.2.1)].length) 56 then
 Qv L ((wR (y0+1)),y1,y2,y3,y4,(y5++[(y0,r5.1,r5.2.1,r5.2.2.1,r5.2.2.2.1,r5.2.2.2.2.1)]),(y6++[(y0,r3)]))else none)
 else(Qv L ((wR (y0+1)),y1,y2,y3,y4,y5,(y6++[(y0,r3)]))))
 else(bif r5.2.2.2.2.2 then((Ke D (r5.1,r5.2.1,r5.2.2.1,r5.2.2.2.1,r5.2.2.2.2.1,r4.1,r4.2.1,r4.2.2.1,r4.2.2.2.1,r4.2.2.2.2.1)).bind fun r7=>
 bif (decide (0<r7))then(bif (decide (r3<r5.1))then(bif fits (y5.length+ [(y0,r5.1,r5.2.1,r5.2.2.1,r5.2.2.2.1,r5.2.2.2.2.1)].length) 56 then
 Qv L ((wR (y0+1)),y1,y2,y3,y4,(y5++[(y0,r5.1,r5.2.1,r5.2.2.1,r5.2.2.2.1,r5.2.2.2.2.1)]),(y6++[(y0,r3)]))else none)
 else(Qv L ((wR (y0+1)),y1,y2,y3,y4,y5,(y6++[(y0,r3)]))))
 else(bif (decide (r3<r4.1))then(bif fits (y5.length+ [(y0,r4.1,r4.2.1,r4.2.2.1,r4.2.2.2.1,r4.2.2.2.2.1)].length) 56 then
 Qv L ((wR (y0+1)),y1,y2,y3,y4,(y5++[(y0,r4.1,r4.2.1,r4.2.2.1,r4.2.2.2.1,r4.2.2.2.2.1)]),(y6++[(y0,r3)]))else none)
 else(Qv L ((wR (y0+1)),y1,y2,y3,y4,y5,(y6++[(y0,r3)])))))
 else(bif (decide (r3<r4.1))then(bif fits (y5.length+ [(y0,r4.1,r4.2.1,r4.2.2.1,r4.2.2.2.1,r4.2.2.2.2.1)].length) 56 then
 Qv L ((wR (y0+1)),y1,y2,y3,y4,(y5++[(y0,r4.1,r4.2.1,r4.2.2.1,r4.2.2.2.1,r4.2.2.2.2.1)]),(y6++[(y0,r3)]))else none)
 else(Qv L ((wR (y0+1)),y1,y2,y3,y4,y5,(y6++[(y0,r3)]))))))else none)
 else((YE D (y1,y2,y0)).bind fun r8=>
 (YE D (y3,y4,y0)).bind fun r9=>
 bif (!r8.2.2.2.2.2)then(bif (!r9.2.2.2.2.2)then(Qv L ((wR (y0+1)),y1,y2,y3,y4,y5,y6))
 else(bif (!r8.2.2.2.2.2)then(bif (decide (r3<r9.1))then(bif fits (y5.length+ [(y0,r9.1,r9.2.1,r9.2.2.1,r9.2.2.2.1,r9.2.2.2.2.1)].length) 56 then
 Qv L ((wR (y0+1)),y1,y2,y3,y4,(y5++[(y0,r9.1,r9.2.1,r9.2.2.1,r9.2.2.2.1,r9.2.2.2.2.1)]),y6)else none)
 else(Qv L ((wR (y0+1)),y1,y2,y3,y4,y5,y6)))
 else(bif r9.2.2.2.2.2 then((Ke D (r9.1,r9.2.1,r9.2.2.1,r9.2.2.2.1,r9.2.2.2.2.1,r8.1,r8.2.1,r8.2.2.1,r8.2.2.2.1,r8.2.2.2.2.1)).bind fun r10=>
 bif (decide (0<r10))then(bif (decide (r3<r9.1))then(bif fits (y5.length+ [(y0,r9.1,r9.2.1,r9.2.2.1,r9.2.2.2.1,r9.2.2.2.2.1)].length) 56 then
 Qv L ((wR (y0+1)),y1,y2,y3,y4,(y5++[(y0,r9.1,r9.2.1,r9.2.2.1,r9.2.2.2.1,r9.2.2.2.2.1)]),y6)else none)
 else(Qv L ((wR (y0+1)),y1,y2,y3,y4,y5,y6)))
 else(bif (decide (r3<r8.1))then(bif fits (y5.length+ [(y0,r8.1,r8.2.1,r8.2.2.1,r8.2.2.2.1,r8.2.2.2.2.1)].length) 56 then
 Qv L ((wR (y0+1)),y1,y2,y3,y4,(y5++[(y0,r8.1,r8.2.1,r8.2.2.1,r8.2.2.2.1,r8.2.2.2.2.1)]),y6)else none)
 else(Qv L ((wR (y0+1)),y1,y2,y3,y4,y5,y6))))
 else(bif (decide (r3<r8.1))then(bif fits (y5.length+ [(y0,r8.1,r8.2.1,r8.2.2.1,r8.2.2.2.1,r8.2.2.2.2.1)].length) 56 then
 Qv L ((wR (y0+1)),y1,y2,y3,y4,(y5++[(y0,r8.1,r8.2.1,r8.2.2.1,r8.2.2.2.1,r8.2.2.2.2.1)]),y6)else none)
 else(Qv L ((wR (y0+1)),y1,y2,y3,y4,y5,y6))))))
 else(bif (!r8.2.2.2.2.2)then(bif (decide (r3<r9.1))then(bif fits (y5.length+ [(y0,r9.1,r9.2.1,r9.2.2.1,r9.2.2.2.1,r9.2.2.2.2.1)].length) 56 then
 Qv L ((wR (y0+1)),y1,y2,y3,y4,(y5++[(y0,r9.1,r9.2.1,r9.2.2.1,r9.2.2.2.1,r9.2.2.2.2.1)]),y6)else none)
 else(Qv L ((wR (y0+1)),y1,y2,y3,y4,y5,y6)))
 else(bif r9.2.2.2.2.2 then((Ke D (r9.1,r9.2.1,r9.2.2.1,r9.2.2.2.1,r9.2.2.2.2.1,r8.1,r8.2.1,r8.2.2.1,r8.2.2.2.1,r8.2.2.2.2.1)).bind fun r11=>
 bif (decide (0<r11))then(bif (decide (r3<r9.1))then(bif fits (y5.length+ [(y0,r9.1,r9.2.1,r9.2.2.1,r9.2.2.2.1,r9.2.2.2.2.1)].length) 56 then
 Qv L ((wR (y0+1)),y1,y2,y3,y4,(y5++[(y0,r9.1,r9.2.1,r9.2.2.1,r9.2.2.2.1,r9.2.2.2.2.1)]),y6)else none)
 else(Qv L ((wR (y0+1)),y1,y2,y3,y4,y5,y6)))
 else(bif (decide (r3<r8.1))then(bif fits (y5.length+ [(y0,r8.1,r8.2.1,r8.2.2.1,r8.2.2.2.1,r8.2.2.2.2.1)].length) 56 then
 Qv L ((wR (y0+1)),y1,y2,y3,y4,(y5++[(y0,r8.1,r8.2.1,r8.2.2.1,r8.2.2.2.1,r8.2.2.2.2.1)]),y6)else none)
 else(Qv L ((wR (y0+1)),y1,y2,y3,y4,y5,y6))))
 else(bif (decide (r3<r8.1))then(bif fits (y5.length+ [(y0,r8.1,r8.2.1,r8.2.2.1,r8.2.2.2.1,r8.2.2.2.2.1)].length) 56 then
 Qv L ((wR (y0+1)),y1,y2,y3,y4,(y5++[(y0,r8.1,r8.2.1,r8.2.2.1,r8.2.2.2.1,r8.2.2.2.2.1)]),y6)else none)
 else(Qv L ((wR (y0+1)),y1,y2,y3,y4,y5,y6)))))))
 else(some (y5,y6))
theorem QfE:OfL Qv Qcp:=ofL 262 0
def QiE:rF yG:=fun D L (a0,a1,a2,a3)=>
 (Qv L (0,a0,a1,a2,a3,[],[])).bind fun z12=>
 some z12
theorem Qs3:OfF yG QiE:=ofF 262
end
end Go.Proofs.YtiejfnbmficbmaaGreat.M
