/- The tables agree with the program. No conditions. -/
import Derived.Test.YtameehmkoglkeaaDoorFnExactMsgTextTab
import Derived.Below
import Derived.Shelf.Small.Strs
import Derived.Shelf.Strconv.Itoa3
import Derived.Shelf.Strings.OnBuilder
set_option linter.all false
namespace Go.Proofs.YtameehmkoglkeaaDoor.M
open Go Go.Eng Go.Proofs Go.RowKit Go.Sort
set_option linter.unusedVariables false
noncomputable section
theorem vP (w:World) (k:Nat) (os:Array Obj):Below w.heap.size w (grow (w.drewN k) os):=by
 refine⟨rfl,rfl,rfl, ?_,fun b hb=> ?_⟩
 ·simp[grow,World.drewN]
 ·simp only[grow,World.drewN]
  exact Array.getElem?_append_left hb
theorem hfn:Qir.jM fun n fn=>Tryd.prog.funcs[Qio.get n n]? =some fn:=⟨Tryd.func76,⟨Tryd.func45,⟨Tryd.func36,⟨Tryd.func20,⟨Tryd.func18,⟨Tryd.func5,trivial,trivial⟩,⟨Tryd.func19,trivial,trivial⟩⟩,⟨Tryd.func22,⟨Tryd.func21,trivial,trivial⟩,⟨Tryd.func34,trivial,trivial⟩⟩⟩,⟨Tryd.func41,⟨Tryd.func39,⟨Tryd.func37,trivial,trivial⟩,⟨Tryd.func40,trivial,trivial⟩⟩,⟨Tryd.func43,⟨Tryd.func42,trivial,trivial⟩,⟨Tryd.func44,trivial,trivial⟩⟩⟩⟩,⟨Tryd.func53,⟨Tryd.func49,⟨Tryd.func47,⟨Tryd.func46,trivial,trivial⟩,⟨Tryd.func48,trivial,trivial⟩⟩,⟨Tryd.func51,⟨Tryd.func50,trivial,trivial⟩,⟨Tryd.func52,trivial,trivial⟩⟩⟩,⟨Tryd.func57,⟨Tryd.func55,⟨Tryd.func54,trivial,trivial⟩,⟨Tryd.func56,trivial,trivial⟩⟩,⟨Tryd.func75,⟨Tryd.func71,trivial,trivial⟩,trivial⟩⟩⟩⟩,⟨Tryd.func91,⟨Tryd.func84,⟨Tryd.func80,⟨Tryd.func78,⟨Tryd.func77,trivial,trivial⟩,⟨Tryd.func79,trivial,trivial⟩⟩,⟨Tryd.func82,⟨Tryd.func81,trivial,trivial⟩,⟨Tryd.func83,trivial,trivial⟩⟩⟩,⟨Tryd.func88,⟨Tryd.func86,⟨Tryd.func85,trivial,trivial⟩,⟨Tryd.func87,trivial,trivial⟩⟩,⟨Tryd.func90,⟨Tryd.func89,trivial,trivial⟩,trivial⟩⟩⟩,⟨Tryd.func108,⟨Tryd.func104,⟨Tryd.func93,⟨Tryd.func92,trivial,trivial⟩,⟨Tryd.func103,trivial,trivial⟩⟩,⟨Tryd.func106,⟨Tryd.func105,trivial,trivial⟩,⟨Tryd.func107,trivial,trivial⟩⟩⟩,⟨Tryd.func124,⟨Tryd.func110,⟨Tryd.func109,trivial,trivial⟩,⟨Tryd.func111,trivial,trivial⟩⟩,⟨Tryd.func126,⟨Tryd.func125,trivial,trivial⟩,trivial⟩⟩⟩⟩⟩
def Qa3:Go.Shelf.Ren:=⟨fun|156=>40|165=>72|166=>73|169=>74|240=>101|241=>102|276=>122|277=>123|n=>n,fun|31=>72|9=>9|3=>3|4=>4|0=>0|20=>20|72=>107|76=>111|70=>105|37=>66|75=>110|127=>141|164=>159|5=>5|80=>113|n=>n,fun|n=>n⟩
theorem QgC:Go.Proofs.Lays.n156 Tryd.prog Qa3:= {
 mixed:=by kernel_rfl
 f156:=Tryd.func40.trans (congrArg some (by kernel_rfl))
 f165:=Tryd.func72.trans (congrArg some (by kernel_rfl))
 f166:=Tryd.func73.trans (congrArg some (by kernel_rfl))
 f169:=Tryd.func74.trans (congrArg some (by kernel_rfl))
 f240:=Tryd.func101.trans (congrArg some (by kernel_rfl))
 f241:=Tryd.func102.trans (congrArg some (by kernel_rfl))
 f276:=Tryd.func122.trans (congrArg some (by kernel_rfl))
 f277:=Tryd.func123.trans (congrArg some (by kernel_rfl))
 t0:=Tryd.underlying0
 a0:=Tryd.isAgg0
 z0:=Tryd.sizeOf0
 v0:=Tryd.zeroValue0
 t3:=Tryd.underlying3
 a3:=Tryd.isAgg3
 z3:=Tryd.sizeOf3
 v3:=Tryd.zeroValue3
 t4:=Tryd.underlying4
 a4:=Tryd.isAgg4
 z4:=Tryd.sizeOf4
 v4:=Tryd.zeroValue4
 t9:=Tryd.underlying9
 a9:=Tryd.isAgg9
 z9:=Tryd.sizeOf9
 v9:=Tryd.zeroValue9
 t20:=Tryd.underlying20
 a20:=Tryd.isAgg20
 z20:=Tryd.sizeOf20
 v20:=Tryd.zeroValue20
 t31:=Tryd.underlying72
 a31:=Tryd.isAgg72
 z31:=Tryd.sizeOf72
 v31:=Tryd.zeroValue72
 t37:=Tryd.underlying66
 a37:=Tryd.isAgg66
 z37:=Tryd.sizeOf66
 v37:=Tryd.zeroValue66
 t70:=Tryd.underlying105
 a70:=Tryd.isAgg105
 z70:=Tryd.sizeOf105
 v70:=Tryd.zeroValue105
 t72:=Tryd.underlying107
 a72:=Tryd.isAgg107
 z72:=Tryd.sizeOf107
 v72:=Tryd.zeroValue107
 t75:=Tryd.underlying110
 a75:=Tryd.isAgg110
 z75:=Tryd.sizeOf110
 v75:=Tryd.zeroValue110
 t76:=Tryd.underlying111
 a76:=Tryd.isAgg111
 z76:=Tryd.sizeOf111
 v76:=Tryd.zeroValue111
 t127:=Tryd.underlying141
 a127:=Tryd.isAgg141
 z127:=Tryd.sizeOf141
 v127:=Tryd.zeroValue141
 t164:=Tryd.underlying159
 a164:=Tryd.isAgg159
 z164:=Tryd.sizeOf159
 v164:=Tryd.zeroValue159}
theorem Qg3:Go.Proofs.Builder.Extra Tryd.prog Qa3:= {
 sizeBuilder:=by kernel_rfl
 liesBuilder:=by kernel_rfl
 t5:=Tryd.underlying5
 a5:=Tryd.isAgg5
 z5:=Tryd.sizeOf5
 v5:=Tryd.zeroValue5
 infoByte:=by kernel_rfl
 cellsByte:=by kernel_rfl
 sizeByte:=by kernel_rfl
 neB5:=of_decide_eq_true (by kernel_rfl)}
theorem QjA (ins:Qc (E.sig 40).ins) (outs:Qc (E.sig 40).outs) (ho:QaN (show List ByteArray×ByteArray from ins)=some (show ByteArray from outs)):Yp Tryd.prog E.gg (E.sig 40) (E.real 40) (unpack _ ins) (unpack _ outs):=by
 unfold QaN at ho
 by_cases hc:(show List ByteArray×ByteArray from ins).1.length<=140737488355328/\(Go.Lib.join ((show List ByteArray×ByteArray from ins).1.map (·.data.toList)) (show List ByteArray×ByteArray from ins).2.data.toList).length<=140737488355328
 ·rw[decide_eq_true hc]at ho
  have ho:=Option.some.inj ho
  have hx:=QgT (P:=Tryd.prog) (gg:=E.gg) (f:=40) (sg:=E.sig 40) (m3:= .ro) (by kernel_rfl) (by kernel_rfl) rfl (show List ByteArray×ByteArray from ins).1 (show List ByteArray×ByteArray from ins).2 (show ByteArray from outs)
   (fun h0 w ad c _=>by
     rw[<-ho,h0]
     exact(Any.strings_Join_none QgC Qg3 ad c _ w).mono fun e w' ⟨he,hw⟩=>⟨he,hw▸Below.refl _ _⟩)
   (fun w bk o c _ hcells hbk hcap=>by
     rw[<-ho]
     exact Any.strings_Join QgC Qg3 bk o c _ _ w hcells hbk hc.1 hcap hc.2)
  exact hx
 ·rw[decide_eq_false hc]at ho
  cases ho
def QfO:Go.Shelf.Ren:=⟨fun|171=>71|243=>100|246=>121|283=>137|284=>138|285=>139|286=>140|129=>146|317=>145|318=>147|319=>148|320=>149|337=>152|338=>153|n=>n,fun|3=>3|9=>9|2=>2|4=>4|171=>177|0=>0|53=>178|37=>66|5=>5|173=>181|212=>189|51=>174|20=>20|213=>190|46=>155|232=>201|233=>202|n=>n,fun|17=>3|18=>6|19=>7|n=>n⟩
theorem QjF:Go.Proofs.LaysM.n171 Tryd.prog QfO:= {
 mixed:=by kernel_rfl
 f129:=Tryd.func146.trans (congrArg some (by kernel_rfl))
 f171:=Tryd.func71.trans (congrArg some (by kernel_rfl))
 f243:=Tryd.func100.trans (congrArg some (by kernel_rfl))
 f246:=Tryd.func121.trans (congrArg some (by kernel_rfl))
 f283:=Tryd.func137.trans (congrArg some (by kernel_rfl))
 f284:=Tryd.func138.trans (congrArg some (by kernel_rfl))
 f285:=Tryd.func139.trans (congrArg some (by kernel_rfl))
 f286:=Tryd.func140.trans (congrArg some (by kernel_rfl))
 f317:=Tryd.func145.trans (congrArg some (by kernel_rfl))
 f318:=Tryd.func147.trans (congrArg some (by kernel_rfl))
 f319:=Tryd.func148.trans (congrArg some (by kernel_rfl))
 f320:=Tryd.func149.trans (congrArg some (by kernel_rfl))
 f337:=Tryd.func152.trans (congrArg some (by kernel_rfl))
 f338:=Tryd.func153.trans (congrArg some (by kernel_rfl))
 t0:=Tryd.underlying0
 a0:=Tryd.isAgg0
 z0:=Tryd.sizeOf0
 v0:=Tryd.zeroValue0
 t2:=Tryd.underlying2
 a2:=Tryd.isAgg2
 z2:=Tryd.sizeOf2
 v2:=Tryd.zeroValue2
 t3:=Tryd.underlying3
 a3:=Tryd.isAgg3
 z3:=Tryd.sizeOf3
 v3:=Tryd.zeroValue3
 t4:=Tryd.underlying4
 a4:=Tryd.isAgg4
 z4:=Tryd.sizeOf4
 v4:=Tryd.zeroValue4
 t5:=Tryd.underlying5
 a5:=Tryd.isAgg5
 z5:=Tryd.sizeOf5
 v5:=Tryd.zeroValue5
 t9:=Tryd.underlying9
 a9:=Tryd.isAgg9
 z9:=Tryd.sizeOf9
 v9:=Tryd.zeroValue9
 t20:=Tryd.underlying20
 a20:=Tryd.isAgg20
 z20:=Tryd.sizeOf20
 v20:=Tryd.zeroValue20
 t37:=Tryd.underlying66
 a37:=Tryd.isAgg66
 z37:=Tryd.sizeOf66
 v37:=Tryd.zeroValue66
 t46:=Tryd.underlying155
 a46:=Tryd.isAgg155
 z46:=Tryd.sizeOf155
 v46:=Tryd.zeroValue155
 t51:=Tryd.underlying174
 a51:=Tryd.isAgg174
 z51:=Tryd.sizeOf174
 v51:=Tryd.zeroValue174
 t53:=Tryd.underlying178
 a53:=Tryd.isAgg178
 z53:=Tryd.sizeOf178
 v53:=Tryd.zeroValue178
 t171:=Tryd.underlying177
 a171:=Tryd.isAgg177
 z171:=Tryd.sizeOf177
 v171:=Tryd.zeroValue177
 t173:=Tryd.underlying181
 a173:=Tryd.isAgg181
 z173:=Tryd.sizeOf181
 v173:=Tryd.zeroValue181
 t212:=Tryd.underlying189
 a212:=Tryd.isAgg189
 z212:=Tryd.sizeOf189
 v212:=Tryd.zeroValue189
 t213:=Tryd.underlying190
 a213:=Tryd.isAgg190
 z213:=Tryd.sizeOf190
 t232:=Tryd.underlying201
 a232:=Tryd.isAgg201
 z232:=Tryd.sizeOf201
 v232:=Tryd.zeroValue201
 t233:=Tryd.underlying202
 a233:=Tryd.isAgg202
 z233:=Tryd.sizeOf202
 v233:=Tryd.zeroValue202
 g17:=by kernel_rfl
 g18:=by kernel_rfl
 g19:=by kernel_rfl
 i0:=by kernel_rfl
 i2:=by kernel_rfl
 i3:=by kernel_rfl
 i4:=by kernel_rfl
 i5:=by kernel_rfl
 i9:=by kernel_rfl
 i20:=by kernel_rfl
 i37:=by kernel_rfl
 i46:=by kernel_rfl
 i51:=by kernel_rfl
 i53:=by kernel_rfl
 i171:=by kernel_rfl
 i173:=by kernel_rfl
 i212:=by kernel_rfl
 i232:=by kernel_rfl
 i233:=by kernel_rfl
 m17:=by kernel_rfl
 m18:=by kernel_rfl
 m19:=by kernel_rfl}
theorem Qjs (ins:Qc (E.sig 71).ins) (outs:Qc (E.sig 71).outs) (ho:QaM (show Int from ins)=some (show ByteArray from outs)):Yp Tryd.prog E.gg (E.sig 71) (E.real 71) (unpack _ ins) (unpack _ outs):=by
 unfold QaM at ho
 by_cases hc: -9223372036854775808<=(show Int from ins)/\(show Int from ins)<=9223372036854775807
 ·rw[decide_eq_true hc]at ho
  have ho:=Option.some.inj ho
  have hx:=Qg9 (P:=Tryd.prog) (gg:=E.gg) (f:=71) (sg:=E.sig 71) (k:= .i64) (m3:= .ro) (by kernel_rfl) (by kernel_rfl) rfl (show Int from ins) ⟨(Go.Lib.itoa (show Int from ins)).toArray⟩ (fun w hgl=>(Any.strconv_Itoa QjF (show Int from ins) hc.1 hc.2 w hgl).mono fun e w' ⟨he,k,os,hw⟩=>⟨he,hw▸vP w k os⟩)
  rw[ho]at hx
  exact hx
 ·rw[decide_eq_false hc]at ho
  cases ho
theorem QjS (f:Nat) (h:Qc (E.sig f).ins->Option (Qc (E.sig f).outs)) (he:E.ext f=some h) (ins:Qc (E.sig f).ins) (outs:Qc (E.sig f).outs) (ho:h ins=some outs):Yp Tryd.prog E.gg (E.sig f) (E.real f) (unpack _ ins) (unpack _ outs):=by
 have he:QhA f=some h:=he
 unfold QhA at he
 split at he
 ·rename_i hf
  subst hf
  have e:=Option.some.inj he
  subst e
  exact QjA ins outs ho
 ·
  split at he
  ·rename_i hf
   subst hf
   have e:=Option.some.inj he
   subst e
   exact Qjs ins outs ho
  ·
   cases he
theorem Qla:EnvCode Tryd.prog E:=Qfx hfn (QhJ (by kernel_rfl)) (by kernel_rfl) QjS
theorem hTy:QN Tryd.prog E:=QhS rfl (by kernel_rfl) (fun T _=>QkV (by kernel_rfl) T)
theorem hRd:∀T,rdB Tryd.prog E.ty T (E.ty T)=true:=QjY (ty:=tyT) (by kernel_rfl)
theorem Qk9:EnvLoops E:=Qez (by kernel_rfl) (by kernel_rfl) (by kernel_rfl)
theorem hmix:Tryd.prog.follows .mixedOrders=true:=by kernel_rfl
end
end Go.Proofs.YtameehmkoglkeaaDoor.M
