/- The tables agree with the program. No conditions. -/
import Derived.Test.YtameehmkoglkeaaGreatDoorFnExactNodeTextTab
import Derived.Below
import Derived.Shelf.Small.Strs
import Derived.Shelf.Strconv.Itoa3
import Derived.Shelf.Strings.OnBuilder
set_option linter.all false
namespace Go.Proofs.YtameehmkoglkeaaGreatDoor.M
open Go Go.Eng Go.Proofs Go.RowKit Go.Sort
set_option linter.unusedVariables false
noncomputable section
theorem Qf0 (w:World) (k:Nat) (os:Array Obj):Below w.heap.size w (grow (w.drewN k) os):=by
 refine⟨rfl,rfl,rfl, ?_,fun b hb=> ?_⟩
 ·simp[grow,World.drewN]
 ·simp only[grow,World.drewN]
  exact Array.getElem?_append_left hb
theorem hfn:Qqf.QdO fun n fn=>Tryz.prog.funcs[Qqm.get n n]? =some fn:=⟨Tryz.func80,⟨Tryz.func37,⟨Tryz.func23,⟨Tryz.func16,⟨Tryz.func7,⟨Tryz.func5,⟨Tryz.func3,trivial,trivial⟩,⟨Tryz.func6,trivial,trivial⟩⟩,⟨Tryz.func9,⟨Tryz.func8,trivial,trivial⟩,⟨Tryz.func15,trivial,trivial⟩⟩⟩,⟨Tryz.func20,⟨Tryz.func18,⟨Tryz.func17,trivial,trivial⟩,⟨Tryz.func19,trivial,trivial⟩⟩,⟨Tryz.func22,⟨Tryz.func21,trivial,trivial⟩,trivial⟩⟩⟩,⟨Tryz.func30,⟨Tryz.func27,⟨Tryz.func25,⟨Tryz.func24,trivial,trivial⟩,⟨Tryz.func26,trivial,trivial⟩⟩,⟨Tryz.func29,⟨Tryz.func28,trivial,trivial⟩,trivial⟩⟩,⟨Tryz.func34,⟨Tryz.func32,⟨Tryz.func31,trivial,trivial⟩,⟨Tryz.func33,trivial,trivial⟩⟩,⟨Tryz.func36,⟨Tryz.func35,trivial,trivial⟩,trivial⟩⟩⟩⟩,⟨Tryz.func66,⟨Tryz.func44,⟨Tryz.func41,⟨Tryz.func39,⟨Tryz.func38,trivial,trivial⟩,⟨Tryz.func40,trivial,trivial⟩⟩,⟨Tryz.func43,⟨Tryz.func42,trivial,trivial⟩,trivial⟩⟩,⟨Tryz.func63,⟨Tryz.func61,⟨Tryz.func60,trivial,trivial⟩,⟨Tryz.func62,trivial,trivial⟩⟩,⟨Tryz.func65,⟨Tryz.func64,trivial,trivial⟩,trivial⟩⟩⟩,⟨Tryz.func73,⟨Tryz.func70,⟨Tryz.func68,⟨Tryz.func67,trivial,trivial⟩,⟨Tryz.func69,trivial,trivial⟩⟩,⟨Tryz.func72,⟨Tryz.func71,trivial,trivial⟩,trivial⟩⟩,⟨Tryz.func77,⟨Tryz.func75,⟨Tryz.func74,trivial,trivial⟩,⟨Tryz.func76,trivial,trivial⟩⟩,⟨Tryz.func79,⟨Tryz.func78,trivial,trivial⟩,trivial⟩⟩⟩⟩⟩,⟨Tryz.func128,⟨Tryz.func94,⟨Tryz.func87,⟨Tryz.func84,⟨Tryz.func82,⟨Tryz.func81,trivial,trivial⟩,⟨Tryz.func83,trivial,trivial⟩⟩,⟨Tryz.func86,⟨Tryz.func85,trivial,trivial⟩,trivial⟩⟩,⟨Tryz.func91,⟨Tryz.func89,⟨Tryz.func88,trivial,trivial⟩,⟨Tryz.func90,trivial,trivial⟩⟩,⟨Tryz.func93,⟨Tryz.func92,trivial,trivial⟩,trivial⟩⟩⟩,⟨Tryz.func121,⟨Tryz.func118,⟨Tryz.func96,⟨Tryz.func95,trivial,trivial⟩,⟨Tryz.func97,trivial,trivial⟩⟩,⟨Tryz.func120,⟨Tryz.func119,trivial,trivial⟩,trivial⟩⟩,⟨Tryz.func125,⟨Tryz.func123,⟨Tryz.func122,trivial,trivial⟩,⟨Tryz.func124,trivial,trivial⟩⟩,⟨Tryz.func127,⟨Tryz.func126,trivial,trivial⟩,trivial⟩⟩⟩⟩,⟨Tryz.func161,⟨Tryz.func139,⟨Tryz.func132,⟨Tryz.func130,⟨Tryz.func129,trivial,trivial⟩,⟨Tryz.func131,trivial,trivial⟩⟩,⟨Tryz.func134,⟨Tryz.func133,trivial,trivial⟩,trivial⟩⟩,⟨Tryz.func153,⟨Tryz.func142,⟨Tryz.func140,trivial,trivial⟩,⟨Tryz.func145,trivial,trivial⟩⟩,⟨Tryz.func157,⟨Tryz.func156,trivial,trivial⟩,trivial⟩⟩⟩,⟨Tryz.func171,⟨Tryz.func165,⟨Tryz.func163,⟨Tryz.func162,trivial,trivial⟩,⟨Tryz.func164,trivial,trivial⟩⟩,⟨Tryz.func170,⟨Tryz.func166,trivial,trivial⟩,trivial⟩⟩,⟨Tryz.func177,⟨Tryz.func175,⟨Tryz.func174,trivial,trivial⟩,⟨Tryz.func176,trivial,trivial⟩⟩,⟨Tryz.func185,⟨Tryz.func178,trivial,trivial⟩,trivial⟩⟩⟩⟩⟩⟩
def Qf5:Go.Shelf.Ren:=⟨fun|156=>92|165=>136|166=>137|169=>138|240=>168|241=>169|276=>183|277=>184|n=>n,fun|31=>143|9=>9|3=>3|4=>4|0=>0|20=>20|72=>194|76=>198|70=>192|37=>99|75=>197|127=>220|164=>231|5=>5|80=>200|n=>n,fun|n=>n⟩
theorem Qok:Go.Proofs.Lays.n156 Tryz.prog Qf5:= {
 mixed:=by kernel_rfl
 f156:=Tryz.func92.trans (congrArg some (by kernel_rfl))
 f165:=Tryz.func136.trans (congrArg some (by kernel_rfl))
 f166:=Tryz.func137.trans (congrArg some (by kernel_rfl))
 f169:=Tryz.func138.trans (congrArg some (by kernel_rfl))
 f240:=Tryz.func168.trans (congrArg some (by kernel_rfl))
 f241:=Tryz.func169.trans (congrArg some (by kernel_rfl))
 f276:=Tryz.func183.trans (congrArg some (by kernel_rfl))
 f277:=Tryz.func184.trans (congrArg some (by kernel_rfl))
 t0:=Tryz.underlying0
 a0:=Tryz.isAgg0
 z0:=Tryz.sizeOf0
 v0:=Tryz.zeroValue0
 t3:=Tryz.underlying3
 a3:=Tryz.isAgg3
 z3:=Tryz.sizeOf3
 v3:=Tryz.zeroValue3
 t4:=Tryz.underlying4
 a4:=Tryz.isAgg4
 z4:=Tryz.sizeOf4
 v4:=Tryz.zeroValue4
 t9:=Tryz.underlying9
 a9:=Tryz.isAgg9
 z9:=Tryz.sizeOf9
 v9:=Tryz.zeroValue9
 t20:=Tryz.underlying20
 a20:=Tryz.isAgg20
 z20:=Tryz.sizeOf20
 v20:=Tryz.zeroValue20
 t31:=Tryz.underlying143
 a31:=Tryz.isAgg143
 z31:=Tryz.sizeOf143
 v31:=Tryz.zeroValue143
 t37:=Tryz.underlying99
 a37:=Tryz.isAgg99
 z37:=Tryz.sizeOf99
 v37:=Tryz.zeroValue99
 t70:=Tryz.underlying192
 a70:=Tryz.isAgg192
 z70:=Tryz.sizeOf192
 v70:=Tryz.zeroValue192
 t72:=Tryz.underlying194
 a72:=Tryz.isAgg194
 z72:=Tryz.sizeOf194
 v72:=Tryz.zeroValue194
 t75:=Tryz.underlying197
 a75:=Tryz.isAgg197
 z75:=Tryz.sizeOf197
 v75:=Tryz.zeroValue197
 t76:=Tryz.underlying198
 a76:=Tryz.isAgg198
 z76:=Tryz.sizeOf198
 v76:=Tryz.zeroValue198
 t127:=Tryz.underlying220
 a127:=Tryz.isAgg220
 z127:=Tryz.sizeOf220
 v127:=Tryz.zeroValue220
 t164:=Tryz.underlying231
 a164:=Tryz.isAgg231
 z164:=Tryz.sizeOf231
 v164:=Tryz.zeroValue231}
theorem Qos:Go.Proofs.Builder.Extra Tryz.prog Qf5:= {
 sizeBuilder:=by kernel_rfl
 liesBuilder:=by kernel_rfl
 t5:=Tryz.underlying5
 a5:=Tryz.isAgg5
 z5:=Tryz.sizeOf5
 v5:=Tryz.zeroValue5
 infoByte:=by kernel_rfl
 cellsByte:=by kernel_rfl
 sizeByte:=by kernel_rfl
 neB5:=of_decide_eq_true (by kernel_rfl)}
theorem QrK (ins:Qc (E.sig 92).ins) (outs:Qc (E.sig 92).outs) (ho:Qgk (show List ByteArray×ByteArray from ins)=some (show ByteArray from outs)):Vc Tryz.prog E.gg (E.sig 92) (E.real 92) (unpack _ ins) (unpack _ outs):=by
 unfold Qgk at ho
 by_cases hc:(show List ByteArray×ByteArray from ins).1.length<=140737488355328/\(Go.Lib.join ((show List ByteArray×ByteArray from ins).1.map (·.data.toList)) (show List ByteArray×ByteArray from ins).2.data.toList).length<=140737488355328
 ·rw[decide_eq_true hc]at ho
  have ho:=QY7 ho
  have hx:=QoP (P:=Tryz.prog) (gg:=E.gg) (f:=92) (sg:=E.sig 92) (m3:= .ro) (by kernel_rfl) (by kernel_rfl) rfl (show List ByteArray×ByteArray from ins).1 (show List ByteArray×ByteArray from ins).2 (show ByteArray from outs)
   (fun h0 w ad c _=>by
     rw[<-ho,h0]
     exact(Any.strings_Join_none Qok Qos ad c _ w).mono fun e w' ⟨he,hw⟩=>⟨he,hw▸Below.refl _ _⟩)
   (fun w bk o c _ hcells hbk hcap=>by
     rw[<-ho]
     exact Any.strings_Join Qok Qos bk o c _ _ w hcells hbk hc.1 hcap hc.2)
  exact hx
 ·rw[decide_eq_false hc]at ho
  cases ho
def Qns:Go.Shelf.Ren:=⟨fun|171=>89|243=>135|246=>167|283=>179|284=>180|285=>181|286=>182|129=>187|317=>186|318=>188|319=>189|320=>190|337=>191|338=>192|n=>n,fun|3=>3|9=>9|2=>2|4=>4|171=>225|0=>0|53=>226|37=>99|5=>5|173=>229|212=>234|51=>235|20=>20|213=>236|46=>224|232=>239|233=>240|n=>n,fun|17=>0|18=>2|19=>3|n=>n⟩
theorem Qrj:Go.Proofs.LaysM.n171 Tryz.prog Qns:= {
 mixed:=by kernel_rfl
 f129:=Tryz.func187.trans (congrArg some (by kernel_rfl))
 f171:=Tryz.func89.trans (congrArg some (by kernel_rfl))
 f243:=Tryz.func135.trans (congrArg some (by kernel_rfl))
 f246:=Tryz.func167.trans (congrArg some (by kernel_rfl))
 f283:=Tryz.func179.trans (congrArg some (by kernel_rfl))
 f284:=Tryz.func180.trans (congrArg some (by kernel_rfl))
 f285:=Tryz.func181.trans (congrArg some (by kernel_rfl))
 f286:=Tryz.func182.trans (congrArg some (by kernel_rfl))
 f317:=Tryz.func186.trans (congrArg some (by kernel_rfl))
 f318:=Tryz.func188.trans (congrArg some (by kernel_rfl))
 f319:=Tryz.func189.trans (congrArg some (by kernel_rfl))
 f320:=Tryz.func190.trans (congrArg some (by kernel_rfl))
 f337:=Tryz.func191.trans (congrArg some (by kernel_rfl))
 f338:=Tryz.func192.trans (congrArg some (by kernel_rfl))
 t0:=Tryz.underlying0
 a0:=Tryz.isAgg0
 z0:=Tryz.sizeOf0
 v0:=Tryz.zeroValue0
 t2:=Tryz.underlying2
 a2:=Tryz.isAgg2
 z2:=Tryz.sizeOf2
 v2:=Tryz.zeroValue2
 t3:=Tryz.underlying3
 a3:=Tryz.isAgg3
 z3:=Tryz.sizeOf3
 v3:=Tryz.zeroValue3
 t4:=Tryz.underlying4
 a4:=Tryz.isAgg4
 z4:=Tryz.sizeOf4
 v4:=Tryz.zeroValue4
 t5:=Tryz.underlying5
 a5:=Tryz.isAgg5
 z5:=Tryz.sizeOf5
 v5:=Tryz.zeroValue5
 t9:=Tryz.underlying9
 a9:=Tryz.isAgg9
 z9:=Tryz.sizeOf9
 v9:=Tryz.zeroValue9
 t20:=Tryz.underlying20
 a20:=Tryz.isAgg20
 z20:=Tryz.sizeOf20
 v20:=Tryz.zeroValue20
 t37:=Tryz.underlying99
 a37:=Tryz.isAgg99
 z37:=Tryz.sizeOf99
 v37:=Tryz.zeroValue99
 t46:=Tryz.underlying224
 a46:=Tryz.isAgg224
 z46:=Tryz.sizeOf224
 v46:=Tryz.zeroValue224
 t51:=Tryz.underlying235
 a51:=Tryz.isAgg235
 z51:=Tryz.sizeOf235
 v51:=Tryz.zeroValue235
 t53:=Tryz.underlying226
 a53:=Tryz.isAgg226
 z53:=Tryz.sizeOf226
 v53:=Tryz.zeroValue226
 t171:=Tryz.underlying225
 a171:=Tryz.isAgg225
 z171:=Tryz.sizeOf225
 v171:=Tryz.zeroValue225
 t173:=Tryz.underlying229
 a173:=Tryz.isAgg229
 z173:=Tryz.sizeOf229
 v173:=Tryz.zeroValue229
 t212:=Tryz.underlying234
 a212:=Tryz.isAgg234
 z212:=Tryz.sizeOf234
 v212:=Tryz.zeroValue234
 t213:=Tryz.underlying236
 a213:=Tryz.isAgg236
 z213:=Tryz.sizeOf236
 t232:=Tryz.underlying239
 a232:=Tryz.isAgg239
 z232:=Tryz.sizeOf239
 v232:=Tryz.zeroValue239
 t233:=Tryz.underlying240
 a233:=Tryz.isAgg240
 z233:=Tryz.sizeOf240
 v233:=Tryz.zeroValue240
 g17:=by kernel_rfl
 g18:=by kernel_rfl
 g19:=by kernel_rfl
 i0:=by kernel_rfl
 i2:=by kernel_rfl
 i3:=by kernel_rfl
 i4:=by kernel_rfl
 i5:=by kernel_rfl
 i9:=by kernel_rfl
 i20:=by kernel_rfl
 i37:=by kernel_rfl
 i46:=by kernel_rfl
 i51:=by kernel_rfl
 i53:=by kernel_rfl
 i171:=by kernel_rfl
 i173:=by kernel_rfl
 i212:=by kernel_rfl
 i232:=by kernel_rfl
 i233:=by kernel_rfl
 m17:=by kernel_rfl
 m18:=by kernel_rfl
 m19:=by kernel_rfl}
theorem Qrt (ins:Qc (E.sig 89).ins) (outs:Qc (E.sig 89).outs) (ho:Qgo (show Int from ins)=some (show ByteArray from outs)):Vc Tryz.prog E.gg (E.sig 89) (E.real 89) (unpack _ ins) (unpack _ outs):=by
 unfold Qgo at ho
 by_cases hc: -9223372036854775808<=(show Int from ins)/\(show Int from ins)<=9223372036854775807
 ·rw[decide_eq_true hc]at ho
  have ho:=QY7 ho
  have hx:=Qpv (P:=Tryz.prog) (gg:=E.gg) (f:=89) (sg:=E.sig 89) (k:= .i64) (m3:= .ro) (by kernel_rfl) (by kernel_rfl) rfl (show Int from ins) ⟨(Go.Lib.itoa (show Int from ins)).toArray⟩ (fun w hgl=>(Any.strconv_Itoa Qrj (show Int from ins) hc.1 hc.2 w hgl).mono fun e w' ⟨he,k,os,hw⟩=>⟨he,hw▸Qf0 w k os⟩)
  rw[ho]at hx
  exact hx
 ·rw[decide_eq_false hc]at ho
  cases ho
theorem Qsl (f:Nat) (h:Qc (E.sig f).ins->Option (Qc (E.sig f).outs)) (he:E.ext f=some h) (ins:Qc (E.sig f).ins) (outs:Qc (E.sig f).outs) (ho:h ins=some outs):Vc Tryz.prog E.gg (E.sig f) (E.real f) (unpack _ ins) (unpack _ outs):=by
 have he:Qpf f=some h:=he
 unfold Qpf at he
 split at he
 ·rename_i hf
  subst hf
  have e:=QY7 he
  subst e
  exact QrK ins outs ho
 ·
  split at he
  ·rename_i hf
   subst hf
   have e:=QY7 he
   subst e
   exact Qrt ins outs ho
  ·
   cases he
theorem Quz:EnvCode Tryz.prog E:=QmN hfn (QpU (by kernel_rfl)) (by kernel_rfl) Qsl
theorem hTy:Q3 Tryz.prog E:=Qpu rfl (by kernel_rfl) (fun T _=>QtM (by kernel_rfl) T)
theorem hRd:∀T,rdB Tryz.prog E.ty T (E.ty T)=true:=Qtr (ty:=tyT) (by kernel_rfl)
theorem Quy:EnvLoops E:=Qlx (by kernel_rfl) (by kernel_rfl) (by kernel_rfl)
theorem hmix:Tryz.prog.follows .mixedOrders=true:=by kernel_rfl
end
end Go.Proofs.YtameehmkoglkeaaGreatDoor.M
