/- The tables agree with the program. No conditions. -/
import Derived.Test.YtiejfnbmficbmaaGreatFnExactPushAllTab
import Derived.Below
import Derived.Shelf.Small.Strs
set_option linter.all false
namespace Go.Proofs.YtiejfnbmficbmaaGreat.M
open Go Go.Eng Go.Proofs Go.RowKit
set_option linter.unusedVariables false
noncomputable section
theorem hfn:QEf.Qm9 fun n fn=>Tryz.prog.funcs[QDU.get n n]? =some fn:=⟨Tryz.func156,⟨Tryz.func89,⟨Tryz.func44,⟨Tryz.func27,⟨Tryz.func17,⟨Tryz.func12,⟨Tryz.func8,⟨Tryz.func5,trivial,trivial⟩,⟨Tryz.func10,trivial,trivial⟩⟩,⟨Tryz.func16,⟨Tryz.func15,trivial,trivial⟩,trivial⟩⟩,⟨Tryz.func22,⟨Tryz.func20,⟨Tryz.func18,trivial,trivial⟩,trivial⟩,⟨Tryz.func26,⟨Tryz.func23,trivial,trivial⟩,trivial⟩⟩⟩,⟨Tryz.func36,⟨Tryz.func32,⟨Tryz.func29,⟨Tryz.func28,trivial,trivial⟩,⟨Tryz.func31,trivial,trivial⟩⟩,⟨Tryz.func35,⟨Tryz.func33,trivial,trivial⟩,trivial⟩⟩,⟨Tryz.func39,⟨Tryz.func38,⟨Tryz.func37,trivial,trivial⟩,trivial⟩,⟨Tryz.func43,⟨Tryz.func41,trivial,trivial⟩,trivial⟩⟩⟩⟩,⟨Tryz.func68,⟨Tryz.func51,⟨Tryz.func48,⟨Tryz.func46,⟨Tryz.func45,trivial,trivial⟩,⟨Tryz.func47,trivial,trivial⟩⟩,⟨Tryz.func50,⟨Tryz.func49,trivial,trivial⟩,trivial⟩⟩,⟨Tryz.func65,⟨Tryz.func64,⟨Tryz.func52,trivial,trivial⟩,trivial⟩,⟨Tryz.func67,⟨Tryz.func66,trivial,trivial⟩,trivial⟩⟩⟩,⟨Tryz.func82,⟨Tryz.func75,⟨Tryz.func70,⟨Tryz.func69,trivial,trivial⟩,⟨Tryz.func74,trivial,trivial⟩⟩,⟨Tryz.func77,⟨Tryz.func76,trivial,trivial⟩,trivial⟩⟩,⟨Tryz.func86,⟨Tryz.func85,⟨Tryz.func84,trivial,trivial⟩,trivial⟩,⟨Tryz.func88,⟨Tryz.func87,trivial,trivial⟩,trivial⟩⟩⟩⟩⟩,⟨Tryz.func124,⟨Tryz.func111,⟨Tryz.func100,⟨Tryz.func93,⟨Tryz.func91,⟨Tryz.func90,trivial,trivial⟩,⟨Tryz.func92,trivial,trivial⟩⟩,⟨Tryz.func99,⟨Tryz.func94,trivial,trivial⟩,trivial⟩⟩,⟨Tryz.func108,⟨Tryz.func107,⟨Tryz.func101,trivial,trivial⟩,trivial⟩,⟨Tryz.func110,⟨Tryz.func109,trivial,trivial⟩,trivial⟩⟩⟩,⟨Tryz.func118,⟨Tryz.func115,⟨Tryz.func113,⟨Tryz.func112,trivial,trivial⟩,⟨Tryz.func114,trivial,trivial⟩⟩,⟨Tryz.func117,⟨Tryz.func116,trivial,trivial⟩,trivial⟩⟩,⟨Tryz.func121,⟨Tryz.func120,⟨Tryz.func119,trivial,trivial⟩,trivial⟩,⟨Tryz.func123,⟨Tryz.func122,trivial,trivial⟩,trivial⟩⟩⟩⟩,⟨Tryz.func141,⟨Tryz.func135,⟨Tryz.func128,⟨Tryz.func126,⟨Tryz.func125,trivial,trivial⟩,⟨Tryz.func127,trivial,trivial⟩⟩,⟨Tryz.func133,⟨Tryz.func132,trivial,trivial⟩,trivial⟩⟩,⟨Tryz.func138,⟨Tryz.func137,⟨Tryz.func136,trivial,trivial⟩,trivial⟩,⟨Tryz.func140,⟨Tryz.func139,trivial,trivial⟩,trivial⟩⟩⟩,⟨Tryz.func148,⟨Tryz.func145,⟨Tryz.func143,⟨Tryz.func142,trivial,trivial⟩,⟨Tryz.func144,trivial,trivial⟩⟩,⟨Tryz.func147,⟨Tryz.func146,trivial,trivial⟩,trivial⟩⟩,⟨Tryz.func151,⟨Tryz.func150,⟨Tryz.func149,trivial,trivial⟩,trivial⟩,⟨Tryz.func153,⟨Tryz.func152,trivial,trivial⟩,trivial⟩⟩⟩⟩⟩⟩,⟨Tryz.func220,⟨Tryz.func184,⟨Tryz.func171,⟨Tryz.func163,⟨Tryz.func160,⟨Tryz.func158,⟨Tryz.func157,trivial,trivial⟩,⟨Tryz.func159,trivial,trivial⟩⟩,⟨Tryz.func162,⟨Tryz.func161,trivial,trivial⟩,trivial⟩⟩,⟨Tryz.func166,⟨Tryz.func165,⟨Tryz.func164,trivial,trivial⟩,trivial⟩,⟨Tryz.func170,⟨Tryz.func169,trivial,trivial⟩,trivial⟩⟩⟩,⟨Tryz.func178,⟨Tryz.func175,⟨Tryz.func173,⟨Tryz.func172,trivial,trivial⟩,⟨Tryz.func174,trivial,trivial⟩⟩,⟨Tryz.func177,⟨Tryz.func176,trivial,trivial⟩,trivial⟩⟩,⟨Tryz.func181,⟨Tryz.func180,⟨Tryz.func179,trivial,trivial⟩,trivial⟩,⟨Tryz.func183,⟨Tryz.func182,trivial,trivial⟩,trivial⟩⟩⟩⟩,⟨Tryz.func197,⟨Tryz.func191,⟨Tryz.func188,⟨Tryz.func186,⟨Tryz.func185,trivial,trivial⟩,⟨Tryz.func187,trivial,trivial⟩⟩,⟨Tryz.func190,⟨Tryz.func189,trivial,trivial⟩,trivial⟩⟩,⟨Tryz.func194,⟨Tryz.func193,⟨Tryz.func192,trivial,trivial⟩,trivial⟩,⟨Tryz.func196,⟨Tryz.func195,trivial,trivial⟩,trivial⟩⟩⟩,⟨Tryz.func214,⟨Tryz.func205,⟨Tryz.func203,⟨Tryz.func198,trivial,trivial⟩,⟨Tryz.func204,trivial,trivial⟩⟩,⟨Tryz.func207,⟨Tryz.func206,trivial,trivial⟩,trivial⟩⟩,⟨Tryz.func217,⟨Tryz.func216,⟨Tryz.func215,trivial,trivial⟩,trivial⟩,⟨Tryz.func219,⟨Tryz.func218,trivial,trivial⟩,trivial⟩⟩⟩⟩⟩,⟨Tryz.func269,⟨Tryz.func245,⟨Tryz.func239,⟨Tryz.func236,⟨Tryz.func234,⟨Tryz.func228,trivial,trivial⟩,⟨Tryz.func235,trivial,trivial⟩⟩,⟨Tryz.func238,⟨Tryz.func237,trivial,trivial⟩,trivial⟩⟩,⟨Tryz.func242,⟨Tryz.func241,⟨Tryz.func240,trivial,trivial⟩,trivial⟩,⟨Tryz.func244,⟨Tryz.func243,trivial,trivial⟩,trivial⟩⟩⟩,⟨Tryz.func253,⟨Tryz.func250,⟨Tryz.func248,⟨Tryz.func247,trivial,trivial⟩,⟨Tryz.func249,trivial,trivial⟩⟩,⟨Tryz.func252,⟨Tryz.func251,trivial,trivial⟩,trivial⟩⟩,⟨Tryz.func256,⟨Tryz.func255,⟨Tryz.func254,trivial,trivial⟩,trivial⟩,⟨Tryz.func262,⟨Tryz.func257,trivial,trivial⟩,trivial⟩⟩⟩⟩,⟨Tryz.func295,⟨Tryz.func283,⟨Tryz.func280,⟨Tryz.func273,⟨Tryz.func272,trivial,trivial⟩,⟨Tryz.func277,trivial,trivial⟩⟩,⟨Tryz.func282,⟨Tryz.func281,trivial,trivial⟩,trivial⟩⟩,⟨Tryz.func286,⟨Tryz.func285,⟨Tryz.func284,trivial,trivial⟩,trivial⟩,⟨Tryz.func293,⟨Tryz.func289,trivial,trivial⟩,trivial⟩⟩⟩,⟨Tryz.func303,⟨Tryz.func299,⟨Tryz.func297,⟨Tryz.func296,trivial,trivial⟩,⟨Tryz.func298,trivial,trivial⟩⟩,⟨Tryz.func302,⟨Tryz.func301,trivial,trivial⟩,trivial⟩⟩,⟨Tryz.func306,⟨Tryz.func305,⟨Tryz.func304,trivial,trivial⟩,trivial⟩,⟨Tryz.func308,⟨Tryz.func307,trivial,trivial⟩,trivial⟩⟩⟩⟩⟩⟩⟩
def QB0:Go.Shelf.Ren:=⟨fun n=>if n=213 then 308 else 309,fun n=>if n=3 then 3 else 9,fun n=>n⟩
theorem QGf:Go.Proofs.Lays.n213 Tryz.prog QB0:=by
 refine⟨by kernel_rfl,(show Tryz.prog.funcs[(308:Nat)]? =some (Body.n213 QB0)from Tryz.func308.trans (congrArg some (by kernel_rfl))),(show Tryz.prog.funcs[(309:Nat)]? =some (Body.n265 QB0)from Tryz.func309.trans (congrArg some (by kernel_rfl))), ?_, ?_, ?_, ?_, ?_, ?_, ?_, ?_⟩
 all_goals first|kernel_rfl|(intro w;kernel_rfl)
theorem QEO (ins:Qj (E.sig 308).ins) (outs:Qj (E.sig 308).outs) (ho:QCN (show ByteArray×ByteArray from ins)=some (show Int from outs)):Qee Tryz.prog E.gg (E.sig 308) (E.real 308) (unpack _ ins) (unpack _ outs):=by
 have ho:Go.Lib.compareBytes (show ByteArray×ByteArray from ins).1.data.toList (show ByteArray×ByteArray from ins).2.data.toList=(show Int from outs):=Option.some.inj ho
 have hx:=QBD (P:=Tryz.prog) (gg:=E.gg) (f:=308) (sg:=E.sig 308) (m1:= .ro) (m2:= .ro) (m3:= .ro) (by kernel_rfl) (by kernel_rfl) rfl rfl rfl (fun a b=>Go.Lib.compareBytes a.data.toList b.data.toList) (fun a b w=>Any.bytealg_CompareString QGf a b w) (show ByteArray×ByteArray from ins).1 (show ByteArray×ByteArray from ins).2
 rw[ho]at hx
 exact hx
theorem QIg (f:Nat) (h:Qj (E.sig f).ins->Option (Qj (E.sig f).outs)) (he:E.ext f=some h) (ins:Qj (E.sig f).ins) (outs:Qj (E.sig f).outs) (ho:h ins=some outs):Qee Tryz.prog E.gg (E.sig f) (E.real f) (unpack _ ins) (unpack _ outs):=by
 have he:QCD f=some h:=he
 unfold QCD at he
 split at he
 ·rename_i hf
  subst hf
  have e:=Option.some.inj he
  subst e
  exact QEO ins outs ho
 ·
  cases he
theorem QKc:EnvCode Tryz.prog E:=QzC hfn (QCr (by kernel_rfl)) (by kernel_rfl) QIg
theorem hTy:XD Tryz.prog E:=QDG rfl (by kernel_rfl) (fun T _=>QJX (by kernel_rfl) T)
theorem hRd:∀T,rdB Tryz.prog E.ty T (E.ty T)=true:=QF0 (ty:=tyT) (by kernel_rfl)
theorem QKa:EnvLoops E:=Qxi (by kernel_rfl) (by kernel_rfl) (by kernel_rfl)
theorem hmix:Tryz.prog.follows .mixedOrders=true:=by kernel_rfl
end
end Go.Proofs.YtiejfnbmficbmaaGreat.M
