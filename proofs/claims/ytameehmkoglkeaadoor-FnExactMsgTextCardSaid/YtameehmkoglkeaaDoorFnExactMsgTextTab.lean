/- The functions that FnExactMsgText reaches, as tables. No conditions. -/
import Derived.Test.YtameehmkoglkeaaDoorEng4
import Derived.Lib.ItoaNum
import Derived.Lib.Join
import Derived.Lib.LaidTab
import Derived.Test.YtameehmkoglkeaaDoorChecked
set_option linter.all false
namespace Go.Proofs.YtameehmkoglkeaaDoor.M
open Go Go.Eng Go.Proofs
set_option linter.unusedVariables false
noncomputable section
def QaN (a:(List ByteArray)×ByteArray):Option ByteArray:=bif decide (a.1.length<=140737488355328/\(Go.Lib.join (a.1.map (·.data.toList)) a.2.data.toList).length<=140737488355328)then some ⟨(Go.Lib.join (a.1.map (·.data.toList)) a.2.data.toList).toArray⟩else none
def QaM (n:Int):Option ByteArray:=bif decide (-9223372036854775808<=n/\n<=9223372036854775807)then some ⟨(Go.Lib.itoa n).toArray⟩else none
theorem Qk4:Tryd.prog.globalNamed "internal/strconv.uint64pow10" =some 3:=by kernel_rfl
def gT:Glob:=⟨fun w=>Lib.TabIs Tryd.prog w "internal/strconv.uint64pow10" .u64 Lib.pow10Tab,[3],fun w w' h hg=>by
 unfold Lib.TabIs World.var? at hg⊢
 rw[Qk4]at hg⊢
 simp only[QQ0]at hg⊢
 rw[h 3 (by simp)]
 exact hg⟩
abbrev VA:Tys:=(.cons .str (.cons (.int .u64) .nil))
abbrev js:Tys:=(.cons (.int .u8) (.cons (.int .u8) .nil))
abbrev QA:Tys:=(.cons (.int .i64) (.cons (.int .i64) .nil))
abbrev Qg:Type:=Int×Int
abbrev QcV:Tys:=(.cons (.sl (.cons (.int .i64) .nil)) (.cons (.int .i64) .nil))
abbrev V7:Type:=(List Int)×Int
abbrev jC:Tys:=(.cons (.int .i64) (.cons (.int .i64) (.cons .bool (.cons (.int .u8) .nil))))
abbrev Qg0:Tys:=(.cons (.sl (.cons (.int .u8) .nil)) (.cons (.int .i64) (.cons (.int .i64) .nil)))
abbrev K7:Tys:=(.cons (.int .i64) (.cons (.int .i64) (.cons (.int .i64) (.cons (.int .i64) (.cons .str .nil)))))
abbrev Q4:Type:=Int×Int×Int×Int×ByteArray
abbrev QY:Tys:=(.cons (.int .i64) (.cons (.int .i64) (.cons (.int .i64) (.cons (.int .i64) (.cons (.int .i64) (.cons .str .nil))))))
abbrev Qn:Type:=Int×Int×Int×Int×Int×ByteArray
abbrev jP:Tys:=(.cons (.sl QY) (.cons (.sl QA) .nil))
abbrev QM:Type:=(List Qn)×(List Qg)
abbrev QdJ:Tys:=(.cons (.int .i64) (.cons (.int .i64) (.cons (.int .i64) (.cons (.int .i64) (.cons (.int .i64) (.cons (.sl (.cons (.int .i64) .nil)) (.cons (.int .i64) (.cons (.sl (.cons (.int .i64) .nil)) (.cons (.sl (.cons (.int .i64) .nil)) (.cons (.sl QY) (.cons (.sl QA) (.cons (.sl QA) .nil))))))))))))
abbrev X7:Type:=Int×Int×Int×Int×Int×(List Int)×Int×(List Int)×(List Int)×(List Qn)×(List Qg)×(List Qg)
def QV:Qg:=(0,0)
def Yk:Qn:=(0,0,0,0,0,ByteArray.empty)
noncomputable def tyT:BT TI:=(.node 51 ⟨true,true,jP,48,0,[0,1],false⟩ (.node 26 ⟨true,true,K7,48,0,[0,1,2,3,4],false⟩ (.node 10 ⟨true,false,(.cons .str .nil),16,0,[],false⟩ (.node 6 ⟨true,false,(.cons (.int .u8) .nil),1,0,[],false⟩ (.node 4 ⟨true,false,(.cons .bool .nil),1,0,[],false⟩ (.node 3 ⟨true,false,(.cons (.int .i64) .nil),8,0,[],false⟩ (.node 2 ⟨true,false,(.cons (.int .i64) .nil),8,0,[],false⟩ .leaf .leaf) .leaf) (.node 5 ⟨true,false,(.cons (.int .u8) .nil),1,0,[],false⟩ .leaf .leaf)) (.node 8 ⟨true,true,jC,24,0,[0,1,2,3],false⟩ (.node 7 ⟨true,true,jC,24,0,[0,1,2,3],false⟩ .leaf .leaf) (.node 9 ⟨true,false,(.cons .str .nil),16,0,[],false⟩ .leaf .leaf))) (.node 14 ⟨true,true,VA,24,0,[0,1],false⟩ (.node 12 ⟨true,false,(.cons (.int .u64) .nil),8,0,[],false⟩ (.node 11 ⟨true,false,(.cons .str .nil),16,0,[],false⟩ .leaf .leaf) (.node 13 ⟨true,true,VA,24,0,[0,1],false⟩ .leaf .leaf)) (.node 22 ⟨true,true,K7,48,0,[0,1,2,3,4],false⟩ (.node 21 ⟨true,false,(.cons (.int .i32) .nil),4,0,[],false⟩ .leaf .leaf) (.node 23 ⟨true,true,K7,48,0,[0,1,2,3,4],false⟩ .leaf .leaf)))) (.node 41 ⟨true,true,jP,48,0,[0,1],false⟩ (.node 37 ⟨true,true,QcV,32,0,[0,1],false⟩ (.node 32 ⟨true,false,(.cons (.sl K7) .nil),24,26,[],false⟩ (.node 29 ⟨true,false,(.cons (.sl K7) .nil),24,23,[],false⟩ .leaf .leaf) (.node 36 ⟨true,false,(.cons (.sl (.cons (.int .i64) .nil)) .nil),24,3,[],false⟩ .leaf .leaf)) (.node 39 ⟨true,false,(.cons (.sl QY) .nil),24,145,[],false⟩ (.node 38 ⟨true,true,QcV,32,0,[0,1],false⟩ .leaf .leaf) (.node 40 ⟨true,false,(.cons (.sl QA) .nil),24,150,[],false⟩ .leaf .leaf))) (.node 45 ⟨true,true,QdJ,192,0,[0,1,2,3,4,5,7,8,9,11],false⟩ (.node 43 ⟨true,false,(.cons (.sl QA) .nil),24,132,[],false⟩ (.node 42 ⟨true,true,jP,48,0,[0,1],false⟩ .leaf .leaf) (.node 44 ⟨true,true,QdJ,192,0,[0,1,2,3,4,5,7,8,9,11],false⟩ .leaf .leaf)) (.node 49 ⟨true,false,(.cons (.sl QY) .nil),24,124,[],false⟩ (.node 48 ⟨true,true,QcV,32,0,[0,1],false⟩ .leaf .leaf) (.node 50 ⟨true,false,(.cons (.sl QA) .nil),24,127,[],false⟩ .leaf .leaf))))) (.node 143 ⟨true,true,K7,48,0,[0,1,2,3,4],false⟩ (.node 123 ⟨true,true,QY,56,0,[0,1],false⟩ (.node 66 ⟨true,false,(.cons (.sl (.cons (.int .u8) .nil)) .nil),24,5,[],false⟩ (.node 54 ⟨true,true,QdJ,192,0,[0,1,2,3,4,5,7,8,9,11],false⟩ (.node 53 ⟨true,false,(.cons (.sl QA) .nil),24,130,[],false⟩ (.node 52 ⟨true,true,jP,48,0,[0,1],false⟩ .leaf .leaf) .leaf) (.node 55 ⟨true,true,QdJ,192,0,[0,1,2,3,4,5,7,8,9,11],false⟩ .leaf .leaf)) (.node 121 ⟨true,true,K7,48,0,[0,1,2,3,4],false⟩ (.node 72 ⟨true,false,(.cons (.sl (.cons .str .nil)) .nil),24,9,[],false⟩ .leaf .leaf) (.node 122 ⟨true,true,K7,48,0,[0,1,2,3,4],false⟩ .leaf .leaf))) (.node 130 ⟨true,true,QA,16,0,[0,1],false⟩ (.node 126 ⟨true,true,QA,16,0,[0,1],false⟩ (.node 124 ⟨true,true,QY,56,0,[0,1],false⟩ .leaf .leaf) (.node 127 ⟨true,true,QA,16,0,[0,1],false⟩ .leaf .leaf)) (.node 138 ⟨true,true,Qg0,40,0,[0,1,2],false⟩ (.node 132 ⟨true,true,QA,16,0,[0,1],false⟩ .leaf .leaf) (.node 139 ⟨true,true,Qg0,40,0,[0,1,2],false⟩ .leaf .leaf)))) (.node 193 ⟨true,true,js,2,0,[0,1],false⟩ (.node 155 ⟨true,false,(.cons (.int .u64) .nil),8,0,[],false⟩ (.node 145 ⟨true,true,QY,56,0,[0,1],false⟩ (.node 144 ⟨true,true,QY,56,0,[0,1],false⟩ .leaf .leaf) (.node 150 ⟨true,true,QA,16,0,[0,1],false⟩ .leaf .leaf)) (.node 174 ⟨true,false,(.cons (.int .u32) .nil),4,0,[],false⟩ (.node 168 ⟨true,false,(.cons (.int .i64) .nil),8,0,[],false⟩ .leaf .leaf) (.node 178 ⟨true,false,(.cons (.int .u64) .nil),8,0,[],false⟩ .leaf .leaf))) (.node 209 ⟨true,false,(.cons (.int .u8) .nil),1,0,[],false⟩ (.node 198 ⟨true,true,(.cons .str .nil),16,0,[0],false⟩ (.node 194 ⟨true,true,js,2,0,[0,1],false⟩ .leaf .leaf) (.node 199 ⟨true,true,(.cons .str .nil),16,0,[0],false⟩ .leaf .leaf)) (.node 212 ⟨true,false,(.cons (.int .i32) .nil),4,0,[],false⟩ (.node 210 ⟨true,false,(.cons (.int .u8) .nil),1,0,[],false⟩ .leaf .leaf) (.node 213 ⟨true,false,(.cons (.int .i32) .nil),4,0,[],false⟩ .leaf .leaf))))))
noncomputable def cbQ (r:Nat):Nat->List SkC->List (Nat×Nat×SkC)
 |_,[]=>[]
 |k,x::l=>(r,k,x)::cbQ r (k+1) l
noncomputable def tQ0:Ty:=(.sl (.cons (.int .i64) .nil))
def cQ1:List (Eng.Mode×Ty):=[(.ro,(.int .i64)),(.ro,(.int .i64)),(.ro,(.int .i64)),(.ro,(.int .i64)),(.ro,(.int .i64)),(.ro,tQ0),(.ro,(.int .i64)),(.ro,tQ0),(.ro,tQ0),(.ro,(.sl QY)),(.ro,(.sl QA)),(.ro,(.sl QA))]
def pQ2:PSig:= .val true cQ1
def cQ3:List (Eng.Mode×Ty):=[(.ro, .bool)]
def pQ4:PSig:= .val false cQ3
def cQ5:List (Eng.Mode×Ty):=[(.ro,(.int .i64))]
def pQ6:PSig:= .val false cQ5
def cQ7:List (Eng.Mode×Ty):=[(.ro, .str)]
def pQ8:PSig:= .val false cQ7
def cQ9:List (Eng.Mode×Ty):=[(.ro,(.int .i64)),(.ro,(.int .i64)),(.ro,(.int .i64)),(.ro,(.int .i64)),(.ro,(.int .i64)),(.own,tQ0),(.ro,(.int .i64)),(.own,tQ0),(.own,tQ0),(.own,(.sl QY)),(.own,(.sl QA)),(.own,(.sl QA))]
def QkO:PSig:= .val true cQ9
def Qkn:List (Eng.Mode×Ty):=[(.ro,tQ0),(.ro,(.int .i64))]
def Qb7:PSig:= .val true Qkn
def QkF:List (Eng.Mode×Ty):=[(.ro,tQ0)]
def Qc8:PSig:= .val false QkF
def QkB:List (Eng.Mode×Ty):=[(.ro,(.sl QY)),(.ro,(.sl QA))]
def x6:PSig:= .val true QkB
def QkZ:List (Eng.Mode×Ty):=[(.ro,(.sl QA))]
def zd:PSig:= .val false QkZ
def QkE:List (Eng.Mode×Ty):=[(.own,tQ0),(.ro,(.int .i64))]
def QkM:PSig:= .val true QkE
def QkR:List (Eng.Mode×Ty):=[(.own,tQ0)]
def Qkq:PSig:= .val false QkR
def Qkz:List (Eng.Mode×Ty):=[(.own,(.sl QY)),(.own,(.sl QA))]
def Qkd:PSig:= .val true Qkz
def QkW:List (Eng.Mode×Ty):=[(.own,(.sl QA))]
def Qjb:PSig:= .val false QkW
def Qk0:List (Eng.Mode×Ty):=[(.ro,(.sl QY))]
def QfG:PSig:= .val false Qk0
def QkH:List (Eng.Mode×Ty):=[(.ro,(.int .i64)),(.ro,(.int .i64)),(.ro,(.int .i64)),(.ro,(.int .i64)),(.ro, .str)]
def yH:PSig:= .val true QkH
def QkX:List (Eng.Mode×Ty):=[(.own,(.sl QY))]
def Qkc:PSig:= .val false QkX
def Qk6:List (Eng.Mode×Ty):=[(.ro,(.int .i64)),(.ro,(.int .i64))]
def jo:PSig:= .val true Qk6
noncomputable def Qda:Ty:=(.sl (.cons .str .nil))
def Qkv:List (Eng.Mode×Ty):=[(.ro,Qda)]
def Qkr:PSig:= .val false Qkv
def Qj8:List (Eng.Mode×Ty):=[(.ro,(.int .i64)),(.ro,(.int .i64)),(.ro,(.int .i64)),(.ro,(.int .i64)),(.ro,(.int .i64)),(.ro, .str)]
def QdL:PSig:= .val true Qj8
def QR:SkT:= .val false [.sc (.int .i64)]
def QdU:SkT:= .val false [.sc .bool]
def Qbz:SkT:= .val false [.sc .str]
def Qko:Sk:=⟨[(0,QR),(3,QdU),(4,Qbz)],[],[]⟩
def Qj5:Sk:=⟨[(3,QdU),(4,Qbz)],[],[]⟩
def QfQ:List SkC:=[.sc (.int .i64), .sc (.int .i64), .sc (.int .i64), .sc (.int .i64), .sc (.int .i64), .ro tQ0, .sc (.int .i64), .ro tQ0, .ro tQ0, .ro (.sl QY), .ro (.sl QA), .ro (.sl QA)]
def Qka:Sk:=⟨[(1, .ptr 1 0),(3,QR)],cbQ 1 0 QfQ,[(1,12)]⟩
def x8:Sk:=⟨[(2,QdU)],[],[]⟩
def JJ:Sk:=⟨[],[],[]⟩
def Qks:Sk:=⟨[(1, .ptr 1 0),(3,Qbz),(4,QR)],[(1,0, .ro (.sl QY)),(1,1, .ro (.sl QA))],[(1,2)]⟩
def QkL:Sk:=⟨[(1, .ptr 1 0),(3,Qbz)],[(1,0, .ro (.sl QY)),(1,1, .ro (.sl QA))],[(1,2)]⟩
def QkK:Sk:=⟨[(1, .ptr 1 0),(3,Qbz),(5,QR)],[(1,0, .ro (.sl QY)),(1,1, .ro (.sl QA))],[(1,2)]⟩
def Qkj:Sk:=⟨[(3,Qbz)],[],[]⟩
def v7:SkT:= .val false [.ro tQ0]
def x0:SkT:= .val false [.vw 3 0]
def QkD:Sk:=⟨[(0,v7),(3,x0),(4,QR)],[(3,0, .own tQ0 true none)],[]⟩
def QkS:Sk:=⟨[(3,x0)],[(3,0, .own tQ0 true none)],[]⟩
def yq:SkT:= .val false [.ro (.sl QA)]
def Qjc:Sk:=⟨[(0,yq),(3,x0),(4,QR)],[(3,0, .own (.sl QA) true none)],[]⟩
def Qi8:Sk:=⟨[(3,x0)],[(3,0, .own (.sl QA) true none)],[]⟩
def QkT:Sk:=⟨[(1, .ptr 1 0),(31,v7),(32,QR),(33,QR)],cbQ 1 0 QfQ,[(1,12)]⟩
def Qjt:Sk:=⟨[(1, .ptr 1 0)],cbQ 1 0 QfQ,[(1,12)]⟩
def QkU:Sk:=⟨[(1, .ptr 1 0),(57,v7),(58,QR),(59,QR)],cbQ 1 0 QfQ,[(1,12)]⟩
def QbN:SkT:= .val false [.ro (.sl QY)]
def QkY:Sk:=⟨[(1, .ptr 1 0),(3,x0),(10,QbN),(11,QR),(12,QR)],[(1,0, .ro (.sl QY)),(1,1, .ro (.sl QA)),(3,0, .own Qda true none)],[(1,2)]⟩
def Qkx:Sk:=⟨[(1, .ptr 1 0),(3,x0)],[(1,0, .ro (.sl QY)),(1,1, .ro (.sl QA)),(3,0, .own Qda true none)],[(1,2)]⟩
def QkG:Sk:=⟨[(3,x0),(29,yq),(30,QR),(31,QR)],[(3,0, .own Qda true none)],[]⟩
def QkQ:Sk:=⟨[(3,x0)],[(3,0, .own Qda true none)],[]⟩
def QkN:Sk:=⟨[(0,v7),(1,v7),(5,QR)],[],[]⟩
def Qfw:Sk:=⟨[(4,QdU)],[],[]⟩
def Qjz:Sk:=⟨[(0,yq),(1,yq),(5,QR)],[],[]⟩
def Qj7:Sk:=⟨[(0,QbN),(1,QR),(5,QR)],[],[]⟩
def Qh2:Sk:=⟨[(4,QR)],[],[]⟩
def Qkm:Sk:=⟨[(1,QR)],[],[]⟩
def Qk7:Sk:=⟨[(0,v7),(2,QR),(7,QR)],[],[]⟩
def Qke:Sk:=⟨[(6,QdU)],[],[]⟩
def QkC:Sk:=⟨[(1, .ptr 1 0),(3,QR)],[(1,0, .ro (.sl QY)),(1,1, .ro (.sl QA))],[(1,2)]⟩
def QjG:Sk:=⟨[(1, .ptr 1 0)],[(1,0, .ro (.sl QY)),(1,1, .ro (.sl QA))],[(1,2)]⟩
def Qkw:Sk:=⟨[(1, .ptr 1 0),(5,QR)],[(1,0, .ro (.sl QY)),(1,1, .ro (.sl QA))],[(1,2)]⟩
def Qky:Sk:=⟨[(0,yq),(3,QR)],[],[]⟩
def Qk3:Sk:=⟨[(0,QbN),(3,x0),(4,QR)],[(3,0, .own (.sl QY) true none)],[]⟩
def Qj6:Sk:=⟨[(3,x0)],[(3,0, .own (.sl QY) true none)],[]⟩
def Qj4:Sk:=⟨[(1, .ptr 1 0),(13,v7),(14,QR),(15,QR)],[(1,0, .ro tQ0),(1,1, .sc (.int .i64))],[(1,2)]⟩
def Qku:Sk:=⟨[(1, .ptr 1 0)],[(1,0, .ro tQ0),(1,1, .sc (.int .i64))],[(1,2)]⟩
def Qj9:Sk:=⟨[(1, .ptr 1 0),(8,yq),(9,QR),(10,QR)],[(1,0, .ro (.sl QY)),(1,1, .ro (.sl QA))],[(1,2)]⟩
def Qki:Sk:=⟨[(1, .ptr 1 0),(43,QbN),(44,QR),(45,QR)],[(1,0, .ro (.sl QY)),(1,1, .ro (.sl QA))],[(1,2)]⟩
def QkI:Sk:=⟨[(0,yq),(5,yq),(6,QR),(7,QR)],[],[]⟩
def Qkg:Sk:=⟨[(0,QbN),(1,QbN),(5,QR)],[],[]⟩
def Qkp:Sk:=⟨[(1,QR),(2, .ptr 2 0),(5,QR)],[(2,0, .ro (.sl QY)),(2,1, .ro (.sl QA))],[(2,2)]⟩
def QkA:Sk:=⟨[(1,QR),(8,yq),(9,QR),(10,QR)],[],[]⟩
noncomputable def Qh1:BT Sig:=(.node 76 ⟨[zd,pQ6],[pQ6]⟩ (.node 45 ⟨[pQ2],[pQ4]⟩ (.node 36 ⟨[pQ6],[pQ8]⟩ (.node 20 ⟨[pQ2],[QkO]⟩ (.node 18 ⟨[pQ2,pQ6],[pQ6]⟩ (.node 5 ⟨[pQ2],[pQ4]⟩ .leaf .leaf) (.node 19 ⟨[pQ2],[pQ8]⟩ .leaf .leaf)) (.node 22 ⟨[pQ2,pQ2],[pQ4]⟩ (.node 21 ⟨[pQ2],[pQ8]⟩ .leaf .leaf) (.node 34 ⟨[pQ6,pQ6,pQ6],[pQ4]⟩ .leaf .leaf))) (.node 41 ⟨[Qb7,pQ6],[pQ6]⟩ (.node 39 ⟨[pQ6],[pQ8]⟩ (.node 37 ⟨[pQ6,pQ6,pQ6],[pQ4]⟩ .leaf .leaf) (.node 40 ⟨[Qkr,pQ8],[pQ8]⟩ .leaf .leaf)) (.node 43 ⟨[x6,pQ6],[pQ6]⟩ (.node 42 ⟨[Qc8,pQ6],[pQ6]⟩ .leaf .leaf) (.node 44 ⟨[zd,pQ6],[pQ6]⟩ .leaf .leaf)))) (.node 53 ⟨[x6],[pQ8]⟩ (.node 49 ⟨[Qc8],[Qkq]⟩ (.node 47 ⟨[x6],[pQ8]⟩ (.node 46 ⟨[pQ8],[pQ8]⟩ .leaf .leaf) (.node 48 ⟨[Qb7],[QkM]⟩ .leaf .leaf)) (.node 51 ⟨[zd],[Qjb]⟩ (.node 50 ⟨[x6],[Qkd]⟩ .leaf .leaf) (.node 52 ⟨[pQ2],[pQ4]⟩ .leaf .leaf))) (.node 57 ⟨[zd,zd],[pQ4]⟩ (.node 55 ⟨[Qc8,Qc8],[pQ4]⟩ (.node 54 ⟨[Qb7,Qb7],[pQ4]⟩ .leaf .leaf) (.node 56 ⟨[x6,x6],[pQ4]⟩ .leaf .leaf)) (.node 75 ⟨[QfG,pQ6],[pQ6]⟩ (.node 71 ⟨[pQ6],[pQ8]⟩ .leaf .leaf) .leaf)))) (.node 91 ⟨[QfG,QfG],[pQ4]⟩ (.node 84 ⟨[zd],[Qjb]⟩ (.node 80 ⟨[x6],[pQ4]⟩ (.node 78 ⟨[Qb7],[pQ4]⟩ (.node 77 ⟨[pQ6],[pQ4]⟩ .leaf .leaf) (.node 79 ⟨[Qc8,pQ6,pQ6],[pQ4]⟩ .leaf .leaf)) (.node 82 ⟨[yH],[pQ8]⟩ (.node 81 ⟨[zd],[pQ4]⟩ .leaf .leaf) (.node 83 ⟨[QfG],[Qkc]⟩ .leaf .leaf))) (.node 88 ⟨[x6],[pQ4]⟩ (.node 86 ⟨[pQ6],[pQ4]⟩ (.node 85 ⟨[jo],[jo]⟩ .leaf .leaf) (.node 87 ⟨[Qb7],[pQ4]⟩ .leaf .leaf)) (.node 90 ⟨[yH],[pQ8]⟩ (.node 89 ⟨[zd],[pQ4]⟩ .leaf .leaf) .leaf))) (.node 108 ⟨[yH],[pQ4]⟩ (.node 104 ⟨[yH],[pQ4]⟩ (.node 93 ⟨[jo,jo],[pQ4]⟩ (.node 92 ⟨[zd,zd],[pQ4]⟩ .leaf .leaf) (.node 103 ⟨[QdL,pQ6],[pQ6]⟩ .leaf .leaf)) (.node 106 ⟨[QdL],[QdL]⟩ (.node 105 ⟨[x6,pQ6],[pQ6]⟩ .leaf .leaf) (.node 107 ⟨[jo],[jo]⟩ .leaf .leaf))) (.node 124 ⟨[yH,pQ6],[pQ6]⟩ (.node 110 ⟨[QdL,QdL],[pQ4]⟩ (.node 109 ⟨[x6,pQ6],[pQ6]⟩ .leaf .leaf) (.node 111 ⟨[jo,jo],[pQ4]⟩ .leaf .leaf)) (.node 126 ⟨[yH,yH],[pQ4]⟩ (.node 125 ⟨[yH],[yH]⟩ .leaf .leaf) .leaf)))))
noncomputable def Qir:BT Func:=(.node 76 Tryd.f76 (.node 45 Tryd.f45 (.node 36 Tryd.f36 (.node 20 Tryd.f20 (.node 18 Tryd.f18 (.node 5 Tryd.f5 .leaf .leaf) (.node 19 Tryd.f19 .leaf .leaf)) (.node 22 Tryd.f22 (.node 21 Tryd.f21 .leaf .leaf) (.node 34 Tryd.f34 .leaf .leaf))) (.node 41 Tryd.f41 (.node 39 Tryd.f39 (.node 37 Tryd.f37 .leaf .leaf) (.node 40 Tryd.f40 .leaf .leaf)) (.node 43 Tryd.f43 (.node 42 Tryd.f42 .leaf .leaf) (.node 44 Tryd.f44 .leaf .leaf)))) (.node 53 Tryd.f53 (.node 49 Tryd.f49 (.node 47 Tryd.f47 (.node 46 Tryd.f46 .leaf .leaf) (.node 48 Tryd.f48 .leaf .leaf)) (.node 51 Tryd.f51 (.node 50 Tryd.f50 .leaf .leaf) (.node 52 Tryd.f52 .leaf .leaf))) (.node 57 Tryd.f57 (.node 55 Tryd.f55 (.node 54 Tryd.f54 .leaf .leaf) (.node 56 Tryd.f56 .leaf .leaf)) (.node 75 Tryd.f75 (.node 71 Tryd.f71 .leaf .leaf) .leaf)))) (.node 91 Tryd.f91 (.node 84 Tryd.f84 (.node 80 Tryd.f80 (.node 78 Tryd.f78 (.node 77 Tryd.f77 .leaf .leaf) (.node 79 Tryd.f79 .leaf .leaf)) (.node 82 Tryd.f82 (.node 81 Tryd.f81 .leaf .leaf) (.node 83 Tryd.f83 .leaf .leaf))) (.node 88 Tryd.f88 (.node 86 Tryd.f86 (.node 85 Tryd.f85 .leaf .leaf) (.node 87 Tryd.f87 .leaf .leaf)) (.node 90 Tryd.f90 (.node 89 Tryd.f89 .leaf .leaf) .leaf))) (.node 108 Tryd.f108 (.node 104 Tryd.f104 (.node 93 Tryd.f93 (.node 92 Tryd.f92 .leaf .leaf) (.node 103 Tryd.f103 .leaf .leaf)) (.node 106 Tryd.f106 (.node 105 Tryd.f105 .leaf .leaf) (.node 107 Tryd.f107 .leaf .leaf))) (.node 124 Tryd.f124 (.node 110 Tryd.f110 (.node 109 Tryd.f109 .leaf .leaf) (.node 111 Tryd.f111 .leaf .leaf)) (.node 126 Tryd.f126 (.node 125 Tryd.f125 .leaf .leaf) .leaf)))))
noncomputable def QjN:BT LSig:=(.node 790000 ⟨Qk7,[(.ret,Qke),(.exit 0,JJ)]⟩ (.node 520000 ⟨QkT,[(.ret,x8),(.exit 0,Qjt)]⟩ (.node 470002 ⟨QkK,[(.exit 2,Qkj)]⟩ (.node 450000 ⟨Qka,[(.ret,x8),(.exit 0,JJ)]⟩ (.node 360000 ⟨Qko,[(.exit 0,Qj5)]⟩ .leaf .leaf) (.node 470000 ⟨Qks,[(.exit 0,QkL)]⟩ .leaf .leaf)) (.node 510000 ⟨Qjc,[(.exit 0,Qi8)]⟩ (.node 490000 ⟨QkD,[(.exit 0,QkS)]⟩ .leaf .leaf) .leaf)) (.node 550000 ⟨QkN,[(.ret,Qfw),(.exit 0,JJ)]⟩ (.node 530000 ⟨QkY,[(.exit 0,Qkx)]⟩ (.node 520002 ⟨QkU,[(.ret,x8),(.exit 2,Qjt)]⟩ .leaf .leaf) (.node 530002 ⟨QkG,[(.exit 2,QkQ)]⟩ .leaf .leaf)) (.node 750000 ⟨Qj7,[(.ret,Qh2),(.exit 0,Qkm)]⟩ (.node 570000 ⟨Qjz,[(.ret,Qfw),(.exit 0,JJ)]⟩ .leaf .leaf) .leaf))) (.node 880000 ⟨Qj9,[(.ret,x8),(.exit 0,QjG)]⟩ (.node 830000 ⟨Qk3,[(.exit 0,Qj6)]⟩ (.node 800002 ⟨Qkw,[(.ret,x8),(.exit 2,JJ)]⟩ (.node 800000 ⟨QkC,[(.ret,x8),(.exit 0,QjG)]⟩ .leaf .leaf) (.node 810000 ⟨Qky,[(.ret,x8),(.exit 0,JJ)]⟩ .leaf .leaf)) (.node 870000 ⟨Qj4,[(.ret,x8),(.exit 0,Qku)]⟩ (.node 840000 ⟨Qjc,[(.exit 0,Qi8)]⟩ .leaf .leaf) .leaf)) (.node 920000 ⟨Qjz,[(.ret,Qfw),(.exit 0,JJ)]⟩ (.node 890000 ⟨QkI,[(.ret,x8),(.exit 0,JJ)]⟩ (.node 880002 ⟨Qki,[(.ret,x8),(.exit 2,JJ)]⟩ .leaf .leaf) (.node 910000 ⟨Qkg,[(.ret,Qfw),(.exit 0,JJ)]⟩ .leaf .leaf)) (.node 1090000 ⟨QkA,[(.ret,Qh2),(.exit 0,JJ)]⟩ (.node 1050000 ⟨Qkp,[(.ret,Qh2),(.exit 0,JJ)]⟩ .leaf .leaf) .leaf))))
noncomputable def QkJ:BT (List Nat):= .leaf
noncomputable def QjZ:BT Nat:= .leaf
noncomputable def Qj3:BT (List Nat):= .leaf
noncomputable def Qio:BT Nat:= .leaf
noncomputable def QhA:(f:Nat)->Option (Qc (Qh1.get ⟨[],[]⟩ f).ins->Option (Qc (Qh1.get ⟨[],[]⟩ f).outs)):=fun f=>
 if h:f=40 then some (cast (by subst h;kernel_rfl) QaN)else
 if h:f=71 then some (cast (by subst h;kernel_rfl) QaM)else
 none
noncomputable def E:Env:=yI tyT Qh1 Qir QjN QkJ QjZ Qj3 Qio QhA gT
abbrev w:QE E:=W E
abbrev wl:ZK E:=WL E
abbrev FT (A B:Type):Type:=QE E->A->Option B
abbrev LT (A B:Type):Type:=ZK E->A->Option B
abbrev RT (A B:Type):Type:=QE E->ZK E->A->Option B
abbrev rF {A B:Type}(_:FT A B):Type:=RT A B
abbrev rL {A B:Type}(_:LT A B):Type:=RT A B
abbrev aF (f:Nat) {A B:Type}(hA:Qc (E.sig f).ins=A:=by kernel_rfl) (hB:Qc (E.sig f).outs=B:=by kernel_rfl):FT A B:=ap hA hB
abbrev aL (f b:Nat) {A B:Type}(hA:Qc (E.lsig f b).sk.tys=A:=by kernel_rfl) (hB:Zr (XA (E.lsig f b).exits)=B:=by kernel_rfl):LT A B:=apL hA hB
abbrev OfF {A B:Type}(X:FT A B) (R:RT A B):Prop:=∀ {a:A}{o:B},R w wl a=some o->X w a=some o
abbrev OfL {A B:Type}(X:LT A B) (R:RT A B):Prop:=∀ {a:A}{o:B},R w wl a=some o->X wl a=some o
theorem ofF {A B:Type}{X:FT A B}{R:RT A B}(f:Nat) (h:∀D L a,X (VR E D L) a=R D L a:=by intro _ _ _;kernel_rfl) (hA:Qc (E.sig f).ins=A:=by kernel_rfl) (hB:Qc (E.sig f).outs=B:=by kernel_rfl) (e:X=aF f hA hB:=by kernel_rfl):OfF X R:=fun {a _}=>by subst e;exact QhV hA hB (h w wl a)
theorem ofL {A B:Type}{X:LT A B}{R:RT A B}(f b:Nat) (h:∀D L a,X (VP E D L) a=R D L a:=by intro _ _ _;kernel_rfl) (hA:Qc (E.lsig f b).sk.tys=A:=by kernel_rfl) (hB:Zr (XA (E.lsig f b).exits)=B:=by kernel_rfl) (e:X=aL f b hA hB:=by kernel_rfl):OfL X R:=fun {a _}=>by subst e;exact QgX hA hB (h w wl a)
def Yd:FT X7 Bool:=aF 5
def JX:FT (Int×Int×Int×Int×Int×(List Int)×Int×(List Int)×(List Int)×(List Qn)×(List Qg)×(List Qg)×Int) Int:=aF 18
def Vx:FT X7 ByteArray:=aF 19
def YK:FT X7 X7:=aF 20
def K6:FT X7 ByteArray:=aF 21
def JT:FT (Int×Int×Int×Int×Int×(List Int)×Int×(List Int)×(List Int)×(List Qn)×(List Qg)×(List Qg)×Int×Int×Int×Int×Int×(List Int)×Int×(List Int)×(List Int)×(List Qn)×(List Qg)×(List Qg)) Bool:=aF 22
def V5:FT ((List Int)×Int×Int) Int:=aF 41
def Z4:FT V7 Int:=aF 42
def KZ:FT ((List Qn)×(List Qg)×Int) Int:=aF 43
def KR:FT ((List Qg)×Int) Int:=aF 44
def Qv:FT Int ByteArray:=aF 36
def Xr:LT (Int×Bool×ByteArray) ((Bool×ByteArray)):=aL 36 0
def YD:FT X7 Bool:=aF 45
def X9:LT (Int×Int×Int×Int×Int×Int×(List Int)×Int×(List Int)×(List Int)×(List Qn)×(List Qg)×(List Qg)) (Bool⊕Unit):=aL 45 0
def YX:FT ByteArray ByteArray:=aF 46
def YT:FT QM ByteArray:=aF 47
def Q7:LT (ByteArray×Int×(List Qn)×(List Qg)) ((ByteArray×(List Qn)×(List Qg))):=aL 47 0
def Xn:LT (ByteArray×Int×(List Qn)×(List Qg)) ByteArray:=aL 47 2
def VX:FT V7 V7:=aF 48
def Z6:FT (List Int) (List Int):=aF 49
def Zy:LT ((List Int)×Int×(List Int)) (List Int):=aL 49 0
def Vb:FT QM QM:=aF 50
def Vk:FT (List Qg) (List Qg):=aF 51
def Zm:LT ((List Qg)×Int×(List Qg)) (List Qg):=aL 51 0
def QD:FT Int ByteArray:=aF 39
def ZU:FT X7 Bool:=aF 52
def X8:LT ((List Int)×Int×Int×Int×Int×Int×Int×Int×(List Int)×Int×(List Int)×(List Int)×(List Qn)×(List Qg)×(List Qg)) (Bool⊕X7):=aL 52 0
def ZY:LT ((List Int)×Int×Int×Int×Int×Int×Int×Int×(List Int)×Int×(List Int)×(List Int)×(List Qn)×(List Qg)×(List Qg)) (Bool⊕X7):=aL 52 2
def YV:FT QM ByteArray:=aF 53
def XH:LT ((List Qn)×Int×Int×(List Qn)×(List Qg)×(List ByteArray)) (((List Qn)×(List Qg)×(List ByteArray))):=aL 53 0
def XI:LT ((List Qg)×Int×Int×(List ByteArray)) (List ByteArray):=aL 53 2
def V1:FT ((List Int)×Int×(List Int)×Int) Bool:=aF 54
def Ya:FT ((List Int)×(List Int)) Bool:=aF 55
def ZE:LT ((List Int)×(List Int)×Int) (Bool⊕Unit):=aL 55 0
def Vs:FT ((List Qn)×(List Qg)×(List Qn)×(List Qg)) Bool:=aF 56
def KV:FT ((List Qg)×(List Qg)) Bool:=aF 57
def Zi:LT ((List Qg)×(List Qg)×Int) (Bool⊕Unit):=aL 57 0
def K2:FT ((List Qn)×Int) Int:=aF 75
def Zo:LT ((List Qn)×Int×Int) (Int⊕Int):=aL 75 0
def Kf:FT ((List Qg)×Int) Int:=aF 76
def QS:FT (Int×Int×Int) Bool:=aF 34
def XS:FT Int Bool:=aF 77
def KH:FT V7 Bool:=aF 78
def ZG:FT ((List Int)×Int×Int) Bool:=aF 79
def Zj:LT ((List Int)×Int×Int) (Bool⊕Unit):=aL 79 0
def K3:FT QM Bool:=aF 80
def XC:LT (Int×(List Qn)×(List Qg)) (Bool⊕QM):=aL 80 0
def XE:LT (Int×(List Qn)×(List Qg)) (Bool⊕Unit):=aL 80 2
def KO:FT (List Qg) Bool:=aF 81
def Xy:LT ((List Qg)×Int) (Bool⊕Unit):=aL 81 0
def ZF:FT Q4 ByteArray:=aF 82
def KE:FT (List Qn) (List Qn):=aF 83
def Ze:LT ((List Qn)×Int×(List Qn)) (List Qn):=aL 83 0
def Kg:FT (List Qg) (List Qg):=aF 84
def XX:LT ((List Qg)×Int×(List Qg)) (List Qg):=aL 84 0
def VW:FT Qg Qg:=aF 85
def strconv_Itoa:FT Int ByteArray:=aF 71
def QG:FT (Int×Int×Int) Bool:=aF 37
def XP:FT Int Bool:=aF 86
def VZ:FT V7 Bool:=aF 87
def ZL:LT ((List Int)×Int×Int×(List Int)×Int) (Bool⊕V7):=aL 87 0
def Va:FT QM Bool:=aF 88
def Xz:LT ((List Qg)×Int×Int×(List Qn)×(List Qg)) (Bool⊕QM):=aL 88 0
def XB:LT ((List Qn)×Int×Int×(List Qn)×(List Qg)) (Bool⊕Unit):=aL 88 2
def KS:FT (List Qg) Bool:=aF 89
def XD:LT ((List Qg)×(List Qg)×Int×Int) (Bool⊕Unit):=aL 89 0
def strings_Join:FT ((List ByteArray)×ByteArray) ByteArray:=aF 40
def YR:FT Q4 ByteArray:=aF 90
def KX:FT ((List Qn)×(List Qn)) Bool:=aF 91
def Zf:LT ((List Qn)×(List Qn)×Int) (Bool⊕Unit):=aL 91 0
def Ki:FT ((List Qg)×(List Qg)) Bool:=aF 92
def XY:LT ((List Qg)×(List Qg)×Int) (Bool⊕Unit):=aL 92 0
def V4:FT (Int×Int×Int×Int) Bool:=aF 93
def VQ:FT (Int×Int×Int×Int×Int×ByteArray×Int) Int:=aF 103
def ZA:FT Q4 Bool:=aF 104
def Yq:FT ((List Qn)×(List Qg)×Int) Int:=aF 105
def Zl:LT (Int×Int×(List Qn)×(List Qg)) (Int⊕Unit):=aL 105 0
def VU:FT Qn Qn:=aF 106
def KP:FT Qg Qg:=aF 107
def Yw:FT Q4 Bool:=aF 108
def K8:FT ((List Qn)×(List Qg)×Int) Int:=aF 109
def Zd:LT (Int×(List Qg)×Int×Int) (Int⊕Unit):=aL 109 0
def V9:FT (Int×Int×Int×Int×Int×ByteArray×Int×Int×Int×Int×Int×ByteArray) Bool:=aF 110
def Vm:FT (Int×Int×Int×Int) Bool:=aF 111
def Vl:FT (Int×Int×Int×Int×ByteArray×Int) Int:=aF 124
def KM:FT Q4 Q4:=aF 125
def Vu:FT (Int×Int×Int×Int×ByteArray×Int×Int×Int×Int×ByteArray) Bool:=aF 126
end
end Go.Proofs.YtameehmkoglkeaaDoor.M
