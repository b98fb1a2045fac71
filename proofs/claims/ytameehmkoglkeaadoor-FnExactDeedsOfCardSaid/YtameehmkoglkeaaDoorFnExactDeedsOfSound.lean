/- The tables agree with the program. No conditions. -/
import Derived.Test.YtameehmkoglkeaaDoorFnExactDeedsOfTab
import Derived.Below
import Derived.Lib.SplitLaws
import Derived.ProofKit
import Derived.Shelf.Small.Strs
import Derived.Shelf.Strconv.AtoiAll
import Derived.Shelf.Strconv.Itoa3
import Derived.Shelf.Strings.OnBuilder
import Derived.Shelf.Strings.Search3
import Derived.Shelf.Strings.Split
import Derived.WalkKit
set_option linter.all false
namespace Go.Proofs.YtameehmkoglkeaaDoor.M
open Go Go.Eng Go.Proofs Go.RowKit Go.Sort
set_option linter.unusedVariables false
noncomputable section
theorem below_grow_drewN (w : World) (k : Nat) (os : Array Obj) : Below w.heap.size w (grow (w.drewN k) os) := by
  refine ⟨rfl, rfl, rfl, ?_, fun b hb => ?_⟩
  · simp [grow, World.drewN]
  · simp only [grow, World.drewN]
    exact Array.getElem?_append_left hb
theorem hfn : codeT.AllP fun n fn => Tryd.prog.funcs[realT.get n n]? = some fn := ⟨Tryd.func36, ⟨Tryd.func25, ⟨Tryd.func17, ⟨Tryd.func10, ⟨Tryd.func7, trivial, trivial⟩, ⟨Tryd.func12, trivial, trivial⟩⟩, ⟨Tryd.func24, ⟨Tryd.func23, trivial, trivial⟩, trivial⟩⟩, ⟨Tryd.func29, ⟨Tryd.func27, ⟨Tryd.func26, trivial, trivial⟩, ⟨Tryd.func28, trivial, trivial⟩⟩, ⟨Tryd.func35, ⟨Tryd.func34, trivial, trivial⟩, trivial⟩⟩⟩, ⟨Tryd.func60, ⟨Tryd.func40, ⟨Tryd.func38, ⟨Tryd.func37, trivial, trivial⟩, ⟨Tryd.func39, trivial, trivial⟩⟩, ⟨Tryd.func59, ⟨Tryd.func58, trivial, trivial⟩, trivial⟩⟩, ⟨Tryd.func71, ⟨Tryd.func62, ⟨Tryd.func61, trivial, trivial⟩, ⟨Tryd.func63, trivial, trivial⟩⟩, ⟨Tryd.func116, ⟨Tryd.func96, trivial, trivial⟩, trivial⟩⟩⟩⟩
def lays38_ren : Go.Shelf.Ren := ⟨fun | 144 => 38 | 143 => 70 | 219 => 99 | 217 => 117 | 225 => 118 | 224 => 119 | 267 => 120 | 266 => 135 | 314 => 136 | n => n, fun | 9 => 9 | 4 => 4 | 3 => 3 | 5 => 5 | 46 => 155 | 146 => 175 | 51 => 174 | n => n, fun | 1 => 0 | n => n⟩
theorem lays38 : Go.Proofs.Lays.n144 Tryd.prog lays38_ren := {
  mixed := by kernel_rfl
  f143 := Tryd.func70.trans (congrArg some (by kernel_rfl))
  f144 := Tryd.func38.trans (congrArg some (by kernel_rfl))
  f217 := Tryd.func117.trans (congrArg some (by kernel_rfl))
  f219 := Tryd.func99.trans (congrArg some (by kernel_rfl))
  f224 := Tryd.func119.trans (congrArg some (by kernel_rfl))
  f225 := Tryd.func118.trans (congrArg some (by kernel_rfl))
  f266 := Tryd.func135.trans (congrArg some (by kernel_rfl))
  f267 := Tryd.func120.trans (congrArg some (by kernel_rfl))
  f314 := Tryd.func136.trans (congrArg some (by kernel_rfl))
  t3 := Tryd.underlying3
  a3 := Tryd.isAgg3
  z3 := Tryd.sizeOf3
  v3 := Tryd.zeroValue3
  t4 := Tryd.underlying4
  a4 := Tryd.isAgg4
  z4 := Tryd.sizeOf4
  v4 := Tryd.zeroValue4
  t5 := Tryd.underlying5
  a5 := Tryd.isAgg5
  z5 := Tryd.sizeOf5
  v5 := Tryd.zeroValue5
  t9 := Tryd.underlying9
  a9 := Tryd.isAgg9
  z9 := Tryd.sizeOf9
  v9 := Tryd.zeroValue9
  t46 := Tryd.underlying155
  a46 := Tryd.isAgg155
  z46 := Tryd.sizeOf155
  v46 := Tryd.zeroValue155
  t51 := Tryd.underlying174
  a51 := Tryd.isAgg174
  z51 := Tryd.sizeOf174
  v51 := Tryd.zeroValue174
  t146 := Tryd.underlying175
  a146 := Tryd.isAgg175
  z146 := Tryd.sizeOf175
  v146 := Tryd.zeroValue175
  g1 := by kernel_rfl }
theorem spec38 (ins : Vals (E.sig 38).ins) (outs : Vals (E.sig 38).outs) (ho : containsX (show ByteArray × ByteArray from ins) = some (show Bool from outs)) : FnSpec Tryd.prog E.gg (E.sig 38) (E.real 38) (unpack _ ins) (unpack _ outs) := by
  unfold containsX at ho
  by_cases hc : (show ByteArray × ByteArray from ins).2.size = 1
  · rw [decide_eq_true hc] at ho
    have ho := Option.some.inj ho
    obtain ⟨c, hb⟩ := Go.Lib.one_byte _ hc
    have hx := spec_ss_b (P := Tryd.prog) (gg := E.gg) (f := 38) (sg := E.sig 38) (m3 := .ro) (by kernel_rfl) (by kernel_rfl) rfl (show ByteArray × ByteArray from ins).1 (show ByteArray × ByteArray from ins).2 (show Bool from outs) (fun w _ => by
      rw [← ho, hb]
      exact (Any.strings_Contains_one lays38 _ c w).mono fun e w' ⟨he, hw⟩ => ⟨he, hw ▸ Below.refl _ _⟩)
    exact hx
  · rw [decide_eq_false hc] at ho
    cases ho
def lays40_ren : Go.Shelf.Ren := ⟨fun | 156 => 40 | 165 => 72 | 166 => 73 | 169 => 74 | 240 => 101 | 241 => 102 | 276 => 122 | 277 => 123 | n => n, fun | 31 => 72 | 9 => 9 | 3 => 3 | 4 => 4 | 0 => 0 | 20 => 20 | 72 => 107 | 76 => 111 | 70 => 105 | 37 => 66 | 75 => 110 | 127 => 141 | 164 => 159 | 5 => 5 | 80 => 113 | n => n, fun | n => n⟩
theorem lays40 : Go.Proofs.Lays.n156 Tryd.prog lays40_ren := {
  mixed := by kernel_rfl
  f156 := Tryd.func40.trans (congrArg some (by kernel_rfl))
  f165 := Tryd.func72.trans (congrArg some (by kernel_rfl))
  f166 := Tryd.func73.trans (congrArg some (by kernel_rfl))
  f169 := Tryd.func74.trans (congrArg some (by kernel_rfl))
  f240 := Tryd.func101.trans (congrArg some (by kernel_rfl))
  f241 := Tryd.func102.trans (congrArg some (by kernel_rfl))
  f276 := Tryd.func122.trans (congrArg some (by kernel_rfl))
  f277 := Tryd.func123.trans (congrArg some (by kernel_rfl))
  t0 := Tryd.underlying0
  a0 := Tryd.isAgg0
  z0 := Tryd.sizeOf0
  v0 := Tryd.zeroValue0
  t3 := Tryd.underlying3
  a3 := Tryd.isAgg3
  z3 := Tryd.sizeOf3
  v3 := Tryd.zeroValue3
  t4 := Tryd.underlying4
  a4 := Tryd.isAgg4
  z4 := Tryd.sizeOf4
  v4 := Tryd.zeroValue4
  t9 := Tryd.underlying9
  a9 := Tryd.isAgg9
  z9 := Tryd.sizeOf9
  v9 := Tryd.zeroValue9
  t20 := Tryd.underlying20
  a20 := Tryd.isAgg20
  z20 := Tryd.sizeOf20
  v20 := Tryd.zeroValue20
  t31 := Tryd.underlying72
  a31 := Tryd.isAgg72
  z31 := Tryd.sizeOf72
  v31 := Tryd.zeroValue72
  t37 := Tryd.underlying66
  a37 := Tryd.isAgg66
  z37 := Tryd.sizeOf66
  v37 := Tryd.zeroValue66
  t70 := Tryd.underlying105
  a70 := Tryd.isAgg105
  z70 := Tryd.sizeOf105
  v70 := Tryd.zeroValue105
  t72 := Tryd.underlying107
  a72 := Tryd.isAgg107
  z72 := Tryd.sizeOf107
  v72 := Tryd.zeroValue107
  t75 := Tryd.underlying110
  a75 := Tryd.isAgg110
  z75 := Tryd.sizeOf110
  v75 := Tryd.zeroValue110
  t76 := Tryd.underlying111
  a76 := Tryd.isAgg111
  z76 := Tryd.sizeOf111
  v76 := Tryd.zeroValue111
  t127 := Tryd.underlying141
  a127 := Tryd.isAgg141
  z127 := Tryd.sizeOf141
  v127 := Tryd.zeroValue141
  t164 := Tryd.underlying159
  a164 := Tryd.isAgg159
  z164 := Tryd.sizeOf159
  v164 := Tryd.zeroValue159 }
theorem xtra40 : Go.Proofs.Builder.Extra Tryd.prog lays40_ren := {
  sizeBuilder := by kernel_rfl
  liesBuilder := by kernel_rfl
  t5 := Tryd.underlying5
  a5 := Tryd.isAgg5
  z5 := Tryd.sizeOf5
  v5 := Tryd.zeroValue5
  infoByte := by kernel_rfl
  cellsByte := by kernel_rfl
  sizeByte := by kernel_rfl
  neB5 := of_decide_eq_true (by kernel_rfl) }
theorem spec40 (ins : Vals (E.sig 40).ins) (outs : Vals (E.sig 40).outs) (ho : joinX (show List ByteArray × ByteArray from ins) = some (show ByteArray from outs)) : FnSpec Tryd.prog E.gg (E.sig 40) (E.real 40) (unpack _ ins) (unpack _ outs) := by
  unfold joinX at ho
  by_cases hc : (show List ByteArray × ByteArray from ins).1.length ≤ 140737488355328 ∧ (Go.Lib.join ((show List ByteArray × ByteArray from ins).1.map (·.data.toList)) (show List ByteArray × ByteArray from ins).2.data.toList).length ≤ 140737488355328
  · rw [decide_eq_true hc] at ho
    have ho := Option.some.inj ho
    have hx := spec_join (P := Tryd.prog) (gg := E.gg) (f := 40) (sg := E.sig 40) (m3 := .ro) (by kernel_rfl) (by kernel_rfl) rfl (show List ByteArray × ByteArray from ins).1 (show List ByteArray × ByteArray from ins).2 (show ByteArray from outs)
      (fun h0 w ad c _ => by
        rw [← ho, h0]
        exact (Any.strings_Join_none lays40 xtra40 ad c _ w).mono fun e w' ⟨he, hw⟩ => ⟨he, hw ▸ Below.refl _ _⟩)
      (fun w bk o c _ hcells hbk hcap => by
        rw [← ho]
        exact Any.strings_Join lays40 xtra40 bk o c _ _ w hcells hbk hc.1 hcap hc.2)
    exact hx
  · rw [decide_eq_false hc] at ho
    cases ho
def lays71_ren : Go.Shelf.Ren := ⟨fun | 171 => 71 | 243 => 100 | 246 => 121 | 283 => 137 | 284 => 138 | 285 => 139 | 286 => 140 | 129 => 146 | 317 => 145 | 318 => 147 | 319 => 148 | 320 => 149 | 337 => 152 | 338 => 153 | n => n, fun | 3 => 3 | 9 => 9 | 2 => 2 | 4 => 4 | 171 => 177 | 0 => 0 | 53 => 178 | 37 => 66 | 5 => 5 | 173 => 181 | 212 => 189 | 51 => 174 | 20 => 20 | 213 => 190 | 46 => 155 | 232 => 201 | 233 => 202 | n => n, fun | 17 => 3 | 18 => 6 | 19 => 7 | n => n⟩
theorem lays71 : Go.Proofs.LaysM.n171 Tryd.prog lays71_ren := {
  mixed := by kernel_rfl
  f129 := Tryd.func146.trans (congrArg some (by kernel_rfl))
  f171 := Tryd.func71.trans (congrArg some (by kernel_rfl))
  f243 := Tryd.func100.trans (congrArg some (by kernel_rfl))
  f246 := Tryd.func121.trans (congrArg some (by kernel_rfl))
  f283 := Tryd.func137.trans (congrArg some (by kernel_rfl))
  f284 := Tryd.func138.trans (congrArg some (by kernel_rfl))
  f285 := Tryd.func139.trans (congrArg some (by kernel_rfl))
  f286 := Tryd.func140.trans (congrArg some (by kernel_rfl))
  f317 := Tryd.func145.trans (congrArg some (by kernel_rfl))
  f318 := Tryd.func147.trans (congrArg some (by kernel_rfl))
  f319 := Tryd.func148.trans (congrArg some (by kernel_rfl))
  f320 := Tryd.func149.trans (congrArg some (by kernel_rfl))
  f337 := Tryd.func152.trans (congrArg some (by kernel_rfl))
  f338 := Tryd.func153.trans (congrArg some (by kernel_rfl))
  t0 := Tryd.underlying0
  a0 := Tryd.isAgg0
  z0 := Tryd.sizeOf0
  v0 := Tryd.zeroValue0
  t2 := Tryd.underlying2
  a2 := Tryd.isAgg2
  z2 := Tryd.sizeOf2
  v2 := Tryd.zeroValue2
  t3 := Tryd.underlying3
  a3 := Tryd.isAgg3
  z3 := Tryd.sizeOf3
  v3 := Tryd.zeroValue3
  t4 := Tryd.underlying4
  a4 := Tryd.isAgg4
  z4 := Tryd.sizeOf4
  v4 := Tryd.zeroValue4
  t5 := Tryd.underlying5
  a5 := Tryd.isAgg5
  z5 := Tryd.sizeOf5
  v5 := Tryd.zeroValue5
  t9 := Tryd.underlying9
  a9 := Tryd.isAgg9
  z9 := Tryd.sizeOf9
  v9 := Tryd.zeroValue9
  t20 := Tryd.underlying20
  a20 := Tryd.isAgg20
  z20 := Tryd.sizeOf20
  v20 := Tryd.zeroValue20
  t37 := Tryd.underlying66
  a37 := Tryd.isAgg66
  z37 := Tryd.sizeOf66
  v37 := Tryd.zeroValue66
  t46 := Tryd.underlying155
  a46 := Tryd.isAgg155
  z46 := Tryd.sizeOf155
  v46 := Tryd.zeroValue155
  t51 := Tryd.underlying174
  a51 := Tryd.isAgg174
  z51 := Tryd.sizeOf174
  v51 := Tryd.zeroValue174
  t53 := Tryd.underlying178
  a53 := Tryd.isAgg178
  z53 := Tryd.sizeOf178
  v53 := Tryd.zeroValue178
  t171 := Tryd.underlying177
  a171 := Tryd.isAgg177
  z171 := Tryd.sizeOf177
  v171 := Tryd.zeroValue177
  t173 := Tryd.underlying181
  a173 := Tryd.isAgg181
  z173 := Tryd.sizeOf181
  v173 := Tryd.zeroValue181
  t212 := Tryd.underlying189
  a212 := Tryd.isAgg189
  z212 := Tryd.sizeOf189
  v212 := Tryd.zeroValue189
  t213 := Tryd.underlying190
  a213 := Tryd.isAgg190
  z213 := Tryd.sizeOf190
  t232 := Tryd.underlying201
  a232 := Tryd.isAgg201
  z232 := Tryd.sizeOf201
  v232 := Tryd.zeroValue201
  t233 := Tryd.underlying202
  a233 := Tryd.isAgg202
  z233 := Tryd.sizeOf202
  v233 := Tryd.zeroValue202
  g17 := by kernel_rfl
  g18 := by kernel_rfl
  g19 := by kernel_rfl
  i0 := by kernel_rfl
  i2 := by kernel_rfl
  i3 := by kernel_rfl
  i4 := by kernel_rfl
  i5 := by kernel_rfl
  i9 := by kernel_rfl
  i20 := by kernel_rfl
  i37 := by kernel_rfl
  i46 := by kernel_rfl
  i51 := by kernel_rfl
  i53 := by kernel_rfl
  i171 := by kernel_rfl
  i173 := by kernel_rfl
  i212 := by kernel_rfl
  i232 := by kernel_rfl
  i233 := by kernel_rfl
  m17 := by kernel_rfl
  m18 := by kernel_rfl
  m19 := by kernel_rfl }
theorem spec71 (ins : Vals (E.sig 71).ins) (outs : Vals (E.sig 71).outs) (ho : itoaX (show Int from ins) = some (show ByteArray from outs)) : FnSpec Tryd.prog E.gg (E.sig 71) (E.real 71) (unpack _ ins) (unpack _ outs) := by
  unfold itoaX at ho
  by_cases hc : -9223372036854775808 ≤ (show Int from ins) ∧ (show Int from ins) ≤ 9223372036854775807
  · rw [decide_eq_true hc] at ho
    have ho := Option.some.inj ho
    have hx := spec_i_s (P := Tryd.prog) (gg := E.gg) (f := 71) (sg := E.sig 71) (k := .i64) (m3 := .ro) (by kernel_rfl) (by kernel_rfl) rfl (show Int from ins) ⟨(Go.Lib.itoa (show Int from ins)).toArray⟩ (fun w hgl => (Any.strconv_Itoa lays71 (show Int from ins) hc.1 hc.2 w (show gT.gl w from hgl).1).mono fun e w' ⟨he, k, os, hw⟩ => ⟨he, hw ▸ below_grow_drewN w k os⟩)
    rw [ho] at hx
    exact hx
  · rw [decide_eq_false hc] at ho
    cases ho
def lays59_ren : Go.Shelf.Ren := ⟨fun | 147 => 59 | 221 => 94 | 268 => 112 | 138 => 113 | 143 => 70 | 195 => 127 | 197 => 128 | 218 => 129 | 219 => 99 | 260 => 141 | 217 => 117 | 225 => 118 | 224 => 119 | 267 => 120 | 266 => 135 | 314 => 136 | n => n, fun | 9 => 9 | 3 => 3 | 31 => 72 | 4 => 4 | 0 => 0 | 105 => 166 | 21 => 21 | 5 => 5 | 46 => 155 | 119 => 192 | 139 => 195 | 138 => 194 | 146 => 175 | 51 => 174 | n => n, fun | 1 => 0 | 3 => 4 | 4 => 5 | n => n⟩
theorem lays59 : Go.Proofs.Lays.n147 Tryd.prog lays59_ren := {
  mixed := by kernel_rfl
  f138 := Tryd.func113.trans (congrArg some (by kernel_rfl))
  f143 := Tryd.func70.trans (congrArg some (by kernel_rfl))
  f147 := Tryd.func59.trans (congrArg some (by kernel_rfl))
  f195 := Tryd.func127.trans (congrArg some (by kernel_rfl))
  f197 := Tryd.func128.trans (congrArg some (by kernel_rfl))
  f217 := Tryd.func117.trans (congrArg some (by kernel_rfl))
  f218 := Tryd.func129.trans (congrArg some (by kernel_rfl))
  f219 := Tryd.func99.trans (congrArg some (by kernel_rfl))
  f221 := Tryd.func94.trans (congrArg some (by kernel_rfl))
  f224 := Tryd.func119.trans (congrArg some (by kernel_rfl))
  f225 := Tryd.func118.trans (congrArg some (by kernel_rfl))
  f260 := Tryd.func141.trans (congrArg some (by kernel_rfl))
  f266 := Tryd.func135.trans (congrArg some (by kernel_rfl))
  f267 := Tryd.func120.trans (congrArg some (by kernel_rfl))
  f268 := Tryd.func112.trans (congrArg some (by kernel_rfl))
  f314 := Tryd.func136.trans (congrArg some (by kernel_rfl))
  t0 := Tryd.underlying0
  a0 := Tryd.isAgg0
  z0 := Tryd.sizeOf0
  v0 := Tryd.zeroValue0
  t3 := Tryd.underlying3
  a3 := Tryd.isAgg3
  z3 := Tryd.sizeOf3
  v3 := Tryd.zeroValue3
  t4 := Tryd.underlying4
  a4 := Tryd.isAgg4
  z4 := Tryd.sizeOf4
  v4 := Tryd.zeroValue4
  t5 := Tryd.underlying5
  a5 := Tryd.isAgg5
  z5 := Tryd.sizeOf5
  v5 := Tryd.zeroValue5
  t9 := Tryd.underlying9
  a9 := Tryd.isAgg9
  z9 := Tryd.sizeOf9
  v9 := Tryd.zeroValue9
  t21 := Tryd.underlying21
  a21 := Tryd.isAgg21
  z21 := Tryd.sizeOf21
  v21 := Tryd.zeroValue21
  t31 := Tryd.underlying72
  a31 := Tryd.isAgg72
  z31 := Tryd.sizeOf72
  v31 := Tryd.zeroValue72
  t46 := Tryd.underlying155
  a46 := Tryd.isAgg155
  z46 := Tryd.sizeOf155
  v46 := Tryd.zeroValue155
  t51 := Tryd.underlying174
  a51 := Tryd.isAgg174
  z51 := Tryd.sizeOf174
  v51 := Tryd.zeroValue174
  t105 := Tryd.underlying166
  a105 := Tryd.isAgg166
  z105 := Tryd.sizeOf166
  v105 := Tryd.zeroValue166
  t119 := Tryd.underlying192
  a119 := Tryd.isAgg192
  z119 := Tryd.sizeOf192
  t138 := Tryd.underlying194
  a138 := Tryd.isAgg194
  z138 := Tryd.sizeOf194
  v138 := Tryd.zeroValue194
  t139 := Tryd.underlying195
  a139 := Tryd.isAgg195
  z139 := Tryd.sizeOf195
  v139 := Tryd.zeroValue195
  t146 := Tryd.underlying175
  a146 := Tryd.isAgg175
  z146 := Tryd.sizeOf175
  v146 := Tryd.zeroValue175
  g1 := by kernel_rfl
  g3 := by kernel_rfl
  g4 := by kernel_rfl }
theorem spec59 (ins : Vals (E.sig 59).ins) (outs : Vals (E.sig 59).outs) (ho : splitNX (show ByteArray × ByteArray × Int from ins) = some (show List ByteArray from outs)) : FnSpec Tryd.prog E.gg (E.sig 59) (E.real 59) (unpack _ ins) (unpack _ outs) := by
  unfold splitNX at ho
  by_cases hc : (show ByteArray × ByteArray × Int from ins).1.size < 4294967281 ∧ 1 ≤ (show ByteArray × ByteArray × Int from ins).2.1.size ∧ 1 ≤ (show ByteArray × ByteArray × Int from ins).2.2 ∧ (show ByteArray × ByteArray × Int from ins).2.2 ≤ 1000
  · rw [decide_eq_true hc] at ho
    have ho := Option.some.inj ho
    have hx := spec_ssi_l (P := Tryd.prog) (gg := E.gg) (f := 59) (sg := E.sig 59) (by kernel_rfl) (by kernel_rfl) (show ByteArray × ByteArray × Int from ins).1 (show ByteArray × ByteArray × Int from ins).2.1 (show ByteArray × ByteArray × Int from ins).2.2 (show List ByteArray from outs) (fun w hgl => by
      obtain ⟨m, hm⟩ := (show gT.gl w from hgl).2.1
      obtain ⟨k, hk⟩ : ∃ k : Nat, (show ByteArray × ByteArray × Int from ins).2.2 = (k : Int) := ⟨(show ByteArray × ByteArray × Int from ins).2.2.toNat, by omega⟩
      rw [← ho, hk, Int.toNat_natCast]
      refine (Any.strings_SplitN lays59 (by kernel_rfl) _ _ k m w hc.1 hm hc.2.1 (by omega) (by omega)).mono fun e w' ⟨he, hw⟩ => ⟨_, he, ?_, fun j x hj => ?_, ?_, ?_⟩
      · have := splitB_le (show ByteArray × ByteArray × Int from ins).2.1 0 (min k ((show ByteArray × ByteArray × Int from ins).1.size + 1) - 1) (show ByteArray × ByteArray × Int from ins).1
        omega
      · rw [hw]; exact cells_strs _ _ _ j x hj
      · rw [hw]; exact alloc_lt _
      · rw [hw]; exact (Below.refl _ _).alloc (Nat.le_refl _) _)
    exact hx
  · rw [decide_eq_false hc] at ho
    cases ho
def lays62_ren : Go.Shelf.Ren := ⟨fun | 146 => 62 | 221 => 94 | 268 => 112 | 138 => 113 | 143 => 70 | 195 => 127 | 197 => 128 | 218 => 129 | 219 => 99 | 260 => 141 | 217 => 117 | 225 => 118 | 224 => 119 | 267 => 120 | 266 => 135 | 314 => 136 | n => n, fun | 9 => 9 | 31 => 72 | 3 => 3 | 4 => 4 | 0 => 0 | 105 => 166 | 21 => 21 | 5 => 5 | 46 => 155 | 119 => 192 | 139 => 195 | 138 => 194 | 146 => 175 | 51 => 174 | n => n, fun | 1 => 0 | 3 => 4 | 4 => 5 | n => n⟩
theorem lays62 : Go.Proofs.Lays.n146 Tryd.prog lays62_ren := {
  mixed := by kernel_rfl
  f138 := Tryd.func113.trans (congrArg some (by kernel_rfl))
  f143 := Tryd.func70.trans (congrArg some (by kernel_rfl))
  f146 := Tryd.func62.trans (congrArg some (by kernel_rfl))
  f195 := Tryd.func127.trans (congrArg some (by kernel_rfl))
  f197 := Tryd.func128.trans (congrArg some (by kernel_rfl))
  f217 := Tryd.func117.trans (congrArg some (by kernel_rfl))
  f218 := Tryd.func129.trans (congrArg some (by kernel_rfl))
  f219 := Tryd.func99.trans (congrArg some (by kernel_rfl))
  f221 := Tryd.func94.trans (congrArg some (by kernel_rfl))
  f224 := Tryd.func119.trans (congrArg some (by kernel_rfl))
  f225 := Tryd.func118.trans (congrArg some (by kernel_rfl))
  f260 := Tryd.func141.trans (congrArg some (by kernel_rfl))
  f266 := Tryd.func135.trans (congrArg some (by kernel_rfl))
  f267 := Tryd.func120.trans (congrArg some (by kernel_rfl))
  f268 := Tryd.func112.trans (congrArg some (by kernel_rfl))
  f314 := Tryd.func136.trans (congrArg some (by kernel_rfl))
  t0 := Tryd.underlying0
  a0 := Tryd.isAgg0
  z0 := Tryd.sizeOf0
  v0 := Tryd.zeroValue0
  t3 := Tryd.underlying3
  a3 := Tryd.isAgg3
  z3 := Tryd.sizeOf3
  v3 := Tryd.zeroValue3
  t4 := Tryd.underlying4
  a4 := Tryd.isAgg4
  z4 := Tryd.sizeOf4
  v4 := Tryd.zeroValue4
  t5 := Tryd.underlying5
  a5 := Tryd.isAgg5
  z5 := Tryd.sizeOf5
  v5 := Tryd.zeroValue5
  t9 := Tryd.underlying9
  a9 := Tryd.isAgg9
  z9 := Tryd.sizeOf9
  v9 := Tryd.zeroValue9
  t21 := Tryd.underlying21
  a21 := Tryd.isAgg21
  z21 := Tryd.sizeOf21
  v21 := Tryd.zeroValue21
  t31 := Tryd.underlying72
  a31 := Tryd.isAgg72
  z31 := Tryd.sizeOf72
  v31 := Tryd.zeroValue72
  t46 := Tryd.underlying155
  a46 := Tryd.isAgg155
  z46 := Tryd.sizeOf155
  v46 := Tryd.zeroValue155
  t51 := Tryd.underlying174
  a51 := Tryd.isAgg174
  z51 := Tryd.sizeOf174
  v51 := Tryd.zeroValue174
  t105 := Tryd.underlying166
  a105 := Tryd.isAgg166
  z105 := Tryd.sizeOf166
  v105 := Tryd.zeroValue166
  t119 := Tryd.underlying192
  a119 := Tryd.isAgg192
  z119 := Tryd.sizeOf192
  t138 := Tryd.underlying194
  a138 := Tryd.isAgg194
  z138 := Tryd.sizeOf194
  v138 := Tryd.zeroValue194
  t139 := Tryd.underlying195
  a139 := Tryd.isAgg195
  z139 := Tryd.sizeOf195
  v139 := Tryd.zeroValue195
  t146 := Tryd.underlying175
  a146 := Tryd.isAgg175
  z146 := Tryd.sizeOf175
  v146 := Tryd.zeroValue175
  g1 := by kernel_rfl
  g3 := by kernel_rfl
  g4 := by kernel_rfl }
theorem spec62 (ins : Vals (E.sig 62).ins) (outs : Vals (E.sig 62).outs) (ho : splitX (show ByteArray × ByteArray from ins) = some (show List ByteArray from outs)) : FnSpec Tryd.prog E.gg (E.sig 62) (E.real 62) (unpack _ ins) (unpack _ outs) := by
  unfold splitX at ho
  by_cases hc : (show ByteArray × ByteArray from ins).1.size < 4294967281 ∧ 1 ≤ (show ByteArray × ByteArray from ins).2.size
  · rw [decide_eq_true hc] at ho
    have ho := Option.some.inj ho
    have hx := spec_ss_l (P := Tryd.prog) (gg := E.gg) (f := 62) (sg := E.sig 62) (by kernel_rfl) (by kernel_rfl) (show ByteArray × ByteArray from ins).1 (show ByteArray × ByteArray from ins).2 (show List ByteArray from outs) (fun w hgl => by
      obtain ⟨m, hm⟩ := (show gT.gl w from hgl).2.1
      have hl := Lib.splitB_all (show ByteArray × ByteArray from ins).2 hc.2 0 _ (show ByteArray × ByteArray from ins).1 rfl
      rw [← ho]
      refine (Any.strings_Split lays62 (by kernel_rfl) _ _ m w hc.1 hm hc.2).mono fun e w' ⟨he, hw⟩ => ⟨Lib.countB (show ByteArray × ByteArray from ins).1 (show ByteArray × ByteArray from ins).2 + 1, by rw [he, hl], by omega, fun j x hj => ?_, ?_, ?_⟩
      · rw [hw, ← Lib.cellsOf_full]; exact cells_strs _ _ _ j x hj
      · rw [hw]; exact alloc_lt _
      · rw [hw]; exact (Below.refl _ _).alloc (Nat.le_refl _) _)
    exact hx
  · rw [decide_eq_false hc] at ho
    cases ho
def lays95_ren : Go.Shelf.Ren := ⟨fun | 172 => 95 | 244 => 114 | 245 => 115 | 247 => 130 | 279 => 131 | 280 => 132 | 281 => 133 | 282 => 134 | 287 => 142 | 316 => 143 | 171 => 71 | 205 => 144 | 321 => 150 | 322 => 151 | 243 => 100 | 246 => 121 | 283 => 137 | 284 => 138 | 285 => 139 | 286 => 140 | 129 => 146 | 317 => 145 | 318 => 147 | 319 => 148 | 320 => 149 | 337 => 152 | 338 => 153 | n => n, fun | 9 => 9 | 3 => 3 | 75 => 110 | 76 => 111 | 4 => 4 | 5 => 5 | 167 => 168 | 37 => 66 | 0 => 0 | 85 => 169 | 2 => 2 | 168 => 171 | 53 => 178 | 175 => 183 | 46 => 155 | 210 => 186 | 127 => 141 | 145 => 199 | 143 => 197 | 21 => 21 | 171 => 177 | 173 => 181 | 212 => 189 | 51 => 174 | 20 => 20 | 213 => 190 | 232 => 201 | 233 => 202 | 80 => 113 | n => n, fun | 15 => 1 | 16 => 2 | 17 => 3 | 18 => 6 | 19 => 7 | n => n⟩
theorem lays95 : Go.Proofs.LaysC.n172 Tryd.prog lays95_ren := {
  mixed := by kernel_rfl
  f129 := Tryd.func146.trans (congrArg some (by kernel_rfl))
  f171 := Tryd.func71.trans (congrArg some (by kernel_rfl))
  f172 := Tryd.func95.trans (congrArg some (by kernel_rfl))
  f205 := Tryd.func144.trans (congrArg some (by kernel_rfl))
  f243 := Tryd.func100.trans (congrArg some (by kernel_rfl))
  f244 := Tryd.func114.trans (congrArg some (by kernel_rfl))
  f245 := Tryd.func115.trans (congrArg some (by kernel_rfl))
  f246 := Tryd.func121.trans (congrArg some (by kernel_rfl))
  f247 := Tryd.func130.trans (congrArg some (by kernel_rfl))
  f279 := Tryd.func131.trans (congrArg some (by kernel_rfl))
  f280 := Tryd.func132.trans (congrArg some (by kernel_rfl))
  f281 := Tryd.func133.trans (congrArg some (by kernel_rfl))
  f282 := Tryd.func134.trans (congrArg some (by kernel_rfl))
  f283 := Tryd.func137.trans (congrArg some (by kernel_rfl))
  f284 := Tryd.func138.trans (congrArg some (by kernel_rfl))
  f285 := Tryd.func139.trans (congrArg some (by kernel_rfl))
  f286 := Tryd.func140.trans (congrArg some (by kernel_rfl))
  f287 := Tryd.func142.trans (congrArg some (by kernel_rfl))
  f316 := Tryd.func143.trans (congrArg some (by kernel_rfl))
  f317 := Tryd.func145.trans (congrArg some (by kernel_rfl))
  f318 := Tryd.func147.trans (congrArg some (by kernel_rfl))
  f319 := Tryd.func148.trans (congrArg some (by kernel_rfl))
  f320 := Tryd.func149.trans (congrArg some (by kernel_rfl))
  f321 := Tryd.func150.trans (congrArg some (by kernel_rfl))
  f322 := Tryd.func151.trans (congrArg some (by kernel_rfl))
  f337 := Tryd.func152.trans (congrArg some (by kernel_rfl))
  f338 := Tryd.func153.trans (congrArg some (by kernel_rfl))
  t0 := Tryd.underlying0
  a0 := Tryd.isAgg0
  z0 := Tryd.sizeOf0
  v0 := Tryd.zeroValue0
  t2 := Tryd.underlying2
  a2 := Tryd.isAgg2
  z2 := Tryd.sizeOf2
  v2 := Tryd.zeroValue2
  t3 := Tryd.underlying3
  a3 := Tryd.isAgg3
  z3 := Tryd.sizeOf3
  v3 := Tryd.zeroValue3
  t4 := Tryd.underlying4
  a4 := Tryd.isAgg4
  z4 := Tryd.sizeOf4
  v4 := Tryd.zeroValue4
  t5 := Tryd.underlying5
  a5 := Tryd.isAgg5
  z5 := Tryd.sizeOf5
  v5 := Tryd.zeroValue5
  t9 := Tryd.underlying9
  a9 := Tryd.isAgg9
  z9 := Tryd.sizeOf9
  v9 := Tryd.zeroValue9
  t20 := Tryd.underlying20
  a20 := Tryd.isAgg20
  z20 := Tryd.sizeOf20
  v20 := Tryd.zeroValue20
  t21 := Tryd.underlying21
  a21 := Tryd.isAgg21
  z21 := Tryd.sizeOf21
  v21 := Tryd.zeroValue21
  t37 := Tryd.underlying66
  a37 := Tryd.isAgg66
  z37 := Tryd.sizeOf66
  v37 := Tryd.zeroValue66
  t46 := Tryd.underlying155
  a46 := Tryd.isAgg155
  z46 := Tryd.sizeOf155
  v46 := Tryd.zeroValue155
  t51 := Tryd.underlying174
  a51 := Tryd.isAgg174
  z51 := Tryd.sizeOf174
  v51 := Tryd.zeroValue174
  t53 := Tryd.underlying178
  a53 := Tryd.isAgg178
  z53 := Tryd.sizeOf178
  v53 := Tryd.zeroValue178
  t75 := Tryd.underlying110
  a75 := Tryd.isAgg110
  z75 := Tryd.sizeOf110
  v75 := Tryd.zeroValue110
  t76 := Tryd.underlying111
  a76 := Tryd.isAgg111
  z76 := Tryd.sizeOf111
  v76 := Tryd.zeroValue111
  t85 := Tryd.underlying169
  a85 := Tryd.isAgg169
  z85 := Tryd.sizeOf169
  v85 := Tryd.zeroValue169
  t127 := Tryd.underlying141
  a127 := Tryd.isAgg141
  z127 := Tryd.sizeOf141
  v127 := Tryd.zeroValue141
  t143 := Tryd.underlying197
  a143 := Tryd.isAgg197
  z143 := Tryd.sizeOf197
  v143 := Tryd.zeroValue197
  t145 := Tryd.underlying199
  a145 := Tryd.isAgg199
  z145 := Tryd.sizeOf199
  v145 := Tryd.zeroValue199
  t167 := Tryd.underlying168
  a167 := Tryd.isAgg168
  z167 := Tryd.sizeOf168
  v167 := Tryd.zeroValue168
  t168 := Tryd.underlying171
  a168 := Tryd.isAgg171
  z168 := Tryd.sizeOf171
  v168 := Tryd.zeroValue171
  t171 := Tryd.underlying177
  a171 := Tryd.isAgg177
  z171 := Tryd.sizeOf177
  v171 := Tryd.zeroValue177
  t173 := Tryd.underlying181
  a173 := Tryd.isAgg181
  z173 := Tryd.sizeOf181
  v173 := Tryd.zeroValue181
  t175 := Tryd.underlying183
  a175 := Tryd.isAgg183
  z175 := Tryd.sizeOf183
  v175 := Tryd.zeroValue183
  t210 := Tryd.underlying186
  a210 := Tryd.isAgg186
  z210 := Tryd.sizeOf186
  v210 := Tryd.zeroValue186
  t212 := Tryd.underlying189
  a212 := Tryd.isAgg189
  z212 := Tryd.sizeOf189
  v212 := Tryd.zeroValue189
  t213 := Tryd.underlying190
  a213 := Tryd.isAgg190
  z213 := Tryd.sizeOf190
  t232 := Tryd.underlying201
  a232 := Tryd.isAgg201
  z232 := Tryd.sizeOf201
  v232 := Tryd.zeroValue201
  t233 := Tryd.underlying202
  a233 := Tryd.isAgg202
  z233 := Tryd.sizeOf202
  v233 := Tryd.zeroValue202
  g15 := by kernel_rfl
  g16 := by kernel_rfl
  g17 := by kernel_rfl
  g18 := by kernel_rfl
  g19 := by kernel_rfl
  t80 := Tryd.underlying113
  a80 := Tryd.isAgg113
  z80 := Tryd.sizeOf113
  v80 := Tryd.zeroValue113
  i0 := by kernel_rfl
  i2 := by kernel_rfl
  i3 := by kernel_rfl
  i4 := by kernel_rfl
  i5 := by kernel_rfl
  i9 := by kernel_rfl
  i20 := by kernel_rfl
  i21 := by kernel_rfl
  i37 := by kernel_rfl
  i46 := by kernel_rfl
  i51 := by kernel_rfl
  i53 := by kernel_rfl
  i75 := by kernel_rfl
  i76 := by kernel_rfl
  i80 := by kernel_rfl
  i85 := by kernel_rfl
  i127 := by kernel_rfl
  i143 := by kernel_rfl
  i145 := by kernel_rfl
  i167 := by kernel_rfl
  i168 := by kernel_rfl
  i171 := by kernel_rfl
  i173 := by kernel_rfl
  i175 := by kernel_rfl
  i210 := by kernel_rfl
  i212 := by kernel_rfl
  i232 := by kernel_rfl
  i233 := by kernel_rfl
  m15 := by kernel_rfl
  m16 := by kernel_rfl
  m17 := by kernel_rfl
  m18 := by kernel_rfl
  m19 := by kernel_rfl
  c0 := by kernel_rfl
  c2 := by kernel_rfl
  c3 := by kernel_rfl
  c4 := by kernel_rfl
  c5 := by kernel_rfl
  c9 := by kernel_rfl
  c20 := by kernel_rfl
  c21 := by kernel_rfl
  c37 := by kernel_rfl
  c46 := by kernel_rfl
  c51 := by kernel_rfl
  c53 := by kernel_rfl
  c75 := by kernel_rfl
  c76 := by kernel_rfl
  c80 := by kernel_rfl
  c85 := by kernel_rfl
  c127 := by kernel_rfl
  c143 := by kernel_rfl
  c145 := by kernel_rfl
  c167 := by kernel_rfl
  c168 := by kernel_rfl
  c171 := by kernel_rfl
  c173 := by kernel_rfl
  c175 := by kernel_rfl
  c210 := by kernel_rfl
  c212 := by kernel_rfl
  c213 := by kernel_rfl
  c232 := by kernel_rfl
  c233 := by kernel_rfl }
theorem below_two {w a b : World} (h : Below w.heap.size w a) (h' : Below a.heap.size a b) : Below w.heap.size w b := h.trans (h'.mono h.size)
theorem atoi_ok (s : ByteArray) (hmax : s.size ≤ 281474976710656) (v : Int) (h : Lib.atoiAll s.data.toList = .ok v) (w : World) : Calls Tryd.prog 95 #[.string s] w fun e w' => e = .returned (.tuple #[.int .i64 v, .nilIface]) ∧ Below w.heap.size w w' :=
  (Any.strconv_Atoi_ok lays95 s (by omega) v h w).mono fun e w' ⟨he, hw⟩ => ⟨he, by
    rcases hw with rfl | ⟨t, rfl⟩
    · exact Below.refl _ _
    · exact Lib.bytesWorld_below _ _ _⟩
set_option maxRecDepth 100000 in
theorem num_syntax (s : ByteArray) (hl : s.size ≤ 281474976710656) (h : Lib.atoiAll s.data.toList = .«syntax») (te : TypeId) (pe : Value) (w : World) (hv : w.cell? ⟨1, 0, none⟩ = some (.iface te pe)) :
    Calls Tryd.prog 60 #[.string s] w fun e w' => e = .returned (.tuple #[.int .i64 0, .bool false]) ∧ Below w.heap.size w w' := by
  have hA := Any.strconv_Atoi_syntax lays95 s hl h (.iface te pe) w hv (.inr ⟨te, pe, rfl⟩)
  go_enter Tryd.func60, Tryd.ntmps60
  go_wp2_with (go_at_call 95; refine hA.mono ?_; rintro e w' ⟨N, rfl, hN, hcell, hB⟩)
  go_ret2
  exact ⟨rfl, hB⟩
set_option maxRecDepth 100000 in
theorem num_range (s : ByteArray) (hl : s.size ≤ 281474976710656) (h : Lib.atoiAll s.data.toList = .range) (te : TypeId) (pe : Value) (w : World) (hv : w.cell? ⟨2, 0, none⟩ = some (.iface te pe)) :
    Calls Tryd.prog 60 #[.string s] w fun e w' => e = .returned (.tuple #[.int .i64 0, .bool false]) ∧ Below w.heap.size w w' := by
  have hA := Any.strconv_Atoi_range lays95 s hl h (.iface te pe) w hv (.inr ⟨te, pe, rfl⟩)
  go_enter Tryd.func60, Tryd.ntmps60
  go_wp2_with (go_at_call 95; refine hA.mono ?_; rintro e w' ⟨N, rfl, hN, hcell, hB⟩)
  go_ret2
  exact ⟨rfl, hB⟩
set_option maxRecDepth 100000 in
theorem num_ok1 (s : ByteArray) (hmax : s.size ≤ 281474976710656) (v : Int) (h : Lib.atoiAll s.data.toList = .ok v) (w : World) (ht : ∀ w', Below w.heap.size w w' → Lib.TabIs Tryd.prog w' "internal/strconv.uint64pow10" .u64 Lib.pow10Tab) (hlo : 0 ≤ v) (hhi : v ≤ 999999) (heq : (⟨(Lib.itoa v).toArray⟩ : ByteArray) = s) :
    Calls Tryd.prog 60 #[.string s] w fun e w' => e = .returned (.tuple #[.int .i64 v, .bool true]) ∧ Below w.heap.size w w' := by
  obtain ⟨v0, v1⟩ := Lib.atoiAll_bounds h
  have hA := atoi_ok s hmax v h w
  go_enter Tryd.func60, Tryd.ntmps60
  go_wp2_with (first
    | (go_at_call 95; refine hA.mono ?_; rintro e W1 ⟨rfl, hW⟩)
    | (go_at_call 71; refine (Any.strconv_Itoa lays71 v v0 v1 _ (ht _ hW)).mono ?_; rintro e w' ⟨rfl, k, os, rfl⟩)
    | go_in)
  go_ret2
  exact ⟨rfl, below_two hW (below_grow_drewN _ _ _)⟩
set_option maxRecDepth 100000 in
theorem num_ok2 (s : ByteArray) (hmax : s.size ≤ 281474976710656) (v : Int) (h : Lib.atoiAll s.data.toList = .ok v) (w : World) (ht : ∀ w', Below w.heap.size w w' → Lib.TabIs Tryd.prog w' "internal/strconv.uint64pow10" .u64 Lib.pow10Tab) (hlo : 0 ≤ v) (hhi : v ≤ 999999) (heq : (!Lib.itoa v == s.toList) = true) :
    Calls Tryd.prog 60 #[.string s] w fun e w' => e = .returned (.tuple #[.int .i64 0, .bool false]) ∧ Below w.heap.size w w' := by
  obtain ⟨v0, v1⟩ := Lib.atoiAll_bounds h
  have hA := atoi_ok s hmax v h w
  go_enter Tryd.func60, Tryd.ntmps60
  go_wp2_with (first
    | (go_at_call 95; refine hA.mono ?_; rintro e W1 ⟨rfl, hW⟩)
    | (go_at_call 71; refine (Any.strconv_Itoa lays71 v v0 v1 _ (ht _ hW)).mono ?_; rintro e w' ⟨rfl, k, os, rfl⟩)
    | go_in)
  go_ret2
  exact ⟨rfl, below_two hW (below_grow_drewN _ _ _)⟩
set_option maxRecDepth 100000 in
theorem num_ok3 (s : ByteArray) (hmax : s.size ≤ 281474976710656) (v : Int) (h : Lib.atoiAll s.data.toList = .ok v) (w : World) (ht : ∀ w', Below w.heap.size w w' → Lib.TabIs Tryd.prog w' "internal/strconv.uint64pow10" .u64 Lib.pow10Tab) (hlo : 0 ≤ v) (hhi : ¬ v ≤ 999999) :
    Calls Tryd.prog 60 #[.string s] w fun e w' => e = .returned (.tuple #[.int .i64 0, .bool false]) ∧ Below w.heap.size w w' := by
  obtain ⟨v0, v1⟩ := Lib.atoiAll_bounds h
  have hA := atoi_ok s hmax v h w
  go_enter Tryd.func60, Tryd.ntmps60
  go_wp2_with (first
    | (go_at_call 95; refine hA.mono ?_; rintro e W1 ⟨rfl, hW⟩)
    | (go_at_call 71; refine (Any.strconv_Itoa lays71 v v0 v1 _ (ht _ hW)).mono ?_; rintro e w' ⟨rfl, k, os, rfl⟩)
    | go_in)
  go_ret2
  exact ⟨rfl, hW⟩
set_option maxRecDepth 100000 in
theorem num_ok4 (s : ByteArray) (hmax : s.size ≤ 281474976710656) (v : Int) (h : Lib.atoiAll s.data.toList = .ok v) (w : World) (ht : ∀ w', Below w.heap.size w w' → Lib.TabIs Tryd.prog w' "internal/strconv.uint64pow10" .u64 Lib.pow10Tab) (hlo : ¬ 0 ≤ v) :
    Calls Tryd.prog 60 #[.string s] w fun e w' => e = .returned (.tuple #[.int .i64 0, .bool false]) ∧ Below w.heap.size w w' := by
  obtain ⟨v0, v1⟩ := Lib.atoiAll_bounds h
  have hA := atoi_ok s hmax v h w
  go_enter Tryd.func60, Tryd.ntmps60
  go_wp2_with (first
    | (go_at_call 95; refine hA.mono ?_; rintro e W1 ⟨rfl, hW⟩)
    | (go_at_call 71; refine (Any.strconv_Itoa lays71 v v0 v1 _ (ht _ hW)).mono ?_; rintro e w' ⟨rfl, k, os, rfl⟩)
    | go_in)
  go_ret2
  exact ⟨rfl, hW⟩
theorem spec60 (ins : Vals (E.sig 60).ins) (outs : Vals (E.sig 60).outs) (ho : numberX (show ByteArray from ins) = some (show Int × Bool from outs)) : FnSpec Tryd.prog E.gg (E.sig 60) (E.real 60) (unpack _ ins) (unpack _ outs) := by
  unfold numberX at ho
  by_cases hc : (show ByteArray from ins).size ≤ 1099511627776
  · rw [decide_eq_true hc] at ho
    have ho : numA (Go.Lib.atoiAll (show ByteArray from ins).data.toList) (show ByteArray from ins) = (show Int × Bool from outs) := Option.some.inj ho
    have hx := spec_s_ib (P := Tryd.prog) (gg := E.gg) (f := 60) (sg := E.sig 60) (by kernel_rfl) (by kernel_rfl) (show ByteArray from ins) (show Int × Bool from outs).1 (show Int × Bool from outs).2 (fun w hgl => by
      have hpow := (show gT.gl w from hgl).1
      have hlt : 3 < w.heap.size := by
        unfold Lib.TabIs World.var? at hpow
        rw [gPow] at hpow
        rcases Nat.lt_or_ge 3 w.heap.size with h | h
        · exact h
        · simp only [Option.bind_some, Array.getElem?_eq_none h] at hpow; cases hpow
      have ht : ∀ w', Below w.heap.size w w' → Lib.TabIs Tryd.prog w' "internal/strconv.uint64pow10" .u64 Lib.pow10Tab := fun w' hb => pow_same (hb.block 3 hlt) hpow
      rw [← ho]
      cases ha : Go.Lib.atoiAll (show ByteArray from ins).data.toList with
      | «syntax» =>
        obtain ⟨te, pe, hv⟩ := (show gT.gl w from hgl).2.2.1
        exact num_syntax _ (by omega) ha te pe w hv
      | range =>
        obtain ⟨te, pe, hv⟩ := (show gT.gl w from hgl).2.2.2
        exact num_range _ (by omega) ha te pe w hv
      | ok v =>
        by_cases h1 : 0 ≤ v
        · by_cases h2 : v ≤ 999999
          · by_cases h3 : (⟨(Lib.itoa v).toArray⟩ : ByteArray) = (show ByteArray from ins)
            · have e : numA (.ok v) (show ByteArray from ins) = (v, true) := by
                simp only [numA, decide_eq_true (And.intro h1 h2), Bool.true_and, h3]
                exact congrArg (fun b => bif b then (v, true) else ((0 : Int), false)) (beqS_refl (show ByteArray from ins))
              rw [e]; exact num_ok1 _ (by omega) v ha w ht h1 h2 h3
            · have hb : beqS (⟨(Lib.itoa v).toArray⟩ : ByteArray) (show ByteArray from ins) = false := by rw [beqS_eq]; exact decide_eq_false h3
              have e : numA (.ok v) (show ByteArray from ins) = (0, false) := by
                simp only [numA, hb, Bool.and_false, cond_false]
              rw [e]; exact num_ok2 _ (by omega) v ha w ht h1 h2 (by
                have hb' : ((⟨(Lib.itoa v).toArray⟩ : ByteArray).toList == (show ByteArray from ins).toList) = false := hb
                rw [toList_data] at hb'
                simpa using hb')
          · have e : numA (.ok v) (show ByteArray from ins) = (0, false) := by
              simp only [numA, decide_eq_false (fun h : 0 ≤ v ∧ v ≤ 999999 => h2 h.2), Bool.false_and, cond_false]
            rw [e]; exact num_ok3 _ (by omega) v ha w ht h1 h2
        · have e : numA (.ok v) (show ByteArray from ins) = (0, false) := by
            simp only [numA, decide_eq_false (fun h : 0 ≤ v ∧ v ≤ 999999 => h1 h.1), Bool.false_and, cond_false]
          rw [e]; exact num_ok4 _ (by omega) v ha w ht h1)
    exact hx
  · rw [decide_eq_false hc] at ho
    cases ho
theorem specX (f : Nat) (h : Vals (E.sig f).ins → Option (Vals (E.sig f).outs)) (he : E.ext f = some h) (ins : Vals (E.sig f).ins) (outs : Vals (E.sig f).outs) (ho : h ins = some outs) : FnSpec Tryd.prog E.gg (E.sig f) (E.real f) (unpack _ ins) (unpack _ outs) := by
  have he : extT f = some h := he
  unfold extT at he
  split at he
  · rename_i hf
    subst hf
    have e := Option.some.inj he
    subst e
    exact spec38 ins outs ho
  ·
    split at he
    · rename_i hf
      subst hf
      have e := Option.some.inj he
      subst e
      exact spec40 ins outs ho
    ·
      split at he
      · rename_i hf
        subst hf
        have e := Option.some.inj he
        subst e
        exact spec71 ins outs ho
      ·
        split at he
        · rename_i hf
          subst hf
          have e := Option.some.inj he
          subst e
          exact spec59 ins outs ho
        ·
          split at he
          · rename_i hf
            subst hf
            have e := Option.some.inj he
            subst e
            exact spec62 ins outs ho
          ·
            split at he
            · rename_i hf
              subst hf
              have e := Option.some.inj he
              subst e
              exact spec60 ins outs ho
            ·
              cases he
theorem hCode : EnvCode Tryd.prog E := envCode_of hfn (names_of (by kernel_rfl)) (by kernel_rfl) specX
theorem hTy : EnvTy Tryd.prog E := envTy_of rfl (by kernel_rfl) (fun T _ => noEq (by kernel_rfl) T)
theorem hRd : ∀ T, rdB Tryd.prog E.ty T (E.ty T) = true := rd_of (ty := tyT) (by kernel_rfl)
theorem hLoops : EnvLoops E := envLoops_of (by kernel_rfl) (by kernel_rfl) (by kernel_rfl)
theorem hmix : Tryd.prog.follows .mixedOrders = true := by kernel_rfl

end
end Go.Proofs.YtameehmkoglkeaaDoor.M
