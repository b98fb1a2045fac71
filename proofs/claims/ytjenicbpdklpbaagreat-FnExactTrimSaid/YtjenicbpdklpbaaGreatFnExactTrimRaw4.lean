/- Plain forms of the functions that FnExactTrim reaches, part 4. No conditions. -/
import Derived.Test.YtjenicbpdklpbaaGreatFnExactTrimTab
set_option linter.all false
namespace Go.Proofs.YtjenicbpdklpbaaGreat.M
open Go Go.Eng Go.Proofs
set_option linter.unusedVariables false
noncomputable section
def impl_LeafOf_raw : RT Int Int := fun D L a0 =>
 (impl_isNode D a0).bind fun r1 =>
 bif (!r1) then (some (-1))
 else ((impl_PutNum D a0).bind fun r2 =>
 (impl_Crc D r2).bind fun r3 =>
 bif decide ((4 : Int) ≠ 0) then
 some (Int.tmod r3 4) else none)
theorem impl_LeafOf_of : OfF impl_LeafOf impl_LeafOf_raw := ofF 318 fun _ _ _ => by kernel_rfl
def slices_Indexint_int_l0 : RT ((List Int) × Int × Int × Int) (Int ⊕ Unit) := fun D L (y0, y1, y2, y3) =>
 bif (decide (y3 < y2)) then (bif inb y3 y0.length then
 bif (decide (y1 = (rd1 (0 : Int) y0 y3))) then (some (Sum.inl y3))
 else (slices_Indexint_int_k0 L (y0, y1, y2, (IntKind.wrap .i64 (y3 + 1)))) else none)
 else (some (Sum.inr ()))
theorem slices_Indexint_int_l0_of : OfL slices_Indexint_int_k0 slices_Indexint_int_l0 := ofL 326 0 fun _ _ _ => by kernel_rfl
def slices_Indexint_int_raw : RT XTree Int := fun D L (a0, a1) =>
 (slices_Indexint_int_k0 L (a0, a1, (a0.length : Int), 0)).bind fun z1 =>
 elimS z1 (fun u2 =>
 some u2)
 (fun z3 =>
 some (-1))
theorem slices_Indexint_int_of : OfF slices_Indexint_int slices_Indexint_int_raw := ofF 326 fun _ _ _ => by kernel_rfl
end
end Go.Proofs.YtjenicbpdklpbaaGreat.M
