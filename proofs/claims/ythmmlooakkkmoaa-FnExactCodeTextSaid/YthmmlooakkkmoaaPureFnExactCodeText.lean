/- CodeText: for every int, the program's CodeText and the reference's answer with the same text: at 0 to 3 the same word, else the empty text. No conditions. -/
import Derived.Test.YthmmlooakkkmoaaPFnExactCodeTextx1
namespace Go.Proofs.Ythmmlooakkkmoaa.Pure
open Go.RowKit Go.Proofs.Ythmmlooakkkmoaa.PFnExactCodeText Go.Proofs.YthmmlooakkkmoaaW.PrintWords Go.Proofs.YthmmlooakkkmoaaW.PrintLast

theorem FnExactCodeText : laws_FnExactCodeText.Pure := by
  intro a0 _
  have e0 : laws_FnExactCodeText.f 0 = some true := by kernel_rfl
  have e1 : laws_FnExactCodeText.f 1 = some true := by kernel_rfl
  have e2 : laws_FnExactCodeText.f 2 = some true := by kernel_rfl
  have e3 : laws_FnExactCodeText.f 3 = some true := by kernel_rfl
  by_cases h0 : a0 ≥ 0
  · by_cases h3 : a0 ≤ 3
    · have h : a0 = 0 ∨ a0 = 1 ∨ a0 = 2 ∨ a0 = 3 := by omega
      rcases h with rfl | rfl | rfl | rfl <;> assumption
    · simp [laws_FnExactCodeText.f, spec_CodeText.f, impl_CodeText.f, spec_l1In.f, impl_within.f, h0, wrap64, h3]
  · simp [laws_FnExactCodeText.f, spec_CodeText.f, impl_CodeText.f, spec_l1In.f, impl_within.f, h0]

end Go.Proofs.Ythmmlooakkkmoaa.Pure
