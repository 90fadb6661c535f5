/-
  What is read of the arguments of the laws on fading: small numbers.
-/
import Derived.Test.YtnmgimjamahalaaSw
import Derived.Test.YtnmgimjamahalaaPools
section
set_option linter.unusedVariables false
set_option linter.unusedSimpArgs false
namespace Go.Am
open Go.ChangeShapes Go.WideShapes Go.ChangeAt M08
theorem y_of {x : D} (h : DK (.int .u8) x) : ∃ n : Int, x = .int .u8 n ∧ 0 ≤ n ∧ n ≤ 255 := by
  match x, h with
  | .int k n, h =>
    obtain ⟨rfl, h⟩ := h
    exact ⟨n, rfl, by simpa [Lit.wf, IntKind.min, IntKind.max, IntKind.signed, IntKind.bits] using h⟩
theorem h_of {x : D} (h : DK (.int .u16) x) : ∃ n : Int, x = .int .u16 n ∧ 0 ≤ n ∧ n ≤ 65535 := by
  match x, h with
  | .int k n, h =>
    obtain ⟨rfl, h⟩ := h
    exact ⟨n, rfl, by simpa [Lit.wf, IntKind.min, IntKind.max, IntKind.signed, IntKind.bits] using h⟩
end Go.Am
end
