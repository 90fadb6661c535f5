/- Texts of this claim. -/
import Derived.Test.YtejcgpekgbiooaaGreatDoorT14
set_option linter.unusedVariables false
set_option linter.unusedSimpArgs false
set_option linter.unusedSectionVars false
set_option maxRecDepth 1000000
set_option maxHeartbeats 0
section
namespace Go.Am
open Go Go.RowKit Go.Proofs D12
theorem run48k : z8q (w1r 48 [cdA z8v, cdA z8v]) (.tuple [.d (.list false 1 (z1j [])), .d (.int .i64 5)]) = true := by kernel_rfl
end Go.Am
end
