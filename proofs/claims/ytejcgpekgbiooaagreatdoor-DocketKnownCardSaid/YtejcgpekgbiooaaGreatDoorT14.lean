/- Texts of this claim. -/
import Derived.Test.YtejcgpekgbiooaaGreatDoorT13
set_option linter.unusedVariables false
set_option linter.unusedSimpArgs false
set_option linter.unusedSectionVars false
set_option maxRecDepth 1000000
set_option maxHeartbeats 0
section
namespace Go.Am
open Go Go.RowKit Go.Proofs D12
theorem run46k : z8q (w1r 46 [cdA z8v, cdA [d1, d0, d3, d2]]) (.tuple [cdA [], .d (.int .i64 24)]) = true := by kernel_rfl
end Go.Am
end
