/- Texts of this claim. -/
import Derived.Test.YtejcgpekgbiooaaGreatDoorT9
set_option linter.unusedVariables false
set_option linter.unusedSimpArgs false
set_option linter.unusedSectionVars false
set_option maxRecDepth 100000
set_option maxHeartbeats 0
section
namespace Go.Am
open Go Go.RowKit Go.Proofs D12
theorem v88:z9t (w8x 46 [cdA [d0],cdA [d3]]) (.tuple [cdA [], .d (.int .i64 16)])=true:=by kernel_rfl
end Go.Am
end
