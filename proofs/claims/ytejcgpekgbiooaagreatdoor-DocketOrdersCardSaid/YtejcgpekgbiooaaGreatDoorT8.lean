/- Texts of this claim. -/
import Derived.Test.YtejcgpekgbiooaaGreatDoorT7
set_option linter.unusedVariables false
set_option linter.unusedSimpArgs false
set_option linter.unusedSectionVars false
set_option maxRecDepth 100000
set_option maxHeartbeats 0
section
namespace Go.Am
open Go Go.RowKit Go.Proofs D12
theorem u5q:z9t (w8x 31 [cdA z90, .d (.int .i64 2)]) (.tuple [cdA [d0,d1,d2], .d (.int .i64 0)])=true:=by kernel_rfl
end Go.Am
end
