/- Texts of this claim. -/
import Derived.Test.YtejcgpekgbiooaaGreatDoorT11
set_option linter.unusedVariables false
set_option linter.unusedSimpArgs false
set_option linter.unusedSectionVars false
set_option maxRecDepth 100000
set_option maxHeartbeats 0
section
namespace Go.Am
open Go Go.RowKit Go.Proofs D12
theorem v9b:z9t (w8x 35 [cdA z90,cdA [d1,d0,d3,d2]]) (.d (.int .i64 24))=true:=by kernel_rfl
end Go.Am
end
