/- Texts of this claim. -/
import Derived.Test.YtejcgpekgbiooaaGreatDoorT5
set_option linter.unusedVariables false
set_option linter.unusedSimpArgs false
set_option linter.unusedSectionVars false
set_option maxRecDepth 100000
set_option maxHeartbeats 0
section
namespace Go.Am
open Go Go.RowKit Go.Proofs D12
def R27:List (List D):=[[.list true 1 (z0e [3,5])],[.list true 1 (z0e [4])],[.list true 1 (z0e [9])]]
theorem u5s:z9t (w8x 27 [cdA z90]) (.tuple [.d (.list false 1 R27), .d (.int .i64 0)])=true:=by kernel_rfl
end Go.Am
end
