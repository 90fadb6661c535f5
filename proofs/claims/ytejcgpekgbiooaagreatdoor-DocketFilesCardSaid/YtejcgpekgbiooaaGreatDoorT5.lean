/- Texts of this claim. -/
import Derived.Test.YtejcgpekgbiooaaGreatDoorT4
set_option linter.unusedVariables false
set_option linter.unusedSimpArgs false
set_option linter.unusedSectionVars false
set_option maxRecDepth 100000
set_option maxHeartbeats 0
section
namespace Go.Am
open Go Go.RowKit Go.Proofs D12
def R27:List (List D):=[[.list true 1 (z1a [3,5])],[.list true 1 (z1a [4])],[.list true 1 (z1a [9])]]
theorem w9v:z7y (w0r 27 [cdA z77]) (.tuple [.d (.list false 1 R27), .d (.int .i64 0)])=true:=by kernel_rfl
end Go.Am
end
