/- Texts of this claim. -/
import Derived.Test.YtejcgpekgbiooaaGreatDoorZT9
set_option linter.all false
set_option maxRecDepth 100000
set_option maxHeartbeats 0
section
namespace Go.Am
open Go Go.RowKit Go.Proofs D12
theorem v97:z9v (w83 46 [cdA [d0],cdA [d3]]) (.tuple [cdA [], .d (.int .i64 16)])=true:=by kernel_rfl
end Go.Am
end
