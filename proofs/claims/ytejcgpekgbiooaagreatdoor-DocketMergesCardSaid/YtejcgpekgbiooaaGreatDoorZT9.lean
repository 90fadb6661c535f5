/- Texts of this claim. -/
import Derived.Test.YtejcgpekgbiooaaGreatDoorZT8
set_option linter.all false
set_option maxRecDepth 100000
set_option maxHeartbeats 0
section
namespace Go.Am
open Go Go.RowKit Go.Proofs D12
theorem v98:z9v (w83 46 [cdA [d0,d2],cdA [d1,d2]]) (.tuple [cdA [d1,d0,d2], .d (.int .i64 0)])=true:=by kernel_rfl
end Go.Am
end
