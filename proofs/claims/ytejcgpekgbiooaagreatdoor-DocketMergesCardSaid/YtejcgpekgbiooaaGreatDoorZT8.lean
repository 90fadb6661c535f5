/- Texts of this claim. -/
import Derived.Test.YtejcgpekgbiooaaGreatDoorZT7
set_option linter.all false
set_option maxRecDepth 100000
set_option maxHeartbeats 0
section
namespace Go.Am
open Go Go.RowKit Go.Proofs D12
theorem u8s:z9v (w83 31 [cdA z91, .d (.int .i64 2)]) (.tuple [cdA [d0,d1,d2], .d (.int .i64 0)])=true:=by kernel_rfl
end Go.Am
end
