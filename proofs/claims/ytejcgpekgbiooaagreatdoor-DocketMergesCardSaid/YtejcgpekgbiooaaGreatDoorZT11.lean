/- Texts of this claim. -/
import Derived.Test.YtejcgpekgbiooaaGreatDoorZT10
set_option linter.all false
set_option maxRecDepth 100000
set_option maxHeartbeats 0
section
namespace Go.Am
open Go Go.RowKit Go.Proofs D12
theorem u8r:z9v (w83 48 [cdA z91,cdA [d1,d0,d3,d2]]) (.tuple [.d (.list false 1 (z0i [4,9,4])), .d (.int .i64 0)])=true:=by kernel_rfl
end Go.Am
end
