/- Texts of this claim. -/
import Derived.Test.YtejcgpekgbiooaaGreatDoorZT5
set_option linter.all false
set_option maxRecDepth 100000
set_option maxHeartbeats 0
section
namespace Go.Am
open Go Go.RowKit Go.Proofs D12
def R27:List (List D):=[[.list true 1 (z0i [3,5])],[.list true 1 (z0i [4])],[.list true 1 (z0i [9])]]
theorem u8u:z9v (w83 27 [cdA z91]) (.tuple [.d (.list false 1 R27), .d (.int .i64 0)])=true:=by kernel_rfl
end Go.Am
end
