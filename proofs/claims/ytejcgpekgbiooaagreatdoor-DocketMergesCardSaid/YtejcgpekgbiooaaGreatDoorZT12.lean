/- Texts of this claim. -/
import Derived.Test.YtejcgpekgbiooaaGreatDoorZT11
set_option linter.all false
set_option maxRecDepth 100000
set_option maxHeartbeats 0
section
namespace Go.Am
open Go Go.RowKit Go.Proofs D12
theorem u0a:z9v (w83 35 [cdA z91,cdA [d1,d0,d3,d2]]) (.d (.int .i64 24))=true:=by kernel_rfl
end Go.Am
end
