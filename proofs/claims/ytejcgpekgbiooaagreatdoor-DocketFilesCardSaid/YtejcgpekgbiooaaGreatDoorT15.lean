/- Texts of this claim. -/
import Derived.Test.YtejcgpekgbiooaaGreatDoorT14
set_option linter.unusedVariables false
set_option linter.unusedSimpArgs false
set_option linter.unusedSectionVars false
set_option maxRecDepth 100000
set_option maxHeartbeats 0
section
namespace Go.Am
open Go Go.RowKit Go.Proofs D12
theorem v7i {x:D} (h:DK .str x):∃ s,x= .str s∧s.size≤maxLen:=by
 match x,h with
 | .str s,h=>exact ⟨s,rfl,h⟩
end Go.Am
end
