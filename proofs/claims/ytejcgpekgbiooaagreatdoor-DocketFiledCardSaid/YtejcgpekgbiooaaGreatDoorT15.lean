/- Texts of this claim. -/
import Derived.Test.YtejcgpekgbiooaaGreatDoorT14
set_option linter.unusedVariables false
set_option linter.unusedSimpArgs false
set_option linter.unusedSectionVars false
set_option maxRecDepth 100000
set_option maxHeartbeats 0
section
namespace Go.Am
open Go Go.RowKit Go.Proofs D12
theorem v5u {n:Int} (h:(Lit.int IntKind.u8 n).wf=true):0≤n∧n≤255:=by
 simp only [Lit.wf,IntKind.min,IntKind.max,IntKind.signed,IntKind.bits] at h
 simp at h
 omega
theorem v6c {x:D} (h:DK (.int .u8) x):∃ n:Int,x= .int .u8 n∧0≤n∧n≤255:=by
 obtain ⟨n,rfl,hn⟩:=x34 h
 exact ⟨n,rfl,v5u hn⟩
theorem v5w {x:D} (h:DK .str x):∃ s,x= .str s∧s.size≤maxLen:=by
 match x,h with
 | .str s,h=>exact ⟨s,rfl,h⟩
end Go.Am
end
