/- Texts of this claim. -/
import Derived.Test.YtejcgpekgbiooaaGreatDoorT16
set_option linter.unusedVariables false
set_option linter.unusedSimpArgs false
set_option linter.unusedSectionVars false
set_option maxRecDepth 100000
set_option maxHeartbeats 0
section
namespace Go.Proofs.YtejcgpekgbiooaaGreatDoor
open Go.ChangeShapes Go.WideShapes Go.ChangeAt Go.RowKit Go.Am
set_option maxRecDepth 100000 in
theorem ip9:(Rows.docketDifferRow.inPlace==Tryz.pinned.checked.prog.inPlace 9)=true:=by kernel_rfl
set_option maxRecDepth 100000 in
theorem un9:(Rows.docketDifferRow.unfollowed==Tryz.pinned.checked.prog.unfollowed 9)=true:=by kernel_rfl
set_option maxRecDepth 100000 in
theorem re9:(Rows.docketDifferRow.recurses==Tryz.pinned.checked.prog.recurses 9)=true:=by kernel_rfl
set_option maxRecDepth 100000 in
theorem na9:(Rows.docketDifferRow.named==Tryz.pinned.checked.prog.varsNamed 9)=true:=by kernel_rfl
set_option maxRecDepth 100000 in
theorem cl9:joinedFacts Tryz.pinned.checked.prog 9 Tryz.f9 Rows.docketDifferSpec Rows.docketDifferRow=true:=by
 unfold joinedFacts
 rw [ip9,un9,re9,na9]
 kernel_rfl
set_option maxRecDepth 100000 in
theorem v23:Rows.DocketDifferSaid:=
 OpenClaim.holds_of_wide 9 Tryz.f9 rfl rfl rfl rfl rfl rfl rfl ⟨rfl,rfl,rfl,rfl,rfl⟩ rfl rfl rfl rfl rfl (by kernel_rfl) Tryz.func9 cl9
  (of_decide_eq_true (by kernel_rfl)) (by unfold Func.isWrapper; first|(rw [if_pos (by decide+kernel)]; kernel_rfl)|(rw [if_neg (by decide+kernel)]; exact ⟨rfl,rfl⟩))
  (fun os started H enc _=>v7y os started H enc)
end Go.Proofs.YtejcgpekgbiooaaGreatDoor
end
