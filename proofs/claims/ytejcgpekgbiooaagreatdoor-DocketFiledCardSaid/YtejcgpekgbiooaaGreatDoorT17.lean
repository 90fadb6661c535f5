/- Texts of this claim. -/
import Derived.Test.YtejcgpekgbiooaaGreatDoorT16
set_option linter.unusedVariables false
set_option linter.unusedSimpArgs false
set_option linter.unusedSectionVars false
set_option maxRecDepth 100000
set_option maxHeartbeats 0
section
namespace Go.Proofs.YtejcgpekgbiooaaGreatDoor
open Go.ChangeShapes Go.WideShapes Go.ChangeAt Go.RowKit Go.Am
set_option maxRecDepth 100000 in
theorem ip11:(Rows.docketFiledRow.inPlace==Tryz.pinned.checked.prog.inPlace 11)=true:=by kernel_rfl
set_option maxRecDepth 100000 in
theorem un11:(Rows.docketFiledRow.unfollowed==Tryz.pinned.checked.prog.unfollowed 11)=true:=by kernel_rfl
set_option maxRecDepth 100000 in
theorem re11:(Rows.docketFiledRow.recurses==Tryz.pinned.checked.prog.recurses 11)=true:=by kernel_rfl
set_option maxRecDepth 100000 in
theorem na11:(Rows.docketFiledRow.named==Tryz.pinned.checked.prog.varsNamed 11)=true:=by kernel_rfl
set_option maxRecDepth 100000 in
theorem cl11:joinedFacts Tryz.pinned.checked.prog 11 Tryz.f11 Rows.docketFiledSpec Rows.docketFiledRow=true:=by
 unfold joinedFacts
 rw [ip11,un11,re11,na11]
 kernel_rfl
set_option maxRecDepth 100000 in
theorem z63:Rows.DocketFiledSaid:=
 OpenClaim.holds_of_wide 11 Tryz.f11 rfl rfl rfl rfl rfl rfl rfl ⟨rfl,rfl,rfl,rfl,rfl⟩ rfl rfl rfl rfl rfl (by kernel_rfl) Tryz.func11 cl11
  (of_decide_eq_true (by kernel_rfl)) (by unfold Func.isWrapper; first|(rw [if_pos (by decide+kernel)]; kernel_rfl)|(rw [if_neg (by decide+kernel)]; exact ⟨rfl,rfl⟩))
  (fun os started H enc _=>v4m os started H enc)
end Go.Proofs.YtejcgpekgbiooaaGreatDoor
end
