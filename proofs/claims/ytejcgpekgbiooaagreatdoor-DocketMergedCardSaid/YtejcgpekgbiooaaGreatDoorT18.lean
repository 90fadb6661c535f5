/- Texts of this claim. -/
import Derived.Test.YtejcgpekgbiooaaGreatDoorT17
set_option linter.unusedVariables false
set_option linter.unusedSimpArgs false
set_option linter.unusedSectionVars false
set_option maxRecDepth 100000
set_option maxHeartbeats 0
section
namespace Go.Proofs.YtejcgpekgbiooaaGreatDoor
open Go.ChangeShapes Go.WideShapes Go.ChangeAt Go.RowKit Go.Am
set_option maxRecDepth 100000 in
theorem ip13:(Rows.docketMergedRow.inPlace==Tryz.pinned.checked.prog.inPlace 13)=true:=by kernel_rfl
set_option maxRecDepth 100000 in
theorem un13:(Rows.docketMergedRow.unfollowed==Tryz.pinned.checked.prog.unfollowed 13)=true:=by kernel_rfl
set_option maxRecDepth 100000 in
theorem re13:(Rows.docketMergedRow.recurses==Tryz.pinned.checked.prog.recurses 13)=true:=by kernel_rfl
set_option maxRecDepth 100000 in
theorem na13:(Rows.docketMergedRow.named==Tryz.pinned.checked.prog.varsNamed 13)=true:=by kernel_rfl
set_option maxRecDepth 100000 in
theorem cl13:joinedFacts Tryz.pinned.checked.prog 13 Tryz.f13 Rows.docketMergedSpec Rows.docketMergedRow=true:=by
 unfold joinedFacts
 rw [ip13,un13,re13,na13]
 kernel_rfl
set_option maxRecDepth 100000 in
theorem v28:Rows.DocketMergedSaid:=
 OpenClaim.holds_of_wide 13 Tryz.f13 rfl rfl rfl rfl rfl rfl rfl ⟨rfl,rfl,rfl,rfl,rfl⟩ rfl rfl rfl rfl rfl (by kernel_rfl) Tryz.func13 cl13
  (of_decide_eq_true (by kernel_rfl)) (by unfold Func.isWrapper; first|(rw [if_pos (by decide+kernel)]; kernel_rfl)|(rw [if_neg (by decide+kernel)]; exact ⟨rfl,rfl⟩))
  (fun os started H enc _=>v8v os started H enc)
end Go.Proofs.YtejcgpekgbiooaaGreatDoor
end
