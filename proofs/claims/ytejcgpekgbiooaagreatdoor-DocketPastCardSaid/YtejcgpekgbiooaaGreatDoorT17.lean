/- Texts of this claim. -/
import Derived.Test.YtejcgpekgbiooaaGreatDoorT16
set_option linter.unusedVariables false
set_option linter.unusedSimpArgs false
set_option linter.unusedSectionVars false
set_option maxRecDepth 100000
set_option maxHeartbeats 0
section
namespace Go.Proofs.YtejcgpekgbiooaaGreatDoor
open Go.ChangeShapes Go.WideShapes Go.ChangeAt Go.RowKit Go.Am
set_option maxRecDepth 100000 in
theorem ip10:(Rows.docketPastRow.inPlace==Tryz.pinned.checked.prog.inPlace 10)=true:=by kernel_rfl
set_option maxRecDepth 100000 in
theorem un10:(Rows.docketPastRow.unfollowed==Tryz.pinned.checked.prog.unfollowed 10)=true:=by kernel_rfl
set_option maxRecDepth 100000 in
theorem re10:(Rows.docketPastRow.recurses==Tryz.pinned.checked.prog.recurses 10)=true:=by kernel_rfl
set_option maxRecDepth 100000 in
theorem na10:(Rows.docketPastRow.named==Tryz.pinned.checked.prog.varsNamed 10)=true:=by kernel_rfl
set_option maxRecDepth 100000 in
theorem cl10:joinedFacts Tryz.pinned.checked.prog 10 Tryz.f10 Rows.docketPastSpec Rows.docketPastRow=true:=by
 unfold joinedFacts
 rw [ip10,un10,re10,na10]
 kernel_rfl
set_option maxRecDepth 100000 in
theorem docketPast_over:Rows.DocketPastSaid:=
 OpenClaim.holds_of_wide 10 Tryz.f10 rfl rfl rfl rfl rfl rfl rfl ⟨rfl,rfl,rfl,rfl,rfl⟩ rfl rfl rfl rfl rfl (by kernel_rfl) Tryz.func10 cl10
  (of_decide_eq_true (by kernel_rfl)) (by unfold Func.isWrapper; first|(rw [if_pos (by decide+kernel)]; kernel_rfl)|(rw [if_neg (by decide+kernel)]; exact ⟨rfl,rfl⟩))
  (fun os started H enc _=>lifted10 os started H enc)
end Go.Proofs.YtejcgpekgbiooaaGreatDoor
end
