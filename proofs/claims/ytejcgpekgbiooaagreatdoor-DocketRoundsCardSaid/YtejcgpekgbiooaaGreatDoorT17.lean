/- Texts of this claim. -/
import Derived.Test.YtejcgpekgbiooaaGreatDoorT16
set_option linter.unusedVariables false
set_option linter.unusedSimpArgs false
set_option linter.unusedSectionVars false
set_option maxRecDepth 100000
set_option maxHeartbeats 0
section
namespace Go.Proofs.YtejcgpekgbiooaaGreatDoor
open Go.ChangeShapes Go.WideShapes Go.ChangeAt Go.RowKit Go.Am
set_option maxRecDepth 100000 in
theorem ip8:(Rows.docketRoundsRow.inPlace==Tryz.pinned.checked.prog.inPlace 8)=true:=by kernel_rfl
set_option maxRecDepth 100000 in
theorem un8:(Rows.docketRoundsRow.unfollowed==Tryz.pinned.checked.prog.unfollowed 8)=true:=by kernel_rfl
set_option maxRecDepth 100000 in
theorem re8:(Rows.docketRoundsRow.recurses==Tryz.pinned.checked.prog.recurses 8)=true:=by kernel_rfl
set_option maxRecDepth 100000 in
theorem na8:(Rows.docketRoundsRow.named==Tryz.pinned.checked.prog.varsNamed 8)=true:=by kernel_rfl
set_option maxRecDepth 100000 in
theorem cl8:joinedFacts Tryz.pinned.checked.prog 8 Tryz.f8 Rows.docketRoundsSpec Rows.docketRoundsRow=true:=by
 unfold joinedFacts
 rw [ip8,un8,re8,na8]
 kernel_rfl
set_option maxRecDepth 100000 in
theorem v3q:Rows.DocketRoundsSaid:=
 OpenClaim.holds_of_wide 8 Tryz.f8 rfl rfl rfl rfl rfl rfl rfl ⟨rfl,rfl,rfl,rfl,rfl⟩ rfl rfl rfl rfl rfl (by kernel_rfl) Tryz.func8 cl8
  (of_decide_eq_true (by kernel_rfl)) (by unfold Func.isWrapper; first|(rw [if_pos (by decide+kernel)]; kernel_rfl)|(rw [if_neg (by decide+kernel)]; exact ⟨rfl,rfl⟩))
  (fun os started H enc _=>u0v os started H enc)
end Go.Proofs.YtejcgpekgbiooaaGreatDoor
end
