/- Texts of this claim. -/
import Derived.Test.YtejcgpekgbiooaaGreatDoorT17
set_option linter.unusedVariables false
set_option linter.unusedSimpArgs false
set_option linter.unusedSectionVars false
set_option maxRecDepth 1000000
set_option maxHeartbeats 0
section
namespace Go.Proofs.YtejcgpekgbiooaaGreatDoor
open Go.ChangeShapes Go.WideShapes Go.ChangeAt Go.RowKit Go.Am
set_option maxRecDepth 100000 in
theorem ip14 : (Rows.docketKnownRow.inPlace == Tryz.pinned.checked.prog.inPlace 14) = true := by kernel_rfl
set_option maxRecDepth 100000 in
theorem un14 : (Rows.docketKnownRow.unfollowed == Tryz.pinned.checked.prog.unfollowed 14) = true := by kernel_rfl
set_option maxRecDepth 100000 in
theorem re14 : (Rows.docketKnownRow.recurses == Tryz.pinned.checked.prog.recurses 14) = true := by kernel_rfl
set_option maxRecDepth 100000 in
theorem na14 : (Rows.docketKnownRow.named == Tryz.pinned.checked.prog.varsNamed 14) = true := by kernel_rfl
set_option maxRecDepth 100000 in
theorem cl14 : joinedFacts Tryz.pinned.checked.prog 14 Tryz.f14 Rows.docketKnownSpec Rows.docketKnownRow = true := by
  unfold joinedFacts
  rw [ip14, un14, re14, na14]
  kernel_rfl
set_option maxRecDepth 100000 in
theorem docketKnown_over : Rows.DocketKnownSaid :=
  OpenClaim.holds_of_wide 14 Tryz.f14 rfl rfl rfl rfl rfl rfl rfl ⟨rfl, rfl, rfl, rfl, rfl⟩ rfl rfl rfl rfl rfl (by kernel_rfl) Tryz.func14 cl14
    (of_decide_eq_true (by kernel_rfl)) (by unfold Func.isWrapper; first | (rw [if_pos (by decide +kernel)]; kernel_rfl) | (rw [if_neg (by decide +kernel)]; exact ⟨rfl, rfl⟩))
    (fun os started H enc _ => lifted14 os started H enc)
end Go.Proofs.YtejcgpekgbiooaaGreatDoor
end
