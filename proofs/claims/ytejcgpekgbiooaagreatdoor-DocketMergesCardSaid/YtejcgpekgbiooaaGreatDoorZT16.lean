/- Texts of this claim. -/
import Derived.Test.YtejcgpekgbiooaaGreatDoorZT15
set_option linter.all false
set_option maxRecDepth 100000
set_option maxHeartbeats 0
section
namespace Go.Proofs.YtejcgpekgbiooaaGreatDoor
open Go.ChangeShapes Go.WideShapes Go.ChangeAt Go.RowKit Go.Am
set_option maxRecDepth 100000 in
theorem ip12:(Rows.docketMergesRow.inPlace==Tryz.pinned.checked.prog.inPlace 12)=true:=by kernel_rfl
set_option maxRecDepth 100000 in
theorem un12:(Rows.docketMergesRow.unfollowed==Tryz.pinned.checked.prog.unfollowed 12)=true:=by kernel_rfl
set_option maxRecDepth 100000 in
theorem re12:(Rows.docketMergesRow.recurses==Tryz.pinned.checked.prog.recurses 12)=true:=by kernel_rfl
set_option maxRecDepth 100000 in
theorem na12:(Rows.docketMergesRow.named==Tryz.pinned.checked.prog.varsNamed 12)=true:=by kernel_rfl
set_option maxRecDepth 100000 in
theorem cl12:joinedFacts Tryz.pinned.checked.prog 12 Tryz.f12 Rows.docketMergesSpec Rows.docketMergesRow=true:=by
 unfold joinedFacts
 rw [ip12,un12,re12,na12]
 kernel_rfl
set_option maxRecDepth 100000 in
theorem y35:Rows.DocketMergesSaid:=
 OpenClaim.holds_of_wide 12 Tryz.f12 rfl rfl rfl rfl rfl rfl rfl ⟨rfl,rfl,rfl,rfl,rfl⟩ rfl rfl rfl rfl rfl (by kernel_rfl) Tryz.func12 cl12
  (of_decide_eq_true (by kernel_rfl)) (by unfold Func.isWrapper; first|(rw [if_pos (by decide+kernel)]; kernel_rfl)|(rw [if_neg (by decide+kernel)]; exact ⟨rfl,rfl⟩))
  (fun os started H enc _=>w9p os started H enc)
end Go.Proofs.YtejcgpekgbiooaaGreatDoor
end
