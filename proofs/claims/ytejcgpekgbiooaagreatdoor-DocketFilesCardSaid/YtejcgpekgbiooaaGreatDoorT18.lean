/-
  Proved: DocketFiles: for every input the call returns true, and each argument reads afterwards as it read before; the package variables that the row lists are as the text lays them.
-/
import Derived.Test.YtejcgpekgbiooaaGreatDoorT17
import Derived.Test.YtejcgpekgbiooaaGreatDoorCards
import Derived.Test.YtejcgpekgbiooaaGreatDoorTie
import Derived.SevenTiedAt
set_option linter.unusedVariables false
set_option linter.unusedSimpArgs false
set_option linter.unusedSectionVars false
set_option maxRecDepth 100000
set_option maxHeartbeats 0
open List renaming all_eq_true → eAr
section
namespace Go.Proofs.YtejcgpekgbiooaaGreatDoor
open Go.ChangeShapes Go.WideShapes Go.ChangeAt Go.RowKit Go.Am
set_option maxRecDepth 100000 in
theorem docketFiles_holds : Rows.DocketFilesCardSaid :=
 Claim7.holds_tied_plain_at .later [] [.data, .data, .data, .data, .sentinel, .sentinel, .pinned] true (true, "b16e5cb346b065c4db0392c113531ca23deb6e839f9963125cbead11609664b1") true
  v27 (fun _ h => by cases h) (by kernel_rfl) (fun _ h => by cases h) docketFiles_row_tie rfl ⟨rfl, rfl⟩ (by kernel_rfl) rfl
  (fun f fn hf hfn => by
   obtain rfl : f = 6 := Option.some.inj ((show Tryz.prog.funcNamed "lampblack/lampblacklaw12.DocketFiles" = some 6 by kernel_rfl).symm.trans hf) |>.symm
   obtain rfl : fn = Tryz.f6 := (Option.some.inj (Tryz.func6.symm.trans hfn)).symm
   refine ⟨by kernel_rfl, fun j t ht => ?_⟩
   have hall : (Tryz.f6.params.toList.all fun u => !Tryz.prog.wantsStandIn u) = true := by kernel_rfl
   have hm : t ∈ Tryz.f6.params.toList := by simpa using Array.mem_of_getElem? ht
   exact (show Tryz.prog.wantsStandIn t = false by simpa using eAr.1 hall t hm))
  (by kernel_rfl)
end Go.Proofs.YtejcgpekgbiooaaGreatDoor
end
