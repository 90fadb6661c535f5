/-
  Proved: DocketMerges: for every input the call returns true, and each argument reads afterwards as it read before; the package variables that the row lists are as the text lays them.
-/
import Derived.Test.YtejcgpekgbiooaaGreatDoorZT16
import Derived.Test.YtejcgpekgbiooaaGreatDoorCards
import Derived.Test.YtejcgpekgbiooaaGreatDoorTie
import Derived.SevenTiedAt
set_option linter.all false
set_option maxRecDepth 100000
set_option maxHeartbeats 0
open List renaming all_eq_true→eBm
section
namespace Go.Proofs.YtejcgpekgbiooaaGreatDoor
open Go.ChangeShapes Go.WideShapes Go.ChangeAt Go.RowKit Go.Am
set_option maxRecDepth 100000 in
theorem docketMerges_holds : Rows.DocketMergesCardSaid :=
 Claim7.holds_tied_plain_at .later [] [.data, .data, .data, .data, .sentinel, .sentinel, .pinned] true (true, "b16e5cb346b065c4db0392c113531ca23deb6e839f9963125cbead11609664b1") true
  y35 (fun _ h => by cases h) (by kernel_rfl) (fun _ h => by cases h) docketMerges_row_tie rfl ⟨rfl, rfl⟩ (by kernel_rfl) rfl
  (fun f fn hf hfn => by
   obtain rfl : f = 12 := Option.some.inj ((show Tryz.prog.funcNamed "lampblack/lampblacklaw12.DocketMerges" = some 12 by kernel_rfl).symm.trans hf) |>.symm
   obtain rfl : fn = Tryz.f12 := (Option.some.inj (Tryz.func12.symm.trans hfn)).symm
   refine ⟨by kernel_rfl, fun j t ht => ?_⟩
   have hall : (Tryz.f12.params.toList.all fun u => !Tryz.prog.wantsStandIn u) = true := by kernel_rfl
   have hm : t ∈ Tryz.f12.params.toList := by simpa using Array.mem_of_getElem? ht
   exact (show Tryz.prog.wantsStandIn t = false by simpa using eBm.1 hall t hm))
  (by kernel_rfl)
end Go.Proofs.YtejcgpekgbiooaaGreatDoor
end
