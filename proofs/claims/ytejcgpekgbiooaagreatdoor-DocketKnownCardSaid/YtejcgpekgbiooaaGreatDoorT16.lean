/- Texts of this claim. -/
import Derived.Test.YtejcgpekgbiooaaGreatDoorT15
set_option linter.unusedVariables false
set_option linter.unusedSimpArgs false
set_option linter.unusedSectionVars false
set_option maxRecDepth 1000000
set_option maxHeartbeats 0
section
namespace Go.Am
open Go Go.RowKit Go.Proofs D12
def ctrK46 : Ctr := ⟨46, [.list 4, .list 4], [], [(.ret, ⟨[(0, .tuple [.list 4, .int .i64])], [], 1⟩)]⟩
def GK46 (x : (List (List D) × (List (List D) × Unit))) : Option (List (List D) × (Int × Unit)) := bif z06 x.1 z8v && z06 x.2.1 [d1, d0, d3, d2] then some (z0u ff [], (24, ())) else none
def FK46 : z0n → Tup (ctrK46).scs → Option (z6k (z6i (ctrK46).outs)) := fun _ x => GK46 x
theorem okK46 : z27 Tryz.prog ctrK46 (FK46 std) := by
  refine ⟨enters_of Tryz.func46 rfl rfl, fun (x : (List (List D) × (List (List D) × Unit))) y hy => ?_⟩
  obtain ⟨e0, e1, u⟩ := x
  change GK46 (e0, e1, u) = _ at hy
  unfold GK46 at hy
  cases h0 : (z06 e0 z8v && z06 e1 [d1, d0, d3, d2]) with
  | true =>
    simp only [h0, cond_true] at hy
    cases hy
    simp only [Bool.and_eq_true] at h0
    refine ⟨Nat.zero_le _, ?_⟩
    show z3r _ 46 [.d (.list false 4 e0), .d (.list false 4 e1)] [] (.tuple [cdA [], .d (.int .i64 24)]) []
    exact z5n (z6q run46k) (x1y h0.1 h0.2)
  | false =>
    simp only [h0, cond_false] at hy
    cases hy
def ctrK48 : Ctr := ⟨48, [.list 4, .list 4], [], [(.ret, ⟨[(0, .tuple [.list 1, .int .i64])], [], 1⟩)]⟩
def GK48 (x : (List (List D) × (List (List D) × Unit))) : Option (List (List D) × (Int × Unit)) := bif z06 x.1 z8v && z06 x.2.1 z8v then some (z1j [], (5, ())) else none
def FK48 : z0n → Tup (ctrK48).scs → Option (z6k (z6i (ctrK48).outs)) := fun _ x => GK48 x
theorem okK48 : z27 Tryz.prog ctrK48 (FK48 std) := by
  refine ⟨enters_of Tryz.func48 rfl rfl, fun (x : (List (List D) × (List (List D) × Unit))) y hy => ?_⟩
  obtain ⟨e0, e1, u⟩ := x
  change GK48 (e0, e1, u) = _ at hy
  unfold GK48 at hy
  cases h0 : (z06 e0 z8v && z06 e1 z8v) with
  | true =>
    simp only [h0, cond_true] at hy
    cases hy
    simp only [Bool.and_eq_true] at h0
    refine ⟨Nat.zero_le _, ?_⟩
    show z3r _ 48 [.d (.list false 4 e0), .d (.list false 4 e1)] [] (.tuple [.d (.list false 1 (z1j [])), .d (.int .i64 5)]) []
    exact z5n (z6q run48k) (x1y h0.1 h0.2)
  | false =>
    simp only [h0, cond_false] at hy
    cases hy
noncomputable def gamK : List CF := [⟨w3j, F16⟩, ⟨ctrK46, FK46⟩, ⟨ctrK48, FK48⟩, ⟨x5g, v4c⟩] ++ v0f
theorem gamK_ok : z5q Tryz.prog gamK := by
  intro cf h
  rcases List.mem_append.1 h with h | h
  · simp only [List.mem_cons, List.not_mem_nil, or_false] at h
    rcases h with rfl | rfl | rfl | rfl
    · exact ok16
    · exact okK46
    · exact okK48
    · exact v01
  · exact x9j cf h
noncomputable def orcK : Orc opt := v0a opt std gamK w4q [(88, [false, true, true, true, true, true, true, true]), (14, [])]
theorem run14 : z8q (w3q v30 orcK 400 14 []) (.d (.bool true)) = true := by kernel_rfl
def ctr14 : Ctr := ⟨14, [], [], [(.ret, ⟨[(0, .bool)], [], 1⟩)]⟩
def G14 (_ : z0n) (_ : Unit) : Option (Bool × Unit) := some (true, ())
def F14 : z0n → Tup (ctr14).scs → Option (z6k (z6i (ctr14).outs)) := fun p x => G14 p x
theorem ok14 : z27 Tryz.prog ctr14 (F14 std) := by
  refine ⟨enters_of Tryz.func14 rfl rfl, fun x y hy => ?_⟩
  cases hy
  refine ⟨Nat.zero_le _, ?_⟩
  show z3r _ 14 [] [] (.d (.bool true)) []
  exact x5v (y5g z0c) (x8r gamK_ok _ _) run14
theorem G14_ok : G14 std () = some (true, ()) := rfl
end Go.Am
end
