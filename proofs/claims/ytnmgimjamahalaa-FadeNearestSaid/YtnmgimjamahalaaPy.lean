/-
  What is read of the arguments of the laws on fading: blocks, numbers, lists of small numbers.
-/
import Derived.Test.YtnmgimjamahalaaSn
import Derived.Test.YtnmgimjamahalaaPools
section
set_option linter.unusedVariables false
set_option linter.unusedSimpArgs false
namespace Go.Am
open Go.ChangeShapes Go.WideShapes Go.ChangeAt M08
theorem int_of {x : D} (h : DK (.int .i64) x) : ∃ n : Int, x = .int .i64 n ∧ (Lit.int IntKind.i64 n).wf = true := by
  match x, h with
  | .int k n, h => obtain ⟨rfl, h⟩ := h; exact ⟨n, rfl, h⟩
theorem blocks_of {x : D} (h : DK (.list [.int .i64, .int .i64, .int .i64, .int .i64]) x) : ∃ l : List Blk, x = .list false 4 (encB l) ∧ True := by
  match x, h with
  | .list f z es, h =>
    obtain ⟨rfl, rfl, hl, hr⟩ := h
    rw [DKrows_iff] at hr
    clear hl
    have : ∃ l : List Blk, es = encB l := by
      induction es with
      | nil => exact ⟨[], rfl⟩
      | cons r es ih =>
        obtain ⟨l, rfl⟩ := ih fun r hr' => hr r (List.mem_cons_of_mem _ hr')
        have h0 := hr r (List.mem_cons_self ..)
        match r, h0 with
        | [.int k1 a, .int k2 b, .int k3 c, .int k4 d], h0 =>
          obtain ⟨⟨rfl, a1⟩, ⟨rfl, a2⟩, ⟨rfl, a3⟩, ⟨rfl, a4⟩, _⟩ := h0
          exact ⟨(a, b, c, d) :: l, rfl⟩
    obtain ⟨l, rfl⟩ := this
    exact ⟨l, rfl, trivial⟩
theorem us_of {x : D} (h : DK (.list [.int .u16]) x) : ∃ l : List Int, x = .list false 1 (encU l) ∧ ∀ n ∈ l, 0 ≤ n ∧ n ≤ 65535 := by
  match x, h with
  | .list f z es, h =>
    obtain ⟨rfl, rfl, hl, hr⟩ := h
    rw [DKrows_iff] at hr
    clear hl
    have : ∃ l : List Int, es = encU l ∧ ∀ n ∈ l, 0 ≤ n ∧ n ≤ 65535 := by
      induction es with
      | nil => exact ⟨[], rfl, fun n hn => by cases hn⟩
      | cons r es ih =>
        obtain ⟨l, rfl, h1⟩ := ih fun r hr' => hr r (List.mem_cons_of_mem _ hr')
        have h0 := hr r (List.mem_cons_self ..)
        match r, h0 with
        | [.int k1 a], h0 =>
          obtain ⟨⟨rfl, a1⟩, _⟩ := h0
          refine ⟨a :: l, rfl, fun n hn => ?_⟩
          rcases List.mem_cons.1 hn with rfl | hn
          · simpa [Lit.wf, IntKind.min, IntKind.max, IntKind.signed, IntKind.bits] using a1
          · exact h1 n hn
    obtain ⟨l, rfl, h1⟩ := this
    exact ⟨l, rfl, h1⟩
end Go.Am
end
