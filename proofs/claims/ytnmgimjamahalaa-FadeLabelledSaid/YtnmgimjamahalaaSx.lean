/-
  What is read of the arguments of the laws on fading: wools, small numbers, lists of numbers.
-/
import Derived.Test.YtnmgimjamahalaaSt
import Derived.Test.YtnmgimjamahalaaPools
section
set_option linter.unusedVariables false
set_option linter.unusedSimpArgs false
namespace Go.Am
open Go.ChangeShapes Go.WideShapes Go.ChangeAt M08
theorem wools_of {x : D} (h : DK (.list [.list [.int .i64, .int .i64, .int .i64]]) x) : ∃ (R : List (List D)) (ws : List (List Mk)), x = .list false 1 R ∧ IsW R ws ∧ True := by
  match x, h with
  | .list f z es, h =>
    obtain ⟨rfl, rfl, hl, hr⟩ := h
    rw [DKrows_iff] at hr
    clear hl
    have : ∃ ws : List (List Mk), es = ws.map fun w => [D.list false 3 (encM w)] := by
      induction es with
      | nil => exact ⟨[], rfl⟩
      | cons r es ih =>
        obtain ⟨ws, rfl⟩ := ih fun r hr' => hr r (List.mem_cons_of_mem _ hr')
        have h0 := hr r (List.mem_cons_self ..)
        match r, h0 with
        | [y], h0 =>
          obtain ⟨l, rfl, _⟩ := marks_of h0.1
          exact ⟨l :: ws, rfl⟩
    obtain ⟨ws, rfl⟩ := this
    refine ⟨_, ws, rfl, ⟨by simp, fun i w hw => ⟨[D.list false 3 (encM w)], ?_, rfl, rfl⟩⟩, trivial⟩
    rw [List.getElem?_map, hw]
    rfl
theorem y_of {x : D} (h : DK (.int .u8) x) : ∃ n : Int, x = .int .u8 n ∧ 0 ≤ n ∧ n ≤ 255 := by
  match x, h with
  | .int k n, h =>
    obtain ⟨rfl, h⟩ := h
    exact ⟨n, rfl, by simpa [Lit.wf, IntKind.min, IntKind.max, IntKind.signed, IntKind.bits] using h⟩
theorem vs_of {x : D} (h : DK (.list [.int .u32]) x) : ∃ l : List Int, x = .list false 1 (encT l) ∧ ∀ n ∈ l, 0 ≤ n ∧ n ≤ 4294967295 := by
  match x, h with
  | .list f z es, h =>
    obtain ⟨rfl, rfl, hl, hr⟩ := h
    rw [DKrows_iff] at hr
    clear hl
    have : ∃ l : List Int, es = encT l ∧ ∀ n ∈ l, 0 ≤ n ∧ n ≤ 4294967295 := by
      induction es with
      | nil => exact ⟨[], rfl, fun n hn => by cases hn⟩
      | cons r es ih =>
        obtain ⟨l, rfl, h1⟩ := ih fun r hr' => hr r (List.mem_cons_of_mem _ hr')
        have h0 := hr r (List.mem_cons_self ..)
        match r, h0 with
        | [.int k1 a], h0 =>
          obtain ⟨⟨rfl, a1⟩, _⟩ := h0
          refine ⟨a :: l, rfl, fun n hn => ?_⟩
          rcases List.mem_cons.1 hn with rfl | hn
          · simpa [Lit.wf, IntKind.min, IntKind.max, IntKind.signed, IntKind.bits] using a1
          · exact h1 n hn
    obtain ⟨l, rfl, h1⟩ := this
    exact ⟨l, rfl, h1⟩
end Go.Am
end
