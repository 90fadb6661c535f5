/-
  What is read of the arguments of the laws on fading: blocks, numbers, wools.
-/
import Derived.Test.YtnmgimjamahalaaSc
import Derived.Test.YtnmgimjamahalaaPools
section
set_option linter.unusedVariables false
set_option linter.unusedSimpArgs false
namespace Go.Am
open Go.ChangeShapes Go.WideShapes Go.ChangeAt M08
theorem int_of {x : D} (h : DK (.int .i64) x) : ∃ n : Int, x = .int .i64 n ∧ (Lit.int IntKind.i64 n).wf = true := by
  match x, h with
  | .int k n, h => obtain ⟨rfl, h⟩ := h; exact ⟨n, rfl, h⟩
theorem blocks_of {x : D} (h : DK (.list [.int .i64, .int .i64, .int .i64, .int .i64]) x) : ∃ l : List Blk, x = .list false 4 (encB l) ∧ True := by
  match x, h with
  | .list f z es, h =>
    obtain ⟨rfl, rfl, hl, hr⟩ := h
    rw [DKrows_iff] at hr
    clear hl
    have : ∃ l : List Blk, es = encB l := by
      induction es with
      | nil => exact ⟨[], rfl⟩
      | cons r es ih =>
        obtain ⟨l, rfl⟩ := ih fun r hr' => hr r (List.mem_cons_of_mem _ hr')
        have h0 := hr r (List.mem_cons_self ..)
        match r, h0 with
        | [.int k1 a, .int k2 b, .int k3 c, .int k4 d], h0 =>
          obtain ⟨⟨rfl, a1⟩, ⟨rfl, a2⟩, ⟨rfl, a3⟩, ⟨rfl, a4⟩, _⟩ := h0
          exact ⟨(a, b, c, d) :: l, rfl⟩
    obtain ⟨l, rfl⟩ := this
    exact ⟨l, rfl, trivial⟩
theorem wools_of {x : D} (h : DK (.list [.list [.int .i64, .int .i64, .int .i64]]) x) : ∃ (R : List (List D)) (ws : List (List Mk)), x = .list false 1 R ∧ IsW R ws ∧ True := by
  match x, h with
  | .list f z es, h =>
    obtain ⟨rfl, rfl, hl, hr⟩ := h
    rw [DKrows_iff] at hr
    clear hl
    have : ∃ ws : List (List Mk), es = ws.map fun w => [D.list false 3 (encM w)] := by
      induction es with
      | nil => exact ⟨[], rfl⟩
      | cons r es ih =>
        obtain ⟨ws, rfl⟩ := ih fun r hr' => hr r (List.mem_cons_of_mem _ hr')
        have h0 := hr r (List.mem_cons_self ..)
        match r, h0 with
        | [y], h0 =>
          obtain ⟨l, rfl, _⟩ := marks_of h0.1
          exact ⟨l :: ws, rfl⟩
    obtain ⟨ws, rfl⟩ := this
    refine ⟨_, ws, rfl, ⟨by simp, fun i w hw => ⟨[D.list false 3 (encM w)], ?_, rfl, rfl⟩⟩, trivial⟩
    rw [List.getElem?_map, hw]
    rfl
end Go.Am
end
