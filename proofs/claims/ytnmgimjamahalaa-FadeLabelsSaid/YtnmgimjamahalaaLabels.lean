/-
  Proved: FadeLabels: for every input the call returns true, and each argument reads afterwards as it read before; there is no condition.
-/
import Derived.Test.YtnmgimjamahalaaNx
section
set_option linter.unusedVariables false
set_option linter.unusedSimpArgs false
namespace Go.Proofs.Ytnmgimjamahalaa
open Go.ChangeShapes Go.WideShapes Go.ChangeAt Go.RowKit Go.Am
theorem walk6 {e0 : List (List D)} {e1 : List (List D)} {e2 : Int} (h : G6 std (e0, e1, e2, ()) = some (true, ())) : ∃ h', ARet Try.prog 6 (toA [.list false 1 e0, .list false 3 e1, .int .i64 e2]) [] (.d (.bool true)) h' := by
  have := (ok6.2 (e0, e1, e2, ()) (true, ()) h).2
  exact ⟨_, this⟩
theorem shp6 : shps Try.prog 6 Try.f6.params.toList = true := by kernel_rfl
theorem rt6 : Try.f6.resultTypes = #[Try.f6.resultTypes.getD 0 0] := by kernel_rfl
theorem rb6 : Try.prog.underlying (Try.f6.resultTypes.getD 0 0) = some .bool := by kernel_rfl
theorem bools6 : Try.f6.params.toList.all (fun t => decide (t < Try.prog.types.size)) = true := by kernel_rfl
set_option maxRecDepth 100000 in
theorem contract6 (H : Type) (enc : TypeId × Value → H) (W : World) (base : Nat) (args : Array Value) (ds gs : List (DataW H)) (before : List MemPlace)
    (hval : ∀ (j : Nat) t v, Try.f6.params[j]? = some t → args[j]? = some v → Value.okWide Try.prog W .any base t v)
    (hW : DataW.Whole enc Try.prog Try.f6.params.toList Rows.fadeLabelsSpec.vars false W args.toList ds gs before) :
    Calls Try.prog 6 args W fun e W' => ∃ v, e = .returned v ∧ Rows.fadeLabelsSpec.post enc Try.prog Try.f6 false true false false W args v W' := by
  have hW' := hW
  obtain ⟨p, q, hA0, hV, rfl, hfz, hnd⟩ := hW
  have hA : DataW.TrodAll enc Try.prog W 0 (fun _ => true) true Try.f6.params.toList args.toList ds p := hA0
  obtain ⟨xs, h1, h2, h3⟩ := args_ok (O := fun _ => False) (fun _ h => h) shp6 (hval_list hval) hA
  have hd : ∃ x0 x1 x2, xs = [x0, x1, x2] ∧ DK (.list [.list [.int .i64, .int .i64, .int .i64]]) x0 ∧ DK (.list [.int .i64, .int .i64, .int .i64]) x1 ∧ DK (.int .i64) x2 := by
    match xs, h1 with
    | [x0, x1, x2], h1 => exact ⟨x0, x1, x2, rfl, h1.1, h1.2.1, h1.2.2.1⟩
  obtain ⟨x0, x1, x2, rfl, k0, k1, k2⟩ := hd
  obtain ⟨R0, ws0, rfl, hR0, wf0⟩ := wools_of k0
  obtain ⟨l1, rfl, wf1⟩ := marks_of k1
  obtain ⟨n2, rfl, wf2⟩ := int_of k2
  obtain ⟨h', hr⟩ := walk6 (G6_ok R0 ws0 hR0 l1 n2)
  exact (calls_of_aret hr h2 h3).mono fun e W' ⟨he, hs⟩ => ⟨_, he, law_post laid rowed sized bools6 rfl rt6 rb6 (fun ds hd => by
    match ds, hd with
    | [d0, d1, d2], _ => exact ⟨rfl, rfl, rfl⟩) hW' hs⟩
set_option maxRecDepth 100000 in
theorem lifted6 (os : Os) (started : os.Started) (H : Type) (enc : TypeId × Value → H) :
    ReturnsInHanded {} Try.checked os 6 .any (Rows.fadeLabelsSpec.pre6 enc Try.prog Try.f6 Rows.fadeLabelsRow.domain false) (Rows.fadeLabelsSpec.post enc Try.prog Try.f6 false true false false) := by
  refine returnsInHanded_of_change (C := Try.checked) own started (by kernel_rfl) Try.func6
    (ChangeSpec.witness6 (enc := enc) (C := Try.checked) false ⟨#[], #[.slice none 0 0, .slice none 0 0, .int .i64 0], []⟩ 8 (by kernel_rfl) (by kernel_rfl) (by kernel_rfl) (by kernel_rfl)) ?_
  intro W base args ds gs before hval hW _ _
  exact contract6 H enc W base args ds gs before hval hW
set_option maxRecDepth 100000 in
theorem fadeLabels_over : Rows.fadeLabelsRow.holds Try.pinned (OpenSpec.ofChange Rows.fadeLabelsSpec) :=
  OpenClaim.holds_of_wide 6 Try.f6 rfl rfl rfl rfl rfl rfl rfl ⟨rfl, rfl, rfl, rfl, rfl⟩ rfl rfl rfl rfl rfl (by kernel_rfl) Try.func6 (by kernel_rfl)
    (of_decide_eq_true (by kernel_rfl)) (by unfold Func.isWrapper; first | (rw [if_pos (by decide +kernel)]; kernel_rfl) | (rw [if_neg (by decide +kernel)]; exact ⟨rfl, rfl⟩))
    (fun os started H enc _ => lifted6 os started H enc)
theorem fadeLabels_holds : Rows.FadeLabelsSaid := fadeLabels_over
end Go.Proofs.Ytnmgimjamahalaa
end
