/-
  Proved: FadeLeast: for every input the call returns true, and each argument reads afterwards as it read before; there is no condition.
-/
import Derived.Test.YtnmgimjamahalaaQx
section
set_option linter.unusedVariables false
set_option linter.unusedSimpArgs false
namespace Go.Proofs.Ytnmgimjamahalaa
open Go.ChangeShapes Go.WideShapes Go.ChangeAt Go.RowKit Go.Am
theorem walk8 {e0 : List (List D)} {e1 : Int} (h : G8 std (e0, e1, ()) = some (true, ())) : ∃ h', ARet Try.prog 8 (toA [.list false 3 e0, .int .u8 e1]) [] (.d (.bool true)) h' := by
  have := (ok8.2 (e0, e1, ()) (true, ()) h).2
  exact ⟨_, this⟩
theorem shp8 : shps Try.prog 6 Try.f8.params.toList = true := by kernel_rfl
theorem rt8 : Try.f8.resultTypes = #[Try.f8.resultTypes.getD 0 0] := by kernel_rfl
theorem rb8 : Try.prog.underlying (Try.f8.resultTypes.getD 0 0) = some .bool := by kernel_rfl
theorem bools8 : Try.f8.params.toList.all (fun t => decide (t < Try.prog.types.size)) = true := by kernel_rfl
set_option maxRecDepth 100000 in
theorem contract8 (H : Type) (enc : TypeId × Value → H) (W : World) (base : Nat) (args : Array Value) (ds gs : List (DataW H)) (before : List MemPlace)
    (hval : ∀ (j : Nat) t v, Try.f8.params[j]? = some t → args[j]? = some v → Value.okWide Try.prog W .any base t v)
    (hW : DataW.Whole enc Try.prog Try.f8.params.toList Rows.fadeLeastSpec.vars false W args.toList ds gs before) :
    Calls Try.prog 8 args W fun e W' => ∃ v, e = .returned v ∧ Rows.fadeLeastSpec.post enc Try.prog Try.f8 false true false false W args v W' := by
  have hW' := hW
  obtain ⟨p, q, hA0, hV, rfl, hfz, hnd⟩ := hW
  have hA : DataW.TrodAll enc Try.prog W 0 (fun _ => true) true Try.f8.params.toList args.toList ds p := hA0
  obtain ⟨xs, h1, h2, h3⟩ := args_ok (O := fun _ => False) (fun _ h => h) shp8 (hval_list hval) hA
  have hd : ∃ x0 x1, xs = [x0, x1] ∧ DK (.list [.int .i64, .int .i64, .int .i64]) x0 ∧ DK (.int .u8) x1 := by
    match xs, h1 with
    | [x0, x1], h1 => exact ⟨x0, x1, rfl, h1.1, h1.2.1⟩
  obtain ⟨x0, x1, rfl, k0, k1⟩ := hd
  obtain ⟨l0, rfl, wf0⟩ := marks_of k0
  obtain ⟨n1, rfl, wf1⟩ := y_of k1
  obtain ⟨h', hr⟩ := walk8 (G8_ok l0 n1 wf1)
  exact (calls_of_aret hr h2 h3).mono fun e W' ⟨he, hs⟩ => ⟨_, he, law_post laid rowed sized bools8 rfl rt8 rb8 (fun ds hd => by
    match ds, hd with
    | [d0, d1], _ => exact ⟨rfl, rfl, rfl⟩) hW' hs⟩
set_option maxRecDepth 100000 in
theorem lifted8 (os : Os) (started : os.Started) (H : Type) (enc : TypeId × Value → H) :
    ReturnsInHanded {} Try.checked os 8 .any (Rows.fadeLeastSpec.pre6 enc Try.prog Try.f8 Rows.fadeLeastRow.domain false) (Rows.fadeLeastSpec.post enc Try.prog Try.f8 false true false false) := by
  refine returnsInHanded_of_change (C := Try.checked) own started (by kernel_rfl) Try.func8
    (ChangeSpec.witness6 (enc := enc) (C := Try.checked) false ⟨#[], #[.slice none 0 0, .int .u8 0], []⟩ 8 (by kernel_rfl) (by kernel_rfl) (by kernel_rfl) (by kernel_rfl)) ?_
  intro W base args ds gs before hval hW _ _
  exact contract8 H enc W base args ds gs before hval hW
set_option maxRecDepth 100000 in
theorem fadeLeast_over : Rows.fadeLeastRow.holds Try.pinned (OpenSpec.ofChange Rows.fadeLeastSpec) :=
  OpenClaim.holds_of_wide 8 Try.f8 rfl rfl rfl rfl rfl rfl rfl ⟨rfl, rfl, rfl, rfl, rfl⟩ rfl rfl rfl rfl rfl (by kernel_rfl) Try.func8 (by kernel_rfl)
    (of_decide_eq_true (by kernel_rfl)) (by unfold Func.isWrapper; first | (rw [if_pos (by decide +kernel)]; kernel_rfl) | (rw [if_neg (by decide +kernel)]; exact ⟨rfl, rfl⟩))
    (fun os started H enc _ => lifted8 os started H enc)
theorem fadeLeast_holds : Rows.FadeLeastSaid := fadeLeast_over
end Go.Proofs.Ytnmgimjamahalaa
end
