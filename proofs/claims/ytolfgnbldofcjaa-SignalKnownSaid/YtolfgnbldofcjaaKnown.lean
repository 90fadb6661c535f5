/-
  Proved: SignalKnown: for every input the call returns true, and each argument reads afterwards as it read before; there is no condition.
-/
import Derived.Test.YtolfgnbldofcjaaRd
section
set_option linter.unusedVariables false
set_option linter.unusedSimpArgs false
namespace Go.Proofs.Ytolfgnbldofcjaa
open Go.ChangeShapes Go.WideShapes Go.ChangeAt Go.RowKit Go.Am
theorem walk13  (h : G13 std () = some (true, ())) : ∃ h', ARet Try.prog 13 (toA []) [] (.d (.bool true)) h' := by
  have := (ok13.2 () (true, ()) h).2
  exact ⟨_, this⟩
theorem shp13 : shps Try.prog 6 Try.f13.params.toList = true := by kernel_rfl
theorem rt13 : Try.f13.resultTypes = #[Try.f13.resultTypes.getD 0 0] := by kernel_rfl
theorem rb13 : Try.prog.underlying (Try.f13.resultTypes.getD 0 0) = some .bool := by kernel_rfl
theorem bools13 : Try.f13.params.toList.all (fun t => decide (t < Try.prog.types.size)) = true := by kernel_rfl
set_option maxRecDepth 100000 in
theorem contract13 (H : Type) (enc : TypeId × Value → H) (W : World) (base : Nat) (args : Array Value) (ds gs : List (DataW H)) (before : List MemPlace)
    (hval : ∀ (j : Nat) t v, Try.f13.params[j]? = some t → args[j]? = some v → Value.okWide Try.prog W .any base t v)
    (hW : DataW.Whole enc Try.prog Try.f13.params.toList Rows.signalKnownSpec.vars false W args.toList ds gs before) :
    Calls Try.prog 13 args W fun e W' => ∃ v, e = .returned v ∧ Rows.signalKnownSpec.post enc Try.prog Try.f13 false true false false W args v W' := by
  have hW' := hW
  obtain ⟨p, q, hA0, hV, rfl, hfz, hnd⟩ := hW
  have hA : DataW.TrodAll enc Try.prog W 0 (fun _ => true) true Try.f13.params.toList args.toList ds p := hA0
  obtain ⟨xs, h1, h2, h3⟩ := args_ok (O := fun _ => False) (fun _ h => h) shp13 (hval_list hval) hA
  have hd : xs = [] := by
    match xs, h1 with
    | [], h1 => rfl
  subst hd
  obtain ⟨h', hr⟩ := walk13 (G13_ok )
  exact (calls_of_aret hr h2 h3).mono fun e W' ⟨he, hs⟩ => ⟨_, he, law_post laid rowed sized bools13 rfl rt13 rb13 (fun ds hd => by
    match ds, hd with
    | [], _ => exact ⟨rfl, rfl, rfl⟩) hW' hs⟩
set_option maxRecDepth 100000 in
theorem lifted13 (os : Os) (started : os.Started) (H : Type) (enc : TypeId × Value → H) :
    ReturnsInHanded {} Try.checked os 13 .any (Rows.signalKnownSpec.pre6 enc Try.prog Try.f13 Rows.signalKnownRow.domain false) (Rows.signalKnownSpec.post enc Try.prog Try.f13 false true false false) := by
  refine returnsInHanded_of_change (C := Try.checked) own started (by kernel_rfl) Try.func13
    (ChangeSpec.witness6 (enc := enc) (C := Try.checked) false ⟨#[], #[], []⟩ 8 (by kernel_rfl) (by kernel_rfl) (by kernel_rfl) (by kernel_rfl)) ?_
  intro W base args ds gs before hval hW _ _
  exact contract13 H enc W base args ds gs before hval hW
set_option maxRecDepth 100000 in
theorem signalKnown_over : Rows.signalKnownRow.holds Try.pinned (OpenSpec.ofChange Rows.signalKnownSpec) :=
  OpenClaim.holds_of_wide 13 Try.f13 rfl rfl rfl rfl rfl rfl rfl ⟨rfl, rfl, rfl, rfl, rfl⟩ rfl rfl rfl rfl rfl (by kernel_rfl) Try.func13 (by kernel_rfl)
    (of_decide_eq_true (by kernel_rfl)) (by unfold Func.isWrapper; first | (rw [if_pos (by decide +kernel)]; kernel_rfl) | (rw [if_neg (by decide +kernel)]; exact ⟨rfl, rfl⟩))
    (fun os started H enc _ => lifted13 os started H enc)
theorem signalKnown_holds : Rows.SignalKnownSaid := signalKnown_over
end Go.Proofs.Ytolfgnbldofcjaa
end
