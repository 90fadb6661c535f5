/-
  Proved: FadeKnown: for every input the call returns true, and each argument reads afterwards as it read before; there is no condition.
-/
import Derived.Test.YtnmgimjamahalaaNx
import Derived.Test.YtnmgimjamahalaaSd
section
set_option linter.unusedVariables false
set_option linter.unusedSimpArgs false
namespace Go.Proofs.Ytnmgimjamahalaa
open Go.ChangeShapes Go.WideShapes Go.ChangeAt Go.RowKit Go.Am
theorem walk12  (h : G12 std () = some (true, ())) : ∃ h', ARet Try.prog 12 (toA []) [] (.d (.bool true)) h' := by
  have := (ok12.2 () (true, ()) h).2
  exact ⟨_, this⟩
theorem shp12 : shps Try.prog 6 Try.f12.params.toList = true := by kernel_rfl
theorem rt12 : Try.f12.resultTypes = #[Try.f12.resultTypes.getD 0 0] := by kernel_rfl
theorem rb12 : Try.prog.underlying (Try.f12.resultTypes.getD 0 0) = some .bool := by kernel_rfl
theorem bools12 : Try.f12.params.toList.all (fun t => decide (t < Try.prog.types.size)) = true := by kernel_rfl
set_option maxRecDepth 100000 in
theorem contract12 (H : Type) (enc : TypeId × Value → H) (W : World) (base : Nat) (args : Array Value) (ds gs : List (DataW H)) (before : List MemPlace)
    (hval : ∀ (j : Nat) t v, Try.f12.params[j]? = some t → args[j]? = some v → Value.okWide Try.prog W .any base t v)
    (hW : DataW.Whole enc Try.prog Try.f12.params.toList Rows.fadeKnownSpec.vars false W args.toList ds gs before) :
    Calls Try.prog 12 args W fun e W' => ∃ v, e = .returned v ∧ Rows.fadeKnownSpec.post enc Try.prog Try.f12 false true false false W args v W' := by
  have hW' := hW
  obtain ⟨p, q, hA0, hV, rfl, hfz, hnd⟩ := hW
  have hA : DataW.TrodAll enc Try.prog W 0 (fun _ => true) true Try.f12.params.toList args.toList ds p := hA0
  obtain ⟨xs, h1, h2, h3⟩ := args_ok (O := fun _ => False) (fun _ h => h) shp12 (hval_list hval) hA
  have hd : xs = [] := by
    match xs, h1 with
    | [], h1 => rfl
  subst hd
  obtain ⟨h', hr⟩ := walk12 (G12_ok )
  exact (calls_of_aret hr h2 h3).mono fun e W' ⟨he, hs⟩ => ⟨_, he, law_post laid rowed sized bools12 rfl rt12 rb12 (fun ds hd => by
    match ds, hd with
    | [], _ => exact ⟨rfl, rfl, rfl⟩) hW' hs⟩
set_option maxRecDepth 100000 in
theorem lifted12 (os : Os) (started : os.Started) (H : Type) (enc : TypeId × Value → H) :
    ReturnsInHanded {} Try.checked os 12 .any (Rows.fadeKnownSpec.pre6 enc Try.prog Try.f12 Rows.fadeKnownRow.domain false) (Rows.fadeKnownSpec.post enc Try.prog Try.f12 false true false false) := by
  refine returnsInHanded_of_change (C := Try.checked) own started (by kernel_rfl) Try.func12
    (ChangeSpec.witness6 (enc := enc) (C := Try.checked) false ⟨#[], #[], []⟩ 8 (by kernel_rfl) (by kernel_rfl) (by kernel_rfl) (by kernel_rfl)) ?_
  intro W base args ds gs before hval hW _ _
  exact contract12 H enc W base args ds gs before hval hW
set_option maxRecDepth 100000 in
theorem fadeKnown_over : Rows.fadeKnownRow.holds Try.pinned (OpenSpec.ofChange Rows.fadeKnownSpec) :=
  OpenClaim.holds_of_wide 12 Try.f12 rfl rfl rfl rfl rfl rfl rfl ⟨rfl, rfl, rfl, rfl, rfl⟩ rfl rfl rfl rfl rfl (by kernel_rfl) Try.func12 (by kernel_rfl)
    (of_decide_eq_true (by kernel_rfl)) (by unfold Func.isWrapper; first | (rw [if_pos (by decide +kernel)]; kernel_rfl) | (rw [if_neg (by decide +kernel)]; exact ⟨rfl, rfl⟩))
    (fun os started H enc _ => lifted12 os started H enc)
theorem fadeKnown_holds : Rows.FadeKnownSaid := fadeKnown_over
end Go.Proofs.Ytnmgimjamahalaa
end
