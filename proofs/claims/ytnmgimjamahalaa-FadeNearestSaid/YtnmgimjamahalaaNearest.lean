/-
  Proved: FadeNearest: for every input the call returns true, and each argument reads afterwards as it read before; there is no condition.
-/
import Derived.Test.YtnmgimjamahalaaPy
section
set_option linter.unusedVariables false
set_option linter.unusedSimpArgs false
namespace Go.Proofs.Ytnmgimjamahalaa
open Go.ChangeShapes Go.WideShapes Go.ChangeAt Go.RowKit Go.Am
theorem walk7 {e0 : List (List D)} {e1 : List (List D)} {e2 : List (List D)} (h : G7 std (e0, e1, e2, ()) = some (true, ())) : ∃ h', ARet Try.prog 7 (toA [.list false 3 e0, .list false 1 e1, .list false 4 e2]) [] (.d (.bool true)) h' := by
  have := (ok7.2 (e0, e1, e2, ()) (true, ()) h).2
  exact ⟨_, this⟩
theorem shp7 : shps Try.prog 6 Try.f7.params.toList = true := by kernel_rfl
theorem rt7 : Try.f7.resultTypes = #[Try.f7.resultTypes.getD 0 0] := by kernel_rfl
theorem rb7 : Try.prog.underlying (Try.f7.resultTypes.getD 0 0) = some .bool := by kernel_rfl
theorem bools7 : Try.f7.params.toList.all (fun t => decide (t < Try.prog.types.size)) = true := by kernel_rfl
set_option maxRecDepth 100000 in
theorem contract7 (H : Type) (enc : TypeId × Value → H) (W : World) (base : Nat) (args : Array Value) (ds gs : List (DataW H)) (before : List MemPlace)
    (hval : ∀ (j : Nat) t v, Try.f7.params[j]? = some t → args[j]? = some v → Value.okWide Try.prog W .any base t v)
    (hW : DataW.Whole enc Try.prog Try.f7.params.toList Rows.fadeNearestSpec.vars false W args.toList ds gs before) :
    Calls Try.prog 7 args W fun e W' => ∃ v, e = .returned v ∧ Rows.fadeNearestSpec.post enc Try.prog Try.f7 false true false false W args v W' := by
  have hW' := hW
  obtain ⟨p, q, hA0, hV, rfl, hfz, hnd⟩ := hW
  have hA : DataW.TrodAll enc Try.prog W 0 (fun _ => true) true Try.f7.params.toList args.toList ds p := hA0
  obtain ⟨xs, h1, h2, h3⟩ := args_ok (O := fun _ => False) (fun _ h => h) shp7 (hval_list hval) hA
  have hd : ∃ x0 x1 x2, xs = [x0, x1, x2] ∧ DK (.list [.int .i64, .int .i64, .int .i64]) x0 ∧ DK (.list [.int .u16]) x1 ∧ DK (.list [.int .i64, .int .i64, .int .i64, .int .i64]) x2 := by
    match xs, h1 with
    | [x0, x1, x2], h1 => exact ⟨x0, x1, x2, rfl, h1.1, h1.2.1, h1.2.2.1⟩
  obtain ⟨x0, x1, x2, rfl, k0, k1, k2⟩ := hd
  obtain ⟨l0, rfl, wf0⟩ := marks_of k0
  obtain ⟨l1, rfl, wf1⟩ := us_of k1
  obtain ⟨l2, rfl, wf2⟩ := blocks_of k2
  obtain ⟨h', hr⟩ := walk7 (G7_ok l0 l1 wf1 l2)
  exact (calls_of_aret hr h2 h3).mono fun e W' ⟨he, hs⟩ => ⟨_, he, law_post laid rowed sized bools7 rfl rt7 rb7 (fun ds hd => by
    match ds, hd with
    | [d0, d1, d2], _ => exact ⟨rfl, rfl, rfl⟩) hW' hs⟩
set_option maxRecDepth 100000 in
theorem lifted7 (os : Os) (started : os.Started) (H : Type) (enc : TypeId × Value → H) :
    ReturnsInHanded {} Try.checked os 7 .any (Rows.fadeNearestSpec.pre6 enc Try.prog Try.f7 Rows.fadeNearestRow.domain false) (Rows.fadeNearestSpec.post enc Try.prog Try.f7 false true false false) := by
  refine returnsInHanded_of_change (C := Try.checked) own started (by kernel_rfl) Try.func7
    (ChangeSpec.witness6 (enc := enc) (C := Try.checked) false ⟨#[], #[.slice none 0 0, .slice none 0 0, .slice none 0 0], []⟩ 8 (by kernel_rfl) (by kernel_rfl) (by kernel_rfl) (by kernel_rfl)) ?_
  intro W base args ds gs before hval hW _ _
  exact contract7 H enc W base args ds gs before hval hW
set_option maxRecDepth 100000 in
theorem fadeNearest_over : Rows.fadeNearestRow.holds Try.pinned (OpenSpec.ofChange Rows.fadeNearestSpec) :=
  OpenClaim.holds_of_wide 7 Try.f7 rfl rfl rfl rfl rfl rfl rfl ⟨rfl, rfl, rfl, rfl, rfl⟩ rfl rfl rfl rfl rfl (by kernel_rfl) Try.func7 (by kernel_rfl)
    (of_decide_eq_true (by kernel_rfl)) (by unfold Func.isWrapper; first | (rw [if_pos (by decide +kernel)]; kernel_rfl) | (rw [if_neg (by decide +kernel)]; exact ⟨rfl, rfl⟩))
    (fun os started H enc _ => lifted7 os started H enc)
theorem fadeNearest_holds : Rows.FadeNearestSaid := fadeNearest_over
end Go.Proofs.Ytnmgimjamahalaa
end
