/-
  Proved: FadeLabelled: for every input the call returns true, and each argument reads afterwards as it read before; there is no condition.
-/
import Derived.Test.YtnmgimjamahalaaSx
section
set_option linter.unusedVariables false
set_option linter.unusedSimpArgs false
namespace Go.Proofs.Ytnmgimjamahalaa
open Go.ChangeShapes Go.WideShapes Go.ChangeAt Go.RowKit Go.Am
theorem walk11 {e0 : List (List D)} {e1 : List (List D)} {e2 : Int} {e3 : List (List D)} (h : G11 std (e0, e1, e2, e3, ()) = some (true, ())) : ∃ h', ARet Try.prog 11 (toA [.list false 1 e0, .list false 3 e1, .int .u8 e2, .list false 1 e3]) [] (.d (.bool true)) h' := by
  have := (ok11.2 (e0, e1, e2, e3, ()) (true, ()) h).2
  exact ⟨_, this⟩
theorem shp11 : shps Try.prog 6 Try.f11.params.toList = true := by kernel_rfl
theorem rt11 : Try.f11.resultTypes = #[Try.f11.resultTypes.getD 0 0] := by kernel_rfl
theorem rb11 : Try.prog.underlying (Try.f11.resultTypes.getD 0 0) = some .bool := by kernel_rfl
theorem bools11 : Try.f11.params.toList.all (fun t => decide (t < Try.prog.types.size)) = true := by kernel_rfl
set_option maxRecDepth 100000 in
theorem contract11 (H : Type) (enc : TypeId × Value → H) (W : World) (base : Nat) (args : Array Value) (ds gs : List (DataW H)) (before : List MemPlace)
    (hval : ∀ (j : Nat) t v, Try.f11.params[j]? = some t → args[j]? = some v → Value.okWide Try.prog W .any base t v)
    (hW : DataW.Whole enc Try.prog Try.f11.params.toList Rows.fadeLabelledSpec.vars false W args.toList ds gs before) :
    Calls Try.prog 11 args W fun e W' => ∃ v, e = .returned v ∧ Rows.fadeLabelledSpec.post enc Try.prog Try.f11 false true false false W args v W' := by
  have hW' := hW
  obtain ⟨p, q, hA0, hV, rfl, hfz, hnd⟩ := hW
  have hA : DataW.TrodAll enc Try.prog W 0 (fun _ => true) true Try.f11.params.toList args.toList ds p := hA0
  obtain ⟨xs, h1, h2, h3⟩ := args_ok (O := fun _ => False) (fun _ h => h) shp11 (hval_list hval) hA
  have hd : ∃ x0 x1 x2 x3, xs = [x0, x1, x2, x3] ∧ DK (.list [.list [.int .i64, .int .i64, .int .i64]]) x0 ∧ DK (.list [.int .i64, .int .i64, .int .i64]) x1 ∧ DK (.int .u8) x2 ∧ DK (.list [.int .u32]) x3 := by
    match xs, h1 with
    | [x0, x1, x2, x3], h1 => exact ⟨x0, x1, x2, x3, rfl, h1.1, h1.2.1, h1.2.2.1, h1.2.2.2.1⟩
  obtain ⟨x0, x1, x2, x3, rfl, k0, k1, k2, k3⟩ := hd
  obtain ⟨R0, ws0, rfl, hR0, wf0⟩ := wools_of k0
  obtain ⟨l1, rfl, wf1⟩ := marks_of k1
  obtain ⟨n2, rfl, wf2⟩ := y_of k2
  obtain ⟨l3, rfl, wf3⟩ := vs_of k3
  obtain ⟨h', hr⟩ := walk11 (G11_ok R0 ws0 hR0 l1 n2 wf2 l3 wf3)
  exact (calls_of_aret hr h2 h3).mono fun e W' ⟨he, hs⟩ => ⟨_, he, law_post laid rowed sized bools11 rfl rt11 rb11 (fun ds hd => by
    match ds, hd with
    | [d0, d1, d2, d3], _ => exact ⟨rfl, rfl, rfl⟩) hW' hs⟩
set_option maxRecDepth 100000 in
theorem lifted11 (os : Os) (started : os.Started) (H : Type) (enc : TypeId × Value → H) :
    ReturnsInHanded {} Try.checked os 11 .any (Rows.fadeLabelledSpec.pre6 enc Try.prog Try.f11 Rows.fadeLabelledRow.domain false) (Rows.fadeLabelledSpec.post enc Try.prog Try.f11 false true false false) := by
  refine returnsInHanded_of_change (C := Try.checked) own started (by kernel_rfl) Try.func11
    (ChangeSpec.witness6 (enc := enc) (C := Try.checked) false ⟨#[], #[.slice none 0 0, .slice none 0 0, .int .u8 0, .slice none 0 0], []⟩ 8 (by kernel_rfl) (by kernel_rfl) (by kernel_rfl) (by kernel_rfl)) ?_
  intro W base args ds gs before hval hW _ _
  exact contract11 H enc W base args ds gs before hval hW
set_option maxRecDepth 100000 in
theorem fadeLabelled_over : Rows.fadeLabelledRow.holds Try.pinned (OpenSpec.ofChange Rows.fadeLabelledSpec) :=
  OpenClaim.holds_of_wide 11 Try.f11 rfl rfl rfl rfl rfl rfl rfl ⟨rfl, rfl, rfl, rfl, rfl⟩ rfl rfl rfl rfl rfl (by kernel_rfl) Try.func11 (by kernel_rfl)
    (of_decide_eq_true (by kernel_rfl)) (by unfold Func.isWrapper; first | (rw [if_pos (by decide +kernel)]; kernel_rfl) | (rw [if_neg (by decide +kernel)]; exact ⟨rfl, rfl⟩))
    (fun os started H enc _ => lifted11 os started H enc)
theorem fadeLabelled_holds : Rows.FadeLabelledSaid := fadeLabelled_over
end Go.Proofs.Ytnmgimjamahalaa
end
