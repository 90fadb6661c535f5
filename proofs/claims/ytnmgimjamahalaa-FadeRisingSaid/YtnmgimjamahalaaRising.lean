/-
  Proved: FadeRising: for every input the call returns true, and each argument reads afterwards as it read before; there is no condition.
-/
import Derived.Test.YtnmgimjamahalaaVx
section
set_option linter.unusedVariables false
set_option linter.unusedSimpArgs false
namespace Go.Proofs.Ytnmgimjamahalaa
open Go.ChangeShapes Go.WideShapes Go.ChangeAt Go.RowKit Go.Am
theorem walk10 {e0 : List (List D)} {e1 : Int} {e2 : Int} {e3 : Int} {e4 : Int} {e5 : Int} (h : G10 std (e0, e1, e2, e3, e4, e5, ()) = some (true, ())) : ∃ h', ARet Try.prog 10 (toA [.list false 3 e0, .int .u16 e1, .int .u16 e2, .int .u8 e3, .int .u8 e4, .int .u8 e5]) [] (.d (.bool true)) h' := by
  have := (ok10.2 (e0, e1, e2, e3, e4, e5, ()) (true, ()) h).2
  exact ⟨_, this⟩
theorem shp10 : shps Try.prog 6 Try.f10.params.toList = true := by kernel_rfl
theorem rt10 : Try.f10.resultTypes = #[Try.f10.resultTypes.getD 0 0] := by kernel_rfl
theorem rb10 : Try.prog.underlying (Try.f10.resultTypes.getD 0 0) = some .bool := by kernel_rfl
theorem bools10 : Try.f10.params.toList.all (fun t => decide (t < Try.prog.types.size)) = true := by kernel_rfl
set_option maxRecDepth 100000 in
theorem contract10 (H : Type) (enc : TypeId × Value → H) (W : World) (base : Nat) (args : Array Value) (ds gs : List (DataW H)) (before : List MemPlace)
    (hval : ∀ (j : Nat) t v, Try.f10.params[j]? = some t → args[j]? = some v → Value.okWide Try.prog W .any base t v)
    (hW : DataW.Whole enc Try.prog Try.f10.params.toList Rows.fadeRisingSpec.vars false W args.toList ds gs before) :
    Calls Try.prog 10 args W fun e W' => ∃ v, e = .returned v ∧ Rows.fadeRisingSpec.post enc Try.prog Try.f10 false true false false W args v W' := by
  have hW' := hW
  obtain ⟨p, q, hA0, hV, rfl, hfz, hnd⟩ := hW
  have hA : DataW.TrodAll enc Try.prog W 0 (fun _ => true) true Try.f10.params.toList args.toList ds p := hA0
  obtain ⟨xs, h1, h2, h3⟩ := args_ok (O := fun _ => False) (fun _ h => h) shp10 (hval_list hval) hA
  have hd : ∃ x0 x1 x2 x3 x4 x5, xs = [x0, x1, x2, x3, x4, x5] ∧ DK (.list [.int .i64, .int .i64, .int .i64]) x0 ∧ DK (.int .u16) x1 ∧ DK (.int .u16) x2 ∧ DK (.int .u8) x3 ∧ DK (.int .u8) x4 ∧ DK (.int .u8) x5 := by
    match xs, h1 with
    | [x0, x1, x2, x3, x4, x5], h1 => exact ⟨x0, x1, x2, x3, x4, x5, rfl, h1.1, h1.2.1, h1.2.2.1, h1.2.2.2.1, h1.2.2.2.2.1, h1.2.2.2.2.2.1⟩
  obtain ⟨x0, x1, x2, x3, x4, x5, rfl, k0, k1, k2, k3, k4, k5⟩ := hd
  obtain ⟨l0, rfl, wf0⟩ := marks_of k0
  obtain ⟨n1, rfl, wf1⟩ := h_of k1
  obtain ⟨n2, rfl, wf2⟩ := h_of k2
  obtain ⟨n3, rfl, wf3⟩ := y_of k3
  obtain ⟨n4, rfl, wf4⟩ := y_of k4
  obtain ⟨n5, rfl, wf5⟩ := y_of k5
  obtain ⟨h', hr⟩ := walk10 (G10_ok l0 n1 wf1 n2 wf2 n3 wf3 n4 wf4 n5 wf5)
  exact (calls_of_aret hr h2 h3).mono fun e W' ⟨he, hs⟩ => ⟨_, he, law_post laid rowed sized bools10 rfl rt10 rb10 (fun ds hd => by
    match ds, hd with
    | [d0, d1, d2, d3, d4, d5], _ => exact ⟨rfl, rfl, rfl⟩) hW' hs⟩
set_option maxRecDepth 100000 in
theorem lifted10 (os : Os) (started : os.Started) (H : Type) (enc : TypeId × Value → H) :
    ReturnsInHanded {} Try.checked os 10 .any (Rows.fadeRisingSpec.pre6 enc Try.prog Try.f10 Rows.fadeRisingRow.domain false) (Rows.fadeRisingSpec.post enc Try.prog Try.f10 false true false false) := by
  refine returnsInHanded_of_change (C := Try.checked) own started (by kernel_rfl) Try.func10
    (ChangeSpec.witness6 (enc := enc) (C := Try.checked) false ⟨#[], #[.slice none 0 0, .int .u16 0, .int .u16 0, .int .u8 0, .int .u8 0, .int .u8 0], []⟩ 8 (by kernel_rfl) (by kernel_rfl) (by kernel_rfl) (by kernel_rfl)) ?_
  intro W base args ds gs before hval hW _ _
  exact contract10 H enc W base args ds gs before hval hW
set_option maxRecDepth 100000 in
theorem fadeRising_over : Rows.fadeRisingRow.holds Try.pinned (OpenSpec.ofChange Rows.fadeRisingSpec) :=
  OpenClaim.holds_of_wide 10 Try.f10 rfl rfl rfl rfl rfl rfl rfl ⟨rfl, rfl, rfl, rfl, rfl⟩ rfl rfl rfl rfl rfl (by kernel_rfl) Try.func10 (by kernel_rfl)
    (of_decide_eq_true (by kernel_rfl)) (by unfold Func.isWrapper; first | (rw [if_pos (by decide +kernel)]; kernel_rfl) | (rw [if_neg (by decide +kernel)]; exact ⟨rfl, rfl⟩))
    (fun os started H enc _ => lifted10 os started H enc)
theorem fadeRising_holds : Rows.FadeRisingSaid := fadeRising_over
end Go.Proofs.Ytnmgimjamahalaa
end
