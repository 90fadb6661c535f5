/- Texts of this claim. -/
import Derived.Test.YtejcgpekgbiooaaGreatDoorT16
set_option linter.unusedVariables false
set_option linter.unusedSimpArgs false
set_option linter.unusedSectionVars false
set_option maxRecDepth 1000000
set_option maxHeartbeats 0
section
namespace Go.Proofs.YtejcgpekgbiooaaGreatDoor
open Go.ChangeShapes Go.WideShapes Go.ChangeAt Go.RowKit Go.Am
theorem walk14  (h : G14 std () = some (true, ())) : ∃ h', z3r Tryz.prog 14 (toA []) [] (.d (.bool true)) h' := by
  have := (ok14.2 () (true, ()) h).2
  exact ⟨_, this⟩
theorem shp14 : w5g Tryz.prog 6 Tryz.f14.params.toList = true := by kernel_rfl
theorem rt14 : Tryz.f14.resultTypes = #[Tryz.f14.resultTypes.getD 0 0] := by kernel_rfl
theorem rb14 : Tryz.prog.underlying (Tryz.f14.resultTypes.getD 0 0) = some .bool := by kernel_rfl
theorem bools14 : Tryz.f14.params.toList.all (fun t => decide (t < Tryz.prog.types.size)) = true := by kernel_rfl
set_option maxRecDepth 100000 in
theorem contract14 (H : Type) (enc : TypeId × Value → H) (W : World) (base : Nat) (args : Array Value) (ds gs : List (DataW H)) (before : List MemPlace)
    (hval : ∀ (j : Nat) t v, Tryz.f14.params[j]? = some t → args[j]? = some v → Value.okWide Tryz.prog W .any base t v)
    (hW : DataW.Whole enc Tryz.prog Tryz.f14.params.toList Rows.docketKnownSpec.vars false W args.toList ds gs before)
    (hL : laidMetH Tryz.prog Rows.docketKnownRow.laid W) (hsh : W.ShapedOpen Tryz.prog) :
    Calls Tryz.prog 14 args W fun e W' => ∃ v, e = .returned v ∧ Rows.docketKnownSpec.post enc Tryz.prog Tryz.f14 false true false false W args v W' := by
  have hW' := hW
  obtain ⟨p, q, hA0, hV, rfl, hfz, hnd⟩ := hW
  have hA : DataW.TrodAll enc Tryz.prog W 0 (fun _ => true) true Tryz.f14.params.toList args.toList ds p := hA0
  obtain ⟨xs, h1, h2, h3⟩ := w0v (O := fun _ => False) (fun _ h => h) shp14 (x9f hval) hA
  have hd : xs = [] := by
    match xs, h1 with
    | [], h1 => rfl
  subst hd
  obtain ⟨h', hr⟩ := walk14 (G14_ok )
  exact (y9d hr h2 h3 (v2d hL hsh)).mono fun e W' ⟨he, hs⟩ => ⟨_, he, w18 laid rowed sized bools14 rfl rt14 rb14 (fun ds hd => by
    match ds, hd with
    | [], _ => exact ⟨rfl, rfl, rfl⟩) hW' hs⟩
set_option maxRecDepth 100000 in
theorem lifted14 (os : Os) (started : os.Started) (H : Type) (enc : TypeId × Value → H) :
    ReturnsInHanded {} Tryz.checked os 14 .any (fun w args => (Rows.docketKnownSpec.pre enc Tryz.prog Tryz.f14 Rows.docketKnownRow.domain false w args ∧ laidMetH Tryz.prog Rows.docketKnownRow.laid w) ∧ sizedMet enc Tryz.prog Tryz.f14 (OpenSpec.ofChange Rows.docketKnownSpec) false w args) (Rows.docketKnownSpec.post enc Tryz.prog Tryz.f14 false true false false) := by
  refine wrap (C := Tryz.checked) (L := Rows.docketKnownRow.laid) own started (by kernel_rfl) Tryz.func14
    (ChangeSpec.witness_shaped (enc := enc) (C := Tryz.checked) (os := os) (X := fun w _ => laidMetH Tryz.prog Rows.docketKnownRow.laid w) false (World.laidAll Tryz.prog os Rows.docketKnownRow.laid) #[] 8 (World.laidAll_os _ _ _)
      (World.shaped_of_ZipB (by kernel_rfl) (by kernel_rfl)) (by kernel_rfl) (by kernel_rfl) (by kernel_rfl)
      (w19 (laidMet_laidAll _ (by kernel_rfl) (by kernel_rfl)))) ?_
  intro W base args ds gs before hval hW hL hsh
  exact contract14 H enc W base args ds gs before hval hW hL hsh
end Go.Proofs.YtejcgpekgbiooaaGreatDoor
end
