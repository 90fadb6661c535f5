/-
  FROM A PROVED CONTRACT OF A LAW TO ITS STATEMENT: the laws of the chapter on fading, with no condition.
-/
import Derived.Test.YtnmgimjamahalaaSb
import Derived.Test.YtnmgimjamahalaaAmE
import Derived.Test.YtnmgimjamahalaaRows
import Derived.OpenShut
import Derived.JoinedCond
import Derived.JoinedOf
import Derived.JoinedAt
import Derived.WalkKit
import Derived.ProofKit
section
set_option linter.unusedVariables false
set_option linter.unusedSimpArgs false
namespace Go.Am
open Go.ChangeShapes Go.WideShapes Go.ChangeAt M08
abbrev RM : List RK := [.list [.int .i64, .int .i64, .int .i64]]
theorem hval_list {ps : Array TypeId} {args : Array Value} {p : TypeId → Value → Prop} (h : ∀ (j : Nat) t v, ps[j]? = some t → args[j]? = some v → p t v) :
    ∀ (j : Nat) t v, ps.toList[j]? = some t → args.toList[j]? = some v → p t v := fun j t v a b => h j t v (by simpa using a) (by simpa using b)
theorem marks_of {x : D} (h : DK (.list [.int .i64, .int .i64, .int .i64]) x) : ∃ l : List Mk, x = .list false 3 (encM l) ∧ ∀ m ∈ l, (Lit.int IntKind.i64 m.1).wf = true ∧ (Lit.int IntKind.i64 m.2.1).wf = true ∧ (Lit.int IntKind.i64 m.2.2).wf = true := by
  match x, h with
  | .list f z es, h =>
    obtain ⟨rfl, rfl, hl, hr⟩ := h
    rw [DKrows_iff] at hr
    clear hl
    have : ∃ l : List Mk, es = encM l ∧ ∀ m ∈ l, (Lit.int IntKind.i64 m.1).wf = true ∧ (Lit.int IntKind.i64 m.2.1).wf = true ∧ (Lit.int IntKind.i64 m.2.2).wf = true := by
      induction es with
      | nil => exact ⟨[], rfl, fun m hm => by cases hm⟩
      | cons r es ih =>
        obtain ⟨l, rfl, h1⟩ := ih fun r hr' => hr r (List.mem_cons_of_mem _ hr')
        have h0 := hr r (List.mem_cons_self ..)
        match r, h0 with
        | [.int k1 a, .int k2 b, .int k3 c], h0 =>
          obtain ⟨⟨rfl, a1⟩, ⟨rfl, a2⟩, ⟨rfl, a3⟩, _⟩ := h0
          refine ⟨(a, b, c) :: l, rfl, fun m hm => ?_⟩
          rcases List.mem_cons.1 hm with rfl | hm
          · exact ⟨a1, a2, a3⟩
          · exact h1 m hm
    obtain ⟨l, rfl, h1⟩ := this
    exact ⟨l, rfl, h1⟩
end Go.Am
namespace Go.Proofs.Ytnmgimjamahalaa
open Go.ChangeShapes Go.WideShapes Go.ChangeAt Go.RowKit Go.Am
theorem own : ownKnob Try.prog.godebug = none := by kernel_rfl
theorem laid : laidOutB Try.prog = true := by kernel_rfl
theorem rowed : mapsRowed Try.prog = true := by kernel_rfl
theorem sized : ((List.range Try.prog.types.size).all fun t => match Try.prog.underlying t with | some (.slice e) => decide (0 < Try.prog.cellsOf e) | _ => true) = true := by kernel_rfl
theorem walk3 {es : List (List D)} (h : G3 std (es, ()) = some (true, ())) : ∃ h', ARet Try.prog 3 (toA [.list false 3 es]) [] (.d (.bool true)) h' := by
  have := (ok3.2 (es, ()) (true, ()) h).2
  exact ⟨_, this⟩
theorem shp3 : shps Try.prog 6 Try.f3.params.toList = true := by kernel_rfl
theorem rt3 : Try.f3.resultTypes = #[Try.f3.resultTypes.getD 0 0] := by kernel_rfl
theorem rb3 : Try.prog.underlying (Try.f3.resultTypes.getD 0 0) = some .bool := by kernel_rfl
theorem bools3 : Try.f3.params.toList.all (fun t => decide (t < Try.prog.types.size)) = true := by kernel_rfl
set_option maxRecDepth 100000 in
theorem contract3 (H : Type) (enc : TypeId × Value → H) (W : World) (base : Nat) (args : Array Value) (ds gs : List (DataW H)) (before : List MemPlace)
    (hval : ∀ (j : Nat) t v, Try.f3.params[j]? = some t → args[j]? = some v → Value.okWide Try.prog W .any base t v)
    (hW : DataW.Whole enc Try.prog Try.f3.params.toList Rows.fadePoolsSpec.vars false W args.toList ds gs before) :
    Calls Try.prog 3 args W fun e W' => ∃ v, e = .returned v ∧ Rows.fadePoolsSpec.post enc Try.prog Try.f3 false true false false W args v W' := by
  have hW' := hW
  obtain ⟨p, q, hA0, hV, rfl, hfz, hnd⟩ := hW
  have hA : DataW.TrodAll enc Try.prog W 0 (fun _ => true) true Try.f3.params.toList args.toList ds p := hA0
  obtain ⟨xs, h1, h2, h3⟩ := args_ok (O := fun _ => False) (fun _ h => h) shp3 (hval_list hval) hA
  have hd : ∃ x, xs = [x] ∧ DK (.list [.int .i64, .int .i64, .int .i64]) x := by
    match xs, h1 with
    | [x], h1 => exact ⟨x, rfl, h1.1⟩
  obtain ⟨x, rfl, hk⟩ := hd
  obtain ⟨l, rfl, hwf⟩ := marks_of hk
  obtain ⟨h', hr⟩ := walk3 (G3_ok l)
  exact (calls_of_aret hr h2 h3).mono fun e W' ⟨he, hs⟩ => ⟨_, he, law_post laid rowed sized bools3 rfl rt3 rb3 (fun ds hd => by
    match ds, hd with
    | [d], _ => exact ⟨rfl, rfl, rfl⟩) hW' hs⟩
set_option maxRecDepth 100000 in
theorem lifted3 (os : Os) (started : os.Started) (H : Type) (enc : TypeId × Value → H) :
    ReturnsInHanded {} Try.checked os 3 .any (Rows.fadePoolsSpec.pre6 enc Try.prog Try.f3 Rows.fadePoolsRow.domain false) (Rows.fadePoolsSpec.post enc Try.prog Try.f3 false true false false) := by
  refine returnsInHanded_of_change (C := Try.checked) own started (by kernel_rfl) Try.func3
    (ChangeSpec.witness6 (enc := enc) (C := Try.checked) false ⟨#[], #[.slice none 0 0], []⟩ 8 (by kernel_rfl) (by kernel_rfl) (by kernel_rfl) (by kernel_rfl)) ?_
  intro W base args ds gs before hval hW _ _
  exact contract3 H enc W base args ds gs before hval hW
set_option maxRecDepth 100000 in
theorem fadePools_over : Rows.fadePoolsRow.holds Try.pinned (OpenSpec.ofChange Rows.fadePoolsSpec) :=
  OpenClaim.holds_of_wide 3 Try.f3 rfl rfl rfl rfl rfl rfl rfl ⟨rfl, rfl, rfl, rfl, rfl⟩ rfl rfl rfl rfl rfl (by kernel_rfl) Try.func3 (by kernel_rfl)
    (of_decide_eq_true (by kernel_rfl)) (by unfold Func.isWrapper; first | (rw [if_pos (by decide +kernel)]; kernel_rfl) | (rw [if_neg (by decide +kernel)]; exact ⟨rfl, rfl⟩))
    (fun os started H enc _ => lifted3 os started H enc)
theorem fadePools_holds : Rows.FadePoolsSaid := fadePools_over
end Go.Proofs.Ytnmgimjamahalaa
end
