/-
  What the printed functions compute: the chapter's last examples.
-/
import Derived.Test.YtnmgimjamahalaaSc
import Derived.Test.YtnmgimjamahalaaGk
section
set_option linter.unusedVariables false
set_option linter.unusedSimpArgs false
set_option linter.unusedSectionVars false
namespace Go.Am
open M08
theorem val_60 : valB cardL 60 = (9, 1, 0) := by
  unfold valB
  rw [if_pos chk_card0, pooled_card]
  rfl
theorem rch_5 : rchB cardL 5 = (40, 50, 0) := by
  unfold rchB reachOf
  rw [if_pos chk_card0, pooled_card]
  rfl
theorem k21 : G21 std ([[D.int IntKind.i64 10, D.int IntKind.i64 1, D.int IntKind.i64 1], [D.int IntKind.i64 20, D.int IntKind.i64 4, D.int IntKind.i64 1], [D.int IntKind.i64 30, D.int IntKind.i64 2, D.int IntKind.i64 1], [D.int IntKind.i64 40, D.int IntKind.i64 3, D.int IntKind.i64 2], [D.int IntKind.i64 50, D.int IntKind.i64 9, D.int IntKind.i64 1]], 60, ()) = some (9, 1, 0, ()) := by
  have := G21_ok cardL 60
  rw [val_60] at this
  exact this
theorem k23 : G23 std ([[D.int IntKind.i64 10, D.int IntKind.i64 1, D.int IntKind.i64 1], [D.int IntKind.i64 20, D.int IntKind.i64 4, D.int IntKind.i64 1], [D.int IntKind.i64 30, D.int IntKind.i64 2, D.int IntKind.i64 1], [D.int IntKind.i64 40, D.int IntKind.i64 3, D.int IntKind.i64 2], [D.int IntKind.i64 50, D.int IntKind.i64 9, D.int IntKind.i64 1]], 5, ()) = some (40, 50, 0, ()) := by
  have := G23_ok cardL 5
  rw [rch_5] at this
  exact this
theorem k19 : G19 std ([[D.int IntKind.i64 10, D.int IntKind.i64 1, D.int IntKind.i64 1], [D.int IntKind.i64 20, D.int IntKind.i64 4, D.int IntKind.i64 1], [D.int IntKind.i64 30, D.int IntKind.i64 2, D.int IntKind.i64 1], [D.int IntKind.i64 40, D.int IntKind.i64 3, D.int IntKind.i64 2], [D.int IntKind.i64 50, D.int IntKind.i64 9, D.int IntKind.i64 1]], [[D.int IntKind.i64 10, D.int IntKind.i64 50, D.int IntKind.i64 6, D.int IntKind.i64 22]], ()) = some (14, ()) := by
  have := G19_ok (chk_card chk_card0).1 (chk_card chk_card0).2.1 [(10, 50, 6, 22)] (fun b hb => by
    simp only [List.mem_cons, List.not_mem_nil, or_false] at hb
    rcases hb with rfl
    exact ⟨by decide, by decide, by decide, by decide⟩) (by decide) chk_card0
  have h : chkB cardL [(10, 50, 6, 22)] = 14 := by
    unfold chkB
    rw [if_pos chk_card0, if_neg]
    rw [pooled_card]
    decide
  rw [h] at this
  exact this
theorem G12_ok : G12 std () = some (true, ()) := by
  unfold G12
  simp only [need_eq, ask_eq, ret_eq, no_eq, bnd_eq, run_eq, alt_eq, std_len, std_ofNat, std_nat, std_add, std_sub, std_leN, std_eqN, std_and, std_app, std_cut, std_lss, std_leq, std_gtr, std_geq, std_eql, std_neq, std_rowOk, std_rdI, rdD, bif_eq, ofNat_eq, List.length_map, List.getElem?_map, Option.map_some, Option.bind_some, Option.bind_none, Int.toNat_natCast, decide_eq_true_eq, Sum.elim_inl, Sum.elim_inr, if_true, if_false, decide_true, decide_false, Bool.false_eq_true, List.length_cons, List.length_nil, Nat.zero_add, ite_self, List.drop_zero, List.take_succ_cons, List.take_zero, k21, k23, e19, k19, G13_ok, Nat.reduceAdd, Nat.le_refl, Bool.and_true]
end Go.Am
end
