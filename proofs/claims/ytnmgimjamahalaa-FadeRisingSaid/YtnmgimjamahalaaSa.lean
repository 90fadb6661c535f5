/-
  What the printed functions of the reference compute.
-/
import Derived.Test.YtnmgimjamahalaaGa
import Derived.Test.YtnmgimjamahalaaAmE
import Derived.Test.YtnmgimjamahalaaAmD
section
set_option linter.unusedVariables false
set_option linter.unusedSimpArgs false
namespace Go.Am
open M08
def eM (m : Mk) : List D := [.int .i64 m.1, .int .i64 m.2.1, .int .i64 m.2.2]
def encM (l : List Mk) : List (List D) := l.map eM
def eB (b : Blk) : List D := [.int .i64 b.1, .int .i64 b.2.1, .int .i64 b.2.2.1, .int .i64 b.2.2.2]
def encB (l : List Blk) : List (List D) := l.map eB
theorem cells_eM (m : Mk) : cellsOk [CK.int IntKind.i64, CK.int IntKind.i64, CK.int IntKind.i64] (eM m) = true := rfl
theorem cells_eB (m : Blk) : cellsOk [CK.int IntKind.i64, CK.int IntKind.i64, CK.int IntKind.i64, CK.int IntKind.i64] (eB m) = true := rfl
theorem dI_eM0 (m : Mk) : dI ((eM m)[0]?.getD D.nilp) = m.1 := rfl
theorem dI_eM1 (m : Mk) : dI ((eM m)[1]?.getD D.nilp) = m.2.1 := rfl
theorem dI_eM2 (m : Mk) : dI ((eM m)[2]?.getD D.nilp) = m.2.2 := rfl
theorem dI_eB0 (m : Blk) : dI ((eB m)[0]?.getD D.nilp) = m.1 := rfl
theorem dI_eB1 (m : Blk) : dI ((eB m)[1]?.getD D.nilp) = m.2.1 := rfl
theorem dI_eB2 (m : Blk) : dI ((eB m)[2]?.getD D.nilp) = m.2.2.1 := rfl
theorem dI_eB3 (m : Blk) : dI ((eB m)[3]?.getD D.nilp) = m.2.2.2 := rfl
def chk (l : List Mk) : Int := if l.length < 1 ∨ 24 < l.length then 6 else if ∀ m ∈ l, okMk m then 0 else 2
theorem G17_ok (l : List Mk) : G17 std (encM l, ()) = some (chk l, ()) := by
  unfold G17
  by_cases h1 : l.length < 1
  · simp only [need_eq, ask_eq, ret_eq, no_eq, bnd_eq, run_eq, alt_eq, std_len, std_ofNat, std_nat, std_add, std_leN, std_eqN, std_and, std_app, std_cut, std_lss, std_leq, std_gtr, std_geq, std_eql, std_neq, std_rowOk, std_rdI, rdD, bif_eq, ofNat_eq, List.length_map, List.getElem?_map, Option.map_some, Option.bind_some, Option.bind_none, Int.toNat_natCast, decide_eq_true_eq, Sum.elim_inl, Sum.elim_inr, if_true, if_false, decide_true, decide_false, Bool.false_eq_true, encM, chk, h1, true_or, if_pos (show (l.length : Int) < 1 by omega)]
  by_cases h2 : 24 < l.length
  · simp only [need_eq, ask_eq, ret_eq, no_eq, bnd_eq, run_eq, alt_eq, std_len, std_ofNat, std_nat, std_add, std_leN, std_eqN, std_and, std_app, std_cut, std_lss, std_leq, std_gtr, std_geq, std_eql, std_neq, std_rowOk, std_rdI, rdD, bif_eq, ofNat_eq, List.length_map, List.getElem?_map, Option.map_some, Option.bind_some, Option.bind_none, Int.toNat_natCast, decide_eq_true_eq, Sum.elim_inl, Sum.elim_inr, if_true, if_false, decide_true, decide_false, Bool.false_eq_true, encM, chk, h2, or_true, if_neg (show ¬ (l.length : Int) < 1 by omega), if_pos (show (l.length : Int) > 24 by omega)]
  have hl : ∃ r, iter (b17_1 std) (encM l, ((0 : Nat) : Int), ()) = some r ∧ ((r = Sum.inl (2, ()) ∧ ¬ ∀ m ∈ l, okMk m) ∨ (r = Sum.inr () ∧ ∀ m ∈ l, okMk m)) := by
    refine iter_count l.length (fun (_ : Unit) i => (encM l, (i : Int), ())) (fun _ i => ∀ (j : Nat) (m : Mk), j < i → l[j]? = some m → okMk m) _ ?_ ?_ () 0 (Nat.zero_le _) (fun j m h => by omega)
    · intro _ i hi hI
      obtain ⟨m, hm⟩ := get_some hi
      have hw := wrap_nat (i := i) (by omega)
      have hmem := List.mem_of_getElem? hm
      have hlt : (i : Int) < l.length := by omega
      have h0 : (0 : Int) ≤ i := by omega
      by_cases hok : okMk m
      · left
        refine ⟨(), ?_, fun j m' hj hm' => ?_⟩
        · have hok' := hok
          obtain ⟨k1, k2, k3, k4, k5, k6⟩ := hok'
          simp only [b17_1, need_eq, ask_eq, ret_eq, no_eq, bnd_eq, run_eq, alt_eq, std_len, std_ofNat, std_nat, std_add, std_leN, std_eqN, std_and, std_app, std_cut, std_lss, std_leq, std_gtr, std_geq, std_eql, std_neq, std_rowOk, std_rdI, rdD, bif_eq, ofNat_eq, List.length_map, List.getElem?_map, Option.map_some, Option.bind_some, Option.bind_none, Int.toNat_natCast, decide_eq_true_eq, Sum.elim_inl, Sum.elim_inr, if_true, if_false, decide_true, decide_false, Bool.false_eq_true, encM, cells_eM, dI_eM0, dI_eM1, dI_eM2, hm, hlt, h0, ge_iff_le, k1, k2, k3, k4, k5, k6, std_ar_add, hw]
        · rcases Nat.lt_or_ge j i with h | h
          · exact hI j m' h hm'
          · have : j = i := by omega
            subst this; rw [hm] at hm'; cases hm'; exact hok
      · right
        refine ⟨Sum.inl (2, ()), ?_, .inl ⟨rfl, fun h => hok (h m hmem)⟩⟩
        simp only [b17_1, need_eq, ask_eq, ret_eq, no_eq, bnd_eq, run_eq, alt_eq, std_len, std_ofNat, std_nat, std_add, std_leN, std_eqN, std_and, std_app, std_cut, std_lss, std_leq, std_gtr, std_geq, std_eql, std_neq, std_rowOk, std_rdI, rdD, bif_eq, ofNat_eq, List.length_map, List.getElem?_map, Option.map_some, Option.bind_some, Option.bind_none, Int.toNat_natCast, decide_eq_true_eq, Sum.elim_inl, Sum.elim_inr, if_true, if_false, decide_true, decide_false, Bool.false_eq_true, encM, cells_eM, dI_eM0, dI_eM1, dI_eM2, hm, hlt, h0, ge_iff_le, std_ar_add, hw]
        by_cases k1 : 1 ≤ m.1
        case neg => simp [k1]
        by_cases k2 : m.1 ≤ 10000
        case neg => simp [k1, k2]
        by_cases k3 : 0 ≤ m.2.1
        case neg => simp [k1, k2, k3]
        by_cases k4 : m.2.1 ≤ 100
        case neg => simp [k1, k2, k3, k4]
        by_cases k5 : 1 ≤ m.2.2
        case neg => simp [k1, k2, k3, k4, k5]
        by_cases k6 : m.2.2 ≤ 20
        case neg => simp [k1, k2, k3, k4, k5, k6]
        exact (hok ⟨k1, k2, k3, k4, k5, k6⟩).elim
    · intro _ hI
      refine ⟨Sum.inr (), by simp only [b17_1, need_eq, ask_eq, ret_eq, no_eq, bnd_eq, run_eq, alt_eq, std_len, std_ofNat, std_nat, std_add, std_leN, std_eqN, std_and, std_app, std_cut, std_lss, std_leq, std_gtr, std_geq, std_eql, std_neq, std_rowOk, std_rdI, rdD, bif_eq, ofNat_eq, List.length_map, List.getElem?_map, Option.map_some, Option.bind_some, Option.bind_none, Int.toNat_natCast, decide_eq_true_eq, Sum.elim_inl, Sum.elim_inr, if_true, if_false, decide_true, decide_false, Bool.false_eq_true, encM, Int.lt_irrefl], .inr ⟨rfl, fun m hm => ?_⟩⟩
      obtain ⟨j, hj⟩ := List.getElem?_of_mem hm
      exact hI j m (List.getElem?_eq_some_iff.1 hj).1 hj
  obtain ⟨r, hr, hq⟩ := hl
  have hr : iter (b17_1 std) (encM l, 0, ()) = some r := hr
  simp only [need_eq, ask_eq, ret_eq, no_eq, bnd_eq, run_eq, alt_eq, std_len, std_ofNat, std_nat, std_add, std_leN, std_eqN, std_and, std_app, std_cut, std_lss, std_leq, std_gtr, std_geq, std_eql, std_neq, std_rowOk, std_rdI, rdD, bif_eq, ofNat_eq, List.length_map, List.getElem?_map, Option.map_some, Option.bind_some, Option.bind_none, Int.toNat_natCast, decide_eq_true_eq, Sum.elim_inl, Sum.elim_inr, if_true, if_false, decide_true, decide_false, Bool.false_eq_true, hr, chk, if_neg (show ¬ (l.length < 1 ∨ 24 < l.length) by omega), if_neg (show ¬ (l.length : Int) < 1 by omega), if_neg (show ¬ (l.length : Int) > 24 by omega), show (encM l).length = l.length by simp [encM]]
  rcases hq with ⟨rfl, hq⟩ | ⟨rfl, hq⟩
  · simp only [Sum.elim_inl, if_neg hq]
  · simp only [Sum.elim_inr, if_pos hq, Option.bind_some]
def condH (out : List Int) (m : Mk) : Prop := out = [] ∨ m.1 > out.getLastD 0
instance (out : List Int) (m : Mk) : Decidable (condH out m) := by unfold condH; infer_instance
def nextH (out : List Int) (l : List Mk) (nx : Int) : Int := l.foldl (fun nx m => if condH out m ∧ m.1 < nx then m.1 else nx) nx
theorem rowsI_get (l : List Int) (i : Nat) : (rowsI l)[i]? = (l[i]?).map fun n => [D.int .i64 n] := by simp [rowsI]
theorem in28 (l : List Mk) (hl : l.length ≤ 1000000) (out : List Int) (ho : out.length ≤ 1000000) (nx : Int) :
    iter (b28_2 std) (rowsI out, encM l, nx, ((0 : Nat) : Int), ()) = some (rowsI out, encM l, nextH out l nx, ()) := by
  have key := iter_count (b := b28_2 std) l.length (fun (nx : Int) i => (rowsI out, encM l, nx, (i : Int), ())) (fun nx' i => nextH out (l.drop i) nx' = nextH out l nx) (fun r => r = (rowsI out, encM l, nextH out l nx, ())) ?_ ?_ nx 0 (Nat.zero_le _) (by simp)
  · obtain ⟨r, h1, h2⟩ := key
    rw [h1, h2]
  · intro nx i hi hI
    left
    obtain ⟨m, hm⟩ := get_some hi
    have hw := wrap_nat (i := i) (by omega)
    have hlt : (i : Int) < l.length := by omega
    have h0 : (0 : Int) ≤ i := by omega
    refine ⟨if condH out m ∧ m.1 < nx then m.1 else nx, ?_, by rw [← hI, drop_get hm]; rfl⟩
    rcases List.eq_nil_or_concat out with rfl | ⟨o, x, rfl⟩
    · have e0 : ((rowsI []).length : Int) = 0 := rfl
      simp only [b28_2, need_eq, ask_eq, ret_eq, no_eq, bnd_eq, run_eq, alt_eq, std_len, std_ofNat, std_nat, std_add, std_leN, std_eqN, std_and, std_app, std_cut, std_lss, std_leq, std_gtr, std_geq, std_eql, std_neq, std_rowOk, std_rdI, rdD, bif_eq, ofNat_eq, List.length_map, List.getElem?_map, Option.map_some, Option.bind_some, Option.bind_none, Int.toNat_natCast, decide_eq_true_eq, Sum.elim_inl, Sum.elim_inr, if_true, if_false, decide_true, decide_false, Bool.false_eq_true, encM, cells_eM, dI_eM0, dI_eM1, dI_eM2, hm, hlt, h0, ge_iff_le, e0, std_ar_add, hw, condH, true_or, true_and]
      by_cases h : m.1 < nx
      · simp only [h, if_true, Option.bind_some, hw]
      · simp only [h, if_false, Option.bind_some, hw]
    · have e0 : ¬ ((rowsI (o ++ [x])).length : Int) = 0 := by simp [rowsI]; omega
      have e1 : IntKind.i64.wrap (((rowsI (o ++ [x])).length : Int) - 1) = (o.length : Int) := by
        rw [wrap64] <;> simp [rowsI] at ho ⊢ <;> omega
      have e2 : (o.length : Int) < ((rowsI (o ++ [x])).length : Int) := by simp [rowsI]; omega
      have e3 : (rowsI (o ++ [x]))[0 + o.length]? = some [D.int .i64 x] := by simp [rowsI]
      have e4 : (0 : Int) ≤ (o.length : Int) := by omega
      have e5 : condH (o ++ [x]) m ↔ m.1 > x := by simp [condH]
      simp only [List.concat_eq_append] at *
      simp only [b28_2, need_eq, ask_eq, ret_eq, no_eq, bnd_eq, run_eq, alt_eq, std_len, std_ofNat, std_nat, std_add, std_leN, std_eqN, std_and, std_app, std_cut, std_lss, std_leq, std_gtr, std_geq, std_eql, std_neq, std_rowOk, std_rdI, rdD, bif_eq, ofNat_eq, List.length_map, List.getElem?_map, Option.map_some, Option.bind_some, Option.bind_none, Int.toNat_natCast, decide_eq_true_eq, Sum.elim_inl, Sum.elim_inr, if_true, if_false, decide_true, decide_false, Bool.false_eq_true, encM, cells_eM, dI_eM0, dI_eM1, dI_eM2, hm, hlt, h0, ge_iff_le, e0, std_ar_add, std_ar_sub, hw, e1, e2, e3, e4, e5, cellsOk, cellOk, show (IntKind.i64 == IntKind.i64) = true from rfl, Bool.and_true]
      simp only [dI, Option.getD_some, List.getElem?_cons_zero]
      by_cases h1 : m.1 > x
      · by_cases h : m.1 < nx
        · simp only [h1, h, if_true, Option.bind_some, hw, true_and]
        · simp only [h1, h, if_true, if_false, Option.bind_some, hw, and_false]
      · simp only [h1, if_false, Option.bind_some, hw, false_and]
  · intro nx' hI
    refine ⟨_, ?_, rfl⟩
    have hI : nx' = nextH out l nx := by simpa [nextH] using hI
    simp only [b28_2, need_eq, ask_eq, ret_eq, no_eq, bnd_eq, run_eq, alt_eq, std_len, std_ofNat, std_nat, std_add, std_leN, std_eqN, std_and, std_app, std_cut, std_lss, std_leq, std_gtr, std_geq, std_eql, std_neq, std_rowOk, std_rdI, rdD, bif_eq, ofNat_eq, List.length_map, List.getElem?_map, Option.map_some, Option.bind_some, Option.bind_none, Int.toNat_natCast, decide_eq_true_eq, Sum.elim_inl, Sum.elim_inr, if_true, if_false, decide_true, decide_false, Bool.false_eq_true, encM, cells_eM, dI_eM0, dI_eM1, dI_eM2, Int.lt_irrefl, ← hI]
theorem nextH_spec (out : List Int) : ∀ (l : List Mk) (nx : Int), nextH out l nx ≤ nx ∧ (nextH out l nx = nx ∨ ∃ m ∈ l, condH out m ∧ m.1 = nextH out l nx) ∧ ∀ m ∈ l, condH out m → nextH out l nx ≤ m.1
  | [], nx => ⟨Int.le_refl _, .inl rfl, fun m h => by simp at h⟩
  | m :: l, nx => by
    have e : nextH out (m :: l) nx = nextH out l (if condH out m ∧ m.1 < nx then m.1 else nx) := rfl
    obtain ⟨h1, h2, h3⟩ := nextH_spec out l (if condH out m ∧ m.1 < nx then m.1 else nx)
    rw [e]
    refine ⟨?_, ?_, fun m' hm' hc => ?_⟩
    · by_cases h : condH out m ∧ m.1 < nx
      · rw [if_pos h] at h1 ⊢; have := h.2; omega
      · rw [if_neg h] at h1 ⊢; exact h1
    · rcases h2 with h2 | ⟨m', a, b, c⟩
      · by_cases h : condH out m ∧ m.1 < nx
        · rw [if_pos h] at h2 ⊢; exact .inr ⟨m, by simp, h.1, h2.symm⟩
        · rw [if_neg h] at h2 ⊢; exact .inl h2
      · exact .inr ⟨m', by simp [a], b, c⟩
    · rcases List.mem_cons.1 hm' with rfl | hm'
      · by_cases h : condH out m' ∧ m'.1 < nx
        · rw [if_pos h] at h1 ⊢; exact h1
        · rw [if_neg h] at h1 ⊢
          have : ¬ m'.1 < nx := fun h' => h ⟨hc, h'⟩
          omega
      · exact h3 m' hm' hc
theorem nextH_take {l : List Mk} (hc : ∀ m ∈ l, okMk m) {k : Nat} (hk : k ≤ (hours l).length) : nextH ((hours l).take k) l 1073741824 = lim l k := by
  obtain ⟨h1, h2, h3⟩ := nextH_spec ((hours l).take k) l 1073741824
  have hcond : ∀ m ∈ l, ∀ t : Nat, (hours l)[t]? = some m.1 → (condH ((hours l).take k) m ↔ k ≤ t) := by
    intro m hm t ht
    unfold condH
    cases k with
    | zero => simp
    | succ k =>
      have hk' : k < (hours l).length := by omega
      have e := List.getElem?_eq_getElem hk'
      have e2 : ((hours l).take (k + 1)).getLastD 0 = (hours l)[k] := by
        rw [List.getLastD_eq_getLast?, List.take_succ_eq_append_getElem hk', List.getLast?_concat]; rfl
      have e3 : (hours l).take (k + 1) ≠ [] := by
        intro h; have := congrArg List.length h; rw [List.length_take, List.length_nil] at this; omega
      rw [e2]
      have := get_lt_iff e ht
      constructor
      · rintro (h | h)
        · exact absurd h e3
        · omega
      · intro h; right; omega
  rcases Nat.lt_or_ge k (hours l).length with hlt | hge
  · have e := List.getElem?_eq_getElem hlt
    rw [lim_at e]
    obtain ⟨m, hm, hx⟩ := mem_hours.1 (List.getElem_mem hlt)
    have e' : (hours l)[k]? = some m.1 := by rw [e, hx]
    have := h3 m hm ((hcond m hm k e').2 (Nat.le_refl _))
    have hr := hc m hm
    rcases h2 with h2 | ⟨m', a, b, c⟩
    · have := hr.2.1; omega
    · obtain ⟨t, ht⟩ := place a
      have hkt := (hcond m' a t ht).1 b
      rw [← c]
      rcases Nat.eq_or_lt_of_le hkt with h | h
      · subst h; rw [e] at ht; exact (Option.some.inj ht).symm
      · have := get_lt e ht h; omega
  · have hk' : k = (hours l).length := by omega
    have hl : lim l k = 1073741824 := by
      unfold lim
      rw [List.getD_eq_getElem?_getD, List.getElem?_eq_none hge]; rfl
    rw [hl]
    rcases h2 with h2 | ⟨m', a, b, c⟩
    · exact h2
    · obtain ⟨t, ht⟩ := place a
      have hkt := (hcond m' a t ht).1 b
      have := (List.getElem?_eq_some_iff.1 ht).1
      omega
theorem G28_ok (l : List Mk) (hl : l.length ≤ 100000) (hc : ∀ m ∈ l, okMk m) : G28 std (encM l, ()) = some (rowsI (hours l), ()) := by
  have hn := hours_len l
  have key := iter_ev (b := b28_1 std) (fun k : Nat => (rowsI ((hours l).take k), encM l, ())) (fun k => k ≤ (hours l).length) (fun k => (hours l).length - k) (fun r => r = (rowsI (hours l), ())) ?_ 0 (Nat.zero_le _)
  · obtain ⟨r, h1, rfl⟩ := key
    have h1 : iter (b28_1 std) ([], encM l, ()) = some (rowsI (hours l), ()) := h1
    unfold G28
    simp only [need_eq, ask_eq, ret_eq, no_eq, bnd_eq, run_eq, alt_eq, std_len, std_ofNat, std_nat, std_add, std_leN, std_eqN, std_and, std_app, std_cut, std_lss, std_leq, std_gtr, std_geq, std_eql, std_neq, std_rowOk, std_rdI, rdD, bif_eq, ofNat_eq, List.length_map, List.getElem?_map, Option.map_some, Option.bind_some, Option.bind_none, Int.toNat_natCast, decide_eq_true_eq, Sum.elim_inl, Sum.elim_inr, if_true, if_false, decide_true, decide_false, Bool.false_eq_true, h1]
  · intro k hk
    have hin := in28 l (by omega) ((hours l).take k) (by simp; omega) 1073741824
    rw [nextH_take hc hk] at hin
    have hin : iter (b28_2 std) (rowsI (List.take k (hours l)), encM l, 1073741824, 0, ()) = some (rowsI (List.take k (hours l)), encM l, lim l k, ()) := hin
    rcases Nat.lt_or_ge k (hours l).length with hlt | hge
    · left
      refine ⟨k + 1, ?_, hlt, by omega⟩
      have e := List.getElem?_eq_getElem hlt
      have hne : ¬ lim l k = 1073741824 := by
        rw [lim_at e]
        have := (hour_range hc (List.getElem_mem hlt)).2
        omega
      have e1 : (rowsI (List.take k (hours l))).length = k := by simp [rowsI]; omega
      have e2 : rowsI (List.take (k + 1) (hours l)) = rowsI (List.take k (hours l)) ++ [[D.int .i64 (lim l k)]] := by
        rw [List.take_succ_eq_append_getElem hlt, lim_at e]; simp only [rowsI, List.map_append, List.map_cons, List.map_nil]
      simp only [b28_1, need_eq, ask_eq, ret_eq, no_eq, bnd_eq, run_eq, alt_eq, std_len, std_ofNat, std_nat, std_add, std_leN, std_eqN, std_and, std_app, std_cut, std_lss, std_leq, std_gtr, std_geq, std_eql, std_neq, std_rowOk, std_rdI, rdD, bif_eq, ofNat_eq, List.length_map, List.getElem?_map, Option.map_some, Option.bind_some, Option.bind_none, Int.toNat_natCast, decide_eq_true_eq, Sum.elim_inl, Sum.elim_inr, if_true, if_false, decide_true, decide_false, Bool.false_eq_true, hin, hne, e1, e2, List.drop_zero, List.take_of_length_le (Nat.le_of_eq e1), List.length_cons, List.length_nil, List.length_append, List.take_succ_cons, List.take_zero, Nat.zero_add, Nat.le_refl, Bool.and_true, Bool.true_and, show k + 1 ≤ 1000000 by omega]
    · right
      have hk' : k = (hours l).length := by omega
      have hl : lim l k = 1073741824 := by
        unfold lim
        rw [List.getD_eq_getElem?_getD, List.getElem?_eq_none hge]; rfl
      refine ⟨_, ?_, rfl⟩
      rw [hl] at hin
      rw [List.take_of_length_le hge] at hin ⊢
      simp only [b28_1, need_eq, ask_eq, ret_eq, no_eq, bnd_eq, run_eq, alt_eq, std_len, std_ofNat, std_nat, std_add, std_leN, std_eqN, std_and, std_app, std_cut, std_lss, std_leq, std_gtr, std_geq, std_eql, std_neq, std_rowOk, std_rdI, rdD, bif_eq, ofNat_eq, List.length_map, List.getElem?_map, Option.map_some, Option.bind_some, Option.bind_none, Int.toNat_natCast, decide_eq_true_eq, Sum.elim_inl, Sum.elim_inr, if_true, if_false, decide_true, decide_false, Bool.false_eq_true, hin]
theorem sumP_take {f : Mk → Int} {c : Int → Bool} {l : List Mk} {i : Nat} {m : Mk} (h : l[i]? = some m) : sumP f c (l.take (i + 1)) = sumP f c (l.take i) + if c m.1 then f m else 0 := by
  obtain ⟨h1, rfl⟩ := List.getElem?_eq_some_iff.1 h
  rw [List.take_succ_eq_append_getElem h1, sumP_append]
  simp only [sumP, Int.add_zero]
theorem G30_ok (l : List Mk) (hl : l.length ≤ 100000) (hc : ∀ m ∈ l, okMk m) (a b : Int) : G30 std (encM l, a, b, ()) = some ((blk l a b).1, (blk l a b).2.1, (blk l a b).2.2.1, (blk l a b).2.2.2, ()) := by
  have key := iter_count (b := b30_1 std) l.length (fun (_ : Unit) i => (0, 0, 0, 0, a, b, (blk (l.take i) a b).2.2.1, (blk (l.take i) a b).2.2.2, encM l, a, b, (i : Int), ())) (fun _ _ => True) (fun r => r = (0, 0, 0, 0, a, b, (blk l a b).2.2.1, (blk l a b).2.2.2, ())) ?_ ?_ () 0 (Nat.zero_le _) trivial
  · obtain ⟨r, h1, rfl⟩ := key
    have h1 : iter (b30_1 std) (0, 0, 0, 0, a, b, 0, 0, encM l, a, b, 0, ()) = some (0, 0, 0, 0, a, b, (blk l a b).2.2.1, (blk l a b).2.2.2, ()) := h1
    unfold G30
    simp only [need_eq, ask_eq, ret_eq, no_eq, bnd_eq, run_eq, alt_eq, std_len, std_ofNat, std_nat, std_add, std_leN, std_eqN, std_and, std_app, std_cut, std_lss, std_leq, std_gtr, std_geq, std_eql, std_neq, std_rowOk, std_rdI, rdD, bif_eq, ofNat_eq, List.length_map, List.getElem?_map, Option.map_some, Option.bind_some, Option.bind_none, Int.toNat_natCast, decide_eq_true_eq, Sum.elim_inl, Sum.elim_inr, if_true, if_false, decide_true, decide_false, Bool.false_eq_true, h1]
    rfl
  · intro _ i hi _
    left
    obtain ⟨m, hm⟩ := get_some hi
    have hw := wrap_nat (i := i) (by omega)
    have hlt : (i : Int) < l.length := by omega
    have h0 : (0 : Int) ≤ i := by omega
    refine ⟨(), ?_, trivial⟩
    have hok := hc m (List.mem_of_getElem? hm)
    have hsub : ∀ m ∈ l.take i, okMk m := fun m hm => hc m (List.mem_of_mem_take hm)
    have f1 := okMk_fw hok
    have f2 := okMk_fs hok
    unfold fw at f1
    unfold fs at f2
    have w0 := sumP_nonneg (f := fw) (c := fun h => decide (a ≤ h) && decide (h ≤ b)) (l := l.take i) fun m hm => by have := (okMk_fw (hsub m hm)).1; omega
    have w1 := sumP_le (f := fw) (c := fun h => decide (a ≤ h) && decide (h ≤ b)) (l := l.take i) (k := 20) fun m hm => by have := okMk_fw (hsub m hm); omega
    have s0 := sumP_nonneg (f := fs) (c := fun h => decide (a ≤ h) && decide (h ≤ b)) (l := l.take i) fun m hm => (okMk_fs (hsub m hm)).1
    have s1 := sumP_le (f := fs) (c := fun h => decide (a ≤ h) && decide (h ≤ b)) (l := l.take i) (k := 2000) fun m hm => okMk_fs (hsub m hm)
    have hlen : (l.take i).length ≤ 100000 := by rw [List.length_take]; omega
    have q1 : IntKind.i64.wrap (sumP fw (fun h => decide (a ≤ h) && decide (h ≤ b)) (l.take i) + m.2.2) = sumP fw (fun h => decide (a ≤ h) && decide (h ≤ b)) (l.take i) + m.2.2 := wrap64 _ (by omega) (by omega)
    have q2 : IntKind.i64.wrap (m.2.1 * m.2.2) = m.2.1 * m.2.2 := wrap64 _ (by omega) (by omega)
    have q3 : IntKind.i64.wrap (sumP fs (fun h => decide (a ≤ h) && decide (h ≤ b)) (l.take i) + m.2.1 * m.2.2) = sumP fs (fun h => decide (a ≤ h) && decide (h ≤ b)) (l.take i) + m.2.1 * m.2.2 := wrap64 _ (by omega) (by omega)
    simp only [b30_1, need_eq, ask_eq, ret_eq, no_eq, bnd_eq, run_eq, alt_eq, std_len, std_ofNat, std_nat, std_add, std_leN, std_eqN, std_and, std_app, std_cut, std_lss, std_leq, std_gtr, std_geq, std_eql, std_neq, std_rowOk, std_rdI, rdD, bif_eq, ofNat_eq, List.length_map, List.getElem?_map, Option.map_some, Option.bind_some, Option.bind_none, Int.toNat_natCast, decide_eq_true_eq, Sum.elim_inl, Sum.elim_inr, if_true, if_false, decide_true, decide_false, Bool.false_eq_true, encM, cells_eM, dI_eM0, dI_eM1, dI_eM2, hm, hlt, h0, ge_iff_le, std_ar_add, std_ar_mul, blk, sumP_take hm]
    by_cases h1 : a ≤ m.1
    · by_cases h2 : m.1 ≤ b
      · simp only [h1, h2, if_true, Option.bind_some, q1, q2, q3, hw, decide_true, Bool.and_true, fw, fs]
      · simp only [h1, h2, if_true, if_false, Option.bind_some, hw, decide_true, decide_false, Bool.and_false, Int.add_zero, Bool.false_eq_true]
    · simp only [h1, if_false, Option.bind_some, hw, decide_false, Bool.false_and, Int.add_zero, Bool.false_eq_true]
  · intro _ _
    refine ⟨_, ?_, rfl⟩
    simp only [b30_1, need_eq, ask_eq, ret_eq, no_eq, bnd_eq, run_eq, alt_eq, std_len, std_ofNat, std_nat, std_add, std_leN, std_eqN, std_and, std_app, std_cut, std_lss, std_leq, std_gtr, std_geq, std_eql, std_neq, std_rowOk, std_rdI, rdD, bif_eq, ofNat_eq, List.length_map, List.getElem?_map, Option.map_some, Option.bind_some, Option.bind_none, Int.toNat_natCast, decide_eq_true_eq, Sum.elim_inl, Sum.elim_inr, if_true, if_false, decide_true, decide_false, Bool.false_eq_true, encM, cells_eM, dI_eM0, dI_eM1, dI_eM2, Int.lt_irrefl, List.take_length]
def SmB (b : Blk) : Prop := 0 ≤ b.2.2.1 ∧ b.2.2.1 ≤ 2000000 ∧ 0 ≤ b.2.2.2 ∧ b.2.2.2 ≤ 200000000
theorem blk_small {l : List Mk} (hl : l.length ≤ 100000) (hc : ∀ m ∈ l, okMk m) (a b : Int) : SmB (blk l a b) := by
  have w0 := sumP_nonneg (f := fw) (c := fun h => decide (a ≤ h) && decide (h ≤ b)) (l := l) fun m hm => by have := (okMk_fw (hc m hm)).1; omega
  have w1 := sumP_le (f := fw) (c := fun h => decide (a ≤ h) && decide (h ≤ b)) (l := l) (k := 20) fun m hm => by have := okMk_fw (hc m hm); omega
  have s0 := sumP_nonneg (f := fs) (c := fun h => decide (a ≤ h) && decide (h ≤ b)) (l := l) fun m hm => (okMk_fs (hc m hm)).1
  have s1 := sumP_le (f := fs) (c := fun h => decide (a ≤ h) && decide (h ≤ b)) (l := l) (k := 2000) fun m hm => okMk_fs (hc m hm)
  unfold SmB blk
  refine ⟨w0, ?_, s0, ?_⟩ <;> simp only <;> omega
theorem mul_small {x y : Int} (hx : 0 ≤ x) (hx' : x ≤ 200000000) (hy : 0 ≤ y) (hy' : y ≤ 2000000) : IntKind.i64.wrap (x * y) = x * y := by
  have a : 0 ≤ x * y := Int.mul_nonneg hx hy
  have b : x * y ≤ 200000000 * y := Int.mul_le_mul_of_nonneg_right hx' hy
  exact wrap64 _ (by omega) (by omega)
theorem G31_ok (a b : Blk) (ha : SmB a) (hb : SmB b) : G31 std (a.1, a.2.1, a.2.2.1, a.2.2.2, b.1, b.2.1, b.2.2.1, b.2.2.2, ()) = some (ltB a b, ()) := by
  obtain ⟨a1, a2, a3, a4⟩ := ha
  obtain ⟨b1, b2, b3, b4⟩ := hb
  unfold G31
  simp only [need_eq, ask_eq, ret_eq, no_eq, bnd_eq, run_eq, alt_eq, std_len, std_ofNat, std_nat, std_add, std_leN, std_eqN, std_and, std_app, std_cut, std_lss, std_leq, std_gtr, std_geq, std_eql, std_neq, std_rowOk, std_rdI, rdD, bif_eq, ofNat_eq, List.length_map, List.getElem?_map, Option.map_some, Option.bind_some, Option.bind_none, Int.toNat_natCast, decide_eq_true_eq, Sum.elim_inl, Sum.elim_inr, if_true, if_false, decide_true, decide_false, Bool.false_eq_true, std_ar_mul, mul_small a3 a4 b1 b2, mul_small b3 b4 a1 a2, ltB]
end Go.Am
end

section
set_option linter.unusedVariables false
set_option linter.unusedSimpArgs false
namespace Go.Am
open M08
theorem cells_I (x : Int) : cellsOk [CK.int IntKind.i64] [D.int .i64 x] = true := rfl
theorem dI_I (x : Int) : dI ([D.int .i64 x][0]?.getD D.nilp) = x := rfl
theorem rowsI_length (l : List Int) : (rowsI l).length = l.length := by simp [rowsI]
theorem encB_length (l : List Blk) : (encB l).length = l.length := by simp [encB]
theorem encB_get (l : List Blk) (i : Nat) : (encB l)[i]? = (l[i]?).map eB := by simp [encB]
theorem encB_snoc (l : List Blk) (b : Blk) : encB l ++ [[D.int .i64 b.1, D.int .i64 b.2.1, D.int .i64 b.2.2.1, D.int .i64 b.2.2.2]] = encB (l ++ [b]) := by simp [encB, eB]
section
variable {l : List Mk} (hl : l.length ≤ 100000) (hc : ∀ m ∈ l, okMk m)
include hl hc
theorem bl_small (j k : Nat) : SmB (bl l j k) := blk_small hl hc _ _
theorem isMin_small {j i e : Nat} {b : Blk} (h : isMin l j i e b) : SmB b := by
  obtain ⟨k0, _, _, rfl, _⟩ := h
  exact bl_small hl hc _ _
theorem isBest_small {i e : Nat} {b : Blk} (h : isBest l i e b) : SmB b := by
  obtain ⟨⟨_, _, h⟩, _⟩ := h
  exact isMin_small hl hc h
omit hl hc in
theorem hours_get {k : Nat} (hk : k < (hours l).length) : (hours l)[k]? = some (lim l k) := by
  have e := List.getElem?_eq_getElem hk
  rw [lim_at e, e]
theorem G30_bl (j k : Nat) : G30 std (encM l, lim l j, lim l k, ()) = some ((bl l j k).1, (bl l j k).2.1, (bl l j k).2.2.1, (bl l j k).2.2.2, ()) := G30_ok l hl hc _ _
theorem in47_3 (out : List Blk) (best : Blk) {j i : Nat} (hji : j ≤ i) (hi : i < (hours l).length) :
    ∃ m, isMin l j i (hours l).length m ∧ iter (b47_3 std) (rowsI (hours l), encB out, best.1, best.2.1, best.2.2.1, best.2.2.2, (bl l j i).1, (bl l j i).2.1, (bl l j i).2.2.1, (bl l j i).2.2.2, encM l, (i : Int), (j : Int), ((i + 1 : Nat) : Int), ()) =
      some (rowsI (hours l), encB out, best.1, best.2.1, best.2.2.1, best.2.2.2, m.1, m.2.1, m.2.2.1, m.2.2.2, encM l, (i : Int), (j : Int), ()) := by
  have hn := hours_len l
  have key := iter_count (b := b47_3 std) (hours l).length (fun (m : Blk) k => (rowsI (hours l), encB out, best.1, best.2.1, best.2.2.1, best.2.2.2, m.1, m.2.1, m.2.2.1, m.2.2.2, encM l, (i : Int), (j : Int), (k : Int), ())) (fun m k => i + 1 ≤ k ∧ isMin l j i k m)
    (fun r => ∃ m, isMin l j i (hours l).length m ∧ r = (rowsI (hours l), encB out, best.1, best.2.1, best.2.2.1, best.2.2.2, m.1, m.2.1, m.2.2.1, m.2.2.2, encM l, (i : Int), (j : Int), ())) ?_ ?_ (bl l j i) (i + 1) hi ⟨Nat.le_refl _, isMin_first hji⟩
  · obtain ⟨r, h1, m, h2, rfl⟩ := key
    exact ⟨m, h2, h1⟩
  · intro m k hk ⟨hik, hm⟩
    left
    refine ⟨if ltB (bl l j k) m = true then bl l j k else m, ?_, by omega, isMin_step hc hji (by omega) hk hm⟩
    have hw := wrap_nat (i := k) (by omega)
    have h1 : (k : Int) < (hours l).length := by omega
    have h2 : (0 : Int) ≤ k := by omega
    have h3 : (j : Int) < (hours l).length := by omega
    have h4 : (0 : Int) ≤ j := by omega
    simp only [b47_3, need_eq, ask_eq, ret_eq, no_eq, bnd_eq, run_eq, alt_eq, std_len, std_ofNat, std_nat, std_add, std_leN, std_eqN, std_and, std_app, std_cut, std_lss, std_leq, std_gtr, std_geq, std_eql, std_neq, std_rowOk, std_rdI, rdD, bif_eq, ofNat_eq, List.length_map, List.getElem?_map, Option.map_some, Option.bind_some, Option.bind_none, Int.toNat_natCast, decide_eq_true_eq, Sum.elim_inl, Sum.elim_inr, if_true, if_false, decide_true, decide_false, Bool.false_eq_true, rowsI_length, rowsI_get, Nat.zero_add, hours_get hk, hours_get (show j < (hours l).length by omega), cells_I, dI_I, h1, h2, h3, h4, ge_iff_le, G30_bl hl hc, G31_ok _ _ (bl_small hl hc j k) (isMin_small hl hc hm), std_ar_add, hw]
    by_cases hlt : ltB (bl l j k) m = true
    · simp only [hlt, if_true, Option.bind_some, hw]
    · simp only [hlt, if_false, Option.bind_some, hw, Bool.false_eq_true]
  · intro m ⟨_, hm⟩
    refine ⟨_, ?_, m, hm, rfl⟩
    simp only [b47_3, need_eq, ask_eq, ret_eq, no_eq, bnd_eq, run_eq, alt_eq, std_len, std_ofNat, std_nat, std_add, std_leN, std_eqN, std_and, std_app, std_cut, std_lss, std_leq, std_gtr, std_geq, std_eql, std_neq, std_rowOk, std_rdI, rdD, bif_eq, ofNat_eq, List.length_map, List.getElem?_map, Option.map_some, Option.bind_some, Option.bind_none, Int.toNat_natCast, decide_eq_true_eq, Sum.elim_inl, Sum.elim_inr, if_true, if_false, decide_true, decide_false, Bool.false_eq_true, rowsI_length, Int.lt_irrefl]
theorem in47_2 (out : List Blk) {i : Nat} (hi : i < (hours l).length) :
    ∃ m, isBest l i (i + 1) m ∧ iter (b47_2 std) (rowsI (hours l), encB out, 0, 0, 0, 0, encM l, (i : Int), 0, ()) = some (rowsI (hours l), encB out, m.1, m.2.1, m.2.2.1, m.2.2.2, encM l, (i : Int), ()) := by
  have hn := hours_len l
  have key := iter_count (b := b47_2 std) (i + 1) (fun (m : Blk) j => (rowsI (hours l), encB out, m.1, m.2.1, m.2.2.1, m.2.2.2, encM l, (i : Int), (j : Int), ())) (fun m j => j = 0 ∨ isBest l i j m)
    (fun r => ∃ m, isBest l i (i + 1) m ∧ r = (rowsI (hours l), encB out, m.1, m.2.1, m.2.2.1, m.2.2.2, encM l, (i : Int), ())) ?_ ?_ (0, 0, 0, 0) 0 (Nat.zero_le _) (.inl rfl)
  · obtain ⟨r, h1, m, h2, rfl⟩ := key
    exact ⟨m, h2, h1⟩
  · intro b j hj hb
    left
    obtain ⟨m, hm, h3⟩ := in47_3 hl hc out b (show j ≤ i by omega) hi
    have hwj := wrap_nat (i := j) (by omega)
    have hwi := wrap_nat (i := i) (by omega)
    have h1 : (i : Int) < (hours l).length := by omega
    have h2 : (0 : Int) ≤ i := by omega
    have h3' : (j : Int) < (hours l).length := by omega
    have h4 : (0 : Int) ≤ j := by omega
    have h5 : (j : Int) ≤ i := by omega
    refine ⟨if j = 0 then m else if ltB b m = true then m else b, ?_, .inr ?_⟩
    · by_cases h0 : j = 0
      · have h0' : (j : Int) = 0 := by omega
        simp only [b47_2, need_eq, ask_eq, ret_eq, no_eq, bnd_eq, run_eq, alt_eq, std_len, std_ofNat, std_nat, std_add, std_leN, std_eqN, std_and, std_app, std_cut, std_lss, std_leq, std_gtr, std_geq, std_eql, std_neq, std_rowOk, std_rdI, rdD, bif_eq, ofNat_eq, List.length_map, List.getElem?_map, Option.map_some, Option.bind_some, Option.bind_none, Int.toNat_natCast, decide_eq_true_eq, Sum.elim_inl, Sum.elim_inr, if_true, if_false, decide_true, decide_false, Bool.false_eq_true, rowsI_length, rowsI_get, Nat.zero_add, hours_get hi, hours_get (show j < (hours l).length by omega), cells_I, dI_I, h1, h2, h3', h4, h5, ge_iff_le, G30_bl hl hc, std_ar_add, hwi, h3]
        simp only [h0', h0, if_true, Option.bind_some]
        rfl
      · have h0' : ¬ (j : Int) = 0 := by omega
        rcases hb with hb | hb
        · exact absurd hb h0
        simp only [b47_2, need_eq, ask_eq, ret_eq, no_eq, bnd_eq, run_eq, alt_eq, std_len, std_ofNat, std_nat, std_add, std_leN, std_eqN, std_and, std_app, std_cut, std_lss, std_leq, std_gtr, std_geq, std_eql, std_neq, std_rowOk, std_rdI, rdD, bif_eq, ofNat_eq, List.length_map, List.getElem?_map, Option.map_some, Option.bind_some, Option.bind_none, Int.toNat_natCast, decide_eq_true_eq, Sum.elim_inl, Sum.elim_inr, if_true, if_false, decide_true, decide_false, Bool.false_eq_true, rowsI_length, rowsI_get, Nat.zero_add, hours_get hi, hours_get (show j < (hours l).length by omega), cells_I, dI_I, h1, h2, h3', h4, h5, ge_iff_le, G30_bl hl hc, std_ar_add, hwi, h3, h0', h0, G31_ok _ _ (isBest_small hl hc hb) (isMin_small hl hc hm)]
        by_cases hlt : ltB b m = true
        · simp only [hlt, if_true, Option.bind_some, hwj]
        · simp only [hlt, if_false, Option.bind_some, hwj, Bool.false_eq_true]
    · by_cases h0 : j = 0
      · subst h0; exact isBest_first hm
      · rcases hb with hb | hb
        · exact absurd hb h0
        rw [if_neg h0]
        exact isBest_step hc (by omega) hi hb hm
  · intro b hb
    rcases hb with hb | hb
    · omega
    refine ⟨_, ?_, b, hb, rfl⟩
    simp only [b47_2, need_eq, ask_eq, ret_eq, no_eq, bnd_eq, run_eq, alt_eq, std_len, std_ofNat, std_nat, std_add, std_leN, std_eqN, std_and, std_app, std_cut, std_lss, std_leq, std_gtr, std_geq, std_eql, std_neq, std_rowOk, std_rdI, rdD, bif_eq, ofNat_eq, List.length_map, List.getElem?_map, Option.map_some, Option.bind_some, Option.bind_none, Int.toNat_natCast, decide_eq_true_eq, Sum.elim_inl, Sum.elim_inr, if_true, if_false, decide_true, decide_false, Bool.false_eq_true, rowsI_length, show ¬ (((i + 1 : Nat) : Int) ≤ i) by omega]
def Values (l : List Mk) (v : List Blk) : Prop := v.length = (hours l).length ∧ ∀ (i : Nat) (b : Blk), v[i]? = some b → isBest l i (i + 1) b
theorem G47_ok : ∃ v, G47 std (encM l, ()) = some (encB v, ()) ∧ Values l v := by
  have hn := hours_len l
  have key := iter_count (b := b47_1 std) (hours l).length (fun (v : List Blk) i => (rowsI (hours l), encB v, encM l, (i : Int), ())) (fun v i => v.length = i ∧ ∀ (i : Nat) (b : Blk), v[i]? = some b → isBest l i (i + 1) b)
    (fun r => ∃ v, Values l v ∧ r = (encB v, ())) ?_ ?_ [] 0 (Nat.zero_le _) ⟨rfl, fun i b h => by simp at h⟩
  · obtain ⟨r, h1, v, h2, rfl⟩ := key
    have h1 : iter (b47_1 std) (rowsI (hours l), [], encM l, 0, ()) = some (encB v, ()) := h1
    refine ⟨v, ?_, h2⟩
    unfold G47
    simp only [need_eq, ask_eq, ret_eq, no_eq, bnd_eq, run_eq, alt_eq, std_len, std_ofNat, std_nat, std_add, std_leN, std_eqN, std_and, std_app, std_cut, std_lss, std_leq, std_gtr, std_geq, std_eql, std_neq, std_rowOk, std_rdI, rdD, bif_eq, ofNat_eq, List.length_map, List.getElem?_map, Option.map_some, Option.bind_some, Option.bind_none, Int.toNat_natCast, decide_eq_true_eq, Sum.elim_inl, Sum.elim_inr, if_true, if_false, decide_true, decide_false, Bool.false_eq_true, G28_ok l hl hc, h1]
  · intro v i hi ⟨hv1, hv2⟩
    left
    obtain ⟨m, hm, h2⟩ := in47_2 hl hc v hi
    refine ⟨v ++ [m], ?_, by simp [hv1], fun k b hk => ?_⟩
    · have hw := wrap_nat (i := i) (by omega)
      have h1 : (i : Int) < (hours l).length := by omega
      simp only [b47_1, need_eq, ask_eq, ret_eq, no_eq, bnd_eq, run_eq, alt_eq, std_len, std_ofNat, std_nat, std_add, std_leN, std_eqN, std_and, std_app, std_cut, std_lss, std_leq, std_gtr, std_geq, std_eql, std_neq, std_rowOk, std_rdI, rdD, bif_eq, ofNat_eq, List.length_map, List.getElem?_map, Option.map_some, Option.bind_some, Option.bind_none, Int.toNat_natCast, decide_eq_true_eq, Sum.elim_inl, Sum.elim_inr, if_true, if_false, decide_true, decide_false, Bool.false_eq_true, rowsI_length, h1, h2, encB_length, hv1, List.length_cons, List.length_nil, Nat.zero_add, Nat.le_refl, Bool.and_true, Bool.true_and, show i + 1 ≤ 1000000 by omega, List.drop_zero, List.take_of_length_le (Nat.le_of_eq ((encB_length v).trans hv1)), List.take_succ_cons, List.take_zero, List.length_append, std_ar_add, hw, encB_snoc]
    · rw [List.getElem?_append] at hk
      split at hk
      · exact hv2 k b hk
      · rename_i hge
        have : k = i := by
          cases hq : k - v.length with
          | zero => omega
          | succ n => rw [hq] at hk; simp at hk
        subst this
        rw [hv1, Nat.sub_self] at hk
        cases hk; exact hm
  · intro v ⟨hv1, hv2⟩
    refine ⟨_, ?_, v, ⟨hv1, hv2⟩, rfl⟩
    simp only [b47_1, need_eq, ask_eq, ret_eq, no_eq, bnd_eq, run_eq, alt_eq, std_len, std_ofNat, std_nat, std_add, std_leN, std_eqN, std_and, std_app, std_cut, std_lss, std_leq, std_gtr, std_geq, std_eql, std_neq, std_rowOk, std_rdI, rdD, bif_eq, ofNat_eq, List.length_map, List.getElem?_map, Option.map_some, Option.bind_some, Option.bind_none, Int.toNat_natCast, decide_eq_true_eq, Sum.elim_inl, Sum.elim_inr, if_true, if_false, decide_true, decide_false, Bool.false_eq_true, rowsI_length, Int.lt_irrefl]
end
end Go.Am
end

section
set_option linter.unusedVariables false
set_option linter.unusedSimpArgs false
set_option linter.unusedSectionVars false
namespace Go.Am
open M08
section
variable {l : List Mk} (hl : l.length ≤ 100000) (hc : ∀ m ∈ l, okMk m)
include hl hc
theorem block_of {i : Nat} (hi : i < (hours l).length) : ∃ t ∈ pairs 0 (brk l), t.1 ≤ i ∧ i < t.2 := by
  obtain ⟨c1, c2, c3⟩ := breaks_chain (W := cumW l) (S := cumS l) (cumW_mono hc)
  exact pairs_cover c1 i (Nat.zero_le _) (by rw [c2]; exact hi)
theorem next_less {v : List Blk} (hv : Values l v) {d r : List (Nat × Nat)} {p q i : Nat} (e : pairs 0 (brk l) = d ++ (p, q) :: r) (h1 : p ≤ i) (h2 : i < q) {a b : Blk} (ha : v[i]? = some a) (hb : v[i + 1]? = some b) : ltB a b = true ↔ i + 1 = q := by
  have hW := cumW_mono hc
  obtain ⟨c1, c2, c3⟩ := breaks_chain (W := cumW l) (S := cumS l) hW
  obtain ⟨k1, k2, k3, _⟩ := pairs_next c1 e
  have hin : i + 1 < (hours l).length := by rw [← hv.1]; exact (List.getElem?_eq_some_iff.1 hb).1
  have hpq : (p, q) ∈ pairs 0 (brk l) := by rw [e]; simp
  have hq : q ≤ (hours l).length := by have := (pairs_lt c1 (p, q) hpq).2.2; rw [c2] at this; exact this
  obtain ⟨a1, a2⟩ := isBest_mean hc (by omega) (hv.2 i a ha) hpq h1 h2
  have wpq := hW p q (by omega) hq
  simp only at a2
  constructor
  · intro hlt
    rcases Nat.lt_or_ge (i + 1) q with h | h
    · exfalso
      obtain ⟨b1, b2⟩ := isBest_mean hc hin (hv.2 (i + 1) b hb) hpq (by omega) h
      simp only at b2
      rw [ltB_true] at hlt
      have e1 : a.2.2.2 * b.2.2.1 * (cumW l q - cumW l p) = b.2.2.2 * a.2.2.1 * (cumW l q - cumW l p) := by grind
      have := Int.mul_lt_mul_of_pos_right hlt (show 0 < cumW l q - cumW l p by omega)
      omega
    · omega
  · intro hiq
    rw [ltB_true]
    cases r with
    | nil =>
      have := k1 rfl
      change q = (breaks _ _ _).getLastD 0 at this
      rw [c2] at this; omega
    | cons t r =>
      obtain ⟨p', q'⟩ := t
      obtain ⟨rfl, hs⟩ := k2 p' q' r rfl
      have hpq' : (p', q') ∈ pairs 0 (brk l) := by rw [e]; simp
      have hlt' := pairs_lt c1 (p', q') hpq'
      have hq' : q' ≤ (hours l).length := by have := hlt'.2.2; rw [c2] at this; exact this
      obtain ⟨b1, b2⟩ := isBest_mean hc hin (hv.2 (i + 1) b hb) hpq' (by simp only; omega) (by simp only; have := hlt'.2.1; simp only at this; omega)
      simp only at b2
      have wq := hW p' q' hlt'.2.1 hq'
      unfold Slope at hs
      exact (mean_lt_iff a1 b1 (by omega) (by omega) a2 b2).1 hs
theorem mkB_bl {p q : Nat} (h : p < q) (hq : q ≤ (hours l).length) : bl l p (q - 1) = mkB l (p, q) := by
  rw [bl_at hc (by omega) (by omega)]
  have : q - 1 + 1 = q := by omega
  rw [this]; rfl
theorem pairs_len : (pairs 0 (brk l)).length ≤ (hours l).length := by
  obtain ⟨c1, c2, c3⟩ := breaks_chain (W := cumW l) (S := cumS l) (cumW_mono hc)
  have key : ∀ {W S : Nat → Int} (bs : List Nat) (p : Nat), Chain W S p bs → (pairs p bs).length ≤ bs.getLastD p - p := by
    intro W S bs
    induction bs with
    | nil => intro p _; simp [pairs]
    | cons q r ih =>
      intro p h
      have a := ih q h.2.2.2
      have b := chain_last h.2.2.2
      have c := h.1
      rw [getLastD_cons]
      simp only [pairs, List.length_cons]; omega
  have := key (brk l) 0 c1
  change _ ≤ (breaks _ _ _).getLastD 0 - 0 at this
  rw [c2] at this; exact this
theorem G40_ok : G40 std (encM l, ()) = some (encB (pooled l), ()) := by
  have hn := hours_len l
  have hpl := pairs_len hl hc
  have hW := cumW_mono hc
  obtain ⟨c1, c2, c3⟩ := breaks_chain (W := cumW l) (S := cumS l) hW
  obtain ⟨v, hv1, hv⟩ := G47_ok hl hc
  have key := iter_count (b := b40_1 std) (hours l).length (fun (t : List Blk × Nat) i => (rowsI (hours l), encB v, encB t.1, encM l, (t.2 : Int), (i : Int), ()))
    (fun t i => ∃ d r, pairs 0 (brk l) = d ++ r ∧ t.1 = d.map (mkB l) ∧ ((i < (hours l).length ∧ ∃ q r', r = (t.2, q) :: r' ∧ t.2 ≤ i ∧ i < q) ∨ (i = (hours l).length ∧ r = []))) (fun r => r = (encB (pooled l), ())) ?_ ?_ ([], 0) 0 (Nat.zero_le _) ?_
  · obtain ⟨r, h1, rfl⟩ := key
    have h1 : iter (b40_1 std) (rowsI (hours l), encB v, [], encM l, 0, 0, ()) = some (encB (pooled l), ()) := h1
    unfold G40
    simp only [need_eq, ask_eq, ret_eq, no_eq, bnd_eq, run_eq, alt_eq, std_len, std_ofNat, std_nat, std_add, std_leN, std_eqN, std_and, std_app, std_cut, std_lss, std_leq, std_gtr, std_geq, std_eql, std_neq, std_rowOk, std_rdI, rdD, bif_eq, ofNat_eq, List.length_map, List.getElem?_map, Option.map_some, Option.bind_some, Option.bind_none, Int.toNat_natCast, decide_eq_true_eq, Sum.elim_inl, Sum.elim_inr, if_true, if_false, decide_true, decide_false, Bool.false_eq_true, G28_ok l hl hc, hv1, h1]
  · rintro ⟨out, p⟩ i hi ⟨d, r, e, ho, hcase⟩
    left
    simp only at ho hcase ⊢
    rcases hcase with ⟨_, q, r', rfl, h1, h2⟩ | ⟨h, _⟩
    · have hpq : (p, q) ∈ pairs 0 (brk l) := by rw [e]; simp
      obtain ⟨n1, n2, n3, _⟩ := pairs_next c1 e
      have hlt' := pairs_lt c1 (p, q) hpq
      have hq : q ≤ (hours l).length := by have := hlt'.2.2; rw [c2] at this; exact this
      have hw := wrap_nat (i := i) (by omega)
      have g1 : (i : Int) < (hours l).length := by omega
      have g2 : (0 : Int) ≤ i := by omega
      have g3 : (p : Int) < (hours l).length := by omega
      have g4 : (0 : Int) ≤ p := by omega
      have hd : d.length ≤ 100000 := by
        have := congrArg List.length e
        simp only [List.length_append, List.length_cons] at this; omega
      have hol : (encB out).length = d.length := by rw [encB_length, ho, List.length_map]
      have fin : i + 1 = q → G30 std (encM l, lim l p, lim l i, ()) = some ((mkB l (p, q)).1, (mkB l (p, q)).2.1, (mkB l (p, q)).2.2.1, (mkB l (p, q)).2.2.2, ()) := fun h => by
        have : i = q - 1 := by omega
        rw [this, G30_bl hl hc, mkB_bl hl hc (by omega) hq]
      by_cases hlast : i + 1 = (hours l).length
      · have hiq : i + 1 = q := by omega
        have g5 : ((i + 1 : Nat) : Int) = (hours l).length := by omega
        refine ⟨(out ++ [mkB l (p, q)], i + 1), ?_, d ++ [(p, q)], r', by rw [e]; simp, by simp [ho], .inr ⟨hlast, ?_⟩⟩
        · simp only [b40_1, need_eq, ask_eq, ret_eq, no_eq, bnd_eq, run_eq, alt_eq, std_len, std_ofNat, std_nat, std_add, std_leN, std_eqN, std_and, std_app, std_cut, std_lss, std_leq, std_gtr, std_geq, std_eql, std_neq, std_rowOk, std_rdI, rdD, bif_eq, ofNat_eq, List.length_map, List.getElem?_map, Option.map_some, Option.bind_some, Option.bind_none, Int.toNat_natCast, decide_eq_true_eq, Sum.elim_inl, Sum.elim_inr, if_true, if_false, decide_true, decide_false, Bool.false_eq_true, rowsI_length, g1, std_ar_add, hw, g5, g2, g3, g4, ge_iff_le, rowsI_get, Nat.zero_add, hours_get hi, hours_get (show p < (hours l).length by omega), cells_I, dI_I, fin hiq, hol, List.length_cons, List.length_nil, Nat.le_refl, Bool.and_true, Bool.true_and, show d.length + 1 ≤ 1000000 by omega, List.drop_zero, List.take_of_length_le (Nat.le_of_eq hol), List.take_succ_cons, List.take_zero, List.length_append, encB_snoc]
        · cases r' with
          | nil => rfl
          | cons t r' =>
            have hm : t ∈ pairs 0 (brk l) := by rw [e]; simp
            have := (pairs_lt c1 t hm)
            have h3 := (n2 t.1 t.2 r' rfl).1
            have h4 := this.2.2
            rw [c2] at h4
            omega
      · have hi1 : i + 1 < (hours l).length := by omega
        obtain ⟨a, ha⟩ := get_some (l := v) (i := i) (by rw [hv.1]; exact hi)
        obtain ⟨b, hb⟩ := get_some (l := v) (i := i + 1) (by rw [hv.1]; exact hi1)
        have hnl := next_less hl hc hv e h1 h2 ha hb
        have sa := isBest_small hl hc (hv.2 i a ha)
        have sb := isBest_small hl hc (hv.2 (i + 1) b hb)
        have g5 : ¬ ((i + 1 : Nat) : Int) = (hours l).length := by omega
        have g6 : ((i + 1 : Nat) : Int) < (hours l).length := by omega
        have g7 : (0 : Int) ≤ ((i + 1 : Nat) : Int) := by omega
        by_cases hlt : ltB a b = true
        · have hiq := hnl.1 hlt
          have hr' : ∃ q' r'', r' = (q, q') :: r'' ∧ q < q' := by
            cases r' with
            | nil =>
              have := n1 rfl
              change q = (breaks _ _ _).getLastD 0 at this
              rw [c2] at this; omega
            | cons t r'' =>
              obtain ⟨p', q'⟩ := t
              obtain ⟨rfl, _⟩ := n2 p' q' r'' rfl
              exact ⟨q', r'', rfl, (pairs_lt c1 (p', q') (show (p', q') ∈ pairs 0 (brk l) by rw [e]; simp)).2.1⟩
          obtain ⟨q', r'', rfl, hq'⟩ := hr'
          refine ⟨(out ++ [mkB l (p, q)], i + 1), ?_, d ++ [(p, q)], (q, q') :: r'', by rw [e]; simp, by simp [ho], .inl ⟨hi1, q', r'', by rw [hiq], Nat.le_refl _, by omega⟩⟩
          simp only [b40_1, need_eq, ask_eq, ret_eq, no_eq, bnd_eq, run_eq, alt_eq, std_len, std_ofNat, std_nat, std_add, std_leN, std_eqN, std_and, std_app, std_cut, std_lss, std_leq, std_gtr, std_geq, std_eql, std_neq, std_rowOk, std_rdI, rdD, bif_eq, ofNat_eq, List.length_map, List.getElem?_map, Option.map_some, Option.bind_some, Option.bind_none, Int.toNat_natCast, decide_eq_true_eq, Sum.elim_inl, Sum.elim_inr, if_true, if_false, decide_true, decide_false, Bool.false_eq_true, rowsI_length, g1, std_ar_add, hw, g5, g6, g7, g2, g3, g4, ge_iff_le, rowsI_get, Nat.zero_add, hours_get hi, hours_get (show p < (hours l).length by omega), cells_I, dI_I, fin hiq, hol, List.length_cons, List.length_nil, Nat.le_refl, Bool.and_true, Bool.true_and, show d.length + 1 ≤ 1000000 by omega, List.drop_zero, List.take_of_length_le (Nat.le_of_eq hol), List.take_succ_cons, List.take_zero, List.length_append, encB_snoc, encB_length, hv.1, encB_get, ha, hb, cells_eB, dI_eB0, dI_eB1, dI_eB2, dI_eB3, G31_ok _ _ sa sb, hlt]
        · have hlt' : ltB a b = false := by simpa using hlt
          have hne : i + 1 ≠ q := fun h => hlt (hnl.2 h)
          refine ⟨(out, p), ?_, d, (p, q) :: r', e, ho, .inl ⟨hi1, q, r', rfl, by simp only; omega, by omega⟩⟩
          simp only [b40_1, need_eq, ask_eq, ret_eq, no_eq, bnd_eq, run_eq, alt_eq, std_len, std_ofNat, std_nat, std_add, std_leN, std_eqN, std_and, std_app, std_cut, std_lss, std_leq, std_gtr, std_geq, std_eql, std_neq, std_rowOk, std_rdI, rdD, bif_eq, ofNat_eq, List.length_map, List.getElem?_map, Option.map_some, Option.bind_some, Option.bind_none, Int.toNat_natCast, decide_eq_true_eq, Sum.elim_inl, Sum.elim_inr, if_true, if_false, decide_true, decide_false, Bool.false_eq_true, rowsI_length, g1, std_ar_add, hw, g5, g6, g7, g2, g3, g4, ge_iff_le, rowsI_get, Nat.zero_add, hours_get hi, hours_get (show p < (hours l).length by omega), cells_I, dI_I, encB_length, hv.1, encB_get, ha, hb, cells_eB, dI_eB0, dI_eB1, dI_eB2, dI_eB3, G31_ok _ _ sa sb, hlt']
    · omega
  · rintro ⟨out, p⟩ ⟨d, r, e, ho, hcase⟩
    rcases hcase with ⟨h, _⟩ | ⟨_, rfl⟩
    · omega
    · refine ⟨_, ?_, rfl⟩
      simp only [List.append_nil] at e ho
      rw [pooled_eq hc, e, ← ho]
      simp only [b40_1, need_eq, ask_eq, ret_eq, no_eq, bnd_eq, run_eq, alt_eq, std_len, std_ofNat, std_nat, std_add, std_leN, std_eqN, std_and, std_app, std_cut, std_lss, std_leq, std_gtr, std_geq, std_eql, std_neq, std_rowOk, std_rdI, rdD, bif_eq, ofNat_eq, List.length_map, List.getElem?_map, Option.map_some, Option.bind_some, Option.bind_none, Int.toNat_natCast, decide_eq_true_eq, Sum.elim_inl, Sum.elim_inr, if_true, if_false, decide_true, decide_false, Bool.false_eq_true, rowsI_length, Int.lt_irrefl]
  · refine ⟨[], pairs 0 (brk l), rfl, rfl, ?_⟩
    by_cases h0 : 0 < (hours l).length
    · left
      refine ⟨h0, ?_⟩
      obtain ⟨t, ht, h1, h2⟩ := block_of hl hc h0
      cases hp : pairs 0 (brk l) with
      | nil => rw [hp] at ht; simp at ht
      | cons t' r' =>
        obtain ⟨p', q'⟩ := t'
        have := pairs_next (d := []) c1 hp
        obtain ⟨_, _, k3, k4⟩ := this
        have := k4 rfl; subst this
        exact ⟨q', r', rfl, Nat.le_refl _, k3⟩
    · right
      refine ⟨by omega, ?_⟩
      have : (pairs 0 (brk l)).length = 0 := by omega
      exact List.length_eq_zero_iff.1 this
end
end Go.Am
end

section
set_option linter.unusedVariables false
set_option linter.unusedSimpArgs false
set_option linter.unusedSectionVars false
namespace Go.Am
open M08
theorem dI_some (x : Int) : dI ((some (D.int .i64 x)).getD D.nilp) = x := rfl
def outOf (lo hi x : Int) : Bool := decide (x < lo ∨ x > hi)
theorem G54_ok (lo hi x : Int) : G54 std (lo, hi, x, ()) = some (lo, hi, outOf lo hi x, ()) := by
  unfold G54 outOf
  simp only [need_eq, ask_eq, ret_eq, no_eq, bnd_eq, run_eq, alt_eq, std_len, std_ofNat, std_nat, std_add, std_leN, std_eqN, std_and, std_app, std_cut, std_lss, std_leq, std_gtr, std_geq, std_eql, std_neq, std_rowOk, std_rdI, rdD, bif_eq, ofNat_eq, List.length_map, List.getElem?_map, Option.map_some, Option.bind_some, Option.bind_none, Int.toNat_natCast, decide_eq_true_eq, Sum.elim_inl, Sum.elim_inr, if_true, if_false, decide_true, decide_false, Bool.false_eq_true]
  by_cases h : x < lo
  · simp only [h, if_true, Option.bind_some, true_or, decide_true]
  · simp only [h, if_false, Option.bind_some, false_or]
theorem G53_ok (lo hi x : Int) : G53 std ([[.int .i64 x]], lo, hi, ()) = some ([[.int .i64 x]], lo, hi, outOf lo hi x, ()) := by
  have e1 : b58_1 std ([[.int .i64 x]], lo, hi, 1, 0, ()) = if outOf lo hi x = true then some (Sum.inr (Sum.inl ([[.int .i64 x]], lo, hi, 0, ()))) else some (Sum.inl ([[.int .i64 x]], lo, hi, 1, 1, ())) := by
    simp only [b58_1, need_eq, ask_eq, ret_eq, no_eq, bnd_eq, run_eq, alt_eq, std_len, std_ofNat, std_nat, std_add, std_leN, std_eqN, std_and, std_app, std_cut, std_lss, std_leq, std_gtr, std_geq, std_eql, std_neq, std_rowOk, std_rdI, rdD, bif_eq, ofNat_eq, List.length_map, List.getElem?_map, Option.map_some, Option.bind_some, Option.bind_none, Int.toNat_natCast, decide_eq_true_eq, Sum.elim_inl, Sum.elim_inr, if_true, if_false, decide_true, decide_false, Bool.false_eq_true, show (0 : Int) < 1 by omega, ge_iff_le, Int.le_refl, List.length_cons, List.length_nil, Nat.zero_add, show (0 : Int) < ((1 : Nat) : Int) by omega, Int.toNat_zero, List.getElem?_cons_zero, cells_I, dI_I, dI_some, G54_ok, std_ar_add, show IntKind.i64.wrap (0 + 1) = 1 from rfl]
  have e2 : b58_1 std ([[.int .i64 x]], lo, hi, 1, 1, ()) = some (Sum.inr (Sum.inr ([[.int .i64 x]], lo, hi, ()))) := by
    simp only [b58_1, need_eq, ask_eq, ret_eq, no_eq, bnd_eq, run_eq, alt_eq, std_len, std_ofNat, std_nat, std_add, std_leN, std_eqN, std_and, std_app, std_cut, std_lss, std_leq, std_gtr, std_geq, std_eql, std_neq, std_rowOk, std_rdI, rdD, bif_eq, ofNat_eq, List.length_map, List.getElem?_map, Option.map_some, Option.bind_some, Option.bind_none, Int.toNat_natCast, decide_eq_true_eq, Sum.elim_inl, Sum.elim_inr, if_true, if_false, decide_true, decide_false, Bool.false_eq_true, Int.lt_irrefl]
  have e3 : iter (b58_1 std) ([[.int .i64 x]], lo, hi, 1, 0, ()) = if outOf lo hi x = true then some (Sum.inl ([[.int .i64 x]], lo, hi, 0, ())) else some (Sum.inr ([[.int .i64 x]], lo, hi, ())) := by
    rw [iter_unfold, e1]
    cases outOf lo hi x with
    | true => rfl
    | false =>
      simp only [Bool.false_eq_true, if_false]
      rw [iter_unfold, e2]
  unfold G53 G58
  simp only [need_eq, ask_eq, ret_eq, no_eq, bnd_eq, run_eq, alt_eq, std_len, std_ofNat, std_nat, std_add, std_leN, std_eqN, std_and, std_app, std_cut, std_lss, std_leq, std_gtr, std_geq, std_eql, std_neq, std_rowOk, std_rdI, rdD, bif_eq, ofNat_eq, List.length_map, List.getElem?_map, Option.map_some, Option.bind_some, Option.bind_none, Int.toNat_natCast, decide_eq_true_eq, Sum.elim_inl, Sum.elim_inr, if_true, if_false, decide_true, decide_false, Bool.false_eq_true, List.length_cons, List.length_nil, Nat.zero_add, show ((1 : Nat) : Int) = 1 from rfl, e3]
  cases outOf lo hi x with
  | true => simp only [if_true, need_eq, ask_eq, ret_eq, no_eq, bnd_eq, run_eq, alt_eq, std_len, std_ofNat, std_nat, std_add, std_leN, std_eqN, std_and, std_app, std_cut, std_lss, std_leq, std_gtr, std_geq, std_eql, std_neq, std_rowOk, std_rdI, rdD, bif_eq, ofNat_eq, List.length_map, List.getElem?_map, Option.map_some, Option.bind_some, Option.bind_none, Int.toNat_natCast, decide_eq_true_eq, Sum.elim_inl, Sum.elim_inr, if_true, if_false, decide_true, decide_false, Bool.false_eq_true, ge_iff_le, Int.le_refl]
  | false => simp only [if_false, need_eq, ask_eq, ret_eq, no_eq, bnd_eq, run_eq, alt_eq, std_len, std_ofNat, std_nat, std_add, std_leN, std_eqN, std_and, std_app, std_cut, std_lss, std_leq, std_gtr, std_geq, std_eql, std_neq, std_rowOk, std_rdI, rdD, bif_eq, ofNat_eq, List.length_map, List.getElem?_map, Option.map_some, Option.bind_some, Option.bind_none, Int.toNat_natCast, decide_eq_true_eq, Sum.elim_inl, Sum.elim_inr, if_true, if_false, decide_true, decide_false, Bool.false_eq_true, ge_iff_le, show ¬ (0 : Int) ≤ -1 by omega]
theorem G16_ok (l : List Mk) : G16 std (encM l, ()) = some (chk l, ()) := by
  unfold G16
  by_cases h1 : l.length < 1
  · simp only [need_eq, ask_eq, ret_eq, no_eq, bnd_eq, run_eq, alt_eq, std_len, std_ofNat, std_nat, std_add, std_leN, std_eqN, std_and, std_app, std_cut, std_lss, std_leq, std_gtr, std_geq, std_eql, std_neq, std_rowOk, std_rdI, rdD, bif_eq, ofNat_eq, List.length_map, List.getElem?_map, Option.map_some, Option.bind_some, Option.bind_none, Int.toNat_natCast, decide_eq_true_eq, Sum.elim_inl, Sum.elim_inr, if_true, if_false, decide_true, decide_false, Bool.false_eq_true, encM, chk, h1, true_or, show (l.length : Int) = 0 by omega]
  by_cases h2 : 24 < l.length
  · simp only [need_eq, ask_eq, ret_eq, no_eq, bnd_eq, run_eq, alt_eq, std_len, std_ofNat, std_nat, std_add, std_leN, std_eqN, std_and, std_app, std_cut, std_lss, std_leq, std_gtr, std_geq, std_eql, std_neq, std_rowOk, std_rdI, rdD, bif_eq, ofNat_eq, List.length_map, List.getElem?_map, Option.map_some, Option.bind_some, Option.bind_none, Int.toNat_natCast, decide_eq_true_eq, Sum.elim_inl, Sum.elim_inr, if_true, if_false, decide_true, decide_false, Bool.false_eq_true, encM, chk, h1, h2, false_or, show ¬ (l.length : Int) = 0 by omega, show (l.length : Int) > 24 by omega]
  have hl : ∃ r, iter (b16_1 std) (encM l, ((l.length : Nat) : Int), ((0 : Nat) : Int), ()) = some r ∧ ((r = Sum.inl (2, ()) ∧ ¬ ∀ m ∈ l, okMk m) ∨ (r = Sum.inr () ∧ ∀ m ∈ l, okMk m)) := by
    refine iter_count l.length (fun (_ : Unit) i => (encM l, ((l.length : Nat) : Int), (i : Int), ())) (fun _ i => ∀ (j : Nat) (m : Mk), j < i → l[j]? = some m → okMk m) _ ?_ ?_ () 0 (Nat.zero_le _) (fun j m h => by omega)
    · intro _ i hi hI
      obtain ⟨m, hm⟩ := get_some hi
      have hw := wrap_nat (i := i) (by omega)
      have hmem := List.mem_of_getElem? hm
      have hlt : (i : Int) < l.length := by omega
      have h0 : (0 : Int) ≤ i := by omega
      have hbody : b16_1 std (encM l, ((l.length : Nat) : Int), (i : Int), ()) = if (outOf 1 10000 m.1 || outOf 0 100 m.2.1 || outOf 1 20 m.2.2) = true then some (Sum.inr (Sum.inl (2, ()))) else some (Sum.inl (encM l, ((l.length : Nat) : Int), ((i + 1 : Nat) : Int), ())) := by
        simp only [b16_1, need_eq, ask_eq, ret_eq, no_eq, bnd_eq, run_eq, alt_eq, std_len, std_ofNat, std_nat, std_add, std_leN, std_eqN, std_and, std_app, std_cut, std_lss, std_leq, std_gtr, std_geq, std_eql, std_neq, std_rowOk, std_rdI, rdD, bif_eq, ofNat_eq, List.length_map, List.getElem?_map, Option.map_some, Option.bind_some, Option.bind_none, Int.toNat_natCast, decide_eq_true_eq, Sum.elim_inl, Sum.elim_inr, if_true, if_false, decide_true, decide_false, Bool.false_eq_true, encM, cells_eM, dI_eM0, dI_eM1, dI_eM2, hm, hlt, h0, ge_iff_le, std_ar_add, hw, G53_ok, List.length_cons, List.length_nil, Nat.zero_add]
        cases outOf 1 10000 m.1 <;> cases outOf 0 100 m.2.1 <;> cases outOf 1 20 m.2.2 <;> simp only [need_eq, ask_eq, ret_eq, no_eq, bnd_eq, run_eq, alt_eq, std_len, std_ofNat, std_nat, std_add, std_leN, std_eqN, std_and, std_app, std_cut, std_lss, std_leq, std_gtr, std_geq, std_eql, std_neq, std_rowOk, std_rdI, rdD, bif_eq, ofNat_eq, List.length_map, List.getElem?_map, Option.map_some, Option.bind_some, Option.bind_none, Int.toNat_natCast, decide_eq_true_eq, Sum.elim_inl, Sum.elim_inr, if_true, if_false, decide_true, decide_false, Bool.false_eq_true, hw, Bool.or_true, Bool.or_false, Bool.true_or, Bool.false_or]
      have hiff : (outOf 1 10000 m.1 || outOf 0 100 m.2.1 || outOf 1 20 m.2.2) = false ↔ okMk m := by
        simp only [outOf, okMk, Bool.or_eq_false_iff, decide_eq_false_iff_not]
        omega
      by_cases hok : okMk m
      · left
        refine ⟨(), by rw [hbody, hiff.2 hok]; rfl, fun j m' hj hm' => ?_⟩
        rcases Nat.lt_or_ge j i with h | h
        · exact hI j m' h hm'
        · have : j = i := by omega
          subst this; rw [hm] at hm'; cases hm'; exact hok
      · right
        refine ⟨Sum.inl (2, ()), ?_, .inl ⟨rfl, fun h => hok (h m hmem)⟩⟩
        rw [hbody, if_pos]
        exact (Bool.eq_false_or_eq_true _).resolve_right fun h => hok (hiff.1 h)
    · intro _ hI
      refine ⟨Sum.inr (), by simp only [b16_1, need_eq, ask_eq, ret_eq, no_eq, bnd_eq, run_eq, alt_eq, std_len, std_ofNat, std_nat, std_add, std_leN, std_eqN, std_and, std_app, std_cut, std_lss, std_leq, std_gtr, std_geq, std_eql, std_neq, std_rowOk, std_rdI, rdD, bif_eq, ofNat_eq, List.length_map, List.getElem?_map, Option.map_some, Option.bind_some, Option.bind_none, Int.toNat_natCast, decide_eq_true_eq, Sum.elim_inl, Sum.elim_inr, if_true, if_false, decide_true, decide_false, Bool.false_eq_true, encM, Int.lt_irrefl], .inr ⟨rfl, fun m hm => ?_⟩⟩
      obtain ⟨j, hj⟩ := List.getElem?_of_mem hm
      exact hI j m (List.getElem?_eq_some_iff.1 hj).1 hj
  obtain ⟨r, hr, hq⟩ := hl
  have hr : iter (b16_1 std) (encM l, ((l.length : Nat) : Int), 0, ()) = some r := hr
  have hel : (encM l).length = l.length := by simp [encM]
  simp only [need_eq, ask_eq, ret_eq, no_eq, bnd_eq, run_eq, alt_eq, std_len, std_ofNat, std_nat, std_add, std_leN, std_eqN, std_and, std_app, std_cut, std_lss, std_leq, std_gtr, std_geq, std_eql, std_neq, std_rowOk, std_rdI, rdD, bif_eq, ofNat_eq, List.length_map, List.getElem?_map, Option.map_some, Option.bind_some, Option.bind_none, Int.toNat_natCast, decide_eq_true_eq, Sum.elim_inl, Sum.elim_inr, if_true, if_false, decide_true, decide_false, Bool.false_eq_true, hel, hr, chk, h1, h2, false_or, show ¬ (l.length : Int) = 0 by omega, show ¬ (l.length : Int) > 24 by omega]
  rcases hq with ⟨rfl, hq⟩ | ⟨rfl, hq⟩
  · simp only [need_eq, ask_eq, ret_eq, no_eq, bnd_eq, run_eq, alt_eq, std_len, std_ofNat, std_nat, std_add, std_leN, std_eqN, std_and, std_app, std_cut, std_lss, std_leq, std_gtr, std_geq, std_eql, std_neq, std_rowOk, std_rdI, rdD, bif_eq, ofNat_eq, List.length_map, List.getElem?_map, Option.map_some, Option.bind_some, Option.bind_none, Int.toNat_natCast, decide_eq_true_eq, Sum.elim_inl, Sum.elim_inr, if_true, if_false, decide_true, decide_false, Bool.false_eq_true, if_neg hq]
  · simp only [need_eq, ask_eq, ret_eq, no_eq, bnd_eq, run_eq, alt_eq, std_len, std_ofNat, std_nat, std_add, std_leN, std_eqN, std_and, std_app, std_cut, std_lss, std_leq, std_gtr, std_geq, std_eql, std_neq, std_rowOk, std_rdI, rdD, bif_eq, ofNat_eq, List.length_map, List.getElem?_map, Option.map_some, Option.bind_some, Option.bind_none, Int.toNat_natCast, decide_eq_true_eq, Sum.elim_inl, Sum.elim_inr, if_true, if_false, decide_true, decide_false, Bool.false_eq_true, if_pos hq]
def eS (v : Int × Int) : D := .agg [.int .i64 v.1, .int .i64 v.2]
def ES : MEnc Int (Int × Int) := ⟨fun k => .int .i64 k, eS, [.i], false, true, [.int .i64, .int .i64]⟩
theorem ES_ok : ES.Ok where
  agg := fun _ => rfl
  kinds := fun _ => rfl
  eq := fun a b => by
    show (bif IntKind.i64 == IntKind.i64 then (some (stdCmp .eql a b && true)) else none) = _
    rw [Bool.and_true]; rfl
  vagg := fun _ => rfl
  vok := fun _ => rfl
def sumsAt (l : List Mk) (h : Int) : Int × Int := (sumP fw (fun x => decide (x = h)) l, sumP fs (fun x => decide (x = h)) l)
def SMap (l : List Mk) (m : List (Int × (Int × Int))) : Prop := (m.map (·.1)).Nodup ∧ ∀ h, aVal m h = if ∃ k ∈ l, k.1 = h then some (sumsAt l h) else none
theorem sumsAt_snoc (l : List Mk) (k : Mk) (h : Int) : sumsAt (l ++ [k]) h = if k.1 = h then ((sumsAt l h).1 + k.2.2, (sumsAt l h).2 + k.2.1 * k.2.2) else sumsAt l h := by
  unfold sumsAt
  simp only [sumP_append, sumP, Int.add_zero, decide_eq_true_eq, fw, fs]
  split <;> simp
theorem sumP_none {f : Mk → Int} {c : Int → Bool} {l : List Mk} (h : ∀ m ∈ l, c m.1 = false) : sumP f c l = 0 := by
  induction l with
  | nil => rfl
  | cons m l ih => simp only [sumP, h m (by simp), ih fun m hm => h m (by simp [hm])]; simp
theorem SMap.snoc {l : List Mk} {m : List (Int × (Int × Int))} (hm : SMap l m) (k : Mk) : SMap (l ++ [k]) (aPut m k.1 (((aVal m k.1).getD (0, 0)).1 + k.2.2, ((aVal m k.1).getD (0, 0)).2 + k.2.1 * k.2.2)) := by
  refine ⟨aPut_nodup hm.1 _ _, fun h => ?_⟩
  rw [aVal_put, hm.2 h, hm.2 k.1]
  have he : (∃ x ∈ l ++ [k], x.1 = h) ↔ (∃ x ∈ l, x.1 = h) ∨ k.1 = h := by
    constructor
    · rintro ⟨x, hx, e⟩
      rcases List.mem_append.1 hx with hx | hx
      · exact .inl ⟨x, hx, e⟩
      · simp only [List.mem_singleton] at hx; subst hx; exact .inr e
    · rintro (⟨x, hx, e⟩ | e)
      · exact ⟨x, by simp [hx], e⟩
      · exact ⟨k, by simp, e⟩
  have hz : (if ∃ x ∈ l, x.1 = k.1 then some (sumsAt l k.1) else none).getD (0, 0) = sumsAt l k.1 := by
    split
    · rfl
    · rename_i hn
      have hno : ∀ m ∈ l, decide (m.1 = k.1) = false := fun m hm => decide_eq_false fun e => hn ⟨m, hm, e⟩
      show ((0 : Int), (0 : Int)) = sumsAt l k.1
      unfold sumsAt
      rw [sumP_none hno, sumP_none hno]
  rw [hz, sumsAt_snoc]
  by_cases e : h = k.1
  · subst e
    rw [if_pos rfl, if_pos (he.2 (.inr rfl)), if_pos rfl]
  · rw [if_neg e]
    by_cases e2 : ∃ x ∈ l, x.1 = h
    · rw [if_pos e2, if_pos (he.2 (.inl e2)), if_neg (fun h => e h.symm)]
    · rw [if_neg e2, if_neg]
      rintro h3
      rcases he.1 h3 with h4 | h4
      · exact e2 h4
      · exact e h4.symm
section
variable {l : List Mk} (hl : l.length ≤ 100000) (hc : ∀ m ∈ l, okMk m)
include hl hc
theorem sumsAt_small (i : Nat) (h : Int) : 0 ≤ (sumsAt (l.take i) h).1 ∧ (sumsAt (l.take i) h).1 ≤ 2000000 ∧ 0 ≤ (sumsAt (l.take i) h).2 ∧ (sumsAt (l.take i) h).2 ≤ 200000000 := by
  have hsub : ∀ m ∈ l.take i, okMk m := fun m hm => hc m (List.mem_of_mem_take hm)
  have w0 := sumP_nonneg (f := fw) (c := fun x => decide (x = h)) (l := l.take i) fun m hm => by have := (okMk_fw (hsub m hm)).1; omega
  have w1 := sumP_le (f := fw) (c := fun x => decide (x = h)) (l := l.take i) (k := 20) fun m hm => by have := okMk_fw (hsub m hm); omega
  have s0 := sumP_nonneg (f := fs) (c := fun x => decide (x = h)) (l := l.take i) fun m hm => (okMk_fs (hsub m hm)).1
  have s1 := sumP_le (f := fs) (c := fun x => decide (x = h)) (l := l.take i) (k := 2000) fun m hm => okMk_fs (hsub m hm)
  have hlen : (l.take i).length ≤ 100000 := by rw [List.length_take]; omega
  unfold sumsAt
  refine ⟨w0, ?_, s0, ?_⟩ <;> simp only <;> omega
theorem in43_1 : ∃ m, SMap l m ∧ iter (b43_1 std) ([], encM l, ((l.length : Nat) : Int), 0, ()) = some (ES.enc m, ()) := by
  have key := iter_count (b := b43_1 std) l.length (fun (m : List (Int × (Int × Int))) i => (ES.enc m, encM l, ((l.length : Nat) : Int), (i : Int), ())) (fun m i => SMap (l.take i) m) (fun r => ∃ m, SMap l m ∧ r = (ES.enc m, ())) ?_ ?_ [] 0 (Nat.zero_le _) ⟨by simp, fun h => by simp [aVal]⟩
  · obtain ⟨r, h1, m, h2, rfl⟩ := key
    exact ⟨m, h2, h1⟩
  · intro m i hi hm
    left
    obtain ⟨k, hk⟩ := get_some hi
    have hw := wrap_nat (i := i) (by omega)
    have hlt : (i : Int) < l.length := by omega
    have h0 : (0 : Int) ≤ i := by omega
    have hok := hc k (List.mem_of_getElem? hk)
    have f1 := okMk_fw hok
    have f2 := okMk_fs hok
    unfold fw at f1
    unfold fs at f2
    have hs := sumsAt_small hl hc i k.1
    have htk : l.take (i + 1) = l.take i ++ [k] := by
      obtain ⟨h1, rfl⟩ := List.getElem?_eq_some_iff.1 hk
      exact List.take_succ_eq_append_getElem h1
    refine ⟨aPut m k.1 (((aVal m k.1).getD (0, 0)).1 + k.2.2, ((aVal m k.1).getD (0, 0)).2 + k.2.1 * k.2.2), ?_, by rw [htk]; exact hm.snoc k⟩
    have q2 : IntKind.i64.wrap (k.2.1 * k.2.2) = k.2.1 * k.2.2 := wrap64 _ (by omega) (by omega)
    have mok := mOk_enc ES_ok m k.1
    have mhas := mhas_enc ES_ok m k.1
    have c0 : (0 : Int) < ((2 : Nat) : Int) := by omega
    have c1 : (1 : Int) < ((2 : Nat) : Int) := by omega
    have c2 : (0 : Int) ≤ 1 := by omega
    change std.mOk (ES.enc m) [SK.i] false (.int .i64 k.1) true [.int .i64, .int .i64] = true at mok
    change std.mhas (ES.enc m) [SK.i] false (.int .i64 k.1) = (aVal m k.1).isSome at mhas
    have hmv := hm.2 k.1
    cases hv : aVal m k.1 with
    | some v =>
      rw [hv] at hmv mhas
      have hv' : v = sumsAt (l.take i) k.1 := by
        split at hmv
        · exact Option.some.inj hmv
        · cases hmv
      have m0 := mI_enc ES_ok m k.1 0 hv
      have m1 := mI_enc ES_ok m k.1 1 hv
      change std.mI (ES.enc m) [SK.i] false (.int .i64 k.1) 0 = v.1 at m0
      change std.mI (ES.enc m) [SK.i] false (.int .i64 k.1) 1 = v.2 at m1
      rw [← hv'] at hs
      have q1 : IntKind.i64.wrap (v.1 + k.2.2) = v.1 + k.2.2 := wrap64 _ (by omega) (by omega)
      have q3 : IntKind.i64.wrap (v.2 + k.2.1 * k.2.2) = v.2 + k.2.1 * k.2.2 := wrap64 _ (by omega) (by omega)
      have ms := mset_enc ES_ok m k.1 hv (v.1 + k.2.2, v.2 + k.2.1 * k.2.2)
      change std.mset (ES.enc m) (std.nat (std.ofNat (std.mpos (ES.enc m) [SK.i] false (.int .i64 k.1)))) (.int .i64 k.1) (.agg [.int .i64 (v.1 + k.2.2), .int .i64 (v.2 + k.2.1 * k.2.2)]) = _ at ms
      simp only [std_nat, std_ofNat, Int.toNat_natCast] at ms
      simp only [b43_1, need_eq, ask_eq, ret_eq, no_eq, bnd_eq, run_eq, alt_eq, std_len, std_ofNat, std_nat, std_add, std_leN, std_eqN, std_and, std_app, std_cut, std_lss, std_leq, std_gtr, std_geq, std_eql, std_neq, std_rowOk, std_rdI, rdD, bif_eq, ofNat_eq, List.length_map, List.getElem?_map, Option.map_some, Option.bind_some, Option.bind_none, Int.toNat_natCast, decide_eq_true_eq, Sum.elim_inl, Sum.elim_inr, if_true, if_false, decide_true, decide_false, Bool.false_eq_true, encM, cells_eM, dI_eM0, dI_eM1, dI_eM2, hk, hlt, h0, ge_iff_le, mok, mhas, Option.isSome_some, m0, m1, std_ar_add, std_ar_mul, q1, q2, q3, hw, c0, c1, c2, Int.le_refl, ms, Option.getD_some]
    | none =>
      rw [hv] at mhas
      have q1 : IntKind.i64.wrap (0 + k.2.2) = 0 + k.2.2 := wrap64 _ (by omega) (by omega)
      have q3 : IntKind.i64.wrap (0 + k.2.1 * k.2.2) = 0 + k.2.1 * k.2.2 := wrap64 _ (by omega) (by omega)
      have ms := madd_enc ES_ok m k.1 hv (0 + k.2.2, 0 + k.2.1 * k.2.2)
      change std.madd (ES.enc m) (.int .i64 k.1) (.agg [.int .i64 (0 + k.2.2), .int .i64 (0 + k.2.1 * k.2.2)]) = _ at ms
      simp only [b43_1, need_eq, ask_eq, ret_eq, no_eq, bnd_eq, run_eq, alt_eq, std_len, std_ofNat, std_nat, std_add, std_leN, std_eqN, std_and, std_app, std_cut, std_lss, std_leq, std_gtr, std_geq, std_eql, std_neq, std_rowOk, std_rdI, rdD, bif_eq, ofNat_eq, List.length_map, List.getElem?_map, Option.map_some, Option.bind_some, Option.bind_none, Int.toNat_natCast, decide_eq_true_eq, Sum.elim_inl, Sum.elim_inr, if_true, if_false, decide_true, decide_false, Bool.false_eq_true, encM, cells_eM, dI_eM0, dI_eM1, dI_eM2, hk, hlt, h0, ge_iff_le, mok, mhas, Option.isSome_none, std_ar_add, std_ar_mul, q1, q2, q3, hw, c0, c1, c2, Int.le_refl, ms, Option.getD_none]
  · intro m hm
    rw [List.take_length] at hm
    refine ⟨_, ?_, m, hm, rfl⟩
    simp only [b43_1, need_eq, ask_eq, ret_eq, no_eq, bnd_eq, run_eq, alt_eq, std_len, std_ofNat, std_nat, std_add, std_leN, std_eqN, std_and, std_app, std_cut, std_lss, std_leq, std_gtr, std_geq, std_eql, std_neq, std_rowOk, std_rdI, rdD, bif_eq, ofNat_eq, List.length_map, List.getElem?_map, Option.map_some, Option.bind_some, Option.bind_none, Int.toNat_natCast, decide_eq_true_eq, Sum.elim_inl, Sum.elim_inr, if_true, if_false, decide_true, decide_false, Bool.false_eq_true, Int.lt_irrefl]
theorem keys_of {m : List (Int × (Int × Int))} (hm : SMap l m) : keysGood (ES.enc m) = true ∧ isort (keysI (ES.enc m)) = hours l := by
  have hk : keysI (ES.enc m) = m.map (·.1) := by
    unfold keysI MEnc.enc
    rw [List.map_map]; rfl
  have hmem : ∀ x, x ∈ m.map (·.1) ↔ x ∈ hours l := fun x => by
    rw [← aVal_some, mem_hours, hm.2 x]
    constructor
    · rintro ⟨v, h⟩
      split at h
      · rename_i h'; exact h'
      · cases h
    · intro h'; exact ⟨_, if_pos h'⟩
  have hnd : (hours l).Nodup := (hours_sorted l).imp fun h => by omega
  have hperm : (hours l).Perm (m.map (·.1)) := (List.perm_ext_iff_of_nodup hnd hm.1).2 fun x => (hmem x).symm
  refine ⟨?_, ?_⟩
  · unfold keysGood
    rw [hk, Bool.and_eq_true, Bool.and_eq_true]
    refine ⟨?_, ?_, distinct_iff.2 hm.1⟩
    · have h1 := hperm.length_eq
      have h2 := hours_len l
      rw [List.length_map] at h1
      exact Nat.ble_eq_true_of_le (by unfold MEnc.enc; rw [List.length_map]; omega)
    · rw [List.all_eq_true]
      intro e he
      unfold MEnc.enc at he
      obtain ⟨x, hx, rfl⟩ := List.mem_map.1 he
      have hr := hour_range hc ((hmem x.1).1 (List.mem_map.2 ⟨x, hx, rfl⟩))
      show (Lit.int .i64 x.1).wf = true
      simp only [Lit.wf, IntKind.min, IntKind.max, IntKind.signed, IntKind.bits]
      simp
      omega
  · rw [hk]
    exact (isort_unique hperm ((hours_sorted l).imp fun h => Int.le_of_lt h)).symm
theorem blk_one {h : Int} : blk l h h = (h, h, (sumsAt l h).1, (sumsAt l h).2) := by
  have e : ∀ f : Mk → Int, sumP f (fun x => decide (h ≤ x) && decide (x ≤ h)) l = sumP f (fun x => decide (x = h)) l := fun f => sumP_congr fun m _ => by
    rw [Bool.eq_iff_iff]; simp; omega
  unfold blk sumsAt
  rw [e, e]
theorem in43_2 {m : List (Int × (Int × Int))} (hm : SMap l m) : iter (b43_2 std) (ES.enc m, rowsI (hours l), [], (((hours l).length : Nat) : Int), 0, ()) = some (encB (singles l), ()) := by
  have hn := hours_len l
  have key := iter_count (b := b43_2 std) (hours l).length (fun (m : List (Int × (Int × Int))) i => (ES.enc m, rowsI (hours l), encB ((singles l).take i), (((hours l).length : Nat) : Int), (i : Int), ()))
    (fun m' i => (m'.map (·.1)).Nodup ∧ ∀ h, aVal m' h = if h ∈ (hours l).take i then none else aVal m h) (fun r => r = (encB (singles l), ())) ?_ ?_ m 0 (Nat.zero_le _) ⟨hm.1, fun h => by simp⟩
  · obtain ⟨r, h1, rfl⟩ := key
    exact h1
  · rintro m' i hi ⟨hnd, hv⟩
    left
    have e := hours_get hi
    have hmem : lim l i ∈ hours l := List.mem_of_getElem? e
    have hw := wrap_nat (i := i) (by omega)
    have h1 : (i : Int) < (hours l).length := by omega
    have h2 : (0 : Int) ≤ i := by omega
    have hnot : lim l i ∉ (hours l).take i := by
      intro hin
      obtain ⟨j, hj⟩ := List.getElem?_of_mem hin
      have hj' : j < i := by
        have := (List.getElem?_eq_some_iff.1 hj).1
        simp at this; omega
      rw [List.getElem?_take_of_lt hj'] at hj
      have := get_lt hj e hj'
      omega
    have hval : aVal m' (lim l i) = some (sumsAt l (lim l i)) := by
      rw [hv, if_neg hnot, hm.2, if_pos]
      obtain ⟨k, a, b⟩ := mem_hours.1 hmem
      exact ⟨k, a, b⟩
    have mok := mOk_enc ES_ok m' (lim l i)
    have mhas := mhas_enc ES_ok m' (lim l i)
    rw [hval] at mhas
    have m0 := mI_enc ES_ok m' (lim l i) 0 hval
    have m1 := mI_enc ES_ok m' (lim l i) 1 hval
    have md := mdel_enc ES_ok m' (lim l i) hval
    change std.mOk (ES.enc m') [SK.i] false (.int .i64 (lim l i)) true [.int .i64, .int .i64] = true at mok
    change std.mhas (ES.enc m') [SK.i] false (.int .i64 (lim l i)) = true at mhas
    change std.mI (ES.enc m') [SK.i] false (.int .i64 (lim l i)) 0 = (sumsAt l (lim l i)).1 at m0
    change std.mI (ES.enc m') [SK.i] false (.int .i64 (lim l i)) 1 = (sumsAt l (lim l i)).2 at m1
    change std.mdel (ES.enc m') (std.nat (std.ofNat (std.mpos (ES.enc m') [SK.i] false (.int .i64 (lim l i))))) = _ at md
    simp only [std_nat, std_ofNat, Int.toNat_natCast] at md
    have c0 : (0 : Int) < ((2 : Nat) : Int) := by omega
    have c1 : (1 : Int) < ((2 : Nat) : Int) := by omega
    have c2 : (0 : Int) ≤ 1 := by omega
    have hsl : (singles l).length = (hours l).length := by simp [singles]
    have hol : (encB ((singles l).take i)).length = i := by rw [encB_length, List.length_take]; omega
    have hsi : (singles l)[i]? = some (lim l i, lim l i, (sumsAt l (lim l i)).1, (sumsAt l (lim l i)).2) := by
      unfold singles
      rw [List.getElem?_map, e, Option.map_some, blk_one hl hc]
    have htk : (singles l).take (i + 1) = (singles l).take i ++ [(lim l i, lim l i, (sumsAt l (lim l i)).1, (sumsAt l (lim l i)).2)] := by
      obtain ⟨h1, h2⟩ := List.getElem?_eq_some_iff.1 hsi
      rw [List.take_succ_eq_append_getElem h1, h2]
    refine ⟨aDel m' (lim l i), ?_, hnd.sublist (aDel_sub _ _), fun h => ?_⟩
    · rw [htk, ← encB_snoc]
      simp only [b43_2, need_eq, ask_eq, ret_eq, no_eq, bnd_eq, run_eq, alt_eq, std_len, std_ofNat, std_nat, std_add, std_leN, std_eqN, std_and, std_app, std_cut, std_lss, std_leq, std_gtr, std_geq, std_eql, std_neq, std_rowOk, std_rdI, rdD, bif_eq, ofNat_eq, List.length_map, List.getElem?_map, Option.map_some, Option.bind_some, Option.bind_none, Int.toNat_natCast, decide_eq_true_eq, Sum.elim_inl, Sum.elim_inr, if_true, if_false, decide_true, decide_false, Bool.false_eq_true, rowsI_length, rowsI_get, Nat.zero_add, e, cells_I, dI_I, h1, h2, ge_iff_le, mok, mhas, m0, m1, md, c0, c1, c2, Int.le_refl, hol, List.length_cons, List.length_nil, Nat.le_refl, Bool.and_true, Bool.true_and, show i + 1 ≤ 1000000 by omega, List.drop_zero, List.take_of_length_le (Nat.le_of_eq hol), List.take_succ_cons, List.take_zero, List.length_append, std_ar_add, hw]
    · rw [aVal_del _ hnd, hv]
      obtain ⟨g1, g2⟩ := List.getElem?_eq_some_iff.1 e
      rw [List.take_succ_eq_append_getElem g1, g2]
      by_cases hx : h = lim l i
      · simp [hx]
      · simp [hx]
  · rintro m' ⟨_, _⟩
    refine ⟨_, ?_, rfl⟩
    have : (singles l).take (hours l).length = singles l := by
      rw [List.take_of_length_le]; simp [singles]
    simp only [b43_2, need_eq, ask_eq, ret_eq, no_eq, bnd_eq, run_eq, alt_eq, std_len, std_ofNat, std_nat, std_add, std_leN, std_eqN, std_and, std_app, std_cut, std_lss, std_leq, std_gtr, std_geq, std_eql, std_neq, std_rowOk, std_rdI, rdD, bif_eq, ofNat_eq, List.length_map, List.getElem?_map, Option.map_some, Option.bind_some, Option.bind_none, Int.toNat_natCast, decide_eq_true_eq, Sum.elim_inl, Sum.elim_inr, if_true, if_false, decide_true, decide_false, Bool.false_eq_true, Int.lt_irrefl, this]
theorem G43_ok : G43 std (encM l, ()) = some (encB (singles l), ()) := by
  obtain ⟨m, hm, h1⟩ := in43_1 hl hc
  obtain ⟨k1, k2⟩ := keys_of hl hc hm
  have h2 := in43_2 hl hc hm
  have hel : (encM l).length = l.length := by simp [encM]
  unfold G43
  simp only [need_eq, ask_eq, ret_eq, no_eq, bnd_eq, run_eq, alt_eq, std_len, std_ofNat, std_nat, std_add, std_leN, std_eqN, std_and, std_app, std_cut, std_lss, std_leq, std_gtr, std_geq, std_eql, std_neq, std_rowOk, std_rdI, rdD, bif_eq, ofNat_eq, List.length_map, List.getElem?_map, Option.map_some, Option.bind_some, Option.bind_none, Int.toNat_natCast, decide_eq_true_eq, Sum.elim_inl, Sum.elim_inr, if_true, if_false, decide_true, decide_false, Bool.false_eq_true, hel, h1, G55, k1, k2, rowsI_length, h2]
end
end Go.Am
end

section
set_option linter.unusedVariables false
set_option linter.unusedSimpArgs false
set_option linter.unusedSectionVars false
namespace Go.Am
open M08
def tw : List Blk → Int
  | [] => 0
  | b :: l => b.2.2.1 + tw l
def ts : List Blk → Int
  | [] => 0
  | b :: l => b.2.2.2 + ts l
def nn (l : List Blk) : Prop := ∀ b ∈ l, 0 ≤ b.2.2.1 ∧ 0 ≤ b.2.2.2
theorem tw_append (l l' : List Blk) : tw (l ++ l') = tw l + tw l' := by
  induction l with
  | nil => simp [tw]
  | cons b l ih => simp only [List.cons_append, tw, ih]; omega
theorem ts_append (l l' : List Blk) : ts (l ++ l') = ts l + ts l' := by
  induction l with
  | nil => simp [ts]
  | cons b l ih => simp only [List.cons_append, ts, ih]; omega
theorem tw_reverse (l : List Blk) : tw l.reverse = tw l := by
  induction l with
  | nil => rfl
  | cons b l ih => simp only [List.reverse_cons, tw_append, tw, ih]; omega
theorem ts_reverse (l : List Blk) : ts l.reverse = ts l := by
  induction l with
  | nil => rfl
  | cons b l ih => simp only [List.reverse_cons, ts_append, ts, ih]; omega
theorem nn_tw {l : List Blk} (h : nn l) : 0 ≤ tw l ∧ 0 ≤ ts l := by
  induction l with
  | nil => exact ⟨Int.le_refl _, Int.le_refl _⟩
  | cons b l ih =>
    have a := h b (by simp)
    have := ih fun b hb => h b (by simp [hb])
    simp only [tw, ts]; omega
theorem push_tot : ∀ (st : List Blk) (b : Blk), tw (pushB st b) = tw st + b.2.2.1 ∧ ts (pushB st b) = ts st + b.2.2.2
  | [], b => by simp [pushB, tw, ts]
  | t :: r, b => by
    simp only [pushB]
    split
    · simp only [tw, ts]; omega
    · have := push_tot r (t.1, b.2.1, t.2.2.1 + b.2.2.1, t.2.2.2 + b.2.2.2)
      simp only [tw, ts] at this ⊢; omega
theorem push_nn : ∀ {st : List Blk} {b : Blk}, nn st → 0 ≤ b.2.2.1 → 0 ≤ b.2.2.2 → nn (pushB st b)
  | [], b, _, h1, h2 => fun x hx => by simp [pushB] at hx; subst hx; exact ⟨h1, h2⟩
  | t :: r, b, h, h1, h2 => by
    have ht := h t (by simp)
    have hr : nn r := fun x hx => h x (by simp [hx])
    simp only [pushB]
    split
    · intro x hx
      rcases List.mem_cons.1 hx with rfl | hx
      · exact ⟨h1, h2⟩
      · exact h x hx
    · exact push_nn hr (by simp only; omega) (by simp only; omega)
theorem foldl_tot : ∀ (l : List Blk) (st : List Blk), tw (l.foldl pushB st) = tw st + tw l ∧ ts (l.foldl pushB st) = ts st + ts l
  | [], st => by simp [tw, ts]
  | b :: l, st => by
    have a := push_tot st b
    have := foldl_tot l (pushB st b)
    simp only [List.foldl_cons, tw, ts]; omega
theorem foldl_nn : ∀ {l : List Blk} {st : List Blk}, nn st → nn l → nn (l.foldl pushB st)
  | [], st, h, _ => h
  | b :: l, st, h, hl => by
    have hb := hl b (by simp)
    rw [List.foldl_cons]
    exact foldl_nn (push_nn h hb.1 hb.2) fun x hx => hl x (by simp [hx])
section
variable {l : List Mk} (hl : l.length ≤ 100000) (hc : ∀ m ∈ l, okMk m)
include hl hc
theorem cum_small (k : Nat) : 0 ≤ cumW l k ∧ cumW l k ≤ 2000000 ∧ 0 ≤ cumS l k ∧ cumS l k ≤ 200000000 := by
  have w0 := sumP_nonneg (f := fw) (c := fun h => decide (h < lim l k)) (l := l) fun m hm => by have := (okMk_fw (hc m hm)).1; omega
  have w1 := sumP_le (f := fw) (c := fun h => decide (h < lim l k)) (l := l) (k := 20) fun m hm => by have := okMk_fw (hc m hm); omega
  have s0 := sumP_nonneg (f := fs) (c := fun h => decide (h < lim l k)) (l := l) fun m hm => (okMk_fs (hc m hm)).1
  have s1 := sumP_le (f := fs) (c := fun h => decide (h < lim l k)) (l := l) (k := 2000) fun m hm => okMk_fs (hc m hm)
  unfold cumW cumS
  refine ⟨w0, ?_, s0, ?_⟩ <;> omega
theorem singles_tot : ∀ k, k ≤ (hours l).length → tw ((singles l).take k) = cumW l k ∧ ts ((singles l).take k) = cumS l k
  | 0, _ => by
    rw [cumW_zero hc, cumS_zero hc]; simp [tw, ts]
  | k + 1, h => by
    have ih := singles_tot k (by omega)
    have hs := single_at hc (show k < (hours l).length by omega)
    obtain ⟨h1, h2⟩ := List.getElem?_eq_some_iff.1 hs
    rw [List.take_succ_eq_append_getElem h1, h2, tw_append, ts_append, ih.1, ih.2]
    simp only [tw, ts, mkB]; omega
theorem singles_nn : nn (singles l) := fun b hb => by
  unfold singles at hb
  obtain ⟨h, _, rfl⟩ := List.mem_map.1 hb
  have := blk_small hl hc h h
  exact ⟨this.1, this.2.2.1⟩
theorem in39_2 (R : List (List D)) (s : List Blk) (now : Blk) (n i : Int) (hs : nn s) (h1 : 0 ≤ now.2.2.1) (h2 : 0 ≤ now.2.2.2) (h3 : tw s + now.2.2.1 ≤ 2000000) (h4 : ts s + now.2.2.2 ≤ 200000000) (h5 : s.length ≤ 100000) :
    ∃ (now' : Blk) (k : Nat), k ≤ s.length ∧ pushB s.reverse now = now' :: (s.take k).reverse ∧ iter (b39_2 std) (encB s, R, now.1, now.2.1, now.2.2.1, now.2.2.2, 0, s.length, n, i, ()) = some (encB s, R, now'.1, now'.2.1, now'.2.2.1, now'.2.2.2, 0, k, n, i, ()) := by
  have key := iter_ev (b := b39_2 std) (fun (t : Blk × Nat) => (encB s, R, t.1.1, t.1.2.1, t.1.2.2.1, t.1.2.2.2, 0, t.2, n, i, ())) (fun t => t.2 ≤ s.length ∧ pushB (s.take t.2).reverse t.1 = pushB s.reverse now ∧ 0 ≤ t.1.2.2.1 ∧ 0 ≤ t.1.2.2.2 ∧ tw (s.take t.2) + t.1.2.2.1 ≤ 2000000 ∧ ts (s.take t.2) + t.1.2.2.2 ≤ 200000000) (fun t => t.2)
    (fun r => ∃ (now' : Blk) (k : Nat), k ≤ s.length ∧ pushB s.reverse now = now' :: (s.take k).reverse ∧ r = (encB s, R, now'.1, now'.2.1, now'.2.2.1, now'.2.2.2, 0, k, n, i, ())) ?_ (now, s.length) ⟨Nat.le_refl _, by rw [List.take_length], h1, h2, by rw [List.take_length]; exact h3, by rw [List.take_length]; exact h4⟩
  · obtain ⟨r, a, now', k, b, c, rfl⟩ := key
    exact ⟨now', k, b, c, a⟩
  · rintro ⟨b, k⟩ ⟨hk, hp, q1, q2, q3, q4⟩
    simp only at hk hp q1 q2 q3 q4 ⊢
    cases k with
    | zero =>
      right
      refine ⟨_, ?_, b, 0, Nat.zero_le _, by rw [← hp]; simp [pushB], rfl⟩
      simp only [b39_2, need_eq, ask_eq, ret_eq, no_eq, bnd_eq, run_eq, alt_eq, std_len, std_ofNat, std_nat, std_add, std_sub, std_leN, std_eqN, std_and, std_app, std_cut, std_lss, std_leq, std_gtr, std_geq, std_eql, std_neq, std_rowOk, std_rdI, rdD, bif_eq, ofNat_eq, List.length_map, List.getElem?_map, Option.map_some, Option.bind_some, Option.bind_none, Int.toNat_natCast, decide_eq_true_eq, Sum.elim_inl, Sum.elim_inr, if_true, if_false, decide_true, decide_false, Bool.false_eq_true, show ¬ (((0 : Nat) : Int) > 0) by omega]
    | succ k =>
      have hk' : k < s.length := hk
      obtain ⟨t, ht⟩ := get_some hk'
      have htk : s.take (k + 1) = s.take k ++ [t] := by
        obtain ⟨g1, rfl⟩ := List.getElem?_eq_some_iff.1 ht
        exact List.take_succ_eq_append_getElem g1
      rw [htk] at hp q3 q4
      rw [List.reverse_append, List.reverse_singleton, List.singleton_append] at hp
      simp only [tw_append, ts_append, tw, ts] at q3 q4
      have hnn : nn (s.take k) := fun x hx => hs x (List.mem_of_mem_take hx)
      have htn := hs t (List.mem_of_getElem? ht)
      have hpos := nn_tw hnn
      have g1 : (((k + 1 : Nat) : Int) > 0) := by omega
      have g2 : IntKind.i64.wrap (((k + 1 : Nat) : Int) - 1) = (k : Int) := by rw [wrap64] <;> omega
      have g3 : (0 : Int) ≤ k := by omega
      have g4 : (k : Int) < ((k + 1 : Nat) : Int) := by omega
      have g5 : (encB s)[k]? = some (eB t) := by rw [encB_get, ht]; rfl
      have m1 : IntKind.i64.wrap (t.2.2.2 * b.2.2.1) = t.2.2.2 * b.2.2.1 := mul_small htn.2 (by omega) q1 (by omega)
      have m2 : IntKind.i64.wrap (b.2.2.2 * t.2.2.1) = b.2.2.2 * t.2.2.1 := mul_small q2 (by omega) htn.1 (by omega)
      have m3 : IntKind.i64.wrap (t.2.2.1 + b.2.2.1) = t.2.2.1 + b.2.2.1 := wrap64 _ (by omega) (by omega)
      have m4 : IntKind.i64.wrap (t.2.2.2 + b.2.2.2) = t.2.2.2 + b.2.2.2 := wrap64 _ (by omega) (by omega)
      have hel := encB_length s
      simp only [pushB] at hp
      by_cases hlt : t.2.2.2 * b.2.2.1 < b.2.2.2 * t.2.2.1
      · rw [if_pos hlt] at hp
        right
        refine ⟨_, ?_, b, k + 1, hk, by rw [htk, ← hp]; simp, rfl⟩
        simp only [b39_2, need_eq, ask_eq, ret_eq, no_eq, bnd_eq, run_eq, alt_eq, std_len, std_ofNat, std_nat, std_add, std_sub, std_leN, std_eqN, std_and, std_app, std_cut, std_lss, std_leq, std_gtr, std_geq, std_eql, std_neq, std_rowOk, std_rdI, rdD, bif_eq, ofNat_eq, List.length_map, List.getElem?_map, Option.map_some, Option.bind_some, Option.bind_none, Int.toNat_natCast, decide_eq_true_eq, Sum.elim_inl, Sum.elim_inr, if_true, if_false, decide_true, decide_false, Bool.false_eq_true, g1, std_ar_sub, std_ar_mul, g2, g3, g4, ge_iff_le, Nat.zero_add, g5, cells_eB, dI_eB0, dI_eB1, dI_eB2, dI_eB3, m1, m2, hlt]
      · rw [if_neg hlt] at hp
        left
        refine ⟨((t.1, b.2.1, t.2.2.1 + b.2.2.1, t.2.2.2 + b.2.2.2), k), ?_, ⟨by simp only; omega, by simpa using hp, by simp only; omega, by simp only; omega, by simp only; omega, by simp only; omega⟩, by simp only; omega⟩
        simp only [b39_2, need_eq, ask_eq, ret_eq, no_eq, bnd_eq, run_eq, alt_eq, std_len, std_ofNat, std_nat, std_add, std_sub, std_leN, std_eqN, std_and, std_app, std_cut, std_lss, std_leq, std_gtr, std_geq, std_eql, std_neq, std_rowOk, std_rdI, rdD, bif_eq, ofNat_eq, List.length_map, List.getElem?_map, Option.map_some, Option.bind_some, Option.bind_none, Int.toNat_natCast, decide_eq_true_eq, Sum.elim_inl, Sum.elim_inr, if_true, if_false, decide_true, decide_false, Bool.false_eq_true, g1, std_ar_sub, std_ar_mul, std_ar_add, g2, g3, g4, ge_iff_le, g5, cells_eB, dI_eB0, dI_eB1, dI_eB2, dI_eB3, m1, m2, m3, m4, hlt, Int.le_refl, Bool.and_true, Bool.true_and, Int.toNat_zero, Nat.sub_zero, Nat.add_zero, Nat.zero_add, hel, Int.le_of_lt g4, show k ≤ s.length by omega, Nat.le_refl]
omit hl hc in
theorem foldl_len : ∀ (l : List Blk) (st : List Blk), (l.foldl pushB st).length ≤ st.length + l.length
  | [], st => by simp
  | b :: l, st => by
    have h : ∀ (st : List Blk) (b : Blk), (pushB st b).length ≤ st.length + 1 := by
      intro st
      induction st with
      | nil => intro b; simp [pushB]
      | cons t r ih =>
        intro b
        simp only [pushB]
        split
        · simp
        · have := ih (t.1, b.2.1, t.2.2.1 + b.2.2.1, t.2.2.2 + b.2.2.2)
          simp only [List.length_cons]; omega
    have a := h st b
    have := foldl_len l (pushB st b)
    rw [List.foldl_cons, List.length_cons]; omega
theorem G39_ok : G39 std (encM l, ()) = some (encB (pooled l), ()) := by
  have hn := hours_len l
  have hsl : (singles l).length = (hours l).length := by simp [singles]
  have key := iter_count (b := b39_1 std) (hours l).length (fun (_ : Unit) i => (encB (singles l), encB (((singles l).take i).foldl pushB []).reverse, (((hours l).length : Nat) : Int), (i : Int), ())) (fun _ _ => True) (fun r => r = (encB (pooled l), ())) ?_ ?_ () 0 (Nat.zero_le _) trivial
  · obtain ⟨r, h1, rfl⟩ := key
    have h1 : iter (b39_1 std) (encB (singles l), [], (((hours l).length : Nat) : Int), 0, ()) = some (encB (pooled l), ()) := h1
    unfold G39
    simp only [need_eq, ask_eq, ret_eq, no_eq, bnd_eq, run_eq, alt_eq, std_len, std_ofNat, std_nat, std_add, std_sub, std_leN, std_eqN, std_and, std_app, std_cut, std_lss, std_leq, std_gtr, std_geq, std_eql, std_neq, std_rowOk, std_rdI, rdD, bif_eq, ofNat_eq, List.length_map, List.getElem?_map, Option.map_some, Option.bind_some, Option.bind_none, Int.toNat_natCast, decide_eq_true_eq, Sum.elim_inl, Sum.elim_inr, if_true, if_false, decide_true, decide_false, Bool.false_eq_true, G43_ok hl hc, encB_length, hsl, h1]
  · intro _ i hi _
    left
    obtain ⟨b, hb⟩ := get_some (l := singles l) (i := i) (by omega)
    have hw := wrap_nat (i := i) (by omega)
    have h1 : (i : Int) < (hours l).length := by omega
    have h2 : (0 : Int) ≤ i := by omega
    have hnn := singles_nn hl hc
    have hbn := hnn b (List.mem_of_getElem? hb)
    have htk : (singles l).take (i + 1) = (singles l).take i ++ [b] := by
      obtain ⟨g1, rfl⟩ := List.getElem?_eq_some_iff.1 hb
      exact List.take_succ_eq_append_getElem g1
    have hst : nn (((singles l).take i).foldl pushB []) := foldl_nn (fun x hx => by simp at hx) fun x hx => hnn x (List.mem_of_mem_take hx)
    have ht := foldl_tot ((singles l).take i) []
    have h3 := singles_tot hl hc i (by omega)
    have h4 := singles_tot hl hc (i + 1) (by omega)
    rw [htk, tw_append, ts_append] at h4
    simp only [tw, ts] at h4 ht
    have h5 := cum_small hl hc (i + 1)
    have hlen := foldl_len ((singles l).take i) []
    simp only [List.length_nil, Nat.zero_add, List.length_take] at hlen
    obtain ⟨now', k, k1, k2, k3⟩ := in39_2 hl hc (encB (singles l)) (((singles l).take i).foldl pushB []).reverse b ((hours l).length : Int) (i : Int) (fun x hx => hst x (by simpa using hx)) hbn.1 hbn.2 (by rw [tw_reverse]; omega) (by rw [ts_reverse]; omega) (by rw [List.length_reverse]; omega)
    refine ⟨(), ?_, trivial⟩
    rw [List.reverse_reverse] at k2
    have hpush : ((singles l).take (i + 1)).foldl pushB [] = now' :: ((((singles l).take i).foldl pushB []).reverse.take k).reverse := by
      rw [htk, List.foldl_append, ← k2]; rfl
    have hfin : encB (((singles l).take (i + 1)).foldl pushB []).reverse = (encB (((singles l).take i).foldl pushB []).reverse).take k ++ [[D.int .i64 now'.1, D.int .i64 now'.2.1, D.int .i64 now'.2.2.1, D.int .i64 now'.2.2.2]] := by
      rw [hpush, List.reverse_cons, List.reverse_reverse, ← encB_snoc]
      simp [encB, List.map_take]
    have hlk : ((encB (((singles l).take i).foldl pushB []).reverse).take k).length = k := by
      rw [List.length_take, encB_length]; omega
    have hkl : k ≤ (encB (((singles l).take i).foldl pushB []).reverse).length := by rw [encB_length]; exact k1
    rw [hfin]
    simp only [b39_1, need_eq, ask_eq, ret_eq, no_eq, bnd_eq, run_eq, alt_eq, std_len, std_ofNat, std_nat, std_add, std_sub, std_leN, std_eqN, std_and, std_app, std_cut, std_lss, std_leq, std_gtr, std_geq, std_eql, std_neq, std_rowOk, std_rdI, rdD, bif_eq, ofNat_eq, List.length_map, List.getElem?_map, Option.map_some, Option.bind_some, Option.bind_none, Int.toNat_natCast, decide_eq_true_eq, Sum.elim_inl, Sum.elim_inr, if_true, if_false, decide_true, decide_false, Bool.false_eq_true, encB_length, hsl, h1, h2, ge_iff_le, Nat.zero_add, encB_get, hb, cells_eB, dI_eB0, dI_eB1, dI_eB2, dI_eB3]
    have e0 : (encB (((singles l).take i).foldl pushB []).reverse).length = (((singles l).take i).foldl pushB []).reverse.length := encB_length _
    simp only [k3, Option.bind_some]
    simp only [need_eq, ask_eq, ret_eq, no_eq, bnd_eq, run_eq, alt_eq, std_len, std_ofNat, std_nat, std_add, std_sub, std_leN, std_eqN, std_and, std_app, std_cut, std_lss, std_leq, std_gtr, std_geq, std_eql, std_neq, std_rowOk, std_rdI, rdD, bif_eq, ofNat_eq, List.length_map, List.getElem?_map, Option.map_some, Option.bind_some, Option.bind_none, Int.toNat_natCast, decide_eq_true_eq, Sum.elim_inl, Sum.elim_inr, if_true, if_false, decide_true, decide_false, Bool.false_eq_true, List.length_cons, List.length_nil, Nat.zero_add, Nat.le_refl, Bool.and_true, Bool.true_and, List.drop_zero, List.take_succ_cons, List.take_zero, List.length_append, hlk, hkl, show k + 1 ≤ 1000000 by rw [List.length_reverse] at k1; omega, std_ar_add, hw]
  · intro _ _
    refine ⟨_, ?_, rfl⟩
    have : (singles l).take (hours l).length = singles l := by rw [List.take_of_length_le]; omega
    simp only [b39_1, need_eq, ask_eq, ret_eq, no_eq, bnd_eq, run_eq, alt_eq, std_len, std_ofNat, std_nat, std_add, std_sub, std_leN, std_eqN, std_and, std_app, std_cut, std_lss, std_leq, std_gtr, std_geq, std_eql, std_neq, std_rowOk, std_rdI, rdD, bif_eq, ofNat_eq, List.length_map, List.getElem?_map, Option.map_some, Option.bind_some, Option.bind_none, Int.toNat_natCast, decide_eq_true_eq, Sum.elim_inl, Sum.elim_inr, if_true, if_false, decide_true, decide_false, Bool.false_eq_true, Int.lt_irrefl, this, pooled]
end
theorem chk_card {l : List Mk} (h : chk l = 0) : l.length ≤ 24 ∧ (∀ m ∈ l, okMk m) ∧ 1 ≤ l.length := by
  unfold chk at h
  split at h
  · cases h
  · rename_i h1
    split at h
    · rename_i h2; exact ⟨by omega, h2, by omega⟩
    · cases h
theorem G14_ok (l : List Mk) : G14 std (encM l, ()) = if chk l = 0 then some (encB (pooled l), 0, ()) else some ([], chk l, ()) := by
  by_cases h0 : chk l = 0
  · obtain ⟨h1, hc, _⟩ := chk_card h0
    have hl : l.length ≤ 100000 := by omega
    have hpl := pairs_len hl hc
    have hn := hours_len l
    have hpp : (pooled l).length ≤ 100000 := by rw [pooled_eq hc, List.length_map]; omega
    have key := iter_count (b := b14_1 std) (pooled l).length (fun (_ : Unit) i => (encB (pooled l), encB ((pooled l).take i), (((pooled l).length : Nat) : Int), (i : Int), ())) (fun _ _ => True) (fun r => r = (encB (pooled l), ())) ?_ ?_ () 0 (Nat.zero_le _) trivial
    · obtain ⟨r, h2, rfl⟩ := key
      have h2 : iter (b14_1 std) (encB (pooled l), [], (((pooled l).length : Nat) : Int), 0, ()) = some (encB (pooled l), ()) := h2
      unfold G14
      simp only [need_eq, ask_eq, ret_eq, no_eq, bnd_eq, run_eq, alt_eq, std_len, std_ofNat, std_nat, std_add, std_sub, std_leN, std_eqN, std_and, std_app, std_cut, std_lss, std_leq, std_gtr, std_geq, std_eql, std_neq, std_rowOk, std_rdI, rdD, bif_eq, ofNat_eq, List.length_map, List.getElem?_map, Option.map_some, Option.bind_some, Option.bind_none, Int.toNat_natCast, decide_eq_true_eq, Sum.elim_inl, Sum.elim_inr, if_true, if_false, decide_true, decide_false, Bool.false_eq_true, G16_ok, h0, Bool.not_true, G39_ok hl hc, encB_length, h2]
    · intro _ i hi _
      left
      obtain ⟨b, hb⟩ := get_some hi
      have hw := wrap_nat (i := i) (by omega)
      have g1 : (i : Int) < (pooled l).length := by omega
      have g2 : (0 : Int) ≤ i := by omega
      have htk : (pooled l).take (i + 1) = (pooled l).take i ++ [b] := by
        obtain ⟨g1, rfl⟩ := List.getElem?_eq_some_iff.1 hb
        exact List.take_succ_eq_append_getElem g1
      have hol : (encB ((pooled l).take i)).length = i := by rw [encB_length, List.length_take]; omega
      refine ⟨(), ?_, trivial⟩
      rw [htk, ← encB_snoc]
      simp only [b14_1, need_eq, ask_eq, ret_eq, no_eq, bnd_eq, run_eq, alt_eq, std_len, std_ofNat, std_nat, std_add, std_sub, std_leN, std_eqN, std_and, std_app, std_cut, std_lss, std_leq, std_gtr, std_geq, std_eql, std_neq, std_rowOk, std_rdI, rdD, bif_eq, ofNat_eq, List.length_map, List.getElem?_map, Option.map_some, Option.bind_some, Option.bind_none, Int.toNat_natCast, decide_eq_true_eq, Sum.elim_inl, Sum.elim_inr, if_true, if_false, decide_true, decide_false, Bool.false_eq_true, encB_length, g1, g2, ge_iff_le, Nat.zero_add, encB_get, hb, cells_eB, dI_eB0, dI_eB1, dI_eB2, dI_eB3, std_ar_add, hw, List.length_cons, List.length_nil, List.length_append, Nat.le_refl, Bool.and_true, Bool.true_and, List.drop_zero, List.take_succ_cons, List.take_zero, List.length_take, show min i (pooled l).length = i by omega, show i + 1 ≤ 1000000 by omega, List.take_of_length_le (Nat.le_of_eq hol)]
    · intro _ _
      refine ⟨_, ?_, rfl⟩
      simp only [b14_1, need_eq, ask_eq, ret_eq, no_eq, bnd_eq, run_eq, alt_eq, std_len, std_ofNat, std_nat, std_add, std_sub, std_leN, std_eqN, std_and, std_app, std_cut, std_lss, std_leq, std_gtr, std_geq, std_eql, std_neq, std_rowOk, std_rdI, rdD, bif_eq, ofNat_eq, List.length_map, List.getElem?_map, Option.map_some, Option.bind_some, Option.bind_none, Int.toNat_natCast, decide_eq_true_eq, Sum.elim_inl, Sum.elim_inr, if_true, if_false, decide_true, decide_false, Bool.false_eq_true, Int.lt_irrefl, List.take_length]
  · unfold G14
    simp only [need_eq, ask_eq, ret_eq, no_eq, bnd_eq, run_eq, alt_eq, std_len, std_ofNat, std_nat, std_add, std_sub, std_leN, std_eqN, std_and, std_app, std_cut, std_lss, std_leq, std_gtr, std_geq, std_eql, std_neq, std_rowOk, std_rdI, rdD, bif_eq, ofNat_eq, List.length_map, List.getElem?_map, Option.map_some, Option.bind_some, Option.bind_none, Int.toNat_natCast, decide_eq_true_eq, Sum.elim_inl, Sum.elim_inr, if_true, if_false, decide_true, decide_false, Bool.false_eq_true, G16_ok, h0, Bool.not_false]
theorem G15_ok (l : List Mk) : G15 std (encM l, ()) = if chk l = 0 then some (encB (pooled l), 0, ()) else some ([], chk l, ()) := by
  by_cases h0 : chk l = 0
  · obtain ⟨h1, hc, _⟩ := chk_card h0
    have hl : l.length ≤ 100000 := by omega
    unfold G15
    simp only [need_eq, ask_eq, ret_eq, no_eq, bnd_eq, run_eq, alt_eq, std_len, std_ofNat, std_nat, std_add, std_sub, std_leN, std_eqN, std_and, std_app, std_cut, std_lss, std_leq, std_gtr, std_geq, std_eql, std_neq, std_rowOk, std_rdI, rdD, bif_eq, ofNat_eq, List.length_map, List.getElem?_map, Option.map_some, Option.bind_some, Option.bind_none, Int.toNat_natCast, decide_eq_true_eq, Sum.elim_inl, Sum.elim_inr, if_true, if_false, decide_true, decide_false, Bool.false_eq_true, G17_ok, h0, Bool.not_true, G40_ok hl hc]
  · unfold G15
    simp only [need_eq, ask_eq, ret_eq, no_eq, bnd_eq, run_eq, alt_eq, std_len, std_ofNat, std_nat, std_add, std_sub, std_leN, std_eqN, std_and, std_app, std_cut, std_lss, std_leq, std_gtr, std_geq, std_eql, std_neq, std_rowOk, std_rdI, rdD, bif_eq, ofNat_eq, List.length_map, List.getElem?_map, Option.map_some, Option.bind_some, Option.bind_none, Int.toNat_natCast, decide_eq_true_eq, Sum.elim_inl, Sum.elim_inr, if_true, if_false, decide_true, decide_false, Bool.false_eq_true, G17_ok, h0, Bool.not_false]
end Go.Am
end
