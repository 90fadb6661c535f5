/-
  What the printed functions compute: the least and the greatest means.
-/
import Derived.Test.YtnmgimjamahalaaSm
import Derived.Test.YtnmgimjamahalaaGm
section
set_option linter.unusedVariables false
set_option linter.unusedSimpArgs false
set_option linter.unusedSectionVars false
namespace Go.Am
open M08
section
variable {l : List Mk} (hl : l.length ≤ 24) (hc : ∀ m ∈ l, okMk m)
include hl hc
def isMax (l : List Mk) (i k : Nat) (b : Blk) : Prop := (∃ j0, j0 ≤ i ∧ b = bl l j0 k) ∧ ∀ j, j ≤ i → ltB b (bl l j k) = false
def isWor (l : List Mk) (i e : Nat) (b : Blk) : Prop := (∃ k0, i ≤ k0 ∧ k0 < e ∧ isMax l i k0 b) ∧ ∀ k, i ≤ k → k < e → ∃ b', isMax l i k b' ∧ ltB b' b = false
theorem isWor_mean {i : Nat} {b : Blk} (hi : i < (hours l).length) (h : isWor l i (hours l).length b) {t : Nat × Nat} (ht : t ∈ pairs 0 (brk l)) (h1 : t.1 ≤ i) (h2 : i < t.2) :
    0 < b.2.2.1 ∧ b.2.2.2 * (cumW l t.2 - cumW l t.1) = (cumS l t.2 - cumS l t.1) * b.2.2.1 := by
  obtain ⟨p, q⟩ := t
  simp only at h1 h2 ⊢
  have hW := cumW_mono hc
  obtain ⟨c1, c2, c3⟩ := breaks_chain (W := cumW l) (S := cumS l) hW
  have hq : q ≤ (hours l).length := by
    have := (pairs_lt c1 (p, q) ht).2.2
    rw [c2] at this; exact this
  have hab : ∀ m, m ≤ (hours l).length → Above (cumW l) (cumS l) p q m := fun m hm => allB_pairs (supp0 hW c1 c2 hm) (p, q) ht
  have wp := hW p q (by omega) hq
  obtain ⟨⟨k0, a0, a1, ⟨j1, aj, ab⟩, a3⟩, a4⟩ := h
  have pb : 0 < b.2.2.1 := by rw [ab]; exact bl_pos hc (by omega) a1
  refine ⟨pb, Int.le_antisymm ?_ ?_⟩
  · obtain ⟨b', ⟨⟨j0, q1, q2⟩, _⟩, q3⟩ := a4 (q - 1) (by omega) (by omega)
    have pb' : 0 < b'.2.2.1 := by rw [q2]; exact bl_pos hc (by omega) (by omega)
    rw [bl_at hc (show j0 ≤ q - 1 by omega) (by omega)] at q2
    have e : q - 1 + 1 = q := by omega
    rw [e] at q2
    have ew : b'.2.2.1 = cumW l q - cumW l j0 := by rw [q2]
    have es : b'.2.2.2 = cumS l q - cumS l j0 := by rw [q2]
    have abv := above_before (hab j0 (by omega))
    rw [← ew, ← es] at abv
    rw [ltB_false] at q3
    have e1 : b.2.2.2 * b'.2.2.1 * (cumW l q - cumW l p) ≤ b'.2.2.2 * b.2.2.1 * (cumW l q - cumW l p) := Int.mul_le_mul_of_nonneg_right q3 (by omega)
    have e2 : b'.2.2.2 * (cumW l q - cumW l p) * b.2.2.1 ≤ (cumS l q - cumS l p) * b'.2.2.1 * b.2.2.1 := Int.mul_le_mul_of_nonneg_right abv (Int.le_of_lt pb)
    have key : b.2.2.2 * (cumW l q - cumW l p) * b'.2.2.1 ≤ (cumS l q - cumS l p) * b.2.2.1 * b'.2.2.1 := by grind
    exact mul_le_cancel pb' key
  · have q3 := a3 p h1
    have pc : 0 < (bl l p k0).2.2.1 := bl_pos hc (by omega) a1
    have hbl := bl_at hc (show p ≤ k0 by omega) a1
    have ew : (bl l p k0).2.2.1 = cumW l (k0 + 1) - cumW l p := by rw [hbl]
    have es : (bl l p k0).2.2.2 = cumS l (k0 + 1) - cumS l p := by rw [hbl]
    have abv := hab (k0 + 1) (by omega)
    unfold Above at abv
    rw [← ew, ← es] at abv
    rw [ltB_false] at q3
    have e1 : (cumS l q - cumS l p) * (bl l p k0).2.2.1 * b.2.2.1 ≤ (bl l p k0).2.2.2 * (cumW l q - cumW l p) * b.2.2.1 := Int.mul_le_mul_of_nonneg_right abv (Int.le_of_lt pb)
    have e2 : (bl l p k0).2.2.2 * b.2.2.1 * (cumW l q - cumW l p) ≤ b.2.2.2 * (bl l p k0).2.2.1 * (cumW l q - cumW l p) := Int.mul_le_mul_of_nonneg_right q3 (by omega)
    have key : (cumS l q - cumS l p) * b.2.2.1 * (bl l p k0).2.2.1 ≤ b.2.2.2 * (cumW l q - cumW l p) * (bl l p k0).2.2.1 := by grind
    exact mul_le_cancel pc key
theorem isMax_pos {i k : Nat} {b : Blk} (hik : i ≤ k) (hk : k < (hours l).length) (h : isMax l i k b) : 0 < b.2.2.1 := by
  obtain ⟨⟨j0, h1, rfl⟩, _⟩ := h
  exact bl_pos hc (by omega) hk
theorem isMax_small {i k : Nat} {b : Blk} (h : isMax l i k b) : SmB b := by
  obtain ⟨⟨j0, h1, rfl⟩, _⟩ := h
  exact bl_small (show l.length ≤ 100000 by omega) hc _ _
theorem isWor_first {i : Nat} {b : Blk} (h : isMax l i i b) : isWor l i (i + 1) b := by
  refine ⟨⟨i, Nat.le_refl _, by omega, h⟩, fun k h1 h2 => ?_⟩
  have : k = i := by omega
  subst this
  exact ⟨b, h, by rw [ltB_false]; exact Int.le_refl _⟩
theorem isWor_step {i e : Nat} {b c : Blk} (hie : i < e) (he : e < (hours l).length) (h : isWor l i e b) (hm : isMax l i e c) : isWor l i (e + 1) (if ltB c b = true then c else b) := by
  obtain ⟨⟨k0, a0, a1, a2⟩, a3⟩ := h
  have pb := isMax_pos hl hc a0 (by omega) a2
  have pc := isMax_pos hl hc (by omega) he hm
  by_cases hlt : ltB c b = true
  · rw [if_pos hlt]
    refine ⟨⟨e, by omega, by omega, hm⟩, fun k h1 h2 => ?_⟩
    by_cases hke : k = e
    · subst hke; exact ⟨c, hm, by rw [ltB_false]; exact Int.le_refl _⟩
    · obtain ⟨b', q1, q2⟩ := a3 k h1 (by omega)
      have pb' := isMax_pos hl hc h1 (by omega) q1
      refine ⟨b', q1, ?_⟩
      rw [ltB_false] at q2 ⊢
      rw [ltB_true] at hlt
      exact le_trans_B pb (Int.le_of_lt pc) (Int.le_of_lt pb') (Int.le_of_lt hlt) q2
  · rw [if_neg hlt]
    refine ⟨⟨k0, a0, by omega, a2⟩, fun k h1 h2 => ?_⟩
    by_cases hke : k = e
    · subst hke; exact ⟨c, hm, by simpa using hlt⟩
    · exact a3 k h1 (by omega)
theorem in8_2 (v1 v2 a1 a2 a3 a4 b1 b2 b3 b4 : Int) {i j : Nat} (hj : j ≤ i) (hi : i < (hours l).length) :
    ∃ m, isMin l j i (hours l).length m ∧ iter (b8_2 std) (rowsI (hours l), v1, v2, a1, a2, a3, a4, b1, b2, b3, b4, (bl l j i).1, (bl l j i).2.1, (bl l j i).2.2.1, (bl l j i).2.2.2, encM l, (i : Int), (j : Int), (i : Int), ()) =
      some (rowsI (hours l), v1, v2, a1, a2, a3, a4, b1, b2, b3, b4, m.1, m.2.1, m.2.2.1, m.2.2.2, encM l, (i : Int), (j : Int), ()) := by
  have hl' : l.length ≤ 100000 := by omega
  have hn := hours_len l
  have hrl := rowsI_length (hours l)
  have key := iter_count (b := b8_2 std) (hours l).length (fun (m : Blk) k => (rowsI (hours l), v1, v2, a1, a2, a3, a4, b1, b2, b3, b4, m.1, m.2.1, m.2.2.1, m.2.2.2, encM l, (i : Int), (j : Int), (k : Int), ()))
    (fun m k => (k = i ∧ m = bl l j i) ∨ (i < k ∧ isMin l j i k m))
    (fun r => ∃ m, isMin l j i (hours l).length m ∧ r = (rowsI (hours l), v1, v2, a1, a2, a3, a4, b1, b2, b3, b4, m.1, m.2.1, m.2.2.1, m.2.2.2, encM l, (i : Int), (j : Int), ())) ?_ ?_ (bl l j i) i (by omega) (.inl ⟨rfl, rfl⟩)
  · obtain ⟨r, h1, m, h2, rfl⟩ := key
    exact ⟨m, h2, h1⟩
  · intro m k hk hI
    left
    have hw := wrap_nat (i := k) (by omega)
    have g1 : (k : Int) < (hours l).length := by omega
    have g2 : (k : Int) ≥ 0 := by omega
    have g3 : (j : Int) < (hours l).length := by omega
    have g4 : (j : Int) ≥ 0 := by omega
    have hkl := hours_get (l := l) hk
    have hjl := hours_get (l := l) (show j < (hours l).length by omega)
    have hsm : SmB m := by
      rcases hI with ⟨rfl, rfl⟩ | ⟨_, h⟩
      · exact bl_small hl' hc _ _
      · exact isMin_small hl' hc h
    have h30 := G30_bl hl' hc j k
    have h31 := G31_ok (bl l j k) m (bl_small hl' hc _ _) hsm
    have hnext : i < k + 1 ∧ isMin l j i (k + 1) (if ltB (bl l j k) m = true then bl l j k else m) := by
      rcases hI with ⟨rfl, rfl⟩ | ⟨h0, h⟩
      · exact ⟨by omega, by simp only [ite_self]; exact isMin_first hj⟩
      · exact ⟨by omega, isMin_step hc hj (by omega) hk h⟩
    refine ⟨if ltB (bl l j k) m = true then bl l j k else m, ?_, .inr hnext⟩
    cases hlt : ltB (bl l j k) m with
    | true =>
      rw [hlt] at h31
      simp only [b8_2, need_eq, ask_eq, ret_eq, no_eq, bnd_eq, run_eq, alt_eq, std_len, std_ofNat, std_nat, std_add, std_sub, std_leN, std_eqN, std_and, std_app, std_cut, std_lss, std_leq, std_gtr, std_geq, std_eql, std_neq, std_rowOk, std_rdI, rdD, bif_eq, ofNat_eq, List.length_map, List.getElem?_map, Option.map_some, Option.bind_some, Option.bind_none, Int.toNat_natCast, decide_eq_true_eq, Sum.elim_inl, Sum.elim_inr, if_true, if_false, decide_true, decide_false, Bool.false_eq_true, List.length_cons, List.length_nil, Nat.zero_add, ite_self, hrl, g1, g2, g3, g4, rowsI_get, hkl, hjl, cells_I, dI_I, dI_some, h30, h31, std_ar_add, hw]
    | false =>
      rw [hlt] at h31
      simp only [b8_2, need_eq, ask_eq, ret_eq, no_eq, bnd_eq, run_eq, alt_eq, std_len, std_ofNat, std_nat, std_add, std_sub, std_leN, std_eqN, std_and, std_app, std_cut, std_lss, std_leq, std_gtr, std_geq, std_eql, std_neq, std_rowOk, std_rdI, rdD, bif_eq, ofNat_eq, List.length_map, List.getElem?_map, Option.map_some, Option.bind_some, Option.bind_none, Int.toNat_natCast, decide_eq_true_eq, Sum.elim_inl, Sum.elim_inr, if_true, if_false, decide_true, decide_false, Bool.false_eq_true, List.length_cons, List.length_nil, Nat.zero_add, ite_self, hrl, g1, g2, g3, g4, rowsI_get, hkl, hjl, cells_I, dI_I, dI_some, h30, h31, std_ar_add, hw]
  · intro m hI
    rcases hI with ⟨h, _⟩ | ⟨_, h⟩
    · omega
    · refine ⟨_, ?_, m, h, rfl⟩
      simp only [b8_2, need_eq, ask_eq, ret_eq, no_eq, bnd_eq, run_eq, alt_eq, std_len, std_ofNat, std_nat, std_add, std_sub, std_leN, std_eqN, std_and, std_app, std_cut, std_lss, std_leq, std_gtr, std_geq, std_eql, std_neq, std_rowOk, std_rdI, rdD, bif_eq, ofNat_eq, List.length_map, List.getElem?_map, Option.map_some, Option.bind_some, Option.bind_none, Int.toNat_natCast, decide_eq_true_eq, Sum.elim_inl, Sum.elim_inr, if_true, if_false, decide_true, decide_false, Bool.false_eq_true, hrl, Int.lt_irrefl]
theorem in8_1 (v1 v2 b1 b2 b3 b4 : Int) {i : Nat} (hi : i < (hours l).length) :
    ∃ m, isBest l i (i + 1) m ∧ iter (b8_1 std) (rowsI (hours l), v1, v2, 0, 0, 0, 0, b1, b2, b3, b4, encM l, (i : Int), 0, ()) =
      some (rowsI (hours l), v1, v2, m.1, m.2.1, m.2.2.1, m.2.2.2, b1, b2, b3, b4, encM l, (i : Int), ()) := by
  have hl' : l.length ≤ 100000 := by omega
  have hn := hours_len l
  have hrl := rowsI_length (hours l)
  have key := iter_count (b := b8_1 std) (i + 1) (fun (m : Blk) j => (rowsI (hours l), v1, v2, m.1, m.2.1, m.2.2.1, m.2.2.2, b1, b2, b3, b4, encM l, (i : Int), (j : Int), ()))
    (fun m j => j = 0 ∨ isBest l i j m)
    (fun r => ∃ m, isBest l i (i + 1) m ∧ r = (rowsI (hours l), v1, v2, m.1, m.2.1, m.2.2.1, m.2.2.2, b1, b2, b3, b4, encM l, (i : Int), ())) ?_ ?_ (0, 0, 0, 0) 0 (Nat.zero_le _) (.inl rfl)
  · obtain ⟨r, h1, m, h2, rfl⟩ := key
    exact ⟨m, h2, h1⟩
  · intro m j hj hI
    left
    have hw := wrap_nat (i := j) (by omega)
    have g0 : (j : Int) ≤ i := by omega
    have g1 : (i : Int) < (hours l).length := by omega
    have g2 : (i : Int) ≥ 0 := by omega
    have g3 : (j : Int) < (hours l).length := by omega
    have g4 : (j : Int) ≥ 0 := by omega
    have hil := hours_get (l := l) hi
    have hjl := hours_get (l := l) (show j < (hours l).length by omega)
    have h30 := G30_bl hl' hc j i
    obtain ⟨c, hcm, hit⟩ := in8_2 hl hc v1 v2 m.1 m.2.1 m.2.2.1 m.2.2.2 b1 b2 b3 b4 (show j ≤ i by omega) hi
    by_cases hj0 : j = 0
    · subst hj0
      refine ⟨c, ?_, .inr (isBest_first hcm)⟩
      have z : ((0 : Nat) : Int) = 0 := rfl
      simp only [z] at *
      simp only [b8_1, need_eq, ask_eq, ret_eq, no_eq, bnd_eq, run_eq, alt_eq, std_len, std_ofNat, std_nat, std_add, std_sub, std_leN, std_eqN, std_and, std_app, std_cut, std_lss, std_leq, std_gtr, std_geq, std_eql, std_neq, std_rowOk, std_rdI, rdD, bif_eq, ofNat_eq, List.length_map, List.getElem?_map, Option.map_some, Option.bind_some, Option.bind_none, Int.toNat_natCast, decide_eq_true_eq, Sum.elim_inl, Sum.elim_inr, if_true, if_false, decide_true, decide_false, Bool.false_eq_true, List.length_cons, List.length_nil, Nat.zero_add, ite_self, hrl, g0, g1, g2, g3, g4, rowsI_get, hil, hjl, cells_I, dI_I, dI_some, h30, hit, Int.toNat_zero, std_ar_add, hw]
    · have hb : isBest l i j m := hI.resolve_left hj0
      have z : ¬ (j : Int) = 0 := by omega
      have h31 := G31_ok m c (isBest_small hl' hc hb) (isMin_small hl' hc hcm)
      have hst := isBest_step hc (show j ≤ i by omega) hi hb hcm
      refine ⟨if ltB m c = true then c else m, ?_, .inr hst⟩
      cases hlt : ltB m c with
      | true =>
        rw [hlt] at h31
        simp only [b8_1, need_eq, ask_eq, ret_eq, no_eq, bnd_eq, run_eq, alt_eq, std_len, std_ofNat, std_nat, std_add, std_sub, std_leN, std_eqN, std_and, std_app, std_cut, std_lss, std_leq, std_gtr, std_geq, std_eql, std_neq, std_rowOk, std_rdI, rdD, bif_eq, ofNat_eq, List.length_map, List.getElem?_map, Option.map_some, Option.bind_some, Option.bind_none, Int.toNat_natCast, decide_eq_true_eq, Sum.elim_inl, Sum.elim_inr, if_true, if_false, decide_true, decide_false, Bool.false_eq_true, List.length_cons, List.length_nil, Nat.zero_add, ite_self, hrl, g0, g1, g2, g3, g4, z, rowsI_get, hil, hjl, cells_I, dI_I, dI_some, h30, hit, h31, std_ar_add, hw]
      | false =>
        rw [hlt] at h31
        simp only [b8_1, need_eq, ask_eq, ret_eq, no_eq, bnd_eq, run_eq, alt_eq, std_len, std_ofNat, std_nat, std_add, std_sub, std_leN, std_eqN, std_and, std_app, std_cut, std_lss, std_leq, std_gtr, std_geq, std_eql, std_neq, std_rowOk, std_rdI, rdD, bif_eq, ofNat_eq, List.length_map, List.getElem?_map, Option.map_some, Option.bind_some, Option.bind_none, Int.toNat_natCast, decide_eq_true_eq, Sum.elim_inl, Sum.elim_inr, if_true, if_false, decide_true, decide_false, Bool.false_eq_true, List.length_cons, List.length_nil, Nat.zero_add, ite_self, hrl, g0, g1, g2, g3, g4, z, rowsI_get, hil, hjl, cells_I, dI_I, dI_some, h30, hit, h31, std_ar_add, hw]
  · intro m hI
    have h : isBest l i (i + 1) m := hI.resolve_left (by omega)
    have z : ¬ ((i + 1 : Nat) : Int) ≤ (i : Int) := by omega
    refine ⟨_, ?_, m, h, rfl⟩
    simp only [b8_1, need_eq, ask_eq, ret_eq, no_eq, bnd_eq, run_eq, alt_eq, std_len, std_ofNat, std_nat, std_add, std_sub, std_leN, std_eqN, std_and, std_app, std_cut, std_lss, std_leq, std_gtr, std_geq, std_eql, std_neq, std_rowOk, std_rdI, rdD, bif_eq, ofNat_eq, List.length_map, List.getElem?_map, Option.map_some, Option.bind_some, Option.bind_none, Int.toNat_natCast, decide_eq_true_eq, Sum.elim_inl, Sum.elim_inr, if_true, if_false, decide_true, decide_false, Bool.false_eq_true, z]
theorem in8_4 (v1 v2 a1 a2 a3 a4 b1 b2 b3 b4 : Int) {i k : Nat} (hik : i ≤ k) (hk : k < (hours l).length) :
    ∃ m, isMax l i k m ∧ iter (b8_4 std) (rowsI (hours l), v1, v2, a1, a2, a3, a4, b1, b2, b3, b4, (bl l i k).1, (bl l i k).2.1, (bl l i k).2.2.1, (bl l i k).2.2.2, encM l, (i : Int), (k : Int), 0, ()) =
      some (rowsI (hours l), v1, v2, a1, a2, a3, a4, b1, b2, b3, b4, m.1, m.2.1, m.2.2.1, m.2.2.2, encM l, (i : Int), (k : Int), ()) := by
  have hl' : l.length ≤ 100000 := by omega
  have hn := hours_len l
  have hrl := rowsI_length (hours l)
  have key := iter_count (b := b8_4 std) (i + 1) (fun (m : Blk) j => (rowsI (hours l), v1, v2, a1, a2, a3, a4, b1, b2, b3, b4, m.1, m.2.1, m.2.2.1, m.2.2.2, encM l, (i : Int), (k : Int), (j : Int), ()))
    (fun m j => (∃ j0, j0 ≤ i ∧ m = bl l j0 k) ∧ ∀ j', j' < j → ltB m (bl l j' k) = false)
    (fun r => ∃ m, isMax l i k m ∧ r = (rowsI (hours l), v1, v2, a1, a2, a3, a4, b1, b2, b3, b4, m.1, m.2.1, m.2.2.1, m.2.2.2, encM l, (i : Int), (k : Int), ())) ?_ ?_ (bl l i k) 0 (Nat.zero_le _) ⟨⟨i, Nat.le_refl _, rfl⟩, fun j' h => by omega⟩
  · obtain ⟨r, h1, m, h2, rfl⟩ := key
    exact ⟨m, h2, h1⟩
  · rintro m j hj ⟨⟨j0, q0, q1⟩, q2⟩
    left
    have hw := wrap_nat (i := j) (by omega)
    have g0 : (j : Int) ≤ i := by omega
    have g1 : (k : Int) < (hours l).length := by omega
    have g2 : (k : Int) ≥ 0 := by omega
    have g3 : (j : Int) < (hours l).length := by omega
    have g4 : (j : Int) ≥ 0 := by omega
    have hkl := hours_get (l := l) hk
    have hjl := hours_get (l := l) (show j < (hours l).length by omega)
    have hsm : SmB m := by rw [q1]; exact bl_small hl' hc _ _
    have h30 := G30_bl hl' hc j k
    have h31 := G31_ok m (bl l j k) hsm (bl_small hl' hc _ _)
    have pm : 0 < m.2.2.1 := by rw [q1]; exact bl_pos hc (by omega) hk
    have pj : 0 < (bl l j k).2.2.1 := bl_pos hc (by omega) hk
    cases hlt : ltB m (bl l j k) with
    | true =>
      rw [hlt] at h31
      refine ⟨bl l j k, ?_, ⟨j, by omega, rfl⟩, fun j' hj' => ?_⟩
      · simp only [b8_4, need_eq, ask_eq, ret_eq, no_eq, bnd_eq, run_eq, alt_eq, std_len, std_ofNat, std_nat, std_add, std_sub, std_leN, std_eqN, std_and, std_app, std_cut, std_lss, std_leq, std_gtr, std_geq, std_eql, std_neq, std_rowOk, std_rdI, rdD, bif_eq, ofNat_eq, List.length_map, List.getElem?_map, Option.map_some, Option.bind_some, Option.bind_none, Int.toNat_natCast, decide_eq_true_eq, Sum.elim_inl, Sum.elim_inr, if_true, if_false, decide_true, decide_false, Bool.false_eq_true, List.length_cons, List.length_nil, Nat.zero_add, ite_self, hrl, g0, g1, g2, g3, g4, rowsI_get, hkl, hjl, cells_I, dI_I, dI_some, h30, h31, std_ar_add, hw]
      · by_cases e : j' = j
        · subst e; rw [ltB_false]; exact Int.le_refl _
        · have := q2 j' (by omega)
          have pj' : 0 < (bl l j' k).2.2.1 := bl_pos hc (by omega) hk
          rw [ltB_false] at this ⊢
          rw [ltB_true] at hlt
          exact le_trans_B pm (Int.le_of_lt pj') (Int.le_of_lt pj) this (Int.le_of_lt hlt)
    | false =>
      rw [hlt] at h31
      refine ⟨m, ?_, ⟨j0, q0, q1⟩, fun j' hj' => ?_⟩
      · simp only [b8_4, need_eq, ask_eq, ret_eq, no_eq, bnd_eq, run_eq, alt_eq, std_len, std_ofNat, std_nat, std_add, std_sub, std_leN, std_eqN, std_and, std_app, std_cut, std_lss, std_leq, std_gtr, std_geq, std_eql, std_neq, std_rowOk, std_rdI, rdD, bif_eq, ofNat_eq, List.length_map, List.getElem?_map, Option.map_some, Option.bind_some, Option.bind_none, Int.toNat_natCast, decide_eq_true_eq, Sum.elim_inl, Sum.elim_inr, if_true, if_false, decide_true, decide_false, Bool.false_eq_true, List.length_cons, List.length_nil, Nat.zero_add, ite_self, hrl, g0, g1, g2, g3, g4, rowsI_get, hkl, hjl, cells_I, dI_I, dI_some, h30, h31, std_ar_add, hw]
      · by_cases e : j' = j
        · subst e; exact hlt
        · exact q2 j' (by omega)
  · rintro m ⟨q1, q2⟩
    have z : ¬ ((i + 1 : Nat) : Int) ≤ (i : Int) := by omega
    refine ⟨_, ?_, m, ⟨q1, fun j hj => q2 j (by omega)⟩, rfl⟩
    simp only [b8_4, need_eq, ask_eq, ret_eq, no_eq, bnd_eq, run_eq, alt_eq, std_len, std_ofNat, std_nat, std_add, std_sub, std_leN, std_eqN, std_and, std_app, std_cut, std_lss, std_leq, std_gtr, std_geq, std_eql, std_neq, std_rowOk, std_rdI, rdD, bif_eq, ofNat_eq, List.length_map, List.getElem?_map, Option.map_some, Option.bind_some, Option.bind_none, Int.toNat_natCast, decide_eq_true_eq, Sum.elim_inl, Sum.elim_inr, if_true, if_false, decide_true, decide_false, Bool.false_eq_true, z]
theorem in8_3 (v1 v2 a1 a2 a3 a4 b1 b2 b3 b4 : Int) {i : Nat} (hi : i < (hours l).length) :
    ∃ m, isWor l i (hours l).length m ∧ iter (b8_3 std) (rowsI (hours l), v1, v2, a1, a2, a3, a4, b1, b2, b3, b4, encM l, (i : Int), (i : Int), ()) =
      some (v1, v2, a1, a2, a3, a4, m.1, m.2.1, m.2.2.1, m.2.2.2, ()) := by
  have hl' : l.length ≤ 100000 := by omega
  have hn := hours_len l
  have hrl := rowsI_length (hours l)
  have key := iter_count (b := b8_3 std) (hours l).length (fun (m : Blk) k => (rowsI (hours l), v1, v2, a1, a2, a3, a4, m.1, m.2.1, m.2.2.1, m.2.2.2, encM l, (i : Int), (k : Int), ()))
    (fun m k => k = i ∨ (i < k ∧ isWor l i k m))
    (fun r => ∃ m, isWor l i (hours l).length m ∧ r = (v1, v2, a1, a2, a3, a4, m.1, m.2.1, m.2.2.1, m.2.2.2, ())) ?_ ?_ (b1, b2, b3, b4) i (by omega) (.inl rfl)
  · obtain ⟨r, h1, m, h2, rfl⟩ := key
    exact ⟨m, h2, h1⟩
  · intro m k hk hI
    left
    have hik : i ≤ k := by rcases hI with h | h <;> omega
    have hw := wrap_nat (i := k) (by omega)
    have g1 : (k : Int) < (hours l).length := by omega
    have g2 : (k : Int) ≥ 0 := by omega
    have g3 : (i : Int) < (hours l).length := by omega
    have g4 : (i : Int) ≥ 0 := by omega
    have hkl := hours_get (l := l) hk
    have hil := hours_get (l := l) hi
    have h30 := G30_bl hl' hc i k
    obtain ⟨c, hcm, hit⟩ := in8_4 hl hc v1 v2 a1 a2 a3 a4 m.1 m.2.1 m.2.2.1 m.2.2.2 hik hk
    rcases hI with rfl | ⟨h0, hb⟩
    · refine ⟨c, ?_, .inr ⟨by omega, isWor_first hl hc hcm⟩⟩
      simp only [b8_3, need_eq, ask_eq, ret_eq, no_eq, bnd_eq, run_eq, alt_eq, std_len, std_ofNat, std_nat, std_add, std_sub, std_leN, std_eqN, std_and, std_app, std_cut, std_lss, std_leq, std_gtr, std_geq, std_eql, std_neq, std_rowOk, std_rdI, rdD, bif_eq, ofNat_eq, List.length_map, List.getElem?_map, Option.map_some, Option.bind_some, Option.bind_none, Int.toNat_natCast, decide_eq_true_eq, Sum.elim_inl, Sum.elim_inr, if_true, if_false, decide_true, decide_false, Bool.false_eq_true, List.length_cons, List.length_nil, Nat.zero_add, ite_self, hrl, g1, g2, rowsI_get, hkl, cells_I, dI_I, dI_some, h30, hit, std_ar_add, hw]
    · have z : ¬ (k : Int) = i := by omega
      obtain ⟨⟨k0, r0, r1, hk0⟩, _⟩ := id hb
      have h31 := G31_ok c m (isMax_small hl hc hcm) (isMax_small hl hc hk0)
      have hst := isWor_step hl hc h0 hk hb hcm
      refine ⟨if ltB c m = true then c else m, ?_, .inr ⟨by omega, hst⟩⟩
      cases hlt : ltB c m with
      | true =>
        rw [hlt] at h31
        simp only [b8_3, need_eq, ask_eq, ret_eq, no_eq, bnd_eq, run_eq, alt_eq, std_len, std_ofNat, std_nat, std_add, std_sub, std_leN, std_eqN, std_and, std_app, std_cut, std_lss, std_leq, std_gtr, std_geq, std_eql, std_neq, std_rowOk, std_rdI, rdD, bif_eq, ofNat_eq, List.length_map, List.getElem?_map, Option.map_some, Option.bind_some, Option.bind_none, Int.toNat_natCast, decide_eq_true_eq, Sum.elim_inl, Sum.elim_inr, if_true, if_false, decide_true, decide_false, Bool.false_eq_true, List.length_cons, List.length_nil, Nat.zero_add, ite_self, hrl, g1, g2, g3, g4, z, rowsI_get, hkl, hil, cells_I, dI_I, dI_some, h30, hit, h31, std_ar_add, hw]
      | false =>
        rw [hlt] at h31
        simp only [b8_3, need_eq, ask_eq, ret_eq, no_eq, bnd_eq, run_eq, alt_eq, std_len, std_ofNat, std_nat, std_add, std_sub, std_leN, std_eqN, std_and, std_app, std_cut, std_lss, std_leq, std_gtr, std_geq, std_eql, std_neq, std_rowOk, std_rdI, rdD, bif_eq, ofNat_eq, List.length_map, List.getElem?_map, Option.map_some, Option.bind_some, Option.bind_none, Int.toNat_natCast, decide_eq_true_eq, Sum.elim_inl, Sum.elim_inr, if_true, if_false, decide_true, decide_false, Bool.false_eq_true, List.length_cons, List.length_nil, Nat.zero_add, ite_self, hrl, g1, g2, g3, g4, z, rowsI_get, hkl, hil, cells_I, dI_I, dI_some, h30, hit, h31, std_ar_add, hw]
  · intro m hI
    rcases hI with h | ⟨_, h⟩
    · omega
    · refine ⟨_, ?_, m, h, rfl⟩
      simp only [b8_3, need_eq, ask_eq, ret_eq, no_eq, bnd_eq, run_eq, alt_eq, std_len, std_ofNat, std_nat, std_add, std_sub, std_leN, std_eqN, std_and, std_app, std_cut, std_lss, std_leq, std_gtr, std_geq, std_eql, std_neq, std_rowOk, std_rdI, rdD, bif_eq, ofNat_eq, List.length_map, List.getElem?_map, Option.map_some, Option.bind_some, Option.bind_none, Int.toNat_natCast, decide_eq_true_eq, Sum.elim_inl, Sum.elim_inr, if_true, if_false, decide_true, decide_false, Bool.false_eq_true, hrl, Int.lt_irrefl]
end
theorem G27_ok' (l : List Mk) : G27 std (encM l, ()) = some (decide (chk l = 0), ()) := by
  unfold G27
  simp only [need_eq, ask_eq, ret_eq, no_eq, bnd_eq, run_eq, alt_eq, std_len, std_ofNat, std_nat, std_add, std_sub, std_leN, std_eqN, std_and, std_app, std_cut, std_lss, std_leq, std_gtr, std_geq, std_eql, std_neq, std_rowOk, std_rdI, rdD, bif_eq, ofNat_eq, List.length_map, List.getElem?_map, Option.map_some, Option.bind_some, Option.bind_none, Int.toNat_natCast, decide_eq_true_eq, Sum.elim_inl, Sum.elim_inr, if_true, if_false, decide_true, decide_false, Bool.false_eq_true, G17_ok]
theorem G8_ok (l : List Mk) (w : Int) (hw : 0 ≤ w ∧ w ≤ 255) : G8 std (encM l, w, ()) = some (true, ()) := by
  unfold G8
  by_cases h0 : chk l = 0
  · obtain ⟨hl, hc, h1⟩ := chk_card h0
    have hl' : l.length ≤ 100000 := by omega
    have hn := hours_len l
    have hrl := rowsI_length (hours l)
    have hpos := hours_pos h1
    obtain ⟨w, rfl⟩ := Int.eq_ofNat_of_zero_le hw.1
    have hcv : IntKind.i64.wrap (w : Int) = w := by rw [wrap64] <;> omega
    have hm : (w : Int).tmod ((hours l).length : Int) = ((w % (hours l).length : Nat) : Int) := rfl
    have hi : w % (hours l).length < (hours l).length := Nat.mod_lt _ hpos
    generalize w % (hours l).length = i at hm hi
    have f1 : (i : Int) ≥ 0 := by omega
    have f2 : (i : Int) < (hours l).length := by omega
    have f3 : ¬ ((hours l).length : Int) = 0 := by omega
    have hil := hours_get (l := l) hi
    have hrg := hour_range hc (List.mem_of_getElem? hil)
    have hval : ∃ t ∈ pairs 0 (brk l), t.1 ≤ i ∧ i < t.2 ∧ valB l (lim l i) = ((frac (mkB l t).2.2.2 (mkB l t).2.2.1).1, (frac (mkB l t).2.2.2 (mkB l t).2.2.1).2, 0) := by
      obtain ⟨t, t1, t2, t3, t4⟩ := lastB_at hl hc hi (Int.le_refl _) (fun h => lim_lt hl hc (by omega) h)
      refine ⟨t, t1, t2, t3, ?_⟩
      have ho : outOf 0 10000 (lim l i) = false := by
        unfold outOf
        exact decide_eq_false (by omega)
      unfold valB
      rw [if_pos h0, if_neg (by rw [ho]; exact Bool.false_ne_true), t4]
    obtain ⟨t, t1, t2, t3, t4⟩ := hval
    obtain ⟨c1, c2, c3⟩ := breaks_chain (W := cumW l) (S := cumS l) (cumW_mono hc)
    have h4 := pairs_lt c1 t t1
    have c2' : (brk l).getLastD 0 = (hours l).length := c2
    have h5 : t.2 ≤ (hours l).length := by have := h4.2.2; rw [show (breaks (cumW l) (cumS l) (hours l).length) = brk l from rfl, c2'] at this; exact this
    have h6 : 0 < (mkB l t).2.2.1 := by
      have := cumW_mono hc t.1 t.2 h4.2.1 h5
      show 0 < cumW l t.2 - cumW l t.1
      omega
    obtain ⟨lo, lb, e1⟩ := in8_1 hl hc (frac (mkB l t).2.2.2 (mkB l t).2.2.1).1 (frac (mkB l t).2.2.2 (mkB l t).2.2.1).2 0 0 0 0 hi
    obtain ⟨hg, hb, e3⟩ := in8_3 hl hc (frac (mkB l t).2.2.2 (mkB l t).2.2.1).1 (frac (mkB l t).2.2.2 (mkB l t).2.2.1).2 lo.1 lo.2.1 lo.2.2.1 lo.2.2.2 0 0 0 0 hi
    obtain ⟨lp, lm⟩ := isBest_mean hc hi lb t1 t2 t3
    obtain ⟨gp, gm⟩ := isWor_mean hl hc hi hb t1 t2 t3
    have ls := isBest_small hl' hc lb
    have gs : SmB hg := by
      obtain ⟨⟨_, _, _, h⟩, _⟩ := hb
      exact isMax_small hl hc h
    have fl : frac lo.2.2.2 lo.2.2.1 = frac (mkB l t).2.2.2 (mkB l t).2.2.1 := frac_eq lp h6 lm
    have fg : frac hg.2.2.2 hg.2.2.1 = frac (mkB l t).2.2.2 (mkB l t).2.2.1 := frac_eq gp h6 gm
    have r1 := G32_ok lo.2.2.1 lo.2.2.2 lp ls.2.2.1 (by have := ls.2.1; omega) (by have := ls.2.2.2; omega)
    have r2 := G32_ok hg.2.2.1 hg.2.2.2 gp gs.2.2.1 (by have := gs.2.1; omega) (by have := gs.2.2.2; omega)
    rw [fl] at r1
    rw [fg] at r2
    simp only [need_eq, ask_eq, ret_eq, no_eq, bnd_eq, run_eq, alt_eq, std_len, std_ofNat, std_nat, std_add, std_sub, std_leN, std_eqN, std_and, std_app, std_cut, std_lss, std_leq, std_gtr, std_geq, std_eql, std_neq, std_rowOk, std_rdI, rdD, bif_eq, ofNat_eq, List.length_map, List.getElem?_map, Option.map_some, Option.bind_some, Option.bind_none, Int.toNat_natCast, decide_eq_true_eq, Sum.elim_inl, Sum.elim_inr, if_true, if_false, decide_true, decide_false, Bool.false_eq_true, List.length_cons, List.length_nil, Nat.zero_add, ite_self, G27_ok', h0, Bool.not_true, G28_ok l hl' hc, hrl, f3, Bool.not_false, std_cvt, hcv, std_ar_rem, hm, f1, f2, rowsI_get, hil, cells_I, dI_I, dI_some, G21_ok, t4, e1, e3, r1, r2, G13_ok]
  · simp only [need_eq, ask_eq, ret_eq, no_eq, bnd_eq, run_eq, alt_eq, std_len, std_ofNat, std_nat, std_add, std_sub, std_leN, std_eqN, std_and, std_app, std_cut, std_lss, std_leq, std_gtr, std_geq, std_eql, std_neq, std_rowOk, std_rdI, rdD, bif_eq, ofNat_eq, List.length_map, List.getElem?_map, Option.map_some, Option.bind_some, Option.bind_none, Int.toNat_natCast, decide_eq_true_eq, Sum.elim_inl, Sum.elim_inr, if_true, if_false, decide_true, decide_false, Bool.false_eq_true, G27_ok', h0, Bool.not_false, G13_ok]
end Go.Am
end
