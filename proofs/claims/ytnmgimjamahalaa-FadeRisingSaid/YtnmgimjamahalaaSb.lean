/-
  What the printed functions compute: whether blocks prove a card.
-/
import Derived.Test.YtnmgimjamahalaaSa
import Derived.Test.YtnmgimjamahalaaAmE
import Derived.Test.YtnmgimjamahalaaGl
section
set_option linter.unusedVariables false
set_option linter.unusedSimpArgs false
set_option linter.unusedSectionVars false
namespace Go.Am
open M08
def MaxB (b : Blk) : Prop := -1099511627776 ≤ b.2.2.1 ∧ b.2.2.1 ≤ 1099511627776 ∧ -1099511627776 ≤ b.2.2.2 ∧ b.2.2.2 ≤ 1099511627776
def TiB (b : Blk) : Prop := 0 ≤ b.2.2.1 ∧ b.2.2.1 ≤ 480 ∧ 0 ≤ b.2.2.2 ∧ b.2.2.2 ≤ 48000
theorem mul_max {x y : Int} (hx : 0 ≤ x) (hx' : x ≤ 48000) (hy : -1099511627776 ≤ y) (hy' : y ≤ 1099511627776) : IntKind.i64.wrap (x * y) = x * y := by
  have a : x * y ≤ x * 1099511627776 := Int.mul_le_mul_of_nonneg_left hy' hx
  have b : x * (-1099511627776) ≤ x * y := Int.mul_le_mul_of_nonneg_left hy hx
  exact wrap64 _ (by omega) (by omega)
theorem mul_max' {x y : Int} (hx : 0 ≤ x) (hx' : x ≤ 48000) (hy : -1099511627776 ≤ y) (hy' : y ≤ 1099511627776) : IntKind.i64.wrap (y * x) = y * x := by
  rw [Int.mul_comm]; exact mul_max hx hx' hy hy'
theorem TiB.max {b : Blk} (h : TiB b) : MaxB b := by unfold TiB at h; unfold MaxB; omega
theorem G31_ti (a b : Blk) (ha : TiB a) (hb : MaxB b) : G31 std (a.1, a.2.1, a.2.2.1, a.2.2.2, b.1, b.2.1, b.2.2.1, b.2.2.2, ()) = some (ltB a b, ()) := by
  obtain ⟨a1, a2, a3, a4⟩ := ha
  obtain ⟨b1, b2, b3, b4⟩ := hb
  unfold G31
  simp only [need_eq, ask_eq, ret_eq, no_eq, bnd_eq, run_eq, alt_eq, std_len, std_ofNat, std_nat, std_add, std_sub, std_leN, std_eqN, std_and, std_app, std_cut, std_lss, std_leq, std_gtr, std_geq, std_eql, std_neq, std_rowOk, std_rdI, rdD, bif_eq, ofNat_eq, List.length_map, List.getElem?_map, Option.map_some, Option.bind_some, Option.bind_none, Int.toNat_natCast, decide_eq_true_eq, Sum.elim_inl, Sum.elim_inr, if_true, if_false, decide_true, decide_false, Bool.false_eq_true, std_ar_mul, mul_max a3 a4 b1 b2, mul_max' a1 (by omega) b3 b4, ltB]
section
variable {l : List Mk} (hl : l.length ≤ 24) (hc : ∀ m ∈ l, okMk m)
include hl hc
theorem cum_ti (k : Nat) : 0 ≤ cumW l k ∧ cumW l k ≤ 480 ∧ 0 ≤ cumS l k ∧ cumS l k ≤ 48000 := by
  have w0 := sumP_nonneg (f := fw) (c := fun h => decide (h < lim l k)) (l := l) fun m hm => by have := (okMk_fw (hc m hm)).1; omega
  have w1 := sumP_le (f := fw) (c := fun h => decide (h < lim l k)) (l := l) (k := 20) fun m hm => by have := okMk_fw (hc m hm); omega
  have s0 := sumP_nonneg (f := fs) (c := fun h => decide (h < lim l k)) (l := l) fun m hm => (okMk_fs (hc m hm)).1
  have s1 := sumP_le (f := fs) (c := fun h => decide (h < lim l k)) (l := l) (k := 2000) fun m hm => okMk_fs (hc m hm)
  unfold cumW cumS
  refine ⟨w0, ?_, s0, ?_⟩ <;> omega
theorem blk_ti (a b : Int) : TiB (blk l a b) := by
  have w0 := sumP_nonneg (f := fw) (c := fun h => decide (a ≤ h) && decide (h ≤ b)) (l := l) fun m hm => by have := (okMk_fw (hc m hm)).1; omega
  have w1 := sumP_le (f := fw) (c := fun h => decide (a ≤ h) && decide (h ≤ b)) (l := l) (k := 20) fun m hm => by have := okMk_fw (hc m hm); omega
  have s0 := sumP_nonneg (f := fs) (c := fun h => decide (a ≤ h) && decide (h ≤ b)) (l := l) fun m hm => (okMk_fs (hc m hm)).1
  have s1 := sumP_le (f := fs) (c := fun h => decide (a ≤ h) && decide (h ≤ b)) (l := l) (k := 2000) fun m hm => okMk_fs (hc m hm)
  unfold TiB blk
  refine ⟨w0, ?_, s0, ?_⟩ <;> simp only <;> omega
theorem mkB_ti {p q : Nat} (h : p < q) (hq : q ≤ (hours l).length) : TiB (mkB l (p, q)) := by
  have := blk_ti hl hc (lim l p) (lim l (q - 1))
  have e := mkB_bl (l := l) (by omega) hc h hq
  unfold bl at e
  rw [e] at this; exact this
theorem mkB_step {p i : Nat} (hi : p + i + 1 < (hours l).length) : ((mkB l (p, p + i + 1)).1, (mkB l (p + i + 1, p + i + 2)).2.1, (mkB l (p, p + i + 1)).2.2.1 + (mkB l (p + i + 1, p + i + 2)).2.2.1, (mkB l (p, p + i + 1)).2.2.2 + (mkB l (p + i + 1, p + i + 2)).2.2.2) = mkB l (p, p + (i + 1) + 1) := by
  simp only [mkB]
  have e : p + (i + 1) + 1 = p + i + 2 := by omega
  rw [e]
  refine Prod.ext rfl (Prod.ext rfl (Prod.ext ?_ ?_)) <;> simp only <;> omega
theorem sing_at {k : Nat} (hk : k < (hours l).length) : (encB (singles l))[k]? = some (eB (mkB l (k, k + 1))) := by
  rw [encB_get, single_at hc hk]; rfl
theorem in57_2 (RG : List (List D)) (c8 c10 c28 c29 : Int) (o6 n6 : Nat) (bo bl' : Nat) (L : Blk) (g : Bool) (B X : Blk) (p n i : Nat) (n' : Int) (hi : 0 < i) (hpi : p + i ≤ (hours l).length) :
    iter (b57_1_2 std) (RG, encB (singles l), c8, c10, c28, c29, o6, n6, bo, bl', L.1, L.2.1, L.2.2.1, L.2.2.2, g, B.1, B.2.1, B.2.2.1, B.2.2.2, X.1, X.2.1, X.2.2.1, X.2.2.2, (mkB l (p, p + 1)).1, (mkB l (p, p + 1)).2.1, (mkB l (p, p + 1)).2.2.1, (mkB l (p, p + 1)).2.2.2, p, n, n', (i : Int), p + 1, i - 1, ((i - 1 : Nat) : Int), 0, ()) =
      some (RG, encB (singles l), c8, c10, c28, c29, o6, n6, bo, bl', L.1, L.2.1, L.2.2.1, L.2.2.2, g, B.1, B.2.1, B.2.2.1, B.2.2.2, X.1, X.2.1, X.2.2.1, X.2.2.2, (mkB l (p, p + i)).1, (mkB l (p, p + i)).2.1, (mkB l (p, p + i)).2.2.1, (mkB l (p, p + i)).2.2.2, p, n, n', (i : Int), ()) := by
  have hn := hours_len l
  have key := iter_count (b := b57_1_2 std) (i - 1) (fun (_ : Unit) j => (RG, encB (singles l), c8, c10, c28, c29, o6, n6, bo, bl', L.1, L.2.1, L.2.2.1, L.2.2.2, g, B.1, B.2.1, B.2.2.1, B.2.2.2, X.1, X.2.1, X.2.2.1, X.2.2.2, (mkB l (p, p + j + 1)).1, (mkB l (p, p + j + 1)).2.1, (mkB l (p, p + j + 1)).2.2.1, (mkB l (p, p + j + 1)).2.2.2, p, n, n', (i : Int), p + 1, i - 1, ((i - 1 : Nat) : Int), (j : Int), ())) (fun _ _ => True)
    (fun r => r = (RG, encB (singles l), c8, c10, c28, c29, o6, n6, bo, bl', L.1, L.2.1, L.2.2.1, L.2.2.2, g, B.1, B.2.1, B.2.2.1, B.2.2.2, X.1, X.2.1, X.2.2.1, X.2.2.2, (mkB l (p, p + i)).1, (mkB l (p, p + i)).2.1, (mkB l (p, p + i)).2.2.1, (mkB l (p, p + i)).2.2.2, p, n, n', (i : Int), ())) ?_ ?_ () 0 (Nat.zero_le _) trivial
  · obtain ⟨r, h1, rfl⟩ := key
    exact h1
  · intro _ j hj _
    left
    refine ⟨(), ?_, trivial⟩
    have hw := wrap_nat (i := j) (by omega)
    have g1 : (j : Int) < ((i - 1 : Nat) : Int) := by omega
    have g2 : (0 : Int) ≤ j := by omega
    have e1 := sing_at hl hc (show p + 1 + j < (hours l).length by omega)
    have e2 := mkB_step hl hc (p := p) (i := j) (by omega)
    have t1 := mkB_ti hl hc (show p < p + j + 1 by omega) (by omega)
    have t2 := mkB_ti hl hc (show p + j + 1 < p + j + 2 by omega) (by omega)
    have a1 : p + 1 + j = p + j + 1 := by omega
    have a2 : p + j + 1 + 1 = p + j + 2 := by omega
    rw [a1, a2] at e1
    have w1 : IntKind.i64.wrap ((mkB l (p, p + j + 1)).2.2.1 + (mkB l (p + j + 1, p + j + 2)).2.2.1) = (mkB l (p, p + j + 1)).2.2.1 + (mkB l (p + j + 1, p + j + 2)).2.2.1 := wrap64 _ (by unfold TiB at t1 t2; omega) (by unfold TiB at t1 t2; omega)
    have w2 : IntKind.i64.wrap ((mkB l (p, p + j + 1)).2.2.2 + (mkB l (p + j + 1, p + j + 2)).2.2.2) = (mkB l (p, p + j + 1)).2.2.2 + (mkB l (p + j + 1, p + j + 2)).2.2.2 := wrap64 _ (by unfold TiB at t1 t2; omega) (by unfold TiB at t1 t2; omega)
    rw [← e2]
    simp only [b57_1_2, need_eq, ask_eq, ret_eq, no_eq, bnd_eq, run_eq, alt_eq, std_len, std_ofNat, std_nat, std_add, std_sub, std_leN, std_eqN, std_and, std_app, std_cut, std_lss, std_leq, std_gtr, std_geq, std_eql, std_neq, std_rowOk, std_rdI, rdD, bif_eq, ofNat_eq, List.length_map, List.getElem?_map, Option.map_some, Option.bind_some, Option.bind_none, Int.toNat_natCast, decide_eq_true_eq, Sum.elim_inl, Sum.elim_inr, if_true, if_false, decide_true, decide_false, Bool.false_eq_true, g1, g2, ge_iff_le, a1, e1, cells_eB, dI_eB0, dI_eB1, dI_eB2, dI_eB3, std_ar_add, hw, w1, w2]
  · intro _ _
    refine ⟨_, ?_, rfl⟩
    have a1 : p + (i - 1) + 1 = p + i := by omega
    simp only [b57_1_2, need_eq, ask_eq, ret_eq, no_eq, bnd_eq, run_eq, alt_eq, std_len, std_ofNat, std_nat, std_add, std_sub, std_leN, std_eqN, std_and, std_app, std_cut, std_lss, std_leq, std_gtr, std_geq, std_eql, std_neq, std_rowOk, std_rdI, rdD, bif_eq, ofNat_eq, List.length_map, List.getElem?_map, Option.map_some, Option.bind_some, Option.bind_none, Int.toNat_natCast, decide_eq_true_eq, Sum.elim_inl, Sum.elim_inr, if_true, if_false, decide_true, decide_false, Bool.false_eq_true, Int.lt_irrefl, a1]
theorem G57_ok (RG : List (List D)) (c8 c10 c28 c29 : Int) (o6 n6 : Nat) (B : Blk) (p n : Nat) (hB : MaxB B) (hn0 : 0 < n) (hpn : p + n ≤ (hours l).length) :
    ∃ good : Bool, (good = true ↔ ∀ i, i < n → ltB (mkB l (p, p + i + 1)) B = false) ∧
      G57_1 std (RG, encB (singles l), c8, c10, c28, c29, o6, n6, p, n, 0, 0, 0, 0, true, B.1, B.2.1, B.2.2.1, B.2.2.2, ()) = some (RG, encB (singles l), c8, c10, c28, c29, o6, n6, p, n, (mkB l (p, p + n)).1, (mkB l (p, p + n)).2.1, (mkB l (p, p + n)).2.2.1, (mkB l (p, p + n)).2.2.2, good, B.1, B.2.1, B.2.2.1, B.2.2.2, ()) := by
  have hn := hours_len l
  have key := iter_count (b := b57_1_1 std) n (fun (t : Blk × Bool) i => (RG, encB (singles l), c8, c10, c28, c29, o6, n6, p, n, t.1.1, t.1.2.1, t.1.2.2.1, t.1.2.2.2, t.2, B.1, B.2.1, B.2.2.1, B.2.2.2, p, n, (n : Int), (i : Int), ())) (fun t i => (0 < i → t.1 = mkB l (p, p + i)) ∧ (t.2 = true ↔ ∀ j, j < i → ltB (mkB l (p, p + j + 1)) B = false))
    (fun r => ∃ good : Bool, (good = true ↔ ∀ i, i < n → ltB (mkB l (p, p + i + 1)) B = false) ∧ r = (RG, encB (singles l), c8, c10, c28, c29, o6, n6, p, n, (mkB l (p, p + n)).1, (mkB l (p, p + n)).2.1, (mkB l (p, p + n)).2.2.1, (mkB l (p, p + n)).2.2.2, good, B.1, B.2.1, B.2.2.1, B.2.2.2, ())) ?_ ?_ ((0, 0, 0, 0), true) 0 (Nat.zero_le _) ⟨fun h => by omega, by simp⟩
  · obtain ⟨r, h1, good, h2, rfl⟩ := key
    have h1 : iter (b57_1_1 std) (RG, encB (singles l), c8, c10, c28, c29, o6, n6, p, n, 0, 0, 0, 0, true, B.1, B.2.1, B.2.2.1, B.2.2.2, p, n, (n : Int), 0, ()) = _ := h1
    refine ⟨good, h2, ?_⟩
    unfold G57_1
    simp only [need_eq, ask_eq, ret_eq, no_eq, bnd_eq, run_eq, alt_eq, std_len, std_ofNat, std_nat, std_add, std_sub, std_leN, std_eqN, std_and, std_app, std_cut, std_lss, std_leq, std_gtr, std_geq, std_eql, std_neq, std_rowOk, std_rdI, rdD, bif_eq, ofNat_eq, List.length_map, List.getElem?_map, Option.map_some, Option.bind_some, Option.bind_none, Int.toNat_natCast, decide_eq_true_eq, Sum.elim_inl, Sum.elim_inr, if_true, if_false, decide_true, decide_false, Bool.false_eq_true, h1]
  · rintro ⟨L, g⟩ i hi ⟨_, hg⟩
    left
    simp only at hg ⊢
    have hw := wrap_nat (i := i) (by omega)
    have g1 : (i : Int) < (n : Int) := by omega
    have g2 : (0 : Int) ≤ i := by omega
    have g3 : (0 : Int) < (n : Int) := by omega
    have e0 := sing_at hl hc (show p < (hours l).length by omega)
    have e1 := sing_at hl hc (show p + i < (hours l).length by omega)
    have t0 := mkB_ti hl hc (show p < p + i + 1 by omega) (by omega)
    have w0 : ¬ (mkB l (p, p + i + 1)).2.2.1 = 0 := by
      have := cumW_mono hc p (p + i + 1) (by omega) (by omega)
      simp only [mkB]; omega
    have hne : (if ((mkB l (p, p + i + 1)).2.2.1 = 0) then (if (mkB l (p, p + i + 1)).2.2.2 = 0 then true else false) else false) = false := by rw [if_neg w0]
    have m1 := mul_max t0.2.2.1 t0.2.2.2 hB.1 hB.2.1
    have m2 := mul_max' t0.1 (show (mkB l (p, p + i + 1)).2.2.1 ≤ 48000 by have := t0.2.1; omega) hB.2.2.1 hB.2.2.2
    refine ⟨(mkB l (p, p + i + 1), g && !ltB (mkB l (p, p + i + 1)) B), ?_, fun _ => rfl, ?_⟩
    · by_cases h0 : i = 0
      · subst h0
        have z : ¬ (((0 : Nat) : Int) > 0) := by omega
        simp only [b57_1_1, need_eq, ask_eq, ret_eq, no_eq, bnd_eq, run_eq, alt_eq, std_len, std_ofNat, std_nat, std_add, std_sub, std_leN, std_eqN, std_and, std_app, std_cut, std_lss, std_leq, std_gtr, std_geq, std_eql, std_neq, std_rowOk, std_rdI, rdD, bif_eq, ofNat_eq, List.length_map, List.getElem?_map, Option.map_some, Option.bind_some, Option.bind_none, Int.toNat_natCast, decide_eq_true_eq, Sum.elim_inl, Sum.elim_inr, if_true, if_false, decide_true, decide_false, Bool.false_eq_true, g1, g2, g3, ge_iff_le, Int.le_refl, z, Nat.add_zero, Int.toNat_zero, e0, cells_eB, dI_eB0, dI_eB1, dI_eB2, dI_eB3]
        simp only [Nat.add_zero] at w0 m1 m2 ⊢
        cases g <;> simp only [need_eq, ask_eq, ret_eq, no_eq, bnd_eq, run_eq, alt_eq, std_len, std_ofNat, std_nat, std_add, std_sub, std_leN, std_eqN, std_and, std_app, std_cut, std_lss, std_leq, std_gtr, std_geq, std_eql, std_neq, std_rowOk, std_rdI, rdD, bif_eq, ofNat_eq, List.length_map, List.getElem?_map, Option.map_some, Option.bind_some, Option.bind_none, Int.toNat_natCast, decide_eq_true_eq, Sum.elim_inl, Sum.elim_inr, if_true, if_false, decide_true, decide_false, Bool.false_eq_true, w0, std_ar_mul, m1, m2, std_ar_add, hw, ltB, Bool.false_and, Bool.true_and]
        all_goals by_cases hlt : (mkB l (p, p + 1)).2.2.2 * B.2.2.1 < B.2.2.2 * (mkB l (p, p + 1)).2.2.1 <;> simp only [need_eq, ask_eq, ret_eq, no_eq, bnd_eq, run_eq, alt_eq, std_len, std_ofNat, std_nat, std_add, std_sub, std_leN, std_eqN, std_and, std_app, std_cut, std_lss, std_leq, std_gtr, std_geq, std_eql, std_neq, std_rowOk, std_rdI, rdD, bif_eq, ofNat_eq, List.length_map, List.getElem?_map, Option.map_some, Option.bind_some, Option.bind_none, Int.toNat_natCast, decide_eq_true_eq, Sum.elim_inl, Sum.elim_inr, if_true, if_false, decide_true, decide_false, Bool.false_eq_true, hlt, Bool.not_true, Bool.not_false]
        all_goals first | rfl | exact congrArg some rfl
      · have z : ((i : Int) > 0) := by omega
        have h2 := in57_2 hl hc RG c8 c10 c28 c29 o6 n6 p n L g B (mkB l (p + i, p + i + 1)) p n i (n : Int) (by omega) (by omega)
        have f1 : (0 : Int) ≤ 1 := by omega
        have f2 : (1 : Int) ≤ (i : Int) := by omega
        have f3 : (i : Int) ≤ ((n : Nat) : Int) := by omega
        have f4 : (1 : Int).toNat = 1 := rfl
        have f5 : p + 1 + (i - 1) ≤ (hours l).length := by omega
        have hsl : (singles l).length = (hours l).length := by simp [singles]
        have t1 := mkB_ti hl hc (show p < p + i by omega) (by omega)
        have t2 := mkB_ti hl hc (show p + i < p + i + 1 by omega) (by omega)
        have e2 := mkB_step hl hc (p := p) (i := i - 1) (by omega)
        have a1 : p + (i - 1) + 1 = p + i := by omega
        have a2 : p + (i - 1) + 2 = p + i + 1 := by omega
        have a3 : p + (i - 1 + 1) + 1 = p + i + 1 := by omega
        rw [a1, a2, a3] at e2
        have w1 : IntKind.i64.wrap ((mkB l (p, p + i)).2.2.1 + (mkB l (p + i, p + i + 1)).2.2.1) = (mkB l (p, p + i + 1)).2.2.1 := by rw [← e2]; exact wrap64 _ (by unfold TiB at t1 t2; omega) (by unfold TiB at t1 t2; omega)
        have w2 : IntKind.i64.wrap ((mkB l (p, p + i)).2.2.2 + (mkB l (p + i, p + i + 1)).2.2.2) = (mkB l (p, p + i + 1)).2.2.2 := by rw [← e2]; exact wrap64 _ (by unfold TiB at t1 t2; omega) (by unfold TiB at t1 t2; omega)
        have b1 : (mkB l (p, p + i)).1 = (mkB l (p, p + i + 1)).1 := rfl
        have b2 : (mkB l (p + i, p + i + 1)).2.1 = (mkB l (p, p + i + 1)).2.1 := rfl
        rw [b1, b2] at h2
        simp only [b57_1_1, need_eq, ask_eq, ret_eq, no_eq, bnd_eq, run_eq, alt_eq, std_len, std_ofNat, std_nat, std_add, std_sub, std_leN, std_eqN, std_and, std_app, std_cut, std_lss, std_leq, std_gtr, std_geq, std_eql, std_neq, std_rowOk, std_rdI, rdD, bif_eq, ofNat_eq, List.length_map, List.getElem?_map, Option.map_some, Option.bind_some, Option.bind_none, Int.toNat_natCast, decide_eq_true_eq, Sum.elim_inl, Sum.elim_inr, if_true, if_false, decide_true, decide_false, Bool.false_eq_true, g1, g2, g3, ge_iff_le, Int.le_refl, z, Nat.add_zero, Int.toNat_zero, e0, e1, cells_eB, dI_eB0, dI_eB1, dI_eB2, dI_eB3, f1, f2, f3, f4, Bool.and_true, Bool.true_and, encB_length, hsl, f5, h2, std_ar_add, w1, w2, b2]
        cases g <;> simp only [need_eq, ask_eq, ret_eq, no_eq, bnd_eq, run_eq, alt_eq, std_len, std_ofNat, std_nat, std_add, std_sub, std_leN, std_eqN, std_and, std_app, std_cut, std_lss, std_leq, std_gtr, std_geq, std_eql, std_neq, std_rowOk, std_rdI, rdD, bif_eq, ofNat_eq, List.length_map, List.getElem?_map, Option.map_some, Option.bind_some, Option.bind_none, Int.toNat_natCast, decide_eq_true_eq, Sum.elim_inl, Sum.elim_inr, if_true, if_false, decide_true, decide_false, Bool.false_eq_true, w0, std_ar_mul, m1, m2, std_ar_add, hw, ltB, Bool.false_and, Bool.true_and, encB_length, hsl]
        all_goals by_cases hlt : (mkB l (p, p + i + 1)).2.2.2 * B.2.2.1 < B.2.2.2 * (mkB l (p, p + i + 1)).2.2.1 <;> (try simp only [need_eq, ask_eq, ret_eq, no_eq, bnd_eq, run_eq, alt_eq, std_len, std_ofNat, std_nat, std_add, std_sub, std_leN, std_eqN, std_and, std_app, std_cut, std_lss, std_leq, std_gtr, std_geq, std_eql, std_neq, std_rowOk, std_rdI, rdD, bif_eq, ofNat_eq, List.length_map, List.getElem?_map, Option.map_some, Option.bind_some, Option.bind_none, Int.toNat_natCast, decide_eq_true_eq, Sum.elim_inl, Sum.elim_inr, if_true, if_false, decide_true, decide_false, Bool.false_eq_true, hlt, Bool.not_true, Bool.not_false])
        all_goals rfl
    · constructor
      · intro h j hj
        simp only [Bool.and_eq_true, Bool.not_eq_true'] at h
        rcases Nat.eq_or_lt_of_le (Nat.le_of_lt_succ hj) with rfl | hj
        · exact h.2
        · exact hg.1 h.1 j hj
      · intro h
        simp only [Bool.and_eq_true, Bool.not_eq_true']
        exact ⟨hg.2 fun j hj => h j (by omega), h i (by omega)⟩
  · rintro ⟨L, g⟩ ⟨h1, h2⟩
    have h1 := h1 hn0
    simp only at h1 h2
    refine ⟨_, ?_, g, h2, rfl⟩
    rw [h1]
    simp only [b57_1_1, need_eq, ask_eq, ret_eq, no_eq, bnd_eq, run_eq, alt_eq, std_len, std_ofNat, std_nat, std_add, std_sub, std_leN, std_eqN, std_and, std_app, std_cut, std_lss, std_leq, std_gtr, std_geq, std_eql, std_neq, std_rowOk, std_rdI, rdD, bif_eq, ofNat_eq, List.length_map, List.getElem?_map, Option.map_some, Option.bind_some, Option.bind_none, Int.toNat_natCast, decide_eq_true_eq, Sum.elim_inl, Sum.elim_inr, if_true, if_false, decide_true, decide_false, Bool.false_eq_true, Int.lt_irrefl]
end
end Go.Am
end

section
set_option linter.unusedVariables false
set_option linter.unusedSimpArgs false
set_option linter.unusedSectionVars false
namespace Go.Am
open M08
theorem run_append {l : List Mk} : ∀ (g1 : List Blk) {g2 : List Blk} {a : Nat} {prev : Option Blk}, runB l a prev (g1 ++ g2) = (runB l a prev g1).bind fun a' => runB l a' (g1.getLast?.or prev) g2
  | [], g2, a, prev => by simp [runB]
  | b :: g1, g2, a, prev => by
    simp only [List.cons_append, runB]
    cases stepB l a prev b with
    | none => rfl
    | some a' =>
      simp only [Option.bind_some]
      rw [run_append g1]
      congr 1
      funext a''
      cases g1 with
      | nil => simp
      | cons x g1 => simp [List.getLast?_cons]
def chkB (l : List Mk) (g : List Blk) : Int := if chk l = 0 then (if g = pooled l then 0 else 14) else chk l
section
variable {l : List Mk} (hl : l.length ≤ 24) (hc : ∀ m ∈ l, okMk m)
include hl hc
theorem run_le {g : List Blk} {a : Nat} (h : runB l 0 none g = some a) : a ≤ (hours l).length := by
  obtain ⟨_, _, _, _, h, _⟩ := run_chain hc (Nat.zero_le _) h
  exact h
theorem in19_2 (RG : List (List D)) (b : Blk) (off : Nat) (c8 c28 c29 : Int) (ho : off ≤ (hours l).length) :
    iter (b19_2 std) (encB (singles l), RG, b.1, b.2.1, b.2.2.1, b.2.2.2, off, (hours l).length - off, c8, 0, c28, c29, ()) = some (encB (singles l), RG, b.1, b.2.1, b.2.2.1, b.2.2.2, off, (hours l).length - off, c8, ((cnt l off b.2.1 : Nat) : Int), c28, c29, ()) := by
  have hn := hours_len l
  have hle := cnt_le hc off b.2.1
  have key := iter_count (b := b19_2 std) (cnt l off b.2.1) (fun (_ : Unit) n => (encB (singles l), RG, b.1, b.2.1, b.2.2.1, b.2.2.2, off, (hours l).length - off, c8, (n : Int), c28, c29, ())) (fun _ _ => True)
    (fun r => r = (encB (singles l), RG, b.1, b.2.1, b.2.2.1, b.2.2.2, off, (hours l).length - off, c8, ((cnt l off b.2.1 : Nat) : Int), c28, c29, ())) ?_ ?_ () 0 (Nat.zero_le _) trivial
  · obtain ⟨r, h1, rfl⟩ := key
    exact h1
  · intro _ n hn' _
    left
    have hw := wrap_nat (i := n) (by omega)
    have g1 : (n : Int) < (((hours l).length - off : Nat) : Int) := by omega
    have g2 : (0 : Int) ≤ n := by omega
    have e := sing_at hl hc (show off + n < (hours l).length by omega)
    have hto : (mkB l (off + n, off + n + 1)).2.1 ≤ b.2.1 := (takeWhile_len hc _ off rfl n (by omega)).1 hn'
    refine ⟨(), ?_, trivial⟩
    simp only [b19_2, need_eq, ask_eq, ret_eq, no_eq, bnd_eq, run_eq, alt_eq, std_len, std_ofNat, std_nat, std_add, std_sub, std_leN, std_eqN, std_and, std_app, std_cut, std_lss, std_leq, std_gtr, std_geq, std_eql, std_neq, std_rowOk, std_rdI, rdD, bif_eq, ofNat_eq, List.length_map, List.getElem?_map, Option.map_some, Option.bind_some, Option.bind_none, Int.toNat_natCast, decide_eq_true_eq, Sum.elim_inl, Sum.elim_inr, if_true, if_false, decide_true, decide_false, Bool.false_eq_true, g1, g2, ge_iff_le, e, cells_eB, dI_eB0, dI_eB1, dI_eB2, dI_eB3, hto, std_ar_add, hw]
  · intro _ _
    refine ⟨_, ?_, rfl⟩
    have g2 : (0 : Int) ≤ ((cnt l off b.2.1 : Nat) : Int) := by omega
    by_cases h : cnt l off b.2.1 < (hours l).length - off
    · have g1 : ((cnt l off b.2.1 : Nat) : Int) < (((hours l).length - off : Nat) : Int) := by omega
      have e := sing_at hl hc (show off + cnt l off b.2.1 < (hours l).length by omega)
      have hto : ¬ (mkB l (off + cnt l off b.2.1, off + cnt l off b.2.1 + 1)).2.1 ≤ b.2.1 := fun h' => by
        have := (takeWhile_len hc _ off rfl (cnt l off b.2.1) (by omega)).2 h'
        omega
      simp only [b19_2, need_eq, ask_eq, ret_eq, no_eq, bnd_eq, run_eq, alt_eq, std_len, std_ofNat, std_nat, std_add, std_sub, std_leN, std_eqN, std_and, std_app, std_cut, std_lss, std_leq, std_gtr, std_geq, std_eql, std_neq, std_rowOk, std_rdI, rdD, bif_eq, ofNat_eq, List.length_map, List.getElem?_map, Option.map_some, Option.bind_some, Option.bind_none, Int.toNat_natCast, decide_eq_true_eq, Sum.elim_inl, Sum.elim_inr, if_true, if_false, decide_true, decide_false, Bool.false_eq_true, g1, g2, ge_iff_le, e, cells_eB, dI_eB0, dI_eB1, dI_eB2, dI_eB3, hto]
    · have g1 : ¬ ((cnt l off b.2.1 : Nat) : Int) < (((hours l).length - off : Nat) : Int) := by omega
      simp only [b19_2, need_eq, ask_eq, ret_eq, no_eq, bnd_eq, run_eq, alt_eq, std_len, std_ofNat, std_nat, std_add, std_sub, std_leN, std_eqN, std_and, std_app, std_cut, std_lss, std_leq, std_gtr, std_geq, std_eql, std_neq, std_rowOk, std_rdI, rdD, bif_eq, ofNat_eq, List.length_map, List.getElem?_map, Option.map_some, Option.bind_some, Option.bind_none, Int.toNat_natCast, decide_eq_true_eq, Sum.elim_inl, Sum.elim_inr, if_true, if_false, decide_true, decide_false, Bool.false_eq_true, g1]
theorem splice_all (g : List Blk) (x : List D) : encB g ++ (List.replicate g.length x).drop g.length = encB g := by
  rw [List.drop_of_length_le (by simp)]
  simp
theorem in19_1 (g : List Blk) (hg : ∀ b ∈ g, MaxB b) (hgl : g.length ≤ 1000000) :
    ∃ r, iter (b19_1 std) (encB (singles l), encB g, 0, (hours l).length, ((g.length : Nat) : Int), 0, ()) = some r ∧ ((r = Sum.inl (14, ()) ∧ runB l 0 none g ≠ some (hours l).length) ∨ (∃ off, r = Sum.inr (encB (singles l), off, (hours l).length - off, ()) ∧ runB l 0 none g = some off)) := by
  have hn := hours_len l
  have hgel := encB_length g
  have key := iter_count (b := b19_1 std) g.length (fun (off : Nat) i => (encB (singles l), encB g, off, (hours l).length - off, ((g.length : Nat) : Int), (i : Int), ())) (fun off i => runB l 0 none (g.take i) = some off)
    (fun r => (r = Sum.inl (14, ()) ∧ runB l 0 none g ≠ some (hours l).length) ∨ (∃ off, r = Sum.inr (encB (singles l), off, (hours l).length - off, ()) ∧ runB l 0 none g = some off)) ?_ ?_ 0 0 (Nat.zero_le _) rfl
  · obtain ⟨r, h1, h2⟩ := key
    exact ⟨r, h1, h2⟩
  · intro off i hi hrun
    obtain ⟨b, hb⟩ := get_some hi
    have ho := run_le hl hc hrun
    have hbm := hg b (List.mem_of_getElem? hb)
    have hw := wrap_nat (i := i) (by omega)
    have g1 : (i : Int) < (g.length : Int) := by omega
    have g2 : (0 : Int) ≤ i := by omega
    have hcl := cnt_le hc off b.2.1
    have htk : g.take (i + 1) = g.take i ++ [b] := by
      obtain ⟨h1, rfl⟩ := List.getElem?_eq_some_iff.1 hb
      exact List.take_succ_eq_append_getElem h1
    have hprev : (g.take i).getLast?.or none = if h : 0 < i then g[i - 1]? else none := by
      by_cases h : 0 < i
      · rw [dif_pos h, List.getLast?_eq_getElem?, List.length_take, Nat.min_eq_left (by omega), List.getElem?_take_of_lt (by omega)]; simp
      · have : i = 0 := by omega
        subst this; simp
    have hstep : ∀ prev, (g.take i).getLast?.or none = prev → runB l 0 none (g.take (i + 1)) = stepB l off prev b := by
      intro prev hp
      rw [htk, run_append, hrun, Option.bind_some, hp]
      simp only [runB]
      cases stepB l off prev b <;> rfl
    have hwhole : ∀ prev, (g.take i).getLast?.or none = prev → stepB l off prev b = none → runB l 0 none g ≠ some (hours l).length := by
      intro prev hp hs
      have e : g = g.take (i + 1) ++ g.drop (i + 1) := (List.take_append_drop _ _).symm
      rw [e, run_append, hstep prev hp, hs]
      simp
    have h19 := in19_2 hl hc (encB g) b off (i : Int) ((g.length : Nat) : Int) (i : Int) ho
    have eb : (encB g)[i]? = some (eB b) := by rw [encB_get, hb]; rfl
    generalize hk : cnt l off b.2.1 = k at *
    by_cases hk0 : k = 0
    · right
      refine ⟨_, ?_, .inl ⟨rfl, hwhole _ rfl (by unfold stepB; rw [if_neg]; rw [hk]; intro h; exact h.1 hk0)⟩⟩
      subst hk0
      simp only [b19_1, need_eq, ask_eq, ret_eq, no_eq, bnd_eq, run_eq, alt_eq, std_len, std_ofNat, std_nat, std_add, std_sub, std_leN, std_eqN, std_and, std_app, std_cut, std_lss, std_leq, std_gtr, std_geq, std_eql, std_neq, std_rowOk, std_rdI, rdD, bif_eq, ofNat_eq, List.length_map, List.getElem?_map, Option.map_some, Option.bind_some, Option.bind_none, Int.toNat_natCast, decide_eq_true_eq, Sum.elim_inl, Sum.elim_inr, if_true, if_false, decide_true, decide_false, Bool.false_eq_true, g1, g2, ge_iff_le, hgel, Nat.zero_add, eb, cells_eB, dI_eB0, dI_eB1, dI_eB2, dI_eB3, h19, show ((0 : Nat) : Int) = 0 from rfl]
    · obtain ⟨good, hgood, h57⟩ := G57_ok hl hc (encB g) (i : Int) (k : Int) ((g.length : Nat) : Int) (i : Int) off ((hours l).length - off) b off k hbm (by omega) (by omega)
      have f0 : ¬ ((k : Nat) : Int) = 0 := by omega
      have f1 : (0 : Int) ≤ (k : Int) := by omega
      have f2 : (k : Int) ≤ (((hours l).length - off : Nat) : Int) := by omega
      have hsl : (singles l).length = (hours l).length := by simp [singles]
      have hsel : (encB (singles l)).length = (hours l).length := by rw [encB_length, hsl]
      have f3 : off + k ≤ (hours l).length := by omega
      have h44 : ∀ x, G44 std x = some (x.1, x.2.1, x.2.2.1, ()) := fun x => rfl
      have heq : ∀ (x y : Blk), (x.1 = y.1 ∧ x.2.1 = y.2.1 ∧ x.2.2.1 = y.2.2.1 ∧ x.2.2.2 = y.2.2.2) ↔ x = y := fun x y => ⟨fun ⟨a, b, c, d⟩ => Prod.ext a (Prod.ext b (Prod.ext c d)), fun h => by subst h; exact ⟨rfl, rfl, rfl, rfl⟩⟩
      by_cases heb : mkB l (off, off + k) = b
      · have hee := (heq _ _).2 heb
        by_cases hgd : good = true
        · have hgi := hgood.1 hgd
          by_cases hi0 : i = 0
          · have z : ¬ ((i : Nat) : Int) > 0 := by omega
            left
            refine ⟨off + k, ?_, ?_⟩
            · simp only [b19_1, need_eq, ask_eq, ret_eq, no_eq, bnd_eq, run_eq, alt_eq, std_len, std_ofNat, std_nat, std_add, std_sub, std_leN, std_eqN, std_and, std_app, std_cut, std_lss, std_leq, std_gtr, std_geq, std_eql, std_neq, std_rowOk, std_rdI, rdD, bif_eq, ofNat_eq, List.length_map, List.getElem?_map, Option.map_some, Option.bind_some, Option.bind_none, Int.toNat_natCast, decide_eq_true_eq, Sum.elim_inl, Sum.elim_inr, if_true, if_false, decide_true, decide_false, Bool.false_eq_true, g1, g2, ge_iff_le, hgel, Nat.zero_add, eb, cells_eB, dI_eB0, dI_eB1, dI_eB2, dI_eB3, h19, f0, f1, f2, Int.le_refl, Bool.and_true, Bool.true_and, h44, Int.toNat_zero, Nat.add_zero, Nat.sub_zero, hsel, f3, h57, hee, hgd, z, std_ar_add, hw, Nat.le_refl, Nat.sub_sub]
            · rw [hstep none (by rw [hprev, dif_neg (by omega)])]
              unfold stepB
              rw [hk, if_pos ⟨hk0, heb, hgi, fun p h => by cases h⟩]
          · obtain ⟨pv, hpv⟩ := get_some (l := g) (i := i - 1) (by omega)
            have hprev' : (g.take i).getLast?.or none = some pv := by rw [hprev, dif_pos (by omega)]; exact hpv
            have z : ((i : Nat) : Int) > 0 := by omega
            have z1 : IntKind.i64.wrap ((i : Int) - 1) = ((i - 1 : Nat) : Int) := by rw [wrap64] <;> omega
            have z2 : (0 : Int) ≤ ((i - 1 : Nat) : Int) := by omega
            have z3 : ((i - 1 : Nat) : Int) < (g.length : Int) := by omega
            have ep : (encB g)[i - 1]? = some (eB pv) := by rw [encB_get, hpv]; rfl
            have hpm := hg pv (List.mem_of_getElem? hpv)
            have tb := mkB_ti hl hc (show off < off + k by omega) f3
            rw [heb] at tb
            have m1 := mul_max' (y := pv.2.2.2) tb.1 (show b.2.2.1 ≤ 48000 by have := tb.2.1; omega) hpm.2.2.1 hpm.2.2.2
            have m2 := mul_max (y := pv.2.2.1) tb.2.2.1 tb.2.2.2 hpm.1 hpm.2.1
            by_cases hlt : pv.2.2.2 * b.2.2.1 < b.2.2.2 * pv.2.2.1
            · left
              refine ⟨off + k, ?_, ?_⟩
              · simp only [b19_1, need_eq, ask_eq, ret_eq, no_eq, bnd_eq, run_eq, alt_eq, std_len, std_ofNat, std_nat, std_add, std_sub, std_leN, std_eqN, std_and, std_app, std_cut, std_lss, std_leq, std_gtr, std_geq, std_eql, std_neq, std_rowOk, std_rdI, rdD, bif_eq, ofNat_eq, List.length_map, List.getElem?_map, Option.map_some, Option.bind_some, Option.bind_none, Int.toNat_natCast, decide_eq_true_eq, Sum.elim_inl, Sum.elim_inr, if_true, if_false, decide_true, decide_false, Bool.false_eq_true, g1, g2, ge_iff_le, hgel, Nat.zero_add, eb, cells_eB, dI_eB0, dI_eB1, dI_eB2, dI_eB3, h19, f0, f1, f2, Int.le_refl, Bool.and_true, Bool.true_and, h44, Int.toNat_zero, Nat.add_zero, Nat.sub_zero, hsel, f3, h57, hee, hgd, z, std_ar_add, std_ar_sub, std_ar_mul, z1, z2, z3, ep, m1, m2, hlt, hw, Nat.le_refl, Nat.sub_sub]
              · rw [hstep (some pv) hprev']
                unfold stepB
                rw [hk, if_pos ⟨hk0, heb, hgi, fun p h => by cases h; rw [ltB_true]; exact hlt⟩]
            · right
              refine ⟨_, ?_, .inl ⟨rfl, hwhole (some pv) hprev' (by unfold stepB; rw [if_neg]; rw [hk]; intro h; exact hlt (ltB_true.1 (h.2.2.2 pv rfl)))⟩⟩
              simp only [b19_1, need_eq, ask_eq, ret_eq, no_eq, bnd_eq, run_eq, alt_eq, std_len, std_ofNat, std_nat, std_add, std_sub, std_leN, std_eqN, std_and, std_app, std_cut, std_lss, std_leq, std_gtr, std_geq, std_eql, std_neq, std_rowOk, std_rdI, rdD, bif_eq, ofNat_eq, List.length_map, List.getElem?_map, Option.map_some, Option.bind_some, Option.bind_none, Int.toNat_natCast, decide_eq_true_eq, Sum.elim_inl, Sum.elim_inr, if_true, if_false, decide_true, decide_false, Bool.false_eq_true, g1, g2, ge_iff_le, hgel, Nat.zero_add, eb, cells_eB, dI_eB0, dI_eB1, dI_eB2, dI_eB3, h19, f0, f1, f2, Int.le_refl, Bool.and_true, Bool.true_and, h44, Int.toNat_zero, Nat.add_zero, Nat.sub_zero, hsel, f3, h57, hee, hgd, z, std_ar_add, std_ar_sub, std_ar_mul, z1, z2, z3, ep, m1, m2, hlt, hw, Nat.le_refl]
        · have hgf : good = false := by simpa using hgd
          right
          refine ⟨_, ?_, .inl ⟨rfl, hwhole _ rfl (by unfold stepB; rw [if_neg]; rw [hk]; intro h; exact hgd (hgood.2 h.2.2.1))⟩⟩
          simp only [b19_1, need_eq, ask_eq, ret_eq, no_eq, bnd_eq, run_eq, alt_eq, std_len, std_ofNat, std_nat, std_add, std_sub, std_leN, std_eqN, std_and, std_app, std_cut, std_lss, std_leq, std_gtr, std_geq, std_eql, std_neq, std_rowOk, std_rdI, rdD, bif_eq, ofNat_eq, List.length_map, List.getElem?_map, Option.map_some, Option.bind_some, Option.bind_none, Int.toNat_natCast, decide_eq_true_eq, Sum.elim_inl, Sum.elim_inr, if_true, if_false, decide_true, decide_false, Bool.false_eq_true, g1, g2, ge_iff_le, hgel, Nat.zero_add, eb, cells_eB, dI_eB0, dI_eB1, dI_eB2, dI_eB3, h19, f0, f1, f2, Int.le_refl, Bool.and_true, Bool.true_and, h44, Int.toNat_zero, Nat.add_zero, Nat.sub_zero, hsel, f3, h57, hee, hgf]
      · have hne : ¬ ((mkB l (off, off + k)).1 = b.1 ∧ (mkB l (off, off + k)).2.1 = b.2.1 ∧ (mkB l (off, off + k)).2.2.1 = b.2.2.1 ∧ (mkB l (off, off + k)).2.2.2 = b.2.2.2) := fun h => heb ((heq _ _).1 h)
        have hne' : (if (mkB l (off, off + k)).1 = b.1 then if (mkB l (off, off + k)).2.1 = b.2.1 then if (mkB l (off, off + k)).2.2.1 = b.2.2.1 then if (mkB l (off, off + k)).2.2.2 = b.2.2.2 then true else false else false else false else false) = false := by
          split
          · split
            · split
              · split
                · exact absurd ⟨by assumption, by assumption, by assumption, by assumption⟩ hne
                · rfl
              · rfl
            · rfl
          · rfl
        right
        refine ⟨_, ?_, .inl ⟨rfl, hwhole _ rfl (by unfold stepB; rw [if_neg]; rw [hk]; intro h; exact heb h.2.1)⟩⟩
        simp only [b19_1, need_eq, ask_eq, ret_eq, no_eq, bnd_eq, run_eq, alt_eq, std_len, std_ofNat, std_nat, std_add, std_sub, std_leN, std_eqN, std_and, std_app, std_cut, std_lss, std_leq, std_gtr, std_geq, std_eql, std_neq, std_rowOk, std_rdI, rdD, bif_eq, ofNat_eq, List.length_map, List.getElem?_map, Option.map_some, Option.bind_some, Option.bind_none, Int.toNat_natCast, decide_eq_true_eq, Sum.elim_inl, Sum.elim_inr, if_true, if_false, decide_true, decide_false, Bool.false_eq_true, g1, g2, ge_iff_le, hgel, Nat.zero_add, eb, cells_eB, dI_eB0, dI_eB1, dI_eB2, dI_eB3, h19, f0, f1, f2, Int.le_refl, Bool.and_true, Bool.true_and, h44, Int.toNat_zero, Nat.add_zero, Nat.sub_zero, hsel, f3, h57, hne']
  · intro off hrun
    rw [List.take_length] at hrun
    refine ⟨_, ?_, .inr ⟨off, rfl, hrun⟩⟩
    simp only [b19_1, need_eq, ask_eq, ret_eq, no_eq, bnd_eq, run_eq, alt_eq, std_len, std_ofNat, std_nat, std_add, std_sub, std_leN, std_eqN, std_and, std_app, std_cut, std_lss, std_leq, std_gtr, std_geq, std_eql, std_neq, std_rowOk, std_rdI, rdD, bif_eq, ofNat_eq, List.length_map, List.getElem?_map, Option.map_some, Option.bind_some, Option.bind_none, Int.toNat_natCast, decide_eq_true_eq, Sum.elim_inl, Sum.elim_inr, if_true, if_false, decide_true, decide_false, Bool.false_eq_true, Int.lt_irrefl]
theorem G19_ok (g : List Blk) (hg : ∀ b ∈ g, MaxB b) (hgl : g.length ≤ 1000000) (h0 : chk l = 0) : G19 std (encM l, encB g, ()) = some (chkB l g, ()) := by
  obtain ⟨r, h1, h2⟩ := in19_1 hl hc g hg hgl
  have hgel := encB_length g
  have hsl : (singles l).length = (hours l).length := by simp [singles]
  have hsel : (encB (singles l)).length = (hours l).length := by rw [encB_length, hsl]
  have hsp := fun x => splice_all hl hc g x
  have f1 : (0 : Int) ≤ ((g.length : Nat) : Int) := by omega
  have f2 : ((g.length : Nat) : Int) ≤ 1000000 := by omega
  unfold G19
  simp only [need_eq, ask_eq, ret_eq, no_eq, bnd_eq, run_eq, alt_eq, std_len, std_ofNat, std_nat, std_add, std_sub, std_leN, std_eqN, std_and, std_app, std_cut, std_lss, std_leq, std_gtr, std_geq, std_eql, std_neq, std_rowOk, std_rdI, rdD, bif_eq, ofNat_eq, List.length_map, List.getElem?_map, Option.map_some, Option.bind_some, Option.bind_none, Int.toNat_natCast, decide_eq_true_eq, Sum.elim_inl, Sum.elim_inr, if_true, if_false, decide_true, decide_false, Bool.false_eq_true, G16_ok, h0, Bool.not_true, G43_ok (show l.length ≤ 100000 by omega) hc, hgel, hsel, ge_iff_le, f1, f2, Int.le_refl, Bool.and_true, Bool.true_and, Nat.le_refl, std_rep, List.length_replicate, std_splice, List.take_zero, List.nil_append, Nat.zero_add, hgel, hsp, h1]
  rcases h2 with ⟨rfl, h2⟩ | ⟨off, rfl, h2⟩
  · have : ¬ g = pooled l := fun h => h2 ((run_iff hc).2 h)
    simp only [Sum.elim_inl, Sum.elim_inr, chkB, h0, if_true, this, if_false]
  · have ho := run_le hl hc h2
    by_cases h3 : off = (hours l).length
    · subst h3
      have : g = pooled l := (run_iff hc).1 h2
      simp only [Sum.elim_inl, Sum.elim_inr, Nat.sub_self, show ¬ (((0 : Nat) : Int) > 0) by omega, if_false, chkB, h0, if_true, ← this]
    · have : ¬ g = pooled l := fun h => by
        have := (run_iff hc).2 h
        rw [h2] at this
        exact h3 (Option.some.inj this)
      simp only [Sum.elim_inl, Sum.elim_inr, show ((((hours l).length - off : Nat) : Int) > 0) by omega, if_true, chkB, h0, this, if_false]
end
end Go.Am
end

section
set_option linter.unusedVariables false
set_option linter.unusedSimpArgs false
set_option linter.unusedSectionVars false
namespace Go.Am
open M08
def frac (s w : Int) : Int × Int := (s / (Int.gcd s w : Int), w / (Int.gcd s w : Int))
theorem gcd_loop {n d : Nat} : ∃ (f : Nat × Nat → Nat), ∀ x y, f (x, y) = Nat.gcd x y := ⟨fun p => Nat.gcd p.1 p.2, fun _ _ => rfl⟩
theorem in46 (a b c d : Int) : ∀ (e f : Int) (x y : Nat), iter (b46_1 std) (a, b, c, d, e, f, (x : Int), (y : Int), ()) = some (a, b, c, d, e, f, ((Nat.gcd x y : Nat) : Int), ()) := by
  intro e f x y
  have key := iter_to (b := b46_1 std) (σ := Nat × Nat) (fun p => (a, b, c, d, e, f, (p.1 : Int), (p.2 : Int), ())) (fun _ => True) (fun p => p.2) (fun p => (a, b, c, d, e, f, ((Nat.gcd p.1 p.2 : Nat) : Int), ())) ?_ (x, y) trivial
  · exact key
  · rintro ⟨x, y⟩ _
    by_cases h : y = 0
    · right
      subst h
      simp only [b46_1, need_eq, ask_eq, ret_eq, no_eq, bnd_eq, run_eq, alt_eq, std_len, std_ofNat, std_nat, std_add, std_sub, std_leN, std_eqN, std_and, std_app, std_cut, std_lss, std_leq, std_gtr, std_geq, std_eql, std_neq, std_rowOk, std_rdI, rdD, bif_eq, ofNat_eq, List.length_map, List.getElem?_map, Option.map_some, Option.bind_some, Option.bind_none, Int.toNat_natCast, decide_eq_true_eq, Sum.elim_inl, Sum.elim_inr, if_true, if_false, decide_true, decide_false, Bool.false_eq_true, show ((0 : Nat) : Int) = 0 from rfl, Bool.not_true, Nat.gcd_zero_right]
    · left
      have h' : ¬ (y : Int) = 0 := by omega
      refine ⟨(y, x % y), ?_, trivial, Nat.mod_lt _ (by omega), ?_⟩
      · simp only [b46_1, need_eq, ask_eq, ret_eq, no_eq, bnd_eq, run_eq, alt_eq, std_len, std_ofNat, std_nat, std_add, std_sub, std_leN, std_eqN, std_and, std_app, std_cut, std_lss, std_leq, std_gtr, std_geq, std_eql, std_neq, std_rowOk, std_rdI, rdD, bif_eq, ofNat_eq, List.length_map, List.getElem?_map, Option.map_some, Option.bind_some, Option.bind_none, Int.toNat_natCast, decide_eq_true_eq, Sum.elim_inl, Sum.elim_inr, if_true, if_false, decide_true, decide_false, Bool.false_eq_true, h', Bool.not_false, std_ar_rem]
        rfl
      · simp only
        rw [Nat.gcd_comm x y, Nat.gcd_rec y x, Nat.gcd_comm]
theorem G46_ok (a b w s : Int) (hw : 0 < w) (hs : 0 ≤ s) (hw' : w ≤ 1000000000) (hs' : s ≤ 1000000000) : G46 std (a, b, w, s, ()) = some ((frac s w).1, (frac s w).2, ()) := by
  obtain ⟨w, rfl⟩ := Int.eq_ofNat_of_zero_le (Int.le_of_lt hw)
  obtain ⟨s, rfl⟩ := Int.eq_ofNat_of_zero_le hs
  have hg : 0 < Nat.gcd s w := Nat.gcd_pos_of_pos_right _ (by omega)
  have hg' : ¬ ((Nat.gcd s w : Nat) : Int) = 0 := by omega
  have hk : ∀ k : Nat, k ≤ 1000000000 → IntKind.i64.wrap (k : Int) = k := fun k hk => by rw [wrap64] <;> omega
  have e1 : IntKind.i64.wrap ((s : Int).tdiv (Nat.gcd s w : Int)) = (s : Int) / (Nat.gcd s w : Int) := by
    have h1 := Nat.div_le_self s (Nat.gcd s w)
    have : (s : Int).tdiv (Nat.gcd s w : Int) = ((s / Nat.gcd s w : Nat) : Int) := rfl
    rw [this, hk _ (Nat.le_trans h1 (by omega))]; rfl
  have e2 : IntKind.i64.wrap ((w : Int).tdiv (Nat.gcd s w : Int)) = (w : Int) / (Nat.gcd s w : Int) := by
    have h1 := Nat.div_le_self w (Nat.gcd s w)
    have : (w : Int).tdiv (Nat.gcd s w : Int) = ((w / Nat.gcd s w : Nat) : Int) := rfl
    rw [this, hk _ (Nat.le_trans h1 (by omega))]; rfl
  unfold G46
  simp only [need_eq, ask_eq, ret_eq, no_eq, bnd_eq, run_eq, alt_eq, std_len, std_ofNat, std_nat, std_add, std_sub, std_leN, std_eqN, std_and, std_app, std_cut, std_lss, std_leq, std_gtr, std_geq, std_eql, std_neq, std_rowOk, std_rdI, rdD, bif_eq, ofNat_eq, List.length_map, List.getElem?_map, Option.map_some, Option.bind_some, Option.bind_none, Int.toNat_natCast, decide_eq_true_eq, Sum.elim_inl, Sum.elim_inr, if_true, if_false, decide_true, decide_false, Bool.false_eq_true, in46, hg', Bool.not_false, std_ar_quo, e1, e2, frac, Int.gcd, Int.natAbs_natCast]
def lastB (h : Int) (l : List Blk) : Option Blk := l.foldl (fun a b => if b.1 ≤ h then some b else a) none
def valB (l : List Mk) (h : Int) : Int × Int × Int :=
  if chk l = 0 then
    if outOf 0 10000 h = true then (0, 0, 3)
    else match lastB h (pooled l) with
      | none => (0, 0, 5)
      | some b => ((frac b.2.2.2 b.2.2.1).1, (frac b.2.2.2 b.2.2.1).2, 0)
  else (0, 0, chk l)
def oB (o : Option Blk) : Blk := o.getD (0, 0, 0, 0)
theorem in21 (L : List Blk) (hL : L.length ≤ 1000000) (c1 c2 h : Int) :
    iter (b21_1 std) (encB L, c1, c2, 0, 0, 0, 0, h, ((L.length : Nat) : Int), 0, ()) = some (c1, c2, (oB (lastB h L)).1, (oB (lastB h L)).2.1, (oB (lastB h L)).2.2.1, (oB (lastB h L)).2.2.2, ()) := by
  have key := iter_count (b := b21_1 std) L.length (fun (o : Option Blk) i => (encB L, c1, c2, (oB o).1, (oB o).2.1, (oB o).2.2.1, (oB o).2.2.2, h, ((L.length : Nat) : Int), (i : Int), ())) (fun o i => o = lastB h (L.take i)) (fun r => r = (c1, c2, (oB (lastB h L)).1, (oB (lastB h L)).2.1, (oB (lastB h L)).2.2.1, (oB (lastB h L)).2.2.2, ())) ?_ ?_ none 0 (Nat.zero_le _) rfl
  · obtain ⟨r, h2, rfl⟩ := key
    exact h2
  · rintro o i hi rfl
    left
    obtain ⟨b, hb⟩ := get_some hi
    have hw := wrap_nat (i := i) (by omega)
    have g1 : (i : Int) < L.length := by omega
    have g2 : (0 : Int) ≤ i := by omega
    have htk : lastB h (L.take (i + 1)) = if b.1 ≤ h then some b else lastB h (L.take i) := foldl_take _ _ L i b hb
    refine ⟨lastB h (L.take (i + 1)), ?_, rfl⟩
    rw [htk]
    by_cases hle : b.1 ≤ h
    · simp only [b21_1, need_eq, ask_eq, ret_eq, no_eq, bnd_eq, run_eq, alt_eq, std_len, std_ofNat, std_nat, std_add, std_sub, std_leN, std_eqN, std_and, std_app, std_cut, std_lss, std_leq, std_gtr, std_geq, std_eql, std_neq, std_rowOk, std_rdI, rdD, bif_eq, ofNat_eq, List.length_map, List.getElem?_map, Option.map_some, Option.bind_some, Option.bind_none, Int.toNat_natCast, decide_eq_true_eq, Sum.elim_inl, Sum.elim_inr, if_true, if_false, decide_true, decide_false, Bool.false_eq_true, encB_length, encB_get, cells_eB, dI_eB0, dI_eB1, dI_eB2, dI_eB3, g1, g2, ge_iff_le, Nat.zero_add, hb, hle, std_ar_add, hw, oB, Option.getD_some]
    · simp only [b21_1, need_eq, ask_eq, ret_eq, no_eq, bnd_eq, run_eq, alt_eq, std_len, std_ofNat, std_nat, std_add, std_sub, std_leN, std_eqN, std_and, std_app, std_cut, std_lss, std_leq, std_gtr, std_geq, std_eql, std_neq, std_rowOk, std_rdI, rdD, bif_eq, ofNat_eq, List.length_map, List.getElem?_map, Option.map_some, Option.bind_some, Option.bind_none, Int.toNat_natCast, decide_eq_true_eq, Sum.elim_inl, Sum.elim_inr, if_true, if_false, decide_true, decide_false, Bool.false_eq_true, encB_length, encB_get, cells_eB, dI_eB0, dI_eB1, dI_eB2, dI_eB3, g1, g2, ge_iff_le, Nat.zero_add, hb, hle, std_ar_add, hw]
  · rintro o rfl
    refine ⟨_, ?_, rfl⟩
    simp only [b21_1, need_eq, ask_eq, ret_eq, no_eq, bnd_eq, run_eq, alt_eq, std_len, std_ofNat, std_nat, std_add, std_sub, std_leN, std_eqN, std_and, std_app, std_cut, std_lss, std_leq, std_gtr, std_geq, std_eql, std_neq, std_rowOk, std_rdI, rdD, bif_eq, ofNat_eq, List.length_map, List.getElem?_map, Option.map_some, Option.bind_some, Option.bind_none, Int.toNat_natCast, decide_eq_true_eq, Sum.elim_inl, Sum.elim_inr, if_true, if_false, decide_true, decide_false, Bool.false_eq_true, Int.lt_irrefl, List.take_length]
theorem lastB_mem {h : Int} : ∀ (L : List Blk) {b : Blk} {a : Option Blk}, L.foldl (fun a b => if b.1 ≤ h then some b else a) a = some b → b ∈ L ∨ a = some b
  | [], b, a, e => .inr e
  | x :: L, b, a, e => by
    rcases lastB_mem L e with h1 | h1
    · exact .inl (List.mem_cons_of_mem _ h1)
    · simp only at h1
      split at h1
      · cases h1; exact .inl (List.mem_cons_self ..)
      · exact .inr h1
theorem pooled_pos {l : List Mk} (hc : ∀ m ∈ l, okMk m) {b : Blk} (hb : b ∈ pooled l) : 0 < b.2.2.1 ∧ ∃ p q, (p, q) ∈ pairs 0 (brk l) ∧ p < q ∧ q ≤ (hours l).length ∧ b = mkB l (p, q) := by
  rw [pooled_eq hc] at hb
  obtain ⟨⟨p, q⟩, ht, rfl⟩ := List.mem_map.1 hb
  obtain ⟨c1, c2, c3⟩ := breaks_chain (cumW_mono hc)
  have h1 := pairs_lt c1 _ ht
  have c2' : (brk l).getLastD 0 = (hours l).length := c2
  have h2 : q ≤ (hours l).length := by have := h1.2.2; rw [show (breaks (cumW l) (cumS l) (hours l).length) = brk l from rfl, c2'] at this; exact this
  refine ⟨?_, p, q, ht, h1.2.1, h2, rfl⟩
  have := cumW_mono hc p q h1.2.1 h2
  show 0 < cumW l q - cumW l p
  omega
theorem G21_ok (l : List Mk) (h : Int) : G21 std (encM l, h, ()) = some ((valB l h).1, (valB l h).2.1, (valB l h).2.2, ()) := by
  unfold G21 valB
  by_cases h0 : chk l = 0
  · obtain ⟨h1, hc, _⟩ := chk_card h0
    have hl : l.length ≤ 100000 := by omega
    have hpl := pairs_len hl hc
    have hn := hours_len l
    have hpp : (pooled l).length ≤ 100000 := by rw [pooled_eq hc, List.length_map]; omega
    simp only [need_eq, ask_eq, ret_eq, no_eq, bnd_eq, run_eq, alt_eq, std_len, std_ofNat, std_nat, std_add, std_sub, std_leN, std_eqN, std_and, std_app, std_cut, std_lss, std_leq, std_gtr, std_geq, std_eql, std_neq, std_rowOk, std_rdI, rdD, bif_eq, ofNat_eq, List.length_map, List.getElem?_map, Option.map_some, Option.bind_some, Option.bind_none, Int.toNat_natCast, decide_eq_true_eq, Sum.elim_inl, Sum.elim_inr, if_true, if_false, decide_true, decide_false, Bool.false_eq_true, G16_ok, h0, Bool.not_true, G53_ok]
    cases ho : outOf 0 10000 h with
    | true => simp only [need_eq, ask_eq, ret_eq, no_eq, bnd_eq, run_eq, alt_eq, std_len, std_ofNat, std_nat, std_add, std_sub, std_leN, std_eqN, std_and, std_app, std_cut, std_lss, std_leq, std_gtr, std_geq, std_eql, std_neq, std_rowOk, std_rdI, rdD, bif_eq, ofNat_eq, List.length_map, List.getElem?_map, Option.map_some, Option.bind_some, Option.bind_none, Int.toNat_natCast, decide_eq_true_eq, Sum.elim_inl, Sum.elim_inr, if_true, if_false, decide_true, decide_false, Bool.false_eq_true, List.length_cons, List.length_nil, Nat.zero_add, ite_self]
    | false =>
      simp only [need_eq, ask_eq, ret_eq, no_eq, bnd_eq, run_eq, alt_eq, std_len, std_ofNat, std_nat, std_add, std_sub, std_leN, std_eqN, std_and, std_app, std_cut, std_lss, std_leq, std_gtr, std_geq, std_eql, std_neq, std_rowOk, std_rdI, rdD, bif_eq, ofNat_eq, List.length_map, List.getElem?_map, Option.map_some, Option.bind_some, Option.bind_none, Int.toNat_natCast, decide_eq_true_eq, Sum.elim_inl, Sum.elim_inr, if_true, if_false, decide_true, decide_false, Bool.false_eq_true, G39_ok hl hc, encB_length, in21 (pooled l) (by omega)]
      cases hb : lastB h (pooled l) with
      | none => simp only [oB, Option.getD_none, need_eq, ask_eq, ret_eq, no_eq, bnd_eq, run_eq, alt_eq, std_len, std_ofNat, std_nat, std_add, std_sub, std_leN, std_eqN, std_and, std_app, std_cut, std_lss, std_leq, std_gtr, std_geq, std_eql, std_neq, std_rowOk, std_rdI, rdD, bif_eq, ofNat_eq, List.length_map, List.getElem?_map, Option.map_some, Option.bind_some, Option.bind_none, Int.toNat_natCast, decide_eq_true_eq, Sum.elim_inl, Sum.elim_inr, if_true, if_false, decide_true, decide_false, Bool.false_eq_true, List.length_cons, List.length_nil, Nat.zero_add, ite_self]
      | some b =>
        have hm : b ∈ pooled l := by
          rcases lastB_mem (pooled l) hb with h1 | h1
          · exact h1
          · cases h1
        obtain ⟨hp, p, q, _, hpq, hq, rfl⟩ := pooled_pos hc hm
        have ht := mkB_ti h1 hc hpq hq
        have f1 : ¬ (mkB l (p, q)).2.2.1 = 0 := by omega
        simp only [oB, Option.getD_some, need_eq, ask_eq, ret_eq, no_eq, bnd_eq, run_eq, alt_eq, std_len, std_ofNat, std_nat, std_add, std_sub, std_leN, std_eqN, std_and, std_app, std_cut, std_lss, std_leq, std_gtr, std_geq, std_eql, std_neq, std_rowOk, std_rdI, rdD, bif_eq, ofNat_eq, List.length_map, List.getElem?_map, Option.map_some, Option.bind_some, Option.bind_none, Int.toNat_natCast, decide_eq_true_eq, Sum.elim_inl, Sum.elim_inr, if_true, if_false, decide_true, decide_false, Bool.false_eq_true, List.length_cons, List.length_nil, Nat.zero_add, ite_self, f1, G46_ok _ _ _ _ hp ht.2.2.1 (by have := ht.2.1; omega) (by have := ht.2.2.2; omega)]
  · simp only [need_eq, ask_eq, ret_eq, no_eq, bnd_eq, run_eq, alt_eq, std_len, std_ofNat, std_nat, std_add, std_sub, std_leN, std_eqN, std_and, std_app, std_cut, std_lss, std_leq, std_gtr, std_geq, std_eql, std_neq, std_rowOk, std_rdI, rdD, bif_eq, ofNat_eq, List.length_map, List.getElem?_map, Option.map_some, Option.bind_some, Option.bind_none, Int.toNat_natCast, decide_eq_true_eq, Sum.elim_inl, Sum.elim_inr, if_true, if_false, decide_true, decide_false, Bool.false_eq_true, G16_ok, h0, Bool.not_false]
end Go.Am
end

section
set_option linter.unusedVariables false
set_option linter.unusedSimpArgs false
set_option linter.unusedSectionVars false
namespace Go.Am
open M08
def reachB (limit : Int) : Int → List Blk → Int × Int
  | a, [] => (a, 1073741824)
  | a, b :: l => if b.2.2.2 ≥ limit * b.2.2.1 then (a, b.1) else reachB limit b.2.1 l
theorem G49_ok (k a b w s : Int) (hk : 1 ≤ k) (hk' : k ≤ 100) (hw : 0 ≤ w) (hw' : w ≤ 48000) : G49 std (k, a, b, w, s, ()) = some (k, decide (s ≥ k * w), ()) := by
  have : IntKind.i64.wrap (k * w) = k * w := by
    have h1 : 0 ≤ k * w := Int.mul_nonneg (by omega) hw
    have h2 : k * w ≤ 100 * 48000 := Int.mul_le_mul hk' hw' hw (by omega)
    rw [wrap64] <;> omega
  unfold G49
  simp only [need_eq, ask_eq, ret_eq, no_eq, bnd_eq, run_eq, alt_eq, std_len, std_ofNat, std_nat, std_add, std_sub, std_leN, std_eqN, std_and, std_app, std_cut, std_lss, std_leq, std_gtr, std_geq, std_eql, std_neq, std_rowOk, std_rdI, rdD, bif_eq, ofNat_eq, List.length_map, List.getElem?_map, Option.map_some, Option.bind_some, Option.bind_none, Int.toNat_natCast, decide_eq_true_eq, Sum.elim_inl, Sum.elim_inr, if_true, if_false, decide_true, decide_false, Bool.false_eq_true, std_ar_mul, this]
theorem in48 (L : List Blk) (hL : L.length ≤ 1000000) (hT : ∀ b ∈ L, TiB b) (k c1 c2 : Int) (hk : 1 ≤ k) (hk' : k ≤ 100) :
    iter (b48_1 std) (encB L, k, c1, c2, 0, 1073741824, ((L.length : Nat) : Int), 0, ()) = some (Sum.inl (k, (reachB k 0 L).1, (reachB k 0 L).2, ()))
    ∨ ((reachB k 0 L).2 = 1073741824 ∧ iter (b48_1 std) (encB L, k, c1, c2, 0, 1073741824, ((L.length : Nat) : Int), 0, ()) = some (Sum.inr (k, c1, c2, (reachB k 0 L).1, 1073741824, ()))) := by
  have key := iter_count (b := b48_1 std) L.length (fun (a : Int) i => (encB L, k, c1, c2, a, 1073741824, ((L.length : Nat) : Int), (i : Int), ())) (fun a i => reachB k a (L.drop i) = reachB k 0 L) (fun r => r = Sum.inl (k, (reachB k 0 L).1, (reachB k 0 L).2, ()) ∨ ((reachB k 0 L).2 = 1073741824 ∧ r = Sum.inr (k, c1, c2, (reachB k 0 L).1, 1073741824, ()))) ?_ ?_ 0 0 (Nat.zero_le _) rfl
  · obtain ⟨r, h2, rfl | ⟨h3, rfl⟩⟩ := key
    · exact .inl h2
    · exact .inr ⟨h3, h2⟩
  · rintro a i hi hI
    obtain ⟨b, hb⟩ := get_some hi
    have hw := wrap_nat (i := i) (by omega)
    have g1 : (i : Int) < L.length := by omega
    have g2 : (0 : Int) ≤ i := by omega
    have hdr : L.drop i = b :: L.drop (i + 1) := by
      obtain ⟨h1, rfl⟩ := List.getElem?_eq_some_iff.1 hb
      exact List.drop_eq_getElem_cons h1
    rw [hdr] at hI
    have ht := hT b (List.mem_of_getElem? hb)
    have h49 := G49_ok k b.1 b.2.1 b.2.2.1 b.2.2.2 hk hk' ht.1 (by have := ht.2.1; omega)
    by_cases hge : b.2.2.2 ≥ k * b.2.2.1
    · right
      rw [reachB, if_pos hge] at hI
      refine ⟨_, ?_, .inl rfl⟩
      rw [← hI]
      simp only [b48_1, need_eq, ask_eq, ret_eq, no_eq, bnd_eq, run_eq, alt_eq, std_len, std_ofNat, std_nat, std_add, std_sub, std_leN, std_eqN, std_and, std_app, std_cut, std_lss, std_leq, std_gtr, std_geq, std_eql, std_neq, std_rowOk, std_rdI, rdD, bif_eq, ofNat_eq, List.length_map, List.getElem?_map, Option.map_some, Option.bind_some, Option.bind_none, Int.toNat_natCast, decide_eq_true_eq, Sum.elim_inl, Sum.elim_inr, if_true, if_false, decide_true, decide_false, Bool.false_eq_true, encB_length, encB_get, cells_eB, dI_eB0, dI_eB1, dI_eB2, dI_eB3, g1, g2, Nat.zero_add, hb, h49, hge, ge_iff_le]
    · left
      rw [reachB, if_neg hge] at hI
      refine ⟨b.2.1, ?_, hI⟩
      simp only [b48_1, need_eq, ask_eq, ret_eq, no_eq, bnd_eq, run_eq, alt_eq, std_len, std_ofNat, std_nat, std_add, std_sub, std_leN, std_eqN, std_and, std_app, std_cut, std_lss, std_leq, std_gtr, std_geq, std_eql, std_neq, std_rowOk, std_rdI, rdD, bif_eq, ofNat_eq, List.length_map, List.getElem?_map, Option.map_some, Option.bind_some, Option.bind_none, Int.toNat_natCast, decide_eq_true_eq, Sum.elim_inl, Sum.elim_inr, if_true, if_false, decide_true, decide_false, Bool.false_eq_true, encB_length, encB_get, cells_eB, dI_eB0, dI_eB1, dI_eB2, dI_eB3, g1, g2, Nat.zero_add, hb, h49, hge, std_ar_add, hw, ge_iff_le]
  · rintro a hI
    rw [List.drop_length, reachB] at hI
    refine ⟨_, ?_, .inr ⟨by rw [← hI], rfl⟩⟩
    rw [← hI]
    simp only [b48_1, need_eq, ask_eq, ret_eq, no_eq, bnd_eq, run_eq, alt_eq, std_len, std_ofNat, std_nat, std_add, std_sub, std_leN, std_eqN, std_and, std_app, std_cut, std_lss, std_leq, std_gtr, std_geq, std_eql, std_neq, std_rowOk, std_rdI, rdD, bif_eq, ofNat_eq, List.length_map, List.getElem?_map, Option.map_some, Option.bind_some, Option.bind_none, Int.toNat_natCast, decide_eq_true_eq, Sum.elim_inl, Sum.elim_inr, if_true, if_false, decide_true, decide_false, Bool.false_eq_true, Int.lt_irrefl]
def reachOf (l : List Mk) (k : Int) : Int × Int := reachB k 0 (pooled l)
def rchB (l : List Mk) (k : Int) : Int × Int × Int :=
  if chk l = 0 then
    if outOf 1 100 k = true then (0, 0, 3) else ((reachOf l k).1, (reachOf l k).2, 0)
  else (0, 0, chk l)
theorem pooled_ti {l : List Mk} (hl : l.length ≤ 24) (hc : ∀ m ∈ l, okMk m) : ∀ b ∈ pooled l, TiB b := by
  intro b hb
  obtain ⟨_, p, q, _, hpq, hq, rfl⟩ := pooled_pos hc hb
  exact mkB_ti hl hc hpq hq
theorem outOf_false {lo hi x : Int} (h : outOf lo hi x = false) : lo ≤ x ∧ x ≤ hi := by
  unfold outOf at h
  have := of_decide_eq_false h
  omega
theorem G48_ok (l : List Mk) (k : Int) (hl : l.length ≤ 24) (hc : ∀ m ∈ l, okMk m) (hk : 1 ≤ k) (hk' : k ≤ 100) : G48 std (k, encM l, ()) = some (k, (reachOf l k).1, (reachOf l k).2, ()) := by
  have hl' : l.length ≤ 100000 := by omega
  have hpl := pairs_len hl' hc
  have hn := hours_len l
  have hpp : (pooled l).length ≤ 100000 := by rw [pooled_eq hc, List.length_map]; omega
  unfold G48
  simp only [need_eq, ask_eq, ret_eq, no_eq, bnd_eq, run_eq, alt_eq, std_len, std_ofNat, std_nat, std_add, std_sub, std_leN, std_eqN, std_and, std_app, std_cut, std_lss, std_leq, std_gtr, std_geq, std_eql, std_neq, std_rowOk, std_rdI, rdD, bif_eq, ofNat_eq, List.length_map, List.getElem?_map, Option.map_some, Option.bind_some, Option.bind_none, Int.toNat_natCast, decide_eq_true_eq, Sum.elim_inl, Sum.elim_inr, if_true, if_false, decide_true, decide_false, Bool.false_eq_true, G39_ok hl' hc, encB_length]
  rcases in48 (pooled l) (by omega) (pooled_ti hl hc) k 0 0 hk hk' with h | ⟨h1, h⟩
  · rw [h]
    simp only [need_eq, ask_eq, ret_eq, no_eq, bnd_eq, run_eq, alt_eq, std_len, std_ofNat, std_nat, std_add, std_sub, std_leN, std_eqN, std_and, std_app, std_cut, std_lss, std_leq, std_gtr, std_geq, std_eql, std_neq, std_rowOk, std_rdI, rdD, bif_eq, ofNat_eq, List.length_map, List.getElem?_map, Option.map_some, Option.bind_some, Option.bind_none, Int.toNat_natCast, decide_eq_true_eq, Sum.elim_inl, Sum.elim_inr, if_true, if_false, decide_true, decide_false, Bool.false_eq_true]
    rfl
  · rw [h]
    simp only [need_eq, ask_eq, ret_eq, no_eq, bnd_eq, run_eq, alt_eq, std_len, std_ofNat, std_nat, std_add, std_sub, std_leN, std_eqN, std_and, std_app, std_cut, std_lss, std_leq, std_gtr, std_geq, std_eql, std_neq, std_rowOk, std_rdI, rdD, bif_eq, ofNat_eq, List.length_map, List.getElem?_map, Option.map_some, Option.bind_some, Option.bind_none, Int.toNat_natCast, decide_eq_true_eq, Sum.elim_inl, Sum.elim_inr, if_true, if_false, decide_true, decide_false, Bool.false_eq_true]
    rw [← h1]
    rfl
theorem G23_ok (l : List Mk) (k : Int) : G23 std (encM l, k, ()) = some ((rchB l k).1, (rchB l k).2.1, (rchB l k).2.2, ()) := by
  unfold G23 rchB
  by_cases h0 : chk l = 0
  · obtain ⟨h1, hc, _⟩ := chk_card h0
    simp only [need_eq, ask_eq, ret_eq, no_eq, bnd_eq, run_eq, alt_eq, std_len, std_ofNat, std_nat, std_add, std_sub, std_leN, std_eqN, std_and, std_app, std_cut, std_lss, std_leq, std_gtr, std_geq, std_eql, std_neq, std_rowOk, std_rdI, rdD, bif_eq, ofNat_eq, List.length_map, List.getElem?_map, Option.map_some, Option.bind_some, Option.bind_none, Int.toNat_natCast, decide_eq_true_eq, Sum.elim_inl, Sum.elim_inr, if_true, if_false, decide_true, decide_false, Bool.false_eq_true, G16_ok, h0, Bool.not_true, G53_ok]
    cases ho : outOf 1 100 k with
    | true => simp only [need_eq, ask_eq, ret_eq, no_eq, bnd_eq, run_eq, alt_eq, std_len, std_ofNat, std_nat, std_add, std_sub, std_leN, std_eqN, std_and, std_app, std_cut, std_lss, std_leq, std_gtr, std_geq, std_eql, std_neq, std_rowOk, std_rdI, rdD, bif_eq, ofNat_eq, List.length_map, List.getElem?_map, Option.map_some, Option.bind_some, Option.bind_none, Int.toNat_natCast, decide_eq_true_eq, Sum.elim_inl, Sum.elim_inr, if_true, if_false, decide_true, decide_false, Bool.false_eq_true, List.length_cons, List.length_nil, Nat.zero_add, ite_self]
    | false =>
      have hk := outOf_false ho
      simp only [need_eq, ask_eq, ret_eq, no_eq, bnd_eq, run_eq, alt_eq, std_len, std_ofNat, std_nat, std_add, std_sub, std_leN, std_eqN, std_and, std_app, std_cut, std_lss, std_leq, std_gtr, std_geq, std_eql, std_neq, std_rowOk, std_rdI, rdD, bif_eq, ofNat_eq, List.length_map, List.getElem?_map, Option.map_some, Option.bind_some, Option.bind_none, Int.toNat_natCast, decide_eq_true_eq, Sum.elim_inl, Sum.elim_inr, if_true, if_false, decide_true, decide_false, Bool.false_eq_true, List.length_cons, List.length_nil, Nat.zero_add, ite_self, G48_ok l k h1 hc hk.1 hk.2]
  · simp only [need_eq, ask_eq, ret_eq, no_eq, bnd_eq, run_eq, alt_eq, std_len, std_ofNat, std_nat, std_add, std_sub, std_leN, std_eqN, std_and, std_app, std_cut, std_lss, std_leq, std_gtr, std_geq, std_eql, std_neq, std_rowOk, std_rdI, rdD, bif_eq, ofNat_eq, List.length_map, List.getElem?_map, Option.map_some, Option.bind_some, Option.bind_none, Int.toNat_natCast, decide_eq_true_eq, Sum.elim_inl, Sum.elim_inr, if_true, if_false, decide_true, decide_false, Bool.false_eq_true, G16_ok, h0, Bool.not_false]
def IsW (R : List (List D)) (ws : List (List Mk)) : Prop := R.length = ws.length ∧ ∀ (i : Nat) (w : List Mk), ws[i]? = some w → ∃ r, R[i]? = some r ∧ cellsOk [CK.list 3] r = true ∧ dL (r[0]?.getD D.nilp) = encM w
def firstBad : List (List Mk) → Int
  | [] => 0
  | w :: ws => if chk w = 0 then firstBad ws else chk w
theorem in25_1 (R : List (List D)) (C : List (List D)) (ws : List (List Mk)) (hR : IsW R ws) (hl : ws.length ≤ 1000000) (c1 c2 k : Int) :
    (firstBad ws = 0 ∧ iter (b25_1 std) (c1, c2, R, C, k, R, ((ws.length : Nat) : Int), 0, ()) = some (Sum.inr (c1, c2, R, C, k, ())))
    ∨ (firstBad ws ≠ 0 ∧ iter (b25_1 std) (c1, c2, R, C, k, R, ((ws.length : Nat) : Int), 0, ()) = some (Sum.inl (0, 0, firstBad ws, ()))) := by
  have key := iter_count (b := b25_1 std) ws.length (fun (_ : Unit) i => (c1, c2, R, C, k, R, ((ws.length : Nat) : Int), (i : Int), ())) (fun _ i => firstBad (ws.drop i) = firstBad ws) (fun r => (firstBad ws = 0 ∧ r = Sum.inr (c1, c2, R, C, k, ())) ∨ (firstBad ws ≠ 0 ∧ r = Sum.inl (0, 0, firstBad ws, ()))) ?_ ?_ () 0 (Nat.zero_le _) rfl
  · obtain ⟨r, h2, ⟨h3, rfl⟩ | ⟨h3, rfl⟩⟩ := key
    · exact .inl ⟨h3, h2⟩
    · exact .inr ⟨h3, h2⟩
  · rintro _ i hi hI
    obtain ⟨w, hb⟩ := get_some hi
    have hw := wrap_nat (i := i) (by omega)
    have g1 : (i : Int) < ws.length := by omega
    have hdr : ws.drop i = w :: ws.drop (i + 1) := by
      obtain ⟨h1, rfl⟩ := List.getElem?_eq_some_iff.1 hb
      exact List.drop_eq_getElem_cons h1
    rw [hdr, firstBad] at hI
    obtain ⟨r0, hr0, hr1, hr2⟩ := hR.2 i w hb
    have g2 : (i : Int) ≥ 0 := by omega
    have hr : std.rdL R i 0 = encM w := by simp [std_rdL, rdD, hr0, hr2]
    by_cases h0 : chk w = 0
    · left
      rw [if_pos h0] at hI
      refine ⟨(), ?_, hI⟩
      simp only [b25_1, need_eq, ask_eq, ret_eq, no_eq, bnd_eq, run_eq, alt_eq, std_len, std_ofNat, std_nat, std_add, std_sub, std_leN, std_eqN, std_and, std_app, std_cut, std_lss, std_leq, std_gtr, std_geq, std_eql, std_neq, std_rowOk, std_rdI, rdD, bif_eq, ofNat_eq, List.length_map, List.getElem?_map, Option.map_some, Option.bind_some, Option.bind_none, Int.toNat_natCast, decide_eq_true_eq, Sum.elim_inl, Sum.elim_inr, if_true, if_false, decide_true, decide_false, Bool.false_eq_true, g1, g2, hr, hr0, hr1, G16_ok, h0, Bool.not_true, std_ar_add, hw]
    · right
      rw [if_neg h0] at hI
      refine ⟨_, ?_, .inr ⟨by rw [← hI]; exact h0, rfl⟩⟩
      rw [← hI]
      simp only [b25_1, need_eq, ask_eq, ret_eq, no_eq, bnd_eq, run_eq, alt_eq, std_len, std_ofNat, std_nat, std_add, std_sub, std_leN, std_eqN, std_and, std_app, std_cut, std_lss, std_leq, std_gtr, std_geq, std_eql, std_neq, std_rowOk, std_rdI, rdD, bif_eq, ofNat_eq, List.length_map, List.getElem?_map, Option.map_some, Option.bind_some, Option.bind_none, Int.toNat_natCast, decide_eq_true_eq, Sum.elim_inl, Sum.elim_inr, if_true, if_false, decide_true, decide_false, Bool.false_eq_true, g1, g2, hr, hr0, hr1, G16_ok, h0, Bool.not_false]
  · rintro _ hI
    rw [List.drop_length, firstBad] at hI
    refine ⟨_, ?_, .inl ⟨hI.symm, rfl⟩⟩
    simp only [b25_1, need_eq, ask_eq, ret_eq, no_eq, bnd_eq, run_eq, alt_eq, std_len, std_ofNat, std_nat, std_add, std_sub, std_leN, std_eqN, std_and, std_app, std_cut, std_lss, std_leq, std_gtr, std_geq, std_eql, std_neq, std_rowOk, std_rdI, rdD, bif_eq, ofNat_eq, List.length_map, List.getElem?_map, Option.map_some, Option.bind_some, Option.bind_none, Int.toNat_natCast, decide_eq_true_eq, Sum.elim_inl, Sum.elim_inr, if_true, if_false, decide_true, decide_false, Bool.false_eq_true, Int.lt_irrefl]
def cntW (f : List Mk → Bool) (ws : List (List Mk)) : Nat := (ws.filter f).length
def loW (own : Int × Int) (k : Int) (w : List Mk) : Bool := decide ((rchB w k).2.1 ≤ own.1)
def hiW (own : Int × Int) (k : Int) (w : List Mk) : Bool := decide ((rchB w k).1 < own.2)
theorem cntW_take {f : List Mk → Bool} {ws : List (List Mk)} {i : Nat} {w : List Mk} (h : ws[i]? = some w) : cntW f (ws.take (i + 1)) = cntW f (ws.take i) + if f w then 1 else 0 := by
  obtain ⟨h1, rfl⟩ := List.getElem?_eq_some_iff.1 h
  rw [List.take_succ_eq_append_getElem h1]
  unfold cntW
  rw [List.filter_append, List.length_append]
  congr 1
  by_cases h2 : f ws[i]
  · simp [h2]
  · simp [h2]
theorem cntW_le {f : List Mk → Bool} {ws : List (List Mk)} : cntW f ws ≤ ws.length := List.length_filter_le ..
theorem in25_2 (R : List (List D)) (ws : List (List Mk)) (hR : IsW R ws) (hl : ws.length ≤ 1000000) (c1 c2 k : Int) (own : Int × Int) :
    iter (b25_2 std) (c1, c2, own.1, own.2, 0, 0, k, R, ((ws.length : Nat) : Int), 0, ()) = some (c1, c2, ((cntW (loW own k) ws : Nat) : Int), ((cntW (hiW own k) ws : Nat) : Int), ()) := by
  have key := iter_count (b := b25_2 std) ws.length (fun (_ : Unit) i => (c1, c2, own.1, own.2, ((cntW (loW own k) (ws.take i) : Nat) : Int), ((cntW (hiW own k) (ws.take i) : Nat) : Int), k, R, ((ws.length : Nat) : Int), (i : Int), ())) (fun _ i => True) (fun r => r = (c1, c2, ((cntW (loW own k) ws : Nat) : Int), ((cntW (hiW own k) ws : Nat) : Int), ())) ?_ ?_ () 0 (Nat.zero_le _) trivial
  · obtain ⟨r, h2, rfl⟩ := key
    exact h2
  · rintro _ i hi _
    left
    obtain ⟨w, hb⟩ := get_some hi
    have hw := wrap_nat (i := i) (by omega)
    have g1 : (i : Int) < ws.length := by omega
    obtain ⟨r0, hr0, hr1, hr2⟩ := hR.2 i w hb
    have g2 : (i : Int) ≥ 0 := by omega
    have hr : std.rdL R i 0 = encM w := by simp [std_rdL, rdD, hr0, hr2]
    have k1 : cntW (loW own k) (ws.take i) ≤ i := Nat.le_trans cntW_le (by rw [List.length_take]; omega)
    have k2 : cntW (hiW own k) (ws.take i) ≤ i := Nat.le_trans cntW_le (by rw [List.length_take]; omega)
    have e1 := wrap_nat (i := cntW (loW own k) (ws.take i)) (by omega)
    have e2 := wrap_nat (i := cntW (hiW own k) (ws.take i)) (by omega)
    refine ⟨(), ?_, trivial⟩
    rw [cntW_take hb, cntW_take hb]
    by_cases h1 : (rchB w k).2.1 ≤ own.1 <;> by_cases h2 : (rchB w k).1 < own.2 <;>
      simp only [b25_2, need_eq, ask_eq, ret_eq, no_eq, bnd_eq, run_eq, alt_eq, std_len, std_ofNat, std_nat, std_add, std_sub, std_leN, std_eqN, std_and, std_app, std_cut, std_lss, std_leq, std_gtr, std_geq, std_eql, std_neq, std_rowOk, std_rdI, rdD, bif_eq, ofNat_eq, List.length_map, List.getElem?_map, Option.map_some, Option.bind_some, Option.bind_none, Int.toNat_natCast, decide_eq_true_eq, Sum.elim_inl, Sum.elim_inr, if_true, if_false, decide_true, decide_false, Bool.false_eq_true, g1, g2, hr, hr0, hr1, G23_ok, std_ar_add, hw, h1, h2, e1, e2, loW, hiW, Nat.add_zero]
  · rintro _ _
    refine ⟨_, ?_, rfl⟩
    simp only [b25_2, need_eq, ask_eq, ret_eq, no_eq, bnd_eq, run_eq, alt_eq, std_len, std_ofNat, std_nat, std_add, std_sub, std_leN, std_eqN, std_and, std_app, std_cut, std_lss, std_leq, std_gtr, std_geq, std_eql, std_neq, std_rowOk, std_rdI, rdD, bif_eq, ofNat_eq, List.length_map, List.getElem?_map, Option.map_some, Option.bind_some, Option.bind_none, Int.toNat_natCast, decide_eq_true_eq, Sum.elim_inl, Sum.elim_inr, if_true, if_false, decide_true, decide_false, Bool.false_eq_true, Int.lt_irrefl, List.take_length]
def lblB (ws : List (List Mk)) (l : List Mk) (k : Int) : Int × Int × Int :=
  if ws.length > 8 then (0, 0, 6)
  else if firstBad ws = 0 then
    if (rchB l k).2.2 = 0 then (((cntW (loW ((rchB l k).1, (rchB l k).2.1) k) ws : Nat) : Int), ((cntW (hiW ((rchB l k).1, (rchB l k).2.1) k) ws : Nat) : Int), 0)
    else (0, 0, (rchB l k).2.2)
  else (0, 0, firstBad ws)
theorem G25_ok (R : List (List D)) (ws : List (List Mk)) (hR : IsW R ws) (l : List Mk) (k : Int) : G25 std (R, encM l, k, ()) = some ((lblB ws l k).1, (lblB ws l k).2.1, (lblB ws l k).2.2, ()) := by
  unfold G25 lblB
  by_cases h8 : ws.length > 8
  · have : ((ws.length : Nat) : Int) > 8 := by omega
    simp only [need_eq, ask_eq, ret_eq, no_eq, bnd_eq, run_eq, alt_eq, std_len, std_ofNat, std_nat, std_add, std_sub, std_leN, std_eqN, std_and, std_app, std_cut, std_lss, std_leq, std_gtr, std_geq, std_eql, std_neq, std_rowOk, std_rdI, rdD, bif_eq, ofNat_eq, List.length_map, List.getElem?_map, Option.map_some, Option.bind_some, Option.bind_none, Int.toNat_natCast, decide_eq_true_eq, Sum.elim_inl, Sum.elim_inr, if_true, if_false, decide_true, decide_false, Bool.false_eq_true, hR.1, this, h8]
  · have : ¬ ((ws.length : Nat) : Int) > 8 := by omega
    rcases in25_1 R (encM l) ws hR (by omega) 0 0 k with ⟨h0, h1⟩ | ⟨h0, h1⟩
    · simp only [need_eq, ask_eq, ret_eq, no_eq, bnd_eq, run_eq, alt_eq, std_len, std_ofNat, std_nat, std_add, std_sub, std_leN, std_eqN, std_and, std_app, std_cut, std_lss, std_leq, std_gtr, std_geq, std_eql, std_neq, std_rowOk, std_rdI, rdD, bif_eq, ofNat_eq, List.length_map, List.getElem?_map, Option.map_some, Option.bind_some, Option.bind_none, Int.toNat_natCast, decide_eq_true_eq, Sum.elim_inl, Sum.elim_inr, if_true, if_false, decide_true, decide_false, Bool.false_eq_true, hR.1, this, h8, h1, h0, G23_ok]
      by_cases h2 : (rchB l k).2.2 = 0
      · simp only [need_eq, ask_eq, ret_eq, no_eq, bnd_eq, run_eq, alt_eq, std_len, std_ofNat, std_nat, std_add, std_sub, std_leN, std_eqN, std_and, std_app, std_cut, std_lss, std_leq, std_gtr, std_geq, std_eql, std_neq, std_rowOk, std_rdI, rdD, bif_eq, ofNat_eq, List.length_map, List.getElem?_map, Option.map_some, Option.bind_some, Option.bind_none, Int.toNat_natCast, decide_eq_true_eq, Sum.elim_inl, Sum.elim_inr, if_true, if_false, decide_true, decide_false, Bool.false_eq_true, h2, Bool.not_true, in25_2 R ws hR (show ws.length ≤ 1000000 by omega) 0 0 k ((rchB l k).1, (rchB l k).2.1)]
      · simp only [need_eq, ask_eq, ret_eq, no_eq, bnd_eq, run_eq, alt_eq, std_len, std_ofNat, std_nat, std_add, std_sub, std_leN, std_eqN, std_and, std_app, std_cut, std_lss, std_leq, std_gtr, std_geq, std_eql, std_neq, std_rowOk, std_rdI, rdD, bif_eq, ofNat_eq, List.length_map, List.getElem?_map, Option.map_some, Option.bind_some, Option.bind_none, Int.toNat_natCast, decide_eq_true_eq, Sum.elim_inl, Sum.elim_inr, if_true, if_false, decide_true, decide_false, Bool.false_eq_true, h2, Bool.not_false]
    · simp only [need_eq, ask_eq, ret_eq, no_eq, bnd_eq, run_eq, alt_eq, std_len, std_ofNat, std_nat, std_add, std_sub, std_leN, std_eqN, std_and, std_app, std_cut, std_lss, std_leq, std_gtr, std_geq, std_eql, std_neq, std_rowOk, std_rdI, rdD, bif_eq, ofNat_eq, List.length_map, List.getElem?_map, Option.map_some, Option.bind_some, Option.bind_none, Int.toNat_natCast, decide_eq_true_eq, Sum.elim_inl, Sum.elim_inr, if_true, if_false, decide_true, decide_false, Bool.false_eq_true, hR.1, this, h8, h1, h0]
end Go.Am
end

section
set_option linter.unusedVariables false
set_option linter.unusedSimpArgs false
set_option linter.unusedSectionVars false
namespace Go.Am
open M08
theorem encM_length (l : List Mk) : (encM l).length = l.length := by simp [encM]
theorem G18_ok (a b : List Blk) (ha : a.length ≤ 1000000) : G18 std (encB a, encB b, ()) = some (decide (a = b), ()) := by
  unfold G18
  by_cases hl : a.length = b.length
  · have hl' : ((a.length : Nat) : Int) = (b.length : Nat) := by omega
    have key : ∃ r, iter (b18_1 std) (encB a, encB b, ((0 : Nat) : Int), ()) = some r ∧ ((r = Sum.inl (false, ()) ∧ a ≠ b) ∨ (r = Sum.inr () ∧ a = b)) := by
      refine iter_count (b := b18_1 std) a.length (fun (_ : Unit) i => (encB a, encB b, (i : Int), ())) (fun _ i => a.take i = b.take i) _ ?_ ?_ () 0 (Nat.zero_le _) (by simp)
      · intro _ i hi hI
        obtain ⟨x, hx⟩ := get_some hi
        obtain ⟨y, hy⟩ := get_some (show i < b.length by omega)
        have hw := wrap_nat (i := i) (by omega)
        have g1 : (i : Int) < a.length := by omega
        have g2 : (i : Int) ≥ 0 := by omega
        have g3 : (i : Int) < b.length := by omega
        have hiff : (x.1 = y.1 ∧ x.2.1 = y.2.1 ∧ x.2.2.1 = y.2.2.1 ∧ x.2.2.2 = y.2.2.2) ↔ x = y := ⟨fun ⟨a, b, c, d⟩ => Prod.ext a (Prod.ext b (Prod.ext c d)), fun h => by subst h; exact ⟨rfl, rfl, rfl, rfl⟩⟩
        have hb : b18_1 std (encB a, encB b, (i : Int), ()) = if x.1 = y.1 ∧ x.2.1 = y.2.1 ∧ x.2.2.1 = y.2.2.1 ∧ x.2.2.2 = y.2.2.2 then some (Sum.inl (encB a, encB b, ((i + 1 : Nat) : Int), ())) else some (Sum.inr (Sum.inl (false, ()))) := by
          simp only [b18_1, need_eq, ask_eq, ret_eq, no_eq, bnd_eq, run_eq, alt_eq, std_len, std_ofNat, std_nat, std_add, std_sub, std_leN, std_eqN, std_and, std_app, std_cut, std_lss, std_leq, std_gtr, std_geq, std_eql, std_neq, std_rowOk, std_rdI, rdD, bif_eq, ofNat_eq, List.length_map, List.getElem?_map, Option.map_some, Option.bind_some, Option.bind_none, Int.toNat_natCast, decide_eq_true_eq, Sum.elim_inl, Sum.elim_inr, if_true, if_false, decide_true, decide_false, Bool.false_eq_true, encB_length, encB_get, cells_eB, dI_eB0, dI_eB1, dI_eB2, dI_eB3, g1, g2, g3, hx, hy, std_ar_add, hw]
          by_cases e1 : x.1 = y.1 <;> by_cases e2 : x.2.1 = y.2.1 <;> by_cases e3 : x.2.2.1 = y.2.2.1 <;> by_cases e4 : x.2.2.2 = y.2.2.2 <;>
            simp only [e1, e2, e3, e4, need_eq, ask_eq, ret_eq, no_eq, bnd_eq, run_eq, alt_eq, std_len, std_ofNat, std_nat, std_add, std_sub, std_leN, std_eqN, std_and, std_app, std_cut, std_lss, std_leq, std_gtr, std_geq, std_eql, std_neq, std_rowOk, std_rdI, rdD, bif_eq, ofNat_eq, List.length_map, List.getElem?_map, Option.map_some, Option.bind_some, Option.bind_none, Int.toNat_natCast, decide_eq_true_eq, Sum.elim_inl, Sum.elim_inr, if_true, if_false, decide_true, decide_false, Bool.false_eq_true, true_and, and_true, and_false, false_and, Bool.not_true, Bool.not_false]
        by_cases e : x = y
        · left
          refine ⟨(), by rw [hb, if_pos (hiff.2 e)], ?_⟩
          obtain ⟨h1, rfl⟩ := List.getElem?_eq_some_iff.1 hx
          obtain ⟨h2, rfl⟩ := List.getElem?_eq_some_iff.1 hy
          rw [List.take_succ_eq_append_getElem h1, List.take_succ_eq_append_getElem h2, hI, e]
        · right
          refine ⟨_, by rw [hb, if_neg fun h => e (hiff.1 h)], .inl ⟨rfl, fun h => e ?_⟩⟩
          subst h
          rw [hx] at hy
          exact Option.some.inj hy
      · intro _ hI
        rw [List.take_length, hl, List.take_length] at hI
        refine ⟨_, ?_, .inr ⟨rfl, hI⟩⟩
        simp only [b18_1, need_eq, ask_eq, ret_eq, no_eq, bnd_eq, run_eq, alt_eq, std_len, std_ofNat, std_nat, std_add, std_sub, std_leN, std_eqN, std_and, std_app, std_cut, std_lss, std_leq, std_gtr, std_geq, std_eql, std_neq, std_rowOk, std_rdI, rdD, bif_eq, ofNat_eq, List.length_map, List.getElem?_map, Option.map_some, Option.bind_some, Option.bind_none, Int.toNat_natCast, decide_eq_true_eq, Sum.elim_inl, Sum.elim_inr, if_true, if_false, decide_true, decide_false, Bool.false_eq_true, encB_length, encB_get, cells_eB, dI_eB0, dI_eB1, dI_eB2, dI_eB3, Int.lt_irrefl]
    obtain ⟨r, h1, h2⟩ := key
    have h1 : iter (b18_1 std) (encB a, encB b, 0, ()) = some r := h1
    rcases h2 with ⟨rfl, h2⟩ | ⟨rfl, h2⟩
    · simp only [need_eq, ask_eq, ret_eq, no_eq, bnd_eq, run_eq, alt_eq, std_len, std_ofNat, std_nat, std_add, std_sub, std_leN, std_eqN, std_and, std_app, std_cut, std_lss, std_leq, std_gtr, std_geq, std_eql, std_neq, std_rowOk, std_rdI, rdD, bif_eq, ofNat_eq, List.length_map, List.getElem?_map, Option.map_some, Option.bind_some, Option.bind_none, Int.toNat_natCast, decide_eq_true_eq, Sum.elim_inl, Sum.elim_inr, if_true, if_false, decide_true, decide_false, Bool.false_eq_true, encB_length, encB_get, cells_eB, dI_eB0, dI_eB1, dI_eB2, dI_eB3, hl', Bool.not_true, h1, h2]
    · rw [decide_eq_true h2]
      simp only [need_eq, ask_eq, ret_eq, no_eq, bnd_eq, run_eq, alt_eq, std_len, std_ofNat, std_nat, std_add, std_sub, std_leN, std_eqN, std_and, std_app, std_cut, std_lss, std_leq, std_gtr, std_geq, std_eql, std_neq, std_rowOk, std_rdI, rdD, bif_eq, ofNat_eq, List.length_map, List.getElem?_map, Option.map_some, Option.bind_some, Option.bind_none, Int.toNat_natCast, decide_eq_true_eq, Sum.elim_inl, Sum.elim_inr, if_true, if_false, decide_true, decide_false, Bool.false_eq_true, encB_length, encB_get, cells_eB, dI_eB0, dI_eB1, dI_eB2, dI_eB3, hl', Bool.not_true, h1]
  · have hl' : ¬ ((a.length : Nat) : Int) = (b.length : Nat) := by omega
    have hne : ¬ a = b := fun h => hl (by rw [h])
    simp only [need_eq, ask_eq, ret_eq, no_eq, bnd_eq, run_eq, alt_eq, std_len, std_ofNat, std_nat, std_add, std_sub, std_leN, std_eqN, std_and, std_app, std_cut, std_lss, std_leq, std_gtr, std_geq, std_eql, std_neq, std_rowOk, std_rdI, rdD, bif_eq, ofNat_eq, List.length_map, List.getElem?_map, Option.map_some, Option.bind_some, Option.bind_none, Int.toNat_natCast, decide_eq_true_eq, Sum.elim_inl, Sum.elim_inr, if_true, if_false, decide_true, decide_false, Bool.false_eq_true, encB_length, encB_get, cells_eB, dI_eB0, dI_eB1, dI_eB2, dI_eB3, hl', hne, Bool.not_false]
def cardL : List Mk := [(10, 1, 1), (20, 4, 1), (30, 2, 1), (40, 3, 2), (50, 9, 1)]
def blksL : List Blk := [(10, 10, 1, 1), (20, 40, 4, 12), (50, 50, 1, 9)]
def woolsL : List (List Mk) := [[(10, 8, 1)], [(10, 0, 1), (20, 8, 1)], [(20, 0, 1), (60, 8, 1)]]
theorem okMk_dec {a b c : Int} (h : (decide (1 ≤ a) && decide (a ≤ 10000) && decide (0 ≤ b) && decide (b ≤ 100) && decide (1 ≤ c) && decide (c ≤ 20)) = true) : okMk (a, b, c) := by
  simp only [Bool.and_eq_true, decide_eq_true_eq] at h
  exact ⟨h.1.1.1.1.1, h.1.1.1.1.2, h.1.1.1.2, h.1.1.2, h.1.2, h.2⟩
theorem chk_zero {l : List Mk} (h1 : ¬ (l.length < 1 ∨ 24 < l.length)) (h2 : ∀ m ∈ l, okMk m) : chk l = 0 := by
  unfold chk
  rw [if_neg h1, if_pos h2]
theorem chk_card0 : chk cardL = 0 := chk_zero (by decide) fun m hm => by
  simp only [cardL, List.mem_cons, List.not_mem_nil, or_false] at hm
  rcases hm with rfl | rfl | rfl | rfl | rfl <;> exact okMk_dec rfl
theorem chk_w1 : chk [(10, 8, 1)] = 0 := chk_zero (by decide) fun m hm => by
  simp only [List.mem_cons, List.not_mem_nil, or_false] at hm
  rcases hm with rfl <;> exact okMk_dec rfl
theorem chk_w2 : chk [(10, 0, 1), (20, 8, 1)] = 0 := chk_zero (by decide) fun m hm => by
  simp only [List.mem_cons, List.not_mem_nil, or_false] at hm
  rcases hm with rfl | rfl <;> exact okMk_dec rfl
theorem chk_w3 : chk [(20, 0, 1), (60, 8, 1)] = 0 := chk_zero (by decide) fun m hm => by
  simp only [List.mem_cons, List.not_mem_nil, or_false] at hm
  rcases hm with rfl | rfl <;> exact okMk_dec rfl
theorem pooled_card : pooled cardL = blksL := by decide
theorem pooled_w1 : pooled [(10, 8, 1)] = [(10, 10, 1, 8)] := by decide
theorem pooled_w2 : pooled [(10, 0, 1), (20, 8, 1)] = [(10, 10, 1, 0), (20, 20, 1, 8)] := by decide
theorem pooled_w3 : pooled [(20, 0, 1), (60, 8, 1)] = [(20, 20, 1, 0), (60, 60, 1, 8)] := by decide
theorem val_25 : valB cardL 25 = (3, 1, 0) := by
  unfold valB
  rw [if_pos chk_card0, pooled_card]
  rfl
theorem val_9 : valB cardL 9 = (0, 0, 5) := by
  unfold valB
  rw [if_pos chk_card0, pooled_card]
  rfl
theorem rch_3 : rchB cardL 3 = (10, 20, 0) := by
  unfold rchB reachOf
  rw [if_pos chk_card0, pooled_card]
  rfl
theorem rch_10 : rchB cardL 10 = (50, 1073741824, 0) := by
  unfold rchB reachOf
  rw [if_pos chk_card0, pooled_card]
  rfl
theorem rch_w1 : rchB [(10, 8, 1)] 3 = (0, 10, 0) := by
  unfold rchB reachOf
  rw [if_pos chk_w1, pooled_w1]
  rfl
theorem rch_w2 : rchB [(10, 0, 1), (20, 8, 1)] 3 = (10, 20, 0) := by
  unfold rchB reachOf
  rw [if_pos chk_w2, pooled_w2]
  rfl
theorem rch_w3 : rchB [(20, 0, 1), (60, 8, 1)] 3 = (20, 60, 0) := by
  unfold rchB reachOf
  rw [if_pos chk_w3, pooled_w3]
  rfl
theorem lbl_3 : lblB woolsL cardL 3 = (1, 2, 0) := by
  unfold lblB woolsL firstBad firstBad firstBad firstBad
  simp only [chk_w1, chk_w2, chk_w3, rch_3, if_true, cntW, List.filter, loW, hiW, rch_w1, rch_w2, rch_w3]
  rfl
theorem e14 : G14 std ([[D.int IntKind.i64 10, D.int IntKind.i64 1, D.int IntKind.i64 1], [D.int IntKind.i64 20, D.int IntKind.i64 4, D.int IntKind.i64 1], [D.int IntKind.i64 30, D.int IntKind.i64 2, D.int IntKind.i64 1], [D.int IntKind.i64 40, D.int IntKind.i64 3, D.int IntKind.i64 2], [D.int IntKind.i64 50, D.int IntKind.i64 9, D.int IntKind.i64 1]], ()) = some ([[D.int IntKind.i64 10, D.int IntKind.i64 10, D.int IntKind.i64 1, D.int IntKind.i64 1], [D.int IntKind.i64 20, D.int IntKind.i64 40, D.int IntKind.i64 4, D.int IntKind.i64 12], [D.int IntKind.i64 50, D.int IntKind.i64 50, D.int IntKind.i64 1, D.int IntKind.i64 9]], 0, ()) := by
  have := G14_ok cardL
  rw [if_pos chk_card0, pooled_card] at this
  exact this
theorem e21a : G21 std ([[D.int IntKind.i64 10, D.int IntKind.i64 1, D.int IntKind.i64 1], [D.int IntKind.i64 20, D.int IntKind.i64 4, D.int IntKind.i64 1], [D.int IntKind.i64 30, D.int IntKind.i64 2, D.int IntKind.i64 1], [D.int IntKind.i64 40, D.int IntKind.i64 3, D.int IntKind.i64 2], [D.int IntKind.i64 50, D.int IntKind.i64 9, D.int IntKind.i64 1]], 25, ()) = some (3, 1, 0, ()) := by
  have := G21_ok cardL 25
  rw [val_25] at this
  exact this
theorem e21b : G21 std ([[D.int IntKind.i64 10, D.int IntKind.i64 1, D.int IntKind.i64 1], [D.int IntKind.i64 20, D.int IntKind.i64 4, D.int IntKind.i64 1], [D.int IntKind.i64 30, D.int IntKind.i64 2, D.int IntKind.i64 1], [D.int IntKind.i64 40, D.int IntKind.i64 3, D.int IntKind.i64 2], [D.int IntKind.i64 50, D.int IntKind.i64 9, D.int IntKind.i64 1]], 9, ()) = some (0, 0, 5, ()) := by
  have := G21_ok cardL 9
  rw [val_9] at this
  exact this
theorem e23a : G23 std ([[D.int IntKind.i64 10, D.int IntKind.i64 1, D.int IntKind.i64 1], [D.int IntKind.i64 20, D.int IntKind.i64 4, D.int IntKind.i64 1], [D.int IntKind.i64 30, D.int IntKind.i64 2, D.int IntKind.i64 1], [D.int IntKind.i64 40, D.int IntKind.i64 3, D.int IntKind.i64 2], [D.int IntKind.i64 50, D.int IntKind.i64 9, D.int IntKind.i64 1]], 3, ()) = some (10, 20, 0, ()) := by
  have := G23_ok cardL 3
  rw [rch_3] at this
  exact this
theorem e23b : G23 std ([[D.int IntKind.i64 10, D.int IntKind.i64 1, D.int IntKind.i64 1], [D.int IntKind.i64 20, D.int IntKind.i64 4, D.int IntKind.i64 1], [D.int IntKind.i64 30, D.int IntKind.i64 2, D.int IntKind.i64 1], [D.int IntKind.i64 40, D.int IntKind.i64 3, D.int IntKind.i64 2], [D.int IntKind.i64 50, D.int IntKind.i64 9, D.int IntKind.i64 1]], 10, ()) = some (50, 1073741824, 0, ()) := by
  have := G23_ok cardL 10
  rw [rch_10] at this
  exact this
theorem e25 : G25 std ([[D.list false 3 [[D.int IntKind.i64 10, D.int IntKind.i64 8, D.int IntKind.i64 1]]], [D.list false 3 [[D.int IntKind.i64 10, D.int IntKind.i64 0, D.int IntKind.i64 1], [D.int IntKind.i64 20, D.int IntKind.i64 8, D.int IntKind.i64 1]]], [D.list false 3 [[D.int IntKind.i64 20, D.int IntKind.i64 0, D.int IntKind.i64 1], [D.int IntKind.i64 60, D.int IntKind.i64 8, D.int IntKind.i64 1]]]], [[D.int IntKind.i64 10, D.int IntKind.i64 1, D.int IntKind.i64 1], [D.int IntKind.i64 20, D.int IntKind.i64 4, D.int IntKind.i64 1], [D.int IntKind.i64 30, D.int IntKind.i64 2, D.int IntKind.i64 1], [D.int IntKind.i64 40, D.int IntKind.i64 3, D.int IntKind.i64 2], [D.int IntKind.i64 50, D.int IntKind.i64 9, D.int IntKind.i64 1]], 3, ()) = some (1, 2, 0, ()) := by
  have := G25_ok [[D.list false 3 [[D.int IntKind.i64 10, D.int IntKind.i64 8, D.int IntKind.i64 1]]], [D.list false 3 [[D.int IntKind.i64 10, D.int IntKind.i64 0, D.int IntKind.i64 1], [D.int IntKind.i64 20, D.int IntKind.i64 8, D.int IntKind.i64 1]]], [D.list false 3 [[D.int IntKind.i64 20, D.int IntKind.i64 0, D.int IntKind.i64 1], [D.int IntKind.i64 60, D.int IntKind.i64 8, D.int IntKind.i64 1]]]] woolsL ⟨rfl, fun i w h => by
    match i, h with
    | 0, h => cases h; exact ⟨_, rfl, rfl, rfl⟩
    | 1, h => cases h; exact ⟨_, rfl, rfl, rfl⟩
    | 2, h => cases h; exact ⟨_, rfl, rfl, rfl⟩⟩ cardL 3
  rw [lbl_3] at this
  exact this
theorem e18 : G18 std ([[D.int IntKind.i64 10, D.int IntKind.i64 10, D.int IntKind.i64 1, D.int IntKind.i64 1], [D.int IntKind.i64 20, D.int IntKind.i64 40, D.int IntKind.i64 4, D.int IntKind.i64 12], [D.int IntKind.i64 50, D.int IntKind.i64 50, D.int IntKind.i64 1, D.int IntKind.i64 9]], [[D.int IntKind.i64 10, D.int IntKind.i64 10, D.int IntKind.i64 1, D.int IntKind.i64 1], [D.int IntKind.i64 20, D.int IntKind.i64 40, D.int IntKind.i64 4, D.int IntKind.i64 12], [D.int IntKind.i64 50, D.int IntKind.i64 50, D.int IntKind.i64 1, D.int IntKind.i64 9]], ()) = some (true, ()) := G18_ok blksL blksL (by decide)
theorem e19 : G19 std ([[D.int IntKind.i64 10, D.int IntKind.i64 1, D.int IntKind.i64 1], [D.int IntKind.i64 20, D.int IntKind.i64 4, D.int IntKind.i64 1], [D.int IntKind.i64 30, D.int IntKind.i64 2, D.int IntKind.i64 1], [D.int IntKind.i64 40, D.int IntKind.i64 3, D.int IntKind.i64 2], [D.int IntKind.i64 50, D.int IntKind.i64 9, D.int IntKind.i64 1]], [[D.int IntKind.i64 10, D.int IntKind.i64 10, D.int IntKind.i64 1, D.int IntKind.i64 1], [D.int IntKind.i64 20, D.int IntKind.i64 40, D.int IntKind.i64 4, D.int IntKind.i64 12], [D.int IntKind.i64 50, D.int IntKind.i64 50, D.int IntKind.i64 1, D.int IntKind.i64 9]], ()) = some (0, ()) := by
  have := G19_ok (chk_card chk_card0).1 (chk_card chk_card0).2.1 blksL (fun b hb => by
    simp only [blksL, List.mem_cons, List.not_mem_nil, or_false] at hb
    rcases hb with rfl | rfl | rfl <;> exact ⟨by decide, by decide, by decide, by decide⟩) (by decide) chk_card0
  have h : chkB cardL blksL = 0 := by
    unfold chkB
    rw [if_pos chk_card0, if_pos pooled_card.symm]
  rw [h] at this
  exact this
theorem ePl : std.plain [[D.int IntKind.i64 10, D.int IntKind.i64 10, D.int IntKind.i64 1, D.int IntKind.i64 1], [D.int IntKind.i64 20, D.int IntKind.i64 40, D.int IntKind.i64 4, D.int IntKind.i64 12], [D.int IntKind.i64 50, D.int IntKind.i64 50, D.int IntKind.i64 1, D.int IntKind.i64 9]] = true := by rfl
theorem G13_ok : G13 std () = some (true, ()) := by
  unfold G13
  simp only [need_eq, ask_eq, ret_eq, no_eq, bnd_eq, run_eq, alt_eq, std_len, std_ofNat, std_nat, std_add, std_sub, std_leN, std_eqN, std_and, std_app, std_cut, std_lss, std_leq, std_gtr, std_geq, std_eql, std_neq, std_rowOk, std_rdI, rdD, bif_eq, ofNat_eq, List.length_map, List.getElem?_map, Option.map_some, Option.bind_some, Option.bind_none, Int.toNat_natCast, decide_eq_true_eq, Sum.elim_inl, Sum.elim_inr, if_true, if_false, decide_true, decide_false, Bool.false_eq_true, List.length_cons, List.length_nil, Nat.zero_add, ite_self, List.drop_zero, List.take_succ_cons, List.take_zero, e14, e21a, e21b, e23a, e23b, e25, e18, e19, ePl, Nat.reduceAdd, Nat.le_refl, Bool.and_true]
theorem G3_ok (l : List Mk) : G3 std (encM l, ()) = some (true, ()) := by
  unfold G3
  have hle := encM_length l
  by_cases h : ((l.length : Nat) : Int) > 30
  · simp only [need_eq, ask_eq, ret_eq, no_eq, bnd_eq, run_eq, alt_eq, std_len, std_ofNat, std_nat, std_add, std_sub, std_leN, std_eqN, std_and, std_app, std_cut, std_lss, std_leq, std_gtr, std_geq, std_eql, std_neq, std_rowOk, std_rdI, rdD, bif_eq, ofNat_eq, List.length_map, List.getElem?_map, Option.map_some, Option.bind_some, Option.bind_none, Int.toNat_natCast, decide_eq_true_eq, Sum.elim_inl, Sum.elim_inr, if_true, if_false, decide_true, decide_false, Bool.false_eq_true, hle, h, G13_ok]
  · by_cases h0 : chk l = 0
    · obtain ⟨h1, hc, _⟩ := chk_card h0
      have hpl := pairs_len (show l.length ≤ 100000 by omega) hc
      have hn := hours_len l
      have hpp : (pooled l).length ≤ 100000 := by rw [pooled_eq hc, List.length_map]; omega
      have ht : (encB (pooled l)).take (pooled l).length = encB (pooled l) := List.take_of_length_le (by rw [encB_length]; exact Nat.le_refl _)
      simp only [need_eq, ask_eq, ret_eq, no_eq, bnd_eq, run_eq, alt_eq, std_len, std_ofNat, std_nat, std_add, std_sub, std_leN, std_eqN, std_and, std_app, std_cut, std_lss, std_leq, std_gtr, std_geq, std_eql, std_neq, std_rowOk, std_rdI, rdD, bif_eq, ofNat_eq, List.length_map, List.getElem?_map, Option.map_some, Option.bind_some, Option.bind_none, Int.toNat_natCast, decide_eq_true_eq, Sum.elim_inl, Sum.elim_inr, if_true, if_false, decide_true, decide_false, Bool.false_eq_true, hle, h, G14_ok, G15_ok, h0, G16_ok, G17_ok, encB_length, Nat.zero_add, Nat.le_refl, Bool.and_true, List.drop_zero, ht, G18_ok (pooled l) (pooled l) (by omega), G13_ok]
    · have e18 : G18 std ([], [], ()) = some (true, ()) := G18_ok [] [] (by decide)
      simp only [need_eq, ask_eq, ret_eq, no_eq, bnd_eq, run_eq, alt_eq, std_len, std_ofNat, std_nat, std_add, std_sub, std_leN, std_eqN, std_and, std_app, std_cut, std_lss, std_leq, std_gtr, std_geq, std_eql, std_neq, std_rowOk, std_rdI, rdD, bif_eq, ofNat_eq, List.length_map, List.getElem?_map, Option.map_some, Option.bind_some, Option.bind_none, Int.toNat_natCast, decide_eq_true_eq, Sum.elim_inl, Sum.elim_inr, if_true, if_false, decide_true, decide_false, Bool.false_eq_true, hle, h, G14_ok, G15_ok, h0, G16_ok, G17_ok, encB_length, Nat.zero_add, Nat.le_refl, Bool.and_true, List.drop_zero, List.length_nil, List.take_nil, e18, G13_ok]
end Go.Am
end
