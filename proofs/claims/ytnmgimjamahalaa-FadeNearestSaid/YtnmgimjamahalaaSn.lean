/-
  What the printed functions compute: the chapter's theorem on nearest rising lines.
-/
import Derived.Test.YtnmgimjamahalaaSk
import Derived.Test.YtnmgimjamahalaaGn
section
set_option linter.unusedVariables false
set_option linter.unusedSimpArgs false
set_option linter.unusedSectionVars false
namespace Go.Am
open M08
def encU (l : List Int) : List (List D) := l.map fun n => [D.int .u16 n]
theorem encU_length (l : List Int) : (encU l).length = l.length := by simp [encU]
theorem encU_get (l : List Int) (i : Nat) : (encU l)[i]? = (l[i]?).map fun n => [D.int .u16 n] := by simp [encU]
theorem cells_U (x : Int) : cellsOk [CK.int IntKind.u16] [D.int .u16 x] = true := rfl
theorem dI_U (x : Int) : dI ([D.int .u16 x][0]?.getD D.nilp) = x := rfl
theorem dI_someU (x : Int) : dI ((some (D.int .u16 x)).getD D.nilp) = x := rfl
theorem chain_good {W S : Nat → Int} : ∀ {p : Nat} {bs : List Nat}, Chain W S p bs → ∀ t ∈ pairs p bs, M08.Good W S t.1 t.2
  | p, [], h, t, ht => by simp [pairs] at ht
  | p, q :: r, h, t, ht => by
    simp only [pairs, List.mem_cons] at ht
    rcases ht with rfl | ht
    · exact h.2.1
    · exact chain_good h.2.2.2 t ht
def Rising (L : List Int) : Prop := L.Pairwise (· ≤ ·) ∧ ∀ x ∈ L, 0 ≤ x ∧ x ≤ 2400
theorem G29_ok {l : List Mk} (hl : l.length ≤ 24) (hc : ∀ m ∈ l, okMk m) (bs : List Int) (hb : ∀ x ∈ bs, 0 ≤ x ∧ x ≤ 65535) (hbl : bs.length ≤ 1000) :
    ∃ L, G29 std (encM l, encU bs, ()) = some (rowsI L, ()) ∧ L.length = (hours l).length ∧ Rising L := by
  have hn := hours_len l
  have hrl := rowsI_length (hours l)
  have h28 := G28_ok l (show l.length ≤ 100000 by omega) hc
  have key := iter_count (b := b29_1 std) (hours l).length (fun (s : List Int × Int) i => (rowsI s.1, encM l, encU bs, s.2, (i : Int), ()))
    (fun s i => s.1.length = i ∧ 0 ≤ s.2 ∧ s.2 ≤ 100 * (i : Int) ∧ s.1.Pairwise (· ≤ ·) ∧ ∀ x ∈ s.1, 0 ≤ x ∧ x ≤ s.2)
    (fun r => ∃ L, r = (rowsI L, ()) ∧ L.length = (hours l).length ∧ Rising L) ?_ ?_ ([], 0) 0 (Nat.zero_le _) ⟨rfl, by simp, by simp, List.Pairwise.nil, by simp⟩
  · obtain ⟨r, h2, L, rfl, h3⟩ := key
    have h2 : iter (b29_1 std) ([], encM l, encU bs, 0, 0, ()) = some (rowsI L, ()) := h2
    refine ⟨L, ?_, h3⟩
    unfold G29
    simp only [need_eq, ask_eq, ret_eq, no_eq, bnd_eq, run_eq, alt_eq, std_len, std_ofNat, std_nat, std_add, std_sub, std_leN, std_eqN, std_and, std_app, std_cut, std_lss, std_leq, std_gtr, std_geq, std_eql, std_neq, std_rowOk, std_rdI, rdD, bif_eq, ofNat_eq, List.length_map, List.getElem?_map, Option.map_some, Option.bind_some, Option.bind_none, Int.toNat_natCast, decide_eq_true_eq, Sum.elim_inl, Sum.elim_inr, if_true, if_false, decide_true, decide_false, Bool.false_eq_true, h2]
  · rintro ⟨L, cur⟩ i hi ⟨h1, h2, h3, h4, h5⟩
    simp only at h1 h2 h3 h4 h5
    left
    have hw := wrap_nat (i := i) (by omega)
    have g1 : (i : Int) < (hours l).length := by omega
    have hLl : (rowsI L).length = i := by rw [rowsI_length]; exact h1
    have hap : ∀ c : Int, rowsI L ++ [[D.int .i64 c]] = rowsI (L ++ [c]) := fun c => by simp [rowsI]
    have fin : ∀ c : Int, cur ≤ c → c ≤ cur + 99 → (L ++ [c]).length = i + 1 ∧ 0 ≤ c ∧ c ≤ 100 * ((i + 1 : Nat) : Int) ∧ (L ++ [c]).Pairwise (· ≤ ·) ∧ ∀ x ∈ L ++ [c], 0 ≤ x ∧ x ≤ c := fun c c1 c2 => by
      refine ⟨by simp [h1], by omega, by omega, ?_, fun x hx => ?_⟩
      · rw [List.pairwise_append]
        refine ⟨h4, List.pairwise_singleton .., fun a ha b hb => ?_⟩
        simp only [List.mem_singleton] at hb
        subst hb
        have := h5 a ha
        omega
      · rcases List.mem_append.1 hx with hx | hx
        · have := h5 x hx; omega
        · simp only [List.mem_singleton] at hx
          subst hx; omega
    by_cases hbz : bs.length = 0
    · have z : ¬ ((bs.length : Nat) : Int) > 0 := by omega
      refine ⟨(L ++ [cur], cur), ?_, fin cur (by omega) (by omega)⟩
      simp only [b29_1, need_eq, ask_eq, ret_eq, no_eq, bnd_eq, run_eq, alt_eq, std_len, std_ofNat, std_nat, std_add, std_sub, std_leN, std_eqN, std_and, std_app, std_cut, std_lss, std_leq, std_gtr, std_geq, std_eql, std_neq, std_rowOk, std_rdI, rdD, bif_eq, ofNat_eq, List.length_map, List.getElem?_map, Option.map_some, Option.bind_some, Option.bind_none, Int.toNat_natCast, decide_eq_true_eq, Sum.elim_inl, Sum.elim_inr, if_true, if_false, decide_true, decide_false, Bool.false_eq_true, h28, hrl, g1, encU_length, z, hLl, ← hap, List.drop_zero, List.take_of_length_le (Nat.le_of_eq hLl), List.length_cons, List.length_nil, List.length_append, List.take_succ_cons, List.take_zero, Nat.zero_add, Nat.le_refl, Bool.and_true, Bool.true_and, show i + 1 ≤ 1000000 by omega, std_ar_add, hw]
    · have z : ((bs.length : Nat) : Int) > 0 := by omega
      have z' : ¬ ((bs.length : Nat) : Int) = 0 := by omega
      have hm : (i : Int).tmod (bs.length : Int) = ((i % bs.length : Nat) : Int) := rfl
      have hml : i % bs.length < bs.length := Nat.mod_lt _ (by omega)
      obtain ⟨x, hx⟩ := get_some hml
      have hxb := hb x (List.mem_of_getElem? hx)
      obtain ⟨n, rfl⟩ := Int.eq_ofNat_of_zero_le hxb.1
      have hr : std.ar .rem .u16 (n : Int) 100 = ((n % 100 : Nat) : Int) := rfl
      have hrl' : n % 100 < 100 := Nat.mod_lt _ (by omega)
      have hcv : IntKind.i64.wrap ((n % 100 : Nat) : Int) = ((n % 100 : Nat) : Int) := by rw [wrap64] <;> omega
      have had : IntKind.i64.wrap (cur + ((n % 100 : Nat) : Int)) = cur + ((n % 100 : Nat) : Int) := by rw [wrap64] <;> omega
      have f1 : ((i % bs.length : Nat) : Int) ≥ 0 := by omega
      have f2 : ((i % bs.length : Nat) : Int) < bs.length := by omega
      refine ⟨(L ++ [cur + ((n % 100 : Nat) : Int)], cur + ((n % 100 : Nat) : Int)), ?_, fin _ (by omega) (by omega)⟩
      simp only [b29_1, need_eq, ask_eq, ret_eq, no_eq, bnd_eq, run_eq, alt_eq, std_len, std_ofNat, std_nat, std_add, std_sub, std_leN, std_eqN, std_and, std_app, std_cut, std_lss, std_leq, std_gtr, std_geq, std_eql, std_neq, std_rowOk, std_rdI, rdD, bif_eq, ofNat_eq, List.length_map, List.getElem?_map, Option.map_some, Option.bind_some, Option.bind_none, Int.toNat_natCast, decide_eq_true_eq, Sum.elim_inl, Sum.elim_inr, if_true, if_false, decide_true, decide_false, Bool.false_eq_true, h28, hrl, g1, encU_length, encU_get, z, z', std_ar_rem, hm, f1, f2, hx, cells_U, dI_U, dI_someU, hr, std_cvt, hcv, show ¬ (100 : Int) = 0 by omega, Bool.not_false, hLl, ← hap, List.drop_zero, List.take_of_length_le (Nat.le_of_eq hLl), List.length_cons, List.length_nil, List.length_append, List.take_succ_cons, List.take_zero, Nat.zero_add, Nat.le_refl, Bool.and_true, Bool.true_and, show i + 1 ≤ 1000000 by omega, std_ar_add, hw, had]
  · rintro ⟨L, cur⟩ ⟨h1, h2, h3, h4, h5⟩
    refine ⟨_, ?_, L, rfl, h1, h4, fun x hx => ?_⟩
    · simp only [b29_1, need_eq, ask_eq, ret_eq, no_eq, bnd_eq, run_eq, alt_eq, std_len, std_ofNat, std_nat, std_add, std_sub, std_leN, std_eqN, std_and, std_app, std_cut, std_lss, std_leq, std_gtr, std_geq, std_eql, std_neq, std_rowOk, std_rdI, rdD, bif_eq, ofNat_eq, List.length_map, List.getElem?_map, Option.map_some, Option.bind_some, Option.bind_none, Int.toNat_natCast, decide_eq_true_eq, Sum.elim_inl, Sum.elim_inr, if_true, if_false, decide_true, decide_false, Bool.false_eq_true, h28, hrl, Int.lt_irrefl]
    · have := h5 x hx
      simp only at h3
      omega
theorem mul_box {x y a b : Int} (h1 : -a ≤ x) (h2 : x ≤ a) (h3 : 0 ≤ y) (h4 : y ≤ b) (ha : 0 ≤ a) : -(a * b) ≤ x * y ∧ x * y ≤ a * b := by
  have e1 : x * y ≤ a * y := Int.mul_le_mul_of_nonneg_right h2 h3
  have e2 : -a * y ≤ x * y := Int.mul_le_mul_of_nonneg_right h1 h3
  have e3 : a * y ≤ a * b := Int.mul_le_mul_of_nonneg_left h4 ha
  have e4 : -a * y = -(a * y) := Int.neg_mul a y
  omega
section
variable {l : List Mk} (hl : l.length ≤ 24) (hc : ∀ m ∈ l, okMk m)
include hl hc
theorem lim_lt' {i j : Nat} (h : i < j) (hj : j < (hours l).length) : lim l i < lim l j :=
  get_lt (hours_get (show i < (hours l).length by omega)) (hours_get hj) h
theorem lim_le' {i j : Nat} (h : i ≤ j) (hj : j < (hours l).length) : lim l i ≤ lim l j := by
  by_cases e : i = j
  · subst e; exact Int.le_refl _
  · exact Int.le_of_lt (lim_lt' hl hc (by omega) hj)
def against (l : List Mk) (p q k : Nat) : Int := (cumS l k - cumS l p) * (cumW l q - cumW l p) - (cumS l q - cumS l p) * (cumW l k - cumW l p)
theorem against_p {p q : Nat} : against l p q p = 0 := by unfold against; grind
theorem against_q {p q : Nat} : against l p q q = 0 := by unfold against; grind
theorem against_step {p q k : Nat} : (cumS l (k + 1) - cumS l k) * (cumW l q - cumW l p) - (cumS l q - cumS l p) * (cumW l (k + 1) - cumW l k) = against l p q (k + 1) - against l p q k := by unfold against; grind
theorem in7_3 (L : List Int) (hL : L.length = (hours l).length) (hr : Rising L) {p q j : Nat} (hj : (pooled l)[j]? = some (mkB l (p, q))) (hpq : p < q) (hq : q ≤ (hours l).length) (hg : M08.Good (cumW l) (cumS l) p q) :
    ∃ ag : Int, iter (b7_3 std) (encB (pooled l), rowsI (hours l), rowsI L, encM l, (j : Int), 0, 0, ()) = some (encB (pooled l), rowsI (hours l), rowsI L, encM l, (j : Int), ag, ()) ∧ ag ≤ 0 := by
  have hn := hours_len l
  have hrl := rowsI_length (hours l)
  have hLl := rowsI_length L
  have key := iter_count (b := b7_3 std) (hours l).length (fun (ag : Int) k => (encB (pooled l), rowsI (hours l), rowsI L, encM l, (j : Int), ag, (k : Int), ()))
    (fun ag k => -(60000000000 * (k : Int)) ≤ ag ∧ ag ≤ 60000000000 * (k : Int) ∧ (k ≤ p → ag ≤ 0) ∧ (p < k → k ≤ q → ∃ x, L[k - 1]? = some x ∧ ag ≤ against l p q k * x) ∧ (q ≤ k → ag ≤ 0))
    (fun r => ∃ ag : Int, r = (encB (pooled l), rowsI (hours l), rowsI L, encM l, (j : Int), ag, ()) ∧ ag ≤ 0) ?_ ?_ 0 0 (Nat.zero_le _) ⟨by simp, by simp, fun _ => Int.le_refl _, fun h => by omega, fun _ => Int.le_refl _⟩
  · obtain ⟨r, h1, ag, rfl, h2⟩ := key
    exact ⟨ag, h1, h2⟩
  · rintro ag k hk ⟨b1, b2, i1, i2, i3⟩
    left
    have hw := wrap_nat (i := k) (by omega)
    have g1 : (k : Int) < (hours l).length := by omega
    have g2 : (k : Int) ≥ 0 := by omega
    have g3 : (j : Int) ≥ 0 := by omega
    have hjl : j < (pooled l).length := by
      obtain ⟨h, _⟩ := List.getElem?_eq_some_iff.1 hj
      exact h
    have g4 : (j : Int) < (pooled l).length := by omega
    have g5 : (k : Int) < L.length := by omega
    have hkl := hours_get (l := l) hk
    have eT : (mkB l (p, q)).2.1 = lim l (q - 1) := rfl
    have eF : (mkB l (p, q)).1 = lim l p := rfl
    by_cases hkp : k < p
    · have c1 := lim_lt' hl hc hkp (by omega)
      refine ⟨ag, ?_, by omega, by omega, fun _ => i1 (by omega), fun h1 h2 => by omega, fun h => by omega⟩
      simp only [b7_3, need_eq, ask_eq, ret_eq, no_eq, bnd_eq, run_eq, alt_eq, std_len, std_ofNat, std_nat, std_add, std_sub, std_leN, std_eqN, std_and, std_app, std_cut, std_lss, std_leq, std_gtr, std_geq, std_eql, std_neq, std_rowOk, std_rdI, rdD, bif_eq, ofNat_eq, List.length_map, List.getElem?_map, Option.map_some, Option.bind_some, Option.bind_none, Int.toNat_natCast, decide_eq_true_eq, Sum.elim_inl, Sum.elim_inr, if_true, if_false, decide_true, decide_false, Bool.false_eq_true, List.length_cons, List.length_nil, Nat.zero_add, ite_self, encB_length, encB_get, cells_eB, dI_eB0, dI_eB1, dI_eB2, dI_eB3, hrl, g1, g2, g3, g4, rowsI_get, hkl, cells_I, dI_I, dI_some, hj, eF, c1, std_ar_add, hw]
    have c1 : ¬ lim l k < lim l p := by have := lim_le' hl hc (show p ≤ k by omega) hk; omega
    by_cases hkq : q ≤ k
    · have c2 : lim l k > lim l (q - 1) := lim_lt' hl hc (by omega) hk
      refine ⟨ag, ?_, by omega, by omega, fun h => by omega, fun h1 h2 => by omega, fun h => i3 hkq⟩
      simp only [b7_3, need_eq, ask_eq, ret_eq, no_eq, bnd_eq, run_eq, alt_eq, std_len, std_ofNat, std_nat, std_add, std_sub, std_leN, std_eqN, std_and, std_app, std_cut, std_lss, std_leq, std_gtr, std_geq, std_eql, std_neq, std_rowOk, std_rdI, rdD, bif_eq, ofNat_eq, List.length_map, List.getElem?_map, Option.map_some, Option.bind_some, Option.bind_none, Int.toNat_natCast, decide_eq_true_eq, Sum.elim_inl, Sum.elim_inr, if_true, if_false, decide_true, decide_false, Bool.false_eq_true, List.length_cons, List.length_nil, Nat.zero_add, ite_self, encB_length, encB_get, cells_eB, dI_eB0, dI_eB1, dI_eB2, dI_eB3, hrl, g1, g2, g3, g4, rowsI_get, hkl, cells_I, dI_I, dI_some, hj, eF, eT, c1, c2, std_ar_add, hw]
    have c2 : ¬ lim l k > lim l (q - 1) := by have := lim_le' hl hc (show k ≤ q - 1 by omega) (by omega); omega
    have h30 := G30_ok l (show l.length ≤ 100000 by omega) hc (lim l k) (lim l k)
    have hbk : blk l (lim l k) (lim l k) = mkB l (k, k + 1) := mkB_bl (show l.length ≤ 100000 by omega) hc (show k < k + 1 by omega) (by omega)
    rw [hbk] at h30
    obtain ⟨x, hx⟩ := get_some (show k < L.length by omega)
    have hxb := hr.2 x (List.mem_of_getElem? hx)
    have t1 := mkB_ti hl hc (show k < k + 1 by omega) (show k + 1 ≤ (hours l).length by omega)
    have t2 := mkB_ti hl hc hpq hq
    have m1 := mul_box (x := (mkB l (k, k + 1)).2.2.2) (y := (mkB l (p, q)).2.2.1) (a := 48000) (b := 480) (by have := t1.2.2.1; omega) t1.2.2.2 t2.1 t2.2.1 (by omega)
    have m1' : 0 ≤ (mkB l (k, k + 1)).2.2.2 * (mkB l (p, q)).2.2.1 := Int.mul_nonneg t1.2.2.1 t2.1
    have m2 := mul_box (x := (mkB l (p, q)).2.2.2) (y := (mkB l (k, k + 1)).2.2.1) (a := 48000) (b := 480) (by have := t2.2.2.1; omega) t2.2.2.2 t1.1 t1.2.1 (by omega)
    have m2' : 0 ≤ (mkB l (p, q)).2.2.2 * (mkB l (k, k + 1)).2.2.1 := Int.mul_nonneg t2.2.2.1 t1.1
    have m3 := mul_box (x := (mkB l (k, k + 1)).2.2.2 * (mkB l (p, q)).2.2.1 - (mkB l (p, q)).2.2.2 * (mkB l (k, k + 1)).2.2.1) (y := x) (a := 23040000) (b := 2400) (by omega) (by omega) hxb.1 hxb.2 (by omega)
    have w1 : IntKind.i64.wrap ((mkB l (k, k + 1)).2.2.2 * (mkB l (p, q)).2.2.1) = (mkB l (k, k + 1)).2.2.2 * (mkB l (p, q)).2.2.1 := by rw [wrap64] <;> omega
    have w2 : IntKind.i64.wrap ((mkB l (p, q)).2.2.2 * (mkB l (k, k + 1)).2.2.1) = (mkB l (p, q)).2.2.2 * (mkB l (k, k + 1)).2.2.1 := by rw [wrap64] <;> omega
    have w3 : IntKind.i64.wrap ((mkB l (k, k + 1)).2.2.2 * (mkB l (p, q)).2.2.1 - (mkB l (p, q)).2.2.2 * (mkB l (k, k + 1)).2.2.1) = (mkB l (k, k + 1)).2.2.2 * (mkB l (p, q)).2.2.1 - (mkB l (p, q)).2.2.2 * (mkB l (k, k + 1)).2.2.1 := by rw [wrap64] <;> omega
    have w4 : IntKind.i64.wrap (((mkB l (k, k + 1)).2.2.2 * (mkB l (p, q)).2.2.1 - (mkB l (p, q)).2.2.2 * (mkB l (k, k + 1)).2.2.1) * x) = ((mkB l (k, k + 1)).2.2.2 * (mkB l (p, q)).2.2.1 - (mkB l (p, q)).2.2.2 * (mkB l (k, k + 1)).2.2.1) * x := by rw [wrap64] <;> omega
    have w5 : IntKind.i64.wrap (ag + ((mkB l (k, k + 1)).2.2.2 * (mkB l (p, q)).2.2.1 - (mkB l (p, q)).2.2.2 * (mkB l (k, k + 1)).2.2.1) * x) = ag + ((mkB l (k, k + 1)).2.2.2 * (mkB l (p, q)).2.2.1 - (mkB l (p, q)).2.2.2 * (mkB l (k, k + 1)).2.2.1) * x := by rw [wrap64] <;> omega
    have est : (mkB l (k, k + 1)).2.2.2 * (mkB l (p, q)).2.2.1 - (mkB l (p, q)).2.2.2 * (mkB l (k, k + 1)).2.2.1 = against l p q (k + 1) - against l p q k := against_step hl hc
    have hle : ag + (against l p q (k + 1) - against l p q k) * x ≤ against l p q (k + 1) * x := by
      have hkk : ag ≤ against l p q k * x := by
        by_cases e : k = p
        · subst e
          rw [against_p hl hc, Int.zero_mul]
          exact i1 (Nat.le_refl _)
        · obtain ⟨y, hy, hay⟩ := i2 (by omega) (by omega)
          have hyx : y ≤ x := by
            obtain ⟨q1, rfl⟩ := List.getElem?_eq_some_iff.1 hy
            obtain ⟨q2, rfl⟩ := List.getElem?_eq_some_iff.1 hx
            exact List.pairwise_iff_getElem.1 hr.1 (k - 1) k q1 q2 (by omega)
          have hpos : 0 ≤ against l p q k := by
            have := hg k (by omega) (by omega)
            unfold Above at this
            unfold against
            omega
          exact Int.le_trans hay (Int.mul_le_mul_of_nonneg_left hyx hpos)
      rw [Int.sub_mul]
      omega
    refine ⟨ag + ((mkB l (k, k + 1)).2.2.2 * (mkB l (p, q)).2.2.1 - (mkB l (p, q)).2.2.2 * (mkB l (k, k + 1)).2.2.1) * x, ?_, by omega, by omega, fun h => by omega, fun h1 h2 => ⟨x, by rw [show k + 1 - 1 = k by omega]; exact hx, by rw [est]; exact hle⟩, fun h => ?_⟩
    · simp only [b7_3, need_eq, ask_eq, ret_eq, no_eq, bnd_eq, run_eq, alt_eq, std_len, std_ofNat, std_nat, std_add, std_sub, std_leN, std_eqN, std_and, std_app, std_cut, std_lss, std_leq, std_gtr, std_geq, std_eql, std_neq, std_rowOk, std_rdI, rdD, bif_eq, ofNat_eq, List.length_map, List.getElem?_map, Option.map_some, Option.bind_some, Option.bind_none, Int.toNat_natCast, decide_eq_true_eq, Sum.elim_inl, Sum.elim_inr, if_true, if_false, decide_true, decide_false, Bool.false_eq_true, List.length_cons, List.length_nil, Nat.zero_add, ite_self, encB_length, encB_get, cells_eB, dI_eB0, dI_eB1, dI_eB2, dI_eB3, hrl, hLl, g1, g2, g3, g4, g5, rowsI_get, hkl, hx, cells_I, dI_I, dI_some, hj, eF, eT, c1, c2, h30, std_ar_add, std_ar_sub, std_ar_mul, w1, w2, w3, w4, w5, hw]
    · rw [est]
      have : k + 1 = q := by omega
      rw [this, against_q hl hc] at hle ⊢
      rw [Int.zero_mul] at hle
      exact hle
  · rintro ag ⟨_, _, _, _, i3⟩
    refine ⟨_, ?_, ag, rfl, i3 hq⟩
    simp only [b7_3, need_eq, ask_eq, ret_eq, no_eq, bnd_eq, run_eq, alt_eq, std_len, std_ofNat, std_nat, std_add, std_sub, std_leN, std_eqN, std_and, std_app, std_cut, std_lss, std_leq, std_gtr, std_geq, std_eql, std_neq, std_rowOk, std_rdI, rdD, bif_eq, ofNat_eq, List.length_map, List.getElem?_map, Option.map_some, Option.bind_some, Option.bind_none, Int.toNat_natCast, decide_eq_true_eq, Sum.elim_inl, Sum.elim_inr, if_true, if_false, decide_true, decide_false, Bool.false_eq_true, hrl, Int.lt_irrefl]
theorem in7_2 (L : List Int) (hL : L.length = (hours l).length) (hr : Rising L) : iter (b7_2 std) (encB (pooled l), rowsI (hours l), rowsI L, encM l, 0, ()) = some (Sum.inr ()) := by
  have hpl := pairs_len (show l.length ≤ 100000 by omega) hc
  have hn := hours_len l
  have hpp : (pooled l).length ≤ 100000 := by rw [pooled_eq hc, List.length_map]; omega
  have key := iter_count (b := b7_2 std) (pooled l).length (fun (_ : Unit) j => (encB (pooled l), rowsI (hours l), rowsI L, encM l, (j : Int), ())) (fun _ _ => True) (fun r => r = Sum.inr ()) ?_ ?_ () 0 (Nat.zero_le _) trivial
  · obtain ⟨r, h1, rfl⟩ := key
    exact h1
  · intro _ j hj _
    left
    obtain ⟨b, hb⟩ := get_some hj
    have hw := wrap_nat (i := j) (by omega)
    have g1 : (j : Int) < (pooled l).length := by omega
    obtain ⟨_, p, q, ht, hpq, hq, rfl⟩ := pooled_pos hc (List.mem_of_getElem? hb)
    obtain ⟨c1, c2, c3⟩ := breaks_chain (W := cumW l) (S := cumS l) (cumW_mono hc)
    obtain ⟨ag, h1, h2⟩ := in7_3 hl hc L hL hr hb hpq hq (chain_good c1 (p, q) ht)
    have g2 : ¬ ag > 0 := by omega
    refine ⟨(), ?_, trivial⟩
    simp only [b7_2, need_eq, ask_eq, ret_eq, no_eq, bnd_eq, run_eq, alt_eq, std_len, std_ofNat, std_nat, std_add, std_sub, std_leN, std_eqN, std_and, std_app, std_cut, std_lss, std_leq, std_gtr, std_geq, std_eql, std_neq, std_rowOk, std_rdI, rdD, bif_eq, ofNat_eq, List.length_map, List.getElem?_map, Option.map_some, Option.bind_some, Option.bind_none, Int.toNat_natCast, decide_eq_true_eq, Sum.elim_inl, Sum.elim_inr, if_true, if_false, decide_true, decide_false, Bool.false_eq_true, encB_length, encB_get, cells_eB, dI_eB0, dI_eB1, dI_eB2, dI_eB3, g1, h1, g2, std_ar_add, hw]
  · intro _ _
    refine ⟨_, ?_, rfl⟩
    simp only [b7_2, need_eq, ask_eq, ret_eq, no_eq, bnd_eq, run_eq, alt_eq, std_len, std_ofNat, std_nat, std_add, std_sub, std_leN, std_eqN, std_and, std_app, std_cut, std_lss, std_leq, std_gtr, std_geq, std_eql, std_neq, std_rowOk, std_rdI, rdD, bif_eq, ofNat_eq, List.length_map, List.getElem?_map, Option.map_some, Option.bind_some, Option.bind_none, Int.toNat_natCast, decide_eq_true_eq, Sum.elim_inl, Sum.elim_inr, if_true, if_false, decide_true, decide_false, Bool.false_eq_true, encB_length, encB_get, cells_eB, dI_eB0, dI_eB1, dI_eB2, dI_eB3, Int.lt_irrefl]
end
theorem in7_1 (X Y : List (List D)) (g : List Blk) (hgl : g.length ≤ 1000000) :
    ∃ r, iter (b7_1 std) (X, Y, encB g, 0, ()) = some r ∧ (r = Sum.inl (true, ()) ∨ (r = Sum.inr (X, Y, encB g, ()) ∧ ∀ b ∈ g, MaxB b)) := by
  have key := iter_count (b := b7_1 std) g.length (fun (_ : Unit) i => (X, Y, encB g, (i : Int), ())) (fun _ i => ∀ (j : Nat) (b : Blk), j < i → g[j]? = some b → MaxB b)
    (fun r => r = Sum.inl (true, ()) ∨ (r = Sum.inr (X, Y, encB g, ()) ∧ ∀ b ∈ g, MaxB b)) ?_ ?_ () 0 (Nat.zero_le _) (fun j b h => by omega)
  · exact key
  · intro _ i hi hI
    obtain ⟨b, hb⟩ := get_some hi
    have hw := wrap_nat (i := i) (by omega)
    have g1 : (i : Int) < g.length := by omega
    have g2 : (i : Int) ≥ 0 := by omega
    by_cases h1 : b.2.2.1 < -1099511627776
    · right
      refine ⟨_, ?_, .inl rfl⟩
      simp only [b7_1, need_eq, ask_eq, ret_eq, no_eq, bnd_eq, run_eq, alt_eq, std_len, std_ofNat, std_nat, std_add, std_sub, std_leN, std_eqN, std_and, std_app, std_cut, std_lss, std_leq, std_gtr, std_geq, std_eql, std_neq, std_rowOk, std_rdI, rdD, bif_eq, ofNat_eq, List.length_map, List.getElem?_map, Option.map_some, Option.bind_some, Option.bind_none, Int.toNat_natCast, decide_eq_true_eq, Sum.elim_inl, Sum.elim_inr, if_true, if_false, decide_true, decide_false, Bool.false_eq_true, encB_length, encB_get, cells_eB, dI_eB0, dI_eB1, dI_eB2, dI_eB3, g1, g2, hb, h1, G13_ok]
    by_cases h2 : b.2.2.1 > 1099511627776
    · right
      refine ⟨_, ?_, .inl rfl⟩
      simp only [b7_1, need_eq, ask_eq, ret_eq, no_eq, bnd_eq, run_eq, alt_eq, std_len, std_ofNat, std_nat, std_add, std_sub, std_leN, std_eqN, std_and, std_app, std_cut, std_lss, std_leq, std_gtr, std_geq, std_eql, std_neq, std_rowOk, std_rdI, rdD, bif_eq, ofNat_eq, List.length_map, List.getElem?_map, Option.map_some, Option.bind_some, Option.bind_none, Int.toNat_natCast, decide_eq_true_eq, Sum.elim_inl, Sum.elim_inr, if_true, if_false, decide_true, decide_false, Bool.false_eq_true, encB_length, encB_get, cells_eB, dI_eB0, dI_eB1, dI_eB2, dI_eB3, g1, g2, hb, h1, h2, G13_ok]
    by_cases h3 : b.2.2.2 < -1099511627776
    · right
      refine ⟨_, ?_, .inl rfl⟩
      simp only [b7_1, need_eq, ask_eq, ret_eq, no_eq, bnd_eq, run_eq, alt_eq, std_len, std_ofNat, std_nat, std_add, std_sub, std_leN, std_eqN, std_and, std_app, std_cut, std_lss, std_leq, std_gtr, std_geq, std_eql, std_neq, std_rowOk, std_rdI, rdD, bif_eq, ofNat_eq, List.length_map, List.getElem?_map, Option.map_some, Option.bind_some, Option.bind_none, Int.toNat_natCast, decide_eq_true_eq, Sum.elim_inl, Sum.elim_inr, if_true, if_false, decide_true, decide_false, Bool.false_eq_true, encB_length, encB_get, cells_eB, dI_eB0, dI_eB1, dI_eB2, dI_eB3, g1, g2, hb, h1, h2, h3, G13_ok]
    by_cases h4 : b.2.2.2 > 1099511627776
    · right
      refine ⟨_, ?_, .inl rfl⟩
      simp only [b7_1, need_eq, ask_eq, ret_eq, no_eq, bnd_eq, run_eq, alt_eq, std_len, std_ofNat, std_nat, std_add, std_sub, std_leN, std_eqN, std_and, std_app, std_cut, std_lss, std_leq, std_gtr, std_geq, std_eql, std_neq, std_rowOk, std_rdI, rdD, bif_eq, ofNat_eq, List.length_map, List.getElem?_map, Option.map_some, Option.bind_some, Option.bind_none, Int.toNat_natCast, decide_eq_true_eq, Sum.elim_inl, Sum.elim_inr, if_true, if_false, decide_true, decide_false, Bool.false_eq_true, encB_length, encB_get, cells_eB, dI_eB0, dI_eB1, dI_eB2, dI_eB3, g1, g2, hb, h1, h2, h3, h4, G13_ok]
    left
    refine ⟨(), ?_, fun j c hj hc => ?_⟩
    · simp only [b7_1, need_eq, ask_eq, ret_eq, no_eq, bnd_eq, run_eq, alt_eq, std_len, std_ofNat, std_nat, std_add, std_sub, std_leN, std_eqN, std_and, std_app, std_cut, std_lss, std_leq, std_gtr, std_geq, std_eql, std_neq, std_rowOk, std_rdI, rdD, bif_eq, ofNat_eq, List.length_map, List.getElem?_map, Option.map_some, Option.bind_some, Option.bind_none, Int.toNat_natCast, decide_eq_true_eq, Sum.elim_inl, Sum.elim_inr, if_true, if_false, decide_true, decide_false, Bool.false_eq_true, encB_length, encB_get, cells_eB, dI_eB0, dI_eB1, dI_eB2, dI_eB3, g1, g2, hb, h1, h2, h3, h4, std_ar_add, hw]
    · by_cases hji : j = i
      · subst hji
        rw [hb] at hc
        cases hc
        exact ⟨by omega, by omega, by omega, by omega⟩
      · exact hI j c (by omega) hc
  · intro _ hI
    refine ⟨_, ?_, .inr ⟨rfl, fun b hb => ?_⟩⟩
    · simp only [b7_1, need_eq, ask_eq, ret_eq, no_eq, bnd_eq, run_eq, alt_eq, std_len, std_ofNat, std_nat, std_add, std_sub, std_leN, std_eqN, std_and, std_app, std_cut, std_lss, std_leq, std_gtr, std_geq, std_eql, std_neq, std_rowOk, std_rdI, rdD, bif_eq, ofNat_eq, List.length_map, List.getElem?_map, Option.map_some, Option.bind_some, Option.bind_none, Int.toNat_natCast, decide_eq_true_eq, Sum.elim_inl, Sum.elim_inr, if_true, if_false, decide_true, decide_false, Bool.false_eq_true, encB_length, encB_get, cells_eB, dI_eB0, dI_eB1, dI_eB2, dI_eB3, Int.lt_irrefl]
    · obtain ⟨j, hj⟩ := List.getElem?_of_mem hb
      obtain ⟨h1, _⟩ := List.getElem?_eq_some_iff.1 hj
      exact hI j b h1 hj
theorem G27_ok (l : List Mk) : G27 std (encM l, ()) = some (decide (chk l = 0), ()) := by
  unfold G27
  simp only [need_eq, ask_eq, ret_eq, no_eq, bnd_eq, run_eq, alt_eq, std_len, std_ofNat, std_nat, std_add, std_sub, std_leN, std_eqN, std_and, std_app, std_cut, std_lss, std_leq, std_gtr, std_geq, std_eql, std_neq, std_rowOk, std_rdI, rdD, bif_eq, ofNat_eq, List.length_map, List.getElem?_map, Option.map_some, Option.bind_some, Option.bind_none, Int.toNat_natCast, decide_eq_true_eq, Sum.elim_inl, Sum.elim_inr, if_true, if_false, decide_true, decide_false, Bool.false_eq_true, G17_ok]
theorem G7_ok (l : List Mk) (bs : List Int) (hb : ∀ x ∈ bs, 0 ≤ x ∧ x ≤ 65535) (g : List Blk) : G7 std (encM l, encU bs, encB g, ()) = some (true, ()) := by
  have hbl := encU_length bs
  unfold G7
  by_cases h0 : chk l = 0
  · obtain ⟨hl, hc, _⟩ := chk_card h0
    have hpl := pairs_len (show l.length ≤ 100000 by omega) hc
    have hn := hours_len l
    have hpp : (pooled l).length ≤ 100000 := by rw [pooled_eq hc, List.length_map]; omega
    by_cases h1 : ((bs.length : Nat) : Int) > 40
    · simp only [need_eq, ask_eq, ret_eq, no_eq, bnd_eq, run_eq, alt_eq, std_len, std_ofNat, std_nat, std_add, std_sub, std_leN, std_eqN, std_and, std_app, std_cut, std_lss, std_leq, std_gtr, std_geq, std_eql, std_neq, std_rowOk, std_rdI, rdD, bif_eq, ofNat_eq, List.length_map, List.getElem?_map, Option.map_some, Option.bind_some, Option.bind_none, Int.toNat_natCast, decide_eq_true_eq, Sum.elim_inl, Sum.elim_inr, if_true, if_false, decide_true, decide_false, Bool.false_eq_true, encB_length, encB_get, cells_eB, dI_eB0, dI_eB1, dI_eB2, dI_eB3, G27_ok, h0, hbl, h1, Bool.not_true, G13_ok]
    by_cases h2 : ((g.length : Nat) : Int) > 30
    · simp only [need_eq, ask_eq, ret_eq, no_eq, bnd_eq, run_eq, alt_eq, std_len, std_ofNat, std_nat, std_add, std_sub, std_leN, std_eqN, std_and, std_app, std_cut, std_lss, std_leq, std_gtr, std_geq, std_eql, std_neq, std_rowOk, std_rdI, rdD, bif_eq, ofNat_eq, List.length_map, List.getElem?_map, Option.map_some, Option.bind_some, Option.bind_none, Int.toNat_natCast, decide_eq_true_eq, Sum.elim_inl, Sum.elim_inr, if_true, if_false, decide_true, decide_false, Bool.false_eq_true, encB_length, encB_get, cells_eB, dI_eB0, dI_eB1, dI_eB2, dI_eB3, G27_ok, h0, hbl, h1, h2, Bool.not_true, G13_ok]
    obtain ⟨r, i1, rfl | ⟨rfl, i2⟩⟩ := in7_1 (encM l) (encU bs) g (by omega)
    · simp only [need_eq, ask_eq, ret_eq, no_eq, bnd_eq, run_eq, alt_eq, std_len, std_ofNat, std_nat, std_add, std_sub, std_leN, std_eqN, std_and, std_app, std_cut, std_lss, std_leq, std_gtr, std_geq, std_eql, std_neq, std_rowOk, std_rdI, rdD, bif_eq, ofNat_eq, List.length_map, List.getElem?_map, Option.map_some, Option.bind_some, Option.bind_none, Int.toNat_natCast, decide_eq_true_eq, Sum.elim_inl, Sum.elim_inr, if_true, if_false, decide_true, decide_false, Bool.false_eq_true, encB_length, encB_get, cells_eB, dI_eB0, dI_eB1, dI_eB2, dI_eB3, G27_ok, h0, hbl, h1, h2, Bool.not_true, i1]
    · have hself : ∀ b ∈ pooled l, MaxB b := fun b hb => (pooled_ti hl hc b hb).max
      have hch : chkB l (pooled l) = 0 := by unfold chkB; rw [if_pos h0, if_pos rfl]
      have e19 := G19_ok hl hc (pooled l) hself (by omega) h0
      have e20 := G20_ok hl hc (pooled l) hself (by omega) h0
      rw [hch] at e19 e20
      have f19 := G19_ok hl hc g i2 (by omega) h0
      have ht : (encB (pooled l)).take (pooled l).length = encB (pooled l) := List.take_of_length_le (by rw [encB_length]; exact Nat.le_refl _)
      obtain ⟨L, l1, l2, l3⟩ := G29_ok hl hc bs hb (by omega)
      have e7 := in7_2 hl hc L l2 l3
      have h28 := G28_ok l (show l.length ≤ 100000 by omega) hc
      by_cases hgp : g = pooled l
      · have hcg : chkB l g = 0 := by rw [hgp]; exact hch
        rw [hcg] at f19
        have e18 := G18_ok g (pooled l) (by omega)
        rw [decide_eq_true hgp] at e18
        simp only [need_eq, ask_eq, ret_eq, no_eq, bnd_eq, run_eq, alt_eq, std_len, std_ofNat, std_nat, std_add, std_sub, std_leN, std_eqN, std_and, std_app, std_cut, std_lss, std_leq, std_gtr, std_geq, std_eql, std_neq, std_rowOk, std_rdI, rdD, bif_eq, ofNat_eq, List.length_map, List.getElem?_map, Option.map_some, Option.bind_some, Option.bind_none, Int.toNat_natCast, decide_eq_true_eq, Sum.elim_inl, Sum.elim_inr, if_true, if_false, decide_true, decide_false, Bool.false_eq_true, List.length_cons, List.length_nil, Nat.zero_add, ite_self, encB_length, encB_get, cells_eB, dI_eB0, dI_eB1, dI_eB2, dI_eB3, G27_ok, h0, hbl, h1, h2, Bool.not_true, i1, G14_ok, Nat.le_refl, Bool.and_true, Bool.true_and, List.drop_zero, ht, e19, e20, f19, e18, h28, l1, e7, G13_ok]
      · have hcg : ¬ chkB l g = 0 := by unfold chkB; rw [if_pos h0, if_neg hgp]; decide
        simp only [need_eq, ask_eq, ret_eq, no_eq, bnd_eq, run_eq, alt_eq, std_len, std_ofNat, std_nat, std_add, std_sub, std_leN, std_eqN, std_and, std_app, std_cut, std_lss, std_leq, std_gtr, std_geq, std_eql, std_neq, std_rowOk, std_rdI, rdD, bif_eq, ofNat_eq, List.length_map, List.getElem?_map, Option.map_some, Option.bind_some, Option.bind_none, Int.toNat_natCast, decide_eq_true_eq, Sum.elim_inl, Sum.elim_inr, if_true, if_false, decide_true, decide_false, Bool.false_eq_true, List.length_cons, List.length_nil, Nat.zero_add, ite_self, encB_length, encB_get, cells_eB, dI_eB0, dI_eB1, dI_eB2, dI_eB3, G27_ok, h0, hbl, h1, h2, Bool.not_true, i1, G14_ok, Nat.le_refl, Bool.and_true, Bool.true_and, List.drop_zero, ht, e19, e20, f19, hcg, h28, l1, e7, G13_ok]
  · simp only [need_eq, ask_eq, ret_eq, no_eq, bnd_eq, run_eq, alt_eq, std_len, std_ofNat, std_nat, std_add, std_sub, std_leN, std_eqN, std_and, std_app, std_cut, std_lss, std_leq, std_gtr, std_geq, std_eql, std_neq, std_rowOk, std_rdI, rdD, bif_eq, ofNat_eq, List.length_map, List.getElem?_map, Option.map_some, Option.bind_some, Option.bind_none, Int.toNat_natCast, decide_eq_true_eq, Sum.elim_inl, Sum.elim_inr, if_true, if_false, decide_true, decide_false, Bool.false_eq_true, encB_length, encB_get, cells_eB, dI_eB0, dI_eB1, dI_eB2, dI_eB3, G27_ok, h0, hbl, Bool.not_false, G13_ok]
end Go.Am
end
