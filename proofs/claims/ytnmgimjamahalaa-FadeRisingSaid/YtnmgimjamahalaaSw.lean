/-
  What the printed functions compute: the chapter's law on rising values.
-/
import Derived.Test.YtnmgimjamahalaaSv
section
set_option linter.unusedVariables false
set_option linter.unusedSimpArgs false
set_option linter.unusedSectionVars false
namespace Go.Am
open M08
theorem reach_chain {l : List Mk} (hl : l.length ≤ 24) (hc : ∀ m ∈ l, okMk m) {k : Int} {W S : Nat → Int} : ∀ (bs : List Nat) (p : Nat) (a : Int), Chain W S p bs → bs.getLastD p ≤ (hours l).length → 0 ≤ a → a ≤ 10000 →
    (∀ q2, bs.head? = some q2 → a < lim l p) → span (reachB k a ((pairs p bs).map (mkB l)))
  | [], p, a, h, e, a0, a1, ha => ⟨a0, a1, by show a < 1073741824; omega, Int.le_refl _⟩
  | q :: bs, p, a, h, e, a0, a1, ha => by
    rw [getLastD_cons] at e
    have hq : q ≤ bs.getLastD q := chain_last h.2.2.2
    have hpq := h.1
    have hp := hour_range hc (List.mem_of_getElem? (hours_get (l := l) (show p < (hours l).length by omega)))
    have hq1 := hour_range hc (List.mem_of_getElem? (hours_get (l := l) (show q - 1 < (hours l).length by omega)))
    show span (reachB k a (mkB l (p, q) :: (pairs q bs).map (mkB l)))
    rw [reachB]
    split
    · have := ha q rfl
      exact ⟨a0, a1, this, by show lim l p ≤ _; omega⟩
    · refine reach_chain hl hc bs q (lim l (q - 1)) h.2.2.2 e (by omega) hq1.2 fun q2 h2 => ?_
      match bs, h2, h, e with
      | q3 :: bs, h2, h, e =>
        have h3 := h.2.2.2.1
        rw [getLastD_cons] at e
        have h4 : q3 ≤ bs.getLastD q3 := chain_last h.2.2.2.2.2.2
        exact lim_lt hl hc (by omega) (by omega)
theorem reach_span {l : List Mk} (hl : l.length ≤ 24) (hc : ∀ m ∈ l, okMk m) (k : Int) : span (reachOf l k) := by
  unfold reachOf
  rw [pooled_eq hc]
  obtain ⟨c1, c2, c3⟩ := breaks_chain (W := cumW l) (S := cumS l) (cumW_mono hc)
  have c2' : (brk l).getLastD 0 = (hours l).length := c2
  refine reach_chain hl hc (brk l) 0 0 c1 (by omega) (by omega) (by omega) fun q h => ?_
  have hpos : 0 < (hours l).length := by
    have c1' : Chain (cumW l) (cumS l) 0 (brk l) := c1
    generalize brk l = bs at h c1' c2'
    match bs, h, c1', c2' with
    | q1 :: bs, h, c1', c2' =>
      rw [getLastD_cons] at c2'
      have := chain_last c1'.2.2.2
      have := c1'.1
      omega
  have := hour_range hc (List.mem_of_getElem? (hours_get (l := l) hpos))
  omega
theorem rchB_in {w : List Mk} {k : Int} (h0 : chk w = 0) (h1 : 1 ≤ k) (h2 : k ≤ 100) : rchB w k = ((reachOf w k).1, (reachOf w k).2, 0) := by
  unfold rchB
  rw [if_pos h0, if_neg]
  unfold outOf
  intro h
  have := of_decide_eq_true h
  omega
theorem frac_box {s w le gr : Int} (hs : 0 ≤ s) (hw : 0 < w) (h1 : le * w ≤ s) (h2 : s ≤ gr * w) : le * (frac s w).2 ≤ (frac s w).1 ∧ (frac s w).1 ≤ gr * (frac s w).2 := by
  obtain ⟨g, g0, e1, e2, _⟩ := frac_facts hs hw
  generalize (frac s w).1 = n at *
  generalize (frac s w).2 = d at *
  subst e1
  subst e2
  constructor
  · refine mul_le_cancel g0 ?_
    rw [Int.mul_assoc]; exact h1
  · refine mul_le_cancel g0 ?_
    rw [Int.mul_assoc]; exact h2
theorem frac_le {s w s' w' : Int} (hs : 0 ≤ s) (hw : 0 < w) (hs' : 0 ≤ s') (hw' : 0 < w') (h : s * w' ≤ s' * w) : (frac s w).1 * (frac s' w').2 ≤ (frac s' w').1 * (frac s w).2 := by
  obtain ⟨g, g0, e1, e2, _⟩ := frac_facts hs hw
  obtain ⟨g', g0', e1', e2', _⟩ := frac_facts hs' hw'
  generalize (frac s w).1 = n at *
  generalize (frac s w).2 = d at *
  generalize (frac s' w').1 = n' at *
  generalize (frac s' w').2 = d' at *
  subst e1
  subst e2
  subst e1'
  subst e2'
  have h2 : n * d' * (g * g') ≤ n' * d * (g * g') := by
    have r1 : n * d' * (g * g') = n * g * (d' * g') := by grind
    have r2 : n' * d * (g * g') = n' * g' * (d * g) := by grind
    omega
  exact mul_le_cancel (Int.mul_pos g0 g0') h2
theorem G33_ok (n d : Int) (h1 : 1 ≤ d) (h2 : d ≤ 1000) (h3 : 0 ≤ n) (h4 : n ≤ 100 * d) : G33 std (n, d, ()) = some (true, ()) := by
  have w1 : IntKind.i64.wrap (100 * d) = 100 * d := by rw [wrap64] <;> omega
  have g1 : d ≥ 1 := h1
  have g3 : n ≥ 0 := h3
  unfold G33
  simp only [need_eq, ask_eq, ret_eq, no_eq, bnd_eq, run_eq, alt_eq, std_len, std_ofNat, std_nat, std_add, std_sub, std_leN, std_eqN, std_and, std_app, std_cut, std_lss, std_leq, std_gtr, std_geq, std_eql, std_neq, std_rowOk, std_rdI, rdD, bif_eq, ofNat_eq, List.length_map, List.getElem?_map, Option.map_some, Option.bind_some, Option.bind_none, Int.toNat_natCast, decide_eq_true_eq, Sum.elim_inl, Sum.elim_inr, if_true, if_false, decide_true, decide_false, Bool.false_eq_true, g1, h2, g3, std_ar_mul, w1, h4]
theorem G34_ok (a b c e : Int) (ha : 0 ≤ a) (ha' : a ≤ 100000) (hb : 0 ≤ b) (hb' : b ≤ 1000) (hc : 0 ≤ c) (hc' : c ≤ 100000) (he : 0 ≤ e) (he' : e ≤ 1000) : G34 std (a, b, c, e, ()) = some (decide (a * e < c * b), ()) := by
  have m1 : 0 ≤ a * e := Int.mul_nonneg ha he
  have m2 : a * e ≤ 100000 * 1000 := Int.mul_le_mul ha' he' he (by omega)
  have m3 : 0 ≤ c * b := Int.mul_nonneg hc hb
  have m4 : c * b ≤ 100000 * 1000 := Int.mul_le_mul hc' hb' hb (by omega)
  have w1 : IntKind.i64.wrap (a * e) = a * e := by rw [wrap64] <;> omega
  have w2 : IntKind.i64.wrap (c * b) = c * b := by rw [wrap64] <;> omega
  unfold G34
  simp only [need_eq, ask_eq, ret_eq, no_eq, bnd_eq, run_eq, alt_eq, std_len, std_ofNat, std_nat, std_add, std_sub, std_leN, std_eqN, std_and, std_app, std_cut, std_lss, std_leq, std_gtr, std_geq, std_eql, std_neq, std_rowOk, std_rdI, rdD, bif_eq, ofNat_eq, List.length_map, List.getElem?_map, Option.map_some, Option.bind_some, Option.bind_none, Int.toNat_natCast, decide_eq_true_eq, Sum.elim_inl, Sum.elim_inr, if_true, if_false, decide_true, decide_false, Bool.false_eq_true, std_ar_mul, w1, w2]
theorem in10_1 (l : List Mk) (hl : l.length ≤ 24) (hc : ∀ m ∈ l, okMk m) (a1 a2 b1 b2 p1 p2 p3 x y e f : Int) :
    ∃ le gr : Int, iter (b10_1 std) (a1, a2, b1, b2, encM l, p1, p2, p3, x, y, e, f, 100, 0, 0, ()) = some (a1, a2, b1, b2, encM l, p1, p2, p3, x, y, e, f, le, gr, ()) ∧
      0 ≤ le ∧ le ≤ 100 ∧ 0 ≤ gr ∧ gr ≤ 100 ∧ ∀ m ∈ l, le ≤ m.2.1 ∧ m.2.1 ≤ gr := by
  have hle := encM_length l
  have key := iter_count (b := b10_1 std) l.length (fun (s : Int × Int) i => (a1, a2, b1, b2, encM l, p1, p2, p3, x, y, e, f, s.1, s.2, (i : Int), ()))
    (fun s i => 0 ≤ s.1 ∧ s.1 ≤ 100 ∧ 0 ≤ s.2 ∧ s.2 ≤ 100 ∧ ∀ (j : Nat) (m : Mk), j < i → l[j]? = some m → s.1 ≤ m.2.1 ∧ m.2.1 ≤ s.2)
    (fun r => ∃ le gr : Int, r = (a1, a2, b1, b2, encM l, p1, p2, p3, x, y, e, f, le, gr, ()) ∧ 0 ≤ le ∧ le ≤ 100 ∧ 0 ≤ gr ∧ gr ≤ 100 ∧ ∀ m ∈ l, le ≤ m.2.1 ∧ m.2.1 ≤ gr) ?_ ?_ (100, 0) 0 (Nat.zero_le _) ⟨by decide, by decide, by decide, by decide, fun j m h => by omega⟩
  · obtain ⟨r, h1, le, gr, rfl, h2⟩ := key
    exact ⟨le, gr, h1, h2⟩
  · rintro ⟨u, v⟩ i hi ⟨h1, h2, h3, h4, h5⟩
    simp only at h1 h2 h3 h4 h5
    left
    obtain ⟨m, hm⟩ := get_some hi
    have hok := hc m (List.mem_of_getElem? hm)
    unfold okMk at hok
    have hw := wrap_nat (i := i) (by omega)
    have g1 : (i : Int) < l.length := by omega
    have g2 : (i : Int) ≥ 0 := by omega
    refine ⟨(min u m.2.1, max v m.2.1), ?_, by show 0 ≤ min u m.2.1; omega, by show min u m.2.1 ≤ 100; omega, by show 0 ≤ max v m.2.1; omega, by show max v m.2.1 ≤ 100; omega, fun j m' hj hm' => ?_⟩
    · simp only [b10_1, need_eq, ask_eq, ret_eq, no_eq, bnd_eq, run_eq, alt_eq, std_len, std_ofNat, std_nat, std_add, std_sub, std_leN, std_eqN, std_and, std_app, std_cut, std_lss, std_leq, std_gtr, std_geq, std_eql, std_neq, std_rowOk, std_rdI, rdD, bif_eq, ofNat_eq, List.length_map, List.getElem?_map, Option.map_some, Option.bind_some, Option.bind_none, Int.toNat_natCast, decide_eq_true_eq, Sum.elim_inl, Sum.elim_inr, if_true, if_false, decide_true, decide_false, Bool.false_eq_true, encM_get, cells_eM, dI_eM0, dI_eM1, dI_eM2, hle, g1, g2, hm, std_mmin, std_mmax, std_ar_add, hw]
    · show min u m.2.1 ≤ m'.2.1 ∧ m'.2.1 ≤ max v m.2.1
      by_cases ej : j = i
      · subst ej; rw [hm] at hm'; cases hm'; omega
      · have := h5 j m' (by omega) hm'; omega
  · rintro ⟨u, v⟩ ⟨h1, h2, h3, h4, h5⟩
    refine ⟨_, ?_, u, v, rfl, h1, h2, h3, h4, fun m hm => ?_⟩
    · simp only [b10_1, need_eq, ask_eq, ret_eq, no_eq, bnd_eq, run_eq, alt_eq, std_len, std_ofNat, std_nat, std_add, std_sub, std_leN, std_eqN, std_and, std_app, std_cut, std_lss, std_leq, std_gtr, std_geq, std_eql, std_neq, std_rowOk, std_rdI, rdD, bif_eq, ofNat_eq, List.length_map, List.getElem?_map, Option.map_some, Option.bind_some, Option.bind_none, Int.toNat_natCast, decide_eq_true_eq, Sum.elim_inl, Sum.elim_inr, if_true, if_false, decide_true, decide_false, Bool.false_eq_true, hle, Int.lt_irrefl]
    · obtain ⟨j, hj⟩ := List.getElem?_of_mem hm
      obtain ⟨q, _⟩ := List.getElem?_eq_some_iff.1 hj
      exact h5 j m q hj
structure Fine (l : List Mk) (le gr : Int) (t : Nat × Nat) : Prop where
  d1 : 1 ≤ (frac (mkB l t).2.2.2 (mkB l t).2.2.1).2
  d2 : (frac (mkB l t).2.2.2 (mkB l t).2.2.1).2 ≤ 1000
  n1 : 0 ≤ (frac (mkB l t).2.2.2 (mkB l t).2.2.1).1
  n2 : (frac (mkB l t).2.2.2 (mkB l t).2.2.1).1 ≤ 100 * (frac (mkB l t).2.2.2 (mkB l t).2.2.1).2
  n3 : (frac (mkB l t).2.2.2 (mkB l t).2.2.1).1 ≤ 100000
  lo : le * (frac (mkB l t).2.2.2 (mkB l t).2.2.1).2 ≤ (frac (mkB l t).2.2.2 (mkB l t).2.2.1).1
  hi : (frac (mkB l t).2.2.2 (mkB l t).2.2.1).1 ≤ gr * (frac (mkB l t).2.2.2 (mkB l t).2.2.1).2
  s0 : 0 ≤ (mkB l t).2.2.2
  w0 : 0 < (mkB l t).2.2.1
theorem fine_of {l : List Mk} (hl : l.length ≤ 24) (hc : ∀ m ∈ l, okMk m) {le gr : Int} (hg : ∀ m ∈ l, le ≤ m.2.1 ∧ m.2.1 ≤ gr) {t : Nat × Nat} (ht : t ∈ pairs 0 (brk l)) : Fine l le gr t := by
  obtain ⟨a1, a2, _⟩ := block_end hl hc ht
  have hb : TiB (mkB l t) := mkB_ti hl hc a1 a2
  have w0 : 0 < (mkB l t).2.2.1 := by
    have := cumW_mono hc t.1 t.2 a1 a2
    show 0 < cumW l t.2 - cumW l t.1
    omega
  have e : bl l t.1 (t.2 - 1) = mkB l (t.1, t.2) := mkB_bl (show l.length ≤ 100000 by omega) hc a1 a2
  have e : mkB l t = blk l (lim l t.1) (lim l (t.2 - 1)) := e.symm
  have q1 := grade_sum (c := fun h => decide (lim l t.1 ≤ h) && decide (h ≤ lim l (t.2 - 1))) (le := le) (gr := gr) hc hg
  have q2 := grade_sum (c := fun h => decide (lim l t.1 ≤ h) && decide (h ≤ lim l (t.2 - 1))) (le := 0) (gr := 100) hc (fun m hm => by have := hc m hm; unfold okMk at this; omega)
  have q1' : le * (mkB l t).2.2.1 ≤ (mkB l t).2.2.2 ∧ (mkB l t).2.2.2 ≤ gr * (mkB l t).2.2.1 := by rw [e]; exact q1
  have q2' : 0 * (mkB l t).2.2.1 ≤ (mkB l t).2.2.2 ∧ (mkB l t).2.2.2 ≤ 100 * (mkB l t).2.2.1 := by rw [e]; exact q2
  have s0 : 0 ≤ (mkB l t).2.2.2 := hb.2.2.1
  obtain ⟨g, g0, e1, e2, p1, p2, p3, p4⟩ := frac_facts s0 w0
  have b1 := frac_box s0 w0 q1'.1 q1'.2
  have b2 := frac_box s0 w0 q2'.1 q2'.2
  have hb1 : (mkB l t).2.2.1 ≤ 480 := hb.2.1
  have hb2 : (mkB l t).2.2.2 ≤ 48000 := hb.2.2.2
  exact ⟨p3, by omega, p1, b2.2, by omega, b1.1, b1.2, s0, w0⟩
end Go.Am
end

section
set_option linter.unusedVariables false
set_option linter.unusedSimpArgs false
set_option linter.unusedSectionVars false
namespace Go.Am
open M08
theorem G27_ok10 (l : List Mk) : G27 std (encM l, ()) = some (decide (chk l = 0), ()) := by
  unfold G27
  simp only [need_eq, ask_eq, ret_eq, no_eq, bnd_eq, run_eq, alt_eq, std_len, std_ofNat, std_nat, std_add, std_sub, std_leN, std_eqN, std_and, std_app, std_cut, std_lss, std_leq, std_gtr, std_geq, std_eql, std_neq, std_rowOk, std_rdI, rdD, bif_eq, ofNat_eq, List.length_map, List.getElem?_map, Option.map_some, Option.bind_some, Option.bind_none, Int.toNat_natCast, decide_eq_true_eq, Sum.elim_inl, Sum.elim_inr, if_true, if_false, decide_true, decide_false, Bool.false_eq_true, G17_ok]
theorem G10_ok (l : List Mk) (one : Int) (h1 : 0 ≤ one ∧ one ≤ 65535) (two : Int) (h2 : 0 ≤ two ∧ two ≤ 65535) (which : Int) (h3 : 0 ≤ which ∧ which ≤ 255) (more : Int) (h4 : 0 ≤ more ∧ more ≤ 255) (limit : Int) (h5 : 0 ≤ limit ∧ limit ≤ 255) :
    G10 std (encM l, one, two, which, more, limit, ()) = some (true, ()) := by
  obtain ⟨one, rfl⟩ := Int.eq_ofNat_of_zero_le h1.1
  obtain ⟨two, rfl⟩ := Int.eq_ofNat_of_zero_le h2.1
  obtain ⟨which, rfl⟩ := Int.eq_ofNat_of_zero_le h3.1
  obtain ⟨limit, rfl⟩ := Int.eq_ofNat_of_zero_le h5.1
  unfold G10
  by_cases h0 : chk l = 0
  · obtain ⟨hl, hc, hlen⟩ := chk_card h0
    have hl' : l.length ≤ 100000 := by omega
    have hn := hours_len l
    have hrl := rowsI_length (hours l)
    have hpos := hours_pos hlen
    have hg0 := hours_get (l := l) hpos
    have hr0 := hour_range hc (List.mem_of_getElem? hg0)
    have q3 : (0 : Int) < (hours l).length := by omega
    have q4 : (0 : Int) ≥ 0 := by omega
    have z1 : ¬ (10001 : Int) = 0 := by omega
    have z2 : ¬ (5 : Int) = 0 := by omega
    have z3 : ¬ (100 : Int) = 0 := by omega
    have z4 : ¬ (l.length ≤ 0) := by omega
    have z5 : 1 ≤ l.length := hlen
    have z6 : l.length ≤ 1000000 := by omega
    have hc1 : IntKind.i64.wrap (one : Int) = one := by rw [wrap64] <;> omega
    have hc2 : IntKind.i64.wrap (two : Int) = two := by rw [wrap64] <;> omega
    have hm1 : (one : Int).tmod 10001 = ((one % 10001 : Nat) : Int) := rfl
    have hm2 : (two : Int).tmod 10001 = ((two % 10001 : Nat) : Int) := rfl
    have hl1 : one % 10001 < 10001 := Nat.mod_lt _ (by omega)
    have hl2 : two % 10001 < 10001 := Nat.mod_lt _ (by omega)
    generalize one % 10001 = xa at *
    generalize two % 10001 = ya at *
    obtain ⟨A, hA⟩ : ∃ A : Int, A = min (xa : Int) (ya : Int) := ⟨_, rfl⟩
    obtain ⟨B, hB⟩ : ∃ B : Int, B = max (xa : Int) (ya : Int) := ⟨_, rfl⟩
    have hmin : std.mm .lss (xa : Int) (ya : Int) = A := by rw [std_mmin, hA]
    have hmax : std.mm .gtr (xa : Int) (ya : Int) = B := by rw [std_mmax, hB]
    have hle := encM_length l
    have hlz : ¬ ((l.length : Nat) : Int) = 0 := by omega
    have hcw : IntKind.i64.wrap (which : Int) = which := by rw [wrap64] <;> omega
    have hcm : IntKind.i64.wrap more = more := by rw [wrap64] <;> omega
    have hcl : IntKind.i64.wrap (limit : Int) = limit := by rw [wrap64] <;> omega
    have hkm : (which : Int).tmod (l.length : Int) = ((which % l.length : Nat) : Int) := rfl
    have hkb : which % l.length < l.length := Nat.mod_lt _ (by omega)
    generalize which % l.length = k at *
    have f1 : (k : Int) ≥ 0 := by omega
    have f2 : (k : Int) < l.length := by omega
    obtain ⟨⟨xh, xg, xw⟩, hx⟩ := get_some hkb
    have hxok := hc _ (List.mem_of_getElem? hx)
    unfold okMk at hxok
    simp only at hxok
    obtain ⟨g', hg'⟩ : ∃ g' : Int, g' = min 100 (xg + more) := ⟨_, rfl⟩
    have hwm : IntKind.i64.wrap (xg + more) = xg + more := by rw [wrap64] <;> omega
    have hmin2 : std.mm .lss (100 : Int) (xg + more) = g' := by rw [std_mmin, hg']
    have hset : (encM l).set k [D.int .i64 xh, D.int .i64 g', D.int .i64 xw] = encM (l.set k (xh, g', xw)) := by
      unfold encM
      rw [List.map_set]
      rfl
    have hsl : (encM (l.set k (xh, g', xw))).length = l.length := by rw [encM_length, List.length_set]
    have hts : (encM (l.set k (xh, g', xw))).take l.length = encM (l.set k (xh, g', xw)) := List.take_of_length_le (by rw [hsl]; exact Nat.le_refl _)
    obtain ⟨s1, s2, s3, s4, s5⟩ := set_raised hl hc hx (show xg ≤ g' by omega) (show g' ≤ 100 by omega)
    have h0' : chk (l.set k (xh, g', xw)) = 0 := chk_zero (by rw [List.length_set]; omega) s2
    have hlm : (limit : Int).tmod 100 = ((limit % 100 : Nat) : Int) := rfl
    have hlb : limit % 100 < 100 := Nat.mod_lt _ (by omega)
    obtain ⟨m, hm⟩ : ∃ m : Int, m = 1 + ((limit % 100 : Nat) : Int) := ⟨_, rfl⟩
    have hkl := hlm
    have hmw : IntKind.i64.wrap (1 + ((limit % 100 : Nat) : Int)) = m := by rw [← hm, wrap64] <;> omega
    have hra := rchB_in h0 (show 1 ≤ m by omega) (show m ≤ 100 by omega)
    have hrb := rchB_in h0' (show 1 ≤ m by omega) (show m ≤ 100 by omega)
    have hmo := reach_mono hl hc s1 s2 s3 s4 s5 m (by omega)
    have hsp := reach_span hl hc m
    have u1 : ¬ (reachOf (l.set k (xh, g', xw)) m).2 > (reachOf l m).2 := by omega
    have u2 : ¬ (reachOf l m).1 ≥ (reachOf l m).2 := by have := hsp.2.2.1; omega
    have u3 : ¬ (reachOf (l.set k (xh, g', xw)) m).1 > (reachOf l m).1 := by omega
    have hle0 : ¬ (0 + l.length ≤ 0) := by omega
    have hle1 : 0 + l.length ≤ 1000000 := by omega
    have hle2 : (0 : Nat) ≤ 0 := Nat.le_refl _
    by_cases cB : B < lim l 0
    · have hvA := val_none hl hc h0 (show 0 ≤ A by omega) (show A ≤ 10000 by omega) (show A < lim l 0 by omega)
      have hvB := val_none hl hc h0 (show 0 ≤ B by omega) (show B ≤ 10000 by omega) cB
      have y1 : ¬ A ≥ lim l 0 := by omega
      have y2 : ¬ B ≥ lim l 0 := by omega
      obtain ⟨le, gr, i1, _⟩ := in10_1 l hl hc 0 0 0 0 (which : Int) more (limit : Int) (xa : Int) (ya : Int) 5 5
      simp only [need_eq, ask_eq, ret_eq, no_eq, bnd_eq, run_eq, alt_eq, std_len, std_ofNat, std_nat, std_add, std_sub, std_leN, std_eqN, std_and, std_app, std_cut, std_lss, std_leq, std_gtr, std_geq, std_eql, std_neq, std_rowOk, std_rdI, rdD, bif_eq, ofNat_eq, List.length_map, List.getElem?_map, Option.map_some, Option.bind_some, Option.bind_none, Int.toNat_natCast, decide_eq_true_eq, Sum.elim_inl, Sum.elim_inr, if_true, if_false, decide_true, decide_false, Bool.false_eq_true, List.length_cons, List.length_nil, Nat.zero_add, ite_self, encM_get, cells_eM, dI_eM0, dI_eM1, dI_eM2, G27_ok10, h0, Bool.not_true, Bool.not_false, z1, z2, z3, z4, z5, std_cvt, hc1, hc2, hm1, hm2, std_ar_rem, hmin, hmax, G21_ok, hvA, hvB, G28_ok l hl' hc, hrl, q3, q4, Int.toNat_zero, rowsI_get, hg0, cells_I, dI_I, dI_some, std_bEq, beq_self_eq_true, i1, y1, y2, hle, hle0, hle1, hle2, List.drop_nil, List.take_nil, List.nil_append, List.drop_zero, hlz, hcw, hcm, hcl, hkm, hkl, f1, f2, hx, std_set, hset, hsl, hts, hmin2, hwm, z6, Nat.le_refl, Bool.and_true, Bool.true_and, std_ar_add, hmw, G23_ok, hra, hrb, u1, u2, u3, G13_ok]
    · have cB : lim l 0 ≤ B := by omega
      obtain ⟨iB, tB, b1, b2, b3, b4, b5, b6, hvB⟩ := val_at hl hc h0 (show 0 ≤ B by omega) (show B ≤ 10000 by omega) cB hpos
      have y2 : B ≥ lim l 0 := cB
      have hlim' : lim (l.set k (xh, g', xw)) 0 = lim l 0 := by unfold lim; rw [s3]
      obtain ⟨iC, tC, c1, c2, c3, c4, c5, c6, hvC⟩ := val_at s1 s2 h0' (show 0 ≤ B by omega) (show B ≤ 10000 by omega) (by rw [hlim']; exact cB) (by rw [s3]; exact hpos)
      have fC := fine_of s1 s2 (le := 0) (gr := 100) (fun m hm => by have := s2 m hm; unfold okMk at this; omega) c1
      have hiBC : iB = iC := by
        rw [s3] at c4 c6
        have hlimi : ∀ j, lim (l.set k (xh, g', xw)) j = lim l j := fun j => by unfold lim; rw [s3]
        rw [hlimi] at c5
        rw [hlimi] at c6
        rcases Nat.lt_trichotomy iB iC with h | h | h
        · have := lim_le hl hc (show iB + 1 ≤ iC by omega) c4
          have := b6 (by omega)
          omega
        · exact h
        · have := lim_le hl hc (show iC + 1 ≤ iB by omega) b4
          have := c6 (by omega)
          omega
      have mBC := mean_mono hl hc s1 s2 s3 s4 s5 b1 c1 (by omega)
      have fB0 := fine_of hl hc (le := 0) (gr := 100) (fun m hm => by have := hc m hm; unfold okMk at this; omega) b1
      have lBC := frac_le fB0.s0 fB0.w0 fC.s0 fC.w0 mBC
      have e33C := G33_ok _ _ fC.d1 fC.d2 fC.n1 fC.n2
      have e33B := G33_ok _ _ fB0.d1 fB0.d2 fB0.n1 fB0.n2
      have e34 := G34_ok _ _ _ _ fC.n1 fC.n3 (by have := fC.d1; omega) fC.d2 fB0.n1 fB0.n3 (by have := fB0.d1; omega) fB0.d2
      rw [decide_eq_false (by omega)] at e34
      by_cases cA : A < lim l 0
      · have hvA := val_none hl hc h0 (show 0 ≤ A by omega) (show A ≤ 10000 by omega) cA
        have y1 : ¬ A ≥ lim l 0 := by omega
        obtain ⟨le, gr, i1, j1, j2, j3, j4, hgr⟩ := in10_1 l hl hc 0 0 (frac (mkB l tB).2.2.2 (mkB l tB).2.2.1).1 (frac (mkB l tB).2.2.2 (mkB l tB).2.2.1).2 (which : Int) more (limit : Int) (xa : Int) (ya : Int) 5 0
        have fB := fine_of hl hc hgr b1
        have k1 := Int.mul_le_mul j2 fB.d2 (by have := fB.d1; omega) (by omega)
        have k2 := Int.mul_le_mul j4 fB.d2 (by have := fB.d1; omega) (by omega)
        have k3 := Int.mul_nonneg j1 (show 0 ≤ (frac (mkB l tB).2.2.2 (mkB l tB).2.2.1).2 by have := fB.d1; omega)
        have k4 := Int.mul_nonneg j3 (show 0 ≤ (frac (mkB l tB).2.2.2 (mkB l tB).2.2.1).2 by have := fB.d1; omega)
        have w1 : IntKind.i64.wrap (le * (frac (mkB l tB).2.2.2 (mkB l tB).2.2.1).2) = le * (frac (mkB l tB).2.2.2 (mkB l tB).2.2.1).2 := by rw [wrap64] <;> omega
        have w2 : IntKind.i64.wrap (gr * (frac (mkB l tB).2.2.2 (mkB l tB).2.2.1).2) = gr * (frac (mkB l tB).2.2.2 (mkB l tB).2.2.1).2 := by rw [wrap64] <;> omega
        have v1 : ¬ (frac (mkB l tB).2.2.2 (mkB l tB).2.2.1).1 < le * (frac (mkB l tB).2.2.2 (mkB l tB).2.2.1).2 := by have := fB.lo; omega
        have v2 : ¬ (frac (mkB l tB).2.2.2 (mkB l tB).2.2.1).1 > gr * (frac (mkB l tB).2.2.2 (mkB l tB).2.2.1).2 := by have := fB.hi; omega
        simp only [need_eq, ask_eq, ret_eq, no_eq, bnd_eq, run_eq, alt_eq, std_len, std_ofNat, std_nat, std_add, std_sub, std_leN, std_eqN, std_and, std_app, std_cut, std_lss, std_leq, std_gtr, std_geq, std_eql, std_neq, std_rowOk, std_rdI, rdD, bif_eq, ofNat_eq, List.length_map, List.getElem?_map, Option.map_some, Option.bind_some, Option.bind_none, Int.toNat_natCast, decide_eq_true_eq, Sum.elim_inl, Sum.elim_inr, if_true, if_false, decide_true, decide_false, Bool.false_eq_true, List.length_cons, List.length_nil, Nat.zero_add, ite_self, encM_get, cells_eM, dI_eM0, dI_eM1, dI_eM2, G27_ok10, h0, Bool.not_true, Bool.not_false, z1, z2, z3, z4, z5, std_cvt, hc1, hc2, hm1, hm2, std_ar_rem, hmin, hmax, G21_ok, hvA, hvB, G28_ok l hl' hc, hrl, q3, q4, Int.toNat_zero, rowsI_get, hg0, cells_I, dI_I, dI_some, std_bEq, beq_self_eq_true, i1, y1, y2, e33B, std_ar_mul, w1, w2, v1, v2, hle, hle0, hle1, hle2, List.drop_nil, List.take_nil, List.nil_append, List.drop_zero, hlz, hcw, hcm, hcl, hkm, hkl, f1, f2, hx, std_set, hset, hsl, hts, hmin2, hwm, z6, Nat.le_refl, Bool.and_true, Bool.true_and, std_ar_add, hmw, G23_ok, hra, hrb, u1, u2, u3, hvC, e33C, e34, G13_ok]
      · have cA : lim l 0 ≤ A := by omega
        obtain ⟨iA, tA, a1, a2, a3, a4, a5, a6, hvA⟩ := val_at hl hc h0 (show 0 ≤ A by omega) (show A ≤ 10000 by omega) cA hpos
        have y1 : A ≥ lim l 0 := cA
        have hAB : iA ≤ iB := by
          rcases Nat.lt_or_ge iB iA with h | h
          · have := lim_le hl hc (show iB + 1 ≤ iA by omega) a4
            have := b6 (by omega)
            omega
          · exact h
        have mAB := mean_mono hl hc hl hc rfl (fun _ => rfl) (fun _ _ _ _ => Int.le_refl _) a1 b1 (by omega)
        have fA := fine_of hl hc (le := 0) (gr := 100) (fun m hm => by have := hc m hm; unfold okMk at this; omega) a1
        have lAB := frac_le fA.s0 fA.w0 fB0.s0 fB0.w0 mAB
        have e33A := G33_ok _ _ fA.d1 fA.d2 fA.n1 fA.n2
        have e34A := G34_ok _ _ _ _ fB0.n1 fB0.n3 (by have := fB0.d1; omega) fB0.d2 fA.n1 fA.n3 (by have := fA.d1; omega) fA.d2
        rw [decide_eq_false (by omega)] at e34A
        obtain ⟨le, gr, i1, j1, j2, j3, j4, hgr⟩ := in10_1 l hl hc (frac (mkB l tA).2.2.2 (mkB l tA).2.2.1).1 (frac (mkB l tA).2.2.2 (mkB l tA).2.2.1).2 (frac (mkB l tB).2.2.2 (mkB l tB).2.2.1).1 (frac (mkB l tB).2.2.2 (mkB l tB).2.2.1).2 (which : Int) more (limit : Int) (xa : Int) (ya : Int) 0 0
        have fB := fine_of hl hc hgr b1
        have k1 := Int.mul_le_mul j2 fB.d2 (by have := fB.d1; omega) (by omega)
        have k2 := Int.mul_le_mul j4 fB.d2 (by have := fB.d1; omega) (by omega)
        have k3 := Int.mul_nonneg j1 (show 0 ≤ (frac (mkB l tB).2.2.2 (mkB l tB).2.2.1).2 by have := fB.d1; omega)
        have k4 := Int.mul_nonneg j3 (show 0 ≤ (frac (mkB l tB).2.2.2 (mkB l tB).2.2.1).2 by have := fB.d1; omega)
        have w1 : IntKind.i64.wrap (le * (frac (mkB l tB).2.2.2 (mkB l tB).2.2.1).2) = le * (frac (mkB l tB).2.2.2 (mkB l tB).2.2.1).2 := by rw [wrap64] <;> omega
        have w2 : IntKind.i64.wrap (gr * (frac (mkB l tB).2.2.2 (mkB l tB).2.2.1).2) = gr * (frac (mkB l tB).2.2.2 (mkB l tB).2.2.1).2 := by rw [wrap64] <;> omega
        have v1 : ¬ (frac (mkB l tB).2.2.2 (mkB l tB).2.2.1).1 < le * (frac (mkB l tB).2.2.2 (mkB l tB).2.2.1).2 := by have := fB.lo; omega
        have v2 : ¬ (frac (mkB l tB).2.2.2 (mkB l tB).2.2.1).1 > gr * (frac (mkB l tB).2.2.2 (mkB l tB).2.2.1).2 := by have := fB.hi; omega
        simp only [need_eq, ask_eq, ret_eq, no_eq, bnd_eq, run_eq, alt_eq, std_len, std_ofNat, std_nat, std_add, std_sub, std_leN, std_eqN, std_and, std_app, std_cut, std_lss, std_leq, std_gtr, std_geq, std_eql, std_neq, std_rowOk, std_rdI, rdD, bif_eq, ofNat_eq, List.length_map, List.getElem?_map, Option.map_some, Option.bind_some, Option.bind_none, Int.toNat_natCast, decide_eq_true_eq, Sum.elim_inl, Sum.elim_inr, if_true, if_false, decide_true, decide_false, Bool.false_eq_true, List.length_cons, List.length_nil, Nat.zero_add, ite_self, encM_get, cells_eM, dI_eM0, dI_eM1, dI_eM2, G27_ok10, h0, Bool.not_true, Bool.not_false, z1, z2, z3, z4, z5, std_cvt, hc1, hc2, hm1, hm2, std_ar_rem, hmin, hmax, G21_ok, hvA, hvB, G28_ok l hl' hc, hrl, q3, q4, Int.toNat_zero, rowsI_get, hg0, cells_I, dI_I, dI_some, std_bEq, beq_self_eq_true, i1, y1, y2, e33A, e33B, e34A, std_ar_mul, w1, w2, v1, v2, hle, hle0, hle1, hle2, List.drop_nil, List.take_nil, List.nil_append, List.drop_zero, hlz, hcw, hcm, hcl, hkm, hkl, f1, f2, hx, std_set, hset, hsl, hts, hmin2, hwm, z6, Nat.le_refl, Bool.and_true, Bool.true_and, std_ar_add, hmw, G23_ok, hra, hrb, u1, u2, u3, hvC, e33C, e34, G13_ok]
  · simp only [need_eq, ask_eq, ret_eq, no_eq, bnd_eq, run_eq, alt_eq, std_len, std_ofNat, std_nat, std_add, std_sub, std_leN, std_eqN, std_and, std_app, std_cut, std_lss, std_leq, std_gtr, std_geq, std_eql, std_neq, std_rowOk, std_rdI, rdD, bif_eq, ofNat_eq, List.length_map, List.getElem?_map, Option.map_some, Option.bind_some, Option.bind_none, Int.toNat_natCast, decide_eq_true_eq, Sum.elim_inl, Sum.elim_inr, if_true, if_false, decide_true, decide_false, Bool.false_eq_true, G27_ok10, h0, Bool.not_false, G13_ok]
end Go.Am
end
