/-
  What the printed functions compute: the document's answer on values, and the third law.
-/
import Derived.Test.YtnmgimjamahalaaSb
section
set_option linter.unusedVariables false
set_option linter.unusedSimpArgs false
set_option linter.unusedSectionVars false
namespace Go.Am
open M08
theorem frac_scale {s w k : Int} (hk : 0 < k) : frac (s * k) (w * k) = frac s w := by
  unfold frac
  have e : ((Int.gcd (s * k) (w * k) : Nat) : Int) = (Int.gcd s w : Int) * k := by
    rw [Int.gcd_mul_right]
    have : ((k.natAbs : Nat) : Int) = k := Int.natAbs_of_nonneg (by omega)
    rw [Int.natCast_mul, this]
  rw [e, Int.mul_ediv_mul_of_pos_left _ _ hk, Int.mul_ediv_mul_of_pos_left _ _ hk]
theorem frac_eq {s w s' w' : Int} (hw : 0 < w) (hw' : 0 < w') (h : s * w' = s' * w) : frac s w = frac s' w' := by
  rw [← frac_scale (s := s) (w := w) hw', ← frac_scale (s := s') (w := w') hw, h, Int.mul_comm w w']
theorem lastB_keep {h : Int} : ∀ {r : List Blk} {a : Option Blk}, (∀ c ∈ r, h < c.1) → r.foldl (fun a b => if b.1 ≤ h then some b else a) a = a
  | [], a, _ => rfl
  | c :: r, a, hr => by
    rw [List.foldl_cons, if_neg (by have := hr c (List.mem_cons_self ..); omega)]
    exact lastB_keep fun c hc => hr c (List.mem_cons_of_mem _ hc)
theorem lastB_of {h : Int} {d r : List Blk} {b : Blk} (hb : b.1 ≤ h) (hr : ∀ c ∈ r, h < c.1) : lastB h (d ++ b :: r) = some b := by
  unfold lastB
  rw [List.foldl_append, List.foldl_cons, if_pos hb]
  exact lastB_keep hr
theorem pairs_after {W S : Nat → Int} : ∀ {d : List (Nat × Nat)} {p0 : Nat} {bs : List Nat} {p q : Nat} {r : List (Nat × Nat)}, Chain W S p0 bs → pairs p0 bs = d ++ (p, q) :: r → ∀ t ∈ r, q ≤ t.1
  | d, p0, [], p, q, r, h, e => by simp [pairs] at e
  | [], p0, q0 :: bs, p, q, r, h, e => by
    simp only [pairs, List.nil_append, List.cons.injEq, Prod.mk.injEq] at e
    obtain ⟨⟨rfl, rfl⟩, rfl⟩ := e
    exact fun t ht => (pairs_lt h.2.2.2 t ht).1
  | x :: d, p0, q0 :: bs, p, q, r, h, e => by
    simp only [pairs, List.cons_append, List.cons.injEq] at e
    exact pairs_after h.2.2.2 e.2
theorem in32 (a b c d : Int) : ∀ (x y : Nat), iter (b32_1 std) (a, b, c, d, (x : Int), (y : Int), ()) = some (a, b, c, d, ((Nat.gcd x y : Nat) : Int), ()) := by
  intro x y
  have key := iter_to (b := b32_1 std) (σ := Nat × Nat) (fun p => (a, b, c, d, (p.1 : Int), (p.2 : Int), ())) (fun _ => True) (fun p => p.2) (fun p => (a, b, c, d, ((Nat.gcd p.1 p.2 : Nat) : Int), ())) ?_ (x, y) trivial
  · exact key
  · rintro ⟨x, y⟩ _
    by_cases h : y = 0
    · right
      subst h
      simp only [b32_1, need_eq, ask_eq, ret_eq, no_eq, bnd_eq, run_eq, alt_eq, std_len, std_ofNat, std_nat, std_add, std_sub, std_leN, std_eqN, std_and, std_app, std_cut, std_lss, std_leq, std_gtr, std_geq, std_eql, std_neq, std_rowOk, std_rdI, rdD, bif_eq, ofNat_eq, List.length_map, List.getElem?_map, Option.map_some, Option.bind_some, Option.bind_none, Int.toNat_natCast, decide_eq_true_eq, Sum.elim_inl, Sum.elim_inr, if_true, if_false, decide_true, decide_false, Bool.false_eq_true, show ((0 : Nat) : Int) = 0 from rfl, Bool.not_true, Nat.gcd_zero_right]
    · left
      have h' : ¬ (y : Int) = 0 := by omega
      refine ⟨(y, x % y), ?_, trivial, Nat.mod_lt _ (by omega), ?_⟩
      · simp only [b32_1, need_eq, ask_eq, ret_eq, no_eq, bnd_eq, run_eq, alt_eq, std_len, std_ofNat, std_nat, std_add, std_sub, std_leN, std_eqN, std_and, std_app, std_cut, std_lss, std_leq, std_gtr, std_geq, std_eql, std_neq, std_rowOk, std_rdI, rdD, bif_eq, ofNat_eq, List.length_map, List.getElem?_map, Option.map_some, Option.bind_some, Option.bind_none, Int.toNat_natCast, decide_eq_true_eq, Sum.elim_inl, Sum.elim_inr, if_true, if_false, decide_true, decide_false, Bool.false_eq_true, h', Bool.not_false, std_ar_rem]
        rfl
      · simp only
        rw [Nat.gcd_comm x y, Nat.gcd_rec y x, Nat.gcd_comm]
theorem G32_ok (w s : Int) (hw : 0 < w) (hs : 0 ≤ s) (hw' : w ≤ 1000000000) (hs' : s ≤ 1000000000) : G32 std (s, w, ()) = some ((frac s w).1, (frac s w).2, ()) := by
  obtain ⟨w, rfl⟩ := Int.eq_ofNat_of_zero_le (Int.le_of_lt hw)
  obtain ⟨s, rfl⟩ := Int.eq_ofNat_of_zero_le hs
  have hg : 0 < Nat.gcd s w := Nat.gcd_pos_of_pos_right _ (by omega)
  have hg' : ¬ ((Nat.gcd s w : Nat) : Int) = 0 := by omega
  have hk : ∀ k : Nat, k ≤ 1000000000 → IntKind.i64.wrap (k : Int) = k := fun k hk => by rw [wrap64] <;> omega
  have e1 : IntKind.i64.wrap ((s : Int).tdiv (Nat.gcd s w : Int)) = (s : Int) / (Nat.gcd s w : Int) := by
    have h1 := Nat.div_le_self s (Nat.gcd s w)
    have : (s : Int).tdiv (Nat.gcd s w : Int) = ((s / Nat.gcd s w : Nat) : Int) := rfl
    rw [this, hk _ (Nat.le_trans h1 (by omega))]; rfl
  have e2 : IntKind.i64.wrap ((w : Int).tdiv (Nat.gcd s w : Int)) = (w : Int) / (Nat.gcd s w : Int) := by
    have h1 := Nat.div_le_self w (Nat.gcd s w)
    have : (w : Int).tdiv (Nat.gcd s w : Int) = ((w / Nat.gcd s w : Nat) : Int) := rfl
    rw [this, hk _ (Nat.le_trans h1 (by omega))]; rfl
  unfold G32
  simp only [need_eq, ask_eq, ret_eq, no_eq, bnd_eq, run_eq, alt_eq, std_len, std_ofNat, std_nat, std_add, std_sub, std_leN, std_eqN, std_and, std_app, std_cut, std_lss, std_leq, std_gtr, std_geq, std_eql, std_neq, std_rowOk, std_rdI, rdD, bif_eq, ofNat_eq, List.length_map, List.getElem?_map, Option.map_some, Option.bind_some, Option.bind_none, Int.toNat_natCast, decide_eq_true_eq, Sum.elim_inl, Sum.elim_inr, if_true, if_false, decide_true, decide_false, Bool.false_eq_true, in32, hg', Bool.not_false, std_ar_quo, e1, e2, frac, Int.gcd, Int.natAbs_natCast]
section
variable {l : List Mk} (hl : l.length ≤ 24) (hc : ∀ m ∈ l, okMk m)
include hl hc
theorem lim_lt {i j : Nat} (h : i < j) (hj : j < (hours l).length) : lim l i < lim l j :=
  get_lt (hours_get (show i < (hours l).length by omega)) (hours_get hj) h
theorem lim_le {i j : Nat} (h : i ≤ j) (hj : j < (hours l).length) : lim l i ≤ lim l j := by
  by_cases e : i = j
  · subst e; exact Int.le_refl _
  · exact Int.le_of_lt (lim_lt hl hc (by omega) hj)
theorem lastB_at {i : Nat} {h : Int} (hi : i < (hours l).length) (h1 : lim l i ≤ h) (h2 : i + 1 < (hours l).length → h < lim l (i + 1)) :
    ∃ t ∈ pairs 0 (brk l), t.1 ≤ i ∧ i < t.2 ∧ lastB h (pooled l) = some (mkB l t) := by
  obtain ⟨⟨p, q⟩, ht, ha, hb⟩ := block_of (show l.length ≤ 100000 by omega) hc hi
  refine ⟨(p, q), ht, ha, hb, ?_⟩
  obtain ⟨d, r, e⟩ := List.append_of_mem ht
  obtain ⟨c1, c2, c3⟩ := breaks_chain (W := cumW l) (S := cumS l) (cumW_mono hc)
  have haf := pairs_after c1 e
  rw [pooled_eq hc, e, List.map_append, List.map_cons]
  refine lastB_of (Int.le_trans (lim_le hl hc ha hi) h1) fun c hcm => ?_
  obtain ⟨t, htr, rfl⟩ := List.mem_map.1 hcm
  have h3 := haf t htr
  have htm : t ∈ pairs 0 (brk l) := by rw [e]; simp [htr]
  have h4 := pairs_lt c1 t htm
  have c2' : (brk l).getLastD 0 = (hours l).length := c2
  have h5 : t.2 ≤ (hours l).length := by have := h4.2.2; rw [show (breaks (cumW l) (cumS l) (hours l).length) = brk l from rfl, c2'] at this; exact this
  have h6 := h4.2.1
  simp only at hb h3
  have h7 := h2 (by omega)
  have h8 := lim_le hl hc (show i + 1 ≤ t.1 by omega) (by omega)
  show h < lim l t.1
  omega
theorem lastB_none {h : Int} (h1 : h < lim l 0) : lastB h (pooled l) = none := by
  unfold lastB
  refine lastB_keep fun c hcm => ?_
  obtain ⟨_, p, q, _, hpq, hq, rfl⟩ := pooled_pos hc hcm
  have := lim_le hl hc (Nat.zero_le p) (by omega)
  show h < lim l p
  omega
theorem in22 (V : List (List D)) (c1 c2 h : Int) (h0 : lim l 0 ≤ h) (hp : 0 < (hours l).length) :
    ∃ i : Nat, iter (b22_1 std) (rowsI (hours l), V, c1, c2, h, 0, ()) = some (V, c1, c2, (i : Int), ()) ∧ i < (hours l).length ∧ lim l i ≤ h ∧ (i + 1 < (hours l).length → h < lim l (i + 1)) := by
  have hn := hours_len l
  have hrl := rowsI_length (hours l)
  have key := iter_ev (b := b22_1 std) (σ := Nat) (fun i => (rowsI (hours l), V, c1, c2, h, (i : Int), ())) (fun i => i < (hours l).length ∧ lim l i ≤ h) (fun i => (hours l).length - i)
    (fun r => ∃ i : Nat, r = (V, c1, c2, (i : Int), ()) ∧ i < (hours l).length ∧ lim l i ≤ h ∧ (i + 1 < (hours l).length → h < lim l (i + 1))) ?_ 0 ⟨hp, h0⟩
  · obtain ⟨r, h1, i, rfl, h2⟩ := key
    exact ⟨i, h1, h2⟩
  · rintro i ⟨h1, h2⟩
    have hw := wrap_nat (i := i) (by omega)
    by_cases h3 : i + 1 < (hours l).length
    · have g1 : ((i + 1 : Nat) : Int) < (hours l).length := by omega
      have g2 : ((i + 1 : Nat) : Int) ≥ 0 := by omega
      have hg := hours_get (l := l) h3
      by_cases h4 : lim l (i + 1) ≤ h
      · left
        refine ⟨i + 1, ?_, ⟨h3, h4⟩, by omega⟩
        simp only [b22_1, need_eq, ask_eq, ret_eq, no_eq, bnd_eq, run_eq, alt_eq, std_len, std_ofNat, std_nat, std_add, std_sub, std_leN, std_eqN, std_and, std_app, std_cut, std_lss, std_leq, std_gtr, std_geq, std_eql, std_neq, std_rowOk, std_rdI, rdD, bif_eq, ofNat_eq, List.length_map, List.getElem?_map, Option.map_some, Option.bind_some, Option.bind_none, Int.toNat_natCast, decide_eq_true_eq, Sum.elim_inl, Sum.elim_inr, if_true, if_false, decide_true, decide_false, Bool.false_eq_true, List.length_cons, List.length_nil, Nat.zero_add, ite_self, hrl, std_ar_add, hw, g1, g2, rowsI_get, hg, cells_I, dI_I, dI_some, h4]
      · right
        refine ⟨_, ?_, i, rfl, h1, h2, fun _ => by omega⟩
        simp only [b22_1, need_eq, ask_eq, ret_eq, no_eq, bnd_eq, run_eq, alt_eq, std_len, std_ofNat, std_nat, std_add, std_sub, std_leN, std_eqN, std_and, std_app, std_cut, std_lss, std_leq, std_gtr, std_geq, std_eql, std_neq, std_rowOk, std_rdI, rdD, bif_eq, ofNat_eq, List.length_map, List.getElem?_map, Option.map_some, Option.bind_some, Option.bind_none, Int.toNat_natCast, decide_eq_true_eq, Sum.elim_inl, Sum.elim_inr, if_true, if_false, decide_true, decide_false, Bool.false_eq_true, List.length_cons, List.length_nil, Nat.zero_add, ite_self, hrl, std_ar_add, hw, g1, g2, rowsI_get, hg, cells_I, dI_I, dI_some, h4]
    · right
      have g1 : ¬ ((i + 1 : Nat) : Int) < (hours l).length := by omega
      refine ⟨_, ?_, i, rfl, h1, h2, fun h => absurd h h3⟩
      simp only [b22_1, need_eq, ask_eq, ret_eq, no_eq, bnd_eq, run_eq, alt_eq, std_len, std_ofNat, std_nat, std_add, std_sub, std_leN, std_eqN, std_and, std_app, std_cut, std_lss, std_leq, std_gtr, std_geq, std_eql, std_neq, std_rowOk, std_rdI, rdD, bif_eq, ofNat_eq, List.length_map, List.getElem?_map, Option.map_some, Option.bind_some, Option.bind_none, Int.toNat_natCast, decide_eq_true_eq, Sum.elim_inl, Sum.elim_inr, if_true, if_false, decide_true, decide_false, Bool.false_eq_true, List.length_cons, List.length_nil, Nat.zero_add, ite_self, hrl, std_ar_add, hw, g1]
end
theorem G22_ok (l : List Mk) (h : Int) : G22 std (encM l, h, ()) = some ((valB l h).1, (valB l h).2.1, (valB l h).2.2, ()) := by
  unfold G22 valB
  by_cases h0 : chk l = 0
  · obtain ⟨hl, hc, h1⟩ := chk_card h0
    have hl' : l.length ≤ 100000 := by omega
    have hn := hours_len l
    have hrl := rowsI_length (hours l)
    obtain ⟨v, h47, hv⟩ := G47_ok hl' hc
    have hvl := encB_length v
    have hpos := hours_pos h1
    by_cases ho : outOf 0 10000 h = true
    · rw [if_pos h0, if_pos ho]
      have : ¬ (0 ≤ h ∧ h ≤ 10000) := by
        intro hh
        unfold outOf at ho
        have := of_decide_eq_true ho
        omega
      by_cases q1 : h ≥ 0
      · have q2 : ¬ h ≤ 10000 := by omega
        simp only [need_eq, ask_eq, ret_eq, no_eq, bnd_eq, run_eq, alt_eq, std_len, std_ofNat, std_nat, std_add, std_sub, std_leN, std_eqN, std_and, std_app, std_cut, std_lss, std_leq, std_gtr, std_geq, std_eql, std_neq, std_rowOk, std_rdI, rdD, bif_eq, ofNat_eq, List.length_map, List.getElem?_map, Option.map_some, Option.bind_some, Option.bind_none, Int.toNat_natCast, decide_eq_true_eq, Sum.elim_inl, Sum.elim_inr, if_true, if_false, decide_true, decide_false, Bool.false_eq_true, G17_ok, h0, Bool.not_true, q1, q2, Bool.not_false]
      · simp only [need_eq, ask_eq, ret_eq, no_eq, bnd_eq, run_eq, alt_eq, std_len, std_ofNat, std_nat, std_add, std_sub, std_leN, std_eqN, std_and, std_app, std_cut, std_lss, std_leq, std_gtr, std_geq, std_eql, std_neq, std_rowOk, std_rdI, rdD, bif_eq, ofNat_eq, List.length_map, List.getElem?_map, Option.map_some, Option.bind_some, Option.bind_none, Int.toNat_natCast, decide_eq_true_eq, Sum.elim_inl, Sum.elim_inr, if_true, if_false, decide_true, decide_false, Bool.false_eq_true, G17_ok, h0, Bool.not_true, q1, Bool.not_false]
    · rw [if_pos h0, if_neg ho]
      have hr := outOf_false (by simpa using ho)
      have q1 : h ≥ 0 := hr.1
      have q2 : h ≤ 10000 := hr.2
      have hg0 := hours_get (l := l) hpos
      have q3 : (0 : Int) < (hours l).length := by omega
      have q4 : (0 : Int) ≥ 0 := by omega
      by_cases h2 : h < lim l 0
      · rw [lastB_none hl hc h2]
        simp only [need_eq, ask_eq, ret_eq, no_eq, bnd_eq, run_eq, alt_eq, std_len, std_ofNat, std_nat, std_add, std_sub, std_leN, std_eqN, std_and, std_app, std_cut, std_lss, std_leq, std_gtr, std_geq, std_eql, std_neq, std_rowOk, std_rdI, rdD, bif_eq, ofNat_eq, List.length_map, List.getElem?_map, Option.map_some, Option.bind_some, Option.bind_none, Int.toNat_natCast, decide_eq_true_eq, Sum.elim_inl, Sum.elim_inr, if_true, if_false, decide_true, decide_false, Bool.false_eq_true, List.length_cons, List.length_nil, Nat.zero_add, ite_self, G17_ok, h0, Bool.not_true, q1, q2, q3, q4, Bool.not_false, G28_ok l hl' hc, h47, hrl, Int.toNat_zero, rowsI_get, hg0, cells_I, dI_I, dI_some, h2]
      · obtain ⟨i, i1, i2, i3, i4⟩ := in22 hl hc (encB v) 0 0 h (by omega) hpos
        obtain ⟨t, ht, ha, hb, he⟩ := lastB_at hl hc i2 i3 i4
        obtain ⟨b, hb'⟩ := get_some (show i < v.length by rw [hv.1]; exact i2)
        have hbest := hv.2 i b hb'
        obtain ⟨bp, bm⟩ := isBest_mean hc i2 hbest ht ha hb
        have hsm := isBest_small hl' hc hbest
        obtain ⟨c1, c2, c3⟩ := breaks_chain (W := cumW l) (S := cumS l) (cumW_mono hc)
        have h4 := pairs_lt c1 t ht
        have c2' : (brk l).getLastD 0 = (hours l).length := c2
        have h5 : t.2 ≤ (hours l).length := by have := h4.2.2; rw [show (breaks (cumW l) (cumS l) (hours l).length) = brk l from rfl, c2'] at this; exact this
        have h6 := cumW_mono hc t.1 t.2 h4.2.1 h5
        have hf : frac b.2.2.2 b.2.2.1 = frac (mkB l t).2.2.2 (mkB l t).2.2.1 := frac_eq bp (show 0 < cumW l t.2 - cumW l t.1 by omega) bm
        have f1 : (i : Int) ≥ 0 := by omega
        have f2 : (i : Int) < v.length := by rw [hv.1]; omega
        rw [he]
        simp only [need_eq, ask_eq, ret_eq, no_eq, bnd_eq, run_eq, alt_eq, std_len, std_ofNat, std_nat, std_add, std_sub, std_leN, std_eqN, std_and, std_app, std_cut, std_lss, std_leq, std_gtr, std_geq, std_eql, std_neq, std_rowOk, std_rdI, rdD, bif_eq, ofNat_eq, List.length_map, List.getElem?_map, Option.map_some, Option.bind_some, Option.bind_none, Int.toNat_natCast, decide_eq_true_eq, Sum.elim_inl, Sum.elim_inr, if_true, if_false, decide_true, decide_false, Bool.false_eq_true, List.length_cons, List.length_nil, Nat.zero_add, ite_self, encB_length, encB_get, cells_eB, dI_eB0, dI_eB1, dI_eB2, dI_eB3, G17_ok, h0, Bool.not_true, q1, q2, q3, q4, Bool.not_false, G28_ok l hl' hc, h47, hrl, Int.toNat_zero, rowsI_get, hg0, cells_I, dI_I, dI_some, h2, i1, f1, f2, hb', G32_ok b.2.2.1 b.2.2.2 bp hsm.2.2.1 (by have := hsm.2.1; omega) (by have := hsm.2.2.2; omega), hf]
  · simp only [need_eq, ask_eq, ret_eq, no_eq, bnd_eq, run_eq, alt_eq, std_len, std_ofNat, std_nat, std_add, std_sub, std_leN, std_eqN, std_and, std_app, std_cut, std_lss, std_leq, std_gtr, std_geq, std_eql, std_neq, std_rowOk, std_rdI, rdD, bif_eq, ofNat_eq, List.length_map, List.getElem?_map, Option.map_some, Option.bind_some, Option.bind_none, Int.toNat_natCast, decide_eq_true_eq, Sum.elim_inl, Sum.elim_inr, if_true, if_false, decide_true, decide_false, Bool.false_eq_true, G17_ok, h0, Bool.not_false]
end Go.Am
end

section
set_option linter.unusedVariables false
set_option linter.unusedSimpArgs false
set_option linter.unusedSectionVars false
namespace Go.Am
open M08
def scan (l : List Mk) (c : Nat → Bool) : Nat → Nat → Int → Int × Int
  | 0, _, a => (a, 1073741824)
  | n + 1, i, a => if c i = true then (a, lim l i) else scan l c n (i + 1) (lim l i)
theorem scan_skip {l : List Mk} {c : Nat → Bool} : ∀ (k m i : Nat) (a : Int), (∀ j, i ≤ j → j < i + (k + 1) → c j = false) → scan l c (m + (k + 1)) i a = scan l c m (i + (k + 1)) (lim l (i + k))
  | 0, m, i, a, h => by
    show scan l c (m + 1) i a = _
    rw [scan, if_neg (by rw [h i (Nat.le_refl _) (by omega)]; exact Bool.false_ne_true)]
    rfl
  | k + 1, m, i, a, h => by
    show scan l c (m + (k + 1) + 1) i a = _
    rw [scan, if_neg (by rw [h i (Nat.le_refl _) (by omega)]; exact Bool.false_ne_true)]
    rw [scan_skip k m (i + 1) (lim l i) (fun j h1 h2 => h j (by omega) (by omega))]
    rw [show i + 1 + (k + 1) = i + (k + 1 + 1) by omega, show i + 1 + k = i + (k + 1) by omega]
theorem scan_chain {l : List Mk} {c : Nat → Bool} {k : Int} {W S : Nat → Int} : ∀ (bs : List Nat) (p : Nat) (a : Int) (n : Nat), Chain W S p bs → bs.getLastD p = p + n →
    (∀ t ∈ pairs p bs, ∀ i, t.1 ≤ i → i < t.2 → c i = decide ((mkB l t).2.2.2 ≥ k * (mkB l t).2.2.1)) → scan l c n p a = reachB k a ((pairs p bs).map (mkB l))
  | [], p, a, n, h, e, hc => by
    have : n = 0 := by simp [List.getLastD] at e; omega
    subst this
    rfl
  | q :: bs, p, a, n, h, e, hc => by
    rw [getLastD_cons] at e
    have hq : q ≤ bs.getLastD q := chain_last h.2.2.2
    have hpq := h.1
    have h0 := hc (p, q) (by simp [pairs])
    simp only at h0
    show _ = reachB k a (mkB l (p, q) :: (pairs q bs).map (mkB l))
    rw [reachB]
    obtain ⟨m, rfl⟩ : ∃ m, n = m + (q - p - 1 + 1) := ⟨n - (q - p), by omega⟩
    by_cases hge : (mkB l (p, q)).2.2.2 ≥ k * (mkB l (p, q)).2.2.1
    · rw [if_pos hge]
      have h1 := h0 p (Nat.le_refl _) hpq
      rw [decide_eq_true hge] at h1
      show scan l c (m + (q - p - 1) + 1) p a = _
      rw [scan, if_pos h1]
      rfl
    · rw [if_neg hge]
      rw [scan_skip (q - p - 1) m p a fun j j1 j2 => by rw [h0 j j1 (by omega)]; exact decide_eq_false hge]
      rw [show p + (q - p - 1 + 1) = q by omega, show p + (q - p - 1) = q - 1 by omega]
      exact scan_chain bs q _ m h.2.2.2 (by omega) fun t ht => hc t (by simp [pairs, ht])
theorem mean_ge {s w S W k : Int} (hw : 0 < w) (hW : 0 < W) (h : s * W = S * w) : s ≥ k * w ↔ S ≥ k * W := by
  constructor
  · intro h1
    have h2 : k * w * W ≤ s * W := Int.mul_le_mul_of_nonneg_right h1 (by omega)
    rw [h, Int.mul_right_comm] at h2
    exact Int.le_of_mul_le_mul_right h2 hw
  · intro h1
    have h2 : k * W * w ≤ S * w := Int.mul_le_mul_of_nonneg_right h1 (by omega)
    rw [← h, Int.mul_right_comm] at h2
    exact Int.le_of_mul_le_mul_right h2 hW
section
variable {l : List Mk} (hl : l.length ≤ 24) (hc : ∀ m ∈ l, okMk m)
include hl hc
theorem scan_pooled {v : List Blk} (hv : Values l v) (k : Int) : scan l (fun i => decide ((v[i]?.getD (0, 0, 0, 0)).2.2.2 ≥ k * (v[i]?.getD (0, 0, 0, 0)).2.2.1)) (hours l).length 0 0 = reachOf l k := by
  unfold reachOf
  rw [pooled_eq hc]
  obtain ⟨c1, c2, c3⟩ := breaks_chain (W := cumW l) (S := cumS l) (cumW_mono hc)
  have c2' : (brk l).getLastD 0 = (hours l).length := c2
  refine scan_chain (brk l) 0 0 _ c1 (by rw [c2']; omega) fun t ht i h1 h2 => ?_
  have h4 := pairs_lt c1 t ht
  have h5 : t.2 ≤ (hours l).length := by have := h4.2.2; rw [show (breaks (cumW l) (cumS l) (hours l).length) = brk l from rfl, c2'] at this; exact this
  obtain ⟨b, hb⟩ := get_some (show i < v.length by rw [hv.1]; omega)
  obtain ⟨bp, bm⟩ := isBest_mean hc (by omega) (hv.2 i b hb) ht h1 h2
  have h6 := cumW_mono hc t.1 t.2 h4.2.1 h5
  rw [hb]
  have := mean_ge (k := k) bp (show 0 < cumW l t.2 - cumW l t.1 by omega) bm
  exact decide_eq_decide.2 this
theorem G50_ok (k : Int) (hk : 1 ≤ k) (hk' : k ≤ 100) : G50 std (encM l, k, ()) = some ((reachOf l k).1, (reachOf l k).2, ()) := by
  have hl' : l.length ≤ 100000 := by omega
  have hn := hours_len l
  have hrl := rowsI_length (hours l)
  obtain ⟨v, h47, hv⟩ := G47_ok hl' hc
  have hvl := encB_length v
  have hsp := scan_pooled hl hc hv k
  have key := iter_count (b := b50_1 std) (hours l).length (fun (a : Int) i => (rowsI (hours l), encB v, 0, 0, a, 1073741824, k, (i : Int), ()))
    (fun a i => scan l (fun i => decide ((v[i]?.getD (0, 0, 0, 0)).2.2.2 ≥ k * (v[i]?.getD (0, 0, 0, 0)).2.2.1)) ((hours l).length - i) i a = reachOf l k)
    (fun r => r = Sum.inl ((reachOf l k).1, (reachOf l k).2, ()) ∨ ((reachOf l k).2 = 1073741824 ∧ r = Sum.inr (0, 0, (reachOf l k).1, 1073741824, ()))) ?_ ?_ 0 0 (Nat.zero_le _) hsp
  · obtain ⟨r, h2, h3⟩ := key
    have h2 : iter (b50_1 std) (rowsI (hours l), encB v, 0, 0, 0, 1073741824, k, 0, ()) = some r := h2
    unfold G50
    rcases h3 with rfl | ⟨h3, rfl⟩
    · simp only [need_eq, ask_eq, ret_eq, no_eq, bnd_eq, run_eq, alt_eq, std_len, std_ofNat, std_nat, std_add, std_sub, std_leN, std_eqN, std_and, std_app, std_cut, std_lss, std_leq, std_gtr, std_geq, std_eql, std_neq, std_rowOk, std_rdI, rdD, bif_eq, ofNat_eq, List.length_map, List.getElem?_map, Option.map_some, Option.bind_some, Option.bind_none, Int.toNat_natCast, decide_eq_true_eq, Sum.elim_inl, Sum.elim_inr, if_true, if_false, decide_true, decide_false, Bool.false_eq_true, G28_ok l hl' hc, h47, h2]
    · simp only [need_eq, ask_eq, ret_eq, no_eq, bnd_eq, run_eq, alt_eq, std_len, std_ofNat, std_nat, std_add, std_sub, std_leN, std_eqN, std_and, std_app, std_cut, std_lss, std_leq, std_gtr, std_geq, std_eql, std_neq, std_rowOk, std_rdI, rdD, bif_eq, ofNat_eq, List.length_map, List.getElem?_map, Option.map_some, Option.bind_some, Option.bind_none, Int.toNat_natCast, decide_eq_true_eq, Sum.elim_inl, Sum.elim_inr, if_true, if_false, decide_true, decide_false, Bool.false_eq_true, G28_ok l hl' hc, h47, h2, h3]
  · intro a i hi hI
    have hw := wrap_nat (i := i) (by omega)
    have g1 : (i : Int) < (hours l).length := by omega
    have g2 : (i : Int) ≥ 0 := by omega
    have g3 : (i : Int) < v.length := by rw [hv.1]; omega
    have hg := hours_get (l := l) hi
    obtain ⟨b, hb⟩ := get_some (show i < v.length by rw [hv.1]; exact hi)
    have hsm := isBest_small hl' hc (hv.2 i b hb)
    have hm : IntKind.i64.wrap (k * b.2.2.1) = k * b.2.2.1 := by
      have h1 : 0 ≤ k * b.2.2.1 := Int.mul_nonneg (by omega) hsm.1
      have h2 : k * b.2.2.1 ≤ 100 * 2000000 := Int.mul_le_mul hk' hsm.2.1 hsm.1 (by omega)
      rw [wrap64] <;> omega
    rw [show (hours l).length - i = (hours l).length - (i + 1) + 1 by omega, scan, hb, Option.getD_some] at hI
    by_cases hge : b.2.2.2 ≥ k * b.2.2.1
    · right
      rw [if_pos (decide_eq_true hge)] at hI
      refine ⟨_, ?_, .inl rfl⟩
      rw [← hI]
      simp only [b50_1, need_eq, ask_eq, ret_eq, no_eq, bnd_eq, run_eq, alt_eq, std_len, std_ofNat, std_nat, std_add, std_sub, std_leN, std_eqN, std_and, std_app, std_cut, std_lss, std_leq, std_gtr, std_geq, std_eql, std_neq, std_rowOk, std_rdI, rdD, bif_eq, ofNat_eq, List.length_map, List.getElem?_map, Option.map_some, Option.bind_some, Option.bind_none, Int.toNat_natCast, decide_eq_true_eq, Sum.elim_inl, Sum.elim_inr, if_true, if_false, decide_true, decide_false, Bool.false_eq_true, List.length_cons, List.length_nil, Nat.zero_add, ite_self, encB_length, encB_get, cells_eB, dI_eB0, dI_eB1, dI_eB2, dI_eB3, hrl, g1, g2, g3, hb, rowsI_get, hg, cells_I, dI_I, dI_some, std_ar_mul, hm, hge]
    · left
      rw [if_neg (by rw [decide_eq_false hge]; exact Bool.false_ne_true)] at hI
      refine ⟨lim l i, ?_, hI⟩
      simp only [b50_1, need_eq, ask_eq, ret_eq, no_eq, bnd_eq, run_eq, alt_eq, std_len, std_ofNat, std_nat, std_add, std_sub, std_leN, std_eqN, std_and, std_app, std_cut, std_lss, std_leq, std_gtr, std_geq, std_eql, std_neq, std_rowOk, std_rdI, rdD, bif_eq, ofNat_eq, List.length_map, List.getElem?_map, Option.map_some, Option.bind_some, Option.bind_none, Int.toNat_natCast, decide_eq_true_eq, Sum.elim_inl, Sum.elim_inr, if_true, if_false, decide_true, decide_false, Bool.false_eq_true, List.length_cons, List.length_nil, Nat.zero_add, ite_self, encB_length, encB_get, cells_eB, dI_eB0, dI_eB1, dI_eB2, dI_eB3, hrl, g1, g2, g3, hb, rowsI_get, hg, cells_I, dI_I, dI_some, std_ar_mul, hm, hge, std_ar_add, hw]
  · intro a hI
    rw [Nat.sub_self, scan] at hI
    refine ⟨_, ?_, .inr ⟨by rw [← hI], rfl⟩⟩
    rw [← hI]
    simp only [b50_1, need_eq, ask_eq, ret_eq, no_eq, bnd_eq, run_eq, alt_eq, std_len, std_ofNat, std_nat, std_add, std_sub, std_leN, std_eqN, std_and, std_app, std_cut, std_lss, std_leq, std_gtr, std_geq, std_eql, std_neq, std_rowOk, std_rdI, rdD, bif_eq, ofNat_eq, List.length_map, List.getElem?_map, Option.map_some, Option.bind_some, Option.bind_none, Int.toNat_natCast, decide_eq_true_eq, Sum.elim_inl, Sum.elim_inr, if_true, if_false, decide_true, decide_false, Bool.false_eq_true, hrl, Int.lt_irrefl]
end
theorem outOf_cases {lo hi x : Int} : (outOf lo hi x = true ∧ ¬ (x ≥ lo ∧ x ≤ hi)) ∨ (outOf lo hi x = false ∧ x ≥ lo ∧ x ≤ hi) := by
  unfold outOf
  by_cases h : x < lo ∨ x > hi
  · exact .inl ⟨decide_eq_true h, by omega⟩
  · exact .inr ⟨decide_eq_false h, by omega, by omega⟩
theorem G24_ok (l : List Mk) (k : Int) : G24 std (encM l, k, ()) = some ((rchB l k).1, (rchB l k).2.1, (rchB l k).2.2, ()) := by
  unfold G24 rchB
  by_cases h0 : chk l = 0
  · obtain ⟨hl, hc, h1⟩ := chk_card h0
    rcases outOf_cases (lo := 1) (hi := 100) (x := k) with ⟨ho, hr⟩ | ⟨ho, q1, q2⟩
    · rw [if_pos h0, if_pos ho]
      by_cases q1 : k ≥ 1
      · have q2 : ¬ k ≤ 100 := by omega
        simp only [need_eq, ask_eq, ret_eq, no_eq, bnd_eq, run_eq, alt_eq, std_len, std_ofNat, std_nat, std_add, std_sub, std_leN, std_eqN, std_and, std_app, std_cut, std_lss, std_leq, std_gtr, std_geq, std_eql, std_neq, std_rowOk, std_rdI, rdD, bif_eq, ofNat_eq, List.length_map, List.getElem?_map, Option.map_some, Option.bind_some, Option.bind_none, Int.toNat_natCast, decide_eq_true_eq, Sum.elim_inl, Sum.elim_inr, if_true, if_false, decide_true, decide_false, Bool.false_eq_true, G17_ok, h0, Bool.not_true, q1, q2, Bool.not_false]
      · simp only [need_eq, ask_eq, ret_eq, no_eq, bnd_eq, run_eq, alt_eq, std_len, std_ofNat, std_nat, std_add, std_sub, std_leN, std_eqN, std_and, std_app, std_cut, std_lss, std_leq, std_gtr, std_geq, std_eql, std_neq, std_rowOk, std_rdI, rdD, bif_eq, ofNat_eq, List.length_map, List.getElem?_map, Option.map_some, Option.bind_some, Option.bind_none, Int.toNat_natCast, decide_eq_true_eq, Sum.elim_inl, Sum.elim_inr, if_true, if_false, decide_true, decide_false, Bool.false_eq_true, G17_ok, h0, Bool.not_true, q1, Bool.not_false]
    · rw [if_pos h0, if_neg (by rw [ho]; exact Bool.false_ne_true)]
      simp only [need_eq, ask_eq, ret_eq, no_eq, bnd_eq, run_eq, alt_eq, std_len, std_ofNat, std_nat, std_add, std_sub, std_leN, std_eqN, std_and, std_app, std_cut, std_lss, std_leq, std_gtr, std_geq, std_eql, std_neq, std_rowOk, std_rdI, rdD, bif_eq, ofNat_eq, List.length_map, List.getElem?_map, Option.map_some, Option.bind_some, Option.bind_none, Int.toNat_natCast, decide_eq_true_eq, Sum.elim_inl, Sum.elim_inr, if_true, if_false, decide_true, decide_false, Bool.false_eq_true, G17_ok, h0, Bool.not_true, q1, q2, G50_ok hl hc k q1 q2]
  · simp only [need_eq, ask_eq, ret_eq, no_eq, bnd_eq, run_eq, alt_eq, std_len, std_ofNat, std_nat, std_add, std_sub, std_leN, std_eqN, std_and, std_app, std_cut, std_lss, std_leq, std_gtr, std_geq, std_eql, std_neq, std_rowOk, std_rdI, rdD, bif_eq, ofNat_eq, List.length_map, List.getElem?_map, Option.map_some, Option.bind_some, Option.bind_none, Int.toNat_natCast, decide_eq_true_eq, Sum.elim_inl, Sum.elim_inr, if_true, if_false, decide_true, decide_false, Bool.false_eq_true, G17_ok, h0, Bool.not_false]
theorem G5_ok (l : List Mk) (h k : Int) : G5 std (encM l, h, k, ()) = some (true, ()) := by
  have hle := encM_length l
  unfold G5
  by_cases h1 : ((l.length : Nat) : Int) > 30
  · simp only [need_eq, ask_eq, ret_eq, no_eq, bnd_eq, run_eq, alt_eq, std_len, std_ofNat, std_nat, std_add, std_sub, std_leN, std_eqN, std_and, std_app, std_cut, std_lss, std_leq, std_gtr, std_geq, std_eql, std_neq, std_rowOk, std_rdI, rdD, bif_eq, ofNat_eq, List.length_map, List.getElem?_map, Option.map_some, Option.bind_some, Option.bind_none, Int.toNat_natCast, decide_eq_true_eq, Sum.elim_inl, Sum.elim_inr, if_true, if_false, decide_true, decide_false, Bool.false_eq_true, hle, h1, G13_ok]
  · simp only [need_eq, ask_eq, ret_eq, no_eq, bnd_eq, run_eq, alt_eq, std_len, std_ofNat, std_nat, std_add, std_sub, std_leN, std_eqN, std_and, std_app, std_cut, std_lss, std_leq, std_gtr, std_geq, std_eql, std_neq, std_rowOk, std_rdI, rdD, bif_eq, ofNat_eq, List.length_map, List.getElem?_map, Option.map_some, Option.bind_some, Option.bind_none, Int.toNat_natCast, decide_eq_true_eq, Sum.elim_inl, Sum.elim_inr, if_true, if_false, decide_true, decide_false, Bool.false_eq_true, hle, h1, G21_ok, G22_ok, G23_ok, G24_ok, G13_ok]
end Go.Am
end
