/-
  What the printed functions compute: values rise with hours and with grades.
-/
import Derived.Test.YtnmgimjamahalaaSz
import Derived.Test.YtnmgimjamahalaaGs
section
set_option linter.unusedVariables false
set_option linter.unusedSimpArgs false
set_option linter.unusedSectionVars false
namespace Go.Am
open M08
theorem encM_get (l : List Mk) (i : Nat) : (encM l)[i]? = (l[i]?).map eM := by simp [encM]
def span (r : Int × Int) : Prop := 0 ≤ r.1 ∧ r.1 ≤ 10000 ∧ r.1 < r.2 ∧ r.2 ≤ 1073741824
theorem frac_facts {s w : Int} (hs : 0 ≤ s) (hw : 0 < w) : ∃ g : Int, 0 < g ∧ s = (frac s w).1 * g ∧ w = (frac s w).2 * g ∧ 0 ≤ (frac s w).1 ∧ (frac s w).1 ≤ s ∧ 1 ≤ (frac s w).2 ∧ (frac s w).2 ≤ w := by
  have hg : 0 < Int.gcd s w := Int.gcd_pos_of_ne_zero_right _ (by omega)
  have e1 : s = (frac s w).1 * (Int.gcd s w : Int) := (Int.ediv_mul_cancel (Int.gcd_dvd_left ..)).symm
  have e2 : w = (frac s w).2 * (Int.gcd s w : Int) := (Int.ediv_mul_cancel (Int.gcd_dvd_right ..)).symm
  have p1 : 0 ≤ (frac s w).1 := Int.ediv_nonneg hs (by omega)
  have p2 : 0 ≤ (frac s w).2 := Int.ediv_nonneg (by omega) (by omega)
  refine ⟨(Int.gcd s w : Int), by omega, e1, e2, p1, Int.ediv_le_self _ hs, ?_, Int.ediv_le_self _ (by omega)⟩
  rcases Int.lt_or_le 0 (frac s w).2 with h | h
  · omega
  · have : (frac s w).2 = 0 := by omega
    rw [this, Int.zero_mul] at e2
    omega
section
variable {l : List Mk} (hl : l.length ≤ 24) (hc : ∀ m ∈ l, okMk m)
include hl hc
theorem block_end {t : Nat × Nat} (ht : t ∈ pairs 0 (brk l)) : t.1 < t.2 ∧ t.2 ≤ (hours l).length ∧ (∀ m, m ≤ (hours l).length → Above (cumW l) (cumS l) t.1 t.2 m) := by
  have hW := cumW_mono hc
  obtain ⟨c1, c2, c3⟩ := breaks_chain (W := cumW l) (S := cumS l) hW
  have h4 := pairs_lt c1 t ht
  have c2' : (brk l).getLastD 0 = (hours l).length := c2
  have h5 : t.2 ≤ (hours l).length := by have := h4.2.2; rw [show (breaks (cumW l) (cumS l) (hours l).length) = brk l from rfl, c2'] at this; exact this
  exact ⟨h4.2.1, h5, fun m hm => allB_pairs (supp0 hW c1 c2 hm) t ht⟩
theorem mean_mono {l' : List Mk} (hl' : l'.length ≤ 24) (hc' : ∀ m ∈ l', okMk m) (hh : hours l' = hours l) (hw : ∀ k, cumW l' k = cumW l k) (hs : ∀ j k, j ≤ k → k ≤ (hours l).length → cumS l k - cumS l j ≤ cumS l' k - cumS l' j)
    {t t' : Nat × Nat} (ht : t ∈ pairs 0 (brk l)) (ht' : t' ∈ pairs 0 (brk l')) (h : t.1 < t'.2) :
    (mkB l t).2.2.2 * (mkB l' t').2.2.1 ≤ (mkB l' t').2.2.2 * (mkB l t).2.2.1 := by
  obtain ⟨a1, a2, a3⟩ := block_end hl hc ht
  obtain ⟨b1, b2, b3⟩ := block_end hl' hc' ht'
  rw [hh] at b2 b3
  obtain ⟨p, q⟩ := t
  obtain ⟨p', q'⟩ := t'
  simp only at *
  have u1 := a3 q' b2
  have u2 := above_before (b3 p (by omega))
  have u3 := hs p q' (by omega) b2
  have w1 := cumW_mono hc p q a1 a2
  have w2 := cumW_mono hc p' q' b1 b2
  have w3 := cumW_mono hc p q' h b2
  show (cumS l q - cumS l p) * (cumW l' q' - cumW l' p') ≤ (cumS l' q' - cumS l' p') * (cumW l q - cumW l p)
  unfold Above at u1
  rw [hw, hw] at *
  rw [hw p] at u2
  generalize cumS l q - cumS l p = S1 at *
  generalize cumS l' q' - cumS l' p' = S2 at *
  generalize cumS l q' - cumS l p = S3 at *
  generalize cumS l' q' - cumS l' p = S4 at *
  have r1 : 0 < cumW l q - cumW l p := by omega
  have r2 : 0 < cumW l q' - cumW l p' := by omega
  have r3 : 0 < cumW l q' - cumW l p := by omega
  generalize cumW l q - cumW l p = W1 at *
  generalize cumW l q' - cumW l p' = W2 at *
  generalize cumW l q' - cumW l p = W3 at *
  have v1 : S1 * W3 * W2 ≤ S3 * W1 * W2 := Int.mul_le_mul_of_nonneg_right u1 (by omega)
  have v2 : S3 * (W1 * W2) ≤ S4 * (W1 * W2) := Int.mul_le_mul_of_nonneg_right u3 (Int.mul_nonneg (by omega) (by omega))
  have v3 : S4 * W2 * W1 ≤ S2 * W3 * W1 := Int.mul_le_mul_of_nonneg_right u2 (by omega)
  have v4 : S1 * W2 * W3 ≤ S2 * W1 * W3 := by grind
  exact mul_le_cancel r3 v4
theorem val_at {h : Int} (h0 : chk l = 0) (hp : 0 ≤ h) (hp' : h ≤ 10000) (h1 : lim l 0 ≤ h) (hn : 0 < (hours l).length) :
    ∃ i t, t ∈ pairs 0 (brk l) ∧ t.1 ≤ i ∧ i < t.2 ∧ i < (hours l).length ∧ lim l i ≤ h ∧ (i + 1 < (hours l).length → h < lim l (i + 1)) ∧ valB l h = ((frac (mkB l t).2.2.2 (mkB l t).2.2.1).1, (frac (mkB l t).2.2.2 (mkB l t).2.2.1).2, 0) := by
  obtain ⟨i, _, i1, i2, i3⟩ := in22 hl hc [] 0 0 h h1 hn
  obtain ⟨t, t1, t2, t3, t4⟩ := lastB_at hl hc i1 i2 i3
  refine ⟨i, t, t1, t2, t3, i1, i2, i3, ?_⟩
  have ho : outOf 0 10000 h = false := by
    unfold outOf
    exact decide_eq_false (by omega)
  unfold valB
  rw [if_pos h0, if_neg (by rw [ho]; exact Bool.false_ne_true), t4]
theorem val_none {h : Int} (h0 : chk l = 0) (hp : 0 ≤ h) (hp' : h ≤ 10000) (h1 : h < lim l 0) : valB l h = (0, 0, 5) := by
  have ho : outOf 0 10000 h = false := by
    unfold outOf
    exact decide_eq_false (by omega)
  unfold valB
  rw [if_pos h0, if_neg (by rw [ho]; exact Bool.false_ne_true), lastB_none hl hc h1]
end
theorem grade_sum {c : Int → Bool} {le gr : Int} : ∀ {l : List Mk}, (∀ m ∈ l, okMk m) → (∀ m ∈ l, le ≤ m.2.1 ∧ m.2.1 ≤ gr) → le * sumP fw c l ≤ sumP fs c l ∧ sumP fs c l ≤ gr * sumP fw c l
  | [], _, _ => by simp [sumP]
  | m :: l, hc, hm => by
    obtain ⟨h1, h2⟩ := grade_sum (c := c) (le := le) (gr := gr) (fun x hx => hc x (List.mem_cons_of_mem _ hx)) (fun x hx => hm x (List.mem_cons_of_mem _ hx))
    have h3 := hm m (List.mem_cons_self ..)
    have h4 := hc m (List.mem_cons_self ..)
    have w0 : 0 ≤ m.2.2 := by have := h4.2.2.2.2.1; omega
    have e1 : le * m.2.2 ≤ m.2.1 * m.2.2 := Int.mul_le_mul_of_nonneg_right h3.1 w0
    have e2 : m.2.1 * m.2.2 ≤ gr * m.2.2 := Int.mul_le_mul_of_nonneg_right h3.2 w0
    show le * ((if c m.1 = true then m.2.2 else 0) + sumP fw c l) ≤ (if c m.1 = true then m.2.1 * m.2.2 else 0) + sumP fs c l ∧ (if c m.1 = true then m.2.1 * m.2.2 else 0) + sumP fs c l ≤ gr * ((if c m.1 = true then m.2.2 else 0) + sumP fw c l)
    rw [Int.mul_add, Int.mul_add]
    split
    · omega
    · rw [Int.mul_zero, Int.mul_zero]; omega
theorem set_sums {l : List Mk} {k : Nat} {h g g' w : Int} (hk : l[k]? = some (h, g, w)) (c : Int → Bool) :
    sumP fw c (l.set k (h, g', w)) = sumP fw c l ∧ sumP fs c (l.set k (h, g', w)) = sumP fs c l + if c h = true then (g' - g) * w else 0 := by
  obtain ⟨hk1, hk2⟩ := List.getElem?_eq_some_iff.1 hk
  have e1 : l.set k (h, g', w) = l.take k ++ (h, g', w) :: l.drop (k + 1) := by rw [List.set_eq_take_append_cons_drop, if_pos hk1]
  have e2 : l = l.take k ++ (h, g, w) :: l.drop (k + 1) := by
    rw [← hk2, List.getElem_cons_drop hk1, List.take_append_drop]
  rw [e1]
  constructor
  · conv => rhs; rw [e2]
    simp only [sumP_append, sumP, fw]
  · conv => rhs; lhs; rw [e2]
    simp only [sumP_append, sumP, fs]
    split
    · rw [Int.sub_mul]; omega
    · omega
theorem set_hours {l : List Mk} {k : Nat} {h g g' w : Int} (hk : l[k]? = some (h, g, w)) : hours (l.set k (h, g', w)) = hours l := by
  obtain ⟨hk1, hk2⟩ := List.getElem?_eq_some_iff.1 hk
  refine sorted_unique (hours_sorted _) (hours_sorted l) fun x => ?_
  rw [mem_hours, mem_hours]
  have e : (l.set k (h, g', w)).map (·.1) = l.map (·.1) := by
    rw [List.map_set]
    show (l.map (·.1)).set k h = _
    have : (l.map (·.1))[k]'(by simpa using hk1) = h := by simp [hk2]
    rw [← this, List.set_getElem_self]
  have q1 : (∃ m ∈ l.set k (h, g', w), m.1 = x) ↔ x ∈ (l.set k (h, g', w)).map (·.1) := List.mem_map.symm
  have q2 : (∃ m ∈ l, m.1 = x) ↔ x ∈ l.map (·.1) := List.mem_map.symm
  rw [q1, q2, e]
theorem scan_le {l : List Mk} {c c' : Nat → Bool} (N : Nat) (hN : N = (hours l).length) (hlim : ∀ i j, i ≤ j → j < N → lim l i ≤ lim l j) (hb : ∀ i, i < N → lim l i ≤ 1073741824) (hcc : ∀ i, i < N → c i = true → c' i = true) :
    ∀ (n i : Nat) (a : Int), i + n = N → (0 < n → a ≤ lim l i) → (scan l c' n i a).1 ≤ (scan l c n i a).1 ∧ (scan l c' n i a).2 ≤ (scan l c n i a).2 ∧ a ≤ (scan l c n i a).1 ∧ (0 < n → lim l i ≤ (scan l c n i a).2)
  | 0, i, a, h, ha => ⟨Int.le_refl _, Int.le_refl _, Int.le_refl _, fun h => by omega⟩
  | n + 1, i, a, h, ha => by
    have hai := ha (by omega)
    obtain ⟨r1, r2, r3, r4⟩ := scan_le N hN hlim hb hcc n (i + 1) (lim l i) (by omega) (fun h => hlim _ _ (by omega) (by omega))
    rw [scan, scan]
    by_cases h1 : c i = true
    · rw [if_pos h1, if_pos (hcc i (by omega) h1)]
      exact ⟨Int.le_refl _, Int.le_refl _, Int.le_refl _, fun _ => Int.le_refl _⟩
    · rw [if_neg h1]
      have r5 : lim l i ≤ (scan l c n (i + 1) (lim l i)).2 := by
        by_cases h0 : 0 < n
        · exact Int.le_trans (hlim i (i + 1) (by omega) (by omega)) (r4 h0)
        · have : n = 0 := by omega
          subst this
          exact hb i (by omega)
      by_cases h2 : c' i = true
      · rw [if_pos h2]
        exact ⟨Int.le_trans hai r3, r5, Int.le_trans hai r3, fun _ => r5⟩
      · rw [if_neg h2]
        exact ⟨r1, r2, Int.le_trans hai r3, fun _ => r5⟩
theorem set_raised {l : List Mk} (hl : l.length ≤ 24) (hc : ∀ m ∈ l, okMk m) {k : Nat} {h g g' w : Int} (hk : l[k]? = some (h, g, w)) (hg : g ≤ g') (hg' : g' ≤ 100) :
    (l.set k (h, g', w)).length ≤ 24 ∧ (∀ m ∈ l.set k (h, g', w), okMk m) ∧ hours (l.set k (h, g', w)) = hours l ∧ (∀ m, cumW (l.set k (h, g', w)) m = cumW l m) ∧
    (∀ j m, j ≤ m → m ≤ (hours l).length → cumS l m - cumS l j ≤ cumS (l.set k (h, g', w)) m - cumS (l.set k (h, g', w)) j) := by
  have hm := List.mem_of_getElem? hk
  have hok := hc _ hm
  unfold okMk at hok
  simp only at hok
  have hh := set_hours (g' := g') hk
  have hlim : ∀ m, lim (l.set k (h, g', w)) m = lim l m := fun m => by unfold lim; rw [hh]
  refine ⟨by rw [List.length_set]; exact hl, fun m hm => ?_, hh, fun m => ?_, fun j m hjm hmn => ?_⟩
  · rcases List.mem_or_eq_of_mem_set hm with hm | rfl
    · exact hc m hm
    · exact ⟨hok.1, hok.2.1, by show 0 ≤ g'; omega, hg', hok.2.2.2.2⟩
  · unfold cumW
    rw [hlim]
    exact (set_sums hk _).1
  · unfold cumS
    rw [hlim, hlim, (set_sums hk _).2, (set_sums hk _).2]
    have hp : 0 ≤ (g' - g) * w := Int.mul_nonneg (by omega) (by omega)
    have hle : lim l j ≤ lim l m := by
      by_cases e : m < (hours l).length
      · exact lim_le hl hc hjm e
      · have : m = (hours l).length := by omega
        subst this
        by_cases e2 : j < (hours l).length
        · have r1 := hour_range hc (List.mem_of_getElem? (hours_get (l := l) e2))
          have r2 : lim l (hours l).length = 1073741824 := by
            unfold lim
            rw [List.getD_eq_getElem?_getD, List.getElem?_eq_none (Nat.le_refl _)]; rfl
          omega
        · have : j = (hours l).length := by omega
          rw [this]; exact Int.le_refl _
    by_cases d1 : h < lim l j
    · have d2 : h < lim l m := by omega
      simp only [d1, d2, decide_true, if_true]
      omega
    · by_cases d2 : h < lim l m
      · simp only [d1, d2, decide_true, decide_false, if_true, Bool.false_eq_true, if_false]
        omega
      · simp only [d1, d2, decide_false, Bool.false_eq_true, if_false]
        omega
theorem reach_mono {l l' : List Mk} (hl : l.length ≤ 24) (hc : ∀ m ∈ l, okMk m) (hl' : l'.length ≤ 24) (hc' : ∀ m ∈ l', okMk m) (hh : hours l' = hours l) (hw : ∀ k, cumW l' k = cumW l k)
    (hs : ∀ j k, j ≤ k → k ≤ (hours l).length → cumS l k - cumS l j ≤ cumS l' k - cumS l' j) (k : Int) (hk : 0 ≤ k) :
    (reachOf l' k).1 ≤ (reachOf l k).1 ∧ (reachOf l' k).2 ≤ (reachOf l k).2 := by
  obtain ⟨v, _, hv⟩ := G47_ok (show l.length ≤ 100000 by omega) hc
  obtain ⟨v', _, hv'⟩ := G47_ok (show l'.length ≤ 100000 by omega) hc'
  have e1 := scan_pooled hl hc hv k
  have e2 := scan_pooled hl' hc' hv' k
  have hlim : ∀ m, lim l' m = lim l m := fun m => by unfold lim; rw [hh]
  have hsc : ∀ (c : Nat → Bool) (n i : Nat) (a : Int), scan l' c n i a = scan l c n i a := by
    intro c n
    induction n with
    | zero => intro i a; rfl
    | succ n ih => intro i a; rw [scan, scan, hlim, ih]
  rw [hsc, hh] at e2
  rw [← e1, ← e2]
  have r := scan_le (c := fun i => decide ((v[i]?.getD (0, 0, 0, 0)).2.2.2 ≥ k * (v[i]?.getD (0, 0, 0, 0)).2.2.1)) (c' := fun i => decide ((v'[i]?.getD (0, 0, 0, 0)).2.2.2 ≥ k * (v'[i]?.getD (0, 0, 0, 0)).2.2.1)) (hours l).length rfl (fun i j h1 h2 => lim_le hl hc h1 h2)
    (fun i hi => by have := hour_range hc (List.mem_of_getElem? (hours_get (l := l) hi)); omega) ?_ (hours l).length 0 0 (by omega)
    (fun h => by have := hour_range hc (List.mem_of_getElem? (hours_get (l := l) h)); omega)
  · exact ⟨r.1, r.2.1⟩
  · intro i hi h
    obtain ⟨b, hb⟩ := get_some (show i < v.length by rw [hv.1]; exact hi)
    obtain ⟨b', hb'⟩ := get_some (show i < v'.length by rw [hv'.1, hh]; exact hi)
    obtain ⟨t, t1, t2, t3⟩ := block_of (show l.length ≤ 100000 by omega) hc hi
    obtain ⟨t', u1, u2, u3⟩ := block_of (show l'.length ≤ 100000 by omega) hc' (show i < (hours l').length by rw [hh]; exact hi)
    obtain ⟨bp, bm⟩ := isBest_mean hc hi (hv.2 i b hb) t1 t2 t3
    obtain ⟨bp', bm'⟩ := isBest_mean hc' (by rw [hh]; exact hi) (hv'.2 i b' hb') u1 u2 u3
    obtain ⟨x1, x2, _⟩ := block_end hl hc t1
    obtain ⟨y1, y2, _⟩ := block_end hl' hc' u1
    have w1 := cumW_mono hc t.1 t.2 x1 x2
    have w2 := cumW_mono hc' t'.1 t'.2 y1 y2
    have mm := mean_mono hl hc hl' hc' hh hw hs t1 u1 (by omega)
    rw [hb, Option.getD_some] at h
    rw [hb', Option.getD_some]
    have h1 : (mkB l t).2.2.2 ≥ k * (mkB l t).2.2.1 := (mean_ge bp (show 0 < (mkB l t).2.2.1 by show 0 < cumW l t.2 - cumW l t.1; omega) bm).1 (of_decide_eq_true h)
    have p1 : 0 < (mkB l t).2.2.1 := by show 0 < cumW l t.2 - cumW l t.1; omega
    have p2 : 0 < (mkB l' t').2.2.1 := by show 0 < cumW l' t'.2 - cumW l' t'.1; omega
    have h2 : (mkB l' t').2.2.2 ≥ k * (mkB l' t').2.2.1 := by
      have v1 : k * (mkB l t).2.2.1 * (mkB l' t').2.2.1 ≤ (mkB l t).2.2.2 * (mkB l' t').2.2.1 := Int.mul_le_mul_of_nonneg_right h1 (by omega)
      have v2 : k * (mkB l' t').2.2.1 * (mkB l t).2.2.1 ≤ (mkB l' t').2.2.2 * (mkB l t).2.2.1 := by
        have : k * (mkB l' t').2.2.1 * (mkB l t).2.2.1 = k * (mkB l t).2.2.1 * (mkB l' t').2.2.1 := by grind
        omega
      exact mul_le_cancel p1 v2
    exact decide_eq_true ((mean_ge bp' p2 bm').2 h2)
end Go.Am
end
