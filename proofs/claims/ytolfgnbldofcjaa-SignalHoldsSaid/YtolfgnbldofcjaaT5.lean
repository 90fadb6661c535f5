/- Texts of this claim. -/
import Derived.Test.YtolfgnbldofcjaaT4
import Derived.Test.YtolfgnbldofcjaaProg
import Derived.KernelRfl
set_option linter.unusedVariables false
set_option linter.unusedSimpArgs false
set_option linter.unusedSectionVars false
set_option maxRecDepth 100000
set_option maxHeartbeats 0
section
namespace M06
instance (u : Pt) : Decidable (Pos u) := by unfold Pos; infer_instance
instance (u v : Pt) : Decidable (Bef u v) := by unfold Bef; infer_instance
instance (u v : Pt) : Decidable (Same u v) := by unfold Same; infer_instance
def sumL (l : List Pt) : Pt := l.foldr ad (0, 0)
def sumB (d : Pt) (l : List Pt) : Pt := sumL (l.filter (fun w => decide (Bef w d)))
def sumS (d : Pt) (l : List Pt) : Pt := sumL (l.filter (fun w => decide (Same d w)))
theorem ad_zero (a : Pt) : ad a (0, 0) = a := by simp [ad]
theorem zero_ad (a : Pt) : ad (0, 0) a = a := by simp [ad]
theorem ad_assoc (a b c : Pt) : ad (ad a b) c = ad a (ad b c) := by simp only [ad]; exact Prod.ext (by simp; omega) (by simp; omega)
theorem ad_comm (a b : Pt) : ad a b = ad b a := by simp only [ad]; exact Prod.ext (by simp; omega) (by simp; omega)
theorem sumL_nil : sumL [] = (0, 0) := rfl
theorem sumL_cons (a : Pt) (l : List Pt) : sumL (a :: l) = ad a (sumL l) := rfl
theorem sumL_append (a b : List Pt) : sumL (a ++ b) = ad (sumL a) (sumL b) := by
 induction a with
 | nil => rw [List.nil_append, sumL_nil, zero_ad]
 | cons x a ih => rw [List.cons_append, sumL_cons, sumL_cons, ih, ad_assoc]
theorem sumL_perm {a b : List Pt} (h : a.Perm b) : sumL a = sumL b := by
 induction h with
 | nil => rfl
 | cons x _ ih => rw [sumL_cons, sumL_cons, ih]
 | swap x y l => rw [sumL_cons, sumL_cons, sumL_cons, sumL_cons, ← ad_assoc, ← ad_assoc, ad_comm x y]
 | trans _ _ h1 h2 => exact h1.trans h2
theorem sumB_append (d : Pt) (a b : List Pt) : sumB d (a ++ b) = ad (sumB d a) (sumB d b) := by rw [sumB, List.filter_append, sumL_append]; rfl
theorem sumS_append (d : Pt) (a b : List Pt) : sumS d (a ++ b) = ad (sumS d a) (sumS d b) := by rw [sumS, List.filter_append, sumL_append]; rfl
theorem sumB_perm (d : Pt) {a b : List Pt} (h : a.Perm b) : sumB d a = sumB d b := sumL_perm (h.filter _)
theorem sumS_perm (d : Pt) {a b : List Pt} (h : a.Perm b) : sumS d a = sumS d b := sumL_perm (h.filter _)
theorem Bef.ne1 {u v : Pt} (h : Bef u v) : u ≠ (0, 0) := by
 rcases h with h | h | h
 ·exact pos_ne h.1
 ·exact pos_ne h.1
 ·rintro rfl; exact pos_ne h.1 (by simp [ng])
theorem Bef.ne2 {u v : Pt} (h : Bef u v) : v ≠ (0, 0) := by
 rcases h with h | h | h
 ·rintro rfl; exact pos_ne h.2 (by simp [ng])
 ·exact pos_ne h.2.1
 ·rintro rfl; exact pos_ne h.2.1 (by simp [ng])
theorem Bef.trans {u v w : Pt} (h1 : Bef u v) (h2 : Bef v w) : Bef u w := by
 rcases h1 with ⟨a, b⟩ | ⟨a, b, c⟩ | ⟨a, b, c⟩
 ·rcases h2 with ⟨d, e⟩ | ⟨d, e, f⟩ | ⟨d, e, f⟩
  ·exact absurd d (fun h => pos_asymm h b)
  ·exact absurd d (fun h => pos_asymm h b)
  ·exact .inl ⟨a, e⟩
 ·rcases h2 with ⟨d, e⟩ | ⟨d, e, f⟩ | ⟨d, e, f⟩
  ·exact .inl ⟨a, e⟩
  ·exact .inr (.inl ⟨a, e, crs_trans_lt a b e (by omega) (by omega) (.inl c)⟩)
  ·exact absurd b (fun h => pos_asymm h d)
 ·rcases h2 with ⟨d, e⟩ | ⟨d, e, f⟩ | ⟨d, e, f⟩
  ·exact absurd d (fun h => pos_asymm h b)
  ·exact absurd d (fun h => pos_asymm h b)
  ·refine .inr (.inr ⟨a, e, ?_⟩)
   have := crs_trans_lt a b e (by rw [crs_ng]; omega) (by rw [crs_ng]; omega) (.inl (by rw [crs_ng]; exact c))
   rwa [crs_ng] at this
theorem Bef.irrefl {u : Pt} (h : Bef u u) : False := by
 rcases h with ⟨a, b⟩ | ⟨a, b, c⟩ | ⟨a, b, c⟩
 ·exact pos_asymm a b
 ·simp only [crs] at c; have := Int.mul_comm u.1 u.2; omega
 ·simp only [crs] at c; have := Int.mul_comm u.1 u.2; omega
theorem Bef.asymm {u v : Pt} (h1 : Bef u v) (h2 : Bef v u) : False := (h1.trans h2).irrefl
theorem pos_same {u v : Pt} (h : Same u v) (hu : Pos u) : Pos v := by
 obtain ⟨h1, h2⟩ := h
 obtain ⟨u1, u2⟩ := u; obtain ⟨v1, v2⟩ := v
 simp only [Pos, crs, dt] at *
 rcases hu with hu | ⟨hu, hu2⟩
 ·left
  refine Classical.byContradiction fun hn => ?_
  have a := Int.mul_nonneg (Int.le_of_lt hu) (show 0 ≤ -v1 by omega)
  rw [Int.mul_neg] at a
  have e : u1 * (u2 * v2) = u2 * u2 * v1 := by grind
  have b : u2 * u2 * v1 ≤ 0 := by
   have := Int.mul_nonneg (sqn u2) (show 0 ≤ -v1 by omega)
   rw [Int.mul_neg] at this; omega
  have c : 0 < u2 * v2 := by omega
  have := Int.mul_pos hu c
  omega
 ·right
  subst hu
  have hv1 : v1 = 0 := by
   have : u2 * v1 = 0 := by omega
   rcases Int.mul_eq_zero.1 this with h | h
   ·omega
   ·exact h
  refine ⟨hv1, ?_⟩
  refine Classical.byContradiction fun hn => ?_
  have a := Int.mul_nonneg (Int.le_of_lt hu2) (show 0 ≤ -v2 by omega)
  rw [Int.mul_neg] at a
  omega
theorem same_ng {u v : Pt} (h : Same u v) : Same (ng u) (ng v) := by
 refine ⟨by rw [crs_ng]; exact h.1, ?_⟩
 have := h.2
 simp only [dt, ng, Int.neg_mul_neg] at *; exact this
theorem Same.bef_r {u v w : Pt} (h : Same v w) (hb : Bef u v) : Bef u w := by
 have k : ∀ {u v w : Pt}, Same v w → 0 < crs u v → 0 < crs u w := by
  intro u v w h h0
  have hm := (h.mul u).1
  rw [crs_comm u v, crs_comm u w] at hm
  have := dt_self_pos h.ne
  have := h.2
  have e : dt v v * crs u w = dt v w * crs u v := by rw [Int.mul_neg, Int.mul_neg] at hm; omega
  refine Classical.byContradiction fun hn => ?_
  have a := Int.mul_pos h.2 h0
  have b := Int.mul_nonneg (Int.le_of_lt (dt_self_pos h.ne)) (show 0 ≤ - crs u w by omega)
  rw [Int.mul_neg] at b; omega
 rcases hb with ⟨a, b⟩ | ⟨a, b, c⟩ | ⟨a, b, c⟩
 ·exact .inl ⟨a, pos_same (same_ng h) b⟩
 ·exact .inr (.inl ⟨a, pos_same h b, k h c⟩)
 ·exact .inr (.inr ⟨a, pos_same (same_ng h) b, k h c⟩)
theorem Same.bef_l {u v w : Pt} (h : Same v w) (hb : Bef v u) : Bef w u := by
 have k : ∀ {u v w : Pt}, Same v w → 0 < crs v u → 0 < crs w u := by
  intro u v w h h0
  have hm := (h.mul u).1
  refine Classical.byContradiction fun hn => ?_
  have a := Int.mul_pos h.2 h0
  have b := Int.mul_nonneg (Int.le_of_lt (dt_self_pos h.ne)) (show 0 ≤ - crs w u by omega)
  rw [Int.mul_neg] at b; omega
 rcases hb with ⟨a, b⟩ | ⟨a, b, c⟩ | ⟨a, b, c⟩
 ·exact .inl ⟨pos_same h a, b⟩
 ·exact .inr (.inl ⟨pos_same h a, b, k h c⟩)
 ·exact .inr (.inr ⟨pos_same (same_ng h) a, b, k h c⟩)
theorem same_pos {u v : Pt} (hu : Pos u) (hv : Pos v) (h : crs u v = 0) : Same u v := by
 refine ⟨h, ?_⟩
 obtain ⟨u1, u2⟩ := u; obtain ⟨v1, v2⟩ := v
 simp only [Pos, crs, dt] at *
 rcases hu with hu | ⟨hu, hu2⟩
 ·rcases hv with hv | ⟨hv, hv2⟩
  ·have a := Int.mul_pos hu hv
   have e : u1 * (u2 * v2) = u2 * u2 * v1 := by grind
   have b := Int.mul_nonneg (sqn u2) (Int.le_of_lt hv)
   have c : 0 ≤ u2 * v2 := by
    refine Classical.byContradiction fun hn => ?_
    have := Int.mul_neg_of_pos_of_neg hu (show u2 * v2 < 0 by omega)
    omega
   omega
  ·subst hv
   have := Int.mul_pos hu hv2
   omega
 ·subst hu
  rcases hv with hv | ⟨hv, hv2⟩
  ·have := Int.mul_pos hu2 hv
   omega
  ·subst hv
   have := Int.mul_pos hu2 hv2
   omega
theorem dir_tri {u v : Pt} (hu : u ≠ (0, 0)) (hv : v ≠ (0, 0)) : Bef u v ∨ Same u v ∨ Bef v u := by
 rcases pos_tri u hu with pu | pu <;> rcases pos_tri v hv with pv | pv
 ·rcases Int.lt_trichotomy (crs u v) 0 with h | h | h
  ·exact .inr (.inr (.inr (.inl ⟨pv, pu, by rw [crs_comm]; omega⟩)))
  ·exact .inr (.inl (same_pos pu pv h))
  ·exact .inl (.inr (.inl ⟨pu, pv, h⟩))
 ·exact .inl (.inl ⟨pu, pv⟩)
 ·exact .inr (.inr (.inl ⟨pv, pu⟩))
 ·rcases Int.lt_trichotomy (crs u v) 0 with h | h | h
  ·exact .inr (.inr (.inr (.inr ⟨pv, pu, by rw [crs_comm]; omega⟩)))
  ·refine .inr (.inl ?_)
   have := same_ng (same_pos pu pv (by rw [crs_ng]; exact h))
   rwa [ng_ng, ng_ng] at this
  ·exact .inl (.inr (.inr ⟨pu, pv, h⟩))
theorem Same.not_bef {u v : Pt} (h : Same u v) : ¬ Bef u v := fun hb => (h.symm.bef_r hb).irrefl
theorem Same.not_bef' {u v : Pt} (h : Same u v) : ¬ Bef v u := fun hb => (h.bef_r hb).irrefl
theorem walk_head (p : Pt) (ws : List Pt) : ∃ r, walk p ws = p :: r := by
 cases ws with
 | nil => exact ⟨[], rfl⟩
 | cons w ws => exact ⟨_, rfl⟩
theorem walk_last : ∀ (ws : List Pt) (p : Pt), (walk p ws).getLast? = some (ad p (sumL ws))
 | [], p => by rw [sumL_nil, ad_zero]; rfl
 | w :: ws, p => by
  obtain ⟨r, hr⟩ := walk_head (ad p w) ws
  have := walk_last ws (ad p w)
  rw [walk, hr, List.getLast?_cons_cons, ← hr, this, sumL_cons, ad_assoc]
theorem pth_walk {S : List Pt} : ∀ {E1 : List Pt} {e : Pt} {E3 : List Pt} {p : Pt}, Pth S (walk p (E1 ++ e :: E3)) → Nx S (ad p (sumL E1)) (ad (ad p (sumL E1)) e)
 | [], e, E3, p, h => by
  rw [sumL_nil, ad_zero]
  obtain ⟨r, hr⟩ := walk_head (ad p e) E3
  simp only [List.nil_append, walk, hr] at h
  exact h.1
 | w :: E1, e, E3, p, h => by
  rw [sumL_cons, ← ad_assoc]
  simp only [List.cons_append, walk] at h
  exact pth_walk (E1 := E1) h.tail
theorem walk_mm {S : List Pt} : ∀ {E : List Pt} {p : Pt}, p ∈ S → Pth S (walk p E) → ∀ E1 E3, E = E1 ++ E3 → ad p (sumL E1) ∈ S
 | E, p, hp, h, [], E3, _ => by rw [sumL_nil, ad_zero]; exact hp
 | [], p, hp, h, w :: E1, E3, he => by cases he
 | w' :: E, p, hp, h, w :: E1, E3, he => by
  simp only [List.cons_append, List.cons.injEq] at he
  obtain ⟨rfl, he⟩ := he
  rw [sumL_cons, ← ad_assoc]
  simp only [walk] at h
  obtain ⟨r, hr⟩ := walk_head (ad p w') E
  refine walk_mm (E := E) ?_ h.tail E1 E3 he
  rw [hr] at h
  exact h.1.1
theorem sb_ad (a e : Pt) : sb (ad a e) a = e := by simp only [sb, ad]; exact Prod.ext (by simp; omega) (by simp; omega)
theorem corner_face {S : List Pt} {a b c d : Pt} (h1 : Nx S a b) (h2 : Nx S b c) (hd1 : 0 < crs (sb b a) d) (hd2 : 0 < crs d (sb c b)) : Face S d b b := by
 have key : ∀ x ∈ S, 0 ≤ crs d (sb x b) ∧ (crs d (sb x b) = 0 → x = b) := by
  intro x hx
  have p1 : 0 ≤ crs (sb b a) (sb x b) := by
   have := (h1.2.2 x hx).1
   have e : cr a b x = crs (sb b a) (sb x b) := by simp only [cr, crs, sb]; grind
   omega
  have p2 : 0 ≤ crs (sb c b) (sb x b) := (h2.2.2 x hx).1
  have hD : 0 ≤ crs (sb b a) (sb c b) := by
   have := (h1.2.2 c h2.1).1
   have e : cr a b c = crs (sb b a) (sb c b) := by simp only [cr, crs, sb]; grind
   omega
  have p3 : crs (sb c b) (sb x b) = 0 → 0 ≤ dt (sb c b) (sb x b) := fun h => ((h2.2.2 x hx).2 h).1
  have hn : sb c b ≠ (0, 0) := fun h => h2.2.1 (sb_eq_zero.1 h).symm
  generalize sb b a = p at *
  generalize sb c b = n at *
  have hv : sb x b = (0, 0) → x = b := sb_eq_zero.1
  generalize sb x b = v at *
  have id1 : crs p n * crs d v = crs d n * crs p v + crs p d * crs n v := by simp only [crs]; grind
  rcases Int.lt_or_eq_of_le hD with hD | hD
  ·have a1 := Int.mul_nonneg (Int.le_of_lt hd2) p1
   have a2 := Int.mul_nonneg (Int.le_of_lt hd1) p2
   refine ⟨?_, fun h0 => hv ?_⟩
   ·refine Classical.byContradiction fun hc => ?_
    have := Int.mul_neg_of_pos_of_neg hD (Int.not_le.1 hc)
    omega
   ·rw [h0, Int.mul_zero] at id1
    have z1 : crs d n * crs p v = 0 := by omega
    have z2 : crs p d * crs n v = 0 := by omega
    have z1 : crs p v = 0 := by rcases Int.mul_eq_zero.1 z1 with h | h <;> omega
    have z2 : crs n v = 0 := by rcases Int.mul_eq_zero.1 z2 with h | h <;> omega
    have e1 : crs p n * v.1 = n.1 * crs p v - p.1 * crs n v := by simp only [crs]; grind
    have e2 : crs p n * v.2 = n.2 * crs p v - p.2 * crs n v := by simp only [crs]; grind
    rw [z1, z2] at e1 e2
    simp only [Int.mul_zero, Int.sub_zero] at e1 e2
    refine Prod.ext ?_ ?_
    ·rcases Int.mul_eq_zero.1 e1 with h | h
     ·omega
     ·exact h
    ·rcases Int.mul_eq_zero.1 e2 with h | h
     ·omega
     ·exact h
  ·have a1 := Int.mul_nonneg (Int.le_of_lt hd2) p1
   have a2 := Int.mul_nonneg (Int.le_of_lt hd1) p2
   rw [← hD, Int.zero_mul] at id1
   have z2 : crs p d * crs n v = 0 := by omega
   have z2 : crs n v = 0 := by rcases Int.mul_eq_zero.1 z2 with h | h <;> omega
   have hdt := p3 z2
   have hnn := dt_self_pos hn
   have id2 : dt n n * crs d v = dt n v * crs d n + crs n v * dt n d := by simp only [crs, dt]; grind
   rw [z2, Int.zero_mul, Int.add_zero] at id2
   have a3 := Int.mul_nonneg hdt (Int.le_of_lt hd2)
   refine ⟨?_, fun h0 => hv ?_⟩
   ·refine Classical.byContradiction fun hc => ?_
    have := Int.mul_neg_of_pos_of_neg hnn (Int.not_le.1 hc)
    omega
   ·rw [h0, Int.mul_zero] at id2
    have : dt n v = 0 := by rcases Int.mul_eq_zero.1 id2.symm with h | h <;> omega
    exact both_zero hn z2 this
 have hb : b ∈ S := h1.1
 refine ⟨hb, hb, by simp [crs, sb], fun x hx => (key x hx).1, fun x hx h0 => ?_⟩
 have := (key x hx).2 h0
 subst this
 simp [dt, sb]
theorem between_dirs {p n d : Pt} (hpn : 0 ≤ crs p n) (h : (Bef p d ∧ Bef d n) ∨ (Bef d n ∧ Pos n ∧ Pos (ng p)) ∨ (Bef p d ∧ Pos n ∧ Pos (ng p))) : 0 < crs p d ∧ 0 < crs d n := by
 have T := @crs_trans_lt
 rcases h with ⟨h1, h2⟩ | ⟨h1, h2, h3⟩ | ⟨h1, h2, h3⟩
 ·rcases h1 with ⟨a, b⟩ | ⟨a, b, c⟩ | ⟨a, b, c⟩
  ·rcases h2 with ⟨d', e⟩ | ⟨d', e, f⟩ | ⟨d', e, f⟩
   ·exact absurd d' (fun h => pos_asymm h b)
   ·exact absurd d' (fun h => pos_asymm h b)
   ·refine ⟨?_, f⟩
    have := T b e a (by rw [crs_ng]; omega) (by rw [crs_ngl, crs_comm]; omega) (.inl (by rw [crs_ng]; exact f))
    rw [crs_ngl, crs_comm] at this; omega
  ·rcases h2 with ⟨d', e⟩ | ⟨d', e, f⟩ | ⟨d', e, f⟩
   ·refine ⟨c, ?_⟩
    have := T e a b (by rw [crs_ngl, crs_comm]; omega) (by omega) (.inr c)
    rw [crs_ngl, crs_comm] at this; omega
   ·exact ⟨c, f⟩
   ·exact absurd b (fun h => pos_asymm h d')
  ·rcases h2 with ⟨d', e⟩ | ⟨d', e, f⟩ | ⟨d', e, f⟩
   ·exact absurd d' (fun h => pos_asymm h b)
   ·exact absurd d' (fun h => pos_asymm h b)
   ·exact ⟨c, f⟩
 ·rcases h1 with ⟨a, b⟩ | ⟨a, b, c⟩ | ⟨a, b, c⟩
  ·exact absurd h2 (fun h => pos_asymm h b)
  ·refine ⟨?_, c⟩
   have := T a h2 h3 (by omega) (by rw [crs_ngr, crs_comm]; omega) (.inl c)
   rw [crs_ngr, crs_comm] at this; omega
  ·exact absurd h2 (fun h => pos_asymm h b)
 ·rcases h1 with ⟨a, b⟩ | ⟨a, b, c⟩ | ⟨a, b, c⟩
  ·exact absurd a (fun h => pos_asymm h h3)
  ·exact absurd a (fun h => pos_asymm h h3)
  ·refine ⟨c, ?_⟩
   have := T h2 h3 b (by rw [crs_ngr, crs_comm]; omega) (by rw [crs_ng]; omega) (.inr (by rw [crs_ng]; exact c))
   rw [crs_ngr, crs_comm] at this; omega
theorem filter_all {l : List Pt} {P : Pt → Bool} (h : ∀ x ∈ l, P x = true) : l.filter P = l := List.filter_eq_self.2 h
theorem filter_none {l : List Pt} {P : Pt → Bool} (h : ∀ x ∈ l, P x = false) : l.filter P = [] := List.filter_eq_nil_iff.2 (fun x hx => by rw [h x hx]; simp)
theorem split_bef (d : Pt) : ∀ (E : List Pt), E.Pairwise Bef → ∃ E1 E2, E = E1 ++ E2 ∧ (∀ x ∈ E1, Bef x d) ∧ (∀ x ∈ E2, ¬ Bef x d)
 | [], _ => ⟨[], [], rfl, by simp, by simp⟩
 | e :: E, h => by
  by_cases he : Bef e d
  ·obtain ⟨E1, E2, h1, h2, h3⟩ := split_bef d E (List.pairwise_cons.1 h).2
   refine ⟨e :: E1, E2, by rw [h1]; rfl, fun x hx => ?_, h3⟩
   rcases List.mem_cons.1 hx with rfl | hx
   ·exact he
   ·exact h2 x hx
  ·refine ⟨[], e :: E, rfl, by simp, fun x hx hb => ?_⟩
   rcases List.mem_cons.1 hx with rfl | hx
   ·exact he hb
   ·exact he (((List.pairwise_cons.1 h).1 x hx).trans hb)
theorem ways_ne {S : List Pt} : ∀ {l : List Pt}, Pth S l → ∀ w ∈ ways l, w ≠ (0, 0)
 | [], _, w, hw => by simp [ways] at hw
 | [_], _, w, hw => by simp [ways] at hw
 | a :: b :: l, h, w, hw => by
  rcases List.mem_cons.1 hw with rfl | hw
  ·exact fun e => h.1.2.1 (sb_eq_zero.1 e).symm
  ·exact ways_ne (l := b :: l) h.2 w hw
theorem cyc_walk {S : List Pt} {a b : Pt} {r : List Pt} (h : Cyc S (a :: b :: r)) :
  Pth S (walk a (wy (a :: b :: r))) ∧ sumL (wy (a :: b :: r)) = (0, 0) ∧ (∀ w ∈ wy (a :: b :: r), w ≠ (0, 0)) ∧ wy (a :: b :: r) ≠ [] := by
 have hp : Pth S (a :: b :: r ++ [a]) := by
  rcases h.2.2 with ⟨h, _⟩ | ⟨_, h, _⟩
  ·cases h
  ·exact h
 have hw : walk a (wy (a :: b :: r)) = a :: b :: r ++ [a] := walk_ways (b :: r ++ [a]) a
 refine ⟨by rw [hw]; exact hp, ?_, ways_ne hp, by simp [wy, ways]⟩
 have := walk_last (wy (a :: b :: r)) a
 rw [hw] at this
 have h2 : (a :: b :: r ++ [a]).getLast? = some a := by rw [List.getLast?_append]; simp
 rw [h2] at this
 have := Option.some.inj this
 simp only [ad] at this
 have e1 := congrArg Prod.fst this
 have e2 := congrArg Prod.snd this
 simp only at e1 e2
 exact Prod.ext (by simp; omega) (by simp; omega)
def hd0 (c : List Pt) : Pt := c.headD (0, 0)
theorem cyc_dir {S : List Pt} {a b : Pt} {r : List Pt} (h : Cyc S (a :: b :: r)) {d : Pt} (hd : d ≠ (0, 0)) :
  ∃ α, α ∈ S ∧ α = ad a (sumB d (wy (a :: b :: r))) ∧ ((∃ β, Nx S α β ∧ Same d (sb β α) ∧ ad α (sumS d (wy (a :: b :: r))) = β) ∨
   (sumS d (wy (a :: b :: r)) = (0, 0) ∧ ∃ q β, q ∈ S ∧ Nx S q α ∧ Nx S α β ∧ 0 < crs (sb α q) d ∧ 0 < crs d (sb β α))) := by
  obtain ⟨hp, hsum, hnz, hne⟩ := cyc_walk h
  have hs := cyc_bef h
  have hc0 : ∀ x ∈ S, Le a x := h.2.1
  have haS : a ∈ S := h.1
  generalize wy (a :: b :: r) = E at *
  obtain ⟨E1, E2, rfl, hb1, hb2⟩ := split_bef d E hs
  have hB : sumB d (E1 ++ E2) = sumL E1 := by
   rw [sumB_append, sumB, sumB, filter_all (fun x hx => by simpa using hb1 x hx), filter_none (fun x hx => by simpa using hb2 x hx), sumL_nil, ad_zero]
  have hS1 : sumS d E1 = (0, 0) := by
   rw [sumS, filter_none (fun x hx => ?_)]; · rfl
   have := hb1 x hx
   simp only [decide_eq_false_iff_not]
   exact fun hs => hs.not_bef' this
  have hin := walk_mm haS hp E1 E2 rfl
  rw [hB, sumS_append, hS1, zero_ad]
  refine ⟨_, hin, rfl, ?_⟩
  by_cases hsame : ∃ e E3, E2 = e :: E3 ∧ Same d e
  ·obtain ⟨e, E3, rfl, he⟩ := hsame
   have hS2 : sumS d (e :: E3) = e := by
    have h3 : ∀ x ∈ E3, Bef e x := by
     rw [List.pairwise_append] at hs
     exact (List.pairwise_cons.1 hs.2.1).1
    rw [sumS, List.filter_cons_of_pos (by simpa using he), filter_none (fun x hx => ?_), sumL_cons, sumL_nil, ad_zero]
    simp only [decide_eq_false_iff_not]
    exact fun hs => hs.not_bef (he.symm.bef_l (h3 x hx))
   have hnx := pth_walk hp
   exact .inl ⟨_, hnx, by rw [sb_ad]; exact he, by rw [hS2]⟩
  ·have hE2 : ∀ x ∈ E2, Bef d x := by
    intro x hx
    have hxn : x ≠ (0, 0) := hnz x (List.mem_append_right _ hx)
    rcases dir_tri hd hxn with h | h | h
    ·exact h
    ·
     match E2, hsame, hx, hb2 with
     | e :: E3, hsame, hx, hb2 =>
      rcases List.mem_cons.1 hx with rfl | hx
      ·exact absurd ⟨_, _, rfl, h⟩ hsame
      ·rw [List.pairwise_append] at hs
       have := (List.pairwise_cons.1 hs.2.1).1 x hx
       exact absurd (h.symm.bef_r this) (hb2 e (by simp))
    ·exact absurd h (hb2 x hx)
   have hS2 : sumS d E2 = (0, 0) := by
    rw [sumS, filter_none (fun x hx => ?_)]; · rfl
    simp only [decide_eq_false_iff_not]
    exact fun hs => hs.not_bef (hE2 x hx)
   refine .inr ⟨hS2, ?_⟩
   have hprev : ∃ p q, q ∈ S ∧ Nx S q (ad a (sumL E1)) ∧ sb (ad a (sumL E1)) q = p ∧ ((E1 ≠ [] ∧ Bef p d) ∨ (E1 = [] ∧ Pos (ng p))) := by
    rcases List.eq_nil_or_concat E1 with rfl | ⟨E', p, rfl⟩
    ·rcases List.eq_nil_or_concat E2 with rfl | ⟨E', p, rfl⟩
     ·exact absurd rfl hne
     ·rw [List.concat_eq_append, List.nil_append] at hp hsum
      have hnx := pth_walk (E1 := E') (e := p) (E3 := []) hp
      have e0 : ad (ad a (sumL E')) p = a := by
       rw [sumL_append, sumL_cons, sumL_nil, ad_zero] at hsum
       rw [ad_assoc, hsum, ad_zero]
      rw [e0] at hnx
      refine ⟨p, _, walk_mm haS hp E' [p] rfl, by rw [sumL_nil, ad_zero]; exact hnx, ?_, .inr ⟨rfl, ?_⟩⟩
      ·have := sb_ad (ad a (sumL E')) p
       rw [e0] at this
       rw [sumL_nil, ad_zero]; exact this
      ·have hq : ad a (sumL E') ∈ S := walk_mm haS hp E' [p] rfl
       have hle := hc0 _ hq
       have e1 := congrArg Prod.fst e0
       have e2 := congrArg Prod.snd e0
       have hp0 : p ≠ (0, 0) := hnz p (by simp)
       have hp1 : ¬ (p.1 = 0 ∧ p.2 = 0) := fun e => hp0 (Prod.ext e.1 e.2)
       rcases hle with hle | hle
       ·have e3 := congrArg Prod.fst hle
        have e4 := congrArg Prod.snd hle
        simp only [ad] at e1 e2 e3 e4
        exact absurd ⟨by omega, by omega⟩ hp1
       ·simp only [ad, Lt, Pos, sb, ng] at *
        omega
    ·rw [List.concat_eq_append] at *
     have hp' : Pth S (walk a (E' ++ p :: E2)) := by simpa using hp
     have hnx := pth_walk hp'
     have e0 : ad a (sumL (E' ++ [p])) = ad (ad a (sumL E')) p := by rw [sumL_append, sumL_cons, sumL_nil, ad_zero, ad_assoc]
     rw [e0]
     exact ⟨p, _, walk_mm haS hp' E' (p :: E2) rfl, hnx, sb_ad _ _, .inl ⟨by simp, hb1 p (by simp)⟩⟩
   have hnext : ∃ n q, Nx S (ad a (sumL E1)) q ∧ sb q (ad a (sumL E1)) = n ∧ ((E2 ≠ [] ∧ Bef d n ∧ (E1 = [] → Pos n)) ∨ (E2 = [] ∧ Pos n)) := by
    match E2, hE2 with
    | [], hE2 =>
     match E1, hne with
     | n :: E1, hne =>
      rw [List.append_nil] at hp hsum
      have hnx := pth_walk (E1 := []) (e := n) (E3 := E1) hp
      rw [sumL_nil, ad_zero] at hnx
      rw [hsum, ad_zero]
      refine ⟨n, _, hnx, sb_ad _ _, .inr ⟨rfl, ?_⟩⟩
      rcases hc0 _ hnx.1 with h | h
      ·exact absurd h hnx.2.1
      ·have h' : Pos (sb (ad a n) a) := h
       rwa [sb_ad] at h'
    | n :: E3, hE2 =>
     have hnx := pth_walk hp
     refine ⟨n, _, hnx, sb_ad _ _, .inl ⟨by simp, hE2 n (by simp), fun e => ?_⟩⟩
     subst e
     rw [sumL_nil, ad_zero] at hnx
     rcases hc0 _ hnx.1 with h | h
     ·exact absurd h hnx.2.1
     ·have h' : Pos (sb (ad a n) a) := h
      rwa [sb_ad] at h'
   obtain ⟨p, q, hqS, n1, rfl, p2⟩ := hprev
   obtain ⟨n, q', n2, rfl, p3⟩ := hnext
   have hpn : 0 ≤ crs (sb (ad a (sumL E1)) q) (sb q' (ad a (sumL E1))) := by
    have := (n1.2.2 q' n2.1).1
    have e : cr q (ad a (sumL E1)) q' = crs (sb (ad a (sumL E1)) q) (sb q' (ad a (sumL E1))) := by simp only [cr, crs, sb]; grind
    omega
   have := between_dirs hpn (d := d) (by
    rcases p2 with ⟨a1, a2⟩ | ⟨a1, a2⟩
    ·rcases p3 with ⟨b1, b2, b3⟩ | ⟨b1, b2⟩
     ·exact .inl ⟨a2, b2⟩
     ·refine .inr (.inr ⟨a2, b2, ?_⟩)
      subst b1
      rw [List.append_nil] at hsum hnz
      rcases pos_tri (sb (ad a (sumL E1)) q) a2.ne1 with hpp | hpp
      ·exfalso
       rw [hsum, ad_zero] at hpp n1
       rcases hc0 q hqS with h | h
       ·exact n1.2.1 h.symm
       ·exact h.asymm hpp
      ·exact hpp
    ·rcases p3 with ⟨b1, b2, b3⟩ | ⟨b1, b2⟩
     ·exact .inr (.inl ⟨b2, b3 a1, a2⟩)
     ·exact absurd (show E1 ++ E2 = [] by rw [a1, b1]; rfl) hne)
   exact ⟨_, _, hqS, n1, n2, this.1, this.2⟩
theorem cyc_face {S c : List Pt} (h : Cyc S c) {d : Pt} (hd : d ≠ (0, 0)) : Face S d (ad (hd0 c) (sumB d (wy c))) (ad (ad (hd0 c) (sumB d (wy c))) (sumS d (wy c))) := by
 match c, h with
 | [a], h =>
  have hS : ∀ x ∈ S, x = a := by
   rcases h.2.2 with ⟨_, h⟩ | ⟨h, _⟩
   ·exact h
   ·exact absurd rfl h
  show Face S d (ad a (0, 0)) (ad (ad a (0, 0)) (0, 0))
  rw [ad_zero, ad_zero]
  refine ⟨h.1, h.1, by simp [crs, sb], fun x hx => ?_, fun x hx _ => ?_⟩
  ·rw [hS x hx]; simp [crs, sb]
  ·rw [hS x hx]; simp [dt, sb]
 | a :: b :: r, h =>
  obtain ⟨α, h1, h2, h3⟩ := cyc_dir h hd
  show Face S d (ad a (sumB d (wy (a :: b :: r)))) (ad (ad a (sumB d (wy (a :: b :: r)))) (sumS d (wy (a :: b :: r))))
  rw [← h2]
  rcases h3 with ⟨β, k1, k2, k3⟩ | ⟨k1, q, β, k2, k3, k4, k5, k6⟩
  ·rw [k3]; exact (nx_face h1 k1).same k2.symm
  ·rw [k1, ad_zero]; exact corner_face k3 k4 k5 k6
end M06
end
section
namespace M06
def grp : Pt → List Pt → List Pt
 | _, [] => []
 | now, [w] => [ad now w]
 | now, w :: w' :: ws => if Same w w' then grp (ad now w) (w' :: ws) else ad now w :: grp (ad now w) (w' :: ws)
def mink (s0 : Pt) (ws : List Pt) : List Pt := if 1 < (s0 :: grp s0 ws).length then (s0 :: grp s0 ws).dropLast else s0 :: grp s0 ws
theorem grp_ne : ∀ (now w : Pt) (ws : List Pt), grp now (w :: ws) ≠ []
 | now, w, [] => by simp [grp]
 | now, w, w' :: ws => by
  rw [grp]; split
  ·exact grp_ne _ _ _
  ·simp
theorem bef_le {a b c : Pt} (h : Bef a b) (hc : c ≠ (0, 0)) (h2 : ¬ Bef c b) : Bef a c := by
 rcases dir_tri h.ne2 hc with k | k | k
 ·exact h.trans k
 ·exact k.bef_r h
 ·exact absurd k h2
theorem le_bef {a b c : Pt} (ha : a ≠ (0, 0)) (h2 : ¬ Bef b a) (h : Bef b c) : Bef a c := by
 rcases dir_tri h.ne1 ha with k | k | k
 ·exact absurd k h2
 ·exact k.bef_l h
 ·exact k.trans h
theorem sum_split {d : Pt} : ∀ {l : List Pt}, (∀ u ∈ l, Bef u d ∨ Same d u) → sumL l = ad (sumB d l) (sumS d l)
 | [], _ => rfl
 | u :: l, h => by
  have ih := sum_split (l := l) (fun x hx => h x (List.mem_cons_of_mem _ hx))
  rcases h u (by simp) with hb | hs
  ·rw [sumB, sumS, List.filter_cons_of_pos (by simpa using hb), List.filter_cons_of_neg (by simpa using fun hs : Same d u => hs.not_bef' hb), sumL_cons, sumL_cons, ih, ad_assoc]
   rfl
  ·rw [sumB, sumS, List.filter_cons_of_neg (by simpa using hs.not_bef'), List.filter_cons_of_pos (by simpa using hs), sumL_cons, sumL_cons, ih]
   show ad u (ad (sumB d l) (sumS d l)) = ad (sumB d l) (ad u (sumS d l))
   rw [← ad_assoc, ← ad_assoc, ad_comm u]
theorem sumB_none {d : Pt} {l : List Pt} (h : ∀ x ∈ l, ¬ Bef x d) : sumB d l = (0, 0) := by
 rw [sumB, filter_none (fun x hx => by simpa using h x hx)]; rfl
theorem sumS_none {d : Pt} {l : List Pt} (h : ∀ x ∈ l, ¬ Same d x) : sumS d l = (0, 0) := by
 rw [sumS, filter_none (fun x hx => by simpa using h x hx)]; rfl
theorem sumB_all {d : Pt} {l : List Pt} (h : ∀ x ∈ l, Bef x d) : sumB d l = sumL l := by
 rw [sumB, filter_all (fun x hx => by simpa using h x hx)]
theorem pos_sumL : ∀ {l : List Pt}, l ≠ [] → (∀ x ∈ l, Pos x) → Pos (sumL l)
 | [x], _, h => by rw [sumL_cons, sumL_nil, ad_zero]; exact h x (by simp)
 | x :: y :: l, _, h => by
  rw [sumL_cons]
  exact pos_sum (h x (by simp)) (pos_sumL (l := y :: l) (by simp) (fun z hz => h z (List.mem_cons_of_mem _ hz)))
theorem sumL_ng : ∀ (l : List Pt), sumL (l.map ng) = ng (sumL l)
 | [] => by simp [sumL, ng]
 | x :: l => by
  rw [List.map_cons, sumL_cons, sumL_cons, sumL_ng l]
  simp only [ad, ng]; exact Prod.ext (by simp; omega) (by simp; omega)
theorem grp_path {T ws : List Pt} {s0 : Pt} (hnz : ∀ w ∈ ws, w ≠ (0, 0)) (hs : ws.Pairwise (fun u v => ¬ Bef v u))
  (hf : ∀ d, d ≠ (0, 0) → Face T d (ad s0 (sumB d ws)) (ad (ad s0 (sumB d ws)) (sumS d ws))) :
  ∀ (ws2 ws1 : List Pt) (w cur : Pt), ws = ws1 ++ w :: ws2 → cur = ad s0 (sumB w ws) →
   Pth T (cur :: grp (ad s0 (sumL ws1)) (w :: ws2)) ∧ (grp (ad s0 (sumL ws1)) (w :: ws2)).getLast? = some (ad s0 (sumL ws)) ∧
   ∀ x ∈ (grp (ad s0 (sumL ws1)) (w :: ws2)).dropLast, ∃ l1 l2, ws = l1 ++ l2 ∧ l1 ≠ [] ∧ l2 ≠ [] ∧ x = ad s0 (sumL l1) ∧ ∀ u ∈ l1, ∀ v ∈ l2, Bef u v := by
 have step : ∀ (l1 l2 : List Pt) (w : Pt), ws = l1 ++ l2 → w ∈ l1 → (∀ u ∈ l1, ¬ Bef w u) → (∀ v ∈ l2, Bef w v) → Nx T (ad s0 (sumB w ws)) (ad s0 (sumL l1)) := by
  intro l1 l2 w he hw h1 h2
  have hw0 : w ≠ (0, 0) := hnz w (by rw [he]; exact List.mem_append_left _ hw)
  have e1 : sumB w ws = sumB w l1 := by
   rw [he, sumB_append, sumB_none (l := l2) (fun x hx hb => (h2 x hx).asymm hb), ad_zero]
  have e2 : sumS w ws = sumS w l1 := by
   rw [he, sumS_append, sumS_none (l := l2) (fun x hx hs => hs.not_bef (h2 x hx)), ad_zero]
  have e3 : sumL l1 = ad (sumB w ws) (sumS w ws) := by
   rw [e1, e2]
   refine sum_split fun u hu => ?_
   have hu0 : u ≠ (0, 0) := hnz u (by rw [he]; exact List.mem_append_left _ hu)
   rcases dir_tri hw0 hu0 with k | k | k
   ·exact absurd k (h1 u hu)
   ·exact .inr k
   ·exact .inl k
  have hF := hf w hw0
  rw [ad_assoc, ← e3] at hF
  refine (face_nx hw0 hF fun hab => ?_).1
  have hz : sumS w ws = (0, 0) := by
   rw [e3, ← ad_assoc] at hab
   have a1 := congrArg Prod.fst hab
   have a2 := congrArg Prod.snd hab
   simp only [ad] at a1 a2
   exact Prod.ext (by simp; omega) (by simp; omega)
  have hfil : (ws.filter (fun x => decide (Same w x))) ≠ [] := by
   intro hn
   have hww : w ∈ ws := by rw [he]; exact List.mem_append_left _ hw
   have := List.filter_eq_nil_iff.1 hn w hww
   simp only [decide_eq_true_eq] at this
   refine this ⟨by simp only [crs]; have := Int.mul_comm w.1 w.2; omega, ?_⟩
   exact dt_self_pos hw0
  rcases pos_tri w hw0 with hp | hp
  ·have := pos_sumL hfil (fun x hx => pos_same (by simpa using (List.mem_filter.1 hx).2) hp)
   exact pos_ne this hz
  ·have := pos_sumL (l := (ws.filter (fun x => decide (Same w x))).map ng) (by simpa using hfil) (fun x hx => by
    obtain ⟨y, hy, rfl⟩ := List.mem_map.1 hx
    have hsy : Same w y := by simpa using (List.mem_filter.1 hy).2
    exact pos_same (same_ng hsy) hp)
   rw [sumL_ng] at this
   refine pos_ne this ?_
   show ng (sumS w ws) = _
   rw [hz]; rfl
 intro ws2
 induction ws2 with
 | nil =>
  intro ws1 w cur he hcur
  have hle : ∀ u ∈ ws1 ++ [w], ¬ Bef w u := by
   intro u hu hb
   rcases List.mem_append.1 hu with h | h
   ·rw [he, List.pairwise_append] at hs
    exact hs.2.2 u h w (by simp) hb
   ·simp at h; subst h; exact hb.irrefl
  have hn := step (ws1 ++ [w]) [] w (by rw [he]; simp) (by simp) hle (by simp)
  have e : ad (ad s0 (sumL ws1)) w = ad s0 (sumL (ws1 ++ [w])) := by rw [sumL_append, sumL_cons, sumL_nil, ad_zero, ad_assoc]
  refine ⟨⟨?_, trivial⟩, ?_, by simp [grp]⟩
  ·rw [hcur, e]; exact hn
  ·simp only [grp, List.getLast?_singleton]
   rw [e, he]
 | cons w' ws2 ih =>
  intro ws1 w cur he hcur
  have he' : ws = (ws1 ++ [w]) ++ w' :: ws2 := by rw [he]; simp
  have e : ad (ad s0 (sumL ws1)) w = ad s0 (sumL (ws1 ++ [w])) := by rw [sumL_append, sumL_cons, sumL_nil, ad_zero, ad_assoc]
  have hw0 : w ≠ (0, 0) := hnz w (by rw [he]; simp)
  have hw0' : w' ≠ (0, 0) := hnz w' (by rw [he]; simp)
  by_cases hsame : Same w w'
  ·rw [grp, if_pos hsame, e]
   refine ih (ws1 ++ [w]) w' cur he' ?_
   rw [hcur]
   congr 1
   rw [sumB, sumB]
   congr 1
   refine List.filter_congr fun x _ => ?_
   rw [decide_eq_decide]
   exact ⟨fun h => hsame.bef_r h, fun h => hsame.symm.bef_r h⟩
  ·rw [grp, if_neg hsame, e]
   have hww : Bef w w' := by
    rcases dir_tri hw0 hw0' with k | k | k
    ·exact k
    ·exact absurd k hsame
    ·rw [he', List.pairwise_append] at hs
     exact absurd k (hs.2.2 w (by simp) w' (by simp))
   have hle : ∀ u ∈ ws1 ++ [w], ¬ Bef w u := by
    intro u hu hb
    rcases List.mem_append.1 hu with h | h
    ·rw [he, List.pairwise_append] at hs
     exact hs.2.2 u h w (by simp) hb
    ·simp at h; subst h; exact hb.irrefl
   have hge : ∀ v ∈ w' :: ws2, ¬ Bef v w' := by
    intro v hv hb
    rcases List.mem_cons.1 hv with h | h
    ·subst h; exact hb.irrefl
    ·rw [he', List.pairwise_append] at hs
     exact (List.pairwise_cons.1 hs.2.1).1 v h hb
   have hall : ∀ u ∈ ws1 ++ [w], ∀ v ∈ w' :: ws2, Bef u v := by
    intro u hu v hv
    have h1 : Bef w v := bef_le hww (hnz v (by rw [he']; exact List.mem_append_right _ hv)) (hge v hv)
    exact le_bef (hnz u (by rw [he']; exact List.mem_append_left _ hu)) (hle u hu) h1
   have hn := step (ws1 ++ [w]) (w' :: ws2) w he' (by simp) hle (fun v hv => hall w (by simp) v hv)
   have hcur' : ad s0 (sumL (ws1 ++ [w])) = ad s0 (sumB w' ws) := by
    congr 1
    rw [he', sumB_append, sumB_none (l := w' :: ws2) hge, ad_zero, sumB_all (fun u hu => hall u hu w' (by simp))]
   obtain ⟨i1, i2, i3⟩ := ih (ws1 ++ [w]) w' _ he' hcur'
   refine ⟨⟨by rw [hcur]; exact hn, i1⟩, ?_, ?_⟩
   ·obtain ⟨a, r, hg⟩ : ∃ a r, grp (ad s0 (sumL (ws1 ++ [w]))) (w' :: ws2) = a :: r := by
     match hq : grp (ad s0 (sumL (ws1 ++ [w]))) (w' :: ws2) with
     | [] => exact absurd hq (grp_ne _ _ _)
     | a :: r => exact ⟨a, r, rfl⟩
    rw [hg] at i2 ⊢
    rw [List.getLast?_cons_cons]; exact i2
   ·intro x hx
    obtain ⟨a, r, hg⟩ : ∃ a r, grp (ad s0 (sumL (ws1 ++ [w]))) (w' :: ws2) = a :: r := by
     match hq : grp (ad s0 (sumL (ws1 ++ [w]))) (w' :: ws2) with
     | [] => exact absurd hq (grp_ne _ _ _)
     | a :: r => exact ⟨a, r, rfl⟩
    rw [hg] at hx i3
    rw [List.dropLast_cons_cons] at hx
    rcases List.mem_cons.1 hx with rfl | hx
    ·exact ⟨ws1 ++ [w], w' :: ws2, he', by simp, by simp, rfl, hall⟩
    ·exact i3 x hx
theorem mink_cyc {A B T a b ws : List Pt} (hA : Cyc A a) (hB : Cyc B b) (hT : ∀ z, z ∈ T ↔ ∃ x ∈ A, ∃ y ∈ B, z = ad x y) (hp : ws.Perm (wy a ++ wy b)) (hs : ws.Pairwise (fun u v => ¬ Bef v u)) :
  Cyc T (mink (ad (hd0 a) (hd0 b)) ws) := by
 have hf : ∀ d, d ≠ (0, 0) → Face T d (ad (ad (hd0 a) (hd0 b)) (sumB d ws)) (ad (ad (ad (hd0 a) (hd0 b)) (sumB d ws)) (sumS d ws)) := by
  intro d hd
  have := (cyc_face hA hd).sum hT (cyc_face hB hd)
  rw [sumB_perm d hp, sumS_perm d hp, sumB_append, sumS_append]
  have sw : ∀ x y z w : Pt, ad (ad x y) (ad z w) = ad (ad x z) (ad y w) := by
   intros; simp only [ad]; exact Prod.ext (by simp; omega) (by simp; omega)
  rw [sw (hd0 a) (hd0 b) (sumB d (wy a)) (sumB d (wy b)), sw (ad (hd0 a) (sumB d (wy a))) (ad (hd0 b) (sumB d (wy b))) (sumS d (wy a)) (sumS d (wy b))]
  exact this
 have wprop : ∀ {S c : List Pt}, Cyc S c → sumL (wy c) = (0, 0) ∧ (∀ w ∈ wy c, w ≠ (0, 0)) ∧ hd0 c ∈ S ∧ ∀ x ∈ S, Le (hd0 c) x := by
  intro S c h
  match c, h with
  | [x], h => exact ⟨rfl, by simp [wy], h.1, h.2.1⟩
  | x :: y :: r, h =>
   have := cyc_walk h
   exact ⟨this.2.1, this.2.2.1, h.1, h.2.1⟩
 obtain ⟨a1, a2, a3, a4⟩ := wprop hA
 obtain ⟨b1, b2, b3, b4⟩ := wprop hB
 have hnz : ∀ w ∈ ws, w ≠ (0, 0) := fun w hw => by
  rcases List.mem_append.1 (hp.mem_iff.1 hw) with h | h
  ·exact a2 w h
  ·exact b2 w h
 have hsum : sumL ws = (0, 0) := by rw [sumL_perm hp, sumL_append, a1, b1]; rfl
 generalize hs0 : ad (hd0 a) (hd0 b) = s0 at *
 have hin : s0 ∈ T := (hT _).2 ⟨_, a3, _, b3, hs0.symm⟩
 have hle : ∀ x ∈ T, Le s0 x := by
  intro z hz
  obtain ⟨x, hx, y, hy, rfl⟩ := (hT z).1 hz
  have h1 := a4 x hx
  have h2 := b4 y hy
  rw [← hs0]
  generalize hd0 a = p at *
  generalize hd0 b = q at *
  rcases h1 with rfl | h1
  ·rcases h2 with rfl | h2
   ·exact .inl rfl
   ·right; simp only [Lt, Pos, sb, ad] at *; omega
  ·rcases h2 with rfl | h2
   ·right; simp only [Lt, Pos, sb, ad] at *; omega
   ·right; simp only [Lt, Pos, sb, ad] at *; omega
 match ws, hp, hs, hf, hnz, hsum with
 | [], hp, hs, hf, hnz, hsum =>
  have : mink s0 [] = [s0] := by simp [mink, grp]
  rw [this]
  refine ⟨hin, hle, .inl ⟨rfl, fun x hx => ?_⟩⟩
  have f1 := (hf (1, 0) (by simp)).left x hx
  have f2 := (hf (-1, 0) (by simp)).left x hx
  have f3 := (hf (0, 1) (by simp)).left x hx
  have f4 := (hf (0, -1) (by simp)).left x hx
  simp only [sumB, sumL, List.filter_nil, List.foldr_nil, ad_zero, crs, sb] at f1 f2 f3 f4
  exact Prod.ext (by omega) (by omega)
 | w :: ws, hp, hs, hf, hnz, hsum =>
  have hcur : s0 = ad s0 (sumB w (w :: ws)) := by
   rw [sumB_none (fun x hx hb => ?_), ad_zero]
   rcases List.mem_cons.1 hx with h | h
   ·subst h; exact hb.irrefl
   ·exact (List.pairwise_cons.1 hs).1 x h hb
  obtain ⟨p1, p2, p3⟩ := grp_path hnz hs hf ws [] w s0 rfl hcur
  rw [sumL_nil, ad_zero] at p1 p2 p3
  rw [hsum, ad_zero] at p2
  obtain ⟨r, hr⟩ : ∃ r, grp s0 (w :: ws) = r ++ [s0] := by
   have hne := grp_ne s0 w ws
   refine ⟨(grp s0 (w :: ws)).dropLast, ?_⟩
   have := List.dropLast_concat_getLast hne
   rw [List.getLast?_eq_some_getLast hne] at p2
   rw [Option.some.inj p2] at this
   exact this.symm
  rw [hr] at p1 p3
  have hm : mink s0 (w :: ws) = s0 :: r := by
   rw [mink, hr, if_pos (by simp), ← List.cons_append, List.dropLast_concat]
  rw [hm]
  rw [List.dropLast_concat] at p3
  refine ⟨hin, hle, .inr ⟨?_, p1, fun hmem => ?_⟩⟩
  ·rintro rfl
   exact p1.1.2.1 rfl
  ·obtain ⟨l1, l2, h1, h2, h3, h4, h5⟩ := p3 s0 hmem
   have hz1 : sumL l1 = (0, 0) := by
    have a1 := congrArg Prod.fst h4
    have a2 := congrArg Prod.snd h4
    simp only [ad] at a1 a2
    exact Prod.ext (by simp; omega) (by simp; omega)
   have hz2 : sumL l2 = (0, 0) := by rw [h1, sumL_append, hz1, zero_ad] at hsum; exact hsum
   by_cases hall : ∀ u ∈ l1, Pos u
   ·exact pos_ne (pos_sumL h2 hall) hz1
   ·have : ∃ u ∈ l1, ¬ Pos u := Classical.byContradiction fun hn => hall fun u hu => Classical.byContradiction fun hp => hn ⟨u, hu, hp⟩
    obtain ⟨u, hu, hup⟩ := this
    have hall2 : ∀ v ∈ l2.map ng, Pos v := by
     intro v hv
     obtain ⟨y, hy, rfl⟩ := List.mem_map.1 hv
     rcases h5 u hu y hy with h | h | h
     ·exact h.2
     ·exact absurd h.1 hup
     ·exact h.2.1
    have := pos_sumL (by simpa using h3) hall2
    rw [sumL_ng, hz2] at this
    exact pos_ne this rfl
end M06
end
section
namespace Go.Am
open M06
theorem plain_encP (l : List Pt) : std.plain (encP l) = true := by
 show List.all _ _ = true
 rw [List.all_eq_true]
 intro r hr
 obtain ⟨p, _, rfl⟩ := List.mem_map.1 hr
 rfl
theorem G60_ok {l : List Pt} (hn : l.length ≤ 100000) : G60 std (encP l, ()) = some (encP l, ()) := by
 have key := iter_to (b := b60_1 std) (fun (i : Nat) => (encP (l.take i ++ List.replicate (l.length - i) (0, 0)), encP l, (l.length : Int), (i : Int), ())) (fun i => i ≤ l.length) (fun i => l.length - i) (fun _ => (encP l, ())) (fun i hi => by
  by_cases hlt : i < l.length
  ·left
   obtain ⟨p, hp⟩ := get_some hlt
   have gp := encP_get hp
   have c1 : (i : Int) < (l.length : Int) := by omega
   have c2 : (i : Int) ≥ 0 := by omega
   have hw := wrap_nat (i := i) (by omega)
   refine ⟨i + 1, ?_, by omega, by omega, rfl⟩
   have hle : (encP (l.take i ++ List.replicate (l.length - i) (0, 0))).length = l.length := by simp [encP]; omega
   have hset : (l.take i ++ List.replicate (l.length - i) (0, 0)).set i p = l.take (i + 1) ++ List.replicate (l.length - (i + 1)) (0, 0) := by
    rw [take_succ_some hp, show l.length - i = (l.length - (i + 1)) + 1 by omega, List.replicate_succ, List.append_assoc, List.set_append_right _ _ (by simp; omega)]
    congr 1
    have : i - (l.take i).length = 0 := by simp; omega
    rw [this]; rfl
   have hle2 : (l.take i ++ List.replicate (l.length - i) (0, 0)).length = l.length := by simp; omega
   have hle3 : (l.take (i + 1) ++ List.replicate (l.length - (i + 1)) (0, 0)).length = l.length := by simp; omega
   obtain ⟨r, h4⟩ := get_some (l := l.take i ++ List.replicate (l.length - i) (0, 0)) (i := i) (by omega)
   have g3 := encP_get h4
   simp only [b60_1, stdS, stdL, cells_eP, dI_eP0, dI_eP1, eP_eq, encP_set, encP_len, hle2, hle3, c1, c2, std_ar_add, hw, gp, g3, hset]
  ·right
   have : i = l.length := by omega
   subst this
   have hn : ¬ ((l.length : Int) < (l.length : Int)) := by omega
   simp only [b60_1, stdS, stdL, hn, List.take_length, Nat.sub_self, List.replicate_zero, List.append_nil]) 0 (Nat.zero_le _)
 unfold G60
 have e0 : encP (l.take 0 ++ List.replicate (l.length - 0) (0, 0)) = List.replicate l.length (eP (0, 0)) := by simp [encP]
 rw [e0] at key
 have z : [D.int IntKind.i64 (0 : Int), D.int IntKind.i64 (0 : Int)] = eP (0, 0) := rfl
 have c0 : (l.length : Int) ≥ 0 := by omega
 have c1 : (l.length : Int) ≤ (l.length : Int) := by omega
 have c2 : (l.length : Int) ≤ 1000000 := by omega
 simp only [g60, it0_eq, stdS, stdL, encP_len, z, c0, c1, c2]
 have k0 : ((0 : Nat) : Int) = 0 := rfl
 rw [k0] at key
 simp only [key, Option.bind_some, List.length_replicate, if_true, encP_len, List.drop_zero, Nat.le_refl]
 rw [List.take_of_length_le (by rw [encP_len]; exact Nat.le_refl _)]
def rvd (L : List Pt) (n i : Nat) : List Pt := (List.range L.length).map fun j => if j < n ∧ (j < i ∨ n ≤ j + i) then L.getD (n - 1 - j) (0, 0) else L.getD j (0, 0)
theorem rvd_get {L : List Pt} {n i j : Nat} (hj : j < L.length) : (rvd L n i)[j]? = some (if j < n ∧ (j < i ∨ n ≤ j + i) then L.getD (n - 1 - j) (0, 0) else L.getD j (0, 0)) := by
 simp [rvd, hj]
theorem rvd_len (L : List Pt) (n i : Nat) : (rvd L n i).length = L.length := by simp [rvd]
theorem list_ext {α : Type} {a b : List α} (h : a.length = b.length) (k : ∀ j, j < a.length → a[j]? = b[j]?) : a = b := by
 apply List.ext_getElem?
 intro j
 by_cases hj : j < a.length
 ·exact k j hj
 ·rw [List.getElem?_eq_none (by omega), List.getElem?_eq_none (by omega)]
theorem rvd_zero (L : List Pt) (n : Nat) : rvd L n 0 = L := by
 refine list_ext (rvd_len _ _ _) fun j hj => ?_
 rw [rvd_len] at hj
 rw [rvd_get hj, if_neg (by omega)]
 simp [List.getD_eq_getElem?_getD, hj]
theorem rvd_end {L : List Pt} {n i : Nat} (hn : n ≤ L.length) (hi : n ≤ 2 * i + 1) : rvd L n i = (L.take n).reverse ++ L.drop n := by
 refine list_ext (by rw [rvd_len]; simp; omega) fun j hj => ?_
 rw [rvd_len] at hj
 rw [rvd_get hj]
 by_cases h : j < n
 ·rw [List.getElem?_append_left (by simp; omega), List.getElem?_reverse (by simp; omega)]
  have : (List.take n L).length - 1 - j = n - 1 - j := by simp; omega
  rw [this, List.getElem?_take_of_lt (by omega)]
  by_cases k : j < i ∨ n ≤ j + i
  ·rw [if_pos ⟨h, k⟩]
   have : n - 1 - j < L.length := by omega
   simp [List.getD_eq_getElem?_getD, this]
  ·rw [if_neg (by omega)]
   have : n - 1 - j = j := by omega
   rw [this]
   simp [List.getD_eq_getElem?_getD, hj]
 ·rw [if_neg (by omega), List.getElem?_append_right (by simp; omega)]
  have : n + (j - (List.take n L).reverse.length) = j := by simp; omega
  rw [List.getElem?_drop, this]
  simp [List.getD_eq_getElem?_getD, hj]
theorem rvd_step {L : List Pt} {n i : Nat} (hn : n ≤ L.length) (hi : 2 * i + 1 < n) :
  ∃ p q, (rvd L n i)[i]? = some p ∧ (rvd L n i)[n - 1 - i]? = some q ∧ ((rvd L n i).set i q).set (n - 1 - i) p = rvd L n (i + 1) := by
 have h1 := rvd_get (L := L) (n := n) (i := i) (j := i) (by omega)
 have h2 := rvd_get (L := L) (n := n) (i := i) (j := n - 1 - i) (by omega)
 rw [if_neg (by omega)] at h1 h2
 refine ⟨_, _, h1, h2, ?_⟩
 refine list_ext (by simp [rvd_len]) fun j hj => ?_
 simp only [List.length_set, rvd_len] at hj
 rw [rvd_get hj]
 by_cases e1 : n - 1 - i = j
 ·subst e1
  rw [List.getElem?_set_self (by simp [rvd_len]; omega), if_pos (by omega)]
  have : n - 1 - (n - 1 - i) = i := by omega
  rw [this]
 ·rw [List.getElem?_set_ne e1]
  by_cases e2 : i = j
  ·subst e2
   rw [List.getElem?_set_self (by simp [rvd_len]; omega), if_pos (by omega)]
  ·rw [List.getElem?_set_ne e2, rvd_get hj]
   congr 1
   by_cases k : j < n ∧ (j < i ∨ n ≤ j + i)
   ·rw [if_pos k, if_pos (by omega)]
   ·rw [if_neg k, if_neg (by omega)]
theorem G89_ok {L : List Pt} {m cap : Nat} (hm : m ≤ L.length) (hn : L.length ≤ 100000) :
  G89 std (encP L, (0 : Nat), m, cap, ()) = some (encP ((L.take m).reverse ++ L.drop m), ()) := by
 have key := iter_to (b := b89_1 std) (fun (i : Nat) => (encP (rvd L m i), (0 : Nat), m, cap, (i : Int), (m : Int) - 1 - i, ())) (fun i => i ≤ m) (fun i => m - i) (fun _ => (encP ((L.take m).reverse ++ L.drop m), ())) (fun i hi => by
  by_cases hlt : 2 * i + 1 < m
  ·left
   refine ⟨i + 1, ?_, by omega, by omega, rfl⟩
   obtain ⟨p, q, h1, h2, h3⟩ := rvd_step hm hlt
   have ej : (m : Int) - 1 - i = ((m - 1 - i : Nat) : Int) := by omega
   have c1 : (i : Int) < ((m - 1 - i : Nat) : Int) := by omega
   have c2 : ((m - 1 - i : Nat) : Int) ≥ 0 := by omega
   have c3 : ((m - 1 - i : Nat) : Int) < (m : Int) := by omega
   have c4 : (i : Int) ≥ 0 := by omega
   have c5 : (i : Int) < (m : Int) := by omega
   have hw := wrap_nat (i := i) (by omega)
   have hw2 : IntKind.i64.wrap (((m - 1 - i : Nat) : Int) - 1) = (m : Int) - 1 - ((i + 1 : Nat) : Int) := by rw [wrap64] <;> omega
   have g1 := encP_get h1
   have g2 := encP_get h2
   have h4 : ∃ r, ((rvd L m i).set i q)[m - 1 - i]? = some r := get_some (by rw [List.length_set, rvd_len]; omega)
   obtain ⟨r, h4⟩ := h4
   have g3 := encP_get h4
   simp only [ej, b89_1, stdS, stdL, cells_eP, dI_eP0, dI_eP1, eP_eq, encP_set, encP_len, c1, c2, c3, c4, c5, std_ar_add, std_ar_sub, hw, hw2, g1, g2, g3, h3]
  ·right
   have hge : ¬ ((i : Int) < (m : Int) - 1 - i) := by omega
   simp only [b89_1, stdS, stdL, hge]
   rw [rvd_end hm (by omega)]) 0 (Nat.zero_le _)
 unfold G89
 have hw : IntKind.i64.wrap ((m : Int) - 1) = (m : Int) - 1 - ((0 : Nat) : Int) := by rw [wrap64] <;> omega
 rw [rvd_zero] at key
 simp only [g89, it0_eq, std_ofNat, std_ar_sub, hw, bnd_eq, ret_eq]
 have k0 : ((0 : Nat) : Int) = 0 := rfl
 simp only [k0] at key ⊢
 simp only [key, Option.bind_some]
theorem chain_chn (l : List Pt) : chain l = chn l := rfl
theorem chn_len {q : List Pt} (hs : q.Pairwise Lt) (h2 : 2 ≤ q.length) : 2 ≤ (chn q).length ∧ 2 ≤ (chn q.reverse).length := by
 have main : ∀ {q : List Pt}, q.Pairwise Lt → 2 ≤ q.length → 2 ≤ (chn q).length := by
  intro q hs h2
  match q, h2 with
  | a :: b :: m, _ =>
   obtain ⟨z, hz⟩ : ∃ z, (a :: b :: m).getLast? = some z := ⟨_, List.getLast?_eq_some_getLast (by simp)⟩
   have haz : Lt a z := by
    have h := hz
    rw [List.getLast?_cons_cons] at h
    exact (List.pairwise_cons.1 hs).1 z (List.mem_of_getLast? h)
   obtain ⟨t, h1, h3, _⟩ := chn_spec rfl hz hs
   rw [h1]
   match t, h3 with
   | [], h3 => exact absurd (Option.some.inj h3).symm haz.ne
   | x :: t, _ => simp
 refine ⟨main hs h2, ?_⟩
 have hrz : (q.reverse.map ng).Pairwise Lt := by
  rw [List.pairwise_map, List.pairwise_reverse]
  exact hs.imp fun h => (ng_lt _ _).2 h
 have := main hrz (by simpa using h2)
 rw [chn_ng] at this
 simpa using this
theorem G59_ok {l : List Pt} (h1 : 1 ≤ l.length) (h12 : l.length ≤ 12) (hl : ∀ x ∈ l, Small x) :
  ∃ c, G59 std (encP l, ()) = some (encP c, ()) ∧ Cyc l c := by
 obtain ⟨l', hs, hp, ho⟩ := sort_o l h12
 have hlen : l'.length = l.length := hp.length_eq
 obtain ⟨L, m, hg, hL, hm, hu⟩ := G101_ok (l := l') ho (by omega)
 generalize hq : L.take m = q at hu
 have hql : q.length = m := by rw [← hq]; simp; omega
 have hqm : ∀ x, x ∈ q ↔ x ∈ l := fun x => (hu.2 x).trans hp.mem_iff
 have hqne : q ≠ [] := by
  rintro rfl
  match l, h1 with
  | a :: l, _ => have := (hqm a).2 (by simp); simp at this
 have hm1 : 1 ≤ m := by rw [← hql]; exact List.length_pos_iff.2 hqne
 have hqs : ∀ x ∈ q, Small x := fun x hx => hl x ((hqm x).1 hx)
 obtain ⟨hc, _⟩ := hull_cyc hqne hu.1 hqm
 refine ⟨hull q, ?_, hc⟩
 have e86 : g86 it0 std (encP l, ()) = some (encP L, (0 : Nat), m, l.length, ()) := by
  have c0 : (l.length : Int) ≥ 0 := by omega
  have c1 : (l.length : Int) ≤ (l.length : Int) := by omega
  have c2 : (l.length : Int) ≤ 1000000 := by omega
  have z : [D.int IntKind.i64 (0 : Int), D.int IntKind.i64 (0 : Int)] = eP (0, 0) := rfl
  have hg' : g101 it0 std (encP l', (0 : Nat), l.length, l.length, ()) = some (encP L, (0 : Nat), m, l.length, ()) := by
   have := hg
   rw [hlen] at this
   exact this
  have hs' : g97o it0 std (encP l, ()) = some (encP l', ()) := hs
  have hsp : List.take 0 (List.replicate l.length (eP (0, 0))) ++ encP l ++ List.drop (encP l).length (List.replicate l.length (eP (0, 0))) = encP l := by
   simp [encP_len]
  simp only [g86, stdS, stdL, encP_len, z, c0, c1, c2, Nat.le_refl, List.length_replicate]
  simp only [encP_len] at hsp
  simp only [hsp, hs', Option.bind_some, hg', encP_len, if_true]
 unfold G59
 have ht : (encP L).take m = encP q := by rw [← hq]; simp [encP]
 have cL : m ≤ L.length := by omega
 by_cases hm' : m = 1
 ·have c1 : (m : Int) = 1 := by omega
  simp only [g59, e86, stdS, stdL, c1, cL, encP_len, List.drop_zero, ht]
  rw [hull, if_pos (by omega)]
 ·have c1 : ¬ (m : Int) = 1 := by omega
  have g1 := G88_ok hqs (by omega) (by omega)
  have hqr : ∀ x ∈ q.reverse, Small x := fun x hx => hqs x (by simpa using hx)
  have g2 := G88_ok hqr (by simp; omega) (by simp; omega)
  rw [chain_chn] at g1 g2
  have hl2 := chn_len hu.1 (by omega)
  have g89 := G89_ok (L := L) (m := m) (cap := l.length) cL (by omega)
  obtain ⟨g1, g1a, g1b⟩ := g1
  obtain ⟨g2, g2a, g2b⟩ := g2
  unfold G88 at g1 g2
  unfold G89 at g89
  have ht2 : (encP ((L.take m).reverse ++ L.drop m)).take m = encP q.reverse := by
   rw [hq]
   have : (encP (q.reverse ++ L.drop m)) = encP q.reverse ++ encP (L.drop m) := by simp [encP]
   rw [this, List.take_append_of_le_length (by rw [encP_len]; simp; omega), List.take_of_length_le (by rw [encP_len]; simp; omega)]
  have cL2 : m ≤ ((L.take m).reverse ++ L.drop m).length := by simp; omega
  have n1 : ¬ ((chn q).length - 1 + ((chn q.reverse).length - 1) ≤ (chn q).length - 1) := by omega
  have n2 : (chn q.reverse).length - 1 ≤ (chn q.reverse).length := by omega
  have n3 : (chn q).length - 1 ≤ (chn q).length := by omega
  have n4 : 1 ≤ (chn q.reverse).length - 1 := by omega
  simp only [List.length_reverse] at g2b
  have n5 : (chn q).length - 1 + ((chn q.reverse).length - 1) ≤ 1000000 := by omega
  have hd : ∀ c : List Pt, (encP c).take (c.length - 1) = encP c.dropLast := by
   intro c; rw [List.dropLast_eq_take]; simp [encP]
  have hfin : ∀ a b : List Pt, encP a ++ encP b = encP (a ++ b) := by intros; simp [encP]
  have n6 : (chn q).length - 1 + ((chn q.reverse).length - 1) ≤ ((chn q).dropLast ++ (chn q.reverse).dropLast).length := by simp
  have htk : (encP ((chn q).dropLast ++ (chn q.reverse).dropLast)).take ((chn q).length - 1 + ((chn q.reverse).length - 1)) = encP ((chn q).dropLast ++ (chn q.reverse).dropLast) := by
   rw [List.take_of_length_le (by rw [encP_len]; simp)]
  simp only [g59, e86, stdS, stdL, c1, cL, encP_len, List.drop_zero, ht, g1, plain_encP, g89, ht2, cL2, g2, n1, n2, n3, n4, n5, hd, hfin, n6, htk]
  rw [hull, if_neg (by omega)]
end Go.Am
end
noncomputable section
namespace Go.Am
def ctr80 : Ctr :=
 ⟨80, [.list 2, .list 2], [], [(.ret, ⟨[(0, .list 2)], [], 1⟩)]⟩
def la80 : List LA :=
 [⟨80, [false, true, false, true, true], 0, ⟨⟨[(0, .list 2), (1, .list 2), (5, .bptr 0 0), (15, .full 1 1), (16, .int .i64), (17, .int .i64)], [.box [.vec 2 2], .row [(CK.list 2)], .row [ci, ci]], 82⟩, [((AX.exit 0), ⟨[(0, .list 2), (1, .list 2), (5, .bptr 0 0)], [.box [.vec 1 2], .row [ci, ci]], 82⟩)]⟩⟩,
 ⟨94, [false, true], 5, ⟨⟨[(0, .yld 4), (1, .bptr 3 0), (6, .list 2), (7, .int .i64), (8, .int .i64)], [.box [.vec 5 2], .row [(CK.list 2)], .dead, .box [.list 2], .loop Go.LoopState.ready Option.none 80 [Bool.false, Bool.true, Bool.true, Bool.false, Bool.false, Bool.true, Bool.true, Bool.false, Bool.false, Bool.true, Bool.false, Bool.true, Bool.true] 82 [(22, .clo 94 [] [.bptr 3 0]), (16, .int .i64), (15, .full 1 1), (5, .bptr 0 0), (1, .list 2), (0, .list 2), (17, .int .i64)], .row [ci, ci]], 33⟩, [(AX.ret, ⟨[], [.box [.vec 5 2], .row [(CK.list 2)], .dead, .box [.list 2], .loop Go.LoopState.ready Option.none 80 [Bool.false, Bool.true, Bool.true, Bool.false, Bool.false, Bool.true, Bool.true, Bool.false, Bool.false, Bool.true, Bool.false, Bool.true, Bool.true] 82 [(22, .clo 94 [] [.bptr 3 0]), (16, .int .i64), (15, .full 1 1), (5, .bptr 0 0), (1, .list 2), (0, .list 2), (17, .int .i64)], .row [ci, ci]], 33⟩), ((AX.exit 0), ⟨[], [.box [.vec 5 2], .row [(CK.list 2)], .dead, .box [.list 2], .loop Go.LoopState.ready Option.none 80 [Bool.false, Bool.true, Bool.true, Bool.false, Bool.false, Bool.true, Bool.true, Bool.false, Bool.false, Bool.true, Bool.false, Bool.true, Bool.true] 82 [(22, .clo 94 [] [.bptr 3 0]), (16, .int .i64), (15, .full 1 1), (5, .bptr 0 0), (1, .list 2), (0, .list 2), (17, .int .i64)], .row [ci, ci]], 33⟩)]⟩⟩,
 ⟨80, [false, true, false, true, true, true, true, true, true], 0, ⟨⟨[(5, .bptr 0 0), (9, .bptr 1 0), (10, .sl 2 2), (42, .vec 3 2), (43, .int .i64), (44, .int .i64)], [.box [.vec 3 2], .box [.int .i64, .int .i64], .row [ci, ci], .row [ci, ci]], 82⟩, [((AX.exit 4), ⟨[(10, .sl 0 2)], [.row [ci, ci]], 82⟩)]⟩⟩]
def ja80 : List JA :=
 [⟨80, [true, true, false, false, true, true, false, false, true, false, true, true], 0, [(AX.normal, ⟨[(0, .list 2), (1, .list 2), (5, .bptr 0 0), (15, .full 1 1), (16, .int .i64), (17, .int .i64)], [.box [.vec 2 2], .row [(CK.list 2)], .row [ci, ci]], 82⟩)]⟩,
 ⟨80, [false, true, true, false, false, true, false, true, true, true, true, true, true], 0, [(AX.normal, ⟨[(5, .bptr 0 0), (9, .bptr 1 0), (10, .sl 2 2), (42, .vec 3 2), (43, .int .i64), (44, .int .i64)], [.box [.vec 3 2], .box [.int .i64, .int .i64], .row [ci, ci], .row [ci, ci]], 82⟩)]⟩,
 ⟨80, [true, false, true, true, true, true, true, true, true], 0, [(AX.normal, ⟨[(10, .sl 0 2)], [.row [ci, ci]], 82⟩)]⟩]
def gam80 : List CF :=
 [⟨ctr98, G98⟩, ⟨ctr99, G99⟩, ⟨ctr97t, F97t⟩]
def an80 : Anns :=
 ⟨gam80, ja80, []⟩
def c80_3 (it : It) (p : Prim) : (LD × (LD × T30)) → Option ((LD × (LD × T30)) ⊕ (LD × T16)) :=
 fun a => opt.run _ (
 opt.ask _ (p.cmp .lss a.2.2.2.2.2.2.2.1 a.2.2.2.2.2.2.1) (
 opt.bnd ((LD × (LD × T30))) _ (
 opt.run ((LD × (LD × T30))) (
 opt.need _ (bif (p.cmp .geq a.2.2.2.2.2.2.2.1 (0 : Int)) then (p.cmp .lss a.2.2.2.2.2.2.2.1 (p.ofNat (p.len a.2.1))) else Bool.false) <|
 opt.need _ (p.rowOk a.2.1 (p.add 0 (p.nat a.2.2.2.2.2.2.2.1)) [ci, ci]) <|
 opt.need _ (p.and (p.leN (p.add 0 2) (p.len [[(D.int .i64 a.2.2.1), (D.int .i64 a.2.2.2.1)], [(D.int .i64 (p.rdI a.2.1 (p.add 0 (p.nat a.2.2.2.2.2.2.2.1)) 0)), (D.int .i64 (p.rdI a.2.1 (p.add 0 (p.nat a.2.2.2.2.2.2.2.1)) 1))]])) Bool.true) <|
 opt.bnd T4 _ (g99 it p ((p.cut [[(D.int .i64 a.2.2.1), (D.int .i64 a.2.2.2.1)], [(D.int .i64 (p.rdI a.2.1 (p.add 0 (p.nat a.2.2.2.2.2.2.2.1)) 0)), (D.int .i64 (p.rdI a.2.1 (p.add 0 (p.nat a.2.2.2.2.2.2.2.1)) 1))]] 0 2), ())) fun b =>
 opt.ask _ (p.cmp .lss (p.ar .add .i64 a.2.2.2.2.2.2.2.1 (1 : Int)) (p.ofNat (p.len a.2.1))) (
 opt.need _ (bif (p.cmp .geq (p.ar .add .i64 a.2.2.2.2.2.2.2.1 (1 : Int)) (0 : Int)) then (p.cmp .lss (p.ar .add .i64 a.2.2.2.2.2.2.2.1 (1 : Int)) (p.ofNat (p.len a.2.1))) else Bool.false) <|
 opt.need _ (p.rowOk a.2.1 (p.add 0 (p.nat (p.ar .add .i64 a.2.2.2.2.2.2.2.1 (1 : Int)))) [ci, ci]) <|
 opt.bnd T0 _ (G98 p ((p.rdI a.2.1 (p.add 0 (p.nat a.2.2.2.2.2.2.2.1)) 0), ((p.rdI a.2.1 (p.add 0 (p.nat a.2.2.2.2.2.2.2.1)) 1), ((p.rdI a.2.1 (p.add 0 (p.nat (p.ar .add .i64 a.2.2.2.2.2.2.2.1 (1 : Int)))) 0), ((p.rdI a.2.1 (p.add 0 (p.nat (p.ar .add .i64 a.2.2.2.2.2.2.2.1 (1 : Int)))) 1), ()))))) fun c =>
 opt.ask _ (p.cmp .eql c.1 (0 : Int)) (
 opt.need _ (p.eqN 0 0) <|
 opt.need _ (p.eqN (p.len a.2.1) (p.len a.2.1)) <|
 opt.need _ (p.eqN 0 0) <|
 opt.need _ (p.eqN (p.len a.2.1) (p.len a.2.1)) <|
 opt.ret _ (a.1, (a.2.1, (b.1, (b.2.1, (a.2.2.2.2.1, (a.2.2.2.2.2.1, (a.2.2.2.2.2.2.1, (a.2.2.2.2.2.2.2.1, ()))))))))) (
 opt.need _ (p.and (p.leN (p.add 0 1) (p.len [[(D.int .i64 b.1), (D.int .i64 b.2.1)]])) (p.and (p.leN (p.add a.2.2.2.2.1 a.2.2.2.2.2.1) (p.len a.1)) (p.and (p.leN 1 1) (p.leN (p.add a.2.2.2.2.2.1 1) 1000000)))) <|
 opt.need _ (p.eqN 0 0) <|
 opt.need _ (p.eqN (p.len a.2.1) (p.len a.2.1)) <|
 opt.need _ (p.eqN 0 0) <|
 opt.need _ (p.eqN (p.len a.2.1) (p.len a.2.1)) <|
 opt.ret _ ((p.app (p.cut a.1 a.2.2.2.2.1 a.2.2.2.2.2.1) (p.cut [[(D.int .i64 b.1), (D.int .i64 b.2.1)]] 0 1)), (a.2.1, (b.1, (b.2.1, (0, ((p.add a.2.2.2.2.2.1 1), (a.2.2.2.2.2.2.1, (a.2.2.2.2.2.2.2.1, ())))))))))) (
 opt.need _ (p.and (p.leN (p.add 0 1) (p.len [[(D.int .i64 b.1), (D.int .i64 b.2.1)]])) (p.and (p.leN (p.add a.2.2.2.2.1 a.2.2.2.2.2.1) (p.len a.1)) (p.and (p.leN 1 1) (p.leN (p.add a.2.2.2.2.2.1 1) 1000000)))) <|
 opt.need _ (p.eqN 0 0) <|
 opt.need _ (p.eqN (p.len a.2.1) (p.len a.2.1)) <|
 opt.need _ (p.eqN 0 0) <|
 opt.need _ (p.eqN (p.len a.2.1) (p.len a.2.1)) <|
 opt.ret _ ((p.app (p.cut a.1 a.2.2.2.2.1 a.2.2.2.2.2.1) (p.cut [[(D.int .i64 b.1), (D.int .i64 b.2.1)]] 0 1)), (a.2.1, (b.1, (b.2.1, (0, ((p.add a.2.2.2.2.2.1 1), (a.2.2.2.2.2.2.1, (a.2.2.2.2.2.2.2.1, ()))))))))))) fun d =>
 opt.need _ (p.eqN 0 0) <|
 opt.need _ (p.eqN (p.len d.2.1) (p.len d.2.1)) <|
 opt.need _ (p.eqN 0 0) <|
 opt.need _ (p.eqN (p.len d.2.1) (p.len d.2.1)) <|
 opt.ret _ (Sum.inl (d.1, (d.2.1, (d.2.2.1, (d.2.2.2.1, (d.2.2.2.2.1, (d.2.2.2.2.2.1, (d.2.2.2.2.2.2.1, ((p.ar .add .i64 d.2.2.2.2.2.2.2.1 (1 : Int)), ())))))))))) (
 opt.ret _ (Sum.inr (a.1, (a.2.2.2.2.1, (a.2.2.2.2.2.1, ()))))))
def b80_2 (p : Prim) : (LD × (LD × (LD × T62))) → Option ((LD × (LD × (LD × T62))) ⊕ ((LD × (LD × (LD × T23))) ⊕ (LD × (LD × (LD × T23))))) :=
 fun a => opt.run _ (
 opt.ask _ (p.cmp .lss a.2.2.2.2.2.2.2.2.2.1 a.2.2.2.2.2.2.2.2.1) (
 opt.need _ (p.rowOk a.2.2.2.2.2.2.2.1 (p.nat a.2.2.2.2.2.2.2.2.2.1) [ci, ci]) <|
 opt.need _ (p.cmp .geq a.2.2.2.2.2.2.2.2.2.1 (0 : Int)) <|
 opt.need _ (p.cmp .neq (p.ofNat (p.len a.2.2.1)) (0 : Int)) <|
 opt.need _ (p.rowOk a.2.2.1 (p.nat (p.ar .rem .i64 (p.ar .add .i64 a.2.2.2.2.2.2.2.2.2.1 (1 : Int)) (p.ofNat (p.len a.2.2.1)))) [ci, ci]) <|
 opt.need _ (p.cmp .geq (p.ar .rem .i64 (p.ar .add .i64 a.2.2.2.2.2.2.2.2.2.1 (1 : Int)) (p.ofNat (p.len a.2.2.1))) (0 : Int)) <|
 opt.ask _ (bif (p.cmp .eql (p.ar .sub .i64 (p.rdI a.2.2.1 (p.nat (p.ar .rem .i64 (p.ar .add .i64 a.2.2.2.2.2.2.2.2.2.1 (1 : Int)) (p.ofNat (p.len a.2.2.1)))) 0) (p.rdI a.2.2.2.2.2.2.2.1 (p.nat a.2.2.2.2.2.2.2.2.2.1) 0)) (0 : Int)) then (bif (p.cmp .eql (p.ar .sub .i64 (p.rdI a.2.2.1 (p.nat (p.ar .rem .i64 (p.ar .add .i64 a.2.2.2.2.2.2.2.2.2.1 (1 : Int)) (p.ofNat (p.len a.2.2.1)))) 1) (p.rdI a.2.2.2.2.2.2.2.1 (p.nat a.2.2.2.2.2.2.2.2.2.1) 1)) (0 : Int)) then Bool.true else Bool.false) else Bool.false) (
 opt.need _ (p.eqN 0 0) <|
 opt.need _ (p.eqN (p.len a.2.1) (p.len a.2.1)) <|
 opt.need _ (p.eqN 0 0) <|
 opt.need _ (p.eqN (p.len a.1) (p.len a.1)) <|
 opt.need _ (p.eqN (p.len a.1) (p.len a.1)) <|
 opt.ret _ (Sum.inr (Sum.inl (a.1, (a.2.1, (a.2.2.1, (a.2.2.2.1, (a.2.2.2.2.1, (a.2.2.2.2.2.1, (a.2.2.2.2.2.2.1, ())))))))))) (
 opt.need _ (p.and (p.leN (p.add 0 1) (p.len [[(D.int .i64 (p.ar .sub .i64 (p.rdI a.2.2.1 (p.nat (p.ar .rem .i64 (p.ar .add .i64 a.2.2.2.2.2.2.2.2.2.1 (1 : Int)) (p.ofNat (p.len a.2.2.1)))) 0) (p.rdI a.2.2.2.2.2.2.2.1 (p.nat a.2.2.2.2.2.2.2.2.2.1) 0))), (D.int .i64 (p.ar .sub .i64 (p.rdI a.2.2.1 (p.nat (p.ar .rem .i64 (p.ar .add .i64 a.2.2.2.2.2.2.2.2.2.1 (1 : Int)) (p.ofNat (p.len a.2.2.1)))) 1) (p.rdI a.2.2.2.2.2.2.2.1 (p.nat a.2.2.2.2.2.2.2.2.2.1) 1)))]])) (p.and (p.leN (p.add 0 (p.len a.2.1)) (p.len a.2.1)) (p.and (p.leN 1 1) (p.leN (p.add (p.len a.2.1) 1) 1000000)))) <|
 opt.need _ (p.eqN 0 0) <|
 opt.need _ (p.eqN (p.add (p.len a.2.1) 1) (p.len (p.app (p.cut a.2.1 0 (p.len a.2.1)) (p.cut [[(D.int .i64 (p.ar .sub .i64 (p.rdI a.2.2.1 (p.nat (p.ar .rem .i64 (p.ar .add .i64 a.2.2.2.2.2.2.2.2.2.1 (1 : Int)) (p.ofNat (p.len a.2.2.1)))) 0) (p.rdI a.2.2.2.2.2.2.2.1 (p.nat a.2.2.2.2.2.2.2.2.2.1) 0))), (D.int .i64 (p.ar .sub .i64 (p.rdI a.2.2.1 (p.nat (p.ar .rem .i64 (p.ar .add .i64 a.2.2.2.2.2.2.2.2.2.1 (1 : Int)) (p.ofNat (p.len a.2.2.1)))) 1) (p.rdI a.2.2.2.2.2.2.2.1 (p.nat a.2.2.2.2.2.2.2.2.2.1) 1)))]] 0 1)))) <|
 opt.need _ (p.eqN 0 0) <|
 opt.need _ (p.eqN (p.len a.1) (p.len a.1)) <|
 opt.need _ (p.eqN (p.len a.1) (p.len a.1)) <|
 opt.ret _ (Sum.inl (a.1, ((p.app (p.cut a.2.1 0 (p.len a.2.1)) (p.cut [[(D.int .i64 (p.ar .sub .i64 (p.rdI a.2.2.1 (p.nat (p.ar .rem .i64 (p.ar .add .i64 a.2.2.2.2.2.2.2.2.2.1 (1 : Int)) (p.ofNat (p.len a.2.2.1)))) 0) (p.rdI a.2.2.2.2.2.2.2.1 (p.nat a.2.2.2.2.2.2.2.2.2.1) 0))), (D.int .i64 (p.ar .sub .i64 (p.rdI a.2.2.1 (p.nat (p.ar .rem .i64 (p.ar .add .i64 a.2.2.2.2.2.2.2.2.2.1 (1 : Int)) (p.ofNat (p.len a.2.2.1)))) 1) (p.rdI a.2.2.2.2.2.2.2.1 (p.nat a.2.2.2.2.2.2.2.2.2.1) 1)))]] 0 1)), (a.2.2.1, (a.2.2.2.1, (a.2.2.2.2.1, (a.2.2.2.2.2.1, (a.2.2.2.2.2.2.1, (a.2.2.2.2.2.2.2.1, (a.2.2.2.2.2.2.2.2.1, ((p.ar .add .i64 a.2.2.2.2.2.2.2.2.2.1 (1 : Int)), ()))))))))))))) (
 opt.need _ (p.eqN 0 0) <|
 opt.need _ (p.eqN (p.len a.2.1) (p.len a.2.1)) <|
 opt.need _ (p.eqN 0 0) <|
 opt.need _ (p.eqN (p.len a.1) (p.len a.1)) <|
 opt.need _ (p.eqN (p.len a.1) (p.len a.1)) <|
 opt.ret _ (Sum.inr (Sum.inr (a.1, (a.2.1, (a.2.2.1, (a.2.2.2.1, (a.2.2.2.2.1, (a.2.2.2.2.2.1, (a.2.2.2.2.2.2.1, ())))))))))))
def c80_1 (it : It) (p : Prim) : (LD × (LD × (LD × (LD × T3)))) → Option ((LD × (LD × (LD × (LD × T3)))) ⊕ (LD × (LD × (LD × Unit)))) :=
 fun a => opt.run _ (
 opt.ask _ (p.cmp .lss a.2.2.2.2.2.1 a.2.2.2.2.1) (
 opt.need _ (bif (p.cmp .geq a.2.2.2.2.2.1 (0 : Int)) then (p.cmp .lss a.2.2.2.2.2.1 (p.ofNat (p.len a.1))) else Bool.false) <|
 opt.need _ (p.rowOk a.1 (p.add 0 (p.nat a.2.2.2.2.2.1)) [(CK.list 2)]) <|
 opt.bnd ((LD × (LD × (LD × (LD × T3))))) _ (
 opt.run ((LD × (LD × (LD × (LD × T3))))) (
 opt.need _ (p.eqN 0 0) <|
 opt.need _ (p.eqN (p.len a.2.1) (p.len a.2.1)) <|
 opt.need _ (p.eqN 0 0) <|
 opt.need _ (p.eqN (p.len a.1) (p.len a.1)) <|
 opt.need _ (p.eqN (p.len a.1) (p.len a.1)) <|
 opt.alt ((LD × (LD × (LD × T23)))) ((LD × (LD × (LD × T23)))) _ (
 it _ _ (b80_2 p) (a.1, (a.2.1, ((p.rdL a.1 (p.add 0 (p.nat a.2.2.2.2.2.1)) 0), (a.2.2.2.2.1, (a.2.2.2.1, (a.2.2.1, (a.2.2.2.2.2.1, ((p.rdL a.1 (p.add 0 (p.nat a.2.2.2.2.2.1)) 0), ((p.ofNat (p.len (p.rdL a.1 (p.add 0 (p.nat a.2.2.2.2.2.1)) 0))), ((0 : Int), ()))))))))))) (fun b =>
 opt.need _ (p.eqN 0 0) <|
 opt.need _ (p.eqN (p.len b.2.1) (p.len b.2.1)) <|
 opt.need _ (p.eqN 0 0) <|
 opt.need _ (p.eqN (p.len a.1) (p.len b.1)) <|
 opt.need _ (p.eqN (p.len a.1) (p.len b.1)) <|
 opt.ret _ (b.1, (b.2.1, (a.2.2.1, (a.2.2.2.1, (a.2.2.2.2.1, (a.2.2.2.2.2.1, ()))))))) (fun c =>
 opt.bnd ((LD × (LD × (LD × T23)))) _ (some c) fun d =>
 opt.need _ (p.eqN 0 0) <|
 opt.need _ (p.eqN (p.len d.2.1) (p.len d.2.1)) <|
 opt.need _ (p.eqN 0 0) <|
 opt.need _ (p.eqN (p.len a.1) (p.len d.1)) <|
 opt.need _ (p.eqN (p.len a.1) (p.len d.1)) <|
 opt.ret _ (d.1, (d.2.1, (a.2.2.1, (a.2.2.2.1, (a.2.2.2.2.1, (a.2.2.2.2.2.1, ()))))))))) fun e =>
 opt.need _ (p.eqN 0 0) <|
 opt.need _ (p.eqN (p.len e.2.1) (p.len e.2.1)) <|
 opt.need _ (p.eqN 0 0) <|
 opt.need _ (p.eqN (p.len e.1) (p.len e.1)) <|
 opt.need _ (p.eqN (p.len e.1) (p.len e.1)) <|
 opt.ret _ (Sum.inl (e.1, (e.2.1, (e.2.2.1, (e.2.2.2.1, (e.2.2.2.2.1, ((p.ar .add .i64 e.2.2.2.2.2.1 (1 : Int)), ())))))))) (
 opt.need _ (p.eqN 0 0) <|
 opt.need _ (p.eqN (p.len a.2.1) (p.len a.2.1)) <|
 opt.ret _ (Sum.inr (a.2.1, (a.2.2.1, (a.2.2.2.1, ()))))))
def g80 (it : It) : (p : Prim) → (LD × (LD × Unit)) → Option ((LD × Unit)) :=
 fun p x =>
 opt.need _ (p.eqN 0 0) <|
 opt.need _ (p.eqN 2 (p.len [[(D.list Bool.false 2 x.1)], [(D.list Bool.false 2 x.2.1)]])) <|
 opt.need _ (p.eqN 2 (p.len [[(D.list Bool.false 2 x.1)], [(D.list Bool.false 2 x.2.1)]])) <|
 opt.bnd ((LD × (LD × (LD × Unit)))) _ (
 it _ _ (c80_1 it p) ([[(D.list Bool.false 2 x.1)], [(D.list Bool.false 2 x.2.1)]], ([], (x.1, (x.2.1, ((p.ofNat 2), ((0 : Int), ()))))))) fun a =>
 opt.need _ (p.eqN 0 0) <|
 opt.need _ (p.eqN (p.len a.1) (p.len a.1)) <|
 opt.bnd ((LD × Unit)) _ (g97t it p (a.1, ())) fun b =>
 opt.need _ (p.rowOk a.2.1 (p.nat (0 : Int)) [ci, ci]) <|
 opt.need _ (p.rowOk a.2.2.1 (p.nat (0 : Int)) [ci, ci]) <|
 opt.need _ (p.and (p.leN (p.add 0 2) (p.len [[(D.int .i64 (p.rdI a.2.1 (p.nat (0 : Int)) 0)), (D.int .i64 (p.rdI a.2.1 (p.nat (0 : Int)) 1))], [(D.int .i64 (p.rdI a.2.2.1 (p.nat (0 : Int)) 0)), (D.int .i64 (p.rdI a.2.2.1 (p.nat (0 : Int)) 1))]])) Bool.true) <|
 opt.bnd T4 _ (g99 it p ((p.cut [[(D.int .i64 (p.rdI a.2.1 (p.nat (0 : Int)) 0)), (D.int .i64 (p.rdI a.2.1 (p.nat (0 : Int)) 1))], [(D.int .i64 (p.rdI a.2.2.1 (p.nat (0 : Int)) 0)), (D.int .i64 (p.rdI a.2.2.1 (p.nat (0 : Int)) 1))]] 0 2), ())) fun c =>
 opt.need _ (p.eqN 0 0) <|
 opt.need _ (p.eqN (p.len a.1) (p.len b.1)) <|
 opt.need _ (p.leN (p.add 0 1) (p.len [[(D.int .i64 c.1), (D.int .i64 c.2.1)]])) <|
 opt.need _ (p.eqN 0 0) <|
 opt.need _ (p.eqN (p.len a.1) (p.len b.1)) <|
 opt.bnd ((LD × T16)) _ (
 it _ _ (c80_3 it p) ([[(D.int .i64 c.1), (D.int .i64 c.2.1)]], (b.1, (c.1, (c.2.1, (0, (1, ((p.ofNat (p.len a.1)), ((0 : Int), ()))))))))) fun d =>
 opt.bnd ((LD × T16)) _ (
 opt.run ((LD × T16)) (
 opt.ask _ (p.cmp .gtr (p.ofNat d.2.2.1) (1 : Int)) (
 opt.need _ (p.and (p.cmp .geq (0 : Int) (0 : Int)) (p.and (p.cmp .leq (0 : Int) (p.ar .sub .i64 (p.ofNat d.2.2.1) (1 : Int))) (p.cmp .leq (p.ar .sub .i64 (p.ofNat d.2.2.1) (1 : Int)) (p.ofNat d.2.2.1)))) <|
 opt.ret _ (d.1, ((p.add d.2.1 (p.nat (0 : Int))), ((p.sub (p.nat (p.ar .sub .i64 (p.ofNat d.2.2.1) (1 : Int))) (p.nat (0 : Int))), ())))) (
 opt.ret _ (d.1, (d.2.1, (d.2.2.1, ())))))) fun e =>
 opt.need _ (p.leN (p.add e.2.1 e.2.2.1) (p.len e.1)) <|
 opt.ret _ ((p.cut e.1 e.2.1 e.2.2.1), ())
def G80 := g80 it0
theorem ok80 : CtrOk PG ctr80 (G80 std) := okF (a := an80) (l := la80) (gC ok98 (gC ok99 (gC ok97t (gN)))) (by kernel_rfl) fun _ _ => by kernel_rfl
end Go.Am
end
noncomputable section
namespace Go.Am
def ctr48 : Ctr :=
 ⟨48, [.agg [.list 2, .list 1]], [], [(.ret, ⟨[(0, .tuple [.nilp, .int .i64])], [], 1⟩), (.ret, ⟨[(0, .tuple [.bptr 0 0, .int .i64])], [.box [.list 2, .list 1, .list 2]], 1⟩)]⟩
def la48 : List LA :=
 [⟨48, [false, true, false, true, true, true], 0, ⟨⟨[(5, .bptr 0 0), (24, .list 1), (25, .int .i64), (26, .int .i64)], [.box [.list 2, .list 1, .list 2]], 43⟩, [((AX.exit 0), ⟨[(5, .bptr 0 0)], [.box [.list 2, .list 1, .list 2]], 43⟩)]⟩⟩]
def ja48 : List JA :=
 []
def gam48 : List CF :=
 [⟨ctr80, G80⟩, ⟨ctr59, G59⟩, ⟨ctr60, G60⟩, ⟨ctr18, G18⟩]
def an48 : Anns :=
 ⟨gam48, ja48, []⟩
def c48_1 (it : It) (p : Prim) : (LD × (LD × (LD × (LD × T3)))) → Option ((LD × (LD × (LD × (LD × T3)))) ⊕ (LD × (LD × (LD × Unit)))) :=
 fun a => opt.run _ (
 opt.ask _ (p.cmp .lss a.2.2.2.2.2.1 a.2.2.2.2.1) (
 opt.need _ (p.rowOk a.2.2.2.1 (p.nat a.2.2.2.2.2.1) [(CK.list 2)]) <|
 opt.need _ (p.cmp .geq a.2.2.2.2.2.1 (0 : Int)) <|
 opt.bnd ((LD × Unit)) _ (g60 it p ((p.rdL a.2.2.2.1 (p.nat a.2.2.2.2.2.1) 0), ())) fun b =>
 opt.bnd ((LD × Unit)) _ (g59 it p (b.1, ())) fun c =>
 opt.bnd ((LD × Unit)) _ (g80 it p (a.2.2.1, (c.1, ()))) fun d =>
 opt.ret _ (Sum.inl (a.1, (a.2.1, (d.1, (a.2.2.2.1, (a.2.2.2.2.1, ((p.ar .add .i64 a.2.2.2.2.2.1 (1 : Int)), ())))))))) (
 opt.ret _ (Sum.inr (a.1, (a.2.1, (a.2.2.1, ()))))))
def g48 (it : It) : (p : Prim) → (LD × (LD × Unit)) → Option (((Int × Unit) ⊕ (LD × (LD × (LD × (Int × Unit)))))) :=
 fun p x =>
 opt.bnd T0 _ (g18 it p (x.1, (x.2.1, ()))) fun a =>
 opt.ask _ (p.cmp .neq a.1 (0 : Int)) (
 opt.ret _ (Sum.inl (a.1, ()))) (
 opt.bnd ((LD × Unit)) _ (g60 it p (x.1, ())) fun b =>
 opt.bnd ((LD × Unit)) _ (g59 it p (b.1, ())) fun c =>
 opt.bnd ((LD × (LD × (LD × Unit)))) _ (
 it _ _ (c48_1 it p) (x.1, (x.2.1, (c.1, (x.2.1, ((p.ofNat (p.len x.2.1)), ((0 : Int), ()))))))) fun d =>
 opt.ret _ (Sum.inr (d.1, (d.2.1, (d.2.2.1, ((0 : Int), ()))))))
def G48 := g48 it0
theorem ok48 : CtrOk PG ctr48 (G48 std) := okF (a := an48) (l := la48) (gC ok80 (gC ok59 (gC ok60 (gC ok18 (gN))))) (by kernel_rfl) fun _ _ => by kernel_rfl
def ctr16 : Ctr :=
 ⟨16, [.agg [.list 2, .list 1]], [], [(.ret, ⟨[(0, .tuple [.vec 0 2, .int .i64])], [.row [ci, ci]], 1⟩)]⟩
def la16 : List LA :=
 [⟨16, [false, true, false, true, true, true, true], 0, ⟨⟨[(6, .vec 0 2), (20, .list 2), (21, .int .i64), (22, .int .i64)], [.row [ci, ci]], 36⟩, [((AX.exit 0), ⟨[(6, .vec 0 2)], [.row [ci, ci]], 36⟩)]⟩⟩]
def ja16 : List JA :=
 []
def gam16 : List CF :=
 [⟨ctr48, G48⟩]
def an16 : Anns :=
 ⟨gam16, ja16, []⟩
def b16_1 (p : Prim) : (LD × (LD × T3)) → Option ((LD × (LD × T3)) ⊕ (LD × Unit)) :=
 fun a => opt.run _ (
 opt.ask _ (p.cmp .lss a.2.2.2.1 a.2.2.1) (
 opt.need _ (p.rowOk a.2.1 (p.nat a.2.2.2.1) [ci, ci]) <|
 opt.need _ (p.cmp .geq a.2.2.2.1 (0 : Int)) <|
 opt.need _ (p.and (p.leN (p.add 0 1) (p.len [[(D.int .i64 (p.rdI a.2.1 (p.nat a.2.2.2.1) 0)), (D.int .i64 (p.rdI a.2.1 (p.nat a.2.2.2.1) 1))]])) (p.and (p.leN (p.add 0 (p.len a.1)) (p.len a.1)) (p.and (p.leN 1 1) (p.leN (p.add (p.len a.1) 1) 1000000)))) <|
 opt.need _ (p.eqN 0 0) <|
 opt.need _ (p.eqN (p.add (p.len a.1) 1) (p.len (p.app (p.cut a.1 0 (p.len a.1)) (p.cut [[(D.int .i64 (p.rdI a.2.1 (p.nat a.2.2.2.1) 0)), (D.int .i64 (p.rdI a.2.1 (p.nat a.2.2.2.1) 1))]] 0 1)))) <|
 opt.ret _ (Sum.inl ((p.app (p.cut a.1 0 (p.len a.1)) (p.cut [[(D.int .i64 (p.rdI a.2.1 (p.nat a.2.2.2.1) 0)), (D.int .i64 (p.rdI a.2.1 (p.nat a.2.2.2.1) 1))]] 0 1)), (a.2.1, (a.2.2.1, ((p.ar .add .i64 a.2.2.2.1 (1 : Int)), ())))))) (
 opt.need _ (p.eqN 0 0) <|
 opt.need _ (p.eqN (p.len a.1) (p.len a.1)) <|
 opt.ret _ (Sum.inr (a.1, ()))))
def g16 (it : It) : (p : Prim) → (LD × (LD × Unit)) → Option ((LD × T1)) :=
 fun p x =>
 opt.alt T0 ((LD × (LD × (LD × T1)))) _ (g48 it p (x.1, (x.2.1, ()))) (fun a =>
 opt.ask _ (p.cmp .neq a.1 (0 : Int)) (
 opt.ret _ ([], (a.1, ()))) (
 opt.no _ 41)) (fun b =>
 opt.bnd ((LD × (LD × (LD × T1)))) _ (some b) fun c =>
 opt.ask _ (p.cmp .neq c.2.2.2.1 (0 : Int)) (
 opt.ret _ ([], (c.2.2.2.1, ()))) (
 opt.bnd ((LD × Unit)) _ (
 it _ _ (b16_1 p) ([], (c.2.2.1, ((p.ofNat (p.len c.2.2.1)), ((0 : Int), ()))))) fun d =>
 opt.need _ (p.eqN 0 0) <|
 opt.need _ (p.eqN (p.len d.1) (p.len d.1)) <|
 opt.ret _ (d.1, ((0 : Int), ()))))
def G16 := g16 it0
theorem ok16 : CtrOk PG ctr16 (G16 std) := okF (a := an16) (l := la16) (gC ok48 (gN)) (by kernel_rfl) fun _ _ => by kernel_rfl
def ctr62 : Ctr :=
 ⟨62, [.agg [.list 2, .list 1], .agg [.list 2, .list 1]], [], [(.ret, ⟨[(0, .tuple [.nilp, .nilp, .int .i64])], [], 1⟩), (.ret, ⟨[(0, .tuple [.nilp, .bptr 0 0, .int .i64])], [.box [.list 2, .list 1, .list 2]], 1⟩), (.ret, ⟨[(0, .tuple [.bptr 0 0, .nilp, .int .i64])], [.box [.list 2, .list 1, .list 2]], 1⟩), (.ret, ⟨[(0, .tuple [.bptr 0 0, .bptr 1 0, .int .i64])], [.box [.list 2, .list 1, .list 2], .box [.list 2, .list 1, .list 2]], 1⟩)]⟩
def la62 : List LA :=
 []
def ja62 : List JA :=
 []
def gam62 : List CF :=
 [⟨ctr48, G48⟩]
def an62 : Anns :=
 ⟨gam62, ja62, []⟩
def g62 (it : It) : (p : Prim) → (LD × (LD × (LD × (LD × Unit)))) → Option (((Int × Unit) ⊕ ((LD × (LD × (LD × (Int × Unit)))) ⊕ ((LD × (LD × (LD × (Int × Unit)))) ⊕ (LD × (LD × (LD × (LD × (LD × (LD × (Int × Unit))))))))))) :=
 fun p x =>
 opt.alt T0 ((LD × (LD × (LD × T1)))) _ (g48 it p (x.1, (x.2.1, ()))) (fun a =>
 opt.ask _ (p.cmp .neq a.1 (0 : Int)) (
 opt.ret _ (Sum.inl (a.1, ()))) (
 opt.alt T0 ((LD × (LD × (LD × T1)))) _ (g48 it p (x.2.2.1, (x.2.2.2.1, ()))) (fun b =>
 opt.ret _ (Sum.inl (b.1, ()))) (fun c =>
 opt.bnd ((LD × (LD × (LD × T1)))) _ (some c) fun d =>
 opt.ret _ (Sum.inr (Sum.inl (d.1, (d.2.1, (d.2.2.1, (d.2.2.2.1, ()))))))))) (fun e =>
 opt.bnd ((LD × (LD × (LD × T1)))) _ (some e) fun f =>
 opt.ask _ (p.cmp .neq f.2.2.2.1 (0 : Int)) (
 opt.ret _ (Sum.inl (f.2.2.2.1, ()))) (
 opt.alt T0 ((LD × (LD × (LD × T1)))) _ (g48 it p (x.2.2.1, (x.2.2.2.1, ()))) (fun g =>
 opt.ret _ (Sum.inr (Sum.inr (Sum.inl (f.1, (f.2.1, (f.2.2.1, (g.1, ())))))))) (fun h =>
 opt.bnd ((LD × (LD × (LD × T1)))) _ (some h) fun i =>
 opt.ret _ (Sum.inr (Sum.inr (Sum.inr (f.1, (f.2.1, (f.2.2.1, (i.1, (i.2.1, (i.2.2.1, (i.2.2.2.1, ())))))))))))))
def G62 := g62 it0
theorem ok62 : CtrOk PG ctr62 (G62 std) := okF (a := an62) (l := la62) (gC ok48 (gN)) (by kernel_rfl) fun _ _ => by kernel_rfl
end Go.Am
end
section
namespace Go.Am
open M06
theorem back_ng {x : Pt} (h : x ≠ (0, 0)) : (backC x = false ↔ Pos x) ∧ (backC x = true ↔ Pos (ng x)) := back_pos h
theorem turn_bef {x y : Pt} (hx : x ≠ (0, 0)) (hy : y ≠ (0, 0)) : turnC x y < 0 ↔ Bef x y := by
 rw [turnC_neg]
 obtain ⟨a1, a2⟩ := back_ng hx
 obtain ⟨b1, b2⟩ := back_ng hy
 unfold Bef
 rw [← a1, ← a2, ← b1, ← b2]
 cases backC x <;> cases backC y <;> simp
theorem turn_same {x y : Pt} (hx : x ≠ (0, 0)) (hy : y ≠ (0, 0)) : turnC x y = 0 ↔ Same x y := by
 have e1 := turn_bef hx hy
 constructor
 ·intro h
  rcases dir_tri hx hy with k | k | k
  ·have := e1.2 k; omega
  ·exact k
  ·
   exfalso
   obtain ⟨a1, a2⟩ := back_ng hx
   obtain ⟨b1, b2⟩ := back_ng hy
   unfold turnC cmpZ at h
   rcases k with k | k | k
   ·have i1 := a2.2 k.2
    have i2 := b1.2 k.1
    simp [i1, i2] at h
   ·have i1 := a1.2 k.2.1
    have i2 := b1.2 k.1
    have := k.2.2
    simp only [crs] at this
    have q1 : ¬ (0 < x.1 * y.2 - x.2 * y.1) := by have := Int.mul_comm x.1 y.2; have := Int.mul_comm x.2 y.1; omega
    have q2 : (0 : Int) > x.1 * y.2 - x.2 * y.1 := by have := Int.mul_comm x.1 y.2; have := Int.mul_comm x.2 y.1; omega
    rw [if_neg (by rw [i1, i2]; simp), if_neg (by rw [i1, i2]; simp), if_neg q1, if_pos q2] at h
    cases h
   ·have i1 := a2.2 k.2.1
    have i2 := b2.2 k.1
    have := k.2.2
    simp only [crs] at this
    have q1 : ¬ (0 < x.1 * y.2 - x.2 * y.1) := by have := Int.mul_comm x.1 y.2; have := Int.mul_comm x.2 y.1; omega
    have q2 : (0 : Int) > x.1 * y.2 - x.2 * y.1 := by have := Int.mul_comm x.1 y.2; have := Int.mul_comm x.2 y.1; omega
    rw [if_neg (by rw [i1, i2]; simp), if_neg (by rw [i1, i2]; simp), if_neg q1, if_pos q2] at h
    cases h
 ·intro h
  obtain ⟨a1, a2⟩ := back_ng hx
  obtain ⟨b1, b2⟩ := back_ng hy
  have hb : backC x = backC y := by
   rcases pos_tri x hx with p | p
   ·rw [a1.2 p, b1.2 (pos_same h p)]
   ·rw [a2.2 p, b2.2 (pos_same (same_ng h) p)]
  have := h.1
  simp only [crs] at this
  unfold turnC cmpZ
  rw [hb, this]
  cases backC y <;> simp
theorem G99_ok {x y : Pt} (hx : Small x) (hy : Small y) : G99 std ([eP x, eP y], ()) = some ((ad x y).1, (ad x y).2, ()) := by
 have inner : ∀ (u v o1 o2 q1 q2 n i : Int) (L : List (List D)), -2097152 ≤ o1 → o1 ≤ 2097152 → -2097152 ≤ o2 → o2 ≤ 2097152 → -2097152 ≤ q1 → q1 ≤ 2097152 → -2097152 ≤ q2 → q2 ≤ 2097152 →
   iter (b99_2 std) (u, v, o1, o2, L, n, i, q1, q2, (0 : Int), ()) = some (u, v, o1 + q1, o2 + q2, L, n, i, ()) := by
  intro u v o1 o2 q1 q2 n i L h1 h2 h3 h4 h5 h6 h7 h8
  have w1 : IntKind.i64.wrap (o1 + q1) = o1 + q1 := by rw [wrap64] <;> omega
  have w2 : IntKind.i64.wrap (o2 + q2) = o2 + q2 := by rw [wrap64] <;> omega
  have v1 : IntKind.i64.wrap 1 = 1 := by decide
  have v2 : IntKind.i64.wrap 2 = 2 := by decide
  have s0 : b99_2 std (u, v, o1, o2, L, n, i, q1, q2, (0 : Int), ()) = some (.inl (u, v, o1 + q1, o2, L, n, i, q1, q2, (1 : Int), ())) := by
   simp [b99_2, stdS, stdL, std_ar_add, w1, v1]
  have s1 : b99_2 std (u, v, o1 + q1, o2, L, n, i, q1, q2, (1 : Int), ()) = some (.inl (u, v, o1 + q1, o2 + q2, L, n, i, q1, q2, (2 : Int), ())) := by
   simp [b99_2, stdS, stdL, std_ar_add, w2, v2]
  have s2 : b99_2 std (u, v, o1 + q1, o2 + q2, L, n, i, q1, q2, (2 : Int), ()) = some (.inr (u, v, o1 + q1, o2 + q2, L, n, i, ())) := by
   simp [b99_2, stdS, stdL]
  rw [iter_unfold, s0]
  simp only
  rw [iter_unfold, s1]
  simp only
  rw [iter_unfold, s2]
 obtain ⟨x1, x2, x3, x4⟩ := hx
 obtain ⟨y1, y2, y3, y4⟩ := hy
 have v1 : IntKind.i64.wrap ((0 : Int) + 1) = 1 := by decide
 have v2 : IntKind.i64.wrap ((1 : Int) + 1) = 2 := by decide
 have t0 : c99_1 it0 std ((0 : Int), (0 : Int), (0 : Int), (0 : Int), [eP x, eP y], (2 : Int), (0 : Int), ()) = some (.inl ((0 : Int), (0 : Int), x.1, x.2, [eP x, eP y], (2 : Int), (1 : Int), ())) := by
  have := inner 0 0 0 0 x.1 x.2 2 0 [eP x, eP y] (by omega) (by omega) (by omega) (by omega) (by omega) (by omega) (by omega) (by omega)
  simp only [Int.zero_add] at this
  have e1 : std.rdI [eP x, eP y] 0 0 = x.1 := rfl
  have e2 : std.rdI [eP x, eP y] 0 1 = x.2 := rfl
  have c1 : (0 : Int) < 2 := by omega
  simp only [c99_1, it0_eq, need_eq, ask_eq, ret_eq, bnd_eq, run_eq, std_lss, std_nat, Int.toNat_zero, e1, e2, this, Option.bind_some, std_ar_add, v1, c1, decide_true, if_true, std_rowOk]
  rfl
 have t1 : c99_1 it0 std ((0 : Int), (0 : Int), x.1, x.2, [eP x, eP y], (2 : Int), (1 : Int), ()) = some (.inl ((0 : Int), (0 : Int), x.1 + y.1, x.2 + y.2, [eP x, eP y], (2 : Int), (2 : Int), ())) := by
  have := inner 0 0 x.1 x.2 y.1 y.2 2 1 [eP x, eP y] (by omega) (by omega) (by omega) (by omega) (by omega) (by omega) (by omega) (by omega)
  have e1 : std.rdI [eP x, eP y] 1 0 = y.1 := rfl
  have e2 : std.rdI [eP x, eP y] 1 1 = y.2 := rfl
  have e3 : (1 : Int).toNat = 1 := rfl
  have c1 : (1 : Int) < 2 := by omega
  simp only [c99_1, it0_eq, need_eq, ask_eq, ret_eq, bnd_eq, run_eq, std_lss, std_nat, e3, e1, e2, this, Option.bind_some, std_ar_add, v2, c1, decide_true, if_true, std_rowOk]
  rfl
 have t2 : c99_1 it0 std ((0 : Int), (0 : Int), x.1 + y.1, x.2 + y.2, [eP x, eP y], (2 : Int), (2 : Int), ()) = some (.inr ((0 : Int), (0 : Int), x.1 + y.1, x.2 + y.2, ())) := by
  have c1 : ¬ (2 : Int) < 2 := by omega
  simp only [c99_1, it0_eq, need_eq, ask_eq, ret_eq, bnd_eq, run_eq, std_lss, c1, decide_false, Bool.false_eq_true, if_false]
 unfold G99
 have e2 : std.ofNat (std.len [eP x, eP y]) = (2 : Int) := rfl
 simp only [g99, it0_eq, e2, bnd_eq, ret_eq]
 rw [iter_unfold, t0]
 simp only
 rw [iter_unfold, t1]
 simp only
 rw [iter_unfold, t2]
 rfl
end Go.Am
end
section
namespace Go.Am
open M06
theorem ways_len : ∀ l : List Pt, (M06.ways l).length = l.length - 1
 | [] => rfl
 | [_] => rfl
 | a :: b :: l => by simp only [M06.ways, List.length_cons, ways_len (b :: l)]; omega
theorem ways_get : ∀ (l : List Pt) (i : Nat) (x y : Pt), l[i]? = some x → l[i + 1]? = some y → (M06.ways l)[i]? = some (sb y x)
 | [], i, x, y, h, _ => by simp at h
 | [a], i, x, y, _, h => by simp at h
 | a :: b :: l, 0, x, y, h1, h2 => by
  simp at h1 h2; subst h1; subst h2; rfl
 | a :: b :: l, i + 1, x, y, h1, h2 => by
  have := ways_get (b :: l) i x y (by simpa using h1) (by simpa using h2)
  simpa [M06.ways] using this
theorem wy_len {c : List Pt} (h : 2 ≤ c.length) : (wy c).length = c.length := by
 match c, h with
 | a :: b :: r, _ => simp [wy, ways_len]
theorem wy_len_le (c : List Pt) : (wy c).length ≤ c.length := by
 match c with
 | [] => simp [wy]
 | [a] => simp [wy]
 | a :: b :: r => simp [wy, ways_len]
theorem wy_get {c : List Pt} {i : Nat} {x y : Pt} (h2 : 2 ≤ c.length) (hx : c[i]? = some x) (hy : c[(i + 1) % c.length]? = some y) : (wy c)[i]? = some (sb y x) := by
 match c, h2 with
 | a :: b :: r, _ =>
  have hi : i < (a :: b :: r).length := (List.getElem?_eq_some_iff.1 hx).1
  refine ways_get _ i x y ?_ ?_
  ·rw [List.getElem?_append_left hi]; exact hx
  ·by_cases hl : i + 1 < (a :: b :: r).length
   ·rw [List.getElem?_append_left hl]
    rwa [Nat.mod_eq_of_lt hl] at hy
   ·have he : i + 1 = (a :: b :: r).length := by omega
    rw [he, Nat.mod_self] at hy
    rw [List.getElem?_append_right (by omega), he]
    simp at hy ⊢; exact hy
theorem cyc_two_ne {S c : List Pt} (h : Cyc S c) (h2 : 2 ≤ c.length) : ∀ w ∈ wy c, w ≠ (0, 0) := by
 match c, h2, h with
 | a :: b :: r, _, h => exact (cyc_walk h).2.2.1
theorem mod_int {i n : Nat} (hn : 0 < n) (hi : i < 1000000) : IntKind.i64.wrap ((i : Int) + 1) = ((i + 1 : Nat) : Int) ∧ (((i + 1 : Nat) : Int).tmod (n : Int)) = (((i + 1) % n : Nat) : Int) := by
 refine ⟨wrap_nat (by omega), ?_⟩
 rw [Int.tmod_eq_emod_of_nonneg (by omega)]
 rfl
theorem sub_small {x y : Pt} (hx : Small x) (hy : Small y) : IntKind.i64.wrap (x.1 - y.1) = (sb x y).1 ∧ IntKind.i64.wrap (x.2 - y.2) = (sb x y).2 := by
 obtain ⟨x1, x2, x3, x4⟩ := hx
 obtain ⟨y1, y2, y3, y4⟩ := hy
 exact ⟨wrap64 _ (by omega) (by omega), wrap64 _ (by omega) (by omega)⟩
theorem ways_loop {S c : List Pt} (hc : Cyc S c) (hs : ∀ x ∈ c, Small x) (hl : c.length ≤ 1000) (o : List Pt) (ho : o.length ≤ 1000) (Ls X Y : List (List D)) (n i : Int) :
  iter (b80_2 std) (Ls, encP o, encP c, n, X, Y, i, encP c, (c.length : Int), (0 : Int), ()) = some (.inl (Ls, encP (o ++ wy c), encP c, n, X, Y, i, ())) ∨
  iter (b80_2 std) (Ls, encP o, encP c, n, X, Y, i, encP c, (c.length : Int), (0 : Int), ()) = some (.inr (Ls, encP (o ++ wy c), encP c, n, X, Y, i, ())) := by
 by_cases h2 : 2 ≤ c.length
 ·right
  have hnz := cyc_two_ne hc h2
  have hwl := wy_len h2
  have key := iter_to (b := b80_2 std) (fun (j : Nat) => (Ls, encP (o ++ (wy c).take j), encP c, n, X, Y, i, encP c, (c.length : Int), (j : Int), ())) (fun j => j ≤ c.length) (fun j => c.length - j) (fun _ => Sum.inr (Ls, encP (o ++ wy c), encP c, n, X, Y, i, ())) (fun j hj => by
   by_cases hlt : j < c.length
   ·left
    obtain ⟨x, hx⟩ := get_some hlt
    obtain ⟨y, hy⟩ := get_some (l := c) (i := (j + 1) % c.length) (Nat.mod_lt _ (by omega))
    have hw := wy_get h2 hx hy
    have hne := hnz _ (List.mem_of_getElem? hw)
    obtain ⟨m1, m2⟩ := mod_int (i := j) (n := c.length) (by omega) (by omega)
    have gx := encP_get hx
    have gy := encP_get hy
    obtain ⟨d1, d2⟩ := sub_small (hs y (List.mem_of_getElem? hy)) (hs x (List.mem_of_getElem? hx))
    have c1 : (j : Int) < (c.length : Int) := by omega
    have c2 : (j : Int) ≥ 0 := by omega
    have c3 : ¬ (c.length : Int) = 0 := by omega
    have c4 : (((j + 1) % c.length : Nat) : Int) ≥ 0 := by omega
    have c5 : (((j + 1) % c.length : Nat) : Int) < (c.length : Int) := by have := Nat.mod_lt (j + 1) (show 0 < c.length by omega); omega
    have hol2 : (o ++ (wy c).take (j + 1)).length ≤ 1000000 := by simp; omega
    have hol : (o ++ (wy c).take j).length + 1 ≤ 1000000 := by simp; omega
    have htk : (encP (o ++ (wy c).take j)).take (o ++ (wy c).take j).length = encP (o ++ (wy c).take j) := by rw [List.take_of_length_le (by rw [encP_len]; omega)]
    have hap : encP (o ++ (wy c).take j) ++ [eP (sb y x)] = encP (o ++ (wy c).take (j + 1)) := by
     rw [take_succ_some hw]; simp [encP]
    have hrow : [D.int IntKind.i64 (sb y x).1, D.int IntKind.i64 (sb y x).2] = eP (sb y x) := rfl
    have hal : (o ++ (wy c).take j).length + 1 = (o ++ (wy c).take (j + 1)).length := by rw [take_succ_some hw]; simp; omega
    have hne' : ¬ ((sb y x).1 = 0 ∧ (sb y x).2 = 0) := fun e => hne (Prod.ext e.1 e.2)
    refine ⟨j + 1, ?_, by omega, by omega, rfl⟩
    by_cases z1 : (sb y x).1 = 0
    ·have z2 : ¬ (sb y x).2 = 0 := fun e => hne' ⟨z1, e⟩
     simp only [b80_2, stdS, stdL, cells_eP, dI_eP0, dI_eP1, eP_eq, encP_set, encP_len, std_ar_add, std_ar_rem, std_ar_sub, m1, m2, gx, gy, d1, d2, c1, c2, c3, c4, c5, z1, z2, htk, hol2, List.drop_zero, List.take_succ_cons, List.take_zero, hap, hrow, hal, Nat.le_refl, not_false_eq_true]
     rw [← z1]
     simp only [stdS, stdL, cells_eP, dI_eP0, dI_eP1, eP_eq, encP_set, encP_len, hap, hrow, hal, hol2, Nat.le_refl]
    ·simp only [b80_2, stdS, stdL, cells_eP, dI_eP0, dI_eP1, eP_eq, encP_set, encP_len, std_ar_add, std_ar_rem, std_ar_sub, m1, m2, gx, gy, d1, d2, c1, c2, c3, c4, c5, z1, htk, hol2, List.drop_zero, List.take_succ_cons, List.take_zero, hap, hrow, hal, Nat.le_refl, not_false_eq_true]
   ·right
    have : j = c.length := by omega
    subst this
    have hn : ¬ ((c.length : Int) < (c.length : Int)) := by omega
    rw [← hwl, List.take_length, hwl]
    simp only [b80_2, stdS, stdL, hn]) 0 (Nat.zero_le _)
  simpa using key
 ·left
  have hc1 : ∃ x, c = [x] := by
   match c, hc, h2 with
   | [x], _, _ => exact ⟨x, rfl⟩
   | a :: b :: r, _, h2 => exact absurd (by simp) h2
  obtain ⟨x, rfl⟩ := hc1
  ·have gx := encP_get (l := [x]) (i := 0) rfl
   obtain ⟨d1, d2⟩ := sub_small (hs x (by simp)) (hs x (by simp))
   have z1 : (sb x x).1 = 0 := by simp [sb]
   have z2 : (sb x x).2 = 0 := by simp [sb]
   rw [z1] at d1
   rw [z2] at d2
   have w1 : IntKind.i64.wrap 1 = 1 := by decide
   have t1 : (1 : Int).tmod 1 = 0 := by decide
   rw [iter_unfold]
   have : b80_2 std (Ls, encP o, encP [x], n, X, Y, i, encP [x], (([x] : List Pt).length : Int), (0 : Int), ()) = some (.inr (.inl (Ls, encP (o ++ wy [x]), encP [x], n, X, Y, i, ()))) := by
    have e : wy [x] = [] := rfl
    rw [e, List.append_nil]
    have c1 : (0 : Int) < ((0 + 1 : Nat) : Int) := by omega
    have l1 : ((0 + 1 : Nat) : Int) = 1 := rfl
    simp only [b80_2, stdS, stdL, cells_eP, dI_eP0, dI_eP1, eP_eq, encP_set, encP_len, std_ar_add, std_ar_rem, std_ar_sub, l1, Int.zero_add, w1, t1, gx, d1, d2, Int.toNat_zero, ge_iff_le, Int.le_refl, show (0 : Int) < 1 by decide, show ¬ (1 : Int) = 0 by decide, not_false_eq_true]
   rw [this]
theorem small_box {x : Pt} (h : inBox (-5000) 5000 x) : Small x := by
 obtain ⟨h1, h2, h3, h4⟩ := h
 exact ⟨by omega, by omega, by omega, by omega⟩
theorem sub_box {x y : Pt} (h : inBox (-5000) 5000 x) (k : inBox (-5000) 5000 y) : inBox (-10000) 10000 (sb x y) := by
 obtain ⟨h1, h2, h3, h4⟩ := h
 obtain ⟨k1, k2, k3, k4⟩ := k
 refine ⟨?_, ?_, ?_, ?_⟩ <;> simp only [sb] <;> omega
theorem ways_box : ∀ {l : List Pt}, (∀ x ∈ l, inBox (-5000) 5000 x) → ∀ w ∈ M06.ways l, inBox (-10000) 10000 w
 | [], _, w, hw => by simp [M06.ways] at hw
 | [_], _, w, hw => by simp [M06.ways] at hw
 | a :: b :: l, h, w, hw => by
  rcases List.mem_cons.1 hw with rfl | hw
  ·exact sub_box (h b (by simp)) (h a (by simp))
  ·exact ways_box (l := b :: l) (fun x hx => h x (List.mem_cons_of_mem _ hx)) w hw
theorem wy_box {c : List Pt} (h : ∀ x ∈ c, inBox (-5000) 5000 x) : ∀ w ∈ wy c, inBox (-10000) 10000 w := by
 match c, h with
 | [], _ => simp [wy]
 | [a], _ => simp [wy]
 | a :: b :: r, h =>
  refine ways_box (l := a :: b :: r ++ [a]) fun x hx => ?_
  rcases List.mem_append.1 hx with hx | hx
  ·exact h x hx
  ·simp at hx; subst hx; exact h _ (by simp)
theorem sumL_box : ∀ {l : List Pt}, (∀ w ∈ l, inBox (-10000) 10000 w) → inBox (-(10000 * (l.length : Int))) (10000 * (l.length : Int)) (sumL l)
 | [], _ => by simp [sumL, inBox]
 | w :: l, h => by
  have h1 := h w (by simp)
  have h2 := sumL_box (l := l) (fun x hx => h x (List.mem_cons_of_mem _ hx))
  rw [sumL_cons]
  simp only [inBox, ad, List.length_cons] at *
  omega
theorem grp_len : ∀ (now : Pt) (ws : List Pt), (grp now ws).length ≤ ws.length
 | _, [] => by simp [grp]
 | _, [w] => by simp [grp]
 | now, w :: w' :: ws => by
  rw [grp]
  split
  ·have := grp_len (ad now w) (w' :: ws); simp at this ⊢; omega
  ·have := grp_len (ad now w) (w' :: ws); simp at this ⊢; omega
theorem wsnz {S a : List Pt} (h : Cyc S a) : ∀ w ∈ wy a, w ≠ (0, 0) := by
 match a, h with
 | [x], _ => simp [wy]
 | x :: y :: r, h => exact (cyc_walk h).2.2.1
theorem G80_ok {A B a b : List Pt} (hA : Cyc A a) (hB : Cyc B b) (ka : ∀ x ∈ a, inBox (-5000) 5000 x) (kb : ∀ x ∈ b, inBox (-5000) 5000 x) (la : a.length ≤ 60) (lb : b.length ≤ 30) :
  ∃ c, G80 std (encP a, encP b, ()) = some (encP c, ()) ∧ c.length ≤ a.length + b.length ∧ ∀ T, (∀ z, z ∈ T ↔ ∃ x ∈ A, ∃ y ∈ B, z = ad x y) → Cyc T c := by
 have sa : ∀ x ∈ a, Small x := fun x hx => small_box (ka x hx)
 have sb' : ∀ x ∈ b, Small x := fun x hx => small_box (kb x hx)
 have hbox : ∀ w ∈ wy a ++ wy b, inBox (-10000) 10000 w := fun w hw => by
  rcases List.mem_append.1 hw with h | h
  ·exact wy_box ka w h
  ·exact wy_box kb w h
 have hnz : ∀ w ∈ wy a ++ wy b, w ≠ (0, 0) := fun w hw => by
  rcases List.mem_append.1 hw with h | h
  ·exact wsnz hA w h
  ·exact wsnz hB w h
 have hsm : ∀ {w : Pt}, inBox (-10000) 10000 w → Small w := fun {w} h => by
  obtain ⟨h1, h2, h3, h4⟩ := h
  exact ⟨by omega, by omega, by omega, by omega⟩
 have hlen : (wy a ++ wy b).length ≤ a.length + b.length := by
  have := wy_len_le a; have := wy_len_le b; simp; omega
 obtain ⟨ws, hg97, hp, hs⟩ := sort_t (wy a ++ wy b) (fun w hw => ⟨hsm (hbox w hw), hnz w hw⟩) (by omega)
 have hwl : ws.length ≤ a.length + b.length := by rw [hp.length_eq]; exact hlen
 have wbox : ∀ w ∈ ws, inBox (-10000) 10000 w := fun w hw => hbox w (hp.mem_iff.1 hw)
 have wnz : ∀ w ∈ ws, w ≠ (0, 0) := fun w hw => hnz w (hp.mem_iff.1 hw)
 have hs' : ws.Pairwise (fun u v => ¬ Bef v u) := hs.imp_of_mem fun {u v} hu hv h hb => h ((turn_bef (wnz v hv) (wnz u hu)).2 hb)
 generalize hs0 : ad (hd0 a) (hd0 b) = s0
 have ha0 : a[0]? = some (hd0 a) := by
  match a, hA with
  | x :: r, _ => rfl
 have hb0 : b[0]? = some (hd0 b) := by
  match b, hB with
  | x :: r, _ => rfl
 have ka0 := ka _ (List.mem_of_getElem? ha0)
 have kb0 := kb _ (List.mem_of_getElem? hb0)
 have hs0b : inBox (-10000) 10000 s0 := by
  rw [← hs0]
  simp only [inBox, ad] at *; omega
 have hnowbox : ∀ i, Small (ad s0 (sumL (ws.take i))) := fun i => by
  have h1 := sumL_box (l := ws.take i) (fun w hw => wbox w (List.mem_of_mem_take hw))
  have h2 : (ws.take i).length ≤ 90 := by simp; omega
  simp only [inBox, ad, Small] at *; omega
 refine ⟨mink s0 ws, ?_, ?_, fun T hT => ?_⟩
 rotate_left
 ·have h1 := grp_len s0 ws
  have ha1 : 1 ≤ a.length := by have := (List.getElem?_eq_some_iff.1 ha0).1; omega
  unfold mink
  split
  ·simp; omega
  ·simp only [List.length_cons] at *; omega
 ·rw [← hs0]
  exact mink_cyc hA hB hT hp hs'
 have hways : iter (c80_1 it0 std) ([[D.list false 2 (encP a)], [D.list false 2 (encP b)]], [], encP a, encP b, (2 : Int), (0 : Int), ()) = some (encP (wy a ++ wy b), encP a, encP b, ()) := by
  generalize hL : [[D.list false 2 (encP a)], [D.list false 2 (encP b)]] = L
  have r0 : std.rdL L 0 0 = encP a := by subst hL; rfl
  have r1 : std.rdL L 1 0 = encP b := by subst hL; rfl
  have k0 : std.rowOk L 0 [CK.list 2] = true := by subst hL; rfl
  have k1 : std.rowOk L 1 [CK.list 2] = true := by subst hL; rfl
  have hl2 : L.length = 2 := by subst hL; rfl
  have e1 : (0 : Int).toNat = 0 := rfl
  have e2 : (1 : Int).toNat = 1 := rfl
  have v1 : IntKind.i64.wrap ((0 : Int) + 1) = 1 := by decide
  have v2 : IntKind.i64.wrap ((1 : Int) + 1) = 2 := by decide
  have v1' : IntKind.i64.wrap 1 = 1 := by decide
  have v2' : IntKind.i64.wrap 2 = 2 := by decide
  have t0 : c80_1 it0 std (L, [], encP a, encP b, (2 : Int), (0 : Int), ()) = some (.inl (L, encP (wy a), encP a, encP b, (2 : Int), (1 : Int), ())) := by
   have hw := ways_loop hA sa (by omega) [] (by simp) L (encP b) (encP a) 2 0
   have en : encP [] = [] := rfl
   rw [en] at hw
   simp only [List.nil_append] at hw
   rcases hw with hw | hw
   ·simp only [c80_1, it0_eq, need_eq, ask_eq, ret_eq, bnd_eq, run_eq, alt_eq, std_lss, std_geq, std_nat, std_add, std_len, std_ofNat, e1, Nat.zero_add, r0, k0, hl2, encP_len, hw, Option.bind_some, Sum.elim_inl, Sum.elim_inr, std_ar_add, v1, std_eqN, bif_eq]
    simp [v1']
   ·simp only [c80_1, it0_eq, need_eq, ask_eq, ret_eq, bnd_eq, run_eq, alt_eq, std_lss, std_geq, std_nat, std_add, std_len, std_ofNat, e1, Nat.zero_add, r0, k0, hl2, encP_len, hw, Option.bind_some, Sum.elim_inl, Sum.elim_inr, std_ar_add, v1, std_eqN, bif_eq]
    simp [v1']
  have t1 : c80_1 it0 std (L, encP (wy a), encP a, encP b, (2 : Int), (1 : Int), ()) = some (.inl (L, encP (wy a ++ wy b), encP a, encP b, (2 : Int), (2 : Int), ())) := by
   have hw := ways_loop hB sb' (by omega) (wy a) (by have := wy_len_le a; omega) L (encP b) (encP a) 2 1
   rcases hw with hw | hw
   ·simp only [c80_1, it0_eq, need_eq, ask_eq, ret_eq, bnd_eq, run_eq, alt_eq, std_lss, std_geq, std_nat, std_add, std_len, std_ofNat, e2, Nat.zero_add, r1, k1, hl2, encP_len, hw, Option.bind_some, Sum.elim_inl, Sum.elim_inr, std_ar_add, v2, std_eqN, bif_eq]
    simp [v2']
   ·simp only [c80_1, it0_eq, need_eq, ask_eq, ret_eq, bnd_eq, run_eq, alt_eq, std_lss, std_geq, std_nat, std_add, std_len, std_ofNat, e2, Nat.zero_add, r1, k1, hl2, encP_len, hw, Option.bind_some, Sum.elim_inl, Sum.elim_inr, std_ar_add, v2, std_eqN, bif_eq]
    simp [v2']
  have t2 : c80_1 it0 std (L, encP (wy a ++ wy b), encP a, encP b, (2 : Int), (2 : Int), ()) = some (.inr (encP (wy a ++ wy b), encP a, encP b, ())) := by
   have c1 : ¬ (2 : Int) < 2 := by omega
   simp only [c80_1, stdS, stdL, c1]
  rw [iter_unfold, t0]
  simp only
  rw [iter_unfold, t1]
  simp only
  rw [iter_unfold, t2]
 have h99 := G99_ok (small_box ka0) (small_box kb0)
 rw [hs0] at h99
 unfold G99 at h99
 have hgrp := iter_to (b := c80_3 it0 std) (fun (s : List Pt × Nat) => (encP s.1, encP ws, (ad s0 (sumL (ws.take s.2))).1, (ad s0 (sumL (ws.take s.2))).2, (0 : Nat), s.1.length, (ws.length : Int), (s.2 : Int), ()))
  (fun s => s.2 ≤ ws.length ∧ s.1.length ≤ s.2 + 1) (fun s => ws.length - s.2) (fun s => (encP (s.1 ++ grp (ad s0 (sumL (ws.take s.2))) (ws.drop s.2)), (0 : Nat), (s.1 ++ grp (ad s0 (sumL (ws.take s.2))) (ws.drop s.2)).length, ())) (by
  rintro ⟨dn, i⟩ ⟨hi, hdn⟩
  simp only at hi hdn ⊢
  by_cases hlt : i < ws.length
  ·left
   obtain ⟨w, hw⟩ := get_some hlt
   have hww := List.mem_of_getElem? hw
   have gw := encP_get hw
   have e9 := G99_ok (hnowbox i) (hsm (wbox w hww))
   have hnow : ad (ad s0 (sumL (ws.take i))) w = ad s0 (sumL (ws.take (i + 1))) := by
    rw [take_succ_some hw, sumL_append, sumL_cons, sumL_nil, ad_zero, ad_assoc]
   rw [hnow] at e9
   unfold G99 at e9
   have hd := drop_get hw
   have c1 : (i : Int) < (ws.length : Int) := by omega
   have c2 : (i : Int) ≥ 0 := by omega
   have hwr := wrap_nat (i := i) (by omega)
   have htk : (encP dn).take dn.length = encP dn := by rw [List.take_of_length_le (by rw [encP_len]; omega)]
   have hrow : ∀ p : Pt, [D.int IntKind.i64 p.1, D.int IntKind.i64 p.2] = eP p := fun _ => rfl
   have hap : ∀ p : Pt, encP dn ++ [eP p] = encP (dn ++ [p]) := fun p => by simp [encP]
   have hdl : dn.length ≤ 1000 := by omega
   have hdl1 : dn.length + 1 ≤ 1000000 := by omega
   have hal : ∀ p : Pt, dn.length + 1 = (dn ++ [p]).length := fun p => by simp
   by_cases hl : i + 1 < ws.length
   ·obtain ⟨w', hw'⟩ := get_some hl
    have hww' := List.mem_of_getElem? hw'
    have gw' := encP_get hw'
    have hd' := drop_get hw'
    have c3 : ((i + 1 : Nat) : Int) < (ws.length : Int) := by omega
    have c4 : ((i + 1 : Nat) : Int) ≥ 0 := by omega
    have e8 := G98_ok (hsm (wbox w hww)) (hsm (wbox w' hww'))
    by_cases hsame : Same w w'
    ·refine ⟨(dn, i + 1), ?_, ⟨by simp only; omega, by simp only; omega⟩, by simp only; omega, ?_⟩
     ·have ht := (turn_same (wnz w hww) (wnz w' hww')).2 hsame
      simp only [c80_3, it0_eq, stdS, stdL, cells_eP, dI_eP0, dI_eP1, eP_eq, encP_set, encP_len, std_ar_add, hwr, c1, c2, c3, c4, gw, gw', e8, ht, Int.zero_add, hrow, List.take_succ_cons, List.take_zero, List.drop_zero, Nat.le_refl, e9]
     ·simp only [hd, hd']
      rw [grp, if_pos hsame, hnow, ← hd']
    ·refine ⟨(dn ++ [ad s0 (sumL (ws.take (i + 1)))], i + 1), ?_, ⟨by simp only; omega, by simp; omega⟩, by simp only; omega, ?_⟩
     ·have ht : ¬ turnC w w' = 0 := fun e => hsame ((turn_same (wnz w hww) (wnz w' hww')).1 e)
      have h1 := hap (ad s0 (sumL (ws.take (i + 1))))
      have h2 := hal (ad s0 (sumL (ws.take (i + 1))))
      simp only [c80_3, it0_eq, stdS, stdL, cells_eP, dI_eP0, dI_eP1, eP_eq, encP_set, encP_len, std_ar_add, hwr, c1, c2, c3, c4, gw, gw', e8, ht, Int.zero_add, hrow, List.take_succ_cons, List.take_zero, List.drop_zero, Nat.le_refl, e9, htk, hdl1, h1, h2]
      simp only [List.length_append, List.length_cons, List.length_nil, Nat.zero_add, hdl1, Nat.le_refl, if_true, Option.bind_some, hwr]
     ·simp only [hd, hd']
      rw [grp, if_neg hsame, hnow, ← hd', List.append_assoc]; rfl
   ·have hie : i + 1 = ws.length := by omega
    have c3 : ¬ ((i + 1 : Nat) : Int) < (ws.length : Int) := by omega
    refine ⟨(dn ++ [ad s0 (sumL (ws.take (i + 1)))], i + 1), ?_, ⟨by simp only; omega, by simp; omega⟩, by simp only; omega, ?_⟩
    ·have h1 := hap (ad s0 (sumL (ws.take (i + 1))))
     have h2 := hal (ad s0 (sumL (ws.take (i + 1))))
     simp only [c80_3, it0_eq, stdS, stdL, cells_eP, dI_eP0, dI_eP1, eP_eq, encP_set, encP_len, std_ar_add, hwr, c1, c2, c3, gw, Int.zero_add, hrow, List.take_succ_cons, List.take_zero, List.drop_zero, Nat.le_refl, e9, htk, hdl1, h1, h2]
     simp only [List.length_append, List.length_cons, List.length_nil, Nat.zero_add, hdl1, Nat.le_refl, if_true, Option.bind_some, hwr]
    ·have hdn' : ws.drop (i + 1) = [] := by rw [hie]; simp
     simp only [hd, hdn', grp, hnow, List.append_nil]
  ·right
   have : i = ws.length := by omega
   subst this
   have hn : ¬ ((ws.length : Int) < (ws.length : Int)) := by omega
   simp only [c80_3, stdS, stdL, hn, List.drop_length, grp, List.append_nil]) ([s0], 0) ⟨Nat.zero_le _, by simp⟩
 simp only [List.take_zero, List.drop_zero, sumL_nil, ad_zero] at hgrp
 unfold G80
 have hg97 : g97t it0 std (encP (wy a ++ wy b), ()) = some (encP ws, ()) := hg97
 have e0 : std.ofNat 2 = (2 : Int) := rfl
 have g0a := encP_get ha0
 have g0b := encP_get hb0
 have z0 : (0 : Int).toNat = 0 := rfl
 have hrow : ∀ p : Pt, [D.int IntKind.i64 p.1, D.int IntKind.i64 p.2] = eP p := fun _ => rfl
 have hpl : (wy a ++ wy b).length = ws.length := hp.length_eq.symm
 have hs0e : [eP s0] = encP [s0] := rfl
 have hl1 : ([s0] : List Pt).length = 1 := rfl
 have k0 : ((0 : Nat) : Int) = 0 := rfl
 simp only [k0, hl1] at hgrp
 simp only [g80, it0_eq, e0, hways, z0, hg97, stdS, stdL, cells_eP, dI_eP0, dI_eP1, eP_eq, encP_set, encP_len, g0a, g0b, hrow, List.take_succ_cons, List.take_zero, List.drop_zero, Nat.le_refl, h99, hpl, hs0e, hgrp, List.singleton_append, List.length_cons]
 have hgle := grp_len s0 ws
 generalize hgl : (grp s0 ws).length = gl at hgle
 have hm : mink s0 ws = if 1 < gl + 1 then (s0 :: grp s0 ws).dropLast else s0 :: grp s0 ws := by rw [mink, List.length_cons, hgl]
 rw [hm]
 by_cases h1 : 1 < gl + 1
 ·have c1 : ((gl + 1 : Nat) : Int) > 1 := by omega
  have v1 : IntKind.i64.wrap (((gl + 1 : Nat) : Int) - 1) = (gl : Int) := by rw [wrap64] <;> omega
  have c2 : (0 : Int) ≤ (gl : Int) := by omega
  have c3 : (gl : Int) ≤ ((gl + 1 : Nat) : Int) := by omega
  have c4 : gl ≤ gl + 1 := by omega
  simp only [stdS, stdL, cells_eP, dI_eP0, dI_eP1, eP_eq, encP_set, encP_len, c1, std_ar_sub, v1, c2, c3, ge_iff_le, Int.le_refl, Int.toNat_zero, Nat.sub_zero, Nat.add_zero, List.length_cons, hgl, c4, List.drop_zero, h1]
  rw [List.dropLast_eq_take]
  simp [encP, hgl]
 ·have c1 : ¬ ((gl + 1 : Nat) : Int) > 1 := by omega
  simp only [stdS, stdL, cells_eP, dI_eP0, dI_eP1, eP_eq, encP_set, encP_len, c1, List.length_cons, hgl, Nat.le_refl, List.drop_zero, h1]
  rw [List.take_of_length_le (by rw [encP_len]; simp [hgl])]
end Go.Am
end
section
namespace M06
theorem pth_nodup {S : List Pt} {e : Pt} : ∀ {l : List Pt} {a : Pt}, Pth S (a :: l ++ [e]) → e ∉ l → l.Nodup
 | [], _, _, _ => .nil
 | b :: l, a, h, hn => by
  have ih := pth_nodup (l := l) (a := b) h.2 (fun x => hn (List.mem_cons_of_mem _ x))
  refine List.nodup_cons.2 ⟨fun hb => ?_, ih⟩
  obtain ⟨l2, l3, rfl⟩ := List.append_of_mem hb
  have tl : ∀ (u v : List Pt), Pth S (u ++ v) → Pth S v := by
   intro u
   induction u with
   | nil => intro v h; exact h
   | cons x u ih => intro v h; exact ih v h.tail
  have h1 : Pth S (b :: (l2 ++ b :: l3) ++ [e]) := h.2
  have h2 : Pth S (b :: l3 ++ [e]) := by
   refine tl (b :: l2) _ ?_
   have : b :: (l2 ++ b :: l3) ++ [e] = (b :: l2) ++ (b :: l3 ++ [e]) := by simp
   rwa [this] at h1
  have := pth_unique h1 h2 (fun x => hn (List.mem_cons_of_mem _ x)) (fun x => hn (List.mem_cons_of_mem _ (by simp [x])))
  have := congrArg List.length this
  simp at this
  omega
theorem cyc_nodup {S c : List Pt} (h : Cyc S c) : c.Nodup := by
 match c, h with
 | a :: r, h =>
  rcases h.2.2 with ⟨hr, _⟩ | ⟨_, hp, hn⟩
  ·subst hr; simp
  ·exact List.nodup_cons.2 ⟨hn, pth_nodup hp hn⟩
theorem nodup_len {α : Type} [DecidableEq α] : ∀ {l m : List α}, l.Nodup → (∀ x ∈ l, x ∈ m) → l.length ≤ m.length
 | [], m, _, _ => by simp
 | a :: l, m, h, hs => by
  have h1 := List.nodup_cons.1 h
  have := nodup_len (l := l) (m := m.erase a) h1.2 (fun x hx => by
   refine (List.mem_erase_of_ne ?_).2 (hs x (List.mem_cons_of_mem _ hx))
   rintro rfl; exact h1.1 hx)
  have ha : a ∈ m := hs a (by simp)
  rw [List.length_erase_of_mem ha] at this
  have : 0 < m.length := List.length_pos_of_mem ha
  simp only [List.length_cons]; omega
theorem cyc_len {S c : List Pt} (h : Cyc S c) : c.length ≤ S.length := nodup_len (cyc_nodup h) (cyc_mem h)
noncomputable def corn (S : List Pt) : List Pt := Classical.epsilon (Cyc S)
theorem corn_spec {S : List Pt} (h : S ≠ []) : Cyc S (corn S) := by
 obtain ⟨c, hc, _⟩ := cyc_exists h
 exact Classical.epsilon_spec ⟨c, hc⟩
theorem corn_eq {S c : List Pt} (h : Cyc S c) : corn S = c := cyc_unique (corn_spec (cyc_ne h)) h
theorem corn_ne {S : List Pt} (h : S ≠ []) : corn S ≠ [] := by
 have := corn_spec h
 intro e
 rw [e] at this
 exact this
def sums2 (A B : List Pt) : List Pt := A.flatMap fun x => B.map (ad x)
theorem mem_sums2 {A B : List Pt} (z : Pt) : z ∈ sums2 A B ↔ ∃ x ∈ A, ∃ y ∈ B, z = ad x y := by
 simp only [sums2, List.mem_flatMap, List.mem_map]
 exact ⟨fun ⟨x, hx, y, hy, e⟩ => ⟨x, hx, y, hy, e.symm⟩, fun ⟨x, hx, y, hy, e⟩ => ⟨x, hx, y, hy, e.symm⟩⟩
theorem sums2_ne {A B : List Pt} (hA : A ≠ []) (hB : B ≠ []) : sums2 A B ≠ [] := by
 match A, B, hA, hB with
 | a :: A, b :: B, _, _ => intro h; have := (mem_sums2 (A := a :: A) (B := b :: B) (ad a b)).2 ⟨a, by simp, b, by simp, rfl⟩; rw [h] at this; simp at this
def allS (l : List Pt) (hs : List (List Pt)) : List Pt := hs.foldl sums2 l
theorem allS_snoc (l : List Pt) (hs : List (List Pt)) (h : List Pt) : allS l (hs ++ [h]) = sums2 (allS l hs) h := by simp [allS, List.foldl_append]
theorem allS_ne {l : List Pt} {hs : List (List Pt)} (hl : l ≠ []) (hh : ∀ h ∈ hs, h ≠ []) : allS l hs ≠ [] := by
 induction hs generalizing l with
 | nil => exact hl
 | cons h hs ih => exact ih (sums2_ne hl (hh h (by simp))) (fun x hx => hh x (List.mem_cons_of_mem _ hx))
theorem corn_sums {A B a b : List Pt} (hA : Cyc A a) (hB : Cyc B b) : Cyc (sums2 a b) (corn (sums2 A B)) := by
 have hne := sums2_ne (cyc_ne hA) (cyc_ne hB)
 have h1 := corn_spec hne
 have hne2 := sums2_ne (cyc_ne (cyc_self hA)) (cyc_ne (cyc_self hB))
 obtain ⟨ws, hp, hs⟩ : ∃ ws : List Pt, ws.Perm (wy a ++ wy b) ∧ ws.Pairwise (fun u v => ¬ Bef v u) := by
  have ins : ∀ (l : List Pt), (∀ w ∈ l, w ≠ (0, 0)) → ∃ ws : List Pt, ws.Perm l ∧ ws.Pairwise (fun u v => ¬ Bef v u) := by
   intro l
   induction l with
   | nil => intro _; exact ⟨[], .refl _, .nil⟩
   | cons w l ih =>
    intro hnz
    obtain ⟨ws, h1, h2⟩ := ih (fun x hx => hnz x (List.mem_cons_of_mem _ hx))
    have hw := hnz w (by simp)
    have hws : ∀ x ∈ ws, x ≠ (0, 0) := fun x hx => hnz x (List.mem_cons_of_mem _ (h1.mem_iff.1 hx))
    have one : ∀ (ws : List Pt), (∀ x ∈ ws, x ≠ (0, 0)) → ws.Pairwise (fun u v => ¬ Bef v u) → ∃ q : List Pt, q.Perm (w :: ws) ∧ q.Pairwise (fun u v => ¬ Bef v u) := by
     intro ws
     induction ws with
     | nil => intro _ _; exact ⟨[w], .refl _, by simp⟩
     | cons x ws ih =>
      intro hz hs
      by_cases hb : Bef x w
      ·obtain ⟨q, q1, q2⟩ := ih (fun y hy => hz y (List.mem_cons_of_mem _ hy)) (List.pairwise_cons.1 hs).2
       refine ⟨x :: q, (q1.cons x).trans (.swap ..), List.pairwise_cons.2 ⟨fun y hy hc => ?_, q2⟩⟩
       rcases List.mem_cons.1 (q1.mem_iff.1 hy) with rfl | hy
       ·exact hb.asymm hc
       ·exact (List.pairwise_cons.1 hs).1 y hy hc
      ·refine ⟨w :: x :: ws, .refl _, List.pairwise_cons.2 ⟨fun y hy hc => ?_, hs⟩⟩
       rcases List.mem_cons.1 hy with rfl | hy
       ·exact hb hc
       ·
        exact hb (le_bef (hz x (by simp)) ((List.pairwise_cons.1 hs).1 y hy) hc)
    obtain ⟨q, q1, q2⟩ := one ws hws h2
    exact ⟨q, q1.trans (h1.cons w), q2⟩
  have wz : ∀ {S a : List Pt}, Cyc S a → ∀ w ∈ wy a, w ≠ (0, 0) := by
   intro S a h
   match a, h with
   | [x], _ => simp [wy]
   | x :: y :: r, h => exact (cyc_walk h).2.2.1
  refine ins _ fun w hw => ?_
  rcases List.mem_append.1 hw with h | h
  ·exact wz hA w h
  ·exact wz hB w h
 have m1 := mink_cyc hA hB (T := sums2 A B) mem_sums2 hp hs
 have m2 := mink_cyc (cyc_self hA) (cyc_self hB) (T := sums2 a b) mem_sums2 hp hs
 rw [corn_eq m1]; exact m2
end M06
end
section
namespace Go.Am
open M06
structure Fine (l : List Pt) (hs : List (List Pt)) : Prop where
 many : manyP l
 few : hs.length ≤ 4
 manyH : ∀ h ∈ hs, manyP h
 box : ∀ p ∈ l, inBox 0 1000 p
 boxH : ∀ h ∈ hs, ∀ p ∈ h, inBox (-1000) 1000 p
theorem chk_fine {l : List Pt} {hs : List (List Pt)} : chkG l hs = 0 ↔ Fine l hs := by
 unfold chkG
 constructor
 ·intro h
  split at h
  ·cases h
  ·rename_i h1
   split at h
   ·cases h
   ·rename_i h2
    simp only [not_or, Classical.not_not, not_exists, not_and] at h1 h2
    exact ⟨h1.1, by omega, fun x hx => h1.2.2 x hx, h2.1, fun x hx => h2.2 x hx⟩
 ·intro h
  rw [if_neg, if_neg]
  ·rintro (k | ⟨x, hx, k⟩)
   ·exact k h.box
   ·exact k (h.boxH x hx)
  ·rintro (k | k | ⟨x, hx, k⟩)
   ·exact k h.many
   ·have := h.few; omega
   ·exact k (h.manyH x hx)
theorem Fine.ne {l : List Pt} {hs : List (List Pt)} (h : Fine l hs) : l ≠ [] := by
 rintro rfl; have := h.many.1; simp at this
theorem Fine.neH {l : List Pt} {hs : List (List Pt)} (h : Fine l hs) : ∀ x ∈ hs, x ≠ [] := by
 rintro x hx rfl; have := (h.manyH [] hx).1; simp at this
theorem Fine.allNe {l : List Pt} {hs : List (List Pt)} (h : Fine l hs) : allS l hs ≠ [] := allS_ne h.ne h.neH
theorem allS_box {l : List Pt} (hl : ∀ p ∈ l, inBox (-1000) 1000 p) : ∀ {hs : List (List Pt)}, (∀ h ∈ hs, ∀ p ∈ h, inBox (-1000) 1000 p) →
    ∀ p ∈ allS l hs, inBox (-(1000 * ((hs.length : Int) + 1))) (1000 * ((hs.length : Int) + 1)) p := by
  have main : ∀ (n : Nat) (hs : List (List Pt)), hs.length = n → (∀ h ∈ hs, ∀ p ∈ h, inBox (-1000) 1000 p) → ∀ p ∈ allS l hs, inBox (-(1000 * ((hs.length : Int) + 1))) (1000 * ((hs.length : Int) + 1)) p := by
   intro n
   induction n with
   | zero => intro hs h0 _ p hp; rw [List.length_eq_zero_iff.1 h0] at hp ⊢; simpa using hl p hp
   | succ n ih =>
    intro hs hn hh p hp
    rcases List.eq_nil_or_concat hs with rfl | ⟨hs, h, rfl⟩
    · simp at hn
    rw [List.concat_eq_append] at *
    have ih := ih hs (by simpa using hn)
    rw [allS_snoc, mem_sums2] at hp
    obtain ⟨x, hx, y, hy, rfl⟩ := hp
    have h1 := ih (fun h hm => hh h (List.mem_append_left _ hm)) x hx
    have h2 := hh h (by simp) y hy
    simp only [inBox, ad, List.length_append, List.length_cons, List.length_nil] at *
    omega
  intro hs
  exact main _ hs rfl
theorem Fine.take {l : List Pt} {hs : List (List Pt)} (h : Fine l hs) (i : Nat) : Fine l (hs.take i) :=
 ⟨h.many, by have := h.few; simp; omega, fun x hx => h.manyH x (List.mem_of_mem_take hx), h.box, fun x hx => h.boxH x (List.mem_of_mem_take hx)⟩
theorem Fine.boxA {l : List Pt} {hs : List (List Pt)} (h : Fine l hs) : ∀ p ∈ allS l hs, inBox (-5000) 5000 p := by
 intro p hp
 have := allS_box (l := l) (fun p hp => by obtain ⟨a, b, c, d⟩ := h.box p hp; exact ⟨by omega, by omega, by omega, by omega⟩) h.boxH p hp
 have h4 := h.few
 simp only [inBox] at *; omega
theorem Fine.cyc {l : List Pt} {hs : List (List Pt)} (h : Fine l hs) : Cyc (allS l hs) (corn (allS l hs)) := corn_spec h.allNe
theorem Fine.cbox {l : List Pt} {hs : List (List Pt)} (h : Fine l hs) : ∀ p ∈ corn (allS l hs), inBox (-5000) 5000 p := fun p hp => h.boxA p (cyc_mem h.cyc p hp)
theorem small_box' {x : Pt} {k : Int} (hk : k ≤ 10000) (h : inBox (-k) k x) : Small x := by
 obtain ⟨h1, h2, h3, h4⟩ := h
 exact ⟨by omega, by omega, by omega, by omega⟩
theorem encH_get {hs : List (List Pt)} {i : Nat} {h : List Pt} (hh : hs[i]? = some h) : (encH hs)[i]? = some (eH h) := by simp [encH, hh]
theorem encH_len (hs : List (List Pt)) : (encH hs).length = hs.length := by simp [encH]
theorem take_append_one {hs : List (List Pt)} {i : Nat} {h : List Pt} (hh : hs[i]? = some h) : hs.take (i + 1) = hs.take i ++ [h] := by
 rw [List.take_add_one, hh]; rfl
theorem corners_loop {l : List Pt} {hs : List (List Pt)} (hf : Fine l hs) :
  iter (c48_1 it0 std) (encP l, encH hs, encP (corn l), encH hs, (hs.length : Int), (0 : Int), ()) = some (encP l, encH hs, encP (corn (allS l hs)), ()) ∧ (corn (allS l hs)).length ≤ 60 := by
 have key := iter_ev (b := c48_1 it0 std) (fun (i : Nat) => (encP l, encH hs, encP (corn (allS l (hs.take i))), encH hs, (hs.length : Int), (i : Int), ())) (fun i => i ≤ hs.length ∧ (corn (allS l (hs.take i))).length ≤ 12 * (i + 1)) (fun i => hs.length - i) (fun r => r = (encP l, encH hs, encP (corn (allS l hs)), ()) ∧ (corn (allS l hs)).length ≤ 60) (fun i ⟨hi, hcl⟩ => by
  by_cases hlt : i < hs.length
  ·left
   obtain ⟨h, hh⟩ := get_some hlt
   have hm := List.mem_of_getElem? hh
   have gh := encH_get hh
   have h4 := hf.few
   have hmany := hf.manyH h hm
   obtain ⟨b, hb1, hb2⟩ := G59_ok (l := h) hmany.1 hmany.2 (fun x hx => small_box' (k := 1000) (by omega) (hf.boxH h hm x hx))
   have h60 := G60_ok (l := h) (by have := hmany.2; omega)
   have hbl := cyc_len hb2
   have hbb : ∀ x ∈ b, inBox (-5000) 5000 x := fun x hx => by
    obtain ⟨a1, a2, a3, a4⟩ := hf.boxH h hm x (cyc_mem hb2 x hx)
    exact ⟨by omega, by omega, by omega, by omega⟩
   obtain ⟨c, hc1, hc2, hc3⟩ := G80_ok (hf.take i).cyc hb2 (hf.take i).cbox hbb (by omega) (by have := hmany.2; omega)
   have e1 : allS l (hs.take (i + 1)) = sums2 (allS l (hs.take i)) h := by rw [take_append_one hh, allS_snoc]
   have hc := corn_eq (hc3 _ mem_sums2)
   have c1 : (i : Int) < (hs.length : Int) := by omega
   have c2 : (i : Int) ≥ 0 := by omega
   have hw := wrap_nat (i := i) (by omega)
   refine ⟨i + 1, ?_, ⟨by omega, ?_⟩, by omega⟩
   ·rw [e1, hc]
    have hb1' : g59 it0 std (encP h, ()) = some (encP b, ()) := hb1
    have h60' : g60 it0 std (encP h, ()) = some (encP h, ()) := h60
    have hc1' : g80 it0 std (encP (corn (allS l (hs.take i))), encP b, ()) = some (encP c, ()) := hc1
    simp only [c48_1, it0_eq, stdS, stdL, dL_eH, cells_eH, c1, c2, std_ar_add, hw, gh, h60', hb1', hc1']
   ·rw [e1, hc]
    have := hmany.2
    omega
  ·right
   have : i = hs.length := by omega
   subst this
   have hn : ¬ ((hs.length : Int) < (hs.length : Int)) := by omega
   refine ⟨_, ?_, rfl, ?_⟩
   ·simp only [c48_1, stdS, stdL, hn, List.take_length]
   ·have := hf.few
    rw [List.take_length] at hcl; omega) 0 ⟨Nat.zero_le _, by
   simp only [List.take_zero]
   have := cyc_len (corn_spec hf.ne)
   have := hf.many.2
   show (corn l).length ≤ _
   omega⟩
 obtain ⟨r, h1, h2, h3⟩ := key
 subst h2
 exact ⟨h1, h3⟩
theorem G48_bad {l : List Pt} {hs : List (List Pt)} (h : chkG l hs ≠ 0) : G48 std (encP l, encH hs, ()) = some (.inl (chkG l hs, ())) := by
 unfold G48
 have h18 : g18 it0 std (encP l, encH hs, ()) = some (chkG l hs, ()) := G18_ok l hs
 simp only [g48, stdS, stdL, h18, h, not_false_eq_true]
theorem G48_ok {l : List Pt} {hs : List (List Pt)} (hf : Fine l hs) : G48 std (encP l, encH hs, ()) = some (.inr (encP l, encH hs, encP (corn (allS l hs)), 0, ())) := by
 unfold G48
 have h18 : g18 it0 std (encP l, encH hs, ()) = some (chkG l hs, ()) := G18_ok l hs
 rw [chk_fine.2 hf] at h18
 have hm := hf.many
 obtain ⟨b, hb1, hb2⟩ := G59_ok (l := l) hm.1 hm.2 (fun x hx => by obtain ⟨a1, a2, a3, a4⟩ := hf.box x hx; exact ⟨by omega, by omega, by omega, by omega⟩)
 rw [← corn_eq hb2] at hb1
 have hb1' : g59 it0 std (encP l, ()) = some (encP (corn l), ()) := hb1
 have h60 : g60 it0 std (encP l, ()) = some (encP l, ()) := G60_ok (l := l) (by have := hm.2; omega)
 have hl := (corners_loop hf).1
 simp only [g48, it0_eq, stdS, stdL, encH_len, h18, h60, hb1', hl, not_true]
theorem corn_len {l : List Pt} {hs : List (List Pt)} (hf : Fine l hs) : (corn (allS l hs)).length ≤ 60 := (corners_loop hf).2
end Go.Am
end
section
namespace M06
theorem nx_last {S : List Pt} {a b x : Pt} (h : Nx S a b) (hx : x ∈ S) (z : cr a b x = 0) (hf : far a b ≤ far a x) : x = b := by
 have h0 := (h.2.2 x hx).2 z
 have d1 := (far_iff h.2.1 z h0.1).1 h0.2
 have hne : sb b a ≠ (0, 0) := fun e => h.2.1 (sb_eq_zero.1 e).symm
 have hp := dt_self_pos hne
 have hl := lag (sb b a) (sb x a)
 have z' : crs (sb b a) (sb x a) = 0 := z
 rw [z'] at hl
 have e1 : far a x = dt (sb x a) (sb x a) := by simp only [far, dt, sb]; grind
 have e2 : far a b = dt (sb b a) (sb b a) := by simp only [far, dt, sb]; grind
 have e3 : dt (sb b a) (sb b x) = dt (sb b a) (sb b a) - dt (sb b a) (sb x a) := by simp only [dt, sb]; grind
 have e4 : dt (sb b x) (sb b x) = dt (sb b a) (sb b a) + dt (sb x a) (sb x a) - 2 * dt (sb b a) (sb x a) := by simp only [dt, sb]; grind
 have hm := h0.1
 refine Classical.byContradiction fun hn => ?_
 have hq := dt_self_pos (u := sb b x) (fun e => hn (sb_eq_zero.1 e).symm)
 rw [e1, e2] at hf
 generalize dt (sb b a) (sb x a) = m at *
 generalize dt (sb b a) (sb b a) = n at *
 generalize dt (sb x a) (sb x a) = k at *
 have h1 : n * n ≤ m * m := by
  have := Int.mul_le_mul_of_nonneg_left hf (Int.le_of_lt hp)
  omega
 have h2 := le_of_sq hm h1
 have h3 : m = n := by omega
 subst h3
 have : m * k = m * m := by omega
 have hk : k = m := by
  have h5 : m * (k - m) = 0 := by rw [Int.mul_sub]; omega
  rcases Int.mul_eq_zero.1 h5 with h | h <;> omega
 omega
theorem pth_get {S : List Pt} : ∀ {l : List Pt} {i : Nat} {a b : Pt}, Pth S l → l[i]? = some a → l[i + 1]? = some b → Nx S a b
 | [], i, a, b, _, h, _ => by simp at h
 | [x], i, a, b, _, _, h => by simp at h
 | x :: y :: l, 0, a, b, h, h1, h2 => by
  simp at h1 h2; subst h1; subst h2; exact h.1
 | x :: y :: l, i + 1, a, b, h, h1, h2 => pth_get (l := y :: l) (i := i) h.2 (by simpa using h1) (by simpa using h2)
theorem cyc_get {S c : List Pt} (h : Cyc S c) (h2 : 2 ≤ c.length) {i : Nat} {a b : Pt} (ha : c[i]? = some a) (hb : c[(i + 1) % c.length]? = some b) : Nx S a b := by
 match c, h2, h with
 | x :: y :: r, _, h =>
  have hp : Pth S (x :: y :: r ++ [x]) := by
   rcases h.2.2 with ⟨h, _⟩ | ⟨_, h, _⟩
   ·cases h
   ·exact h
  have hi : i < (x :: y :: r).length := (List.getElem?_eq_some_iff.1 ha).1
  refine pth_get hp (by rw [List.getElem?_append_left hi]; exact ha) ?_
  by_cases hl : i + 1 < (x :: y :: r).length
  ·rw [List.getElem?_append_left hl]
   rwa [Nat.mod_eq_of_lt hl] at hb
  ·have he : i + 1 = (x :: y :: r).length := by omega
   rw [he, Nat.mod_self] at hb
   rw [List.getElem?_append_right (by omega), he]
   simp at hb ⊢; exact hb
theorem cyc_one {S c : List Pt} (h : Cyc S c) (h2 : c.length ≤ 1) : ∃ a, c = [a] ∧ a ∈ S ∧ ∀ x ∈ S, x = a := by
 match c, h2, h with
 | [a], _, h =>
  refine ⟨a, rfl, h.1, ?_⟩
  rcases h.2.2 with ⟨_, h⟩ | ⟨h, _⟩
  ·exact h
  ·exact absurd rfl h
end M06
end
section
namespace Go.Am
open M06
theorem G90_ok {a b c : Pt} (ha : Small a) (hb : Small b) (hc : Small c) : G90 std (a.1, a.2, b.1, b.2, c.1, c.2, ()) = some (cr a b c, ()) := by
 obtain ⟨w1, w2, w3, w4, w5, w6, w7⟩ := small_wraps ha hb hc
 unfold G90
 simp only [stdS, stdL, std_ar_sub, std_ar_mul, w1, w2, w3, w4, w5, w6, w7]
theorem far_wraps {a b : Pt} (ha : Small a) (hb : Small b) : IntKind.i64.wrap (a.1 - b.1) = a.1 - b.1 ∧ IntKind.i64.wrap (a.2 - b.2) = a.2 - b.2 ∧
  IntKind.i64.wrap ((a.1 - b.1) * (a.1 - b.1)) = (a.1 - b.1) * (a.1 - b.1) ∧ IntKind.i64.wrap ((a.2 - b.2) * (a.2 - b.2)) = (a.2 - b.2) * (a.2 - b.2) ∧
  IntKind.i64.wrap ((a.1 - b.1) * (a.1 - b.1) + (a.2 - b.2) * (a.2 - b.2)) = far a b := by
 obtain ⟨a1, a2, a3, a4⟩ := ha
 obtain ⟨b1, b2, b3, b4⟩ := hb
 have big : ∀ {x : Int}, -2097152 ≤ x → x ≤ 2097152 → 0 ≤ x * x ∧ x * x ≤ 4398046511104 := by
  intro x h1 h2
  refine ⟨sqn x, ?_⟩
  have e1 := Int.mul_nonneg (show 0 ≤ 2097152 - x by omega) (show 0 ≤ 2097152 + x by omega)
  simp only [Int.sub_mul, Int.mul_add] at e1
  omega
 have m1 := big (x := a.1 - b.1) (by omega) (by omega)
 have m2 := big (x := a.2 - b.2) (by omega) (by omega)
 refine ⟨wrap64 _ (by omega) (by omega), wrap64 _ (by omega) (by omega), wrap64 _ (by omega) (by omega), wrap64 _ (by omega) (by omega), ?_⟩
 rw [wrap64 _ (by omega) (by omega)]; rfl
theorem G91_ok {a b : Pt} (ha : Small a) (hb : Small b) : G91 std (a.1, a.2, b.1, b.2, ()) = some (far a b, ()) := by
 obtain ⟨w1, w2, w3, w4, w5⟩ := far_wraps ha hb
 unfold G91
 simp only [stdS, stdL, std_ar_sub, std_ar_mul, std_ar_add, w1, w2, w3, w4, w5]
theorem first_loop {l : List Pt} (hn : l.length ≤ 100000) (hne : l ≠ []) :
  ∃ f, f ∈ l ∧ (∀ x ∈ l, Le f x) ∧ iter (b61_1 std) ((l.getD 0 (0, 0)).1, (l.getD 0 (0, 0)).2, encP l, (1 : Int), ()) = some (f.1, f.2, encP l, ()) := by
 have hl1 : 1 ≤ l.length := List.length_pos_iff.2 hne
 have key := iter_count (b := b61_1 std) l.length (fun (f : Pt) (i : Nat) => (f.1, f.2, encP l, (i : Int), ())) (fun f i => f ∈ l ∧ ∀ x ∈ l.take i, Le f x) (fun r => ∃ f, f ∈ l ∧ (∀ x ∈ l, Le f x) ∧ r = (f.1, f.2, encP l, ())) (fun f i hi ⟨h1, h2⟩ => by
  left
  obtain ⟨p, hp⟩ := get_some hi
  have gp := encP_get hp
  have hpl := List.mem_of_getElem? hp
  have c1 : (i : Int) < (l.length : Int) := by omega
  have c2 : (i : Int) ≥ 0 := by omega
  have hw := wrap_nat (i := i) (by omega)
  have next : ∀ g, (Le g f) → Le g p → ∀ x ∈ l.take (i + 1), Le g x := by
   intro g hg hgp x hx
   rw [take_succ_some hp] at hx
   rcases List.mem_append.1 hx with hx | hx
   ·exact hg.trans (h2 x hx)
   ·simp at hx; subst hx; exact hgp
  by_cases k1 : p.1 < f.1
  ·refine ⟨p, ?_, hpl, next p (.inr ?_) (.inl rfl)⟩
   ·simp only [b61_1, stdS, stdL, cells_eP, dI_eP0, dI_eP1, eP_eq, encP_set, encP_len, std_ar_add, hw, c1, c2, gp, k1]
   ·simp only [Lt, Pos, sb]; omega
  ·by_cases k2 : p.1 = f.1
   ·by_cases k3 : p.2 < f.2
    ·refine ⟨p, ?_, hpl, next p (.inr ?_) (.inl rfl)⟩
     ·simp only [b61_1, stdS, stdL, cells_eP, dI_eP0, dI_eP1, eP_eq, encP_set, encP_len, std_ar_add, hw, c1, c2, gp, k2, k3, Int.lt_irrefl]
     ·simp only [Lt, Pos, sb]; omega
    ·refine ⟨f, ?_, h1, next f (.inl rfl) ?_⟩
     ·simp only [b61_1, stdS, stdL, cells_eP, dI_eP0, dI_eP1, eP_eq, encP_set, encP_len, std_ar_add, hw, c1, c2, gp, k2, k3, Int.lt_irrefl]
     ·rcases lt_tri f p with h | h | h
      ·exact .inr h
      ·exact .inl h
      ·exfalso; simp only [Lt, Pos, sb] at h; omega
   ·refine ⟨f, ?_, h1, next f (.inl rfl) ?_⟩
    ·simp only [b61_1, stdS, stdL, cells_eP, dI_eP0, dI_eP1, eP_eq, encP_set, encP_len, std_ar_add, hw, c1, c2, gp, k1, k2]
    ·right; simp only [Lt, Pos, sb]; omega) (fun f ⟨h1, h2⟩ => by
  have hn : ¬ ((l.length : Int) < (l.length : Int)) := by omega
  rw [List.take_length] at h2
  exact ⟨_, by simp only [b61_1, stdS, stdL, encP_len, hn], f, h1, h2, rfl⟩) (l.getD 0 (0, 0)) 1 hl1 ⟨getD_mem _ hl1, by
   match l, hne with
   | a :: l, _ => intro x hx; simp at hx; subst hx; exact .inl rfl⟩
 obtain ⟨r, h1, f, h2, h3, h4⟩ := key
 exact ⟨f, h2, h3, by rw [← h4]; exact h1⟩
theorem next_loop {l : List Pt} (hn : l.length ≤ 100000) (hs : ∀ x ∈ l, Small x) {a b : Pt} (ha : a ∈ l) (hb : Nx l a b ∨ (b = a ∧ ∀ x ∈ l, x = a)) (out : List (List D)) (f1 f2 : Int) (off len : Nat) :
  iter (b61_3 std) (out, f1, f2, a.1, a.2, a.1, a.2, encP l, off, len, (0 : Int), ()) = some (out, f1, f2, a.1, a.2, b.1, b.2, encP l, off, len, ()) := by
 have key := iter_count (b := b61_3 std) l.length (fun (n : Pt) (i : Nat) => (out, f1, f2, a.1, a.2, n.1, n.2, encP l, off, len, (i : Int), ())) (fun n i => n ∈ l ∧ (Nx l a b → b ∈ l.take i → n = b)) (fun r => r = (out, f1, f2, a.1, a.2, b.1, b.2, encP l, off, len, ())) (fun n i hi ⟨h1, h2⟩ => by
  left
  obtain ⟨x, hx⟩ := get_some hi
  have gx := encP_get hx
  have hxl := List.mem_of_getElem? hx
  have c1 : (i : Int) < (l.length : Int) := by omega
  have c2 : (i : Int) ≥ 0 := by omega
  have hw := wrap_nat (i := i) (by omega)
  have tk : b ∈ l.take (i + 1) → b ∈ l.take i ∨ b = x := fun h => by
   rw [take_succ_some hx] at h
   rcases List.mem_append.1 h with h | h
   ·exact .inl h
   ·exact .inr (by simpa using h)
  have e90 := G90_ok (hs a ha) (hs n h1) (hs x hxl)
  have e91 := G91_ok (hs a ha) (hs x hxl)
  have e92 := G91_ok (hs a ha) (hs n h1)
  by_cases k1 : x = a
  ·subst k1
   refine ⟨n, ?_, h1, fun hb hm => ?_⟩
   ·simp only [b61_3, stdS, stdL, cells_eP, dI_eP0, dI_eP1, eP_eq, encP_set, encP_len, std_ar_add, hw, c1, c2, gx]
   ·rcases tk hm with h | h
    ·exact h2 hb h
    ·exact absurd h.symm hb.2.1
  ·have k1' : ¬ (x.1 = a.1 ∧ x.2 = a.2) := fun e => k1 (Prod.ext e.1 e.2)
   have red : ∀ r : Pt, (x.1 = a.1 → ¬ x.2 = a.2 → b61_3 std (out, f1, f2, a.1, a.2, n.1, n.2, encP l, off, len, (i : Int), ()) = some (.inl (out, f1, f2, a.1, a.2, r.1, r.2, encP l, off, len, ((i + 1 : Nat) : Int), ()))) → (¬ x.1 = a.1 → b61_3 std (out, f1, f2, a.1, a.2, n.1, n.2, encP l, off, len, (i : Int), ()) = some (.inl (out, f1, f2, a.1, a.2, r.1, r.2, encP l, off, len, ((i + 1 : Nat) : Int), ()))) → b61_3 std (out, f1, f2, a.1, a.2, n.1, n.2, encP l, off, len, (i : Int), ()) = some (.inl (out, f1, f2, a.1, a.2, r.1, r.2, encP l, off, len, ((i + 1 : Nat) : Int), ())) := by
    intro r p q
    by_cases k2 : x.1 = a.1
    ·exact p k2 (fun e => k1' ⟨k2, e⟩)
    ·exact q k2
   by_cases k2 : n = a
   ·subst k2
    refine ⟨x, ?_, hxl, fun hb hm => ?_⟩
    ·refine red x (fun q1 q2 => ?_) (fun q1 => ?_)
     ·simp only [b61_3, stdS, stdL, cells_eP, dI_eP0, dI_eP1, eP_eq, encP_set, encP_len, std_ar_add, hw, c1, c2, gx, eq_true q1, q2, e90]
     ·simp only [b61_3, stdS, stdL, cells_eP, dI_eP0, dI_eP1, eP_eq, encP_set, encP_len, std_ar_add, hw, c1, c2, gx, q1, e90]
    ·rcases tk hm with h | h
     ·exact absurd (h2 hb h) hb.2.1
     ·exact h.symm
   ·have k2' : ¬ (n.1 = a.1 ∧ n.2 = a.2) := fun e => k2 (Prod.ext e.1 e.2)
    have red2 : ∀ G : Prop, (n.1 = a.1 → ¬ n.2 = a.2 → G) → (¬ n.1 = a.1 → G) → G := by
     intro G p q
     by_cases k : n.1 = a.1
     ·exact p k (fun e => k2' ⟨k, e⟩)
     ·exact q k
    by_cases k3 : cr a n x < 0
    ·refine ⟨x, ?_, hxl, fun hb hm => ?_⟩
     ·refine red x (fun q1 q2 => ?_) (fun q1 => ?_) <;> refine red2 _ (fun q3 q4 => ?_) (fun q3 => ?_)
      ·simp only [b61_3, stdS, stdL, cells_eP, dI_eP0, dI_eP1, eP_eq, encP_set, encP_len, std_ar_add, hw, c1, c2, gx, eq_true q1, q2, eq_true q3, q4, e90, e91, e92, k3]
      ·simp only [b61_3, stdS, stdL, cells_eP, dI_eP0, dI_eP1, eP_eq, encP_set, encP_len, std_ar_add, hw, c1, c2, gx, eq_true q1, q2, q3, e90, e91, e92, k3]
      ·simp only [b61_3, stdS, stdL, cells_eP, dI_eP0, dI_eP1, eP_eq, encP_set, encP_len, std_ar_add, hw, c1, c2, gx, q1, eq_true q3, q4, e90, e91, e92, k3]
      ·simp only [b61_3, stdS, stdL, cells_eP, dI_eP0, dI_eP1, eP_eq, encP_set, encP_len, std_ar_add, hw, c1, c2, gx, q1, q3, e90, e91, e92, k3]
     ·rcases tk hm with h | h
      ·have := h2 hb h
       subst this
       have := (hb.2.2 x hxl).1
       omega
      ·exact h.symm
    ·by_cases k4 : cr a n x = 0
     ·by_cases k5 : far a x > far a n
      ·refine ⟨x, ?_, hxl, fun hb hm => ?_⟩
       ·refine red x (fun q1 q2 => ?_) (fun q1 => ?_) <;> refine red2 _ (fun q3 q4 => ?_) (fun q3 => ?_)
        ·simp only [b61_3, stdS, stdL, cells_eP, dI_eP0, dI_eP1, eP_eq, encP_set, encP_len, std_ar_add, hw, c1, c2, gx, eq_true q1, q2, eq_true q3, q4, e90, e91, e92, k3, k4, k5, Int.lt_irrefl]
        ·simp only [b61_3, stdS, stdL, cells_eP, dI_eP0, dI_eP1, eP_eq, encP_set, encP_len, std_ar_add, hw, c1, c2, gx, eq_true q1, q2, q3, e90, e91, e92, k3, k4, k5, Int.lt_irrefl]
        ·simp only [b61_3, stdS, stdL, cells_eP, dI_eP0, dI_eP1, eP_eq, encP_set, encP_len, std_ar_add, hw, c1, c2, gx, q1, eq_true q3, q4, e90, e91, e92, k3, k4, k5, Int.lt_irrefl]
        ·simp only [b61_3, stdS, stdL, cells_eP, dI_eP0, dI_eP1, eP_eq, encP_set, encP_len, std_ar_add, hw, c1, c2, gx, q1, q3, e90, e91, e92, k3, k4, k5, Int.lt_irrefl]
       ·rcases tk hm with h | h
        ·have := h2 hb h
         subst this
         have := ((hb.2.2 x hxl).2 k4).2
         omega
        ·exact h.symm
      ·refine ⟨n, ?_, h1, fun hb hm => ?_⟩
       ·refine red n (fun q1 q2 => ?_) (fun q1 => ?_) <;> refine red2 _ (fun q3 q4 => ?_) (fun q3 => ?_)
        ·simp only [b61_3, stdS, stdL, cells_eP, dI_eP0, dI_eP1, eP_eq, encP_set, encP_len, std_ar_add, hw, c1, c2, gx, eq_true q1, q2, eq_true q3, q4, e90, e91, e92, k3, k4, k5, Int.lt_irrefl]
        ·simp only [b61_3, stdS, stdL, cells_eP, dI_eP0, dI_eP1, eP_eq, encP_set, encP_len, std_ar_add, hw, c1, c2, gx, eq_true q1, q2, q3, e90, e91, e92, k3, k4, k5, Int.lt_irrefl]
        ·simp only [b61_3, stdS, stdL, cells_eP, dI_eP0, dI_eP1, eP_eq, encP_set, encP_len, std_ar_add, hw, c1, c2, gx, q1, eq_true q3, q4, e90, e91, e92, k3, k4, k5, Int.lt_irrefl]
        ·simp only [b61_3, stdS, stdL, cells_eP, dI_eP0, dI_eP1, eP_eq, encP_set, encP_len, std_ar_add, hw, c1, c2, gx, q1, q3, e90, e91, e92, k3, k4, k5, Int.lt_irrefl]
       ·rcases tk hm with h | h
        ·exact h2 hb h
        ·subst h
         have z : cr a b n = 0 := by rw [cr_swap]; omega
         exact nx_last hb h1 z (by omega)
     ·refine ⟨n, ?_, h1, fun hb hm => ?_⟩
      ·refine red n (fun q1 q2 => ?_) (fun q1 => ?_) <;> refine red2 _ (fun q3 q4 => ?_) (fun q3 => ?_)
       ·simp only [b61_3, stdS, stdL, cells_eP, dI_eP0, dI_eP1, eP_eq, encP_set, encP_len, std_ar_add, hw, c1, c2, gx, eq_true q1, q2, eq_true q3, q4, e90, e91, e92, k3, k4]
       ·simp only [b61_3, stdS, stdL, cells_eP, dI_eP0, dI_eP1, eP_eq, encP_set, encP_len, std_ar_add, hw, c1, c2, gx, eq_true q1, q2, q3, e90, e91, e92, k3, k4]
       ·simp only [b61_3, stdS, stdL, cells_eP, dI_eP0, dI_eP1, eP_eq, encP_set, encP_len, std_ar_add, hw, c1, c2, gx, q1, eq_true q3, q4, e90, e91, e92, k3, k4]
       ·simp only [b61_3, stdS, stdL, cells_eP, dI_eP0, dI_eP1, eP_eq, encP_set, encP_len, std_ar_add, hw, c1, c2, gx, q1, q3, e90, e91, e92, k3, k4]
      ·rcases tk hm with h | h
       ·exact h2 hb h
       ·subst h
        have := (hb.2.2 n h1).1
        have := cr_swap a b n
        omega) (fun n ⟨h1, h2⟩ => by
  have hnn : ¬ ((l.length : Int) < (l.length : Int)) := by omega
  rw [List.take_length] at h2
  refine ⟨(out, f1, f2, a.1, a.2, n.1, n.2, encP l, off, len, ()), by simp only [b61_3, stdS, stdL, encP_len, hnn], ?_⟩
  have : n = b := by
   rcases hb with hb | ⟨hb, hall⟩
   ·exact h2 hb hb.1
   ·rw [hb]; exact hall n h1
  rw [this]) a 0 (Nat.zero_le _) ⟨ha, fun _ hm => by simp at hm⟩
 obtain ⟨r, h1, h2⟩ := key
 rw [← h2]; exact h1
theorem nodup_get {α : Type} {l : List α} (h : l.Nodup) {i j : Nat} {a : α} (hi : l[i]? = some a) (hj : l[j]? = some a) : i = j := by
 obtain ⟨i1, i2⟩ := List.getElem?_eq_some_iff.1 hi
 obtain ⟨j1, j2⟩ := List.getElem?_eq_some_iff.1 hj
 have hp := List.pairwise_iff_getElem.1 h
 rcases Nat.lt_trichotomy i j with k | k | k
 ·exact absurd (i2.trans j2.symm) (hp i j i1 j1 k)
 ·exact k
 ·exact absurd (j2.trans i2.symm) (hp j i j1 i1 k)
theorem G61_ok {l : List Pt} (hn : l.length ≤ 100000) (hne : l ≠ []) (hs : ∀ x ∈ l, Small x) : G61 std (encP l, ()) = some (encP (corn l), ()) := by
 have hcy := corn_spec hne
 have hcl := cyc_len hcy
 have hcm := cyc_mem hcy
 have hcn := cyc_nodup hcy
 generalize hc : corn l = c at hcy hcl hcm hcn
 obtain ⟨f, hf1, hf2, hfl⟩ := first_loop hn hne
 have hl1 : 1 ≤ l.length := List.length_pos_iff.2 hne
 have hc0 : c[0]? = some f := by
  match c, hcy with
  | c0 :: r, hcy => rw [le_antisymm (hf2 _ hcy.1) (hcy.2.1 _ hf1)]; rfl
 have hc1 : 1 ≤ c.length := (List.getElem?_eq_some_iff.1 hc0).1
 have key := iter_to (b := c61_2 it0 std) (fun (i : Nat) => (encP (c.take (i + 1)), f.1, f.2, encP l, (0 : Nat), i + 1, ())) (fun i => i < c.length) (fun i => c.length - i) (fun _ => (encP c, (0 : Nat), c.length, ())) (fun i hi => by
  obtain ⟨a, ha⟩ := get_some hi
  obtain ⟨b, hb⟩ := get_some (l := c) (i := (i + 1) % c.length) (Nat.mod_lt _ (by omega))
  have hal := hcm a (List.mem_of_getElem? ha)
  have hbl := hcm b (List.mem_of_getElem? hb)
  have hnx : Nx l a b ∨ (b = a ∧ ∀ x ∈ l, x = a) := by
   by_cases h2 : 2 ≤ c.length
   ·exact .inl (cyc_get hcy h2 ha hb)
   ·obtain ⟨x, hx, _, hall⟩ := cyc_one hcy (by omega)
    exact .inr ⟨by rw [hall a hal, hall b hbl], fun y hy => by rw [hall a hal, hall y hy]⟩
  have hin := next_loop hn hs hal hnx (encP (c.take (i + 1))) f.1 f.2 0 (i + 1)
  have hg : (encP (c.take (i + 1)))[i]? = some (eP a) := encP_get (by rw [List.getElem?_take_of_lt (by omega)]; exact ha)
  have v1 : IntKind.i64.wrap (((i + 1 : Nat) : Int) - 1) = (i : Int) := by rw [wrap64] <;> omega
  have c1 : (i : Int) ≥ 0 := by omega
  have c2 : (i : Int) < ((i + 1 : Nat) : Int) := by omega
  have htl : (c.take (i + 1)).length = i + 1 := by simp; omega
  by_cases hend : i + 1 = c.length
  ·right
   have hbf : b = f := by rw [hend, Nat.mod_self, hc0] at hb; exact (Option.some.inj hb).symm
   subst hbf
   have hfin : c.take (i + 1) = c := by rw [hend, List.take_length]
   rw [hfin] at hin hg ⊢
   rw [hend] at hin ⊢
   rw [hend] at v1 c2
   simp only [c61_2, it0_eq, stdS, stdL, cells_eP, dI_eP0, dI_eP1, eP_eq, encP_set, encP_len, std_ar_sub, v1, c1, c2, hg, hin, hend]
  ·left
   have hb' : c[i + 1]? = some b := by rwa [Nat.mod_eq_of_lt (by omega)] at hb
   have hba : ¬ b = a := fun e => by
    subst e
    have := nodup_get hcn ha hb'
    omega
   have hbf : ¬ b = f := fun e => by
    subst e
    have := nodup_get hcn hc0 hb'
    omega
   have htk : (encP (c.take (i + 1))).take (i + 1) = encP (c.take (i + 1)) := by rw [List.take_of_length_le (by rw [encP_len]; simp; omega)]
   have hap : encP (c.take (i + 1)) ++ [eP b] = encP (c.take (i + 1 + 1)) := by rw [take_succ_some hb']; simp [encP]
   have htl2 : (c.take (i + 1 + 1)).length = i + 1 + 1 := by simp; omega
   have hap2 : (c.take (i + 1 + 1)).length ≤ 1000000 := by omega
   have hap3 : i + 1 + 1 ≤ 1000000 := by omega
   refine ⟨i + 1, ?_, by omega, by omega, rfl⟩
   have hba' : ¬ (b.1 = a.1 ∧ b.2 = a.2) := fun e => hba (Prod.ext e.1 e.2)
   have hbf' : ¬ (b.1 = f.1 ∧ b.2 = f.2) := fun e => hbf (Prod.ext e.1 e.2)
   have e1 : (if b.1 = a.1 then if b.2 = a.2 then true else false else false) = false := by
    by_cases q1 : b.1 = a.1
    ·rw [if_pos q1, if_neg (fun e => hba' ⟨q1, e⟩)]
    ·rw [if_neg q1]
   by_cases q1 : b.1 = f.1
   ·have q2 : ¬ b.2 = f.2 := fun e => hbf' ⟨q1, e⟩
    simp only [c61_2, it0_eq, stdS, stdL, cells_eP, dI_eP0, dI_eP1, eP_eq, encP_set, encP_len, std_ar_sub, v1, c1, c2, hg, hin, eq_true q1, q2, e1, htl, htl2, htk, hap, hap3, List.drop_zero, List.take_succ_cons, List.take_zero, Nat.le_refl]
   ·simp only [c61_2, it0_eq, stdS, stdL, cells_eP, dI_eP0, dI_eP1, eP_eq, encP_set, encP_len, std_ar_sub, v1, c1, c2, hg, hin, q1, e1, htl, htl2, htk, hap, hap3, List.drop_zero, List.take_succ_cons, List.take_zero, Nat.le_refl]) 0 (by omega)
 have g0 : ∃ p, l[0]? = some p := get_some (by omega)
 obtain ⟨p0, hp0⟩ := g0
 have gp0 := encP_get hp0
 have hd : l.getD 0 (0, 0) = p0 := by simp [List.getD_eq_getElem?_getD, hp0]
 rw [hd] at hfl
 have e1 : encP (c.take 1) = [eP f] := by
  match c, hc0 with
  | x :: r, h => cases h; rfl
 simp only [Nat.zero_add, e1] at key
 unfold G61
 have z0 : (0 : Int).toNat = 0 := rfl
 have htk : (encP c).take c.length = encP c := by rw [List.take_of_length_le (by rw [encP_len]; omega)]
 simp only [g61, it0_eq, stdS, stdL, cells_eP, dI_eP0, dI_eP1, eP_eq, encP_set, encP_len, z0, gp0, hfl, key, Nat.le_refl, List.drop_zero, htk]
end Go.Am
end
section
namespace Go.Am
open M06
theorem sums2_take {A B : List Pt} {k : Nat} {a : Pt} (h : A[k]? = some a) : sums2 (A.take (k + 1)) B = sums2 (A.take k) B ++ B.map (ad a) := by
 rw [take_succ_some h]
 simp [sums2]
theorem sums2_len (A B : List Pt) : (sums2 A B).length = A.length * B.length := by
 induction A with
 | nil => simp [sums2]
 | cons a A ih =>
  have : sums2 (a :: A) B = B.map (ad a) ++ sums2 A B := rfl
  rw [this, List.length_append, ih, List.length_map, List.length_cons, Nat.add_mul, Nat.one_mul, Nat.add_comm]
theorem add_small {x y : Pt} (hx : Small x) (hy : Small y) : IntKind.i64.wrap (x.1 + y.1) = (ad x y).1 ∧ IntKind.i64.wrap (x.2 + y.2) = (ad x y).2 := by
 obtain ⟨x1, x2, x3, x4⟩ := hx
 obtain ⟨y1, y2, y3, y4⟩ := hy
 exact ⟨wrap64 _ (by omega) (by omega), wrap64 _ (by omega) (by omega)⟩
theorem sum_row {b : List Pt} {a : Pt} {cur : List Pt} {k : Nat} (ha : cur[k]? = some a) (hb : ∀ x ∈ b, Small x) (hsa : Small a) (hk : k ≤ 1000) (hbl : b.length ≤ 100) (nx : List Pt) (hnl : nx.length ≤ 100000) (l H out : List (List D)) :
  iter (b49_4 std) ([[D.list false 2 (encP b)]], encP nx, l, H, out, encP cur, (0 : Int), (k : Int), (0 : Int), ()) = some ([[D.list false 2 (encP b)]], encP (nx ++ b.map (ad a)), l, H, out, encP cur, (0 : Int), (k : Int), ()) := by
 generalize hL : [[D.list false 2 (encP b)]] = L
 have r0 : std.rdL L 0 0 = encP b := by subst hL; rfl
 have k0 : std.rowOk L 0 [CK.list 2] = true := by subst hL; rfl
 have hl2 : L.length = 1 := by subst hL; rfl
 have e1 : (0 : Int).toNat = 0 := rfl
 have key := iter_to (b := b49_4 std) (fun (i : Nat) => (L, encP (nx ++ (b.take i).map (ad a)), l, H, out, encP cur, (0 : Int), (k : Int), (i : Int), ())) (fun i => i ≤ b.length) (fun i => b.length - i) (fun _ => (L, encP (nx ++ b.map (ad a)), l, H, out, encP cur, (0 : Int), (k : Int), ())) (fun i hi => by
  have c0 : (0 : Int) ≥ 0 := by omega
  have c01 : (0 : Int) < ((1 : Nat) : Int) := by omega
  by_cases hlt : i < b.length
  ·left
   obtain ⟨p, hp⟩ := get_some hlt
   have gp := encP_get hp
   have ga := encP_get ha
   obtain ⟨d1, d2⟩ := add_small hsa (hb p (List.mem_of_getElem? hp))
   have c1 : (i : Int) < (b.length : Int) := by omega
   have c2 : (i : Int) ≥ 0 := by omega
   have c3 : (k : Int) ≥ 0 := by omega
   have hw := wrap_nat (i := i) (by omega)
   have htk : (encP (nx ++ (b.take i).map (ad a))).take (nx ++ (b.take i).map (ad a)).length = encP (nx ++ (b.take i).map (ad a)) := by rw [List.take_of_length_le (by rw [encP_len]; omega)]
   have hap : encP (nx ++ (b.take i).map (ad a)) ++ [eP (ad a p)] = encP (nx ++ (b.take (i + 1)).map (ad a)) := by
    rw [take_succ_some hp]; simp [encP]
   have hl1 : (nx ++ (b.take (i + 1)).map (ad a)).length ≤ 1000000 := by simp; omega
   have hal : (nx ++ (b.take i).map (ad a)).length + 1 = (nx ++ (b.take (i + 1)).map (ad a)).length := by simp; omega
   refine ⟨i + 1, ?_, by omega, by omega, rfl⟩
   have r0' : std.rdL L (std.add 0 (std.nat (0 : Int))) 0 = encP b := r0
   have k0' : std.rowOk L (std.add 0 (std.nat (0 : Int))) [CK.list 2] = true := k0
   simp only [b49_4, r0', k0', need_eq, ask_eq, ret_eq, bnd_eq, run_eq, std_len, std_ofNat, hl2, std_geq, std_lss, bif_eq, c0, c01, encP_len, c1, c2, decide_true, if_true]
   simp only [stdS, stdL, cells_eP, dI_eP0, dI_eP1, eP_eq, encP_set, encP_len, std_ar_add, hw, c1, c2, c3, gp, ga, d1, d2, htk, hap, hl1, hal, List.drop_zero, List.take_succ_cons, List.take_zero, Nat.le_refl]
  ·right
   have : i = b.length := by omega
   subst this
   have hn : ¬ ((b.length : Int) < (b.length : Int)) := by omega
   have r0' : std.rdL L (std.add 0 (std.nat (0 : Int))) 0 = encP b := r0
   have k0' : std.rowOk L (std.add 0 (std.nat (0 : Int))) [CK.list 2] = true := k0
   simp only [b49_4, r0', k0', need_eq, ask_eq, ret_eq, bnd_eq, run_eq, std_len, std_ofNat, hl2, std_geq, std_lss, bif_eq, c0, c01, encP_len, hn, decide_true, decide_false, if_true, if_false, Bool.false_eq_true, List.take_length]
   simp only [stdS, stdL, encP_len, hl2]) 0 (Nat.zero_le _)
 simpa using key
theorem sum_rows {b cur : List Pt} (hb : ∀ x ∈ b, Small x) (hc : ∀ x ∈ cur, Small x) (hcl : cur.length ≤ 100) (hbl : b.length ≤ 100) (l H out : List (List D)) :
  iter (c49_3 it0 std) ([[D.list false 2 (encP b)]], [], l, H, out, encP cur, (0 : Int), (0 : Int), ()) = some ([[D.list false 2 (encP b)]], encP (sums2 cur b), l, H, out, (0 : Int), ()) := by
 have key := iter_to (b := c49_3 it0 std) (fun (k : Nat) => ([[D.list false 2 (encP b)]], encP (sums2 (cur.take k) b), l, H, out, encP cur, (0 : Int), (k : Int), ())) (fun k => k ≤ cur.length) (fun k => cur.length - k) (fun _ => ([[D.list false 2 (encP b)]], encP (sums2 cur b), l, H, out, (0 : Int), ())) (fun k hk => by
  by_cases hlt : k < cur.length
  ·left
   obtain ⟨a, ha⟩ := get_some hlt
   have ga := encP_get ha
   have hsl : (sums2 (cur.take k) b).length ≤ 100000 := by
    rw [sums2_len]
    have h1 : (cur.take k).length ≤ 100 := by simp; omega
    have := Nat.mul_le_mul h1 hbl
    omega
   have hrow := sum_row ha hb (hc a (List.mem_of_getElem? ha)) (by omega) hbl (sums2 (cur.take k) b) hsl l H out
   rw [← sums2_take ha] at hrow
   have c1 : (k : Int) < (cur.length : Int) := by omega
   have c2 : (k : Int) ≥ 0 := by omega
   have hw := wrap_nat (i := k) (by omega)
   refine ⟨k + 1, ?_, by omega, by omega, rfl⟩
   simp only [c49_3, it0_eq, hrow, stdS, stdL, cells_eP, dI_eP0, dI_eP1, eP_eq, encP_set, encP_len, std_ar_add, hw, c1, c2, ga]
  ·right
   have : k = cur.length := by omega
   subst this
   have hn : ¬ ((cur.length : Int) < (cur.length : Int)) := by omega
   simp only [c49_3, stdS, stdL, encP_len, hn, List.take_length]) 0 (Nat.zero_le _)
 simpa [sums2, encP] using key
theorem sum_all {b cur : List Pt} (hb : ∀ x ∈ b, Small x) (hc : ∀ x ∈ cur, Small x) (hcl : cur.length ≤ 100) (hbl : b.length ≤ 100) (l H : List (List D)) :
  iter (c49_2 it0 std) ([[D.list false 2 (encP b)]], l, H, encP cur, encP cur, (0 : Int), ()) = some ([[D.list false 2 (encP b)]], l, H, encP (sums2 cur b), ()) := by
 have hl2 : [[D.list false 2 (encP b)]].length = 1 := rfl
 have v1 : IntKind.i64.wrap ((0 : Int) + 1) = 1 := by decide
 have hr := sum_rows hb hc hcl hbl l H (encP cur)
 have htk : (encP (sums2 cur b)).take (sums2 cur b).length = encP (sums2 cur b) := by rw [List.take_of_length_le (by rw [encP_len]; omega)]
 have t0 : c49_2 it0 std ([[D.list false 2 (encP b)]], l, H, encP cur, encP cur, (0 : Int), ()) = some (.inl ([[D.list false 2 (encP b)]], l, H, encP cur, encP (sums2 cur b), (1 : Int), ())) := by
  have c1 : (0 : Int) < ((1 : Nat) : Int) := by omega
  have c2 : (0 : Int) ≥ 0 := by omega
  simp only [c49_2, it0_eq, hr, need_eq, ask_eq, ret_eq, bnd_eq, run_eq, std_len, std_ofNat, std_lss, std_leN, std_eqN, std_add, Nat.zero_add, hl2, c1, c2, decide_true, if_true, Option.bind_some, Nat.le_refl, encP_len, std_cut, List.drop_zero, htk, std_ar_add, v1]
  try simp only [std_rowOk, std_geq, bif_eq, c2, std_nat, Int.toNat_zero]
  try rfl
 have t1 : c49_2 it0 std ([[D.list false 2 (encP b)]], l, H, encP cur, encP (sums2 cur b), (1 : Int), ()) = some (.inr ([[D.list false 2 (encP b)]], l, H, encP (sums2 cur b), ())) := by
  have c1 : ¬ (1 : Int) < ((1 : Nat) : Int) := by omega
  simp only [c49_2, stdS, stdL, List.length_singleton, hl2, encP_len, c1]
  try simp
 rw [iter_unfold, t0]
 simp only
 rw [iter_unfold, t1]
theorem G49_ok {l : List Pt} {hs : List (List Pt)} (hf : Fine l hs) : G49 std (encP l, encH hs, ()) = some (encP (corn (allS l hs)), ()) := by
 have hsl : ∀ x ∈ l, Small x := fun x hx => by obtain ⟨a1, a2, a3, a4⟩ := hf.box x hx; exact ⟨by omega, by omega, by omega, by omega⟩
 have key := iter_to (b := c49_1 it0 std) (fun (i : Nat) => (encP l, encH hs, encP (corn (allS l (hs.take i))), (i : Int), ())) (fun i => i ≤ hs.length) (fun i => hs.length - i) (fun _ => (encP (corn (allS l hs)), ())) (fun i hi => by
  by_cases hlt : i < hs.length
  ·left
   obtain ⟨h, hh⟩ := get_some hlt
   have hm := List.mem_of_getElem? hh
   have gh := encH_get hh
   have h4 := hf.few
   have hmany := hf.manyH h hm
   have hhs : ∀ x ∈ h, Small x := fun x hx => small_box' (k := 1000) (by omega) (hf.boxH h hm x hx)
   have hhn : h ≠ [] := hf.neH h hm
   have h61 : g61 it0 std (encP h, ()) = some (encP (corn h), ()) := G61_ok (by have := hmany.2; omega) hhn hhs
   have hcyh := corn_spec hhn
   have hcylen := cyc_len hcyh
   have hfi := hf.take i
   have hA := hfi.cyc
   have hAl := corn_len hfi
   have hAs : ∀ x ∈ corn (allS l (hs.take i)), Small x := fun x hx => small_box (hfi.cbox x hx)
   have hBs : ∀ x ∈ corn h, Small x := fun x hx => hhs x (cyc_mem hcyh x hx)
   have hbl : (corn h).length ≤ 100 := by have := hmany.2; omega
   have hsum := sum_all hBs hAs (by omega) hbl (encP l) (encH hs)
   have e1 : allS l (hs.take (i + 1)) = sums2 (allS l (hs.take i)) h := by rw [take_append_one hh, allS_snoc]
   have hc := corn_sums hA hcyh
   have h61b : g61 it0 std (encP (sums2 (corn (allS l (hs.take i))) (corn h)), ()) = some (encP (corn (allS l (hs.take (i + 1)))), ()) := by
    have hh2 : g61 it0 std (encP (sums2 (corn (allS l (hs.take i))) (corn h)), ()) = _ := G61_ok (l := sums2 (corn (allS l (hs.take i))) (corn h)) (by
     rw [sums2_len]
     have := Nat.mul_le_mul (show (corn (allS l (hs.take i))).length ≤ 100 by omega) hbl
     omega) (sums2_ne (corn_ne hfi.allNe) (corn_ne hhn)) (fun x hx => by
     rw [mem_sums2] at hx
     obtain ⟨u, hu, v, hv, rfl⟩ := hx
     have b1 := hfi.cbox u hu
     have b2 := hf.boxH h hm v (cyc_mem hcyh v hv)
     simp only [inBox, Small, ad] at *; omega)
    rw [corn_eq hc] at hh2
    rw [hh2, e1]
   have c1 : (i : Int) < (hs.length : Int) := by omega
   have c2 : (i : Int) ≥ 0 := by omega
   have hw := wrap_nat (i := i) (by omega)
   refine ⟨i + 1, ?_, by omega, by omega, rfl⟩
   simp only [c49_1, it0_eq, need_eq, ask_eq, ret_eq, bnd_eq, run_eq, std_len, std_ofNat, std_lss, std_geq, bif_eq, std_nat, std_rdL, std_rowOk, std_eqN, rdD, encH_len, c1, c2, Int.toNat_natCast, gh, cells_eH, Option.bind_some, dL_eH, h61, hsum, h61b, decide_true, if_true, std_ar_add, hw, encP_len, List.length_singleton]
  ·right
   have : i = hs.length := by omega
   subst this
   have hn : ¬ ((hs.length : Int) < (hs.length : Int)) := by omega
   simp only [c49_1, stdS, stdL, encH_len, hn, List.take_length]) 0 (Nat.zero_le _)
 have h61 : g61 it0 std (encP l, ()) = some (encP (corn l), ()) := G61_ok (by have := hf.many.2; omega) hf.ne hsl
 have k0 : ((0 : Nat) : Int) = 0 := rfl
 have e0 : allS l (hs.take 0) = l := rfl
 rw [k0, e0] at key
 unfold G49
 simp only [g49, it0_eq, bnd_eq, need_eq, ret_eq, h61, Option.bind_some, std_eqN, decide_true, if_true, key]
end Go.Am
end
noncomputable section
namespace Go.Am
def ctr57 : Ctr :=
 ⟨57, [.list 2, .agg [.int .i64, .int .i64], .int .i64], [], [(.ret, ⟨[(0, .bool)], [], 1⟩)]⟩
def la57 : List LA :=
 [⟨94, [false, true], 7, ⟨⟨[(0, .yld 6), (1, .bptr 5 0), (6, .list 2), (7, .int .i64), (8, .int .i64)], [.box [.list 2], .box [.int .i64, .int .i64], .box [.int .i64], .box [.bool], .box [.clo 84 [] [.bptr 2 0]], .box [.list 2], .loop Go.LoopState.ready Option.none 57 [Bool.false, Bool.true, Bool.false, Bool.true, Bool.true, Bool.true] 47 [(22, .clo 94 [] [.bptr 5 0]), (4, .bptr 1 0), (3, .bptr 0 0), (7, .bptr 4 0), (6, .bptr 3 0)]], 33⟩, [(AX.ret, ⟨[], [.box [.list 2], .box [.int .i64, .int .i64], .box [.int .i64], .box [.bool], .box [.clo 84 [] [.bptr 2 0]], .box [.list 2], .loop Go.LoopState.ready Option.none 57 [Bool.false, Bool.true, Bool.false, Bool.true, Bool.true, Bool.true] 47 [(22, .clo 94 [] [.bptr 5 0]), (4, .bptr 1 0), (3, .bptr 0 0), (7, .bptr 4 0), (6, .bptr 3 0)]], 33⟩), (AX.ret, ⟨[], [.box [.list 2], .box [.int .i64, .int .i64], .box [.int .i64], .box [.bool], .box [.clo 84 [] [.bptr 2 0]], .box [.list 2], .loop Go.LoopState.done (Option.some Go.Code.ret) 57 [Bool.false, Bool.true, Bool.false, Bool.true, Bool.true, Bool.true] 47 [(22, .clo 94 [] [.bptr 5 0]), (4, .bptr 1 0), (3, .bptr 0 0), (7, .bptr 4 0), (6, .bptr 3 0)]], 33⟩), ((AX.exit 0), ⟨[], [.box [.list 2], .box [.int .i64, .int .i64], .box [.int .i64], .box [.bool], .box [.clo 84 [] [.bptr 2 0]], .box [.list 2], .loop Go.LoopState.ready Option.none 57 [Bool.false, Bool.true, Bool.false, Bool.true, Bool.true, Bool.true] 47 [(22, .clo 94 [] [.bptr 5 0]), (4, .bptr 1 0), (3, .bptr 0 0), (7, .bptr 4 0), (6, .bptr 3 0)]], 33⟩)]⟩⟩]
def ja57 : List JA :=
 [⟨57, [true, false, true, true, true], 0, [(AX.normal, ⟨[(6, .bptr 0 0)], [.box [.bool]], 47⟩), (AX.ret, ⟨[(6, .bptr 0 0)], [.box [.bool]], 47⟩)]⟩,
 ⟨57, [false, true, false, true, false, true, false, true, true, true], 19, [(AX.normal, ⟨[(3, .bptr 0 0), (4, .bptr 1 0), (6, .bptr 3 0), (7, .bptr 4 0), (46, .bool)], [.box [.list 2], .box [.int .i64, .int .i64], .box [.int .i64], .box [.bool], .box [.clo 84 [] [.bptr 2 0]], .box [.list 2], .dead, .box [.int .i64, .int .i64], .dead, .dead, .dead, .dead, .dead, .dead, .dead, .dead, .dead, .dead, .box [.int .i64, .int .i64]], 47⟩)]⟩]
def gam57 : List CF :=
 []
def an57 : Anns :=
 ⟨gam57, ja57, []⟩
def b57_1 (p : Prim) : (LD × T63) → Option ((LD × T63) ⊕ ((LD × T12) ⊕ ((LD × T12) ⊕ (LD × T12)))) :=
 fun a => opt.run _ (
 opt.ask _ (p.cmp .lss a.2.2.2.2.2.2.2.2.1 a.2.2.2.2.2.2.2.1) (
 opt.need _ (p.rowOk a.2.2.2.2.2.2.1 (p.nat a.2.2.2.2.2.2.2.2.1) [ci, ci]) <|
 opt.need _ (p.cmp .geq a.2.2.2.2.2.2.2.2.1 (0 : Int)) <|
 opt.need _ (p.cmp .neq (p.ofNat (p.len a.2.2.2.2.2.1)) (0 : Int)) <|
 opt.need _ (p.rowOk a.2.2.2.2.2.1 (p.nat (p.ar .rem .i64 (p.ar .add .i64 a.2.2.2.2.2.2.2.2.1 (1 : Int)) (p.ofNat (p.len a.2.2.2.2.2.1)))) [ci, ci]) <|
 opt.need _ (p.cmp .geq (p.ar .rem .i64 (p.ar .add .i64 a.2.2.2.2.2.2.2.2.1 (1 : Int)) (p.ofNat (p.len a.2.2.2.2.2.1))) (0 : Int)) <|
 opt.ask _ (bif (p.cmp .eql (p.ar .sub .i64 (p.rdI a.2.2.2.2.2.1 (p.nat (p.ar .rem .i64 (p.ar .add .i64 a.2.2.2.2.2.2.2.2.1 (1 : Int)) (p.ofNat (p.len a.2.2.2.2.2.1)))) 0) (p.rdI a.2.2.2.2.2.2.1 (p.nat a.2.2.2.2.2.2.2.2.1) 0)) (0 : Int)) then (bif (p.cmp .eql (p.ar .sub .i64 (p.rdI a.2.2.2.2.2.1 (p.nat (p.ar .rem .i64 (p.ar .add .i64 a.2.2.2.2.2.2.2.2.1 (1 : Int)) (p.ofNat (p.len a.2.2.2.2.2.1)))) 1) (p.rdI a.2.2.2.2.2.2.1 (p.nat a.2.2.2.2.2.2.2.2.1) 1)) (0 : Int)) then Bool.true else Bool.false) else Bool.false) (
 opt.ret _ (Sum.inr (Sum.inl (a.1, (a.2.1, (a.2.2.1, (a.2.2.2.1, (a.2.2.2.2.1, (a.2.2.2.2.2.1, ()))))))))) (
 opt.need _ (p.and Bool.true (p.and Bool.true Bool.true)) <|
 opt.bnd ((LD × T64)) _ (
 opt.run ((LD × T64)) (
 opt.ask _ (p.cmp .lss (p.ar .sub .i64 (p.ar .mul .i64 (p.ar .sub .i64 (p.rdI a.2.2.2.2.2.1 (p.nat (p.ar .rem .i64 (p.ar .add .i64 a.2.2.2.2.2.2.2.2.1 (1 : Int)) (p.ofNat (p.len a.2.2.2.2.2.1)))) 0) (p.rdI a.2.2.2.2.2.2.1 (p.nat a.2.2.2.2.2.2.2.2.1) 0)) (p.ar .sub .i64 a.2.2.1 (p.ar .mul .i64 (p.rdI a.2.2.2.2.2.2.1 (p.nat a.2.2.2.2.2.2.2.2.1) 1) a.2.2.2.1))) (p.ar .mul .i64 (p.ar .sub .i64 (p.rdI a.2.2.2.2.2.1 (p.nat (p.ar .rem .i64 (p.ar .add .i64 a.2.2.2.2.2.2.2.2.1 (1 : Int)) (p.ofNat (p.len a.2.2.2.2.2.1)))) 1) (p.rdI a.2.2.2.2.2.2.1 (p.nat a.2.2.2.2.2.2.2.2.1) 1)) (p.ar .sub .i64 a.2.1 (p.ar .mul .i64 (p.rdI a.2.2.2.2.2.2.1 (p.nat a.2.2.2.2.2.2.2.2.1) 0) a.2.2.2.1)))) (0 : Int)) (
 opt.ret _ (a.1, (a.2.1, (a.2.2.1, (a.2.2.2.1, (a.2.2.2.2.1, (a.2.2.2.2.2.1, ((p.rdI a.2.2.2.2.2.2.1 (p.nat a.2.2.2.2.2.2.2.2.1) 0), ((p.rdI a.2.2.2.2.2.2.1 (p.nat a.2.2.2.2.2.2.2.2.1) 1), ((p.ar .sub .i64 (p.rdI a.2.2.2.2.2.1 (p.nat (p.ar .rem .i64 (p.ar .add .i64 a.2.2.2.2.2.2.2.2.1 (1 : Int)) (p.ofNat (p.len a.2.2.2.2.2.1)))) 0) (p.rdI a.2.2.2.2.2.2.1 (p.nat a.2.2.2.2.2.2.2.2.1) 0)), ((p.ar .sub .i64 (p.rdI a.2.2.2.2.2.1 (p.nat (p.ar .rem .i64 (p.ar .add .i64 a.2.2.2.2.2.2.2.2.1 (1 : Int)) (p.ofNat (p.len a.2.2.2.2.2.1)))) 1) (p.rdI a.2.2.2.2.2.2.1 (p.nat a.2.2.2.2.2.2.2.2.1) 1)), (Bool.true, ())))))))))))) (
 opt.ask _ (p.cmp .eql (p.ofNat (p.len a.1)) (2 : Int)) (
 opt.ret _ (a.1, (a.2.1, (a.2.2.1, (a.2.2.2.1, (a.2.2.2.2.1, (a.2.2.2.2.2.1, ((p.rdI a.2.2.2.2.2.2.1 (p.nat a.2.2.2.2.2.2.2.2.1) 0), ((p.rdI a.2.2.2.2.2.2.1 (p.nat a.2.2.2.2.2.2.2.2.1) 1), ((p.ar .sub .i64 (p.rdI a.2.2.2.2.2.1 (p.nat (p.ar .rem .i64 (p.ar .add .i64 a.2.2.2.2.2.2.2.2.1 (1 : Int)) (p.ofNat (p.len a.2.2.2.2.2.1)))) 0) (p.rdI a.2.2.2.2.2.2.1 (p.nat a.2.2.2.2.2.2.2.2.1) 0)), ((p.ar .sub .i64 (p.rdI a.2.2.2.2.2.1 (p.nat (p.ar .rem .i64 (p.ar .add .i64 a.2.2.2.2.2.2.2.2.1 (1 : Int)) (p.ofNat (p.len a.2.2.2.2.2.1)))) 1) (p.rdI a.2.2.2.2.2.2.1 (p.nat a.2.2.2.2.2.2.2.2.1) 1)), ((p.cmp .lss (p.ar .add .i64 (p.ar .mul .i64 (p.ar .sub .i64 (p.rdI a.2.2.2.2.2.1 (p.nat (p.ar .rem .i64 (p.ar .add .i64 a.2.2.2.2.2.2.2.2.1 (1 : Int)) (p.ofNat (p.len a.2.2.2.2.2.1)))) 0) (p.rdI a.2.2.2.2.2.2.1 (p.nat a.2.2.2.2.2.2.2.2.1) 0)) (p.ar .sub .i64 a.2.1 (p.ar .mul .i64 (p.rdI a.2.2.2.2.2.2.1 (p.nat a.2.2.2.2.2.2.2.2.1) 0) a.2.2.2.1))) (p.ar .mul .i64 (p.ar .sub .i64 (p.rdI a.2.2.2.2.2.1 (p.nat (p.ar .rem .i64 (p.ar .add .i64 a.2.2.2.2.2.2.2.2.1 (1 : Int)) (p.ofNat (p.len a.2.2.2.2.2.1)))) 1) (p.rdI a.2.2.2.2.2.2.1 (p.nat a.2.2.2.2.2.2.2.2.1) 1)) (p.ar .sub .i64 a.2.2.1 (p.ar .mul .i64 (p.rdI a.2.2.2.2.2.2.1 (p.nat a.2.2.2.2.2.2.2.2.1) 1) a.2.2.2.1)))) (0 : Int)), ())))))))))))) (
 opt.ret _ (a.1, (a.2.1, (a.2.2.1, (a.2.2.2.1, (a.2.2.2.2.1, (a.2.2.2.2.2.1, ((p.rdI a.2.2.2.2.2.2.1 (p.nat a.2.2.2.2.2.2.2.2.1) 0), ((p.rdI a.2.2.2.2.2.2.1 (p.nat a.2.2.2.2.2.2.2.2.1) 1), ((p.ar .sub .i64 (p.rdI a.2.2.2.2.2.1 (p.nat (p.ar .rem .i64 (p.ar .add .i64 a.2.2.2.2.2.2.2.2.1 (1 : Int)) (p.ofNat (p.len a.2.2.2.2.2.1)))) 0) (p.rdI a.2.2.2.2.2.2.1 (p.nat a.2.2.2.2.2.2.2.2.1) 0)), ((p.ar .sub .i64 (p.rdI a.2.2.2.2.2.1 (p.nat (p.ar .rem .i64 (p.ar .add .i64 a.2.2.2.2.2.2.2.2.1 (1 : Int)) (p.ofNat (p.len a.2.2.2.2.2.1)))) 1) (p.rdI a.2.2.2.2.2.2.1 (p.nat a.2.2.2.2.2.2.2.2.1) 1)), (Bool.false, ()))))))))))))))) fun b =>
 opt.ask _ b.2.2.2.2.2.2.2.2.2.2.1 (
 opt.ret _ (Sum.inr (Sum.inr (Sum.inl (b.1, (b.2.1, (b.2.2.1, (b.2.2.2.1, (Bool.false, (b.2.2.2.2.2.1, ())))))))))) (
 opt.ret _ (Sum.inl (b.1, (b.2.1, (b.2.2.1, (b.2.2.2.1, (b.2.2.2.2.1, (b.2.2.2.2.2.1, (a.2.2.2.2.2.2.1, (a.2.2.2.2.2.2.2.1, ((p.ar .add .i64 a.2.2.2.2.2.2.2.2.1 (1 : Int)), ()))))))))))))) (
 opt.ret _ (Sum.inr (Sum.inr (Sum.inr (a.1, (a.2.1, (a.2.2.1, (a.2.2.2.1, (a.2.2.2.2.1, (a.2.2.2.2.2.1, ())))))))))))
def g57 (it : It) : (p : Prim) → (LD × T7) → Option T2 :=
 fun p x =>
 opt.ask _ (p.cmp .eql (p.ofNat (p.len x.1)) (1 : Int)) (
 opt.need _ (p.rowOk x.1 (p.nat (0 : Int)) [ci, ci]) <|
 opt.need _ (p.and Bool.true (p.and Bool.true Bool.true)) <|
 opt.ret _ ((bif (p.cmp .eql x.2.1 (p.ar .mul .i64 (p.rdI x.1 (p.nat (0 : Int)) 0) x.2.2.2.1)) then (bif (p.cmp .eql x.2.2.1 (p.ar .mul .i64 (p.rdI x.1 (p.nat (0 : Int)) 1) x.2.2.2.1)) then Bool.true else Bool.false) else Bool.false), ())) (
 opt.alt T2 T2 _ (
 opt.run (((Bool × Unit) ⊕ (Bool × Unit))) (
 opt.alt ((LD × T12)) (((LD × T12) ⊕ (LD × T12))) _ (
 it _ _ (b57_1 p) (x.1, (x.2.1, (x.2.2.1, (x.2.2.2.1, (Bool.false, (x.1, (x.1, ((p.ofNat (p.len x.1)), ((0 : Int), ())))))))))) (fun a =>
 opt.ret _ (Sum.inl (a.2.2.2.2.1, ()))) (fun b =>
 opt.alt ((LD × T12)) ((LD × T12)) _ (some b) (fun c =>
 opt.ret _ (Sum.inr (c.2.2.2.2.1, ()))) (fun d =>
 opt.bnd ((LD × T12)) _ (some d) fun e =>
 opt.ret _ (Sum.inl (e.2.2.2.2.1, ())))))) (fun f =>
 opt.ret _ (Bool.true, ())) (fun g =>
 opt.bnd T2 _ (some g) fun h =>
 opt.ret _ (h.1, ())))
def G57 := g57 it0
theorem ok57 : CtrOk PG ctr57 (G57 std) := okF (a := an57) (l := la57) (gN) (by kernel_rfl) fun _ _ => by kernel_rfl
def ctr77 : Ctr :=
 ⟨77, [.int .i64], [], [(.ret, ⟨[(0, .int .i64)], [], 1⟩)]⟩
def la77 : List LA :=
 []
def ja77 : List JA :=
 []
def gam77 : List CF :=
 []
def an77 : Anns :=
 ⟨gam77, ja77, []⟩
def G77 : (p : Prim) → T1 → Option T0 :=
 fun p x =>
 opt.ret _ ((p.mm .gtr x.1 (p.ar .sub .i64 (0 : Int) x.1)), ())
theorem ok77 : CtrOk PG ctr77 (G77 std) := okF (a := an77) (l := la77) (gN) (by kernel_rfl) fun _ _ => by kernel_rfl
def ctr93 : Ctr :=
 ⟨93, [.list 1], [], [(.ret, ⟨[(0, .int .i64)], [], 1⟩)]⟩
def la93 : List LA :=
 [⟨93, [false, true, false, true, true], 0, ⟨⟨[(3, .int .i64), (6, .list 1), (7, .int .i64), (8, .int .i64)], [], 22⟩, [((AX.exit 0), ⟨[(3, .int .i64)], [], 22⟩)]⟩⟩,
 ⟨93, [false, true, true, false, false, true, true, false, false, true, false, true, true], 0, ⟨⟨[(3, .int .i64), (5, .int .i64), (6, .list 1), (7, .int .i64), (8, .int .i64)], [], 22⟩, [((AX.exit 2), ⟨[(3, .int .i64), (6, .list 1), (7, .int .i64), (8, .int .i64)], [], 22⟩)]⟩⟩]
def ja93 : List JA :=
 []
def gam93 : List CF :=
 [⟨ctr77, G77⟩]
def an93 : Anns :=
 ⟨gam93, ja93, []⟩
def b93_2 (p : Prim) : T53 → Option ((Int × (Int × (LD × (Int × (Int × Unit))))) ⊕ (Int × (LD × (Int × (Int × Unit))))) :=
 fun a => opt.run _ (
 opt.ask _ (p.cmp .neq a.2.1 (0 : Int)) (
 opt.need _ (p.cmp .neq a.2.1 (0 : Int)) <|
 opt.ret _ (Sum.inl (a.2.1, ((p.ar .rem .i64 a.1 a.2.1), (a.2.2.1, (a.2.2.2.1, (a.2.2.2.2.1, ()))))))) (
 opt.ret _ (Sum.inr (a.1, (a.2.2.1, (a.2.2.2.1, (a.2.2.2.2.1, ())))))))
def c93_1 (it : It) (p : Prim) : T48 → Option ((Int × (LD × (Int × (Int × Unit)))) ⊕ (Int × Unit)) :=
 fun a => opt.run _ (
 opt.ask _ (p.cmp .lss a.2.2.2.1 a.2.2.1) (
 opt.need _ (p.rowOk a.2.1 (p.nat a.2.2.2.1) [ci]) <|
 opt.need _ (p.cmp .geq a.2.2.2.1 (0 : Int)) <|
 opt.bnd T0 _ (G77 p ((p.rdI a.2.1 (p.nat a.2.2.2.1) 0), ())) fun b =>
 opt.bnd ((Int × (LD × (Int × (Int × Unit))))) _ (
 it _ _ (b93_2 p) (a.1, (b.1, (a.2.1, (a.2.2.1, (a.2.2.2.1, ())))))) fun c =>
 opt.ret _ (Sum.inl (c.1, (c.2.1, (c.2.2.1, ((p.ar .add .i64 c.2.2.2.1 (1 : Int)), ())))))) (
 opt.ret _ (Sum.inr (a.1, ()))))
def g93 (it : It) : (p : Prim) → (LD × Unit) → Option T0 :=
 fun p x =>
 opt.bnd T0 _ (
 it _ _ (c93_1 it p) ((0 : Int), (x.1, ((p.ofNat (p.len x.1)), ((0 : Int), ()))))) fun a =>
 opt.ret _ (a.1, ())
def G93 := g93 it0
theorem ok93 : CtrOk PG ctr93 (G93 std) := okF (a := an93) (l := la93) (gC ok77 (gN)) (by kernel_rfl) fun _ _ => by kernel_rfl
def ctr65 : Ctr :=
 ⟨65, [.int .i64, .int .i64], [], [(.ret, ⟨[(0, .agg [.int .i64, .int .i64])], [], 1⟩)]⟩
def la65 : List LA :=
 []
def ja65 : List JA :=
 []
def gam65 : List CF :=
 [⟨ctr93, G93⟩]
def an65 : Anns :=
 ⟨gam65, ja65, []⟩
def g65 (it : It) : (p : Prim) → T3 → Option T4 :=
 fun p x =>
 opt.need _ (p.and (p.leN (p.add 0 2) (p.len [[(D.int .i64 x.1)], [(D.int .i64 x.2.1)]])) Bool.true) <|
 opt.bnd T0 _ (g93 it p ((p.cut [[(D.int .i64 x.1)], [(D.int .i64 x.2.1)]] 0 2), ())) fun a =>
 opt.need _ (p.cmp .neq a.1 (0 : Int)) <|
 opt.need _ (p.cmp .neq a.1 (0 : Int)) <|
 opt.ret _ ((p.ar .quo .i64 x.1 a.1), ((p.ar .quo .i64 x.2.1 a.1), ()))
def G65 := g65 it0
theorem ok65 : CtrOk PG ctr65 (G65 std) := okF (a := an65) (l := la65) (gC ok93 (gN)) (by kernel_rfl) fun _ _ => by kernel_rfl
def ctr71 : Ctr :=
 ⟨71, [.agg [.int .i64, .int .i64], .agg [.int .i64, .int .i64]], [], [(.ret, ⟨[(0, .bool)], [], 1⟩)]⟩
def la71 : List LA :=
 []
def ja71 : List JA :=
 [⟨71, [false, false, true, true, true, true], 0, [(AX.normal, ⟨[(2, .bptr 0 0), (3, .bptr 1 0), (7, .int .i64), (8, .int .i64), (40, .bool)], [.box [.int .i64, .int .i64], .box [.int .i64, .int .i64]], 53⟩)]⟩]
def gam71 : (Prim → Tup (ctr71).scs → Option (STup (scss (ctr71).outs))) → List CF :=
 fun R => [⟨ctr71, R⟩]
def an71 : (Prim → Tup (ctr71).scs → Option (STup (scss (ctr71).outs))) → Anns :=
 fun R => ⟨gam71 R, ja71, []⟩
def G71 : (Prim → Tup (ctr71).scs → Option (STup (scss (ctr71).outs))) → (p : Prim) → T11 → Option T2 :=
 fun R => fun p x =>
 opt.need _ (p.cmp .neq x.2.1 (0 : Int)) <|
 opt.need _ (p.cmp .neq x.2.2.2.1 (0 : Int)) <|
 opt.ask _ (p.cmp .neq (p.ar .quo .i64 x.1 x.2.1) (p.ar .quo .i64 x.2.2.1 x.2.2.2.1)) (
 opt.ret _ ((p.cmp .lss (p.ar .quo .i64 x.1 x.2.1) (p.ar .quo .i64 x.2.2.1 x.2.2.2.1)), ())) (
 opt.need _ (p.cmp .neq x.2.1 (0 : Int)) <|
 opt.need _ (p.cmp .neq x.2.2.2.1 (0 : Int)) <|
 opt.bnd T46 _ (
 opt.run T46 (
 opt.ask _ (p.cmp .eql (p.ar .rem .i64 x.1 x.2.1) (0 : Int)) (
 opt.ret _ (x.1, (x.2.1, (x.2.2.1, (x.2.2.2.1, ((p.ar .rem .i64 x.1 x.2.1), ((p.ar .rem .i64 x.2.2.1 x.2.2.2.1), (Bool.true, ())))))))) (
 opt.ret _ (x.1, (x.2.1, (x.2.2.1, (x.2.2.2.1, ((p.ar .rem .i64 x.1 x.2.1), ((p.ar .rem .i64 x.2.2.1 x.2.2.2.1), ((p.cmp .eql (p.ar .rem .i64 x.2.2.1 x.2.2.2.1) (0 : Int)), ())))))))))) fun a =>
 opt.ask _ a.2.2.2.2.2.2.1 (
 opt.ret _ ((p.cmp .lss a.2.2.2.2.1 a.2.2.2.2.2.1), ())) (
 opt.bnd T2 _ (R p (a.2.2.2.1, (a.2.2.2.2.2.1, (a.2.1, (a.2.2.2.2.1, ()))))) fun b =>
 opt.ret _ (b.1, ())))
def Fr71 : Nat → Prim → Tup (ctr71).scs → Option (STup (scss (ctr71).outs)) :=
 fun n => Nat.rec (motive := fun _ => (Prim → Tup (ctr71).scs → Option (STup (scss (ctr71).outs)))) (fun _ _ => none) (fun _ f p x => G71 f p x) n
def F71 : Prim → Tup (ctr71).scs → Option (STup (scss (ctr71).outs)) :=
 Fr71 100
theorem eq71 (R : (Prim → Tup (ctr71).scs → Option (STup (scss (ctr71).outs)))) (p : Prim) (x : Tup (ctr71).scs) : bodyRun opt p (autoEnv Go.Proofs.Try.prog) (mkOrc opt p (autoEnv Go.Proofs.Try.prog) 400 (an71 R) la71) 400 ctr71 x = G71 R p x := by kernel_rfl
theorem gok71 (R : (Prim → Tup (ctr71).scs → Option (STup (scss (ctr71).outs)))) (hR : CtrOk Go.Proofs.Try.prog ctr71 (R std)) : GamOk Go.Proofs.Try.prog (gam71 R) := by
 intro cf h
 simp only [gam71, List.mem_cons, List.not_mem_nil, or_false] at h
 rcases h with rfl
 ·exact hR
theorem enters71 : Enters Go.Proofs.Try.prog 71 := enters_auto (b := _) rfl (by kernel_rfl)
theorem ok71_step (R : (Prim → Tup (ctr71).scs → Option (STup (scss (ctr71).outs)))) (hR : CtrOk Go.Proofs.Try.prog ctr71 (R std)) : CtrOk Go.Proofs.Try.prog ctr71 (fun x => G71 R std x) := ctr_of_body (autoEnv_ok follows_mixed) (mkOrc_ok (autoEnv_ok follows_mixed) (gok71 R hR) _) enters71 (fun x => eq71 R std x)
theorem ok71_n : ∀ n, CtrOk Go.Proofs.Try.prog ctr71 (Fr71 n std)
 | 0 => ⟨enters71, fun x y h => nomatch h⟩
 | n + 1 => ok71_step (Fr71 n) (ok71_n n)
theorem ok71 : CtrOk Go.Proofs.Try.prog ctr71 (F71 std) := ok71_n 100
def ctr76 : Ctr :=
 ⟨76, [.agg [.int .i64, .int .i64, .int .i64, .int .i64], .agg [.int .i64, .int .i64, .int .i64, .int .i64]], [], [(.ret, ⟨[(0, .tuple [.agg [.int .i64, .int .i64, .int .i64], .bool])], [], 1⟩)]⟩
def la76 : List LA :=
 []
def ja76 : List JA :=
 [⟨76, [true, false, true, true, true, true], 0, [(AX.normal, ⟨[(2, .bptr 0 0), (4, .bptr 1 0), (6, .int .i64), (8, .int .i64), (9, .int .i64)], [.box [.int .i64, .int .i64, .int .i64, .int .i64], .box [.int .i64, .int .i64, .int .i64]], 101⟩)]⟩,
 ⟨76, [false, false, true, true, true, true, true], 0, [(AX.normal, ⟨[(2, .bptr 0 0), (4, .bptr 1 0), (6, .int .i64), (8, .int .i64), (57, .bool)], [.box [.int .i64, .int .i64, .int .i64, .int .i64], .box [.int .i64, .int .i64, .int .i64]], 101⟩)]⟩]
def gam76 : List CF :=
 [⟨ctr93, G93⟩]
def an76 : Anns :=
 ⟨gam76, ja76, []⟩
def g76 (it : It) : (p : Prim) → (Int × (Int × (Int × (Int × (Int × (Int × (Int × (Int × Unit)))))))) → Option T20 :=
 fun p x =>
 opt.bnd T65 _ (
 opt.run T65 (
 opt.ask _ (p.cmp .lss (p.ar .sub .i64 (p.ar .mul .i64 x.2.2.1 x.2.2.2.2.2.2.2.1) (p.ar .mul .i64 x.2.2.2.1 x.2.2.2.2.2.2.1)) (0 : Int)) (
 opt.ret _ (x.1, (x.2.1, (x.2.2.1, (x.2.2.2.1, ((0 : Int), ((0 : Int), ((0 : Int), ((p.ar .sub .i64 (0 : Int) (p.ar .sub .i64 (p.ar .mul .i64 x.2.2.1 x.2.2.2.2.2.2.2.1) (p.ar .mul .i64 x.2.2.2.1 x.2.2.2.2.2.2.1))), ((p.ar .sub .i64 (0 : Int) (p.ar .sub .i64 (p.ar .mul .i64 (p.ar .sub .i64 x.2.2.2.2.1 x.1) x.2.2.2.2.2.2.2.1) (p.ar .mul .i64 (p.ar .sub .i64 x.2.2.2.2.2.1 x.2.1) x.2.2.2.2.2.2.1))), ((p.ar .sub .i64 (0 : Int) (p.ar .sub .i64 (p.ar .mul .i64 (p.ar .sub .i64 x.2.2.2.2.1 x.1) x.2.2.2.1) (p.ar .mul .i64 (p.ar .sub .i64 x.2.2.2.2.2.1 x.2.1) x.2.2.1))), ()))))))))))) (
 opt.ret _ (x.1, (x.2.1, (x.2.2.1, (x.2.2.2.1, ((0 : Int), ((0 : Int), ((0 : Int), ((p.ar .sub .i64 (p.ar .mul .i64 x.2.2.1 x.2.2.2.2.2.2.2.1) (p.ar .mul .i64 x.2.2.2.1 x.2.2.2.2.2.2.1)), ((p.ar .sub .i64 (p.ar .mul .i64 (p.ar .sub .i64 x.2.2.2.2.1 x.1) x.2.2.2.2.2.2.2.1) (p.ar .mul .i64 (p.ar .sub .i64 x.2.2.2.2.2.1 x.2.1) x.2.2.2.2.2.2.1)), ((p.ar .sub .i64 (p.ar .mul .i64 (p.ar .sub .i64 x.2.2.2.2.1 x.1) x.2.2.2.1) (p.ar .mul .i64 (p.ar .sub .i64 x.2.2.2.2.2.1 x.2.1) x.2.2.1)), ()))))))))))))) fun a =>
 opt.bnd T31 _ (
 opt.run T31 (
 opt.ask _ (p.cmp .eql a.2.2.2.2.2.2.2.1 (0 : Int)) (
 opt.ret _ (a.1, (a.2.1, (a.2.2.1, (a.2.2.2.1, (a.2.2.2.2.1, (a.2.2.2.2.2.1, (a.2.2.2.2.2.2.1, (a.2.2.2.2.2.2.2.1, (a.2.2.2.2.2.2.2.2.1, (Bool.true, ()))))))))))) (
 opt.ask _ (p.cmp .lss a.2.2.2.2.2.2.2.2.1 (0 : Int)) (
 opt.ret _ (a.1, (a.2.1, (a.2.2.1, (a.2.2.2.1, (a.2.2.2.2.1, (a.2.2.2.2.2.1, (a.2.2.2.2.2.2.1, (a.2.2.2.2.2.2.2.1, (a.2.2.2.2.2.2.2.2.1, (Bool.true, ()))))))))))) (
 opt.ask _ (p.cmp .gtr a.2.2.2.2.2.2.2.2.1 a.2.2.2.2.2.2.2.1) (
 opt.ret _ (a.1, (a.2.1, (a.2.2.1, (a.2.2.2.1, (a.2.2.2.2.1, (a.2.2.2.2.2.1, (a.2.2.2.2.2.2.1, (a.2.2.2.2.2.2.2.1, (a.2.2.2.2.2.2.2.2.1, (Bool.true, ()))))))))))) (
 opt.ask _ (p.cmp .lss a.2.2.2.2.2.2.2.2.2.1 (0 : Int)) (
 opt.ret _ (a.1, (a.2.1, (a.2.2.1, (a.2.2.2.1, (a.2.2.2.2.1, (a.2.2.2.2.2.1, (a.2.2.2.2.2.2.1, (a.2.2.2.2.2.2.2.1, (a.2.2.2.2.2.2.2.2.1, (Bool.true, ()))))))))))) (
 opt.ret _ (a.1, (a.2.1, (a.2.2.1, (a.2.2.2.1, (a.2.2.2.2.1, (a.2.2.2.2.2.1, (a.2.2.2.2.2.2.1, (a.2.2.2.2.2.2.2.1, (a.2.2.2.2.2.2.2.2.1, ((p.cmp .gtr a.2.2.2.2.2.2.2.2.2.1 a.2.2.2.2.2.2.2.1), ())))))))))))))))) fun b =>
 opt.ask _ b.2.2.2.2.2.2.2.2.2.1 (
 opt.ret _ ((0 : Int), ((0 : Int), ((0 : Int), (Bool.false, ()))))) (
 opt.need _ (p.and (p.leN (p.add 0 3) (p.len [[(D.int .i64 (p.ar .add .i64 (p.ar .mul .i64 b.1 b.2.2.2.2.2.2.2.1) (p.ar .mul .i64 b.2.2.1 b.2.2.2.2.2.2.2.2.1)))], [(D.int .i64 (p.ar .add .i64 (p.ar .mul .i64 b.2.1 b.2.2.2.2.2.2.2.1) (p.ar .mul .i64 b.2.2.2.1 b.2.2.2.2.2.2.2.2.1)))], [(D.int .i64 b.2.2.2.2.2.2.2.1)]])) Bool.true) <|
 opt.bnd T0 _ (g93 it p ((p.cut [[(D.int .i64 (p.ar .add .i64 (p.ar .mul .i64 b.1 b.2.2.2.2.2.2.2.1) (p.ar .mul .i64 b.2.2.1 b.2.2.2.2.2.2.2.2.1)))], [(D.int .i64 (p.ar .add .i64 (p.ar .mul .i64 b.2.1 b.2.2.2.2.2.2.2.1) (p.ar .mul .i64 b.2.2.2.1 b.2.2.2.2.2.2.2.2.1)))], [(D.int .i64 b.2.2.2.2.2.2.2.1)]] 0 3), ())) fun c =>
 opt.need _ (p.cmp .neq c.1 (0 : Int)) <|
 opt.need _ (p.cmp .neq c.1 (0 : Int)) <|
 opt.need _ (p.cmp .neq c.1 (0 : Int)) <|
 opt.ret _ ((p.ar .quo .i64 (p.ar .add .i64 (p.ar .mul .i64 b.1 b.2.2.2.2.2.2.2.1) (p.ar .mul .i64 b.2.2.1 b.2.2.2.2.2.2.2.2.1)) c.1), ((p.ar .quo .i64 (p.ar .add .i64 (p.ar .mul .i64 b.2.1 b.2.2.2.2.2.2.2.1) (p.ar .mul .i64 b.2.2.2.1 b.2.2.2.2.2.2.2.2.1)) c.1), ((p.ar .quo .i64 b.2.2.2.2.2.2.2.1 c.1), (Bool.true, ())))))
def G76 := g76 it0
theorem ok76 : CtrOk PG ctr76 (G76 std) := okF (a := an76) (l := la76) (gC ok93 (gN)) (by kernel_rfl) fun _ _ => by kernel_rfl
def ctr68 : Ctr :=
 ⟨68, [.agg [.int .i64, .int .i64], .agg [.int .i64, .int .i64, .int .i64, .int .i64]], [], [(.ret, ⟨[(0, .tuple [.agg [.int .i64, .int .i64], .bool])], [], 1⟩)]⟩
def la68 : List LA :=
 []
def ja68 : List JA :=
 [⟨68, [false, false, true, true, true], 0, [(AX.normal, ⟨[(3, .bptr 0 0), (4, .bptr 1 0), (6, .bptr 2 0), (8, .int .i64), (29, .bool)], [.box [.int .i64, .int .i64, .int .i64, .int .i64], .box [.int .i64, .int .i64], .box [.int .i64, .int .i64]], 40⟩)]⟩]
def gam68 : List CF :=
 [⟨ctr65, G65⟩]
def an68 : Anns :=
 ⟨gam68, ja68, []⟩
def g68 (it : It) : (p : Prim) → T54 → Option T17 :=
 fun p x =>
 opt.bnd T31 _ (
 opt.run T31 (
 opt.ask _ (p.cmp .leq (p.ar .add .i64 (p.ar .mul .i64 x.2.2.2.2.1 (p.ar .sub .i64 x.1 x.2.2.1)) (p.ar .mul .i64 x.2.2.2.2.2.1 (p.ar .sub .i64 x.2.1 x.2.2.2.1))) (0 : Int)) (
 opt.ret _ (x.2.2.1, (x.2.2.2.1, (x.2.2.2.2.1, (x.2.2.2.2.2.1, ((0 : Int), ((0 : Int), ((p.ar .sub .i64 x.1 x.2.2.1), ((p.ar .sub .i64 x.2.1 x.2.2.2.1), ((p.ar .add .i64 (p.ar .mul .i64 x.2.2.2.2.1 x.2.2.2.2.1) (p.ar .mul .i64 x.2.2.2.2.2.1 x.2.2.2.2.2.1)), (Bool.true, ()))))))))))) (
 opt.ret _ (x.2.2.1, (x.2.2.2.1, (x.2.2.2.2.1, (x.2.2.2.2.2.1, ((0 : Int), ((0 : Int), ((p.ar .sub .i64 x.1 x.2.2.1), ((p.ar .sub .i64 x.2.1 x.2.2.2.1), ((p.ar .add .i64 (p.ar .mul .i64 x.2.2.2.2.1 x.2.2.2.2.1) (p.ar .mul .i64 x.2.2.2.2.2.1 x.2.2.2.2.2.1)), ((p.cmp .geq (p.ar .add .i64 (p.ar .mul .i64 x.2.2.2.2.1 (p.ar .sub .i64 x.1 x.2.2.1)) (p.ar .mul .i64 x.2.2.2.2.2.1 (p.ar .sub .i64 x.2.1 x.2.2.2.1))) (p.ar .add .i64 (p.ar .mul .i64 x.2.2.2.2.1 x.2.2.2.2.1) (p.ar .mul .i64 x.2.2.2.2.2.1 x.2.2.2.2.2.1))), ()))))))))))))) fun a =>
 opt.ask _ a.2.2.2.2.2.2.2.2.2.1 (
 opt.ret _ ((0 : Int), ((0 : Int), (Bool.false, ())))) (
 opt.bnd T4 _ (g65 it p ((p.ar .mul .i64 (p.ar .sub .i64 (p.ar .mul .i64 a.2.2.1 a.2.2.2.2.2.2.2.1) (p.ar .mul .i64 a.2.2.2.1 a.2.2.2.2.2.2.1)) (p.ar .sub .i64 (p.ar .mul .i64 a.2.2.1 a.2.2.2.2.2.2.2.1) (p.ar .mul .i64 a.2.2.2.1 a.2.2.2.2.2.2.1))), (a.2.2.2.2.2.2.2.2.1, ()))) fun b =>
 opt.ret _ (b.1, (b.2.1, (Bool.true, ()))))
def G68 := g68 it0
theorem ok68 : CtrOk PG ctr68 (G68 std) := okF (a := an68) (l := la68) (gC ok65 (gN)) (by kernel_rfl) fun _ _ => by kernel_rfl
end Go.Am
end
noncomputable section
namespace Go.Am
def ctr21 : Ctr :=
 ⟨21, [.agg [.list 2, .list 1], .agg [.int .i64, .int .i64]], [], [(.ret, ⟨[(0, .tuple [.bool, .int .i64])], [], 1⟩)]⟩
def la21 : List LA :=
 []
def ja21 : List JA :=
 []
def gam21 : List CF :=
 [⟨ctr57, G57⟩, ⟨ctr53, G53⟩, ⟨ctr48, G48⟩]
def an21 : Anns :=
 ⟨gam21, ja21, []⟩
def g21 (it : It) : (p : Prim) → (LD × (LD × T3)) → Option T22 :=
 fun p x =>
 opt.alt T0 ((LD × (LD × (LD × T1)))) _ (g48 it p (x.1, (x.2.1, ()))) (fun a =>
 opt.ask _ (p.cmp .neq a.1 (0 : Int)) (
 opt.ret _ (Bool.false, (a.1, ()))) (
 opt.need _ (p.and Bool.true (p.and Bool.true (p.and (p.leN (p.add 0 1) (p.len [[(D.int .i64 x.2.2.1), (D.int .i64 x.2.2.2.1)]])) Bool.true))) <|
 opt.bnd T2 _ (g53 it p ((-1099511627776 : Int), ((1099511627776 : Int), ((p.cut [[(D.int .i64 x.2.2.1), (D.int .i64 x.2.2.2.1)]] 0 1), ())))) fun b =>
 opt.ask _ (bif b.1 then Bool.false else Bool.true) (
 opt.ret _ (Bool.false, ((3 : Int), ()))) (
 opt.no _ 41))) (fun c =>
 opt.bnd ((LD × (LD × (LD × T1)))) _ (some c) fun d =>
 opt.ask _ (p.cmp .neq d.2.2.2.1 (0 : Int)) (
 opt.ret _ (Bool.false, (d.2.2.2.1, ()))) (
 opt.need _ (p.and Bool.true (p.and Bool.true (p.and (p.leN (p.add 0 1) (p.len [[(D.int .i64 x.2.2.1), (D.int .i64 x.2.2.2.1)]])) Bool.true))) <|
 opt.bnd T2 _ (g53 it p ((-1099511627776 : Int), ((1099511627776 : Int), ((p.cut [[(D.int .i64 x.2.2.1), (D.int .i64 x.2.2.2.1)]] 0 1), ())))) fun e =>
 opt.ask _ (bif e.1 then Bool.false else Bool.true) (
 opt.ret _ (Bool.false, ((3 : Int), ()))) (
 opt.bnd T2 _ (g57 it p (d.2.2.1, (x.2.2.1, (x.2.2.2.1, ((1 : Int), ()))))) fun f =>
 opt.ret _ (f.1, ((0 : Int), ())))))
def G21 := g21 it0
theorem ok21 : CtrOk PG ctr21 (G21 std) := okF (a := an21) (l := la21) (gC ok57 (gC ok53 (gC ok48 (gN)))) (by kernel_rfl) fun _ _ => by kernel_rfl
def ctr23 : Ctr :=
 ⟨23, [.agg [.list 2, .list 1], .list 2], [], [(.ret, ⟨[(0, .tuple [.agg [.int .i64, .int .i64], .int .i64])], [], 1⟩)]⟩
def la23 : List LA :=
 [⟨23, [false, true, false, true, true, true, true], 0, ⟨⟨[(4, .bptr 0 0), (8, .list 2), (37, .list 2), (38, .int .i64), (39, .int .i64)], [.box [.int .i64, .int .i64]], 54⟩, [(AX.ret, ⟨[(4, .bptr 0 0), (5, .int .i64)], [.box [.int .i64, .int .i64]], 54⟩), ((AX.exit 1), ⟨[(4, .bptr 0 0)], [.box [.int .i64, .int .i64]], 54⟩)]⟩⟩]
def ja23 : List JA :=
 [⟨23, [true, true, true, false, false, true, true], 0, [(AX.ret, ⟨[(4, .bptr 0 0), (5, .int .i64)], [.box [.int .i64, .int .i64]], 54⟩), (AX.normal, ⟨[(1, .list 2), (4, .bptr 0 0), (6, .nilp)], [.box [.int .i64, .int .i64]], 54⟩), (AX.normal, ⟨[(1, .list 2), (4, .bptr 0 0), (6, .bptr 1 0)], [.box [.int .i64, .int .i64], .box [.list 2, .list 1, .list 2]], 54⟩)]⟩,
 ⟨23, [true, false, false, true, true], 0, [(AX.ret, ⟨[(4, .bptr 0 0), (5, .int .i64)], [.box [.int .i64, .int .i64]], 54⟩), (AX.normal, ⟨[(1, .list 2), (4, .bptr 0 0), (6, .nilp)], [.box [.int .i64, .int .i64]], 54⟩), (AX.normal, ⟨[(1, .list 2), (4, .bptr 0 0), (6, .bptr 1 0)], [.box [.int .i64, .int .i64], .box [.list 2, .list 1, .list 2]], 54⟩)]⟩]
def gam23 : List CF :=
 [⟨ctr57, G57⟩, ⟨ctr59, G59⟩, ⟨ctr60, G60⟩, ⟨ctr53, G53⟩, ⟨ctr50, G50⟩, ⟨ctr48, G48⟩]
def an23 : Anns :=
 ⟨gam23, ja23, []⟩
def c23_2 (it : It) (p : Prim) : T66 → Option T67 :=
 fun a => opt.run _ (
 opt.ask _ (p.cmp .lss a.2.2.2.2.2.1 a.2.2.2.2.1) (
 opt.need _ (p.rowOk a.2.2.2.1 (p.nat a.2.2.2.2.2.1) [ci, ci]) <|
 opt.need _ (p.cmp .geq a.2.2.2.2.2.1 (0 : Int)) <|
 opt.bnd T2 _ (g57 it p (a.2.2.1, ((p.rdI a.2.2.2.1 (p.nat a.2.2.2.2.2.1) 0), ((p.rdI a.2.2.2.1 (p.nat a.2.2.2.2.2.1) 1), ((1 : Int), ()))))) fun b =>
 opt.ask _ (bif b.1 then Bool.false else Bool.true) (
 opt.ret _ (Sum.inr (Sum.inl ((p.rdI a.2.2.2.1 (p.nat a.2.2.2.2.2.1) 0), ((p.rdI a.2.2.2.1 (p.nat a.2.2.2.2.2.1) 1), ((0 : Int), ())))))) (
 opt.ret _ (Sum.inl (a.1, (a.2.1, (a.2.2.1, (a.2.2.2.1, (a.2.2.2.2.1, ((p.ar .add .i64 a.2.2.2.2.2.1 (1 : Int)), ()))))))))) (
 opt.ret _ (Sum.inr (Sum.inr (a.1, (a.2.1, ()))))))
def c23_1 (it : It) (p : Prim) : T66 → Option T67 :=
 fun a => opt.run _ (
 opt.ask _ (p.cmp .lss a.2.2.2.2.2.1 a.2.2.2.2.1) (
 opt.need _ (p.rowOk a.2.2.2.1 (p.nat a.2.2.2.2.2.1) [ci, ci]) <|
 opt.need _ (p.cmp .geq a.2.2.2.2.2.1 (0 : Int)) <|
 opt.bnd T2 _ (g57 it p (a.2.2.1, ((p.rdI a.2.2.2.1 (p.nat a.2.2.2.2.2.1) 0), ((p.rdI a.2.2.2.1 (p.nat a.2.2.2.2.2.1) 1), ((1 : Int), ()))))) fun b =>
 opt.ask _ (bif b.1 then Bool.false else Bool.true) (
 opt.ret _ (Sum.inr (Sum.inl ((p.rdI a.2.2.2.1 (p.nat a.2.2.2.2.2.1) 0), ((p.rdI a.2.2.2.1 (p.nat a.2.2.2.2.2.1) 1), ((0 : Int), ())))))) (
 opt.ret _ (Sum.inl (a.1, (a.2.1, (a.2.2.1, (a.2.2.2.1, (a.2.2.2.2.1, ((p.ar .add .i64 a.2.2.2.2.2.1 (1 : Int)), ()))))))))) (
 opt.ret _ (Sum.inr (Sum.inr (a.1, (a.2.1, ()))))))
def g23 (it : It) : (p : Prim) → (LD × (LD × (LD × Unit))) → Option T6 :=
 fun p x =>
 opt.alt T0 ((LD × (LD × (LD × T1)))) _ (g48 it p (x.1, (x.2.1, ()))) (fun a =>
 opt.alt T6 T32 _ (
 opt.run T33 (
 opt.ask _ (p.cmp .neq a.1 (0 : Int)) (
 opt.ret _ (Sum.inl ((0 : Int), ((0 : Int), (a.1, ()))))) (
 opt.bnd T2 _ (G50 p (x.2.2.1, ())) fun b =>
 opt.alt T6 T32 _ (
 opt.run T33 (
 opt.ask _ (bif b.1 then Bool.false else Bool.true) (
 opt.ret _ (Sum.inl ((0 : Int), ((0 : Int), ((6 : Int), ()))))) (
 opt.bnd T2 _ (g53 it p ((-10000 : Int), ((10000 : Int), (x.2.2.1, ())))) fun c =>
 opt.ask _ (bif c.1 then Bool.false else Bool.true) (
 opt.ret _ (Sum.inl ((0 : Int), ((0 : Int), ((3 : Int), ()))))) (
 opt.ret _ (Sum.inr (Sum.inl ((0 : Int), ((0 : Int), (x.2.2.1, ()))))))))) (fun d =>
 opt.ret _ (Sum.inl (d.1, (d.2.1, (d.2.2.1, ()))))) (fun e =>
 opt.alt T21 T14 _ (some e) (fun f =>
 opt.ret _ (Sum.inr (Sum.inl (f.1, (f.2.1, (f.2.2.1, ())))))) (fun g =>
 opt.bnd T14 _ (some g) fun h =>
 opt.ret _ (Sum.inr (Sum.inr (h.1, (h.2.1, (h.2.2.1, (h.2.2.2.1, (h.2.2.2.2.1, (h.2.2.2.2.2.1, ()))))))))))))) (fun i =>
 opt.ret _ (i.1, (i.2.1, (i.2.2.1, ())))) (fun j =>
 opt.alt T21 T14 _ (some j) (fun k =>
 opt.bnd ((LD × Unit)) _ (g60 it p (k.2.2.1, ())) fun l =>
 opt.bnd ((LD × Unit)) _ (g59 it p (l.1, ())) fun m =>
 opt.no _ 41) (fun n =>
 opt.bnd T14 _ (some n) fun o =>
 opt.bnd ((LD × Unit)) _ (g60 it p (o.2.2.2.2.2.1, ())) fun q =>
 opt.bnd ((LD × Unit)) _ (g59 it p (q.1, ())) fun r =>
 opt.alt T6 T4 _ (
 it _ _ (c23_1 it p) (o.1, (o.2.1, (r.1, (o.2.2.2.2.1, ((p.ofNat (p.len o.2.2.2.2.1)), ((0 : Int), ()))))))) (fun t =>
 opt.ret _ (t.1, (t.2.1, (t.2.2.1, ())))) (fun u =>
 opt.bnd T4 _ (some u) fun v =>
 opt.ret _ ((0 : Int), ((0 : Int), ((5 : Int), ()))))))) (fun w =>
 opt.bnd ((LD × (LD × (LD × T1)))) _ (some w) fun z =>
 opt.alt T6 T32 _ (
 opt.run T33 (
 opt.ask _ (p.cmp .neq z.2.2.2.1 (0 : Int)) (
 opt.ret _ (Sum.inl ((0 : Int), ((0 : Int), (z.2.2.2.1, ()))))) (
 opt.bnd T2 _ (G50 p (x.2.2.1, ())) fun a1 =>
 opt.alt T6 T32 _ (
 opt.run T33 (
 opt.ask _ (bif a1.1 then Bool.false else Bool.true) (
 opt.ret _ (Sum.inl ((0 : Int), ((0 : Int), ((6 : Int), ()))))) (
 opt.bnd T2 _ (g53 it p ((-10000 : Int), ((10000 : Int), (x.2.2.1, ())))) fun b1 =>
 opt.ask _ (bif b1.1 then Bool.false else Bool.true) (
 opt.ret _ (Sum.inl ((0 : Int), ((0 : Int), ((3 : Int), ()))))) (
 opt.ret _ (Sum.inr (Sum.inr ((0 : Int), ((0 : Int), (z.1, (z.2.1, (z.2.2.1, (x.2.2.1, ())))))))))))) (fun c1 =>
 opt.ret _ (Sum.inl (c1.1, (c1.2.1, (c1.2.2.1, ()))))) (fun d1 =>
 opt.alt T21 T14 _ (some d1) (fun e1 =>
 opt.ret _ (Sum.inr (Sum.inl (e1.1, (e1.2.1, (e1.2.2.1, ())))))) (fun f1 =>
 opt.bnd T14 _ (some f1) fun g1 =>
 opt.ret _ (Sum.inr (Sum.inr (g1.1, (g1.2.1, (g1.2.2.1, (g1.2.2.2.1, (g1.2.2.2.2.1, (g1.2.2.2.2.2.1, ()))))))))))))) (fun h1 =>
 opt.ret _ (h1.1, (h1.2.1, (h1.2.2.1, ())))) (fun i1 =>
 opt.alt T21 T14 _ (some i1) (fun j1 =>
 opt.bnd ((LD × Unit)) _ (g60 it p (j1.2.2.1, ())) fun k1 =>
 opt.bnd ((LD × Unit)) _ (g59 it p (k1.1, ())) fun l1 =>
 opt.no _ 41) (fun m1 =>
 opt.bnd T14 _ (some m1) fun n1 =>
 opt.bnd ((LD × Unit)) _ (g60 it p (n1.2.2.2.2.2.1, ())) fun o1 =>
 opt.bnd ((LD × Unit)) _ (g59 it p (o1.1, ())) fun q1 =>
 opt.alt T6 T4 _ (
 it _ _ (c23_2 it p) (n1.1, (n1.2.1, (q1.1, (n1.2.2.2.2.1, ((p.ofNat (p.len n1.2.2.2.2.1)), ((0 : Int), ()))))))) (fun r1 =>
 opt.ret _ (r1.1, (r1.2.1, (r1.2.2.1, ())))) (fun t1 =>
 opt.bnd T4 _ (some t1) fun u1 =>
 opt.ret _ ((0 : Int), ((0 : Int), ((5 : Int), ())))))))
def G23 := g23 it0
theorem ok23 : CtrOk PG ctr23 (G23 std) := okF (a := an23) (l := la23) (gC ok57 (gC ok59 (gC ok60 (gC ok53 (gC ok50 (gC ok48 (gN))))))) (by kernel_rfl) fun _ _ => by kernel_rfl
end Go.Am
end
section
namespace M06
def ml (a : Pt) (den : Int) : Pt := (a.1 * den, a.2 * den)
def sideOk (n : Nat) (a b p : Pt) (den : Int) : Bool := if crs (sb b a) (sb p (ml a den)) < 0 then false else if n = 2 then !decide (dt (sb b a) (sb p (ml a den)) < 0) else true
def inC (c : List Pt) (p : Pt) (den : Int) : Bool :=
 if c.length = 1 then decide (p = ml (c.getD 0 (0, 0)) den) else (List.range c.length).all fun i => sideOk c.length (c.getD i (0, 0)) (c.getD ((i + 1) % c.length) (0, 0)) p den
def InH (S : List Pt) (p : Pt) (den : Int) : Prop := ∀ d : Pt, ∃ x ∈ S, 0 ≤ crs d (sb p (ml x den))
theorem InH.sub {S T : List Pt} {p : Pt} {k : Int} (h : InH S p k) (hs : ∀ x ∈ S, x ∈ T) : InH T p k := fun d => by
 obtain ⟨x, hx, h0⟩ := h d
 exact ⟨x, hs x hx, h0⟩
theorem getD_some {α : Type} {l : List α} {i : Nat} {a d : α} (h : l[i]? = some a) : l.getD i d = a := by simp [List.getD_eq_getElem?_getD, h]
end M06
end
section
namespace Go.Am
open M06
def Big (p : Pt) : Prop := inBox (-1099511627776) 1099511627776 p
theorem bnd_mul {a b A B : Int} (hA : 0 ≤ A) (h1 : -A ≤ a) (h2 : a ≤ A) (h3 : -B ≤ b) (h4 : b ≤ B) : -(A * B) ≤ a * b ∧ a * b ≤ A * B := by
 have e1 := Int.mul_nonneg (show 0 ≤ A - a by omega) (show 0 ≤ B - b by omega)
 have e2 := Int.mul_nonneg (show 0 ≤ A + a by omega) (show 0 ≤ B + b by omega)
 have e3 := Int.mul_nonneg (show 0 ≤ A - a by omega) (show 0 ≤ B + b by omega)
 have e4 := Int.mul_nonneg (show 0 ≤ A + a by omega) (show 0 ≤ B - b by omega)
 simp only [Int.sub_mul, Int.add_mul, Int.mul_sub, Int.mul_add] at e1 e2 e3 e4
 omega
theorem side_wraps {a b p : Pt} {den : Int} (ha : inBox (-10000) 10000 a) (hb : inBox (-10000) 10000 b) (hp : Big p) (hd : 1 ≤ den) (hd2 : den ≤ 268435456) :
  (IntKind.i64.wrap (b.1 - a.1) = (sb b a).1 ∧ IntKind.i64.wrap (b.2 - a.2) = (sb b a).2) ∧
  (IntKind.i64.wrap (a.1 * den) = (ml a den).1 ∧ IntKind.i64.wrap (a.2 * den) = (ml a den).2) ∧
  (IntKind.i64.wrap (p.1 - (ml a den).1) = (sb p (ml a den)).1 ∧ IntKind.i64.wrap (p.2 - (ml a den).2) = (sb p (ml a den)).2) ∧
  (IntKind.i64.wrap ((sb b a).1 * (sb p (ml a den)).2) = (sb b a).1 * (sb p (ml a den)).2 ∧ IntKind.i64.wrap ((sb b a).2 * (sb p (ml a den)).1) = (sb b a).2 * (sb p (ml a den)).1) ∧
  (IntKind.i64.wrap ((sb b a).1 * (sb p (ml a den)).1) = (sb b a).1 * (sb p (ml a den)).1 ∧ IntKind.i64.wrap ((sb b a).2 * (sb p (ml a den)).2) = (sb b a).2 * (sb p (ml a den)).2) ∧
  IntKind.i64.wrap ((sb b a).1 * (sb p (ml a den)).2 - (sb b a).2 * (sb p (ml a den)).1) = crs (sb b a) (sb p (ml a den)) ∧
  IntKind.i64.wrap ((sb b a).1 * (sb p (ml a den)).1 + (sb b a).2 * (sb p (ml a den)).2) = dt (sb b a) (sb p (ml a den)) := by
 obtain ⟨a1, a2, a3, a4⟩ := ha
 obtain ⟨b1, b2, b3, b4⟩ := hb
 obtain ⟨p1, p2, p3, p4⟩ := hp
 have m1 := bnd_mul (A := 10000) (B := 268435456) (a := a.1) (b := den) (by omega) (by omega) (by omega) (by omega) (by omega)
 have m2 := bnd_mul (A := 10000) (B := 268435456) (a := a.2) (b := den) (by omega) (by omega) (by omega) (by omega) (by omega)
 have s1 : -20000 ≤ (sb b a).1 ∧ (sb b a).1 ≤ 20000 := by simp only [sb]; omega
 have s2 : -20000 ≤ (sb b a).2 ∧ (sb b a).2 ≤ 20000 := by simp only [sb]; omega
 have q1 : -3783866187776 ≤ (sb p (ml a den)).1 ∧ (sb p (ml a den)).1 ≤ 3783866187776 := by simp only [sb, ml]; omega
 have q2 : -3783866187776 ≤ (sb p (ml a den)).2 ∧ (sb p (ml a den)).2 ≤ 3783866187776 := by simp only [sb, ml]; omega
 have r1 := bnd_mul (A := 20000) (B := 3783866187776) (by omega) s1.1 s1.2 q2.1 q2.2
 have r2 := bnd_mul (A := 20000) (B := 3783866187776) (by omega) s2.1 s2.2 q1.1 q1.2
 have r3 := bnd_mul (A := 20000) (B := 3783866187776) (by omega) s1.1 s1.2 q1.1 q1.2
 have r4 := bnd_mul (A := 20000) (B := 3783866187776) (by omega) s2.1 s2.2 q2.1 q2.2
 have w : ∀ x : Int, -9223372036854775808 ≤ x → x ≤ 9223372036854775807 → IntKind.i64.wrap x = x := fun x h1 h2 => wrap64 x h1 h2
 refine ⟨⟨w _ (by omega) (by omega), w _ (by omega) (by omega)⟩, ⟨w _ (by omega) (by omega), w _ (by omega) (by omega)⟩, ⟨w _ (by simp only [ml]; omega) (by simp only [ml]; omega), w _ (by simp only [ml]; omega) (by simp only [ml]; omega)⟩, ⟨w _ (by omega) (by omega), w _ (by omega) (by omega)⟩, ⟨w _ (by omega) (by omega), w _ (by omega) (by omega)⟩, w _ (by omega) (by omega), w _ (by omega) (by omega)⟩
theorem cyc_next_ne {S c : List Pt} (h : Cyc S c) (h2 : 2 ≤ c.length) {i : Nat} {a b : Pt} (ha : c[i]? = some a) (hb : c[(i + 1) % c.length]? = some b) : sb b a ≠ (0, 0) := fun e => (cyc_get h h2 ha hb).2.1 (sb_eq_zero.1 e).symm
theorem all_range {n : Nat} {P : Nat → Bool} (h : ∀ i, i < n → P i = true) : (List.range n).all P = true := by
 rw [List.all_eq_true]; intro i hi; exact h i (List.mem_range.1 hi)
theorem not_all_range {n : Nat} {P : Nat → Bool} {i : Nat} (hi : i < n) (h : P i = false) : (List.range n).all P = false := by
 rw [Bool.eq_false_iff]
 intro ha
 rw [List.all_eq_true] at ha
 have := ha i (List.mem_range.2 hi)
 rw [h] at this; cases this
theorem G57_ok {S c : List Pt} (hc : Cyc S c) (hbx : ∀ x ∈ c, inBox (-10000) 10000 x) (hl : c.length ≤ 1000) {p : Pt} (hp : Big p) {den : Int} (hd : 1 ≤ den) (hd2 : den ≤ 268435456) :
  G57 std (encP c, p.1, p.2, den, ()) = some (inC c p den, ()) := by
 unfold G57
 by_cases h1 : c.length = 1
 ·obtain ⟨a, ha⟩ : ∃ a, c = [a] := by
   match c, h1 with
   | [a], _ => exact ⟨a, rfl⟩
  subst ha
  have ga := encP_get (l := [a]) (i := 0) rfl
  obtain ⟨_, ⟨w1, w2⟩, _⟩ := side_wraps (hbx a (by simp)) (hbx a (by simp)) hp hd hd2
  have z0 : (0 : Int).toNat = 0 := rfl
  have c1 : (([a] : List Pt).length : Int) = 1 := rfl
  have c1' : ((1 : Nat) : Int) = 1 := rfl
  have hin : inC [a] p den = decide (p = ml a den) := rfl
  rw [hin]
  by_cases q1 : p.1 = (ml a den).1
  ·by_cases q2 : p.2 = (ml a den).2
   ·have : p = ml a den := Prod.ext q1 q2
    simp only [g57, stdS, stdL, cells_eP, dI_eP0, dI_eP1, eP_eq, encP_set, encP_len, z0, ga, std_ar_mul, w1, w2, c1', eq_true q1, eq_true q2, eq_true this]
   ·have : ¬ p = ml a den := fun e => q2 (by rw [e])
    simp only [g57, stdS, stdL, cells_eP, dI_eP0, dI_eP1, eP_eq, encP_set, encP_len, z0, ga, std_ar_mul, w1, w2, c1', eq_true q1, q2, this]
  ·have : ¬ p = ml a den := fun e => q1 (by rw [e])
   simp only [g57, stdS, stdL, cells_eP, dI_eP0, dI_eP1, eP_eq, encP_set, encP_len, z0, ga, std_ar_mul, w1, w2, c1', q1, this]
 ·have h2 : 2 ≤ c.length := by
   match c, hc, h1 with
   | _ :: _ :: _, _, _ => simp
   | [a], _, h1 => exact absurd rfl h1
  have c1 : ¬ (c.length : Int) = 1 := by omega
  have key := iter_find (b := b57_1 std) c.length (fun i => (encP c, p.1, p.2, den, false, encP c, encP c, (c.length : Int), (i : Int), ())) (fun i => !sideOk c.length (c.getD i (0, 0)) (c.getD ((i + 1) % c.length) (0, 0)) p den)
   (fun i => .inr (.inl (encP c, p.1, p.2, den, false, encP c, ()))) (.inr (.inr (encP c, p.1, p.2, den, false, encP c, ()))) (fun i hi => by
   obtain ⟨a, ha⟩ := get_some hi
   obtain ⟨b, hb⟩ := get_some (l := c) (i := (i + 1) % c.length) (Nat.mod_lt _ (by omega))
   have ga := encP_get ha
   have gb := encP_get hb
   have hne := cyc_next_ne hc h2 ha hb
   rw [lgetD ha, lgetD hb]
   obtain ⟨⟨w1, w2⟩, ⟨w3, w4⟩, ⟨w5, w6⟩, ⟨w7, w8⟩, ⟨w9, w10⟩, w11, w12⟩ := side_wraps (hbx a (List.mem_of_getElem? ha)) (hbx b (List.mem_of_getElem? hb)) hp hd hd2
   obtain ⟨m1, m2⟩ := mod_int (i := i) (n := c.length) (by omega) (by omega)
   have c2 : (i : Int) < (c.length : Int) := by omega
   have c3 : (i : Int) ≥ 0 := by omega
   have c4 : ¬ (c.length : Int) = 0 := by omega
   have c5 : (((i + 1) % c.length : Nat) : Int) ≥ 0 := by omega
   have c6 : (((i + 1) % c.length : Nat) : Int) < (c.length : Int) := by have := Nat.mod_lt (i + 1) (show 0 < c.length by omega); omega
   have hz : (if (sb b a).1 = 0 then if (sb b a).2 = 0 then true else false else false) = false := by
    by_cases q1 : (sb b a).1 = 0
    ·rw [if_pos q1, if_neg (fun e => hne (Prod.ext q1 e))]
    ·rw [if_neg q1]
   unfold sideOk
   by_cases k1 : crs (sb b a) (sb p (ml a den)) < 0
   ·simp only [b57_1, stdS, stdL, cells_eP, dI_eP0, dI_eP1, eP_eq, encP_set, encP_len, std_ar_add, std_ar_sub, std_ar_mul, std_ar_rem, m1, m2, ga, gb, w1, w2, w3, w4, w5, w6, w7, w8, w9, w10, w11, w12, c2, c3, c4, c5, c6, hz, k1, not_false_eq_true]
   ·by_cases k2 : c.length = 2
    ·have k2' : (c.length : Int) = 2 := by omega
     by_cases k3 : dt (sb b a) (sb p (ml a den)) < 0
     ·simp only [b57_1, stdS, stdL, cells_eP, dI_eP0, dI_eP1, eP_eq, encP_set, encP_len, std_ar_add, std_ar_sub, std_ar_mul, std_ar_rem, m1, m2, ga, gb, w1, w2, w3, w4, w5, w6, w7, w8, w9, w10, w11, w12, c2, c3, c4, c5, c6, hz, k1, eq_true k2, eq_true k2', k3, not_false_eq_true]
     ·simp only [b57_1, stdS, stdL, cells_eP, dI_eP0, dI_eP1, eP_eq, encP_set, encP_len, std_ar_add, std_ar_sub, std_ar_mul, std_ar_rem, m1, m2, ga, gb, w1, w2, w3, w4, w5, w6, w7, w8, w9, w10, w11, w12, c2, c3, c4, c5, c6, hz, k1, eq_true k2, eq_true k2', k3, not_false_eq_true]
    ·have k2' : ¬ (c.length : Int) = 2 := by omega
     simp only [b57_1, stdS, stdL, cells_eP, dI_eP0, dI_eP1, eP_eq, encP_set, encP_len, std_ar_add, std_ar_sub, std_ar_mul, std_ar_rem, m1, m2, ga, gb, w1, w2, w3, w4, w5, w6, w7, w8, w9, w10, w11, w12, c2, c3, c4, c5, c6, hz, k1, k2, k2', not_false_eq_true]) (by
   have hn : ¬ ((c.length : Int) < (c.length : Int)) := by omega
   simp only [b57_1, stdS, stdL, hn])
  have e0 : (encP c, p.1, p.2, den, false, encP c, encP c, (c.length : Int), ((0 : Nat) : Int), ()) = (encP c, p.1, p.2, den, false, encP c, encP c, (c.length : Int), (0 : Int), ()) := rfl
  rw [e0] at key
  unfold inC
  rw [if_neg h1]
  rcases key with ⟨i, i1, i2, _, i4⟩ | ⟨i1, i2⟩
  ·rw [not_all_range i1 (by simpa using i2)]
   simp only [g57, it0_eq, stdS, stdL, encP_len, c1, i4]
  ·rw [all_range (fun i hi => by simpa using i1 i hi)]
   simp only [g57, it0_eq, stdS, stdL, encP_len, c1, i2]
theorem G43_ok {S c : List Pt} (hc : Cyc S c) (hbx : ∀ x ∈ c, inBox (-10000) 10000 x) (hl : c.length ≤ 1000) {p : Pt} (hp : Big p) {den : Int} (hd : 1 ≤ den) (hd2 : den ≤ 268435456) :
  G43 std (encP c, p.1, p.2, den, ()) = some (inC c p den, ()) := by
 unfold G43
 have hl1 : 1 ≤ c.length := by
  match c, hc with
  | a :: r, _ => simp
 by_cases h1 : c.length = 1
 ·obtain ⟨a, ha⟩ : ∃ a, c = [a] := by
   match c, h1 with
   | [a], _ => exact ⟨a, rfl⟩
  subst ha
  have ga := encP_get (l := [a]) (i := 0) rfl
  obtain ⟨_, ⟨w1, w2⟩, ⟨w5, w6⟩, _⟩ := side_wraps (hbx a (by simp)) (hbx a (by simp)) hp hd hd2
  have z0 : (0 : Int).toNat = 0 := rfl
  have c1 : (([a] : List Pt).length : Int) = 1 := rfl
  have c1' : ((1 : Nat) : Int) = 1 := rfl
  have hin : inC [a] p den = decide (p = ml a den) := rfl
  have v1 : IntKind.i64.wrap ((0 : Int) + 1) = 1 := by decide
  have t1 : (1 : Int).tmod 1 = 0 := by decide
  have q3 : (0 : Int) < 1 := by omega
  have q4 : ¬ (1 : Int) = 0 := by omega
  have q5 : (0 : Int) ≥ 0 := by omega
  rw [hin]
  have hstep : b43_1 std (p.1, p.2, den, encP [a], (1 : Int), (0 : Int), ()) = some (.inr (.inl (decide (p = ml a den), ()))) := by
   have e1 : (sb p (ml a den)).1 = 0 ↔ p.1 = (ml a den).1 := by simp only [sb]; omega
   have e2 : (sb p (ml a den)).2 = 0 ↔ p.2 = (ml a den).2 := by simp only [sb]; omega
   by_cases k1 : (sb p (ml a den)).1 = 0
   ·by_cases k2 : (sb p (ml a den)).2 = 0
    ·have : p = ml a den := Prod.ext (e1.1 k1) (e2.1 k2)
     simp only [b43_1, stdS, stdL, cells_eP, dI_eP0, dI_eP1, eP_eq, encP_set, encP_len, z0, ga, std_ar_mul, std_ar_sub, std_ar_add, std_ar_rem, v1, t1, w1, w2, w5, w6, q3, q4, q5, eq_true k1, eq_true k2, eq_true this, not_false_eq_true]
    ·have : ¬ p = ml a den := fun e => k2 (e2.2 (by rw [e]))
     simp only [b43_1, stdS, stdL, cells_eP, dI_eP0, dI_eP1, eP_eq, encP_set, encP_len, z0, ga, std_ar_mul, std_ar_sub, std_ar_add, std_ar_rem, v1, t1, w1, w2, w5, w6, q3, q4, q5, eq_true k1, k2, this, not_false_eq_true]
   ·have : ¬ p = ml a den := fun e => k1 (e1.2 (by rw [e]))
    simp only [b43_1, stdS, stdL, cells_eP, dI_eP0, dI_eP1, eP_eq, encP_set, encP_len, z0, ga, std_ar_mul, std_ar_sub, std_ar_add, std_ar_rem, v1, t1, w1, w2, w5, w6, q3, q4, q5, k1, this, not_false_eq_true]
  have hit : iter (b43_1 std) (p.1, p.2, den, encP [a], (1 : Int), (0 : Int), ()) = some (.inl (decide (p = ml a den), ())) := by rw [iter_unfold, hstep]
  simp only [g43, it0_eq, alt_eq, bnd_eq, ret_eq, std_ofNat, std_len, encP_len, c1, hit, Option.bind_some, Sum.elim_inl]
 ·have h2 : 2 ≤ c.length := by omega
  have c1 : ¬ (c.length : Int) = 1 := by omega
  have key := iter_find (b := b43_1 std) c.length (fun i => (p.1, p.2, den, encP c, (c.length : Int), (i : Int), ())) (fun i => !sideOk c.length (c.getD i (0, 0)) (c.getD ((i + 1) % c.length) (0, 0)) p den)
   (fun i => .inl (false, ())) (.inr ()) (fun i hi => by
   obtain ⟨a, ha⟩ := get_some hi
   obtain ⟨b, hb⟩ := get_some (l := c) (i := (i + 1) % c.length) (Nat.mod_lt _ (by omega))
   have ga := encP_get ha
   have gb := encP_get hb
   rw [lgetD ha, lgetD hb]
   obtain ⟨⟨w1, w2⟩, ⟨w3, w4⟩, ⟨w5, w6⟩, ⟨w7, w8⟩, ⟨w9, w10⟩, w11, w12⟩ := side_wraps (hbx a (List.mem_of_getElem? ha)) (hbx b (List.mem_of_getElem? hb)) hp hd hd2
   obtain ⟨m1, m2⟩ := mod_int (i := i) (n := c.length) (by omega) (by omega)
   have c2 : (i : Int) < (c.length : Int) := by omega
   have c3 : (i : Int) ≥ 0 := by omega
   have c4 : ¬ (c.length : Int) = 0 := by omega
   have c5 : (((i + 1) % c.length : Nat) : Int) ≥ 0 := by omega
   have c6 : (((i + 1) % c.length : Nat) : Int) < (c.length : Int) := by have := Nat.mod_lt (i + 1) (show 0 < c.length by omega); omega
   unfold sideOk
   by_cases k1 : crs (sb b a) (sb p (ml a den)) < 0
   ·simp only [b43_1, stdS, stdL, cells_eP, dI_eP0, dI_eP1, eP_eq, encP_set, encP_len, std_ar_add, std_ar_sub, std_ar_mul, std_ar_rem, m1, m2, ga, gb, w1, w2, w3, w4, w5, w6, w7, w8, w9, w10, w11, w12, c1, c2, c3, c4, c5, c6, k1, not_false_eq_true]
   ·by_cases k2 : c.length = 2
    ·have k2' : (c.length : Int) = 2 := by omega
     by_cases k3 : dt (sb b a) (sb p (ml a den)) < 0
     ·simp only [b43_1, stdS, stdL, cells_eP, dI_eP0, dI_eP1, eP_eq, encP_set, encP_len, std_ar_add, std_ar_sub, std_ar_mul, std_ar_rem, m1, m2, ga, gb, w1, w2, w3, w4, w5, w6, w7, w8, w9, w10, w11, w12, c1, c2, c3, c4, c5, c6, k1, eq_true k2, eq_true k2', k3, not_false_eq_true]
     ·simp only [b43_1, stdS, stdL, cells_eP, dI_eP0, dI_eP1, eP_eq, encP_set, encP_len, std_ar_add, std_ar_sub, std_ar_mul, std_ar_rem, m1, m2, ga, gb, w1, w2, w3, w4, w5, w6, w7, w8, w9, w10, w11, w12, c1, c2, c3, c4, c5, c6, k1, eq_true k2, eq_true k2', k3, not_false_eq_true]
    ·have k2' : ¬ (c.length : Int) = 2 := by omega
     simp only [b43_1, stdS, stdL, cells_eP, dI_eP0, dI_eP1, eP_eq, encP_set, encP_len, std_ar_add, std_ar_sub, std_ar_mul, std_ar_rem, m1, m2, ga, gb, w1, w2, w3, w4, w5, w6, w7, w8, w9, w10, w11, w12, c1, c2, c3, c4, c5, c6, k1, k2, k2', not_false_eq_true]) (by
   have hn : ¬ ((c.length : Int) < (c.length : Int)) := by omega
   simp only [b43_1, stdS, stdL, hn])
  have e0 : (p.1, p.2, den, encP c, (c.length : Int), ((0 : Nat) : Int), ()) = (p.1, p.2, den, encP c, (c.length : Int), (0 : Int), ()) := rfl
  rw [e0] at key
  unfold inC
  rw [if_neg h1]
  rcases key with ⟨i, i1, i2, _, i4⟩ | ⟨i1, i2⟩
  ·rw [not_all_range i1 (by simpa using i2)]
   simp only [g43, it0_eq, stdS, stdL, encP_len, i4]
  ·rw [all_range (fun i hi => by simpa using i1 i hi)]
   simp only [g43, it0_eq, stdS, stdL, encP_len, i2]
end Go.Am
end
noncomputable section
namespace Go.Am
def ctr78 : Ctr :=
 ⟨78, [.list 2, .clo 66 [.agg [.int .i64, .int .i64]] []], [], [(.ret, ⟨[(0, .int .i64)], [], 1⟩)]⟩
def la78 : List LA :=
 [⟨78, [false, true, false, true, true], 0, ⟨⟨[(1, .clo 66 [.agg [.int .i64, .int .i64]] []), (5, .int .i64), (13, .list 2), (14, .int .i64), (15, .int .i64)], [], 26⟩, [((AX.exit 0), ⟨[(5, .int .i64)], [], 26⟩)]⟩⟩]
def ja78 : List JA :=
 []
def gam78 : List CF :=
 []
def an78 : Anns :=
 ⟨gam78, ja78, []⟩
def b78_1 (p : Prim) : T45 → Option T68 :=
 fun a => opt.run _ (
 opt.ask _ (p.cmp .lss a.2.2.2.2.2.1 a.2.2.2.2.1) (
 opt.need _ (p.rowOk a.2.2.2.1 (p.nat a.2.2.2.2.2.1) [ci, ci]) <|
 opt.need _ (p.cmp .geq a.2.2.2.2.2.1 (0 : Int)) <|
 opt.ret _ (Sum.inl (a.1, (a.2.1, ((p.mm .gtr a.2.2.1 (p.ar .add .i64 (p.ar .mul .i64 a.1 (p.rdI a.2.2.2.1 (p.nat a.2.2.2.2.2.1) 0)) (p.ar .mul .i64 a.2.1 (p.rdI a.2.2.2.1 (p.nat a.2.2.2.2.2.1) 1)))), (a.2.2.2.1, (a.2.2.2.2.1, ((p.ar .add .i64 a.2.2.2.2.2.1 (1 : Int)), ())))))))) (
 opt.ret _ (Sum.inr (a.2.2.1, ()))))
def g78 (it : It) : (p : Prim) → (LD × T3) → Option T0 :=
 fun p x =>
 opt.need _ (p.rowOk x.1 (p.nat (0 : Int)) [ci, ci]) <|
 opt.bnd T0 _ (
 it _ _ (b78_1 p) (x.2.1, (x.2.2.1, ((p.ar .add .i64 (p.ar .mul .i64 x.2.1 (p.rdI x.1 (p.nat (0 : Int)) 0)) (p.ar .mul .i64 x.2.2.1 (p.rdI x.1 (p.nat (0 : Int)) 1))), (x.1, ((p.ofNat (p.len x.1)), ((0 : Int), ()))))))) fun a =>
 opt.ret _ (a.1, ())
def G78 := g78 it0
theorem ok78 : CtrOk PG ctr78 (G78 std) := okF (a := an78) (l := la78) (gN) (by kernel_rfl) fun _ _ => by kernel_rfl
def ctr92 : Ctr :=
 ⟨92, [.list 2, .list 2, .agg [.int .i64, .int .i64]], [], [(.ret, ⟨[(0, .tuple [.int .i64, .bool])], [], 1⟩)]⟩
def la92 : List LA :=
 []
def ja92 : List JA :=
 []
def gam92 : List CF :=
 [⟨ctr78, G78⟩]
def an92 : Anns :=
 ⟨gam92, ja92, []⟩
def g92 (it : It) : (p : Prim) → (LD × (LD × T3)) → Option ((Int × (Bool × Unit))) :=
 fun p x =>
 opt.bnd T0 _ (g78 it p (x.1, (x.2.2.1, (x.2.2.2.1, ())))) fun a =>
 opt.bnd T0 _ (g78 it p (x.2.1, ((p.ar .sub .i64 (0 : Int) x.2.2.1), ((p.ar .sub .i64 (0 : Int) x.2.2.2.1), ())))) fun b =>
 opt.ret _ (a.1, ((p.cmp .lss a.1 (p.ar .sub .i64 (0 : Int) b.1)), ()))
def G92 := g92 it0
theorem ok92 : CtrOk PG ctr92 (G92 std) := okF (a := an92) (l := la92) (gC ok78 (gN)) (by kernel_rfl) fun _ _ => by kernel_rfl
def ctr63 : Ctr :=
 ⟨63, [.list 2, .list 2], [], [(.ret, ⟨[(0, .tuple [.agg [.int .i64, .int .i64, .int .i64], .bool])], [], 1⟩)]⟩
def la63 : List LA :=
 [⟨63, [false, true, false, true, false, true], 0, ⟨⟨[(0, .list 2), (1, .list 2), (4, .bptr 0 0), (6, .bptr 1 0), (20, .list 2), (21, .int .i64), (22, .int .i64)], [.box [.int .i64, .int .i64, .int .i64], .box [.vec 2 2], .row [ci, ci]], 94⟩, [((AX.exit 0), ⟨[(0, .list 2), (1, .list 2), (4, .bptr 0 0), (6, .bptr 1 0)], [.box [.int .i64, .int .i64, .int .i64], .box [.vec 2 2], .row [ci, ci]], 94⟩)]⟩⟩,
 ⟨63, [false, true, true, false, false, true, true, false, false, true, false, true, false, true], 0, ⟨⟨[(0, .list 2), (1, .list 2), (4, .bptr 0 0), (6, .bptr 1 0), (8, .bptr 2 0), (20, .list 2), (21, .int .i64), (22, .int .i64), (26, .list 2), (27, .int .i64), (28, .int .i64)], [.box [.int .i64, .int .i64, .int .i64], .box [.vec 3 2], .box [.int .i64, .int .i64], .row [ci, ci]], 94⟩, [((AX.exit 2), ⟨[(0, .list 2), (1, .list 2), (4, .bptr 0 0), (6, .bptr 1 0), (20, .list 2), (21, .int .i64), (22, .int .i64)], [.box [.int .i64, .int .i64, .int .i64], .box [.vec 2 2], .row [ci, ci]], 94⟩)]⟩⟩,
 ⟨63, [false, true, false, true, true, false, true], 0, ⟨⟨[(0, .list 2), (1, .list 2), (4, .bptr 0 0), (6, .bptr 1 0), (42, .full 2 1), (43, .int .i64), (44, .int .i64)], [.box [.int .i64, .int .i64, .int .i64], .box [.vec 3 2], .row [(CK.list 2)], .row [ci, ci]], 94⟩, [((AX.exit 4), ⟨[(0, .list 2), (1, .list 2), (4, .bptr 0 0), (6, .bptr 1 0)], [.box [.int .i64, .int .i64, .int .i64], .box [.vec 2 2], .row [ci, ci]], 94⟩)]⟩⟩,
 ⟨94, [false, true], 6, ⟨⟨[(0, .yld 5), (1, .bptr 4 0), (6, .list 2), (7, .int .i64), (8, .int .i64)], [.box [.int .i64, .int .i64, .int .i64], .box [.vec 6 2], .row [(CK.list 2)], .dead, .box [.list 2], .loop Go.LoopState.ready Option.none 63 [Bool.false, Bool.true, Bool.true, Bool.false, Bool.false, Bool.true, Bool.true, Bool.false, Bool.false, Bool.true, Bool.false, Bool.true, Bool.true, Bool.false, Bool.true] 94 [(49, .clo 94 [] [.bptr 4 0]), (43, .int .i64), (42, .full 2 1), (6, .bptr 1 0), (1, .list 2), (4, .bptr 0 0), (0, .list 2), (44, .int .i64)], .row [ci, ci]], 33⟩, [(AX.ret, ⟨[], [.box [.int .i64, .int .i64, .int .i64], .box [.vec 6 2], .row [(CK.list 2)], .dead, .box [.list 2], .loop Go.LoopState.ready Option.none 63 [Bool.false, Bool.true, Bool.true, Bool.false, Bool.false, Bool.true, Bool.true, Bool.false, Bool.false, Bool.true, Bool.false, Bool.true, Bool.true, Bool.false, Bool.true] 94 [(49, .clo 94 [] [.bptr 4 0]), (43, .int .i64), (42, .full 2 1), (6, .bptr 1 0), (1, .list 2), (4, .bptr 0 0), (0, .list 2), (44, .int .i64)], .row [ci, ci]], 33⟩), ((AX.exit 0), ⟨[], [.box [.int .i64, .int .i64, .int .i64], .box [.vec 6 2], .row [(CK.list 2)], .dead, .box [.list 2], .loop Go.LoopState.ready Option.none 63 [Bool.false, Bool.true, Bool.true, Bool.false, Bool.false, Bool.true, Bool.true, Bool.false, Bool.false, Bool.true, Bool.false, Bool.true, Bool.true, Bool.false, Bool.true] 94 [(49, .clo 94 [] [.bptr 4 0]), (43, .int .i64), (42, .full 2 1), (6, .bptr 1 0), (1, .list 2), (4, .bptr 0 0), (0, .list 2), (44, .int .i64)], .row [ci, ci]], 33⟩)]⟩⟩,
 ⟨63, [false, true, false, true, true, true, true, true, true, false, true], 0, ⟨⟨[(0, .list 2), (1, .list 2), (4, .bptr 0 0), (14, .bool), (15, .bptr 1 0), (71, .vec 2 2), (72, .int .i64), (73, .int .i64)], [.box [.int .i64, .int .i64, .int .i64], .box [.int .i64, .int .i64, .int .i64], .row [ci, ci]], 94⟩, [((AX.exit 8), ⟨[(4, .bptr 0 0), (14, .bool), (15, .bptr 1 0)], [.box [.int .i64, .int .i64, .int .i64], .box [.int .i64, .int .i64, .int .i64]], 94⟩)]⟩⟩]
def ja63 : List JA :=
 [⟨63, [true, true, false, false, true, true, false, false, true, false, true, true, false, true], 0, [(AX.normal, ⟨[(0, .list 2), (1, .list 2), (4, .bptr 0 0), (6, .bptr 1 0), (42, .full 2 1), (43, .int .i64), (44, .int .i64)], [.box [.int .i64, .int .i64, .int .i64], .box [.vec 3 2], .row [(CK.list 2)], .row [ci, ci]], 94⟩)]⟩]
def gam63 : List CF :=
 [⟨ctr92, G92⟩]
def an63 : Anns :=
 ⟨gam63, ja63, []⟩
def c63_5 (it : It) (p : Prim) : (LD × T69) → Option ((LD × T69) ⊕ (Int × (Int × (Int × (Int × (Int × (Int × (Bool × Unit)))))))) :=
 fun a => opt.run _ (
 opt.ask _ (p.cmp .lss a.2.2.2.2.2.2.2.2.2.2.2.1 a.2.2.2.2.2.2.2.2.2.2.1) (
 opt.need _ (bif (p.cmp .geq a.2.2.2.2.2.2.2.2.2.2.2.1 (0 : Int)) then (p.cmp .lss a.2.2.2.2.2.2.2.2.2.2.2.1 (p.ofNat (p.len a.1))) else Bool.false) <|
 opt.need _ (p.rowOk a.1 (p.add 0 (p.nat a.2.2.2.2.2.2.2.2.2.2.2.1)) [ci, ci]) <|
 opt.bnd ((Int × (Bool × Unit))) _ (g92 it p (a.2.2.2.2.2.2.2.1, (a.2.2.2.2.2.2.2.2.1, ((p.rdI a.1 (p.add 0 (p.nat a.2.2.2.2.2.2.2.2.2.2.2.1)) 0), ((p.rdI a.1 (p.add 0 (p.nat a.2.2.2.2.2.2.2.2.2.2.2.1)) 1), ()))))) fun b =>
 opt.ask _ b.2.1 (
 opt.ret _ (Sum.inr (a.2.1, (a.2.2.1, (a.2.2.2.1, ((p.rdI a.1 (p.add 0 (p.nat a.2.2.2.2.2.2.2.2.2.2.2.1)) 0), ((p.rdI a.1 (p.add 0 (p.nat a.2.2.2.2.2.2.2.2.2.2.2.1)) 1), (b.1, (Bool.true, ()))))))))) (
 opt.need _ (p.eqN 0 0) <|
 opt.need _ (p.eqN (p.len a.1) (p.len a.1)) <|
 opt.ret _ (Sum.inl (a.1, (a.2.1, (a.2.2.1, (a.2.2.2.1, (a.2.2.2.2.1, (a.2.2.2.2.2.1, (a.2.2.2.2.2.2.1, (a.2.2.2.2.2.2.2.1, (a.2.2.2.2.2.2.2.2.1, (a.2.2.2.2.2.2.2.2.2.1, (a.2.2.2.2.2.2.2.2.2.2.1, ((p.ar .add .i64 a.2.2.2.2.2.2.2.2.2.2.2.1 (1 : Int)), ()))))))))))))))) (
 opt.ret _ (Sum.inr (a.2.1, (a.2.2.1, (a.2.2.2.1, (a.2.2.2.2.1, (a.2.2.2.2.2.1, (a.2.2.2.2.2.2.1, (a.2.2.2.2.2.2.2.2.2.1, ()))))))))))
def b63_4 (p : Prim) : (LD × (LD × T70)) → Option ((LD × (LD × T70)) ⊕ ((LD × (LD × T24)) ⊕ (LD × (LD × T24)))) :=
 fun a => opt.run _ (
 opt.ask _ (p.cmp .lss a.2.2.2.2.2.2.2.2.2.2.2.2.1 a.2.2.2.2.2.2.2.2.2.2.2.1) (
 opt.need _ (p.rowOk a.2.2.2.2.2.2.2.2.2.2.1 (p.nat a.2.2.2.2.2.2.2.2.2.2.2.2.1) [ci, ci]) <|
 opt.need _ (p.cmp .geq a.2.2.2.2.2.2.2.2.2.2.2.2.1 (0 : Int)) <|
 opt.need _ (p.cmp .neq (p.ofNat (p.len a.2.2.2.2.2.1)) (0 : Int)) <|
 opt.need _ (p.rowOk a.2.2.2.2.2.1 (p.nat (p.ar .rem .i64 (p.ar .add .i64 a.2.2.2.2.2.2.2.2.2.2.2.2.1 (1 : Int)) (p.ofNat (p.len a.2.2.2.2.2.1)))) [ci, ci]) <|
 opt.need _ (p.cmp .geq (p.ar .rem .i64 (p.ar .add .i64 a.2.2.2.2.2.2.2.2.2.2.2.2.1 (1 : Int)) (p.ofNat (p.len a.2.2.2.2.2.1))) (0 : Int)) <|
 opt.ask _ (bif (p.cmp .eql (p.ar .sub .i64 (p.rdI a.2.2.2.2.2.1 (p.nat (p.ar .rem .i64 (p.ar .add .i64 a.2.2.2.2.2.2.2.2.2.2.2.2.1 (1 : Int)) (p.ofNat (p.len a.2.2.2.2.2.1)))) 0) (p.rdI a.2.2.2.2.2.2.2.2.2.2.1 (p.nat a.2.2.2.2.2.2.2.2.2.2.2.2.1) 0)) (0 : Int)) then (bif (p.cmp .eql (p.ar .sub .i64 (p.rdI a.2.2.2.2.2.1 (p.nat (p.ar .rem .i64 (p.ar .add .i64 a.2.2.2.2.2.2.2.2.2.2.2.2.1 (1 : Int)) (p.ofNat (p.len a.2.2.2.2.2.1)))) 1) (p.rdI a.2.2.2.2.2.2.2.2.2.2.1 (p.nat a.2.2.2.2.2.2.2.2.2.2.2.2.1) 1)) (0 : Int)) then Bool.true else Bool.false) else Bool.false) (
 opt.need _ (p.eqN 0 0) <|
 opt.need _ (p.eqN (p.len a.2.1) (p.len a.2.1)) <|
 opt.need _ (p.eqN 0 0) <|
 opt.need _ (p.eqN (p.len a.1) (p.len a.1)) <|
 opt.need _ (p.eqN (p.len a.1) (p.len a.1)) <|
 opt.ret _ (Sum.inr (Sum.inl (a.1, (a.2.1, (a.2.2.1, (a.2.2.2.1, (a.2.2.2.2.1, (a.2.2.2.2.2.1, (a.2.2.2.2.2.2.1, (a.2.2.2.2.2.2.2.1, (a.2.2.2.2.2.2.2.2.1, (a.2.2.2.2.2.2.2.2.2.1, ()))))))))))))) (
 opt.need _ (p.and (p.leN (p.add 0 2) (p.len [[(D.int .i64 (p.ar .sub .i64 (p.rdI a.2.2.2.2.2.1 (p.nat (p.ar .rem .i64 (p.ar .add .i64 a.2.2.2.2.2.2.2.2.2.2.2.2.1 (1 : Int)) (p.ofNat (p.len a.2.2.2.2.2.1)))) 1) (p.rdI a.2.2.2.2.2.2.2.2.2.2.1 (p.nat a.2.2.2.2.2.2.2.2.2.2.2.2.1) 1))), (D.int .i64 (p.ar .sub .i64 (0 : Int) (p.ar .sub .i64 (p.rdI a.2.2.2.2.2.1 (p.nat (p.ar .rem .i64 (p.ar .add .i64 a.2.2.2.2.2.2.2.2.2.2.2.2.1 (1 : Int)) (p.ofNat (p.len a.2.2.2.2.2.1)))) 0) (p.rdI a.2.2.2.2.2.2.2.2.2.2.1 (p.nat a.2.2.2.2.2.2.2.2.2.2.2.2.1) 0))))], [(D.int .i64 (p.ar .sub .i64 (0 : Int) (p.ar .sub .i64 (p.rdI a.2.2.2.2.2.1 (p.nat (p.ar .rem .i64 (p.ar .add .i64 a.2.2.2.2.2.2.2.2.2.2.2.2.1 (1 : Int)) (p.ofNat (p.len a.2.2.2.2.2.1)))) 1) (p.rdI a.2.2.2.2.2.2.2.2.2.2.1 (p.nat a.2.2.2.2.2.2.2.2.2.2.2.2.1) 1)))), (D.int .i64 (p.ar .sub .i64 (p.rdI a.2.2.2.2.2.1 (p.nat (p.ar .rem .i64 (p.ar .add .i64 a.2.2.2.2.2.2.2.2.2.2.2.2.1 (1 : Int)) (p.ofNat (p.len a.2.2.2.2.2.1)))) 0) (p.rdI a.2.2.2.2.2.2.2.2.2.2.1 (p.nat a.2.2.2.2.2.2.2.2.2.2.2.2.1) 0)))]])) (p.and (p.leN (p.add 0 (p.len a.2.1)) (p.len a.2.1)) (p.and (p.leN 1 2) (p.leN (p.add (p.len a.2.1) 2) 1000000)))) <|
 opt.need _ (p.eqN 0 0) <|
 opt.need _ (p.eqN (p.add (p.len a.2.1) 2) (p.len (p.app (p.cut a.2.1 0 (p.len a.2.1)) (p.cut [[(D.int .i64 (p.ar .sub .i64 (p.rdI a.2.2.2.2.2.1 (p.nat (p.ar .rem .i64 (p.ar .add .i64 a.2.2.2.2.2.2.2.2.2.2.2.2.1 (1 : Int)) (p.ofNat (p.len a.2.2.2.2.2.1)))) 1) (p.rdI a.2.2.2.2.2.2.2.2.2.2.1 (p.nat a.2.2.2.2.2.2.2.2.2.2.2.2.1) 1))), (D.int .i64 (p.ar .sub .i64 (0 : Int) (p.ar .sub .i64 (p.rdI a.2.2.2.2.2.1 (p.nat (p.ar .rem .i64 (p.ar .add .i64 a.2.2.2.2.2.2.2.2.2.2.2.2.1 (1 : Int)) (p.ofNat (p.len a.2.2.2.2.2.1)))) 0) (p.rdI a.2.2.2.2.2.2.2.2.2.2.1 (p.nat a.2.2.2.2.2.2.2.2.2.2.2.2.1) 0))))], [(D.int .i64 (p.ar .sub .i64 (0 : Int) (p.ar .sub .i64 (p.rdI a.2.2.2.2.2.1 (p.nat (p.ar .rem .i64 (p.ar .add .i64 a.2.2.2.2.2.2.2.2.2.2.2.2.1 (1 : Int)) (p.ofNat (p.len a.2.2.2.2.2.1)))) 1) (p.rdI a.2.2.2.2.2.2.2.2.2.2.1 (p.nat a.2.2.2.2.2.2.2.2.2.2.2.2.1) 1)))), (D.int .i64 (p.ar .sub .i64 (p.rdI a.2.2.2.2.2.1 (p.nat (p.ar .rem .i64 (p.ar .add .i64 a.2.2.2.2.2.2.2.2.2.2.2.2.1 (1 : Int)) (p.ofNat (p.len a.2.2.2.2.2.1)))) 0) (p.rdI a.2.2.2.2.2.2.2.2.2.2.1 (p.nat a.2.2.2.2.2.2.2.2.2.2.2.2.1) 0)))]] 0 2)))) <|
 opt.need _ (p.eqN 0 0) <|
 opt.need _ (p.eqN (p.len a.1) (p.len a.1)) <|
 opt.need _ (p.eqN (p.len a.1) (p.len a.1)) <|
 opt.ret _ (Sum.inl (a.1, ((p.app (p.cut a.2.1 0 (p.len a.2.1)) (p.cut [[(D.int .i64 (p.ar .sub .i64 (p.rdI a.2.2.2.2.2.1 (p.nat (p.ar .rem .i64 (p.ar .add .i64 a.2.2.2.2.2.2.2.2.2.2.2.2.1 (1 : Int)) (p.ofNat (p.len a.2.2.2.2.2.1)))) 1) (p.rdI a.2.2.2.2.2.2.2.2.2.2.1 (p.nat a.2.2.2.2.2.2.2.2.2.2.2.2.1) 1))), (D.int .i64 (p.ar .sub .i64 (0 : Int) (p.ar .sub .i64 (p.rdI a.2.2.2.2.2.1 (p.nat (p.ar .rem .i64 (p.ar .add .i64 a.2.2.2.2.2.2.2.2.2.2.2.2.1 (1 : Int)) (p.ofNat (p.len a.2.2.2.2.2.1)))) 0) (p.rdI a.2.2.2.2.2.2.2.2.2.2.1 (p.nat a.2.2.2.2.2.2.2.2.2.2.2.2.1) 0))))], [(D.int .i64 (p.ar .sub .i64 (0 : Int) (p.ar .sub .i64 (p.rdI a.2.2.2.2.2.1 (p.nat (p.ar .rem .i64 (p.ar .add .i64 a.2.2.2.2.2.2.2.2.2.2.2.2.1 (1 : Int)) (p.ofNat (p.len a.2.2.2.2.2.1)))) 1) (p.rdI a.2.2.2.2.2.2.2.2.2.2.1 (p.nat a.2.2.2.2.2.2.2.2.2.2.2.2.1) 1)))), (D.int .i64 (p.ar .sub .i64 (p.rdI a.2.2.2.2.2.1 (p.nat (p.ar .rem .i64 (p.ar .add .i64 a.2.2.2.2.2.2.2.2.2.2.2.2.1 (1 : Int)) (p.ofNat (p.len a.2.2.2.2.2.1)))) 0) (p.rdI a.2.2.2.2.2.2.2.2.2.2.1 (p.nat a.2.2.2.2.2.2.2.2.2.2.2.2.1) 0)))]] 0 2)), (a.2.2.1, (a.2.2.2.1, (a.2.2.2.2.1, (a.2.2.2.2.2.1, (a.2.2.2.2.2.2.1, (a.2.2.2.2.2.2.2.1, (a.2.2.2.2.2.2.2.2.1, (a.2.2.2.2.2.2.2.2.2.1, (a.2.2.2.2.2.2.2.2.2.2.1, (a.2.2.2.2.2.2.2.2.2.2.2.1, ((p.ar .add .i64 a.2.2.2.2.2.2.2.2.2.2.2.2.1 (1 : Int)), ())))))))))))))))) (
 opt.need _ (p.eqN 0 0) <|
 opt.need _ (p.eqN (p.len a.2.1) (p.len a.2.1)) <|
 opt.need _ (p.eqN 0 0) <|
 opt.need _ (p.eqN (p.len a.1) (p.len a.1)) <|
 opt.need _ (p.eqN (p.len a.1) (p.len a.1)) <|
 opt.ret _ (Sum.inr (Sum.inr (a.1, (a.2.1, (a.2.2.1, (a.2.2.2.1, (a.2.2.2.2.1, (a.2.2.2.2.2.1, (a.2.2.2.2.2.2.1, (a.2.2.2.2.2.2.2.1, (a.2.2.2.2.2.2.2.2.1, (a.2.2.2.2.2.2.2.2.2.1, ()))))))))))))))
def c63_3 (it : It) (p : Prim) : (LD × (LD × T34)) → Option ((LD × (LD × T34)) ⊕ (LD × T35)) :=
 fun a => opt.run _ (
 opt.ask _ (p.cmp .lss a.2.2.2.2.2.2.2.2.1 a.2.2.2.2.2.2.2.1) (
 opt.need _ (bif (p.cmp .geq a.2.2.2.2.2.2.2.2.1 (0 : Int)) then (p.cmp .lss a.2.2.2.2.2.2.2.2.1 (p.ofNat (p.len a.1))) else Bool.false) <|
 opt.need _ (p.rowOk a.1 (p.add 0 (p.nat a.2.2.2.2.2.2.2.2.1)) [(CK.list 2)]) <|
 opt.bnd ((LD × (LD × T34))) _ (
 opt.run ((LD × (LD × T34))) (
 opt.need _ (p.eqN 0 0) <|
 opt.need _ (p.eqN (p.len a.2.1) (p.len a.2.1)) <|
 opt.need _ (p.eqN 0 0) <|
 opt.need _ (p.eqN (p.len a.1) (p.len a.1)) <|
 opt.need _ (p.eqN (p.len a.1) (p.len a.1)) <|
 opt.alt ((LD × (LD × T24))) ((LD × (LD × T24))) _ (
 it _ _ (b63_4 p) (a.1, (a.2.1, (a.2.2.1, (a.2.2.2.1, (a.2.2.2.2.1, ((p.rdL a.1 (p.add 0 (p.nat a.2.2.2.2.2.2.2.2.1)) 0), (a.2.2.2.2.2.2.2.1, (a.2.2.2.2.2.2.1, (a.2.2.2.2.2.1, (a.2.2.2.2.2.2.2.2.1, ((p.rdL a.1 (p.add 0 (p.nat a.2.2.2.2.2.2.2.2.1)) 0), ((p.ofNat (p.len (p.rdL a.1 (p.add 0 (p.nat a.2.2.2.2.2.2.2.2.1)) 0))), ((0 : Int), ())))))))))))))) (fun b =>
 opt.need _ (p.eqN 0 0) <|
 opt.need _ (p.eqN (p.len b.2.1) (p.len b.2.1)) <|
 opt.need _ (p.eqN 0 0) <|
 opt.need _ (p.eqN (p.len a.1) (p.len b.1)) <|
 opt.need _ (p.eqN (p.len a.1) (p.len b.1)) <|
 opt.ret _ (b.1, (b.2.1, (b.2.2.1, (b.2.2.2.1, (b.2.2.2.2.1, (a.2.2.2.2.2.1, (a.2.2.2.2.2.2.1, (a.2.2.2.2.2.2.2.1, (a.2.2.2.2.2.2.2.2.1, ())))))))))) (fun c =>
 opt.bnd ((LD × (LD × T24))) _ (some c) fun d =>
 opt.need _ (p.eqN 0 0) <|
 opt.need _ (p.eqN (p.len d.2.1) (p.len d.2.1)) <|
 opt.need _ (p.eqN 0 0) <|
 opt.need _ (p.eqN (p.len a.1) (p.len d.1)) <|
 opt.need _ (p.eqN (p.len a.1) (p.len d.1)) <|
 opt.ret _ (d.1, (d.2.1, (d.2.2.1, (d.2.2.2.1, (d.2.2.2.2.1, (a.2.2.2.2.2.1, (a.2.2.2.2.2.2.1, (a.2.2.2.2.2.2.2.1, (a.2.2.2.2.2.2.2.2.1, ())))))))))))) fun e =>
 opt.need _ (p.eqN 0 0) <|
 opt.need _ (p.eqN (p.len e.2.1) (p.len e.2.1)) <|
 opt.need _ (p.eqN 0 0) <|
 opt.need _ (p.eqN (p.len e.1) (p.len e.1)) <|
 opt.need _ (p.eqN (p.len e.1) (p.len e.1)) <|
 opt.ret _ (Sum.inl (e.1, (e.2.1, (e.2.2.1, (e.2.2.2.1, (e.2.2.2.2.1, (e.2.2.2.2.2.1, (e.2.2.2.2.2.2.1, (e.2.2.2.2.2.2.2.1, ((p.ar .add .i64 e.2.2.2.2.2.2.2.2.1 (1 : Int)), ()))))))))))) (
 opt.need _ (p.eqN 0 0) <|
 opt.need _ (p.eqN (p.len a.2.1) (p.len a.2.1)) <|
 opt.ret _ (Sum.inr (a.2.1, (a.2.2.1, (a.2.2.2.1, (a.2.2.2.2.1, (a.2.2.2.2.2.1, (a.2.2.2.2.2.2.1, ())))))))))
def b63_2 (p : Prim) : (LD × T71) → Option ((LD × T71) ⊕ (LD × T36)) :=
 fun a => opt.run _ (
 opt.ask _ (p.cmp .lss a.2.2.2.2.2.2.2.2.2.2.2.2.2.1 a.2.2.2.2.2.2.2.2.2.2.2.2.1) (
 opt.need _ (p.rowOk a.2.2.2.2.2.2.2.2.2.2.2.1 (p.nat a.2.2.2.2.2.2.2.2.2.2.2.2.2.1) [ci, ci]) <|
 opt.need _ (p.cmp .geq a.2.2.2.2.2.2.2.2.2.2.2.2.2.1 (0 : Int)) <|
 opt.need _ (p.and (p.leN (p.add 0 1) (p.len [[(D.int .i64 (p.ar .sub .i64 (p.rdI a.2.2.2.2.2.2.2.2.2.2.2.1 (p.nat a.2.2.2.2.2.2.2.2.2.2.2.2.2.1) 0) a.2.2.2.2.1)), (D.int .i64 (p.ar .sub .i64 (p.rdI a.2.2.2.2.2.2.2.2.2.2.2.1 (p.nat a.2.2.2.2.2.2.2.2.2.2.2.2.2.1) 1) a.2.2.2.2.2.1))]])) (p.and (p.leN (p.add 0 (p.len a.1)) (p.len a.1)) (p.and (p.leN 1 1) (p.leN (p.add (p.len a.1) 1) 1000000)))) <|
 opt.need _ (p.eqN 0 0) <|
 opt.need _ (p.eqN (p.add (p.len a.1) 1) (p.len (p.app (p.cut a.1 0 (p.len a.1)) (p.cut [[(D.int .i64 (p.ar .sub .i64 (p.rdI a.2.2.2.2.2.2.2.2.2.2.2.1 (p.nat a.2.2.2.2.2.2.2.2.2.2.2.2.2.1) 0) a.2.2.2.2.1)), (D.int .i64 (p.ar .sub .i64 (p.rdI a.2.2.2.2.2.2.2.2.2.2.2.1 (p.nat a.2.2.2.2.2.2.2.2.2.2.2.2.2.1) 1) a.2.2.2.2.2.1))]] 0 1)))) <|
 opt.ret _ (Sum.inl ((p.app (p.cut a.1 0 (p.len a.1)) (p.cut [[(D.int .i64 (p.ar .sub .i64 (p.rdI a.2.2.2.2.2.2.2.2.2.2.2.1 (p.nat a.2.2.2.2.2.2.2.2.2.2.2.2.2.1) 0) a.2.2.2.2.1)), (D.int .i64 (p.ar .sub .i64 (p.rdI a.2.2.2.2.2.2.2.2.2.2.2.1 (p.nat a.2.2.2.2.2.2.2.2.2.2.2.2.2.1) 1) a.2.2.2.2.2.1))]] 0 1)), (a.2.1, (a.2.2.1, (a.2.2.2.1, (a.2.2.2.2.1, (a.2.2.2.2.2.1, (a.2.2.2.2.2.2.1, (a.2.2.2.2.2.2.2.1, (a.2.2.2.2.2.2.2.2.1, (a.2.2.2.2.2.2.2.2.2.1, (a.2.2.2.2.2.2.2.2.2.2.1, (a.2.2.2.2.2.2.2.2.2.2.2.1, (a.2.2.2.2.2.2.2.2.2.2.2.2.1, ((p.ar .add .i64 a.2.2.2.2.2.2.2.2.2.2.2.2.2.1 (1 : Int)), ())))))))))))))))) (
 opt.need _ (p.eqN 0 0) <|
 opt.need _ (p.eqN (p.len a.1) (p.len a.1)) <|
 opt.ret _ (Sum.inr (a.1, (a.2.1, (a.2.2.1, (a.2.2.2.1, (a.2.2.2.2.2.2.1, (a.2.2.2.2.2.2.2.1, (a.2.2.2.2.2.2.2.2.1, (a.2.2.2.2.2.2.2.2.2.1, (a.2.2.2.2.2.2.2.2.2.2.1, ()))))))))))))
def c63_1 (it : It) (p : Prim) : (LD × T36) → Option ((LD × T36) ⊕ (LD × T35)) :=
 fun a => opt.run _ (
 opt.ask _ (p.cmp .lss a.2.2.2.2.2.2.2.2.1 a.2.2.2.2.2.2.2.1) (
 opt.need _ (p.rowOk a.2.2.2.2.2.2.1 (p.nat a.2.2.2.2.2.2.2.2.1) [ci, ci]) <|
 opt.need _ (p.cmp .geq a.2.2.2.2.2.2.2.2.1 (0 : Int)) <|
 opt.need _ (p.eqN 0 0) <|
 opt.need _ (p.eqN (p.len a.1) (p.len a.1)) <|
 opt.bnd ((LD × T36)) _ (
 it _ _ (b63_2 p) (a.1, (a.2.1, (a.2.2.1, (a.2.2.2.1, ((p.rdI a.2.2.2.2.2.2.1 (p.nat a.2.2.2.2.2.2.2.2.1) 0), ((p.rdI a.2.2.2.2.2.2.1 (p.nat a.2.2.2.2.2.2.2.2.1) 1), (a.2.2.2.2.1, (a.2.2.2.2.2.1, (a.2.2.2.2.2.2.1, (a.2.2.2.2.2.2.2.1, (a.2.2.2.2.2.2.2.2.1, (a.2.2.2.2.2.1, ((p.ofNat (p.len a.2.2.2.2.2.1)), ((0 : Int), ()))))))))))))))) fun b =>
 opt.need _ (p.eqN 0 0) <|
 opt.need _ (p.eqN (p.len b.1) (p.len b.1)) <|
 opt.ret _ (Sum.inl (b.1, (b.2.1, (b.2.2.1, (b.2.2.2.1, (b.2.2.2.2.1, (b.2.2.2.2.2.1, (b.2.2.2.2.2.2.1, (b.2.2.2.2.2.2.2.1, ((p.ar .add .i64 b.2.2.2.2.2.2.2.2.1 (1 : Int)), ()))))))))))) (
 opt.need _ (p.eqN 0 0) <|
 opt.need _ (p.eqN (p.len a.1) (p.len a.1)) <|
 opt.ret _ (Sum.inr (a.1, (a.2.1, (a.2.2.1, (a.2.2.2.1, (a.2.2.2.2.1, (a.2.2.2.2.2.1, ())))))))))
def g63 (it : It) : (p : Prim) → (LD × (LD × Unit)) → Option T20 :=
 fun p x =>
 opt.bnd ((LD × T35)) _ (
 it _ _ (c63_1 it p) ([], ((0 : Int), ((0 : Int), ((0 : Int), (x.1, (x.2.1, (x.1, ((p.ofNat (p.len x.1)), ((0 : Int), ())))))))))) fun a =>
 opt.need _ (p.eqN 0 0) <|
 opt.need _ (p.eqN (p.len a.1) (p.len a.1)) <|
 opt.need _ (p.eqN 0 0) <|
 opt.need _ (p.eqN 2 (p.len [[(D.list Bool.false 2 a.2.2.2.2.1)], [(D.list Bool.false 2 a.2.2.2.2.2.1)]])) <|
 opt.need _ (p.eqN 2 (p.len [[(D.list Bool.false 2 a.2.2.2.2.1)], [(D.list Bool.false 2 a.2.2.2.2.2.1)]])) <|
 opt.bnd ((LD × T35)) _ (
 it _ _ (c63_3 it p) ([[(D.list Bool.false 2 a.2.2.2.2.1)], [(D.list Bool.false 2 a.2.2.2.2.2.1)]], (a.1, (a.2.1, (a.2.2.1, (a.2.2.2.1, (a.2.2.2.2.1, (a.2.2.2.2.2.1, ((p.ofNat 2), ((0 : Int), ())))))))))) fun b =>
 opt.need _ (p.eqN 0 0) <|
 opt.need _ (p.eqN (p.len b.1) (p.len b.1)) <|
 opt.bnd T46 _ (
 it _ _ (c63_5 it p) (b.1, (b.2.1, (b.2.2.1, (b.2.2.2.1, ((0 : Int), ((0 : Int), ((0 : Int), (b.2.2.2.2.1, (b.2.2.2.2.2.1, (Bool.false, ((p.ofNat (p.len b.1)), ((0 : Int), ()))))))))))))) fun c =>
 opt.ret _ (c.2.2.2.1, (c.2.2.2.2.1, (c.2.2.2.2.2.1, (c.2.2.2.2.2.2.1, ()))))
def G63 := g63 it0
theorem ok63 : CtrOk PG ctr63 (G63 std) := okF (a := an63) (l := la63) (gC ok92 (gN)) (by kernel_rfl) fun _ _ => by kernel_rfl
end Go.Am
end
noncomputable section
namespace Go.Am
def ctr32 : Ctr :=
 ⟨32, [.agg [.list 2, .list 1], .agg [.list 2, .list 1]], [], [(.ret, ⟨[(0, .tuple [.agg [.int .i64, .int .i64, .int .i64], .int .i64])], [], 1⟩)]⟩
def la32 : List LA :=
 []
def ja32 : List JA :=
 []
def gam32 : List CF :=
 [⟨ctr63, G63⟩, ⟨ctr62, G62⟩]
def an32 : Anns :=
 ⟨gam32, ja32, []⟩
def g32 (it : It) : (p : Prim) → (LD × (LD × (LD × (LD × Unit)))) → Option T9 :=
 fun p x =>
 opt.alt T0 (((LD × (LD × (LD × T1))) ⊕ ((LD × (LD × (LD × T1))) ⊕ (LD × (LD × (LD × (LD × (LD × (LD × T1))))))))) _ (g62 it p (x.1, (x.2.1, (x.2.2.1, (x.2.2.2.1, ()))))) (fun a =>
 opt.ask _ (p.cmp .neq a.1 (0 : Int)) (
 opt.ret _ ((0 : Int), ((0 : Int), ((0 : Int), (a.1, ()))))) (
 opt.no _ 41)) (fun b =>
 opt.alt ((LD × (LD × (LD × T1)))) (((LD × (LD × (LD × T1))) ⊕ (LD × (LD × (LD × (LD × (LD × (LD × T1)))))))) _ (some b) (fun c =>
 opt.ask _ (p.cmp .neq c.2.2.2.1 (0 : Int)) (
 opt.ret _ ((0 : Int), ((0 : Int), ((0 : Int), (c.2.2.2.1, ()))))) (
 opt.no _ 41)) (fun d =>
 opt.alt ((LD × (LD × (LD × T1)))) ((LD × (LD × (LD × (LD × (LD × (LD × T1))))))) _ (some d) (fun e =>
 opt.ask _ (p.cmp .neq e.2.2.2.1 (0 : Int)) (
 opt.ret _ ((0 : Int), ((0 : Int), ((0 : Int), (e.2.2.2.1, ()))))) (
 opt.no _ 41)) (fun f =>
 opt.bnd ((LD × (LD × (LD × (LD × (LD × (LD × T1))))))) _ (some f) fun g =>
 opt.ask _ (p.cmp .neq g.2.2.2.2.2.2.1 (0 : Int)) (
 opt.ret _ ((0 : Int), ((0 : Int), ((0 : Int), (g.2.2.2.2.2.2.1, ()))))) (
 opt.bnd T20 _ (g63 it p (g.2.2.1, (g.2.2.2.2.2.1, ()))) fun h =>
 opt.ask _ (bif h.2.2.2.1 then Bool.false else Bool.true) (
 opt.ret _ ((0 : Int), ((0 : Int), ((0 : Int), ((21 : Int), ()))))) (
 opt.ret _ (h.1, (h.2.1, (h.2.2.1, ((0 : Int), ())))))))))
def G32 := g32 it0
theorem ok32 : CtrOk PG ctr32 (G32 std) := okF (a := an32) (l := la32) (gC ok63 (gC ok62 (gN))) (by kernel_rfl) fun _ _ => by kernel_rfl
end Go.Am
end
noncomputable section
namespace Go.Am
def ctr78m : Ctr :=
 ⟨78, [.list 2, .clo 66 [.agg [.int .i64, .int .i64]] []], [], [(.ret, ⟨[(0, .int .i64)], [], 1⟩)]⟩
def la78m : List LA :=
 [⟨78, [false, true, false, true, true], 0, ⟨⟨[(1, .clo 66 [.agg [.int .i64, .int .i64]] []), (5, .int .i64), (13, .list 2), (14, .int .i64), (15, .int .i64)], [], 26⟩, [((AX.exit 0), ⟨[(5, .int .i64)], [], 26⟩)]⟩⟩]
def ja78m : List JA :=
 []
def gam78m : List CF :=
 []
def an78m : Anns :=
 ⟨gam78m, ja78m, []⟩
def b78m_1 (p : Prim) : T45 → Option T68 :=
 fun a => opt.run _ (
 opt.ask _ (p.cmp .lss a.2.2.2.2.2.1 a.2.2.2.2.1) (
 opt.need _ (p.rowOk a.2.2.2.1 (p.nat a.2.2.2.2.2.1) [ci, ci]) <|
 opt.need _ (p.cmp .geq a.2.2.2.2.2.1 (0 : Int)) <|
 opt.ret _ (Sum.inl (a.1, (a.2.1, ((p.mm .gtr a.2.2.1 (p.ar .add .i64 (p.ar .mul .i64 a.1 (p.rdI a.2.2.2.1 (p.nat a.2.2.2.2.2.1) 0)) (p.ar .mul .i64 a.2.1 (p.rdI a.2.2.2.1 (p.nat a.2.2.2.2.2.1) 1)))), (a.2.2.2.1, (a.2.2.2.2.1, ((p.ar .add .i64 a.2.2.2.2.2.1 (1 : Int)), ())))))))) (
 opt.ret _ (Sum.inr (a.2.2.1, ()))))
def g78m (it : It) : (p : Prim) → (LD × T3) → Option T0 :=
 fun p x =>
 opt.need _ (p.rowOk x.1 (p.nat (0 : Int)) [ci, ci]) <|
 opt.bnd T0 _ (
 it _ _ (b78m_1 p) (x.2.1, (x.2.2.1, ((p.ar .add .i64 (p.ar .mul .i64 x.2.1 (p.rdI x.1 (p.nat (0 : Int)) 0)) (p.ar .mul .i64 x.2.2.1 (p.rdI x.1 (p.nat (0 : Int)) 1))), (x.1, ((p.ofNat (p.len x.1)), ((0 : Int), ()))))))) fun a =>
 opt.ret _ (a.1, ())
def G78m := g78m it0
theorem ok78m : CtrOk PG ctr78m (G78m std) := okF (a := an78m) (l := la78m) (gN) (by kernel_rfl) fun _ _ => by kernel_rfl
def ctr39 : Ctr :=
 ⟨39, [.agg [.list 2, .list 1], .agg [.list 2, .list 1], .agg [.int .i64, .int .i64, .int .i64]], [], [(.ret, ⟨[(0, .int .i64)], [], 1⟩)]⟩
def la39 : List LA :=
 []
def ja39 : List JA :=
 [⟨39, [true, true, true, false, false, true, true, true], 0, [(AX.ret, ⟨[(6, .int .i64)], [], 90⟩), (AX.normal, ⟨[], [], 90⟩)]⟩,
 ⟨39, [true, false, false, true, true, true], 0, [(AX.ret, ⟨[(6, .int .i64)], [], 90⟩), (AX.normal, ⟨[], [], 90⟩)]⟩]
def gam39 : List CF :=
 [⟨ctr78m, G78m⟩, ⟨ctr77, G77⟩, ⟨ctr62, G62⟩]
def an39 : Anns :=
 ⟨gam39, ja39, []⟩
def g39 (it : It) : (p : Prim) → (LD × (LD × (LD × (LD × T7)))) → Option T0 :=
 fun p x =>
 opt.alt T0 (((LD × (LD × (LD × T1))) ⊕ ((LD × (LD × (LD × T1))) ⊕ (LD × (LD × (LD × (LD × (LD × (LD × T1))))))))) _ (g62 it p (x.1, (x.2.1, (x.2.2.1, (x.2.2.2.1, ()))))) (fun a =>
 opt.alt T0 (Unit) _ (
 opt.run T5 (
 opt.ask _ (p.cmp .neq a.1 (0 : Int)) (
 opt.ret _ (Sum.inl (a.1, ()))) (
 opt.ask _ (bif (p.cmp .eql x.2.2.2.2.1 (0 : Int)) then (bif (p.cmp .eql x.2.2.2.2.2.1 (0 : Int)) then Bool.true else Bool.false) else Bool.false) (
 opt.alt T0 (Unit) _ (
 opt.run T5 (
 opt.ret _ (Sum.inl ((2 : Int), ())))) (fun b =>
 opt.ret _ (Sum.inl (b.1, ()))) (fun c =>
 opt.bnd (Unit) _ (some c) fun d =>
 opt.ret _ (Sum.inr ()))) (
 opt.bnd T0 _ (G77 p (x.2.2.2.2.1, ())) fun e =>
 opt.bnd T0 _ (G77 p (x.2.2.2.2.2.1, ())) fun f =>
 opt.ask _ (p.cmp .gtr (p.mm .gtr e.1 f.1) (1048576 : Int)) (
 opt.alt T0 (Unit) _ (
 opt.run T5 (
 opt.ret _ (Sum.inl ((2 : Int), ())))) (fun g =>
 opt.ret _ (Sum.inl (g.1, ()))) (fun h =>
 opt.bnd (Unit) _ (some h) fun i =>
 opt.ret _ (Sum.inr ()))) (
 opt.bnd T0 _ (G77 p (x.2.2.2.2.2.2.1, ())) fun j =>
 opt.ask _ (p.cmp .gtr j.1 (1099511627776 : Int)) (
 opt.alt T0 (Unit) _ (
 opt.run T5 (
 opt.ret _ (Sum.inl ((2 : Int), ())))) (fun k =>
 opt.ret _ (Sum.inl (k.1, ()))) (fun l =>
 opt.bnd (Unit) _ (some l) fun m =>
 opt.ret _ (Sum.inr ()))) (
 opt.ask _ (p.cmp .lss (p.mm .lss x.2.2.2.2.1 x.2.2.2.2.2.1) (-1048576 : Int)) (
 opt.alt T0 (Unit) _ (
 opt.run T5 (
 opt.ret _ (Sum.inl ((2 : Int), ())))) (fun n =>
 opt.ret _ (Sum.inl (n.1, ()))) (fun o =>
 opt.bnd (Unit) _ (some o) fun q =>
 opt.ret _ (Sum.inr ()))) (
 opt.alt T0 (Unit) _ (
 opt.run T5 (
 opt.ask _ (p.cmp .lss x.2.2.2.2.2.2.1 (-1099511627776 : Int)) (
 opt.ret _ (Sum.inl ((2 : Int), ()))) (
 opt.no _ 41))) (fun r =>
 opt.ret _ (Sum.inl (r.1, ()))) (fun t =>
 opt.bnd (Unit) _ (some t) fun u =>
 opt.ret _ (Sum.inr ()))))))))) (fun v =>
 opt.ret _ (v.1, ())) (fun w =>
 opt.bnd (Unit) _ (some w) fun z =>
 opt.ret _ ((0 : Int), ()))) (fun a1 =>
 opt.alt ((LD × (LD × (LD × T1)))) (((LD × (LD × (LD × T1))) ⊕ (LD × (LD × (LD × (LD × (LD × (LD × T1)))))))) _ (some a1) (fun b1 =>
 opt.alt T0 (Unit) _ (
 opt.run T5 (
 opt.ask _ (p.cmp .neq b1.2.2.2.1 (0 : Int)) (
 opt.ret _ (Sum.inl (b1.2.2.2.1, ()))) (
 opt.ask _ (bif (p.cmp .eql x.2.2.2.2.1 (0 : Int)) then (bif (p.cmp .eql x.2.2.2.2.2.1 (0 : Int)) then Bool.true else Bool.false) else Bool.false) (
 opt.alt T0 (Unit) _ (
 opt.run T5 (
 opt.ret _ (Sum.inl ((2 : Int), ())))) (fun c1 =>
 opt.ret _ (Sum.inl (c1.1, ()))) (fun d1 =>
 opt.bnd (Unit) _ (some d1) fun e1 =>
 opt.ret _ (Sum.inr ()))) (
 opt.bnd T0 _ (G77 p (x.2.2.2.2.1, ())) fun f1 =>
 opt.bnd T0 _ (G77 p (x.2.2.2.2.2.1, ())) fun g1 =>
 opt.ask _ (p.cmp .gtr (p.mm .gtr f1.1 g1.1) (1048576 : Int)) (
 opt.alt T0 (Unit) _ (
 opt.run T5 (
 opt.ret _ (Sum.inl ((2 : Int), ())))) (fun h1 =>
 opt.ret _ (Sum.inl (h1.1, ()))) (fun i1 =>
 opt.bnd (Unit) _ (some i1) fun j1 =>
 opt.ret _ (Sum.inr ()))) (
 opt.bnd T0 _ (G77 p (x.2.2.2.2.2.2.1, ())) fun k1 =>
 opt.ask _ (p.cmp .gtr k1.1 (1099511627776 : Int)) (
 opt.alt T0 (Unit) _ (
 opt.run T5 (
 opt.ret _ (Sum.inl ((2 : Int), ())))) (fun l1 =>
 opt.ret _ (Sum.inl (l1.1, ()))) (fun m1 =>
 opt.bnd (Unit) _ (some m1) fun n1 =>
 opt.ret _ (Sum.inr ()))) (
 opt.ask _ (p.cmp .lss (p.mm .lss x.2.2.2.2.1 x.2.2.2.2.2.1) (-1048576 : Int)) (
 opt.alt T0 (Unit) _ (
 opt.run T5 (
 opt.ret _ (Sum.inl ((2 : Int), ())))) (fun o1 =>
 opt.ret _ (Sum.inl (o1.1, ()))) (fun q1 =>
 opt.bnd (Unit) _ (some q1) fun r1 =>
 opt.ret _ (Sum.inr ()))) (
 opt.alt T0 (Unit) _ (
 opt.run T5 (
 opt.ask _ (p.cmp .lss x.2.2.2.2.2.2.1 (-1099511627776 : Int)) (
 opt.ret _ (Sum.inl ((2 : Int), ()))) (
 opt.no _ 41))) (fun t1 =>
 opt.ret _ (Sum.inl (t1.1, ()))) (fun u1 =>
 opt.bnd (Unit) _ (some u1) fun v1 =>
 opt.ret _ (Sum.inr ()))))))))) (fun w1 =>
 opt.ret _ (w1.1, ())) (fun z1 =>
 opt.bnd (Unit) _ (some z1) fun a2 =>
 opt.ret _ ((0 : Int), ()))) (fun b2 =>
 opt.alt ((LD × (LD × (LD × T1)))) ((LD × (LD × (LD × (LD × (LD × (LD × T1))))))) _ (some b2) (fun c2 =>
 opt.alt T0 (Unit) _ (
 opt.run T5 (
 opt.ask _ (p.cmp .neq c2.2.2.2.1 (0 : Int)) (
 opt.ret _ (Sum.inl (c2.2.2.2.1, ()))) (
 opt.ask _ (bif (p.cmp .eql x.2.2.2.2.1 (0 : Int)) then (bif (p.cmp .eql x.2.2.2.2.2.1 (0 : Int)) then Bool.true else Bool.false) else Bool.false) (
 opt.alt T0 (Unit) _ (
 opt.run T5 (
 opt.ret _ (Sum.inl ((2 : Int), ())))) (fun d2 =>
 opt.ret _ (Sum.inl (d2.1, ()))) (fun e2 =>
 opt.bnd (Unit) _ (some e2) fun f2 =>
 opt.ret _ (Sum.inr ()))) (
 opt.bnd T0 _ (G77 p (x.2.2.2.2.1, ())) fun g2 =>
 opt.bnd T0 _ (G77 p (x.2.2.2.2.2.1, ())) fun h2 =>
 opt.ask _ (p.cmp .gtr (p.mm .gtr g2.1 h2.1) (1048576 : Int)) (
 opt.alt T0 (Unit) _ (
 opt.run T5 (
 opt.ret _ (Sum.inl ((2 : Int), ())))) (fun i2 =>
 opt.ret _ (Sum.inl (i2.1, ()))) (fun j2 =>
 opt.bnd (Unit) _ (some j2) fun k2 =>
 opt.ret _ (Sum.inr ()))) (
 opt.bnd T0 _ (G77 p (x.2.2.2.2.2.2.1, ())) fun l2 =>
 opt.ask _ (p.cmp .gtr l2.1 (1099511627776 : Int)) (
 opt.alt T0 (Unit) _ (
 opt.run T5 (
 opt.ret _ (Sum.inl ((2 : Int), ())))) (fun m2 =>
 opt.ret _ (Sum.inl (m2.1, ()))) (fun n2 =>
 opt.bnd (Unit) _ (some n2) fun o2 =>
 opt.ret _ (Sum.inr ()))) (
 opt.ask _ (p.cmp .lss (p.mm .lss x.2.2.2.2.1 x.2.2.2.2.2.1) (-1048576 : Int)) (
 opt.alt T0 (Unit) _ (
 opt.run T5 (
 opt.ret _ (Sum.inl ((2 : Int), ())))) (fun q2 =>
 opt.ret _ (Sum.inl (q2.1, ()))) (fun r2 =>
 opt.bnd (Unit) _ (some r2) fun t2 =>
 opt.ret _ (Sum.inr ()))) (
 opt.alt T0 (Unit) _ (
 opt.run T5 (
 opt.ask _ (p.cmp .lss x.2.2.2.2.2.2.1 (-1099511627776 : Int)) (
 opt.ret _ (Sum.inl ((2 : Int), ()))) (
 opt.bnd T0 _ (g78m it p (c2.2.2.1, (x.2.2.2.2.1, (x.2.2.2.2.2.1, ())))) fun u2 =>
 opt.ask _ (p.cmp .gtr u2.1 x.2.2.2.2.2.2.1) (
 opt.ret _ (Sum.inl ((14 : Int), ()))) (
 opt.no _ 41)))) (fun v2 =>
 opt.ret _ (Sum.inl (v2.1, ()))) (fun w2 =>
 opt.bnd (Unit) _ (some w2) fun z2 =>
 opt.ret _ (Sum.inr ()))))))))) (fun a3 =>
 opt.ret _ (a3.1, ())) (fun b3 =>
 opt.bnd (Unit) _ (some b3) fun c3 =>
 opt.ret _ ((0 : Int), ()))) (fun d3 =>
 opt.bnd ((LD × (LD × (LD × (LD × (LD × (LD × T1))))))) _ (some d3) fun e3 =>
 opt.alt T0 (Unit) _ (
 opt.run T5 (
 opt.ask _ (p.cmp .neq e3.2.2.2.2.2.2.1 (0 : Int)) (
 opt.ret _ (Sum.inl (e3.2.2.2.2.2.2.1, ()))) (
 opt.ask _ (bif (p.cmp .eql x.2.2.2.2.1 (0 : Int)) then (bif (p.cmp .eql x.2.2.2.2.2.1 (0 : Int)) then Bool.true else Bool.false) else Bool.false) (
 opt.alt T0 (Unit) _ (
 opt.run T5 (
 opt.ret _ (Sum.inl ((2 : Int), ())))) (fun f3 =>
 opt.ret _ (Sum.inl (f3.1, ()))) (fun g3 =>
 opt.bnd (Unit) _ (some g3) fun h3 =>
 opt.ret _ (Sum.inr ()))) (
 opt.bnd T0 _ (G77 p (x.2.2.2.2.1, ())) fun i3 =>
 opt.bnd T0 _ (G77 p (x.2.2.2.2.2.1, ())) fun j3 =>
 opt.ask _ (p.cmp .gtr (p.mm .gtr i3.1 j3.1) (1048576 : Int)) (
 opt.alt T0 (Unit) _ (
 opt.run T5 (
 opt.ret _ (Sum.inl ((2 : Int), ())))) (fun k3 =>
 opt.ret _ (Sum.inl (k3.1, ()))) (fun l3 =>
 opt.bnd (Unit) _ (some l3) fun m3 =>
 opt.ret _ (Sum.inr ()))) (
 opt.bnd T0 _ (G77 p (x.2.2.2.2.2.2.1, ())) fun n3 =>
 opt.ask _ (p.cmp .gtr n3.1 (1099511627776 : Int)) (
 opt.alt T0 (Unit) _ (
 opt.run T5 (
 opt.ret _ (Sum.inl ((2 : Int), ())))) (fun o3 =>
 opt.ret _ (Sum.inl (o3.1, ()))) (fun q3 =>
 opt.bnd (Unit) _ (some q3) fun r3 =>
 opt.ret _ (Sum.inr ()))) (
 opt.ask _ (p.cmp .lss (p.mm .lss x.2.2.2.2.1 x.2.2.2.2.2.1) (-1048576 : Int)) (
 opt.alt T0 (Unit) _ (
 opt.run T5 (
 opt.ret _ (Sum.inl ((2 : Int), ())))) (fun t3 =>
 opt.ret _ (Sum.inl (t3.1, ()))) (fun u3 =>
 opt.bnd (Unit) _ (some u3) fun v3 =>
 opt.ret _ (Sum.inr ()))) (
 opt.alt T0 (Unit) _ (
 opt.run T5 (
 opt.ask _ (p.cmp .lss x.2.2.2.2.2.2.1 (-1099511627776 : Int)) (
 opt.ret _ (Sum.inl ((2 : Int), ()))) (
 opt.bnd T0 _ (g78m it p (e3.2.2.1, (x.2.2.2.2.1, (x.2.2.2.2.2.1, ())))) fun w3 =>
 opt.ask _ (p.cmp .gtr w3.1 x.2.2.2.2.2.2.1) (
 opt.ret _ (Sum.inl ((14 : Int), ()))) (
 opt.bnd T0 _ (g78m it p (e3.2.2.2.2.2.1, ((p.ar .sub .i64 (0 : Int) x.2.2.2.2.1), ((p.ar .sub .i64 (0 : Int) x.2.2.2.2.2.1), ())))) fun z3 =>
 opt.ask _ (p.cmp .leq (p.ar .sub .i64 (0 : Int) z3.1) x.2.2.2.2.2.2.1) (
 opt.ret _ (Sum.inl ((14 : Int), ()))) (
 opt.ret _ (Sum.inr ())))))) (fun a4 =>
 opt.ret _ (Sum.inl (a4.1, ()))) (fun b4 =>
 opt.bnd (Unit) _ (some b4) fun c4 =>
 opt.ret _ (Sum.inr ()))))))))) (fun d4 =>
 opt.ret _ (d4.1, ())) (fun e4 =>
 opt.bnd (Unit) _ (some e4) fun f4 =>
 opt.ret _ ((0 : Int), ())))))
def G39 := g39 it0
theorem ok39 : CtrOk PG ctr39 (G39 std) := okF (a := an39) (l := la39) (gC ok78m (gC ok77 (gC ok62 (gN)))) (by kernel_rfl) fun _ _ => by kernel_rfl
end Go.Am
end
noncomputable section
namespace Go.Am
def ctr37 : Ctr :=
 ⟨37, [.agg [.list 2, .list 1], .agg [.list 2, .list 1]], [], [(.ret, ⟨[(0, .tuple [.agg [.int .i64, .int .i64, .int .i64], .int .i64])], [], 1⟩)]⟩
def la37 : List LA :=
 [⟨37, [false, true, false, true, true, true], 0, ⟨⟨[(4, .bptr 0 0), (5, .bptr 1 0), (6, .bptr 2 0), (7, .bptr 3 0), (46, .agg [.list 2, .list 2, .list 2, .list 2]), (47, .int .i64)], [.box [.int .i64, .int .i64, .int .i64], .box [.int .i64], .box [.list 2, .list 1, .list 2], .box [.bptr 4 0], .box [.list 2, .list 1, .list 2]], 89⟩, [(AX.ret, ⟨[(4, .bptr 0 0), (5, .bptr 1 0)], [.box [.int .i64, .int .i64, .int .i64], .box [.int .i64]], 89⟩), ((AX.exit 0), ⟨[(4, .bptr 0 0), (5, .bptr 1 0), (6, .bptr 2 0), (7, .bptr 3 0)], [.box [.int .i64, .int .i64, .int .i64], .box [.int .i64], .box [.list 2, .list 1, .list 2], .box [.bptr 4 0], .box [.list 2, .list 1, .list 2]], 89⟩)]⟩⟩,
 ⟨37, [false, true, true, false, false, true, true, false, false, true, false, true, true, true], 0, ⟨⟨[(4, .bptr 0 0), (5, .bptr 1 0), (6, .bptr 2 0), (7, .bptr 3 0), (10, .bptr 4 0), (46, .agg [.list 2, .list 2, .list 2, .list 2]), (47, .int .i64), (51, .list 2), (52, .int .i64), (53, .int .i64)], [.box [.int .i64, .int .i64, .int .i64], .box [.int .i64], .box [.list 2, .list 1, .list 2], .box [.bptr 5 0], .box [.list 2, .list 2], .box [.list 2, .list 1, .list 2]], 89⟩, [(AX.ret, ⟨[(4, .bptr 0 0), (5, .bptr 1 0)], [.box [.int .i64, .int .i64, .int .i64], .box [.int .i64]], 89⟩), ((AX.exit 2), ⟨[(4, .bptr 0 0), (5, .bptr 1 0), (6, .bptr 2 0), (7, .bptr 3 0), (46, .agg [.list 2, .list 2, .list 2, .list 2]), (47, .int .i64)], [.box [.int .i64, .int .i64, .int .i64], .box [.int .i64], .box [.list 2, .list 1, .list 2], .box [.bptr 4 0], .box [.list 2, .list 1, .list 2]], 89⟩)]⟩⟩,
 ⟨94, [false, true], 7, ⟨⟨[(0, .yld 6), (1, .bptr 5 0), (6, .list 2), (7, .int .i64), (8, .int .i64)], [.box [.int .i64, .int .i64, .int .i64], .box [.int .i64], .box [.list 2, .list 1, .list 2], .box [.bptr 4 0], .box [.list 2, .list 1, .list 2], .box [.list 2], .loop Go.LoopState.ready Option.none 37 [Bool.false, Bool.true, Bool.false, Bool.true, Bool.true, Bool.true, Bool.true] 89 [(72, .clo 94 [] [.bptr 5 0]), (7, .bptr 3 0), (4, .bptr 0 0), (5, .bptr 1 0)]], 33⟩, [(AX.ret, ⟨[], [.box [.int .i64, .int .i64, .int .i64], .box [.int .i64], .box [.list 2, .list 1, .list 2], .box [.bptr 4 0], .box [.list 2, .list 1, .list 2], .box [.list 2], .loop Go.LoopState.ready Option.none 37 [Bool.false, Bool.true, Bool.false, Bool.true, Bool.true, Bool.true, Bool.true] 89 [(72, .clo 94 [] [.bptr 5 0]), (7, .bptr 3 0), (4, .bptr 0 0), (5, .bptr 1 0)]], 33⟩), (AX.ret, ⟨[], [.box [.int .i64, .int .i64, .int .i64], .box [.int .i64], .box [.list 2, .list 1, .list 2], .box [.bptr 4 0], .box [.list 2, .list 1, .list 2], .box [.list 2], .loop Go.LoopState.done (Option.some Go.Code.ret) 37 [Bool.false, Bool.true, Bool.false, Bool.true, Bool.true, Bool.true, Bool.true] 89 [(72, .clo 94 [] [.bptr 5 0]), (7, .bptr 3 0), (4, .bptr 0 0), (5, .bptr 1 0)]], 33⟩), ((AX.exit 0), ⟨[], [.box [.int .i64, .int .i64, .int .i64], .box [.int .i64], .box [.list 2, .list 1, .list 2], .box [.bptr 4 0], .box [.list 2, .list 1, .list 2], .box [.list 2], .loop Go.LoopState.ready Option.none 37 [Bool.false, Bool.true, Bool.false, Bool.true, Bool.true, Bool.true, Bool.true] 89 [(72, .clo 94 [] [.bptr 5 0]), (7, .bptr 3 0), (4, .bptr 0 0), (5, .bptr 1 0)]], 33⟩)]⟩⟩,
 ⟨94, [false, true], 22, ⟨⟨[(0, .yld 21), (1, .bptr 20 0), (6, .list 2), (7, .int .i64), (8, .int .i64)], [.box [.int .i64, .int .i64, .int .i64], .box [.int .i64], .box [.list 2, .list 1, .list 2], .box [.bptr 4 0], .box [.list 2, .list 1, .list 2], .box [.list 2], .dead, .box [.int .i64, .int .i64], .dead, .dead, .dead, .dead, .dead, .dead, .dead, .dead, .dead, .dead, .box [.int .i64, .int .i64], .box [.int .i64, .int .i64, .int .i64, .int .i64], .box [.list 2], .loop Go.LoopState.ready Option.none 37 [Bool.false, Bool.true, Bool.false, Bool.true, Bool.false, Bool.true, Bool.false, Bool.true, Bool.true, Bool.true, Bool.true] 89 [(78, .clo 94 [] [.bptr 20 0]), (13, .bptr 19 0), (7, .bptr 3 0), (4, .bptr 0 0), (5, .bptr 1 0)]], 33⟩, [(AX.ret, ⟨[], [.box [.int .i64, .int .i64, .int .i64], .box [.int .i64], .box [.list 2, .list 1, .list 2], .box [.bptr 4 0], .box [.list 2, .list 1, .list 2], .box [.list 2], .dead, .box [.int .i64, .int .i64], .dead, .dead, .dead, .dead, .dead, .dead, .dead, .dead, .dead, .dead, .box [.int .i64, .int .i64], .box [.int .i64, .int .i64, .int .i64, .int .i64], .box [.list 2], .loop Go.LoopState.ready Option.none 37 [Bool.false, Bool.true, Bool.false, Bool.true, Bool.false, Bool.true, Bool.false, Bool.true, Bool.true, Bool.true, Bool.true] 89 [(78, .clo 94 [] [.bptr 20 0]), (13, .bptr 19 0), (7, .bptr 3 0), (4, .bptr 0 0), (5, .bptr 1 0)]], 33⟩), (AX.ret, ⟨[], [.box [.int .i64, .int .i64, .int .i64], .box [.int .i64], .box [.list 2, .list 1, .list 2], .box [.bptr 4 0], .box [.list 2, .list 1, .list 2], .box [.list 2], .dead, .box [.int .i64, .int .i64], .dead, .dead, .dead, .dead, .dead, .dead, .dead, .dead, .dead, .dead, .box [.int .i64, .int .i64], .box [.int .i64, .int .i64, .int .i64, .int .i64], .box [.list 2], .loop Go.LoopState.done (Option.some Go.Code.ret) 37 [Bool.false, Bool.true, Bool.false, Bool.true, Bool.false, Bool.true, Bool.false, Bool.true, Bool.true, Bool.true, Bool.true] 89 [(78, .clo 94 [] [.bptr 20 0]), (13, .bptr 19 0), (7, .bptr 3 0), (4, .bptr 0 0), (5, .bptr 1 0)]], 33⟩), ((AX.exit 0), ⟨[], [.box [.int .i64, .int .i64, .int .i64], .box [.int .i64], .box [.list 2, .list 1, .list 2], .box [.bptr 4 0], .box [.list 2, .list 1, .list 2], .box [.list 2], .dead, .box [.int .i64, .int .i64], .dead, .dead, .dead, .dead, .dead, .dead, .dead, .dead, .dead, .dead, .box [.int .i64, .int .i64], .box [.int .i64, .int .i64, .int .i64, .int .i64], .box [.list 2], .loop Go.LoopState.ready Option.none 37 [Bool.false, Bool.true, Bool.false, Bool.true, Bool.false, Bool.true, Bool.false, Bool.true, Bool.true, Bool.true, Bool.true] 89 [(78, .clo 94 [] [.bptr 20 0]), (13, .bptr 19 0), (7, .bptr 3 0), (4, .bptr 0 0), (5, .bptr 1 0)]], 33⟩)]⟩⟩]
def ja37 : List JA :=
 [⟨37, [true, false, true, false, true, false, true, true, true, true], 19, [(AX.normal, ⟨[(4, .bptr 0 0), (5, .bptr 1 0), (7, .bptr 3 0)], [.box [.int .i64, .int .i64, .int .i64], .box [.int .i64], .box [.list 2, .list 1, .list 2], .box [.bptr 4 0], .box [.list 2, .list 1, .list 2], .box [.list 2], .dead, .box [.int .i64, .int .i64], .dead, .dead, .dead, .dead, .dead, .dead, .dead, .dead, .dead, .dead, .box [.int .i64, .int .i64]], 89⟩), (AX.ret, ⟨[(4, .bptr 0 0), (5, .bptr 1 0)], [.box [.int .i64, .int .i64, .int .i64], .box [.int .i64], .box [.list 2, .list 1, .list 2], .box [.bptr 4 0], .box [.list 2, .list 1, .list 2], .box [.list 2], .dead, .box [.int .i64, .int .i64], .dead, .dead, .dead, .dead, .dead, .dead, .dead, .dead, .dead, .dead, .box [.int .i64, .int .i64]], 89⟩)]⟩,
 ⟨37, [false, false, false, true, true, false, false, true, false, true, true, true], 0, [(AX.normal, ⟨[(4, .bptr 0 0), (5, .bptr 1 0), (6, .bptr 2 0), (7, .bptr 3 0), (10, .bptr 4 0), (46, .agg [.list 2, .list 2, .list 2, .list 2]), (47, .int .i64)], [.box [.int .i64, .int .i64, .int .i64], .box [.int .i64], .box [.list 2, .list 1, .list 2], .box [.bptr 5 0], .box [.list 2, .list 2], .box [.list 2, .list 1, .list 2]], 89⟩)]⟩,
 ⟨37, [true, false, true, true, true, true], 0, [(AX.normal, ⟨[(4, .bptr 0 0), (5, .bptr 1 0)], [.box [.int .i64, .int .i64, .int .i64], .box [.int .i64]], 89⟩), (AX.ret, ⟨[(4, .bptr 0 0), (5, .bptr 1 0)], [.box [.int .i64, .int .i64, .int .i64], .box [.int .i64]], 89⟩)]⟩]
def gam37 : List CF :=
 [⟨ctr76, G76⟩, ⟨ctr57, G57⟩, ⟨ctr62, G62⟩]
def an37 : Anns :=
 ⟨gam37, ja37, []⟩
def c37_4 (it : It) (p : Prim) : (Int × (Int × (Int × (Int × (LD × (LD × (LD × (LD × (LD × (LD × (LD × (Int × (Int × (Int × (Int × (Int × (Int × (Int × (Int × (LD × (LD × (Int × (Int × Unit))))))))))))))))))))))) → Option ((Int × (Int × (Int × (Int × (LD × (LD × (LD × (LD × (LD × (LD × (LD × (Int × (Int × (Int × (Int × (Int × (Int × (Int × (Int × (LD × (LD × (Int × (Int × Unit))))))))))))))))))))))) ⊕ ((Int × (Int × (Int × (Int × (LD × (LD × (LD × (LD × (LD × (LD × (LD × (Int × (Int × (Int × (Int × (Int × (Int × (Int × (Int × (LD × Unit)))))))))))))))))))) ⊕ ((Int × (Int × (Int × (Int × (LD × (LD × (LD × (LD × (LD × (LD × (LD × (Int × (Int × (Int × (Int × (Int × (Int × (Int × (Int × (LD × Unit)))))))))))))))))))) ⊕ (Int × (Int × (Int × (Int × (LD × (LD × (LD × (LD × (LD × (LD × (LD × (Int × (Int × (Int × (Int × (Int × (Int × (Int × (Int × (LD × Unit))))))))))))))))))))))) :=
 fun a => opt.run _ (
 opt.ask _ (p.cmp .lss a.2.2.2.2.2.2.2.2.2.2.2.2.2.2.2.2.2.2.2.2.2.2.1 a.2.2.2.2.2.2.2.2.2.2.2.2.2.2.2.2.2.2.2.2.2.1) (
 opt.need _ (p.rowOk a.2.2.2.2.2.2.2.2.2.2.2.2.2.2.2.2.2.2.2.2.1 (p.nat a.2.2.2.2.2.2.2.2.2.2.2.2.2.2.2.2.2.2.2.2.2.2.1) [ci, ci]) <|
 opt.need _ (p.cmp .geq a.2.2.2.2.2.2.2.2.2.2.2.2.2.2.2.2.2.2.2.2.2.2.1 (0 : Int)) <|
 opt.need _ (p.cmp .neq (p.ofNat (p.len a.2.2.2.2.2.2.2.2.2.2.2.2.2.2.2.2.2.2.2.1)) (0 : Int)) <|
 opt.need _ (p.rowOk a.2.2.2.2.2.2.2.2.2.2.2.2.2.2.2.2.2.2.2.1 (p.nat (p.ar .rem .i64 (p.ar .add .i64 a.2.2.2.2.2.2.2.2.2.2.2.2.2.2.2.2.2.2.2.2.2.2.1 (1 : Int)) (p.ofNat (p.len a.2.2.2.2.2.2.2.2.2.2.2.2.2.2.2.2.2.2.2.1)))) [ci, ci]) <|
 opt.need _ (p.cmp .geq (p.ar .rem .i64 (p.ar .add .i64 a.2.2.2.2.2.2.2.2.2.2.2.2.2.2.2.2.2.2.2.2.2.2.1 (1 : Int)) (p.ofNat (p.len a.2.2.2.2.2.2.2.2.2.2.2.2.2.2.2.2.2.2.2.1))) (0 : Int)) <|
 opt.ask _ (bif (p.cmp .eql (p.ar .sub .i64 (p.rdI a.2.2.2.2.2.2.2.2.2.2.2.2.2.2.2.2.2.2.2.1 (p.nat (p.ar .rem .i64 (p.ar .add .i64 a.2.2.2.2.2.2.2.2.2.2.2.2.2.2.2.2.2.2.2.2.2.2.1 (1 : Int)) (p.ofNat (p.len a.2.2.2.2.2.2.2.2.2.2.2.2.2.2.2.2.2.2.2.1)))) 0) (p.rdI a.2.2.2.2.2.2.2.2.2.2.2.2.2.2.2.2.2.2.2.2.1 (p.nat a.2.2.2.2.2.2.2.2.2.2.2.2.2.2.2.2.2.2.2.2.2.2.1) 0)) (0 : Int)) then (bif (p.cmp .eql (p.ar .sub .i64 (p.rdI a.2.2.2.2.2.2.2.2.2.2.2.2.2.2.2.2.2.2.2.1 (p.nat (p.ar .rem .i64 (p.ar .add .i64 a.2.2.2.2.2.2.2.2.2.2.2.2.2.2.2.2.2.2.2.2.2.2.1 (1 : Int)) (p.ofNat (p.len a.2.2.2.2.2.2.2.2.2.2.2.2.2.2.2.2.2.2.2.1)))) 1) (p.rdI a.2.2.2.2.2.2.2.2.2.2.2.2.2.2.2.2.2.2.2.2.1 (p.nat a.2.2.2.2.2.2.2.2.2.2.2.2.2.2.2.2.2.2.2.2.2.2.1) 1)) (0 : Int)) then Bool.true else Bool.false) else Bool.false) (
 opt.ret _ (Sum.inr (Sum.inl (a.1, (a.2.1, (a.2.2.1, (a.2.2.2.1, (a.2.2.2.2.1, (a.2.2.2.2.2.1, (a.2.2.2.2.2.2.1, (a.2.2.2.2.2.2.2.1, (a.2.2.2.2.2.2.2.2.1, (a.2.2.2.2.2.2.2.2.2.1, (a.2.2.2.2.2.2.2.2.2.2.1, (a.2.2.2.2.2.2.2.2.2.2.2.1, (a.2.2.2.2.2.2.2.2.2.2.2.2.1, (a.2.2.2.2.2.2.2.2.2.2.2.2.2.1, (a.2.2.2.2.2.2.2.2.2.2.2.2.2.2.1, (a.2.2.2.2.2.2.2.2.2.2.2.2.2.2.2.1, (a.2.2.2.2.2.2.2.2.2.2.2.2.2.2.2.2.1, (a.2.2.2.2.2.2.2.2.2.2.2.2.2.2.2.2.2.1, (a.2.2.2.2.2.2.2.2.2.2.2.2.2.2.2.2.2.2.1, (a.2.2.2.2.2.2.2.2.2.2.2.2.2.2.2.2.2.2.2.1, ()))))))))))))))))))))))) (
 opt.bnd T20 _ (g76 it p (a.2.2.2.2.2.2.2.2.2.2.2.2.2.2.2.1, (a.2.2.2.2.2.2.2.2.2.2.2.2.2.2.2.2.1, (a.2.2.2.2.2.2.2.2.2.2.2.2.2.2.2.2.2.1, (a.2.2.2.2.2.2.2.2.2.2.2.2.2.2.2.2.2.2.1, ((p.rdI a.2.2.2.2.2.2.2.2.2.2.2.2.2.2.2.2.2.2.2.2.1 (p.nat a.2.2.2.2.2.2.2.2.2.2.2.2.2.2.2.2.2.2.2.2.2.2.1) 0), ((p.rdI a.2.2.2.2.2.2.2.2.2.2.2.2.2.2.2.2.2.2.2.2.1 (p.nat a.2.2.2.2.2.2.2.2.2.2.2.2.2.2.2.2.2.2.2.2.2.2.1) 1), ((p.ar .sub .i64 (p.rdI a.2.2.2.2.2.2.2.2.2.2.2.2.2.2.2.2.2.2.2.1 (p.nat (p.ar .rem .i64 (p.ar .add .i64 a.2.2.2.2.2.2.2.2.2.2.2.2.2.2.2.2.2.2.2.2.2.2.1 (1 : Int)) (p.ofNat (p.len a.2.2.2.2.2.2.2.2.2.2.2.2.2.2.2.2.2.2.2.1)))) 0) (p.rdI a.2.2.2.2.2.2.2.2.2.2.2.2.2.2.2.2.2.2.2.2.1 (p.nat a.2.2.2.2.2.2.2.2.2.2.2.2.2.2.2.2.2.2.2.2.2.2.1) 0)), ((p.ar .sub .i64 (p.rdI a.2.2.2.2.2.2.2.2.2.2.2.2.2.2.2.2.2.2.2.1 (p.nat (p.ar .rem .i64 (p.ar .add .i64 a.2.2.2.2.2.2.2.2.2.2.2.2.2.2.2.2.2.2.2.2.2.2.1 (1 : Int)) (p.ofNat (p.len a.2.2.2.2.2.2.2.2.2.2.2.2.2.2.2.2.2.2.2.1)))) 1) (p.rdI a.2.2.2.2.2.2.2.2.2.2.2.2.2.2.2.2.2.2.2.2.1 (p.nat a.2.2.2.2.2.2.2.2.2.2.2.2.2.2.2.2.2.2.2.2.2.2.1) 1)), ()))))))))) fun b =>
 opt.ask _ b.2.2.2.1 (
 opt.ret _ (Sum.inr (Sum.inr (Sum.inl (b.1, (b.2.1, (b.2.2.1, ((0 : Int), (a.2.2.2.2.1, (a.2.2.2.2.2.1, (a.2.2.2.2.2.2.1, (a.2.2.2.2.2.2.2.1, (a.2.2.2.2.2.2.2.2.1, (a.2.2.2.2.2.2.2.2.2.1, (a.2.2.2.2.2.2.2.2.2.2.1, (a.2.2.2.2.2.2.2.2.2.2.2.1, (a.2.2.2.2.2.2.2.2.2.2.2.2.1, (a.2.2.2.2.2.2.2.2.2.2.2.2.2.1, (a.2.2.2.2.2.2.2.2.2.2.2.2.2.2.1, (a.2.2.2.2.2.2.2.2.2.2.2.2.2.2.2.1, (a.2.2.2.2.2.2.2.2.2.2.2.2.2.2.2.2.1, (a.2.2.2.2.2.2.2.2.2.2.2.2.2.2.2.2.2.1, (a.2.2.2.2.2.2.2.2.2.2.2.2.2.2.2.2.2.2.1, (a.2.2.2.2.2.2.2.2.2.2.2.2.2.2.2.2.2.2.2.1, ())))))))))))))))))))))))) (
 opt.ret _ (Sum.inl (a.1, (a.2.1, (a.2.2.1, (a.2.2.2.1, (a.2.2.2.2.1, (a.2.2.2.2.2.1, (a.2.2.2.2.2.2.1, (a.2.2.2.2.2.2.2.1, (a.2.2.2.2.2.2.2.2.1, (a.2.2.2.2.2.2.2.2.2.1, (a.2.2.2.2.2.2.2.2.2.2.1, (a.2.2.2.2.2.2.2.2.2.2.2.1, (a.2.2.2.2.2.2.2.2.2.2.2.2.1, (a.2.2.2.2.2.2.2.2.2.2.2.2.2.1, (a.2.2.2.2.2.2.2.2.2.2.2.2.2.2.1, (a.2.2.2.2.2.2.2.2.2.2.2.2.2.2.2.1, (a.2.2.2.2.2.2.2.2.2.2.2.2.2.2.2.2.1, (a.2.2.2.2.2.2.2.2.2.2.2.2.2.2.2.2.2.1, (a.2.2.2.2.2.2.2.2.2.2.2.2.2.2.2.2.2.2.1, (a.2.2.2.2.2.2.2.2.2.2.2.2.2.2.2.2.2.2.2.1, (a.2.2.2.2.2.2.2.2.2.2.2.2.2.2.2.2.2.2.2.2.1, (a.2.2.2.2.2.2.2.2.2.2.2.2.2.2.2.2.2.2.2.2.2.1, ((p.ar .add .i64 a.2.2.2.2.2.2.2.2.2.2.2.2.2.2.2.2.2.2.2.2.2.2.1 (1 : Int)), ()))))))))))))))))))))))))))) (
 opt.ret _ (Sum.inr (Sum.inr (Sum.inr (a.1, (a.2.1, (a.2.2.1, (a.2.2.2.1, (a.2.2.2.2.1, (a.2.2.2.2.2.1, (a.2.2.2.2.2.2.1, (a.2.2.2.2.2.2.2.1, (a.2.2.2.2.2.2.2.2.1, (a.2.2.2.2.2.2.2.2.2.1, (a.2.2.2.2.2.2.2.2.2.2.1, (a.2.2.2.2.2.2.2.2.2.2.2.1, (a.2.2.2.2.2.2.2.2.2.2.2.2.1, (a.2.2.2.2.2.2.2.2.2.2.2.2.2.1, (a.2.2.2.2.2.2.2.2.2.2.2.2.2.2.1, (a.2.2.2.2.2.2.2.2.2.2.2.2.2.2.2.1, (a.2.2.2.2.2.2.2.2.2.2.2.2.2.2.2.2.1, (a.2.2.2.2.2.2.2.2.2.2.2.2.2.2.2.2.2.1, (a.2.2.2.2.2.2.2.2.2.2.2.2.2.2.2.2.2.2.1, (a.2.2.2.2.2.2.2.2.2.2.2.2.2.2.2.2.2.2.2.1, ())))))))))))))))))))))))))
def c37_3 (it : It) (p : Prim) : (Int × (Int × (Int × (Int × (LD × (LD × (LD × (LD × (LD × (LD × (LD × (LD × (Int × (Int × Unit)))))))))))))) → Option ((Int × (Int × (Int × (Int × (LD × (LD × (LD × (LD × (LD × (LD × (LD × (LD × (Int × (Int × Unit)))))))))))))) ⊕ ((Int × (Int × (Int × (Int × (LD × (LD × (LD × (LD × (LD × (LD × (LD × Unit))))))))))) ⊕ ((Int × (Int × (Int × (Int × (LD × (LD × (LD × (LD × (LD × (LD × (LD × Unit))))))))))) ⊕ (Int × (Int × (Int × (Int × (LD × (LD × (LD × (LD × (LD × (LD × (LD × Unit)))))))))))))) :=
 fun a => opt.run _ (
 opt.ask _ (p.cmp .lss a.2.2.2.2.2.2.2.2.2.2.2.2.2.1 a.2.2.2.2.2.2.2.2.2.2.2.2.1) (
 opt.need _ (p.rowOk a.2.2.2.2.2.2.2.2.2.2.2.1 (p.nat a.2.2.2.2.2.2.2.2.2.2.2.2.2.1) [ci, ci]) <|
 opt.need _ (p.cmp .geq a.2.2.2.2.2.2.2.2.2.2.2.2.2.1 (0 : Int)) <|
 opt.need _ (p.cmp .neq (p.ofNat (p.len a.2.2.2.2.2.2.2.2.2.2.1)) (0 : Int)) <|
 opt.need _ (p.rowOk a.2.2.2.2.2.2.2.2.2.2.1 (p.nat (p.ar .rem .i64 (p.ar .add .i64 a.2.2.2.2.2.2.2.2.2.2.2.2.2.1 (1 : Int)) (p.ofNat (p.len a.2.2.2.2.2.2.2.2.2.2.1)))) [ci, ci]) <|
 opt.need _ (p.cmp .geq (p.ar .rem .i64 (p.ar .add .i64 a.2.2.2.2.2.2.2.2.2.2.2.2.2.1 (1 : Int)) (p.ofNat (p.len a.2.2.2.2.2.2.2.2.2.2.1))) (0 : Int)) <|
 opt.ask _ (bif (p.cmp .eql (p.ar .sub .i64 (p.rdI a.2.2.2.2.2.2.2.2.2.2.1 (p.nat (p.ar .rem .i64 (p.ar .add .i64 a.2.2.2.2.2.2.2.2.2.2.2.2.2.1 (1 : Int)) (p.ofNat (p.len a.2.2.2.2.2.2.2.2.2.2.1)))) 0) (p.rdI a.2.2.2.2.2.2.2.2.2.2.2.1 (p.nat a.2.2.2.2.2.2.2.2.2.2.2.2.2.1) 0)) (0 : Int)) then (bif (p.cmp .eql (p.ar .sub .i64 (p.rdI a.2.2.2.2.2.2.2.2.2.2.1 (p.nat (p.ar .rem .i64 (p.ar .add .i64 a.2.2.2.2.2.2.2.2.2.2.2.2.2.1 (1 : Int)) (p.ofNat (p.len a.2.2.2.2.2.2.2.2.2.2.1)))) 1) (p.rdI a.2.2.2.2.2.2.2.2.2.2.2.1 (p.nat a.2.2.2.2.2.2.2.2.2.2.2.2.2.1) 1)) (0 : Int)) then Bool.true else Bool.false) else Bool.false) (
 opt.ret _ (Sum.inr (Sum.inl (a.1, (a.2.1, (a.2.2.1, (a.2.2.2.1, (a.2.2.2.2.1, (a.2.2.2.2.2.1, (a.2.2.2.2.2.2.1, (a.2.2.2.2.2.2.2.1, (a.2.2.2.2.2.2.2.2.1, (a.2.2.2.2.2.2.2.2.2.1, (a.2.2.2.2.2.2.2.2.2.2.1, ())))))))))))))) (
 opt.alt T47 T47 _ (
 opt.run (((Int × (Int × (Int × (Int × (LD × (LD × (LD × (LD × (LD × (LD × (LD × (Int × (Int × (Int × (Int × Unit))))))))))))))) ⊕ (Int × (Int × (Int × (Int × (LD × (LD × (LD × (LD × (LD × (LD × (LD × (Int × (Int × (Int × (Int × Unit))))))))))))))))) (
 opt.alt T37 (((Int × (Int × (Int × (Int × (LD × (LD × (LD × (LD × (LD × (LD × (LD × (Int × (Int × (Int × (Int × (Int × (Int × (Int × (Int × (LD × Unit)))))))))))))))))))) ⊕ (Int × (Int × (Int × (Int × (LD × (LD × (LD × (LD × (LD × (LD × (LD × (Int × (Int × (Int × (Int × (Int × (Int × (Int × (Int × (LD × Unit)))))))))))))))))))))) _ (
 it _ _ (c37_4 it p) (a.1, (a.2.1, (a.2.2.1, (a.2.2.2.1, (a.2.2.2.2.1, (a.2.2.2.2.2.1, (a.2.2.2.2.2.2.1, (a.2.2.2.2.2.2.2.1, (a.2.2.2.2.2.2.2.2.1, (a.2.2.2.2.2.2.2.2.2.1, (a.2.2.2.2.2.2.2.2.2.2.1, ((p.rdI a.2.2.2.2.2.2.2.2.2.2.2.1 (p.nat a.2.2.2.2.2.2.2.2.2.2.2.2.2.1) 0), ((p.rdI a.2.2.2.2.2.2.2.2.2.2.2.1 (p.nat a.2.2.2.2.2.2.2.2.2.2.2.2.2.1) 1), ((p.ar .sub .i64 (p.rdI a.2.2.2.2.2.2.2.2.2.2.1 (p.nat (p.ar .rem .i64 (p.ar .add .i64 a.2.2.2.2.2.2.2.2.2.2.2.2.2.1 (1 : Int)) (p.ofNat (p.len a.2.2.2.2.2.2.2.2.2.2.1)))) 0) (p.rdI a.2.2.2.2.2.2.2.2.2.2.2.1 (p.nat a.2.2.2.2.2.2.2.2.2.2.2.2.2.1) 0)), ((p.ar .sub .i64 (p.rdI a.2.2.2.2.2.2.2.2.2.2.1 (p.nat (p.ar .rem .i64 (p.ar .add .i64 a.2.2.2.2.2.2.2.2.2.2.2.2.2.1 (1 : Int)) (p.ofNat (p.len a.2.2.2.2.2.2.2.2.2.2.1)))) 1) (p.rdI a.2.2.2.2.2.2.2.2.2.2.2.1 (p.nat a.2.2.2.2.2.2.2.2.2.2.2.2.2.1) 1)), ((p.rdI a.2.2.2.2.2.2.2.2.2.2.2.1 (p.nat a.2.2.2.2.2.2.2.2.2.2.2.2.2.1) 0), ((p.rdI a.2.2.2.2.2.2.2.2.2.2.2.1 (p.nat a.2.2.2.2.2.2.2.2.2.2.2.2.2.1) 1), ((p.ar .sub .i64 (p.rdI a.2.2.2.2.2.2.2.2.2.2.1 (p.nat (p.ar .rem .i64 (p.ar .add .i64 a.2.2.2.2.2.2.2.2.2.2.2.2.2.1 (1 : Int)) (p.ofNat (p.len a.2.2.2.2.2.2.2.2.2.2.1)))) 0) (p.rdI a.2.2.2.2.2.2.2.2.2.2.2.1 (p.nat a.2.2.2.2.2.2.2.2.2.2.2.2.2.1) 0)), ((p.ar .sub .i64 (p.rdI a.2.2.2.2.2.2.2.2.2.2.1 (p.nat (p.ar .rem .i64 (p.ar .add .i64 a.2.2.2.2.2.2.2.2.2.2.2.2.2.1 (1 : Int)) (p.ofNat (p.len a.2.2.2.2.2.2.2.2.2.2.1)))) 1) (p.rdI a.2.2.2.2.2.2.2.2.2.2.2.1 (p.nat a.2.2.2.2.2.2.2.2.2.2.2.2.2.1) 1)), (a.2.2.2.2.2.2.2.2.2.1, (a.2.2.2.2.2.2.2.2.2.1, ((p.ofNat (p.len a.2.2.2.2.2.2.2.2.2.1)), ((0 : Int), ())))))))))))))))))))))))) (fun b =>
 opt.ret _ (Sum.inl (b.1, (b.2.1, (b.2.2.1, (b.2.2.2.1, (b.2.2.2.2.1, (b.2.2.2.2.2.1, (b.2.2.2.2.2.2.1, (b.2.2.2.2.2.2.2.1, (b.2.2.2.2.2.2.2.2.1, (b.2.2.2.2.2.2.2.2.2.1, (b.2.2.2.2.2.2.2.2.2.2.1, (b.2.2.2.2.2.2.2.2.2.2.2.1, (b.2.2.2.2.2.2.2.2.2.2.2.2.1, (b.2.2.2.2.2.2.2.2.2.2.2.2.2.1, (b.2.2.2.2.2.2.2.2.2.2.2.2.2.2.1, ()))))))))))))))))) (fun c =>
 opt.alt T37 T37 _ (some c) (fun d =>
 opt.ret _ (Sum.inr (d.1, (d.2.1, (d.2.2.1, (d.2.2.2.1, (d.2.2.2.2.1, (d.2.2.2.2.2.1, (d.2.2.2.2.2.2.1, (d.2.2.2.2.2.2.2.1, (d.2.2.2.2.2.2.2.2.1, (d.2.2.2.2.2.2.2.2.2.1, (d.2.2.2.2.2.2.2.2.2.2.1, (d.2.2.2.2.2.2.2.2.2.2.2.1, (d.2.2.2.2.2.2.2.2.2.2.2.2.1, (d.2.2.2.2.2.2.2.2.2.2.2.2.2.1, (d.2.2.2.2.2.2.2.2.2.2.2.2.2.2.1, ()))))))))))))))))) (fun e =>
 opt.bnd T37 _ (some e) fun f =>
 opt.ret _ (Sum.inl (f.1, (f.2.1, (f.2.2.1, (f.2.2.2.1, (f.2.2.2.2.1, (f.2.2.2.2.2.1, (f.2.2.2.2.2.2.1, (f.2.2.2.2.2.2.2.1, (f.2.2.2.2.2.2.2.2.1, (f.2.2.2.2.2.2.2.2.2.1, (f.2.2.2.2.2.2.2.2.2.2.1, (f.2.2.2.2.2.2.2.2.2.2.2.1, (f.2.2.2.2.2.2.2.2.2.2.2.2.1, (f.2.2.2.2.2.2.2.2.2.2.2.2.2.1, (f.2.2.2.2.2.2.2.2.2.2.2.2.2.2.1, ())))))))))))))))))))) (fun g =>
 opt.ret _ (Sum.inl (g.1, (g.2.1, (g.2.2.1, (g.2.2.2.1, (g.2.2.2.2.1, (g.2.2.2.2.2.1, (g.2.2.2.2.2.2.1, (g.2.2.2.2.2.2.2.1, (g.2.2.2.2.2.2.2.2.1, (g.2.2.2.2.2.2.2.2.2.1, (g.2.2.2.2.2.2.2.2.2.2.1, (a.2.2.2.2.2.2.2.2.2.2.2.1, (a.2.2.2.2.2.2.2.2.2.2.2.2.1, ((p.ar .add .i64 a.2.2.2.2.2.2.2.2.2.2.2.2.2.1 (1 : Int)), ())))))))))))))))) (fun h =>
 opt.bnd T47 _ (some h) fun i =>
 opt.ret _ (Sum.inr (Sum.inr (Sum.inl (i.1, (i.2.1, (i.2.2.1, (i.2.2.2.1, (i.2.2.2.2.1, (i.2.2.2.2.2.1, (i.2.2.2.2.2.2.1, (i.2.2.2.2.2.2.2.1, (i.2.2.2.2.2.2.2.2.1, (i.2.2.2.2.2.2.2.2.2.1, (i.2.2.2.2.2.2.2.2.2.2.1, ()))))))))))))))))) (
 opt.ret _ (Sum.inr (Sum.inr (Sum.inr (a.1, (a.2.1, (a.2.2.1, (a.2.2.2.1, (a.2.2.2.2.1, (a.2.2.2.2.2.1, (a.2.2.2.2.2.2.1, (a.2.2.2.2.2.2.2.1, (a.2.2.2.2.2.2.2.2.1, (a.2.2.2.2.2.2.2.2.2.1, (a.2.2.2.2.2.2.2.2.2.2.1, ()))))))))))))))))
def c37_2 (it : It) (p : Prim) : (Int × (Int × (Int × (Int × (LD × (LD × (LD × (LD × (LD × (LD × (LD × (LD × (LD × (LD × (LD × (LD × (Int × (LD × (Int × (Int × Unit)))))))))))))))))))) → Option ((Int × (Int × (Int × (Int × (LD × (LD × (LD × (LD × (LD × (LD × (LD × (LD × (LD × (LD × (LD × (LD × (Int × (LD × (Int × (Int × Unit)))))))))))))))))))) ⊕ ((Int × (Int × (Int × (Int × Unit)))) ⊕ (Int × (Int × (Int × (Int × (LD × (LD × (LD × (LD × (LD × (LD × (LD × (LD × (LD × (LD × (Int × Unit))))))))))))))))) :=
 fun a => opt.run _ (
 opt.ask _ (p.cmp .lss a.2.2.2.2.2.2.2.2.2.2.2.2.2.2.2.2.2.2.2.1 a.2.2.2.2.2.2.2.2.2.2.2.2.2.2.2.2.2.2.1) (
 opt.need _ (p.rowOk a.2.2.2.2.2.2.2.2.2.2.2.2.2.2.2.2.2.1 (p.nat a.2.2.2.2.2.2.2.2.2.2.2.2.2.2.2.2.2.2.2.1) [ci, ci]) <|
 opt.need _ (p.cmp .geq a.2.2.2.2.2.2.2.2.2.2.2.2.2.2.2.2.2.2.2.1 (0 : Int)) <|
 opt.bnd T2 _ (g57 it p (a.2.2.2.2.2.2.2.2.1, ((p.rdI a.2.2.2.2.2.2.2.2.2.2.2.2.2.2.2.2.2.1 (p.nat a.2.2.2.2.2.2.2.2.2.2.2.2.2.2.2.2.2.2.2.1) 0), ((p.rdI a.2.2.2.2.2.2.2.2.2.2.2.2.2.2.2.2.2.1 (p.nat a.2.2.2.2.2.2.2.2.2.2.2.2.2.2.2.2.2.2.2.1) 1), ((1 : Int), ()))))) fun b =>
 opt.ask _ b.1 (
 opt.ret _ (Sum.inr (Sum.inl ((p.rdI a.2.2.2.2.2.2.2.2.2.2.2.2.2.2.2.2.2.1 (p.nat a.2.2.2.2.2.2.2.2.2.2.2.2.2.2.2.2.2.2.2.1) 0), ((p.rdI a.2.2.2.2.2.2.2.2.2.2.2.2.2.2.2.2.2.1 (p.nat a.2.2.2.2.2.2.2.2.2.2.2.2.2.2.2.2.2.2.2.1) 1), ((1 : Int), ((0 : Int), ()))))))) (
 opt.ret _ (Sum.inl (a.1, (a.2.1, (a.2.2.1, (a.2.2.2.1, (a.2.2.2.2.1, (a.2.2.2.2.2.1, (a.2.2.2.2.2.2.1, (a.2.2.2.2.2.2.2.1, (a.2.2.2.2.2.2.2.2.1, (a.2.2.2.2.2.2.2.2.2.1, (a.2.2.2.2.2.2.2.2.2.2.1, (a.2.2.2.2.2.2.2.2.2.2.2.1, (a.2.2.2.2.2.2.2.2.2.2.2.2.1, (a.2.2.2.2.2.2.2.2.2.2.2.2.2.1, (a.2.2.2.2.2.2.2.2.2.2.2.2.2.2.1, (a.2.2.2.2.2.2.2.2.2.2.2.2.2.2.2.1, (a.2.2.2.2.2.2.2.2.2.2.2.2.2.2.2.2.1, (a.2.2.2.2.2.2.2.2.2.2.2.2.2.2.2.2.2.1, (a.2.2.2.2.2.2.2.2.2.2.2.2.2.2.2.2.2.2.1, ((p.ar .add .i64 a.2.2.2.2.2.2.2.2.2.2.2.2.2.2.2.2.2.2.2.1 (1 : Int)), ()))))))))))))))))))))))) (
 opt.ret _ (Sum.inr (Sum.inr (a.1, (a.2.1, (a.2.2.1, (a.2.2.2.1, (a.2.2.2.2.1, (a.2.2.2.2.2.1, (a.2.2.2.2.2.2.1, (a.2.2.2.2.2.2.2.2.2.1, (a.2.2.2.2.2.2.2.2.2.2.1, (a.2.2.2.2.2.2.2.2.2.2.2.1, (a.2.2.2.2.2.2.2.2.2.2.2.2.1, (a.2.2.2.2.2.2.2.2.2.2.2.2.2.1, (a.2.2.2.2.2.2.2.2.2.2.2.2.2.2.1, (a.2.2.2.2.2.2.2.2.2.2.2.2.2.2.2.1, (a.2.2.2.2.2.2.2.2.2.2.2.2.2.2.2.2.1, ())))))))))))))))))))
def c37_1 (it : It) (p : Prim) : (Int × (Int × (Int × (Int × (LD × (LD × (LD × (LD × (LD × (LD × (LD × (LD × (LD × (LD × (Int × Unit))))))))))))))) → Option ((Int × (Int × (Int × (Int × (LD × (LD × (LD × (LD × (LD × (LD × (LD × (LD × (LD × (LD × (Int × Unit))))))))))))))) ⊕ ((Int × (Int × (Int × (Int × Unit)))) ⊕ (Int × (Int × (Int × (Int × (LD × (LD × (LD × (LD × (LD × (LD × Unit)))))))))))) :=
 fun a => opt.run _ (
 opt.ask _ (p.cmp .lss a.2.2.2.2.2.2.2.2.2.2.2.2.2.2.1 (2 : Int)) (
 opt.bnd T72 _ (
 opt.run T72 (
 opt.ask _ (p.cmp .eql a.2.2.2.2.2.2.2.2.2.2.2.2.2.2.1 (0 : Int)) (
 opt.need _ (bif (p.cmp .geq (0 : Int) (0 : Int)) then (p.cmp .lss (0 : Int) (p.ofNat 2)) else Bool.false) <|
 opt.ret _ (a.1, (a.2.1, (a.2.2.1, (a.2.2.2.1, (a.2.2.2.2.1, (a.2.2.2.2.2.1, (a.2.2.2.2.2.2.1, (a.2.2.2.2.2.2.2.2.2.2.1, (a.2.2.2.2.2.2.2.2.2.2.2.1, (a.2.2.2.2.2.2.2.1, (a.2.2.2.2.2.2.2.2.1, (a.2.2.2.2.2.2.2.2.2.1, (a.2.2.2.2.2.2.2.2.2.2.1, (a.2.2.2.2.2.2.2.2.2.2.2.1, (a.2.2.2.2.2.2.2.2.2.2.2.2.1, (a.2.2.2.2.2.2.2.2.2.2.2.2.2.1, ((0 : Int), ())))))))))))))))))) (
 opt.need _ (p.cmp .eql a.2.2.2.2.2.2.2.2.2.2.2.2.2.2.1 (1 : Int)) <|
 opt.need _ (bif (p.cmp .geq (1 : Int) (0 : Int)) then (p.cmp .lss (1 : Int) (p.ofNat 2)) else Bool.false) <|
 opt.ret _ (a.1, (a.2.1, (a.2.2.1, (a.2.2.2.1, (a.2.2.2.2.1, (a.2.2.2.2.2.1, (a.2.2.2.2.2.2.1, (a.2.2.2.2.2.2.2.2.2.2.2.2.1, (a.2.2.2.2.2.2.2.2.2.2.2.2.2.1, (a.2.2.2.2.2.2.2.1, (a.2.2.2.2.2.2.2.2.1, (a.2.2.2.2.2.2.2.2.2.1, (a.2.2.2.2.2.2.2.2.2.2.1, (a.2.2.2.2.2.2.2.2.2.2.2.1, (a.2.2.2.2.2.2.2.2.2.2.2.2.1, (a.2.2.2.2.2.2.2.2.2.2.2.2.2.1, ((1 : Int), ())))))))))))))))))))) fun b =>
 opt.alt T9 T73 _ (
 it _ _ (c37_2 it p) (b.1, (b.2.1, (b.2.2.1, (b.2.2.2.1, (b.2.2.2.2.1, (b.2.2.2.2.2.1, (b.2.2.2.2.2.2.1, (b.2.2.2.2.2.2.2.1, (b.2.2.2.2.2.2.2.2.1, (b.2.2.2.2.2.2.2.2.2.1, (b.2.2.2.2.2.2.2.2.2.2.1, (b.2.2.2.2.2.2.2.2.2.2.2.1, (b.2.2.2.2.2.2.2.2.2.2.2.2.1, (b.2.2.2.2.2.2.2.2.2.2.2.2.2.1, (b.2.2.2.2.2.2.2.2.2.2.2.2.2.2.1, (b.2.2.2.2.2.2.2.2.2.2.2.2.2.2.2.1, (b.2.2.2.2.2.2.2.2.2.2.2.2.2.2.2.2.1, (b.2.2.2.2.2.2.2.1, ((p.ofNat (p.len b.2.2.2.2.2.2.2.1)), ((0 : Int), ()))))))))))))))))))))) (fun c =>
 opt.ret _ (Sum.inr (Sum.inl (c.1, (c.2.1, (c.2.2.1, (c.2.2.2.1, ()))))))) (fun d =>
 opt.bnd T73 _ (some d) fun e =>
 opt.ret _ (Sum.inl (e.1, (e.2.1, (e.2.2.1, (e.2.2.2.1, (e.2.2.2.2.1, (e.2.2.2.2.2.1, (e.2.2.2.2.2.2.1, (e.2.2.2.2.2.2.2.1, (e.2.2.2.2.2.2.2.2.1, (e.2.2.2.2.2.2.2.2.2.1, (e.2.2.2.2.2.2.2.2.2.2.1, (e.2.2.2.2.2.2.2.2.2.2.2.1, (e.2.2.2.2.2.2.2.2.2.2.2.2.1, (e.2.2.2.2.2.2.2.2.2.2.2.2.2.1, ((p.ar .add .i64 e.2.2.2.2.2.2.2.2.2.2.2.2.2.2.1 (1 : Int)), ())))))))))))))))))) (
 opt.ret _ (Sum.inr (Sum.inr (a.1, (a.2.1, (a.2.2.1, (a.2.2.2.1, (a.2.2.2.2.1, (a.2.2.2.2.2.1, (a.2.2.2.2.2.2.1, (a.2.2.2.2.2.2.2.1, (a.2.2.2.2.2.2.2.2.1, (a.2.2.2.2.2.2.2.2.2.1, ()))))))))))))))
def g37 (it : It) : (p : Prim) → (LD × (LD × (LD × (LD × Unit)))) → Option T9 :=
 fun p x =>
 opt.alt T0 (((LD × (LD × (LD × T1))) ⊕ ((LD × (LD × (LD × T1))) ⊕ (LD × (LD × (LD × (LD × (LD × (LD × T1))))))))) _ (g62 it p (x.1, (x.2.1, (x.2.2.1, (x.2.2.2.1, ()))))) (fun a =>
 opt.ask _ (p.cmp .neq a.1 (0 : Int)) (
 opt.ret _ ((0 : Int), ((0 : Int), ((0 : Int), (a.1, ()))))) (
 opt.no _ 41)) (fun b =>
 opt.alt ((LD × (LD × (LD × T1)))) (((LD × (LD × (LD × T1))) ⊕ (LD × (LD × (LD × (LD × (LD × (LD × T1)))))))) _ (some b) (fun c =>
 opt.ask _ (p.cmp .neq c.2.2.2.1 (0 : Int)) (
 opt.ret _ ((0 : Int), ((0 : Int), ((0 : Int), (c.2.2.2.1, ()))))) (
 opt.no _ 41)) (fun d =>
 opt.alt ((LD × (LD × (LD × T1)))) ((LD × (LD × (LD × (LD × (LD × (LD × T1))))))) _ (some d) (fun e =>
 opt.ask _ (p.cmp .neq e.2.2.2.1 (0 : Int)) (
 opt.ret _ ((0 : Int), ((0 : Int), ((0 : Int), (e.2.2.2.1, ()))))) (
 opt.no _ 41)) (fun f =>
 opt.bnd ((LD × (LD × (LD × (LD × (LD × (LD × T1))))))) _ (some f) fun g =>
 opt.ask _ (p.cmp .neq g.2.2.2.2.2.2.1 (0 : Int)) (
 opt.ret _ ((0 : Int), ((0 : Int), ((0 : Int), (g.2.2.2.2.2.2.1, ()))))) (
 opt.alt T9 T74 _ (
 it _ _ (c37_1 it p) ((0 : Int), ((0 : Int), ((0 : Int), ((0 : Int), (g.1, (g.2.1, (g.2.2.1, (g.2.2.2.1, (g.2.2.2.2.1, (g.2.2.2.2.2.1, (g.2.2.1, (g.2.2.2.2.2.1, (g.2.2.2.2.2.1, (g.2.2.1, ((0 : Int), ())))))))))))))))) (fun h =>
 opt.ret _ (h.1, (h.2.1, (h.2.2.1, (h.2.2.2.1, ()))))) (fun i =>
 opt.bnd T74 _ (some i) fun j =>
 opt.alt T9 T9 _ (
 opt.run (((Int × (Int × (Int × (Int × Unit)))) ⊕ (Int × (Int × (Int × (Int × Unit)))))) (
 opt.alt T38 (((Int × (Int × (Int × (Int × (LD × (LD × (LD × (LD × (LD × (LD × (LD × Unit))))))))))) ⊕ (Int × (Int × (Int × (Int × (LD × (LD × (LD × (LD × (LD × (LD × (LD × Unit))))))))))))) _ (
 it _ _ (c37_3 it p) (j.1, (j.2.1, (j.2.2.1, (j.2.2.2.1, (j.2.2.2.2.1, (j.2.2.2.2.2.1, (j.2.2.2.2.2.2.1, (j.2.2.2.2.2.2.2.1, (j.2.2.2.2.2.2.2.2.1, (j.2.2.2.2.2.2.2.2.2.1, (j.2.2.2.2.2.2.1, (j.2.2.2.2.2.2.1, ((p.ofNat (p.len j.2.2.2.2.2.2.1)), ((0 : Int), ()))))))))))))))) (fun k =>
 opt.ret _ (Sum.inl (k.1, (k.2.1, (k.2.2.1, (k.2.2.2.1, ())))))) (fun l =>
 opt.alt T38 T38 _ (some l) (fun m =>
 opt.ret _ (Sum.inr (m.1, (m.2.1, (m.2.2.1, (m.2.2.2.1, ())))))) (fun n =>
 opt.bnd T38 _ (some n) fun o =>
 opt.ret _ (Sum.inl (o.1, (o.2.1, (o.2.2.1, (o.2.2.2.1, ()))))))))) (fun q =>
 opt.ret _ ((0 : Int), ((0 : Int), ((0 : Int), ((5 : Int), ()))))) (fun r =>
 opt.bnd T9 _ (some r) fun t =>
 opt.ret _ (t.1, (t.2.1, (t.2.2.1, (t.2.2.2.1, ()))))))))))
def G37 := g37 it0
theorem ok37 : CtrOk PG ctr37 (G37 std) := okF (a := an37) (l := la37) (gC ok76 (gC ok57 (gC ok62 (gN)))) (by kernel_rfl) fun _ _ => by kernel_rfl
end Go.Am
end
noncomputable section
namespace Go.Am
def ctr70 : Ctr :=
 ⟨70, [.agg [.int .i64, .int .i64], .agg [.int .i64, .int .i64]], [], [(.ret, ⟨[(0, .int .i64)], [], 1⟩)]⟩
def la70 : List LA :=
 []
def ja70 : List JA :=
 []
def gam70 : List CF :=
 [⟨ctr71, F71⟩]
def an70 : Anns :=
 ⟨gam70, ja70, []⟩
def G70 : (p : Prim) → T11 → Option T0 :=
 fun p x =>
 opt.bnd T2 _ (F71 p (x.1, (x.2.1, (x.2.2.1, (x.2.2.2.1, ()))))) fun a =>
 opt.ask _ a.1 (
 opt.ret _ ((-1 : Int), ())) (
 opt.ret _ ((1 : Int), ()))
theorem ok70 : CtrOk PG ctr70 (G70 std) := okF (a := an70) (l := la70) (gC ok71 (gN)) (by kernel_rfl) fun _ _ => by kernel_rfl
def ctr69 : Ctr :=
 ⟨69, [.sl 0 2, .clo 70 [] []], [.row [ci, ci]], [(.ret, ⟨[(0, .agg [.int .i64, .int .i64])], [.row [ci, ci]], 1⟩)]⟩
def la69 : List LA :=
 [⟨69, [false, true, false, true, true, true], 1, ⟨⟨[(0, .sl 0 2), (1, .clo 70 [] []), (4, .bptr 1 0), (5, .bptr 2 0), (6, .int .i64)], [.row [ci, ci], .box [.int .i64, .int .i64], .box [.int .i64, .int .i64]], 33⟩, [((AX.exit 0), ⟨[(4, .bptr 1 0), (5, .bptr 2 0)], [.row [ci, ci], .box [.int .i64, .int .i64], .box [.int .i64, .int .i64]], 33⟩)]⟩⟩]
def ja69 : List JA :=
 [⟨69, [true, false, false, true, false, false, true, false, true, true, true], 1, [(AX.normal, ⟨[(0, .sl 0 2), (1, .clo 70 [] []), (4, .bptr 1 0), (5, .bptr 2 0), (6, .int .i64)], [.row [ci, ci], .box [.int .i64, .int .i64], .box [.int .i64, .int .i64]], 33⟩)]⟩]
def gam69 : List CF :=
 [⟨ctr70, G70⟩]
def an69 : Anns :=
 ⟨gam69, ja69, []⟩
def b69_1 (p : Prim) : (LD × T39) → Option ((LD × T39) ⊕ (LD × T11)) :=
 fun a => opt.run _ (
 opt.ask _ (p.cmp .lss a.2.2.2.2.2.2.2.1 (p.ofNat a.2.2.2.2.2.2.1)) (
 opt.need _ (bif (p.cmp .geq a.2.2.2.2.2.2.2.1 (0 : Int)) then (p.cmp .lss a.2.2.2.2.2.2.2.1 (p.ofNat a.2.2.2.2.2.2.1)) else Bool.false) <|
 opt.need _ (p.rowOk a.1 (p.add a.2.2.2.2.2.1 (p.nat a.2.2.2.2.2.2.2.1)) [ci, ci]) <|
 opt.bnd T0 _ (G70 p ((p.rdI a.1 (p.add a.2.2.2.2.2.1 (p.nat a.2.2.2.2.2.2.2.1)) 0), ((p.rdI a.1 (p.add a.2.2.2.2.2.1 (p.nat a.2.2.2.2.2.2.2.1)) 1), (a.2.2.2.1, (a.2.2.2.2.1, ()))))) fun b =>
 opt.bnd ((LD × T39)) _ (
 opt.run ((LD × T39)) (
 opt.ask _ (p.cmp .lss b.1 (0 : Int)) (
 opt.need _ (bif (p.cmp .geq a.2.2.2.2.2.2.2.1 (0 : Int)) then (p.cmp .lss a.2.2.2.2.2.2.2.1 (p.ofNat a.2.2.2.2.2.2.1)) else Bool.false) <|
 opt.need _ (p.rowOk a.1 (p.add a.2.2.2.2.2.1 (p.nat a.2.2.2.2.2.2.2.1)) [ci, ci]) <|
 opt.ret _ (a.1, (a.2.1, (a.2.2.1, ((p.rdI a.1 (p.add a.2.2.2.2.2.1 (p.nat a.2.2.2.2.2.2.2.1)) 0), ((p.rdI a.1 (p.add a.2.2.2.2.2.1 (p.nat a.2.2.2.2.2.2.2.1)) 1), (a.2.2.2.2.2.1, (a.2.2.2.2.2.2.1, (a.2.2.2.2.2.2.2.1, ()))))))))) (
 opt.ret _ (a.1, (a.2.1, (a.2.2.1, (a.2.2.2.1, (a.2.2.2.2.1, (a.2.2.2.2.2.1, (a.2.2.2.2.2.2.1, (a.2.2.2.2.2.2.2.1, ()))))))))))) fun c =>
 opt.ret _ (Sum.inl (c.1, (c.2.1, (c.2.2.1, (c.2.2.2.1, (c.2.2.2.2.1, (c.2.2.2.2.2.1, (c.2.2.2.2.2.2.1, ((p.ar .add .i64 c.2.2.2.2.2.2.2.1 (1 : Int)), ())))))))))) (
 opt.ret _ (Sum.inr (a.1, (a.2.1, (a.2.2.1, (a.2.2.2.1, (a.2.2.2.2.1, ()))))))))
def g69 (it : It) : (p : Prim) → (LD × T16) → Option ((LD × T3)) :=
 fun p x =>
 opt.ask _ (p.cmp .lss (p.ofNat x.2.2.1) (1 : Int)) (
 opt.no _ 41) (
 opt.need _ (bif (p.cmp .geq (0 : Int) (0 : Int)) then (p.cmp .lss (0 : Int) (p.ofNat x.2.2.1)) else Bool.false) <|
 opt.need _ (p.rowOk x.1 (p.add x.2.1 (p.nat (0 : Int))) [ci, ci]) <|
 opt.bnd ((LD × T11)) _ (
 it _ _ (b69_1 p) (x.1, ((0 : Int), ((0 : Int), ((p.rdI x.1 (p.add x.2.1 (p.nat (0 : Int))) 0), ((p.rdI x.1 (p.add x.2.1 (p.nat (0 : Int))) 1), (x.2.1, (x.2.2.1, ((1 : Int), ()))))))))) fun a =>
 opt.ret _ (a.1, (a.2.2.2.1, (a.2.2.2.2.1, ()))))
def G69 := g69 it0
theorem ok69 : CtrOk PG ctr69 (G69 std) := okF (a := an69) (l := la69) (gC ok70 (gN)) (by kernel_rfl) fun _ _ => by kernel_rfl
def ctr25 : Ctr :=
 ⟨25, [.agg [.list 2, .list 1], .agg [.list 2, .list 1]], [], [(.ret, ⟨[(0, .tuple [.agg [.int .i64, .int .i64], .int .i64])], [], 1⟩)]⟩
def la25 : List LA :=
 [⟨25, [false, true, false, true, true, true, true, true], 0, ⟨⟨[(4, .bptr 0 0), (11, .bptr 1 0), (67, .agg [.list 2, .list 2, .list 2, .list 2]), (68, .int .i64)], [.box [.int .i64, .int .i64], .box [.sl 2 2], .row [ci, ci]], 115⟩, [((AX.exit 0), ⟨[(4, .bptr 0 0), (11, .bptr 1 0)], [.box [.int .i64, .int .i64], .box [.sl 2 2], .row [ci, ci]], 115⟩)]⟩⟩,
 ⟨25, [false, true, true, false, false, true, true, false, false, true, false, true, true, true, true, true], 0, ⟨⟨[(4, .bptr 0 0), (11, .bptr 1 0), (13, .bptr 2 0), (67, .agg [.list 2, .list 2, .list 2, .list 2]), (68, .int .i64), (72, .list 2), (73, .int .i64), (74, .int .i64)], [.box [.int .i64, .int .i64], .box [.sl 3 2], .box [.list 2, .list 2], .row [ci, ci]], 115⟩, [((AX.exit 2), ⟨[(4, .bptr 0 0), (11, .bptr 1 0), (67, .agg [.list 2, .list 2, .list 2, .list 2]), (68, .int .i64)], [.box [.int .i64, .int .i64], .box [.sl 2 2], .row [ci, ci]], 115⟩)]⟩⟩,
 ⟨25, [false, true, false, true, false, false, true, true, false, false, true, true, false, false, true, true, false, false, true, false, true, true, true, true, true], 0, ⟨⟨[(4, .bptr 0 0), (11, .bptr 1 0), (13, .bptr 2 0), (15, .bptr 3 0), (67, .agg [.list 2, .list 2, .list 2, .list 2]), (68, .int .i64), (72, .list 2), (73, .int .i64), (74, .int .i64), (79, .list 2), (80, .int .i64), (81, .int .i64)], [.box [.int .i64, .int .i64], .box [.sl 4 2], .box [.list 2, .list 2], .box [.int .i64, .int .i64], .row [ci, ci]], 115⟩, [((AX.exit 4), ⟨[(4, .bptr 0 0), (11, .bptr 1 0), (13, .bptr 2 0), (15, .bptr 3 0), (67, .agg [.list 2, .list 2, .list 2, .list 2]), (68, .int .i64), (72, .list 2), (73, .int .i64), (74, .int .i64)], [.box [.int .i64, .int .i64], .box [.sl 4 2], .box [.list 2, .list 2], .box [.int .i64, .int .i64], .row [ci, ci]], 115⟩)]⟩⟩,
 ⟨94, [false, true], 7, ⟨⟨[(0, .yld 6), (1, .bptr 5 0), (6, .list 2), (7, .int .i64), (8, .int .i64)], [.box [.int .i64, .int .i64], .box [.sl 7 2], .box [.list 2, .list 2], .box [.int .i64, .int .i64], .dead, .box [.list 2], .loop Go.LoopState.ready Option.none 25 [Bool.false, Bool.true, Bool.true, Bool.true, Bool.false, Bool.false, Bool.true, Bool.true, Bool.false, Bool.false, Bool.true, Bool.true, Bool.false, Bool.false, Bool.true, Bool.true, Bool.false, Bool.false, Bool.true, Bool.false, Bool.true, Bool.true, Bool.true, Bool.true, Bool.true] 115 [(98, .clo 94 [] [.bptr 5 0]), (15, .bptr 3 0), (73, .int .i64), (72, .list 2), (13, .bptr 2 0), (11, .bptr 1 0), (67, .agg [.list 2, .list 2, .list 2, .list 2]), (4, .bptr 0 0), (68, .int .i64), (74, .int .i64)], .row [ci, ci]], 33⟩, [(AX.ret, ⟨[], [.box [.int .i64, .int .i64], .box [.sl 7 2], .box [.list 2, .list 2], .box [.int .i64, .int .i64], .dead, .box [.list 2], .loop Go.LoopState.ready Option.none 25 [Bool.false, Bool.true, Bool.true, Bool.true, Bool.false, Bool.false, Bool.true, Bool.true, Bool.false, Bool.false, Bool.true, Bool.true, Bool.false, Bool.false, Bool.true, Bool.true, Bool.false, Bool.false, Bool.true, Bool.false, Bool.true, Bool.true, Bool.true, Bool.true, Bool.true] 115 [(98, .clo 94 [] [.bptr 5 0]), (15, .bptr 3 0), (73, .int .i64), (72, .list 2), (13, .bptr 2 0), (11, .bptr 1 0), (67, .agg [.list 2, .list 2, .list 2, .list 2]), (4, .bptr 0 0), (68, .int .i64), (74, .int .i64)], .row [ci, ci]], 33⟩), ((AX.exit 0), ⟨[], [.box [.int .i64, .int .i64], .box [.sl 7 2], .box [.list 2, .list 2], .box [.int .i64, .int .i64], .dead, .box [.list 2], .loop Go.LoopState.ready Option.none 25 [Bool.false, Bool.true, Bool.true, Bool.true, Bool.false, Bool.false, Bool.true, Bool.true, Bool.false, Bool.false, Bool.true, Bool.true, Bool.false, Bool.false, Bool.true, Bool.true, Bool.false, Bool.false, Bool.true, Bool.false, Bool.true, Bool.true, Bool.true, Bool.true, Bool.true] 115 [(98, .clo 94 [] [.bptr 5 0]), (15, .bptr 3 0), (73, .int .i64), (72, .list 2), (13, .bptr 2 0), (11, .bptr 1 0), (67, .agg [.list 2, .list 2, .list 2, .list 2]), (4, .bptr 0 0), (68, .int .i64), (74, .int .i64)], .row [ci, ci]], 33⟩)]⟩⟩]
def ja25 : List JA :=
 [⟨25, [true, true, false, true, false, true, true, true, false, false, true, true, false, false, true, true, false, false, true, true, false, false, true, false, true, true, true, true, true], 20, [(AX.normal, ⟨[(4, .bptr 0 0), (11, .bptr 1 0), (13, .bptr 2 0), (15, .bptr 3 0), (67, .agg [.list 2, .list 2, .list 2, .list 2]), (68, .int .i64), (72, .list 2), (73, .int .i64), (74, .int .i64)], [.box [.int .i64, .int .i64], .box [.sl 20 2], .box [.list 2, .list 2], .box [.int .i64, .int .i64], .dead, .box [.list 2], .dead, .dead, .box [.int .i64, .int .i64], .dead, .dead, .dead, .dead, .dead, .dead, .dead, .dead, .dead, .dead, .box [.int .i64, .int .i64], .row [ci, ci]], 115⟩)]⟩,
 ⟨25, [true, true, true, false, false, true, true, false, false, true, true, false, false, true, true, false, false, true, false, true, true, true, true, true], 0, [(AX.normal, ⟨[(4, .bptr 0 0), (11, .bptr 1 0), (13, .bptr 2 0), (67, .agg [.list 2, .list 2, .list 2, .list 2]), (68, .int .i64), (72, .list 2), (73, .int .i64), (74, .int .i64)], [.box [.int .i64, .int .i64], .box [.sl 3 2], .box [.list 2, .list 2], .row [ci, ci]], 115⟩)]⟩,
 ⟨25, [false, false, false, true, true, false, false, true, false, true, true, true, true, true], 0, [(AX.normal, ⟨[(4, .bptr 0 0), (11, .bptr 1 0), (13, .bptr 2 0), (67, .agg [.list 2, .list 2, .list 2, .list 2]), (68, .int .i64)], [.box [.int .i64, .int .i64], .box [.sl 3 2], .box [.list 2, .list 2], .row [ci, ci]], 115⟩)]⟩]
def gam25 : List CF :=
 [⟨ctr69, G69⟩, ⟨ctr68, G68⟩, ⟨ctr65, G65⟩, ⟨ctr63, G63⟩, ⟨ctr62, G62⟩]
def an25 : Anns :=
 ⟨gam25, ja25, []⟩
def c25_4 (it : It) (p : Prim) : (LD × T75) → Option ((LD × T75) ⊕ ((LD × T25) ⊕ (LD × T25))) :=
 fun a => opt.run _ (
 opt.ask _ (p.cmp .lss a.2.2.2.2.2.2.2.2.2.2.2.2.2.2.2.2.2.2.2.2.1 a.2.2.2.2.2.2.2.2.2.2.2.2.2.2.2.2.2.2.2.1) (
 opt.need _ (p.rowOk a.2.2.2.2.2.2.2.2.2.2.2.2.2.2.2.2.2.2.1 (p.nat a.2.2.2.2.2.2.2.2.2.2.2.2.2.2.2.2.2.2.2.2.1) [ci, ci]) <|
 opt.need _ (p.cmp .geq a.2.2.2.2.2.2.2.2.2.2.2.2.2.2.2.2.2.2.2.2.1 (0 : Int)) <|
 opt.need _ (p.cmp .neq (p.ofNat (p.len a.2.2.2.2.2.2.2.2.2.1)) (0 : Int)) <|
 opt.need _ (p.rowOk a.2.2.2.2.2.2.2.2.2.1 (p.nat (p.ar .rem .i64 (p.ar .add .i64 a.2.2.2.2.2.2.2.2.2.2.2.2.2.2.2.2.2.2.2.2.1 (1 : Int)) (p.ofNat (p.len a.2.2.2.2.2.2.2.2.2.1)))) [ci, ci]) <|
 opt.need _ (p.cmp .geq (p.ar .rem .i64 (p.ar .add .i64 a.2.2.2.2.2.2.2.2.2.2.2.2.2.2.2.2.2.2.2.2.1 (1 : Int)) (p.ofNat (p.len a.2.2.2.2.2.2.2.2.2.1))) (0 : Int)) <|
 opt.ask _ (bif (p.cmp .eql (p.ar .sub .i64 (p.rdI a.2.2.2.2.2.2.2.2.2.1 (p.nat (p.ar .rem .i64 (p.ar .add .i64 a.2.2.2.2.2.2.2.2.2.2.2.2.2.2.2.2.2.2.2.2.1 (1 : Int)) (p.ofNat (p.len a.2.2.2.2.2.2.2.2.2.1)))) 0) (p.rdI a.2.2.2.2.2.2.2.2.2.2.2.2.2.2.2.2.2.2.1 (p.nat a.2.2.2.2.2.2.2.2.2.2.2.2.2.2.2.2.2.2.2.2.1) 0)) (0 : Int)) then (bif (p.cmp .eql (p.ar .sub .i64 (p.rdI a.2.2.2.2.2.2.2.2.2.1 (p.nat (p.ar .rem .i64 (p.ar .add .i64 a.2.2.2.2.2.2.2.2.2.2.2.2.2.2.2.2.2.2.2.2.1 (1 : Int)) (p.ofNat (p.len a.2.2.2.2.2.2.2.2.2.1)))) 1) (p.rdI a.2.2.2.2.2.2.2.2.2.2.2.2.2.2.2.2.2.2.1 (p.nat a.2.2.2.2.2.2.2.2.2.2.2.2.2.2.2.2.2.2.2.2.1) 1)) (0 : Int)) then Bool.true else Bool.false) else Bool.false) (
 opt.ret _ (Sum.inr (Sum.inl (a.1, (a.2.1, (a.2.2.1, (a.2.2.2.1, (a.2.2.2.2.1, (a.2.2.2.2.2.1, (a.2.2.2.2.2.2.1, (a.2.2.2.2.2.2.2.1, (a.2.2.2.2.2.2.2.2.1, (a.2.2.2.2.2.2.2.2.2.1, (a.2.2.2.2.2.2.2.2.2.2.1, (a.2.2.2.2.2.2.2.2.2.2.2.1, (a.2.2.2.2.2.2.2.2.2.2.2.2.1, (a.2.2.2.2.2.2.2.2.2.2.2.2.2.1, (a.2.2.2.2.2.2.2.2.2.2.2.2.2.2.1, (a.2.2.2.2.2.2.2.2.2.2.2.2.2.2.2.1, (a.2.2.2.2.2.2.2.2.2.2.2.2.2.2.2.2.1, (a.2.2.2.2.2.2.2.2.2.2.2.2.2.2.2.2.2.1, ()))))))))))))))))))))) (
 opt.bnd T17 _ (g68 it p (a.2.2.2.2.2.2.2.1, (a.2.2.2.2.2.2.2.2.1, ((p.rdI a.2.2.2.2.2.2.2.2.2.2.2.2.2.2.2.2.2.2.1 (p.nat a.2.2.2.2.2.2.2.2.2.2.2.2.2.2.2.2.2.2.2.2.1) 0), ((p.rdI a.2.2.2.2.2.2.2.2.2.2.2.2.2.2.2.2.2.2.1 (p.nat a.2.2.2.2.2.2.2.2.2.2.2.2.2.2.2.2.2.2.2.2.1) 1), ((p.ar .sub .i64 (p.rdI a.2.2.2.2.2.2.2.2.2.1 (p.nat (p.ar .rem .i64 (p.ar .add .i64 a.2.2.2.2.2.2.2.2.2.2.2.2.2.2.2.2.2.2.2.2.1 (1 : Int)) (p.ofNat (p.len a.2.2.2.2.2.2.2.2.2.1)))) 0) (p.rdI a.2.2.2.2.2.2.2.2.2.2.2.2.2.2.2.2.2.2.1 (p.nat a.2.2.2.2.2.2.2.2.2.2.2.2.2.2.2.2.2.2.2.2.1) 0)), ((p.ar .sub .i64 (p.rdI a.2.2.2.2.2.2.2.2.2.1 (p.nat (p.ar .rem .i64 (p.ar .add .i64 a.2.2.2.2.2.2.2.2.2.2.2.2.2.2.2.2.2.2.2.2.1 (1 : Int)) (p.ofNat (p.len a.2.2.2.2.2.2.2.2.2.1)))) 1) (p.rdI a.2.2.2.2.2.2.2.2.2.2.2.2.2.2.2.2.2.2.1 (p.nat a.2.2.2.2.2.2.2.2.2.2.2.2.2.2.2.2.2.2.2.2.1) 1)), ()))))))) fun b =>
 opt.bnd ((LD × T76)) _ (
 opt.run ((LD × T76)) (
 opt.ask _ b.2.2.1 (
 opt.need _ (p.and (p.leN (p.add 0 1) (p.len [[(D.int .i64 b.1), (D.int .i64 b.2.1)]])) (p.and (p.leN (p.add a.2.2.2.1 a.2.2.2.2.1) (p.len a.1)) (p.and (p.leN 1 1) (p.leN (p.add a.2.2.2.2.1 1) 1000000)))) <|
 opt.ret _ ((p.app (p.cut a.1 a.2.2.2.1 a.2.2.2.2.1) (p.cut [[(D.int .i64 b.1), (D.int .i64 b.2.1)]] 0 1)), (a.2.1, (a.2.2.1, (0, ((p.add a.2.2.2.2.1 1), (a.2.2.2.2.2.1, (a.2.2.2.2.2.2.1, (a.2.2.2.2.2.2.2.1, (a.2.2.2.2.2.2.2.2.1, (a.2.2.2.2.2.2.2.2.2.1, ((p.rdI a.2.2.2.2.2.2.2.2.2.2.2.2.2.2.2.2.2.2.1 (p.nat a.2.2.2.2.2.2.2.2.2.2.2.2.2.2.2.2.2.2.2.2.1) 0), ((p.rdI a.2.2.2.2.2.2.2.2.2.2.2.2.2.2.2.2.2.2.1 (p.nat a.2.2.2.2.2.2.2.2.2.2.2.2.2.2.2.2.2.2.2.2.1) 1), ((p.ar .sub .i64 (p.rdI a.2.2.2.2.2.2.2.2.2.1 (p.nat (p.ar .rem .i64 (p.ar .add .i64 a.2.2.2.2.2.2.2.2.2.2.2.2.2.2.2.2.2.2.2.2.1 (1 : Int)) (p.ofNat (p.len a.2.2.2.2.2.2.2.2.2.1)))) 0) (p.rdI a.2.2.2.2.2.2.2.2.2.2.2.2.2.2.2.2.2.2.1 (p.nat a.2.2.2.2.2.2.2.2.2.2.2.2.2.2.2.2.2.2.2.2.1) 0)), ((p.ar .sub .i64 (p.rdI a.2.2.2.2.2.2.2.2.2.1 (p.nat (p.ar .rem .i64 (p.ar .add .i64 a.2.2.2.2.2.2.2.2.2.2.2.2.2.2.2.2.2.2.2.2.1 (1 : Int)) (p.ofNat (p.len a.2.2.2.2.2.2.2.2.2.1)))) 1) (p.rdI a.2.2.2.2.2.2.2.2.2.2.2.2.2.2.2.2.2.2.1 (p.nat a.2.2.2.2.2.2.2.2.2.2.2.2.2.2.2.2.2.2.2.2.1) 1)), (a.2.2.2.2.2.2.2.2.2.2.2.2.1, (a.2.2.2.2.2.2.2.2.2.2.2.2.2.1, (a.2.2.2.2.2.2.2.2.2.2.2.2.2.2.1, (a.2.2.2.2.2.2.2.2.2.2.2.2.2.2.2.1, (a.2.2.2.2.2.2.2.2.2.2.2.2.2.2.2.2.1, (a.2.2.2.2.2.2.2.2.2.2.2.1, (a.2.2.2.2.2.2.2.2.2.2.1, (a.2.2.2.2.2.2.2.2.2.2.2.2.2.2.2.2.2.1, ()))))))))))))))))))))))) (
 opt.ret _ (a.1, (a.2.1, (a.2.2.1, (a.2.2.2.1, (a.2.2.2.2.1, (a.2.2.2.2.2.1, (a.2.2.2.2.2.2.1, (a.2.2.2.2.2.2.2.1, (a.2.2.2.2.2.2.2.2.1, (a.2.2.2.2.2.2.2.2.2.1, ((p.rdI a.2.2.2.2.2.2.2.2.2.2.2.2.2.2.2.2.2.2.1 (p.nat a.2.2.2.2.2.2.2.2.2.2.2.2.2.2.2.2.2.2.2.2.1) 0), ((p.rdI a.2.2.2.2.2.2.2.2.2.2.2.2.2.2.2.2.2.2.1 (p.nat a.2.2.2.2.2.2.2.2.2.2.2.2.2.2.2.2.2.2.2.2.1) 1), ((p.ar .sub .i64 (p.rdI a.2.2.2.2.2.2.2.2.2.1 (p.nat (p.ar .rem .i64 (p.ar .add .i64 a.2.2.2.2.2.2.2.2.2.2.2.2.2.2.2.2.2.2.2.2.1 (1 : Int)) (p.ofNat (p.len a.2.2.2.2.2.2.2.2.2.1)))) 0) (p.rdI a.2.2.2.2.2.2.2.2.2.2.2.2.2.2.2.2.2.2.1 (p.nat a.2.2.2.2.2.2.2.2.2.2.2.2.2.2.2.2.2.2.2.2.1) 0)), ((p.ar .sub .i64 (p.rdI a.2.2.2.2.2.2.2.2.2.1 (p.nat (p.ar .rem .i64 (p.ar .add .i64 a.2.2.2.2.2.2.2.2.2.2.2.2.2.2.2.2.2.2.2.2.1 (1 : Int)) (p.ofNat (p.len a.2.2.2.2.2.2.2.2.2.1)))) 1) (p.rdI a.2.2.2.2.2.2.2.2.2.2.2.2.2.2.2.2.2.2.1 (p.nat a.2.2.2.2.2.2.2.2.2.2.2.2.2.2.2.2.2.2.2.2.1) 1)), (a.2.2.2.2.2.2.2.2.2.2.2.2.1, (a.2.2.2.2.2.2.2.2.2.2.2.2.2.1, (a.2.2.2.2.2.2.2.2.2.2.2.2.2.2.1, (a.2.2.2.2.2.2.2.2.2.2.2.2.2.2.2.1, (a.2.2.2.2.2.2.2.2.2.2.2.2.2.2.2.2.1, (a.2.2.2.2.2.2.2.2.2.2.2.1, (a.2.2.2.2.2.2.2.2.2.2.1, (a.2.2.2.2.2.2.2.2.2.2.2.2.2.2.2.2.2.1, ()))))))))))))))))))))))))) fun c =>
 opt.ret _ (Sum.inl (c.1, (c.2.1, (c.2.2.1, (c.2.2.2.1, (c.2.2.2.2.1, (c.2.2.2.2.2.1, (c.2.2.2.2.2.2.1, (c.2.2.2.2.2.2.2.1, (c.2.2.2.2.2.2.2.2.1, (c.2.2.2.2.2.2.2.2.2.1, (a.2.2.2.2.2.2.2.2.2.2.1, (a.2.2.2.2.2.2.2.2.2.2.2.1, (a.2.2.2.2.2.2.2.2.2.2.2.2.1, (a.2.2.2.2.2.2.2.2.2.2.2.2.2.1, (a.2.2.2.2.2.2.2.2.2.2.2.2.2.2.1, (a.2.2.2.2.2.2.2.2.2.2.2.2.2.2.2.1, (a.2.2.2.2.2.2.2.2.2.2.2.2.2.2.2.2.1, (a.2.2.2.2.2.2.2.2.2.2.2.2.2.2.2.2.2.1, (a.2.2.2.2.2.2.2.2.2.2.2.2.2.2.2.2.2.2.1, (a.2.2.2.2.2.2.2.2.2.2.2.2.2.2.2.2.2.2.2.1, ((p.ar .add .i64 a.2.2.2.2.2.2.2.2.2.2.2.2.2.2.2.2.2.2.2.2.1 (1 : Int)), ())))))))))))))))))))))))) (
 opt.ret _ (Sum.inr (Sum.inr (a.1, (a.2.1, (a.2.2.1, (a.2.2.2.1, (a.2.2.2.2.1, (a.2.2.2.2.2.1, (a.2.2.2.2.2.2.1, (a.2.2.2.2.2.2.2.1, (a.2.2.2.2.2.2.2.2.1, (a.2.2.2.2.2.2.2.2.2.1, (a.2.2.2.2.2.2.2.2.2.2.1, (a.2.2.2.2.2.2.2.2.2.2.2.1, (a.2.2.2.2.2.2.2.2.2.2.2.2.1, (a.2.2.2.2.2.2.2.2.2.2.2.2.2.1, (a.2.2.2.2.2.2.2.2.2.2.2.2.2.2.1, (a.2.2.2.2.2.2.2.2.2.2.2.2.2.2.2.1, (a.2.2.2.2.2.2.2.2.2.2.2.2.2.2.2.2.1, (a.2.2.2.2.2.2.2.2.2.2.2.2.2.2.2.2.2.1, ()))))))))))))))))))))))
def c25_3 (it : It) (p : Prim) : (LD × T77) → Option ((LD × T77) ⊕ (LD × T78)) :=
 fun a => opt.run _ (
 opt.ask _ (p.cmp .lss a.2.2.2.2.2.2.2.2.2.2.2.2.2.2.2.2.2.2.2.1 a.2.2.2.2.2.2.2.2.2.2.2.2.2.2.2.2.2.2.1) (
 opt.need _ (p.rowOk a.2.2.2.2.2.2.2.2.2.2.2.2.2.2.2.2.2.1 (p.nat a.2.2.2.2.2.2.2.2.2.2.2.2.2.2.2.2.2.2.2.1) [ci, ci]) <|
 opt.need _ (p.cmp .geq a.2.2.2.2.2.2.2.2.2.2.2.2.2.2.2.2.2.2.2.1 (0 : Int)) <|
 opt.bnd T4 _ (g65 it p ((p.ar .add .i64 (p.ar .mul .i64 (p.ar .sub .i64 (p.rdI a.2.2.2.2.2.2.2.2.2.2.2.2.2.2.2.2.2.1 (p.nat a.2.2.2.2.2.2.2.2.2.2.2.2.2.2.2.2.2.2.2.1) 0) a.2.2.2.2.2.2.2.1) (p.ar .sub .i64 (p.rdI a.2.2.2.2.2.2.2.2.2.2.2.2.2.2.2.2.2.1 (p.nat a.2.2.2.2.2.2.2.2.2.2.2.2.2.2.2.2.2.2.2.1) 0) a.2.2.2.2.2.2.2.1)) (p.ar .mul .i64 (p.ar .sub .i64 (p.rdI a.2.2.2.2.2.2.2.2.2.2.2.2.2.2.2.2.2.1 (p.nat a.2.2.2.2.2.2.2.2.2.2.2.2.2.2.2.2.2.2.2.1) 1) a.2.2.2.2.2.2.2.2.1) (p.ar .sub .i64 (p.rdI a.2.2.2.2.2.2.2.2.2.2.2.2.2.2.2.2.2.1 (p.nat a.2.2.2.2.2.2.2.2.2.2.2.2.2.2.2.2.2.2.2.1) 1) a.2.2.2.2.2.2.2.2.1))), ((1 : Int), ()))) fun b =>
 opt.need _ (p.and (p.leN (p.add 0 1) (p.len [[(D.int .i64 b.1), (D.int .i64 b.2.1)]])) (p.and (p.leN (p.add a.2.2.2.1 a.2.2.2.2.1) (p.len a.1)) (p.and (p.leN 1 1) (p.leN (p.add a.2.2.2.2.1 1) 1000000)))) <|
 opt.ret _ (Sum.inl ((p.app (p.cut a.1 a.2.2.2.1 a.2.2.2.2.1) (p.cut [[(D.int .i64 b.1), (D.int .i64 b.2.1)]] 0 1)), (a.2.1, (a.2.2.1, (0, ((p.add a.2.2.2.2.1 1), (a.2.2.2.2.2.1, (a.2.2.2.2.2.2.1, (a.2.2.2.2.2.2.2.1, (a.2.2.2.2.2.2.2.2.1, (a.2.2.2.2.2.2.2.2.2.1, (a.2.2.2.2.2.2.2.2.2.2.1, (a.2.2.2.2.2.2.2.2.2.2.2.1, (a.2.2.2.2.2.2.2.2.2.2.2.2.1, (a.2.2.2.2.2.2.2.2.2.2.2.2.2.1, (a.2.2.2.2.2.2.2.2.2.2.2.2.2.2.1, (a.2.2.2.2.2.2.2.2.2.2.2.2.2.2.2.1, (a.2.2.2.2.2.2.2.2.2.2.2.2.2.2.2.2.1, (a.2.2.2.2.2.2.2.2.2.2.2.2.2.2.2.2.2.1, (a.2.2.2.2.2.2.2.2.2.2.2.2.2.2.2.2.2.2.1, ((p.ar .add .i64 a.2.2.2.2.2.2.2.2.2.2.2.2.2.2.2.2.2.2.2.1 (1 : Int)), ())))))))))))))))))))))) (
 opt.ret _ (Sum.inr (a.1, (a.2.1, (a.2.2.1, (a.2.2.2.1, (a.2.2.2.2.1, (a.2.2.2.2.2.1, (a.2.2.2.2.2.2.1, (a.2.2.2.2.2.2.2.1, (a.2.2.2.2.2.2.2.2.1, (a.2.2.2.2.2.2.2.2.2.1, (a.2.2.2.2.2.2.2.2.2.2.1, (a.2.2.2.2.2.2.2.2.2.2.2.1, (a.2.2.2.2.2.2.2.2.2.2.2.2.1, (a.2.2.2.2.2.2.2.2.2.2.2.2.2.1, (a.2.2.2.2.2.2.2.2.2.2.2.2.2.2.1, (a.2.2.2.2.2.2.2.2.2.2.2.2.2.2.2.1, (a.2.2.2.2.2.2.2.2.2.2.2.2.2.2.2.2.1, ()))))))))))))))))))))
def c25_2 (it : It) (p : Prim) : (LD × T40) → Option ((LD × T40) ⊕ (LD × T41)) :=
 fun a => opt.run _ (
 opt.ask _ (p.cmp .lss a.2.2.2.2.2.2.2.2.2.2.2.2.2.2.1 a.2.2.2.2.2.2.2.2.2.2.2.2.2.1) (
 opt.need _ (p.rowOk a.2.2.2.2.2.2.2.2.2.2.2.2.1 (p.nat a.2.2.2.2.2.2.2.2.2.2.2.2.2.2.1) [ci, ci]) <|
 opt.need _ (p.cmp .geq a.2.2.2.2.2.2.2.2.2.2.2.2.2.2.1 (0 : Int)) <|
 opt.bnd ((LD × T78)) _ (
 it _ _ (c25_3 it p) (a.1, (a.2.1, (a.2.2.1, (a.2.2.2.1, (a.2.2.2.2.1, (a.2.2.2.2.2.1, (a.2.2.2.2.2.2.1, ((p.rdI a.2.2.2.2.2.2.2.2.2.2.2.2.1 (p.nat a.2.2.2.2.2.2.2.2.2.2.2.2.2.2.1) 0), ((p.rdI a.2.2.2.2.2.2.2.2.2.2.2.2.1 (p.nat a.2.2.2.2.2.2.2.2.2.2.2.2.2.2.1) 1), (a.2.2.2.2.2.2.2.1, (a.2.2.2.2.2.2.2.2.1, (a.2.2.2.2.2.2.2.2.2.1, (a.2.2.2.2.2.2.2.2.2.2.1, (a.2.2.2.2.2.2.2.2.2.2.2.1, (a.2.2.2.2.2.2.2.2.2.2.2.2.1, (a.2.2.2.2.2.2.2.2.2.2.2.2.2.1, (a.2.2.2.2.2.2.2.2.2.2.2.2.2.2.1, (a.2.2.2.2.2.2.1, ((p.ofNat (p.len a.2.2.2.2.2.2.1)), ((0 : Int), ()))))))))))))))))))))) fun b =>
 opt.bnd ((LD × T40)) _ (
 opt.run ((LD × T40)) (
 opt.alt ((LD × T25)) ((LD × T25)) _ (
 it _ _ (c25_4 it p) (b.1, (b.2.1, (b.2.2.1, (b.2.2.2.1, (b.2.2.2.2.1, (b.2.2.2.2.2.1, (b.2.2.2.2.2.2.1, (b.2.2.2.2.2.2.2.1, (b.2.2.2.2.2.2.2.2.1, (b.2.2.2.2.2.2.1, (b.2.2.2.2.2.2.2.2.2.2.2.2.2.2.2.1, (b.2.2.2.2.2.2.2.2.2.2.2.2.2.2.1, (b.2.2.2.2.2.2.2.2.2.1, (b.2.2.2.2.2.2.2.2.2.2.1, (b.2.2.2.2.2.2.2.2.2.2.2.1, (b.2.2.2.2.2.2.2.2.2.2.2.2.1, (b.2.2.2.2.2.2.2.2.2.2.2.2.2.1, (b.2.2.2.2.2.2.2.2.2.2.2.2.2.2.2.2.1, (b.2.2.2.2.2.2.1, ((p.ofNat (p.len b.2.2.2.2.2.2.1)), ((0 : Int), ())))))))))))))))))))))) (fun c =>
 opt.ret _ (c.1, (c.2.1, (c.2.2.1, (c.2.2.2.1, (c.2.2.2.2.1, (c.2.2.2.2.2.1, (c.2.2.2.2.2.2.1, (b.2.2.2.2.2.2.2.2.2.1, (b.2.2.2.2.2.2.2.2.2.2.1, (b.2.2.2.2.2.2.2.2.2.2.2.1, (b.2.2.2.2.2.2.2.2.2.2.2.2.1, (b.2.2.2.2.2.2.2.2.2.2.2.2.2.1, (b.2.2.2.2.2.2.2.2.2.2.2.2.2.2.1, (b.2.2.2.2.2.2.2.2.2.2.2.2.2.2.2.1, (b.2.2.2.2.2.2.2.2.2.2.2.2.2.2.2.2.1, ())))))))))))))))) (fun d =>
 opt.bnd ((LD × T25)) _ (some d) fun e =>
 opt.ret _ (e.1, (e.2.1, (e.2.2.1, (e.2.2.2.1, (e.2.2.2.2.1, (e.2.2.2.2.2.1, (e.2.2.2.2.2.2.1, (b.2.2.2.2.2.2.2.2.2.1, (b.2.2.2.2.2.2.2.2.2.2.1, (b.2.2.2.2.2.2.2.2.2.2.2.1, (b.2.2.2.2.2.2.2.2.2.2.2.2.1, (b.2.2.2.2.2.2.2.2.2.2.2.2.2.1, (b.2.2.2.2.2.2.2.2.2.2.2.2.2.2.1, (b.2.2.2.2.2.2.2.2.2.2.2.2.2.2.2.1, (b.2.2.2.2.2.2.2.2.2.2.2.2.2.2.2.2.1, ())))))))))))))))))) fun f =>
 opt.ret _ (Sum.inl (f.1, (f.2.1, (f.2.2.1, (f.2.2.2.1, (f.2.2.2.2.1, (f.2.2.2.2.2.1, (f.2.2.2.2.2.2.1, (f.2.2.2.2.2.2.2.1, (f.2.2.2.2.2.2.2.2.1, (f.2.2.2.2.2.2.2.2.2.1, (f.2.2.2.2.2.2.2.2.2.2.1, (f.2.2.2.2.2.2.2.2.2.2.2.1, (f.2.2.2.2.2.2.2.2.2.2.2.2.1, (f.2.2.2.2.2.2.2.2.2.2.2.2.2.1, ((p.ar .add .i64 f.2.2.2.2.2.2.2.2.2.2.2.2.2.2.1 (1 : Int)), ()))))))))))))))))) (
 opt.ret _ (Sum.inr (a.1, (a.2.1, (a.2.2.1, (a.2.2.2.1, (a.2.2.2.2.1, (a.2.2.2.2.2.2.2.1, (a.2.2.2.2.2.2.2.2.1, (a.2.2.2.2.2.2.2.2.2.1, (a.2.2.2.2.2.2.2.2.2.2.1, (a.2.2.2.2.2.2.2.2.2.2.2.1, ())))))))))))))
def c25_1 (it : It) (p : Prim) : (LD × T41) → Option ((LD × T41) ⊕ (LD × T79)) :=
 fun a => opt.run _ (
 opt.ask _ (p.cmp .lss a.2.2.2.2.2.2.2.2.2.1 (2 : Int)) (
 opt.bnd ((LD × T80)) _ (
 opt.run ((LD × T80)) (
 opt.ask _ (p.cmp .eql a.2.2.2.2.2.2.2.2.2.1 (0 : Int)) (
 opt.need _ (bif (p.cmp .geq (0 : Int) (0 : Int)) then (p.cmp .lss (0 : Int) (p.ofNat 2)) else Bool.false) <|
 opt.ret _ (a.1, (a.2.1, (a.2.2.1, (a.2.2.2.1, (a.2.2.2.2.1, (a.2.2.2.2.2.1, (a.2.2.2.2.2.2.1, (a.2.2.2.2.2.1, (a.2.2.2.2.2.2.1, (a.2.2.2.2.2.2.2.1, (a.2.2.2.2.2.2.2.2.1, ((0 : Int), ()))))))))))))) (
 opt.need _ (p.cmp .eql a.2.2.2.2.2.2.2.2.2.1 (1 : Int)) <|
 opt.need _ (bif (p.cmp .geq (1 : Int) (0 : Int)) then (p.cmp .lss (1 : Int) (p.ofNat 2)) else Bool.false) <|
 opt.ret _ (a.1, (a.2.1, (a.2.2.1, (a.2.2.2.1, (a.2.2.2.2.1, (a.2.2.2.2.2.2.2.1, (a.2.2.2.2.2.2.2.2.1, (a.2.2.2.2.2.1, (a.2.2.2.2.2.2.1, (a.2.2.2.2.2.2.2.1, (a.2.2.2.2.2.2.2.2.1, ((1 : Int), ()))))))))))))))) fun b =>
 opt.bnd ((LD × T41)) _ (
 it _ _ (c25_2 it p) (b.1, (b.2.1, (b.2.2.1, (b.2.2.2.1, (b.2.2.2.2.1, (b.2.2.2.2.2.1, (b.2.2.2.2.2.2.1, (b.2.2.2.2.2.2.2.1, (b.2.2.2.2.2.2.2.2.1, (b.2.2.2.2.2.2.2.2.2.1, (b.2.2.2.2.2.2.2.2.2.2.1, (b.2.2.2.2.2.2.2.2.2.2.2.1, (b.2.2.2.2.2.1, ((p.ofNat (p.len b.2.2.2.2.2.1)), ((0 : Int), ())))))))))))))))) fun c =>
 opt.ret _ (Sum.inl (c.1, (c.2.1, (c.2.2.1, (c.2.2.2.1, (c.2.2.2.2.1, (c.2.2.2.2.2.1, (c.2.2.2.2.2.2.1, (c.2.2.2.2.2.2.2.1, (c.2.2.2.2.2.2.2.2.1, ((p.ar .add .i64 c.2.2.2.2.2.2.2.2.2.1 (1 : Int)), ())))))))))))) (
 opt.ret _ (Sum.inr (a.1, (a.2.1, (a.2.2.1, (a.2.2.2.1, (a.2.2.2.2.1, ()))))))))
def g25 (it : It) : (p : Prim) → (LD × (LD × (LD × (LD × Unit)))) → Option T6 :=
 fun p x =>
 opt.alt T0 (((LD × (LD × (LD × T1))) ⊕ ((LD × (LD × (LD × T1))) ⊕ (LD × (LD × (LD × (LD × (LD × (LD × T1))))))))) _ (g62 it p (x.1, (x.2.1, (x.2.2.1, (x.2.2.2.1, ()))))) (fun a =>
 opt.ask _ (p.cmp .neq a.1 (0 : Int)) (
 opt.ret _ ((0 : Int), ((0 : Int), (a.1, ())))) (
 opt.no _ 41)) (fun b =>
 opt.alt ((LD × (LD × (LD × T1)))) (((LD × (LD × (LD × T1))) ⊕ (LD × (LD × (LD × (LD × (LD × (LD × T1)))))))) _ (some b) (fun c =>
 opt.ask _ (p.cmp .neq c.2.2.2.1 (0 : Int)) (
 opt.ret _ ((0 : Int), ((0 : Int), (c.2.2.2.1, ())))) (
 opt.no _ 41)) (fun d =>
 opt.alt ((LD × (LD × (LD × T1)))) ((LD × (LD × (LD × (LD × (LD × (LD × T1))))))) _ (some d) (fun e =>
 opt.ask _ (p.cmp .neq e.2.2.2.1 (0 : Int)) (
 opt.ret _ ((0 : Int), ((0 : Int), (e.2.2.2.1, ())))) (
 opt.no _ 41)) (fun f =>
 opt.bnd ((LD × (LD × (LD × (LD × (LD × (LD × T1))))))) _ (some f) fun g =>
 opt.ask _ (p.cmp .neq g.2.2.2.2.2.2.1 (0 : Int)) (
 opt.ret _ ((0 : Int), ((0 : Int), (g.2.2.2.2.2.2.1, ())))) (
 opt.bnd T20 _ (g63 it p (g.2.2.1, (g.2.2.2.2.2.1, ()))) fun h =>
 opt.ask _ (bif h.2.2.2.1 then Bool.false else Bool.true) (
 opt.ret _ ((0 : Int), ((1 : Int), ((0 : Int), ())))) (
 opt.need _ (p.leN (p.add 0 0) (p.len [])) <|
 opt.bnd ((LD × T79)) _ (
 it _ _ (c25_1 it p) ([], ((0 : Int), ((0 : Int), (0, (0, (g.2.2.1, (g.2.2.2.2.2.1, (g.2.2.2.2.2.1, (g.2.2.1, ((0 : Int), ()))))))))))) fun i =>
 opt.bnd ((LD × T3)) _ (g69 it p (i.1, (i.2.2.2.1, (i.2.2.2.2.1, ())))) fun j =>
 opt.ret _ (j.2.1, (j.2.2.1, ((0 : Int), ()))))))))
def G25 := g25 it0
theorem ok25 : CtrOk PG ctr25 (G25 std) := okF (a := an25) (l := la25) (gC ok69 (gC ok68 (gC ok65 (gC ok63 (gC ok62 (gN)))))) (by kernel_rfl) fun _ _ => by kernel_rfl
end Go.Am
end
