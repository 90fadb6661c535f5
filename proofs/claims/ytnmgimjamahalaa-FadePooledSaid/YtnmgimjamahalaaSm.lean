/-
  What the printed functions compute: the document's answer on whether blocks prove a card.
-/
import Derived.Test.YtnmgimjamahalaaSb
section
set_option linter.unusedVariables false
set_option linter.unusedSimpArgs false
set_option linter.unusedSectionVars false
namespace Go.Am
open M08
theorem G31_ti' (a b : Blk) (ha : MaxB a) (hb : TiB b) : G31 std (a.1, a.2.1, a.2.2.1, a.2.2.2, b.1, b.2.1, b.2.2.1, b.2.2.2, ()) = some (ltB a b, ()) := by
  obtain ⟨a1, a2, a3, a4⟩ := ha
  obtain ⟨b1, b2, b3, b4⟩ := hb
  unfold G31
  simp only [need_eq, ask_eq, ret_eq, no_eq, bnd_eq, run_eq, alt_eq, std_len, std_ofNat, std_nat, std_add, std_sub, std_leN, std_eqN, std_and, std_app, std_cut, std_lss, std_leq, std_gtr, std_geq, std_eql, std_neq, std_rowOk, std_rdI, rdD, bif_eq, ofNat_eq, List.length_map, List.getElem?_map, Option.map_some, Option.bind_some, Option.bind_none, Int.toNat_natCast, decide_eq_true_eq, Sum.elim_inl, Sum.elim_inr, if_true, if_false, decide_true, decide_false, Bool.false_eq_true, std_ar_mul, mul_max b3 b4 a1 a2, mul_max' b1 (show b.2.2.1 ≤ 48000 by omega) a3 a4, ltB]
section
variable {l : List Mk} (hl : l.length ≤ 24) (hc : ∀ m ∈ l, okMk m)
include hl hc
def okAt (l : List Mk) (a : Nat) (b : Blk) : Prop := cnt l a b.2.1 ≠ 0 ∧ mkB l (a, a + cnt l a b.2.1) = b ∧ ∀ i, i < cnt l a b.2.1 → ltB (mkB l (a, a + i + 1)) b = false
theorem in20_2 (g : List Blk) (b : Blk) (a i : Nat) (hi : g[i]? = some b) (ha : a < (hours l).length) (hb : b = blk l (lim l a) b.2.1) :
    ∃ r, iter (b20_2 std) (rowsI (hours l), encM l, encB g, (a : Int), (i : Int), false, ()) = some r ∧
      ((r = Sum.inl (14, ()) ∧ ¬ okAt l a b) ∨ (r = Sum.inr (rowsI (hours l), encM l, encB g, ((a + cnt l a b.2.1 : Nat) : Int), (i : Int), true, ()) ∧ okAt l a b) ∨ (∃ e : Int, r = Sum.inr (rowsI (hours l), encM l, encB g, e, (i : Int), false, ()) ∧ ¬ okAt l a b)) := by
  have hn := hours_len l
  have hrl := rowsI_length (hours l)
  have hbt : TiB b := by rw [hb]; exact blk_ti hl hc _ _
  have hb1 : b.1 = lim l a := by rw [hb]; rfl
  have g2 : (i : Int) ≥ 0 := by omega
  have hblk : ∀ j, a ≤ j → j < (hours l).length → blk l (lim l a) (lim l j) = mkB l (a, j + 1) := fun j h1 h2 => mkB_bl (show l.length ≤ 100000 by omega) hc (show a < j + 1 by omega) (by omega)
  have key := iter_ev (b := b20_2 std) (σ := Nat × Bool) (fun s => (rowsI (hours l), encM l, encB g, (s.1 : Int), (i : Int), s.2, ()))
    (fun s => (s.2 = false ∧ a ≤ s.1 ∧ s.1 ≤ (hours l).length ∧ ∀ k, a ≤ k → k < s.1 → lim l k < b.2.1 ∧ ltB (mkB l (a, k + 1)) b = false) ∨
      (s.2 = true ∧ s.1 = a + cnt l a b.2.1 ∧ okAt l a b))
    (fun s => if s.2 = true then 0 else (hours l).length - s.1 + 1)
    (fun r => (r = Sum.inl (14, ()) ∧ ¬ okAt l a b) ∨ (r = Sum.inr (rowsI (hours l), encM l, encB g, ((a + cnt l a b.2.1 : Nat) : Int), (i : Int), true, ()) ∧ okAt l a b) ∨ (∃ e : Int, r = Sum.inr (rowsI (hours l), encM l, encB g, e, (i : Int), false, ()) ∧ ¬ okAt l a b)) ?_ (a, false) (.inl ⟨rfl, Nat.le_refl _, Nat.le_of_lt ha, fun k h1 h2 => by omega⟩)
  · exact key
  · rintro ⟨j, d⟩ (⟨hd, h1, h2, h3⟩ | ⟨hd, h1, h2⟩)
    · subst hd
      simp only at h1 h2 h3
      by_cases hj : j < (hours l).length
      · have hjl := hours_get hj
        have f1 : (j : Int) < (hours l).length := by omega
        have f2 : (j : Int) ≥ 0 := by omega
        have hw := wrap_nat (i := j) (by omega)
        have h30 := G30_ok l (show l.length ≤ 100000 by omega) hc (lim l a) (lim l j)
        rw [hblk j h1 hj] at h30
        have h31 := G31_ti (mkB l (a, j + 1)) b (mkB_ti hl hc (by omega) (by omega)) hbt.max
        rw [hb1] at h31
        have hcnt : ∀ k, a ≤ k → k < (hours l).length → (k - a < cnt l a b.2.1 ↔ lim l k ≤ b.2.1) := fun k q1 q2 => by
          have := takeWhile_len hc ((hours l).length - a) a rfl (x := b.2.1) (k - a) (by omega)
          rw [show a + (k - a) = k by omega] at this
          exact this
        by_cases hgt : lim l j > b.2.1
        · right
          refine ⟨_, ?_, .inl ⟨rfl, ?_⟩⟩
          · simp only [b20_2, need_eq, ask_eq, ret_eq, no_eq, bnd_eq, run_eq, alt_eq, std_len, std_ofNat, std_nat, std_add, std_sub, std_leN, std_eqN, std_and, std_app, std_cut, std_lss, std_leq, std_gtr, std_geq, std_eql, std_neq, std_rowOk, std_rdI, rdD, bif_eq, ofNat_eq, List.length_map, List.getElem?_map, Option.map_some, Option.bind_some, Option.bind_none, Int.toNat_natCast, decide_eq_true_eq, Sum.elim_inl, Sum.elim_inr, if_true, if_false, decide_true, decide_false, Bool.false_eq_true, encB_length, encB_get, cells_eB, dI_eB0, dI_eB1, dI_eB2, dI_eB3, List.length_cons, List.length_nil, Nat.zero_add, ite_self, hrl, f1, f2, g2, Bool.not_false, rowsI_get, hjl, cells_I, dI_I, dI_some, hi, hgt]
          · rintro ⟨o1, o2, o3⟩
            have c1 : ¬ (j - a < cnt l a b.2.1) := fun h => by have := (hcnt j h1 hj).1 h; omega
            have c2 := h3 (a + cnt l a b.2.1 - 1) (by omega) (by omega)
            have c3 : (mkB l (a, a + cnt l a b.2.1)).2.1 = b.2.1 := by rw [o2]
            have c4 : (mkB l (a, a + cnt l a b.2.1)).2.1 = lim l (a + cnt l a b.2.1 - 1) := rfl
            omega
        · cases hlt : ltB (mkB l (a, j + 1)) b with
          | true =>
            right
            rw [hlt] at h31
            refine ⟨_, ?_, .inl ⟨rfl, ?_⟩⟩
            · simp only [b20_2, need_eq, ask_eq, ret_eq, no_eq, bnd_eq, run_eq, alt_eq, std_len, std_ofNat, std_nat, std_add, std_sub, std_leN, std_eqN, std_and, std_app, std_cut, std_lss, std_leq, std_gtr, std_geq, std_eql, std_neq, std_rowOk, std_rdI, rdD, bif_eq, ofNat_eq, List.length_map, List.getElem?_map, Option.map_some, Option.bind_some, Option.bind_none, Int.toNat_natCast, decide_eq_true_eq, Sum.elim_inl, Sum.elim_inr, if_true, if_false, decide_true, decide_false, Bool.false_eq_true, encB_length, encB_get, cells_eB, dI_eB0, dI_eB1, dI_eB2, dI_eB3, List.length_cons, List.length_nil, Nat.zero_add, ite_self, hrl, f1, f2, g2, Bool.not_false, rowsI_get, hjl, cells_I, dI_I, dI_some, hi, hgt, hb1, h30, h31]
            · rintro ⟨o1, o2, o3⟩
              have c1 := (hcnt j h1 hj).2 (by omega)
              have c2 := o3 (j - a) c1
              rw [show a + (j - a) + 1 = j + 1 by omega, hlt] at c2
              cases c2
          | false =>
            left
            rw [hlt] at h31
            by_cases he : lim l j = b.2.1
            · have hed : decide (lim l j = b.2.1) = true := decide_eq_true he
              have hca : cnt l a b.2.1 = j + 1 - a := by
                have := cnt_at hc (show a < j + 1 by omega) (show j + 1 ≤ (hours l).length by omega)
                rw [show j + 1 - 1 = j by omega, he] at this
                exact this
              refine ⟨(j + 1, true), ?_, .inr ⟨rfl, by simp only; omega, ?_⟩, by simp⟩
              · simp only [b20_2, need_eq, ask_eq, ret_eq, no_eq, bnd_eq, run_eq, alt_eq, std_len, std_ofNat, std_nat, std_add, std_sub, std_leN, std_eqN, std_and, std_app, std_cut, std_lss, std_leq, std_gtr, std_geq, std_eql, std_neq, std_rowOk, std_rdI, rdD, bif_eq, ofNat_eq, List.length_map, List.getElem?_map, Option.map_some, Option.bind_some, Option.bind_none, Int.toNat_natCast, decide_eq_true_eq, Sum.elim_inl, Sum.elim_inr, if_true, if_false, decide_true, decide_false, Bool.false_eq_true, encB_length, encB_get, cells_eB, dI_eB0, dI_eB1, dI_eB2, dI_eB3, List.length_cons, List.length_nil, Nat.zero_add, ite_self, hrl, f1, f2, g2, Bool.not_false, rowsI_get, hjl, cells_I, dI_I, dI_some, hi, hgt, hb1, h30, h31, hed, std_ar_add, hw]
              · refine ⟨by omega, ?_, fun k hk => ?_⟩
                · rw [hca, show a + (j + 1 - a) = j + 1 by omega, ← hblk j h1 hj, he]; exact hb.symm
                · by_cases hkj : a + k = j
                  · rw [hkj]; exact hlt
                  · exact (h3 (a + k) (by omega) (by omega)).2
            · refine ⟨(j + 1, false), ?_, .inl ⟨rfl, by simp only; omega, by simp only; omega, fun k q1 q2 => ?_⟩, by simp only [Bool.false_eq_true, if_false]; omega⟩
              · simp only [b20_2, need_eq, ask_eq, ret_eq, no_eq, bnd_eq, run_eq, alt_eq, std_len, std_ofNat, std_nat, std_add, std_sub, std_leN, std_eqN, std_and, std_app, std_cut, std_lss, std_leq, std_gtr, std_geq, std_eql, std_neq, std_rowOk, std_rdI, rdD, bif_eq, ofNat_eq, List.length_map, List.getElem?_map, Option.map_some, Option.bind_some, Option.bind_none, Int.toNat_natCast, decide_eq_true_eq, Sum.elim_inl, Sum.elim_inr, if_true, if_false, decide_true, decide_false, Bool.false_eq_true, encB_length, encB_get, cells_eB, dI_eB0, dI_eB1, dI_eB2, dI_eB3, List.length_cons, List.length_nil, Nat.zero_add, ite_self, hrl, f1, f2, g2, Bool.not_false, rowsI_get, hjl, cells_I, dI_I, dI_some, hi, hgt, hb1, h30, h31, he, std_ar_add, hw]
              · simp only at q2
                by_cases hkj : k = j
                · subst hkj; exact ⟨by omega, hlt⟩
                · exact h3 k q1 (by omega)
      · right
        have hj' : j = (hours l).length := by omega
        subst hj'
        refine ⟨_, ?_, .inr (.inr ⟨(((hours l).length : Nat) : Int), rfl, ?_⟩)⟩
        · simp only [b20_2, need_eq, ask_eq, ret_eq, no_eq, bnd_eq, run_eq, alt_eq, std_len, std_ofNat, std_nat, std_add, std_sub, std_leN, std_eqN, std_and, std_app, std_cut, std_lss, std_leq, std_gtr, std_geq, std_eql, std_neq, std_rowOk, std_rdI, rdD, bif_eq, ofNat_eq, List.length_map, List.getElem?_map, Option.map_some, Option.bind_some, Option.bind_none, Int.toNat_natCast, decide_eq_true_eq, Sum.elim_inl, Sum.elim_inr, if_true, if_false, decide_true, decide_false, Bool.false_eq_true, hrl, Int.lt_irrefl]
        · rintro ⟨o1, o2, o3⟩
          have c0 := cnt_le hc a b.2.1
          have c2 := h3 (a + cnt l a b.2.1 - 1) (by omega) (by omega)
          have c3 : (mkB l (a, a + cnt l a b.2.1)).2.1 = b.2.1 := by rw [o2]
          have c4 : (mkB l (a, a + cnt l a b.2.1)).2.1 = lim l (a + cnt l a b.2.1 - 1) := rfl
          omega
    · right
      simp only at hd h1
      subst hd
      subst h1
      refine ⟨_, ?_, .inr (.inl ⟨rfl, h2⟩)⟩
      simp only [b20_2, need_eq, ask_eq, ret_eq, no_eq, bnd_eq, run_eq, alt_eq, std_len, std_ofNat, std_nat, std_add, std_sub, std_leN, std_eqN, std_and, std_app, std_cut, std_lss, std_leq, std_gtr, std_geq, std_eql, std_neq, std_rowOk, std_rdI, rdD, bif_eq, ofNat_eq, List.length_map, List.getElem?_map, Option.map_some, Option.bind_some, Option.bind_none, Int.toNat_natCast, decide_eq_true_eq, Sum.elim_inl, Sum.elim_inr, if_true, if_false, decide_true, decide_false, Bool.false_eq_true, hrl, Bool.not_true]
      by_cases hj : ((a + cnt l a b.2.1 : Nat) : Int) < (hours l).length
      · simp only [hj, need_eq, ask_eq, ret_eq, no_eq, bnd_eq, run_eq, alt_eq, std_len, std_ofNat, std_nat, std_add, std_sub, std_leN, std_eqN, std_and, std_app, std_cut, std_lss, std_leq, std_gtr, std_geq, std_eql, std_neq, std_rowOk, std_rdI, rdD, bif_eq, ofNat_eq, List.length_map, List.getElem?_map, Option.map_some, Option.bind_some, Option.bind_none, Int.toNat_natCast, decide_eq_true_eq, Sum.elim_inl, Sum.elim_inr, if_true, if_false, decide_true, decide_false, Bool.false_eq_true]
      · simp only [hj, need_eq, ask_eq, ret_eq, no_eq, bnd_eq, run_eq, alt_eq, std_len, std_ofNat, std_nat, std_add, std_sub, std_leN, std_eqN, std_and, std_app, std_cut, std_lss, std_leq, std_gtr, std_geq, std_eql, std_neq, std_rowOk, std_rdI, rdD, bif_eq, ofNat_eq, List.length_map, List.getElem?_map, Option.map_some, Option.bind_some, Option.bind_none, Int.toNat_natCast, decide_eq_true_eq, Sum.elim_inl, Sum.elim_inr, if_true, if_false, decide_true, decide_false, Bool.false_eq_true]
theorem b20_eq : b20_3 std = b20_2 std := rfl
theorem in20_1 (g : List Blk) (hg : ∀ b ∈ g, MaxB b) (hgl : g.length ≤ 1000000) :
    ∃ r, iter (b20_1 std) (rowsI (hours l), encM l, encB g, 0, 0, ()) = some r ∧ ((r = Sum.inl (14, ()) ∧ runB l 0 none g ≠ some (hours l).length) ∨ (∃ a : Nat, r = Sum.inr (rowsI (hours l), (a : Int), ()) ∧ runB l 0 none g = some a)) := by
  have hn := hours_len l
  have hrl := rowsI_length (hours l)
  have key := iter_count (b := b20_1 std) g.length (fun (a : Nat) i => (rowsI (hours l), encM l, encB g, (a : Int), (i : Int), ())) (fun a i => runB l 0 none (g.take i) = some a)
    (fun r => (r = Sum.inl (14, ()) ∧ runB l 0 none g ≠ some (hours l).length) ∨ (∃ a : Nat, r = Sum.inr (rowsI (hours l), (a : Int), ()) ∧ runB l 0 none g = some a)) ?_ ?_ 0 0 (Nat.zero_le _) (by simp [runB])
  · exact key
  · intro a i hi hrun
    obtain ⟨b, hb⟩ := get_some hi
    have hbm := hg b (List.mem_of_getElem? hb)
    have ho := run_le hl hc hrun
    have hw := wrap_nat (i := i) (by omega)
    have g1 : (i : Int) < g.length := by omega
    have g2 : (i : Int) ≥ 0 := by omega
    have g3 : (a : Int) ≥ 0 := by omega
    have htk : g.take (i + 1) = g.take i ++ [b] := by
      obtain ⟨h1, rfl⟩ := List.getElem?_eq_some_iff.1 hb
      exact List.take_succ_eq_append_getElem h1
    have hprev : (g.take i).getLast?.or none = if h : 0 < i then g[i - 1]? else none := by
      by_cases h : 0 < i
      · rw [dif_pos h, List.getLast?_eq_getElem?, List.length_take, Nat.min_eq_left (by omega), List.getElem?_take_of_lt (by omega)]; simp
      · have : i = 0 := by omega
        subst this; simp
    have hstep : ∀ prev, (g.take i).getLast?.or none = prev → runB l 0 none (g.take (i + 1)) = stepB l a prev b := by
      intro prev hp
      rw [htk, run_append, hrun, Option.bind_some, hp]
      simp only [runB]
      cases stepB l a prev b <;> rfl
    have hwhole : ∀ prev, (g.take i).getLast?.or none = prev → stepB l a prev b = none → runB l 0 none g ≠ some (hours l).length := by
      intro prev hp hs
      have e : g = g.take (i + 1) ++ g.drop (i + 1) := (List.take_append_drop _ _).symm
      rw [e, run_append, hstep prev hp, hs]
      simp
    have hnone : ∀ prev, ¬ okAt l a b → stepB l a prev b = none := fun prev h => by
      unfold stepB
      rw [if_neg]
      rintro ⟨q1, q2, q3, _⟩
      exact h ⟨q1, q2, q3⟩
    by_cases han : a = (hours l).length
    · right
      have hcn := cnt_le hc a b.2.1
      refine ⟨_, ?_, .inl ⟨rfl, hwhole _ rfl (hnone _ fun h => h.1 (by omega))⟩⟩
      have e : ((a : Nat) : Int) = (hours l).length := by omega
      simp only [b20_1, need_eq, ask_eq, ret_eq, no_eq, bnd_eq, run_eq, alt_eq, std_len, std_ofNat, std_nat, std_add, std_sub, std_leN, std_eqN, std_and, std_app, std_cut, std_lss, std_leq, std_gtr, std_geq, std_eql, std_neq, std_rowOk, std_rdI, rdD, bif_eq, ofNat_eq, List.length_map, List.getElem?_map, Option.map_some, Option.bind_some, Option.bind_none, Int.toNat_natCast, decide_eq_true_eq, Sum.elim_inl, Sum.elim_inr, if_true, if_false, decide_true, decide_false, Bool.false_eq_true, encB_length, encB_get, cells_eB, dI_eB0, dI_eB1, dI_eB2, dI_eB3, List.length_cons, List.length_nil, Nat.zero_add, ite_self, g1, g2, hrl, e]
    have e0 : ¬ ((a : Nat) : Int) = (hours l).length := by omega
    have e1 : ((a : Nat) : Int) < (hours l).length := by omega
    have ha : a < (hours l).length := by omega
    have hal := hours_get ha
    have hokb : okAt l a b → b = blk l (lim l a) b.2.1 := by
      rintro ⟨q1, q2, q3⟩
      have hcn := cnt_le hc a b.2.1
      have c3 : (mkB l (a, a + cnt l a b.2.1)).2.1 = b.2.1 := by rw [q2]
      have c4 : (mkB l (a, a + cnt l a b.2.1)).2.1 = lim l (a + cnt l a b.2.1 - 1) := rfl
      have c5 := mkB_bl (show l.length ≤ 100000 by omega) hc (show a < a + cnt l a b.2.1 by omega) (by omega)
      rw [← c3, c4]
      exact (c5.trans q2).symm
    by_cases hfr : b.1 = lim l a
    · have h30 := G30_ok l (show l.length ≤ 100000 by omega) hc b.1 b.2.1
      have heq : ∀ (x y : Blk), (x.1 = y.1 ∧ x.2.1 = y.2.1 ∧ x.2.2.1 = y.2.2.1 ∧ x.2.2.2 = y.2.2.2) ↔ x = y := fun x y => ⟨fun ⟨a, b, c, d⟩ => Prod.ext a (Prod.ext b (Prod.ext c d)), fun h => by subst h; exact ⟨rfl, rfl, rfl, rfl⟩⟩
      by_cases hbl : b = blk l (lim l a) b.2.1
      · have hbl' : b = blk l b.1 b.2.1 := by rw [hfr]; exact hbl
        have h30' : G30 std (encM l, b.1, b.2.1, ()) = some (b.1, b.2.1, b.2.2.1, b.2.2.2, ()) := by rw [h30, ← hbl']
        have hbt : TiB b := by rw [hbl]; exact blk_ti hl hc _ _
        rw [hfr] at h30'
        obtain ⟨r, i1, i2⟩ := in20_2 hl hc g b a i hb ha hbl
        by_cases hi0 : i = 0
        · have z : ¬ ((i : Nat) : Int) > 0 := by omega
          have hp : (g.take i).getLast?.or none = none := by rw [hprev, dif_neg (by omega)]
          rcases i2 with ⟨rfl, i2⟩ | ⟨rfl, i2⟩ | ⟨e, rfl, i2⟩
          · right
            refine ⟨_, ?_, .inl ⟨rfl, hwhole _ hp (hnone _ i2)⟩⟩
            simp only [b20_1, need_eq, ask_eq, ret_eq, no_eq, bnd_eq, run_eq, alt_eq, std_len, std_ofNat, std_nat, std_add, std_sub, std_leN, std_eqN, std_and, std_app, std_cut, std_lss, std_leq, std_gtr, std_geq, std_eql, std_neq, std_rowOk, std_rdI, rdD, bif_eq, ofNat_eq, List.length_map, List.getElem?_map, Option.map_some, Option.bind_some, Option.bind_none, Int.toNat_natCast, decide_eq_true_eq, Sum.elim_inl, Sum.elim_inr, if_true, if_false, decide_true, decide_false, Bool.false_eq_true, encB_length, encB_get, cells_eB, dI_eB0, dI_eB1, dI_eB2, dI_eB3, List.length_cons, List.length_nil, Nat.zero_add, ite_self, g1, g2, g3, hrl, e0, e1, rowsI_get, hal, cells_I, dI_I, dI_some, hb, hfr, h30', z, Bool.not_true, Bool.not_false, b20_eq hl hc, i1]
          · left
            refine ⟨a + cnt l a b.2.1, ?_, ?_⟩
            · simp only [b20_1, need_eq, ask_eq, ret_eq, no_eq, bnd_eq, run_eq, alt_eq, std_len, std_ofNat, std_nat, std_add, std_sub, std_leN, std_eqN, std_and, std_app, std_cut, std_lss, std_leq, std_gtr, std_geq, std_eql, std_neq, std_rowOk, std_rdI, rdD, bif_eq, ofNat_eq, List.length_map, List.getElem?_map, Option.map_some, Option.bind_some, Option.bind_none, Int.toNat_natCast, decide_eq_true_eq, Sum.elim_inl, Sum.elim_inr, if_true, if_false, decide_true, decide_false, Bool.false_eq_true, encB_length, encB_get, cells_eB, dI_eB0, dI_eB1, dI_eB2, dI_eB3, List.length_cons, List.length_nil, Nat.zero_add, ite_self, g1, g2, g3, hrl, e0, e1, rowsI_get, hal, cells_I, dI_I, dI_some, hb, hfr, h30', z, Bool.not_true, Bool.not_false, b20_eq hl hc, i1, std_ar_add, hw]
            · rw [hstep none hp]
              unfold stepB
              rw [if_pos ⟨i2.1, i2.2.1, i2.2.2, fun p h => by cases h⟩]
          · right
            refine ⟨_, ?_, .inl ⟨rfl, hwhole _ hp (hnone _ i2)⟩⟩
            simp only [b20_1, need_eq, ask_eq, ret_eq, no_eq, bnd_eq, run_eq, alt_eq, std_len, std_ofNat, std_nat, std_add, std_sub, std_leN, std_eqN, std_and, std_app, std_cut, std_lss, std_leq, std_gtr, std_geq, std_eql, std_neq, std_rowOk, std_rdI, rdD, bif_eq, ofNat_eq, List.length_map, List.getElem?_map, Option.map_some, Option.bind_some, Option.bind_none, Int.toNat_natCast, decide_eq_true_eq, Sum.elim_inl, Sum.elim_inr, if_true, if_false, decide_true, decide_false, Bool.false_eq_true, encB_length, encB_get, cells_eB, dI_eB0, dI_eB1, dI_eB2, dI_eB3, List.length_cons, List.length_nil, Nat.zero_add, ite_self, g1, g2, g3, hrl, e0, e1, rowsI_get, hal, cells_I, dI_I, dI_some, hb, hfr, h30', z, Bool.not_true, Bool.not_false, b20_eq hl hc, i1]
        · obtain ⟨pv, hpv⟩ := get_some (l := g) (i := i - 1) (by omega)
          have hp : (g.take i).getLast?.or none = some pv := by rw [hprev, dif_pos (by omega)]; exact hpv
          have z : ((i : Nat) : Int) > 0 := by omega
          have z1 : IntKind.i64.wrap ((i : Int) - 1) = ((i - 1 : Nat) : Int) := by rw [wrap64] <;> omega
          have z2 : ((i - 1 : Nat) : Int) ≥ 0 := by omega
          have z3 : ((i - 1 : Nat) : Int) < (g.length : Int) := by omega
          have h31 := G31_ti' pv b (hg pv (List.mem_of_getElem? hpv)) hbt
          rw [hfr] at h31
          cases hlt : ltB pv b with
          | false =>
            right
            rw [hlt] at h31
            refine ⟨_, ?_, .inl ⟨rfl, hwhole _ hp (by unfold stepB; rw [if_neg]; rintro ⟨_, _, _, q⟩; have := q pv rfl; rw [hlt] at this; cases this)⟩⟩
            simp only [b20_1, need_eq, ask_eq, ret_eq, no_eq, bnd_eq, run_eq, alt_eq, std_len, std_ofNat, std_nat, std_add, std_sub, std_leN, std_eqN, std_and, std_app, std_cut, std_lss, std_leq, std_gtr, std_geq, std_eql, std_neq, std_rowOk, std_rdI, rdD, bif_eq, ofNat_eq, List.length_map, List.getElem?_map, Option.map_some, Option.bind_some, Option.bind_none, Int.toNat_natCast, decide_eq_true_eq, Sum.elim_inl, Sum.elim_inr, if_true, if_false, decide_true, decide_false, Bool.false_eq_true, encB_length, encB_get, cells_eB, dI_eB0, dI_eB1, dI_eB2, dI_eB3, List.length_cons, List.length_nil, Nat.zero_add, ite_self, g1, g2, g3, hrl, e0, e1, rowsI_get, hal, cells_I, dI_I, dI_some, hb, hfr, h30', z, z1, z2, z3, hpv, h31, std_ar_sub, Bool.not_true, Bool.not_false]
          | true =>
            rw [hlt] at h31
            rcases i2 with ⟨rfl, i2⟩ | ⟨rfl, i2⟩ | ⟨e, rfl, i2⟩
            · right
              refine ⟨_, ?_, .inl ⟨rfl, hwhole _ hp (hnone _ i2)⟩⟩
              simp only [b20_1, need_eq, ask_eq, ret_eq, no_eq, bnd_eq, run_eq, alt_eq, std_len, std_ofNat, std_nat, std_add, std_sub, std_leN, std_eqN, std_and, std_app, std_cut, std_lss, std_leq, std_gtr, std_geq, std_eql, std_neq, std_rowOk, std_rdI, rdD, bif_eq, ofNat_eq, List.length_map, List.getElem?_map, Option.map_some, Option.bind_some, Option.bind_none, Int.toNat_natCast, decide_eq_true_eq, Sum.elim_inl, Sum.elim_inr, if_true, if_false, decide_true, decide_false, Bool.false_eq_true, encB_length, encB_get, cells_eB, dI_eB0, dI_eB1, dI_eB2, dI_eB3, List.length_cons, List.length_nil, Nat.zero_add, ite_self, g1, g2, g3, hrl, e0, e1, rowsI_get, hal, cells_I, dI_I, dI_some, hb, hfr, h30', z, z1, z2, z3, hpv, h31, std_ar_sub, Bool.not_true, Bool.not_false, i1]
            · left
              refine ⟨a + cnt l a b.2.1, ?_, ?_⟩
              · simp only [b20_1, need_eq, ask_eq, ret_eq, no_eq, bnd_eq, run_eq, alt_eq, std_len, std_ofNat, std_nat, std_add, std_sub, std_leN, std_eqN, std_and, std_app, std_cut, std_lss, std_leq, std_gtr, std_geq, std_eql, std_neq, std_rowOk, std_rdI, rdD, bif_eq, ofNat_eq, List.length_map, List.getElem?_map, Option.map_some, Option.bind_some, Option.bind_none, Int.toNat_natCast, decide_eq_true_eq, Sum.elim_inl, Sum.elim_inr, if_true, if_false, decide_true, decide_false, Bool.false_eq_true, encB_length, encB_get, cells_eB, dI_eB0, dI_eB1, dI_eB2, dI_eB3, List.length_cons, List.length_nil, Nat.zero_add, ite_self, g1, g2, g3, hrl, e0, e1, rowsI_get, hal, cells_I, dI_I, dI_some, hb, hfr, h30', z, z1, z2, z3, hpv, h31, std_ar_sub, Bool.not_true, Bool.not_false, i1, std_ar_add, hw]
              · rw [hstep (some pv) hp]
                unfold stepB
                rw [if_pos ⟨i2.1, i2.2.1, i2.2.2, fun p h => by cases h; exact hlt⟩]
            · right
              refine ⟨_, ?_, .inl ⟨rfl, hwhole _ hp (hnone _ i2)⟩⟩
              simp only [b20_1, need_eq, ask_eq, ret_eq, no_eq, bnd_eq, run_eq, alt_eq, std_len, std_ofNat, std_nat, std_add, std_sub, std_leN, std_eqN, std_and, std_app, std_cut, std_lss, std_leq, std_gtr, std_geq, std_eql, std_neq, std_rowOk, std_rdI, rdD, bif_eq, ofNat_eq, List.length_map, List.getElem?_map, Option.map_some, Option.bind_some, Option.bind_none, Int.toNat_natCast, decide_eq_true_eq, Sum.elim_inl, Sum.elim_inr, if_true, if_false, decide_true, decide_false, Bool.false_eq_true, encB_length, encB_get, cells_eB, dI_eB0, dI_eB1, dI_eB2, dI_eB3, List.length_cons, List.length_nil, Nat.zero_add, ite_self, g1, g2, g3, hrl, e0, e1, rowsI_get, hal, cells_I, dI_I, dI_some, hb, hfr, h30', z, z1, z2, z3, hpv, h31, std_ar_sub, Bool.not_true, Bool.not_false, i1]
      · right
        refine ⟨_, ?_, .inl ⟨rfl, hwhole _ rfl (hnone _ fun h => hbl (hokb h))⟩⟩
        have hne : ¬ (b.1 = (blk l b.1 b.2.1).1 ∧ b.2.1 = (blk l b.1 b.2.1).2.1 ∧ b.2.2.1 = (blk l b.1 b.2.1).2.2.1 ∧ b.2.2.2 = (blk l b.1 b.2.1).2.2.2) := fun h => hbl (by rw [← hfr]; exact (heq _ _).1 h)
        have hne' : (if b.1 = (blk l b.1 b.2.1).1 then if b.2.1 = (blk l b.1 b.2.1).2.1 then if b.2.2.1 = (blk l b.1 b.2.1).2.2.1 then if b.2.2.2 = (blk l b.1 b.2.1).2.2.2 then true else false else false else false else false) = false := by
          split
          · split
            · split
              · split
                · exact absurd ⟨by assumption, by assumption, by assumption, by assumption⟩ hne
                · rfl
              · rfl
            · rfl
          · rfl
        rw [hfr] at h30 hne'
        simp only [b20_1, need_eq, ask_eq, ret_eq, no_eq, bnd_eq, run_eq, alt_eq, std_len, std_ofNat, std_nat, std_add, std_sub, std_leN, std_eqN, std_and, std_app, std_cut, std_lss, std_leq, std_gtr, std_geq, std_eql, std_neq, std_rowOk, std_rdI, rdD, bif_eq, ofNat_eq, List.length_map, List.getElem?_map, Option.map_some, Option.bind_some, Option.bind_none, Int.toNat_natCast, decide_eq_true_eq, Sum.elim_inl, Sum.elim_inr, if_true, if_false, decide_true, decide_false, Bool.false_eq_true, encB_length, encB_get, cells_eB, dI_eB0, dI_eB1, dI_eB2, dI_eB3, List.length_cons, List.length_nil, Nat.zero_add, ite_self, g1, g2, g3, hrl, e0, e1, rowsI_get, hal, cells_I, dI_I, dI_some, hb, hfr, h30, hne', Bool.not_true, Bool.not_false]
    · right
      refine ⟨_, ?_, .inl ⟨rfl, hwhole _ rfl (hnone _ fun h => hfr (by rw [hokb h]; rfl))⟩⟩
      simp only [b20_1, need_eq, ask_eq, ret_eq, no_eq, bnd_eq, run_eq, alt_eq, std_len, std_ofNat, std_nat, std_add, std_sub, std_leN, std_eqN, std_and, std_app, std_cut, std_lss, std_leq, std_gtr, std_geq, std_eql, std_neq, std_rowOk, std_rdI, rdD, bif_eq, ofNat_eq, List.length_map, List.getElem?_map, Option.map_some, Option.bind_some, Option.bind_none, Int.toNat_natCast, decide_eq_true_eq, Sum.elim_inl, Sum.elim_inr, if_true, if_false, decide_true, decide_false, Bool.false_eq_true, encB_length, encB_get, cells_eB, dI_eB0, dI_eB1, dI_eB2, dI_eB3, List.length_cons, List.length_nil, Nat.zero_add, ite_self, g1, g2, g3, hrl, e0, e1, rowsI_get, hal, cells_I, dI_I, dI_some, hb, hfr, Bool.not_false]
  · intro a hrun
    rw [List.take_length] at hrun
    refine ⟨_, ?_, .inr ⟨a, rfl, hrun⟩⟩
    simp only [b20_1, need_eq, ask_eq, ret_eq, no_eq, bnd_eq, run_eq, alt_eq, std_len, std_ofNat, std_nat, std_add, std_sub, std_leN, std_eqN, std_and, std_app, std_cut, std_lss, std_leq, std_gtr, std_geq, std_eql, std_neq, std_rowOk, std_rdI, rdD, bif_eq, ofNat_eq, List.length_map, List.getElem?_map, Option.map_some, Option.bind_some, Option.bind_none, Int.toNat_natCast, decide_eq_true_eq, Sum.elim_inl, Sum.elim_inr, if_true, if_false, decide_true, decide_false, Bool.false_eq_true, encB_length, encB_get, cells_eB, dI_eB0, dI_eB1, dI_eB2, dI_eB3, List.length_cons, List.length_nil, Nat.zero_add, ite_self, Int.lt_irrefl]
theorem G20_ok (g : List Blk) (hg : ∀ b ∈ g, MaxB b) (hgl : g.length ≤ 1000000) (h0 : chk l = 0) : G20 std (encM l, encB g, ()) = some (chkB l g, ()) := by
  obtain ⟨r, h1, h2⟩ := in20_1 hl hc g hg hgl
  have hrl := rowsI_length (hours l)
  unfold G20
  simp only [need_eq, ask_eq, ret_eq, no_eq, bnd_eq, run_eq, alt_eq, std_len, std_ofNat, std_nat, std_add, std_sub, std_leN, std_eqN, std_and, std_app, std_cut, std_lss, std_leq, std_gtr, std_geq, std_eql, std_neq, std_rowOk, std_rdI, rdD, bif_eq, ofNat_eq, List.length_map, List.getElem?_map, Option.map_some, Option.bind_some, Option.bind_none, Int.toNat_natCast, decide_eq_true_eq, Sum.elim_inl, Sum.elim_inr, if_true, if_false, decide_true, decide_false, Bool.false_eq_true, G17_ok, h0, Bool.not_true, G28_ok l (show l.length ≤ 100000 by omega) hc, h1]
  rcases h2 with ⟨rfl, h2⟩ | ⟨a, rfl, h2⟩
  · have : ¬ g = pooled l := fun h => h2 ((run_iff hc).2 h)
    simp only [Sum.elim_inl, Sum.elim_inr, chkB, h0, if_true, this, if_false]
  · by_cases h3 : a = (hours l).length
    · subst h3
      have : g = pooled l := (run_iff hc).1 h2
      simp only [need_eq, ask_eq, ret_eq, no_eq, bnd_eq, run_eq, alt_eq, std_len, std_ofNat, std_nat, std_add, std_sub, std_leN, std_eqN, std_and, std_app, std_cut, std_lss, std_leq, std_gtr, std_geq, std_eql, std_neq, std_rowOk, std_rdI, rdD, bif_eq, ofNat_eq, List.length_map, List.getElem?_map, Option.map_some, Option.bind_some, Option.bind_none, Int.toNat_natCast, decide_eq_true_eq, Sum.elim_inl, Sum.elim_inr, if_true, if_false, decide_true, decide_false, Bool.false_eq_true, hrl, Bool.not_true, chkB, h0, ← this]
    · have : ¬ g = pooled l := fun h => by
        have := (run_iff hc).2 h
        rw [h2] at this
        exact h3 (Option.some.inj this)
      have h4 : ¬ ((a : Nat) : Int) = ((hours l).length : Nat) := by omega
      simp only [need_eq, ask_eq, ret_eq, no_eq, bnd_eq, run_eq, alt_eq, std_len, std_ofNat, std_nat, std_add, std_sub, std_leN, std_eqN, std_and, std_app, std_cut, std_lss, std_leq, std_gtr, std_geq, std_eql, std_neq, std_rowOk, std_rdI, rdD, bif_eq, ofNat_eq, List.length_map, List.getElem?_map, Option.map_some, Option.bind_some, Option.bind_none, Int.toNat_natCast, decide_eq_true_eq, Sum.elim_inl, Sum.elim_inr, if_true, if_false, decide_true, decide_false, Bool.false_eq_true, hrl, h4, Bool.not_false, chkB, h0, this]
end
end Go.Am
end

section
set_option linter.unusedVariables false
set_option linter.unusedSimpArgs false
set_option linter.unusedSectionVars false
namespace Go.Am
open M08
theorem G19_bad (l : List Mk) (g : List Blk) (h0 : ¬ chk l = 0) : G19 std (encM l, encB g, ()) = some (chkB l g, ()) := by
  unfold G19
  simp only [need_eq, ask_eq, ret_eq, no_eq, bnd_eq, run_eq, alt_eq, std_len, std_ofNat, std_nat, std_add, std_sub, std_leN, std_eqN, std_and, std_app, std_cut, std_lss, std_leq, std_gtr, std_geq, std_eql, std_neq, std_rowOk, std_rdI, rdD, bif_eq, ofNat_eq, List.length_map, List.getElem?_map, Option.map_some, Option.bind_some, Option.bind_none, Int.toNat_natCast, decide_eq_true_eq, Sum.elim_inl, Sum.elim_inr, if_true, if_false, decide_true, decide_false, Bool.false_eq_true, G16_ok, h0, Bool.not_false, chkB]
theorem G20_bad (l : List Mk) (g : List Blk) (h0 : ¬ chk l = 0) : G20 std (encM l, encB g, ()) = some (chkB l g, ()) := by
  unfold G20
  simp only [need_eq, ask_eq, ret_eq, no_eq, bnd_eq, run_eq, alt_eq, std_len, std_ofNat, std_nat, std_add, std_sub, std_leN, std_eqN, std_and, std_app, std_cut, std_lss, std_leq, std_gtr, std_geq, std_eql, std_neq, std_rowOk, std_rdI, rdD, bif_eq, ofNat_eq, List.length_map, List.getElem?_map, Option.map_some, Option.bind_some, Option.bind_none, Int.toNat_natCast, decide_eq_true_eq, Sum.elim_inl, Sum.elim_inr, if_true, if_false, decide_true, decide_false, Bool.false_eq_true, G17_ok, h0, Bool.not_false, chkB]
theorem in4_1 (X : List (List D)) (g : List Blk) (hgl : g.length ≤ 1000000) :
    ∃ r, iter (b4_1 std) (X, encB g, 0, ()) = some r ∧ (r = Sum.inl (true, ()) ∨ (r = Sum.inr (X, encB g, ()) ∧ ∀ b ∈ g, MaxB b)) := by
  have key := iter_count (b := b4_1 std) g.length (fun (_ : Unit) i => (X, encB g, (i : Int), ())) (fun _ i => ∀ (j : Nat) (b : Blk), j < i → g[j]? = some b → MaxB b)
    (fun r => r = Sum.inl (true, ()) ∨ (r = Sum.inr (X, encB g, ()) ∧ ∀ b ∈ g, MaxB b)) ?_ ?_ () 0 (Nat.zero_le _) (fun j b h => by omega)
  · exact key
  · intro _ i hi hI
    obtain ⟨b, hb⟩ := get_some hi
    have hw := wrap_nat (i := i) (by omega)
    have g1 : (i : Int) < g.length := by omega
    have g2 : (i : Int) ≥ 0 := by omega
    by_cases h1 : b.2.2.1 < -1099511627776
    · right
      refine ⟨_, ?_, .inl rfl⟩
      simp only [b4_1, need_eq, ask_eq, ret_eq, no_eq, bnd_eq, run_eq, alt_eq, std_len, std_ofNat, std_nat, std_add, std_sub, std_leN, std_eqN, std_and, std_app, std_cut, std_lss, std_leq, std_gtr, std_geq, std_eql, std_neq, std_rowOk, std_rdI, rdD, bif_eq, ofNat_eq, List.length_map, List.getElem?_map, Option.map_some, Option.bind_some, Option.bind_none, Int.toNat_natCast, decide_eq_true_eq, Sum.elim_inl, Sum.elim_inr, if_true, if_false, decide_true, decide_false, Bool.false_eq_true, encB_length, encB_get, cells_eB, dI_eB0, dI_eB1, dI_eB2, dI_eB3, g1, g2, hb, h1, G13_ok]
    by_cases h2 : b.2.2.1 > 1099511627776
    · right
      refine ⟨_, ?_, .inl rfl⟩
      simp only [b4_1, need_eq, ask_eq, ret_eq, no_eq, bnd_eq, run_eq, alt_eq, std_len, std_ofNat, std_nat, std_add, std_sub, std_leN, std_eqN, std_and, std_app, std_cut, std_lss, std_leq, std_gtr, std_geq, std_eql, std_neq, std_rowOk, std_rdI, rdD, bif_eq, ofNat_eq, List.length_map, List.getElem?_map, Option.map_some, Option.bind_some, Option.bind_none, Int.toNat_natCast, decide_eq_true_eq, Sum.elim_inl, Sum.elim_inr, if_true, if_false, decide_true, decide_false, Bool.false_eq_true, encB_length, encB_get, cells_eB, dI_eB0, dI_eB1, dI_eB2, dI_eB3, g1, g2, hb, h1, h2, G13_ok]
    by_cases h3 : b.2.2.2 < -1099511627776
    · right
      refine ⟨_, ?_, .inl rfl⟩
      simp only [b4_1, need_eq, ask_eq, ret_eq, no_eq, bnd_eq, run_eq, alt_eq, std_len, std_ofNat, std_nat, std_add, std_sub, std_leN, std_eqN, std_and, std_app, std_cut, std_lss, std_leq, std_gtr, std_geq, std_eql, std_neq, std_rowOk, std_rdI, rdD, bif_eq, ofNat_eq, List.length_map, List.getElem?_map, Option.map_some, Option.bind_some, Option.bind_none, Int.toNat_natCast, decide_eq_true_eq, Sum.elim_inl, Sum.elim_inr, if_true, if_false, decide_true, decide_false, Bool.false_eq_true, encB_length, encB_get, cells_eB, dI_eB0, dI_eB1, dI_eB2, dI_eB3, g1, g2, hb, h1, h2, h3, G13_ok]
    by_cases h4 : b.2.2.2 > 1099511627776
    · right
      refine ⟨_, ?_, .inl rfl⟩
      simp only [b4_1, need_eq, ask_eq, ret_eq, no_eq, bnd_eq, run_eq, alt_eq, std_len, std_ofNat, std_nat, std_add, std_sub, std_leN, std_eqN, std_and, std_app, std_cut, std_lss, std_leq, std_gtr, std_geq, std_eql, std_neq, std_rowOk, std_rdI, rdD, bif_eq, ofNat_eq, List.length_map, List.getElem?_map, Option.map_some, Option.bind_some, Option.bind_none, Int.toNat_natCast, decide_eq_true_eq, Sum.elim_inl, Sum.elim_inr, if_true, if_false, decide_true, decide_false, Bool.false_eq_true, encB_length, encB_get, cells_eB, dI_eB0, dI_eB1, dI_eB2, dI_eB3, g1, g2, hb, h1, h2, h3, h4, G13_ok]
    left
    refine ⟨(), ?_, fun j c hj hc => ?_⟩
    · simp only [b4_1, need_eq, ask_eq, ret_eq, no_eq, bnd_eq, run_eq, alt_eq, std_len, std_ofNat, std_nat, std_add, std_sub, std_leN, std_eqN, std_and, std_app, std_cut, std_lss, std_leq, std_gtr, std_geq, std_eql, std_neq, std_rowOk, std_rdI, rdD, bif_eq, ofNat_eq, List.length_map, List.getElem?_map, Option.map_some, Option.bind_some, Option.bind_none, Int.toNat_natCast, decide_eq_true_eq, Sum.elim_inl, Sum.elim_inr, if_true, if_false, decide_true, decide_false, Bool.false_eq_true, encB_length, encB_get, cells_eB, dI_eB0, dI_eB1, dI_eB2, dI_eB3, g1, g2, hb, h1, h2, h3, h4, std_ar_add, hw]
    · by_cases hji : j = i
      · subst hji
        rw [hb] at hc
        cases hc
        exact ⟨by omega, by omega, by omega, by omega⟩
      · exact hI j c (by omega) hc
  · intro _ hI
    refine ⟨_, ?_, .inr ⟨rfl, fun b hb => ?_⟩⟩
    · simp only [b4_1, need_eq, ask_eq, ret_eq, no_eq, bnd_eq, run_eq, alt_eq, std_len, std_ofNat, std_nat, std_add, std_sub, std_leN, std_eqN, std_and, std_app, std_cut, std_lss, std_leq, std_gtr, std_geq, std_eql, std_neq, std_rowOk, std_rdI, rdD, bif_eq, ofNat_eq, List.length_map, List.getElem?_map, Option.map_some, Option.bind_some, Option.bind_none, Int.toNat_natCast, decide_eq_true_eq, Sum.elim_inl, Sum.elim_inr, if_true, if_false, decide_true, decide_false, Bool.false_eq_true, encB_length, encB_get, cells_eB, dI_eB0, dI_eB1, dI_eB2, dI_eB3, Int.lt_irrefl]
    · obtain ⟨j, hj⟩ := List.getElem?_of_mem hb
      obtain ⟨h1, _⟩ := List.getElem?_eq_some_iff.1 hj
      exact hI j b h1 hj
theorem G4_ok (l : List Mk) (g : List Blk) : G4 std (encM l, encB g, ()) = some (true, ()) := by
  have hle := encM_length l
  unfold G4
  by_cases h1 : ((l.length : Nat) : Int) > 30
  · simp only [need_eq, ask_eq, ret_eq, no_eq, bnd_eq, run_eq, alt_eq, std_len, std_ofNat, std_nat, std_add, std_sub, std_leN, std_eqN, std_and, std_app, std_cut, std_lss, std_leq, std_gtr, std_geq, std_eql, std_neq, std_rowOk, std_rdI, rdD, bif_eq, ofNat_eq, List.length_map, List.getElem?_map, Option.map_some, Option.bind_some, Option.bind_none, Int.toNat_natCast, decide_eq_true_eq, Sum.elim_inl, Sum.elim_inr, if_true, if_false, decide_true, decide_false, Bool.false_eq_true, encB_length, encB_get, cells_eB, dI_eB0, dI_eB1, dI_eB2, dI_eB3, hle, h1, G13_ok]
  by_cases h2 : ((g.length : Nat) : Int) > 30
  · simp only [need_eq, ask_eq, ret_eq, no_eq, bnd_eq, run_eq, alt_eq, std_len, std_ofNat, std_nat, std_add, std_sub, std_leN, std_eqN, std_and, std_app, std_cut, std_lss, std_leq, std_gtr, std_geq, std_eql, std_neq, std_rowOk, std_rdI, rdD, bif_eq, ofNat_eq, List.length_map, List.getElem?_map, Option.map_some, Option.bind_some, Option.bind_none, Int.toNat_natCast, decide_eq_true_eq, Sum.elim_inl, Sum.elim_inr, if_true, if_false, decide_true, decide_false, Bool.false_eq_true, encB_length, encB_get, cells_eB, dI_eB0, dI_eB1, dI_eB2, dI_eB3, hle, h1, h2, G13_ok]
  obtain ⟨r, i1, rfl | ⟨rfl, i2⟩⟩ := in4_1 (encM l) g (by omega)
  · simp only [need_eq, ask_eq, ret_eq, no_eq, bnd_eq, run_eq, alt_eq, std_len, std_ofNat, std_nat, std_add, std_sub, std_leN, std_eqN, std_and, std_app, std_cut, std_lss, std_leq, std_gtr, std_geq, std_eql, std_neq, std_rowOk, std_rdI, rdD, bif_eq, ofNat_eq, List.length_map, List.getElem?_map, Option.map_some, Option.bind_some, Option.bind_none, Int.toNat_natCast, decide_eq_true_eq, Sum.elim_inl, Sum.elim_inr, if_true, if_false, decide_true, decide_false, Bool.false_eq_true, encB_length, encB_get, cells_eB, dI_eB0, dI_eB1, dI_eB2, dI_eB3, hle, h1, h2, i1]
  · have e19 : G19 std (encM l, encB g, ()) = some (chkB l g, ()) := by
      by_cases h0 : chk l = 0
      · obtain ⟨a, b, c⟩ := chk_card h0
        exact G19_ok a b g i2 (by omega) h0
      · exact G19_bad l g h0
    have e20 : G20 std (encM l, encB g, ()) = some (chkB l g, ()) := by
      by_cases h0 : chk l = 0
      · obtain ⟨a, b, c⟩ := chk_card h0
        exact G20_ok a b g i2 (by omega) h0
      · exact G20_bad l g h0
    simp only [need_eq, ask_eq, ret_eq, no_eq, bnd_eq, run_eq, alt_eq, std_len, std_ofNat, std_nat, std_add, std_sub, std_leN, std_eqN, std_and, std_app, std_cut, std_lss, std_leq, std_gtr, std_geq, std_eql, std_neq, std_rowOk, std_rdI, rdD, bif_eq, ofNat_eq, List.length_map, List.getElem?_map, Option.map_some, Option.bind_some, Option.bind_none, Int.toNat_natCast, decide_eq_true_eq, Sum.elim_inl, Sum.elim_inr, if_true, if_false, decide_true, decide_false, Bool.false_eq_true, encB_length, encB_get, cells_eB, dI_eB0, dI_eB1, dI_eB2, dI_eB3, hle, h1, h2, i1, e19, e20, G13_ok]
end Go.Am
end

section
set_option linter.unusedVariables false
set_option linter.unusedSimpArgs false
set_option linter.unusedSectionVars false
namespace Go.Am
open M08
theorem frac_scale {s w k : Int} (hk : 0 < k) : frac (s * k) (w * k) = frac s w := by
  unfold frac
  have e : ((Int.gcd (s * k) (w * k) : Nat) : Int) = (Int.gcd s w : Int) * k := by
    rw [Int.gcd_mul_right]
    have : ((k.natAbs : Nat) : Int) = k := Int.natAbs_of_nonneg (by omega)
    rw [Int.natCast_mul, this]
  rw [e, Int.mul_ediv_mul_of_pos_left _ _ hk, Int.mul_ediv_mul_of_pos_left _ _ hk]
theorem frac_eq {s w s' w' : Int} (hw : 0 < w) (hw' : 0 < w') (h : s * w' = s' * w) : frac s w = frac s' w' := by
  rw [← frac_scale (s := s) (w := w) hw', ← frac_scale (s := s') (w := w') hw, h, Int.mul_comm w w']
theorem lastB_keep {h : Int} : ∀ {r : List Blk} {a : Option Blk}, (∀ c ∈ r, h < c.1) → r.foldl (fun a b => if b.1 ≤ h then some b else a) a = a
  | [], a, _ => rfl
  | c :: r, a, hr => by
    rw [List.foldl_cons, if_neg (by have := hr c (List.mem_cons_self ..); omega)]
    exact lastB_keep fun c hc => hr c (List.mem_cons_of_mem _ hc)
theorem lastB_of {h : Int} {d r : List Blk} {b : Blk} (hb : b.1 ≤ h) (hr : ∀ c ∈ r, h < c.1) : lastB h (d ++ b :: r) = some b := by
  unfold lastB
  rw [List.foldl_append, List.foldl_cons, if_pos hb]
  exact lastB_keep hr
theorem pairs_after {W S : Nat → Int} : ∀ {d : List (Nat × Nat)} {p0 : Nat} {bs : List Nat} {p q : Nat} {r : List (Nat × Nat)}, Chain W S p0 bs → pairs p0 bs = d ++ (p, q) :: r → ∀ t ∈ r, q ≤ t.1
  | d, p0, [], p, q, r, h, e => by simp [pairs] at e
  | [], p0, q0 :: bs, p, q, r, h, e => by
    simp only [pairs, List.nil_append, List.cons.injEq, Prod.mk.injEq] at e
    obtain ⟨⟨rfl, rfl⟩, rfl⟩ := e
    exact fun t ht => (pairs_lt h.2.2.2 t ht).1
  | x :: d, p0, q0 :: bs, p, q, r, h, e => by
    simp only [pairs, List.cons_append, List.cons.injEq] at e
    exact pairs_after h.2.2.2 e.2
theorem in32 (a b c d : Int) : ∀ (x y : Nat), iter (b32_1 std) (a, b, c, d, (x : Int), (y : Int), ()) = some (a, b, c, d, ((Nat.gcd x y : Nat) : Int), ()) := by
  intro x y
  have key := iter_to (b := b32_1 std) (σ := Nat × Nat) (fun p => (a, b, c, d, (p.1 : Int), (p.2 : Int), ())) (fun _ => True) (fun p => p.2) (fun p => (a, b, c, d, ((Nat.gcd p.1 p.2 : Nat) : Int), ())) ?_ (x, y) trivial
  · exact key
  · rintro ⟨x, y⟩ _
    by_cases h : y = 0
    · right
      subst h
      simp only [b32_1, need_eq, ask_eq, ret_eq, no_eq, bnd_eq, run_eq, alt_eq, std_len, std_ofNat, std_nat, std_add, std_sub, std_leN, std_eqN, std_and, std_app, std_cut, std_lss, std_leq, std_gtr, std_geq, std_eql, std_neq, std_rowOk, std_rdI, rdD, bif_eq, ofNat_eq, List.length_map, List.getElem?_map, Option.map_some, Option.bind_some, Option.bind_none, Int.toNat_natCast, decide_eq_true_eq, Sum.elim_inl, Sum.elim_inr, if_true, if_false, decide_true, decide_false, Bool.false_eq_true, show ((0 : Nat) : Int) = 0 from rfl, Bool.not_true, Nat.gcd_zero_right]
    · left
      have h' : ¬ (y : Int) = 0 := by omega
      refine ⟨(y, x % y), ?_, trivial, Nat.mod_lt _ (by omega), ?_⟩
      · simp only [b32_1, need_eq, ask_eq, ret_eq, no_eq, bnd_eq, run_eq, alt_eq, std_len, std_ofNat, std_nat, std_add, std_sub, std_leN, std_eqN, std_and, std_app, std_cut, std_lss, std_leq, std_gtr, std_geq, std_eql, std_neq, std_rowOk, std_rdI, rdD, bif_eq, ofNat_eq, List.length_map, List.getElem?_map, Option.map_some, Option.bind_some, Option.bind_none, Int.toNat_natCast, decide_eq_true_eq, Sum.elim_inl, Sum.elim_inr, if_true, if_false, decide_true, decide_false, Bool.false_eq_true, h', Bool.not_false, std_ar_rem]
        rfl
      · simp only
        rw [Nat.gcd_comm x y, Nat.gcd_rec y x, Nat.gcd_comm]
theorem G32_ok (w s : Int) (hw : 0 < w) (hs : 0 ≤ s) (hw' : w ≤ 1000000000) (hs' : s ≤ 1000000000) : G32 std (s, w, ()) = some ((frac s w).1, (frac s w).2, ()) := by
  obtain ⟨w, rfl⟩ := Int.eq_ofNat_of_zero_le (Int.le_of_lt hw)
  obtain ⟨s, rfl⟩ := Int.eq_ofNat_of_zero_le hs
  have hg : 0 < Nat.gcd s w := Nat.gcd_pos_of_pos_right _ (by omega)
  have hg' : ¬ ((Nat.gcd s w : Nat) : Int) = 0 := by omega
  have hk : ∀ k : Nat, k ≤ 1000000000 → IntKind.i64.wrap (k : Int) = k := fun k hk => by rw [wrap64] <;> omega
  have e1 : IntKind.i64.wrap ((s : Int).tdiv (Nat.gcd s w : Int)) = (s : Int) / (Nat.gcd s w : Int) := by
    have h1 := Nat.div_le_self s (Nat.gcd s w)
    have : (s : Int).tdiv (Nat.gcd s w : Int) = ((s / Nat.gcd s w : Nat) : Int) := rfl
    rw [this, hk _ (Nat.le_trans h1 (by omega))]; rfl
  have e2 : IntKind.i64.wrap ((w : Int).tdiv (Nat.gcd s w : Int)) = (w : Int) / (Nat.gcd s w : Int) := by
    have h1 := Nat.div_le_self w (Nat.gcd s w)
    have : (w : Int).tdiv (Nat.gcd s w : Int) = ((w / Nat.gcd s w : Nat) : Int) := rfl
    rw [this, hk _ (Nat.le_trans h1 (by omega))]; rfl
  unfold G32
  simp only [need_eq, ask_eq, ret_eq, no_eq, bnd_eq, run_eq, alt_eq, std_len, std_ofNat, std_nat, std_add, std_sub, std_leN, std_eqN, std_and, std_app, std_cut, std_lss, std_leq, std_gtr, std_geq, std_eql, std_neq, std_rowOk, std_rdI, rdD, bif_eq, ofNat_eq, List.length_map, List.getElem?_map, Option.map_some, Option.bind_some, Option.bind_none, Int.toNat_natCast, decide_eq_true_eq, Sum.elim_inl, Sum.elim_inr, if_true, if_false, decide_true, decide_false, Bool.false_eq_true, in32, hg', Bool.not_false, std_ar_quo, e1, e2, frac, Int.gcd, Int.natAbs_natCast]
section
variable {l : List Mk} (hl : l.length ≤ 24) (hc : ∀ m ∈ l, okMk m)
include hl hc
theorem lim_lt {i j : Nat} (h : i < j) (hj : j < (hours l).length) : lim l i < lim l j :=
  get_lt (hours_get (show i < (hours l).length by omega)) (hours_get hj) h
theorem lim_le {i j : Nat} (h : i ≤ j) (hj : j < (hours l).length) : lim l i ≤ lim l j := by
  by_cases e : i = j
  · subst e; exact Int.le_refl _
  · exact Int.le_of_lt (lim_lt hl hc (by omega) hj)
theorem lastB_at {i : Nat} {h : Int} (hi : i < (hours l).length) (h1 : lim l i ≤ h) (h2 : i + 1 < (hours l).length → h < lim l (i + 1)) :
    ∃ t ∈ pairs 0 (brk l), t.1 ≤ i ∧ i < t.2 ∧ lastB h (pooled l) = some (mkB l t) := by
  obtain ⟨⟨p, q⟩, ht, ha, hb⟩ := block_of (show l.length ≤ 100000 by omega) hc hi
  refine ⟨(p, q), ht, ha, hb, ?_⟩
  obtain ⟨d, r, e⟩ := List.append_of_mem ht
  obtain ⟨c1, c2, c3⟩ := breaks_chain (W := cumW l) (S := cumS l) (cumW_mono hc)
  have haf := pairs_after c1 e
  rw [pooled_eq hc, e, List.map_append, List.map_cons]
  refine lastB_of (Int.le_trans (lim_le hl hc ha hi) h1) fun c hcm => ?_
  obtain ⟨t, htr, rfl⟩ := List.mem_map.1 hcm
  have h3 := haf t htr
  have htm : t ∈ pairs 0 (brk l) := by rw [e]; simp [htr]
  have h4 := pairs_lt c1 t htm
  have c2' : (brk l).getLastD 0 = (hours l).length := c2
  have h5 : t.2 ≤ (hours l).length := by have := h4.2.2; rw [show (breaks (cumW l) (cumS l) (hours l).length) = brk l from rfl, c2'] at this; exact this
  have h6 := h4.2.1
  simp only at hb h3
  have h7 := h2 (by omega)
  have h8 := lim_le hl hc (show i + 1 ≤ t.1 by omega) (by omega)
  show h < lim l t.1
  omega
theorem lastB_none {h : Int} (h1 : h < lim l 0) : lastB h (pooled l) = none := by
  unfold lastB
  refine lastB_keep fun c hcm => ?_
  obtain ⟨_, p, q, _, hpq, hq, rfl⟩ := pooled_pos hc hcm
  have := lim_le hl hc (Nat.zero_le p) (by omega)
  show h < lim l p
  omega
theorem in22 (V : List (List D)) (c1 c2 h : Int) (h0 : lim l 0 ≤ h) (hp : 0 < (hours l).length) :
    ∃ i : Nat, iter (b22_1 std) (rowsI (hours l), V, c1, c2, h, 0, ()) = some (V, c1, c2, (i : Int), ()) ∧ i < (hours l).length ∧ lim l i ≤ h ∧ (i + 1 < (hours l).length → h < lim l (i + 1)) := by
  have hn := hours_len l
  have hrl := rowsI_length (hours l)
  have key := iter_ev (b := b22_1 std) (σ := Nat) (fun i => (rowsI (hours l), V, c1, c2, h, (i : Int), ())) (fun i => i < (hours l).length ∧ lim l i ≤ h) (fun i => (hours l).length - i)
    (fun r => ∃ i : Nat, r = (V, c1, c2, (i : Int), ()) ∧ i < (hours l).length ∧ lim l i ≤ h ∧ (i + 1 < (hours l).length → h < lim l (i + 1))) ?_ 0 ⟨hp, h0⟩
  · obtain ⟨r, h1, i, rfl, h2⟩ := key
    exact ⟨i, h1, h2⟩
  · rintro i ⟨h1, h2⟩
    have hw := wrap_nat (i := i) (by omega)
    by_cases h3 : i + 1 < (hours l).length
    · have g1 : ((i + 1 : Nat) : Int) < (hours l).length := by omega
      have g2 : ((i + 1 : Nat) : Int) ≥ 0 := by omega
      have hg := hours_get (l := l) h3
      by_cases h4 : lim l (i + 1) ≤ h
      · left
        refine ⟨i + 1, ?_, ⟨h3, h4⟩, by omega⟩
        simp only [b22_1, need_eq, ask_eq, ret_eq, no_eq, bnd_eq, run_eq, alt_eq, std_len, std_ofNat, std_nat, std_add, std_sub, std_leN, std_eqN, std_and, std_app, std_cut, std_lss, std_leq, std_gtr, std_geq, std_eql, std_neq, std_rowOk, std_rdI, rdD, bif_eq, ofNat_eq, List.length_map, List.getElem?_map, Option.map_some, Option.bind_some, Option.bind_none, Int.toNat_natCast, decide_eq_true_eq, Sum.elim_inl, Sum.elim_inr, if_true, if_false, decide_true, decide_false, Bool.false_eq_true, List.length_cons, List.length_nil, Nat.zero_add, ite_self, hrl, std_ar_add, hw, g1, g2, rowsI_get, hg, cells_I, dI_I, dI_some, h4]
      · right
        refine ⟨_, ?_, i, rfl, h1, h2, fun _ => by omega⟩
        simp only [b22_1, need_eq, ask_eq, ret_eq, no_eq, bnd_eq, run_eq, alt_eq, std_len, std_ofNat, std_nat, std_add, std_sub, std_leN, std_eqN, std_and, std_app, std_cut, std_lss, std_leq, std_gtr, std_geq, std_eql, std_neq, std_rowOk, std_rdI, rdD, bif_eq, ofNat_eq, List.length_map, List.getElem?_map, Option.map_some, Option.bind_some, Option.bind_none, Int.toNat_natCast, decide_eq_true_eq, Sum.elim_inl, Sum.elim_inr, if_true, if_false, decide_true, decide_false, Bool.false_eq_true, List.length_cons, List.length_nil, Nat.zero_add, ite_self, hrl, std_ar_add, hw, g1, g2, rowsI_get, hg, cells_I, dI_I, dI_some, h4]
    · right
      have g1 : ¬ ((i + 1 : Nat) : Int) < (hours l).length := by omega
      refine ⟨_, ?_, i, rfl, h1, h2, fun h => absurd h h3⟩
      simp only [b22_1, need_eq, ask_eq, ret_eq, no_eq, bnd_eq, run_eq, alt_eq, std_len, std_ofNat, std_nat, std_add, std_sub, std_leN, std_eqN, std_and, std_app, std_cut, std_lss, std_leq, std_gtr, std_geq, std_eql, std_neq, std_rowOk, std_rdI, rdD, bif_eq, ofNat_eq, List.length_map, List.getElem?_map, Option.map_some, Option.bind_some, Option.bind_none, Int.toNat_natCast, decide_eq_true_eq, Sum.elim_inl, Sum.elim_inr, if_true, if_false, decide_true, decide_false, Bool.false_eq_true, List.length_cons, List.length_nil, Nat.zero_add, ite_self, hrl, std_ar_add, hw, g1]
end
theorem G22_ok (l : List Mk) (h : Int) : G22 std (encM l, h, ()) = some ((valB l h).1, (valB l h).2.1, (valB l h).2.2, ()) := by
  unfold G22 valB
  by_cases h0 : chk l = 0
  · obtain ⟨hl, hc, h1⟩ := chk_card h0
    have hl' : l.length ≤ 100000 := by omega
    have hn := hours_len l
    have hrl := rowsI_length (hours l)
    obtain ⟨v, h47, hv⟩ := G47_ok hl' hc
    have hvl := encB_length v
    have hpos := hours_pos h1
    by_cases ho : outOf 0 10000 h = true
    · rw [if_pos h0, if_pos ho]
      have : ¬ (0 ≤ h ∧ h ≤ 10000) := by
        intro hh
        unfold outOf at ho
        have := of_decide_eq_true ho
        omega
      by_cases q1 : h ≥ 0
      · have q2 : ¬ h ≤ 10000 := by omega
        simp only [need_eq, ask_eq, ret_eq, no_eq, bnd_eq, run_eq, alt_eq, std_len, std_ofNat, std_nat, std_add, std_sub, std_leN, std_eqN, std_and, std_app, std_cut, std_lss, std_leq, std_gtr, std_geq, std_eql, std_neq, std_rowOk, std_rdI, rdD, bif_eq, ofNat_eq, List.length_map, List.getElem?_map, Option.map_some, Option.bind_some, Option.bind_none, Int.toNat_natCast, decide_eq_true_eq, Sum.elim_inl, Sum.elim_inr, if_true, if_false, decide_true, decide_false, Bool.false_eq_true, G17_ok, h0, Bool.not_true, q1, q2, Bool.not_false]
      · simp only [need_eq, ask_eq, ret_eq, no_eq, bnd_eq, run_eq, alt_eq, std_len, std_ofNat, std_nat, std_add, std_sub, std_leN, std_eqN, std_and, std_app, std_cut, std_lss, std_leq, std_gtr, std_geq, std_eql, std_neq, std_rowOk, std_rdI, rdD, bif_eq, ofNat_eq, List.length_map, List.getElem?_map, Option.map_some, Option.bind_some, Option.bind_none, Int.toNat_natCast, decide_eq_true_eq, Sum.elim_inl, Sum.elim_inr, if_true, if_false, decide_true, decide_false, Bool.false_eq_true, G17_ok, h0, Bool.not_true, q1, Bool.not_false]
    · rw [if_pos h0, if_neg ho]
      have hr := outOf_false (by simpa using ho)
      have q1 : h ≥ 0 := hr.1
      have q2 : h ≤ 10000 := hr.2
      have hg0 := hours_get (l := l) hpos
      have q3 : (0 : Int) < (hours l).length := by omega
      have q4 : (0 : Int) ≥ 0 := by omega
      by_cases h2 : h < lim l 0
      · rw [lastB_none hl hc h2]
        simp only [need_eq, ask_eq, ret_eq, no_eq, bnd_eq, run_eq, alt_eq, std_len, std_ofNat, std_nat, std_add, std_sub, std_leN, std_eqN, std_and, std_app, std_cut, std_lss, std_leq, std_gtr, std_geq, std_eql, std_neq, std_rowOk, std_rdI, rdD, bif_eq, ofNat_eq, List.length_map, List.getElem?_map, Option.map_some, Option.bind_some, Option.bind_none, Int.toNat_natCast, decide_eq_true_eq, Sum.elim_inl, Sum.elim_inr, if_true, if_false, decide_true, decide_false, Bool.false_eq_true, List.length_cons, List.length_nil, Nat.zero_add, ite_self, G17_ok, h0, Bool.not_true, q1, q2, q3, q4, Bool.not_false, G28_ok l hl' hc, h47, hrl, Int.toNat_zero, rowsI_get, hg0, cells_I, dI_I, dI_some, h2]
      · obtain ⟨i, i1, i2, i3, i4⟩ := in22 hl hc (encB v) 0 0 h (by omega) hpos
        obtain ⟨t, ht, ha, hb, he⟩ := lastB_at hl hc i2 i3 i4
        obtain ⟨b, hb'⟩ := get_some (show i < v.length by rw [hv.1]; exact i2)
        have hbest := hv.2 i b hb'
        obtain ⟨bp, bm⟩ := isBest_mean hc i2 hbest ht ha hb
        have hsm := isBest_small hl' hc hbest
        obtain ⟨c1, c2, c3⟩ := breaks_chain (W := cumW l) (S := cumS l) (cumW_mono hc)
        have h4 := pairs_lt c1 t ht
        have c2' : (brk l).getLastD 0 = (hours l).length := c2
        have h5 : t.2 ≤ (hours l).length := by have := h4.2.2; rw [show (breaks (cumW l) (cumS l) (hours l).length) = brk l from rfl, c2'] at this; exact this
        have h6 := cumW_mono hc t.1 t.2 h4.2.1 h5
        have hf : frac b.2.2.2 b.2.2.1 = frac (mkB l t).2.2.2 (mkB l t).2.2.1 := frac_eq bp (show 0 < cumW l t.2 - cumW l t.1 by omega) bm
        have f1 : (i : Int) ≥ 0 := by omega
        have f2 : (i : Int) < v.length := by rw [hv.1]; omega
        rw [he]
        simp only [need_eq, ask_eq, ret_eq, no_eq, bnd_eq, run_eq, alt_eq, std_len, std_ofNat, std_nat, std_add, std_sub, std_leN, std_eqN, std_and, std_app, std_cut, std_lss, std_leq, std_gtr, std_geq, std_eql, std_neq, std_rowOk, std_rdI, rdD, bif_eq, ofNat_eq, List.length_map, List.getElem?_map, Option.map_some, Option.bind_some, Option.bind_none, Int.toNat_natCast, decide_eq_true_eq, Sum.elim_inl, Sum.elim_inr, if_true, if_false, decide_true, decide_false, Bool.false_eq_true, List.length_cons, List.length_nil, Nat.zero_add, ite_self, encB_length, encB_get, cells_eB, dI_eB0, dI_eB1, dI_eB2, dI_eB3, G17_ok, h0, Bool.not_true, q1, q2, q3, q4, Bool.not_false, G28_ok l hl' hc, h47, hrl, Int.toNat_zero, rowsI_get, hg0, cells_I, dI_I, dI_some, h2, i1, f1, f2, hb', G32_ok b.2.2.1 b.2.2.2 bp hsm.2.2.1 (by have := hsm.2.1; omega) (by have := hsm.2.2.2; omega), hf]
  · simp only [need_eq, ask_eq, ret_eq, no_eq, bnd_eq, run_eq, alt_eq, std_len, std_ofNat, std_nat, std_add, std_sub, std_leN, std_eqN, std_and, std_app, std_cut, std_lss, std_leq, std_gtr, std_geq, std_eql, std_neq, std_rowOk, std_rdI, rdD, bif_eq, ofNat_eq, List.length_map, List.getElem?_map, Option.map_some, Option.bind_some, Option.bind_none, Int.toNat_natCast, decide_eq_true_eq, Sum.elim_inl, Sum.elim_inr, if_true, if_false, decide_true, decide_false, Bool.false_eq_true, G17_ok, h0, Bool.not_false]
end Go.Am
end
