/-
  What the printed functions compute: labels of shades that truly reach a limit.
-/
import Derived.Test.YtnmgimjamahalaaSm
import Derived.Test.YtnmgimjamahalaaGr
section
set_option linter.unusedVariables false
set_option linter.unusedSimpArgs false
set_option linter.unusedSectionVars false
namespace Go.Am
open M08
def encT (l : List Int) : List (List D) := l.map fun n => [D.int .u32 n]
theorem encT_length (l : List Int) : (encT l).length = l.length := by simp [encT]
theorem encT_get (l : List Int) (i : Nat) : (encT l)[i]? = (l[i]?).map fun n => [D.int .u32 n] := by simp [encT]
theorem cells_T32 (x : Int) : cellsOk [CK.int IntKind.u32] [D.int .u32 x] = true := rfl
theorem dI_T32 (x : Int) : dI ([D.int .u32 x][0]?.getD D.nilp) = x := rfl
theorem dI_someT32 (x : Int) : dI ((some (D.int .u32 x)).getD D.nilp) = x := rfl
def span (r : Int × Int) : Prop := 0 ≤ r.1 ∧ r.1 ≤ 10000 ∧ r.1 < r.2 ∧ r.2 ≤ 1073741824
theorem reach_chain {l : List Mk} (hl : l.length ≤ 24) (hc : ∀ m ∈ l, okMk m) {k : Int} {W S : Nat → Int} : ∀ (bs : List Nat) (p : Nat) (a : Int), Chain W S p bs → bs.getLastD p ≤ (hours l).length → 0 ≤ a → a ≤ 10000 →
    (∀ q2, bs.head? = some q2 → a < lim l p) → span (reachB k a ((pairs p bs).map (mkB l)))
  | [], p, a, h, e, a0, a1, ha => ⟨a0, a1, by show a < 1073741824; omega, Int.le_refl _⟩
  | q :: bs, p, a, h, e, a0, a1, ha => by
    rw [getLastD_cons] at e
    have hq : q ≤ bs.getLastD q := chain_last h.2.2.2
    have hpq := h.1
    have hp := hour_range hc (List.mem_of_getElem? (hours_get (l := l) (show p < (hours l).length by omega)))
    have hq1 := hour_range hc (List.mem_of_getElem? (hours_get (l := l) (show q - 1 < (hours l).length by omega)))
    show span (reachB k a (mkB l (p, q) :: (pairs q bs).map (mkB l)))
    rw [reachB]
    split
    · have := ha q rfl
      exact ⟨a0, a1, this, by show lim l p ≤ _; omega⟩
    · refine reach_chain hl hc bs q (lim l (q - 1)) h.2.2.2 e (by omega) hq1.2 fun q2 h2 => ?_
      match bs, h2, h, e with
      | q3 :: bs, h2, h, e =>
        have h3 := h.2.2.2.1
        rw [getLastD_cons] at e
        have h4 : q3 ≤ bs.getLastD q3 := chain_last h.2.2.2.2.2.2
        exact lim_lt hl hc (by omega) (by omega)
theorem reach_span {l : List Mk} (hl : l.length ≤ 24) (hc : ∀ m ∈ l, okMk m) (k : Int) : span (reachOf l k) := by
  unfold reachOf
  rw [pooled_eq hc]
  obtain ⟨c1, c2, c3⟩ := breaks_chain (W := cumW l) (S := cumS l) (cumW_mono hc)
  have c2' : (brk l).getLastD 0 = (hours l).length := c2
  refine reach_chain hl hc (brk l) 0 0 c1 (by omega) (by omega) (by omega) fun q h => ?_
  have hpos : 0 < (hours l).length := by
    have c1' : Chain (cumW l) (cumS l) 0 (brk l) := c1
    generalize brk l = bs at h c1' c2'
    match bs, h, c1', c2' with
    | q1 :: bs, h, c1', c2' =>
      rw [getLastD_cons] at c2'
      have := chain_last c1'.2.2.2
      have := c1'.1
      omega
  have := hour_range hc (List.mem_of_getElem? (hours_get (l := l) hpos))
  omega
theorem rchB_in {w : List Mk} {k : Int} (h0 : chk w = 0) (h1 : 1 ≤ k) (h2 : k ≤ 100) : rchB w k = ((reachOf w k).1, (reachOf w k).2, 0) := by
  unfold rchB
  rw [if_pos h0, if_neg]
  unfold outOf
  intro h
  have := of_decide_eq_true h
  omega
theorem G35_ok {w : List Mk} (h0 : chk w = 0) {k : Int} (k1 : 1 ≤ k) (k2 : k ≤ 100) (bs : List Int) (hb : ∀ x ∈ bs, 0 ≤ x ∧ x ≤ 4294967295) (hbl : bs.length ≤ 1000) (i : Nat) (hi : i ≤ 1000) :
    ∃ T : Int, G35 std (encM w, k, encT bs, (i : Int), ()) = some (T, true, ()) ∧ 1000 * (reachOf w k).1 < T ∧ T ≤ 1000 * (reachOf w k).2 := by
  obtain ⟨wl, wc, _⟩ := chk_card h0
  have hr := rchB_in h0 k1 k2
  obtain ⟨s1, s2, s3, s4⟩ := reach_span wl wc k
  generalize (reachOf w k).1 = A at *
  generalize (reachOf w k).2 = Y at *
  obtain ⟨M, hM⟩ := Int.eq_ofNat_of_zero_le (show 0 ≤ 1000 * (Y - A) by omega)
  have e1 : IntKind.i64.wrap (Y - A) = Y - A := by rw [wrap64] <;> omega
  have e2 : IntKind.i64.wrap (1000 * (Y - A)) = (M : Int) := by rw [hM, wrap64] <;> omega
  have e3 : IntKind.i64.wrap (1000 * A) = 1000 * A := by rw [wrap64] <;> omega
  have e4 : IntKind.i64.wrap (1000 * A + 1) = 1000 * A + 1 := by rw [wrap64] <;> omega
  have z0 : ¬ A < 0 := by omega
  have z1 : ¬ A > 10000 := by omega
  have z2 : ¬ Y ≤ A := by omega
  have z3 : ¬ Y > 1073741824 := by omega
  have zM : ¬ (M : Int) = 0 := by omega
  have fin : ∀ n : Nat, IntKind.i64.wrap (1000 * A + 1 + (n : Int).tmod (M : Int)) = 1000 * A + 1 + (n : Int).tmod (M : Int) ∧ 1000 * A < 1000 * A + 1 + (n : Int).tmod (M : Int) ∧ 1000 * A + 1 + (n : Int).tmod (M : Int) ≤ 1000 * Y := fun n => by
    have hm : (n : Int).tmod (M : Int) = ((n % M : Nat) : Int) := rfl
    have hlt : n % M < M := Nat.mod_lt _ (by omega)
    rw [hm]
    refine ⟨by rw [wrap64] <;> omega, by omega, by omega⟩
  by_cases hbz : bs.length = 0
  · have z : ¬ ((bs.length : Nat) : Int) > 0 := by omega
    have f := fin 0
    refine ⟨1000 * A + 1 + (((0 : Nat) : Int)).tmod (M : Int), ?_, f.2.1, f.2.2⟩
    have f1 := f.1
    simp only [show (((0 : Nat)) : Int) = 0 from rfl] at f1 ⊢
    unfold G35
    simp only [need_eq, ask_eq, ret_eq, no_eq, bnd_eq, run_eq, alt_eq, std_len, std_ofNat, std_nat, std_add, std_sub, std_leN, std_eqN, std_and, std_app, std_cut, std_lss, std_leq, std_gtr, std_geq, std_eql, std_neq, std_rowOk, std_rdI, rdD, bif_eq, ofNat_eq, List.length_map, List.getElem?_map, Option.map_some, Option.bind_some, Option.bind_none, Int.toNat_natCast, decide_eq_true_eq, Sum.elim_inl, Sum.elim_inr, if_true, if_false, decide_true, decide_false, Bool.false_eq_true, G23_ok, hr, Bool.not_true, z0, z1, z2, z3, encT_length, z, std_ar_sub, std_ar_mul, std_ar_add, std_ar_rem, e1, e2, e3, e4, zM, Bool.not_false, f1]
  · have z : ((bs.length : Nat) : Int) > 0 := by omega
    have z' : ¬ ((bs.length : Nat) : Int) = 0 := by omega
    have hm : (i : Int).tmod (bs.length : Int) = ((i % bs.length : Nat) : Int) := rfl
    have hml : i % bs.length < bs.length := Nat.mod_lt _ (by omega)
    obtain ⟨x, hx⟩ := get_some hml
    have hxb := hb x (List.mem_of_getElem? hx)
    obtain ⟨n, rfl⟩ := Int.eq_ofNat_of_zero_le hxb.1
    have hcv : IntKind.i64.wrap (n : Int) = n := by rw [wrap64] <;> omega
    have f1 : ((i % bs.length : Nat) : Int) ≥ 0 := by omega
    have f2 : ((i % bs.length : Nat) : Int) < bs.length := by omega
    have f := fin n
    refine ⟨1000 * A + 1 + (n : Int).tmod (M : Int), ?_, f.2.1, f.2.2⟩
    unfold G35
    simp only [need_eq, ask_eq, ret_eq, no_eq, bnd_eq, run_eq, alt_eq, std_len, std_ofNat, std_nat, std_add, std_sub, std_leN, std_eqN, std_and, std_app, std_cut, std_lss, std_leq, std_gtr, std_geq, std_eql, std_neq, std_rowOk, std_rdI, rdD, bif_eq, ofNat_eq, List.length_map, List.getElem?_map, Option.map_some, Option.bind_some, Option.bind_none, Int.toNat_natCast, decide_eq_true_eq, Sum.elim_inl, Sum.elim_inr, if_true, if_false, decide_true, decide_false, Bool.false_eq_true, G23_ok, hr, Bool.not_true, z0, z1, z2, z3, encT_length, encT_get, z, z', hm, hx, f1, f2, cells_T32, dI_T32, dI_someT32, std_cvt, hcv, std_ar_sub, std_ar_mul, std_ar_add, std_ar_rem, e1, e2, e3, e4, zM, Bool.not_false, f.1]
theorem cntW_mono {f g : List Mk → Bool} : ∀ {ws : List (List Mk)}, (∀ w ∈ ws, f w = true → g w = true) → cntW f ws ≤ cntW g ws
  | [], _ => Nat.le_refl _
  | w :: ws, h => by
    have h1 := cntW_mono (f := f) (g := g) (ws := ws) fun x hx => h x (List.mem_cons_of_mem _ hx)
    have h2 := h w (List.mem_cons_self ..)
    unfold cntW at *
    rw [List.filter_cons, List.filter_cons]
    cases hf : f w with
    | false => cases g w <;> simp <;> omega
    | true => simp [h2 hf]; omega
theorem G27_ok'' (l : List Mk) : G27 std (encM l, ()) = some (decide (chk l = 0), ()) := by
  unfold G27
  simp only [need_eq, ask_eq, ret_eq, no_eq, bnd_eq, run_eq, alt_eq, std_len, std_ofNat, std_nat, std_add, std_sub, std_leN, std_eqN, std_and, std_app, std_cut, std_lss, std_leq, std_gtr, std_geq, std_eql, std_neq, std_rowOk, std_rdI, rdD, bif_eq, ofNat_eq, List.length_map, List.getElem?_map, Option.map_some, Option.bind_some, Option.bind_none, Int.toNat_natCast, decide_eq_true_eq, Sum.elim_inl, Sum.elim_inr, if_true, if_false, decide_true, decide_false, Bool.false_eq_true, G17_ok]
theorem in11_1 (R X B : List (List D)) (ws : List (List Mk)) (hR : IsW R ws) (hl : ws.length ≤ 1000000) (k : Int) :
    ∃ r, iter (b11_1 std) (R, X, k, B, 0, ()) = some r ∧ (r = Sum.inl (true, ()) ∨ (r = Sum.inr (R, X, k, B, ()) ∧ ∀ w ∈ ws, chk w = 0)) := by
  have hRl := hR.1
  have key := iter_count (b := b11_1 std) ws.length (fun (_ : Unit) i => (R, X, k, B, (i : Int), ())) (fun _ i => ∀ (j : Nat) (w : List Mk), j < i → ws[j]? = some w → chk w = 0) (fun r => r = Sum.inl (true, ()) ∨ (r = Sum.inr (R, X, k, B, ()) ∧ ∀ w ∈ ws, chk w = 0)) ?_ ?_ () 0 (Nat.zero_le _) (fun j w h => by omega)
  · exact key
  · rintro _ i hi hI
    obtain ⟨w, hb⟩ := get_some hi
    have hw := wrap_nat (i := i) (by omega)
    have g1 : (i : Int) < ws.length := by omega
    obtain ⟨r0, hr0, hr1, hr2⟩ := hR.2 i w hb
    have g2 : (i : Int) ≥ 0 := by omega
    have hr : std.rdL R i 0 = encM w := by simp [std_rdL, rdD, hr0, hr2]
    by_cases h : chk w = 0
    · left
      refine ⟨(), ?_, fun j x hj hx => ?_⟩
      · simp only [b11_1, need_eq, ask_eq, ret_eq, no_eq, bnd_eq, run_eq, alt_eq, std_len, std_ofNat, std_nat, std_add, std_sub, std_leN, std_eqN, std_and, std_app, std_cut, std_lss, std_leq, std_gtr, std_geq, std_eql, std_neq, std_rowOk, std_rdI, rdD, bif_eq, ofNat_eq, List.length_map, List.getElem?_map, Option.map_some, Option.bind_some, Option.bind_none, Int.toNat_natCast, decide_eq_true_eq, Sum.elim_inl, Sum.elim_inr, if_true, if_false, decide_true, decide_false, Bool.false_eq_true, hRl, g1, g2, hr, hr0, hr1, G27_ok'', h, Bool.not_true, std_ar_add, hw]
      · by_cases e : j = i
        · subst e; rw [hb] at hx; cases hx; exact h
        · exact hI j x (by omega) hx
    · right
      refine ⟨_, ?_, .inl rfl⟩
      simp only [b11_1, need_eq, ask_eq, ret_eq, no_eq, bnd_eq, run_eq, alt_eq, std_len, std_ofNat, std_nat, std_add, std_sub, std_leN, std_eqN, std_and, std_app, std_cut, std_lss, std_leq, std_gtr, std_geq, std_eql, std_neq, std_rowOk, std_rdI, rdD, bif_eq, ofNat_eq, List.length_map, List.getElem?_map, Option.map_some, Option.bind_some, Option.bind_none, Int.toNat_natCast, decide_eq_true_eq, Sum.elim_inl, Sum.elim_inr, if_true, if_false, decide_true, decide_false, Bool.false_eq_true, hRl, g1, g2, hr, hr0, hr1, G27_ok'', h, Bool.not_false, G13_ok]
  · rintro _ hI
    refine ⟨_, ?_, .inr ⟨rfl, fun w hw => ?_⟩⟩
    · simp only [b11_1, need_eq, ask_eq, ret_eq, no_eq, bnd_eq, run_eq, alt_eq, std_len, std_ofNat, std_nat, std_add, std_sub, std_leN, std_eqN, std_and, std_app, std_cut, std_lss, std_leq, std_gtr, std_geq, std_eql, std_neq, std_rowOk, std_rdI, rdD, bif_eq, ofNat_eq, List.length_map, List.getElem?_map, Option.map_some, Option.bind_some, Option.bind_none, Int.toNat_natCast, decide_eq_true_eq, Sum.elim_inl, Sum.elim_inr, if_true, if_false, decide_true, decide_false, Bool.false_eq_true, hRl, Int.lt_irrefl]
    · obtain ⟨j, hj⟩ := List.getElem?_of_mem hw
      obtain ⟨h1, _⟩ := List.getElem?_eq_some_iff.1 hj
      exact hI j w h1 hj
theorem in11_2 (lo hi : Int) (R : List (List D)) (ws : List (List Mk)) (hR : IsW R ws) (hl : ws.length ≤ 100) (hv : ∀ w ∈ ws, chk w = 0) (bs : List Int) (hb : ∀ x ∈ bs, 0 ≤ x ∧ x ≤ 4294967295) (hbl : bs.length ≤ 1000)
    {k : Int} (k1 : 1 ≤ k) (k2 : k ≤ 100) (o : Int × Int) (ho : o.1 < o.2) (own : Int) (h1 : 1000 * o.1 < own) (h2 : own ≤ 1000 * o.2) :
    ∃ m : Nat, iter (b11_2 std) (lo, hi, R, encT bs, k, own, 0, 0, ()) = some (Sum.inr (lo, hi, (m : Int), ())) ∧ cntW (loW o k) ws ≤ m ∧ m ≤ cntW (hiW o k) ws := by
  have hRl := hR.1
  have key := iter_count (b := b11_2 std) ws.length (fun (m : Nat) i => (lo, hi, R, encT bs, k, own, (m : Int), (i : Int), ())) (fun m i => m ≤ i ∧ cntW (loW o k) (ws.take i) ≤ m ∧ m ≤ cntW (hiW o k) (ws.take i))
    (fun r => ∃ m : Nat, r = Sum.inr (lo, hi, (m : Int), ()) ∧ cntW (loW o k) ws ≤ m ∧ m ≤ cntW (hiW o k) ws) ?_ ?_ 0 0 (Nat.zero_le _) ⟨Nat.le_refl _, by simp [cntW], by simp [cntW]⟩
  · obtain ⟨r, i1, m, rfl, i2⟩ := key
    exact ⟨m, i1, i2⟩
  · rintro m i hi' ⟨m0, m1, m2⟩
    left
    obtain ⟨w, hbw⟩ := get_some hi'
    have hw := wrap_nat (i := i) (by omega)
    have hm := wrap_nat (i := m) (by omega)
    have g1 : (i : Int) < ws.length := by omega
    obtain ⟨r0, hr0, hr1, hr2⟩ := hR.2 i w hbw
    have g2 : (i : Int) ≥ 0 := by omega
    have hr : std.rdL R i 0 = encM w := by simp [std_rdL, rdD, hr0, hr2]
    have h0 := hv w (List.mem_of_getElem? hbw)
    obtain ⟨T, t1, t2, t3⟩ := G35_ok h0 k1 k2 bs hb hbl (i + 1) (by omega)
    have hrc := rchB_in h0 k1 k2
    have c1 := cntW_take (f := loW o k) hbw
    have c2 := cntW_take (f := hiW o k) hbw
    by_cases hT : T ≤ own
    · refine ⟨m + 1, ?_, by omega, ?_, ?_⟩
      · simp only [b11_2, need_eq, ask_eq, ret_eq, no_eq, bnd_eq, run_eq, alt_eq, std_len, std_ofNat, std_nat, std_add, std_sub, std_leN, std_eqN, std_and, std_app, std_cut, std_lss, std_leq, std_gtr, std_geq, std_eql, std_neq, std_rowOk, std_rdI, rdD, bif_eq, ofNat_eq, List.length_map, List.getElem?_map, Option.map_some, Option.bind_some, Option.bind_none, Int.toNat_natCast, decide_eq_true_eq, Sum.elim_inl, Sum.elim_inr, if_true, if_false, decide_true, decide_false, Bool.false_eq_true, hRl, g1, g2, hr, hr0, hr1, std_ar_add, hw, t1, Bool.not_true, hT, hm]
      · rw [c1]; split <;> omega
      · have : hiW o k w = true := by
          unfold hiW
          rw [hrc]
          exact decide_eq_true (by show (reachOf w k).1 < o.2; omega)
        rw [c2, if_pos this]; omega
    · refine ⟨m, ?_, by omega, ?_, ?_⟩
      · simp only [b11_2, need_eq, ask_eq, ret_eq, no_eq, bnd_eq, run_eq, alt_eq, std_len, std_ofNat, std_nat, std_add, std_sub, std_leN, std_eqN, std_and, std_app, std_cut, std_lss, std_leq, std_gtr, std_geq, std_eql, std_neq, std_rowOk, std_rdI, rdD, bif_eq, ofNat_eq, List.length_map, List.getElem?_map, Option.map_some, Option.bind_some, Option.bind_none, Int.toNat_natCast, decide_eq_true_eq, Sum.elim_inl, Sum.elim_inr, if_true, if_false, decide_true, decide_false, Bool.false_eq_true, hRl, g1, g2, hr, hr0, hr1, std_ar_add, hw, t1, Bool.not_true, hT]
      · have : ¬ loW o k w = true := by
          unfold loW
          rw [hrc]
          intro h
          have : (reachOf w k).2 ≤ o.1 := of_decide_eq_true h
          omega
        rw [c1, if_neg this]; omega
      · rw [c2]; split <;> omega
  · rintro m ⟨m0, m1, m2⟩
    rw [List.take_length] at m1 m2
    refine ⟨_, ?_, m, rfl, m1, m2⟩
    simp only [b11_2, need_eq, ask_eq, ret_eq, no_eq, bnd_eq, run_eq, alt_eq, std_len, std_ofNat, std_nat, std_add, std_sub, std_leN, std_eqN, std_and, std_app, std_cut, std_lss, std_leq, std_gtr, std_geq, std_eql, std_neq, std_rowOk, std_rdI, rdD, bif_eq, ofNat_eq, List.length_map, List.getElem?_map, Option.map_some, Option.bind_some, Option.bind_none, Int.toNat_natCast, decide_eq_true_eq, Sum.elim_inl, Sum.elim_inr, if_true, if_false, decide_true, decide_false, Bool.false_eq_true, hRl, Int.lt_irrefl]
theorem firstBad_of : ∀ {ws : List (List Mk)}, (∀ w ∈ ws, chk w = 0) → firstBad ws = 0
  | [], _ => rfl
  | w :: ws, h => by
    rw [firstBad, if_pos (h w (List.mem_cons_self ..))]
    exact firstBad_of fun x hx => h x (List.mem_cons_of_mem _ hx)
theorem G11_ok (R : List (List D)) (ws : List (List Mk)) (hR : IsW R ws) (l : List Mk) (y : Int) (hy : 0 ≤ y ∧ y ≤ 255) (bs : List Int) (hb : ∀ x ∈ bs, 0 ≤ x ∧ x ≤ 4294967295) : G11 std (R, encM l, y, encT bs, ()) = some (true, ()) := by
  have hRl := hR.1
  unfold G11
  by_cases h8 : ((ws.length : Nat) : Int) > 8
  · simp only [need_eq, ask_eq, ret_eq, no_eq, bnd_eq, run_eq, alt_eq, std_len, std_ofNat, std_nat, std_add, std_sub, std_leN, std_eqN, std_and, std_app, std_cut, std_lss, std_leq, std_gtr, std_geq, std_eql, std_neq, std_rowOk, std_rdI, rdD, bif_eq, ofNat_eq, List.length_map, List.getElem?_map, Option.map_some, Option.bind_some, Option.bind_none, Int.toNat_natCast, decide_eq_true_eq, Sum.elim_inl, Sum.elim_inr, if_true, if_false, decide_true, decide_false, Bool.false_eq_true, hRl, h8, G13_ok]
  by_cases h0 : chk l = 0
  · by_cases h20 : ((bs.length : Nat) : Int) > 20
    · simp only [need_eq, ask_eq, ret_eq, no_eq, bnd_eq, run_eq, alt_eq, std_len, std_ofNat, std_nat, std_add, std_sub, std_leN, std_eqN, std_and, std_app, std_cut, std_lss, std_leq, std_gtr, std_geq, std_eql, std_neq, std_rowOk, std_rdI, rdD, bif_eq, ofNat_eq, List.length_map, List.getElem?_map, Option.map_some, Option.bind_some, Option.bind_none, Int.toNat_natCast, decide_eq_true_eq, Sum.elim_inl, Sum.elim_inr, if_true, if_false, decide_true, decide_false, Bool.false_eq_true, hRl, h8, G27_ok'', h0, Bool.not_true, encT_length, h20, G13_ok]
    obtain ⟨hl, hc, _⟩ := chk_card h0
    obtain ⟨r, i1, rfl | ⟨rfl, i2⟩⟩ := in11_1 R (encM l) (encT bs) ws hR (by omega) y
    · simp only [need_eq, ask_eq, ret_eq, no_eq, bnd_eq, run_eq, alt_eq, std_len, std_ofNat, std_nat, std_add, std_sub, std_leN, std_eqN, std_and, std_app, std_cut, std_lss, std_leq, std_gtr, std_geq, std_eql, std_neq, std_rowOk, std_rdI, rdD, bif_eq, ofNat_eq, List.length_map, List.getElem?_map, Option.map_some, Option.bind_some, Option.bind_none, Int.toNat_natCast, decide_eq_true_eq, Sum.elim_inl, Sum.elim_inr, if_true, if_false, decide_true, decide_false, Bool.false_eq_true, hRl, h8, G27_ok'', h0, Bool.not_true, encT_length, h20, i1]
    · obtain ⟨n, rfl⟩ := Int.eq_ofNat_of_zero_le hy.1
      have hcv : IntKind.i64.wrap (n : Int) = n := by rw [wrap64] <;> omega
      have hm : (n : Int).tmod 100 = ((n % 100 : Nat) : Int) := rfl
      have hlt : n % 100 < 100 := Nat.mod_lt _ (by omega)
      obtain ⟨k, hk⟩ : ∃ k : Int, k = 1 + ((n % 100 : Nat) : Int) := ⟨_, rfl⟩
      have hkw : IntKind.i64.wrap (1 + ((n % 100 : Nat) : Int)) = k := by rw [← hk, wrap64] <;> omega
      have k1 : 1 ≤ k := by omega
      have k2 : k ≤ 100 := by omega
      have hrc := rchB_in h0 k1 k2
      have hsp := reach_span hl hc k
      obtain ⟨T, t1, t2, t3⟩ := G35_ok h0 k1 k2 bs hb (by omega) 0 (by omega)
      have t1 : G35 std (encM l, k, encT bs, 0, ()) = some (T, true, ()) := t1
      have h25 := G25_ok R ws hR l k
      have hlb : lblB ws l k = (((cntW (loW ((reachOf l k).1, (reachOf l k).2) k) ws : Nat) : Int), ((cntW (hiW ((reachOf l k).1, (reachOf l k).2) k) ws : Nat) : Int), 0) := by
        unfold lblB
        rw [if_neg (show ¬ ws.length > 8 by omega), if_pos (firstBad_of i2), hrc, if_pos rfl]
      rw [hlb] at h25
      obtain ⟨m, m1, m2, m3⟩ := in11_2 ((cntW (loW ((reachOf l k).1, (reachOf l k).2) k) ws : Nat) : Int) ((cntW (hiW ((reachOf l k).1, (reachOf l k).2) k) ws : Nat) : Int) R ws hR (by omega) i2 bs hb (by omega) k1 k2 ((reachOf l k).1, (reachOf l k).2) hsp.2.2.1 T t2 t3
      have hle : cntW (loW ((reachOf l k).1, (reachOf l k).2) k) ws ≤ cntW (hiW ((reachOf l k).1, (reachOf l k).2) k) ws := Nat.le_trans m2 m3
      have hle2 : cntW (hiW ((reachOf l k).1, (reachOf l k).2) k) ws ≤ ws.length := cntW_le
      generalize cntW (loW ((reachOf l k).1, (reachOf l k).2) k) ws = lo at *
      generalize cntW (hiW ((reachOf l k).1, (reachOf l k).2) k) ws = hi at *
      have z1 : ¬ ((lo : Nat) : Int) < 0 := by omega
      have z2 : ¬ ((lo : Nat) : Int) > ((hi : Nat) : Int) := by omega
      have z3 : ¬ ((hi : Nat) : Int) > ((ws.length : Nat) : Int) := by omega
      have z4 : ((m : Nat) : Int) ≥ ((lo : Nat) : Int) := by omega
      have z5 : ((m : Nat) : Int) ≤ ((hi : Nat) : Int) := by omega
      simp only [need_eq, ask_eq, ret_eq, no_eq, bnd_eq, run_eq, alt_eq, std_len, std_ofNat, std_nat, std_add, std_sub, std_leN, std_eqN, std_and, std_app, std_cut, std_lss, std_leq, std_gtr, std_geq, std_eql, std_neq, std_rowOk, std_rdI, rdD, bif_eq, ofNat_eq, List.length_map, List.getElem?_map, Option.map_some, Option.bind_some, Option.bind_none, Int.toNat_natCast, decide_eq_true_eq, Sum.elim_inl, Sum.elim_inr, if_true, if_false, decide_true, decide_false, Bool.false_eq_true, hRl, h8, G27_ok'', h0, Bool.not_true, encT_length, h20, i1, show ¬ (100 : Int) = 0 by omega, Bool.not_false, std_cvt, hcv, std_ar_rem, hm, std_ar_add, hkw, h25, t1, z1, z2, z3, m1, z4, z5, G13_ok]
  · simp only [need_eq, ask_eq, ret_eq, no_eq, bnd_eq, run_eq, alt_eq, std_len, std_ofNat, std_nat, std_add, std_sub, std_leN, std_eqN, std_and, std_app, std_cut, std_lss, std_leq, std_gtr, std_geq, std_eql, std_neq, std_rowOk, std_rdI, rdD, bif_eq, ofNat_eq, List.length_map, List.getElem?_map, Option.map_some, Option.bind_some, Option.bind_none, Int.toNat_natCast, decide_eq_true_eq, Sum.elim_inl, Sum.elim_inr, if_true, if_false, decide_true, decide_false, Bool.false_eq_true, hRl, h8, G27_ok'', h0, Bool.not_false, G13_ok]
end Go.Am
end
