/-
  What the printed functions compute: marks in another order, split, and raised.
-/
import Derived.Test.YtnmgimjamahalaaSm
import Derived.Test.YtnmgimjamahalaaGp
section
set_option linter.unusedVariables false
set_option linter.unusedSimpArgs false
set_option linter.unusedSectionVars false
namespace Go.Am
open M08
theorem encM_get (l : List Mk) (i : Nat) : (encM l)[i]? = (l[i]?).map eM := by simp [encM]
theorem encM_snoc (l : List Mk) (a b c : Int) : encM l ++ [[D.int .i64 a, D.int .i64 b, D.int .i64 c]] = encM (l ++ [(a, b, c)]) := by simp [encM, eM]
def Same (l l' : List Mk) : Prop := (∀ x, (∃ m ∈ l, m.1 = x) ↔ ∃ m ∈ l', m.1 = x) ∧ ∀ c, sumP fw c l = sumP fw c l' ∧ sumP fs c l = sumP fs c l'
theorem Same.hours {l l' : List Mk} (h : Same l l') : hours l = hours l' :=
  sorted_unique (hours_sorted l) (hours_sorted l') fun x => by rw [mem_hours, mem_hours]; exact h.1 x
theorem Same.pooled {l l' : List Mk} (h : Same l l') : pooled l = pooled l' := by
  unfold M08.pooled singles
  rw [h.hours]
  congr 2
  apply List.map_congr_left
  intro x _
  unfold blk
  rw [(h.2 _).1, (h.2 _).2]
theorem Same.perm {l l' : List Mk} (h : l.Perm l') : Same l l' :=
  ⟨fun x => ⟨fun ⟨m, a, b⟩ => ⟨m, h.mem_iff.1 a, b⟩, fun ⟨m, a, b⟩ => ⟨m, h.mem_iff.2 a, b⟩⟩, fun c => ⟨sumP_perm h, sumP_perm h⟩⟩
theorem Same.trans {l l' l'' : List Mk} (h : Same l l') (h' : Same l' l'') : Same l l'' :=
  ⟨fun x => (h.1 x).trans (h'.1 x), fun c => ⟨(h.2 c).1.trans (h'.2 c).1, (h.2 c).2.trans (h'.2 c).2⟩⟩
theorem Same.split {l : List Mk} {k : Nat} {h g w u : Int} (hk : l[k]? = some (h, g, w)) : Same (l.set k (h, g, w - u) ++ [(h, g, u)]) l := by
  obtain ⟨hk1, hk2⟩ := List.getElem?_eq_some_iff.1 hk
  have e1 : l.set k (h, g, w - u) = l.take k ++ (h, g, w - u) :: l.drop (k + 1) := by rw [List.set_eq_take_append_cons_drop, if_pos hk1]
  have e2 : l = l.take k ++ (h, g, w) :: l.drop (k + 1) := by
    rw [← hk2, List.getElem_cons_drop hk1, List.take_append_drop]
  refine ⟨fun x => ?_, fun c => ?_⟩
  · rw [e1]
    conv => rhs; rw [e2]
    simp only [List.mem_append, List.mem_cons, List.not_mem_nil, or_false]
    constructor
    · rintro ⟨m, ((hm | rfl | hm) | rfl), rfl⟩
      · exact ⟨m, .inl hm, rfl⟩
      · exact ⟨(h, g, w), .inr (.inl rfl), rfl⟩
      · exact ⟨m, .inr (.inr hm), rfl⟩
      · exact ⟨(h, g, w), .inr (.inl rfl), rfl⟩
    · rintro ⟨m, (hm | rfl | hm), rfl⟩
      · exact ⟨m, .inl (.inl hm), rfl⟩
      · exact ⟨(h, g, w - u), .inl (.inr (.inl rfl)), rfl⟩
      · exact ⟨m, .inl (.inr (.inr hm)), rfl⟩
  · have key : ∀ f : Mk → Int, f (h, g, w - u) + f (h, g, u) = f (h, g, w) → sumP f c (l.set k (h, g, w - u) ++ [(h, g, u)]) = sumP f c l := fun f hf => by
      rw [e1]
      conv => rhs; rw [e2]
      simp only [sumP_append, sumP]
      split <;> omega
    refine ⟨key fw (by unfold fw; simp only; omega), key fs ?_⟩
    unfold fs
    simp only
    rw [← Int.mul_add]
    congr 1
    omega
def raised (d : Int) (l : List Mk) : List Mk := l.map fun m => (m.1, m.2.1 + d, m.2.2)
def raiseB (d : Int) (b : Blk) : Blk := (b.1, b.2.1, b.2.2.1, b.2.2.2 + b.2.2.1 * d)
theorem raised_fw (d : Int) (c : Int → Bool) : ∀ l, sumP fw c (raised d l) = sumP fw c l
  | [] => rfl
  | m :: l => by
    show (if c m.1 = true then m.2.2 else 0) + sumP fw c (raised d l) = (if c m.1 = true then m.2.2 else 0) + sumP fw c l
    rw [raised_fw d c l]
theorem raised_fs (d : Int) (c : Int → Bool) : ∀ l, sumP fs c (raised d l) = sumP fs c l + sumP fw c l * d
  | [] => by simp [raised, sumP]
  | m :: l => by
    show (if c m.1 = true then (m.2.1 + d) * m.2.2 else 0) + sumP fs c (raised d l) = (if c m.1 = true then m.2.1 * m.2.2 else 0) + sumP fs c l + ((if c m.1 = true then m.2.2 else 0) + sumP fw c l) * d
    rw [raised_fs d c l]
    split <;> grind
theorem raised_hours (d : Int) (l : List Mk) : hours (raised d l) = hours l :=
  sorted_unique (hours_sorted _) (hours_sorted l) fun x => by
    rw [mem_hours, mem_hours]
    constructor
    · rintro ⟨m, hm, rfl⟩
      obtain ⟨m', hm', rfl⟩ := List.mem_map.1 hm
      exact ⟨m', hm', rfl⟩
    · rintro ⟨m, hm, rfl⟩
      exact ⟨_, List.mem_map.2 ⟨m, hm, rfl⟩, rfl⟩
theorem push_raise (d : Int) : ∀ (st : List Blk) (b : Blk), pushB (st.map (raiseB d)) (raiseB d b) = (pushB st b).map (raiseB d)
  | [], b => rfl
  | t :: r, b => by
    have hiff : ((raiseB d t).2.2.2 * (raiseB d b).2.2.1 < (raiseB d b).2.2.2 * (raiseB d t).2.2.1) ↔ (t.2.2.2 * b.2.2.1 < b.2.2.2 * t.2.2.1) := by
      have e1 : (raiseB d t).2.2.2 * (raiseB d b).2.2.1 = t.2.2.2 * b.2.2.1 + t.2.2.1 * b.2.2.1 * d := by show (t.2.2.2 + t.2.2.1 * d) * b.2.2.1 = _; grind
      have e2 : (raiseB d b).2.2.2 * (raiseB d t).2.2.1 = b.2.2.2 * t.2.2.1 + t.2.2.1 * b.2.2.1 * d := by show (b.2.2.2 + b.2.2.1 * d) * t.2.2.1 = _; grind
      rw [e1, e2]
      omega
    show pushB (raiseB d t :: r.map (raiseB d)) (raiseB d b) = _
    rw [pushB, pushB]
    by_cases h : t.2.2.2 * b.2.2.1 < b.2.2.2 * t.2.2.1
    · rw [if_pos h, if_pos (hiff.2 h)]; rfl
    · rw [if_neg h, if_neg fun h' => h (hiff.1 h')]
      rw [← push_raise d r]
      congr 1
      show (t.1, b.2.1, t.2.2.1 + b.2.2.1, (t.2.2.2 + t.2.2.1 * d) + (b.2.2.2 + b.2.2.1 * d)) = (t.1, b.2.1, t.2.2.1 + b.2.2.1, (t.2.2.2 + b.2.2.2) + (t.2.2.1 + b.2.2.1) * d)
      rw [show (t.2.2.2 + t.2.2.1 * d) + (b.2.2.2 + b.2.2.1 * d) = (t.2.2.2 + b.2.2.2) + (t.2.2.1 + b.2.2.1) * d by grind]
theorem foldl_raise (d : Int) : ∀ (l st : List Blk), (l.map (raiseB d)).foldl pushB (st.map (raiseB d)) = (l.foldl pushB st).map (raiseB d)
  | [], st => rfl
  | b :: l, st => by
    simp only [List.map_cons, List.foldl_cons]
    rw [push_raise, foldl_raise d l]
theorem raised_pooled (d : Int) (l : List Mk) : pooled (raised d l) = (pooled l).map (raiseB d) := by
  have h1 : singles (raised d l) = (singles l).map (raiseB d) := by
    unfold singles
    rw [raised_hours, List.map_map]
    apply List.map_congr_left
    intro x _
    show blk (raised d l) x x = raiseB d (blk l x x)
    unfold blk raiseB
    simp only
    rw [raised_fw, raised_fs]
  unfold M08.pooled
  rw [h1]
  have := foldl_raise d (singles l) []
  simp only [List.map_nil] at this
  rw [this, List.map_reverse]
def turned (l : List Mk) (f : Nat) : List Mk := l.reverse.drop (f % l.length) ++ l.reverse.take (f % l.length)
theorem turned_perm (l : List Mk) (f : Nat) : (turned l f).Perm l := by
  unfold turned
  refine List.perm_append_comm.trans ?_
  rw [List.take_append_drop]
  exact List.reverse_perm l
theorem turned_get {l : List Mk} {f i : Nat} (hi : i < l.length) : (turned l f)[i]? = l[l.length - 1 - (i + f) % l.length]? := by
  have hm : f % l.length < l.length := Nat.mod_lt _ (by omega)
  have e0 : (i + f) % l.length = (i + f % l.length) % l.length := by rw [Nat.add_mod, Nat.mod_eq_of_lt hi]
  unfold turned
  rw [e0]
  generalize f % l.length = m at hm
  by_cases h : i < l.length - m
  · rw [List.getElem?_append_left (by simp; omega), List.getElem?_drop, List.getElem?_reverse (by omega), Nat.mod_eq_of_lt (by omega)]
    congr 1
    omega
  · rw [List.getElem?_append_right (by simp; omega), List.length_drop, List.length_reverse, List.getElem?_take_of_lt (by omega), List.getElem?_reverse (by omega), Nat.mod_eq_sub_mod (by omega), Nat.mod_eq_of_lt (by omega)]
    congr 1
    omega
theorem rem8 (n : Nat) : std.ar .rem .u8 (n : Int) 50 = ((n % 50 : Nat) : Int) := rfl
theorem in9_1 (E : List (List D)) {l : List Mk} (hl : l.length ≤ 24) (hp : 1 ≤ l.length) (hc : ∀ m ∈ l, okMk m) (f d : Nat) (hf : f ≤ 255) (hd : d ≤ 255) (w b : Int) :
    iter (b9_1 std) (E, [], [], encM l, (f : Int), w, b, (d : Int), 0, ()) = some (E, encM (turned l f), encM (raised ((d % 50 : Nat) : Int) l), w, b, (d : Int), ()) := by
  have hle := encM_length l
  have htl : (turned l f).length = l.length := (turned_perm l f).length_eq
  have hrl : (raised ((d % 50 : Nat) : Int) l).length = l.length := by simp [raised]
  have key := iter_count (b := b9_1 std) l.length (fun (_ : Unit) i => (E, encM ((turned l f).take i), encM ((raised ((d % 50 : Nat) : Int) l).take i), encM l, (f : Int), w, b, (d : Int), (i : Int), ())) (fun _ _ => True)
    (fun r => r = (E, encM (turned l f), encM (raised ((d % 50 : Nat) : Int) l), w, b, (d : Int), ())) ?_ ?_ () 0 (Nat.zero_le _) trivial
  · obtain ⟨r, h1, rfl⟩ := key
    exact h1
  · intro _ i hi _
    left
    have hw := wrap_nat (i := i) (by omega)
    have g1 : (i : Int) < l.length := by omega
    have g2 : (i : Int) ≥ 0 := by omega
    have gl : ¬ ((l.length : Nat) : Int) = 0 := by omega
    have hcf : IntKind.i64.wrap (f : Int) = f := by rw [wrap64] <;> omega
    have hif : IntKind.i64.wrap ((i : Int) + f) = ((i + f : Nat) : Int) := by rw [wrap64] <;> omega
    have hmod : (((i + f : Nat) : Int)).tmod (l.length : Int) = (((i + f) % l.length : Nat) : Int) := rfl
    have hml : (i + f) % l.length < l.length := Nat.mod_lt _ (by omega)
    have hn1 : IntKind.i64.wrap ((l.length : Int) - 1) = ((l.length - 1 : Nat) : Int) := by rw [wrap64] <;> omega
    have hn2 : IntKind.i64.wrap (((l.length - 1 : Nat) : Int) - (((i + f) % l.length : Nat) : Int)) = ((l.length - 1 - (i + f) % l.length : Nat) : Int) := by rw [wrap64] <;> omega
    have hn3 : ((l.length - 1 - (i + f) % l.length : Nat) : Int) ≥ 0 := by omega
    have htg := turned_get (f := f) hi
    obtain ⟨x, hx⟩ := get_some (l := l) (i := l.length - 1 - (i + f) % l.length) (by omega)
    rw [hx] at htg
    obtain ⟨y, hy⟩ := get_some hi
    have hyok := hc y (List.mem_of_getElem? hy)
    have hdm : d % 50 < 50 := Nat.mod_lt _ (by omega)
    have hcd : IntKind.i64.wrap ((d % 50 : Nat) : Int) = ((d % 50 : Nat) : Int) := by rw [wrap64] <;> omega
    have hyd : IntKind.i64.wrap (y.2.1 + ((d % 50 : Nat) : Int)) = y.2.1 + ((d % 50 : Nat) : Int) := by
      unfold okMk at hyok
      rw [wrap64] <;> omega
    have tk1 : (turned l f).take (i + 1) = (turned l f).take i ++ [x] := by
      obtain ⟨h1, h2⟩ := List.getElem?_eq_some_iff.1 htg
      rw [List.take_succ_eq_append_getElem h1, h2]
    have hrg : (raised ((d % 50 : Nat) : Int) l)[i]? = some (y.1, y.2.1 + ((d % 50 : Nat) : Int), y.2.2) := by simp [raised, hy]
    have tk2 : (raised ((d % 50 : Nat) : Int) l).take (i + 1) = (raised ((d % 50 : Nat) : Int) l).take i ++ [(y.1, y.2.1 + ((d % 50 : Nat) : Int), y.2.2)] := by
      obtain ⟨h1, h2⟩ := List.getElem?_eq_some_iff.1 hrg
      rw [List.take_succ_eq_append_getElem h1, h2]
    have l1 : (encM ((turned l f).take i)).length = i := by rw [encM_length, List.length_take]; omega
    have l2 : (encM ((raised ((d % 50 : Nat) : Int) l).take i)).length = i := by rw [encM_length, List.length_take]; omega
    refine ⟨(), ?_, trivial⟩
    rw [tk1, tk2, show (turned l f).take i ++ [x] = (turned l f).take i ++ [(x.1, x.2.1, x.2.2)] from rfl, ← encM_snoc, ← encM_snoc]
    simp only [b9_1, need_eq, ask_eq, ret_eq, no_eq, bnd_eq, run_eq, alt_eq, std_len, std_ofNat, std_nat, std_add, std_sub, std_leN, std_eqN, std_and, std_app, std_cut, std_lss, std_leq, std_gtr, std_geq, std_eql, std_neq, std_rowOk, std_rdI, rdD, bif_eq, ofNat_eq, List.length_map, List.getElem?_map, Option.map_some, Option.bind_some, Option.bind_none, Int.toNat_natCast, decide_eq_true_eq, Sum.elim_inl, Sum.elim_inr, if_true, if_false, decide_true, decide_false, Bool.false_eq_true, encM_get, cells_eM, dI_eM0, dI_eM1, dI_eM2, hle, g1, g2, gl, Bool.not_false, std_ar_add, std_ar_sub, std_ar_rem, std_cvt, hcf, hif, hmod, hn1, hn2, hn3, hx, hy, rem8, hcd, hyd, show ¬ (50 : Int) = 0 by omega, l1, l2, List.drop_zero, List.take_of_length_le (Nat.le_of_eq l1), List.take_of_length_le (Nat.le_of_eq l2), List.length_cons, List.length_nil, List.length_append, List.take_succ_cons, List.take_zero, Nat.zero_add, Nat.le_refl, Bool.and_true, Bool.true_and, show i + 1 ≤ 1000000 by omega, hw]
  · intro _ _
    refine ⟨_, ?_, rfl⟩
    simp only [b9_1, need_eq, ask_eq, ret_eq, no_eq, bnd_eq, run_eq, alt_eq, std_len, std_ofNat, std_nat, std_add, std_sub, std_leN, std_eqN, std_and, std_app, std_cut, std_lss, std_leq, std_gtr, std_geq, std_eql, std_neq, std_rowOk, std_rdI, rdD, bif_eq, ofNat_eq, List.length_map, List.getElem?_map, Option.map_some, Option.bind_some, Option.bind_none, Int.toNat_natCast, decide_eq_true_eq, Sum.elim_inl, Sum.elim_inr, if_true, if_false, decide_true, decide_false, Bool.false_eq_true, hle, Int.lt_irrefl]
    rw [List.take_of_length_le (by omega), List.take_of_length_le (by omega)]
theorem in9_2 (L : List Blk) (hL : L.length ≤ 100000) (hT : ∀ b ∈ L, TiB b) (d : Nat) (hd : d ≤ 255) : iter (b9_2 std) (encB L, encB (L.map (raiseB ((d % 50 : Nat) : Int))), (d : Int), 0, ()) = some (Sum.inr ()) := by
  have key := iter_count (b := b9_2 std) L.length (fun (_ : Unit) j => (encB L, encB (L.map (raiseB ((d % 50 : Nat) : Int))), (d : Int), (j : Int), ())) (fun _ _ => True) (fun r => r = Sum.inr ()) ?_ ?_ () 0 (Nat.zero_le _) trivial
  · obtain ⟨r, h1, rfl⟩ := key
    exact h1
  · intro _ j hj _
    left
    obtain ⟨b, hb⟩ := get_some hj
    have ht := hT b (List.mem_of_getElem? hb)
    have hw := wrap_nat (i := j) (by omega)
    have g1 : (j : Int) < L.length := by omega
    have g2 : (j : Int) ≥ 0 := by omega
    have hdm : d % 50 < 50 := Nat.mod_lt _ (by omega)
    have hcd : IntKind.i64.wrap ((d % 50 : Nat) : Int) = ((d % 50 : Nat) : Int) := by rw [wrap64] <;> omega
    have m1 : 0 ≤ b.2.2.1 * ((d % 50 : Nat) : Int) := Int.mul_nonneg ht.1 (by omega)
    have m2 : b.2.2.1 * ((d % 50 : Nat) : Int) ≤ 480 * 50 := Int.mul_le_mul ht.2.1 (by omega) (by omega) (by omega)
    have w1 : IntKind.i64.wrap (b.2.2.1 * ((d % 50 : Nat) : Int)) = b.2.2.1 * ((d % 50 : Nat) : Int) := by rw [wrap64] <;> omega
    have w2 : IntKind.i64.wrap (b.2.2.2 + b.2.2.1 * ((d % 50 : Nat) : Int)) = b.2.2.2 + b.2.2.1 * ((d % 50 : Nat) : Int) := by
      have := ht.2.2
      rw [wrap64] <;> omega
    refine ⟨(), ?_, trivial⟩
    simp only [b9_2, need_eq, ask_eq, ret_eq, no_eq, bnd_eq, run_eq, alt_eq, std_len, std_ofNat, std_nat, std_add, std_sub, std_leN, std_eqN, std_and, std_app, std_cut, std_lss, std_leq, std_gtr, std_geq, std_eql, std_neq, std_rowOk, std_rdI, rdD, bif_eq, ofNat_eq, List.length_map, List.getElem?_map, Option.map_some, Option.bind_some, Option.bind_none, Int.toNat_natCast, decide_eq_true_eq, Sum.elim_inl, Sum.elim_inr, if_true, if_false, decide_true, decide_false, Bool.false_eq_true, List.length_cons, List.length_nil, Nat.zero_add, ite_self, encB_length, encB_get, cells_eB, dI_eB0, dI_eB1, dI_eB2, dI_eB3, g1, g2, hb, rem8, std_cvt, hcd, std_ar_add, std_ar_mul, w1, w2, raiseB, Bool.not_true, show ¬ (50 : Int) = 0 by omega, Bool.not_false, hw]
  · intro _ _
    refine ⟨_, ?_, rfl⟩
    simp only [b9_2, need_eq, ask_eq, ret_eq, no_eq, bnd_eq, run_eq, alt_eq, std_len, std_ofNat, std_nat, std_add, std_sub, std_leN, std_eqN, std_and, std_app, std_cut, std_lss, std_leq, std_gtr, std_geq, std_eql, std_neq, std_rowOk, std_rdI, rdD, bif_eq, ofNat_eq, List.length_map, List.getElem?_map, Option.map_some, Option.bind_some, Option.bind_none, Int.toNat_natCast, decide_eq_true_eq, Sum.elim_inl, Sum.elim_inr, if_true, if_false, decide_true, decide_false, Bool.false_eq_true, encB_length, encB_get, cells_eB, dI_eB0, dI_eB1, dI_eB2, dI_eB3, Int.lt_irrefl]
theorem G27_ok9 (l : List Mk) : G27 std (encM l, ()) = some (decide (chk l = 0), ()) := by
  unfold G27
  simp only [need_eq, ask_eq, ret_eq, no_eq, bnd_eq, run_eq, alt_eq, std_len, std_ofNat, std_nat, std_add, std_sub, std_leN, std_eqN, std_and, std_app, std_cut, std_lss, std_leq, std_gtr, std_geq, std_eql, std_neq, std_rowOk, std_rdI, rdD, bif_eq, ofNat_eq, List.length_map, List.getElem?_map, Option.map_some, Option.bind_some, Option.bind_none, Int.toNat_natCast, decide_eq_true_eq, Sum.elim_inl, Sum.elim_inr, if_true, if_false, decide_true, decide_false, Bool.false_eq_true, G17_ok]
theorem plain_encB (l : List Blk) : std.plain (encB l) = true := by
  induction l with
  | nil => rfl
  | cons b l ih => exact ih
theorem G9_tail (l L : List Mk) (hl : l.length ≤ 24) (hc : ∀ m ∈ l, okMk m) (hs : Same L l) (h0 : chk l = 0) (hL : chk L = 0) : pooled L = pooled l := hs.pooled
theorem G9_all (l : List Mk) (f w b d : Int) (hf : 0 ≤ f ∧ f ≤ 255) (hw : 0 ≤ w ∧ w ≤ 255) (hb : 0 ≤ b ∧ b ≤ 255) (hd : 0 ≤ d ∧ d ≤ 255) : G9 std (encM l, f, w, b, d, ()) = some (true, ()) := by
  obtain ⟨f, rfl⟩ := Int.eq_ofNat_of_zero_le hf.1
  obtain ⟨w, rfl⟩ := Int.eq_ofNat_of_zero_le hw.1
  obtain ⟨b, rfl⟩ := Int.eq_ofNat_of_zero_le hb.1
  obtain ⟨d, rfl⟩ := Int.eq_ofNat_of_zero_le hd.1
  unfold G9
  by_cases h0 : chk l = 0
  · obtain ⟨hl, hc, h1⟩ := chk_card h0
    have hpl := pairs_len (show l.length ≤ 100000 by omega) hc
    have hn := hours_len l
    have hpp : (pooled l).length ≤ 100000 := by rw [pooled_eq hc, List.length_map]; omega
    have e9 := in9_1 (encB (pooled l)) hl h1 hc f d (by omega) (by omega) (w : Int) (b : Int)
    have htl : (turned l f).length = l.length := (turned_perm l f).length_eq
    have hle := encM_length (turned l f)
    rw [htl] at hle
    have gl : ¬ ((l.length : Nat) : Int) = 0 := by omega
    have hcw : IntKind.i64.wrap (w : Int) = w := by rw [wrap64] <;> omega
    have hcb : IntKind.i64.wrap (b : Int) = b := by rw [wrap64] <;> omega
    have hmod : ((w : Int)).tmod (l.length : Int) = ((w % l.length : Nat) : Int) := rfl
    have hkl : w % l.length < l.length := Nat.mod_lt _ (by omega)
    generalize w % l.length = k at hmod hkl
    have f1 : (k : Int) ≥ 0 := by omega
    have f2 : (k : Int) < l.length := by omega
    obtain ⟨x, hx⟩ := get_some (l := turned l f) (i := k) (by omega)
    have hxm := (turned_perm l f).mem_iff.1 (List.mem_of_getElem? hx)
    have hxok := hc x hxm
    have htk : ∀ E : List (List D), E.take E.length = E := fun E => List.take_length
    have fin : ∀ L : List Mk, Same L l → chk L = 0 → ((G14 std (encM L, ())).bind fun y76 => if std.plain y76.1 = true then some y76 else none) = some (encB (pooled l), 0, ()) := fun L hs hL => by
      rw [G14_ok, if_pos hL, hs.pooled]
      simp only [Option.bind_some, plain_encB, if_true]
    have hsame := Same.perm (turned_perm l f)
    have hct : chk (turned l f) = 0 := chk_zero (by rw [htl]; omega) fun m hm => hc m ((turned_perm l f).mem_iff.1 hm)
    have hrl : (raised ((d % 50 : Nat) : Int) l).length = l.length := by simp [raised]
    have hrle := encM_length (raised ((d % 50 : Nat) : Int) l)
    rw [hrl] at hrle
    have e18 := G18_ok (pooled l) (pooled l) (by omega)
    rw [decide_eq_true rfl] at e18
    have e2 := in9_2 (pooled l) hpp (pooled_ti hl hc) d (by omega)
    have htB : (encB (pooled l)).take (pooled l).length = encB (pooled l) := List.take_of_length_le (by rw [encB_length]; exact Nat.le_refl _)
    have htR : (encM (raised ((d % 50 : Nat) : Int) l)).take l.length = encM (raised ((d % 50 : Nat) : Int) l) := List.take_of_length_le (by rw [hrle]; exact Nat.le_refl _)
    have htT : (encM (turned l f)).take l.length = encM (turned l f) := List.take_of_length_le (by rw [hle]; exact Nat.le_refl _)
    have hrp := raised_pooled ((d % 50 : Nat) : Int) l
    have hpr : (pooled (raised ((d % 50 : Nat) : Int) l)).length = (pooled l).length := by rw [hrp, List.length_map]
    have hsp : ∀ (u : Int), 1 ≤ u → u < x.2.2 → l.length < 24 → Same ((turned l f).set k (x.1, x.2.1, x.2.2 - u) ++ [(x.1, x.2.1, u)]) l ∧ chk ((turned l f).set k (x.1, x.2.1, x.2.2 - u) ++ [(x.1, x.2.1, u)]) = 0 := fun u u1 u2 u3 => by
      refine ⟨(Same.split hx).trans hsame, chk_zero (by simp [htl]; omega) fun m hm => ?_⟩
      have hh := hxok
      unfold okMk at hh
      rcases List.mem_append.1 hm with hm | hm
      · rcases List.mem_or_eq_of_mem_set hm with hm | rfl
        · exact hc m ((turned_perm l f).mem_iff.1 hm)
        · exact ⟨hh.1, hh.2.1, hh.2.2.1, hh.2.2.2.1, by show 1 ≤ x.2.2 - u; omega, by show x.2.2 - u ≤ 20; omega⟩
      · simp only [List.mem_singleton] at hm
        subst hm
        exact ⟨hh.1, hh.2.1, hh.2.2.1, hh.2.2.2.1, u1, by show u ≤ 20; omega⟩
    have hb' : x.2.2 ≤ 20 := hxok.2.2.2.2.2
    by_cases hbig : x.2.2 > 1 ∧ ((l.length : Nat) : Int) < 24
    · obtain ⟨hbg, hlt⟩ := hbig
      obtain ⟨v, hv⟩ := Int.eq_ofNat_of_zero_le (show 0 ≤ x.2.2 - 1 by omega)
      have w1 : IntKind.i64.wrap (x.2.2 - 1) = (v : Int) := by rw [hv, wrap64] <;> omega
      have hvz : ¬ (v : Int) = 0 := by omega
      have hbm : (b : Int).tmod (v : Int) = ((b % v : Nat) : Int) := rfl
      have hbl : b % v < v := Nat.mod_lt _ (by omega)
      obtain ⟨u, hu⟩ : ∃ u : Int, u = 1 + ((b % v : Nat) : Int) := ⟨_, rfl⟩
      have w2 : IntKind.i64.wrap (1 + ((b % v : Nat) : Int)) = u := by rw [← hu, wrap64] <;> omega
      have w3 : IntKind.i64.wrap (x.2.2 - u) = x.2.2 - u := by rw [wrap64] <;> omega
      obtain ⟨q1, q2⟩ := hsp u (by omega) (by omega) (by omega)
      have hset : (encM (turned l f)).set k [D.int .i64 x.1, D.int .i64 x.2.1, D.int .i64 (x.2.2 - u)] = encM ((turned l f).set k (x.1, x.2.1, x.2.2 - u)) := by
        unfold encM
        rw [List.map_set]
        rfl
      have hsl : (encM ((turned l f).set k (x.1, x.2.1, x.2.2 - u))).length = l.length := by rw [encM_length, List.length_set, htl]
      have hts : (encM ((turned l f).set k (x.1, x.2.1, x.2.2 - u))).take l.length = encM ((turned l f).set k (x.1, x.2.1, x.2.2 - u)) := List.take_of_length_le (by rw [hsl]; exact Nat.le_refl _)
      have hal : (encM ((turned l f).set k (x.1, x.2.1, x.2.2 - u) ++ [(x.1, x.2.1, u)])).length = l.length + 1 := by rw [encM_length, List.length_append, List.length_set, htl]; rfl
      have hta : (encM ((turned l f).set k (x.1, x.2.1, x.2.2 - u) ++ [(x.1, x.2.1, u)])).take (l.length + 1) = encM ((turned l f).set k (x.1, x.2.1, x.2.2 - u) ++ [(x.1, x.2.1, u)]) := List.take_of_length_le (by rw [hal]; exact Nat.le_refl _)
      have e14 := G14_ok ((turned l f).set k (x.1, x.2.1, x.2.2 - u) ++ [(x.1, x.2.1, u)])
      rw [if_pos q2, q1.pooled] at e14
      by_cases hr0 : chk (raised ((d % 50 : Nat) : Int) l) = 0
      · simp only [need_eq, ask_eq, ret_eq, no_eq, bnd_eq, run_eq, alt_eq, std_len, std_ofNat, std_nat, std_add, std_sub, std_leN, std_eqN, std_and, std_app, std_cut, std_lss, std_leq, std_gtr, std_geq, std_eql, std_neq, std_rowOk, std_rdI, rdD, bif_eq, ofNat_eq, List.length_map, List.getElem?_map, Option.map_some, Option.bind_some, Option.bind_none, Int.toNat_natCast, decide_eq_true_eq, Sum.elim_inl, Sum.elim_inr, if_true, if_false, decide_true, decide_false, Bool.false_eq_true, List.length_cons, List.length_nil, Nat.zero_add, ite_self, encM_get, cells_eM, dI_eM0, dI_eM1, dI_eM2, encB_length, encB_get, cells_eB, dI_eB0, dI_eB1, dI_eB2, dI_eB3, G27_ok9, h0, Bool.not_true, G14_ok, e9, hle, gl, Bool.not_false, std_ar_rem, std_cvt, hcw, hcb, hmod, f1, f2, hx, hbg, hlt, std_ar_sub, std_ar_add, w1, hvz, hbm, w2, w3, std_set, hset, hsl, hts, List.length_append, List.length_cons, List.length_nil, List.take_succ_cons, List.take_zero, List.drop_zero, encM_snoc, hal, hta, e14, plain_encB, Nat.le_refl, Bool.and_true, Bool.true_and, htB, e18, hrle, htR, hr0, hrp, List.length_map, e2, G13_ok, show l.length + 1 ≤ 1000000 by omega]
      · simp only [need_eq, ask_eq, ret_eq, no_eq, bnd_eq, run_eq, alt_eq, std_len, std_ofNat, std_nat, std_add, std_sub, std_leN, std_eqN, std_and, std_app, std_cut, std_lss, std_leq, std_gtr, std_geq, std_eql, std_neq, std_rowOk, std_rdI, rdD, bif_eq, ofNat_eq, List.length_map, List.getElem?_map, Option.map_some, Option.bind_some, Option.bind_none, Int.toNat_natCast, decide_eq_true_eq, Sum.elim_inl, Sum.elim_inr, if_true, if_false, decide_true, decide_false, Bool.false_eq_true, List.length_cons, List.length_nil, Nat.zero_add, ite_self, encM_get, cells_eM, dI_eM0, dI_eM1, dI_eM2, encB_length, encB_get, cells_eB, dI_eB0, dI_eB1, dI_eB2, dI_eB3, G27_ok9, h0, Bool.not_true, G14_ok, e9, hle, gl, Bool.not_false, std_ar_rem, std_cvt, hcw, hcb, hmod, f1, f2, hx, hbg, hlt, std_ar_sub, std_ar_add, w1, hvz, hbm, w2, w3, std_set, hset, hsl, hts, List.length_append, List.length_cons, List.length_nil, List.take_succ_cons, List.take_zero, List.drop_zero, encM_snoc, hal, hta, e14, plain_encB, Nat.le_refl, Bool.and_true, Bool.true_and, htB, e18, hrle, htR, hr0, G13_ok, show l.length + 1 ≤ 1000000 by omega]
    · have hno : ¬ x.2.2 > 1 ∨ ¬ ((l.length : Nat) : Int) < 24 := by omega
      have e14 := G14_ok (turned l f)
      rw [if_pos hct, hsame.pooled] at e14
      rcases hno with hno | hno
      · by_cases hr0 : chk (raised ((d % 50 : Nat) : Int) l) = 0
        · simp only [need_eq, ask_eq, ret_eq, no_eq, bnd_eq, run_eq, alt_eq, std_len, std_ofNat, std_nat, std_add, std_sub, std_leN, std_eqN, std_and, std_app, std_cut, std_lss, std_leq, std_gtr, std_geq, std_eql, std_neq, std_rowOk, std_rdI, rdD, bif_eq, ofNat_eq, List.length_map, List.getElem?_map, Option.map_some, Option.bind_some, Option.bind_none, Int.toNat_natCast, decide_eq_true_eq, Sum.elim_inl, Sum.elim_inr, if_true, if_false, decide_true, decide_false, Bool.false_eq_true, List.length_cons, List.length_nil, Nat.zero_add, ite_self, encM_get, cells_eM, dI_eM0, dI_eM1, dI_eM2, encB_length, encB_get, cells_eB, dI_eB0, dI_eB1, dI_eB2, dI_eB3, G27_ok9, h0, Bool.not_true, G14_ok, e9, hle, gl, Bool.not_false, std_ar_rem, std_cvt, hcw, hcb, hmod, f1, f2, hx, hno, List.drop_zero, htT, e14, plain_encB, Nat.le_refl, Bool.and_true, Bool.true_and, htB, e18, hrle, htR, hr0, hrp, List.length_map, e2, G13_ok]
        · simp only [need_eq, ask_eq, ret_eq, no_eq, bnd_eq, run_eq, alt_eq, std_len, std_ofNat, std_nat, std_add, std_sub, std_leN, std_eqN, std_and, std_app, std_cut, std_lss, std_leq, std_gtr, std_geq, std_eql, std_neq, std_rowOk, std_rdI, rdD, bif_eq, ofNat_eq, List.length_map, List.getElem?_map, Option.map_some, Option.bind_some, Option.bind_none, Int.toNat_natCast, decide_eq_true_eq, Sum.elim_inl, Sum.elim_inr, if_true, if_false, decide_true, decide_false, Bool.false_eq_true, List.length_cons, List.length_nil, Nat.zero_add, ite_self, encM_get, cells_eM, dI_eM0, dI_eM1, dI_eM2, encB_length, encB_get, cells_eB, dI_eB0, dI_eB1, dI_eB2, dI_eB3, G27_ok9, h0, Bool.not_true, G14_ok, e9, hle, gl, Bool.not_false, std_ar_rem, std_cvt, hcw, hcb, hmod, f1, f2, hx, hno, List.drop_zero, htT, e14, plain_encB, Nat.le_refl, Bool.and_true, Bool.true_and, htB, e18, hrle, htR, hr0, G13_ok]
      · by_cases hbg : x.2.2 > 1
        · by_cases hr0 : chk (raised ((d % 50 : Nat) : Int) l) = 0
          · simp only [need_eq, ask_eq, ret_eq, no_eq, bnd_eq, run_eq, alt_eq, std_len, std_ofNat, std_nat, std_add, std_sub, std_leN, std_eqN, std_and, std_app, std_cut, std_lss, std_leq, std_gtr, std_geq, std_eql, std_neq, std_rowOk, std_rdI, rdD, bif_eq, ofNat_eq, List.length_map, List.getElem?_map, Option.map_some, Option.bind_some, Option.bind_none, Int.toNat_natCast, decide_eq_true_eq, Sum.elim_inl, Sum.elim_inr, if_true, if_false, decide_true, decide_false, Bool.false_eq_true, List.length_cons, List.length_nil, Nat.zero_add, ite_self, encM_get, cells_eM, dI_eM0, dI_eM1, dI_eM2, encB_length, encB_get, cells_eB, dI_eB0, dI_eB1, dI_eB2, dI_eB3, G27_ok9, h0, Bool.not_true, G14_ok, e9, hle, gl, Bool.not_false, std_ar_rem, std_cvt, hcw, hcb, hmod, f1, f2, hx, hbg, hno, List.drop_zero, htT, e14, plain_encB, Nat.le_refl, Bool.and_true, Bool.true_and, htB, e18, hrle, htR, hr0, hrp, List.length_map, e2, G13_ok]
          · simp only [need_eq, ask_eq, ret_eq, no_eq, bnd_eq, run_eq, alt_eq, std_len, std_ofNat, std_nat, std_add, std_sub, std_leN, std_eqN, std_and, std_app, std_cut, std_lss, std_leq, std_gtr, std_geq, std_eql, std_neq, std_rowOk, std_rdI, rdD, bif_eq, ofNat_eq, List.length_map, List.getElem?_map, Option.map_some, Option.bind_some, Option.bind_none, Int.toNat_natCast, decide_eq_true_eq, Sum.elim_inl, Sum.elim_inr, if_true, if_false, decide_true, decide_false, Bool.false_eq_true, List.length_cons, List.length_nil, Nat.zero_add, ite_self, encM_get, cells_eM, dI_eM0, dI_eM1, dI_eM2, encB_length, encB_get, cells_eB, dI_eB0, dI_eB1, dI_eB2, dI_eB3, G27_ok9, h0, Bool.not_true, G14_ok, e9, hle, gl, Bool.not_false, std_ar_rem, std_cvt, hcw, hcb, hmod, f1, f2, hx, hbg, hno, List.drop_zero, htT, e14, plain_encB, Nat.le_refl, Bool.and_true, Bool.true_and, htB, e18, hrle, htR, hr0, G13_ok]
        · by_cases hr0 : chk (raised ((d % 50 : Nat) : Int) l) = 0
          · simp only [need_eq, ask_eq, ret_eq, no_eq, bnd_eq, run_eq, alt_eq, std_len, std_ofNat, std_nat, std_add, std_sub, std_leN, std_eqN, std_and, std_app, std_cut, std_lss, std_leq, std_gtr, std_geq, std_eql, std_neq, std_rowOk, std_rdI, rdD, bif_eq, ofNat_eq, List.length_map, List.getElem?_map, Option.map_some, Option.bind_some, Option.bind_none, Int.toNat_natCast, decide_eq_true_eq, Sum.elim_inl, Sum.elim_inr, if_true, if_false, decide_true, decide_false, Bool.false_eq_true, List.length_cons, List.length_nil, Nat.zero_add, ite_self, encM_get, cells_eM, dI_eM0, dI_eM1, dI_eM2, encB_length, encB_get, cells_eB, dI_eB0, dI_eB1, dI_eB2, dI_eB3, G27_ok9, h0, Bool.not_true, G14_ok, e9, hle, gl, Bool.not_false, std_ar_rem, std_cvt, hcw, hcb, hmod, f1, f2, hx, hbg, List.drop_zero, htT, e14, plain_encB, Nat.le_refl, Bool.and_true, Bool.true_and, htB, e18, hrle, htR, hr0, hrp, List.length_map, e2, G13_ok]
          · simp only [need_eq, ask_eq, ret_eq, no_eq, bnd_eq, run_eq, alt_eq, std_len, std_ofNat, std_nat, std_add, std_sub, std_leN, std_eqN, std_and, std_app, std_cut, std_lss, std_leq, std_gtr, std_geq, std_eql, std_neq, std_rowOk, std_rdI, rdD, bif_eq, ofNat_eq, List.length_map, List.getElem?_map, Option.map_some, Option.bind_some, Option.bind_none, Int.toNat_natCast, decide_eq_true_eq, Sum.elim_inl, Sum.elim_inr, if_true, if_false, decide_true, decide_false, Bool.false_eq_true, List.length_cons, List.length_nil, Nat.zero_add, ite_self, encM_get, cells_eM, dI_eM0, dI_eM1, dI_eM2, encB_length, encB_get, cells_eB, dI_eB0, dI_eB1, dI_eB2, dI_eB3, G27_ok9, h0, Bool.not_true, G14_ok, e9, hle, gl, Bool.not_false, std_ar_rem, std_cvt, hcw, hcb, hmod, f1, f2, hx, hbg, List.drop_zero, htT, e14, plain_encB, Nat.le_refl, Bool.and_true, Bool.true_and, htB, e18, hrle, htR, hr0, G13_ok]
  · simp only [need_eq, ask_eq, ret_eq, no_eq, bnd_eq, run_eq, alt_eq, std_len, std_ofNat, std_nat, std_add, std_sub, std_leN, std_eqN, std_and, std_app, std_cut, std_lss, std_leq, std_gtr, std_geq, std_eql, std_neq, std_rowOk, std_rdI, rdD, bif_eq, ofNat_eq, List.length_map, List.getElem?_map, Option.map_some, Option.bind_some, Option.bind_none, Int.toNat_natCast, decide_eq_true_eq, Sum.elim_inl, Sum.elim_inr, if_true, if_false, decide_true, decide_false, Bool.false_eq_true, G27_ok9, h0, Bool.not_false, G13_ok]
theorem G9_ok (l : List Mk) (f : Int) (hf : 0 ≤ f ∧ f ≤ 255) (w : Int) (hw : 0 ≤ w ∧ w ≤ 255) (b : Int) (hb : 0 ≤ b ∧ b ≤ 255) (d : Int) (hd : 0 ≤ d ∧ d ≤ 255) : G9 std (encM l, f, w, b, d, ()) = some (true, ()) := G9_all l f w b d hf hw hb hd
end Go.Am
end
