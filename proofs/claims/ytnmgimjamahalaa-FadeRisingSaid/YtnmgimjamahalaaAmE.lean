/-
  From a call over abstract values to a law's contract: what is read of the arguments is data; behind the call they read as before.
-/
import Derived.Test.YtnmgimjamahalaaAmB
import Derived.ReadAgain
import Derived.ChangeSame
import Derived.ChangeArms
import Derived.ChangeOld
import Derived.OpenShut
import Derived.WalkKit
import Derived.ProofKit
import Derived.Test.YtnmgimjamahalaaAmD
import Derived.Shelf.SlIterI.Sorted
import Derived.Shelf.SortM.Plain
import Derived.Shelf.SortM.SortNone
import Derived.KernelRfl
import Derived.Test.YtnmgimjamahalaaProg
section
set_option linter.unusedVariables false
set_option linter.unusedSimpArgs false
namespace Go.Am
open Go.ChangeShapes Go.WideShapes
inductive RK where
  | int (k : IntKind) | bool | str
  | list (ks : List RK)
  deriving Inhabited
def shpF (P : Program) (r : TypeId → Option (List RK)) : Nat → List Field → Option (List RK)
  | _, [] => some []
  | off, f :: fs => match r f.type with
    | some ks => bif Nat.beq f.offset off && Nat.beq (P.cellsOf f.type) ks.length then match shpF P r (off + ks.length) fs with
        | some l => some (ks ++ l)
        | none => none
      else none
    | none => none
def shp (P : Program) : Nat → TypeId → Option (List RK)
  | 0, _ => none
  | n + 1, t => match P.underlying t with
    | some .bool => some [.bool]
    | some (.int k) => some [.int k]
    | some .string => some [.str]
    | some (.slice e) => match shp P n e with
      | some ks => bif Nat.beq (P.cellsOf e) ks.length && Nat.blt 0 ks.length then some [.list ks] else none
      | none => none
    | some (.struct fs) => match shpF P (shp P n) 0 fs.toList with
      | some ks => bif Nat.beq (P.cellsOf t) ks.length then some ks else none
      | none => none
    | _ => none
mutual
def DK : RK → D → Prop
  | .int k, .int k' n => k' = k ∧ (Lit.int k n).wf = true
  | .bool, .bool _ => True
  | .str, .str s => s.size ≤ maxLen
  | .list ks, .list f z es => f = false ∧ z = ks.length ∧ es.length ≤ maxLen ∧ DKrows ks es
  | _, _ => False
def DKs : List RK → List D → Prop
  | [], [] => True
  | k :: ks, d :: ds => DK k d ∧ DKs ks ds
  | _, _ => False
def DKrows : List RK → List (List D) → Prop
  | _, [] => True
  | ks, r :: es => DKs ks r ∧ DKrows ks es
end
theorem DKs.length : ∀ {ks : List RK} {ds : List D}, DKs ks ds → ds.length = ks.length
  | [], [], _ => rfl
  | [], _ :: _, h => by simp [DKs] at h
  | _ :: _, [], h => by simp [DKs] at h
  | k :: ks, d :: ds, h => by simp only [DKs] at h; simp [DKs.length h.2]
theorem DKs.append : ∀ {ks ks' : List RK} {ds ds' : List D}, DKs ks ds → DKs ks' ds' → DKs (ks ++ ks') (ds ++ ds')
  | [], _, [], _, _, h' => h'
  | [], _, _ :: _, _, h, _ => by simp [DKs] at h
  | _ :: _, _, [], _, h, _ => by simp [DKs] at h
  | k :: ks, _, d :: ds, _, h, h' => by
    simp only [DKs] at h
    exact ⟨h.1, DKs.append h.2 h'⟩
theorem DKrows_iff {ks : List RK} : ∀ {es : List (List D)}, DKrows ks es ↔ ∀ r ∈ es, DKs ks r
  | [] => by simp [DKrows]
  | r :: es => by simp [DKrows, DKrows_iff (es := es)]
section
variable {P : Program} {H : Type} {enc : TypeId × Value → H} {w : World} {O : Nat → Prop}
def CRel (O : Nat → Prop) (w : World) (ds : List D) (cs : List Value) : Prop := cs.length = ds.length ∧ ∀ (j : Nat) (x : D), ds[j]? = some x → ∃ v, cs[j]? = some v ∧ v.oneCell' = true ∧ DRel O w x v
theorem CRel.one {x : D} {v : Value} (h1 : v.oneCell' = true) (h : DRel O w x v) : CRel O w [x] [v] := ⟨rfl, fun j y hj => by
  match j, hj with
  | 0, hj => cases hj; exact ⟨v, rfl, h1, h⟩
  | j + 1, hj => simp at hj⟩
theorem CRel.append {ds ds' : List D} {cs cs' : List Value} (h : CRel O w ds cs) (h' : CRel O w ds' cs') : CRel O w (ds ++ ds') (cs ++ cs') := by
  refine ⟨by simp [h.1, h'.1], fun j x hj => ?_⟩
  rw [List.getElem?_append] at hj ⊢
  rw [h.1]
  split at hj
  · rename_i hl; rw [if_pos hl]; exact h.2 j x hj
  · rename_i hl; rw [if_neg hl]; exact h'.2 _ x hj
theorem drop_take {α : Type} (cs : List α) (a b : Nat) (h : a + b ≤ cs.length) : cs.drop a = (cs.drop a).take b ++ cs.drop (a + b) := by
  rw [← List.drop_drop]
  exact (List.take_append_drop b (cs.drop a)).symm
def ReadsTo (P : Program) (enc : TypeId × Value → H) (w : World) (O : Nat → Prop) (sp : Nat → Bool) (hd : Bool) (n : Nat) : Prop :=
  ∀ (fuel : Nat) (t : TypeId) (cs : List Value) (ks : List RK) (x : DataW H × List MemPlace), shp P n t = some ks → DataW.trod enc P w 0 sp hd fuel t cs = some x → ∃ ds, DKs ks ds ∧ CRel O w ds cs
theorem fields_ok {sp : Nat → Bool} {hd : Bool} {n : Nat} (ih : ReadsTo P enc w O sp hd n) {fuel : Nat} {cs : List Value} : ∀ (fs : List Field) (off : Nat) (ks : List RK), shpF P (shp P n) off fs = some ks → off + ks.length = cs.length →
    (∀ f ∈ fs, ∃ x, DataW.trod enc P w 0 sp hd fuel f.type ((cs.drop f.offset).take (P.cellsOf f.type)) = some x) → ∃ ds, DKs ks ds ∧ CRel O w ds (cs.drop off)
  | [], off, ks, h, hl, _ => by
    cases h
    simp only [List.length_nil, Nat.add_zero] at hl
    subst hl
    exact ⟨[], trivial, by rw [List.drop_length]; exact ⟨rfl, fun j x hj => by simp at hj⟩⟩
  | f :: fs, off, ks, h, hl, hr => by
    simp only [shpF] at h
    split at h
    · rename_i ks0 h0
      cases hb : Nat.beq f.offset off && Nat.beq (P.cellsOf f.type) ks0.length with
      | false => rw [hb] at h; cases h
      | true =>
        rw [hb] at h; simp only [cond_true] at h
        have hb := (Iff.of_eq (Bool.and_eq_true _ _)).1 hb |>.imp Nat.eq_of_beq_eq_true Nat.eq_of_beq_eq_true
        split at h
        · rename_i l h1
          cases h
          rw [List.length_append] at hl
          obtain ⟨x, hx⟩ := hr f (by simp)
          rw [hb.1, hb.2] at hx
          obtain ⟨ds0, a1, a2⟩ := ih _ _ _ _ _ h0 hx
          obtain ⟨ds1, b1, b2⟩ := fields_ok ih fs (off + ks0.length) l h1 (by omega) (fun f hf => hr f (by simp [hf]))
          refine ⟨ds0 ++ ds1, a1.append b1, ?_⟩
          rw [drop_take cs off ks0.length (by omega)]
          exact a2.append b2
        · cases h
    · cases h
theorem exists_rows {p : Nat → List D → Prop} : ∀ n, (∀ i, i < n → ∃ r, p i r) → ∃ es : List (List D), es.length = n ∧ ∀ i r, es[i]? = some r → p i r
  | 0, _ => ⟨[], rfl, fun i r h => by simp at h⟩
  | n + 1, h => by
    obtain ⟨es, a, b⟩ := exists_rows n fun i hi => h i (Nat.lt_succ_of_lt hi)
    obtain ⟨r, hr⟩ := h n (Nat.lt_succ_self n)
    refine ⟨es ++ [r], by simp [a], fun i q hq => ?_⟩
    rw [List.getElem?_append] at hq
    split at hq
    · exact b i q hq
    · rename_i hl
      have : i = n := by
        cases hk : i - es.length with
        | zero => omega
        | succ m => rw [hk] at hq; simp at hq
      subst this
      rw [a, Nat.sub_self] at hq
      cases hq; exact hr
theorem cells_get {base : Nat} {a : Addr} {n : Nat} {cs : List Value} (h : w.cells? base a n = some cs) : cs.length = n ∧ ∀ j, j < n → w.cell? (a.add j) = cs[j]? := by
  unfold World.cells? at h
  split at h
  · have key : ∀ (m : Nat) (l : List Nat) (cs : List Value), l.mapM (fun i => w.cell? (a.add i)) = some cs → cs.length = l.length ∧ ∀ (j i : Nat), l[j]? = some i → w.cell? (a.add i) = cs[j]? := by
      intro m l
      induction l with
      | nil => intro cs h; simp at h; subst h; simp
      | cons i l ih =>
        intro cs h
        simp only [List.mapM_cons, Option.bind_eq_bind, Option.bind_eq_some_iff, Option.pure_def, Option.some.injEq] at h
        obtain ⟨v, hv, vs, hvs, rfl⟩ := h
        obtain ⟨e1, e2⟩ := ih _ hvs
        refine ⟨by simp [e1], fun j i' hj => ?_⟩
        match j, hj with
        | 0, hj => simp at hj; subst hj; simpa using hv
        | j + 1, hj => simpa using e2 j i' (by simpa using hj)
    obtain ⟨e1, e2⟩ := key n _ _ h
    refine ⟨by simpa using e1, fun j hj => e2 j j (by simp [hj])⟩
  · cases h
theorem cell_spot {a : Addr} {v : Value} (h : w.cell? a = some v) : a.spot = none := by
  unfold World.cell? at h
  split at h
  · split at h
    · cases h
    · rename_i hs; simpa using hs
  · cases h
theorem add_plain (b o k : Nat) : (Addr.add ⟨b, o, none⟩ k) = ⟨b, o + k, none⟩ := by
  unfold Addr.add
  split
  · rename_i h; subst h; rfl
  · rfl
theorem reads_ok {sp : Nat → Bool} {hd : Bool} (hO : ∀ b, ¬ O b) : ∀ n, ReadsTo P enc w O sp hd n
  | 0 => fun fuel t cs ks x h _ => by cases h
  | n + 1 => fun fuel t cs ks x h ht => by
    have ih : ReadsTo P enc w O sp hd n := reads_ok hO n
    cases fuel with
    | zero => simp [DataW.trod] at ht
    | succ m =>
    simp only [shp] at h
    split at h
    ·
      rename_i hu
      cases h
      obtain ⟨b, rfl, _⟩ := DataW.trod_bool hu ht
      exact ⟨[.bool b], ⟨trivial, trivial⟩, .one rfl (.bool _)⟩
    · rename_i k hu
      cases h
      obtain ⟨i, rfl, _, hw⟩ := DataW.trod_int hu ht
      exact ⟨[.int k i], ⟨⟨rfl, hw⟩, trivial⟩, .one rfl (.int _ _)⟩
    · rename_i hu
      cases h
      obtain ⟨s, rfl, hsz⟩ : ∃ s, cs = [.string s] ∧ s.size ≤ maxLen := by
        unfold DataW.trod at ht
        rw [hu] at ht
        split at ht <;> simp_all
      exact ⟨[.str s], ⟨hsz, trivial⟩, .one rfl (.str _)⟩
    ·
      rename_i e hu
      split at h
      · rename_i ks0 h0
        cases hb : Nat.beq (P.cellsOf e) ks0.length && Nat.blt 0 ks0.length with
        | false => rw [hb] at h; cases h
        | true =>
        rw [hb] at h; simp only [cond_true] at h; cases h
        have hb := (Iff.of_eq (Bool.and_eq_true _ _)).1 hb |>.imp Nat.eq_of_beq_eq_true id
        have hz : 0 < ks0.length := Nat.lt_of_succ_le (Nat.le_of_ble_eq_true hb.2)
        rcases DataW.trod_slice hu ht with ⟨rfl, _⟩ | ⟨a, len, cap, elems, rest, m', _, rfl, _, _, hlc, hcm, hel, hget, _⟩
        · exact ⟨[.list false ks0.length []], by simp [DKs, DK, DKrows], .one rfl (.lnil false _ _ _ (by simp))⟩
        · rw [hb.1] at hget
          have hrow : ∀ i, i < len → ∃ r, DKs ks0 r ∧ ∃ cs, w.cells? 0 (a.add (i * ks0.length)) ks0.length = some cs ∧ CRel O w r cs := by
            intro i hi
            have h1 := hget i hi
            have hi' : i < elems.length := by omega
            rw [List.getElem?_eq_getElem hi'] at h1
            obtain ⟨cs, hcs, htr⟩ := Option.bind_eq_some_iff.1 h1
            obtain ⟨r, q1, q2⟩ := ih _ _ _ _ _ h0 htr
            exact ⟨r, q1, cs, hcs, q2⟩
          obtain ⟨es, hes, hp⟩ := exists_rows len hrow
          have hrows : DKrows ks0 es := DKrows_iff.2 fun r hr => by
            obtain ⟨i, hi⟩ := List.getElem?_of_mem hr
            exact (hp i r hi).1
          refine ⟨[.list false ks0.length es], ⟨⟨rfl, rfl, by omega, hrows⟩, trivial⟩, .one rfl ?_⟩
          by_cases h00 : len = 0
          · have : es = [] := List.length_eq_zero_iff.1 (by omega)
            subst this; subst h00
            exact .lnil false _ _ _ (by simp)
          ·
            have hne : es ≠ [] := fun h => h00 (by rw [h] at hes; exact hes.symm)
            have hspot : a.spot = none := by
              obtain ⟨r, hr⟩ : ∃ r, es[0]? = some r := ⟨es[0]'(by omega), List.getElem?_eq_getElem (by omega)⟩
              obtain ⟨_, cs, hcs, hcr⟩ := hp 0 r hr
              obtain ⟨e1, e2⟩ := cells_get hcs
              have e3 := e2 0 hz
              rw [List.getElem?_eq_getElem (by omega)] at e3
              have : (a.add (0 * ks0.length)).add 0 = a := by simp [Addr.add]
              rw [this] at e3
              exact cell_spot e3
            obtain ⟨b, o, s⟩ := a
            simp only at hspot; subst hspot
            have hcellk : ∀ (i : Nat) (r : List D) (j : Nat) (x : D), es[i]? = some r → r[j]? = some x → ∃ v, w.cell? ⟨b, o + (i * ks0.length + j), none⟩ = some v ∧ v.oneCell' = true ∧ DRel O w x v := by
              intro i r j x hi hj
              obtain ⟨q0, cs, hcs, hcr⟩ := hp i r hi
              obtain ⟨e1, e2⟩ := cells_get hcs
              obtain ⟨v, hv, h1, h2⟩ := hcr.2 j x hj
              have hj' : j < ks0.length := by rw [← q0.length]; exact (List.getElem?_eq_some_iff.1 hj).1
              have := e2 j hj'
              rw [add_plain, add_plain, hv, Nat.add_assoc] at this
              exact ⟨v, this, h1, h2⟩
            have hlens : ∀ (i : Nat) (r : List D), es[i]? = some r → r.length = ks0.length := fun i r hi => (hp i r hi).1.length
            let cell : Nat → Value := fun k => (w.cell? ⟨b, o + k, none⟩).getD undef
            have hall : ∀ k, k < es.length * ks0.length → ∃ v, w.cell? ⟨b, o + k, none⟩ = some v ∧ v.oneCell' = true := by
              intro k hk
              have hi : k / ks0.length < es.length := (Nat.div_lt_iff_lt_mul hz).2 hk
              have hj : k % ks0.length < ks0.length := Nat.mod_lt _ hz
              have hr := List.getElem?_eq_getElem hi
              have hj2 : k % ks0.length < (es[k / ks0.length]).length := by rw [hlens _ _ hr]; exact hj
              obtain ⟨v, a1, a2, _⟩ := hcellk _ _ _ _ hr (List.getElem?_eq_getElem hj2)
              have : k / ks0.length * ks0.length + k % ks0.length = k := by rw [Nat.mul_comm]; exact Nat.div_add_mod _ _
              rw [this] at a1
              exact ⟨v, a1, a2⟩
            have key := DRel.list (O := O) (w := w) false es b o ks0.length cap hz hne (hO b) (by omega) (by simp) hlens cell (fun k hk => ?_) (fun k hk => ?_) (fun i r j d hi hj => ?_)
            · rw [hes] at key; exact key
            · obtain ⟨v, a1, a2⟩ := hall k hk
              show ((w.cell? ⟨b, o + k, none⟩).getD undef).oneCell' = true
              rw [a1]; exact a2
            · obtain ⟨v, a1, a2⟩ := hall k hk
              show w.cell? ⟨b, o + k, none⟩ = some ((w.cell? ⟨b, o + k, none⟩).getD undef)
              rw [a1]; rfl
            · obtain ⟨v, a1, _, a3⟩ := hcellk i r j d hi hj
              show DRel O w d ((w.cell? ⟨b, o + (i * ks0.length + j), none⟩).getD undef)
              rw [a1]; exact a3
      · cases h
    ·
      rename_i fs hu
      split at h
      · rename_i ks0 h0
        cases hb : Nat.beq (P.cellsOf t) ks0.length with
        | false => rw [hb] at h; cases h
        | true =>
        rw [hb] at h; simp only [cond_true] at h; cases h
        have hb := Nat.eq_of_beq_eq_true hb
        obtain ⟨xs, m', _, _, hl, hxl, hf⟩ := DataW.trod_struct hu ht
        have := fields_ok (P := P) (enc := enc) (w := w) (O := O) (cs := cs) ih (fuel := m') fs.toList 0 ks h0 (by omega) (fun f hfm => by
          obtain ⟨i, hi⟩ := List.getElem?_of_mem hfm
          have hi' : fs[i]? = some f := by simpa using hi
          have := hf i f hi'
          have hlt : i < xs.length := by rw [hxl]; exact (Array.getElem?_eq_some_iff.1 hi').1
          rw [List.getElem?_eq_getElem hlt] at this
          exact ⟨_, this⟩)
        simpa using this
      · cases h
    · cases h
end
def isStruct (P : Program) (t : TypeId) : Bool := match P.underlying t with
  | some (.struct _) => true
  | _ => false
def DArg (P : Program) (n : Nat) (t : TypeId) (x : D) : Prop :=
  match isStruct P t, shp P n t with
  | true, some ks => ∃ ds, x = .agg ds ∧ DKs ks ds
  | false, some [k] => DK k x
  | _, _ => False
def DArgs (P : Program) (n : Nat) : List TypeId → List D → Prop
  | [], [] => True
  | t :: ts, x :: xs => DArg P n t x ∧ DArgs P n ts xs
  | _, _ => False
def shps (P : Program) (n : Nat) (ts : List TypeId) : Bool := ts.all fun t => match isStruct P t, shp P n t with
  | true, some _ => true
  | false, some [_] => true
  | _, _ => false
section
variable {P : Program} {H : Type} {enc : TypeId × Value → H} {w : World} {O : Nat → Prop}
theorem arg_ok (hO : ∀ b, ¬ O b) {n : Nat} {t : TypeId} {v : Value} {r : Reach} {base : Nat} {d : DataW H} {ps : List MemPlace} (hs : shps P n [t] = true) (hok : Value.okWide P w r base t v) (ht : DataW.Trod enc P w 0 (fun _ => true) true t v d ps) : ∃ x, DArg P n t x ∧ DRel O w x v := by
  obtain ⟨fuel, ht⟩ := ht
  simp only [shps, List.all_cons, List.all_nil, Bool.and_true] at hs
  unfold DArg
  split at hs
  · rename_i ks h1 h2
    obtain ⟨ds, a, b⟩ := reads_ok hO n _ _ _ _ _ h2 ht
    unfold isStruct at h1
    split at h1
    · rename_i fs hu
      unfold Value.okWide at hok
      rw [hu] at hok
      obtain ⟨cs, rfl, hc, _⟩ := hok
      refine ⟨_, ⟨ds, rfl, a⟩, .agg ds cs (by simpa [Value.cells] using b.1) fun i y hi => ?_⟩
      obtain ⟨u, hu1, _, hu3⟩ := b.2 i y hi
      have : cs[i]? = some u := by simpa [Value.cells] using hu1
      rw [Array.getD_eq_getD_getElem?, this]; exact hu3
    · cases h1
  · rename_i k h1 h2
    obtain ⟨ds, a, b⟩ := reads_ok hO n _ _ _ _ _ h2 ht
    have hl := a.length
    match ds, hl with
    | [x], _ =>
      refine ⟨x, a.1, ?_⟩
      obtain ⟨u, hu1, hu2, hu3⟩ := b.2 0 x rfl
      have hv : v = u := by
        cases v with
        | agg cs =>
          exfalso
          unfold Value.okWide at hok
          unfold isStruct at h1
          cases n with
          | zero => cases h2
          | succ n =>
            simp only [shp] at h2
            split at h2
            all_goals (rename_i hu; first | (rw [hu] at hok h1; simp [Cell.okWide, Cell.ok, hu] at hok h1) | cases h2)
        | _ => simpa [Value.cells] using hu1
      rw [hv]; exact hu3
  · cases hs
theorem args_ok (hO : ∀ b, ¬ O b) {n : Nat} {r : Reach} {base : Nat} : ∀ {ts : List TypeId} {vs : List Value} {ds : List (DataW H)} {ps : List MemPlace}, shps P n ts = true → (∀ (j : Nat) t v, ts[j]? = some t → vs[j]? = some v → Value.okWide P w r base t v) →
    DataW.TrodAll enc P w 0 (fun _ => true) true ts vs ds ps → ∃ xs, DArgs P n ts xs ∧ vs.length = xs.length ∧ ∀ (i : Nat) (x : D), xs[i]? = some x → ∃ v, vs[i]? = some v ∧ DRel O w x v
  | [], [], [], _, _, _, _ => ⟨[], trivial, rfl, fun i x h => by simp at h⟩
  | [], [], _ :: _, _, _, _, h => by simp [DataW.TrodAll] at h
  | [], _ :: _, _, _, _, _, h => by simp [DataW.TrodAll] at h
  | _ :: _, [], _, _, _, _, h => by simp [DataW.TrodAll] at h
  | _ :: _, _ :: _, [], _, _, _, h => by simp [DataW.TrodAll] at h
  | t :: ts, v :: vs, d :: ds, ps, hs, hok, h => by
    obtain ⟨p, q, h1, h2, _⟩ := h
    have hs' : shps P n [t] = true ∧ shps P n ts = true := by
      simp only [shps, List.all_cons, List.all_nil, Bool.and_true, Bool.and_eq_true] at hs ⊢
      exact hs
    obtain ⟨x, a1, a2⟩ := arg_ok hO hs'.1 (hok 0 t v rfl rfl) h1
    obtain ⟨xs, b1, b2, b3⟩ := args_ok hO hs'.2 (fun j t v h1 h2 => hok (j + 1) t v (by simpa using h1) (by simpa using h2)) h2
    refine ⟨x :: xs, ⟨a1, b1⟩, by simp [b2], fun i y hi => ?_⟩
    match i, hi with
    | 0, hi => cases hi; exact ⟨v, rfl, a2⟩
    | i + 1, hi => simpa using b3 i y (by simpa using hi)
structure SameOld (w w' : World) : Prop where
  os : w'.os = w.os
  tape : w'.tape = w.tape
  output : w'.output = w.output
  size : w.heap.size ≤ w'.heap.size
  block : ∀ b, b < w.heap.size → w'.heap[b]? = w.heap[b]?
theorem toA_len (l : List D) : (toA l).length = l.length := by
  induction l with
  | nil => rfl
  | cons x l ih => simp [toA, ih]
theorem calls_of_aret {g : FuncId} {args : Array Value} {xs : List D} {b : Bool} {h' : List AO} (ha : ARet P g (toA xs) [] (.d (.bool b)) h') (hl : args.toList.length = xs.length)
    (hx : ∀ (i : Nat) (x : D), xs[i]? = some x → ∃ v, args.toList[i]? = some v ∧ DRel (fun _ => False) w x v) : Calls P g args w fun e w' => e = .returned (.bool b) ∧ SameOld w w' := by
  intro cs
  let ρ0 : Rho := ⟨fun _ => none, fun _ => False⟩
  have hown : ownB ρ0 [] = fun _ => False := by
    funext c
    apply propext
    refine ⟨fun h => ?_, False.elim⟩
    rcases h with h | ⟨id, L, hL, _⟩
    · exact h
    · cases hL
  have hr : HeapRel P ρ0 [] w := ⟨fun id L hL => (by cases hL), fun id id' L L' hL => (by cases hL), fun b hb => hb.elim, fun id L hL => (by cases hL)⟩
  obtain ⟨ρ', v, w', fr, s1, s2, s3, s4, s5, s6, s7⟩ := ha.run ρ0 args w cs hr (fun id hid => absurd rfl hid) ⟨by rw [toA_len, ← hl]; simp, fun i x hi => by
    rw [toA_get] at hi
    obtain ⟨d, hd, rfl⟩ := Option.map_eq_some_iff.1 hi
    obtain ⟨v, hv, hr⟩ := hx i d hd
    rw [hown, Array.getD_eq_getD_getElem?]
    have : args[i]? = some v := by simpa using hv
    rw [this]; exact .d hr⟩
  refine ⟨.returned v, w', fr, ⟨?_, s7.os, s7.tape, s7.output, s7.keep.size, fun c hc => s7.keep.frame c hc ?_⟩, s1, s2, s3⟩
  · cases s4 with
    | d h => cases h; rfl
  · rw [hown]; exact id
theorem SameOld.at {w' : World} (h : SameOld w w') {p : MemPlace} (hp : p.block < w.heap.size) : w.sameAt w' p := by
  cases p with
  | cell b off =>
    show w'.cell? _ = w.cell? _
    exact cell_of_block (h.block b hp)
  | map b => exact h.block b hp
theorem TrodAll_carry {w w' : World} {sp : Nat → Bool} {hd : Bool} : ∀ {ts : List TypeId} {vs : List Value} {ds : List (DataW H)} {ps : List MemPlace}, DataW.TrodAll enc P w 0 sp hd ts vs ds ps → (∀ p ∈ ps, w.sameAt w' p) → DataW.TrodAll enc P w' 0 sp hd ts vs ds ps
  | [], [], [], _, h, _ => h
  | [], [], _ :: _, _, h, _ => by simp [DataW.TrodAll] at h
  | [], _ :: _, _, _, h, _ => by simp [DataW.TrodAll] at h
  | _ :: _, [], _, _, h, _ => by simp [DataW.TrodAll] at h
  | _ :: _, _ :: _, [], _, h, _ => by simp [DataW.TrodAll] at h
  | t :: ts, v :: vs, d :: ds, ps, h, hs => by
    obtain ⟨p, q, ⟨n, h1⟩, h2, rfl⟩ := h
    exact ⟨p, q, ⟨n, DataW.trod_carry n _ _ _ h1 fun x hx => hs x (by simp [hx])⟩, TrodAll_carry h2 fun x hx => hs x (by simp [hx]), rfl⟩
theorem keptBut_of {w' : World} {may : MemPlace → Prop} (h : SameOld w w') : w.keptBut w' may := by
  refine ⟨h.os, h.output, fun i hi => ?_⟩
  rw [h.block i hi]
  split
  · rename_i c t fr c' t' fr' h1 h2
    rw [h1] at h2; cases h2
    exact ⟨rfl, rfl, rfl, fun _ _ => rfl⟩
  · rename_i es clock es' clock' h1 h2
    rw [h1] at h2; cases h2
    exact .inr ⟨rfl, rfl⟩
  · rfl
theorem trodAll_len {sp : Nat → Bool} {hd : Bool} : ∀ {ts : List TypeId} {vs : List Value} {ds : List (DataW H)} {ps : List MemPlace}, DataW.TrodAll enc P w 0 sp hd ts vs ds ps → ds.length = ts.length
  | [], [], [], _, _ => rfl
  | [], [], _ :: _, _, h => by simp [DataW.TrodAll] at h
  | [], _ :: _, _, _, h => by simp [DataW.TrodAll] at h
  | _ :: _, [], _, _, h => by simp [DataW.TrodAll] at h
  | _ :: _, _ :: _, [], _, h => by simp [DataW.TrodAll] at h
  | t :: ts, v :: vs, d :: ds, ps, h => by
    obtain ⟨p, q, _, h2, _⟩ := h
    simp [trodAll_len h2]
theorem law_post {f : Func} {s : ChangeSpec} {W W' : World} {args : Array Value} {ds gs : List (DataW H)} {before : List MemPlace} {rt : TypeId}
    (hl : laidOutB P = true) (hm : mapsRowed P = true) (hsz : ((List.range P.types.size).all fun t => match P.underlying t with | some (.slice e) => decide (0 < P.cellsOf e) | _ => true) = true)
    (hts : f.params.toList.all (fun t => decide (t < P.types.size)) = true) (hv : s.vars = []) (hrt : f.resultTypes = #[rt]) (hrb : P.underlying rt = some .bool)
    (hfn : ∀ ds : List (DataW H), ds.length = f.params.toList.length → (s.fn H ds).results = [.lit (.bool true)] ∧ (s.fn H ds).args = ds ∧ (s.fn H ds).vars = [])
    (hW : DataW.Whole enc P f.params.toList s.vars false W args.toList ds gs before) (h : SameOld W W') : s.post enc P f false true false false W args (.bool true) W' := by
  have hW' := hW
  obtain ⟨p, q, hA, hV, rfl, hz, _⟩ := hW
  rw [hv] at hV
  have hlt := hW'.lt
  match gs, hV with
  | [], hV =>
  have hq : q = [] := hV
  subst hq
  simp only [List.append_nil] at hlt hz hW'
  obtain ⟨f1, f2, f3⟩ := hfn ds (trodAll_len hA)
  have hres : ∀ (b : Nat) (sp : Nat → Bool) (hd : Bool), DataW.TrodAll enc P W' b sp hd f.resultTypes.toList ((Value.bool true).resultList f.resultTypes.size) (s.fn H (ds ++ [])).results [] := by
    intro b sp hd
    rw [List.append_nil, f1, hrt]
    exact ⟨[], [], ⟨1, by simp [DataW.trod, hrb, Value.cells]⟩, rfl, rfl⟩
  have hargs : ∀ sp : Nat → Bool, (∀ x ∈ p, sp x.block = true) → DataW.TrodAll enc P W' 0 sp true f.params.toList args.toList (s.fn H (ds ++ [])).args p := by
    intro sp hsp
    rw [List.append_nil, f2]
    exact (TrodAll_carry hA fun x hx => h.at (hlt x hx)).respare (kids_rows hl hm) (slices_full_of P hsz) (fun t ht => by simpa using List.all_eq_true.1 hts t ht) hsp
  have hvars : ∀ sp : Nat → Bool, DataW.TrodVars enc P W' sp s.vars (s.fn H (ds ++ [])).vars [] := by
    intro sp; rw [List.append_nil, f3, hv]; rfl
  refine ⟨ds, [], p, [], p, [], hW', hres _ _ _, hargs _ (fun x hx => by simpa using hlt x hx), hvars _, keptBut_of h, fun _ => ?_⟩
  refine ⟨?_, _, _, ([] ++ p) ++ [], ⟨[] ++ p, [], trodAll_append (hargs _ (fun _ _ => rfl)) (hres _ _ _), hvars _, rfl, ?_, ?_⟩, ?_⟩
  · intro j t r h1 h2
    rw [hrt] at h1 h2
    match j, h1, h2 with
    | 0, h1, h2 =>
      simp at h1; subst h1
      have : r = .bool true := by simpa [Value.resultList] using h2.symm
      subst this
      unfold Value.okWide
      rw [hrb]
      simp [Cell.okWide, Cell.ok, hrb]
    | j + 1, h1, _ => simp at h1
  · intro b off hp
    have hp : MemPlace.cell b off ∈ p := by simpa using hp
    have := hz b off hp
    have hb := h.block b (hlt _ hp)
    unfold World.frozen? at this ⊢
    simp only at this ⊢
    rw [hb]; exact this
  · intro ha; cases ha
  · intro x hx _
    simpa using hx
end
end Go.Am
end

section
set_option linter.unusedVariables false
set_option linter.unusedSimpArgs false
namespace Go.Am
theorem need_eq {β : Type} (c : Bool) (x : Option β) : opt.need β c x = if c = true then x else none := by cases c <;> rfl
theorem ask_eq {β : Type} (c : Bool) (x y : Option β) : opt.ask β c x y = if c = true then x else y := by cases c <;> rfl
theorem ret_eq {β : Type} (x : β) : opt.ret β x = some x := rfl
theorem no_eq {β : Type} (n : Nat) : opt.no β n = none := rfl
theorem bnd_eq {α β : Type} (x : Option α) (f : α → Option β) : opt.bnd α β x f = x.bind f := rfl
theorem run_eq {β : Type} (x : Option β) : opt.run β x = x := rfl
theorem alt_eq {α β γ : Type} (x : Option (α ⊕ β)) (f : α → Option γ) (g : β → Option γ) : opt.alt α β γ x f g = x.bind (Sum.elim f g) := by
  cases x with
  | none => rfl
  | some y => cases y <;> rfl
theorem need_true {β : Type} (x : Option β) : opt.need β true x = x := rfl
theorem ask_true {β : Type} (x y : Option β) : opt.ask β true x y = x := rfl
theorem ask_false {β : Type} (x y : Option β) : opt.ask β false x y = y := rfl
section
variable (es l : List (List D)) (i j a b n : Nat) (x y : Int) (c d : Bool)
theorem std_len : std.len es = es.length := rfl
theorem std_ofNat : std.ofNat n = (n : Int) := rfl
theorem std_nat : std.nat x = x.toNat := rfl
theorem std_add : std.add a b = a + b := rfl
theorem std_sub : std.sub a b = a - b := rfl
theorem std_mul : std.mul a b = a * b := rfl
theorem std_leN : std.leN a b = decide (a ≤ b) := by
  show Nat.ble a b = _
  rw [Bool.eq_iff_iff]; simp
theorem std_eqN : std.eqN a b = decide (a = b) := by
  show Nat.beq a b = _
  rw [Bool.eq_iff_iff]; simp
theorem std_min : std.min a b = min a b := rfl
theorem std_and : std.and c d = (c && d) := rfl
theorem std_bEq : std.bEq c d = (c == d) := rfl
theorem std_app : std.app es l = es ++ l := rfl
theorem std_cut : std.cut es a n = (es.drop a).take n := rfl
theorem std_set (r : List D) : std.set es i r = es.set i r := rfl
theorem std_rep (r : List D) : std.rep n r = List.replicate n r := rfl
theorem std_splice : std.splice es i l = es.take i ++ l ++ es.drop (i + l.length) := rfl
theorem std_rdI : std.rdI es i j = dI (rdD es i j) := rfl
theorem std_rdB : std.rdB es i j = dB (rdD es i j) := rfl
theorem std_rdS : std.rdS es i j = dS (rdD es i j) := rfl
theorem std_rdL : std.rdL es i j = dL (rdD es i j) := rfl
theorem std_cvt (k : IntKind) : std.cvt k x = k.wrap x := rfl
theorem std_eql : std.cmp .eql x y = decide (x = y) := rfl
theorem std_neq : std.cmp .neq x y = !decide (x = y) := rfl
theorem std_lss : std.cmp .lss x y = decide (x < y) := rfl
theorem std_leq : std.cmp .leq x y = decide (x ≤ y) := rfl
theorem std_gtr : std.cmp .gtr x y = decide (x > y) := rfl
theorem std_geq : std.cmp .geq x y = decide (x ≥ y) := rfl
theorem std_mmin : std.mm .lss x y = min x y := by
  show (if y < x then y else x) = _
  omega
theorem std_mmax : std.mm .gtr x y = max x y := by
  show (if y > x then y else x) = _
  omega
theorem std_rowOk (ck : List CK) : std.rowOk es i ck = match es[i]? with | some r => cellsOk ck r | none => false := rfl
theorem ofNat_eq : (Int.ofNat n) = (n : Int) := rfl
theorem bif_eq {α : Type} (u v : α) : (bif c then u else v) = if c = true then u else v := by cases c <;> rfl
theorem wrap64 (h1 : -9223372036854775808 ≤ x) (h2 : x ≤ 9223372036854775807) : IntKind.i64.wrap x = x := by
  have e : IntKind.i64.wrap x = if x % 18446744073709551616 ≥ 9223372036854775808 then x % 18446744073709551616 - 18446744073709551616 else x % 18446744073709551616 := by
    unfold IntKind.wrap
    simp [IntKind.signed, IntKind.bits]
  rw [e]
  split <;> omega
theorem std_ar_add : std.ar .add .i64 x y = IntKind.i64.wrap (x + y) := rfl
theorem std_ar_sub : std.ar .sub .i64 x y = IntKind.i64.wrap (x - y) := rfl
theorem std_ar_mul : std.ar .mul .i64 x y = IntKind.i64.wrap (x * y) := rfl
theorem std_ar_quo : std.ar .quo .i64 x y = IntKind.i64.wrap (x.tdiv y) := rfl
theorem std_ar_rem : std.ar .rem .i64 x y = x.tmod y := rfl
end
end Go.Am
namespace Go.Am
theorem iter_to {S R σ : Type} {b : S → Option (S ⊕ R)} (e : σ → S) (I : σ → Prop) (μ : σ → Nat) (f : σ → R)
    (step : ∀ s, I s → (∃ s', b (e s) = some (.inl (e s')) ∧ I s' ∧ μ s' < μ s ∧ f s' = f s) ∨ b (e s) = some (.inr (f s))) : ∀ s, I s → iter b (e s) = some (f s) := by
  have : ∀ m s, μ s = m → I s → iter b (e s) = some (f s) := by
    intro m
    induction m using Nat.strongRecOn with
    | _ m ih =>
      intro s hm hi
      rcases step s hi with ⟨s', h1, h2, h3, h4⟩ | h1
      · rw [iter_unfold, h1, ← h4]; exact ih (μ s') (hm ▸ h3) s' rfl h2
      · rw [iter_unfold, h1]
  exact fun s hi => this _ s rfl hi
theorem iter_ev {S R σ : Type} {b : S → Option (S ⊕ R)} (e : σ → S) (I : σ → Prop) (μ : σ → Nat) (Q : R → Prop)
    (step : ∀ s, I s → (∃ s', b (e s) = some (.inl (e s')) ∧ I s' ∧ μ s' < μ s) ∨ (∃ r, b (e s) = some (.inr r) ∧ Q r)) : ∀ s, I s → ∃ r, iter b (e s) = some r ∧ Q r := by
  have : ∀ m s, μ s = m → I s → ∃ r, iter b (e s) = some r ∧ Q r := by
    intro m
    induction m using Nat.strongRecOn with
    | _ m ih =>
      intro s hm hi
      rcases step s hi with ⟨s', h1, h2, h3⟩ | ⟨r, h1, h2⟩
      · obtain ⟨r, a, b⟩ := ih (μ s') (hm ▸ h3) s' rfl h2
        exact ⟨r, by rw [iter_unfold, h1]; exact a, b⟩
      · exact ⟨r, by rw [iter_unfold, h1], h2⟩
  exact fun s hi => this _ s rfl hi
theorem iter_count {S R τ : Type} {b : S → Option (S ⊕ R)} (n : Nat) (e : τ → Nat → S) (I : τ → Nat → Prop) (Q : R → Prop)
    (step : ∀ t i, i < n → I t i → (∃ t', b (e t i) = some (.inl (e t' (i + 1))) ∧ I t' (i + 1)) ∨ (∃ r, b (e t i) = some (.inr r) ∧ Q r))
    (stop : ∀ t, I t n → ∃ r, b (e t n) = some (.inr r) ∧ Q r) (t : τ) (i : Nat) (hi : i ≤ n) (h : I t i) : ∃ r, iter b (e t i) = some r ∧ Q r := by
  refine iter_ev (σ := τ × Nat) (fun s => e s.1 s.2) (fun s => s.2 ≤ n ∧ I s.1 s.2) (fun s => n - s.2) Q ?_ (t, i) ⟨hi, h⟩
  rintro ⟨t, i⟩ ⟨hi, h⟩
  simp only at hi h ⊢
  rcases Nat.lt_or_ge i n with hlt | hge
  · rcases step t i hlt h with ⟨t', a, b⟩ | ⟨r, a, b⟩
    · exact .inl ⟨(t', i + 1), a, ⟨hlt, b⟩, by simp only; omega⟩
    · exact .inr ⟨r, a, b⟩
  · have : i = n := by omega
    subst this
    exact .inr (stop t h)
theorem drop_get {α : Type} {l : List α} {i : Nat} {m : α} (h : l[i]? = some m) : l.drop i = m :: l.drop (i + 1) := by
  obtain ⟨h1, h2⟩ := List.getElem?_eq_some_iff.1 h
  rw [List.drop_eq_getElem_cons h1, h2]
theorem get_some {α : Type} {l : List α} {i : Nat} (h : i < l.length) : ∃ m, l[i]? = some m := ⟨_, List.getElem?_eq_getElem h⟩
theorem wrap_nat {i : Nat} (h : i < 9223372036854775807) : IntKind.i64.wrap ((i : Int) + 1) = ((i + 1 : Nat) : Int) := by
  rw [wrap64] <;> omega
end Go.Am
end

section
set_option linter.unusedSectionVars false
set_option linter.unusedVariables false
set_option linter.unusedSimpArgs false
namespace Go.Am
section
variable {κ ν : Type} [DecidableEq κ]
def aIdx : List (κ × ν) → κ → Nat → Option (Nat × ν)
  | [], _, _ => none
  | (k', v) :: r, k, i => if k = k' then some (i, v) else aIdx r k (i + 1)
def aVal : List (κ × ν) → κ → Option ν
  | [], _ => none
  | (k', v) :: r, k => if k = k' then some v else aVal r k
def aSet : List (κ × ν) → κ → ν → List (κ × ν)
  | [], _, _ => []
  | (k', w) :: r, k, v => if k = k' then (k, v) :: r else (k', w) :: aSet r k v
def aDel : List (κ × ν) → κ → List (κ × ν)
  | [], _ => []
  | (k', w) :: r, k => if k = k' then r else (k', w) :: aDel r k
def aPut (m : List (κ × ν)) (k : κ) (v : ν) : List (κ × ν) := match aVal m k with
  | some _ => aSet m k v
  | none => m ++ [(k, v)]
theorem aIdx_val (k : κ) : ∀ (m : List (κ × ν)) (i : Nat), (aIdx m k i).map (·.2) = aVal m k
  | [], i => rfl
  | (k', v) :: r, i => by
    simp only [aIdx, aVal]
    split
    · rfl
    · exact aIdx_val k r (i + 1)
theorem aIdx_ge {k : κ} : ∀ {m : List (κ × ν)} {i j : Nat} {v : ν}, aIdx m k i = some (j, v) → i ≤ j ∧ j < i + m.length
  | (k', w) :: r, i, j, v, h => by
    simp only [aIdx] at h
    split at h
    · cases h; simp
    · have := aIdx_ge h; simp only [List.length_cons]; omega
theorem aIdx_set {k : κ} : ∀ {m : List (κ × ν)} {i j : Nat} {v : ν}, aIdx m k i = some (j, v) → ∀ w, m.set (j - i) (k, w) = aSet m k w
  | (k', u) :: r, i, j, v, h, w => by
    simp only [aIdx] at h
    simp only [aSet]
    split at h
    · rename_i e; cases h; rw [if_pos e, Nat.sub_self]; rfl
    · rename_i e
      have := aIdx_ge h
      rw [if_neg e, ← aIdx_set h w]
      have : j - i = (j - (i + 1)) + 1 := by omega
      rw [this]; rfl
theorem aIdx_del {k : κ} : ∀ {m : List (κ × ν)} {i j : Nat} {v : ν}, aIdx m k i = some (j, v) → m.eraseIdx (j - i) = aDel m k
  | (k', u) :: r, i, j, v, h => by
    simp only [aIdx] at h
    simp only [aDel]
    split at h
    · rename_i e; cases h; rw [if_pos e, Nat.sub_self]; rfl
    · rename_i e
      have := aIdx_ge h
      rw [if_neg e, ← aIdx_del h]
      have : j - i = (j - (i + 1)) + 1 := by omega
      rw [this]; rfl
theorem aVal_set (k : κ) (v : ν) (k' : κ) : ∀ m : List (κ × ν), aVal (aSet m k v) k' = if k' = k then (aVal m k).map fun _ => v else aVal m k'
  | [] => by simp [aSet, aVal]
  | (x, w) :: r => by
    have ih := aVal_set k v k' r
    simp only [aSet]
    by_cases h : k = x
    · rw [if_pos h]; subst h
      by_cases h' : k' = k
      · simp [aVal, h']
      · simp [aVal, h']
    · rw [if_neg h]
      simp only [aVal]
      rw [ih]
      by_cases h' : k' = x
      · subst h'
        rw [if_pos rfl, if_neg (fun e => h e.symm)]
        simp
      · rw [if_neg h']
        by_cases h'' : k' = k
        · subst h''; rw [if_pos rfl, if_pos rfl, if_neg h]
        · rw [if_neg h'', if_neg h'', if_neg h']
theorem aVal_append (k' : κ) (l : List (κ × ν)) : ∀ m : List (κ × ν), aVal (m ++ l) k' = (aVal m k').or (aVal l k')
  | [] => by simp [aVal]
  | (x, w) :: r => by
    simp only [List.cons_append, aVal, aVal_append k' l r]
    split <;> rfl
theorem aVal_put (m : List (κ × ν)) (k : κ) (v : ν) (k' : κ) : aVal (aPut m k v) k' = if k' = k then some v else aVal m k' := by
  unfold aPut
  cases h : aVal m k with
  | some w => simp only [aVal_set, h, Option.map_some]
  | none =>
    simp only [aVal_append, aVal]
    by_cases e : k' = k
    · subst e; simp [h]
    · simp [e]
theorem aSet_keys (k : κ) (v : ν) : ∀ m : List (κ × ν), (aSet m k v).map (·.1) = m.map (·.1)
  | [] => rfl
  | (x, w) :: r => by
    simp only [aSet]
    split
    · rename_i h; subst h; rfl
    · simp [aSet_keys k v r]
theorem aVal_none {k : κ} : ∀ {m : List (κ × ν)}, aVal m k = none ↔ k ∉ m.map (·.1)
  | [] => by simp [aVal]
  | (x, w) :: r => by
    simp only [aVal, List.map_cons, List.mem_cons, not_or]
    split
    · rename_i h; simp [h]
    · rename_i h; simp only [aVal_none (m := r)]; simp [h]
theorem aVal_some {k : κ} {m : List (κ × ν)} : (∃ v, aVal m k = some v) ↔ k ∈ m.map (·.1) := by
  cases h : aVal m k with
  | none => have := aVal_none.1 h; simp only [this, iff_false]; rintro ⟨_, h⟩; cases h
  | some v =>
    constructor
    · intro _
      exact Classical.byContradiction fun hn => by rw [aVal_none.2 hn] at h; cases h
    · intro _; exact ⟨v, rfl⟩
theorem aPut_nodup {m : List (κ × ν)} (h : (m.map (·.1)).Nodup) (k : κ) (v : ν) : ((aPut m k v).map (·.1)).Nodup := by
  unfold aPut
  cases hv : aVal m k with
  | some w => simp only [aSet_keys]; exact h
  | none =>
    simp only [List.map_append, List.map_cons, List.map_nil]
    refine List.nodup_append.2 ⟨h, by simp, fun a ha b hb => ?_⟩
    simp only [List.mem_singleton] at hb
    subst hb
    intro e; subst e
    exact aVal_none.1 hv ha
theorem aDel_sub (k : κ) : ∀ (m : List (κ × ν)), ((aDel m k).map (·.1)).Sublist (m.map (·.1))
  | [] => .slnil
  | (x, w) :: r => by
    simp only [aDel]
    split
    · exact List.sublist_cons_self _ _
    · exact (aDel_sub k r).cons_cons _
theorem aVal_del {k : κ} (k' : κ) : ∀ {m : List (κ × ν)}, (m.map (·.1)).Nodup → aVal (aDel m k) k' = if k' = k then none else aVal m k'
  | [], _ => by simp [aDel, aVal]
  | (x, w) :: r, h => by
    simp only [List.map_cons, List.nodup_cons] at h
    have ih := aVal_del (k := k) k' h.2
    simp only [aDel]
    by_cases e : k = x
    · rw [if_pos e]; subst e
      simp only [aVal]
      by_cases e' : k' = k
      · subst e'; rw [if_pos rfl]; exact aVal_none.2 h.1
      · rw [if_neg e', if_neg e']
    · rw [if_neg e]
      simp only [aVal, ih]
      by_cases e' : k' = x
      · subst e'; rw [if_pos rfl, if_neg (fun h => e h.symm), if_pos rfl]
      · rw [if_neg e', if_neg e']
end
structure MEnc (κ ν : Type) where
  ke : κ → D
  ve : ν → D
  ks : List SK
  ka : Bool
  va : Bool
  ck : List CK
structure MEnc.Ok {κ ν : Type} [DecidableEq κ] (E : MEnc κ ν) : Prop where
  agg : ∀ k, isAggD (E.ke k) = E.ka
  kinds : ∀ k, kindsOk E.ks (cellsDD (E.ke k)) = true
  eq : ∀ a b, eqCellsS E.ks (cellsDD (E.ke a)) (cellsDD (E.ke b)) = some (decide (a = b))
  vagg : ∀ v, isAggD (E.ve v) = E.va
  vok : ∀ v, cellsOk E.ck (cellsDD (E.ve v)) = true
def MEnc.enc {κ ν : Type} (E : MEnc κ ν) (m : List (κ × ν)) : List (D × D) := m.map fun e => (E.ke e.1, E.ve e.2)
section
variable {κ ν : Type} [DecidableEq κ] {E : MEnc κ ν} (h : E.Ok)
include h
theorem findS_enc (k : κ) : ∀ (m : List (κ × ν)) (i : Nat), findS E.ks E.ka (E.ke k) (E.enc m) i = some ((aIdx m k i).map fun x => (x.1, E.ve x.2))
  | [], i => rfl
  | (k', v) :: r, i => by
    have ih := findS_enc k r (i + 1)
    unfold MEnc.enc at ih ⊢
    simp only [List.map_cons, findS, h.agg, beq_self_eq_true, Bool.and_self, cond_true, h.eq, aIdx]
    by_cases e : k = k'
    · simp [e]
    · simp [e, ih]
theorem mOk_enc (m : List (κ × ν)) (k : κ) : std.mOk (E.enc m) E.ks E.ka (E.ke k) E.va E.ck = true := by
  show ((isAggD (E.ke k) == E.ka) && kindsOk E.ks (cellsDD (E.ke k)) && match findS E.ks E.ka (E.ke k) (E.enc m) 0 with | some none => true | some (some (_, v)) => (isAggD v == E.va) && cellsOk E.ck (cellsDD v) | none => false) = true
  rw [findS_enc h, h.agg, h.kinds]
  cases aIdx m k 0 with
  | none => simp
  | some x => simp [h.vagg, h.vok]
theorem mget_enc (m : List (κ × ν)) (k : κ) : mget (E.enc m) E.ks E.ka (E.ke k) = (aIdx m k 0).map fun x => (x.1, E.ve x.2) := by
  unfold mget; rw [findS_enc h]; rfl
theorem mhas_enc (m : List (κ × ν)) (k : κ) : std.mhas (E.enc m) E.ks E.ka (E.ke k) = (aVal m k).isSome := by
  show (mget _ _ _ _).isSome = _
  rw [mget_enc h, ← aIdx_val k m 0]; simp
theorem mcell_enc (m : List (κ × ν)) (k : κ) (j : Nat) {v : ν} (hv : aVal m k = some v) : mcell (E.enc m) E.ks E.ka (E.ke k) j = ((cellsDD (E.ve v))[j]?).getD .nilp := by
  unfold mcell
  rw [mget_enc h]
  rw [← aIdx_val k m 0] at hv
  cases ha : aIdx m k 0 with
  | none => rw [ha] at hv; cases hv
  | some x => rw [ha] at hv; cases hv; rfl
theorem mI_enc (m : List (κ × ν)) (k : κ) (j : Nat) {v : ν} (hv : aVal m k = some v) : std.mI (E.enc m) E.ks E.ka (E.ke k) j = dI (((cellsDD (E.ve v))[j]?).getD .nilp) := by
  show dI (mcell _ _ _ _ _) = _
  rw [mcell_enc h m k j hv]
theorem mB_enc (m : List (κ × ν)) (k : κ) (j : Nat) {v : ν} (hv : aVal m k = some v) : std.mB (E.enc m) E.ks E.ka (E.ke k) j = dB (((cellsDD (E.ve v))[j]?).getD .nilp) := by
  show dB (mcell _ _ _ _ _) = _
  rw [mcell_enc h m k j hv]
theorem mset_enc (m : List (κ × ν)) (k : κ) {v : ν} (hv : aVal m k = some v) (w : ν) : std.mset (E.enc m) (std.nat (std.ofNat (std.mpos (E.enc m) E.ks E.ka (E.ke k)))) (E.ke k) (E.ve w) = E.enc (aPut m k w) := by
  show (E.enc m).set (Int.toNat ((((mget (E.enc m) E.ks E.ka (E.ke k)).map (·.1)).getD 0 : Nat) : Int)) (E.ke k, E.ve w) = _
  rw [mget_enc h]
  have hv' := hv
  rw [← aIdx_val k m 0] at hv
  cases ha : aIdx m k 0 with
  | none => rw [ha] at hv; cases hv
  | some x =>
    obtain ⟨j, u⟩ := x
    simp only [Option.map_some, Option.getD_some, Int.toNat_natCast, aPut, hv', MEnc.enc]
    rw [← aIdx_set ha w, Nat.sub_zero, List.map_set]
theorem madd_enc (m : List (κ × ν)) (k : κ) (hv : aVal m k = none) (w : ν) : std.madd (E.enc m) (E.ke k) (E.ve w) = E.enc (aPut m k w) := by
  show E.enc m ++ [(E.ke k, E.ve w)] = _
  simp [aPut, hv, MEnc.enc]
theorem mdel_enc (m : List (κ × ν)) (k : κ) {v : ν} (hv : aVal m k = some v) : std.mdel (E.enc m) (std.nat (std.ofNat (std.mpos (E.enc m) E.ks E.ka (E.ke k)))) = E.enc (aDel m k) := by
  show (E.enc m).eraseIdx (Int.toNat ((((mget (E.enc m) E.ks E.ka (E.ke k)).map (·.1)).getD 0 : Nat) : Int)) = _
  rw [mget_enc h]
  rw [← aIdx_val k m 0] at hv
  cases ha : aIdx m k 0 with
  | none => rw [ha] at hv; cases hv
  | some x =>
    obtain ⟨j, u⟩ := x
    simp only [Option.map_some, Option.getD_some, Int.toNat_natCast, MEnc.enc]
    rw [← aIdx_del ha, Nat.sub_zero]
    apply List.ext_getElem?
    intro i
    simp only [List.getElem?_eraseIdx, List.getElem?_map]
    split <;> rfl
end
end Go.Am
end

section
set_option linter.unusedVariables false
set_option linter.unusedSimpArgs false
namespace Go.Proofs
open Go.RowKit Go.Maps Go.Sort Go.Shelf
def layKeysRen : Go.Shelf.Ren := ⟨fun | 10 => 63 | 7 => 60 | n => n, fun | 4 => 4 | 33 => 93 | 27 => 99 | 0 => 0 | 28 => 100 | 3 => 84 | 26 => 2 | 23 => 94 | n => n, fun | n => n⟩
theorem layKeys : Go.Proofs.SlLaysZI.n7 Try.prog layKeysRen :=
  { mixed := by kernel_rfl,
    f7 := by first | exact ⟨Try.f60.name, by decide, Try.func60.trans (congrArg some (by kernel_rfl))⟩ | exact Try.func60.trans (congrArg some (by kernel_rfl)),
    f10 := by first | exact ⟨Try.f63.name, by decide, Try.func63.trans (congrArg some (by kernel_rfl))⟩ | exact Try.func63.trans (congrArg some (by kernel_rfl)),
    t0 := by exact Try.underlying0,
    a0 := by exact Try.isAgg0,
    z0 := by exact Try.sizeOf0,
    v0 := by exact Try.zeroValue0,
    t4 := by exact Try.underlying4,
    a4 := by exact Try.isAgg4,
    z4 := by exact Try.sizeOf4,
    v4 := by exact Try.zeroValue4,
    t23 := by exact Try.underlying94,
    a23 := by exact Try.isAgg94,
    z23 := by exact Try.sizeOf94,
    v23 := by exact Try.zeroValue94,
    t26 := by exact Try.underlying2,
    a26 := by exact Try.isAgg2,
    z26 := by exact Try.sizeOf2,
    v26 := by exact Try.zeroValue2,
    t27 := by exact Try.underlying99,
    a27 := by exact Try.isAgg99,
    z27 := by exact Try.sizeOf99,
    v27 := by exact Try.zeroValue99,
    t28 := by exact Try.underlying100,
    a28 := by exact Try.isAgg100,
    z28 := by exact Try.sizeOf100,
    v28 := by exact Try.zeroValue100,
    t33 := by exact Try.underlying93,
    a33 := by exact Try.isAgg93,
    z33 := by exact Try.sizeOf93,
    v33 := by exact Try.zeroValue93 }
def laySortedRen : Go.Shelf.Ren := ⟨fun | 11 => 64 | 9 => 62 | 8 => 61 | 6 => 59 | n => n, fun | 0 => 0 | 24 => 51 | 28 => 100 | 26 => 2 | 33 => 93 | n => n, fun | n => n⟩
theorem laySorted : Go.Proofs.SlLaysZI.n6 Try.prog laySortedRen :=
  { mixed := by kernel_rfl,
    f6 := by first | exact ⟨Try.f59.name, by decide, Try.func59.trans (congrArg some (by kernel_rfl))⟩ | exact Try.func59.trans (congrArg some (by kernel_rfl)),
    f8 := by first | exact ⟨Try.f61.name, by decide, Try.func61.trans (congrArg some (by kernel_rfl))⟩ | exact Try.func61.trans (congrArg some (by kernel_rfl)),
    f11 := by first | exact ⟨Try.f64.name, by decide, Try.func64.trans (congrArg some (by kernel_rfl))⟩ | exact Try.func64.trans (congrArg some (by kernel_rfl)),
    t0 := by exact Try.underlying0,
    a0 := by exact Try.isAgg0,
    z0 := by exact Try.sizeOf0,
    v0 := by exact Try.zeroValue0,
    t24 := by exact Try.underlying51,
    a24 := by exact Try.isAgg51,
    z24 := by exact Try.sizeOf51,
    v24 := by exact Try.zeroValue51,
    t26 := by exact Try.underlying2,
    a26 := by exact Try.isAgg2,
    z26 := by exact Try.sizeOf2,
    v26 := by exact Try.zeroValue2,
    t28 := by exact Try.underlying100,
    a28 := by exact Try.isAgg100,
    z28 := by exact Try.sizeOf100,
    v28 := by exact Try.zeroValue100,
    i26 := by kernel_rfl }
def laySortRen : Go.Shelf.Ren := ⟨fun | 40 => 84 | 30 => 78 | 32 => 80 | 31 => 79 | 34 => 82 | 33 => 81 | 35 => 83 | 20 => 77 | 19 => 76 | 18 => 75 | 17 => 74 | 16 => 73 | 15 => 72 | 14 => 71 | 13 => 70 | 12 => 69 | 11 => 68 | 10 => 67 | 7 => 65 | 8 => 66 | 5 => 62 | n => n, fun | 64 => 126 | 63 => 125 | 53 => 119 | 57 => 123 | 9 => 9 | 5 => 5 | 46 => 118 | 44 => 89 | 41 => 114 | 35 => 108 | 36 => 109 | 4 => 4 | 0 => 0 | 22 => 51 | 32 => 106 | 3 => 3 | 25 => 2 | 23 => 51 | n => n, fun | n => n⟩
theorem laySort : Go.Proofs.SlLaysM.n5 Try.prog laySortRen :=
  { mixed := by kernel_rfl,
    f5 := by first | exact ⟨Try.f62.name, by decide, Try.func62.trans (congrArg some (by kernel_rfl))⟩ | exact Try.func62.trans (congrArg some (by kernel_rfl)),
    f7 := by first | exact ⟨Try.f65.name, by decide, Try.func65.trans (congrArg some (by kernel_rfl))⟩ | exact Try.func65.trans (congrArg some (by kernel_rfl)),
    f8 := by first | exact ⟨Try.f66.name, by decide, Try.func66.trans (congrArg some (by kernel_rfl))⟩ | exact Try.func66.trans (congrArg some (by kernel_rfl)),
    f10 := by first | exact ⟨Try.f67.name, by decide, Try.func67.trans (congrArg some (by kernel_rfl))⟩ | exact Try.func67.trans (congrArg some (by kernel_rfl)),
    f11 := by first | exact ⟨Try.f68.name, by decide, Try.func68.trans (congrArg some (by kernel_rfl))⟩ | exact Try.func68.trans (congrArg some (by kernel_rfl)),
    f12 := by first | exact ⟨Try.f69.name, by decide, Try.func69.trans (congrArg some (by kernel_rfl))⟩ | exact Try.func69.trans (congrArg some (by kernel_rfl)),
    f13 := by first | exact ⟨Try.f70.name, by decide, Try.func70.trans (congrArg some (by kernel_rfl))⟩ | exact Try.func70.trans (congrArg some (by kernel_rfl)),
    f14 := by first | exact ⟨Try.f71.name, by decide, Try.func71.trans (congrArg some (by kernel_rfl))⟩ | exact Try.func71.trans (congrArg some (by kernel_rfl)),
    f15 := by first | exact ⟨Try.f72.name, by decide, Try.func72.trans (congrArg some (by kernel_rfl))⟩ | exact Try.func72.trans (congrArg some (by kernel_rfl)),
    f16 := by first | exact ⟨Try.f73.name, by decide, Try.func73.trans (congrArg some (by kernel_rfl))⟩ | exact Try.func73.trans (congrArg some (by kernel_rfl)),
    f17 := by first | exact ⟨Try.f74.name, by decide, Try.func74.trans (congrArg some (by kernel_rfl))⟩ | exact Try.func74.trans (congrArg some (by kernel_rfl)),
    f18 := by first | exact ⟨Try.f75.name, by decide, Try.func75.trans (congrArg some (by kernel_rfl))⟩ | exact Try.func75.trans (congrArg some (by kernel_rfl)),
    f19 := by first | exact ⟨Try.f76.name, by decide, Try.func76.trans (congrArg some (by kernel_rfl))⟩ | exact Try.func76.trans (congrArg some (by kernel_rfl)),
    f20 := by first | exact ⟨Try.f77.name, by decide, Try.func77.trans (congrArg some (by kernel_rfl))⟩ | exact Try.func77.trans (congrArg some (by kernel_rfl)),
    f30 := by first | exact ⟨Try.f78.name, by decide, Try.func78.trans (congrArg some (by kernel_rfl))⟩ | exact Try.func78.trans (congrArg some (by kernel_rfl)),
    f31 := by first | exact ⟨Try.f79.name, by decide, Try.func79.trans (congrArg some (by kernel_rfl))⟩ | exact Try.func79.trans (congrArg some (by kernel_rfl)),
    f32 := by first | exact ⟨Try.f80.name, by decide, Try.func80.trans (congrArg some (by kernel_rfl))⟩ | exact Try.func80.trans (congrArg some (by kernel_rfl)),
    f33 := by first | exact ⟨Try.f81.name, by decide, Try.func81.trans (congrArg some (by kernel_rfl))⟩ | exact Try.func81.trans (congrArg some (by kernel_rfl)),
    f34 := by first | exact ⟨Try.f82.name, by decide, Try.func82.trans (congrArg some (by kernel_rfl))⟩ | exact Try.func82.trans (congrArg some (by kernel_rfl)),
    f35 := by first | exact ⟨Try.f83.name, by decide, Try.func83.trans (congrArg some (by kernel_rfl))⟩ | exact Try.func83.trans (congrArg some (by kernel_rfl)),
    f40 := by first | exact ⟨Try.f84.name, by decide, Try.func84.trans (congrArg some (by kernel_rfl))⟩ | exact Try.func84.trans (congrArg some (by kernel_rfl)),
    t0 := by exact Try.underlying0,
    a0 := by exact Try.isAgg0,
    z0 := by exact Try.sizeOf0,
    v0 := by exact Try.zeroValue0,
    t3 := by exact Try.underlying3,
    a3 := by exact Try.isAgg3,
    z3 := by exact Try.sizeOf3,
    v3 := by exact Try.zeroValue3,
    t4 := by exact Try.underlying4,
    a4 := by exact Try.isAgg4,
    z4 := by exact Try.sizeOf4,
    v4 := by exact Try.zeroValue4,
    t5 := by exact Try.underlying5,
    a5 := by exact Try.isAgg5,
    z5 := by exact Try.sizeOf5,
    v5 := by exact Try.zeroValue5,
    t9 := by exact Try.underlying9,
    a9 := by exact Try.isAgg9,
    z9 := by exact Try.sizeOf9,
    v9 := by exact Try.zeroValue9,
    t22 := by exact Try.underlying51,
    a22 := by exact Try.isAgg51,
    z22 := by exact Try.sizeOf51,
    v22 := by exact Try.zeroValue51,
    t23 := by exact Try.underlying51,
    a23 := by exact Try.isAgg51,
    z23 := by exact Try.sizeOf51,
    v23 := by exact Try.zeroValue51,
    t25 := by exact Try.underlying2,
    a25 := by exact Try.isAgg2,
    z25 := by exact Try.sizeOf2,
    v25 := by exact Try.zeroValue2,
    t32 := by exact Try.underlying106,
    a32 := by exact Try.isAgg106,
    z32 := by exact Try.sizeOf106,
    v32 := by exact Try.zeroValue106,
    t35 := by exact Try.underlying108,
    a35 := by exact Try.isAgg108,
    z35 := by exact Try.sizeOf108,
    v35 := by exact Try.zeroValue108,
    t36 := by exact Try.underlying109,
    a36 := by exact Try.isAgg109,
    z36 := by exact Try.sizeOf109,
    v36 := by exact Try.zeroValue109,
    t41 := by exact Try.underlying114,
    a41 := by exact Try.isAgg114,
    z41 := by exact Try.sizeOf114,
    v41 := by exact Try.zeroValue114,
    t44 := by exact Try.underlying89,
    a44 := by exact Try.isAgg89,
    z44 := by exact Try.sizeOf89,
    v44 := by exact Try.zeroValue89,
    t46 := by exact Try.underlying118,
    a46 := by exact Try.isAgg118,
    z46 := by exact Try.sizeOf118,
    v46 := by exact Try.zeroValue118,
    t53 := by exact Try.underlying119,
    a53 := by exact Try.isAgg119,
    z53 := by exact Try.sizeOf119,
    v53 := by exact Try.zeroValue119,
    t57 := by exact Try.underlying123,
    a57 := by exact Try.isAgg123,
    z57 := by exact Try.sizeOf123,
    v57 := by exact Try.zeroValue123,
    t63 := by exact Try.underlying125,
    a63 := by exact Try.isAgg125,
    z63 := by exact Try.sizeOf125,
    v63 := by exact Try.zeroValue125,
    t64 := by exact Try.underlying126,
    a64 := by exact Try.isAgg126,
    z64 := by exact Try.sizeOf126,
    v64 := by exact Try.zeroValue126 }
theorem sorts55 (m : Nat) : AnyZI.SortsIn Try.prog laySortedRen Fence.wide m :=
  ⟨fun blk off cap ss W hH hblk hsz => callsIn_wide.2 (AnyM.slices_Sort_int laySort blk off cap ss W hH hblk hsz),
   fun p cap W => callsIn_wide.2 (AnyM.slices_Sort_int_none laySort p cap W)⟩
set_option maxHeartbeats 1000000 in
theorem keys55 : Go.Am.KeysCall Try.prog 2 55 := fun b nn D0 R w hown hmax hbytes => by
  refine (callsIn_wide (n := 6)).1 ?_
  have hbl := hown.lt
  have hseq : SeqGives Fence.wide 2 Try.prog 63 #[.pointer (some ⟨w.heap.size, 0, none⟩)] encZ (fun ss => ss.Perm (intKeys D0)) (Maps.size D0) (w.alloc (.cells #[.map (some b)] 94)) :=
    AnyZI.keys_gives (ρ := layKeysRen) { layKeys with } Fence.wide _ trivial rfl (by omega) w.heap.size b nn D0 _ (by simp) (by simp) (by
      obtain ⟨es, clock, hb, Ft, hs, hD⟩ := hown
      exact ⟨es, clock, (Below.heap_alloc _ _ b hbl).trans hb, Ft, hs, hD⟩)
  have cK : ∀ mb W, CallsIn Fence.wide 5 Try.prog 60 #[.map mb] W fun e w' => e = .returned (.func (.func 63) #[] #[.pointer (some ⟨W.heap.size, 0, none⟩)]) ∧ w' = W.alloc (.cells #[.map mb] 94) := fun mb W => AnyZI.keys_in layKeys Fence.wide 5 trivial rfl mb W
  have cS := AnyZI.sorted_in laySorted Fence.wide 5 trivial trivial trivial trivial rfl (by omega) (sorts55 _) (enters_of Try.func62 (by kernel_rfl) rfl) 63 #[.pointer (some ⟨w.heap.size, 0, none⟩)] trivial (enters_of Try.func63 (by kernel_rfl) rfl) _ _ hmax hbytes _ hseq
  change CallsIn _ _ Try.prog 59 _ _ _ at cS
  have hfK : Fence.wide.fn 60 := trivial
  have hfS : Fence.wide.fn 59 := trivial
  refine callsIn_of_wp Try.func55 rfl trivial ?_ rfl
  simp only [Try.ntmps55, List.size_toArray, List.length_cons, List.length_nil, Nat.reduceAdd, Nat.reduceSub, Array.replicate_succ, Array.replicate_zero, List.push_toArray, List.append_toArray, List.nil_append, List.cons_append]
  gi_wp2_with (first
    | (gi_at_call 60; refine (cK _ _).mono ?_; rintro e w' ⟨rfl, rfl⟩)
    | (gi_at_call 59; refine cS.mono ?_; rintro e w' ⟨v, ss, rfl, hS, hrow, hnil, hb⟩))
  go_ret
  exact ⟨v, ss, rfl, hS, ownsRow_base_a hrow (by simp), ((Below.refl _ w).alloc (Nat.le_refl _) _).trans (hb.mono (by simp))⟩
end Go.Proofs
namespace Go.Am
noncomputable def ctr55 : Ctr := ⟨55, [.map 0], [.map], [(.ret, ⟨[(0, .vec 1 1)], [.map, .row [(Go.Am.CK.int Go.IntKind.i64)]], 1⟩)]⟩
noncomputable def G55 (_ : Prim) (x : List (D × D) × Unit) : Option (List (D × D) × (List (List D) × Unit)) := bif keysGood x.1 then some (x.1, (rowsI (isort (keysI x.1)), ())) else none
noncomputable def F55 : Prim → Tup (ctr55).scs → Option (STup (scss (ctr55).outs)) := fun p x => G55 p x
theorem follows_mixed : Go.Proofs.Try.prog.follows .mixedOrders = true := by kernel_rfl
theorem ok55 : CtrOk Go.Proofs.Try.prog ctr55 (F55 std) := by
  refine ⟨Go.Proofs.enters_of Go.Proofs.Try.func55 (by kernel_rfl) rfl, fun x y hy => ?_⟩
  obtain ⟨es, u⟩ := x
  change (bif keysGood es then some _ else none) = _ at hy
  cases hg : keysGood es with
  | false => rw [hg] at hy; cases hy
  | true =>
    rw [hg] at hy
    cases hy
    exact ⟨by show 1 ≤ 2; omega, keys_aret (P := Go.Proofs.Try.prog) (T := 2) Go.Proofs.Try.underlying2 Go.Proofs.keys55 hg⟩
end Go.Am
end

section
set_option linter.unusedVariables false
namespace Go.Am.M08
def Above (W S : Nat → Int) (p q m : Nat) : Prop := (S q - S p) * (W m - W p) ≤ (S m - S p) * (W q - W p)
def Slope (W S : Nat → Int) (p q r s : Nat) : Prop := (S q - S p) * (W s - W r) < (S s - S r) * (W q - W p)
def Good (W S : Nat → Int) (p q : Nat) : Prop := ∀ m, p ≤ m → m ≤ q → Above W S p q m
def Chain (W S : Nat → Int) : Nat → List Nat → Prop
  | _, [] => True
  | p, q :: r => p < q ∧ Good W S p q ∧ (∀ q2, r.head? = some q2 → Slope W S p q q q2) ∧ Chain W S q r
def AllB (f : Nat → Nat → Prop) : Nat → List Nat → Prop
  | _, [] => True
  | p, q :: r => f p q ∧ AllB f q r
section
variable {W S : Nat → Int}
theorem mul_le_cancel {a b c : Int} (hc : 0 < c) (h : a * c ≤ b * c) : a ≤ b := Int.le_of_mul_le_mul_right h hc
theorem above_left {p q r m : Nat} (h1 : W p < W q) (h2 : W q < W r) (hm : W q ≤ W m) (hs : Slope W S p q q r) (h : Above W S q r m) : Above W S p q m := by
  unfold Above Slope at *
  have e1 : (S r - S q) * (W m - W q) * (W q - W p) ≤ (S m - S q) * (W r - W q) * (W q - W p) := Int.mul_le_mul_of_nonneg_right h (by omega)
  have e2 : (S q - S p) * (W r - W q) * (W m - W q) ≤ (S r - S q) * (W q - W p) * (W m - W q) := Int.mul_le_mul_of_nonneg_right (Int.le_of_lt hs) (by omega)
  have key : ((S q - S p) * (W m - W p)) * (W r - W q) ≤ ((S m - S p) * (W q - W p)) * (W r - W q) := by
    grind
  exact mul_le_cancel (by omega) key
theorem above_right {p q r m : Nat} (h1 : W p < W q) (h2 : W q < W r) (hm : W m ≤ W q) (hs : Slope W S p q q r) (h : Above W S p q m) : Above W S q r m := by
  unfold Above Slope at *
  have e1 : (S q - S p) * (W m - W p) * (W r - W q) ≤ (S m - S p) * (W q - W p) * (W r - W q) := Int.mul_le_mul_of_nonneg_right h (by omega)
  have e2 : (S q - S p) * (W r - W q) * (W q - W m) ≤ (S r - S q) * (W q - W p) * (W q - W m) := Int.mul_le_mul_of_nonneg_right (Int.le_of_lt hs) (by omega)
  have key : ((S r - S q) * (W m - W q)) * (W q - W p) ≤ ((S m - S q) * (W r - W q)) * (W q - W p) := by
    grind
  exact mul_le_cancel (by omega) key
theorem good_pool {p q r : Nat} (hpq : W p < W q) (hqr : W q < W r) (hmono : ∀ i j, i ≤ j → j ≤ r → W i ≤ W j) (hq : q ≤ r) (h1 : Good W S p q) (h2 : Good W S q r) (hs : ¬ Slope W S p q q r) : Good W S p r := by
  intro m hm1 hm2
  have hs : (S r - S q) * (W q - W p) ≤ (S q - S p) * (W r - W q) := Int.not_lt.1 hs
  have hWpm := hmono p m hm1 hm2
  rcases Nat.lt_or_ge q m with hlt | hge
  · have h := h2 m (Nat.le_of_lt hlt) hm2
    have hWqm := hmono q m (Nat.le_of_lt hlt) hm2
    have hWmr := hmono m r hm2 (Nat.le_refl _)
    unfold Above at *
    have e1 : (S r - S q) * (W m - W q) * (W r - W p) ≤ (S m - S q) * (W r - W q) * (W r - W p) := Int.mul_le_mul_of_nonneg_right h (by omega)
    have e2 : (S r - S q) * (W q - W p) * (W r - W m) ≤ (S q - S p) * (W r - W q) * (W r - W m) := Int.mul_le_mul_of_nonneg_right hs (by omega)
    have key : ((S r - S p) * (W m - W p)) * (W r - W q) ≤ ((S m - S p) * (W r - W p)) * (W r - W q) := by
      grind
    exact mul_le_cancel (by omega) key
  · have h := h1 m hm1 hge
    unfold Above at *
    have e1 : (S q - S p) * (W m - W p) * (W r - W p) ≤ (S m - S p) * (W q - W p) * (W r - W p) := Int.mul_le_mul_of_nonneg_right h (by omega)
    have e2 : (S r - S q) * (W q - W p) * (W m - W p) ≤ (S q - S p) * (W r - W q) * (W m - W p) := Int.mul_le_mul_of_nonneg_right hs (by omega)
    have key : ((S r - S p) * (W m - W p)) * (W q - W p) ≤ ((S m - S p) * (W r - W p)) * (W q - W p) := by
      grind
    exact mul_le_cancel (by omega) key
theorem good_one {p : Nat} : Good W S p (p + 1) := by
  intro m h1 h2
  unfold Above
  rcases Nat.eq_or_lt_of_le h1 with h | h
  · subst h; simp
  · have : m = p + 1 := by omega
    subst this; exact Int.le_refl _
theorem chain_last {p : Nat} {bs : List Nat} (h : Chain W S p bs) : p ≤ bs.getLastD p := by
  induction bs generalizing p with
  | nil => exact Nat.le_refl _
  | cons q r ih =>
    have := ih h.2.2.2
    cases r with
    | nil => exact Nat.le_of_lt h.1
    | cons x r => exact Nat.le_trans (Nat.le_of_lt h.1) this
theorem getLastD_cons (p q : Nat) (r : List Nat) : (q :: r).getLastD p = r.getLastD q := by
  cases r <;> simp [List.getLastD]
variable {n : Nat} (hW : ∀ i j, i < j → j ≤ n → W i < W j)
include hW
theorem w_le {i j : Nat} (h : i ≤ j) (hj : j ≤ n) : W i ≤ W j := by
  rcases Nat.eq_or_lt_of_le h with h | h
  · rw [h]; exact Int.le_refl _
  · exact Int.le_of_lt (hW i j h hj)
theorem supp_right {r : List Nat} : ∀ {p q : Nat}, Chain W S p (q :: r) → (q :: r).getLastD p ≤ n → ∀ m, p ≤ m → m ≤ (q :: r).getLastD p → Above W S p q m := by
  induction r with
  | nil =>
    intro p q h hl m h1 h2
    exact h.2.1 m h1 (by simpa [List.getLastD] using h2)
  | cons q2 r ih =>
    intro p q h hl m h1 h2
    rw [getLastD_cons] at hl h2
    rcases Nat.lt_or_ge q m with hlt | hge
    · have a := ih h.2.2.2 hl m (Nat.le_of_lt hlt) h2
      have hq2 : q2 ≤ n := by
        have := chain_last h.2.2.2.2.2.2
        rw [getLastD_cons] at hl
        omega
      exact above_left (hW p q h.1 (by have := h.2.2.2.1; omega)) (hW q q2 h.2.2.2.1 hq2) (w_le hW (Nat.le_of_lt hlt) (by omega)) (h.2.2.1 q2 rfl) a
    · exact h.2.1 m h1 hge
theorem supp {r : List Nat} : ∀ {p q : Nat} {m : Nat}, Chain W S p (q :: r) → (q :: r).getLastD p ≤ n → m ≤ (q :: r).getLastD p → (m ≤ p → Above W S p q m) → AllB (fun p q => Above W S p q m) p (q :: r) := by
  induction r with
  | nil =>
    intro p q m h hl hm hp
    refine ⟨?_, trivial⟩
    rcases Nat.lt_or_ge m p with h1 | h1
    · exact hp (Nat.le_of_lt h1)
    · exact supp_right hW h hl m h1 hm
  | cons q2 r ih =>
    intro p q m h hl hm hp
    have a : Above W S p q m := by
      rcases Nat.lt_or_ge m p with h1 | h1
      · exact hp (Nat.le_of_lt h1)
      · exact supp_right hW h hl m h1 hm
    refine ⟨a, ?_⟩
    rw [getLastD_cons] at hl hm
    refine ih h.2.2.2 hl hm fun hq => ?_
    have hq2 : q2 ≤ n := by
      have := chain_last h.2.2.2.2.2.2
      rw [getLastD_cons] at hl
      omega
    exact above_right (hW p q h.1 (by have := h.2.2.2.1; omega)) (hW q q2 h.2.2.2.1 hq2) (w_le hW hq (by have := h.2.2.2.1; omega)) (h.2.2.1 q2 rfl) a
theorem supp0 {bs : List Nat} (h : Chain W S 0 bs) (hl : bs.getLastD 0 = n) {m : Nat} (hm : m ≤ n) : AllB (fun p q => Above W S p q m) 0 bs := by
  cases bs with
  | nil => trivial
  | cons q r =>
    refine supp hW h (by omega) (by omega) fun h0 => ?_
    have : m = 0 := by omega
    subst this
    unfold Above; simp
theorem chain_unique : ∀ {bs bs' : List Nat} {p : Nat}, Chain W S p bs → Chain W S p bs' → bs.getLastD p = n → bs'.getLastD p = n → bs = bs' := by
  intro bs
  induction bs with
  | nil =>
    intro bs' p h h' e e'
    cases bs' with
    | nil => rfl
    | cons q r =>
      have := chain_last h'.2.2.2
      rw [getLastD_cons] at e'
      simp only [List.getLastD] at e
      have := h'.1
      omega
  | cons q r ih =>
    intro bs' p h h' e e'
    cases bs' with
    | nil =>
      have := chain_last h.2.2.2
      rw [getLastD_cons] at e
      simp only [List.getLastD] at e'
      have := h.1
      omega
    | cons q' r' =>
      have hqn : q ≤ n := by have := chain_last h.2.2.2; rw [getLastD_cons] at e; omega
      have hqn' : q' ≤ n := by have := chain_last h'.2.2.2; rw [getLastD_cons] at e'; omega
      have no : ∀ {q q' : Nat} {r r' : List Nat}, Chain W S p (q :: r) → Chain W S p (q' :: r') → (q :: r).getLastD p = n → (q' :: r').getLastD p = n → q' ≤ n → ¬ q < q' := by
        intro q q' r r' h h' e e' hqn' hlt
        have a := h'.2.1 q (Nat.le_of_lt h.1) (Nat.le_of_lt hlt)
        cases r with
        | nil =>
          simp only [List.getLastD] at e
          simp at e; omega
        | cons q2 r =>
          rw [getLastD_cons] at e
          have b := supp_right hW h.2.2.2 (by omega) q' (Nat.le_of_lt hlt) (by omega)
          have hs := h.2.2.1 q2 rfl
          have hq2 : q2 ≤ n := by have := chain_last h.2.2.2.2.2.2; rw [getLastD_cons] at e; omega
          have w1 := hW p q h.1 (by omega)
          have w2 := hW q q2 h.2.2.2.1 hq2
          have w3 := hW q q' hlt hqn'
          unfold Above Slope at *
          have e2 : (S q - S p) * (W q2 - W q) * (W q' - W q) < (S q2 - S q) * (W q - W p) * (W q' - W q) := Int.mul_lt_mul_of_pos_right hs (by omega)
          have e1 : (S q2 - S q) * (W q' - W q) * (W q - W p) ≤ (S q' - S q) * (W q2 - W q) * (W q - W p) := Int.mul_le_mul_of_nonneg_right b (by omega)
          have key : (S q - S p) * (W q' - W q) * (W q2 - W q) < (S q' - S q) * (W q - W p) * (W q2 - W q) := by grind
          have key2 : (S q - S p) * (W q' - W q) < (S q' - S q) * (W q - W p) := Int.lt_of_mul_lt_mul_right key (by omega)
          grind
      have hqq : q = q' := by
        rcases Nat.lt_trichotomy q q' with h1 | h1 | h1
        · exact (no h h' e e' hqn' h1).elim
        · exact h1
        · exact (no h' h e' e hqn h1).elim
      subst hqq
      rw [getLastD_cons] at e e'
      rw [ih h.2.2.2 h'.2.2.2 e e']
end
end Go.Am.M08
end

section
set_option linter.unusedVariables false
namespace Go.Am.M08
def RC (W S : Nat → Int) : List (Nat × Nat) → Nat → Prop
  | [], e => e = 0
  | (p, q) :: r, e => q = e ∧ p < q ∧ Good W S p q ∧ (∀ t, r.head? = some t → Slope W S t.1 t.2 p q) ∧ RC W S r p
open Classical in
noncomputable def pushN (W S : Nat → Int) : List (Nat × Nat) → Nat → Nat → List (Nat × Nat)
  | [], a, b => [(a, b)]
  | (p, q) :: r, a, b => if Slope W S p q a b then (a, b) :: (p, q) :: r else pushN W S r p b
def pairs : Nat → List Nat → List (Nat × Nat)
  | _, [] => []
  | p, q :: r => (p, q) :: pairs q r
section
variable {W S : Nat → Int} {n : Nat} (hW : ∀ i j, i < j → j ≤ n → W i < W j)
include hW
theorem push_ok {b : Nat} (hb : b ≤ n) : ∀ {st : List (Nat × Nat)} {a : Nat}, RC W S st a → a < b → Good W S a b → RC W S (pushN W S st a b) b := by
  intro st
  induction st with
  | nil =>
    intro a h hab hg
    exact ⟨rfl, hab, hg, fun t h => by simp at h, h⟩
  | cons t r ih =>
    obtain ⟨p, q⟩ := t
    intro a h hab hg
    obtain ⟨rfl, hpq, hgp, hsl, hr⟩ := h
    simp only [pushN]
    split
    · rename_i hs
      exact ⟨rfl, hab, hg, fun t h => by simp at h; subst h; exact hs, rfl, hpq, hgp, hsl, hr⟩
    · rename_i hs
      refine ih hr (by omega) (good_pool (hW p q hpq (by omega)) (hW q b hab hb) (fun i j hij hj => w_le hW hij (by omega)) (Nat.le_of_lt hab) hgp hg hs)
end
section
variable {W S : Nat → Int}
theorem rc_chain : ∀ {st : List (Nat × Nat)} {e : Nat} {bs : List Nat}, RC W S st e → Chain W S e bs → (∀ t q2, st.head? = some t → bs.head? = some q2 → Slope W S t.1 t.2 e q2) → Chain W S 0 (st.reverse.map (·.2) ++ bs) := by
  intro st
  induction st with
  | nil =>
    intro e bs h hc _
    have : e = 0 := h
    subst this
    simpa using hc
  | cons t r ih =>
    obtain ⟨p, q⟩ := t
    intro e bs h hc hs
    obtain ⟨rfl, hpq, hgp, hsl, hr⟩ := h
    have := ih (bs := q :: bs) hr ⟨hpq, hgp, fun q2 h2 => hs (p, q) q2 rfl h2, hc⟩ (fun t q2 ht hq => by
      simp at hq; subst hq
      exact hsl t ht)
    simpa [List.append_assoc] using this
theorem rc_pairs : ∀ {st : List (Nat × Nat)} {e : Nat} {bs : List Nat}, RC W S st e → pairs 0 (st.reverse.map (·.2) ++ bs) = st.reverse ++ pairs e bs := by
  intro st
  induction st with
  | nil =>
    intro e bs h
    have : e = 0 := h
    subst this
    simp
  | cons t r ih =>
    obtain ⟨p, q⟩ := t
    intro e bs h
    obtain ⟨rfl, hpq, hgp, hsl, hr⟩ := h
    have := ih (bs := q :: bs) hr
    simpa [List.append_assoc, pairs] using this
theorem rc_last : ∀ {st : List (Nat × Nat)} {e : Nat}, RC W S st e → (st.reverse.map (·.2)).getLastD 0 = e := by
  intro st e h
  cases st with
  | nil => have : e = 0 := h; subst this; rfl
  | cons t r =>
    obtain ⟨p, q⟩ := t
    obtain ⟨rfl, _⟩ := h
    rw [List.reverse_cons, List.map_append]
    have : ∀ l : List Nat, (l ++ [q]).getLastD 0 = q := fun l => by
      rw [List.getLastD_eq_getLast?]; simp
    exact this _
end
noncomputable def stackN (W S : Nat → Int) : Nat → List (Nat × Nat)
  | 0 => []
  | m + 1 => pushN W S (stackN W S m) m (m + 1)
theorem stack_ok {W S : Nat → Int} {n : Nat} (hW : ∀ i j, i < j → j ≤ n → W i < W j) : ∀ m, m ≤ n → RC W S (stackN W S m) m
  | 0, _ => rfl
  | m + 1, h => push_ok hW h (stack_ok hW m (by omega)) (by omega) good_one
noncomputable def breaks (W S : Nat → Int) (n : Nat) : List Nat := (stackN W S n).reverse.map (·.2)
theorem breaks_chain {W S : Nat → Int} {n : Nat} (hW : ∀ i j, i < j → j ≤ n → W i < W j) : Chain W S 0 (breaks W S n) ∧ (breaks W S n).getLastD 0 = n ∧ pairs 0 (breaks W S n) = (stackN W S n).reverse := by
  have h := stack_ok (S := S) hW n (Nat.le_refl _)
  refine ⟨?_, rc_last h, ?_⟩
  · have := rc_chain (bs := []) h trivial (fun _ _ _ h => by simp at h)
    simpa [breaks] using this
  · have := rc_pairs (bs := []) h
    simpa [breaks, pairs] using this
theorem above_before {W S : Nat → Int} {p q j : Nat} (h : Above W S p q j) : (S q - S j) * (W q - W p) ≤ (S q - S p) * (W q - W j) := by
  unfold Above at h
  grind
theorem allB_pairs {f : Nat → Nat → Prop} : ∀ {p : Nat} {bs : List Nat}, AllB f p bs → ∀ t ∈ pairs p bs, f t.1 t.2
  | _, [], _, t, ht => by simp [pairs] at ht
  | p, q :: r, h, t, ht => by
    simp only [pairs, List.mem_cons] at ht
    rcases ht with rfl | ht
    · exact h.1
    · exact allB_pairs h.2 t ht
theorem pairs_cover : ∀ {p : Nat} {bs : List Nat} {W S : Nat → Int}, Chain W S p bs → ∀ i, p ≤ i → i < bs.getLastD p → ∃ t ∈ pairs p bs, t.1 ≤ i ∧ i < t.2
  | p, [], W, S, h, i, h1, h2 => by simp [List.getLastD] at h2; omega
  | p, q :: r, W, S, h, i, h1, h2 => by
    rcases Nat.lt_or_ge i q with hi | hi
    · exact ⟨(p, q), by simp [pairs], h1, hi⟩
    · rw [getLastD_cons] at h2
      obtain ⟨t, a, b⟩ := pairs_cover h.2.2.2 i hi h2
      exact ⟨t, by simp [pairs, a], b⟩
theorem pairs_lt {p : Nat} {bs : List Nat} {W S : Nat → Int} (h : Chain W S p bs) : ∀ t ∈ pairs p bs, p ≤ t.1 ∧ t.1 < t.2 ∧ t.2 ≤ bs.getLastD p := by
  induction bs generalizing p with
  | nil => intro t ht; simp [pairs] at ht
  | cons q r ih =>
    intro t ht
    rw [getLastD_cons]
    simp only [pairs, List.mem_cons] at ht
    rcases ht with rfl | ht
    · exact ⟨Nat.le_refl _, h.1, chain_last h.2.2.2⟩
    · obtain ⟨a, b, c⟩ := ih h.2.2.2 t ht
      have := h.1
      exact ⟨by omega, b, c⟩
end Go.Am.M08
end

section
set_option linter.unusedVariables false
set_option linter.unusedSimpArgs false
namespace Go.Am.M08
abbrev Mk := Int × Int × Int
abbrev Blk := Int × Int × Int × Int
def okMk (m : Mk) : Prop := 1 ≤ m.1 ∧ m.1 ≤ 10000 ∧ 0 ≤ m.2.1 ∧ m.2.1 ≤ 100 ∧ 1 ≤ m.2.2 ∧ m.2.2 ≤ 20
instance (m : Mk) : Decidable (okMk m) := by unfold okMk; infer_instance
def Card (l : List Mk) : Prop := 1 ≤ l.length ∧ l.length ≤ 24 ∧ ∀ m ∈ l, okMk m
instance (l : List Mk) : Decidable (Card l) := by unfold Card; infer_instance
def sumP (f : Mk → Int) (c : Int → Bool) : List Mk → Int
  | [] => 0
  | m :: l => (if c m.1 then f m else 0) + sumP f c l
def fw (m : Mk) : Int := m.2.2
def fs (m : Mk) : Int := m.2.1 * m.2.2
def blk (l : List Mk) (a b : Int) : Blk := (a, b, sumP fw (fun h => decide (a ≤ h) && decide (h ≤ b)) l, sumP fs (fun h => decide (a ≤ h) && decide (h ≤ b)) l)
theorem sumP_congr {f : Mk → Int} {c c' : Int → Bool} {l : List Mk} (h : ∀ m ∈ l, c m.1 = c' m.1) : sumP f c l = sumP f c' l := by
  induction l with
  | nil => rfl
  | cons m l ih =>
    simp only [sumP, h m (by simp)]
    rw [ih fun m hm => h m (by simp [hm])]
theorem sumP_diff {f : Mk → Int} {c c' d : Int → Bool} {l : List Mk} (h : ∀ m ∈ l, (c m.1 = true ∧ d m.1 = !c' m.1) ∨ (c m.1 = false ∧ d m.1 = false ∧ c' m.1 = false)) : sumP f d l = sumP f c l - sumP f c' l := by
  induction l with
  | nil => rfl
  | cons m l ih =>
    simp only [sumP]
    rw [ih fun m hm => h m (by simp [hm])]
    rcases h m (by simp) with ⟨h1, h2⟩ | ⟨h1, h2, h3⟩
    · rw [h1, h2]
      cases c' m.1 <;> simp <;> omega
    · rw [h1, h2, h3]; simp
theorem sumP_append {f : Mk → Int} {c : Int → Bool} {l l' : List Mk} : sumP f c (l ++ l') = sumP f c l + sumP f c l' := by
  induction l with
  | nil => simp [sumP]
  | cons m l ih => simp only [List.cons_append, sumP, ih]; omega
theorem sumP_perm {f : Mk → Int} {c : Int → Bool} {l l' : List Mk} (h : l.Perm l') : sumP f c l = sumP f c l' := by
  induction h with
  | nil => rfl
  | cons x _ ih => simp only [sumP, ih]
  | swap x y l => simp only [sumP]; omega
  | trans _ _ ih1 ih2 => exact ih1.trans ih2
theorem sumP_nonneg {f : Mk → Int} {c : Int → Bool} {l : List Mk} (h : ∀ m ∈ l, 0 ≤ f m) : 0 ≤ sumP f c l := by
  induction l with
  | nil => exact Int.le_refl _
  | cons m l ih =>
    have a := h m (by simp)
    have b := ih fun m hm => h m (by simp [hm])
    simp only [sumP]
    split <;> omega
theorem sumP_pos {f : Mk → Int} {c : Int → Bool} {l : List Mk} (h : ∀ m ∈ l, 0 ≤ f m) {m : Mk} (hm : m ∈ l) (hc : c m.1 = true) : f m ≤ sumP f c l := by
  induction l with
  | nil => simp at hm
  | cons x l ih =>
    simp only [sumP]
    have hx := h x (by simp)
    have hn := sumP_nonneg (f := f) (c := c) (l := l) fun m hm => h m (by simp [hm])
    rcases List.mem_cons.1 hm with rfl | hm
    · rw [hc]; simp; omega
    · have := ih (fun m hm => h m (by simp [hm])) hm
      split <;> omega
theorem sumP_le {f : Mk → Int} {c : Int → Bool} {l : List Mk} {k : Int} (h : ∀ m ∈ l, 0 ≤ f m ∧ f m ≤ k) : sumP f c l ≤ k * l.length := by
  induction l with
  | nil => simp [sumP]
  | cons x l ih =>
    simp only [sumP, List.length_cons]
    have hx := h x (by simp)
    have := ih fun m hm => h m (by simp [hm])
    have e : k * ((l.length + 1 : Nat) : Int) = k * l.length + k := by grind
    rw [e]
    split <;> omega
theorem okMk_fw {m : Mk} (h : okMk m) : 1 ≤ fw m ∧ fw m ≤ 20 := ⟨h.2.2.2.2.1, h.2.2.2.2.2⟩
theorem okMk_fs {m : Mk} (h : okMk m) : 0 ≤ fs m ∧ fs m ≤ 2000 := by
  obtain ⟨_, _, h1, h2, h3, h4⟩ := h
  unfold fs
  have a : 0 ≤ m.2.1 * m.2.2 := Int.mul_nonneg h1 (by omega)
  have b : m.2.1 * m.2.2 ≤ 100 * m.2.2 := Int.mul_le_mul_of_nonneg_right h2 (by omega)
  omega
def insH (x : Int) : List Int → List Int
  | [] => [x]
  | y :: r => if x < y then x :: y :: r else if x = y then y :: r else y :: insH x r
def hours : List Mk → List Int
  | [] => []
  | m :: l => insH m.1 (hours l)
theorem mem_insH {x z : Int} : ∀ {l : List Int}, z ∈ insH x l ↔ z = x ∨ z ∈ l
  | [] => by simp [insH]
  | y :: r => by
    unfold insH
    split
    · simp
    · split
      · rename_i h; subst h; simp
      · simp only [List.mem_cons, mem_insH (l := r)]
        constructor
        · rintro (h | h | h) <;> simp [h]
        · rintro (h | h | h) <;> simp [h]
theorem insH_sorted {x : Int} : ∀ {l : List Int}, l.Pairwise (· < ·) → (insH x l).Pairwise (· < ·)
  | [], _ => by simp [insH]
  | y :: r, h => by
    have ⟨h1, h2⟩ := List.pairwise_cons.1 h
    unfold insH
    split
    · rename_i hxy
      refine List.pairwise_cons.2 ⟨fun z hz => ?_, h⟩
      rcases List.mem_cons.1 hz with rfl | hz
      · exact hxy
      · have := h1 z hz; omega
    · split
      · exact h
      · refine List.pairwise_cons.2 ⟨fun z hz => ?_, insH_sorted h2⟩
        rcases mem_insH.1 hz with rfl | hz
        · omega
        · exact h1 z hz
theorem hours_sorted : ∀ l : List Mk, (hours l).Pairwise (· < ·)
  | [] => .nil
  | m :: l => insH_sorted (hours_sorted l)
theorem mem_hours {x : Int} : ∀ {l : List Mk}, x ∈ hours l ↔ ∃ m ∈ l, m.1 = x
  | [] => by simp [hours]
  | m :: l => by
    simp only [hours, mem_insH, mem_hours (l := l), List.mem_cons]
    constructor
    · rintro (h | ⟨m', h, e⟩)
      · exact ⟨m, .inl rfl, h.symm⟩
      · exact ⟨m', .inr h, e⟩
    · rintro ⟨m', rfl | h, e⟩
      · exact .inl e.symm
      · exact .inr ⟨m', h, e⟩
theorem sorted_unique : ∀ {l l' : List Int}, l.Pairwise (· < ·) → l'.Pairwise (· < ·) → (∀ x, x ∈ l ↔ x ∈ l') → l = l'
  | [], [], _, _, _ => rfl
  | [], y :: l', _, _, h => by have := (h y).2 (by simp); simp at this
  | x :: l, [], _, _, h => by have := (h x).1 (by simp); simp at this
  | x :: l, y :: l', h1, h2, h => by
    have ⟨a1, a2⟩ := List.pairwise_cons.1 h1
    have ⟨b1, b2⟩ := List.pairwise_cons.1 h2
    have e : x = y := by
      rcases List.mem_cons.1 ((h x).1 (by simp)) with e | e
      · exact e
      · rcases List.mem_cons.1 ((h y).2 (by simp)) with e' | e'
        · exact e'.symm
        · have := b1 x e; have := a1 y e'; omega
    subst e
    rw [sorted_unique a2 b2 fun z => ?_]
    constructor
    · intro hz
      rcases List.mem_cons.1 ((h z).1 (by simp [hz])) with e | e
      · subst e; have := a1 z hz; omega
      · exact e
    · intro hz
      rcases List.mem_cons.1 ((h z).2 (by simp [hz])) with e | e
      · subst e; have := b1 z hz; omega
      · exact e
theorem hours_pos {l : List Mk} (h : 1 ≤ l.length) : 0 < (hours l).length := by
  cases l with
  | nil => simp at h
  | cons m l =>
    have : m.1 ∈ hours (m :: l) := mem_hours.2 ⟨m, by simp, rfl⟩
    exact List.length_pos_of_mem this
theorem insH_len (x : Int) : ∀ l : List Int, (insH x l).length ≤ l.length + 1
  | [] => by simp [insH]
  | y :: r => by
    have := insH_len x r
    unfold insH
    split
    · simp
    · split <;> simp <;> omega
theorem hours_len : ∀ l : List Mk, (hours l).length ≤ l.length
  | [] => by simp [hours]
  | m :: l => by
    have := insH_len m.1 (hours l)
    have := hours_len l
    simp only [hours, List.length_cons]; omega
def lim (l : List Mk) (m : Nat) : Int := (hours l).getD m 1073741824
def cumW (l : List Mk) (m : Nat) : Int := sumP fw (fun h => decide (h < lim l m)) l
def cumS (l : List Mk) (m : Nat) : Int := sumP fs (fun h => decide (h < lim l m)) l
section
variable {l : List Mk} (hc : ∀ m ∈ l, okMk m)
theorem lim_at {k : Nat} {x : Int} (h : (hours l)[k]? = some x) : lim l k = x := by simp [lim, List.getD_eq_getElem?_getD, h]
theorem get_lt {k k' : Nat} {x x' : Int} (h : (hours l)[k]? = some x) (h' : (hours l)[k']? = some x') (hk : k < k') : x < x' := by
  obtain ⟨h1, rfl⟩ := List.getElem?_eq_some_iff.1 h
  obtain ⟨h2, rfl⟩ := List.getElem?_eq_some_iff.1 h'
  exact List.pairwise_iff_getElem.1 (hours_sorted l) k k' h1 h2 hk
theorem get_lt_iff {k k' : Nat} {x x' : Int} (h : (hours l)[k]? = some x) (h' : (hours l)[k']? = some x') : x < x' ↔ k < k' := by
  constructor
  · intro hx
    rcases Nat.lt_trichotomy k k' with a | a | a
    · exact a
    · subst a; rw [h] at h'; cases h'; omega
    · have := get_lt h' h a; omega
  · exact get_lt h h'
include hc
theorem hour_range {x : Int} (h : x ∈ hours l) : 1 ≤ x ∧ x ≤ 10000 := by
  obtain ⟨m, hm, rfl⟩ := mem_hours.1 h
  have := hc m hm
  exact ⟨this.1, this.2.1⟩
theorem lim_iff {m : Mk} (hm : m ∈ l) {k t : Nat} (ht : (hours l)[t]? = some m.1) (hk : k ≤ (hours l).length) : m.1 < lim l k ↔ t < k := by
  rcases Nat.lt_or_ge k (hours l).length with h | h
  · have e := List.getElem?_eq_getElem h
    rw [lim_at e]
    exact get_lt_iff ht e
  · have hk' : k = (hours l).length := by omega
    have : lim l k = 1073741824 := by
      unfold lim
      rw [List.getD_eq_getElem?_getD, List.getElem?_eq_none h]; rfl
    rw [this]
    have h1 := hc m hm
    have h2 : t < (hours l).length := (List.getElem?_eq_some_iff.1 ht).1
    constructor
    · intro; omega
    · intro; have := h1.2.1; omega
omit hc in
theorem place {m : Mk} (hm : m ∈ l) : ∃ t : Nat, (hours l)[t]? = some m.1 := List.getElem?_of_mem (mem_hours.2 ⟨m, hm, rfl⟩)
theorem blk_at {j k : Nat} {a b : Int} (hj : (hours l)[j]? = some a) (hk : (hours l)[k]? = some b) (hjk : j ≤ k + 1) : blk l a b = (a, b, cumW l (k + 1) - cumW l j, cumS l (k + 1) - cumS l j) := by
  have hkn : k < (hours l).length := (List.getElem?_eq_some_iff.1 hk).1
  have key : ∀ f : Mk → Int, sumP f (fun h => decide (a ≤ h) && decide (h ≤ b)) l = sumP f (fun h => decide (h < lim l (k + 1))) l - sumP f (fun h => decide (h < lim l j)) l := by
    intro f
    refine sumP_diff fun m hm => ?_
    obtain ⟨t, ht⟩ := place hm
    have e1 : m.1 < lim l (k + 1) ↔ t < k + 1 := lim_iff hc hm ht (by omega)
    have e2 : m.1 < lim l j ↔ t < j := lim_iff hc hm ht (by have := (List.getElem?_eq_some_iff.1 hj).1; omega)
    have e3 : a ≤ m.1 ↔ j ≤ t := by have := get_lt_iff ht hj; omega
    have e4 : m.1 ≤ b ↔ t ≤ k := by have := get_lt_iff hk ht; omega
    simp only [e1, e2, e3, e4]
    by_cases h1 : t < k + 1
    · left
      refine ⟨by simpa using h1, ?_⟩
      by_cases h2 : t < j
      · simp [h2]; intro; omega
      · simp [h2, show j ≤ t by omega, show t ≤ k by omega]
    · right
      refine ⟨by simpa using h1, by simp; intro; omega, by simp; omega⟩
  simp only [blk, key, cumW, cumS]
theorem cum_step {f : Mk → Int} (hf : ∀ m ∈ l, 1 ≤ f m) {k : Nat} (hk : k < (hours l).length) : sumP f (fun h => decide (h < lim l k)) l < sumP f (fun h => decide (h < lim l (k + 1))) l := by
  have e := List.getElem?_eq_getElem hk
  obtain ⟨m, hm, hx⟩ := mem_hours.1 (List.getElem_mem hk)
  have hd : sumP f (fun h => decide (h < lim l (k + 1)) && !decide (h < lim l k)) l = sumP f (fun h => decide (h < lim l (k + 1))) l - sumP f (fun h => decide (h < lim l k)) l := by
    refine sumP_diff fun m hm => ?_
    obtain ⟨t, ht⟩ := place hm
    have e1 : m.1 < lim l (k + 1) ↔ t < k + 1 := lim_iff hc hm ht (by omega)
    have e2 : m.1 < lim l k ↔ t < k := lim_iff hc hm ht (by omega)
    simp only [e1, e2]
    by_cases h1 : t < k + 1
    · left; simp [h1]
    · right; simp; omega
  have ht : (hours l)[k]? = some m.1 := by rw [e, hx]
  have h1 : m.1 < lim l (k + 1) ↔ k < k + 1 := lim_iff hc hm ht (by omega)
  have h2 : m.1 < lim l k ↔ k < k := lim_iff hc hm ht (by omega)
  have := sumP_pos (f := f) (c := fun h => decide (h < lim l (k + 1)) && !decide (h < lim l k)) (l := l) (fun m hm => by have := hf m hm; omega) hm (by simp only [h1, h2]; simp)
  have := hf m hm
  omega
theorem cumW_mono : ∀ i j, i < j → j ≤ (hours l).length → cumW l i < cumW l j := by
  intro i j hij
  induction j with
  | zero => omega
  | succ j ih =>
    intro hj
    have s := cum_step hc (f := fw) (fun m hm => (okMk_fw (hc m hm)).1) (k := j) (by omega)
    change cumW l j < cumW l (j + 1) at s
    rcases Nat.lt_or_ge i j with h | h
    · have := ih h (by omega); omega
    · have : i = j := by omega
      subst this; exact s
theorem cumW_zero : cumW l 0 = 0 := by
  have : ∀ m ∈ l, decide (m.1 < lim l 0) = false := fun m hm => by
    obtain ⟨t, ht⟩ := place hm
    have := lim_iff hc hm ht (Nat.zero_le _)
    simp only [this]; simp
  rw [cumW, sumP_congr (c' := fun _ => false) this]
  have z : ∀ l : List Mk, sumP fw (fun _ => false) l = 0 := fun l => by
    induction l with
    | nil => rfl
    | cons m l ih => simp [sumP, ih]
  exact z l
theorem cumS_zero : cumS l 0 = 0 := by
  have : ∀ m ∈ l, decide (m.1 < lim l 0) = false := fun m hm => by
    obtain ⟨t, ht⟩ := place hm
    have := lim_iff hc hm ht (Nat.zero_le _)
    simp only [this]; simp
  rw [cumS, sumP_congr (c' := fun _ => false) this]
  have z : ∀ l : List Mk, sumP fs (fun _ => false) l = 0 := fun l => by
    induction l with
    | nil => rfl
    | cons m l ih => simp [sumP, ih]
  exact z l
end
def mkB (l : List Mk) (t : Nat × Nat) : Blk := (lim l t.1, lim l (t.2 - 1), cumW l t.2 - cumW l t.1, cumS l t.2 - cumS l t.1)
def pushB : List Blk → Blk → List Blk
  | [], b => [b]
  | t :: r, b => if t.2.2.2 * b.2.2.1 < b.2.2.2 * t.2.2.1 then b :: t :: r else pushB r (t.1, b.2.1, t.2.2.1 + b.2.2.1, t.2.2.2 + b.2.2.2)
def singles (l : List Mk) : List Blk := (hours l).map fun h => blk l h h
def pooled (l : List Mk) : List Blk := ((singles l).foldl pushB []).reverse
noncomputable def brk (l : List Mk) : List Nat := breaks (cumW l) (cumS l) (hours l).length
theorem push_mkB {l : List Mk} : ∀ {st : List (Nat × Nat)} {a b : Nat}, RC (cumW l) (cumS l) st a → pushB (st.map (mkB l)) (mkB l (a, b)) = (pushN (cumW l) (cumS l) st a b).map (mkB l)
  | [], a, b, _ => rfl
  | (p, q) :: r, a, b, h => by
    obtain ⟨rfl, hpq, _, _, hr⟩ := h
    simp only [List.map_cons, pushB, pushN]
    have e : (mkB l (p, q)).2.2.2 * (mkB l (q, b)).2.2.1 < (mkB l (q, b)).2.2.2 * (mkB l (p, q)).2.2.1 ↔ Slope (cumW l) (cumS l) p q q b := by
      simp only [mkB, Slope]
    by_cases hs : Slope (cumW l) (cumS l) p q q b
    · rw [if_pos (e.2 hs), if_pos hs]; rfl
    · rw [if_neg (fun h => hs (e.1 h)), if_neg hs]
      have := push_mkB (l := l) (b := b) hr
      rw [← this]
      congr 1
      simp only [mkB]
      refine Prod.ext rfl (Prod.ext rfl (Prod.ext ?_ ?_)) <;> simp <;> omega
section
variable {l : List Mk} (hc : ∀ m ∈ l, okMk m)
include hc
theorem single_at {k : Nat} (hk : k < (hours l).length) : (singles l)[k]? = some (mkB l (k, k + 1)) := by
  have e := List.getElem?_eq_getElem hk
  simp only [singles, List.getElem?_map, e, Option.map_some]
  rw [blk_at hc e e (by omega)]
  simp [mkB, lim_at e]
omit hc in
theorem foldl_take {α β : Type} (f : β → α → β) (b : β) : ∀ (l : List α) (k : Nat) (x : α), l[k]? = some x → (l.take (k + 1)).foldl f b = f ((l.take k).foldl f b) x := by
  intro l k x h
  obtain ⟨h1, rfl⟩ := List.getElem?_eq_some_iff.1 h
  rw [List.take_succ_eq_append_getElem h1, List.foldl_append]; rfl
theorem stack_eq : ∀ k, k ≤ (hours l).length → ((singles l).take k).foldl pushB [] = (stackN (cumW l) (cumS l) k).map (mkB l)
  | 0, _ => by simp [stackN]
  | k + 1, h => by
    rw [foldl_take pushB [] (singles l) k _ (single_at hc (by omega)), stack_eq k (by omega)]
    exact push_mkB (stack_ok (cumW_mono hc) k (by omega))
theorem pooled_eq : pooled l = (pairs 0 (brk l)).map (mkB l) := by
  have h := stack_eq hc (hours l).length (Nat.le_refl _)
  have e : (singles l).take (hours l).length = singles l := by
    rw [List.take_of_length_le]; simp [singles]
  rw [e] at h
  rw [pooled, h, brk, (breaks_chain (cumW_mono hc)).2.2, List.map_reverse]
end
end Go.Am.M08
end

section
set_option linter.unusedVariables false
set_option linter.unusedSimpArgs false
namespace Go.Am.M08
def ltB (a b : Blk) : Bool := decide (a.2.2.2 * b.2.2.1 < b.2.2.2 * a.2.2.1)
theorem ltB_false {a b : Blk} : ltB a b = false ↔ b.2.2.2 * a.2.2.1 ≤ a.2.2.2 * b.2.2.1 := by
  unfold ltB; rw [decide_eq_false_iff_not]; omega
theorem ltB_true {a b : Blk} : ltB a b = true ↔ a.2.2.2 * b.2.2.1 < b.2.2.2 * a.2.2.1 := by
  unfold ltB; rw [decide_eq_true_iff]
theorem mean_lt_iff {sa aw bs bw S1 W1 S2 W2 : Int} (a1 : 0 < aw) (b1 : 0 < bw) (w1 : 0 < W1) (w2 : 0 < W2) (ha : sa * W1 = S1 * aw) (hb : bs * W2 = S2 * bw) : S1 * W2 < S2 * W1 ↔ sa * bw < bs * aw := by
  have e1 : sa * bw * (W1 * W2) = S1 * W2 * (aw * bw) := by
    have : sa * bw * (W1 * W2) = (sa * W1) * (bw * W2) := by grind
    rw [this, ha]; grind
  have e2 : bs * aw * (W1 * W2) = S2 * W1 * (aw * bw) := by
    have : bs * aw * (W1 * W2) = (bs * W2) * (aw * W1) := by grind
    rw [this, hb]; grind
  have pw := Int.mul_pos w1 w2
  have pa := Int.mul_pos a1 b1
  constructor
  · intro h
    have := Int.mul_lt_mul_of_pos_right h pa
    rw [← e1, ← e2] at this
    exact Int.lt_of_mul_lt_mul_right this (Int.le_of_lt pw)
  · intro h
    have := Int.mul_lt_mul_of_pos_right h pw
    rw [e1, e2] at this
    exact Int.lt_of_mul_lt_mul_right this (Int.le_of_lt pa)
theorem le_trans_B {a b c : Blk} (hb : 0 < b.2.2.1) (ha : 0 ≤ a.2.2.1) (hc : 0 ≤ c.2.2.1) (h1 : a.2.2.2 * b.2.2.1 ≤ b.2.2.2 * a.2.2.1) (h2 : b.2.2.2 * c.2.2.1 ≤ c.2.2.2 * b.2.2.1) : a.2.2.2 * c.2.2.1 ≤ c.2.2.2 * a.2.2.1 := by
  have e1 : a.2.2.2 * b.2.2.1 * c.2.2.1 ≤ b.2.2.2 * a.2.2.1 * c.2.2.1 := Int.mul_le_mul_of_nonneg_right h1 hc
  have e2 : b.2.2.2 * c.2.2.1 * a.2.2.1 ≤ c.2.2.2 * b.2.2.1 * a.2.2.1 := Int.mul_le_mul_of_nonneg_right h2 ha
  have key : a.2.2.2 * c.2.2.1 * b.2.2.1 ≤ c.2.2.2 * a.2.2.1 * b.2.2.1 := by grind
  exact mul_le_cancel hb key
def bl (l : List Mk) (j k : Nat) : Blk := blk l (lim l j) (lim l k)
def isMin (l : List Mk) (j i e : Nat) (b : Blk) : Prop := ∃ k0, i ≤ k0 ∧ k0 < e ∧ b = bl l j k0 ∧ ∀ k, i ≤ k → k < e → ltB (bl l j k) b = false
def isBest (l : List Mk) (i e : Nat) (b : Blk) : Prop := (∃ j0, j0 < e ∧ isMin l j0 i (hours l).length b) ∧ ∀ j, j < e → ∃ b', isMin l j i (hours l).length b' ∧ ltB b b' = false
section
variable {l : List Mk} (hc : ∀ m ∈ l, okMk m)
include hc
theorem bl_at {j k : Nat} (hj : j ≤ k) (hk : k < (hours l).length) : bl l j k = (lim l j, lim l k, cumW l (k + 1) - cumW l j, cumS l (k + 1) - cumS l j) := by
  have e1 := List.getElem?_eq_getElem (show j < (hours l).length by omega)
  have e2 := List.getElem?_eq_getElem hk
  unfold bl
  rw [lim_at e1, lim_at e2]
  exact blk_at hc e1 e2 (by omega)
theorem bl_pos {j k : Nat} (hj : j ≤ k) (hk : k < (hours l).length) : 0 < (bl l j k).2.2.1 := by
  rw [bl_at hc hj hk]
  have := cumW_mono hc j (k + 1) (by omega) (by omega)
  simp only; omega
theorem isMin_pos {j i e : Nat} {b : Blk} (hji : j ≤ i) (he : e ≤ (hours l).length) (h : isMin l j i e b) : 0 < b.2.2.1 := by
  obtain ⟨k0, h1, h2, rfl, _⟩ := h
  exact bl_pos hc (by omega) (by omega)
omit hc in
theorem isMin_first {j i : Nat} (hji : j ≤ i) : isMin l j i (i + 1) (bl l j i) := by
  refine ⟨i, Nat.le_refl _, Nat.lt_succ_self _, rfl, fun k h1 h2 => ?_⟩
  have : k = i := by omega
  subst this
  rw [ltB_false]; exact Int.le_refl _
theorem isMin_step {j i e : Nat} {b : Blk} (hji : j ≤ i) (hie : i ≤ e) (he : e < (hours l).length) (h : isMin l j i e b) : isMin l j i (e + 1) (if ltB (bl l j e) b = true then bl l j e else b) := by
  obtain ⟨k0, h1, h2, hb, h4⟩ := h
  have pe := bl_pos hc (show j ≤ e by omega) he
  have pb := bl_pos hc (show j ≤ k0 by omega) (show k0 < (hours l).length by omega)
  rw [← hb] at pb
  by_cases hlt : ltB (bl l j e) b = true
  · rw [if_pos hlt]
    refine ⟨e, hie, Nat.lt_succ_self _, rfl, fun k hk1 hk2 => ?_⟩
    rcases Nat.eq_or_lt_of_le (Nat.le_of_lt_succ hk2) with rfl | hk
    · rw [ltB_false]; exact Int.le_refl _
    · have := h4 k hk1 hk
      rw [ltB_false] at this ⊢
      rw [ltB_true] at hlt
      have pk := bl_pos hc (show j ≤ k by omega) (show k < (hours l).length by omega)
      exact le_trans_B pb (Int.le_of_lt pe) (Int.le_of_lt pk) (Int.le_of_lt hlt) this
  · rw [if_neg hlt]
    refine ⟨k0, h1, by omega, hb, fun k hk1 hk2 => ?_⟩
    rcases Nat.eq_or_lt_of_le (Nat.le_of_lt_succ hk2) with rfl | hk
    · simpa using hlt
    · exact h4 k hk1 hk
omit hc in
theorem isBest_first {i : Nat} {b : Blk} (h : isMin l 0 i (hours l).length b) : isBest l i 1 b := by
  refine ⟨⟨0, by omega, h⟩, fun j hj => ?_⟩
  have : j = 0 := by omega
  subst this
  exact ⟨b, h, by rw [ltB_false]; exact Int.le_refl _⟩
theorem isBest_step {i e : Nat} {b c : Blk} (hei : e ≤ i) (hi : i < (hours l).length) (h : isBest l i e b) (hm : isMin l e i (hours l).length c) : isBest l i (e + 1) (if ltB b c = true then c else b) := by
  obtain ⟨⟨j0, h1, h2⟩, h3⟩ := h
  have pb := isMin_pos hc (show j0 ≤ i by omega) (Nat.le_refl _) h2
  have pc := isMin_pos hc hei (Nat.le_refl _) hm
  by_cases hlt : ltB b c = true
  · rw [if_pos hlt]
    refine ⟨⟨e, by omega, hm⟩, fun j hj => ?_⟩
    rcases Nat.eq_or_lt_of_le (Nat.le_of_lt_succ hj) with rfl | hj
    · exact ⟨c, hm, by rw [ltB_false]; exact Int.le_refl _⟩
    · obtain ⟨b', q1, q2⟩ := h3 j hj
      have pb' := isMin_pos hc (show j ≤ i by omega) (Nat.le_refl _) q1
      refine ⟨b', q1, ?_⟩
      rw [ltB_false] at q2 ⊢
      rw [ltB_true] at hlt
      exact le_trans_B pb (Int.le_of_lt pb') (Int.le_of_lt pc) q2 (Int.le_of_lt hlt)
  · rw [if_neg hlt]
    refine ⟨⟨j0, by omega, h2⟩, fun j hj => ?_⟩
    rcases Nat.eq_or_lt_of_le (Nat.le_of_lt_succ hj) with rfl | hj
    · exact ⟨c, hm, by simpa using hlt⟩
    · exact h3 j hj
theorem isBest_mean {i : Nat} {b : Blk} (hi : i < (hours l).length) (h : isBest l i (i + 1) b) {t : Nat × Nat} (ht : t ∈ pairs 0 (brk l)) (h1 : t.1 ≤ i) (h2 : i < t.2) :
    0 < b.2.2.1 ∧ b.2.2.2 * (cumW l t.2 - cumW l t.1) = (cumS l t.2 - cumS l t.1) * b.2.2.1 := by
  obtain ⟨p, q⟩ := t
  simp only at h1 h2 ⊢
  have hW := cumW_mono hc
  obtain ⟨c1, c2, c3⟩ := breaks_chain (W := cumW l) (S := cumS l) hW
  have hq : q ≤ (hours l).length := by
    have := (pairs_lt c1 (p, q) ht).2.2
    rw [c2] at this; exact this
  have hab : ∀ m, m ≤ (hours l).length → Above (cumW l) (cumS l) p q m := fun m hm => allB_pairs (supp0 hW c1 c2 hm) (p, q) ht
  obtain ⟨⟨j0, a1, a2⟩, a3⟩ := h
  have pb := isMin_pos hc (show j0 ≤ i by omega) (Nat.le_refl _) a2
  refine ⟨pb, Int.le_antisymm ?_ ?_⟩
  · obtain ⟨k0, _, _, hb, a4⟩ := a2
    have := a4 (q - 1) (by omega) (by omega)
    rw [ltB_false, bl_at hc (show j0 ≤ q - 1 by omega) (by omega)] at this
    have e : q - 1 + 1 = q := by omega
    rw [e] at this
    simp only at this
    have ab := above_before (hab j0 (by omega))
    have wj := hW j0 q (by omega) hq
    have wp := hW p q (by omega) hq
    have e1 : b.2.2.2 * (cumW l q - cumW l j0) * (cumW l q - cumW l p) ≤ (cumS l q - cumS l j0) * b.2.2.1 * (cumW l q - cumW l p) := Int.mul_le_mul_of_nonneg_right this (by omega)
    have e2 : (cumS l q - cumS l j0) * (cumW l q - cumW l p) * b.2.2.1 ≤ (cumS l q - cumS l p) * (cumW l q - cumW l j0) * b.2.2.1 := Int.mul_le_mul_of_nonneg_right ab (Int.le_of_lt pb)
    have key : b.2.2.2 * (cumW l q - cumW l p) * (cumW l q - cumW l j0) ≤ (cumS l q - cumS l p) * b.2.2.1 * (cumW l q - cumW l j0) := by grind
    exact mul_le_cancel (by omega) key
  · obtain ⟨b', q1, q2⟩ := a3 p (by omega)
    have pb' := isMin_pos hc h1 (Nat.le_refl _) q1
    obtain ⟨k0, r1, r2, hb', _⟩ := q1
    rw [ltB_false] at q2
    have ab := hab (k0 + 1) (by omega)
    unfold Above at ab
    rw [bl_at hc (by omega) r2] at hb'
    have wp := hW p q (by omega) hq
    have ew : b'.2.2.1 = cumW l (k0 + 1) - cumW l p := by rw [hb']
    have es : b'.2.2.2 = cumS l (k0 + 1) - cumS l p := by rw [hb']
    rw [← ew, ← es] at ab
    have e1 : (cumS l q - cumS l p) * b'.2.2.1 * b.2.2.1 ≤ b'.2.2.2 * (cumW l q - cumW l p) * b.2.2.1 := Int.mul_le_mul_of_nonneg_right ab (Int.le_of_lt pb)
    have e2 : b'.2.2.2 * b.2.2.1 * (cumW l q - cumW l p) ≤ b.2.2.2 * b'.2.2.1 * (cumW l q - cumW l p) := Int.mul_le_mul_of_nonneg_right q2 (by omega)
    have key : (cumS l q - cumS l p) * b.2.2.1 * b'.2.2.1 ≤ b.2.2.2 * (cumW l q - cumW l p) * b'.2.2.1 := by grind
    exact mul_le_cancel pb' key
end
theorem pairs_next {W S : Nat → Int} : ∀ {d : List (Nat × Nat)} {p0 : Nat} {bs : List Nat} {p q : Nat} {r : List (Nat × Nat)}, Chain W S p0 bs → pairs p0 bs = d ++ (p, q) :: r →
    (r = [] → q = bs.getLastD p0) ∧ (∀ p' q' r', r = (p', q') :: r' → p' = q ∧ Slope W S p q q q') ∧ p < q ∧ (d = [] → p = p0)
  | d, p0, [], p, q, r, h, e => by simp [pairs] at e
  | [], p0, q0 :: bs, p, q, r, h, e => by
    simp only [pairs, List.nil_append, List.cons.injEq, Prod.mk.injEq] at e
    obtain ⟨⟨rfl, rfl⟩, rfl⟩ := e
    refine ⟨fun hr => ?_, fun p' q' r' hr => ?_, h.1, fun _ => rfl⟩
    · cases bs with
      | nil => rfl
      | cons x bs => simp [pairs] at hr
    · cases bs with
      | nil => simp [pairs] at hr
      | cons x bs =>
        simp only [pairs, List.cons.injEq, Prod.mk.injEq] at hr
        obtain ⟨⟨rfl, rfl⟩, _⟩ := hr
        exact ⟨rfl, h.2.2.1 _ rfl⟩
  | x :: d, p0, q0 :: bs, p, q, r, h, e => by
    simp only [pairs, List.cons_append, List.cons.injEq] at e
    obtain ⟨_, e⟩ := e
    obtain ⟨a, b, c, _⟩ := pairs_next h.2.2.2 e
    rw [getLastD_cons]
    exact ⟨a, b, c, fun h => by simp at h⟩
end Go.Am.M08
end

section
set_option linter.unusedVariables false
set_option linter.unusedSimpArgs false
set_option linter.unusedSectionVars false
namespace Go.Am.M08
def cnt (l : List Mk) (a : Nat) (to : Int) : Nat := (((hours l).drop a).takeWhile fun h => decide (h ≤ to)).length
def stepB (l : List Mk) (a : Nat) (prev : Option Blk) (b : Blk) : Option Nat :=
  if cnt l a b.2.1 ≠ 0 ∧ mkB l (a, a + cnt l a b.2.1) = b ∧ (∀ i, i < cnt l a b.2.1 → ltB (mkB l (a, a + i + 1)) b = false) ∧ (∀ p, prev = some p → ltB p b = true) then some (a + cnt l a b.2.1) else none
def runB (l : List Mk) : Nat → Option Blk → List Blk → Option Nat
  | a, _, [] => some a
  | a, prev, b :: g => (stepB l a prev b).bind fun a' => runB l a' (some b) g
section
variable {l : List Mk} (hc : ∀ m ∈ l, okMk m)
include hc
theorem takeWhile_len {x : Int} : ∀ (k a : Nat), (hours l).length - a = k → ∀ j, a + j < (hours l).length → (j < cnt l a x ↔ lim l (a + j) ≤ x)
  | 0, a, hk, j, hj => by omega
  | k + 1, a, hk, j, hj => by
    have ha : a < (hours l).length := by omega
    have e := List.getElem?_eq_getElem ha
    have el := lim_at e
    have ed : (hours l).drop a = lim l a :: (hours l).drop (a + 1) := by rw [el, List.drop_eq_getElem_cons ha]
    have ec : cnt l a x = if lim l a ≤ x then cnt l (a + 1) x + 1 else 0 := by
      unfold cnt
      rw [ed, List.takeWhile_cons]
      by_cases h : lim l a ≤ x <;> simp [h]
    rw [ec]
    cases j with
    | zero =>
      rw [Nat.add_zero]
      by_cases h : lim l a ≤ x <;> simp [h]
    | succ j =>
      have ih := takeWhile_len (x := x) k (a + 1) (by omega) j (by omega)
      have eq1 : a + 1 + j = a + (j + 1) := by omega
      rw [eq1] at ih
      by_cases h : lim l a ≤ x
      · rw [if_pos h, ← ih]; omega
      · rw [if_neg h]
        constructor
        · intro; omega
        · intro h2
          have e2 := List.getElem?_eq_getElem hj
          have := get_lt e e2 (by omega)
          rw [← el, ← lim_at e2] at this
          omega
theorem cnt_le (a : Nat) (x : Int) : cnt l a x ≤ (hours l).length - a := by
  unfold cnt
  have := (List.takeWhile_sublist (p := fun h => decide (h ≤ x)) (l := (hours l).drop a)).length_le
  rw [List.length_drop] at this
  exact this
theorem cnt_at {a q : Nat} (h : a < q) (hq : q ≤ (hours l).length) : cnt l a (lim l (q - 1)) = q - a := by
  have e2 := List.getElem?_eq_getElem (show q - 1 < (hours l).length by omega)
  have key : ∀ j, a + j < (hours l).length → (j < cnt l a (lim l (q - 1)) ↔ j < q - a) := by
    intro j hj
    rw [takeWhile_len hc _ a rfl j hj]
    have e1 := List.getElem?_eq_getElem hj
    rw [lim_at e1, lim_at e2]
    have := get_lt_iff e2 e1
    omega
  have hle := cnt_le hc a (lim l (q - 1))
  rcases Nat.lt_trichotomy (cnt l a (lim l (q - 1))) (q - a) with h1 | h1 | h1
  · have := (key (cnt l a (lim l (q - 1))) (by omega)).2 h1; omega
  · exact h1
  · have := (key (q - a) (by omega)).1 h1; omega
theorem good_mkB {p q : Nat} (hpq : p < q) (hq : q ≤ (hours l).length) : (∀ i, i < q - p → ltB (mkB l (p, p + i + 1)) (mkB l (p, q)) = false) ↔ Good (cumW l) (cumS l) p q := by
  constructor
  · intro h m h1 h2
    rcases Nat.eq_or_lt_of_le h1 with rfl | h1
    · unfold Above; simp
    · have := h (m - p - 1) (by omega)
      have e : p + (m - p - 1) + 1 = m := by omega
      rw [e, ltB_false] at this
      simp only [mkB] at this
      unfold Above; exact this
  · intro h i hi
    have := h (p + i + 1) (by omega) (by omega)
    rw [ltB_false]
    simp only [mkB]
    unfold Above at this; exact this
theorem run_chain : ∀ {g : List Blk} {a : Nat} {prev : Option Blk} {e : Nat}, a ≤ (hours l).length → runB l a prev g = some e → ∃ bs, Chain (cumW l) (cumS l) a bs ∧ g = (pairs a bs).map (mkB l) ∧ bs.getLastD a = e ∧ e ≤ (hours l).length ∧
      (∀ p q, prev = some p → bs.head? = some q → ltB p (mkB l (a, q)) = true)
  | [], a, prev, e, ha, h => by
    cases h
    exact ⟨[], trivial, rfl, rfl, ha, fun p q _ h => by simp at h⟩
  | b :: g, a, prev, e, ha, h => by
    simp only [runB, Option.bind_eq_some_iff] at h
    obtain ⟨a', h1, h2⟩ := h
    unfold stepB at h1
    split at h1
    · rename_i hs
      obtain ⟨s1, s2, s3, s4⟩ := hs
      have h1 := Option.some.inj h1
      subst h1
      have hle := cnt_le hc a b.2.1
      obtain ⟨bs, c1, c2, c3, c4, c5⟩ := run_chain (by omega) h2
      refine ⟨(a + cnt l a b.2.1) :: bs, ⟨by omega, ?_, ?_, c1⟩, ?_, ?_, c4, ?_⟩
      · refine (good_mkB hc (by omega) (by omega)).1 fun i hi => ?_
        rw [s2]; exact s3 i (by omega)
      · intro q2 hq2
        have h5 := c5 b q2 rfl hq2
        clear c5 s3 s4 h2
        generalize cnt l a b.2.1 = k at *
        subst s2
        rw [ltB_true] at h5
        simp only [mkB] at h5
        unfold Slope; exact h5
      · simp only [pairs, List.map_cons, s2]; rw [← c2]
      · rw [getLastD_cons]; exact c3
      · intro p q hp hq
        simp only [List.head?_cons, Option.some.injEq] at hq
        subst hq
        rw [s2]; exact s4 p hp
    · cases h1
theorem chain_run : ∀ {bs : List Nat} {a : Nat} {prev : Option Blk}, Chain (cumW l) (cumS l) a bs → bs.getLastD a ≤ (hours l).length → (∀ p q, prev = some p → bs.head? = some q → ltB p (mkB l (a, q)) = true) → runB l a prev ((pairs a bs).map (mkB l)) = some (bs.getLastD a)
  | [], a, prev, h, hl, hp => rfl
  | q :: bs, a, prev, h, hl, hp => by
    rw [getLastD_cons] at hl ⊢
    have hq : q ≤ (hours l).length := Nat.le_trans (chain_last h.2.2.2) hl
    simp only [pairs, List.map_cons, runB]
    have hcn : cnt l a (mkB l (a, q)).2.1 = q - a := cnt_at hc h.1 hq
    have haq : a + (q - a) = q := by have := h.1; omega
    have hst : stepB l a prev (mkB l (a, q)) = some q := by
      unfold stepB
      rw [hcn, haq, if_pos]
      refine ⟨by have := h.1; omega, rfl, (good_mkB hc h.1 hq).2 h.2.1, fun p hpp => hp p q hpp rfl⟩
    rw [hst, Option.bind_some]
    refine chain_run h.2.2.2 hl fun p q2 hpp hq2 => ?_
    cases hpp
    rw [ltB_true]
    have := h.2.2.1 q2 hq2
    simp only [mkB]
    unfold Slope at this; exact this
theorem run_iff {g : List Blk} : runB l 0 none g = some (hours l).length ↔ g = pooled l := by
  obtain ⟨c1, c2, c3⟩ := breaks_chain (W := cumW l) (S := cumS l) (cumW_mono hc)
  constructor
  · intro h
    obtain ⟨bs, k1, k2, k3, k4, _⟩ := run_chain hc (Nat.zero_le _) h
    have := chain_unique (cumW_mono hc) k1 c1 k3 c2
    rw [k2, pooled_eq hc, this]; rfl
  · intro h
    rw [h, pooled_eq hc]
    have := chain_run hc (prev := none) c1 (by rw [c2]; exact Nat.le_refl _) (fun p q h => by cases h)
    rw [c2] at this
    exact this
end
end Go.Am.M08
end
