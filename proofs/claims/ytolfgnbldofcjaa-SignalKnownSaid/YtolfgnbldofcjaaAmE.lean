/-
  From a call over abstract values to a law's contract: what is read of the arguments is data; behind the call they read as before.
-/
import Derived.Test.YtolfgnbldofcjaaAmB
import Derived.ReadAgain
import Derived.ChangeSame
import Derived.ChangeArms
import Derived.ChangeOld
import Derived.OpenShut
import Derived.WalkKit
import Derived.ProofKit
import Derived.Test.YtolfgnbldofcjaaAmD
section
set_option linter.unusedVariables false
set_option linter.unusedSimpArgs false
namespace Go.Am
open Go.ChangeShapes Go.WideShapes
inductive RK where
  | int (k : IntKind) | bool | str
  | list (ks : List RK)
  deriving Inhabited
def shpF (P : Program) (r : TypeId → Option (List RK)) : Nat → List Field → Option (List RK)
  | _, [] => some []
  | off, f :: fs => match r f.type with
    | some ks => bif Nat.beq f.offset off && Nat.beq (P.cellsOf f.type) ks.length then match shpF P r (off + ks.length) fs with
        | some l => some (ks ++ l)
        | none => none
      else none
    | none => none
def shp (P : Program) : Nat → TypeId → Option (List RK)
  | 0, _ => none
  | n + 1, t => match P.underlying t with
    | some .bool => some [.bool]
    | some (.int k) => some [.int k]
    | some .string => some [.str]
    | some (.slice e) => match shp P n e with
      | some ks => bif Nat.beq (P.cellsOf e) ks.length && Nat.blt 0 ks.length then some [.list ks] else none
      | none => none
    | some (.struct fs) => match shpF P (shp P n) 0 fs.toList with
      | some ks => bif Nat.beq (P.cellsOf t) ks.length then some ks else none
      | none => none
    | _ => none
mutual
def DK : RK → D → Prop
  | .int k, .int k' n => k' = k ∧ (Lit.int k n).wf = true
  | .bool, .bool _ => True
  | .str, .str s => s.size ≤ maxLen
  | .list ks, .list f z es => f = false ∧ z = ks.length ∧ es.length ≤ maxLen ∧ DKrows ks es
  | _, _ => False
def DKs : List RK → List D → Prop
  | [], [] => True
  | k :: ks, d :: ds => DK k d ∧ DKs ks ds
  | _, _ => False
def DKrows : List RK → List (List D) → Prop
  | _, [] => True
  | ks, r :: es => DKs ks r ∧ DKrows ks es
end
theorem DKs.length : ∀ {ks : List RK} {ds : List D}, DKs ks ds → ds.length = ks.length
  | [], [], _ => rfl
  | [], _ :: _, h => by simp [DKs] at h
  | _ :: _, [], h => by simp [DKs] at h
  | k :: ks, d :: ds, h => by simp only [DKs] at h; simp [DKs.length h.2]
theorem DKs.append : ∀ {ks ks' : List RK} {ds ds' : List D}, DKs ks ds → DKs ks' ds' → DKs (ks ++ ks') (ds ++ ds')
  | [], _, [], _, _, h' => h'
  | [], _, _ :: _, _, h, _ => by simp [DKs] at h
  | _ :: _, _, [], _, h, _ => by simp [DKs] at h
  | k :: ks, _, d :: ds, _, h, h' => by
    simp only [DKs] at h
    exact ⟨h.1, DKs.append h.2 h'⟩
theorem DKrows_iff {ks : List RK} : ∀ {es : List (List D)}, DKrows ks es ↔ ∀ r ∈ es, DKs ks r
  | [] => by simp [DKrows]
  | r :: es => by simp [DKrows, DKrows_iff (es := es)]
section
variable {P : Program} {H : Type} {enc : TypeId × Value → H} {w : World} {O : Nat → Prop}
def CRel (O : Nat → Prop) (w : World) (ds : List D) (cs : List Value) : Prop := cs.length = ds.length ∧ ∀ (j : Nat) (x : D), ds[j]? = some x → ∃ v, cs[j]? = some v ∧ v.oneCell' = true ∧ DRel O w x v
theorem CRel.one {x : D} {v : Value} (h1 : v.oneCell' = true) (h : DRel O w x v) : CRel O w [x] [v] := ⟨rfl, fun j y hj => by
  match j, hj with
  | 0, hj => cases hj; exact ⟨v, rfl, h1, h⟩
  | j + 1, hj => simp at hj⟩
theorem CRel.append {ds ds' : List D} {cs cs' : List Value} (h : CRel O w ds cs) (h' : CRel O w ds' cs') : CRel O w (ds ++ ds') (cs ++ cs') := by
  refine ⟨by simp [h.1, h'.1], fun j x hj => ?_⟩
  rw [List.getElem?_append] at hj ⊢
  rw [h.1]
  split at hj
  · rename_i hl; rw [if_pos hl]; exact h.2 j x hj
  · rename_i hl; rw [if_neg hl]; exact h'.2 _ x hj
theorem drop_take {α : Type} (cs : List α) (a b : Nat) (h : a + b ≤ cs.length) : cs.drop a = (cs.drop a).take b ++ cs.drop (a + b) := by
  rw [← List.drop_drop]
  exact (List.take_append_drop b (cs.drop a)).symm
def ReadsTo (P : Program) (enc : TypeId × Value → H) (w : World) (O : Nat → Prop) (sp : Nat → Bool) (hd : Bool) (n : Nat) : Prop :=
  ∀ (fuel : Nat) (t : TypeId) (cs : List Value) (ks : List RK) (x : DataW H × List MemPlace), shp P n t = some ks → DataW.trod enc P w 0 sp hd fuel t cs = some x → ∃ ds, DKs ks ds ∧ CRel O w ds cs
theorem fields_ok {sp : Nat → Bool} {hd : Bool} {n : Nat} (ih : ReadsTo P enc w O sp hd n) {fuel : Nat} {cs : List Value} : ∀ (fs : List Field) (off : Nat) (ks : List RK), shpF P (shp P n) off fs = some ks → off + ks.length = cs.length →
    (∀ f ∈ fs, ∃ x, DataW.trod enc P w 0 sp hd fuel f.type ((cs.drop f.offset).take (P.cellsOf f.type)) = some x) → ∃ ds, DKs ks ds ∧ CRel O w ds (cs.drop off)
  | [], off, ks, h, hl, _ => by
    cases h
    simp only [List.length_nil, Nat.add_zero] at hl
    subst hl
    exact ⟨[], trivial, by rw [List.drop_length]; exact ⟨rfl, fun j x hj => by simp at hj⟩⟩
  | f :: fs, off, ks, h, hl, hr => by
    simp only [shpF] at h
    split at h
    · rename_i ks0 h0
      cases hb : Nat.beq f.offset off && Nat.beq (P.cellsOf f.type) ks0.length with
      | false => rw [hb] at h; cases h
      | true =>
        rw [hb] at h; simp only [cond_true] at h
        have hb := (Iff.of_eq (Bool.and_eq_true _ _)).1 hb |>.imp Nat.eq_of_beq_eq_true Nat.eq_of_beq_eq_true
        split at h
        · rename_i l h1
          cases h
          rw [List.length_append] at hl
          obtain ⟨x, hx⟩ := hr f (by simp)
          rw [hb.1, hb.2] at hx
          obtain ⟨ds0, a1, a2⟩ := ih _ _ _ _ _ h0 hx
          obtain ⟨ds1, b1, b2⟩ := fields_ok ih fs (off + ks0.length) l h1 (by omega) (fun f hf => hr f (by simp [hf]))
          refine ⟨ds0 ++ ds1, a1.append b1, ?_⟩
          rw [drop_take cs off ks0.length (by omega)]
          exact a2.append b2
        · cases h
    · cases h
theorem exists_rows {p : Nat → List D → Prop} : ∀ n, (∀ i, i < n → ∃ r, p i r) → ∃ es : List (List D), es.length = n ∧ ∀ i r, es[i]? = some r → p i r
  | 0, _ => ⟨[], rfl, fun i r h => by simp at h⟩
  | n + 1, h => by
    obtain ⟨es, a, b⟩ := exists_rows n fun i hi => h i (Nat.lt_succ_of_lt hi)
    obtain ⟨r, hr⟩ := h n (Nat.lt_succ_self n)
    refine ⟨es ++ [r], by simp [a], fun i q hq => ?_⟩
    rw [List.getElem?_append] at hq
    split at hq
    · exact b i q hq
    · rename_i hl
      have : i = n := by
        cases hk : i - es.length with
        | zero => omega
        | succ m => rw [hk] at hq; simp at hq
      subst this
      rw [a, Nat.sub_self] at hq
      cases hq; exact hr
theorem cells_get {base : Nat} {a : Addr} {n : Nat} {cs : List Value} (h : w.cells? base a n = some cs) : cs.length = n ∧ ∀ j, j < n → w.cell? (a.add j) = cs[j]? := by
  unfold World.cells? at h
  split at h
  · have key : ∀ (m : Nat) (l : List Nat) (cs : List Value), l.mapM (fun i => w.cell? (a.add i)) = some cs → cs.length = l.length ∧ ∀ (j i : Nat), l[j]? = some i → w.cell? (a.add i) = cs[j]? := by
      intro m l
      induction l with
      | nil => intro cs h; simp at h; subst h; simp
      | cons i l ih =>
        intro cs h
        simp only [List.mapM_cons, Option.bind_eq_bind, Option.bind_eq_some_iff, Option.pure_def, Option.some.injEq] at h
        obtain ⟨v, hv, vs, hvs, rfl⟩ := h
        obtain ⟨e1, e2⟩ := ih _ hvs
        refine ⟨by simp [e1], fun j i' hj => ?_⟩
        match j, hj with
        | 0, hj => simp at hj; subst hj; simpa using hv
        | j + 1, hj => simpa using e2 j i' (by simpa using hj)
    obtain ⟨e1, e2⟩ := key n _ _ h
    refine ⟨by simpa using e1, fun j hj => e2 j j (by simp [hj])⟩
  · cases h
theorem cell_spot {a : Addr} {v : Value} (h : w.cell? a = some v) : a.spot = none := by
  unfold World.cell? at h
  split at h
  · split at h
    · cases h
    · rename_i hs; simpa using hs
  · cases h
theorem add_plain (b o k : Nat) : (Addr.add ⟨b, o, none⟩ k) = ⟨b, o + k, none⟩ := by
  unfold Addr.add
  split
  · rename_i h; subst h; rfl
  · rfl
theorem reads_ok {sp : Nat → Bool} {hd : Bool} (hO : ∀ b, ¬ O b) : ∀ n, ReadsTo P enc w O sp hd n
  | 0 => fun fuel t cs ks x h _ => by cases h
  | n + 1 => fun fuel t cs ks x h ht => by
    have ih : ReadsTo P enc w O sp hd n := reads_ok hO n
    cases fuel with
    | zero => simp [DataW.trod] at ht
    | succ m =>
    simp only [shp] at h
    split at h
    ·
      rename_i hu
      cases h
      obtain ⟨b, rfl, _⟩ := DataW.trod_bool hu ht
      exact ⟨[.bool b], ⟨trivial, trivial⟩, .one rfl (.bool _)⟩
    · rename_i k hu
      cases h
      obtain ⟨i, rfl, _, hw⟩ := DataW.trod_int hu ht
      exact ⟨[.int k i], ⟨⟨rfl, hw⟩, trivial⟩, .one rfl (.int _ _)⟩
    · rename_i hu
      cases h
      obtain ⟨s, rfl, hsz⟩ : ∃ s, cs = [.string s] ∧ s.size ≤ maxLen := by
        unfold DataW.trod at ht
        rw [hu] at ht
        split at ht <;> simp_all
      exact ⟨[.str s], ⟨hsz, trivial⟩, .one rfl (.str _)⟩
    ·
      rename_i e hu
      split at h
      · rename_i ks0 h0
        cases hb : Nat.beq (P.cellsOf e) ks0.length && Nat.blt 0 ks0.length with
        | false => rw [hb] at h; cases h
        | true =>
        rw [hb] at h; simp only [cond_true] at h; cases h
        have hb := (Iff.of_eq (Bool.and_eq_true _ _)).1 hb |>.imp Nat.eq_of_beq_eq_true id
        have hz : 0 < ks0.length := Nat.lt_of_succ_le (Nat.le_of_ble_eq_true hb.2)
        rcases DataW.trod_slice hu ht with ⟨rfl, _⟩ | ⟨a, len, cap, elems, rest, m', _, rfl, _, _, hlc, hcm, hel, hget, _⟩
        · exact ⟨[.list false ks0.length []], by simp [DKs, DK, DKrows], .one rfl (.lnil false _ _ _ (by simp))⟩
        · rw [hb.1] at hget
          have hrow : ∀ i, i < len → ∃ r, DKs ks0 r ∧ ∃ cs, w.cells? 0 (a.add (i * ks0.length)) ks0.length = some cs ∧ CRel O w r cs := by
            intro i hi
            have h1 := hget i hi
            have hi' : i < elems.length := by omega
            rw [List.getElem?_eq_getElem hi'] at h1
            obtain ⟨cs, hcs, htr⟩ := Option.bind_eq_some_iff.1 h1
            obtain ⟨r, q1, q2⟩ := ih _ _ _ _ _ h0 htr
            exact ⟨r, q1, cs, hcs, q2⟩
          obtain ⟨es, hes, hp⟩ := exists_rows len hrow
          have hrows : DKrows ks0 es := DKrows_iff.2 fun r hr => by
            obtain ⟨i, hi⟩ := List.getElem?_of_mem hr
            exact (hp i r hi).1
          refine ⟨[.list false ks0.length es], ⟨⟨rfl, rfl, by omega, hrows⟩, trivial⟩, .one rfl ?_⟩
          by_cases h00 : len = 0
          · have : es = [] := List.length_eq_zero_iff.1 (by omega)
            subst this; subst h00
            exact .lnil false _ _ _ (by simp)
          ·
            have hne : es ≠ [] := fun h => h00 (by rw [h] at hes; exact hes.symm)
            have hspot : a.spot = none := by
              obtain ⟨r, hr⟩ : ∃ r, es[0]? = some r := ⟨es[0]'(by omega), List.getElem?_eq_getElem (by omega)⟩
              obtain ⟨_, cs, hcs, hcr⟩ := hp 0 r hr
              obtain ⟨e1, e2⟩ := cells_get hcs
              have e3 := e2 0 hz
              rw [List.getElem?_eq_getElem (by omega)] at e3
              have : (a.add (0 * ks0.length)).add 0 = a := by simp [Addr.add]
              rw [this] at e3
              exact cell_spot e3
            obtain ⟨b, o, s⟩ := a
            simp only at hspot; subst hspot
            have hcellk : ∀ (i : Nat) (r : List D) (j : Nat) (x : D), es[i]? = some r → r[j]? = some x → ∃ v, w.cell? ⟨b, o + (i * ks0.length + j), none⟩ = some v ∧ v.oneCell' = true ∧ DRel O w x v := by
              intro i r j x hi hj
              obtain ⟨q0, cs, hcs, hcr⟩ := hp i r hi
              obtain ⟨e1, e2⟩ := cells_get hcs
              obtain ⟨v, hv, h1, h2⟩ := hcr.2 j x hj
              have hj' : j < ks0.length := by rw [← q0.length]; exact (List.getElem?_eq_some_iff.1 hj).1
              have := e2 j hj'
              rw [add_plain, add_plain, hv, Nat.add_assoc] at this
              exact ⟨v, this, h1, h2⟩
            have hlens : ∀ (i : Nat) (r : List D), es[i]? = some r → r.length = ks0.length := fun i r hi => (hp i r hi).1.length
            let cell : Nat → Value := fun k => (w.cell? ⟨b, o + k, none⟩).getD undef
            have hall : ∀ k, k < es.length * ks0.length → ∃ v, w.cell? ⟨b, o + k, none⟩ = some v ∧ v.oneCell' = true := by
              intro k hk
              have hi : k / ks0.length < es.length := (Nat.div_lt_iff_lt_mul hz).2 hk
              have hj : k % ks0.length < ks0.length := Nat.mod_lt _ hz
              have hr := List.getElem?_eq_getElem hi
              have hj2 : k % ks0.length < (es[k / ks0.length]).length := by rw [hlens _ _ hr]; exact hj
              obtain ⟨v, a1, a2, _⟩ := hcellk _ _ _ _ hr (List.getElem?_eq_getElem hj2)
              have : k / ks0.length * ks0.length + k % ks0.length = k := by rw [Nat.mul_comm]; exact Nat.div_add_mod _ _
              rw [this] at a1
              exact ⟨v, a1, a2⟩
            have key := DRel.list (O := O) (w := w) false es b o ks0.length cap hz hne (hO b) (by omega) (by simp) hlens cell (fun k hk => ?_) (fun k hk => ?_) (fun i r j d hi hj => ?_)
            · rw [hes] at key; exact key
            · obtain ⟨v, a1, a2⟩ := hall k hk
              show ((w.cell? ⟨b, o + k, none⟩).getD undef).oneCell' = true
              rw [a1]; exact a2
            · obtain ⟨v, a1, a2⟩ := hall k hk
              show w.cell? ⟨b, o + k, none⟩ = some ((w.cell? ⟨b, o + k, none⟩).getD undef)
              rw [a1]; rfl
            · obtain ⟨v, a1, _, a3⟩ := hcellk i r j d hi hj
              show DRel O w d ((w.cell? ⟨b, o + (i * ks0.length + j), none⟩).getD undef)
              rw [a1]; exact a3
      · cases h
    ·
      rename_i fs hu
      split at h
      · rename_i ks0 h0
        cases hb : Nat.beq (P.cellsOf t) ks0.length with
        | false => rw [hb] at h; cases h
        | true =>
        rw [hb] at h; simp only [cond_true] at h; cases h
        have hb := Nat.eq_of_beq_eq_true hb
        obtain ⟨xs, m', _, _, hl, hxl, hf⟩ := DataW.trod_struct hu ht
        have := fields_ok (P := P) (enc := enc) (w := w) (O := O) (cs := cs) ih (fuel := m') fs.toList 0 ks h0 (by omega) (fun f hfm => by
          obtain ⟨i, hi⟩ := List.getElem?_of_mem hfm
          have hi' : fs[i]? = some f := by simpa using hi
          have := hf i f hi'
          have hlt : i < xs.length := by rw [hxl]; exact (Array.getElem?_eq_some_iff.1 hi').1
          rw [List.getElem?_eq_getElem hlt] at this
          exact ⟨_, this⟩)
        simpa using this
      · cases h
    · cases h
end
def isStruct (P : Program) (t : TypeId) : Bool := match P.underlying t with
  | some (.struct _) => true
  | _ => false
def DArg (P : Program) (n : Nat) (t : TypeId) (x : D) : Prop :=
  match isStruct P t, shp P n t with
  | true, some ks => ∃ ds, x = .agg ds ∧ DKs ks ds
  | false, some [k] => DK k x
  | _, _ => False
def DArgs (P : Program) (n : Nat) : List TypeId → List D → Prop
  | [], [] => True
  | t :: ts, x :: xs => DArg P n t x ∧ DArgs P n ts xs
  | _, _ => False
def shps (P : Program) (n : Nat) (ts : List TypeId) : Bool := ts.all fun t => match isStruct P t, shp P n t with
  | true, some _ => true
  | false, some [_] => true
  | _, _ => false
section
variable {P : Program} {H : Type} {enc : TypeId × Value → H} {w : World} {O : Nat → Prop}
theorem arg_ok (hO : ∀ b, ¬ O b) {n : Nat} {t : TypeId} {v : Value} {r : Reach} {base : Nat} {d : DataW H} {ps : List MemPlace} (hs : shps P n [t] = true) (hok : Value.okWide P w r base t v) (ht : DataW.Trod enc P w 0 (fun _ => true) true t v d ps) : ∃ x, DArg P n t x ∧ DRel O w x v := by
  obtain ⟨fuel, ht⟩ := ht
  simp only [shps, List.all_cons, List.all_nil, Bool.and_true] at hs
  unfold DArg
  split at hs
  · rename_i ks h1 h2
    obtain ⟨ds, a, b⟩ := reads_ok hO n _ _ _ _ _ h2 ht
    unfold isStruct at h1
    split at h1
    · rename_i fs hu
      unfold Value.okWide at hok
      rw [hu] at hok
      obtain ⟨cs, rfl, hc, _⟩ := hok
      refine ⟨_, ⟨ds, rfl, a⟩, .agg ds cs (by simpa [Value.cells] using b.1) fun i y hi => ?_⟩
      obtain ⟨u, hu1, _, hu3⟩ := b.2 i y hi
      have : cs[i]? = some u := by simpa [Value.cells] using hu1
      rw [Array.getD_eq_getD_getElem?, this]; exact hu3
    · cases h1
  · rename_i k h1 h2
    obtain ⟨ds, a, b⟩ := reads_ok hO n _ _ _ _ _ h2 ht
    have hl := a.length
    match ds, hl with
    | [x], _ =>
      refine ⟨x, a.1, ?_⟩
      obtain ⟨u, hu1, hu2, hu3⟩ := b.2 0 x rfl
      have hv : v = u := by
        cases v with
        | agg cs =>
          exfalso
          unfold Value.okWide at hok
          unfold isStruct at h1
          cases n with
          | zero => cases h2
          | succ n =>
            simp only [shp] at h2
            split at h2
            all_goals (rename_i hu; first | (rw [hu] at hok h1; simp [Cell.okWide, Cell.ok, hu] at hok h1) | cases h2)
        | _ => simpa [Value.cells] using hu1
      rw [hv]; exact hu3
  · cases hs
theorem args_ok (hO : ∀ b, ¬ O b) {n : Nat} {r : Reach} {base : Nat} : ∀ {ts : List TypeId} {vs : List Value} {ds : List (DataW H)} {ps : List MemPlace}, shps P n ts = true → (∀ (j : Nat) t v, ts[j]? = some t → vs[j]? = some v → Value.okWide P w r base t v) →
    DataW.TrodAll enc P w 0 (fun _ => true) true ts vs ds ps → ∃ xs, DArgs P n ts xs ∧ vs.length = xs.length ∧ ∀ (i : Nat) (x : D), xs[i]? = some x → ∃ v, vs[i]? = some v ∧ DRel O w x v
  | [], [], [], _, _, _, _ => ⟨[], trivial, rfl, fun i x h => by simp at h⟩
  | [], [], _ :: _, _, _, _, h => by simp [DataW.TrodAll] at h
  | [], _ :: _, _, _, _, _, h => by simp [DataW.TrodAll] at h
  | _ :: _, [], _, _, _, _, h => by simp [DataW.TrodAll] at h
  | _ :: _, _ :: _, [], _, _, _, h => by simp [DataW.TrodAll] at h
  | t :: ts, v :: vs, d :: ds, ps, hs, hok, h => by
    obtain ⟨p, q, h1, h2, _⟩ := h
    have hs' : shps P n [t] = true ∧ shps P n ts = true := by
      simp only [shps, List.all_cons, List.all_nil, Bool.and_true, Bool.and_eq_true] at hs ⊢
      exact hs
    obtain ⟨x, a1, a2⟩ := arg_ok hO hs'.1 (hok 0 t v rfl rfl) h1
    obtain ⟨xs, b1, b2, b3⟩ := args_ok hO hs'.2 (fun j t v h1 h2 => hok (j + 1) t v (by simpa using h1) (by simpa using h2)) h2
    refine ⟨x :: xs, ⟨a1, b1⟩, by simp [b2], fun i y hi => ?_⟩
    match i, hi with
    | 0, hi => cases hi; exact ⟨v, rfl, a2⟩
    | i + 1, hi => simpa using b3 i y (by simpa using hi)
structure SameOld (w w' : World) : Prop where
  os : w'.os = w.os
  tape : w'.tape = w.tape
  output : w'.output = w.output
  size : w.heap.size ≤ w'.heap.size
  block : ∀ b, b < w.heap.size → w'.heap[b]? = w.heap[b]?
theorem toA_len (l : List D) : (toA l).length = l.length := by
  induction l with
  | nil => rfl
  | cons x l ih => simp [toA, ih]
theorem calls_of_aret {g : FuncId} {args : Array Value} {xs : List D} {b : Bool} {h' : List AO} (ha : ARet P g (toA xs) [] (.d (.bool b)) h') (hl : args.toList.length = xs.length)
    (hx : ∀ (i : Nat) (x : D), xs[i]? = some x → ∃ v, args.toList[i]? = some v ∧ DRel (fun _ => False) w x v) : Calls P g args w fun e w' => e = .returned (.bool b) ∧ SameOld w w' := by
  intro cs
  let ρ0 : Rho := ⟨fun _ => none, fun _ => False⟩
  have hown : ownB ρ0 [] = fun _ => False := by
    funext c
    apply propext
    refine ⟨fun h => ?_, False.elim⟩
    rcases h with h | ⟨id, L, hL, _⟩
    · exact h
    · cases hL
  have hr : HeapRel P ρ0 [] w := ⟨fun id L hL => (by cases hL), fun id id' L L' hL => (by cases hL), fun b hb => hb.elim, fun id L hL => (by cases hL)⟩
  obtain ⟨ρ', v, w', fr, s1, s2, s3, s4, s5, s6, s7⟩ := ha.run ρ0 args w cs hr (fun id hid => absurd rfl hid) ⟨by rw [toA_len, ← hl]; simp, fun i x hi => by
    rw [toA_get] at hi
    obtain ⟨d, hd, rfl⟩ := Option.map_eq_some_iff.1 hi
    obtain ⟨v, hv, hr⟩ := hx i d hd
    rw [hown, Array.getD_eq_getD_getElem?]
    have : args[i]? = some v := by simpa using hv
    rw [this]; exact .d hr⟩
  refine ⟨.returned v, w', fr, ⟨?_, s7.os, s7.tape, s7.output, s7.keep.size, fun c hc => s7.keep.frame c hc ?_⟩, s1, s2, s3⟩
  · cases s4 with
    | d h => cases h; rfl
  · rw [hown]; exact id
theorem SameOld.at {w' : World} (h : SameOld w w') {p : MemPlace} (hp : p.block < w.heap.size) : w.sameAt w' p := by
  cases p with
  | cell b off =>
    show w'.cell? _ = w.cell? _
    exact cell_of_block (h.block b hp)
  | map b => exact h.block b hp
theorem TrodAll_carry {w w' : World} {sp : Nat → Bool} {hd : Bool} : ∀ {ts : List TypeId} {vs : List Value} {ds : List (DataW H)} {ps : List MemPlace}, DataW.TrodAll enc P w 0 sp hd ts vs ds ps → (∀ p ∈ ps, w.sameAt w' p) → DataW.TrodAll enc P w' 0 sp hd ts vs ds ps
  | [], [], [], _, h, _ => h
  | [], [], _ :: _, _, h, _ => by simp [DataW.TrodAll] at h
  | [], _ :: _, _, _, h, _ => by simp [DataW.TrodAll] at h
  | _ :: _, [], _, _, h, _ => by simp [DataW.TrodAll] at h
  | _ :: _, _ :: _, [], _, h, _ => by simp [DataW.TrodAll] at h
  | t :: ts, v :: vs, d :: ds, ps, h, hs => by
    obtain ⟨p, q, ⟨n, h1⟩, h2, rfl⟩ := h
    exact ⟨p, q, ⟨n, DataW.trod_carry n _ _ _ h1 fun x hx => hs x (by simp [hx])⟩, TrodAll_carry h2 fun x hx => hs x (by simp [hx]), rfl⟩
theorem keptBut_of {w' : World} {may : MemPlace → Prop} (h : SameOld w w') : w.keptBut w' may := by
  refine ⟨h.os, h.output, fun i hi => ?_⟩
  rw [h.block i hi]
  split
  · rename_i c t fr c' t' fr' h1 h2
    rw [h1] at h2; cases h2
    exact ⟨rfl, rfl, rfl, fun _ _ => rfl⟩
  · rename_i es clock es' clock' h1 h2
    rw [h1] at h2; cases h2
    exact .inr ⟨rfl, rfl⟩
  · rfl
theorem trodAll_len {sp : Nat → Bool} {hd : Bool} : ∀ {ts : List TypeId} {vs : List Value} {ds : List (DataW H)} {ps : List MemPlace}, DataW.TrodAll enc P w 0 sp hd ts vs ds ps → ds.length = ts.length
  | [], [], [], _, _ => rfl
  | [], [], _ :: _, _, h => by simp [DataW.TrodAll] at h
  | [], _ :: _, _, _, h => by simp [DataW.TrodAll] at h
  | _ :: _, [], _, _, h => by simp [DataW.TrodAll] at h
  | _ :: _, _ :: _, [], _, h => by simp [DataW.TrodAll] at h
  | t :: ts, v :: vs, d :: ds, ps, h => by
    obtain ⟨p, q, _, h2, _⟩ := h
    simp [trodAll_len h2]
theorem law_post {f : Func} {s : ChangeSpec} {W W' : World} {args : Array Value} {ds gs : List (DataW H)} {before : List MemPlace} {rt : TypeId}
    (hl : laidOutB P = true) (hm : mapsRowed P = true) (hsz : ((List.range P.types.size).all fun t => match P.underlying t with | some (.slice e) => decide (0 < P.cellsOf e) | _ => true) = true)
    (hts : f.params.toList.all (fun t => decide (t < P.types.size)) = true) (hv : s.vars = []) (hrt : f.resultTypes = #[rt]) (hrb : P.underlying rt = some .bool)
    (hfn : ∀ ds : List (DataW H), ds.length = f.params.toList.length → (s.fn H ds).results = [.lit (.bool true)] ∧ (s.fn H ds).args = ds ∧ (s.fn H ds).vars = [])
    (hW : DataW.Whole enc P f.params.toList s.vars false W args.toList ds gs before) (h : SameOld W W') : s.post enc P f false true false false W args (.bool true) W' := by
  have hW' := hW
  obtain ⟨p, q, hA, hV, rfl, hz, _⟩ := hW
  rw [hv] at hV
  have hlt := hW'.lt
  match gs, hV with
  | [], hV =>
  have hq : q = [] := hV
  subst hq
  simp only [List.append_nil] at hlt hz hW'
  obtain ⟨f1, f2, f3⟩ := hfn ds (trodAll_len hA)
  have hres : ∀ (b : Nat) (sp : Nat → Bool) (hd : Bool), DataW.TrodAll enc P W' b sp hd f.resultTypes.toList ((Value.bool true).resultList f.resultTypes.size) (s.fn H (ds ++ [])).results [] := by
    intro b sp hd
    rw [List.append_nil, f1, hrt]
    exact ⟨[], [], ⟨1, by simp [DataW.trod, hrb, Value.cells]⟩, rfl, rfl⟩
  have hargs : ∀ sp : Nat → Bool, (∀ x ∈ p, sp x.block = true) → DataW.TrodAll enc P W' 0 sp true f.params.toList args.toList (s.fn H (ds ++ [])).args p := by
    intro sp hsp
    rw [List.append_nil, f2]
    exact (TrodAll_carry hA fun x hx => h.at (hlt x hx)).respare (kids_rows hl hm) (slices_full_of P hsz) (fun t ht => by simpa using List.all_eq_true.1 hts t ht) hsp
  have hvars : ∀ sp : Nat → Bool, DataW.TrodVars enc P W' sp s.vars (s.fn H (ds ++ [])).vars [] := by
    intro sp; rw [List.append_nil, f3, hv]; rfl
  refine ⟨ds, [], p, [], p, [], hW', hres _ _ _, hargs _ (fun x hx => by simpa using hlt x hx), hvars _, keptBut_of h, fun _ => ?_⟩
  refine ⟨?_, _, _, ([] ++ p) ++ [], ⟨[] ++ p, [], trodAll_append (hargs _ (fun _ _ => rfl)) (hres _ _ _), hvars _, rfl, ?_, ?_⟩, ?_⟩
  · intro j t r h1 h2
    rw [hrt] at h1 h2
    match j, h1, h2 with
    | 0, h1, h2 =>
      simp at h1; subst h1
      have : r = .bool true := by simpa [Value.resultList] using h2.symm
      subst this
      unfold Value.okWide
      rw [hrb]
      simp [Cell.okWide, Cell.ok, hrb]
    | j + 1, h1, _ => simp at h1
  · intro b off hp
    have hp : MemPlace.cell b off ∈ p := by simpa using hp
    have := hz b off hp
    have hb := h.block b (hlt _ hp)
    unfold World.frozen? at this ⊢
    simp only at this ⊢
    rw [hb]; exact this
  · intro ha; cases ha
  · intro x hx _
    simpa using hx
end
end Go.Am
end

section
set_option linter.unusedVariables false
set_option linter.unusedSimpArgs false
namespace Go.Am
theorem need_eq {β : Type} (c : Bool) (x : Option β) : opt.need β c x = if c = true then x else none := by cases c <;> rfl
theorem ask_eq {β : Type} (c : Bool) (x y : Option β) : opt.ask β c x y = if c = true then x else y := by cases c <;> rfl
theorem ret_eq {β : Type} (x : β) : opt.ret β x = some x := rfl
theorem no_eq {β : Type} (n : Nat) : opt.no β n = none := rfl
theorem bnd_eq {α β : Type} (x : Option α) (f : α → Option β) : opt.bnd α β x f = x.bind f := rfl
theorem run_eq {β : Type} (x : Option β) : opt.run β x = x := rfl
theorem alt_eq {α β γ : Type} (x : Option (α ⊕ β)) (f : α → Option γ) (g : β → Option γ) : opt.alt α β γ x f g = x.bind (Sum.elim f g) := by
  cases x with
  | none => rfl
  | some y => cases y <;> rfl
theorem need_true {β : Type} (x : Option β) : opt.need β true x = x := rfl
theorem ask_true {β : Type} (x y : Option β) : opt.ask β true x y = x := rfl
theorem ask_false {β : Type} (x y : Option β) : opt.ask β false x y = y := rfl
section
variable (es l : List (List D)) (i j a b n : Nat) (x y : Int) (c d : Bool)
theorem std_len : std.len es = es.length := rfl
theorem std_ofNat : std.ofNat n = (n : Int) := rfl
theorem std_nat : std.nat x = x.toNat := rfl
theorem std_add : std.add a b = a + b := rfl
theorem std_sub : std.sub a b = a - b := rfl
theorem std_mul : std.mul a b = a * b := rfl
theorem std_leN : std.leN a b = decide (a ≤ b) := by
  show Nat.ble a b = _
  rw [Bool.eq_iff_iff]; simp
theorem std_eqN : std.eqN a b = decide (a = b) := by
  show Nat.beq a b = _
  rw [Bool.eq_iff_iff]; simp
theorem std_min : std.min a b = min a b := rfl
theorem std_and : std.and c d = (c && d) := rfl
theorem std_bEq : std.bEq c d = (c == d) := rfl
theorem std_app : std.app es l = es ++ l := rfl
theorem std_cut : std.cut es a n = (es.drop a).take n := rfl
theorem std_set (r : List D) : std.set es i r = es.set i r := rfl
theorem std_rep (r : List D) : std.rep n r = List.replicate n r := rfl
theorem std_splice : std.splice es i l = es.take i ++ l ++ es.drop (i + l.length) := rfl
theorem std_rdI : std.rdI es i j = dI (rdD es i j) := rfl
theorem std_rdB : std.rdB es i j = dB (rdD es i j) := rfl
theorem std_rdS : std.rdS es i j = dS (rdD es i j) := rfl
theorem std_rdL : std.rdL es i j = dL (rdD es i j) := rfl
theorem std_cvt (k : IntKind) : std.cvt k x = k.wrap x := rfl
theorem std_eql : std.cmp .eql x y = decide (x = y) := rfl
theorem std_neq : std.cmp .neq x y = !decide (x = y) := rfl
theorem std_lss : std.cmp .lss x y = decide (x < y) := rfl
theorem std_leq : std.cmp .leq x y = decide (x ≤ y) := rfl
theorem std_gtr : std.cmp .gtr x y = decide (x > y) := rfl
theorem std_geq : std.cmp .geq x y = decide (x ≥ y) := rfl
theorem std_mmin : std.mm .lss x y = min x y := by
  show (if y < x then y else x) = _
  omega
theorem std_mmax : std.mm .gtr x y = max x y := by
  show (if y > x then y else x) = _
  omega
theorem std_rowOk (ck : List CK) : std.rowOk es i ck = match es[i]? with | some r => cellsOk ck r | none => false := rfl
theorem ofNat_eq : (Int.ofNat n) = (n : Int) := rfl
theorem bif_eq {α : Type} (u v : α) : (bif c then u else v) = if c = true then u else v := by cases c <;> rfl
theorem wrap64 (h1 : -9223372036854775808 ≤ x) (h2 : x ≤ 9223372036854775807) : IntKind.i64.wrap x = x := by
  have e : IntKind.i64.wrap x = if x % 18446744073709551616 ≥ 9223372036854775808 then x % 18446744073709551616 - 18446744073709551616 else x % 18446744073709551616 := by
    unfold IntKind.wrap
    simp [IntKind.signed, IntKind.bits]
  rw [e]
  split <;> omega
theorem std_ar_add : std.ar .add .i64 x y = IntKind.i64.wrap (x + y) := rfl
theorem std_ar_sub : std.ar .sub .i64 x y = IntKind.i64.wrap (x - y) := rfl
theorem std_ar_mul : std.ar .mul .i64 x y = IntKind.i64.wrap (x * y) := rfl
theorem std_ar_quo : std.ar .quo .i64 x y = IntKind.i64.wrap (x.tdiv y) := rfl
theorem std_ar_rem : std.ar .rem .i64 x y = x.tmod y := rfl
end
end Go.Am
namespace Go.Am
theorem iter_to {S R σ : Type} {b : S → Option (S ⊕ R)} (e : σ → S) (I : σ → Prop) (μ : σ → Nat) (f : σ → R)
    (step : ∀ s, I s → (∃ s', b (e s) = some (.inl (e s')) ∧ I s' ∧ μ s' < μ s ∧ f s' = f s) ∨ b (e s) = some (.inr (f s))) : ∀ s, I s → iter b (e s) = some (f s) := by
  have : ∀ m s, μ s = m → I s → iter b (e s) = some (f s) := by
    intro m
    induction m using Nat.strongRecOn with
    | _ m ih =>
      intro s hm hi
      rcases step s hi with ⟨s', h1, h2, h3, h4⟩ | h1
      · rw [iter_unfold, h1, ← h4]; exact ih (μ s') (hm ▸ h3) s' rfl h2
      · rw [iter_unfold, h1]
  exact fun s hi => this _ s rfl hi
theorem iter_ev {S R σ : Type} {b : S → Option (S ⊕ R)} (e : σ → S) (I : σ → Prop) (μ : σ → Nat) (Q : R → Prop)
    (step : ∀ s, I s → (∃ s', b (e s) = some (.inl (e s')) ∧ I s' ∧ μ s' < μ s) ∨ (∃ r, b (e s) = some (.inr r) ∧ Q r)) : ∀ s, I s → ∃ r, iter b (e s) = some r ∧ Q r := by
  have : ∀ m s, μ s = m → I s → ∃ r, iter b (e s) = some r ∧ Q r := by
    intro m
    induction m using Nat.strongRecOn with
    | _ m ih =>
      intro s hm hi
      rcases step s hi with ⟨s', h1, h2, h3⟩ | ⟨r, h1, h2⟩
      · obtain ⟨r, a, b⟩ := ih (μ s') (hm ▸ h3) s' rfl h2
        exact ⟨r, by rw [iter_unfold, h1]; exact a, b⟩
      · exact ⟨r, by rw [iter_unfold, h1], h2⟩
  exact fun s hi => this _ s rfl hi
theorem iter_count {S R τ : Type} {b : S → Option (S ⊕ R)} (n : Nat) (e : τ → Nat → S) (I : τ → Nat → Prop) (Q : R → Prop)
    (step : ∀ t i, i < n → I t i → (∃ t', b (e t i) = some (.inl (e t' (i + 1))) ∧ I t' (i + 1)) ∨ (∃ r, b (e t i) = some (.inr r) ∧ Q r))
    (stop : ∀ t, I t n → ∃ r, b (e t n) = some (.inr r) ∧ Q r) (t : τ) (i : Nat) (hi : i ≤ n) (h : I t i) : ∃ r, iter b (e t i) = some r ∧ Q r := by
  refine iter_ev (σ := τ × Nat) (fun s => e s.1 s.2) (fun s => s.2 ≤ n ∧ I s.1 s.2) (fun s => n - s.2) Q ?_ (t, i) ⟨hi, h⟩
  rintro ⟨t, i⟩ ⟨hi, h⟩
  simp only at hi h ⊢
  rcases Nat.lt_or_ge i n with hlt | hge
  · rcases step t i hlt h with ⟨t', a, b⟩ | ⟨r, a, b⟩
    · exact .inl ⟨(t', i + 1), a, ⟨hlt, b⟩, by simp only; omega⟩
    · exact .inr ⟨r, a, b⟩
  · have : i = n := by omega
    subst this
    exact .inr (stop t h)
theorem drop_get {α : Type} {l : List α} {i : Nat} {m : α} (h : l[i]? = some m) : l.drop i = m :: l.drop (i + 1) := by
  obtain ⟨h1, h2⟩ := List.getElem?_eq_some_iff.1 h
  rw [List.drop_eq_getElem_cons h1, h2]
theorem get_some {α : Type} {l : List α} {i : Nat} (h : i < l.length) : ∃ m, l[i]? = some m := ⟨_, List.getElem?_eq_getElem h⟩
theorem wrap_nat {i : Nat} (h : i < 9223372036854775807) : IntKind.i64.wrap ((i : Int) + 1) = ((i + 1 : Nat) : Int) := by
  rw [wrap64] <;> omega
end Go.Am
end

section
set_option linter.unusedVariables false
namespace Go.Am
def le {β : Type} (a b : Option β) : Prop := ∀ r, a = some r → b = some r
theorem le_refl {β : Type} (a : Option β) : le a a := fun _ h => h
theorem le_none {β : Type} (a : Option β) : le none a := fun _ h => by cases h
theorem le_need {β : Type} {c : Bool} {x y : Option β} (h : le x y) : le (opt.need β c x) (opt.need β c y) := by
  cases c
  · exact le_refl _
  · exact h
theorem le_ask {β : Type} {c : Bool} {x y x' y' : Option β} (h1 : le x x') (h2 : le y y') : le (opt.ask β c x y) (opt.ask β c x' y') := by
  cases c
  · exact h2
  · exact h1
theorem le_cond {β : Type} {c : Bool} {x y x' y' : Option β} (h1 : le x x') (h2 : le y y') : le (bif c then x else y) (bif c then x' else y') := by
  cases c
  · exact h2
  · exact h1
theorem le_run {β : Type} {x y : Option β} (h : le x y) : le (opt.run β x) (opt.run β y) := h
theorem le_bnd {α β : Type} {x y : Option α} {f g : α → Option β} (h1 : le x y) (h2 : ∀ a, le (f a) (g a)) : le (opt.bnd α β x f) (opt.bnd α β y g) := by
  intro r h
  cases x with
  | none => cases h
  | some a =>
    have := h1 a rfl
    subst this
    exact h2 a r h
theorem le_alt {α β γ : Type} {x y : Option (α ⊕ β)} {f f' : α → Option γ} {g g' : β → Option γ} (h1 : le x y) (h2 : ∀ a, le (f a) (f' a)) (h3 : ∀ a, le (g a) (g' a)) :
    le (opt.alt α β γ x f g) (opt.alt α β γ y f' g') := by
  intro r h
  cases x with
  | none => cases h
  | some a =>
    have := h1 a rfl
    subst this
    cases a with
    | inl a => exact h2 a r h
    | inr a => exact h3 a r h
theorem le_iterN {S R : Type} {b c : S → Option (S ⊕ R)} (h : ∀ s, le (c s) (b s)) : ∀ (n : Nat) (s : S), le (iterN c n s) (iterN b n s) := by
  intro n
  induction n with
  | zero => intro s r h; cases h
  | succ n ih =>
    intro s r hr
    simp only [iterN] at hr ⊢
    cases hc : c s with
    | none => rw [hc] at hr; cases hr
    | some x =>
      rw [hc] at hr; rw [h s _ hc]
      cases x with
      | inl s' => exact ih s' r hr
      | inr r' => exact hr
theorem le_iter {S R : Type} {b c : S → Option (S ⊕ R)} (h : ∀ s, le (c s) (b s)) (n : Nat) (s : S) : le (iterN c n s) (iter b s) :=
  fun r hr => iter_of (le_iterN h n s r hr)
abbrev It := ∀ S R : Type, (S → Option (S ⊕ R)) → S → Option R
noncomputable def it0 : It := fun _ _ b s => iter b s
def itN (n : Nat) : It := fun _ _ b s => iterN b n s
def It.Le (i j : It) : Prop := ∀ (S R : Type) (c b : S → Option (S ⊕ R)) (s : S), (∀ s, le (c s) (b s)) → le (i S R c s) (j S R b s)
theorem itN_le (n : Nat) : (itN n).Le it0 := fun _ _ _ _ s h => le_iter h n s
end Go.Am
end
