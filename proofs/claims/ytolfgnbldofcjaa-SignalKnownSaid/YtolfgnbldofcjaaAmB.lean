/-
  append, make and their like: the function against the model.
-/
import Derived.Test.YtolfgnbldofcjaaAmA
import Derived.RangeFuncLeaves
import Derived.Orders
section
set_option linter.unusedVariables false
set_option linter.unusedSimpArgs false
namespace Go.Am
theorem growBy_le (n : Nat) : ∀ (f c : Nat), c ≤ n → Builtin.growBy n f c ≤ 2 * n + 1000
  | 0, c, h => by simp [Builtin.growBy]; omega
  | f + 1, c, h => by
    simp only [Builtin.growBy]
    split
    · omega
    · by_cases h2 : c + (c + 768) / 4 ≤ n
      · exact growBy_le n f _ h2
      · have : ∀ f, Builtin.growBy n f (c + (c + 768) / 4) ≤ c + (c + 768) / 4 := by
          intro f
          cases f with
          | zero => simp [Builtin.growBy]
          | succ f => simp only [Builtin.growBy]; rw [if_pos (by omega)]; omega
        have := this f; omega
theorem nextcap_le (n o : Nat) (h : o < n) : Builtin.nextslicecap n o ≤ 2 * n + 1000 := by
  unfold Builtin.nextslicecap
  split
  · omega
  · split
    · omega
    · exact growBy_le n 4 o (by omega)
section
variable {P : Program} {ρ : Rho} {h : List AO} {w : World}
theorem run_append_grow {S T2 : TypeId} {e : TypeId} (hS : P.underlying S = some (.slice e)) {d2 : TypeDesc} (h2 : P.underlying T2 = some d2) (hd2 : ∀ k, d2 ≠ .int k) {z eb : Nat} (hz : szOf P e = some z) (heb : bytesOf P e = some eb) {zs : List D} (hzero : zeroOf P e = some zs)
    (ty : TypeId) {a a2 : Option Addr} {n cap m cap2 : Nat} {cs xs : List Value} (hs : ∀ w' : World, w'.heap = w.heap → (Builtin.firstCells z n (.slice a n cap)).run P w' = .ok cs.toArray w') (hx : ∀ w' : World, w'.heap = w.heap → (Builtin.firstCells z m (.slice a2 m cap2)).run P w' = .ok xs.toArray w')
    (hm : cap < n + m) (hn : n ≤ cap) (hb : n + m ≤ bound) (hbb : eb ≤ 60000) :
    ∃ (rest : List Value) (nc d : Nat), (Builtin.append_ #[S, T2] ty #[.slice a n cap, .slice a2 m cap2]).run P w = .ok (.slice (some ⟨w.heap.size, 0, none⟩) (n + m) nc) { (World.push w (.cells (cs ++ xs ++ rest).toArray e)) with drawn := d } ∧
      n + m ≤ nc ∧ rest.length = (nc - (n + m)) * zs.length := by
  have hbytes : ∃ i, P.info? e = some i ∧ i.bytes = eb := by
    unfold bytesOf at heb
    cases hi : P.info? e with
    | none => simp [hi] at heb
    | some i => exact ⟨i, rfl, by simpa [hi] using heb⟩
  obtain ⟨i, hi, hib⟩ := hbytes
  have hzz : ∃ zv, i.zero = some zv ∧ dsOfV zv.cells.toList = some zs := by
    unfold zeroOf at hzero
    rw [hi] at hzero
    simp only [Option.bind_some] at hzero
    cases hq : i.zero with
    | none => simp [hq] at hzero
    | some zv => exact ⟨zv, rfl, by simpa [hq] using hzero⟩
  obtain ⟨zv, hzv, hzl⟩ := hzz
  have hnext : ¬ (Builtin.nextslicecap (n + m) cap * eb > 2 ^ 48) := by
    have h1 := nextcap_le (n + m) cap hm
    unfold bound at hb
    have : Builtin.nextslicecap (n + m) cap * eb ≤ 2001000 * 60000 := Nat.mul_le_mul (by omega) hbb
    omega
  have hti : (typeInfo e).run P w = .ok i w := by simp [typeInfo, hi]
  have hlen : ¬ ((n + m : Nat) : Int) > IntKind.i64.max := by
    unfold bound at hb
    simp [IntKind.max, IntKind.signed, IntKind.bits]; omega
  have hmatch : (match d2 with | .int _ => true | _ => false) = false := by
    cases d2 <;> first | rfl | exact absurd rfl (hd2 _)
  refine ⟨(Builtin.zeroCells zv.cells ((Question.appendCap (n + m) cap e).cut (w.tape w.drawn (.appendCap (n + m) cap e)) - (n + m))).toList, (Question.appendCap (n + m) cap e).cut (w.tape w.drawn (.appendCap (n + m) cap e)), w.drawn + 1, ?_, ?_, ?_⟩
  · have hzw : ∀ w, (zeroValue e).run P w = .ok zv w := fun w => by simp [zeroValue, typeInfo, hi, hzv]
    have hs' : ∀ d, (Builtin.firstCells z n (.slice a n cap)).run P { w with drawn := d } = .ok cs.toArray { w with drawn := d } := fun d => hs _ rfl
    have hx' : ∀ d, (Builtin.firstCells z m (.slice a2 m cap2)).run P { w with drawn := d } = .ok xs.toArray { w with drawn := d } := fun d => hx _ rfl
    have hti' : ∀ w, (typeInfo e).run P w = .ok i w := fun w => by simp [typeInfo, hi]
    unfold Builtin.append_
    simp only [List.getElem?_toArray, List.getElem?_cons_zero, List.getElem?_cons_succ, Sem.run_bind, run_und hS, Result.andThen_ok, run_size hz, run_und h2, Sem.run_pure, hmatch, Builtin.lenOf, Bool.false_eq_true, if_false, Sem.run_ite, show ¬ (n + m ≤ cap) by omega, hlen, false_and,
      hti', hib, hnext, run_choose, Question.forced, run_askRoom, hs', hx', hzw, newRow, run_newObj, not_false_eq_true, if_true, Bool.not_false]
    have harr : ∀ Z : Array Value, cs.toArray ++ xs.toArray ++ Z = (cs ++ xs ++ Z.toList).toArray := fun Z => by apply Array.ext'; simp
    rw [harr]; rfl
  · simp [Question.cut]
  · obtain ⟨h1, _⟩ := dsOfV_rel hzl
    simp [Builtin.zeroCells, h1]
theorem run_append_fit {S T2 : TypeId} {e : TypeId} (hS : P.underlying S = some (.slice e)) {d2 : TypeDesc} (h2 : P.underlying T2 = some d2) (hd2 : ∀ k, d2 ≠ .int k) {z : Nat} (hz : szOf P e = some z)
    (ty : TypeId) {b o n cap : Nat} {a2 : Option Addr} {m cap2 : Nat} {xs : List Value} (hx : (Builtin.firstCells z m (.slice a2 m cap2)).run P w = .ok xs.toArray w)
    (hm : n + m ≤ cap) {c : Array Value} {t : TypeId} (hc : w.heap[b]? = some (.cells c t (0, 0))) (hroom : o + n * z + xs.length ≤ c.size) (h1 : ∀ u ∈ xs, u.oneCell' = true) :
    (Builtin.append_ #[S, T2] ty #[.slice (some ⟨b, o, none⟩) n cap, .slice a2 m cap2]).run P w =
      .ok (.slice (some ⟨b, o, none⟩) (n + m) cap) (World.setObj w b (.cells (c.toList.take (o + n * z) ++ xs ++ c.toList.drop (o + n * z + xs.length)).toArray t (0, 0))) := by
  have hmatch : (match d2 with | .int _ => true | _ => false) = false := by
    cases d2 <;> first | rfl | exact absurd rfl (hd2 _)
  have hst := run_storeCells_at (P := P) b (o + n * z) t xs 0 c w hc (by simpa using hroom) h1
  rw [World_setRow hc] at hst
  simp only [Nat.add_zero] at hst
  unfold Builtin.append_
  simp only [List.getElem?_toArray, List.getElem?_cons_zero, List.getElem?_cons_succ, Sem.run_bind, run_und hS, Result.andThen_ok, run_size hz, run_und h2, Sem.run_pure, hmatch, Builtin.lenOf, Bool.false_eq_true, if_false, Sem.run_ite, hm, if_true,
    Bool.not_false, hx, addr_add, hst]
def killU : Option Nat → List (Nat × AO)
  | some id => [(id, .dead)]
  | none => []
theorem grow_ok (hr : HeapRel P ρ h w) {new : Nat} (hn : ρ new = none) (kill : Option Nat) {z : Nat} (hz : 0 < z) {o : AO} {es xs : List (List AV)} (ho : o.rows = some (es ++ xs)) {cs vs rest : List Value}
    (he : RowsRel ρ (ownB ρ h) w z es cs) (hx : RowsRel ρ (ownB ρ h) w z xs vs) (e : TypeId) (n nc d : Nat) (hln : n = (es ++ xs).length) (hle : n ≤ nc) (hrest : rest.length = (nc - n) * z) {s : Sem Value}
    (hs : s.run P w = .ok (.slice (some ⟨w.heap.size, 0, none⟩) n nc) { (World.push w (.cells (cs ++ vs ++ rest).toArray e)) with drawn := d }) (c : Bool) :
    RunOk P ρ h w new s ⟨c, .slice new z 0 n none, killU kill ++ [(new, o)]⟩ := by
  obtain ⟨h0, hu, hr0, hext⟩ : ∃ h0, applyU h (killU kill ++ [(new, o)]) = putA h0 new o ∧ HeapRel P ρ h0 w ∧ Ext (fun id => id ≠ new) ρ h w ρ h0 w := by
    cases kill with
    | none => exact ⟨h, rfl, hr, Ext.refl _ _ _ _⟩
    | some id => exact ⟨putA h id .dead, rfl, hr.kill id, Ext.kill _ _ _ _ _⟩
  have hk0 := hext.keep
  have hrel := (he.append hx).keep hk0 (fun _ _ h => h)
  have hkp := keep_push hr0 hn ⟨w.heap.size, 0, z⟩ o (.cells (cs ++ vs ++ rest).toArray e) rfl
  have hrel2 := hrel.keep hkp (Rho.put_mono ρ new ⟨w.heap.size, 0, z⟩ hn)
  have hobj : ObjRel P (ρ.put new ⟨w.heap.size, 0, z⟩) (ownB (ρ.put new ⟨w.heap.size, 0, z⟩) (putA h0 new o)) (World.push w (.cells (cs ++ vs ++ rest).toArray e)) ⟨w.heap.size, 0, z⟩ o := by
    refine ObjRel.of_rows ho hz _ e (push_new _ _) hrel2.2.1 (fun i r j y hi hy => ?_)
    obtain ⟨v, hv, h1, hvr⟩ := hrel2.2.2 i r j y hi hy
    refine ⟨v, ?_, h1, hvr⟩
    simp only [List.getElem?_toArray, Nat.zero_add]
    rw [List.getElem?_append_left]
    · exact hv
    · exact (List.getElem?_eq_some_iff.1 hv).1
  have hnew := hr0.new hn z o _ hobj
  have hnew2 := hnew.drawn d
  refine ⟨_, _, ρ.put new ⟨w.heap.size, 0, z⟩, hs, ?_, by show HeapRel P _ (applyU h (killU kill ++ [(new, o)])) _; rw [hu]; exact hnew2, ?_, .inr ⟨o, by simp⟩⟩
  · show VRel _ (ownB _ (applyU h (killU kill ++ [(new, o)]))) _ _ _
    rw [hu]
    refine .slice new z 0 n none ⟨w.heap.size, 0, z⟩ _ nc (Rho.put_same _ _ _) rfl (fun _ => by simp) (.inr ⟨rfl, (cs ++ vs ++ rest).length, ?_, ?_⟩) hle
    · show bsize (World.push w _) _ = _
      rw [bsize_cells (push_new _ _)]; simp
    · have h1 := (he.append hx).1
      rw [← hln] at h1
      simp only [List.length_append] at h1 ⊢
      rw [hrest, h1, ← Nat.add_mul]
      simp; exact Nat.mul_le_mul_right _ (by omega)
  · show Ext _ _ _ _ _ (applyU h (killU kill ++ [(new, o)])) _
    rw [hu]
    exact hext.trans ((Ext.new hr0 hn ⟨w.heap.size, 0, z⟩ o _ rfl).trans (Ext.drawn _ _ _ _ d))
end
end Go.Am
end

section
set_option linter.unusedVariables false
set_option linter.unusedSimpArgs false
namespace Go.Am
theorem and_true {a b : Bool} (h : std.and a b = true) : a = true ∧ b = true := by simpa [std] using h
theorem cmp_leq {i j : Int} (h : std.cmp .leq i j = true) : i ≤ j := by simpa [std, stdCmp] using h
theorem Els_app_rows (a b : Els) : (Els.app std a b).rows = some (a.toA ++ b.toA) := by
  cases a <;> cases b <;> simp [Els.app, AO.rows, Els.toA, std, toAA_map]
theorem putEls_rows {o o' : AO} {i : Nat} {x : Els} (h : putEls std o i x = some o') : ∃ E, o.rows = some E ∧ o'.rows = some (spliceA E i x.toA) := by
  cases o <;> cases x <;> simp [putEls] at h <;> subst h
  · exact ⟨_, rfl, by simp [AO.rows, std, spliceA, Els.toA, toAA_map]⟩
  · exact ⟨_, rfl, rfl⟩
  · exact ⟨_, rfl, rfl⟩
  · exact ⟨_, rfl, rfl⟩
theorem spliceA_get (l xs : List (List AV)) (i k : Nat) (h : i + xs.length ≤ l.length) : (spliceA l i xs)[k]? = if i ≤ k ∧ k < i + xs.length then xs[k - i]? else l[k]? := by
  unfold spliceA
  rw [List.append_assoc, List.getElem?_append]
  have ho : (l.take i).length = i := by simp; omega
  rw [ho]
  split
  · rename_i h1
    rw [if_neg (by omega), List.getElem?_take, if_pos h1]
  · rename_i h1
    rw [List.getElem?_append]
    split
    · rename_i h2; rw [if_pos (by omega)]
    · rename_i h2; rw [if_neg (by omega), List.getElem?_drop]; congr 1; omega
section
variable {P : Program} {ρ : Rho} {h : List AO} {w : World}
theorem rows_one {O : Nat → Prop} {z : Nat} (hz : 0 < z) {es : List (List AV)} {cs : List Value} (hr : RowsRel ρ O w z es cs) : ∀ u ∈ cs, u.oneCell' = true := by
  intro u hu
  obtain ⟨k, hk, hku⟩ := List.getElem_of_mem hu
  obtain ⟨h1, h2, h3⟩ := hr
  have hk0 := hk
  rw [h1] at hk
  obtain ⟨g1, g2, g3⟩ := idx_split hz hk
  have hi : es[k / z]? = some es[k / z] := List.getElem?_eq_getElem g1
  have hlt : k % z < (es[k / z]).length := by rw [h2 _ _ hi]; exact g2
  obtain ⟨v, hv, hv1, hrel⟩ := h3 _ _ _ _ hi (List.getElem?_eq_getElem hlt)
  rw [← g3, List.getElem?_eq_getElem hk0] at hv
  cases hv
  rw [← hku]; exact hv1
theorem rows_splice {O : Nat → Prop} {z : Nat} (hz : 0 < z) {base : Nat} {c : Array Value} {E X : List (List AV)} {vs : List Value} {i : Nat}
    (hl : ∀ (i : Nat) (r : List AV), E[i]? = some r → r.length = z)
    (hj : ∀ (i : Nat) (r : List AV) (j : Nat) (y : AV), E[i]? = some r → r[j]? = some y → ∃ v, c[base + i * z + j]? = some v ∧ v.oneCell' = true ∧ VRel ρ O w y v)
    (hx : RowsRel ρ O w z X vs) (hle : i + X.length ≤ E.length) (hroom : base + i * z + vs.length ≤ c.size) :
    (∀ (k : Nat) (r : List AV), (spliceA E i X)[k]? = some r → r.length = z) ∧
    ∀ (k : Nat) (r : List AV) (j : Nat) (y : AV), (spliceA E i X)[k]? = some r → r[j]? = some y →
      ∃ v, ((c.toList.take (base + i * z) ++ vs ++ c.toList.drop (base + i * z + vs.length)).toArray)[base + k * z + j]? = some v ∧ v.oneCell' = true ∧ VRel ρ O w y v := by
  have hlen : ∀ (k : Nat) (r : List AV), (spliceA E i X)[k]? = some r → r.length = z := by
    intro k r hk
    rw [spliceA_get _ _ _ _ hle] at hk
    split at hk
    · exact hx.2.1 _ r hk
    · exact hl k r hk
  refine ⟨hlen, fun k r j y hk hy => ?_⟩
  have hjz : j < z := by rw [← hlen k r hk]; exact (List.getElem?_eq_some_iff.1 hy).1
  rw [spliceA_get _ _ _ _ hle] at hk
  have hsp := splice_get c.toList vs (base + i * z) (base + k * z + j) (by simpa using hroom)
  rw [List.getElem?_toArray, hsp]
  have hvl := hx.1
  split at hk
  · rename_i hin
    obtain ⟨v, hv, h1, hrel⟩ := hx.2.2 _ r j y hk hy
    refine ⟨v, ?_, h1, hrel⟩
    have e : k * z = i * z + (k - i) * z := by rw [← Nat.add_mul]; congr 1; omega
    have hlt : (k - i) * z + j < vs.length := (List.getElem?_eq_some_iff.1 hv).1
    rw [if_pos (by omega), show base + k * z + j - (base + i * z) = (k - i) * z + j by omega]
    exact hv
  · rename_i hout
    obtain ⟨v, hv, h1, hrel⟩ := hj k r j y hk hy
    refine ⟨v, ?_, h1, hrel⟩
    rw [if_neg]
    · simpa using hv
    · rintro ⟨g1, g2⟩
      rw [hvl] at g2
      rcases Nat.lt_or_ge k i with hlt | hge
      · have : (k + 1) * z ≤ i * z := Nat.mul_le_mul_right _ hlt
        rw [Nat.add_mul] at this; omega
      · have : (i + X.length) * z ≤ k * z := Nat.mul_le_mul_right _ (by omega)
        rw [Nat.add_mul] at this; omega
theorem HeapRel.move (hr : HeapRel P ρ h w) {id new : Nat} {L : Loc} (hL : ρ id = some L) (hl : (nthA h id).live = true) (hn : ρ new = none) (base esz : Nat) (o : AO) (ho : o.live = true) (x : Obj)
    (hs : ∀ n, bsize w L.blk = some n → bsize (World.setObj w L.blk x) L.blk = some n)
    (hx : ∀ (k : Keep (ownB ρ h) (ownB (ρ.put new ⟨L.blk, base, esz⟩) (putA (putA h id .dead) new o)) w (World.setObj w L.blk x)), ObjRel P (ρ.put new ⟨L.blk, base, esz⟩) (ownB (ρ.put new ⟨L.blk, base, esz⟩) (putA (putA h id .dead) new o)) (World.setObj w L.blk x) ⟨L.blk, base, esz⟩ o) :
    HeapRel P (ρ.put new ⟨L.blk, base, esz⟩) (putA (putA h id .dead) new o) (World.setObj w L.blk x) ∧
      Ext (fun j => j ≠ new) ρ h w (ρ.put new ⟨L.blk, base, esz⟩) (putA (putA h id .dead) new o) (World.setObj w L.blk x) := by
  have hne : id ≠ new := by rintro rfl; rw [hn] at hL; cases hL
  have nth : ∀ j, j ≠ new → j ≠ id → nthA (putA (putA h id .dead) new o) j = nthA h j := fun j h1 h2 => by
    rw [nthA_putA_ne _ _ _ _ (Ne.symm h1), nthA_putA_ne _ _ _ _ (Ne.symm h2)]
  have nthid : nthA (putA (putA h id .dead) new o) id = .dead := by rw [nthA_putA_ne _ _ _ _ (Ne.symm hne), nthA_putA_same]
  have own : ∀ b, ownB (ρ.put new ⟨L.blk, base, esz⟩) (putA (putA h id .dead) new o) b → ownB ρ h b := by
    rintro b (hf | ⟨j, M, hM, hj, rfl⟩)
    · exact .inl hf
    by_cases e : j = new
    · subst e; rw [Rho.put_same] at hM; cases hM; exact .inr ⟨id, L, hL, hl, rfl⟩
    · rw [Rho.put_ne _ _ _ _ e] at hM
      by_cases e2 : j = id
      · subst e2; rw [nthid] at hj; cases hj
      · rw [nth j e e2] at hj; exact .inr ⟨j, M, hM, hj, rfl⟩
  have k : Keep (ownB ρ h) (ownB (ρ.put new ⟨L.blk, base, esz⟩) (putA (putA h id .dead) new o)) w (World.setObj w L.blk x) :=
    { size := by rw [setObj_size]; omega
      frame := fun b hb hnb => setObj_ne _ _ _ _ (fun e => hnb (e ▸ .inr ⟨id, L, hL, hl, rfl⟩))
      own := fun b _ hb => own b hb
      shape := fun b n hb => by
        by_cases he : b = L.blk
        · subst he; exact hs n hb
        · unfold bsize; rw [setObj_ne _ _ _ _ he]; exact hb }
  refine ⟨⟨fun j M hM => ?_, fun i j M N h1 h2 l1 l2 hb => ?_, fun b hf => by rw [setObj_size]; exact hr.fr b hf, fun j M hM hj hf => ?_⟩, rfl, rfl, rfl, k, fun j hj => Rho.put_ne _ _ _ _ hj, rfl,
    fun b hf => setObj_ne _ _ _ _ (fun e => hr.sep id L hL hl (e ▸ hf))⟩
  · by_cases e : j = new
    · subst e; rw [Rho.put_same] at hM; cases hM
      rw [nthA_putA_same]
      exact ⟨by rw [setObj_size]; exact (hr.obj id L hL).1, hx k⟩
    · rw [Rho.put_ne _ _ _ _ e] at hM
      obtain ⟨g1, g2⟩ := hr.obj j M hM
      refine ⟨by rw [setObj_size]; exact g1, ?_⟩
      by_cases e2 : j = id
      · subst e2; rw [nthid]; trivial
      · rw [nth j e e2]
        by_cases hlj : (nthA h j).live = true
        · exact g2.keep k (Rho.put_mono _ _ _ hn) (setObj_ne _ _ _ _ (fun eb => e2 (hr.inj j id M L hM hL hlj hl eb)))
        · cases hjo : nthA h j <;> simp_all [AO.live, ObjRel]
  · by_cases e1 : i = new
    · subst e1
      by_cases e2 : j = i
      · exact e2.symm
      · rw [Rho.put_same] at h1; cases h1
        rw [Rho.put_ne _ _ _ _ e2] at h2
        by_cases e3 : j = id
        · subst e3; rw [nthid] at l2; cases l2
        · rw [nth j e2 e3] at l2
          exact absurd (hr.inj id j L N hL h2 hl l2 hb).symm e3
    · rw [Rho.put_ne _ _ _ _ e1] at h1
      by_cases e3 : i = id
      · subst e3; rw [nthid] at l1; cases l1
      · rw [nth i e1 e3] at l1
        by_cases e2 : j = new
        · subst e2; rw [Rho.put_same] at h2; cases h2
          exact absurd (hr.inj i id M L h1 hL l1 hl hb) e3
        · rw [Rho.put_ne _ _ _ _ e2] at h2
          by_cases e4 : j = id
          · subst e4; rw [nthid] at l2; cases l2
          · rw [nth j e2 e4] at l2
            exact hr.inj i j M N h1 h2 l1 l2 hb
  · by_cases e : j = new
    · subst e; rw [Rho.put_same] at hM; cases hM
      exact hr.sep id L hL hl hf
    · rw [Rho.put_ne _ _ _ _ e] at hM
      by_cases e2 : j = id
      · subst e2; rw [nthid] at hj; cases hj
      · rw [nth j e e2] at hj; exact hr.sep j M hM hj hf
theorem elsOf_slice {z : Nat} {id z' off len : Nat} {cap : Option Nat} {c : Bool} {els : Els} (h1 : elsOf std z h (.slice id z' off len cap) = some (c, els)) (hc : c = true) :
    z = z' ∧ ∃ E, (nthA h id).rows = some E ∧ off + len ≤ E.length ∧ els.toA = (E.drop off).take len := by
  simp only [elsOf] at h1
  cases hb : Nat.beq z z' with
  | false => rw [hb] at h1; cases h1
  | true =>
  rw [hb] at h1; simp only [cond_true] at h1
  refine ⟨Nat.eq_of_beq_eq_true hb, ?_⟩
  split at h1
  · rename_i es ho; cases h1
    exact ⟨_, by rw [ho]; rfl, by rw [toAA_length]; exact leN_le hc, by simp [Els.toA, std, toAA_map]⟩
  · rename_i es ho; cases h1
    exact ⟨_, by rw [ho]; rfl, leN_le hc, rfl⟩
  · cases h1
theorem rows_live {o : AO} {E : List (List AV)} (h : o.rows = some E) : o.live = true := by cases o <;> simp [AO.rows] at h <;> rfl
theorem stepAppend_ok {S T2 : TypeId} {ti ti2 : TI} (ht : TIok P S ti) (ht2 : TIok P T2 ti2) (hd2' : ∃ e z b a zs, ti2.desc = .slc e z b a zs) (hr : HeapRel P ρ h w) {new : Nat} (hn : ρ new = none) {q : Bool} {s x : AV} {vs vx : Value}
    (hs : VRel ρ (ownB ρ h) w s vs) (hx : VRel ρ (ownB ρ h) w x vx) {ty : TypeId} {res : Res} (hq : ∀ b, wantAppend std s x = some b → b = q) (he : stepAppend std ti h new q s x = some res) (hc : res.c = true) :
    RunOk P ρ h w new (Builtin.append_ #[S, T2] ty #[vs, vx]) res := by
  obtain ⟨d, hd, hda, hk⟩ := ht.desc
  obtain ⟨d2, hdd2, _, hk2⟩ := ht2.desc
  obtain ⟨e2, z2, b2, a2, zs2, hdesc2⟩ := hd2'
  rw [hdesc2] at hk2
  obtain ⟨rfl, _⟩ := hk2
  have hint : ∀ k, TypeDesc.slice e2 ≠ .int k := by intro k; simp
  unfold stepAppend at he
  split at he
  rotate_left
  · cases he
  rename_i e z eb ea ez hdesc
  rw [hdesc] at hk
  obtain ⟨rfl, hz, heb, _, hez, hezl⟩ := hk
  cases hb : (Nat.ble 1 z && Nat.ble eb 60000) with
  | false => rw [hb] at he; cases he
  | true =>
  rw [hb] at he; simp only [cond_true] at he
  simp only [Bool.and_eq_true] at hb
  have hzp : 0 < z := Nat.le_of_ble_eq_true hb.1
  have hebb : eb ≤ 60000 := Nat.le_of_ble_eq_true hb.2
  split at he
  rotate_left
  · cases he
  rename_i cx xs cs es hxs hes
  have grow : ∀ (kill : Option Nat) (c : Bool) (n : Nat), cx = true → cs = true → 1 ≤ nEls std x → n = nEls std s → n + nEls std x ≤ bound →
      (∀ (a : Option Addr) (cap : Nat), vs = .slice a n cap → cap < n + nEls std x) → RunOk P ρ h w new (Builtin.append_ #[S, T2] ty #[vs, vx]) ⟨c, .slice new z 0 (n + nEls std x) none, killU kill ++ [(new, Els.app std es xs)]⟩ := by
    intro kill c n h1 h2 h3 h4 h5 h6
    obtain ⟨a, m, capx, cxs, rfl, hm, hmc, hxl, hxr, hxf⟩ := els_ok (P := P) hr hzp hx hxs h1
    obtain ⟨b, k, capb, ces, rfl, hk, hkc, hel, her, hef⟩ := els_ok (P := P) hr hzp hs hes h2
    rw [← hm] at h3 h5 h6 ⊢
    have hnk : n = k := h4.trans hk.symm
    subst hnk
    obtain ⟨rest, nc, dd, hrun, hnc, hrl⟩ := run_append_grow (P := P) (w := w) hd hdd2 hint hz heb hez ty hef hxf (h6 b capb rfl) hkc h5 hebb
    exact grow_ok hr hn kill hzp (Els_app_rows es xs) her hxr e (n + m) nc dd (by rw [List.length_append, hel, hxl]) hnc (by rw [hrl, hezl]) hrun c
  split at he
  ·
    rename_i full z0 es0
    split at he
    · cases he
      simp only at hc
      obtain ⟨h1, hc⟩ := and_true hc
      obtain ⟨h2, h3⟩ := and_true hc
      have hfull := hq full rfl
      subst hfull
      have hcs : cs = true := by
        simp only [elsOf] at hes
        cases hb : Nat.beq z z0 with
        | true => rw [hb] at hes; cases hes; rfl
        | false => rw [hb] at hes; simp only [cond_false] at hes; split at hes <;> cases hes; rfl
      refine grow none _ _ h1 hcs (leN_le h2) rfl (leN_le h3) ?_
      intro a cap hv
      have := leN_le h2
      cases hs with
      | d hs =>
        subst hv
        generalize hnn : nEls std (AV.d (D.list true z0 es0)) = nn at hs
        cases hs with
        | lnil _ _ _ _ hcap => have := hcap rfl; omega
        | list _ _ _ _ _ _ _ _ _ _ hf => have := hf rfl; omega
    · cases he
  ·
    rename_i id z' off len
    cases he
    simp only at hc
    obtain ⟨h1, hc⟩ := and_true hc
    obtain ⟨h2, hc⟩ := and_true hc
    obtain ⟨h3, h4⟩ := and_true hc
    have hs0 := hs
    cases hs with
    | nils _ _ _ _ a hcc =>
      refine grow (some id) _ 0 h1 h2 (leN_le h3) rfl (leN_le h4) ?_
      intro a' cap' hv
      cases hv
      have := leN_le h3
      omega
    | slice _ _ _ _ _ L a cap hL hLz haa hcc hle =>
    by_cases hfit : len + nEls std x ≤ cap
    ·
      obtain ⟨rfl, E, hE, hoff, hels⟩ := elsOf_slice hes h2
      obtain ⟨a2', m, capx, cxs, rfl, hm, hmc, hxl, hxr, hxf⟩ := els_ok (P := P) hr hzp hx hxs h1
      rw [← hm] at h3 h4 hfit ⊢
      have hm1 : 1 ≤ m := leN_le h3
      rw [haa (by omega), hLz]
      rcases hcc with hcc | ⟨_, nb, hnb, hroom⟩
      · cases hcc
      obtain ⟨_, hob⟩ := hr.obj id L hL
      obtain ⟨_, c, t, hcb, hl, hj⟩ := hob.rows hE
      rw [hLz] at hl hj hroom
      rw [bsize_cells hcb] at hnb
      cases hnb
      have hcx : cxs.length = m * z := by rw [hxr.1, hxl]
      have hmul : (off + cap) * z = off * z + cap * z := Nat.add_mul _ _ _
      have hmul2 : (len + m) * z ≤ cap * z := Nat.mul_le_mul_right _ hfit
      have hmul3 : (len + m) * z = len * z + m * z := Nat.add_mul _ _ _
      have hrun := run_append_fit (P := P) (w := w) hd hdd2 hint hz ty (hxf w rfl) hfit hcb (o := L.base + off * z) (by omega) (rows_one hzp hxr)
      have hlive := rows_live hE
      have hbs : ∀ k, bsize w L.blk = some k → bsize (World.setObj w L.blk (.cells (c.toList.take (L.base + off * z + len * z) ++ cxs ++ c.toList.drop (L.base + off * z + len * z + cxs.length)).toArray t (0, 0))) L.blk = some k := by
        intro k hk
        rw [bsize_cells hcb] at hk; cases hk
        rw [bsize_cells (setObj_same _ _ _ (Array.getElem?_eq_some_iff.1 hcb).1)]
        congr 1
        simp; omega
      obtain ⟨g1, g2⟩ := hr.move hL hlive hn (L.base + off * z) z (Els.app std es xs) (rows_live (Els_app_rows es xs)) _ hbs (fun kp => by
        have hEd : ∀ (i : Nat) (r : List AV), (E.drop off).take len = es.toA := fun _ _ => hels.symm
        refine ObjRel.of_rows (Els_app_rows es xs) hzp _ t (setObj_same _ _ _ (Array.getElem?_eq_some_iff.1 hcb).1) (fun i r hi => ?_) (fun i r j y hi hy => ?_)
        · rw [List.getElem?_append] at hi
          split at hi
          · rw [hels, drop_take_get] at hi
            split at hi
            · exact hl _ r hi
            · cases hi
          · exact hxr.2.1 _ r hi
        · have helen : es.toA.length = len := by rw [hels]; simp; omega
          have hrl : r.length = z := by
            rw [List.getElem?_append] at hi
            split at hi
            · rw [hels, drop_take_get] at hi
              split at hi
              · exact hl _ r hi
              · cases hi
            · exact hxr.2.1 _ r hi
          have hjz : j < z := by rw [← hrl]; exact (List.getElem?_eq_some_iff.1 hy).1
          have hsp := splice_get c.toList cxs (L.base + off * z + len * z) (L.base + off * z + i * z + j) (by simp; omega)
          simp only at hsp ⊢
          rw [List.getElem?_toArray, hsp]
          rw [List.getElem?_append] at hi
          split at hi
          · rename_i hlt
            rw [helen] at hlt
            rw [hels, drop_take_get, if_pos hlt] at hi
            obtain ⟨v, hv, hv1, hvr⟩ := hj _ r j y hi hy
            have : (i + 1) * z ≤ len * z := Nat.mul_le_mul_right _ hlt
            rw [Nat.add_mul] at this
            rw [if_neg (by omega)]
            refine ⟨v, ?_, hv1, hvr.keep kp (Rho.put_mono _ _ _ hn)⟩
            rw [Nat.add_mul] at hv
            rw [show L.base + off * z + i * z + j = L.base + (off * z + i * z) + j by omega]
            simpa using hv
          · rename_i hge
            rw [helen] at hge hi
            obtain ⟨v, hv, hv1, hvr⟩ := hxr.2.2 _ r j y hi hy
            have hlt := (List.getElem?_eq_some_iff.1 hv).1
            have e : i * z = len * z + (i - len) * z := by rw [← Nat.add_mul]; congr 1; omega
            rw [if_pos (by omega)]
            refine ⟨v, ?_, hv1, hvr.keep kp (Rho.put_mono _ _ _ hn)⟩
            rw [show L.base + off * z + i * z + j - (L.base + off * z + len * z) = (i - len) * z + j by omega]
            exact hv)
      refine ⟨_, _, _, hrun, ?_, g1, g2, .inr ⟨_, by simp; exact .inr rfl⟩⟩
      refine .slice new z 0 (len + m) none ⟨L.blk, L.base + off * z, z⟩ _ cap (Rho.put_same _ _ _) rfl (fun _ => by simp) (.inr ⟨rfl, c.size, ?_, ?_⟩) hfit
      · exact hbs _ (bsize_cells hcb)
      · simp; omega
    · refine grow (some id) _ len h1 h2 (leN_le h3) rfl (leN_le h4) ?_
      intro a' cap' hv
      cases hv
      omega
  ·
    rename_i id z' off len c
    split at he
    ·
      split at he
      · rename_i o ho
        cases he
        simp only at hc
        obtain ⟨h1, hc⟩ := and_true hc
        obtain ⟨h2, hc⟩ := and_true hc
        obtain ⟨hge1, h3⟩ := and_true hc
        have hge1 := leN_le hge1
        have hw : len + nEls std x ≤ c := leN_le (hq _ rfl)
        cases hs with
        | nils _ _ _ _ a hcc =>
          rcases hcc with hcc | hcc <;> cases hcc
          omega
        | slice _ _ _ _ _ L a cap hL hLz haa hcc hle =>
        rcases hcc with hcc | ⟨hcc, _⟩
        rotate_left
        · cases hcc
        cases hcc
        obtain ⟨rfl, E, hE, hoff, hels⟩ := elsOf_slice hes h2
        obtain ⟨E', hE', hrow'⟩ := putEls_rows ho
        rw [hE] at hE'; cases hE'
        have hlo : lenO std (nthA h id) = E.length := by
          cases hno : nthA h id <;> rw [hno] at hE <;> simp [AO.rows] at hE <;> subst hE <;> simp [lenO, std, toAA_length]
        have h3' : off + c ≤ E.length := by rw [← hlo]; exact leN_le h3
        obtain ⟨a2', m, capx, cxs, rfl, hm, hmc, hxl, hxr, hxf⟩ := els_ok (P := P) hr hzp hx hxs h1
        rw [← hm] at hw hge1 ⊢
        obtain ⟨_, hob⟩ := hr.obj id L hL
        obtain ⟨_, cc, t, hcb, hl, hj⟩ := hob.rows hE
        rw [hLz] at hl hj
        have hcx : cxs.length = m * z := by rw [hxr.1, hxl]
        have hmul : (off + len) * z = off * z + len * z := Nat.add_mul _ _ _
        by_cases hc0 : 0 < c
        · have hElast : L.base + E.length * z ≤ cc.size := by
            have hlt : E.length - 1 < E.length := by omega
            have hrl := hl _ _ (List.getElem?_eq_getElem hlt)
            have hy : z - 1 < (E[E.length - 1]).length := by omega
            obtain ⟨v, hv, _, _⟩ := hj _ _ _ _ (List.getElem?_eq_getElem hlt) (List.getElem?_eq_getElem hy)
            have := (Array.getElem?_eq_some_iff.1 hv).1
            have e : E.length * z = (E.length - 1) * z + z := by
              rw [← Nat.succ_mul]; congr 1; omega
            omega
          have hmul2 : (off + len + m) * z ≤ E.length * z := Nat.mul_le_mul_right _ (by omega)
          have hmul3 : (off + len + m) * z = (off + len) * z + m * z := Nat.add_mul _ _ _
          rw [haa hc0, hLz]
          have hrun := run_append_fit (P := P) (w := w) hd hdd2 hint hz ty (hxf w rfl) hw hcb (o := L.base + off * z) (by omega) (rows_one hzp hxr)
          rw [show L.base + off * z + len * z = L.base + (off + len) * z by omega] at hrun
          have hlive := rows_live hE
          have hbs : ∀ k, bsize w L.blk = some k → bsize (World.setObj w L.blk (.cells (cc.toList.take (L.base + (off + len) * z) ++ cxs ++ cc.toList.drop (L.base + (off + len) * z + cxs.length)).toArray t (0, 0))) L.blk = some k := by
            intro k hk
            rw [bsize_cells hcb] at hk; cases hk
            rw [bsize_cells (setObj_same _ _ _ (Array.getElem?_eq_some_iff.1 hcb).1)]
            congr 1
            simp; omega
          have hkp := keep_setObj hr hL hlive o (rows_live hrow') _ hbs
          obtain ⟨r1, r2⟩ := rows_splice (w := w) hzp (base := L.base) (c := cc) (i := off + len) hl hj hxr (by rw [hxl]; omega) (by omega)
          refine ⟨_, _, ρ, hrun, ?_, hr.set hL hlive o (rows_live hrow') _ hbs ?_, Ext.set _ hr hL hlive o (rows_live hrow') _ hbs, .inl rfl⟩
          · exact .slice id z off (len + m) (some c) L _ c hL hLz (fun _ => by rw [hLz]) (.inl rfl) hw
          · refine ObjRel.of_rows hrow' (by omega) _ t (setObj_same _ _ _ (Array.getElem?_eq_some_iff.1 hcb).1) (by rw [hLz]; exact r1) (fun i r j y hi hy => ?_)
            rw [hLz]
            obtain ⟨v, hv, hv1, hvr⟩ := r2 i r j y hi hy
            exact ⟨v, hv, hv1, hvr.keep hkp (fun _ _ h => h)⟩
        · omega
      · cases he
    · cases he
      simp only at hc
      obtain ⟨h1, hc⟩ := and_true hc
      obtain ⟨h2, hc⟩ := and_true hc
      obtain ⟨h3, h4⟩ := and_true hc
      have hw := hq _ rfl
      refine grow none _ len h1 h2 (leN_le h3) rfl (leN_le h4) ?_
      intro a cap hv
      cases hs with
      | nils _ _ _ _ a hcc =>
        cases hv
        have := leN_le h3
        omega
      | slice _ _ _ _ _ L _ _ hL hLz haa hcc hle =>
        cases hv
        rcases hcc with hcc | ⟨hcc, _⟩
        · cases hcc
          have : ¬ (len + nEls std x ≤ c) := fun hle => by
            have : std.leN (std.add len (nEls std x)) c = true := Nat.ble_eq_true_of_le hle
            rw [this] at hw; cases hw
          omega
        · cases hcc
  · cases he
end
end Go.Am
end

section
set_option linter.unusedVariables false
set_option linter.unusedSimpArgs false
namespace Go.Am
theorem wrap_in (n : Int) (h0 : 0 ≤ n) (h1 : n ≤ 1000000) : IntKind.i64.wrap n = n := by
  have h : n % (2 ^ 64 : Int) = n := Int.emod_eq_of_lt h0 (by omega)
  simp [IntKind.wrap, IntKind.bits, IntKind.signed, h]
  omega
theorem fillA_len {place : Nat → Option (Nat × Nat)} : ∀ {parts : List (Nat × AV)} {cells r : List AV}, fillA place cells parts = some r → r.length = cells.length
  | [], cells, r, h => by simp [fillA] at h; rw [h]
  | (i, v) :: rest, cells, r, h => by
    simp only [fillA] at h
    split at h
    · rename_i off size cs _ _
      cases hb : lenIs cs size with
      | false => rw [hb] at h; cases h
      | true =>
      rw [hb] at h; simp only [cond_true] at h
      split at h
      · rename_i l hl
        rw [fillA_len h, (over_spec hl).1]
      · cases h
    · cases h
section
variable {P : Program} {ρ : Rho} {h : List AO} {w : World}
theorem stepMakeSlice_ok {T : TypeId} {ti : TI} (ht : TIok P T ti) (hr : HeapRel P ρ h w) {new : Nat} (hn : ρ new = none) {l c : AV} {vl vc : Value} (hl : VRel ρ (ownB ρ h) w l vl) (hcv : VRel ρ (ownB ρ h) w c vc)
    {res : Res} (hs : stepMakeSlice std ti new l c = some res) (hc : res.c = true) : RunOk P ρ h w new (Instr.makeSlice T vl vc) res := by
  obtain ⟨d, hd, hda, hk⟩ := ht.desc
  unfold stepMakeSlice at hs
  split at hs
  rotate_left
  · cases hs
  rename_i e z eb ea ez k1 ln k2 cp hdesc
  rw [hdesc] at hk
  obtain ⟨rfl, hz, heb, _, hez, hezl⟩ := hk
  cases hb : (Nat.ble 1 z && (Nat.ble eb 60000 && leaves (toA ez))) with
  | false => rw [hb] at hs; cases hs
  | true =>
  rw [hb] at hs; cases hs
  simp only [Bool.and_eq_true] at hb
  obtain ⟨hb1, hb2, hb3⟩ := hb
  have hzp : 0 < z := Nat.le_of_ble_eq_true hb1
  have hebb : eb ≤ 60000 := Nat.le_of_ble_eq_true hb2
  simp only at hc
  obtain ⟨c1, hc⟩ := and_true hc
  obtain ⟨c2, c3⟩ := and_true hc
  have c1 := cmp_geq c1
  have c2 := cmp_leq c2
  have c3 := cmp_leq c3
  cases hl with | d hl =>
  cases hl
  cases hcv with | d hcv =>
  cases hcv
  obtain ⟨i, zv, hi, hib, hzv, hzl⟩ : ∃ i zv, P.info? e = some i ∧ i.bytes = eb ∧ i.zero = some zv ∧ dsOfV zv.cells.toList = some ez := by
    unfold bytesOf at heb; unfold zeroOf at hez
    cases hi : P.info? e with
    | none => simp [hi] at heb
    | some i =>
      rw [hi] at heb hez
      simp at heb hez
      cases hzq : i.zero with
      | none => simp [hzq] at hez
      | some zv => exact ⟨i, zv, rfl, heb, hzq, by simpa [hzq] using hez⟩
  obtain ⟨hzs, hzr⟩ := dsOfV_rel hzl
  have hzsize : zv.cells.size = z := by rw [← hezl, hzs]; simp
  have hprod : (eb : Int) * cp ≤ 60000 * 1000000 := Int.mul_le_mul (by omega) c3 (by omega) (by omega)
  have hw1 := wrap_in ln c1 (by omega)
  have hw2 := wrap_in cp (by omega) c3
  have hcell : ∀ k, k < cp.toNat * z → (Array.map (fun x => zv.cells[x % zv.cells.size]!) (Array.range (cp.toNat * z)))[k]? = zv.cells[k % z]? := by
    intro k hk
    have : k % z < zv.cells.size := by rw [hzsize]; exact Nat.mod_lt _ hzp
    simp [hk, hzsize, getElem!_pos zv.cells (k % z) this]
  refine new_run hr hn (T := e) ((Array.range (cp.toNat * z)).map (zv.cells[· % zv.cells.size]!)) (.slice new z 0 ln.toNat (some cp.toNat)) (.row (std.rep cp.toNat ez)) 0 z (.slice (some ⟨w.heap.size, 0, none⟩) ln.toNat cp.toNat) ?_ ?_ ?_
  · have hlarge : ¬ ((eb : Int) * cp > 2 ^ 48) := by omega
    have hcond : ((cp < 0 || decide ((eb : Int) * cp > 2 ^ 48)) || decide (ln < 0) || decide (ln > cp)) = false := by
      simp; omega
    unfold Instr.makeSlice
    simp only [Sem.run_bind, run_und hd, Result.andThen_ok, asInt, asIntOf, Sem.run_pure, typeInfo, run_program, hi, hib, hw1, hw2, hcond, Bool.false_eq_true, if_false, Sem.run_ite, run_askRoom, run_size hz]
    by_cases h0 : cp.toNat * z = 0
    · simp only [h0, if_true, Sem.run_pure, Result.andThen_ok, newRow, Sem.run_bind, run_newObj]
      have e0 : ∀ f : Nat → Value, Array.map f (Array.range 0) = #[] := fun f => by simp
      rw [e0, e0]; rfl
    · simp [h0, zeroValue, typeInfo, hi, hzv, newRow]
      rfl
  · refine ⟨hzp, _, e, push_new _ _, fun i r hi => ?_, fun i r j y hi hy => ?_⟩
    · simp [std, List.getElem?_replicate] at hi
      rw [← hi.2]; exact hezl
    · simp [std, List.getElem?_replicate] at hi
      obtain ⟨hi1, rfl⟩ := hi
      have hj : j < z := by rw [← hezl]; exact (List.getElem?_eq_some_iff.1 hy).1
      obtain ⟨v, hv, hrel⟩ := hzr (ownB (ρ.put new ⟨w.heap.size, 0, z⟩) (putA h new (.row (std.rep cp.toNat ez)))) (World.push w (.cells ((Array.range (cp.toNat * z)).map (zv.cells[· % zv.cells.size]!)) e)) j y hy
      have hlt : i * z + j < cp.toNat * z := by
        have : (i + 1) * z ≤ cp.toNat * z := Nat.mul_le_mul_right _ (by omega)
        rw [Nat.add_mul] at this; omega
      have hmod : (i * z + j) % z = j := by rw [Nat.add_comm, Nat.add_mul_mod_self_right]; exact Nat.mod_eq_of_lt hj
      refine ⟨v, ?_, ?_, hrel⟩
      · simp only [Nat.zero_add]
        rw [hcell _ hlt, hmod]; simpa using hv
      · have : leaf (.d y) = true := leaves_get hb3 (by rw [toA_get, hy]; rfl)
        exact leaf_one (ρ := ρ) this (.d hrel)
  · exact .slice new z 0 _ _ ⟨w.heap.size, 0, z⟩ _ _ (Rho.put_same _ _ _) rfl (fun _ => by simp) (.inl rfl) (by omega)
theorem chunk_spec {α : Type} {z : Nat} (hz : 0 < z) : ∀ (f : Nat) (l : List α) (es : List (List α)), chunk z f l = some es → l.length = es.length * z ∧ (∀ (i : Nat) (r : List α), es[i]? = some r → r.length = z) ∧
    ∀ (i : Nat) (r : List α) (j : Nat), es[i]? = some r → j < z → l[i * z + j]? = r[j]? := by
  intro f
  induction f with
  | zero =>
    intro l es h
    cases l with
    | nil => simp [chunk] at h; subst h; simp
    | cons _ _ => simp [chunk] at h
  | succ f ih =>
    intro l es h
    cases l with
    | nil => simp [chunk] at h; subst h; simp
    | cons a l =>
      simp only [chunk] at h
      split at h
      · rename_i x hp
        cases hq : chunk z f ((a :: l).drop z) with
        | none => rw [hq] at h; cases h
        | some q =>
        rw [hq] at h; simp at h; subst h
        obtain ⟨p1, p2⟩ := part_spec hp
        obtain ⟨q1, q2, q3⟩ := ih _ _ hq
        have hle : z ≤ (a :: l).length := by
          have := p2 (z - 1) (by omega)
          rw [List.getElem?_eq_getElem (show z - 1 < x.length by omega)] at this
          have := (List.getElem?_eq_some_iff.1 this).1
          omega
        refine ⟨by simp only [List.length_drop] at q1; simp only [List.length_cons] at q1 hle ⊢; rw [Nat.add_mul]; omega, fun i r hi => ?_, fun i r j hi hj => ?_⟩
        · cases i with
          | zero => simp at hi; subst hi; exact p1
          | succ i => exact q2 i r (by simpa using hi)
        · cases i with
          | zero => simp at hi; subst hi; have := p2 j hj; simpa using this
          | succ i =>
            have := q3 i r j (by simpa using hi) hj
            rw [List.getElem?_drop] at this
            rw [← this]; congr 1; rw [Nat.add_mul]; omega
      · cases h
theorem repl_get {α : Type} (l : List α) (hl : 0 < l.length) : ∀ (n j : Nat), j < n * l.length → (repl n l)[j]? = l[j % l.length]?
  | 0, j, h => by simp at h
  | n + 1, j, h => by
    simp only [repl]
    by_cases hj : j < l.length
    · rw [List.getElem?_append_left hj, Nat.mod_eq_of_lt hj]
    · rw [List.getElem?_append_right (by omega), repl_get l hl n (j - l.length) (by rw [Nat.add_mul] at h; omega)]
      congr 1
      rw [Nat.mod_eq_sub_mod (a := j) (by omega)]
theorem repl_length {α : Type} (l : List α) : ∀ n, (repl n l).length = n * l.length
  | 0 => by simp [repl]
  | n + 1 => by simp [repl, repl_length l n, Nat.add_mul]; omega
theorem mkRow_rows (es : List (List AV)) : (mkRow es).rows = some es := by
  unfold mkRow
  split
  · rename_i l hl
    have : ∀ (es : List (List AV)) (l : List (List D)), allDD es = some l → toAA l = es := by
      intro es
      induction es with
      | nil => intro l h; simp [allDD] at h; subst h; rfl
      | cons x r ih =>
        intro l h
        simp only [allDD] at h
        split at h
        · rename_i d q h1 h2; cases h; simp [toAA, ih _ h2, allD_spec h1]
        · cases h
    simp [AO.rows, this _ _ hl]
  · rfl
theorem stepBuildSlice_ok {T : TypeId} {ti : TI} (ht : TIok P T ti) (hr : HeapRel P ρ h w) {new : Nat} (hn : ρ new = none) {len : Nat} {parts : List (Nat × AV)} {pv : Array (Nat × Value)}
    (hp : PartsRel ρ (ownB ρ h) w parts pv.toList) {res : Res} (hs : stepBuildSlice ti new len parts = some res) : RunOk P ρ h w new (Instr.buildSlice T len pv) res := by
  obtain ⟨d, hd, hda, hk⟩ := ht.desc
  unfold stepBuildSlice at hs
  split at hs
  rotate_left
  · cases hs
  rename_i e z eb ea ez hdesc
  rw [hdesc] at hk
  obtain ⟨rfl, hz, heb, _, hez, hezl⟩ := hk
  cases hb : (Nat.ble 1 z && Nat.ble (len * z) 1000000) with
  | false => rw [hb] at hs; cases hs
  | true =>
  rw [hb] at hs; simp only [cond_true] at hs
  simp only [Bool.and_eq_true] at hb
  have hzp : 0 < z := Nat.le_of_ble_eq_true hb.1
  have hlz : len * z ≤ 1000000 := Nat.le_of_ble_eq_true hb.2
  split at hs
  rotate_left
  · cases hs
  rename_i l hl
  cases hlv : leaves l with
  | false => rw [hlv] at hs; cases hs
  | true =>
  rw [hlv] at hs; simp only [cond_true] at hs
  split at hs
  rotate_left
  · cases hs
  rename_i es hes
  cases hs
  obtain ⟨i, zv, hi, hzv, hzl⟩ : ∃ i zv, P.info? e = some i ∧ i.zero = some zv ∧ dsOfV zv.cells.toList = some ez := by
    unfold zeroOf at hez
    cases hi : P.info? e with
    | none => simp [hi] at hez
    | some i =>
      rw [hi] at hez
      simp at hez
      cases hzq : i.zero with
      | none => simp [hzq] at hez
      | some zv => exact ⟨i, zv, rfl, hzq, by simpa [hzq] using hez⟩
  obtain ⟨hzs, hzr⟩ := dsOfV_rel hzl
  have hzsize : zv.cells.size = z := by rw [← hezl, hzs]; simp
  have hzero : ∃ zc : Array Value, (if len * z = 0 then (Pure.pure #[] : Sem (Array Value)) else (do pure (← zeroValue e).cells)).run P w = .ok zc w ∧ (len * z ≠ 0 → zc = zv.cells) := by
    by_cases h0 : len * z = 0
    · exact ⟨#[], by simp [h0], fun h => absurd h0 h⟩
    · exact ⟨zv.cells, by simp [h0, zeroValue, typeInfo, hi, hzv], fun _ => rfl⟩
  obtain ⟨zc, hzc, hzc2⟩ := hzero
  have hrl : (toA (repl len ez)).length = len * z := by rw [toA_length, repl_length, hezl]
  obtain ⟨rv, g1, g2, g3⟩ := fillA_ok (ρ := ρ) (w := w) (O := ownB ρ h) _ parts pv.toList (toA (repl len ez)) l ((Array.range (len * z)).map (zc[· % zc.size]!)) hl hp.1 hp.2 (by rw [hrl]; simp) (fun j x hx => by
    have hj : j < len * z := by rw [← hrl]; exact (List.getElem?_eq_some_iff.1 hx).1
    have hne : len * z ≠ 0 := by omega
    rw [hzc2 hne]
    rw [toA_get, repl_get ez (by omega) len j (by rw [hezl]; exact hj), hezl] at hx
    have hlt : j % z < zv.cells.size := by rw [hzsize]; exact Nat.mod_lt _ hzp
    cases hq : ez[j % z]? with
    | none => simp [hq] at hx
    | some d =>
      simp [hq] at hx; subst hx
      obtain ⟨v, hv, hrel⟩ := hzr (ownB ρ h) w _ d hq
      refine ⟨v, ?_, .d hrel⟩
      simp [hj, hzsize]
      rw [getElem!_pos zv.cells (j % z) hlt]
      have : zv.cells[j % z]? = some v := by simpa using hv
      rw [Array.getElem?_eq_getElem hlt] at this; cases this; rfl)
  obtain ⟨k1, k2, k3⟩ := chunk_spec hzp _ _ _ hes
  have heslen : es.length = len := by
    have h1 : l.length = len * z := by
      rw [← g2]
      have := (fillA_len hl)
      rw [g2, this, hrl]
    rw [h1] at k1
    exact (Nat.eq_of_mul_eq_mul_right hzp k1).symm
  refine new_run hr hn (T := e) rv (.slice new z 0 len (some len)) (mkRow es) 0 z (.slice (some ⟨w.heap.size, 0, none⟩) len len) ?_ ?_ ?_
  · unfold Instr.buildSlice
    simp only [Sem.run_bind, run_und hd, Result.andThen_ok, run_size hz, Sem.run_pure, Sem.run_ite, show ¬ (len * z > 2 ^ 24) by omega, if_false]
    by_cases h0 : len * z = 0
    · simp only [h0, if_true, Sem.run_pure] at hzc
      cases hzc
      simp only [h0, if_true] at g1 ⊢
      simp only [g1, newRow, Sem.run_bind, run_newObj, Result.andThen_ok, Sem.run_pure]
      rfl
    · have hz2 := hzc2 h0
      subst hz2
      simp only [h0, if_false, zeroValue, typeInfo, Sem.run_bind, run_program, Result.andThen_ok, hi, Sem.run_pure, hzv, g1, newRow, run_newObj]
      rfl
  · refine ObjRel.of_rows (mkRow_rows es) hzp rv e (push_new _ _) k2 (fun i r j y hi hy => ?_)
    have hj : j < z := by rw [← k2 i r hi]; exact (List.getElem?_eq_some_iff.1 hy).1
    have hly : l[i * z + j]? = some y := by rw [k3 i r j hi hj]; exact hy
    obtain ⟨v, hv, hrel⟩ := g3 _ y hly
    exact ⟨v, by simpa using hv, leaf_one (leaves_get hlv hly) hrel, hrel.keep (keep_push hr hn _ _ _ rfl) (Rho.put_mono _ _ _ hn)⟩
  · exact .slice new z 0 _ _ ⟨w.heap.size, 0, z⟩ _ _ (Rho.put_same _ _ _) rfl (fun _ => by simp) (.inl rfl) (Nat.le_refl _)
theorem stepUn_ok (hr : HeapRel P ρ h w) {new : Nat} {op : UnOp} {x : AV} {v : Value} (hx : VRel ρ (ownB ρ h) w x v) {res : Res} (hs : stepUn std op x = some res) : RunOk P ρ h w new (Op.unary op v) res := by
  unfold stepUn at hs
  split at hs
  · rename_i k a
    cases hx with | d hx =>
    cases hx
    split at hs
    · cases hs
      exact RunOk.pure hr (by simp [Op.unary, Op.intArith, std, stdAr]) (.d (.int _ _))
    · cases hs
      exact RunOk.pure hr (by simp [Op.unary, Op.intBits, std, stdAr]) (.d (.int _ _))
    · cases hs
  · rename_i b
    cases hx with | d hx =>
    cases hx
    split at hs
    · cases hs; exact RunOk.pure hr (by simp [Op.unary]) (.d (.bool _))
    · cases hs
  · cases hs
theorem stepConvert_ok {S T : TypeId} {ts tt : TI} (hS : TIok P S ts) (hT : TIok P T tt) (hr : HeapRel P ρ h w) {new : Nat} {x : AV} {v : Value} (hx : VRel ρ (ownB ρ h) w x v) {res : Res} (hs : stepConvert std ts tt x = some res) :
    RunOk P ρ h w new (convert S T v) res := by
  obtain ⟨d, hd, _, hk⟩ := hS.desc
  obtain ⟨d2, hd2, _, hk2⟩ := hT.desc
  unfold stepConvert at hs
  split at hs
  · split at hs
    · rename_i h1 h2
      rw [h1] at hk; rw [h2] at hk2
      cases hk; cases hk2
      cases hx with | d hx =>
      cases hx; cases hs
      exact RunOk.pure hr (by simp [convert, run_und hd, run_und hd2, Conv.intToInt, std]) (.d (.int _ _))
    · cases hs
  · split at hs
    · rename_i h1 h2
      rw [h1] at hk; rw [h2] at hk2
      cases hk; cases hk2
      cases hx with | d hx =>
      cases hx; cases hs
      exact RunOk.pure hr (by simp [convert, run_und hd, run_und hd2]) (.d (.str _))
    · cases hs
  · cases hs
theorem lenA_ok {T : TypeId} {ti : TI} (ht : TIok P T ti) (hr : HeapRel P ρ h w) {new : Nat} {ty : TypeId} {x : AV} {v : Value} (hx : VRel ρ (ownB ρ h) w x v) {res : Res} (hs : lenA std ti h x = some res) :
    RunOk P ρ h w new (Builtin.len_ #[T] ty #[v]) res := by
  obtain ⟨d, hd, _, hk⟩ := ht.desc
  have sl : ∀ (e : TypeId) (a : Option Addr) (n c : Nat), d = .slice e → v = .slice a n c → (Builtin.len_ #[T] ty #[v]).run P w = .ok (.int .i64 n) w := by
    intro e a n c h1 h2; subst h1; subst h2
    simp [Builtin.len_, run_und hd, goInt]
  unfold lenA at hs
  split at hs
  · split at hs
    · rename_i h1
      rw [h1] at hk; obtain ⟨rfl, _⟩ := hk
      cases hs
      cases hx with | d hx =>
      cases hx with
      | lnil => exact RunOk.pure hr (sl _ _ _ _ rfl rfl) (.d (.int _ _))
      | list => exact RunOk.pure hr (sl _ _ _ _ rfl rfl) (.d (.int _ _))
    · cases hs
  · split at hs
    · rename_i h1
      rw [h1] at hk; obtain ⟨rfl, _⟩ := hk
      cases hs
      cases hx with
      | nils => exact RunOk.pure hr (sl _ _ _ _ rfl rfl) (.d (.int _ _))
      | slice => exact RunOk.pure hr (sl _ _ _ _ rfl rfl) (.d (.int _ _))
    · cases hs
  · split at hs
    · rename_i h1
      rw [h1] at hk; cases hk
      cases hs
      cases hx with | d hx =>
      cases hx
      exact RunOk.pure hr (by simp [Builtin.len_, run_und hd, goInt, std]) (.d (.int _ _))
    · cases hs
  · split at hs
    · rename_i h1
      rw [h1] at hk; obtain ⟨e, rfl, _⟩ := hk
      cases hs
      exact RunOk.pure hr (by simp [Builtin.len_, run_und hd, goInt, std]) (.d (.int _ _))
    · cases hs
  · split at hs
    · rename_i h1
      rw [h1] at hk; obtain ⟨e, e', rfl, he, _⟩ := hk
      cases hs
      exact RunOk.pure hr (by simp [Builtin.len_, run_und hd, run_und he, goInt, std]) (.d (.int _ _))
    · cases hs
  · split at hs
    · rename_i h1
      rw [h1] at hk; obtain ⟨k, e, rfl, _⟩ := hk
      cases hs
      cases hx with | d hx =>
      cases hx
      exact RunOk.pure hr (by simp [Builtin.len_, run_und hd, goInt]) (.d (.int _ _))
    · cases hs
  · split at hs
    · rename_i h1 h2
      rw [h1] at hk; obtain ⟨k, e, rfl, _⟩ := hk
      cases hs
      cases hx with
      | map _ L hL =>
        obtain ⟨_, ho⟩ := hr.obj _ L hL
        rw [h2] at ho
        obtain ⟨en, clk, hb, hsz, _⟩ := ho
        exact RunOk.pure hr (by simp [Builtin.len_, run_und hd, goInt, getObj, Sem.run, hb, hsz.1, std]) (.d (.int _ _))
    · cases hs
  · cases hs
end
end Go.Am
end

section
set_option linter.unusedVariables false
set_option linter.unusedSimpArgs false
namespace Go.Am
section
variable {P : Program} {ρ : Rho} {h : List AO} {w : World}
def OptRel (ρ : Rho) (O : Nat → Prop) (w : World) : Option AV → Option Value → Prop
  | none, none => True
  | some x, some v => VRel ρ O w x v
  | _, _ => False
theorem optI_ok {O : Nat → Prop} {x : Option AV} {v : Option Value} (hx : OptRel ρ O w x v) {n : Option Int} (h : optI x = some n) : match n with | none => v = none | some i => ∃ k, v = some (.int k i) := by
  unfold optI at h
  split at h
  · cases h; cases v with
    | none => rfl
    | some _ => exact hx.elim
  · cases h; cases v with
    | none => exact hx.elim
    | some v => cases hx with | d hx => cases hx; exact ⟨_, rfl⟩
  · cases h
theorem run_bound (k : IntKind) (i : Int) (y : Nat) (code : BoundsCode) (h0 : 0 ≤ i) (h1 : i ≤ y) : (Instr.sliceBound (.int k i) y code).run P w = .ok i.toNat w := by
  simp [Instr.sliceBound, asIntOf, h0, h1]
theorem run_bounds {O : Nat → Prop} {lo hi mx : Option AV} {vl vh vm : Option Value} (hl : OptRel ρ O w lo vl) (hh : OptRel ρ O w hi vh) (hm : OptRel ρ O w mx vm) {l h m : Option Int} (el : optI lo = some l) (eh : optI hi = some h) (em : optI mx = some m)
    (isSlice : Bool) (len cap : Nat) (L H M : Int) (eL : L = getO l 0) (eH : H = getO h len) (eM : M = getO m cap)
    (hmh : m ≠ none → h ≠ none) (h0 : 0 ≤ L) (h1 : L ≤ H) (h2 : H ≤ M) (h3 : M ≤ cap) (hcl : (len : Int) ≤ cap) :
    (Instr.sliceBounds isSlice len cap vl vh vm).run P w = .ok (L.toNat, H.toNat, M.toNat) w := by
  have rl := optI_ok hl el
  have rh := optI_ok hh eh
  have rm := optI_ok hm em
  unfold getO at eL eH eM
  unfold Instr.sliceBounds
  cases m with
  | none =>
    simp at rm; subst rm
    simp only at eM; subst eM
    cases h with
    | none =>
      simp at rh; subst rh
      simp only at eH; subst eH
      cases l with
      | none => simp at rl; subst rl; simp only at eL; subst eL; simp
      | some l =>
        obtain ⟨k, rfl⟩ := rl; simp only at eL; subst eL
        simp [run_bound k L len _ h0 h1]
    | some hh =>
      obtain ⟨k, rfl⟩ := rh; simp only at eH; subst eH
      have hb := run_bound (P := P) (w := w) k H cap (if isSlice then .sliceAcap else .sliceAlen) (by omega) h2
      cases l with
      | none => simp at rl; subst rl; simp only at eL; subst eL; simp [hb]
      | some l =>
        obtain ⟨k2, rfl⟩ := rl; simp only at eL; subst eL
        simp [hb, run_bound k2 L H.toNat _ h0 (by omega)]
  | some mm =>
    obtain ⟨k, rfl⟩ := rm; simp only at eM; subst eM
    have hbm := run_bound (P := P) (w := w) k M cap (if isSlice then .slice3Acap else .slice3Alen) (by omega) h3
    cases h with
    | none => exact absurd rfl (hmh (by simp))
    | some hh =>
      obtain ⟨k2, rfl⟩ := rh; simp only at eH; subst eH
      have hb := run_bound (P := P) (w := w) k2 H M.toNat .slice3B (by omega) (by omega)
      cases l with
      | none => simp at rl; subst rl; simp only at eL; subst eL; simp [hbm, hb]
      | some l =>
        obtain ⟨k3, rfl⟩ := rl; simp only at eL; subst eL
        simp [hbm, hb, run_bound k3 L H.toNat _ h0 (by omega)]
theorem run_sliceAt {T : TypeId} {e : TypeId} {z : Nat} (hd : P.underlying T = some (.slice e)) (hz : szOf P e = some z) {vl vh vm : Option Value} {a : Option Addr} {len cap l h m : Nat}
    (hb : (Instr.sliceBounds true len cap vl vh vm).run P w = .ok (l, h, m) w) : (Instr.sliceAt T (.slice a len cap) vl vh vm).run P w = .ok (.slice (if m = l then a else a.map (·.add (l * z))) (h - l) (m - l)) w := by
  simp [Instr.sliceAt, Instr.slice, run_und hd, hb, run_size hz]
theorem cut_D {O : Nat → Prop} {full f' : Bool} {z : Nat} {es : List (List D)} {a : Option Addr} {n c : Nat} (hx : DRel O w (.list full z es) (.slice a n c)) (L H M : Nat) (h1 : L ≤ H) (h2 : H ≤ M) (h3 : H ≤ es.length) (h4 : M ≤ c) (hf : f' = true → M = H) :
    n = es.length ∧ n ≤ c ∧ (full = true → c = n) ∧ DRel O w (.list f' z ((es.drop L).take (H - L))) (.slice (if M = L then a else a.map (·.add (L * z))) (H - L) (M - L)) := by
  cases hx with
  | lnil _ _ _ _ hcap =>
    refine ⟨rfl, Nat.zero_le _, hcap, ?_⟩
    simp at h3
    have e : H - L = 0 := by omega
    rw [e]
    simp
    exact .lnil _ _ _ _ (fun h => by have := hf h; omega)
  | list _ _ b o z c hz hne hO hlc hfull hsz cell h1c hcell hh =>
    refine ⟨rfl, hlc, hfull, ?_⟩
    have hlen : ((es.drop L).take (H - L)).length = H - L := by simp; omega
    by_cases hHL : H = L
    · have e : H - L = 0 := by omega
      rw [e]; simp
      exact .lnil _ _ _ _ (fun h => by have := hf h; omega)
    · rw [if_neg (by omega)]
      have hget : ∀ i, ((es.drop L).take (H - L))[i]? = if i < H - L then es[L + i]? else none := fun i => drop_take_get es L (H - L) i
      have := DRel.list (O := O) (w := w) f' ((es.drop L).take (H - L)) b (o + L * z) z (M - L) hz (by intro e; rw [e] at hlen; simp at hlen; omega) hO (by rw [hlen]; omega) (fun h => by have := hf h; rw [hlen]; omega)
        (fun i r hi => by rw [hget] at hi; split at hi
                          · exact hsz _ r hi
                          · cases hi) (fun k => cell (L * z + k)) (fun k hk => by
          rw [hlen] at hk
          refine h1c _ ?_
          have : L * z + (H - L) * z ≤ es.length * z := by rw [← Nat.add_mul]; exact Nat.mul_le_mul_right _ (by omega)
          omega) (fun k hk => by
          rw [hlen] at hk
          rw [Nat.add_assoc]
          refine hcell _ ?_
          have : L * z + (H - L) * z ≤ es.length * z := by rw [← Nat.add_mul]; exact Nat.mul_le_mul_right _ (by omega)
          omega) (fun i r j d hi hj => by
          rw [hget] at hi
          split at hi
          · have := hh _ r j d hi hj
            rw [Nat.add_mul, Nat.add_assoc] at this; exact this
          · cases hi)
      rw [hlen] at this
      simpa [addr_add] using this
theorem stepSlice_ok {T : TypeId} {ti : TI} (ht : TIok P T ti) (hr : HeapRel P ρ h w) {new : Nat} {x : AV} {v : Value} (hx : VRel ρ (ownB ρ h) w x v) {lo hi mx : Option AV} {vl vh vm : Option Value}
    (hl : OptRel ρ (ownB ρ h) w lo vl) (hh : OptRel ρ (ownB ρ h) w hi vh) (hm : OptRel ρ (ownB ρ h) w mx vm) {res : Res} (hs : stepSlice std ti x lo hi mx = some res) (hc : res.c = true) :
    RunOk P ρ h w new (Instr.sliceAt T v vl vh vm) res := by
  obtain ⟨d, hd, _, hk⟩ := ht.desc
  unfold stepSlice at hs
  split at hs
  rotate_left
  · cases hs
  rename_i l hi' m el eh em
  split at hs
  ·
    rename_i full z es
    split at hs
    · rename_i e z' eb ea ez hdesc
      rw [hdesc] at hk
      obtain ⟨rfl, hz, _⟩ := hk
      cases hb : Nat.beq z z' with
      | false => rw [hb] at hs; cases hs
      | true =>
      rw [hb] at hs; simp only [cond_true] at hs
      have hzz := Nat.eq_of_beq_eq_true hb
      subst hzz
      cases hx with | d hx =>
      obtain ⟨a, n, c, rfl⟩ : ∃ a n c, v = .slice a n c := by cases hx <;> exact ⟨_, _, _, rfl⟩
      obtain ⟨hn, hnc, hfull, _⟩ := cut_D (f' := false) hx 0 0 0 (by omega) (by omega) (by omega) (by omega) (by simp)
      split at hs
      · cases hs
        simp only at hc
        obtain ⟨c1, hc⟩ := and_true hc
        obtain ⟨c2, c3⟩ := and_true hc
        have c1 := cmp_geq c1
        have c2 : getO l 0 ≤ getO hi' ((es.length : Nat) : Int) := cmp_leq c2
        have c3 : getO hi' ((es.length : Nat) : Int) ≤ ((es.length : Nat) : Int) := cmp_leq c3
        have hbd := run_bounds (P := P) (w := w) hl hh hm el eh em true n c (getO l 0) (getO hi' ((es.length : Nat) : Int)) c rfl (by rw [hn]) rfl (by simp) c1 c2 (by omega) (by omega) (by omega)
        obtain ⟨_, _, _, hD⟩ := cut_D (f' := std.and full (std.cmp .eql (getO hi' (std.ofNat (std.len es))) (std.ofNat (std.len es)))) hx _ _ c
          (show (getO l 0).toNat ≤ (getO hi' ((es.length : Nat) : Int)).toNat by
            omega) (by have := c3; omega) (by have := c3; omega) (Nat.le_refl _) (fun hf => by
            obtain ⟨f1, f2⟩ := and_true hf
            have f2 : getO hi' ((es.length : Nat) : Int) = ((es.length : Nat) : Int) := by simpa [std, stdCmp] using f2
            have := hfull f1
            rw [f2]; simp; omega)
        exact RunOk.pure hr (run_sliceAt hd hz hbd) (.d hD)
      · rename_i mm
        split at hs
        · rename_i hh'
          cases hs
          simp only at hc
          obtain ⟨c1, hc⟩ := and_true hc
          obtain ⟨c2, hc⟩ := and_true hc
          obtain ⟨c3, c4⟩ := and_true hc
          have c1 := cmp_geq c1
          have c2 := cmp_leq c2
          have c3 := cmp_leq c3
          have c4 : mm ≤ ((es.length : Nat) : Int) := cmp_leq c4
          have hbd := run_bounds (P := P) (w := w) hl hh hm el eh em true n c (getO l 0) hh' mm rfl rfl rfl (by simp) c1 c2 c3 (by omega) (by omega)
          obtain ⟨_, _, _, hD⟩ := cut_D (f' := std.cmp .eql hh' mm) hx _ hh'.toNat mm.toNat (show (getO l 0).toNat ≤ hh'.toNat by omega) (by omega) (by omega) (by omega) (fun hf => by
            have : hh' = mm := by simpa [std, stdCmp] using hf
            rw [this])
          exact RunOk.pure hr (run_sliceAt hd hz hbd) (.d hD)
        · cases hs
    · cases hs
  ·
    rename_i id z off len cap
    split at hs
    · rename_i e z' eb ea ez hdesc
      rw [hdesc] at hk
      obtain ⟨rfl, hz, _⟩ := hk
      cases hb : Nat.beq z z' with
      | false => rw [hb] at hs; cases hs
      | true =>
      rw [hb] at hs; simp only [cond_true] at hs
      have hzz := Nat.eq_of_beq_eq_true hb
      subst hzz
      cases hx with
      | nils _ _ _ _ a hcc =>
        have keyn : ∀ (L H M : Nat) (cap' : Option Nat), L ≤ H → H ≤ 0 → M ≤ 0 → (cap' = none ∨ cap' = some 0) →
            VRel ρ (ownB ρ h) w (.slice id z (off + L) (H - L) cap') (.slice (if M = L then a else a.map (·.add (L * z))) (H - L) (M - L)) := by
          intro L H M cap' h1 h2 h3 h4
          obtain rfl : L = 0 := by omega
          obtain rfl : H = 0 := by omega
          obtain rfl : M = 0 := by omega
          exact .nils _ _ _ _ _ h4
        split at hs
        · cases hs
          simp only at hc
          obtain ⟨c1, hc⟩ := and_true hc
          obtain ⟨c2, c3⟩ := and_true hc
          have c1 := cmp_geq c1
          have c2 : getO l 0 ≤ getO hi' ((0 : Nat) : Int) := cmp_leq c2
          have c3 : getO hi' ((0 : Nat) : Int) ≤ ((0 : Nat) : Int) := cmp_leq c3
          have hbd := run_bounds (P := P) (w := w) hl hh hm el eh em true 0 0 (getO l 0) (getO hi' ((0 : Nat) : Int)) ((0 : Nat) : Int) rfl rfl rfl (by simp) c1 c2 (by omega) (by omega) (by omega)
          refine RunOk.pure hr (run_sliceAt hd hz hbd) (keyn (getO l 0).toNat (getO hi' ((0 : Nat) : Int)).toNat _ _ (by omega) (by omega) (by simp) ?_)
          have e0 : (getO l 0).toNat = 0 := by omega
          rcases hcc with hcc | hcc
          · subst hcc; exact .inl rfl
          · subst hcc; exact .inr (by simp [capSub, std])
        · rename_i mm
          split at hs
          · rename_i hh'
            cases hs
            simp only at hc
            obtain ⟨c1, hc⟩ := and_true hc
            obtain ⟨c2, hc⟩ := and_true hc
            obtain ⟨c3, c4⟩ := and_true hc
            have c1 := cmp_geq c1
            have c2 := cmp_leq c2
            have c3 := cmp_leq c3
            have c4 : mm ≤ ((0 : Nat) : Int) := cmp_leq c4
            have hbd := run_bounds (P := P) (w := w) hl hh hm el eh em true 0 0 (getO l 0) hh' mm rfl rfl rfl (by simp) c1 c2 c3 (by omega) (by omega)
            refine RunOk.pure hr (run_sliceAt hd hz hbd) (keyn (getO l 0).toNat hh'.toNat mm.toNat _ (by omega) (by omega) (by omega) (.inr ?_))
            show some (mm.toNat - (getO l 0).toNat) = some 0
            congr 1; omega
          · cases hs
      | slice _ _ _ _ _ Lc a c hL hLz haa hcc hle =>
      have key : ∀ (L H M : Nat) (cap' : Option Nat), L ≤ H → H ≤ M → M ≤ c → (cap' = some (M - L) ∨ (cap' = none ∧ M = c ∧ cap = none)) →
          VRel ρ (ownB ρ h) w (.slice id z (off + L) (H - L) cap') (.slice (if M = L then a else a.map (·.add (L * z))) (H - L) (M - L)) := by
        intro L H M cap' h1 h2 h3 h4
        refine .slice id z _ _ _ Lc _ _ hL hLz (fun hpos => ?_) ?_ (by omega)
        · rw [if_neg (by omega), haa (by omega)]
          simp [addr_add, hLz, Nat.add_mul, Nat.add_assoc]
        · rcases h4 with h4 | ⟨h4, rfl, hcn⟩
          · exact .inl h4
          · rcases hcc with hcc | ⟨_, nb, hnb, hroom⟩
            · rw [hcn] at hcc; cases hcc
            · exact .inr ⟨h4, nb, hnb, by rw [show off + L + (M - L) = off + M by omega]; exact hroom⟩
      split at hs
      · cases hs
        simp only at hc
        obtain ⟨c1, hc⟩ := and_true hc
        obtain ⟨c2, c3⟩ := and_true hc
        have c1 := cmp_geq c1
        have c2 : getO l 0 ≤ getO hi' ((len : Nat) : Int) := cmp_leq c2
        have c3 : getO hi' ((len : Nat) : Int) ≤ ((len : Nat) : Int) := cmp_leq c3
        have hbd := run_bounds (P := P) (w := w) hl hh hm el eh em true len c (getO l 0) (getO hi' ((len : Nat) : Int)) c rfl rfl rfl (by simp) c1 c2 (by omega) (by omega) (by omega)
        refine RunOk.pure hr (run_sliceAt hd hz hbd) (key (getO l 0).toNat (getO hi' ((len : Nat) : Int)).toNat c _ (by omega) (by omega) (Nat.le_refl _) ?_)
        rcases hcc with hcc | ⟨hcc, _⟩
        · subst hcc; exact .inl rfl
        · subst hcc; exact .inr ⟨rfl, rfl, rfl⟩
      · rename_i mm
        split at hs
        · rename_i hh'
          cases hs
          simp only at hc
          obtain ⟨c1, hc⟩ := and_true hc
          obtain ⟨c2, hc⟩ := and_true hc
          obtain ⟨c3, c4⟩ := and_true hc
          have c1 := cmp_geq c1
          have c2 := cmp_leq c2
          have c3 := cmp_leq c3
          have c4 : mm ≤ ((len : Nat) : Int) := cmp_leq c4
          have hbd := run_bounds (P := P) (w := w) hl hh hm el eh em true len c (getO l 0) hh' mm rfl rfl rfl (by simp) c1 c2 c3 (by omega) (by omega)
          exact RunOk.pure hr (run_sliceAt hd hz hbd) (key (getO l 0).toNat hh'.toNat mm.toNat _ (by omega) (by omega) (by omega) (.inl rfl))
        · cases hs
    · cases hs
  ·
    rename_i s
    split at hs
    · rename_i hdesc
      rw [hdesc] at hk
      cases hk
      cases hs
      simp only at hc
      obtain ⟨c1, hc⟩ := and_true hc
      obtain ⟨c2, c3⟩ := and_true hc
      have c1 := cmp_geq c1
      have c2 : getO l 0 ≤ getO hi' ((s.size : Nat) : Int) := cmp_leq c2
      have c3 : getO hi' ((s.size : Nat) : Int) ≤ ((s.size : Nat) : Int) := cmp_leq c3
      cases hx with | d hx =>
      cases hx
      have hvm := optI_ok hm em
      simp at hvm; subst hvm
      have hbd := run_bounds (P := P) (w := w) hl hh (mx := none) (vm := none) trivial el eh rfl false s.size s.size (getO l 0) (getO hi' ((s.size : Nat) : Int)) s.size rfl rfl rfl (by simp) c1 c2 (by omega) (by omega) (by omega)
      refine RunOk.pure hr ?_ (.d (.str _))
      simp [Instr.sliceAt, Instr.slice, run_und hd, hbd, std]
    · cases hs
  · cases hs
theorem stepMin_ok (hr : HeapRel P ρ h w) {new : Nat} {op : BinOp} (hop : op = .lss ∨ op = .gtr) {xs : List AV} {vs : List Value} (hl : vs.length = xs.length) (hx : ∀ (i : Nat) (x : AV) (v : Value), xs[i]? = some x → vs[i]? = some v → VRel ρ (ownB ρ h) w x v)
    {a : Array TypeId} {t : TypeId} {res : Res} (hs : stepMin std op xs = some res) : RunOk P ρ h w new ((if op = .lss then Builtin.min_ else Builtin.max_) a t vs.toArray) res := by
  have one : ∀ (i : Nat) (k : IntKind) (n : Int) (v : Value), xs[i]? = some (.d (.int k n)) → vs[i]? = some v → v = .int k n := by
    intro i k n v h1 h2
    have := hx i _ v h1 h2
    cases this with | d h => cases h; rfl
  unfold stepMin at hs
  split at hs
  · cases hs
    obtain ⟨v1, v2, rfl⟩ : ∃ a b, vs = [a, b] := by
      match vs, hl with | [a, b], _ => exact ⟨a, b, rfl⟩
    have e1 := one 0 _ _ v1 rfl rfl
    have e2 := one 1 _ _ v2 rfl rfl
    subst e1; subst e2
    rcases hop with rfl | rfl
    · exact RunOk.pure hr (by simp [Builtin.min_, Builtin.min2, std]) (.d (.int _ _))
    · exact RunOk.pure hr (by simp [Builtin.max_, Builtin.max2, std]) (.d (.int _ _))
  · cases hs
    obtain ⟨v1, v2, v3, rfl⟩ : ∃ a b c, vs = [a, b, c] := by
      match vs, hl with | [a, b, c], _ => exact ⟨a, b, c, rfl⟩
    have e1 := one 0 _ _ v1 rfl rfl
    have e2 := one 1 _ _ v2 rfl rfl
    have e3 := one 2 _ _ v3 rfl rfl
    subst e1; subst e2; subst e3
    rcases hop with rfl | rfl
    · exact RunOk.pure hr (by simp [Builtin.min_, Builtin.min2, std]) (.d (.int _ _))
    · exact RunOk.pure hr (by simp [Builtin.max_, Builtin.max2, std]) (.d (.int _ _))
  · cases hs
    obtain ⟨v1, rfl⟩ : ∃ a, vs = [a] := by
      match vs, hl with | [a], _ => exact ⟨a, rfl⟩
    have e1 := one 0 _ _ v1 rfl rfl
    subst e1
    rcases hop with rfl | rfl
    · exact RunOk.pure hr (by simp [Builtin.min_]) (.d (.int _ _))
    · exact RunOk.pure hr (by simp [Builtin.max_]) (.d (.int _ _))
  · cases hs
end
end Go.Am
end

section
set_option linter.unusedVariables false
set_option linter.unusedSimpArgs false
namespace Go.Am
section
variable {P : Program} {ρ : Rho} {h : List AO} {w : World}
def kindV : List SK → List Value → Prop
  | [], [] => True
  | .i :: ks, .int _ _ :: r => kindV ks r
  | .b :: ks, .bool _ :: r => kindV ks r
  | .s :: ks, .string _ :: r => kindV ks r
  | _, _ => False
theorem kindV_len : ∀ (ks : List SK) (xs : List Value), kindV ks xs → xs.length = ks.length
  | [], [], _ => rfl
  | [], _ :: _, h => h.elim
  | k :: ks, [], h => by cases k <;> exact h.elim
  | .i :: ks, x :: xs, h => by cases x <;> simp only [kindV] at h; simp [kindV_len ks xs h]
  | .b :: ks, x :: xs, h => by cases x <;> simp only [kindV] at h; simp [kindV_len ks xs h]
  | .s :: ks, x :: xs, h => by cases x <;> simp only [kindV] at h; simp [kindV_len ks xs h]
theorem kindV_of {O : Nat → Prop} : ∀ (ks : List SK) (ds : List D) (xs : List Value), kindsOk ks ds = true → xs.length = ds.length → (∀ (j : Nat) (y : D) (u : Value), ds[j]? = some y → xs[j]? = some u → DRel O w y u) → kindV ks xs := by
  intro ks
  induction ks with
  | nil => intro ds xs h hl hr; cases ds <;> simp [kindsOk] at h; cases xs <;> simp at hl; trivial
  | cons k ks ih =>
    intro ds xs h hl hr
    cases ds with
    | nil => cases k <;> simp [kindsOk] at h
    | cons d ds =>
    cases xs with
    | nil => simp at hl
    | cons x xs =>
    have h0 := hr 0 d x rfl rfl
    have ht : ∀ (hk : kindsOk ks ds = true), kindV ks xs := fun hk => ih ds xs hk (by simpa using hl) (fun j y u hy hu => hr (j + 1) y u (by simpa using hy) (by simpa using hu))
    cases k <;> cases d <;> simp [kindsOk] at h <;> cases h0 <;> exact ht h
theorem kindV_split : ∀ (k1 k2 : List SK) (xs : List Value), kindV (k1 ++ k2) xs → kindV k1 (xs.take k1.length) ∧ kindV k2 (xs.drop k1.length)
  | [], k2, xs, h => ⟨by simp [kindV], by simpa using h⟩
  | k :: k1, k2, [], h => by cases k <;> exact h.elim
  | k :: k1, k2, x :: xs, h => by
    cases k <;> cases x <;> simp only [List.cons_append, kindV] at h
    all_goals (obtain ⟨a, b⟩ := kindV_split k1 k2 xs h; exact ⟨by simpa [kindV] using a, by simpa using b⟩)
theorem checkFields_ok (n d : Nat) (em : Bool) (ih : ∀ (t : TypeId) (ks : List SK) (x : Value) (xs : List Value) (w : World), flatK P n t = some ks → Holds P t x xs → kindV ks xs → (Instr.checkKey em d t x).run P w = .ok () w) :
    ∀ (fs : List Field) (off : Nat) (ks : List SK) (xs : List Value), rowK P (flatK P n) off fs = some ks → xs.length = off + ks.length → kindV ks (xs.drop off) →
      ((forIn fs PUnit.unit (fun f _ => (do
        if f.name ≠ "_" then
          Instr.checkKey em d f.type (← Go.part f.type xs.toArray f.offset)
          pure (.yield PUnit.unit)
        else pure (.yield PUnit.unit) : Sem (ForInStep PUnit)))) : Sem PUnit).run P w = .ok PUnit.unit w := by
  intro fs
  induction fs with
  | nil => intro off ks xs hr hx hk; simp
  | cons f fs ihf =>
    intro off ks xs hr hx hk
    simp only [rowK] at hr
    split at hr
    · rename_i hc
      obtain ⟨hn, ho⟩ := hc
      split at hr
      · rename_i k1 hk1
        split at hr
        · rename_i hs
          cases hq : rowK P (flatK P n) (off + k1.length) fs with
          | none => rw [hq] at hr; cases hr
          | some k2 =>
          rw [hq] at hr; simp at hr; subst hr
          obtain ⟨a, ha⟩ := flatK_agg hk1
          have h1 := flatK_one hk1 ha
          rw [List.length_append] at hx
          obtain ⟨vx, rx, hx1⟩ := run_part' (P := P) hs ha xs off (by omega) h1
          obtain ⟨b1, b2⟩ := kindV_split _ _ _ hk
          rw [List.drop_drop] at b2
          have hq1 := ih f.type k1 vx _ w hk1 hx1 b1
          have hrest := ihf (off + k1.length) k2 xs hq (by omega) b2
          rw [← ho] at rx
          rw [List.forIn_cons]
          simp only [hn, ne_eq, not_false_eq_true, if_true, Sem.run_bind, rx, hq1, Result.andThen_ok, Sem.run_pure]
          exact hrest
        · cases hr
      · cases hr
    · cases hr
theorem checkRounds_ok (d : Nat) (em : Bool) (e : TypeId) (s : Nat) (a : Bool) (ks : List SK) (hks : ks.length = s) (hs : szOf P e = some s) (ha : aggOf P e = some a) (h1 : a = false → s = 1)
    (ih : ∀ (x : Value) (xs : List Value) (w : World), Holds P e x xs → kindV ks xs → (Instr.checkKey em d e x).run P w = .ok () w) (xs : List Value) :
    ∀ (m i : Nat), xs.length = (i + m) * s → kindV (List.replicate m ks).flatten (xs.drop (i * s)) →
      ((forIn (List.range' i m) PUnit.unit (fun i _ => (do
        Instr.checkKey em d e (← Go.part e xs.toArray (i * (← sizeOf e)))
        pure (.yield PUnit.unit) : Sem (ForInStep PUnit)))) : Sem PUnit).run P w = .ok PUnit.unit w := by
  intro m
  induction m with
  | zero => intro i hx hb; simp
  | succ m ihm =>
    intro i hx hb
    simp only [List.replicate_succ, List.flatten_cons] at hb
    have hmul : (i + (m + 1)) * s = i * s + s + m * s := by rw [Nat.add_mul, Nat.add_mul]; omega
    obtain ⟨e1, e2⟩ := kindV_split _ _ _ hb
    rw [hks] at e1 e2
    rw [List.drop_drop] at e2
    obtain ⟨vx, rx, hx1⟩ := run_part' (P := P) hs ha xs (i * s) (by omega) h1
    have hq := ih vx _ w hx1 e1
    have hrest := ihm (i + 1) (by rw [hx]; congr 1; omega) (by rw [Nat.add_mul, Nat.one_mul]; exact e2)
    rw [List.range'_succ, List.forIn_cons]
    simp only [Sem.run_bind, run_size hs, rx, hq, Result.andThen_ok, Sem.run_pure]
    exact hrest
theorem checkKey_ok (em : Bool) : ∀ (n d : Nat), n ≤ d → ∀ (t : TypeId) (ks : List SK) (x : Value) (xs : List Value) (w : World), flatK P n t = some ks → Holds P t x xs → kindV ks xs →
    (Instr.checkKey em d t x).run P w = .ok () w := by
  intro n
  induction n with
  | zero => intro d _ t ks x xs w hf; simp [flatK] at hf
  | succ n ih =>
    intro d hd t ks x xs w hf hx hk
    obtain ⟨d, rfl⟩ : ∃ e, d = e + 1 := ⟨d - 1, by omega⟩
    obtain ⟨a, ha, hs, hxa⟩ := hx
    unfold aggOf at ha
    simp only [flatK] at hf
    split at hf
    rotate_left
    · cases hf
    rename_i k0 hk0
    split at hf
    rotate_left
    · cases hf
    cases hf
    have hlen := kindV_len _ _ hk
    unfold flatD at hk0
    cases hu : P.underlying t with
    | none => simp [hu] at ha
    | some ds =>
      simp [hu] at ha; subst ha
      rw [hu] at hk0
      cases ds <;> simp only at hk0 <;> try (cases hk0; done)
      · cases hk0; simp [Instr.checkKey, run_und hu]
      · cases hk0; simp [Instr.checkKey, run_und hu]
      · cases hk0; simp [Instr.checkKey, run_und hu]
      · rename_i m e
        simp [descAgg] at hxa; subst hxa
        cases hq : flatK P n e with
        | none => rw [hq] at hk0; cases hk0
        | some ke =>
        rw [hq] at hk0; simp at hk0; subst hk0
        have hse := flatK_size _ _ _ hq
        obtain ⟨ae, hae⟩ := flatK_agg hq
        have := checkRounds_ok (P := P) (w := w) d em e ke.length ae ke rfl hse hae (flatK_one hq hae) (fun x xs w hx hk => ih d (by omega) e ke x xs w hq hx hk) xs m 0
          (by rw [hlen]; simp) (by simpa using hk)
        simp only [Instr.checkKey, Sem.run_bind, run_und hu, Result.andThen_ok]
        rw [Std.Legacy.Range.forIn_eq_forIn_range']
        have hsize : ([:m] : Std.Legacy.Range).size = m := by simp [Std.Legacy.Range.size]
        rw [hsize]
        erw [this]
        simp
      · rename_i fs
        simp [descAgg] at hxa; subst hxa
        split at hk0
        · cases hk0
        · have := checkFields_ok (P := P) (w := w) n d em (fun t ks x xs w hf hx hk => ih d (by omega) t ks x xs w hf hx hk) fs.toList 0 _ xs hk0 (by simpa using hlen) (by simpa using hk)
          simp only [Instr.checkKey, Sem.run_bind, run_und hu, Result.andThen_ok]
          rw [← Array.forIn_toList]
          erw [this]
          simp
theorem eqKey_ok {T : TypeId} {ks : List SK} {a : Bool} (hf : flatK P 8 T = some ks) (ha : aggOf P T = some a) {O : Nat → Prop} {x y : D} {vx vy : Value} (hx : DRel O w x vx) (hy : DRel O w y vy) (ex : isAggD x = a) (ey : isAggD y = a) {b : Bool}
    (hb : eqCells std ks (cellsDD x) (cellsDD y) = some b) : ∃ xs ys, Holds P T vx xs ∧ Holds P T vy ys ∧ eqKs ks xs ys = some b := by
  have hsz := flatK_size _ _ _ hf
  obtain ⟨l1, l2⟩ := eqCells_len ks _ _ _ hb
  obtain ⟨xs, h1, h2, h3⟩ := holds_D (P := P) (T := T) hx l1 hsz (by rw [ex]; exact ha)
  obtain ⟨ys, g1, g2, g3⟩ := holds_D (P := P) (T := T) hy l2 hsz (by rw [ey]; exact ha)
  exact ⟨xs, ys, h1, g1, eqCells_ok ks _ _ xs ys b hb (h2.trans l1.symm) (g2.trans l2.symm) h3 g3⟩
theorem eqKs_eq : ∀ (ks : List SK) (xs ys : List Value), eqKs ks xs ys = some true → xs = ys ∧ kindV ks xs := by
  intro ks
  induction ks with
  | nil => intro xs ys h; cases xs <;> cases ys <;> simp [eqKs] at h; exact ⟨rfl, trivial⟩
  | cons k ks ih =>
    intro xs ys h
    cases xs with
    | nil => simp [eqKs] at h
    | cons x xs =>
      cases ys with
      | nil => simp [eqKs] at h
      | cons y ys =>
        simp only [eqKs] at h
        split at h
        · rename_i a c h1 h2
          simp only [Option.some.injEq, Bool.and_eq_true] at h
          obtain ⟨rfl, rfl⟩ := h
          obtain ⟨e, hk⟩ := ih xs ys h2
          subst e
          cases k
          · obtain ⟨k, a, c, rfl, rfl, e⟩ := eq1_i h1
            have : a = c := by simpa using e.symm
            subst this; exact ⟨rfl, hk⟩
          · obtain ⟨a, c, rfl, rfl, e⟩ := eq1_b h1
            have : a = c := by simpa using e.symm
            subst this; exact ⟨rfl, hk⟩
          · obtain ⟨a, c, rfl, rfl, e⟩ := eq1_s h1
            have : a = c := by
              have e' : a.toList = c.toList := by simpa using e.symm
              rw [ByteArray.toList_eq, ByteArray.toList_eq] at e'
              obtain ⟨⟨x⟩⟩ := a
              obtain ⟨⟨y⟩⟩ := c
              simp at e'; rw [e']
            subst this; exact ⟨rfl, hk⟩
        · cases h
theorem sameBits_refl (n : Nat) : ∀ (ks : List SK) (xs : List Value), kindV ks xs → ∀ v, v = .agg xs.toArray ∨ xs = [v] → Instr.sameBits (n + 2) v v = true := by
  have one : ∀ (m : Nat) (k : SK) (ks : List SK) (x : Value) (xs : List Value), kindV (k :: ks) (x :: xs) → Instr.sameBits m x x = true ∧ kindV ks xs := by
    intro m k ks x xs h
    cases k <;> cases x <;> simp only [kindV] at h
    all_goals exact ⟨by cases m <;> simp [Instr.sameBits, beq_toListBytes], h⟩
  have all : ∀ (m : Nat) (ks : List SK) (xs : List Value), kindV ks xs → ∀ x ∈ xs, Instr.sameBits m x x = true := by
    intro m ks
    induction ks with
    | nil => intro xs h x hx; cases xs with
      | nil => cases hx
      | cons _ _ => exact h.elim
    | cons k ks ih => intro xs h x hx; cases xs with
      | nil => cases hx
      | cons y ys =>
        obtain ⟨a, b⟩ := one m k ks y ys h
        rcases List.mem_cons.1 hx with rfl | hx
        · exact a
        · exact ih ys b x hx
  intro ks xs h v hv
  rcases hv with rfl | rfl
  · simp only [Instr.sameBits, beq_self_eq_true, Bool.true_and]
    rw [List.all_eq_true]
    intro p hp
    have : p.1 = p.2 ∧ p.1 ∈ xs := by
      obtain ⟨i, hi, e⟩ := List.getElem_of_mem hp
      rw [List.getElem_zip] at e
      rw [← e]; simp
    rw [← this.1]
    exact all _ ks xs h _ this.2
  · exact all _ ks _ h v (by simp)
theorem holds_leaf {T : TypeId} {v : Value} {xs : List Value} (h : Holds P T v xs) (hv : ∀ cs, v ≠ .agg cs) : xs = [v] := by
  obtain ⟨a, _, _, h⟩ := h
  cases a with
  | true => exact absurd h (hv _)
  | false => simpa using h
theorem eqKs_one {ks : List SK} {x y : Value} {b : Bool} (h : eqKs ks [x] [y] = some b) : ∃ k, eq1 k x y = some b := by
  cases ks with
  | nil => simp [eqKs] at h
  | cons k ks =>
    simp only [eqKs] at h
    split at h
    · rename_i a c h1 h2
      cases ks with
      | nil => simp [eqKs] at h2; subst h2; cases h; exact ⟨k, by simpa using h1⟩
      | cons _ _ => simp [eqKs] at h2
    · cases h
theorem sameNow_ok {ks : List SK} {T : TypeId} {vx vy : Value} {xs ys : List Value} {b c : Bool} (hx : Holds P T vx xs) (hy : Holds P T vy ys) (hb : eqKs ks xs ys = some b) {d : TypeDesc} (h : Instr.sameNow d vx vy = some c) : c = b := by
  unfold Instr.sameNow at h
  split at h
  · rename_i k a k' a'
    split at h
    · rename_i hkk; subst hkk; cases h
      rw [holds_leaf hx (by simp), holds_leaf hy (by simp)] at hb
      obtain ⟨q, hq⟩ := eqKs_one hb
      cases q <;> simp [eq1] at hq; exact hq
    · cases h
  · cases h
    rw [holds_leaf hx (by simp), holds_leaf hy (by simp)] at hb
    obtain ⟨q, hq⟩ := eqKs_one hb
    cases q <;> simp [eq1] at hq
    rw [beq_toListBytes]; exact hq
  · cases h
    rw [holds_leaf hx (by simp), holds_leaf hy (by simp)] at hb
    obtain ⟨q, hq⟩ := eqKs_one hb
    cases q <;> simp [eq1] at hq; exact hq
  · cases h
def EntRel (O : Nat → Prop) (w : World) (es : List (D × D)) (en : List MapEntry) : Prop :=
  en.length = es.length ∧ ∀ (i : Nat) (k x : D), es[i]? = some (k, x) → ∃ e : MapEntry, en[i]? = some e ∧ DRel O w k e.key ∧ DRel O w x e.val
theorem find_ok {T : TypeId} {ks : List SK} {ka : Bool} (hf : flatK P 8 T = some ks) (ha : aggOf P T = some ka) {O : Nat → Prop} {k : D} {vk : Value} (hk : DRel O w k vk) (d : TypeDesc) :
    ∀ (es : List (D × D)) (en : List MapEntry) (i : Nat) (res : Option (Nat × D)), EntRel O w es en → findA std ks ka k es i = some res →
      ∃ r : Option (Nat × Value), (∀ r', Instr.findNow d vk en i = some r' → r' = r) ∧ (Instr.findAsking T vk en i).run P w = .ok r w ∧
        match res with
        | none => r = none
        | some (n, x) => i ≤ n ∧ ∃ k' e, r = some (n, e.val) ∧ es[n - i]? = some (k', x) ∧ en[n - i]? = some e ∧ DRel O w x e.val ∧ e.key = vk := by
  intro es
  induction es with
  | nil =>
    intro en i res hr h
    simp [findA] at h; subst h
    obtain ⟨hl, _⟩ := hr
    have : en = [] := by simpa using hl
    subst this
    exact ⟨none, fun r' h => by simp [Instr.findNow] at h; exact h.symm, by simp [Instr.findAsking], rfl⟩
  | cons p es ih =>
    intro en i res hr h
    obtain ⟨k', x⟩ := p
    obtain ⟨hl, hr⟩ := hr
    cases en with
    | nil => simp at hl
    | cons e en =>
    obtain ⟨e0, he0, h1, h2⟩ := hr 0 k' x rfl
    simp at he0; subst he0
    simp only [findA] at h
    cases hc : (isAggD k == ka) && (isAggD k' == ka) with
    | false => rw [hc] at h; cases h
    | true =>
    rw [hc] at h; simp only [cond_true] at h
    simp only [Bool.and_eq_true, beq_iff_eq] at hc
    cases hb : eqCells std ks (cellsDD k) (cellsDD k') with
    | none => rw [hb] at h; cases h
    | some b =>
    obtain ⟨xs, ys, hx, hy, hxy⟩ := eqKey_ok hf ha hk h1 hc.1 hc.2 hb
    have hrun := equalIn_ok (P := P) 8 Op.maxDepth (by decide) T ks vk e.key xs ys b w hf hx hy hxy
    have hrun : (Op.equal T vk e.key).run P w = .ok b w := hrun
    rw [hb] at h
    cases b with
    | true =>
      simp at h; subst h
      obtain ⟨rfl, hkv⟩ := eqKs_eq _ _ _ hxy
      have hv : vk = e.key := by
        obtain ⟨a, ha1, _, hx⟩ := hx
        obtain ⟨a', ha2, _, hy⟩ := hy
        rw [ha1] at ha2; cases ha2
        cases a
        · simp at hx hy; rw [hx] at hy; simpa using hy
        · simp at hx hy; rw [hx, hy]
      refine ⟨some (i, e.val), fun r' hr' => ?_, by simp [Instr.findAsking, hrun], Nat.le_refl _, k', e, rfl, by simp, by simp, h2, hv.symm⟩
      simp only [Instr.findNow] at hr'
      cases hsn : Instr.sameNow d vk e.key with
      | none => rw [hsn] at hr'; cases hr'
      | some c =>
        have := sameNow_ok hx hy hxy hsn
        subst this
        rw [hsn] at hr'; cases hr'; rfl
    | false =>
      simp only at h
      obtain ⟨r, f1, f2, f3⟩ := ih en (i + 1) res ⟨by simpa using hl, fun j a c hj => by
        have := hr (j + 1) a c (by simpa using hj); simpa using this⟩ h
      refine ⟨r, fun r' hr' => ?_, by simp [Instr.findAsking, hrun, f2], ?_⟩
      · simp only [Instr.findNow] at hr'
        cases hsn : Instr.sameNow d vk e.key with
        | none => rw [hsn] at hr'; cases hr'
        | some c =>
          have := sameNow_ok hx hy hxy hsn
          subst this
          rw [hsn] at hr'; exact f1 r' hr'
      · cases res with
        | none => exact f3
        | some q =>
          obtain ⟨n, y⟩ := q
          obtain ⟨g1, k2, e2, g2, g3, g4, g5, g6⟩ := f3
          refine ⟨by omega, k2, e2, g2, ?_, ?_, g5, g6⟩
          · rw [show n - i = (n - (i + 1)) + 1 by omega]; simpa using g3
          · rw [show n - i = (n - (i + 1)) + 1 by omega]; simpa using g4
theorem findKey_ok {T : TypeId} {ks : List SK} {ka : Bool} (hf : flatK P 8 T = some ks) (ha : aggOf P T = some ka) {O : Nat → Prop} {k : D} {vk : Value} (hk : DRel O w k vk) {es : List (D × D)} {en : List MapEntry} {res : Option (Nat × D)}
    (hr : EntRel O w es en) (h : findA std ks ka k es 0 = some res) :
    ∃ r : Option (Nat × Value), (Instr.findKey T vk en).run P w = .ok r w ∧
      match res with
      | none => r = none
      | some (n, x) => ∃ k' e, r = some (n, e.val) ∧ es[n]? = some (k', x) ∧ en[n]? = some e ∧ DRel O w x e.val ∧ e.key = vk := by
  obtain ⟨d, hd⟩ : ∃ d, P.underlying T = some d := by
    unfold aggOf at ha
    cases hu : P.underlying T with
    | none => simp [hu] at ha
    | some d => exact ⟨d, rfl⟩
  obtain ⟨r, f1, f2, f3⟩ := find_ok hf ha hk d es en 0 res hr h
  refine ⟨r, ?_, ?_⟩
  · simp only [Instr.findKey, Sem.run_bind, run_und hd, Result.andThen_ok]
    cases hq : Instr.findNow d vk en 0 with
    | none => simpa using f2
    | some r' => have := f1 r' hq; subst this; simp
  · cases res with
    | none => exact f3
    | some q =>
      obtain ⟨n, x⟩ := q
      obtain ⟨_, k', e, g⟩ := f3
      exact ⟨k', e, by simpa using g⟩
def FindRes (O : Nat → Prop) (w : World) (es : List (D × D)) (en : Array MapEntry) (vk : Value) (r : Option (Nat × Value)) : Option (Nat × D) → Prop
  | none => r = none
  | some (n, x) => ∃ k' e, r = some (n, e.val) ∧ es[n]? = some (k', x) ∧ en[n]? = some e ∧ DRel O w x e.val ∧ e.key = vk
theorem findM_ok {T : TypeId} {ti : TI} (ht : TIok P T ti) (hr : HeapRel P ρ h w) {m k : AV} {vm vk : Value} (hm : VRel ρ (ownB ρ h) w m vm) (hk : VRel ρ (ownB ρ h) w k vk) {res : Option (Nat × D)} (hf : findM std ti h m k = some res) :
    ∃ (K E : TypeId) (ks : List SK) (ka : Bool) (ez : D), P.underlying T = some (.map K E) ∧ ti.desc = .map ks ka ez ∧ zeroV P E = some ez ∧ (∃ d, k = .d d ∧ DRel (ownB ρ h) w d vk) ∧ (∀ em, (Instr.checkKey em 10000 K vk).run P w = .ok () w) ∧ (∀ old, old = vk → ∀ w, (Instr.keyThatStays old vk).run P w = .ok vk w) ∧
      ((vm = .map none ∧ res = none ∧ (Instr.findKey K vk []).run P w = .ok none w) ∨
        ∃ id L es en clk, m = .map id ∧ vm = .map (some L.blk) ∧ ρ id = some L ∧ nthA h id = .map es ∧ w.heap[L.blk]? = some (.map en clk) ∧ EntRel (ownB ρ h) w es en.toList ∧ ∃ r : Option (Nat × Value), (Instr.findKey K vk en.toList).run P w = .ok r w ∧
          FindRes (ownB ρ h) w es en vk r res) := by
  obtain ⟨d, hd, hda, hkk⟩ := ht.desc
  have hf0 : findM std ti h m k = some res := hf
  clear hf
  cases hdesc : ti.desc with
  | map ks ka ez =>
   cases k with
   | d kd =>
    have hf : (bif (isAggD kd == ka) && kindsOk ks (cellsDD kd) then match m with
      | .d .nilm => some none
      | .map id => match nthA h id with
        | .map es => findA std ks ka kd es 0
        | _ => none
      | _ => none
      else none) = some res := by
      unfold findM at hf0; rw [hdesc] at hf0; exact hf0
    clear hf0
    rw [hdesc] at hkk
    obtain ⟨K, E, rfl, hfl, hag, hz, hg⟩ := hkk
    cases hc : (isAggD kd == ka) && kindsOk ks (cellsDD kd) with
    | false => rw [hc] at hf; cases hf
    | true =>
    rw [hc] at hf; simp only [cond_true] at hf
    simp only [Bool.and_eq_true, beq_iff_eq] at hc
    cases hk with | d hk =>
    have hlen : (cellsDD kd).length = ks.length := by
      have : ∀ (ks : List SK) (ds : List D), kindsOk ks ds = true → ds.length = ks.length := by
        intro ks
        induction ks with
        | nil => intro ds h; cases ds <;> simp [kindsOk] at h; rfl
        | cons k ks ih =>
          intro ds h
          cases ds with
          | nil => cases k <;> simp [kindsOk] at h
          | cons d ds => cases k <;> cases d <;> simp [kindsOk] at h <;> simp [ih ds h]
      exact this _ _ hc.2
    obtain ⟨xs, h1, h2, h3⟩ := holds_D (P := P) (T := K) hk hlen (flatK_size _ _ _ hfl) (by rw [hc.1]; exact hag)
    have hkv := kindV_of ks _ xs hc.2 (h2.trans hlen.symm) h3
    refine ⟨K, E, ks, ka, ez, hd, rfl, hz, ⟨kd, rfl, hk⟩, fun em => checkKey_ok em 8 10000 (by decide) K ks vk xs w hfl h1 hkv, ?_, ?_⟩
    · intro old ho w'
      subst ho
      have : Instr.sameBits 10000 old old = true := sameBits_refl 9998 ks xs hkv old (by
        obtain ⟨a, _, _, hx⟩ := h1
        cases a
        · exact .inr (by simpa using hx)
        · exact .inl (by simpa using hx))
      simp [Instr.keyThatStays, this]
    · split at hf
      · cases hf
        cases hm with | d hm =>
        cases hm
        refine .inl ⟨rfl, rfl, ?_⟩
        obtain ⟨r, f1, f2⟩ := findKey_ok hfl hag hk (es := []) (en := []) (res := none) ⟨rfl, by simp⟩ rfl
        simp only at f2; subst f2; exact f1
      · rename_i id
        split at hf
        · rename_i es hob
          cases hm with
          | map _ L hL =>
            obtain ⟨_, ho⟩ := hr.obj id L hL
            rw [hob] at ho
            obtain ⟨en, clk, hcb, hl, hj⟩ := ho
            right
            have hent : EntRel (ownB ρ h) w es en.toList := ⟨by simpa using hl.1, fun i k x hi => by
              obtain ⟨e, he, a, b⟩ := hj i k x hi
              exact ⟨e, by simpa using he, a, b⟩⟩
            obtain ⟨r, f1, f2⟩ := findKey_ok hfl hag hk hent hf
            refine ⟨id, L, es, en, clk, rfl, rfl, hL, hob, hcb, hent, r, f1, ?_⟩
            cases res with
            | none => exact f2
            | some q =>
              obtain ⟨n, x⟩ := q
              obtain ⟨k', e, a, b, c, d⟩ := f2
              exact ⟨k', e, a, b, by simpa using c, d⟩
        · cases hf
      · cases hf
   | _ => unfold findM at hf0; rw [hdesc] at hf0; cases hf0
  | _ => unfold findM at hf0; rw [hdesc] at hf0; cases hf0
theorem run_getObj {b : Nat} {en : Array MapEntry} {clk : Nat} (hb : w.heap[b]? = some (.map en clk)) : (getObj b).run P w = .ok (.map en clk) w := by simp [getObj, Sem.run, hb]
theorem run_setObj {b : Nat} {en en' : Array MapEntry} {clk clk' : Nat} (hb : w.heap[b]? = some (.map en clk)) : (setObj b (.map en' clk')).run P w = .ok () (World.setObj w b (.map en' clk')) := by
  have := (Array.getElem?_eq_some_iff.1 hb).1
  simp [setObj, Sem.run, hb, World.setObj]
def MWant (q : Bool) (r : List D) (x : Option (Option (Nat × D))) : Prop :=
  (x = some none ∧ q = false) ∨ ∃ i v v', x = some (some (i, v)) ∧ DLe2 v v' ∧ q = true ∧ r = [.int .i64 (i : Nat), v']
theorem zeroV_run {E : TypeId} {ez : D} (h : zeroV P E = some ez) {O : Nat → Prop} : ∃ v, (zeroValue E).run P w = .ok v w ∧ DRel O w ez v := by
  unfold zeroV at h
  cases hi : P.info? E with
  | none => simp [hi] at h
  | some i =>
    simp [hi] at h
    cases hz : i.zero with
    | none => simp [hz] at h
    | some z =>
      simp [hz] at h
      refine ⟨z, ?_, dOfC_rel h O w⟩
      simp [zeroValue, typeInfo, Sem.program, Sem.run, program, hi, hz]
theorem ok_some {v : AV} {r : Res} (h : ok v = some r) : r = ⟨true, v, []⟩ := by unfold ok at h; cases h; rfl
theorem stepLookup_ok {T : TypeId} {ti : TI} (ht : TIok P T ti) (hr : HeapRel P ρ h w) {new : Nat} {m k : AV} {vm vk : Value} (hm : VRel ρ (ownB ρ h) w m vm) (hk : VRel ρ (ownB ρ h) w k vk) {q : Bool} {r : List D} (hw : MWant q r (findM std ti h m k)) {co : Bool} {res : Res}
    (hs : stepLookup ti q r co = some res) : RunOk P ρ h w new (Instr.lookup T vm vk co) res := by
  have main : ∀ (fr : Option (Nat × D)), findM std ti h m k = some fr → ∃ (v : Value) (ok : Bool) (ks : List SK) (ka : Bool) (ez : D), ti.desc = .map ks ka ez ∧ (Instr.lookup T vm vk co).run P w = .ok (if co then .tuple #[v, .bool ok] else v) w ∧
      (match fr with | none => ok = false ∧ DRel (ownB ρ h) w ez v | some (_, x) => ok = true ∧ DRel (ownB ρ h) w x v) := by
    intro fr hfr
    obtain ⟨K, E, ks, ka, ez, hd, hdesc, hz, _, hck, _, hcase⟩ := findM_ok ht hr hm hk hfr
    obtain ⟨zv, hzr, hzd⟩ := zeroV_run (P := P) (w := w) hz (O := ownB ρ h)
    rcases hcase with ⟨rfl, rfl, hfk⟩ | ⟨id, L, es, en, clk, rfl, rfl, hL, hob, hcb, hent, rr, hfk, hres⟩
    · exact ⟨zv, false, ks, ka, ez, hdesc, by simp [Instr.lookup, run_und hd, hck, hfk, hzr], rfl, hzd⟩
    · cases fr with
      | none =>
        simp only [FindRes] at hres; subst hres
        exact ⟨zv, false, ks, ka, ez, hdesc, by simp [Instr.lookup, run_und hd, run_getObj hcb, hck, hfk, hzr], rfl, hzd⟩
      | some p =>
        obtain ⟨n, x⟩ := p
        obtain ⟨k', e, rfl, _, _, hx, _⟩ := hres
        exact ⟨e.val, true, ks, ka, ez, hdesc, by simp [Instr.lookup, run_und hd, run_getObj hcb, hck, hfk], rfl, hx⟩
  have pack : ∀ (d : D) (v : Value) (b : Bool), DRel (ownB ρ h) w d v → VRel ρ (ownB ρ h) w (bif co then .tuple [.d d, .d (.bool b)] else .d d) (if co then .tuple #[v, .bool b] else v) := by
    intro d v b hd
    cases co with
    | false => exact .d hd
    | true =>
      refine .tuple _ _ rfl fun i x hx => ?_
      match i, hx with
      | 0, hx => cases hx; exact .d hd
      | 1, hx => cases hx; exact .d (.bool b)
      | i + 2, hx => simp at hx
  unfold stepLookup at hs
  split at hs
  · rename_i ks ka ez hdesc
    rcases hw with ⟨hf, rfl⟩ | ⟨i, v, v', hf, hle, rfl, rfl⟩
    · obtain ⟨zv, ok, _, _, ez', hd', hrun, rfl, hz⟩ := main _ hf
      rw [hdesc] at hd'; cases hd'
      simp only at hs; cases ok_some hs
      exact RunOk.pure hr hrun (pack _ _ _ hz)
    · obtain ⟨zv, ok, _, _, ez', hd', hrun, rfl, hz⟩ := main _ hf
      simp only at hs; cases ok_some hs
      exact RunOk.pure hr hrun (pack _ _ _ (hz.le2 hle))
  · cases hs
theorem DRel.ofKeep {O O' : Nat → Prop} {w w' : World} (k : Keep O O' w w') {es : List (D × D)} {en : List MapEntry} (h : EntRel O w es en) : EntRel O' w' es en :=
  ⟨h.1, fun i a c hi => let ⟨e, he, x, y⟩ := h.2 i a c hi; ⟨e, he, x.keep k, y.keep k⟩⟩
theorem HeapRel.born (hr : HeapRel P ρ h w) {id : Nat} {L : Loc} (hL : ρ id = some L) {es : List (D × D)} (hob : nthA h id = .map es) {en : Array MapEntry} {clk : Nat} (hcb : w.heap[L.blk]? = some (.map en clk)) : BornOk en clk := by
  obtain ⟨_, ho⟩ := hr.obj id L hL
  rw [hob] at ho
  obtain ⟨en', clk', hc, hl, _⟩ := ho
  rw [hcb] at hc
  cases hc
  exact hl.2
theorem map_set (hr : HeapRel P ρ h w) {id : Nat} {L : Loc} (hL : ρ id = some L) {es es' : List (D × D)} (hob : nthA h id = .map es) {en : Array MapEntry} {clk : Nat} (hcb : w.heap[L.blk]? = some (.map en clk)) (en' : Array MapEntry) (clk' : Nat)
    (hrel : EntRel (ownB ρ h) w es' en'.toList) (hbn : BornOk en' clk') (new : Nat) (x : AV) (v : Value) (hx : ∀ ρ O w, VRel ρ O w x v) {s : Sem Value} (hs : s.run P w = .ok v (World.setObj w L.blk (.map en' clk'))) : RunOk P ρ h w new s ⟨true, x, [(id, .map es')]⟩ := by
  have hlive : (nthA h id).live = true := by rw [hob]; rfl
  have hbs : ∀ m, bsize w L.blk = some m → bsize (World.setObj w L.blk (.map en' clk')) L.blk = some m := by
    intro m hm; simp [bsize, hcb] at hm
  have hk := keep_setObj hr hL hlive (.map es') rfl _ hbs
  refine ⟨v, _, ρ, hs, hx _ _ _, hr.set hL hlive _ rfl _ hbs ?_, Ext.set _ hr hL hlive _ rfl _ hbs, .inl rfl⟩
  have := DRel.ofKeep hk hrel
  exact ⟨en', clk', setObj_same _ _ _ (Array.getElem?_eq_some_iff.1 hcb).1, ⟨by simpa using this.1, hbn⟩, fun i k x hi => by
    obtain ⟨e, he, a, b⟩ := this.2 i k x hi
    exact ⟨e, by simpa using he, a, b⟩⟩
theorem stepUpdate_ok {T : TypeId} {ti : TI} (ht : TIok P T ti) (hr : HeapRel P ρ h w) {new : Nat} {m k x : AV} {vm vk vx : Value} (hm : VRel ρ (ownB ρ h) w m vm) (hk : VRel ρ (ownB ρ h) w k vk) (hx : VRel ρ (ownB ρ h) w x vx) {q : Bool} {r : List D} (hw : MWant q r (findM std ti h m k)) {res : Res}
    (hs : stepUpdate std ti h q r m k x = some res) : RunOk P ρ h w new (seqUnit (Instr.mapUpdate T vm vk vx)) res := by
  unfold stepUpdate at hs
  split at hs
  · rename_i ks ka ez id kd xd hdesc
    split at hs
    · rename_i es hob
      cases hx with | d hx =>
      cases hk with | d hkd =>
      have go : ∀ fr, findM std ti h (.map id) (.d kd) = some fr → ∃ (L : Loc) (en : Array MapEntry) (clk : Nat), ρ id = some L ∧ w.heap[L.blk]? = some (.map en clk) ∧ BornOk en clk ∧ EntRel (ownB ρ h) w es en.toList ∧
          (Instr.mapUpdate T vm vk vx).run P w = .ok () (World.setObj w L.blk (match fr with | none => .map (en.push { key := vk, val := vx, born := clk }) (clk + 1) | some (n, _) => .map (en.modify n fun e => { key := vk, val := vx, born := e.born }) clk)) ∧ (∀ n y, fr = some (n, y) → n < es.length) := by
        intro fr hfr
        obtain ⟨K, E, ks, ka, ez, hd, _, hz, _, hck, hks, hcase⟩ := findM_ok ht hr hm (.d hkd) hfr
        rcases hcase with ⟨rfl, rfl, hfk⟩ | ⟨id', L, es', en, clk, e1, rfl, hL, hob', hcb, hent, rr, hfk, hres⟩
        · cases hm
        · cases e1
          rw [hob] at hob'; cases hob'
          refine ⟨L, en, clk, hL, hcb, hr.born hL hob hcb, hent, ?_, ?_⟩
          · cases fr with
            | none =>
              simp only [FindRes] at hres; subst hres
              simp [Instr.mapUpdate, run_und hd, run_getObj hcb, hck, hfk, run_setObj hcb]
            | some p =>
              obtain ⟨n, y⟩ := p
              obtain ⟨k', e, rfl, _, he, _, hek⟩ := hres
              have hkk := hks e.key hek w
              simp [Instr.mapUpdate, run_und hd, run_getObj hcb, hck, hfk, he, hkk, run_setObj hcb]
          · intro n y hn; subst hn
            obtain ⟨k', e, _, he, _⟩ := hres
            exact (List.getElem?_eq_some_iff.1 he).1
      rcases hw with ⟨hf, rfl⟩ | ⟨i, v, v', hf, hle, rfl, rfl⟩
      · cases hs
        obtain ⟨L, en, clk, hL, hcb, hbn, hent, hrun, _⟩ := go _ hf
        refine map_set hr hL hob hcb (en.push { key := vk, val := vx, born := clk }) (clk + 1) ⟨by simp [std]; simpa using hent.1, fun i a c hi => ?_⟩ (hbn.push _ _) new .bot undef (fun _ _ _ => .bot _) (by simp only [seqUnit, Sem.run_bind, hrun, Result.andThen_ok, Sem.run_pure])
        simp only [std] at hi
        rw [List.getElem?_append] at hi
        simp only [Array.toList_push]
        rw [List.getElem?_append, hent.1]
        split at hi
        · rename_i hlt; rw [if_pos hlt]; exact hent.2 i a c hi
        · rename_i hge
          rw [if_neg hge]
          have : i - es.length = 0 := by
            cases hq : i - es.length with
            | zero => rfl
            | succ n => rw [hq] at hi; simp at hi
          rw [this] at hi ⊢
          simp at hi; obtain ⟨rfl, rfl⟩ := hi
          exact ⟨_, rfl, hkd, hx⟩
      · cases hs
        obtain ⟨L, en, clk, hL, hcb, hbn, hent, hrun, hlt⟩ := go _ hf
        have hlt := hlt i v rfl
        refine map_set hr hL hob hcb (en.modify i fun e => { key := vk, val := vx, born := e.born }) clk ⟨by simp [std]; simpa using hent.1, fun j a c hj => ?_⟩ (hbn.modify _ _ _) new .bot undef (fun _ _ _ => .bot _) (by simp only [seqUnit, Sem.run_bind, hrun, Result.andThen_ok, Sem.run_pure])
        simp only [std, Int.toNat_natCast, List.getElem?_set] at hj
        simp only [Array.getElem?_toList, Array.getElem?_modify]
        split at hj
        · rename_i hij; subst hij
          first | rw [if_pos hlt] at hj | skip
          cases hj
          have : i < en.size := by rw [← Array.length_toList, hent.1]; exact hlt
          simp only [if_true, Array.getElem?_eq_getElem this, Option.map_some]
          exact ⟨_, rfl, hkd, hx⟩
        · rename_i hij
          rw [if_neg hij]
          simpa using hent.2 j a c hj
    · cases hs
  · cases hs
theorem stepDelete_ok {T : TypeId} {ti : TI} (ht : TIok P T ti) (hr : HeapRel P ρ h w) {new : Nat} {m k : AV} {vm vk : Value} (hm : VRel ρ (ownB ρ h) w m vm) (hk : VRel ρ (ownB ρ h) w k vk) {q : Bool} {r : List D} (hw : MWant q r (findM std ti h m k)) {res : Res} {ts : Array TypeId} {ty : TypeId} (hts : ts[0]? = some T)
    (hs : stepDelete std ti h q r m = some res) : RunOk P ρ h w new (Builtin.delete_ ts ty #[vm, vk]) res := by
  have unit : ∀ ρ O w, VRel ρ O w (.tuple []) (.tuple #[]) := fun _ _ _ => .tuple [] #[] rfl (fun i x hx => by simp at hx)
  unfold stepDelete at hs
  split at hs
  · rename_i ks ka ez id hdesc
    split at hs
    · rename_i es hob
      have go : ∀ fr, findM std ti h (.map id) k = some fr → ∃ (L : Loc) (en : Array MapEntry) (clk : Nat), ρ id = some L ∧ w.heap[L.blk]? = some (.map en clk) ∧ BornOk en clk ∧ EntRel (ownB ρ h) w es en.toList ∧
          (Builtin.delete_ ts ty #[vm, vk]).run P w = .ok (.tuple #[]) (World.setObj w L.blk (match fr with | none => .map en clk | some (n, _) => .map (en.eraseIdxIfInBounds n) clk)) := by
        intro fr hfr
        obtain ⟨K, E, ks, ka, ez, hd, _, hz, _, hck, hks, hcase⟩ := findM_ok ht hr hm hk hfr
        rcases hcase with ⟨rfl, rfl, hfk⟩ | ⟨id', L, es', en, clk, e1, rfl, hL, hob', hcb, hent, rr, hfk, hres⟩
        · cases hm
        · cases e1
          rw [hob] at hob'; cases hob'
          refine ⟨L, en, clk, hL, hcb, hr.born hL hob hcb, hent, ?_⟩
          cases fr with
          | none =>
            simp only [FindRes] at hres; subst hres
            simp [Builtin.delete_, hts, run_und hd, run_getObj hcb, hck, hfk, run_setObj hcb]
          | some p =>
            obtain ⟨n, y⟩ := p
            obtain ⟨k', e, rfl, _, he, _, hek⟩ := hres
            simp [Builtin.delete_, hts, run_und hd, run_getObj hcb, hck, hfk, run_setObj hcb]
      rcases hw with ⟨hf, rfl⟩ | ⟨i, v, v', hf, hle, rfl, rfl⟩
      · cases hs
        obtain ⟨L, en, clk, hL, hcb, hbn, hent, hrun⟩ := go _ hf
        exact map_set hr hL hob hcb _ _ hent hbn new _ _ unit hrun
      · cases hs
        obtain ⟨L, en, clk, hL, hcb, hbn, hent, hrun⟩ := go _ hf
        have e1 : (en.eraseIdxIfInBounds i).toList = en.toList.eraseIdx i := by
          unfold Array.eraseIdxIfInBounds
          split
          · simp
          · rename_i hge; rw [List.eraseIdx_of_length_le (by simpa using hge)]
        refine map_set hr hL hob hcb _ _ ⟨?_, fun j a c hj => ?_⟩ (hbn.erase _) new _ _ unit hrun
        · simp only [std, Int.toNat_natCast, e1, List.length_eraseIdx, hent.1]
        · rw [e1]
          simp only [std, Int.toNat_natCast, List.getElem?_eraseIdx] at hj ⊢
          split at hj
          · rename_i hlt; rw [if_pos hlt]; exact hent.2 _ a c hj
          · rename_i hlt; rw [if_neg hlt]; exact hent.2 _ a c hj
    · cases hs
  · cases hs
theorem stepMakeMap_ok {T : TypeId} (hr : HeapRel P ρ h w) {new : Nat} (hn : ρ new = none) {x : Option AV} {v : Option Value} (hxv : x = none → v = none) {res : Res} (hs : stepMakeMap new x = some res) : RunOk P ρ h w new (Instr.makeMap T v) res := by
  unfold stepMakeMap at hs
  split at hs
  · cases hs
    rw [hxv rfl]
    have hrun : (Instr.makeMap T none).run P w = .ok (.map (some w.heap.size)) (World.push w (.map #[] 0)) := by
      simp [Instr.makeMap, newObj, Sem.run, World.push]
    have hnew := hr.new hn 0 (.map []) (.map #[] 0) ⟨#[], 0, push_new _ _, ⟨rfl, BornOk.empty _⟩, by simp⟩
    exact ⟨_, _, _, hrun, .map _ _ (Rho.put_same _ _ _), hnew, Ext.new hr hn _ _ _ rfl, .inr ⟨_, List.mem_singleton.2 rfl⟩⟩
  · cases hs
end
end Go.Am
end

section
set_option linter.unusedVariables false
set_option linter.unusedSimpArgs false
namespace Go.Am
section
variable {P : Program} {ρ : Rho} {h : List AO} {w : World}
theorem setObj_self {b : Nat} {o : Obj} (hb : w.heap[b]? = some o) : World.setObj w b o = w := by
  obtain ⟨hlt, he⟩ := Array.getElem?_eq_some_iff.1 hb
  unfold World.setObj
  have : w.heap.setIfInBounds b o = w.heap := by
    apply Array.ext'
    rw [Array.toList_setIfInBounds]
    apply List.ext_getElem?
    intro i
    rw [List.getElem?_set]
    split
    · rename_i hi; subst hi
      simp [hlt, he]
    · rfl
  rw [this]
theorem nthA_putA_self {id : Nat} {o : AO} (ho : nthA h id = o) (j : Nat) : nthA (putA h id o) j = nthA h j := by
  by_cases hj : id = j
  · subst hj; rw [nthA_putA_same, ho]
  · exact nthA_putA_ne _ _ _ _ hj
theorem ownB_self {id : Nat} {o : AO} (ho : nthA h id = o) : ownB ρ (putA h id o) = ownB ρ h := by
  funext b; unfold ownB; simp only [nthA_putA_self ho]
theorem HeapRel.ext0 (hr : HeapRel P ρ h w) {id : Nat} {o : AO} (ho : nthA h id = o) : HeapRel P ρ (putA h id o) w := by
  refine ⟨fun j L hL => ?_, fun i i' L L' h1 h2 l1 l2 => hr.inj i i' L L' h1 h2 (by rw [← nthA_putA_self ho]; exact l1) (by rw [← nthA_putA_self ho]; exact l2), hr.fr, fun i L hL hl => hr.sep i L hL (by rw [← nthA_putA_self ho]; exact hl)⟩
  have := hr.obj j L hL
  rw [ownB_self ho, nthA_putA_self ho]
  exact this
theorem ext0 {S : Nat → Prop} {id : Nat} {o : AO} (ho : nthA h id = o) : Ext S ρ h w ρ (putA h id o) w :=
  ⟨rfl, rfl, rfl, by rw [ownB_self ho]; exact Keep.refl _ _, fun _ _ => rfl, rfl, fun _ _ => rfl⟩
theorem toAA_splice (es xs : List (List D)) (i : Nat) : toAA (es.take i ++ xs ++ es.drop (i + xs.length)) = spliceA (toAA es) i (toAA xs) := by
  simp [spliceA, toAA_map, List.map_take, List.map_drop]
theorem stepCopy_ok {T : TypeId} {ti : TI} (ht : TIok P T ti) (hr : HeapRel P ρ h w) {new : Nat} {d s : AV} {vd vs : Value} (hd : VRel ρ (ownB ρ h) w d vd) (hs : VRel ρ (ownB ρ h) w s vs) {ts : Array TypeId} {ty : TypeId} (hts : ts[0]? = some T) {res : Res}
    (hst : stepCopy std ti h d s = some res) (hc : res.c = true) : RunOk P ρ h w new (Builtin.copy_ ts ty #[vd, vs]) res := by
  obtain ⟨dd, hdd, hda, hk⟩ := ht.desc
  unfold stepCopy at hst
  split at hst
  · rename_i e z eb ea ez hdesc
    rw [hdesc] at hk
    obtain ⟨rfl, hsz, _⟩ := hk
    cases hz : Nat.ble 1 z with
    | false => rw [hz] at hst; cases hst
    | true =>
    rw [hz] at hst; simp only [cond_true] at hst
    have hzp : 0 < z := Nat.le_of_ble_eq_true hz
    split at hst
    · rename_i c xs id z' off len cap hels
      cases hb : Nat.beq z z' with
      | false => rw [hb] at hst; cases hst
      | true =>
      rw [hb] at hst; simp only [cond_true] at hst
      have hzz := Nat.eq_of_beq_eq_true hb
      subst hzz
      split at hst
      · rename_i es hob
        cases hst
        simp only at hc
        obtain ⟨h1, hc⟩ := and_true hc
        obtain ⟨h2, h3⟩ := and_true hc
        obtain ⟨a2, m, capx, cxs, rfl, hm, hmc, hxl, hxr, hxf⟩ := els_ok (P := P) hr hzp hs hels h1
        rw [← hm] at h2 ⊢
        have h2 : m ≤ len := leN_le h2
        have h3 : off + len ≤ es.length := leN_le h3
        have hcx : cxs.length = m * z := by rw [hxr.1, hxl]
        cases hd with
        | nils _ _ _ _ a hcc =>
          have : m = 0 := by omega
          subst this
          have hcx0 : cxs = [] := by simpa using hcx
          subst hcx0
          have hx0 : xs = [] := by
            have : xs.length = 0 := by rw [← toAA_length]; exact hxl
            simpa using this
          subst hx0
          have hrun : (Builtin.copy_ ts ty #[.slice a 0 0, .slice a2 0 capx]).run P w = .ok (.int .i64 0) w := by
            have := hxf w rfl
            cases a <;> simp [Builtin.copy_, hts, run_und hdd, Builtin.lenOf, run_size hsz, this, storeCells, goInt]
          have hsame : (std.splice es off []) = es := by simp [std]
          rw [hsame]
          refine ⟨_, w, ρ, hrun, .d (.int _ _), ?_, ?_, .inl rfl⟩
          · exact hr.ext0 hob
          · exact ext0 hob
        | slice _ _ _ _ _ L a cp hL hLz haa hcc hle =>
          obtain ⟨_, hobj⟩ := hr.obj id L hL
          have hE : (nthA h id).rows = some (toAA es) := by rw [hob]; rfl
          obtain ⟨_, cc, t, hcb, hl, hj⟩ := hobj.rows hE
          rw [hLz] at hl hj
          have hlive : (nthA h id).live = true := by rw [hob]; rfl
          by_cases hm0 : m = 0
          · subst hm0
            have hcx0 : cxs = [] := by simpa using hcx
            subst hcx0
            have hx0 : xs = [] := by
              have : xs.length = 0 := by rw [← toAA_length]; exact hxl
              simpa using this
            subst hx0
            have hrun : (Builtin.copy_ ts ty #[.slice a len cp, .slice a2 0 capx]).run P w = .ok (.int .i64 0) w := by
              have := hxf w rfl
              cases a <;> simp [Builtin.copy_, hts, run_und hdd, Builtin.lenOf, run_size hsz, this, storeCells, goInt]
            have hsame : (std.splice es off []) = es := by simp [std]
            rw [hsame]
            exact ⟨_, w, ρ, hrun, .d (.int _ _), hr.ext0 hob, ext0 hob, .inl rfl⟩
          · have hElast : L.base + es.length * z ≤ cc.size := by
              have hlt : es.length - 1 < (toAA es).length := by rw [toAA_length]; omega
              have hrl := hl _ _ (List.getElem?_eq_getElem hlt)
              have hy : z - 1 < ((toAA es)[es.length - 1]).length := by omega
              obtain ⟨v, hv, _, _⟩ := hj _ _ _ _ (List.getElem?_eq_getElem hlt) (List.getElem?_eq_getElem hy)
              have := (Array.getElem?_eq_some_iff.1 hv).1
              have e : es.length * z = (es.length - 1) * z + z := by
                rw [← Nat.succ_mul]; congr 1; omega
              omega
            have hmul2 : (off + m) * z ≤ es.length * z := Nat.mul_le_mul_right _ (by omega)
            have hmul3 : (off + m) * z = off * z + m * z := Nat.add_mul _ _ _
            rw [haa (by omega), hLz]
            have hrun : (Builtin.copy_ ts ty #[.slice (some ⟨L.blk, L.base + off * z, none⟩) len cp, .slice a2 m capx]).run P w = .ok (.int .i64 m) (World.setObj w L.blk (.cells (cc.toList.take (L.base + off * z) ++ cxs ++ cc.toList.drop (L.base + off * z + cxs.length)).toArray t (0, 0))) := by
              have hst := run_storeCells_at (P := P) L.blk (L.base + off * z) t cxs 0 cc w hcb (by simp; omega) (rows_one hzp hxr)
              rw [World_setRow hcb] at hst
              simp only [Nat.add_zero] at hst
              have hmin : Nat.min m len = m := Nat.min_eq_left h2
              simp [Builtin.copy_, hts, run_und hdd, Builtin.lenOf, run_size hsz, hmin, hxf w rfl, hst, goInt]
            have hbs : ∀ k, bsize w L.blk = some k → bsize (World.setObj w L.blk (.cells (cc.toList.take (L.base + off * z) ++ cxs ++ cc.toList.drop (L.base + off * z + cxs.length)).toArray t (0, 0))) L.blk = some k := by
              intro k hk
              rw [bsize_cells hcb] at hk; cases hk
              rw [bsize_cells (setObj_same _ _ _ (Array.getElem?_eq_some_iff.1 hcb).1)]
              congr 1
              simp; omega
            have hkp := keep_setObj hr hL hlive (.row (std.splice es off xs)) rfl _ hbs
            have hxl' : (toAA xs).length = m := hxl
            obtain ⟨r1, r2⟩ := rows_splice (w := w) hzp (base := L.base) (c := cc) (i := off) hl hj hxr (by show off + (toAA xs).length ≤ (toAA es).length; rw [toAA_length, toAA_length]; rw [toAA_length] at hxl'; omega) (by omega)
            have hrow' : (AO.row (std.splice es off xs)).rows = some (spliceA (toAA es) off (toAA xs)) := by
              show some (toAA _) = _; rw [← toAA_splice]; rfl
            refine ⟨_, _, ρ, hrun, .d (.int _ _), hr.set hL hlive _ rfl _ hbs ?_, Ext.set _ hr hL hlive _ rfl _ hbs, .inl rfl⟩
            refine ObjRel.of_rows hrow' (by omega) _ t (setObj_same _ _ _ (Array.getElem?_eq_some_iff.1 hcb).1) (by rw [hLz]; exact r1) (fun i r j y hi hy => ?_)
            rw [hLz]
            obtain ⟨v, hv, hv1, hvr⟩ := r2 i r j y hi hy
            exact ⟨v, hv, hv1, hvr.keep hkp (fun _ _ h => h)⟩
      · cases hst
    · rename_i c xs full z' hels
      cases hst
      obtain ⟨a2, m, capx, cxs, rfl, hm, hmc, hxl, hxr, hxf⟩ := els_ok (P := P) hr hzp hs hels hc
      cases hd with | d hd =>
      cases hd with
      | lnil _ _ a cap hcap =>
        have hf : ∃ c0 : Array Value, (Builtin.firstCells z 0 (.slice a2 m capx)).run P w = .ok #[] w := by
          cases a2 <;> exact ⟨#[], by simp [Builtin.firstCells, loadCells, loadCellsFrom]⟩
        obtain ⟨_, hf⟩ := hf
        have hrun : (Builtin.copy_ ts ty #[.slice a 0 cap, .slice a2 m capx]).run P w = .ok (.int .i64 0) w := by
          have hmin : Nat.min m 0 = 0 := Nat.min_zero m
          cases a <;> simp [Builtin.copy_, hts, run_und hdd, Builtin.lenOf, run_size hsz, hmin, hf, storeCells, goInt]
        exact RunOk.pure hr hrun (.d (.int _ _))
      | list _ _ _ _ _ _ _ hne => exact absurd rfl hne
    · cases hst
  · cases hst
end
end Go.Am
end

section
set_option linter.unusedVariables false
set_option linter.unusedSimpArgs false
namespace Go.Am
section
variable {P : Program} {T : TypeId → Option TI} {ρ : Rho} {h : List AO} {w : World}
def EnvRel (ρ : Rho) (O : Nat → Prop) (w : World) (env : List (Nat × AV)) (tm : Array Value) : Prop := ∀ t, VRel ρ O w (getE env t) (tm.getD t undef)
def opv (tm : Array Value) : Operand → Value
  | .tmp t => tm.getD t undef
  | .const v => v
  | .global g => .pointer (some ⟨g, 0, none⟩)
  | .func f => .func (.func f) #[] #[]
theorem evalA_rel {O : Nat → Prop} {env : List (Nat × AV)} {tm : Array Value} (he : EnvRel ρ O w env tm) (x : Operand) : VRel ρ O w (evalA env x) (opv tm x) := by
  cases x with
  | tmp t => exact he t
  | const v =>
    simp only [evalA]
    split
    · exact .d (dOfC_rel ‹_› O w)
    · exact .bot _
  | global g => exact .bot _
  | func f => exact .clo _ _ _ #[] #[] rfl rfl (by simp) (by simp)
theorem evalL_rel {O : Nat → Prop} {env : List (Nat × AV)} {tm : Array Value} (he : EnvRel ρ O w env tm) (l : Array Operand) :
    (l.map (opv tm)).size = (evalL env l.toList).length ∧ ∀ (i : Nat) (x : AV), (evalL env l.toList)[i]? = some x → VRel ρ O w x ((l.map (opv tm)).getD i undef) := by
  rw [evalL_eq]
  refine ⟨by simp, fun i x hx => ?_⟩
  have hi : i < l.size := by simpa using (List.getElem?_eq_some_iff.1 hx).1
  simp [hi] at hx
  subst hx
  have : (l.map (opv tm)).getD i undef = opv tm l[i] := by simp [Array.getD_eq_getD_getElem?, hi]
  rw [this]
  exact evalA_rel he _
theorem evalP_eq (env : List (Nat × AV)) (l : List (Nat × Operand)) : evalP env l = l.map fun x => (x.1, evalA env x.2) := by
  induction l with
  | nil => rfl
  | cons x l ih => obtain ⟨i, x⟩ := x; simp [evalP, ih]
theorem evalP_rel {O : Nat → Prop} {env : List (Nat × AV)} {tm : Array Value} (he : EnvRel ρ O w env tm) (l : Array (Nat × Operand)) : PartsRel ρ O w (evalP env l.toList) (l.map fun x => (x.1, opv tm x.2)).toList := by
  rw [evalP_eq]
  refine ⟨by simp, fun k x y hx hy => ?_⟩
  have hk : k < l.size := by simpa using (List.getElem?_eq_some_iff.1 hx).1
  simp [hk] at hx hy
  subst hx; subst hy
  exact ⟨rfl, evalA_rel he _⟩
theorem evalO_rel {O : Nat → Prop} {env : List (Nat × AV)} {tm : Array Value} (he : EnvRel ρ O w env tm) (x : Option Operand) : OptRel ρ O w (evalO env x) (x.map (opv tm)) := by
  cases x with
  | none => trivial
  | some x => exact evalA_rel he x
def ExecOk (P : Program) (ρ : Rho) (h : List AO) (w : World) (new : Nat) (s : Sem Next) (r : Res) : Prop :=
  ∃ v w' ρ', (s.run P w = .ok (.value v) w' ∨ (s.run P w = .ok .skip w' ∧ v = undef)) ∧ VRel ρ' (ownB ρ' (applyU h r.u)) w' r.v v ∧ HeapRel P ρ' (applyU h r.u) w' ∧
    Ext (fun id => id ≠ new) ρ h w ρ' (applyU h r.u) w' ∧ (ρ' = ρ ∨ ∃ o, (new, o) ∈ r.u)
theorem RunOk.value {new : Nat} {s : Sem Value} {r : Res} (h1 : RunOk P ρ h w new s r) : ExecOk P ρ h w new (do Pure.pure (Next.value (← s))) r := by
  obtain ⟨v, w', ρ', hs, h2⟩ := h1
  exact ⟨v, w', ρ', .inl (by simp [hs]), h2⟩
theorem RunOk.skip {new : Nat} {s : Sem Unit} {r : Res} (h1 : RunOk P ρ h w new (seqUnit s) r) : ExecOk P ρ h w new (do s; Pure.pure Next.skip) r := by
  obtain ⟨v, w', ρ', hs, h2⟩ := h1
  unfold seqUnit at hs
  simp only [Sem.run_bind] at hs
  cases hr : s.run P w with
  | ok u w1 =>
    rw [hr] at hs; simp at hs
    obtain ⟨rfl, rfl⟩ := hs
    exact ⟨_, _, ρ', .inr ⟨by simp [hr], rfl⟩, h2⟩
  | halt x w1 => rw [hr] at hs; simp at hs
theorem ok_eq {v : AV} {r : Res} (h : ok v = some r) : r = ⟨true, v, []⟩ := by unfold ok at h; cases h; rfl
theorem pOf_std (i : Operand) : pOf std i = std := by cases i <;> rfl
theorem unref_rel {O : Nat → Prop} {x : AV} {v : Value} (h : VRel ρ O w x v) : VRel ρ O w (unref x) v := by
  unfold unref
  split
  · cases h with
    | d h => cases h with
      | ref r b o hne hO cell hc hh =>
        have := VRel.lptr (ρ := ρ) (O := O) (w := w) _ 0 b o (cell_lt (hc 0 (List.length_pos_iff.2 hne))) hO cell hc hh
        exact this
  · exact h
theorem stepA_ok (hT : TabOk P T) (hr : HeapRel P ρ h w) {new : Nat} (hn : ρ new = none) {env : List (Nat × AV)} {tm : Array Value} (he : EnvRel ρ (ownB ρ h) w env tm) {q : Bool} {r : List D} {ra : List AV} {o : Oper} {res : Res}
    (hw : (wantA std T env h o.op).ok q r ra) (hs : stepA std T env h new q r ra o.op = some res) (hc : res.c = true) : ExecOk P ρ h w new (execOp (opv tm) o) res := by
  have rows : ∀ a, (wantPtr h a).ok q r ra → RowsOk h a r ra := by
    intro a ha
    cases a <;> try trivial
    rename_i id i off
    simp only [wantPtr] at ha
    simp only [RowsOk]
    refine ⟨fun es he => ?_, fun es he => ?_⟩
    · rw [he] at ha; exact ha
    · rw [he] at ha; exact ha
  unfold stepA at hs
  cases hop : o.op with
  | move x =>
    rw [hop] at hs; cases ok_eq hs
    exact ⟨_, w, ρ, .inl (by simp [execOp, hop]), evalA_rel he x, hr, Ext.refl _ _ _ _, .inl rfl⟩
  | assign x =>
    rw [hop] at hs; cases ok_eq hs
    exact ⟨_, w, ρ, .inl (by simp [execOp, hop]), evalA_rel he x, hr, Ext.refl _ _ _ _, .inl rfl⟩
  | pick c a b =>
    rw [hop] at hs; simp only at hs
    have h1 := evalA_rel he c
    unfold stepPick at hs
    split at hs
    · rename_i hcv; rw [hcv] at h1; cases ok_eq hs
      generalize hv : opv tm c = v at h1
      cases h1 with | d h1 =>
      cases h1
      exact ⟨_, w, ρ, .inl (by simp [execOp, hop, hv, asBool]), evalA_rel he a, hr, Ext.refl _ _ _ _, .inl rfl⟩
    · rename_i hcv; rw [hcv] at h1; cases ok_eq hs
      generalize hv : opv tm c = v at h1
      cases h1 with | d h1 =>
      cases h1
      exact ⟨_, w, ρ, .inl (by simp [execOp, hop, hv, asBool]), evalA_rel he b, hr, Ext.refl _ _ _ _, .inl rfl⟩
    · cases hs
  | alloc t =>
    rw [hop] at hs; simp only at hs
    split at hs
    · have := (stepAlloc_ok (hT _ _ ‹_›) hr hn hs).value
      simpa [execOp, hop] using this
    · cases hs
  | box t x =>
    rw [hop] at hs; simp only at hs
    split at hs
    · have := (stepBox_ok (hT _ _ ‹_›) hr hn (evalA_rel he x) hs).value
      simpa [execOp, hop] using this
    · cases hs
  | build t ps =>
    rw [hop] at hs; simp only at hs
    split at hs
    · have := (stepBuild_ok (new := new) (hT _ _ ‹_›) hr (evalP_rel he ps) hs).value
      simpa [execOp, hop] using this
    · cases hs
  | buildSlice t len ps =>
    rw [hop] at hs; simp only at hs
    split at hs
    · have := (stepBuildSlice_ok (hT _ _ ‹_›) hr hn (evalP_rel he ps) hs).value
      simpa [execOp, hop] using this
    · cases hs
  | load t a =>
    rw [hop] at hs hw; simp only [wantA] at hs hw
    split at hs
    · have := (stepLoad_ok (hT _ _ ‹_›) hr (unref_rel (evalA_rel he a)) (rows _ hw) hs new).value
      simpa [execOp, hop] using this
    · cases hs
  | store t a x =>
    rw [hop] at hs hw; simp only [wantA] at hs hw
    split at hs
    · have := (stepStore_ok (hT _ _ ‹_›) std rfl hr (evalA_rel he a) (evalA_rel he x) (rows _ hw) hs new).skip
      simpa [execOp, hop] using this
    · cases hs
  | nilCheck x =>
    rw [hop] at hs; simp only at hs
    have h1 := unref_rel (evalA_rel he x)
    unfold stepNil at hs
    split at hs <;> (try (cases hs; done)) <;> rename_i hx <;> rw [hx] at h1 <;> cases ok_eq hs <;> generalize hv : opv tm x = v at h1
    · have h2 := h1
      cases h1 with | bptr _ _ L hL => exact ⟨_, w, ρ, .inl (by simp [execOp, hop, hv]), h2, hr, Ext.refl _ _ _ _, .inl rfl⟩
    · have h2 := h1
      cases h1 with | ptr _ _ _ L hL => exact ⟨_, w, ρ, .inl (by simp [execOp, hop, hv]), h2, hr, Ext.refl _ _ _ _, .inl rfl⟩
    · have h2 := h1
      cases h1 with | lptr _ _ b o hlt hO cell hcc hrr => exact ⟨_, w, ρ, .inl (by simp [execOp, hop, hv]), h2, hr, Ext.refl _ _ _ _, .inl rfl⟩
  | binOp op t x y t2 =>
    rw [hop] at hs; simp only at hs
    split at hs
    · have := (stepBin_ok (new := new) (hT _ _ ‹_›) hr x y (evalA_rel he x) (evalA_rel he y) hs hc).value
      simpa [execOp, hop] using this
    · cases hs
  | unOp op t x =>
    rw [hop] at hs; simp only at hs
    have := (stepUn_ok (P := P) (new := new) hr (evalA_rel he x) hs).value
    simpa [execOp, hop] using this
  | convert s t x =>
    rw [hop] at hs; simp only at hs
    split at hs
    · have := (stepConvert_ok (new := new) (hT _ _ ‹_›) (hT _ _ ‹_›) hr (evalA_rel he x) hs).value
      simpa [execOp, hop] using this
    · cases hs
  | makeFunc fn f c =>
    rw [hop] at hs; cases ok_eq hs
    obtain ⟨f1, f2⟩ := evalL_rel he f
    obtain ⟨c1, c2⟩ := evalL_rel he c
    exact ⟨_, w, ρ, .inl (by simp [execOp, hop, Instr.makeFunc]), .clo _ _ _ _ _ f1 c1 f2 c2, hr, Ext.refl _ _ _ _, .inl rfl⟩
  | makeSlice t l c =>
    rw [hop] at hs; simp only at hs
    split at hs
    · have := (stepMakeSlice_ok (hT _ _ ‹_›) hr hn (evalA_rel he l) (evalA_rel he c) hs hc).value
      simpa [execOp, hop] using this
    · cases hs
  | slice t x lo hi mx =>
    rw [hop] at hs; simp only at hs
    split at hs
    · have := (stepSlice_ok (new := new) (hT _ _ ‹_›) hr (evalA_rel he x) (evalO_rel he lo) (evalO_rel he hi) (evalO_rel he mx) hs hc).value
      simpa [execOp, hop] using this
    · cases hs
  | fieldAddr t x f =>
    rw [hop] at hs; simp only at hs
    split at hs
    · have := (stepField_ok (new := new) (hT _ _ ‹_›) hr (unref_rel (evalA_rel he x)) hs).value
      simpa [execOp, hop] using this
    · cases hs
  | field t x f =>
    rw [hop] at hs; simp only at hs
    split at hs
    · have := (stepFieldVal_ok (new := new) (hT _ _ ‹_›) hr (evalA_rel he x) hs).value
      simpa [execOp, hop] using this
    · cases hs
  | indexAddr t x i =>
    rw [hop] at hs hw; simp only [wantA, pOf_std] at hs hw
    split at hs
    · have := (stepIndexAddr_ok (new := new) (hT _ _ ‹_›) hr (evalA_rel he x) (evalA_rel he i) (fun full z es k n e1 e2 => by rw [e1, e2] at hw; exact hw) hs hc).value
      simpa [execOp, hop] using this
    · cases hs
  | index t x i =>
    rw [hop] at hs; simp only [pOf_std] at hs
    split at hs
    · have := (stepIndexVal_ok (new := new) (hT _ _ ‹_›) hr (evalA_rel he x) (evalA_rel he i) hs hc).value
      simpa [execOp, hop] using this
    · cases hs
  | extract x i =>
    rw [hop] at hs; simp only at hs
    have h1 := evalA_rel he x
    unfold stepExtract at hs
    split at hs
    · rename_i vs hx
      rw [hx] at h1
      obtain ⟨y, hy, rfl⟩ := bind_ok hs
      rw [nthL_spec] at hy
      generalize hv : opv tm x = v at h1
      cases h1 with
      | tuple _ vv hl hh =>
        have hi : i < vv.size := by rw [hl]; exact (List.getElem?_eq_some_iff.1 hy).1
        have h2 := hh i y hy
        rw [getD_of (Array.getElem?_eq_getElem hi)] at h2
        exact ⟨_, w, ρ, .inl (by simp [execOp, hop, hv, Instr.extract, hi]), h2, hr, Ext.refl _ _ _ _, .inl rfl⟩
    · cases hs
  | call c =>
    obtain ⟨callee, args, ts⟩ := c
    cases callee <;> rw [hop] at hs <;> (try (cases hs; done))
    rename_i b
    simp only at hs
    obtain ⟨a1, a2⟩ := evalL_rel he args
    have exec : ∀ (s : Sem Value), (∀ cs, builtin b ts o.type cs (args.map (opv tm)) = (do pure (Next.value (← s)))) → execOp (opv tm) o = (do pure (Next.value (← s))) := by
      intro s hsb
      simp [execOp, hop, resolve, invoke, hsb]
    have arg : ∀ (i : Nat) (x : AV) (hi : i < args.size), (evalL env args.toList)[i]? = some x → VRel ρ (ownB ρ h) w x (opv tm args[i]) := by
      intro i x hi hx
      have := a2 i x hx
      rwa [show (args.map (opv tm)).getD i undef = opv tm args[i] by simp [Array.getD_eq_getD_getElem?, hi]] at this
    unfold stepBuiltin at hs
    split at hs
    ·
      rename_i t x e2 e3
      split at hs
      · rename_i ti hti
        have hsz : args.size = 1 := by have := congrArg List.length e3; rw [evalL_eq] at this; simpa using this
        have hx := arg 0 x (by omega) (by rw [e3]; rfl)
        have hts : ts = #[t] := by apply Array.ext'; rw [e2]
        have hav : args.map (opv tm) = #[opv tm args[0]] := by
          apply Array.ext'
          apply List.ext_getElem?
          intro i
          cases i with
          | zero => simp [hsz]
          | succ i => simp; omega
        rw [exec (Builtin.len_ ts o.type (args.map (opv tm))) (fun cs => rfl)]
        have := lenA_ok (hT _ _ hti) hr (new := new) (ty := o.type) hx hs
        rw [hts, hav]
        exact this.value
      · cases hs
    ·
      rename_i t t2 s x e2 e3
      split at hs
      · rename_i ti ti2 hti hti2
        split at hs
        · rename_i e z eb ea ez hdesc
          have hsz : args.size = 2 := by have := congrArg List.length e3; rw [evalL_eq] at this; simpa using this
          have hx := arg 0 s (by omega) (by rw [e3]; rfl)
          have hy := arg 1 x (by omega) (by rw [e3]; rfl)
          have hts : ts = #[t, t2] := by apply Array.ext'; rw [e2]
          have hav : args.map (opv tm) = #[opv tm args[0], opv tm args[1]] := by
            apply Array.ext'
            apply List.ext_getElem?
            intro i
            match i with
            | 0 => simp [hsz]
            | 1 => simp [hsz]
            | i + 2 => simp; omega
          rw [exec (Builtin.append_ ts o.type (args.map (opv tm))) (fun cs => rfl)]
          rw [hop] at hw
          simp only [wantA] at hw
          rw [e3] at hw
          simp only at hw
          have := stepAppend_ok (hT _ _ hti) (hT _ _ hti2) ⟨_, _, _, _, _, hdesc⟩ hr hn hx hy (ty := o.type) (q := q) (fun b hb => by rw [hb] at hw; exact hw) hs hc
          rw [hts, hav]
          exact this.value
        · cases hs
      · cases hs
    ·
      rename_i t tl d x e2 e3
      split at hs
      · rename_i ti hti
        have hsz : args.size = 2 := by have := congrArg List.length e3; rw [evalL_eq] at this; simpa using this
        have hx := arg 0 d (by omega) (by rw [e3]; rfl)
        have hy := arg 1 x (by omega) (by rw [e3]; rfl)
        have hav : args.map (opv tm) = #[opv tm args[0], opv tm args[1]] := by
          apply Array.ext'
          apply List.ext_getElem?
          intro i
          match i with
          | 0 => simp [hsz]
          | 1 => simp [hsz]
          | i + 2 => simp; omega
        rw [exec (Builtin.copy_ ts o.type (args.map (opv tm))) (fun cs => rfl)]
        have hts : ts[0]? = some t := by rw [← Array.getElem?_toList, e2]; rfl
        have := stepCopy_ok (hT _ _ hti) hr (new := new) (ty := o.type) hx hy hts hs hc
        rw [hav]
        exact this.value
      · cases hs
    ·
      rename_i t tl m k e2 e3
      split at hs
      · rename_i ti hti
        have hsz : args.size = 2 := by have := congrArg List.length e3; rw [evalL_eq] at this; simpa using this
        have hx := arg 0 m (by omega) (by rw [e3]; rfl)
        have hy := arg 1 k (by omega) (by rw [e3]; rfl)
        have hav : args.map (opv tm) = #[opv tm args[0], opv tm args[1]] := by
          apply Array.ext'
          apply List.ext_getElem?
          intro i
          match i with
          | 0 => simp [hsz]
          | 1 => simp [hsz]
          | i + 2 => simp; omega
        rw [exec (Builtin.delete_ ts o.type (args.map (opv tm))) (fun cs => rfl)]
        have hts : ts[0]? = some t := by rw [← Array.getElem?_toList, e2]; rfl
        rw [hop] at hw
        simp only [wantA, e2, e3, wantM, hti] at hw
        have := stepDelete_ok (hT _ _ hti) hr (new := new) (ty := o.type) hx hy hw hts hs
        rw [hav]
        exact this.value
      · cases hs
    ·
      rw [exec (Builtin.min_ ts o.type (args.map (opv tm))) (fun cs => rfl)]
      have := stepMin_ok (P := P) (new := new) hr (.inl rfl) (vs := (args.map (opv tm)).toList) (by rw [Array.length_toList]; exact a1) (fun i x v hx hv => by
        have h1 := a2 i x hx
        have h2 : (args.map (opv tm))[i]? = some v := by simpa using hv
        rwa [getD_of h2] at h1) (a := ts) (t := o.type) hs
      rw [Array.toArray_toList, if_pos rfl] at this
      exact this.value
    ·
      rw [exec (Builtin.max_ ts o.type (args.map (opv tm))) (fun cs => rfl)]
      have := stepMin_ok (P := P) (new := new) hr (.inr rfl) (vs := (args.map (opv tm)).toList) (by rw [Array.length_toList]; exact a1) (fun i x v hx hv => by
        have h1 := a2 i x hx
        have h2 : (args.map (opv tm))[i]? = some v := by simpa using hv
        rwa [getD_of h2] at h1) (a := ts) (t := o.type) hs
      rw [Array.toArray_toList, if_neg (by decide)] at this
      exact this.value
    · cases hs
  | makeMap t n =>
    rw [hop] at hs; simp only at hs
    split at hs
    · have := (stepMakeMap_ok (P := P) (T := t) (new := new) hr hn (x := evalO env n) (v := n.map (opv tm)) (fun h => by cases n <;> simp [evalO] at h ⊢) hs).value
      simpa [execOp, hop] using this
    · cases hs
  | lookup t m k co =>
    rw [hop] at hs hw; simp only [wantA] at hs hw
    split at hs
    · rename_i ti hti
      split at hs
      · simp only [wantM, hti] at hw
        have := (stepLookup_ok (hT _ _ hti) (new := new) hr (evalA_rel he m) (evalA_rel he k) hw hs).value
        simpa [execOp, hop] using this
      · cases hs
    · cases hs
  | mapUpdate t m k x =>
    rw [hop] at hs hw; simp only [wantA] at hs hw
    split at hs
    · rename_i ti hti
      simp only [wantM, hti] at hw
      have := (stepUpdate_ok (hT _ _ hti) (new := new) hr (evalA_rel he m) (evalA_rel he k) (evalA_rel he x) hw hs).skip
      simpa [execOp, hop] using this
    · cases hs
  | _ => rw [hop] at hs; cases hs
end
end Go.Am
end

section
set_option linter.unusedVariables false
set_option linter.unusedSimpArgs false
namespace Go.Am
structure AS where
  env : List (Nat × AV)
  heap : List AO
  nt : Nat
inductive AX where
  | normal
  | exit (id : Nat)
  | ret
def Dom (ρ : Rho) (h : List AO) : Prop := ∀ id, ρ id ≠ none → id < h.length
structure StRel (P : Program) (ρ : Rho) (s : AS) (tm : Array Value) (w : World) : Prop where
  heap : HeapRel P ρ s.heap w
  env : EnvRel ρ (ownB ρ s.heap) w s.env tm
  size : tm.size = s.nt
  dom : Dom ρ s.heap
structure DefOk (rd : Option Nat) (B : Nat) (F : Nat → Prop) (w : World) (ds : List Deferred) : Prop where
  nodup : ds.Nodup
  mark : ∀ d ∈ ds, ∃ r, d = { target := .collected r, args := #[] } ∧ w.heap[r]? = some (.deferred (some [])) ∧ B ≤ r
  below : ∀ b, F b → b < B
  le : B ≤ w.heap.size
  round : ∀ l, rd = some l → F l ∧ ∃ r, w.heap[l]? = some (.loop r)
theorem own_kind {P : Program} {ρ : Rho} {h : List AO} {w : World} (hr : HeapRel P ρ h w) {b : Nat} (hf : ¬ ρ.fr b) (hb : ownB ρ h b) : w.heap[b]? ≠ some (.deferred (some [])) := by
  rcases hb with hb | ⟨id, L, hL, hl, rfl⟩
  · exact absurd hb hf
  obtain ⟨_, ho⟩ := hr.obj id L hL
  cases hn : nthA h id with
  | dead => rw [hn] at hl; cases hl
  | box _ => rw [hn] at ho; obtain ⟨c, t, hc, _⟩ := ho; rw [hc]; simp
  | row _ => rw [hn] at ho; obtain ⟨_, c, t, hc, _⟩ := ho; rw [hc]; simp
  | arow _ => rw [hn] at ho; obtain ⟨_, c, t, hc, _⟩ := ho; rw [hc]; simp
  | map _ => rw [hn] at ho; obtain ⟨c, t, hc, _⟩ := ho; rw [hc]; simp
  | loop => rw [hn] at ho; obtain ⟨_, _, _, _, _, c, t, _, hc, _⟩ := ho; rw [hc]; simp
theorem DefOk.keep {P : Program} {S : Nat → Prop} {ρ ρ' : Rho} {h h' : List AO} {w w' : World} {rd : Option Nat} {B : Nat} {ds : List Deferred} (hr : HeapRel P ρ h w) (x : Ext S ρ h w ρ' h' w') (hd : DefOk rd B ρ.fr w ds) : DefOk rd B ρ'.fr w' ds := by
  refine ⟨hd.nodup, fun d hm => ?_, by rw [x.fr]; exact hd.below, Nat.le_trans hd.le x.keep.size, fun l hl => by
    obtain ⟨h1, r, h2⟩ := hd.round l hl
    exact ⟨by rw [x.fr]; exact h1, r, by rw [x.frs l h1]; exact h2⟩⟩
  obtain ⟨r, e, hr', hb⟩ := hd.mark d hm
  have hf : ¬ ρ.fr r := fun hf => by have := hd.below r hf; omega
  refine ⟨r, e, ?_, hb⟩
  rw [x.keep.frame r (Array.getElem?_eq_some_iff.1 hr').1 (fun ho => own_kind hr hf ho hr')]
  exact hr'
def _root_.Go.Frame.on (b : Frame) (tm : Array Value) (ds : List Deferred) (todo : List Item) : Frame := { b with tmps := tm, defers := ds, todo := todo, mode := .run }
theorem eval_on (b : Frame) (tm : Array Value) (ds : List Deferred) (todo : List Item) : (b.on tm ds todo).eval = opv tm := by
  funext x; cases x <;> rfl
section steps
variable {P : Program} {b : Frame} {tm : Array Value} {ds : List Deferred} {k : List Item} {cs : List Frame} {w : World}
theorem st_skip : step P (lone (b.on tm ds (.code .skip :: k)) cs w) = .next (lone (b.on tm ds k) cs w) := step_lone_go (by simp [stepG, stepG.exec, Frame.on])
theorem st_label {l : Nat} : step P (lone (b.on tm ds (.code (.label l) :: k)) cs w) = .next (lone (b.on tm ds k) cs w) := step_lone_go (by simp [stepG, stepG.exec, Frame.on])
theorem st_inBlock {id : Nat} : step P (lone (b.on tm ds (.inBlock id :: k)) cs w) = .next (lone (b.on tm ds k) cs w) := step_lone_go (by simp [stepG, stepG.exec, Frame.on])
theorem st_inScope {c : Code} : step P (lone (b.on tm ds (.inScope c :: k)) cs w) = .next (lone (b.on tm ds k) cs w) := step_lone_go (by simp [stepG, stepG.exec, Frame.on])
theorem st_seq {x y : Code} : step P (lone (b.on tm ds (.code (.seq x y) :: k)) cs w) = .next (lone (b.on tm ds (.code x :: .code y :: k)) cs w) := step_lone_go (by simp [stepG, stepG.exec, Frame.on])
theorem st_cond {c : Operand} {x y : Code} {t : Bool} (h : opv tm c = .bool t) : step P (lone (b.on tm ds (.code (.cond c x y) :: k)) cs w) = .next (lone (b.on tm ds (.code (if t then x else y) :: k)) cs w) :=
  step_lone_go (by
    have := eval_on b tm ds (.code (.cond c x y) :: k)
    simp only [Frame.on] at this
    simp [stepG, stepG.exec, Frame.on, this, h])
theorem st_block {id : Nat} {c : Code} : step P (lone (b.on tm ds (.code (.block id c) :: k)) cs w) = .next (lone (b.on tm ds (.code c :: .inBlock id :: k)) cs w) := step_lone_go (by simp [stepG, stepG.exec, Frame.on])
theorem st_scope {c : Code} : step P (lone (b.on tm ds (.code (.scope c) :: k)) cs w) = .next (lone (b.on tm ds (.code c :: .inScope c :: k)) cs w) := step_lone_go (by simp [stepG, stepG.exec, Frame.on])
theorem st_loop {c : Code} : step P (lone (b.on tm ds (.code (.loop c) :: k)) cs w) = .next (lone (b.on tm ds (.code c :: .inLoop c :: k)) cs w) := step_lone_go (by simp [stepG, stepG.exec, Frame.on])
theorem st_inLoop {c : Code} : step P (lone (b.on tm ds (.inLoop c :: k)) cs w) = .next (lone (b.on tm ds (.code c :: .inLoop c :: k)) cs w) := step_lone_go (by simp [stepG, stepG.exec, Frame.on])
theorem st_exit {id : Nat} {k' : List Item} (h : exitTo id k = some k') : step P (lone (b.on tm ds (.code (.exit id) :: k)) cs w) = .next (lone (b.on tm ds k') cs w) := step_lone_go (by simp [stepG, stepG.exec, Frame.on, h])
theorem st_region {id : Nat} {ops : Array Oper} : step P (lone (b.on tm ds (.code (.region id ops false) :: k)) cs w) = .next (lone (b.on tm ds (.inRegion ops (List.range ops.size) :: k)) cs w) := step_lone_go (by simp [stepG, stepG.exec, Frame.on])
theorem st_region_draw {id : Nat} {ops : Array Oper} : step P (lone (b.on tm ds (.code (.region id ops true) :: k)) cs w) =
    .next (lone (b.on tm ds (.inRegion ops (Region.schedule (P.follows .mixedOrders) ops (w.tape w.drawn (.order b.fn id))) :: k)) cs { w with drawn := w.drawn + 1 }) :=
  step_lone_go (by simp [stepG, stepG.exec, Frame.on, choose, Sem.run, Question.forced, Question.cut])
theorem st_region_end {ops : Array Oper} : step P (lone (b.on tm ds (.inRegion ops [] :: k)) cs w) = .next (lone (b.on tm ds k) cs w) := step_lone_go (by simp [stepG, stepG.exec, Frame.on])
theorem st_ret (hb : b.roundOf = none) : step P (lone (b.on tm ds (.code .ret :: k)) cs w) = .next (lone { b.on tm ds (.code .ret :: k) with mode := .returning } cs w) := step_lone_go (by simp [stepG, stepG.exec, Frame.on, hb])
theorem st_end (hb : b.roundOf = none) : step P (lone (b.on tm ds []) cs w) = .next (lone { b.on tm ds [] with mode := .returning } cs w) := step_lone_go (by simp [stepG, stepG.exec, Frame.on, hb])
def putT (tm : Array Value) (dst : Option Tmp) (v : Value) : Array Value :=
  match dst with
  | some d => tm.setIfInBounds d v
  | none => tm
theorem finish_on {ops : Array Oper} {i : Nat} {rest : List Nat} {o : Oper} (ho : ops[i]? = some o) (v : Value) :
    (b.on tm ds (.inRegion ops (i :: rest) :: k)).finish v = b.on (putT tm o.dst v) ds (.inRegion ops rest :: k) := by
  unfold Frame.finish Frame.on putT
  simp [ho]
  cases o.dst <;> rfl
theorem st_op_skip {ops : Array Oper} {i : Nat} {rest : List Nat} {o : Oper} (ho : ops[i]? = some o) (hw : Region.wanted o (yielded ops tm) = false) :
    step P (lone (b.on tm ds (.inRegion ops (i :: rest) :: k)) cs w) = .next (lone (b.on (putT tm o.dst undef) ds (.inRegion ops rest :: k)) cs w) := by
  rw [← finish_on ho]
  exact step_lone_go (by
    simp only [Frame.on] at *
    simp [stepG, stepG.exec, ho, hw])
theorem stG_op {ops : Array Oper} {i : Nat} {rest : List Nat} {o : Oper} (ho : ops[i]? = some o) (hw : Region.wanted o (yielded ops tm) = true) (hd : ∀ c, o.op ≠ .defer c) :
    stepG P true { frame := b.on tm ds (.inRegion ops (i :: rest) :: k), callers := cs, status := .running, dying := none } w =
      stepG.apply P true (b.on tm ds (.inRegion ops (i :: rest) :: k)) cs none (execOp (opv tm) o) w := by
  have he := eval_on b tm ds (.inRegion ops (i :: rest) :: k)
  simp only [Frame.on] at he
  have : ∀ (x : Option Nat), (match x, o.op with
      | some l, .defer c => stepG.apply P true (b.on tm ds (.inRegion ops (i :: rest) :: k)) cs none (do Instr.deferInRound l (← resolve (opv tm) c o.type); pure .skip) w
      | _, _ => stepG.apply P true (b.on tm ds (.inRegion ops (i :: rest) :: k)) cs none (execOp (opv tm) o) w) = stepG.apply P true (b.on tm ds (.inRegion ops (i :: rest) :: k)) cs none (execOp (opv tm) o) w := by
    intro x
    split
    · exact absurd ‹_› (hd _)
    · rfl
  simp only [Frame.on] at this
  simp [stepG, stepG.exec, stepG.oper, Frame.oper?, Frame.on, ho, hw, he]
  exact this b.roundOf
theorem st_op_value {ops : Array Oper} {i : Nat} {rest : List Nat} {o : Oper} (ho : ops[i]? = some o) (hw : Region.wanted o (yielded ops tm) = true) (hd : ∀ c, o.op ≠ .defer c) {v : Value} {w' : World}
    (hr : (execOp (opv tm) o).run P w = .ok (.value v) w' ∨ ((execOp (opv tm) o).run P w = .ok .skip w' ∧ v = undef)) :
    step P (lone (b.on tm ds (.inRegion ops (i :: rest) :: k)) cs w) = .next (lone (b.on (putT tm o.dst v) ds (.inRegion ops rest :: k)) cs w') := by
  rw [← finish_on ho]
  refine step_lone_go ?_
  rw [stG_op ho hw hd]
  rcases hr with hr | ⟨hr, rfl⟩
  · simp [stepG.apply, hr]
  · simp [stepG.apply, hr]
theorem st_op_enter {ops : Array Oper} {i : Nat} {rest : List Nat} {o : Oper} (ho : ops[i]? = some o) (hw : Region.wanted o (yielded ops tm) = true) (hd : ∀ c, o.op ≠ .defer c) {f : FuncId} {args : Array Value} {w' : World}
    (hr : (execOp (opv tm) o).run P w = .ok (.enter f args) w') :
    step P (lone (b.on tm ds (.inRegion ops (i :: rest) :: k)) cs w) = .next (lone (Frame.enter P f args .normal) (b.on tm ds (.inRegion ops (i :: rest) :: k) :: cs) w') := by
  refine step_lone_go ?_
  rw [stG_op ho hw hd]
  simp [stepG.apply, hr, Frame.on]
end steps
def Arr (P : Program) (b : Frame) (cs : List Frame) (m : Machine) (k : List Item) : AX → Array Value → List Deferred → World → Prop
  | .normal, tm, ds, w => Steps P m (lone (b.on tm ds k) cs w)
  | .exit id, tm, ds, w => ∃ k', exitTo id k' = exitTo id k ∧ Steps P m (lone (b.on tm ds (.code (.exit id) :: k')) cs w)
  | .ret, tm, ds, w => ∃ k', Steps P m (lone (b.on tm ds (.code .ret :: k')) cs w)
theorem Arr.of_steps {P : Program} {b : Frame} {cs : List Frame} {m m' : Machine} {k : List Item} {e : AX} {tm : Array Value} {ds : List Deferred} {w : World} (h : Steps P m m') (h' : Arr P b cs m' k e tm ds w) : Arr P b cs m k e tm ds w := by
  cases e with
  | normal => exact h.trans h'
  | exit id => obtain ⟨k', e, hs⟩ := h'; exact ⟨k', e, h.trans hs⟩
  | ret => obtain ⟨k', hs⟩ := h'; exact ⟨k', h.trans hs⟩
structure CSim (P : Program) (n : Nat) (c : Code) (s : AS) (Q : AX → AS → Prop) : Prop where
  run : ∀ (b : Frame) (k : List Item) (cs : List Frame) (ρ : Rho) (tm : Array Value) (ds : List Deferred) (w : World) (B : Nat), StRel P ρ s tm w → DefOk b.roundOf B ρ.fr w ds →
    ∃ e s' ρ' tm' ds' w', Q e s' ∧ StRel P ρ' s' tm' w' ∧ DefOk b.roundOf B ρ'.fr w' ds' ∧ s'.nt = s.nt ∧ Ext (· < n) ρ s.heap w ρ' s'.heap w' ∧ Arr P b cs (lone (b.on tm ds (.code c :: k)) cs w) k e tm' ds' w'
section rules
variable {P : Program} {n : Nat} {s : AS} {Q : AX → AS → Prop}
theorem CSim.mono {c : Code} {Q' : AX → AS → Prop} (h : CSim P n c s Q) (hq : ∀ e s, Q e s → Q' e s) : CSim P n c s Q' :=
  ⟨fun b k cs ρ tm ds w B h1 h2 => let ⟨e, s', ρ', tm', ds', w', q, r⟩ := h.run b k cs ρ tm ds w B h1 h2; ⟨e, s', ρ', tm', ds', w', hq _ _ q, r⟩⟩
theorem csim_skip (h : Q .normal s) : CSim P n .skip s Q :=
  ⟨fun b k cs ρ tm ds w B h1 h2 => ⟨.normal, s, ρ, tm, ds, w, h, h1, h2, rfl, Ext.refl _ _ _ _, .one st_skip⟩⟩
theorem csim_label {l : Nat} (h : Q .normal s) : CSim P n (.label l) s Q :=
  ⟨fun b k cs ρ tm ds w B h1 h2 => ⟨.normal, s, ρ, tm, ds, w, h, h1, h2, rfl, Ext.refl _ _ _ _, .one st_label⟩⟩
theorem csim_exit {id : Nat} (h : Q (.exit id) s) : CSim P n (.exit id) s Q :=
  ⟨fun b k cs ρ tm ds w B h1 h2 => ⟨.exit id, s, ρ, tm, ds, w, h, h1, h2, rfl, Ext.refl _ _ _ _, k, rfl, Steps.refl _ _⟩⟩
theorem csim_ret (h : Q .ret s) : CSim P n .ret s Q :=
  ⟨fun b k cs ρ tm ds w B h1 h2 => ⟨.ret, s, ρ, tm, ds, w, h, h1, h2, rfl, Ext.refl _ _ _ _, k, Steps.refl _ _⟩⟩
theorem exitTo_skip {id : Nat} {x : Item} {k : List Item} (hx : ∀ j, x ≠ .inBlock j) : exitTo id (x :: k) = exitTo id k := by
  cases x <;> simp [exitTo] at *
theorem csim_seq {x y : Code} (h : CSim P n x s (fun e s' => match e with | .normal => CSim P n y s' Q | e => Q e s')) : CSim P n (.seq x y) s Q := ⟨by
  intro b k cs ρ tm ds w B h1 h2
  obtain ⟨e, s', ρ', tm', ds', w', q, r1, r2, r3, r4, r5⟩ := h.run b (.code y :: k) cs ρ tm ds w B h1 h2
  cases e with
  | normal =>
    obtain ⟨e, s2, ρ2, tm2, ds2, w2, q2, g1, g2, g3, g4, g5⟩ := q.run b k cs ρ' tm' ds' w' B r1 r2
    exact ⟨e, s2, ρ2, tm2, ds2, w2, q2, g1, g2, g3.trans r3, r4.trans g4, .of_steps (.head st_seq r5) g5⟩
  | exit id =>
    obtain ⟨k', e, hs⟩ := r5
    exact ⟨.exit id, s', ρ', tm', ds', w', q, r1, r2, r3, r4, k', by rw [e, exitTo_skip (by simp)], .head st_seq hs⟩
  | ret =>
    obtain ⟨k', hs⟩ := r5
    exact ⟨.ret, s', ρ', tm', ds', w', q, r1, r2, r3, r4, k', .head st_seq hs⟩⟩
theorem bool_rel {ρ : Rho} {O : Nat → Prop} {w : World} {t : Bool} {v : Value} (h : VRel ρ O w (.d (.bool t)) v) : v = .bool t := by
  cases h with | d h => cases h; rfl
theorem csim_cond {c : Operand} {x y : Code} {t : Bool} (hc : evalA s.env c = .d (.bool t)) (h : CSim P n (if t then x else y) s Q) : CSim P n (.cond c x y) s Q := ⟨by
  intro b k cs ρ tm ds w B h1 h2
  obtain ⟨e, s', ρ', tm', ds', w', q, r1, r2, r3, r4, r5⟩ := h.run b k cs ρ tm ds w B h1 h2
  have hv := evalA_rel h1.env c
  rw [hc] at hv
  exact ⟨e, s', ρ', tm', ds', w', q, r1, r2, r3, r4, .of_steps (.one (st_cond (bool_rel hv))) r5⟩⟩
theorem csim_block {id : Nat} {c : Code} (h : CSim P n c s (fun e s' => match e with | .exit j => if j = id then Q .normal s' else Q (.exit j) s' | e => Q e s')) : CSim P n (.block id c) s Q := ⟨by
  intro b k cs ρ tm ds w B h1 h2
  obtain ⟨e, s', ρ', tm', ds', w', q, r1, r2, r3, r4, r5⟩ := h.run b (.inBlock id :: k) cs ρ tm ds w B h1 h2
  cases e with
  | normal => exact ⟨.normal, s', ρ', tm', ds', w', q, r1, r2, r3, r4, .head st_block (Steps.trans r5 (.one st_inBlock))⟩
  | exit j =>
    obtain ⟨k', e, hs⟩ := r5
    simp only at q
    by_cases hj : j = id
    · subst hj
      rw [if_pos rfl] at q
      have e2 : exitTo j k' = some k := by rw [e]; simp [exitTo]
      exact ⟨.normal, s', ρ', tm', ds', w', q, r1, r2, r3, r4, .head st_block (Steps.trans hs (.one (st_exit e2)))⟩
    · rw [if_neg hj] at q
      exact ⟨.exit j, s', ρ', tm', ds', w', q, r1, r2, r3, r4, k', by rw [e]; simp [exitTo, Ne.symm hj], .head st_block hs⟩
  | ret =>
    obtain ⟨k', hs⟩ := r5
    exact ⟨.ret, s', ρ', tm', ds', w', q, r1, r2, r3, r4, k', .head st_block hs⟩⟩
theorem csim_scope {c : Code} (h : CSim P n c s Q) : CSim P n (.scope c) s Q := ⟨by
  intro b k cs ρ tm ds w B h1 h2
  obtain ⟨e, s', ρ', tm', ds', w', q, r1, r2, r3, r4, r5⟩ := h.run b (.inScope c :: k) cs ρ tm ds w B h1 h2
  cases e with
  | normal => exact ⟨.normal, s', ρ', tm', ds', w', q, r1, r2, r3, r4, .head st_scope (Steps.trans r5 (.one st_inScope))⟩
  | exit j =>
    obtain ⟨k', e, hs⟩ := r5
    exact ⟨.exit j, s', ρ', tm', ds', w', q, r1, r2, r3, r4, k', by rw [e, exitTo_skip (by simp)], .head st_scope hs⟩
  | ret =>
    obtain ⟨k', hs⟩ := r5
    exact ⟨.ret, s', ρ', tm', ds', w', q, r1, r2, r3, r4, k', .head st_scope hs⟩⟩
theorem csim_loop {c : Code} {ι : Type} (I : ι → AS) (μ : ι → Nat) (hnt : ∀ g g', (I g).nt = (I g').nt)
    (round : ∀ g, CSim P n c (I g) (fun e s' => match e with | .normal => ∃ g', s' = I g' ∧ μ g' < μ g | e => Q e s')) (g : ι) : CSim P n (.loop c) (I g) Q := ⟨by
  intro b k cs
  have key : ∀ (m : Nat) (g : ι), μ g = m → ∀ (ρ : Rho) (tm : Array Value) (ds : List Deferred) (w : World) (B : Nat), StRel P ρ (I g) tm w → DefOk b.roundOf B ρ.fr w ds →
      ∃ e s' ρ' tm' ds' w', Q e s' ∧ StRel P ρ' s' tm' w' ∧ DefOk b.roundOf B ρ'.fr w' ds' ∧ s'.nt = (I g).nt ∧ Ext (· < n) ρ (I g).heap w ρ' s'.heap w' ∧ Arr P b cs (lone (b.on tm ds (.code c :: .inLoop c :: k)) cs w) k e tm' ds' w' := by
    intro m
    induction m using Nat.strongRecOn with
    | _ m ih =>
      intro g hm ρ tm ds w B h1 h2
      obtain ⟨e, s', ρ', tm', ds', w', q, r1, r2, r3, r4, r5⟩ := (round g).run b (.inLoop c :: k) cs ρ tm ds w B h1 h2
      cases e with
      | normal =>
        obtain ⟨g', rfl, hlt⟩ := q
        obtain ⟨e, s2, ρ2, tm2, ds2, w2, q2, g1, g2, g3, g4, g5⟩ := ih (μ g') (hm ▸ hlt) g' rfl ρ' tm' ds' w' B r1 r2
        exact ⟨e, s2, ρ2, tm2, ds2, w2, q2, g1, g2, g3.trans r3, r4.trans g4, .of_steps (Steps.trans r5 (.one st_inLoop)) g5⟩
      | exit id =>
        obtain ⟨k', e, hs⟩ := r5
        exact ⟨.exit id, s', ρ', tm', ds', w', q, r1, r2, r3, r4, k', by rw [e, exitTo_skip (by simp)], hs⟩
      | ret =>
        obtain ⟨k', hs⟩ := r5
        exact ⟨.ret, s', ρ', tm', ds', w', q, r1, r2, r3, r4, k', hs⟩
  intro ρ tm ds w B h1 h2
  obtain ⟨e, s', ρ', tm', ds', w', q, r1, r2, r3, r4, r5⟩ := key _ g rfl ρ tm ds w B h1 h2
  exact ⟨e, s', ρ', tm', ds', w', q, r1, r2, r3, r4, .of_steps (.one st_loop) r5⟩⟩
end rules
end Go.Am
end

section
set_option linter.unusedVariables false
set_option linter.unusedSimpArgs false
namespace Go.Am
theorem getE_setE_same (env : List (Nat × AV)) (t : Nat) (v : AV) : getE (setE env t v) t = v := by
  induction env with
  | nil => simp [setE, getE]
  | cons x env ih =>
    obtain ⟨k, u⟩ := x
    simp only [setE]
    cases hb : Nat.beq k t with
    | true => simp [getE, hb]
    | false => simpa [getE, hb] using ih
theorem getE_setE_ne (env : List (Nat × AV)) (t t' : Nat) (v : AV) (h : t ≠ t') : getE (setE env t v) t' = getE env t' := by
  induction env with
  | nil =>
    have : Nat.beq t t' = false := by cases hb : Nat.beq t t' with
      | false => rfl
      | true => exact absurd (Nat.eq_of_beq_eq_true hb) h
    simp [setE, getE, this]
  | cons x env ih =>
    obtain ⟨k, u⟩ := x
    simp only [setE]
    cases hb : Nat.beq k t with
    | true =>
      have hk := Nat.eq_of_beq_eq_true hb
      subst hk
      have : Nat.beq k t' = false := by cases hb2 : Nat.beq k t' with
        | false => rfl
        | true => exact absurd (Nat.eq_of_beq_eq_true hb2) h
      simp [getE, this]
    | false =>
      simp only [cond_false, getE]
      rw [ih]
theorem length_applyU (u : List (Nat × AO)) : ∀ (h : List AO), h.length ≤ (applyU h u).length ∧ ∀ i o, (i, o) ∈ u → i < (applyU h u).length := by
  induction u with
  | nil => intro h; exact ⟨Nat.le_refl _, by simp⟩
  | cons x u ih =>
    intro h
    obtain ⟨i, o⟩ := x
    have h1 := length_putA_ge h i o
    obtain ⟨a, b⟩ := ih (putA h i o)
    simp only [applyU]
    refine ⟨by omega, fun j q hj => ?_⟩
    rcases List.mem_cons.1 hj with e | e
    · cases e; omega
    · exact b j q e
def setD (env : List (Nat × AV)) (dst : Option Tmp) (v : AV) : List (Nat × AV) :=
  match dst with
  | some d => setE env d v
  | none => env
def dstOk (nt : Nat) (dst : Option Tmp) : Bool :=
  match dst with
  | some d => Nat.blt d nt
  | none => true
def updS (s : AS) (dst : Option Tmp) (v : AV) (u : List (Nat × AO)) : AS := ⟨setD s.env dst v, applyU s.heap u, s.nt⟩
section
variable {P : Program} {ρ : Rho} {h : List AO} {w : World}
theorem env_put {ρ' : Rho} {O' : Nat → Prop} {O : Nat → Prop} {w' : World} {env : List (Nat × AV)} {tm : Array Value} (k : Keep O O' w w') (hρ : ∀ id L, ρ id = some L → ρ' id = some L) (he : EnvRel ρ O w env tm) {dst : Option Tmp} {nt : Nat} (hn : tm.size = nt) (hd : dstOk nt dst = true)
    {x : AV} {v : Value} (hv : VRel ρ' O' w' x v) : EnvRel ρ' O' w' (setD env dst x) (putT tm dst v) := by
  intro t
  cases dst with
  | none => exact (he t).keep k hρ
  | some d =>
    simp only [dstOk] at hd
    have hlt : d < tm.size := by rw [hn]; exact Nat.lt_of_lt_of_le (Nat.lt_succ_self d) (Nat.le_of_ble_eq_true hd)
    simp only [setD, putT]
    by_cases ht : d = t
    · subst ht
      rw [getE_setE_same]
      have : (tm.setIfInBounds d v).getD d undef = v := by simp [Array.getD_eq_getD_getElem?, hlt]
      rw [this]; exact hv
    · rw [getE_setE_ne _ _ _ _ ht]
      have : (tm.setIfInBounds d v).getD t undef = tm.getD t undef := by simp [Array.getD_eq_getD_getElem?, Array.getElem?_setIfInBounds, ht]
      rw [this]; exact (he t).keep k hρ
theorem putT_size (tm : Array Value) (dst : Option Tmp) (v : Value) : (putT tm dst v).size = tm.size := by
  cases dst <;> simp [putT]
theorem StRel.step {s : AS} {tm : Array Value} (h1 : StRel P ρ s tm w) {new : Nat} (hnew : new = s.heap.length) {dst : Option Tmp} (hd : dstOk s.nt dst = true) {res : Res} {v : Value} {w' : World} {ρ' : Rho}
    (hv : VRel ρ' (ownB ρ' (applyU s.heap res.u)) w' res.v v) (hh : HeapRel P ρ' (applyU s.heap res.u) w') (hx : Ext (fun id => id ≠ new) ρ s.heap w ρ' (applyU s.heap res.u) w') (hr : ρ' = ρ ∨ ∃ o, (new, o) ∈ res.u) :
    StRel P ρ' (updS s dst res.v res.u) (putT tm dst v) w' := by
  obtain ⟨l1, l2⟩ := length_applyU res.u s.heap
  have hnone : ρ new = none := by
    cases hq : ρ new with
    | none => rfl
    | some L => have := h1.dom new (by rw [hq]; simp); omega
  refine ⟨hh, env_put hx.keep (fun id L hL => ?_) h1.env h1.size hd hv, by rw [putT_size]; exact h1.size, fun id hid => ?_⟩
  · rw [hx.rho id (by rintro rfl; rw [hnone] at hL; cases hL)]; exact hL
  · show id < (applyU s.heap res.u).length
    by_cases he : id = new
    · subst he
      rcases hr with rfl | ⟨o, ho⟩
      · exact absurd hnone hid
      · exact l2 _ _ ho
    · rw [hx.rho id he] at hid
      have := h1.dom id hid; omega
structure OSim (P : Program) (n : Nat) (ops : Array Oper) (l : List Nat) (s : AS) (Q : AS → Prop) : Prop where
  run : ∀ (b : Frame) (k : List Item) (cs : List Frame) (ρ : Rho) (tm : Array Value) (ds : List Deferred) (w : World) (B : Nat), StRel P ρ s tm w → DefOk b.roundOf B ρ.fr w ds →
    ∃ s' ρ' tm' w', Q s' ∧ StRel P ρ' s' tm' w' ∧ DefOk b.roundOf B ρ'.fr w' ds ∧ s'.nt = s.nt ∧ Ext (· < n) ρ s.heap w ρ' s'.heap w' ∧ Steps P (lone (b.on tm ds (.inRegion ops l :: k)) cs w) (lone (b.on tm' ds k) cs w')
theorem osim_nil {n : Nat} {ops : Array Oper} {s : AS} {Q : AS → Prop} (h : Q s) : OSim P n ops [] s Q :=
  ⟨fun b k cs ρ tm ds w B h1 h2 => ⟨s, ρ, tm, w, h, h1, h2, rfl, Ext.refl _ _ _ _, .one st_region_end⟩⟩
def guardA (ops : List Oper) (env : List (Nat × AV)) : Option (Nat × Bool) → Option Bool
  | none => some true
  | some (j, want) => match nthL ops j with
    | some o => match o.dst with
      | some d => match getE env d with
        | .d (.bool t) => some (t == want)
        | .tuple [] => some false
        | _ => none
      | none => none
    | none => none
theorem undef_rel {O : Nat → Prop} : VRel ρ O w (.tuple []) undef := .tuple [] #[] rfl (by simp)
theorem guardA_ok {ops : Array Oper} {s : AS} {tm : Array Value} (h1 : StRel P ρ s tm w) {o : Oper} {b : Bool} (hg : guardA ops.toList s.env o.guard = some b) : Region.wanted o (yielded ops tm) = b := by
  unfold Region.wanted
  cases hgd : o.guard with
  | none => rw [hgd] at hg; simp [guardA] at hg; subst hg; rfl
  | some g =>
    obtain ⟨j, want⟩ := g
    rw [hgd] at hg
    simp only [guardA] at hg
    split at hg
    · rename_i o' ho'
      split at hg
      · rename_i d hd
        split at hg
        · rename_i t ht
          cases hg
          rw [nthL_spec] at ho'
          have hv := h1.env d
          rw [ht] at hv
          have hv := bool_rel hv
          have hy : yielded ops tm j = some t := by
            have hoj : ops[j]? = some o' := by simpa using ho'
            have : tm[d]? = some (.bool t) := by
              rw [Array.getD_eq_getD_getElem?] at hv
              cases hq : tm[d]? with
              | none => rw [hq] at hv; simp [undef] at hv
              | some u => rw [hq] at hv; simp at hv; rw [hv]
            simp [yielded, hoj, hd, this]
          simp [hy]
        · rename_i ht
          cases hg
          rw [nthL_spec] at ho'
          have hv := h1.env d
          rw [ht] at hv
          have hy : yielded ops tm j = none := by
            have hoj : ops[j]? = some o' := by simpa using ho'
            cases hq : tm[d]? with
            | none => simp [yielded, hoj, hd, hq]
            | some u =>
              rw [Array.getD_eq_getD_getElem?, hq] at hv
              simp only [Option.getD_some] at hv
              cases hv with | tuple _ vs hl _ =>
              simp [yielded, hoj, hd, hq]
          simp [hy]
        · cases hg
      · cases hg
    · cases hg
theorem osim_step {T : TypeId → Option TI} (hT : TabOk P T) {n : Nat} {ops : Array Oper} {i : Nat} {rest : List Nat} {s : AS} {Q : AS → Prop} {o : Oper} (ho : ops[i]? = some o) (hg : guardA ops.toList s.env o.guard = some true) (hn : n ≤ s.heap.length)
    {q : Bool} {r : List D} {ra : List AV} {res : Res} (hw : (wantA std T s.env s.heap o.op).ok q r ra) (hs : stepA std T s.env s.heap s.heap.length q r ra o.op = some res) (hc : res.c = true) (hd : dstOk s.nt o.dst = true)
    (h : OSim P n ops rest (updS s o.dst res.v res.u) Q) : OSim P n ops (i :: rest) s Q := ⟨by
  intro b k cs ρ tm ds w B h1 h2
  have hnone : ρ s.heap.length = none := by
    cases hq : ρ s.heap.length with
    | none => rfl
    | some L => have := h1.dom s.heap.length (by rw [hq]; simp); omega
  obtain ⟨v, w', ρ', hrun, hv, hh, hx, hr⟩ := stepA_ok hT h1.heap hnone h1.env hw hs hc
  have h1' := h1.step rfl hd hv hh hx hr
  have h2' := h2.keep h1.heap hx
  obtain ⟨s2, ρ2, tm2, w2, q2, g1, g2, g3, g4, g5⟩ := h.run b k cs ρ' _ ds w' B h1' h2'
  have hdef : ∀ c, o.op ≠ .defer c := by
    intro c hc; rw [hc] at hs; simp [stepA] at hs
  exact ⟨s2, ρ2, tm2, w2, q2, g1, g2, g3, (hx.mono (fun id (hid : id < n) => by show id ≠ s.heap.length; omega)).trans g4, .head (st_op_value ho (guardA_ok h1 hg) hdef hrun) g5⟩⟩
theorem osim_skip {n : Nat} {ops : Array Oper} {i : Nat} {rest : List Nat} {s : AS} {Q : AS → Prop} {o : Oper} (ho : ops[i]? = some o) (hg : guardA ops.toList s.env o.guard = some false) (hd : dstOk s.nt o.dst = true)
    (h : OSim P n ops rest (updS s o.dst (.tuple []) []) Q) : OSim P n ops (i :: rest) s Q := ⟨by
  intro b k cs ρ tm ds w B h1 h2
  have h1' : StRel P ρ (updS s o.dst (.tuple []) []) (putT tm o.dst undef) w :=
    h1.step (new := s.heap.length) rfl (res := ⟨true, .tuple [], []⟩) hd undef_rel h1.heap (Ext.refl _ _ _ _) (.inl rfl)
  obtain ⟨s2, ρ2, tm2, w2, q2, g1, g2, g3, g4, g5⟩ := h.run b k cs ρ _ ds w B h1' h2
  exact ⟨s2, ρ2, tm2, w2, q2, g1, g2, g3, g4, .head (st_op_skip ho (guardA_ok h1 hg)) g5⟩⟩
def ArgsRel (ρ : Rho) (O : Nat → Prop) (w : World) (xs : List AV) (vs : Array Value) : Prop := vs.size = xs.length ∧ ∀ (i : Nat) (x : AV), xs[i]? = some x → VRel ρ O w x (vs.getD i undef)
theorem ArgsRel.append {O : Nat → Prop} {xs ys : List AV} {us vs : Array Value} (h1 : ArgsRel ρ O w xs us) (h2 : ArgsRel ρ O w ys vs) : ArgsRel ρ O w (xs ++ ys) (us ++ vs) := by
  refine ⟨by simp [h1.1, h2.1], fun i x hx => ?_⟩
  rw [List.getElem?_append] at hx
  rw [Array.getD_eq_getD_getElem?, Array.getElem?_append, h1.1]
  split at hx
  · rename_i hlt
    rw [if_pos hlt, ← Array.getD_eq_getD_getElem?]
    exact h1.2 i x hx
  · rename_i hge
    rw [if_neg hge, ← Array.getD_eq_getD_getElem?]
    exact h2.2 _ x hx
structure ARet (P : Program) (f : FuncId) (args : List AV) (h : List AO) (r : AV) (h' : List AO) : Prop where
  run : ∀ (ρ : Rho) (vs : Array Value) (w : World) (cs : List Frame), HeapRel P ρ h w → Dom ρ h → ArgsRel ρ (ownB ρ h) w args vs →
    ∃ ρ' v w' fr, Steps P (lone (Frame.enter P f vs .normal) cs w) (lone fr cs w') ∧ fr.fn = f ∧ fr.leaving P w' (.returned v) ∧ VRel ρ' (ownB ρ' h') w' r v ∧ HeapRel P ρ' h' w' ∧ Dom ρ' h' ∧ Ext (· < h.length) ρ h w ρ' h' w'
def Enters (P : Program) (f : FuncId) : Prop := ∀ (args : Array Value) (w : World), (callFunc f args).run P w = .ok (.enter f args) w
theorem osim_call {n : Nat} {ops : Array Oper} {i : Nat} {rest : List Nat} {s : AS} {Q : AS → Prop} {o : Oper} (ho : ops[i]? = some o) (hg : guardA ops.toList s.env o.guard = some true) (hn : n ≤ s.heap.length) {f : Operand} {args : Array Operand} {ts : Array TypeId}
    (hop : o.op = .call ⟨.value f, args, ts⟩) {g : FuncId} {first captured : List AV} (hf : evalA s.env f = .clo (.func g) first captured) (hen : Enters P g) {r : AV} {h' : List AO} (hret : ARet P g (first ++ evalL s.env args.toList ++ captured) s.heap r h') (hlen : s.heap.length ≤ h'.length) (hd : dstOk s.nt o.dst = true)
    (h : OSim P n ops rest ⟨setD s.env o.dst r, h', s.nt⟩ Q) : OSim P n ops (i :: rest) s Q := ⟨by
  intro b k cs ρ tm ds w B h1 h2
  have hfv := evalA_rel h1.env f
  rw [hf] at hfv
  obtain ⟨vf, vc, hfe, hfr, hcr⟩ : ∃ vf vc, opv tm f = .func (.func g) vf vc ∧ ArgsRel ρ (ownB ρ s.heap) w first vf ∧ ArgsRel ρ (ownB ρ s.heap) w captured vc := by
    generalize hv : opv tm f = v at hfv
    cases hfv with
    | clo _ _ _ vf vc a1 a2 a3 a4 => exact ⟨vf, vc, rfl, ⟨a1, a3⟩, ⟨a2, a4⟩⟩
  have har : ArgsRel ρ (ownB ρ s.heap) w (evalL s.env args.toList) (args.map (opv tm)) := evalL_rel h1.env args
  have hall := (hfr.append har).append hcr
  have hexec : (execOp (opv tm) o).run P w = .ok (.enter g (vf ++ args.map (opv tm) ++ vc)) w := by
    have := hen (vf ++ args.map (opv tm) ++ vc) w
    simp only [Array.append_assoc] at this
    simp [execOp, hop, resolve, Deferred.ofValue, hfe, invoke, this]
  obtain ⟨ρ', v, w', fr, hst, hfn, hlv, hv, hh, hdm, hx⟩ := hret.run ρ _ w (b.on tm ds (.inRegion ops (i :: rest) :: k) :: cs) h1.heap h1.dom hall
  have hρ : ∀ id L, ρ id = some L → ρ' id = some L := fun id L hL => by
    have hid : id < s.heap.length := h1.dom id (by rw [hL]; simp)
    rw [hx.rho id hid]; exact hL
  have h1' : StRel P ρ' ⟨setD s.env o.dst r, h', s.nt⟩ (putT tm o.dst v) w' :=
    ⟨hh, env_put hx.keep hρ h1.env h1.size hd hv, by rw [putT_size]; exact h1.size, hdm⟩
  obtain ⟨s2, ρ2, tm2, w2, q2, g1, g2, g3, g4, g5⟩ := h.run b k cs ρ' _ ds w' B h1' (h2.keep h1.heap hx)
  have hdef : ∀ c, o.op ≠ .defer c := by rw [hop]; simp
  refine ⟨s2, ρ2, tm2, w2, q2, g1, g2, g3, (hx.mono (fun id (hid : id < n) => by show id < s.heap.length; omega)).trans g4, ?_⟩
  refine .head (st_op_enter ho (guardA_ok h1 hg) hdef hexec) (Steps.trans hst (.head (step_leave_returned hlv) ?_))
  rw [finish_on ho]
  exact g5⟩
theorem csim_region {n : Nat} {id : Nat} {ops : Array Oper} {s : AS} {Q : AX → AS → Prop} (h : OSim P n ops (List.range ops.size) s (Q .normal)) : CSim P n (.region id ops false) s Q := ⟨by
  intro b k cs ρ tm ds w B h1 h2
  obtain ⟨s2, ρ2, tm2, w2, q2, g1, g2, g3, g4, g5⟩ := h.run b k cs ρ tm ds w B h1 h2
  exact ⟨.normal, s2, ρ2, tm2, ds, w2, q2, g1, g2, g3, g4, .head st_region g5⟩⟩
def resOne (T : TypeId → Option TI) (s : AS) : ResultVar → Option AV
  | .tmp t => some (getE s.env t)
  | .cell a t => match T t with
    | some ti => match getE s.env a with
      | .bptr id off => match stepLoad ti s.heap [] [] (.bptr id off) with
        | some r => some r.v
        | none => none
      | _ => none
    | none => none
def resAll (T : TypeId → Option TI) (s : AS) : List ResultVar → Option (List AV)
  | [] => some []
  | x :: r => match resOne T s x, resAll T s r with
    | some v, some l => some (v :: l)
    | _, _ => none
def resA (T : TypeId → Option TI) (s : AS) (l : List ResultVar) : Option AV :=
  match resAll T s l with
  | some [v] => some v
  | some vs => some (.tuple vs)
  | none => none
theorem stepLoad_u {ti : TI} {h : List AO} {r : List D} {ra : List AV} {a : AV} {res : Res} (hs : stepLoad ti h r ra a = some res) : res.u = [] := by
  unfold stepLoad at hs
  split at hs
  · split at hs
    · split at hs
      · obtain ⟨_, _, rfl⟩ := bind_ok hs; rfl
      · cases hs
    · cases hs
  · split at hs
    · split at hs
      · obtain ⟨_, _, rfl⟩ := bind_ok hs; rfl
      · cases hs
    · split at hs
      · obtain ⟨_, _, rfl⟩ := bind_ok hs; rfl
      · cases hs
    · cases hs
  · split at hs
    · obtain ⟨_, _, rfl⟩ := bind_ok hs; rfl
    · cases hs
  · cases hs
theorem run_load_same {T : TypeId} {ti : TI} (ht : TIok P T ti) (hr : HeapRel P ρ h w) {id off : Nat} {va : Value} (ha : VRel ρ (ownB ρ h) w (.bptr id off) va) {res : Res} (hs : stepLoad ti h [] [] (.bptr id off) = some res) :
    ∃ v, (Instr.loadAt T va).run P w = .ok v w ∧ VRel ρ (ownB ρ h) w res.v v := by
  unfold stepLoad at hs
  simp only at hs
  split at hs
  · rename_i cells hob
    split at hs
    · rename_i l hp
      obtain ⟨x, hx, rfl⟩ := bind_ok hs
      cases ha with
      | bptr _ _ L hL =>
        obtain ⟨_, ho⟩ := hr.obj id L hL
        rw [hob] at ho
        obtain ⟨c, t, hc, hj⟩ := ho
        obtain ⟨hl, hg⟩ := part_spec hp
        obtain ⟨cs, h1, h2, h3⟩ := cells_list (R := VRel ρ (ownB ρ h) w) (fun j => c[L.base + off + j]?) l (fun j x hx => by
          have hj' : j < ti.size := by rw [← hl]; exact (List.getElem?_eq_some_iff.1 hx).1
          obtain ⟨v, hv, hrel⟩ := hj (off + j) x (by rw [hg j hj']; exact hx)
          exact ⟨v, by rw [Nat.add_assoc]; exact hv, hrel⟩)
        obtain ⟨v, hv1, hv2⟩ := ofCells_rel hx cs h1 h3
        refine ⟨v, ?_, hv2⟩
        show (loadVar T _).run P w = _
        exact run_loadVar ht.size ht.agg w _ _ cs (h1.trans hl) (fun j v hv => cell_some hc (h2 j v hv)) v hv1
    · cases hs
  · cases hs
def resVal (tm : Array Value) : ResultVar → Sem Value
  | .tmp t => pure (tm.getD t undef)
  | .cell a t => do loadVar t (← asAddr (tm.getD a undef))
theorem results_eq (fn : Func) (tm : Array Value) : results fn tm = (do
    let vs ← fn.results.mapM (resVal tm)
    pure (if h : vs.size = 1 then vs[0] else .tuple vs)) := by
  unfold results
  congr 1
theorem results_ok {T : TypeId → Option TI} (hT : TabOk P T) {s : AS} {tm : Array Value} (h1 : StRel P ρ s tm w) {fn : Func} {r : AV} (hr : resA T s fn.results.toList = some r) :
    ∃ v, (results fn tm).run P w = .ok v w ∧ VRel ρ (ownB ρ s.heap) w r v := by
  have one : ∀ (x : ResultVar) (a : AV), resOne T s x = some a → ∃ v, (resVal tm x).run P w = .ok v w ∧ VRel ρ (ownB ρ s.heap) w a v := by
    intro x a hx
    cases x with
    | tmp t => simp [resOne] at hx; subst hx; exact ⟨_, rfl, h1.env t⟩
    | cell p t =>
      simp only [resOne] at hx
      split at hx
      · rename_i ti hti
        split at hx
        · rename_i id off hp
          split at hx
          · rename_i res hres
            cases hx
            have hv := h1.env p
            rw [hp] at hv
            obtain ⟨v, e1, e2⟩ := run_load_same (hT _ _ hti) h1.heap hv hres
            refine ⟨v, ?_, e2⟩
            obtain ⟨A, hpv⟩ : ∃ A, tm.getD p undef = .pointer (some A) := by
              generalize hq : tm.getD p undef = pv at hv
              cases hv with
              | bptr _ _ L hL => exact ⟨_, rfl⟩
            rw [hpv] at e1
            show (asAddr (tm.getD p undef) >>= fun a => loadVar t a).run P w = _
            rw [hpv]
            simp only [Sem.run_bind, asAddr, Sem.run_pure, Result.andThen_ok]
            simpa [Instr.loadAt, Instr.sureAddr] using e1
          · cases hx
        · cases hx
      · cases hx
  have all : ∀ (l : List ResultVar) (as : List AV), resAll T s l = some as → ∃ vs : List Value, (l.mapM (resVal tm)).run P w = .ok vs w ∧ vs.length = as.length ∧ ∀ (i : Nat) (a : AV) (v : Value), as[i]? = some a → vs[i]? = some v → VRel ρ (ownB ρ s.heap) w a v := by
    intro l
    induction l with
    | nil => intro as h; simp [resAll] at h; subst h; exact ⟨[], by simp, rfl, by simp⟩
    | cons x l ih =>
      intro as h
      simp only [resAll] at h
      split at h
      · rename_i a as' ha has
        cases h
        obtain ⟨v, e1, e2⟩ := one x a ha
        obtain ⟨vs, f1, f2, f3⟩ := ih as' has
        refine ⟨v :: vs, by simp only [List.mapM_cons, Sem.run_bind, e1, Result.andThen_ok, f1, Sem.run_pure], by simp [f2], fun i a' v' ha' hv' => ?_⟩
        cases i with
        | zero => simp at ha' hv'; subst ha'; subst hv'; exact e2
        | succ i => exact f3 i a' v' (by simpa using ha') (by simpa using hv')
      · cases h
  unfold resA at hr
  have fin : ∀ (as : List AV), resAll T s fn.results.toList = some as → ∃ vs : List Value, (results fn tm).run P w = .ok (if h : vs.toArray.size = 1 then vs.toArray[0] else .tuple vs.toArray) w ∧ vs.length = as.length ∧ ∀ (i : Nat) (a : AV) (v : Value), as[i]? = some a → vs[i]? = some v → VRel ρ (ownB ρ s.heap) w a v := by
    intro as has
    obtain ⟨vs, f1, f2, f3⟩ := all _ as has
    refine ⟨vs, ?_, f2, f3⟩
    rw [results_eq, Array.mapM_eq_mapM_toList]
    simp only [Sem.run_bind, Sem.run_map, f1, Result.andThen_ok, Sem.run_pure]
  split at hr
  · rename_i v hv
    cases hr
    obtain ⟨vs, g1, g2, g3⟩ := fin _ hv
    match vs, g2 with
    | [u], _ => exact ⟨u, by simpa using g1, g3 0 _ u rfl rfl⟩
  · rename_i as hne has
    cases hr
    obtain ⟨vs, g1, g2, g3⟩ := fin _ has
    have hl : vs.toArray.size ≠ 1 := by
      intro e
      rw [List.size_toArray, g2] at e
      match as, e with
      | [a], _ => exact hne a rfl
    rw [dif_neg hl] at g1
    refine ⟨_, g1, .tuple _ _ (by simp [g2]) fun i x hx => ?_⟩
    have hi : i < vs.length := by rw [g2]; exact (List.getElem?_eq_some_iff.1 hx).1
    have := g3 i x vs[i] hx (List.getElem?_eq_getElem hi)
    rw [show vs.toArray.getD i undef = vs[i] by simp [Array.getD_eq_getD_getElem?, hi]]
    exact this
  · cases hr
def env0 : Nat → List AV → List (Nat × AV)
  | _, [] => []
  | i, x :: r => (i, x) :: env0 (i + 1) r
theorem getE_env0 (l : List AV) : ∀ (i t : Nat), getE (env0 i l) t = if i ≤ t then (l[t - i]?).getD .bot else .bot := by
  induction l with
  | nil => intro i t; simp [env0, getE]
  | cons x l ih =>
    intro i t
    simp only [env0, getE]
    cases hb : Nat.beq i t with
    | true => have := Nat.eq_of_beq_eq_true hb; subst this; simp
    | false =>
      have hne : i ≠ t := by rintro rfl; simp at hb
      simp only [cond_false]
      rw [ih]
      by_cases h1 : i + 1 ≤ t
      · rw [if_pos h1, if_pos (by omega), show t - i = (t - (i + 1)) + 1 by omega]; simp
      · rw [if_neg h1, if_neg (by omega)]
theorem DRel.cells {O : Nat → Prop} {w w' : World} (hc : ∀ (a : Addr) (v : Value), w.cell? a = some v → w'.cell? a = some v) {x : D} {v : Value} (h : DRel O w x v) : DRel O w' x v := by
  induction h with
  | bool b => exact .bool b
  | int k n => exact .int k n
  | str s => exact .str s
  | nilp => exact .nilp
  | nilm => exact .nilm
  | nilf => exact .nilf
  | nili => exact .nili
  | agg ds vs hl h ih => exact .agg ds vs hl ih
  | lnil f z a c h => exact .lnil f z a c h
  | list full es b o z c hz hne hO hlc hf hsz cell h1 hcc h ih => exact .list full es b o z c hz hne hO hlc hf hsz cell h1 (fun j hj => hc _ _ (hcc j hj)) ih
  | ref r b o hne hO cell hcc h ih => exact .ref r b o hne hO cell (fun j hj => hc _ _ (hcc j hj)) ih
theorem VRel.cells {ρ : Rho} {O : Nat → Prop} {w w' : World} (hc : ∀ (a : Addr) (v : Value), w.cell? a = some v → w'.cell? a = some v) (hs : w.heap.size ≤ w'.heap.size) (hb : ∀ b m, bsize w b = some m → bsize w' b = some m) {x : AV} {v : Value} (h : VRel ρ O w x v) : VRel ρ O w' x v := by
  induction h with
  | bot v => exact .bot v
  | d h => exact .d (h.cells hc)
  | bptr id off L h => exact .bptr id off L h
  | ptr id i off L h => exact .ptr id i off L h
  | lptr r off b o hlt hO cell hcc hr => exact .lptr r off b o (Nat.lt_of_lt_of_le hlt hs) hO cell (fun j hj => hc _ _ (hcc j hj)) (fun j x hx => (hr j x hx).cells hc)
  | slice id z off len cap L a c h hz ha hcc hl =>
    refine .slice id z off len cap L a c h hz ha ?_ hl
    rcases hcc with hcc | ⟨hcc, n, hn, hle⟩
    · exact .inl hcc
    · exact .inr ⟨hcc, n, hb _ _ hn, hle⟩
  | nils id z off cap a hc => exact .nils id z off cap a hc
  | map id L h => exact .map id L h
  | yld id L h => exact .yld id L h
  | clo fn fs cs vf vc hf hc h1 h2 ih1 ih2 => exact .clo fn fs cs vf vc hf hc ih1 ih2
  | iface t x v h ih => exact .iface t x v ih
  | agg xs vs hl h ih => exact .agg xs vs hl ih
  | tuple xs vs hl h ih => exact .tuple xs vs hl ih
theorem HeapRel.cells {ρ : Rho} {h : List AO} {w w' : World} (hr : HeapRel P ρ h w) (hc : ∀ (a : Addr) (v : Value), w.cell? a = some v → w'.cell? a = some v) (hs : w.heap.size ≤ w'.heap.size) (hb : ∀ b m, bsize w b = some m → bsize w' b = some m)
    (ho : ∀ b, ownB ρ h b → w'.heap[b]? = w.heap[b]?) : HeapRel P ρ h w' where
  obj := fun id L hL => by
    obtain ⟨h1, h2⟩ := hr.obj id L hL
    refine ⟨Nat.lt_of_lt_of_le h1 hs, ?_⟩
    by_cases hl : (nthA h id).live = true
    · have hbk := ho _ (.inr ⟨id, L, hL, hl, rfl⟩)
      cases hno : nthA h id with
      | dead => trivial
      | box cells =>
        rw [hno] at h2
        obtain ⟨c, t, hcb, hj⟩ := h2
        exact ⟨c, t, hbk ▸ hcb, fun j x hx => let ⟨v, hv, hvr⟩ := hj j x hx; ⟨v, hv, hvr.cells hc hs hb⟩⟩
      | row es =>
        rw [hno] at h2
        obtain ⟨hz, c, t, hcb, hl', hj⟩ := h2
        exact ⟨hz, c, t, hbk ▸ hcb, hl', fun i r j x hi hx => let ⟨v, hv, h1, hvr⟩ := hj i r j x hi hx; ⟨v, hv, h1, hvr.cells hc⟩⟩
      | arow es =>
        rw [hno] at h2
        obtain ⟨hz, c, t, hcb, hl', hj⟩ := h2
        exact ⟨hz, c, t, hbk ▸ hcb, hl', fun i r j x hi hx => let ⟨v, hv, h1, hvr⟩ := hj i r j x hi hx; ⟨v, hv, h1, hvr.cells hc hs hb⟩⟩
      | map es =>
        rw [hno] at h2
        obtain ⟨en, clk, hcb, hl', hj⟩ := h2
        exact ⟨en, clk, hbk ▸ hcb, hl', fun i k x hi => let ⟨e, he, h1, hvr⟩ := hj i k x hi; ⟨e, he, h1.cells hc, hvr.cells hc⟩⟩
      | loop st pd g pos nt env =>
        rw [hno] at h2
        obtain ⟨x, ps, asg, body, hcd, tm, ds, f, hcb, hl', hj⟩ := h2
        exact ⟨x, ps, asg, body, hcd, tm, ds, f, hbk ▸ hcb, hl', fun t => (hj t).cells hc hs hb⟩
    · cases hno : nthA h id <;> simp_all [AO.live, ObjRel]
  inj := hr.inj
  fr := fun b hf => Nat.lt_of_lt_of_le (hr.fr b hf) hs
  sep := hr.sep
theorem run_take {P : Program} {b : Nat} {ds : List Deferred} {w : World} (h : w.heap[b]? = some (.deferred (some ds))) : (Instr.takeDeferred b).run P w = .ok ds (World.setObj w b (.deferred none)) := by
  simp [Instr.takeDeferred, getObj, setObj, Sem.run, h]; rfl
theorem unmark (B : Nat) (F : Nat → Prop) : ∀ (ds : List Deferred) (fr : Frame) (cs : List Frame) (w : World), fr.mode = .returning → fr.defers = ds → DefOk none B F w ds → ∃ w', Steps P (lone fr cs w) (lone { fr with defers := [] } cs w') ∧ w'.os = w.os ∧ w'.tape = w.tape ∧ w'.output = w.output ∧ w'.heap.size = w.heap.size ∧
    (∀ b, (∀ d ∈ ds, d.target ≠ .collected b) → w'.heap[b]? = w.heap[b]?)
  | [], fr, cs, w, hm, hd, hok => ⟨w, by rw [← hd]; exact Steps.refl _ _, rfl, rfl, rfl, rfl, fun _ _ => rfl⟩
  | d :: ds, fr, cs, w, hm, hd, hok => by
    obtain ⟨r, e, hr, hB⟩ := hok.mark d (by simp)
    have hk := run_take (P := P) hr
    have hst := step_collected (cs := cs) (by rw [hm]; simp) hd (by rw [e]) hk
    have hlt : r < w.heap.size := (Array.getElem?_eq_some_iff.1 hr).1
    obtain ⟨w', g1, g2, g3, g4, g5, g6⟩ := unmark B F ds { fr with defers := ds } cs (World.setObj w r (.deferred none)) hm rfl ⟨(List.nodup_cons.1 hok.nodup).2, fun d' hd' => by
      obtain ⟨r', e', hr', hf'⟩ := hok.mark d' (by simp [hd'])
      refine ⟨r', e', ?_, hf'⟩
      have hne : r' ≠ r := by
        rintro rfl
        rw [← e] at e'
        subst e'
        exact (List.nodup_cons.1 hok.nodup).1 hd'
      rw [setObj_ne _ _ _ _ hne]; exact hr', hok.below, by rw [setObj_size]; exact hok.le, fun l hl => by cases hl⟩
    refine ⟨w', .head (by simpa using hst) g1, g2, g3, g4, by rw [g5, setObj_size], fun b hb => ?_⟩
    rw [g6 b (fun d' hd' => hb d' (by simp [hd']))]
    have : b ≠ r := by rintro rfl; exact hb d (by simp) (by rw [e])
    exact setObj_ne _ _ _ _ this
theorem EnvRel.init {O : Nat → Prop} {args : List AV} {vs : Array Value} (ha : ArgsRel ρ O w args vs) (nt : Nat) : EnvRel ρ O w (env0 0 args) (vs ++ Array.replicate (nt - vs.size) undef) := by
  intro t
  rw [getE_env0, if_pos (Nat.zero_le _), Nat.sub_zero]
  cases hq : args[t]? with
  | none => exact .bot _
  | some x =>
    have := ha.2 t x hq
    have hlt : t < vs.size := by rw [ha.1]; exact (List.getElem?_eq_some_iff.1 hq).1
    rw [Array.getD_eq_getD_getElem?, Array.getElem?_append_left hlt, ← Array.getD_eq_getD_getElem?]
    simpa using this
theorem aret_of_csim {T : TypeId → Option TI} (hT : TabOk P T) {f : FuncId} {fn : Func} (hf : P.funcs[f]? = some fn) {c : Code} (hb : fn.body = some c) {args : List AV} {h : List AO} {r : AV} {h' : List AO} {nt : Nat} (hnt : fn.ntmps = nt) (hle : args.length ≤ nt)
    (hc : CSim P h.length c ⟨env0 0 args, h, nt⟩ (fun e s => (e = .normal ∨ e = .ret) ∧ resA T s fn.results.toList = some r ∧ s.heap = h')) : ARet P f args h r h' := ⟨by
  intro ρ vs w cs hh hdm ha
  have hstart : (Frame.enter P f vs .normal).on (vs ++ Array.replicate (nt - vs.size) undef) [] [.code c] = Frame.enter P f vs .normal := by
    simp [Frame.enter, Frame.on, hf, hb, hnt]
  have h1 : StRel P ρ ⟨env0 0 args, h, nt⟩ (vs ++ Array.replicate (nt - vs.size) undef) w :=
    ⟨hh, EnvRel.init ha nt, by simp [ha.1]; omega, hdm⟩
  obtain ⟨e, s', ρ', tm', ds', w', ⟨q1, q2, q3⟩, g1, g2, g3, g4, g5⟩ := hc.run (Frame.enter P f vs .normal) [] cs ρ _ [] w w.heap.size h1 ⟨List.nodup_nil, by simp, hh.fr, Nat.le_refl _, fun l hl => by cases hl⟩
  subst q3
  rw [hstart] at g5
  obtain ⟨todo, hst⟩ : ∃ todo, Steps P (lone (Frame.enter P f vs .normal) cs w) (lone { (Frame.enter P f vs .normal).on tm' ds' todo with mode := .returning } cs w') := by
    rcases q1 with rfl | rfl
    · exact ⟨_, Steps.trans g5 (.one (st_end rfl))⟩
    · obtain ⟨k', hs⟩ := g5
      exact ⟨_, Steps.trans hs (.one (st_ret rfl))⟩
  obtain ⟨w2, u1, u2, u3, u4, u5, u6⟩ := unmark (P := P) _ _ ds' { (Frame.enter P f vs .normal).on tm' ds' todo with mode := .returning } cs w' rfl rfl g2
  have hnot : ∀ b, ownB ρ' s'.heap b → ∀ d ∈ ds', d.target ≠ .collected b := by
    intro b hbo d hd hdt
    obtain ⟨r', e', hr', hf'⟩ := g2.mark d hd
    rw [e'] at hdt
    cases hdt
    exact own_kind g1.heap (fun hf => by have := g2.below _ hf; omega) hbo hr'
  have hbs : ∀ b m, bsize w' b = some m → bsize w2 b = some m := by
    intro b m hm
    have : ∀ d ∈ ds', d.target ≠ .collected b := by
      intro d hd hdt
      obtain ⟨r', e', hr', _⟩ := g2.mark d hd
      rw [e'] at hdt; cases hdt
      simp [bsize, hr'] at hm
    unfold bsize; rw [u6 b this]; exact hm
  have hold : ∀ b, b < w.heap.size → w2.heap[b]? = w'.heap[b]? := by
    intro b hb
    refine u6 b fun d hd hdt => ?_
    obtain ⟨r', e', _, hB⟩ := g2.mark d hd
    rw [e'] at hdt; cases hdt
    omega
  have hcell : ∀ (a : Addr) (v : Value), w'.cell? a = some v → w2.cell? a = some v := by
    intro a v hv
    have : ∀ d ∈ ds', d.target ≠ .collected a.block := by
      intro d hd hdt
      obtain ⟨r', e', hr', _⟩ := g2.mark d hd
      rw [e'] at hdt; cases hdt
      unfold World.cell? at hv
      rw [hr'] at hv; cases hv
    rw [cell_of_block (w := w') (u6 _ this)]; exact hv
  have hh2 : HeapRel P ρ' s'.heap w2 := g1.heap.cells hcell (by omega) hbs (fun b hb => u6 b (hnot b hb))
  have g1' : StRel P ρ' s' tm' w2 := ⟨hh2, fun t => (g1.env t).cells hcell (by omega) hbs, g1.size, g1.dom⟩
  obtain ⟨v, hv1, hv2⟩ := results_ok hT g1' q2
  refine ⟨ρ', v, w2, _, Steps.trans hst u1, rfl, ⟨rfl, rfl, rfl, fn, hf, hv1⟩, hv2, hh2, g1.dom, ?_⟩
  exact
    { os := u2.trans g4.os
      tape := u3.trans g4.tape
      output := u4.trans g4.output
      keep :=
        { size := by rw [u5]; exact g4.keep.size
          frame := fun b hb ho => (hold b hb).trans (g4.keep.frame b hb ho)
          own := fun b hb ho => g4.keep.own b hb ho
          shape := fun b m hm => hbs b m (g4.keep.shape b m hm) }
      rho := g4.rho
      fr := g4.fr
      frs := fun b hf => (hold b (hh.fr b hf)).trans (g4.frs b hf) }⟩
end
end Go.Am
end

section
set_option linter.unusedVariables false
set_option linter.unusedSimpArgs false
namespace Go.Am
inductive Free : AV → Prop
  | bot : Free .bot
  | d (x : D) : Free (.d x)
  | tuple (xs : List AV) (h : ∀ (i : Nat) (x : AV), xs[i]? = some x → Free x) : Free (.tuple xs)
  | agg (xs : List AV) (h : ∀ (i : Nat) (x : AV), xs[i]? = some x → Free x) : Free (.agg xs)
  | clo (fn : Fn) (fs cs : List AV) (h1 : ∀ (i : Nat) (x : AV), fs[i]? = some x → Free x) (h2 : ∀ (i : Nat) (x : AV), cs[i]? = some x → Free x) : Free (.clo fn fs cs)
theorem Free.tuple2 (x y : D) : Free (.tuple [.d x, .d y]) := .tuple _ fun i z hz => by
  match i, hz with
  | 0, hz => cases hz; exact .d _
  | 1, hz => cases hz; exact .d _
  | n + 2, hz => simp at hz
theorem Free.tuple3 (x y z : D) : Free (.tuple [.d x, .d y, .d z]) := .tuple _ fun i a ha => by
  match i, ha with
  | 0, hz => cases hz; exact .d _
  | 1, hz => cases hz; exact .d _
  | 2, hz => cases hz; exact .d _
  | n + 3, hz => simp at hz
theorem Free.rel {ρ ρ' : Rho} {O O' : Nat → Prop} {w : World} (ho : ∀ b, O' b → O b) {x : AV} {v : Value} (hf : Free x) (h : VRel ρ O w x v) : VRel ρ' O' w x v := by
  induction hf generalizing v with
  | bot => exact .bot v
  | d x =>
    cases h with
    | d h => exact .d (h.keep ⟨Nat.le_refl _, fun _ _ _ => rfl, fun b _ hb => ho b hb, fun _ _ h => h⟩)
  | tuple xs hx ih =>
    cases h with
    | tuple _ vs hl hh => exact .tuple _ _ hl fun i x hx => ih i x hx (hh i x hx)
  | agg xs hx ih =>
    cases h with
    | agg _ vs hl hh => exact .agg _ _ hl fun i x hx => ih i x hx (hh i x hx)
  | clo fn fs cs h1 h2 ih1 ih2 =>
    cases h with
    | clo _ _ _ vf vc a b c d => exact .clo _ _ _ _ _ a b (fun i x hx => ih1 i x hx (c i x hx)) (fun i x hx => ih2 i x hx (d i x hx))
def PRet (P : Program) (f : FuncId) (args : List AV) (r : AV) : Prop := ARet P f args [] r []
theorem PRet.at {P : Program} {f : FuncId} {args : List AV} {r : AV} (h : PRet P f args r) (ha : ∀ (i : Nat) (x : AV), args[i]? = some x → Free x) (hr : Free r) (hp : List AO) : ARet P f args hp r hp := ⟨by
  intro ρ vs w cs hh hdm har
  let ρc : Rho := ⟨fun _ => none, ownB ρ hp⟩
  have hc : HeapRel P ρc [] w := ⟨fun id L hL => (by cases hL), fun id id' L L' hL => (by cases hL), fun b hb => own_lt hh hb, fun id L hL => (by cases hL)⟩
  have hown : ∀ b, ownB ρc [] b ↔ ownB ρ hp b := fun b => ⟨fun hb => hb.elim id (fun ⟨id, L, hL, _⟩ => (by cases hL)), fun hb => .inl hb⟩
  obtain ⟨ρ', v, w', fr, hst, hfn, hlv, hv, hh', hdm', hx⟩ := h.run ρc vs w cs hc (fun id hid => absurd rfl hid) ⟨har.1, fun i x hi => (ha i x hi).rel (fun b hb => (hown b).1 hb) (har.2 i x hi)⟩
  have hfr : ρ'.fr = ownB ρ hp := hx.fr
  have hold : ∀ b, b < w.heap.size → w'.heap[b]? = w.heap[b]? := by
    intro b hb
    by_cases ho : ownB ρ hp b
    · exact hx.frs b ho
    · exact hx.keep.frame b hb (fun h => ho ((hown b).1 h))
  have hk : Keep (ownB ρ hp) (ownB ρ hp) w w' :=
    { size := hx.keep.size
      frame := fun b hb _ => hold b hb
      own := fun b _ h => h
      shape := hx.keep.shape }
  refine ⟨ρ, v, w', fr, hst, hfn, hlv, hr.rel (fun b hb => .inl (by rw [hfr]; exact hb)) hv, hh.of_keep hk (fun b hb => hold b (own_lt hh hb)), hdm, ?_⟩
  exact { os := hx.os, tape := hx.tape, output := hx.output, keep := hk, rho := fun _ _ => rfl, fr := rfl, frs := fun b hf => hold b (hh.fr b hf) }⟩
theorem HeapRel.ext {P : Program} {ρ : Rho} {h h' : List AO} {w : World} (e : ∀ id, nthA h id = nthA h' id) (hr : HeapRel P ρ h w) : HeapRel P ρ h' w := by
  have ho : ownB ρ h = ownB ρ h' := by funext b; unfold ownB; simp only [e]
  refine ⟨fun id L hL => ?_, fun id id' L L' h1 h2 l1 l2 => hr.inj id id' L L' h1 h2 (by rw [e]; exact l1) (by rw [e]; exact l2), hr.fr, fun id L hL hl => hr.sep id L hL (by rw [e]; exact hl)⟩
  have := hr.obj id L hL
  rw [← ho, ← e]; exact this
theorem ownB_ext {ρ : Rho} {h h' : List AO} (e : ∀ id, nthA h id = nthA h' id) : ownB ρ h = ownB ρ h' := by funext b; unfold ownB; simp only [e]
def readsT (o : Op) : List Nat := o.operands.toList.filterMap fun | .tmp t => some t | _ => none
def guardT (ops : List Oper) : Option (Nat × Bool) → List Nat
  | none => []
  | some (j, _) => match nthL ops j with
    | some o => o.dst.toList
    | none => []
def touches : Op → Bool
  | .load .. | .store .. | .lookup .. | .mapUpdate .. | .insert .. => true
  | .call ⟨.builtin b, _, _⟩ => match b with
    | .min | .max => false
    | _ => true
  | .call _ => true
  | _ => false
def turns : Op → Bool
  | .store .. | .mapUpdate .. | .insert .. => true
  | .call ⟨.builtin b, _, _⟩ => match b with
    | .min | .max | .len => false
    | _ => true
  | _ => false
end Go.Am
end

section
set_option linter.unusedVariables false
set_option linter.unusedSimpArgs false
namespace Go.Am
def direct (o : Oper) : List Nat := (o.after.toList.filter (Region.binds .any)).map (·.on)
def nthN : List Nat → Nat → Nat
  | [], _ => 0
  | x :: _, 0 => x
  | _ :: r, n + 1 => nthN r n
def joinB (acc : List Nat) : List Nat → Nat
  | [] => 0
  | d :: r => Nat.lor (Nat.lor (Nat.shiftLeft 1 d) (nthN acc d)) (joinB acc r)
def ancB : List Oper → List Nat → List Nat
  | [], acc => acc
  | o :: r, acc => ancB r (acc ++ [joinB acc (direct o)])
def memN (x : Nat) : List Nat → Bool
  | [] => false
  | y :: l => Nat.beq x y || memN x l
theorem memN_iff {x : Nat} {l : List Nat} : memN x l = true ↔ x ∈ l := by
  induction l with
  | nil => simp [memN]
  | cons y l ih =>
    simp only [memN, Bool.or_eq_true, ih, List.mem_cons]
    constructor
    · rintro (h | h)
      · exact .inl (Nat.eq_of_beq_eq_true h)
      · exact .inr h
    · rintro (rfl | h)
      · exact .inl (Nat.beq_refl x)
      · exact .inr h
def noneOf : Option Nat → List Nat → Bool
  | none, _ => true
  | some t, l => !memN t l
def apart (ops : List Oper) (a b : Oper) : Bool :=
  noneOf a.dst (readsT b.op ++ guardT ops b.guard ++ b.dst.toList) && noneOf b.dst (readsT a.op ++ guardT ops a.guard ++ a.dst.toList)
def disjB : List Nat → List Nat → Bool
  | [], _ => true
  | x :: l, m => !memN x m && disjB l m
theorem disjB_spec : ∀ {l m : List Nat}, disjB l m = true → ∀ id ∈ l, id ∉ m
  | [], _, _, id, h => by cases h
  | x :: l, m, h, id, hid => by
    simp only [disjB, Bool.and_eq_true, Bool.not_eq_true'] at h
    rcases List.mem_cons.1 hid with rfl | hid
    · intro hm; rw [memN_iff.2 hm] at h; cases h.1
    · exact disjB_spec h.2 id hid
def nthLL : List (List Nat) → Nat → List Nat
  | [], _ => []
  | x :: _, 0 => x
  | _ :: r, n + 1 => nthLL r n
theorem nthLL_append_lt : ∀ (acc : List (List Nat)) (x : List Nat) (j : Nat), j < acc.length → nthLL (acc ++ [x]) j = nthLL acc j
  | [], _, _, h => by simp at h
  | _ :: _, _, 0, _ => rfl
  | _ :: acc, x, j + 1, h => nthLL_append_lt acc x j (by simpa using h)
theorem nthLL_append_eq : ∀ (acc : List (List Nat)) (x : List Nat), nthLL (acc ++ [x]) acc.length = x
  | [], _ => rfl
  | _ :: acc, x => nthLL_append_eq acc x
def indep (ops : List Oper) : Bool :=
  let an := ancB ops []
  (List.range ops.length).all fun j => (List.range j).all fun i => Nat.testBit (nthN an j) i ||
    (match ops[i]?, ops[j]? with
     | some a, some b => apart ops a b
     | _, _ => true)
def edgesOk (ops : List Oper) : Bool := (List.range ops.length).all fun i => match ops[i]? with
  | some o => (direct o).all fun j => Nat.blt j i
  | none => true
theorem joinB_spec {acc : List Nat} {j : Nat} : ∀ {l : List Nat}, (joinB acc l).testBit j = true → ∃ d ∈ l, j = d ∨ (nthN acc d).testBit j = true
  | [], h => by simp [joinB] at h
  | d :: r, h => by
    have h : (((1 <<< d) ||| nthN acc d) ||| joinB acc r).testBit j = true := h
    rw [Nat.testBit_or, Nat.testBit_or, Nat.testBit_shiftLeft] at h
    simp only [Bool.or_eq_true, Bool.and_eq_true, decide_eq_true_eq] at h
    rcases h with (⟨h1, h2⟩ | h) | h
    · rw [Nat.testBit_one_eq_true_iff_self_eq_zero] at h2
      exact ⟨d, by simp, .inl (by omega)⟩
    · exact ⟨d, by simp, .inr h⟩
    · obtain ⟨e, he, h'⟩ := joinB_spec h
      exact ⟨e, by simp [he], h'⟩
theorem nthN_append_lt {l : List Nat} {x i : Nat} (h : i < l.length) : nthN (l ++ [x]) i = nthN l i := by
  induction l generalizing i with
  | nil => simp at h
  | cons y l ih => cases i with
    | zero => rfl
    | succ i => simpa [nthN] using ih (by simpa using h)
theorem nthN_append_len (l : List Nat) (x : Nat) : nthN (l ++ [x]) l.length = x := by
  induction l with
  | nil => rfl
  | cons y l ih => simpa [nthN] using ih
theorem nthN_ge {l : List Nat} {i : Nat} (h : l.length ≤ i) : nthN l i = 0 := by
  induction l generalizing i with
  | nil => rfl
  | cons y l ih => cases i with
    | zero => simp at h
    | succ i => simpa [nthN] using ih (by simpa using h)
theorem ancB_spec (l : List Oper) : ∀ (acc : List Nat) (pre : List Oper), acc.length = pre.length →
    (∀ (i : Nat) (o : Oper), pre[i]? = some o → ∀ j, (nthN acc i).testBit j = true → j ∈ direct o ∨ ∃ d ∈ direct o, d < i ∧ (nthN acc d).testBit j = true) →
    ∀ (i : Nat) (o : Oper), (pre ++ l)[i]? = some o → ∀ j, (nthN (ancB l acc) i).testBit j = true → j ∈ direct o ∨ ∃ d ∈ direct o, d < i ∧ (nthN (ancB l acc) d).testBit j = true := by
  induction l with
  | nil => intro acc pre hl h; simpa [ancB] using h
  | cons o l ih =>
    intro acc pre hl h
    have key := ih (acc ++ [joinB acc (direct o)]) (pre ++ [o]) (by simp [hl]) (fun i p hi j hj => by
      rw [List.getElem?_append] at hi
      split at hi
      · rename_i hlt
        rw [nthN_append_lt (by omega)] at hj
        rcases h i p hi j hj with h1 | ⟨d, hd, hdi, hj2⟩
        · exact .inl h1
        · exact .inr ⟨d, hd, hdi, by rw [nthN_append_lt (by omega)]; exact hj2⟩
      · rename_i hge
        have hi0 : i - pre.length = 0 := by
          have := (List.getElem?_eq_some_iff.1 hi).1; simp at this; omega
        rw [hi0] at hi; simp at hi; subst hi
        have hie : i = acc.length := by omega
        subst hie
        rw [nthN_append_len] at hj
        obtain ⟨d, hd, hj⟩ := joinB_spec hj
        rcases hj with rfl | hj
        · exact .inl hd
        · by_cases hdl : d < acc.length
          · exact .inr ⟨d, hd, hdl, by rw [nthN_append_lt hdl]; exact hj⟩
          · rw [nthN_ge (by omega)] at hj; simp at hj)
    simpa [ancB, List.append_assoc] using key
structure Rec where
  v : AV
  u : List (Nat × AO)
def stF (s : AS) (ops : List Oper) (recs : List Rec) : Nat → AS
  | 0 => s
  | i + 1 => match ops[i]?, recs[i]? with
    | some o, some r => updS (stF s ops recs i) o.dst r.v r.u
    | _, _ => stF s ops recs i
def lookU : List (Nat × AO) → Nat → AO → AO
  | [], _, x => x
  | (i, o) :: r, id, x => lookU r id (if i = id then o else x)
theorem nthA_applyU (u : List (Nat × AO)) : ∀ (h : List AO) (id : Nat), nthA (applyU h u) id = lookU u id (nthA h id) := by
  induction u with
  | nil => intro h id; rfl
  | cons x u ih =>
    intro h id
    obtain ⟨i, o⟩ := x
    simp only [applyU, lookU, ih]
    congr 1
    split
    · rename_i e; subst e; rw [nthA_putA_same]
    · rename_i e; rw [nthA_putA_ne _ _ _ _ e]
theorem lookU_none {u : List (Nat × AO)} {id : Nat} (h : ∀ o, (id, o) ∉ u) (x : AO) : lookU u id x = x := by
  induction u generalizing x with
  | nil => rfl
  | cons y u ih =>
    obtain ⟨i, o⟩ := y
    have hne : i ≠ id := by rintro rfl; exact h o (by simp)
    simp only [lookU, if_neg hne]
    exact ih (fun o' ho' => h o' (by simp [ho'])) x
section
variable (s : AS) (ops : List Oper) (recs : List Rec) (S : Nat → Bool)
def valE (t : Nat) : Nat → AV
  | 0 => getE s.env t
  | i + 1 => match ops[i]?, recs[i]? with
    | some o, some r => if S i = true ∧ o.dst = some t then r.v else valE t i
    | _, _ => valE t i
def valH (id : Nat) : Nat → AO
  | 0 => nthA s.heap id
  | i + 1 => match ops[i]?, recs[i]? with
    | some _, some r => if S i = true then lookU r.u id (valH id i) else valH id i
    | _, _ => valH id i
end
theorem valE_all (s : AS) (ops : List Oper) (recs : List Rec) (S : Nat → Bool) (t : Nat) : ∀ m, (∀ i, i < m → S i = true) → valE s ops recs S t m = getE (stF s ops recs m).env t := by
  intro m
  induction m with
  | zero => intro _; rfl
  | succ m ih =>
    intro h
    have := ih (fun i hi => h i (by omega))
    simp only [valE, stF]
    split
    · rename_i o r ho hr
      simp only [updS]
      cases hd : o.dst with
      | none => simp [setD, this]
      | some d =>
        simp only [setD]
        by_cases e : d = t
        · subst e; rw [if_pos ⟨h m (by omega), rfl⟩, getE_setE_same]
        · rw [if_neg (by simp [e]), getE_setE_ne _ _ _ _ e, this]
    · exact this
theorem valH_all (s : AS) (ops : List Oper) (recs : List Rec) (S : Nat → Bool) (id : Nat) : ∀ m, (∀ i, i < m → S i = true) → valH s ops recs S id m = nthA (stF s ops recs m).heap id := by
  intro m
  induction m with
  | zero => intro _; rfl
  | succ m ih =>
    intro h
    have := ih (fun i hi => h i (by omega))
    simp only [valH, stF]
    split
    · rename_i o r ho hr
      simp only [updS]
      rw [if_pos (h m (by omega)), nthA_applyU, this]
    · exact this
theorem valE_agree (s : AS) (ops : List Oper) (recs : List Rec) (S : Nat → Bool) (t i : Nat) : ∀ m, i ≤ m →
    (∀ (j : Nat) (o : Oper), ops[j]? = some o → o.dst = some t → j < i → S j = true) → (∀ (j : Nat) (o : Oper), ops[j]? = some o → o.dst = some t → i ≤ j → j < m → S j = false) →
    valE s ops recs S t m = getE (stF s ops recs i).env t := by
  have low : ∀ k, k ≤ i → (∀ (j : Nat) (o : Oper), ops[j]? = some o → o.dst = some t → j < i → S j = true) → valE s ops recs S t k = getE (stF s ops recs k).env t := by
    intro k
    induction k with
    | zero => intro _ _; rfl
    | succ k ih =>
      intro hk h
      have := ih (by omega) h
      simp only [valE, stF]
      split
      · rename_i o r ho hr
        simp only [updS]
        cases hd : o.dst with
        | none => simp [setD, this]
        | some d =>
          simp only [setD]
          by_cases e : d = t
          · subst e; rw [if_pos ⟨h k o ho hd (by omega), rfl⟩, getE_setE_same]
          · rw [if_neg (by simp [e]), getE_setE_ne _ _ _ _ e, this]
      · exact this
  intro m hm h1 h2
  induction m with
  | zero => have : i = 0 := by omega
            subst this; rfl
  | succ m ih =>
    by_cases e : i = m + 1
    · rw [← e]; exact low i (Nat.le_refl _) h1
    · have := ih (by omega) (fun j o a b c d => h2 j o a b c (by omega))
      simp only [valE]
      split
      · rename_i o r ho hr
        rw [if_neg, this]
        rintro ⟨a, b⟩
        have := h2 m o ho b (by omega) (by omega)
        rw [this] at a; cases a
      · exact this
theorem valH_agree (s : AS) (ops : List Oper) (recs : List Rec) (S : Nat → Bool) (id i : Nat) : ∀ m, i ≤ m →
    (∀ (j : Nat) (r : Rec), recs[j]? = some r → (∃ o, (id, o) ∈ r.u) → j < i → S j = true) → (∀ (j : Nat) (r : Rec), recs[j]? = some r → (∃ o, (id, o) ∈ r.u) → i ≤ j → j < m → S j = false) →
    valH s ops recs S id m = nthA (stF s ops recs i).heap id := by
  have low : ∀ k, k ≤ i → (∀ (j : Nat) (r : Rec), recs[j]? = some r → (∃ o, (id, o) ∈ r.u) → j < i → S j = true) → valH s ops recs S id k = nthA (stF s ops recs k).heap id := by
    intro k
    induction k with
    | zero => intro _ _; rfl
    | succ k ih =>
      intro hk h
      have := ih (by omega) h
      simp only [valH, stF]
      split
      · rename_i o r ho hr
        simp only [updS]
        rw [nthA_applyU]
        by_cases e : ∃ q, (id, q) ∈ r.u
        · rw [if_pos (h k r hr e (by omega)), this]
        · have hn : ∀ q, (id, q) ∉ r.u := fun q hq => e ⟨q, hq⟩
          rw [lookU_none hn, lookU_none hn]
          split <;> exact this
      · exact this
  intro m hm h1 h2
  induction m with
  | zero => have : i = 0 := by omega
            subst this; rfl
  | succ m ih =>
    by_cases e : i = m + 1
    · rw [← e]; exact low i (Nat.le_refl _) h1
    · have := ih (by omega) (fun j o a b c d => h2 j o a b c (by omega))
      simp only [valH]
      split
      · rename_i o r ho hr
        by_cases e2 : ∃ q, (id, q) ∈ r.u
        · rw [if_neg, this]
          intro a
          have := h2 m r hr e2 (by omega) (by omega)
          rw [this] at a; cases a
        · have hn : ∀ q, (id, q) ∉ r.u := fun q hq => e2 ⟨q, hq⟩
          rw [lookU_none hn]
          split <;> exact this
      · exact this
theorem valE_more (s : AS) (ops : List Oper) (recs : List Rec) (S : Nat → Bool) (i : Nat) {o : Oper} {r : Rec} (ho : ops[i]? = some o) (hr : recs[i]? = some r) (t : Nat) : ∀ m, i < m →
    (∀ (j : Nat) (p : Oper), ops[j]? = some p → i < j → S j = true → ∀ d, o.dst = some d → p.dst ≠ some d) →
    valE s ops recs (fun j => S j || Nat.beq j i) t m = if o.dst = some t then r.v else valE s ops recs S t m := by
  have low : ∀ k, k ≤ i → valE s ops recs (fun j => S j || Nat.beq j i) t k = valE s ops recs S t k := by
    intro k
    induction k with
    | zero => intro _; rfl
    | succ k ih =>
      intro hk
      have := ih (by omega)
      have hb : Nat.beq k i = false := by cases h : Nat.beq k i with
        | false => rfl
        | true => have := Nat.eq_of_beq_eq_true h; omega
      simp only [valE, hb, Bool.or_false, this]
  intro m hm h
  induction m with
  | zero => omega
  | succ m ih =>
    by_cases e : i = m
    · subst e
      have hb : Nat.beq i i = true := Nat.beq_refl i
      simp only [valE, ho, hr, hb, Bool.or_true, true_and]
      rw [low i (Nat.le_refl _)]
      by_cases hd : o.dst = some t
      · rw [if_pos hd, if_pos hd]
      · rw [if_neg hd, if_neg hd, if_neg (fun h => hd h.2)]
    · have := ih (by omega)
      have hb : Nat.beq m i = false := by cases h : Nat.beq m i with
        | false => rfl
        | true => have := Nat.eq_of_beq_eq_true h; omega
      simp only [valE, hb, Bool.or_false]
      split
      · rename_i p q hp hq
        by_cases hS : S m = true ∧ p.dst = some t
        · rw [if_pos hS]
          by_cases hd : o.dst = some t
          · exact absurd hS.2 (h m p hp (by omega) hS.1 t hd)
          · rw [if_neg hd, if_pos hS]
        · rw [if_neg hS, this]
          by_cases hd : o.dst = some t
          · rw [if_pos hd, if_pos hd]
          · rw [if_neg hd, if_neg hd, if_neg hS]
      · exact this
theorem valH_more (s : AS) (ops : List Oper) (recs : List Rec) (S : Nat → Bool) (i : Nat) {o : Oper} {r : Rec} (ho : ops[i]? = some o) (hr : recs[i]? = some r) (hi : S i = false) (id : Nat) : ∀ m, i < m →
    (∀ (j : Nat) (q : Rec), recs[j]? = some q → i < j → S j = true → (∃ x, (id, x) ∈ r.u) → ∀ x, (id, x) ∉ q.u) →
    valH s ops recs (fun j => S j || Nat.beq j i) id m = lookU r.u id (valH s ops recs S id m) := by
  have low : ∀ k, k ≤ i → valH s ops recs (fun j => S j || Nat.beq j i) id k = valH s ops recs S id k := by
    intro k
    induction k with
    | zero => intro _; rfl
    | succ k ih =>
      intro hk
      have := ih (by omega)
      have hb : Nat.beq k i = false := by cases h : Nat.beq k i with
        | false => rfl
        | true => have := Nat.eq_of_beq_eq_true h; omega
      simp only [valH, hb, Bool.or_false, this]
  intro m hm h
  induction m with
  | zero => omega
  | succ m ih =>
    by_cases e : i = m
    · subst e
      have hb : Nat.beq i i = true := Nat.beq_refl i
      simp only [valH, ho, hr, hb, Bool.or_true, if_true, hi]
      rw [low i (Nat.le_refl _)]
      simp
    · have := ih (by omega)
      have hb : Nat.beq m i = false := by cases h : Nat.beq m i with
        | false => rfl
        | true => have := Nat.eq_of_beq_eq_true h; omega
      simp only [valH, hb, Bool.or_false]
      split
      · rename_i p q hp hq
        by_cases hS : S m = true
        · rw [if_pos hS, if_pos hS, this]
          by_cases e2 : ∃ x, (id, x) ∈ r.u
          · have hn := h m q hq (by omega) hS e2
            rw [lookU_none hn, lookU_none hn]
          · have hn : ∀ x, (id, x) ∉ r.u := fun x hx => e2 ⟨x, hx⟩
            rw [lookU_none hn, lookU_none hn]
        · rw [if_neg hS, if_neg hS, this]
      · exact this
end Go.Am
end
