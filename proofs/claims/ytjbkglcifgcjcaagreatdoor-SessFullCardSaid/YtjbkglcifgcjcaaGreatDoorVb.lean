import Derived.Test.YtjbkglcifgcjcaaGreatDoorVa
import Derived.Laws.IdiomStrings
import Derived.Laws.Strings
import Derived.RangeFuncRecord
section
set_option autoImplicit false
set_option linter.unusedVariables false
set_option linter.unusedSimpArgs false
namespace Dv
open Go

theorem wrap_nat {n : Int} (h0 : 0 ≤ n) (h1 : n ≤ (maxRow : Int)) : IntKind.i64.wrap n = n := by
  simp [IntKind.wrap, IntKind.bits, IntKind.signed, maxRow] at *
  omega
theorem makeSlice_ok {P : Program} {c : Ctx} (hT : TIOK P c.ti) {base : Nat} {K : Kn} {h h' : Heap} {w : World} (H : HR base K h w) {t : Nat} {l m d : DV} {lv mv : Value} (hl : K.V l lv) (hm : K.V m mv)
    (e : dMakeSlice c (c.ti t) l m h = some (d, h')) : ∃ u w' K', (Instr.makeSlice t lv mv).run P w = .ok u w' ∧ FP K h w K' h' w' ∧ HR base K' h' w' ∧ K'.V d u := by
  unfold dMakeSlice at e
  split at e
  · rename_i el k n k' n' hk
    obtain ⟨dd, hu, hkr⟩ := kind_ok hT hk trivial
    have hkr : dd = .slice el := hkr
    subst hkr
    cases hl
    cases hm
    cases hc : decide (0 ≤ n ∧ n ≤ n' ∧ n' ≤ (maxRow : Int)) && decide (1 ≤ (c.ti el).size) && decide ((c.ti el).bytes ≤ 4096) with
    | false => rw [hc] at e; cases e
    | true =>
      rw [hc] at e
      simp only [cond_true] at e
      simp only [Bool.and_eq_true, decide_eq_true_eq] at hc
      obtain ⟨⟨⟨n0, n1, n3⟩, n2⟩, n4⟩ := hc
      cases e
      have ht := hT el (.inl n2)
      obtain ⟨z, hz, hzs, hE⟩ := zeros_EsR ht w
      have hE := hE K n.toNat n'.toNat (by omega) n2
      obtain ⟨q, dd, z', i1, i2, i3, i4, i5, i6, _⟩ := ht.ex
      obtain ⟨K', f1, f2, f3⟩ := new_row H (NewBlk.alloc w ((Array.range (n'.toNat * (c.ti el).size)).map fun x => z.cells[x % z.cells.size]!) el) n2 hE (cap := n'.toNat) (by rw [repl_length]; omega) (by simp)
      rw [repl_length] at f3
      refine ⟨_, _, K', ?_, f1, f2, f3⟩
      have hw1 := wrap_nat n0 (Int.le_trans n1 n3)
      have hw2 := wrap_nat (Int.le_trans n0 n1) n3
      have hbig : ¬ (281474976710656 < ((c.ti el).bytes : Int) * n') := by
        have h3 : ((c.ti el).bytes : Int) * n' ≤ 4096 * n' := Int.mul_le_mul_of_nonneg_right (by omega) (by omega)
        simp [maxRow] at n3; omega
      have hneg : ¬ (n < 0) := by omega
      have hneg' : ¬ (n' < 0) := by omega
      have hle : ¬ (n' < n) := by omega
      have hst := ht.sizeOf (P := P)
      by_cases h0 : n' = 0
      · subst h0
        have hn : n = 0 := by omega
        subst hn
        simp [Instr.makeSlice, run_underlying hu, asInt, asIntOf, typeInfo, i1, i5, hw1, hst, newRow, show Array.range 0 = (#[] : Array Nat) from rfl]
      · have h00 : ¬ (n'.toNat * (c.ti el).size = 0) := by
          intro h; rcases Nat.mul_eq_zero.1 h with h | h <;> omega
        have h01 : ¬ (n' ≤ 0) := by omega
        simp [h01, Instr.makeSlice, run_underlying hu, asInt, asIntOf, typeInfo, i1, i5, hw1, hw2, hbig, hneg, hneg', hle, hst, h0, h00, newRow, hz]
  · cases e

/-! ### Writing over elements -/
theorem setFrom_length {es xs : List (List DV)} {a : Nat} (h : a + xs.length ≤ es.length) : (setFrom es a xs).length = es.length := by
  simp [setFrom]; omega
theorem setFrom_at {es xs : List (List DV)} {a : Nat} (h : a + xs.length ≤ es.length) (i : Nat) (hi : i < (setFrom es a xs).length) :
    (∃ hn : a ≤ i ∧ i < a + xs.length, (setFrom es a xs)[i] = xs[i - a]'(by omega)) ∨ (¬(a ≤ i ∧ i < a + xs.length) ∧ ∃ hi' : i < es.length, (setFrom es a xs)[i] = es[i]) := by
  have hl := setFrom_length h
  by_cases hn : a ≤ i ∧ i < a + xs.length
  · refine .inl ⟨hn, ?_⟩
    simp only [setFrom]
    rw [List.getElem_append_right (by simp; omega), List.getElem_append_left (by simp; omega)]
    congr 1; simp; omega
  · refine .inr ⟨hn, by omega, ?_⟩
    simp only [setFrom]
    by_cases h1 : i < a
    · rw [List.getElem_append_left (by simp; omega)]; simp
    · rw [List.getElem_append_right (by simp; omega), List.getElem_append_right (by simp; omega)]
      simp only [List.getElem_drop]
      congr 1; simp; omega

/-- Elements stored at a place of a row. -/
theorem setRow_ok {P : Program} {base : Nat} {K : Kn} {h : Heap} {w : World} (H : HR base K h w) {b ver fz sz : Nat} {es : List (List DV)} (hg : hget h b = some (.row sz es ver fz)) {p : Place} (hp : K.hp b ver = some p)
    {at_ : Nat} (hfz : fz ≤ at_) {xs : List (List DV)} {A : Array Value} (hA : EsR K sz xs A) (hAs : A.size = xs.length * sz) (hfit : at_ + xs.length ≤ es.length) :
    ∃ w', (storeCells ⟨p.blk, p.off + at_ * sz, none⟩ A.toList).run P w = .ok () w' ∧ FP K h w K (hset h b (.row sz (setFrom es at_ xs) ver fz)) w' ∧ HR base K (hset h b (.row sz (setFrom es at_ xs) ver fz)) w' := by
  obtain ⟨a1, a2, a3, a4, a5⟩ := H.obj b _ hg p hp
  have hreg : regOf K.hp b (.row sz es ver fz) = some (p.blk, p.off + fz * sz, p.fin) := by simp [regOf, hp, a1]
  have m1 : (at_ + xs.length) * sz ≤ es.length * sz := Nat.mul_le_mul_right _ hfit
  obtain ⟨w', hr, hch, hnew, hold⟩ := rowWrite (P := P) H hg hp hfz hA hAs (by omega)
  have hl := setFrom_length hfit
  have := put_ok H hg hp hreg (Nat.le_add_right _ _) (.row sz (setFrom es at_ xs) ver fz) rfl hch K.hp (HP.le.refl _) (fun _ _ _ => rfl) p hp
    (.inl ⟨rfl, Nat.le_refl _, Nat.le_refl _, fun R lo' hi' er => by
      have er : (K.hp b ver).map (fun p => (p.blk, p.off + fz * p.sz, p.fin)) = some (R, lo', hi') := er
      rw [hp] at er
      simp only [Option.map_some, Option.some.injEq, Prod.mk.injEq, a1] at er
      omega⟩) (by
      intro q hq
      have hq : K.hp b ver = some q := hq
      rw [hp] at hq; cases hq
      refine ⟨a1, a2, by rw [hl]; exact a3, fun i hi => ?_, fun i hi j hj => ?_⟩
      · rcases setFrom_at hfit i hi with ⟨hn, e1⟩ | ⟨hn, hi', e1⟩
        · rw [e1]; exact hA.1 _ _
        · rw [e1]; exact a4 _ _
      · rcases setFrom_at hfit i hi with ⟨hn, e1⟩ | ⟨hn, hi', e1⟩
        · have hj' : j < (xs[i - at_]'(by omega)).length := by simpa only [e1] using hj
          have e2 : (setFrom es at_ xs)[i][j] = (xs[i - at_]'(by omega))[j] := by simp only [e1]
          obtain ⟨u, b1, b2, b3⟩ := hnew (i - at_) (by omega) j hj'
          rw [show at_ + (i - at_) = i by omega] at b1
          exact ⟨u, b1, by rw [e2]; exact b2, b3⟩
        · have hj' : j < es[i].length := by simpa only [e1] using hj
          have e2 : (setFrom es at_ xs)[i][j] = es[i][j] := by simp only [e1]
          obtain ⟨u, b1, b2, b3⟩ := a5 i hi' j hj'
          have hjs : j < sz := by rw [← a4 i hi']; exact hj'
          refine ⟨u, (hold _ ?_).trans b1, by rw [e2]; exact b2, b3⟩
          by_cases hlt : i < at_
          · have := idx_lt hlt hjs; omega
          · have h3 : (at_ + xs.length) * sz ≤ i * sz := Nat.mul_le_mul_right _ (by omega)
            omega) (fun v q eq => by have := H.ver b _ v q hg eq; exact this)
  exact ⟨w', hr, this.2, this.1⟩

theorem EsR.take {K : Kn} {sz : Nat} {es : List (List DV)} {A : Array Value} (h : EsR K sz es A) (n : Nat) : EsR K sz (es.take n) A := by
  refine ⟨fun i hi => by simp only [List.getElem_take]; exact h.1 _ _, fun i hi j hj => ?_⟩
  have e1 : (es.take n)[i] = es[i]'(by simp at hi; omega) := List.getElem_take
  have hj' : j < (es[i]'(by simp at hi; omega)).length := by simpa only [e1] using hj
  have e2 : (es.take n)[i][j] = (es[i]'(by simp at hi; omega))[j] := by simp only [e1]
  rw [e2]; exact h.2 i _ j hj'

theorem copy_ok {P : Program} {c : Ctx} (hT : TIOK P c.ti) {base : Nat} {K : Kn} {h h' : Heap} {w : World} (H : HR base K h w) {t t' ty : Nat} {x y d : DV} {xv yv : Value} (hx : K.V x xv) (hy : K.V y yv)
    (e : dCopy c (c.ti t) x y h = some (d, h')) : ∃ u w', (Builtin.copy_ #[t, t'] ty #[xv, yv]).run P w = .ok u w' ∧ FP K h w K h' w' ∧ HR base K h' w' ∧ K.V d u := by
  unfold dCopy at e
  split at e
  · rename_i el hk
    obtain ⟨dd, hu, hkr⟩ := kind_ok hT hk trivial
    have hkr : dd = .slice el := hkr
    subst hkr
    cases hb1 : Nat.ble 1 (c.ti el).size with
    | false => rw [hb1] at e; cases e
    | true =>
    rw [hb1] at e
    simp only [cond_true] at e
    have n2 := Nat.le_of_ble_eq_true hb1
    have hst := (hT el (.inl n2)).sizeOf (P := P)
    split at e
    · rename_i xs b ver z off len hxs
      obtain ⟨hlen, hfirst⟩ := elems_ok (P := P) H hy hxs
      split at e
      · rename_i sz es v' fz hg
        split at e
        · rename_i hcond
          obtain ⟨rfl, c1, c2, rfl⟩ := hcond
          cases e
          obtain ⟨A, a1, a2, a3⟩ := hfirst (min xs.length len) (Nat.min_le_left _ _)
          cases hx with
          | sl cap hp hs hlc hfin =>
            rename_i p
            obtain ⟨q1, _⟩ := H.obj b _ hg p hp
            have hz : z = (c.ti el).size := hs.symm.trans q1
            subst hz
            have e1 : xs.take (min xs.length len) = xs.take len := by rw [Nat.min_comm, ← List.take_take]; simp
            rw [e1] at a3
            obtain ⟨w', hr, f1, f2⟩ := setRow_ok (P := P) H hg hp c2 a3 (by rw [a2]; simp [Nat.min_comm]) (by simp; omega)
            refine ⟨_, w', ?_, f1, f2, .int .i64 _⟩
            simp [Builtin.copy_, run_underlying hu, hlen, hst, a1, hr, goInt]
          | sl0 a hp hs =>
            rename_i p
            have e1 : xs.take 0 = [] := rfl
            have e2 : A = #[] := Array.eq_empty_of_size_eq_zero (by rw [a2]; simp)
            rw [e1]
            subst e2
            have : ∃ A : Array Value, EsR K (c.ti el).size [] A ∧ A.size = ([] : List (List DV)).length * (c.ti el).size := ⟨#[], ⟨fun i hi => by simp at hi, fun i hi => by simp at hi⟩, by simp⟩
            obtain ⟨A', b1, b2⟩ := this
            obtain ⟨w', hr, f1, f2⟩ := setRow_ok (P := P) H hg hp c2 b1 b2 (by simp; omega)
            have e3 : A'.toList = [] := List.eq_nil_of_length_eq_zero (by simp [b2])
            rw [e3] at hr
            cases hr
            refine ⟨_, w, ?_, f1, f2, by simpa using VR.int .i64 0⟩
            simp only [Nat.min_zero] at a1
            simp [Builtin.copy_, run_underlying hu, hlen, hst, a1, goInt, storeCells]
        · cases e
      · cases e
    · cases e
      rename_i xs hxs
      obtain ⟨hlen, hfirst⟩ := elems_ok (P := P) H hy hxs
      obtain ⟨A, a1, a2, a3⟩ := hfirst 0 (Nat.zero_le _)
      cases hx with
      | nsl =>
        refine ⟨_, w, ?_, FP.refl _ _ _, H, .int .i64 0⟩
        simp [Builtin.copy_, run_underlying hu, hlen, hst, a1, goInt]
    · cases e
  · cases e

theorem clear_ok {P : Program} {c : Ctx} (hT : TIOK P c.ti) {base : Nat} {K : Kn} {h h' : Heap} {w : World} (H : HR base K h w) {t ty : Nat} {x d : DV} {xv : Value} (hx : K.V x xv)
    (e : dClear c (c.ti t) x h = some (d, h')) : ∃ u w', (Builtin.clear_ #[t] ty #[xv]).run P w = .ok u w' ∧ FP K h w K h' w' ∧ HR base K h' w' ∧ K.V d u := by
  unfold dClear at e
  split at e
  · rename_i el hk
    obtain ⟨dd, hu, hkr⟩ := kind_ok hT hk trivial
    have hkr : dd = .slice el := hkr
    subst hkr
    have tup0 : K.V (.tup []) (.tuple #[]) := .tup #[] rfl (fun j hj => by simp at hj)
    split at e
    · cases e
      cases hx with
      | nsl => exact ⟨_, w, by simp [Builtin.clear_, run_underlying hu], FP.refl _ _ _, H, tup0⟩
    · rename_i b ver z off len
      split at e
      · rename_i sz es v' fz hg
        split at e
        · rename_i hcond
          obtain ⟨rfl, c1, c2, rfl⟩ := hcond
          cases e
          cases hx with
          | sl cap hp hs hlc hfin =>
            rename_i p
            obtain ⟨q1, q2, _⟩ := H.obj b _ hg p hp
            have hz : z = (c.ti el).size := hs.symm.trans q1
            subst hz
            obtain ⟨zv, hz, hzs, hE⟩ := zeros_EsR (hT el (.inl q2)) w
            have hE := hE K len len (Nat.le_refl _) q2
            obtain ⟨w', hr, f1, f2⟩ := setRow_ok (P := P) H hg hp c2 hE (by rw [repl_length]; simp) (by rw [repl_length]; omega)
            by_cases h0 : len = 0
            · subst h0
              simp at hr
              cases hr
              exact ⟨_, w, by simp [Builtin.clear_, run_underlying hu], f1, f2, tup0⟩
            · refine ⟨_, w', ?_, f1, f2, tup0⟩
              have : ∃ m, len = m + 1 := ⟨len - 1, by omega⟩
              obtain ⟨m, rfl⟩ := this
              simp only [Builtin.zeroCells, hzs, Array.toList_map, Array.toList_range] at hr ⊢
              simp [Builtin.clear_, run_underlying hu, hz, Builtin.zeroCells, hzs, hr]
          | sl0 a hp hs =>
            rename_i p
            obtain ⟨w', hr, f1, f2⟩ := setRow_ok (P := P) H hg hp c2 (xs := []) (A := #[]) ⟨fun i hi => by simp at hi, fun i hi => by simp at hi⟩ (by simp) (by simp; omega)
            cases hr
            exact ⟨_, w, by simp [Builtin.clear_, run_underlying hu], f1, f2, tup0⟩
        · cases e
      · cases e
    · cases e
  · cases e
end Dv
end

section
set_option autoImplicit false
set_option linter.unusedVariables false
set_option linter.unusedSimpArgs false
namespace Dv
open Go

/-- A mark behind the end of a row's block. -/
theorem freeze_ok {base : Nat} {K : Kn} {h : Heap} {w : World} (H : HR base K h w) {b : Nat} {o : DObj} (hg : hget h b = some o) {p : Place} (hp : K.hp b (curVer o) = some p) {lo hi : Nat} (hreg : regOf K.hp b o = some (p.blk, lo, hi)) :
    ∃ c t f, w.heap[p.blk]? = some (.cells c t f) ∧ FP K h w K h (w.freeze ⟨p.blk, c.size, none⟩ 1) ∧ HR base K h (w.freeze ⟨p.blk, c.size, none⟩ 1) := by
  obtain ⟨⟨c, t, f, hc, hle, hfz⟩, _⟩ := H.reg b o _ _ _ hg hreg
  refine ⟨c, t, f, hc, ?_⟩
  let w' := w.freeze ⟨p.blk, c.size, none⟩ 1
  let f' : Nat × Nat := if f.1 == f.2 then (c.size, c.size + 1) else (min f.1 c.size, max f.2 (c.size + 1))
  have hw : w' = { w with heap := w'.heap } := by simp [w', World.freeze]
  have hself : w'.heap[p.blk]? = some (.cells c t f') := by
    show (w.heap.modify p.blk _)[p.blk]? = _
    rw [Array.getElem?_modify, if_pos rfl, hc]
    rfl
  have hoth : ∀ R, R ≠ p.blk → w'.heap[R]? = w.heap[R]? := fun R hR => by
    show (w.heap.modify p.blk _)[R]? = _
    rw [Array.getElem?_modify, if_neg (fun h => hR h.symm)]
  have hsz : w'.heap.size = w.heap.size := by show (w.heap.modify p.blk _).size = _; simp
  have hf' : c.size ≤ f'.1 := by
    simp only [f']
    split
    · exact Nat.le_refl _
    · rename_i hne
      rcases hfz with h | h
      · exact absurd (by simpa using h) hne
      · simp only [Nat.le_min]; exact ⟨h, Nat.le_refl _⟩
  have hcell : ∀ R x, cellAt w' R x = cellAt w R x := fun R x => by
    by_cases hR : R = p.blk
    · subst hR; simp only [cellAt, World.cell?, hself, hc]
    · exact cellAt_congr (hoth R hR) x
  have hbare : ∀ b' o', hget h b' = some o' → bare o' = true → ∀ q, K.hp b' 0 = some q → w'.heap[q.blk]? = w.heap[q.blk]? := fun b' o' e hb q hq => by
    refine hoth _ fun e3 => ?_
    have := H.obj b' o' e
    cases o' with
    | mapo es => obtain ⟨_, _, h1, _⟩ := this q hq; rw [e3, hc] at h1; cases h1
    | loop => obtain ⟨_, h1, _⟩ := this q hq; rw [e3, hc] at h1; cases h1
    | _ => simp [bare] at hb
  refine ⟨⟨rfl, rfl, rfl, Nat.le_of_eq hsz.symm, Kn.le.refl K, Nat.le_refl _, fun R x v h1 h2 => (by rw [h2] at h1; cases h1), fun _ h => .inr h, fun _ _ h => .inr h, fun R hR hn => hoth R fun e => hn ⟨b, o, p, hg, hp, e.symm⟩,
    fun R x _ _ => hcell R x, fun _ _ hn => ⟨rfl, hn⟩⟩, ⟨Nat.le_trans H.bsz (Nat.le_of_eq hsz.symm), fun R x v e => (hcell R x).trans (H.fm R x v e), H.fmone, H.dom, fun b' o' e => (H.obj b' o' e).keep (Kn.le.refl K) rfl (fun R _ _ _ x _ _ => hcell R x) (fun hb q hq => hbare b' o' e hb q hq), ?_, ?_, H.dis, H.mobj, H.ver⟩⟩
  · intro b' o' q e1 e2
    have := H.host b' o' q e1 e2
    exact ⟨this.1, hsz ▸ this.2⟩
  · intro b' o' R lo' hi' e1 e2
    obtain ⟨⟨c1, t1, f1, h1, h2, h3⟩, h4⟩ := H.reg b' o' R lo' hi' e1 e2
    by_cases hR : R = p.blk
    · subst hR
      rw [hc] at h1
      cases h1
      refine ⟨⟨c, t, f', hself, h2, .inr hf'⟩, fun x a1 a2 => ⟨?_, (h4 x a1 a2).2⟩⟩
      simp only [World.frozen?]
      rw [hself]
      simp; omega
    · exact ⟨⟨c1, t1, f1, (hoth R hR).trans h1, h2, h3⟩, fun x a1 a2 => ⟨(frozen_congr (hoth R hR) x).trans (h4 x a1 a2).1, (h4 x a1 a2).2⟩⟩

theorem foldl_push (ns : List Int) : ∀ r : ByteArray, (ns.foldl (fun r n => r.push (UInt8.ofNat n.toNat)) r).data.toList = r.data.toList ++ ns.map fun n => UInt8.ofNat n.toNat := by
  induction ns with
  | nil => intro r; simp
  | cons n ns ih => intro r; rw [List.foldl_cons, ih]; simp [ByteArray.push]
/-- Bytes out of related cells. -/
theorem bytes_of {K : Kn} : ∀ {es : List (List DV)} {A : Array Value} {s : List UInt8}, EsR K 1 es A → A.size = es.length → bytesOf? es = some s → ∃ ns : List Int, A = (ns.map (Value.int .u8)).toArray ∧ s = ns.map fun n => UInt8.ofNat n.toNat := by
  intro es
  induction es with
  | nil =>
    intro A s _ hs e
    cases e
    exact ⟨[], by simp at hs; simp [hs], rfl⟩
  | cons x es ih =>
    intro A s he hs e
    simp only [bytesOf?] at e
    split at e
    · rename_i b s' hb hs'
      cases e
      obtain ⟨a, ha⟩ : ∃ a, A.toList = a :: A.toList.tail := by
        cases hl : A.toList with
        | nil => have := congrArg List.length hl; simp at this; simp [this] at hs
        | cons a l => exact ⟨a, rfl⟩
      have hA : A = #[a] ++ A.toList.tail.toArray := by apply Array.ext'; simpa using ha
      have hel := he.2 0 (by simp)
      have htail : EsR K 1 es A.toList.tail.toArray := by
        refine ⟨fun i hi => he.1 (i + 1) (by simpa using hi), fun i hi j hj => ?_⟩
        obtain ⟨v, b1, b2, b3⟩ := he.2 (i + 1) (by simpa using hi) j (by simpa using hj)
        refine ⟨v, ?_, by simpa using b2, b3⟩
        rw [← b1]
        conv => rhs; rw [hA]
        rw [Array.getElem?_append_right (by simp; omega)]
        simp
      obtain ⟨ns, n1, n2⟩ := ih htail (by simp [hs]) hs'
      unfold byteOf? at hb
      split at hb
      · rename_i n
        cases hb
        obtain ⟨v, b1, b2, _⟩ := hel 0 (by simp)
        have : v = a := by
          rw [hA] at b1; simp at b1; exact b1.symm
        subst this
        simp at b2
        cases b2
        refine ⟨n :: ns, ?_, by simp [n2]⟩
        rw [hA, n1]; simp
      · cases hb
    · cases e

theorem under_of {P : Program} {ti : Nat → TI} (hT : TIOK P ti) {t : Nat} (h : Nat.beq (ti t).size 0 = false) : ∃ d, P.underlying t = some d := by
  have : 1 ≤ (ti t).size := by
    rcases Nat.eq_zero_or_pos (ti t).size with h0 | h0
    · rw [h0] at h; cases h
    · exact h0
  obtain ⟨d, h1, _⟩ := (hT t (.inl this)).under
  exact ⟨d, h1⟩
theorem NewBlk.bytes (w : World) (c : Array Value) (t : TypeId) : NewBlk w (w.drew.alloc (.cells c t (c.size, c.size + 1))) c t := by
  refine ⟨rfl, rfl, rfl, by simp, fun R hR => (by show (w.heap.push _)[R]? = _; rw [Array.getElem?_push, if_neg (Nat.ne_of_lt hR)]), ⟨(c.size, c.size + 1), (by show (w.heap.push _)[w.heap.size]? = _; rw [Array.getElem?_push, if_pos rfl]), .inr (Nat.le_refl _)⟩, fun x hx => ?_⟩
  have : (w.drew.alloc (.cells c t (c.size, c.size + 1))).heap[w.heap.size]? = some (.cells c t (c.size, c.size + 1)) := by
    show (w.heap.push _)[w.heap.size]? = _; rw [Array.getElem?_push, if_pos rfl]
  simp only [World.frozen?]
  rw [this]
  simp; omega

theorem conv_ok {P : Program} {c : Ctx} (hT : TIOK P c.ti) {base : Nat} {K : Kn} {h h' : Heap} {w : World} (H : HR base K h w) {ta tb : Nat} {x d : DV} {xv : Value} (hx : K.V x xv)
    (e : dConv c (Nat.beq ta tb) (c.ti ta) (c.ti tb) x h = some (d, h')) : ∃ u w' K', (convert ta tb xv).run P w = .ok u w' ∧ FP K h w K' h' w' ∧ HR base K' h' w' ∧ K'.V d u := by
  unfold dConv at e
  cases hsz : Nat.beq (c.ti ta).size 0 with
  | true => rw [hsz] at e; cases e
  | false =>
  rw [hsz] at e
  simp only [cond_false] at e
  obtain ⟨da, hua⟩ := under_of hT hsz
  split at e
  · rename_i k k' n hk
    obtain ⟨db, hub, hkr⟩ := kind_ok hT hk trivial
    have hkr : db = .int k := hkr
    subst hkr
    cases e
    cases hx
    exact ⟨_, w, K, by simp [convert, run_underlying hua, run_underlying hub, Conv.intToInt], FP.refl _ _ _, H, .int ..⟩
  · rename_i s hk
    obtain ⟨db, hub, hkr⟩ := kind_ok hT hk trivial
    have hkr : db = .string := hkr
    subst hkr
    cases e
    cases hx
    exact ⟨_, w, K, by simp [convert, run_underlying hua, run_underlying hub], FP.refl _ _ _, H, .str _⟩
  · rename_i el b ver z off len hk
    obtain ⟨db, hub, hkr⟩ := kind_ok hT hk trivial
    have hkr : db = .slice el := hkr
    subst hkr
    cases hsame : Nat.beq ta tb with
    | false => rw [hsame] at e; cases e
    | true =>
    cases hl1 : Nat.ble 1 len with
    | false => rw [hsame, hl1] at e; cases e
    | true =>
    rw [hsame, hl1] at e
    simp only [Bool.and_true, cond_true] at e
    have hab := Nat.eq_of_beq_eq_true hsame
    subst hab
    split at e
    · rename_i hke
      obtain ⟨de, hue, hker⟩ := kind_ok hT hke trivial
      have hker : de = .int .u8 := hker
      subst hker
      split at e
      · rename_i sz es v' fz hg
        split at e
        · rename_i hver
          subst hver
          cases e
          have fin : ∀ (a : Addr) (l cp : Nat), (∀ w1 : World, (markStringish a).run P w = .ok () w1 → (convert ta ta (.slice (some a) l cp)).run P w = .ok (.slice (some a) l cp) w1) := by
            intro a l cp w1 hm
            simp [convert, run_underlying hub, run_underlying hue, hm]
          have mk : ∀ (a : Addr), (markStringish a).run P w = .ok () (match w.shape? a.block with | some (_, n) => w.freeze ⟨a.block, n, none⟩ 1 | none => w) := by
            intro a
            simp only [markStringish, Sem.run_bind, run_shape, Result.andThen_ok]
            cases w.shape? a.block with
            | none => rfl
            | some q => rfl
          cases hx with
          | sl cap hp hs hlc hfin =>
            rename_i p
            obtain ⟨cc, t, f, h1, h2, h3⟩ := freeze_ok H hg hp (lo := p.off + fz * p.sz) (hi := p.fin) (by simp [regOf, hp])
            have := mk ⟨p.blk, p.off + off * z, none⟩
            simp only [World.shape?, h1] at this
            exact ⟨_, _, K, fin _ _ _ _ this, h2, h3, .sl cap hp hs hlc hfin⟩
          | sl0 a hp hs => cases hl1
        · cases e
      · cases e
    · cases e
  · rename_i el s hk
    obtain ⟨db, hub, hkr⟩ := kind_ok hT hk trivial
    have hkr : db = .slice el := hkr
    subst hkr
    split at e
    · rename_i hks hke
      obtain ⟨de, hue, hker⟩ := kind_ok hT hke trivial
      have hker : de = .int .u8 := hker
      subst hker
      obtain ⟨ds, hus, hksr⟩ := kind_ok hT hks trivial
      have hksr : ds = .string := hksr
      subst hksr
      cases hc1 : decide (s.length ≤ maxRow) && Nat.beq (c.ti el).size 1 with
      | false => rw [hc1] at e; cases e
      | true =>
      rw [hc1] at e
      simp only [cond_true] at e
      simp only [Bool.and_eq_true, decide_eq_true_eq] at hc1
      cases e
      cases hx with
      | str s =>
        have hsd : s.data.toList.length = s.size := by rw [Array.length_toList]; rfl
        rw [hsd] at hc1 ⊢
        have h1 := Nat.eq_of_beq_eq_true hc1.2
        have hge := grownCap_ge w s.size 0 el
        obtain ⟨K', f1, f2, f3⟩ := new_row H (NewBlk.bytes w (bytesRow s (grownCap w s.size 0 el)) el) (sz := 1) (es := s.data.toList.map fun b => [DV.int .u8 b.toNat]) (Nat.le_refl _) (cap := grownCap w s.size 0 el)
          ⟨fun i hi => by simp, fun i hi j hj => by
            have hi' : i < s.size := by simpa using hi
            have hj0 : j = 0 := by simpa using hj
            subst hj0
            refine ⟨.int .u8 (s.data[i]'hi').toNat, ?_, by simpa using VR.int .u8 _, rfl⟩
            simp only [bytesRow, Nat.mul_one, Nat.add_zero]
            rw [Array.getElem?_append_left (by simpa using hi')]
            have hd : i < s.data.size := hi'
            rw [Array.getElem?_map, Array.getElem?_eq_getElem hd]; rfl⟩ (by simpa using hge) (by
              simp only [bytesRow, Array.size_append, Array.size_map, Array.size_replicate, Nat.mul_one]
              have : s.data.size = s.size := rfl
              omega)
        have hl : (s.data.toList.map fun b => [DV.int .u8 b.toNat]).length = s.size := by rw [List.length_map]; exact hsd
        rw [hl] at f3
        exact ⟨_, _, K', run_bytes_of_string (P := P) w ta tb el s hus hub hue, f1, f2, f3⟩
    · cases e
  · rename_i hk hne
    obtain ⟨db, hub, hkr⟩ := kind_ok hT hk trivial
    have hkr : db = .string := hkr
    subst hkr
    split at e
    · rename_i el hka
      obtain ⟨da', hua', hkra⟩ := kind_ok hT hka trivial
      have hkra : da' = .slice el := hkra
      subst hkra
      split at e
      · rename_i es hke hes
        obtain ⟨de, hue, hker⟩ := kind_ok hT hke trivial
        have hker : de = .int .u8 := hker
        subst hker
        obtain ⟨s, hs, e⟩ := Option.map_eq_some_iff.1 e
        cases e
        obtain ⟨hlen, hfirst⟩ := elems_ok (P := P) H hx hes
        obtain ⟨A, a1, a2, a3⟩ := hfirst es.length (Nat.le_refl _)
        rw [List.take_length] at a3
        obtain ⟨ns, n1, n2⟩ := bytes_of a3 (by omega) hs
        subst n2
        have fin : ∀ (a : Addr) (l cp : Nat), xv = .slice (some a) l cp → es.length = l → ∃ u w' K', (convert ta tb xv).run P w = .ok u w' ∧ FP K h w K' h w' ∧ HR base K' h w' ∧ K'.V (.str (ns.map fun n => UInt8.ofNat n.toNat)) u := by
          intro a l cp e1 e2
          subst e1
          rw [e2] at a1
          simp only [Builtin.firstCells, Nat.mul_one] at a1
          rw [n1] at a1
          refine ⟨_, w, K, (run_convert_bytes_string w ta tb el (some a) l cp hua' hue hub).trans (run_bytesToString w a l cp ns a1), FP.refl _ _ _, H, ?_⟩
          have := foldl_push ns ByteArray.empty
          have e3 : (ByteArray.empty).data.toList = [] := rfl
          rw [e3, List.nil_append] at this
          rw [← this]
          exact .str _
        cases hx with
        | str s => exact absurd rfl (hne _)
        | nsl =>
          have hes0 : es = [] := by simp only [dElems] at hes; cases hes; rfl
          subst hes0
          simp only [bytesOf?, Option.some.injEq] at hs
          rw [← hs]
          refine ⟨.string .empty, w, K, by rw [run_convert_bytes_string w ta tb el none 0 0 hua' hue hub]; rfl, FP.refl _ _ _, H, .str .empty⟩
        | sl cap hp hs' hlc hfin =>
          refine fin _ _ _ rfl ?_
          have := hlen
          simp [Builtin.lenOf] at this
          exact this.symm
        | sl0 a hp hs' =>
          refine fin _ _ _ rfl ?_
          have := hlen
          simp [Builtin.lenOf] at this
          omega
        | dsl R o cap vals hsz' hcap h1 h2 =>
          refine fin _ _ _ rfl ?_
          have := hlen
          simp [Builtin.lenOf] at this
          exact this.symm
        | dsl0 a cap =>
          refine fin _ _ _ rfl ?_
          have := hlen
          simp [Builtin.lenOf] at this
          omega
        | _ => simp [dElems] at hes
      · cases e
    · cases e
  · cases e
end Dv
end

section
set_option autoImplicit false
set_option linter.unusedVariables false
set_option linter.unusedSimpArgs false
namespace Dv
open Go

theorem str_beq (a b : ByteArray) : (a == b) = (a.data.toList == b.data.toList) := by
  have h : (a == b) = (a.data == b.data) := by cases a; cases b; rfl
  rw [h, Bool.eq_iff_iff]
  simp only [beq_iff_eq]
  exact Array.toList_inj.symm
theorem kindEq_ok {P : Program} {c : Ctx} (hT : TIOK P c.ti) {K : Kn} {t : Nat} {x y : DV} {r : Bool} (e : kindEq (c.ti t).kind x y = some r) {vx vy : Value} (hx : K.V x vx) (hy : K.V y vy) (n : Nat) (w : World) :
    (Op.equalIn (n + 1) t vx vy).run P w = .ok r w := by
  unfold kindEq at e
  split at e
  · rename_i kk k a k' b hk
    obtain ⟨d, hu, hkr⟩ := kind_ok hT hk trivial
    have hkr : d = .int kk := hkr
    subst hkr
    split at e
    · rename_i hkk
      subst hkk
      cases e; cases hx; cases hy
      simp [Op.equalIn, run_underlying hu]
    · cases e
  · rename_i a b hk
    obtain ⟨d, hu, hkr⟩ := kind_ok hT hk trivial
    have hkr : d = .bool := hkr
    subst hkr
    cases e; cases hx; cases hy
    simp [Op.equalIn, run_underlying hu]
  · rename_i a b hk
    obtain ⟨d, hu, hkr⟩ := kind_ok hT hk trivial
    have hkr : d = .string := hkr
    subst hkr
    cases e; cases hx; cases hy
    simp only [Op.equalIn, Sem.run_bind, run_underlying hu, Result.andThen_ok, str_beq]
    rfl
  · cases e
theorem kindEq_agg {i : TI} {x y : DV} {r : Bool} (e : kindEq i.kind x y = some r) : i.agg = false := by
  unfold kindEq at e
  split at e <;> simp_all [TI.agg]

theorem fields_loop {P : Program} {c : Ctx} {w : World} {α : Type} (pl : α → Nat × Nat) (XS YS : List DV) (F : α → Option Bool × PUnit → Sem (ForInStep (Option Bool × PUnit))) :
    ∀ (l : List α) (n : Nat), (∀ a ∈ l, ∀ dx dy r, XS[(pl a).1]? = some dx → YS[(pl a).1]? = some dy → (c.ti (pl a).2).size = 1 → kindEq (c.ti (pl a).2).kind dx dy = some r →
      (F a (none, ())).run P w = .ok (bif r then .yield (none, ()) else .done (some false, ())) w) →
    ∀ r, fieldsEq c n (l.map pl) (XS.drop n) (YS.drop n) = some r → (forIn l (none, ()) F).run P w = .ok (bif r then (none, ()) else (some false, ())) w := by
  intro l
  induction l with
  | nil =>
    intro n _ r e
    simp only [List.map_nil] at e
    cases hx : XS.drop n <;> cases hy : YS.drop n <;> rw [hx, hy] at e <;> simp only [fieldsEq] at e
    · cases e; rfl
    all_goals cases e
  | cons a l ih =>
    intro n hF r e
    simp only [List.map_cons] at e
    rcases hpl : pl a with ⟨o, t⟩
    rw [hpl] at e
    cases hx : XS.drop n with
    | nil => rw [hx] at e; cases hy : YS.drop n <;> rw [hy] at e <;> simp [fieldsEq] at e
    | cons dx xs =>
      cases hy : YS.drop n with
      | nil => rw [hx, hy] at e; simp [fieldsEq] at e
      | cons dy ys =>
        rw [hx, hy] at e
        simp only [fieldsEq] at e
        cases hb : Nat.beq o n && Nat.beq (c.ti t).size 1 with
        | false => rw [hb] at e; cases e
        | true =>
          rw [hb] at e
          simp only [cond_true] at e
          simp only [Bool.and_eq_true] at hb
          have ho := Nat.eq_of_beq_eq_true hb.1
          have hs := Nat.eq_of_beq_eq_true hb.2
          subst ho
          have gx : XS[o]? = some dx := by rw [← List.head?_drop, hx]; rfl
          have gy : YS[o]? = some dy := by rw [← List.head?_drop, hy]; rfl
          have dxs : XS.drop (o + 1) = xs := by rw [← List.tail_drop, hx]; rfl
          have dys : YS.drop (o + 1) = ys := by rw [← List.tail_drop, hy]; rfl
          have hFa := hF a (List.mem_cons_self ..) dx dy
          rw [hpl] at hFa
          simp only [List.forIn_cons, Sem.run_bind]
          split at e
          · rename_i hk
            rw [hFa true gx gy hs hk]
            simp only [Result.andThen_ok, cond_true]
            refine ih (o + 1) (fun a ha => hF a (List.mem_cons_of_mem _ ha)) r ?_
            rw [dxs, dys]; exact e
          · rename_i hk
            cases e
            rw [hFa false gx gy hs hk]
            rfl
          · cases e

theorem plain_of {P : Program} {ti : Nat → TI} (hT : TIOK P ti) {t : Nat} (hk : match (ti t).kind with | .other => False | _ => True) (h : (ti t).plain = true) : PlainT P t := (hT t (.inr hk)).plain h

theorem part_basic {P : Program} {c : Ctx} (hT : TIOK P c.ti) {K : Kn} {xs : List DV} {vs : Array Value} (hc : CsR K xs vs) {t o : Nat} {dx : DV} (hs : (c.ti t).size = 1) (ha : (c.ti t).agg = false) (g : xs[o]? = some dx) (w : World) :
    ∃ v, (part t vs o).run P w = .ok v w ∧ K.V dx v := by
  refine part_ok (hT t (.inl (by omega))) hc ?_ w
  rw [ha, hs]; exact g

theorem struct_eq {P : Program} {c : Ctx} (hT : TIOK P c.ti) {K : Kn} {t : Nat} {fs : List (Nat × Nat)} (hk : (c.ti t).kind = .struct fs) (hp : (c.ti t).plain = true) {xs ys : List DV} {vx vy : Array Value} (hx : CsR K xs vx) (hy : CsR K ys vy)
    {r : Bool} (e : fieldsEq c 0 fs xs ys = some r) (n m : Nat) (hm : m = n + 1) (w : World) : (Op.equalIn (m + 1) t (.agg vx) (.agg vy)).run P w = .ok r w := by
  obtain ⟨d, hu, hkr⟩ := kind_ok hT hk trivial
  obtain ⟨fields, rfl, rfl⟩ := hkr
  obtain ⟨p1, p2, p3⟩ := plain_of hT (by rw [hk]; trivial) hp
  have p3 := p3 fields hu
  have hl := fields_loop (P := P) (c := c) (w := w) (fun f : Field => (f.offset, f.type)) xs ys (fun f __s =>
            if f.name = "_" then pure (ForInStep.yield (none, ()))
            else do
              let a ← part f.type vx f.offset
              let b ← part f.type vy f.offset
              let q ← Op.equalIn m f.type a b
              if q = false then pure (ForInStep.done (some false, ())) else pure (ForInStep.yield (none, ()))) fields.toList 0 (fun f hf dx dy r' gx gy hs hke => by
    have ha := kindEq_agg hke
    obtain ⟨a, r1, v1⟩ := part_basic (P := P) hT hx hs ha gx w
    obtain ⟨b, r2, v2⟩ := part_basic (P := P) hT hy hs ha gy w
    have r3 := kindEq_ok (P := P) hT hke v1 v2 n w
    rw [← hm] at r3
    simp only [if_neg (p3 f hf), Sem.run_bind, r1, r2, r3, Result.andThen_ok]
    cases r' <;> rfl) r (by simpa using e)
  simp only [Array.forIn_toList] at hl
  simp [Op.equalIn, run_underlying hu, p1]
  rw [hl]
  cases r <;> rfl

theorem arrFs_eq (e : Nat) : ∀ (n i : Nat), arrFs e n i = (List.range' i n).map fun j => (j, e)
  | 0, _ => rfl
  | n + 1, i => by simp only [arrFs, List.range'_succ, List.map_cons]; rw [arrFs_eq e n (i + 1)]
theorem array_eq {P : Program} {c : Ctx} (hT : TIOK P c.ti) {K : Kn} {t m el : Nat} (hk : (c.ti t).kind = .array m el) {xs ys : List DV} {vx vy : Array Value} (hx : CsR K xs vx) (hy : CsR K ys vy)
    {r : Bool} (e : fieldsEq c 0 (arrFs el m 0) xs ys = some r) (n m' : Nat) (hm : m' = n + 1) (w : World) : (Op.equalIn (m' + 1) t (.agg vx) (.agg vy)).run P w = .ok r w := by
  obtain ⟨d, hu, hkr⟩ := kind_ok hT hk trivial
  have hkr : d = .array m el := hkr
  subst hkr
  have hinfo : ∃ q, P.info? el = some q := by
    obtain ⟨q, d', z, _, h2, _, _, _, _, _, _, _, _, _, h⟩ := (hT t (.inr (by rw [hk]; trivial))).ex
    rw [hu] at h2; cases h2
    exact Option.isSome_iff_exists.1 (h m el rfl)
  obtain ⟨q, hq⟩ := hinfo
  have hsz : (Go.sizeOf el).run P w = .ok q.size w := by simp [Go.sizeOf, typeInfo, hq]
  rw [arrFs_eq] at e
  have hl := fields_loop (P := P) (c := c) (w := w) (fun j : Nat => (j, el)) xs ys (fun i __s => do
              let a ← part el vx (i * q.size)
              let b ← part el vy (i * q.size)
              let z ← Op.equalIn m' el a b
              if z = false then pure (ForInStep.done (some false, ())) else pure (ForInStep.yield (none, ()))) (List.range' 0 m) 0 (fun i hi dx dy r' gx gy hs hke => by
    have ha := kindEq_agg hke
    obtain ⟨a, r1, v1⟩ := part_basic (P := P) hT hx hs ha gx w
    obtain ⟨b, r2, v2⟩ := part_basic (P := P) hT hy hs ha gy w
    have r3 := kindEq_ok (P := P) hT hke v1 v2 n w
    rw [← hm] at r3
    have h1 := (hT el (.inl (by rw [show (c.ti el).size = 1 from hs]; exact Nat.le_refl 1))).sizeOf w
    rw [hsz, show (c.ti el).size = 1 from hs] at h1
    have h1 : q.size = 1 := by injection h1
    simp only [h1, Nat.mul_one, Sem.run_bind, r1, r2, r3, Result.andThen_ok]
    cases r' <;> rfl) r (by simpa using e)
  simp [Op.equalIn, run_underlying hu, hsz]
  rw [hl]
  cases r <;> rfl

set_option maxHeartbeats 1000000 in
/-- '==' of two values. -/
theorem eq_ok {P : Program} {c : Ctx} (hT : TIOK P c.ti) {K : Kn} {t : Nat} {lit r : Bool} {x y : DV} (e : dEq c (c.ti t) lit x y = some r) {vx vy : Value} (hx : K.V x vx) (hy : K.V y vy) (w : World) :
    (Op.equal t vx vy).run P w = .ok r w ∧ (∀ (xo yo : Operand) (op : BinOp), lit = (isLit xo || isLit yo) → (eqGuard op t xo yo vx vy).run P w = .ok () w) ∧
      (∀ k n, vx ≠ .int k n) ∧ (∀ s, vx ≠ .string s) ∧ (∀ k n, vx ≠ .float k n) ∧ (∀ k a b, vx ≠ .complex k a b) := by
  obtain ⟨dm, hd⟩ : ∃ m, Op.maxDepth = m + 2 := ⟨9998, rfl⟩
  have guard0 : (match vx, vy with | .nilIface, .nilIface => False | .agg _, .agg _ => False | _, _ => True) → ∀ (xo yo : Operand) (op : BinOp), (eqGuard op t xo yo vx vy).run P w = .ok () w := by
    intro h xo yo op
    unfold eqGuard
    cases vx <;> cases vy <;> first | exact h.elim | (simp; done) | (simp; split <;> simp_all)
  unfold dEq at e
  split at e
  · rename_i hk
    obtain ⟨d, hu, hkr⟩ := kind_ok hT hk trivial
    have hkr : d = .bool := hkr
    subst hkr
    split at e
    · cases e; cases hx; cases hy
      exact ⟨by rw [Op.equal, hd]; simp [Op.equalIn, run_underlying hu], fun xo yo op _ => guard0 trivial xo yo op, by simp, by simp, by simp, by simp⟩
    · cases e
  · rename_i fs hk
    split at e
    · rename_i xs ys
      cases hp : (c.ti t).plain with
      | false => rw [hp] at e; cases e
      | true =>
        rw [hp] at e
        simp only [cond_true] at e
        obtain ⟨cx, rfl, hxa⟩ := CsR.of_agg hx
        obtain ⟨cy, rfl, hya⟩ := CsR.of_agg hy
        obtain ⟨p1, p2, p3⟩ := plain_of hT (by rw [hk]; trivial) hp
        exact ⟨by rw [Op.equal, hd]; exact struct_eq hT hk hp hxa hya e dm (dm + 1) rfl w, fun xo yo op _ => by simp [eqGuard, p2], by simp, by simp, by simp, by simp⟩
    · cases e
  · rename_i m el hk
    split at e
    · rename_i xs ys
      cases hp : (c.ti t).plain with
      | false => rw [hp] at e; cases e
      | true =>
        rw [hp] at e
        simp only [cond_true] at e
        obtain ⟨cx, rfl, hxa⟩ := CsR.of_agg hx
        obtain ⟨cy, rfl, hya⟩ := CsR.of_agg hy
        obtain ⟨p1, p2, p3⟩ := plain_of hT (by rw [hk]; trivial) hp
        exact ⟨by rw [Op.equal, hd]; exact array_eq hT hk hxa hya e dm (dm + 1) rfl w, fun xo yo op _ => by simp [eqGuard, p2], by simp, by simp, by simp, by simp⟩
    · cases e
  · rename_i el hk
    obtain ⟨d, hu, hkr⟩ := kind_ok hT hk trivial
    have hkr : d = .pointer el := hkr
    subst hkr
    split at e <;> first | (cases e; cases hx <;> cases hy <;> exact ⟨by rw [Op.equal, hd]; simp [Op.equalIn, run_underlying hu], fun xo yo op _ => guard0 trivial xo yo op, by simp, by simp, by simp, by simp⟩) | cases e
  · rename_i el hk
    obtain ⟨d, hu, hkr⟩ := kind_ok hT hk trivial
    have hkr : d = .slice el := hkr
    subst hkr
    split at e <;> first | (cases e; cases hx <;> cases hy <;> exact ⟨by rw [Op.equal, hd]; simp [Op.equalIn, run_underlying hu], fun xo yo op _ => guard0 trivial xo yo op, by simp, by simp, by simp, by simp⟩) | cases e
  · rename_i hk
    obtain ⟨d, hu, hkr⟩ := kind_ok hT hk trivial
    obtain ⟨q1, q2, q3, hkr⟩ := hkr
    subst hkr
    split at e <;> first | (cases e; cases hx <;> cases hy <;> exact ⟨by rw [Op.equal, hd]; simp [Op.equalIn, run_underlying hu], fun xo yo op _ => guard0 trivial xo yo op, by simp, by simp, by simp, by simp⟩) | cases e
  · rename_i hk
    obtain ⟨d, hu, hkr⟩ := kind_ok hT hk trivial
    obtain ⟨q1, hkr⟩ := hkr
    subst hkr
    split at e
    · cases hl : lit with
      | false => rw [hl] at e; cases e
      | true =>
        rw [hl] at e
        cases e; cases hx; cases hy
        refine ⟨by rw [Op.equal, hd]; simp [Op.equalIn, run_underlying hu], fun xo yo op h => ?_, by simp, by simp, by simp, by simp⟩
        unfold eqGuard
        cases xo <;> cases yo <;> first | (simp [isLit] at h; done) | (simp; done) | (simp; split <;> simp_all)
    · cases e; cases hx <;> cases hy <;> exact ⟨by rw [Op.equal, hd]; simp [Op.equalIn, run_underlying hu], fun xo yo op _ => guard0 trivial xo yo op, by simp, by simp, by simp, by simp⟩
    · cases e; cases hx <;> cases hy <;> exact ⟨by rw [Op.equal, hd]; simp [Op.equalIn, run_underlying hu], fun xo yo op _ => guard0 trivial xo yo op, by simp, by simp, by simp, by simp⟩
    · cases e
  · cases e
end Dv
end

section
set_option autoImplicit false
set_option linter.unusedVariables false
set_option linter.unusedSimpArgs false
namespace Dv
open Go

theorem guard_plain {P : Program} {op : BinOp} {t : Nat} {xo yo : Operand} {vx vy : Value} (h : (∃ k n, vx = .int k n) ∨ ∃ s, vx = .string s) (w : World) : (eqGuard op t xo yo vx vy).run P w = .ok () w := by
  unfold eqGuard
  rcases h with ⟨k, n, rfl⟩ | ⟨s, rfl⟩ <;> (simp only [Sem.run_bind]; split <;> rfl)
theorem bits_ok {P : Program} {op : BinOp} {k : IntKind} {a b n : Int} (e : bitsOp op k a b = some n) (w : World) : (Op.intBits op k a b).run P w = .ok (.int k n) w := by
  unfold bitsOp at e
  cases op <;> simp only at e <;> first | (cases e; rfl) | cases e

theorem bin_ok {P : Program} {c : Ctx} (hT : TIOK P c.ti) {K : Kn} {t : Nat} {xo yo : Operand} {op : BinOp} {x y d : DV} (e : dBin c (c.ti t) (isLit xo || isLit yo) op x y = some d) {vx vy : Value} (hx : K.V x vx) (hy : K.V y vy) (w : World) :
    ∃ u, (do eqGuard op t xo yo vx vy; binOp op t vx vy : Sem Value).run P w = .ok u w ∧ K.V d u := by
  unfold dBin at e
  split at e
  · rename_i k a k' b
    cases hx; cases hy
    simp only [Sem.run_bind, guard_plain (.inl ⟨_, _, rfl⟩), Result.andThen_ok]
    split at e
    · cases hb : decide (0 ≤ b) with
      | false => rw [hb] at e; cases e
      | true =>
        rw [hb] at e
        cases e
        have hb := of_decide_eq_true hb
        have : ¬ (b < 0) := by omega
        exact ⟨_, by simp [binOp, Op.shift, this], .int ..⟩
    · cases hb : decide (0 ≤ b) with
      | false => rw [hb] at e; cases e
      | true =>
        rw [hb] at e
        cases e
        have hb := of_decide_eq_true hb
        have : ¬ (b < 0) := by omega
        exact ⟨_, by simp [binOp, Op.shift, this], .int ..⟩
    · rename_i n1 n2
      split at e
      · rename_i hkk
        subst hkk
        split at e
        · cases e; exact ⟨_, by simp [binOp, Op.intArith], .int ..⟩
        · cases e; exact ⟨_, by simp [binOp, Op.intArith], .int ..⟩
        · cases e; exact ⟨_, by simp [binOp, Op.intArith], .int ..⟩
        · cases hb : (b == 0) with
          | true => rw [hb] at e; cases e
          | false =>
            rw [hb] at e; cases e
            have hb : ¬ (b = 0) := by simpa using hb
            exact ⟨_, by simp [binOp, Op.intDiv, hb], .int ..⟩
        · cases hb : (b == 0) with
          | true => rw [hb] at e; cases e
          | false =>
            rw [hb] at e; cases e
            have hb : ¬ (b = 0) := by simpa using hb
            exact ⟨_, by simp [binOp, Op.intDiv, hb], .int ..⟩
        · cases e; exact ⟨_, by simp [binOp, Op.intCmp], .bool _⟩
        · cases e; exact ⟨_, by simp [binOp, Op.intCmp], .bool _⟩
        · cases e; exact ⟨_, by simp [binOp, Op.intCmp], .bool _⟩
        · cases e; exact ⟨_, by simp [binOp, Op.intCmp], .bool _⟩
        · cases e; exact ⟨_, by simp [binOp, Op.intCmp], .bool _⟩
        · cases e; exact ⟨_, by simp [binOp, Op.intCmp]; rfl, .bool _⟩
        · obtain ⟨n, hn, e⟩ := Option.map_eq_some_iff.1 e
          cases e
          refine ⟨.int k n, ?_, .int ..⟩
          have hr := bits_ok (P := P) hn w
          cases op <;> first | (simp [bitsOp] at hn; done) | (simpa [binOp] using hr)
      · cases e
  · cases hx; cases hy
    rename_i sa sb
    simp only [Sem.run_bind, guard_plain (.inr ⟨_, rfl⟩), Result.andThen_ok]
    split at e
    · rename_i hne hne'
      cases hb : decide (sa.data.toList.length + sb.data.toList.length ≤ maxRow) with
      | false => rw [hb] at e; cases e
      | true =>
        rw [hb] at e
        cases e
        have hb := of_decide_eq_true hb
        simp only [Array.length_toList] at hb
        have h1 : ¬ (((sa.size + sb.size : Nat) : Int) > IntKind.i64.max) := by
          have e1 : sa.data.size = sa.size := rfl
          have e2 : sb.data.size = sb.size := rfl
          have e3 : IntKind.i64.max = 9223372036854775807 := by decide
          rw [e3]; simp [maxRow] at hb; omega
        refine ⟨.string (sa ++ sb), ?_, ?_⟩
        · simp only [binOp, Op.stringOp, if_neg h1]; rfl
        · have : sa.data.toList ++ sb.data.toList = (sa ++ sb).data.toList := by simp
          rw [this]; exact .str _
    · cases e
      refine ⟨.bool (sa.data.toList == sb.data.toList), ?_, .bool _⟩
      simp only [binOp, Op.stringOp, ByteArray.toList_eq]; rfl
    · cases e
      refine ⟨.bool (!(sa.data.toList == sb.data.toList)), ?_, .bool _⟩
      simp only [binOp, Op.stringOp, ByteArray.toList_eq]; rfl
    · cases e
  · split at e
    · obtain ⟨r, hr, e⟩ := Option.map_eq_some_iff.1 e
      cases e
      obtain ⟨h1, h2, h3, h4, h5, h6⟩ := eq_ok (P := P) hT hr hx hy w
      refine ⟨.bool r, ?_, .bool r⟩
      simp only [Sem.run_bind, h2 xo yo .eql rfl, Result.andThen_ok]
      have : binOp .eql t vx vy = (do pure (.bool (← Op.equal t vx vy))) := by
        unfold binOp; split <;> simp_all
      rw [this]; simp [h1]
    · obtain ⟨r, hr, e⟩ := Option.map_eq_some_iff.1 e
      cases e
      obtain ⟨h1, h2, h3, h4, h5, h6⟩ := eq_ok (P := P) hT hr hx hy w
      refine ⟨.bool (!r), ?_, .bool _⟩
      simp only [Sem.run_bind, h2 xo yo .neq rfl, Result.andThen_ok]
      have : binOp .neq t vx vy = (do pure (.bool (!(← Op.equal t vx vy)))) := by
        unfold binOp; split <;> simp_all
      rw [this]; simp [h1]
    · cases e

theorem un_ok {P : Program} {K : Kn} {op : UnOp} {x d : DV} (e : dUn op x = some d) {vx : Value} (hx : K.V x vx) (w : World) : ∃ u, (Op.unary op vx).run P w = .ok u w ∧ K.V d u := by
  unfold dUn at e
  split at e
  · cases e; cases hx; exact ⟨_, by simp [Op.unary, Op.intArith], .int ..⟩
  · cases e; cases hx; exact ⟨_, by simp [Op.unary], .bool _⟩
  · obtain ⟨n, hn, e⟩ := Option.map_eq_some_iff.1 e
    cases e; cases hx
    exact ⟨_, bits_ok (P := P) hn w, .int ..⟩
  · cases e
theorem minmax_ok {P : Program} {K : Kn} {isMax : Bool} {x y d : DV} (e : dMinMax isMax [x, y] = some d) {vx vy : Value} (hx : K.V x vx) (hy : K.V y vy) (ts : Array TypeId) (ty : TypeId) (w : World) :
    ∃ u, ((if isMax then Builtin.max_ else Builtin.min_) ts ty #[vx, vy]).run P w = .ok u w ∧ K.V d u := by
  unfold dMinMax at e
  split at e
  · rename_i k a k' b heq
    simp only [List.cons.injEq, and_true] at heq
    obtain ⟨rfl, rfl⟩ := heq
    cases e; cases hx; cases hy
    cases isMax
    · exact ⟨_, by simp [Builtin.min_, Builtin.min2]; rfl, by simp only [cond_false]; exact .int ..⟩
    · exact ⟨_, by simp [Builtin.max_, Builtin.max2]; rfl, by simp only [cond_true]; exact .int ..⟩
  · cases e
theorem minmax_two {isMax : Bool} {xs : List DV} {d : DV} (e : dMinMax isMax xs = some d) : ∃ x y, xs = [x, y] := by
  unfold dMinMax at e
  split at e
  · exact ⟨_, _, rfl⟩
  · cases e
theorem extract_ok {P : Program} {K : Kn} {x d : DV} {n : Nat} (e : dExtract x n = some d) {vx : Value} (hx : K.V x vx) (w : World) : ∃ u, (Instr.extract vx n).run P w = .ok u w ∧ K.V d u := by
  unfold dExtract at e
  split at e
  · rename_i vs
    cases hx with
    | tup cs hs h =>
      obtain ⟨hn, rfl⟩ := List.getElem?_eq_some_iff.1 e
      have hn' : n < cs.size := by omega
      refine ⟨cs[n], by simp [Instr.extract, hn'], ?_⟩
      have := h n hn
      rwa [getD_eq cs n undef cs[n] (by simp [hn'])] at this
  · cases e
theorem makeInterface_ok {P : Program} {c : Ctx} (hT : TIOK P c.ti) {K : Kn} {t : Nat} {x : DV} {vx : Value} (hk : match (c.ti t).kind with | .iface | .other => False | _ => True) (hx : K.V x vx) (w : World) :
    ∃ u, (Instr.makeInterface t vx).run P w = .ok u w ∧ K.V (.iface t x) u := by
  obtain ⟨d, hu, hkr⟩ := (hT t (.inr (by revert hk; cases (c.ti t).kind <;> simp))).under
  refine ⟨.iface t vx, ?_, .iface hx⟩
  revert hk hkr
  cases (c.ti t).kind <;> intro hk hkr <;> simp only [KR] at hkr <;> first | exact hk.elim | (subst hkr; simp [Instr.makeInterface, run_underlying hu]) | (obtain ⟨_, rfl, _⟩ := hkr; simp [Instr.makeInterface, run_underlying hu]) | (obtain ⟨_, _, _, rfl⟩ := hkr; simp [Instr.makeInterface, run_underlying hu]) | (obtain ⟨_, rfl⟩ := hkr; simp [Instr.makeInterface, run_underlying hu])

/-! ### Maps -/
theorem findNow_ok {P : Program} {c : Ctx} (hT : TIOK P c.ti) {K : Kn} {kt : Nat} {desc : TypeDesc} (hu : P.underlying kt = some desc) {k : DV} {kv : Value} (hk : K.V k kv) : ∀ (es : List (DV × DV)) (ents : List MapEntry) (n : Nat),
    es.length = ents.length → (∀ j (hj : j < es.length) (hj' : j < ents.length), K.V es[j].1 ents[j].key ∧ K.V es[j].2 ents[j].val) → ∀ r, mapFind (c.ti kt).kind k es = some r →
    (r = none ∧ Instr.findNow desc kv ents n = some none ∧ ∀ v : DV, mapPut (c.ti kt).kind k v es = es ++ [(k, v)]) ∨
      ∃ (i : Nat) (v : DV) (u : Value), ∃ (hi : i < es.length) (hi' : i < ents.length), r = some v ∧ Instr.findNow desc kv ents n = some (some (n + i, u)) ∧ K.V v u ∧ es[i].2 = v ∧ ents[i].val = u ∧
        kindEq (c.ti kt).kind k es[i].1 = some true ∧ ∀ x : DV, mapPut (c.ti kt).kind k x es = es.set i (es[i].1, x) := by
  have same : ∀ {x : DV} {xv : Value} {b : Bool}, kindEq (c.ti kt).kind k x = some b → K.V x xv → Instr.sameNow desc kv xv = some b := by
    intro x xv b e hx
    unfold kindEq at e
    split at e
    · rename_i hkk
      obtain ⟨d, hu', hkr⟩ := kind_ok hT hkk trivial
      rw [hu] at hu'; cases hu'
      have hkr := hkr
      simp only [KR] at hkr
      subst hkr
      split at e
      · cases e; cases hk; cases hx; simp_all [Instr.sameNow]
      · cases e
    · rename_i hkk
      obtain ⟨d, hu', hkr⟩ := kind_ok hT hkk trivial
      rw [hu] at hu'; cases hu'
      simp only [KR] at hkr
      subst hkr
      cases e; cases hk; cases hx; simp [Instr.sameNow]
    · rename_i hkk
      obtain ⟨d, hu', hkr⟩ := kind_ok hT hkk trivial
      rw [hu] at hu'; cases hu'
      simp only [KR] at hkr
      subst hkr
      cases e; cases hk; cases hx; simp [Instr.sameNow, str_beq]
    · cases e
  intro es
  induction es with
  | nil =>
    intro ents n hl _ r e
    cases e
    have : ents = [] := List.eq_nil_of_length_eq_zero (by simpa using hl.symm)
    subst this
    exact .inl ⟨rfl, rfl, fun v => rfl⟩
  | cons p es ih =>
    intro ents n hl hr r e
    obtain ⟨x, v⟩ := p
    cases ents with
    | nil => simp at hl
    | cons m ents =>
      have h0 := hr 0 (by simp) (by simp)
      simp only [List.getElem_cons_zero] at h0
      simp only [mapFind] at e
      split at e
      · rename_i hke
        cases e
        refine .inr ⟨0, v, m.val, by simp, by simp, rfl, ?_, h0.2, rfl, rfl, hke, fun y => by simp [mapPut, hke]⟩
        simp [Instr.findNow, same hke h0.1]
      · rename_i hke
        rcases ih ents (n + 1) (by simpa using hl) (fun j hj hj' => hr (j + 1) (Nat.succ_lt_succ hj) (Nat.succ_lt_succ hj')) r e with ⟨e1, e2, e3⟩ | ⟨i, v', u, hi, hi', e1, e2, e3, e4, e5, e6, e7⟩
        · refine .inl ⟨e1, by simp [Instr.findNow, same hke h0.1, e2], fun y => by simp [mapPut, hke, e3]⟩
        · refine .inr ⟨i + 1, v', u, by simpa using hi, by simpa using hi', e1, ?_, e3, by simpa using e4, by simpa using e5, by simpa using e6, fun y => by simp [mapPut, hke, e7]⟩
          simp [Instr.findNow, same hke h0.1, e2]; omega
      · cases e
end Dv
end

section
set_option autoImplicit false
set_option linter.unusedVariables false
set_option linter.unusedSimpArgs false
namespace Dv
open Go

def noCells : Obj → Prop
  | .cells .. => False
  | _ => True
theorem bare_block {base : Nat} {K : Kn} {h : Heap} {w : World} (H : HR base K h w) {b : Nat} {o : DObj} (hg : hget h b = some o) (hb : bare o = true) {p : Place} (hp : K.hp b 0 = some p) : ∃ x, w.heap[p.blk]? = some x ∧ noCells x := by
  have := H.obj b o hg
  cases o with
  | mapo es => obtain ⟨_, _, h1, _⟩ := this p hp; exact ⟨_, h1, trivial⟩
  | loop => obtain ⟨_, h1, _⟩ := this p hp; exact ⟨_, h1, trivial⟩
  | _ => simp [bare] at hb

/-- A map or a loop is another one, or none more. -/
theorem setBare_ok {base : Nat} {K : Kn} {h : Heap} {w : World} (H : HR base K h w) {b : Nat} {o : DObj} (hg : hget h b = some o) (hb : bare o = true) {p : Place} (hp : K.hp b 0 = some p) (o' : DObj) (hb' : bare o' = true ∨ o' = .dead)
    {x : Obj} (hx : noCells x) (ho' : ObjR K { w with heap := w.heap.setIfInBounds p.blk x } b o') :
    HR base K (hset h b o') { w with heap := w.heap.setIfInBounds p.blk x } ∧ FP K h w K (hset h b o') { w with heap := w.heap.setIfInBounds p.blk x } := by
  obtain ⟨x0, hx0, hn0⟩ := bare_block H hg hb hp
  have hbl := hget_lt hg
  have hv0 : curVer o = 0 := by cases o <;> simp_all [bare, curVer]
  have hv0' : curVer o' = 0 := by rcases hb' with h | rfl; · cases o' <;> simp_all [bare, curVer]
                                  · rfl
  have hR0 := H.host b o p hg (by rw [hv0]; exact hp)
  have hoth : ∀ R, R ≠ p.blk → (w.heap.setIfInBounds p.blk x)[R]? = w.heap[R]? := fun R hR => by rw [Array.getElem?_setIfInBounds_ne (fun h => hR h.symm)]
  have hself : (w.heap.setIfInBounds p.blk x)[p.blk]? = some x := by rw [Array.getElem?_setIfInBounds_self]; simp [hR0.2]
  have hcell : ∀ R y, cellAt { w with heap := w.heap.setIfInBounds p.blk x } R y = cellAt w R y := fun R y => by
    by_cases hR : R = p.blk
    · subst hR
      simp only [cellAt, World.cell?, hself, hx0]
      cases x <;> cases x0 <;> first | rfl | exact hx.elim | exact hn0.elim
    · exact cellAt_congr (w' := { w with heap := w.heap.setIfInBounds p.blk x }) (hoth R hR) y
  have cases_get : ∀ b1 o1, hget (hset h b o') b1 = some o1 → (b1 = b ∧ o1 = o') ∨ (b1 ≠ b ∧ hget h b1 = some o1) := fun b1 o1 e => by
    by_cases hb1 : b1 = b
    · subst hb1; rw [hget_hset_same hbl] at e; cases e; exact .inl ⟨rfl, rfl⟩
    · rw [hget_hset_ne hb1] at e; exact .inr ⟨hb1, e⟩
  have noext : ∀ R lo hi, extOf K.hp b o' ≠ some (R, lo, hi) := fun R lo hi e => by
    rcases hb' with h | rfl
    · cases o' <;> simp_all [bare, extOf]
    · simp [extOf] at e
  have noreg : ∀ R lo hi, regOf K.hp b o' ≠ some (R, lo, hi) := fun R lo hi e => by
    obtain ⟨lo', h, _⟩ := regOf_ext e
    exact noext _ _ _ h
  refine ⟨⟨by simp; exact H.bsz, fun R y v e => (hcell R y).trans (H.fm R y v e), H.fmone, fun b1 v q e => by rw [hset_length]; exact H.dom _ _ _ e, ?_, ?_, ?_, ?_, ?_, ?_⟩,
    ⟨rfl, rfl, rfl, by simp, Kn.le.refl K, by rw [hset_length]; exact Nat.le_refl _, fun R y v h1 h2 => (by rw [h2] at h1; cases h1), ?_, ?_, fun R hR hn => hoth R fun e => hn ⟨b, o, p, hg, by rw [hv0]; exact hp, e.symm⟩, fun R y _ _ => hcell R y, fun b1 hb1 hn => ⟨hget_hset_ne (fun e => by subst e; rw [hn] at hp; cases hp), hn⟩⟩⟩
  · intro b1 o1 e
    rcases cases_get b1 o1 e with ⟨rfl, rfl⟩ | ⟨hb1, e⟩
    · exact ho'
    · refine (H.obj b1 o1 e).keep (Kn.le.refl K) rfl (fun R _ _ _ y _ _ => hcell R y) (fun hbr q hq => hoth _ ?_)
      exact H.mobj b1 b o1 o q p hb1 e hg hbr hb hq hp
  · intro b1 o1 q e e2
    rcases cases_get b1 o1 e with ⟨rfl, rfl⟩ | ⟨hb1, e⟩
    · rw [hv0'] at e2; rw [hp] at e2; cases e2; simpa using hR0
    · simpa using H.host b1 o1 q e e2
  · intro b1 o1 R lo hi e e2
    rcases cases_get b1 o1 e with ⟨rfl, rfl⟩ | ⟨hb1, e⟩
    · exact absurd e2 (noreg _ _ _)
    · obtain ⟨⟨c1, t1, f1, h1, h2⟩, h3⟩ := H.reg b1 o1 R lo hi e e2
      have hR : R ≠ p.blk := fun h => by rw [h, hx0] at h1; cases h1; exact hn0.elim
      exact ⟨⟨c1, t1, f1, (hoth R hR).trans h1, h2⟩, fun y a b => ⟨(frozen_congr (w' := { w with heap := w.heap.setIfInBounds p.blk x }) (hoth R hR) y).trans (h3 y a b).1, (h3 y a b).2⟩⟩
  · intro b1 b2 o1 o2 R lo1 hi1 lo2 hi2 hne e1 e2 x1 x2
    rcases cases_get b1 o1 e1 with ⟨rfl, rfl⟩ | ⟨hb1, f1⟩
    · exact absurd x1 (noext _ _ _)
    · rcases cases_get b2 o2 e2 with ⟨rfl, rfl⟩ | ⟨hb2, f2⟩
      · exact absurd x2 (noext _ _ _)
      · exact H.dis b1 b2 o1 o2 R lo1 hi1 lo2 hi2 hne f1 f2 x1 x2
  · intro b1 b2 o1 o2 p1 p2 hne e1 e2 r1 r2 q1 q2
    rcases cases_get b1 o1 e1 with ⟨rfl, rfl⟩ | ⟨hb1, f1⟩
    · rcases cases_get b2 o2 e2 with ⟨rfl, rfl⟩ | ⟨hb2, f2⟩
      · exact absurd rfl hne
      · exact H.mobj b1 b2 o o2 p1 p2 hne hg f2 hb r2 q1 q2
    · rcases cases_get b2 o2 e2 with ⟨rfl, rfl⟩ | ⟨hb2, f2⟩
      · exact H.mobj b1 b2 o1 o p1 p2 hne f1 hg r1 hb q1 q2
      · exact H.mobj b1 b2 o1 o2 p1 p2 hne f1 f2 r1 r2 q1 q2
  · intro b1 o1 v q e e2
    rcases cases_get b1 o1 e with ⟨rfl, rfl⟩ | ⟨hb1, e⟩
    · have := H.ver b1 o v q hg e2; omega
    · exact H.ver b1 o1 v q e e2
  · rintro R ⟨b1, o1, q, e, e2, rfl⟩
    rcases cases_get b1 o1 e with ⟨rfl, rfl⟩ | ⟨hb1, e⟩
    · rw [hv0'] at e2; exact .inr ⟨b1, o, q, hg, by rw [hv0]; exact e2, rfl⟩
    · exact .inr ⟨b1, o1, q, e, e2, rfl⟩
  · rintro R y ⟨b1, o1, lo1, hi1, e, e2, h1, h2⟩
    rcases cases_get b1 o1 e with ⟨rfl, rfl⟩ | ⟨hb1, e⟩
    · exact absurd e2 (noreg _ _ _)
    · exact .inr ⟨b1, o1, lo1, hi1, e, e2, h1, h2⟩

/-- A new map or a new loop. -/
theorem newBare_ok {base : Nat} {K : Kn} {h : Heap} {w : World} (H : HR base K h w) (o : DObj) (hb : bare o = true) (x : Obj) (hx : noCells x)
    (ho : ∀ K' : Kn, K.le K' → ObjR K' (w.alloc x) h.length o ∨ True → (∀ q, K'.hp h.length 0 = some q → q = ⟨w.heap.size, 0, 0, 0⟩) → (w.alloc x).heap[w.heap.size]? = some x → ObjR K' (w.alloc x) h.length o) :
    HR base ⟨K.fm, newHP K.hp h.length 0 ⟨w.heap.size, 0, 0, 0⟩⟩ (o :: h) (w.alloc x) ∧ FP K h w ⟨K.fm, newHP K.hp h.length 0 ⟨w.heap.size, 0, 0, 0⟩⟩ (o :: h) (w.alloc x) := by
  have hnone : ∀ v, K.hp h.length v = none := fun v => by
    cases e : K.hp h.length v with
    | none => rfl
    | some q => exact absurd (H.dom _ _ _ e) (Nat.lt_irrefl _)
  have hle : K.le ⟨K.fm, newHP K.hp h.length 0 ⟨w.heap.size, 0, 0, 0⟩⟩ := ⟨FM.le.refl _, newHP_le (hnone 0)⟩
  have hold : ∀ b v, b ≠ h.length → newHP K.hp h.length 0 ⟨w.heap.size, 0, 0, 0⟩ b v = K.hp b v := fun b v hb => newHP_ne fun e => hb e.1
  have hv : curVer o = 0 := by cases o <;> simp_all [bare, curVer]
  have hself : newHP K.hp h.length 0 ⟨w.heap.size, 0, 0, 0⟩ h.length (curVer o) = some ⟨w.heap.size, 0, 0, 0⟩ := by rw [hv]; exact newHP_same ..
  have hblk : ∀ R, R < w.heap.size → (w.alloc x).heap[R]? = w.heap[R]? := fun R hR => by show (w.heap.push _)[R]? = _; rw [Array.getElem?_push, if_neg (Nat.ne_of_lt hR)]
  have hnew : (w.alloc x).heap[w.heap.size]? = some x := by show (w.heap.push _)[w.heap.size]? = _; rw [Array.getElem?_push, if_pos rfl]
  have hsz : (w.alloc x).heap.size = w.heap.size + 1 := by simp
  have cold : ∀ R y, R < w.heap.size → cellAt (w.alloc x) R y = cellAt w R y := fun R y hR => cellAt_congr (hblk R hR) y
  have cases_get : ∀ b o', hget (o :: h) b = some o' → (b = h.length ∧ o' = o) ∨ (b ≠ h.length ∧ hget h b = some o') := fun b o' e => by
    by_cases hbl : b = h.length
    · subst hbl; rw [hget_new] at e; cases e; exact .inl ⟨rfl, rfl⟩
    · rw [hget_old hbl] at e; exact .inr ⟨hbl, e⟩
  have noext : ∀ hp R lo hi, extOf hp h.length o ≠ some (R, lo, hi) := fun hp R lo hi e => by cases o <;> simp_all [bare, extOf]
  have noreg : ∀ hp R lo hi, regOf hp h.length o ≠ some (R, lo, hi) := fun hp R lo hi e => by
    obtain ⟨lo', h, _⟩ := regOf_ext e
    exact noext _ _ _ _ h
  have extlt : ∀ b o' R lo hi, hget h b = some o' → extOf K.hp b o' = some (R, lo, hi) → R < w.heap.size := fun b o' R lo hi e1 e2 => by
    obtain ⟨q, h1, h2, _⟩ := extOf_hp e2
    exact h2 ▸ (H.host b o' q e1 h1).2
  refine ⟨⟨by rw [hsz]; have := H.bsz; omega, fun R y v e => ?_, H.fmone, ?_, ?_, ?_, ?_, ?_, ?_, ?_⟩, ⟨rfl, rfl, rfl, by rw [hsz]; omega, hle, by simp, fun R y v h1 h2 => (by rw [h2] at h1; cases h1), ?_, ?_, fun R hR _ => hblk R hR, fun R y hR _ => cold R y hR, ?_⟩⟩
  · have e' := H.fm R y v e
    exact (cold R y (cellAt_lt e')).trans e'
  · intro b v q e
    by_cases hbl : b = h.length
    · subst hbl; simp
    · have e : newHP K.hp h.length 0 _ b v = some q := e
      rw [hold b v hbl] at e; have := H.dom _ _ _ e; simp; omega
  · intro b o' e
    rcases cases_get b o' e with ⟨rfl, rfl⟩ | ⟨hbl, e⟩
    · exact ho _ hle (.inr trivial) (fun q eq => (Option.some.inj ((newHP_same K.hp h.length 0 _).symm.trans eq)).symm) hnew
    · refine (H.obj b o' e).keep hle (hold b _ hbl) (fun R lo hi he y _ _ => cold R y (extlt b o' R lo hi e he)) (fun hbr q eq => hblk _ ?_)
      refine (H.host b o' q e ?_).2
      cases o' <;> simp_all [bare, curVer]
  · intro b o' q e e2
    rcases cases_get b o' e with ⟨rfl, rfl⟩ | ⟨hbl, e⟩
    · have e2 : newHP K.hp h.length 0 _ h.length (curVer o') = some q := e2
      rw [hself] at e2; cases e2
      rw [hsz]; have := H.bsz; simp; omega
    · have e2 : newHP K.hp h.length 0 _ b (curVer o') = some q := e2
      rw [hold b _ hbl] at e2
      have := H.host b o' q e e2
      rw [hsz]; omega
  · intro b o' R lo hi e e2
    rcases cases_get b o' e with ⟨rfl, rfl⟩ | ⟨hbl, e⟩
    · exact absurd e2 (noreg _ _ _ _)
    · have e2 : regOf (newHP K.hp h.length 0 _) b o' = some (R, lo, hi) := e2
      rw [regOf_eq (hold b _ hbl)] at e2
      obtain ⟨⟨c', t', f', h1, h2⟩, h3⟩ := H.reg b o' R lo hi e e2
      have hR : R < w.heap.size := (Array.getElem?_eq_some_iff.1 h1).1
      exact ⟨⟨c', t', f', (hblk R hR).trans h1, h2⟩, fun y a b => ⟨(frozen_congr (hblk R hR) y).trans (h3 y a b).1, (h3 y a b).2⟩⟩
  · intro b b' o1 o2 R lo hi lo' hi' hne e1 e2 x1 x2
    have x1 : extOf (newHP K.hp h.length 0 _) b o1 = some (R, lo, hi) := x1
    have x2 : extOf (newHP K.hp h.length 0 _) b' o2 = some (R, lo', hi') := x2
    rcases cases_get b o1 e1 with ⟨rfl, rfl⟩ | ⟨hbl, f1⟩
    · exact absurd x1 (noext _ _ _ _)
    · rw [extOf_eq (hold b _ hbl)] at x1
      rcases cases_get b' o2 e2 with ⟨rfl, rfl⟩ | ⟨hbl', f2⟩
      · exact absurd x2 (noext _ _ _ _)
      · rw [extOf_eq (hold b' _ hbl')] at x2
        exact H.dis b b' o1 o2 R lo hi lo' hi' hne f1 f2 x1 x2
  · intro b b' o1 o2 p1 p2 hne e1 e2 b1 b2 q1 q2
    have q1 : newHP K.hp h.length 0 _ b 0 = some p1 := q1
    have q2 : newHP K.hp h.length 0 _ b' 0 = some p2 := q2
    have lt : ∀ b o p, hget h b = some o → bare o = true → K.hp b 0 = some p → p.blk < w.heap.size := fun b o p e hb hp => (H.host b o p e (by cases o <;> simp_all [bare, curVer])).2
    rcases cases_get b o1 e1 with ⟨rfl, rfl⟩ | ⟨hbl, f1⟩
    · rcases cases_get b' o2 e2 with ⟨rfl, rfl⟩ | ⟨hbl', f2⟩
      · exact absurd rfl hne
      · rw [newHP_same] at q1; cases q1
        rw [hold b' 0 hbl'] at q2
        have := lt b' o2 p2 f2 b2 q2
        simp; omega
    · rw [hold b 0 hbl] at q1
      rcases cases_get b' o2 e2 with ⟨rfl, rfl⟩ | ⟨hbl', f2⟩
      · rw [newHP_same] at q2; cases q2
        have := lt b o1 p1 f1 b1 q1
        simp; omega
      · rw [hold b' 0 hbl'] at q2
        exact H.mobj b b' o1 o2 p1 p2 hne f1 f2 b1 b2 q1 q2
  · intro b o' v q e e2
    have e2 : newHP K.hp h.length 0 _ b v = some q := e2
    rcases cases_get b o' e with ⟨rfl, rfl⟩ | ⟨hbl, e⟩
    · rcases Nat.eq_zero_or_pos v with rfl | hv0
      · omega
      · rw [newHP_ne (by omega), hnone] at e2; cases e2
    · rw [hold b _ hbl] at e2; exact H.ver b o' v q e e2
  · rintro R ⟨b, o', q, e, e2, rfl⟩
    rcases cases_get b o' e with ⟨rfl, rfl⟩ | ⟨hbl, e⟩
    · have e2 : newHP K.hp h.length 0 _ h.length (curVer o') = some q := e2
      rw [hself] at e2; cases e2; exact .inl (Nat.le_refl _)
    · have e2 : newHP K.hp h.length 0 _ b (curVer o') = some q := e2
      rw [hold b _ hbl] at e2; exact .inr ⟨b, o', q, e, e2, rfl⟩
  · rintro R y ⟨b, o', lo, hi, e, e2, h1, h2⟩
    rcases cases_get b o' e with ⟨rfl, rfl⟩ | ⟨hbl, e⟩
    · exact absurd e2 (noreg _ _ _ _)
    · have e2 : regOf (newHP K.hp h.length 0 _) b o' = some (R, lo, hi) := e2
      rw [regOf_eq (hold b _ hbl)] at e2; exact .inr ⟨b, o', lo, hi, e, e2, h1, h2⟩
  · intro b hbl hn
    exact ⟨hget_old (Nat.ne_of_lt hbl), fun v => (hold b v (Nat.ne_of_lt hbl)).trans (hn v)⟩
end Dv
end

section
set_option autoImplicit false
set_option linter.unusedVariables false
set_option linter.unusedSimpArgs false
namespace Dv
open Go

theorem zeroV_ok {P : Program} {i : TI} {t : Nat} (ht : TyOK P i t) (h1 : 1 ≤ i.size) (K : Kn) (w : World) : ∃ z, (zeroValue t).run P w = .ok z w ∧ K.V i.zeroV z := by
  obtain ⟨z, hz, hs, hl, hagg, hv⟩ := zero_cells ht w
  refine ⟨z, hz, ?_⟩
  have hv := hv K.fm K.hp
  cases ha : i.agg with
  | true =>
    obtain ⟨cs, rfl⟩ := hagg.1 ha
    have : i.zeroV = .agg i.zero := by
      unfold TI.agg at ha
      unfold TI.zeroV
      split at ha <;> simp_all
    rw [this]
    exact CsR.agg ⟨by show cs.size = _; have : cs.size = i.size := hs; omega, fun j hj => by obtain ⟨a, b, _⟩ := hv j hj; exact ⟨a, b⟩⟩
  | false =>
    have hn : ∀ cs, z ≠ .agg cs := fun cs e => by have := hagg.2 ⟨cs, e⟩; rw [ha] at this; cases this
    have hc : z.cells = #[z] := by
      revert hn
      cases z <;> intro hn <;> first | rfl | exact absurd rfl (hn _)
    have : i.zeroV = i.zero.headD .unk := by
      unfold TI.agg at ha
      unfold TI.zeroV
      split at ha <;> simp_all
    rw [this]
    obtain ⟨a, b, _⟩ := hv 0 (by omega)
    have e1 : i.zero.headD .unk = i.zero[0]'(by omega) := by
      have : ∀ (l : List DV) (h : 0 < l.length), l.headD .unk = l[0] := fun l h => by cases l with
        | nil => simp at h
        | cons x l => rfl
      exact this _ _
    rw [e1]
    have e2 : z.cells[0] = z := by simp [hc]
    rwa [e2] at b

theorem key_desc {P : Program} {c : Ctx} (hT : TIOK P c.ti) {kt : Nat} {k : DV} (h : keyOK (c.ti kt).kind k = true) : ∃ d, P.underlying kt = some d ∧ ((∃ q, d = .int q) ∨ d = .string ∨ d = .bool) := by
  unfold keyOK at h
  split at h
  · rename_i hk
    obtain ⟨d, hu, hkr⟩ := kind_ok hT hk trivial
    exact ⟨d, hu, .inl ⟨_, hkr⟩⟩
  · rename_i hk
    obtain ⟨d, hu, hkr⟩ := kind_ok hT hk trivial
    exact ⟨d, hu, .inr (.inl hkr)⟩
  · rename_i hk
    obtain ⟨d, hu, hkr⟩ := kind_ok hT hk trivial
    exact ⟨d, hu, .inr (.inr hkr)⟩
  · cases h
theorem checkKey_ok {P : Program} {kt : Nat} {d : TypeDesc} (hu : P.underlying kt = some d) (hd : (∃ q, d = .int q) ∨ d = .string ∨ d = .bool) (b : Bool) (v : Value) (n : Nat) (w : World) : (Instr.checkKey b (n + 1) kt v).run P w = .ok () w := by
  rcases hd with ⟨q, rfl⟩ | rfl | rfl <;> simp [Instr.checkKey, run_underlying hu]

theorem lookup_ok {P : Program} {c : Ctx} (hT : TIOK P c.ti) {base : Nat} {K : Kn} {h : Heap} {w : World} (H : HR base K h w) {t : Nat} {m k d : DV} {ok : Bool} {mv kv : Value} (hm : K.V m mv) (hk : K.V k kv)
    (e : dLookup c (c.ti t) m k ok h = some d) : ∃ u, (Instr.lookup t mv kv ok).run P w = .ok u w ∧ K.V d u := by
  unfold dLookup at e
  split at e
  · rename_i kt el hkind
    obtain ⟨dd, hu, hkr⟩ := kind_ok hT hkind trivial
    have hkr : dd = .map kt el := hkr
    subst hkr
    cases h1 : keyOK (c.ti kt).kind k && Nat.ble 1 (c.ti el).size with
    | false => rw [h1] at e; cases e
    | true =>
    rw [h1] at e
    simp only [cond_true] at e
    simp only [Bool.and_eq_true] at h1
    have hel := Nat.le_of_ble_eq_true h1.2
    obtain ⟨desc, huk, hdesc⟩ := key_desc hT h1.1
    split at e
    · rename_i b
      split at e
      · rename_i es hg
        cases hm with
        | mp hp =>
          rename_i p
          obtain ⟨ents, clock, g1, g2, g3⟩ := H.obj b _ hg p hp
          have hpair : ∀ j (hj : j < es.length) (hj' : j < ents.toList.length), K.V es[j].1 ents.toList[j].key ∧ K.V es[j].2 ents.toList[j].val := fun j hj hj' => by
            have := g3 j hj
            have hjs : j < ents.size := by simpa using hj'
            have e1 : ents.getD j default = ents[j] := by simp [Array.getD, hjs]
            rw [e1] at this
            simpa using this
          obtain ⟨n9, h9⟩ : ∃ n, 10000 = n + 1 := ⟨9999, rfl⟩
          split at e
          · rename_i v hf
            cases e
            rcases findNow_ok hT huk hk es ents.toList 0 (by simp [g2]) hpair _ hf with ⟨e1, _⟩ | ⟨i, v', u, hi, hi', e1, e2, e3, _⟩
            · cases e1
            · cases e1
              refine ⟨if ok then .tuple #[u, .bool true] else u, ?_, ?_⟩
              · simp only [Instr.lookup, Sem.run_bind, run_underlying hu, Result.andThen_ok, run_getObj_some g1 trivial, Sem.run_pure, h9, checkKey_ok huk hdesc, Instr.findKey, run_underlying huk, e2]
              · cases ok
                · exact e3
                · refine .tup #[u, .bool true] rfl fun j hj => ?_
                  match j, hj with
                  | 0, _ => exact e3
                  | 1, _ => exact .bool true
          · rename_i hf
            cases e
            rcases findNow_ok hT huk hk es ents.toList 0 (by simp [g2]) hpair _ hf with ⟨_, e2, _⟩ | ⟨i, v', u, hi, hi', e1, _⟩
            · obtain ⟨z, hz, hzv⟩ := zeroV_ok (hT el (.inl hel)) hel K w
              refine ⟨if ok then .tuple #[z, .bool false] else z, ?_, ?_⟩
              · simp only [Instr.lookup, Sem.run_bind, run_underlying hu, Result.andThen_ok, run_getObj_some g1 trivial, Sem.run_pure, h9, checkKey_ok huk hdesc, Instr.findKey, run_underlying huk, e2, hz]
              · cases ok
                · exact hzv
                · refine .tup #[z, .bool false] rfl fun j hj => ?_
                  match j, hj with
                  | 0, _ => exact hzv
                  | 1, _ => exact .bool false
            · cases e1
          · cases e
      · cases e
    · cases e
  · cases e

theorem kindEq_same {K : Kn} {t : TK} {x y : DV} (e : kindEq t x y = some true) {vx vy : Value} (hx : K.V x vx) (hy : K.V y vy) : vx = vy ∧ ∀ n, Instr.sameBits n vx vx = true := by
  unfold kindEq at e
  split at e
  · split at e
    · rename_i hkk
      subst hkk
      cases hx; cases hy
      simp only [Option.some.injEq, beq_iff_eq] at e
      subst e
      exact ⟨rfl, fun n => by cases n <;> simp [Instr.sameBits]⟩
    · cases e
  · cases hx; cases hy
    simp only [Option.some.injEq, beq_iff_eq] at e
    subst e
    exact ⟨rfl, fun n => by cases n <;> simp [Instr.sameBits]⟩
  · cases hx; cases hy
    rename_i sa sb
    have h : (sa == sb) = true := by rw [str_beq]; simpa using e
    have h2 : sa.data = sb.data := by
      have : (sa == sb) = (sa.data == sb.data) := by cases sa; cases sb; rfl
      rw [this] at h; simpa using h
    have h3 : sa = sb := by cases sa; cases sb; simp_all
    subst h3
    exact ⟨rfl, fun n => by cases n <;> simp [Instr.sameBits, h]⟩
  · cases e
theorem mapUpdate_ok {P : Program} {c : Ctx} (hT : TIOK P c.ti) {base : Nat} {K : Kn} {h h' : Heap} {w : World} (H : HR base K h w) {t : Nat} {m k x : DV} {mv kv xv : Value} (hm : K.V m mv) (hk : K.V k kv) (hx : K.V x xv)
    (e : dMapUpdate c (c.ti t) m k x h = some h') : ∃ w', (Instr.mapUpdate t mv kv xv).run P w = .ok () w' ∧ FP K h w K h' w' ∧ HR base K h' w' := by
  unfold dMapUpdate at e
  split at e
  · rename_i kt el hkind
    obtain ⟨dd, hu, hkr⟩ := kind_ok hT hkind trivial
    have hkr : dd = .map kt el := hkr
    subst hkr
    cases h1 : keyOK (c.ti kt).kind k with
    | false => rw [h1] at e; cases e
    | true =>
    rw [h1] at e
    simp only [cond_true] at e
    obtain ⟨desc, huk, hdesc⟩ := key_desc hT h1
    split at e
    · rename_i b
      split at e
      · rename_i es hg
        split at e
        · rename_i r hf
          cases e
          cases hm with
          | mp hp =>
            rename_i p
            obtain ⟨ents, clock, g1, g2, g3⟩ := H.obj b _ hg p hp
            have hR0 := (H.host b _ p hg hp).2
            have hget : ∀ j (hjs : j < ents.size), ents.getD j default = ents[j] := fun j hjs => by simp [Array.getD, hjs]
            have hpair : ∀ j (hj : j < es.length) (hj' : j < ents.toList.length), K.V es[j].1 ents.toList[j].key ∧ K.V es[j].2 ents.toList[j].val := fun j hj hj' => by
              have := g3 j hj
              have hjs : j < ents.size := by simpa using hj'
              rw [hget j hjs] at this
              simpa using this
            obtain ⟨n9, h9⟩ : ∃ n, 10000 = n + 1 := ⟨9999, rfl⟩
            have set_run : ∀ ents' clock', (setObj p.blk (.map ents' clock')).run P w = .ok () { w with heap := w.heap.setIfInBounds p.blk (.map ents' clock') } := fun ents' clock' => by
              simp [setObj, Sem.run, g1]
            have mk : ∀ (ents' : Array MapEntry) (clock' : Nat) (es' : List (DV × DV)), ents'.size = es'.length → (∀ j (hj : j < es'.length) (hj' : j < ents'.size), K.V es'[j].1 ents'[j].key ∧ K.V es'[j].2 ents'[j].val) →
                HR base K (hset h b (.mapo es')) { w with heap := w.heap.setIfInBounds p.blk (.map ents' clock') } ∧ FP K h w K (hset h b (.mapo es')) { w with heap := w.heap.setIfInBounds p.blk (.map ents' clock') } := by
              intro ents' clock' es' hl hv
              refine setBare_ok H hg rfl hp (.mapo es') (.inl rfl) trivial fun q hq => ?_
              rw [hp] at hq; cases hq
              refine ⟨ents', clock', by simp [hR0], hl, fun j hj => ?_⟩
              have hjs : j < ents'.size := by omega
              have e1 : ents'.getD j default = ents'[j] := by simp [Array.getD, hjs]
              rw [e1]; exact hv j hj hjs
            rcases findNow_ok hT huk hk es ents.toList 0 (by simp [g2]) hpair _ hf with ⟨e1, e2, e3⟩ | ⟨i, v', u, hi, hi', e1, e2, e3, e4, e5, e6, e7⟩
            · have := mk (ents.push { key := kv, val := xv, born := clock }) (clock + 1) (es ++ [(k, x)]) (by simp [g2]) (fun j hj hj' => by
                by_cases hjl : j < es.length
                · have h2 := hpair j hjl (by simp; omega)
                  rw [List.getElem_append_left hjl, Array.getElem_push_lt (by omega)]
                  simpa using h2
                · have hje : j = es.length := by simp at hj; omega
                  subst hje
                  have : (ents.push { key := kv, val := xv, born := clock })[es.length] = { key := kv, val := xv, born := clock } := by
                    simp [← g2]
                  rw [this]
                  simp only [List.getElem_concat_length]
                  exact ⟨hk, hx⟩)
              rw [e3]
              refine ⟨_, ?_, this.2, this.1⟩
              simp only [Instr.mapUpdate, Sem.run_bind, run_underlying hu, Result.andThen_ok, run_getObj_some g1 trivial, h9, checkKey_ok huk hdesc, Instr.findKey, run_underlying huk, e2, Sem.run_pure, set_run]
            · have hi'' : i < ents.size := by simpa using hi'
              obtain ⟨hk1, hk2⟩ := kindEq_same e6 hk (hpair i hi hi').1
              have hold : (ents[i]?.map (·.key)).getD kv = kv := by
                have : ents.toList[i].key = kv := hk1.symm
                simp [hi''] at this ⊢
                exact this
              have := mk (ents.modify i fun e => { e with key := kv, val := xv }) clock (es.set i (es[i].1, x)) (by simp [g2]) (fun j hj hj' => by
                have hjl : j < es.length := by simpa using hj
                have hje : j < ents.size := by simpa using hj'
                have h2 := hpair j hjl (by simpa using hje)
                by_cases hji : i = j
                · subst hji
                  simp only [List.getElem_set_self, Array.getElem_modify_self]
                  exact ⟨hk1 ▸ h2.1, hx⟩
                · rw [List.getElem_set_ne hji, Array.getElem_modify_of_ne hji]
                  simpa using h2)
              rw [e7]
              refine ⟨_, ?_, this.2, this.1⟩
              rw [Nat.zero_add] at e2
              simp only [Instr.mapUpdate, Sem.run_bind, run_underlying hu, Result.andThen_ok, run_getObj_some g1 trivial, h9, checkKey_ok huk hdesc, Instr.findKey, run_underlying huk, e2, Sem.run_pure, Instr.keyThatStays, hold, hk2, if_true, set_run]
        · cases e
      · cases e
    · cases e
  · cases e
end Dv
end

section
set_option autoImplicit false
set_option linter.unusedVariables false
set_option linter.unusedSimpArgs false
namespace Dv
open Go

theorem V_undef (K : Kn) : K.V (.tup []) undef := .tup #[] rfl (fun j hj => by simp at hj)
/-- What an operation's outcome puts into its temporary. -/
def Puts (r : Next) (u : Value) : Prop := r = .value u ∨ (r = .skip ∧ u = undef)

theorem parts_ok {K : Kn} {rh : Operand → DV} {ρ : Operand → Value} (hρ : ∀ x, K.V (rh x) (ρ x)) : ∀ l : List (Nat × Operand), PartsR K (l.map fun (n, x) => (n, rh x)) (l.map fun (n, x) => (n, ρ x))
  | [] => .nil
  | (n, x) :: l => .cons (hρ x) (parts_ok hρ l)
theorem vs_ok {K : Kn} {rh : Operand → DV} {ρ : Operand → Value} (hρ : ∀ x, K.V (rh x) (ρ x)) (a : Array Operand) : (a.map ρ).size = (a.toList.map rh).length ∧ ∀ j (hj : j < (a.toList.map rh).length), K.V (a.toList.map rh)[j] ((a.map ρ).getD j undef) := by
  refine ⟨by simp, fun j hj => ?_⟩
  have hj' : j < a.size := by simpa using hj
  rw [getD_eq (a.map ρ) j undef (ρ a[j]) (by simp [hj'])]
  simpa using hρ a[j]

theorem makeMap_ok {base : Nat} {K : Kn} {h : Heap} {w : World} (H : HR base K h w) {P : Program} (t : Nat) : ∃ u w' K', (Instr.makeMap t none).run P w = .ok u w' ∧ FP K h w K' (.mapo [] :: h) w' ∧ HR base K' (.mapo [] :: h) w' ∧ K'.V (.mp h.length) u := by
  have := newBare_ok H (.mapo []) rfl (.map #[] 0) trivial (fun K' _ _ hq hb p hp => by
    have := hq p hp; subst this
    exact ⟨#[], 0, hb, rfl, fun j hj => by simp at hj⟩)
  exact ⟨_, _, _, by simp [Instr.makeMap], this.2, this.1, .mp (p := ⟨w.heap.size, 0, 0, 0⟩) (newHP_same ..)⟩

theorem gen_ok {P : Program} {c : Ctx} (hT : TIOK P c.ti) {C Y : Nat → List DV → Heap → Res} {pol : Pol} {base : Nat} {K : Kn} {h h' : Heap} {w : World} (H : HR base K h w) {r : Operand → DV} {ρ : Operand → Value}
    (hρ : ∀ x, K.V (r x) (ρ x)) {o : Oper} (hno : ∀ k, o.op ≠ .call k) {d : DV} (e : evGen c C Y pol o r h = some (d, h')) :
    ∃ nx u w' K', (execOp ρ o).run P w = .ok nx w' ∧ Puts nx u ∧ FP K h w K' h' w' ∧ HR base K' h' w' ∧ K'.V d u := by
  have pure' : ∀ {s : Sem Value} {od : Option DV}, (∀ d, od = some d → ∃ u, s.run P w = .ok u w ∧ K.V d u) → od.map (·, h) = some (d, h') →
      (∀ u, s.run P w = .ok u w → (execOp ρ o).run P w = .ok (.value u) w) → ∃ nx u w' K', (execOp ρ o).run P w = .ok nx w' ∧ Puts nx u ∧ FP K h w K' h' w' ∧ HR base K' h' w' ∧ K'.V d u := by
    intro s od h1 h2 h3
    obtain ⟨d', hd, h4⟩ := Option.map_eq_some_iff.1 h2
    cases h4
    obtain ⟨u, hu, hv⟩ := h1 _ hd
    exact ⟨_, u, w, K, h3 u hu, .inl rfl, FP.refl _ _ _, H, hv⟩
  have keep : ∀ {u : Value}, (execOp ρ o).run P w = .ok (.value u) w → K.V d u → h' = h → ∃ nx u w' K', (execOp ρ o).run P w = .ok nx w' ∧ Puts nx u ∧ FP K h w K' h' w' ∧ HR base K' h' w' ∧ K'.V d u := by
    intro u h1 h2 h3
    subst h3
    exact ⟨_, u, w, K, h1, .inl rfl, FP.refl _ _ _, H, h2⟩
  cases hop : o.op with
  | move x =>
    simp only [evGen, hop] at e
    cases e
    exact keep (by simp [execOp, hop]) (hρ x) rfl
  | assign x =>
    simp only [evGen, hop] at e
    cases e
    exact keep (by simp [execOp, hop]) (hρ x) rfl
  | load t a =>
    simp only [evGen, hop] at e
    exact pure' (fun d hd => load_ok hT H (hρ a) hd) e (fun u hu => by simp [execOp, hop, hu])
  | unOp op t x =>
    simp only [evGen, hop] at e
    exact pure' (fun d hd => un_ok hd (hρ x) w) e (fun u hu => by simp [execOp, hop, hu])
  | binOp op t x y b =>
    simp only [evGen, hop] at e
    exact pure' (fun d hd => bin_ok hT hd (hρ x) (hρ y) w) e (fun u hu => by simp only [execOp, hop]; rw [Sem.run_bind, hu]; rfl)
  | fieldAddr t x f =>
    simp only [evGen, hop] at e
    exact pure' (fun d hd => fieldAddr_ok hT (hρ x) hd w) e (fun u hu => by simp [execOp, hop, hu])
  | field t x f =>
    simp only [evGen, hop] at e
    exact pure' (fun d hd => field_ok hT (hρ x) hd w) e (fun u hu => by simp [execOp, hop, hu])
  | indexAddr t x i =>
    simp only [evGen, hop] at e
    exact pure' (fun d hd => indexAddr_ok hT (hρ x) (hρ i) hd w) e (fun u hu => by simp [execOp, hop, hu])
  | index t x i =>
    simp only [evGen, hop] at e
    exact pure' (fun d hd => index_ok hT (hρ x) (hρ i) hd w) e (fun u hu => by simp [execOp, hop, hu])
  | extract x i =>
    simp only [evGen, hop] at e
    exact pure' (fun d hd => extract_ok hd (hρ x) w) e (fun u hu => by simp [execOp, hop, hu])
  | lookup t x i ok =>
    simp only [evGen, hop] at e
    exact pure' (fun d hd => lookup_ok hT H (hρ x) (hρ i) hd) e (fun u hu => by simp [execOp, hop, hu])
  | build t ps =>
    simp only [evGen, hop] at e
    exact pure' (fun d hd => build_ok hT (m := ps.map fun (n, x) => (n, ρ x)) (by simpa using parts_ok hρ ps.toList) hd w) e (fun u hu => by simp [execOp, hop, hu])
  | alloc t =>
    simp only [evGen, hop] at e
    cases hb : Nat.ble 1 (c.ti t).size with
    | false => rw [hb] at e; cases e
    | true =>
      rw [hb] at e
      cases e
      obtain ⟨w', K', a1, a2, a3, a4⟩ := alloc_op hT H (t := t) (Nat.le_of_ble_eq_true hb)
      exact ⟨_, _, w', K', by simp [execOp, hop, a1], .inl rfl, a2, a3, a4⟩
  | box t x =>
    simp only [evGen, hop] at e
    cases hb : okVal (c.ti t) (r x) with
    | false => rw [hb] at e; cases e
    | true =>
      rw [hb] at e
      cases e
      obtain ⟨w', K', a1, a2, a3, a4⟩ := box_op hT H (hρ x) hb
      exact ⟨_, _, w', K', by simp [execOp, hop, a1], .inl rfl, a2, a3, a4⟩
  | store t a x =>
    simp only [evGen, hop] at e
    obtain ⟨h1, hs, e⟩ := Option.map_eq_some_iff.1 e
    cases e
    obtain ⟨w', a1, a2, a3⟩ := store_ok hT H (hρ a) (hρ x) hs
    exact ⟨_, undef, w', K, by simp [execOp, hop, a1], .inr ⟨rfl, rfl⟩, a2, a3, V_undef K⟩
  | mapUpdate t m k v =>
    simp only [evGen, hop] at e
    obtain ⟨h1, hs, e⟩ := Option.map_eq_some_iff.1 e
    cases e
    obtain ⟨w', a1, a2, a3⟩ := mapUpdate_ok hT H (hρ m) (hρ k) (hρ v) hs
    exact ⟨_, undef, w', K, by simp [execOp, hop, a1], .inr ⟨rfl, rfl⟩, a2, a3, V_undef K⟩
  | insert t m k v =>
    simp only [evGen, hop] at e
    obtain ⟨h1, hs, e⟩ := Option.map_eq_some_iff.1 e
    cases e
    obtain ⟨w', a1, a2, a3⟩ := mapUpdate_ok hT H (hρ m) (hρ k) (hρ v) hs
    exact ⟨_, undef, w', K, by simp [execOp, hop, a1], .inr ⟨rfl, rfl⟩, a2, a3, V_undef K⟩
  | convert a b x =>
    simp only [evGen, hop] at e
    obtain ⟨u, w', K', a1, a2, a3, a4⟩ := conv_ok hT H (hρ x) e
    exact ⟨_, u, w', K', by simp [execOp, hop, a1], .inl rfl, a2, a3, a4⟩
  | makeSlice t a b =>
    simp only [evGen, hop] at e
    obtain ⟨u, w', K', a1, a2, a3, a4⟩ := makeSlice_ok hT H (hρ a) (hρ b) e
    exact ⟨_, u, w', K', by simp [execOp, hop, a1], .inl rfl, a2, a3, a4⟩
  | makeFunc f a b =>
    cases f with
    | func g =>
      simp only [evGen, hop] at e
      cases e
      exact keep (u := .func (.func g) (a.map ρ) (b.map ρ)) (by simp [execOp, hop, Instr.makeFunc]) (.fn _ _ (vs_ok hρ a).1 (vs_ok hρ b).1 (vs_ok hρ a).2 (vs_ok hρ b).2) rfl
    | _ => simp [evGen, hop] at e
  | makeMap t rs =>
    cases rs with
    | none =>
      simp only [evGen, hop] at e
      cases e
      obtain ⟨u, w', K', a1, a2, a3, a4⟩ := makeMap_ok (P := P) H t
      exact ⟨_, u, w', K', by simp [execOp, hop, a1], .inl rfl, a2, a3, a4⟩
    | some x => simp [evGen, hop] at e
  | makeInterface t x =>
    simp only [evGen, hop] at e
    have hk : match (c.ti t).kind with | .iface | .other => False | _ => True := by
      split at e <;> simp_all
    have e' : d = .iface t (r x) ∧ h' = h := by
      split at e
      · cases e
      · cases e
      · cases e; exact ⟨rfl, rfl⟩
    obtain ⟨rfl, rfl⟩ := e'
    obtain ⟨u, a1, a2⟩ := makeInterface_ok hT hk (hρ x) w
    exact keep (by simp [execOp, hop, a1]) a2 rfl
  | slice t x lo hi mx =>
    cases mx with
    | some m => simp [evGen, hop] at e
    | none =>
      simp only [evGen, hop] at e
      have ho : ∀ q : Option Operand, OptR K (q.map r) (q.map ρ) := fun q => by cases q with
        | none => trivial
        | some q => exact hρ q
      exact pure' (fun d hd => slice_ok hT (hρ x) (ho lo) (ho hi) hd w) e (fun u hu => by simp [execOp, hop, hu])
  | nilCheck x =>
    simp only [evGen, hop] at e
    have hv := hρ x
    generalize hgv : ρ x = vx at hv
    split at e <;> rename_i hx
    · cases e
      rw [hx] at hv
      cases hv with
      | ptr hp => exact keep (by simp [execOp, hop, hgv]) (.ptr hp) rfl
    · cases e
      rw [hx] at hv
      cases hv with
      | dptr R o' vals h1 h2 => exact keep (by simp [execOp, hop, hgv]) (.dptr R o' vals h1 h2) rfl
    · cases e
      rw [hx] at hv
      cases hv with
      | eptr hp => exact keep (by simp [execOp, hop, hgv]) (.eptr hp) rfl
    · cases e
      rw [hx] at hv
      cases hv with
      | fn fa ca h1 h2 h3 h4 => exact keep (by simp [execOp, hop, hgv]) (.fn fa ca h1 h2 h3 h4) rfl
      | yld hp => exact keep (by simp [execOp, hop, hgv]) (.yld hp) rfl
    · cases e
  | buildSlice t n ps =>
    simp only [evGen, hop] at e
    have hp : PartsR K (ps.toList.map fun (n, x) => (n, r x)) (ps.map fun (n, x) => (n, ρ x)).toList := by simpa using parts_ok hρ ps.toList
    split at e
    · rename_i sz es hbs
      obtain ⟨w', hr, ⟨K1, a1, a2, a3⟩, hfl⟩ := buildSlice_ok hT H hp hbs
      have hx : (execOp ρ o).run P w = .ok (.value (.slice (some ⟨w.heap.size, 0, none⟩) n n)) w' := by simp [execOp, hop, hr]
      split at e
      · rename_i dd hdst
        cases hb : mem pol.lits dd || !es.all (fun cs => cs.all DV.flat) with
        | true =>
          rw [hb] at e
          cases e
          exact ⟨_, _, w', K1, hx, .inl rfl, a1, a2, a3⟩
        | false =>
          rw [hb] at e
          cases e
          have hall : (es.all fun cs => cs.all DV.flat) = true := by
            cases hq : es.all (fun cs => cs.all DV.flat) with
            | true => rfl
            | false => rw [hq] at hb; simp at hb
          obtain ⟨K2, b1, b2, b3⟩ := hfl hall
          exact ⟨_, _, w', K2, hx, .inl rfl, b1, b2, b3⟩
      · cases e
    · cases e
  | call k => exact absurd hop (hno k)
  | _ => simp [evGen, hop] at e
end Dv
end

section
set_option autoImplicit false
set_option linter.unusedVariables false
set_option linter.unusedSimpArgs false
namespace Dv
open Go

theorem one_arg {rh : Operand → DV} {a : Array Operand} {x : DV} (e : a.toList.map rh = [x]) : ∃ xo, a = #[xo] ∧ rh xo = x := by
  rcases a with ⟨l⟩
  match l, e with
  | [xo], e => exact ⟨xo, rfl, by simpa using e⟩
theorem two_args {rh : Operand → DV} {a : Array Operand} {x y : DV} (e : a.toList.map rh = [x, y]) : ∃ xo yo, a = #[xo, yo] ∧ rh xo = x ∧ rh yo = y := by
  rcases a with ⟨l⟩
  match l, e with
  | [xo, yo], e => exact ⟨xo, yo, rfl, by simpa using e⟩
theorem arr_of {α : Type} {a : Array α} {l : List α} (e : a.toList = l) : a = l.toArray := by rw [← e]

theorem builtin_ok {P : Program} {c : Ctx} (hT : TIOK P c.ti) {C Y : Nat → List DV → Heap → Res} {base : Nat} {K : Kn} {h h' : Heap} {w : World} (H : HR base K h w) {r : Operand → DV} {ρ : Operand → Value}
    (hρ : ∀ x, K.V (r x) (ρ x)) {o : Oper} {k : Go.Call} (hop : o.op = .call k) {b : Builtin} (hb : k.callee = .builtin b) {d : DV} (e : evCallee c C Y k r h = some (d, h')) :
    ∃ nx u w' K', (execOp ρ o).run P w = .ok nx w' ∧ Puts nx u ∧ FP K h w K' h' w' ∧ HR base K' h' w' ∧ K'.V d u := by
  unfold evCallee at e
  rw [hb] at e
  simp only at e
  have fin : ∀ {s : Sem Value} {u : Value} {w' : World} {K' : Kn}, s.run P w = .ok u w' → (∀ cs : Array Bool, builtin b k.argTypes o.type cs (k.args.map ρ) = (do pure (.value (← s)) : Sem Next)) → FP K h w K' h' w' → HR base K' h' w' → K'.V d u →
      ∃ nx u w' K', (execOp ρ o).run P w = .ok nx w' ∧ Puts nx u ∧ FP K h w K' h' w' ∧ HR base K' h' w' ∧ K'.V d u := by
    intro s u w' K' h1 h2 h3 h4 h5
    refine ⟨_, u, w', K', ?_, .inl rfl, h3, h4, h5⟩
    simp only [execOp, hop, resolve, hb, Sem.run_bind, Sem.run_pure, Result.andThen_ok, invoke, h2, h1]
  split at e
  · rename_i x t ha ht
    obtain ⟨d', hd, e⟩ := Option.map_eq_some_iff.1 e
    cases e
    obtain ⟨xo, hxo, rfl⟩ := one_arg ha
    have ht := arr_of ht
    obtain ⟨u, h1, h2⟩ := len_ok (ty := o.type) hT H (hρ xo) hd
    exact fin h1 (fun cs => by rw [hxo, ht]; simp [builtin]) (FP.refl _ _ _) H h2
  · rename_i s x t t' ha ht
    split at e
    · rename_i el hk
      obtain ⟨dd, hu, hkr⟩ := kind_ok hT hk trivial
      obtain ⟨so, xo, hxo, rfl, rfl⟩ := two_args ha
      have ht := arr_of ht
      obtain ⟨u, w', K', h1, h2, h3, h4⟩ := append_ok (ty := o.type) hT H hu (.inr ⟨_, hkr⟩) (hρ so) (hρ xo) e
      exact fin h1 (fun cs => by rw [hxo, ht]; simp [builtin]) h2 h3 h4
    · rename_i hk
      obtain ⟨dd, hu, hkr⟩ := kind_ok hT hk trivial
      obtain ⟨so, xo, hxo, rfl, rfl⟩ := two_args ha
      have ht := arr_of ht
      obtain ⟨u, w', K', h1, h2, h3, h4⟩ := append_ok (ty := o.type) hT H hu (.inl hkr) (hρ so) (hρ xo) e
      exact fin h1 (fun cs => by rw [hxo, ht]; simp [builtin]) h2 h3 h4
    · cases e
  · rename_i s x t t' ha ht
    obtain ⟨so, xo, hxo, rfl, rfl⟩ := two_args ha
    have ht := arr_of ht
    obtain ⟨u, w', h1, h2, h3, h4⟩ := copy_ok (ty := o.type) (t' := t') hT H (hρ so) (hρ xo) e
    exact fin h1 (fun cs => by rw [hxo, ht]; simp [builtin]) h2 h3 h4
  · rename_i x t ha ht
    obtain ⟨xo, hxo, rfl⟩ := one_arg ha
    have ht := arr_of ht
    obtain ⟨u, w', h1, h2, h3, h4⟩ := clear_ok (ty := o.type) hT H (hρ xo) e
    exact fin h1 (fun cs => by rw [hxo, ht]; simp [builtin]) h2 h3 h4
  · obtain ⟨d', hd, e⟩ := Option.map_eq_some_iff.1 e
    cases e
    obtain ⟨x, y, ha⟩ := minmax_two hd
    obtain ⟨so, xo, hxo, rfl, rfl⟩ := two_args ha
    rw [ha] at hd
    obtain ⟨u, h1, h2⟩ := minmax_ok (P := P) hd (hρ so) (hρ xo) k.argTypes o.type w
    exact fin h1 (fun cs => by rw [hxo]; simp [builtin]) (FP.refl _ _ _) H h2
  · obtain ⟨d', hd, e⟩ := Option.map_eq_some_iff.1 e
    cases e
    obtain ⟨x, y, ha⟩ := minmax_two hd
    obtain ⟨so, xo, hxo, rfl, rfl⟩ := two_args ha
    rw [ha] at hd
    obtain ⟨u, h1, h2⟩ := minmax_ok (P := P) hd (hρ so) (hρ xo) k.argTypes o.type w
    exact fin h1 (fun cs => by rw [hxo]; simp [builtin]) (FP.refl _ _ _) H h2
  · cases e
end Dv
end

section
set_option autoImplicit false
set_option linter.unusedVariables false
set_option linter.unusedSimpArgs false
namespace Dv
open Go

/-- A local's own block: nobody else knows it. -/
structure LocalAt (K : Kn) (h : Heap) (w : World) (R : Nat) (cells : List DV) : Prop where
  lt : R < w.heap.size
  host : ¬ Host K h R
  fm : ∀ x, K.fm R x = none
  blk : ∃ c t f, w.heap[R]? = some (.cells c t f) ∧ c.size = cells.length
  free : ∀ x, x < cells.length → w.frozen? ⟨R, x, none⟩ = false
  val : ∀ j (hj : j < cells.length), ∃ v, cellAt w R j = some v ∧ K.V cells[j] v

theorem LocalAt.step {K K' : Kn} {h h' : Heap} {w w' : World} {R : Nat} {cells : List DV} (l : LocalAt K h w R cells) (f : FP K h w K' h' w') : LocalAt K' h' w' R cells := by
  have hb := f.blk R l.lt l.host
  refine ⟨Nat.lt_of_lt_of_le l.lt f.size, fun hh => ?_, fun x => ?_, ?_, fun x hx => (frozen_congr hb x).trans (l.free x hx), fun j hj => ?_⟩
  · rcases f.hostnew R hh with h1 | h1
    · exact absurd l.lt (Nat.not_lt.2 h1)
    · exact l.host h1
  · cases e : K'.fm R x with
    | none => rfl
    | some v =>
      rcases f.fmnew R x v e (l.fm x) with h1 | h1
      · exact absurd l.lt (Nat.not_lt.2 h1)
      · exact absurd h1 l.host
  · obtain ⟨c, t, f', h1, h2⟩ := l.blk
    exact ⟨c, t, f', hb.trans h1, h2⟩
  · obtain ⟨v, h1, h2⟩ := l.val j hj
    exact ⟨v, (cellAt_congr hb j).trans h1, h2.mono f.kle⟩

/-- A write into a block that the heap does not know. -/
theorem HR.poke {base : Nat} {K : Kn} {h : Heap} {w w' : World} (H : HR base K h w) {R lo hi : Nat} (W : Chg w w' R lo hi) (hh : ¬ Host K h R) (hf : ∀ x, K.fm R x = none) : HR base K h w' := by
  have hb : ∀ R', R' < w.heap.size → R' ≠ R → w'.heap[R']? = w.heap[R']? := W.oth
  have ne_host : ∀ b o p, hget h b = some o → K.hp b (curVer o) = some p → p.blk ≠ R := fun b o p e1 e2 e3 => hh ⟨b, o, p, e1, e2, e3⟩
  refine ⟨Nat.le_trans H.bsz W.size, fun R' x v e => ?_, H.fmone, H.dom, fun b o e => ?_, fun b o p e1 e2 => ⟨(H.host b o p e1 e2).1, Nat.lt_of_lt_of_le (H.host b o p e1 e2).2 W.size⟩, fun b o R' lo' hi' e1 e2 => ?_, H.dis, H.mobj, H.ver⟩
  · have hne : R' ≠ R := fun e' => by subst e'; rw [hf] at e; cases e
    have := H.fm R' x v e
    exact (cellAt_congr (hb R' (cellAt_lt this) hne) x).trans this
  · refine (H.obj b o e).keep (Kn.le.refl K) rfl (fun R' lo' hi' he x _ _ => ?_) (fun hbr p hp => ?_)
    · obtain ⟨p, h1, h2, _⟩ := extOf_hp he
      subst h2
      exact cellAt_congr (hb _ (H.host b o p e h1).2 (ne_host b o p e h1)) x
    · have h1 : K.hp b (curVer o) = some p := by cases o <;> simp_all [bare, curVer]
      exact hb _ (H.host b o p e h1).2 (ne_host b o p e h1)
  · obtain ⟨⟨c, t, f, h1, h2⟩, h3⟩ := H.reg b o R' lo' hi' e1 e2
    obtain ⟨p, g1, g2, _⟩ := regOf_hp e2
    have hR' := hb R' (Array.getElem?_eq_some_iff.1 h1).1 (g2 ▸ ne_host b o p e1 g1)
    exact ⟨⟨c, t, f, hR'.trans h1, h2⟩, fun x a1 a2 => ⟨(frozen_congr hR' x).trans (h3 x a1 a2).1, (h3 x a1 a2).2⟩⟩

/-- The footprint since an earlier state does not see a write into a block made after it. -/
theorem FP.poke {K0 K : Kn} {h0 h : Heap} {w0 w w' : World} (f : FP K0 h0 w0 K h w) {R lo hi : Nat} (W : Chg w w' R lo hi) (hR : w0.heap.size ≤ R) : FP K0 h0 w0 K h w' := by
  have hb : ∀ R', R' < w0.heap.size → w'.heap[R']? = w.heap[R']? := fun R' h' => W.oth R' (Nat.lt_of_lt_of_le h' f.size) (by omega)
  exact ⟨W.os.trans f.os, W.tape.trans f.tape, W.output.trans f.output, Nat.le_trans f.size W.size, f.kle, f.len, f.fmnew, f.hostnew, f.regnew, fun R' h1 h2 => (hb R' h1).trans (f.blk R' h1 h2),
    fun R' x h1 h2 => (cellAt_congr (hb R' h1) x).trans (f.cel R' x h1 h2), f.ghost⟩

/-- A read of a local. -/
theorem LocalAt.load {P : Program} {K : Kn} {h : Heap} {w : World} {R : Nat} {cells : List DV} (l : LocalAt K h w R cells) {i : TI} {t : Nat} (ht : TyOK P i t) {off : Nat} {d : DV} (e : rdCells i.agg i.size cells off = some d) :
    ∃ v, (loadVar t ⟨R, off, none⟩).run P w = .ok v w ∧ K.V d v := by
  have := rd_ok (P := P) ht (K := K) (w := w) (R := R) (o := 0) (off := off) (fun j hj => by simpa using l.val j hj) e
  simpa using this

/-- A write into a local. -/
theorem LocalAt.store {P : Program} {K : Kn} {h : Heap} {w : World} {R : Nat} {cells cs : List DV} (l : LocalAt K h w R cells) {i : TI} {t : Nat} (ht : TyOK P i t) {off : Nat} {x : DV} {xv : Value} (hx : K.V x xv) (hok : okVal i x = true)
    (e : wrCells cells off x.cells = some cs) : ∃ w', (storeVar t ⟨R, off, none⟩ xv).run P w = .ok () w' ∧ Chg w w' R off (off + i.size) ∧ LocalAt K h w' R cs := by
  obtain ⟨w1, w2⟩ := wrCells_len e
  obtain ⟨l1, _⟩ := okVal_ok hok hx
  obtain ⟨c, t', f, hc, hcs⟩ := l.blk
  obtain ⟨w', hr, hg, hcell⟩ := storeVar_ok ht hx hok (w := w) (R := R) (o := off) ⟨c, t', f, hc, by omega⟩ (fun j hj => l.free _ (by omega))
  refine ⟨w', hr, hg, ⟨Nat.lt_of_lt_of_le l.lt hg.size, l.host, l.fm, ?_, fun y hy => (hg.frozen hc y).trans (l.free y (by omega)), fun j hj => ?_⟩⟩
  · obtain ⟨c', h1, h2, _⟩ := hg.blk c t' f hc
    exact ⟨c', t', f, h1, by omega⟩
  · rcases wrCells_at e j hj (by omega) with ⟨⟨n1, n2⟩, e1⟩ | ⟨hn, e1⟩
    · obtain ⟨u, hu, hr1, hr2⟩ := hcell (j - off) (by omega)
      exact ⟨u, by rw [← hu]; congr 1; omega, by rw [e1]; exact hr1⟩
    · obtain ⟨u, hu, hr1⟩ := l.val j (by omega)
      exact ⟨u, (hg.cell hc _ (by omega)).trans hu, by rw [e1]; exact hr1⟩
/-- Another local does not see it. -/
theorem LocalAt.other {K : Kn} {h : Heap} {w w' : World} {R R' lo hi : Nat} {cells : List DV} (l : LocalAt K h w R cells) (W : Chg w w' R' lo hi) (hne : R ≠ R') : LocalAt K h w' R cells := by
  have hb := W.oth R l.lt hne
  obtain ⟨c, t, f, h1, h2⟩ := l.blk
  exact ⟨Nat.lt_of_lt_of_le l.lt W.size, l.host, l.fm, ⟨c, t, f, hb.trans h1, h2⟩, fun x hx => (frozen_congr hb x).trans (l.free x hx), fun j hj => by
    obtain ⟨v, a, b⟩ := l.val j hj
    exact ⟨v, (cellAt_congr hb j).trans a, b⟩⟩

/-- New blocks that the heap does not know. -/
theorem HR.grow {base : Nat} {K : Kn} {h : Heap} {w w' : World} (H : HR base K h w) (hs : w.heap.size ≤ w'.heap.size) (hb : ∀ R, R < w.heap.size → w'.heap[R]? = w.heap[R]?) (ho : w'.os = w.os) (ht : w'.tape = w.tape) (hu : w'.output = w.output) :
    HR base K h w' ∧ FP K h w K h w' := by
  refine ⟨⟨Nat.le_trans H.bsz hs, fun R' x v e => ?_, H.fmone, H.dom, fun b o e => ?_, fun b o p e1 e2 => ⟨(H.host b o p e1 e2).1, Nat.lt_of_lt_of_le (H.host b o p e1 e2).2 hs⟩, fun b o R' lo' hi' e1 e2 => ?_, H.dis, H.mobj, H.ver⟩,
    ⟨ho, ht, hu, hs, Kn.le.refl K, Nat.le_refl _, fun R x v h1 h2 => (by rw [h2] at h1; cases h1), fun _ h => .inr h, fun _ _ h => .inr h, fun R hR _ => hb R hR, fun R x hR _ => cellAt_congr (hb R hR) x, fun _ _ hn => ⟨rfl, hn⟩⟩⟩
  · have := H.fm R' x v e
    exact (cellAt_congr (hb R' (cellAt_lt this)) x).trans this
  · refine (H.obj b o e).keep (Kn.le.refl K) rfl (fun R' lo' hi' he x _ _ => ?_) (fun hbr p hp => ?_)
    · obtain ⟨p, h1, h2, _⟩ := extOf_hp he
      subst h2
      exact cellAt_congr (hb _ (H.host b o p e h1).2) x
    · have h1 : K.hp b (curVer o) = some p := by cases o <;> simp_all [bare, curVer]
      exact hb _ (H.host b o p e h1).2
  · obtain ⟨⟨c, t, f, h1, h2⟩, h3⟩ := H.reg b o R' lo' hi' e1 e2
    have hR' := hb R' (Array.getElem?_eq_some_iff.1 h1).1
    exact ⟨⟨c, t, f, hR'.trans h1, h2⟩, fun x a1 a2 => ⟨(frozen_congr hR' x).trans (h3 x a1 a2).1, (h3 x a1 a2).2⟩⟩
/-- A new local. -/
theorem LocalAt.new {base : Nat} {K : Kn} {h : Heap} {w w' : World} (H : HR base K h w) {c : Array Value} {t : TypeId} (nb : NewBlk w w' c t) {cells : List DV} (hs : c.size = cells.length)
    (hv : ∀ j (hj : j < cells.length), ∃ hj' : j < c.size, K.V cells[j] c[j]) : LocalAt K h w' w.heap.size cells := by
  obtain ⟨f, hf, _⟩ := nb.new
  refine ⟨by rw [nb.size]; omega, fun ⟨b, o, p, h1, h2, h3⟩ => ?_, fun x => ?_, ⟨c, t, f, hf, hs⟩, fun x hx => nb.free x (by omega), fun j hj => ?_⟩
  · have := (H.host b o p h1 h2).2; omega
  · cases e : K.fm w.heap.size x with
    | none => rfl
    | some v => exact absurd (cellAt_lt (H.fm _ _ _ e)) (Nat.lt_irrefl _)
  · obtain ⟨hj', hr⟩ := hv j hj
    exact ⟨c[j], by rw [nb.cell]; simp [hj'], hr⟩

/-! ### Frames -/
/-- A frame's temporaries and its locals' blocks. 'w0' is the world at the function's entry. -/
structure FrameR (n0 : Nat) (K : Kn) (h : Heap) (w : World) (pol : Pol) (LB : Nat → Nat) (fr : Fr) (rm : Rm) (tmps : Array Value) : Prop where
  tm : ∀ t, t < 256 → mem pol.locs t = false → K.V (fget fr t) (tmps.getD t undef)
  lc : ∀ d, d < 256 → mem pol.locs d = true → ∀ cells, fget fr d = .agg cells → n0 ≤ LB d ∧ LocalAt K h w (LB d) cells ∧ tmps.getD d undef = .pointer (some ⟨LB d, 0, none⟩)
  dis : ∀ d d', d < 256 → d' < 256 → mem pol.locs d = true → mem pol.locs d' = true → d ≠ d' → ∀ c c', fget fr d = .agg c → fget fr d' = .agg c' → LB d ≠ LB d'
  rm : ∀ t s off, assoc rm t = some (s, off) → t < 256 ∧ s < 256 ∧ mem pol.locs t = false ∧ mem pol.locs s = true ∧ tmps.getD t undef = .pointer (some ⟨LB s, off, none⟩)
  size : tmps.size ≤ 256
theorem FrameR.step {n0 : Nat} {K K' : Kn} {h h' : Heap} {w w' : World} {pol : Pol} {LB : Nat → Nat} {fr : Fr} {rm : Rm} {tmps : Array Value} (F : FrameR n0 K h w pol LB fr rm tmps) (f : FP K h w K' h' w') : FrameR n0 K' h' w' pol LB fr rm tmps :=
  ⟨fun t h1 h2 => (F.tm t h1 h2).mono f.kle, fun d h1 h2 cells e => by obtain ⟨a, b, c⟩ := F.lc d h1 h2 cells e; exact ⟨a, b.step f, c⟩, F.dis, F.rm, F.size⟩
end Dv
end

section
set_option autoImplicit false
set_option linter.unusedVariables false
set_option linter.unusedSimpArgs false
namespace Dv
open Go

theorem assoc_filter {α : Type} (p : Nat → Bool) : ∀ (l : List (Nat × α)) (t : Nat) (v : α), assoc (l.filter fun q => p q.1) t = some v → assoc l t = some v ∧ p t = true
  | [], t, v, h => by cases h
  | (k, x) :: l, t, v, h => by
    simp only [List.filter_cons] at h
    by_cases hk : p k = true
    · rw [if_pos hk] at h
      simp only [assoc] at h ⊢
      cases hb : (k == t) with
      | true => rw [hb] at h; have := eq_of_beq hb; subst this; exact ⟨h, hk⟩
      | false => rw [hb] at h; exact assoc_filter p l t v h
    · rw [if_neg hk] at h
      obtain ⟨h1, h2⟩ := assoc_filter p l t v h
      simp only [assoc]
      cases hb : (k == t) with
      | true => have := eq_of_beq hb; subst this; exact absurd h2 hk
      | false => exact ⟨h1, h2⟩
theorem rmDel_some {rm : Rm} {d t : Nat} {p : Nat × Nat} (h : assoc (rmDel rm (some d)) t = some p) : assoc rm t = some p ∧ t ≠ d := by
  have := assoc_filter (fun k => !Nat.beq k d) rm t p h
  refine ⟨this.1, fun e => ?_⟩
  subst e
  have h2 := this.2
  simp at h2

theorem getD_put (a : Array Value) (d t : Nat) (v : Value) (hd : d < a.size) : (a.setIfInBounds d v).getD t undef = if d = t then v else a.getD t undef := by
  by_cases h : d = t
  · subst h; simp [Array.getD, hd]
  · rw [if_neg h]
    by_cases ht : t < a.size
    · simp [Array.getD, ht, Array.getElem_setIfInBounds_ne, h]
    · simp [Array.getD, ht]

/-- A value goes into a temporary that is no local. -/
theorem FrameR.put {n0 : Nat} {K : Kn} {h : Heap} {w : World} {pol : Pol} {LB : Nat → Nat} {fr : Fr} {rm : Rm} {a : Act} (F : FrameR n0 K h w pol LB fr rm a.tmps) {dst : Option Nat} (hd : ∀ d, dst = some d → d < a.tmps.size ∧ mem pol.locs d = false)
    {v : DV} {u : Value} (hv : K.V v u) : FrameR n0 K h w pol LB (fput fr dst v) (rmDel rm dst) (a.put dst u).tmps := by
  cases dst with
  | none => exact F
  | some d =>
    obtain ⟨h1, h2⟩ := hd d rfl
    have hd256 : d < 256 := Nat.lt_of_lt_of_le h1 F.size
    have hne : ∀ {d'}, mem pol.locs d' = true → d ≠ d' := fun h e => by subst e; rw [h2] at h; cases h
    simp only [fput, Act.put]
    refine ⟨fun t t1 t2 => ?_, fun d' d1 d2 cells e => ?_, fun d1 d2 l1 l2 m1 m2 hn c c' e1 e2 => ?_, fun t s off e => ?_, by simpa using F.size⟩
    · rw [getD_put _ _ _ _ h1]
      by_cases hdt : d = t
      · subst hdt; rw [if_pos rfl, fget_fset_same _ _ _ hd256]; exact hv
      · rw [if_neg hdt, fget_fset_ne hd256 hdt]; exact F.tm t t1 t2
    · rw [fget_fset_ne hd256 (hne d2)] at e
      obtain ⟨x1, x2, x3⟩ := F.lc d' d1 d2 cells e
      exact ⟨x1, x2, by rw [getD_put _ _ _ _ h1, if_neg (hne d2)]; exact x3⟩
    · rw [fget_fset_ne hd256 (hne m1)] at e1
      rw [fget_fset_ne hd256 (hne m2)] at e2
      exact F.dis d1 d2 l1 l2 m1 m2 hn c c' e1 e2
    · obtain ⟨e1, e2⟩ := rmDel_some e
      obtain ⟨x1, x2, x3, x4, x5⟩ := F.rm t s off e1
      exact ⟨x1, x2, x3, x4, by rw [getD_put _ _ _ _ h1, if_neg (fun h => e2 h.symm)]; exact x5⟩

/-- What the operands say. -/
theorem FrameR.rho {n0 : Nat} {K : Kn} {h : Heap} {w : World} {pol : Pol} {LB : Nat → Nat} {fr : Fr} {rm : Rm} {a : Act} (F : FrameR n0 K h w pol LB fr rm a.tmps) {c : Ctx} (hg : ∀ g, K.V (c.gl g) (.pointer (some ⟨g, 0, none⟩)))
    (x : Operand) : K.V (rho c pol fr rm x) (a.eval x) := by
  cases x with
  | tmp t =>
    simp only [Dv.rho, Act.eval]
    split
    · exact .unk _
    · rename_i hl
      unfold locOf at hl
      cases hm : mem pol.locs t with
      | true => rw [hm] at hl; cases hl
      | false =>
        by_cases ht : t < 256
        · exact F.tm t ht hm
        · rw [fget_big fr t (Nat.le_of_not_lt ht)]; exact .unk _
  | const v => exact ofConst_VR _ _ 4 v
  | global g => exact hg g
  | func f => exact .fn #[] #[] rfl rfl (fun j hj => by simp at hj) (fun j hj => by simp at hj)
/-- A temporary that points into a local. -/
theorem FrameR.loc {n0 : Nat} {K : Kn} {h : Heap} {w : World} {pol : Pol} {LB : Nat → Nat} {fr : Fr} {rm : Rm} {a : Act} (F : FrameR n0 K h w pol LB fr rm a.tmps) {x : Operand} {s off : Nat} (hx : ∀ t, x = .tmp t → t < 256) (e : locOp pol rm x = some (s, off))
    {cells : List DV} (hc : fget fr s = .agg cells) : s < 256 ∧ mem pol.locs s = true ∧ a.eval x = .pointer (some ⟨LB s, off, none⟩) ∧ n0 ≤ LB s ∧ LocalAt K h w (LB s) cells := by
  cases x with
  | tmp t =>
    simp only [locOp, locOf] at e
    cases hm : mem pol.locs t with
    | true =>
      rw [hm] at e
      cases e
      obtain ⟨x1, x2, x3⟩ := F.lc _ (hx _ rfl) hm cells hc
      exact ⟨hx _ rfl, hm, x3, x1, x2⟩
    | false =>
      rw [hm] at e
      obtain ⟨x1, x2, x3, x4, x5⟩ := F.rm t s off e
      obtain ⟨y1, y2, y3⟩ := F.lc s x2 x4 cells hc
      exact ⟨x2, x4, x5, y1, y2⟩
  | _ => cases e
end Dv
end

section
set_option autoImplicit false
set_option linter.unusedVariables false
set_option linter.unusedSimpArgs false
namespace Dv
open Go

/-- A local's cells are other ones. -/
theorem FrameR.setLoc {n0 : Nat} {K : Kn} {h : Heap} {w w' : World} {pol : Pol} {LB : Nat → Nat} {fr : Fr} {rm : Rm} {tmps : Array Value} (F : FrameR n0 K h w pol LB fr rm tmps) {s : Nat} (hs : s < 256) (hm : mem pol.locs s = true)
    {cells cs : List DV} (hc : fget fr s = .agg cells) {lo hi : Nat} (W : Chg w w' (LB s) lo hi) (L : LocalAt K h w' (LB s) cs) : FrameR n0 K h w' pol LB (fset fr s (.agg cs)) rm tmps := by
  refine ⟨fun t t1 t2 => ?_, fun d d1 d2 cells' e => ?_, fun d1 d2 l1 l2 m1 m2 hn c c' e1 e2 => ?_, F.rm, F.size⟩
  · have hne : s ≠ t := fun e => by subst e; rw [hm] at t2; cases t2
    rw [fget_fset_ne hs hne]; exact F.tm t t1 t2
  · obtain ⟨x1, x2, x3⟩ := F.lc s hs hm cells hc
    by_cases hsd : s = d
    · subst hsd
      rw [fget_fset_same _ _ _ hs] at e
      cases e
      exact ⟨x1, L, x3⟩
    · rw [fget_fset_ne hs hsd] at e
      obtain ⟨y1, y2, y3⟩ := F.lc d d1 d2 cells' e
      exact ⟨y1, y2.other W (F.dis d s d1 hs d2 hm (fun h => hsd h.symm) _ _ e hc), y3⟩
  · by_cases h1 : s = d1
    · subst h1
      rw [fget_fset_ne hs hn] at e2
      exact F.dis s d2 hs l2 hm m2 hn _ _ hc e2
    · rw [fget_fset_ne hs h1] at e1
      by_cases h2 : s = d2
      · subst h2
        exact F.dis d1 s l1 hs m1 hm hn _ _ e1 hc
      · rw [fget_fset_ne hs h2] at e2
        exact F.dis d1 d2 l1 l2 m1 m2 hn _ _ e1 e2

/-- A temporary comes to point into a local. -/
theorem FrameR.point {n0 : Nat} {K : Kn} {h : Heap} {w : World} {pol : Pol} {LB : Nat → Nat} {fr : Fr} {rm : Rm} {a : Act} (F : FrameR n0 K h w pol LB fr rm a.tmps) {d s off : Nat} (hd : d < a.tmps.size) (hdl : mem pol.locs d = false) (hs : s < 256) (hm : mem pol.locs s = true) :
    FrameR n0 K h w pol LB (fset fr d .unk) ((d, (s, off)) :: rmDel rm (some d)) (a.put (some d) (.pointer (some ⟨LB s, off, none⟩))).tmps := by
  have F' := F.put (dst := some d) (fun d' e => by cases e; exact ⟨hd, hdl⟩) (v := .unk) (u := .pointer (some ⟨LB s, off, none⟩)) (.unk _)
  refine ⟨F'.tm, F'.lc, F'.dis, fun t s' off' e => ?_, F'.size⟩
  simp only [assoc] at e
  cases hb : (d == t) with
  | true =>
    rw [hb] at e
    have := eq_of_beq hb
    subst this
    simp only [cond_true, Option.some.injEq, Prod.mk.injEq] at e
    obtain ⟨rfl, rfl⟩ := e
    exact ⟨Nat.lt_of_lt_of_le hd F.size, hs, hdl, hm, by simp only [Act.put]; rw [getD_put _ _ _ _ hd, if_pos rfl]⟩
  | false =>
    rw [hb] at e
    exact F'.rm t s' off' e

/-- A new local. -/
theorem FrameR.newLoc {n0 : Nat} {K : Kn} {h : Heap} {w w' : World} {pol : Pol} {LB : Nat → Nat} {fr : Fr} {rm : Rm} {a : Act} (F : FrameR n0 K h w pol LB fr rm a.tmps) (f : FP K h w K h w') (hn0 : n0 ≤ w.heap.size) {d : Nat} (hd : d < a.tmps.size) (hdl : mem pol.locs d = true)
    (hrm : ∀ t off, assoc rm t ≠ some (d, off)) {cells : List DV} (L : LocalAt K h w' w.heap.size cells) :
    FrameR n0 K h w' pol (fun x => if x = d then w.heap.size else LB x) (fset fr d (.agg cells)) rm (a.put (some d) (.pointer (some ⟨w.heap.size, 0, none⟩))).tmps := by
  have F0 := F
  have F := F.step f
  have hd256 : d < 256 := Nat.lt_of_lt_of_le hd F.size
  simp only [Act.put]
  refine ⟨fun t t1 t2 => ?_, fun d' d1 d2 cells' e => ?_, fun d1 d2 l1 l2 m1 m2 hn c c' e1 e2 => ?_, fun t s off e => ?_, by simpa using F.size⟩
  · have hne : d ≠ t := fun e => by subst e; rw [hdl] at t2; cases t2
    rw [fget_fset_ne hd256 hne, getD_put _ _ _ _ hd, if_neg hne]; exact F.tm t t1 t2
  · by_cases hdd : d = d'
    · subst hdd
      rw [fget_fset_same _ _ _ hd256] at e
      cases e
      simp only [if_true]
      exact ⟨hn0, L, by rw [getD_put _ _ _ _ hd, if_pos rfl]⟩
    · rw [fget_fset_ne hd256 hdd] at e
      obtain ⟨y1, y2, y3⟩ := F.lc d' d1 d2 cells' e
      simp only [if_neg (fun h : d' = d => hdd h.symm)]
      exact ⟨y1, y2, by rw [getD_put _ _ _ _ hd, if_neg hdd]; exact y3⟩
  · by_cases h1 : d1 = d
    · subst h1
      rw [fget_fset_ne hd256 hn] at e2
      have := (F0.lc d2 l2 m2 _ e2).2.1.lt
      simp only [if_true, if_neg (fun h : d2 = d1 => hn h.symm)]; omega
    · rw [fget_fset_ne hd256 (fun h => h1 h.symm)] at e1
      by_cases h2 : d2 = d
      · subst h2
        have := (F0.lc d1 l1 m1 _ e1).2.1.lt
        simp only [if_true, if_neg h1]; omega
      · rw [fget_fset_ne hd256 (fun h => h2 h.symm)] at e2
        simp only [if_neg h1, if_neg h2]
        exact F.dis d1 d2 l1 l2 m1 m2 hn _ _ e1 e2
  · obtain ⟨x1, x2, x3, x4, x5⟩ := F.rm t s off e
    have hsd : s ≠ d := fun h => by subst h; exact hrm t off e
    have htd : d ≠ t := fun h => by subst h; rw [hdl] at x3; cases x3
    simp only [if_neg hsd]
    exact ⟨x1, x2, x3, x4, by rw [getD_put _ _ _ _ hd, if_neg htd]; exact x5⟩
end Dv
end

section
set_option autoImplicit false
set_option linter.unusedVariables false
set_option linter.unusedSimpArgs false
namespace Dv
open Go

/-- The fence: all is let in; the frame is a round's, or a function's. -/
def WF (ro : Option Nat) : Fence := { Fence.wide with round := ro }
theorem WF_fn (ro : Option Nat) (f : FuncId) : (WF ro).fn f := trivial
theorem WF_depth (ro : Option Nat) : (WF ro).depth.isSome = true → 1 ≤ 0 := fun h => by simp [WF, Fence.wide] at h
theorem WF_calls {ro : Option Nat} {n : Nat} {P : Program} {f : FuncId} {args : Array Value} {w : World} {R : Ending → World → Prop} : CallsIn (WF ro) n P f args w R ↔ CallsIn (WF none) n P f args w R := Iff.rfl
theorem WF_rounds {ro : Option Nat} {n : Nat} {P : Program} {l : Nat} {f : FuncId} {t : Array Value} {x y : Code} {w : World} {R : Ending → World → Prop} : RoundIn (WF ro) n P l f t x y w R ↔ RoundIn (WF none) n P l f t x y w R := Iff.rfl

/-- The marks of loops over functions among the deferred calls. -/
def MarkAt (n0 : Nat) (K : Kn) (h : Heap) (w : World) (d : Deferred) (r : Nat) : Prop :=
  d.target = .collected r ∧ n0 ≤ r ∧ r < w.heap.size ∧ ¬ Host K h r ∧ w.heap[r]? = some (.deferred (some []))
inductive DefR (n0 : Nat) (K : Kn) (h : Heap) (w : World) : List Deferred → List Nat → Prop
  | nil : DefR n0 K h w [] []
  | cons {d : Deferred} {ds : List Deferred} {r : Nat} {rs : List Nat} (hd : MarkAt n0 K h w d r) (hn : r ∉ rs) (ht : DefR n0 K h w ds rs) : DefR n0 K h w (d :: ds) (r :: rs)
theorem MarkAt.step {n0 : Nat} {K K' : Kn} {h h' : Heap} {w w' : World} {d : Deferred} {r : Nat} (m : MarkAt n0 K h w d r) (f : FP K h w K' h' w') : MarkAt n0 K' h' w' d r := by
  obtain ⟨h1, h2, h3, h4, h5⟩ := m
  exact ⟨h1, h2, Nat.lt_of_lt_of_le h3 f.size, fun hh => (f.hostnew r hh).elim (fun x => absurd h3 (Nat.not_lt.2 x)) h4, (f.blk r h3 h4).trans h5⟩
theorem DefR.step {n0 : Nat} {K K' : Kn} {h h' : Heap} {w w' : World} {ds : List Deferred} {rs : List Nat} (m : DefR n0 K h w ds rs) (f : FP K h w K' h' w') : DefR n0 K' h' w' ds rs := by
  induction m with
  | nil => exact .nil
  | cons hd hn _ ih => exact .cons (hd.step f) hn ih
theorem DefR.mem {n0 : Nat} {K : Kn} {h : Heap} {w : World} {ds : List Deferred} {rs : List Nat} (m : DefR n0 K h w ds rs) {r : Nat} (hr : r ∈ rs) : ∃ d, MarkAt n0 K h w d r := by
  induction m with
  | nil => cases hr
  | cons hd hn _ ih =>
    rcases List.mem_cons.1 hr with rfl | hr
    · exact ⟨_, hd⟩
    · exact ih hr

/-- What a function's run, or a round's, has at its entry. -/
structure Ent where
  base : Nat
  K : Kn
  h : Heap
  w : World
  nt : Nat
/-- A state of a run: frame, region's map and heap stand for temporaries and world. -/
def St (c : Ctx) (E : Ent) (pol : Pol) (fr : Fr) (rm : Rm) (h : Heap) (a : Act) (w : World) : Prop :=
  ∃ K LB rs, HR E.base K h w ∧ FP E.K E.h E.w K h w ∧ FrameR E.w.heap.size K h w pol LB fr rm a.tmps ∧ a.tmps.size = E.nt ∧ DefR E.w.heap.size K h w a.defers rs ∧ Good c h
theorem put_size (a : Act) (d : Option Nat) (v : Value) : (a.put d v).tmps.size = a.tmps.size := by cases d <;> simp [Act.put]
theorem put_defers (a : Act) (d : Option Nat) (v : Value) : (a.put d v).defers = a.defers := by cases d <;> rfl
end Dv
end

section
set_option autoImplicit false
set_option linter.unusedVariables false
set_option linter.unusedSimpArgs false
namespace Dv
open Go

/-! ### Calls, by hypothesis -/
/-- What a call of a function, by its number, comes to. -/
def Runs (P : Program) (g : FuncId) (args : Array Value) (w : World) (R : Value → World → Prop) : Prop :=
  (∃ fn, P.funcs[g]? = some fn ∧ fn.body.isSome = true ∧ (fn.name == "runtime.NumGoroutine") = false ∧ CallsIn (WF none) 0 P g args w fun e w' => ∃ u, e = .returned u ∧ R u w') ∨
  ∃ u w', (callFunc g args).run P w = .ok (.value u) w' ∧ R u w'
/-- Behind a run: memory and value are related again. -/
def After (c : Ctx) (base : Nat) (K : Kn) (h : Heap) (w : World) (h' : Heap) (v : DV) (u : Value) (w' : World) : Prop := ∃ K', FP K h w K' h' w' ∧ HR base K' h' w' ∧ K'.V v u ∧ Good c h'
def CallOK (P : Program) (c : Ctx) (C : Nat → List DV → Heap → Res) : Prop := ∀ (base : Nat) (K : Kn) (h : Heap) (w : World) (g : Nat) (ds : List DV) (args : Array Value) (v : DV) (h' : Heap), HR base K h w → Good c h → VsR K ds args → C g ds h = some (v, h') →
  Runs P g args w (After c base K h w h' v)
def YieldOK (P : Program) (c : Ctx) (Y : Nat → List DV → Heap → Res) : Prop := ∀ (base : Nat) (K : Kn) (h : Heap) (w : World) (l : Nat) (ds : List DV) (args : Array Value) (v : DV) (h' : Heap) (p : Place), HR base K h w → Good c h → VsR K ds args → Y l ds h = some (v, h') → K.hp l 0 = some p →
  ∃ r : Loop, w.heap[p.blk]? = some (.loop r) ∧ args.size = r.params.size ∧
    RoundIn (WF none) 0 P p.blk r.fn ((r.params.zip args).foldl (fun tmps (t, a) => tmps.setIfInBounds t a) r.tmps) r.assign r.body w fun e w' => ∃ u, e = .returned u ∧ After c base K h w h' v u w'

theorem run_callFunc_body {P : Program} {f : FuncId} {fn : Func} (hf : P.funcs[f]? = some fn) (hname : (fn.name == "runtime.NumGoroutine") = false) (hb : fn.body.isSome = true) (args : Array Value) (w : World) :
    (callFunc f args).run P w = .ok (.enter f args) w := by
  have h1 : ¬ fn.name = "runtime.NumGoroutine" := by simpa using hname
  have h2 : fn.body.isNone = false := by cases h : fn.body <;> simp_all
  have h3 : ¬ fn.body = none := by intro h; rw [h] at h2; cases h2
  simp [callFunc, hf, h1, h2, h3, Sem.run]
theorem VsR.append {K : Kn} {d1 d2 : List DV} {v1 v2 : Array Value} (a : VsR K d1 v1) (b : VsR K d2 v2) : VsR K (d1 ++ d2) (v1 ++ v2) := by
  refine ⟨by simp [a.1, b.1], fun j hj => ?_⟩
  by_cases h : j < d1.length
  · have hv : j < v1.size := by rw [a.1]; exact h
    have := a.2 j h
    rw [List.getElem_append_left h]
    simp only [Array.getD_eq_getD_getElem?, Array.getElem?_append_left hv] at this ⊢
    exact this
  · have hj2 : j - d1.length < d2.length := by simp at hj; omega
    have := b.2 _ hj2
    rw [List.getElem_append_right (by omega)]
    have hv : v1.size ≤ j := by rw [a.1]; omega
    simp only [Array.getD_eq_getD_getElem?, Array.getElem?_append_right hv] at this ⊢
    rw [a.1]; exact this
theorem VsR.of {K : Kn} {ds : List DV} {vs : Array Value} (h1 : vs.size = ds.length) (h2 : ∀ j (hj : j < ds.length), K.V ds[j] (vs.getD j undef)) : VsR K ds vs := ⟨h1, h2⟩

section
variable {P : Program} {ro : Option Nat} {o : Oper} {a : Act} {w : World} {next : Act → World → Prop} {Q : Exit → Act → World → Prop}
theorem puts_wp (hnd : ∀ c, o.op ≠ .defer c) {nx : Next} {u : Value} {w' : World} (hx : (execOp a.eval o).run P w = .ok nx w') (hp : Puts nx u) (hn : next (a.put o.dst u) w') : o.wpIn (WF ro) 0 P a w next Q := by
  refine ⟨fun _ _ => trivial, ?_⟩
  rw [Oper.semAt_eq _ _ _ hnd, hx]
  rcases hp with rfl | ⟨rfl, rfl⟩
  · exact hn
  · exact hn
theorem call_wp {k : Go.Call} (hop : o.op = .call k) {f : Operand} (hk : k.callee = .value f) {g : Nat} {fa ca : Array Value} (hf : a.eval f = .func (.func g) fa ca) {R : Value → World → Prop} (hr : Runs P g (fa ++ k.args.map a.eval ++ ca) w R)
    (hn : ∀ u w', R u w' → next (a.put o.dst u) w') : o.wpIn (WF ro) 0 P a w next Q := by
  refine ⟨fun _ _ => trivial, ?_⟩
  rw [Oper.semAt_eq _ _ _ (fun c hc => by rw [hop] at hc; cases hc)]
  have hx : (execOp a.eval o).run P w = (callFunc g (fa ++ k.args.map a.eval ++ ca)).run P w := by
    simp only [execOp, hop, resolve, hk, hf, Deferred.ofValue, Sem.run_bind, Sem.run_pure, Result.andThen_ok, invoke]
  rw [hx]
  rcases hr with ⟨fn, h1, h2, h3, h4⟩ | ⟨u, w', h1, h2⟩
  · rw [run_callFunc_body h1 h3 h2]
    refine ⟨WF_depth ro, CallsIn.mono (WF_calls.2 h4) fun e w' he => ?_⟩
    obtain ⟨u, rfl, hR⟩ := he
    exact hn u w' hR
  · rw [h1]; exact hn u w' h2
theorem yield_wp {k : Go.Call} (hop : o.op = .call k) {f : Operand} (hk : k.callee = .value f) {l : Nat} (hf : a.eval f = .func (.yield l) #[] #[]) {R : Value → World → Prop} {r : Loop} (hl : w.heap[l]? = some (.loop r)) (hs : (k.args.map a.eval).size = r.params.size)
    (hr : RoundIn (WF none) 0 P l r.fn ((r.params.zip (k.args.map a.eval)).foldl (fun tmps (t, a) => tmps.setIfInBounds t a) r.tmps) r.assign r.body w fun e w' => ∃ u, e = .returned u ∧ R u w')
    (hn : ∀ u w', R u w' → next (a.put o.dst u) w') : o.wpIn (WF ro) 0 P a w next Q := by
  refine ⟨fun _ _ => trivial, ?_⟩
  rw [Oper.semAt_eq _ _ _ (fun c hc => by rw [hop] at hc; cases hc)]
  have hx : (execOp a.eval o).run P w = (Instr.yield l (k.args.map a.eval)).run P w := by
    simp only [execOp, hop, resolve, hk, hf, Deferred.ofValue, Sem.run_bind, Sem.run_pure, Result.andThen_ok, invoke]
    simp
  rw [hx, run_yield hl hs]
  refine ⟨WF_depth ro, RoundIn.mono (WF_rounds.2 hr) fun e w' he => ?_⟩
  obtain ⟨u, rfl, hR⟩ := he
  exact hn u w' hR
end

/-! ### Loops' records stay -/
def Quiet (h h' : Heap) : Prop := ∀ b fr ps as_ bd pol st pe, hget h' b = some (.loop fr ps as_ bd pol st pe) → hget h b = some (.loop fr ps as_ bd pol st pe)
def notLoop : DObj → Bool
  | .loop .. => false
  | _ => true
theorem Quiet.refl (h : Heap) : Quiet h h := fun _ _ _ _ _ _ _ _ e => e
theorem Quiet.cons (h : Heap) {o : DObj} (ho : notLoop o = true) : Quiet h (o :: h) := fun b fr ps as_ bd pol st pe e => by
  by_cases hb : b = h.length
  · subst hb; rw [hget_new] at e; cases e; cases ho
  · rwa [hget_old hb] at e
theorem Quiet.set (h : Heap) (b : Nat) {o : DObj} (ho : notLoop o = true) : Quiet h (hset h b o) := fun b' fr ps as_ bd pol st pe e => by
  by_cases hb : b' = b
  · subst hb
    by_cases hl : b' < h.length
    · rw [hget_hset_same hl] at e; cases e; cases ho
    · rw [hget_none (by rw [hset_length]; omega)] at e; cases e
  · rwa [hget_hset_ne hb] at e
theorem Quiet.good {c : Ctx} {h h' : Heap} (q : Quiet h h') (G : Good c h) : Good c h' := fun b fr ps as_ bd pol st pe e => G b fr ps as_ bd pol st pe (q b fr ps as_ bd pol st pe e)
theorem map_quiet {h h' : Heap} {α : Type} {od : Option α} {v : α} (e : od.map (·, h) = some (v, h')) : Quiet h h' := by
  obtain ⟨x, _, hx⟩ := Option.map_eq_some_iff.1 e
  cases hx; exact Quiet.refl h
theorem dStore_quiet {i : TI} {p x : DV} {h h' : Heap} (e : dStore i p x h = some h') : Quiet h h' := by
  unfold dStore at e
  cases hb : okVal i x <;> rw [hb] at e
  · cases e
  · simp only [cond_true] at e
    split at e
    · split at e
      · split at e
        · cases e; exact Quiet.set _ _ rfl
        · cases e
      · cases e
    · split at e
      · split at e
        · split at e
          · split at e
            · cases e; exact Quiet.set _ _ rfl
            · cases e
          · cases e
        · cases e
      · cases e
    · cases e
theorem bif_some {α : Type} {q : Bool} {t u : α} (e : (bif q then some t else none) = some u) : t = u := by
  cases q
  · cases e
  · exact Option.some.inj e
theorem dAppend_quiet {c : Ctx} {i : TI} {s x v : DV} {h h' : Heap} (e : dAppend c i s x h = some (v, h')) : Quiet h h' := by
  unfold dAppend at e
  split at e
  · rename_i el _
    cases hb : Nat.ble 1 (c.ti el).size <;> rw [hb] at e
    · cases e
    · simp only [cond_true] at e
      split at e
      · split at e
        · split at e
          · cases e; exact Quiet.refl _
          · have := bif_some e
            cases this; exact Quiet.cons _ rfl
        · split at e
          · split at e
            · cases e; exact Quiet.set _ _ rfl
            · cases e
          · cases e
        · cases e
      · cases e
  · cases e
theorem dCopy_quiet {c : Ctx} {i : TI} {s x v : DV} {h h' : Heap} (e : dCopy c i s x h = some (v, h')) : Quiet h h' := by
  unfold dCopy at e
  split at e
  · rename_i el _
    cases hb : Nat.ble 1 (c.ti el).size <;> rw [hb] at e
    · cases e
    · simp only [cond_true] at e
      split at e
      · split at e
        · split at e
          · cases e; exact Quiet.set _ _ rfl
          · cases e
        · cases e
      · cases e; exact Quiet.refl _
      · cases e
  · cases e
theorem dClear_quiet {c : Ctx} {i : TI} {s v : DV} {h h' : Heap} (e : dClear c i s h = some (v, h')) : Quiet h h' := by
  unfold dClear at e
  split at e
  · split at e
    · cases e; exact Quiet.refl _
    · split at e
      · split at e
        · cases e; exact Quiet.set _ _ rfl
        · cases e
      · cases e
    · cases e
  · cases e
theorem dMakeSlice_quiet {c : Ctx} {i : TI} {a b v : DV} {h h' : Heap} (e : dMakeSlice c i a b h = some (v, h')) : Quiet h h' := by
  unfold dMakeSlice at e
  split at e
  · rename_i el _ n _ k _
    cases hb : (decide (0 ≤ n ∧ n ≤ k ∧ k ≤ (maxRow : Int)) && decide (1 ≤ (c.ti el).size) && decide ((c.ti el).bytes ≤ 4096)) <;> rw [hb] at e
    · cases e
    · cases e; exact Quiet.cons _ rfl
  · cases e
theorem dMapUpdate_quiet {c : Ctx} {i : TI} {m k v : DV} {h h' : Heap} (e : dMapUpdate c i m k v h = some h') : Quiet h h' := by
  unfold dMapUpdate at e
  split at e
  · rename_i kt _ _
    cases hb : keyOK (c.ti kt).kind k <;> rw [hb] at e
    · cases e
    · simp only [cond_true] at e
      split at e
      · split at e
        · split at e
          · cases e; exact Quiet.set _ _ rfl
          · cases e
        · cases e
      · cases e
  · cases e
theorem dConv_quiet {c : Ctx} {same : Bool} {i i' : TI} {x v : DV} {h h' : Heap} (e : dConv c same i i' x h = some (v, h')) : Quiet h h' := by
  unfold dConv at e
  cases hb : Nat.beq i.size 0 <;> rw [hb] at e
  · simp only [cond_false] at e
    split at e
    · cases e; exact Quiet.refl _
    · cases e; exact Quiet.refl _
    · rename_i el _ _ _ _ _ len _
      cases hb2 : (same && Nat.ble 1 len) <;> rw [hb2] at e
      · cases e
      · simp only [cond_true] at e
        split at e
        · split at e
          · split at e
            · cases e; exact Quiet.refl _
            · cases e
          · cases e
        · cases e
    · rename_i el s _
      split at e
      · cases hb2 : (decide (s.length ≤ maxRow) && Nat.beq (c.ti el).size 1) <;> rw [hb2] at e
        · cases e
        · cases e; exact Quiet.cons _ rfl
      · cases e
    · split at e
      · split at e
        · obtain ⟨x, _, hx⟩ := Option.map_eq_some_iff.1 e
          cases hx; exact Quiet.refl _
        · cases e
      · cases e
    · cases e
  · cases e
theorem evGen_quiet {c : Ctx} {C Y : Nat → List DV → Heap → Res} {pol : Pol} {o : Oper} {r : Operand → DV} {v : DV} {h h' : Heap} (hcall : ∀ k, o.op = .call k → ∃ b, k.callee = .builtin b) (e : evGen c C Y pol o r h = some (v, h')) : Quiet h h' := by
  cases hop : o.op with
  | move x => simp only [evGen, hop] at e; cases e; exact Quiet.refl _
  | assign x => simp only [evGen, hop] at e; cases e; exact Quiet.refl _
  | alloc t =>
    simp only [evGen, hop] at e
    cases hb : Nat.ble 1 (c.ti t).size <;> rw [hb] at e <;> cases e
    exact Quiet.cons _ rfl
  | box t x =>
    simp only [evGen, hop] at e
    cases hb : okVal (c.ti t) (r x) <;> rw [hb] at e <;> cases e
    exact Quiet.cons _ rfl
  | build t ps => simp only [evGen, hop] at e; exact map_quiet e
  | buildSlice t n ps =>
    simp only [evGen, hop] at e
    split at e
    · rename_i sz es _
      split at e
      · rename_i d _
        cases hb : (mem pol.lits d || !es.all fun cs => cs.all DV.flat) <;> rw [hb] at e <;> cases e
        · exact Quiet.refl _
        · exact Quiet.cons _ rfl
      · cases e
    · cases e
  | load t a => simp only [evGen, hop] at e; exact map_quiet e
  | store t a x =>
    simp only [evGen, hop] at e
    obtain ⟨h1, hs, e⟩ := Option.map_eq_some_iff.1 e
    cases e
    exact dStore_quiet hs
  | nilCheck x => simp only [evGen, hop] at e; split at e <;> cases e <;> exact Quiet.refl _
  | binOp op t x y b => simp only [evGen, hop] at e; exact map_quiet e
  | unOp op t x => simp only [evGen, hop] at e; exact map_quiet e
  | convert a b x => simp only [evGen, hop] at e; exact dConv_quiet e
  | makeInterface t x => simp only [evGen, hop] at e; split at e <;> cases e <;> exact Quiet.refl _
  | makeFunc f a b => cases f <;> simp only [evGen, hop] at e <;> cases e <;> exact Quiet.refl _
  | makeMap t rs => cases rs <;> simp only [evGen, hop] at e <;> cases e; exact Quiet.cons _ rfl
  | makeSlice t a b => simp only [evGen, hop] at e; exact dMakeSlice_quiet e
  | slice t x lo hi mx => cases mx <;> simp only [evGen, hop] at e <;> first | exact map_quiet e | cases e
  | fieldAddr t x f => simp only [evGen, hop] at e; exact map_quiet e
  | field t x f => simp only [evGen, hop] at e; exact map_quiet e
  | indexAddr t x i => simp only [evGen, hop] at e; exact map_quiet e
  | index t x i => simp only [evGen, hop] at e; exact map_quiet e
  | lookup t x i b => simp only [evGen, hop] at e; exact map_quiet e
  | mapUpdate t m k x =>
    simp only [evGen, hop] at e
    obtain ⟨h1, hs, e⟩ := Option.map_eq_some_iff.1 e
    cases e
    exact dMapUpdate_quiet hs
  | insert t m k x =>
    simp only [evGen, hop] at e
    obtain ⟨h1, hs, e⟩ := Option.map_eq_some_iff.1 e
    cases e
    exact dMapUpdate_quiet hs
  | extract x i => simp only [evGen, hop] at e; exact map_quiet e
  | call k =>
    obtain ⟨b, hb⟩ := hcall k hop
    simp only [evGen, hop, evCallee, hb] at e
    split at e <;> first | exact map_quiet e | exact dCopy_quiet e | exact dClear_quiet e | (split at e <;> first | exact dAppend_quiet e | cases e) | cases e
  | _ => simp [evGen, hop] at e

/-- An operation that has no local in it, calls and all. -/
theorem gen_wp {P : Program} {c : Ctx} (hT : TIOK P c.ti) {C Y : Nat → List DV → Heap → Res} (hC : CallOK P c C) (hY : YieldOK P c Y) {pol : Pol} {ro : Option Nat} {base : Nat} {K : Kn} {h h' : Heap} {w : World} (H : HR base K h w) (G : Good c h) {a : Act} {r : Operand → DV}
    (hρ : ∀ x, K.V (r x) (a.eval x)) {o : Oper} {v : DV} (e : evGen c C Y pol o r h = some (v, h')) {next : Act → World → Prop} {Q : Exit → Act → World → Prop}
    (hn : ∀ u w', After c base K h w h' v u w' → next (a.put o.dst u) w') : o.wpIn (WF ro) 0 P a w next Q := by
  by_cases hcall : ∃ k, o.op = .call k
  · obtain ⟨k, hop⟩ := hcall
    have hnd : ∀ c, o.op ≠ .defer c := fun c hc => by rw [hop] at hc; cases hc
    have e' : evCallee c C Y k r h = some (v, h') := by simpa only [evGen, hop] using e
    cases hk : k.callee with
    | builtin b =>
      obtain ⟨nx, u, w', K', h1, h2, h3, h4, h5⟩ := builtin_ok (P := P) hT H hρ hop hk e'
      exact puts_wp hnd h1 h2 (hn u w' ⟨K', h3, h4, h5, (evGen_quiet (fun k' hk' => by rw [hop] at hk'; cases hk'; exact ⟨b, hk⟩) e).good G⟩)
    | value f =>
      unfold evCallee at e'
      rw [hk] at e'
      simp only at e'
      have hv := hρ f
      have hargs : VsR K (k.args.toList.map r) (k.args.map a.eval) := VsR.of (vs_ok hρ k.args).1 (vs_ok hρ k.args).2
      split at e'
      · rename_i g first caps hf
        rw [hf] at hv
        generalize hfv : a.eval f = fv at hv
        cases hv with
        | fn fa ca hfa hca h1 h2 =>
          refine call_wp hop hk hfv (hC base K h w g _ _ v h' H G ?_ e') hn
          rw [Array.append_assoc]
          exact (VsR.of hfa h1).append (hargs.append (VsR.of hca h2))
      · rename_i l hf
        rw [hf] at hv
        generalize hfv : a.eval f = fv at hv
        cases hv with
        | yld hp =>
          obtain ⟨rr, h1, h2, h3⟩ := hY base K h w l _ _ v h' _ H G hargs e' hp
          exact yield_wp hop hk hfv h1 h2 h3 hn
      · cases e'
    | invoke x y =>
      unfold evCallee at e'
      rw [hk] at e'
      cases e'
  · have hno : ∀ k, o.op ≠ .call k := fun k hk => hcall ⟨k, hk⟩
    obtain ⟨nx, u, w', K', h1, h2, h3, h4, h5⟩ := gen_ok (P := P) hT H hρ hno e
    exact puts_wp (fun cc hc => by simp only [evGen, hc] at e; cases e) h1 h2 (hn u w' ⟨K', h3, h4, h5, (evGen_quiet (fun k hk => absurd hk (hno k)) e).good G⟩)
end Dv
end

section
set_option autoImplicit false
set_option linter.unusedVariables false
set_option linter.unusedSimpArgs false
namespace Dv
open Go

theorem assoc_mem {α : Type} : ∀ (l : List (Nat × α)) (t : Nat) (v : α), assoc l t = some v → (t, v) ∈ l
  | [], _, _, h => by cases h
  | (k, x) :: l, t, v, h => by
    simp only [assoc] at h
    cases hb : (k == t) with
    | true => rw [hb] at h; have := eq_of_beq hb; subst this; cases h; exact List.mem_cons_self ..
    | false => rw [hb] at h; exact List.mem_cons_of_mem _ (assoc_mem l t v h)
theorem rmHas_no {rm : Rm} {d : Nat} (h : rmHas rm d = false) (t off : Nat) : assoc rm t ≠ some (d, off) := fun e => by
  have hm := assoc_mem rm t (d, off) e
  unfold rmHas at h
  rw [List.any_eq_false] at h
  have := h _ hm
  simp only [e] at this
  simp at this
theorem rmHas_mk {rm : Rm} {d : Nat} (h : ∀ t off, assoc rm t ≠ some (d, off)) : rmHas rm d = false := by
  unfold rmHas
  rw [List.any_eq_false]
  intro x _ hx
  cases e : assoc rm x.1 with
  | none => rw [e] at hx; cases hx
  | some q =>
    rw [e] at hx
    have := Nat.eq_of_beq_eq_true hx
    exact h x.1 q.2 (by rw [e, ← this])
theorem DefR.poke {n0 : Nat} {K : Kn} {h : Heap} {w w' : World} {ds : List Deferred} {rs : List Nat} (m : DefR n0 K h w ds rs) {R lo hi : Nat} (W : Chg w w' R lo hi) (hR : ∃ c t f, w.heap[R]? = some (.cells c t f)) : DefR n0 K h w' ds rs := by
  induction m with
  | nil => exact .nil
  | cons hd hn _ ih =>
    obtain ⟨h1, h2, h3, h4, h5⟩ := hd
    refine .cons ⟨h1, h2, Nat.lt_of_lt_of_le h3 W.size, h4, ?_⟩ hn ih
    rw [W.oth _ h3 ?_]
    · exact h5
    · rintro rfl
      obtain ⟨c, t, f, hc⟩ := hR
      rw [hc] at h5; cases h5

theorem blt_lt {a b : Nat} (h : Nat.blt a b = true) : a < b := by simpa [Nat.blt_eq] using h
theorem opOK_dst {pol : Pol} {nt : Nat} {o : Oper} (h : opOK pol nt o = true) {d : Nat} (hd : o.dst = some d) : d < nt ∧ (mem pol.locs d = true → o.guard = none ∧ match o.op with | .alloc _ | .box _ _ => True | _ => False) := by
  unfold opOK at h
  rw [hd] at h
  simp only [Bool.and_eq_true, Bool.or_eq_true, Bool.not_eq_true'] at h
  obtain ⟨⟨h1, h2⟩, _⟩ := h
  refine ⟨blt_lt h1, fun hm => ?_⟩
  rcases h2 with h2 | ⟨h2, h3⟩
  · rw [hm] at h2; cases h2
  · refine ⟨by simpa using h2, ?_⟩
    split at h3 <;> simp_all
theorem opOK_tmp {pol : Pol} {nt : Nat} {o : Oper} (h : opOK pol nt o = true) {x : Operand} (hx : x ∈ o.op.operands.toList) : ∀ t, x = .tmp t → t < 256 := by
  unfold opOK at h
  simp only [Bool.and_eq_true, List.all_eq_true] at h
  intro t e
  subst e
  exact blt_lt (h.2 _ hx)

theorem evOper_wp {P : Program} {c : Ctx} (hT : TIOK P c.ti) (hg : ∀ (K : Kn) g, K.V (c.gl g) (.pointer (some ⟨g, 0, none⟩))) {C Y : Nat → List DV → Heap → Res} (hC : CallOK P c C) (hY : YieldOK P c Y) {pol : Pol} {ro : Option Nat} {E : Ent} {α : Type}
    {fr : Fr} {rm : Rm} {h : Heap} {a : Act} {w : World} (S : St c E pol fr rm h a w) {o : Oper} (ho : opOK pol E.nt o = true) {Kc : Fr → Rm → Heap → Option α} {r : α} (e : evOper c C Y pol o fr rm h Kc = some r) {next : Act → World → Prop} {Q : Exit → Act → World → Prop}
    (hn : ∀ fr' rm' h' a' w', Kc fr' rm' h' = some r → St c E pol fr' rm' h' a' w' → next a' w') : o.wpIn (WF ro) 0 P a w next Q := by
  obtain ⟨K, LB, rs, H, f0, F, hs, hd, G⟩ := S
  have hdl : ∀ d, o.dst = some d → d < a.tmps.size := fun d e => by rw [hs]; exact (opOK_dst ho e).1
  have hne : (match o.op with | .alloc _ | .box _ _ => True | _ => False) ∨ ∀ d, o.dst = some d → mem pol.locs d = false := by
    by_cases hp : (match o.op with | .alloc _ | .box _ _ => True | _ => False)
    · exact .inl hp
    · refine .inr fun d e => ?_
      cases hm : mem pol.locs d with
      | false => rfl
      | true => exact absurd ((opOK_dst ho e).2 hm).2 hp
  have gen : (match evGen c C Y pol o (rho c pol fr rm) h with | some (v, h') => Kc (fput fr o.dst v) (rmDel rm o.dst) h' | none => none) = some r → (∀ d, o.dst = some d → mem pol.locs d = false) → o.wpIn (WF ro) 0 P a w next Q := by
    intro e hl
    split at e
    · rename_i v h' he
      refine gen_wp hT hC hY H G (fun x => F.rho (hg K) x) he (fun u w' hu => ?_)
      obtain ⟨K', g1, g2, g3, g4⟩ := hu
      exact hn _ _ _ _ _ e ⟨K', LB, rs, g2, f0.trans g1, (F.step g1).put (fun d hd' => ⟨hdl d hd', hl d hd'⟩) g3, by rw [put_size]; exact hs, by rw [put_defers]; exact hd.step g1, g4⟩
    · cases e
  -- a value, the world as it was
  have val : (∀ d, o.dst = some d → mem pol.locs d = false) → (∀ c, o.op ≠ .defer c) → ∀ {d : DV} {u : Value}, (execOp a.eval o).run P w = .ok (.value u) w → K.V d u → Kc (fput fr o.dst d) (rmDel rm o.dst) h = some r → o.wpIn (WF ro) 0 P a w next Q := by
    intro hl hnd d u hx hv e
    exact puts_wp hnd hx (.inl rfl) (hn _ _ _ _ _ e ⟨K, LB, rs, H, f0, F.put (fun d hd' => ⟨hdl d hd', hl d hd'⟩) hv, by rw [put_size]; exact hs, by rw [put_defers]; exact hd, G⟩)
  -- a pointer into a local
  have point : (∀ d, o.dst = some d → mem pol.locs d = false) → (∀ c, o.op ≠ .defer c) → ∀ {d s off : Nat}, o.dst = some d → s < 256 → mem pol.locs s = true → (execOp a.eval o).run P w = .ok (.value (.pointer (some ⟨LB s, off, none⟩))) w →
      Kc (fset fr d .unk) ((d, (s, off)) :: rmDel rm (some d)) h = some r → o.wpIn (WF ro) 0 P a w next Q := by
    intro hl hnd d s off hd' hs256 hm hx e
    refine puts_wp hnd hx (.inl rfl) (hn _ _ _ _ _ e ⟨K, LB, rs, H, f0, ?_, by rw [put_size]; exact hs, by rw [put_defers]; exact hd, G⟩)
    rw [hd']
    exact F.point (hdl d hd') (hl d hd') hs256 hm
  cases hop : o.op with
  | pick x y z =>
    have hl : ∀ d, o.dst = some d → mem pol.locs d = false := by simpa [hop] using hne
    have hv := F.rho (hg K) x
    simp only [evOper, hop] at e
    split at e
    · rename_i t hx
      rw [hx] at hv
      generalize hxv : a.eval x = xv at hv
      cases hv
      cases t with
      | true => exact val hl (by simp [hop]) (by simp [execOp, hop, asBool, hxv]) (F.rho (hg K) y) e
      | false => exact val hl (by simp [hop]) (by simp [execOp, hop, asBool, hxv]) (F.rho (hg K) z) e
    · cases e
  | alloc t =>
    simp only [evOper, hop] at e
    split at e
    · rename_i d hd'
      cases hm : mem pol.locs d with
      | false =>
        rw [hm] at e
        exact gen e (fun d2 h2 => by rw [hd'] at h2; cases h2; exact hm)
      | true =>
        rw [hm] at e
        simp only [cond_true] at e
        cases hr : rmHas rm d with
        | true => rw [hr] at e; cases e
        | false =>
          cases hb : Nat.ble 1 (c.ti t).size with
          | false => rw [hr, hb] at e; cases e
          | true =>
            rw [hr, hb] at e
            simp only [Bool.not_false, Bool.and_self, cond_true] at e
            obtain ⟨z, hz, hzs, hl, _, hv⟩ := zero_cells (hT t (.inl (Nat.le_of_ble_eq_true hb))) w
            have nb := NewBlk.alloc w z.cells t
            have G2 := H.grow (w' := w.alloc (.cells z.cells t)) (by rw [nb.size]; omega) nb.old nb.os nb.tape nb.output
            have L := LocalAt.new H nb (cells := (c.ti t).zero) (by omega) (fun j hj => by obtain ⟨a1, a2, _⟩ := hv K.fm K.hp j hj; exact ⟨a1, a2⟩)
            have hx : (execOp a.eval o).run P w = .ok (.value (.pointer (some ⟨w.heap.size, 0, none⟩))) (w.alloc (.cells z.cells t)) := by simp [execOp, hop, Instr.alloc, hz, newVar, newRow]
            refine puts_wp (by simp [hop]) hx (.inl rfl) (hn _ _ _ _ _ e ⟨K, (fun x => if x = d then w.heap.size else LB x), rs, G2.1, f0.trans G2.2, ?_, by rw [put_size]; exact hs, by rw [put_defers]; exact hd.step G2.2, G⟩)
            rw [hd']
            exact F.newLoc G2.2 f0.size (hdl d hd') hm (rmHas_no hr) L
    · cases e
  | box t x =>
    simp only [evOper, hop] at e
    split at e
    · rename_i d hd'
      cases hm : mem pol.locs d with
      | false =>
        rw [hm] at e
        exact gen e (fun d2 h2 => by rw [hd'] at h2; cases h2; exact hm)
      | true =>
        rw [hm] at e
        simp only [cond_true] at e
        cases hr : rmHas rm d with
        | true => rw [hr] at e; simp at e
        | false =>
          cases hb : okVal (c.ti t) (rho c pol fr rm x) with
          | false => rw [hr, hb] at e; cases e
          | true =>
            rw [hr, hb] at e
            simp only [Bool.not_false, Bool.and_self, cond_true] at e
            obtain ⟨l1, l2, _, l4⟩ := okVal_ok hb (F.rho (hg K) x)
            have nb := NewBlk.alloc w (a.eval x).cells t
            have G2 := H.grow (w' := w.alloc (.cells (a.eval x).cells t)) (by rw [nb.size]; omega) nb.old nb.os nb.tape nb.output
            have L := LocalAt.new H nb (cells := (rho c pol fr rm x).cells) (by omega) (fun j hj => by obtain ⟨a1, a2, _⟩ := l4 j hj; exact ⟨a1, a2⟩)
            have hx : (execOp a.eval o).run P w = .ok (.value (.pointer (some ⟨w.heap.size, 0, none⟩))) (w.alloc (.cells (a.eval x).cells t)) := by simp [execOp, hop, Instr.box, newVar, newRow]
            refine puts_wp (by simp [hop]) hx (.inl rfl) (hn _ _ _ _ _ e ⟨K, (fun x => if x = d then w.heap.size else LB x), rs, G2.1, f0.trans G2.2, ?_, by rw [put_size]; exact hs, by rw [put_defers]; exact hd.step G2.2, G⟩)
            rw [hd']
            exact F.newLoc G2.2 f0.size (hdl d hd') hm (rmHas_no hr) L
    · cases e
  | move x =>
    have hl : ∀ d, o.dst = some d → mem pol.locs d = false := by simpa [hop] using hne
    simp only [evOper, hop] at e
    split at e
    · rename_i s off hp
      split at e
      · rename_i cells d hc hd'
        obtain ⟨h1, h2, h3, _, _⟩ := F.loc (opOK_tmp ho (x := x) (by simp [hop, Op.operands])) hp hc
        exact point hl (by simp [hop]) hd' h1 h2 (by simp [execOp, hop, h3]) e
      · cases e
    · exact gen e hl
  | nilCheck x =>
    have hl : ∀ d, o.dst = some d → mem pol.locs d = false := by simpa [hop] using hne
    simp only [evOper, hop] at e
    split at e
    · rename_i s off hp
      split at e
      · rename_i cells d hc hd'
        obtain ⟨h1, h2, h3, _, _⟩ := F.loc (opOK_tmp ho (x := x) (by simp [hop, Op.operands])) hp hc
        exact point hl (by simp [hop]) hd' h1 h2 (by simp [execOp, hop, h3]) e
      · cases e
    · exact gen e hl
  | load t x =>
    have hl : ∀ d, o.dst = some d → mem pol.locs d = false := by simpa [hop] using hne
    simp only [evOper, hop] at e
    split at e
    · rename_i s off hp
      split at e
      · rename_i cells hc
        split at e
        · rename_i v hv
          obtain ⟨h1, h2, h3, _, L⟩ := F.loc (opOK_tmp ho (x := x) (by simp [hop, Op.operands])) hp hc
          obtain ⟨u, hu, hr⟩ := L.load (P := P) (tyOf hT hv) hv
          exact val hl (by simp [hop]) (by simp [execOp, hop, h3, Instr.loadAt, Instr.sureAddr, hu]) hr e
        · cases e
      · cases e
    · exact gen e hl
  | store t x y =>
    have hl : ∀ d, o.dst = some d → mem pol.locs d = false := by simpa [hop] using hne
    simp only [evOper, hop] at e
    split at e
    · rename_i s off hp
      split at e
      · rename_i cells hc
        cases hok : okVal (c.ti t) (rho c pol fr rm y) with
        | false => rw [hok] at e; cases e
        | true =>
          rw [hok] at e
          simp only [cond_true] at e
          split at e
          · rename_i cs hcs
            obtain ⟨h1, h2, h3, h4, L⟩ := F.loc (opOK_tmp ho (x := x) (by simp [hop, Op.operands])) hp hc
            obtain ⟨w', hr, W, L'⟩ := L.store (P := P) (tyVal hT hok) (F.rho (hg K) y) hok hcs
            have hx : (execOp a.eval o).run P w = .ok .skip w' := by simp [execOp, hop, h3, Instr.storeAt, Instr.sureAddr, hr]
            have F' := F.setLoc h1 h2 hc W L'
            obtain ⟨c0, t0, f1, hc0, _⟩ := L.blk
            refine puts_wp (by simp [hop]) hx (.inr ⟨rfl, rfl⟩) (hn _ _ _ _ _ e ⟨K, LB, rs, H.poke W L.host L.fm, f0.poke W h4, F'.put (fun d hd' => ⟨hdl d hd', hl d hd'⟩) (V_undef K), by rw [put_size]; exact hs, by rw [put_defers]; exact hd.poke W ⟨c0, t0, f1, hc0⟩, G⟩)
          · cases e
      · cases e
    · exact gen e hl
  | fieldAddr t x f =>
    have hl : ∀ d, o.dst = some d → mem pol.locs d = false := by simpa [hop] using hne
    simp only [evOper, hop] at e
    split at e
    · rename_i s off hp
      split at e
      · rename_i cells o' t' d hc hfo hd'
        cases hb : Nat.ble 1 (c.ti t').size with
        | false => rw [hb] at e; cases e
        | true =>
          rw [hb] at e
          simp only [cond_true] at e
          obtain ⟨h1, h2, h3, _, _⟩ := F.loc (opOK_tmp ho (x := x) (by simp [hop, Op.operands])) hp hc
          obtain ⟨fields, q, q1, q2, rfl, rfl⟩ := fieldOff_ok hT hfo
          exact point hl (by simp [hop]) hd' h1 h2 (by simp [execOp, hop, h3, Instr.fieldAt, underlying, q1, q2, Instr.sureAddr, fieldPlace_ok hT (Nat.le_of_ble_eq_true hb)]) e
      · cases e
    · exact gen e hl
  | indexAddr t x i =>
    have hl : ∀ d, o.dst = some d → mem pol.locs d = false := by simpa [hop] using hne
    simp only [evOper, hop] at e
    split at e
    · rename_i s off hp
      split at e
      · rename_i cells len el kk n d hc hk hi hd'
        have hvi := F.rho (hg K) i
        rw [hi] at hvi
        generalize hiv : a.eval i = iv at hvi
        cases hvi
        cases hr : inRange n len with
        | false => rw [hr] at e; cases e
        | true =>
          cases hb : Nat.ble 1 (c.ti el).size with
          | false => rw [hr, hb] at e; cases e
          | true =>
            rw [hr, hb] at e
            simp only [Bool.and_self, cond_true] at e
            obtain ⟨n0, n1⟩ := inRange_ok hr
            obtain ⟨dd, hu, hkr⟩ := kind_ok hT hk trivial
            have hkr : dd = .array len el := hkr
            subst hkr
            obtain ⟨h1, h2, h3, _, _⟩ := F.loc (opOK_tmp ho (x := x) (by simp [hop, Op.operands])) hp hc
            have hst := (hT el (.inl (Nat.le_of_ble_eq_true hb))).sizeOf w
            exact point hl (by simp [hop]) hd' h1 h2 (by simp [execOp, hop, h3, hiv, Instr.indexAt, asIntOf, underlying, hu, n0, n1, hst, addr_add, Instr.sureAddr]) e
      · cases e
    · exact gen e hl
  | _ =>
    have hl : ∀ d, o.dst = some d → mem pol.locs d = false := by simpa [hop] using hne
    simp only [evOper, hop] at e
    exact gen e hl
end Dv
end

section
set_option autoImplicit false
set_option linter.unusedVariables false
set_option linter.unusedSimpArgs false
namespace Dv
open Go

section
variable {P : Program} {c : Ctx} (hT : TIOK P c.ti) (hg : ∀ (K : Kn) g, K.V (c.gl g) (.pointer (some ⟨g, 0, none⟩))) {C Y : Nat → List DV → Heap → Res} (hC : CallOK P c C) (hY : YieldOK P c Y) {pol : Pol} {ro : Option Nat} {E : Ent}

theorem rho_at {fr : Fr} {rm : Rm} {h : Heap} {a : Act} {w : World} (hg : ∀ (K : Kn) g, K.V (c.gl g) (.pointer (some ⟨g, 0, none⟩))) (S : St c E pol fr rm h a w) (x : Operand) : ∃ K : Kn, K.V (rho c pol fr rm x) (a.eval x) := by
  obtain ⟨K, LB, rs, H, f0, F, hs, hd, G⟩ := S
  exact ⟨K, F.rho (hg K) x⟩
theorem yielded_bool {ops : Array Oper} {a : Act} {j t : Nat} (hj : (ops[j]?).bind (·.dst) = some t) {b : Bool} (hv : a.eval (.tmp t) = .bool b) : yielded ops a.tmps j = some b := by
  unfold yielded
  rw [hj]
  simp only [Act.eval, Array.getD_eq_getD_getElem?] at hv
  simp only [Option.bind_some]
  cases h : a.tmps[t]? with
  | none => rw [h] at hv; simp [undef] at hv
  | some v => rw [h] at hv; simp at hv; rw [hv]
theorem yielded_none {ops : Array Oper} {a : Act} {j t : Nat} (hj : (ops[j]?).bind (·.dst) = some t) {cs : Array Value} (hv : a.eval (.tmp t) = .tuple cs) : yielded ops a.tmps j = none := by
  unfold yielded
  rw [hj]
  simp only [Act.eval, Array.getD_eq_getD_getElem?] at hv
  simp only [Option.bind_some]
  cases h : a.tmps[t]? with
  | none => rfl
  | some v => rw [h] at hv; simp at hv; rw [hv]
theorem St.skip {fr : Fr} {rm : Rm} {h : Heap} {a : Act} {w : World} (S : St c E pol fr rm h a w) {dst : Option Nat} (hd : ∀ d, dst = some d → d < E.nt ∧ mem pol.locs d = false) : St c E pol (fput fr dst (.tup [])) (rmDel rm dst) h (a.put dst undef) w := by
  obtain ⟨K, LB, rs, H, f0, F, hs, hdf, G⟩ := S
  exact ⟨K, LB, rs, H, f0, F.put (fun d e => by rw [hs]; exact hd d e) (V_undef K), by rw [put_size]; exact hs, by rw [put_defers]; exact hdf, G⟩
theorem St.drop {fr : Fr} {rm : Rm} {h : Heap} {a : Act} {w : World} (S : St c E pol fr rm h a w) : St c E pol fr [] h a w := by
  obtain ⟨K, LB, rs, H, f0, F, hs, hdf, G⟩ := S
  exact ⟨K, LB, rs, H, f0, ⟨F.tm, F.lc, F.dis, fun t s off e => (by cases e), F.size⟩, hs, hdf, G⟩

include hT hg hC hY in
theorem evOps_wp {ops : Array Oper} {Kc : Kont} {r : DV × Heap} {Q : Exit → Act → World → Prop} (hok : ops.toList.all (opOK pol E.nt) = true) (hq : ∀ fr' h' a' w', Kc fr' h' = some r → St c E pol fr' [] h' a' w' → Q .normal a' w') :
    ∀ (l : List Oper) (k : Nat), ops.toList.drop k = l → ∀ (fr : Fr) (rm : Rm) (h : Heap) (a : Act) (w : World), St c E pol fr rm h a w → evOps c C Y pol ops l fr rm h Kc = some r → wpOpsIn (WF ro) 0 P ops Q (List.range' k l.length) a w
  | [], k, _, fr, rm, h, a, w, S, e => hq _ _ _ _ e S.drop
  | o :: l, k, hk, fr, rm, h, a, w, S, e => by
    have hko : ops[k]? = some o := by
      have : (ops.toList.drop k)[0]? = some o := by rw [hk]; rfl
      simpa using this
    have hl : ops.toList.drop (k + 1) = l := by
      have : (ops.toList.drop k).drop 1 = l := by rw [hk]; rfl
      rw [List.drop_drop] at this
      simpa [Nat.add_comm] using this
    have ho : opOK pol E.nt o = true := by
      rw [List.all_eq_true] at hok
      exact hok o (by
        have := Array.getElem?_eq_some_iff.1 hko
        obtain ⟨h1, rfl⟩ := this
        simp)
    simp only [List.length_cons, List.range'_succ, wpOpsIn, hko]
    simp only [evOps] at e
    have go : ∀ {fr : Fr} {rm : Rm} {h : Heap} {a : Act} {w : World}, St c E pol fr rm h a w → evOper c C Y pol o fr rm h (fun fr rm h => evOps c C Y pol ops l fr rm h Kc) = some r → o.wpIn (WF ro) 0 P a w (wpOpsIn (WF ro) 0 P ops Q (List.range' (k + 1) l.length)) Q :=
      fun S e => evOper_wp hT hg hC hY S ho e (fun fr' rm' h' a' w' e' S' => evOps_wp hok hq l (k + 1) hl fr' rm' h' a' w' S' e')
    cases hgd : o.guard with
    | none =>
      rw [hgd] at e
      have hw : Region.wanted o (yielded ops a.tmps) = true := by simp [Region.wanted, hgd]
      rw [if_pos hw]
      exact go S e
    | some g =>
      obtain ⟨j, want⟩ := g
      rw [hgd] at e
      simp only at e
      have hdl : ∀ d, o.dst = some d → d < E.nt ∧ mem pol.locs d = false := fun d hd => by
        refine ⟨(opOK_dst ho hd).1, ?_⟩
        cases hm : mem pol.locs d with
        | false => rfl
        | true => have := ((opOK_dst ho hd).2 hm).1; rw [hgd] at this; cases this
      split at e
      · rename_i t ht
        obtain ⟨K, hv⟩ := rho_at hg S (.tmp t)
        split at e
        · rename_i b hb
          rw [hb] at hv
          generalize hx : a.eval (.tmp t) = x at hv
          cases hv
          have hy := yielded_bool ht hx
          cases hbw : (b == want) with
          | true =>
            rw [hbw] at e
            have := eq_of_beq hbw
            subst this
            have hw : Region.wanted o (yielded ops a.tmps) = true := by simp [Region.wanted, hgd, hy]
            rw [if_pos hw]
            exact go S e
          | false =>
            rw [hbw] at e
            have hne : b ≠ want := fun h => by subst h; simp at hbw
            have hw : ¬ Region.wanted o (yielded ops a.tmps) = true := by simp [Region.wanted, hgd, hy, hne]
            rw [if_neg hw]
            exact ⟨fun _ _ => trivial, evOps_wp hok hq l (k + 1) hl _ _ h _ w (S.skip hdl) e⟩
        · rename_i hb
          rw [hb] at hv
          generalize hx : a.eval (.tmp t) = x at hv
          cases hv with
          | tup cs hs hc =>
            have hy := yielded_none ht hx
            have hw : ¬ Region.wanted o (yielded ops a.tmps) = true := by simp [Region.wanted, hgd, hy]
            rw [if_neg hw]
            exact ⟨fun _ _ => trivial, evOps_wp hok hq l (k + 1) hl _ _ h _ w (S.skip hdl) e⟩
        · cases e
      · cases e
end
end Dv
end

section
set_option autoImplicit false
set_option linter.unusedVariables false
set_option linter.unusedSimpArgs false
namespace Dv
open Go

section
variable {c : Ctx} {C Y : Nat → List DV → Heap → Res} {pol : Pol}

theorem evOper_eq {α : Type} (o : Oper) (fr : Fr) (rm : Rm) (h : Heap) (K : Fr → Rm → Heap → Option α) :
    evOper c C Y pol o fr rm h K = match evVal c C Y pol o fr rm h with | some out => K (out.fr o fr) (out.rm o rm) (out.hp h) | none => none := by
  have gen : (match evGen c C Y pol o (rho c pol fr rm) h with | some (v, h') => K (fput fr o.dst v) (rmDel rm o.dst) h' | none => none) =
      match (match evGen c C Y pol o (rho c pol fr rm) h with | some (v, h') => some (Out.val v h') | none => none) with | some out => K (out.fr o fr) (out.rm o rm) (out.hp h) | none => none := by
    cases evGen c C Y pol o (rho c pol fr rm) h <;> rfl
  cases hop : o.op with
  | pick x a b =>
    simp only [evOper, evVal, hop]
    cases rho c pol fr rm x <;> try rfl
    rename_i t
    cases t <;> rfl
  | alloc t =>
    simp only [evOper, evVal, hop]
    cases hd : o.dst with
    | none => rfl
    | some d =>
      simp only
      cases mem pol.locs d with
      | false => simp only [cond_false]; rw [← hd]; exact gen
      | true =>
        simp only [cond_true]
        cases !rmHas rm d && Nat.ble 1 (c.ti t).size with
        | false => rfl
        | true => simp only [cond_true, Out.fr, Out.rm, Out.hp, hd, fput]
  | box t x =>
    simp only [evOper, evVal, hop]
    cases hd : o.dst with
    | none => rfl
    | some d =>
      simp only
      cases mem pol.locs d with
      | false => simp only [cond_false]; rw [← hd]; exact gen
      | true =>
        simp only [cond_true]
        cases okVal (c.ti t) (rho c pol fr rm x) && !rmHas rm d with
        | false => rfl
        | true => simp only [cond_true, Out.fr, Out.rm, Out.hp, hd, fput]
  | move x =>
    simp only [evOper, evVal, hop]
    cases locOp pol rm x with
    | none => exact gen
    | some p =>
      obtain ⟨s, off⟩ := p
      simp only
      cases fget fr s <;> cases hd : o.dst <;> first | rfl | simp only [Out.fr, Out.rm, Out.hp, hd, fput]
  | nilCheck x =>
    simp only [evOper, evVal, hop]
    cases locOp pol rm x with
    | none => exact gen
    | some p =>
      obtain ⟨s, off⟩ := p
      simp only
      cases fget fr s <;> cases hd : o.dst <;> first | rfl | simp only [Out.fr, Out.rm, Out.hp, hd, fput]
  | load t x =>
    simp only [evOper, evVal, hop]
    cases locOp pol rm x with
    | none => exact gen
    | some p =>
      obtain ⟨s, off⟩ := p
      simp only
      cases fget fr s <;> try rfl
      rename_i cells
      simp only
      cases rdCells (c.ti t).agg (c.ti t).size cells off <;> rfl
  | store t x y =>
    simp only [evOper, evVal, hop]
    cases locOp pol rm x with
    | none => exact gen
    | some p =>
      obtain ⟨s, off⟩ := p
      simp only
      cases fget fr s <;> try rfl
      rename_i cells
      simp only
      cases okVal (c.ti t) (rho c pol fr rm y) <;> try rfl
      simp only [cond_true]
      cases wrCells cells off (rho c pol fr rm y).cells <;> rfl
  | fieldAddr t x f =>
    simp only [evOper, evVal, hop]
    cases locOp pol rm x with
    | none => exact gen
    | some p =>
      obtain ⟨s, off⟩ := p
      simp only
      cases fget fr s <;> try rfl
      cases fieldOff (c.ti t) f <;> try rfl
      rename_i q
      obtain ⟨o', t'⟩ := q
      cases hd : o.dst <;> try rfl
      simp only
      cases Nat.ble 1 (c.ti t').size <;> first | rfl | simp only [cond_true, Out.fr, Out.rm, Out.hp, hd, fput]
  | indexAddr t x i =>
    simp only [evOper, evVal, hop]
    cases locOp pol rm x with
    | none => exact gen
    | some p =>
      obtain ⟨s, off⟩ := p
      simp only
      cases fget fr s <;> try rfl
      cases (c.ti t).kind <;> try rfl
      rename_i len el
      cases rho c pol fr rm i <;> try rfl
      rename_i kk nn
      cases hd : o.dst <;> try rfl
      simp only
      cases inRange nn len && Nat.ble 1 (c.ti el).size <;> first | rfl | simp only [cond_true, Out.fr, Out.rm, Out.hp, hd, fput]
  | _ => simp only [evOper, evVal, hop]; exact gen

theorem evGen_congr {o : Oper} {r r' : Operand → DV} (h : Heap) (hr : ∀ x ∈ o.op.operands.toList, r x = r' x) : evGen c C Y pol o r h = evGen c C Y pol o r' h := by
  have args : ∀ (a : Array Operand), (∀ x ∈ a.toList, x ∈ o.op.operands.toList) → a.toList.map r = a.toList.map r' := fun a ha => List.map_congr_left fun x hx => hr x (ha x hx)
  have parts : ∀ (ps : Array (Nat × Operand)), (∀ p ∈ ps.toList, p.2 ∈ o.op.operands.toList) → (ps.toList.map fun (n, x) => (n, r x)) = ps.toList.map fun (n, x) => (n, r' x) := fun ps hp => List.map_congr_left fun p hx => by
    obtain ⟨n, x⟩ := p
    simp only [hr x (hp _ hx)]
  cases hop : o.op with
  | call k =>
    simp only [evGen, hop, evCallee]
    rw [args k.args (fun x hx => by simp only [hop, Op.operands, Call.operands, Array.toList_append, List.mem_append]; exact .inr hx)]
    cases hk : k.callee with
    | builtin b => rfl
    | value f => simp only [hr f (by simp [hop, Op.operands, Call.operands, hk])]
    | invoke x y => rfl
  | build t ps =>
    simp only [evGen, hop]
    rw [parts ps (fun p hp => by simp only [hop, Op.operands]; exact List.mem_map_of_mem hp)]
  | buildSlice t n ps =>
    simp only [evGen, hop]
    rw [parts ps (fun p hp => by simp only [hop, Op.operands]; exact List.mem_map_of_mem hp)]
  | makeFunc f a b =>
    cases f <;> simp only [evGen, hop]
    rw [args a (fun x hx => by simp only [hop, Op.operands, Array.toList_append, List.mem_append]; exact .inl hx), args b (fun x hx => by simp only [hop, Op.operands, Array.toList_append, List.mem_append]; exact .inr hx)]
  | slice t x lo hi mx =>
    cases mx with
    | some m => simp only [evGen, hop]
    | none =>
      have h1 : r x = r' x := hr x (by simp [hop, Op.operands])
      have h2 : lo.map r = lo.map r' := by cases lo with | none => rfl | some y => simp [hr y (by simp [hop, Op.operands])]
      have h3 : hi.map r = hi.map r' := by cases hi with | none => rfl | some y => simp [hr y (by simp [hop, Op.operands])]
      simp only [evGen, hop, h1, h2, h3]
  | makeMap t rs => cases rs <;> simp only [evGen, hop]
  | move x => have h1 := hr x (by simp [hop, Op.operands]); simp only [evGen, hop, h1]
  | assign x => have h1 := hr x (by simp [hop, Op.operands]); simp only [evGen, hop, h1]
  | box t x => have h1 := hr x (by simp [hop, Op.operands]); simp only [evGen, hop, h1]
  | load t x => have h1 := hr x (by simp [hop, Op.operands]); simp only [evGen, hop, h1]
  | store t x y => have h1 := hr x (by simp [hop, Op.operands]); have h2 := hr y (by simp [hop, Op.operands]); simp only [evGen, hop, h1, h2]
  | nilCheck x => have h1 := hr x (by simp [hop, Op.operands]); simp only [evGen, hop, h1]
  | binOp op t x y b => have h1 := hr x (by simp [hop, Op.operands]); have h2 := hr y (by simp [hop, Op.operands]); simp only [evGen, hop, h1, h2]
  | unOp op t x => have h1 := hr x (by simp [hop, Op.operands]); simp only [evGen, hop, h1]
  | convert a b x => have h1 := hr x (by simp [hop, Op.operands]); simp only [evGen, hop, h1]
  | makeInterface t x => have h1 := hr x (by simp [hop, Op.operands]); simp only [evGen, hop, h1]
  | makeSlice t x y => have h1 := hr x (by simp [hop, Op.operands]); have h2 := hr y (by simp [hop, Op.operands]); simp only [evGen, hop, h1, h2]
  | fieldAddr t x f => have h1 := hr x (by simp [hop, Op.operands]); simp only [evGen, hop, h1]
  | field t x f => have h1 := hr x (by simp [hop, Op.operands]); simp only [evGen, hop, h1]
  | indexAddr t x y => have h1 := hr x (by simp [hop, Op.operands]); have h2 := hr y (by simp [hop, Op.operands]); simp only [evGen, hop, h1, h2]
  | index t x y => have h1 := hr x (by simp [hop, Op.operands]); have h2 := hr y (by simp [hop, Op.operands]); simp only [evGen, hop, h1, h2]
  | lookup t x y b => have h1 := hr x (by simp [hop, Op.operands]); have h2 := hr y (by simp [hop, Op.operands]); simp only [evGen, hop, h1, h2]
  | mapUpdate t x y z => have h1 := hr x (by simp [hop, Op.operands]); have h2 := hr y (by simp [hop, Op.operands]); have h3 := hr z (by simp [hop, Op.operands]); simp only [evGen, hop, h1, h2, h3]
  | insert t x y z => have h1 := hr x (by simp [hop, Op.operands]); have h2 := hr y (by simp [hop, Op.operands]); have h3 := hr z (by simp [hop, Op.operands]); simp only [evGen, hop, h1, h2, h3]
  | extract x i => have h1 := hr x (by simp [hop, Op.operands]); simp only [evGen, hop, h1]
  | _ => simp only [evGen, hop]

/-- Two frames that an operation can't tell apart. -/
def Agree (c : Ctx) (pol : Pol) (fr : Fr) (rm : Rm) (fr' : Fr) (rm' : Rm) (x : Operand) : Prop :=
  rho c pol fr rm x = rho c pol fr' rm' x ∧ locOp pol rm x = locOp pol rm' x ∧ ∀ s off, locOp pol rm x = some (s, off) → fget fr s = fget fr' s

theorem evVal_congr {o : Oper} {fr fr' : Fr} {rm rm' : Rm} (h : Heap) (ha : ∀ x ∈ o.op.operands.toList, Agree c pol fr rm fr' rm' x) (hrm : ∀ d, o.dst = some d → mem pol.locs d = true → rmHas rm d = rmHas rm' d) :
    evVal c C Y pol o fr rm h = evVal c C Y pol o fr' rm' h := by
  have gen := evGen_congr (c := c) (C := C) (Y := Y) (pol := pol) (o := o) h (fun x hx => (ha x hx).1)
  have go : ∀ x, x ∈ o.op.operands.toList → ∀ {f : Fr → Nat → Nat → Option Out}, (∀ s off, locOp pol rm x = some (s, off) → f fr s off = f fr' s off) → ∀ (z : Option Out),
      (match locOp pol rm x with | some (s, off) => f fr s off | none => z) = match locOp pol rm' x with | some (s, off) => f fr' s off | none => z := by
    intro x hx f hf z
    rw [← (ha x hx).2.1]
    cases e : locOp pol rm x with
    | none => rfl
    | some p => obtain ⟨s, off⟩ := p; exact hf s off e
  cases hop : o.op with
  | pick x a b =>
    have h1 := (ha x (by simp [hop, Op.operands])).1
    have h2 := (ha a (by simp [hop, Op.operands])).1
    have h3 := (ha b (by simp [hop, Op.operands])).1
    simp only [evVal, hop, h1, h2, h3]
  | alloc t =>
    simp only [evVal, hop, gen]
    cases hd : o.dst with
    | none => rfl
    | some d =>
      simp only
      cases hm : mem pol.locs d with
      | false => rfl
      | true => rw [hrm d hd hm]
  | box t x =>
    have h1 := (ha x (by simp [hop, Op.operands])).1
    simp only [evVal, hop, gen, h1]
    cases hd : o.dst with
    | none => rfl
    | some d =>
      simp only
      cases hm : mem pol.locs d with
      | false => rfl
      | true => rw [hrm d hd hm]
  | move x =>
    obtain ⟨h1, h2, h3⟩ := ha x (by simp [hop, Op.operands])
    simp only [evVal, hop, gen, ← h2]
    cases e : locOp pol rm x with
    | none => rfl
    | some p => obtain ⟨s, off⟩ := p; simp only [h3 s off e]
  | nilCheck x =>
    obtain ⟨h1, h2, h3⟩ := ha x (by simp [hop, Op.operands])
    simp only [evVal, hop, gen, ← h2]
    cases e : locOp pol rm x with
    | none => rfl
    | some p => obtain ⟨s, off⟩ := p; simp only [h3 s off e]
  | load t x =>
    obtain ⟨h1, h2, h3⟩ := ha x (by simp [hop, Op.operands])
    simp only [evVal, hop, gen, ← h2]
    cases e : locOp pol rm x with
    | none => rfl
    | some p => obtain ⟨s, off⟩ := p; simp only [h3 s off e]
  | store t x y =>
    obtain ⟨h1, h2, h3⟩ := ha x (by simp [hop, Op.operands])
    have h4 := (ha y (by simp [hop, Op.operands])).1
    simp only [evVal, hop, gen, ← h2, h4]
    cases e : locOp pol rm x with
    | none => rfl
    | some p => obtain ⟨s, off⟩ := p; simp only [h3 s off e]
  | fieldAddr t x f =>
    obtain ⟨h1, h2, h3⟩ := ha x (by simp [hop, Op.operands])
    simp only [evVal, hop, gen, ← h2]
    cases e : locOp pol rm x with
    | none => rfl
    | some p => obtain ⟨s, off⟩ := p; simp only [h3 s off e]
  | indexAddr t x i =>
    obtain ⟨h1, h2, h3⟩ := ha x (by simp [hop, Op.operands])
    have h4 := (ha i (by simp [hop, Op.operands])).1
    simp only [evVal, hop, gen, ← h2, h4]
    cases e : locOp pol rm x with
    | none => rfl
    | some p => obtain ⟨s, off⟩ := p; simp only [h3 s off e]
  | _ => simp only [evVal, hop, gen]
end
end Dv
end
