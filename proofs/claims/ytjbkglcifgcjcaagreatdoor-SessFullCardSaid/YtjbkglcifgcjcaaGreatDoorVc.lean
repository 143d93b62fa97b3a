import Derived.Test.YtjbkglcifgcjcaaGreatDoorVb
section
set_option autoImplicit false
set_option linter.unusedVariables false
set_option linter.unusedSimpArgs false
namespace Dv
open Go

section
variable {c : Ctx} {C Y : Nat → List DV → Heap → Res} {pol : Pol} {ops : Array Oper}

theorem map_some {α β : Type} {f : α → β} {o : Option α} {y : β} (h : o.map f = some y) : ∃ x, o = some x ∧ f x = y := Option.map_eq_some_iff.1 h

/-- A class P operation looks at its operands alone. -/
theorem cls_P {o : Oper} (hc : cls c pol ops o = .P) {fr : Fr} {rm : Rm} {h : Heap} (hm : ∀ t, o.op = .move (.tmp t) → locOp pol rm (.tmp t) = none) {out : Out} (e : evVal c C Y pol o fr rm h = some out) :
    ∃ v, out = .val v h ∧ ∀ (fr' : Fr) (rm' : Rm) (h' : Heap), (∀ x ∈ o.op.operands.toList, rho c pol fr rm x = rho c pol fr' rm' x) → (∀ t, o.op = .move (.tmp t) → locOp pol rm' (.tmp t) = none) → evVal c C Y pol o fr' rm' h' = some (.val v h') := by
  -- where the general evaluation is a map of a value that does not look at the heap
  have key : (∀ (fr : Fr) (rm : Rm) (h : Heap), (∀ t, o.op = .move (.tmp t) → locOp pol rm (.tmp t) = none) → evVal c C Y pol o fr rm h = match evGen c C Y pol o (rho c pol fr rm) h with | some (v, h') => some (Out.val v h') | none => none) →
      (∃ g : (Operand → DV) → Option DV, ∀ r h, evGen c C Y pol o r h = (g r).map (·, h)) →
      ∃ v, out = .val v h ∧ ∀ (fr' : Fr) (rm' : Rm) (h' : Heap), (∀ x ∈ o.op.operands.toList, rho c pol fr rm x = rho c pol fr' rm' x) → (∀ t, o.op = .move (.tmp t) → locOp pol rm' (.tmp t) = none) → evVal c C Y pol o fr' rm' h' = some (.val v h') := by
    rintro h1 ⟨g, hg⟩
    rw [h1 fr rm h hm, hg] at e
    cases hgr : g (rho c pol fr rm) with
    | none => rw [hgr] at e; cases e
    | some v =>
      rw [hgr] at e
      simp only [Option.map_some, Option.some.injEq] at e
      refine ⟨v, e.symm, fun fr' rm' h' hx hm' => ?_⟩
      rw [h1 fr' rm' h' hm', ← evGen_congr (c := c) (C := C) (Y := Y) (pol := pol) (o := o) h' hx, hg, hgr]
      rfl
  obtain ⟨q, hop⟩ : ∃ q, o.op = q := ⟨_, rfl⟩
  cases q with
  | pick x a b =>
    simp only [evVal, hop] at e
    split at e
    · rename_i t hx
      cases e
      refine ⟨_, rfl, fun fr' rm' h' hh _ => ?_⟩
      simp only [evVal, hop, ← hh x (by simp [hop, Op.operands]), ← hh a (by simp [hop, Op.operands]), ← hh b (by simp [hop, Op.operands]), hx]
    · cases e
  | assign x => exact key (fun fr rm h _ => by simp only [evVal, hop] <;> rfl) ⟨fun r => some (r x), fun r h => by simp [evGen, hop]⟩
  | build t ps => exact key (fun fr rm h _ => by simp only [evVal, hop] <;> rfl) ⟨fun r => dBuild c (c.ti t) (ps.toList.map fun (n, x) => (n, r x)), fun r h => by simp only [evGen, hop]⟩
  | binOp op t x y b => exact key (fun fr rm h _ => by simp only [evVal, hop] <;> rfl) ⟨fun r => dBin c (c.ti t) (isLit x || isLit y) op (r x) (r y), fun r h => by simp only [evGen, hop]⟩
  | unOp op t x => exact key (fun fr rm h _ => by simp only [evVal, hop] <;> rfl) ⟨fun r => dUn op (r x), fun r h => by simp only [evGen, hop]⟩
  | field t x f => exact key (fun fr rm h _ => by simp only [evVal, hop] <;> rfl) ⟨fun r => dField c (c.ti t) (r x) f, fun r h => by simp only [evGen, hop]⟩
  | index t x i => exact key (fun fr rm h _ => by simp only [evVal, hop] <;> rfl) ⟨fun r => dIndex c (c.ti t) (r x) (r i), fun r h => by simp only [evGen, hop]⟩
  | extract x i => exact key (fun fr rm h _ => by simp only [evVal, hop] <;> rfl) ⟨fun r => dExtract (r x) i, fun r h => by simp only [evGen, hop]⟩
  | slice t x lo hi mx =>
    cases mx with
    | none => exact key (fun fr rm h _ => by simp only [evVal, hop] <;> rfl) ⟨fun r => dSlice c (c.ti t) (r x) (lo.map r) (hi.map r), fun r h => by simp only [evGen, hop]⟩
    | some m => exact key (fun fr rm h _ => by simp only [evVal, hop] <;> rfl) ⟨fun r => none, fun r h => by simp only [evGen, hop, Option.map_none]⟩
  | makeInterface t x =>
    refine key (fun fr rm h _ => by simp only [evVal, hop] <;> rfl) ⟨fun r => match (c.ti t).kind with | .iface | .other => none | _ => some (.iface t (r x)), fun r h => ?_⟩
    simp only [evGen, hop]
    cases (c.ti t).kind <;> rfl
  | makeFunc f a b =>
    cases f with
    | func g => exact key (fun fr rm h _ => by simp only [evVal, hop] <;> rfl) ⟨fun r => some (.fn (.func g) (a.toList.map r) (b.toList.map r)), fun r h => by simp [evGen, hop]⟩
    | _ => exact key (fun fr rm h _ => by simp only [evVal, hop] <;> rfl) ⟨fun r => none, fun r h => by simp only [evGen, hop, Option.map_none]⟩
  | move x =>
    refine key (fun fr rm h hm => ?_) ⟨fun r => some (r x), fun r h => by simp [evGen, hop]⟩
    simp only [evVal, hop]
    have : locOp pol rm x = none := by
      cases x with
      | tmp t => exact hm t hop
      | _ => rfl
    rw [this]
    rfl
  | convert a b x => simp only [cls, hop] at hc; split at hc <;> cases hc
  | call k =>
    simp only [cls, hop] at hc
    split at hc
    · split at hc <;> cases hc
    · cases hc
  | alloc t =>
    simp only [cls, hop] at hc
    split at hc
    · rename_i d hd
      cases hb : (mem pol.locs d && (o.after.isEmpty && o.guard.isNone)) <;> rw [hb] at hc <;> cases hc
    · cases hc
  | _ => simp [cls, hop] at hc

/-- A class L operation leaves the heap as it is. -/
theorem cls_L {o : Oper} (hc : cls c pol ops o = .L) {fr : Fr} {rm : Rm} {h : Heap} {out : Out} (e : evVal c C Y pol o fr rm h = some out) : (∃ v, out = .val v h) ∨ ∃ p, out = .pt p := by
  have gen : (match evGen c C Y pol o (rho c pol fr rm) h with | some (v, h') => some (Out.val v h') | none => none) = some out → (∀ v h', evGen c C Y pol o (rho c pol fr rm) h = some (v, h') → h' = h) → ∃ v, out = .val v h := by
    intro e1 e2
    split at e1
    · rename_i v h' hv
      cases e1
      exact ⟨v, by rw [e2 v h' hv]⟩
    · cases e1
  have mp : ∀ {od : Option DV}, (∀ v h', od.map (·, h) = some (v, h') → h' = h) := fun v h' hv => by
    obtain ⟨x, _, hx⟩ := map_some hv
    cases hx; rfl
  cases hop : o.op with
  | move x =>
    simp only [evVal, hop] at e
    split at e
    · split at e
      · cases e; exact .inr ⟨_, rfl⟩
      · cases e
    · exact .inl (gen e (fun v h' hv => by simp only [evGen, hop] at hv; cases hv; rfl))
  | nilCheck x =>
    simp only [evVal, hop] at e
    split at e
    · split at e
      · cases e; exact .inr ⟨_, rfl⟩
      · cases e
    · exact .inl (gen e (fun v h' hv => by simp only [evGen, hop] at hv; split at hv <;> cases hv <;> rfl))
  | load t x =>
    simp only [evVal, hop] at e
    split at e
    · split at e
      · split at e
        · cases e; exact .inl ⟨_, rfl⟩
        · cases e
      · cases e
    · exact .inl (gen e (fun v h' hv => by simp only [evGen, hop] at hv; exact mp _ _ hv))
  | fieldAddr t x f =>
    simp only [evVal, hop] at e
    split at e
    · split at e
      · rename_i o' t' _ _ _ _
        cases hb : Nat.ble 1 (c.ti t').size with
        | false => rw [hb] at e; cases e
        | true => rw [hb] at e; cases e; exact .inr ⟨_, rfl⟩
      · cases e
    · exact .inl (gen e (fun v h' hv => by simp only [evGen, hop] at hv; exact mp _ _ hv))
  | indexAddr t x i =>
    simp only [evVal, hop] at e
    split at e
    · split at e
      · rename_i len el _ n _ _ _ _ _
        cases hb : (inRange n len && Nat.ble 1 (c.ti el).size) with
        | false => rw [hb] at e; cases e
        | true => rw [hb] at e; cases e; exact .inr ⟨_, rfl⟩
      · cases e
    · exact .inl (gen e (fun v h' hv => by simp only [evGen, hop] at hv; exact mp _ _ hv))
  | lookup t x i b =>
    simp only [evVal, hop] at e
    exact .inl (gen e (fun v h' hv => by simp only [evGen, hop] at hv; exact mp _ _ hv))
  | convert a b x =>
    simp only [evVal, hop] at e
    refine .inl (gen e (fun v h' hv => ?_))
    simp only [evGen, hop] at hv
    simp only [cls, hop] at hc
    unfold dConv at hv
    split at hc
    · rename_i k hk
      rw [hk] at hv
      cases hb : Nat.beq (c.ti a).size 0 <;> rw [hb] at hv
      · simp only [cond_false] at hv
        split at hv <;> first | (cases hv; rfl) | cases hv | (rename_i h1; cases h1) | skip
        all_goals (try (rename_i h1 _; cases h1))
        all_goals (try (rename_i h1 _ _; cases h1))
        all_goals (try cases hv)
      · cases hv
    · rename_i hk
      rw [hk] at hv
      cases hb : Nat.beq (c.ti a).size 0 <;> rw [hb] at hv
      · simp only [cond_false] at hv
        split at hv
        · rename_i h1 _; cases h1
        · cases hv; rfl
        · rename_i h1 _; cases h1
        · rename_i h1 _; cases h1
        · split at hv
          · split at hv
            · obtain ⟨s, _, hs⟩ := map_some hv
              cases hs; rfl
            · cases hv
          · cases hv
        · cases hv
      · cases hv
    · cases hc
  | call k =>
    simp only [evVal, hop] at e
    refine .inl (gen e (fun v h' hv => ?_))
    simp only [evGen, hop] at hv
    simp only [cls, hop] at hc
    split at hc
    · rename_i b hk
      unfold evCallee at hv
      rw [hk] at hv
      simp only at hv
      split at hc
      · split at hv <;> first | (rename_i h1 _; cases h1; done) | exact mp _ _ hv | (rename_i h1 _ _; cases h1; done) | cases hv
      · split at hv <;> first | (rename_i h1 _; cases h1; done) | exact mp _ _ hv | (rename_i h1 _ _; cases h1; done) | cases hv
      · split at hv <;> first | (rename_i h1 _; cases h1; done) | exact mp _ _ hv | (rename_i h1 _ _; cases h1; done) | cases hv
      · cases hc
    · cases hc
  | alloc t =>
    simp only [cls, hop] at hc
    split at hc
    · rename_i d hd
      cases hb : (mem pol.locs d && (o.after.isEmpty && o.guard.isNone)) <;> rw [hb] at hc <;> cases hc
    · cases hc
  | _ => simp [cls, hop] at hc

theorem cls_A {o : Oper} (hc : cls c pol ops o = .A) : ∃ d t, o.op = .alloc t ∧ o.dst = some d ∧ mem pol.locs d = true ∧ o.after = #[] ∧ o.guard = none := by
  cases hop : o.op with
  | alloc t =>
    simp only [cls, hop] at hc
    split at hc
    · rename_i d hd
      cases hb : (mem pol.locs d && (o.after.isEmpty && o.guard.isNone)) with
      | false => rw [hb] at hc; cases hc
      | true =>
        simp only [Bool.and_eq_true] at hb
        exact ⟨d, t, rfl, hd, hb.1, by simpa using hb.2.1, by simpa using hb.2.2⟩
    · cases hc
  | move x =>
    simp only [cls, hop] at hc
    split at hc
    · rename_i t
      cases hb : (mem pol.locs t || !(ops.toList.all fun q => !isDst q t || isAssign q)) <;> rw [hb] at hc <;> cases hc
    · cases hc
  | convert a b x => simp only [cls, hop] at hc; split at hc <;> cases hc
  | call k =>
    simp only [cls, hop] at hc
    split at hc
    · split at hc <;> cases hc
    · cases hc
  | _ => simp [cls, hop] at hc

/-- What comes to point into a local came of a pointer into it. -/
theorem out_pt {o : Oper} {fr : Fr} {rm : Rm} {h : Heap} {s off : Nat} (e : evVal c C Y pol o fr rm h = some (.pt (s, off))) :
    isAssign o = false ∧ (∃ d, o.dst = some d) ∧ cls c pol ops o ≠ .X ∧ ∃ x ∈ o.op.operands.toList, ∃ off', locOp pol rm x = some (s, off') := by
  have gen : ¬ (match evGen c C Y pol o (rho c pol fr rm) h with | some (v, h') => some (Out.val v h') | none => none) = some (.pt (s, off)) := by
    intro e; split at e <;> cases e
  have clsX : (match o.op with | .move _ | .nilCheck _ | .fieldAddr .. | .indexAddr .. => True | _ => False) → cls c pol ops o ≠ .X := by
    intro hk hx
    obtain ⟨q, hop⟩ : ∃ q, o.op = q := ⟨_, rfl⟩
    rw [hop] at hk
    cases q with
    | move x =>
      cases x with
      | tmp t =>
        simp only [cls, hop] at hx
        cases hb : (mem pol.locs t || !(ops.toList.all fun q => !isDst q t || isAssign q)) <;> rw [hb] at hx <;> cases hx
      | _ => simp [cls, hop] at hx
    | nilCheck x => simp [cls, hop] at hx
    | fieldAddr t x f => simp [cls, hop] at hx
    | indexAddr t x f => simp [cls, hop] at hx
    | _ => exact hk.elim
  cases hop : o.op with
  | move x =>
    simp only [evVal, hop] at e
    split at e
    · rename_i s' off' hl
      split at e
      · rename_i cs d hc hd
        cases e
        exact ⟨by simp [isAssign, hop], ⟨d, hd⟩, clsX (by simp [hop]), x, by simp [Op.operands], _, hl⟩
      · cases e
    · exact absurd e gen
  | nilCheck x =>
    simp only [evVal, hop] at e
    split at e
    · rename_i s' off' hl
      split at e
      · rename_i cs d hc hd
        cases e
        exact ⟨by simp [isAssign, hop], ⟨d, hd⟩, clsX (by simp [hop]), x, by simp [Op.operands], _, hl⟩
      · cases e
    · exact absurd e gen
  | fieldAddr t x f =>
    simp only [evVal, hop] at e
    split at e
    · rename_i s' off' hl
      split at e
      · rename_i cs o' t' d hc hf hd
        cases hb : Nat.ble 1 (c.ti t').size with
        | false => rw [hb] at e; cases e
        | true => rw [hb] at e; cases e; exact ⟨by simp [isAssign, hop], ⟨d, hd⟩, clsX (by simp [hop]), x, by simp [Op.operands], _, hl⟩
      · cases e
    · exact absurd e gen
  | indexAddr t x i =>
    simp only [evVal, hop] at e
    split at e
    · rename_i s' off' hl
      split at e
      · rename_i cs len el kk n d hc hk hi hd
        cases hb : (inRange n len && Nat.ble 1 (c.ti el).size) with
        | false => rw [hb] at e; cases e
        | true => rw [hb] at e; cases e; exact ⟨by simp [isAssign, hop], ⟨d, hd⟩, clsX (by simp [hop]), x, by simp [Op.operands], _, hl⟩
      · cases e
    · exact absurd e gen
  | pick x a b =>
    simp only [evVal, hop] at e
    split at e <;> cases e
  | load t x =>
    simp only [evVal, hop] at e
    split at e
    · split at e
      · split at e <;> cases e
      · cases e
    · exact absurd e gen
  | store t x y =>
    simp only [evVal, hop] at e
    split at e
    · split at e
      · cases hb : okVal (c.ti t) (rho c pol fr rm y) with
        | false => rw [hb] at e; cases e
        | true =>
          rw [hb] at e
          simp only [cond_true] at e
          split at e <;> cases e
      · cases e
    · exact absurd e gen
  | alloc t =>
    simp only [evVal, hop] at e
    split at e
    · rename_i d hd
      cases hm : mem pol.locs d <;> rw [hm] at e
      · exact absurd e gen
      · simp only [cond_true] at e
        cases hb : (!rmHas rm d && Nat.ble 1 (c.ti t).size) <;> rw [hb] at e <;> cases e
    · cases e
  | box t x =>
    simp only [evVal, hop] at e
    split at e
    · rename_i d hd
      cases hm : mem pol.locs d <;> rw [hm] at e
      · exact absurd e gen
      · simp only [cond_true] at e
        cases hb : (okVal (c.ti t) (rho c pol fr rm x) && !rmHas rm d) <;> rw [hb] at e <;> cases e
    · cases e
  | _ => simp only [evVal, hop] at e; exact absurd e gen
theorem out_wr {o : Oper} {fr : Fr} {rm : Rm} {h : Heap} {s : Nat} {cs : List DV} (e : evVal c C Y pol o fr rm h = some (.wr s cs)) : ∃ x ∈ o.op.operands.toList, ∃ off', locOp pol rm x = some (s, off') := by
  have gen : ¬ (match evGen c C Y pol o (rho c pol fr rm) h with | some (v, h') => some (Out.val v h') | none => none) = some (.wr s cs) := by
    intro e; split at e <;> cases e
  cases hop : o.op with
  | store t x y =>
    simp only [evVal, hop] at e
    split at e
    · rename_i s' off' hl
      split at e
      · cases hb : okVal (c.ti t) (rho c pol fr rm y) with
        | false => rw [hb] at e; cases e
        | true =>
          rw [hb] at e
          simp only [cond_true] at e
          split at e
          · cases e; exact ⟨x, by simp [Op.operands], _, hl⟩
          · cases e
      · cases e
    · exact absurd e gen
  | move x =>
    simp only [evVal, hop] at e
    split at e
    · split at e <;> cases e
    · exact absurd e gen
  | nilCheck x =>
    simp only [evVal, hop] at e
    split at e
    · split at e <;> cases e
    · exact absurd e gen
  | fieldAddr t x f =>
    simp only [evVal, hop] at e
    split at e
    · split at e
      · rename_i t' _ _ _ _
        cases hb : Nat.ble 1 (c.ti t').size <;> rw [hb] at e <;> cases e
      · cases e
    · exact absurd e gen
  | indexAddr t x i =>
    simp only [evVal, hop] at e
    split at e
    · split at e
      · rename_i len el _ n _ _ _ _ _
        cases hb : (inRange n len && Nat.ble 1 (c.ti el).size) <;> rw [hb] at e <;> cases e
      · cases e
    · exact absurd e gen
  | pick x a b =>
    simp only [evVal, hop] at e
    split at e <;> cases e
  | load t x =>
    simp only [evVal, hop] at e
    split at e
    · split at e
      · split at e <;> cases e
      · cases e
    · exact absurd e gen
  | alloc t =>
    simp only [evVal, hop] at e
    split at e
    · rename_i d hd
      cases hm : mem pol.locs d <;> rw [hm] at e
      · exact absurd e gen
      · simp only [cond_true] at e
        cases hb : (!rmHas rm d && Nat.ble 1 (c.ti t).size) <;> rw [hb] at e <;> cases e
    · cases e
  | box t x =>
    simp only [evVal, hop] at e
    split at e
    · rename_i d hd
      cases hm : mem pol.locs d <;> rw [hm] at e
      · exact absurd e gen
      · simp only [cond_true] at e
        cases hb : (okVal (c.ti t) (rho c pol fr rm x) && !rmHas rm d) <;> rw [hb] at e <;> cases e
    · cases e
  | _ => simp only [evVal, hop] at e; exact absurd e gen
theorem out_loc {o : Oper} {fr : Fr} {rm : Rm} {h : Heap} {cs : List DV} (e : evVal c C Y pol o fr rm h = some (.loc cs)) : ∃ d, o.dst = some d ∧ mem pol.locs d = true ∧ rmHas rm d = false := by
  have gen : ¬ (match evGen c C Y pol o (rho c pol fr rm) h with | some (v, h') => some (Out.val v h') | none => none) = some (.loc cs) := by
    intro e; split at e <;> cases e
  cases hop : o.op with
  | alloc t =>
    simp only [evVal, hop] at e
    split at e
    · rename_i d hd
      cases hm : mem pol.locs d <;> rw [hm] at e
      · exact absurd e gen
      · simp only [cond_true] at e
        cases hr : rmHas rm d <;> rw [hr] at e
        · exact ⟨d, hd, hm, hr⟩
        · simp at e
    · cases e
  | box t x =>
    simp only [evVal, hop] at e
    split at e
    · rename_i d hd
      cases hm : mem pol.locs d <;> rw [hm] at e
      · exact absurd e gen
      · simp only [cond_true] at e
        cases hr : rmHas rm d <;> rw [hr] at e
        · exact ⟨d, hd, hm, hr⟩
        · simp at e
    · cases e
  | store t x y =>
    simp only [evVal, hop] at e
    split at e
    · split at e
      · cases hb : okVal (c.ti t) (rho c pol fr rm y) with
        | false => rw [hb] at e; cases e
        | true =>
          rw [hb] at e
          simp only [cond_true] at e
          split at e <;> cases e
      · cases e
    · exact absurd e gen
  | move x =>
    simp only [evVal, hop] at e
    split at e
    · split at e <;> cases e
    · exact absurd e gen
  | nilCheck x =>
    simp only [evVal, hop] at e
    split at e
    · split at e <;> cases e
    · exact absurd e gen
  | fieldAddr t x f =>
    simp only [evVal, hop] at e
    split at e
    · split at e
      · rename_i t' _ _ _ _
        cases hb : Nat.ble 1 (c.ti t').size <;> rw [hb] at e <;> cases e
      · cases e
    · exact absurd e gen
  | indexAddr t x i =>
    simp only [evVal, hop] at e
    split at e
    · split at e
      · rename_i len el _ n _ _ _ _ _
        cases hb : (inRange n len && Nat.ble 1 (c.ti el).size) <;> rw [hb] at e <;> cases e
      · cases e
    · exact absurd e gen
  | pick x a b =>
    simp only [evVal, hop] at e
    split at e <;> cases e
  | load t x =>
    simp only [evVal, hop] at e
    split at e
    · split at e
      · split at e <;> cases e
      · cases e
    · exact absurd e gen
  | _ => simp only [evVal, hop] at e; exact absurd e gen

theorem listEqB_ok {α : Type} {f : α → α → Bool} (hf : ∀ x y, f x y = true → x = y) : ∀ l m : List α, listEqB f l m = true → l = m
  | [], [], _ => rfl
  | x :: l, y :: m, h => by
    simp only [listEqB, Bool.and_eq_true] at h
    rw [hf x y h.1, listEqB_ok hf l m h.2]
  | [], _ :: _, h => by cases h
  | _ :: _, [], h => by cases h
theorem dvEq_ok : ∀ (n : Nat) (x y : DV), dvEq n x y = true → x = y
  | 0, _, _, h => by cases h
  | n + 1, x, y, h => by
    have ih := dvEq_ok n
    cases x <;> cases y <;> simp only [dvEq, Bool.and_eq_true, Nat.beq_eq, decide_eq_true_eq, beq_iff_eq] at h <;>
      first
        | rfl
        | (cases h; done)
        | (subst h; rfl)
        | (obtain ⟨h1, h2⟩ := h; subst h1; subst h2; rfl)
        | (obtain ⟨h1, h2, h3, h4⟩ := h; subst h1; subst h2; subst h3; subst h4; rfl)
        | (obtain ⟨h1, h2, h3, h4, h5⟩ := h; subst h1; subst h2; subst h3; subst h4; subst h5; rfl)
        | (obtain ⟨h1, h2⟩ := h; subst h2; rw [listEqB_ok ih _ _ h1]; done)
        | (obtain ⟨h1, h2⟩ := h; subst h1; rw [listEqB_ok (fun a b e => listEqB_ok ih a b e) _ _ h2]; done)
        | (obtain ⟨h1, h2⟩ := h; subst h1; rw [ih _ _ h2]; done)
        | (rw [listEqB_ok ih _ _ h]; done)
end
end Dv
end

section
set_option autoImplicit false
set_option linter.unusedVariables false
set_option linter.unusedSimpArgs false
namespace Dv
open Go

def opAt (ops : Array Oper) (π : Nat → Nat) (q : Nat) : Oper := ops.getD (π q) default
def Closed (ops : Array Oper) (S : Nat → Prop) : Prop := ∀ i, i < ops.size → S i → ∀ e ∈ (ops.getD i default).after.toList, Region.binds .any e = true → S e.on
def Anc (ops : Array Oper) (i j : Nat) : Prop := ∀ S, Closed ops S → S i → S j
theorem Anc.trans {ops : Array Oper} {i j k : Nat} (a : Anc ops i j) (b : Anc ops j k) : Anc ops i k := fun S hc hi => b S hc (a S hc hi)

/-- A plan's run, position by position, and what its text was asked. -/
structure Tr (c : Ctx) (C Y : Nat → List DV → Heap → Res) (pol : Pol) (ops : Array Oper) (nt : Nat) (π : Nat → Nat) (rc : Nat → List Nat) (st : Nat → Fr × Rm × Heap) : Prop where
  lt : ∀ q, q < ops.size → π q < ops.size
  inj : ∀ q q', q < ops.size → q' < ops.size → π q = π q' → q = q'
  sur : ∀ i, i < ops.size → ∃ q, q < ops.size ∧ π q = i
  nt256 : nt ≤ 256
  ok : ∀ q, q < ops.size → opOK pol nt (opAt ops π q) = true
  rm0 : (st 0).2.1 = []
  step : ∀ q, q < ops.size → ∃ out, stepV c C Y pol ops (opAt ops π q) (st q).1 (st q).2.1 (st q).2.2 = some out ∧ st (q + 1) = (out.fr (opAt ops π q) (st q).1, out.rm (opAt ops π q) (st q).2.1, out.hp (st q).2.2)
  re : ∀ q, q < ops.size → ∀ l ∈ rc q, reOK c C Y pol ops (st (q + 1)).1 (st (q + 1)).2.1 (st (q + 1)).2.2 l = true
  f1 : ∀ q, q < ops.size → ∀ e ∈ (opAt ops π q).after.toList, Region.binds .any e = true → ∃ q', q' < q ∧ π q' = e.on
  f2 : ∀ q q', q' < q → q < ops.size → cls c pol ops (opAt ops π q) = .L ∨ cls c pol ops (opAt ops π q) = .X → cls c pol ops (opAt ops π q') = .X → Anc ops (π q) (π q')
  f3 : ∀ q q', q' < q → q < ops.size → cls c pol ops (opAt ops π q) = .X → cls c pol ops (opAt ops π q') = .L → Anc ops (π q) (π q') ∨ π q' ∈ rc q
  f4 : ∀ q q', q' < q → q < ops.size → cls c pol ops (opAt ops π q) = .A → cls c pol ops (opAt ops π q') = .A
  f5 : ∀ q q' d, q' < q → q < ops.size → (opAt ops π q).dst = some d → (opAt ops π q').dst ≠ some d
  f6 : ∀ q q' t, q < ops.size → q' < ops.size → q ≠ q' → t ∈ opTmps ops (opAt ops π q) → (opAt ops π q').dst = some t → Anc ops (π q) (π q') ∨ (Anc ops (π q') (π q) ∧ mem pol.locs t = false)
  f7 : ∀ q t, q < ops.size → t ∈ opTmps ops (opAt ops π q) → (opAt ops π q).dst = some t → mem pol.locs t = false
  f8 : ∀ q l, q < ops.size → l ∈ rc q → ∃ q', q' < q ∧ π q' = l ∧ cls c pol ops (opAt ops π q') = .L ∧ ∀ t ∈ opTmps ops (opAt ops π q'), ∀ q'', q'' < ops.size → (opAt ops π q'').dst = some t → q'' ≠ q' ∧ Anc ops (π q') (π q'')

theorem opTmps_mem {ops : Array Oper} {o : Oper} {t : Nat} (h : Operand.tmp t ∈ o.op.operands.toList) : t ∈ opTmps ops o := by
  unfold opTmps
  exact List.mem_append_right _ (List.mem_filterMap.2 ⟨_, h, rfl⟩)
theorem opTmps_guard {ops : Array Oper} {o : Oper} {j t : Nat} {want : Bool} (h : o.guard = some (j, want)) (ht : (ops[j]?).bind (·.dst) = some t) : t ∈ opTmps ops o := by
  unfold opTmps
  rw [h]
  simp only [ht]
  exact List.mem_append_left _ (by simp)
theorem assoc_filter_ne {α : Type} (d : Nat) : ∀ (l : List (Nat × α)) (t : Nat), t ≠ d → assoc (l.filter fun q => !Nat.beq q.1 d) t = assoc l t
  | [], _, _ => rfl
  | (k, x) :: l, t, h => by
    simp only [List.filter_cons, assoc]
    by_cases hk : k = d
    · subst hk
      simp only [Nat.beq_refl, Bool.not_true, Bool.false_eq_true, if_false]
      have : (k == t) = false := by simpa using Ne.symm h
      rw [this]
      exact assoc_filter_ne k l t h
    · have : Nat.beq k d = false := by
        cases e : Nat.beq k d with
        | false => rfl
        | true => exact absurd (Nat.eq_of_beq_eq_true e) hk
      simp only [this, Bool.not_false, if_true, assoc]
      rw [assoc_filter_ne d l t h]
theorem rmDel_ne {rm : Rm} {dst : Option Nat} {t : Nat} (h : dst ≠ some t) : assoc (rmDel rm dst) t = assoc rm t := by
  cases dst with
  | none => rfl
  | some d => exact assoc_filter_ne d rm t (fun e => h (by rw [e]))
theorem rmDel_self (rm : Rm) (d : Nat) : assoc (rmDel rm (some d)) d = none := by
  cases e : assoc (rmDel rm (some d)) d with
  | none => rfl
  | some p => exact absurd rfl (rmDel_some e).2

section
variable {c : Ctx} {C Y : Nat → List DV → Heap → Res} {pol : Pol} {ops : Array Oper}

theorem stepV_cases {o : Oper} {fr : Fr} {rm : Rm} {h : Heap} {out : Out} (e : stepV c C Y pol ops o fr rm h = some out) : evVal c C Y pol o fr rm h = some out ∨ (o.guard ≠ none ∧ out = .val (.tup []) h) := by
  unfold stepV at e
  cases hg : o.guard with
  | none => rw [hg] at e; exact .inl e
  | some g =>
    obtain ⟨j, want⟩ := g
    rw [hg] at e
    simp only at e
    split at e
    · split at e
      · rename_i b _
        cases hb : (b == want) <;> rw [hb] at e
        · cases e; exact .inr ⟨by simp, rfl⟩
        · exact .inl e
      · cases e; exact .inr ⟨by simp, rfl⟩
      · cases e
    · cases e

/-- Equal temporaries, equal locals: the same. -/
theorem agree_of {fr fr' : Fr} {rm rm' : Rm} {x : Operand} (H : ∀ t, x = .tmp t → mem pol.locs t = false → fget fr t = fget fr' t ∧ assoc rm t = assoc rm' t) : rho c pol fr rm x = rho c pol fr' rm' x ∧ locOp pol rm x = locOp pol rm' x := by
  cases x with
  | tmp t =>
    cases hm : mem pol.locs t with
    | true => simp only [rho, locOp, locOf, hm, cond_true, and_self]
    | false =>
      obtain ⟨h1, h2⟩ := H t rfl hm
      simp only [rho, locOp, locOf, hm, cond_false, h1, h2, and_self]
  | _ => exact ⟨rfl, rfl⟩
theorem stepV_congr {o : Oper} {fr fr' : Fr} {rm rm' : Rm} (h : Heap) (H : ∀ t ∈ opTmps ops o, mem pol.locs t = false → fget fr t = fget fr' t ∧ assoc rm t = assoc rm' t)
    (HL : ∀ x ∈ o.op.operands.toList, ∀ s off, locOp pol rm x = some (s, off) → fget fr s = fget fr' s) (hrm : ∀ d, o.dst = some d → mem pol.locs d = true → rmHas rm d = rmHas rm' d) :
    stepV c C Y pol ops o fr rm h = stepV c C Y pol ops o fr' rm' h := by
  have hv := evVal_congr (c := c) (C := C) (Y := Y) (pol := pol) (o := o) h (fr := fr) (fr' := fr') (rm := rm) (rm' := rm') (fun x hx => by
    obtain ⟨h1, h2⟩ := agree_of (c := c) (pol := pol) (x := x) (fr := fr) (fr' := fr') (rm := rm) (rm' := rm') (fun t e hm => H t (opTmps_mem (e ▸ hx)) hm)
    exact ⟨h1, h2, HL x hx⟩) hrm
  unfold stepV
  cases hg : o.guard with
  | none => exact hv
  | some g =>
    obtain ⟨j, want⟩ := g
    simp only
    cases ht : (ops[j]?).bind (·.dst) with
    | none => rfl
    | some t =>
      simp only
      rw [(agree_of (c := c) (pol := pol) (x := .tmp t) (fr := fr) (fr' := fr') (rm := rm) (rm' := rm') (fun t' e hm => by cases e; exact H _ (opTmps_guard hg ht) hm)).1, hv]
theorem stepV_P {o : Oper} (hc : cls c pol ops o = .P) {fr fr' : Fr} {rm rm' : Rm} {h : Heap} (h' : Heap) (hm : ∀ t, o.op = .move (.tmp t) → locOp pol rm (.tmp t) = none) {out : Out} (e : stepV c C Y pol ops o fr rm h = some out)
    (H : ∀ t ∈ opTmps ops o, mem pol.locs t = false → fget fr t = fget fr' t ∧ assoc rm t = assoc rm' t) : ∃ v, out = .val v h ∧ stepV c C Y pol ops o fr' rm' h' = some (.val v h') := by
  have hr : ∀ x ∈ o.op.operands.toList, rho c pol fr rm x = rho c pol fr' rm' x ∧ locOp pol rm x = locOp pol rm' x := fun x hx => agree_of (fun t e hm => H t (opTmps_mem (e ▸ hx)) hm)
  have hm' : ∀ t, o.op = .move (.tmp t) → locOp pol rm' (.tmp t) = none := fun t ht => by
    rw [← (hr (.tmp t) (by simp [ht, Op.operands])).2]; exact hm t ht
  unfold stepV at e ⊢
  cases hg : o.guard with
  | none =>
    rw [hg] at e
    obtain ⟨v, h1, h2⟩ := cls_P hc hm e
    exact ⟨v, h1, h2 fr' rm' h' (fun x hx => (hr x hx).1) hm'⟩
  | some g =>
    obtain ⟨j, want⟩ := g
    rw [hg] at e
    simp only at e ⊢
    cases ht : (ops[j]?).bind (·.dst) with
    | none => rw [ht] at e; cases e
    | some t =>
      rw [ht] at e
      simp only at e ⊢
      rw [← (agree_of (c := c) (pol := pol) (x := .tmp t) (fr := fr) (fr' := fr') (rm := rm) (rm' := rm') (fun t' e hm => by cases e; exact H _ (opTmps_guard hg ht) hm)).1]
      split at e
      · rename_i b hb
        cases hw : (b == want) <;> rw [hw] at e
        · cases e; exact ⟨_, rfl, rfl⟩
        · obtain ⟨v, h1, h2⟩ := cls_P hc hm e
          exact ⟨v, h1, h2 fr' rm' h' (fun x hx => (hr x hx).1) hm'⟩
      · cases e
        exact ⟨_, rfl, rfl⟩
      · cases e
theorem stepV_L {o : Oper} (hc : cls c pol ops o = .L) {fr : Fr} {rm : Rm} {h : Heap} {out : Out} (e : stepV c C Y pol ops o fr rm h = some out) : (∃ v, out = .val v h) ∨ ∃ p, out = .pt p := by
  rcases stepV_cases e with e | ⟨_, e⟩
  · exact cls_L hc e
  · exact .inl ⟨_, e⟩
theorem stepV_pt {o : Oper} {fr : Fr} {rm : Rm} {h : Heap} {s off : Nat} (e : stepV c C Y pol ops o fr rm h = some (.pt (s, off))) : evVal c C Y pol o fr rm h = some (.pt (s, off)) := by
  rcases stepV_cases e with e | ⟨_, e⟩
  · exact e
  · cases e
theorem stepV_wr {o : Oper} {fr : Fr} {rm : Rm} {h : Heap} {s : Nat} {cs : List DV} (e : stepV c C Y pol ops o fr rm h = some (.wr s cs)) : evVal c C Y pol o fr rm h = some (.wr s cs) := by
  rcases stepV_cases e with e | ⟨_, e⟩
  · exact e
  · cases e
/-- An allocation of a local's: the cells. -/
theorem stepV_locdst {o : Oper} {nt : Nat} (hok : opOK pol nt o = true) {d : Nat} (hd : o.dst = some d) (hm : mem pol.locs d = true) {fr : Fr} {rm : Rm} {h : Heap} {out : Out} (e : stepV c C Y pol ops o fr rm h = some out) : ∃ cs, out = .loc cs := by
  obtain ⟨_, hk⟩ := opOK_dst hok hd
  obtain ⟨hg, hk⟩ := hk hm
  rcases stepV_cases e with e | ⟨h1, _⟩
  · obtain ⟨q, hop⟩ : ∃ q, o.op = q := ⟨_, rfl⟩
    rw [hop] at hk
    cases q with
    | alloc t =>
      simp only [evVal, hop, hd, hm, cond_true] at e
      cases hb : (!rmHas rm d && Nat.ble 1 (c.ti t).size) <;> rw [hb] at e <;> cases e
      exact ⟨_, rfl⟩
    | box t x =>
      simp only [evVal, hop, hd, hm, cond_true] at e
      cases hb : (okVal (c.ti t) (rho c pol fr rm x) && !rmHas rm d) <;> rw [hb] at e <;> cases e
      exact ⟨_, rfl⟩
    | _ => exact hk.elim
  · exact absurd hg h1
end
end Dv
end

section
set_option autoImplicit false
set_option linter.unusedVariables false
set_option linter.unusedSimpArgs false
namespace Dv
open Go

section
variable {c : Ctx} {C Y : Nat → List DV → Heap → Res} {pol : Pol} {ops : Array Oper} {nt : Nat} {π : Nat → Nat} {rc : Nat → List Nat} {st : Nat → Fr × Rm × Heap}

theorem Tr.getOp (T : Tr c C Y pol ops nt π rc st) {q : Nat} (hq : q < ops.size) : ops[π q]? = some (opAt ops π q) := by
  have := T.lt q hq
  simp [opAt, Array.getD, this]
theorem Tr.ancLe (T : Tr c C Y pol ops nt π rc st) {q q' : Nat} (hq : q < ops.size) (hq' : q' < ops.size) (h : Anc ops (π q) (π q')) : q' ≤ q := by
  obtain ⟨r, hr, e⟩ := h (fun i => ∃ r, r ≤ q ∧ π r = i) (fun i hi hr ed hed hb => by
    obtain ⟨r, hr, rfl⟩ := hr
    obtain ⟨r', h1, h2⟩ := T.f1 r (by omega) ed hed hb
    exact ⟨r', by omega, h2⟩) ⟨q, Nat.le_refl _, rfl⟩
  have := T.inj r q' (by omega) hq' e
  omega
theorem Tr.uniq (T : Tr c C Y pol ops nt π rc st) {q q' d : Nat} (hq : q < ops.size) (hq' : q' < ops.size) (h : (opAt ops π q).dst = some d) (h' : (opAt ops π q').dst = some d) : q = q' := by
  rcases Nat.lt_trichotomy q q' with hl | he | hl
  · exact absurd h (T.f5 q' q d hl hq' h')
  · exact he
  · exact absurd h' (T.f5 q q' d hl hq h)
theorem Tr.dlt (T : Tr c C Y pol ops nt π rc st) {q d : Nat} (hq : q < ops.size) (h : (opAt ops π q).dst = some d) : d < 256 := Nat.lt_of_lt_of_le (opOK_dst (T.ok q hq) h).1 T.nt256

def RmI (c : Ctx) (pol : Pol) (ops : Array Oper) (π : Nat → Nat) (st : Nat → Fr × Rm × Heap) (q : Nat) : Prop := ∀ t s off, assoc (st q).2.1 t = some (s, off) → s < 256 ∧ mem pol.locs s = true ∧
  ∃ q', q' < q ∧ (opAt ops π q').dst = some t ∧ isAssign (opAt ops π q') = false ∧ cls c pol ops (opAt ops π q') = .L ∧ ∀ p, p < ops.size → cls c pol ops (opAt ops π p) = .A → (opAt ops π p).dst = some s → Anc ops (π q') (π p)
theorem Tr.locUse' (T : Tr c C Y pol ops nt π rc st) {q : Nat} (hq : q < ops.size) (R : RmI c pol ops π st q) {x : Operand} {s off : Nat} (hx : x ∈ (opAt ops π q).op.operands.toList) (hl : locOp pol (st q).2.1 x = some (s, off)) :
    s < 256 ∧ mem pol.locs s = true ∧ ∀ p, p < ops.size → cls c pol ops (opAt ops π p) = .A → (opAt ops π p).dst = some s → Anc ops (π q) (π p) := by
  cases x with
  | tmp t =>
    have ht := opTmps_mem (ops := ops) hx
    cases hm : mem pol.locs t with
    | true =>
      simp only [locOp, locOf, hm, cond_true, Option.some.injEq, Prod.mk.injEq] at hl
      obtain ⟨rfl, rfl⟩ := hl
      refine ⟨opOK_tmp (T.ok q hq) hx t rfl, hm, fun p hp hA hd => ?_⟩
      have hne : q ≠ p := by
        rintro rfl
        obtain ⟨d, ty, h1, _⟩ := cls_A hA
        rw [h1] at hx
        simp [Op.operands] at hx
      rcases T.f6 q p t hq hp hne ht hd with h | ⟨_, h⟩
      · exact h
      · rw [hm] at h; cases h
    | false =>
      simp only [locOp, locOf, hm, cond_false] at hl
      obtain ⟨h1, h2, q', hq', hd', ha', hx', hA⟩ := R t s off hl
      refine ⟨h1, h2, fun p hp hpA hpd => ?_⟩
      have hne : q ≠ q' := by omega
      rcases T.f6 q q' t hq (by omega) hne ht hd' with h | ⟨h, _⟩
      · exact h.trans (hA p hp hpA hpd)
      · have := T.ancLe (by omega) hq h
        omega
  | _ => cases hl
theorem Tr.moveP' (T : Tr c C Y pol ops nt π rc st) {q : Nat} (hq : q < ops.size) (R : RmI c pol ops π st q) (t : Nat) (ho : (opAt ops π q).op = .move (.tmp t)) (hc : cls c pol ops (opAt ops π q) = .P) : locOp pol (st q).2.1 (.tmp t) = none := by
  simp only [cls, ho] at hc
  cases hb : (mem pol.locs t || !(ops.toList.all fun q => !isDst q t || isAssign q)) with
  | true => rw [hb] at hc; cases hc
  | false =>
    simp only [Bool.or_eq_false_iff, Bool.not_eq_false'] at hb
    obtain ⟨h1, h2⟩ := hb
    simp only [locOp, locOf, h1, cond_false]
    cases e : assoc (st q).2.1 t with
    | none => rfl
    | some p =>
      obtain ⟨s, off⟩ := p
      obtain ⟨_, _, q', h3, h4, h5, _⟩ := R t s off e
      rw [List.all_eq_true] at h2
      have hg := T.getOp (q := q') (by omega)
      have := h2 (opAt ops π q') (by
        obtain ⟨a, b⟩ := Array.getElem?_eq_some_iff.1 hg
        rw [← b]; simp)
      simp [isDst, h4, h5] at this
theorem Tr.rmI (T : Tr c C Y pol ops nt π rc st) : ∀ q, q ≤ ops.size → RmI c pol ops π st q
  | 0, _, t, s, off, h => by rw [T.rm0] at h; cases h
  | q + 1, hq, t, s, off, h => by
    have R := T.rmI q (by omega)
    have up : (assoc (st q).2.1 t = some (s, off)) → s < 256 ∧ mem pol.locs s = true ∧ ∃ q', q' < q + 1 ∧ (opAt ops π q').dst = some t ∧ isAssign (opAt ops π q') = false ∧ cls c pol ops (opAt ops π q') = .L ∧ ∀ p, p < ops.size → cls c pol ops (opAt ops π p) = .A → (opAt ops π p).dst = some s → Anc ops (π q') (π p) := fun h => by
      obtain ⟨a, b, q', h1, h2⟩ := R t s off h
      exact ⟨a, b, q', by omega, h2⟩
    have del : (assoc (rmDel (st q).2.1 (opAt ops π q).dst) t = some (s, off)) → assoc (st q).2.1 t = some (s, off) := fun h => by
      cases hd : (opAt ops π q).dst with
      | none => rw [hd] at h; exact h
      | some d => rw [hd] at h; exact (rmDel_some h).1
    obtain ⟨out, ho, hs⟩ := T.step q (by omega)
    rw [hs] at h
    cases out with
    | val v h' => exact up (del h)
    | wr s' cs => exact up (del h)
    | loc cs => exact up h
    | pt p =>
      obtain ⟨s', off'⟩ := p
      obtain ⟨ha, ⟨d, hd⟩, hX, x, hx, o2, hl⟩ := out_pt (ops := ops) (stepV_pt ho)
      have hX : cls c pol ops (opAt ops π q) = .L := by
        cases hc : cls c pol ops (opAt ops π q) with
        | L => rfl
        | X => exact absurd hc hX
        | A =>
          obtain ⟨d, t, h1, h2, h3, h4, h5⟩ := cls_A hc
          obtain ⟨cs, h⟩ := stepV_locdst (T.ok q (by omega)) h2 h3 ho
          cases h
        | P =>
          obtain ⟨v, h, _⟩ := stepV_P hc (st q).2.2 (fun t ht => T.moveP' (by omega) R t ht hc) ho (fr' := (st q).1) (rm' := (st q).2.1) (fun t _ _ => ⟨rfl, rfl⟩)
          cases h
      simp only [Out.rm, hd, assoc] at h
      cases hb : (d == t) with
      | false =>
        rw [hb] at h
        exact up (rmDel_some h).1
      | true =>
        rw [hb] at h
        have := eq_of_beq hb
        subst this
        simp only [cond_true, Option.some.injEq, Prod.mk.injEq] at h
        obtain ⟨rfl, rfl⟩ := h
        obtain ⟨a, b, e⟩ := T.locUse' (by omega) R hx hl
        exact ⟨a, b, q, by omega, hd, ha, hX, e⟩
theorem Tr.locUse (T : Tr c C Y pol ops nt π rc st) {q : Nat} (hq : q < ops.size) {x : Operand} {s off : Nat} (hx : x ∈ (opAt ops π q).op.operands.toList) (hl : locOp pol (st q).2.1 x = some (s, off)) :
    s < 256 ∧ mem pol.locs s = true ∧ ∀ p, p < ops.size → cls c pol ops (opAt ops π p) = .A → (opAt ops π p).dst = some s → Anc ops (π q) (π p) := T.locUse' hq (T.rmI q (by omega)) hx hl

/-! ### What a step leaves as it was -/
theorem fput_ne {fr : Fr} {dst : Option Nat} {v : DV} {t : Nat} (hd : ∀ d, dst = some d → d < 256) (h : dst ≠ some t) : fget (fput fr dst v) t = fget fr t := by
  cases dst with
  | none => rfl
  | some d => exact fget_fset_ne (hd d rfl) (fun e => h (by rw [e]))
theorem Tr.frKeep1 (T : Tr c C Y pol ops nt π rc st) {q t : Nat} (hq : q < ops.size) (hm : mem pol.locs t = false) (hd : (opAt ops π q).dst ≠ some t) : fget (st (q + 1)).1 t = fget (st q).1 t ∧ assoc (st (q + 1)).2.1 t = assoc (st q).2.1 t := by
  obtain ⟨out, ho, hs⟩ := T.step q hq
  have dl : ∀ d, (opAt ops π q).dst = some d → d < 256 := fun d h => T.dlt hq h
  rw [hs]
  cases out with
  | val v h' => exact ⟨fput_ne dl hd, rmDel_ne hd⟩
  | loc cs => exact ⟨fput_ne dl hd, rfl⟩
  | wr s cs =>
    obtain ⟨x, hx, off, hl⟩ := out_wr (stepV_wr ho)
    obtain ⟨h1, h2, _⟩ := T.locUse hq hx hl
    refine ⟨?_, rmDel_ne hd⟩
    simp only [Out.fr]
    rw [fput_ne dl hd, fget_fset_ne h1 (fun e => by subst e; rw [h2] at hm; cases hm)]
  | pt p =>
    obtain ⟨s, off⟩ := p
    obtain ⟨_, ⟨d, hd'⟩, _⟩ := out_pt (ops := ops) (stepV_pt ho)
    refine ⟨fput_ne dl hd, ?_⟩
    simp only [Out.rm, hd', assoc]
    have hne : d ≠ t := fun e => hd (by rw [hd', e])
    have : (d == t) = false := by simpa using hne
    rw [this]
    exact rmDel_ne (dst := some d) (by simpa using hne)
theorem Tr.frKeep (T : Tr c C Y pol ops nt π rc st) {t : Nat} (hm : mem pol.locs t = false) (q : Nat) : ∀ k, q + k ≤ ops.size → (∀ r, q ≤ r → r < q + k → (opAt ops π r).dst ≠ some t) → fget (st (q + k)).1 t = fget (st q).1 t ∧ assoc (st (q + k)).2.1 t = assoc (st q).2.1 t
  | 0, _, _ => ⟨rfl, rfl⟩
  | k + 1, hk, hd => by
    obtain ⟨a, b⟩ := T.frKeep hm q k (by omega) (fun r h1 h2 => hd r h1 (by omega))
    obtain ⟨a', b'⟩ := T.frKeep1 (q := q + k) (by omega) hm (hd _ (by omega) (by omega))
    exact ⟨a'.trans a, b'.trans b⟩
theorem Tr.keep (T : Tr c C Y pol ops nt π rc st) {t : Nat} (hm : mem pol.locs t = false) {q q' : Nat} (hle : q ≤ q') (hq' : q' ≤ ops.size) (hd : ∀ r, q ≤ r → r < q' → (opAt ops π r).dst ≠ some t) : fget (st q').1 t = fget (st q).1 t ∧ assoc (st q').2.1 t = assoc (st q).2.1 t := by
  obtain ⟨k, rfl⟩ : ∃ k, q' = q + k := ⟨q' - q, by omega⟩
  exact T.frKeep hm q k hq' hd
/-- Behind its writer a temporary stays. -/
theorem Tr.fin (T : Tr c C Y pol ops nt π rc st) {t q q' : Nat} (hm : mem pol.locs t = false) (hq : q < ops.size) (hd : (opAt ops π q).dst = some t) (h1 : q < q') (h2 : q' ≤ ops.size) :
    fget (st ops.size).1 t = fget (st q').1 t ∧ assoc (st ops.size).2.1 t = assoc (st q').2.1 t :=
  T.keep hm h2 (Nat.le_refl _) (fun r h3 h4 e => by have := T.uniq hq h4 hd e; omega)
/-- Ahead of its writer it is as it was. -/
theorem Tr.ini (T : Tr c C Y pol ops nt π rc st) {t q q' : Nat} (hm : mem pol.locs t = false) (hq : q < ops.size) (hd : (opAt ops π q).dst = some t) (h1 : q' ≤ q) :
    fget (st q').1 t = fget (st 0).1 t ∧ assoc (st q').2.1 t = none := by
  have := T.keep hm (Nat.zero_le q') (by omega) (fun r h3 h4 e => by have := T.uniq hq (by omega) hd e; omega)
  exact ⟨this.1, by rw [this.2, T.rm0]; rfl⟩
theorem Tr.no (T : Tr c C Y pol ops nt π rc st) {t q : Nat} (hm : mem pol.locs t = false) (hd : ∀ r, r < ops.size → (opAt ops π r).dst ≠ some t) (h1 : q ≤ ops.size) :
    fget (st q).1 t = fget (st 0).1 t ∧ assoc (st q).2.1 t = none := by
  have := T.keep hm (Nat.zero_le q) h1 (fun r h3 h4 => hd r (by omega))
  exact ⟨this.1, by rw [this.2, T.rm0]; rfl⟩

theorem Tr.hKeep1 (T : Tr c C Y pol ops nt π rc st) {q : Nat} (hq : q < ops.size) (hX : cls c pol ops (opAt ops π q) ≠ .X) (hm : ∀ t, (opAt ops π q).op = .move (.tmp t) → cls c pol ops (opAt ops π q) = .P → locOp pol (st q).2.1 (.tmp t) = none) :
    (st (q + 1)).2.2 = (st q).2.2 ∧ ∀ s, mem pol.locs s = true → s < 256 → ¬ (cls c pol ops (opAt ops π q) = .A ∧ (opAt ops π q).dst = some s) → fget (st (q + 1)).1 s = fget (st q).1 s := by
  obtain ⟨out, ho, hs⟩ := T.step q hq
  have dl : ∀ d, (opAt ops π q).dst = some d → d < 256 := fun d h => T.dlt hq h
  rw [hs]
  cases hc : cls c pol ops (opAt ops π q) with
  | X => exact absurd hc hX
  | A =>
    obtain ⟨d, t, h1, h2, h3, h4, h5⟩ := cls_A hc
    obtain ⟨cs, rfl⟩ := stepV_locdst (T.ok q hq) h2 h3 ho
    refine ⟨rfl, fun s h6 h7 h8 => fput_ne dl (fun e => h8 ⟨rfl, e⟩)⟩
  | P =>
    obtain ⟨v, rfl, _⟩ := stepV_P hc (st q).2.2 (fun t ht => hm t ht hc) ho (fr' := (st q).1) (rm' := (st q).2.1) (fun t _ _ => ⟨rfl, rfl⟩)
    refine ⟨rfl, fun s h6 h7 h8 => fput_ne dl (fun e => ?_)⟩
    obtain ⟨cs, h⟩ := stepV_locdst (T.ok q hq) e h6 ho
    cases h
  | L =>
    have hnd : ∀ s, mem pol.locs s = true → (opAt ops π q).dst ≠ some s := fun s h6 e => by
      obtain ⟨cs, h⟩ := stepV_locdst (T.ok q hq) e h6 ho
      rcases stepV_L hc ho with ⟨v, rfl⟩ | ⟨p, rfl⟩ <;> cases h
    rcases stepV_L hc ho with ⟨v, rfl⟩ | ⟨p, rfl⟩
    · exact ⟨rfl, fun s h6 h7 h8 => fput_ne dl (hnd s h6)⟩
    · exact ⟨rfl, fun s h6 h7 h8 => fput_ne dl (hnd s h6)⟩
theorem Tr.moveP (T : Tr c C Y pol ops nt π rc st) {q : Nat} (hq : q < ops.size) (t : Nat) (ho : (opAt ops π q).op = .move (.tmp t)) (hc : cls c pol ops (opAt ops π q) = .P) : locOp pol (st q).2.1 (.tmp t) = none := T.moveP' hq (T.rmI q (by omega)) t ho hc
theorem Tr.hKeep (T : Tr c C Y pol ops nt π rc st) (q : Nat) : ∀ k, q + k ≤ ops.size → (∀ r, q ≤ r → r < q + k → cls c pol ops (opAt ops π r) ≠ .X) →
    (st (q + k)).2.2 = (st q).2.2 ∧ ∀ s, mem pol.locs s = true → s < 256 → (∀ r, q ≤ r → r < q + k → ¬ (cls c pol ops (opAt ops π r) = .A ∧ (opAt ops π r).dst = some s)) → fget (st (q + k)).1 s = fget (st q).1 s
  | 0, _, _ => ⟨rfl, fun _ _ _ _ => rfl⟩
  | k + 1, hk, hX => by
    obtain ⟨a, b⟩ := T.hKeep q k (by omega) (fun r h1 h2 => hX r h1 (by omega))
    obtain ⟨a', b'⟩ := T.hKeep1 (q := q + k) (by omega) (hX _ (by omega) (by omega)) (fun t ht hc => T.moveP (by omega) t ht hc)
    exact ⟨a'.trans a, fun s h1 h2 h3 => (b' s h1 h2 (h3 _ (by omega) (by omega))).trans (b s h1 h2 (fun r h4 h5 => h3 r h4 (by omega)))⟩
theorem Tr.hkeep (T : Tr c C Y pol ops nt π rc st) {q q' : Nat} (hle : q ≤ q') (hq' : q' ≤ ops.size) (hX : ∀ r, q ≤ r → r < q' → cls c pol ops (opAt ops π r) ≠ .X) :
    (st q').2.2 = (st q).2.2 ∧ ∀ s, mem pol.locs s = true → s < 256 → (∀ r, q ≤ r → r < q' → ¬ (cls c pol ops (opAt ops π r) = .A ∧ (opAt ops π r).dst = some s)) → fget (st q').1 s = fget (st q).1 s := by
  obtain ⟨k, rfl⟩ : ∃ k, q' = q + k := ⟨q' - q, by omega⟩
  exact T.hKeep q k hq' hX
/-- A local that an operation does not hang on is not written by it. -/
theorem Tr.xKeep (T : Tr c C Y pol ops nt π rc st) {q p s : Nat} (hq : q < ops.size) (hp : p < ops.size) (hX : cls c pol ops (opAt ops π q) = .X) (hA : cls c pol ops (opAt ops π p) = .A) (hd : (opAt ops π p).dst = some s) (hs : mem pol.locs s = true)
    (hn : ¬ Anc ops (π q) (π p)) : fget (st (q + 1)).1 s = fget (st q).1 s := by
  obtain ⟨out, ho, he⟩ := T.step q hq
  have dl : ∀ d, (opAt ops π q).dst = some d → d < 256 := fun d h => T.dlt hq h
  have hds : (opAt ops π q).dst ≠ some s := fun e => by
    have := T.uniq hq hp e hd
    subst this
    rw [hX] at hA; cases hA
  rw [he]
  cases out with
  | val v h' => exact fput_ne dl hds
  | loc cs => exact fput_ne dl hds
  | pt p' => exact fput_ne dl hds
  | wr s' cs =>
    obtain ⟨x, hx, off, hl⟩ := out_wr (stepV_wr ho)
    obtain ⟨h1, h2, h3⟩ := T.locUse hq hx hl
    simp only [Out.fr]
    rw [fput_ne dl hds, fget_fset_ne h1 (fun e => by subst e; exact hn (h3 p hp hA hd))]
end
end Dv
end

section
set_option autoImplicit false
set_option linter.unusedVariables false
set_option linter.unusedSimpArgs false
namespace Dv
open Go

/-- What holds where some of a plan's operations have been done, in whatever order. -/
structure Inv (c : Ctx) (pol : Pol) (ops : Array Oper) (π : Nat → Nat) (st : Nat → Fr × Rm × Heap) (ex : Nat → Prop) (j : Nat) (fr : Fr) (rm : Rm) : Prop where
  jn : j ≤ ops.size
  jx : ∀ q, q < j → cls c pol ops (opAt ops π q) = .X → ex q
  jj : j < ops.size → cls c pol ops (opAt ops π j) = .X ∧ ¬ ex j
  clo : Closed ops fun i => ∃ q, q < ops.size ∧ π q = i ∧ ex q
  f1 : ∀ t, mem pol.locs t = false → ∀ q, q < ops.size → ex q → (opAt ops π q).dst = some t → fget fr t = fget (st ops.size).1 t ∧ assoc rm t = assoc (st ops.size).2.1 t
  f0 : ∀ t, mem pol.locs t = false → (∀ q, q < ops.size → (opAt ops π q).dst = some t → ¬ ex q) → fget fr t = fget (st 0).1 t ∧ assoc rm t = none
  lo : ∀ s, mem pol.locs s = true → s < 256 → (∀ q, q < ops.size → cls c pol ops (opAt ops π q) = .A → (opAt ops π q).dst = some s → ex q) → fget fr s = fget (st j).1 s

theorem lastX {p : Nat → Prop} (a : Nat) : ∀ k, (∃ r, a ≤ r ∧ r < a + k ∧ p r) → ∃ x, a ≤ x ∧ x < a + k ∧ p x ∧ ∀ r, x < r → r < a + k → ¬ p r
  | 0, ⟨r, h1, h2, _⟩ => by omega
  | k + 1, ⟨r, h1, h2, h3⟩ => by
    by_cases hk : p (a + k)
    · exact ⟨a + k, by omega, by omega, hk, fun r h4 h5 => by omega⟩
    · have hr : r ≠ a + k := fun e => hk (e ▸ h3)
      obtain ⟨x, g1, g2, g3, g4⟩ := lastX (p := p) a k ⟨r, h1, by omega, h3⟩
      refine ⟨x, g1, by omega, g3, fun r' h4 h5 => ?_⟩
      by_cases he : r' = a + k
      · subst he; exact hk
      · exact g4 r' h4 (by omega)
theorem nextX {p : Nat → Prop} (n : Nat) : ∀ k a, a + k = n → ∃ j, a ≤ j ∧ j ≤ n ∧ (∀ r, a ≤ r → r < j → ¬ p r) ∧ (j < n → p j)
  | 0, a, h => ⟨a, Nat.le_refl _, by omega, fun r h1 h2 => by omega, fun h' => by omega⟩
  | k + 1, a, h => by
    by_cases ha : p a
    · exact ⟨a, Nat.le_refl _, by omega, fun r h1 h2 => by omega, fun _ => ha⟩
    · obtain ⟨j, h1, h2, h3, h4⟩ := nextX (p := p) n k (a + 1) (by omega)
      refine ⟨j, by omega, h2, fun r h5 h6 => ?_, h4⟩
      by_cases he : r = a
      · subst he; exact ha
      · exact h3 r (by omega) h6

section
variable {c : Ctx} {C Y : Nat → List DV → Heap → Res} {pol : Pol} {ops : Array Oper} {nt : Nat} {π : Nat → Nat} {rc : Nat → List Nat} {st : Nat → Fr × Rm × Heap} {ex : Nat → Prop} {j : Nat} {fr : Fr} {rm : Rm} {p : Nat}

theorem Inv.anc (T : Tr c C Y pol ops nt π rc st) (I : Inv c pol ops π st ex j fr rm) {q q' : Nat} (hq : q < ops.size) (hq' : q' < ops.size) (he : ex q) (h : Anc ops (π q) (π q')) : ex q' := by
  obtain ⟨r, h1, h2, h3⟩ := h _ I.clo ⟨q, hq, rfl, he⟩
  exact T.inj r q' h1 hq' h2 ▸ h3
theorem Inv.xlt (T : Tr c C Y pol ops nt π rc st) (I : Inv c pol ops π st ex j fr rm) {q : Nat} (hq : q < ops.size) (he : ex q) (hX : cls c pol ops (opAt ops π q) = .X) : q < j := by
  rcases Nat.lt_trichotomy q j with h | h | h
  · exact h
  · subst h; exact absurd he (I.jj hq).2
  · have hj : j < ops.size := by omega
    exact absurd (I.anc T hq hj he (T.f2 q j h hq (.inr hX) (I.jj hj).1)) (I.jj hj).2

variable (hp : p < ops.size) (hnp : ¬ ex p) (hr : ∀ q, q < ops.size → Anc ops (π p) (π q) → q ≠ p → ex q)
include hp hnp hr

theorem Inv.agree (T : Tr c C Y pol ops nt π rc st) (I : Inv c pol ops π st ex j fr rm) : ∀ t ∈ opTmps ops (opAt ops π p), mem pol.locs t = false → fget fr t = fget (st p).1 t ∧ assoc rm t = assoc (st p).2.1 t := by
  intro t ht hm
  by_cases hw : ∃ q, q < ops.size ∧ (opAt ops π q).dst = some t
  · obtain ⟨q, hq, hd⟩ := hw
    have old : ¬ ex q → p ≤ q → fget fr t = fget (st p).1 t ∧ assoc rm t = assoc (st p).2.1 t := fun hnq hle => by
      obtain ⟨a, b⟩ := I.f0 t hm (fun q' hq' hd' => by rw [T.uniq hq' hq hd' hd]; exact hnq)
      obtain ⟨a', b'⟩ := T.ini hm hq hd hle
      exact ⟨a.trans a'.symm, b.trans b'.symm⟩
    by_cases hqp : q = p
    · subst hqp; exact old hnp (Nat.le_refl _)
    · rcases T.f6 p q t hp hq (fun e => hqp e.symm) ht hd with h | ⟨h, _⟩
      · have := T.ancLe hp hq h
        obtain ⟨a, b⟩ := I.f1 t hm q hq (hr q hq h hqp) hd
        obtain ⟨a', b'⟩ := T.fin hm hq hd (q' := p) (by omega) (by omega)
        exact ⟨a.trans a', b.trans b'⟩
      · exact old (fun he => hnp (I.anc T hq hp he h)) (T.ancLe hq hp h)
  · have hno : ∀ r, r < ops.size → (opAt ops π r).dst ≠ some t := fun r h1 h2 => hw ⟨r, h1, h2⟩
    obtain ⟨a, b⟩ := I.f0 t hm (fun q hq hd => absurd hd (hno q hq))
    obtain ⟨a', b'⟩ := T.no hm hno (q := p) (by omega)
    exact ⟨a.trans a'.symm, b.trans b'.symm⟩
theorem Inv.opers (T : Tr c C Y pol ops nt π rc st) (I : Inv c pol ops π st ex j fr rm) {x : Operand} (hx : x ∈ (opAt ops π p).op.operands.toList) : locOp pol rm x = locOp pol (st p).2.1 x :=
  (agree_of (c := c) (fun t e hm => I.agree hp hnp hr T t (opTmps_mem (e ▸ hx)) hm)).2
theorem Inv.locs (T : Tr c C Y pol ops nt π rc st) (I : Inv c pol ops π st ex j fr rm) {x : Operand} (hx : x ∈ (opAt ops π p).op.operands.toList) {s off : Nat} (hl : locOp pol rm x = some (s, off)) :
    s < 256 ∧ mem pol.locs s = true ∧ fget fr s = fget (st j).1 s ∧ ∀ q, q < ops.size → cls c pol ops (opAt ops π q) = .A → (opAt ops π q).dst = some s → Anc ops (π p) (π q) := by
  rw [I.opers hp hnp hr T hx] at hl
  obtain ⟨h1, h2, h3⟩ := T.locUse hp hx hl
  refine ⟨h1, h2, I.lo s h2 h1 (fun q hq hA hd => hr q hq (h3 q hq hA hd) ?_), h3⟩
  rintro rfl
  obtain ⟨d, ty, h4, _⟩ := cls_A hA
  rw [h4] at hx
  simp [Op.operands] at hx
theorem Inv.clo' (T : Tr c C Y pol ops nt π rc st) (I : Inv c pol ops π st ex j fr rm) : Closed ops fun i => ∃ q, q < ops.size ∧ π q = i ∧ (ex q ∨ q = p) := by
  rintro i hi ⟨q, hq, rfl, he | rfl⟩ e hed hb
  · obtain ⟨r, h1, h2, h3⟩ := I.clo (π q) hi ⟨q, hq, rfl, he⟩ e hed hb
    exact ⟨r, h1, h2, .inl h3⟩
  · obtain ⟨q', h1, h2⟩ := T.f1 q hq e hed hb
    refine ⟨q', by omega, h2, .inl (hr q' (by omega) (fun S hS hSp => ?_) (by omega))⟩
    rw [h2]
    exact hS (π q) (T.lt q hq) hSp e hed hb
/-- An operation that has put its value into its temporary. -/
theorem Inv.put (T : Tr c C Y pol ops nt π rc st) (I : Inv c pol ops π st ex j fr rm) (hX : cls c pol ops (opAt ops π p) ≠ .X) (hA : cls c pol ops (opAt ops π p) ≠ .A) {fr' : Fr} {rm' : Rm}
    (h1 : ∀ t, (opAt ops π p).dst ≠ some t → fget fr' t = fget fr t ∧ assoc rm' t = assoc rm t)
    (h2 : ∀ d, (opAt ops π p).dst = some d → mem pol.locs d = false ∧ fget fr' d = fget (st ops.size).1 d ∧ assoc rm' d = assoc (st ops.size).2.1 d) : Inv c pol ops π st (fun q => ex q ∨ q = p) j fr' rm' := by
  refine ⟨I.jn, fun q a b => .inl (I.jx q a b), fun hj => ⟨(I.jj hj).1, ?_⟩, I.clo' hp hnp hr T, fun t hm q hq he hd => ?_, fun t hm hno => ?_, fun s hs h256 hall => ?_⟩
  · rintro (h | h)
    · exact (I.jj hj).2 h
    · subst h; exact hX (I.jj hj).1
  · by_cases hdp : (opAt ops π p).dst = some t
    · exact (h2 t hdp).2
    · rcases he with he | rfl
      · obtain ⟨a, b⟩ := h1 t hdp
        obtain ⟨a', b'⟩ := I.f1 t hm q hq he hd
        exact ⟨a.trans a', b.trans b'⟩
      · exact absurd hd hdp
  · have hdp : (opAt ops π p).dst ≠ some t := fun e => hno p hp e (.inr rfl)
    obtain ⟨a, b⟩ := h1 t hdp
    obtain ⟨a', b'⟩ := I.f0 t hm (fun q hq hd he => hno q hq hd (.inl he))
    exact ⟨a.trans a', b.trans b'⟩
  · have hdp : (opAt ops π p).dst ≠ some s := fun e => by have := (h2 s e).1; rw [hs] at this; cases this
    rw [(h1 s hdp).1]
    refine I.lo s hs h256 (fun q hq hqA hd => ?_)
    rcases hall q hq hqA hd with h | rfl
    · exact h
    · exact absurd hqA hA

theorem Inv.stepP (T : Tr c C Y pol ops nt π rc st) (I : Inv c pol ops π st ex j fr rm) (hc : cls c pol ops (opAt ops π p) = .P) :
    ∃ out j', stepV c C Y pol ops (opAt ops π p) fr rm (st j).2.2 = some out ∧ out.hp (st j).2.2 = (st j').2.2 ∧ Inv c pol ops π st (fun q => ex q ∨ q = p) j' (out.fr (opAt ops π p) fr) (out.rm (opAt ops π p) rm) := by
  obtain ⟨out, ho, hs⟩ := T.step p hp
  have ag := I.agree hp hnp hr T
  obtain ⟨v, rfl, hv⟩ := stepV_P hc (st j).2.2 (fun t ht => T.moveP hp t ht hc) ho (fun t ht hm => ⟨(ag t ht hm).1.symm, (ag t ht hm).2.symm⟩)
  refine ⟨_, j, hv, rfl, I.put hp hnp hr T (by rw [hc]; simp) (by rw [hc]; simp) (fun t ht => ⟨fput_ne (fun d h => T.dlt hp h) ht, rmDel_ne ht⟩) (fun d hd => ?_)⟩
  have hm : mem pol.locs d = false := by
    cases hm : mem pol.locs d with
    | false => rfl
    | true => obtain ⟨cs, h⟩ := stepV_locdst (T.ok p hp) hd hm ho; cases h
  obtain ⟨a, b⟩ := T.fin hm hp hd (q' := p + 1) (by omega) (by omega)
  rw [hs] at a b
  have h256 := T.dlt hp hd
  refine ⟨hm, ?_, ?_⟩
  · rw [a]; simp only [Out.fr, hd, fput, fget_fset_same _ _ _ h256]
  · rw [b]; simp only [Out.rm, hd, rmDel_self]

theorem Inv.stepL (T : Tr c C Y pol ops nt π rc st) (I : Inv c pol ops π st ex j fr rm) (hc : cls c pol ops (opAt ops π p) = .L) :
    ∃ out j', stepV c C Y pol ops (opAt ops π p) fr rm (st j).2.2 = some out ∧ out.hp (st j).2.2 = (st j').2.2 ∧ Inv c pol ops π st (fun q => ex q ∨ q = p) j' (out.fr (opAt ops π p) fr) (out.rm (opAt ops π p) rm) := by
  obtain ⟨out, ho, hs⟩ := T.step p hp
  have ag := I.agree hp hnp hr T
  have ndl : ∀ d, (opAt ops π p).dst = some d → mem pol.locs d = false := fun d hd => by
    cases hm : mem pol.locs d with
    | false => rfl
    | true =>
      obtain ⟨cs, h⟩ := stepV_locdst (T.ok p hp) hd hm ho
      rcases stepV_L hc ho with ⟨v, h'⟩ | ⟨v, h'⟩ <;> rw [h'] at h <;> cases h
  have hpj : p < j := by
    rcases Nat.lt_trichotomy p j with h | h | h
    · exact h
    · subst h; have := (I.jj hp).1; rw [hc] at this; cases this
    · have hj : j < ops.size := by omega
      have hx := (I.jj hj).1
      have := hr j hj (T.f2 p j h hp (.inl hc) hx) (by omega)
      exact absurd this (I.jj hj).2
  -- behind the evaluation: the value is the plan's
  have done : ∀ out', stepV c C Y pol ops (opAt ops π p) fr rm (st j).2.2 = some out' → (∀ d, (opAt ops π p).dst = some d → fget (out'.fr (opAt ops π p) fr) d = fget (st ops.size).1 d ∧ assoc (out'.rm (opAt ops π p) rm) d = assoc (st ops.size).2.1 d) →
      ∃ out j', stepV c C Y pol ops (opAt ops π p) fr rm (st j).2.2 = some out ∧ out.hp (st j).2.2 = (st j').2.2 ∧ Inv c pol ops π st (fun q => ex q ∨ q = p) j' (out.fr (opAt ops π p) fr) (out.rm (opAt ops π p) rm) := fun out' h1 h2 => by
    refine ⟨out', j, h1, ?_, I.put hp hnp hr T (by rw [hc]; simp) (by rw [hc]; simp) (fun t ht => ?_) (fun d hd => ⟨ndl d hd, h2 d hd⟩)⟩
    · rcases stepV_L hc h1 with ⟨v, rfl⟩ | ⟨q, rfl⟩ <;> rfl
    · rcases stepV_L hc h1 with ⟨v, rfl⟩ | ⟨q, rfl⟩
      · exact ⟨fput_ne (fun d h => T.dlt hp h) ht, rmDel_ne ht⟩
      · refine ⟨fput_ne (fun d h => T.dlt hp h) ht, ?_⟩
        simp only [Out.rm]
        split
        · rename_i d hd
          have hne : d ≠ t := fun e => ht (by rw [hd, e])
          have : (d == t) = false := by simpa using hne
          simp only [assoc, this, cond_false]
          exact rmDel_ne (dst := some d) (by simpa using hne)
        · rfl
  by_cases hX : ∃ r, p ≤ r ∧ r < p + (j - p) ∧ cls c pol ops (opAt ops π r) = .X
  · obtain ⟨x, g1, g2, g3, g4⟩ := lastX (p := fun r => cls c pol ops (opAt ops π r) = .X) p (j - p) hX
    have hxj : x < j := by omega
    have hjn := I.jn
    have hxp : p < x := by
      rcases Nat.lt_or_ge p x with h | h
      · exact h
      · have : x = p := by omega
        subst this; rw [hc] at g3; cases g3
    have hxn : x < ops.size := by omega
    have hex := I.jx x hxj g3
    have hin : π p ∈ rc x := by
      rcases T.f3 x p hxp hxn g3 hc with h | h
      · exact absurd (I.anc T hxn hp hex h) hnp
      · exact h
    obtain ⟨q', hq', hqe, _, strict⟩ := T.f8 x _ hxn hin
    have := T.inj q' p (by omega) hp hqe
    subst this
    have hre := T.re x hxn _ hin
    unfold reOK at hre
    rw [T.getOp hp] at hre
    simp only at hre
    have ag2 : ∀ t ∈ opTmps ops (opAt ops π q'), mem pol.locs t = false → fget fr t = fget (st (x + 1)).1 t ∧ assoc rm t = assoc (st (x + 1)).2.1 t := fun t ht hm => by
      by_cases hw : ∃ q, q < ops.size ∧ (opAt ops π q).dst = some t
      · obtain ⟨q, hq, hd⟩ := hw
        obtain ⟨hne, han⟩ := strict t ht q hq hd
        have hle := T.ancLe hp hq han
        obtain ⟨a, b⟩ := I.f1 t hm q hq (hr q hq han hne) hd
        obtain ⟨a', b'⟩ := T.fin hm hq hd (q' := x + 1) (by omega) (by omega)
        exact ⟨a.trans a', b.trans b'⟩
      · have hno : ∀ r, r < ops.size → (opAt ops π r).dst ≠ some t := fun r h1 h2 => hw ⟨r, h1, h2⟩
        obtain ⟨a, b⟩ := I.f0 t hm (fun q hq hd => absurd hd (hno q hq))
        obtain ⟨a', b'⟩ := T.no hm hno (q := x + 1) (by omega)
        exact ⟨a.trans a'.symm, b.trans b'.symm⟩
    obtain ⟨k1, k2⟩ := T.hkeep (q := x + 1) (q' := j) (by omega) hjn (fun r h1 h2 => g4 r (by omega) (by omega))
    have hst : stepV c C Y pol ops (opAt ops π q') fr rm (st j).2.2 = stepV c C Y pol ops (opAt ops π q') (st (x + 1)).1 (st (x + 1)).2.1 (st (x + 1)).2.2 := by
      rw [← k1]
      refine stepV_congr _ ag2 (fun y hy s off hl => ?_) (fun d hd hm => by rw [ndl d hd] at hm; cases hm)
      obtain ⟨h1, h2, h3, _⟩ := I.locs hp hnp hr T hy hl
      rw [h3]
      refine k2 s h2 h1 (fun r h4 h5 h6 => ?_)
      have := T.f4 r x (by omega) (by omega) h6.1
      rw [g3] at this; cases this
    split at hre
    · rename_i v h' he
      refine done _ (hst.trans he) (fun d hd => ?_)
      rw [hd] at hre
      simp only [Bool.and_eq_true] at hre
      have hv := dvEq_ok _ _ _ hre.1
      have hn : assoc (st (x + 1)).2.1 d = none := by
        cases hh : assoc (st (x + 1)).2.1 d with
        | none => rfl
        | some w => rw [hh] at hre; exact absurd hre.2 (by simp)
      obtain ⟨a', b'⟩ := T.fin (ndl d hd) hp hd (q' := x + 1) (by omega) (by omega)
      refine ⟨?_, ?_⟩
      · rw [a', ← hv]; simp only [Out.fr, hd, fput, fget_fset_same _ _ _ (T.dlt hp hd)]
      · rw [b', hn]; simp only [Out.rm, hd, rmDel_self]
    · rename_i pp he
      refine done _ (hst.trans he) (fun d hd => ?_)
      rw [hd] at hre
      simp only [Bool.and_eq_true] at hre
      obtain ⟨a', b'⟩ := T.fin (ndl d hd) hp hd (q' := x + 1) (by omega) (by omega)
      refine ⟨?_, ?_⟩
      · rw [a']
        simp only [Out.fr, hd, fput, fget_fset_same _ _ _ (T.dlt hp hd)]
        cases hh : fget (st (x + 1)).1 d <;> rw [hh] at hre <;> first | rfl | exact absurd hre.2 (by simp)
      · rw [b']
        simp only [Out.rm, hd, assoc, beq_self_eq_true, cond_true]
        cases hh : assoc (st (x + 1)).2.1 d with
        | none => rw [hh] at hre; exact absurd hre.1 (by simp)
        | some w =>
          rw [hh] at hre
          simp only [Nat.beq_eq, Bool.and_eq_true] at hre
          obtain ⟨⟨e1, e2⟩, _⟩ := hre
          obtain ⟨w1, w2⟩ := w
          obtain ⟨p1, p2⟩ := pp
          simp only at e1 e2
          rw [e1, e2]
    · cases hre
  · have hno : ∀ r, p ≤ r → r < j → cls c pol ops (opAt ops π r) ≠ .X := fun r h1 h2 h3 => hX ⟨r, h1, by omega, h3⟩
    obtain ⟨k1, k2⟩ := T.hkeep (q := p) (q' := j) (by omega) I.jn hno
    have hst : stepV c C Y pol ops (opAt ops π p) fr rm (st j).2.2 = some out := by
      rw [k1, ← ho]
      refine stepV_congr _ ag (fun y hy s off hl => ?_) (fun d hd hm => by rw [ndl d hd] at hm; cases hm)
      obtain ⟨h1, h2, h3, _⟩ := I.locs hp hnp hr T hy hl
      rw [h3]
      refine k2 s h2 h1 (fun r h4 h5 h6 => ?_)
      by_cases hrp : r = p
      · subst hrp; rw [hc] at h6; cases h6.1
      · have := T.f4 r p (by omega) (by have := I.jn; omega) h6.1
        rw [hc] at this; cases this
    refine done _ hst (fun d hd => ?_)
    obtain ⟨a', b'⟩ := T.fin (ndl d hd) hp hd (q' := p + 1) (by omega) (by omega)
    rw [hs] at a' b'
    rcases stepV_L hc ho with ⟨v, rfl⟩ | ⟨pp, rfl⟩
    · refine ⟨?_, ?_⟩
      · rw [a']; simp only [Out.fr, hd, fput, fget_fset_same _ _ _ (T.dlt hp hd)]
      · rw [b']; simp only [Out.rm, hd, rmDel_self]
    · refine ⟨?_, ?_⟩
      · rw [a']; simp only [Out.fr, hd, fput, fget_fset_same _ _ _ (T.dlt hp hd)]
      · rw [b']; simp only [Out.rm, hd, assoc, beq_self_eq_true, cond_true]
end
end Dv
end

section
set_option autoImplicit false
set_option linter.unusedVariables false
set_option linter.unusedSimpArgs false
namespace Dv
open Go

section
variable {c : Ctx} {C Y : Nat → List DV → Heap → Res} {pol : Pol} {ops : Array Oper} {nt : Nat} {π : Nat → Nat} {rc : Nat → List Nat} {st : Nat → Fr × Rm × Heap} {ex : Nat → Prop} {j : Nat} {fr : Fr} {rm : Rm} {p : Nat}

/-- What points into a local does so since an operation that has been done. -/
theorem Inv.points (T : Tr c C Y pol ops nt π rc st) (I : Inv c pol ops π st ex j fr rm) (hnl : ∀ t s off, assoc rm t = some (s, off) → mem pol.locs t = false) {t s off : Nat} (h : assoc rm t = some (s, off)) :
    ∃ q, q < ops.size ∧ ex q ∧ (opAt ops π q).dst = some t ∧ mem pol.locs t = false ∧ assoc (st ops.size).2.1 t = some (s, off) ∧ cls c pol ops (opAt ops π q) = .L ∧ ∀ p, p < ops.size → cls c pol ops (opAt ops π p) = .A → (opAt ops π p).dst = some s → Anc ops (π q) (π p) := by
  have hm := hnl t s off h
  by_cases hw : ∃ q, q < ops.size ∧ (opAt ops π q).dst = some t ∧ ex q
  · obtain ⟨q, hq, hd, he⟩ := hw
    have hn : assoc (st ops.size).2.1 t = some (s, off) := by rw [← (I.f1 t hm q hq he hd).2]; exact h
    obtain ⟨_, _, q', h1, h2, _, h4, h5⟩ := T.rmI ops.size (Nat.le_refl _) t s off hn
    have := T.uniq hq h1 hd h2
    subst this
    exact ⟨q, hq, he, hd, hm, hn, h4, h5⟩
  · have := (I.f0 t hm (fun q hq hd he => hw ⟨q, hq, hd, he⟩)).2
    rw [h] at this; cases this

variable (hp : p < ops.size) (hnp : ¬ ex p) (hr : ∀ q, q < ops.size → Anc ops (π p) (π q) → q ≠ p → ex q) (hnl : ∀ t s off, assoc rm t = some (s, off) → mem pol.locs t = false)
include hp hnp hr hnl

theorem Inv.stepA (T : Tr c C Y pol ops nt π rc st) (I : Inv c pol ops π st ex j fr rm) (hc : cls c pol ops (opAt ops π p) = .A) :
    ∃ out j', stepV c C Y pol ops (opAt ops π p) fr rm (st j).2.2 = some out ∧ out.hp (st j).2.2 = (st j').2.2 ∧ Inv c pol ops π st (fun q => ex q ∨ q = p) j' (out.fr (opAt ops π p) fr) (out.rm (opAt ops π p) rm) := by
  obtain ⟨out, ho, hs⟩ := T.step p hp
  obtain ⟨d, t, h1, h2, h3, h4, h5⟩ := cls_A hc
  obtain ⟨cs, rfl⟩ := stepV_locdst (T.ok p hp) h2 h3 ho
  have h256 := T.dlt hp h2
  have hno : rmHas rm d = false := rmHas_mk fun t off e => by
    obtain ⟨q, hq, he, _, _, _, _, hA⟩ := I.points T hnl e
    exact hnp (I.anc T hq hp he (hA p hp hc h2))
  have hst : stepV c C Y pol ops (opAt ops π p) fr rm (st j).2.2 = some (.loc cs) := by
    have hv : evVal c C Y pol (opAt ops π p) (st p).1 (st p).2.1 (st p).2.2 = some (.loc cs) := by
      rcases stepV_cases ho with h | ⟨_, h⟩
      · exact h
      · cases h
    simp only [evVal, h1, h2, h3, cond_true] at hv
    unfold stepV
    simp only [h5, evVal, h1, h2, h3, cond_true, hno, Bool.not_false, Bool.true_and]
    cases hr : rmHas (st p).2.1 d <;> rw [hr] at hv
    · simpa using hv
    · simp at hv
  have hpj : p < j := by
    rcases Nat.lt_trichotomy p j with h | h | h
    · exact h
    · subst h; have := (I.jj hp).1; rw [hc] at this; cases this
    · have hj : j < ops.size := by omega
      have := T.f4 p j h hp hc
      rw [(I.jj hj).1] at this; cases this
  have keep : ∀ k, p + 1 + k ≤ j → fget (st (p + 1 + k)).1 d = fget (st (p + 1)).1 d := by
    intro k
    induction k with
    | zero => intro _; rfl
    | succ k ih =>
      intro hk
      have hjn := I.jn
      refine Eq.trans (b := fget (st (p + 1 + k)).1 d) ?_ (ih (by omega))
      show fget (st ((p + 1 + k) + 1)).1 d = fget (st (p + 1 + k)).1 d
      by_cases hX : cls c pol ops (opAt ops π (p + 1 + k)) = .X
      · exact T.xKeep (q := p + 1 + k) (by omega) hp hX hc h2 h3 (fun h => hnp (I.anc T (by omega) hp (I.jx _ (by omega) hX) h))
      · refine (T.hKeep1 (q := p + 1 + k) (by omega) hX (fun t ht hc => T.moveP (by omega) t ht hc)).2 d h3 h256 (fun h => ?_)
        have := T.uniq (q := p + 1 + k) (by omega) hp h.2 h2
        omega
  refine ⟨.loc cs, j, hst, rfl, ⟨I.jn, fun q a b => .inl (I.jx q a b), fun hj => ⟨(I.jj hj).1, ?_⟩, I.clo' hp hnp hr T, fun t hm q hq he hd => ?_, fun t hm hn => ?_, fun s hsl hs256 hall => ?_⟩⟩
  · rintro (h | h)
    · exact (I.jj hj).2 h
    · omega
  · have hdt : (opAt ops π p).dst ≠ some t := fun e => by
      have : d = t := by simpa [h2] using e
      subst this; rw [h3] at hm; cases hm
    rcases he with he | rfl
    · obtain ⟨a, b⟩ := I.f1 t hm q hq he hd
      exact ⟨(fput_ne (fun d h => T.dlt hp h) hdt).trans a, b⟩
    · exact absurd hd hdt
  · have hdt : (opAt ops π p).dst ≠ some t := fun e => by
      have : d = t := by simpa [h2] using e
      subst this; rw [h3] at hm; cases hm
    obtain ⟨a, b⟩ := I.f0 t hm (fun q hq hd he => hn q hq hd (.inl he))
    exact ⟨(fput_ne (fun d h => T.dlt hp h) hdt).trans a, b⟩
  · by_cases hsd : s = d
    · subst hsd
      have e1 : fget (Out.fr (opAt ops π p) fr (.loc cs)) s = .agg cs := by simp only [Out.fr, h2, fput, fget_fset_same _ _ _ h256]
      have e2 : fget (st (p + 1)).1 s = .agg cs := by rw [hs]; simp only [Out.fr, h2, fput, fget_fset_same _ _ _ h256]
      rw [e1, ← e2]
      have := keep (j - (p + 1)) (by omega)
      rw [show p + 1 + (j - (p + 1)) = j by omega] at this
      exact this.symm
    · have hds : (opAt ops π p).dst ≠ some s := fun e => hsd (by simpa [h2] using e.symm)
      simp only [Out.fr]
      rw [fput_ne (fun d h => T.dlt hp h) hds]
      refine I.lo s hsl hs256 (fun q hq hqA hd => ?_)
      rcases hall q hq hqA hd with h | rfl
      · exact h
      · exact absurd hd hds

theorem Inv.stepX (T : Tr c C Y pol ops nt π rc st) (I : Inv c pol ops π st ex j fr rm) (hc : cls c pol ops (opAt ops π p) = .X) :
    ∃ out j', stepV c C Y pol ops (opAt ops π p) fr rm (st j).2.2 = some out ∧ out.hp (st j).2.2 = (st j').2.2 ∧ Inv c pol ops π st (fun q => ex q ∨ q = p) j' (out.fr (opAt ops π p) fr) (out.rm (opAt ops π p) rm) := by
  obtain ⟨out, ho, hs⟩ := T.step p hp
  have ag := I.agree hp hnp hr T
  have dl : ∀ d, (opAt ops π p).dst = some d → d < 256 := fun d h => T.dlt hp h
  have hpj : j = p := by
    rcases Nat.lt_trichotomy p j with h | h | h
    · exact absurd (I.jx p h hc) hnp
    · exact h.symm
    · have hj : j < ops.size := by omega
      exact absurd (hr j hj (T.f2 p j h hp (.inr hc) (I.jj hj).1) (by omega)) (I.jj hj).2
  subst hpj
  have hst : stepV c C Y pol ops (opAt ops π j) fr rm (st j).2.2 = some out := by
    rw [← ho]
    refine stepV_congr _ ag (fun y hy s off hl => (I.locs hp hnp hr T hy hl).2.2.1) (fun d hd hm => ?_)
    obtain ⟨cs, rfl⟩ := stepV_locdst (T.ok j hp) hd hm ho
    have hv : evVal c C Y pol (opAt ops π j) (st j).1 (st j).2.1 (st j).2.2 = some (.loc cs) := by
      rcases stepV_cases ho with h | ⟨_, h⟩
      · exact h
      · cases h
    obtain ⟨d', hd', _, hno⟩ := out_loc hv
    have : d' = d := by rw [hd] at hd'; simpa using hd'.symm
    subst this
    rw [hno]
    refine rmHas_mk fun t off e => ?_
    obtain ⟨q, hq, he, hqd, hqm, hn, hL, _⟩ := I.points T hnl e
    rcases Nat.lt_trichotomy q j with h | h | h
    · have := (T.fin hqm hq hqd (q' := j) h (by omega)).2
      rw [hn] at this
      exact rmHas_no hno t off this.symm
    · subst h; exact hnp he
    · exact hnp (I.anc T hq hp he (T.f2 q j h hq (.inl hL) hc))
  obtain ⟨j', g1, g2, g3, g4⟩ := nextX (p := fun r => cls c pol ops (opAt ops π r) = .X) ops.size (ops.size - (j + 1)) (j + 1) (by omega)
  obtain ⟨k1, k2⟩ := T.hkeep (q := j + 1) (q' := j') g1 g2 g3
  -- temporaries that are no locals
  have hout : ∀ t, mem pol.locs t = false → ((opAt ops π j).dst = some t → fget (out.fr (opAt ops π j) fr) t = fget (out.fr (opAt ops π j) (st j).1) t ∧ assoc (out.rm (opAt ops π j) rm) t = assoc (out.rm (opAt ops π j) (st j).2.1) t) ∧
      ((opAt ops π j).dst ≠ some t → fget (out.fr (opAt ops π j) fr) t = fget fr t ∧ assoc (out.rm (opAt ops π j) rm) t = assoc rm t) := by
    intro t hm
    cases out with
    | val v h' =>
      refine ⟨fun hd => ?_, fun hd => ⟨fput_ne dl hd, rmDel_ne hd⟩⟩
      have := dl t hd
      simp only [Out.fr, Out.rm, hd, fput, fget_fset_same _ _ _ this, rmDel_self, and_self]
    | loc cs =>
      refine ⟨fun hd => ?_, fun hd => ⟨fput_ne dl hd, rfl⟩⟩
      have hv : evVal c C Y pol (opAt ops π j) (st j).1 (st j).2.1 (st j).2.2 = some (.loc cs) := by
        rcases stepV_cases ho with h | ⟨_, h⟩
        · exact h
        · cases h
      obtain ⟨d', hd', hm', _⟩ := out_loc hv
      have : d' = t := by rw [hd] at hd'; simpa using hd'.symm
      subst this; rw [hm] at hm'; cases hm'
    | wr s cs =>
      obtain ⟨x, hx, off, hl⟩ := out_wr (stepV_wr ho)
      obtain ⟨h1, h2, _⟩ := T.locUse hp hx hl
      have hst : s ≠ t := fun e => by subst e; rw [h2] at hm; cases hm
      refine ⟨fun hd => ?_, fun hd => ⟨?_, rmDel_ne hd⟩⟩
      · have := dl t hd
        simp only [Out.fr, Out.rm, hd, fput, fget_fset_same _ _ _ this, rmDel_self, and_self]
      · simp only [Out.fr]
        rw [fput_ne dl hd, fget_fset_ne h1 hst]
    | pt pp =>
      obtain ⟨s, off⟩ := pp
      obtain ⟨_, ⟨d, hd'⟩, _⟩ := out_pt (ops := ops) (stepV_pt ho)
      refine ⟨fun hd => ?_, fun hd => ⟨fput_ne dl hd, ?_⟩⟩
      · have := dl t hd
        simp only [Out.fr, Out.rm, hd, fput, fget_fset_same _ _ _ this, assoc, beq_self_eq_true, cond_true, and_self]
      · have hne : d ≠ t := fun e => hd (by rw [hd', e])
        have : (d == t) = false := by simpa using hne
        simp only [Out.rm, hd', assoc, this, cond_false]
        exact rmDel_ne (dst := some d) (by simpa using hne)
  -- locals
  have hloc : ∀ s, mem pol.locs s = true → s < 256 → fget fr s = fget (st j).1 s → fget (out.fr (opAt ops π j) fr) s = fget (out.fr (opAt ops π j) (st j).1) s := by
    intro s hsl hs256 he
    by_cases hd : (opAt ops π j).dst = some s
    · obtain ⟨cs, rfl⟩ := stepV_locdst (T.ok j hp) hd hsl ho
      simp only [Out.fr, hd, fput, fget_fset_same _ _ _ hs256]
    · cases out with
      | val v h' => simp only [Out.fr]; rw [fput_ne dl hd, fput_ne dl hd, he]
      | loc cs => simp only [Out.fr]; rw [fput_ne dl hd, fput_ne dl hd, he]
      | pt pp => simp only [Out.fr]; rw [fput_ne dl hd, fput_ne dl hd, he]
      | wr s' cs =>
        obtain ⟨x, hx, off, hl⟩ := out_wr (stepV_wr ho)
        obtain ⟨h1, h2, _⟩ := T.locUse hp hx hl
        simp only [Out.fr]
        rw [fput_ne dl hd, fput_ne dl hd]
        by_cases hss : s' = s
        · subst hss; rw [fget_fset_same _ _ _ h1, fget_fset_same _ _ _ h1]
        · rw [fget_fset_ne h1 hss, fget_fset_ne h1 hss, he]
  have hs1 : (st (j + 1)).1 = out.fr (opAt ops π j) (st j).1 := by rw [hs]
  have hs2 : (st (j + 1)).2.1 = out.rm (opAt ops π j) (st j).2.1 := by rw [hs]
  have hs3 : (st (j + 1)).2.2 = out.hp (st j).2.2 := by rw [hs]
  refine ⟨out, j', hst, by rw [k1, hs3], ⟨g2, fun q a b => ?_, fun hj => ⟨g4 hj, ?_⟩, I.clo' hp hnp hr T, fun t hm q hq he hd => ?_, fun t hm hn => ?_, fun s hsl hs256 hall => ?_⟩⟩
  · rcases Nat.lt_trichotomy q j with h | h | h
    · exact .inl (I.jx q h b)
    · exact .inr h
    · exact absurd b (g3 q (by omega) a)
  · rintro (h | h)
    · have := I.xlt T hj h (g4 hj); omega
    · omega
  · by_cases hdp : (opAt ops π j).dst = some t
    · obtain ⟨a, b⟩ := (hout t hm).1 hdp
      obtain ⟨a', b'⟩ := T.fin hm hp hdp (q' := j + 1) (by omega) (by omega)
      exact ⟨by rw [a, a', hs1], by rw [b, b', hs2]⟩
    · rcases he with he | rfl
      · obtain ⟨a, b⟩ := (hout t hm).2 hdp
        obtain ⟨a', b'⟩ := I.f1 t hm q hq he hd
        exact ⟨a.trans a', b.trans b'⟩
      · exact absurd hd hdp
  · have hdp : (opAt ops π j).dst ≠ some t := fun e => hn j hp e (.inr rfl)
    obtain ⟨a, b⟩ := (hout t hm).2 hdp
    obtain ⟨a', b'⟩ := I.f0 t hm (fun q hq hd he => hn q hq hd (.inl he))
    exact ⟨a.trans a', b.trans b'⟩
  · have hls := I.lo s hsl hs256 (fun q hq hqA hd => by
      rcases hall q hq hqA hd with h | rfl
      · exact h
      · rw [hc] at hqA; cases hqA)
    rw [hloc s hsl hs256 hls, ← hs1]
    refine (k2 s hsl hs256 (fun r h4 h5 h6 => ?_)).symm
    have := T.f4 r j (by omega) (by omega) h6.1
    rw [hc] at this; cases this

theorem Inv.step (T : Tr c C Y pol ops nt π rc st) (I : Inv c pol ops π st ex j fr rm) :
    ∃ out j', stepV c C Y pol ops (opAt ops π p) fr rm (st j).2.2 = some out ∧ out.hp (st j).2.2 = (st j').2.2 ∧ Inv c pol ops π st (fun q => ex q ∨ q = p) j' (out.fr (opAt ops π p) fr) (out.rm (opAt ops π p) rm) := by
  cases hc : cls c pol ops (opAt ops π p) with
  | P => exact I.stepP hp hnp hr T hc
  | L => exact I.stepL hp hnp hr T hc
  | A => exact I.stepA hp hnp hr hnl T hc
  | X => exact I.stepX hp hnp hr hnl T hc
end
end Dv
end

section
set_option autoImplicit false
set_option linter.unusedVariables false
set_option linter.unusedSimpArgs false
namespace Dv
open Go

section
variable {c : Ctx} {C Y : Nat → List DV → Heap → Res} {pol : Pol} {ops : Array Oper}

theorem mem_iff : ∀ (l : List Nat) (n : Nat), mem l n = true ↔ n ∈ l
  | [], n => by simp [mem]
  | x :: l, n => by
    simp only [mem, List.mem_cons]
    cases hb : (x == n) with
    | true => have := eq_of_beq hb; subst this; simp
    | false =>
      have : x ≠ n := fun e => by subst e; simp at hb
      simp only [cond_false, mem_iff l n]
      constructor
      · exact .inr
      · rintro (h | h)
        · exact absurd h.symm this
        · exact h
theorem dedup_mem : ∀ (l : List Nat) (n : Nat), n ∈ dedup l → n ∈ l
  | [], n, h => h
  | x :: l, n, h => by
    simp only [dedup] at h
    cases hm : mem l x <;> rw [hm] at h
    · simp only [cond_false, List.mem_cons] at h
      rcases h with h | h
      · exact h ▸ List.mem_cons_self ..
      · exact List.mem_cons_of_mem _ (dedup_mem l n h)
    · exact List.mem_cons_of_mem _ (dedup_mem l n h)
theorem all2_at {α : Type} (f : Nat → α → Bool) : ∀ (l : List α) (i : Nat), all2 f i l = true → ∀ k x, l[k]? = some x → f (i + k) x = true
  | [], _, _, k, x, h => by simp at h
  | y :: l, i, ha, 0, x, h => by
    simp only [all2, Bool.and_eq_true] at ha
    simp at h; subst h; exact ha.1
  | y :: l, i, ha, k + 1, x, h => by
    simp only [all2, Bool.and_eq_true] at ha
    have := all2_at f l (i + 1) ha.2 k x (by simpa using h)
    rw [show i + (k + 1) = i + 1 + k by omega]; exact this
def AncsOK (ops : Array Oper) (acc : List (List Nat)) : Prop := ∀ i j, j ∈ acc.getD i [] → Anc ops i j
theorem ancs_ok : ∀ (l : List Oper) (acc : List (List Nat)), (∀ k o, l[k]? = some o → ops[acc.length + k]? = some o) → AncsOK ops acc → AncsOK ops (ancs l acc)
  | [], acc, _, h => h
  | o :: l, acc, hl, h => by
    simp only [ancs]
    refine ancs_ok l _ (fun k q hk => ?_) (fun i j hj => ?_)
    · have := hl (k + 1) q (by simpa using hk)
      rw [List.length_append, List.length_singleton, Nat.add_assoc, Nat.add_comm 1 k]
      exact this
    · have ho : ops[acc.length]? = some o := by simpa using hl 0 o rfl
      by_cases hi : i < acc.length
      · refine h i j ?_
        simpa [List.getD_eq_getElem?_getD, List.getElem?_append_left hi] using hj
      · by_cases hi2 : i = acc.length
        · subst hi2
          simp only [List.getD_eq_getElem?_getD, List.getElem?_append_right (Nat.le_refl _), Nat.sub_self, List.getElem?_cons_zero, Option.getD_some] at hj
          have hj := dedup_mem _ _ hj
          rw [List.mem_flatMap] at hj
          obtain ⟨e, he, hj⟩ := hj
          rw [List.mem_filter] at he
          have hed : Anc ops acc.length e.on := fun S hS hs => by
            obtain ⟨h1, h2⟩ := Array.getElem?_eq_some_iff.1 ho
            refine hS acc.length h1 hs e ?_ he.2
            have : ops.getD acc.length default = o := by simp [Array.getD, h1, h2]
            rw [this]; exact he.1
          rcases List.mem_cons.1 hj with rfl | hj
          · exact hed
          · exact hed.trans (h _ _ hj)
        · rw [List.getD_eq_getElem?_getD, List.getElem?_eq_none (by simp; omega)] at hj
          cases hj

theorem placesOK_at (an : List (List Nat)) : ∀ (plan : List (Nat × List Nat)) (before : List Nat), placesOK c pol ops an before plan = true → ∀ (q i : Nat) (rc : List Nat), plan[q]? = some (i, rc) →
    ∃ bf : List Nat, (∀ x : Nat, x ∈ bf ↔ x ∈ before ∨ ∃ q' : Nat, q' < q ∧ (plan[q']?).map (·.1) = some x) ∧ placeOK c pol ops an bf i rc = true
  | [], _, _, q, i, rc, h => by simp at h
  | (i0, rc0) :: plan, before, ha, 0, i, rc, h => by
    simp only [placesOK, Bool.and_eq_true] at ha
    simp at h
    obtain ⟨rfl, rfl⟩ := h
    exact ⟨before, fun x => ⟨.inl, fun h => h.elim id (fun ⟨q', h1, _⟩ => by omega)⟩, ha.1⟩
  | (i0, rc0) :: plan, before, ha, q + 1, i, rc, h => by
    simp only [placesOK, Bool.and_eq_true] at ha
    obtain ⟨bf, h1, h2⟩ := placesOK_at an plan (i0 :: before) ha.2 q i rc (by simpa using h)
    refine ⟨bf, fun x => ?_, h2⟩
    rw [h1 x, List.mem_cons]
    constructor
    · rintro ((rfl | h) | ⟨q', h3, h4⟩)
      · exact .inr ⟨0, by omega, by simp⟩
      · exact .inl h
      · exact .inr ⟨q' + 1, by omega, by simpa using h4⟩
    · rintro (h | ⟨q', h3, h4⟩)
      · exact .inl (.inr h)
      · cases q' with
        | zero => simp at h4; exact .inl (.inl h4.symm)
        | succ q' => exact .inr ⟨q', by omega, by simpa using h4⟩

/-- The states that a plan's run goes through. -/
theorem evPlan_states : ∀ (plan : List (Nat × List Nat)) (fr : Fr) (rm : Rm) (h : Heap) (K : Kont) (r : DV × Heap), evPlan c C Y pol ops plan fr rm h K = some r →
    ∃ st : Nat → Fr × Rm × Heap, st 0 = (fr, rm, h) ∧ K (st plan.length).1 (st plan.length).2.2 = some r ∧
      ∀ q i rc, plan[q]? = some (i, rc) → ∃ o out, ops[i]? = some o ∧ stepV c C Y pol ops o (st q).1 (st q).2.1 (st q).2.2 = some out ∧ st (q + 1) = (out.fr o (st q).1, out.rm o (st q).2.1, out.hp (st q).2.2) ∧
        ∀ l ∈ rc, reOK c C Y pol ops (st (q + 1)).1 (st (q + 1)).2.1 (st (q + 1)).2.2 l = true
  | [], fr, rm, h, K, r, e => ⟨fun _ => (fr, rm, h), rfl, e, fun q i rc h => by simp at h⟩
  | (i, rc) :: plan, fr, rm, h, K, r, e => by
    simp only [evPlan] at e
    split at e
    · rename_i o ho
      split at e
      · rename_i out hout
        cases hre : rc.all (reOK c C Y pol ops (out.fr o fr) (out.rm o rm) (out.hp h)) with
        | false => rw [hre] at e; cases e
        | true =>
          rw [hre] at e
          simp only [cond_true] at e
          obtain ⟨st, h0, h1, h2⟩ := evPlan_states plan _ _ _ K r e
          refine ⟨fun | 0 => (fr, rm, h) | q + 1 => st q, rfl, h1, fun q i' rc' hq => ?_⟩
          cases q with
          | zero =>
            simp at hq
            obtain ⟨rfl, rfl⟩ := hq
            rw [List.all_eq_true] at hre
            refine ⟨o, out, ho, hout, h0, fun l hl => ?_⟩
            have := hre l hl
            show reOK c C Y pol ops (st 0).1 (st 0).2.1 (st 0).2.2 l = true
            rw [h0]; exact this
          | succ q => exact h2 q i' rc' (by simpa using hq)
      · cases e
    · cases e

theorem planOK_Tr {nt : Nat} (hnt : nt ≤ 256) (hops : ops.toList.all (opOK pol nt) = true) {plan : List (Nat × List Nat)} (hp : planOK c pol ops plan = true) {fr : Fr} {h : Heap} {K : Kont} {r : DV × Heap} (e : evPlan c C Y pol ops plan fr [] h K = some r) :
    ∃ π rc st, Tr c C Y pol ops nt π rc st ∧ st 0 = (fr, [], h) ∧ K (st ops.size).1 (st ops.size).2.2 = some r := by
  unfold planOK at hp
  simp only [Bool.and_eq_true] at hp
  obtain ⟨hlen, hpl, hsur⟩ := hp
  have hlen := Nat.eq_of_beq_eq_true hlen
  obtain ⟨st, s0, s1, s2⟩ := evPlan_states plan fr [] h K r e
  rw [hlen] at s1
  have hA : AncsOK ops (ancs ops.toList []) := ancs_ok _ _ (fun k o hk => by simpa using hk) (fun i j hj => by simp at hj)
  let π : Nat → Nat := fun q => ((plan[q]?).map (·.1)).getD 0
  let rc : Nat → List Nat := fun q => ((plan[q]?).map (·.2)).getD []
  have at_ : ∀ q, q < ops.size → plan[q]? = some (π q, rc q) := fun q hq => by
    have : q < plan.length := by omega
    simp [π, rc, this]
  have inv : ∀ q x, q < ops.size → ((plan[q]?).map (·.1) = some x ↔ π q = x) := fun q x hq => by
    rw [at_ q hq]; simp
  have place : ∀ q, q < ops.size → ∃ o, ops[π q]? = some o ∧ opAt ops π q = o ∧
      (∀ q', q' < q → π q' ≠ π q) ∧ (∀ e ∈ o.after.toList, Region.binds .any e = true → ∃ q', q' < q ∧ π q' = e.on) ∧
      (∀ q', q' < q → (cls c pol ops o = .L ∨ cls c pol ops o = .X → cls c pol ops (opAt ops π q') = .X → Anc ops (π q) (π q')) ∧ (cls c pol ops o = .A → cls c pol ops (opAt ops π q') = .A) ∧
        (cls c pol ops o = .X → cls c pol ops (opAt ops π q') = .L → Anc ops (π q) (π q') ∨ π q' ∈ rc q) ∧ ∀ d, o.dst = some d → (opAt ops π q').dst ≠ some d) ∧
      (∀ k o', ops[k]? = some o' → k ≠ π q → ∀ t ∈ opTmps ops o, o'.dst = some t → Anc ops (π q) k ∨ (Anc ops k (π q) ∧ mem pol.locs t = false)) ∧
      (∀ t ∈ opTmps ops o, o.dst = some t → mem pol.locs t = false) ∧
      (∀ l ∈ rc q, ∃ q', q' < q ∧ π q' = l ∧ cls c pol ops (opAt ops π q') = .L ∧ ∀ t ∈ opTmps ops (opAt ops π q'), ∀ k o', ops[k]? = some o' → o'.dst = some t → k ≠ l ∧ Anc ops l k) := by
    intro q hq
    obtain ⟨bf, hbf, hpo⟩ := placesOK_at (ancs ops.toList []) plan [] hpl q (π q) (rc q) (at_ q hq)
    have hbf' : ∀ x, x ∈ bf ↔ ∃ q', q' < q ∧ π q' = x := fun x => by
      rw [hbf x]
      constructor
      · rintro (h | ⟨q', h1, h2⟩)
        · cases h
        · exact ⟨q', h1, (inv q' x (by omega)).1 h2⟩
      · rintro ⟨q', h1, h2⟩
        exact .inr ⟨q', h1, (inv q' x (by omega)).2 h2⟩
    have dstD : ∀ (o' : Oper) (t : Nat), o'.dst = some t → isDst o' t = true := fun o' t h => by simp [isDst, h]
    unfold placeOK at hpo
    split at hpo
    · cases hpo
    · rename_i o ho
      have hoat : ∀ q' o', ops[π q']? = some o' → opAt ops π q' = o' := fun q' o' h => by
        obtain ⟨h1, h2⟩ := Array.getElem?_eq_some_iff.1 h
        simp [opAt, Array.getD, h1, h2]
      simp only [Bool.and_eq_true, List.all_eq_true] at hpo
      obtain ⟨⟨⟨⟨⟨p1, p2⟩, p3⟩, p4⟩, p5⟩, p6⟩ := hpo
      refine ⟨o, ho, hoat q o ho, fun q' hq' he => ?_, fun e he hb => ?_, fun q' hq' => ?_, fun k o' hk hne t ht hd => ?_, fun t ht hd => ?_, fun l hl => ?_⟩
      · have : mem bf (π q) = true := (mem_iff _ _).2 ((hbf' _).2 ⟨q', hq', he⟩)
        rw [this] at p1; cases p1
      · have := p2 e he
        rw [hb] at this
        simp only [Bool.not_true, Bool.false_or] at this
        exact (hbf' _).1 ((mem_iff _ _).1 this)
      · have := p3 (π q') ((hbf' _).2 ⟨q', hq', rfl⟩)
        split at this
        · cases this
        · rename_i o' ho'
          rw [hoat q' o' ho']
          simp only [Bool.and_eq_true] at this
          obtain ⟨g1, g2⟩ := this
          refine ⟨fun hc hx => ?_, fun hc => ?_, fun hc hx => ?_, fun d hd hd' => ?_⟩
          · rcases hc with hc | hc <;> rw [hc, hx] at g1 <;> exact hA _ _ ((mem_iff _ _).1 g1)
          · rw [hc] at g1
            cases hcc : cls c pol ops o' <;> rw [hcc] at g1 <;> first | rfl | cases g1
          · rw [hc, hx] at g1
            simp only [Bool.or_eq_true] at g1
            rcases g1 with g1 | g1
            · exact .inl (hA _ _ ((mem_iff _ _).1 g1))
            · exact .inr ((mem_iff _ _).1 g1)
          · rw [hd] at g2
            simp only [dstD o' d hd', Bool.not_true] at g2
            cases g2
      · have := all2_at _ _ _ p4 k o' (by simpa using hk)
        simp only [Nat.zero_add, Bool.or_eq_true, List.all_eq_true, Bool.and_eq_true, Bool.not_eq_true', Nat.beq_eq] at this
        rcases this with h | h
        · exact absurd h.symm hne
        · have := h t ht
          rw [dstD o' t hd] at this
          rcases this with (h | h) | ⟨h1, h2⟩
          · cases h
          · exact .inl (hA _ _ ((mem_iff _ _).1 h))
          · exact .inr ⟨hA _ _ ((mem_iff _ _).1 h1), h2⟩
      · have := p5 t ht
        rw [dstD o t hd] at this
        simpa using this
      · have := p6 l hl
        obtain ⟨g1, g2⟩ := this
        obtain ⟨q', hq', rfl⟩ := (hbf' _).1 ((mem_iff _ _).1 g1)
        split at g2
        · cases g2
        · rename_i o' ho'
          simp only [Bool.and_eq_true] at g2
          refine ⟨q', hq', rfl, ?_, fun t ht k o2 hk hd => ?_⟩
          · rw [hoat q' o' ho']
            cases hcc : cls c pol ops o' <;> rw [hcc] at g2 <;> first | rfl | cases g2.1
          · have := all2_at _ _ _ g2.2 k o2 (by simpa using hk)
            simp only [Nat.zero_add, Bool.or_eq_true, List.all_eq_true, Bool.and_eq_true, Bool.not_eq_true'] at this
            have := this t (by rw [← hoat q' o' ho']; exact ht)
            rw [dstD o2 t hd] at this
            rcases this with h | ⟨h1, h2⟩
            · cases h
            · refine ⟨fun e => ?_, hA _ _ ((mem_iff _ _).1 h2)⟩
              subst e
              simp at h1
  have lt : ∀ q, q < ops.size → π q < ops.size := fun q hq => by
    obtain ⟨o, h1, _⟩ := place q hq
    exact (Array.getElem?_eq_some_iff.1 h1).1
  have getAt : ∀ q, q < ops.size → ops[π q]? = some (opAt ops π q) := fun q hq => by
    obtain ⟨o, h1, h2, _⟩ := place q hq
    rw [h2]; exact h1
  refine ⟨π, rc, st, ⟨lt, fun q q' hq hq' he => ?_, fun i hi => ?_, hnt, fun q hq => ?_, by rw [s0], fun q hq => ?_, fun q hq l hl => ?_, fun q hq e he hb => ?_, fun q q' hl hq hc hx => ?_, fun q q' hl hq hc hx => ?_, fun q q' hl hq hc => ?_,
    fun q q' d hl hq hd => ?_, fun q q' t hq hq' hne ht hd => ?_, fun q t hq ht hd => ?_, fun q l hq hl => ?_⟩, s0, s1⟩
  · rcases Nat.lt_trichotomy q q' with h | h | h
    · obtain ⟨o, _, _, h3, _⟩ := place q' hq'
      exact absurd he (h3 q h)
    · exact h
    · obtain ⟨o, _, _, h3, _⟩ := place q hq
      exact absurd he.symm (h3 q' h)
  · rw [List.all_eq_true] at hsur
    have := (mem_iff _ _).1 (hsur i (by simpa using hi))
    rw [List.mem_map] at this
    obtain ⟨x, hx, rfl⟩ := this
    obtain ⟨q, hq, hxq⟩ := List.getElem_of_mem hx
    refine ⟨q, by omega, (inv q _ (by omega)).1 ?_⟩
    simp [hq, hxq]
  · rw [List.all_eq_true] at hops
    refine hops _ ?_
    obtain ⟨h1, h2⟩ := Array.getElem?_eq_some_iff.1 (getAt q hq)
    rw [← h2]; simp
  · obtain ⟨o, out, h1, h2, h3, h4⟩ := s2 q _ _ (at_ q hq)
    have : opAt ops π q = o := by have := getAt q hq; rw [h1] at this; exact (Option.some.inj this).symm
    subst this
    exact ⟨out, h2, h3⟩
  · obtain ⟨o, out, h1, h2, h3, h4⟩ := s2 q _ _ (at_ q hq)
    exact h4 l hl
  · obtain ⟨o, h1, h2, h3, h4, _⟩ := place q hq
    exact h4 e (h2 ▸ he) hb
  · obtain ⟨o, h1, h2, h3, h4, h5, _⟩ := place q hq
    exact (h5 q' hl).1 (h2 ▸ hc) hx
  · obtain ⟨o, h1, h2, h3, h4, h5, _⟩ := place q hq
    exact (h5 q' hl).2.2.1 (h2 ▸ hc) hx
  · obtain ⟨o, h1, h2, h3, h4, h5, _⟩ := place q hq
    exact (h5 q' hl).2.1 (h2 ▸ hc)
  · obtain ⟨o, h1, h2, h3, h4, h5, _⟩ := place q hq
    exact (h5 q' hl).2.2.2 d (h2 ▸ hd)
  · obtain ⟨o, h1, h2, h3, h4, h5, h6, _⟩ := place q hq
    refine h6 _ _ (getAt q' hq') (fun e => ?_) t (h2 ▸ ht) hd
    rcases Nat.lt_trichotomy q q' with h | h | h
    · obtain ⟨_, _, _, h3', _⟩ := place q' hq'
      exact h3' q h e.symm
    · exact hne h
    · exact h3 q' h e
  · obtain ⟨o, h1, h2, h3, h4, h5, h6, h7, _⟩ := place q hq
    exact h7 t (h2 ▸ ht) (h2 ▸ hd)
  · obtain ⟨o, h1, h2, h3, h4, h5, h6, h7, h8⟩ := place q hq
    obtain ⟨q', g1, g2, g3, g4⟩ := h8 l hl
    refine ⟨q', g1, g2, g3, fun t ht q'' hq'' hd => ?_⟩
    obtain ⟨k1, k2⟩ := g4 t ht _ _ (getAt q'' hq'') hd
    exact ⟨fun e => k1 (by rw [e]; exact g2), by rw [g2]; exact k2⟩
end
end Dv
end

section
set_option autoImplicit false
set_option linter.unusedVariables false
set_option linter.unusedSimpArgs false
namespace Dv
open Go

theorem first_no {p : Nat → Prop} (n : Nat) : (∃ q, q < n ∧ ¬ p q) → ∃ q, q < n ∧ ¬ p q ∧ ∀ r, r < q → p r := by
  intro ⟨q, hq, hn⟩
  induction q using Nat.strongRecOn with
  | _ q ih =>
    by_cases h : ∃ r, r < q ∧ ¬ p r
    · obtain ⟨r, h1, h2⟩ := h
      exact ih r h1 (by omega) h2
    · exact ⟨q, hq, hn, fun r hr => Classical.byContradiction fun h' => h ⟨r, hr, h'⟩⟩
theorem getD_set (a : Array Bool) (i k : Nat) (hi : i < a.size) : (a.setIfInBounds i true).getD k false = if i = k then true else a.getD k false := by
  by_cases h : i = k
  · subst h; simp [Array.getD, hi]
  · rw [if_neg h]
    by_cases hk : k < a.size
    · simp [Array.getD, hk, Array.getElem_setIfInBounds_ne, h]
    · simp [Array.getD, hk]

section
variable {P : Program} {c : Ctx} (hT : TIOK P c.ti) (hg : ∀ (K : Kn) g, K.V (c.gl g) (.pointer (some ⟨g, 0, none⟩))) {C Y : Nat → List DV → Heap → Res} (hC : CallOK P c C) (hY : YieldOK P c Y) {pol : Pol} {ro : Option Nat} {E : Ent}
include hT hg hC hY

theorem stepV_wp {ops : Array Oper} {i : Nat} {o : Oper} (hko : ops[i]? = some o) (ho : opOK pol E.nt o = true) {fr : Fr} {rm : Rm} {h : Heap} {a : Act} {w : World} (S : St c E pol fr rm h a w) {out : Out} (e : stepV c C Y pol ops o fr rm h = some out)
    {K' : Act → World → Prop} {Q : Exit → Act → World → Prop} (hn : ∀ a' w', St c E pol (out.fr o fr) (out.rm o rm) (out.hp h) a' w' → K' a' w') : wpOpIn (WF ro) 0 P ops Q i K' a w := by
  unfold wpOpIn
  rw [hko]
  simp only
  have go : evVal c C Y pol o fr rm h = some out → o.wpIn (WF ro) 0 P a w K' Q := fun e => by
    have he : evOper c C Y pol o fr rm h (fun fr rm h => some (fr, rm, h)) = some (out.fr o fr, out.rm o rm, out.hp h) := by rw [evOper_eq, e]
    refine evOper_wp hT hg hC hY S ho he (fun fr' rm' h' a' w' hh S' => ?_)
    cases hh
    exact hn a' w' S'
  unfold stepV at e
  cases hgd : o.guard with
  | none =>
    rw [hgd] at e
    have hw : Region.wanted o (yielded ops a.tmps) = true := by simp [Region.wanted, hgd]
    rw [if_pos hw]
    exact go e
  | some g =>
    obtain ⟨j, want⟩ := g
    rw [hgd] at e
    simp only at e
    have hdl : ∀ d, o.dst = some d → d < E.nt ∧ mem pol.locs d = false := fun d hd => by
      refine ⟨(opOK_dst ho hd).1, ?_⟩
      cases hm : mem pol.locs d with
      | false => rfl
      | true => have := ((opOK_dst ho hd).2 hm).1; rw [hgd] at this; cases this
    have skip : out = .val (.tup []) h → ¬ Region.wanted o (yielded ops a.tmps) = true → (if Region.wanted o (yielded ops a.tmps) = true then o.wpIn (WF ro) 0 P a w K' Q else (∀ f, o.about P w a.eval = some f → (WF ro).fn f) ∧ K' (a.put o.dst undef) w) := fun h1 h2 => by
      subst h1
      rw [if_neg h2]
      exact ⟨fun _ _ => trivial, hn _ _ (S.skip hdl)⟩
    split at e
    · rename_i t ht
      obtain ⟨K, hv⟩ := rho_at hg S (.tmp t)
      split at e
      · rename_i b hb
        rw [hb] at hv
        generalize hx : a.eval (.tmp t) = x at hv
        cases hv
        have hy := yielded_bool ht hx
        cases hbw : (b == want) with
        | true =>
          rw [hbw] at e
          have := eq_of_beq hbw
          subst this
          have hw : Region.wanted o (yielded ops a.tmps) = true := by simp [Region.wanted, hgd, hy]
          rw [if_pos hw]
          exact go e
        | false =>
          rw [hbw] at e
          have hne : b ≠ want := fun h => by subst h; simp at hbw
          have hw : ¬ Region.wanted o (yielded ops a.tmps) = true := by simp [Region.wanted, hgd, hy, hne]
          exact skip (by simpa using e.symm) hw
      · rename_i hb
        rw [hb] at hv
        generalize hx : a.eval (.tmp t) = x at hv
        cases hv with
        | tup cs hs hc =>
          have hy := yielded_none ht hx
          have hw : ¬ Region.wanted o (yielded ops a.tmps) = true := by simp [Region.wanted, hgd, hy]
          exact skip (by simpa using e.symm) hw
      · cases e
    · cases e

omit hT hg hC hY in
theorem St.ext {fr fr' : Fr} {rm : Rm} {h : Heap} {a : Act} {w : World} (S : St c E pol fr rm h a w) (he : ∀ t, t < 256 → fget fr t = fget fr' t) : St c E pol fr' [] h a w := by
  obtain ⟨K, LB, rs, H, f0, F, hs, hdf, G⟩ := S
  refine ⟨K, LB, rs, H, f0, ⟨fun t h1 h2 => he t h1 ▸ F.tm t h1 h2, fun d h1 h2 cells e => F.lc d h1 h2 cells ((he d h1).trans e), fun d d' h1 h2 h3 h4 h5 cs cs' e1 e2 => F.dis d d' h1 h2 h3 h4 h5 cs cs' ((he d h1).trans e1) ((he d' h2).trans e2), fun t s off e => (by cases e), F.size⟩, hs, hdf, G⟩
omit hT hg hC hY in
theorem St.same {fr : Fr} {rm : Rm} {h : Heap} {a : Act} {w w' : World} (S : St c E pol fr rm h a w) (s : SameMem w w') : St c E pol fr rm h a w' := by
  obtain ⟨K, LB, rs, H, f0, F, hs, hdf, G⟩ := S
  exact ⟨K, LB, rs, H.same s, f0.trans (FP.same s), F.step (FP.same s), hs, hdf.step (FP.same s), G⟩

theorem draws {ops : Array Oper} {π : Nat → Nat} {rc : Nat → List Nat} {st : Nat → Fr × Rm × Heap} (T : Tr c C Y pol ops E.nt π rc st) {Q : Exit → Act → World → Prop} (hq : ∀ a w, St c E pol (st ops.size).1 [] (st ops.size).2.2 a w → Q .normal a w) :
    ∀ (fuel : Nat) (rest : List Nat) (listed : Array Bool) (ex : Nat → Prop) (j : Nat) (fr : Fr) (rm : Rm) (a : Act) (w : World), listed.size = ops.size → (∀ q, q < ops.size → (ex q ↔ listed.getD (π q) false = true)) →
      (∀ q, q < ops.size → ¬ ex q → π q ∈ rest) → rest.length ≤ fuel → Inv c pol ops π st ex j fr rm → St c E pol fr rm (st j).2.2 a w → wpAnyIn (WF ro) 0 P .any ops Q fuel listed a w := by
  -- all are done
  have fin : ∀ (ex : Nat → Prop) (j : Nat) (fr : Fr) (rm : Rm) (a : Act) (w : World), (∀ q, q < ops.size → ex q) → Inv c pol ops π st ex j fr rm → St c E pol fr rm (st j).2.2 a w → Q .normal a w := by
    intro ex j fr rm a w hall I S
    have hj : j = ops.size := by
      rcases Nat.lt_trichotomy j ops.size with h | h | h
      · exact absurd (hall j h) (I.jj h).2
      · exact h
      · have := I.jn; omega
    subst hj
    refine hq a w (S.ext fun t ht => ?_)
    cases hm : mem pol.locs t with
    | true => exact I.lo t hm ht (fun q hq _ _ => hall q hq)
    | false =>
      by_cases hw : ∃ q, q < ops.size ∧ (opAt ops π q).dst = some t
      · obtain ⟨q, h1, h2⟩ := hw
        exact (I.f1 t hm q h1 (hall q h1) h2).1
      · have hno : ∀ r, r < ops.size → (opAt ops π r).dst ≠ some t := fun r h1 h2 => hw ⟨r, h1, h2⟩
        rw [(I.f0 t hm (fun q h1 h2 => absurd h2 (hno q h1))).1, (T.no hm hno (Nat.le_refl _)).1]
  -- none is ready: all are done
  have idle : ∀ (listed : Array Bool) (ex : Nat → Prop), listed.size = ops.size → (∀ q, q < ops.size → (ex q ↔ listed.getD (π q) false = true)) → Region.ready .any ops listed = [] → ∀ q, q < ops.size → ex q := by
    intro listed ex hs hx hr q hq
    refine Classical.byContradiction fun hn => ?_
    obtain ⟨q, h1, h2, h3⟩ := first_no (p := ex) ops.size ⟨q, hq, hn⟩
    have hm : π q ∈ Region.ready .any ops listed := by
      rw [mem_ready]
      refine ⟨?_, opAt ops π q, T.getOp h1, fun e he hb => ?_⟩
      · have hlt := T.lt q h1
        have : ¬ listed.getD (π q) false = true := fun h => h2 ((hx q h1).2 h)
        simpa [Array.getD, hs, hlt] using this
      · obtain ⟨q', h4, h5⟩ := T.f1 q h1 e (by simpa using he) hb
        rw [← h5]
        exact (hx q' (by omega)).1 (h3 q' h4)
    rw [hr] at hm; cases hm
  intro fuel
  induction fuel with
  | zero =>
    intro rest listed ex j fr rm a w hs hx hrest hlen I S
    have hnil : rest = [] := by cases rest with | nil => rfl | cons x l => simp at hlen
    have hall : ∀ q, q < ops.size → ex q := fun q hq => Classical.byContradiction fun h => by have := hrest q hq h; rw [hnil] at this; cases this
    refine ⟨?_, fin ex j fr rm a w hall I S⟩
    cases hr : Region.ready .any ops listed with
    | nil => rfl
    | cons i l =>
      have hm : i ∈ Region.ready .any ops listed := by rw [hr]; exact List.mem_cons_self ..
      obtain ⟨h1, o, h2, _⟩ := mem_ready.1 hm
      have hi := (Array.getElem?_eq_some_iff.1 h2).1
      obtain ⟨q, h3, rfl⟩ := T.sur i hi
      have := (hx q h3).1 (hall q h3)
      simp [Array.getD, hs, hi] at this h1
      rw [this] at h1; cases h1
  | succ fuel ih =>
    intro rest listed ex j fr rm a w hs hx hrest hlen I S
    refine ⟨fun hr => fin ex j fr rm a w (idle listed ex hs hx hr) I S, fun i hi => ?_⟩
    obtain ⟨h1, o, h2, h3⟩ := mem_ready.1 hi
    have hi' := (Array.getElem?_eq_some_iff.1 h2).1
    obtain ⟨p, hp, rfl⟩ := T.sur i hi'
    have hnp : ¬ ex p := fun h => by
      have := (hx p hp).1 h
      simp [Array.getD, hs, hi'] at this h1
      rw [this] at h1; cases h1
    have hop := T.getOp hp
    have heo : o = opAt ops π p := by rw [h2] at hop; exact Option.some.inj hop
    subst heo
    have hr : ∀ q, q < ops.size → Anc ops (π p) (π q) → q ≠ p → ex q := by
      intro q hq ha hne
      have := ha (fun i => (∃ q, q < ops.size ∧ π q = i ∧ ex q) ∨ i = π p) (by
        rintro i hi (⟨q, g1, rfl, g3⟩ | rfl) e he hb
        · exact .inl (I.clo (π q) hi ⟨q, g1, rfl, g3⟩ e he hb)
        · have hl := h3 e (Array.mem_toList_iff.1 he) hb
          have hlt : e.on < ops.size := by
            rw [← hs]
            refine Classical.byContradiction fun h => ?_
            simp [Array.getD, h] at hl
          obtain ⟨q, g1, g2⟩ := T.sur e.on hlt
          exact .inl ⟨q, g1, g2, (hx q g1).2 (by rw [g2]; exact hl)⟩) (.inr rfl)
      rcases this with ⟨q', g1, g2, g3⟩ | h
      · exact T.inj q' q g1 hq g2 ▸ g3
      · exact absurd (T.inj q p hq hp h) hne
    have hnl : ∀ t s off, assoc rm t = some (s, off) → mem pol.locs t = false := by
      obtain ⟨K, LB, rs, H, f0, F, _, _, _⟩ := S
      exact fun t s off e => (F.rm t s off e).2.2.1
    obtain ⟨out, j', e1, e2, I'⟩ := I.step hp hnp hr hnl T
    refine stepV_wp hT hg hC hY hop (T.ok p hp) S e1 (fun a' w' S' => ?_)
    rw [e2] at S'
    refine ih (rest.filter fun x => !decide (x = π p)) (listed.setIfInBounds (π p) true) (fun q => ex q ∨ q = p) j' _ _ a' w' (by simpa using hs) (fun q hq => ?_) (fun q hq hn => ?_) ?_ I' S'
    · rw [getD_set _ _ _ (by rw [hs]; exact hi')]
      by_cases hqp : q = p
      · subst hqp; simp
      · have : π p ≠ π q := fun h => hqp (T.inj q p hq hp h.symm)
        rw [if_neg this, ← hx q hq]
        simp [hqp]
    · rw [List.mem_filter]
      refine ⟨hrest q hq (fun h => hn (.inl h)), ?_⟩
      have : π q ≠ π p := fun h => hn (.inr (T.inj q p hq hp h))
      simpa using this
    · have hmem := hrest p hp hnp
      have : (rest.filter fun x => !decide (x = π p)).length < rest.length := by
        rw [List.length_filter_lt_length_iff_exists]
        exact ⟨π p, hmem, by simp⟩
      omega

theorem evPlan_wp (hmix : P.follows .mixedOrders = true) (hnt : E.nt ≤ 256) {id : Nat} {ops : Array Oper} {plan : List (Nat × List Nat)} {Kc : Kont} {r : DV × Heap} {Q : Exit → Act → World → Prop} (hok : ops.toList.all (opOK pol E.nt) = true) (hp : planOK c pol ops plan = true)
    (hq : ∀ fr' h' a' w', Kc fr' h' = some r → St c E pol fr' [] h' a' w' → Q .normal a' w') {fr : Fr} {h : Heap} {a : Act} {w : World} (S : St c E pol fr [] h a w) (e : evPlan c C Y pol ops plan fr [] h Kc = some r) : (Code.region id ops true).wpIn (WF ro) 0 P Q a w := by
  obtain ⟨π, rc, st, T, h0, h1⟩ := planOK_Tr hnt hok hp e
  refine wpIn_region_any hmix ?_
  obtain ⟨j, _, j1, j2, j3⟩ := nextX (p := fun r => cls c pol ops (opAt ops π r) = .X) ops.size ops.size 0 (by omega)
  obtain ⟨k1, k2⟩ := T.hkeep (q := 0) (q' := j) (Nat.zero_le _) j1 (fun r _ h => j2 r (Nat.zero_le _) h)
  have getf : ∀ k, (Array.replicate ops.size false).getD k false = false := fun k => by
    by_cases hk : k < ops.size <;> simp [Array.getD, hk]
  refine draws hT hg hC hY T (fun a w S => hq _ _ a w h1 S) ops.size (List.range ops.size) _ (fun _ => False) j fr [] a _ (by simp) (fun q hq => by rw [getf]; simp) (fun q hq _ => by simpa using T.lt q hq) (by simp)
    ⟨j1, fun q a b => absurd b (j2 q (Nat.zero_le _) a), fun hj => ⟨j3 hj, fun h => h⟩, fun i hi he => ?_, fun t hm q hq he => he.elim, fun t hm _ => ⟨by rw [h0], rfl⟩, fun s hs h256 hall => ?_⟩ ?_
  · obtain ⟨_, _, _, h⟩ := he; exact h.elim
  · have := k2 s hs h256 (fun r _ h5 h6 => (hall r (by omega) h6.1 h6.2).elim)
    rw [this, h0]
  · rw [k1, h0]
    exact S.same ⟨rfl, rfl, rfl, rfl⟩
end
end Dv
end

section
set_option autoImplicit false
set_option linter.unusedVariables false
set_option linter.unusedSimpArgs false
namespace Dv
open Go

def exOf : Ex → Exit
  | .ret => .ret
  | .ex id => .exit id
  | .go l => .goto l
theorem exists_least {p : Nat → Prop} (h : ∃ n, p n) : ∃ n, p n ∧ ∀ m, p m → n ≤ m := by
  obtain ⟨n, hn⟩ := h
  induction n using Nat.strongRecOn with
  | _ n ih =>
    by_cases hh : ∃ m, m < n ∧ p m
    · obtain ⟨m, h1, h2⟩ := hh
      exact ih m h1 h2
    · exact ⟨n, hn, fun m hm => Nat.le_of_not_lt fun hl => hh ⟨m, hl, hm⟩⟩
open Classical in
noncomputable def least (p : Nat → Prop) : Nat := if h : ∃ n, p n then Classical.choose (exists_least h) else 0
theorem least_is {p : Nat → Prop} {n : Nat} (h : p n) : p (least p) := by
  unfold least
  rw [dif_pos ⟨n, h⟩]
  exact (Classical.choose_spec (exists_least ⟨n, h⟩)).1
theorem least_le {p : Nat → Prop} {n : Nat} (h : p n) : least p ≤ n := by
  unfold least
  rw [dif_pos ⟨n, h⟩]
  exact (Classical.choose_spec (exists_least ⟨n, h⟩)).2 n h

/-- A loop over a function, as evaluation says it, walked. -/
def RangeOK (P : Program) (c : Ctx) (C Y : Nat → List DV → Heap → Res) (ro : Option Nat) (rd : Option Nat) (E : Ent) (pol : Pol) (N : Nat) : Prop :=
  ∀ (f : Operand) (params : Array Tmp) (assign body : Code) (fr : Fr) (h : Heap) (Kc : Kont) (Ec : Ex → Kont) (r : DV × Heap) (a : Act) (w : World) (Q : Exit → Act → World → Prop), St c E pol fr [] h a w → codeOK c pol E.nt (.rangeFunc f params assign body) = true → evCode c C Y pol rd N (.rangeFunc f params assign body) fr h Kc Ec = some r →
    (∀ fr' h' a' w', Kc fr' h' = some r → St c E pol fr' [] h' a' w' → Q .normal a' w') → (∀ e fr' h' a' w', Ec e fr' h' = some r → St c E pol fr' [] h' a' w' → Q (exOf e) a' w') →
    (Code.rangeFunc f params assign body).wpIn (WF ro) 0 P Q a w

section
variable {P : Program} {c : Ctx} (hT : TIOK P c.ti) (hg : ∀ (K : Kn) g, K.V (c.gl g) (.pointer (some ⟨g, 0, none⟩))) (hmix : P.follows .mixedOrders = true) {C Y : Nat → List DV → Heap → Res} (hC : CallOK P c C) (hY : YieldOK P c Y) {pol : Pol} {ro rd : Option Nat} {E : Ent} (hnt : E.nt ≤ 256) {N : Nat} (hR : RangeOK P c C Y ro rd E pol N)
include hT hg hmix hC hY hnt hR

theorem evCode_wp : ∀ (code : Code) (fr : Fr) (h : Heap) (Kc : Kont) (Ec : Ex → Kont) (r : DV × Heap) (a : Act) (w : World) (Q : Exit → Act → World → Prop), St c E pol fr [] h a w → codeOK c pol E.nt code = true → evCode c C Y pol rd N code fr h Kc Ec = some r →
    (∀ fr' h' a' w', Kc fr' h' = some r → St c E pol fr' [] h' a' w' → Q .normal a' w') → (∀ e fr' h' a' w', Ec e fr' h' = some r → St c E pol fr' [] h' a' w' → Q (exOf e) a' w') → code.wpIn (WF ro) 0 P Q a w
  | .skip, fr, h, Kc, Ec, r, a, w, Q, S, ok, e, hK, hE => wpIn_skip (hK fr h a w e S)
  | .label l, fr, h, Kc, Ec, r, a, w, Q, S, ok, e, hK, hE => wpIn_label (hK fr h a w e S)
  | .exit id, fr, h, Kc, Ec, r, a, w, Q, S, ok, e, hK, hE => wpIn_exit (hE (.ex id) fr h a w e S)
  | .ret, fr, h, Kc, Ec, r, a, w, Q, S, ok, e, hK, hE => wpIn_ret (hE .ret fr h a w e S)
  | .goto l, fr, h, Kc, Ec, r, a, w, Q, S, ok, e, hK, hE => by cases e
  | .refuse s, fr, h, Kc, Ec, r, a, w, Q, S, ok, e, hK, hE => by cases e
  | .scope b, fr, h, Kc, Ec, r, a, w, Q, S, ok, e, hK, hE => by cases e
  | .region id ops draw, fr, h, Kc, Ec, r, a, w, Q, S, ok, e, hK, hE => by
    simp only [codeOK, Bool.and_eq_true] at ok
    simp only [evCode] at e
    cases draw with
    | false =>
      simp only [cond_false] at e
      refine wpIn_region ?_
      have := evOps_wp hT hg hC hY (ro := ro) (Q := Q) ok.1 hK ops.toList 0 rfl fr [] h a w S e
      rw [List.range_eq_range']
      simpa using this
    | true =>
      simp only [cond_true] at e
      split at e
      · rename_i plan hp
        have ok2 := ok.2
        rw [hp] at ok2
        simp only [Bool.not_true, Bool.false_or] at ok2
        exact evPlan_wp hT hg hC hY hmix hnt ok.1 ok2 hK S e
      · cases e
  | .seq x y, fr, h, Kc, Ec, r, a, w, Q, S, ok, e, hK, hE => by
    simp only [codeOK, Bool.and_eq_true] at ok
    simp only [evCode] at e
    exact wpIn_seq (evCode_wp x fr h _ Ec r a w _ S ok.1 e (fun fr' h' a' w' e' S' => evCode_wp y fr' h' Kc Ec r a' w' Q S' ok.2 e' hK hE)
      (fun ex fr' h' a' w' e' S' => by cases ex <;> exact hE _ fr' h' a' w' e' S'))
  | .cond x p q, fr, h, Kc, Ec, r, a, w, Q, S, ok, e, hK, hE => by
    simp only [codeOK, Bool.and_eq_true] at ok
    simp only [evCode] at e
    obtain ⟨K, hv⟩ := rho_at hg S x
    split at e
    · rename_i t ht
      rw [ht] at hv
      generalize hx : a.eval x = xv at hv
      cases hv
      cases t with
      | true => exact wpIn_cond_true hx (evCode_wp p fr h Kc Ec r a w Q S ok.1 e hK hE)
      | false => exact wpIn_cond_false hx (evCode_wp q fr h Kc Ec r a w Q S ok.2 e hK hE)
    · cases e
  | .block id b, fr, h, Kc, Ec, r, a, w, Q, S, ok, e, hK, hE => by
    simp only [codeOK] at ok
    simp only [evCode] at e
    refine wpIn_block (evCode_wp b fr h Kc _ r a w _ S ok e hK (fun ex fr' h' a' w' e' S' => ?_))
    cases ex with
    | ret => exact hE .ret fr' h' a' w' e' S'
    | go l => exact hE (.go l) fr' h' a' w' e' S'
    | ex i =>
      show Exit.inBlock id Q (.exit i) a' w'
      simp only at e'
      simp only [Exit.inBlock]
      cases hb : (i == id) with
      | true =>
        rw [hb] at e'
        rw [if_pos (eq_of_beq hb)]
        exact hK fr' h' a' w' e' S'
      | false =>
        rw [hb] at e'
        rw [if_neg (fun h => by subst h; simp at hb)]
        exact hE (.ex i) fr' h' a' w' e' S'
  | .loop b, fr, h, Kc, Ec, r, a, w, Q, S, ok, e, hK, hE => by
    simp only [codeOK] at ok
    simp only [evCode] at e
    let I : Act → World → Nat → Prop := fun a w n => ∃ fr h, St c E pol fr [] h a w ∧ evLoop (fun fr h K' => evCode c C Y pol rd N b fr h K' Ec) n fr h = some r
    refine wpIn_loop (fun a w => ∃ n, I a w n) (fun a w => least (I a w)) ⟨N, fr, h, S, e⟩ (fun a w hI => ?_)
    obtain ⟨n0, hn0⟩ := hI
    have hl := least_is hn0
    generalize hm : least (I a w) = m at hl
    obtain ⟨fr1, h1, S1, e1⟩ := hl
    cases m with
    | zero => simp [evLoop] at e1
    | succ m =>
      simp only [evLoop] at e1
      refine evCode_wp b fr1 h1 _ Ec r a w _ S1 ok e1 (fun fr' h' a' w' e' S' => ?_) (fun ex fr' h' a' w' e' S' => by cases ex <;> exact hE _ fr' h' a' w' e' S')
      have : I a' w' m := ⟨fr', h', S', e'⟩
      exact ⟨⟨m, this⟩, by have := least_le this; show least (I a' w') < m + 1; omega⟩
  | .rangeFunc f params assign body, fr, h, Kc, Ec, r, a, w, Q, S, ok, e, hK, hE => hR f params assign body fr h Kc Ec r a w Q S ok e hK hE
end
end Dv
end

section
set_option autoImplicit false
set_option linter.unusedVariables false
set_option linter.unusedSimpArgs false
namespace Dv
open Go

theorem fgetD_fsetD_or (d : Nat) : ∀ (fr : Fr) (n m : Nat) (v : DV), fgetD d (fsetD d fr n v) m = v ∨ fgetD d (fsetD d fr n v) m = fgetD d fr m ∨ fgetD d (fsetD d fr n v) m = .unk := by
  induction d with
  | zero =>
    intro fr n m v
    simp only [fsetD, fgetD, beq0]
    by_cases h : m = 0 <;> simp [h]
  | succ d ih =>
    intro fr n m v
    by_cases h : ∃ l r, fr = .nd l r
    · obtain ⟨l, r, rfl⟩ := h
      simp only [fsetD_step]
      split
      · rw [fgetD_step, fgetD_step]
        split
        · exact ih _ _ _ _
        · exact .inr (.inl rfl)
      · rw [fgetD_step, fgetD_step]
        split
        · exact .inr (.inl rfl)
        · exact ih _ _ _ _
    · have h' : ∀ l r, fr ≠ .nd l r := fun l r e => h ⟨l, r, e⟩
      rw [fsetD_e d n v fr h', fsetD_step]
      split
      · rw [fgetD_step]
        split
        · rcases ih .e (n / 2) (m / 2) v with e | e | e
          · exact .inl e
          · exact .inr (.inr (by rw [e, fgetD_e]))
          · exact .inr (.inr e)
        · exact .inr (.inr (fgetD_e _ _))
      · rw [fgetD_step]
        split
        · exact .inr (.inr (fgetD_e _ _))
        · rcases ih .e (n / 2) (m / 2) v with e | e | e
          · exact .inl e
          · exact .inr (.inr (by rw [e, fgetD_e]))
          · exact .inr (.inr e)
theorem forget_at : ∀ (l : List Nat) (fr : Fr) (t : Nat), t < 256 → fget (forget l fr) t = .unk ∨ (mem l t = false ∧ fget (forget l fr) t = fget fr t)
  | [], fr, t, _ => .inr ⟨rfl, rfl⟩
  | x :: l, fr, t, ht => by
    have e : forget (x :: l) fr = forget l (fset fr x .unk) := rfl
    rw [e]
    rcases forget_at l (fset fr x .unk) t ht with h | ⟨h1, h2⟩
    · exact .inl h
    · rw [h2]
      by_cases hx : x = t
      · subst hx; exact .inl (fget_fset_same _ _ _ ht)
      · have hm : mem (x :: l) t = false := by
          have : (x == t) = false := by simpa using hx
          simp [mem, this, h1]
        rcases fgetD_fsetD_or 8 fr x t .unk with h | h | h
        · exact .inl h
        · exact .inr ⟨hm, h⟩
        · exact .inl h

theorem run_enterLoop_inner {P : Program} {w : World} (fn : FuncId) (tmps : Array Value) (ps : Array Tmp) (assign body : Code) {l : Nat} {r : Loop} (h : w.heap[l]? = some (.loop r)) :
    (Instr.enterLoop fn tmps ps assign body (some l)).run P w = .ok (w.heap.size, []) (w.alloc (.loop { state := .ready, pending := none, fn, tmps, params := ps, assign, body, defers := r.defers })) := by
  unfold Instr.enterLoop
  simp only [Sem.run_bind, run_getLoop h, run_newObj_alloc, Result.andThen, Sem.run_pure]

/-- Entering a loop over a function. -/
theorem enter_ok {P : Program} {ro rd : Option Nat} {E : Ent} {pol : Pol} {K : Kn} {LB : Nat → Nat} {rs : List Nat} {fr : Fr} {rm : Rm} {h : Heap} {a : Act} {w : World} (H : HR E.base K h w) (f0 : FP E.K E.h E.w K h w) (hd : DefR E.w.heap.size K h w a.defers rs)
    (hrd : match rd with | none => ro = none | some l => ∃ p, E.K.hp l 0 = some p ∧ ro = some p.blk) (hok : rdOK rd h = true) (fn : FuncId) (ps : Array Tmp) (assign body : Code) :
    ∃ (l : Nat) (mark : List Deferred) (wA : World) (rec : Loop) (rs' : List Nat), (Instr.enterLoop fn a.tmps ps assign body ro).run P w = .ok (l, mark) (wA.alloc (.loop rec)) ∧ l = wA.heap.size ∧
      rec.state = .ready ∧ rec.pending = none ∧ rec.tmps = a.tmps ∧ rec.params = ps ∧ rec.assign = assign ∧ rec.body = body ∧ HR E.base K h wA ∧ FP K h w K h wA ∧ DefR E.w.heap.size K h wA (mark ++ a.defers) rs' := by
  cases rd with
  | none =>
    simp only at hrd
    subst hrd
    have hb : ∀ R, R < w.heap.size → (w.alloc (.deferred (some []))).heap[R]? = w.heap[R]? := fun R hR => by show (w.heap.push _)[R]? = _; rw [Array.getElem?_push, if_neg (Nat.ne_of_lt hR)]
    have G := H.grow (w' := w.alloc (.deferred (some []))) (by simp) hb rfl rfl rfl
    refine ⟨_, _, _, _, w.heap.size :: rs, run_enterLoop_outer fn a.tmps ps assign body, by simp, rfl, rfl, rfl, rfl, rfl, rfl, G.1, G.2, .cons ⟨rfl, f0.size, by simp, fun hh => ?_, ?_⟩ (fun hm => ?_) (hd.step G.2)⟩
    · obtain ⟨b, o, p, h1, h2, h3⟩ := hh
      have := (H.host b o p h1 h2).2
      omega
    · show (w.heap.push _)[w.heap.size]? = _
      rw [Array.getElem?_push, if_pos rfl]
    · obtain ⟨d, hm⟩ := hd.mem hm
      exact absurd hm.2.2.1 (Nat.lt_irrefl _)
  | some lo =>
    obtain ⟨p, h1, rfl⟩ := hrd
    have hp : K.hp lo 0 = some p := f0.kle.2 _ _ _ h1
    simp only [rdOK] at hok
    split at hok
    · rename_i fr0 ps0 as0 bd0 pol0 st0 pe0 hg
      obtain ⟨r, hr, _⟩ := H.obj lo _ hg p hp
      exact ⟨_, _, w, _, rs, run_enterLoop_inner fn a.tmps ps assign body hr, rfl, rfl, rfl, rfl, rfl, rfl, rfl, H, FP.refl _ _ _, hd⟩
    · cases hok

theorem range_ok {P : Program} {c : Ctx} (hg : ∀ (K : Kn) g, K.V (c.gl g) (.pointer (some ⟨g, 0, none⟩))) {C Y : Nat → List DV → Heap → Res} (hC : CallOK P c C) {pol : Pol} {ro rd : Option Nat} {E : Ent} (hnt : E.nt = pol.nt) (h256 : E.nt ≤ 256) {N : Nat}
    (hFn : ∀ g fi, c.fn g = some fi → ∃ fn, P.funcs[g]? = some fn ∧ fn.body.isSome = true ∧ (fn.name == "runtime.NumGoroutine") = false)
    (hrd : match rd with | none => ro = none | some l => ∃ p, E.K.hp l 0 = some p ∧ ro = some p.blk) : RangeOK P c C Y ro rd E pol N := by
  intro f params assign body fr h Kc Ec r a w Q S ok e hK hE
  have hlo : loopOK c pol params.toList assign body = true := by
    simp only [codeOK, Bool.and_eq_true] at ok
    simp only [loopOK, Bool.and_eq_true, Nat.ble_eq]
    rw [← hnt]
    exact ⟨h256, ok.1, ok.2⟩
  obtain ⟨K, LB, rs, H, f0, F, hs, hd, G⟩ := S
  simp only [evCode] at e
  cases hrdok : rdOK rd h with
  | false => rw [hrdok] at e; cases e
  | true =>
    rw [hrdok] at e
    simp only [cond_true] at e
    have hv := F.rho (hg K) f
    split at e
    · rename_i g first caps hf
      rw [hf] at hv
      generalize hfv : a.eval f = fv at hv
      cases hv with
      | fn fa ca hfa hca h1 h2 =>
        cases hfn : c.fn g with
        | none => rw [hfn] at e; cases e
        | some fi =>
          obtain ⟨fn0, hP, hbody, hname⟩ := hFn g fi hfn
          rw [hfn] at e
          simp only [Option.isSome_some, cond_true] at e
          split at e
          · rename_i v h' hc
            refine wpIn_rangeFunc (fun fn _ => ?_)
            obtain ⟨l, mark, wA, rec, rs', en, rfl, r1, r2, r3, r4, r5, r6, HA, FA, DA⟩ := enter_ok (P := P) (fr := fr) (rm := []) (pol := pol) (LB := LB) H f0 hd hrd hrdok fn params assign body
            have nb := newBare_ok HA (.loop (forget pol.locs fr) params.toList assign body pol .ready none) rfl (.loop rec) trivial (fun K' hle _ hq hb p hp => by
              have := hq p hp; subst this
              refine ⟨rec, hb, ⟨fun t ht => ?_, by rw [r4], r5, r6, r1, by rw [r2]; rfl, by rw [r3]; exact F.size⟩, by rw [r3, hs]; exact hnt⟩
              rw [r3]
              rcases forget_at pol.locs fr t ht with h | ⟨h1, h2⟩
              · rw [h]; exact .unk _
              · rw [h2]; exact (F.tm t ht h1).mono hle)
            obtain ⟨H1, F1⟩ := nb
            have G1 : Good c (.loop (forget pol.locs fr) params.toList assign body pol .ready none :: h) := fun b fr ps as_ bd pol' st pe e => by
              by_cases hb : b = h.length
              · subst hb
                rw [hget_new] at e
                cases e
                exact hlo
              · rw [hget_old hb] at e
                exact G _ _ _ _ _ _ _ _ e
            have hK1 : K.le ⟨K.fm, newHP K.hp h.length 0 ⟨wA.heap.size, 0, 0, 0⟩⟩ := F1.kle
            have hyld : (Kn.mk K.fm (newHP K.hp h.length 0 ⟨wA.heap.size, 0, 0, 0⟩)).V (.fn (.yield h.length) [] []) (.func (.yield wA.heap.size) #[] #[]) := .yld (p := ⟨wA.heap.size, 0, 0, 0⟩) (newHP_same ..)
            have hargs : VsR (Kn.mk K.fm (newHP K.hp h.length 0 ⟨wA.heap.size, 0, 0, 0⟩)) (first ++ (.fn (.yield h.length) [] [] :: caps)) (fa ++ #[.func (.yield wA.heap.size) #[] #[]] ++ ca) := by
              rw [Array.append_assoc]
              refine ((VsR.of hfa h1).mono hK1).append (VsR.append (d1 := [_]) (VsR.of (by simp) (fun j hj => ?_)) ((VsR.of hca h2).mono hK1))
              have : j = 0 := by simp at hj; omega
              subst this
              exact hyld
            have hcall := run_callFunc_body hP hname hbody (fa ++ #[.func (.yield wA.heap.size) #[] #[]] ++ ca) (wA.alloc (.loop rec))
            refine ⟨wA.heap.size, mark, wA.alloc (.loop rec), { target := .fn (.func g) ca, args := fa ++ #[.func (.yield wA.heap.size) #[] #[]] }, wA.alloc (.loop rec), g, fa ++ #[.func (.yield wA.heap.size) #[] #[]] ++ ca, wA.alloc (.loop rec), en, ?_, fun _ _ => trivial, ?_, WF_depth ro, ?_⟩
            · simp only [resolve, rangeCall, hfv, Deferred.ofValue]
              rw [Sem.run_pure]
              simp [Act.eval]
            · simp only [invoke]; exact hcall
            · rcases hC E.base _ _ _ g _ _ v h' H1 G1 hargs hc with ⟨fn1, _, _, _, hci⟩ | ⟨u, w', hx, _⟩
              · refine CallsIn.mono (WF_calls.2 hci) fun en w3 hen => ?_
                obtain ⟨u, rfl, K2, F2, H2, V2, G2⟩ := hen
                have hp2 : K2.hp h.length 0 = some ⟨wA.heap.size, 0, 0, 0⟩ := F2.kle.2 _ _ _ (newHP_same ..)
                -- the record, behind the call
                have fin : ∀ {fr' : Fr} {ps' : List Nat} {as' bd' : Code} {pol' : Pol} {st' : LSt} {pe' : Option Ex}, hget h' h.length = some (.loop fr' ps' as' bd' pol' st' pe') → st' ≠ .busy →
                    ∃ jump w4, (Instr.endLoop wA.heap.size).run P w3 = .ok jump w4 ∧ jump = (pe'.map fun | .ret => .ret | .ex id => .exit id | .go l => .goto l) ∧ St c E pol fr [] (hset h' h.length .dead) { a with defers := mark ++ a.defers } w4 := by
                  intro fr' ps' as' bd' pol' st' pe' hg' hst
                  obtain ⟨r3, hr3, L3, _⟩ := H2.obj _ _ hg' _ hp2
                  have hb3 : r3.state ≠ .busy := by
                    rw [L3.state]
                    cases st' <;> simp at hst ⊢
                  have SB := setBare_ok H2 hg' rfl hp2 .dead (.inr rfl) (x := .loop { r3 with state := .exhausted }) trivial trivial
                  refine ⟨_, _, run_endLoop hr3 hb3, L3.pending, K2, LB, rs', SB.1, ((f0.trans FA).trans F1).trans (F2.trans SB.2), ?_, hs, ?_⟩
                  · exact (((F.step FA).step F1).step F2).step SB.2
                  · exact ⟨((DA.step F1).step F2).step SB.2, (Quiet.set _ _ rfl).good G2⟩
                split at e
                · rename_i fr' ps' as' bd' pol' hg'
                  obtain ⟨jump, w4, e1, e2, S4⟩ := fin hg' (by simp)
                  refine ⟨jump, w4, e1, ?_⟩
                  subst e2
                  exact hK _ _ _ _ e S4
                · rename_i fr' ps' as' bd' pol' ex hg'
                  obtain ⟨jump, w4, e1, e2, S4⟩ := fin hg' (by simp)
                  refine ⟨jump, w4, e1, ?_⟩
                  subst e2
                  cases ex with
                  | ret => exact wpIn_ret (hE .ret _ _ _ _ e S4)
                  | ex id => exact wpIn_exit (hE (.ex id) _ _ _ _ e S4)
                  | go l => exact wpIn_goto (hE (.go l) _ _ _ _ e S4)
                · cases e
              · rw [hcall] at hx; cases hx
          · cases e
    · cases e
end Dv
end

section
set_option autoImplicit false
set_option linter.unusedVariables false
set_option linter.unusedSimpArgs false
namespace Dv
open Go

theorem foldPut (K : Kn) (locs : List Nat) : ∀ (ps : List Nat) (ds : List DV) (vs : List Value) (fr : Fr) (tm : Array Value), ds.length = ps.length → vs.length = ps.length → (∀ j (h1 : j < ds.length) (h2 : j < vs.length), K.V ds[j] vs[j]) →
    (∀ t ∈ ps, t < tm.size ∧ t < 256 ∧ mem locs t = false) → (∀ t, t < 256 → mem locs t = false → K.V (fget fr t) (tm.getD t undef)) → (∀ t, t < 256 → mem locs t = true → fget fr t = .unk) →
    ((ps.zip vs).foldl (fun tm (t, a) => tm.setIfInBounds t a) tm).size = tm.size ∧
    (∀ t, t < 256 → mem locs t = false → K.V (fget ((ps.zip ds).foldl (fun fr (t, a) => fset fr t a) fr) t) (((ps.zip vs).foldl (fun tm (t, a) => tm.setIfInBounds t a) tm).getD t undef)) ∧
    ∀ t, t < 256 → mem locs t = true → fget ((ps.zip ds).foldl (fun fr (t, a) => fset fr t a) fr) t = .unk
  | [], ds, vs, fr, tm, h1, h2, _, _, h5, h6 => by
    cases ds with
    | cons _ _ => simp at h1
    | nil =>
      cases vs with
      | cons _ _ => simp at h2
      | nil => exact ⟨rfl, h5, h6⟩
  | p :: ps, [], vs, fr, tm, h1, h2, _, _, _, _ => by simp at h1
  | p :: ps, d :: ds, [], fr, tm, h1, h2, _, _, _, _ => by simp at h2
  | p :: ps, d :: ds, v :: vs, fr, tm, h1, h2, h3, h4, h5, h6 => by
    obtain ⟨p1, p2, p3⟩ := h4 p (List.mem_cons_self ..)
    obtain ⟨a, b, c⟩ := foldPut K locs ps ds vs (fset fr p d) (tm.setIfInBounds p v) (by simpa using h1) (by simpa using h2) (fun j g1 g2 => h3 (j + 1) (by simp; omega) (by simp; omega)) (fun t ht => by simpa using h4 t (List.mem_cons_of_mem _ ht))
      (fun t ht hm => by
        rw [getD_put _ _ _ _ p1]
        by_cases he : p = t
        · subst he; rw [if_pos rfl, fget_fset_same _ _ _ p2]; exact h3 0 (by simp) (by simp)
        · rw [if_neg he, fget_fset_ne p2 he]; exact h5 t ht hm)
      (fun t ht hm => by
        have he : p ≠ t := fun e => by subst e; rw [p3] at hm; cases hm
        rw [fget_fset_ne p2 he]; exact h6 t ht hm)
    exact ⟨by simpa using a, b, c⟩

theorem Good.set {c : Ctx} {h : Heap} (G : Good c h) {l : Nat} {fr fr' : Fr} {ps : List Nat} {as_ bd : Code} {pol : Pol} {st st' : LSt} {pe pe' : Option Ex} (hg : hget h l = some (.loop fr ps as_ bd pol st pe)) : Good c (hset h l (.loop fr' ps as_ bd pol st' pe')) := fun b f p a d q s e' e => by
  by_cases hb : b = l
  · subst hb
    rw [hget_hset_same (hget_lt hg)] at e
    cases e
    exact G _ _ _ _ _ _ _ _ hg
  · rw [hget_hset_ne hb] at e
    exact G _ _ _ _ _ _ _ _ e

/-- A loop's record is put anew. -/
theorem reLoop {base : Nat} {K : Kn} {h : Heap} {w : World} (H : HR base K h w) {l : Nat} {fr : Fr} {ps : List Nat} {as_ bd : Code} {pol : Pol} {st : LSt} {pe : Option Ex} (hg : hget h l = some (.loop fr ps as_ bd pol st pe)) {p : Place} (hp : K.hp l 0 = some p) {r : Loop}
    (L : LoopR K w fr ps as_ bd st pe r) (hs : r.tmps.size = pol.nt) (st' : LSt) (pe' : Option Ex) (s' : LoopState) (c' : Option Code) (h1 : s' = match st' with | .ready => .ready | .busy => .busy | .done => .done) (h2 : c' = pe'.map fun | .ret => .ret | .ex id => .exit id | .go l => .goto l) :
    HR base K (hset h l (.loop fr ps as_ bd pol st' pe')) (w.putObj p.blk (.loop { r with state := s', pending := c' })) ∧ FP K h w K (hset h l (.loop fr ps as_ bd pol st' pe')) (w.putObj p.blk (.loop { r with state := s', pending := c' })) := by
  have hlt := (H.host l _ p hg hp).2
  refine setBare_ok H hg rfl hp _ (.inl rfl) (x := .loop { r with state := s', pending := c' }) trivial (fun q hq => ?_)
  have : q = p := by rw [hp] at hq; exact (Option.some.inj hq).symm
  subst this
  exact ⟨_, World.putObj_heap_same hlt, ⟨L.tmps, L.params, L.assign, L.body, h1, h2, L.size⟩, hs⟩

section
variable {P : Program} {c : Ctx} (hT : TIOK P c.ti) (hg : ∀ (K : Kn) g, K.V (c.gl g) (.pointer (some ⟨g, 0, none⟩))) (hmix : P.follows .mixedOrders = true) {C Y : Nat → List DV → Heap → Res} (hC : CallOK P c C) (hY : YieldOK P c Y)
  (hFn : ∀ g fi, c.fn g = some fi → ∃ fn, P.funcs[g]? = some fn ∧ fn.body.isSome = true ∧ (fn.name == "runtime.NumGoroutine") = false)
include hT hg hmix hC hY hFn

theorem round_ok (n : Nat) : YieldOK P c (evRound c C Y n) := by
  intro base K h w l ds args v h' p H G hvs e hp
  unfold evRound at e
  split at e
  · rename_i fr params assign body pol hg0
    cases hb : (Nat.beq params.length ds.length && params.all fun t => !mem pol.locs t) with
    | false => rw [hb] at e; cases e
    | true =>
      rw [hb] at e
      simp only [cond_true] at e
      simp only [Bool.and_eq_true, List.all_eq_true, Bool.not_eq_true', Nat.beq_eq] at hb
      obtain ⟨hlen, hnl⟩ := hb
      have hlo := G _ _ _ _ _ _ _ _ hg0
      simp only [loopOK, Bool.and_eq_true, Nat.ble_eq, List.all_eq_true] at hlo
      obtain ⟨h256, ⟨okA, okB⟩, hpar⟩ := hlo
      obtain ⟨r, hr, L, hsz⟩ := H.obj l _ hg0 p hp
      have hps : r.params.size = params.length := by rw [← L.params]; simp
      refine ⟨r, hr, by rw [hvs.1, hps, hlen], ?_⟩
      let E : Ent := ⟨base, K, h, w, r.tmps.size⟩
      have hE256 : E.nt ≤ 256 := by show r.tmps.size ≤ 256; rw [hsz]; exact h256
      have okA : codeOK c pol E.nt assign = true := by show codeOK c pol r.tmps.size assign = true; rw [hsz]; exact okA
      have okB : codeOK c pol E.nt body = true := by show codeOK c pol r.tmps.size body = true; rw [hsz]; exact okB
      have hfold : (r.params.zip args).foldl (fun tmps (t, a) => tmps.setIfInBounds t a) r.tmps = (params.zip args.toList).foldl (fun tm (t, a) => tm.setIfInBounds t a) r.tmps := by
        rw [← Array.foldl_toList, Array.toList_zip, L.params]
      have hvl : args.toList.length = params.length := by rw [Array.length_toList, hvs.1, hlen]
      obtain ⟨q1, q2, q3⟩ := foldPut K pol.locs params ds args.toList (forget pol.locs fr) r.tmps hlen.symm hvl (fun j g1 g2 => by
          have := hvs.2 j g1
          have hj : j < args.size := by simpa using g2
          simpa [Array.getD, hj] using this)
        (fun t ht => by
          have := blt_lt (hpar t ht)
          exact ⟨by rw [hsz]; exact this, by omega, hnl t ht⟩)
        (fun t ht hm => by
          rcases forget_at pol.locs fr t ht with h | ⟨_, h⟩
          · rw [h]; exact .unk _
          · rw [h]; exact L.tmps t ht)
        (fun t ht hm => by
          rcases forget_at pol.locs fr t ht with h | ⟨h, _⟩
          · exact h
          · rw [hm] at h; cases h)
      have S0 : St c E pol ((params.zip ds).foldl (fun fr (t, a) => fset fr t a) (forget pol.locs fr)) [] h { tmps := (params.zip args.toList).foldl (fun tm (t, a) => tm.setIfInBounds t a) r.tmps, defers := [] } w := by
        have no : ∀ d, d < 256 → mem pol.locs d = true → ∀ cells, fget ((params.zip ds).foldl (fun fr (t, a) => fset fr t a) (forget pol.locs fr)) d ≠ .agg cells := fun d h1 h2 cells e => by rw [q3 d h1 h2] at e; cases e
        exact ⟨K, fun _ => 0, [], H, FP.refl _ _ _, ⟨q2, fun d h1 h2 cells e => absurd e (no d h1 h2 cells), fun d d' h1 _ h3 _ _ cs _ e1 _ => absurd e1 (no d h1 h3 cs), fun t s off e => (by cases e), by rw [q1]; exact L.size⟩, q1, .nil, G⟩
      rw [hfold]
      refine roundIn_of_wpIn (F := WF none) trivial ?_
      rw [L.assign, L.body]
      have hrd : match (some l : Option Nat) with | none => (some p.blk : Option Nat) = none | some l => ∃ q, E.K.hp l 0 = some q ∧ (some p.blk : Option Nat) = some q.blk := ⟨p, hp, rfl⟩
      have hR : RangeOK P c C Y (some p.blk) (some l) E pol n := range_ok hg hC (by show r.tmps.size = pol.nt; exact hsz) hE256 hFn hrd
      have post : ∀ {ex : Option Ex} {h2 : Heap} {fr2 : Fr} {a2 : Act} {w3 : World} {b : Bool} {st' : LSt}, St c E pol fr2 [] h2 a2 w3 → (b = ex.isNone) → (st' = if ex.isNone then .ready else .done) →
          (match hget h2 l with | some (.loop fr2 params2 assign2 body2 pol2 .busy _) => some (DV.bool b, hset h2 l (.loop fr2 params2 assign2 body2 pol2 st' ex)) | _ => none) = some (v, h') →
          ∃ v' w', (Instr.endRound p.blk (ex.map fun | .ret => .ret | .ex id => .exit id | .go l => .goto l)).run P w3 = .ok v' w' ∧ ∃ u, Ending.returned v' = .returned u ∧ After c base K h w h' v u w' := by
        intro ex h2 fr2 a2 w3 b st' S3 hbb hst e2
        obtain ⟨K3, LB3, rs3, H3, F3, FR3, hs3, hd3, G3⟩ := S3
        have hp3 : K3.hp l 0 = some p := F3.kle.2 _ _ _ hp
        split at e2
        · rename_i fr4 ps4 as4 bd4 pol4 pe4 hg4
          cases e2
          obtain ⟨r4, hr4, L4, hz4⟩ := H3.obj l _ hg4 p hp3
          have RL := reLoop H3 hg4 hp3 L4 hz4 st' ex (if (ex.map fun | .ret => Code.ret | .ex id => .exit id | .go l => .goto l).isNone then .ready else .done) (ex.map fun | .ret => .ret | .ex id => .exit id | .go l => .goto l) (by subst hst; cases ex <;> rfl) rfl
          refine ⟨_, _, run_endRound _ hr4, _, rfl, K3, F3.trans RL.2, RL.1, ?_, G3.set hg4⟩
          subst hbb
          have : (ex.map fun | .ret => Code.ret | .ex id => .exit id | .go l => .goto l).isNone = ex.isNone := by cases ex <;> rfl
          rw [this]
          exact .bool _
        · cases e2
      refine evCode_wp hT hg hmix hC hY (ro := some p.blk) (rd := some l) hE256 hR assign _ h _ _ (v, h') _ w _ S0 okA e (fun fr1 h1 a1 w1 e1 S1 => ?_) (fun ex fr1 h1 a1 w1 e1 S1 => by cases e1)
      obtain ⟨K1, LB1, rs1, H1, F1, FR1, hs1, hd1, G1⟩ := S1
      have hp1 : K1.hp l 0 = some p := F1.kle.2 _ _ _ hp
      split at e1
      · rename_i fr' ps' as' bd' pol' hg1
        obtain ⟨r1, hr1, L1, hz1⟩ := H1.obj l _ hg1 p hp1
        have RL := reLoop H1 hg1 hp1 L1 hz1 .busy none .busy r1.pending rfl L1.pending
        refine ⟨_, run_beginRound hr1 L1.state, ?_⟩
        have S2 : St c E pol fr1 [] (hset h1 l (.loop fr' ps' as' bd' pol' .busy none)) a1 (w1.putObj p.blk (.loop { r1 with state := .busy })) :=
          ⟨K1, LB1, rs1, RL.1, F1.trans RL.2, FR1.step RL.2, hs1, hd1.step RL.2, G1.set hg1⟩
        refine evCode_wp hT hg hmix hC hY (ro := some p.blk) (rd := some l) hE256 hR body _ _ _ _ (v, h') _ _ _ S2 okB e1 (fun fr2 h2 a2 w3 e2 S3 => ?_) (fun ex fr2 h2 a2 w3 e2 S3 => ?_)
        · exact post (ex := none) S3 rfl rfl e2
        · have := post (ex := some ex) S3 rfl rfl e2
          cases ex <;> exact this
      · cases e1
  · cases e
end
end Dv
end

section
set_option autoImplicit false
set_option linter.unusedVariables false
set_option linter.unusedSimpArgs false
namespace Dv
open Go

/-! ### Results -/
theorem run_mapM_list {P : Program} {w : World} {α : Type} (f : α → Sem Value) : ∀ (l : List α) (vs : List Value), vs.length = l.length → (∀ j (h1 : j < l.length) (h2 : j < vs.length), (f l[j]).run P w = .ok vs[j] w) → (l.mapM f).run P w = .ok vs w
  | [], [], _, _ => by simp
  | [], _ :: _, h, _ => by simp at h
  | _ :: _, [], h, _ => by simp at h
  | x :: l, v :: vs, h, hf => by
    have h0 := hf 0 (by simp) (by simp)
    simp only [List.getElem_cons_zero] at h0
    have ih := run_mapM_list (w := w) f l vs (by simpa using h) (fun j h1 h2 => by
      have := hf (j + 1) (by simp; omega) (by simp; omega)
      simp only [List.getElem_cons_succ] at this
      exact this)
    simp only [List.mapM_cons, Sem.run_bind, h0, Result.andThen_ok, ih, Sem.run_pure]
def resSem (tmps : Array Value) : ResultVar → Sem Value
  | .tmp t => pure (tmps.getD t undef)
  | .cell a t => do loadVar t (← asAddr (tmps.getD a undef))
theorem run_results {P : Program} {w : World} (fn : Func) (tmps : Array Value) (vs : List Value) (h : vs.length = fn.results.toList.length) (hf : ∀ j (h1 : j < fn.results.toList.length) (h2 : j < vs.length), (resSem tmps fn.results.toList[j]).run P w = .ok vs[j] w) :
    (Go.results fn tmps).run P w = .ok (match vs with | [v] => v | vs => .tuple vs.toArray) w := by
  have e : Go.results fn tmps = (do let vs ← fn.results.mapM (resSem tmps); pure (if h : vs.size = 1 then vs[0] else .tuple vs)) := by
    unfold Go.results
    have : (fun x : ResultVar => (match x with | .tmp t => pure (tmps.getD t undef) | .cell a t => do loadVar t (← asAddr (tmps.getD a undef)) : Sem Value)) = resSem tmps := by
      funext x; cases x <;> rfl
    rw [← this]
    rfl
  rw [e, Sem.run_bind, Array.mapM_eq_mapM_toList]
  simp only [map_eq_pure_bind, Sem.run_bind]
  rw [run_mapM_list (resSem tmps) fn.results.toList vs h hf]
  simp only [Result.andThen_ok, Sem.run_pure]
  match vs with
  | [] => simp
  | [v] => simp
  | v :: u :: r => simp

theorem readRes_ok {P : Program} {c : Ctx} (hT : TIOK P c.ti) {n0 base : Nat} {K : Kn} {h : Heap} {w : World} (H : HR base K h w) {pol : Pol} {LB : Nat → Nat} {fr : Fr} {rm : Rm} {tmps : Array Value} (F : FrameR n0 K h w pol LB fr rm tmps) {x : ResultVar} {d : DV} (e : readRes c pol fr h x = some d) :
    ∃ u, (resSem tmps x).run P w = .ok u w ∧ K.V d u := by
  cases x with
  | tmp t =>
    simp only [readRes] at e
    cases hm : mem pol.locs t <;> rw [hm] at e
    · cases e
      refine ⟨tmps.getD t undef, by simp only [resSem, Sem.run_pure], ?_⟩
      by_cases ht : t < 256
      · exact F.tm t ht hm
      · rw [fget_big fr t (Nat.le_of_not_lt ht)]; exact .unk _
    · cases e
  | cell a t =>
    simp only [readRes] at e
    cases hm : mem pol.locs a <;> rw [hm] at e
    · simp only [cond_false] at e
      by_cases ha : a < 256
      · have hv := F.tm a ha hm
        generalize hpv : tmps.getD a undef = pv at hv
        have hp : ∃ ad, pv = .pointer (some ad) := by
          cases hd : fget fr a <;> rw [hd] at e hv <;> simp only [dLoad] at e <;> first | (cases e; done) | (cases hv; exact ⟨_, rfl⟩)
        obtain ⟨ad, rfl⟩ := hp
        obtain ⟨u, hu, hr⟩ := load_ok hT H hv e
        refine ⟨u, ?_, hr⟩
        simp only [resSem, hpv, asAddr, Sem.run_bind, Sem.run_pure, Result.andThen_ok]
        simpa [Instr.loadAt, Instr.sureAddr] using hu
      · rw [fget_big fr a (Nat.le_of_not_lt ha)] at e
        simp [dLoad] at e
    · simp only [cond_true] at e
      by_cases ha : a < 256
      · split at e
        · rename_i cells hc
          obtain ⟨_, L, hp⟩ := F.lc a ha hm cells hc
          obtain ⟨u, hu, hr⟩ := L.load (P := P) (tyOf hT e) e
          refine ⟨u, ?_, hr⟩
          simp only [resSem, hp, asAddr, Sem.run_bind, Sem.run_pure, Result.andThen_ok]
          exact hu
        · cases e
      · rw [fget_big fr a (Nat.le_of_not_lt ha)] at e
        cases e
theorem results_ok {P : Program} {c : Ctx} (hT : TIOK P c.ti) {n0 base : Nat} {K : Kn} {h : Heap} {w : World} (H : HR base K h w) {pol : Pol} {LB : Nat → Nat} {fr : Fr} {rm : Rm} {tmps : Array Value} (F : FrameR n0 K h w pol LB fr rm tmps) {fn : Func} {d : DV} (e : results c pol fn.results.toList fr h = some d) :
    ∃ u, (Go.results fn tmps).run P w = .ok u w ∧ K.V d u := by
  unfold results at e
  have key : ∀ {l : List ResultVar} {ds : List DV}, mapO (readRes c pol fr h) l = some ds → ∃ vs : List Value, vs.length = l.length ∧ (∀ j (h1 : j < ds.length) (h2 : j < vs.length), K.V ds[j] vs[j]) ∧ ∀ j (h1 : j < l.length) (h2 : j < vs.length), (resSem tmps l[j]).run P w = .ok vs[j] w := by
    intro l
    induction l with
    | nil => intro ds hd; simp [mapO] at hd; subst hd; exact ⟨[], rfl, fun j h1 => by simp at h1, fun j h1 => by simp at h1⟩
    | cons x l ih =>
      intro ds hd
      simp only [mapO] at hd
      split at hd
      · rename_i y s hy hs
        cases hd
        obtain ⟨u, hu, hr⟩ := readRes_ok (P := P) hT H F hy
        obtain ⟨vs, h1, h2, h3⟩ := ih hs
        refine ⟨u :: vs, by simp [h1], fun j g1 g2 => ?_, fun j g1 g2 => ?_⟩
        · cases j with
          | zero => exact hr
          | succ j => simpa using h2 j (by simpa using g1) (by simpa using g2)
        · cases j with
          | zero => exact hu
          | succ j => simpa using h3 j (by simpa using g1) (by simpa using g2)
      · cases hd
  cases hm : mapO (readRes c pol fr h) fn.results.toList with
  | none => rw [hm] at e; cases e
  | some ds =>
    rw [hm] at e
    obtain ⟨vs, h1, h2, h3⟩ := key hm
    have hlen := mapO_len hm
    refine ⟨_, run_results fn tmps vs h1 h3, ?_⟩
    have tup : ∀ (ds : List DV) (vs : List Value), vs.length = ds.length → (∀ j (h1 : j < ds.length) (h2 : j < vs.length), K.V ds[j] vs[j]) → K.V (.tup ds) (.tuple vs.toArray) := fun ds vs hl hv =>
      .tup _ (by simpa using hl) (fun j hj => by
        have hj' : j < vs.length := by omega
        have := hv j hj hj'
        simpa [Array.getD, hj'] using this)
    have hl : vs.length = ds.length := by omega
    match ds, vs, hl, h2, e with
    | [], [], _, _, e => cases e; exact .tup #[] rfl (fun j hj => by simp at hj)
    | [d], [v], _, h2, e => cases e; exact h2 0 (by simp) (by simp)
    | d :: d' :: ds, v :: v' :: vs, hl, h2, e => cases e; exact tup _ _ hl h2

/-! ### Leaving, marks and all -/
theorem Chg.putObj {w : World} {r : Nat} {o : Obj} (h : ∀ c t f, w.heap[r]? ≠ some (.cells c t f)) : Chg w (w.putObj r o) r 0 0 :=
  ⟨rfl, rfl, rfl, by simp, fun R _ hn => World.putObj_heap_other hn, fun c t f e => absurd e (h c t f)⟩
theorem leave_ok {P : Program} {c : Ctx} (hT : TIOK P c.ti) {n0 base : Nat} {K0 K : Kn} {h0 h : Heap} {w0 : World} {pol : Pol} {LB : Nat → Nat} {fr : Fr} {tmps : Array Value} {fn : Func} {d : DV} (e : results c pol fn.results.toList fr h = some d) (hn0 : n0 = w0.heap.size)
    {R : Ending → World → Prop} (hR : ∀ u w', FP K0 h0 w0 K h w' → HR base K h w' → K.V d u → R (.returned u) w') : ∀ (ds : List Deferred) (rs : List Nat) (w : World), HR base K h w → FP K0 h0 w0 K h w → FrameR n0 K h w pol LB fr [] tmps → DefR n0 K h w ds rs → LeavesInM (WF none) 0 P fn tmps R ds .returning w
  | [], _, w, H, f, F, _ => by
    obtain ⟨u, hu, hv⟩ := results_ok (P := P) hT H F e
    exact ⟨u, hu, hR u w f H hv⟩
  | dd :: ds, rs, w, H, f, F, D => by
    cases D with
    | cons hd hn ht =>
      rename_i r rs
      obtain ⟨h1, h2, h3, h4, h5⟩ := hd
      refine ⟨by simp, .inl ⟨r, _, h1, run_takeDeferred h5, ?_⟩⟩
      have W : Chg w (w.putObj r (.deferred none)) r 0 0 := Chg.putObj (fun c t f e => by rw [h5] at e; cases e)
      have hfm : ∀ x, K.fm r x = none := fun x => by
        cases e : K.fm r x with
        | none => rfl
        | some v =>
          have := H.fm r x v e
          simp [cellAt, World.cell?, h5] at this
      have F' : FrameR n0 K h (w.putObj r (.deferred none)) pol LB fr [] tmps := ⟨F.tm, (fun d d1 d2 cells e => by
        obtain ⟨a, L, b⟩ := F.lc d d1 d2 cells e
        refine ⟨a, L.other W (fun e' => ?_), b⟩
        obtain ⟨c0, t0, f0, hc, _⟩ := L.blk
        rw [e', h5] at hc; cases hc), F.dis, fun t s off e => (by cases e), F.size⟩
      have D' : ∀ {ds : List Deferred} {rs : List Nat}, DefR n0 K h w ds rs → r ∉ rs → DefR n0 K h (w.putObj r (.deferred none)) ds rs := by
        intro ds rs m
        induction m with
        | nil => intro _; exact .nil
        | cons hd' hn' _ ih =>
          intro hr
          obtain ⟨g1, g2, g3, g4, g5⟩ := hd'
          refine .cons ⟨g1, g2, by simpa using g3, g4, ?_⟩ hn' (ih (fun h => hr (List.mem_cons_of_mem _ h)))
          rw [World.putObj_heap_other (fun e => hr (by rw [← e]; exact List.mem_cons_self ..))]
          exact g5
      exact leave_ok hT e hn0 hR ds rs _ (H.poke W h4 hfm) (f.poke W (by rw [← hn0]; exact h2)) F' (D' ht hn)
end Dv
end

section
set_option autoImplicit false
set_option linter.unusedVariables false
set_option linter.unusedSimpArgs false
namespace Dv
open Go

theorem fgetD_full : ∀ (d t : Nat), fgetD d (full d) t = .unk
  | 0, t => by simp only [full, fgetD]; cases Nat.beq t 0 <;> rfl
  | d + 1, t => by rw [full, fgetD_step]; split <;> exact fgetD_full d _
theorem fget_full (t : Nat) : fget (full 8) t = .unk := fgetD_full 8 t
theorem fill_at : ∀ (ds : List DV) (fr : Fr) (i t : Nat), i + ds.length ≤ 256 → fget (fill fr i ds) t = if h : i ≤ t ∧ t - i < ds.length then ds[t - i]'h.2 else fget fr t
  | [], fr, i, t, _ => by simp [fill]
  | d :: ds, fr, i, t, hl => by
    simp only [fill]
    have hl' : i + 1 + ds.length ≤ 256 := by simp at hl; omega
    rw [fill_at ds _ (i + 1) t hl']
    by_cases h1 : i + 1 ≤ t ∧ t - (i + 1) < ds.length
    · rw [dif_pos h1, dif_pos ⟨by omega, by simp; omega⟩]
      have : t - i = (t - (i + 1)) + 1 := by omega
      simp only [this, List.getElem_cons_succ]
    · rw [dif_neg h1]
      by_cases ht : i = t
      · subst ht
        have hi : i < 256 := by simp at hl; omega
        rw [fget_fset_same _ _ _ hi, dif_pos ⟨Nat.le_refl _, by simp⟩]
        simp
      · have hi : i < 256 := by simp at hl; omega
        rw [fget_fset_ne hi ht, dif_neg]
        rintro ⟨h2, h3⟩
        exact h1 ⟨by omega, by simp at h3; omega⟩

/-- The context tells of the program. -/
structure CtxOK (P : Program) (c : Ctx) : Prop where
  ty : TIOK P c.ti
  gl : ∀ (K : Kn) g, K.V (c.gl g) (.pointer (some ⟨g, 0, none⟩))
  mix : P.follows .mixedOrders = true
  fn : ∀ g fi, c.fn g = some fi → ∃ fn, P.funcs[g]? = some fn ∧ fn.body = some fi.code ∧ fn.ntmps = fi.ntmps ∧ fn.results.toList = fi.results ∧ (fn.name == "runtime.NumGoroutine") = false ∧ codeOK c fi.pol fi.ntmps fi.code = true ∧ fi.ntmps ≤ 256
  ext : ∀ f e, c.ext f = some e → ∀ (base : Nat) (K : Kn) (h : Heap) (w : World) (ds : List DV) (args : Array Value) (v : DV), HR base K h w → VsR K ds args → e ds = some v → Runs P f args w fun u w' => w' = w ∧ K.V v u

theorem CtxOK.fn' {P : Program} {c : Ctx} (hc : CtxOK P c) : ∀ g fi, c.fn g = some fi → ∃ fn, P.funcs[g]? = some fn ∧ fn.body.isSome = true ∧ (fn.name == "runtime.NumGoroutine") = false := fun g fi h => by
  obtain ⟨fn, h1, h2, _, _, h5, _⟩ := hc.fn g fi h
  exact ⟨fn, h1, by rw [h2]; rfl, h5⟩

theorem body_ok {P : Program} {c : Ctx} (hc : CtxOK P c) {C Y : Nat → List DV → Heap → Res} (hC : CallOK P c C) (hY : YieldOK P c Y) {n g : Nat} {fi : FI} (hf : c.fn g = some fi) {base : Nat} {K : Kn} {h h' : Heap} {w : World} (H : HR base K h w) (G : Good c h)
    {ds : List DV} {vs : Array Value} (hvs : VsR K ds vs) {v : DV} (e : evBody c C Y n fi ds h = some (v, h')) : Runs P g vs w (After c base K h w h' v) := by
  obtain ⟨fn, hP, hb, hnt, hres, hname, hok, h256⟩ := hc.fn g fi hf
  unfold evBody at e
  cases hq : ((fi.pol.locs.any fun t => Nat.blt t ds.length) || (Nat.blt fi.ntmps ds.length || !Nat.beq fi.pol.nt fi.ntmps)) with
  | true => rw [hq] at e; cases e
  | false =>
    rw [hq] at e
    simp only [cond_false] at e
    simp only [Bool.or_eq_false_iff, Bool.not_eq_false'] at hq
    obtain ⟨hl, hn, hpn⟩ := hq
    have hpn := Nat.eq_of_beq_eq_true hpn
    have hle : ds.length ≤ fi.ntmps := by
      refine Nat.le_of_not_lt fun h => ?_
      rw [show Nat.blt fi.ntmps ds.length = true by rw [Nat.blt_eq]; exact h] at hn; cases hn
    let E : Ent := ⟨base, K, h, w, fi.ntmps⟩
    have hsz : (vs ++ Array.replicate (fn.ntmps - vs.size) undef).size = fi.ntmps := by rw [Array.size_append, Array.size_replicate, hnt, hvs.1]; omega
    have hnl : ∀ d, mem fi.pol.locs d = true → ds.length ≤ d := fun d hm => by
      refine Nat.le_of_not_lt fun h => ?_
      rw [List.any_eq_false] at hl
      exact hl d ((mem_iff _ _).1 hm) (by rw [Nat.blt_eq]; exact h)
    have hfill : ∀ t, fget (fill (full 8) 0 ds) t = if h : t < ds.length then ds[t] else .unk := fun t => by
      rw [fill_at ds (full 8) 0 t (by omega)]
      by_cases ht : t < ds.length
      · rw [dif_pos ⟨Nat.zero_le _, by simpa using ht⟩, dif_pos ht]; simp
      · rw [dif_neg (fun h => ht (by simpa using h.2)), dif_neg ht, fget_full]
    have no : ∀ d, mem fi.pol.locs d = true → ∀ cells, fget (fill (full 8) 0 ds) d ≠ .agg cells := fun d hm cells e => by
      rw [hfill, dif_neg (by have := hnl d hm; omega)] at e; cases e
    have S0 : St c E fi.pol (fill (full 8) 0 ds) [] h { tmps := vs ++ Array.replicate (fn.ntmps - vs.size) undef, defers := [] } w := by
      refine ⟨K, fun _ => 0, [], H, FP.refl _ _ _, ⟨fun t ht hm => ?_, fun d h1 h2 cells e => absurd e (no d h2 cells), fun d d' h1 _ h3 _ _ cs _ e1 _ => absurd e1 (no d h3 cs), fun t s off e => (by cases e), by rw [hsz]; exact h256⟩, hsz, .nil, G⟩
      rw [hfill]
      by_cases hlt : t < ds.length
      · rw [dif_pos hlt]
        have := hvs.2 t hlt
        have hv : t < vs.size := by rw [hvs.1]; exact hlt
        simp only [Array.getD_eq_getD_getElem?, Array.getElem?_append_left hv] at this ⊢
        exact this
      · rw [dif_neg hlt]; exact .unk _
    refine .inl ⟨fn, hP, by rw [hb]; rfl, hname, ?_⟩
    refine callsIn_of_wp_marks hP hb trivial ?_
    have hR : RangeOK P c C Y none none E fi.pol n := range_ok hc.gl hC (by show fi.ntmps = fi.pol.nt; exact hpn.symm) h256 hc.fn' rfl
    have fin : ∀ fr1 h1 a1 w1, (results c fi.pol fi.results fr1 h1).map (·, h1) = some (v, h') → St c E fi.pol fr1 [] h1 a1 w1 → LeavesInM (WF none) 0 P fn a1.tmps (fun e w' => ∃ u, e = .returned u ∧ After c base K h w h' v u w') a1.defers .returning w1 := by
      intro fr1 h1 a1 w1 e1 S1
      obtain ⟨K1, LB1, rs1, H1, F1, FR1, hs1, hd1, G1⟩ := S1
      obtain ⟨x, hx, hxe⟩ := Option.map_eq_some_iff.1 e1
      cases hxe
      rw [← hres] at hx
      exact leave_ok hc.ty hx rfl (fun u w' f' H' hv => ⟨u, rfl, K1, f', H', hv, G1⟩) a1.defers rs1 w1 H1 F1 FR1 hd1
    refine evCode_wp hc.ty hc.gl hc.mix hC hY (ro := none) (rd := none) (E := E) h256 hR fi.code _ h _ _ (v, h') _ w _ S0 hok e (fun fr1 h1 a1 w1 e1 S1 => fin fr1 h1 a1 w1 e1 S1) (fun ex fr1 h1 a1 w1 e1 S1 => ?_)
    cases ex with
    | ret => exact fin fr1 h1 a1 w1 e1 S1
    | ex id => cases e1
    | go l => cases e1

/-! ### Pure calls -/
theorem mark_quiet (h : Heap) (x : Nat × Nat) : Quiet h (mark h x) := by
  unfold mark
  split
  · exact Quiet.set _ _ rfl
  · exact Quiet.set _ _ rfl
  · exact Quiet.refl _
theorem Quiet.trans {a b c : Heap} (h : Quiet a b) (h' : Quiet b c) : Quiet a c := fun b' fr ps as_ bd pol st pe e => h _ _ _ _ _ _ _ _ (h' _ _ _ _ _ _ _ _ e)
theorem marks_quiet : ∀ (l : List (Nat × Nat)) (h : Heap), Quiet h (l.foldl mark h)
  | [], h => Quiet.refl h
  | x :: l, h => (mark_quiet h x).trans (marks_quiet l (mark h x))
/-- More is known for good, of new blocks alone. -/
theorem HR.fmExt {base n : Nat} {K : Kn} {h : Heap} {w w' : World} (H : HR base K h w) (H' : HR base K h w') {fm' : FM} (hle : K.fm.le fm') (hn : n = w.heap.size) (hnew : ∀ R x v, fm' R x = some v → K.fm R x = none → n ≤ R) (hc : ∀ R x v, fm' R x = some v → cellAt w' R x = some v ∧ v.oneCell' = true) :
    HR base ⟨fm', K.hp⟩ h w' := by
  have kle : K.le ⟨fm', K.hp⟩ := ⟨hle, HP.le.refl _⟩
  refine ⟨H'.bsz, fun R x v e => (hc R x v e).1, fun R x v e => (hc R x v e).2, H'.dom, fun b o e => (H'.obj b o e).keep kle rfl (fun _ _ _ _ _ _ _ => rfl) (fun _ _ _ => rfl), H'.host, fun b o R lo hi e1 e2 => ?_, H'.dis, H'.mobj, H'.ver⟩
  obtain ⟨h1, h2⟩ := H'.reg b o R lo hi e1 e2
  refine ⟨h1, fun x a1 a2 => ⟨(h2 x a1 a2).1, ?_⟩⟩
  obtain ⟨p, g1, g2, _⟩ := regOf_hp e2
  have hlt := (H.host b o p e1 g1).2
  cases e : fm' R x with
  | none => exact e
  | some v =>
    have := hnew R x v e (h2 x a1 a2).2
    omega
theorem empty_HR {base : Nat} {K : Kn} {h : Heap} {w : World} (H : HR base K h w) : HR w.heap.size ⟨K.fm, noHP⟩ [] w := by
  refine ⟨Nat.le_refl _, H.fm, H.fmone, ?_, ?_, ?_, ?_, ?_, ?_, ?_⟩
  · intro b v p e; cases e
  · intro b o e; cases e
  · intro b o p e; cases e
  · intro b o R lo hi e; cases e
  · intro b b' o o' R lo hi lo' hi' _ e; cases e
  · intro b b' o o' p p' _ e; cases e
  · intro b o v p e; cases e
theorem pure_ok {P : Program} {c : Ctx} {g : Nat} {base : Nat} {K : Kn} {h : Heap} {w : World} (H : HR base K h w) (G : Good c h) {ds ds' : List DV} {vs : Array Value} (hvs : VsR K ds vs) (hd : mapO (deep h deepDepth) ds = some ds')
    {v v' : DV} {h1 : Heap} (hv : deep h1 deepDepth v = some v') (hrun : ∀ (K0 : Kn), HR w.heap.size K0 [] w → VsR K0 ds' vs → Runs P g vs w (After c w.heap.size K0 [] w h1 v)) :
    Runs P g vs w (After c base K h w ((ds.flatMap (reach h deepDepth)).foldl mark h) v') := by
  have hl : ∀ b u, (b, u) ∈ ds.flatMap (reach h deepDepth) → ∃ ver p, K.hp b ver = some p := fun b u hm => by
    rw [List.mem_flatMap] at hm
    obtain ⟨d, hd1, hd2⟩ := hm
    obtain ⟨j, hj, rfl⟩ := List.getElem_of_mem hd1
    exact reach_host H _ _ _ (hvs.2 j hj) b u hd2
  obtain ⟨Hm, Fm, Cm⟩ := marks_ok H _ hl
  have hvs' : VsR ⟨learn K h ((ds.flatMap (reach h deepDepth)).foldl mark h) w, noHP⟩ ds' vs := by
    have hlen := mapO_len hd
    refine ⟨by rw [hvs.1, hlen], fun j hj => ?_⟩
    have hj' : j < ds.length := by omega
    exact deep_ok H (learn_le K h ((ds.flatMap (reach h deepDepth)).foldl mark h) w) _ _ _ (mapO_at hd j hj' hj) (Cm.sub fun x hx => List.mem_flatMap.2 ⟨_, List.getElem_mem hj', hx⟩) _ (hvs.2 j hj')
  have res : ∀ u w', After c w.heap.size ⟨learn K h ((ds.flatMap (reach h deepDepth)).foldl mark h) w, noHP⟩ [] w h1 v u w' → After c base K h w ((ds.flatMap (reach h deepDepth)).foldl mark h) v' u w' := by
    rintro u w' ⟨K1, F1, H1, V1, _⟩
    obtain ⟨H2, F2, C2⟩ := marks_ok H1 _ (fun b u' hm => reach_host H1 _ _ _ V1 b u' hm)
    have hvv := deep_ok H1 (learn_le K1 h1 ((reach h1 deepDepth v).foldl mark h1) w') _ _ _ hv C2 u V1
    have F3 := F1.trans F2
    have nohost : ∀ R, ¬ Host ⟨learn K h ((ds.flatMap (reach h deepDepth)).foldl mark h) w, noHP⟩ [] R := fun R hh => by
      obtain ⟨b, o, p, e, _⟩ := hh; cases e
    have hblk : ∀ R, R < w.heap.size → w'.heap[R]? = w.heap[R]? := fun R hR => F1.blk R hR (nohost R)
    have GR := Hm.grow F1.size hblk F1.os F1.tape F1.output
    refine ⟨⟨learn K1 h1 ((reach h1 deepDepth v).foldl mark h1) w', K.hp⟩, ?_, ?_, hvv.mono (FM.le.refl _) (noHP_le _), (marks_quiet _ h).good G⟩
    · refine Fm.trans ⟨F1.os, F1.tape, F1.output, F1.size, ⟨F3.kle.1, HP.le.refl _⟩, Nat.le_refl _, fun R x u e1 e2 => ?_, fun R hh => .inr hh, fun R x hh => .inr hh, fun R hR _ => hblk R hR, fun R x hR _ => cellAt_congr (hblk R hR) x, fun b _ hn => ⟨rfl, hn⟩⟩
      exact (F3.fmnew R x u e1 e2).elim .inl (fun hh => absurd hh (nohost R))
    · refine Hm.fmExt GR.1 (n := w.heap.size) F3.kle.1 rfl (fun R x u e1 e2 => ?_) (fun R x u e => ⟨H2.fm R x u e, H2.fmone R x u e⟩)
      exact (F3.fmnew R x u e1 e2).elim id (fun hh => absurd hh (nohost R))
  rcases hrun _ (empty_HR Hm) hvs' with ⟨fn, a1, a2, a3, a4⟩ | ⟨u, w', a1, a2⟩
  · exact .inl ⟨fn, a1, a2, a3, a4.mono fun e w' ⟨u, he, hu⟩ => ⟨u, he, res u w' hu⟩⟩
  · exact .inr ⟨u, w', a1, res u w' a2⟩

theorem all_ok {P : Program} {c : Ctx} (hc : CtxOK P c) : ∀ n, CallOK P c (evAll c n).1 ∧ YieldOK P c (evAll c n).2
  | 0 => ⟨(fun base K h w g ds args v h' _ _ _ e => by cases e), (fun base K h w l ds args v h' p _ _ _ e => by cases e)⟩
  | n + 1 => by
    obtain ⟨hC, hY⟩ := all_ok hc n
    refine ⟨fun base K h w g ds args v h' H G hvs e => ?_, round_ok hc.ty hc.gl hc.mix hC hY hc.fn' n⟩
    simp only [evAll] at e
    split at e
    · rename_i ex hex
      obtain ⟨x, hx, hxe⟩ := Option.map_eq_some_iff.1 e
      cases hxe
      have mo : ∀ u w', (w' = w ∧ K.V v u) → After c base K h w h v u w' := by
        rintro u w' ⟨rfl, hv⟩
        exact ⟨K, FP.refl _ _ _, H, hv, G⟩
      rcases hc.ext g ex hex base K h w ds args v H hvs hx with ⟨fn, a1, a2, a3, a4⟩ | ⟨u, w', a1, a2⟩
      · exact .inl ⟨fn, a1, a2, a3, a4.mono fun e w' ⟨u, he, hu⟩ => ⟨u, he, mo u w' hu⟩⟩
      · exact .inr ⟨u, w', a1, mo u w' a2⟩
    · split at e
      · cases e
      · rename_i fi hfi
        split at e
        · split at e
          · cases e
          · rename_i ds' hd
            split at e
            · cases e
            · rename_i v1 h1 hb
              split at e
              · cases e
              · rename_i v' hv
                cases e
                exact pure_ok H G hvs hd hv (fun K0 H0 hv0 => body_ok hc hC hY hfi H0 (fun b fr ps as_ bd pol st pe e => by cases e) hv0 hb)
        · exact body_ok hc hC hY hfi H G hvs e
end Dv
end

section
set_option autoImplicit false
set_option linter.unusedVariables false
set_option linter.unusedSimpArgs false
namespace Dv
open Go

/-! ### A program's context, by tables -/
def tkOf : TypeDesc → TK
  | .bool => .bool
  | .int k => .int k
  | .string => .str
  | .pointer e => .ptr e
  | .slice e => .slice e
  | .array n e => .array n e
  | .struct fs => .struct (fs.toList.map fun f => (f.offset, f.type))
  | .map k e => .map k e
  | .func .. => .func
  | .interface _ => .iface
  | .tuple _ => .tuple
  | _ => .other
theorem tkOf_KR (d : TypeDesc) : KR (tkOf d) d := by
  cases d <;> simp only [tkOf, KR] <;> first
    | rfl
    | exact ⟨_, rfl, rfl⟩
    | exact ⟨_, rfl⟩
    | exact ⟨_, _, _, rfl⟩
    | exact ⟨fun fields h => (by cases h), fun n e h => (by cases h)⟩
def plainB (P : Program) (t : Nat) (d : TypeDesc) : Bool := match d with
  | .struct fs => !P.stoodInHeld t && !P.eqGuardType P.depth t && fs.toList.all fun f => f.name != "_"
  | .array .. => !P.stoodInHeld t && !P.eqGuardType P.depth t
  | _ => false
def tiOf (P : Program) (t : Nat) : TI := match P.info? t, P.underlying t with
  | some q, some d => { kind := tkOf d, size := q.size, zero := (match q.zero with | some z => z.cells.toList.map (ofConst 4) | none => []), bytes := q.bytes, plain := plainB P t d }
  | _, _ => { kind := .other, size := 0, zero := [], bytes := 0 }
def isAggV : Value → Bool
  | .agg _ => true
  | _ => false
def aggD : TypeDesc → Bool
  | .struct _ => true
  | .array .. => true
  | _ => false
def tyB (P : Program) (t : Nat) : Bool := match P.info? t, P.underlying t with
  | some q, some d => (match q.zero with
    | some z => Nat.beq z.cells.size q.size && (aggD d == isAggV z && (z.cells.toList.all (fun v => v.oneCell') && (match d with
      | .struct fs => fs.toList.all fun f => (P.info? f.type).isSome
      | .array _ e => (P.info? e).isSome
      | _ => true)))
    | none => false)
  | _, _ => false
theorem tiOf_ok {P : Program} {t : Nat} (h : tyB P t = true) : TyOK P (tiOf P t) t := by
  unfold tyB at h
  split at h
  · rename_i q d hq hd
    split at h
    · rename_i z hz
      simp only [Bool.and_eq_true, List.all_eq_true, beq_iff_eq] at h
      obtain ⟨h1, h2, h3, h4⟩ := h
      have h1 := Nat.eq_of_beq_eq_true h1
      have e : tiOf P t = { kind := tkOf d, size := q.size, zero := z.cells.toList.map (ofConst 4), bytes := q.bytes, plain := plainB P t d } := by simp [tiOf, hq, hd, hz]
      have ha : (tiOf P t).agg = aggD d := by rw [e]; cases d <;> rfl
      refine ⟨⟨q, d, z, hq, hd, by rw [e]; exact tkOf_KR d, by rw [e], by rw [e], hz, by rw [e], by rw [e]; exact h1, ?_, fun j hj => h3 _ (by simp), fun fields hf f hm => ?_, fun n el hn => ?_⟩, fun hp => ?_⟩
      · rw [ha, h2]
        cases z <;> simp [isAggV]
      · subst hf
        simp only [List.all_eq_true] at h4
        exact h4 f hm
      · subst hn; exact h4
      · rw [e] at hp
        simp only at hp
        unfold plainB at hp
        split at hp
        · rename_i fs
          simp only [Bool.and_eq_true, Bool.not_eq_true', List.all_eq_true, bne_iff_ne] at hp
          refine ⟨hp.1.1, hp.1.2, fun fields hf f hm => ?_⟩
          rw [hd] at hf
          cases hf
          exact hp.2 f hm
        · simp only [Bool.and_eq_true, Bool.not_eq_true'] at hp
          exact ⟨hp.1, hp.2, fun fields hf => (by rw [hd] at hf; cases hf)⟩
        · cases hp
    · cases h
  · cases h

inductive TTree where
  | e
  | n (l : TTree) (k : Nat) (v : TI) (r : TTree)
def TTree.get : TTree → Nat → TI
  | .e, _ => { kind := .other, size := 0, zero := [], bytes := 0 }
  | .n l k v r, i => bif Nat.beq i k then v else bif Nat.blt i k then l.get i else r.get i
def TTree.All (P : Program) : TTree → Prop
  | .e => True
  | .n l k v r => l.All P ∧ (v = tiOf P k ∧ tyB P k = true) ∧ r.All P
theorem TTree.ok {P : Program} : ∀ (t : TTree), t.All P → TIOK P t.get
  | .e, _, i, h => by
    rcases h with h | h
    · simp [TTree.get] at h
    · exact h.elim
  | .n l k v r, ⟨hl, ⟨hv, hb⟩, hr⟩, i, h => by
    simp only [TTree.get] at h ⊢
    cases h1 : Nat.beq i k with
    | true =>
      have := Nat.eq_of_beq_eq_true h1
      subst this
      rw [h1] at h
      simp only [cond_true] at h ⊢
      rw [hv]; exact tiOf_ok hb
    | false =>
      rw [h1] at h
      simp only [cond_false] at h ⊢
      cases h2 : Nat.blt i k with
      | true => rw [h2] at h; exact TTree.ok l hl i h
      | false => rw [h2] at h; exact TTree.ok r hr i h

inductive FTree where
  | e
  | n (l : FTree) (k : Nat) (v : FI) (r : FTree)
def FTree.get : FTree → Nat → Option FI
  | .e, _ => none
  | .n l k v r, i => bif Nat.beq i k then some v else bif Nat.blt i k then l.get i else r.get i
def FnOK (P : Program) (c : Ctx) (g : Nat) (fi : FI) : Prop := ∃ fn, P.funcs[g]? = some fn ∧ fn.body = some fi.code ∧ fn.ntmps = fi.ntmps ∧ fn.results.toList = fi.results ∧ (fn.name == "runtime.NumGoroutine") = false ∧ codeOK c fi.pol fi.ntmps fi.code = true ∧ fi.ntmps ≤ 256
def FTree.All (P : Program) (c : Ctx) : FTree → Prop
  | .e => True
  | .n l k v r => l.All P c ∧ FnOK P c k v ∧ r.All P c
theorem FTree.ok {P : Program} {c : Ctx} : ∀ (t : FTree), t.All P c → ∀ g fi, t.get g = some fi → FnOK P c g fi
  | .e, _, g, fi, h => by cases h
  | .n l k v r, ⟨hl, hv, hr⟩, g, fi, h => by
    simp only [FTree.get] at h
    cases h1 : Nat.beq g k with
    | true =>
      have := Nat.eq_of_beq_eq_true h1
      subst this
      rw [h1] at h
      cases h
      exact hv
    | false =>
      rw [h1] at h
      simp only [cond_false] at h
      cases h2 : Nat.blt g k with
      | true => rw [h2] at h; exact FTree.ok l hl g fi h
      | false => rw [h2] at h; exact FTree.ok r hr g fi h
theorem ctx_ok {P : Program} {c : Ctx} {tt : TTree} {ft : FTree} (h1 : c.ti = tt.get) (h2 : tt.All P) (h3 : c.fn = ft.get) (h4 : ft.All P c) (h5 : c.gl = fun _ => .unk) (h6 : c.ext = fun _ => none) (h7 : P.follows .mixedOrders = true) : CtxOK P c :=
  ⟨h1 ▸ TTree.ok tt h2, fun K g => by rw [h5]; exact .unk _, h7, fun g fi h => by rw [h3] at h; exact FTree.ok ft h4 g fi h, fun f e h => by rw [h6] at h; cases h⟩
end Dv
end
