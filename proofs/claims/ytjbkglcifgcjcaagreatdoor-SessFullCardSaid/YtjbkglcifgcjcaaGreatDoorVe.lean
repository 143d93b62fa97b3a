import Derived.Test.YtjbkglcifgcjcaaGreatDoorVc
import Derived.IntWalk
import Derived.ProofKit
section
set_option autoImplicit false
set_option linter.unusedVariables false
namespace Dv
open Go

/-! ### Frames as functions -/
def treeD : Nat → (Nat → DV) → Nat → Nat → Fr
  | 0, v, i, _ => .lf (v i)
  | d + 1, v, i, s => .nd (treeD d v i (2 * s)) (treeD d v (i + s) (2 * s))
def tree (v : Nat → DV) : Fr := treeD 8 v 0 1
def upd (v : Nat → DV) (n : Nat) (x : DV) : Nat → DV := fun k => bif Nat.beq k n then x else v k
def updO (v : Nat → DV) : Option Nat → DV → Nat → DV
  | some d, x => upd v d x
  | none, _ => v
theorem treeD_congr : ∀ (d : Nat) (v v' : Nat → DV) (i s : Nat), (∀ k, k < 2 ^ d → v (i + k * s) = v' (i + k * s)) → treeD d v i s = treeD d v' i s
  | 0, v, v', i, s, h => by simp only [treeD]; have := h 0 (by simp); simp at this; rw [this]
  | d + 1, v, v', i, s, h => by
    simp only [treeD]
    rw [treeD_congr d v v' i (2 * s) (fun k hk => by have := h (2 * k) (by rw [Nat.pow_succ]; omega); rw [show 2 * k * s = k * (2 * s) by rw [Nat.mul_comm 2 k, Nat.mul_assoc]] at this; exact this),
      treeD_congr d v v' (i + s) (2 * s) (fun k hk => by have := h (2 * k + 1) (by rw [Nat.pow_succ]; omega); rw [show i + (2 * k + 1) * s = i + s + k * (2 * s) by rw [Nat.add_mul, Nat.mul_comm 2 k, Nat.mul_assoc]; omega] at this; exact this)]
theorem fgetD_tree : ∀ (d : Nat) (v : Nat → DV) (i s n : Nat), n < 2 ^ d → fgetD d (treeD d v i s) n = v (i + n * s)
  | 0, v, i, s, n, h => by simp at h; subst h; simp [treeD, fgetD, beq0]
  | d + 1, v, i, s, n, h => by
    have hn : n / 2 < 2 ^ d := by rw [Nat.pow_succ] at h; omega
    simp only [treeD]
    rw [fgetD_step]
    split
    · rw [fgetD_tree d v i (2 * s) (n / 2) hn]
      have : n / 2 * (2 * s) = n * s := by rw [← Nat.mul_assoc]; congr 1; omega
      rw [this]
    · rw [fgetD_tree d v (i + s) (2 * s) (n / 2) hn]
      have : i + s + n / 2 * (2 * s) = i + n * s := by
        rw [← Nat.mul_assoc, show n / 2 * 2 = n - 1 by omega, Nat.add_assoc]
        congr 1
        rw [show n * s = (n - 1 + 1) * s by congr 1; omega, Nat.add_mul]; omega
      rw [this]
theorem fget_tree (v : Nat → DV) (n : Nat) (h : n < 256) : fget (tree v) n = v n := by
  have := fgetD_tree 8 v 0 1 n h
  simpa [fget, tree] using this
theorem fsetD_tree : ∀ (d : Nat) (v : Nat → DV) (i s n : Nat) (x : DV), 0 < s → n < 2 ^ d → fsetD d (treeD d v i s) n x = treeD d (fun k => if k = i + n * s then x else v k) i s
  | 0, v, i, s, n, x, hs, h => by simp at h; subst h; simp [treeD, fsetD]
  | d + 1, v, i, s, n, x, hs, h => by
    have hn : n / 2 < 2 ^ d := by rw [Nat.pow_succ] at h; omega
    simp only [treeD]
    rw [fsetD_step]
    split
    · rename_i he
      have e1 : i + n / 2 * (2 * s) = i + n * s := by rw [← Nat.mul_assoc]; congr 2; omega
      rw [fsetD_tree d v i (2 * s) (n / 2) x (by omega) hn, e1]
      congr 1
      refine treeD_congr d _ _ _ _ (fun k hk => ?_)
      rw [if_neg]
      intro e
      have e2 : i + s + k * (2 * s) = i + (2 * k + 1) * s := by rw [Nat.add_mul, Nat.mul_comm 2 k, Nat.mul_assoc]; omega
      rw [e2] at e
      have := Nat.eq_of_mul_eq_mul_right hs (Nat.add_left_cancel e)
      omega
    · rename_i he
      have e1 : i + s + n / 2 * (2 * s) = i + n * s := by
        rw [← Nat.mul_assoc, show n / 2 * 2 = n - 1 by omega, Nat.add_assoc]
        congr 1
        rw [show n * s = (n - 1 + 1) * s by congr 1; omega, Nat.add_mul]; omega
      rw [fsetD_tree d v (i + s) (2 * s) (n / 2) x (by omega) hn, e1]
      congr 1
      refine treeD_congr d _ _ _ _ (fun k hk => ?_)
      rw [if_neg]
      intro e
      have e2 : i + k * (2 * s) = i + (2 * k) * s := by rw [Nat.mul_comm 2 k, Nat.mul_assoc]
      rw [e2] at e
      have := Nat.eq_of_mul_eq_mul_right hs (Nat.add_left_cancel e)
      omega
theorem fset_tree (v : Nat → DV) (n : Nat) (x : DV) (h : n < 256) : fset (tree v) n x = tree (upd v n x) := by
  have := fsetD_tree 8 v 0 1 n x (by omega) h
  simp only [fset, tree, this]
  refine treeD_congr 8 _ _ _ _ (fun k hk => ?_)
  simp only [upd, Nat.zero_add, Nat.mul_one]
  by_cases hk : k = n
  · subst hk; simp
  · have : Nat.beq k n = false := by
      cases e : Nat.beq k n with
      | false => rfl
      | true => exact absurd (Nat.eq_of_beq_eq_true e) hk
    rw [if_neg hk, this]; rfl
theorem full_tree : full 8 = tree fun _ => .unk := by
  have : ∀ (d i s : Nat), full d = treeD d (fun _ => .unk) i s := by
    intro d
    induction d with
    | zero => intro i s; rfl
    | succ d ih => intro i s; simp only [full, treeD]; rw [← ih, ← ih]
  exact this 8 0 1
theorem fill_tree : ∀ (l : List DV) (v : Nat → DV) (i : Nat), i + l.length ≤ 256 → fill (tree v) i l = tree (l.foldl (fun (p : Nat × (Nat → DV)) x => (p.1 + 1, upd p.2 p.1 x)) (i, v)).2
  | [], v, i, _ => rfl
  | x :: l, v, i, h => by
    simp at h
    simp only [fill, List.foldl_cons]
    rw [fset_tree v i x (by omega), fill_tree l _ (i + 1) (by omega)]
def dlt (o : Oper) : Bool := match o.dst with
  | some d => Nat.blt d 256
  | none => true
theorem fput_tree {o : Oper} (hd : dlt o = true) (v : Nat → DV) (x : DV) : fput (tree v) o.dst x = tree (updO v o.dst x) := by
  unfold dlt at hd
  cases ho : o.dst with
  | none => rfl
  | some d => rw [ho] at hd; exact fset_tree v d x (blt_lt hd)

section
variable {c : Ctx} {C Y : Nat → List DV → Heap → Res} {pol : Pol} {rd : Option Nat} {N : Nat} {fr : Fr} {h : Heap} {K : Kont} {E : Ex → Kont} {r : DV × Heap}
/-! ### Code -/
theorem ev_seq {a b : Code} (e : evCode c C Y pol rd N a fr h (fun fr h => evCode c C Y pol rd N b fr h K E) E = some r) : evCode c C Y pol rd N (.seq a b) fr h K E = some r := e
theorem ev_reg {id : Nat} {ops : Array Oper} (e : evOps c C Y pol ops ops.toList fr [] h K = some r) : evCode c C Y pol rd N (.region id ops false) fr h K E = some r := e
theorem ev_draw {id : Nat} {ops : Array Oper} {plan : List (Nat × List Nat)} (hp : assoc pol.plan id = some plan) (e : evPlan c C Y pol ops plan fr [] h K = some r) : evCode c C Y pol rd N (.region id ops true) fr h K E = some r := by
  simp only [evCode, hp]; exact e
theorem ev_skip (e : K fr h = some r) : evCode c C Y pol rd N .skip fr h K E = some r := e
theorem ev_block {id : Nat} {b : Code} (e : evCode c C Y pol rd N b fr h K (fun e => match e with | .ex i => bif i == id then K else E (.ex i) | e => E e) = some r) : evCode c C Y pol rd N (.block id b) fr h K E = some r := e
theorem ev_loop {b : Code} (e : evLoop (fun fr h K' => evCode c C Y pol rd N b fr h K' E) N fr h = some r) : evCode c C Y pol rd N (.loop b) fr h K E = some r := e
theorem ev_exit {id : Nat} (e : E (.ex id) fr h = some r) : evCode c C Y pol rd N (.exit id) fr h K E = some r := e
theorem ev_ret (e : E .ret fr h = some r) : evCode c C Y pol rd N .ret fr h K E = some r := e
theorem ev_cond {x : Operand} {a b : Code} {t : Bool} (hx : rho c pol fr [] x = .bool t) (e : (bif t then evCode c C Y pol rd N a fr h K E else evCode c C Y pol rd N b fr h K E) = some r) : evCode c C Y pol rd N (.cond x a b) fr h K E = some r := by
  simp only [evCode, hx]; exact e
theorem ev_true {x : Operand} {a b : Code} {t : Bool} (hx : rho c pol fr [] x = .bool t) (ht : t = true) (e : evCode c C Y pol rd N a fr h K E = some r) : evCode c C Y pol rd N (.cond x a b) fr h K E = some r := by
  subst ht; exact ev_cond hx e
theorem ev_false {x : Operand} {a b : Code} {t : Bool} (hx : rho c pol fr [] x = .bool t) (ht : t = false) (e : evCode c C Y pol rd N b fr h K E = some r) : evCode c C Y pol rd N (.cond x a b) fr h K E = some r := by
  subst ht; exact ev_cond hx e

/-! ### Operations, one by one -/
variable {ops : Array Oper} {o : Oper} {rm : Rm} {v : Nat → DV}
theorem evOps_stepV {l : List Oper} : evOps c C Y pol ops (o :: l) fr rm h K = match stepV c C Y pol ops o fr rm h with | some out => evOps c C Y pol ops l (out.fr o fr) (out.rm o rm) (out.hp h) K | none => none := by
  simp only [evOps, stepV]
  cases hg : o.guard with
  | none => simp only; rw [evOper_eq]; rfl
  | some g =>
    obtain ⟨j, want⟩ := g
    simp only
    cases ht : (ops[j]?).bind (·.dst) with
    | none => rfl
    | some t =>
      simp only
      split
      · rename_i b _
        cases hb : (b == want)
        · rfl
        · simp only [cond_true]; rw [evOper_eq]; rfl
      · rfl
      · rfl
theorem o_nil (e : K (tree v) h = some r) : evOps c C Y pol ops [] (tree v) rm h K = some r := e
theorem o_val {l : List Oper} {x : DV} {h' : Heap} (hs : stepV c C Y pol ops o (tree v) rm h = some (.val x h')) (hd : dlt o = true) (e : evOps c C Y pol ops l (tree (updO v o.dst x)) (rmDel rm o.dst) h' K = some r) : evOps c C Y pol ops (o :: l) (tree v) rm h K = some r := by
  rw [evOps_stepV, hs]
  simp only [Out.fr, Out.rm, Out.hp]
  rw [fput_tree hd]; exact e
theorem o_pt {l : List Oper} {p : Nat × Nat} {d : Nat} (hs : stepV c C Y pol ops o (tree v) rm h = some (.pt p)) (hd : o.dst = some d) (hl : Nat.blt d 256 = true) (e : evOps c C Y pol ops l (tree (upd v d .unk)) ((d, p) :: rmDel rm (some d)) h K = some r) : evOps c C Y pol ops (o :: l) (tree v) rm h K = some r := by
  rw [evOps_stepV, hs]
  simp only [Out.fr, Out.rm, Out.hp, hd, fput]
  rw [fset_tree _ _ _ (blt_lt hl)]; exact e
theorem o_loc {l : List Oper} {cs : List DV} (hs : stepV c C Y pol ops o (tree v) rm h = some (.loc cs)) (hd : dlt o = true) (e : evOps c C Y pol ops l (tree (updO v o.dst (.agg cs))) rm h K = some r) : evOps c C Y pol ops (o :: l) (tree v) rm h K = some r := by
  rw [evOps_stepV, hs]
  simp only [Out.fr, Out.rm, Out.hp]
  rw [fput_tree hd]; exact e
theorem o_wr {l : List Oper} {s : Nat} {cs : List DV} (hs : stepV c C Y pol ops o (tree v) rm h = some (.wr s cs)) (hd : dlt o = true) (hl : Nat.blt s 256 = true) (e : evOps c C Y pol ops l (tree (updO (upd v s (.agg cs)) o.dst (.tup []))) (rmDel rm o.dst) h K = some r) : evOps c C Y pol ops (o :: l) (tree v) rm h K = some r := by
  rw [evOps_stepV, hs]
  simp only [Out.fr, Out.rm, Out.hp]
  rw [fset_tree _ _ _ (blt_lt hl), fput_tree hd]; exact e
theorem p_nil (e : K (tree v) h = some r) : evPlan c C Y pol ops [] (tree v) rm h K = some r := e
theorem p_val {i : Nat} {rc : List Nat} {l : List (Nat × List Nat)} {x : DV} {h' : Heap} (ho : ops[i]? = some o) (hs : stepV c C Y pol ops o (tree v) rm h = some (.val x h')) (hd : dlt o = true) (hr : rc.all (reOK c C Y pol ops (tree (updO v o.dst x)) (rmDel rm o.dst) h') = true)
    (e : evPlan c C Y pol ops l (tree (updO v o.dst x)) (rmDel rm o.dst) h' K = some r) : evPlan c C Y pol ops ((i, rc) :: l) (tree v) rm h K = some r := by
  simp only [evPlan, ho, hs, Out.fr, Out.rm, Out.hp]
  rw [fput_tree hd, hr]; exact e
theorem p_pt {i : Nat} {rc : List Nat} {l : List (Nat × List Nat)} {p : Nat × Nat} {d : Nat} (ho : ops[i]? = some o) (hs : stepV c C Y pol ops o (tree v) rm h = some (.pt p)) (hd : o.dst = some d) (hl : Nat.blt d 256 = true)
    (hr : rc.all (reOK c C Y pol ops (tree (upd v d .unk)) ((d, p) :: rmDel rm (some d)) h) = true) (e : evPlan c C Y pol ops l (tree (upd v d .unk)) ((d, p) :: rmDel rm (some d)) h K = some r) : evPlan c C Y pol ops ((i, rc) :: l) (tree v) rm h K = some r := by
  simp only [evPlan, ho, hs, Out.fr, Out.rm, Out.hp, hd, fput]
  rw [fset_tree _ _ _ (blt_lt hl), hr]; exact e
theorem p_loc {i : Nat} {rc : List Nat} {l : List (Nat × List Nat)} {cs : List DV} (ho : ops[i]? = some o) (hs : stepV c C Y pol ops o (tree v) rm h = some (.loc cs)) (hd : dlt o = true) (hr : rc.all (reOK c C Y pol ops (tree (updO v o.dst (.agg cs))) rm h) = true)
    (e : evPlan c C Y pol ops l (tree (updO v o.dst (.agg cs))) rm h K = some r) : evPlan c C Y pol ops ((i, rc) :: l) (tree v) rm h K = some r := by
  simp only [evPlan, ho, hs, Out.fr, Out.rm, Out.hp]
  rw [fput_tree hd, hr]; exact e
theorem p_wr {i : Nat} {rc : List Nat} {l : List (Nat × List Nat)} {s : Nat} {cs : List DV} (ho : ops[i]? = some o) (hs : stepV c C Y pol ops o (tree v) rm h = some (.wr s cs)) (hd : dlt o = true) (hl : Nat.blt s 256 = true)
    (hr : rc.all (reOK c C Y pol ops (tree (updO (upd v s (.agg cs)) o.dst (.tup []))) (rmDel rm o.dst) h) = true) (e : evPlan c C Y pol ops l (tree (updO (upd v s (.agg cs)) o.dst (.tup []))) (rmDel rm o.dst) h K = some r) : evPlan c C Y pol ops ((i, rc) :: l) (tree v) rm h K = some r := by
  simp only [evPlan, ho, hs, Out.fr, Out.rm, Out.hp]
  rw [fset_tree _ _ _ (blt_lt hl), fput_tree hd, hr]; exact e

/-! ### Guards -/
variable {out : Out}
theorem s_ng (hg : o.guard = none) (e : evVal c C Y pol o fr rm h = some out) : stepV c C Y pol ops o fr rm h = some out := by simp only [stepV, hg]; exact e
theorem s_gt {j t : Nat} {want : Bool} (hg : o.guard = some (j, want)) (ht : (ops[j]?).bind (·.dst) = some t) (hb : rho c pol fr rm (.tmp t) = .bool want) (e : evVal c C Y pol o fr rm h = some out) : stepV c C Y pol ops o fr rm h = some out := by
  simp only [stepV, hg, ht, hb]; cases want <;> exact e
theorem s_gf {j t : Nat} {want b : Bool} (hg : o.guard = some (j, want)) (ht : (ops[j]?).bind (·.dst) = some t) (hb : rho c pol fr rm (.tmp t) = .bool b) (hw : (b == want) = false) : stepV c C Y pol ops o fr rm h = some (.val (.tup []) h) := by
  simp only [stepV, hg, ht, hb, hw, cond_false]
theorem s_gs {j t : Nat} {want : Bool} (hg : o.guard = some (j, want)) (ht : (ops[j]?).bind (·.dst) = some t) (hb : rho c pol fr rm (.tmp t) = .tup []) : stepV c C Y pol ops o fr rm h = some (.val (.tup []) h) := by
  simp only [stepV, hg, ht, hb]

/-! ### Kinds of operations that look at the heap, or decide -/
theorem v_load_ptr {t b off : Nat} {a : Operand} {cells : List DV} {fz : Bool} {x : DV} (ho : o.op = .load t a) (hl : locOp pol rm a = none) (ha : rho c pol fr rm a = .ptr b off) (hh : hget h b = some (.obj cells fz)) (hv : rdCells (c.ti t).agg (c.ti t).size cells off = some x) :
    evVal c C Y pol o fr rm h = some (.val x h) := by simp [evVal, ho, hl, evGen, ha, dLoad, hh, hv]
theorem v_load_eptr {t b vv i off sz fz : Nat} {a : Operand} {es : List (List DV)} {cells : List DV} {x : DV} (ho : o.op = .load t a) (hl : locOp pol rm a = none) (ha : rho c pol fr rm a = .eptr b vv i off) (hh : hget h b = some (.row sz es vv fz)) (he : es[i]? = some cells) (hv : rdCells (c.ti t).agg (c.ti t).size cells off = some x) :
    evVal c C Y pol o fr rm h = some (.val x h) := by simp [evVal, ho, hl, evGen, ha, dLoad, hh, he, hv]
theorem v_store_ptr {t b off : Nat} {a y : Operand} {cells cs : List DV} {x : DV} (ho : o.op = .store t a y) (hl : locOp pol rm a = none) (ha : rho c pol fr rm a = .ptr b off) (hy : rho c pol fr rm y = x) (hk : okVal (c.ti t) x = true) (hh : hget h b = some (.obj cells false)) (hv : wrCells cells off x.cells = some cs) :
    evVal c C Y pol o fr rm h = some (.val (.tup []) (hset h b (.obj cs false))) := by subst hy; simp [evVal, ho, hl, evGen, ha, dStore, hh, hk, hv]
theorem v_store_eptr {t b vv i off sz fz : Nat} {a y : Operand} {es : List (List DV)} {cells cs : List DV} {x : DV} (ho : o.op = .store t a y) (hl : locOp pol rm a = none) (ha : rho c pol fr rm a = .eptr b vv i off) (hy : rho c pol fr rm y = x) (hk : okVal (c.ti t) x = true) (hh : hget h b = some (.row sz es vv fz))
    (hf : fz ≤ i) (he : es[i]? = some cells) (hv : wrCells cells off x.cells = some cs) : evVal c C Y pol o fr rm h = some (.val (.tup []) (hset h b (.row sz (es.set i cs) vv fz))) := by subst hy; simp [evVal, ho, hl, evGen, ha, dStore, hh, hk, he, hv, hf]
theorem v_index_sl {t e b vv z off len : Nat} {x i : Operand} {k : IntKind} {n : Int} (ho : o.op = .indexAddr t x i) (hl : locOp pol rm x = none) (hx : rho c pol fr rm x = .sl b vv z off len) (hi : rho c pol fr rm i = .int k n) (hk : (c.ti t).kind = .slice e) (hz : (Nat.beq z (c.ti e).size && Nat.ble 1 z) = true)
    (h0 : 0 ≤ n) (h1 : n < (len : Int)) : evVal c C Y pol o fr rm h = some (.val (.eptr b vv (off + n.toNat) 0) h) := by
  have : inRange n len = true := decide_eq_true ⟨h0, h1⟩
  simp [evVal, ho, hl, evGen, hx, hi, dIndexAddr, hk, this, hz]
theorem v_index_dsl {t e z : Nat} {es : List (List DV)} {cells : List DV} {x i : Operand} {k : IntKind} {n : Int} (ho : o.op = .indexAddr t x i) (hl : locOp pol rm x = none) (hx : rho c pol fr rm x = .dsl z es) (hi : rho c pol fr rm i = .int k n) (hk : (c.ti t).kind = .slice e) (hz : (Nat.beq z (c.ti e).size && Nat.ble 1 z) = true)
    (h0 : 0 ≤ n) (h1 : n < (es.length : Int)) (he : es[n.toNat]? = some cells) : evVal c C Y pol o fr rm h = some (.val (.dptr cells 0) h) := by
  have : inRange n es.length = true := decide_eq_true ⟨h0, h1⟩
  simp [evVal, ho, hl, evGen, hx, hi, dIndexAddr, hk, this, hz, he]
theorem v_bin {op : BinOp} {t y : Nat} {x z : Operand} {a b d : DV} (ho : o.op = .binOp op t x z y) (hx : rho c pol fr rm x = a) (hz : rho c pol fr rm z = b) (hd : dBin c (c.ti t) (isLit x || isLit z) op a b = some d) : evVal c C Y pol o fr rm h = some (.val d h) := by
  subst hx; subst hz; simp [evVal, ho, evGen, hd]
theorem v_call {k : Go.Call} {f : Operand} {g : Nat} {first caps args : List DV} {x : DV} {h' : Heap} (ho : o.op = .call k) (hf : k.callee = .value f) (hr : rho c pol fr rm f = .fn (.func g) first caps) (ha : first ++ (k.args.toList.map (rho c pol fr rm) ++ caps) = args) (hc : C g args h = some (x, h')) :
    evVal c C Y pol o fr rm h = some (.val x h') := by subst ha; simp [evVal, ho, evGen, evCallee, hf, hr, hc]
theorem v_yield {k : Go.Call} {f : Operand} {l : Nat} {args : List DV} {x : DV} {h' : Heap} (ho : o.op = .call k) (hf : k.callee = .value f) (hr : rho c pol fr rm f = .fn (.yield l) [] []) (ha : k.args.toList.map (rho c pol fr rm) = args) (hc : Y l args h = some (x, h')) :
    evVal c C Y pol o fr rm h = some (.val x h') := by subst ha; simp [evVal, ho, evGen, evCallee, hf, hr, hc]
theorem v_app {k : Go.Call} {s x : Operand} {t t' : Nat} {a b d : DV} {h' : Heap} (ho : o.op = .call k) (hf : k.callee = .builtin .append) (ha : k.args.toList = [s, x]) (ht : k.argTypes.toList = [t, t']) (hs : rho c pol fr rm s = a) (hx : rho c pol fr rm x = b) (hk : (match (c.ti t').kind with | .slice _ | .str => true | _ => false) = true)
    (hd : dAppend c (c.ti t) a b h = some (d, h')) : evVal c C Y pol o fr rm h = some (.val d h') := by
  subst hs; subst hx
  simp only [evVal, ho, evGen, evCallee, hf, ha, ht, List.map_cons, List.map_nil]
  split at hk <;> simp_all
theorem v_gen {x : DV} {h' : Heap} (ho : evVal c C Y pol o fr rm h = (match evGen c C Y pol o (rho c pol fr rm) h with | some (v, h') => some (Out.val v h') | none => none)) (hd : evGen c C Y pol o (rho c pol fr rm) h = some (x, h')) : evVal c C Y pol o fr rm h = some (.val x h') := by rw [ho, hd]

/-! ### Numbers -/
theorem b_add {i : TI} {lit : Bool} {a b s : Int} (h : IntKind.i64.wrap (a + b) = s) : dBin c i lit .add (.int .i64 a) (.int .i64 b) = some (.int .i64 s) := by subst h; rfl
theorem b_sub {i : TI} {lit : Bool} {a b s : Int} (h : IntKind.i64.wrap (a - b) = s) : dBin c i lit .sub (.int .i64 a) (.int .i64 b) = some (.int .i64 s) := by subst h; rfl
theorem wrap_id {x : Int} (h1 : -9223372036854775808 ≤ x) (h2 : x < 9223372036854775808) : IntKind.i64.wrap x = x := IntWalk.i64_in x ⟨h1, by omega⟩
end
theorem evAll_H {c : Ctx} {f n : Nat} {fi : FI} {args : List DV} {h : Heap} {r : DV × Heap} (h1 : c.ext f = none) (h2 : c.fn f = some fi) (h3 : fi.pol.mode = .H) (e : evBody c (evAll c n).1 (evAll c n).2 n fi args h = some r) : (evAll c (n + 1)).1 f args h = some r := by
  simp only [evAll, h1, h2, h3]; exact e
theorem evBody_tree {c : Ctx} {C Y : Nat → List DV → Heap → Res} {n : Nat} {fi : FI} {args : List DV} {h : Heap} {r : DV × Heap} {v : Nat → DV} (h1 : ((fi.pol.locs.any fun t => Nat.blt t args.length) || (Nat.blt fi.ntmps args.length || !Nat.beq fi.pol.nt fi.ntmps)) = false) (h2 : Nat.ble args.length 256 = true)
    (h3 : (args.foldl (fun (p : Nat × (Nat → DV)) x => (p.1 + 1, upd p.2 p.1 x)) (0, fun _ => .unk)).2 = v)
    (e : evCode c C Y fi.pol none n fi.code (tree v) h (fun fr h => (results c fi.pol fi.results fr h).map (·, h)) (fun e => match e with | .ret => fun fr h => (results c fi.pol fi.results fr h).map (·, h) | _ => fun _ _ => none) = some r) : evBody c C Y n fi args h = some r := by
  subst h3
  unfold evBody
  rw [h1]
  simp only [cond_false]
  rw [full_tree, fill_tree args _ 0 (by simpa using Nat.le_of_ble_eq_true h2)]
  exact e
end Dv
namespace Dv
open Go
theorem evAll_P {c : Ctx} {f n : Nat} {fi : FI} {args args' : List DV} {h h1 h2 : Heap} {v v' : DV} (a1 : c.ext f = none) (a2 : c.fn f = some fi) (a3 : fi.pol.mode = .P) (a4 : mapO (deep h deepDepth) args = some args') (a5 : evBody c (evAll c n).1 (evAll c n).2 n fi args' [] = some (v, h1))
    (a6 : deep h1 deepDepth v = some v') (a7 : (args.flatMap (reach h deepDepth)).foldl mark h = h2) : (evAll c (n + 1)).1 f args h = some (v', h2) := by
  simp only [evAll, a1, a2, a3, a4, a5, a6, a7]
end Dv
namespace Dv
open Go
theorem el_step {body : Fr → Heap → Kont → Res} {n : Nat} {fr : Fr} {h : Heap} {r : DV × Heap} (e : body fr h (fun fr h => evLoop body n fr h) = some r) : evLoop body (n + 1) fr h = some r := e
theorem as_upd {v : Nat → DV} {n : Nat} {x : DV} (h : v n = x) : v = upd v n x := by
  funext k
  simp only [upd]
  cases e : Nat.beq k n with
  | true => have := Nat.eq_of_beq_eq_true e; subst this; exact h
  | false => rfl
/-- The body of the first loop. -/
def loopBody : Code → Code
  | .loop b => b
  | .block _ b => loopBody b
  | .seq a b => match loopBody a with
    | .skip => loopBody b
    | c => c
  | _ => .skip
end Dv
end

section
set_option autoImplicit false
set_option linter.unusedVariables false
namespace Dv
open Go
/-- What was there reads as it did. -/
structure Kept (W W' : World) : Prop where
  os : W'.os = W.os
  output : W'.output = W.output
  size : W.heap.size ≤ W'.heap.size
  blk : ∀ R, R < W.heap.size → W'.heap[R]? = W.heap[R]?
theorem Kept.butR {W W' : World} (k : Kept W W') (may : MemPlace → Prop) : W.keptBut W' may := by
  refine ⟨k.os, k.output, fun i hi => ?_⟩
  rw [k.blk i hi]
  cases hb : W.heap[i]? with
  | none => rfl
  | some o =>
    cases o with
    | cells c t f => exact ⟨rfl, rfl, rfl, fun _ _ => rfl⟩
    | map es cl => exact .inr ⟨rfl, rfl⟩
    | _ => rfl
/-- The cells of the world at the entry, by their content. -/
noncomputable def fmOf (W : World) : FM := fun R x => match cellAt W R x with
  | some v => bif v.oneCell' then some v else none
  | none => none
theorem start_HR (W : World) : HR W.heap.size ⟨fmOf W, noHP⟩ [] W := by
  refine ⟨Nat.le_refl _, ?_, ?_, ?_, ?_, ?_, ?_, ?_, ?_, ?_⟩
  · intro R x v e
    simp only [fmOf] at e
    split at e
    · rename_i u hu
      cases hb : u.oneCell' with
      | false => rw [hb] at e; cases e
      | true => rw [hb] at e; cases e; exact hu
    · cases e
  · intro R x v e
    simp only [fmOf] at e
    split at e
    · rename_i u hu
      cases hb : u.oneCell' with
      | false => rw [hb] at e; cases e
      | true => rw [hb] at e; cases e; exact hb
    · cases e
  · intro b v p e; cases e
  · intro b o e; cases e
  · intro b o p e; cases e
  · intro b o R lo hi e; cases e
  · intro b b' o o' R lo hi lo' hi' _ e; cases e
  · intro b b' o o' p p' _ e; cases e
  · intro b o v p e; cases e
theorem good_nil (c : Ctx) : Good c [] := by intro b fr ps as_ bd pol st pe e; cases e
/-- THE LIFT: what the evaluator answers from an empty heap, the program answers. -/
theorem lift {P : Program} {c : Ctx} (hc : CtxOK P c) {n g : Nat} {ds : List DV} {args : Array Value} {v : DV} {h' : Heap} {W : World} (hfn : ∃ fi, c.fn g = some fi) (hv : VsR ⟨fmOf W, noHP⟩ ds args) (e : (evAll c n).1 g ds [] = some (v, h')) :
    Calls P g args W fun x W' => ∃ u K', x = .returned u ∧ Kn.V K' v u ∧ Kept W W' := by
  have hr := (all_ok hc n).1 W.heap.size _ [] W g ds args v h' (start_HR W) (good_nil c) hv e
  have nohost : ∀ R, ¬ Host ⟨fmOf W, noHP⟩ [] R := fun R hh => by obtain ⟨b, o, p, e, _⟩ := hh; cases e
  obtain ⟨fi, hfi⟩ := hfn
  obtain ⟨fn0, b1, b2, b3⟩ := hc.fn' g fi hfi
  rcases hr with ⟨fn, a1, a2, a3, a4⟩ | ⟨u, w', a1, a2⟩
  · have a5 : Calls P g args W _ := callsIn_wide.1 a4
    refine a5.mono fun x W' ⟨u, hx, K', F, H, V, _⟩ => ⟨u, K', hx, V, F.os, F.output, F.size, fun R hR => F.blk R hR (nohost R)⟩
  · rw [run_callFunc_body b1 b3 b2] at a1
    cases a1
end Dv
end
