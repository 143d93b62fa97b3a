import Derived.Test.YtjbkglcifgcjcaaGreatDoorVe
import Derived.Test.YtjbkglcifgcjcaaGreatDoorKb
import Derived.Test.YtjbkglcifgcjcaaGreatDoorKa
section
set_option maxRecDepth 1000000
set_option linter.unusedVariables false
namespace TA
open Go Dv
theorem lt_t {a b : Int} (h : a < b) : some (DV.bool (decide (a < b))) = some (DV.bool true) := by rw [decide_eq_true h]
theorem lt_f {a b : Int} (h : ¬ a < b) : some (DV.bool (decide (a < b))) = some (DV.bool false) := by rw [decide_eq_false h]
theorem le_t {a b : Int} (h : a ≤ b) : some (DV.bool (decide (a ≤ b))) = some (DV.bool true) := by rw [decide_eq_true h]
theorem le_f {a b : Int} (h : ¬ a ≤ b) : some (DV.bool (decide (a ≤ b))) = some (DV.bool false) := by rw [decide_eq_false h]
theorem HS_hi (k : Nat) (h : 64 ≤ k) : HS (min k 64) = HS 64 := by rw [Nat.min_eq_right h]
attribute [local irreducible] Dv.evCode Dv.evOps Dv.evPlan Dv.evLoop Dv.stepV
theorem sf_loop (n : Nat) (hn : n ≤ 100) (C Y : Nat → List DV → Heap → Res) (hA : ∀ k, k < 64 → C 16 [.ptr 12 0, .agg (pt k)] (HS k) = some (.int .i64 0, HT k)) (hB : ∀ k, k < 64 → C 16 [.ptr 12 0, .agg (pt k)] (HT k) = some (.int .i64 37, HS (k + 1)))
    (hC : ∀ k, k < 36 → C 16 [.ptr 12 0, .agg (pt (64 + k))] (HS 64) = some (.int .i64 13, HS 64)) (E : Ex → Kont) (r : DV × Heap)
    (hK : ∀ v, v 3 = .ptr 12 0 → v 0 = .int .i64 n → E (.ex 0) (tree v) (HS (min n 64)) = some r) :
    ∀ (m k : Nat) (v : Nat → DV), v 28 = .int .i64 k → v 27 = .int .i64 n → v 3 = .ptr 12 0 → v 0 = .int .i64 n → k ≤ n → n < m + k →
      evLoop (fun fr h K' => evCode ctx C Y pol6 none 200 (loopBody fi6.code) fr h K' E) m (tree v) (HS (min k 64)) = some r
  | 0, k, v, h28, h27, h3, h0, hk, hm => by omega
  | m + 1, k, v, h28, h27, h3, h0, hk, hm => by
    refine el_step ?_
    have hwrap : IntKind.i64.wrap ((k : Int) + 1) = ((k + 1 : Nat) : Int) := by rw [wrap_id (by omega) (by omega)]; omega
    have hv : v = upd (upd (upd (upd v 28 (.int .i64 k)) 27 (.int .i64 n)) 3 (.ptr 12 0)) 0 (.int .i64 n) := by
      rw [← as_upd h28, ← as_upd h27, ← as_upd h3, ← as_upd h0]
    rw [hv]
    refine ev_seq ?_
    refine ev_reg ?_
    by_cases hlt : (k : Int) < (n : Int)
    · refine o_val (s_ng rfl (v_bin rfl rfl rfl (lt_t hlt))) rfl ?_
      refine o_nil ?_
      refine ev_seq ?_
      refine ev_true rfl rfl ?_
      refine ev_skip ?_
      refine ev_seq ?_
      refine ev_block ?_
      refine ev_seq ?_
      refine ev_reg ?_
      refine o_val (s_ng rfl rfl) rfl ?_
      refine o_val (s_ng rfl rfl) rfl ?_
      refine o_nil ?_
      refine ev_seq ?_
      refine ev_reg ?_
      refine o_val (s_ng rfl rfl) rfl ?_
      refine o_val (s_ng rfl rfl) rfl ?_
      refine o_loc (s_ng rfl rfl) rfl ?_
      refine o_wr (s_ng rfl rfl) rfl rfl ?_
      refine o_nil ?_
      refine ev_seq ?_
      refine ev_reg ?_
      refine o_val (s_ng rfl rfl) rfl ?_
      refine o_val (s_ng rfl rfl) rfl ?_
      by_cases h64 : k < 64
      · have hmin : min k 64 = k := Nat.min_eq_left (by omega)
        have hmin1 : min (k + 1) 64 = k + 1 := Nat.min_eq_left (by omega)
        rw [hmin]
        refine o_val (s_ng rfl (v_call rfl rfl rfl rfl (hA k h64))) rfl ?_
        refine o_val (s_ng rfl rfl) rfl ?_
        refine o_nil ?_
        refine ev_seq ?_
        refine ev_reg ?_
        refine o_val (s_ng rfl rfl) rfl ?_
        refine o_val (s_ng rfl (v_bin rfl rfl rfl (lt_t (show (k : Int) < 64 by omega)))) rfl ?_
        refine o_val (s_ng rfl rfl) rfl ?_
        refine o_val (s_gt rfl rfl rfl rfl) rfl ?_
        refine o_val (s_gt rfl rfl rfl rfl) rfl ?_
        refine o_val (s_gt rfl rfl rfl rfl) rfl ?_
        refine o_val (s_gt rfl rfl rfl rfl) rfl ?_
        refine o_val (s_gt rfl rfl rfl rfl) rfl ?_
        refine o_val (s_gt rfl rfl rfl (v_call rfl rfl rfl rfl (hB k h64))) rfl ?_
        refine o_val (s_gt rfl rfl rfl rfl) rfl ?_
        refine o_val (s_gt rfl rfl rfl rfl) rfl ?_
        refine o_val (s_ng rfl rfl) rfl ?_
        refine o_val (s_ng rfl rfl) rfl ?_
        refine o_val (s_gt rfl rfl rfl rfl) rfl ?_
        refine o_val (s_gt rfl rfl rfl (v_bin rfl rfl rfl (le_f (show ¬ (64 : Int) ≤ k by omega)))) rfl ?_
        refine o_val (s_gt rfl rfl rfl rfl) rfl ?_
        refine o_val (s_gf rfl rfl rfl rfl) rfl ?_
        refine o_val (s_gf rfl rfl rfl rfl) rfl ?_
        refine o_val (s_gt rfl rfl rfl rfl) rfl ?_
        refine o_val (s_ng rfl rfl) rfl ?_
        refine o_nil ?_
        refine ev_false rfl rfl ?_
        refine ev_skip ?_
        refine ev_reg ?_
        refine o_val (s_ng rfl (v_bin rfl rfl rfl (b_add hwrap))) rfl ?_
        refine o_val (s_ng rfl rfl) rfl ?_
        refine o_nil ?_
        have := sf_loop n hn C Y hA hB hC E r hK m (k + 1)
        rw [hmin1] at this
        exact this _ rfl rfl rfl rfl (by omega) (by omega)
      · have hmin : min k 64 = 64 := Nat.min_eq_right (by omega)
        have hmin1 : min (k + 1) 64 = 64 := Nat.min_eq_right (by omega)
        rw [hmin]
        have hC' : C 16 [.ptr 12 0, .agg (pt k)] (HS 64) = some (.int .i64 13, HS 64) := by
          have := hC (k - 64) (by omega)
          rwa [show 64 + (k - 64) = k by omega] at this
        refine o_val (s_ng rfl (v_call rfl rfl rfl rfl hC')) rfl ?_
        refine o_val (s_ng rfl rfl) rfl ?_
        refine o_nil ?_
        refine ev_seq ?_
        refine ev_reg ?_
        refine o_val (s_ng rfl rfl) rfl ?_
        refine o_val (s_ng rfl (v_bin rfl rfl rfl (lt_f (show ¬ (k : Int) < 64 by omega)))) rfl ?_
        refine o_val (s_ng rfl rfl) rfl ?_
        refine o_val (s_gf rfl rfl rfl rfl) rfl ?_
        refine o_val (s_gf rfl rfl rfl rfl) rfl ?_
        refine o_val (s_gf rfl rfl rfl rfl) rfl ?_
        refine o_val (s_gs rfl rfl rfl) rfl ?_
        refine o_val (s_gs rfl rfl rfl) rfl ?_
        refine o_val (s_gs rfl rfl rfl) rfl ?_
        refine o_val (s_gs rfl rfl rfl) rfl ?_
        refine o_val (s_gf rfl rfl rfl rfl) rfl ?_
        refine o_val (s_ng rfl rfl) rfl ?_
        refine o_val (s_ng rfl rfl) rfl ?_
        refine o_val (s_gt rfl rfl rfl rfl) rfl ?_
        refine o_val (s_gt rfl rfl rfl (v_bin rfl rfl rfl (le_t (show (64 : Int) ≤ k by omega)))) rfl ?_
        refine o_val (s_gt rfl rfl rfl rfl) rfl ?_
        refine o_val (s_gt rfl rfl rfl rfl) rfl ?_
        refine o_val (s_gt rfl rfl rfl rfl) rfl ?_
        refine o_val (s_gt rfl rfl rfl rfl) rfl ?_
        refine o_val (s_ng rfl rfl) rfl ?_
        refine o_nil ?_
        refine ev_false rfl rfl ?_
        refine ev_skip ?_
        refine ev_reg ?_
        refine o_val (s_ng rfl (v_bin rfl rfl rfl (b_add hwrap))) rfl ?_
        refine o_val (s_ng rfl rfl) rfl ?_
        refine o_nil ?_
        have := sf_loop n hn C Y hA hB hC E r hK m (k + 1)
        rw [hmin1] at this
        exact this _ rfl rfl rfl rfl (by omega) (by omega)
    · refine o_val (s_ng rfl (v_bin rfl rfl rfl (lt_f hlt))) rfl ?_
      refine o_nil ?_
      refine ev_seq ?_
      refine ev_false rfl rfl ?_
      refine ev_exit ?_
      have hkn : k = n := by omega
      rw [hkn]
      exact hK _ rfl rfl
end TA
end

section
set_option maxRecDepth 1000000
set_option linter.unusedVariables false
namespace TA
open Go Dv
def PV : Nat → DV
  | 0 => .nsl
  | n + 1 => .sl 15 1 2 0 (n + 1)
def PH : Nat → Heap
  | 0 => HS 0
  | n + 1 => .row 2 (pts (n + 1)) 1 0 :: HS (n + 1)
theorem pnt0 : (evAll ctx 200).1 17 [.ptr 12 0] (HS 0) = some (PV 0, PH 0) := by kernel_rfl
theorem pnt1 : (evAll ctx 200).1 17 [.ptr 12 0] (HS 1) = some (PV 1, PH 1) := by kernel_rfl
theorem pnt2 : (evAll ctx 200).1 17 [.ptr 12 0] (HS 2) = some (PV 2, PH 2) := by kernel_rfl
theorem pnt3 : (evAll ctx 200).1 17 [.ptr 12 0] (HS 3) = some (PV 3, PH 3) := by kernel_rfl
theorem pnt4 : (evAll ctx 200).1 17 [.ptr 12 0] (HS 4) = some (PV 4, PH 4) := by kernel_rfl
theorem pnt5 : (evAll ctx 200).1 17 [.ptr 12 0] (HS 5) = some (PV 5, PH 5) := by kernel_rfl
theorem pnt6 : (evAll ctx 200).1 17 [.ptr 12 0] (HS 6) = some (PV 6, PH 6) := by kernel_rfl
theorem pnt7 : (evAll ctx 200).1 17 [.ptr 12 0] (HS 7) = some (PV 7, PH 7) := by kernel_rfl
theorem pnt8 : (evAll ctx 200).1 17 [.ptr 12 0] (HS 8) = some (PV 8, PH 8) := by kernel_rfl
theorem pnt9 : (evAll ctx 200).1 17 [.ptr 12 0] (HS 9) = some (PV 9, PH 9) := by kernel_rfl
theorem pnt10 : (evAll ctx 200).1 17 [.ptr 12 0] (HS 10) = some (PV 10, PH 10) := by kernel_rfl
theorem pnt11 : (evAll ctx 200).1 17 [.ptr 12 0] (HS 11) = some (PV 11, PH 11) := by kernel_rfl
theorem pnt12 : (evAll ctx 200).1 17 [.ptr 12 0] (HS 12) = some (PV 12, PH 12) := by kernel_rfl
theorem pnt13 : (evAll ctx 200).1 17 [.ptr 12 0] (HS 13) = some (PV 13, PH 13) := by kernel_rfl
theorem pnt14 : (evAll ctx 200).1 17 [.ptr 12 0] (HS 14) = some (PV 14, PH 14) := by kernel_rfl
theorem pnt15 : (evAll ctx 200).1 17 [.ptr 12 0] (HS 15) = some (PV 15, PH 15) := by kernel_rfl
theorem pnt16 : (evAll ctx 200).1 17 [.ptr 12 0] (HS 16) = some (PV 16, PH 16) := by kernel_rfl
theorem pnt17 : (evAll ctx 200).1 17 [.ptr 12 0] (HS 17) = some (PV 17, PH 17) := by kernel_rfl
theorem pnt18 : (evAll ctx 200).1 17 [.ptr 12 0] (HS 18) = some (PV 18, PH 18) := by kernel_rfl
theorem pnt19 : (evAll ctx 200).1 17 [.ptr 12 0] (HS 19) = some (PV 19, PH 19) := by kernel_rfl
theorem pnt20 : (evAll ctx 200).1 17 [.ptr 12 0] (HS 20) = some (PV 20, PH 20) := by kernel_rfl
theorem pnt21 : (evAll ctx 200).1 17 [.ptr 12 0] (HS 21) = some (PV 21, PH 21) := by kernel_rfl
theorem pnt22 : (evAll ctx 200).1 17 [.ptr 12 0] (HS 22) = some (PV 22, PH 22) := by kernel_rfl
theorem pnt23 : (evAll ctx 200).1 17 [.ptr 12 0] (HS 23) = some (PV 23, PH 23) := by kernel_rfl
theorem pnt24 : (evAll ctx 200).1 17 [.ptr 12 0] (HS 24) = some (PV 24, PH 24) := by kernel_rfl
theorem pnt25 : (evAll ctx 200).1 17 [.ptr 12 0] (HS 25) = some (PV 25, PH 25) := by kernel_rfl
theorem pnt26 : (evAll ctx 200).1 17 [.ptr 12 0] (HS 26) = some (PV 26, PH 26) := by kernel_rfl
theorem pnt27 : (evAll ctx 200).1 17 [.ptr 12 0] (HS 27) = some (PV 27, PH 27) := by kernel_rfl
theorem pnt28 : (evAll ctx 200).1 17 [.ptr 12 0] (HS 28) = some (PV 28, PH 28) := by kernel_rfl
theorem pnt29 : (evAll ctx 200).1 17 [.ptr 12 0] (HS 29) = some (PV 29, PH 29) := by kernel_rfl
theorem pnt30 : (evAll ctx 200).1 17 [.ptr 12 0] (HS 30) = some (PV 30, PH 30) := by kernel_rfl
theorem pnt31 : (evAll ctx 200).1 17 [.ptr 12 0] (HS 31) = some (PV 31, PH 31) := by kernel_rfl
theorem pnt32 : (evAll ctx 200).1 17 [.ptr 12 0] (HS 32) = some (PV 32, PH 32) := by kernel_rfl
theorem pnt33 : (evAll ctx 200).1 17 [.ptr 12 0] (HS 33) = some (PV 33, PH 33) := by kernel_rfl
theorem pnt34 : (evAll ctx 200).1 17 [.ptr 12 0] (HS 34) = some (PV 34, PH 34) := by kernel_rfl
theorem pnt35 : (evAll ctx 200).1 17 [.ptr 12 0] (HS 35) = some (PV 35, PH 35) := by kernel_rfl
theorem pnt36 : (evAll ctx 200).1 17 [.ptr 12 0] (HS 36) = some (PV 36, PH 36) := by kernel_rfl
theorem pnt37 : (evAll ctx 200).1 17 [.ptr 12 0] (HS 37) = some (PV 37, PH 37) := by kernel_rfl
theorem pnt38 : (evAll ctx 200).1 17 [.ptr 12 0] (HS 38) = some (PV 38, PH 38) := by kernel_rfl
theorem pnt39 : (evAll ctx 200).1 17 [.ptr 12 0] (HS 39) = some (PV 39, PH 39) := by kernel_rfl
theorem pnt40 : (evAll ctx 200).1 17 [.ptr 12 0] (HS 40) = some (PV 40, PH 40) := by kernel_rfl
theorem pnt41 : (evAll ctx 200).1 17 [.ptr 12 0] (HS 41) = some (PV 41, PH 41) := by kernel_rfl
theorem pnt42 : (evAll ctx 200).1 17 [.ptr 12 0] (HS 42) = some (PV 42, PH 42) := by kernel_rfl
theorem pnt43 : (evAll ctx 200).1 17 [.ptr 12 0] (HS 43) = some (PV 43, PH 43) := by kernel_rfl
theorem pnt44 : (evAll ctx 200).1 17 [.ptr 12 0] (HS 44) = some (PV 44, PH 44) := by kernel_rfl
theorem pnt45 : (evAll ctx 200).1 17 [.ptr 12 0] (HS 45) = some (PV 45, PH 45) := by kernel_rfl
theorem pnt46 : (evAll ctx 200).1 17 [.ptr 12 0] (HS 46) = some (PV 46, PH 46) := by kernel_rfl
theorem pnt47 : (evAll ctx 200).1 17 [.ptr 12 0] (HS 47) = some (PV 47, PH 47) := by kernel_rfl
theorem pnt48 : (evAll ctx 200).1 17 [.ptr 12 0] (HS 48) = some (PV 48, PH 48) := by kernel_rfl
theorem pnt49 : (evAll ctx 200).1 17 [.ptr 12 0] (HS 49) = some (PV 49, PH 49) := by kernel_rfl
theorem pnt50 : (evAll ctx 200).1 17 [.ptr 12 0] (HS 50) = some (PV 50, PH 50) := by kernel_rfl
theorem pnt51 : (evAll ctx 200).1 17 [.ptr 12 0] (HS 51) = some (PV 51, PH 51) := by kernel_rfl
theorem pnt52 : (evAll ctx 200).1 17 [.ptr 12 0] (HS 52) = some (PV 52, PH 52) := by kernel_rfl
theorem pnt53 : (evAll ctx 200).1 17 [.ptr 12 0] (HS 53) = some (PV 53, PH 53) := by kernel_rfl
theorem pnt54 : (evAll ctx 200).1 17 [.ptr 12 0] (HS 54) = some (PV 54, PH 54) := by kernel_rfl
theorem pnt55 : (evAll ctx 200).1 17 [.ptr 12 0] (HS 55) = some (PV 55, PH 55) := by kernel_rfl
theorem pnt56 : (evAll ctx 200).1 17 [.ptr 12 0] (HS 56) = some (PV 56, PH 56) := by kernel_rfl
theorem pnt57 : (evAll ctx 200).1 17 [.ptr 12 0] (HS 57) = some (PV 57, PH 57) := by kernel_rfl
theorem pnt58 : (evAll ctx 200).1 17 [.ptr 12 0] (HS 58) = some (PV 58, PH 58) := by kernel_rfl
theorem pnt59 : (evAll ctx 200).1 17 [.ptr 12 0] (HS 59) = some (PV 59, PH 59) := by kernel_rfl
theorem pnt60 : (evAll ctx 200).1 17 [.ptr 12 0] (HS 60) = some (PV 60, PH 60) := by kernel_rfl
theorem pnt61 : (evAll ctx 200).1 17 [.ptr 12 0] (HS 61) = some (PV 61, PH 61) := by kernel_rfl
theorem pnt62 : (evAll ctx 200).1 17 [.ptr 12 0] (HS 62) = some (PV 62, PH 62) := by kernel_rfl
theorem pnt63 : (evAll ctx 200).1 17 [.ptr 12 0] (HS 63) = some (PV 63, PH 63) := by kernel_rfl
theorem pnt64 : (evAll ctx 200).1 17 [.ptr 12 0] (HS 64) = some (PV 64, PH 64) := by kernel_rfl
theorem pnt : ∀ k, k < 65 → (evAll ctx 200).1 17 [.ptr 12 0] (HS k) = some (PV k, PH k)
  | 0, _ => pnt0
  | 1, _ => pnt1
  | 2, _ => pnt2
  | 3, _ => pnt3
  | 4, _ => pnt4
  | 5, _ => pnt5
  | 6, _ => pnt6
  | 7, _ => pnt7
  | 8, _ => pnt8
  | 9, _ => pnt9
  | 10, _ => pnt10
  | 11, _ => pnt11
  | 12, _ => pnt12
  | 13, _ => pnt13
  | 14, _ => pnt14
  | 15, _ => pnt15
  | 16, _ => pnt16
  | 17, _ => pnt17
  | 18, _ => pnt18
  | 19, _ => pnt19
  | 20, _ => pnt20
  | 21, _ => pnt21
  | 22, _ => pnt22
  | 23, _ => pnt23
  | 24, _ => pnt24
  | 25, _ => pnt25
  | 26, _ => pnt26
  | 27, _ => pnt27
  | 28, _ => pnt28
  | 29, _ => pnt29
  | 30, _ => pnt30
  | 31, _ => pnt31
  | 32, _ => pnt32
  | 33, _ => pnt33
  | 34, _ => pnt34
  | 35, _ => pnt35
  | 36, _ => pnt36
  | 37, _ => pnt37
  | 38, _ => pnt38
  | 39, _ => pnt39
  | 40, _ => pnt40
  | 41, _ => pnt41
  | 42, _ => pnt42
  | 43, _ => pnt43
  | 44, _ => pnt44
  | 45, _ => pnt45
  | 46, _ => pnt46
  | 47, _ => pnt47
  | 48, _ => pnt48
  | 49, _ => pnt49
  | 50, _ => pnt50
  | 51, _ => pnt51
  | 52, _ => pnt52
  | 53, _ => pnt53
  | 54, _ => pnt54
  | 55, _ => pnt55
  | 56, _ => pnt56
  | 57, _ => pnt57
  | 58, _ => pnt58
  | 59, _ => pnt59
  | 60, _ => pnt60
  | 61, _ => pnt61
  | 62, _ => pnt62
  | 63, _ => pnt63
  | 64, _ => pnt64
  | n + 65, h => absurd h (by omega)
end TA
end

section
set_option maxRecDepth 1000000
set_option linter.unusedVariables false
namespace TA
open Go Dv
theorem v_len {c : Ctx} {C Y : Nat → List DV → Heap → Res} {pol : Pol} {o : Oper} {fr : Fr} {rm : Rm} {h : Heap} {k : Go.Call} {x : Operand} {t : Nat} {a d : DV} (ho : o.op = .call k) (hf : k.callee = .builtin .len) (ha : k.args.toList = [x]) (ht : k.argTypes.toList = [t])
    (hx : rho c pol fr rm x = a) (hd : dLen (c.ti t) a h = some d) : evVal c C Y pol o fr rm h = some (.val d h) := by
  subst hx
  simp only [evVal, ho, evGen, evCallee, hf, ha, ht, List.map_cons, List.map_nil, hd, Option.map_some]
theorem v_min {c : Ctx} {C Y : Nat → List DV → Heap → Res} {pol : Pol} {o : Oper} {fr : Fr} {rm : Rm} {h : Heap} {k : Go.Call} {x y : Operand} {a b d : DV} (ho : o.op = .call k) (hf : k.callee = .builtin .min) (ha : k.args.toList = [x, y])
    (hx : rho c pol fr rm x = a) (hy : rho c pol fr rm y = b) (hd : dMinMax false [a, b] = some d) : evVal c C Y pol o fr rm h = some (.val d h) := by
  subst hx; subst hy
  simp only [evVal, ho, evGen, evCallee, hf, ha, List.map_cons, List.map_nil, hd, Option.map_some]
theorem lenPV : ∀ (k : Nat) (h : Heap), dLen (ctx.ti 45) (PV k) h = some (.int .i64 k)
  | 0, _ => rfl
  | n + 1, _ => rfl
theorem minI (m : Nat) : dMinMax false [.int .i64 m, .int .i64 64] = some (.int .i64 (min m 64 : Nat)) := by
  simp only [dMinMax, cond_false]
  by_cases h : (64 : Int) < m
  · rw [if_pos h, Nat.min_eq_right (by omega)]; rfl
  · rw [if_neg h, Nat.min_eq_left (by omega)]
theorem eqI (n : Int) : some (DV.bool (n == n)) = some (.bool true) := by simp
attribute [local irreducible] Dv.evCode Dv.evOps Dv.evPlan Dv.evLoop Dv.stepV Dv.evAll HS
variable (C Y : Nat → List DV → Heap → Res) (hanchor : C 14 [] [] = some (.bool true, []))
include hanchor
theorem sf_mid (hbegun : C 15 [.sl 0 0 1 0 1, .sl 1 0 1 0 1, lim1] h0 = some (.tup [.ptr 12 0, .sl 7 2 8 0 3], HS 0)) (hA : ∀ k, k < 64 → C 16 [.ptr 12 0, .agg (pt k)] (HS k) = some (.int .i64 0, HT k)) (hB : ∀ k, k < 64 → C 16 [.ptr 12 0, .agg (pt k)] (HT k) = some (.int .i64 37, HS (k + 1)))
    (hC : ∀ k, k < 36 → C 16 [.ptr 12 0, .agg (pt (64 + k))] (HS 64) = some (.int .i64 13, HS 64)) (hP : ∀ k, k < 65 → C 17 [.ptr 12 0] (HS k) = some (PV k, PH k)) (m : Nat) (hr : m ≤ 100) : evBody ctx C Y 200 fi6 [.int .i64 m] [] = some (.bool true, PH (min m 64)) := by
  refine evBody_tree rfl rfl rfl ?_
  refine ev_seq ?_
  refine ev_reg ?_
  refine o_val (s_ng rfl rfl) rfl ?_
  refine o_nil ?_
  refine ev_seq ?_
  refine ev_seq ?_
  refine ev_reg ?_
  refine o_val (s_ng rfl (v_call rfl rfl rfl rfl hanchor)) rfl ?_
  refine o_val (s_ng rfl rfl) rfl ?_
  refine o_nil ?_
  refine ev_false rfl rfl ?_
  refine ev_skip ?_
  refine ev_seq ?_
  refine ev_seq ?_
  refine ev_reg ?_
  refine o_val (s_ng rfl rfl) rfl ?_
  refine o_val (s_ng rfl (v_bin rfl rfl rfl (lt_f (show ¬ (m : Int) < 0 by omega)))) rfl ?_
  refine o_val (s_ng rfl rfl) rfl ?_
  refine o_val (s_gt rfl rfl rfl rfl) rfl ?_
  refine o_val (s_gt rfl rfl rfl (v_bin rfl rfl rfl (lt_f (show ¬ (100 : Int) < m by omega)))) rfl ?_
  refine o_val (s_ng rfl rfl) rfl ?_
  refine o_nil ?_
  refine ev_false rfl rfl ?_
  refine ev_skip ?_
  refine ev_seq ?_
  refine ev_reg ?_
  refine o_val (s_ng rfl rfl) rfl ?_
  refine o_val (s_ng rfl rfl) rfl ?_
  refine o_val (s_ng rfl rfl) rfl ?_
  refine o_val (s_ng rfl rfl) rfl ?_
  refine o_val (s_ng rfl rfl) rfl ?_
  refine o_val (s_ng rfl (v_call rfl rfl rfl rfl hbegun)) rfl ?_
  refine o_val (s_ng rfl rfl) rfl ?_
  refine o_val (s_ng rfl rfl) rfl ?_
  refine o_val (s_ng rfl rfl) rfl ?_
  refine o_val (s_ng rfl rfl) rfl ?_
  refine o_val (s_ng rfl rfl) rfl ?_
  refine o_nil ?_
  refine ev_seq ?_
  refine ev_seq ?_
  refine ev_reg ?_
  refine o_val (s_ng rfl rfl) rfl ?_
  refine o_val (s_ng rfl rfl) rfl ?_
  refine o_nil ?_
  refine ev_false rfl rfl ?_
  refine ev_skip ?_
  refine ev_seq ?_
  refine ev_seq ?_
  refine ev_reg ?_
  refine o_val (s_ng rfl rfl) rfl ?_
  refine o_val (s_ng rfl rfl) rfl ?_
  refine o_nil ?_
  refine ev_block ?_
  refine ev_loop ?_
  refine sf_loop m (by omega) _ _ hA hB hC _ _ ?_ 200 0 _ ?_ ?_ ?_ ?_ (by omega) (by omega)
  rotate_left
  · exact rfl
  · exact rfl
  · exact rfl
  · exact rfl
  intro v h3 h0
  have hv : v = upd (upd v 3 (.ptr 12 0)) 0 (.int .i64 m) := by rw [← as_upd h3, ← as_upd h0]
  rw [hv]
  refine ev_seq ?_
  refine ev_reg ?_
  refine o_val (s_ng rfl rfl) rfl ?_
  refine o_val (s_ng rfl (v_call rfl rfl rfl rfl (hP (min m 64) (by omega)))) rfl ?_
  refine o_val (s_ng rfl (v_len rfl rfl rfl rfl rfl (lenPV _ _))) rfl ?_
  refine o_val (s_ng rfl rfl) rfl ?_
  refine o_val (s_ng rfl (v_min rfl rfl rfl rfl rfl (minI m))) rfl ?_
  refine o_val (s_ng rfl (v_bin rfl rfl rfl (eqI _))) rfl ?_
  refine o_val (s_ng rfl rfl) rfl ?_
  refine o_nil ?_
  refine ev_ret ?_
  rfl
theorem sf_neg (n : Int) (hn : n < 0) : evBody ctx C Y 200 fi6 [.int .i64 n] [] = some (.bool true, []) := by
  refine evBody_tree rfl rfl rfl ?_
  refine ev_seq ?_
  refine ev_reg ?_
  refine o_val (s_ng rfl rfl) rfl ?_
  refine o_nil ?_
  refine ev_seq ?_
  refine ev_seq ?_
  refine ev_reg ?_
  refine o_val (s_ng rfl (v_call rfl rfl rfl rfl hanchor)) rfl ?_
  refine o_val (s_ng rfl rfl) rfl ?_
  refine o_nil ?_
  refine ev_false rfl rfl ?_
  refine ev_skip ?_
  refine ev_seq ?_
  refine ev_seq ?_
  refine ev_reg ?_
  refine o_val (s_ng rfl rfl) rfl ?_
  refine o_val (s_ng rfl (v_bin rfl rfl rfl (lt_t hn))) rfl ?_
  refine o_val (s_ng rfl rfl) rfl ?_
  refine o_val (s_gf rfl rfl rfl rfl) rfl ?_
  refine o_val (s_gf rfl rfl rfl rfl) rfl ?_
  refine o_val (s_ng rfl rfl) rfl ?_
  refine o_nil ?_
  refine ev_true rfl rfl ?_
  refine ev_seq ?_
  refine ev_reg ?_
  refine o_val (s_ng rfl rfl) rfl ?_
  refine o_nil ?_
  refine ev_ret ?_
  rfl
theorem sf_big (n : Int) (hn : ¬ n < 0) (hb : 100 < n) : evBody ctx C Y 200 fi6 [.int .i64 n] [] = some (.bool true, []) := by
  refine evBody_tree rfl rfl rfl ?_
  refine ev_seq ?_
  refine ev_reg ?_
  refine o_val (s_ng rfl rfl) rfl ?_
  refine o_nil ?_
  refine ev_seq ?_
  refine ev_seq ?_
  refine ev_reg ?_
  refine o_val (s_ng rfl (v_call rfl rfl rfl rfl hanchor)) rfl ?_
  refine o_val (s_ng rfl rfl) rfl ?_
  refine o_nil ?_
  refine ev_false rfl rfl ?_
  refine ev_skip ?_
  refine ev_seq ?_
  refine ev_seq ?_
  refine ev_reg ?_
  refine o_val (s_ng rfl rfl) rfl ?_
  refine o_val (s_ng rfl (v_bin rfl rfl rfl (lt_f hn))) rfl ?_
  refine o_val (s_ng rfl rfl) rfl ?_
  refine o_val (s_gt rfl rfl rfl rfl) rfl ?_
  refine o_val (s_gt rfl rfl rfl (v_bin rfl rfl rfl (lt_t hb))) rfl ?_
  refine o_val (s_ng rfl rfl) rfl ?_
  refine o_nil ?_
  refine ev_true rfl rfl ?_
  refine ev_seq ?_
  refine ev_reg ?_
  refine o_val (s_ng rfl rfl) rfl ?_
  refine o_nil ?_
  refine ev_ret ?_
  rfl
omit hanchor
theorem sf_law (n : Int) : (evAll ctx 201).1 6 [.int .i64 n] [] = some (.bool true, []) := by
  have a5 : ∃ h1, evBody ctx (evAll ctx 200).1 (evAll ctx 200).2 200 fi6 [.int .i64 n] [] = some (.bool true, h1) := by
    by_cases hn : n < 0
    · exact ⟨_, sf_neg _ _ anchor23 n hn⟩
    · by_cases hb : 100 < n
      · exact ⟨_, sf_big _ _ anchor23 n hn hb⟩
      · obtain ⟨m, rfl⟩ : ∃ m : Nat, n = m := ⟨n.toNat, by omega⟩
        exact ⟨_, sf_mid _ _ anchor23 begun1 add_lo adb_lo add_hi pnt m (by omega)⟩
  obtain ⟨h1, a5⟩ := a5
  exact evAll_P rfl rfl rfl rfl a5 rfl rfl
end TA
end
