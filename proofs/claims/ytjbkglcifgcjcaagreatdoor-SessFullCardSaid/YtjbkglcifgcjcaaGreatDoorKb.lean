import Derived.Test.YtjbkglcifgcjcaaGreatDoorTa
import Derived.KernelRfl
section
set_option maxRecDepth 1000000
namespace TA
open Go Dv
def sfRest : Heap := [.row 8 [[.int .i64 13, .int .i64 0, .int .i64 0, .int .i64 1, .int .i64 0, .int .i64 0, .int .i64 (-1), .sl 10 1 1 0 2]] 0 0,
  .row 1 [[.int .i64 0], [.int .i64 1]] 1 0,
  .row 8 [[.int .i64 2, .int .i64 0, .int .i64 0, .int .i64 1, .int .i64 0, .int .i64 0, .int .i64 (-1), .sl 8 1 1 0 2]] 0 0,
  .row 1 [[.int .i64 (-1)], [.int .i64 (-1)]] 1 0,
  .row 8 [[.int .i64 1, .int .i64 0, .int .i64 0, .int .i64 0, .int .i64 0, .int .i64 0, .int .i64 (-1), .sl 5 1 1 0 2], [.int .i64 2, .int .i64 0, .int .i64 0, .int .i64 1, .int .i64 0, .int .i64 0, .int .i64 (-1), .sl 8 1 1 0 2], [.int .i64 13, .int .i64 0, .int .i64 0, .int .i64 1, .int .i64 0, .int .i64 0, .int .i64 (-1), .sl 10 1 1 0 2]] 2 0,
  .row 8 [[.int .i64 1, .int .i64 0, .int .i64 0, .int .i64 0, .int .i64 0, .int .i64 0, .int .i64 (-1), .sl 5 1 1 0 2]] 0 0,
  .row 1 [[.int .i64 (-1)], [.int .i64 (-1)]] 1 0,
  .dead,
  .obj [.dptr [.int .i64 0, .int .i64 1, .int .i64 999, .dsl 1 [[.int .u8 1], [.int .u8 0], [.int .u8 2], [.int .u8 4], [.int .u8 2], [.int .u8 13], [.int .u8 68], [.int .u8 2], [.int .u8 2], [.int .u8 0], [.int .u8 2], [.int .u8 0], [.int .u8 4]], .dsl 1 [[.int .i64 0], [.int .i64 2], [.int .i64 5]], .int .i64 13, .int .i64 0, .int .i64 0, .int .i64 1, .int .i64 0, .int .i64 0, .int .i64 (-1), .dsl 1 [[.int .i64 0], [.int .i64 1]]] 0] false,
  .obj [.sl 7 2 8 0 3] false,
  .row 1 [[.int .u8 97]] 0 1,
  .row 1 [[.int .u8 97]] 0 1]
def sf13 : DObj := .row 8 [[.int .i64 1, .int .i64 0, .int .i64 0, .int .i64 0, .int .i64 0, .int .i64 0, .int .i64 (-1), .dsl 1 [[.int .i64 (-1)], [.int .i64 (-1)]]]] 0 0
def sf12 (pts : DV) : DObj := .obj [.dptr [.dsl 1 [[.int .u8 97]], .dsl 10 [[.int .i64 2, .int .i64 0, .int .i64 1, .int .i64 0, .int .i64 0, .int .i64 0, .int .i64 0, .str [], .dsl 2 [[.int .i64 97, .int .i64 97]], .nsl]], .int .i64 0, .dsl 1 [[.str []]], .dsl 6 [[.int .i64 1, .int .i64 0, .int .i64 0, .int .i64 0, .int .i64 0, .int .i64 0], [.int .i64 19, .int .i64 0, .int .i64 0, .int .i64 0, .int .i64 0, .int .i64 0]], .dsl 1 [[.dsl 2 [[.int .i64 97, .int .i64 97]]]], .nsl, .int .i64 0, .dsl 1 [[.int .i64 97]], .dptr [.int .i64 0, .int .i64 1, .int .i64 999, .dsl 1 [[.int .u8 1], [.int .u8 0], [.int .u8 2], [.int .u8 4], [.int .u8 2], [.int .u8 13], [.int .u8 68], [.int .u8 2], [.int .u8 2], [.int .u8 0], [.int .u8 2], [.int .u8 0], [.int .u8 4]], .dsl 1 [[.int .i64 0], [.int .i64 2], [.int .i64 5]], .int .i64 13, .int .i64 0, .int .i64 0, .int .i64 1, .int .i64 0, .int .i64 0, .int .i64 (-1), .dsl 1 [[.int .i64 0], [.int .i64 1]]] 0, .int .i64 1, .int .i64 0] 0, .int .i64 0, .int .i64 1, .int .i64 0, .int .i64 0, .int .i64 0, .int .i64 0, .int .i64 0, .int .i64 (-1), .dsl 1 [[.int .i64 (-1)], [.int .i64 (-1)]], pts, .int .i64 1] false
-- points cell was .nsl
def pt (k : Nat) : List DV := [.int .i64 2, .int .i64 (k : Int)]
def pts (n : Nat) : List (List DV) := (List.range n).map pt
/-- The session's heap with so many points. -/
def HS : Nat → Heap
  | 0 => sf13 :: sf12 .nsl :: sfRest
  | n + 1 => .row 2 (pts (n + 1)) n (n + 1) :: sf13 :: sf12 (.sl 14 n 2 0 (n + 1)) :: sfRest
/-- Behind the first of the two calls. -/
def HT (n : Nat) : Heap := .row 2 (pts (n + 1)) n n :: sf13 :: sf12 (.sl 14 n 2 0 (n + 1)) :: sfRest
def h0 : Heap := [.row 1 [[.int .u8 97]] 0 0, .row 1 [[.int .u8 97]] 0 0]
def lim1 : DV := .agg [.int .i64 9, .int .i64 9, .int .i64 999, .int .i64 1]
theorem begun1 : (evAll ctx 200).1 15 [.sl 0 0 1 0 1, .sl 1 0 1 0 1, lim1] h0 = some (.tup [.ptr 12 0, .sl 7 2 8 0 3], HS 0) := by kernel_rfl
end TA
end

section
set_option maxRecDepth 1000000
namespace TA
open Go Dv
theorem add0 : (evAll ctx 200).1 16 [.ptr 12 0, .agg (pt 0)] (HS 0) = some (.int .i64 0, HT 0) := by kernel_rfl
theorem adb0 : (evAll ctx 200).1 16 [.ptr 12 0, .agg (pt 0)] (HT 0) = some (.int .i64 37, HS 1) := by kernel_rfl
theorem add1 : (evAll ctx 200).1 16 [.ptr 12 0, .agg (pt 1)] (HS 1) = some (.int .i64 0, HT 1) := by kernel_rfl
theorem adb1 : (evAll ctx 200).1 16 [.ptr 12 0, .agg (pt 1)] (HT 1) = some (.int .i64 37, HS 2) := by kernel_rfl
theorem add2 : (evAll ctx 200).1 16 [.ptr 12 0, .agg (pt 2)] (HS 2) = some (.int .i64 0, HT 2) := by kernel_rfl
theorem adb2 : (evAll ctx 200).1 16 [.ptr 12 0, .agg (pt 2)] (HT 2) = some (.int .i64 37, HS 3) := by kernel_rfl
theorem add3 : (evAll ctx 200).1 16 [.ptr 12 0, .agg (pt 3)] (HS 3) = some (.int .i64 0, HT 3) := by kernel_rfl
theorem adb3 : (evAll ctx 200).1 16 [.ptr 12 0, .agg (pt 3)] (HT 3) = some (.int .i64 37, HS 4) := by kernel_rfl
theorem add4 : (evAll ctx 200).1 16 [.ptr 12 0, .agg (pt 4)] (HS 4) = some (.int .i64 0, HT 4) := by kernel_rfl
theorem adb4 : (evAll ctx 200).1 16 [.ptr 12 0, .agg (pt 4)] (HT 4) = some (.int .i64 37, HS 5) := by kernel_rfl
theorem add5 : (evAll ctx 200).1 16 [.ptr 12 0, .agg (pt 5)] (HS 5) = some (.int .i64 0, HT 5) := by kernel_rfl
theorem adb5 : (evAll ctx 200).1 16 [.ptr 12 0, .agg (pt 5)] (HT 5) = some (.int .i64 37, HS 6) := by kernel_rfl
theorem add6 : (evAll ctx 200).1 16 [.ptr 12 0, .agg (pt 6)] (HS 6) = some (.int .i64 0, HT 6) := by kernel_rfl
theorem adb6 : (evAll ctx 200).1 16 [.ptr 12 0, .agg (pt 6)] (HT 6) = some (.int .i64 37, HS 7) := by kernel_rfl
theorem add7 : (evAll ctx 200).1 16 [.ptr 12 0, .agg (pt 7)] (HS 7) = some (.int .i64 0, HT 7) := by kernel_rfl
theorem adb7 : (evAll ctx 200).1 16 [.ptr 12 0, .agg (pt 7)] (HT 7) = some (.int .i64 37, HS 8) := by kernel_rfl
theorem add8 : (evAll ctx 200).1 16 [.ptr 12 0, .agg (pt 8)] (HS 8) = some (.int .i64 0, HT 8) := by kernel_rfl
theorem adb8 : (evAll ctx 200).1 16 [.ptr 12 0, .agg (pt 8)] (HT 8) = some (.int .i64 37, HS 9) := by kernel_rfl
theorem add9 : (evAll ctx 200).1 16 [.ptr 12 0, .agg (pt 9)] (HS 9) = some (.int .i64 0, HT 9) := by kernel_rfl
theorem adb9 : (evAll ctx 200).1 16 [.ptr 12 0, .agg (pt 9)] (HT 9) = some (.int .i64 37, HS 10) := by kernel_rfl
theorem add10 : (evAll ctx 200).1 16 [.ptr 12 0, .agg (pt 10)] (HS 10) = some (.int .i64 0, HT 10) := by kernel_rfl
theorem adb10 : (evAll ctx 200).1 16 [.ptr 12 0, .agg (pt 10)] (HT 10) = some (.int .i64 37, HS 11) := by kernel_rfl
theorem add11 : (evAll ctx 200).1 16 [.ptr 12 0, .agg (pt 11)] (HS 11) = some (.int .i64 0, HT 11) := by kernel_rfl
theorem adb11 : (evAll ctx 200).1 16 [.ptr 12 0, .agg (pt 11)] (HT 11) = some (.int .i64 37, HS 12) := by kernel_rfl
theorem add12 : (evAll ctx 200).1 16 [.ptr 12 0, .agg (pt 12)] (HS 12) = some (.int .i64 0, HT 12) := by kernel_rfl
theorem adb12 : (evAll ctx 200).1 16 [.ptr 12 0, .agg (pt 12)] (HT 12) = some (.int .i64 37, HS 13) := by kernel_rfl
theorem add13 : (evAll ctx 200).1 16 [.ptr 12 0, .agg (pt 13)] (HS 13) = some (.int .i64 0, HT 13) := by kernel_rfl
theorem adb13 : (evAll ctx 200).1 16 [.ptr 12 0, .agg (pt 13)] (HT 13) = some (.int .i64 37, HS 14) := by kernel_rfl
theorem add14 : (evAll ctx 200).1 16 [.ptr 12 0, .agg (pt 14)] (HS 14) = some (.int .i64 0, HT 14) := by kernel_rfl
theorem adb14 : (evAll ctx 200).1 16 [.ptr 12 0, .agg (pt 14)] (HT 14) = some (.int .i64 37, HS 15) := by kernel_rfl
theorem add15 : (evAll ctx 200).1 16 [.ptr 12 0, .agg (pt 15)] (HS 15) = some (.int .i64 0, HT 15) := by kernel_rfl
theorem adb15 : (evAll ctx 200).1 16 [.ptr 12 0, .agg (pt 15)] (HT 15) = some (.int .i64 37, HS 16) := by kernel_rfl
theorem add16 : (evAll ctx 200).1 16 [.ptr 12 0, .agg (pt 16)] (HS 16) = some (.int .i64 0, HT 16) := by kernel_rfl
theorem adb16 : (evAll ctx 200).1 16 [.ptr 12 0, .agg (pt 16)] (HT 16) = some (.int .i64 37, HS 17) := by kernel_rfl
theorem add17 : (evAll ctx 200).1 16 [.ptr 12 0, .agg (pt 17)] (HS 17) = some (.int .i64 0, HT 17) := by kernel_rfl
theorem adb17 : (evAll ctx 200).1 16 [.ptr 12 0, .agg (pt 17)] (HT 17) = some (.int .i64 37, HS 18) := by kernel_rfl
theorem add18 : (evAll ctx 200).1 16 [.ptr 12 0, .agg (pt 18)] (HS 18) = some (.int .i64 0, HT 18) := by kernel_rfl
theorem adb18 : (evAll ctx 200).1 16 [.ptr 12 0, .agg (pt 18)] (HT 18) = some (.int .i64 37, HS 19) := by kernel_rfl
theorem add19 : (evAll ctx 200).1 16 [.ptr 12 0, .agg (pt 19)] (HS 19) = some (.int .i64 0, HT 19) := by kernel_rfl
theorem adb19 : (evAll ctx 200).1 16 [.ptr 12 0, .agg (pt 19)] (HT 19) = some (.int .i64 37, HS 20) := by kernel_rfl
theorem add20 : (evAll ctx 200).1 16 [.ptr 12 0, .agg (pt 20)] (HS 20) = some (.int .i64 0, HT 20) := by kernel_rfl
theorem adb20 : (evAll ctx 200).1 16 [.ptr 12 0, .agg (pt 20)] (HT 20) = some (.int .i64 37, HS 21) := by kernel_rfl
theorem add21 : (evAll ctx 200).1 16 [.ptr 12 0, .agg (pt 21)] (HS 21) = some (.int .i64 0, HT 21) := by kernel_rfl
theorem adb21 : (evAll ctx 200).1 16 [.ptr 12 0, .agg (pt 21)] (HT 21) = some (.int .i64 37, HS 22) := by kernel_rfl
theorem add22 : (evAll ctx 200).1 16 [.ptr 12 0, .agg (pt 22)] (HS 22) = some (.int .i64 0, HT 22) := by kernel_rfl
theorem adb22 : (evAll ctx 200).1 16 [.ptr 12 0, .agg (pt 22)] (HT 22) = some (.int .i64 37, HS 23) := by kernel_rfl
theorem add23 : (evAll ctx 200).1 16 [.ptr 12 0, .agg (pt 23)] (HS 23) = some (.int .i64 0, HT 23) := by kernel_rfl
theorem adb23 : (evAll ctx 200).1 16 [.ptr 12 0, .agg (pt 23)] (HT 23) = some (.int .i64 37, HS 24) := by kernel_rfl
theorem add24 : (evAll ctx 200).1 16 [.ptr 12 0, .agg (pt 24)] (HS 24) = some (.int .i64 0, HT 24) := by kernel_rfl
theorem adb24 : (evAll ctx 200).1 16 [.ptr 12 0, .agg (pt 24)] (HT 24) = some (.int .i64 37, HS 25) := by kernel_rfl
theorem add25 : (evAll ctx 200).1 16 [.ptr 12 0, .agg (pt 25)] (HS 25) = some (.int .i64 0, HT 25) := by kernel_rfl
theorem adb25 : (evAll ctx 200).1 16 [.ptr 12 0, .agg (pt 25)] (HT 25) = some (.int .i64 37, HS 26) := by kernel_rfl
theorem add26 : (evAll ctx 200).1 16 [.ptr 12 0, .agg (pt 26)] (HS 26) = some (.int .i64 0, HT 26) := by kernel_rfl
theorem adb26 : (evAll ctx 200).1 16 [.ptr 12 0, .agg (pt 26)] (HT 26) = some (.int .i64 37, HS 27) := by kernel_rfl
theorem add27 : (evAll ctx 200).1 16 [.ptr 12 0, .agg (pt 27)] (HS 27) = some (.int .i64 0, HT 27) := by kernel_rfl
theorem adb27 : (evAll ctx 200).1 16 [.ptr 12 0, .agg (pt 27)] (HT 27) = some (.int .i64 37, HS 28) := by kernel_rfl
theorem add28 : (evAll ctx 200).1 16 [.ptr 12 0, .agg (pt 28)] (HS 28) = some (.int .i64 0, HT 28) := by kernel_rfl
theorem adb28 : (evAll ctx 200).1 16 [.ptr 12 0, .agg (pt 28)] (HT 28) = some (.int .i64 37, HS 29) := by kernel_rfl
theorem add29 : (evAll ctx 200).1 16 [.ptr 12 0, .agg (pt 29)] (HS 29) = some (.int .i64 0, HT 29) := by kernel_rfl
theorem adb29 : (evAll ctx 200).1 16 [.ptr 12 0, .agg (pt 29)] (HT 29) = some (.int .i64 37, HS 30) := by kernel_rfl
theorem add30 : (evAll ctx 200).1 16 [.ptr 12 0, .agg (pt 30)] (HS 30) = some (.int .i64 0, HT 30) := by kernel_rfl
theorem adb30 : (evAll ctx 200).1 16 [.ptr 12 0, .agg (pt 30)] (HT 30) = some (.int .i64 37, HS 31) := by kernel_rfl
theorem add31 : (evAll ctx 200).1 16 [.ptr 12 0, .agg (pt 31)] (HS 31) = some (.int .i64 0, HT 31) := by kernel_rfl
theorem adb31 : (evAll ctx 200).1 16 [.ptr 12 0, .agg (pt 31)] (HT 31) = some (.int .i64 37, HS 32) := by kernel_rfl
theorem add32 : (evAll ctx 200).1 16 [.ptr 12 0, .agg (pt 32)] (HS 32) = some (.int .i64 0, HT 32) := by kernel_rfl
theorem adb32 : (evAll ctx 200).1 16 [.ptr 12 0, .agg (pt 32)] (HT 32) = some (.int .i64 37, HS 33) := by kernel_rfl
theorem add33 : (evAll ctx 200).1 16 [.ptr 12 0, .agg (pt 33)] (HS 33) = some (.int .i64 0, HT 33) := by kernel_rfl
theorem adb33 : (evAll ctx 200).1 16 [.ptr 12 0, .agg (pt 33)] (HT 33) = some (.int .i64 37, HS 34) := by kernel_rfl
theorem add34 : (evAll ctx 200).1 16 [.ptr 12 0, .agg (pt 34)] (HS 34) = some (.int .i64 0, HT 34) := by kernel_rfl
theorem adb34 : (evAll ctx 200).1 16 [.ptr 12 0, .agg (pt 34)] (HT 34) = some (.int .i64 37, HS 35) := by kernel_rfl
theorem add35 : (evAll ctx 200).1 16 [.ptr 12 0, .agg (pt 35)] (HS 35) = some (.int .i64 0, HT 35) := by kernel_rfl
theorem adb35 : (evAll ctx 200).1 16 [.ptr 12 0, .agg (pt 35)] (HT 35) = some (.int .i64 37, HS 36) := by kernel_rfl
theorem add36 : (evAll ctx 200).1 16 [.ptr 12 0, .agg (pt 36)] (HS 36) = some (.int .i64 0, HT 36) := by kernel_rfl
theorem adb36 : (evAll ctx 200).1 16 [.ptr 12 0, .agg (pt 36)] (HT 36) = some (.int .i64 37, HS 37) := by kernel_rfl
theorem add37 : (evAll ctx 200).1 16 [.ptr 12 0, .agg (pt 37)] (HS 37) = some (.int .i64 0, HT 37) := by kernel_rfl
theorem adb37 : (evAll ctx 200).1 16 [.ptr 12 0, .agg (pt 37)] (HT 37) = some (.int .i64 37, HS 38) := by kernel_rfl
theorem add38 : (evAll ctx 200).1 16 [.ptr 12 0, .agg (pt 38)] (HS 38) = some (.int .i64 0, HT 38) := by kernel_rfl
theorem adb38 : (evAll ctx 200).1 16 [.ptr 12 0, .agg (pt 38)] (HT 38) = some (.int .i64 37, HS 39) := by kernel_rfl
theorem add39 : (evAll ctx 200).1 16 [.ptr 12 0, .agg (pt 39)] (HS 39) = some (.int .i64 0, HT 39) := by kernel_rfl
theorem adb39 : (evAll ctx 200).1 16 [.ptr 12 0, .agg (pt 39)] (HT 39) = some (.int .i64 37, HS 40) := by kernel_rfl
theorem add40 : (evAll ctx 200).1 16 [.ptr 12 0, .agg (pt 40)] (HS 40) = some (.int .i64 0, HT 40) := by kernel_rfl
theorem adb40 : (evAll ctx 200).1 16 [.ptr 12 0, .agg (pt 40)] (HT 40) = some (.int .i64 37, HS 41) := by kernel_rfl
theorem add41 : (evAll ctx 200).1 16 [.ptr 12 0, .agg (pt 41)] (HS 41) = some (.int .i64 0, HT 41) := by kernel_rfl
theorem adb41 : (evAll ctx 200).1 16 [.ptr 12 0, .agg (pt 41)] (HT 41) = some (.int .i64 37, HS 42) := by kernel_rfl
theorem add42 : (evAll ctx 200).1 16 [.ptr 12 0, .agg (pt 42)] (HS 42) = some (.int .i64 0, HT 42) := by kernel_rfl
theorem adb42 : (evAll ctx 200).1 16 [.ptr 12 0, .agg (pt 42)] (HT 42) = some (.int .i64 37, HS 43) := by kernel_rfl
theorem add43 : (evAll ctx 200).1 16 [.ptr 12 0, .agg (pt 43)] (HS 43) = some (.int .i64 0, HT 43) := by kernel_rfl
theorem adb43 : (evAll ctx 200).1 16 [.ptr 12 0, .agg (pt 43)] (HT 43) = some (.int .i64 37, HS 44) := by kernel_rfl
theorem add44 : (evAll ctx 200).1 16 [.ptr 12 0, .agg (pt 44)] (HS 44) = some (.int .i64 0, HT 44) := by kernel_rfl
theorem adb44 : (evAll ctx 200).1 16 [.ptr 12 0, .agg (pt 44)] (HT 44) = some (.int .i64 37, HS 45) := by kernel_rfl
theorem add45 : (evAll ctx 200).1 16 [.ptr 12 0, .agg (pt 45)] (HS 45) = some (.int .i64 0, HT 45) := by kernel_rfl
theorem adb45 : (evAll ctx 200).1 16 [.ptr 12 0, .agg (pt 45)] (HT 45) = some (.int .i64 37, HS 46) := by kernel_rfl
theorem add46 : (evAll ctx 200).1 16 [.ptr 12 0, .agg (pt 46)] (HS 46) = some (.int .i64 0, HT 46) := by kernel_rfl
theorem adb46 : (evAll ctx 200).1 16 [.ptr 12 0, .agg (pt 46)] (HT 46) = some (.int .i64 37, HS 47) := by kernel_rfl
theorem add47 : (evAll ctx 200).1 16 [.ptr 12 0, .agg (pt 47)] (HS 47) = some (.int .i64 0, HT 47) := by kernel_rfl
theorem adb47 : (evAll ctx 200).1 16 [.ptr 12 0, .agg (pt 47)] (HT 47) = some (.int .i64 37, HS 48) := by kernel_rfl
theorem add48 : (evAll ctx 200).1 16 [.ptr 12 0, .agg (pt 48)] (HS 48) = some (.int .i64 0, HT 48) := by kernel_rfl
theorem adb48 : (evAll ctx 200).1 16 [.ptr 12 0, .agg (pt 48)] (HT 48) = some (.int .i64 37, HS 49) := by kernel_rfl
theorem add49 : (evAll ctx 200).1 16 [.ptr 12 0, .agg (pt 49)] (HS 49) = some (.int .i64 0, HT 49) := by kernel_rfl
theorem adb49 : (evAll ctx 200).1 16 [.ptr 12 0, .agg (pt 49)] (HT 49) = some (.int .i64 37, HS 50) := by kernel_rfl
theorem add50 : (evAll ctx 200).1 16 [.ptr 12 0, .agg (pt 50)] (HS 50) = some (.int .i64 0, HT 50) := by kernel_rfl
theorem adb50 : (evAll ctx 200).1 16 [.ptr 12 0, .agg (pt 50)] (HT 50) = some (.int .i64 37, HS 51) := by kernel_rfl
theorem add51 : (evAll ctx 200).1 16 [.ptr 12 0, .agg (pt 51)] (HS 51) = some (.int .i64 0, HT 51) := by kernel_rfl
theorem adb51 : (evAll ctx 200).1 16 [.ptr 12 0, .agg (pt 51)] (HT 51) = some (.int .i64 37, HS 52) := by kernel_rfl
theorem add52 : (evAll ctx 200).1 16 [.ptr 12 0, .agg (pt 52)] (HS 52) = some (.int .i64 0, HT 52) := by kernel_rfl
theorem adb52 : (evAll ctx 200).1 16 [.ptr 12 0, .agg (pt 52)] (HT 52) = some (.int .i64 37, HS 53) := by kernel_rfl
theorem add53 : (evAll ctx 200).1 16 [.ptr 12 0, .agg (pt 53)] (HS 53) = some (.int .i64 0, HT 53) := by kernel_rfl
theorem adb53 : (evAll ctx 200).1 16 [.ptr 12 0, .agg (pt 53)] (HT 53) = some (.int .i64 37, HS 54) := by kernel_rfl
theorem add54 : (evAll ctx 200).1 16 [.ptr 12 0, .agg (pt 54)] (HS 54) = some (.int .i64 0, HT 54) := by kernel_rfl
theorem adb54 : (evAll ctx 200).1 16 [.ptr 12 0, .agg (pt 54)] (HT 54) = some (.int .i64 37, HS 55) := by kernel_rfl
theorem add55 : (evAll ctx 200).1 16 [.ptr 12 0, .agg (pt 55)] (HS 55) = some (.int .i64 0, HT 55) := by kernel_rfl
theorem adb55 : (evAll ctx 200).1 16 [.ptr 12 0, .agg (pt 55)] (HT 55) = some (.int .i64 37, HS 56) := by kernel_rfl
theorem add56 : (evAll ctx 200).1 16 [.ptr 12 0, .agg (pt 56)] (HS 56) = some (.int .i64 0, HT 56) := by kernel_rfl
theorem adb56 : (evAll ctx 200).1 16 [.ptr 12 0, .agg (pt 56)] (HT 56) = some (.int .i64 37, HS 57) := by kernel_rfl
theorem add57 : (evAll ctx 200).1 16 [.ptr 12 0, .agg (pt 57)] (HS 57) = some (.int .i64 0, HT 57) := by kernel_rfl
theorem adb57 : (evAll ctx 200).1 16 [.ptr 12 0, .agg (pt 57)] (HT 57) = some (.int .i64 37, HS 58) := by kernel_rfl
theorem add58 : (evAll ctx 200).1 16 [.ptr 12 0, .agg (pt 58)] (HS 58) = some (.int .i64 0, HT 58) := by kernel_rfl
theorem adb58 : (evAll ctx 200).1 16 [.ptr 12 0, .agg (pt 58)] (HT 58) = some (.int .i64 37, HS 59) := by kernel_rfl
theorem add59 : (evAll ctx 200).1 16 [.ptr 12 0, .agg (pt 59)] (HS 59) = some (.int .i64 0, HT 59) := by kernel_rfl
theorem adb59 : (evAll ctx 200).1 16 [.ptr 12 0, .agg (pt 59)] (HT 59) = some (.int .i64 37, HS 60) := by kernel_rfl
theorem add60 : (evAll ctx 200).1 16 [.ptr 12 0, .agg (pt 60)] (HS 60) = some (.int .i64 0, HT 60) := by kernel_rfl
theorem adb60 : (evAll ctx 200).1 16 [.ptr 12 0, .agg (pt 60)] (HT 60) = some (.int .i64 37, HS 61) := by kernel_rfl
theorem add61 : (evAll ctx 200).1 16 [.ptr 12 0, .agg (pt 61)] (HS 61) = some (.int .i64 0, HT 61) := by kernel_rfl
theorem adb61 : (evAll ctx 200).1 16 [.ptr 12 0, .agg (pt 61)] (HT 61) = some (.int .i64 37, HS 62) := by kernel_rfl
theorem add62 : (evAll ctx 200).1 16 [.ptr 12 0, .agg (pt 62)] (HS 62) = some (.int .i64 0, HT 62) := by kernel_rfl
theorem adb62 : (evAll ctx 200).1 16 [.ptr 12 0, .agg (pt 62)] (HT 62) = some (.int .i64 37, HS 63) := by kernel_rfl
theorem add63 : (evAll ctx 200).1 16 [.ptr 12 0, .agg (pt 63)] (HS 63) = some (.int .i64 0, HT 63) := by kernel_rfl
theorem adb63 : (evAll ctx 200).1 16 [.ptr 12 0, .agg (pt 63)] (HT 63) = some (.int .i64 37, HS 64) := by kernel_rfl
theorem add64 : (evAll ctx 200).1 16 [.ptr 12 0, .agg (pt 64)] (HS 64) = some (.int .i64 13, HS 64) := by kernel_rfl
theorem add65 : (evAll ctx 200).1 16 [.ptr 12 0, .agg (pt 65)] (HS 64) = some (.int .i64 13, HS 64) := by kernel_rfl
theorem add66 : (evAll ctx 200).1 16 [.ptr 12 0, .agg (pt 66)] (HS 64) = some (.int .i64 13, HS 64) := by kernel_rfl
theorem add67 : (evAll ctx 200).1 16 [.ptr 12 0, .agg (pt 67)] (HS 64) = some (.int .i64 13, HS 64) := by kernel_rfl
theorem add68 : (evAll ctx 200).1 16 [.ptr 12 0, .agg (pt 68)] (HS 64) = some (.int .i64 13, HS 64) := by kernel_rfl
theorem add69 : (evAll ctx 200).1 16 [.ptr 12 0, .agg (pt 69)] (HS 64) = some (.int .i64 13, HS 64) := by kernel_rfl
theorem add70 : (evAll ctx 200).1 16 [.ptr 12 0, .agg (pt 70)] (HS 64) = some (.int .i64 13, HS 64) := by kernel_rfl
theorem add71 : (evAll ctx 200).1 16 [.ptr 12 0, .agg (pt 71)] (HS 64) = some (.int .i64 13, HS 64) := by kernel_rfl
theorem add72 : (evAll ctx 200).1 16 [.ptr 12 0, .agg (pt 72)] (HS 64) = some (.int .i64 13, HS 64) := by kernel_rfl
theorem add73 : (evAll ctx 200).1 16 [.ptr 12 0, .agg (pt 73)] (HS 64) = some (.int .i64 13, HS 64) := by kernel_rfl
theorem add74 : (evAll ctx 200).1 16 [.ptr 12 0, .agg (pt 74)] (HS 64) = some (.int .i64 13, HS 64) := by kernel_rfl
theorem add75 : (evAll ctx 200).1 16 [.ptr 12 0, .agg (pt 75)] (HS 64) = some (.int .i64 13, HS 64) := by kernel_rfl
theorem add76 : (evAll ctx 200).1 16 [.ptr 12 0, .agg (pt 76)] (HS 64) = some (.int .i64 13, HS 64) := by kernel_rfl
theorem add77 : (evAll ctx 200).1 16 [.ptr 12 0, .agg (pt 77)] (HS 64) = some (.int .i64 13, HS 64) := by kernel_rfl
theorem add78 : (evAll ctx 200).1 16 [.ptr 12 0, .agg (pt 78)] (HS 64) = some (.int .i64 13, HS 64) := by kernel_rfl
theorem add79 : (evAll ctx 200).1 16 [.ptr 12 0, .agg (pt 79)] (HS 64) = some (.int .i64 13, HS 64) := by kernel_rfl
theorem add80 : (evAll ctx 200).1 16 [.ptr 12 0, .agg (pt 80)] (HS 64) = some (.int .i64 13, HS 64) := by kernel_rfl
theorem add81 : (evAll ctx 200).1 16 [.ptr 12 0, .agg (pt 81)] (HS 64) = some (.int .i64 13, HS 64) := by kernel_rfl
theorem add82 : (evAll ctx 200).1 16 [.ptr 12 0, .agg (pt 82)] (HS 64) = some (.int .i64 13, HS 64) := by kernel_rfl
theorem add83 : (evAll ctx 200).1 16 [.ptr 12 0, .agg (pt 83)] (HS 64) = some (.int .i64 13, HS 64) := by kernel_rfl
theorem add84 : (evAll ctx 200).1 16 [.ptr 12 0, .agg (pt 84)] (HS 64) = some (.int .i64 13, HS 64) := by kernel_rfl
theorem add85 : (evAll ctx 200).1 16 [.ptr 12 0, .agg (pt 85)] (HS 64) = some (.int .i64 13, HS 64) := by kernel_rfl
theorem add86 : (evAll ctx 200).1 16 [.ptr 12 0, .agg (pt 86)] (HS 64) = some (.int .i64 13, HS 64) := by kernel_rfl
theorem add87 : (evAll ctx 200).1 16 [.ptr 12 0, .agg (pt 87)] (HS 64) = some (.int .i64 13, HS 64) := by kernel_rfl
theorem add88 : (evAll ctx 200).1 16 [.ptr 12 0, .agg (pt 88)] (HS 64) = some (.int .i64 13, HS 64) := by kernel_rfl
theorem add89 : (evAll ctx 200).1 16 [.ptr 12 0, .agg (pt 89)] (HS 64) = some (.int .i64 13, HS 64) := by kernel_rfl
theorem add90 : (evAll ctx 200).1 16 [.ptr 12 0, .agg (pt 90)] (HS 64) = some (.int .i64 13, HS 64) := by kernel_rfl
theorem add91 : (evAll ctx 200).1 16 [.ptr 12 0, .agg (pt 91)] (HS 64) = some (.int .i64 13, HS 64) := by kernel_rfl
theorem add92 : (evAll ctx 200).1 16 [.ptr 12 0, .agg (pt 92)] (HS 64) = some (.int .i64 13, HS 64) := by kernel_rfl
theorem add93 : (evAll ctx 200).1 16 [.ptr 12 0, .agg (pt 93)] (HS 64) = some (.int .i64 13, HS 64) := by kernel_rfl
theorem add94 : (evAll ctx 200).1 16 [.ptr 12 0, .agg (pt 94)] (HS 64) = some (.int .i64 13, HS 64) := by kernel_rfl
theorem add95 : (evAll ctx 200).1 16 [.ptr 12 0, .agg (pt 95)] (HS 64) = some (.int .i64 13, HS 64) := by kernel_rfl
theorem add96 : (evAll ctx 200).1 16 [.ptr 12 0, .agg (pt 96)] (HS 64) = some (.int .i64 13, HS 64) := by kernel_rfl
theorem add97 : (evAll ctx 200).1 16 [.ptr 12 0, .agg (pt 97)] (HS 64) = some (.int .i64 13, HS 64) := by kernel_rfl
theorem add98 : (evAll ctx 200).1 16 [.ptr 12 0, .agg (pt 98)] (HS 64) = some (.int .i64 13, HS 64) := by kernel_rfl
theorem add99 : (evAll ctx 200).1 16 [.ptr 12 0, .agg (pt 99)] (HS 64) = some (.int .i64 13, HS 64) := by kernel_rfl
theorem add_lo : ∀ k, k < 64 → (evAll ctx 200).1 16 [.ptr 12 0, .agg (pt k)] (HS k) = some (.int .i64 0, HT k)
  | 0, _ => add0
  | 1, _ => add1
  | 2, _ => add2
  | 3, _ => add3
  | 4, _ => add4
  | 5, _ => add5
  | 6, _ => add6
  | 7, _ => add7
  | 8, _ => add8
  | 9, _ => add9
  | 10, _ => add10
  | 11, _ => add11
  | 12, _ => add12
  | 13, _ => add13
  | 14, _ => add14
  | 15, _ => add15
  | 16, _ => add16
  | 17, _ => add17
  | 18, _ => add18
  | 19, _ => add19
  | 20, _ => add20
  | 21, _ => add21
  | 22, _ => add22
  | 23, _ => add23
  | 24, _ => add24
  | 25, _ => add25
  | 26, _ => add26
  | 27, _ => add27
  | 28, _ => add28
  | 29, _ => add29
  | 30, _ => add30
  | 31, _ => add31
  | 32, _ => add32
  | 33, _ => add33
  | 34, _ => add34
  | 35, _ => add35
  | 36, _ => add36
  | 37, _ => add37
  | 38, _ => add38
  | 39, _ => add39
  | 40, _ => add40
  | 41, _ => add41
  | 42, _ => add42
  | 43, _ => add43
  | 44, _ => add44
  | 45, _ => add45
  | 46, _ => add46
  | 47, _ => add47
  | 48, _ => add48
  | 49, _ => add49
  | 50, _ => add50
  | 51, _ => add51
  | 52, _ => add52
  | 53, _ => add53
  | 54, _ => add54
  | 55, _ => add55
  | 56, _ => add56
  | 57, _ => add57
  | 58, _ => add58
  | 59, _ => add59
  | 60, _ => add60
  | 61, _ => add61
  | 62, _ => add62
  | 63, _ => add63
  | n + 64, h => absurd h (by omega)
theorem adb_lo : ∀ k, k < 64 → (evAll ctx 200).1 16 [.ptr 12 0, .agg (pt k)] (HT k) = some (.int .i64 37, HS (k + 1))
  | 0, _ => adb0
  | 1, _ => adb1
  | 2, _ => adb2
  | 3, _ => adb3
  | 4, _ => adb4
  | 5, _ => adb5
  | 6, _ => adb6
  | 7, _ => adb7
  | 8, _ => adb8
  | 9, _ => adb9
  | 10, _ => adb10
  | 11, _ => adb11
  | 12, _ => adb12
  | 13, _ => adb13
  | 14, _ => adb14
  | 15, _ => adb15
  | 16, _ => adb16
  | 17, _ => adb17
  | 18, _ => adb18
  | 19, _ => adb19
  | 20, _ => adb20
  | 21, _ => adb21
  | 22, _ => adb22
  | 23, _ => adb23
  | 24, _ => adb24
  | 25, _ => adb25
  | 26, _ => adb26
  | 27, _ => adb27
  | 28, _ => adb28
  | 29, _ => adb29
  | 30, _ => adb30
  | 31, _ => adb31
  | 32, _ => adb32
  | 33, _ => adb33
  | 34, _ => adb34
  | 35, _ => adb35
  | 36, _ => adb36
  | 37, _ => adb37
  | 38, _ => adb38
  | 39, _ => adb39
  | 40, _ => adb40
  | 41, _ => adb41
  | 42, _ => adb42
  | 43, _ => adb43
  | 44, _ => adb44
  | 45, _ => adb45
  | 46, _ => adb46
  | 47, _ => adb47
  | 48, _ => adb48
  | 49, _ => adb49
  | 50, _ => adb50
  | 51, _ => adb51
  | 52, _ => adb52
  | 53, _ => adb53
  | 54, _ => adb54
  | 55, _ => adb55
  | 56, _ => adb56
  | 57, _ => adb57
  | 58, _ => adb58
  | 59, _ => adb59
  | 60, _ => adb60
  | 61, _ => adb61
  | 62, _ => adb62
  | 63, _ => adb63
  | n + 64, h => absurd h (by omega)
theorem add_hi : ∀ k, k < 36 → (evAll ctx 200).1 16 [.ptr 12 0, .agg (pt (64 + k))] (HS 64) = some (.int .i64 13, HS 64)
  | 0, _ => add64
  | 1, _ => add65
  | 2, _ => add66
  | 3, _ => add67
  | 4, _ => add68
  | 5, _ => add69
  | 6, _ => add70
  | 7, _ => add71
  | 8, _ => add72
  | 9, _ => add73
  | 10, _ => add74
  | 11, _ => add75
  | 12, _ => add76
  | 13, _ => add77
  | 14, _ => add78
  | 15, _ => add79
  | 16, _ => add80
  | 17, _ => add81
  | 18, _ => add82
  | 19, _ => add83
  | 20, _ => add84
  | 21, _ => add85
  | 22, _ => add86
  | 23, _ => add87
  | 24, _ => add88
  | 25, _ => add89
  | 26, _ => add90
  | 27, _ => add91
  | 28, _ => add92
  | 29, _ => add93
  | 30, _ => add94
  | 31, _ => add95
  | 32, _ => add96
  | 33, _ => add97
  | 34, _ => add98
  | 35, _ => add99
  | n + 36, h => absurd h (by omega)
end TA
end
