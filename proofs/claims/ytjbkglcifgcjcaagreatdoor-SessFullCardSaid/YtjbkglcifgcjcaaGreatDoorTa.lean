import Derived.Test.YtjbkglcifgcjcaaGreatDoorVc
import Derived.Test.YtjbkglcifgcjcaaGreatDoorChecked
import Derived.KernelRfl
set_option maxRecDepth 1000000
namespace TA
open Go Go.Proofs Dv
def ty3 : TI := { kind := (.int .i64), size := 1, zero := [(.int .i64 0)], bytes := 8, plain := false }
def ty4 : TI := { kind := .bool, size := 1, zero := [(.bool false)], bytes := 1, plain := false }
def ty5 : TI := { kind := (.int .u8), size := 1, zero := [(.int .u8 0)], bytes := 1, plain := false }
def ty9 : TI := { kind := .str, size := 1, zero := [(.str [])], bytes := 16, plain := false }
def ty21 : TI := { kind := (.int .i32), size := 1, zero := [(.int .i32 0)], bytes := 4, plain := false }
def ty22 : TI := { kind := (.slice 74), size := 1, zero := [.nsl], bytes := 24, plain := false }
def ty24 : TI := { kind := (.slice 3), size := 1, zero := [.nsl], bytes := 24, plain := false }
def ty26 : TI := { kind := (.struct [(0, 24)]), size := 1, zero := [.nsl], bytes := 24, plain := true }
def ty35 : TI := { kind := (.ptr 82), size := 1, zero := [.nil], bytes := 8, plain := false }
def ty38 : TI := { kind := (.slice 5), size := 1, zero := [.nsl], bytes := 24, plain := false }
def ty40 : TI := { kind := (.struct [(0, 3), (1, 3), (2, 3), (3, 3)]), size := 4, zero := [(.int .i64 0), (.int .i64 0), (.int .i64 0), (.int .i64 0)], bytes := 32, plain := true }
def ty42 : TI := { kind := (.struct [(0, 3), (1, 3)]), size := 2, zero := [(.int .i64 0), (.int .i64 0)], bytes := 16, plain := true }
def ty43 : TI := { kind := (.int .i64), size := 1, zero := [(.int .i64 0)], bytes := 8, plain := false }
def ty45 : TI := { kind := (.slice 42), size := 1, zero := [.nsl], bytes := 24, plain := false }
def ty47 : TI := { kind := .func, size := 1, zero := [.nilFn], bytes := 8, plain := false }
def ty50 : TI := { kind := (.ptr 69), size := 1, zero := [.nil], bytes := 8, plain := false }
def ty55 : TI := { kind := .func, size := 1, zero := [.nilFn], bytes := 8, plain := false }
def ty56 : TI := { kind := (.slice 127), size := 1, zero := [.nsl], bytes := 24, plain := false }
def ty57 : TI := { kind := (.slice 9), size := 1, zero := [.nsl], bytes := 24, plain := false }
def ty59 : TI := { kind := (.struct [(0, 56), (1, 3), (2, 57)]), size := 3, zero := [.nsl, (.int .i64 0), .nsl], bytes := 56, plain := true }
def ty60 : TI := { kind := (.slice 188), size := 1, zero := [.nsl], bytes := 24, plain := false }
def ty61 : TI := { kind := (.slice 125), size := 1, zero := [.nsl], bytes := 24, plain := false }
def ty62 : TI := { kind := (.slice 191), size := 1, zero := [.nsl], bytes := 24, plain := false }
def ty64 : TI := { kind := (.struct [(0, 60), (1, 61), (2, 62), (3, 3)]), size := 4, zero := [.nsl, .nsl, .nsl, (.int .i64 0)], bytes := 80, plain := true }
def ty66 : TI := { kind := (.struct [(0, 24)]), size := 1, zero := [.nsl], bytes := 24, plain := true }
def ty67 : TI := { kind := (.ptr 150), size := 1, zero := [.nil], bytes := 8, plain := false }
def ty69 : TI := { kind := (.struct [(0, 38), (1, 59), (4, 64), (8, 66), (9, 67), (10, 3), (11, 3)]), size := 12, zero := [.nsl, .nsl, (.int .i64 0), .nsl, .nsl, .nsl, .nsl, (.int .i64 0), .nsl, .nil, (.int .i64 0), (.int .i64 0)], bytes := 208, plain := true }
def ty71 : TI := { kind := (.array 6 3), size := 6, zero := [(.int .i64 0), (.int .i64 0), (.int .i64 0), (.int .i64 0), (.int .i64 0), (.int .i64 0)], bytes := 48, plain := true }
def ty74 : TI := { kind := (.struct [(0, 3), (1, 3), (2, 3), (3, 3), (4, 3), (5, 3), (6, 3), (7, 24)]), size := 8, zero := [(.int .i64 0), (.int .i64 0), (.int .i64 0), (.int .i64 0), (.int .i64 0), (.int .i64 0), (.int .i64 0), .nsl], bytes := 80, plain := true }
def ty75 : TI := { kind := (.slice 24), size := 1, zero := [.nsl], bytes := 24, plain := false }
def ty82 : TI := { kind := (.struct [(0, 50), (1, 3), (2, 74), (10, 45), (11, 3)]), size := 12, zero := [.nil, (.int .i64 0), (.int .i64 0), (.int .i64 0), (.int .i64 0), (.int .i64 0), (.int .i64 0), (.int .i64 0), (.int .i64 0), .nsl, .nsl, (.int .i64 0)], bytes := 128, plain := true }
def ty102 : TI := { kind := (.ptr 146), size := 1, zero := [.nil], bytes := 8, plain := false }
def ty106 : TI := { kind := (.struct [(0, 3), (1, 3), (2, 3)]), size := 3, zero := [(.int .i64 0), (.int .i64 0), (.int .i64 0)], bytes := 24, plain := true }
def ty110 : TI := { kind := (.ptr 113), size := 1, zero := [.nil], bytes := 8, plain := false }
def ty111 : TI := { kind := (.slice 4), size := 1, zero := [.nsl], bytes := 24, plain := false }
def ty113 : TI := { kind := (.struct [(0, 24), (1, 24), (2, 111)]), size := 3, zero := [.nsl, .nsl, .nsl], bytes := 72, plain := true }
def ty119 : TI := { kind := .func, size := 1, zero := [.nilFn], bytes := 8, plain := false }
def ty125 : TI := { kind := (.slice 218), size := 1, zero := [.nsl], bytes := 24, plain := false }
def ty127 : TI := { kind := (.struct [(0, 3), (1, 3), (2, 3), (3, 3), (4, 3), (5, 3), (6, 3), (7, 9), (8, 125), (9, 24)]), size := 10, zero := [(.int .i64 0), (.int .i64 0), (.int .i64 0), (.int .i64 0), (.int .i64 0), (.int .i64 0), (.int .i64 0), (.str []), .nsl, .nsl], bytes := 120, plain := true }
def ty135 : TI := { kind := (.ptr 139), size := 1, zero := [.nil], bytes := 8, plain := false }
def ty136 : TI := { kind := (.slice 183), size := 1, zero := [.nsl], bytes := 24, plain := false }
def ty139 : TI := { kind := (.struct [(0, 64), (4, 59), (7, 136)]), size := 8, zero := [.nsl, .nsl, .nsl, (.int .i64 0), .nsl, (.int .i64 0), .nsl, .nsl], bytes := 160, plain := true }
def ty141 : TI := { kind := (.ptr 195), size := 1, zero := [.nil], bytes := 8, plain := false }
def ty144 : TI := { kind := (.ptr 199), size := 1, zero := [.nil], bytes := 8, plain := false }
def ty146 : TI := { kind := (.struct [(0, 64), (4, 66), (5, 106), (8, 144), (9, 141), (10, 3), (11, 3), (12, 3), (13, 3), (14, 3), (15, 4), (16, 4), (17, 74), (25, 4)]), size := 26, zero := [.nsl, .nsl, .nsl, (.int .i64 0), .nsl, (.int .i64 0), (.int .i64 0), (.int .i64 0), .nil, .nil, (.int .i64 0), (.int .i64 0), (.int .i64 0), (.int .i64 0), (.int .i64 0), (.bool false), (.bool false), (.int .i64 0), (.int .i64 0), (.int .i64 0), (.int .i64 0), (.int .i64 0), (.int .i64 0), (.int .i64 0), .nsl, (.bool false)], bytes := 280, plain := true }
def ty150 : TI := { kind := (.struct [(0, 3), (1, 3), (2, 3), (3, 38), (4, 24), (5, 74)]), size := 13, zero := [(.int .i64 0), (.int .i64 0), (.int .i64 0), .nsl, .nsl, (.int .i64 0), (.int .i64 0), (.int .i64 0), (.int .i64 0), (.int .i64 0), (.int .i64 0), (.int .i64 0), .nsl], bytes := 152, plain := true }
def ty166 : TI := { kind := (.ptr 170), size := 1, zero := [.nil], bytes := 8, plain := false }
def ty168 : TI := { kind := (.struct [(0, 4), (1, 4), (2, 4), (3, 4)]), size := 4, zero := [(.bool false), (.bool false), (.bool false), (.bool false)], bytes := 4, plain := true }
def ty170 : TI := { kind := (.struct [(0, 38), (1, 3), (2, 168), (6, 3), (7, 57), (8, 43), (9, 3)]), size := 10, zero := [.nsl, (.int .i64 0), (.bool false), (.bool false), (.bool false), (.bool false), (.int .i64 0), .nsl, (.int .i64 0), (.int .i64 0)], bytes := 88, plain := true }
def ty171 : TI := { kind := (.slice 173), size := 1, zero := [.nsl], bytes := 24, plain := false }
def ty173 : TI := { kind := (.struct [(0, 127), (10, 171)]), size := 11, zero := [(.int .i64 0), (.int .i64 0), (.int .i64 0), (.int .i64 0), (.int .i64 0), (.int .i64 0), (.int .i64 0), (.str []), .nsl, .nsl, .nsl], bytes := 144, plain := true }
def ty183 : TI := { kind := (.struct [(0, 3), (1, 3)]), size := 2, zero := [(.int .i64 0), (.int .i64 0)], bytes := 16, plain := true }
def ty188 : TI := { kind := (.struct [(0, 3), (1, 3), (2, 3), (3, 3), (4, 3), (5, 3)]), size := 6, zero := [(.int .i64 0), (.int .i64 0), (.int .i64 0), (.int .i64 0), (.int .i64 0), (.int .i64 0)], bytes := 48, plain := true }
def ty191 : TI := { kind := (.struct [(0, 3), (1, 3), (2, 3)]), size := 3, zero := [(.int .i64 0), (.int .i64 0), (.int .i64 0)], bytes := 24, plain := true }
def ty193 : TI := { kind := (.slice 231), size := 1, zero := [.nsl], bytes := 24, plain := false }
def ty195 : TI := { kind := (.struct [(0, 3), (1, 3), (2, 193), (3, 24)]), size := 4, zero := [(.int .i64 0), (.int .i64 0), .nsl, .nsl], bytes := 64, plain := true }
def ty197 : TI := { kind := (.slice 277), size := 1, zero := [.nsl], bytes := 24, plain := false }
def ty199 : TI := { kind := (.struct [(0, 24), (1, 197)]), size := 2, zero := [.nsl, .nsl], bytes := 48, plain := true }
def ty203 : TI := { kind := (.ptr 205), size := 1, zero := [.nil], bytes := 8, plain := false }
def ty205 : TI := { kind := (.struct [(0, 38), (1, 3), (2, 43)]), size := 3, zero := [.nsl, (.int .i64 0), (.int .i64 0)], bytes := 40, plain := true }
def ty206 : TI := { kind := (.ptr 3), size := 1, zero := [.nil], bytes := 8, plain := false }
def ty207 : TI := { kind := (.array 6 206), size := 6, zero := [.nil, .nil, .nil, .nil, .nil, .nil], bytes := 48, plain := true }
def ty211 : TI := { kind := .func, size := 1, zero := [.nilFn], bytes := 8, plain := false }
def ty218 : TI := { kind := (.struct [(0, 3), (1, 3)]), size := 2, zero := [(.int .i64 0), (.int .i64 0)], bytes := 16, plain := true }
def ty220 : TI := { kind := (.map 3 3), size := 1, zero := [.nmp], bytes := 8, plain := false }
def ty222 : TI := { kind := (.slice 225), size := 1, zero := [.nsl], bytes := 24, plain := false }
def ty225 : TI := { kind := (.struct [(0, 3), (1, 3)]), size := 2, zero := [(.int .i64 0), (.int .i64 0)], bytes := 16, plain := true }
def ty227 : TI := { kind := (.int .u64), size := 1, zero := [(.int .u64 0)], bytes := 8, plain := false }
def ty231 : TI := { kind := (.struct [(0, 4), (1, 3), (2, 3), (3, 3), (4, 3), (5, 3)]), size := 6, zero := [(.bool false), (.int .i64 0), (.int .i64 0), (.int .i64 0), (.int .i64 0), (.int .i64 0)], bytes := 48, plain := true }
def ty246 : TI := { kind := (.int .u64), size := 1, zero := [(.int .u64 0)], bytes := 8, plain := false }
def ty267 : TI := { kind := .func, size := 1, zero := [.nilFn], bytes := 8, plain := false }
def ty268 : TI := { kind := (.int .u32), size := 1, zero := [(.int .u32 0)], bytes := 4, plain := false }
def ty277 : TI := { kind := (.struct [(0, 3), (1, 3)]), size := 2, zero := [(.int .i64 0), (.int .i64 0)], bytes := 16, plain := true }
def ty284 : TI := { kind := (.array 7 3), size := 7, zero := [(.int .i64 0), (.int .i64 0), (.int .i64 0), (.int .i64 0), (.int .i64 0), (.int .i64 0), (.int .i64 0)], bytes := 56, plain := true }
def ty291 : TI := { kind := (.struct [(0, 3), (1, 3), (2, 3), (3, 3)]), size := 4, zero := [(.int .i64 0), (.int .i64 0), (.int .i64 0), (.int .i64 0)], bytes := 32, plain := true }
def ty302 : TI := { kind := .func, size := 1, zero := [.nilFn], bytes := 8, plain := false }
def ty316 : TI := { kind := (.array 256 5), size := 256, zero := [(.int .u8 0), (.int .u8 0), (.int .u8 0), (.int .u8 0), (.int .u8 0), (.int .u8 0), (.int .u8 0), (.int .u8 0), (.int .u8 0), (.int .u8 0), (.int .u8 0), (.int .u8 0), (.int .u8 0), (.int .u8 0), (.int .u8 0), (.int .u8 0), (.int .u8 0), (.int .u8 0), (.int .u8 0), (.int .u8 0), (.int .u8 0), (.int .u8 0), (.int .u8 0), (.int .u8 0), (.int .u8 0), (.int .u8 0), (.int .u8 0), (.int .u8 0), (.int .u8 0), (.int .u8 0), (.int .u8 0), (.int .u8 0), (.int .u8 0), (.int .u8 0), (.int .u8 0), (.int .u8 0), (.int .u8 0), (.int .u8 0), (.int .u8 0), (.int .u8 0), (.int .u8 0), (.int .u8 0), (.int .u8 0), (.int .u8 0), (.int .u8 0), (.int .u8 0), (.int .u8 0), (.int .u8 0), (.int .u8 0), (.int .u8 0), (.int .u8 0), (.int .u8 0), (.int .u8 0), (.int .u8 0), (.int .u8 0), (.int .u8 0), (.int .u8 0), (.int .u8 0), (.int .u8 0), (.int .u8 0), (.int .u8 0), (.int .u8 0), (.int .u8 0), (.int .u8 0), (.int .u8 0), (.int .u8 0), (.int .u8 0), (.int .u8 0), (.int .u8 0), (.int .u8 0), (.int .u8 0), (.int .u8 0), (.int .u8 0), (.int .u8 0), (.int .u8 0), (.int .u8 0), (.int .u8 0), (.int .u8 0), (.int .u8 0), (.int .u8 0), (.int .u8 0), (.int .u8 0), (.int .u8 0), (.int .u8 0), (.int .u8 0), (.int .u8 0), (.int .u8 0), (.int .u8 0), (.int .u8 0), (.int .u8 0), (.int .u8 0), (.int .u8 0), (.int .u8 0), (.int .u8 0), (.int .u8 0), (.int .u8 0), (.int .u8 0), (.int .u8 0), (.int .u8 0), (.int .u8 0), (.int .u8 0), (.int .u8 0), (.int .u8 0), (.int .u8 0), (.int .u8 0), (.int .u8 0), (.int .u8 0), (.int .u8 0), (.int .u8 0), (.int .u8 0), (.int .u8 0), (.int .u8 0), (.int .u8 0), (.int .u8 0), (.int .u8 0), (.int .u8 0), (.int .u8 0), (.int .u8 0), (.int .u8 0), (.int .u8 0), (.int .u8 0), (.int .u8 0), (.int .u8 0), (.int .u8 0), (.int .u8 0), (.int .u8 0), (.int .u8 0), (.int .u8 0), (.int .u8 0), (.int .u8 0), (.int .u8 0), (.int .u8 0), (.int .u8 0), (.int .u8 0), (.int .u8 0), (.int .u8 0), (.int .u8 0), (.int .u8 0), (.int .u8 0), (.int .u8 0), (.int .u8 0), (.int .u8 0), (.int .u8 0), (.int .u8 0), (.int .u8 0), (.int .u8 0), (.int .u8 0), (.int .u8 0), (.int .u8 0), (.int .u8 0), (.int .u8 0), (.int .u8 0), (.int .u8 0), (.int .u8 0), (.int .u8 0), (.int .u8 0), (.int .u8 0), (.int .u8 0), (.int .u8 0), (.int .u8 0), (.int .u8 0), (.int .u8 0), (.int .u8 0), (.int .u8 0), (.int .u8 0), (.int .u8 0), (.int .u8 0), (.int .u8 0), (.int .u8 0), (.int .u8 0), (.int .u8 0), (.int .u8 0), (.int .u8 0), (.int .u8 0), (.int .u8 0), (.int .u8 0), (.int .u8 0), (.int .u8 0), (.int .u8 0), (.int .u8 0), (.int .u8 0), (.int .u8 0), (.int .u8 0), (.int .u8 0), (.int .u8 0), (.int .u8 0), (.int .u8 0), (.int .u8 0), (.int .u8 0), (.int .u8 0), (.int .u8 0), (.int .u8 0), (.int .u8 0), (.int .u8 0), (.int .u8 0), (.int .u8 0), (.int .u8 0), (.int .u8 0), (.int .u8 0), (.int .u8 0), (.int .u8 0), (.int .u8 0), (.int .u8 0), (.int .u8 0), (.int .u8 0), (.int .u8 0), (.int .u8 0), (.int .u8 0), (.int .u8 0), (.int .u8 0), (.int .u8 0), (.int .u8 0), (.int .u8 0), (.int .u8 0), (.int .u8 0), (.int .u8 0), (.int .u8 0), (.int .u8 0), (.int .u8 0), (.int .u8 0), (.int .u8 0), (.int .u8 0), (.int .u8 0), (.int .u8 0), (.int .u8 0), (.int .u8 0), (.int .u8 0), (.int .u8 0), (.int .u8 0), (.int .u8 0), (.int .u8 0), (.int .u8 0), (.int .u8 0), (.int .u8 0), (.int .u8 0), (.int .u8 0), (.int .u8 0), (.int .u8 0), (.int .u8 0), (.int .u8 0), (.int .u8 0), (.int .u8 0), (.int .u8 0), (.int .u8 0), (.int .u8 0), (.int .u8 0), (.int .u8 0), (.int .u8 0), (.int .u8 0), (.int .u8 0), (.int .u8 0), (.int .u8 0), (.int .u8 0), (.int .u8 0), (.int .u8 0), (.int .u8 0)], bytes := 256, plain := true }
def ty318 : TI := { kind := (.struct [(0, 5), (1, 5)]), size := 2, zero := [(.int .u8 0), (.int .u8 0)], bytes := 2, plain := true }
def ty319 : TI := { kind := (.array 16 318), size := 32, zero := [(.int .u8 0), (.int .u8 0), (.int .u8 0), (.int .u8 0), (.int .u8 0), (.int .u8 0), (.int .u8 0), (.int .u8 0), (.int .u8 0), (.int .u8 0), (.int .u8 0), (.int .u8 0), (.int .u8 0), (.int .u8 0), (.int .u8 0), (.int .u8 0), (.int .u8 0), (.int .u8 0), (.int .u8 0), (.int .u8 0), (.int .u8 0), (.int .u8 0), (.int .u8 0), (.int .u8 0), (.int .u8 0), (.int .u8 0), (.int .u8 0), (.int .u8 0), (.int .u8 0), (.int .u8 0), (.int .u8 0), (.int .u8 0)], bytes := 32, plain := true }
def ty332 : TI := { kind := (.struct [(0, 3), (1, 3), (2, 9), (3, 168), (7, 4)]), size := 8, zero := [(.int .i64 0), (.int .i64 0), (.str []), (.bool false), (.bool false), (.bool false), (.bool false), (.bool false)], bytes := 40, plain := true }
def ty335 : TI := { kind := (.struct [(0, 3), (1, 3), (2, 3), (3, 9), (4, 125)]), size := 5, zero := [(.int .i64 0), (.int .i64 0), (.int .i64 0), (.str []), .nsl], bytes := 64, plain := true }
def ty340 : TI := { kind := (.int .u64), size := 1, zero := [(.int .u64 0)], bytes := 8, plain := false }
def ty359 : TI := { kind := (.slice 363), size := 1, zero := [.nsl], bytes := 24, plain := false }
def ty363 : TI := { kind := (.struct [(0, 9), (1, 125)]), size := 2, zero := [(.str []), .nsl], bytes := 40, plain := true }
def ty364 : TI := { kind := .func, size := 1, zero := [.nilFn], bytes := 8, plain := false }
def ty365 : TI := { kind := (.slice 368), size := 1, zero := [.nsl], bytes := 24, plain := false }
def ty368 : TI := { kind := (.struct [(0, 3), (1, 3), (2, 3), (3, 3)]), size := 4, zero := [(.int .i64 0), (.int .i64 0), (.int .i64 0), (.int .i64 0)], bytes := 32, plain := true }
def ty369 : TI := { kind := (.slice 372), size := 1, zero := [.nsl], bytes := 24, plain := false }
def ty372 : TI := { kind := (.struct [(0, 3), (1, 3)]), size := 2, zero := [(.int .i64 0), (.int .i64 0)], bytes := 16, plain := true }
def tiT : TTree := (.n (.n (.n (.n (.n (.n (.n .e 3 ty3 .e) 4 ty4 .e) 5 ty5 (.n (.n .e 9 ty9 .e) 21 ty21 .e)) 22 ty22 (.n (.n (.n .e 24 ty24 .e) 26 ty26 .e) 35 ty35 (.n (.n .e 38 ty38 .e) 40 ty40 .e))) 42 ty42 (.n (.n (.n (.n .e 43 ty43 .e) 45 ty45 .e) 47 ty47 (.n (.n .e 50 ty50 .e) 55 ty55 .e)) 56 ty56 (.n (.n (.n .e 57 ty57 .e) 59 ty59 .e) 60 ty60 (.n .e 61 ty61 .e)))) 62 ty62 (.n (.n (.n (.n (.n .e 64 ty64 .e) 66 ty66 .e) 67 ty67 (.n (.n .e 69 ty69 .e) 71 ty71 .e)) 74 ty74 (.n (.n (.n .e 75 ty75 .e) 82 ty82 .e) 102 ty102 (.n .e 106 ty106 .e))) 110 ty110 (.n (.n (.n (.n .e 111 ty111 .e) 113 ty113 .e) 119 ty119 (.n (.n .e 125 ty125 .e) 127 ty127 .e)) 135 ty135 (.n (.n (.n .e 136 ty136 .e) 139 ty139 .e) 141 ty141 (.n .e 144 ty144 .e))))) 146 ty146 (.n (.n (.n (.n (.n (.n .e 150 ty150 .e) 166 ty166 .e) 168 ty168 (.n (.n .e 170 ty170 .e) 171 ty171 .e)) 173 ty173 (.n (.n (.n .e 183 ty183 .e) 188 ty188 .e) 191 ty191 (.n (.n .e 193 ty193 .e) 195 ty195 .e))) 197 ty197 (.n (.n (.n (.n .e 199 ty199 .e) 203 ty203 .e) 205 ty205 (.n (.n .e 206 ty206 .e) 207 ty207 .e)) 211 ty211 (.n (.n (.n .e 218 ty218 .e) 220 ty220 .e) 222 ty222 (.n .e 225 ty225 .e)))) 227 ty227 (.n (.n (.n (.n (.n .e 231 ty231 .e) 246 ty246 .e) 267 ty267 (.n (.n .e 268 ty268 .e) 277 ty277 .e)) 284 ty284 (.n (.n (.n .e 291 ty291 .e) 302 ty302 .e) 316 ty316 (.n .e 318 ty318 .e))) 319 ty319 (.n (.n (.n (.n .e 332 ty332 .e) 335 ty335 .e) 340 ty340 (.n (.n .e 359 ty359 .e) 363 ty363 .e)) 364 ty364 (.n (.n (.n .e 365 ty365 .e) 368 ty368 .e) 369 ty369 (.n .e 372 ty372 .e))))))
/-- clew/clewlaw24.GrowKids -/
def pol3 : Pol := { mode := .P, nt := 71, locs := [3], lits := [], plan := [] }
noncomputable def fi3 : FI := { code := Tryz.f3.body.getD .skip, ntmps := 71, results := Tryz.f3.results.toList, pol := pol3 }
/-- clew/clewlaw24.GrowPaths -/
def pol4 : Pol := { mode := .P, nt := 86, locs := [5], lits := [], plan := [] }
noncomputable def fi4 : FI := { code := Tryz.f4.body.getD .skip, ntmps := 86, results := Tryz.f4.results.toList, pol := pol4 }
/-- clew/clewlaw24.GrowWalks -/
def pol5 : Pol := { mode := .P, nt := 33, locs := [], lits := [], plan := [] }
noncomputable def fi5 : FI := { code := Tryz.f5.body.getD .skip, ntmps := 33, results := Tryz.f5.results.toList, pol := pol5 }
/-- clew/clewlaw23.SessFull -/
def pol6 : Pol := { mode := .P, nt := 63, locs := [6], lits := [17, 19], plan := [] }
noncomputable def fi6 : FI := { code := Tryz.f6.body.getD .skip, ntmps := 63, results := Tryz.f6.results.toList, pol := pol6 }
/-- clew/clewlaw24.anchor -/
def pol8 : Pol := { mode := .P, nt := 47, locs := [4, 5], lits := [8, 10], plan := [(11, [(2, []), (5, []), (0, []), (1, []), (3, []), (4, []), (6, []), (7, []), (8, [])])] }
noncomputable def fi8 : FI := { code := Tryz.f8.body.getD .skip, ntmps := 47, results := Tryz.f8.results.toList, pol := pol8 }
/-- clew/clewlaw24.tree -/
def pol9 : Pol := { mode := .P, nt := 5, locs := [2], lits := [], plan := [] }
noncomputable def fi9 : FI := { code := Tryz.f9.body.getD .skip, ntmps := 5, results := Tryz.f9.results.toList, pol := pol9 }
/-- (clew/grow.Tree).Kids -/
def pol10 : Pol := { mode := .P, nt := 36, locs := [2], lits := [], plan := [] }
noncomputable def fi10 : FI := { code := Tryz.f10.body.getD .skip, ntmps := 36, results := Tryz.f10.results.toList, pol := pol10 }
/-- (clew/grow.Tree).Path -/
def pol11 : Pol := { mode := .P, nt := 51, locs := [2], lits := [], plan := [(8, [(0, []), (1, []), (2, []), (3, []), (4, []), (5, []), (8, []), (9, []), (6, []), (7, []), (10, []), (11, []), (12, []), (13, []), (14, []), (15, [])])] }
noncomputable def fi11 : FI := { code := Tryz.f11.body.getD .skip, ntmps := 51, results := Tryz.f11.results.toList, pol := pol11 }
/-- (clew/grow.Tree).Level -/
def pol12 : Pol := { mode := .P, nt := 11, locs := [2], lits := [], plan := [] }
noncomputable def fi12 : FI := { code := Tryz.f12.body.getD .skip, ntmps := 11, results := Tryz.f12.results.toList, pol := pol12 }
/-- (clew/grow.Tree).Walk -/
def pol13 : Pol := { mode := .P, nt := 4, locs := [], lits := [], plan := [] }
noncomputable def fi13 : FI := { code := Tryz.f13.body.getD .skip, ntmps := 4, results := Tryz.f13.results.toList, pol := pol13 }
/-- clew/clewlaw23.anchor -/
def pol14 : Pol := { mode := .P, nt := 48, locs := [], lits := [7, 9], plan := [] }
noncomputable def fi14 : FI := { code := Tryz.f14.body.getD .skip, ntmps := 48, results := Tryz.f14.results.toList, pol := pol14 }
/-- clew/clewlaw23.begun -/
def pol15 : Pol := { mode := .H, nt := 55, locs := [5, 13], lits := [], plan := [(10, [(0, []), (2, []), (1, [2]), (3, []), (4, [])])] }
noncomputable def fi15 : FI := { code := Tryz.f15.body.getD .skip, ntmps := 55, results := Tryz.f15.results.toList, pol := pol15 }
/-- (*clew/sess.Session).Add -/
def pol16 : Pol := { mode := .H, nt := 40, locs := [3], lits := [], plan := [(1, [(1, []), (0, []), (2, []), (3, []), (4, []), (5, []), (6, []), (7, []), (8, []), (9, []), (10, [])]), (3, [(0, []), (1, []), (2, []), (3, []), (4, []), (5, []), (6, [])]), (7, [(0, []), (1, []), (2, []), (3, []), (4, []), (5, []), (6, [2, 3, 4]), (7, []), (8, []), (9, []), (10, [])])] }
noncomputable def fi16 : FI := { code := Tryz.f16.body.getD .skip, ntmps := 40, results := Tryz.f16.results.toList, pol := pol16 }
/-- (*clew/sess.Session).Points -/
def pol17 : Pol := { mode := .H, nt := 8, locs := [], lits := [], plan := [] }
noncomputable def fi17 : FI := { code := Tryz.f17.body.getD .skip, ntmps := 8, results := Tryz.f17.results.toList, pol := pol17 }
/-- clew/rec.Make -/
def pol21 : Pol := { mode := .P, nt := 87, locs := [5, 9, 12], lits := [36], plan := [(9, [(1, []), (3, []), (4, []), (6, []), (0, [3, 4, 6]), (2, [3, 4, 6]), (5, [3, 6]), (7, []), (8, []), (9, [])]), (10, [(0, []), (1, []), (2, []), (3, []), (4, []), (5, []), (6, []), (7, []), (8, []), (9, []), (10, []), (11, []), (12, []), (13, []), (14, []), (15, [])])] }
noncomputable def fi21 : FI := { code := Tryz.f21.body.getD .skip, ntmps := 87, results := Tryz.f21.results.toList, pol := pol21 }
/-- clew/grow.Of -/
def pol22 : Pol := { mode := .H, nt := 19, locs := [5], lits := [], plan := [] }
noncomputable def fi22 : FI := { code := Tryz.f22.body.getD .skip, ntmps := 19, results := Tryz.f22.results.toList, pol := pol22 }
/-- (*clew/tape.Tape).All -/
def pol23 : Pol := { mode := .H, nt := 4, locs := [], lits := [], plan := [] }
noncomputable def fi23 : FI := { code := Tryz.f23.body.getD .skip, ntmps := 4, results := Tryz.f23.results.toList, pol := pol23 }
/-- clew/clewlaw24.tree$1 -/
def pol24 : Pol := { mode := .H, nt := 18, locs := [4], lits := [], plan := [] }
noncomputable def fi24 : FI := { code := Tryz.f24.body.getD .skip, ntmps := 18, results := Tryz.f24.results.toList, pol := pol24 }
/-- (clew/grow.Tree).Walk$1 -/
def pol25 : Pol := { mode := .H, nt := 51, locs := [], lits := [], plan := [] }
noncomputable def fi25 : FI := { code := Tryz.f25.body.getD .skip, ntmps := 51, results := Tryz.f25.results.toList, pol := pol25 }
/-- (clew/grow.Tree).under -/
def pol26 : Pol := { mode := .H, nt := 52, locs := [4], lits := [13], plan := [] }
noncomputable def fi26 : FI := { code := Tryz.f26.body.getD .skip, ntmps := 52, results := Tryz.f26.results.toList, pol := pol26 }
/-- (*clew/sess.Session).Again -/
def pol27 : Pol := { mode := .H, nt := 5, locs := [], lits := [], plan := [] }
noncomputable def fi27 : FI := { code := Tryz.f27.body.getD .skip, ntmps := 5, results := Tryz.f27.results.toList, pol := pol27 }
/-- (*clew/sess.Session).Cursor -/
def pol28 : Pol := { mode := .H, nt := 7, locs := [], lits := [], plan := [] }
noncomputable def fi28 : FI := { code := Tryz.f28.body.getD .skip, ntmps := 7, results := Tryz.f28.results.toList, pol := pol28 }
/-- clew/sess.New -/
def pol29 : Pol := { mode := .H, nt := 10, locs := [], lits := [], plan := [] }
noncomputable def fi29 : FI := { code := Tryz.f29.body.getD .skip, ntmps := 10, results := Tryz.f29.results.toList, pol := pol29 }
/-- (clew/point.Point).Right -/
def pol30 : Pol := { mode := .P, nt := 38, locs := [2, 3], lits := [], plan := [] }
noncomputable def fi30 : FI := { code := Tryz.f30.body.getD .skip, ntmps := 38, results := Tryz.f30.results.toList, pol := pol30 }
/-- slices.Contains[[]clew/point.Point,clew/point.Point] -/
def pol31 : Pol := { mode := .P, nt := 9, locs := [3], lits := [], plan := [] }
noncomputable def fi31 : FI := { code := Tryz.f31.body.getD .skip, ntmps := 9, results := Tryz.f31.results.toList, pol := pol31 }
/-- slices.Clone[[]clew/point.Point,clew/point.Point] -/
def pol32 : Pol := { mode := .H, nt := 8, locs := [], lits := [5], plan := [] }
noncomputable def fi32 : FI := { code := Tryz.f32.body.getD .skip, ntmps := 8, results := Tryz.f32.results.toList, pol := pol32 }
/-- (clew/rec.Limits).Right -/
def pol38 : Pol := { mode := .P, nt := 43, locs := [1], lits := [], plan := [] }
noncomputable def fi38 : FI := { code := Tryz.f38.body.getD .skip, ntmps := 43, results := Tryz.f38.results.toList, pol := pol38 }
/-- clew/well.Of -/
def pol39 : Pol := { mode := .P, nt := 32, locs := [2, 5], lits := [], plan := [] }
noncomputable def fi39 : FI := { code := Tryz.f39.body.getD .skip, ntmps := 32, results := Tryz.f39.results.toList, pol := pol39 }
/-- clew/text.New -/
def pol40 : Pol := { mode := .P, nt := 13, locs := [2], lits := [], plan := [] }
noncomputable def fi40 : FI := { code := Tryz.f40.body.getD .skip, ntmps := 13, results := Tryz.f40.results.toList, pol := pol40 }
/-- clew/comp.Compile -/
def pol41 : Pol := { mode := .P, nt := 27, locs := [1, 2], lits := [], plan := [(1, [(0, []), (1, []), (2, [0]), (3, []), (4, []), (5, [])])] }
noncomputable def fi41 : FI := { code := Tryz.f41.body.getD .skip, ntmps := 27, results := Tryz.f41.results.toList, pol := pol41 }
/-- clew/vm.New -/
def pol42 : Pol := { mode := .H, nt := 67, locs := [3, 4, 5], lits := [], plan := [(3, [(0, []), (1, []), (2, []), (3, []), (4, []), (5, []), (6, []), (7, []), (8, []), (9, []), (10, []), (11, []), (12, []), (13, []), (14, []), (15, []), (16, []), (17, [14, 15]), (18, []), (19, [])])] }
noncomputable def fi42 : FI := { code := Tryz.f42.body.getD .skip, ntmps := 67, results := Tryz.f42.results.toList, pol := pol42 }
/-- clew/tape.New -/
def pol43 : Pol := { mode := .H, nt := 35, locs := [], lits := [], plan := [] }
noncomputable def fi43 : FI := { code := Tryz.f43.body.getD .skip, ntmps := 35, results := Tryz.f43.results.toList, pol := pol43 }
/-- (*clew/rec.Record).record -/
def pol44 : Pol := { mode := .H, nt := 28, locs := [4], lits := [], plan := [(3, [(0, []), (1, []), (2, []), (3, []), (4, []), (5, []), (6, [])])] }
noncomputable def fi44 : FI := { code := Tryz.f44.body.getD .skip, ntmps := 28, results := Tryz.f44.results.toList, pol := pol44 }
/-- (*clew/vm.Machine).Most -/
def pol45 : Pol := { mode := .H, nt := 8, locs := [], lits := [], plan := [] }
noncomputable def fi45 : FI := { code := Tryz.f45.body.getD .skip, ntmps := 8, results := Tryz.f45.results.toList, pol := pol45 }
/-- (*clew/grow.grower).add -/
def pol46 : Pol := { mode := .H, nt := 46, locs := [3], lits := [], plan := [] }
noncomputable def fi46 : FI := { code := Tryz.f46.body.getD .skip, ntmps := 46, results := Tryz.f46.results.toList, pol := pol46 }
/-- (*clew/tape.Tape).All$1 -/
def pol47 : Pol := { mode := .H, nt := 24, locs := [3], lits := [], plan := [] }
noncomputable def fi47 : FI := { code := Tryz.f47.body.getD .skip, ntmps := 24, results := Tryz.f47.results.toList, pol := pol47 }
/-- (*clew/tape.Tape).Len -/
def pol48 : Pol := { mode := .H, nt := 8, locs := [], lits := [], plan := [] }
noncomputable def fi48 : FI := { code := Tryz.f48.body.getD .skip, ntmps := 8, results := Tryz.f48.results.toList, pol := pol48 }
/-- (*clew/tape.Tape).After -/
def pol49 : Pol := { mode := .H, nt := 64, locs := [4, 6, 8], lits := [], plan := [(5, [(3, []), (0, []), (1, []), (2, []), (4, []), (5, []), (6, []), (7, []), (8, []), (9, [])]), (7, [(17, []), (1, []), (5, []), (9, []), (0, []), (2, []), (3, []), (4, []), (6, []), (7, []), (8, []), (10, []), (11, []), (12, []), (13, []), (14, []), (15, []), (16, []), (18, []), (19, []), (20, [])])] }
noncomputable def fi49 : FI := { code := Tryz.f49.body.getD .skip, ntmps := 64, results := Tryz.f49.results.toList, pol := pol49 }
/-- (clew/event.State).Own -/
def pol50 : Pol := { mode := .H, nt := 8, locs := [1, 2], lits := [], plan := [] }
noncomputable def fi50 : FI := { code := Tryz.f50.body.getD .skip, ntmps := 8, results := Tryz.f50.results.toList, pol := pol50 }
/-- (*clew/sess.Session).seek -/
def pol51 : Pol := { mode := .H, nt := 39, locs := [5], lits := [], plan := [(5, [(0, []), (1, []), (2, []), (3, []), (4, []), (5, []), (6, []), (7, []), (8, []), (9, []), (10, [])]), (7, [(0, []), (2, []), (1, []), (3, []), (4, []), (5, []), (6, [])])] }
noncomputable def fi51 : FI := { code := Tryz.f51.body.getD .skip, ntmps := 39, results := Tryz.f51.results.toList, pol := pol51 }
/-- clew/sess.back -/
def pol52 : Pol := { mode := .P, nt := 13, locs := [2, 3], lits := [], plan := [] }
noncomputable def fi52 : FI := { code := Tryz.f52.body.getD .skip, ntmps := 13, results := Tryz.f52.results.toList, pol := pol52 }
/-- (*clew/sess.Session).land -/
def pol53 : Pol := { mode := .H, nt := 24, locs := [], lits := [], plan := [] }
noncomputable def fi53 : FI := { code := Tryz.f53.body.getD .skip, ntmps := 24, results := Tryz.f53.results.toList, pol := pol53 }
/-- clew/point.within -/
def pol54 : Pol := { mode := .P, nt := 15, locs := [], lits := [], plan := [] }
noncomputable def fi54 : FI := { code := Tryz.f54.body.getD .skip, ntmps := 15, results := Tryz.f54.results.toList, pol := pol54 }
/-- slices.Index[[]clew/point.Point,clew/point.Point] -/
def pol55 : Pol := { mode := .P, nt := 19, locs := [3], lits := [], plan := [(4, [(1, []), (2, []), (0, []), (3, []), (4, []), (5, [])])] }
noncomputable def fi55 : FI := { code := Tryz.f55.body.getD .skip, ntmps := 19, results := Tryz.f55.results.toList, pol := pol55 }
/-- (*clew/tape.Tape).Block -/
def pol56 : Pol := { mode := .H, nt := 42, locs := [7], lits := [], plan := [] }
noncomputable def fi56 : FI := { code := Tryz.f56.body.getD .skip, ntmps := 42, results := Tryz.f56.results.toList, pol := pol56 }
/-- clew/parse.Parse -/
def pol62 : Pol := { mode := .P, nt := 85, locs := [2, 6, 7, 9], lits := [15], plan := [(8, [(0, []), (1, []), (5, []), (2, []), (3, []), (4, []), (6, []), (7, []), (8, []), (9, [2, 3, 4, 6, 7, 8]), (10, []), (11, [])]), (9, [(11, []), (2, []), (6, []), (0, []), (3, []), (4, []), (5, []), (7, []), (8, []), (9, []), (1, [3, 4, 5, 7, 8, 9]), (10, []), (12, [])]), (14, [(2, []), (3, []), (0, []), (1, []), (4, []), (5, []), (6, []), (7, []), (8, []), (9, [0, 1]), (10, []), (11, []), (12, []), (13, [])])] }
noncomputable def fi62 : FI := { code := Tryz.f62.body.getD .skip, ntmps := 85, results := Tryz.f62.results.toList, pol := pol62 }
/-- clew/well.Check -/
def pol63 : Pol := { mode := .P, nt := 27, locs := [1, 6], lits := [], plan := [(7, [(0, []), (3, []), (1, []), (2, []), (4, [])])] }
noncomputable def fi63 : FI := { code := Tryz.f63.body.getD .skip, ntmps := 27, results := Tryz.f63.results.toList, pol := pol63 }
/-- clew/sym.All -/
def pol64 : Pol := { mode := .P, nt := 15, locs := [], lits := [], plan := [] }
noncomputable def fi64 : FI := { code := Tryz.f64.body.getD .skip, ntmps := 15, results := Tryz.f64.results.toList, pol := pol64 }
/-- clew/well.Widths -/
def pol65 : Pol := { mode := .P, nt := 28, locs := [1], lits := [], plan := [] }
noncomputable def fi65 : FI := { code := Tryz.f65.body.getD .skip, ntmps := 28, results := Tryz.f65.results.toList, pol := pol65 }
/-- (*clew/comp.maker).make -/
def pol66 : Pol := { mode := .H, nt := 85, locs := [4], lits := [], plan := [] }
noncomputable def fi66 : FI := { code := Tryz.f66.body.getD .skip, ntmps := 85, results := Tryz.f66.results.toList, pol := pol66 }
/-- (*clew/comp.maker).add -/
def pol67 : Pol := { mode := .H, nt := 33, locs := [], lits := [], plan := [] }
noncomputable def fi67 : FI := { code := Tryz.f67.body.getD .skip, ntmps := 33, results := Tryz.f67.results.toList, pol := pol67 }
/-- (clew/code.Program).Right -/
def pol68 : Pol := { mode := .P, nt := 95, locs := [1, 6, 8], lits := [], plan := [] }
noncomputable def fi68 : FI := { code := Tryz.f68.body.getD .skip, ntmps := 95, results := Tryz.f68.results.toList, pol := pol68 }
/-- (clew/text.Text).Len -/
def pol69 : Pol := { mode := .P, nt := 6, locs := [1], lits := [], plan := [] }
noncomputable def fi69 : FI := { code := Tryz.f69.body.getD .skip, ntmps := 6, results := Tryz.f69.results.toList, pol := pol69 }
/-- clew/pile.New -/
def pol70 : Pol := { mode := .H, nt := 13, locs := [], lits := [], plan := [] }
noncomputable def fi70 : FI := { code := Tryz.f70.body.getD .skip, ntmps := 13, results := Tryz.f70.results.toList, pol := pol70 }
/-- clew/undo.New -/
def pol71 : Pol := { mode := .H, nt := 18, locs := [], lits := [13], plan := [] }
noncomputable def fi71 : FI := { code := Tryz.f71.body.getD .skip, ntmps := 18, results := Tryz.f71.results.toList, pol := pol71 }
/-- (*clew/vm.Machine).marks -/
def pol72 : Pol := { mode := .H, nt := 15, locs := [], lits := [], plan := [] }
noncomputable def fi72 : FI := { code := Tryz.f72.body.getD .skip, ntmps := 15, results := Tryz.f72.results.toList, pol := pol72 }
/-- (*clew/vm.Machine).Next -/
def pol73 : Pol := { mode := .H, nt := 64, locs := [2], lits := [], plan := [(1, [(0, []), (1, []), (2, []), (3, []), (4, []), (5, []), (6, []), (10, []), (7, []), (8, []), (9, []), (11, []), (12, []), (13, []), (14, []), (15, []), (16, [])])] }
noncomputable def fi73 : FI := { code := Tryz.f73.body.getD .skip, ntmps := 64, results := Tryz.f73.results.toList, pol := pol73 }
/-- (*clew/vm.Machine).Stop -/
def pol74 : Pol := { mode := .H, nt := 7, locs := [], lits := [], plan := [] }
noncomputable def fi74 : FI := { code := Tryz.f74.body.getD .skip, ntmps := 7, results := Tryz.f74.results.toList, pol := pol74 }
/-- (*clew/tape.Tape).Add -/
def pol75 : Pol := { mode := .H, nt := 85, locs := [3, 5], lits := [], plan := [(2, [(0, []), (2, []), (3, []), (4, []), (5, []), (1, [3, 4, 5]), (6, []), (7, [])]), (5, [(1, []), (0, []), (2, []), (3, []), (4, []), (5, []), (6, []), (7, []), (8, []), (9, []), (10, []), (11, [])]), (7, [(0, []), (5, []), (8, []), (1, []), (2, []), (3, []), (4, []), (6, []), (7, []), (9, []), (10, []), (11, []), (12, []), (13, [])]), (9, [(0, []), (1, []), (5, []), (2, []), (3, []), (4, []), (6, []), (7, []), (8, []), (9, []), (10, [2, 3, 4]), (11, []), (12, []), (13, []), (14, [])])] }
noncomputable def fi75 : FI := { code := Tryz.f75.body.getD .skip, ntmps := 85, results := Tryz.f75.results.toList, pol := pol75 }
/-- (*clew/pile.Pile).Most -/
def pol76 : Pol := { mode := .H, nt := 7, locs := [], lits := [], plan := [] }
noncomputable def fi76 : FI := { code := Tryz.f76.body.getD .skip, ntmps := 7, results := Tryz.f76.results.toList, pol := pol76 }
/-- (*clew/grow.grower).from -/
def pol77 : Pol := { mode := .H, nt := 58, locs := [3], lits := [], plan := [(4, [(0, []), (1, []), (2, []), (3, []), (4, []), (5, []), (6, []), (9, []), (7, []), (8, []), (10, []), (11, []), (12, []), (13, []), (14, []), (15, []), (16, []), (17, []), (18, []), (19, []), (20, []), (21, []), (22, []), (23, []), (24, []), (25, []), (26, [])])] }
noncomputable def fi77 : FI := { code := Tryz.f77.body.getD .skip, ntmps := 58, results := Tryz.f77.results.toList, pol := pol77 }
/-- (*clew/grow.grower).cut -/
def pol78 : Pol := { mode := .H, nt := 57, locs := [], lits := [], plan := [(0, [(0, []), (1, []), (2, []), (3, []), (4, []), (5, []), (6, []), (7, []), (11, []), (19, []), (8, []), (9, []), (10, []), (12, []), (13, []), (14, []), (15, []), (16, []), (17, []), (18, []), (20, []), (21, [])]), (1, [(0, []), (4, []), (8, []), (1, []), (2, []), (3, []), (5, []), (6, []), (7, []), (9, []), (10, []), (11, []), (12, []), (13, []), (14, []), (15, []), (16, []), (17, [])]), (2, [(0, []), (1, []), (5, []), (2, []), (3, []), (4, []), (6, []), (7, []), (8, []), (9, []), (10, []), (11, []), (12, []), (13, []), (14, [])])] }
noncomputable def fi78 : FI := { code := Tryz.f78.body.getD .skip, ntmps := 57, results := Tryz.f78.results.toList, pol := pol78 }
/-- clew/event.Blank -/
def pol79 : Pol := { mode := .P, nt := 19, locs := [2, 3], lits := [], plan := [] }
noncomputable def fi79 : FI := { code := Tryz.f79.body.getD .skip, ntmps := 19, results := Tryz.f79.results.toList, pol := pol79 }
/-- clew/delta.Read -/
def pol80 : Pol := { mode := .P, nt := 101, locs := [3, 6], lits := [], plan := [(17, [(0, []), (1, []), (2, []), (3, []), (4, []), (5, []), (6, []), (7, []), (8, [6]), (9, []), (10, []), (11, [])]), (20, [(0, []), (1, []), (2, []), (3, []), (4, []), (5, [2, 3, 4]), (6, []), (7, [])]), (21, [(1, []), (5, []), (0, []), (2, []), (3, []), (4, []), (6, []), (7, [2, 3, 4]), (8, []), (9, [])])] }
noncomputable def fi80 : FI := { code := Tryz.f80.body.getD .skip, ntmps := 101, results := Tryz.f80.results.toList, pol := pol80 }
/-- slices.Clone[[]int,int] -/
def pol81 : Pol := { mode := .H, nt := 8, locs := [], lits := [5], plan := [] }
noncomputable def fi81 : FI := { code := Tryz.f81.body.getD .skip, ntmps := 8, results := Tryz.f81.results.toList, pol := pol81 }
/-- (*clew/sess.Session).last -/
def pol82 : Pol := { mode := .H, nt := 11, locs := [], lits := [], plan := [(1, [(0, []), (4, []), (1, []), (2, []), (3, []), (5, [1, 2, 3]), (6, []), (7, []), (8, [])])] }
noncomputable def fi82 : FI := { code := Tryz.f82.body.getD .skip, ntmps := 11, results := Tryz.f82.results.toList, pol := pol82 }
/-- (*clew/sess.Session).next -/
def pol83 : Pol := { mode := .H, nt := 31, locs := [5, 6, 7], lits := [], plan := [(1, [(14, []), (0, []), (8, []), (9, []), (1, []), (2, []), (3, []), (4, []), (5, []), (6, []), (7, []), (10, []), (11, []), (12, []), (13, []), (15, []), (16, [])])] }
noncomputable def fi83 : FI := { code := Tryz.f83.body.getD .skip, ntmps := 31, results := Tryz.f83.results.toList, pol := pol83 }
/-- (*clew/sess.Session).block -/
def pol84 : Pol := { mode := .H, nt := 29, locs := [], lits := [], plan := [] }
noncomputable def fi84 : FI := { code := Tryz.f84.body.getD .skip, ntmps := 29, results := Tryz.f84.results.toList, pol := pol84 }
/-- (*clew/parse.parser).alt -/
def pol91 : Pol := { mode := .H, nt := 54, locs := [4], lits := [14], plan := [] }
noncomputable def fi91 : FI := { code := Tryz.f91.body.getD .skip, ntmps := 54, results := Tryz.f91.results.toList, pol := pol91 }
/-- (*clew/parse.parser).over -/
def pol92 : Pol := { mode := .H, nt := 20, locs := [], lits := [], plan := [(1, [(0, []), (1, []), (2, []), (3, []), (4, []), (5, []), (6, []), (10, []), (7, []), (8, []), (9, []), (11, []), (12, []), (13, []), (14, []), (15, []), (16, []), (17, [])])] }
noncomputable def fi92 : FI := { code := Tryz.f92.body.getD .skip, ntmps := 20, results := Tryz.f92.results.toList, pol := pol92 }
/-- (*clew/parse.parser).fail -/
def pol93 : Pol := { mode := .H, nt := 19, locs := [], lits := [], plan := [] }
noncomputable def fi93 : FI := { code := Tryz.f93.body.getD .skip, ntmps := 19, results := Tryz.f93.results.toList, pol := pol93 }
/-- clew/parse.number -/
def pol94 : Pol := { mode := .H, nt := 38, locs := [2, 8], lits := [], plan := [] }
noncomputable def fi94 : FI := { code := Tryz.f94.body.getD .skip, ntmps := 38, results := Tryz.f94.results.toList, pol := pol94 }
/-- slices.Index[[]string,string] -/
def pol95 : Pol := { mode := .P, nt := 19, locs := [], lits := [], plan := [] }
noncomputable def fi95 : FI := { code := Tryz.f95.body.getD .skip, ntmps := 19, results := Tryz.f95.results.toList, pol := pol95 }
/-- clew/well.fault -/
def pol96 : Pol := { mode := .P, nt := 53, locs := [3, 4, 7], lits := [], plan := [] }
noncomputable def fi96 : FI := { code := Tryz.f96.body.getD .skip, ntmps := 53, results := Tryz.f96.results.toList, pol := pol96 }
/-- clew/sym.Each -/
def pol97 : Pol := { mode := .P, nt := 4, locs := [], lits := [], plan := [] }
noncomputable def fi97 : FI := { code := Tryz.f97.body.getD .skip, ntmps := 4, results := Tryz.f97.results.toList, pol := pol97 }
/-- clew/well.of -/
def pol98 : Pol := { mode := .H, nt := 86, locs := [2, 4, 5, 8], lits := [], plan := [(10, [(0, []), (1, []), (2, []), (3, []), (4, []), (5, []), (6, []), (7, []), (8, []), (9, []), (10, []), (11, []), (12, [])]), (16, [(1, []), (2, []), (0, []), (3, []), (4, []), (5, []), (6, [])]), (24, [(1, []), (2, []), (0, []), (3, []), (4, []), (5, []), (6, [])])] }
noncomputable def fi98 : FI := { code := Tryz.f98.body.getD .skip, ntmps := 86, results := Tryz.f98.results.toList, pol := pol98 }
/-- (*clew/comp.maker).alt -/
def pol99 : Pol := { mode := .H, nt := 69, locs := [], lits := [], plan := [(8, [(0, []), (5, []), (6, []), (1, []), (2, []), (3, []), (4, []), (7, [1, 2, 3, 4]), (8, []), (9, []), (10, [])]), (14, [(0, []), (5, []), (6, []), (1, []), (2, []), (3, []), (4, []), (7, [1, 2, 3, 4]), (8, []), (9, []), (10, [])])] }
noncomputable def fi99 : FI := { code := Tryz.f99.body.getD .skip, ntmps := 69, results := Tryz.f99.results.toList, pol := pol99 }
/-- (*clew/comp.maker).repeat -/
def pol100 : Pol := { mode := .H, nt := 100, locs := [5], lits := [], plan := [(2, [(0, []), (1, []), (2, []), (3, []), (4, []), (5, []), (6, []), (7, []), (8, []), (9, []), (10, []), (11, []), (12, []), (13, [2, 3, 4, 5]), (14, []), (15, []), (16, []), (17, []), (18, [])]), (14, [(0, []), (5, []), (6, []), (1, []), (2, []), (3, []), (4, []), (7, [1, 2, 3, 4]), (8, []), (9, []), (10, [])]), (16, [(0, []), (5, []), (6, []), (1, []), (2, []), (3, []), (4, []), (7, [1, 2, 3, 4]), (8, []), (9, []), (10, [])])] }
noncomputable def fi100 : FI := { code := Tryz.f100.body.getD .skip, ntmps := 100, results := Tryz.f100.results.toList, pol := pol100 }
/-- (*clew/comp.maker).look -/
def pol101 : Pol := { mode := .H, nt := 72, locs := [5, 8], lits := [], plan := [(4, [(10, []), (0, []), (1, []), (2, []), (3, []), (4, []), (5, []), (6, []), (7, []), (8, []), (9, []), (11, [])]), (12, [(0, []), (5, []), (6, []), (1, []), (2, []), (3, []), (4, []), (7, [1, 2, 3, 4]), (8, []), (9, []), (10, [])])] }
noncomputable def fi101 : FI := { code := Tryz.f101.body.getD .skip, ntmps := 72, results := Tryz.f101.results.toList, pol := pol101 }
/-- (*clew/comp.maker).leaf -/
def pol102 : Pol := { mode := .H, nt := 49, locs := [5], lits := [], plan := [(3, [(0, []), (1, []), (2, []), (3, []), (4, []), (5, []), (6, []), (7, []), (8, [2, 3, 4, 5]), (9, []), (10, []), (11, []), (12, []), (13, [])])] }
noncomputable def fi102 : FI := { code := Tryz.f102.body.getD .skip, ntmps := 49, results := Tryz.f102.results.toList, pol := pol102 }
/-- (*clew/comp.maker).here -/
def pol103 : Pol := { mode := .H, nt := 9, locs := [], lits := [], plan := [] }
noncomputable def fi103 : FI := { code := Tryz.f103.body.getD .skip, ntmps := 9, results := Tryz.f103.results.toList, pol := pol103 }
/-- clew/code.within -/
def pol104 : Pol := { mode := .P, nt := 15, locs := [], lits := [], plan := [] }
noncomputable def fi104 : FI := { code := Tryz.f104.body.getD .skip, ntmps := 15, results := Tryz.f104.results.toList, pol := pol104 }
/-- clew/rset.Right -/
def pol105 : Pol := { mode := .P, nt := 7, locs := [], lits := [], plan := [] }
noncomputable def fi105 : FI := { code := Tryz.f105.body.getD .skip, ntmps := 7, results := Tryz.f105.results.toList, pol := pol105 }
/-- (clew/code.Count).right -/
def pol106 : Pol := { mode := .P, nt := 45, locs := [1], lits := [], plan := [] }
noncomputable def fi106 : FI := { code := Tryz.f106.body.getD .skip, ntmps := 45, results := Tryz.f106.results.toList, pol := pol106 }
/-- (clew/code.Program).names -/
def pol107 : Pol := { mode := .P, nt := 119, locs := [3, 5], lits := [], plan := [] }
noncomputable def fi107 : FI := { code := Tryz.f107.body.getD .skip, ntmps := 119, results := Tryz.f107.results.toList, pol := pol107 }
/-- (clew/code.Program).balanced -/
def pol108 : Pol := { mode := .P, nt := 79, locs := [1, 7], lits := [12], plan := [(6, [(2, []), (5, []), (6, []), (0, []), (1, []), (3, []), (4, []), (7, []), (8, []), (9, [])]), (8, [(0, []), (3, []), (6, []), (7, []), (11, []), (1, []), (2, []), (4, []), (5, []), (8, []), (9, []), (10, [])])] }
noncomputable def fi108 : FI := { code := Tryz.f108.body.getD .skip, ntmps := 79, results := Tryz.f108.results.toList, pol := pol108 }
/-- slices.Repeat[[]int,int] -/
def pol109 : Pol := { mode := .H, nt := 48, locs := [], lits := [], plan := [(9, [(0, []), (1, []), (2, []), (3, []), (4, []), (5, []), (6, []), (7, []), (8, []), (9, [])])] }
noncomputable def fi109 : FI := { code := Tryz.f109.body.getD .skip, ntmps := 48, results := Tryz.f109.results.toList, pol := pol109 }
/-- (*clew/vm.Machine).counts -/
def pol110 : Pol := { mode := .H, nt := 15, locs := [], lits := [], plan := [] }
noncomputable def fi110 : FI := { code := Tryz.f110.body.getD .skip, ntmps := 15, results := Tryz.f110.results.toList, pol := pol110 }
/-- (*clew/vm.Machine).back -/
def pol111 : Pol := { mode := .H, nt := 96, locs := [2, 4], lits := [], plan := [(3, [(0, []), (1, []), (2, []), (3, []), (4, []), (5, []), (6, [])]), (4, [(0, []), (1, []), (2, []), (3, []), (4, []), (5, []), (6, []), (7, []), (8, [4, 5]), (9, []), (10, []), (11, [])]), (5, [(9, []), (0, []), (1, []), (2, []), (3, []), (4, []), (5, []), (6, []), (7, []), (8, []), (10, [])]), (8, [(0, []), (3, []), (1, []), (2, []), (4, []), (5, []), (6, []), (7, []), (8, []), (9, []), (10, [])])] }
noncomputable def fi111 : FI := { code := Tryz.f111.body.getD .skip, ntmps := 96, results := Tryz.f111.results.toList, pol := pol111 }
/-- (*clew/vm.Machine).step -/
def pol112 : Pol := { mode := .H, nt := 201, locs := [2], lits := [], plan := [(0, [(11, []), (0, []), (5, []), (1, []), (2, []), (3, []), (4, []), (6, []), (7, []), (8, []), (9, []), (10, []), (12, [])]), (4, [(0, []), (1, []), (6, []), (10, []), (14, []), (2, []), (3, []), (4, []), (5, []), (7, []), (8, []), (9, []), (11, []), (12, []), (13, []), (15, []), (16, []), (17, []), (18, []), (19, []), (20, []), (21, []), (22, []), (24, []), (23, [2, 3, 4, 24]), (25, [])]), (6, [(0, []), (1, []), (7, []), (2, []), (3, []), (4, []), (5, []), (6, []), (8, []), (9, []), (10, []), (12, []), (11, [12]), (13, [])]), (11, [(0, []), (3, []), (7, []), (1, []), (2, []), (4, []), (5, []), (6, []), (8, []), (9, []), (10, []), (11, []), (12, [])]), (19, [(0, []), (4, []), (8, []), (1, []), (2, []), (3, []), (5, []), (6, []), (9, []), (10, []), (11, []), (7, [1, 2, 3, 9, 10, 11]), (12, [])]), (23, [(0, []), (4, []), (1, []), (2, []), (3, []), (5, []), (6, []), (7, [1, 2, 3]), (8, []), (9, []), (10, []), (11, []), (12, []), (13, [])])] }
noncomputable def fi112 : FI := { code := Tryz.f112.body.getD .skip, ntmps := 201, results := Tryz.f112.results.toList, pol := pol112 }
/-- clew/delta.Bytes -/
def pol113 : Pol := { mode := .P, nt := 76, locs := [2, 3, 6, 7], lits := [], plan := [(1, [(0, []), (1, []), (2, []), (3, []), (4, []), (5, []), (6, [4]), (7, []), (8, []), (9, [])]), (3, [(4, []), (5, []), (0, []), (2, []), (1, [2]), (3, []), (6, []), (7, [])]), (9, [(0, []), (3, []), (1, []), (2, []), (4, []), (5, []), (6, [])]), (11, [(0, []), (1, []), (4, []), (2, []), (3, []), (5, []), (6, []), (7, []), (8, []), (9, []), (10, [])])] }
noncomputable def fi113 : FI := { code := Tryz.f113.body.getD .skip, ntmps := 76, results := Tryz.f113.results.toList, pol := pol113 }
/-- (clew/event.State).Right -/
def pol114 : Pol := { mode := .P, nt := 62, locs := [2], lits := [], plan := [] }
noncomputable def fi114 : FI := { code := Tryz.f114.body.getD .skip, ntmps := 62, results := Tryz.f114.results.toList, pol := pol114 }
/-- clew/delta.base -/
def pol115 : Pol := { mode := .P, nt := 19, locs := [1], lits := [], plan := [(1, [(0, []), (1, []), (2, [0]), (3, []), (4, []), (5, []), (6, []), (7, []), (8, []), (9, []), (10, []), (11, [9]), (12, [9]), (13, []), (14, []), (15, []), (16, [])])] }
noncomputable def fi115 : FI := { code := Tryz.f115.body.getD .skip, ntmps := 19, results := Tryz.f115.results.toList, pol := pol115 }
/-- (*clew/delta.reader).number -/
def pol116 : Pol := { mode := .H, nt := 50, locs := [], lits := [], plan := [(3, [(0, []), (4, []), (1, []), (2, []), (3, []), (5, []), (6, []), (7, []), (8, []), (9, []), (10, []), (11, []), (12, []), (13, []), (14, []), (15, [])])] }
noncomputable def fi116 : FI := { code := Tryz.f116.body.getD .skip, ntmps := 50, results := Tryz.f116.results.toList, pol := pol116 }
/-- (*clew/delta.reader).more -/
def pol117 : Pol := { mode := .H, nt := 51, locs := [], lits := [], plan := [(3, [(0, []), (4, []), (1, []), (2, []), (3, []), (5, []), (6, []), (7, []), (8, []), (9, []), (10, []), (11, []), (12, []), (13, []), (14, []), (15, [])])] }
noncomputable def fi117 : FI := { code := Tryz.f117.body.getD .skip, ntmps := 51, results := Tryz.f117.results.toList, pol := pol117 }
/-- (*clew/delta.reader).places -/
def pol118 : Pol := { mode := .H, nt := 68, locs := [], lits := [], plan := [] }
noncomputable def fi118 : FI := { code := Tryz.f118.body.getD .skip, ntmps := 68, results := Tryz.f118.results.toList, pol := pol118 }
/-- clew/delta.groups -/
def pol119 : Pol := { mode := .P, nt := 8, locs := [1], lits := [], plan := [] }
noncomputable def fi119 : FI := { code := Tryz.f119.body.getD .skip, ntmps := 8, results := Tryz.f119.results.toList, pol := pol119 }
/-- (*clew/sess.Session).Len -/
def pol120 : Pol := { mode := .H, nt := 11, locs := [], lits := [], plan := [] }
noncomputable def fi120 : FI := { code := Tryz.f120.body.getD .skip, ntmps := 11, results := Tryz.f120.results.toList, pol := pol120 }
/-- (*clew/parse.parser).row -/
def pol123 : Pol := { mode := .H, nt := 48, locs := [4], lits := [], plan := [(10, [(0, []), (5, []), (6, []), (14, []), (1, []), (2, []), (3, []), (4, []), (7, []), (8, []), (9, []), (10, []), (11, []), (12, []), (13, []), (15, []), (16, [])])] }
noncomputable def fi123 : FI := { code := Tryz.f123.body.getD .skip, ntmps := 48, results := Tryz.f123.results.toList, pol := pol123 }
/-- (*clew/parse.parser).byteAt -/
def pol124 : Pol := { mode := .H, nt := 19, locs := [], lits := [], plan := [] }
noncomputable def fi124 : FI := { code := Tryz.f124.body.getD .skip, ntmps := 19, results := Tryz.f124.results.toList, pol := pol124 }
/-- clew/sym.Each$1 -/
def pol125 : Pol := { mode := .H, nt := 24, locs := [], lits := [], plan := [] }
noncomputable def fi125 : FI := { code := Tryz.f125.body.getD .skip, ntmps := 24, results := Tryz.f125.results.toList, pol := pol125 }
/-- clew/sym.At -/
def pol126 : Pol := { mode := .P, nt := 38, locs := [], lits := [], plan := [] }
noncomputable def fi126 : FI := { code := Tryz.f126.body.getD .skip, ntmps := 38, results := Tryz.f126.results.toList, pol := pol126 }
/-- (clew/well.Width).times -/
def pol127 : Pol := { mode := .P, nt := 34, locs := [3, 6, 7], lits := [], plan := [] }
noncomputable def fi127 : FI := { code := Tryz.f127.body.getD .skip, ntmps := 34, results := Tryz.f127.results.toList, pol := pol127 }
/-- (clew/well.Width).add -/
def pol128 : Pol := { mode := .P, nt := 29, locs := [2, 3, 4, 5], lits := [], plan := [] }
noncomputable def fi128 : FI := { code := Tryz.f128.body.getD .skip, ntmps := 29, results := Tryz.f128.results.toList, pol := pol128 }
/-- (clew/well.Width).or -/
def pol129 : Pol := { mode := .P, nt := 27, locs := [2, 3, 4, 5], lits := [], plan := [] }
noncomputable def fi129 : FI := { code := Tryz.f129.body.getD .skip, ntmps := 27, results := Tryz.f129.results.toList, pol := pol129 }
/-- (*clew/comp.maker).way -/
def pol130 : Pol := { mode := .H, nt := 21, locs := [], lits := [], plan := [] }
noncomputable def fi130 : FI := { code := Tryz.f130.body.getD .skip, ntmps := 21, results := Tryz.f130.results.toList, pol := pol130 }
/-- slices.Equal[[]clew/rset.Range,clew/rset.Range] -/
def pol131 : Pol := { mode := .P, nt := 26, locs := [], lits := [], plan := [(6, [(0, []), (1, []), (4, []), (5, []), (2, []), (3, []), (6, []), (7, []), (8, [])])] }
noncomputable def fi131 : FI := { code := Tryz.f131.body.getD .skip, ntmps := 26, results := Tryz.f131.results.toList, pol := pol131 }
/-- clew/rset.Make -/
def pol132 : Pol := { mode := .P, nt := 73, locs := [5, 6, 10], lits := [], plan := [(15, [(0, []), (1, []), (2, []), (5, []), (6, []), (7, []), (3, []), (4, []), (8, []), (9, []), (10, []), (11, []), (12, []), (13, [])]), (16, [(0, []), (1, []), (2, []), (3, []), (4, []), (5, []), (6, []), (7, []), (8, []), (9, []), (10, []), (11, []), (12, []), (13, []), (14, [])])] }
noncomputable def fi132 : FI := { code := Tryz.f132.body.getD .skip, ntmps := 73, results := Tryz.f132.results.toList, pol := pol132 }
/-- (clew/code.Program).goes -/
def pol133 : Pol := { mode := .P, nt := 161, locs := [3, 5], lits := [], plan := [] }
noncomputable def fi133 : FI := { code := Tryz.f133.body.getD .skip, ntmps := 161, results := Tryz.f133.results.toList, pol := pol133 }
/-- clew/code.barred -/
def pol134 : Pol := { mode := .P, nt := 19, locs := [2], lits := [], plan := [] }
noncomputable def fi134 : FI := { code := Tryz.f134.body.getD .skip, ntmps := 19, results := Tryz.f134.results.toList, pol := pol134 }
/-- clew/code.leads -/
def pol135 : Pol := { mode := .P, nt := 79, locs := [4, 7], lits := [25, 32, 44, 51, 66, 78], plan := [] }
noncomputable def fi135 : FI := { code := Tryz.f135.body.getD .skip, ntmps := 79, results := Tryz.f135.results.toList, pol := pol135 }
/-- math/bits.Mul -/
def pol136 : Pol := { mode := .P, nt := 30, locs := [], lits := [], plan := [] }
noncomputable def fi136 : FI := { code := Tryz.f136.body.getD .skip, ntmps := 30, results := Tryz.f136.results.toList, pol := pol136 }
/-- (*clew/vm.Machine).opens -/
def pol137 : Pol := { mode := .H, nt := 14, locs := [], lits := [], plan := [] }
noncomputable def fi137 : FI := { code := Tryz.f137.body.getD .skip, ntmps := 14, results := Tryz.f137.results.toList, pol := pol137 }
/-- (*clew/pile.Pile).Pop -/
def pol138 : Pol := { mode := .H, nt := 45, locs := [2, 4], lits := [], plan := [(4, [(0, []), (1, []), (5, []), (2, []), (3, []), (4, []), (6, []), (7, []), (8, []), (9, []), (10, []), (11, []), (12, []), (13, []), (14, [])]), (6, [(0, []), (1, []), (5, []), (2, []), (3, []), (4, []), (6, []), (7, []), (8, []), (9, []), (10, []), (11, []), (12, []), (13, []), (14, [])])] }
noncomputable def fi138 : FI := { code := Tryz.f138.body.getD .skip, ntmps := 45, results := Tryz.f138.results.toList, pol := pol138 }
/-- (*clew/vm.Machine).attempt -/
def pol139 : Pol := { mode := .H, nt := 69, locs := [], lits := [], plan := [(2, [(0, []), (1, []), (2, []), (3, []), (4, []), (5, []), (9, []), (6, []), (7, []), (8, []), (10, []), (11, []), (12, []), (13, [6, 7, 8]), (14, []), (15, [])])] }
noncomputable def fi139 : FI := { code := Tryz.f139.body.getD .skip, ntmps := 69, results := Tryz.f139.results.toList, pol := pol139 }
/-- (*clew/undo.Book).Undo -/
def pol140 : Pol := { mode := .H, nt := 45, locs := [6], lits := [], plan := [(5, [(0, []), (1, []), (2, []), (3, []), (4, []), (5, []), (6, []), (7, []), (8, []), (9, [])]), (6, [(5, []), (0, []), (1, []), (2, []), (3, []), (4, []), (6, []), (7, []), (8, []), (9, [])])] }
noncomputable def fi140 : FI := { code := Tryz.f140.body.getD .skip, ntmps := 45, results := Tryz.f140.results.toList, pol := pol140 }
/-- (*clew/vm.Machine).drop -/
def pol141 : Pol := { mode := .H, nt := 25, locs := [4, 5], lits := [], plan := [] }
noncomputable def fi141 : FI := { code := Tryz.f141.body.getD .skip, ntmps := 25, results := Tryz.f141.results.toList, pol := pol141 }
/-- (*clew/vm.Machine).retreat -/
def pol142 : Pol := { mode := .H, nt := 73, locs := [6, 10], lits := [], plan := [(1, [(12, []), (0, []), (4, []), (8, []), (9, []), (10, []), (1, []), (2, []), (3, []), (5, []), (6, []), (7, []), (11, []), (13, [])])] }
noncomputable def fi142 : FI := { code := Tryz.f142.body.getD .skip, ntmps := 73, results := Tryz.f142.results.toList, pol := pol142 }
/-- (*clew/vm.Machine).wait -/
def pol143 : Pol := { mode := .H, nt := 21, locs := [3], lits := [], plan := [(2, [(0, []), (1, []), (2, []), (3, []), (4, []), (5, []), (6, [])])] }
noncomputable def fi143 : FI := { code := Tryz.f143.body.getD .skip, ntmps := 21, results := Tryz.f143.results.toList, pol := pol143 }
/-- (*clew/vm.Machine).see -/
def pol144 : Pol := { mode := .H, nt := 48, locs := [], lits := [], plan := [(0, [(0, []), (4, []), (1, []), (2, []), (3, []), (5, []), (6, []), (7, []), (8, []), (9, []), (10, []), (11, []), (12, [])]), (1, [(0, []), (1, []), (2, []), (3, []), (4, []), (8, []), (12, []), (17, []), (18, []), (5, []), (6, []), (7, []), (9, []), (10, []), (11, []), (13, []), (14, []), (15, []), (16, [5, 6, 7, 9, 10, 11]), (19, []), (20, []), (21, []), (22, [])])] }
noncomputable def fi144 : FI := { code := Tryz.f144.body.getD .skip, ntmps := 48, results := Tryz.f144.results.toList, pol := pol144 }
/-- (*clew/vm.Machine).eaten -/
def pol145 : Pol := { mode := .H, nt := 28, locs := [7], lits := [], plan := [] }
noncomputable def fi145 : FI := { code := Tryz.f145.body.getD .skip, ntmps := 28, results := Tryz.f145.results.toList, pol := pol145 }
/-- (clew/text.Text).In -/
def pol146 : Pol := { mode := .P, nt := 12, locs := [3], lits := [], plan := [] }
noncomputable def fi146 : FI := { code := Tryz.f146.body.getD .skip, ntmps := 12, results := Tryz.f146.results.toList, pol := pol146 }
/-- (*clew/vm.Machine).held -/
def pol147 : Pol := { mode := .H, nt := 22, locs := [5], lits := [], plan := [] }
noncomputable def fi147 : FI := { code := Tryz.f147.body.getD .skip, ntmps := 22, results := Tryz.f147.results.toList, pol := pol147 }
/-- (clew/text.Text).Hold -/
def pol148 : Pol := { mode := .P, nt := 87, locs := [3], lits := [], plan := [(16, [(1, []), (2, []), (5, []), (0, []), (4, []), (3, [4]), (6, []), (7, []), (8, [])]), (18, [(1, []), (2, []), (5, []), (0, []), (4, []), (3, [4]), (6, []), (7, []), (8, [])])] }
noncomputable def fi148 : FI := { code := Tryz.f148.body.getD .skip, ntmps := 87, results := Tryz.f148.results.toList, pol := pol148 }
/-- (*clew/vm.Machine).again -/
def pol149 : Pol := { mode := .H, nt := 57, locs := [3], lits := [], plan := [(1, [(0, []), (1, []), (2, []), (3, []), (4, []), (5, []), (6, []), (7, []), (8, []), (9, []), (10, []), (11, []), (12, [])]), (2, [(0, []), (1, []), (2, []), (3, []), (4, []), (5, []), (6, []), (7, []), (8, []), (9, []), (10, []), (11, []), (12, []), (13, [])]), (8, [(0, []), (4, []), (5, []), (6, []), (10, []), (1, []), (2, []), (3, []), (7, []), (8, []), (9, []), (11, []), (12, []), (13, []), (14, []), (15, [])])] }
noncomputable def fi149 : FI := { code := Tryz.f149.body.getD .skip, ntmps := 57, results := Tryz.f149.results.toList, pol := pol149 }
/-- (*clew/undo.Book).Set -/
def pol150 : Pol := { mode := .H, nt := 52, locs := [], lits := [], plan := [(4, [(0, []), (1, []), (5, []), (6, []), (10, []), (2, []), (3, []), (4, []), (7, []), (8, []), (9, []), (11, []), (12, []), (13, []), (14, [2, 3, 4]), (15, []), (16, []), (17, []), (18, [])])] }
noncomputable def fi150 : FI := { code := Tryz.f150.body.getD .skip, ntmps := 52, results := Tryz.f150.results.toList, pol := pol150 }
/-- (*clew/undo.Book).Get -/
def pol151 : Pol := { mode := .H, nt := 24, locs := [], lits := [], plan := [] }
noncomputable def fi151 : FI := { code := Tryz.f151.body.getD .skip, ntmps := 24, results := Tryz.f151.results.toList, pol := pol151 }
/-- (*clew/vm.Machine).close -/
def pol152 : Pol := { mode := .H, nt := 26, locs := [], lits := [], plan := [(1, [(0, []), (4, []), (5, []), (6, []), (7, []), (1, []), (2, []), (3, []), (8, []), (9, []), (10, []), (11, [])])] }
noncomputable def fi152 : FI := { code := Tryz.f152.body.getD .skip, ntmps := 26, results := Tryz.f152.results.toList, pol := pol152 }
/-- (*clew/vm.Machine).turn -/
def pol153 : Pol := { mode := .H, nt := 56, locs := [3], lits := [], plan := [(3, [(0, []), (4, []), (1, []), (2, []), (3, []), (5, []), (6, []), (7, [1, 2, 3]), (8, [])]), (6, [(0, []), (4, []), (8, []), (1, []), (2, []), (3, []), (5, []), (6, []), (9, []), (10, []), (11, []), (7, [1, 2, 3, 9, 10, 11]), (12, [])])] }
noncomputable def fi153 : FI := { code := Tryz.f153.body.getD .skip, ntmps := 56, results := Tryz.f153.results.toList, pol := pol153 }
/-- (*clew/vm.Machine).guard -/
def pol154 : Pol := { mode := .H, nt := 87, locs := [3, 4], lits := [], plan := [(3, [(0, []), (1, []), (5, []), (9, []), (2, []), (3, []), (4, []), (6, []), (7, []), (8, []), (10, []), (11, []), (12, []), (13, []), (14, [])]), (7, [(2, []), (0, []), (1, []), (3, []), (4, []), (5, []), (6, [])]), (12, [(2, []), (0, []), (1, []), (3, []), (4, []), (5, []), (6, [])])] }
noncomputable def fi154 : FI := { code := Tryz.f154.body.getD .skip, ntmps := 87, results := Tryz.f154.results.toList, pol := pol154 }
/-- clew/delta.numbers -/
def pol155 : Pol := { mode := .P, nt := 16, locs := [1, 2], lits := [], plan := [] }
noncomputable def fi155 : FI := { code := Tryz.f155.body.getD .skip, ntmps := 16, results := Tryz.f155.results.toList, pol := pol155 }
/-- clew/vint.Signed -/
def pol156 : Pol := { mode := .H, nt := 6, locs := [], lits := [], plan := [] }
noncomputable def fi156 : FI := { code := Tryz.f156.body.getD .skip, ntmps := 6, results := Tryz.f156.results.toList, pol := pol156 }
/-- clew/delta.moved -/
def pol157 : Pol := { mode := .P, nt := 49, locs := [], lits := [], plan := [] }
noncomputable def fi157 : FI := { code := Tryz.f157.body.getD .skip, ntmps := 49, results := Tryz.f157.results.toList, pol := pol157 }
/-- clew/vint.Bytes -/
def pol158 : Pol := { mode := .H, nt := 20, locs := [], lits := [], plan := [] }
noncomputable def fi158 : FI := { code := Tryz.f158.body.getD .skip, ntmps := 20, results := Tryz.f158.results.toList, pol := pol158 }
/-- clew/event.within -/
def pol159 : Pol := { mode := .P, nt := 15, locs := [], lits := [], plan := [] }
noncomputable def fi159 : FI := { code := Tryz.f159.body.getD .skip, ntmps := 15, results := Tryz.f159.results.toList, pol := pol159 }
/-- slices.ContainsFunc[[]int,int] -/
def pol160 : Pol := { mode := .H, nt := 9, locs := [], lits := [], plan := [] }
noncomputable def fi160 : FI := { code := Tryz.f160.body.getD .skip, ntmps := 9, results := Tryz.f160.results.toList, pol := pol160 }
/-- (clew/event.State).Right$1 -/
def pol161 : Pol := { mode := .P, nt := 6, locs := [], lits := [], plan := [] }
noncomputable def fi161 : FI := { code := Tryz.f161.body.getD .skip, ntmps := 6, results := Tryz.f161.results.toList, pol := pol161 }
/-- clew/event.Same -/
def pol162 : Pol := { mode := .P, nt := 45, locs := [2, 3], lits := [], plan := [] }
noncomputable def fi162 : FI := { code := Tryz.f162.body.getD .skip, ntmps := 45, results := Tryz.f162.results.toList, pol := pol162 }
/-- clew/vint.Get -/
def pol163 : Pol := { mode := .P, nt := 65, locs := [], lits := [], plan := [] }
noncomputable def fi163 : FI := { code := Tryz.f163.body.getD .skip, ntmps := 65, results := Tryz.f163.results.toList, pol := pol163 }
/-- clew/vint.GetSigned -/
def pol164 : Pol := { mode := .P, nt := 21, locs := [], lits := [], plan := [] }
noncomputable def fi164 : FI := { code := Tryz.f164.body.getD .skip, ntmps := 21, results := Tryz.f164.results.toList, pol := pol164 }
/-- (*clew/parse.parser).ends -/
def pol169 : Pol := { mode := .H, nt := 25, locs := [], lits := [], plan := [] }
noncomputable def fi169 : FI := { code := Tryz.f169.body.getD .skip, ntmps := 25, results := Tryz.f169.results.toList, pol := pol169 }
/-- (*clew/parse.parser).piece -/
def pol170 : Pol := { mode := .H, nt := 101, locs := [6, 8, 10, 12], lits := [100], plan := [(19, [(13, []), (0, []), (4, []), (1, []), (2, []), (3, []), (5, []), (6, []), (7, []), (8, []), (9, []), (10, []), (11, []), (12, []), (14, []), (15, []), (16, [])])] }
noncomputable def fi170 : FI := { code := Tryz.f170.body.getD .skip, ntmps := 101, results := Tryz.f170.results.toList, pol := pol170 }
/-- unicode/utf8.DecodeRune -/
def pol171 : Pol := { mode := .P, nt := 22, locs := [], lits := [], plan := [] }
noncomputable def fi171 : FI := { code := Tryz.f171.body.getD .skip, ntmps := 22, results := Tryz.f171.results.toList, pol := pol171 }
/-- clew/well.wide -/
def pol172 : Pol := { mode := .P, nt := 6, locs := [], lits := [], plan := [] }
noncomputable def fi172 : FI := { code := Tryz.f172.body.getD .skip, ntmps := 6, results := Tryz.f172.results.toList, pol := pol172 }
/-- clew/rset.clip -/
def pol173 : Pol := { mode := .P, nt := 18, locs := [1, 2], lits := [], plan := [(2, [(0, []), (1, []), (2, []), (3, []), (4, []), (5, []), (6, [1, 2, 3, 4]), (7, [])])] }
noncomputable def fi173 : FI := { code := Tryz.f173.body.getD .skip, ntmps := 18, results := Tryz.f173.results.toList, pol := pol173 }
/-- slices.SortFunc[[]clew/rset.Range,clew/rset.Range] -/
def pol174 : Pol := { mode := .H, nt := 14, locs := [], lits := [], plan := [] }
noncomputable def fi174 : FI := { code := Tryz.f174.body.getD .skip, ntmps := 14, results := Tryz.f174.results.toList, pol := pol174 }
/-- clew/rset.Make$1 -/
def pol175 : Pol := { mode := .P, nt := 17, locs := [2, 3], lits := [15], plan := [(1, [(0, []), (1, []), (2, []), (3, []), (5, []), (6, []), (7, []), (8, []), (4, [5, 6, 7, 8]), (9, []), (10, []), (11, []), (12, [])])] }
noncomputable def fi175 : FI := { code := Tryz.f175.body.getD .skip, ntmps := 17, results := Tryz.f175.results.toList, pol := pol175 }
/-- cmp.Or[int] -/
def pol176 : Pol := { mode := .P, nt := 18, locs := [], lits := [], plan := [] }
noncomputable def fi176 : FI := { code := Tryz.f176.body.getD .skip, ntmps := 18, results := Tryz.f176.results.toList, pol := pol176 }
/-- cmp.Compare[int] -/
def pol177 : Pol := { mode := .P, nt := 20, locs := [], lits := [], plan := [] }
noncomputable def fi177 : FI := { code := Tryz.f177.body.getD .skip, ntmps := 20, results := Tryz.f177.results.toList, pol := pol177 }
/-- (clew/code.Program).ahead -/
def pol178 : Pol := { mode := .P, nt := 17, locs := [3], lits := [], plan := [] }
noncomputable def fi178 : FI := { code := Tryz.f178.body.getD .skip, ntmps := 17, results := Tryz.f178.results.toList, pol := pol178 }
/-- (clew/code.Program).is -/
def pol179 : Pol := { mode := .P, nt := 23, locs := [3], lits := [], plan := [] }
noncomputable def fi179 : FI := { code := Tryz.f179.body.getD .skip, ntmps := 23, results := Tryz.f179.results.toList, pol := pol179 }
/-- (clew/code.Program).next -/
def pol180 : Pol := { mode := .P, nt := 40, locs := [3, 5], lits := [], plan := [(1, [(2, []), (0, []), (1, []), (3, []), (4, []), (5, []), (6, []), (7, []), (8, []), (9, []), (10, []), (11, []), (12, []), (13, []), (14, []), (15, []), (16, []), (17, []), (18, []), (19, []), (20, []), (21, []), (22, []), (30, []), (23, []), (24, []), (25, []), (26, []), (27, []), (28, []), (29, []), (31, []), (32, []), (33, [])])] }
noncomputable def fi180 : FI := { code := Tryz.f180.body.getD .skip, ntmps := 40, results := Tryz.f180.results.toList, pol := pol180 }
/-- math/bits.Mul32 -/
def pol181 : Pol := { mode := .P, nt := 17, locs := [], lits := [], plan := [] }
noncomputable def fi181 : FI := { code := Tryz.f181.body.getD .skip, ntmps := 17, results := Tryz.f181.results.toList, pol := pol181 }
/-- math/bits.Mul64 -/
def pol182 : Pol := { mode := .P, nt := 51, locs := [], lits := [], plan := [] }
noncomputable def fi182 : FI := { code := Tryz.f182.body.getD .skip, ntmps := 51, results := Tryz.f182.results.toList, pol := pol182 }
/-- (*clew/pile.Pile).Top -/
def pol183 : Pol := { mode := .H, nt := 23, locs := [2], lits := [], plan := [(3, [(0, []), (4, []), (1, []), (2, []), (3, []), (5, []), (6, []), (7, []), (8, []), (9, []), (10, []), (11, []), (12, []), (13, [])])] }
noncomputable def fi183 : FI := { code := Tryz.f183.body.getD .skip, ntmps := 23, results := Tryz.f183.results.toList, pol := pol183 }
/-- (*clew/pile.Pile).Clear -/
def pol184 : Pol := { mode := .H, nt := 22, locs := [], lits := [], plan := [(1, [(0, []), (1, []), (2, []), (7, []), (3, []), (4, []), (5, []), (6, []), (8, []), (9, []), (10, []), (11, []), (12, []), (13, []), (14, []), (15, []), (16, []), (17, [])])] }
noncomputable def fi184 : FI := { code := Tryz.f184.body.getD .skip, ntmps := 22, results := Tryz.f184.results.toList, pol := pol184 }
/-- slices.Backward[[]clew/undo.note,clew/undo.note] -/
def pol185 : Pol := { mode := .H, nt := 4, locs := [], lits := [], plan := [] }
noncomputable def fi185 : FI := { code := Tryz.f185.body.getD .skip, ntmps := 4, results := Tryz.f185.results.toList, pol := pol185 }
/-- (*clew/undo.Book).Mark -/
def pol186 : Pol := { mode := .H, nt := 8, locs := [], lits := [], plan := [] }
noncomputable def fi186 : FI := { code := Tryz.f186.body.getD .skip, ntmps := 8, results := Tryz.f186.results.toList, pol := pol186 }
/-- (*clew/pile.Pile).Push -/
def pol187 : Pol := { mode := .H, nt := 54, locs := [3], lits := [], plan := [(1, [(0, []), (5, []), (1, []), (2, []), (3, []), (4, []), (6, []), (7, []), (8, []), (9, [])]), (4, [(0, []), (1, []), (5, []), (2, []), (3, []), (4, []), (6, []), (7, []), (8, []), (9, []), (10, [2, 3, 4]), (11, []), (12, []), (13, []), (14, [])]), (5, [(0, []), (1, []), (2, []), (3, []), (4, []), (5, []), (6, [2, 3, 4]), (7, []), (8, []), (9, []), (10, [])]), (6, [(0, []), (1, []), (5, []), (2, []), (3, []), (4, []), (6, []), (7, []), (8, []), (9, []), (10, []), (11, []), (12, []), (13, [])])] }
noncomputable def fi187 : FI := { code := Tryz.f187.body.getD .skip, ntmps := 54, results := Tryz.f187.results.toList, pol := pol187 }
/-- (*clew/undo.Book).Part -/
def pol188 : Pol := { mode := .H, nt := 34, locs := [], lits := [], plan := [(1, [(0, []), (2, []), (3, []), (1, []), (9, []), (4, []), (5, []), (6, []), (7, []), (8, []), (10, [])])] }
noncomputable def fi188 : FI := { code := Tryz.f188.body.getD .skip, ntmps := 34, results := Tryz.f188.results.toList, pol := pol188 }
/-- (*clew/pile.Pile).Len -/
def pol189 : Pol := { mode := .H, nt := 8, locs := [], lits := [], plan := [] }
noncomputable def fi189 : FI := { code := Tryz.f189.body.getD .skip, ntmps := 8, results := Tryz.f189.results.toList, pol := pol189 }
/-- (*clew/vm.Machine).miss -/
def pol190 : Pol := { mode := .H, nt := 14, locs := [4], lits := [], plan := [] }
noncomputable def fi190 : FI := { code := Tryz.f190.body.getD .skip, ntmps := 14, results := Tryz.f190.results.toList, pol := pol190 }
/-- clew/rset.Has -/
def pol191 : Pol := { mode := .P, nt := 14, locs := [], lits := [], plan := [] }
noncomputable def fi191 : FI := { code := Tryz.f191.body.getD .skip, ntmps := 14, results := Tryz.f191.results.toList, pol := pol191 }
/-- (clew/text.Text).At -/
def pol192 : Pol := { mode := .P, nt := 19, locs := [2], lits := [], plan := [] }
noncomputable def fi192 : FI := { code := Tryz.f192.body.getD .skip, ntmps := 19, results := Tryz.f192.results.toList, pol := pol192 }
/-- (clew/text.Text).word -/
def pol193 : Pol := { mode := .P, nt := 9, locs := [2], lits := [], plan := [] }
noncomputable def fi193 : FI := { code := Tryz.f193.body.getD .skip, ntmps := 9, results := Tryz.f193.results.toList, pol := pol193 }
/-- (clew/text.Text).Again -/
def pol194 : Pol := { mode := .P, nt := 64, locs := [5], lits := [], plan := [(7, [(2, []), (3, []), (7, []), (8, []), (9, []), (10, []), (12, []), (0, []), (1, []), (4, []), (5, []), (6, []), (11, []), (13, []), (14, [])])] }
noncomputable def fi194 : FI := { code := Tryz.f194.body.getD .skip, ntmps := 64, results := Tryz.f194.results.toList, pol := pol194 }
/-- (*clew/vm.Machine).loop -/
def pol195 : Pol := { mode := .H, nt := 97, locs := [3, 4], lits := [], plan := [(1, [(9, []), (0, []), (1, []), (2, []), (3, []), (4, []), (5, []), (6, []), (7, []), (8, []), (10, [])]), (2, [(0, []), (4, []), (1, []), (2, []), (3, []), (5, []), (6, []), (7, [1, 2, 3]), (8, []), (9, []), (10, []), (11, []), (12, []), (13, [])]), (10, [(0, []), (1, []), (6, []), (10, []), (2, []), (3, []), (4, []), (5, []), (7, []), (8, []), (9, []), (11, []), (12, []), (13, []), (14, []), (15, []), (16, []), (17, [])])] }
noncomputable def fi195 : FI := { code := Tryz.f195.body.getD .skip, ntmps := 97, results := Tryz.f195.results.toList, pol := pol195 }
/-- (*clew/vm.Machine).next -/
def pol196 : Pol := { mode := .H, nt := 71, locs := [3], lits := [], plan := [(1, [(0, []), (4, []), (1, []), (2, []), (3, []), (5, []), (6, []), (7, [1, 2, 3]), (8, []), (9, []), (10, []), (11, []), (12, []), (13, [])]), (2, [(0, []), (4, []), (1, []), (2, []), (3, []), (5, []), (6, []), (7, [1, 2, 3]), (8, []), (9, []), (10, []), (11, []), (12, []), (13, [])]), (3, [(0, []), (1, []), (2, []), (3, []), (4, []), (5, []), (6, []), (7, []), (8, []), (9, []), (10, []), (11, []), (12, []), (13, []), (14, []), (15, []), (16, []), (17, []), (18, []), (19, [])]), (5, [(0, []), (4, []), (8, []), (9, []), (1, []), (2, []), (3, []), (5, []), (6, []), (7, [1, 2, 3]), (10, [])])] }
noncomputable def fi196 : FI := { code := Tryz.f196.body.getD .skip, ntmps := 71, results := Tryz.f196.results.toList, pol := pol196 }
/-- (*clew/pile.Pile).Bar -/
def pol197 : Pol := { mode := .H, nt := 29, locs := [2], lits := [], plan := [(3, [(0, []), (4, []), (8, []), (1, []), (2, []), (3, []), (5, []), (6, []), (7, []), (9, []), (10, []), (11, []), (12, []), (13, []), (14, []), (15, []), (16, []), (17, []), (18, []), (19, [])])] }
noncomputable def fi197 : FI := { code := Tryz.f197.body.getD .skip, ntmps := 29, results := Tryz.f197.results.toList, pol := pol197 }
/-- (*clew/vm.Machine).leave -/
def pol198 : Pol := { mode := .H, nt := 55, locs := [3, 4], lits := [], plan := [(8, [(0, []), (1, []), (2, []), (3, []), (4, []), (5, []), (6, [])])] }
noncomputable def fi198 : FI := { code := Tryz.f198.body.getD .skip, ntmps := 55, results := Tryz.f198.results.toList, pol := pol198 }
/-- clew/vint.Zig -/
def pol199 : Pol := { mode := .P, nt := 10, locs := [], lits := [], plan := [] }
noncomputable def fi199 : FI := { code := Tryz.f199.body.getD .skip, ntmps := 10, results := Tryz.f199.results.toList, pol := pol199 }
/-- slices.IndexFunc[[]int,int] -/
def pol200 : Pol := { mode := .H, nt := 19, locs := [], lits := [], plan := [] }
noncomputable def fi200 : FI := { code := Tryz.f200.body.getD .skip, ntmps := 19, results := Tryz.f200.results.toList, pol := pol200 }
/-- slices.Equal[[]int,int] -/
def pol201 : Pol := { mode := .P, nt := 26, locs := [], lits := [], plan := [(6, [(0, []), (1, []), (4, []), (5, []), (2, []), (3, []), (6, []), (7, []), (8, [])])] }
noncomputable def fi201 : FI := { code := Tryz.f201.body.getD .skip, ntmps := 26, results := Tryz.f201.results.toList, pol := pol201 }
/-- clew/vint.width -/
def pol202 : Pol := { mode := .P, nt := 11, locs := [], lits := [], plan := [] }
noncomputable def fi202 : FI := { code := Tryz.f202.body.getD .skip, ntmps := 11, results := Tryz.f202.results.toList, pol := pol202 }
/-- clew/vint.Zag -/
def pol203 : Pol := { mode := .P, nt := 11, locs := [], lits := [], plan := [] }
noncomputable def fi203 : FI := { code := Tryz.f203.body.getD .skip, ntmps := 11, results := Tryz.f203.results.toList, pol := pol203 }
/-- math/bits.Len64 -/
def pol205 : Pol := { mode := .P, nt := 25, locs := [], lits := [], plan := [] }
noncomputable def fi205 : FI := { code := Tryz.f205.body.getD .skip, ntmps := 25, results := Tryz.f205.results.toList, pol := pol205 }
/-- (*clew/parse.parser).skip -/
def pol209 : Pol := { mode := .H, nt := 19, locs := [], lits := [], plan := [(1, [(0, []), (1, []), (5, []), (2, []), (3, []), (4, []), (6, []), (7, []), (8, []), (9, []), (10, []), (11, []), (12, [])])] }
noncomputable def fi209 : FI := { code := Tryz.f209.body.getD .skip, ntmps := 19, results := Tryz.f209.results.toList, pol := pol209 }
/-- (*clew/parse.parser).count -/
def pol210 : Pol := { mode := .H, nt := 38, locs := [2, 4], lits := [], plan := [(1, [(13, []), (0, []), (4, []), (1, []), (2, []), (3, []), (5, []), (6, []), (7, []), (8, []), (9, []), (10, []), (11, []), (12, []), (14, []), (15, []), (16, [])]), (4, [(1, []), (0, []), (2, []), (3, []), (4, []), (5, []), (6, []), (7, []), (8, []), (9, [4, 5, 6]), (10, [])])] }
noncomputable def fi210 : FI := { code := Tryz.f210.body.getD .skip, ntmps := 38, results := Tryz.f210.results.toList, pol := pol210 }
/-- (*clew/parse.parser).atom -/
def pol211 : Pol := { mode := .H, nt := 126, locs := [4, 11], lits := [], plan := [(6, [(0, []), (4, []), (5, []), (1, []), (2, []), (3, []), (6, []), (7, []), (8, []), (9, []), (10, []), (11, []), (12, []), (13, []), (14, []), (15, []), (16, []), (17, []), (18, []), (19, [])]), (19, [(0, []), (1, []), (2, []), (3, []), (4, []), (5, [1, 2, 3]), (6, [])])] }
noncomputable def fi211 : FI := { code := Tryz.f211.body.getD .skip, ntmps := 126, results := Tryz.f211.results.toList, pol := pol211 }
/-- clew/parse.repeated -/
def pol212 : Pol := { mode := .P, nt := 36, locs := [3, 5, 6, 8], lits := [23, 34], plan := [] }
noncomputable def fi212 : FI := { code := Tryz.f212.body.getD .skip, ntmps := 36, results := Tryz.f212.results.toList, pol := pol212 }
/-- clew/scan.Count -/
def pol213 : Pol := { mode := .P, nt := 63, locs := [4, 7], lits := [], plan := [] }
noncomputable def fi213 : FI := { code := Tryz.f213.body.getD .skip, ntmps := 63, results := Tryz.f213.results.toList, pol := pol213 }
/-- unicode/utf8.decodeRuneSlow -/
def pol214 : Pol := { mode := .P, nt := 122, locs := [9], lits := [], plan := [] }
noncomputable def fi214 : FI := { code := Tryz.f214.body.getD .skip, ntmps := 122, results := Tryz.f214.results.toList, pol := pol214 }
/-- slices.pdqsortCmpFunc[clew/rset.Range] -/
def pol215 : Pol := { mode := .H, nt := 148, locs := [], lits := [], plan := [(17, [(0, []), (1, []), (2, []), (3, []), (4, []), (5, []), (6, []), (9, []), (10, []), (7, []), (8, []), (11, []), (12, []), (13, []), (14, []), (15, []), (16, [])])] }
noncomputable def fi215 : FI := { code := Tryz.f215.body.getD .skip, ntmps := 148, results := Tryz.f215.results.toList, pol := pol215 }
/-- math/bits.Len -/
def pol216 : Pol := { mode := .P, nt := 8, locs := [], lits := [], plan := [] }
noncomputable def fi216 : FI := { code := Tryz.f216.body.getD .skip, ntmps := 8, results := Tryz.f216.results.toList, pol := pol216 }
/-- cmp.isNaN[int] -/
def pol217 : Pol := { mode := .P, nt := 6, locs := [], lits := [], plan := [] }
noncomputable def fi217 : FI := { code := Tryz.f217.body.getD .skip, ntmps := 6, results := Tryz.f217.results.toList, pol := pol217 }
/-- slices.Backward[[]clew/undo.note,clew/undo.note]$1 -/
def pol218 : Pol := { mode := .H, nt := 19, locs := [], lits := [], plan := [] }
noncomputable def fi218 : FI := { code := Tryz.f218.body.getD .skip, ntmps := 19, results := Tryz.f218.results.toList, pol := pol218 }
/-- slices.ContainsFunc[[]clew/rset.Range,clew/rset.Range] -/
def pol219 : Pol := { mode := .H, nt := 9, locs := [], lits := [], plan := [] }
noncomputable def fi219 : FI := { code := Tryz.f219.body.getD .skip, ntmps := 9, results := Tryz.f219.results.toList, pol := pol219 }
/-- clew/rset.Has$1 -/
def pol220 : Pol := { mode := .P, nt := 14, locs := [2], lits := [], plan := [] }
noncomputable def fi220 : FI := { code := Tryz.f220.body.getD .skip, ntmps := 14, results := Tryz.f220.results.toList, pol := pol220 }
/-- clew/class.Word -/
def pol221 : Pol := { mode := .P, nt := 10, locs := [], lits := [], plan := [] }
noncomputable def fi221 : FI := { code := Tryz.f221.body.getD .skip, ntmps := 10, results := Tryz.f221.results.toList, pol := pol221 }
/-- (clew/text.Text).Again$1 -/
def pol222 : Pol := { mode := .P, nt := 8, locs := [], lits := [], plan := [] }
noncomputable def fi222 : FI := { code := Tryz.f222.body.getD .skip, ntmps := 8, results := Tryz.f222.results.toList, pol := pol222 }
/-- clew/fold.Same -/
def pol223 : Pol := { mode := .P, nt := 10, locs := [], lits := [], plan := [] }
noncomputable def fi223 : FI := { code := Tryz.f223.body.getD .skip, ntmps := 10, results := Tryz.f223.results.toList, pol := pol223 }
/-- slices.EqualFunc[[]int,[]int,int,int] -/
def pol224 : Pol := { mode := .H, nt := 32, locs := [], lits := [], plan := [] }
noncomputable def fi224 : FI := { code := Tryz.f224.body.getD .skip, ntmps := 32, results := Tryz.f224.results.toList, pol := pol224 }
/-- (*clew/pile.Pile).Cut -/
def pol225 : Pol := { mode := .H, nt := 49, locs := [2, 4], lits := [], plan := [(4, [(0, []), (1, []), (5, []), (9, []), (2, []), (3, []), (4, []), (6, []), (7, []), (8, []), (10, []), (11, []), (12, []), (13, []), (14, []), (15, []), (16, []), (17, []), (18, []), (19, []), (20, [])]), (5, [(0, []), (1, []), (5, []), (2, []), (3, []), (4, []), (6, []), (7, []), (8, []), (9, []), (10, []), (11, []), (12, []), (13, []), (14, [])])] }
noncomputable def fi225 : FI := { code := Tryz.f225.body.getD .skip, ntmps := 49, results := Tryz.f225.results.toList, pol := pol225 }
/-- clew/scan.Blank -/
def pol228 : Pol := { mode := .P, nt := 47, locs := [], lits := [], plan := [] }
noncomputable def fi228 : FI := { code := Tryz.f228.body.getD .skip, ntmps := 47, results := Tryz.f228.results.toList, pol := pol228 }
/-- (*clew/parse.parser).group -/
def pol229 : Pol := { mode := .H, nt := 130, locs := [4, 7, 8, 9], lits := [128], plan := [(15, [(0, []), (1, []), (2, []), (3, []), (4, []), (5, []), (6, []), (7, [2, 3, 4]), (8, []), (9, []), (10, []), (11, [])]), (26, [(2, []), (3, []), (0, []), (1, []), (4, []), (5, []), (6, []), (7, []), (8, []), (9, []), (10, []), (11, []), (12, []), (13, [0, 1, 4, 5, 6, 7, 8, 9, 10]), (14, []), (15, []), (16, [])])] }
noncomputable def fi229 : FI := { code := Tryz.f229.body.getD .skip, ntmps := 130, results := Tryz.f229.results.toList, pol := pol229 }
/-- clew/scan.Class -/
def pol230 : Pol := { mode := .P, nt := 70, locs := [14], lits := [], plan := [(16, [(0, []), (1, []), (2, []), (4, []), (5, []), (3, [4, 5]), (6, []), (7, [])])] }
noncomputable def fi230 : FI := { code := Tryz.f230.body.getD .skip, ntmps := 70, results := Tryz.f230.results.toList, pol := pol230 }
/-- (*clew/parse.parser).set -/
def pol231 : Pol := { mode := .H, nt := 18, locs := [8], lits := [], plan := [] }
noncomputable def fi231 : FI := { code := Tryz.f231.body.getD .skip, ntmps := 18, results := Tryz.f231.results.toList, pol := pol231 }
/-- clew/class.Any -/
def pol232 : Pol := { mode := .P, nt := 7, locs := [], lits := [], plan := [] }
noncomputable def fi232 : FI := { code := Tryz.f232.body.getD .skip, ntmps := 7, results := Tryz.f232.results.toList, pol := pol232 }
/-- (*clew/parse.parser).hold -/
def pol233 : Pol := { mode := .H, nt := 18, locs := [8], lits := [], plan := [] }
noncomputable def fi233 : FI := { code := Tryz.f233.body.getD .skip, ntmps := 18, results := Tryz.f233.results.toList, pol := pol233 }
/-- clew/parse.either -/
def pol234 : Pol := { mode := .P, nt := 10, locs := [], lits := [], plan := [] }
noncomputable def fi234 : FI := { code := Tryz.f234.body.getD .skip, ntmps := 10, results := Tryz.f234.results.toList, pol := pol234 }
/-- (*clew/parse.parser).escape -/
def pol235 : Pol := { mode := .H, nt := 80, locs := [2, 4], lits := [], plan := [(8, [(0, []), (1, []), (4, []), (2, []), (3, []), (5, []), (6, []), (7, [2, 3]), (8, [2, 3]), (9, []), (10, [])]), (10, [(0, []), (1, []), (4, []), (2, []), (3, []), (5, []), (6, []), (7, [2, 3]), (8, []), (9, [])]), (14, [(0, []), (7, []), (1, []), (2, []), (3, []), (4, []), (5, []), (6, []), (8, []), (9, []), (10, []), (11, []), (12, [1, 2, 3, 4, 5, 6]), (13, []), (14, []), (15, [])])] }
noncomputable def fi235 : FI := { code := Tryz.f235.body.getD .skip, ntmps := 80, results := Tryz.f235.results.toList, pol := pol235 }
/-- (*clew/parse.parser).closed -/
def pol236 : Pol := { mode := .H, nt := 13, locs := [], lits := [], plan := [] }
noncomputable def fi236 : FI := { code := Tryz.f236.body.getD .skip, ntmps := 13, results := Tryz.f236.results.toList, pol := pol236 }
/-- clew/rset.Of -/
def pol237 : Pol := { mode := .P, nt := 8, locs := [], lits := [6], plan := [] }
noncomputable def fi237 : FI := { code := Tryz.f237.body.getD .skip, ntmps := 8, results := Tryz.f237.results.toList, pol := pol237 }
/-- clew/scan.counts -/
def pol238 : Pol := { mode := .P, nt := 32, locs := [4], lits := [], plan := [] }
noncomputable def fi238 : FI := { code := Tryz.f238.body.getD .skip, ntmps := 32, results := Tryz.f238.results.toList, pol := pol238 }
/-- clew/scan.at -/
def pol239 : Pol := { mode := .P, nt := 17, locs := [], lits := [], plan := [] }
noncomputable def fi239 : FI := { code := Tryz.f239.body.getD .skip, ntmps := 17, results := Tryz.f239.results.toList, pol := pol239 }
/-- slices.insertionSortCmpFunc[clew/rset.Range] -/
def pol240 : Pol := { mode := .H, nt := 53, locs := [], lits := [], plan := [(4, [(0, []), (1, []), (2, []), (3, []), (4, []), (5, []), (6, []), (9, []), (10, []), (11, []), (7, []), (8, []), (12, []), (13, []), (14, []), (15, []), (16, [])]), (6, [(0, []), (1, []), (2, []), (3, []), (4, []), (5, []), (6, []), (7, []), (10, []), (11, []), (8, []), (9, []), (12, []), (13, []), (14, []), (15, []), (16, []), (17, [])])] }
noncomputable def fi240 : FI := { code := Tryz.f240.body.getD .skip, ntmps := 53, results := Tryz.f240.results.toList, pol := pol240 }
/-- slices.heapSortCmpFunc[clew/rset.Range] -/
def pol241 : Pol := { mode := .H, nt := 60, locs := [], lits := [], plan := [(10, [(0, []), (1, []), (2, []), (3, []), (4, []), (5, []), (6, []), (7, []), (8, []), (9, []), (12, []), (13, []), (10, []), (11, []), (14, []), (15, []), (16, []), (17, []), (18, []), (19, [])])] }
noncomputable def fi241 : FI := { code := Tryz.f241.body.getD .skip, ntmps := 60, results := Tryz.f241.results.toList, pol := pol241 }
/-- slices.breakPatternsCmpFunc[clew/rset.Range] -/
def pol242 : Pol := { mode := .H, nt := 67, locs := [], lits := [], plan := [(10, [(0, []), (1, []), (2, []), (3, []), (4, []), (5, []), (6, []), (7, []), (8, []), (9, []), (12, []), (13, []), (10, []), (11, []), (14, []), (15, []), (16, []), (17, []), (18, []), (19, [])])] }
noncomputable def fi242 : FI := { code := Tryz.f242.body.getD .skip, ntmps := 67, results := Tryz.f242.results.toList, pol := pol242 }
/-- slices.choosePivotCmpFunc[clew/rset.Range] -/
def pol243 : Pol := { mode := .H, nt := 63, locs := [], lits := [], plan := [] }
noncomputable def fi243 : FI := { code := Tryz.f243.body.getD .skip, ntmps := 63, results := Tryz.f243.results.toList, pol := pol243 }
/-- slices.reverseRangeCmpFunc[clew/rset.Range] -/
def pol244 : Pol := { mode := .H, nt := 34, locs := [], lits := [], plan := [(3, [(0, []), (1, []), (2, []), (3, []), (4, []), (5, []), (8, []), (9, []), (6, []), (7, []), (10, []), (11, []), (12, []), (13, []), (14, []), (15, [])])] }
noncomputable def fi244 : FI := { code := Tryz.f244.body.getD .skip, ntmps := 34, results := Tryz.f244.results.toList, pol := pol244 }
/-- slices.partialInsertionSortCmpFunc[clew/rset.Range] -/
def pol245 : Pol := { mode := .H, nt := 141, locs := [], lits := [], plan := [(5, [(0, []), (1, []), (2, []), (3, []), (4, []), (5, []), (6, []), (9, []), (10, []), (11, []), (7, []), (8, []), (12, []), (13, []), (14, []), (15, []), (16, []), (17, [])]), (11, [(0, []), (1, []), (2, []), (3, []), (4, []), (5, []), (6, []), (7, []), (10, []), (11, []), (8, []), (9, []), (12, []), (13, []), (14, []), (15, []), (16, []), (17, [])]), (16, [(0, []), (1, []), (2, []), (5, []), (6, []), (7, []), (3, []), (4, []), (8, []), (9, []), (10, []), (11, []), (12, [])]), (17, [(0, []), (1, []), (2, []), (3, []), (4, []), (5, []), (6, []), (7, []), (10, []), (11, []), (8, []), (9, []), (12, []), (13, []), (14, []), (15, []), (16, []), (17, [])]), (22, [(0, []), (1, []), (2, []), (5, []), (6, []), (7, []), (3, []), (4, []), (8, []), (9, []), (10, []), (11, []), (12, [])]), (23, [(0, []), (1, []), (2, []), (3, []), (4, []), (5, []), (6, []), (7, []), (10, []), (11, []), (8, []), (9, []), (12, []), (13, []), (14, []), (15, []), (16, []), (17, [])])] }
noncomputable def fi245 : FI := { code := Tryz.f245.body.getD .skip, ntmps := 141, results := Tryz.f245.results.toList, pol := pol245 }
/-- slices.partitionEqualCmpFunc[clew/rset.Range] -/
def pol246 : Pol := { mode := .H, nt := 90, locs := [], lits := [], plan := [(1, [(0, []), (1, []), (2, []), (3, []), (4, []), (5, []), (8, []), (9, []), (6, []), (7, []), (10, []), (11, []), (12, []), (13, []), (14, []), (15, [])]), (3, [(0, []), (1, []), (2, []), (3, []), (4, []), (5, []), (6, []), (9, []), (10, []), (7, []), (8, []), (11, []), (12, []), (13, []), (14, []), (15, []), (16, [])]), (5, [(0, []), (1, []), (2, []), (3, []), (4, []), (5, []), (6, []), (9, []), (10, []), (7, []), (8, []), (11, []), (12, []), (13, []), (14, []), (15, [])]), (8, [(0, []), (1, []), (2, []), (3, []), (4, []), (5, []), (8, []), (9, []), (6, []), (7, []), (10, []), (11, []), (12, []), (13, []), (14, []), (15, [])])] }
noncomputable def fi246 : FI := { code := Tryz.f246.body.getD .skip, ntmps := 90, results := Tryz.f246.results.toList, pol := pol246 }
/-- slices.partitionCmpFunc[clew/rset.Range] -/
def pol247 : Pol := { mode := .H, nt := 178, locs := [], lits := [], plan := [(1, [(0, []), (1, []), (2, []), (3, []), (4, []), (5, []), (8, []), (9, []), (6, []), (7, []), (10, []), (11, []), (12, []), (13, []), (14, []), (15, [])]), (3, [(0, []), (1, []), (2, []), (3, []), (4, []), (5, []), (6, []), (9, []), (10, []), (7, []), (8, []), (11, []), (12, []), (13, []), (14, []), (15, [])]), (5, [(0, []), (1, []), (2, []), (3, []), (4, []), (5, []), (6, []), (9, []), (10, []), (7, []), (8, []), (11, []), (12, []), (13, []), (14, []), (15, []), (16, [])]), (8, [(0, []), (1, []), (2, []), (3, []), (4, []), (5, []), (8, []), (9, []), (6, []), (7, []), (10, []), (11, []), (12, []), (13, []), (14, []), (15, [])]), (10, [(0, []), (1, []), (2, []), (3, []), (4, []), (5, []), (8, []), (9, []), (6, []), (7, []), (10, []), (11, []), (12, []), (13, []), (14, []), (15, [])]), (13, [(0, []), (1, []), (2, []), (3, []), (4, []), (5, []), (6, []), (9, []), (10, []), (7, []), (8, []), (11, []), (12, []), (13, []), (14, []), (15, [])]), (15, [(0, []), (1, []), (2, []), (3, []), (4, []), (5, []), (6, []), (9, []), (10, []), (7, []), (8, []), (11, []), (12, []), (13, []), (14, []), (15, []), (16, [])]), (18, [(0, []), (1, []), (2, []), (3, []), (4, []), (5, []), (8, []), (9, []), (6, []), (7, []), (10, []), (11, []), (12, []), (13, []), (14, []), (15, [])]), (21, [(0, []), (1, []), (2, []), (3, []), (4, []), (5, []), (8, []), (9, []), (6, []), (7, []), (10, []), (11, []), (12, []), (13, []), (14, []), (15, [])])] }
noncomputable def fi247 : FI := { code := Tryz.f247.body.getD .skip, ntmps := 178, results := Tryz.f247.results.toList, pol := pol247 }
/-- math/bits.Len32 -/
def pol248 : Pol := { mode := .P, nt := 19, locs := [], lits := [], plan := [] }
noncomputable def fi248 : FI := { code := Tryz.f248.body.getD .skip, ntmps := 19, results := Tryz.f248.results.toList, pol := pol248 }
/-- slices.IndexFunc[[]clew/rset.Range,clew/rset.Range] -/
def pol249 : Pol := { mode := .H, nt := 19, locs := [], lits := [], plan := [] }
noncomputable def fi249 : FI := { code := Tryz.f249.body.getD .skip, ntmps := 19, results := Tryz.f249.results.toList, pol := pol249 }
/-- clew/class.must -/
def pol250 : Pol := { mode := .P, nt := 11, locs := [], lits := [], plan := [] }
noncomputable def fi250 : FI := { code := Tryz.f250.body.getD .skip, ntmps := 11, results := Tryz.f250.results.toList, pol := pol250 }
/-- clew/fold.Fold -/
def pol251 : Pol := { mode := .P, nt := 13, locs := [], lits := [], plan := [] }
noncomputable def fi251 : FI := { code := Tryz.f251.body.getD .skip, ntmps := 13, results := Tryz.f251.results.toList, pol := pol251 }
/-- (*clew/parse.parser).open -/
def pol252 : Pol := { mode := .H, nt := 108, locs := [4], lits := [], plan := [(11, [(0, []), (2, []), (3, []), (4, []), (5, []), (1, [3, 4, 5]), (6, []), (7, [])]), (16, [(0, []), (2, []), (3, []), (4, []), (5, []), (1, [3, 4, 5]), (6, []), (7, [])])] }
noncomputable def fi252 : FI := { code := Tryz.f252.body.getD .skip, ntmps := 108, results := Tryz.f252.results.toList, pol := pol252 }
/-- clew/scan.part -/
def pol253 : Pol := { mode := .P, nt := 66, locs := [4, 7, 9], lits := [62], plan := [(10, [(0, []), (1, []), (2, []), (3, []), (4, []), (5, [2, 3]), (6, []), (7, [])])] }
noncomputable def fi253 : FI := { code := Tryz.f253.body.getD .skip, ntmps := 66, results := Tryz.f253.results.toList, pol := pol253 }
/-- clew/fold.Close -/
def pol254 : Pol := { mode := .P, nt := 37, locs := [], lits := [], plan := [] }
noncomputable def fi254 : FI := { code := Tryz.f254.body.getD .skip, ntmps := 37, results := Tryz.f254.results.toList, pol := pol254 }
/-- clew/rset.Not -/
def pol255 : Pol := { mode := .P, nt := 38, locs := [6], lits := [], plan := [] }
noncomputable def fi255 : FI := { code := Tryz.f255.body.getD .skip, ntmps := 38, results := Tryz.f255.results.toList, pol := pol255 }
/-- clew/scan.Escape -/
def pol256 : Pol := { mode := .P, nt := 98, locs := [4, 6], lits := [], plan := [] }
noncomputable def fi256 : FI := { code := Tryz.f256.body.getD .skip, ntmps := 98, results := Tryz.f256.results.toList, pol := pol256 }
/-- clew/scan.braces -/
def pol257 : Pol := { mode := .P, nt := 55, locs := [4, 8], lits := [], plan := [(11, [(1, []), (2, []), (0, []), (3, [0]), (4, []), (5, []), (6, [])])] }
noncomputable def fi257 : FI := { code := Tryz.f257.body.getD .skip, ntmps := 55, results := Tryz.f257.results.toList, pol := pol257 }
/-- slices.siftDownCmpFunc[clew/rset.Range] -/
def pol258 : Pol := { mode := .H, nt := 82, locs := [], lits := [], plan := [(3, [(0, []), (1, []), (2, []), (3, []), (4, []), (5, []), (6, []), (7, []), (8, []), (9, []), (12, []), (13, []), (14, []), (15, []), (16, []), (10, []), (11, []), (17, []), (18, []), (19, []), (20, []), (21, [])]), (5, [(0, []), (1, []), (2, []), (3, []), (4, []), (7, []), (8, []), (9, []), (10, []), (5, []), (6, []), (11, []), (12, []), (13, []), (14, []), (15, [])]), (6, [(0, []), (1, []), (2, []), (3, []), (4, []), (5, []), (6, []), (7, []), (8, []), (9, []), (10, []), (11, []), (14, []), (15, []), (16, []), (17, []), (12, []), (13, []), (18, []), (19, []), (20, []), (21, []), (22, []), (23, [])])] }
noncomputable def fi258 : FI := { code := Tryz.f258.body.getD .skip, ntmps := 82, results := Tryz.f258.results.toList, pol := pol258 }
/-- slices.nextPowerOfTwo -/
def pol259 : Pol := { mode := .P, nt := 7, locs := [], lits := [], plan := [] }
noncomputable def fi259 : FI := { code := Tryz.f259.body.getD .skip, ntmps := 7, results := Tryz.f259.results.toList, pol := pol259 }
/-- (*slices.xorshift).Next -/
def pol260 : Pol := { mode := .H, nt := 33, locs := [], lits := [], plan := [(1, [(0, []), (3, []), (1, []), (2, []), (4, []), (5, []), (6, []), (7, []), (8, []), (9, [])]), (2, [(0, []), (3, []), (1, []), (2, []), (4, []), (5, []), (6, []), (7, []), (8, []), (9, [])]), (3, [(0, []), (3, []), (1, []), (2, []), (4, []), (5, []), (6, []), (7, []), (8, []), (9, [])])] }
noncomputable def fi260 : FI := { code := Tryz.f260.body.getD .skip, ntmps := 33, results := Tryz.f260.results.toList, pol := pol260 }
/-- slices.medianAdjacentCmpFunc[clew/rset.Range] -/
def pol261 : Pol := { mode := .H, nt := 18, locs := [], lits := [], plan := [] }
noncomputable def fi261 : FI := { code := Tryz.f261.body.getD .skip, ntmps := 18, results := Tryz.f261.results.toList, pol := pol261 }
/-- slices.medianCmpFunc[clew/rset.Range] -/
def pol262 : Pol := { mode := .H, nt := 41, locs := [], lits := [], plan := [] }
noncomputable def fi262 : FI := { code := Tryz.f262.body.getD .skip, ntmps := 41, results := Tryz.f262.results.toList, pol := pol262 }
/-- clew/class.Named -/
def pol263 : Pol := { mode := .P, nt := 17, locs := [], lits := [], plan := [] }
noncomputable def fi263 : FI := { code := Tryz.f263.body.getD .skip, ntmps := 17, results := Tryz.f263.results.toList, pol := pol263 }
/-- clew/fold.Orbit -/
def pol264 : Pol := { mode := .P, nt := 58, locs := [6, 8], lits := [18], plan := [] }
noncomputable def fi264 : FI := { code := Tryz.f264.body.getD .skip, ntmps := 58, results := Tryz.f264.results.toList, pol := pol264 }
/-- clew/parse.look -/
def pol265 : Pol := { mode := .P, nt := 12, locs := [], lits := [], plan := [] }
noncomputable def fi265 : FI := { code := Tryz.f265.body.getD .skip, ntmps := 12, results := Tryz.f265.results.toList, pol := pol265 }
/-- (*clew/parse.parser).remark -/
def pol266 : Pol := { mode := .H, nt := 30, locs := [4], lits := [], plan := [] }
noncomputable def fi266 : FI := { code := Tryz.f266.body.getD .skip, ntmps := 30, results := Tryz.f266.results.toList, pol := pol266 }
/-- (*clew/parse.parser).named -/
def pol267 : Pol := { mode := .H, nt := 44, locs := [4], lits := [], plan := [] }
noncomputable def fi267 : FI := { code := Tryz.f267.body.getD .skip, ntmps := 44, results := Tryz.f267.results.toList, pol := pol267 }
/-- (*clew/parse.parser).toggles -/
def pol268 : Pol := { mode := .H, nt := 64, locs := [2], lits := [], plan := [] }
noncomputable def fi268 : FI := { code := Tryz.f268.body.getD .skip, ntmps := 64, results := Tryz.f268.results.toList, pol := pol268 }
/-- clew/scan.piece -/
def pol269 : Pol := { mode := .P, nt := 46, locs := [4], lits := [], plan := [] }
noncomputable def fi269 : FI := { code := Tryz.f269.body.getD .skip, ntmps := 46, results := Tryz.f269.results.toList, pol := pol269 }
/-- clew/scan.dashed -/
def pol270 : Pol := { mode := .P, nt := 24, locs := [], lits := [], plan := [] }
noncomputable def fi270 : FI := { code := Tryz.f270.body.getD .skip, ntmps := 24, results := Tryz.f270.results.toList, pol := pol270 }
/-- slices.Clone[[]clew/rset.Range,clew/rset.Range] -/
def pol271 : Pol := { mode := .H, nt := 8, locs := [], lits := [5], plan := [] }
noncomputable def fi271 : FI := { code := Tryz.f271.body.getD .skip, ntmps := 8, results := Tryz.f271.results.toList, pol := pol271 }
/-- clew/fold.cased -/
def pol272 : Pol := { mode := .P, nt := 47, locs := [3, 6], lits := [], plan := [] }
noncomputable def fi272 : FI := { code := Tryz.f272.body.getD .skip, ntmps := 47, results := Tryz.f272.results.toList, pol := pol272 }
/-- clew/scan.simple -/
def pol273 : Pol := { mode := .P, nt := 71, locs := [4, 8], lits := [], plan := [] }
noncomputable def fi273 : FI := { code := Tryz.f273.body.getD .skip, ntmps := 71, results := Tryz.f273.results.toList, pol := pol273 }
/-- clew/scan.held -/
def pol274 : Pol := { mode := .P, nt := 14, locs := [], lits := [], plan := [] }
noncomputable def fi274 : FI := { code := Tryz.f274.body.getD .skip, ntmps := 14, results := Tryz.f274.results.toList, pol := pol274 }
/-- clew/scan.digit -/
def pol275 : Pol := { mode := .P, nt := 9, locs := [], lits := [], plan := [] }
noncomputable def fi275 : FI := { code := Tryz.f275.body.getD .skip, ntmps := 9, results := Tryz.f275.results.toList, pol := pol275 }
/-- clew/scan.Name -/
def pol276 : Pol := { mode := .P, nt := 60, locs := [], lits := [], plan := [] }
noncomputable def fi276 : FI := { code := Tryz.f276.body.getD .skip, ntmps := 60, results := Tryz.f276.results.toList, pol := pol276 }
/-- clew/scan.number -/
def pol277 : Pol := { mode := .P, nt := 25, locs := [], lits := [], plan := [] }
noncomputable def fi277 : FI := { code := Tryz.f277.body.getD .skip, ntmps := 25, results := Tryz.f277.results.toList, pol := pol277 }
/-- slices.order2CmpFunc[clew/rset.Range] -/
def pol278 : Pol := { mode := .H, nt := 32, locs := [], lits := [], plan := [(1, [(0, []), (1, []), (2, []), (5, []), (6, []), (3, []), (4, []), (7, []), (8, []), (9, []), (10, [])])] }
noncomputable def fi278 : FI := { code := Tryz.f278.body.getD .skip, ntmps := 32, results := Tryz.f278.results.toList, pol := pol278 }
/-- clew/class.all -/
def pol279 : Pol := { mode := .P, nt := 64, locs := [1, 2, 3], lits := [10, 14, 17, 21, 25, 28, 31, 34, 37, 43, 47, 50, 56, 61, 63], plan := [] }
noncomputable def fi279 : FI := { code := Tryz.f279.body.getD .skip, ntmps := 64, results := Tryz.f279.results.toList, pol := pol279 }
/-- slices.IndexFunc[[]clew/class.named,clew/class.named] -/
def pol280 : Pol := { mode := .H, nt := 19, locs := [], lits := [], plan := [] }
noncomputable def fi280 : FI := { code := Tryz.f280.body.getD .skip, ntmps := 19, results := Tryz.f280.results.toList, pol := pol280 }
/-- clew/class.Named$1 -/
def pol281 : Pol := { mode := .P, nt := 8, locs := [2], lits := [], plan := [] }
noncomputable def fi281 : FI := { code := Tryz.f281.body.getD .skip, ntmps := 8, results := Tryz.f281.results.toList, pol := pol281 }
/-- clew/fold.base -/
def pol282 : Pol := { mode := .P, nt := 35, locs := [4, 6], lits := [], plan := [] }
noncomputable def fi282 : FI := { code := Tryz.f282.body.getD .skip, ntmps := 35, results := Tryz.f282.results.toList, pol := pol282 }
/-- clew/fold.rows -/
def pol283 : Pol := { mode := .P, nt := 20, locs := [], lits := [19], plan := [] }
noncomputable def fi283 : FI := { code := Tryz.f283.body.getD .skip, ntmps := 20, results := Tryz.f283.results.toList, pol := pol283 }
/-- (clew/fold.row).upper -/
def pol284 : Pol := { mode := .P, nt := 25, locs := [2], lits := [], plan := [] }
noncomputable def fi284 : FI := { code := Tryz.f284.body.getD .skip, ntmps := 25, results := Tryz.f284.results.toList, pol := pol284 }
/-- clew/fold.singles -/
def pol285 : Pol := { mode := .P, nt := 8, locs := [], lits := [7], plan := [] }
noncomputable def fi285 : FI := { code := Tryz.f285.body.getD .skip, ntmps := 8, results := Tryz.f285.results.toList, pol := pol285 }
/-- slices.Sort[[]int,int] -/
def pol286 : Pol := { mode := .H, nt := 11, locs := [], lits := [], plan := [] }
noncomputable def fi286 : FI := { code := Tryz.f286.body.getD .skip, ntmps := 11, results := Tryz.f286.results.toList, pol := pol286 }
/-- slices.Index[[]byte,byte] -/
def pol287 : Pol := { mode := .P, nt := 19, locs := [], lits := [], plan := [] }
noncomputable def fi287 : FI := { code := Tryz.f287.body.getD .skip, ntmps := 19, results := Tryz.f287.results.toList, pol := pol287 }
/-- slices.Contains[[]string,string] -/
def pol288 : Pol := { mode := .P, nt := 9, locs := [], lits := [], plan := [] }
noncomputable def fi288 : FI := { code := Tryz.f288.body.getD .skip, ntmps := 9, results := Tryz.f288.results.toList, pol := pol288 }
/-- (*clew/parse.flags).letter -/
def pol289 : Pol := { mode := .H, nt := 32, locs := [], lits := [], plan := [] }
noncomputable def fi289 : FI := { code := Tryz.f289.body.getD .skip, ntmps := 32, results := Tryz.f289.results.toList, pol := pol289 }
/-- strings.HasPrefix -/
def pol290 : Pol := { mode := .P, nt := 8, locs := [], lits := [], plan := [] }
noncomputable def fi290 : FI := { code := Tryz.f290.body.getD .skip, ntmps := 8, results := Tryz.f290.results.toList, pol := pol290 }
/-- clew/scan.named -/
def pol291 : Pol := { mode := .P, nt := 53, locs := [4], lits := [], plan := [] }
noncomputable def fi291 : FI := { code := Tryz.f291.body.getD .skip, ntmps := 53, results := Tryz.f291.results.toList, pol := pol291 }
/-- clew/scan.Inner -/
def pol292 : Pol := { mode := .P, nt := 35, locs := [4, 6], lits := [], plan := [] }
noncomputable def fi292 : FI := { code := Tryz.f292.body.getD .skip, ntmps := 35, results := Tryz.f292.results.toList, pol := pol292 }
/-- clew/scan.code -/
def pol293 : Pol := { mode := .P, nt := 58, locs := [4], lits := [], plan := [] }
noncomputable def fi293 : FI := { code := Tryz.f293.body.getD .skip, ntmps := 58, results := Tryz.f293.results.toList, pol := pol293 }
/-- clew/scan.control -/
def pol294 : Pol := { mode := .P, nt := 18, locs := [], lits := [], plan := [] }
noncomputable def fi294 : FI := { code := Tryz.f294.body.getD .skip, ntmps := 18, results := Tryz.f294.results.toList, pol := pol294 }
/-- clew/class.Of -/
def pol295 : Pol := { mode := .P, nt := 29, locs := [], lits := [], plan := [] }
noncomputable def fi295 : FI := { code := Tryz.f295.body.getD .skip, ntmps := 29, results := Tryz.f295.results.toList, pol := pol295 }
/-- clew/scan.letter -/
def pol296 : Pol := { mode := .P, nt := 17, locs := [], lits := [], plan := [] }
noncomputable def fi296 : FI := { code := Tryz.f296.body.getD .skip, ntmps := 17, results := Tryz.f296.results.toList, pol := pol296 }
/-- slices.pdqsortOrdered[int] -/
def pol297 : Pol := { mode := .H, nt := 134, locs := [], lits := [], plan := [(17, [(0, []), (1, []), (2, []), (3, []), (4, []), (5, []), (8, []), (9, []), (6, []), (7, []), (10, []), (11, []), (12, []), (13, []), (14, [])])] }
noncomputable def fi297 : FI := { code := Tryz.f297.body.getD .skip, ntmps := 134, results := Tryz.f297.results.toList, pol := pol297 }
/-- internal/stringslite.HasPrefix -/
def pol298 : Pol := { mode := .P, nt := 18, locs := [], lits := [], plan := [] }
noncomputable def fi298 : FI := { code := Tryz.f298.body.getD .skip, ntmps := 18, results := Tryz.f298.results.toList, pol := pol298 }
/-- strings.Cut -/
def pol299 : Pol := { mode := .P, nt := 13, locs := [], lits := [], plan := [] }
noncomputable def fi299 : FI := { code := Tryz.f299.body.getD .skip, ntmps := 13, results := Tryz.f299.results.toList, pol := pol299 }
/-- strings.CutPrefix -/
def pol300 : Pol := { mode := .P, nt := 11, locs := [], lits := [], plan := [] }
noncomputable def fi300 : FI := { code := Tryz.f300.body.getD .skip, ntmps := 11, results := Tryz.f300.results.toList, pol := pol300 }
/-- clew/scan.hexes -/
def pol301 : Pol := { mode := .P, nt := 36, locs := [], lits := [], plan := [] }
noncomputable def fi301 : FI := { code := Tryz.f301.body.getD .skip, ntmps := 36, results := Tryz.f301.results.toList, pol := pol301 }
/-- clew/sym.Is -/
def pol302 : Pol := { mode := .P, nt := 21, locs := [], lits := [], plan := [] }
noncomputable def fi302 : FI := { code := Tryz.f302.body.getD .skip, ntmps := 21, results := Tryz.f302.results.toList, pol := pol302 }
/-- slices.insertionSortOrdered[int] -/
def pol303 : Pol := { mode := .H, nt := 49, locs := [], lits := [], plan := [(4, [(0, []), (1, []), (2, []), (3, []), (4, []), (5, []), (8, []), (9, []), (10, []), (6, []), (7, []), (11, []), (12, []), (13, []), (14, [])]), (6, [(0, []), (1, []), (2, []), (3, []), (4, []), (5, []), (6, []), (7, []), (10, []), (11, []), (8, []), (9, []), (12, []), (13, []), (14, []), (15, []), (16, []), (17, [])])] }
noncomputable def fi303 : FI := { code := Tryz.f303.body.getD .skip, ntmps := 49, results := Tryz.f303.results.toList, pol := pol303 }
/-- slices.heapSortOrdered[int] -/
def pol304 : Pol := { mode := .H, nt := 56, locs := [], lits := [], plan := [(10, [(0, []), (1, []), (2, []), (3, []), (4, []), (5, []), (6, []), (7, []), (8, []), (9, []), (12, []), (13, []), (10, []), (11, []), (14, []), (15, []), (16, []), (17, []), (18, []), (19, [])])] }
noncomputable def fi304 : FI := { code := Tryz.f304.body.getD .skip, ntmps := 56, results := Tryz.f304.results.toList, pol := pol304 }
/-- slices.breakPatternsOrdered[int] -/
def pol305 : Pol := { mode := .H, nt := 65, locs := [], lits := [], plan := [(10, [(0, []), (1, []), (2, []), (3, []), (4, []), (5, []), (6, []), (7, []), (8, []), (9, []), (12, []), (13, []), (10, []), (11, []), (14, []), (15, []), (16, []), (17, []), (18, []), (19, [])])] }
noncomputable def fi305 : FI := { code := Tryz.f305.body.getD .skip, ntmps := 65, results := Tryz.f305.results.toList, pol := pol305 }
/-- slices.choosePivotOrdered[int] -/
def pol306 : Pol := { mode := .H, nt := 57, locs := [], lits := [], plan := [] }
noncomputable def fi306 : FI := { code := Tryz.f306.body.getD .skip, ntmps := 57, results := Tryz.f306.results.toList, pol := pol306 }
/-- slices.reverseRangeOrdered[int] -/
def pol307 : Pol := { mode := .H, nt := 32, locs := [], lits := [], plan := [(3, [(0, []), (1, []), (2, []), (3, []), (4, []), (5, []), (8, []), (9, []), (6, []), (7, []), (10, []), (11, []), (12, []), (13, []), (14, []), (15, [])])] }
noncomputable def fi307 : FI := { code := Tryz.f307.body.getD .skip, ntmps := 32, results := Tryz.f307.results.toList, pol := pol307 }
/-- slices.partialInsertionSortOrdered[int] -/
def pol308 : Pol := { mode := .H, nt := 133, locs := [], lits := [], plan := [(5, [(0, []), (1, []), (2, []), (3, []), (4, []), (5, []), (8, []), (9, []), (10, []), (6, []), (7, []), (11, []), (12, []), (13, []), (14, []), (15, [])]), (11, [(0, []), (1, []), (2, []), (3, []), (4, []), (5, []), (6, []), (7, []), (10, []), (11, []), (8, []), (9, []), (12, []), (13, []), (14, []), (15, []), (16, []), (17, [])]), (16, [(0, []), (1, []), (4, []), (5, []), (6, []), (2, []), (3, []), (7, []), (8, []), (9, []), (10, [])]), (17, [(0, []), (1, []), (2, []), (3, []), (4, []), (5, []), (6, []), (7, []), (10, []), (11, []), (8, []), (9, []), (12, []), (13, []), (14, []), (15, []), (16, []), (17, [])]), (22, [(0, []), (1, []), (4, []), (5, []), (6, []), (2, []), (3, []), (7, []), (8, []), (9, []), (10, [])]), (23, [(0, []), (1, []), (2, []), (3, []), (4, []), (5, []), (6, []), (7, []), (10, []), (11, []), (8, []), (9, []), (12, []), (13, []), (14, []), (15, []), (16, []), (17, [])])] }
noncomputable def fi308 : FI := { code := Tryz.f308.body.getD .skip, ntmps := 133, results := Tryz.f308.results.toList, pol := pol308 }
/-- cmp.Less[int] -/
def pol309 : Pol := { mode := .P, nt := 17, locs := [], lits := [], plan := [] }
noncomputable def fi309 : FI := { code := Tryz.f309.body.getD .skip, ntmps := 17, results := Tryz.f309.results.toList, pol := pol309 }
/-- slices.partitionEqualOrdered[int] -/
def pol310 : Pol := { mode := .H, nt := 84, locs := [], lits := [], plan := [(1, [(0, []), (1, []), (2, []), (3, []), (4, []), (5, []), (8, []), (9, []), (6, []), (7, []), (10, []), (11, []), (12, []), (13, []), (14, []), (15, [])]), (3, [(0, []), (1, []), (2, []), (3, []), (4, []), (5, []), (8, []), (9, []), (6, []), (7, []), (10, []), (11, []), (12, []), (13, []), (14, [])]), (5, [(0, []), (1, []), (2, []), (3, []), (4, []), (5, []), (8, []), (9, []), (6, []), (7, []), (10, []), (11, []), (12, []), (13, [])]), (8, [(0, []), (1, []), (2, []), (3, []), (4, []), (5, []), (8, []), (9, []), (6, []), (7, []), (10, []), (11, []), (12, []), (13, []), (14, []), (15, [])])] }
noncomputable def fi310 : FI := { code := Tryz.f310.body.getD .skip, ntmps := 84, results := Tryz.f310.results.toList, pol := pol310 }
/-- slices.partitionOrdered[int] -/
def pol311 : Pol := { mode := .H, nt := 168, locs := [], lits := [], plan := [(1, [(0, []), (1, []), (2, []), (3, []), (4, []), (5, []), (8, []), (9, []), (6, []), (7, []), (10, []), (11, []), (12, []), (13, []), (14, []), (15, [])]), (3, [(0, []), (1, []), (2, []), (3, []), (4, []), (5, []), (8, []), (9, []), (6, []), (7, []), (10, []), (11, []), (12, []), (13, [])]), (5, [(0, []), (1, []), (2, []), (3, []), (4, []), (5, []), (8, []), (9, []), (6, []), (7, []), (10, []), (11, []), (12, []), (13, []), (14, [])]), (8, [(0, []), (1, []), (2, []), (3, []), (4, []), (5, []), (8, []), (9, []), (6, []), (7, []), (10, []), (11, []), (12, []), (13, []), (14, []), (15, [])]), (10, [(0, []), (1, []), (2, []), (3, []), (4, []), (5, []), (8, []), (9, []), (6, []), (7, []), (10, []), (11, []), (12, []), (13, []), (14, []), (15, [])]), (13, [(0, []), (1, []), (2, []), (3, []), (4, []), (5, []), (8, []), (9, []), (6, []), (7, []), (10, []), (11, []), (12, []), (13, [])]), (15, [(0, []), (1, []), (2, []), (3, []), (4, []), (5, []), (8, []), (9, []), (6, []), (7, []), (10, []), (11, []), (12, []), (13, []), (14, [])]), (18, [(0, []), (1, []), (2, []), (3, []), (4, []), (5, []), (8, []), (9, []), (6, []), (7, []), (10, []), (11, []), (12, []), (13, []), (14, []), (15, [])]), (21, [(0, []), (1, []), (2, []), (3, []), (4, []), (5, []), (8, []), (9, []), (6, []), (7, []), (10, []), (11, []), (12, []), (13, []), (14, []), (15, [])])] }
noncomputable def fi311 : FI := { code := Tryz.f311.body.getD .skip, ntmps := 168, results := Tryz.f311.results.toList, pol := pol311 }
/-- internal/stringslite.Cut -/
def pol312 : Pol := { mode := .P, nt := 23, locs := [], lits := [], plan := [(3, [(0, []), (1, []), (2, []), (3, []), (4, []), (5, []), (9, []), (6, []), (7, []), (8, []), (10, []), (11, [])])] }
noncomputable def fi312 : FI := { code := Tryz.f312.body.getD .skip, ntmps := 23, results := Tryz.f312.results.toList, pol := pol312 }
/-- internal/stringslite.CutPrefix -/
def pol313 : Pol := { mode := .P, nt := 15, locs := [], lits := [], plan := [] }
noncomputable def fi313 : FI := { code := Tryz.f313.body.getD .skip, ntmps := 15, results := Tryz.f313.results.toList, pol := pol313 }
/-- clew/scan.hex -/
def pol314 : Pol := { mode := .P, nt := 31, locs := [], lits := [], plan := [] }
noncomputable def fi314 : FI := { code := Tryz.f314.body.getD .skip, ntmps := 31, results := Tryz.f314.results.toList, pol := pol314 }
/-- slices.siftDownOrdered[int] -/
def pol315 : Pol := { mode := .H, nt := 76, locs := [], lits := [], plan := [(3, [(0, []), (1, []), (2, []), (3, []), (4, []), (5, []), (6, []), (7, []), (8, []), (11, []), (12, []), (13, []), (14, []), (15, []), (9, []), (10, []), (16, []), (17, []), (18, []), (19, [])]), (5, [(0, []), (1, []), (2, []), (3, []), (6, []), (7, []), (8, []), (9, []), (4, []), (5, []), (10, []), (11, []), (12, []), (13, [])]), (6, [(0, []), (1, []), (2, []), (3, []), (4, []), (5, []), (6, []), (7, []), (8, []), (9, []), (10, []), (11, []), (14, []), (15, []), (16, []), (17, []), (12, []), (13, []), (18, []), (19, []), (20, []), (21, []), (22, []), (23, [])])] }
noncomputable def fi315 : FI := { code := Tryz.f315.body.getD .skip, ntmps := 76, results := Tryz.f315.results.toList, pol := pol315 }
/-- slices.medianAdjacentOrdered[int] -/
def pol316 : Pol := { mode := .H, nt := 15, locs := [], lits := [], plan := [] }
noncomputable def fi316 : FI := { code := Tryz.f316.body.getD .skip, ntmps := 15, results := Tryz.f316.results.toList, pol := pol316 }
/-- slices.medianOrdered[int] -/
def pol317 : Pol := { mode := .H, nt := 36, locs := [], lits := [], plan := [] }
noncomputable def fi317 : FI := { code := Tryz.f317.body.getD .skip, ntmps := 36, results := Tryz.f317.results.toList, pol := pol317 }
/-- internal/stringslite.Index -/
def pol318 : Pol := { mode := .P, nt := 143, locs := [], lits := [], plan := [] }
noncomputable def fi318 : FI := { code := Tryz.f318.body.getD .skip, ntmps := 143, results := Tryz.f318.results.toList, pol := pol318 }
/-- slices.order2Ordered[int] -/
def pol319 : Pol := { mode := .H, nt := 28, locs := [], lits := [], plan := [(1, [(0, []), (1, []), (4, []), (5, []), (2, []), (3, []), (6, []), (7, []), (8, [])])] }
noncomputable def fi319 : FI := { code := Tryz.f319.body.getD .skip, ntmps := 28, results := Tryz.f319.results.toList, pol := pol319 }
/-- internal/stringslite.IndexByte -/
def pol320 : Pol := { mode := .P, nt := 8, locs := [], lits := [], plan := [] }
noncomputable def fi320 : FI := { code := Tryz.f320.body.getD .skip, ntmps := 8, results := Tryz.f320.results.toList, pol := pol320 }
/-- internal/bytealg.Cutover -/
def pol322 : Pol := { mode := .P, nt := 6, locs := [], lits := [], plan := [] }
noncomputable def fi322 : FI := { code := Tryz.f322.body.getD .skip, ntmps := 6, results := Tryz.f322.results.toList, pol := pol322 }
/-- internal/bytealg.IndexRabinKarp[string] -/
def pol323 : Pol := { mode := .P, nt := 81, locs := [], lits := [], plan := [] }
noncomputable def fi323 : FI := { code := Tryz.f323.body.getD .skip, ntmps := 81, results := Tryz.f323.results.toList, pol := pol323 }
/-- internal/bytealg.hashStr[string] -/
def pol325 : Pol := { mode := .P, nt := 39, locs := [], lits := [], plan := [] }
noncomputable def fi325 : FI := { code := Tryz.f325.body.getD .skip, ntmps := 39, results := Tryz.f325.results.toList, pol := pol325 }
noncomputable def fnT : FTree := (.n (.n (.n (.n (.n (.n (.n (.n (.n .e 3 fi3 .e) 4 fi4 .e) 5 fi5 (.n .e 6 fi6 .e)) 8 fi8 (.n (.n (.n .e 9 fi9 .e) 10 fi10 .e) 11 fi11 (.n .e 12 fi12 .e))) 13 fi13 (.n (.n (.n (.n .e 14 fi14 .e) 15 fi15 .e) 16 fi16 (.n .e 17 fi17 .e)) 21 fi21 (.n (.n .e 22 fi22 .e) 23 fi23 (.n .e 24 fi24 .e)))) 25 fi25 (.n (.n (.n (.n (.n .e 26 fi26 .e) 27 fi27 .e) 28 fi28 (.n .e 29 fi29 .e)) 30 fi30 (.n (.n .e 31 fi31 .e) 32 fi32 (.n .e 38 fi38 .e))) 39 fi39 (.n (.n (.n (.n .e 40 fi40 .e) 41 fi41 .e) 42 fi42 (.n .e 43 fi43 .e)) 44 fi44 (.n (.n .e 45 fi45 .e) 46 fi46 (.n .e 47 fi47 .e))))) 48 fi48 (.n (.n (.n (.n (.n (.n .e 49 fi49 .e) 50 fi50 .e) 51 fi51 (.n .e 52 fi52 .e)) 53 fi53 (.n (.n .e 54 fi54 .e) 55 fi55 (.n .e 56 fi56 .e))) 62 fi62 (.n (.n (.n (.n .e 63 fi63 .e) 64 fi64 .e) 65 fi65 (.n .e 66 fi66 .e)) 67 fi67 (.n (.n .e 68 fi68 .e) 69 fi69 (.n .e 70 fi70 .e)))) 71 fi71 (.n (.n (.n (.n (.n .e 72 fi72 .e) 73 fi73 .e) 74 fi74 (.n .e 75 fi75 .e)) 76 fi76 (.n (.n .e 77 fi77 .e) 78 fi78 (.n .e 79 fi79 .e))) 80 fi80 (.n (.n (.n (.n .e 81 fi81 .e) 82 fi82 .e) 83 fi83 (.n .e 84 fi84 .e)) 91 fi91 (.n (.n .e 92 fi92 .e) 93 fi93 (.n .e 94 fi94 .e)))))) 95 fi95 (.n (.n (.n (.n (.n (.n (.n .e 96 fi96 .e) 97 fi97 .e) 98 fi98 (.n .e 99 fi99 .e)) 100 fi100 (.n (.n .e 101 fi101 .e) 102 fi102 (.n .e 103 fi103 .e))) 104 fi104 (.n (.n (.n (.n .e 105 fi105 .e) 106 fi106 .e) 107 fi107 (.n .e 108 fi108 .e)) 109 fi109 (.n (.n .e 110 fi110 .e) 111 fi111 (.n .e 112 fi112 .e)))) 113 fi113 (.n (.n (.n (.n (.n .e 114 fi114 .e) 115 fi115 .e) 116 fi116 (.n .e 117 fi117 .e)) 118 fi118 (.n (.n .e 119 fi119 .e) 120 fi120 (.n .e 123 fi123 .e))) 124 fi124 (.n (.n (.n (.n .e 125 fi125 .e) 126 fi126 .e) 127 fi127 (.n .e 128 fi128 .e)) 129 fi129 (.n (.n .e 130 fi130 .e) 131 fi131 (.n .e 132 fi132 .e))))) 133 fi133 (.n (.n (.n (.n (.n (.n .e 134 fi134 .e) 135 fi135 .e) 136 fi136 (.n .e 137 fi137 .e)) 138 fi138 (.n (.n .e 139 fi139 .e) 140 fi140 (.n .e 141 fi141 .e))) 142 fi142 (.n (.n (.n (.n .e 143 fi143 .e) 144 fi144 .e) 145 fi145 (.n .e 146 fi146 .e)) 147 fi147 (.n (.n .e 148 fi148 .e) 149 fi149 (.n .e 150 fi150 .e)))) 151 fi151 (.n (.n (.n (.n (.n .e 152 fi152 .e) 153 fi153 .e) 154 fi154 (.n .e 155 fi155 .e)) 156 fi156 (.n (.n .e 157 fi157 .e) 158 fi158 (.n .e 159 fi159 .e))) 160 fi160 (.n (.n (.n (.n .e 161 fi161 .e) 162 fi162 .e) 163 fi163 (.n .e 164 fi164 .e)) 169 fi169 (.n (.n .e 170 fi170 .e) 171 fi171 (.n .e 172 fi172 .e))))))) 173 fi173 (.n (.n (.n (.n (.n (.n (.n (.n .e 174 fi174 .e) 175 fi175 .e) 176 fi176 (.n .e 177 fi177 .e)) 178 fi178 (.n (.n (.n .e 179 fi179 .e) 180 fi180 .e) 181 fi181 (.n .e 182 fi182 .e))) 183 fi183 (.n (.n (.n (.n .e 184 fi184 .e) 185 fi185 .e) 186 fi186 (.n .e 187 fi187 .e)) 188 fi188 (.n (.n .e 189 fi189 .e) 190 fi190 (.n .e 191 fi191 .e)))) 192 fi192 (.n (.n (.n (.n (.n .e 193 fi193 .e) 194 fi194 .e) 195 fi195 (.n .e 196 fi196 .e)) 197 fi197 (.n (.n .e 198 fi198 .e) 199 fi199 (.n .e 200 fi200 .e))) 201 fi201 (.n (.n (.n (.n .e 202 fi202 .e) 203 fi203 .e) 205 fi205 (.n .e 209 fi209 .e)) 210 fi210 (.n (.n .e 211 fi211 .e) 212 fi212 (.n .e 213 fi213 .e))))) 214 fi214 (.n (.n (.n (.n (.n (.n .e 215 fi215 .e) 216 fi216 .e) 217 fi217 (.n .e 218 fi218 .e)) 219 fi219 (.n (.n .e 220 fi220 .e) 221 fi221 (.n .e 222 fi222 .e))) 223 fi223 (.n (.n (.n (.n .e 224 fi224 .e) 225 fi225 .e) 228 fi228 (.n .e 229 fi229 .e)) 230 fi230 (.n (.n .e 231 fi231 .e) 232 fi232 (.n .e 233 fi233 .e)))) 234 fi234 (.n (.n (.n (.n (.n .e 235 fi235 .e) 236 fi236 .e) 237 fi237 (.n .e 238 fi238 .e)) 239 fi239 (.n (.n .e 240 fi240 .e) 241 fi241 (.n .e 242 fi242 .e))) 243 fi243 (.n (.n (.n (.n .e 244 fi244 .e) 245 fi245 .e) 246 fi246 (.n .e 247 fi247 .e)) 248 fi248 (.n (.n .e 249 fi249 .e) 250 fi250 (.n .e 251 fi251 .e)))))) 252 fi252 (.n (.n (.n (.n (.n (.n (.n .e 253 fi253 .e) 254 fi254 .e) 255 fi255 (.n .e 256 fi256 .e)) 257 fi257 (.n (.n .e 258 fi258 .e) 259 fi259 (.n .e 260 fi260 .e))) 261 fi261 (.n (.n (.n (.n .e 262 fi262 .e) 263 fi263 .e) 264 fi264 (.n .e 265 fi265 .e)) 266 fi266 (.n (.n .e 267 fi267 .e) 268 fi268 (.n .e 269 fi269 .e)))) 270 fi270 (.n (.n (.n (.n (.n .e 271 fi271 .e) 272 fi272 .e) 273 fi273 (.n .e 274 fi274 .e)) 275 fi275 (.n (.n .e 276 fi276 .e) 277 fi277 (.n .e 278 fi278 .e))) 279 fi279 (.n (.n (.n (.n .e 280 fi280 .e) 281 fi281 .e) 282 fi282 (.n .e 283 fi283 .e)) 284 fi284 (.n (.n .e 285 fi285 .e) 286 fi286 (.n .e 287 fi287 .e))))) 288 fi288 (.n (.n (.n (.n (.n (.n .e 289 fi289 .e) 290 fi290 .e) 291 fi291 (.n .e 292 fi292 .e)) 293 fi293 (.n (.n .e 294 fi294 .e) 295 fi295 (.n .e 296 fi296 .e))) 297 fi297 (.n (.n (.n (.n .e 298 fi298 .e) 299 fi299 .e) 300 fi300 (.n .e 301 fi301 .e)) 302 fi302 (.n (.n .e 303 fi303 .e) 304 fi304 (.n .e 305 fi305 .e)))) 306 fi306 (.n (.n (.n (.n (.n .e 307 fi307 .e) 308 fi308 .e) 309 fi309 (.n .e 310 fi310 .e)) 311 fi311 (.n (.n .e 312 fi312 .e) 313 fi313 (.n .e 314 fi314 .e))) 315 fi315 (.n (.n (.n (.n .e 316 fi316 .e) 317 fi317 .e) 318 fi318 (.n .e 319 fi319 .e)) 320 fi320 (.n (.n .e 322 fi322 .e) 323 fi323 (.n .e 325 fi325 .e))))))))
noncomputable def ctx : Ctx := { ti := tiT.get, fn := fnT.get, gl := fun _ => .unk, ext := fun _ => none }
end TA
