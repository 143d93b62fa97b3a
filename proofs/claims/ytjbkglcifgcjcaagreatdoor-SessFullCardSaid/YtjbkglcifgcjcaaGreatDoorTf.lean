import Derived.Test.YtjbkglcifgcjcaaGreatDoorTa
set_option maxRecDepth 1000000
namespace TA
open Go Go.Proofs Dv
theorem tyok3 : ty3 = tiOf Tryz.prog 3 ∧ tyB Tryz.prog 3 = true := ⟨by kernel_rfl, by kernel_rfl⟩
theorem tyok4 : ty4 = tiOf Tryz.prog 4 ∧ tyB Tryz.prog 4 = true := ⟨by kernel_rfl, by kernel_rfl⟩
theorem tyok5 : ty5 = tiOf Tryz.prog 5 ∧ tyB Tryz.prog 5 = true := ⟨by kernel_rfl, by kernel_rfl⟩
theorem tyok9 : ty9 = tiOf Tryz.prog 9 ∧ tyB Tryz.prog 9 = true := ⟨by kernel_rfl, by kernel_rfl⟩
theorem tyok21 : ty21 = tiOf Tryz.prog 21 ∧ tyB Tryz.prog 21 = true := ⟨by kernel_rfl, by kernel_rfl⟩
theorem tyok22 : ty22 = tiOf Tryz.prog 22 ∧ tyB Tryz.prog 22 = true := ⟨by kernel_rfl, by kernel_rfl⟩
theorem tyok24 : ty24 = tiOf Tryz.prog 24 ∧ tyB Tryz.prog 24 = true := ⟨by kernel_rfl, by kernel_rfl⟩
theorem tyok26 : ty26 = tiOf Tryz.prog 26 ∧ tyB Tryz.prog 26 = true := ⟨by kernel_rfl, by kernel_rfl⟩
theorem tyok35 : ty35 = tiOf Tryz.prog 35 ∧ tyB Tryz.prog 35 = true := ⟨by kernel_rfl, by kernel_rfl⟩
theorem tyok38 : ty38 = tiOf Tryz.prog 38 ∧ tyB Tryz.prog 38 = true := ⟨by kernel_rfl, by kernel_rfl⟩
theorem tyok40 : ty40 = tiOf Tryz.prog 40 ∧ tyB Tryz.prog 40 = true := ⟨by kernel_rfl, by kernel_rfl⟩
theorem tyok42 : ty42 = tiOf Tryz.prog 42 ∧ tyB Tryz.prog 42 = true := ⟨by kernel_rfl, by kernel_rfl⟩
theorem tyok43 : ty43 = tiOf Tryz.prog 43 ∧ tyB Tryz.prog 43 = true := ⟨by kernel_rfl, by kernel_rfl⟩
theorem tyok45 : ty45 = tiOf Tryz.prog 45 ∧ tyB Tryz.prog 45 = true := ⟨by kernel_rfl, by kernel_rfl⟩
theorem tyok47 : ty47 = tiOf Tryz.prog 47 ∧ tyB Tryz.prog 47 = true := ⟨by kernel_rfl, by kernel_rfl⟩
theorem tyok50 : ty50 = tiOf Tryz.prog 50 ∧ tyB Tryz.prog 50 = true := ⟨by kernel_rfl, by kernel_rfl⟩
theorem tyok55 : ty55 = tiOf Tryz.prog 55 ∧ tyB Tryz.prog 55 = true := ⟨by kernel_rfl, by kernel_rfl⟩
theorem tyok56 : ty56 = tiOf Tryz.prog 56 ∧ tyB Tryz.prog 56 = true := ⟨by kernel_rfl, by kernel_rfl⟩
theorem tyok57 : ty57 = tiOf Tryz.prog 57 ∧ tyB Tryz.prog 57 = true := ⟨by kernel_rfl, by kernel_rfl⟩
theorem tyok59 : ty59 = tiOf Tryz.prog 59 ∧ tyB Tryz.prog 59 = true := ⟨by kernel_rfl, by kernel_rfl⟩
theorem tyok60 : ty60 = tiOf Tryz.prog 60 ∧ tyB Tryz.prog 60 = true := ⟨by kernel_rfl, by kernel_rfl⟩
theorem tyok61 : ty61 = tiOf Tryz.prog 61 ∧ tyB Tryz.prog 61 = true := ⟨by kernel_rfl, by kernel_rfl⟩
theorem tyok62 : ty62 = tiOf Tryz.prog 62 ∧ tyB Tryz.prog 62 = true := ⟨by kernel_rfl, by kernel_rfl⟩
theorem tyok64 : ty64 = tiOf Tryz.prog 64 ∧ tyB Tryz.prog 64 = true := ⟨by kernel_rfl, by kernel_rfl⟩
theorem tyok66 : ty66 = tiOf Tryz.prog 66 ∧ tyB Tryz.prog 66 = true := ⟨by kernel_rfl, by kernel_rfl⟩
theorem tyok67 : ty67 = tiOf Tryz.prog 67 ∧ tyB Tryz.prog 67 = true := ⟨by kernel_rfl, by kernel_rfl⟩
theorem tyok69 : ty69 = tiOf Tryz.prog 69 ∧ tyB Tryz.prog 69 = true := ⟨by kernel_rfl, by kernel_rfl⟩
theorem tyok71 : ty71 = tiOf Tryz.prog 71 ∧ tyB Tryz.prog 71 = true := ⟨by kernel_rfl, by kernel_rfl⟩
theorem tyok74 : ty74 = tiOf Tryz.prog 74 ∧ tyB Tryz.prog 74 = true := ⟨by kernel_rfl, by kernel_rfl⟩
theorem tyok75 : ty75 = tiOf Tryz.prog 75 ∧ tyB Tryz.prog 75 = true := ⟨by kernel_rfl, by kernel_rfl⟩
theorem tyok82 : ty82 = tiOf Tryz.prog 82 ∧ tyB Tryz.prog 82 = true := ⟨by kernel_rfl, by kernel_rfl⟩
theorem tyok102 : ty102 = tiOf Tryz.prog 102 ∧ tyB Tryz.prog 102 = true := ⟨by kernel_rfl, by kernel_rfl⟩
theorem tyok106 : ty106 = tiOf Tryz.prog 106 ∧ tyB Tryz.prog 106 = true := ⟨by kernel_rfl, by kernel_rfl⟩
theorem tyok110 : ty110 = tiOf Tryz.prog 110 ∧ tyB Tryz.prog 110 = true := ⟨by kernel_rfl, by kernel_rfl⟩
theorem tyok111 : ty111 = tiOf Tryz.prog 111 ∧ tyB Tryz.prog 111 = true := ⟨by kernel_rfl, by kernel_rfl⟩
theorem tyok113 : ty113 = tiOf Tryz.prog 113 ∧ tyB Tryz.prog 113 = true := ⟨by kernel_rfl, by kernel_rfl⟩
theorem tyok119 : ty119 = tiOf Tryz.prog 119 ∧ tyB Tryz.prog 119 = true := ⟨by kernel_rfl, by kernel_rfl⟩
theorem tyok125 : ty125 = tiOf Tryz.prog 125 ∧ tyB Tryz.prog 125 = true := ⟨by kernel_rfl, by kernel_rfl⟩
theorem tyok127 : ty127 = tiOf Tryz.prog 127 ∧ tyB Tryz.prog 127 = true := ⟨by kernel_rfl, by kernel_rfl⟩
theorem tyok135 : ty135 = tiOf Tryz.prog 135 ∧ tyB Tryz.prog 135 = true := ⟨by kernel_rfl, by kernel_rfl⟩
theorem tyok136 : ty136 = tiOf Tryz.prog 136 ∧ tyB Tryz.prog 136 = true := ⟨by kernel_rfl, by kernel_rfl⟩
theorem tyok139 : ty139 = tiOf Tryz.prog 139 ∧ tyB Tryz.prog 139 = true := ⟨by kernel_rfl, by kernel_rfl⟩
theorem tyok141 : ty141 = tiOf Tryz.prog 141 ∧ tyB Tryz.prog 141 = true := ⟨by kernel_rfl, by kernel_rfl⟩
theorem tyok144 : ty144 = tiOf Tryz.prog 144 ∧ tyB Tryz.prog 144 = true := ⟨by kernel_rfl, by kernel_rfl⟩
theorem tyok146 : ty146 = tiOf Tryz.prog 146 ∧ tyB Tryz.prog 146 = true := ⟨by kernel_rfl, by kernel_rfl⟩
theorem tyok150 : ty150 = tiOf Tryz.prog 150 ∧ tyB Tryz.prog 150 = true := ⟨by kernel_rfl, by kernel_rfl⟩
theorem tyok166 : ty166 = tiOf Tryz.prog 166 ∧ tyB Tryz.prog 166 = true := ⟨by kernel_rfl, by kernel_rfl⟩
theorem tyok168 : ty168 = tiOf Tryz.prog 168 ∧ tyB Tryz.prog 168 = true := ⟨by kernel_rfl, by kernel_rfl⟩
theorem tyok170 : ty170 = tiOf Tryz.prog 170 ∧ tyB Tryz.prog 170 = true := ⟨by kernel_rfl, by kernel_rfl⟩
theorem tyok171 : ty171 = tiOf Tryz.prog 171 ∧ tyB Tryz.prog 171 = true := ⟨by kernel_rfl, by kernel_rfl⟩
theorem tyok173 : ty173 = tiOf Tryz.prog 173 ∧ tyB Tryz.prog 173 = true := ⟨by kernel_rfl, by kernel_rfl⟩
theorem tyok183 : ty183 = tiOf Tryz.prog 183 ∧ tyB Tryz.prog 183 = true := ⟨by kernel_rfl, by kernel_rfl⟩
theorem tyok188 : ty188 = tiOf Tryz.prog 188 ∧ tyB Tryz.prog 188 = true := ⟨by kernel_rfl, by kernel_rfl⟩
theorem tyok191 : ty191 = tiOf Tryz.prog 191 ∧ tyB Tryz.prog 191 = true := ⟨by kernel_rfl, by kernel_rfl⟩
theorem tyok193 : ty193 = tiOf Tryz.prog 193 ∧ tyB Tryz.prog 193 = true := ⟨by kernel_rfl, by kernel_rfl⟩
theorem tyok195 : ty195 = tiOf Tryz.prog 195 ∧ tyB Tryz.prog 195 = true := ⟨by kernel_rfl, by kernel_rfl⟩
theorem tyok197 : ty197 = tiOf Tryz.prog 197 ∧ tyB Tryz.prog 197 = true := ⟨by kernel_rfl, by kernel_rfl⟩
theorem tyok199 : ty199 = tiOf Tryz.prog 199 ∧ tyB Tryz.prog 199 = true := ⟨by kernel_rfl, by kernel_rfl⟩
theorem tyok203 : ty203 = tiOf Tryz.prog 203 ∧ tyB Tryz.prog 203 = true := ⟨by kernel_rfl, by kernel_rfl⟩
theorem tyok205 : ty205 = tiOf Tryz.prog 205 ∧ tyB Tryz.prog 205 = true := ⟨by kernel_rfl, by kernel_rfl⟩
theorem tyok206 : ty206 = tiOf Tryz.prog 206 ∧ tyB Tryz.prog 206 = true := ⟨by kernel_rfl, by kernel_rfl⟩
theorem tyok207 : ty207 = tiOf Tryz.prog 207 ∧ tyB Tryz.prog 207 = true := ⟨by kernel_rfl, by kernel_rfl⟩
theorem tyok211 : ty211 = tiOf Tryz.prog 211 ∧ tyB Tryz.prog 211 = true := ⟨by kernel_rfl, by kernel_rfl⟩
theorem tyok218 : ty218 = tiOf Tryz.prog 218 ∧ tyB Tryz.prog 218 = true := ⟨by kernel_rfl, by kernel_rfl⟩
theorem tyok220 : ty220 = tiOf Tryz.prog 220 ∧ tyB Tryz.prog 220 = true := ⟨by kernel_rfl, by kernel_rfl⟩
theorem tyok222 : ty222 = tiOf Tryz.prog 222 ∧ tyB Tryz.prog 222 = true := ⟨by kernel_rfl, by kernel_rfl⟩
theorem tyok225 : ty225 = tiOf Tryz.prog 225 ∧ tyB Tryz.prog 225 = true := ⟨by kernel_rfl, by kernel_rfl⟩
theorem tyok227 : ty227 = tiOf Tryz.prog 227 ∧ tyB Tryz.prog 227 = true := ⟨by kernel_rfl, by kernel_rfl⟩
theorem tyok231 : ty231 = tiOf Tryz.prog 231 ∧ tyB Tryz.prog 231 = true := ⟨by kernel_rfl, by kernel_rfl⟩
theorem tyok246 : ty246 = tiOf Tryz.prog 246 ∧ tyB Tryz.prog 246 = true := ⟨by kernel_rfl, by kernel_rfl⟩
theorem tyok267 : ty267 = tiOf Tryz.prog 267 ∧ tyB Tryz.prog 267 = true := ⟨by kernel_rfl, by kernel_rfl⟩
theorem tyok268 : ty268 = tiOf Tryz.prog 268 ∧ tyB Tryz.prog 268 = true := ⟨by kernel_rfl, by kernel_rfl⟩
theorem tyok277 : ty277 = tiOf Tryz.prog 277 ∧ tyB Tryz.prog 277 = true := ⟨by kernel_rfl, by kernel_rfl⟩
theorem tyok284 : ty284 = tiOf Tryz.prog 284 ∧ tyB Tryz.prog 284 = true := ⟨by kernel_rfl, by kernel_rfl⟩
theorem tyok291 : ty291 = tiOf Tryz.prog 291 ∧ tyB Tryz.prog 291 = true := ⟨by kernel_rfl, by kernel_rfl⟩
theorem tyok302 : ty302 = tiOf Tryz.prog 302 ∧ tyB Tryz.prog 302 = true := ⟨by kernel_rfl, by kernel_rfl⟩
theorem tyok316 : ty316 = tiOf Tryz.prog 316 ∧ tyB Tryz.prog 316 = true := ⟨by kernel_rfl, by kernel_rfl⟩
theorem tyok318 : ty318 = tiOf Tryz.prog 318 ∧ tyB Tryz.prog 318 = true := ⟨by kernel_rfl, by kernel_rfl⟩
theorem tyok319 : ty319 = tiOf Tryz.prog 319 ∧ tyB Tryz.prog 319 = true := ⟨by kernel_rfl, by kernel_rfl⟩
theorem tyok332 : ty332 = tiOf Tryz.prog 332 ∧ tyB Tryz.prog 332 = true := ⟨by kernel_rfl, by kernel_rfl⟩
theorem tyok335 : ty335 = tiOf Tryz.prog 335 ∧ tyB Tryz.prog 335 = true := ⟨by kernel_rfl, by kernel_rfl⟩
theorem tyok340 : ty340 = tiOf Tryz.prog 340 ∧ tyB Tryz.prog 340 = true := ⟨by kernel_rfl, by kernel_rfl⟩
theorem tyok359 : ty359 = tiOf Tryz.prog 359 ∧ tyB Tryz.prog 359 = true := ⟨by kernel_rfl, by kernel_rfl⟩
theorem tyok363 : ty363 = tiOf Tryz.prog 363 ∧ tyB Tryz.prog 363 = true := ⟨by kernel_rfl, by kernel_rfl⟩
theorem tyok364 : ty364 = tiOf Tryz.prog 364 ∧ tyB Tryz.prog 364 = true := ⟨by kernel_rfl, by kernel_rfl⟩
theorem tyok365 : ty365 = tiOf Tryz.prog 365 ∧ tyB Tryz.prog 365 = true := ⟨by kernel_rfl, by kernel_rfl⟩
theorem tyok368 : ty368 = tiOf Tryz.prog 368 ∧ tyB Tryz.prog 368 = true := ⟨by kernel_rfl, by kernel_rfl⟩
theorem tyok369 : ty369 = tiOf Tryz.prog 369 ∧ tyB Tryz.prog 369 = true := ⟨by kernel_rfl, by kernel_rfl⟩
theorem tyok372 : ty372 = tiOf Tryz.prog 372 ∧ tyB Tryz.prog 372 = true := ⟨by kernel_rfl, by kernel_rfl⟩
theorem tiT_all : tiT.All Tryz.prog := ⟨⟨⟨⟨⟨⟨⟨trivial, tyok3, trivial⟩, tyok4, trivial⟩, tyok5, ⟨⟨trivial, tyok9, trivial⟩, tyok21, trivial⟩⟩, tyok22, ⟨⟨⟨trivial, tyok24, trivial⟩, tyok26, trivial⟩, tyok35, ⟨⟨trivial, tyok38, trivial⟩, tyok40, trivial⟩⟩⟩, tyok42, ⟨⟨⟨⟨trivial, tyok43, trivial⟩, tyok45, trivial⟩, tyok47, ⟨⟨trivial, tyok50, trivial⟩, tyok55, trivial⟩⟩, tyok56, ⟨⟨⟨trivial, tyok57, trivial⟩, tyok59, trivial⟩, tyok60, ⟨trivial, tyok61, trivial⟩⟩⟩⟩, tyok62, ⟨⟨⟨⟨⟨trivial, tyok64, trivial⟩, tyok66, trivial⟩, tyok67, ⟨⟨trivial, tyok69, trivial⟩, tyok71, trivial⟩⟩, tyok74, ⟨⟨⟨trivial, tyok75, trivial⟩, tyok82, trivial⟩, tyok102, ⟨trivial, tyok106, trivial⟩⟩⟩, tyok110, ⟨⟨⟨⟨trivial, tyok111, trivial⟩, tyok113, trivial⟩, tyok119, ⟨⟨trivial, tyok125, trivial⟩, tyok127, trivial⟩⟩, tyok135, ⟨⟨⟨trivial, tyok136, trivial⟩, tyok139, trivial⟩, tyok141, ⟨trivial, tyok144, trivial⟩⟩⟩⟩⟩, tyok146, ⟨⟨⟨⟨⟨⟨trivial, tyok150, trivial⟩, tyok166, trivial⟩, tyok168, ⟨⟨trivial, tyok170, trivial⟩, tyok171, trivial⟩⟩, tyok173, ⟨⟨⟨trivial, tyok183, trivial⟩, tyok188, trivial⟩, tyok191, ⟨⟨trivial, tyok193, trivial⟩, tyok195, trivial⟩⟩⟩, tyok197, ⟨⟨⟨⟨trivial, tyok199, trivial⟩, tyok203, trivial⟩, tyok205, ⟨⟨trivial, tyok206, trivial⟩, tyok207, trivial⟩⟩, tyok211, ⟨⟨⟨trivial, tyok218, trivial⟩, tyok220, trivial⟩, tyok222, ⟨trivial, tyok225, trivial⟩⟩⟩⟩, tyok227, ⟨⟨⟨⟨⟨trivial, tyok231, trivial⟩, tyok246, trivial⟩, tyok267, ⟨⟨trivial, tyok268, trivial⟩, tyok277, trivial⟩⟩, tyok284, ⟨⟨⟨trivial, tyok291, trivial⟩, tyok302, trivial⟩, tyok316, ⟨trivial, tyok318, trivial⟩⟩⟩, tyok319, ⟨⟨⟨⟨trivial, tyok332, trivial⟩, tyok335, trivial⟩, tyok340, ⟨⟨trivial, tyok359, trivial⟩, tyok363, trivial⟩⟩, tyok364, ⟨⟨⟨trivial, tyok365, trivial⟩, tyok368, trivial⟩, tyok369, ⟨trivial, tyok372, trivial⟩⟩⟩⟩⟩⟩
theorem fok3 : FnOK Tryz.prog ctx 3 fi3 := ⟨Tryz.f3, Tryz.func3, by kernel_rfl, by kernel_rfl, by kernel_rfl, by kernel_rfl, by kernel_rfl, by decide⟩
theorem fok4 : FnOK Tryz.prog ctx 4 fi4 := ⟨Tryz.f4, Tryz.func4, by kernel_rfl, by kernel_rfl, by kernel_rfl, by kernel_rfl, by kernel_rfl, by decide⟩
theorem fok5 : FnOK Tryz.prog ctx 5 fi5 := ⟨Tryz.f5, Tryz.func5, by kernel_rfl, by kernel_rfl, by kernel_rfl, by kernel_rfl, by kernel_rfl, by decide⟩
theorem fok6 : FnOK Tryz.prog ctx 6 fi6 := ⟨Tryz.f6, Tryz.func6, by kernel_rfl, by kernel_rfl, by kernel_rfl, by kernel_rfl, by kernel_rfl, by decide⟩
theorem fok8 : FnOK Tryz.prog ctx 8 fi8 := ⟨Tryz.f8, Tryz.func8, by kernel_rfl, by kernel_rfl, by kernel_rfl, by kernel_rfl, by kernel_rfl, by decide⟩
theorem fok9 : FnOK Tryz.prog ctx 9 fi9 := ⟨Tryz.f9, Tryz.func9, by kernel_rfl, by kernel_rfl, by kernel_rfl, by kernel_rfl, by kernel_rfl, by decide⟩
theorem fok10 : FnOK Tryz.prog ctx 10 fi10 := ⟨Tryz.f10, Tryz.func10, by kernel_rfl, by kernel_rfl, by kernel_rfl, by kernel_rfl, by kernel_rfl, by decide⟩
theorem fok11 : FnOK Tryz.prog ctx 11 fi11 := ⟨Tryz.f11, Tryz.func11, by kernel_rfl, by kernel_rfl, by kernel_rfl, by kernel_rfl, by kernel_rfl, by decide⟩
theorem fok12 : FnOK Tryz.prog ctx 12 fi12 := ⟨Tryz.f12, Tryz.func12, by kernel_rfl, by kernel_rfl, by kernel_rfl, by kernel_rfl, by kernel_rfl, by decide⟩
theorem fok13 : FnOK Tryz.prog ctx 13 fi13 := ⟨Tryz.f13, Tryz.func13, by kernel_rfl, by kernel_rfl, by kernel_rfl, by kernel_rfl, by kernel_rfl, by decide⟩
theorem fok14 : FnOK Tryz.prog ctx 14 fi14 := ⟨Tryz.f14, Tryz.func14, by kernel_rfl, by kernel_rfl, by kernel_rfl, by kernel_rfl, by kernel_rfl, by decide⟩
theorem fok15 : FnOK Tryz.prog ctx 15 fi15 := ⟨Tryz.f15, Tryz.func15, by kernel_rfl, by kernel_rfl, by kernel_rfl, by kernel_rfl, by kernel_rfl, by decide⟩
theorem fok16 : FnOK Tryz.prog ctx 16 fi16 := ⟨Tryz.f16, Tryz.func16, by kernel_rfl, by kernel_rfl, by kernel_rfl, by kernel_rfl, by kernel_rfl, by decide⟩
theorem fok17 : FnOK Tryz.prog ctx 17 fi17 := ⟨Tryz.f17, Tryz.func17, by kernel_rfl, by kernel_rfl, by kernel_rfl, by kernel_rfl, by kernel_rfl, by decide⟩
theorem fok21 : FnOK Tryz.prog ctx 21 fi21 := ⟨Tryz.f21, Tryz.func21, by kernel_rfl, by kernel_rfl, by kernel_rfl, by kernel_rfl, by kernel_rfl, by decide⟩
theorem fok22 : FnOK Tryz.prog ctx 22 fi22 := ⟨Tryz.f22, Tryz.func22, by kernel_rfl, by kernel_rfl, by kernel_rfl, by kernel_rfl, by kernel_rfl, by decide⟩
theorem fok23 : FnOK Tryz.prog ctx 23 fi23 := ⟨Tryz.f23, Tryz.func23, by kernel_rfl, by kernel_rfl, by kernel_rfl, by kernel_rfl, by kernel_rfl, by decide⟩
theorem fok24 : FnOK Tryz.prog ctx 24 fi24 := ⟨Tryz.f24, Tryz.func24, by kernel_rfl, by kernel_rfl, by kernel_rfl, by kernel_rfl, by kernel_rfl, by decide⟩
theorem fok25 : FnOK Tryz.prog ctx 25 fi25 := ⟨Tryz.f25, Tryz.func25, by kernel_rfl, by kernel_rfl, by kernel_rfl, by kernel_rfl, by kernel_rfl, by decide⟩
theorem fok26 : FnOK Tryz.prog ctx 26 fi26 := ⟨Tryz.f26, Tryz.func26, by kernel_rfl, by kernel_rfl, by kernel_rfl, by kernel_rfl, by kernel_rfl, by decide⟩
theorem fok27 : FnOK Tryz.prog ctx 27 fi27 := ⟨Tryz.f27, Tryz.func27, by kernel_rfl, by kernel_rfl, by kernel_rfl, by kernel_rfl, by kernel_rfl, by decide⟩
theorem fok28 : FnOK Tryz.prog ctx 28 fi28 := ⟨Tryz.f28, Tryz.func28, by kernel_rfl, by kernel_rfl, by kernel_rfl, by kernel_rfl, by kernel_rfl, by decide⟩
theorem fok29 : FnOK Tryz.prog ctx 29 fi29 := ⟨Tryz.f29, Tryz.func29, by kernel_rfl, by kernel_rfl, by kernel_rfl, by kernel_rfl, by kernel_rfl, by decide⟩
theorem fok30 : FnOK Tryz.prog ctx 30 fi30 := ⟨Tryz.f30, Tryz.func30, by kernel_rfl, by kernel_rfl, by kernel_rfl, by kernel_rfl, by kernel_rfl, by decide⟩
theorem fok31 : FnOK Tryz.prog ctx 31 fi31 := ⟨Tryz.f31, Tryz.func31, by kernel_rfl, by kernel_rfl, by kernel_rfl, by kernel_rfl, by kernel_rfl, by decide⟩
theorem fok32 : FnOK Tryz.prog ctx 32 fi32 := ⟨Tryz.f32, Tryz.func32, by kernel_rfl, by kernel_rfl, by kernel_rfl, by kernel_rfl, by kernel_rfl, by decide⟩
theorem fok38 : FnOK Tryz.prog ctx 38 fi38 := ⟨Tryz.f38, Tryz.func38, by kernel_rfl, by kernel_rfl, by kernel_rfl, by kernel_rfl, by kernel_rfl, by decide⟩
theorem fok39 : FnOK Tryz.prog ctx 39 fi39 := ⟨Tryz.f39, Tryz.func39, by kernel_rfl, by kernel_rfl, by kernel_rfl, by kernel_rfl, by kernel_rfl, by decide⟩
theorem fok40 : FnOK Tryz.prog ctx 40 fi40 := ⟨Tryz.f40, Tryz.func40, by kernel_rfl, by kernel_rfl, by kernel_rfl, by kernel_rfl, by kernel_rfl, by decide⟩
theorem fok41 : FnOK Tryz.prog ctx 41 fi41 := ⟨Tryz.f41, Tryz.func41, by kernel_rfl, by kernel_rfl, by kernel_rfl, by kernel_rfl, by kernel_rfl, by decide⟩
theorem fok42 : FnOK Tryz.prog ctx 42 fi42 := ⟨Tryz.f42, Tryz.func42, by kernel_rfl, by kernel_rfl, by kernel_rfl, by kernel_rfl, by kernel_rfl, by decide⟩
theorem fok43 : FnOK Tryz.prog ctx 43 fi43 := ⟨Tryz.f43, Tryz.func43, by kernel_rfl, by kernel_rfl, by kernel_rfl, by kernel_rfl, by kernel_rfl, by decide⟩
theorem fok44 : FnOK Tryz.prog ctx 44 fi44 := ⟨Tryz.f44, Tryz.func44, by kernel_rfl, by kernel_rfl, by kernel_rfl, by kernel_rfl, by kernel_rfl, by decide⟩
theorem fok45 : FnOK Tryz.prog ctx 45 fi45 := ⟨Tryz.f45, Tryz.func45, by kernel_rfl, by kernel_rfl, by kernel_rfl, by kernel_rfl, by kernel_rfl, by decide⟩
theorem fok46 : FnOK Tryz.prog ctx 46 fi46 := ⟨Tryz.f46, Tryz.func46, by kernel_rfl, by kernel_rfl, by kernel_rfl, by kernel_rfl, by kernel_rfl, by decide⟩
theorem fok47 : FnOK Tryz.prog ctx 47 fi47 := ⟨Tryz.f47, Tryz.func47, by kernel_rfl, by kernel_rfl, by kernel_rfl, by kernel_rfl, by kernel_rfl, by decide⟩
theorem fok48 : FnOK Tryz.prog ctx 48 fi48 := ⟨Tryz.f48, Tryz.func48, by kernel_rfl, by kernel_rfl, by kernel_rfl, by kernel_rfl, by kernel_rfl, by decide⟩
theorem fok49 : FnOK Tryz.prog ctx 49 fi49 := ⟨Tryz.f49, Tryz.func49, by kernel_rfl, by kernel_rfl, by kernel_rfl, by kernel_rfl, by kernel_rfl, by decide⟩
theorem fok50 : FnOK Tryz.prog ctx 50 fi50 := ⟨Tryz.f50, Tryz.func50, by kernel_rfl, by kernel_rfl, by kernel_rfl, by kernel_rfl, by kernel_rfl, by decide⟩
theorem fok51 : FnOK Tryz.prog ctx 51 fi51 := ⟨Tryz.f51, Tryz.func51, by kernel_rfl, by kernel_rfl, by kernel_rfl, by kernel_rfl, by kernel_rfl, by decide⟩
theorem fok52 : FnOK Tryz.prog ctx 52 fi52 := ⟨Tryz.f52, Tryz.func52, by kernel_rfl, by kernel_rfl, by kernel_rfl, by kernel_rfl, by kernel_rfl, by decide⟩
theorem fok53 : FnOK Tryz.prog ctx 53 fi53 := ⟨Tryz.f53, Tryz.func53, by kernel_rfl, by kernel_rfl, by kernel_rfl, by kernel_rfl, by kernel_rfl, by decide⟩
theorem fok54 : FnOK Tryz.prog ctx 54 fi54 := ⟨Tryz.f54, Tryz.func54, by kernel_rfl, by kernel_rfl, by kernel_rfl, by kernel_rfl, by kernel_rfl, by decide⟩
theorem fok55 : FnOK Tryz.prog ctx 55 fi55 := ⟨Tryz.f55, Tryz.func55, by kernel_rfl, by kernel_rfl, by kernel_rfl, by kernel_rfl, by kernel_rfl, by decide⟩
theorem fok56 : FnOK Tryz.prog ctx 56 fi56 := ⟨Tryz.f56, Tryz.func56, by kernel_rfl, by kernel_rfl, by kernel_rfl, by kernel_rfl, by kernel_rfl, by decide⟩
theorem fok62 : FnOK Tryz.prog ctx 62 fi62 := ⟨Tryz.f62, Tryz.func62, by kernel_rfl, by kernel_rfl, by kernel_rfl, by kernel_rfl, by kernel_rfl, by decide⟩
theorem fok63 : FnOK Tryz.prog ctx 63 fi63 := ⟨Tryz.f63, Tryz.func63, by kernel_rfl, by kernel_rfl, by kernel_rfl, by kernel_rfl, by kernel_rfl, by decide⟩
theorem fok64 : FnOK Tryz.prog ctx 64 fi64 := ⟨Tryz.f64, Tryz.func64, by kernel_rfl, by kernel_rfl, by kernel_rfl, by kernel_rfl, by kernel_rfl, by decide⟩
theorem fok65 : FnOK Tryz.prog ctx 65 fi65 := ⟨Tryz.f65, Tryz.func65, by kernel_rfl, by kernel_rfl, by kernel_rfl, by kernel_rfl, by kernel_rfl, by decide⟩
theorem fok66 : FnOK Tryz.prog ctx 66 fi66 := ⟨Tryz.f66, Tryz.func66, by kernel_rfl, by kernel_rfl, by kernel_rfl, by kernel_rfl, by kernel_rfl, by decide⟩
theorem fok67 : FnOK Tryz.prog ctx 67 fi67 := ⟨Tryz.f67, Tryz.func67, by kernel_rfl, by kernel_rfl, by kernel_rfl, by kernel_rfl, by kernel_rfl, by decide⟩
theorem fok68 : FnOK Tryz.prog ctx 68 fi68 := ⟨Tryz.f68, Tryz.func68, by kernel_rfl, by kernel_rfl, by kernel_rfl, by kernel_rfl, by kernel_rfl, by decide⟩
theorem fok69 : FnOK Tryz.prog ctx 69 fi69 := ⟨Tryz.f69, Tryz.func69, by kernel_rfl, by kernel_rfl, by kernel_rfl, by kernel_rfl, by kernel_rfl, by decide⟩
theorem fok70 : FnOK Tryz.prog ctx 70 fi70 := ⟨Tryz.f70, Tryz.func70, by kernel_rfl, by kernel_rfl, by kernel_rfl, by kernel_rfl, by kernel_rfl, by decide⟩
theorem fok71 : FnOK Tryz.prog ctx 71 fi71 := ⟨Tryz.f71, Tryz.func71, by kernel_rfl, by kernel_rfl, by kernel_rfl, by kernel_rfl, by kernel_rfl, by decide⟩
theorem fok72 : FnOK Tryz.prog ctx 72 fi72 := ⟨Tryz.f72, Tryz.func72, by kernel_rfl, by kernel_rfl, by kernel_rfl, by kernel_rfl, by kernel_rfl, by decide⟩
theorem fok73 : FnOK Tryz.prog ctx 73 fi73 := ⟨Tryz.f73, Tryz.func73, by kernel_rfl, by kernel_rfl, by kernel_rfl, by kernel_rfl, by kernel_rfl, by decide⟩
theorem fok74 : FnOK Tryz.prog ctx 74 fi74 := ⟨Tryz.f74, Tryz.func74, by kernel_rfl, by kernel_rfl, by kernel_rfl, by kernel_rfl, by kernel_rfl, by decide⟩
theorem fok75 : FnOK Tryz.prog ctx 75 fi75 := ⟨Tryz.f75, Tryz.func75, by kernel_rfl, by kernel_rfl, by kernel_rfl, by kernel_rfl, by kernel_rfl, by decide⟩
theorem fok76 : FnOK Tryz.prog ctx 76 fi76 := ⟨Tryz.f76, Tryz.func76, by kernel_rfl, by kernel_rfl, by kernel_rfl, by kernel_rfl, by kernel_rfl, by decide⟩
theorem fok77 : FnOK Tryz.prog ctx 77 fi77 := ⟨Tryz.f77, Tryz.func77, by kernel_rfl, by kernel_rfl, by kernel_rfl, by kernel_rfl, by kernel_rfl, by decide⟩
theorem fok78 : FnOK Tryz.prog ctx 78 fi78 := ⟨Tryz.f78, Tryz.func78, by kernel_rfl, by kernel_rfl, by kernel_rfl, by kernel_rfl, by kernel_rfl, by decide⟩
theorem fok79 : FnOK Tryz.prog ctx 79 fi79 := ⟨Tryz.f79, Tryz.func79, by kernel_rfl, by kernel_rfl, by kernel_rfl, by kernel_rfl, by kernel_rfl, by decide⟩
theorem fok80 : FnOK Tryz.prog ctx 80 fi80 := ⟨Tryz.f80, Tryz.func80, by kernel_rfl, by kernel_rfl, by kernel_rfl, by kernel_rfl, by kernel_rfl, by decide⟩
theorem fok81 : FnOK Tryz.prog ctx 81 fi81 := ⟨Tryz.f81, Tryz.func81, by kernel_rfl, by kernel_rfl, by kernel_rfl, by kernel_rfl, by kernel_rfl, by decide⟩
theorem fok82 : FnOK Tryz.prog ctx 82 fi82 := ⟨Tryz.f82, Tryz.func82, by kernel_rfl, by kernel_rfl, by kernel_rfl, by kernel_rfl, by kernel_rfl, by decide⟩
theorem fok83 : FnOK Tryz.prog ctx 83 fi83 := ⟨Tryz.f83, Tryz.func83, by kernel_rfl, by kernel_rfl, by kernel_rfl, by kernel_rfl, by kernel_rfl, by decide⟩
theorem fok84 : FnOK Tryz.prog ctx 84 fi84 := ⟨Tryz.f84, Tryz.func84, by kernel_rfl, by kernel_rfl, by kernel_rfl, by kernel_rfl, by kernel_rfl, by decide⟩
theorem fok91 : FnOK Tryz.prog ctx 91 fi91 := ⟨Tryz.f91, Tryz.func91, by kernel_rfl, by kernel_rfl, by kernel_rfl, by kernel_rfl, by kernel_rfl, by decide⟩
theorem fok92 : FnOK Tryz.prog ctx 92 fi92 := ⟨Tryz.f92, Tryz.func92, by kernel_rfl, by kernel_rfl, by kernel_rfl, by kernel_rfl, by kernel_rfl, by decide⟩
theorem fok93 : FnOK Tryz.prog ctx 93 fi93 := ⟨Tryz.f93, Tryz.func93, by kernel_rfl, by kernel_rfl, by kernel_rfl, by kernel_rfl, by kernel_rfl, by decide⟩
theorem fok94 : FnOK Tryz.prog ctx 94 fi94 := ⟨Tryz.f94, Tryz.func94, by kernel_rfl, by kernel_rfl, by kernel_rfl, by kernel_rfl, by kernel_rfl, by decide⟩
theorem fok95 : FnOK Tryz.prog ctx 95 fi95 := ⟨Tryz.f95, Tryz.func95, by kernel_rfl, by kernel_rfl, by kernel_rfl, by kernel_rfl, by kernel_rfl, by decide⟩
theorem fok96 : FnOK Tryz.prog ctx 96 fi96 := ⟨Tryz.f96, Tryz.func96, by kernel_rfl, by kernel_rfl, by kernel_rfl, by kernel_rfl, by kernel_rfl, by decide⟩
theorem fok97 : FnOK Tryz.prog ctx 97 fi97 := ⟨Tryz.f97, Tryz.func97, by kernel_rfl, by kernel_rfl, by kernel_rfl, by kernel_rfl, by kernel_rfl, by decide⟩
theorem fok98 : FnOK Tryz.prog ctx 98 fi98 := ⟨Tryz.f98, Tryz.func98, by kernel_rfl, by kernel_rfl, by kernel_rfl, by kernel_rfl, by kernel_rfl, by decide⟩
theorem fok99 : FnOK Tryz.prog ctx 99 fi99 := ⟨Tryz.f99, Tryz.func99, by kernel_rfl, by kernel_rfl, by kernel_rfl, by kernel_rfl, by kernel_rfl, by decide⟩
theorem fok100 : FnOK Tryz.prog ctx 100 fi100 := ⟨Tryz.f100, Tryz.func100, by kernel_rfl, by kernel_rfl, by kernel_rfl, by kernel_rfl, by kernel_rfl, by decide⟩
theorem fok101 : FnOK Tryz.prog ctx 101 fi101 := ⟨Tryz.f101, Tryz.func101, by kernel_rfl, by kernel_rfl, by kernel_rfl, by kernel_rfl, by kernel_rfl, by decide⟩
theorem fok102 : FnOK Tryz.prog ctx 102 fi102 := ⟨Tryz.f102, Tryz.func102, by kernel_rfl, by kernel_rfl, by kernel_rfl, by kernel_rfl, by kernel_rfl, by decide⟩
theorem fok103 : FnOK Tryz.prog ctx 103 fi103 := ⟨Tryz.f103, Tryz.func103, by kernel_rfl, by kernel_rfl, by kernel_rfl, by kernel_rfl, by kernel_rfl, by decide⟩
theorem fok104 : FnOK Tryz.prog ctx 104 fi104 := ⟨Tryz.f104, Tryz.func104, by kernel_rfl, by kernel_rfl, by kernel_rfl, by kernel_rfl, by kernel_rfl, by decide⟩
theorem fok105 : FnOK Tryz.prog ctx 105 fi105 := ⟨Tryz.f105, Tryz.func105, by kernel_rfl, by kernel_rfl, by kernel_rfl, by kernel_rfl, by kernel_rfl, by decide⟩
theorem fok106 : FnOK Tryz.prog ctx 106 fi106 := ⟨Tryz.f106, Tryz.func106, by kernel_rfl, by kernel_rfl, by kernel_rfl, by kernel_rfl, by kernel_rfl, by decide⟩
theorem fok107 : FnOK Tryz.prog ctx 107 fi107 := ⟨Tryz.f107, Tryz.func107, by kernel_rfl, by kernel_rfl, by kernel_rfl, by kernel_rfl, by kernel_rfl, by decide⟩
theorem fok108 : FnOK Tryz.prog ctx 108 fi108 := ⟨Tryz.f108, Tryz.func108, by kernel_rfl, by kernel_rfl, by kernel_rfl, by kernel_rfl, by kernel_rfl, by decide⟩
theorem fok109 : FnOK Tryz.prog ctx 109 fi109 := ⟨Tryz.f109, Tryz.func109, by kernel_rfl, by kernel_rfl, by kernel_rfl, by kernel_rfl, by kernel_rfl, by decide⟩
theorem fok110 : FnOK Tryz.prog ctx 110 fi110 := ⟨Tryz.f110, Tryz.func110, by kernel_rfl, by kernel_rfl, by kernel_rfl, by kernel_rfl, by kernel_rfl, by decide⟩
theorem fok111 : FnOK Tryz.prog ctx 111 fi111 := ⟨Tryz.f111, Tryz.func111, by kernel_rfl, by kernel_rfl, by kernel_rfl, by kernel_rfl, by kernel_rfl, by decide⟩
theorem fok112 : FnOK Tryz.prog ctx 112 fi112 := ⟨Tryz.f112, Tryz.func112, by kernel_rfl, by kernel_rfl, by kernel_rfl, by kernel_rfl, by kernel_rfl, by decide⟩
theorem fok113 : FnOK Tryz.prog ctx 113 fi113 := ⟨Tryz.f113, Tryz.func113, by kernel_rfl, by kernel_rfl, by kernel_rfl, by kernel_rfl, by kernel_rfl, by decide⟩
theorem fok114 : FnOK Tryz.prog ctx 114 fi114 := ⟨Tryz.f114, Tryz.func114, by kernel_rfl, by kernel_rfl, by kernel_rfl, by kernel_rfl, by kernel_rfl, by decide⟩
theorem fok115 : FnOK Tryz.prog ctx 115 fi115 := ⟨Tryz.f115, Tryz.func115, by kernel_rfl, by kernel_rfl, by kernel_rfl, by kernel_rfl, by kernel_rfl, by decide⟩
theorem fok116 : FnOK Tryz.prog ctx 116 fi116 := ⟨Tryz.f116, Tryz.func116, by kernel_rfl, by kernel_rfl, by kernel_rfl, by kernel_rfl, by kernel_rfl, by decide⟩
theorem fok117 : FnOK Tryz.prog ctx 117 fi117 := ⟨Tryz.f117, Tryz.func117, by kernel_rfl, by kernel_rfl, by kernel_rfl, by kernel_rfl, by kernel_rfl, by decide⟩
theorem fok118 : FnOK Tryz.prog ctx 118 fi118 := ⟨Tryz.f118, Tryz.func118, by kernel_rfl, by kernel_rfl, by kernel_rfl, by kernel_rfl, by kernel_rfl, by decide⟩
theorem fok119 : FnOK Tryz.prog ctx 119 fi119 := ⟨Tryz.f119, Tryz.func119, by kernel_rfl, by kernel_rfl, by kernel_rfl, by kernel_rfl, by kernel_rfl, by decide⟩
theorem fok120 : FnOK Tryz.prog ctx 120 fi120 := ⟨Tryz.f120, Tryz.func120, by kernel_rfl, by kernel_rfl, by kernel_rfl, by kernel_rfl, by kernel_rfl, by decide⟩
theorem fok123 : FnOK Tryz.prog ctx 123 fi123 := ⟨Tryz.f123, Tryz.func123, by kernel_rfl, by kernel_rfl, by kernel_rfl, by kernel_rfl, by kernel_rfl, by decide⟩
theorem fok124 : FnOK Tryz.prog ctx 124 fi124 := ⟨Tryz.f124, Tryz.func124, by kernel_rfl, by kernel_rfl, by kernel_rfl, by kernel_rfl, by kernel_rfl, by decide⟩
theorem fok125 : FnOK Tryz.prog ctx 125 fi125 := ⟨Tryz.f125, Tryz.func125, by kernel_rfl, by kernel_rfl, by kernel_rfl, by kernel_rfl, by kernel_rfl, by decide⟩
theorem fok126 : FnOK Tryz.prog ctx 126 fi126 := ⟨Tryz.f126, Tryz.func126, by kernel_rfl, by kernel_rfl, by kernel_rfl, by kernel_rfl, by kernel_rfl, by decide⟩
theorem fok127 : FnOK Tryz.prog ctx 127 fi127 := ⟨Tryz.f127, Tryz.func127, by kernel_rfl, by kernel_rfl, by kernel_rfl, by kernel_rfl, by kernel_rfl, by decide⟩
theorem fok128 : FnOK Tryz.prog ctx 128 fi128 := ⟨Tryz.f128, Tryz.func128, by kernel_rfl, by kernel_rfl, by kernel_rfl, by kernel_rfl, by kernel_rfl, by decide⟩
theorem fok129 : FnOK Tryz.prog ctx 129 fi129 := ⟨Tryz.f129, Tryz.func129, by kernel_rfl, by kernel_rfl, by kernel_rfl, by kernel_rfl, by kernel_rfl, by decide⟩
theorem fok130 : FnOK Tryz.prog ctx 130 fi130 := ⟨Tryz.f130, Tryz.func130, by kernel_rfl, by kernel_rfl, by kernel_rfl, by kernel_rfl, by kernel_rfl, by decide⟩
theorem fok131 : FnOK Tryz.prog ctx 131 fi131 := ⟨Tryz.f131, Tryz.func131, by kernel_rfl, by kernel_rfl, by kernel_rfl, by kernel_rfl, by kernel_rfl, by decide⟩
theorem fok132 : FnOK Tryz.prog ctx 132 fi132 := ⟨Tryz.f132, Tryz.func132, by kernel_rfl, by kernel_rfl, by kernel_rfl, by kernel_rfl, by kernel_rfl, by decide⟩
theorem fok133 : FnOK Tryz.prog ctx 133 fi133 := ⟨Tryz.f133, Tryz.func133, by kernel_rfl, by kernel_rfl, by kernel_rfl, by kernel_rfl, by kernel_rfl, by decide⟩
theorem fok134 : FnOK Tryz.prog ctx 134 fi134 := ⟨Tryz.f134, Tryz.func134, by kernel_rfl, by kernel_rfl, by kernel_rfl, by kernel_rfl, by kernel_rfl, by decide⟩
theorem fok135 : FnOK Tryz.prog ctx 135 fi135 := ⟨Tryz.f135, Tryz.func135, by kernel_rfl, by kernel_rfl, by kernel_rfl, by kernel_rfl, by kernel_rfl, by decide⟩
theorem fok136 : FnOK Tryz.prog ctx 136 fi136 := ⟨Tryz.f136, Tryz.func136, by kernel_rfl, by kernel_rfl, by kernel_rfl, by kernel_rfl, by kernel_rfl, by decide⟩
theorem fok137 : FnOK Tryz.prog ctx 137 fi137 := ⟨Tryz.f137, Tryz.func137, by kernel_rfl, by kernel_rfl, by kernel_rfl, by kernel_rfl, by kernel_rfl, by decide⟩
theorem fok138 : FnOK Tryz.prog ctx 138 fi138 := ⟨Tryz.f138, Tryz.func138, by kernel_rfl, by kernel_rfl, by kernel_rfl, by kernel_rfl, by kernel_rfl, by decide⟩
theorem fok139 : FnOK Tryz.prog ctx 139 fi139 := ⟨Tryz.f139, Tryz.func139, by kernel_rfl, by kernel_rfl, by kernel_rfl, by kernel_rfl, by kernel_rfl, by decide⟩
theorem fok140 : FnOK Tryz.prog ctx 140 fi140 := ⟨Tryz.f140, Tryz.func140, by kernel_rfl, by kernel_rfl, by kernel_rfl, by kernel_rfl, by kernel_rfl, by decide⟩
theorem fok141 : FnOK Tryz.prog ctx 141 fi141 := ⟨Tryz.f141, Tryz.func141, by kernel_rfl, by kernel_rfl, by kernel_rfl, by kernel_rfl, by kernel_rfl, by decide⟩
theorem fok142 : FnOK Tryz.prog ctx 142 fi142 := ⟨Tryz.f142, Tryz.func142, by kernel_rfl, by kernel_rfl, by kernel_rfl, by kernel_rfl, by kernel_rfl, by decide⟩
theorem fok143 : FnOK Tryz.prog ctx 143 fi143 := ⟨Tryz.f143, Tryz.func143, by kernel_rfl, by kernel_rfl, by kernel_rfl, by kernel_rfl, by kernel_rfl, by decide⟩
theorem fok144 : FnOK Tryz.prog ctx 144 fi144 := ⟨Tryz.f144, Tryz.func144, by kernel_rfl, by kernel_rfl, by kernel_rfl, by kernel_rfl, by kernel_rfl, by decide⟩
theorem fok145 : FnOK Tryz.prog ctx 145 fi145 := ⟨Tryz.f145, Tryz.func145, by kernel_rfl, by kernel_rfl, by kernel_rfl, by kernel_rfl, by kernel_rfl, by decide⟩
theorem fok146 : FnOK Tryz.prog ctx 146 fi146 := ⟨Tryz.f146, Tryz.func146, by kernel_rfl, by kernel_rfl, by kernel_rfl, by kernel_rfl, by kernel_rfl, by decide⟩
theorem fok147 : FnOK Tryz.prog ctx 147 fi147 := ⟨Tryz.f147, Tryz.func147, by kernel_rfl, by kernel_rfl, by kernel_rfl, by kernel_rfl, by kernel_rfl, by decide⟩
theorem fok148 : FnOK Tryz.prog ctx 148 fi148 := ⟨Tryz.f148, Tryz.func148, by kernel_rfl, by kernel_rfl, by kernel_rfl, by kernel_rfl, by kernel_rfl, by decide⟩
theorem fok149 : FnOK Tryz.prog ctx 149 fi149 := ⟨Tryz.f149, Tryz.func149, by kernel_rfl, by kernel_rfl, by kernel_rfl, by kernel_rfl, by kernel_rfl, by decide⟩
theorem fok150 : FnOK Tryz.prog ctx 150 fi150 := ⟨Tryz.f150, Tryz.func150, by kernel_rfl, by kernel_rfl, by kernel_rfl, by kernel_rfl, by kernel_rfl, by decide⟩
theorem fok151 : FnOK Tryz.prog ctx 151 fi151 := ⟨Tryz.f151, Tryz.func151, by kernel_rfl, by kernel_rfl, by kernel_rfl, by kernel_rfl, by kernel_rfl, by decide⟩
theorem fok152 : FnOK Tryz.prog ctx 152 fi152 := ⟨Tryz.f152, Tryz.func152, by kernel_rfl, by kernel_rfl, by kernel_rfl, by kernel_rfl, by kernel_rfl, by decide⟩
theorem fok153 : FnOK Tryz.prog ctx 153 fi153 := ⟨Tryz.f153, Tryz.func153, by kernel_rfl, by kernel_rfl, by kernel_rfl, by kernel_rfl, by kernel_rfl, by decide⟩
theorem fok154 : FnOK Tryz.prog ctx 154 fi154 := ⟨Tryz.f154, Tryz.func154, by kernel_rfl, by kernel_rfl, by kernel_rfl, by kernel_rfl, by kernel_rfl, by decide⟩
theorem fok155 : FnOK Tryz.prog ctx 155 fi155 := ⟨Tryz.f155, Tryz.func155, by kernel_rfl, by kernel_rfl, by kernel_rfl, by kernel_rfl, by kernel_rfl, by decide⟩
theorem fok156 : FnOK Tryz.prog ctx 156 fi156 := ⟨Tryz.f156, Tryz.func156, by kernel_rfl, by kernel_rfl, by kernel_rfl, by kernel_rfl, by kernel_rfl, by decide⟩
theorem fok157 : FnOK Tryz.prog ctx 157 fi157 := ⟨Tryz.f157, Tryz.func157, by kernel_rfl, by kernel_rfl, by kernel_rfl, by kernel_rfl, by kernel_rfl, by decide⟩
theorem fok158 : FnOK Tryz.prog ctx 158 fi158 := ⟨Tryz.f158, Tryz.func158, by kernel_rfl, by kernel_rfl, by kernel_rfl, by kernel_rfl, by kernel_rfl, by decide⟩
theorem fok159 : FnOK Tryz.prog ctx 159 fi159 := ⟨Tryz.f159, Tryz.func159, by kernel_rfl, by kernel_rfl, by kernel_rfl, by kernel_rfl, by kernel_rfl, by decide⟩
theorem fok160 : FnOK Tryz.prog ctx 160 fi160 := ⟨Tryz.f160, Tryz.func160, by kernel_rfl, by kernel_rfl, by kernel_rfl, by kernel_rfl, by kernel_rfl, by decide⟩
theorem fok161 : FnOK Tryz.prog ctx 161 fi161 := ⟨Tryz.f161, Tryz.func161, by kernel_rfl, by kernel_rfl, by kernel_rfl, by kernel_rfl, by kernel_rfl, by decide⟩
theorem fok162 : FnOK Tryz.prog ctx 162 fi162 := ⟨Tryz.f162, Tryz.func162, by kernel_rfl, by kernel_rfl, by kernel_rfl, by kernel_rfl, by kernel_rfl, by decide⟩
theorem fok163 : FnOK Tryz.prog ctx 163 fi163 := ⟨Tryz.f163, Tryz.func163, by kernel_rfl, by kernel_rfl, by kernel_rfl, by kernel_rfl, by kernel_rfl, by decide⟩
theorem fok164 : FnOK Tryz.prog ctx 164 fi164 := ⟨Tryz.f164, Tryz.func164, by kernel_rfl, by kernel_rfl, by kernel_rfl, by kernel_rfl, by kernel_rfl, by decide⟩
theorem fok169 : FnOK Tryz.prog ctx 169 fi169 := ⟨Tryz.f169, Tryz.func169, by kernel_rfl, by kernel_rfl, by kernel_rfl, by kernel_rfl, by kernel_rfl, by decide⟩
theorem fok170 : FnOK Tryz.prog ctx 170 fi170 := ⟨Tryz.f170, Tryz.func170, by kernel_rfl, by kernel_rfl, by kernel_rfl, by kernel_rfl, by kernel_rfl, by decide⟩
theorem fok171 : FnOK Tryz.prog ctx 171 fi171 := ⟨Tryz.f171, Tryz.func171, by kernel_rfl, by kernel_rfl, by kernel_rfl, by kernel_rfl, by kernel_rfl, by decide⟩
theorem fok172 : FnOK Tryz.prog ctx 172 fi172 := ⟨Tryz.f172, Tryz.func172, by kernel_rfl, by kernel_rfl, by kernel_rfl, by kernel_rfl, by kernel_rfl, by decide⟩
theorem fok173 : FnOK Tryz.prog ctx 173 fi173 := ⟨Tryz.f173, Tryz.func173, by kernel_rfl, by kernel_rfl, by kernel_rfl, by kernel_rfl, by kernel_rfl, by decide⟩
theorem fok174 : FnOK Tryz.prog ctx 174 fi174 := ⟨Tryz.f174, Tryz.func174, by kernel_rfl, by kernel_rfl, by kernel_rfl, by kernel_rfl, by kernel_rfl, by decide⟩
theorem fok175 : FnOK Tryz.prog ctx 175 fi175 := ⟨Tryz.f175, Tryz.func175, by kernel_rfl, by kernel_rfl, by kernel_rfl, by kernel_rfl, by kernel_rfl, by decide⟩
theorem fok176 : FnOK Tryz.prog ctx 176 fi176 := ⟨Tryz.f176, Tryz.func176, by kernel_rfl, by kernel_rfl, by kernel_rfl, by kernel_rfl, by kernel_rfl, by decide⟩
theorem fok177 : FnOK Tryz.prog ctx 177 fi177 := ⟨Tryz.f177, Tryz.func177, by kernel_rfl, by kernel_rfl, by kernel_rfl, by kernel_rfl, by kernel_rfl, by decide⟩
theorem fok178 : FnOK Tryz.prog ctx 178 fi178 := ⟨Tryz.f178, Tryz.func178, by kernel_rfl, by kernel_rfl, by kernel_rfl, by kernel_rfl, by kernel_rfl, by decide⟩
theorem fok179 : FnOK Tryz.prog ctx 179 fi179 := ⟨Tryz.f179, Tryz.func179, by kernel_rfl, by kernel_rfl, by kernel_rfl, by kernel_rfl, by kernel_rfl, by decide⟩
theorem fok180 : FnOK Tryz.prog ctx 180 fi180 := ⟨Tryz.f180, Tryz.func180, by kernel_rfl, by kernel_rfl, by kernel_rfl, by kernel_rfl, by kernel_rfl, by decide⟩
theorem fok181 : FnOK Tryz.prog ctx 181 fi181 := ⟨Tryz.f181, Tryz.func181, by kernel_rfl, by kernel_rfl, by kernel_rfl, by kernel_rfl, by kernel_rfl, by decide⟩
theorem fok182 : FnOK Tryz.prog ctx 182 fi182 := ⟨Tryz.f182, Tryz.func182, by kernel_rfl, by kernel_rfl, by kernel_rfl, by kernel_rfl, by kernel_rfl, by decide⟩
theorem fok183 : FnOK Tryz.prog ctx 183 fi183 := ⟨Tryz.f183, Tryz.func183, by kernel_rfl, by kernel_rfl, by kernel_rfl, by kernel_rfl, by kernel_rfl, by decide⟩
theorem fok184 : FnOK Tryz.prog ctx 184 fi184 := ⟨Tryz.f184, Tryz.func184, by kernel_rfl, by kernel_rfl, by kernel_rfl, by kernel_rfl, by kernel_rfl, by decide⟩
theorem fok185 : FnOK Tryz.prog ctx 185 fi185 := ⟨Tryz.f185, Tryz.func185, by kernel_rfl, by kernel_rfl, by kernel_rfl, by kernel_rfl, by kernel_rfl, by decide⟩
theorem fok186 : FnOK Tryz.prog ctx 186 fi186 := ⟨Tryz.f186, Tryz.func186, by kernel_rfl, by kernel_rfl, by kernel_rfl, by kernel_rfl, by kernel_rfl, by decide⟩
theorem fok187 : FnOK Tryz.prog ctx 187 fi187 := ⟨Tryz.f187, Tryz.func187, by kernel_rfl, by kernel_rfl, by kernel_rfl, by kernel_rfl, by kernel_rfl, by decide⟩
theorem fok188 : FnOK Tryz.prog ctx 188 fi188 := ⟨Tryz.f188, Tryz.func188, by kernel_rfl, by kernel_rfl, by kernel_rfl, by kernel_rfl, by kernel_rfl, by decide⟩
theorem fok189 : FnOK Tryz.prog ctx 189 fi189 := ⟨Tryz.f189, Tryz.func189, by kernel_rfl, by kernel_rfl, by kernel_rfl, by kernel_rfl, by kernel_rfl, by decide⟩
theorem fok190 : FnOK Tryz.prog ctx 190 fi190 := ⟨Tryz.f190, Tryz.func190, by kernel_rfl, by kernel_rfl, by kernel_rfl, by kernel_rfl, by kernel_rfl, by decide⟩
theorem fok191 : FnOK Tryz.prog ctx 191 fi191 := ⟨Tryz.f191, Tryz.func191, by kernel_rfl, by kernel_rfl, by kernel_rfl, by kernel_rfl, by kernel_rfl, by decide⟩
theorem fok192 : FnOK Tryz.prog ctx 192 fi192 := ⟨Tryz.f192, Tryz.func192, by kernel_rfl, by kernel_rfl, by kernel_rfl, by kernel_rfl, by kernel_rfl, by decide⟩
theorem fok193 : FnOK Tryz.prog ctx 193 fi193 := ⟨Tryz.f193, Tryz.func193, by kernel_rfl, by kernel_rfl, by kernel_rfl, by kernel_rfl, by kernel_rfl, by decide⟩
theorem fok194 : FnOK Tryz.prog ctx 194 fi194 := ⟨Tryz.f194, Tryz.func194, by kernel_rfl, by kernel_rfl, by kernel_rfl, by kernel_rfl, by kernel_rfl, by decide⟩
theorem fok195 : FnOK Tryz.prog ctx 195 fi195 := ⟨Tryz.f195, Tryz.func195, by kernel_rfl, by kernel_rfl, by kernel_rfl, by kernel_rfl, by kernel_rfl, by decide⟩
theorem fok196 : FnOK Tryz.prog ctx 196 fi196 := ⟨Tryz.f196, Tryz.func196, by kernel_rfl, by kernel_rfl, by kernel_rfl, by kernel_rfl, by kernel_rfl, by decide⟩
theorem fok197 : FnOK Tryz.prog ctx 197 fi197 := ⟨Tryz.f197, Tryz.func197, by kernel_rfl, by kernel_rfl, by kernel_rfl, by kernel_rfl, by kernel_rfl, by decide⟩
theorem fok198 : FnOK Tryz.prog ctx 198 fi198 := ⟨Tryz.f198, Tryz.func198, by kernel_rfl, by kernel_rfl, by kernel_rfl, by kernel_rfl, by kernel_rfl, by decide⟩
theorem fok199 : FnOK Tryz.prog ctx 199 fi199 := ⟨Tryz.f199, Tryz.func199, by kernel_rfl, by kernel_rfl, by kernel_rfl, by kernel_rfl, by kernel_rfl, by decide⟩
theorem fok200 : FnOK Tryz.prog ctx 200 fi200 := ⟨Tryz.f200, Tryz.func200, by kernel_rfl, by kernel_rfl, by kernel_rfl, by kernel_rfl, by kernel_rfl, by decide⟩
theorem fok201 : FnOK Tryz.prog ctx 201 fi201 := ⟨Tryz.f201, Tryz.func201, by kernel_rfl, by kernel_rfl, by kernel_rfl, by kernel_rfl, by kernel_rfl, by decide⟩
theorem fok202 : FnOK Tryz.prog ctx 202 fi202 := ⟨Tryz.f202, Tryz.func202, by kernel_rfl, by kernel_rfl, by kernel_rfl, by kernel_rfl, by kernel_rfl, by decide⟩
theorem fok203 : FnOK Tryz.prog ctx 203 fi203 := ⟨Tryz.f203, Tryz.func203, by kernel_rfl, by kernel_rfl, by kernel_rfl, by kernel_rfl, by kernel_rfl, by decide⟩
theorem fok205 : FnOK Tryz.prog ctx 205 fi205 := ⟨Tryz.f205, Tryz.func205, by kernel_rfl, by kernel_rfl, by kernel_rfl, by kernel_rfl, by kernel_rfl, by decide⟩
theorem fok209 : FnOK Tryz.prog ctx 209 fi209 := ⟨Tryz.f209, Tryz.func209, by kernel_rfl, by kernel_rfl, by kernel_rfl, by kernel_rfl, by kernel_rfl, by decide⟩
theorem fok210 : FnOK Tryz.prog ctx 210 fi210 := ⟨Tryz.f210, Tryz.func210, by kernel_rfl, by kernel_rfl, by kernel_rfl, by kernel_rfl, by kernel_rfl, by decide⟩
theorem fok211 : FnOK Tryz.prog ctx 211 fi211 := ⟨Tryz.f211, Tryz.func211, by kernel_rfl, by kernel_rfl, by kernel_rfl, by kernel_rfl, by kernel_rfl, by decide⟩
theorem fok212 : FnOK Tryz.prog ctx 212 fi212 := ⟨Tryz.f212, Tryz.func212, by kernel_rfl, by kernel_rfl, by kernel_rfl, by kernel_rfl, by kernel_rfl, by decide⟩
theorem fok213 : FnOK Tryz.prog ctx 213 fi213 := ⟨Tryz.f213, Tryz.func213, by kernel_rfl, by kernel_rfl, by kernel_rfl, by kernel_rfl, by kernel_rfl, by decide⟩
theorem fok214 : FnOK Tryz.prog ctx 214 fi214 := ⟨Tryz.f214, Tryz.func214, by kernel_rfl, by kernel_rfl, by kernel_rfl, by kernel_rfl, by kernel_rfl, by decide⟩
theorem fok215 : FnOK Tryz.prog ctx 215 fi215 := ⟨Tryz.f215, Tryz.func215, by kernel_rfl, by kernel_rfl, by kernel_rfl, by kernel_rfl, by kernel_rfl, by decide⟩
theorem fok216 : FnOK Tryz.prog ctx 216 fi216 := ⟨Tryz.f216, Tryz.func216, by kernel_rfl, by kernel_rfl, by kernel_rfl, by kernel_rfl, by kernel_rfl, by decide⟩
theorem fok217 : FnOK Tryz.prog ctx 217 fi217 := ⟨Tryz.f217, Tryz.func217, by kernel_rfl, by kernel_rfl, by kernel_rfl, by kernel_rfl, by kernel_rfl, by decide⟩
theorem fok218 : FnOK Tryz.prog ctx 218 fi218 := ⟨Tryz.f218, Tryz.func218, by kernel_rfl, by kernel_rfl, by kernel_rfl, by kernel_rfl, by kernel_rfl, by decide⟩
theorem fok219 : FnOK Tryz.prog ctx 219 fi219 := ⟨Tryz.f219, Tryz.func219, by kernel_rfl, by kernel_rfl, by kernel_rfl, by kernel_rfl, by kernel_rfl, by decide⟩
theorem fok220 : FnOK Tryz.prog ctx 220 fi220 := ⟨Tryz.f220, Tryz.func220, by kernel_rfl, by kernel_rfl, by kernel_rfl, by kernel_rfl, by kernel_rfl, by decide⟩
theorem fok221 : FnOK Tryz.prog ctx 221 fi221 := ⟨Tryz.f221, Tryz.func221, by kernel_rfl, by kernel_rfl, by kernel_rfl, by kernel_rfl, by kernel_rfl, by decide⟩
theorem fok222 : FnOK Tryz.prog ctx 222 fi222 := ⟨Tryz.f222, Tryz.func222, by kernel_rfl, by kernel_rfl, by kernel_rfl, by kernel_rfl, by kernel_rfl, by decide⟩
theorem fok223 : FnOK Tryz.prog ctx 223 fi223 := ⟨Tryz.f223, Tryz.func223, by kernel_rfl, by kernel_rfl, by kernel_rfl, by kernel_rfl, by kernel_rfl, by decide⟩
theorem fok224 : FnOK Tryz.prog ctx 224 fi224 := ⟨Tryz.f224, Tryz.func224, by kernel_rfl, by kernel_rfl, by kernel_rfl, by kernel_rfl, by kernel_rfl, by decide⟩
theorem fok225 : FnOK Tryz.prog ctx 225 fi225 := ⟨Tryz.f225, Tryz.func225, by kernel_rfl, by kernel_rfl, by kernel_rfl, by kernel_rfl, by kernel_rfl, by decide⟩
theorem fok228 : FnOK Tryz.prog ctx 228 fi228 := ⟨Tryz.f228, Tryz.func228, by kernel_rfl, by kernel_rfl, by kernel_rfl, by kernel_rfl, by kernel_rfl, by decide⟩
theorem fok229 : FnOK Tryz.prog ctx 229 fi229 := ⟨Tryz.f229, Tryz.func229, by kernel_rfl, by kernel_rfl, by kernel_rfl, by kernel_rfl, by kernel_rfl, by decide⟩
theorem fok230 : FnOK Tryz.prog ctx 230 fi230 := ⟨Tryz.f230, Tryz.func230, by kernel_rfl, by kernel_rfl, by kernel_rfl, by kernel_rfl, by kernel_rfl, by decide⟩
theorem fok231 : FnOK Tryz.prog ctx 231 fi231 := ⟨Tryz.f231, Tryz.func231, by kernel_rfl, by kernel_rfl, by kernel_rfl, by kernel_rfl, by kernel_rfl, by decide⟩
theorem fok232 : FnOK Tryz.prog ctx 232 fi232 := ⟨Tryz.f232, Tryz.func232, by kernel_rfl, by kernel_rfl, by kernel_rfl, by kernel_rfl, by kernel_rfl, by decide⟩
theorem fok233 : FnOK Tryz.prog ctx 233 fi233 := ⟨Tryz.f233, Tryz.func233, by kernel_rfl, by kernel_rfl, by kernel_rfl, by kernel_rfl, by kernel_rfl, by decide⟩
theorem fok234 : FnOK Tryz.prog ctx 234 fi234 := ⟨Tryz.f234, Tryz.func234, by kernel_rfl, by kernel_rfl, by kernel_rfl, by kernel_rfl, by kernel_rfl, by decide⟩
theorem fok235 : FnOK Tryz.prog ctx 235 fi235 := ⟨Tryz.f235, Tryz.func235, by kernel_rfl, by kernel_rfl, by kernel_rfl, by kernel_rfl, by kernel_rfl, by decide⟩
theorem fok236 : FnOK Tryz.prog ctx 236 fi236 := ⟨Tryz.f236, Tryz.func236, by kernel_rfl, by kernel_rfl, by kernel_rfl, by kernel_rfl, by kernel_rfl, by decide⟩
theorem fok237 : FnOK Tryz.prog ctx 237 fi237 := ⟨Tryz.f237, Tryz.func237, by kernel_rfl, by kernel_rfl, by kernel_rfl, by kernel_rfl, by kernel_rfl, by decide⟩
theorem fok238 : FnOK Tryz.prog ctx 238 fi238 := ⟨Tryz.f238, Tryz.func238, by kernel_rfl, by kernel_rfl, by kernel_rfl, by kernel_rfl, by kernel_rfl, by decide⟩
theorem fok239 : FnOK Tryz.prog ctx 239 fi239 := ⟨Tryz.f239, Tryz.func239, by kernel_rfl, by kernel_rfl, by kernel_rfl, by kernel_rfl, by kernel_rfl, by decide⟩
theorem fok240 : FnOK Tryz.prog ctx 240 fi240 := ⟨Tryz.f240, Tryz.func240, by kernel_rfl, by kernel_rfl, by kernel_rfl, by kernel_rfl, by kernel_rfl, by decide⟩
theorem fok241 : FnOK Tryz.prog ctx 241 fi241 := ⟨Tryz.f241, Tryz.func241, by kernel_rfl, by kernel_rfl, by kernel_rfl, by kernel_rfl, by kernel_rfl, by decide⟩
theorem fok242 : FnOK Tryz.prog ctx 242 fi242 := ⟨Tryz.f242, Tryz.func242, by kernel_rfl, by kernel_rfl, by kernel_rfl, by kernel_rfl, by kernel_rfl, by decide⟩
theorem fok243 : FnOK Tryz.prog ctx 243 fi243 := ⟨Tryz.f243, Tryz.func243, by kernel_rfl, by kernel_rfl, by kernel_rfl, by kernel_rfl, by kernel_rfl, by decide⟩
theorem fok244 : FnOK Tryz.prog ctx 244 fi244 := ⟨Tryz.f244, Tryz.func244, by kernel_rfl, by kernel_rfl, by kernel_rfl, by kernel_rfl, by kernel_rfl, by decide⟩
theorem fok245 : FnOK Tryz.prog ctx 245 fi245 := ⟨Tryz.f245, Tryz.func245, by kernel_rfl, by kernel_rfl, by kernel_rfl, by kernel_rfl, by kernel_rfl, by decide⟩
theorem fok246 : FnOK Tryz.prog ctx 246 fi246 := ⟨Tryz.f246, Tryz.func246, by kernel_rfl, by kernel_rfl, by kernel_rfl, by kernel_rfl, by kernel_rfl, by decide⟩
theorem fok247 : FnOK Tryz.prog ctx 247 fi247 := ⟨Tryz.f247, Tryz.func247, by kernel_rfl, by kernel_rfl, by kernel_rfl, by kernel_rfl, by kernel_rfl, by decide⟩
theorem fok248 : FnOK Tryz.prog ctx 248 fi248 := ⟨Tryz.f248, Tryz.func248, by kernel_rfl, by kernel_rfl, by kernel_rfl, by kernel_rfl, by kernel_rfl, by decide⟩
theorem fok249 : FnOK Tryz.prog ctx 249 fi249 := ⟨Tryz.f249, Tryz.func249, by kernel_rfl, by kernel_rfl, by kernel_rfl, by kernel_rfl, by kernel_rfl, by decide⟩
theorem fok250 : FnOK Tryz.prog ctx 250 fi250 := ⟨Tryz.f250, Tryz.func250, by kernel_rfl, by kernel_rfl, by kernel_rfl, by kernel_rfl, by kernel_rfl, by decide⟩
theorem fok251 : FnOK Tryz.prog ctx 251 fi251 := ⟨Tryz.f251, Tryz.func251, by kernel_rfl, by kernel_rfl, by kernel_rfl, by kernel_rfl, by kernel_rfl, by decide⟩
theorem fok252 : FnOK Tryz.prog ctx 252 fi252 := ⟨Tryz.f252, Tryz.func252, by kernel_rfl, by kernel_rfl, by kernel_rfl, by kernel_rfl, by kernel_rfl, by decide⟩
theorem fok253 : FnOK Tryz.prog ctx 253 fi253 := ⟨Tryz.f253, Tryz.func253, by kernel_rfl, by kernel_rfl, by kernel_rfl, by kernel_rfl, by kernel_rfl, by decide⟩
theorem fok254 : FnOK Tryz.prog ctx 254 fi254 := ⟨Tryz.f254, Tryz.func254, by kernel_rfl, by kernel_rfl, by kernel_rfl, by kernel_rfl, by kernel_rfl, by decide⟩
theorem fok255 : FnOK Tryz.prog ctx 255 fi255 := ⟨Tryz.f255, Tryz.func255, by kernel_rfl, by kernel_rfl, by kernel_rfl, by kernel_rfl, by kernel_rfl, by decide⟩
theorem fok256 : FnOK Tryz.prog ctx 256 fi256 := ⟨Tryz.f256, Tryz.func256, by kernel_rfl, by kernel_rfl, by kernel_rfl, by kernel_rfl, by kernel_rfl, by decide⟩
theorem fok257 : FnOK Tryz.prog ctx 257 fi257 := ⟨Tryz.f257, Tryz.func257, by kernel_rfl, by kernel_rfl, by kernel_rfl, by kernel_rfl, by kernel_rfl, by decide⟩
theorem fok258 : FnOK Tryz.prog ctx 258 fi258 := ⟨Tryz.f258, Tryz.func258, by kernel_rfl, by kernel_rfl, by kernel_rfl, by kernel_rfl, by kernel_rfl, by decide⟩
theorem fok259 : FnOK Tryz.prog ctx 259 fi259 := ⟨Tryz.f259, Tryz.func259, by kernel_rfl, by kernel_rfl, by kernel_rfl, by kernel_rfl, by kernel_rfl, by decide⟩
theorem fok260 : FnOK Tryz.prog ctx 260 fi260 := ⟨Tryz.f260, Tryz.func260, by kernel_rfl, by kernel_rfl, by kernel_rfl, by kernel_rfl, by kernel_rfl, by decide⟩
theorem fok261 : FnOK Tryz.prog ctx 261 fi261 := ⟨Tryz.f261, Tryz.func261, by kernel_rfl, by kernel_rfl, by kernel_rfl, by kernel_rfl, by kernel_rfl, by decide⟩
theorem fok262 : FnOK Tryz.prog ctx 262 fi262 := ⟨Tryz.f262, Tryz.func262, by kernel_rfl, by kernel_rfl, by kernel_rfl, by kernel_rfl, by kernel_rfl, by decide⟩
theorem fok263 : FnOK Tryz.prog ctx 263 fi263 := ⟨Tryz.f263, Tryz.func263, by kernel_rfl, by kernel_rfl, by kernel_rfl, by kernel_rfl, by kernel_rfl, by decide⟩
theorem fok264 : FnOK Tryz.prog ctx 264 fi264 := ⟨Tryz.f264, Tryz.func264, by kernel_rfl, by kernel_rfl, by kernel_rfl, by kernel_rfl, by kernel_rfl, by decide⟩
theorem fok265 : FnOK Tryz.prog ctx 265 fi265 := ⟨Tryz.f265, Tryz.func265, by kernel_rfl, by kernel_rfl, by kernel_rfl, by kernel_rfl, by kernel_rfl, by decide⟩
theorem fok266 : FnOK Tryz.prog ctx 266 fi266 := ⟨Tryz.f266, Tryz.func266, by kernel_rfl, by kernel_rfl, by kernel_rfl, by kernel_rfl, by kernel_rfl, by decide⟩
theorem fok267 : FnOK Tryz.prog ctx 267 fi267 := ⟨Tryz.f267, Tryz.func267, by kernel_rfl, by kernel_rfl, by kernel_rfl, by kernel_rfl, by kernel_rfl, by decide⟩
theorem fok268 : FnOK Tryz.prog ctx 268 fi268 := ⟨Tryz.f268, Tryz.func268, by kernel_rfl, by kernel_rfl, by kernel_rfl, by kernel_rfl, by kernel_rfl, by decide⟩
theorem fok269 : FnOK Tryz.prog ctx 269 fi269 := ⟨Tryz.f269, Tryz.func269, by kernel_rfl, by kernel_rfl, by kernel_rfl, by kernel_rfl, by kernel_rfl, by decide⟩
theorem fok270 : FnOK Tryz.prog ctx 270 fi270 := ⟨Tryz.f270, Tryz.func270, by kernel_rfl, by kernel_rfl, by kernel_rfl, by kernel_rfl, by kernel_rfl, by decide⟩
theorem fok271 : FnOK Tryz.prog ctx 271 fi271 := ⟨Tryz.f271, Tryz.func271, by kernel_rfl, by kernel_rfl, by kernel_rfl, by kernel_rfl, by kernel_rfl, by decide⟩
theorem fok272 : FnOK Tryz.prog ctx 272 fi272 := ⟨Tryz.f272, Tryz.func272, by kernel_rfl, by kernel_rfl, by kernel_rfl, by kernel_rfl, by kernel_rfl, by decide⟩
theorem fok273 : FnOK Tryz.prog ctx 273 fi273 := ⟨Tryz.f273, Tryz.func273, by kernel_rfl, by kernel_rfl, by kernel_rfl, by kernel_rfl, by kernel_rfl, by decide⟩
theorem fok274 : FnOK Tryz.prog ctx 274 fi274 := ⟨Tryz.f274, Tryz.func274, by kernel_rfl, by kernel_rfl, by kernel_rfl, by kernel_rfl, by kernel_rfl, by decide⟩
theorem fok275 : FnOK Tryz.prog ctx 275 fi275 := ⟨Tryz.f275, Tryz.func275, by kernel_rfl, by kernel_rfl, by kernel_rfl, by kernel_rfl, by kernel_rfl, by decide⟩
theorem fok276 : FnOK Tryz.prog ctx 276 fi276 := ⟨Tryz.f276, Tryz.func276, by kernel_rfl, by kernel_rfl, by kernel_rfl, by kernel_rfl, by kernel_rfl, by decide⟩
theorem fok277 : FnOK Tryz.prog ctx 277 fi277 := ⟨Tryz.f277, Tryz.func277, by kernel_rfl, by kernel_rfl, by kernel_rfl, by kernel_rfl, by kernel_rfl, by decide⟩
theorem fok278 : FnOK Tryz.prog ctx 278 fi278 := ⟨Tryz.f278, Tryz.func278, by kernel_rfl, by kernel_rfl, by kernel_rfl, by kernel_rfl, by kernel_rfl, by decide⟩
theorem fok279 : FnOK Tryz.prog ctx 279 fi279 := ⟨Tryz.f279, Tryz.func279, by kernel_rfl, by kernel_rfl, by kernel_rfl, by kernel_rfl, by kernel_rfl, by decide⟩
theorem fok280 : FnOK Tryz.prog ctx 280 fi280 := ⟨Tryz.f280, Tryz.func280, by kernel_rfl, by kernel_rfl, by kernel_rfl, by kernel_rfl, by kernel_rfl, by decide⟩
theorem fok281 : FnOK Tryz.prog ctx 281 fi281 := ⟨Tryz.f281, Tryz.func281, by kernel_rfl, by kernel_rfl, by kernel_rfl, by kernel_rfl, by kernel_rfl, by decide⟩
theorem fok282 : FnOK Tryz.prog ctx 282 fi282 := ⟨Tryz.f282, Tryz.func282, by kernel_rfl, by kernel_rfl, by kernel_rfl, by kernel_rfl, by kernel_rfl, by decide⟩
theorem fok283 : FnOK Tryz.prog ctx 283 fi283 := ⟨Tryz.f283, Tryz.func283, by kernel_rfl, by kernel_rfl, by kernel_rfl, by kernel_rfl, by kernel_rfl, by decide⟩
theorem fok284 : FnOK Tryz.prog ctx 284 fi284 := ⟨Tryz.f284, Tryz.func284, by kernel_rfl, by kernel_rfl, by kernel_rfl, by kernel_rfl, by kernel_rfl, by decide⟩
theorem fok285 : FnOK Tryz.prog ctx 285 fi285 := ⟨Tryz.f285, Tryz.func285, by kernel_rfl, by kernel_rfl, by kernel_rfl, by kernel_rfl, by kernel_rfl, by decide⟩
theorem fok286 : FnOK Tryz.prog ctx 286 fi286 := ⟨Tryz.f286, Tryz.func286, by kernel_rfl, by kernel_rfl, by kernel_rfl, by kernel_rfl, by kernel_rfl, by decide⟩
theorem fok287 : FnOK Tryz.prog ctx 287 fi287 := ⟨Tryz.f287, Tryz.func287, by kernel_rfl, by kernel_rfl, by kernel_rfl, by kernel_rfl, by kernel_rfl, by decide⟩
theorem fok288 : FnOK Tryz.prog ctx 288 fi288 := ⟨Tryz.f288, Tryz.func288, by kernel_rfl, by kernel_rfl, by kernel_rfl, by kernel_rfl, by kernel_rfl, by decide⟩
theorem fok289 : FnOK Tryz.prog ctx 289 fi289 := ⟨Tryz.f289, Tryz.func289, by kernel_rfl, by kernel_rfl, by kernel_rfl, by kernel_rfl, by kernel_rfl, by decide⟩
theorem fok290 : FnOK Tryz.prog ctx 290 fi290 := ⟨Tryz.f290, Tryz.func290, by kernel_rfl, by kernel_rfl, by kernel_rfl, by kernel_rfl, by kernel_rfl, by decide⟩
theorem fok291 : FnOK Tryz.prog ctx 291 fi291 := ⟨Tryz.f291, Tryz.func291, by kernel_rfl, by kernel_rfl, by kernel_rfl, by kernel_rfl, by kernel_rfl, by decide⟩
theorem fok292 : FnOK Tryz.prog ctx 292 fi292 := ⟨Tryz.f292, Tryz.func292, by kernel_rfl, by kernel_rfl, by kernel_rfl, by kernel_rfl, by kernel_rfl, by decide⟩
theorem fok293 : FnOK Tryz.prog ctx 293 fi293 := ⟨Tryz.f293, Tryz.func293, by kernel_rfl, by kernel_rfl, by kernel_rfl, by kernel_rfl, by kernel_rfl, by decide⟩
theorem fok294 : FnOK Tryz.prog ctx 294 fi294 := ⟨Tryz.f294, Tryz.func294, by kernel_rfl, by kernel_rfl, by kernel_rfl, by kernel_rfl, by kernel_rfl, by decide⟩
theorem fok295 : FnOK Tryz.prog ctx 295 fi295 := ⟨Tryz.f295, Tryz.func295, by kernel_rfl, by kernel_rfl, by kernel_rfl, by kernel_rfl, by kernel_rfl, by decide⟩
theorem fok296 : FnOK Tryz.prog ctx 296 fi296 := ⟨Tryz.f296, Tryz.func296, by kernel_rfl, by kernel_rfl, by kernel_rfl, by kernel_rfl, by kernel_rfl, by decide⟩
theorem fok297 : FnOK Tryz.prog ctx 297 fi297 := ⟨Tryz.f297, Tryz.func297, by kernel_rfl, by kernel_rfl, by kernel_rfl, by kernel_rfl, by kernel_rfl, by decide⟩
theorem fok298 : FnOK Tryz.prog ctx 298 fi298 := ⟨Tryz.f298, Tryz.func298, by kernel_rfl, by kernel_rfl, by kernel_rfl, by kernel_rfl, by kernel_rfl, by decide⟩
theorem fok299 : FnOK Tryz.prog ctx 299 fi299 := ⟨Tryz.f299, Tryz.func299, by kernel_rfl, by kernel_rfl, by kernel_rfl, by kernel_rfl, by kernel_rfl, by decide⟩
theorem fok300 : FnOK Tryz.prog ctx 300 fi300 := ⟨Tryz.f300, Tryz.func300, by kernel_rfl, by kernel_rfl, by kernel_rfl, by kernel_rfl, by kernel_rfl, by decide⟩
theorem fok301 : FnOK Tryz.prog ctx 301 fi301 := ⟨Tryz.f301, Tryz.func301, by kernel_rfl, by kernel_rfl, by kernel_rfl, by kernel_rfl, by kernel_rfl, by decide⟩
theorem fok302 : FnOK Tryz.prog ctx 302 fi302 := ⟨Tryz.f302, Tryz.func302, by kernel_rfl, by kernel_rfl, by kernel_rfl, by kernel_rfl, by kernel_rfl, by decide⟩
theorem fok303 : FnOK Tryz.prog ctx 303 fi303 := ⟨Tryz.f303, Tryz.func303, by kernel_rfl, by kernel_rfl, by kernel_rfl, by kernel_rfl, by kernel_rfl, by decide⟩
theorem fok304 : FnOK Tryz.prog ctx 304 fi304 := ⟨Tryz.f304, Tryz.func304, by kernel_rfl, by kernel_rfl, by kernel_rfl, by kernel_rfl, by kernel_rfl, by decide⟩
theorem fok305 : FnOK Tryz.prog ctx 305 fi305 := ⟨Tryz.f305, Tryz.func305, by kernel_rfl, by kernel_rfl, by kernel_rfl, by kernel_rfl, by kernel_rfl, by decide⟩
theorem fok306 : FnOK Tryz.prog ctx 306 fi306 := ⟨Tryz.f306, Tryz.func306, by kernel_rfl, by kernel_rfl, by kernel_rfl, by kernel_rfl, by kernel_rfl, by decide⟩
theorem fok307 : FnOK Tryz.prog ctx 307 fi307 := ⟨Tryz.f307, Tryz.func307, by kernel_rfl, by kernel_rfl, by kernel_rfl, by kernel_rfl, by kernel_rfl, by decide⟩
theorem fok308 : FnOK Tryz.prog ctx 308 fi308 := ⟨Tryz.f308, Tryz.func308, by kernel_rfl, by kernel_rfl, by kernel_rfl, by kernel_rfl, by kernel_rfl, by decide⟩
theorem fok309 : FnOK Tryz.prog ctx 309 fi309 := ⟨Tryz.f309, Tryz.func309, by kernel_rfl, by kernel_rfl, by kernel_rfl, by kernel_rfl, by kernel_rfl, by decide⟩
theorem fok310 : FnOK Tryz.prog ctx 310 fi310 := ⟨Tryz.f310, Tryz.func310, by kernel_rfl, by kernel_rfl, by kernel_rfl, by kernel_rfl, by kernel_rfl, by decide⟩
theorem fok311 : FnOK Tryz.prog ctx 311 fi311 := ⟨Tryz.f311, Tryz.func311, by kernel_rfl, by kernel_rfl, by kernel_rfl, by kernel_rfl, by kernel_rfl, by decide⟩
theorem fok312 : FnOK Tryz.prog ctx 312 fi312 := ⟨Tryz.f312, Tryz.func312, by kernel_rfl, by kernel_rfl, by kernel_rfl, by kernel_rfl, by kernel_rfl, by decide⟩
theorem fok313 : FnOK Tryz.prog ctx 313 fi313 := ⟨Tryz.f313, Tryz.func313, by kernel_rfl, by kernel_rfl, by kernel_rfl, by kernel_rfl, by kernel_rfl, by decide⟩
theorem fok314 : FnOK Tryz.prog ctx 314 fi314 := ⟨Tryz.f314, Tryz.func314, by kernel_rfl, by kernel_rfl, by kernel_rfl, by kernel_rfl, by kernel_rfl, by decide⟩
theorem fok315 : FnOK Tryz.prog ctx 315 fi315 := ⟨Tryz.f315, Tryz.func315, by kernel_rfl, by kernel_rfl, by kernel_rfl, by kernel_rfl, by kernel_rfl, by decide⟩
theorem fok316 : FnOK Tryz.prog ctx 316 fi316 := ⟨Tryz.f316, Tryz.func316, by kernel_rfl, by kernel_rfl, by kernel_rfl, by kernel_rfl, by kernel_rfl, by decide⟩
theorem fok317 : FnOK Tryz.prog ctx 317 fi317 := ⟨Tryz.f317, Tryz.func317, by kernel_rfl, by kernel_rfl, by kernel_rfl, by kernel_rfl, by kernel_rfl, by decide⟩
theorem fok318 : FnOK Tryz.prog ctx 318 fi318 := ⟨Tryz.f318, Tryz.func318, by kernel_rfl, by kernel_rfl, by kernel_rfl, by kernel_rfl, by kernel_rfl, by decide⟩
theorem fok319 : FnOK Tryz.prog ctx 319 fi319 := ⟨Tryz.f319, Tryz.func319, by kernel_rfl, by kernel_rfl, by kernel_rfl, by kernel_rfl, by kernel_rfl, by decide⟩
theorem fok320 : FnOK Tryz.prog ctx 320 fi320 := ⟨Tryz.f320, Tryz.func320, by kernel_rfl, by kernel_rfl, by kernel_rfl, by kernel_rfl, by kernel_rfl, by decide⟩
theorem fok322 : FnOK Tryz.prog ctx 322 fi322 := ⟨Tryz.f322, Tryz.func322, by kernel_rfl, by kernel_rfl, by kernel_rfl, by kernel_rfl, by kernel_rfl, by decide⟩
theorem fok323 : FnOK Tryz.prog ctx 323 fi323 := ⟨Tryz.f323, Tryz.func323, by kernel_rfl, by kernel_rfl, by kernel_rfl, by kernel_rfl, by kernel_rfl, by decide⟩
theorem fok325 : FnOK Tryz.prog ctx 325 fi325 := ⟨Tryz.f325, Tryz.func325, by kernel_rfl, by kernel_rfl, by kernel_rfl, by kernel_rfl, by kernel_rfl, by decide⟩
theorem fnT_all : fnT.All Tryz.prog ctx := ⟨⟨⟨⟨⟨⟨⟨⟨⟨trivial, fok3, trivial⟩, fok4, trivial⟩, fok5, ⟨trivial, fok6, trivial⟩⟩, fok8, ⟨⟨⟨trivial, fok9, trivial⟩, fok10, trivial⟩, fok11, ⟨trivial, fok12, trivial⟩⟩⟩, fok13, ⟨⟨⟨⟨trivial, fok14, trivial⟩, fok15, trivial⟩, fok16, ⟨trivial, fok17, trivial⟩⟩, fok21, ⟨⟨trivial, fok22, trivial⟩, fok23, ⟨trivial, fok24, trivial⟩⟩⟩⟩, fok25, ⟨⟨⟨⟨⟨trivial, fok26, trivial⟩, fok27, trivial⟩, fok28, ⟨trivial, fok29, trivial⟩⟩, fok30, ⟨⟨trivial, fok31, trivial⟩, fok32, ⟨trivial, fok38, trivial⟩⟩⟩, fok39, ⟨⟨⟨⟨trivial, fok40, trivial⟩, fok41, trivial⟩, fok42, ⟨trivial, fok43, trivial⟩⟩, fok44, ⟨⟨trivial, fok45, trivial⟩, fok46, ⟨trivial, fok47, trivial⟩⟩⟩⟩⟩, fok48, ⟨⟨⟨⟨⟨⟨trivial, fok49, trivial⟩, fok50, trivial⟩, fok51, ⟨trivial, fok52, trivial⟩⟩, fok53, ⟨⟨trivial, fok54, trivial⟩, fok55, ⟨trivial, fok56, trivial⟩⟩⟩, fok62, ⟨⟨⟨⟨trivial, fok63, trivial⟩, fok64, trivial⟩, fok65, ⟨trivial, fok66, trivial⟩⟩, fok67, ⟨⟨trivial, fok68, trivial⟩, fok69, ⟨trivial, fok70, trivial⟩⟩⟩⟩, fok71, ⟨⟨⟨⟨⟨trivial, fok72, trivial⟩, fok73, trivial⟩, fok74, ⟨trivial, fok75, trivial⟩⟩, fok76, ⟨⟨trivial, fok77, trivial⟩, fok78, ⟨trivial, fok79, trivial⟩⟩⟩, fok80, ⟨⟨⟨⟨trivial, fok81, trivial⟩, fok82, trivial⟩, fok83, ⟨trivial, fok84, trivial⟩⟩, fok91, ⟨⟨trivial, fok92, trivial⟩, fok93, ⟨trivial, fok94, trivial⟩⟩⟩⟩⟩⟩, fok95, ⟨⟨⟨⟨⟨⟨⟨trivial, fok96, trivial⟩, fok97, trivial⟩, fok98, ⟨trivial, fok99, trivial⟩⟩, fok100, ⟨⟨trivial, fok101, trivial⟩, fok102, ⟨trivial, fok103, trivial⟩⟩⟩, fok104, ⟨⟨⟨⟨trivial, fok105, trivial⟩, fok106, trivial⟩, fok107, ⟨trivial, fok108, trivial⟩⟩, fok109, ⟨⟨trivial, fok110, trivial⟩, fok111, ⟨trivial, fok112, trivial⟩⟩⟩⟩, fok113, ⟨⟨⟨⟨⟨trivial, fok114, trivial⟩, fok115, trivial⟩, fok116, ⟨trivial, fok117, trivial⟩⟩, fok118, ⟨⟨trivial, fok119, trivial⟩, fok120, ⟨trivial, fok123, trivial⟩⟩⟩, fok124, ⟨⟨⟨⟨trivial, fok125, trivial⟩, fok126, trivial⟩, fok127, ⟨trivial, fok128, trivial⟩⟩, fok129, ⟨⟨trivial, fok130, trivial⟩, fok131, ⟨trivial, fok132, trivial⟩⟩⟩⟩⟩, fok133, ⟨⟨⟨⟨⟨⟨trivial, fok134, trivial⟩, fok135, trivial⟩, fok136, ⟨trivial, fok137, trivial⟩⟩, fok138, ⟨⟨trivial, fok139, trivial⟩, fok140, ⟨trivial, fok141, trivial⟩⟩⟩, fok142, ⟨⟨⟨⟨trivial, fok143, trivial⟩, fok144, trivial⟩, fok145, ⟨trivial, fok146, trivial⟩⟩, fok147, ⟨⟨trivial, fok148, trivial⟩, fok149, ⟨trivial, fok150, trivial⟩⟩⟩⟩, fok151, ⟨⟨⟨⟨⟨trivial, fok152, trivial⟩, fok153, trivial⟩, fok154, ⟨trivial, fok155, trivial⟩⟩, fok156, ⟨⟨trivial, fok157, trivial⟩, fok158, ⟨trivial, fok159, trivial⟩⟩⟩, fok160, ⟨⟨⟨⟨trivial, fok161, trivial⟩, fok162, trivial⟩, fok163, ⟨trivial, fok164, trivial⟩⟩, fok169, ⟨⟨trivial, fok170, trivial⟩, fok171, ⟨trivial, fok172, trivial⟩⟩⟩⟩⟩⟩⟩, fok173, ⟨⟨⟨⟨⟨⟨⟨⟨trivial, fok174, trivial⟩, fok175, trivial⟩, fok176, ⟨trivial, fok177, trivial⟩⟩, fok178, ⟨⟨⟨trivial, fok179, trivial⟩, fok180, trivial⟩, fok181, ⟨trivial, fok182, trivial⟩⟩⟩, fok183, ⟨⟨⟨⟨trivial, fok184, trivial⟩, fok185, trivial⟩, fok186, ⟨trivial, fok187, trivial⟩⟩, fok188, ⟨⟨trivial, fok189, trivial⟩, fok190, ⟨trivial, fok191, trivial⟩⟩⟩⟩, fok192, ⟨⟨⟨⟨⟨trivial, fok193, trivial⟩, fok194, trivial⟩, fok195, ⟨trivial, fok196, trivial⟩⟩, fok197, ⟨⟨trivial, fok198, trivial⟩, fok199, ⟨trivial, fok200, trivial⟩⟩⟩, fok201, ⟨⟨⟨⟨trivial, fok202, trivial⟩, fok203, trivial⟩, fok205, ⟨trivial, fok209, trivial⟩⟩, fok210, ⟨⟨trivial, fok211, trivial⟩, fok212, ⟨trivial, fok213, trivial⟩⟩⟩⟩⟩, fok214, ⟨⟨⟨⟨⟨⟨trivial, fok215, trivial⟩, fok216, trivial⟩, fok217, ⟨trivial, fok218, trivial⟩⟩, fok219, ⟨⟨trivial, fok220, trivial⟩, fok221, ⟨trivial, fok222, trivial⟩⟩⟩, fok223, ⟨⟨⟨⟨trivial, fok224, trivial⟩, fok225, trivial⟩, fok228, ⟨trivial, fok229, trivial⟩⟩, fok230, ⟨⟨trivial, fok231, trivial⟩, fok232, ⟨trivial, fok233, trivial⟩⟩⟩⟩, fok234, ⟨⟨⟨⟨⟨trivial, fok235, trivial⟩, fok236, trivial⟩, fok237, ⟨trivial, fok238, trivial⟩⟩, fok239, ⟨⟨trivial, fok240, trivial⟩, fok241, ⟨trivial, fok242, trivial⟩⟩⟩, fok243, ⟨⟨⟨⟨trivial, fok244, trivial⟩, fok245, trivial⟩, fok246, ⟨trivial, fok247, trivial⟩⟩, fok248, ⟨⟨trivial, fok249, trivial⟩, fok250, ⟨trivial, fok251, trivial⟩⟩⟩⟩⟩⟩, fok252, ⟨⟨⟨⟨⟨⟨⟨trivial, fok253, trivial⟩, fok254, trivial⟩, fok255, ⟨trivial, fok256, trivial⟩⟩, fok257, ⟨⟨trivial, fok258, trivial⟩, fok259, ⟨trivial, fok260, trivial⟩⟩⟩, fok261, ⟨⟨⟨⟨trivial, fok262, trivial⟩, fok263, trivial⟩, fok264, ⟨trivial, fok265, trivial⟩⟩, fok266, ⟨⟨trivial, fok267, trivial⟩, fok268, ⟨trivial, fok269, trivial⟩⟩⟩⟩, fok270, ⟨⟨⟨⟨⟨trivial, fok271, trivial⟩, fok272, trivial⟩, fok273, ⟨trivial, fok274, trivial⟩⟩, fok275, ⟨⟨trivial, fok276, trivial⟩, fok277, ⟨trivial, fok278, trivial⟩⟩⟩, fok279, ⟨⟨⟨⟨trivial, fok280, trivial⟩, fok281, trivial⟩, fok282, ⟨trivial, fok283, trivial⟩⟩, fok284, ⟨⟨trivial, fok285, trivial⟩, fok286, ⟨trivial, fok287, trivial⟩⟩⟩⟩⟩, fok288, ⟨⟨⟨⟨⟨⟨trivial, fok289, trivial⟩, fok290, trivial⟩, fok291, ⟨trivial, fok292, trivial⟩⟩, fok293, ⟨⟨trivial, fok294, trivial⟩, fok295, ⟨trivial, fok296, trivial⟩⟩⟩, fok297, ⟨⟨⟨⟨trivial, fok298, trivial⟩, fok299, trivial⟩, fok300, ⟨trivial, fok301, trivial⟩⟩, fok302, ⟨⟨trivial, fok303, trivial⟩, fok304, ⟨trivial, fok305, trivial⟩⟩⟩⟩, fok306, ⟨⟨⟨⟨⟨trivial, fok307, trivial⟩, fok308, trivial⟩, fok309, ⟨trivial, fok310, trivial⟩⟩, fok311, ⟨⟨trivial, fok312, trivial⟩, fok313, ⟨trivial, fok314, trivial⟩⟩⟩, fok315, ⟨⟨⟨⟨trivial, fok316, trivial⟩, fok317, trivial⟩, fok318, ⟨trivial, fok319, trivial⟩⟩, fok320, ⟨⟨trivial, fok322, trivial⟩, fok323, ⟨trivial, fok325, trivial⟩⟩⟩⟩⟩⟩⟩⟩
theorem ctxOK : CtxOK Tryz.prog ctx := ctx_ok rfl tiT_all rfl fnT_all rfl rfl (by kernel_rfl)
end TA
