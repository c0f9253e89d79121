/- The tables are those of the program, first part. -/
import Derived.Test.YtjbckgabnkljlaaGreatDoorBase

section
set_option maxHeartbeats 0
set_option maxRecDepth 100000
namespace Go.Ev.Cc
open Go.Proofs
theorem g4 : Good Tryz.prog E 11 4 f4 := ⟨Tryz.f4, Tryz.func4, by kernel_rfl⟩
theorem g6 : Good Tryz.prog E 11 6 f6 := ⟨Tryz.f6, Tryz.func6, by kernel_rfl⟩
theorem g9 : Good Tryz.prog E 11 9 f9 := ⟨Tryz.f9, Tryz.func9, by kernel_rfl⟩
theorem g12 : Good Tryz.prog E 11 12 f12 := ⟨Tryz.f12, Tryz.func12, by kernel_rfl⟩
theorem g14 : Good Tryz.prog E 11 14 f14 := ⟨Tryz.f14, Tryz.func14, by kernel_rfl⟩
theorem g16 : Good Tryz.prog E 11 16 f16 := ⟨Tryz.f16, Tryz.func16, by kernel_rfl⟩
theorem g18 : Good Tryz.prog E 11 18 f18 := ⟨Tryz.f18, Tryz.func18, by kernel_rfl⟩
theorem g23 : Good Tryz.prog E 11 23 f23 := ⟨Tryz.f23, Tryz.func23, by kernel_rfl⟩
theorem g26 : Good Tryz.prog E 11 26 f26 := ⟨Tryz.f26, Tryz.func26, by kernel_rfl⟩
theorem g32 : Good Tryz.prog E 11 32 f32 := ⟨Tryz.f32, Tryz.func32, by kernel_rfl⟩
theorem g36 : Good Tryz.prog E 11 36 f36 := ⟨Tryz.f36, Tryz.func36, by kernel_rfl⟩
theorem g39 : Good Tryz.prog E 11 39 f39 := ⟨Tryz.f39, Tryz.func39, by kernel_rfl⟩
theorem g42 : Good Tryz.prog E 11 42 f42 := ⟨Tryz.f42, Tryz.func42, by kernel_rfl⟩
theorem g47 : Good Tryz.prog E 11 47 f47 := ⟨Tryz.f47, Tryz.func47, by kernel_rfl⟩
theorem g61 : Good Tryz.prog E 11 61 f61 := ⟨Tryz.f61, Tryz.func61, by kernel_rfl⟩
theorem g65 : Good Tryz.prog E 11 65 f65 := ⟨Tryz.f65, Tryz.func65, by kernel_rfl⟩
theorem g79 : Good Tryz.prog E 11 79 f79 := ⟨Tryz.f79, Tryz.func79, by kernel_rfl⟩
theorem g84 : Good Tryz.prog E 11 84 f84 := ⟨Tryz.f84, Tryz.func84, by kernel_rfl⟩
theorem g86 : Good Tryz.prog E 11 86 f86 := ⟨Tryz.f86, Tryz.func86, by kernel_rfl⟩
theorem g87 : Good Tryz.prog E 11 87 f87 := ⟨Tryz.f87, Tryz.func87, by kernel_rfl⟩
theorem g105 : Good Tryz.prog E 11 105 f105 := ⟨Tryz.f105, Tryz.func105, by kernel_rfl⟩
theorem g107 : Good Tryz.prog E 11 107 f107 := ⟨Tryz.f107, Tryz.func107, by kernel_rfl⟩
theorem g114 : Good Tryz.prog E 11 114 f114 := ⟨Tryz.f114, Tryz.func114, by kernel_rfl⟩
theorem g121 : Good Tryz.prog E 11 121 f121 := ⟨Tryz.f121, Tryz.func121, by kernel_rfl⟩
theorem g130 : Good Tryz.prog E 11 130 f130 := ⟨Tryz.f130, Tryz.func130, by kernel_rfl⟩
theorem g140 : Good Tryz.prog E 11 140 f140 := ⟨Tryz.f140, Tryz.func140, by kernel_rfl⟩
theorem g144 : Good Tryz.prog E 11 144 f144 := ⟨Tryz.f144, Tryz.func144, by kernel_rfl⟩
theorem g147 : Good Tryz.prog E 11 147 f147 := ⟨Tryz.f147, Tryz.func147, by kernel_rfl⟩
theorem g157 : Good Tryz.prog E 11 157 f157 := ⟨Tryz.f157, Tryz.func157, by kernel_rfl⟩
theorem g169 : Good Tryz.prog E 11 169 f169 := ⟨Tryz.f169, Tryz.func169, by kernel_rfl⟩
theorem g177 : Good Tryz.prog E 11 177 f177 := ⟨Tryz.f177, Tryz.func177, by kernel_rfl⟩
theorem g181 : Good Tryz.prog E 11 181 f181 := ⟨Tryz.f181, Tryz.func181, by kernel_rfl⟩
theorem g188 : Good Tryz.prog E 11 188 f188 := ⟨Tryz.f188, Tryz.func188, by kernel_rfl⟩
theorem g203 : Good Tryz.prog E 11 203 f203 := ⟨Tryz.f203, Tryz.func203, by kernel_rfl⟩
theorem g215 : Good Tryz.prog E 11 215 f215 := ⟨Tryz.f215, Tryz.func215, by kernel_rfl⟩
theorem g226 : Good Tryz.prog E 11 226 f226 := ⟨Tryz.f226, Tryz.func226, by kernel_rfl⟩
theorem g227 : Good Tryz.prog E 11 227 f227 := ⟨Tryz.f227, Tryz.func227, by kernel_rfl⟩
theorem g230 : Good Tryz.prog E 11 230 f230 := ⟨Tryz.f230, Tryz.func230, by kernel_rfl⟩
theorem g250 : Good Tryz.prog E 11 250 f250 := ⟨Tryz.f250, Tryz.func250, by kernel_rfl⟩
theorem g251 : Good Tryz.prog E 11 251 f251 := ⟨Tryz.f251, Tryz.func251, by kernel_rfl⟩
theorem g258 : Good Tryz.prog E 11 258 f258 := ⟨Tryz.f258, Tryz.func258, by kernel_rfl⟩
theorem g262 : Good Tryz.prog E 11 262 f262 := ⟨Tryz.f262, Tryz.func262, by kernel_rfl⟩
theorem g263 : Good Tryz.prog E 11 263 f263 := ⟨Tryz.f263, Tryz.func263, by kernel_rfl⟩
theorem g270 : Good Tryz.prog E 11 270 f270 := ⟨Tryz.f270, Tryz.func270, by kernel_rfl⟩
theorem g271 : Good Tryz.prog E 11 271 f271 := ⟨Tryz.f271, Tryz.func271, by kernel_rfl⟩
theorem g280 : Good Tryz.prog E 11 280 f280 := ⟨Tryz.f280, Tryz.func280, by kernel_rfl⟩
theorem g283 : Good Tryz.prog E 11 283 f283 := ⟨Tryz.f283, Tryz.func283, by kernel_rfl⟩
theorem g285 : Good Tryz.prog E 11 285 f285 := ⟨Tryz.f285, Tryz.func285, by kernel_rfl⟩
theorem g286 : Good Tryz.prog E 11 286 f286 := ⟨Tryz.f286, Tryz.func286, by kernel_rfl⟩
theorem g291 : Good Tryz.prog E 11 291 f291 := ⟨Tryz.f291, Tryz.func291, by kernel_rfl⟩
theorem g301 : Good Tryz.prog E 11 301 f301 := ⟨Tryz.f301, Tryz.func301, by kernel_rfl⟩
theorem g302 : Good Tryz.prog E 11 302 f302 := ⟨Tryz.f302, Tryz.func302, by kernel_rfl⟩
theorem g313 : Good Tryz.prog E 11 313 f313 := ⟨Tryz.f313, Tryz.func313, by kernel_rfl⟩
theorem g318 : Good Tryz.prog E 11 318 f318 := ⟨Tryz.f318, Tryz.func318, by kernel_rfl⟩
theorem g322 : Good Tryz.prog E 11 322 f322 := ⟨Tryz.f322, Tryz.func322, by kernel_rfl⟩
theorem g334 : Good Tryz.prog E 11 334 f334 := ⟨Tryz.f334, Tryz.func334, by kernel_rfl⟩
theorem g335 : Good Tryz.prog E 11 335 f335 := ⟨Tryz.f335, Tryz.func335, by kernel_rfl⟩
theorem g356 : Good Tryz.prog E 11 356 f356 := ⟨Tryz.f356, Tryz.func356, by kernel_rfl⟩
theorem g359 : Good Tryz.prog E 11 359 f359 := ⟨Tryz.f359, Tryz.func359, by kernel_rfl⟩
theorem g371 : Good Tryz.prog E 11 371 f371 := ⟨Tryz.f371, Tryz.func371, by kernel_rfl⟩
theorem g388 : Good Tryz.prog E 11 388 f388 := ⟨Tryz.f388, Tryz.func388, by kernel_rfl⟩
theorem g393 : Good Tryz.prog E 11 393 f393 := ⟨Tryz.f393, Tryz.func393, by kernel_rfl⟩
theorem g394 : Good Tryz.prog E 11 394 f394 := ⟨Tryz.f394, Tryz.func394, by kernel_rfl⟩
theorem g398 : Good Tryz.prog E 11 398 f398 := ⟨Tryz.f398, Tryz.func398, by kernel_rfl⟩
theorem g409 : Good Tryz.prog E 11 409 f409 := ⟨Tryz.f409, Tryz.func409, by kernel_rfl⟩
theorem g439 : Good Tryz.prog E 11 439 f439 := ⟨Tryz.f439, Tryz.func439, by kernel_rfl⟩
theorem g451 : Good Tryz.prog E 11 451 f451 := ⟨Tryz.f451, Tryz.func451, by kernel_rfl⟩
theorem g465 : Good Tryz.prog E 11 465 f465 := ⟨Tryz.f465, Tryz.func465, by kernel_rfl⟩
theorem g466 : Good Tryz.prog E 11 466 f466 := ⟨Tryz.f466, Tryz.func466, by kernel_rfl⟩
theorem g488 : Good Tryz.prog E 11 488 f488 := ⟨Tryz.f488, Tryz.func488, by kernel_rfl⟩
theorem g490 : Good Tryz.prog E 11 490 f490 := ⟨Tryz.f490, Tryz.func490, by kernel_rfl⟩
theorem g497 : Good Tryz.prog E 11 497 f497 := ⟨Tryz.f497, Tryz.func497, by kernel_rfl⟩
theorem g537 : Good Tryz.prog E 11 537 f537 := ⟨Tryz.f537, Tryz.func537, by kernel_rfl⟩
theorem gr8 : GoodR Tryz.prog E 11 8 r8 := by
  show compR E Tryz.prog 11 8 = some r8
  kernel_rfl
theorem gr29 : GoodR Tryz.prog E 11 29 r29 := by
  show compR E Tryz.prog 11 29 = some r29
  kernel_rfl
theorem gr36 : GoodR Tryz.prog E 11 36 r36 := by
  show compR E Tryz.prog 11 36 = some r36
  kernel_rfl
theorem gr41 : GoodR Tryz.prog E 11 41 r41 := by
  show compR E Tryz.prog 11 41 = some r41
  kernel_rfl
theorem gr71 : GoodR Tryz.prog E 11 71 r71 := by
  show compR E Tryz.prog 11 71 = some r71
  kernel_rfl
theorem gr206 : GoodR Tryz.prog E 11 206 r206 := by
  show compR E Tryz.prog 11 206 = some r206
  kernel_rfl
theorem gr332 : GoodR Tryz.prog E 11 332 r332 := by
  show compR E Tryz.prog 11 332 = some r332
  kernel_rfl
theorem gr335 : GoodR Tryz.prog E 11 335 r335 := by
  show compR E Tryz.prog 11 335 = some r335
  kernel_rfl
end Go.Ev.Cc
end
