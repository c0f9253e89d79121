/- The tables are those of the program, third part. -/
import Derived.Test.YtjbckgabnkljlaaGreatDoorBase

section
set_option maxHeartbeats 0
set_option maxRecDepth 100000
namespace Go.Ev.Cc
open Go.Proofs
theorem g5 : Good Tryz.prog E 11 5 f5 := ⟨Tryz.f5, Tryz.func5, by kernel_rfl⟩
theorem g7 : Good Tryz.prog E 11 7 f7 := ⟨Tryz.f7, Tryz.func7, by kernel_rfl⟩
theorem g10 : Good Tryz.prog E 11 10 f10 := ⟨Tryz.f10, Tryz.func10, by kernel_rfl⟩
theorem g11 : Good Tryz.prog E 11 11 f11 := ⟨Tryz.f11, Tryz.func11, by kernel_rfl⟩
theorem g13 : Good Tryz.prog E 11 13 f13 := ⟨Tryz.f13, Tryz.func13, by kernel_rfl⟩
theorem g20 : Good Tryz.prog E 11 20 f20 := ⟨Tryz.f20, Tryz.func20, by kernel_rfl⟩
theorem g24 : Good Tryz.prog E 11 24 f24 := ⟨Tryz.f24, Tryz.func24, by kernel_rfl⟩
theorem g27 : Good Tryz.prog E 11 27 f27 := ⟨Tryz.f27, Tryz.func27, by kernel_rfl⟩
theorem g33 : Good Tryz.prog E 11 33 f33 := ⟨Tryz.f33, Tryz.func33, by kernel_rfl⟩
theorem g35 : Good Tryz.prog E 11 35 f35 := ⟨Tryz.f35, Tryz.func35, by kernel_rfl⟩
theorem g37 : Good Tryz.prog E 11 37 f37 := ⟨Tryz.f37, Tryz.func37, by kernel_rfl⟩
theorem g43 : Good Tryz.prog E 11 43 f43 := ⟨Tryz.f43, Tryz.func43, by kernel_rfl⟩
theorem g44 : Good Tryz.prog E 11 44 f44 := ⟨Tryz.f44, Tryz.func44, by kernel_rfl⟩
theorem g48 : Good Tryz.prog E 11 48 f48 := ⟨Tryz.f48, Tryz.func48, by kernel_rfl⟩
theorem g54 : Good Tryz.prog E 11 54 f54 := ⟨Tryz.f54, Tryz.func54, by kernel_rfl⟩
theorem g63 : Good Tryz.prog E 11 63 f63 := ⟨Tryz.f63, Tryz.func63, by kernel_rfl⟩
theorem g67 : Good Tryz.prog E 11 67 f67 := ⟨Tryz.f67, Tryz.func67, by kernel_rfl⟩
theorem g72 : Good Tryz.prog E 11 72 f72 := ⟨Tryz.f72, Tryz.func72, by kernel_rfl⟩
theorem g75 : Good Tryz.prog E 11 75 f75 := ⟨Tryz.f75, Tryz.func75, by kernel_rfl⟩
theorem g78 : Good Tryz.prog E 11 78 f78 := ⟨Tryz.f78, Tryz.func78, by kernel_rfl⟩
theorem g83 : Good Tryz.prog E 11 83 f83 := ⟨Tryz.f83, Tryz.func83, by kernel_rfl⟩
theorem g85 : Good Tryz.prog E 11 85 f85 := ⟨Tryz.f85, Tryz.func85, by kernel_rfl⟩
theorem g90 : Good Tryz.prog E 11 90 f90 := ⟨Tryz.f90, Tryz.func90, by kernel_rfl⟩
theorem g98 : Good Tryz.prog E 11 98 f98 := ⟨Tryz.f98, Tryz.func98, by kernel_rfl⟩
theorem g106 : Good Tryz.prog E 11 106 f106 := ⟨Tryz.f106, Tryz.func106, by kernel_rfl⟩
theorem g108 : Good Tryz.prog E 11 108 f108 := ⟨Tryz.f108, Tryz.func108, by kernel_rfl⟩
theorem g110 : Good Tryz.prog E 11 110 f110 := ⟨Tryz.f110, Tryz.func110, by kernel_rfl⟩
theorem g118 : Good Tryz.prog E 11 118 f118 := ⟨Tryz.f118, Tryz.func118, by kernel_rfl⟩
theorem g124 : Good Tryz.prog E 11 124 f124 := ⟨Tryz.f124, Tryz.func124, by kernel_rfl⟩
theorem g132 : Good Tryz.prog E 11 132 f132 := ⟨Tryz.f132, Tryz.func132, by kernel_rfl⟩
theorem g133 : Good Tryz.prog E 11 133 f133 := ⟨Tryz.f133, Tryz.func133, by kernel_rfl⟩
theorem g158 : Good Tryz.prog E 11 158 f158 := ⟨Tryz.f158, Tryz.func158, by kernel_rfl⟩
theorem g163 : Good Tryz.prog E 11 163 f163 := ⟨Tryz.f163, Tryz.func163, by kernel_rfl⟩
theorem g168 : Good Tryz.prog E 11 168 f168 := ⟨Tryz.f168, Tryz.func168, by kernel_rfl⟩
theorem g170 : Good Tryz.prog E 11 170 f170 := ⟨Tryz.f170, Tryz.func170, by kernel_rfl⟩
theorem g172 : Good Tryz.prog E 11 172 f172 := ⟨Tryz.f172, Tryz.func172, by kernel_rfl⟩
theorem g191 : Good Tryz.prog E 11 191 f191 := ⟨Tryz.f191, Tryz.func191, by kernel_rfl⟩
theorem g193 : Good Tryz.prog E 11 193 f193 := ⟨Tryz.f193, Tryz.func193, by kernel_rfl⟩
theorem g198 : Good Tryz.prog E 11 198 f198 := ⟨Tryz.f198, Tryz.func198, by kernel_rfl⟩
theorem g200 : Good Tryz.prog E 11 200 f200 := ⟨Tryz.f200, Tryz.func200, by kernel_rfl⟩
theorem g206 : Good Tryz.prog E 11 206 f206 := ⟨Tryz.f206, Tryz.func206, by kernel_rfl⟩
theorem g217 : Good Tryz.prog E 11 217 f217 := ⟨Tryz.f217, Tryz.func217, by kernel_rfl⟩
theorem g220 : Good Tryz.prog E 11 220 f220 := ⟨Tryz.f220, Tryz.func220, by kernel_rfl⟩
theorem g228 : Good Tryz.prog E 11 228 f228 := ⟨Tryz.f228, Tryz.func228, by kernel_rfl⟩
theorem g229 : Good Tryz.prog E 11 229 f229 := ⟨Tryz.f229, Tryz.func229, by kernel_rfl⟩
theorem g249 : Good Tryz.prog E 11 249 f249 := ⟨Tryz.f249, Tryz.func249, by kernel_rfl⟩
theorem g252 : Good Tryz.prog E 11 252 f252 := ⟨Tryz.f252, Tryz.func252, by kernel_rfl⟩
theorem g259 : Good Tryz.prog E 11 259 f259 := ⟨Tryz.f259, Tryz.func259, by kernel_rfl⟩
theorem g260 : Good Tryz.prog E 11 260 f260 := ⟨Tryz.f260, Tryz.func260, by kernel_rfl⟩
theorem g265 : Good Tryz.prog E 11 265 f265 := ⟨Tryz.f265, Tryz.func265, by kernel_rfl⟩
theorem g289 : Good Tryz.prog E 11 289 f289 := ⟨Tryz.f289, Tryz.func289, by kernel_rfl⟩
theorem g290 : Good Tryz.prog E 11 290 f290 := ⟨Tryz.f290, Tryz.func290, by kernel_rfl⟩
theorem g292 : Good Tryz.prog E 11 292 f292 := ⟨Tryz.f292, Tryz.func292, by kernel_rfl⟩
theorem g304 : Good Tryz.prog E 11 304 f304 := ⟨Tryz.f304, Tryz.func304, by kernel_rfl⟩
theorem g305 : Good Tryz.prog E 11 305 f305 := ⟨Tryz.f305, Tryz.func305, by kernel_rfl⟩
theorem g309 : Good Tryz.prog E 11 309 f309 := ⟨Tryz.f309, Tryz.func309, by kernel_rfl⟩
theorem g310 : Good Tryz.prog E 11 310 f310 := ⟨Tryz.f310, Tryz.func310, by kernel_rfl⟩
theorem g317 : Good Tryz.prog E 11 317 f317 := ⟨Tryz.f317, Tryz.func317, by kernel_rfl⟩
theorem g321 : Good Tryz.prog E 11 321 f321 := ⟨Tryz.f321, Tryz.func321, by kernel_rfl⟩
theorem g325 : Good Tryz.prog E 11 325 f325 := ⟨Tryz.f325, Tryz.func325, by kernel_rfl⟩
theorem g336 : Good Tryz.prog E 11 336 f336 := ⟨Tryz.f336, Tryz.func336, by kernel_rfl⟩
theorem g345 : Good Tryz.prog E 11 345 f345 := ⟨Tryz.f345, Tryz.func345, by kernel_rfl⟩
theorem g358 : Good Tryz.prog E 11 358 f358 := ⟨Tryz.f358, Tryz.func358, by kernel_rfl⟩
theorem g362 : Good Tryz.prog E 11 362 f362 := ⟨Tryz.f362, Tryz.func362, by kernel_rfl⟩
theorem g375 : Good Tryz.prog E 11 375 f375 := ⟨Tryz.f375, Tryz.func375, by kernel_rfl⟩
theorem g379 : Good Tryz.prog E 11 379 f379 := ⟨Tryz.f379, Tryz.func379, by kernel_rfl⟩
theorem g387 : Good Tryz.prog E 11 387 f387 := ⟨Tryz.f387, Tryz.func387, by kernel_rfl⟩
theorem g408 : Good Tryz.prog E 11 408 f408 := ⟨Tryz.f408, Tryz.func408, by kernel_rfl⟩
theorem g423 : Good Tryz.prog E 11 423 f423 := ⟨Tryz.f423, Tryz.func423, by kernel_rfl⟩
theorem g440 : Good Tryz.prog E 11 440 f440 := ⟨Tryz.f440, Tryz.func440, by kernel_rfl⟩
theorem g450 : Good Tryz.prog E 11 450 f450 := ⟨Tryz.f450, Tryz.func450, by kernel_rfl⟩
theorem g453 : Good Tryz.prog E 11 453 f453 := ⟨Tryz.f453, Tryz.func453, by kernel_rfl⟩
theorem g470 : Good Tryz.prog E 11 470 f470 := ⟨Tryz.f470, Tryz.func470, by kernel_rfl⟩
theorem g519 : Good Tryz.prog E 11 519 f519 := ⟨Tryz.f519, Tryz.func519, by kernel_rfl⟩
theorem g521 : Good Tryz.prog E 11 521 f521 := ⟨Tryz.f521, Tryz.func521, by kernel_rfl⟩
end Go.Ev.Cc
end
