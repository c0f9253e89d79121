/- The tables are those of the program, fourth part. -/
import Derived.Test.YtjbckgabnkljlaaGreatDoorBase

section
set_option maxHeartbeats 0
set_option maxRecDepth 100000
namespace Go.Ev.Cc
open Go.Proofs
theorem g3 : Good Tryz.prog E 11 3 f3 := ⟨Tryz.f3, Tryz.func3, by kernel_rfl⟩
theorem g8 : Good Tryz.prog E 11 8 f8 := ⟨Tryz.f8, Tryz.func8, by kernel_rfl⟩
theorem g15 : Good Tryz.prog E 11 15 f15 := ⟨Tryz.f15, Tryz.func15, by kernel_rfl⟩
theorem g17 : Good Tryz.prog E 11 17 f17 := ⟨Tryz.f17, Tryz.func17, by kernel_rfl⟩
theorem g21 : Good Tryz.prog E 11 21 f21 := ⟨Tryz.f21, Tryz.func21, by kernel_rfl⟩
theorem g22 : Good Tryz.prog E 11 22 f22 := ⟨Tryz.f22, Tryz.func22, by kernel_rfl⟩
theorem g25 : Good Tryz.prog E 11 25 f25 := ⟨Tryz.f25, Tryz.func25, by kernel_rfl⟩
theorem g29 : Good Tryz.prog E 11 29 f29 := ⟨Tryz.f29, Tryz.func29, by kernel_rfl⟩
theorem g34 : Good Tryz.prog E 11 34 f34 := ⟨Tryz.f34, Tryz.func34, by kernel_rfl⟩
theorem g38 : Good Tryz.prog E 11 38 f38 := ⟨Tryz.f38, Tryz.func38, by kernel_rfl⟩
theorem g46 : Good Tryz.prog E 11 46 f46 := ⟨Tryz.f46, Tryz.func46, by kernel_rfl⟩
theorem g50 : Good Tryz.prog E 11 50 f50 := ⟨Tryz.f50, Tryz.func50, by kernel_rfl⟩
theorem g66 : Good Tryz.prog E 11 66 f66 := ⟨Tryz.f66, Tryz.func66, by kernel_rfl⟩
theorem g70 : Good Tryz.prog E 11 70 f70 := ⟨Tryz.f70, Tryz.func70, by kernel_rfl⟩
theorem g71 : Good Tryz.prog E 11 71 f71 := ⟨Tryz.f71, Tryz.func71, by kernel_rfl⟩
theorem g73 : Good Tryz.prog E 11 73 f73 := ⟨Tryz.f73, Tryz.func73, by kernel_rfl⟩
theorem g76 : Good Tryz.prog E 11 76 f76 := ⟨Tryz.f76, Tryz.func76, by kernel_rfl⟩
theorem g77 : Good Tryz.prog E 11 77 f77 := ⟨Tryz.f77, Tryz.func77, by kernel_rfl⟩
theorem g100 : Good Tryz.prog E 11 100 f100 := ⟨Tryz.f100, Tryz.func100, by kernel_rfl⟩
theorem g112 : Good Tryz.prog E 11 112 f112 := ⟨Tryz.f112, Tryz.func112, by kernel_rfl⟩
theorem g119 : Good Tryz.prog E 11 119 f119 := ⟨Tryz.f119, Tryz.func119, by kernel_rfl⟩
theorem g123 : Good Tryz.prog E 11 123 f123 := ⟨Tryz.f123, Tryz.func123, by kernel_rfl⟩
theorem g126 : Good Tryz.prog E 11 126 f126 := ⟨Tryz.f126, Tryz.func126, by kernel_rfl⟩
theorem g128 : Good Tryz.prog E 11 128 f128 := ⟨Tryz.f128, Tryz.func128, by kernel_rfl⟩
theorem g129 : Good Tryz.prog E 11 129 f129 := ⟨Tryz.f129, Tryz.func129, by kernel_rfl⟩
theorem g136 : Good Tryz.prog E 11 136 f136 := ⟨Tryz.f136, Tryz.func136, by kernel_rfl⟩
theorem g155 : Good Tryz.prog E 11 155 f155 := ⟨Tryz.f155, Tryz.func155, by kernel_rfl⟩
theorem g159 : Good Tryz.prog E 11 159 f159 := ⟨Tryz.f159, Tryz.func159, by kernel_rfl⟩
theorem g160 : Good Tryz.prog E 11 160 f160 := ⟨Tryz.f160, Tryz.func160, by kernel_rfl⟩
theorem g161 : Good Tryz.prog E 11 161 f161 := ⟨Tryz.f161, Tryz.func161, by kernel_rfl⟩
theorem g179 : Good Tryz.prog E 11 179 f179 := ⟨Tryz.f179, Tryz.func179, by kernel_rfl⟩
theorem g182 : Good Tryz.prog E 11 182 f182 := ⟨Tryz.f182, Tryz.func182, by kernel_rfl⟩
theorem g184 : Good Tryz.prog E 11 184 f184 := ⟨Tryz.f184, Tryz.func184, by kernel_rfl⟩
theorem g187 : Good Tryz.prog E 11 187 f187 := ⟨Tryz.f187, Tryz.func187, by kernel_rfl⟩
theorem g192 : Good Tryz.prog E 11 192 f192 := ⟨Tryz.f192, Tryz.func192, by kernel_rfl⟩
theorem g194 : Good Tryz.prog E 11 194 f194 := ⟨Tryz.f194, Tryz.func194, by kernel_rfl⟩
theorem g202 : Good Tryz.prog E 11 202 f202 := ⟨Tryz.f202, Tryz.func202, by kernel_rfl⟩
theorem g211 : Good Tryz.prog E 11 211 f211 := ⟨Tryz.f211, Tryz.func211, by kernel_rfl⟩
theorem g216 : Good Tryz.prog E 11 216 f216 := ⟨Tryz.f216, Tryz.func216, by kernel_rfl⟩
theorem g247 : Good Tryz.prog E 11 247 f247 := ⟨Tryz.f247, Tryz.func247, by kernel_rfl⟩
theorem g300 : Good Tryz.prog E 11 300 f300 := ⟨Tryz.f300, Tryz.func300, by kernel_rfl⟩
theorem g303 : Good Tryz.prog E 11 303 f303 := ⟨Tryz.f303, Tryz.func303, by kernel_rfl⟩
theorem g306 : Good Tryz.prog E 11 306 f306 := ⟨Tryz.f306, Tryz.func306, by kernel_rfl⟩
theorem g320 : Good Tryz.prog E 11 320 f320 := ⟨Tryz.f320, Tryz.func320, by kernel_rfl⟩
theorem g324 : Good Tryz.prog E 11 324 f324 := ⟨Tryz.f324, Tryz.func324, by kernel_rfl⟩
theorem g331 : Good Tryz.prog E 11 331 f331 := ⟨Tryz.f331, Tryz.func331, by kernel_rfl⟩
theorem g332 : Good Tryz.prog E 11 332 f332 := ⟨Tryz.f332, Tryz.func332, by kernel_rfl⟩
theorem g333 : Good Tryz.prog E 11 333 f333 := ⟨Tryz.f333, Tryz.func333, by kernel_rfl⟩
theorem g351 : Good Tryz.prog E 11 351 f351 := ⟨Tryz.f351, Tryz.func351, by kernel_rfl⟩
theorem g357 : Good Tryz.prog E 11 357 f357 := ⟨Tryz.f357, Tryz.func357, by kernel_rfl⟩
theorem g360 : Good Tryz.prog E 11 360 f360 := ⟨Tryz.f360, Tryz.func360, by kernel_rfl⟩
theorem g363 : Good Tryz.prog E 11 363 f363 := ⟨Tryz.f363, Tryz.func363, by kernel_rfl⟩
theorem g365 : Good Tryz.prog E 11 365 f365 := ⟨Tryz.f365, Tryz.func365, by kernel_rfl⟩
theorem g367 : Good Tryz.prog E 11 367 f367 := ⟨Tryz.f367, Tryz.func367, by kernel_rfl⟩
theorem g384 : Good Tryz.prog E 11 384 f384 := ⟨Tryz.f384, Tryz.func384, by kernel_rfl⟩
theorem g389 : Good Tryz.prog E 11 389 f389 := ⟨Tryz.f389, Tryz.func389, by kernel_rfl⟩
theorem g390 : Good Tryz.prog E 11 390 f390 := ⟨Tryz.f390, Tryz.func390, by kernel_rfl⟩
theorem g391 : Good Tryz.prog E 11 391 f391 := ⟨Tryz.f391, Tryz.func391, by kernel_rfl⟩
theorem g417 : Good Tryz.prog E 11 417 f417 := ⟨Tryz.f417, Tryz.func417, by kernel_rfl⟩
theorem g418 : Good Tryz.prog E 11 418 f418 := ⟨Tryz.f418, Tryz.func418, by kernel_rfl⟩
theorem g419 : Good Tryz.prog E 11 419 f419 := ⟨Tryz.f419, Tryz.func419, by kernel_rfl⟩
theorem g433 : Good Tryz.prog E 11 433 f433 := ⟨Tryz.f433, Tryz.func433, by kernel_rfl⟩
theorem g434 : Good Tryz.prog E 11 434 f434 := ⟨Tryz.f434, Tryz.func434, by kernel_rfl⟩
theorem g457 : Good Tryz.prog E 11 457 f457 := ⟨Tryz.f457, Tryz.func457, by kernel_rfl⟩
theorem g462 : Good Tryz.prog E 11 462 f462 := ⟨Tryz.f462, Tryz.func462, by kernel_rfl⟩
theorem g471 : Good Tryz.prog E 11 471 f471 := ⟨Tryz.f471, Tryz.func471, by kernel_rfl⟩
theorem g502 : Good Tryz.prog E 11 502 f502 := ⟨Tryz.f502, Tryz.func502, by kernel_rfl⟩
theorem g503 : Good Tryz.prog E 11 503 f503 := ⟨Tryz.f503, Tryz.func503, by kernel_rfl⟩
theorem g509 : Good Tryz.prog E 11 509 f509 := ⟨Tryz.f509, Tryz.func509, by kernel_rfl⟩
theorem g513 : Good Tryz.prog E 11 513 f513 := ⟨Tryz.f513, Tryz.func513, by kernel_rfl⟩
theorem g517 : Good Tryz.prog E 11 517 f517 := ⟨Tryz.f517, Tryz.func517, by kernel_rfl⟩
theorem g518 : Good Tryz.prog E 11 518 f518 := ⟨Tryz.f518, Tryz.func518, by kernel_rfl⟩
theorem g540 : Good Tryz.prog E 11 540 f540 := ⟨Tryz.f540, Tryz.func540, by kernel_rfl⟩
theorem g546 : Good Tryz.prog E 11 546 f546 := ⟨Tryz.f546, Tryz.func546, by kernel_rfl⟩
end Go.Ev.Cc
end
