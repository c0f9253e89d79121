/- The tables are those of the program, second part. -/
import Derived.Test.YtjbckgabnkljlaaGreatDoorBase

section
set_option maxHeartbeats 0
set_option maxRecDepth 100000
namespace Go.Ev.Cc
open Go.Proofs
theorem g19 : Good Tryz.prog E 11 19 f19 := ⟨Tryz.f19, Tryz.func19, by kernel_rfl⟩
theorem g28 : Good Tryz.prog E 11 28 f28 := ⟨Tryz.f28, Tryz.func28, by kernel_rfl⟩
theorem g30 : Good Tryz.prog E 11 30 f30 := ⟨Tryz.f30, Tryz.func30, by kernel_rfl⟩
theorem g31 : Good Tryz.prog E 11 31 f31 := ⟨Tryz.f31, Tryz.func31, by kernel_rfl⟩
theorem g40 : Good Tryz.prog E 11 40 f40 := ⟨Tryz.f40, Tryz.func40, by kernel_rfl⟩
theorem g41 : Good Tryz.prog E 11 41 f41 := ⟨Tryz.f41, Tryz.func41, by kernel_rfl⟩
theorem g45 : Good Tryz.prog E 11 45 f45 := ⟨Tryz.f45, Tryz.func45, by kernel_rfl⟩
theorem g49 : Good Tryz.prog E 11 49 f49 := ⟨Tryz.f49, Tryz.func49, by kernel_rfl⟩
theorem g62 : Good Tryz.prog E 11 62 f62 := ⟨Tryz.f62, Tryz.func62, by kernel_rfl⟩
theorem g64 : Good Tryz.prog E 11 64 f64 := ⟨Tryz.f64, Tryz.func64, by kernel_rfl⟩
theorem g91 : Good Tryz.prog E 11 91 f91 := ⟨Tryz.f91, Tryz.func91, by kernel_rfl⟩
theorem g101 : Good Tryz.prog E 11 101 f101 := ⟨Tryz.f101, Tryz.func101, by kernel_rfl⟩
theorem g102 : Good Tryz.prog E 11 102 f102 := ⟨Tryz.f102, Tryz.func102, by kernel_rfl⟩
theorem g103 : Good Tryz.prog E 11 103 f103 := ⟨Tryz.f103, Tryz.func103, by kernel_rfl⟩
theorem g104 : Good Tryz.prog E 11 104 f104 := ⟨Tryz.f104, Tryz.func104, by kernel_rfl⟩
theorem g111 : Good Tryz.prog E 11 111 f111 := ⟨Tryz.f111, Tryz.func111, by kernel_rfl⟩
theorem g117 : Good Tryz.prog E 11 117 f117 := ⟨Tryz.f117, Tryz.func117, by kernel_rfl⟩
theorem g122 : Good Tryz.prog E 11 122 f122 := ⟨Tryz.f122, Tryz.func122, by kernel_rfl⟩
theorem g127 : Good Tryz.prog E 11 127 f127 := ⟨Tryz.f127, Tryz.func127, by kernel_rfl⟩
theorem g131 : Good Tryz.prog E 11 131 f131 := ⟨Tryz.f131, Tryz.func131, by kernel_rfl⟩
theorem g145 : Good Tryz.prog E 11 145 f145 := ⟨Tryz.f145, Tryz.func145, by kernel_rfl⟩
theorem g154 : Good Tryz.prog E 11 154 f154 := ⟨Tryz.f154, Tryz.func154, by kernel_rfl⟩
theorem g156 : Good Tryz.prog E 11 156 f156 := ⟨Tryz.f156, Tryz.func156, by kernel_rfl⟩
theorem g164 : Good Tryz.prog E 11 164 f164 := ⟨Tryz.f164, Tryz.func164, by kernel_rfl⟩
theorem g166 : Good Tryz.prog E 11 166 f166 := ⟨Tryz.f166, Tryz.func166, by kernel_rfl⟩
theorem g176 : Good Tryz.prog E 11 176 f176 := ⟨Tryz.f176, Tryz.func176, by kernel_rfl⟩
theorem g185 : Good Tryz.prog E 11 185 f185 := ⟨Tryz.f185, Tryz.func185, by kernel_rfl⟩
theorem g190 : Good Tryz.prog E 11 190 f190 := ⟨Tryz.f190, Tryz.func190, by kernel_rfl⟩
theorem g199 : Good Tryz.prog E 11 199 f199 := ⟨Tryz.f199, Tryz.func199, by kernel_rfl⟩
theorem g201 : Good Tryz.prog E 11 201 f201 := ⟨Tryz.f201, Tryz.func201, by kernel_rfl⟩
theorem g204 : Good Tryz.prog E 11 204 f204 := ⟨Tryz.f204, Tryz.func204, by kernel_rfl⟩
theorem g205 : Good Tryz.prog E 11 205 f205 := ⟨Tryz.f205, Tryz.func205, by kernel_rfl⟩
theorem g223 : Good Tryz.prog E 11 223 f223 := ⟨Tryz.f223, Tryz.func223, by kernel_rfl⟩
theorem g224 : Good Tryz.prog E 11 224 f224 := ⟨Tryz.f224, Tryz.func224, by kernel_rfl⟩
theorem g225 : Good Tryz.prog E 11 225 f225 := ⟨Tryz.f225, Tryz.func225, by kernel_rfl⟩
theorem g243 : Good Tryz.prog E 11 243 f243 := ⟨Tryz.f243, Tryz.func243, by kernel_rfl⟩
theorem g245 : Good Tryz.prog E 11 245 f245 := ⟨Tryz.f245, Tryz.func245, by kernel_rfl⟩
theorem g246 : Good Tryz.prog E 11 246 f246 := ⟨Tryz.f246, Tryz.func246, by kernel_rfl⟩
theorem g255 : Good Tryz.prog E 11 255 f255 := ⟨Tryz.f255, Tryz.func255, by kernel_rfl⟩
theorem g256 : Good Tryz.prog E 11 256 f256 := ⟨Tryz.f256, Tryz.func256, by kernel_rfl⟩
theorem g267 : Good Tryz.prog E 11 267 f267 := ⟨Tryz.f267, Tryz.func267, by kernel_rfl⟩
theorem g269 : Good Tryz.prog E 11 269 f269 := ⟨Tryz.f269, Tryz.func269, by kernel_rfl⟩
theorem g272 : Good Tryz.prog E 11 272 f272 := ⟨Tryz.f272, Tryz.func272, by kernel_rfl⟩
theorem g276 : Good Tryz.prog E 11 276 f276 := ⟨Tryz.f276, Tryz.func276, by kernel_rfl⟩
theorem g288 : Good Tryz.prog E 11 288 f288 := ⟨Tryz.f288, Tryz.func288, by kernel_rfl⟩
theorem g319 : Good Tryz.prog E 11 319 f319 := ⟨Tryz.f319, Tryz.func319, by kernel_rfl⟩
theorem g328 : Good Tryz.prog E 11 328 f328 := ⟨Tryz.f328, Tryz.func328, by kernel_rfl⟩
theorem g330 : Good Tryz.prog E 11 330 f330 := ⟨Tryz.f330, Tryz.func330, by kernel_rfl⟩
theorem g337 : Good Tryz.prog E 11 337 f337 := ⟨Tryz.f337, Tryz.func337, by kernel_rfl⟩
theorem g372 : Good Tryz.prog E 11 372 f372 := ⟨Tryz.f372, Tryz.func372, by kernel_rfl⟩
theorem g378 : Good Tryz.prog E 11 378 f378 := ⟨Tryz.f378, Tryz.func378, by kernel_rfl⟩
theorem g381 : Good Tryz.prog E 11 381 f381 := ⟨Tryz.f381, Tryz.func381, by kernel_rfl⟩
theorem g386 : Good Tryz.prog E 11 386 f386 := ⟨Tryz.f386, Tryz.func386, by kernel_rfl⟩
theorem g407 : Good Tryz.prog E 11 407 f407 := ⟨Tryz.f407, Tryz.func407, by kernel_rfl⟩
theorem g411 : Good Tryz.prog E 11 411 f411 := ⟨Tryz.f411, Tryz.func411, by kernel_rfl⟩
theorem g416 : Good Tryz.prog E 11 416 f416 := ⟨Tryz.f416, Tryz.func416, by kernel_rfl⟩
theorem g420 : Good Tryz.prog E 11 420 f420 := ⟨Tryz.f420, Tryz.func420, by kernel_rfl⟩
theorem g424 : Good Tryz.prog E 11 424 f424 := ⟨Tryz.f424, Tryz.func424, by kernel_rfl⟩
theorem g425 : Good Tryz.prog E 11 425 f425 := ⟨Tryz.f425, Tryz.func425, by kernel_rfl⟩
theorem g429 : Good Tryz.prog E 11 429 f429 := ⟨Tryz.f429, Tryz.func429, by kernel_rfl⟩
theorem g435 : Good Tryz.prog E 11 435 f435 := ⟨Tryz.f435, Tryz.func435, by kernel_rfl⟩
theorem g438 : Good Tryz.prog E 11 438 f438 := ⟨Tryz.f438, Tryz.func438, by kernel_rfl⟩
theorem g442 : Good Tryz.prog E 11 442 f442 := ⟨Tryz.f442, Tryz.func442, by kernel_rfl⟩
theorem g455 : Good Tryz.prog E 11 455 f455 := ⟨Tryz.f455, Tryz.func455, by kernel_rfl⟩
theorem g456 : Good Tryz.prog E 11 456 f456 := ⟨Tryz.f456, Tryz.func456, by kernel_rfl⟩
theorem g464 : Good Tryz.prog E 11 464 f464 := ⟨Tryz.f464, Tryz.func464, by kernel_rfl⟩
theorem g487 : Good Tryz.prog E 11 487 f487 := ⟨Tryz.f487, Tryz.func487, by kernel_rfl⟩
theorem g489 : Good Tryz.prog E 11 489 f489 := ⟨Tryz.f489, Tryz.func489, by kernel_rfl⟩
theorem g496 : Good Tryz.prog E 11 496 f496 := ⟨Tryz.f496, Tryz.func496, by kernel_rfl⟩
theorem g498 : Good Tryz.prog E 11 498 f498 := ⟨Tryz.f498, Tryz.func498, by kernel_rfl⟩
theorem g504 : Good Tryz.prog E 11 504 f504 := ⟨Tryz.f504, Tryz.func504, by kernel_rfl⟩
theorem g512 : Good Tryz.prog E 11 512 f512 := ⟨Tryz.f512, Tryz.func512, by kernel_rfl⟩
theorem g515 : Good Tryz.prog E 11 515 f515 := ⟨Tryz.f515, Tryz.func515, by kernel_rfl⟩
theorem g536 : Good Tryz.prog E 11 536 f536 := ⟨Tryz.f536, Tryz.func536, by kernel_rfl⟩
theorem g554 : Good Tryz.prog E 11 554 f554 := ⟨Tryz.f554, Tryz.func554, by kernel_rfl⟩
end Go.Ev.Cc
end
