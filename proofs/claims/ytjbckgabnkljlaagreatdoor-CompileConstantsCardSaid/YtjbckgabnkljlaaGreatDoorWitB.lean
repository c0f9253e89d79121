/- The witness world. -/
import Derived.Test.YtjbckgabnkljlaaGreatDoorWitA
import Derived.LaidByTextLater
import Derived.SevenTiedAt
import Derived.LaidSub
import Derived.LaidOnce
import Derived.KernelRfl

section
set_option maxRecDepth 100000
namespace Go.Proofs.YtjbckgabnkljlaaGreatDoor
open Go
theorem wit_shaped (os : Os) : ((World.laidAll Tryz.prog os lay).forCall (fun _ _ => 0) ⟨#[], #[.int .i64 0], []⟩).Shaped Tryz.prog := World.shaped_of_ZipB (by kernel_rfl) (by kernel_rfl)
end Go.Proofs.YtjbckgabnkljlaaGreatDoor
end
