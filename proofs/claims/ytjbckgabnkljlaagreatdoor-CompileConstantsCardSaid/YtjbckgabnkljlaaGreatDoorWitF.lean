/- The witness world. -/
import Derived.Test.YtjbckgabnkljlaaGreatDoorWitA
import Derived.LaidByTextLater
import Derived.SevenTiedAt
import Derived.LaidSub
import Derived.LaidOnce
import Derived.KernelRfl

section
set_option maxRecDepth 100000
namespace Go.Proofs.YtjbckgabnkljlaaGreatDoor
open Go
theorem wit_met2 (os : Os) : (World.holding Tryz.prog os ⟨#[], #[], []⟩).layIfaces Tryz.prog lay (World.laidAll Tryz.prog os lay) = true := by kernel_rfl
end Go.Proofs.YtjbckgabnkljlaaGreatDoor
end
