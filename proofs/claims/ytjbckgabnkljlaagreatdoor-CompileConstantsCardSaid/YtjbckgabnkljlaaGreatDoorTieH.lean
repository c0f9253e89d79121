/- A fact of the tie. -/
import Derived.Test.YtjbckgabnkljlaaGreatDoorTieA
import Derived.LaidByTextLater
import Derived.SevenTiedAt
import Derived.LaidSub
import Derived.LaidOnce
import Derived.KernelRfl

section
set_option maxRecDepth 100000
namespace Go.Proofs.YtjbckgabnkljlaaGreatDoor
open Go
theorem tie_one : ∀ os tape, doorLeaves Tryz.prog 96 8 257 laidL os tape = some (laidL.filter fun x => x.2.handleName?.isNone, (funcsListed laidL).map (·.2.funcsOut)) := fun _ _ => by kernel_rfl
end Go.Proofs.YtjbckgabnkljlaaGreatDoor
end
