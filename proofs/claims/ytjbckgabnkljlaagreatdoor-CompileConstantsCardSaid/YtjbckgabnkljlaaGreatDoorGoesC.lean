/- No goroutine is started, third part. -/
import Derived.Test.YtjbckgabnkljlaaGreatDoorNameA
import GoSem.ClaimGoes
import Derived.LaidByTextLater
import Derived.SevenTiedAt
import Derived.LaidSub
import Derived.LaidOnce
import Derived.KernelRfl

section
set_option maxRecDepth 100000
namespace Go.Proofs.YtjbckgabnkljlaaGreatDoor
open Go
theorem goAny : Tryz.prog.funcs.any Func.goes = false := by kernel_rfl
end Go.Proofs.YtjbckgabnkljlaaGreatDoor
end
