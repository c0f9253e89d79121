/- More closed facts of what is reached. -/
import Derived.Test.YtjbckgabnkljlaaGreatDoorNameA
import Derived.Test.YtjbckgabnkljlaaGreatDoorRows
import Derived.LaidByTextLater
import Derived.SevenTiedAt
import Derived.LaidSub
import Derived.LaidOnce
import Derived.KernelRfl

section
set_option maxRecDepth 100000
namespace Go.Proofs.YtjbckgabnkljlaaGreatDoor
open Go
theorem er0 : (clAll.filterMap fun g => (Tryz.prog.funcs[g]?).bind fun fn => if fn.body.isNone then entryReads.lookup fn.name else none) = ["internal/bytealg.MaxLen"] := by kernel_rfl
theorem unf : Tryz.prog.unfollowed 3 = true := by
  unfold Program.unfollowed
  rw [closure3]
  kernel_rfl
theorem rec3 : Tryz.prog.recurses 3 = true := by
  unfold Program.recurses
  rw [unf]
  rfl
theorem ip3 : (Rows.compileConstantsRow.inPlace == Tryz.prog.inPlace 3) = true := by
  unfold Program.inPlace
  rw [closure3]
  kernel_rfl
end Go.Proofs.YtjbckgabnkljlaaGreatDoor
end
