/- The variables named there, first part. -/
import Derived.Test.YtjbckgabnkljlaaGreatDoorNameA
import Derived.LaidByTextLater
import Derived.SevenTiedAt
import Derived.LaidSub
import Derived.LaidOnce
import Derived.KernelRfl

section
set_option maxRecDepth 100000
namespace Go.Proofs.YtjbckgabnkljlaaGreatDoor
open Go
theorem fm0 : (cl0.flatMap fun g => ((Tryz.prog.funcs[g]?).bind (·.body)).elim [] Code.globalsNamed) = [1, 1, 1, 4, 5, 3] := by kernel_rfl
theorem fm1 : (cl1.flatMap fun g => ((Tryz.prog.funcs[g]?).bind (·.body)).elim [] Code.globalsNamed) = [8, 9, 6, 7] := by kernel_rfl
theorem fm2 : (cl2.flatMap fun g => ((Tryz.prog.funcs[g]?).bind (·.body)).elim [] Code.globalsNamed) = [] := by kernel_rfl
end Go.Proofs.YtjbckgabnkljlaaGreatDoor
end
