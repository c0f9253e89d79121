/- Closed facts of the row. -/
import Derived.Test.YtjbckgabnkljlaaGreatDoorRows
import Derived.JoinedOf
import Derived.LaidByTextLater
import Derived.SevenTiedAt
import Derived.LaidSub
import Derived.LaidOnce
import Derived.KernelRfl

section
set_option maxRecDepth 100000
namespace Go.Proofs.YtjbckgabnkljlaaGreatDoor
open Go
theorem row_k1 : (Rows.compileConstantsRow.wf (OpenSpec.ofChange Rows.compileConstantsSpec)) = true := by kernel_rfl
theorem row_k2 : (laidOutB Tryz.prog) = true := by kernel_rfl
theorem row_k3 : (mapsRowed Tryz.prog) = true := by kernel_rfl
theorem row_k4 : (Tryz.f3.params.all (Tryz.prog.readableRec ·)) = true := by kernel_rfl
theorem row_k5 : (namedTie Tryz.prog Rows.compileConstantsRow.named Rows.compileConstantsSpec.vars) = true := by kernel_rfl
theorem row_k6 : ((Rows.compileConstantsRow.stops == [])) = true := by kernel_rfl
theorem row_k7 : ((Tryz.prog.stops == [])) = true := by kernel_rfl
theorem row_k8 : ((Rows.compileConstantsRow.knobs == [])) = true := by kernel_rfl
theorem row_k9 : ((Tryz.prog.stopKnobs == [])) = true := by kernel_rfl
end Go.Proofs.YtjbckgabnkljlaaGreatDoor
end
