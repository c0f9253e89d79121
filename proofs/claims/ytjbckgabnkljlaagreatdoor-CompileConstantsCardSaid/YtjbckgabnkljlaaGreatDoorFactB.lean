/- Closed facts of the row. -/
import Derived.Test.YtjbckgabnkljlaaGreatDoorRows
import Derived.JoinedOf
import Derived.LaidByTextLater
import Derived.SevenTiedAt
import Derived.LaidSub
import Derived.LaidOnce
import Derived.KernelRfl

section
set_option maxRecDepth 100000
namespace Go.Proofs.YtjbckgabnkljlaaGreatDoor
open Go
theorem row_k14 : ((Rows.compileConstantsRow.maps == (Tryz.f3.params.toList ++ Rows.compileConstantsSpec.plain.varTypes Tryz.prog).any (Tryz.prog.mapsRec ·))) = true := by kernel_rfl
theorem row_k15 : ((Rows.compileConstantsRow.ifaces == (Tryz.f3.params.toList ++ Rows.compileConstantsSpec.plain.varTypes Tryz.prog).any (Tryz.prog.ifacesRec ·))) = true := by kernel_rfl
theorem row_k16 : ((Rows.compileConstantsRow.mapsOut == Tryz.prog.mapsAmong Tryz.f3.resultTypes.toList)) = true := by kernel_rfl
theorem row_k17 : ((Rows.compileConstantsRow.loops == (Tryz.f3.params.toList ++ Rows.compileConstantsSpec.plain.varTypes Tryz.prog).any (Tryz.prog.loopsFrom ·))) = true := by kernel_rfl
theorem row_k18 : ((Rows.compileConstantsRow.wideKeys == (Tryz.f3.params.toList ++ Rows.compileConstantsSpec.plain.varTypes Tryz.prog ++ Tryz.f3.resultTypes.toList).any (Tryz.prog.wideKeysFrom ·))) = true := by kernel_rfl
theorem row_k19 : (Rows.compileConstantsSpec.vars.all (Tryz.prog.varReadable ·)) = true := by kernel_rfl
theorem row_k20 : (Tryz.f3.resultTypes.all (fun t => Tryz.prog.readableRec t && decide (t < Tryz.prog.types.size))) = true := by kernel_rfl
end Go.Proofs.YtjbckgabnkljlaaGreatDoor
end
