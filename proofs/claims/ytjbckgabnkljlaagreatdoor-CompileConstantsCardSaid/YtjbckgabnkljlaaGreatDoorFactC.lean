/- Closed facts of the row. -/
import Derived.Test.YtjbckgabnkljlaaGreatDoorRows
import Derived.JoinedOf
import Derived.LaidByTextLater
import Derived.SevenTiedAt
import Derived.LaidSub
import Derived.LaidOnce
import Derived.KernelRfl

section
set_option maxRecDepth 100000
namespace Go.Proofs.YtjbckgabnkljlaaGreatDoor
open Go
theorem row_k21 : ((Rows.compileConstantsRow.ifacesOut == Tryz.f3.resultTypes.toList.any (Tryz.prog.ifacesRec ·))) = true := by kernel_rfl
theorem row_k22 : ((Rows.compileConstantsRow.loopsOut == Tryz.f3.resultTypes.toList.any (Tryz.prog.loopsFrom ·))) = true := by kernel_rfl
theorem row_k23 : ((Rows.compileConstantsRow.plainKeys == Tryz.prog.plainKeys)) = true := by kernel_rfl
theorem row_k24 : (Rows.compileConstantsRow.shortTexts.isNone) = true := by kernel_rfl
theorem row_k25 : (Tryz.prog.stopsHeard) = true := by kernel_rfl
theorem row_k26 : (Tryz.prog.mayEnter) = true := by kernel_rfl
theorem row_k27 : ((Rows.compileConstantsRow.lifted == Tryz.prog.liftsFinal)) = true := by kernel_rfl
theorem row_k28 : ((Tryz.prog.make == some Rows.compileConstantsRow.make)) = true := by kernel_rfl
theorem row_k29 : ((Rows.compileConstantsRow.kinds == (if Rows.compileConstantsRow.domain.isEmpty then [] else Tryz.f3.params.toList.map fun t => match Tryz.prog.underlying t with | some (.int k) => some k | _ => none))) = true := by kernel_rfl
theorem row_k30 : ((Rows.compileConstantsRow.pinned == Rows.compileConstantsRow.pinnedBy)) = true := by kernel_rfl
theorem row_k31 : ((Rows.compileConstantsRow.veiled == (Tryz.f3.params.toList ++ Rows.compileConstantsSpec.plain.varTypes Tryz.prog ++ Tryz.f3.resultTypes.toList).any (Tryz.prog.veiledRec ·))) = true := by kernel_rfl
theorem row_k32 : (Rows.compileConstantsRow.veiledFits Tryz.prog Tryz.f3.params.toList (Tryz.f3.params.toList ++ Rows.compileConstantsSpec.plain.varTypes Tryz.prog ++ Tryz.f3.resultTypes.toList)) = true := by kernel_rfl
end Go.Proofs.YtjbckgabnkljlaaGreatDoor
end
