/- Closed facts of the card. -/
import Derived.Test.YtjbckgabnkljlaaGreatDoorRows
import Derived.LaidByTextLater
import Derived.SevenTiedAt
import Derived.LaidSub
import Derived.LaidOnce
import Derived.KernelRfl

section
set_option maxRecDepth 100000
namespace Go.Proofs.YtjbckgabnkljlaaGreatDoor
open Go
theorem card_wf : Rows.compileConstantsRow.wfByText (OpenSpec.ofChange Rows.compileConstantsSpec) = true := by kernel_rfl
theorem card_main : Tryz.pinned.checked.prog.mainIs = some (true, "a4beef5747d145ad9d4d735f1273b1b32a37ce90f7b2f19542192746d29d5a44".toList) := by kernel_rfl
theorem named3 : Tryz.prog.funcNamed "shuck/shucklaw18.CompileConstants" = some 3 := by kernel_rfl
theorem card_stand : ([3].all fun u => !Tryz.prog.wantsStandIn u) = true := by kernel_rfl
theorem own : ownKnob Tryz.prog.godebug = none := by kernel_rfl
theorem no_init : Tryz.prog.inits.idxOf? 3 = none := by kernel_rfl
end Go.Proofs.YtjbckgabnkljlaaGreatDoor
end
