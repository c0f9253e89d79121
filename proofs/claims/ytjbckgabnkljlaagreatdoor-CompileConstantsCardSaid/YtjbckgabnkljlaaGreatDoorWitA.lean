/- The witness world. -/
import Derived.Test.YtjbckgabnkljlaaGreatDoorRows
import Derived.Lay
import Derived.LaidMore
import Derived.ProofKit
import Derived.LaidByTextLater
import Derived.SevenTiedAt
import Derived.LaidSub
import Derived.LaidOnce
import Derived.KernelRfl

section
set_option maxRecDepth 100000
namespace Go.Proofs.YtjbckgabnkljlaaGreatDoor
open Go
abbrev lay : List (String × DataW Unit) := Rows.compileConstantsRow.laid
theorem wit_plain : ∀ w, laidMetH Tryz.prog lay w = laidMet Tryz.prog lay w := fun w => MakeChecks.laidMetH_plain _ _ _ (by kernel_rfl)
end Go.Proofs.YtjbckgabnkljlaaGreatDoor
end

section
set_option maxRecDepth 100000
namespace Go.Proofs.YtjbckgabnkljlaaGreatDoor
open Go
theorem wit_ok (os : Os) : Input.okWideB Tryz.prog ((World.laidAll Tryz.prog os lay).forCall (fun _ _ => 0) ⟨#[], #[.int .i64 0], []⟩) 3 ⟨#[], #[.int .i64 0], []⟩ = true := by kernel_rfl
end Go.Proofs.YtjbckgabnkljlaaGreatDoor
end

section
set_option maxRecDepth 100000
namespace Go.Proofs.YtjbckgabnkljlaaGreatDoor
open Go
theorem wit_pre (os : Os) {H : Type} (enc : TypeId × Value → H) : Rows.compileConstantsSpec.preB enc Tryz.prog Tryz.f3 [] false ((World.laidAll Tryz.prog os lay).forCall (fun _ _ => 0) ⟨#[], #[.int .i64 0], []⟩).memory #[.int .i64 0] 8 = true := by kernel_rfl
theorem wit_sized (os : Os) {H : Type} (enc : TypeId × Value → H) : Rows.compileConstantsSpec.sizedB enc Tryz.prog Tryz.f3 false ((World.laidAll Tryz.prog os lay).forCall (fun _ _ => 0) ⟨#[], #[.int .i64 0], []⟩).memory #[.int .i64 0] 8 = true := by kernel_rfl
end Go.Proofs.YtjbckgabnkljlaaGreatDoor
end
