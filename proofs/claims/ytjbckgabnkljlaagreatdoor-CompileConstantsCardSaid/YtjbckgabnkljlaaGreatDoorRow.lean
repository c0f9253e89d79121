/- The row holds. -/
import Derived.Test.YtjbckgabnkljlaaGreatDoorNameB
import Derived.Test.YtjbckgabnkljlaaGreatDoorNameC
import Derived.Test.YtjbckgabnkljlaaGreatDoorNameD
import Derived.LaidByTextLater
import Derived.SevenTiedAt
import Derived.LaidSub
import Derived.LaidOnce
import Derived.KernelRfl
import Derived.Test.YtjbckgabnkljlaaGreatDoorFactA
import Derived.Test.YtjbckgabnkljlaaGreatDoorFactB
import Derived.Test.YtjbckgabnkljlaaGreatDoorFactC
import Derived.Test.YtjbckgabnkljlaaGreatDoorRows
import Derived.JoinedOf
import Derived.Test.YtjbckgabnkljlaaGreatDoorLift

section
set_option maxRecDepth 100000
namespace Go.Proofs.YtjbckgabnkljlaaGreatDoor
open Go
theorem fmAll : (clAll.flatMap fun g => ((Tryz.prog.funcs[g]?).bind (·.body)).elim [] Code.globalsNamed) = [1, 1, 1, 4, 5, 3, 8, 9, 6, 7, 0, 0, 0, 0, 2] := by
  unfold clAll
  rw [List.flatMap_append, List.flatMap_append, List.flatMap_append, List.flatMap_append, List.flatMap_append, fm0, fm1, fm2, fm3, fm4, fm5]
  rfl
theorem named_eq : Tryz.prog.varsNamed 3 = ["internal/bytealg.MaxLen", "strconv.ErrSyntax", "strconv.ErrRange", "internal/strconv.uint64pow10", "math/bits.deBruijn32tab", "math/bits.deBruijn64tab", "unicode/utf8.first", "unicode/utf8.acceptRanges", "strings.asciiSpace", "unicode.White_Space"] := by
  unfold Program.varsNamed
  rw [closure3, fmAll, er0]
  kernel_rfl
theorem row_k10 : (Rows.compileConstantsRow.inPlace == Tryz.prog.inPlace 3) = true := ip3
theorem row_k11 : (Rows.compileConstantsRow.unfollowed == Tryz.prog.unfollowed 3) = true := by rw [unf]; rfl
theorem row_k12 : (Rows.compileConstantsRow.recurses == Tryz.prog.recurses 3) = true := by rw [rec3]; rfl
theorem row_k13 : (Rows.compileConstantsRow.named == Tryz.prog.varsNamed 3) = true := by rw [named_eq]; kernel_rfl
end Go.Proofs.YtjbckgabnkljlaaGreatDoor
end

section
set_option maxRecDepth 100000
namespace Go.Proofs.YtjbckgabnkljlaaGreatDoor
open Go
theorem andI {a b : Bool} (h1 : a = true) (h2 : b = true) : (a && b) = true := by rw [h1, h2]; rfl
theorem row_facts : joinedFacts Tryz.prog 3 Tryz.f3 Rows.compileConstantsSpec Rows.compileConstantsRow = true := by
  unfold joinedFacts
  exact (andI (andI (andI (andI (andI (andI (andI (andI (andI (andI (andI (andI (andI (andI (andI (andI (andI (andI (andI (andI (andI (andI (andI (andI (andI (andI (andI (andI (andI (andI (andI row_k1 row_k2) row_k3) row_k4) row_k5) row_k6) row_k7) row_k8) row_k9) row_k10) row_k11) row_k12) row_k13) row_k14) row_k15) row_k16) row_k17) row_k18) row_k19) row_k20) row_k21) row_k22) row_k23) row_k24) row_k25) row_k26) row_k27) row_k28) row_k29) row_k30) row_k31) row_k32)
end Go.Proofs.YtjbckgabnkljlaaGreatDoor
end

section
set_option maxRecDepth 100000
namespace Go.Proofs.YtjbckgabnkljlaaGreatDoor
open Go
open Go.ChangeShapes Go.WideShapes Go.ChangeAt Go.RowKit
theorem compileConstants_holds : Rows.CompileConstantsSaid :=
  OpenClaim.holds_of_wide 3 Tryz.f3 rfl rfl rfl rfl rfl rfl rfl ⟨rfl, rfl, rfl, rfl, rfl⟩ rfl rfl rfl rfl rfl named3 Tryz.func3 row_facts
    (of_decide_eq_true (by kernel_rfl)) (by unfold Func.isWrapper; first | (rw [if_pos (by decide +kernel)]; kernel_rfl) | (rw [if_neg (by decide +kernel)]; exact ⟨rfl, rfl⟩))
    (fun os started H enc _ => lifted os started H enc)
end Go.Proofs.YtjbckgabnkljlaaGreatDoor
end
