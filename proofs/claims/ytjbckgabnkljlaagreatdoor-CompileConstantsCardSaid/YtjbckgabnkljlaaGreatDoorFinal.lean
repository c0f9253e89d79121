/- CompileConstants answers true at every number n, in every started world, whenever the variables hold what the program lays in them (the conditions of the given statement, nothing more). -/
import Derived.Test.YtjbckgabnkljlaaGreatDoorNameD
import Derived.Test.YtjbckgabnkljlaaGreatDoorGoesA
import Derived.Test.YtjbckgabnkljlaaGreatDoorGoesB
import Derived.Test.YtjbckgabnkljlaaGreatDoorGoesC
import Derived.Test.YtjbckgabnkljlaaGreatDoorCardA
import GoSem.ClaimGoes
import Derived.LaidByTextLater
import Derived.SevenTiedAt
import Derived.LaidSub
import Derived.LaidOnce
import Derived.KernelRfl
import Derived.Test.YtjbckgabnkljlaaGreatDoorTieB
import Derived.Test.YtjbckgabnkljlaaGreatDoorTieC
import Derived.Test.YtjbckgabnkljlaaGreatDoorTieD
import Derived.Test.YtjbckgabnkljlaaGreatDoorTieA
import Derived.Test.YtjbckgabnkljlaaGreatDoorTieF
import Derived.Test.YtjbckgabnkljlaaGreatDoorTieG
import Derived.Test.YtjbckgabnkljlaaGreatDoorTieH
import Derived.Test.YtjbckgabnkljlaaGreatDoorTieI
import Derived.Test.YtjbckgabnkljlaaGreatDoorRow
import Derived.Test.YtjbckgabnkljlaaGreatDoorCardB
import Derived.Test.YtjbckgabnkljlaaGreatDoorCards

section
set_option maxRecDepth 100000
namespace Go.Proofs.YtjbckgabnkljlaaGreatDoor
open Go
theorem goAll : (clAll.any fun g => (Tryz.prog.funcs[g]?).any Func.goes) = false := by
  unfold clAll
  rw [List.any_append, List.any_append, List.any_append, List.any_append, List.any_append, go0, go1, go2, go3, go4, go5]
  rfl
theorem goes3 : Tryz.prog.goes 3 = false := by
  unfold Program.goes
  rw [closure3, goAll, goAny, Bool.and_false]
  rfl
theorem goes_gen {c : OpenClaim} {P : Program} {f : FuncId} (h : P.funcNamed c.func = some f) (e : c.start = .entering) (g : P.goes f = false) : false = c.goesBy P := by
  unfold OpenClaim.goesBy Program.goesAt Program.goesFrom
  rw [h, e]
  show false = (P.goes f || false)
  rw [g]
  rfl
theorem card_goes : false = Rows.compileConstantsRow.goesBy Tryz.pinned.checked.prog := by
  have h : Tryz.pinned.checked.prog.funcNamed Rows.compileConstantsRow.func = some 3 := named3
  have e : Rows.compileConstantsRow.start = .entering := rfl
  have g : Tryz.pinned.checked.prog.goes 3 = false := goes3
  exact goes_gen h e g
end Go.Proofs.YtjbckgabnkljlaaGreatDoor
end

section
set_option maxRecDepth 100000
namespace Go.Proofs.YtjbckgabnkljlaaGreatDoor
open Go
theorem tie_all : Tryz.prog.laidByTextLater laidL kindsL true :=
  Program.laidByTextLater_by_one 96 8 257 tie_hw tie_hw2 tie_hroot tie_hk tie_hg tie_hn tie_one
theorem tie_row : Rows.compileConstantsRow.laidByTextAt .later Tryz.pinned [.sentinel, .sentinel, .data, .data, .data, .pinned, .data, .data, .listed] true :=
  OpenClaim.laidByTextAt_pinned rfl rfl tie_all rfl rfl rfl rfl (fun y hy _e => by
    simp only [Rows.compileConstantsRow, List.zip_cons_cons, List.zip_nil_right, List.mem_cons, List.mem_nil_iff, or_false] at hy
    rcases hy with rfl | rfl | rfl | rfl | rfl | rfl | rfl | rfl | rfl
    · cases _e
    · cases _e
    · cases _e
    · cases _e
    · cases _e
    · exact ⟨tie_pin, by kernel_rfl⟩
    · cases _e
    · cases _e
    · cases _e) tie_fits
end Go.Proofs.YtjbckgabnkljlaaGreatDoor
end

section
set_option maxRecDepth 100000
namespace Go.Proofs.YtjbckgabnkljlaaGreatDoor
open Go
open Go.ChangeShapes Go.WideShapes Go.ChangeAt Go.RowKit
theorem compileConstants_card : Rows.CompileConstantsCardSaid :=
  Claim7.holds_tied_plain_at .later [] [.sentinel, .sentinel, .data, .data, .data, .pinned, .data, .data, .listed] true (true, "a4beef5747d145ad9d4d735f1273b1b32a37ce90f7b2f19542192746d29d5a44") true compileConstants_holds (fun _ h => by cases h) card_wf (fun _ h => by cases h) tie_row rfl ⟨rfl, rfl⟩ card_main rfl
    (fun f fn hf hfn => by
      obtain rfl : f = 3 := Option.some.inj (named3.symm.trans hf) |>.symm
      obtain rfl : fn = Tryz.f3 := (Option.some.inj (Tryz.func3.symm.trans hfn)).symm
      exact ⟨card_looks, fun j t ht => by
        rw [Tryz.params3] at ht
        have hm : t ∈ [3] := by simpa using Array.mem_of_getElem? ht
        have hall := card_stand
        exact (show Tryz.prog.wantsStandIn t = false by simpa using List.all_eq_true.1 hall t hm)⟩)
    card_goes
end Go.Proofs.YtjbckgabnkljlaaGreatDoor
end
