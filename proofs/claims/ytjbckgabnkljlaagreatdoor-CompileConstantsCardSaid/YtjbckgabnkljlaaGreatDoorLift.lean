/- The form that the row asks, out of the call. -/
import Derived.Test.YtjbckgabnkljlaaGreatDoorSays
import Derived.Test.YtjbckgabnkljlaaGreatDoorCardA
import Derived.Test.YtjbckgabnkljlaaGreatDoorWitB
import Derived.Test.YtjbckgabnkljlaaGreatDoorWitA
import Derived.Test.YtjbckgabnkljlaaGreatDoorWitE
import Derived.Test.YtjbckgabnkljlaaGreatDoorWitF
import Derived.OpenShut
import Derived.Stop.Joined
import Derived.LaidByTextLater
import Derived.SevenTiedAt
import Derived.LaidSub
import Derived.LaidOnce
import Derived.KernelRfl

section
set_option maxRecDepth 100000
namespace Go.Proofs.YtjbckgabnkljlaaGreatDoor
open Go
open Go.ChangeShapes Go.WideShapes Go.ChangeAt Go.RowKit
theorem lifted (os : Os) (started : os.Started) (H : Type) (enc : TypeId × Value → H) :
    ReturnsInHanded {} Tryz.checked os 3 .any (fun w args => (Rows.compileConstantsSpec.pre enc Tryz.prog Tryz.f3 [] false w args ∧ laidMetH Tryz.prog lay w) ∧ sizedMet enc Tryz.prog Tryz.f3 (OpenSpec.ofChange Rows.compileConstantsSpec) false w args)
      (Rows.compileConstantsSpec.post enc Tryz.prog Tryz.f3 false true false false) := by
  refine Go.Ev.Cc.wrap (C := Tryz.checked) (Z := fun w _ => laidMetH Tryz.prog lay w) (fun _ _ _ hh h => h.of_heap hh) own started no_init Tryz.func3
    (ChangeSpec.witness_shaped (enc := enc) (C := Tryz.checked) (os := os) (X := fun w _ => laidMetH Tryz.prog lay w) false (World.laidAll Tryz.prog os lay) #[.int .i64 0] 8 (World.laidAll_os _ _ _)
      (wit_shaped os) (wit_ok os) (wit_pre os enc) (wit_sized os enc) (by rw [wit_plain]; exact laidMet_laidAll _ (wit_met1 os) (wit_met2 os))) ?_
  intro W base args ds gs before hval0 hW hsh hL
  have hval : ∀ (j : Nat) t v, Tryz.f3.params[j]? = some t → args[j]? = some v → Value.okWide Tryz.prog W .any base t v := hval0
  have hW' := hW
  obtain ⟨p, q, hA0, hV, rfl, _, _⟩ := hW
  have hA : DataW.TrodAll enc Tryz.prog W 0 (fun _ => true) true Tryz.f3.params.toList args.toList ds p := hA0
  rw [Tryz.params3] at hA hval
  obtain ⟨v0, d0, rfl, rfl, h0⟩ := trodAll_one hA
  obtain ⟨rfl, rfl⟩ := trodVars_none hV
  obtain ⟨x, rfl, rfl, rfl, wx⟩ := open_int Tryz.underlying3 (hval 0 3 v0 rfl rfl) h0
  simp only [List.append_nil] at hW'
  have hL : laidMet Tryz.prog lay W := by rw [← wit_plain]; exact hL
  obtain ⟨q0, f0, a0⟩ := Go.Ev.Cc.tab_heap (k := .u8) (zs := Go.Ev.Cc.ascL) hL (List.mem_of_getElem? (i := 7) rfl) (g := 0) (t := 445) (n := 256) (e := 5) (by kernel_rfl) (by kernel_rfl) Tryz.underlying445 Tryz.underlying5 (by kernel_rfl) (by kernel_rfl)
  obtain ⟨q3, f3, a3⟩ := Go.Ev.Cc.tab_heap (k := .u64) (zs := Go.Ev.powL) hL (List.mem_of_getElem? (i := 2) rfl) (g := 3) (t := 518) (n := 20) (e := 386) (by kernel_rfl) (by kernel_rfl) Tryz.underlying518 Tryz.underlying386 (by kernel_rfl) (by kernel_rfl)
  obtain ⟨m, q1, f1, a1, hm⟩ := Go.Ev.Cc.maxLen hsh
  refine (Go.Ev.Cc.answers (n := x) hm a0 a1 a3).mono fun e W' ⟨he, k1, k2, k3, k4⟩ => ?_
  subst he
  refine ⟨_, rfl, _, _, _, [], [], [], hW', ?_, ?_, ?_, Go.Ev.Cc.kept_of k1 k2 k4, fun h => by cases h⟩
  · exact trodAll_mk1 (shut_bool Tryz.underlying4 true)
  · exact trodAll_mk1 (shut_int Tryz.underlying3 wx)
  · exact rfl
end Go.Proofs.YtjbckgabnkljlaaGreatDoor
end
