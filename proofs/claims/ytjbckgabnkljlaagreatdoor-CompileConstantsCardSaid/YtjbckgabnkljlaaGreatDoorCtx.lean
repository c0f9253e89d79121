/- The evaluator over this program: its context, contracts and facts. -/
import Derived.Test.YtjbckgabnkljlaaGreatDoorGoodA
import Derived.Test.YtjbckgabnkljlaaGreatDoorGoodB
import Derived.Test.YtjbckgabnkljlaaGreatDoorGoodC
import Derived.Test.YtjbckgabnkljlaaGreatDoorGoodD
import Derived.Shelf.Strings.Search2
import Derived.Shelf.Strconv.Itoa3

section
set_option maxHeartbeats 0
set_option maxRecDepth 100000
namespace Go.Ev.Cc
open Go.Proofs
theorem tb_all : T.AllP (Good Tryz.prog E 11) 0 1 tb := (.n vnone (.n vnone (.n (vsome g3) (.n (vsome g7) (.n (vsome g15) (.n (vsome g31) (.n (vsome g63) (.n (vsome g127) (.n (vsome g255) .e .e) .e) (.n (vsome g191) (.n (vsome g319) .e .e) .e)) (.n vnone (.n (vsome g159) .e .e) (.n (vsome g223) (.n (vsome g351) .e .e) .e))) (.n (vsome g47) (.n (vsome g79) (.n vnone (.n (vsome g271) .e .e) .e) (.n vnone (.n (vsome g335) .e .e) .e)) (.n (vsome g111) (.n vnone (.n (vsome g303) .e .e) .e) (.n vnone (.n (vsome g367) .e .e) .e)))) (.n (vsome g23) (.n (vsome g39) (.n (vsome g71) (.n vnone (.n (vsome g263) (.n (vsome g519) .e .e) .e) (.n (vsome g391) .e .e)) (.n (vsome g199) .e (.n (vsome g455) .e .e))) (.n (vsome g103) (.n vnone .e (.n (vsome g423) .e .e)) (.n vnone (.n (vsome g359) .e .e) (.n (vsome g487) .e .e)))) (.n vnone (.n (vsome g87) (.n vnone .e (.n (vsome g407) .e .e)) (.n (vsome g215) .e (.n (vsome g471) .e .e))) (.n (vsome g119) (.n vnone .e (.n (vsome g439) .e .e)) (.n (vsome g247) (.n (vsome g375) .e .e) (.n (vsome g503) .e .e)))))) (.n (vsome g11) (.n (vsome g19) (.n (vsome g35) (.n (vsome g67) (.n (vsome g131) (.n (vsome g259) (.n (vsome g515) .e .e) .e) (.n (vsome g387) .e .e)) (.n vnone .e (.n (vsome g451) .e .e))) (.n vnone (.n (vsome g163) (.n (vsome g291) .e .e) (.n (vsome g419) .e .e)) (.n (vsome g227) .e .e))) (.n vnone (.n (vsome g83) (.n (vsome g147) .e .e) (.n (vsome g211) .e .e)) (.n vnone (.n (vsome g179) .e (.n (vsome g435) .e .e)) (.n (vsome g243) (.n (vsome g371) .e .e) .e)))) (.n (vsome g27) (.n (vsome g43) (.n (vsome g75) (.n vnone (.n (vsome g267) .e .e) .e) (.n (vsome g203) (.n (vsome g331) .e .e) .e)) (.n (vsome g107) .e (.n vnone (.n (vsome g363) .e .e) .e))) (.n vnone (.n (vsome g91) (.n (vsome g155) (.n (vsome g283) .e .e) (.n (vsome g411) .e .e)) .e) (.n (vsome g123) (.n (vsome g187) .e .e) (.n (vsome g251) (.n (vsome g379) .e .e) .e)))))) (.n (vsome g5) (.n (vsome g9) (.n (vsome g17) (.n (vsome g33) (.n (vsome g65) (.n (vsome g129) (.n vnone (.n (vsome g513) .e .e) .e) .e) (.n (vsome g193) (.n (vsome g321) .e .e) .e)) (.n vnone (.n (vsome g161) (.n (vsome g289) .e .e) (.n (vsome g417) .e .e)) (.n (vsome g225) .e .e))) (.n (vsome g49) (.n vnone (.n (vsome g145) .e .e) (.n vnone (.n (vsome g337) .e .e) (.n (vsome g465) .e .e))) (.n vnone (.n (vsome g177) (.n (vsome g305) .e .e) (.n (vsome g433) .e .e)) (.n vnone .e (.n (vsome g497) .e .e))))) (.n (vsome g25) (.n (vsome g41) (.n (vsome g73) (.n vnone (.n (vsome g265) (.n (vsome g521) .e .e) .e) (.n (vsome g393) .e .e)) (.n (vsome g201) .e (.n (vsome g457) .e .e))) (.n (vsome g105) (.n (vsome g169) .e (.n (vsome g425) .e .e)) (.n vnone .e (.n (vsome g489) .e .e)))) (.n vnone (.n vnone (.n vnone (.n vnone (.n (vsome g537) .e .e) .e) (.n (vsome g409) .e .e)) (.n (vsome g217) (.n (vsome g345) .e .e) .e)) (.n (vsome g121) (.n (vsome g185) (.n (vsome g313) .e .e) .e) (.n (vsome g249) .e .e))))) (.n (vsome g13) (.n (vsome g21) (.n (vsome g37) (.n vnone (.n (vsome g133) (.n vnone (.n (vsome g517) .e .e) .e) (.n (vsome g389) .e .e)) (.n vnone (.n (vsome g325) .e .e) (.n (vsome g453) .e .e))) (.n (vsome g101) .e (.n (vsome g229) (.n (vsome g357) .e .e) .e))) (.n vnone (.n (vsome g85) .e .e) (.n (vsome g117) (.n (vsome g181) (.n (vsome g309) .e .e) .e) (.n (vsome g245) .e .e)))) (.n (vsome g29) (.n (vsome g45) (.n (vsome g77) (.n vnone (.n (vsome g269) .e .e) .e) (.n (vsome g205) (.n (vsome g333) .e .e) .e)) (.n vnone (.n vnone (.n (vsome g301) .e .e) (.n (vsome g429) .e .e)) (.n vnone (.n (vsome g365) .e .e) .e))) (.n (vsome g61) (.n vnone (.n (vsome g157) (.n (vsome g285) .e .e) .e) .e) (.n vnone (.n vnone (.n (vsome g317) .e .e) .e) (.n vnone (.n (vsome g381) .e .e) (.n (vsome g509) .e .e)))))))) (.n vnone (.n (vsome g4) (.n (vsome g8) (.n (vsome g16) (.n (vsome g32) (.n (vsome g64) (.n (vsome g128) (.n (vsome g256) (.n (vsome g512) .e .e) .e) (.n (vsome g384) .e .e)) (.n (vsome g192) (.n (vsome g320) .e .e) .e)) (.n vnone (.n (vsome g160) (.n (vsome g288) .e .e) (.n (vsome g416) .e .e)) (.n (vsome g224) .e .e))) (.n (vsome g48) (.n vnone (.n (vsome g144) (.n (vsome g272) .e .e) .e) (.n vnone (.n (vsome g336) .e .e) (.n (vsome g464) .e .e))) (.n (vsome g112) (.n (vsome g176) (.n (vsome g304) .e .e) .e) (.n vnone .e (.n (vsome g496) .e .e))))) (.n (vsome g24) (.n (vsome g40) (.n (vsome g72) (.n (vsome g136) .e .e) (.n (vsome g200) (.n (vsome g328) .e .e) (.n (vsome g456) .e .e))) (.n (vsome g104) (.n (vsome g168) .e (.n (vsome g424) .e .e)) (.n vnone (.n (vsome g360) .e .e) (.n (vsome g488) .e .e)))) (.n vnone (.n vnone (.n vnone (.n (vsome g280) (.n (vsome g536) .e .e) .e) (.n (vsome g408) .e .e)) (.n (vsome g216) .e .e)) (.n vnone (.n (vsome g184) .e (.n (vsome g440) .e .e)) (.n vnone .e (.n (vsome g504) .e .e)))))) (.n (vsome g12) (.n (vsome g20) (.n (vsome g36) (.n vnone (.n (vsome g132) (.n (vsome g260) .e .e) (.n (vsome g388) .e .e)) (.n vnone (.n (vsome g324) .e .e) .e)) (.n (vsome g100) (.n (vsome g164) (.n (vsome g292) .e .e) (.n (vsome g420) .e .e)) (.n (vsome g228) (.n (vsome g356) .e .e) .e))) (.n vnone (.n (vsome g84) (.n vnone (.n (vsome g276) .e .e) .e) .e) (.n vnone .e (.n vnone (.n (vsome g372) .e .e) .e)))) (.n (vsome g28) (.n (vsome g44) (.n (vsome g76) (.n (vsome g140) .e .e) (.n (vsome g204) (.n (vsome g332) .e .e) .e)) (.n (vsome g108) (.n (vsome g172) (.n (vsome g300) .e .e) .e) .e)) (.n vnone (.n vnone (.n (vsome g156) (.n vnone (.n (vsome g540) .e .e) .e) .e) (.n (vsome g220) .e .e)) (.n (vsome g124) (.n (vsome g188) .e .e) (.n (vsome g252) .e .e)))))) (.n (vsome g6) (.n (vsome g10) (.n (vsome g18) (.n (vsome g34) (.n (vsome g66) (.n (vsome g130) (.n (vsome g258) .e .e) (.n (vsome g386) .e .e)) (.n (vsome g194) (.n (vsome g322) .e .e) (.n (vsome g450) .e .e))) (.n (vsome g98) (.n vnone (.n (vsome g290) (.n (vsome g546) .e .e) .e) (.n (vsome g418) .e .e)) (.n (vsome g226) .e .e))) (.n (vsome g50) (.n vnone .e (.n vnone .e (.n (vsome g466) .e .e))) (.n (vsome g114) (.n vnone (.n (vsome g306) .e .e) (.n (vsome g434) .e .e)) (.n vnone .e (.n (vsome g498) .e .e))))) (.n (vsome g26) (.n (vsome g42) (.n vnone (.n vnone .e (.n (vsome g394) .e .e)) (.n (vsome g202) (.n (vsome g330) .e .e) .e)) (.n (vsome g106) (.n (vsome g170) (.n vnone (.n (vsome g554) .e .e) .e) .e) (.n vnone (.n (vsome g362) .e .e) (.n (vsome g490) .e .e)))) (.n vnone (.n (vsome g90) (.n (vsome g154) .e .e) .e) (.n (vsome g122) (.n vnone .e (.n (vsome g442) .e .e)) (.n (vsome g250) (.n (vsome g378) .e .e) .e))))) (.n (vsome g14) (.n (vsome g22) (.n (vsome g38) (.n (vsome g70) (.n vnone (.n (vsome g262) (.n (vsome g518) .e .e) .e) (.n (vsome g390) .e .e)) (.n (vsome g198) .e .e)) (.n (vsome g102) (.n (vsome g166) .e .e) (.n (vsome g230) (.n (vsome g358) .e .e) .e))) (.n (vsome g54) (.n (vsome g86) .e (.n vnone .e (.n (vsome g470) .e .e))) (.n (vsome g118) (.n (vsome g182) (.n (vsome g310) .e .e) (.n (vsome g438) .e .e)) (.n (vsome g246) .e (.n (vsome g502) .e .e))))) (.n (vsome g30) (.n (vsome g46) (.n (vsome g78) (.n vnone (.n (vsome g270) .e .e) (.n (vsome g398) .e .e)) (.n (vsome g206) (.n (vsome g334) .e .e) (.n (vsome g462) .e .e))) (.n (vsome g110) (.n vnone (.n (vsome g302) .e .e) .e) .e)) (.n (vsome g62) (.n vnone (.n (vsome g158) (.n (vsome g286) .e .e) .e) .e) (.n (vsome g126) (.n (vsome g190) (.n (vsome g318) .e .e) .e) .e)))))))
theorem rt_all : T.AllP (GoodR Tryz.prog E 11) 0 1 rt := (.n vnone (.n vnone (.n vnone (.n vnone (.n vnone .e (.n vnone (.n vnone .e (.n vnone (.n (vsome gr335) .e .e) .e)) .e)) (.n vnone (.n vnone (.n (vsome gr71) .e .e) .e) .e)) .e) (.n vnone (.n vnone .e (.n vnone (.n (vsome gr41) .e .e) .e)) (.n vnone .e (.n (vsome gr29) .e .e)))) (.n vnone (.n vnone (.n (vsome gr8) .e .e) (.n vnone (.n vnone (.n (vsome gr36) .e .e) .e) (.n vnone (.n vnone (.n vnone .e (.n vnone (.n (vsome gr332) .e .e) .e)) .e) .e))) (.n vnone .e (.n vnone .e (.n vnone (.n vnone (.n vnone .e (.n (vsome gr206) .e .e)) .e) .e)))))
end Go.Ev.Cc
end

section
set_option linter.unusedVariables false
set_option maxHeartbeats 0
set_option maxRecDepth 100000
namespace Go.Ev.Cc
open Go.Proofs
theorem mt_ok : ∀ name t f q, (t, f, q) ∈ mt name → MethOK Tryz.prog t name f q := by
  intro name t f q h
  cases h
theorem xI : XtOK Tryz.prog 493 .indexByte := ⟨Tryz.f493, Extern.BytealgIndexByte.indexByte, Tryz.func493, by kernel_rfl, rfl, by kernel_rfl, by kernel_rfl, rfl⟩
theorem xC : XtOK Tryz.prog 508 .count := ⟨Tryz.f508, Extern.BytealgCount.count, Tryz.func508, by kernel_rfl, rfl, by kernel_rfl, by kernel_rfl, rfl⟩
theorem xN : XtOK Tryz.prog 268 .noEscape := ⟨Tryz.f268, Extern.AbiNoEscape.same, Tryz.func268, by kernel_rfl, rfl, by kernel_rfl, by kernel_rfl, rfl⟩
theorem xM : ∃ fn, Tryz.prog.funcs[449]? = some fn ∧ (fn.name == "runtime.NumGoroutine") = false ∧ fn.body.isNone = true ∧ Extern.findNext fn = none ∧ Extern.find fn = some (Extern.BytealgMakeNoZero.makeNoZero fn.params #[23]) :=
  ⟨Tryz.f449, Tryz.func449, by kernel_rfl, rfl, by kernel_rfl, by kernel_rfl⟩
theorem lies_ok : ∀ u el o s, (el, o, s) ∈ lies u → liesAt Tryz.prog Tryz.prog.depth el 1 o u 1 = true ∧ Tryz.prog.cellsOf el = s ∧ 0 < s := by
  intro u el o s h
  unfold lies at h
  split at h
  · rename_i e; subst e
    simp only [List.mem_cons, Prod.mk.injEq, List.mem_nil_iff, or_false] at h
    rcases h with ⟨rfl, rfl, rfl⟩ | ⟨rfl, rfl, rfl⟩ | ⟨rfl, rfl, rfl⟩ | ⟨rfl, rfl, rfl⟩ <;> exact ⟨by kernel_rfl, by kernel_rfl, by decide⟩
  · cases h
theorem envok : EnvOK Tryz.prog E := envOf_ok (by kernel_rfl) noNum1 xI xC xN xM mt_ok lies_ok
/-- how many cells the variables have -/
def gn (g : Nat) : Nat := match g with | 0 => 256 | 3 => 20 | 6 => 256 | 7 => 32 | 8 => 32 | 9 => 64 | _ => 1
noncomputable def X : Cx := { P := Tryz.prog, E := E, ng := 11, ok := envok, fc := [], gn := gn, rt := rt, rtok := fun g r h => rt_all.root h }
theorem tbok : TbOK X tb := tbOK_of (X := X) noNum1 tb_all
theorem tbokF (fc : List Fact) : TbOK (X.withF fc) tb := tbok
end Go.Ev.Cc
end

section
set_option linter.unusedVariables false
set_option maxHeartbeats 0
set_option maxRecDepth 100000
namespace Go.Proofs
open Go.Shelf
def Tryz.laysM171_ren : Go.Shelf.Ren := ⟨fun | 171 => 243 | 243 => 351 | 246 => 435 | 283 => 488 | 284 => 489 | 285 => 490 | 286 => 491 | 129 => 487 | 317 => 536 | 318 => 537 | 319 => 538 | 320 => 539 | 337 => 569 | 338 => 570 | n => n, fun | 3 => 3 | 9 => 9 | 2 => 2 | 4 => 4 | 171 => 480 | 0 => 0 | 53 => 386 | 37 => 23 | 5 => 5 | 173 => 482 | 212 => 518 | 51 => 385 | 20 => 20 | 213 => 519 | 46 => 262 | 232 => 564 | 233 => 565 | n => n, fun | 17 => 3 | 18 => 8 | 19 => 9 | n => n⟩
theorem Tryz.laysM171 : Go.Proofs.LaysM.n171 Tryz.prog Tryz.laysM171_ren := {
  mixed := by kernel_rfl
  f129 := Tryz.func487.trans (congrArg some (by kernel_rfl))
  f171 := Tryz.func243.trans (congrArg some (by kernel_rfl))
  f243 := Tryz.func351.trans (congrArg some (by kernel_rfl))
  f246 := Tryz.func435.trans (congrArg some (by kernel_rfl))
  f283 := Tryz.func488.trans (congrArg some (by kernel_rfl))
  f284 := Tryz.func489.trans (congrArg some (by kernel_rfl))
  f285 := Tryz.func490.trans (congrArg some (by kernel_rfl))
  f286 := Tryz.func491.trans (congrArg some (by kernel_rfl))
  f317 := Tryz.func536.trans (congrArg some (by kernel_rfl))
  f318 := Tryz.func537.trans (congrArg some (by kernel_rfl))
  f319 := Tryz.func538.trans (congrArg some (by kernel_rfl))
  f320 := Tryz.func539.trans (congrArg some (by kernel_rfl))
  f337 := Tryz.func569.trans (congrArg some (by kernel_rfl))
  f338 := Tryz.func570.trans (congrArg some (by kernel_rfl))
  t0 := Tryz.underlying0
  a0 := Tryz.isAgg0
  z0 := Tryz.sizeOf0
  v0 := Tryz.zeroValue0
  t2 := Tryz.underlying2
  a2 := Tryz.isAgg2
  z2 := Tryz.sizeOf2
  v2 := Tryz.zeroValue2
  t3 := Tryz.underlying3
  a3 := Tryz.isAgg3
  z3 := Tryz.sizeOf3
  v3 := Tryz.zeroValue3
  t4 := Tryz.underlying4
  a4 := Tryz.isAgg4
  z4 := Tryz.sizeOf4
  v4 := Tryz.zeroValue4
  t5 := Tryz.underlying5
  a5 := Tryz.isAgg5
  z5 := Tryz.sizeOf5
  v5 := Tryz.zeroValue5
  t9 := Tryz.underlying9
  a9 := Tryz.isAgg9
  z9 := Tryz.sizeOf9
  v9 := Tryz.zeroValue9
  t20 := Tryz.underlying20
  a20 := Tryz.isAgg20
  z20 := Tryz.sizeOf20
  v20 := Tryz.zeroValue20
  t37 := Tryz.underlying23
  a37 := Tryz.isAgg23
  z37 := Tryz.sizeOf23
  v37 := Tryz.zeroValue23
  t46 := Tryz.underlying262
  a46 := Tryz.isAgg262
  z46 := Tryz.sizeOf262
  v46 := Tryz.zeroValue262
  t51 := Tryz.underlying385
  a51 := Tryz.isAgg385
  z51 := Tryz.sizeOf385
  v51 := Tryz.zeroValue385
  t53 := Tryz.underlying386
  a53 := Tryz.isAgg386
  z53 := Tryz.sizeOf386
  v53 := Tryz.zeroValue386
  t171 := Tryz.underlying480
  a171 := Tryz.isAgg480
  z171 := Tryz.sizeOf480
  v171 := Tryz.zeroValue480
  t173 := Tryz.underlying482
  a173 := Tryz.isAgg482
  z173 := Tryz.sizeOf482
  v173 := Tryz.zeroValue482
  t212 := Tryz.underlying518
  a212 := Tryz.isAgg518
  z212 := Tryz.sizeOf518
  v212 := Tryz.zeroValue518
  t213 := Tryz.underlying519
  a213 := Tryz.isAgg519
  z213 := Tryz.sizeOf519
  t232 := Tryz.underlying564
  a232 := Tryz.isAgg564
  z232 := Tryz.sizeOf564
  v232 := Tryz.zeroValue564
  t233 := Tryz.underlying565
  a233 := Tryz.isAgg565
  z233 := Tryz.sizeOf565
  v233 := Tryz.zeroValue565
  g17 := by kernel_rfl
  g18 := by kernel_rfl
  g19 := by kernel_rfl
  i0 := by kernel_rfl
  i2 := by kernel_rfl
  i3 := by kernel_rfl
  i4 := by kernel_rfl
  i5 := by kernel_rfl
  i9 := by kernel_rfl
  i20 := by kernel_rfl
  i37 := by kernel_rfl
  i46 := by kernel_rfl
  i51 := by kernel_rfl
  i53 := by kernel_rfl
  i171 := by kernel_rfl
  i173 := by kernel_rfl
  i212 := by kernel_rfl
  i232 := by kernel_rfl
  i233 := by kernel_rfl
  m17 := by kernel_rfl
  m18 := by kernel_rfl
  m19 := by kernel_rfl }
def Tryz.lays219_ren : Go.Shelf.Ren := ⟨fun | 219 => 440 | 217 => 439 | 225 => 494 | 224 => 495 | 267 => 496 | 266 => 493 | 314 => 540 | n => n, fun | 9 => 9 | 3 => 3 | 4 => 4 | 5 => 5 | 46 => 262 | 146 => 448 | 51 => 385 | n => n, fun | 1 => 1 | n => n⟩
theorem Tryz.lays219 : Go.Proofs.Lays.n219 Tryz.prog Tryz.lays219_ren := {
  mixed := by kernel_rfl
  f217 := Tryz.func439.trans (congrArg some (by kernel_rfl))
  f219 := Tryz.func440.trans (congrArg some (by kernel_rfl))
  f224 := Tryz.func495.trans (congrArg some (by kernel_rfl))
  f225 := Tryz.func494.trans (congrArg some (by kernel_rfl))
  f266 := Tryz.func493.trans (congrArg some (by kernel_rfl))
  f267 := Tryz.func496.trans (congrArg some (by kernel_rfl))
  f314 := Tryz.func540.trans (congrArg some (by kernel_rfl))
  t3 := Tryz.underlying3
  a3 := Tryz.isAgg3
  z3 := Tryz.sizeOf3
  v3 := Tryz.zeroValue3
  t4 := Tryz.underlying4
  a4 := Tryz.isAgg4
  z4 := Tryz.sizeOf4
  v4 := Tryz.zeroValue4
  t5 := Tryz.underlying5
  a5 := Tryz.isAgg5
  z5 := Tryz.sizeOf5
  v5 := Tryz.zeroValue5
  t9 := Tryz.underlying9
  a9 := Tryz.isAgg9
  z9 := Tryz.sizeOf9
  v9 := Tryz.zeroValue9
  t46 := Tryz.underlying262
  a46 := Tryz.isAgg262
  z46 := Tryz.sizeOf262
  v46 := Tryz.zeroValue262
  t51 := Tryz.underlying385
  a51 := Tryz.isAgg385
  z51 := Tryz.sizeOf385
  v51 := Tryz.zeroValue385
  t146 := Tryz.underlying448
  a146 := Tryz.isAgg448
  z146 := Tryz.sizeOf448
  v146 := Tryz.zeroValue448
  g1 := by kernel_rfl }
end Go.Proofs
end

section
set_option linter.unusedVariables false
set_option maxHeartbeats 0
set_option maxRecDepth 100000
namespace Go.Ev.Cc
open Go.Proofs Go.Shelf
theorem ixc : IxC X 440 1 := fun s t m w hs hm => Any.stringslite_Index Tryz.lays219 s t m w hs hm
theorem itc : ItC X 243 := fun n w h0 h1 ht => Any.strconv_Itoa Tryz.laysM171 n h0 h1 w ht
theorem ent440 : Enters X 440 := fun args w => by
  have h1 : X.P.funcs[440]? = some Tryz.f440 := Tryz.func440
  have h2 : Tryz.f440.name ≠ "runtime.NumGoroutine" := noNum_name noNum1 Tryz.func440 rfl
  obtain ⟨c, h3⟩ : ∃ c, Tryz.f440.body = some c := ⟨_, rfl⟩
  simp [callFunc, h1, h2, h3]
theorem ent243 : Enters X 243 := fun args w => by
  have h1 : X.P.funcs[243]? = some Tryz.f243 := Tryz.func243
  have h2 : Tryz.f243.name ≠ "runtime.NumGoroutine" := noNum_name noNum1 Tryz.func243 rfl
  obtain ⟨c, h3⟩ : ∃ c, Tryz.f243.body = some c := ⟨_, rfl⟩
  simp [callFunc, h1, h2, h3]
/-- what is known of strings.Index and of strconv.Itoa -/
noncomputable def px1 (fc : List Fact) : Px := fun f l h ks kn => sel (Nat.beq f 440) (ixStr fc 1 l h (fun v => ks v h) kn) (itP fc 243 3 f l h ks kn)
theorem px1_ok (fc : List Fact) : PxOK (X.withF fc) (px1 fc) := by
  intro f l h ks kn hk
  unfold px1 at hk
  rcases sel_eq hk with ⟨h1, hk⟩ | ⟨_, hk⟩
  · have e := Nat.eq_of_beq_eq_true h1
    subst e
    exact px_same (ixStr_inv (X := X.withF fc) ixc ent440 (show 1 < 11 by decide) hk)
  · exact itP_ok (X := X.withF fc) itc ent243 (show 3 < 11 by decide) rfl (by kernel_rfl) _ _ _ _ _ hk
/-- the variable MaxLen holds some number -/
def fM : Fact := ⟨.cvi .i64, .s 200, .s 200, .sym 200⟩
noncomputable def yes : Kt := fun v _ => isTrue v
end Go.Ev.Cc
end

section
set_option linter.unusedVariables false
namespace Go.Ev.Cc
theorem vs {σ : Sig} {i : Nat} {k : IntKind} {a z : Int} (h : σ.sym.val i = .int k a) (e : z = a) : V σ (.sym i) (.int k z) := by subst e; exact h.symm
theorem w64 {z : Int} (h1 : -9223372036854775808 ≤ z) (h2 : z < 9223372036854775808) : IntKind.i64.wrap z = z := wrapS (b := 64) (by omega) (by omega) (by decide) (by decide)
theorem w32 {z : Int} (h1 : -2147483648 ≤ z) (h2 : z < 2147483648) : IntKind.i32.wrap z = z := wrapS (b := 32) (by omega) (by omega) (by decide) (by decide)
theorem w8 {z : Int} (h1 : 0 ≤ z) (h2 : z < 256) : IntKind.u8.wrap z = z := wrapU (b := 8) (by omega) (by omega)
theorem fcons {α : Type} {P : α → Prop} {a : α} {l : List α} (h : P a) (k : ∀ e ∈ l, P e) : ∀ e ∈ a :: l, P e := fun e he => (List.mem_cons.1 he).elim (fun e => e ▸ h) (k e)
theorem fnil {α : Type} {P : α → Prop} : ∀ e ∈ ([] : List α), P e := fun e he => by cases he
theorem iv {σ : Sig} {s : List Nat} {l : List UInt8} (h : l.map UInt8.toNat = s.map σ.sym.bv) : V σ (.str s) (.string ⟨l.toArray⟩) := ⟨_, rfl, by simpa [nums] using h⟩
theorem dec1 {n : Nat} (h : n < 10) : Lib.decDigits n = [UInt8.ofNat (48 + n)] := by rw [Lib.decDigits, dif_pos h]
theorem decS {n : Nat} (h : 10 ≤ n) : Lib.decDigits n = Lib.decDigits (n / 10) ++ [UInt8.ofNat (48 + n % 10)] := by
  conv => lhs; rw [Lib.decDigits]
  rw [dif_neg (by omega)]
theorem itoaP (n : Nat) : Lib.itoa (n : Int) = Lib.decDigits n := by unfold Lib.itoa; rw [if_neg (by omega)]; simp
theorem itoaN {n : Nat} (h : 0 < n) : Lib.itoa (-(n : Int)) = 45 :: Lib.decDigits n := by unfold Lib.itoa; rw [if_pos (by omega)]; simp
theorem toN {d : Nat} (h : d < 10) : (UInt8.ofNat (48 + d)).toNat = 48 + d := by simp [UInt8.toNat_ofNat]; omega
end Go.Ev.Cc
end
