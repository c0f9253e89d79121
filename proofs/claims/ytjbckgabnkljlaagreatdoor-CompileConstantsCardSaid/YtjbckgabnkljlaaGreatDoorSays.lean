/- The call answers true at every number. -/
import Derived.Test.YtjbckgabnkljlaaGreatDoorZero
import Derived.Test.YtjbckgabnkljlaaGreatDoorRunA
import Derived.Test.YtjbckgabnkljlaaGreatDoorRunB
import Derived.Test.YtjbckgabnkljlaaGreatDoorRunC
import Derived.Test.YtjbckgabnkljlaaGreatDoorRunD
import Derived.ProofKit
import Derived.OpenShut
import Derived.LaidMore
import Derived.Lay
import Derived.Handed
import Derived.Stop.Joined
import Derived.Lib.LaidTab

section
set_option linter.unusedVariables false
set_option maxRecDepth 100000
namespace Go.Ev.Cc
open Go.Proofs
/-- what stands for any number, and for what MaxLen holds -/
def syN (n m : Int) : Sy := ⟨fun i => match i with
  | 0 => (.i64, n)
  | 200 => (.i64, m)
  | _ => (.i64, 0), fun _ => 0⟩
theorem vN_0 {n m : Int} {bk : Nat → Option Bk} : (Sig.mk bk (syN n m)).sym.val 0 = .int .i64 n := rfl
theorem vN_200 {n m : Int} {bk : Nat → Option Bk} : (Sig.mk bk (syN n m)).sym.val 200 = .int .i64 m := rfl
theorem fM_ok {σ : Sig} {m : Int} (h : σ.sym.val 200 = .int .i64 m) (hm : -9223372036854775808 ≤ m ∧ m < 9223372036854775808) : FactOK σ fM :=
  fCvi (k := .i64) (a := m) (Is.s h) (vs h (w64 hm.1 hm.2))
/-- the law's answer: true, and what was there stands -/
def Good1 (n : Int) (w : World) (G : Hp) (σ : Sig) : Prop :=
  Calls X.P 3 #[.int .i64 n] w fun e w' => e = .returned (.bool true) ∧ w'.os = w.os ∧ w'.tape = w.tape ∧ w'.output = w.output ∧ w.heap.size ≤ w'.heap.size ∧
    ∀ q, q < w.heap.size → ¬ Owned σ G q → w'.heap[q]? = w.heap[q]?
theorem finish {bk : Nat → Option Bk} {sy : Sy} {fc : List Fact} {a : AV} {n : Int} {w : World} {G : Hp} {h' : H} (hfc : ∀ e ∈ fc, FactOK ⟨bk, sy⟩ e) (hc : CallD (X.withF fc) 3 (.cons a .nil) h0 (.bool true) h')
    (ha : V ⟨bk, sy⟩ a (.int .i64 n)) (ho : Ok (X.withF []) ⟨bk, sy⟩ G w) (he : Ext G h0.get) (hbk : ∀ c, 16 ≤ c → bk c = none) : Good1 n w G ⟨bk, sy⟩ := by
  have ho' : Ok (X.withF fc) ⟨bk, sy⟩ G w :=
    ⟨fun c x hx => let ⟨B, h1, h2⟩ := ho.rel c x hx; ⟨B, h1, RelC.withF.2 (RelC.withF.1 h2)⟩, ho.sep, ⟨ho.sane.glob, hfc, ho.sane.gsz⟩⟩
  obtain ⟨_, c2⟩ := hc ⟨bk, sy⟩ G w #[.int .i64 n] (VL.cons ha VL.nil) ho' he (fun c hc _ => hbk c hc)
  refine callsIn_wide.1 (CallsIn.mono c2 fun e w' he' => ?_)
  cases e with
  | panicked c => exact he'.elim
  | outgrown => exact he'.elim
  | returned x =>
    obtain ⟨τ, hV, hp⟩ := he'
    have hV : x = .bool true := hV
    exact ⟨by rw [hV], hp.os, hp.tape, hp.output, hp.size, hp.frame⟩
theorem of_run {fc : List Fact} {l : AV} (hf : fM ∈ fc) (hr : run fc tb rt (px2 fc) 100000 3 l h0 yes = true) : ∃ h', CallD (X.withF fc) 3 l h0 (.bool true) h' := by
  obtain ⟨v, h', _, hv, hc⟩ := run_ok (X := X.withF fc) (tbokF _) (px2_ok hf) hr
  rw [isTrue_eq hv] at hc
  exact ⟨h', hc⟩
/-- CompileConstants, called with any number, answers true and turns nothing that was there -/
theorem says {bk : Nat → Option Bk} {n m : Int} {w : World} {G : Hp} (hm : -9223372036854775808 ≤ m ∧ m < 9223372036854775808)
    (ho : ∀ sy : Sy, sy.val 200 = .int .i64 m → Ok (X.withF []) ⟨bk, sy⟩ G w) (he : Ext G h0.get) (hbk : ∀ c, 16 ≤ c → bk c = none) : ∃ sy : Sy, Good1 n w G ⟨bk, sy⟩ := by
  rcases Int.lt_or_le n 0 with hn | hn
  · obtain ⟨h', hc⟩ := of_run (fc := faB) List.mem_cons_self run_B
    exact ⟨syN n m, finish (fcons (fM_ok vN_200 hm) (fcons (fLt (Is.s vN_0) Is.c (decide_eq_true (by omega))) fnil)) hc (show Value.int .i64 n = _ from vN_0.symm) (ho _ (vN_200 (bk := bk))) he hbk⟩
  · rcases Int.lt_or_le 9999 n with h9 | h9
    · obtain ⟨h', hc⟩ := of_run (fc := faA) List.mem_cons_self run_A
      exact ⟨syN n m, finish (fcons (fM_ok vN_200 hm) (fcons (fLt (Is.s vN_0) Is.c (decide_eq_false (by omega))) (fcons (fGt (Is.s vN_0) Is.c (decide_eq_true (by omega))) fnil))) hc (show Value.int .i64 n = _ from vN_0.symm) (ho _ (vN_200 (bk := bk))) he hbk⟩
    · obtain ⟨k, rfl⟩ : ∃ k : Nat, n = (k : Int) := ⟨n.toNat, by omega⟩
      rcases Nat.lt_or_ge 0 k with h0 | h0
      · rcases Nat.lt_or_ge k 10 with h1 | h1
        · obtain ⟨h', hc⟩ := of_run (fc := fa1) List.mem_cons_self run_1
          exact ⟨sy1 k m, finish (fa1_ok h0 h1 hm) hc (show Value.int .i64 (k : Int) = _ from v1_0.symm) (ho _ (v1_200 (bk := bk))) he hbk⟩
        · rcases Nat.lt_or_ge k 100 with h2 | h2
          · obtain ⟨h', hc⟩ := of_run (fc := fa2) List.mem_cons_self run_2
            exact ⟨sy2 k m, finish (fa2_ok h1 h2 hm) hc (show Value.int .i64 (k : Int) = _ from v2_0.symm) (ho _ (v2_200 (bk := bk))) he hbk⟩
          · rcases Nat.lt_or_ge k 1000 with h3 | h3
            · obtain ⟨h', hc⟩ := of_run (fc := fa3) List.mem_cons_self run_3
              exact ⟨sy3 k m, finish (fa3_ok h2 h3 hm) hc (show Value.int .i64 (k : Int) = _ from v3_0.symm) (ho _ (v3_200 (bk := bk))) he hbk⟩
            · obtain ⟨h', hc⟩ := of_run (fc := fa4) List.mem_cons_self run_4
              exact ⟨sy4 k m, finish (fa4_ok h3 (by omega) hm) hc (show Value.int .i64 (k : Int) = _ from v4_0.symm) (ho _ (v4_200 (bk := bk))) he hbk⟩
      · obtain rfl : k = 0 := by omega
        obtain ⟨h', hc⟩ := of_run (fc := [fM]) List.mem_cons_self run_0
        exact ⟨syN 0 m, finish (fcons (fM_ok vN_200 hm) fnil) hc rfl (ho _ (vN_200 (bk := bk))) he hbk⟩

/-! ### the world in which the law is called -/
def ascL : List Int := [0, 0, 0, 0, 0, 0, 0, 0, 0, 1, 1, 1, 1, 1] ++ List.replicate 18 0 ++ [1] ++ List.replicate 223 0
theorem VL.ints_mk {σ : Sig} {k : IntKind} : ∀ (l : List Int), VL σ (ints k l) (l.map fun z => Value.int k z)
  | [] => rfl
  | z :: l => VL.cons rfl (VL.ints_mk l)
theorem relInts {σ : Sig} {w : World} {g n : Nat} {k : IntKind} {l : List Int} {q : TypeId} {fr : Nat × Nat} (h : w.heap[g]? = some (.cells (l.map fun z => Value.int k z).toArray q fr)) (hn : l.length = n) (hb : n ≤ 4096) : RelC (X.withF []) σ w ⟨g, 0, n⟩ (.cells (ints k l) 0 4096 false true) :=
  ⟨_, fr, ⟨q, h, fun h => absurd rfl h⟩, by simp [hn], ⟨_, VL.ints_mk l, by simp [hn], fun i v hv => by simpa using hv⟩, fun i h1 h2 => by simp only at h2; omega, fun h => (by cases h), fun _ => rfl⟩
def bkC : Nat → Option Bk := fun g => if g < 11 then some ⟨g, 0, gn g⟩ else none
theorem okWorld {w : World} {m : Int} {q0 q1 q3 : TypeId} {f0 f1 f3 : Nat × Nat} (h0' : w.heap[0]? = some (.cells (ascL.map fun z => Value.int .u8 z).toArray q0 f0)) (h1' : w.heap[1]? = some (.cells #[.int .i64 m] q1 f1)) (h3' : w.heap[3]? = some (.cells (powL.map fun z => Value.int .u64 z).toArray q3 f3))
    (sy : Sy) (hsy : sy.val 200 = .int .i64 m) : Ok (X.withF []) ⟨bkC, sy⟩ h0.get w := by
  have e0 : rowAsc = ints .u8 ascL := by rfl
  have p0 : RelB (X.withF []) ⟨bkC, sy⟩ w 0 (.cells rowAsc 0 4096 false true) := ⟨⟨0, 0, 256⟩, rfl, by rw [e0]; exact relInts h0' (by decide) (by decide)⟩
  have p3 : RelB (X.withF []) ⟨bkC, sy⟩ w 3 (.cells (ints .u64 powL) 0 4096 false true) := ⟨⟨3, 0, 20⟩, rfl, relInts h3' (by decide) (by decide)⟩
  have p1 : RelB (X.withF []) ⟨bkC, sy⟩ w 1 (.cells (.cons (.sym 200) .nil) 0 4096 false true) :=
    ⟨⟨1, 0, 1⟩, rfl, _, f1, ⟨q1, h1', fun h => absurd rfl h⟩, rfl, ⟨[.int .i64 m], VL.cons (show Value.int .i64 m = sy.val 200 from hsy.symm) VL.nil, by simp, fun i v hv => by simpa using hv⟩, fun i h1 h2 => by simp only at h2; omega, fun h => (by cases h), fun _ => rfl⟩
  have all : T.AllP (fun b x => RelB (X.withF []) ⟨bkC, sy⟩ w b x.c) 0 1 h0.t :=
    T.AllP.n (fun x hx => by cases hx; exact p0) (T.AllP.n (fun x hx => by cases hx; exact p1) (T.AllP.n (fun x hx => by cases hx; exact p3) .e .e) .e) .e
  have ids : ∀ b B, bkC b = some B → B.r = b := fun b B hB => by
    unfold bkC at hB
    split at hB
    · cases hB; rfl
    · cases hB
  refine ⟨fun b x hx => all.root hx, fun b b' B B' x x' hne _ _ hB hB' => by rw [ids b B hB, ids b' B' hB']; exact hne, ⟨fun g hg => ⟨⟨g, 0, gn g⟩, if_pos hg, rfl, rfl⟩, fun e he => (by cases he), fun g hg B hB => ?_⟩⟩
  have hg : g < 11 := hg
  have hB : bkC g = some B := hB
  unfold bkC at hB
  rw [if_pos hg] at hB
  cases hB; rfl
/-- CompileConstants answers true in any world in which the three variables are as Go lays them; all that was there stands -/
theorem answers {w : World} {n m : Int} {q0 q1 q3 : TypeId} {f0 f1 f3 : Nat × Nat} (hm : -9223372036854775808 ≤ m ∧ m < 9223372036854775808) (h0' : w.heap[0]? = some (.cells (ascL.map fun z => Value.int .u8 z).toArray q0 f0)) (h1' : w.heap[1]? = some (.cells #[.int .i64 m] q1 f1)) (h3' : w.heap[3]? = some (.cells (powL.map fun z => Value.int .u64 z).toArray q3 f3)) :
    Calls Tryz.prog 3 #[.int .i64 n] w fun e w' => e = .returned (.bool true) ∧ w'.os = w.os ∧ w'.output = w.output ∧ w.heap.size ≤ w'.heap.size ∧ ∀ q, q < w.heap.size → w'.heap[q]? = w.heap[q]? := by
  obtain ⟨sy, hg⟩ := says (bk := bkC) (n := n) (w := w) (G := h0.get) hm (fun sy hsy => okWorld h0' h1' h3' sy hsy) (Ext.refl _) (fun c hc => if_neg (by omega))
  refine Calls.mono hg fun e w' ⟨h1, h2, _, h4, h5, h6⟩ => ⟨h1, h2, h4, h5, fun q hq => h6 q hq ?_⟩
  rintro ⟨b, x, B, hx, hxr, _⟩
  have hr : roT h0.next 0 1 h0.t = true := by kernel_rfl
  rw [(roH hr).1 b x hx] at hxr
  cases hxr
end Go.Ev.Cc
end

section
set_option linter.unusedVariables false
set_option maxRecDepth 100000
namespace Go.Ev.Cc
open Go.Proofs
/-! ### from the row's condition to the variables' cells -/
theorem laidVars_mem {P : Program} {w : World} {name : String} {d : DataW Unit} : ∀ {l : List (String × DataW Unit)} {ps : List MemPlace}, DataW.LaidVars P w l ps → (name, d) ∈ l →
    ∃ g t cs fuel p, P.globalNamed name = some g ∧ (P.globals[g]?).map (·.type) = some t ∧ w.var? P name = some cs ∧ DataW.trod (fun _ => ()) P w 0 (fun _ => true) false fuel t cs.toList = some (d, p)
  | [], _, _, hm => by cases hm
  | (n, e) :: l, ps, ⟨g, t, cs, fuel, p, q, h1, h2, h3, h4, h5, _⟩, hm => by
    rcases List.mem_cons.1 hm with hm | hm
    · cases hm; exact ⟨g, t, cs, fuel, p, h1, h2, h3, h4⟩
    · exact laidVars_mem h5 hm
theorem tab_heap {P : Program} {W : World} {name : String} {k : IntKind} {zs : List Int} {l : List (String × DataW Unit)} {g : Nat} {t e : TypeId} {n : Nat} (h : laidMet P l W) (hm : (name, Lib.tabData k zs) ∈ l)
    (hg : P.globalNamed name = some g) (hty : (P.globals[g]?).map (·.type) = some t) (ht : P.underlying t = some (.array n e)) (he : P.underlying e = some (.int k)) (hce : P.cellsOf e = 1) (hct : P.cellsOf t = n) :
    ∃ q fr, W.heap[g]? = some (.cells (zs.map fun z => Value.int k z).toArray q fr) := by
  obtain ⟨ps, hv, _, _⟩ := h
  obtain ⟨g', t', cs, fuel, p, h1, h2, h3, h4⟩ := laidVars_mem hv hm
  rw [hg] at h1; cases h1
  rw [hty] at h2; cases h2
  have h5 := Lib.cells_of_tab ht he hce hct h4
  unfold World.var? at h3
  rw [hg, Option.bind_some] at h3
  split at h3
  · rename_i c q fr hh
    cases h3
    refine ⟨q, fr, ?_⟩
    rw [hh, ← h5]
  · cases h3
theorem kept_of {w w' : World} {may : MemPlace → Prop} (h1 : w'.os = w.os) (h2 : w'.output = w.output) (h : ∀ q, q < w.heap.size → w'.heap[q]? = w.heap[q]?) : w.keptBut w' may := by
  refine ⟨h1, h2, fun i hi => ?_⟩
  rw [h i hi]
  cases w.heap[i]? with
  | none => rfl
  | some o =>
    cases o with
    | cells c t fr => exact ⟨rfl, rfl, rfl, fun _ _ => rfl⟩
    | map es cl => exact .inr ⟨rfl, rfl⟩
    | _ => rfl
variable {H : Type} {enc : TypeId × Value → H}
/-- as the kit's wraps: the world's shape and what is laid are both handed on -/
theorem wrap {a : Assume} {C : Checked} {os : Os} {f : FuncId} {fn : Func} {s : ChangeSpec} {conds : List PathCond} {apart fresh handsOn again : Bool} {Z : World → Array Value → Prop}
    (hZ : ∀ (w w' : World) (args : Array Value), w.heap = w'.heap → Z w args → Z w' args)
    (own : ownKnob C.prog.godebug = none) (started : os.Started) (noInit : C.prog.inits.idxOf? f = none) (hfn : C.prog.funcs[f]? = some fn)
    (witness : ∃ (w : World) (tape : Tape) (i : Input), w.os = os ∧ (w.forCall tape i).Shaped C.prog ∧ i.vars = [] ∧ Input.okWide C.prog (w.forCall tape i) .any w.heap.size f i ∧
      ((s.pre enc C.prog fn conds apart (w.forCall tape i).memory i.args ∧ Z (w.forCall tape i).memory i.args) ∧ sizedMet enc C.prog fn (OpenSpec.ofChange s) apart (w.forCall tape i).memory i.args) ∧ a.holds C.prog (lone (Frame.enter C.prog f i.args .normal) [] (w.forCall tape i)))
    (contract : ∀ (W : World) (base : Nat) (args : Array Value) (ds gs : List (DataW H)) (before : List MemPlace),
      (∀ (j : Nat) t v, fn.params[j]? = some t → args[j]? = some v → Value.okWide C.prog W .any base t v) →
      DataW.Whole enc C.prog fn.params.toList s.vars apart W args.toList ds gs before → W.ShapedOpen C.prog → Z W args →
      Calls C.prog f args W fun e W' => ∃ v, e = .returned v ∧ s.post enc C.prog fn apart fresh handsOn again W args v W') :
    ReturnsInHanded a C os f .any (fun w args => (s.pre enc C.prog fn conds apart w args ∧ Z w args) ∧ sizedMet enc C.prog fn (OpenSpec.ofChange s) apart w args) (s.post enc C.prog fn apart fresh handsOn again) := by
  refine returnsInHanded_of_calls own started noInit witness ?_
  intro w tape i _ hsh _ hok hpre hholds
  obtain ⟨_, _, _, fn', hfn', _, _, _, _, hval⟩ := hok
  have e : fn' = fn := Option.some.inj (hfn'.symm.trans hfn)
  subst e
  obtain ⟨⟨⟨ds, gs, before, hw, hc⟩, hx⟩, hz⟩ := hpre
  have hw' := DataW.Whole.of_heap (w' := w.forCall tape i) (by rfl) hw
  refine (contract (w.forCall tape i) w.heap.size i.args ds gs before hval hw' hsh (hZ _ _ _ (by rfl) hx)).mono fun e W' ⟨v, he, hp⟩ => ?_
  subst he
  exact ChangeSpec.post_blind hp
/-- MaxLen holds some number -/
theorem maxLen {W : World} (h : W.ShapedOpen Tryz.prog) : ∃ m q fr, W.heap[1]? = some (.cells #[.int .i64 m] q fr) ∧ -9223372036854775808 ≤ m ∧ m < 9223372036854775808 := by
  have hs11 : Tryz.prog.globals.size = 11 := by kernel_rfl
  obtain ⟨cs, hh, hs, hr⟩ := h.1 1 #[.int .i64 0] 3 (by rw [hs11]; decide) (by kernel_rfl)
  obtain ⟨ts, hts, _, hall⟩ := hr (by kernel_rfl)
  rw [show Tryz.prog.cellTypes Tryz.prog.depth 3 = some [3] by kernel_rfl] at hts
  cases hts
  have hs : cs.size = 1 := hs
  obtain ⟨u, hu', hok⟩ := hall 0 cs[0] (by simp [hs])
  have hu : u = 3 := by simpa using hu'.symm
  subst hu
  unfold Cell.ok at hok
  rw [Tryz.underlying3] at hok
  have hcs : cs = #[cs[0]] := by
    apply Array.ext
    · simp [hs]
    · intro i h1 h2
      have : i = 0 := by omega
      subst this; simp
  cases hv : cs[0] <;> rw [hv] at hok <;> simp at hok
  case int k' n =>
    obtain ⟨rfl, h1, h2⟩ := hok
    refine ⟨n, 3, (0, 0), ?_, ?_, ?_⟩
    · rw [hh, hcs, hv]
    · have : IntKind.i64.min = -9223372036854775808 := by decide
      rw [this] at h1; exact h1
    · have : IntKind.i64.max = 9223372036854775807 := by decide
      rw [this] at h2; omega
end Go.Ev.Cc
end
